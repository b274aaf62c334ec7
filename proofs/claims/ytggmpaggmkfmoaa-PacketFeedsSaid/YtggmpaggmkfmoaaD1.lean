/- The book of lists, of bytes: what is taken in, what stands. -/
import Derived.Test.YtggmpaggmkfmoaaTypes
import Derived.Test.YtggmpaggmkfmoaaEngX
import Derived.Test.YtggmpaggmkfmoaaRows
set_option maxRecDepth 100000
namespace Go.Proofs.Ytggmpaggmkfmoaa
open Go Go.Eng

/-- a row: its place among the rows, its slice -/
structure Rw where
  k : Nat
  a : Option Addr
  n : Nat
  c : Nat
def slv (r : Rw) : Value := .slice r.a r.n r.c
theorem slv_at (rs : List Rw) (i : Nat) (r : Rw) (h : rs[i]? = some r) : (rs.map slv)[i]? = some (.slice r.a r.n r.c) := by simp [h, slv]
theorem drop_at {α : Type} (l : List α) (i : Nat) (x : α) (h : l[i]? = some x) : l.drop i = x :: l.drop (i + 1) := by
  obtain ⟨hi, rfl⟩ := List.getElem?_eq_some_iff.1 h
  exact List.drop_eq_getElem_cons hi
theorem take_at {α : Type} (l : List α) (i : Nat) (x : α) (h : l[i]? = some x) : l.take (i + 1) = l.take i ++ [x] := by rw [List.take_add_one, h]; rfl
theorem slv_len (rs : List Rw) : (rs.map slv).length = rs.length := by simp
theorem slv_snoc (rs : List Rw) (a : Option Addr) (k n c : Nat) : rs.map slv ++ [.slice a n c] = (rs ++ [(⟨k, a, n, c⟩ : Rw)]).map slv := by simp [slv]
abbrev nilS : Value := .slice none 0 0
/-- the book's cells -/
def bkC (v0 v1 v2 v3 : Value) (n : Int) : List Value :=
  [v0, v1, v2, v3, nilS, nilS, nilS, nilS, nilS, nilS, nilS, nilS, nilS, nilS, nilS, nilS, nilS, nilS, nilS, nilS, nilS, nilS, nilS, nilS, nilS, nilS, .int .i64 n]
@[simp] theorem bkC_len (v0 v1 v2 v3 : Value) (n : Int) : (bkC v0 v1 v2 v3 n).length = 27 := rfl
theorem full_fn (b : Nat) (v0 v1 v2 v3 : Value) (n : Int) :
    FnS Try.prog 46 [.pointer (some ⟨b, 0, none⟩)] (fun h => ∃ k, pts b 32 (bkC v0 v1 v2 v3 n) k ∧ Le k h) [] (fun v H => v = .bool (decide (200000 < n)) ∧ H = []) := by
  refine fn_body Try.func46 rfl Try.ntmps46 rfl ?_
  intro F hF
  refine g_sr ?_
  refine Li As ?_
  refine g_ne ?_
  refine g_sr ?_
  refine Li Mv ?_
  refine Li Nc ?_
  refine Li (Fa T.fld_32_26) ?_
  refine Lp (oL T.sc_3 ?_)
  refine Li Cm ?_
  refine Li As ?_
  refine g_ne ?_
  refine g_ret ?_
  refine Rt [] Try.results46 ?_
  exact ⟨rfl, rfl⟩
/-- a list that was taken in: its slice, its copy's, what they hold -/
structure Bi where
  r : Rw
  w : Rw
  L : List UInt8
def bir (x : Bi) : Value := slv x.r
def biw (x : Bi) : Value := slv x.w
def Qb (x : Bi) : HProp := fun h => (x.r.n = x.L.length ∧ x.w.n = x.L.length) ∧ stars [own x.r.a x.r.c 5 1 (bcells x.L), own x.w.a x.w.c 5 1 (bcells x.L)] h
/-- the book, and what it keeps -/
def bkH (b : Nat) (ai : Option Addr) (ci : Nat) (aw : Option Addr) (cw : Nat) (xs : List Bi) (n : Int) : List HProp :=
  [pts b 32 (bkC (.slice ai xs.length ci) (.slice aw xs.length cw) nilS nilS n), own ai ci 37 1 (xs.map bir), own aw cw 37 1 (xs.map biw), stars (xs.map Qb)]
structure BkOk (xs : List Bi) (ci cw : Nat) (n : Int) : Prop where
  c1 : xs.length ≤ ci
  c2 : xs.length ≤ cw
  idx : ∀ (i : Nat) (x : Bi), xs[i]? = some x → x.r.k = i
  n0 : 0 ≤ n
  ln : (xs.length : Int) ≤ n
  top : ∀ x ∈ xs, x.L.length ≤ 20000
theorem bir_len (xs : List Bi) : (xs.map bir).length = xs.length := by simp
theorem biw_len (xs : List Bi) : (xs.map biw).length = xs.length := by simp
theorem Qb_push {xs : List Bi} {R : List HProp} (x : Bi) (h1 : x.r.n = x.L.length) (h2 : x.w.n = x.L.length) : ∀ h, starL (own x.r.a x.r.c 5 1 (bcells x.L) :: own x.w.a x.w.c 5 1 (bcells x.L) :: stars (xs.map Qb) :: R) h → starL (stars ((xs ++ [x]).map Qb) :: R) h := fun h s => by
  rw [List.map_append]
  exact stars_push (A := Qb x) (starL_cons_mono (A := stars [own x.r.a x.r.c 5 1 (bcells x.L), own x.w.a x.w.c 5 1 (bcells x.L)]) (fun _ p => ⟨⟨h1, h2⟩, p⟩) (stars_of (L := [_, _]) s))
theorem BkOk.push {xs : List Bi} {ci cw : Nat} {n : Int} (ok : BkOk xs ci cw n) (x : Bi) (hk : x.r.k = xs.length) (hL : x.L.length ≤ 20000) {c4 c6 : Nat} (h4 : xs.length + 1 ≤ c4) (h6 : xs.length + 1 ≤ c6) : BkOk (xs ++ [x]) c4 c6 (n + x.L.length + 1) := by
  obtain ⟨c1, c2, idx, n0, ln, top⟩ := ok
  refine ⟨by simp; omega, by simp; omega, fun i y h => ?_, by omega, by simp; omega, fun y hy => ?_⟩
  · by_cases hi : i < xs.length
    · rw [List.getElem?_append_left hi] at h; exact idx i y h
    · rw [List.getElem?_append_right (by omega)] at h
      have hi2 : i - xs.length < 1 := by
        have := (List.getElem?_eq_some_iff.1 h).1
        simpa using this
      rw [show i - xs.length = 0 from by omega] at h
      simp at h
      rw [← h, hk]; omega
  · rcases List.mem_append.1 hy with hy | hy
    · exact top y hy
    · simp at hy; rw [hy]; exact hL
set_option maxHeartbeats 2000000 in
theorem bBytes_fn (b : Nat) (ai : Option Addr) (ci : Nat) (aw : Option Addr) (cw : Nat) (xs : List Bi) (n : Int) (ok : BkOk xs ci cw n) (hn : n ≤ 300000) (a : Option Addr) (c : Nat) (L : List UInt8) (hL : L.length ≤ 20000) (m : Nat) (hm : m = L.length) :
    FnS Try.prog 19 [.pointer (some ⟨b, 0, none⟩), .slice a m c] (fun _ => True) (own a c 5 1 (bcells L) :: bkH b ai ci aw cw xs n)
      (fun v H => v = .tuple #[] ∧ ∃ ai' ci' aw' cw' xs' n', H = bkH b ai' ci' aw' cw' xs' n' ∧ BkOk xs' ci' cw' n' ∧ n' ≤ 300000) := by
  subst hm
  have hil := bcells_length L
  have hbl := bir_len xs
  have hwl := biw_len xs
  obtain ⟨c1, c2, idx, n0, ln, top⟩ := ok
  refine fn_body Try.func19 rfl Try.ntmps19 rfl ?_
  intro F hF

  refine g_heap (H' := [pts b 32 (bkC (.slice ai xs.length ci) (.slice aw xs.length cw) nilS nilS n), own ai ci 37 1 (xs.map bir), own aw cw 37 1 (xs.map biw), stars (xs.map Qb), own a c 5 1 (bcells L)]) (ents (.cons (.there .here) (.cons (.there .here) (.cons (.there .here) (.cons (.there .here) (.cons .here .nil)))))) ?_
  refine g_seq ?_
  refine g_sr ?_
  refine Li Mv ?_
  refine Lp (oC T.fn_46 rfl rfl (full_fn b _ _ _ _ n) .nil (fun _ _ hin => hin.nth 0 rfl) ?_)
  rintro v H' ⟨rfl, rfl⟩
  try simp only [nap, cap]
  refine g_ne ?_
  refine g_cond rfl ?_ ?_
  · intro hf
    replace hf := nrm hf
    refine g_ret ?_
    refine e_then_ret ?_
    refine Rt0 [pts b 32 (bkC (.slice ai xs.length ci) (.slice aw xs.length cw) nilS nilS n), own ai ci 37 1 (xs.map bir), own aw cw 37 1 (xs.map biw), stars (xs.map Qb)] Try.results19 ?_
    exact ⟨rfl, ai, ci, aw, cw, xs, n, rfl, ⟨c1, c2, idx, n0, ln, top⟩, hn⟩
  · intro hf
    replace hf := nrm hf
    refine g_skip ?_
    refine e_then ?_
    refine g_sr ?_
    refine Li Mv ?_
    refine Li Mv ?_
    refine Li Nc ?_
    refine Li (Fa T.fld_32_26) ?_
    refine Lp (oL T.sc_3 ?_)
    refine Li Mv ?_
    refine Li (Ln T.sl_37) ?_
    refine Li Im ?_
    refine Li Im ?_
    refine Li Nc ?_
    refine Li (Fa T.fld_32_26) ?_
    refine Lp (oS T.sc_3 ?_)
    refine g_ne ?_
    refine g_sr ?_
    refine Li Mv ?_
    refine Li Mv ?_
    refine Li Nc ?_
    refine Li (Fa T.fld_32_0) ?_
    refine Lp (oL T.sc_24 ?_)
    refine Li Mv ?_
    refine Lp (oT T.ap_24 fun b1 => ?_)

    refine Hh (H' := [pts b1 37 [.slice a L.length c], own ai ci 37 1 (xs.map bir), pts b 32 (bkC (.slice ai xs.length ci) (.slice aw xs.length cw) nilS nilS (n + L.length + 1)), own aw cw 37 1 (xs.map biw), stars (xs.map Qb), own a c 5 1 (bcells L)]) ?_
    refine Lp (op_append_lit T.ap_24 T.ni_24 rfl rfl rfl rfl .here (by omega) (rfl) (by simp [Value.oneCell']) (by first | omega | (simp; omega)) (by first | omega | (simp; omega)) rfl fun a4 c4 hc4 => ?_)
    refine Li Nc ?_
    refine Li (Fa T.fld_32_0) ?_
    refine Lp (oS T.sc_24 ?_)
    refine g_ne ?_

    refine Hh (H' := [pts b 32 (bkC (.slice a4 (xs.length + 1) c4) (.slice aw xs.length cw) nilS nilS (n + L.length + 1)), own aw cw 37 1 (xs.map biw), own a c 5 1 (bcells L), own a4 c4 37 1 (xs.map bir ++ [.slice a L.length c]), stars (xs.map Qb)]) ?_
    refine g_drw T.mix .nil fun F1 le1 hin1 back1 => ?_
    refine Dt 0 rfl Mv ?_
    refine Dt 1 rfl Mv ?_
    refine Dt 2 rfl Nc ?_
    refine Dt 3 rfl (Fa T.fld_32_1) ?_
    refine Dt 6 rfl Mv ?_
    refine D2 4 5 ?_ ?_
    · refine Do rfl (oL T.sc_24 ?_)
      refine gh_next ?_
      refine Dn 5 ?_
      refine Do rfl (oT T.ap_37 fun b2 => ?_)
      refine gh_next ?_
      refine g_heap (fun _ s => starL_cons_mono (fun _ p => own_of_pts p 0 1 (by simp) (by simp [maxLen])) s) ?_
      refine Dn 7 ?_
      refine Do rfl (op_append T.ap_37 T.ni_37 rfl rfl rfl rfl .here (rfl) (src_slice (m := L.length) (by rw [hil, Nat.mul_one]) fun h le hin => own_in (hin.nth 3 rfl)) (bcells_one) (by omega) (by omega) rfl fun a5 c5 hc5 => ?_)
      refine gh_next ?_
      refine Dn 8 ?_
      refine Do rfl (oT T.ap_24 fun b3 => ?_)
      refine gh_next ?_
      refine Hh (H' := [pts b3 37 [.slice a5 (0 + L.length) c5], own aw cw 37 1 (xs.map biw), pts b 32 (bkC (.slice a4 (xs.length + 1) c4) (.slice aw xs.length cw) nilS nilS (n + L.length + 1)), own a5 c5 5 1 ([] ++ bcells L), own a c 5 1 (bcells L), own a4 c4 37 1 (xs.map bir ++ [.slice a L.length c]), stars (xs.map Qb)]) ?_
      refine Dn 9 ?_
      refine Do rfl (op_append_lit T.ap_24 T.ni_24 rfl rfl rfl rfl .here (by omega) (rfl) (by simp [Value.oneCell']) (by omega) (by omega) rfl fun a6 c6 hc6 => ?_)
      rw [Nat.zero_add] at *
      refine gh_next ?_
      refine Dt 10 rfl Nc ?_
      refine Dt 11 rfl (Fa T.fld_32_1) ?_
      refine Dn 12 ?_
      refine Do rfl (oS T.sc_24 ?_)
      refine gh_next ?_
      refine gh_done (by kernel_rfl) back1 ?_
      refine Hh (H' := [own a c 5 1 (bcells L), own a5 c5 5 1 (bcells L), stars (xs.map Qb), pts b 32 (bkC (.slice a4 (xs.length + 1) c4) (.slice a6 (xs.length + 1) c6) nilS nilS (n + L.length + 1)), own a4 c4 37 1 (xs.map bir ++ [.slice a L.length c]), own a6 c6 37 1 (xs.map biw ++ [.slice a5 L.length c5])]) ?_
      refine g_heap (Qb_push ⟨⟨xs.length, a, L.length, c⟩, ⟨xs.length, a5, L.length, c5⟩, L⟩ rfl rfl) ?_
      generalize hX : (⟨⟨xs.length, a, L.length, c⟩, ⟨xs.length, a5, L.length, c5⟩, L⟩ : Bi) = X
      have hX1 : xs.map bir ++ [.slice a L.length c] = (xs ++ [X]).map bir := by rw [← hX]; simp [bir, slv]
      have hX2 : xs.map biw ++ [.slice a5 L.length c5] = (xs ++ [X]).map biw := by rw [← hX]; simp [biw, slv]
      have hle : (xs ++ [X]).length = xs.length + 1 := by simp
      rw [hX1, hX2, ← hle]
      refine Rn0 [pts b 32 (bkC (.slice a4 (xs ++ [X]).length c4) (.slice a6 (xs ++ [X]).length c6) nilS nilS (n + L.length + 1)), own a4 c4 37 1 ((xs ++ [X]).map bir), own a6 c6 37 1 ((xs ++ [X]).map biw), stars ((xs ++ [X]).map Qb)] Try.results19 ?_
      exact ⟨rfl, a4, c4, a6, c6, xs ++ [X], n + L.length + 1, rfl, by have := BkOk.push ⟨c1, c2, idx, n0, ln, top⟩ X (by rw [← hX]) (by rw [← hX]; exact hL) hc4 hc6; rw [← hX] at this ⊢; exact this, by omega⟩
    · refine Do rfl (oT T.ap_37 fun b4 => ?_)
      refine gh_next ?_
      refine D2 4 7 ?_ ?_
      · refine Do rfl (oL T.sc_24 ?_)
        refine gh_next ?_
        refine g_heap (fun _ s => starL_cons_mono (fun _ p => own_of_pts p 0 1 (by simp) (by simp [maxLen])) s) ?_
        refine Dn 7 ?_
        refine Do rfl (op_append T.ap_37 T.ni_37 rfl rfl rfl rfl .here (rfl) (src_slice (m := L.length) (by rw [hil, Nat.mul_one]) fun h le hin => own_in (hin.nth 3 rfl)) (bcells_one) (by omega) (by omega) rfl fun a5 c5 hc5 => ?_)
        refine gh_next ?_
        refine Dn 8 ?_
        refine Do rfl (oT T.ap_24 fun b5 => ?_)
        refine gh_next ?_
        refine Hh (H' := [pts b5 37 [.slice a5 (0 + L.length) c5], own aw cw 37 1 (xs.map biw), pts b 32 (bkC (.slice a4 (xs.length + 1) c4) (.slice aw xs.length cw) nilS nilS (n + L.length + 1)), own a5 c5 5 1 ([] ++ bcells L), own a c 5 1 (bcells L), own a4 c4 37 1 (xs.map bir ++ [.slice a L.length c]), stars (xs.map Qb)]) ?_
        refine Dn 9 ?_
        refine Do rfl (op_append_lit T.ap_24 T.ni_24 rfl rfl rfl rfl .here (by omega) (rfl) (by simp [Value.oneCell']) (by omega) (by omega) rfl fun a6 c6 hc6 => ?_)
        rw [Nat.zero_add] at *
        refine gh_next ?_
        refine Dt 10 rfl Nc ?_
        refine Dt 11 rfl (Fa T.fld_32_1) ?_
        refine Dn 12 ?_
        refine Do rfl (oS T.sc_24 ?_)
        refine gh_next ?_
        refine gh_done (by kernel_rfl) back1 ?_
        refine Hh (H' := [own a c 5 1 (bcells L), own a5 c5 5 1 (bcells L), stars (xs.map Qb), pts b 32 (bkC (.slice a4 (xs.length + 1) c4) (.slice a6 (xs.length + 1) c6) nilS nilS (n + L.length + 1)), own a4 c4 37 1 (xs.map bir ++ [.slice a L.length c]), own a6 c6 37 1 (xs.map biw ++ [.slice a5 L.length c5])]) ?_
        refine g_heap (Qb_push ⟨⟨xs.length, a, L.length, c⟩, ⟨xs.length, a5, L.length, c5⟩, L⟩ rfl rfl) ?_
        generalize hX : (⟨⟨xs.length, a, L.length, c⟩, ⟨xs.length, a5, L.length, c5⟩, L⟩ : Bi) = X
        have hX1 : xs.map bir ++ [.slice a L.length c] = (xs ++ [X]).map bir := by rw [← hX]; simp [bir, slv]
        have hX2 : xs.map biw ++ [.slice a5 L.length c5] = (xs ++ [X]).map biw := by rw [← hX]; simp [biw, slv]
        have hle : (xs ++ [X]).length = xs.length + 1 := by simp
        rw [hX1, hX2, ← hle]
        refine Rn0 [pts b 32 (bkC (.slice a4 (xs ++ [X]).length c4) (.slice a6 (xs ++ [X]).length c6) nilS nilS (n + L.length + 1)), own a4 c4 37 1 ((xs ++ [X]).map bir), own a6 c6 37 1 ((xs ++ [X]).map biw), stars ((xs ++ [X]).map Qb)] Try.results19 ?_
        exact ⟨rfl, a4, c4, a6, c6, xs ++ [X], n + L.length + 1, rfl, by have := BkOk.push ⟨c1, c2, idx, n0, ln, top⟩ X (by rw [← hX]) (by rw [← hX]; exact hL) hc4 hc6; rw [← hX] at this ⊢; exact this, by omega⟩
      · refine g_heap (fun _ s => starL_cons_mono (fun _ p => own_of_pts p 0 1 (by simp) (by simp [maxLen])) s) ?_
        refine Do rfl (op_append T.ap_37 T.ni_37 rfl rfl rfl rfl .here (rfl) (src_slice (m := L.length) (by rw [hil, Nat.mul_one]) fun h le hin => own_in (hin.nth 3 rfl)) (bcells_one) (by omega) (by omega) rfl fun a5 c5 hc5 => ?_)
        refine gh_next ?_
        refine D2 4 8 ?_ ?_
        · refine Do rfl (oL T.sc_24 ?_)
          refine gh_next ?_
          refine Dn 8 ?_
          refine Do rfl (oT T.ap_24 fun b6 => ?_)
          refine gh_next ?_
          refine Hh (H' := [pts b6 37 [.slice a5 (0 + L.length) c5], own aw cw 37 1 (xs.map biw), pts b 32 (bkC (.slice a4 (xs.length + 1) c4) (.slice aw xs.length cw) nilS nilS (n + L.length + 1)), own a5 c5 5 1 ([] ++ bcells L), own a c 5 1 (bcells L), own a4 c4 37 1 (xs.map bir ++ [.slice a L.length c]), stars (xs.map Qb)]) ?_
          refine Dn 9 ?_
          refine Do rfl (op_append_lit T.ap_24 T.ni_24 rfl rfl rfl rfl .here (by omega) (rfl) (by simp [Value.oneCell']) (by omega) (by omega) rfl fun a6 c6 hc6 => ?_)
          rw [Nat.zero_add] at *
          refine gh_next ?_
          refine Dt 10 rfl Nc ?_
          refine Dt 11 rfl (Fa T.fld_32_1) ?_
          refine Dn 12 ?_
          refine Do rfl (oS T.sc_24 ?_)
          refine gh_next ?_
          refine gh_done (by kernel_rfl) back1 ?_
          refine Hh (H' := [own a c 5 1 (bcells L), own a5 c5 5 1 (bcells L), stars (xs.map Qb), pts b 32 (bkC (.slice a4 (xs.length + 1) c4) (.slice a6 (xs.length + 1) c6) nilS nilS (n + L.length + 1)), own a4 c4 37 1 (xs.map bir ++ [.slice a L.length c]), own a6 c6 37 1 (xs.map biw ++ [.slice a5 L.length c5])]) ?_
          refine g_heap (Qb_push ⟨⟨xs.length, a, L.length, c⟩, ⟨xs.length, a5, L.length, c5⟩, L⟩ rfl rfl) ?_
          generalize hX : (⟨⟨xs.length, a, L.length, c⟩, ⟨xs.length, a5, L.length, c5⟩, L⟩ : Bi) = X
          have hX1 : xs.map bir ++ [.slice a L.length c] = (xs ++ [X]).map bir := by rw [← hX]; simp [bir, slv]
          have hX2 : xs.map biw ++ [.slice a5 L.length c5] = (xs ++ [X]).map biw := by rw [← hX]; simp [biw, slv]
          have hle : (xs ++ [X]).length = xs.length + 1 := by simp
          rw [hX1, hX2, ← hle]
          refine Rn0 [pts b 32 (bkC (.slice a4 (xs ++ [X]).length c4) (.slice a6 (xs ++ [X]).length c6) nilS nilS (n + L.length + 1)), own a4 c4 37 1 ((xs ++ [X]).map bir), own a6 c6 37 1 ((xs ++ [X]).map biw), stars ((xs ++ [X]).map Qb)] Try.results19 ?_
          exact ⟨rfl, a4, c4, a6, c6, xs ++ [X], n + L.length + 1, rfl, by have := BkOk.push ⟨c1, c2, idx, n0, ln, top⟩ X (by rw [← hX]) (by rw [← hX]; exact hL) hc4 hc6; rw [← hX] at this ⊢; exact this, by omega⟩
        · refine Do rfl (oT T.ap_24 fun b7 => ?_)
          refine gh_next ?_
          refine Dn 4 ?_
          refine Do rfl (oL T.sc_24 ?_)
          refine gh_next ?_
          refine Hh (H' := [pts b7 37 [.slice a5 (0 + L.length) c5], own aw cw 37 1 (xs.map biw), pts b 32 (bkC (.slice a4 (xs.length + 1) c4) (.slice aw xs.length cw) nilS nilS (n + L.length + 1)), own a5 c5 5 1 ([] ++ bcells L), own a c 5 1 (bcells L), own a4 c4 37 1 (xs.map bir ++ [.slice a L.length c]), stars (xs.map Qb)]) ?_
          refine Dn 9 ?_
          refine Do rfl (op_append_lit T.ap_24 T.ni_24 rfl rfl rfl rfl .here (by omega) (rfl) (by simp [Value.oneCell']) (by omega) (by omega) rfl fun a6 c6 hc6 => ?_)
          rw [Nat.zero_add] at *
          refine gh_next ?_
          refine Dt 10 rfl Nc ?_
          refine Dt 11 rfl (Fa T.fld_32_1) ?_
          refine Dn 12 ?_
          refine Do rfl (oS T.sc_24 ?_)
          refine gh_next ?_
          refine gh_done (by kernel_rfl) back1 ?_
          refine Hh (H' := [own a c 5 1 (bcells L), own a5 c5 5 1 (bcells L), stars (xs.map Qb), pts b 32 (bkC (.slice a4 (xs.length + 1) c4) (.slice a6 (xs.length + 1) c6) nilS nilS (n + L.length + 1)), own a4 c4 37 1 (xs.map bir ++ [.slice a L.length c]), own a6 c6 37 1 (xs.map biw ++ [.slice a5 L.length c5])]) ?_
          refine g_heap (Qb_push ⟨⟨xs.length, a, L.length, c⟩, ⟨xs.length, a5, L.length, c5⟩, L⟩ rfl rfl) ?_
          generalize hX : (⟨⟨xs.length, a, L.length, c⟩, ⟨xs.length, a5, L.length, c5⟩, L⟩ : Bi) = X
          have hX1 : xs.map bir ++ [.slice a L.length c] = (xs ++ [X]).map bir := by rw [← hX]; simp [bir, slv]
          have hX2 : xs.map biw ++ [.slice a5 L.length c5] = (xs ++ [X]).map biw := by rw [← hX]; simp [biw, slv]
          have hle : (xs ++ [X]).length = xs.length + 1 := by simp
          rw [hX1, hX2, ← hle]
          refine Rn0 [pts b 32 (bkC (.slice a4 (xs ++ [X]).length c4) (.slice a6 (xs ++ [X]).length c6) nilS nilS (n + L.length + 1)), own a4 c4 37 1 ((xs ++ [X]).map bir), own a6 c6 37 1 ((xs ++ [X]).map biw), stars ((xs ++ [X]).map Qb)] Try.results19 ?_
          exact ⟨rfl, a4, c4, a6, c6, xs ++ [X], n + L.length + 1, rfl, by have := BkOk.push ⟨c1, c2, idx, n0, ln, top⟩ X (by rw [← hX]) (by rw [← hX]; exact hL) hc4 hc6; rw [← hX] at this ⊢; exact this, by omega⟩
end Go.Proofs.Ytggmpaggmkfmoaa

