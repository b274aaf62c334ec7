/- Lists that are lent: a copy to be handed in; is all as it was? -/
import Derived.Test.YtggmpaggmkfmoaaD5
set_option maxRecDepth 100000
namespace Go.Proofs.Ytggmpaggmkfmoaa
open Go Go.Eng

def lnC (v0 v1 : Value) : List Value := [v0, v1, nilS, nilS]
@[simp] theorem lnC_len (v0 v1 : Value) : (lnC v0 v1).length = 4 := rfl
/-- the loan, and what is lent -/
def lnH (b : Nat) (ai : Option Addr) (ci : Nat) (aw : Option Addr) (cw : Nat) (xs : List Bi) : List HProp :=
  [pts b 35 (lnC (.slice ai xs.length ci) (.slice aw xs.length cw)), own ai ci 37 1 (xs.map bir), own aw cw 37 1 (xs.map biw), stars (xs.map Qb)]
def padL : List UInt8 := List.replicate 40 165
theorem lnC_set1 (v0 v1 w : Value) : (lnC v0 v1).set (0 + 1) w = lnC v0 w := rfl
theorem pad_set (L : List UInt8) (i : Nat) (h : i < 40) : (bcells (L ++ (List.replicate i 165 ++ List.replicate (40 - i) 0))).set (L.length + i) (.int .u8 165) = bcells (L ++ (List.replicate (i + 1) 165 ++ List.replicate (40 - (i + 1)) 0)) := by
  have e1 : List.replicate (40 - i) (0 : UInt8) = 0 :: List.replicate (40 - (i + 1)) 0 := by rw [← List.replicate_succ, show 40 - (i + 1) + 1 = 40 - i from by omega]
  have e2 : List.replicate (i + 1) (165 : UInt8) = List.replicate i 165 ++ [165] := List.replicate_succ'
  rw [e1, e2]
  unfold bcells
  simp only [List.map_append, List.map_cons]
  rw [List.set_append_right _ _ (by simp), List.set_append_right _ _ (by simp)]
  simp
set_option maxHeartbeats 4000000 in
theorem lBytes_fn (b : Nat) (ai : Option Addr) (ci : Nat) (aw : Option Addr) (cw : Nat) (xs : List Bi) (c1 : xs.length ≤ ci) (c2 : xs.length ≤ cw) (hxs : xs.length ≤ 1000) (a : Option Addr) (c : Nat) (L : List UInt8) (hL : L.length ≤ 100000) (m : Nat) (hm : m = L.length) :
    FnS Try.prog 14 [.pointer (some ⟨b, 0, none⟩), .slice a m c] (fun h => Rdl h a (bcells L)) (lnH b ai ci aw cw xs)
      (fun v H => ∃ ai' ci' aw' cw' X, v = .slice (cutA X.r.a 0 X.r.c (0 * 1)) L.length (X.r.c - 0) ∧ X.L = L ++ padL ∧ L.length + 40 ≤ X.r.c ∧ xs.length + 1 ≤ ci' ∧ xs.length + 1 ≤ cw' ∧ H = lnH b ai' ci' aw' cw' (xs ++ [X])) := by
  subst hm
  have hbl := bir_len xs
  have hwl := biw_len xs
  refine fn_body Try.func14 rfl Try.ntmps14 rfl ?_
  intro F hF


  refine g_heap (H' := [pts b 35 (lnC (.slice ai xs.length ci) (.slice aw xs.length cw)), own ai ci 37 1 (xs.map bir), own aw cw 37 1 (xs.map biw), stars (xs.map Qb)]) (fun _ q => q) ?_
  refine g_sr ?_
  refine Li As ?_
  refine g_ne ?_
  refine g_sr ?_
  refine Lp (oT T.ap_37 fun b1 => ?_)
  refine Li Mv ?_
  refine g_heap (fun _ s => starL_cons_mono (fun _ p => own_of_pts p 0 1 (by simp) (by simp [maxLen])) s) ?_
  refine Lp (op_append T.ap_37 T.ni_37 rfl rfl rfl rfl .here (rfl) (src_slice (m := L.length) (by simp) fun h le _ => hF.mono le) (bcells_one) (by first | omega | (simp; omega)) (by first | omega | (simp; omega)) rfl fun f0 k0 h0 => ?_)
  refine Lp (op_append_zeros (m := 40) T.ap_37 T.u_3 rfl rfl rfl rfl .here (by simp) rfl (by omega) (by omega) (by omega) (by omega) (by omega) rfl fun f k hk => ?_)
  have e0 : [] ++ bcells L ++ List.replicate 40 (Value.int .u8 0) = bcells (L ++ (List.replicate 0 165 ++ List.replicate (40 - 0) 0)) := by simp [bcells]
  rw [e0, show 0 + L.length + 40 = L.length + 40 from by omega]
  rw [show 0 + L.length + 40 = L.length + 40 from by omega] at hk
  refine Li As ?_
  refine g_ne ?_
  refine g_seq ?_
  refine g_sr ?_
  refine Li Mv ?_
  refine Li (Ln T.sl_37) ?_
  refine Li As ?_
  refine g_ne ?_
  refine g_block ?_
  refine Lo (ι := Nat) [13, 14, 15, 16, 19, 20, 21, 17, 18, 6] (fun i => i ≤ 40) (fun i => [(6, .int .i64 ((L.length + i : Nat) : Int))]) (fun i => [own f k 5 1 (bcells (L ++ (List.replicate i 165 ++ List.replicate (40 - i) 0))), pts b 35 (lnC (.slice ai xs.length ci) (.slice aw xs.length cw)), own ai ci 37 1 (xs.map bir), own aw cw 37 1 (xs.map biw), stars (xs.map Qb)]) (fun i => 40 - i) (0) (Nat.zero_le _) ?_
  rintro i hi
  have hll : (bcells (L ++ (List.replicate i (165 : UInt8) ++ List.replicate (40 - i) 0))).length = L.length + 40 := by simp; omega
  refine g_seq ?_
  refine g_sr ?_
  refine Li Mv ?_
  refine Li Mv ?_
  refine Li (Ln T.sl_37) ?_
  refine Li Cm ?_
  refine g_ne ?_
  refine g_cond rfl ?_ ?_
  · intro h1
    replace h1 := nrm h1
    refine g_fact (sel_fact .here fun _ ho => own_none ho (by omega)) fun ha => ?_
    have e1 := pad_set L i (by omega)
    refine g_skip ?_
    refine e_then ?_
    refine g_seq ?_
    refine g_block ?_
    refine g_region ?_
    refine Li Mv ?_
    refine Li Mv ?_
    refine Li (Ix T.sl_37) ?_
    refine Lp (oSO T.sc_5 ?_)
    refine g_nil ?_
    refine e_block ?_
    refine e_then ?_
    refine g_region ?_
    refine Li Mv ?_
    refine Li Im ?_
    refine Li As ?_
    refine g_nil ?_
    rw [e1]
    refine Ro (i + 1) ((by omega)) (by omega)
  · intro h1
    replace h1 := nrm h1
    have hi4 : i = 40 := by omega
    subst hi4
    have e4 : L ++ (List.replicate 40 (165 : UInt8) ++ List.replicate (40 - 40) 0) = L ++ padL := by simp [padL]
    rw [e4]
    have hpl : (L ++ padL).length = L.length + 40 := by simp [padL]
    generalize hM : L ++ padL = M at *
    generalize hN : L.length + 40 = N at *
    have hNb : N ≤ 200000 := by omega
    refine g_exit ?_
    refine e_then_exit ?_
    refine e_then_exit ?_
    refine e_block_hit ?_
    refine e_then ?_
    refine g_sr ?_
    refine Li Mv ?_
    refine Li Mv ?_
    refine Li Nc ?_
    refine Li (Fa T.fld_35_0) ?_
    refine Lp (oL T.sc_24 ?_)
    refine Li Mv ?_
    refine Lp (oT T.ap_24 fun b2 => ?_)
    refine Hh (H' := [pts b2 37 [.slice f N k], own ai ci 37 1 (xs.map bir), own f k 5 1 (bcells M), pts b 35 (lnC (.slice ai xs.length ci) (.slice aw xs.length cw)), own aw cw 37 1 (xs.map biw), stars (xs.map Qb)]) ?_
    refine Lp (op_append_lit T.ap_24 T.ni_24 rfl rfl rfl rfl .here (by omega) (rfl) (by simp [Value.oneCell']) (by first | omega | (simp; omega)) (by first | omega | (simp; omega)) rfl fun a4 c4 hc4 => ?_)
    refine Li Nc ?_
    refine Li (Fa T.fld_35_0) ?_
    refine Lp (oS T.sc_24 ?_)
    refine g_ne ?_
    refine g_seq ?_

    refine Hh (H' := [pts b 35 (lnC (.slice a4 (xs.length + 1) c4) (.slice aw xs.length cw)), own aw cw 37 1 (xs.map biw), own f k 5 1 (bcells M), own a4 c4 37 1 (xs.map bir ++ [.slice f N k]), stars (xs.map Qb)]) ?_
    refine g_mid (ι := Option Addr × Nat × Option Addr × Nat) [32, 33, 34, 35, 36, 37, 38, 39, 40, 41, 42, 43] (fun (a5, c5, a6, c6) => N ≤ c5 ∧ xs.length + 1 ≤ c6) (fun (a5, c5, a6, c6) => []) (fun (a5, c5, a6, c6) => [pts b 35 (lnC (.slice a4 (xs.length + 1) c4) (.slice a6 (xs.length + 1) c6)), own f k 5 1 (bcells M), own a5 c5 5 1 (bcells M), own a6 c6 37 1 (xs.map biw ++ [.slice a5 N c5]), own a4 c4 37 1 (xs.map bir ++ [.slice f N k]), stars (xs.map Qb)]) ?_ ?_
    · refine g_drw T.mix .nil fun F1 le1 hin1 back1 => ?_
      refine Dt 0 rfl Mv ?_
      refine Dt 1 rfl Mv ?_
      refine Dt 2 rfl Nc ?_
      refine Dt 3 rfl (Fa T.fld_35_1) ?_
      refine Dt 6 rfl Mv ?_
      refine D2 4 5 ?_ ?_
      · refine Do rfl (oL T.sc_24 ?_)
        refine gh_next ?_
        refine Dn 5 ?_
        refine Do rfl (oT T.ap_37 fun b3 => ?_)
        refine gh_next ?_
        refine g_heap (fun _ s => starL_cons_mono (fun _ p => own_of_pts p 0 1 (by simp) (by simp [maxLen])) s) ?_
        refine Dn 7 ?_
        refine Do rfl (op_append T.ap_37 T.ni_37 rfl rfl rfl rfl .here (rfl) (src_slice (m := N) (by rw [bcells_length, hpl, Nat.mul_one]) fun h le hin => own_in (hin.nth 3 rfl)) (bcells_one) (by omega) (by omega) rfl fun a5 c5 hc5 => ?_)
        refine gh_next ?_
        refine Dn 8 ?_
        refine Do rfl (oT T.ap_24 fun b4 => ?_)
        refine gh_next ?_
        refine Hh (H' := [pts b4 37 [.slice a5 (0 + N) c5], own aw cw 37 1 (xs.map biw), pts b 35 (lnC (.slice a4 (xs.length + 1) c4) (.slice aw xs.length cw)), own a5 c5 5 1 ([] ++ bcells M), own f k 5 1 (bcells M), own a4 c4 37 1 (xs.map bir ++ [.slice f N k]), stars (xs.map Qb)]) ?_
        refine Dn 9 ?_
        refine Do rfl (op_append_lit T.ap_24 T.ni_24 rfl rfl rfl rfl .here (by omega) (rfl) (by simp [Value.oneCell']) (by omega) (by omega) rfl fun a6 c6 hc6 => ?_)
        rw [show 0 + N = N from Nat.zero_add N] at *
        refine gh_next ?_
        refine Dt 10 rfl Nc ?_
        refine Dt 11 rfl (Fa T.fld_35_1) ?_
        refine Dn 12 ?_
        refine Do rfl (oS T.sc_24 ?_)
        refine gh_next ?_
        refine gh_done (by kernel_rfl) back1 ?_
        rw [lnC_set1]
        refine Hh (H' := [pts b 35 (lnC (.slice a4 (xs.length + 1) c4) (.slice a6 (xs.length + 1) c6)), own f k 5 1 (bcells M), own a5 c5 5 1 (bcells M), own a6 c6 37 1 (xs.map biw ++ [.slice a5 N c5]), own a4 c4 37 1 (xs.map bir ++ [.slice f N k]), stars (xs.map Qb)]) ?_
        refine Me ((a5, c5, a6, c6)) (⟨hc5, hc6⟩)
      · refine Do rfl (oT T.ap_37 fun b5 => ?_)
        refine gh_next ?_
        refine D2 4 7 ?_ ?_
        · refine Do rfl (oL T.sc_24 ?_)
          refine gh_next ?_
          refine g_heap (fun _ s => starL_cons_mono (fun _ p => own_of_pts p 0 1 (by simp) (by simp [maxLen])) s) ?_
          refine Dn 7 ?_
          refine Do rfl (op_append T.ap_37 T.ni_37 rfl rfl rfl rfl .here (rfl) (src_slice (m := N) (by rw [bcells_length, hpl, Nat.mul_one]) fun h le hin => own_in (hin.nth 3 rfl)) (bcells_one) (by omega) (by omega) rfl fun a5 c5 hc5 => ?_)
          refine gh_next ?_
          refine Dn 8 ?_
          refine Do rfl (oT T.ap_24 fun b6 => ?_)
          refine gh_next ?_
          refine Hh (H' := [pts b6 37 [.slice a5 (0 + N) c5], own aw cw 37 1 (xs.map biw), pts b 35 (lnC (.slice a4 (xs.length + 1) c4) (.slice aw xs.length cw)), own a5 c5 5 1 ([] ++ bcells M), own f k 5 1 (bcells M), own a4 c4 37 1 (xs.map bir ++ [.slice f N k]), stars (xs.map Qb)]) ?_
          refine Dn 9 ?_
          refine Do rfl (op_append_lit T.ap_24 T.ni_24 rfl rfl rfl rfl .here (by omega) (rfl) (by simp [Value.oneCell']) (by omega) (by omega) rfl fun a6 c6 hc6 => ?_)
          rw [show 0 + N = N from Nat.zero_add N] at *
          refine gh_next ?_
          refine Dt 10 rfl Nc ?_
          refine Dt 11 rfl (Fa T.fld_35_1) ?_
          refine Dn 12 ?_
          refine Do rfl (oS T.sc_24 ?_)
          refine gh_next ?_
          refine gh_done (by kernel_rfl) back1 ?_
          rw [lnC_set1]
          refine Hh (H' := [pts b 35 (lnC (.slice a4 (xs.length + 1) c4) (.slice a6 (xs.length + 1) c6)), own f k 5 1 (bcells M), own a5 c5 5 1 (bcells M), own a6 c6 37 1 (xs.map biw ++ [.slice a5 N c5]), own a4 c4 37 1 (xs.map bir ++ [.slice f N k]), stars (xs.map Qb)]) ?_
          refine Me ((a5, c5, a6, c6)) (⟨hc5, hc6⟩)
        · refine g_heap (fun _ s => starL_cons_mono (fun _ p => own_of_pts p 0 1 (by simp) (by simp [maxLen])) s) ?_
          refine Do rfl (op_append T.ap_37 T.ni_37 rfl rfl rfl rfl .here (rfl) (src_slice (m := N) (by rw [bcells_length, hpl, Nat.mul_one]) fun h le hin => own_in (hin.nth 3 rfl)) (bcells_one) (by omega) (by omega) rfl fun a5 c5 hc5 => ?_)
          refine gh_next ?_
          refine D2 4 8 ?_ ?_
          · refine Do rfl (oL T.sc_24 ?_)
            refine gh_next ?_
            refine Dn 8 ?_
            refine Do rfl (oT T.ap_24 fun b7 => ?_)
            refine gh_next ?_
            refine Hh (H' := [pts b7 37 [.slice a5 (0 + N) c5], own aw cw 37 1 (xs.map biw), pts b 35 (lnC (.slice a4 (xs.length + 1) c4) (.slice aw xs.length cw)), own a5 c5 5 1 ([] ++ bcells M), own f k 5 1 (bcells M), own a4 c4 37 1 (xs.map bir ++ [.slice f N k]), stars (xs.map Qb)]) ?_
            refine Dn 9 ?_
            refine Do rfl (op_append_lit T.ap_24 T.ni_24 rfl rfl rfl rfl .here (by omega) (rfl) (by simp [Value.oneCell']) (by omega) (by omega) rfl fun a6 c6 hc6 => ?_)
            rw [show 0 + N = N from Nat.zero_add N] at *
            refine gh_next ?_
            refine Dt 10 rfl Nc ?_
            refine Dt 11 rfl (Fa T.fld_35_1) ?_
            refine Dn 12 ?_
            refine Do rfl (oS T.sc_24 ?_)
            refine gh_next ?_
            refine gh_done (by kernel_rfl) back1 ?_
            rw [lnC_set1]
            refine Hh (H' := [pts b 35 (lnC (.slice a4 (xs.length + 1) c4) (.slice a6 (xs.length + 1) c6)), own f k 5 1 (bcells M), own a5 c5 5 1 (bcells M), own a6 c6 37 1 (xs.map biw ++ [.slice a5 N c5]), own a4 c4 37 1 (xs.map bir ++ [.slice f N k]), stars (xs.map Qb)]) ?_
            refine Me ((a5, c5, a6, c6)) (⟨hc5, hc6⟩)
          · refine Do rfl (oT T.ap_24 fun b8 => ?_)
            refine gh_next ?_
            refine Dn 4 ?_
            refine Do rfl (oL T.sc_24 ?_)
            refine gh_next ?_
            refine Hh (H' := [pts b8 37 [.slice a5 (0 + N) c5], own aw cw 37 1 (xs.map biw), pts b 35 (lnC (.slice a4 (xs.length + 1) c4) (.slice aw xs.length cw)), own a5 c5 5 1 ([] ++ bcells M), own f k 5 1 (bcells M), own a4 c4 37 1 (xs.map bir ++ [.slice f N k]), stars (xs.map Qb)]) ?_
            refine Dn 9 ?_
            refine Do rfl (op_append_lit T.ap_24 T.ni_24 rfl rfl rfl rfl .here (by omega) (rfl) (by simp [Value.oneCell']) (by omega) (by omega) rfl fun a6 c6 hc6 => ?_)
            rw [show 0 + N = N from Nat.zero_add N] at *
            refine gh_next ?_
            refine Dt 10 rfl Nc ?_
            refine Dt 11 rfl (Fa T.fld_35_1) ?_
            refine Dn 12 ?_
            refine Do rfl (oS T.sc_24 ?_)
            refine gh_next ?_
            refine gh_done (by kernel_rfl) back1 ?_
            rw [lnC_set1]
            refine Hh (H' := [pts b 35 (lnC (.slice a4 (xs.length + 1) c4) (.slice a6 (xs.length + 1) c6)), own f k 5 1 (bcells M), own a5 c5 5 1 (bcells M), own a6 c6 37 1 (xs.map biw ++ [.slice a5 N c5]), own a4 c4 37 1 (xs.map bir ++ [.slice f N k]), stars (xs.map Qb)]) ?_
            refine Me ((a5, c5, a6, c6)) (⟨hc5, hc6⟩)
    rintro ⟨a5, c5, a6, c6⟩ ⟨hc5, hc6⟩
    try dsimp only at hI ⊢
    try dsimp only at hc5 hc6 ⊢
    generalize hX : (⟨⟨xs.length, f, M.length, k⟩, ⟨xs.length, a5, M.length, c5⟩, M⟩ : Bi) = X
    have hX1 : xs.map bir ++ [.slice f N k] = (xs ++ [X]).map bir := by rw [← hX, ← hpl]; simp [bir, slv]
    have hX2 : xs.map biw ++ [.slice a5 N c5] = (xs ++ [X]).map biw := by rw [← hX, ← hpl]; simp [biw, slv]
    have hle : (xs ++ [X]).length = xs.length + 1 := by simp
    refine Hh (H' := [own f k 5 1 (bcells M), own a5 c5 5 1 (bcells M), stars (xs.map Qb), pts b 35 (lnC (.slice a4 (xs.length + 1) c4) (.slice a6 (xs.length + 1) c6)), own a4 c4 37 1 (xs.map bir ++ [.slice f N k]), own a6 c6 37 1 (xs.map biw ++ [.slice a5 N c5])]) ?_
    refine g_heap (fun h s => Qb_push (⟨⟨xs.length, f, M.length, k⟩, ⟨xs.length, a5, M.length, c5⟩, M⟩ : Bi) rfl rfl h s) ?_
    rw [hX, hX1, hX2, ← hle]
    refine g_sr ?_
    refine Li Mv ?_
    refine Li Mv ?_
    refine Li (Ln T.sl_37) ?_
    refine Li (Sl 0 _ _ T.sl_37) ?_
    refine Li As ?_
    refine g_ne ?_
    refine g_ret ?_
    refine Rt [pts b 35 (lnC (.slice a4 (xs ++ [X]).length c4) (.slice a6 (xs ++ [X]).length c6)), own a4 c4 37 1 ((xs ++ [X]).map bir), own a6 c6 37 1 ((xs ++ [X]).map biw), stars ((xs ++ [X]).map Qb)] Try.results14 ?_
    exact ⟨a4, c4, a6, c6, X, by rw [← hX]; rfl, by rw [← hX], by rw [← hX]; exact hk, by rw [hle]; exact hc4, by rw [hle]; exact hc6, rfl⟩
end Go.Proofs.Ytggmpaggmkfmoaa

