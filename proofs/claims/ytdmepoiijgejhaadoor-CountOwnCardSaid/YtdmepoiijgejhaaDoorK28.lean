/- The book of lists, of ints: does each list stand; the others, empty. -/
import Derived.Test.YtdmepoiijgejhaaDoorK27
set_option maxRecDepth 100000
namespace Go.Proofs.YtdmepoiijgejhaaDoor
open Go Go.Eng

theorem kInts_fn (l l' : List Int) (a a' : Option Addr) (m m' c c' : Nat) (hm : m = l.length) (hm' : m' = l'.length) (hb : l.length ≤ 9223372036854775807) (hb' : l'.length ≤ 9223372036854775807) :
    FnS Tryd.prog 23 [.slice a m c, .slice a' m' c'] (fun h => Rdl h a (icells l) ∧ Rdl h a' (icells l')) [] (fun v H => v = .bool (decide (l = l')) ∧ H = []) := by
  subst hm hm'
  have hl1 := icells_len l
  have hl2 := icells_len l'
  refine fn_body Tryd.func23 rfl Tryd.ntmps23 rfl ?_
  intro F hF
  refine g_sr ?_
  refine Li As ?_
  refine g_ne ?_
  refine g_seq ?_
  refine g_sr ?_
  refine Li Mv ?_
  refine Li (Ln T.sl_39) ?_
  refine Li Mv ?_
  refine Li (Ln T.sl_39) ?_
  refine Li Cm ?_
  refine g_ne ?_
  refine g_cond rfl ?_ ?_
  · intro hne
    replace hne := nrm hne
    refine g_sr ?_
    refine Li As ?_
    refine g_ne ?_
    refine g_ret ?_
    refine e_then_ret ?_
    refine Rt [] Tryd.results23 ?_
    refine ⟨congrArg Value.bool (decide_eq_false fun q => ?_).symm, rfl⟩
    have := congrArg List.length q
    omega
  · intro hne
    replace hne := nrm hne
    have hlen : l.length = l'.length := by omega
    refine g_skip ?_
    refine e_then ?_
    refine g_seq ?_
    refine g_sr ?_
    refine Li As ?_
    refine g_ne ?_
    refine g_block ?_
    refine Lo (ι := Nat) [11, 12, 13, 14, 17, 18, 19, 20, 21, 22, 23, 24, 25, 4, 15, 16, 5] (fun i => i ≤ l.length ∧ ∀ j, j < i → l[j]? = l'[j]?) (fun i => [(5, .int .i64 (i : Int))]) (fun i => []) (fun i => l.length - i) (0) ⟨Nat.zero_le _, fun j hj => absurd hj (Nat.not_lt_zero j)⟩ ?_
    rintro i ⟨hi, hall⟩
    refine g_seq ?_
    refine g_sr ?_
    refine Li Mv ?_
    refine Li Mv ?_
    refine Li (Ln T.sl_39) ?_
    refine Li Cm ?_
    refine g_ne ?_
    refine g_cond rfl ?_ ?_
    · intro h1
      replace h1 := nrm h1
      obtain ⟨n, e1⟩ : ∃ x, l[i]? = some x := ⟨_, List.getElem?_eq_getElem (show i < l.length by omega)⟩
      obtain ⟨n', e2⟩ : ∃ x, l'[i]? = some x := ⟨_, List.getElem?_eq_getElem (show i < l'.length by omega)⟩
      have k1 : (icells l)[i]? = some (.int .i64 n) := by simp [icells, e1]
      have k2 : (icells l')[i]? = some (.int .i64 n') := by simp [icells, e2]
      have r1 := hF.1
      have r2 := hF.2
      have sa : a.isSome = true := r1.some (by omega)
      have sb : a'.isSome = true := r2.some (by omega)
      refine g_skip ?_
      refine e_then ?_
      refine g_seq ?_
      refine g_block ?_
      refine g_seq ?_
      refine g_drw T.mix .nil fun F1 le1 hin1 back1 => ?_
      replace r1 := r1.mono le1
      replace r2 := r2.mono le1
      refine Dt 0 rfl Mv ?_
      refine Dt 1 rfl Mv ?_
      refine Dt 2 rfl (Ix T.sl_39) ?_
      refine Dt 3 rfl (Lf T.sc_3) ?_
      refine Dt 4 rfl Mv ?_
      refine Dt 5 rfl Mv ?_
      refine Dt 6 rfl (Ix T.sl_39) ?_
      refine Dt 7 rfl (Lf T.sc_3) ?_
      refine Dt 8 rfl Cm ?_
      refine gh_done (by kernel_rfl) back1 ?_
      refine e_then ?_
      refine g_cond rfl ?_ ?_
      · intro hd
        replace hd := nrm hd
        refine g_sr ?_
        refine Li As ?_
        refine g_ne ?_
        refine g_ret ?_
        refine e_block_ret ?_
        refine e_then_ret ?_
        refine e_then_ret ?_
        refine e_block_ret ?_
        refine e_then_ret ?_
        refine Rt [] Tryd.results23 ?_
        refine ⟨congrArg Value.bool (decide_eq_false fun hq => ?_).symm, rfl⟩
        rw [hq, e2] at e1
        cases e1
        simp at hd
      · intro hd
        replace hd := nrm hd
        refine g_skip ?_
        refine e_block ?_
        refine e_then ?_
        refine g_region ?_
        refine Li Mv ?_
        refine Li Im ?_
        refine Li As ?_
        refine g_nil ?_
        refine Ro (i + 1) (⟨by omega, fun j hj => ?_⟩) (by omega)
        by_cases hji : j = i
        · subst hji
          rw [e1, e2]
          congr 1
        · exact hall j (by omega)
    · intro h1
      replace h1 := nrm h1
      refine g_exit ?_
      refine e_then_exit ?_
      refine e_then_exit ?_
      refine e_block_hit ?_
      refine e_then ?_
      refine g_sr ?_
      refine Li As ?_
      refine g_ne ?_
      refine g_ret ?_
      refine Rt [] Tryd.results23 ?_
      refine ⟨congrArg Value.bool (decide_eq_true (List.ext_getElem? fun j => ?_)).symm, rfl⟩
      by_cases hj : j < i
      · exact hall j hj
      · rw [List.getElem?_eq_none (by omega), List.getElem?_eq_none (by omega)]
/-- what is read of the book -/
structure StI (h : Hp) (b : Nat) (ai : Option Addr) (ci : Nat) (aw : Option Addr) (cw : Nat) (xs : List Bi) (n : Int) : Prop where
  bk : ∃ k, pts b 60 (bkC nilS nilS nilS nilS (.slice ai xs.length ci) (.slice aw xs.length cw) nilS nilS n) k ∧ Le k h
  ri : Rdl h ai (xs.map bir)
  rw : Rdl h aw (xs.map biw)
  row : ∀ x ∈ xs, (x.r.n = x.L.length ∧ x.w.n = x.L.length) ∧ Rdl h x.r.a (icells x.L) ∧ Rdl h x.w.a (icells x.L)
theorem StI.of {h : Hp} {b : Nat} {ai : Option Addr} {ci : Nat} {aw : Option Addr} {cw : Nat} {xs : List Bi} {n : Int} (hin : InL (bkH b ai ci aw cw xs n) h) : StI h b ai ci aw cw xs n :=
  ⟨hin.nth 0 rfl, own_in (hin.nth 1 rfl), own_in (hin.nth 2 rfl), fun x hx => by
    obtain ⟨k, s, le⟩ := hin.nth 3 rfl
    have := stars_all (f := Qb) (X := fun x h => (x.r.n = x.L.length ∧ x.w.n = x.L.length) ∧ Rdl h x.r.a (icells x.L) ∧ Rdl h x.w.a (icells x.L)) (fun x k q => by
      obtain ⟨q1, h1, h2, d, l1, l2, o1, h3, h4, d', l3, l4, o2, _⟩ := q
      exact ⟨q1, (own_rdl o1).mono l1, (own_rdl o2).mono (l3.trans l2)⟩) (fun x k l q le => ⟨q.1, q.2.1.mono le, q.2.2.mono le⟩) _ _ s x hx
    exact ⟨this.1, this.2.1.mono le, this.2.2.mono le⟩⟩
set_option maxHeartbeats 2000000 in
theorem stands_fn (b : Nat) (ai : Option Addr) (ci : Nat) (aw : Option Addr) (cw : Nat) (xs : List Bi) (n : Int) (hx : xs.length ≤ 1000000) (ht : ∀ x ∈ xs, x.L.length ≤ 20000) :
    FnS Tryd.prog 47 [.pointer (some ⟨b, 0, none⟩)] (fun h => StI h b ai ci aw cw xs n) [] (fun v H => v = .bool true ∧ H = []) := by
  refine fn_body Tryd.func47 rfl Tryd.ntmps47 rfl ?_
  intro F hF
  obtain ⟨hb, hri, hrw, hrow⟩ := hF
  have hbl := bir_len xs
  have hwl := biw_len xs
  refine g_sr ?_
  refine Li As ?_
  refine g_ne ?_
  refine g_seq ?_
  refine g_sr ?_
  refine Li As ?_
  refine g_ne ?_
  refine g_block ?_
  refine Lo (ι := Unit) [8, 9, 10, 11, 12, 13, 14, 17, 18, 19, 20, 21, 22, 23, 24, 25, 26, 27, 28, 29, 30, 31, 32, 33, 2, 15, 16, 3] (fun u => True) (fun u => [(3, .int .i64 0)]) (fun u => []) (fun u => 0) (()) trivial ?_
  rintro u hI
  refine g_seq ?_
  refine g_sr ?_
  refine Li Mv ?_
  refine Li Mv ?_
  refine Li Nc ?_
  refine Li (Fa T.fld_60_0) ?_
  refine Lp (oL T.sc_52 ?_)
  refine Li (Ln T.sl_52) ?_
  refine Li Cm ?_
  refine g_ne ?_
  refine g_cond_f rfl (by rfl) ?_
  refine g_exit ?_
  refine e_then_exit ?_
  refine e_then_exit ?_
  refine e_block_hit ?_
  refine e_then ?_
  refine g_seq ?_
  refine g_sr ?_
  refine Li As ?_
  refine g_ne ?_
  refine g_block ?_
  refine Lo (ι := Nat) [34, 35, 36, 37, 38, 39, 40, 43, 44, 45, 46, 47, 48, 49, 50, 51, 52, 53, 54, 55, 56, 57, 58, 2, 41, 42, 4] (fun i => i ≤ xs.length) (fun i => [(4, .int .i64 (i : Int))]) (fun i => []) (fun i => xs.length - i) (0) (Nat.zero_le _) ?_
  rintro i hi
  refine g_seq ?_
  refine g_sr ?_
  refine Li Mv ?_
  refine Li Mv ?_
  refine Li Nc ?_
  refine Li (Fa T.fld_60_4) ?_
  refine Lp (oL T.sc_53 ?_)
  refine Li (Ln T.sl_53) ?_
  refine Li Cm ?_
  refine g_ne ?_
  refine g_cond rfl ?_ ?_
  · intro h1
    replace h1 := nrm h1
    obtain ⟨x, e1⟩ : ∃ x, xs[i]? = some x := ⟨_, List.getElem?_eq_getElem (show i < xs.length by omega)⟩
    have hmem := List.mem_of_getElem? e1
    obtain ⟨⟨n1, n2⟩, r1, r2⟩ := hrow x hmem
    have htx := ht x hmem
    have s1 : (xs.map bir)[i]? = some (.slice x.r.a x.r.n x.r.c) := by simp [e1, bir, slv]
    have s2 : (xs.map biw)[i]? = some (.slice x.w.a x.w.n x.w.c) := by simp [e1, biw, slv]
    have a1 : ai.isSome = true := hri.some (by omega)
    have a2 : aw.isSome = true := hrw.some (by omega)
    refine g_skip ?_
    refine e_then ?_
    refine g_seq ?_
    refine g_block ?_
    refine g_seq ?_
    refine g_drw T.mix .nil fun F1 le1 hin1 back1 => ?_
    have hb1 := in_mono hb le1
    have hri1 := hri.mono le1
    have hrw1 := hrw.mono le1
    refine Dt 0 rfl Mv ?_
    refine Dt 1 rfl Nc ?_
    refine Dt 2 rfl (Fa T.fld_60_4) ?_
    refine Dt 3 rfl (Lf T.sc_53) ?_
    refine Dt 4 rfl Mv ?_
    refine Dt 5 rfl (Ix T.sl_53) ?_
    refine Dt 6 rfl (Lf T.sc_39) ?_
    refine Dt 7 rfl Mv ?_
    refine Dt 8 rfl Nc ?_
    refine Dt 9 rfl (Fa T.fld_60_5) ?_
    refine Dt 10 rfl (Lf T.sc_53) ?_
    refine Dt 11 rfl Mv ?_
    refine Dt 12 rfl (Ix T.sl_53) ?_
    refine Dt 13 rfl (Lf T.sc_39) ?_
    refine Dn 14 ?_
    refine Do rfl (oC T.fn_23 rfl rfl (kInts_fn x.L x.L x.r.a x.w.a x.r.n x.w.n x.r.c x.w.c n1 n2 (by omega) (by omega)) .nil (fun _ le _ => ⟨r1.mono (le1.trans le), r2.mono (le1.trans le)⟩) ?_)
    rintro v H' ⟨rfl, rfl⟩
    try simp only [nap, cap]
    refine gh_next ?_
    refine Dt 15 rfl Nt ?_
    refine gh_done (by kernel_rfl) back1 ?_
    refine e_then ?_
    refine g_cond_f rfl (by simp) ?_
    refine g_skip ?_
    refine e_block ?_
    refine e_then ?_
    refine g_region ?_
    refine Li Mv ?_
    refine Li Im ?_
    refine Li As ?_
    refine g_nil ?_
    refine Ro (i + 1) ((by omega)) (by omega)
  · intro h1
    replace h1 := nrm h1
    refine g_exit ?_
    refine e_then_exit ?_
    refine e_then_exit ?_
    refine e_block_hit ?_
    refine e_then ?_
    refine g_seq ?_
    refine g_sr ?_
    refine Li As ?_
    refine g_ne ?_
    refine g_block ?_
    refine Lo (ι := Unit) [59, 60, 61, 62, 63, 64, 65, 68, 69, 70, 71, 72, 73, 74, 75, 76, 77, 78, 79, 80, 81, 82, 83, 2, 66, 67, 5] (fun u => True) (fun u => [(5, .int .i64 0)]) (fun u => []) (fun u => 0) (()) trivial ?_
    rintro u hI
    refine g_seq ?_
    refine g_sr ?_
    refine Li Mv ?_
    refine Li Mv ?_
    refine Li Nc ?_
    refine Li (Fa T.fld_60_8) ?_
    refine Lp (oL T.sc_54 ?_)
    refine Li (Ln T.sl_54) ?_
    refine Li Cm ?_
    refine g_ne ?_
    refine g_cond_f rfl (by rfl) ?_
    refine g_exit ?_
    refine e_then_exit ?_
    refine e_then_exit ?_
    refine e_block_hit ?_
    refine e_then ?_
    refine g_seq ?_
    refine g_sr ?_
    refine Li As ?_
    refine g_ne ?_
    refine g_block ?_
    refine Lo (ι := Unit) [84, 85, 86, 87, 88, 89, 90, 93, 94, 95, 96, 97, 98, 99, 100, 101, 102, 103, 104, 105, 106, 107, 108, 2, 91, 92, 6] (fun u => True) (fun u => [(6, .int .i64 0)]) (fun u => []) (fun u => 0) (()) trivial ?_
    rintro u hI
    refine g_seq ?_
    refine g_sr ?_
    refine Li Mv ?_
    refine Li Mv ?_
    refine Li Nc ?_
    refine Li (Fa T.fld_60_12) ?_
    refine Lp (oL T.sc_55 ?_)
    refine Li (Ln T.sl_55) ?_
    refine Li Cm ?_
    refine g_ne ?_
    refine g_cond_f rfl (by rfl) ?_
    refine g_exit ?_
    refine e_then_exit ?_
    refine e_then_exit ?_
    refine e_block_hit ?_
    refine e_then ?_
    refine g_seq ?_
    refine g_sr ?_
    refine Li As ?_
    refine g_ne ?_
    refine g_block ?_
    refine Lo (ι := Unit) [109, 110, 111, 112, 113, 114, 115, 118, 119, 120, 121, 122, 123, 124, 125, 126, 127, 128, 129, 130, 131, 132, 133, 2, 116, 117, 7] (fun u => True) (fun u => [(7, .int .i64 0)]) (fun u => []) (fun u => 0) (()) trivial ?_
    rintro u hI
    refine g_seq ?_
    refine g_sr ?_
    refine Li Mv ?_
    refine Li Mv ?_
    refine Li Nc ?_
    refine Li (Fa T.fld_60_16) ?_
    refine Lp (oL T.sc_56 ?_)
    refine Li (Ln T.sl_56) ?_
    refine Li Cm ?_
    refine g_ne ?_
    refine g_cond_f rfl (by rfl) ?_
    refine g_exit ?_
    refine e_then_exit ?_
    refine e_then_exit ?_
    refine e_block_hit ?_
    refine e_then ?_
    refine g_sr ?_
    refine Li As ?_
    refine g_ne ?_
    refine g_ret ?_
    refine Rt [] Tryd.results47 ?_
    exact ⟨rfl, rfl⟩
theorem look77_nil (b : Nat) (c : Nat) : FnS Tryd.prog 77 [.pointer (some ⟨b, 0, none⟩), .slice none 0 0] (fun _ => True) [] (fun v H => v = .bool true ∧ H = []) := by
  refine fn_body Tryd.func77 rfl Tryd.ntmps77 rfl ?_
  intro F hF
  refine g_sr ?_
  refine Li As ?_
  refine g_ne ?_
  refine g_seq ?_
  refine g_sr ?_
  refine Li As ?_
  refine g_ne ?_
  refine g_block ?_
  refine Lo (ι := Unit) [8, 9, 10, 11, 14, 15, 16, 17, 18, 19, 20, 21, 6, 7, 22, 23, 24, 25, 26, 27, 28, 31, 32, 33, 34, 35, 36, 37, 38, 39, 40, 41, 42, 43, 44, 45, 46, 47, 48, 49, 50, 51, 52, 53, 54, 55, 56, 57, 58, 59, 60, 61, 62, 63, 64, 65, 66, 67, 68, 69, 70, 71, 72, 73, 74, 75, 76, 77, 78, 79, 80, 81, 4, 29, 30, 12, 13, 5] (fun u => True) (fun u => [(5, .int .i64 0)]) (fun u => []) (fun u => 0) (()) trivial ?_
  rintro u hI
  refine g_seq ?_
  refine g_sr ?_
  refine Li Mv ?_
  refine Li Mv ?_
  refine Li (Ln T.sl_52) ?_
  refine Li Cm ?_
  refine g_ne ?_
  refine g_cond_f rfl (by rfl) ?_
  refine g_exit ?_
  refine e_then_exit ?_
  refine e_then_exit ?_
  refine e_block_hit ?_
  refine e_then ?_
  refine g_sr ?_
  refine Li As ?_
  refine g_ne ?_
  refine g_ret ?_
  refine Rt [] Tryd.results77 ?_
  exact ⟨rfl, rfl⟩
theorem close48_nil (b : Nat) (v4 v5 v6 v7 : Value) (n : Int) : FnS Tryd.prog 48 [.pointer (some ⟨b, 0, none⟩)] (fun h => ∃ k, pts b 60 (bkC nilS nilS nilS nilS v4 v5 v6 v7 n) k ∧ Le k h) [] (fun v H => v = .bool true ∧ H = []) := by
  refine fn_body Tryd.func48 rfl Tryd.ntmps48 rfl ?_
  intro F hF
  refine g_sr ?_
  refine Li As ?_
  refine g_ne ?_
  refine g_seq ?_
  refine g_sr ?_
  refine Li As ?_
  refine g_ne ?_
  refine g_block ?_
  refine Lo (ι := Unit) [11, 12, 13, 14, 15, 16, 17, 4, 20, 21, 22, 23, 24, 25, 26, 27, 28, 29, 32, 33, 34, 35, 36, 37, 38, 39, 40, 41, 42, 43, 30, 31, 18, 19, 3] (fun u => True) (fun u => [(3, .int .i64 0)]) (fun u => []) (fun u => 0) (()) trivial ?_
  rintro u hI
  refine g_seq ?_
  refine g_sr ?_
  refine Li Mv ?_
  refine Li Mv ?_
  refine Li Nc ?_
  refine Li (Fa T.fld_60_0) ?_
  refine Lp (oL T.sc_52 ?_)
  refine Li (Ln T.sl_52) ?_
  refine Li Cm ?_
  refine g_ne ?_
  refine g_cond_f rfl (by rfl) ?_
  refine g_exit ?_
  refine e_then_exit ?_
  refine e_then_exit ?_
  refine e_block_hit ?_
  refine e_then ?_
  refine g_seq ?_
  refine g_sr ?_
  refine Li As ?_
  refine g_ne ?_
  refine g_block ?_
  refine Lo (ι := Unit) [44, 45, 46, 47, 48, 49, 50, 53, 54, 55, 56, 57, 58, 59, 6, 7, 60, 61, 64, 65, 66, 67, 68, 69, 70, 62, 63, 71, 72, 73, 74, 75, 76, 77, 78, 79, 80, 51, 52, 5] (fun u => True) (fun u => [(5, .int .i64 0)]) (fun u => []) (fun u => 0) (()) trivial ?_
  rintro u hI
  refine g_seq ?_
  refine g_sr ?_
  refine Li Mv ?_
  refine Li Mv ?_
  refine Li Nc ?_
  refine Li (Fa T.fld_60_0) ?_
  refine Lp (oL T.sc_52 ?_)
  refine Li (Ln T.sl_52) ?_
  refine Li Cm ?_
  refine g_ne ?_
  refine g_cond_f rfl (by rfl) ?_
  refine g_exit ?_
  refine e_then_exit ?_
  refine e_then_exit ?_
  refine e_block_hit ?_
  refine e_then ?_
  refine g_seq ?_
  refine g_sr ?_
  refine Li Mv ?_
  refine Li Mv ?_
  refine Li Nc ?_
  refine Li (Fa T.fld_60_2) ?_
  refine Lp (oL T.sc_52 ?_)
  refine Lp (oC T.fn_77 rfl rfl (look77_nil b 0) .nil (fun _ _ _ => trivial) ?_)
  rintro v H' ⟨rfl, rfl⟩
  try simp only [nap, cap]
  refine Li Nt ?_
  refine g_ne ?_
  refine g_cond_f rfl (by rfl) ?_
  refine g_skip ?_
  refine e_then ?_
  refine g_seq ?_
  refine g_sr ?_
  refine Li As ?_
  refine g_ne ?_
  refine g_block ?_
  refine Lo (ι := Unit) [88, 89, 90, 91, 92, 93, 94, 9, 10, 97, 98, 101, 102, 103, 104, 105, 106, 107, 99, 100, 108, 109, 110, 111, 112, 113, 114, 115, 116, 117, 118, 119, 120, 121, 122, 123, 124, 125, 95, 96, 8] (fun u => True) (fun u => [(8, .int .i64 0)]) (fun u => []) (fun u => 0) (()) trivial ?_
  rintro u hI
  refine g_seq ?_
  refine g_sr ?_
  refine Li Mv ?_
  refine Li Mv ?_
  refine Li Nc ?_
  refine Li (Fa T.fld_60_0) ?_
  refine Lp (oL T.sc_52 ?_)
  refine Li (Ln T.sl_52) ?_
  refine Li Cm ?_
  refine g_ne ?_
  refine g_cond_f rfl (by rfl) ?_
  refine g_exit ?_
  refine e_then_exit ?_
  refine e_then_exit ?_
  refine e_block_hit ?_
  refine e_then ?_
  refine g_sr ?_
  refine Li Mv ?_
  refine Li Mv ?_
  refine Li Nc ?_
  refine Li (Fa T.fld_60_3) ?_
  refine Lp (oL T.sc_52 ?_)
  refine Lp (oC T.fn_77 rfl rfl (look77_nil b 0) .nil (fun _ _ _ => trivial) ?_)
  rintro v H' ⟨rfl, rfl⟩
  try simp only [nap, cap]
  refine Li Mv ?_
  refine g_slot (t := 132) (v' := .bool true) rfl (congrArg Value.bool (by rfl)) ?_
  refine Li Mv ?_
  refine Li Mv ?_
  refine Li Nc ?_
  refine Li (Fa T.fld_60_2) ?_
  refine Lp (oL T.sc_52 ?_)
  refine Lp (oC T.fn_77 rfl rfl (look77_nil b 0) .nil (fun _ _ _ => trivial) ?_)
  rintro v H' ⟨rfl, rfl⟩
  try simp only [nap, cap]
  refine Li Pt ?_
  refine Li As ?_
  refine g_ne ?_
  refine g_ret ?_
  refine Rt [] Tryd.results48 ?_
  exact ⟨rfl, rfl⟩
theorem look80_nil (b : Nat) (c : Nat) : FnS Tryd.prog 80 [.pointer (some ⟨b, 0, none⟩), .slice none 0 0] (fun _ => True) [] (fun v H => v = .bool true ∧ H = []) := by
  refine fn_body Tryd.func80 rfl Tryd.ntmps80 rfl ?_
  intro F hF
  refine g_sr ?_
  refine Li As ?_
  refine g_ne ?_
  refine g_seq ?_
  refine g_sr ?_
  refine Li As ?_
  refine g_ne ?_
  refine g_block ?_
  refine Lo (ι := Unit) [8, 9, 10, 11, 14, 15, 16, 17, 18, 19, 20, 21, 6, 7, 22, 23, 24, 25, 26, 27, 28, 31, 32, 33, 34, 35, 36, 37, 38, 39, 40, 41, 42, 43, 44, 45, 46, 47, 48, 49, 50, 51, 52, 53, 54, 55, 56, 57, 58, 59, 60, 61, 62, 63, 64, 65, 66, 67, 68, 69, 70, 71, 72, 73, 74, 75, 76, 77, 78, 4, 29, 30, 12, 13, 5] (fun u => True) (fun u => [(5, .int .i64 0)]) (fun u => []) (fun u => 0) (()) trivial ?_
  rintro u hI
  refine g_seq ?_
  refine g_sr ?_
  refine Li Mv ?_
  refine Li Mv ?_
  refine Li (Ln T.sl_54) ?_
  refine Li Cm ?_
  refine g_ne ?_
  refine g_cond_f rfl (by rfl) ?_
  refine g_exit ?_
  refine e_then_exit ?_
  refine e_then_exit ?_
  refine e_block_hit ?_
  refine e_then ?_
  refine g_sr ?_
  refine Li As ?_
  refine g_ne ?_
  refine g_ret ?_
  refine Rt [] Tryd.results80 ?_
  exact ⟨rfl, rfl⟩
theorem close50_nil (b : Nat) (v4 v5 v6 v7 : Value) (n : Int) : FnS Tryd.prog 50 [.pointer (some ⟨b, 0, none⟩)] (fun h => ∃ k, pts b 60 (bkC nilS nilS nilS nilS v4 v5 v6 v7 n) k ∧ Le k h) [] (fun v H => v = .bool true ∧ H = []) := by
  refine fn_body Tryd.func50 rfl Tryd.ntmps50 rfl ?_
  intro F hF
  refine g_sr ?_
  refine Li As ?_
  refine g_ne ?_
  refine g_seq ?_
  refine g_sr ?_
  refine Li As ?_
  refine g_ne ?_
  refine g_block ?_
  refine Lo (ι := Unit) [11, 12, 13, 14, 15, 16, 17, 4, 20, 21, 22, 23, 24, 25, 26, 27, 28, 29, 32, 33, 34, 35, 36, 37, 38, 39, 40, 41, 42, 30, 31, 18, 19, 3] (fun u => True) (fun u => [(3, .int .i64 0)]) (fun u => []) (fun u => 0) (()) trivial ?_
  rintro u hI
  refine g_seq ?_
  refine g_sr ?_
  refine Li Mv ?_
  refine Li Mv ?_
  refine Li Nc ?_
  refine Li (Fa T.fld_60_8) ?_
  refine Lp (oL T.sc_54 ?_)
  refine Li (Ln T.sl_54) ?_
  refine Li Cm ?_
  refine g_ne ?_
  refine g_cond_f rfl (by rfl) ?_
  refine g_exit ?_
  refine e_then_exit ?_
  refine e_then_exit ?_
  refine e_block_hit ?_
  refine e_then ?_
  refine g_seq ?_
  refine g_sr ?_
  refine Li As ?_
  refine g_ne ?_
  refine g_block ?_
  refine Lo (ι := Unit) [43, 44, 45, 46, 47, 48, 49, 52, 53, 54, 55, 56, 57, 58, 6, 7, 59, 60, 63, 64, 65, 66, 67, 68, 61, 62, 69, 70, 71, 72, 73, 74, 75, 76, 77, 78, 50, 51, 5] (fun u => True) (fun u => [(5, .int .i64 0)]) (fun u => []) (fun u => 0) (()) trivial ?_
  rintro u hI
  refine g_seq ?_
  refine g_sr ?_
  refine Li Mv ?_
  refine Li Mv ?_
  refine Li Nc ?_
  refine Li (Fa T.fld_60_8) ?_
  refine Lp (oL T.sc_54 ?_)
  refine Li (Ln T.sl_54) ?_
  refine Li Cm ?_
  refine g_ne ?_
  refine g_cond_f rfl (by rfl) ?_
  refine g_exit ?_
  refine e_then_exit ?_
  refine e_then_exit ?_
  refine e_block_hit ?_
  refine e_then ?_
  refine g_seq ?_
  refine g_sr ?_
  refine Li Mv ?_
  refine Li Mv ?_
  refine Li Nc ?_
  refine Li (Fa T.fld_60_10) ?_
  refine Lp (oL T.sc_54 ?_)
  refine Lp (oC T.fn_80 rfl rfl (look80_nil b 0) .nil (fun _ _ _ => trivial) ?_)
  rintro v H' ⟨rfl, rfl⟩
  try simp only [nap, cap]
  refine Li Nt ?_
  refine g_ne ?_
  refine g_cond_f rfl (by rfl) ?_
  refine g_skip ?_
  refine e_then ?_
  refine g_seq ?_
  refine g_sr ?_
  refine Li As ?_
  refine g_ne ?_
  refine g_block ?_
  refine Lo (ι := Unit) [86, 87, 88, 89, 90, 91, 92, 9, 10, 95, 96, 99, 100, 101, 102, 103, 104, 97, 98, 105, 106, 107, 108, 109, 110, 111, 112, 113, 114, 115, 116, 117, 118, 119, 120, 121, 122, 93, 94, 8] (fun u => True) (fun u => [(8, .int .i64 0)]) (fun u => []) (fun u => 0) (()) trivial ?_
  rintro u hI
  refine g_seq ?_
  refine g_sr ?_
  refine Li Mv ?_
  refine Li Mv ?_
  refine Li Nc ?_
  refine Li (Fa T.fld_60_8) ?_
  refine Lp (oL T.sc_54 ?_)
  refine Li (Ln T.sl_54) ?_
  refine Li Cm ?_
  refine g_ne ?_
  refine g_cond_f rfl (by rfl) ?_
  refine g_exit ?_
  refine e_then_exit ?_
  refine e_then_exit ?_
  refine e_block_hit ?_
  refine e_then ?_
  refine g_sr ?_
  refine Li Mv ?_
  refine Li Mv ?_
  refine Li Nc ?_
  refine Li (Fa T.fld_60_11) ?_
  refine Lp (oL T.sc_54 ?_)
  refine Lp (oC T.fn_80 rfl rfl (look80_nil b 0) .nil (fun _ _ _ => trivial) ?_)
  rintro v H' ⟨rfl, rfl⟩
  try simp only [nap, cap]
  refine Li Mv ?_
  refine g_slot (t := 129) (v' := .bool true) rfl (congrArg Value.bool (by rfl)) ?_
  refine Li Mv ?_
  refine Li Mv ?_
  refine Li Nc ?_
  refine Li (Fa T.fld_60_10) ?_
  refine Lp (oL T.sc_54 ?_)
  refine Lp (oC T.fn_80 rfl rfl (look80_nil b 0) .nil (fun _ _ _ => trivial) ?_)
  rintro v H' ⟨rfl, rfl⟩
  try simp only [nap, cap]
  refine Li Pt ?_
  refine Li As ?_
  refine g_ne ?_
  refine g_ret ?_
  refine Rt [] Tryd.results50 ?_
  exact ⟨rfl, rfl⟩
theorem look81_nil (b : Nat) (c : Nat) : FnS Tryd.prog 81 [.pointer (some ⟨b, 0, none⟩), .slice none 0 0] (fun _ => True) [] (fun v H => v = .bool true ∧ H = []) := by
  refine fn_body Tryd.func81 rfl Tryd.ntmps81 rfl ?_
  intro F hF
  refine g_sr ?_
  refine Li As ?_
  refine g_ne ?_
  refine g_seq ?_
  refine g_sr ?_
  refine Li As ?_
  refine g_ne ?_
  refine g_block ?_
  refine Lo (ι := Unit) [8, 9, 10, 11, 14, 15, 16, 17, 18, 19, 20, 21, 6, 7, 22, 23, 24, 25, 26, 27, 28, 31, 32, 33, 34, 35, 36, 37, 38, 39, 40, 41, 42, 43, 44, 45, 46, 47, 48, 49, 50, 51, 52, 53, 54, 55, 56, 57, 58, 59, 60, 61, 62, 63, 64, 65, 66, 67, 68, 69, 70, 71, 72, 73, 74, 75, 76, 77, 78, 79, 80, 4, 29, 30, 12, 13, 5] (fun u => True) (fun u => [(5, .int .i64 0)]) (fun u => []) (fun u => 0) (()) trivial ?_
  rintro u hI
  refine g_seq ?_
  refine g_sr ?_
  refine Li Mv ?_
  refine Li Mv ?_
  refine Li (Ln T.sl_55) ?_
  refine Li Cm ?_
  refine g_ne ?_
  refine g_cond_f rfl (by rfl) ?_
  refine g_exit ?_
  refine e_then_exit ?_
  refine e_then_exit ?_
  refine e_block_hit ?_
  refine e_then ?_
  refine g_sr ?_
  refine Li As ?_
  refine g_ne ?_
  refine g_ret ?_
  refine Rt [] Tryd.results81 ?_
  exact ⟨rfl, rfl⟩
theorem close51_nil (b : Nat) (v4 v5 v6 v7 : Value) (n : Int) : FnS Tryd.prog 51 [.pointer (some ⟨b, 0, none⟩)] (fun h => ∃ k, pts b 60 (bkC nilS nilS nilS nilS v4 v5 v6 v7 n) k ∧ Le k h) [] (fun v H => v = .bool true ∧ H = []) := by
  refine fn_body Tryd.func51 rfl Tryd.ntmps51 rfl ?_
  intro F hF
  refine g_sr ?_
  refine Li As ?_
  refine g_ne ?_
  refine g_seq ?_
  refine g_sr ?_
  refine Li As ?_
  refine g_ne ?_
  refine g_block ?_
  refine Lo (ι := Unit) [11, 12, 13, 14, 15, 16, 17, 4, 20, 21, 22, 23, 24, 25, 26, 27, 28, 29, 32, 33, 34, 35, 36, 37, 38, 39, 40, 41, 42, 43, 30, 31, 18, 19, 3] (fun u => True) (fun u => [(3, .int .i64 0)]) (fun u => []) (fun u => 0) (()) trivial ?_
  rintro u hI
  refine g_seq ?_
  refine g_sr ?_
  refine Li Mv ?_
  refine Li Mv ?_
  refine Li Nc ?_
  refine Li (Fa T.fld_60_12) ?_
  refine Lp (oL T.sc_55 ?_)
  refine Li (Ln T.sl_55) ?_
  refine Li Cm ?_
  refine g_ne ?_
  refine g_cond_f rfl (by rfl) ?_
  refine g_exit ?_
  refine e_then_exit ?_
  refine e_then_exit ?_
  refine e_block_hit ?_
  refine e_then ?_
  refine g_seq ?_
  refine g_sr ?_
  refine Li As ?_
  refine g_ne ?_
  refine g_block ?_
  refine Lo (ι := Unit) [44, 45, 46, 47, 48, 49, 50, 53, 54, 55, 56, 57, 58, 59, 6, 7, 60, 61, 64, 65, 66, 67, 68, 69, 62, 63, 70, 71, 72, 73, 74, 75, 76, 77, 78, 79, 51, 52, 5] (fun u => True) (fun u => [(5, .int .i64 0)]) (fun u => []) (fun u => 0) (()) trivial ?_
  rintro u hI
  refine g_seq ?_
  refine g_sr ?_
  refine Li Mv ?_
  refine Li Mv ?_
  refine Li Nc ?_
  refine Li (Fa T.fld_60_12) ?_
  refine Lp (oL T.sc_55 ?_)
  refine Li (Ln T.sl_55) ?_
  refine Li Cm ?_
  refine g_ne ?_
  refine g_cond_f rfl (by rfl) ?_
  refine g_exit ?_
  refine e_then_exit ?_
  refine e_then_exit ?_
  refine e_block_hit ?_
  refine e_then ?_
  refine g_seq ?_
  refine g_sr ?_
  refine Li Mv ?_
  refine Li Mv ?_
  refine Li Nc ?_
  refine Li (Fa T.fld_60_14) ?_
  refine Lp (oL T.sc_55 ?_)
  refine Lp (oC T.fn_81 rfl rfl (look81_nil b 0) .nil (fun _ _ _ => trivial) ?_)
  rintro v H' ⟨rfl, rfl⟩
  try simp only [nap, cap]
  refine Li Nt ?_
  refine g_ne ?_
  refine g_cond_f rfl (by rfl) ?_
  refine g_skip ?_
  refine e_then ?_
  refine g_seq ?_
  refine g_sr ?_
  refine Li As ?_
  refine g_ne ?_
  refine g_block ?_
  refine Lo (ι := Unit) [87, 88, 89, 90, 91, 92, 93, 9, 10, 96, 97, 100, 101, 102, 103, 104, 105, 98, 99, 106, 107, 108, 109, 110, 111, 112, 113, 114, 115, 116, 117, 118, 119, 120, 121, 122, 123, 94, 95, 8] (fun u => True) (fun u => [(8, .int .i64 0)]) (fun u => []) (fun u => 0) (()) trivial ?_
  rintro u hI
  refine g_seq ?_
  refine g_sr ?_
  refine Li Mv ?_
  refine Li Mv ?_
  refine Li Nc ?_
  refine Li (Fa T.fld_60_12) ?_
  refine Lp (oL T.sc_55 ?_)
  refine Li (Ln T.sl_55) ?_
  refine Li Cm ?_
  refine g_ne ?_
  refine g_cond_f rfl (by rfl) ?_
  refine g_exit ?_
  refine e_then_exit ?_
  refine e_then_exit ?_
  refine e_block_hit ?_
  refine e_then ?_
  refine g_sr ?_
  refine Li Mv ?_
  refine Li Mv ?_
  refine Li Nc ?_
  refine Li (Fa T.fld_60_15) ?_
  refine Lp (oL T.sc_55 ?_)
  refine Lp (oC T.fn_81 rfl rfl (look81_nil b 0) .nil (fun _ _ _ => trivial) ?_)
  rintro v H' ⟨rfl, rfl⟩
  try simp only [nap, cap]
  refine Li Mv ?_
  refine g_slot (t := 130) (v' := .bool true) rfl (congrArg Value.bool (by rfl)) ?_
  refine Li Mv ?_
  refine Li Mv ?_
  refine Li Nc ?_
  refine Li (Fa T.fld_60_14) ?_
  refine Lp (oL T.sc_55 ?_)
  refine Lp (oC T.fn_81 rfl rfl (look81_nil b 0) .nil (fun _ _ _ => trivial) ?_)
  rintro v H' ⟨rfl, rfl⟩
  try simp only [nap, cap]
  refine Li Pt ?_
  refine Li As ?_
  refine g_ne ?_
  refine g_ret ?_
  refine Rt [] Tryd.results51 ?_
  exact ⟨rfl, rfl⟩
theorem look82_nil (b : Nat) (c : Nat) : FnS Tryd.prog 82 [.pointer (some ⟨b, 0, none⟩), .slice none 0 0] (fun _ => True) [] (fun v H => v = .bool true ∧ H = []) := by
  refine fn_body Tryd.func82 rfl Tryd.ntmps82 rfl ?_
  intro F hF
  refine g_sr ?_
  refine Li As ?_
  refine g_ne ?_
  refine g_seq ?_
  refine g_sr ?_
  refine Li As ?_
  refine g_ne ?_
  refine g_block ?_
  refine Lo (ι := Unit) [8, 9, 10, 11, 14, 15, 16, 17, 18, 19, 20, 21, 6, 7, 22, 23, 24, 25, 26, 27, 28, 31, 32, 33, 34, 35, 36, 37, 38, 39, 40, 41, 42, 43, 44, 45, 46, 47, 48, 49, 50, 51, 52, 53, 54, 55, 56, 57, 58, 59, 60, 61, 62, 63, 64, 65, 66, 67, 68, 69, 70, 71, 72, 73, 74, 75, 76, 77, 78, 79, 80, 81, 4, 29, 30, 12, 13, 5] (fun u => True) (fun u => [(5, .int .i64 0)]) (fun u => []) (fun u => 0) (()) trivial ?_
  rintro u hI
  refine g_seq ?_
  refine g_sr ?_
  refine Li Mv ?_
  refine Li Mv ?_
  refine Li (Ln T.sl_56) ?_
  refine Li Cm ?_
  refine g_ne ?_
  refine g_cond_f rfl (by rfl) ?_
  refine g_exit ?_
  refine e_then_exit ?_
  refine e_then_exit ?_
  refine e_block_hit ?_
  refine e_then ?_
  refine g_sr ?_
  refine Li As ?_
  refine g_ne ?_
  refine g_ret ?_
  refine Rt [] Tryd.results82 ?_
  exact ⟨rfl, rfl⟩
theorem close52_nil (b : Nat) (v4 v5 v6 v7 : Value) (n : Int) : FnS Tryd.prog 52 [.pointer (some ⟨b, 0, none⟩)] (fun h => ∃ k, pts b 60 (bkC nilS nilS nilS nilS v4 v5 v6 v7 n) k ∧ Le k h) [] (fun v H => v = .bool true ∧ H = []) := by
  refine fn_body Tryd.func52 rfl Tryd.ntmps52 rfl ?_
  intro F hF
  refine g_sr ?_
  refine Li As ?_
  refine g_ne ?_
  refine g_seq ?_
  refine g_sr ?_
  refine Li As ?_
  refine g_ne ?_
  refine g_block ?_
  refine Lo (ι := Unit) [11, 12, 13, 14, 15, 16, 17, 4, 20, 21, 22, 23, 24, 25, 26, 27, 28, 29, 32, 33, 34, 35, 36, 37, 38, 39, 40, 41, 42, 43, 30, 31, 18, 19, 3] (fun u => True) (fun u => [(3, .int .i64 0)]) (fun u => []) (fun u => 0) (()) trivial ?_
  rintro u hI
  refine g_seq ?_
  refine g_sr ?_
  refine Li Mv ?_
  refine Li Mv ?_
  refine Li Nc ?_
  refine Li (Fa T.fld_60_16) ?_
  refine Lp (oL T.sc_56 ?_)
  refine Li (Ln T.sl_56) ?_
  refine Li Cm ?_
  refine g_ne ?_
  refine g_cond_f rfl (by rfl) ?_
  refine g_exit ?_
  refine e_then_exit ?_
  refine e_then_exit ?_
  refine e_block_hit ?_
  refine e_then ?_
  refine g_seq ?_
  refine g_sr ?_
  refine Li As ?_
  refine g_ne ?_
  refine g_block ?_
  refine Lo (ι := Unit) [44, 45, 46, 47, 48, 49, 50, 53, 54, 55, 56, 57, 58, 59, 6, 7, 60, 61, 64, 65, 66, 67, 68, 69, 70, 62, 63, 71, 72, 73, 74, 75, 76, 77, 78, 79, 80, 51, 52, 5] (fun u => True) (fun u => [(5, .int .i64 0)]) (fun u => []) (fun u => 0) (()) trivial ?_
  rintro u hI
  refine g_seq ?_
  refine g_sr ?_
  refine Li Mv ?_
  refine Li Mv ?_
  refine Li Nc ?_
  refine Li (Fa T.fld_60_16) ?_
  refine Lp (oL T.sc_56 ?_)
  refine Li (Ln T.sl_56) ?_
  refine Li Cm ?_
  refine g_ne ?_
  refine g_cond_f rfl (by rfl) ?_
  refine g_exit ?_
  refine e_then_exit ?_
  refine e_then_exit ?_
  refine e_block_hit ?_
  refine e_then ?_
  refine g_seq ?_
  refine g_sr ?_
  refine Li Mv ?_
  refine Li Mv ?_
  refine Li Nc ?_
  refine Li (Fa T.fld_60_17) ?_
  refine Lp (oL T.sc_56 ?_)
  refine Lp (oC T.fn_82 rfl rfl (look82_nil b 0) .nil (fun _ _ _ => trivial) ?_)
  rintro v H' ⟨rfl, rfl⟩
  try simp only [nap, cap]
  refine Li Nt ?_
  refine g_ne ?_
  refine g_cond_f rfl (by rfl) ?_
  refine g_skip ?_
  refine e_then ?_
  refine g_seq ?_
  refine g_sr ?_
  refine Li As ?_
  refine g_ne ?_
  refine g_block ?_
  refine Lo (ι := Unit) [88, 89, 90, 91, 92, 93, 94, 9, 10, 97, 98, 101, 102, 103, 104, 105, 106, 107, 99, 100, 108, 109, 110, 111, 112, 113, 114, 115, 116, 117, 118, 119, 120, 121, 122, 123, 124, 125, 95, 96, 8] (fun u => True) (fun u => [(8, .int .i64 0)]) (fun u => []) (fun u => 0) (()) trivial ?_
  rintro u hI
  refine g_seq ?_
  refine g_sr ?_
  refine Li Mv ?_
  refine Li Mv ?_
  refine Li Nc ?_
  refine Li (Fa T.fld_60_16) ?_
  refine Lp (oL T.sc_56 ?_)
  refine Li (Ln T.sl_56) ?_
  refine Li Cm ?_
  refine g_ne ?_
  refine g_cond_f rfl (by rfl) ?_
  refine g_exit ?_
  refine e_then_exit ?_
  refine e_then_exit ?_
  refine e_block_hit ?_
  refine e_then ?_
  refine g_sr ?_
  refine Li Mv ?_
  refine Li Mv ?_
  refine Li Nc ?_
  refine Li (Fa T.fld_60_18) ?_
  refine Lp (oL T.sc_56 ?_)
  refine Lp (oC T.fn_82 rfl rfl (look82_nil b 0) .nil (fun _ _ _ => trivial) ?_)
  rintro v H' ⟨rfl, rfl⟩
  try simp only [nap, cap]
  refine Li Mv ?_
  refine g_slot (t := 132) (v' := .bool true) rfl (congrArg Value.bool (by rfl)) ?_
  refine Li Mv ?_
  refine Li Mv ?_
  refine Li Nc ?_
  refine Li (Fa T.fld_60_17) ?_
  refine Lp (oL T.sc_56 ?_)
  refine Lp (oC T.fn_82 rfl rfl (look82_nil b 0) .nil (fun _ _ _ => trivial) ?_)
  rintro v H' ⟨rfl, rfl⟩
  try simp only [nap, cap]
  refine Li Pt ?_
  refine Li As ?_
  refine g_ne ?_
  refine g_ret ?_
  refine Rt [] Tryd.results52 ?_
  exact ⟨rfl, rfl⟩
theorem look83_nil (b : Nat) (c : Nat) : FnS Tryd.prog 83 [.pointer (some ⟨b, 0, none⟩), .slice none 0 0] (fun _ => True) [] (fun v H => v = .bool true ∧ H = []) := by
  refine fn_body Tryd.func83 rfl Tryd.ntmps83 rfl ?_
  intro F hF
  refine g_sr ?_
  refine Li As ?_
  refine g_ne ?_
  refine g_seq ?_
  refine g_sr ?_
  refine Li As ?_
  refine g_ne ?_
  refine g_block ?_
  refine Lo (ι := Unit) [8, 9, 10, 11, 14, 15, 16, 17, 18, 19, 20, 21, 6, 7, 22, 23, 24, 25, 26, 27, 28, 31, 32, 33, 34, 35, 36, 37, 38, 39, 40, 41, 42, 43, 44, 45, 46, 47, 48, 49, 50, 51, 52, 53, 54, 55, 56, 57, 58, 59, 60, 61, 62, 63, 64, 65, 66, 67, 68, 69, 70, 71, 72, 73, 74, 75, 76, 77, 78, 79, 80, 81, 4, 29, 30, 12, 13, 5] (fun u => True) (fun u => [(5, .int .i64 0)]) (fun u => []) (fun u => 0) (()) trivial ?_
  rintro u hI
  refine g_seq ?_
  refine g_sr ?_
  refine Li Mv ?_
  refine Li Mv ?_
  refine Li (Ln T.sl_57) ?_
  refine Li Cm ?_
  refine g_ne ?_
  refine g_cond_f rfl (by rfl) ?_
  refine g_exit ?_
  refine e_then_exit ?_
  refine e_then_exit ?_
  refine e_block_hit ?_
  refine e_then ?_
  refine g_sr ?_
  refine Li As ?_
  refine g_ne ?_
  refine g_ret ?_
  refine Rt [] Tryd.results83 ?_
  exact ⟨rfl, rfl⟩
theorem close53_nil (b : Nat) (v4 v5 v6 v7 : Value) (n : Int) : FnS Tryd.prog 53 [.pointer (some ⟨b, 0, none⟩)] (fun h => ∃ k, pts b 60 (bkC nilS nilS nilS nilS v4 v5 v6 v7 n) k ∧ Le k h) [] (fun v H => v = .bool true ∧ H = []) := by
  refine fn_body Tryd.func53 rfl Tryd.ntmps53 rfl ?_
  intro F hF
  refine g_sr ?_
  refine Li As ?_
  refine g_ne ?_
  refine g_seq ?_
  refine g_sr ?_
  refine Li As ?_
  refine g_ne ?_
  refine g_block ?_
  refine Lo (ι := Unit) [11, 12, 13, 14, 15, 16, 17, 4, 20, 21, 22, 23, 24, 25, 26, 27, 28, 29, 32, 33, 34, 35, 36, 37, 38, 39, 40, 41, 42, 43, 30, 31, 18, 19, 3] (fun u => True) (fun u => [(3, .int .i64 0)]) (fun u => []) (fun u => 0) (()) trivial ?_
  rintro u hI
  refine g_seq ?_
  refine g_sr ?_
  refine Li Mv ?_
  refine Li Mv ?_
  refine Li Nc ?_
  refine Li (Fa T.fld_60_19) ?_
  refine Lp (oL T.sc_57 ?_)
  refine Li (Ln T.sl_57) ?_
  refine Li Cm ?_
  refine g_ne ?_
  refine g_cond_f rfl (by rfl) ?_
  refine g_exit ?_
  refine e_then_exit ?_
  refine e_then_exit ?_
  refine e_block_hit ?_
  refine e_then ?_
  refine g_seq ?_
  refine g_sr ?_
  refine Li As ?_
  refine g_ne ?_
  refine g_block ?_
  refine Lo (ι := Unit) [44, 45, 46, 47, 48, 49, 50, 53, 54, 55, 56, 57, 58, 59, 6, 7, 60, 61, 64, 65, 66, 67, 68, 69, 70, 62, 63, 71, 72, 73, 74, 75, 76, 77, 78, 79, 80, 51, 52, 5] (fun u => True) (fun u => [(5, .int .i64 0)]) (fun u => []) (fun u => 0) (()) trivial ?_
  rintro u hI
  refine g_seq ?_
  refine g_sr ?_
  refine Li Mv ?_
  refine Li Mv ?_
  refine Li Nc ?_
  refine Li (Fa T.fld_60_19) ?_
  refine Lp (oL T.sc_57 ?_)
  refine Li (Ln T.sl_57) ?_
  refine Li Cm ?_
  refine g_ne ?_
  refine g_cond_f rfl (by rfl) ?_
  refine g_exit ?_
  refine e_then_exit ?_
  refine e_then_exit ?_
  refine e_block_hit ?_
  refine e_then ?_
  refine g_seq ?_
  refine g_sr ?_
  refine Li Mv ?_
  refine Li Mv ?_
  refine Li Nc ?_
  refine Li (Fa T.fld_60_20) ?_
  refine Lp (oL T.sc_57 ?_)
  refine Lp (oC T.fn_83 rfl rfl (look83_nil b 0) .nil (fun _ _ _ => trivial) ?_)
  rintro v H' ⟨rfl, rfl⟩
  try simp only [nap, cap]
  refine Li Nt ?_
  refine g_ne ?_
  refine g_cond_f rfl (by rfl) ?_
  refine g_skip ?_
  refine e_then ?_
  refine g_seq ?_
  refine g_sr ?_
  refine Li As ?_
  refine g_ne ?_
  refine g_block ?_
  refine Lo (ι := Unit) [88, 89, 90, 91, 92, 93, 94, 9, 10, 97, 98, 101, 102, 103, 104, 105, 106, 107, 99, 100, 108, 109, 110, 111, 112, 113, 114, 115, 116, 117, 118, 119, 120, 121, 122, 123, 124, 125, 95, 96, 8] (fun u => True) (fun u => [(8, .int .i64 0)]) (fun u => []) (fun u => 0) (()) trivial ?_
  rintro u hI
  refine g_seq ?_
  refine g_sr ?_
  refine Li Mv ?_
  refine Li Mv ?_
  refine Li Nc ?_
  refine Li (Fa T.fld_60_19) ?_
  refine Lp (oL T.sc_57 ?_)
  refine Li (Ln T.sl_57) ?_
  refine Li Cm ?_
  refine g_ne ?_
  refine g_cond_f rfl (by rfl) ?_
  refine g_exit ?_
  refine e_then_exit ?_
  refine e_then_exit ?_
  refine e_block_hit ?_
  refine e_then ?_
  refine g_sr ?_
  refine Li Mv ?_
  refine Li Mv ?_
  refine Li Nc ?_
  refine Li (Fa T.fld_60_21) ?_
  refine Lp (oL T.sc_57 ?_)
  refine Lp (oC T.fn_83 rfl rfl (look83_nil b 0) .nil (fun _ _ _ => trivial) ?_)
  rintro v H' ⟨rfl, rfl⟩
  try simp only [nap, cap]
  refine Li Mv ?_
  refine g_slot (t := 132) (v' := .bool true) rfl (congrArg Value.bool (by rfl)) ?_
  refine Li Mv ?_
  refine Li Mv ?_
  refine Li Nc ?_
  refine Li (Fa T.fld_60_20) ?_
  refine Lp (oL T.sc_57 ?_)
  refine Lp (oC T.fn_83 rfl rfl (look83_nil b 0) .nil (fun _ _ _ => trivial) ?_)
  rintro v H' ⟨rfl, rfl⟩
  try simp only [nap, cap]
  refine Li Pt ?_
  refine Li As ?_
  refine g_ne ?_
  refine g_ret ?_
  refine Rt [] Tryd.results53 ?_
  exact ⟨rfl, rfl⟩
theorem look84_nil (b : Nat) (c : Nat) : FnS Tryd.prog 84 [.pointer (some ⟨b, 0, none⟩), .slice none 0 0] (fun _ => True) [] (fun v H => v = .bool true ∧ H = []) := by
  refine fn_body Tryd.func84 rfl Tryd.ntmps84 rfl ?_
  intro F hF
  refine g_sr ?_
  refine Li As ?_
  refine g_ne ?_
  refine g_seq ?_
  refine g_sr ?_
  refine Li As ?_
  refine g_ne ?_
  refine g_block ?_
  refine Lo (ι := Unit) [8, 9, 10, 11, 14, 15, 16, 17, 18, 19, 20, 21, 6, 7, 22, 23, 24, 25, 26, 27, 28, 31, 32, 33, 34, 35, 36, 37, 38, 39, 40, 41, 42, 43, 44, 45, 46, 47, 48, 49, 50, 51, 52, 53, 54, 55, 56, 57, 58, 59, 60, 61, 62, 63, 64, 65, 66, 67, 68, 69, 70, 71, 72, 73, 74, 75, 76, 77, 78, 79, 80, 4, 29, 30, 12, 13, 5] (fun u => True) (fun u => [(5, .int .i64 0)]) (fun u => []) (fun u => 0) (()) trivial ?_
  rintro u hI
  refine g_seq ?_
  refine g_sr ?_
  refine Li Mv ?_
  refine Li Mv ?_
  refine Li (Ln T.sl_58) ?_
  refine Li Cm ?_
  refine g_ne ?_
  refine g_cond_f rfl (by rfl) ?_
  refine g_exit ?_
  refine e_then_exit ?_
  refine e_then_exit ?_
  refine e_block_hit ?_
  refine e_then ?_
  refine g_sr ?_
  refine Li As ?_
  refine g_ne ?_
  refine g_ret ?_
  refine Rt [] Tryd.results84 ?_
  exact ⟨rfl, rfl⟩
theorem close54_nil (b : Nat) (v4 v5 v6 v7 : Value) (n : Int) : FnS Tryd.prog 54 [.pointer (some ⟨b, 0, none⟩)] (fun h => ∃ k, pts b 60 (bkC nilS nilS nilS nilS v4 v5 v6 v7 n) k ∧ Le k h) [] (fun v H => v = .bool true ∧ H = []) := by
  refine fn_body Tryd.func54 rfl Tryd.ntmps54 rfl ?_
  intro F hF
  refine g_sr ?_
  refine Li As ?_
  refine g_ne ?_
  refine g_seq ?_
  refine g_sr ?_
  refine Li As ?_
  refine g_ne ?_
  refine g_block ?_
  refine Lo (ι := Unit) [11, 12, 13, 14, 15, 16, 17, 4, 20, 21, 22, 23, 24, 25, 26, 27, 28, 29, 32, 33, 34, 35, 36, 37, 38, 39, 40, 41, 42, 43, 30, 31, 18, 19, 3] (fun u => True) (fun u => [(3, .int .i64 0)]) (fun u => []) (fun u => 0) (()) trivial ?_
  rintro u hI
  refine g_seq ?_
  refine g_sr ?_
  refine Li Mv ?_
  refine Li Mv ?_
  refine Li Nc ?_
  refine Li (Fa T.fld_60_22) ?_
  refine Lp (oL T.sc_58 ?_)
  refine Li (Ln T.sl_58) ?_
  refine Li Cm ?_
  refine g_ne ?_
  refine g_cond_f rfl (by rfl) ?_
  refine g_exit ?_
  refine e_then_exit ?_
  refine e_then_exit ?_
  refine e_block_hit ?_
  refine e_then ?_
  refine g_seq ?_
  refine g_sr ?_
  refine Li As ?_
  refine g_ne ?_
  refine g_block ?_
  refine Lo (ι := Unit) [44, 45, 46, 47, 48, 49, 50, 53, 54, 55, 56, 57, 58, 59, 6, 7, 60, 61, 64, 65, 66, 67, 68, 69, 62, 63, 70, 71, 72, 73, 74, 75, 76, 77, 78, 79, 51, 52, 5] (fun u => True) (fun u => [(5, .int .i64 0)]) (fun u => []) (fun u => 0) (()) trivial ?_
  rintro u hI
  refine g_seq ?_
  refine g_sr ?_
  refine Li Mv ?_
  refine Li Mv ?_
  refine Li Nc ?_
  refine Li (Fa T.fld_60_22) ?_
  refine Lp (oL T.sc_58 ?_)
  refine Li (Ln T.sl_58) ?_
  refine Li Cm ?_
  refine g_ne ?_
  refine g_cond_f rfl (by rfl) ?_
  refine g_exit ?_
  refine e_then_exit ?_
  refine e_then_exit ?_
  refine e_block_hit ?_
  refine e_then ?_
  refine g_seq ?_
  refine g_sr ?_
  refine Li Mv ?_
  refine Li Mv ?_
  refine Li Nc ?_
  refine Li (Fa T.fld_60_23) ?_
  refine Lp (oL T.sc_58 ?_)
  refine Lp (oC T.fn_84 rfl rfl (look84_nil b 0) .nil (fun _ _ _ => trivial) ?_)
  rintro v H' ⟨rfl, rfl⟩
  try simp only [nap, cap]
  refine Li Nt ?_
  refine g_ne ?_
  refine g_cond_f rfl (by rfl) ?_
  refine g_skip ?_
  refine e_then ?_
  refine g_seq ?_
  refine g_sr ?_
  refine Li As ?_
  refine g_ne ?_
  refine g_block ?_
  refine Lo (ι := Unit) [87, 88, 89, 90, 91, 92, 93, 9, 10, 96, 97, 100, 101, 102, 103, 104, 105, 98, 99, 106, 107, 108, 109, 110, 111, 112, 113, 114, 115, 116, 117, 118, 119, 120, 121, 122, 123, 94, 95, 8] (fun u => True) (fun u => [(8, .int .i64 0)]) (fun u => []) (fun u => 0) (()) trivial ?_
  rintro u hI
  refine g_seq ?_
  refine g_sr ?_
  refine Li Mv ?_
  refine Li Mv ?_
  refine Li Nc ?_
  refine Li (Fa T.fld_60_22) ?_
  refine Lp (oL T.sc_58 ?_)
  refine Li (Ln T.sl_58) ?_
  refine Li Cm ?_
  refine g_ne ?_
  refine g_cond_f rfl (by rfl) ?_
  refine g_exit ?_
  refine e_then_exit ?_
  refine e_then_exit ?_
  refine e_block_hit ?_
  refine e_then ?_
  refine g_sr ?_
  refine Li Mv ?_
  refine Li Mv ?_
  refine Li Nc ?_
  refine Li (Fa T.fld_60_24) ?_
  refine Lp (oL T.sc_58 ?_)
  refine Lp (oC T.fn_84 rfl rfl (look84_nil b 0) .nil (fun _ _ _ => trivial) ?_)
  rintro v H' ⟨rfl, rfl⟩
  try simp only [nap, cap]
  refine Li Mv ?_
  refine g_slot (t := 130) (v' := .bool true) rfl (congrArg Value.bool (by rfl)) ?_
  refine Li Mv ?_
  refine Li Mv ?_
  refine Li Nc ?_
  refine Li (Fa T.fld_60_23) ?_
  refine Lp (oL T.sc_58 ?_)
  refine Lp (oC T.fn_84 rfl rfl (look84_nil b 0) .nil (fun _ _ _ => trivial) ?_)
  rintro v H' ⟨rfl, rfl⟩
  try simp only [nap, cap]
  refine Li Pt ?_
  refine Li As ?_
  refine g_ne ?_
  refine g_ret ?_
  refine Rt [] Tryd.results54 ?_
  exact ⟨rfl, rfl⟩
end Go.Proofs.YtdmepoiijgejhaaDoor

