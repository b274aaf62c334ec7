/- Lists that are lent: is all as it was? Then it is written over. -/
import Derived.Test.YtggmpaggmkfmoaaD8
set_option maxRecDepth 100000
namespace Go.Proofs.Ytggmpaggmkfmoaa
open Go Go.Eng

theorem ln_rows {h : Hp} {xs : List Bi} (s : ∃ k, stars (xs.map Qb) k ∧ Le k h) : ∀ x ∈ xs, (x.r.n = x.L.length ∧ x.w.n = x.L.length) ∧ Rdl h x.r.a (bcells x.L) ∧ Rdl h x.w.a (bcells x.L) := fun x hx => by
  obtain ⟨k, s, le⟩ := s
  have := stars_all (f := Qb) (X := fun x h => (x.r.n = x.L.length ∧ x.w.n = x.L.length) ∧ Rdl h x.r.a (bcells x.L) ∧ Rdl h x.w.a (bcells x.L)) (fun x k q => by
    obtain ⟨q1, h1, h2, d, l1, l2, o1, h3, h4, d', l3, l4, o2, _⟩ := q
    exact ⟨q1, (own_rdl o1).mono l1, (own_rdl o2).mono (l3.trans l2)⟩) (fun x k l q le => ⟨q.1, q.2.1.mono le, q.2.2.mono le⟩) _ _ s x hx
  exact ⟨this.1, this.2.1.mono le, this.2.2.mono le⟩
set_option maxHeartbeats 4000000 in
theorem lBack_fn (b : Nat) (ai : Option Addr) (ci : Nat) (aw : Option Addr) (cw : Nat) (xs : List Bi) (hx : xs.length ≤ 1000) (hL : ∀ x ∈ xs, x.L.length ≤ 200000) :
    FnS Try.prog 18 [.pointer (some ⟨b, 0, none⟩)] (fun _ => True) (lnH b ai ci aw cw xs) (fun v H => v = .bool true ∧ H = [pts b 35 (lnC nilS nilS)]) := by
  have hbl := bir_len xs
  have hwl := biw_len xs
  refine fn_body Try.func18 rfl Try.ntmps18 rfl ?_
  intro F hF


  refine g_heap (H' := [pts b 35 (lnC (.slice ai xs.length ci) (.slice aw xs.length cw)), own ai ci 37 1 (xs.map bir), own aw cw 37 1 (xs.map biw), stars (xs.map Qb)]) (fun _ q => q) ?_
  refine g_sr ?_
  refine Li As ?_
  refine g_ne ?_
  refine g_seq ?_
  refine g_sr ?_
  refine Li As ?_
  refine g_ne ?_
  refine g_block ?_
  refine Lo (ι := Nat) [9, 10, 11, 12, 13, 14, 15, 18, 19, 20, 21, 22, 23, 24, 25, 26, 27, 28, 29, 30, 31, 32, 33, 34, 2, 16, 17, 3] (fun i => i ≤ xs.length) (fun i => [(3, .int .i64 (i : Int))]) (fun i => [pts b 35 (lnC (.slice ai xs.length ci) (.slice aw xs.length cw)), own ai ci 37 1 (xs.map bir), own aw cw 37 1 (xs.map biw), stars (xs.map Qb)]) (fun i => xs.length - i) (0) (Nat.zero_le _) ?_
  rintro i hi
  refine g_seq ?_
  refine g_sr ?_
  refine Li Mv ?_
  refine Li Mv ?_
  refine Li Nc ?_
  refine Li (Fa T.fld_35_0) ?_
  refine Lp (oL T.sc_24 ?_)
  refine Li (Ln T.sl_24) ?_
  refine Li Cm ?_
  refine g_ne ?_
  refine g_cond rfl ?_ ?_
  · intro h1
    replace h1 := nrm h1
    obtain ⟨x, e1⟩ : ∃ x, xs[i]? = some x := ⟨_, List.getElem?_eq_getElem (show i < xs.length by omega)⟩
    have hmem := List.mem_of_getElem? e1
    have s1 : (xs.map bir)[i]? = some (.slice x.r.a x.r.n x.r.c) := by simp [e1, bir, slv]
    have s2 : (xs.map biw)[i]? = some (.slice x.w.a x.w.n x.w.c) := by simp [e1, biw, slv]
    refine g_skip ?_
    refine e_then ?_
    refine g_seq ?_
    refine g_block ?_
    refine g_seq ?_
    refine g_drw T.mix (.cons .here (.cons .here (.cons .here (.cons .here .nil)))) fun F1 le1 hin1 back1 => ?_
    obtain ⟨hb0, hb1, hb2, hb3, _⟩ := hin1
    obtain ⟨⟨n1, n2⟩, r1, r2⟩ := ln_rows hb3 x hmem
    have hri := own_in hb1
    have hrw := own_in hb2
    have a1 : ai.isSome = true := hri.some (by omega)
    have a2 : aw.isSome = true := hrw.some (by omega)
    refine Dt 0 rfl Mv ?_
    refine Dt 1 rfl Nc ?_
    refine Dt 2 rfl (Fa T.fld_35_0) ?_
    refine Dt 3 rfl (Lf T.sc_24) ?_
    refine Dt 4 rfl Mv ?_
    refine Dt 5 rfl (Ix T.sl_24) ?_
    refine Dt 6 rfl (Lf T.sc_37) ?_
    refine Dt 7 rfl (Ts T.sl_37 T.u_5 T.u_9) ?_
    refine Dt 8 rfl Mv ?_
    refine Dt 9 rfl Nc ?_
    refine Dt 10 rfl (Fa T.fld_35_1) ?_
    refine Dt 11 rfl (Lf T.sc_24) ?_
    refine Dt 12 rfl Mv ?_
    refine Dt 13 rfl (Ix T.sl_24) ?_
    refine Dt 14 rfl (Lf T.sc_37) ?_
    refine Dt 15 rfl (Ts T.sl_37 T.u_5 T.u_9) ?_
    refine Dt 16 rfl Sq ?_
    refine gh_done (by kernel_rfl) back1 ?_
    refine e_then ?_
    refine g_cond_f rfl (by simp) ?_
    refine g_skip ?_
    refine e_block ?_
    refine e_then ?_
    refine g_region ?_
    refine Li Mv ?_
    refine Li Im ?_
    refine Li As ?_
    refine g_nil ?_
    refine Ro (i + 1) ((by omega)) (by omega)
  · intro h1
    replace h1 := nrm h1
    refine g_exit ?_
    refine e_then_exit ?_
    refine e_then_exit ?_
    refine e_block_hit ?_
    refine e_then ?_
    refine g_seq ?_
    refine g_sr ?_
    refine Li As ?_
    refine g_ne ?_
    refine g_block ?_
    refine Lo (ι := Unit) [35, 36, 37, 38, 39, 40, 41, 44, 45, 46, 47, 48, 49, 50, 51, 52, 53, 54, 55, 56, 57, 58, 59, 2, 42, 43, 4] (fun u => True) (fun u => [(4, .int .i64 0)]) (fun u => [pts b 35 (lnC (.slice ai xs.length ci) (.slice aw xs.length cw)), own ai ci 37 1 (xs.map bir), own aw cw 37 1 (xs.map biw), stars (xs.map Qb)]) (fun u => 0) (()) trivial ?_
    rintro u hI
    refine g_seq ?_
    refine g_sr ?_
    refine Li Mv ?_
    refine Li Mv ?_
    refine Li Nc ?_
    refine Li (Fa T.fld_35_2) ?_
    refine Lp (oL T.sc_26 ?_)
    refine Li (Ln T.sl_26) ?_
    refine Li Cm ?_
    refine g_ne ?_
    refine g_cond_f rfl (by rfl) ?_
    have hrl : (xs.map (·.r)).length = xs.length := by simp
    refine g_fact (X := ∀ x ∈ xs, x.r.n = x.L.length) (fun h hin => fun x hx => ((ln_rows (hin.nth 3 rfl)) x hx).1.1) fun hrn => ?_
    refine g_heap (H' := [pts b 35 (lnC (.slice ai xs.length ci) (.slice aw xs.length cw)), own ai ci 37 1 (xs.map bir), stars (((xs.map (·.r)).drop 0).map P0)]) (fun h q => ?_) ?_
    · have q1 : starL [pts b 35 (lnC (.slice ai xs.length ci) (.slice aw xs.length cw)), own ai ci 37 1 (xs.map bir), stars (xs.map Qb)] h := ents (As := [_, _, _]) (.cons .here (.cons .here (.cons (.there .here) .nil))) h q
      rw [List.drop_zero, List.map_map]
      refine starL_tail (fun k s => starL_tail (fun l t => starL_cons_mono (fun m u => ?_) t) s) q1
      exact stars_mono (f := Qb) (g := P0 ∘ fun x : Bi => x.r) (fun x k p => Qb_P0 x k p) _ _ u
    generalize hrs : xs.map (·.r) = rs at *
    refine g_exit ?_
    refine e_then_exit ?_
    refine e_then_exit ?_
    refine e_block_hit ?_
    refine e_then ?_
    refine g_seq ?_
    refine g_sr ?_
    refine Li As ?_
    refine g_ne ?_
    refine g_block ?_
    refine Lo (ι := Nat) [60, 61, 62, 63, 64, 65, 66, 6, 69, 70, 71, 72, 73, 74, 75, 76, 77, 78, 81, 82, 83, 84, 85, 86, 87, 88, 89, 79, 80, 67, 68, 5] (fun i => i ≤ xs.length) (fun i => [(5, .int .i64 (i : Int))]) (fun i => [pts b 35 (lnC (.slice ai xs.length ci) (.slice aw xs.length cw)), own ai ci 37 1 (xs.map bir), stars ((rs.drop i).map P0)]) (fun i => xs.length - i) (0) (Nat.zero_le _) ?_
    rintro i hi
    refine g_seq ?_
    refine g_sr ?_
    refine Li Mv ?_
    refine Li Mv ?_
    refine Li Nc ?_
    refine Li (Fa T.fld_35_0) ?_
    refine Lp (oL T.sc_24 ?_)
    refine Li (Ln T.sl_24) ?_
    refine Li Cm ?_
    refine g_ne ?_
    refine g_cond rfl ?_ ?_
    · intro h2
      replace h2 := nrm h2
      obtain ⟨x, e1⟩ : ∃ x, xs[i]? = some x := ⟨_, List.getElem?_eq_getElem (show i < xs.length by omega)⟩
      have hmem := List.mem_of_getElem? e1
      have er : rs[i]? = some x.r := by rw [← hrs]; simp [e1]
      have s1 : (xs.map bir)[i]? = some (.slice x.r.a x.r.n x.r.c) := by simp [e1, bir, slv]
      have hxn := hrn x hmem
      have hxl := hL x hmem
      refine g_fact (sel_fact (.there .here) fun _ ho => own_none ho (by omega)) fun a1 => ?_
      rw [drop_at rs i x.r er, List.map_cons]
      refine Hh (H' := [stars (P0 x.r :: (rs.drop (i + 1)).map P0), pts b 35 (lnC (.slice ai xs.length ci) (.slice aw xs.length cw)), own ai ci 37 1 (xs.map bir)]) ?_
      refine g_pop ?_
      refine g_ex fun zs => g_pure fun hzs => ?_
      refine g_skip ?_
      refine e_then ?_
      refine g_seq ?_
      refine g_block ?_
      refine g_sr ?_
      refine Li As ?_
      refine g_ne ?_
      refine g_block ?_
      refine Lo (ι := Nat × List Value) [69, 70, 71, 72, 73, 74, 75, 76, 77, 78, 81, 82, 83, 84, 85, 86, 87, 88, 89, 79, 80, 6] (fun (k, ys) => k ≤ x.r.n ∧ ys.length = x.r.n) (fun (k, ys) => [(6, .int .i64 (k : Int))]) (fun (k, ys) => [own x.r.a x.r.c 5 1 ys, stars ((rs.drop (i + 1)).map P0), pts b 35 (lnC (.slice ai xs.length ci) (.slice aw xs.length cw)), own ai ci 37 1 (xs.map bir)]) (fun (k, ys) => x.r.n - k) ((0, zs)) ⟨Nat.zero_le _, hzs⟩ ?_
      rintro ⟨k, ys⟩ ⟨hk, hys⟩
      try dsimp only at hI ⊢
      try dsimp only at hk hys ⊢
      refine g_seq ?_
      refine g_sr ?_
      refine Li Mv ?_
      refine Li Mv ?_
      refine Li Nc ?_
      refine Li (Fa T.fld_35_0) ?_
      refine Lp (oL T.sc_24 ?_)
      refine Li Mv ?_
      refine Li (Ix T.sl_24) ?_
      refine Lp (oL T.sc_37 ?_)
      refine Li (Ln T.sl_37) ?_
      refine Li Cm ?_
      refine g_ne ?_
      refine g_cond rfl ?_ ?_
      · intro h3
        replace h3 := nrm h3
        refine g_fact (sel_fact .here fun _ ho => own_none ho (by omega)) fun ha => ?_
        refine g_skip ?_
        refine e_then ?_
        refine g_seq ?_
        refine g_block ?_
        refine g_region ?_
        refine Li Mv ?_
        refine Li Nc ?_
        refine Li (Fa T.fld_35_0) ?_
        refine Lp (oL T.sc_24 ?_)
        refine Li Mv ?_
        refine Li (Ix T.sl_24) ?_
        refine Lp (oL T.sc_37 ?_)
        refine Li Mv ?_
        refine Li (Ix T.sl_37) ?_
        refine Lp (oSO T.sc_5 ?_)
        refine g_nil ?_
        refine e_block ?_
        refine e_then ?_
        refine g_region ?_
        refine Li Mv ?_
        refine Li Im ?_
        refine Li As ?_
        refine g_nil ?_
        refine Ro ((k + 1, ys.set k (.int .u8 90))) (⟨by omega, by rw [List.length_set]; exact hys⟩) (by omega)
      · intro h3
        replace h3 := nrm h3
        refine g_exit ?_
        refine e_then_exit ?_
        refine e_then_exit ?_
        refine e_block_hit ?_
        refine e_block ?_
        refine e_then ?_
        refine g_region ?_
        refine Li Mv ?_
        refine Li Im ?_
        refine Li As ?_
        refine g_nil ?_
        refine Ro (i + 1) ((by omega)) (by omega)
    · intro h2
      replace h2 := nrm h2
      refine Hh (H' := [pts b 35 (lnC (.slice ai xs.length ci) (.slice aw xs.length cw))]) ?_
      refine g_exit ?_
      refine e_then_exit ?_
      refine e_then_exit ?_
      refine e_block_hit ?_
      refine e_then ?_
      refine g_seq ?_
      refine g_sr ?_
      refine Li As ?_
      refine g_ne ?_
      refine g_block ?_
      refine Lo (ι := Unit) [90, 91, 92, 93, 94, 95, 96, 8, 99, 100, 101, 102, 103, 104, 105, 106, 107, 108, 111, 112, 113, 114, 115, 116, 117, 118, 119, 109, 110, 97, 98, 7] (fun u => True) (fun u => [(7, .int .i64 0)]) (fun u => [pts b 35 (lnC (.slice ai xs.length ci) (.slice aw xs.length cw))]) (fun u => 0) (()) trivial ?_
      rintro u hI
      refine g_seq ?_
      refine g_sr ?_
      refine Li Mv ?_
      refine Li Mv ?_
      refine Li Nc ?_
      refine Li (Fa T.fld_35_2) ?_
      refine Lp (oL T.sc_26 ?_)
      refine Li (Ln T.sl_26) ?_
      refine Li Cm ?_
      refine g_ne ?_
      refine g_cond_f rfl (by rfl) ?_
      refine g_exit ?_
      refine e_then_exit ?_
      refine e_then_exit ?_
      refine e_block_hit ?_
      refine e_then ?_
      refine g_sr ?_
      refine Li Mv ?_
      refine Li Mv ?_
      refine Li Mv ?_
      refine Li Mv ?_
      refine Li Nc ?_
      refine Li (Fa T.fld_35_0) ?_
      refine Lp (oS T.sc_24 ?_)
      refine Li Nc ?_
      refine Li (Fa T.fld_35_1) ?_
      refine Lp (oS T.sc_24 ?_)
      refine Li Nc ?_
      refine Li (Fa T.fld_35_2) ?_
      refine Lp (oS T.sc_26 ?_)
      refine Li Nc ?_
      refine Li (Fa T.fld_35_3) ?_
      refine Lp (oS T.sc_26 ?_)
      refine g_ne ?_
      refine g_sr ?_
      refine Li As ?_
      refine g_ne ?_
      refine g_ret ?_
      refine Rt [pts b 35 (lnC nilS nilS)] Try.results18 ?_
      exact ⟨rfl, rfl⟩
end Go.Proofs.Ytggmpaggmkfmoaa

