/- The book of lists, of bytes: closeBytes. -/
import Derived.Test.YtggmpaggmkfmoaaD3
set_option maxRecDepth 100000
namespace Go.Proofs.Ytggmpaggmkfmoaa
open Go Go.Eng

set_option maxHeartbeats 4000000 in
theorem closeI_fn (b : Nat) (ai : Option Addr) (ci : Nat) (v5 : Value) (n : Int) (rs : List Rw) (hr : rs.length ≤ 1000000) (hk : ∀ (i : Nat) (r : Rw), rs[i]? = some r → r.k = i) (hn : ∀ r ∈ rs, r.n ≤ 20000) :
    FnS Try.prog 48 [.pointer (some ⟨b, 0, none⟩)] (fun _ => True) [pts b 32 (bkC (.slice ai rs.length ci) v5 nilS nilS n), own ai ci 37 1 (rs.map slv), stars (rs.map P0)]
      (fun v H => v = .bool true ∧ ∃ v6 v7, H = [pts b 32 (bkC (.slice ai rs.length ci) v5 v6 v7 n)]) := by
  refine fn_body Try.func48 rfl Try.ntmps48 rfl ?_
  intro F hF
  have hsl := slv_len rs


  refine g_heap (fun _ s => starL_nil_stars s) ?_
  refine Hh (H' := [pts b 32 (bkC (.slice ai rs.length ci) v5 nilS nilS n), own ai ci 37 1 (rs.map slv), stars ((rs.take 0).map P1), stars ((rs.drop 0).map P0)]) ?_
  refine g_sr ?_
  refine Li As ?_
  refine g_ne ?_
  refine g_seq ?_
  refine g_sr ?_
  refine Li As ?_
  refine g_ne ?_
  refine g_block ?_
  refine Lo (ι := Nat) [11, 12, 13, 14, 15, 16, 17, 4, 20, 21, 22, 23, 24, 25, 26, 27, 28, 29, 32, 33, 34, 35, 36, 37, 38, 39, 40, 41, 42, 43, 30, 31, 18, 19, 3] (fun i => i ≤ rs.length) (fun i => [(3, .int .i64 (i : Int))]) (fun i => [pts b 32 (bkC (.slice ai rs.length ci) v5 nilS nilS n), own ai ci 37 1 (rs.map slv), stars ((rs.take i).map P1), stars ((rs.drop i).map P0)]) (fun i => rs.length - i) (0) (Nat.zero_le _) ?_
  rintro i hi
  refine g_seq ?_
  refine g_sr ?_
  refine Li Mv ?_
  refine Li Mv ?_
  refine Li Nc ?_
  refine Li (Fa T.fld_32_0) ?_
  refine Lp (oL T.sc_24 ?_)
  refine Li (Ln T.sl_24) ?_
  refine Li Cm ?_
  refine g_ne ?_
  refine g_cond rfl ?_ ?_
  · intro h1
    replace h1 := nrm h1
    obtain ⟨r, e1⟩ : ∃ r, rs[i]? = some r := ⟨_, List.getElem?_eq_getElem (show i < rs.length by omega)⟩
    have s1 := slv_at rs i r e1
    refine g_fact (sel_fact (.there .here) fun _ ho => own_none ho (by omega)) fun a1 => ?_
    have ek := hk i r e1
    have t1 : 0 ≤ (i : Int).tmod 125 := Int.tmod_nonneg 125 (by omega)
    have t2 : (i : Int).tmod 125 < 125 := Int.tmod_lt_of_pos _ (by omega)
    have en := hn r (List.mem_of_getElem? e1)
    rw [drop_at rs i r e1, List.map_cons]
    refine Hh (H' := [stars (P0 r :: (rs.drop (i + 1)).map P0), stars ((rs.take i).map P1), pts b 32 (bkC (.slice ai rs.length ci) v5 nilS nilS n), own ai ci 37 1 (rs.map slv)]) ?_
    refine g_pop ?_
    refine g_ex fun L => g_pure fun hx => ?_
    have e3 : P1 r = own r.a r.c 5 1 (kcells (mkI r.n ((i : Int).tmod 125))) := by unfold P1; rw [ek]
    have e4 : (rs.take (i + 1)).map P1 = (rs.take i).map P1 ++ [P1 r] := by rw [take_at rs i r e1, List.map_append]; rfl
    rw [e3] at e4
    obtain ⟨rk, ra, rn, rc⟩ := r
    simp only at s1 hx en e4
    refine g_heap (H' := [own ra rc 5 1 (kcells (mkI 0 ((i : Int).tmod 125)) ++ L.drop 0), stars ((rs.drop (i + 1)).map P0), stars ((rs.take i).map P1), pts b 32 (bkC (.slice ai rs.length ci) v5 nilS nilS n), own ai ci 37 1 (rs.map slv)]) (fun _ q => q) ?_
    refine g_skip ?_
    refine e_then ?_
    refine g_seq ?_
    refine g_block ?_
    refine g_sr ?_
    refine Li As ?_
    refine g_ne ?_
    refine g_block ?_
    refine Lo (ι := Nat) [20, 21, 22, 23, 24, 25, 26, 27, 28, 29, 32, 33, 34, 35, 36, 37, 38, 39, 40, 41, 42, 43, 30, 31, 4] (fun k => k ≤ rn) (fun k => [(4, .int .i64 (k : Int))]) (fun k => [own ra rc 5 1 (kcells (mkI k ((i : Int).tmod 125)) ++ L.drop k), stars ((rs.drop (i + 1)).map P0), stars ((rs.take i).map P1), pts b 32 (bkC (.slice ai rs.length ci) v5 nilS nilS n), own ai ci 37 1 (rs.map slv)]) (fun k => rn - k) (0) (Nat.zero_le _) ?_
    rintro k hkn
    have hlk := mkI_len k ((i : Int).tmod 125)
    have hwl : (kcells (mkI k ((i : Int).tmod 125)) ++ L.drop k).length = rn := by rw [List.length_append, List.length_drop]; omega
    refine g_seq ?_
    refine g_sr ?_
    refine Li Mv ?_
    refine Li Mv ?_
    refine Li Nc ?_
    refine Li (Fa T.fld_32_0) ?_
    refine Lp (oL T.sc_24 ?_)
    refine Li Mv ?_
    refine Li (Ix T.sl_24) ?_
    refine Lp (oL T.sc_37 ?_)
    refine Li (Ln T.sl_37) ?_
    refine Li Cm ?_
    refine g_ne ?_
    refine g_cond rfl ?_ ?_
    · intro h2
      replace h2 := nrm h2
      refine g_fact (sel_fact .here fun _ ho => own_none ho (by omega)) fun ha => ?_
      have e5 := int_store L k ((i : Int).tmod 125) (by omega)
      refine g_skip ?_
      refine e_then ?_
      refine g_seq ?_
      refine g_block ?_
      refine g_region ?_
      refine Li Mv ?_
      refine Li Nc ?_
      refine Li (Fa T.fld_32_0) ?_
      refine Lp (oL T.sc_24 ?_)
      refine Li Mv ?_
      refine Li (Ix T.sl_24) ?_
      refine Lp (oL T.sc_37 ?_)
      refine Li Mv ?_
      refine Li Mv ?_
      refine Li Im ?_
      refine Li (Cv T.u_5 T.us_3) ?_
      refine Li (Ix T.sl_37) ?_
      refine Lp (oSO T.sc_5 ?_)
      refine g_nil ?_
      refine e_block ?_
      refine e_then ?_
      refine g_region ?_
      refine Li Mv ?_
      refine Li Im ?_
      refine Li As ?_
      refine g_nil ?_
      rw [e5]
      refine Ro (k + 1) ((by omega)) (by omega)
    · intro h2
      replace h2 := nrm h2
      have e6 : kcells (mkI k ((i : Int).tmod 125)) ++ L.drop k = kcells (mkI rn ((i : Int).tmod 125)) := by
        rw [show k = rn from by omega, List.drop_of_length_le (by omega), List.append_nil]
      rw [e6]
      refine Hh (H' := [own ra rc 5 1 (kcells (mkI rn ((i : Int).tmod 125))), stars ((rs.take i).map P1), stars ((rs.drop (i + 1)).map P0), pts b 32 (bkC (.slice ai rs.length ci) v5 nilS nilS n), own ai ci 37 1 (rs.map slv)]) ?_
      refine g_push ?_
      rw [← e4]
      refine g_exit ?_
      refine e_then_exit ?_
      refine e_then_exit ?_
      refine e_block_hit ?_
      refine e_block ?_
      refine e_then ?_
      refine g_region ?_
      refine Li Mv ?_
      refine Li Im ?_
      refine Li As ?_
      refine g_nil ?_
      refine Ro (i + 1) ((by omega)) (by omega)
  · intro h1
    replace h1 := nrm h1
    rw [show rs.take i = rs from List.take_of_length_le (by omega)]
    clear hi h1
    refine g_nilrow 37 1 ?_
    refine g_heap (fun _ s => starL_nil_stars s) ?_
    have hz : ∀ Z : Rw × Rw → HProp, (rs.zip ([] : List Rw)).map Z = [] := fun Z => by rw [List.zip_nil_right]; rfl
    refine g_heap (H' := [pts b 32 (bkC (.slice ai rs.length ci) v5 nilS nilS n), own ai ci 37 1 (rs.map slv), own none 0 37 1 (([] : List Rw).map slv), stars ((rs.zip ([] : List Rw)).map P2), stars ((rs.drop 0).map P1)]) (by rw [hz]; exact Eh) ?_

    refine g_exit ?_
    refine e_then_exit ?_
    refine e_then_exit ?_
    refine e_block_hit ?_
    refine e_then ?_
    refine g_seq ?_
    refine g_sr ?_
    refine Li As ?_
    refine g_ne ?_
    refine g_block ?_
    refine Lo (ι := Nat × Option Addr × Nat × List Rw) [44, 45, 46, 47, 48, 49, 50, 53, 54, 55, 56, 57, 58, 59, 6, 7, 60, 61, 64, 65, 66, 67, 68, 69, 70, 62, 63, 71, 72, 73, 74, 75, 76, 77, 78, 79, 80, 51, 52, 5] (fun (i, ao, co, gs) => i ≤ rs.length ∧ gs.length = i ∧ i ≤ co) (fun (i, ao, co, gs) => [(5, .int .i64 (i : Int))]) (fun (i, ao, co, gs) => [pts b 32 (bkC (.slice ai rs.length ci) v5 (.slice ao i co) nilS n), own ai ci 37 1 (rs.map slv), own ao co 37 1 (gs.map slv), stars ((rs.zip gs).map P2), stars ((rs.drop i).map P1)]) (fun (i, ao, co, gs) => rs.length - i) ((0, none, 0, [])) ⟨Nat.zero_le _, rfl, Nat.zero_le _⟩ ?_
    rintro ⟨i, ao, co, gs⟩ ⟨hi, hgl, hco⟩
    try dsimp only at hI ⊢
    try dsimp only at hi hgl hco ⊢
    refine g_seq ?_
    refine g_sr ?_
    refine Li Mv ?_
    refine Li Mv ?_
    refine Li Nc ?_
    refine Li (Fa T.fld_32_0) ?_
    refine Lp (oL T.sc_24 ?_)
    refine Li (Ln T.sl_24) ?_
    refine Li Cm ?_
    refine g_ne ?_
    refine g_cond rfl ?_ ?_
    · intro h1
      replace h1 := nrm h1
      obtain ⟨r, e1⟩ : ∃ r, rs[i]? = some r := ⟨_, List.getElem?_eq_getElem (show i < rs.length by omega)⟩
      have s1 := slv_at rs i r e1
      refine g_fact (sel_fact (.there .here) fun _ ho => own_none ho (by omega)) fun a1 => ?_
      have ek := hk i r e1
      have en := hn r (List.mem_of_getElem? e1)
      have hgsl := slv_len gs
      have hzs := fun g => zip_snoc rs gs r g (by rw [hgl]; exact e1)
      rw [drop_at rs i r e1, List.map_cons]
      refine Hh (H' := [stars (P1 r :: (rs.drop (i + 1)).map P1), pts b 32 (bkC (.slice ai rs.length ci) v5 (.slice ao i co) nilS n), own ai ci 37 1 (rs.map slv), own ao co 37 1 (gs.map slv), stars ((rs.zip gs).map P2)]) ?_
      refine g_pop ?_
      obtain ⟨rk, ra, rn, rc⟩ := r
      simp only at s1 ek en
      subst ek
      have t1 : 0 ≤ (rk : Int).tmod 125 := Int.tmod_nonneg 125 (by omega)
      have t2 : (rk : Int).tmod 125 < 125 := Int.tmod_lt_of_pos _ (by omega)


      refine g_heap (H' := [grw ra rc 5 1 (kcells (mkI rn ((rk : Int).tmod 125))) (kcells (mkI 0 (125 + (rk : Int).tmod 125))) ra rc, pts b 32 (bkC (.slice ai rs.length ci) v5 (.slice ao rk co) nilS n), own ai ci 37 1 (rs.map slv), own ao co 37 1 (gs.map slv), stars ((rs.zip gs).map P2), stars ((rs.drop (rk + 1)).map P1)]) (fun h q => ?_) ?_
      · have q2 : starL [own ra rc 5 1 (kcells (mkI rn ((rk : Int).tmod 125))), stars ((rs.drop (rk + 1)).map P1), pts b 32 (bkC (.slice ai rs.length ci) v5 (.slice ao rk co) nilS n), own ai ci 37 1 (rs.map slv), own ao co 37 1 (gs.map slv), stars ((rs.zip gs).map P2)] h := q
        have q3 : starL [own ra rc 5 1 (kcells (mkI rn ((rk : Int).tmod 125))), pts b 32 (bkC (.slice ai rs.length ci) v5 (.slice ao rk co) nilS n), own ai ci 37 1 (rs.map slv), own ao co 37 1 (gs.map slv), stars ((rs.zip gs).map P2), stars ((rs.drop (rk + 1)).map P1)] h := ents (.cons .here (.cons (.there .here) (.cons (.there .here) (.cons (.there .here) (.cons (.there .here) (.cons .here .nil)))))) h q2
        exact starL_cons_mono (fun _ p => grw_start p) q3
      refine g_skip ?_
      refine e_then ?_
      refine g_seq ?_
      refine g_block ?_
      refine g_sr ?_
      refine Li Mv ?_
      refine Li Nc ?_
      refine Li (Fa T.fld_32_0) ?_
      refine Lp (oL T.sc_24 ?_)
      refine Li Mv ?_
      refine Li (Ix T.sl_24) ?_
      refine Lp (oL T.sc_37 ?_)
      refine Li As ?_
      refine g_ne ?_
      refine g_seq ?_
      refine g_sr ?_
      refine Li As ?_
      refine g_ne ?_
      refine g_block ?_
      refine Lo (ι := Nat × Option Addr × Nat) [60, 61, 64, 65, 66, 67, 68, 69, 70, 6, 62, 63, 7] (fun (k, g, gc) => k ≤ 16) (fun (k, g, gc) => [(7, .int .i64 (k : Int)), (6, .slice g (rn + k) gc)]) (fun (k, g, gc) => [grw ra rc 5 1 (kcells (mkI rn ((rk : Int).tmod 125))) (kcells (mkI k (125 + (rk : Int).tmod 125))) g gc, pts b 32 (bkC (.slice ai rs.length ci) v5 (.slice ao rk co) nilS n), own ai ci 37 1 (rs.map slv), own ao co 37 1 (gs.map slv), stars ((rs.zip gs).map P2), stars ((rs.drop (rk + 1)).map P1)]) (fun (k, g, gc) => 16 - k) ((0, ra, rc)) (Nat.zero_le _) ?_
      rintro ⟨k, g, gc⟩ hk40
      try dsimp only at hI ⊢
      try dsimp only at hk40 ⊢
      have hlk := mkI_len k (125 + (rk : Int).tmod 125)
      have hln := mkI_len rn ((rk : Int).tmod 125)
      refine g_seq ?_
      refine g_sr ?_
      refine Li Mv ?_
      refine Li Cm ?_
      refine g_ne ?_
      refine g_cond rfl ?_ ?_
      · intro h2
        replace h2 := nrm h2
        refine g_skip ?_
        refine e_then ?_
        refine g_seq ?_
        refine g_block ?_
        refine g_region ?_
        refine Li Mv ?_
        refine Li Mv ?_
        refine Li Im ?_
        refine Li Im ?_
        refine Li (Cv T.u_5 T.us_3) ?_
        refine Lp (oT T.ap_37 fun b1 => ?_)
        refine Hh (H' := [grw ra rc 5 1 (kcells (mkI rn ((rk : Int).tmod 125))) (kcells (mkI k (125 + (rk : Int).tmod 125))) g gc, pts b1 5 [.int .u8 (125 + (rk : Int).tmod 125)], pts b 32 (bkC (.slice ai rs.length ci) v5 (.slice ao rk co) nilS n), own ai ci 37 1 (rs.map slv), own ao co 37 1 (gs.map slv), stars ((rs.zip gs).map P2), stars ((rs.drop (rk + 1)).map P1)]) ?_
        refine Lp (op_grow T.ap_37 T.ni_37 rfl rfl rfl rfl (by rw [List.length_append]; omega) (by omega) (fun _ => src_slice (m := 1) rfl fun h le hin => pts_in (hin.nth 1 rfl)) (fun _ _ => src_slice (m := 1) rfl fun h le hin => pts_in (hin.nth 2 rfl)) (by simp [Value.oneCell']) (by omega) (by omega) rfl fun g2 gc2 => ?_)
        rw [← mkI_succ]
        refine Li As ?_
        refine g_nil ?_
        refine e_block ?_
        refine e_then ?_
        refine g_region ?_
        refine Li Mv ?_
        refine Li Im ?_
        refine Li As ?_
        refine g_nil ?_
        refine Ro ((k + 1, g2, gc2)) ((by omega)) (by omega)
      · intro h2
        replace h2 := nrm h2
        have hk4 : k = 16 := by omega
        subst hk4
        refine g_exit ?_
        refine e_then_exit ?_
        refine e_then_exit ?_
        refine e_block_hit ?_
        refine e_then ?_
        refine g_region ?_
        refine Li Mv ?_
        refine Li Mv ?_
        refine Li Nc ?_
        refine Li (Fa T.fld_32_2) ?_
        refine Lp (oL T.sc_24 ?_)
        refine Li Mv ?_
        refine Lp (oT T.ap_24 fun b2 => ?_)
        refine g_heap (H' := [stars ((rs.zip (gs ++ [(⟨rk, g, rn + 16, gc⟩ : Rw)])).map P2), pts b2 37 [.slice g (rn + 16) gc], own ao co 37 1 (gs.map slv), pts b 32 (bkC (.slice ai rs.length ci) v5 (.slice ao rk co) nilS n), own ai ci 37 1 (rs.map slv), stars ((rs.drop (rk + 1)).map P1)]) (fun h q => ?_) ?_
        · rw [hzs, List.map_append]
          have q3 := ents (As := [grw ra rc 5 1 (kcells (mkI rn ((rk : Int).tmod 125))) (kcells (mkI 16 (125 + (rk : Int).tmod 125))) g gc, stars ((rs.zip gs).map P2), pts b2 37 [.slice g (rn + 16) gc], own ao co 37 1 (gs.map slv), pts b 32 (bkC (.slice ai rs.length ci) v5 (.slice ao rk co) nilS n), own ai ci 37 1 (rs.map slv), stars ((rs.drop (rk + 1)).map P1)]) (.cons (.there .here) (.cons (.there (.there (.there (.there .here)))) (.cons .here (.cons (.there (.there .here)) (.cons .here (.cons .here (.cons .here .nil))))))) h q
          exact stars_push (A := P2 (⟨rk, ra, rn, rc⟩, ⟨rk, g, rn + 16, gc⟩)) (starL_cons_mono (fun _ p => ⟨rfl, p⟩) q3)
        refine Hh (H' := [pts b2 37 [.slice g (rn + 16) gc], own ao co 37 1 (gs.map slv), pts b 32 (bkC (.slice ai rs.length ci) v5 (.slice ao rk co) nilS n), own ai ci 37 1 (rs.map slv), stars ((rs.zip (gs ++ [(⟨rk, g, rn + 16, gc⟩ : Rw)])).map P2), stars ((rs.drop (rk + 1)).map P1)]) ?_
        refine Lp (op_append_lit T.ap_24 T.ni_24 rfl rfl rfl rfl .here (by omega) (rfl) (by simp [Value.oneCell']) (by first | omega | (simp; omega)) (by first | omega | (simp; omega)) rfl fun a5 c5 hc5 => ?_)
        rw [slv_snoc gs g rk (rn + 16) gc]
        refine Li Nc ?_
        refine Li (Fa T.fld_32_2) ?_
        refine Lp (oS T.sc_24 ?_)
        refine g_nil ?_
        refine e_block ?_
        refine e_then ?_
        refine g_region ?_
        refine Li Mv ?_
        refine Li Im ?_
        refine Li As ?_
        refine g_nil ?_
        rw [bkC_set2]
        refine g_heap (H' := [pts b 32 (bkC (.slice ai rs.length ci) v5 (.slice a5 (rk + 1) c5) nilS n), own ai ci 37 1 (rs.map slv), own a5 c5 37 1 ((gs ++ [(⟨rk, g, rn + 16, gc⟩ : Rw)]).map slv), stars ((rs.zip (gs ++ [(⟨rk, g, rn + 16, gc⟩ : Rw)])).map P2), stars ((rs.drop (rk + 1)).map P1)]) (ents (.cons (.there .here) (.cons (.there .here) (.cons .here (.cons .here (.cons .here .nil)))))) ?_
        refine Ro ((rk + 1, a5, c5, gs ++ [(⟨rk, g, rn + 16, gc⟩ : Rw)])) (⟨by omega, by simp; omega, hc5⟩) (by omega)
    · intro h1
      replace h1 := nrm h1
      have hlen : gs.length = rs.length := by omega
      have hie : i = rs.length := by omega
      subst hie
      clear hi h1
      refine g_exit ?_
      refine e_then_exit ?_
      refine e_then_exit ?_
      refine e_block_hit ?_
      refine e_then ?_
      refine g_seq ?_
      refine g_sr ?_
      refine Li Mv ?_
      refine Li Mv ?_
      refine Li Nc ?_
      refine Li (Fa T.fld_32_2) ?_
      refine Lp (oL T.sc_24 ?_)
      refine Lp (oC T.fn_71 rfl rfl (lookI_fn b ai ao ci v5 (.slice ao rs.length co) nilS n rs gs rs.length co hgl.symm hlen hr) .nil (fun h le hin => ⟨hin.nth 0 rfl, own_in (hin.nth 1 rfl), own_in (hin.nth 2 rfl), stars_p2 hk hn (hin.nth 3 rfl)⟩) ?_)
      rintro v H' ⟨rfl, rfl⟩
      try simp only [nap, cap]
      refine Li Nt ?_
      refine g_ne ?_
      refine g_cond_f rfl (by rfl) ?_
      refine g_nilrow 37 1 ?_
      refine g_heap (fun _ s => starL_nil_stars s) ?_
      have hz : ∀ Z : (Rw × Rw) × Rw → HProp, ((rs.zip gs).zip ([] : List Rw)).map Z = [] := fun Z => by rw [List.zip_nil_right]; rfl

      refine g_heap (H' := [pts b 32 (bkC (.slice ai rs.length ci) v5 (.slice ao rs.length co) nilS n), own ai ci 37 1 (rs.map slv), own ao co 37 1 (gs.map slv), own none 0 37 1 (([] : List Rw).map slv), stars (((rs.zip gs).zip ([] : List Rw)).map P3), stars (((rs.zip gs).drop 0).map P2)]) (by rw [hz]; exact Eh) ?_
      have hzl : (rs.zip gs).length = rs.length := by rw [List.length_zip]; omega
      refine g_skip ?_
      refine e_then ?_
      refine g_seq ?_
      refine g_sr ?_
      refine Li As ?_
      refine g_ne ?_
      refine g_block ?_
      refine Lo (ι := Nat × Option Addr × Nat × List Rw) [88, 89, 90, 91, 92, 93, 94, 9, 10, 97, 98, 101, 102, 103, 104, 105, 106, 107, 99, 100, 108, 109, 110, 111, 112, 113, 114, 115, 116, 117, 118, 119, 120, 121, 122, 123, 124, 125, 95, 96, 8] (fun (j, am, cm, ms) => j ≤ rs.length ∧ ms.length = j ∧ j ≤ cm) (fun (j, am, cm, ms) => [(8, .int .i64 (j : Int))]) (fun (j, am, cm, ms) => [pts b 32 (bkC (.slice ai rs.length ci) v5 (.slice ao rs.length co) (.slice am j cm) n), own ai ci 37 1 (rs.map slv), own ao co 37 1 (gs.map slv), own am cm 37 1 (ms.map slv), stars (((rs.zip gs).zip ms).map P3), stars (((rs.zip gs).drop j).map P2)]) (fun (j, am, cm, ms) => rs.length - j) ((0, none, 0, [])) ⟨Nat.zero_le _, rfl, Nat.zero_le _⟩ ?_
      rintro ⟨j, am, cm, ms⟩ ⟨hj, hml, hcm⟩
      try dsimp only at hI ⊢
      try dsimp only at hj hml hcm ⊢
      refine g_seq ?_
      refine g_sr ?_
      refine Li Mv ?_
      refine Li Mv ?_
      refine Li Nc ?_
      refine Li (Fa T.fld_32_0) ?_
      refine Lp (oL T.sc_24 ?_)
      refine Li (Ln T.sl_24) ?_
      refine Li Cm ?_
      refine g_ne ?_
      refine g_cond rfl ?_ ?_
      · intro h1
        replace h1 := nrm h1
        obtain ⟨r, e1⟩ : ∃ r, rs[j]? = some r := ⟨_, List.getElem?_eq_getElem (show j < rs.length by omega)⟩
        obtain ⟨g, e2⟩ : ∃ g, gs[j]? = some g := ⟨_, List.getElem?_eq_getElem (show j < gs.length by omega)⟩
        have e3 : (rs.zip gs)[j]? = some (r, g) := by rw [List.getElem?_zip_eq_some]; exact ⟨e1, e2⟩
        have s1 := slv_at rs j r e1
        refine g_fact (sel_fact (.there .here) fun _ ho => own_none ho (by omega)) fun a1 => ?_
        have ek := hk j r e1
        have en := hn r (List.mem_of_getElem? e1)
        have hmsl := slv_len ms
        have hzs := fun q => zip_snoc (rs.zip gs) ms (r, g) q (by rw [hml]; exact e3)
        rw [drop_at _ j _ e3, List.map_cons]
        refine Hh (H' := [stars (P2 (r, g) :: ((rs.zip gs).drop (j + 1)).map P2), pts b 32 (bkC (.slice ai rs.length ci) v5 (.slice ao rs.length co) (.slice am j cm) n), own ai ci 37 1 (rs.map slv), own ao co 37 1 (gs.map slv), own am cm 37 1 (ms.map slv), stars (((rs.zip gs).zip ms).map P3)]) ?_
        refine g_pop ?_
        refine g_pure fun hgn => ?_
        obtain ⟨rk, ra, rn, rc⟩ := r
        obtain ⟨gk, ga, gn, gc⟩ := g
        simp only at s1 ek en hgn
        subst ek
        have t1 : 0 ≤ (rk : Int).tmod 125 := Int.tmod_nonneg 125 (by omega)
        have t2 : (rk : Int).tmod 125 < 125 := Int.tmod_lt_of_pos _ (by omega)
        refine g_nilrow 5 1 ?_
        have hln := mkI_len rn ((rk : Int).tmod 125)


        refine Hh (H' := [own none 0 5 1 (kcells (mkI 0 (125 + (rk : Int).tmod 125))), grw ra rc 5 1 (kcells (mkI rn ((rk : Int).tmod 125))) (kcells (mkI 16 (125 + (rk : Int).tmod 125))) ga gc, pts b 32 (bkC (.slice ai rs.length ci) v5 (.slice ao rs.length co) (.slice am rk cm) n), own ai ci 37 1 (rs.map slv), own ao co 37 1 (gs.map slv), own am cm 37 1 (ms.map slv), stars (((rs.zip gs).zip ms).map P3), stars (((rs.zip gs).drop (rk + 1)).map P2)]) ?_
        refine g_skip ?_
        refine e_then ?_
        refine g_seq ?_
        refine g_block ?_
        refine g_sr ?_
        refine Li As ?_
        refine g_ne ?_
        refine g_seq ?_
        refine g_sr ?_
        refine Li As ?_
        refine g_ne ?_
        refine g_block ?_
        refine Lo (ι := Nat × Option Addr × Nat) [97, 98, 101, 102, 103, 104, 105, 106, 107, 9, 99, 100, 10] (fun (k, a9, c9) => k ≤ 700) (fun (k, a9, c9) => [(10, .int .i64 (k : Int)), (9, .slice a9 k c9)]) (fun (k, a9, c9) => [own a9 c9 5 1 (kcells (mkI k (125 + (rk : Int).tmod 125))), grw ra rc 5 1 (kcells (mkI rn ((rk : Int).tmod 125))) (kcells (mkI 16 (125 + (rk : Int).tmod 125))) ga gc, pts b 32 (bkC (.slice ai rs.length ci) v5 (.slice ao rs.length co) (.slice am rk cm) n), own ai ci 37 1 (rs.map slv), own ao co 37 1 (gs.map slv), own am cm 37 1 (ms.map slv), stars (((rs.zip gs).zip ms).map P3), stars (((rs.zip gs).drop (rk + 1)).map P2)]) (fun (k, a9, c9) => 700 - k) ((0, none, 0)) (Nat.zero_le _) ?_
        rintro ⟨k, a9, c9⟩ hk90
        try dsimp only at hI ⊢
        try dsimp only at hk90 ⊢
        have hlk := mkI_len k (125 + (rk : Int).tmod 125)
        refine g_seq ?_
        refine g_sr ?_
        refine Li Mv ?_
        refine Li Cm ?_
        refine g_ne ?_
        refine g_cond rfl ?_ ?_
        · intro h2
          replace h2 := nrm h2
          refine g_skip ?_
          refine e_then ?_
          refine g_seq ?_
          refine g_block ?_
          refine g_region ?_
          refine Li Mv ?_
          refine Li Mv ?_
          refine Li Im ?_
          refine Li Im ?_
          refine Li (Cv T.u_5 T.us_3) ?_
          refine Lp (oT T.ap_37 fun b3 => ?_)
          refine Hh (H' := [pts b3 5 [.int .u8 (125 + (rk : Int).tmod 125)], own a9 c9 5 1 (kcells (mkI k (125 + (rk : Int).tmod 125))), grw ra rc 5 1 (kcells (mkI rn ((rk : Int).tmod 125))) (kcells (mkI 16 (125 + (rk : Int).tmod 125))) ga gc, pts b 32 (bkC (.slice ai rs.length ci) v5 (.slice ao rs.length co) (.slice am rk cm) n), own ai ci 37 1 (rs.map slv), own ao co 37 1 (gs.map slv), own am cm 37 1 (ms.map slv), stars (((rs.zip gs).zip ms).map P3), stars (((rs.zip gs).drop (rk + 1)).map P2)]) ?_
          refine Lp (op_append_lit T.ap_37 T.ni_37 rfl rfl rfl rfl .here (by omega) (rfl) (by simp [Value.oneCell']) (by first | omega | (simp; omega)) (by first | omega | (simp; omega)) rfl fun a2 c2 hc2 => ?_)
          rw [← mkI_succ]
          refine Li As ?_
          refine g_nil ?_
          refine e_block ?_
          refine e_then ?_
          refine g_region ?_
          refine Li Mv ?_
          refine Li Im ?_
          refine Li As ?_
          refine g_nil ?_
          refine Ro ((k + 1, a2, c2)) ((by omega)) (by omega)
        · intro h2
          replace h2 := nrm h2
          have hk9 : k = 700 := by omega
          subst hk9
          refine g_exit ?_
          refine e_then_exit ?_
          refine e_then_exit ?_
          refine e_block_hit ?_
          refine e_then ?_
          have hone := kcells_one (mkI 700 (125 + (rk : Int).tmod 125))
          have hsp := mkI_add 16 684 (125 + (rk : Int).tmod 125)
          rw [show (16 + 684 : Nat) = 700 from rfl] at hsp
          generalize hN : kcells (mkI 700 (125 + (rk : Int).tmod 125)) = NW at *
          generalize hN4 : kcells (mkI 16 (125 + (rk : Int).tmod 125)) = N4 at *
          generalize hN6 : kcells (mkI 684 (125 + (rk : Int).tmod 125)) = N6 at *
          subst hsp

          refine Hh (H' := [own ai ci 37 1 (rs.map slv), grw ra rc 5 1 (kcells (mkI rn ((rk : Int).tmod 125))) N4 ga gc, own a9 c9 5 1 (N4 ++ N6), pts b 32 (bkC (.slice ai rs.length ci) v5 (.slice ao rs.length co) (.slice am rk cm) n), own ao co 37 1 (gs.map slv), own am cm 37 1 (ms.map slv), stars (((rs.zip gs).zip ms).map P3), stars (((rs.zip gs).drop (rk + 1)).map P2)]) ?_
          refine g_drw T.mix (.cons .here .nil) fun F1 le1 hin1 back1 => ?_
          obtain ⟨hai, _⟩ := hin1
          have hri := own_in hai

          refine Dt 0 rfl Mv ?_
          refine Dt 1 rfl Mv ?_
          refine Dt 2 rfl Nc ?_
          refine Dt 3 rfl (Fa T.fld_32_3) ?_
          refine Dt 5 rfl Mv ?_
          refine Dt 6 rfl Nc ?_
          refine Dt 7 rfl (Fa T.fld_32_0) ?_
          refine Dt 9 rfl Mv ?_
          refine Dt 12 rfl Mv ?_
          refine D2 4 8 ?_ ?_
          · refine Do rfl (oL T.sc_24 ?_)
            refine gh_next ?_
            refine Dn 8 ?_
            refine Do rfl (oL T.sc_24 ?_)
            refine gh_next ?_
            refine Dt 10 rfl (Ix T.sl_24) ?_
            refine Dn 11 ?_
            refine Do rfl (oL T.sc_37 ?_)
            refine gh_next ?_
            refine Dn 13 ?_
            refine Do rfl (op_grow_all T.ap_37 T.ni_37 rfl rfl rfl rfl (by omega) (by omega) (fun _ => src_slice (m := 700) (by omega) fun h le hin => own_in (hin.nth 1 rfl)) (fun _ _ => src_slice (m := 700) (by omega) fun h le hin => own_in (hin.nth 2 rfl)) hone (by omega) (by omega) rfl fun g2 gc2 => ?_)
            refine gh_next ?_
            refine Dn 14 ?_
            refine Do rfl (oT T.ap_24 fun b4 => ?_)
            refine gh_next ?_
            refine Hh (H' := [pts b4 37 [.slice g2 (rn + 700) gc2], own am cm 37 1 (ms.map slv), rdP [(ra, kcells (mkI rn ((rk : Int).tmod 125))), (ga, kcells (mkI rn ((rk : Int).tmod 125)) ++ N4), (g2, kcells (mkI rn ((rk : Int).tmod 125)) ++ (N4 ++ N6))], pts b 32 (bkC (.slice ai rs.length ci) v5 (.slice ao rs.length co) (.slice am rk cm) n), own ao co 37 1 (gs.map slv), stars (((rs.zip gs).zip ms).map P3), stars (((rs.zip gs).drop (rk + 1)).map P2)]) ?_
            refine Dn 15 ?_
            refine Do rfl (op_append_lit T.ap_24 T.ni_24 rfl rfl rfl rfl .here (by omega) (rfl) (by simp [Value.oneCell']) (by first | omega | (simp; omega)) (by first | omega | (simp; omega)) rfl fun a5 c5 hc5 => ?_)
            refine gh_next ?_
            refine Dt 16 rfl Nc ?_
            refine Dt 17 rfl (Fa T.fld_32_3) ?_
            refine Dn 18 ?_
            refine Do rfl (oS T.sc_24 ?_)
            refine gh_next ?_
            refine gh_done (by kernel_rfl) back1 ?_
            refine e_block ?_
            refine e_then ?_
            refine g_region ?_
            refine Li Mv ?_
            refine Li Im ?_
            refine Li As ?_
            refine g_nil ?_
            rw [bkC_set3]
            refine Hh (H' := [rdP [(ra, kcells (mkI rn ((rk : Int).tmod 125))), (ga, kcells (mkI rn ((rk : Int).tmod 125)) ++ N4), (g2, kcells (mkI rn ((rk : Int).tmod 125)) ++ (N4 ++ N6))], stars (((rs.zip gs).zip ms).map P3), pts b 32 (bkC (.slice ai rs.length ci) v5 (.slice ao rs.length co) (.slice a5 (rk + 1) c5) n), own ai ci 37 1 (rs.map slv), own ao co 37 1 (gs.map slv), own a5 c5 37 1 (ms.map slv ++ [.slice g2 (rn + 700) gc2]), stars (((rs.zip gs).drop (rk + 1)).map P2)]) ?_
            rw [slv_snoc ms g2 rk (rn + 700) gc2]
            refine g_heap (H' := [stars (((rs.zip gs).zip (ms ++ [(⟨rk, g2, rn + 700, gc2⟩ : Rw)])).map P3), pts b 32 (bkC (.slice ai rs.length ci) v5 (.slice ao rs.length co) (.slice a5 (rk + 1) c5) n), own ai ci 37 1 (rs.map slv), own ao co 37 1 (gs.map slv), own a5 c5 37 1 ((ms ++ [(⟨rk, g2, rn + 700, gc2⟩ : Rw)]).map slv), stars (((rs.zip gs).drop (rk + 1)).map P2)]) (fun h q => ?_) ?_
            · rw [hzs, List.map_append]
              subst hN4 hN6
              exact stars_push (A := P3 ((⟨rk, ra, rn, rc⟩, ⟨gk, ga, gn, gc⟩), ⟨rk, g2, rn + 700, gc2⟩)) (starL_cons_mono (fun _ p => ⟨⟨hgn, rfl⟩, p⟩) q)
            refine Ro ((rk + 1, a5, c5, ms ++ [(⟨rk, g2, rn + 700, gc2⟩ : Rw)])) (⟨by omega, by simp; omega, hc5⟩) (by omega)
          · refine Do rfl (oL T.sc_24 ?_)
            refine gh_next ?_
            refine Dt 10 rfl (Ix T.sl_24) ?_
            refine D2 4 11 ?_ ?_
            · refine Do rfl (oL T.sc_24 ?_)
              refine gh_next ?_
              refine Dn 11 ?_
              refine Do rfl (oL T.sc_37 ?_)
              refine gh_next ?_
              refine Dn 13 ?_
              refine Do rfl (op_grow_all T.ap_37 T.ni_37 rfl rfl rfl rfl (by omega) (by omega) (fun _ => src_slice (m := 700) (by omega) fun h le hin => own_in (hin.nth 1 rfl)) (fun _ _ => src_slice (m := 700) (by omega) fun h le hin => own_in (hin.nth 2 rfl)) hone (by omega) (by omega) rfl fun g2 gc2 => ?_)
              refine gh_next ?_
              refine Dn 14 ?_
              refine Do rfl (oT T.ap_24 fun b5 => ?_)
              refine gh_next ?_
              refine Hh (H' := [pts b5 37 [.slice g2 (rn + 700) gc2], own am cm 37 1 (ms.map slv), rdP [(ra, kcells (mkI rn ((rk : Int).tmod 125))), (ga, kcells (mkI rn ((rk : Int).tmod 125)) ++ N4), (g2, kcells (mkI rn ((rk : Int).tmod 125)) ++ (N4 ++ N6))], pts b 32 (bkC (.slice ai rs.length ci) v5 (.slice ao rs.length co) (.slice am rk cm) n), own ao co 37 1 (gs.map slv), stars (((rs.zip gs).zip ms).map P3), stars (((rs.zip gs).drop (rk + 1)).map P2)]) ?_
              refine Dn 15 ?_
              refine Do rfl (op_append_lit T.ap_24 T.ni_24 rfl rfl rfl rfl .here (by omega) (rfl) (by simp [Value.oneCell']) (by first | omega | (simp; omega)) (by first | omega | (simp; omega)) rfl fun a5 c5 hc5 => ?_)
              refine gh_next ?_
              refine Dt 16 rfl Nc ?_
              refine Dt 17 rfl (Fa T.fld_32_3) ?_
              refine Dn 18 ?_
              refine Do rfl (oS T.sc_24 ?_)
              refine gh_next ?_
              refine gh_done (by kernel_rfl) back1 ?_
              refine e_block ?_
              refine e_then ?_
              refine g_region ?_
              refine Li Mv ?_
              refine Li Im ?_
              refine Li As ?_
              refine g_nil ?_
              rw [bkC_set3]
              refine Hh (H' := [rdP [(ra, kcells (mkI rn ((rk : Int).tmod 125))), (ga, kcells (mkI rn ((rk : Int).tmod 125)) ++ N4), (g2, kcells (mkI rn ((rk : Int).tmod 125)) ++ (N4 ++ N6))], stars (((rs.zip gs).zip ms).map P3), pts b 32 (bkC (.slice ai rs.length ci) v5 (.slice ao rs.length co) (.slice a5 (rk + 1) c5) n), own ai ci 37 1 (rs.map slv), own ao co 37 1 (gs.map slv), own a5 c5 37 1 (ms.map slv ++ [.slice g2 (rn + 700) gc2]), stars (((rs.zip gs).drop (rk + 1)).map P2)]) ?_
              rw [slv_snoc ms g2 rk (rn + 700) gc2]
              refine g_heap (H' := [stars (((rs.zip gs).zip (ms ++ [(⟨rk, g2, rn + 700, gc2⟩ : Rw)])).map P3), pts b 32 (bkC (.slice ai rs.length ci) v5 (.slice ao rs.length co) (.slice a5 (rk + 1) c5) n), own ai ci 37 1 (rs.map slv), own ao co 37 1 (gs.map slv), own a5 c5 37 1 ((ms ++ [(⟨rk, g2, rn + 700, gc2⟩ : Rw)]).map slv), stars (((rs.zip gs).drop (rk + 1)).map P2)]) (fun h q => ?_) ?_
              · rw [hzs, List.map_append]
                subst hN4 hN6
                exact stars_push (A := P3 ((⟨rk, ra, rn, rc⟩, ⟨gk, ga, gn, gc⟩), ⟨rk, g2, rn + 700, gc2⟩)) (starL_cons_mono (fun _ p => ⟨⟨hgn, rfl⟩, p⟩) q)
              refine Ro ((rk + 1, a5, c5, ms ++ [(⟨rk, g2, rn + 700, gc2⟩ : Rw)])) (⟨by omega, by simp; omega, hc5⟩) (by omega)
            · refine Do rfl (oL T.sc_37 ?_)
              refine gh_next ?_
              refine D2 4 13 ?_ ?_
              · refine Do rfl (oL T.sc_24 ?_)
                refine gh_next ?_
                refine Dn 13 ?_
                refine Do rfl (op_grow_all T.ap_37 T.ni_37 rfl rfl rfl rfl (by omega) (by omega) (fun _ => src_slice (m := 700) (by omega) fun h le hin => own_in (hin.nth 1 rfl)) (fun _ _ => src_slice (m := 700) (by omega) fun h le hin => own_in (hin.nth 2 rfl)) hone (by omega) (by omega) rfl fun g2 gc2 => ?_)
                refine gh_next ?_
                refine Dn 14 ?_
                refine Do rfl (oT T.ap_24 fun b6 => ?_)
                refine gh_next ?_
                refine Hh (H' := [pts b6 37 [.slice g2 (rn + 700) gc2], own am cm 37 1 (ms.map slv), rdP [(ra, kcells (mkI rn ((rk : Int).tmod 125))), (ga, kcells (mkI rn ((rk : Int).tmod 125)) ++ N4), (g2, kcells (mkI rn ((rk : Int).tmod 125)) ++ (N4 ++ N6))], pts b 32 (bkC (.slice ai rs.length ci) v5 (.slice ao rs.length co) (.slice am rk cm) n), own ao co 37 1 (gs.map slv), stars (((rs.zip gs).zip ms).map P3), stars (((rs.zip gs).drop (rk + 1)).map P2)]) ?_
                refine Dn 15 ?_
                refine Do rfl (op_append_lit T.ap_24 T.ni_24 rfl rfl rfl rfl .here (by omega) (rfl) (by simp [Value.oneCell']) (by first | omega | (simp; omega)) (by first | omega | (simp; omega)) rfl fun a5 c5 hc5 => ?_)
                refine gh_next ?_
                refine Dt 16 rfl Nc ?_
                refine Dt 17 rfl (Fa T.fld_32_3) ?_
                refine Dn 18 ?_
                refine Do rfl (oS T.sc_24 ?_)
                refine gh_next ?_
                refine gh_done (by kernel_rfl) back1 ?_
                refine e_block ?_
                refine e_then ?_
                refine g_region ?_
                refine Li Mv ?_
                refine Li Im ?_
                refine Li As ?_
                refine g_nil ?_
                rw [bkC_set3]
                refine Hh (H' := [rdP [(ra, kcells (mkI rn ((rk : Int).tmod 125))), (ga, kcells (mkI rn ((rk : Int).tmod 125)) ++ N4), (g2, kcells (mkI rn ((rk : Int).tmod 125)) ++ (N4 ++ N6))], stars (((rs.zip gs).zip ms).map P3), pts b 32 (bkC (.slice ai rs.length ci) v5 (.slice ao rs.length co) (.slice a5 (rk + 1) c5) n), own ai ci 37 1 (rs.map slv), own ao co 37 1 (gs.map slv), own a5 c5 37 1 (ms.map slv ++ [.slice g2 (rn + 700) gc2]), stars (((rs.zip gs).drop (rk + 1)).map P2)]) ?_
                rw [slv_snoc ms g2 rk (rn + 700) gc2]
                refine g_heap (H' := [stars (((rs.zip gs).zip (ms ++ [(⟨rk, g2, rn + 700, gc2⟩ : Rw)])).map P3), pts b 32 (bkC (.slice ai rs.length ci) v5 (.slice ao rs.length co) (.slice a5 (rk + 1) c5) n), own ai ci 37 1 (rs.map slv), own ao co 37 1 (gs.map slv), own a5 c5 37 1 ((ms ++ [(⟨rk, g2, rn + 700, gc2⟩ : Rw)]).map slv), stars (((rs.zip gs).drop (rk + 1)).map P2)]) (fun h q => ?_) ?_
                · rw [hzs, List.map_append]
                  subst hN4 hN6
                  exact stars_push (A := P3 ((⟨rk, ra, rn, rc⟩, ⟨gk, ga, gn, gc⟩), ⟨rk, g2, rn + 700, gc2⟩)) (starL_cons_mono (fun _ p => ⟨⟨hgn, rfl⟩, p⟩) q)
                refine Ro ((rk + 1, a5, c5, ms ++ [(⟨rk, g2, rn + 700, gc2⟩ : Rw)])) (⟨by omega, by simp; omega, hc5⟩) (by omega)
              · refine Do rfl (op_grow_all T.ap_37 T.ni_37 rfl rfl rfl rfl (by omega) (by omega) (fun _ => src_slice (m := 700) (by omega) fun h le hin => own_in (hin.nth 1 rfl)) (fun _ _ => src_slice (m := 700) (by omega) fun h le hin => own_in (hin.nth 2 rfl)) hone (by omega) (by omega) rfl fun g2 gc2 => ?_)
                refine gh_next ?_
                refine D2 4 14 ?_ ?_
                · refine Do rfl (oL T.sc_24 ?_)
                  refine gh_next ?_
                  refine Dn 14 ?_
                  refine Do rfl (oT T.ap_24 fun b7 => ?_)
                  refine gh_next ?_
                  refine Hh (H' := [pts b7 37 [.slice g2 (rn + 700) gc2], own am cm 37 1 (ms.map slv), rdP [(ra, kcells (mkI rn ((rk : Int).tmod 125))), (ga, kcells (mkI rn ((rk : Int).tmod 125)) ++ N4), (g2, kcells (mkI rn ((rk : Int).tmod 125)) ++ (N4 ++ N6))], pts b 32 (bkC (.slice ai rs.length ci) v5 (.slice ao rs.length co) (.slice am rk cm) n), own ao co 37 1 (gs.map slv), stars (((rs.zip gs).zip ms).map P3), stars (((rs.zip gs).drop (rk + 1)).map P2)]) ?_
                  refine Dn 15 ?_
                  refine Do rfl (op_append_lit T.ap_24 T.ni_24 rfl rfl rfl rfl .here (by omega) (rfl) (by simp [Value.oneCell']) (by first | omega | (simp; omega)) (by first | omega | (simp; omega)) rfl fun a5 c5 hc5 => ?_)
                  refine gh_next ?_
                  refine Dt 16 rfl Nc ?_
                  refine Dt 17 rfl (Fa T.fld_32_3) ?_
                  refine Dn 18 ?_
                  refine Do rfl (oS T.sc_24 ?_)
                  refine gh_next ?_
                  refine gh_done (by kernel_rfl) back1 ?_
                  refine e_block ?_
                  refine e_then ?_
                  refine g_region ?_
                  refine Li Mv ?_
                  refine Li Im ?_
                  refine Li As ?_
                  refine g_nil ?_
                  rw [bkC_set3]
                  refine Hh (H' := [rdP [(ra, kcells (mkI rn ((rk : Int).tmod 125))), (ga, kcells (mkI rn ((rk : Int).tmod 125)) ++ N4), (g2, kcells (mkI rn ((rk : Int).tmod 125)) ++ (N4 ++ N6))], stars (((rs.zip gs).zip ms).map P3), pts b 32 (bkC (.slice ai rs.length ci) v5 (.slice ao rs.length co) (.slice a5 (rk + 1) c5) n), own ai ci 37 1 (rs.map slv), own ao co 37 1 (gs.map slv), own a5 c5 37 1 (ms.map slv ++ [.slice g2 (rn + 700) gc2]), stars (((rs.zip gs).drop (rk + 1)).map P2)]) ?_
                  rw [slv_snoc ms g2 rk (rn + 700) gc2]
                  refine g_heap (H' := [stars (((rs.zip gs).zip (ms ++ [(⟨rk, g2, rn + 700, gc2⟩ : Rw)])).map P3), pts b 32 (bkC (.slice ai rs.length ci) v5 (.slice ao rs.length co) (.slice a5 (rk + 1) c5) n), own ai ci 37 1 (rs.map slv), own ao co 37 1 (gs.map slv), own a5 c5 37 1 ((ms ++ [(⟨rk, g2, rn + 700, gc2⟩ : Rw)]).map slv), stars (((rs.zip gs).drop (rk + 1)).map P2)]) (fun h q => ?_) ?_
                  · rw [hzs, List.map_append]
                    subst hN4 hN6
                    exact stars_push (A := P3 ((⟨rk, ra, rn, rc⟩, ⟨gk, ga, gn, gc⟩), ⟨rk, g2, rn + 700, gc2⟩)) (starL_cons_mono (fun _ p => ⟨⟨hgn, rfl⟩, p⟩) q)
                  refine Ro ((rk + 1, a5, c5, ms ++ [(⟨rk, g2, rn + 700, gc2⟩ : Rw)])) (⟨by omega, by simp; omega, hc5⟩) (by omega)
                · refine Do rfl (oT T.ap_24 fun b8 => ?_)
                  refine gh_next ?_
                  refine Dn 4 ?_
                  refine Do rfl (oL T.sc_24 ?_)
                  refine gh_next ?_
                  refine Hh (H' := [pts b8 37 [.slice g2 (rn + 700) gc2], own am cm 37 1 (ms.map slv), rdP [(ra, kcells (mkI rn ((rk : Int).tmod 125))), (ga, kcells (mkI rn ((rk : Int).tmod 125)) ++ N4), (g2, kcells (mkI rn ((rk : Int).tmod 125)) ++ (N4 ++ N6))], pts b 32 (bkC (.slice ai rs.length ci) v5 (.slice ao rs.length co) (.slice am rk cm) n), own ao co 37 1 (gs.map slv), stars (((rs.zip gs).zip ms).map P3), stars (((rs.zip gs).drop (rk + 1)).map P2)]) ?_
                  refine Dn 15 ?_
                  refine Do rfl (op_append_lit T.ap_24 T.ni_24 rfl rfl rfl rfl .here (by omega) (rfl) (by simp [Value.oneCell']) (by first | omega | (simp; omega)) (by first | omega | (simp; omega)) rfl fun a5 c5 hc5 => ?_)
                  refine gh_next ?_
                  refine Dt 16 rfl Nc ?_
                  refine Dt 17 rfl (Fa T.fld_32_3) ?_
                  refine Dn 18 ?_
                  refine Do rfl (oS T.sc_24 ?_)
                  refine gh_next ?_
                  refine gh_done (by kernel_rfl) back1 ?_
                  refine e_block ?_
                  refine e_then ?_
                  refine g_region ?_
                  refine Li Mv ?_
                  refine Li Im ?_
                  refine Li As ?_
                  refine g_nil ?_
                  rw [bkC_set3]
                  refine Hh (H' := [rdP [(ra, kcells (mkI rn ((rk : Int).tmod 125))), (ga, kcells (mkI rn ((rk : Int).tmod 125)) ++ N4), (g2, kcells (mkI rn ((rk : Int).tmod 125)) ++ (N4 ++ N6))], stars (((rs.zip gs).zip ms).map P3), pts b 32 (bkC (.slice ai rs.length ci) v5 (.slice ao rs.length co) (.slice a5 (rk + 1) c5) n), own ai ci 37 1 (rs.map slv), own ao co 37 1 (gs.map slv), own a5 c5 37 1 (ms.map slv ++ [.slice g2 (rn + 700) gc2]), stars (((rs.zip gs).drop (rk + 1)).map P2)]) ?_
                  rw [slv_snoc ms g2 rk (rn + 700) gc2]
                  refine g_heap (H' := [stars (((rs.zip gs).zip (ms ++ [(⟨rk, g2, rn + 700, gc2⟩ : Rw)])).map P3), pts b 32 (bkC (.slice ai rs.length ci) v5 (.slice ao rs.length co) (.slice a5 (rk + 1) c5) n), own ai ci 37 1 (rs.map slv), own ao co 37 1 (gs.map slv), own a5 c5 37 1 ((ms ++ [(⟨rk, g2, rn + 700, gc2⟩ : Rw)]).map slv), stars (((rs.zip gs).drop (rk + 1)).map P2)]) (fun h q => ?_) ?_
                  · rw [hzs, List.map_append]
                    subst hN4 hN6
                    exact stars_push (A := P3 ((⟨rk, ra, rn, rc⟩, ⟨gk, ga, gn, gc⟩), ⟨rk, g2, rn + 700, gc2⟩)) (starL_cons_mono (fun _ p => ⟨⟨hgn, rfl⟩, p⟩) q)
                  refine Ro ((rk + 1, a5, c5, ms ++ [(⟨rk, g2, rn + 700, gc2⟩ : Rw)])) (⟨by omega, by simp; omega, hc5⟩) (by omega)
      · intro h1
        replace h1 := nrm h1
        have hmlen : ms.length = rs.length := by omega
        have hje : j = rs.length := by omega
        subst hje
        refine g_exit ?_
        refine e_then_exit ?_
        refine e_then_exit ?_
        refine e_block_hit ?_
        refine e_then ?_
        refine g_sr ?_
        refine Li Mv ?_
        refine Li Mv ?_
        refine Li Nc ?_
        refine Li (Fa T.fld_32_3) ?_
        refine Lp (oL T.sc_24 ?_)
        refine Lp (oC T.fn_71 rfl rfl (lookI_fn b ai am ci v5 (.slice ao rs.length co) (.slice am rs.length cm) n rs ms rs.length cm hml.symm hmlen hr) .nil (fun h le hin => ⟨hin.nth 0 rfl, own_in (hin.nth 1 rfl), own_in (hin.nth 3 rfl), (stars_p3 hk hn hlen hmlen (hin.nth 4 rfl)).2⟩) ?_)
        rintro v H' ⟨rfl, rfl⟩
        try simp only [nap, cap]
        refine Li Mv ?_
        refine g_slot (t := 132) (v' := .bool true) rfl (congrArg Value.bool (by rfl)) ?_
        refine Li Mv ?_
        refine Li Mv ?_
        refine Li Nc ?_
        refine Li (Fa T.fld_32_2) ?_
        refine Lp (oL T.sc_24 ?_)
        refine Lp (oC T.fn_71 rfl rfl (lookI_fn b ai ao ci v5 (.slice ao rs.length co) (.slice am rs.length cm) n rs gs rs.length co hlen.symm hlen hr) .nil (fun h le hin => ⟨hin.nth 0 rfl, own_in (hin.nth 1 rfl), own_in (hin.nth 2 rfl), (stars_p3 hk hn hlen hmlen (hin.nth 4 rfl)).1⟩) ?_)
        rintro v H' ⟨rfl, rfl⟩
        try simp only [nap, cap]
        refine Li Pt ?_
        refine Li As ?_
        refine g_ne ?_
        refine g_ret ?_
        refine Rt [pts b 32 (bkC (.slice ai rs.length ci) v5 (.slice ao rs.length co) (.slice am rs.length cm) n)] Try.results48 ?_
        exact ⟨rfl, _, _, rfl⟩
end Go.Proofs.Ytggmpaggmkfmoaa

