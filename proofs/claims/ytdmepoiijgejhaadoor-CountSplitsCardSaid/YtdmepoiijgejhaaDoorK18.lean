/- Counts: the law of hits and misses. -/
import Derived.Test.YtdmepoiijgejhaaDoorK17
set_option maxRecDepth 100000
namespace Go.Proofs.YtdmepoiijgejhaaDoor
open Go Go.Eng

theorem readBO (E : List (Int × Nat)) (j : Nat) (h1 : 1 ≤ j) (h2 : j < 32) (h : tot E j ≤ 18446744073709551615) : readM (BO E) (j : Int) = tot E j := by
  unfold readM
  rw [if_pos (by omega), Int.toNat_natCast, BO_get]
  unfold maxN
  omega
theorem keyN_take (l : List Int) (j : Nat) (z : Int) (h : l[j]? = some z) : keyN (l.take (j + 1)) = keyN (l.take j) + if isK z then 1 else 0 := by
  rw [List.take_add_one, h]
  unfold keyN
  rw [List.countP_append]
  simp
theorem keyN_le (l : List Int) : keyN l ≤ l.length := List.countP_le_length ..
set_option maxHeartbeats 2000000 in
theorem splitLaw_fn (l : List Oc) (hb : l.length ≤ 9223372036854775807) (a : Option Addr) (m c : Nat) (hm : m = l.length) :
    FnS Tryd.prog 4 [.slice a m c] (fun h => Tab h ∧ Rdl h a (ocsC l) ∧ ∀ x ∈ l, OcOk h x) [] (fun v H => v = .bool true ∧ H = []) := by
  subst hm
  refine fn_body Tryd.func4 rfl Tryd.ntmps4 rfl ?_
  intro F hF
  refine g_sr ?_
  refine Li As ?_
  refine g_ne ?_
  refine g_seq ?_
  refine g_sr ?_
  refine Lp (oC T.fn_10 rfl rfl (wakes_fn) .nil (fun _ le _ => hF.1.mono le) ?_)
  rintro v H' ⟨rfl, rfl⟩
  try simp only [nap, cap]
  refine Li Nt ?_
  refine g_ne ?_
  refine g_cond_f rfl (by rfl) ?_
  refine g_skip ?_
  refine e_then ?_
  refine g_sr ?_
  refine Lp (oC T.fn_11 rfl rfl (new_fn) .nil (fun _ _ _ => trivial) ?_)
  rintro v H' ⟨ba, rfl, rfl⟩
  try simp only [nap, cap]
  refine Li As ?_
  refine g_ne ?_
  refine g_seq ?_
  refine g_sr ?_
  refine Li Mv ?_
  refine Li (Pn T.u_24) ?_
  refine g_ne ?_
  refine g_cond_f rfl (by rfl) ?_
  refine g_skip ?_
  refine e_then ?_
  refine g_sr ?_
  refine Li As ?_
  refine Li As ?_
  refine g_ne ?_
  refine g_seq ?_
  refine g_sr ?_
  refine Li As ?_
  refine g_ne ?_
  refine g_block ?_
  refine Lo (ι := Nat × List (Int × Nat) × Nat × Nat) [15, 16, 17, 18, 19, 20, 21, 22, 25, 26, 27, 28, 29, 7, 30, 31, 32, 33, 34, 35, 36, 37, 38, 39, 40, 41, 42, 43, 44, 45, 46, 47, 48, 49, 8, 50, 51, 52, 53, 54, 57, 58, 59, 60, 61, 62, 63, 64, 65, 66, 67, 68, 69, 70, 71, 72, 4, 55, 56, 73, 74, 75, 76, 77, 78, 79, 80, 81, 82, 83, 84, 85, 86, 87, 88, 89, 90, 91, 92, 93, 94, 95, 96, 97, 98, 99, 100, 101, 102, 103, 104, 105, 106, 107, 108, 109, 110, 111, 112, 113, 114, 115, 116, 5, 23, 24, 6] (fun (i, E, k, s) => i ≤ l.length ∧ i ≤ 2000 ∧ GoodT (tot E) k s i ∧ k ≤ 10000 * i ∧ s ≤ i) (fun (i, E, k, s) => [(6, .int .i64 (i : Int)), (4, .int .u64 (k : Int)), (5, .int .u64 (s : Int))]) (fun (i, E, k, s) => [pts ba 89 (bdC 0 (BO E))]) (fun (i, E, k, s) => l.length - i) ((0, [], 0, 0)) ⟨Nat.zero_le _, Nat.zero_le _, by decide, Nat.zero_le _, Nat.zero_le _⟩ ?_
  rintro ⟨i, E, k, s⟩ ⟨hi, hi2, hg, hk, hs⟩
  try dsimp only at hI ⊢
  dsimp only at hi hi2 hg hk hs ⊢
  refine g_seq ?_
  refine g_seq ?_
  refine g_mid (ι := Unit) [15, 16, 17, 18, 19, 20, 21, 22] (fun u => True) (fun u => [(22, .bool (decide ((i : Int) < l.length) && decide ((i : Int) < 2000)))]) (fun u => [pts ba 89 (bdC 0 (BO E))]) ?_ ?_
  · refine g_region ?_
    refine Li Mv ?_
    refine Li Mv ?_
    refine Li (Ln T.sl_22) ?_
    refine Li Cm ?_
    refine Li Mv ?_
    refine g_split (t := 19) rfl ?_ ?_
    · intro hb0
      replace hb0 := nrm hb0
      refine Li Mv ?_
      refine Li Cm ?_
      refine Li Pt ?_
      refine g_nil ?_
      refine Me (()) (trivial)
    · intro hb0
      replace hb0 := nrm hb0
      refine Lx ?_
      refine Lx ?_
      refine Li Pf ?_
      refine g_nil ?_
      refine Me (()) (trivial)
  rintro u hI
  refine g_cond rfl ?_ ?_
  · intro h1
    replace h1 := nrm h1
    obtain ⟨x, e1⟩ : ∃ x, l[i]? = some x := ⟨_, List.getElem?_eq_getElem (show i < l.length by omega)⟩
    have k1 : ((ocsC l).drop (i * 24)).take 24 = ocC x := ocsC_at l i x e1
    have hll := ocsC_len l
    have hF2 := hF.2.1
    have ox := hF.2.2 x (List.mem_of_getElem? e1)
    have a0 : a.isSome = true := hF2.some (by omega)
    refine g_skip ?_
    refine e_then ?_
    refine g_seq ?_
    refine g_block ?_
    refine g_sr ?_
    refine Li Mv ?_
    refine Li Mv ?_
    refine Li (Ix T.sl_22) ?_
    refine Lp (oLN T.ag_43 ?_)
    refine Lp (oC T.fn_19 rfl rfl (FewO x ox.wcb) .nil (fun _ _ _ => trivial) ?_)
    rintro v H' ⟨ax, cx, rfl, hrx, rfl⟩
    try simp only [nap, cap]
    have hwx := hrx _ ox.whs
    refine Lp (oA T.zc_43 fun b1 => ?_)
    refine Lp (oSW T.ag_43 ?_ (h1 := by first | exact rest_one _ _ _ | (simp [setL, Value.cells, Value.oneCell', strv])))
    refine g_ne ?_
    refine g_sr ?_
    refine Li Mv ?_
    refine Li (Fa T.fld_43_0) ?_
    refine Lp (oLN T.ag_34 ?_)
    refine Li (Fa T.fld_43_1) ?_
    refine Lp (oLN T.ag_38 ?_)
    refine Li (Fa T.fld_43_2) ?_
    refine Lp (oL T.sc_39 ?_)
    refine Li (Fa T.fld_43_3) ?_
    refine Lp (oLN T.ag_41 ?_)
    refine Lp (oC T.fn_13 rfl rfl (CommO ba 89 E x ax cx ox.fm ox.flb ox.txt) (.cons (.there .here) .nil) (fun _ le _ => ⟨ox.fls.mono le, hwx.mono le⟩) ?_)
    rintro v H' ⟨rfl, rfl⟩
    try simp only [nap, cap]
    have hg2 : GoodT (tot (E ++ evx x)) (k + keysOf x.c.verb (few x.why)) (s + setsOf x.c.verb) (i + 1) := by
      have := hg.add (good_ev x.c.verb x.a.kind x.a.text x.fl (few x.why) (fewM x.m))
      have e : tot (E ++ evx x) = fun j => tot E j + tot (evE x.c.verb x.a.kind x.a.text x.fl (few x.why) (fewM x.m)) j := funext fun j => tot_append _ _ _
      rw [e]; exact this
    have hfl : (few x.why).length ≤ 10000 := by unfold few; simp; omega
    have hk2 := keysOf_le x.c.verb (few x.why) hfl
    have hs2 := setsOf_le x.c.verb
    generalize hE : E ++ evx x = E2 at *
    refine Hh (H' := [pts b1 43 (outC x.c x.a ax (few x.why).length cx (fewM x.m)), pts ba 89 (bdC 0 (BO E2))]) ?_

    generalize hwl : few x.why = wl at *
    generalize fewM x.m = mm at *
    refine g_ne ?_
    refine g_seq ?_
    refine g_mid (ι := Nat) [40, 41, 42, 43, 44, 45, 46, 47, 48, 49, 8, 50, 51, 52, 53, 54, 57, 58, 59, 60, 61, 62, 63, 64, 65, 66, 67, 68, 69, 70, 71, 72, 4, 55, 56] (fun k1 => k1 = k + (if 1 ≤ x.c.verb ∧ x.c.verb ≤ 4 then keyN wl else 0)) (fun k1 => [(4, .int .u64 (k1 : Int))]) (fun k1 => [pts b1 43 (outC x.c x.a ax wl.length cx mm), pts ba 89 (bdC 0 (BO E2))]) ?_ ?_
    · refine g_seq ?_
      refine g_mid (ι := Unit) [40, 41, 42, 43, 44, 45, 46, 47, 48, 49] (fun u => True) (fun u => [(49, .bool (decide (1 ≤ x.c.verb) && decide (x.c.verb ≤ 4)))]) (fun u => [pts b1 43 (outC x.c x.a ax wl.length cx mm), pts ba 89 (bdC 0 (BO E2))]) ?_ ?_
      · refine g_region ?_
        refine Li (Fa T.fld_43_0) ?_
        refine Li (Fa T.fld_34_0) ?_
        refine Lp (oL T.sc_3 ?_)
        refine Li Cm ?_
        refine Li Mv ?_
        refine g_split (t := 44) rfl ?_ ?_
        · intro hb0
          replace hb0 := nrm hb0
          refine Li (Fa T.fld_43_0) ?_
          refine Li (Fa T.fld_34_0) ?_
          refine Lp (oL T.sc_3 ?_)
          refine Li Cm ?_
          refine Li Pt ?_
          refine g_nil ?_
          refine Me (()) (trivial)
        · intro hb0
          replace hb0 := nrm hb0
          refine Lx ?_
          refine Lx ?_
          refine Lx ?_
          refine Lx ?_
          refine Li Pf ?_
          refine g_nil ?_
          refine Me (()) (trivial)
      rintro u hI
      refine g_cond rfl ?_ ?_
      · intro hv
        replace hv := nrm hv
        rw [if_pos hv]
        refine g_sr ?_
        refine Li As ?_
        refine g_ne ?_
        refine g_block ?_
        refine Lo (ι := Nat) [50, 51, 52, 53, 54, 57, 58, 59, 60, 61, 62, 63, 64, 65, 66, 67, 68, 69, 70, 71, 72, 4, 55, 56, 8] (fun j => j ≤ wl.length) (fun j => [(8, .int .i64 (j : Int)), (4, .int .u64 ((k + keyN (wl.take j) : Nat) : Int))]) (fun j => [pts b1 43 (outC x.c x.a ax wl.length cx mm), pts ba 89 (bdC 0 (BO E2))]) (fun j => wl.length - j) (0) (Nat.zero_le _) ?_
        rintro j hj
        refine g_seq ?_
        refine g_sr ?_
        refine Li Mv ?_
        refine Li (Fa T.fld_43_2) ?_
        refine Lp (oL T.sc_39 ?_)
        refine Li (Ln T.sl_39) ?_
        refine Li Cm ?_
        refine g_ne ?_
        refine g_cond rfl ?_ ?_
        · intro h2
          replace h2 := nrm h2
          obtain ⟨z, e2⟩ : ∃ z, wl[j]? = some z := ⟨_, List.getElem?_eq_getElem (show j < wl.length by omega)⟩
          have k2 : (icells wl)[j]? = some (.int .i64 z) := by simp [icells, e2]
          have a1 : ax.isSome = true := hwx.some (by simp [icells]; omega)
          have e3 := keyN_take wl j z e2
          have e4 : keyN (wl.take j) ≤ j := Nat.le_trans (keyN_le _) (by simp; omega)
          refine g_skip ?_
          refine e_then ?_
          refine g_seq ?_
          refine g_block ?_
          refine g_seq ?_
          refine g_mid (ι := Unit) [57, 58, 59, 60, 61, 62, 63, 64, 65, 66, 67, 68, 69, 70] (fun u => True) (fun u => [(70, .bool (decide (0 ≤ z) && decide (z ≤ 3)))]) (fun u => [pts b1 43 (outC x.c x.a ax wl.length cx mm), pts ba 89 (bdC 0 (BO E2))]) ?_ ?_
          · refine g_region ?_
            refine Li (Fa T.fld_43_2) ?_
            refine Lp (oL T.sc_39 ?_)
            refine Li Mv ?_
            refine Li (Ix T.sl_39) ?_
            refine Lp (oL T.sc_3 ?_)
            refine Li Cm ?_
            refine Li Mv ?_
            refine g_split (t := 63) rfl ?_ ?_
            · intro hb0
              replace hb0 := nrm hb0
              refine Li (Fa T.fld_43_2) ?_
              refine Lp (oL T.sc_39 ?_)
              refine Li Mv ?_
              refine Li (Ix T.sl_39) ?_
              refine Lp (oL T.sc_3 ?_)
              refine Li Cm ?_
              refine Li Pt ?_
              refine g_nil ?_
              refine Me (()) (trivial)
            · intro hb0
              replace hb0 := nrm hb0
              refine Lx ?_
              refine Lx ?_
              refine Lx ?_
              refine Lx ?_
              refine Lx ?_
              refine Lx ?_
              refine Li Pf ?_
              refine g_nil ?_
              refine Me (()) (trivial)
          rintro u hI
          refine g_cond rfl ?_ ?_
          · intro h3
            replace h3 := nrm h3
            have e5 : isK z = true := by unfold isK; simp; omega
            rw [e5, if_pos rfl] at e3
            refine g_region ?_
            refine Li Mv ?_
            refine Li Im ?_
            refine Li As ?_
            refine g_nil ?_
            refine e_block ?_
            refine e_then ?_
            refine g_region ?_
            refine Li Mv ?_
            refine Li Im ?_
            refine Li As ?_
            refine g_nil ?_
            refine Ro (j + 1) ((by omega)) (by omega)
          · intro h3
            replace h3 := nrm h3
            have e5 : isK z = false := by unfold isK; rw [Bool.eq_false_iff]; intro q; simp at q; omega
            rw [e5, if_neg (by decide)] at e3
            refine g_skip ?_
            refine e_block ?_
            refine e_then ?_
            refine g_region ?_
            refine Li Mv ?_
            refine Li Im ?_
            refine Li As ?_
            refine g_nil ?_
            refine Ro (j + 1) ((by omega)) (by omega)
        · intro h2
          replace h2 := nrm h2
          have e3 : wl.take j = wl := List.take_of_length_le (by omega)
          rw [e3]
          refine g_exit ?_
          refine e_then_exit ?_
          refine e_then_exit ?_
          refine e_block_hit ?_
          refine Me (k + keyN wl) (rfl)
      · intro hv
        replace hv := nrm hv
        rw [if_neg (by omega)]
        refine g_skip ?_
        refine Me (k) (rfl)
    rintro k1 hk1
    refine g_seq ?_
    refine g_mid (ι := Nat) [73, 74, 75, 76, 77, 78, 79, 80, 81, 82, 83, 84, 85, 86, 87, 88, 89, 90, 91, 92, 93, 94, 95, 96, 97, 98, 4] (fun k2 => k2 = k + keysOf x.c.verb wl) (fun k2 => [(4, .int .u64 (k2 : Int))]) (fun k2 => [pts b1 43 (outC x.c x.a ax wl.length cx mm), pts ba 89 (bdC 0 (BO E2))]) ?_ ?_
    · refine g_sr ?_
      refine Li (Fa T.fld_43_0) ?_
      refine Li (Fa T.fld_34_0) ?_
      refine Lp (oL T.sc_3 ?_)
      refine Li Cm ?_
      refine Li Mv ?_
      refine g_split (t := 77) rfl ?_ ?_
      · intro h20
        replace h20 := nrm h20
        rw [if_neg (by omega)] at hk1
        have e6 : keysOf x.c.verb wl = if isK (whyM wl) then 1 else 0 := by unfold keysOf; rw [if_neg (by omega), if_pos h20]
        refine Li (Fa T.fld_43_2) ?_
        refine Lp (oL T.sc_39 ?_)
        refine Li (Ln T.sl_39) ?_
        refine Li Cm ?_
        refine Li Pt ?_
        refine Li Mv ?_
        refine g_split (t := 83) rfl ?_ ?_
        · intro h3
          replace h3 := nrm h3
          obtain ⟨z, r, rfl⟩ : ∃ z r, wl = z :: r := List.exists_cons_of_length_pos (by omega)
          have k2 : (icells (z :: r))[0]? = some (.int .i64 z) := rfl
          have a1 : ax.isSome = true := hwx.some (by simp [icells])
          have e7 : whyM (z :: r) = z := rfl
          rw [e7] at e6
          refine Li (Fa T.fld_43_2) ?_
          refine Lp (oL T.sc_39 ?_)
          refine Li (Ix (j := 0) T.sl_39) ?_
          refine Lp (oL T.sc_3 ?_)
          refine Li Cm ?_
          refine Li Pt ?_
          refine Li Mv ?_
          refine g_split (t := 90) rfl ?_ ?_
          · intro h4
            replace h4 := nrm h4
            refine Li (Fa T.fld_43_2) ?_
            refine Lp (oL T.sc_39 ?_)
            refine Li (Ix (j := 0) T.sl_39) ?_
            refine Lp (oL T.sc_3 ?_)
            refine Li Cm ?_
            refine Li Pt ?_
            refine g_ne ?_
            refine g_cond rfl ?_ ?_
            · intro h5
              replace h5 := nrm h5
              have e5 : isK z = true := by unfold isK; simp; omega
              rw [e5, if_pos rfl] at e6
              refine g_region ?_
              refine Li Mv ?_
              refine Li Im ?_
              refine Li As ?_
              refine g_nil ?_
              refine Me (k1 + 1) ((by omega))
            · intro h5
              replace h5 := nrm h5
              have e5 : isK z = false := by unfold isK; rw [Bool.eq_false_iff]; intro q; simp at q; omega
              rw [e5, if_neg (by decide)] at e6
              refine g_skip ?_
              refine Me (k1) ((by omega))
          · intro h4
            replace h4 := nrm h4
            have e5 : isK z = false := by unfold isK; rw [Bool.eq_false_iff]; intro q; simp at q; omega
            rw [e5, if_neg (by decide)] at e6
            refine Lx ?_
            refine Lx ?_
            refine Lx ?_
            refine Lx ?_
            refine Lx ?_
            refine Li Pf ?_
            refine g_ne ?_
            refine g_cond_f rfl rfl ?_
            refine g_skip ?_
            refine Me (k1) ((by omega))
        · intro h3
          replace h3 := nrm h3
          obtain rfl : wl = [] := List.eq_nil_of_length_eq_zero (by omega)
          have e5 : isK (whyM []) = false := by decide
          rw [e5, if_neg (by decide)] at e6
          refine Lx ?_
          refine Lx ?_
          refine Lx ?_
          refine Lx ?_
          refine Lx ?_
          refine Li Pf ?_
          refine Li Mv ?_
          refine Lx ?_
          refine Lx ?_
          refine Lx ?_
          refine Lx ?_
          refine Lx ?_
          refine Li Pf ?_
          refine g_ne ?_
          refine g_cond_f rfl rfl ?_
          refine g_skip ?_
          refine Me (k1) ((by omega))
      · intro h20
        replace h20 := nrm h20
        have e6 : keysOf x.c.verb wl = if 1 ≤ x.c.verb ∧ x.c.verb ≤ 4 then keyN wl else 0 := by unfold keysOf; rw [if_neg h20]
        refine Lx ?_
        refine Lx ?_
        refine Lx ?_
        refine Lx ?_
        refine Li Pf ?_
        refine Li Mv ?_
        refine Lx ?_
        refine Lx ?_
        refine Lx ?_
        refine Lx ?_
        refine Lx ?_
        refine Li Pf ?_
        refine Li Mv ?_
        refine Lx ?_
        refine Lx ?_
        refine Lx ?_
        refine Lx ?_
        refine Lx ?_
        refine Li Pf ?_
        refine g_ne ?_
        refine g_cond_f rfl rfl ?_
        refine g_skip ?_
        refine Me (k1) ((by omega))
    rintro k2 hk3
    refine g_seq ?_
    refine g_mid (ι := Unit) [99, 100, 101, 102, 103, 104, 105, 106, 107, 108, 109, 110, 111, 112, 113, 114] (fun u => True) (fun u => [(114, .bool ((decide (5 ≤ x.c.verb) && decide (x.c.verb ≤ 10)) || decide (x.c.verb = 21)))]) (fun u => [pts b1 43 (outC x.c x.a ax wl.length cx mm), pts ba 89 (bdC 0 (BO E2))]) ?_ ?_
    · refine g_region ?_
      refine Li (Fa T.fld_43_0) ?_
      refine Li (Fa T.fld_34_0) ?_
      refine Lp (oL T.sc_3 ?_)
      refine Li Cm ?_
      refine Li Mv ?_
      refine g_split (t := 103) rfl ?_ ?_
      · intro hb0
        replace hb0 := nrm hb0
        refine Li (Fa T.fld_43_0) ?_
        refine Li (Fa T.fld_34_0) ?_
        refine Lp (oL T.sc_3 ?_)
        refine Li Cm ?_
        refine Li Pt ?_
        refine Li Mv ?_
        refine g_split (t := 109) rfl ?_ ?_
        · intro hb1
          replace hb1 := nrm hb1
          refine Lx ?_
          refine Lx ?_
          refine Lx ?_
          refine Lx ?_
          refine Li Pt ?_
          refine g_nil ?_
          refine Me (()) (trivial)
        · intro hb1
          replace hb1 := nrm hb1
          refine Li (Fa T.fld_43_0) ?_
          refine Li (Fa T.fld_34_0) ?_
          refine Lp (oL T.sc_3 ?_)
          refine Li Cm ?_
          refine Li Pf ?_
          refine g_nil ?_
          refine Me (()) (trivial)
      · intro hb0
        replace hb0 := nrm hb0
        refine Lx ?_
        refine Lx ?_
        refine Lx ?_
        refine Lx ?_
        refine Li Pf ?_
        refine Li Mv ?_
        refine Li (Fa T.fld_43_0) ?_
        refine Li (Fa T.fld_34_0) ?_
        refine Lp (oL T.sc_3 ?_)
        refine Li Cm ?_
        refine Li Pf ?_
        refine g_nil ?_
        refine Me (()) (trivial)
    rintro u hI
    rw [← hk3] at hg2
    refine g_cond rfl ?_ ?_
    · intro hv
      replace hv := nrm hv
      have e6 : setsOf x.c.verb = 1 := by unfold setsOf; rw [if_pos (by omega)]
      rw [e6] at hg2
      refine g_region ?_
      refine Li Mv ?_
      refine Li Im ?_
      refine Li As ?_
      refine g_nil ?_
      refine e_block ?_
      refine e_then ?_
      refine g_region ?_
      refine Li Mv ?_
      refine Li Im ?_
      refine Li As ?_
      refine g_nil ?_
      refine Ro ((i + 1, E2, k2, s + 1)) (⟨by omega, by omega, hg2, by dsimp only; omega, by dsimp only; omega⟩) (by omega)
    · intro hv
      replace hv := nrm hv
      have e6 : setsOf x.c.verb = 0 := by unfold setsOf; rw [if_neg (by omega)]
      rw [e6] at hg2
      refine g_skip ?_
      refine e_block ?_
      refine e_then ?_
      refine g_region ?_
      refine Li Mv ?_
      refine Li Im ?_
      refine Li As ?_
      refine g_nil ?_
      refine Ro ((i + 1, E2, k2, s)) (⟨by omega, by omega, hg2, by dsimp only; omega, by dsimp only; omega⟩) (by omega)
  · intro h1
    replace h1 := nrm h1
    obtain ⟨g1, g2, g3, g4, g5, g6, g7, g8, g9, g10, g11, g12, g13⟩ := hg
    have hrd : ∀ j : Nat, 1 ≤ j → j < 32 → tot E j ≤ 18446744073709551615 → readM (BO E) (j : Int) = tot E j := fun j h1 h2 h => readBO E j h1 h2 h
    have r1 : readM (BO E) 1 = tot E 1 := hrd 1 (by omega) (by omega) (by omega)
    have r2 : readM (BO E) 2 = tot E 2 := hrd 2 (by omega) (by omega) (by omega)
    have r3 : readM (BO E) 3 = tot E 3 := hrd 3 (by omega) (by omega) (by omega)
    have r6 : readM (BO E) 6 = tot E 6 := hrd 6 (by omega) (by omega) (by omega)
    have r7 : readM (BO E) 7 = tot E 7 := hrd 7 (by omega) (by omega) (by omega)
    have r8 : readM (BO E) 8 = tot E 8 := hrd 8 (by omega) (by omega) (by omega)
    have r9 : readM (BO E) 9 = tot E 9 := hrd 9 (by omega) (by omega) (by omega)
    have r16 : readM (BO E) 16 = tot E 16 := hrd 16 (by omega) (by omega) (by omega)
    have r17 : readM (BO E) 17 = tot E 17 := hrd 17 (by omega) (by omega) (by omega)
    have r18 : readM (BO E) 18 = tot E 18 := hrd 18 (by omega) (by omega) (by omega)
    have r19 : readM (BO E) 19 = tot E 19 := hrd 19 (by omega) (by omega) (by omega)
    have r20 : readM (BO E) 20 = tot E 20 := hrd 20 (by omega) (by omega) (by omega)
    have r24 : readM (BO E) 24 = tot E 24 := hrd 24 (by omega) (by omega) (by omega)
    have r0 : ∀ q : Nat, q ≤ 5 → q ≠ 4 → readM (BO E) ((25 + q : Nat) : Int) = 0 := fun q h1 h2 => by
      have : q = 0 ∨ q = 1 ∨ q = 2 ∨ q = 3 ∨ q = 5 := by omega
      rcases this with rfl | rfl | rfl | rfl | rfl
      · rw [hrd 25 (by omega) (by omega) (by omega), g8]
      · rw [hrd 26 (by omega) (by omega) (by omega), g9]
      · rw [hrd 27 (by omega) (by omega) (by omega), g10]
      · rw [hrd 28 (by omega) (by omega) (by omega), g11]
      · rw [hrd 30 (by omega) (by omega) (by omega), g12]
    have hB := BO_bd E
    generalize BO E = B at *
    generalize tot E 1 = T1 at *
    generalize tot E 2 = T2 at *
    generalize tot E 3 = T3 at *
    generalize tot E 6 = T6 at *
    generalize tot E 7 = T7 at *
    generalize tot E 8 = T8 at *
    generalize tot E 9 = T9 at *
    generalize tot E 16 = T16 at *
    generalize tot E 17 = T17 at *
    generalize tot E 18 = T18 at *
    generalize tot E 19 = T19 at *
    generalize tot E 20 = T20 at *
    generalize tot E 24 = T24 at *
    refine g_exit ?_
    refine e_then_exit ?_
    refine e_then_exit ?_
    refine e_block_hit ?_
    refine e_then ?_
    refine g_seq ?_
    refine g_sr ?_
    refine Li As ?_
    refine g_ne ?_
    refine g_block ?_
    refine Lo (ι := Nat) [117, 118, 121, 122, 123, 124, 125, 126, 127, 128, 2, 119, 120, 9] (fun q => q ≤ 6) (fun q => [(9, .int .i64 ((25 + q : Nat) : Int))]) (fun q => [pts ba 89 (bdC 0 B)]) (fun q => 6 - q) (0) (Nat.zero_le _) ?_
    rintro q hq
    refine g_seq ?_
    refine g_sr ?_
    refine Li Mv ?_
    refine Li Cm ?_
    refine g_ne ?_
    refine g_cond rfl ?_ ?_
    · intro h2
      replace h2 := nrm h2
      refine g_skip ?_
      refine e_then ?_
      refine g_seq ?_
      refine g_block ?_
      refine g_sr ?_
      refine Li Mv ?_
      refine Li Cm ?_
      refine Li Mv ?_
      refine g_split (t := 123) rfl ?_ ?_
      · intro h3
        replace h3 := nrm h3
        refine Li Mv ?_
        refine Li Mv ?_
        refine Lp (oC T.fn_20 rfl rfl (Read_fn ba 89 B hB ((25 + q : Nat) : Int)) (.cons .here .nil) (fun _ _ _ => trivial) ?_)
        rintro v H' ⟨rfl, rfl⟩
        try simp only [nap, cap]
        rw [r0 q (by omega) (by omega)]
        refine Li Cm ?_
        refine Li Pt ?_
        refine g_ne ?_
        refine g_cond_f rfl (by rfl) ?_
        refine g_skip ?_
        refine e_block ?_
        refine e_then ?_
        refine g_region ?_
        refine Li Mv ?_
        refine Li Im ?_
        refine Li As ?_
        refine g_nil ?_
        refine Ro (q + 1) ((by omega)) (by omega)
      · intro h3
        replace h3 := nrm h3
        refine Lx ?_
        refine Lx ?_
        refine Lx ?_
        refine Lx ?_
        refine Li Pf ?_
        refine g_ne ?_
        refine g_cond_f rfl rfl ?_
        refine g_skip ?_
        refine e_block ?_
        refine e_then ?_
        refine g_region ?_
        refine Li Mv ?_
        refine Li Im ?_
        refine Li As ?_
        refine g_nil ?_
        refine Ro (q + 1) ((by omega)) (by omega)
    · intro h2
      replace h2 := nrm h2
      refine g_exit ?_
      refine e_then_exit ?_
      refine e_then_exit ?_
      refine e_block_hit ?_
      refine e_then ?_
      refine g_sr ?_
      refine Li Mv ?_
      refine Lp (oC T.fn_20 rfl rfl (Read_fn ba 89 B hB 1) (.cons .here .nil) (fun _ _ _ => trivial) ?_)
      rintro v H' ⟨rfl, rfl⟩
      try simp only [nap, cap]
      rw [r1]
      refine Li Mv ?_
      refine Li Cm ?_
      refine Li Mv ?_
      refine g_slot (t := 133) (v' := .bool true) rfl (congrArg Value.bool (by (rw [decide_eq_true_eq]; omega))) ?_
      refine Li Mv ?_
      refine Lp (oC T.fn_20 rfl rfl (Read_fn ba 89 B hB 6) (.cons .here .nil) (fun _ _ _ => trivial) ?_)
      rintro v H' ⟨rfl, rfl⟩
      try simp only [nap, cap]
      rw [r6]
      refine Li Mv ?_
      refine Lp (oC T.fn_20 rfl rfl (Read_fn ba 89 B hB 7) (.cons .here .nil) (fun _ _ _ => trivial) ?_)
      rintro v H' ⟨rfl, rfl⟩
      try simp only [nap, cap]
      rw [r7]
      refine Li Im ?_
      refine Li Mv ?_
      refine Li Cm ?_
      refine Li Pt ?_
      refine Li Mv ?_
      refine g_slot (t := 142) (v' := .bool true) rfl (congrArg Value.bool (by (rw [decide_eq_true_eq]; omega))) ?_
      refine Li Mv ?_
      refine Lp (oC T.fn_20 rfl rfl (Read_fn ba 89 B hB 8) (.cons .here .nil) (fun _ _ _ => trivial) ?_)
      rintro v H' ⟨rfl, rfl⟩
      try simp only [nap, cap]
      rw [r8]
      refine Li Mv ?_
      refine Lp (oC T.fn_20 rfl rfl (Read_fn ba 89 B hB 9) (.cons .here .nil) (fun _ _ _ => trivial) ?_)
      rintro v H' ⟨rfl, rfl⟩
      try simp only [nap, cap]
      rw [r9]
      refine Li Im ?_
      refine Li Mv ?_
      refine Lp (oC T.fn_20 rfl rfl (Read_fn ba 89 B hB 7) (.cons .here .nil) (fun _ _ _ => trivial) ?_)
      rintro v H' ⟨rfl, rfl⟩
      try simp only [nap, cap]
      rw [r7]
      refine Li Cm ?_
      refine Li Pt ?_
      refine Li Mv ?_
      refine g_slot (t := 152) (v' := .bool true) rfl (congrArg Value.bool (by (rw [decide_eq_true_eq]; omega))) ?_
      refine Li Mv ?_
      refine Lp (oC T.fn_20 rfl rfl (Read_fn ba 89 B hB 19) (.cons .here .nil) (fun _ _ _ => trivial) ?_)
      rintro v H' ⟨rfl, rfl⟩
      try simp only [nap, cap]
      rw [r19]
      refine Li Mv ?_
      refine Lp (oC T.fn_20 rfl rfl (Read_fn ba 89 B hB 20) (.cons .here .nil) (fun _ _ _ => trivial) ?_)
      rintro v H' ⟨rfl, rfl⟩
      try simp only [nap, cap]
      rw [r20]
      refine Li Im ?_
      refine Li Mv ?_
      refine Lp (oC T.fn_20 rfl rfl (Read_fn ba 89 B hB 3) (.cons .here .nil) (fun _ _ _ => trivial) ?_)
      rintro v H' ⟨rfl, rfl⟩
      try simp only [nap, cap]
      rw [r3]
      refine Li Cm ?_
      refine Li Pt ?_
      refine Li Mv ?_
      refine g_slot (t := 162) (v' := .bool true) rfl (congrArg Value.bool (by (rw [decide_eq_true_eq]; omega))) ?_
      refine Li Mv ?_
      refine Lp (oC T.fn_20 rfl rfl (Read_fn ba 89 B hB 2) (.cons .here .nil) (fun _ _ _ => trivial) ?_)
      rintro v H' ⟨rfl, rfl⟩
      try simp only [nap, cap]
      rw [r2]
      refine Li Mv ?_
      refine Li Cm ?_
      refine Li Pt ?_
      refine Li Mv ?_
      refine g_slot (t := 168) (v' := .bool true) rfl (congrArg Value.bool (by (rw [decide_eq_true_eq]; omega))) ?_
      refine Li Mv ?_
      refine Lp (oC T.fn_20 rfl rfl (Read_fn ba 89 B hB 24) (.cons .here .nil) (fun _ _ _ => trivial) ?_)
      rintro v H' ⟨rfl, rfl⟩
      try simp only [nap, cap]
      rw [r24]
      refine Li Mv ?_
      refine Li Cm ?_
      refine Li Pt ?_
      refine Li Mv ?_
      refine g_slot (t := 174) (v' := .bool true) rfl (congrArg Value.bool (by (rw [decide_eq_true_eq]; omega))) ?_
      refine Li Mv ?_
      refine Lp (oC T.fn_20 rfl rfl (Read_fn ba 89 B hB 16) (.cons .here .nil) (fun _ _ _ => trivial) ?_)
      rintro v H' ⟨rfl, rfl⟩
      try simp only [nap, cap]
      rw [r16]
      refine Li Mv ?_
      refine Lp (oC T.fn_20 rfl rfl (Read_fn ba 89 B hB 17) (.cons .here .nil) (fun _ _ _ => trivial) ?_)
      rintro v H' ⟨rfl, rfl⟩
      try simp only [nap, cap]
      rw [r17]
      refine Li Im ?_
      refine Li Mv ?_
      refine Lp (oC T.fn_20 rfl rfl (Read_fn ba 89 B hB 18) (.cons .here .nil) (fun _ _ _ => trivial) ?_)
      rintro v H' ⟨rfl, rfl⟩
      try simp only [nap, cap]
      rw [r18]
      refine Li Im ?_
      refine Li Mv ?_
      refine Li Cm ?_
      refine Li Pt ?_
      refine Li As ?_
      refine g_ne ?_
      refine g_ret ?_
      refine Rt [] Tryd.results4 ?_
      exact ⟨congrArg Value.bool (by rw [decide_eq_true_eq]; omega), rfl⟩
end Go.Proofs.YtdmepoiijgejhaaDoor

