/- Packets: the law of Read. -/
import Derived.Test.YtggmpaggmkfmoaaD10
import Derived.Test.YtggmpaggmkfmoaaD12
set_option maxRecDepth 100000
namespace Go.Proofs.Ytggmpaggmkfmoaa
open Go Go.Eng

theorem readP_len (l : List UInt8) (limit : Int) : (readP l limit).1.ex.length ≤ l.length ∧ (readP l limit).1.val.length ≤ l.length := by
  unfold readP
  split
  · exact ⟨Nat.zero_le _, Nat.zero_le _⟩
  · split
    · exact ⟨Nat.zero_le _, Nat.zero_le _⟩
    · refine ⟨?_, ?_⟩
      · show ((l.drop 24).take (byt l 4)).length ≤ _
        simp; omega
      · show (if decide _ = true then ([] : List UInt8) else _).length ≤ _
        split
        · exact Nat.zero_le _
        · simp; omega
theorem same_refl (p : Pkt) (ae av be bv : Option Addr) (ce cv de dv : Nat) :
    FnS Try.prog 25 [.agg (pktCells p ae ce av cv).toArray, .agg (pktCells p be de bv dv).toArray] (fun h => (Rdl h ae (bcells p.ex) ∧ Rdl h av (bcells p.val)) ∧ (Rdl h be (bcells p.ex) ∧ Rdl h bv (bcells p.val))) []
      (fun v H => v = .bool true ∧ H = []) := (same_fn p p ae av be bv ce cv de dv).imp (fun _ q => q) fun v H r => by rw [sameB_refl] at r; exact r
set_option maxHeartbeats 2000000 in
theorem kept_fn (b : Nat) (ai : Option Addr) (ci : Nat) (aw : Option Addr) (cw : Nat) (xs : List Bi) (n : Int) (ok : BkOk xs ci cw n) (hn : n ≤ 300000) (p : Pkt) (ae : Option Addr) (ce : Nat) (av : Option Addr) (cv : Nat) (he : p.ex.length ≤ 20000) (hv : p.val.length ≤ 20000) :
    FnS Try.prog 26 [.pointer (some ⟨b, 0, none⟩), .agg (pktCells p ae ce av cv).toArray] (fun _ => True) (own ae ce 5 1 (bcells p.ex) :: own av cv 5 1 (bcells p.val) :: bkH b ai ci aw cw xs n)
      (fun v H => v = .tuple #[] ∧ ∃ ai' ci' aw' cw' xs' n', H = bkH b ai' ci' aw' cw' xs' n' ∧ BkOk xs' ci' cw' n' ∧ n' ≤ 300000) := by
  refine fn_body Try.func26 rfl Try.ntmps26 rfl ?_
  intro F hF
  unfold bkH
  refine g_sr ?_
  refine Lp (oB fun b1 => ?_)
  refine g_ne ?_
  refine g_sr ?_
  refine Li Mv ?_
  refine Li (Fa T.fld_39_5) ?_
  refine Lp (oL T.sc_37 ?_)
  refine Lp (oC T.fn_19 rfl rfl (bBytes_fn b ai ci aw cw xs n ok hn ae ce p.ex he p.ex.length rfl) (.cons (.there .here) (.cons (.there (.there .here)) (.cons (.there (.there .here)) (.cons (.there (.there .here)) (.cons (.there (.there .here)) .nil))))) (fun _ _ _ => trivial) ?_)
  rintro v H' ⟨rfl, bi2, ci2, bw2, cw2, xs2, n2, rfl, ok2, hn2⟩
  try simp only [nap, cap]
  simp only [bkH, nap, cap]
  refine g_ne ?_
  refine g_region ?_
  refine Li Mv ?_
  refine Li (Fa T.fld_39_7) ?_
  refine Lp (oL T.sc_37 ?_)
  refine Lp (oC T.fn_19 rfl rfl (bBytes_fn b bi2 ci2 bw2 cw2 xs2 n2 ok2 hn2 av cv p.val hv p.val.length rfl) (.cons (.there (.there (.there (.there (.there .here))))) (.cons .here (.cons .here (.cons .here (.cons .here .nil))))) (fun _ _ _ => trivial) ?_)
  rintro v H' ⟨rfl, bi3, ci3, bw3, cw3, xs3, n3, rfl, ok3, hn3⟩
  try simp only [nap, cap]
  simp only [bkH, nap, cap]
  refine g_nil ?_
  refine Rn0 [pts b 32 (bkC (.slice bi3 xs3.length ci3) (.slice bw3 xs3.length cw3) nilS nilS n3), own bi3 ci3 37 1 (xs3.map bir), own bw3 cw3 37 1 (xs3.map biw), stars (xs3.map Qb)] Try.results26 ?_
  exact ⟨rfl, bi3, ci3, bw3, cw3, xs3, n3, rfl, ok3, hn3⟩
set_option maxHeartbeats 8000000 in
theorem preadsLaw_fn (raw : List UInt8) (a : Option Addr) (c : Nat) (limit : Int) (hr : raw.length ≤ c) (q1 : -9223372036854775808 ≤ limit) (q2 : limit ≤ 9223372036854775807) :
    FnS Try.prog 4 [.slice a raw.length c, .int .i64 limit] (fun h => Rdl h a (bcells raw)) [] (fun v H => v = .bool true ∧ H = []) := by
  refine fn_body Try.func4 rfl Try.ntmps4 rfl ?_
  intro F hF
  have hcl : (cap12 raw).length ≤ 12000 := by simp [cap12]; omega
  refine g_sr ?_
  refine Li As ?_
  refine g_ne ?_
  refine g_sr ?_
  refine Li Mv ?_
  refine Lp (oC T.fn_22 rfl rfl (bytes22_fn raw a raw.length c rfl hr) .nil (fun _ _ _ => trivial) ?_)
  rintro v H' ⟨ax, cx, rfl, hcx, hrx, rfl⟩
  try simp only [nap, cap]
  have hX := hrx _ hF
  clear hrx hF
  generalize cap12 raw = S at *
  refine Li As ?_
  refine g_ne ?_
  refine g_sr ?_
  refine Li (Bd T.zc_32 T.st_32) ?_
  refine Lp (oB fun b1 => ?_)
  refine Li As ?_
  refine g_ne ?_
  refine g_sr ?_
  refine Li (Bd T.zc_35 T.st_35) ?_
  refine Lp (oB fun b2 => ?_)
  refine Li As ?_
  refine g_ne ?_
  refine g_seq ?_
  generalize hbk : b1 = bk
  generalize hlo : b2 = lo


  refine g_nilrow 37 1 ?_
  refine g_nilrow 37 1 ?_
  refine g_heap (fun _ s => starL_nil_stars s) ?_
  refine Hh (H' := [pts lo 35 (lnC nilS nilS), pts bk 32 (bkC nilS nilS nilS nilS 0), own none 0 37 1 (([] : List Bi).map bir), own none 0 37 1 (([] : List Bi).map biw), stars (([] : List Bi).map Qb)]) ?_
  refine g_sr ?_
  refine Li As ?_
  refine g_ne ?_
  refine g_block ?_
  refine Lo (ι := Nat × Option Addr × Nat × Option Addr × Nat × List Bi × Int) [21, 22, 23, 24, 27, 28, 29, 30, 31, 32, 33, 34, 35, 36, 37, 38, 7, 39, 40, 41, 42, 43, 8, 45, 46, 47, 44, 48, 49, 50, 9, 10, 11, 52, 53, 54, 55, 56, 51, 57, 58, 59, 12, 13, 14, 60, 61, 62, 63, 64, 65, 66, 67, 68, 69, 70, 71, 72, 73, 74, 75, 76, 77, 78, 79, 80, 81, 82, 83, 84, 85, 4, 86, 87, 88, 25, 26] (fun (i, ai, ci, aw, cw, xs, n) => i ≤ S.length + 1 ∧ BkOk xs ci cw n ∧ n ≤ 300000) (fun (i, ai, ci, aw, cw, xs, n) => [(7, .int .i64 (i : Int))]) (fun (i, ai, ci, aw, cw, xs, n) => [pts lo 35 (lnC nilS nilS), pts bk 32 (bkC (.slice ai xs.length ci) (.slice aw xs.length cw) nilS nilS n), own ai ci 37 1 (xs.map bir), own aw cw 37 1 (xs.map biw), stars (xs.map Qb)]) (fun (i, ai, ci, aw, cw, xs, n) => S.length + 1 - i) ((0, none, 0, none, 0, [], 0)) ⟨Nat.zero_le _, ⟨Nat.zero_le _, Nat.zero_le _, fun i x h => by simp at h, Int.le_refl _, by simp, by simp⟩, by omega⟩ ?_
  rintro ⟨i, ai, ci, aw, cw, xs, n⟩ ⟨hi, ok, hn⟩
  try dsimp only at hI ⊢
  try dsimp only at hi ok hn ⊢
  refine g_seq ?_
  refine g_sr ?_
  refine Li Mv ?_
  refine Li Mv ?_
  refine Li (Ln T.sl_37) ?_
  refine Li Cm ?_
  refine g_ne ?_
  refine g_cond rfl ?_ ?_
  · intro h1
    replace h1 := nrm h1
    refine g_skip ?_
    refine e_then ?_
    refine g_seq ?_
    refine g_block ?_
    refine g_seq ?_
    refine g_seq ?_
    refine g_mid (ι := Unit) [27, 28, 29, 30, 31, 32, 33, 34, 35] (fun u => True) (fun u => [(35, .bool (decide (60 < (i : Int)) && decide ((i : Int) < (S.length : Int) - 30)))]) (fun u => [pts lo 35 (lnC nilS nilS), pts bk 32 (bkC (.slice ai xs.length ci) (.slice aw xs.length cw) nilS nilS n), own ai ci 37 1 (xs.map bir), own aw cw 37 1 (xs.map biw), stars (xs.map Qb)]) ?_ ?_
    · refine g_region ?_
      refine Li Mv ?_
      refine Li Cm ?_
      refine Li Mv ?_
      refine g_split (t := 29) rfl ?_ ?_
      · intro hb0
        replace hb0 := nrm hb0
        refine Li Mv ?_
        refine Li Mv ?_
        refine Li (Ln T.sl_37) ?_
        refine Li Im ?_
        refine Li Cm ?_
        refine Li Pt ?_
        refine g_nil ?_
        refine Me (()) (trivial)
      · intro hb0
        replace hb0 := nrm hb0
        refine Lx ?_
        refine Lx ?_
        refine Lx ?_
        refine Lx ?_
        refine Lx ?_
        refine Li Pf ?_
        refine g_nil ?_
        refine Me (()) (trivial)
    rintro u hI
    refine g_mid (ι := Nat) [36, 37, 38, 7] (fun k => i ≤ k ∧ k ≤ S.length) (fun k => [(7, .int .i64 (k : Int))]) (fun k => [pts lo 35 (lnC nilS nilS), pts bk 32 (bkC (.slice ai xs.length ci) (.slice aw xs.length cw) nilS nilS n), own ai ci 37 1 (xs.map bir), own aw cw 37 1 (xs.map biw), stars (xs.map Qb)]) ?_ ?_
    · refine g_cond rfl ?_ ?_
      · intro hj
        replace hj := nrm hj
        refine g_region ?_
        refine Li Mv ?_
        refine Li (Ln T.sl_37) ?_
        refine Li Im ?_
        refine Li As ?_
        refine g_nil ?_
        refine g_slot (t := 7) (v' := .int .i64 ((S.length - 30 : Nat) : Int)) rfl (by refine congrArg (Value.int .i64) ?_; omega) ?_
        refine Me ((S.length - 30)) (⟨by omega, by omega⟩)
      · intro hj
        replace hj := nrm hj
        refine g_skip ?_
        refine Me (i) (⟨by omega, by omega⟩)
    rintro k ⟨hk1, hk2⟩
    have hkl : (S.take k).length = k := by simp; omega
    have hC : Rdl F.h (cutA ax 0 cx (0 * 1)) (bcells (S.take k)) := by
      have := cut2 hX 0 cx k (by omega)
      simpa using this
    obtain ⟨hpe, hpv⟩ := readP_len (S.take k) limit
    obtain ⟨p, pn, pe, hrp⟩ : ∃ p n e, readP (S.take k) limit = (p, n, e) := ⟨_, _, _, rfl⟩
    rw [hrp] at hpe hpv
    dsimp only at hpe hpv
    refine g_heap ln_zero ?_
    refine g_sr ?_
    refine Li Mv ?_
    refine Li Mv ?_
    refine Li Mv ?_
    refine Li (Sl 0 _ _ T.sl_37) ?_
    refine Lp (oC T.fn_14 rfl rfl (lBytes_fn lo none 0 none 0 [] (Nat.zero_le _) (Nat.zero_le _) (Nat.zero_le _) (cutA ax 0 cx (0 * 1)) (cx - 0) (S.take k) (by omega) (k - 0) (by omega)) (.cons .here (.cons .here (.cons .here (.cons .here .nil)))) (fun _ le _ => hC.mono le) ?_)
    rintro v H' ⟨la, lc, lw, ld, X, rfl, hXL, hXc, lc1, lc2, rfl⟩
    try simp only [nap, cap]
    simp only [lnH, nap, cap, List.nil_append]
    simp only [List.length_nil, Nat.zero_add] at lc1 lc2
    refine Li As ?_
    refine g_ne ?_
    refine g_sr ?_
    refine Li Mv ?_
    refine Li Mv ?_
    refine Lp (oC T.fn_23 rfl rfl (read_fn (S.take k) (cutA X.r.a 0 X.r.c (0 * 1)) (S.take k).length (X.r.c - 0) limit rfl (by omega) (by omega) q1 q2) .nil (fun _ _ hin => cutB (by have := (ln_rows (hin.nth 3 rfl) X (by simp)).2.1; rw [hXL] at this; exact this) (by omega)) ?_)
    rintro v H' ⟨ae, ce, av, cv, rfl, rfl⟩
    try simp only [nap, cap]
    rw [hrp]
    dsimp only
    refine Li Mv ?_
    refine Li Ex ?_
    refine Li Ex ?_
    refine Li Ex ?_
    refine Lp (oA T.zc_39 fun b3 => ?_)
    refine Lp (oSW T.ag_39 ?_ (h1 := by first | exact pktCells_one _ _ _ _ _ | (simp [setL, Value.cells, Value.oneCell', strv])))
    refine Li As ?_
    refine Li As ?_
    refine g_ne ?_
    refine g_sr ?_
    refine Li Mv ?_
    refine Li Mv ?_
    refine Li (Sl 0 _ _ T.sl_37) ?_
    refine Li Mv ?_
    generalize ht9 : b3 = t9
    refine Lp (oC T.fn_24 rfl rfl (rread_fn (S.take k) (cutA ax 0 cx (0 * 1)) (k - 0) (cx - 0) limit (by omega) (by omega) (by omega) q1 q2) .nil (fun _ le _ => hC.mono le) ?_)
    rintro v H' ⟨be, de, bv, dv, rfl, rfl⟩
    try simp only [nap, cap]
    rw [hrp]
    dsimp only
    refine Li Mv ?_
    refine Li Ex ?_
    refine Li Ex ?_
    refine Li Ex ?_
    refine Lp (oA T.zc_39 fun b4 => ?_)
    refine Lp (oSW T.ag_39 ?_ (h1 := by first | exact pktCells_one _ _ _ _ _ | (simp [setL, Value.cells, Value.oneCell', strv])))
    refine Li As ?_
    refine Li As ?_
    refine g_ne ?_
    refine g_seq ?_
    refine g_sr ?_
    refine Li Mv ?_
    generalize ht12 : b4 = t12
    refine Lp (oC T.fn_17 rfl rfl (num_fn pe) .nil (fun _ _ _ => trivial) ?_)
    rintro v H' ⟨rfl, rfl⟩
    try simp only [nap, cap]
    refine Li Mv ?_
    refine Li Cm ?_
    refine Li Mv ?_
    refine g_slot (t := 64) (v' := .bool false) rfl (congrArg Value.bool (by simp)) ?_
    refine Li Mv ?_
    refine Li Mv ?_
    refine Li Cm ?_
    refine Li Pf ?_
    refine Li Mv ?_
    refine g_slot (t := 69) (v' := .bool false) rfl (congrArg Value.bool (by simp)) ?_
    refine Lp (oLN T.ag_39 ?_)
    refine Lp (oLN T.ag_39 ?_)
    refine Lp (oC T.fn_25 rfl rfl (same_refl p ae av be bv ce cv de dv) .nil (fun _ _ hin => ⟨⟨own_in (hin.nth 4 rfl), own_in (hin.nth 5 rfl)⟩, own_in (hin.nth 1 rfl), own_in (hin.nth 2 rfl)⟩) ?_)
    rintro v H' ⟨rfl, rfl⟩
    try simp only [nap, cap]
    refine Li Nt ?_
    refine Li Pf ?_
    refine Li Mv ?_
    refine g_slot (t := 75) (v' := .bool false) rfl (congrArg Value.bool (by rfl)) ?_
    refine Li Mv ?_
    have hpl : padL.length = 40 := by simp [padL]
    have hXLL : X.L.length ≤ 200000 := by rw [hXL, List.length_append, hpl]; omega
    refine Lp (oC T.fn_18 rfl rfl (lBack_fn lo la lc lw ld [X] (by simp) (by intro z hz; simp at hz; subst hz; exact hXLL)) (.cons (.there (.there (.there (.there (.there (.there .here)))))) (.cons (.there (.there (.there (.there (.there (.there .here)))))) (.cons (.there (.there (.there (.there (.there (.there .here)))))) (.cons (.there (.there (.there (.there (.there (.there .here)))))) .nil)))) (fun _ _ _ => trivial) ?_)
    rintro v H' ⟨rfl, rfl⟩
    try simp only [nap, cap]
    refine Li Nt ?_
    refine Li Pf ?_
    refine Li Mv ?_
    refine g_slot (t := 80) (v' := .bool false) rfl (congrArg Value.bool (by rfl)) ?_
    refine Lp (oLN T.ag_39 ?_)
    refine Lp (oLN T.ag_39 ?_)
    refine Lp (oC T.fn_25 rfl rfl (same_refl p ae av be bv ce cv de dv) .nil (fun _ _ hin => ⟨⟨own_in (hin.nth 5 rfl), own_in (hin.nth 6 rfl)⟩, own_in (hin.nth 2 rfl), own_in (hin.nth 3 rfl)⟩) ?_)
    rintro v H' ⟨rfl, rfl⟩
    try simp only [nap, cap]
    refine Li Nt ?_
    refine Li Pf ?_
    refine g_ne ?_
    refine g_cond_f rfl (by rfl) ?_
    refine g_skip ?_
    refine e_then ?_
    refine g_region ?_
    refine Li Mv ?_
    refine Lp (oLN T.ag_39 ?_)
    refine Lp (oC T.fn_26 rfl rfl (kept_fn bk ai ci aw cw xs n ok hn p ae ce av cv (by omega) (by omega)) (.cons (.there (.there (.there (.there (.there .here))))) (.cons (.there (.there (.there (.there (.there .here))))) (.cons (.there (.there (.there (.there (.there .here))))) (.cons (.there (.there (.there (.there (.there .here))))) (.cons (.there (.there (.there (.there (.there .here))))) (.cons (.there (.there (.there (.there (.there .here))))) .nil)))))) (fun _ _ _ => trivial) ?_)
    rintro v H' ⟨rfl, bi3, ci3, bw3, cw3, xs3, n3, rfl, ok3, hn3⟩
    try simp only [nap, cap]
    simp only [bkH, nap, cap]
    refine g_nil ?_
    refine e_block ?_
    refine e_then ?_
    refine g_region ?_
    refine Li Mv ?_
    refine Li Im ?_
    refine Li As ?_
    refine g_nil ?_
    refine Ro ((k + 1, bi3, ci3, bw3, cw3, xs3, n3)) (⟨by omega, ok3, hn3⟩) (by omega)
  · intro h1
    replace h1 := nrm h1
    refine g_exit ?_
    refine e_then_exit ?_
    refine e_then_exit ?_
    refine e_block_hit ?_
    refine e_then ?_
    refine g_sr ?_
    refine Li Mv ?_
    refine Lp (oC T.fn_20 rfl rfl (close_fn bk ai ci aw cw xs n ok hn) (.cons (.there .here) (.cons (.there .here) (.cons (.there .here) (.cons (.there .here) .nil)))) (fun _ _ _ => trivial) ?_)
    rintro v H' ⟨rfl, rfl⟩
    try simp only [nap, cap]
    refine Li Mv ?_
    refine g_slot (t := 91) (v' := .bool true) rfl (congrArg Value.bool (by rfl)) ?_
    refine Lp (oC T.fn_21 rfl rfl (wakes_fn) .nil (fun _ _ _ => trivial) ?_)
    rintro v H' ⟨rfl, rfl⟩
    try simp only [nap, cap]
    refine Li Pt ?_
    refine Li As ?_
    refine g_ne ?_
    refine g_ret ?_
    refine Rt [] Try.results4 ?_
    exact ⟨rfl, rfl⟩
end Go.Proofs.Ytggmpaggmkfmoaa

