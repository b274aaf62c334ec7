/- Packets: the awakening. -/
import Derived.Test.YtggmpaggmkfmoaaA11
set_option maxRecDepth 100000
namespace Go.Proofs.Ytggmpaggmkfmoaa
open Go Go.Eng

def wkP : Pkt := ⟨false, 1, 0, 5, 7, [1], [107], [120, 121], false⟩
def wkB : List UInt8 := [128, 1, 0, 1, 1, 0, 0, 0, 0, 0, 0, 4, 0, 0, 0, 5, 0, 0, 0, 0, 0, 0, 0, 7, 1, 107, 120, 121]
theorem wk_ok : okP wkP = true := by decide
theorem wk_enc : enc wkP = wkB := by decide
theorem wk_read : readP wkB 9 = (wkP, 28, 0) := by decide
theorem wk_bad : readP [130] 9 = (zeroP, 0, 7) := by decide
theorem wk_1 : stepM 9 FSt.start (wkB.take 20) = ([], ⟨wkB.take 20, 0, false⟩) := by rfl
theorem wk_2 : stepM 9 ⟨wkB.take 20, 0, false⟩ (wkB.drop 20) = ([wkP], ⟨[], 0, false⟩) := by rfl
theorem wk_3 : stepM 9 ⟨[], 0, false⟩ [1] = ([], ⟨[], 0, true⟩) := by rfl

theorem wk_bytes (ae av : Option Addr) (ce cv : Nat) : FnS Try.prog 15 [.agg (pktCells wkP ae ce av cv).toArray] (fun h => Rdl h ae (bcells [1]) ∧ Rdl h av (bcells [120, 121])) []
    (fun v H => ∃ a c, v = .tuple #[.slice a 28 c, .int .i64 0] ∧ H = [own a c 5 1 (bcells wkB)]) :=
  (bytes_fn wkP ae ce av cv (by decide) (by decide)).imp (fun _ p => p) fun v H r => by
    rcases r with ⟨_, a, c, rfl, rfl⟩ | ⟨q, _⟩
    · rw [wk_enc]; exact ⟨a, c, rfl, rfl⟩
    · rw [wk_ok] at q; cases q
theorem wk_readc (a : Option Addr) (c : Nat) (hc : 28 ≤ c) : FnS Try.prog 23 [.slice a 28 c, .int .i64 9] (fun h => Rdl h a (bcells wkB)) []
    (fun v H => ∃ ae ce av cv, v = .tuple #[.agg (pktCells wkP ae ce av cv).toArray, .int .i64 28, .int .i64 0] ∧ H = [own ae ce 5 1 (bcells [1]), own av cv 5 1 (bcells [120, 121])]) :=
  (read_fn wkB a 28 c 9 rfl hc (by decide) (by decide) (by decide)).imp (fun _ p => p) fun v H r => by
    rw [wk_read] at r; exact r
theorem wk_badc (a : Option Addr) (c : Nat) (hc : 1 ≤ c) : FnS Try.prog 23 [.slice a 1 c, .int .i64 9] (fun h => Rdl h a (bcells [130])) []
    (fun v H => ∃ ae ce av cv, v = .tuple #[.agg (pktCells zeroP ae ce av cv).toArray, .int .i64 0, .int .i64 7] ∧ H = [own ae ce 5 1 (bcells []), own av cv 5 1 (bcells [])]) :=
  (read_fn [130] a 1 c 9 rfl hc (by decide) (by decide) (by decide)).imp (fun _ p => p) fun v H r => by
    rw [wk_bad] at r; exact r
theorem wk_f1 (bf : Nat) (a : Option Addr) (c : Nat) (hc : 20 ≤ c) : FnS Try.prog 31 [.pointer (some ⟨bf, 0, none⟩), .slice a 20 c] (fun h => Rdl h a (bcells (wkB.take 20))) [pts bf 95 (fdCells 9 none 0 0 0 false 0), own none 0 5 1 (bcells [])]
    (fun v H => ∃ ak ck ao co, v = .slice ao 0 co ∧ 20 ≤ ck ∧ H = [pts bf 95 (fdCells 9 ak 20 ck 0 false 20), own ak ck 5 1 (bcells (wkB.take 20)), own ao co 39 9 [], stars []]) :=
  (feed_any bf 9 0 0 FSt.start none a 20 c (wkB.take 20) rfl hc (Nat.le_refl _) (FSt.ok_start 9) (by decide) (by decide) (by decide)).imp (fun _ p => p) fun v H r => by
    rw [wk_1] at r
    obtain ⟨ak, ck, ao, co, l, rfl, h1, h2, rfl⟩ := r
    obtain rfl := List.map_eq_nil_iff.1 h1
    exact ⟨ak, ck, ao, co, rfl, h2, rfl⟩
theorem wk_f2 (bf : Nat) (a ak : Option Addr) (c ck : Nat) (hc : 8 ≤ c) (hk : 20 ≤ ck) : FnS Try.prog 31 [.pointer (some ⟨bf, 0, none⟩), .slice a 8 c] (fun h => Rdl h a (bcells (wkB.drop 20))) [pts bf 95 (fdCells 9 ak 20 ck 0 false 20), own ak ck 5 1 (bcells (wkB.take 20))]
    (fun v H => ∃ ak ck ao co ae ce av cv, v = .slice ao 1 co ∧ H = [pts bf 95 (fdCells 9 ak 0 ck 0 false 28), own ak ck 5 1 (bcells []), own ao co 39 9 (pktCells wkP ae ce av cv), stars [own ae ce 5 1 (bcells [1]), own av cv 5 1 (bcells [120, 121])]]) :=
  (feed_any bf 9 20 ck ⟨wkB.take 20, 0, false⟩ ak a 8 c (wkB.drop 20) rfl hc hk ⟨by decide, by decide, fun _ => rfl, fun h => absurd h (by decide)⟩ (by decide) (by decide) (by decide)).imp (fun _ p => p) fun v H r => by
    rw [wk_2] at r
    obtain ⟨ak, ck, ao, co, l, rfl, h1, h2, rfl⟩ := r
    match l, h1 with
    | [(p, d)], h1 =>
      have : p = wkP := by simpa using h1
      subst this
      exact ⟨ak, ck, ao, co, d.ae, d.ce, d.av, d.cv, rfl, by simp [pktsCells, pktOwns]; rfl⟩
theorem wk_f3 (bf : Nat) (a ak : Option Addr) (c ck : Nat) (hc : 1 ≤ c) : FnS Try.prog 31 [.pointer (some ⟨bf, 0, none⟩), .slice a 1 c] (fun h => Rdl h a (bcells [1])) [pts bf 95 (fdCells 9 ak 0 ck 0 false 28), own ak ck 5 1 (bcells [])]
    (fun v H => ∃ ak ck ao co, v = .slice ao 0 co ∧ H = [pts bf 95 (fdCells 9 ak 0 ck 0 true 29), own ak ck 5 1 (bcells []), own ao co 39 9 [], stars []]) :=
  (feed_any bf 9 28 ck ⟨[], 0, false⟩ ak a 1 c [1] rfl hc (Nat.zero_le _) (FInv.nil 9) (by decide) (by decide) (by decide)).imp (fun _ p => p) fun v H r => by
    rw [wk_3] at r
    obtain ⟨ak, ck, ao, co, l, rfl, h1, h2, rfl⟩ := r
    obtain rfl := List.map_eq_nil_iff.1 h1
    exact ⟨ak, ck, ao, co, rfl, rfl⟩

theorem wakes_fn : FnS Try.prog 21 [] (fun _ => True) [] (fun v H => v = .bool true ∧ H = []) := by
  refine fn_body Try.func21 rfl Try.ntmps21 rfl ?_
  intro F hF
  refine g_sr ?_
  refine Li As ?_
  refine g_ne ?_
  refine g_sr ?_
  refine Lp (oT T.ap_37 fun b1 => ?_)
  refine Lp (oT T.ap_37 fun b2 => ?_)
  refine Lp (oMk T.u_37 T.u_5 ?_)
  refine Li (Bd T.zc_39 T.st_39) ?_
  refine Lp (oA T.zc_39 fun b3 => ?_)
  refine Lp (oSW T.ag_39 ?_)
  refine g_ne ?_
  refine g_sr ?_
  refine Lp (oLN T.ag_39 ?_)
  refine Lp (oC T.fn_15 rfl rfl (wk_bytes (some ⟨b1, 0, none⟩) (some ⟨b2, 0, none⟩) 1 2) .nil (fun _ _ hin => ⟨pts_in hin.2.2.1, pts_in hin.2.1⟩) ?_)
  rintro v H' ⟨a4, c4, rfl, rfl⟩
  try simp only [nap, cap]
  refine Li Mv ?_
  refine Li Ex ?_
  refine Li Ex ?_
  refine Li As ?_
  refine Li As ?_
  refine g_ne ?_
  refine g_sr ?_
  refine Li Mv ?_
  refine g_fact (X := 28 ≤ c4) (fun h hin => by have := own_capb hin.1; rw [bcells_length] at this; exact this) fun hc4 => ?_
  refine Lp (oC T.fn_23 rfl rfl (wk_readc a4 c4 hc4) .nil (fun _ _ hin => own_in hin.1) ?_)
  rintro v H' ⟨ae5, ce5, av5, cv5, rfl, rfl⟩
  try simp only [nap, cap]
  dsimp only [pktCells, wkP]
  refine Li Mv ?_
  refine Li Ex ?_
  refine Li Ex ?_
  refine Li Ex ?_
  refine Lp (oA T.zc_39 fun b4 => ?_)
  refine Lp (oSW T.ag_39 ?_)
  refine Li As ?_
  refine Li As ?_
  refine g_ne ?_
  refine g_sr ?_
  refine Lp (oT T.ap_37 fun b5 => ?_)
  refine Lp (oC T.fn_23 rfl rfl (wk_badc _ 1 (by omega)) .nil (fun _ _ hin => pts_in hin.1) ?_)
  rintro v H' ⟨ae6, ce6, av6, cv6, rfl, rfl⟩
  try simp only [nap, cap]
  dsimp only [pktCells, zeroP]
  refine Li Mv ?_
  refine Li Ex ?_
  refine Li Ex ?_
  refine Li Ex ?_
  refine Lp (oA T.zc_39 fun b6 => ?_)
  refine Lp (oSW T.ag_39 ?_)
  refine Li As ?_
  refine Li As ?_
  refine g_ne ?_
  refine g_sr ?_
  refine Lp (oC T.fn_27 rfl rfl (new_fn 9 (by decide) (by decide)) .nil (fun _ _ _ => trivial) ?_)
  rintro v H' ⟨bf, rfl, rfl⟩
  try simp only [nap, cap]
  refine Li As ?_
  refine g_ne ?_
  refine g_seq ?_
  refine g_sr ?_
  refine Li Mv ?_
  refine Li (Pn T.u_58) ?_
  refine Li Mv ?_
  refine g_slot (t := 38) (v' := .bool false) rfl (congrArg Value.bool (by first | rfl | decide | (simp; done))) ?_
  refine Li Mv ?_
  refine Lp (oC T.fn_17 rfl rfl (num_fn _) .nil (fun _ _ _ => trivial) ?_)
  rintro v H' ⟨rfl, rfl⟩
  try simp only [nap, cap]
  refine Li Cm ?_
  refine Li Pf ?_
  refine Li Mv ?_
  refine g_slot (t := 43) (v' := .bool false) rfl (congrArg Value.bool (by first | rfl | decide | (simp; done))) ?_
  refine Li Mv ?_
  refine Lp (oC T.fn_17 rfl rfl (num_fn _) .nil (fun _ _ _ => trivial) ?_)
  rintro v H' ⟨rfl, rfl⟩
  try simp only [nap, cap]
  refine Li Cm ?_
  refine Li Pf ?_
  refine Li Mv ?_
  refine g_slot (t := 48) (v' := .bool false) rfl (congrArg Value.bool (by first | rfl | decide | (simp; done))) ?_
  refine Li Mv ?_
  refine Li (Ln T.sl_37) ?_
  refine Li Cm ?_
  refine Li Pf ?_
  refine Li Mv ?_
  refine g_slot (t := 53) (v' := .bool false) rfl (congrArg Value.bool (by first | rfl | decide | (simp; done))) ?_
  refine Li Mv ?_
  refine Li Cm ?_
  refine Li Pf ?_
  refine Li Mv ?_
  refine g_slot (t := 57) (v' := .bool false) rfl (congrArg Value.bool (by first | rfl | decide | (simp; done))) ?_
  refine Li Mv ?_
  refine Li Cm ?_
  refine Li Pf ?_
  refine Li Mv ?_
  refine g_slot (t := 61) (v' := .bool false) rfl (congrArg Value.bool (by first | rfl | decide | (simp; done))) ?_
  refine Li Mv ?_
  refine Lp (oC T.fn_17 rfl rfl (num_fn _) .nil (fun _ _ _ => trivial) ?_)
  rintro v H' ⟨rfl, rfl⟩
  try simp only [nap, cap]
  refine Li Cm ?_
  refine Li Pf ?_
  refine Li Mv ?_
  refine g_slot (t := 66) (v' := .bool false) rfl (congrArg Value.bool (by first | rfl | decide | (simp; done))) ?_
  refine Lp (oLN T.ag_39 ?_)
  refine Lp (oLN T.ag_39 ?_)
  refine Lp (oC T.fn_25 rfl rfl (same_fn wkP wkP _ _ _ _ _ _ _ _) .nil (auto_pre) ?_)
  rintro v H' ⟨rfl, rfl⟩
  try simp only [nap, cap]
  rw [sameB_refl]
  refine Li Nt ?_
  refine Li Pf ?_
  refine g_ne ?_
  refine g_cond_f rfl (by first | rfl | decide | (simp; done)) ?_
  refine g_skip ?_
  refine e_then ?_
  refine g_sr ?_
  refine Li Mv ?_
  refine Li Mv ?_
  refine Li (Sl 0 20 _ T.sl_37) ?_
  refine g_nilrow 5 1 ?_
  refine Lp (oC T.fn_31 rfl rfl (wk_f1 bf (cutA a4 0 c4 (0 * 1)) (c4 - 0) (by omega)) (.cons (.there .here) (.cons .here .nil)) (fun _ le hin => cut2 (l := wkB) (own_in (hin.nth 7 rfl)) 0 c4 20 (by omega)) ?_)
  rintro v H' ⟨ak7, ck7, ao7, co7, rfl, hk7, rfl⟩
  try simp only [nap, cap]
  refine Li As ?_
  refine g_ne ?_
  refine g_sr ?_
  refine Li Mv ?_
  refine Lp (oC T.fn_37 rfl rfl (held_fn bf 9 20 ck7 0 20 false ak7) .nil (fun _ le hin => hin.nth 0 rfl) ?_)
  rintro v H' ⟨rfl, rfl⟩
  try simp only [nap, cap]
  refine Li As ?_
  refine g_ne ?_
  refine g_sr ?_
  refine Li Mv ?_
  refine Li Mv ?_
  refine Li (Sl 20 _ _ T.sl_37) ?_
  refine Lp (oC T.fn_31 rfl rfl (wk_f2 bf (cutA a4 20 c4 (20 * 1)) ak7 (c4 - 20) ck7 (by omega) hk7) (.cons .here (.cons .here .nil)) (fun _ le hin => cut2 (l := wkB) (own_in (hin.nth 9 rfl)) 20 c4 8 (by omega)) ?_)
  rintro v H' ⟨ak8, ck8, ao8, co8, ae8, ce8, av8, cv8, rfl, rfl⟩
  try simp only [nap, cap]
  refine Li As ?_
  refine g_ne ?_
  refine g_sr ?_
  refine Li Mv ?_
  refine Lp (oT T.ap_37 fun b7 => ?_)
  refine Lp (oC T.fn_31 rfl rfl (wk_f3 bf _ ak8 1 ck8 (by omega)) (.cons (.there .here) (.cons (.there .here) .nil)) (fun _ le hin => pts_in (hin.nth 0 rfl)) ?_)
  rintro v H' ⟨ak9, ck9, ao9, co9, rfl, rfl⟩
  try simp only [nap, cap]
  refine g_ne ?_
  refine g_seq ?_
  refine g_drw T.mix (.cons .here (.cons (.there (.there (.there (.there .here)))) (.cons (.there (.there (.there (.there .here)))) (.cons (.there (.there (.there (.there (.there (.there (.there (.there (.there (.there (.there (.there (.there (.there .here)))))))))))))) (.cons (.there (.there (.there (.there (.there (.there (.there (.there (.there (.there (.there (.there (.there (.there .here)))))))))))))) (.cons (.there (.there (.there (.there (.there (.there (.there (.there (.there (.there (.there (.there (.there (.there .here)))))))))))))) .nil)))))) fun F1 le1 hin1 back1 => ?_
  obtain ⟨hbf, hao, hst, hb3, hb2, hb1, _⟩ := hin1
  have r1 := own_in hao
  have r2 := own_in ((stars_in hst).nth 0 rfl)
  have r3 := own_in ((stars_in hst).nth 1 rfl)
  have r4 := pts_in hb1
  have r5 := pts_in hb2
  have hs8 : ao8.isSome = true := r1.some (by simp [pktCells])
  refine Dt 0 rfl Mv ?_
  refine Dt 1 rfl (Ln T.sl_22) ?_
  refine Dt 2 rfl Cm ?_
  refine Dt 3 rfl Mv ?_
  refine g_slot (t := 88) (v' := .bool true) rfl (congrArg Value.bool (by first | rfl | decide | (simp; done))) ?_
  refine Dt 4 rfl Mv ?_
  refine Dt 5 rfl Cm ?_
  refine Dt 6 rfl Pt ?_
  refine Dt 7 rfl Mv ?_
  refine g_slot (t := 92) (v' := .bool true) rfl (congrArg Value.bool (by first | rfl | decide | (simp; done))) ?_
  refine Dt 8 rfl Mv ?_
  refine Dt 9 rfl (Ln T.sl_22) ?_
  refine Dt 10 rfl Cm ?_
  refine Dt 11 rfl Pt ?_
  refine Dt 12 rfl Mv ?_
  refine g_slot (t := 97) (v' := .bool true) rfl (congrArg Value.bool (by first | rfl | decide | (simp; done))) ?_
  refine Dt 13 rfl Mv ?_
  refine Dt 14 rfl (Ix (j := 0) T.sl_22) ?_
  refine Dt 15 rfl (LfN T.ag_39) ?_
  refine Dt 16 rfl (LfN T.ag_39) ?_
  refine Dn 17 ?_
  refine Do rfl (oC T.fn_25 rfl rfl (same_fn wkP wkP ae8 av8 _ _ ce8 cv8 _ _) .nil (fun _ le _ => ⟨⟨r2.mono le, r3.mono le⟩, ⟨r4.mono le, r5.mono le⟩⟩) ?_)
  rintro v H' ⟨rfl, rfl⟩
  try simp only [nap, cap]
  refine gh_next ?_
  refine Dt 18 rfl Pt ?_
  refine Dt 19 rfl Mv ?_
  refine g_slot (t := 104) (v' := .bool true) rfl (congrArg Value.bool (by first | rfl | decide | (simp; done))) ?_
  refine Dt 20 rfl Mv ?_
  refine Dn 21 ?_
  refine Do rfl (oC T.fn_37 rfl rfl (held_fn bf 9 0 ck9 0 29 true ak9) .nil (fun _ le _ => in_mono hbf le) ?_)
  rintro v H' ⟨rfl, rfl⟩
  try simp only [nap, cap]
  refine gh_next ?_
  refine Dt 22 rfl Cm ?_
  refine Dt 23 rfl Pt ?_
  refine Dt 24 rfl Mv ?_
  refine g_slot (t := 109) (v' := .bool true) rfl (congrArg Value.bool (by first | rfl | decide | (simp; done))) ?_
  refine Dt 25 rfl Mv ?_
  refine Dn 26 ?_
  refine Do rfl (oC T.fn_38 rfl rfl (broken_fn bf 9 0 ck9 0 29 true ak9) .nil (fun _ le _ => in_mono hbf le) ?_)
  rintro v H' ⟨rfl, rfl⟩
  try simp only [nap, cap]
  refine gh_next ?_
  refine Dt 27 rfl Pt ?_
  refine Dt 28 rfl Mv ?_
  refine g_slot (t := 113) (v' := .bool true) rfl (congrArg Value.bool (by first | rfl | decide | (simp; done))) ?_
  refine Dt 29 rfl Mv ?_
  refine Dn 30 ?_
  refine Do rfl (oC T.fn_39 rfl rfl (taken_fn bf 9 0 ck9 0 29 true ak9) .nil (fun _ le _ => in_mono hbf le) ?_)
  rintro v H' ⟨rfl, rfl⟩
  try simp only [nap, cap]
  refine gh_next ?_
  refine Dt 31 rfl Cm ?_
  refine Dt 32 rfl Pt ?_
  refine Dt 33 rfl As ?_
  refine gh_done (by kernel_rfl) back1 ?_
  refine e_then ?_
  refine g_ret ?_
  refine Rt [] Try.results21 ?_
  exact ⟨rfl, rfl⟩
end Go.Proofs.Ytggmpaggmkfmoaa

