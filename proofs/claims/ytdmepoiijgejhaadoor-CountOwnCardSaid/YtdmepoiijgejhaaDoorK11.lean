/- Counts: a first run. -/
import Derived.Test.YtdmepoiijgejhaaDoorK10
set_option maxRecDepth 100000
namespace Go.Proofs.YtdmepoiijgejhaaDoor
open Go Go.Eng

def wake0 : List Nat := [0, 2, 0, 0, 0, 0, 1, 1, 0, 0, 0, 0, 0, 0, 0, 0, 0, 0, 0, 0, 0, 0, 0, 0, 0, 0, 0, 0, 0, 0, 0, 0]
theorem wake0_is : commM (List.replicate 32 0) 1 9 [] [] [0, 1] ⟨0, 0, 0, 0, 0, 0, 0⟩ = wake0 := by kernel_rfl
theorem wake0_bd : Brd wake0 := ⟨rfl, fun j => by
  by_cases h : j < 32
  · have : ∀ j, j < 32 → wake0.getD j 0 ≤ 2 := by decide
    exact Nat.le_trans (this j h) (by unfold maxN; omega)
  · rw [List.getD_eq_getElem?_getD, List.getElem?_eq_none (by simp [wake0]; omega)]; exact Nat.zero_le _⟩
theorem mz_ok : Mtr.ok ⟨0, 0, 0, 0, 0, 0, 0⟩ := by constructor <;> simp [i64]
theorem wakes_fn : FnS Tryd.prog 10 [] Tab [] (fun v H => v = .bool true ∧ H = []) := by
  refine fn_body Tryd.func10 rfl Tryd.ntmps10 rfl ?_
  intro F hF
  refine g_sr ?_
  refine Li As ?_
  refine g_ne ?_
  refine g_sr ?_
  refine Lp (oC T.fn_11 rfl rfl (new_fn) .nil (fun _ _ _ => trivial) ?_)
  rintro v H' ⟨bb, rfl, rfl⟩
  try simp only [nap, cap]
  refine Li As ?_
  refine g_ne ?_
  refine g_seq ?_
  refine g_sr ?_
  refine Li Mv ?_
  refine Li (Pn T.u_24) ?_
  refine g_ne ?_
  refine g_cond_f rfl (by rfl) ?_
  refine g_skip ?_
  refine e_then ?_
  refine g_sr ?_
  refine Li Mv ?_
  refine Lp (oT T.ap_29 fun b1 => ?_)
  refine Li (Bd T.zc_34 T.st_34) ?_
  refine Li (Bd T.zc_38 T.st_38) ?_
  refine Lp (oT T.ap_39 fun b2 => ?_)
  refine Li (Bd T.zc_41 T.st_41) ?_
  refine Lp (oC T.fn_13 rfl rfl (Command_fn bb 89 (List.replicate 32 0) bd_zero ⟨1, some ⟨b1, 0, none⟩, 2, 2, 0, 0, 0, 0, none, 0, 0, false, false, none, 0, 0, []⟩ ⟨9, none, 0, 0, 0, [], none, 0, 0⟩ [] rfl (by simp) [0, 1] (some ⟨b2, 0, none⟩) 2 2 rfl (by simp) (by simp) ⟨0, 0, 0, 0, 0, 0, 0⟩ mz_ok) (.cons (.there (.there .here)) .nil) (fun _ _ hin => ⟨Rdl.nil, pts_in (hin.nth 0 rfl)⟩) ?_)
  rintro v H' ⟨rfl, rfl⟩
  try simp only [nap, cap]
  rw [wake0_is]
  refine g_ne ?_
  refine g_sr ?_
  refine Li Mv ?_
  refine Lp (oC T.fn_17 rfl rfl (Stats_fn bb 89 wake0 wake0_bd) (.cons .here .nil) (fun _ le _ => hF.mono le) ?_)
  rintro v H' ⟨asl, csl, rfl, hcs, sa, rfl⟩
  try simp only [nap, cap]
  have k1 : ((linesC (statsM wake0 31)).drop (0 * 2)).take 2 = [strv [99, 109, 100, 95, 103, 101, 116], .int .u64 2] := linesC_at (statsM wake0 31) 0 ([99, 109, 100, 95, 103, 101, 116], 2) (by kernel_rfl)
  have hsl := statsM_len wake0 31
  have hll := linesC_len (statsM wake0 31)
  refine Li As ?_
  refine g_ne ?_
  refine g_sr ?_
  refine Li Mv ?_
  refine Lp (oC T.fn_20 rfl rfl (Read_fn bb 89 wake0 wake0_bd 1) (.cons (.there .here) .nil) (fun _ _ _ => trivial) ?_)
  rintro v H' ⟨rfl, rfl⟩
  try simp only [nap, cap]
  refine Li Cm ?_
  refine Li Mv ?_
  refine g_slot (t := 18) (v' := .bool true) rfl (congrArg Value.bool (by rfl)) ?_
  refine Li Mv ?_
  refine Lp (oC T.fn_20 rfl rfl (Read_fn bb 89 wake0 wake0_bd 6) (.cons .here .nil) (fun _ _ _ => trivial) ?_)
  rintro v H' ⟨rfl, rfl⟩
  try simp only [nap, cap]
  refine Li Cm ?_
  refine Li Pt ?_
  refine Li Mv ?_
  refine g_slot (t := 23) (v' := .bool true) rfl (congrArg Value.bool (by rfl)) ?_
  refine Li Mv ?_
  refine Lp (oC T.fn_20 rfl rfl (Read_fn bb 89 wake0 wake0_bd 7) (.cons .here .nil) (fun _ _ _ => trivial) ?_)
  rintro v H' ⟨rfl, rfl⟩
  try simp only [nap, cap]
  refine Li Cm ?_
  refine Li Pt ?_
  refine Li Mv ?_
  refine g_slot (t := 28) (v' := .bool true) rfl (congrArg Value.bool (by rfl)) ?_
  refine Li Mv ?_
  refine Li (Ln T.sl_36) ?_
  refine Li Cm ?_
  refine Li Pt ?_
  refine Li Mv ?_
  refine g_slot (t := 33) (v' := .bool true) rfl (congrArg Value.bool (by rfl)) ?_
  refine Li Mv ?_
  refine Li (Ix (j := 0) T.sl_36) ?_
  refine Lp (oLN T.ag_78 ?_)
  refine Li (Bd T.zc_78 T.st_78) ?_
  refine Li (Lq lu78 lp78 lm78 lf78 T.sc_9 T.sc_30 T.u_9 T.u_30) ?_
  refine Li Pt ?_
  refine Li Mv ?_
  refine g_slot (t := 40) (v' := .bool true) rfl (congrArg Value.bool (by rfl)) ?_
  refine Lp (oC T.fn_21 rfl rfl (Name_fn 26 (by omega) (by omega)) .nil (fun _ le _ => hF.mono le) ?_)
  rintro v H' ⟨rfl, rfl⟩
  try simp only [nap, cap]
  refine Li Sq ?_
  refine Li Pt ?_
  refine Li As ?_
  refine g_ne ?_
  refine g_ret ?_
  refine Rt [] Tryd.results10 ?_
  exact ⟨rfl, rfl⟩
end Go.Proofs.YtdmepoiijgejhaaDoor

