/- Counts: the law of the names. -/
import Derived.Test.YtdmepoiijgejhaaDoorK11
set_option maxRecDepth 100000
namespace Go.Proofs.YtdmepoiijgejhaaDoor
open Go Go.Eng

theorem namesLaw_fn : FnS Tryd.prog 5 [] Tab [] (fun v H => v = .bool true ∧ H = []) := by
  refine fn_body Tryd.func5 rfl Tryd.ntmps5 rfl ?_
  intro F hF
  refine g_sr ?_
  refine Li As ?_
  refine g_ne ?_
  refine g_seq ?_
  refine g_sr ?_
  refine Lp (oC T.fn_10 rfl rfl (wakes_fn) .nil (fun _ le _ => hF.mono le) ?_)
  rintro v H' ⟨rfl, rfl⟩
  try simp only [nap, cap]
  refine Li Nt ?_
  refine Li Mv ?_
  refine g_slot (t := 4) (v' := .bool false) rfl (congrArg Value.bool (by rfl)) ?_
  refine Lp (oC T.fn_21 rfl rfl (Name_fn 0 (by omega) (by omega)) .nil (fun _ le _ => hF.mono le) ?_)
  rintro v H' ⟨rfl, rfl⟩
  try simp only [nap, cap]
  refine Li Sq ?_
  refine Li Pf ?_
  refine Li Mv ?_
  refine g_slot (t := 8) (v' := .bool false) rfl (congrArg Value.bool (by rfl)) ?_
  refine Lp (oC T.fn_21 rfl rfl (Name_fn (-1) (by omega) (by omega)) .nil (fun _ le _ => hF.mono le) ?_)
  rintro v H' ⟨rfl, rfl⟩
  try simp only [nap, cap]
  refine Li Sq ?_
  refine Li Pf ?_
  refine Li Mv ?_
  refine g_slot (t := 12) (v' := .bool false) rfl (congrArg Value.bool (by rfl)) ?_
  refine Lp (oC T.fn_21 rfl rfl (Name_fn 32 (by omega) (by omega)) .nil (fun _ le _ => hF.mono le) ?_)
  rintro v H' ⟨rfl, rfl⟩
  try simp only [nap, cap]
  refine Li Sq ?_
  refine Li Pf ?_
  refine g_ne ?_
  refine g_cond_f rfl (by rfl) ?_
  refine g_skip ?_
  refine e_then ?_
  refine g_seq ?_
  refine g_sr ?_
  refine Li As ?_
  refine g_ne ?_
  refine g_block ?_
  refine Lo (ι := Nat) [16, 17, 20, 21, 22, 23, 24, 0, 18, 19, 1] (fun i => i ≤ 31) (fun i => [(1, .int .i64 ((i + 1 : Nat) : Int))]) (fun i => []) (fun i => 31 - i) (0) (Nat.zero_le _) ?_
  rintro i hi
  refine g_seq ?_
  refine g_sr ?_
  refine Li Mv ?_
  refine Li Cm ?_
  refine g_ne ?_
  refine g_cond rfl ?_ ?_
  · intro h1
    replace h1 := nrm h1
    refine g_skip ?_
    refine e_then ?_
    refine g_seq ?_
    refine g_block ?_
    refine g_sr ?_
    refine Li Mv ?_
    refine Lp (oC T.fn_21 rfl rfl (Name_fn ((i + 1 : Nat) : Int) (by omega) (by omega)) .nil (fun _ le _ => hF.mono le) ?_)
    rintro v H' ⟨rfl, rfl⟩
    try simp only [nap, cap]
    refine Li Mv ?_
    refine Lp (oC T.fn_22 rfl rfl (refName_fn ((i + 1 : Nat) : Int) (by omega) (by omega)) .nil (fun _ _ _ => trivial) ?_)
    rintro v H' ⟨rfl, rfl⟩
    try simp only [nap, cap]
    refine Li Sq ?_
    refine g_ne ?_
    refine g_cond_f rfl (by simp) ?_
    refine g_skip ?_
    refine e_block ?_
    refine e_then ?_
    refine g_region ?_
    refine Li Mv ?_
    refine Li Im ?_
    refine Li As ?_
    refine g_nil ?_
    refine Ro (i + 1) ((by omega)) (by omega)
  · intro h1
    replace h1 := nrm h1
    refine g_exit ?_
    refine e_then_exit ?_
    refine e_then_exit ?_
    refine e_block_hit ?_
    refine e_then ?_
    refine g_sr ?_
    refine Lp (oC T.fn_21 rfl rfl (Name_fn 1 (by omega) (by omega)) .nil (fun _ le _ => hF.mono le) ?_)
    rintro v H' ⟨rfl, rfl⟩
    try simp only [nap, cap]
    refine Li Sq ?_
    refine Li Mv ?_
    refine g_slot (t := 27) (v' := .bool true) rfl (congrArg Value.bool (by rfl)) ?_
    refine Lp (oC T.fn_21 rfl rfl (Name_fn 14 (by omega) (by omega)) .nil (fun _ le _ => hF.mono le) ?_)
    rintro v H' ⟨rfl, rfl⟩
    try simp only [nap, cap]
    refine Li Sq ?_
    refine Li Pt ?_
    refine Li Mv ?_
    refine g_slot (t := 31) (v' := .bool true) rfl (congrArg Value.bool (by rfl)) ?_
    refine Lp (oC T.fn_21 rfl rfl (Name_fn 24 (by omega) (by omega)) .nil (fun _ le _ => hF.mono le) ?_)
    rintro v H' ⟨rfl, rfl⟩
    try simp only [nap, cap]
    refine Li Sq ?_
    refine Li Pt ?_
    refine Li Mv ?_
    refine g_slot (t := 35) (v' := .bool true) rfl (congrArg Value.bool (by rfl)) ?_
    refine Lp (oC T.fn_21 rfl rfl (Name_fn 30 (by omega) (by omega)) .nil (fun _ le _ => hF.mono le) ?_)
    rintro v H' ⟨rfl, rfl⟩
    try simp only [nap, cap]
    refine Li Sq ?_
    refine Li Pt ?_
    refine Li Mv ?_
    refine g_slot (t := 39) (v' := .bool true) rfl (congrArg Value.bool (by rfl)) ?_
    refine Lp (oC T.fn_21 rfl rfl (Name_fn 31 (by omega) (by omega)) .nil (fun _ le _ => hF.mono le) ?_)
    rintro v H' ⟨rfl, rfl⟩
    try simp only [nap, cap]
    refine Li Sq ?_
    refine Li Pt ?_
    refine Li As ?_
    refine g_ne ?_
    refine g_ret ?_
    refine Rt [] Tryd.results5 ?_
    exact ⟨rfl, rfl⟩
end Go.Proofs.YtdmepoiijgejhaaDoor

