/- Counts: the lock; a board; one number. -/
import Derived.Test.YtdmepoiijgejhaaDoorEng9
import Derived.Test.YtdmepoiijgejhaaDoorRows
set_option maxRecDepth 100000
namespace Go.Proofs.YtdmepoiijgejhaaDoor
open Go Go.Eng

theorem ex85 : isEx Tryd.prog 85 (exMark .disable) := ⟨Tryd.f85, Tryd.func85, by kernel_rfl, by kernel_rfl, by kernel_rfl, by kernel_rfl⟩
theorem ex87 : isEx Tryd.prog 87 (exMark .enable) := ⟨Tryd.f87, Tryd.func87, by kernel_rfl, by kernel_rfl, by kernel_rfl, by kernel_rfl⟩
theorem ex88 : isEx Tryd.prog 88 (Extern.Race.marked .acquire) := ⟨Tryd.f88, Tryd.func88, by kernel_rfl, by kernel_rfl, by kernel_rfl, by kernel_rfl⟩
theorem ex90 : isEx Tryd.prog 90 (Extern.Race.marked .releaseMerge) := ⟨Tryd.f90, Tryd.func90, by kernel_rfl, by kernel_rfl, by kernel_rfl, by kernel_rfl⟩
theorem ex86 : isEx Tryd.prog 86 (Extern.Atomic.casT (.int .i32)) := ⟨Tryd.f86, Tryd.func86, by kernel_rfl, by kernel_rfl, by kernel_rfl, by kernel_rfl⟩
theorem ex91 : isEx Tryd.prog 91 (Extern.Atomic.update (Op.intArith .add) .i32 true) := ⟨Tryd.f91, Tryd.func91, by kernel_rfl, by kernel_rfl, by kernel_rfl, by kernel_rfl⟩
theorem up140 : Tryd.prog.underlying 140 = some (.pointer 84) := by kernel_rfl
theorem up144 : Tryd.prog.underlying 144 = some .unsafePointer := by kernel_rfl
theorem sz84 : (Tryd.prog.info? 84).map (fun i => decide (i.size = 0)) = some false := by kernel_rfl

theorem ilock_fn (b : Nat) (e : TypeId) (r : List Value) : FnS Tryd.prog 59 [.pointer (some ⟨b, 0, none⟩)] (fun _ => True) [pts b e (.int .i32 0 :: r)] (fun v H => v = .tuple #[] ∧ H = [pts b e (.int .i32 1 :: r)]) := by
  refine fn_body Tryd.func59 rfl Tryd.ntmps59 rfl ?_
  intro F hF
  refine g_sr ?_
  refine Lp (oXm ex85 ?_)
  refine g_ne ?_
  refine g_seq ?_
  refine g_sr ?_
  refine Li Mv ?_
  refine Li Nc ?_
  refine Li (Fa T.fld_84_0) ?_
  refine Lp (oXcas ex86 ?_)
  refine g_ne ?_
  refine g_cond_t rfl (by rfl) ?_
  refine g_seq ?_
  refine g_cond_t rfl (by rfl) ?_
  refine g_sr ?_
  refine Lp (oXm ex87 ?_)
  refine g_ne ?_
  refine g_region ?_
  refine Li Mv ?_
  refine Lp (oXu up140 up144 sz84 ?_)
  refine Lp (oXa ex88 ?_)
  refine g_ne ?_
  refine g_ret ?_
  refine e_then_ret ?_
  refine Rt0 [pts b e (.int .i32 1 :: r)] Tryd.results59 ?_
  exact ⟨rfl, rfl⟩
theorem lock_fn (b : Nat) (e : TypeId) (r : List Value) : FnS Tryd.prog 33 [.pointer (some ⟨b, 0, none⟩)] (fun _ => True) [pts b e (.int .i32 0 :: r)] (fun v H => v = .tuple #[] ∧ H = [pts b e (.int .i32 1 :: r)]) := by
  refine fn_body Tryd.func33 rfl Tryd.ntmps33 rfl ?_
  intro F hF
  refine g_region ?_
  refine Li Mv ?_
  refine Li Nc ?_
  refine Li (Fa T.fld_86_1) ?_
  refine Lp (oC T.fn_59 rfl rfl (ilock_fn b e r) (.cons .here .nil) (fun _ _ _ => trivial) ?_)
  rintro v H' ⟨rfl, rfl⟩
  try simp only [nap, cap]
  refine g_nil ?_
  refine Rn0 [pts b e (.int .i32 1 :: r)] Tryd.results33 ?_
  exact ⟨rfl, rfl⟩
theorem iunlock_fn (b : Nat) (e : TypeId) (r : List Value) : FnS Tryd.prog 60 [.pointer (some ⟨b, 0, none⟩)] (fun _ => True) [pts b e (.int .i32 1 :: r)] (fun v H => v = .tuple #[] ∧ H = [pts b e (.int .i32 0 :: r)]) := by
  refine fn_body Tryd.func60 rfl Tryd.ntmps60 rfl ?_
  intro F hF
  refine g_seq ?_
  refine g_cond_t rfl (by rfl) ?_
  refine g_sr ?_
  refine Li Mv ?_
  refine Li Nc ?_
  refine Li (Fa T.fld_84_0) ?_
  refine Lp (oL T.sc_21 ?_)
  refine g_ne ?_
  refine g_sr ?_
  refine Li Mv ?_
  refine Lp (oXu up140 up144 sz84 ?_)
  refine Lp (oXa ex90 ?_)
  refine g_ne ?_
  refine g_region ?_
  refine Lp (oXm ex85 ?_)
  refine g_ne ?_
  refine g_sr ?_
  refine Li Mv ?_
  refine Li Nc ?_
  refine Li (Fa T.fld_84_0) ?_
  refine Lp (oXadd ex91 0 ?_)
  refine Li As ?_
  refine g_ne ?_
  refine g_seq ?_
  refine g_sr ?_
  refine Li Mv ?_
  refine Li Cm ?_
  refine g_ne ?_
  refine g_cond_f rfl (by rfl) ?_
  refine g_skip ?_
  refine e_then ?_
  refine g_region ?_
  refine Lp (oXm ex87 ?_)
  refine g_nil ?_
  refine Rn0 [pts b e (.int .i32 0 :: r)] Tryd.results60 ?_
  exact ⟨rfl, rfl⟩
theorem unlock_fn (b : Nat) (e : TypeId) (r : List Value) : FnD Tryd.prog 34 [.pointer (some ⟨b, 0, none⟩)] (fun _ => True) [pts b e (.int .i32 1 :: r)] (fun v H => v = .tuple #[] ∧ H = [pts b e (.int .i32 0 :: r)]) := by
  refine fn_bodyDf T.fn_34 Tryd.func34 rfl Tryd.ntmps34 rfl ?_
  intro F hF
  refine g_region ?_
  refine Li Mv ?_
  refine Li Nc ?_
  refine Li (Fa T.fld_86_1) ?_
  refine Lp (oC T.fn_60 rfl rfl (iunlock_fn b e r) (.cons .here .nil) (fun _ _ _ => trivial) ?_)
  rintro v H' ⟨rfl, rfl⟩
  try simp only [nap, cap]
  refine g_nil ?_
  refine Rn0 [pts b e (.int .i32 0 :: r)] Tryd.results34 ?_
  exact ⟨rfl, rfl⟩
end Go.Proofs.YtdmepoiijgejhaaDoor

