/- The closed facts on maps and interfaces. Written by program. -/
import Derived.Test.YtncmmhfgcgnojaaEngW
namespace Go.Proofs.Ytncmmhfgcgnojaa.T
open Go Go.Eng

theorem mt_61 : mapT Go.Proofs.Try.prog 61 = some (9, Go.TypeDesc.string, 3, (Go.Value.int Go.IntKind.i64 0)) := by kernel_rfl
theorem ni_f_60 : noIface Go.Proofs.Try.prog 60 = true := by kernel_rfl
theorem ni_f_61 : noIface Go.Proofs.Try.prog 61 = true := by kernel_rfl
theorem ni_f_99 : noIface Go.Proofs.Try.prog 99 = true := by kernel_rfl
theorem if_30 : isIface Go.Proofs.Try.prog 30 = true := by kernel_rfl
theorem le_34 : Go.Proofs.Try.prog.underlying 34 = some (.struct (Go.Proofs.Try.prog.fieldsOf 34)) := by kernel_rfl
theorem ls_34 : Go.Proofs.Try.prog.stoodInHeld 34 = false := by kernel_rfl
theorem lg_34 : Go.Proofs.Try.prog.eqGuardType Go.Proofs.Try.prog.depth 34 = false := by kernel_rfl
theorem lf_34 : (Go.Proofs.Try.prog.fieldsOf 34).toList.map (fun f => (decide (f.name = "_"), f.type, f.offset)) = [(false, 9, 0), (false, 9, 1), (false, 3, 2)] := by kernel_rfl

end Go.Proofs.Ytncmmhfgcgnojaa.T
