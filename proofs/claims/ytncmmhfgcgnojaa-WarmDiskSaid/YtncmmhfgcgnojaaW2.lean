/- The disk: names, numbers, texts. -/
import Derived.Test.YtncmmhfgcgnojaaW1
set_option maxRecDepth 100000
namespace Go.Proofs.Ytncmmhfgcgnojaa
open Go Go.Eng

theorem named_fn (n : Nm) : FnS Try.prog 57 [strv n] (fun _ => True) [] (fun v H => v = .bool (legalM n) ∧ H = []) := by
  refine fn_body Try.func57 rfl Try.ntmps57 rfl ?_
  intro F hF
  refine g_sr ?_
  refine Li As ?_
  refine g_ne ?_
  refine g_sr ?_
  refine Li Mv ?_
  refine Li (Ls T.u_9) ?_
  refine Li Cm ?_
  refine Li Mv ?_
  refine g_split (t := 6) rfl ?_ ?_
  · intro hb0
    replace hb0 := nrm hb0
    refine Li Mv ?_
    refine Li (Ls T.u_9) ?_
    refine Li Cm ?_
    refine Li Pt ?_
    refine Li As ?_
    refine g_ne ?_
    refine g_ret ?_
    refine Rt [] Try.results57 ?_
    refine ⟨congrArg Value.bool ?_, rfl⟩
    unfold legalM
    rw [Bool.eq_iff_iff]
    simp
    omega
  · intro hb0
    replace hb0 := nrm hb0
    refine Lx ?_
    refine Lx ?_
    refine Lx ?_
    refine Li Pf ?_
    refine Li As ?_
    refine g_ne ?_
    refine g_ret ?_
    refine Rt [] Try.results57 ?_
    refine ⟨congrArg Value.bool ?_, rfl⟩
    unfold legalM
    rw [Bool.eq_iff_iff]
    simp
    omega
theorem legal_fn (n : Nm) : FnS Try.prog 59 [strv n] (fun _ => True) [] (fun v H => v = .bool (legalM n) ∧ H = []) := by
  refine fn_body Try.func59 rfl Try.ntmps59 rfl ?_
  intro F hF
  refine g_sr ?_
  refine Li As ?_
  refine g_ne ?_
  refine g_sr ?_
  refine Li Mv ?_
  refine Li (Ls T.u_9) ?_
  refine Li Cm ?_
  refine Li Mv ?_
  refine g_split (t := 6) rfl ?_ ?_
  · intro hb0
    replace hb0 := nrm hb0
    refine Li Mv ?_
    refine Li (Ls T.u_9) ?_
    refine Li Cm ?_
    refine Li Pt ?_
    refine Li As ?_
    refine g_ne ?_
    refine g_ret ?_
    refine Rt [] Try.results59 ?_
    refine ⟨congrArg Value.bool ?_, rfl⟩
    unfold legalM
    rw [Bool.eq_iff_iff]
    simp
    omega
  · intro hb0
    replace hb0 := nrm hb0
    refine Lx ?_
    refine Lx ?_
    refine Lx ?_
    refine Li Pf ?_
    refine Li As ?_
    refine g_ne ?_
    refine g_ret ?_
    refine Rt [] Try.results59 ?_
    refine ⟨congrArg Value.bool ?_, rfl⟩
    unfold legalM
    rw [Bool.eq_iff_iff]
    simp
    omega
theorem between_fn (z : Int) (m : Nat) : FnS Try.prog 44 [.int .i64 z, .int .i64 (m : Int)] (fun _ => True) [] (fun v H => v = .int .i64 (min z.toNat m : Nat) ∧ H = []) := by
  refine fn_body Try.func44 rfl Try.ntmps44 rfl ?_
  intro F hF
  refine g_sr ?_
  refine Li As ?_
  refine g_ne ?_
  refine g_seq ?_
  refine g_sr ?_
  refine Li Mv ?_
  refine Li Cm ?_
  refine g_ne ?_
  refine g_cond rfl ?_ ?_
  · intro hb0
    replace hb0 := nrm hb0
    refine g_sr ?_
    refine Li As ?_
    refine g_ne ?_
    refine g_ret ?_
    refine e_then_ret ?_
    refine Rt [] Try.results44 ?_
    refine ⟨congrArg (Value.int .i64) ?_, rfl⟩
    omega
  · intro hb0
    replace hb0 := nrm hb0
    refine g_skip ?_
    refine e_then ?_
    refine g_seq ?_
    refine g_sr ?_
    refine Li Mv ?_
    refine Li Mv ?_
    refine Li Cm ?_
    refine g_ne ?_
    refine g_cond rfl ?_ ?_
    · intro hb1
      replace hb1 := nrm hb1
      refine g_sr ?_
      refine Li Mv ?_
      refine Li As ?_
      refine g_ne ?_
      refine g_ret ?_
      refine e_then_ret ?_
      refine Rt [] Try.results44 ?_
      refine ⟨congrArg (Value.int .i64) ?_, rfl⟩
      omega
    · intro hb1
      replace hb1 := nrm hb1
      refine g_skip ?_
      refine e_then ?_
      refine g_sr ?_
      refine Li Mv ?_
      refine Li As ?_
      refine g_ne ?_
      refine g_ret ?_
      refine Rt [] Try.results44 ?_
      refine ⟨congrArg (Value.int .i64) ?_, rfl⟩
      omega
theorem behind_fn (e : Nat) : FnS Try.prog 65 [.int .i64 (e : Int)] (fun _ => True) [] (fun v H => v = .int .i64 (beh e : Nat) ∧ H = []) := by
  refine fn_body Try.func65 rfl Try.ntmps65 rfl ?_
  intro F hF
  unfold beh
  refine g_sr ?_
  refine Li As ?_
  refine g_ne ?_
  refine g_seq ?_
  refine g_sr ?_
  refine Li Mv ?_
  refine Li Cm ?_
  refine g_ne ?_
  refine g_cond rfl ?_ ?_
  · intro hb0
    replace hb0 := nrm hb0
    refine g_sr ?_
    refine Li As ?_
    refine g_ne ?_
    refine g_ret ?_
    refine e_then_ret ?_
    refine Rt [] Try.results65 ?_
    refine ⟨congrArg (Value.int .i64) ?_, rfl⟩
    split <;> omega
  · intro hb0
    replace hb0 := nrm hb0
    refine g_skip ?_
    refine e_then ?_
    refine g_sr ?_
    refine Li Mv ?_
    refine Li As ?_
    refine g_ne ?_
    refine g_ret ?_
    refine Rt [] Try.results65 ?_
    refine ⟨congrArg (Value.int .i64) ?_, rfl⟩
    split <;> omega
/-- a refused call's error -/
def erH (b : Nat) (call name : Nm) (e : Nat) : HProp := pts b 102 [strv call, strv name, .iface 60 (.int .i64 (e : Int))]
def empt : HProp := fun _ => True
def Er (call name : Nm) (e : Nat) (v : Value) (E : HProp) : Prop := (e = 0 ∧ v = .nilIface ∧ E = empt) ∨ (0 < e ∧ ∃ b, v = .iface 99 (.pointer (some ⟨b, 0, none⟩)) ∧ E = erH b call name e)
theorem refuse_fn (call name : Nm) (e : Nat) : FnS Try.prog 21 [strv call, strv name, .int .i64 (e : Int)] (fun _ => True) [] (fun v H => ∃ E, Er call name e v E ∧ H = [E]) := by
  refine fn_body Try.func21 rfl Try.ntmps21 rfl ?_
  intro F hF
  refine g_sr ?_
  refine Li As ?_
  refine g_ne ?_
  refine g_seq ?_
  refine g_sr ?_
  refine Li Mv ?_
  refine Li Cm ?_
  refine g_ne ?_
  refine g_cond rfl ?_ ?_
  · intro h
    replace h := nrm h
    refine g_sr ?_
    refine Li As ?_
    refine g_ne ?_
    refine g_ret ?_
    refine e_then_ret ?_
    refine g_heap (H' := [empt]) (fun _ s => starL_emp (fun _ => trivial) s) ?_
    refine Rt [empt] Try.results21 ?_
    exact ⟨_, .inl ⟨by omega, rfl, rfl⟩, rfl⟩
  · intro h
    replace h := nrm h
    refine g_skip ?_
    refine e_then ?_
    refine g_sr ?_
    refine Li Mv ?_
    refine Li Mv ?_
    refine Li Mv ?_
    refine Li (MkI T.ni_f_60) ?_
    refine Li (Bd T.zc_102 T.st_102) ?_
    refine Lp (oB fun b1 => ?_)
    refine Li (MkI T.ni_f_99) ?_
    refine Li As ?_
    refine g_ne ?_
    refine g_ret ?_
    refine Rt [erH b1 call name e] Try.results21 ?_
    exact ⟨_, .inr ⟨by omega, _, rfl, rfl⟩, rfl⟩
/-- the name of an act's kind -/
def kindT (k : Nat) : Nm := [[99, 114, 101, 97, 116, 101], [97, 112, 112, 101, 110, 100], [115, 121, 110, 99], [114, 101, 110, 97, 109, 101], [114, 101, 109, 111, 118, 101], [115, 121, 110, 99, 110, 97, 109, 101, 115]].getD k []
end Go.Proofs.Ytncmmhfgcgnojaa

