/- The disk: what errors say. -/
import Derived.Test.YtncmmhfgcgnojaaW2
set_option maxRecDepth 100000
namespace Go.Proofs.Ytncmmhfgcgnojaa
open Go Go.Eng

def moreT (z : Int) : Nm := if z = 9 then [111, 117, 116, 32, 111, 102, 32, 116, 111, 107, 101, 110, 115] else if z = 10 then [98, 117, 115, 121] else if z = 180 then [105, 110, 112, 117, 116, 32, 111, 114, 32, 111, 117, 116, 112, 117, 116] else if z = 181 then [110, 111, 32, 115, 112, 97, 99, 101] else if z = 182 then [109, 105, 115, 115, 105, 110, 103] else if z = 183 then [101, 120, 105, 115, 116, 115] else if z = 184 then [110, 111, 32, 112, 111, 119, 101, 114] else if z = 185 then [99, 111, 114, 114, 117, 112, 116] else if z = 186 then [98, 97, 100, 32, 110, 97, 109, 101] else if z = 190 then [110, 111, 32, 115, 117, 99, 104, 32, 115, 101, 114, 118, 101, 114] else if z = 200 then [116, 105, 109, 101, 100, 32, 111, 117, 116] else if z = 201 then [99, 108, 111, 115, 101, 100] else if z = 202 then [103, 97, 114, 98, 108, 101, 100] else [117, 110, 107, 110, 111, 119, 110]
def errT (z : Int) : Nm := if z = 0 then [111, 107] else if z = 1 then [98, 97, 100, 32, 97, 114, 103, 117, 109, 101, 110, 116] else if z = 2 then [116, 111, 111, 32, 109, 97, 110, 121] else if z = 3 then [116, 111, 111, 32, 102, 101, 119, 32, 112, 97, 103, 101, 115] else if z = 4 then [116, 104, 101, 32, 99, 108, 111, 99, 107, 39, 115, 32, 101, 110, 100] else if z = 5 then [110, 111, 32, 115, 117, 99, 104, 32, 99, 111, 110, 110, 101, 99, 116, 105, 111, 110] else if z = 6 then [116, 111, 111, 32, 108, 111, 110, 103] else if z = 7 then [98, 97, 100, 32, 102, 111, 114, 109] else if z = 8 then [116, 104, 101, 114, 101, 32, 97, 108, 114, 101, 97, 100, 121] else if z = 20 then [110, 111, 32, 115, 117, 99, 104, 32, 112, 108, 97, 99, 101, 32, 111, 114, 32, 104, 97, 110, 100, 108, 101] else if z = 21 then [110, 111, 32, 114, 111, 111, 109] else if z = 30 then [98, 97, 100, 32, 107, 101, 121] else moreT z
theorem more_fn (z : Int) : FnS Try.prog 53 [.int .i64 z] (fun _ => True) [] (fun v H => v = strv (moreT z) ∧ H = []) := by
  refine fn_body Try.func53 rfl Try.ntmps53 rfl ?_
  intro F hF
  refine g_sr ?_
  refine Li As ?_
  refine g_ne ?_
  refine g_seq ?_
  refine g_sr ?_
  refine Li Mv ?_
  refine g_ne ?_
  refine g_block ?_
  refine g_sr ?_
  refine Li Cm ?_
  refine Li As ?_
  refine g_ne ?_
  refine g_cond rfl ?_ ?_
  · intro hb0
    replace hb0 := nrm hb0
    refine g_sr ?_
    refine Li As ?_
    refine g_ne ?_
    refine g_ret ?_
    refine e_block_ret ?_
    refine e_then_ret ?_
    refine Rt [] Try.results53 ?_
    refine ⟨congrArg strv ?_, rfl⟩
    unfold moreT
    simp [*]
  · intro hb0
    replace hb0 := nrm hb0
    refine g_sr ?_
    refine Li Cm ?_
    refine Li As ?_
    refine g_ne ?_
    refine g_cond rfl ?_ ?_
    · intro hb1
      replace hb1 := nrm hb1
      refine g_sr ?_
      refine Li As ?_
      refine g_ne ?_
      refine g_ret ?_
      refine e_block_ret ?_
      refine e_then_ret ?_
      refine Rt [] Try.results53 ?_
      refine ⟨congrArg strv ?_, rfl⟩
      unfold moreT
      simp [*]
    · intro hb1
      replace hb1 := nrm hb1
      refine g_sr ?_
      refine Li Cm ?_
      refine Li As ?_
      refine g_ne ?_
      refine g_cond rfl ?_ ?_
      · intro hb2
        replace hb2 := nrm hb2
        refine g_sr ?_
        refine Li As ?_
        refine g_ne ?_
        refine g_ret ?_
        refine e_block_ret ?_
        refine e_then_ret ?_
        refine Rt [] Try.results53 ?_
        refine ⟨congrArg strv ?_, rfl⟩
        unfold moreT
        simp [*]
      · intro hb2
        replace hb2 := nrm hb2
        refine g_sr ?_
        refine Li Cm ?_
        refine Li As ?_
        refine g_ne ?_
        refine g_cond rfl ?_ ?_
        · intro hb3
          replace hb3 := nrm hb3
          refine g_sr ?_
          refine Li As ?_
          refine g_ne ?_
          refine g_ret ?_
          refine e_block_ret ?_
          refine e_then_ret ?_
          refine Rt [] Try.results53 ?_
          refine ⟨congrArg strv ?_, rfl⟩
          unfold moreT
          simp [*]
        · intro hb3
          replace hb3 := nrm hb3
          refine g_sr ?_
          refine Li Cm ?_
          refine Li As ?_
          refine g_ne ?_
          refine g_cond rfl ?_ ?_
          · intro hb4
            replace hb4 := nrm hb4
            refine g_sr ?_
            refine Li As ?_
            refine g_ne ?_
            refine g_ret ?_
            refine e_block_ret ?_
            refine e_then_ret ?_
            refine Rt [] Try.results53 ?_
            refine ⟨congrArg strv ?_, rfl⟩
            unfold moreT
            simp [*]
          · intro hb4
            replace hb4 := nrm hb4
            refine g_sr ?_
            refine Li Cm ?_
            refine Li As ?_
            refine g_ne ?_
            refine g_cond rfl ?_ ?_
            · intro hb5
              replace hb5 := nrm hb5
              refine g_sr ?_
              refine Li As ?_
              refine g_ne ?_
              refine g_ret ?_
              refine e_block_ret ?_
              refine e_then_ret ?_
              refine Rt [] Try.results53 ?_
              refine ⟨congrArg strv ?_, rfl⟩
              unfold moreT
              simp [*]
            · intro hb5
              replace hb5 := nrm hb5
              refine g_sr ?_
              refine Li Cm ?_
              refine Li As ?_
              refine g_ne ?_
              refine g_cond rfl ?_ ?_
              · intro hb6
                replace hb6 := nrm hb6
                refine g_sr ?_
                refine Li As ?_
                refine g_ne ?_
                refine g_ret ?_
                refine e_block_ret ?_
                refine e_then_ret ?_
                refine Rt [] Try.results53 ?_
                refine ⟨congrArg strv ?_, rfl⟩
                unfold moreT
                simp [*]
              · intro hb6
                replace hb6 := nrm hb6
                refine g_sr ?_
                refine Li Cm ?_
                refine Li As ?_
                refine g_ne ?_
                refine g_cond rfl ?_ ?_
                · intro hb7
                  replace hb7 := nrm hb7
                  refine g_sr ?_
                  refine Li As ?_
                  refine g_ne ?_
                  refine g_ret ?_
                  refine e_block_ret ?_
                  refine e_then_ret ?_
                  refine Rt [] Try.results53 ?_
                  refine ⟨congrArg strv ?_, rfl⟩
                  unfold moreT
                  simp [*]
                · intro hb7
                  replace hb7 := nrm hb7
                  refine g_sr ?_
                  refine Li Cm ?_
                  refine Li As ?_
                  refine g_ne ?_
                  refine g_cond rfl ?_ ?_
                  · intro hb8
                    replace hb8 := nrm hb8
                    refine g_sr ?_
                    refine Li As ?_
                    refine g_ne ?_
                    refine g_ret ?_
                    refine e_block_ret ?_
                    refine e_then_ret ?_
                    refine Rt [] Try.results53 ?_
                    refine ⟨congrArg strv ?_, rfl⟩
                    unfold moreT
                    simp [*]
                  · intro hb8
                    replace hb8 := nrm hb8
                    refine g_sr ?_
                    refine Li Cm ?_
                    refine Li As ?_
                    refine g_ne ?_
                    refine g_cond rfl ?_ ?_
                    · intro hb9
                      replace hb9 := nrm hb9
                      refine g_sr ?_
                      refine Li As ?_
                      refine g_ne ?_
                      refine g_ret ?_
                      refine e_block_ret ?_
                      refine e_then_ret ?_
                      refine Rt [] Try.results53 ?_
                      refine ⟨congrArg strv ?_, rfl⟩
                      unfold moreT
                      simp [*]
                    · intro hb9
                      replace hb9 := nrm hb9
                      refine g_sr ?_
                      refine Li Cm ?_
                      refine Li As ?_
                      refine g_ne ?_
                      refine g_cond rfl ?_ ?_
                      · intro hb10
                        replace hb10 := nrm hb10
                        refine g_sr ?_
                        refine Li As ?_
                        refine g_ne ?_
                        refine g_ret ?_
                        refine e_block_ret ?_
                        refine e_then_ret ?_
                        refine Rt [] Try.results53 ?_
                        refine ⟨congrArg strv ?_, rfl⟩
                        unfold moreT
                        simp [*]
                      · intro hb10
                        replace hb10 := nrm hb10
                        refine g_sr ?_
                        refine Li Cm ?_
                        refine Li As ?_
                        refine g_ne ?_
                        refine g_cond rfl ?_ ?_
                        · intro hb11
                          replace hb11 := nrm hb11
                          refine g_sr ?_
                          refine Li As ?_
                          refine g_ne ?_
                          refine g_ret ?_
                          refine e_block_ret ?_
                          refine e_then_ret ?_
                          refine Rt [] Try.results53 ?_
                          refine ⟨congrArg strv ?_, rfl⟩
                          unfold moreT
                          simp [*]
                        · intro hb11
                          replace hb11 := nrm hb11
                          refine g_sr ?_
                          refine Li Cm ?_
                          refine Li As ?_
                          refine g_ne ?_
                          refine g_cond rfl ?_ ?_
                          · intro hb12
                            replace hb12 := nrm hb12
                            refine g_sr ?_
                            refine Li As ?_
                            refine g_ne ?_
                            refine g_ret ?_
                            refine e_block_ret ?_
                            refine e_then_ret ?_
                            refine Rt [] Try.results53 ?_
                            refine ⟨congrArg strv ?_, rfl⟩
                            unfold moreT
                            simp [*]
                          · intro hb12
                            replace hb12 := nrm hb12
                            refine g_skip ?_
                            refine e_block ?_
                            refine e_then ?_
                            refine g_sr ?_
                            refine Li As ?_
                            refine g_ne ?_
                            refine g_ret ?_
                            refine Rt [] Try.results53 ?_
                            refine ⟨congrArg strv ?_, rfl⟩
                            unfold moreT
                            simp [*]
theorem error_fn (z : Int) : FnS Try.prog 22 [.int .i64 z] (fun _ => True) [] (fun v H => v = strv (errT z) ∧ H = []) := by
  refine fn_body Try.func22 rfl Try.ntmps22 rfl ?_
  intro F hF
  refine g_sr ?_
  refine Li As ?_
  refine g_ne ?_
  refine g_seq ?_
  refine g_sr ?_
  refine Li Mv ?_
  refine g_ne ?_
  refine g_block ?_
  refine g_sr ?_
  refine Li Cm ?_
  refine Li As ?_
  refine g_ne ?_
  refine g_cond rfl ?_ ?_
  · intro hb0
    replace hb0 := nrm hb0
    refine g_sr ?_
    refine Li As ?_
    refine g_ne ?_
    refine g_ret ?_
    refine e_block_ret ?_
    refine e_then_ret ?_
    refine Rt [] Try.results22 ?_
    refine ⟨congrArg strv ?_, rfl⟩
    unfold errT
    simp [*]
  · intro hb0
    replace hb0 := nrm hb0
    refine g_sr ?_
    refine Li Cm ?_
    refine Li As ?_
    refine g_ne ?_
    refine g_cond rfl ?_ ?_
    · intro hb1
      replace hb1 := nrm hb1
      refine g_sr ?_
      refine Li As ?_
      refine g_ne ?_
      refine g_ret ?_
      refine e_block_ret ?_
      refine e_then_ret ?_
      refine Rt [] Try.results22 ?_
      refine ⟨congrArg strv ?_, rfl⟩
      unfold errT
      simp [*]
    · intro hb1
      replace hb1 := nrm hb1
      refine g_sr ?_
      refine Li Cm ?_
      refine Li As ?_
      refine g_ne ?_
      refine g_cond rfl ?_ ?_
      · intro hb2
        replace hb2 := nrm hb2
        refine g_sr ?_
        refine Li As ?_
        refine g_ne ?_
        refine g_ret ?_
        refine e_block_ret ?_
        refine e_then_ret ?_
        refine Rt [] Try.results22 ?_
        refine ⟨congrArg strv ?_, rfl⟩
        unfold errT
        simp [*]
      · intro hb2
        replace hb2 := nrm hb2
        refine g_sr ?_
        refine Li Cm ?_
        refine Li As ?_
        refine g_ne ?_
        refine g_cond rfl ?_ ?_
        · intro hb3
          replace hb3 := nrm hb3
          refine g_sr ?_
          refine Li As ?_
          refine g_ne ?_
          refine g_ret ?_
          refine e_block_ret ?_
          refine e_then_ret ?_
          refine Rt [] Try.results22 ?_
          refine ⟨congrArg strv ?_, rfl⟩
          unfold errT
          simp [*]
        · intro hb3
          replace hb3 := nrm hb3
          refine g_sr ?_
          refine Li Cm ?_
          refine Li As ?_
          refine g_ne ?_
          refine g_cond rfl ?_ ?_
          · intro hb4
            replace hb4 := nrm hb4
            refine g_sr ?_
            refine Li As ?_
            refine g_ne ?_
            refine g_ret ?_
            refine e_block_ret ?_
            refine e_then_ret ?_
            refine Rt [] Try.results22 ?_
            refine ⟨congrArg strv ?_, rfl⟩
            unfold errT
            simp [*]
          · intro hb4
            replace hb4 := nrm hb4
            refine g_sr ?_
            refine Li Cm ?_
            refine Li As ?_
            refine g_ne ?_
            refine g_cond rfl ?_ ?_
            · intro hb5
              replace hb5 := nrm hb5
              refine g_sr ?_
              refine Li As ?_
              refine g_ne ?_
              refine g_ret ?_
              refine e_block_ret ?_
              refine e_then_ret ?_
              refine Rt [] Try.results22 ?_
              refine ⟨congrArg strv ?_, rfl⟩
              unfold errT
              simp [*]
            · intro hb5
              replace hb5 := nrm hb5
              refine g_sr ?_
              refine Li Cm ?_
              refine Li As ?_
              refine g_ne ?_
              refine g_cond rfl ?_ ?_
              · intro hb6
                replace hb6 := nrm hb6
                refine g_sr ?_
                refine Li As ?_
                refine g_ne ?_
                refine g_ret ?_
                refine e_block_ret ?_
                refine e_then_ret ?_
                refine Rt [] Try.results22 ?_
                refine ⟨congrArg strv ?_, rfl⟩
                unfold errT
                simp [*]
              · intro hb6
                replace hb6 := nrm hb6
                refine g_sr ?_
                refine Li Cm ?_
                refine Li As ?_
                refine g_ne ?_
                refine g_cond rfl ?_ ?_
                · intro hb7
                  replace hb7 := nrm hb7
                  refine g_sr ?_
                  refine Li As ?_
                  refine g_ne ?_
                  refine g_ret ?_
                  refine e_block_ret ?_
                  refine e_then_ret ?_
                  refine Rt [] Try.results22 ?_
                  refine ⟨congrArg strv ?_, rfl⟩
                  unfold errT
                  simp [*]
                · intro hb7
                  replace hb7 := nrm hb7
                  refine g_sr ?_
                  refine Li Cm ?_
                  refine Li As ?_
                  refine g_ne ?_
                  refine g_cond rfl ?_ ?_
                  · intro hb8
                    replace hb8 := nrm hb8
                    refine g_sr ?_
                    refine Li As ?_
                    refine g_ne ?_
                    refine g_ret ?_
                    refine e_block_ret ?_
                    refine e_then_ret ?_
                    refine Rt [] Try.results22 ?_
                    refine ⟨congrArg strv ?_, rfl⟩
                    unfold errT
                    simp [*]
                  · intro hb8
                    replace hb8 := nrm hb8
                    refine g_sr ?_
                    refine Li Cm ?_
                    refine Li As ?_
                    refine g_ne ?_
                    refine g_cond rfl ?_ ?_
                    · intro hb9
                      replace hb9 := nrm hb9
                      refine g_sr ?_
                      refine Li As ?_
                      refine g_ne ?_
                      refine g_ret ?_
                      refine e_block_ret ?_
                      refine e_then_ret ?_
                      refine Rt [] Try.results22 ?_
                      refine ⟨congrArg strv ?_, rfl⟩
                      unfold errT
                      simp [*]
                    · intro hb9
                      replace hb9 := nrm hb9
                      refine g_sr ?_
                      refine Li Cm ?_
                      refine Li As ?_
                      refine g_ne ?_
                      refine g_cond rfl ?_ ?_
                      · intro hb10
                        replace hb10 := nrm hb10
                        refine g_sr ?_
                        refine Li As ?_
                        refine g_ne ?_
                        refine g_ret ?_
                        refine e_block_ret ?_
                        refine e_then_ret ?_
                        refine Rt [] Try.results22 ?_
                        refine ⟨congrArg strv ?_, rfl⟩
                        unfold errT
                        simp [*]
                      · intro hb10
                        replace hb10 := nrm hb10
                        refine g_sr ?_
                        refine Li Cm ?_
                        refine Li As ?_
                        refine g_ne ?_
                        refine g_cond rfl ?_ ?_
                        · intro hb11
                          replace hb11 := nrm hb11
                          refine g_sr ?_
                          refine Li As ?_
                          refine g_ne ?_
                          refine g_ret ?_
                          refine e_block_ret ?_
                          refine e_then_ret ?_
                          refine Rt [] Try.results22 ?_
                          refine ⟨congrArg strv ?_, rfl⟩
                          unfold errT
                          simp [*]
                        · intro hb11
                          replace hb11 := nrm hb11
                          refine g_skip ?_
                          refine e_block ?_
                          refine e_then ?_
                          refine g_sr ?_
                          refine Li Mv ?_
                          refine Lp (oC T.fn_53 rfl rfl (more_fn z) .nil (fun _ _ _ => trivial) ?_)
                          rintro v H' ⟨rfl, rfl⟩
                          try simp only [nap, cap]
                          refine Li As ?_
                          refine g_ne ?_
                          refine g_ret ?_
                          refine Rt [] Try.results22 ?_
                          refine ⟨congrArg strv ?_, rfl⟩
                          unfold errT
                          simp [*]
theorem len_ite {c : Prop} [Decidable c] {x y : Nm} (hx : x.length ≤ 100) (hy : y.length ≤ 100) : (if c then x else y).length ≤ 100 := by
  split
  · exact hx
  · exact hy
theorem errT_len (z : Int) : (errT z).length ≤ 100 := by
  unfold errT moreT
  repeat (refine len_ite (by decide) ?_)
  decide
/-- what a refused call's error says -/
def sayT (call name : Nm) (e : Nat) : Nm := (if name = [] then call else call ++ ([32] ++ name)) ++ [58, 32] ++ errT e
theorem mth60 : mthd Try.prog 60 "Error" = some (22, false) := by kernel_rfl
theorem mth99 : mthd Try.prog 99 "Error" = some (108, true) := by kernel_rfl
theorem u_60 : Try.prog.underlying 60 = some (.int .i64) := by kernel_rfl
theorem u_99 : Try.prog.underlying 99 = some (.pointer 102) := by kernel_rfl
theorem me60 (z : Int) : ∀ w, (method (Try.prog.types.size + Made.depth) 60 (.int .i64 z) "Error").run Try.prog w = .ok (22, .int .i64 z) w := fun w => meth_run mth60 u_60 (.inr ⟨fun e h => (by cases h), rfl⟩) w
theorem me99 (p : Option Addr) : ∀ w, (method (Try.prog.types.size + Made.depth) 99 (.pointer p) "Error").run Try.prog w = .ok (108, .pointer p) w := fun w => meth_run mth99 u_99 (.inl ⟨102, rfl, rfl⟩) w
theorem says_fn (b : Nat) (call name : Nm) (e : Nat) (hc : call.length ≤ 100) (hn : name.length ≤ 140737488355328) :
    FnS Try.prog 108 [.pointer (some ⟨b, 0, none⟩)] (fun h => ∃ k, erH b call name e k ∧ Le k h) [] (fun v H => v = strv (sayT call name e) ∧ H = []) := by
  have he := errT_len (e : Int)
  refine fn_body Try.func108 rfl Try.ntmps108 rfl ?_
  rintro F hF
  unfold erH at hF
  refine g_sr ?_
  refine Li As ?_
  refine g_ne ?_
  refine g_sr ?_
  refine Li Mv ?_
  refine Li Nc ?_
  refine Li (Fa T.fld_102_0) ?_
  refine Lp (oL T.sc_9 ?_)
  refine Li As ?_
  refine g_ne ?_
  refine g_seq ?_
  refine g_sr ?_
  refine Li Mv ?_
  refine Li Nc ?_
  refine Li (Fa T.fld_102_1) ?_
  refine Lp (oL T.sc_9 ?_)
  refine Li Sq ?_
  refine g_ne ?_
  refine g_mid (ι := Unit) [13, 14, 15, 16, 17, 18, 19, 3] (fun u => True) (fun u => [(3, strv (if name = [] then call else call ++ ([32] ++ name)))]) (fun u => []) ?_ ?_
  · refine g_cond rfl ?_ ?_
    · intro h
      replace h := nrm h
      have hne : name ≠ [] := by rintro rfl; exact h rfl
      rw [if_neg hne]
      refine g_region ?_
      refine Li Mv ?_
      refine Li Mv ?_
      refine Li Nc ?_
      refine Li (Fa T.fld_102_1) ?_
      refine Lp (oL T.sc_9 ?_)
      refine Li (ScE) ?_
      refine Li (ScE) ?_
      refine Li As ?_
      refine g_nil ?_
      refine Me (()) (trivial)
    · intro h
      replace h := nrm h
      have hne : name = [] := h
      rw [if_pos hne]
      refine g_skip ?_
      refine Me (()) (trivial)
  rintro u hI
  have hlt : (if name = [] then call else call ++ ([32] ++ name)).length ≤ 140737488355500 := by split <;> (try simp only [List.length_append, List.length_cons, List.length_nil]) <;> omega
  generalize hT : (if name = [] then call else call ++ ([32] ++ name)) = t at *
  refine g_sr ?_
  refine Li Mv ?_
  refine Li (ScE) ?_
  refine Li As ?_
  refine g_ne ?_
  refine g_seq ?_
  refine g_sr ?_
  refine Li Mv ?_
  refine Li Nc ?_
  refine Li (Fa T.fld_102_2) ?_
  refine Lp (oL T.sc_30 ?_)
  refine Li (Iq T.if_30) ?_
  refine g_ne ?_
  refine g_cond rfl ?_ ?_
  · intro h2
    replace h2 := nrm h2
    refine g_region ?_
    refine Li Mv ?_
    refine Li Mv ?_
    refine Li Nc ?_
    refine Li (Fa T.fld_102_2) ?_
    refine Lp (oL T.sc_30 ?_)
    refine Lp (oCI T.fn_22 ((me60 (e : Int))) rfl rfl rfl ((error_fn (e : Int))) .nil (fun _ _ _ => trivial) ?_)
    rintro v H' ⟨rfl, rfl⟩
    try simp only [nap, cap]
    refine Li (ScE) ?_
    refine Li As ?_
    refine g_ne ?_
    refine g_sr ?_
    refine Li Mv ?_
    refine Li As ?_
    refine g_ne ?_
    refine g_ret ?_
    refine Rt [] Try.results108 ?_
    refine ⟨?_, rfl⟩
    unfold sayT
    rw [hT]
  · intro h2
    replace h2 := nrm h2
    cases h2
end Go.Proofs.Ytncmmhfgcgnojaa

