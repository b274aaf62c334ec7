/- The disk: an error against what the document tells. -/
import Derived.Test.YtncmmhfgcgnojaaW3
set_option maxRecDepth 100000
namespace Go.Proofs.Ytncmmhfgcgnojaa
open Go Go.Eng

theorem refusal_no : FnS Try.prog 16 [.nilIface] (fun _ => True) [] (fun v H => v = .tuple #[.agg #[strv [], strv [], .int .i64 0], .bool true] ∧ H = []) := by
  refine fn_body Try.func16 rfl Try.ntmps16 rfl ?_
  intro F hF
  refine g_sr ?_
  refine Lp (oA T.zc_34 fun b1 => ?_)
  refine Li As ?_
  refine g_ne ?_
  refine g_seq ?_
  refine g_sr ?_
  refine Li Mv ?_
  refine Li ((Iqn T.if_30)) ?_
  refine g_ne ?_
  refine g_cond_t rfl (by rfl) ?_
  refine g_sr ?_
  refine Li (Bd T.zc_34 T.st_34) ?_
  refine Lp (oSW T.ag_34 ?_)
  refine Li As ?_
  refine g_ne ?_
  refine g_ret ?_
  refine e_then_ret ?_
  refine RtCT [] T.ag_34 Try.results16 ?_
  exact ⟨rfl, rfl⟩
theorem refusal_er (b : Nat) (call name : Nm) (e : Nat) (he : 0 < e) :
    FnS Try.prog 16 [.iface 99 (.pointer (some ⟨b, 0, none⟩))] (fun h => ∃ k, erH b call name e k ∧ Le k h) [] (fun v H => v = .tuple #[.agg #[strv call, strv name, .int .i64 (e : Int)], .bool true] ∧ H = []) := by
  refine fn_body Try.func16 rfl Try.ntmps16 rfl ?_
  rintro F hF
  unfold erH at hF
  refine g_sr ?_
  refine Lp (oA T.zc_34 fun b1 => ?_)
  refine Li As ?_
  refine g_ne ?_
  refine g_seq ?_
  refine g_sr ?_
  refine Li Mv ?_
  refine Li (Iq T.if_30) ?_
  refine g_ne ?_
  refine g_cond_f rfl (by rfl) ?_
  refine g_skip ?_
  refine e_then ?_
  refine g_sr ?_
  refine Li Mv ?_
  refine Li (TaT T.ni_f_99) ?_
  refine Li Mv ?_
  refine Li Ex ?_
  refine Li Ex ?_
  refine Li As ?_
  refine Li As ?_
  refine g_ne ?_
  refine g_seq ?_
  refine g_sr ?_
  refine Li Mv ?_
  refine Li Nt ?_
  refine Li Mv ?_
  refine g_slot (t := 18) (v' := .bool false) rfl (congrArg Value.bool (by rfl)) ?_
  refine Li Mv ?_
  refine Li (Pn T.u_99) ?_
  refine Li Pf ?_
  refine Li Mv ?_
  refine g_slot (t := 22) (v' := .bool false) rfl (congrArg Value.bool (by rfl)) ?_
  refine Li Mv ?_
  refine Li Nc ?_
  refine Li (Fa T.fld_102_2) ?_
  refine Lp (oL T.sc_30 ?_)
  refine Li (Iq T.if_30) ?_
  refine Li Pf ?_
  refine g_ne ?_
  refine g_cond_f rfl (by rfl) ?_
  refine g_skip ?_
  refine e_then ?_
  refine g_sr ?_
  refine Li Mv ?_
  refine Li Nc ?_
  refine Li (Fa T.fld_102_2) ?_
  refine Lp (oL T.sc_30 ?_)
  refine Li (TaT T.ni_f_60) ?_
  refine Li Mv ?_
  refine Li Ex ?_
  refine Li Ex ?_
  refine Li As ?_
  refine Li As ?_
  refine g_ne ?_
  refine g_seq ?_
  refine g_sr ?_
  refine Li Mv ?_
  refine Li Nt ?_
  refine g_ne ?_
  refine g_cond_f rfl (by rfl) ?_
  refine g_skip ?_
  refine e_then ?_
  refine g_seq ?_
  refine gT false T.mix ?_
  refine Ti Mv ?_
  refine Ti Nc ?_
  refine Ti (Fa T.fld_102_0) ?_
  refine Tp (oL T.sc_9 ?_)
  refine Ti Mv ?_
  refine Ti Nc ?_
  refine Ti (Fa T.fld_102_1) ?_
  refine Tp (oL T.sc_9 ?_)
  refine Ti Mv ?_
  refine Ti (Bd T.zc_34 T.st_34) ?_
  refine Ti Mv ?_
  refine Ti Cm ?_
  refine Tp (oSW T.ag_34 ?_)
  refine Ti As ?_
  refine Tne ?_
  refine g_ret ?_
  refine RtCT [] T.ag_34 Try.results16 ?_
  have hb : (!decide ((e : Int) = 0)) = true := by simp; omega
  refine ⟨?_, rfl⟩
  show Value.tuple #[.agg #[strv call, strv name, .int .i64 (e : Int)], .bool (!decide ((e : Int) = 0))] = _
  rw [hb]
theorem told_no : FnS Try.prog 7 [.nilIface, .agg #[strv [], strv [], .int .i64 0]] (fun _ => True) [] (fun v H => v = .bool true ∧ H = []) := by
  refine fn_body Try.func7 rfl Try.ntmps7 rfl ?_
  intro F hF
  refine g_sr ?_
  refine Lp (oB fun b1 => ?_)
  refine Li As ?_
  refine g_ne ?_
  refine g_sr ?_
  refine Li Mv ?_
  refine Lp (oC T.fn_16 rfl rfl (refusal_no) .nil (fun _ _ _ => trivial) ?_)
  rintro v H' ⟨rfl, rfl⟩
  try simp only [nap, cap]
  refine Li Mv ?_
  refine Li Ex ?_
  refine Li Ex ?_
  refine Lp (oA T.zc_34 fun b2 => ?_)
  refine Lp (oSW T.ag_34 ?_)
  refine Li As ?_
  refine g_ne ?_
  refine g_seq ?_
  refine g_sr ?_
  refine Li Mv ?_
  refine Li Nt ?_
  refine Li Mv ?_
  refine g_slot (t := 15) (v' := .bool false) rfl (congrArg Value.bool (by rfl)) ?_
  refine Lp (oLN T.ag_34 ?_)
  refine Lp (oLN T.ag_34 ?_)
  refine Li ((Lq3 T.le_34 T.ls_34 T.lg_34 T.lf_34 T.sc_9 T.sc_9 T.sc_3 T.u_9 T.u_9 T.u_3)) ?_
  refine Li Pf ?_
  refine g_ne ?_
  refine g_cond_f rfl (by rfl) ?_
  refine g_skip ?_
  refine e_then ?_
  refine g_seq ?_
  refine g_sr ?_
  refine Li Mv ?_
  refine Li ((Iqn T.if_30)) ?_
  refine g_ne ?_
  refine g_cond_t rfl (by rfl) ?_
  refine g_sr ?_
  refine Li As ?_
  refine g_ne ?_
  refine g_ret ?_
  refine e_then_ret ?_
  refine Rt [] Try.results7 ?_
  exact ⟨rfl, rfl⟩
theorem told_er (b : Nat) (call name : Nm) (e : Nat) (he : 0 < e) (hc : call.length ≤ 100) (hn : name.length ≤ 140737488355328) :
    FnS Try.prog 7 [.iface 99 (.pointer (some ⟨b, 0, none⟩)), .agg #[strv call, strv name, .int .i64 (e : Int)]] (fun h => ∃ k, erH b call name e k ∧ Le k h) [] (fun v H => v = .bool true ∧ H = []) := by
  have hel := errT_len (e : Int)
  refine fn_body Try.func7 rfl Try.ntmps7 rfl ?_
  rintro F hF
  refine g_sr ?_
  refine Lp (oB fun b1 => ?_)
  refine Li As ?_
  refine g_ne ?_
  refine g_sr ?_
  refine Li Mv ?_
  refine Lp (oC T.fn_16 rfl rfl (refusal_er b call name e he) .nil (fun _ le _ => in_mono hF le) ?_)
  rintro v H' ⟨rfl, rfl⟩
  try simp only [nap, cap]
  refine Li Mv ?_
  refine Li Ex ?_
  refine Li Ex ?_
  refine Lp (oA T.zc_34 fun b2 => ?_)
  refine Lp (oSW T.ag_34 ?_)
  refine Li As ?_
  refine g_ne ?_
  refine g_seq ?_
  refine g_sr ?_
  refine Li Mv ?_
  refine Li Nt ?_
  refine Li Mv ?_
  refine g_slot (t := 15) (v' := .bool false) rfl (congrArg Value.bool (by rfl)) ?_
  refine Lp (oLN T.ag_34 ?_)
  refine Lp (oLN T.ag_34 ?_)
  refine Li ((Lq3 T.le_34 T.ls_34 T.lg_34 T.lf_34 T.sc_9 T.sc_9 T.sc_3 T.u_9 T.u_9 T.u_3)) ?_
  refine Li Pf ?_
  refine g_ne ?_
  refine g_cond_f rfl (by simp) ?_
  refine g_skip ?_
  refine e_then ?_
  refine g_seq ?_
  refine g_sr ?_
  refine Li Mv ?_
  refine Li (Iq T.if_30) ?_
  refine g_ne ?_
  refine g_cond_f rfl (by rfl) ?_
  refine g_skip ?_
  refine e_then ?_
  refine g_sr ?_
  refine Li (Fa T.fld_34_0) ?_
  refine Lp (oL T.sc_9 ?_)
  refine Li As ?_
  refine g_ne ?_
  refine g_seq ?_
  refine g_sr ?_
  refine Li (Fa T.fld_34_1) ?_
  refine Lp (oL T.sc_9 ?_)
  refine Li Sq ?_
  refine g_ne ?_
  refine g_mid (ι := Unit) [27, 28, 29, 30, 31, 7] (fun u => True) (fun u => [(7, strv (if name = [] then call else call ++ [32] ++ name))]) (fun u => [pts b1 34 [strv call, strv name, .int .i64 (e : Int)]]) ?_ ?_
  · refine g_cond rfl ?_ ?_
    · intro h
      replace h := nrm h
      have hne : name ≠ [] := by rintro rfl; exact h rfl
      rw [if_neg hne]
      refine g_region ?_
      refine Li Mv ?_
      refine Li (ScE) ?_
      refine Li (Fa T.fld_34_1) ?_
      refine Lp (oL T.sc_9 ?_)
      refine Li (ScE) ?_
      refine Li As ?_
      refine g_nil ?_
      refine Me (()) (trivial)
    · intro h
      replace h := nrm h
      have hne : name = [] := h
      rw [if_pos hne]
      refine g_skip ?_
      refine Me (()) (trivial)
  rintro u hI
  have hlt : (if name = [] then call else call ++ [32] ++ name).length ≤ 140737488355500 := by split <;> (try simp only [List.length_append, List.length_cons, List.length_nil]) <;> omega
  have hsay : (if name = [] then call else call ++ [32] ++ name) ++ [58, 32] ++ errT e = sayT call name e := by
    unfold sayT
    by_cases h : name = []
    · rw [if_pos h, if_pos h]
    · rw [if_neg h, if_neg h, List.append_assoc call]
  generalize hT : (if name = [] then call else call ++ [32] ++ name) = t at *
  refine g_seq ?_
  refine gTB 10 T.mix (.cons .here .nil) fun F1 le1 hin1 back1 => ?_
  obtain ⟨hb, _⟩ := hin1
  refine Ti Mv ?_
  refine Tp (oCI T.fn_108 ((me99 (some ⟨b, 0, none⟩))) rfl rfl rfl ((says_fn b call name e hc hn)) .nil (fun _ le _ => in_mono hF (le1.trans le)) ?_)
  rintro v H' ⟨rfl, rfl⟩
  try simp only [nap, cap]
  refine Ti Mv ?_
  refine Ti (ScE) ?_
  refine Ti (Fa T.fld_34_2) ?_
  refine Ti (Lf T.sc_3) ?_
  refine Tp (oC T.fn_22 rfl rfl (error_fn (e : Int)) .nil (fun _ _ _ => trivial) ?_)
  rintro v H' ⟨rfl, rfl⟩
  try simp only [nap, cap]
  refine Ti (ScE) ?_
  refine Ti Sq ?_
  refine Ti As ?_
  refine TnB back1 ?_
  refine Tne ?_
  refine g_ret ?_
  refine Rt [] Try.results7 ?_
  refine ⟨?_, rfl⟩
  rw [hsay]
  simp
/-- an error, and what the document tells in its place -/
def nz (e : Nat) (x : Nm) : Nm := if e = 0 then [] else x
def faultV (call name : Nm) (e : Nat) : Value := .agg #[strv (nz e call), strv (nz e name), .int .i64 (e : Int)]
theorem told_fn (call name : Nm) (e : Nat) (v : Value) (E : HProp) (h : Er call name e v E) (hc : call.length ≤ 100) (hn : name.length ≤ 140737488355328) :
    FnS Try.prog 7 [v, faultV call name e] (fun h => ∃ k, E k ∧ Le k h) [] (fun v H => v = .bool true ∧ H = []) := by
  rcases h with ⟨rfl, rfl, rfl⟩ | ⟨he, b, rfl, rfl⟩
  · exact told_no.inp fun _ _ => trivial
  · unfold faultV nz
    rw [if_neg (by omega), if_neg (by omega)]
    exact told_er b call name e he hc hn
end Go.Proofs.Ytncmmhfgcgnojaa

