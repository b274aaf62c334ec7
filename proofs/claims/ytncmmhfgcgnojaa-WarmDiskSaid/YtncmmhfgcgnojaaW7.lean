/- The disk: changes of names; a plan. -/
import Derived.Test.YtncmmhfgcgnojaaW6
set_option maxRecDepth 100000
namespace Go.Proofs.Ytncmmhfgcgnojaa
open Go Go.Eng

theorem ex62 : isEx Try.prog 62 Extern.MapsClone.clone := ⟨Try.f62, Try.func62, by kernel_rfl, by kernel_rfl, by kernel_rfl, by kernel_rfl⟩
theorem clone_fn (m : Nat) (l : List (Nm × Nat)) : FnS Try.prog 42 [.map (some m)] (fun _ => True) [mq .string m (mes l)] (fun v H => ∃ b, v = .map (some b) ∧ H = [mq .string b (mes l), mq .string m (mes l)]) := by
  refine fn_body Try.func42 rfl Try.ntmps42 rfl ?_
  intro F hF
  refine g_sr ?_
  refine Li As ?_
  refine g_ne ?_
  refine g_seq ?_
  refine g_sr ?_
  refine Li Mv ?_
  refine Li (Mq0 T.mt_61) ?_
  refine g_ne ?_
  refine g_cond_f rfl (by rfl) ?_
  refine g_skip ?_
  refine e_then ?_
  refine g_sr ?_
  refine Li Mv ?_
  refine Li (MkI T.ni_f_61) ?_
  refine Lp (oQc ex62 fun b1 => ?_)
  refine Li (TaC T.ni_f_61) ?_
  refine Li As ?_
  refine g_ne ?_
  refine g_ret ?_
  refine Rt [mq .string b1 (mes l), mq .string m (mes l)] Try.results42 ?_
  exact ⟨b1, rfl, rfl⟩
theorem do_fn (c : Ch) (m : Nat) (l : List (Nm × Nat)) : FnS Try.prog 41 [.agg (chC c).toArray, .map (some m)] (fun _ => True) [mq .string m (mes l)] (fun v H => v = .tuple #[] ∧ H = [mq .string m (mes (doE l c))]) := by
  unfold chC
  refine fn_body Try.func41 rfl Try.ntmps41 rfl ?_
  intro F hF
  refine g_sr ?_
  refine Lp (oB fun b1 => ?_)
  refine g_ne ?_
  refine g_seq ?_
  refine g_sr ?_
  refine Li (Fa T.fld_84_0) ?_
  refine Lp (oL T.sc_9 ?_)
  refine Li Sq ?_
  refine g_ne ?_
  refine g_mid (ι := Unit) [7, 8, 9] (fun u => True) (fun u => []) (fun u => [pts b1 84 [strv c.fr, strv c.to, .int .i64 (c.fi : Int)], mq .string m (mes (if c.fr = [] then l else without l c.fr))]) ?_ ?_
  · refine g_cond rfl ?_ ?_
    · intro h
      replace h := nrm h
      have hne : c.fr ≠ [] := h
      rw [if_neg hne]
      refine g_region ?_
      refine Li Mv ?_
      refine Li (Fa T.fld_84_0) ?_
      refine Lp (oL T.sc_9 ?_)
      refine Lp (oQd T.mt_61 ?_)
      refine g_nil ?_
      rw [mes_deq]
      refine Me (()) (trivial)
    · intro h
      replace h := nrm h
      have hne : c.fr = [] := h
      rw [if_pos hne]
      refine g_skip ?_
      refine Me (()) (trivial)
  rintro u hI
  unfold doE
  generalize (if c.fr = [] then l else without l c.fr) = e1
  dsimp only
  refine g_sr ?_
  refine Li (Fa T.fld_84_1) ?_
  refine Lp (oL T.sc_9 ?_)
  refine Li Sq ?_
  refine g_ne ?_
  refine g_cond rfl ?_ ?_
  · intro h
    replace h := nrm h
    have hne : c.to ≠ [] := h
    rw [if_neg hne]
    refine g_region ?_
    refine Li Mv ?_
    refine Li (Fa T.fld_84_1) ?_
    refine Lp (oL T.sc_9 ?_)
    refine Li (Fa T.fld_84_2) ?_
    refine Lp (oL T.sc_3 ?_)
    refine Lp (oQi T.mt_61 ?_)
    refine g_nil ?_
    rw [mes_upq]
    refine Rn0 [mq .string m (mes (updL e1 c.to c.fi))] Try.results41 ?_
    exact ⟨rfl, rfl⟩
  · intro h
    replace h := nrm h
    have hne : c.to = [] := h
    rw [if_pos hne]
    refine g_skip ?_
    refine Rn0 [mq .string m (mes e1)] Try.results41 ?_
    exact ⟨rfl, rfl⟩
theorem names_snoc (s : Ds) (c : Ch) : namesL { s with chg := s.chg ++ [c] } = app1 (namesL s) c := by
  unfold namesL afterL
  rw [List.foldl_append]
  rfl
theorem chCs_snoc (l : List Ch) (c : Ch) : chCs (l ++ [c]) = chCs l ++ [strv c.fr, strv c.to, .int .i64 (c.fi : Int)] := rows_snoc l c
theorem chCs_len (l : List Ch) : (chCs l).length = l.length * 3 := rows_len chC_len l
theorem turn_fn (b : Nat) (s : Ds) (c : Ch) (hI : Inv s) (hn : s.acts ≤ 10000) :
    FnS Try.prog 48 [.pointer (some ⟨b, 0, none⟩), .agg (chC c).toArray] (fun _ => True) [Dk b s] (fun v H => v = .tuple #[] ∧ H = [Dk b { s with chg := s.chg ++ [c] }]) := by
  have hnm := hI.names
  have hnn := hI.nn
  refine open_dk fun y hy => ?_
  unfold dkL dkC chC
  simp only [nap, cap]
  refine fn_body Try.func48 rfl Try.ntmps48 rfl ?_
  intro F hF
  refine g_sr ?_
  refine Lp (oB fun b1 => ?_)
  refine g_ne ?_
  refine g_seq ?_
  refine gT false T.mix ?_
  refine Tp (oLN T.ag_84 ?_)
  refine Ti Mv ?_
  refine Ti Nc ?_
  refine Ti (Fa T.fld_65_3) ?_
  refine Tp (oL T.sc_61 ?_)
  refine Tp (oC T.fn_41 rfl rfl (do_fn c y.nm y.es) (.cons (.there (.there (.there (.there .here)))) .nil) (fun _ _ _ => trivial) ?_)
  rintro v H' ⟨rfl, rfl⟩
  try simp only [nap, cap]
  refine Tne ?_
  refine gTB 10 T.mix (.cons (.there .here) (.cons (.there .here) .nil)) fun F1 le1 hin1 back1 => ?_
  obtain ⟨hb1, hb2, _⟩ := hin1
  refine Ti Mv ?_
  refine Ti Mv ?_
  refine Ti Nc ?_
  refine Ti (Fa T.fld_65_5) ?_
  refine Ti (Lf T.sc_63) ?_
  refine Ti (LfN T.ag_84) ?_
  refine Tp (oT1 T.ap_63 fun b2 => ?_)
  refine Tp (op_append_lit T.ap_63 T.ni_63 rfl rfl rfl rfl (.there (.there (.there (.there .here)))) (chCs_len _) (rfl) (by simp [Value.oneCell', strv]) (by first | omega | (simp; omega)) (by first | omega | (simp; omega)) rfl fun a5 c5 hc5 => ?_)
  refine Ti Nc ?_
  refine Ti (Fa T.fld_65_5) ?_
  refine TnB back1 ?_
  refine Tp (oS T.sc_63 ?_)
  refine Tn ?_
  rw [show s.chg.length + 1 = (s.chg ++ [c]).length from by simp]
  refine Hh (H' := [pts b 65 (dkC { s with chg := s.chg ++ [c] } { y with es := doE y.es c, ca := a5, cc := c5 }), own y.fa y.fc 87 1 (y.fl.map fiP), stars (y.fl.map fiH), mq .string y.nm (mes (doE y.es c)), mq .string y.sm (mes y.ss), own a5 c5 84 3 (chCs s.chg ++ [strv c.fr, strv c.to, .int .i64 (c.fi : Int)]), own y.pa y.pc 119 3 (ftCs s.plan)]) ?_
  rw [← chCs_snoc]
  refine g_heap (H' := [Dk b { s with chg := s.chg ++ [c] }]) (fun _ x => close_dk (H := []) (y := { y with es := doE y.es c, ca := a5, cc := c5 }) ⟨hy.fl, ?_, hy.ss⟩ x) ?_
  · rw [names_snoc]
    exact app1_perm hy.es hnm.nd (fun p hp => (hnm.sk p hp).1) c
  refine Rn0 [Dk b { s with chg := s.chg ++ [c] }] Try.results48 ?_
  exact ⟨rfl, rfl⟩
theorem ftCs_len (l : List Flt) : (ftCs l).length = l.length * 3 := rows_len ftC_len l
theorem ftCs_one (l : List Flt) : ∀ v ∈ ftCs l, v.oneCell' = true := by
  intro v hv
  obtain ⟨f, _, hf⟩ := List.mem_flatMap.1 hv
  simp only [ftC, List.mem_cons, List.not_mem_nil, or_false] at hf
  rcases hf with rfl | rfl | rfl <;> rfl
theorem plan_fn (b : Nat) (s : Ds) (a : Option Addr) (n c : Nat) (l : List Flt) (hn : n = l.length) (hl : l.length ≤ 1000) :
    FnS Try.prog 39 [.pointer (some ⟨b, 0, none⟩), .slice a n c] (fun h => Rdl h a (ftCs l)) [Dk b s] (fun v H => v = .tuple #[] ∧ H = [Dk b { s with plan := l }]) := by
  subst hn
  refine open_dk fun y hy => ?_
  unfold dkL dkC
  simp only [nap, cap]
  refine fn_body Try.func39 rfl Try.ntmps39 rfl ?_
  intro F hF
  refine g_region ?_
  refine Li Mv ?_
  refine Li Mv ?_
  refine g_nilrow 119 3 ?_
  refine Lp (op_append T.ap_39 T.ni_39 rfl rfl rfl rfl .here (rfl) (src_slice (m := l.length) (ftCs_len l) fun h le _ => hF.mono le) (ftCs_one l) (by first | omega | (simp; omega)) (by first | omega | (simp; omega)) rfl fun a5 c5 hc5 => ?_)
  rw [List.nil_append, Nat.zero_add]
  refine Li Nc ?_
  refine Li (Fa T.fld_65_6) ?_
  refine Lp (oS T.sc_39 ?_)
  refine g_nil ?_
  refine Hh (H' := [pts b 65 (dkC { s with plan := l } { y with pa := a5, pc := c5 }), own y.fa y.fc 87 1 (y.fl.map fiP), stars (y.fl.map fiH), mq .string y.nm (mes y.es), mq .string y.sm (mes y.ss), own y.ca y.cc 84 3 (chCs s.chg), own a5 c5 119 3 (ftCs l)]) ?_
  refine g_heap (H' := [Dk b { s with plan := l }]) (fun _ x => close_dk (H := []) (y := { y with pa := a5, pc := c5 }) ⟨hy.fl, hy.es, hy.ss⟩ x) ?_
  refine Rn0 [Dk b { s with plan := l }] Try.results39 ?_
  exact ⟨rfl, rfl⟩
end Go.Proofs.Ytncmmhfgcgnojaa

