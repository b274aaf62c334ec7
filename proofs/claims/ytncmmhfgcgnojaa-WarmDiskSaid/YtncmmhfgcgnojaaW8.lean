/- The disk: an act, as the plan bears on it. -/
import Derived.Test.YtncmmhfgcgnojaaW7
set_option maxRecDepth 100000
namespace Go.Proofs.Ytncmmhfgcgnojaa
open Go Go.Eng

/-- what a closure does: at most once, at so many bytes -/
def Clo (b : Nat) (s : Ds) (fdo : FuncId) (cv : List Value) (preC : Hp → Prop) (A : HProp) (D : Ds → Int → Ds × Nat) : Prop :=
  ∀ m : Int, (m = -1 ∨ 0 ≤ m) → FnS Try.prog fdo (.int .i64 m :: cv) preC [Dk b s, A] (fun v H => v = .int .i64 ((D s m).2 : Int) ∧ H = [Dk b (D s m).1])
theorem dark_in {n : Nat} {ds : List Deferred} {F : Frm} {K : Act → World → Prop} {σ : Slots} {H : List HProp} {b : Nat} {s : Ds} (v : Bool)
    (h : ∀ y, LayOk s y → G n ds F K σ (dkL b s y ++ H)) : G n ds F K σ (Dk b s :: H) := g_opendk h
theorem act_fn (b : Nat) (s : Ds) (hI : Inv s) (hn : s.acts ≤ 10000) (call name : Nm) (tears : Bool) (fdo : FuncId) (hfn : isFn Try.prog fdo = true) (cv : List Value) (preC : Hp → Prop) (hm : ∀ h k, preC h → Le h k → preC k) (A : HProp) (D : Ds → Int → Ds × Nat)
    (hclo : Clo b (begun s) fdo cv preC A D) :
    FnS Try.prog 45 [.pointer (some ⟨b, 0, none⟩), strv call, strv name, .bool tears, .func (.func fdo) #[] cv.toArray] preC [Dk b s, A]
      (fun v H => ∃ E, Er call name (actG s tears D).2 v E ∧ H = [Dk b (actG s tears D).1, E]) := by
  obtain ⟨⟨s', e⟩, hr⟩ : ∃ r, actG s tears D = r := ⟨_, rfl⟩
  rw [hr]
  dsimp only
  unfold actG at hr
  dsimp only at hr
  have hpl := hI.np
  refine open_dk fun y hy => ?_
  unfold dkL dkC
  simp only [nap, cap]
  refine fn_body Try.func45 rfl Try.ntmps45 rfl ?_
  intro F hF
  refine g_sr ?_
  refine Li As ?_
  refine g_ne ?_
  refine g_sr ?_
  refine Li Mv ?_
  refine Li Nc ?_
  refine Li (Fa T.fld_65_1) ?_
  refine Lp (oL T.sc_3 ?_)
  refine Li Im ?_
  refine Li Nc ?_
  refine Li (Fa T.fld_65_1) ?_
  refine Lp (oS T.sc_3 ?_)
  refine g_ne ?_
  refine g_seq ?_
  refine g_sr ?_
  refine Li Mv ?_
  refine Li Nc ?_
  refine Li (Fa T.fld_65_7) ?_
  refine Lp (oL T.sc_4 ?_)
  refine g_ne ?_
  rw [show (s.acts : Int) + 1 = ((s.acts + 1 : Nat) : Int) from by omega]
  have hL : LayOk (begun s) y := ⟨hy.fl, hy.es, hy.ss⟩
  refine g_cond rfl ?_ ?_
  · intro hd
    replace hd := nrm hd
    rw [if_pos hd] at hr
    cases hr
    refine g_sr ?_
    refine Li Mv ?_
    refine Li Mv ?_
    refine Lp (oC T.fn_21 rfl rfl (refuse_fn call name 184) .nil (fun _ _ _ => trivial) ?_)
    rintro v H' ⟨E, hE, rfl⟩
    try simp only [nap, cap]
    refine Li As ?_
    refine g_ne ?_
    refine g_ret ?_
    refine e_then_ret ?_
    refine Hh (H' := [pts b 65 (dkC (begun s) y), own y.fa y.fc 87 1 (y.fl.map fiP), stars (y.fl.map fiH), mq .string y.nm (mes y.es), mq .string y.sm (mes y.ss), own y.ca y.cc 84 3 (chCs s.chg), own y.pa y.pc 119 3 (ftCs s.plan), E]) ?_
    refine g_heap (H' := [Dk b (begun s), E]) (fun _ x => close_dk (H := [E]) hL x) ?_
    refine Rt [Dk b (begun s), E] Try.results45 ?_
    exact ⟨E, hE, rfl⟩
  · intro hd
    replace hd := nrm hd
    rw [if_neg (by rw [hd]; simp)] at hr
    generalize hf : planM s.plan (s.acts + 1) = f at hr
    refine g_skip ?_
    refine e_then ?_
    refine g_sr ?_
    refine Li Mv ?_
    refine Lp (oC T.fn_64 rfl rfl (planned_fn b (begun s) y hpl) .nil (fun _ _ hin => ⟨hin.nth 0 rfl, hin.nth 1 rfl, hin.nth 2 rfl, hin.nth 3 rfl, hin.nth 4 rfl, hin.nth 5 rfl, hin.nth 6 rfl, trivial⟩) ?_)
    rintro v H' ⟨rfl, rfl⟩
    try simp only [nap, cap]
    rw [show planM (begun s).plan (begun s).acts = f from hf]
    dsimp only [ftC]
    refine Lp (oA T.zc_119 fun b1 => ?_)
    refine Lp (oSW T.ag_119 ?_)
    refine g_ne ?_
    refine g_sr ?_
    refine Li As ?_
    refine g_ne ?_
    refine g_seq ?_
    refine g_sr ?_
    refine Li (Fa T.fld_119_1) ?_
    refine Lp (oL T.sc_3 ?_)
    refine g_ne ?_
    refine Hh (H' := [pts b 65 (dkC (begun s) y), own y.fa y.fc 87 1 (y.fl.map fiP), stars (y.fl.map fiH), mq .string y.nm (mes y.es), mq .string y.sm (mes y.ss), own y.ca y.cc 84 3 (chCs s.chg), own y.pa y.pc 119 3 (ftCs s.plan), A, pts b1 119 [.int .i64 f.st, .int .i64 f.kd, .int .i64 f.pt]]) ?_
    refine g_heap (H' := [Dk b (begun s), A, pts b1 119 [.int .i64 f.st, .int .i64 f.kd, .int .i64 f.pt]]) (fun _ x => close_dk (H := [_, _]) hL x) ?_
    have hcl := hclo
    refine g_mid (ι := Unit) [34, 33, 12, 36, 35, 38, 37, 39, 40, 41, 43, 42, 44, 45, 46, 47, 48, 50, 49, 51, 52, 53, 55, 54, 56, 57, 58, 59, 60, 61, 62, 31, 32] (fun u => True) (fun u => [(12, .int .i64 (e : Int))]) (fun u => [Dk b s']) ?_ ?_
    · refine g_block ?_
      refine g_sr ?_
      refine Li Cm ?_
      refine Li As ?_
      refine g_ne ?_
      refine g_cond rfl ?_ ?_
      · intro k1
        replace k1 := nrm k1
        rw [if_pos k1] at hr
        cases hr
        refine g_region ?_
        refine Li As ?_
        refine g_nil ?_
        refine e_block ?_
        refine Me (()) (trivial)
      · intro k1
        replace k1 := nrm k1
        rw [if_neg k1] at hr
        refine g_sr ?_
        refine Li Cm ?_
        refine Li As ?_
        refine g_ne ?_
        refine g_cond rfl ?_ ?_
        · intro k4
          replace k4 := nrm k4
          rw [if_pos k4] at hr
          cases hr
          refine g_region ?_
          refine Li As ?_
          refine g_nil ?_
          refine e_block ?_
          refine Me (()) (trivial)
        · intro k4
          replace k4 := nrm k4
          rw [if_neg k4] at hr
          refine g_sr ?_
          refine Li Cm ?_
          refine Li As ?_
          refine g_ne ?_
          refine g_cond rfl ?_ ?_
          · intro k5
            replace k5 := nrm k5
            rw [if_pos k5] at hr
            cases hr
            refine g_opendk fun y5 hy5 => ?_
            unfold dkL dkC
            simp only [nap, cap]
            refine g_sr ?_
            refine Li Mv ?_
            refine Li Nc ?_
            refine Li (Fa T.fld_65_7) ?_
            refine Lp (oS T.sc_4 ?_)
            refine g_ne ?_
            refine g_region ?_
            refine Li As ?_
            refine g_nil ?_
            refine e_block ?_
            refine Hh (H' := [pts b 65 (dkC (shut (begun s)) y5), own y5.fa y5.fc 87 1 (y5.fl.map fiP), stars (y5.fl.map fiH), mq .string y5.nm (mes y5.es), mq .string y5.sm (mes y5.ss), own y5.ca y5.cc 84 3 (chCs s.chg), own y5.pa y5.pc 119 3 (ftCs s.plan)]) ?_
            refine g_heap (H' := [Dk b (shut (begun s))]) (fun _ x => close_dk (H := []) (y := y5) ⟨hy5.fl, hy5.es, hy5.ss⟩ x) ?_
            refine Me (()) (trivial)
          · intro k5
            replace k5 := nrm k5
            rw [if_neg k5] at hr
            refine g_sr ?_
            refine Li Cm ?_
            refine Li As ?_
            refine g_ne ?_
            refine g_cond rfl ?_ ?_
            · intro k6
              replace k6 := nrm k6
              rw [if_pos k6] at hr
              cases hr
              refine g_sr ?_
              refine Li Mv ?_
              refine Lp (oCV hfn rfl rfl rfl ((hcl (-1) (.inl rfl))) (.cons .here (.cons .here .nil)) (fun _ le _ => hm _ _ hF le) ?_)
              rintro v H' ⟨rfl, rfl⟩
              try simp only [nap, cap]
              refine g_opendk fun y5 hy5 => ?_
              unfold dkL dkC
              simp only [nap, cap]
              refine g_ne ?_
              refine g_sr ?_
              refine Li Mv ?_
              refine Li Nc ?_
              refine Li (Fa T.fld_65_7) ?_
              refine Lp (oS T.sc_4 ?_)
              refine g_ne ?_
              refine g_region ?_
              refine Li As ?_
              refine g_nil ?_
              refine e_block ?_
              refine Hh (H' := [pts b 65 (dkC (shut (D (begun s) (-1)).1) y5), own y5.fa y5.fc 87 1 (y5.fl.map fiP), stars (y5.fl.map fiH), mq .string y5.nm (mes y5.es), mq .string y5.sm (mes y5.ss), own y5.ca y5.cc 84 3 (chCs (D (begun s) (-1)).1.chg), own y5.pa y5.pc 119 3 (ftCs (D (begun s) (-1)).1.plan)]) ?_
              refine g_heap (H' := [Dk b (shut (D (begun s) (-1)).1)]) (fun _ x => close_dk (H := []) (y := y5) ⟨hy5.fl, hy5.es, hy5.ss⟩ x) ?_
              refine Me (()) (trivial)
            · intro k6
              replace k6 := nrm k6
              rw [if_neg k6] at hr
              refine g_sr ?_
              refine Li Cm ?_
              refine Li As ?_
              refine g_ne ?_
              refine g_cond rfl ?_ ?_
              · intro k2
                replace k2 := nrm k2
                rw [if_pos k2] at hr
                cases hr
                refine g_region ?_
                refine Li Mv ?_
                refine Lp (oCV hfn rfl rfl rfl ((hcl (-1) (.inl rfl))) (.cons .here (.cons .here .nil)) (fun _ le _ => hm _ _ hF le) ?_)
                rintro v H' ⟨rfl, rfl⟩
                try simp only [nap, cap]
                refine Lp (oC T.fn_65 rfl rfl (behind_fn _) .nil (fun _ _ _ => trivial) ?_)
                rintro v H' ⟨rfl, rfl⟩
                try simp only [nap, cap]
                refine Li As ?_
                refine g_nil ?_
                refine e_block ?_
                refine Me (()) (trivial)
              · intro k2
                replace k2 := nrm k2
                rw [if_neg k2] at hr
                refine g_sr ?_
                refine Li Cm ?_
                refine Li As ?_
                refine g_ne ?_
                refine g_cond rfl ?_ ?_
                · intro k3
                  replace k3 := nrm k3
                  rw [if_pos k3] at hr
                  refine g_sr ?_
                  refine Li As ?_
                  refine g_ne ?_
                  refine g_sr ?_
                  refine Li Mv ?_
                  refine g_ne ?_
                  refine g_cond rfl ?_ ?_
                  · intro kt
                    replace kt := nrm kt
                    rw [if_pos kt] at hr
                    cases hr
                    refine g_region ?_
                    refine Li Mv ?_
                    refine Li (Fa T.fld_119_2) ?_
                    refine Lp (oL T.sc_3 ?_)
                    refine Li Ma ?_
                    refine Lp (oCV hfn rfl rfl rfl ((hcl (max 0 f.pt) (.inr (by omega)))) (.cons .here (.cons .here .nil)) (fun _ le _ => hm _ _ hF le) ?_)
                    rintro v H' ⟨rfl, rfl⟩
                    try simp only [nap, cap]
                    refine Lp (oC T.fn_65 rfl rfl (behind_fn _) .nil (fun _ _ _ => trivial) ?_)
                    rintro v H' ⟨rfl, rfl⟩
                    try simp only [nap, cap]
                    refine Li As ?_
                    refine g_nil ?_
                    refine e_block ?_
                    refine Me (()) (trivial)
                  · intro kt
                    replace kt := nrm kt
                    rw [if_neg (by rw [kt]; simp)] at hr
                    cases hr
                    refine g_skip ?_
                    refine e_block ?_
                    refine Me (()) (trivial)
                · intro k3
                  replace k3 := nrm k3
                  rw [if_neg k3] at hr
                  refine g_region ?_
                  refine Li Mv ?_
                  refine Lp (oCV hfn rfl rfl rfl ((hcl (-1) (.inl rfl))) (.cons .here (.cons .here .nil)) (fun _ le _ => hm _ _ hF le) ?_)
                  rintro v H' ⟨rfl, rfl⟩
                  try simp only [nap, cap]
                  rw [hr]
                  refine Li As ?_
                  refine g_nil ?_
                  refine e_block ?_
                  refine Me (()) (trivial)
    rintro u hI
    refine g_sr ?_
    refine Li Mv ?_
    refine Li Mv ?_
    refine Li Mv ?_
    refine Lp (oC T.fn_21 rfl rfl (refuse_fn call name e) .nil (fun _ _ _ => trivial) ?_)
    rintro v H' ⟨E, hE, rfl⟩
    try simp only [nap, cap]
    refine Li As ?_
    refine g_ne ?_
    refine g_ret ?_
    refine Rt [Dk b s', E] Try.results45 ?_
    exact ⟨E, hE, rfl⟩
end Go.Proofs.Ytncmmhfgcgnojaa

