/- Counts: an outcome cut. -/
import Derived.Test.YtdmepoiijgejhaaDoorK14
set_option maxRecDepth 100000
namespace Go.Proofs.YtdmepoiijgejhaaDoor
open Go Go.Eng

def outC (c : Cmd) (a : Ans) (wa : Option Addr) (wm wc : Nat) (m : Mtr) : List Value := cmdC c ++ (ansC a ++ (.slice wa wm wc :: mtrC m))
def fewM (m : Mtr) : Mtr := ⟨m.d.tmod 1000, m.r.tmod 1000, 0, 0, 0, m.cr.tmod 1000, m.mv.tmod 1000⟩
theorem fewer_fn (c : Cmd) (a : Ans) (why : List Int) (wa : Option Addr) (wm wc : Nat) (hm : wm = why.length) (hc : wm ≤ wc) (m : Mtr) :
    FnS Tryd.prog 19 [.agg (outC c a wa wm wc m).toArray] (fun _ => True) [] (fun v H => ∃ a' c', v = .agg (outC c a a' (few why).length c' (fewM m)).toArray ∧ (few why).length ≤ c' ∧ (∀ h, Rdl h wa (icells why) → Rdl h a' (icells (few why))) ∧ H = []) := by
  obtain ⟨verb, ka, km, kc, flags, expt, token, delta, da, dm, dc, nr, lg, fa, fm, fc, what⟩ := c
  obtain ⟨kind, ea, em, ec, number, text, sa, sm, sc⟩ := a
  obtain ⟨md, mr, mbu, mli, mlo, mcr, mmv⟩ := m
  dsimp only [outC, cmdC, ansC, mtrC, fewM, List.cons_append, List.nil_append]
  refine fn_body Tryd.func19 rfl Tryd.ntmps19 rfl ?_
  intro F hF
  refine g_sr ?_
  refine Lp (oB fun b1 => ?_)
  refine Lp (oA T.zc_43 fun b2 => ?_)
  refine g_ne ?_
  refine g_sr ?_
  refine Li (Fa T.fld_43_2) ?_
  refine Lp (oL T.sc_39 ?_)
  refine Lp (oC T.fn_14 rfl rfl (few_fn why wa wm wc hm hc) .nil (fun _ _ _ => trivial) ?_)
  rintro v H' ⟨a', c', rfl, hc', hr', rfl⟩
  try simp only [nap, cap]
  refine Li (Fa T.fld_43_2) ?_
  refine Lp (oS T.sc_39 ?_)
  refine g_ne ?_
  refine g_sr ?_
  refine Li (Fa T.fld_43_3) ?_
  refine Li (Fa T.fld_41_0) ?_
  refine Lp (oL T.sc_3 ?_)
  refine Li Im ?_
  refine Li (Fa T.fld_43_3) ?_
  refine Li (Fa T.fld_41_1) ?_
  refine Lp (oL T.sc_3 ?_)
  refine Li Im ?_
  refine Li (Fa T.fld_43_3) ?_
  refine Li (Fa T.fld_41_5) ?_
  refine Lp (oL T.sc_3 ?_)
  refine Li Im ?_
  refine Li (Fa T.fld_43_3) ?_
  refine Li (Fa T.fld_41_6) ?_
  refine Lp (oL T.sc_3 ?_)
  refine Li Im ?_
  refine Li (Bd T.zc_41 T.st_41) ?_
  refine Li (Fa T.fld_43_3) ?_
  refine Lp (oSN T.ag_41 ?_)
  refine g_ne ?_
  refine g_sr ?_
  refine Lp (oLN T.ag_43 ?_)
  refine Lp (oSW T.ag_43 ?_)
  refine g_ne ?_
  refine g_ret ?_
  refine RtC [] T.ag_43 Tryd.results19 ?_
  exact ⟨a', c', rfl, hc', hr', rfl⟩
end Go.Proofs.YtdmepoiijgejhaaDoor

