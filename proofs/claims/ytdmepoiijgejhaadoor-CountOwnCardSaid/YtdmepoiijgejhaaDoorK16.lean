/- Counts: are two lists of lines the same? -/
import Derived.Test.YtdmepoiijgejhaaDoorK15
set_option maxRecDepth 100000
namespace Go.Proofs.YtdmepoiijgejhaaDoor
open Go Go.Eng

theorem lines_fn (l l' : List (List UInt8 × Nat)) (a a' : Option Addr) (m m' c c' : Nat) (hm : m = l.length) (hm' : m' = l'.length) (hb : l.length ≤ 9223372036854775807) (hb' : l'.length ≤ 9223372036854775807) :
    FnS Tryd.prog 16 [.slice a m c, .slice a' m' c'] (fun h => Rdl h a (linesC l) ∧ Rdl h a' (linesC l')) [] (fun v H => v = .bool (decide (l = l')) ∧ H = []) := by
  subst hm hm'
  refine fn_body Tryd.func16 rfl Tryd.ntmps16 rfl ?_
  intro F hF
  refine g_sr ?_
  refine Li As ?_
  refine g_ne ?_
  refine g_seq ?_
  refine g_sr ?_
  refine Li Mv ?_
  refine Li (Ln T.sl_36) ?_
  refine Li Mv ?_
  refine Li (Ln T.sl_36) ?_
  refine Li Cm ?_
  refine g_ne ?_
  refine g_cond rfl ?_ ?_
  · intro hne
    replace hne := nrm hne
    refine g_sr ?_
    refine Li As ?_
    refine g_ne ?_
    refine g_ret ?_
    refine e_then_ret ?_
    refine Rt [] Tryd.results16 ?_
    refine ⟨congrArg Value.bool (decide_eq_false fun q => ?_).symm, rfl⟩
    have := congrArg List.length q
    omega
  · intro hne
    replace hne := nrm hne
    have hlen : l.length = l'.length := by omega
    refine g_skip ?_
    refine e_then ?_
    refine g_seq ?_
    refine g_sr ?_
    refine Li As ?_
    refine g_ne ?_
    refine g_block ?_
    refine Lo (ι := Nat) [11, 12, 13, 14, 17, 18, 19, 20, 21, 22, 23, 24, 25, 4, 15, 16, 5] (fun i => i ≤ l.length ∧ ∀ j, j < i → l[j]? = l'[j]?) (fun i => [(5, .int .i64 (i : Int))]) (fun i => []) (fun i => l.length - i) (0) ⟨Nat.zero_le _, fun j hj => absurd hj (Nat.not_lt_zero j)⟩ ?_
    rintro i ⟨hi, hall⟩
    refine g_seq ?_
    refine g_sr ?_
    refine Li Mv ?_
    refine Li Mv ?_
    refine Li (Ln T.sl_36) ?_
    refine Li Cm ?_
    refine g_ne ?_
    refine g_cond rfl ?_ ?_
    · intro h1
      replace h1 := nrm h1
      obtain ⟨⟨s, n⟩, e1⟩ : ∃ x, l[i]? = some x := ⟨_, List.getElem?_eq_getElem (show i < l.length by omega)⟩
      obtain ⟨⟨s', n'⟩, e2⟩ : ∃ x, l'[i]? = some x := ⟨_, List.getElem?_eq_getElem (show i < l'.length by omega)⟩
      have k1 : ((linesC l).drop (i * 2)).take 2 = [strv s, .int .u64 (n : Int)] := linesC_at l i _ e1
      have k2 : ((linesC l').drop (i * 2)).take 2 = [strv s', .int .u64 (n' : Int)] := linesC_at l' i _ e2
      have t1 := linesC_len l
      have t2 := linesC_len l'
      have r1 := hF.1
      have r2 := hF.2
      have sa : a.isSome = true := r1.some (by omega)
      have sb : a'.isSome = true := r2.some (by omega)
      refine g_skip ?_
      refine e_then ?_
      refine g_seq ?_
      refine g_block ?_
      refine g_seq ?_
      refine g_drw T.mix .nil fun F1 le1 hin1 back1 => ?_
      replace r1 := r1.mono le1
      replace r2 := r2.mono le1
      refine Dt 0 rfl Mv ?_
      refine Dt 1 rfl Mv ?_
      refine Dt 2 rfl (Ix T.sl_36) ?_
      refine Dt 3 rfl (LfN T.ag_78) ?_
      refine Dt 4 rfl Mv ?_
      refine Dt 5 rfl Mv ?_
      refine Dt 6 rfl (Ix T.sl_36) ?_
      refine Dt 7 rfl (LfN T.ag_78) ?_
      refine Dt 8 rfl (Lq lu78 lp78 lm78 lf78 T.sc_9 T.sc_30 T.u_9 T.u_30) ?_
      refine gh_done (by kernel_rfl) back1 ?_
      refine e_then ?_
      refine g_cond rfl ?_ ?_
      · intro hd
        replace hd := nrm hd
        refine g_sr ?_
        refine Li As ?_
        refine g_ne ?_
        refine g_ret ?_
        refine e_block_ret ?_
        refine e_then_ret ?_
        refine e_then_ret ?_
        refine e_block_ret ?_
        refine e_then_ret ?_
        refine Rt [] Tryd.results16 ?_
        refine ⟨congrArg Value.bool (decide_eq_false fun hq => ?_).symm, rfl⟩
        rw [hq, e2] at e1
        cases e1
        simp at hd
      · intro hd
        replace hd := nrm hd
        refine g_skip ?_
        refine e_block ?_
        refine e_then ?_
        refine g_region ?_
        refine Li Mv ?_
        refine Li Im ?_
        refine Li As ?_
        refine g_nil ?_
        refine Ro (i + 1) (⟨by omega, fun j hj => ?_⟩) (by omega)
        by_cases hji : j = i
        · subst hji
          have h5 : s = s' := hd.1
          have h6 : n = n' := by have := hd.2; omega
          rw [e1, e2, h5, h6]
        · exact hall j (by omega)
    · intro h1
      replace h1 := nrm h1
      refine g_exit ?_
      refine e_then_exit ?_
      refine e_then_exit ?_
      refine e_block_hit ?_
      refine e_then ?_
      refine g_sr ?_
      refine Li As ?_
      refine g_ne ?_
      refine g_ret ?_
      refine Rt [] Tryd.results16 ?_
      refine ⟨congrArg Value.bool (decide_eq_true (List.ext_getElem? fun j => ?_)).symm, rfl⟩
      by_cases hj : j < i
      · exact hall j hj
      · rw [List.getElem?_eq_none (by omega), List.getElem?_eq_none (by omega)]
end Go.Proofs.YtdmepoiijgejhaaDoor

