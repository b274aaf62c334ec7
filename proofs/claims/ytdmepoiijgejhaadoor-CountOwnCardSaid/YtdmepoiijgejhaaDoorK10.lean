/- Counts: a first run; the words are the reference's. -/
import Derived.Test.YtdmepoiijgejhaaDoorK9
import Derived.Test.YtdmepoiijgejhaaDoorEngL
set_option maxRecDepth 100000
namespace Go.Proofs.YtdmepoiijgejhaaDoor
open Go Go.Eng

theorem lu78 : Tryd.prog.underlying 78 = some (.struct (Tryd.prog.fieldsOf 78)) := by kernel_rfl
theorem lp78 : Tryd.prog.stoodInHeld 78 = false := by kernel_rfl
theorem lm78 : Tryd.prog.eqGuardType Tryd.prog.depth 78 = false := by kernel_rfl
theorem lf78 : (Tryd.prog.fieldsOf 78).toList.map (fun f => (decide (f.name = "_"), f.type, f.offset)) = [(false, 9, 0), (false, 30, 1)] := by kernel_rfl
theorem refName_fn (z : Int) (hz1 : -9223372036854775808 ≤ z) (hz2 : z ≤ 9223372036854775807) : FnS Tryd.prog 22 [.int .i64 z] (fun _ => True) [] (fun v H => v = strv (nameM z) ∧ H = []) := by
  unfold nameM
  have hwl := words_len
  refine fn_body Tryd.func22 rfl Tryd.ntmps22 rfl ?_
  intro F hF
  refine g_sr ?_
  refine Li As ?_
  refine g_ne ?_
  refine g_sr ?_
  refine Lp (oT T.ap_29 fun b1 => ?_)
  refine Li As ?_
  refine g_ne ?_
  refine g_seq ?_
  refine g_sr ?_
  refine Li As ?_
  refine g_ne ?_
  refine g_block ?_
  refine g_heap (fun _ s => starL_cons_mono (fun _ p => own_of_pts (cs := scells words) p 31 1 (by simp [scells, words_len]) (by simp [maxLen])) s) ?_
  generalize hw : (some (⟨b1, 0, none⟩ : Addr)) = aw
  have a0 : aw.isSome = true := by rw [← hw]; rfl
  refine Lo (ι := Nat) [6, 7, 8, 9, 12, 13, 14, 15, 16, 17, 18, 19, 2, 10, 11, 4] (fun i => i ≤ 31 ∧ ¬ (1 ≤ z ∧ z ≤ (i : Int))) (fun i => [(4, .int .i64 (i : Int))]) (fun i => [own aw 31 9 1 (scells words)]) (fun i => 31 - i) (0) ⟨Nat.zero_le _, by omega⟩ ?_
  rintro i ⟨hi, hno⟩
  refine g_seq ?_
  refine g_sr ?_
  refine Li Mv ?_
  refine Li Mv ?_
  refine Li (Ln T.sl_29) ?_
  refine Li Cm ?_
  refine g_ne ?_
  refine g_cond rfl ?_ ?_
  · intro h1
    replace h1 := nrm h1
    have hj : i < words.length := by rw [words_len]; omega
    have e1 : (scells words)[i]? = some (strv (words.getD i [])) := by simp [scells, List.getD_eq_getElem?_getD, hj]
    refine g_skip ?_
    refine e_then ?_
    refine g_seq ?_
    refine g_block ?_
    refine g_sr ?_
    refine Li Mv ?_
    refine Li Im ?_
    refine Li Mv ?_
    refine Li Cm ?_
    refine g_ne ?_
    refine g_cond rfl ?_ ?_
    · intro h2
      replace h2 := nrm h2
      rw [if_pos (by omega), show z.toNat - 1 = i from by omega]
      refine g_sr ?_
      refine Li Mv ?_
      refine Li Mv ?_
      refine Li (Ix T.sl_29) ?_
      refine Lp (oL T.sc_9 ?_)
      refine Li As ?_
      refine g_ne ?_
      refine g_ret ?_
      refine e_block_ret ?_
      refine e_then_ret ?_
      refine e_then_ret ?_
      refine e_block_ret ?_
      refine e_then_ret ?_
      refine Rt [] Tryd.results22 ?_
      exact ⟨rfl, rfl⟩
    · intro h2
      replace h2 := nrm h2
      refine g_skip ?_
      refine e_block ?_
      refine e_then ?_
      refine g_region ?_
      refine Li Mv ?_
      refine Li Im ?_
      refine Li As ?_
      refine g_nil ?_
      refine Ro (i + 1) (⟨by omega, by omega⟩) (by omega)
  · intro h1
    replace h1 := nrm h1
    rw [if_neg (by omega)]
    refine g_exit ?_
    refine e_then_exit ?_
    refine e_then_exit ?_
    refine e_block_hit ?_
    refine e_then ?_
    refine g_sr ?_
    refine Li As ?_
    refine g_ne ?_
    refine g_ret ?_
    refine Rt [] Tryd.results22 ?_
    exact ⟨rfl, rfl⟩
end Go.Proofs.YtdmepoiijgejhaaDoor

