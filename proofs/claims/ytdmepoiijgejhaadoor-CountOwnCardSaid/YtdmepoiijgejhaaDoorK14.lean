/- Counts: a list of why cut; an outcome cut. -/
import Derived.Test.YtdmepoiijgejhaaDoorK11
set_option maxRecDepth 100000
namespace Go.Proofs.YtdmepoiijgejhaaDoor
open Go Go.Eng

def few (l : List Int) : List Int := l.take 10000
theorem few_fn (l : List Int) (a : Option Addr) (m c : Nat) (hm : m = l.length) (hc : m ≤ c) :
    FnS Tryd.prog 14 [.slice a m c] (fun _ => True) [] (fun v H => ∃ a' c', v = .slice a' (few l).length c' ∧ (few l).length ≤ c' ∧ (∀ h, Rdl h a (icells l) → Rdl h a' (icells (few l))) ∧ H = []) := by
  refine fn_body Tryd.func14 rfl Tryd.ntmps14 rfl ?_
  intro F hF
  unfold few
  refine g_sr ?_
  refine Li As ?_
  refine g_ne ?_
  refine g_seq ?_
  refine g_sr ?_
  refine Li Mv ?_
  refine Li (Ln T.sl_39) ?_
  refine Li Cm ?_
  refine g_ne ?_
  refine g_cond rfl ?_ ?_
  · intro hb
    replace hb := nrm hb
    refine g_sr ?_
    refine Li Mv ?_
    refine Li (Sl 0 10000 _ T.sl_39) ?_
    refine Li As ?_
    refine g_ne ?_
    refine g_ret ?_
    refine e_then_ret ?_
    refine Rt [] Tryd.results14 ?_
    have hl : (l.take 10000).length = 10000 := by simp; omega
    refine ⟨cutA a 0 c (0 * 1), c - 0, by rw [hl], by rw [hl]; omega, fun h r => ?_, rfl⟩
    have := r.cut 0 c (0 * 1) 10000 (by omega)
    have e : ((icells l).drop (0 * 1)).take 10000 = icells (l.take 10000) := by simp [icells, List.map_take]
    rw [e] at this
    exact this
  · intro hb
    replace hb := nrm hb
    refine g_skip ?_
    refine e_then ?_
    refine g_sr ?_
    refine Li Mv ?_
    refine Li As ?_
    refine g_ne ?_
    refine g_ret ?_
    refine Rt [] Tryd.results14 ?_
    refine ⟨a, c, by rw [List.take_of_length_le (by omega), hm], by rw [List.take_of_length_le (by omega)]; omega, fun h r => by rw [List.take_of_length_le (by omega)]; exact r, rfl⟩
end Go.Proofs.YtdmepoiijgejhaaDoor

