/- The engine, part X: an append of zeros (append(x, make(..)...)). -/
import Derived.Test.YtggmpaggmkfmoaaEngB
set_option maxRecDepth 100000
namespace Go.Eng
open Go
section
variable {P : Program} {n : Nat} {ds : List Deferred} {F : Frm} {Q : Exit → Act → World → Prop} {K : Act → World → Prop} {σ : Slots} {H : List HProp} {o : Oper} {d : Nat}
theorem zeroCells_one (v : Value) (m : Nat) : (Builtin.zeroCells #[v] m).toList = List.replicate m v := by
  apply List.ext_getElem
  · simp [Builtin.zeroCells]
  · intro i h1 h2
    simp [Builtin.zeroCells, Nat.mod_one]
theorem append_zeros {t t2 ty : TypeId} {e by' : Nat} {zv0 : Value} (ht : apT P t = some (e, 1, by', [zv0])) (hz1 : zv0.oneCell' = true) (ht2 : P.underlying t2 = some (.int .i64)) {a : Option Addr} {len cap m : Nat} {xs : List Value} {R : List HProp} {w : World}
    (s : St F (own a cap e 1 xs :: R) w) (ho : xs.length = len) (hm : 0 < m) (hm2 : m ≤ 1000000) (hby' : by' ≤ 1000) (hb : (len + m) * by' ≤ 140737488355328) (h63 : len + m ≤ 1000000000000) :
    ∃ w' a' cap', (Builtin.append_ #[t, t2] ty #[.slice a len cap, .int .i64 (m : Int)]).run P w = .ok (.slice a' (len + m) cap') w' ∧ len + m ≤ cap' ∧ St F (own a' cap' e 1 (xs ++ List.replicate m zv0) :: R) w' := by
  obtain ⟨hu, hsz, hzl, i, zv, hi, hisz, hby, hz, hzc⟩ := apT_spec ht
  have hwr : IntKind.i64.wrap (m : Int) = (m : Int) := wrap_i64 (by omega)
  have hneg : ¬ ((m : Int) < 0) := by omega
  have hbig : ¬ (281474976710656 < (m : Int) * (by' : Int)) := by
    have : m * by' ≤ 1000000 * 1000 := Nat.mul_le_mul hm2 hby'
    have h2 : (m : Int) * (by' : Int) = ((m * by' : Nat) : Int) := by simp
    rw [h2]; omega
  have hm0 : ¬ m = 0 := by omega
  by_cases hroom : len + m ≤ cap
  · rcases open_own s with ⟨rfl, rfl, _⟩ | ⟨b, sp, rfl, q4, q2, st⟩
    · omega
    · have hl1 : (List.replicate m zv0).length = m := List.length_replicate
      obtain ⟨w', hr, st'⟩ := storeCells_st (P := P) (List.replicate m zv0) len 0 (xs ++ sp) w st (by rw [List.length_append, hl1]; omega) (by
        intro v hv
        rw [List.eq_of_mem_replicate hv]; exact hz1)
      refine ⟨w', some ⟨b, 0, none⟩, cap, ?_, hroom, ?_⟩
      · have hzz : (Builtin.zeroCells zv.cells m).toList = List.replicate m zv0 := by rw [hzc]; exact zeroCells_one zv0 m
        have hzz' : (Builtin.zeroCells #[zv0] m).toList = List.replicate m zv0 := zeroCells_one zv0 m
        simp [Builtin.append_, run_underlying hu, run_underlying ht2, asInt, asIntOf, hwr, hneg, hby, hbig, sizeOf, typeInfo, hi, hisz, hroom, hm0, zeroValue, hz, hzc, hzz', add_lit, hr]
      · have e1 : setL (xs ++ sp) (len + 0) (List.replicate m zv0) = (xs ++ List.replicate m zv0) ++ sp.drop m := by
          rw [Nat.add_zero, ← ho]
          have := setL_append (List.replicate m zv0) xs (sp.take m) (sp.drop m) (by rw [List.length_take, hl1]; omega)
          rw [List.take_append_drop] at this
          rw [this, List.append_assoc]
        rw [e1] at st'
        refine close_own ?_ q2 st'
        rw [List.length_append, List.length_drop, hl1]
        omega
  · obtain ⟨hh, ho', hle⟩ := s.get
    have hro : Rdl (hOf w) a xs := (own_rdl ho').mono hle
    have sd : St F (own a cap e 1 xs :: R) w.drew := s.drew
    have hfit := growslice_fits (show cap < len + m by omega) hb
    have hold : (Builtin.firstCells 1 len (.slice a len cap)).run P w.drew = .ok xs.toArray w.drew := by
      cases a with
      | none =>
        have : xs = [] := by
          cases xs with
          | nil => rfl
          | cons x y => obtain ⟨ad, h1, _⟩ := hro 0 x (by simp); cases h1
        subst this; simp [Builtin.firstCells]
      | some ad =>
        refine run_firstCells_some w.drew 1 len ad len cap xs (by omega) ?_
        intro j v hv
        obtain ⟨ad', h1, h2⟩ := hro j v hv
        cases h1; exact h2
    have hge := grownCap_ge w (len + m) cap e
    have hlm := grownCap_le_maxLen w (len + m) cap e (by simp only [maxLen]; omega)
    have hls : (xs ++ List.replicate m zv0).length + (List.replicate (grownCap w (len + m) cap e - (len + m)) zv0).length = grownCap w (len + m) cap e * 1 := by
      simp only [List.length_append, List.length_replicate]; omega
    refine ⟨_, some ⟨w.heap.size, 0, none⟩, grownCap w (len + m) cap e, ?_, hge, close_own hls hlm (((sd.new e (xs ++ List.replicate m zv0 ++ List.replicate (grownCap w (len + m) cap e - (len + m)) zv0)).sub fun _ s' => starL_swap s').drop)⟩
    · have hn : ¬ (len + m ≤ cap) := by omega
      have h63' : ¬ (9223372036854775807 < ((len : Int) + (m : Int))) := by omega
      have h48' : ¬ (281474976710656 < Builtin.nextslicecap (len + m) cap * by') := by omega
      have hdw : ({ w with drawn := w.drawn + 1 } : World) = w.drew := rfl
      have hzz : ∀ k, Builtin.zeroCells #[zv0] k = (List.replicate k zv0).toArray := fun k => by rw [← zeroCells_one zv0 k]
      simp [Builtin.append_, run_underlying hu, run_underlying ht2, asInt, asIntOf, hwr, hneg, hby, hbig, sizeOf, typeInfo, hi, hisz, hn, hm0, h63', h48', Question.forced, hdw, hold, zeroValue, hz, hzc, newRow, grownCap, hzz]
      congr 2
      apply Array.ext'
      simp
theorem op_append_zeros {t t2 : TypeId} {e by' m len cap : Nat} {zv0 : Value} {xs : List Value} {x y : Operand} {a : Option Addr} {f : HProp → List HProp} (ht : apT P t = some (e, 1, by', [zv0])) (ht2 : P.underlying t2 = some (.int .i64))
    (ho : o.op = .call { callee := .builtin .append, args := #[x, y], argTypes := #[t, t2] }) (hd : o.dst = some d) (hx : evo σ x = some (.slice a len cap)) (hy : evo σ y = some (.int .i64 (m : Int)))
    (hu : Pos H (own a cap e 1 xs) f) (hl : xs.length = len) (hz1 : zv0.oneCell' = true) (hm : 0 < m) (hm2 : m ≤ 1000000) (hby : by' ≤ 1000) (hb : (len + m) * by' ≤ 140737488355328) (h63 : len + m ≤ 1000000000000) (hdn : Nat.blt d n = true)
    (h : ∀ a' c', len + m ≤ c' → G n ds F K ((d, .slice a' (len + m) c') :: σ) (f (own a' c' e 1 (xs ++ List.replicate m zv0)))) : G n ds F (fun a w => o.wp P a w K Q) σ H := by
  refine .mk fun ac w en s => ?_
  obtain ⟨R, sel, back⟩ := hu.sel
  obtain ⟨w', a', c', hr, hge, st⟩ := append_zeros (P := P) (ty := o.type) ht hz1 ht2 (s.sel sel) hl hm hm2 hby hb h63
  unfold Oper.wp
  rw [run_appendOp ho, en.eval hx, en.eval hy, hr, Result.andThen_ok, Oper.upon_value, hd]
  exact h a' c' hge _ _ (en.put hdn _) (st.unsel (back _))
end
end Go.Eng
