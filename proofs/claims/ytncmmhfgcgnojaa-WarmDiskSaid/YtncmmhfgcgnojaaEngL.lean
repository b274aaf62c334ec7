/- Two lines of a word and a number: the same? -/
import Derived.Test.YtncmmhfgcgnojaaEngM
import Derived.Laws.StructEq
import Derived.Laws.Concat
set_option maxRecDepth 100000
namespace Go.Eng
open Go
variable {P : Program} {n : Nat} {ds : List Deferred} {F : Frm} {Q : Exit → Act → World → Prop} {K : Act → World → Prop} {σ : Slots} {H : List HProp} {o : Oper} {d : Nat}
theorem part_scal {t : TypeId} (hs : scal P t = true) {xs : Array Value} {off : Nat} {v : Value} (hx : xs[off]? = some v) {w : World} : (part t xs off).run P w = .ok v w := by
  simp [part, (scal_spec hs).1, hx]
theorem eq_line {t ts tu : TypeId} {i j : List UInt8} {m k : Int} (ht : P.underlying t = some (.struct (P.fieldsOf t))) (hp : P.stoodInHeld t = false)
    (hf : (P.fieldsOf t).toList.map (fun f => (decide (f.name = "_"), f.type, f.offset)) = [(false, ts, 0), (false, tu, 1)])
    (s1 : scal P ts = true) (s2 : scal P tu = true) (u1 : P.underlying ts = some .string) (u2 : P.underlying tu = some (.int .u64)) (w : World) :
    (Op.equalIn 10000 t (.agg #[strv i, .int .u64 m]) (.agg #[strv j, .int .u64 k])).run P w = .ok (decide (i = j) && decide (m = k)) w := by
  rw [run_equalIn_struct w 9999 t _ _ ht hp]
  generalize (P.fieldsOf t).toList = fs at hf
  obtain ⟨f, g, rfl⟩ : ∃ f g, fs = [f, g] := by
    rcases fs with _ | ⟨f, _ | ⟨g, _ | ⟨_, _⟩⟩⟩ <;> simp at hf ⊢
  simp only [List.map_cons, List.map_nil, List.cons.injEq, Prod.mk.injEq, decide_eq_false_iff_not, and_true] at hf
  obtain ⟨⟨f1, f2, f3⟩, g1, g2, g3⟩ := hf
  subst f2 g2
  have e1 : (Op.equalIn 9999 f.type (strv i) (strv j)).run P w = .ok (decide (i = j)) w := by
    unfold strv
    rw [run_equalIn_string w 9998 f.type _ _ u1]
    congr 1
    rw [ByteArray.toList_eq, ByteArray.toList_eq, Bool.eq_iff_iff]; simp
  have e2 : (Op.equalIn 9999 g.type (.int .u64 m) (.int .u64 k)).run P w = .ok (decide (m = k)) w := by
    rw [run_equalIn_int w 9998 g.type .u64 .u64 _ _ u2]
    congr 1
  have p1 : ∀ (a : List UInt8) (z : Int), (part f.type #[strv a, .int .u64 z] f.offset).run P w = .ok (strv a) w := fun a z => part_scal s1 (by rw [f3]; rfl)
  have p2 : ∀ (a : List UInt8) (z : Int), (part g.type #[strv a, .int .u64 z] g.offset).run P w = .ok (.int .u64 z) w := fun a z => part_scal s2 (by rw [g3]; rfl)
  simp only [Op.eqFields, ne_eq, f1, g1, not_false_eq_true, if_true, Sem.run_bind, p1, p2, e1, Result.andThen_ok]
  by_cases hij : i = j
  · simp [hij, e2, p2]
    by_cases hmk : m = k <;> simp [hmk]
  · simp [hij]
theorem Lq {op : BinOp} {t yt ts tu : TypeId} {x y : Operand} {i j : List UInt8} {m k : Int} {b : Bool} (ht : P.underlying t = some (.struct (P.fieldsOf t))) (hp : P.stoodInHeld t = false) (hm : P.eqGuardType P.depth t = false)
    (hf : (P.fieldsOf t).toList.map (fun f => (decide (f.name = "_"), f.type, f.offset)) = [(false, ts, 0), (false, tu, 1)])
    (s1 : scal P ts = true) (s2 : scal P tu = true) (u1 : P.underlying ts = some .string) (u2 : P.underlying tu = some (.int .u64))
    (ho : o.op = .binOp op t x y yt := by exact rfl) (hx : evo σ x = some (.agg #[strv i, .int .u64 m]) := by exact rfl) (hy : evo σ y = some (.agg #[strv j, .int .u64 k]) := by exact rfl)
    (hop : (op = .eql ∧ b = (decide (i = j) && decide (m = k))) ∨ (op = .neq ∧ b = !(decide (i = j) && decide (m = k))) := by first | exact .inl ⟨rfl, rfl⟩ | exact .inr ⟨rfl, rfl⟩) : Yv P n ds F σ o (.bool b) := by
  intro a w e _
  have q := fun w => eq_line (i := i) (j := j) (m := m) (k := k) ht hp hf s1 s2 u1 u2 w
  rcases hop with ⟨rfl, rfl⟩ | ⟨rfl, rfl⟩ <;> simp [execOp, ho, e.eval hx, e.eval hy, run_eqGuard_agg w _ _ _ _ _ _ hm, run_eql_struct, run_neq_struct, q]
/-- two texts, one behind the other -/
theorem Sc {t yt : TypeId} {x y : Operand} {i j l : List UInt8} (hl : i.length + j.length ≤ 9223372036854775807) (ho : o.op = .binOp .add t x y yt := by exact rfl) (hx : evo σ x = some (strv i) := by exact rfl) (hy : evo σ y = some (strv j) := by exact rfl) (he : i ++ j = l := by exact rfl) : Yv P n ds F σ o (strv l) := by
  intro a w e _
  subst he
  have q : (Op.stringOp .add ⟨i.toArray⟩ ⟨j.toArray⟩).run P w = .ok (.string ⟨(i ++ j).toArray⟩) w := by rw [run_string_add_sum w _ _ (by simp [ByteArray.size]; omega), ByteArray.mk_append_mk]
  unfold strv at hx hy ⊢
  simp [execOp, ho, e.eval hx, e.eval hy, eqGuard, binOp, q]
/-- a literal array -/
theorem Bda {t e : TypeId} {sz k : Nat} {zs vs cs : List Value} {parts : List (Nat × Operand)} (hz : zeroCs P t = some zs) (ht : arT P t = some (k, e, sz)) (ho : o.op = .build t parts.toArray := by exact rfl) (hv : evos σ (parts.map (·.2)) = some vs := by exact rfl)
    (hc : fillL (fun i => some (i * sz, sz)) zs ((parts.map (·.1)).zip vs) = some cs := by exact rfl) : Yv P n ds F σ o (.agg cs.toArray) :=
  fun ac w en fr => by
    have hp := evo_parts en hv
    obtain ⟨zv, hzr, hzc⟩ := zeroCs_spec hz (w := w)
    unfold arT at ht
    cases hu : P.underlying t with
    | none => simp [hu] at ht
    | some dsc =>
      cases dsc <;> simp [hu] at ht
      rename_i k' e'
      cases hi : P.info? e' with
      | none => simp [hi] at ht
      | some inf =>
        simp [hi] at ht
        obtain ⟨rfl, rfl, rfl⟩ := ht
        have hfill := fill_eq _ _ _ _ hc
        rw [← hp] at hfill
        simp [execOp, ho, Instr.build, hzr, run_underlying hu, sizeOf, typeInfo, hi, hzc, hfill]
end Go.Eng
