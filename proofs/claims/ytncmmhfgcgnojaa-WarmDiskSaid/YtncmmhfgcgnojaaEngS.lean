/- The engine: what the disk needs besides. -/
import Derived.Test.YtncmmhfgcgnojaaTypes2
import Derived.Test.YtncmmhfgcgnojaaEngR2
namespace Go.Eng
open Go
section
variable {P : Program} {n : Nat} {ds : List Deferred} {F : Frm} {Q : Exit → Act → World → Prop} {K : Act → World → Prop} {σ : Slots} {H : List HProp} {o : Oper} {d : Nat}
/-- bytes, less -/
def bl (x y : List UInt8) : Bool := Op.bytesLess x y
theorem Slt {t yt : TypeId} {x y : Operand} {i j : List UInt8} (ho : o.op = .binOp .lss t x y yt := by exact rfl) (hx : evo σ x = some (strv i) := by exact rfl) (hy : evo σ y = some (strv j) := by exact rfl) : Yv P n ds F σ o (.bool (bl i j)) := by
  intro a w e _
  unfold strv at hx hy
  have h1 : ∀ l : List UInt8, (ByteArray.mk l.toArray).toList = l := fun l => by rw [ByteArray.toList_eq]
  simp [execOp, ho, e.eval hx, e.eval hy, eqGuard, binOp, Op.stringOp, h1, bl]
/-- a map held against nil -/
theorem Mq0 {op : BinOp} {t k e yt : TypeId} {dd : TypeDesc} {z : Value} {x : Operand} {m : Nat} {b : Bool} (ht : mapT P t = some (k, dd, e, z)) (ho : o.op = .binOp op t x (.const (.map none)) yt := by exact rfl) (hx : evo σ x = some (.map (some m)) := by exact rfl)
    (hop : (op = .eql ∧ b = false) ∨ (op = .neq ∧ b = true) := by first | exact .inl ⟨rfl, rfl⟩ | exact .inr ⟨rfl, rfl⟩) : Yv P n ds F σ o (.bool b) := fun a w en _ => by
  obtain ⟨hu1, _, _, _, _⟩ := mapT_spec ht
  have hc : a.eval (.const (.map none)) = .map none := rfl
  have q : (Op.equalIn 10000 t (.map (some m)) (.map none)).run P w = .ok false w := by
    unfold Op.equalIn
    simp [run_underlying hu1]
  rcases hop with ⟨rfl, rfl⟩ | ⟨rfl, rfl⟩ <;> simp [execOp, ho, en.eval hx, hc, eqGuard, binOp, Op.equal, Op.maxDepth, q]
end
end Go.Eng
