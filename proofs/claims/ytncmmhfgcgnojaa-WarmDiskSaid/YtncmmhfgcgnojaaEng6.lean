/- The engine, part 6: pointers against nil; lists of parts that are read. -/
import Derived.Test.YtncmmhfgcgnojaaEng5
import Derived.Laws.Pointers
namespace Go.Eng
open Go
section
variable {P : Program} {n : Nat} {ds : List Deferred} {F : Frm} {σ : Slots} {o : Oper}
theorem run_eqGuard_ptr {op : BinOp} {t : TypeId} {x y : Operand} {p q : Option Addr} {w : World} : (eqGuard op t x y (.pointer p) (.pointer q)).run P w = .ok () w := by
  unfold eqGuard; cases op <;> simp
theorem y_ptrNil {op : BinOp} {t yt e : TypeId} {x y : Operand} {p : Option Addr} {b : Bool} (ht : P.underlying t = some (.pointer e)) (ho : o.op = .binOp op t x y yt) (hx : evo σ x = some (.pointer p)) (hy : evo σ y = some (.pointer none))
    (hop : (op = .eql ∧ b = p.isNone) ∨ (op = .neq ∧ b = !p.isNone)) : Yv P n ds F σ o (.bool b) := by
  intro a w en _
  have hp : P.underlying t = some (.pointer (P.pointee t)) := by unfold Program.pointee; rw [ht]
  rcases hop with ⟨rfl, rfl⟩ | ⟨rfl, rfl⟩
  · simp only [execOp, ho, en.eval hx, en.eval hy, Sem.run_bind, run_eqGuard_ptr, run_eql_pointer_nil w t p hp, Result.andThen_ok, Sem.run_pure]
  · simp only [execOp, ho, en.eval hx, en.eval hy, Sem.run_bind, run_eqGuard_ptr, run_neq_pointer_nil w t p hp, Result.andThen_ok, Sem.run_pure]

-- a row of a literal text: its end is marked
theorem freeze_block (w : World) (b n : Nat) (cs : Array Value) (e : TypeId) (lo hi : Nat) (h : w.heap[b]? = some (.cells cs e (lo, hi))) :
    (w.freeze ⟨b, n, none⟩ 1).heap[b]? = some (.cells cs e (if lo == hi then (n, n + 1) else (min lo n, max hi (n + 1)))) := by
  simp [World.freeze, Array.getElem?_modify, h]
theorem freeze_other (w : World) (b n x : Nat) (h : x ≠ b) : (w.freeze ⟨b, n, none⟩ 1).heap[x]? = w.heap[x]? := by
  simp [World.freeze, Array.getElem?_modify, Ne.symm h]
theorem St.freeze {H : List HProp} {w : World} {b : Nat} {e : TypeId} {cs : List Value} (s : St F (pts b e cs :: H) w) :
    St F (pts b e cs :: H) (w.freeze ⟨b, cs.length, none⟩ 1) := by
  obtain ⟨a1, a2, a3, fr, h, ⟨h1, h2, d, l1, l2, ⟨lo, hi, hf, hb⟩, s⟩, y, z⟩ := s
  have hw : w.heap[b]? = some (.cells cs.toArray e (lo, hi)) := (l1.trans y) _ _ hb
  have hne : ∀ k : Hp, Disj h1 k → ∀ x o, k x = some o → x ≠ b := by
    intro k dk x o e hx; subst hx
    rcases dk x with q | q
    · rw [hb] at q; cases q
    · rw [e] at q; cases q
  have hold : ∀ k : Hp, Disj h1 k → Le k (hOf w) → Le k (hOf (w.freeze ⟨b, cs.length, none⟩ 1)) := by
    intro k dk lk x o e
    have := lk x o e
    unfold hOf at *
    rw [freeze_other w _ _ x (by exact hne k dk x o e)]
    exact this
  have dF : Disj h1 F.h := z.left l1
  let fz : Nat × Nat := if lo == hi then (cs.length, cs.length + 1) else (min lo cs.length, max hi (cs.length + 1))
  have hfz : fz.2 = fz.1 ∨ cs.length ≤ fz.1 := by
    right
    show cs.length ≤ (if lo == hi then (cs.length, cs.length + 1) else (min lo cs.length, max hi (cs.length + 1))).1
    split
    · exact Nat.le_refl _
    · rename_i hq
      have : lo ≠ hi := by simpa using hq
      simp only
      omega
  let h1' : Hp := fun x => if x = b then some (.cells cs.toArray e fz) else none
  have d2 : ∀ k : Hp, Disj h1 k → Disj h1' k := by
    intro k dk x
    by_cases hx : x = b
    · subst hx
      rcases dk x with q | q
      · rw [hb] at q; cases q
      · exact .inr q
    · exact .inl (by simp [h1', hx])
  have l1' : Le h1' (hOf (w.freeze ⟨b, cs.length, none⟩ 1)) := by
    intro x o e
    by_cases hx : x = b
    · subst hx
      simp only [h1', if_true] at e
      cases e
      have := freeze_block w x cs.length _ _ _ _ hw
      rw [hOf, this]
    · simp [h1', hx] at e
  refine ⟨a1, a2, a3, hold _ dF fr, uni h1' h2, ⟨h1', h2, d2 _ d, le_uni_left _ _, le_uni_right (d2 _ d), ⟨fz.1, fz.2, hfz, by simp [h1']⟩, s⟩,
    uni_le l1' (hold _ d (l2.trans y)), Disj.uni (d2 _ dF) (z.left l2)⟩
theorem op_mark {Q : Exit → Act → World → Prop} {K : Act → World → Prop} {H R : List HProp} {d : Nat} {t e e' : TypeId} {x : Operand} {b i l c : Nat} {cs : List Value} (ht : P.underlying t = some (.slice e)) (he : P.underlying e = some (.int .u8)) (ho : o.op = .convert t t x) (hd : o.dst = some d)
    (hx : evo σ x = some (.slice (some ⟨b, i, none⟩) l c)) (hs : Sel H (pts b e' cs) R) (hdn : Nat.blt d n = true)
    (h : G n ds F K ((d, .slice (some ⟨b, i, none⟩) l c) :: σ) (pts b e' cs :: R)) : G n ds F (fun a w => o.wp P a w K Q) σ H := by
  refine .mk fun a w en s => ?_
  have s1 := s.sel hs
  obtain ⟨hh, ⟨lo, hi, hf, hb⟩, hl⟩ := s1.get
  have hw : w.heap[b]? = some (.cells cs.toArray e' (lo, hi)) := hl _ _ hb
  have hsh : w.shape? b = some (e', cs.length) := by unfold World.shape?; rw [hw]; simp
  unfold Oper.wp
  have : (execOp a.eval o).run P w = .ok (.value (.slice (some ⟨b, i, none⟩) l c)) (w.freeze ⟨b, cs.length, none⟩ 1) := by
    simp [execOp, ho, en.eval hx, convert, run_underlying ht, run_underlying he, markStringish, hsh]
  rw [this, Oper.upon_value, hd]
  exact h _ _ (en.put hdn _) s1.freeze

/-- what the heap says -/
theorem g_fact {K : Act → World → Prop} {H : List HProp} {X : Prop} (hx : ∀ h, InL H h → X) (h : X → G n ds F K σ H) : G n ds F K σ H := .mk fun a w e s => by
  obtain ⟨hh, st, le, _⟩ := s.own
  exact h (hx (hOf w) (starL_InL st le)) a w e s
theorem InL.nth : ∀ {H : List HProp} {h : Hp} (i : Nat) {A : HProp}, InL H h → H[i]? = some A → ∃ k, A k ∧ Le k h := by
  intro H
  induction H with
  | nil => intro h i A _ e; simp at e
  | cons B r ih =>
    intro h i A hin e
    cases i with
    | zero => simp only [List.getElem?_cons_zero, Option.some.injEq] at e; subst e; exact hin.1
    | succ i => exact ih i hin.2 (by simpa using e)
theorem stars_in {L : List HProp} {h : Hp} (o : ∃ k, stars L k ∧ Le k h) : InL L h := by
  obtain ⟨k, p, l⟩ := o; exact starL_InL p l
theorem own_capb {h : Hp} {a : Option Addr} {cap e : Nat} {xs : List Value} (o : ∃ k, own a cap e 1 xs k ∧ Le k h) : xs.length ≤ cap := by
  obtain ⟨k, p, _⟩ := o; have := p.1; omega
theorem pts_in {h : Hp} {b e : Nat} {cs : List Value} (o : ∃ k, pts b e cs k ∧ Le k h) : Rdl h (some ⟨b, 0, none⟩) cs := by
  obtain ⟨k, p, l⟩ := o; have := (pts_rdl (i := 0) p).mono l; simpa using this
/-- a pure rule that leans on one's own heap -/
theorem op_yH {Q : Exit → Act → World → Prop} {K : Act → World → Prop} {H : List HProp} {d : Nat} {v : Value} (hd : o.dst = some d) (hdn : Nat.blt d n = true) (hy : ∀ h, InL H h → Le F.h h → Yv P n ds { F with h := h } σ o v)
    (h : G n ds F K ((d, v) :: σ) H) : G n ds F (fun a w => o.wp P a w K Q) σ H :=
  op_run hd hdn (fun a w en s => by
    obtain ⟨hh, st, le, _⟩ := s.own
    exact hy (hOf w) (starL_InL st le) s.frame a w en (Le.refl _)) h
/-- a literal of structs, its cells as the script says -/
theorem op_litK {Q : Exit → Act → World → Prop} {K : Act → World → Prop} {H : List HProp} {d : Nat} {t : TypeId} {e sz by' len : Nat} {z vs cs : List Value} {parts : List (Nat × Operand)} (ht : apT P t = some (e, sz, by', z)) (ho : o.op = .buildSlice t len parts.toArray) (hd : o.dst = some d) (hv : evos σ (parts.map (·.2)) = some vs)
    (hk : Nat.ble (len * sz) 16777216 = true) (hi : parts.map (·.1) = List.range' 0 vs.length) (hlen : vs.length = len) (hsz : (vs.all fun v => v.cells.size == sz) = true) (hc : (vs.flatMap fun v => v.cells.toList) = cs) (hdn : Nat.blt d n = true)
    (h : ∀ b, G n ds F K ((d, .slice (some ⟨b, 0, none⟩) len len) :: σ) (pts b e cs :: H)) : G n ds F (fun a w => o.wp P a w K Q) σ H :=
  op_litF ht ho hd hv hk hi hlen (fun v hv => by have := List.all_eq_true.1 hsz v hv; simpa using this) hc hdn h
theorem FnS.imp {f : FuncId} {args : List Value} {pre pre' : Hp → Prop} {H : List HProp} {R R' : Value → List HProp → Prop} (h : FnS P f args pre H R) (hp : ∀ k, pre' k → pre k) (hr : ∀ v H', R v H' → R' v H') : FnS P f args pre' H R' := by
  intro F w p s
  refine (h F w (hp _ p) s).mono fun e w' hh => ?_
  obtain ⟨v, H', he, r, st⟩ := hh
  exact ⟨v, H', he, hr _ _ r, st⟩
end
end Go.Eng
