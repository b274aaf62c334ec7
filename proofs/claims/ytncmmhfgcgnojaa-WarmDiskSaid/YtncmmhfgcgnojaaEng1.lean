/- The engine, part 1: assertions on heaps (a list of separate parts and a frame), facts on slots, and the rules for code. -/
import Derived.WalkKit
namespace Go.Eng
open Go

abbrev Hp := Nat → Option Obj
abbrev HProp := Hp → Prop
abbrev Slots := List (Nat × Value)

def Le (h k : Hp) : Prop := ∀ b o, h b = some o → k b = some o
def Disj (h k : Hp) : Prop := ∀ b, h b = none ∨ k b = none
theorem Le.refl (h : Hp) : Le h h := fun _ _ e => e
theorem Le.trans {h k l : Hp} (a : Le h k) (b : Le k l) : Le h l := fun x o e => b x o (a x o e)
theorem Disj.symm {h k : Hp} (d : Disj h k) : Disj k h := fun b => (d b).symm
theorem Disj.left {h h' k : Hp} (d : Disj h k) (l : Le h' h) : Disj h' k := fun b => by
  cases e : h' b with
  | none => exact .inl rfl
  | some o => exact (d b).imp (fun x => by rw [l b o e] at x; cases x) id
theorem Disj.right {h k k' : Hp} (d : Disj h k) (l : Le k' k) : Disj h k' := (d.symm.left l).symm

/-- Separate parts, one a proposition; what is beside them does not count. -/
def starL : List HProp → Hp → Prop
  | [], _ => True
  | A :: r, h => ∃ h1 h2, Disj h1 h2 ∧ Le h1 h ∧ Le h2 h ∧ A h1 ∧ starL r h2

structure Frm where
  os : Os
  tape : Nat → Question → Nat
  output : Array (Nat × ByteArray)
  h : Hp

def hOf (w : World) : Hp := fun b => w.heap[b]?

structure St (F : Frm) (H : List HProp) (w : World) : Prop where
  os : w.os = F.os
  tape : w.tape = F.tape
  output : w.output = F.output
  frame : Le F.h (hOf w)
  own : ∃ h, starL H h ∧ Le h (hOf w) ∧ Disj h F.h

theorem starL_mono {H : List HProp} {h k : Hp} (s : starL H h) (l : Le h k) : starL H k := by
  cases H with
  | nil => trivial
  | cons A r => obtain ⟨h1, h2, d, l1, l2, a, s⟩ := s; exact ⟨h1, h2, d, l1.trans l, l2.trans l, a, s⟩

def uni (h k : Hp) : Hp := fun b => match h b with | some o => some o | none => k b
theorem le_uni_left (h k : Hp) : Le h (uni h k) := fun b o e => by simp [uni, e]
theorem le_uni_right {h k : Hp} (d : Disj h k) : Le k (uni h k) := fun b o e => by
  have : h b = none := (d b).resolve_right (by simp [e])
  simp [uni, this, e]
theorem uni_le {h k l : Hp} (a : Le h l) (b : Le k l) : Le (uni h k) l := fun x o e => by
  unfold uni at e
  cases hx : h x with
  | some o' => rw [hx] at e; cases e; exact a x _ hx
  | none => rw [hx] at e; exact b x o e
theorem Disj.uni {h k l : Hp} (a : Disj h l) (b : Disj k l) : Disj (uni h k) l := fun x => by
  rcases a x with e | e
  · rcases b x with e2 | e2
    · exact .inl (by simp [Eng.uni, e, e2])
    · exact .inr e2
  · exact .inr e

theorem starL_swap {A B : HProp} {R : List HProp} {h : Hp} (s : starL (A :: B :: R) h) : starL (B :: A :: R) h := by
  obtain ⟨h1, h2, d, l1, l2, a, h3, h4, d', l3, l4, b, s⟩ := s
  refine ⟨h3, uni h1 h4, ?_, l3.trans l2, uni_le l1 (l4.trans l2), b, h1, h4, d.right l4, le_uni_left _ _, le_uni_right (d.right l4), a, s⟩
  exact (Disj.uni (d.right l3) d'.symm).symm

/-- One part is taken out. -/
inductive Sel : List HProp → HProp → List HProp → Prop
  | here {A r} : Sel (A :: r) A r
  | there {A B r r'} (h : Sel r A r') : Sel (B :: r) A (B :: r')

theorem starL_tail {A : HProp} {R R' : List HProp} (f : ∀ h, starL R h → starL R' h) {h : Hp} (s : starL (A :: R) h) : starL (A :: R') h := by
  obtain ⟨h1, h2, d, l1, l2, a, s⟩ := s
  exact ⟨h1, h2, d, l1, l2, a, f _ s⟩

theorem Sel.out {H : List HProp} {A : HProp} {R : List HProp} (s : Sel H A R) : ∀ h, starL H h → starL (A :: R) h := by
  induction s with
  | here => exact fun h x => x
  | there _ ih => exact fun h x => starL_swap (starL_tail ih x)
theorem Sel.back {H : List HProp} {A : HProp} {R : List HProp} (s : Sel H A R) : ∀ h, starL (A :: R) h → starL H h := by
  induction s with
  | here => exact fun h x => x
  | there _ ih => exact fun h x => starL_tail ih (starL_swap x)

/-- The place of a part: what the list is with another one there. -/
inductive Pos : List HProp → HProp → (HProp → List HProp) → Prop
  | here {A r} : Pos (A :: r) A (fun B => B :: r)
  | there {A C r f} (h : Pos r A f) : Pos (C :: r) A (fun B => C :: f B)

theorem Pos.sel {H : List HProp} {A : HProp} {f : HProp → List HProp} (u : Pos H A f) : ∃ R, Sel H A R ∧ ∀ B, Sel (f B) B R := by
  induction u with
  | here => exact ⟨_, .here, fun _ => .here⟩
  | there _ ih => obtain ⟨R, a, b⟩ := ih; exact ⟨_, a.there, fun B => (b B).there⟩

theorem St.sub {F : Frm} {H H' : List HProp} {w : World} (f : ∀ h, starL H h → starL H' h) (s : St F H w) : St F H' w := by
  obtain ⟨a, b, c, d, h, x, y, z⟩ := s
  exact ⟨a, b, c, d, h, f _ x, y, z⟩
theorem St.sel {F : Frm} {H R : List HProp} {A : HProp} {w : World} (s : Sel H A R) (h : St F H w) : St F (A :: R) w := h.sub s.out
theorem St.unsel {F : Frm} {H R : List HProp} {A : HProp} {w : World} (s : Sel H A R) (h : St F (A :: R) w) : St F H w := h.sub s.back
theorem starL_cons_mono {A B : HProp} {R : List HProp} (f : ∀ h, A h → B h) {h : Hp} (s : starL (A :: R) h) : starL (B :: R) h := by
  obtain ⟨h1, h2, d, l1, l2, a, s⟩ := s
  exact ⟨h1, h2, d, l1, l2, f _ a, s⟩
theorem St.drop {F : Frm} {H : List HProp} {A : HProp} {w : World} (s : St F (A :: H) w) : St F H w :=
  s.sub fun _ x => by obtain ⟨_, _, _, _, l2, _, s⟩ := x; exact starL_mono s l2

/-- A part and what it holds. -/
theorem St.get {F : Frm} {H : List HProp} {A : HProp} {w : World} (s : St F (A :: H) w) : ∃ h, A h ∧ Le h (hOf w) := by
  obtain ⟨_, _, _, _, h, ⟨h1, h2, d, l1, l2, a, s⟩, y, z⟩ := s
  exact ⟨h1, a, l1.trans y⟩

-- cells
def hcell (h : Hp) (a : Addr) : Option Value :=
  match h a.block with
  | some (.cells c _ _) => if a.spot.isSome then none else c[a.off]?
  | _ => none
theorem cell_hOf (w : World) (a : Addr) : w.cell? a = hcell (hOf w) a := rfl
theorem hcell_mono {h k : Hp} (l : Le h k) {a : Addr} {v : Value} (e : hcell h a = some v) : hcell k a = some v := by
  unfold hcell at *
  cases x : h a.block with
  | none => simp [x] at e
  | some o => rw [l _ _ x]; rw [x] at e; exact e
theorem hcell_at {h : Hp} {w : World} (l : Le h (hOf w)) {a : Addr} {v : Value} (e : hcell h a = some v) : w.cell? a = some v := hcell_mono l e

/-- A block of the call's own: its cells. -/
inductive pts (b : Nat) (e : TypeId) (cs : List Value) (h : Hp) : Prop
  | mk (lo hi : Nat) (hf : hi = lo ∨ cs.length ≤ lo) (hb : h b = some (.cells cs.toArray e (lo, hi)))

theorem pts_cell {b : Nat} {e : TypeId} {cs : List Value} {h : Hp} (p : pts b e cs h) {i : Nat} {v : Value} (hv : cs[i]? = some v) : hcell h ⟨b, i, none⟩ = some v := by
  obtain ⟨lo, hi, _, hb⟩ := p
  simp [hcell, hb, hv]
theorem pts_free {b : Nat} {e : TypeId} {cs : List Value} {h : Hp} (p : pts b e cs h) {i : Nat} (hi : i < cs.length) {w : World} (l : Le h (hOf w)) : w.frozen? ⟨b, i, none⟩ = false := by
  obtain ⟨lo, hi', hf, hb⟩ := p
  have : w.heap[b]? = some (.cells cs.toArray e (lo, hi')) := l _ _ hb
  simp only [World.frozen?, this]
  simp only [Bool.and_eq_false_iff, decide_eq_false_iff_not]
  omega

theorem setCell_block (w : World) (b i : Nat) (v : Value) (cs : Array Value) (e : TypeId) (fz : Nat × Nat) (h : w.heap[b]? = some (.cells cs e fz)) :
    (w.setCell ⟨b, i, none⟩ v).heap[b]? = some (.cells (cs.setIfInBounds i v) e fz) := by
  obtain ⟨hlt, h'⟩ := Array.getElem?_eq_some_iff.1 h
  simp [World.setCell, Array.getElem?_modify, h]

theorem St.setCell {F : Frm} {H : List HProp} {w : World} {b i : Nat} {e : TypeId} {cs : List Value} (s : St F (pts b e cs :: H) w) (v : Value) :
    St F (pts b e (cs.set i v) :: H) (w.setCell ⟨b, i, none⟩ v) := by
  obtain ⟨a1, a2, a3, fr, h, ⟨h1, h2, d, l1, l2, ⟨lo, hi, hf, hb⟩, s⟩, y, z⟩ := s
  have hw : w.heap[b]? = some (.cells cs.toArray e (lo, hi)) := (l1.trans y) _ _ hb
  have hne : ∀ k : Hp, Disj h1 k → ∀ x o, k x = some o → x ≠ b := by
    intro k dk x o e hx; subst hx
    rcases dk x with q | q
    · rw [hb] at q; cases q
    · rw [e] at q; cases q
  have hold : ∀ k : Hp, Disj h1 k → Le k (hOf w) → Le k (hOf (w.setCell ⟨b, i, none⟩ v)) := by
    intro k dk lk x o e
    have := lk x o e
    unfold hOf at *
    rw [RowKit.Below.heap_setCell w _ v x (by exact hne k dk x o e)]
    exact this
  have dF : Disj h1 F.h := z.left l1
  let h1' : Hp := fun x => if x = b then some (.cells (cs.set i v).toArray e (lo, hi)) else none
  have d2 : ∀ k : Hp, Disj h1 k → Disj h1' k := by
    intro k dk x
    by_cases hx : x = b
    · subst hx
      rcases dk x with q | q
      · rw [hb] at q; cases q
      · exact .inr q
    · exact .inl (by simp [h1', hx])
  have l1' : Le h1' (hOf (w.setCell ⟨b, i, none⟩ v)) := by
    intro x o e
    by_cases hx : x = b
    · subst hx
      simp only [h1', if_true] at e
      cases e
      have := setCell_block w x i v _ _ _ hw
      rw [hOf, this]; simp
    · simp [h1', hx] at e
  refine ⟨a1, a2, a3, hold _ dF fr, uni h1' h2, ⟨h1', h2, d2 _ d, le_uni_left _ _, le_uni_right (d2 _ d), ⟨lo, hi, by simpa using hf, by simp [h1']⟩, s⟩,
    uni_le l1' (hold _ d (l2.trans y)), Disj.uni (d2 _ dF) (z.left l2)⟩

theorem St.new {F : Frm} {H : List HProp} {w : World} (s : St F H w) (e : TypeId) (cs : List Value) :
    St F (pts w.heap.size e cs :: H) (w.alloc (.cells cs.toArray e)) := by
  obtain ⟨a1, a2, a3, fr, h, s, y, z⟩ := s
  have hold : ∀ k : Hp, Le k (hOf w) → Le k (hOf (w.alloc (.cells cs.toArray e))) := by
    intro k lk x o ex
    have hx := lk x o ex
    unfold hOf at *
    rw [RowKit.Below.heap_alloc w _ x (Array.getElem?_eq_some_iff.1 hx).1]
    exact hx
  let h1 : Hp := fun x => if x = w.heap.size then some (.cells cs.toArray e) else none
  have dk : ∀ k : Hp, Le k (hOf w) → Disj h1 k := by
    intro k lk x
    by_cases hx : x = w.heap.size
    · right
      cases q : k x with
      | none => rfl
      | some o =>
        have := lk x o q
        unfold hOf at this
        have := (Array.getElem?_eq_some_iff.1 this).1
        omega
    · exact .inl (by simp [h1, hx])
  refine ⟨a1, a2, a3, hold _ fr, uni h1 h, ⟨h1, h, dk _ y, le_uni_left _ _, le_uni_right (dk _ y), ⟨0, 0, .inl rfl, by simp [h1]⟩, s⟩, uni_le ?_ (hold _ y), Disj.uni (dk _ fr) z⟩
  intro x o ex
  by_cases hx : x = w.heap.size
  · subst hx; simp only [h1, if_true] at ex; cases ex; exact heap_alloc_new w _
  · simp [h1, hx] at ex
theorem St.drew {F : Frm} {H : List HProp} {w : World} (s : St F H w) : St F H w.drew := ⟨s.os, s.tape, s.output, s.frame, s.own⟩
theorem St.drawn {F : Frm} {H : List HProp} {w : World} (s : St F H w) (n : Nat) : St F H { w with drawn := n } := ⟨s.os, s.tape, s.output, s.frame, s.own⟩

-- slots
def look : Slots → Nat → Option Value
  | [], _ => none
  | (k, v) :: r, t => match Nat.beq k t with | true => some v | false => look r t
def evo (σ : Slots) : Operand → Option Value
  | .tmp t => look σ t
  | .const v => some v
  | .global g => some (.pointer (some ⟨g, 0, none⟩))
  | .func f => some (.func (.func f) #[] #[])
def evos (σ : Slots) : List Operand → Option (List Value)
  | [] => some []
  | x :: r => match evo σ x, evos σ r with | some v, some vs => some (v :: vs) | _, _ => none

structure Env (n : Nat) (ds : List Deferred) (σ : Slots) (a : Act) : Prop where
  size : a.tmps.size = n
  defers : a.defers = ds
  slot : ∀ t v, look σ t = some v → a.tmps[t]? = some v

def Subs : Slots → Slots → Prop
  | [], _ => True
  | (t, v) :: r, σ => look σ t = some v ∧ Subs r σ
theorem Subs.look {S σ : Slots} (h : Subs S σ) : ∀ t v, look S t = some v → look σ t = some v := by
  induction S with
  | nil => intro t v e; simp [Eng.look] at e
  | cons p r ih =>
    obtain ⟨k, u⟩ := p
    intro t v e
    simp only [Eng.look] at e
    cases hb : Nat.beq k t with
    | true => rw [hb] at e; cases e; rw [← Nat.eq_of_beq_eq_true hb]; exact h.1
    | false => rw [hb] at e; exact ih h.2 t v e
theorem Env.sub {n : Nat} {ds : List Deferred} {S σ : Slots} {a : Act} (e : Env n ds σ a) (h : Subs S σ) : Env n ds S a :=
  ⟨e.size, e.defers, fun t v hv => e.slot t v (h.look t v hv)⟩
theorem Env.eval {n : Nat} {ds : List Deferred} {σ : Slots} {a : Act} (e : Env n ds σ a) {x : Operand} {v : Value} (h : evo σ x = some v) : a.eval x = v := by
  cases x with
  | tmp t => simp [Act.eval, e.slot t v h]
  | const u => simpa [evo, Act.eval] using h
  | global g => simpa [evo, Act.eval] using h
  | func f => simpa [evo, Act.eval] using h
theorem Env.evals {n : Nat} {ds : List Deferred} {σ : Slots} {a : Act} (e : Env n ds σ a) : ∀ {xs : List Operand} {vs : List Value}, evos σ xs = some vs → xs.map a.eval = vs := by
  intro xs
  induction xs with
  | nil => intro vs h; simp [evos] at h; simp [← h]
  | cons x r ih =>
    intro vs h
    simp only [evos] at h
    cases h1 : evo σ x with
    | none => simp [h1] at h
    | some v =>
      cases h2 : evos σ r with
      | none => simp [h1, h2] at h
      | some us =>
        simp only [h1, h2, Option.some.injEq] at h
        rw [← h, List.map_cons, e.eval h1, ih h2]
theorem Env.put {n : Nat} {ds : List Deferred} {σ : Slots} {a : Act} (e : Env n ds σ a) {d : Nat} (hd : Nat.blt d n = true) (v : Value) : Env n ds ((d, v) :: σ) (a.put (some d) v) := by
  have hdn : d < a.tmps.size := by rw [e.size]; exact Nat.le_of_ble_eq_true hd
  refine ⟨by simp [Act.put, e.size], by simp [Act.put, e.defers], fun t u h => ?_⟩
  simp only [look] at h
  cases hb : Nat.beq d t with
  | true =>
    rw [hb] at h; cases h
    have := Nat.eq_of_beq_eq_true hb; subst this
    simp [Act.put, hdn]
  | false =>
    rw [hb] at h
    have hne : d ≠ t := by intro q; subst q; simp at hb
    simp [Act.put, Array.getElem?_setIfInBounds_ne hne, e.slot t u h]
theorem Env.put_none {n : Nat} {ds : List Deferred} {σ : Slots} {a : Act} (e : Env n ds σ a) (v : Value) : Env n ds σ (a.put none v) := e

/-- THE judgement: in whatever frame and world these facts hold, K. -/
structure G (n : Nat) (ds : List Deferred) (F : Frm) (K : Act → World → Prop) (σ : Slots) (H : List HProp) : Prop where
  run : ∀ a w, Env n ds σ a → St F H w → K a w
instance {n : Nat} {ds : List Deferred} {F : Frm} {K : Act → World → Prop} {σ : Slots} {H : List HProp} : CoeFun (G n ds F K σ H) (fun _ => ∀ a w, Env n ds σ a → St F H w → K a w) := ⟨G.run⟩

section rules
variable {P : Program} {n : Nat} {ds : List Deferred} {F : Frm} {Q : Exit → Act → World → Prop} {σ : Slots} {H : List HProp}

theorem g_seq {x y : Code} (h : G n ds F (x.wp P (Exit.then (y.wp P Q) Q)) σ H) : G n ds F ((Code.seq x y).wp P Q) σ H :=
  .mk fun a w e s => wp_seq (h a w e s)
theorem g_skip (h : G n ds F (Q .normal) σ H) : G n ds F (Code.skip.wp P Q) σ H := .mk fun a w e s => wp_skip (h a w e s)
theorem g_ret (h : G n ds F (Q .ret) σ H) : G n ds F (Code.ret.wp P Q) σ H := .mk fun a w e s => wp_ret (h a w e s)
theorem g_exit {id : Nat} (h : G n ds F (Q (.exit id)) σ H) : G n ds F ((Code.exit id).wp P Q) σ H := .mk fun a w e s => wp_exit (h a w e s)
theorem g_block {id : Nat} {c : Code} (h : G n ds F (c.wp P (Exit.inBlock id Q)) σ H) : G n ds F ((Code.block id c).wp P Q) σ H := .mk fun a w e s => wp_block (h a w e s)
theorem g_cond {c : Operand} {x y : Code} {b : Bool} (hc : evo σ c = some (.bool b)) (ht : b = true → G n ds F (x.wp P Q) σ H) (hf : b = false → G n ds F (y.wp P Q) σ H) :
    G n ds F ((Code.cond c x y).wp P Q) σ H :=
  .mk fun a w e s => wp_cond_split (e.eval hc) (fun hb => ht hb a w e s) (fun hb => hf hb a w e s)
theorem g_cond_t {c : Operand} {x y : Code} {b : Bool} (hc : evo σ c = some (.bool b)) (hb : b = true) (ht : G n ds F (x.wp P Q) σ H) :
    G n ds F ((Code.cond c x y).wp P Q) σ H := g_cond hc (fun _ => ht) (fun h => by rw [hb] at h; cases h)
theorem g_cond_f {c : Operand} {x y : Code} {b : Bool} (hc : evo σ c = some (.bool b)) (hb : b = false) (ht : G n ds F (y.wp P Q) σ H) :
    G n ds F ((Code.cond c x y).wp P Q) σ H := g_cond hc (fun h => by rw [hb] at h; cases h) (fun _ => ht)
-- how a piece ends
theorem e_then {K : Act → World → Prop} (h : G n ds F K σ H) : G n ds F (Exit.then K Q .normal) σ H := h
theorem e_then_ret {K : Act → World → Prop} (h : G n ds F (Q .ret) σ H) : G n ds F (Exit.then K Q .ret) σ H := h
theorem e_then_exit {K : Act → World → Prop} {id : Nat} (h : G n ds F (Q (.exit id)) σ H) : G n ds F (Exit.then K Q (.exit id)) σ H := h
theorem e_block {id : Nat} (h : G n ds F (Q .normal) σ H) : G n ds F (Exit.inBlock id Q .normal) σ H := h
theorem e_block_ret {id : Nat} (h : G n ds F (Q .ret) σ H) : G n ds F (Exit.inBlock id Q .ret) σ H := h
theorem e_block_hit {id : Nat} (h : G n ds F (Q .normal) σ H) : G n ds F (Exit.inBlock id Q (.exit id)) σ H := .mk fun a w e s => by
  simpa [Exit.inBlock] using h a w e s
theorem e_block_miss {id id' : Nat} (hne : Nat.beq id' id = false) (h : G n ds F (Q (.exit id')) σ H) : G n ds F (Exit.inBlock id Q (.exit id')) σ H := .mk fun a w e s => by
  have : id' ≠ id := by intro q; subst q; simp at hne
  simpa [Exit.inBlock, this] using h a w e s

theorem g_mono {K K' : Act → World → Prop} (f : ∀ a w, K a w → K' a w) (h : G n ds F K σ H) : G n ds F K' σ H := .mk fun a w e s => f a w (h a w e s)
theorem g_weak {K : Act → World → Prop} {S : Slots} {H' : List HProp} (hs : Subs S σ) (hh : ∀ h, starL H h → starL H' h) (h : G n ds F K S H') : G n ds F K σ H :=
  .mk fun a w e s => h a w (e.sub hs) (s.sub hh)
theorem g_sub {K : Act → World → Prop} (S : Slots) (hs : Subs S σ) (h : G n ds F K S H) : G n ds F K σ H := g_weak hs (fun _ x => x) h
theorem g_heap {K : Act → World → Prop} {H' : List HProp} (hh : ∀ h, starL H h → starL H' h) (h : G n ds F K σ H') : G n ds F K σ H :=
  .mk fun a w e s => h a w e (s.sub hh)

/-- A loop: a ghost i tells the slots and the heap at each round's head. -/
theorem g_loop {ι : Type} {c : Code} (S : ι → Slots) (HI : ι → List HProp) (μ : ι → Nat) (i₀ : ι) (hs : Subs (S i₀) σ) (hh : ∀ h, starL H h → starL (HI i₀) h)
    (round : ∀ i, G n ds F (c.wp P (Exit.then (fun a w => ∃ j, μ j < μ i ∧ Env n ds (S j) a ∧ St F (HI j) w) Q)) (S i) (HI i)) : G n ds F ((Code.loop c).wp P Q) σ H := by
  refine .mk fun a w e s b k cs => ?_
  have key : ∀ m i a w, μ i = m → Env n ds (S i) a → St F (HI i) w →
      ∃ e a' w', Q e a' w' ∧ Arrives P (lone (b.at a (.code c :: .inLoop c :: k)) cs w) b k cs e a' w' := by
    intro m
    induction m using Nat.strongRecOn with
    | _ m ih =>
      intro i a w hm he hst
      obtain ⟨e, a₁, w₁, hq, harr⟩ := round i a w he hst b (.inLoop c :: k) cs
      cases e with
      | normal =>
        obtain ⟨j, hlt, he₁, hs₁⟩ := hq
        obtain ⟨e₂, a₂, w₂, hq₂, harr₂⟩ := ih (μ j) (hm ▸ hlt) j a₁ w₁ rfl he₁ hs₁
        exact ⟨e₂, a₂, w₂, hq₂, .of_steps (Steps.trans harr (.one step_inLoop)) harr₂⟩
      | exit id => exact ⟨_, a₁, w₁, hq, .pass (x := .inLoop c) rfl (fun _ _ => .inl (by simp)) harr⟩
      | goto l => exact ⟨_, a₁, w₁, hq, .pass (x := .inLoop c) rfl (fun _ _ => .inl (by simp)) harr⟩
      | ret => exact ⟨_, a₁, w₁, hq, .pass (x := .inLoop c) rfl (fun _ _ => .inl (by simp)) harr⟩
      | panic ch => exact ⟨_, a₁, w₁, hq, .pass (x := .inLoop c) rfl (fun _ _ => .inl (by simp)) harr⟩
      | outgrown => exact ⟨_, a₁, w₁, hq, .pass (x := .inLoop c) rfl (fun _ _ => .inl (by simp)) harr⟩
  obtain ⟨e', a', w', hq, harr⟩ := key _ i₀ a w rfl (e.sub hs) (s.sub hh)
  exact ⟨e', a', w', hq, .of_steps (.one step_loop) harr⟩

theorem e_round {ι : Type} {S : ι → Slots} {HI : ι → List HProp} {μ : ι → Nat} {i : ι} (j : ι) (hm : μ j < μ i) (hs : Subs (S j) σ) (hh : ∀ h, starL H h → starL (HI j) h) :
    G n ds F (Exit.then (fun a w => ∃ j, μ j < μ i ∧ Env n ds (S j) a ∧ St F (HI j) w) Q .normal) σ H :=
  .mk fun _ _ e s => ⟨j, hm, e.sub hs, s.sub hh⟩

-- a region in the text's order
theorem g_region {id : Nat} {l : List Oper} (h : G n ds F (wpList P l.toArray Q l) σ H) : G n ds F ((Code.region id l.toArray false).wp P Q) σ H :=
  .mk fun a w e s => wp_region_lit (h a w e s)
theorem g_nil {ops : Array Oper} (h : G n ds F (Q .normal) σ H) : G n ds F (wpList P ops Q []) σ H := h
theorem g_op {ops : Array Oper} {o : Oper} {rest : List Oper} (hg : o.guard = none) (h : G n ds F (fun a w => o.wp P a w (wpList P ops Q rest) Q) σ H) : G n ds F (wpList P ops Q (o :: rest)) σ H :=
  .mk fun a w e s => wpList_plain hg fun K hK => Oper.wp_mono hK (h a w e s)
theorem yielded_of {ops : Array Oper} {j t : Nat} {b : Bool} {a : Act} (hj : (ops[j]?).bind (·.dst) = some t) (ht : look σ t = some (.bool b)) (e : Env n ds σ a) : yielded ops a.tmps j = some b := by
  simp [yielded, hj, e.slot t _ ht]
theorem g_yes {ops : Array Oper} {o : Oper} {rest : List Oper} {j t : Nat} {b c : Bool} (hg : o.guard = some (j, b)) (hj : (ops[j]?).bind (·.dst) = some t) (ht : look σ t = some (.bool c)) (hc : c = b)
    (h : G n ds F (fun a w => o.wp P a w (wpList P ops Q rest) Q) σ H) : G n ds F (wpList P ops Q (o :: rest)) σ H :=
  .mk fun a w e s => wpList_step fun K hK => by
    rw [if_pos (by simp [Region.wanted, hg, yielded_of hj ht e, hc])]
    exact Oper.wp_mono hK (h a w e s)
theorem g_no {ops : Array Oper} {o : Oper} {rest : List Oper} {j t d : Nat} {b c : Bool} (hg : o.guard = some (j, b)) (hj : (ops[j]?).bind (·.dst) = some t) (ht : look σ t = some (.bool c)) (hc : c = !b)
    (hd : o.dst = some d) (hdn : Nat.blt d n = true) (h : G n ds F (wpList P ops Q rest) ((d, undef) :: σ) H) : G n ds F (wpList P ops Q (o :: rest)) σ H :=
  .mk fun a w e s => wpList_step fun K hK => by
    rw [if_neg (by simp [Region.wanted, hg, yielded_of hj ht e, hc])]
    rw [hd]
    exact hK _ _ (h _ w (e.put hdn undef) s)
theorem g_no' {ops : Array Oper} {o : Oper} {rest : List Oper} {j t : Nat} {b c : Bool} (hg : o.guard = some (j, b)) (hj : (ops[j]?).bind (·.dst) = some t) (ht : look σ t = some (.bool c)) (hc : c = !b)
    (hd : o.dst = none) (h : G n ds F (wpList P ops Q rest) σ H) : G n ds F (wpList P ops Q (o :: rest)) σ H :=
  .mk fun a w e s => wpList_step fun K hK => by
    rw [if_neg (by simp [Region.wanted, hg, yielded_of hj ht e, hc])]
    rw [hd]
    exact hK _ _ (h _ w e s)

theorem yielded_undef {ops : Array Oper} {j t : Nat} {a : Act} (hj : (ops[j]?).bind (·.dst) = some t) (ht : look σ t = some undef) (e : Env n ds σ a) : yielded ops a.tmps j = none := by
  simp [yielded, hj, e.slot t _ ht, undef]
/-- a guard that was itself passed over -/
theorem g_nou {ops : Array Oper} {o : Oper} {rest : List Oper} {j t d : Nat} {b : Bool} (hg : o.guard = some (j, b)) (hj : (ops[j]?).bind (·.dst) = some t) (ht : look σ t = some undef)
    (hd : o.dst = some d) (hdn : Nat.blt d n = true) (h : G n ds F (wpList P ops Q rest) ((d, undef) :: σ) H) : G n ds F (wpList P ops Q (o :: rest)) σ H :=
  .mk fun a w e s => wpList_step fun K hK => by
    rw [if_neg (by simp [Region.wanted, hg, yielded_undef hj ht e])]
    rw [hd]
    exact hK _ _ (h _ w (e.put hdn undef) s)

/-- A contract: in a frame of which 'pre' holds, with these parts. -/
def FnS (P : Program) (f : FuncId) (args : List Value) (pre : Hp → Prop) (H : List HProp) (R : Value → List HProp → Prop) : Prop :=
  ∀ F w, pre F.h → St F H w → Calls P f args.toArray w fun e w' => ∃ v H', e = .returned v ∧ R v H' ∧ St F H' w'

def slots0 : Nat → List Value → Slots
  | _, [] => []
  | k, v :: r => (k, v) :: slots0 (k + 1) r
theorem look_slots0 : ∀ (l : List Value) (k t : Nat) (v : Value), look (slots0 k l) t = some v → k ≤ t ∧ l[t - k]? = some v := by
  intro l
  induction l with
  | nil => intro k t v h; simp [slots0, look] at h
  | cons x r ih =>
    intro k t v h
    simp only [slots0, look] at h
    cases hb : Nat.beq k t with
    | true => rw [hb] at h; cases h; have := Nat.eq_of_beq_eq_true hb; subst this; simp
    | false =>
      rw [hb] at h
      obtain ⟨h1, h2⟩ := ih _ _ _ h
      refine ⟨by omega, ?_⟩
      rw [show t - k = (t - (k + 1)) + 1 from by omega]
      simpa using h2
theorem env0 (args : List Value) (n : Nat) (hn : args.length ≤ n) : Env n [] (slots0 0 args) { tmps := args.toArray ++ Array.replicate (n - args.toArray.size) undef, defers := [] } := by
  refine ⟨by simp; omega, rfl, fun t v h => ?_⟩
  obtain ⟨_, h2⟩ := look_slots0 _ _ _ _ h
  have hlt : t < args.length := by
    rcases Nat.lt_or_ge t args.length with q | q
    · exact q
    · rw [List.getElem?_eq_none (show args.length ≤ t - 0 from by omega)] at h2; cases h2
  simp only [Nat.sub_zero] at h2
  rw [Array.getElem?_append_left (by simpa using hlt)]
  simpa using h2

/-- A body against its contract. -/
theorem fn_body {f : FuncId} {fn : Func} {c : Code} {args : List Value} {pre : Hp → Prop} {R : Value → List HProp → Prop} {m : Nat} (hf : P.funcs[f]? = some fn) (hb : fn.body = some c) (hm : fn.ntmps = m) (hn : Nat.ble args.length m = true)
    (h : ∀ F : Frm, pre F.h → G m [] F (c.wp P (bodyPost P fn fun e w' => ∃ v H', e = .returned v ∧ R v H' ∧ St F H' w')) (slots0 0 args) H) : FnS P f args pre H R :=
  fun F w hp s => calls_of_wp hf hb (by
    subst hm
    exact h F hp _ _ (env0 args _ (Nat.le_of_ble_eq_true hn)) s)

theorem e_ret {fn : Func} {R : Value → List HProp → Prop} {t : Nat} {v : Value} {H' : List HProp} (hr : fn.results = #[.tmp t]) (hv : look σ t = some v) (hR : R v H') (hh : ∀ h, starL H h → starL H' h) :
    G n [] F (bodyPost P fn (fun e w' => ∃ v H', e = .returned v ∧ R v H' ∧ St F H' w') .ret) σ H :=
  .mk fun a w e s => ⟨e.defers, v, by rw [results_tmp hr, show a.tmps.getD t undef = v from by simp [e.slot t v hv]], v, H', rfl, hR, s.sub hh⟩
theorem e_ret0 {fn : Func} {R : Value → List HProp → Prop} {H' : List HProp} (hr : fn.results = #[]) (hR : R (.tuple #[]) H') (hh : ∀ h, starL H h → starL H' h) :
    G n [] F (bodyPost P fn (fun e w' => ∃ v H', e = .returned v ∧ R v H' ∧ St F H' w') .ret) σ H :=
  .mk fun a w e s => ⟨e.defers, _, results_none hr _ _ _, _, H', rfl, hR, s.sub hh⟩
theorem e_end0 {fn : Func} {R : Value → List HProp → Prop} {H' : List HProp} (hr : fn.results = #[]) (hR : R (.tuple #[]) H') (hh : ∀ h, starL H h → starL H' h) :
    G n [] F (bodyPost P fn (fun e w' => ∃ v H', e = .returned v ∧ R v H' ∧ St F H' w') .normal) σ H :=
  .mk fun a w e s => ⟨e.defers, _, results_none hr _ _ _, _, H', rfl, hR, s.sub hh⟩
theorem e_ret2 {fn : Func} {R : Value → List HProp → Prop} {t u : Nat} {v x : Value} {H' : List HProp} (hr : fn.results = #[.tmp t, .tmp u]) (hv : look σ t = some v) (hx : look σ u = some x) (hR : R (.tuple #[v, x]) H')
    (hh : ∀ h, starL H h → starL H' h) : G n [] F (bodyPost P fn (fun e w' => ∃ v H', e = .returned v ∧ R v H' ∧ St F H' w') .ret) σ H :=
  .mk fun a w e s => ⟨e.defers, _, by rw [results_tmp2 hr, show a.tmps.getD t undef = v from by simp [e.slot t v hv], show a.tmps.getD u undef = x from by simp [e.slot u x hx]], _, H', rfl, hR, s.sub hh⟩
end rules
end Go.Eng
