/- Part Pa of the proof. -/
import Derived.KernelRfl
import Derived.Laws.Pointers
import Derived.OrdersHeld
import Derived.WalkKit
set_option maxRecDepth 100000
namespace Go.cQ
open Go
abbrev Hp := Nat → Option Obj
abbrev aa := Hp → Prop
abbrev aS := List (Nat × Value)
def Le (h k : Hp) : Prop := ∀ b o, h b = some o → k b = some o
def bK (h k : Hp) : Prop := ∀ b, h b = none ∨ k b = none
theorem Le.refl (h : Hp) : Le h h := fun _ _ e => e
theorem Le.trans {h k l : Hp} (a : Le h k) (b : Le k l) : Le h l := fun x o e => b x o (a x o e)
theorem bK.symm {h k : Hp} (d : bK h k) : bK k h := fun b => (d b).symm
theorem bK.left {h h' k : Hp} (d : bK h k) (l : Le h' h) : bK h' k := fun b => by
 cases e : h' b with
 | none => exact .inl rfl
 | some o => exact (d b).imp (fun x => by rw [l b o e] at x; cases x) id
theorem bK.right {h k k' : Hp} (d : bK h k) (l : Le k' k) : bK h k' := (d.symm.left l).symm
def aj : List aa → Hp → Prop
 | [], _ => True
 | A :: r, h => ∃ h1 h2, bK h1 h2 ∧ Le h1 h ∧ Le h2 h ∧ A h1 ∧ aj r h2
structure c9 where
 os : Os
 tape : Nat → Question → Nat
 output : Array (Nat × ByteArray)
 h : Hp
 d : Nat
def jB (w : World) : Hp := fun b => w.heap[b]?
structure St (F : c9) (H : List aa) (w : World) : Prop where
 os : w.os = F.os
 tape : w.tape = F.tape ∧ F.d ≤ w.drawn
 output : w.output = F.output
 frame : Le F.h (jB w)
 own : ∃ h, aj H h ∧ Le h (jB w) ∧ bK h F.h
theorem dp {H : List aa} {h k : Hp} (s : aj H h) (l : Le h k) : aj H k := by
 cases H with
 | nil => trivial
 | cons A r => obtain ⟨h1, h2, d, l1, l2, a, s⟩ := s; exact ⟨h1, h2, d, l1.trans l, l2.trans l, a, s⟩
def fj (h k : Hp) : Hp := fun b => match h b with | some o => some o | none => k b
theorem ba (h k : Hp) : Le h (fj h k) := fun b o e => by simp [fj, e]
theorem aV {h k : Hp} (d : bK h k) : Le k (fj h k) := fun b o e => by
 have : h b = none := (d b).resolve_right (by simp [e])
 simp [fj, this, e]
theorem bS {h k l : Hp} (a : Le h l) (b : Le k l) : Le (fj h k) l := fun x o e => by
 unfold fj at e
 cases hx : h x with
 | some o' => rw [hx] at e; cases e; exact a x _ hx
 | none => rw [hx] at e; exact b x o e
theorem bK.fj {h k l : Hp} (a : bK h l) (b : bK k l) : bK (fj h k) l := fun x => by
 rcases a x with e | e
 ·rcases b x with e2 | e2
  ·exact .inl (by simp [cQ.fj, e, e2])
  exact .inr e2
 exact .inr e
theorem cV {A B : aa} {R : List aa} {h : Hp} (s : aj (A :: B :: R) h) : aj (B :: A :: R) h := by
 obtain ⟨h1, h2, d, l1, l2, a, h3, h4, d', l3, l4, b, s⟩ := s
 refine ⟨h3, fj h1 h4, ?_, l3.trans l2, bS l1 (l4.trans l2), b, h1, h4, d.right l4, ba _ _, aV (d.right l4), a, s⟩
 exact (bK.fj (d.right l3) d'.symm).symm
inductive ez : List aa → aa → List aa → Prop
 | here {A r} : ez (A :: r) A r
 | there {A B r r'} (h : ez r A r') : ez (B :: r) A (B :: r')
theorem aK {A : aa} {R R' : List aa} (f : ∀ h, aj R h → aj R' h) {h : Hp} (s : aj (A :: R) h) : aj (A :: R') h := by
 obtain ⟨h1, h2, d, l1, l2, a, s⟩ := s
 exact ⟨h1, h2, d, l1, l2, a, f _ s⟩
theorem ez.out {H : List aa} {A : aa} {R : List aa} (s : ez H A R) : ∀ h, aj H h → aj (A :: R) h := by
 induction s with
 | here => exact fun h x => x
 | there _ ih => exact fun h x => cV (aK ih x)
theorem ez.back {H : List aa} {A : aa} {R : List aa} (s : ez H A R) : ∀ h, aj (A :: R) h → aj H h := by
 induction s with
 | here => exact fun h x => x
 | there _ ih => exact fun h x => aK ih (cV x)
inductive Pos : List aa → aa → (aa → List aa) → Prop
 | here {A r} : Pos (A :: r) A (fun B => B :: r)
 | there {A C r f} (h : Pos r A f) : Pos (C :: r) A (fun B => C :: f B)
theorem Pos.qK {H : List aa} {A : aa} {f : aa → List aa} (u : Pos H A f) : ∃ R, ez H A R ∧ ∀ B, ez (f B) B R := by
 induction u with
 | here => exact ⟨_, .here, fun _ => .here⟩
 | there _ ih => obtain ⟨R, a, b⟩ := ih; exact ⟨_, a.there, fun B => (b B).there⟩
theorem St.sub {F : c9} {H H' : List aa} {w : World} (f : ∀ h, aj H h → aj H' h) (s : St F H w) : St F H' w := by
 obtain ⟨a, b, c, d, h, x, y, z⟩ := s
 exact ⟨a, b, c, d, h, f _ x, y, z⟩
theorem St.qK {F : c9} {H R : List aa} {A : aa} {w : World} (s : ez H A R) (h : St F H w) : St F (A :: R) w := h.sub s.out
theorem St.ni {F : c9} {H R : List aa} {A : aa} {w : World} (s : ez H A R) (h : St F (A :: R) w) : St F H w := h.sub s.back
theorem aY {A B : aa} {R : List aa} (f : ∀ h, A h → B h) {h : Hp} (s : aj (A :: R) h) : aj (B :: R) h := by
 obtain ⟨h1, h2, d, l1, l2, a, s⟩ := s
 exact ⟨h1, h2, d, l1, l2, f _ a, s⟩
theorem St.drop {F : c9} {H : List aa} {A : aa} {w : World} (s : St F (A :: H) w) : St F H w :=
 s.sub fun _ x => by obtain ⟨_, _, _, _, l2, _, s⟩ := x; exact dp s l2
theorem St.get {F : c9} {H : List aa} {A : aa} {w : World} (s : St F (A :: H) w) : ∃ h, A h ∧ Le h (jB w) := by
 obtain ⟨_, _, _, _, h, ⟨h1, h2, d, l1, l2, a, s⟩, y, z⟩ := s
 exact ⟨h1, a, l1.trans y⟩
def di (h : Hp) (a : Addr) : Option Value :=
 match h a.block with
 | some (.cells c _ _) => if a.spot.isSome then none else c[a.off]?
 | _ => none
theorem MA (w : World) (a : Addr) : w.cell? a = di (jB w) a := rfl
theorem bZ {h k : Hp} (l : Le h k) {a : Addr} {v : Value} (e : di h a = some v) : di k a = some v := by
 unfold di at *
 cases x : h a.block with
 | none => simp [x] at e
 | some o => rw [l _ _ x]; rw [x] at e; exact e
theorem ku {h : Hp} {w : World} (l : Le h (jB w)) {a : Addr} {v : Value} (e : di h a = some v) : w.cell? a = some v := bZ l e
inductive af (b : Nat) (e : TypeId) (cs : List Value) (h : Hp) : Prop
 | mk (lo hi : Nat) (hf : hi = lo ∨ cs.length ≤ lo) (hb : h b = some (.cells cs.toArray e (lo, hi)))
theorem dX {b : Nat} {e : TypeId} {cs : List Value} {h : Hp} (p : af b e cs h) {i : Nat} {v : Value} (hv : cs[i]? = some v) : di h ⟨b, i, none⟩ = some v := by
 obtain ⟨lo, hi, _, hb⟩ := p
 simp [di, hb, hv]
theorem sW {b : Nat} {e : TypeId} {cs : List Value} {h : Hp} (p : af b e cs h) {i : Nat} (hi : i < cs.length) {w : World} (l : Le h (jB w)) : w.frozen? ⟨b, i, none⟩ = false := by
 obtain ⟨lo, xP, hf, hb⟩ := p
 have : w.heap[b]? = some (.cells cs.toArray e (lo, xP)) := l _ _ hb
 simp only [World.frozen?, this]
 simp only [Bool.and_eq_false_iff, decide_eq_false_iff_not]
 omega
theorem uu (w : World) (b i : Nat) (v : Value) (cs : Array Value) (e : TypeId) (fz : Nat × Nat) (h : w.heap[b]? = some (.cells cs e fz)) :
  (w.setCell ⟨b, i, none⟩ v).heap[b]? = some (.cells (cs.setIfInBounds i v) e fz) := by
 obtain ⟨cJ, h'⟩ := Array.getElem?_eq_some_iff.1 h
 simp [World.setCell, Array.getElem?_modify, h]
theorem St.setCell {F : c9} {H : List aa} {w : World} {b i : Nat} {e : TypeId} {cs : List Value} (s : St F (af b e cs :: H) w) (v : Value) :
  St F (af b e (cs.set i v) :: H) (w.setCell ⟨b, i, none⟩ v) := by
 obtain ⟨a1, a2, a3, fr, h, ⟨h1, h2, d, l1, l2, ⟨lo, hi, hf, hb⟩, s⟩, y, z⟩ := s
 have hw : w.heap[b]? = some (.cells cs.toArray e (lo, hi)) := (l1.trans y) _ _ hb
 have fu : ∀ k : Hp, bK h1 k → ∀ x o, k x = some o → x ≠ b := by
  intro k dk x o e hx; subst hx
  rcases dk x with q | q
  ·rw [hb] at q; cases q
  rw [e] at q; cases q
 have hold : ∀ k : Hp, bK h1 k → Le k (jB w) → Le k (jB (w.setCell ⟨b, i, none⟩ v)) := by
  intro k dk lk x o e
  have := lk x o e
  unfold jB at *
  rw [RowKit.Below.heap_setCell w _ v x (by exact fu k dk x o e)]
  exact this
 have dF : bK h1 F.h := z.left l1
 let uc : Hp := fun x => if x = b then some (.cells (cs.set i v).toArray e (lo, hi)) else none
 have d2 : ∀ k : Hp, bK h1 k → bK uc k := by
  intro k dk x
  by_cases hx : x = b
  ·subst hx
   rcases dk x with q | q
   ·rw [hb] at q; cases q
   exact .inr q
  exact .inl (by simp [uc, hx])
 have l1' : Le uc (jB (w.setCell ⟨b, i, none⟩ v)) := by
  intro x o e
  by_cases hx : x = b
  ·subst hx
   simp only [uc, if_true] at e
   cases e
   have := uu w x i v _ _ _ hw
   rw [jB, this]; simp
  simp [uc, hx] at e
 refine ⟨a1, a2, a3, hold _ dF fr, fj uc h2, ⟨uc, h2, d2 _ d, ba _ _, aV (d2 _ d), ⟨lo, hi, by simpa using hf, by simp [uc]⟩, s⟩,
  bS l1' (hold _ d (l2.trans y)), bK.fj (d2 _ dF) (z.left l2)⟩
theorem St.new {F : c9} {H : List aa} {w : World} (s : St F H w) (e : TypeId) (cs : List Value) :
  St F (af w.heap.size e cs :: H) (w.alloc (.cells cs.toArray e)) := by
 obtain ⟨a1, a2, a3, fr, h, s, y, z⟩ := s
 have hold : ∀ k : Hp, Le k (jB w) → Le k (jB (w.alloc (.cells cs.toArray e))) := by
  intro k lk x o ex
  have hx := lk x o ex
  unfold jB at *
  rw [RowKit.Below.heap_alloc w _ x (Array.getElem?_eq_some_iff.1 hx).1]
  exact hx
 let h1 : Hp := fun x => if x = w.heap.size then some (.cells cs.toArray e) else none
 have dk : ∀ k : Hp, Le k (jB w) → bK h1 k := by
  intro k lk x
  by_cases hx : x = w.heap.size
  ·right
   cases q : k x with
   | none => rfl
   | some o =>
    have := lk x o q
    unfold jB at this
    have := (Array.getElem?_eq_some_iff.1 this).1
    omega
  exact .inl (by simp [h1, hx])
 refine ⟨a1, a2, a3, hold _ fr, fj h1 h, ⟨h1, h, dk _ y, ba _ _, aV (dk _ y), ⟨0, 0, .inl rfl, by simp [h1]⟩, s⟩, bS ?_ (hold _ y), bK.fj (dk _ fr) z⟩
 intro x o ex
 by_cases hx : x = w.heap.size
 ·subst hx; simp only [h1, if_true] at ex; cases ex; exact heap_alloc_new w _
 simp [h1, hx] at ex
theorem St.drew {F : c9} {H : List aa} {w : World} (s : St F H w) : St F H w.drew := ⟨s.os, ⟨s.tape.1, Nat.le_succ_of_le s.tape.2⟩, s.output, s.frame, s.own⟩
theorem St.drawn {F : c9} {H : List aa} {w : World} (s : St F H w) (n : Nat) (h : w.drawn ≤ n := by exact Nat.le_succ _) : St F H { w with drawn := n } := ⟨s.os, ⟨s.tape.1, Nat.le_trans s.tape.2 h⟩, s.output, s.frame, s.own⟩
def look : aS → Nat → Option Value
 | [], _ => none
 | (k, v) :: r, t => match Nat.beq k t with | true => some v | false => look r t
def bd (σ : aS) : Operand → Option Value
 | .tmp t => look σ t
 | .const v => some v
 | .global g => some (.pointer (some ⟨g, 0, none⟩))
 | .func f => some (.func (.func f) #[] #[])
def iH (σ : aS) : List Operand → Option (List Value)
 | [] => some []
 | x :: r => match bd σ x, iH σ r with | some v, some vs => some (v :: vs) | _, _ => none
structure Env (n : Nat) (ds : List Deferred) (σ : aS) (a : Act) : Prop where
 size : a.tmps.size = n
 defers : a.defers = ds
 slot : ∀ t v, look σ t = some v → a.tmps[t]? = some v
def qS : aS → aS → Prop
 | [], _ => True
 | (t, v) :: r, σ => look σ t = some v ∧ qS r σ
theorem qS.look {S σ : aS} (h : qS S σ) : ∀ t v, look S t = some v → look σ t = some v := by
 induction S with
 | nil => intro t v e; simp [cQ.look] at e
 | cons p r ih =>
  obtain ⟨k, u⟩ := p
  intro t v e
  simp only [cQ.look] at e
  cases hb : Nat.beq k t with
  | true => rw [hb] at e; cases e; rw [← Nat.eq_of_beq_eq_true hb]; exact h.1
  | false => rw [hb] at e; exact ih h.2 t v e
theorem Env.eval {n : Nat} {ds : List Deferred} {σ : aS} {a : Act} (e : Env n ds σ a) {x : Operand} {v : Value} (h : bd σ x = some v) : a.eval x = v := by
 cases x with
 | tmp t => simp [Act.eval, e.slot t v h]
 | const u => simpa [bd, Act.eval] using h
 | global g => simpa [bd, Act.eval] using h
 | func f => simpa [bd, Act.eval] using h
theorem Env.sj {n : Nat} {ds : List Deferred} {σ : aS} {a : Act} (e : Env n ds σ a) : ∀ {xs : List Operand} {vs : List Value}, iH σ xs = some vs → xs.map a.eval = vs := by
 intro xs
 induction xs with
 | nil => intro vs h; simp [iH] at h; simp [← h]
 | cons x r ih =>
  intro vs h
  simp only [iH] at h
  cases h1 : bd σ x with
  | none => simp [h1] at h
  | some v =>
   cases h2 : iH σ r with
   | none => simp [h1, h2] at h
   | some us =>
    simp only [h1, h2, Option.some.injEq] at h
    rw [← h, List.map_cons, e.eval h1, ih h2]
theorem Env.put {n : Nat} {ds : List Deferred} {σ : aS} {a : Act} (e : Env n ds σ a) {d : Nat} (hd : Nat.blt d n = true) (v : Value) : Env n ds ((d, v) :: σ) (a.put (some d) v) := by
 have hdn : d < a.tmps.size := by rw [e.size]; exact Nat.le_of_ble_eq_true hd
 refine ⟨by simp [Act.put, e.size], by simp [Act.put, e.defers], fun t u h => ?_⟩
 simp only [look] at h
 cases hb : Nat.beq d t with
 | true =>
  rw [hb] at h; cases h
  have := Nat.eq_of_beq_eq_true hb; subst this
  simp [Act.put, hdn]
 | false =>
  rw [hb] at h
  have fu : d ≠ t := by intro q; subst q; simp at hb
  simp [Act.put, Array.getElem?_setIfInBounds_ne fu, e.slot t u h]
structure G (n : Nat) (ds : List Deferred) (F : c9) (K : Act → World → Prop) (σ : aS) (H : List aa) : Prop where
 run : ∀ a w, Env n ds σ a → St F H w → K a w
instance {n : Nat} {ds : List Deferred} {F : c9} {K : Act → World → Prop} {σ : aS} {H : List aa} : CoeFun (G n ds F K σ H) (fun _ => ∀ a w, Env n ds σ a → St F H w → K a w) := ⟨G.run⟩
section rules
variable {P : Program} {n : Nat} {ds : List Deferred} {F : c9} {Q : Exit → Act → World → Prop} {σ : aS} {H : List aa}
theorem ay {x y : Code} (h : G n ds F (x.wp P (Exit.then (y.wp P Q) Q)) σ H) : G n ds F ((Code.seq x y).wp P Q) σ H :=
 .mk fun a w e s => wp_seq (h a w e s)
theorem AS (h : G n ds F (Q .normal) σ H) : G n ds F (Code.skip.wp P Q) σ H := .mk fun a w e s => wp_skip (h a w e s)
theorem Zr (h : G n ds F (Q .ret) σ H) : G n ds F (Code.ret.wp P Q) σ H := .mk fun a w e s => wp_ret (h a w e s)
theorem U2 {id : Nat} (h : G n ds F (Q (.exit id)) σ H) : G n ds F ((Code.exit id).wp P Q) σ H := .mk fun a w e s => wp_exit (h a w e s)
theorem mI {id : Nat} {c : Code} (h : G n ds F (c.wp P (Exit.inBlock id Q)) σ H) : G n ds F ((Code.block id c).wp P Q) σ H := .mk fun a w e s => wp_block (h a w e s)
theorem au {c : Operand} {x y : Code} {b : Bool} (hc : bd σ c = some (.bool b)) (ht : b = true → G n ds F (x.wp P Q) σ H) (hf : b = false → G n ds F (y.wp P Q) σ H) :
  G n ds F ((Code.cond c x y).wp P Q) σ H :=
 .mk fun a w e s => wp_cond_split (e.eval hc) (fun hb => ht hb a w e s) (fun hb => hf hb a w e s)
theorem s9 {c : Operand} {x y : Code} {b : Bool} (hc : bd σ c = some (.bool b)) (hb : b = true) (ht : G n ds F (x.wp P Q) σ H) :
  G n ds F ((Code.cond c x y).wp P Q) σ H := au hc (fun _ => ht) (fun h => by rw [hb] at h; cases h)
theorem ta {c : Operand} {x y : Code} {b : Bool} (hc : bd σ c = some (.bool b)) (hb : b = false) (ht : G n ds F (y.wp P Q) σ H) :
  G n ds F ((Code.cond c x y).wp P Q) σ H := au hc (fun h => by rw [hb] at h; cases h) (fun _ => ht)
theorem JK {K : Act → World → Prop} (h : G n ds F K σ H) : G n ds F (Exit.then K Q .normal) σ H := h
theorem BY {K : Act → World → Prop} (h : G n ds F (Q .ret) σ H) : G n ds F (Exit.then K Q .ret) σ H := h
theorem zM {K : Act → World → Prop} {id : Nat} (h : G n ds F (Q (.exit id)) σ H) : G n ds F (Exit.then K Q (.exit id)) σ H := h
theorem Qi {id : Nat} (h : G n ds F (Q .normal) σ H) : G n ds F (Exit.inBlock id Q .normal) σ H := h
theorem zN {id : Nat} (h : G n ds F (Q .ret) σ H) : G n ds F (Exit.inBlock id Q .ret) σ H := h
theorem zO {id : Nat} (h : G n ds F (Q .normal) σ H) : G n ds F (Exit.inBlock id Q (.exit id)) σ H := .mk fun a w e s => by
 simpa [Exit.inBlock] using h a w e s
theorem xz {id id' : Nat} (fu : Nat.beq id' id = false) (h : G n ds F (Q (.exit id')) σ H) : G n ds F (Exit.inBlock id Q (.exit id')) σ H := .mk fun a w e s => by
 have : id' ≠ id := by intro q; subst q; simp at fu
 simpa [Exit.inBlock, this] using h a w e s
theorem az {K : Act → World → Prop} {H' : List aa} (hh : ∀ h, aj H h → aj H' h) (h : G n ds F K σ H') : G n ds F K σ H :=
 .mk fun a w e s => h a w e (s.sub hh)
theorem fE {id : Nat} {l : List Oper} (h : G n ds F (wpList P l.toArray Q l) σ H) : G n ds F ((Code.region id l.toArray false).wp P Q) σ H :=
 .mk fun a w e s => wp_region_lit (h a w e s)
theorem aB {ops : Array Oper} (h : G n ds F (Q .normal) σ H) : G n ds F (wpList P ops Q []) σ H := h
theorem tw {ops : Array Oper} {j t : Nat} {b : Bool} {a : Act} (hj : (ops[j]?).bind (·.dst) = some t) (ht : look σ t = some (.bool b)) (e : Env n ds σ a) : yielded ops a.tmps j = some b := by
 simp [yielded, hj, e.slot t _ ht]
def aL (P : Program) (f : FuncId) (args : List Value) (pre : Hp → Prop) (H : List aa) (R : Value → List aa → Prop) : Prop :=
 ∀ F w, pre F.h → St F H w → Calls P f args.toArray w fun e w' => ∃ v H', e = .returned v ∧ R v H' ∧ St F H' w'
def iY : Nat → List Value → aS
 | _, [] => []
 | k, v :: r => (k, v) :: iY (k + 1) r
theorem zF : ∀ (l : List Value) (k t : Nat) (v : Value), look (iY k l) t = some v → k ≤ t ∧ l[t - k]? = some v := by
 intro l
 induction l with
 | nil => intro k t v h; simp [iY, look] at h
 | cons x r ih =>
  intro k t v h
  simp only [iY, look] at h
  cases hb : Nat.beq k t with
  | true => rw [hb] at h; cases h; have := Nat.eq_of_beq_eq_true hb; subst this; simp
  | false =>
   rw [hb] at h
   obtain ⟨h1, h2⟩ := ih _ _ _ h
   refine ⟨by omega, ?_⟩
   rw [show t - k = (t - (k + 1)) + 1 from by omega]
   simpa using h2
theorem El (args : List Value) (n : Nat) (hn : args.length ≤ n) : Env n [] (iY 0 args) { tmps := args.toArray ++ Array.replicate (n - args.toArray.size) undef, defers := [] } := by
 refine ⟨by simp; omega, rfl, fun t v h => ?_⟩
 obtain ⟨_, h2⟩ := zF _ _ _ _ h
 have cJ : t < args.length := by
  rcases Nat.lt_or_ge t args.length with q | q
  ·exact q
  rw [List.getElem?_eq_none (show args.length ≤ t - 0 from by omega)] at h2; cases h2
 simp only [Nat.sub_zero] at h2
 rw [Array.getElem?_append_left (by simpa using cJ)]
 simpa using h2
theorem ag {f : FuncId} {fn : Func} {c : Code} {args : List Value} {pre : Hp → Prop} {R : Value → List aa → Prop} {m : Nat} (hf : P.funcs[f]? = some fn) (hb : fn.body = some c) (hm : fn.ntmps = m) (hn : Nat.ble args.length m = true)
  (h : ∀ F : c9, pre F.h → G m [] F (c.wp P (bodyPost P fn fun e w' => ∃ v H', e = .returned v ∧ R v H' ∧ St F H' w')) (iY 0 args) H) : aL P f args pre H R :=
 fun F w hp s => calls_of_wp hf hb (by
  subst hm
  exact h F hp _ _ (El args _ (Nat.le_of_ble_eq_true hn)) s)
theorem ZS {fn : Func} {R : Value → List aa → Prop} {t : Nat} {v : Value} {H' : List aa} (hr : fn.results = #[.tmp t]) (hv : look σ t = some v) (hR : R v H') (hh : ∀ h, aj H h → aj H' h) :
  G n [] F (bodyPost P fn (fun e w' => ∃ v H', e = .returned v ∧ R v H' ∧ St F H' w') .ret) σ H :=
 .mk fun a w e s => ⟨e.defers, v, by rw [results_tmp hr, show a.tmps.getD t undef = v from by simp [e.slot t v hv]], v, H', rfl, hR, s.sub hh⟩
theorem VY {fn : Func} {R : Value → List aa → Prop} {H' : List aa} (hr : fn.results = #[]) (hR : R (.tuple #[]) H') (hh : ∀ h, aj H h → aj H' h) :
  G n [] F (bodyPost P fn (fun e w' => ∃ v H', e = .returned v ∧ R v H' ∧ St F H' w') .ret) σ H :=
 .mk fun a w e s => ⟨e.defers, _, results_none hr _ _ _, _, H', rfl, hR, s.sub hh⟩
theorem VZ {fn : Func} {R : Value → List aa → Prop} {H' : List aa} (hr : fn.results = #[]) (hR : R (.tuple #[]) H') (hh : ∀ h, aj H h → aj H' h) :
  G n [] F (bodyPost P fn (fun e w' => ∃ v H', e = .returned v ∧ R v H' ∧ St F H' w') .normal) σ H :=
 .mk fun a w e s => ⟨e.defers, _, results_none hr _ _ _, _, H', rfl, hR, s.sub hh⟩
theorem VX {fn : Func} {R : Value → List aa → Prop} {t u : Nat} {v x : Value} {H' : List aa} (hr : fn.results = #[.tmp t, .tmp u]) (hv : look σ t = some v) (hx : look σ u = some x) (hR : R (.tuple #[v, x]) H')
  (hh : ∀ h, aj H h → aj H' h) : G n [] F (bodyPost P fn (fun e w' => ∃ v H', e = .returned v ∧ R v H' ∧ St F H' w') .ret) σ H :=
 .mk fun a w e s => ⟨e.defers, _, by rw [results_tmp2 hr, show a.tmps.getD t undef = v from by simp [e.slot t v hv], show a.tmps.getD u undef = x from by simp [e.slot u x hx]], _, H', rfl, hR, s.sub hh⟩
end rules
end Go.cQ
namespace Go.cQ
open Go
inductive gY : List aa → List aa → List aa → Prop
 | nil {X : List aa} : gY X [] X
 | cons {X : List aa} {A : aa} {As R R' : List aa} (s : ez X A R) (t : gY R As R') : gY X (A :: As) R'
theorem gY.out {H As R : List aa} (s : gY H As R) : ∀ h, aj H h → aj (As ++ R) h := by
 induction s with
 | nil => exact fun h x => x
 | cons s _ ih => exact fun h x => aK ih (s.out h x)
def cB (P : Program) (t : TypeId) : Bool :=
 match P.underlying t, P.info? t with
 | some (.struct _), _ => false
 | some (.array _ _), _ => false
 | some _, some i => i.size == 1
 | _, _ => false
def cn (P : Program) (t : TypeId) : Option Nat :=
 match P.underlying t with
 | some (.struct _) => (P.info? t).map (·.size)
 | some (.array _ _) => (P.info? t).map (·.size)
 | _ => none
def ak (P : Program) (s f : Nat) : Option Nat :=
 match P.underlying s with
 | some (.struct fs) => match fs[f]? with
  | some f => match P.info? f.type with
   | some i => if i.size = 0 then none else some f.offset
   | none => none
  | none => none
 | _ => none
def cH (P : Program) (t : TypeId) : Option (TypeId × Nat) :=
 match P.underlying t with
 | some (.slice e) => match P.info? e with
  | some i => some (e, i.size)
  | none => none
 | _ => none
section
variable {P : Program} {w : World}
theorem pT {t : TypeId} (h : cB P t = true) : (isAgg t).run P w = .ok false w ∧ (sizeOf t).run P w = .ok 1 w := by
 unfold cB at h
 cases hu : P.underlying t with
 | none => simp [hu] at h
 | some d =>
  cases hi : P.info? t with
  | none => simp [hu, hi] at h; cases d <;> simp at h
  | some i =>
   cases d <;> simp [hu, hi] at h <;> simp [isAgg, run_underlying hu, sizeOf, typeInfo, hi, h]
theorem dH {t : TypeId} {k : Nat} (h : cn P t = some k) : (isAgg t).run P w = .ok true w ∧ (sizeOf t).run P w = .ok k w := by
 unfold cn at h
 cases hu : P.underlying t with
 | none => simp [hu] at h
 | some d =>
  cases hi : P.info? t with
  | none => cases d <;> simp [hu, hi] at h
  | some i => cases d <;> simp [hu, hi] at h <;> simp [isAgg, run_underlying hu, sizeOf, typeInfo, hi, h]
theorem qH {s f k : Nat} (h : ak P s f = some k) (a : Addr) : (Instr.fieldAt s (.pointer (some a)) f).run P w = .ok (.pointer (some (a.add k))) w := by
 unfold ak at h
 cases hu : P.underlying s with
 | none => simp [hu] at h
 | some d =>
  cases d <;> simp [hu] at h
  rename_i fs
  cases hf : fs[f]? with
  | none => simp [hf] at h
  | some fd =>
   simp only [hf] at h
   cases hi : P.info? fd.type with
   | none => simp [hi] at h
   | some i =>
    simp only [hi] at h
    by_cases h0 : i.size = 0
    ·simp [h0] at h
    simp only [h0, if_false, Option.some.injEq] at h
    simp [Instr.fieldAt, run_underlying hu, hf, Instr.sureAddr, fieldPlace, sizeOf, typeInfo, hi, h0, h]
theorem ic {t e k : Nat} (h : cH P t = some (e, k)) : P.underlying t = some (.slice e) ∧ ∃ i, P.info? e = some i ∧ i.size = k := by
 unfold cH at h
 cases hu : P.underlying t with
 | none => simp [hu] at h
 | some d =>
  cases d <;> simp [hu] at h
  rename_i e'
  cases hi : P.info? e' with
  | none => simp [hi] at h
  | some i => simp [hi] at h; obtain ⟨rfl, rfl⟩ := h; exact ⟨rfl, i, hi, rfl⟩
theorem add_lit (b i k : Nat) : (⟨b, i, none⟩ : Addr).add k = ⟨b, i + k, none⟩ := by unfold Addr.add; split <;> simp_all
theorem add_add (a : Addr) (l k : Nat) : (a.add l).add k = a.add (l + k) := by
 obtain ⟨b, o, s⟩ := a
 unfold Addr.add
 by_cases hl : l = 0
 ·subst hl; simp
 by_cases hk : k = 0
 ·subst hk; simp
 simp [hl, hk, show l + k ≠ 0 from by omega, Nat.add_assoc]
theorem add_zero' (a : Addr) : a.add 0 = a := by simp [Addr.add]
end
section rules
variable {P : Program} {n : Nat} {ds : List Deferred} {F : c9} {Q : Exit → Act → World → Prop} {K : Act → World → Prop} {σ : aS} {H : List aa} {o : Oper} {d : Nat}
theorem nP {v : Value} (hd : o.dst = some d) (hdn : Nat.blt d n = true) (hr : ∀ a w, Env n ds σ a → St F H w → (execOp a.eval o).run P w = .ok (.value v) w)
  (h : G n ds F K ((d, v) :: σ) H) : G n ds F (fun a w => o.wp P a w K Q) σ H := by
 refine .mk fun a w e s => ?_
 unfold Oper.wp
 rw [hr a w e s, Oper.upon_value, hd]
 exact h _ _ (e.put hdn v) s
def Yv (P : Program) (n : Nat) (ds : List Deferred) (F : c9) (σ : aS) (o : Oper) (v : Value) : Prop :=
 ∀ a w, Env n ds σ a → Le F.h (jB w) → (execOp a.eval o).run P w = .ok (.value v) w
theorem op_y {v : Value} (hy : Yv P n ds F σ o v) (hd : o.dst = some d) (hdn : Nat.blt d n = true) (h : G n ds F K ((d, v) :: σ) H) : G n ds F (fun a w => o.wp P a w K Q) σ H :=
 nP hd hdn (fun a w e s => hy a w e s.frame) h
theorem Tv {x : Operand} {v : Value} (ho : o.op = .move x) (hx : bd σ x = some v) : Yv P n ds F σ o (v) :=
 fun a w e fr => by simp [execOp, ho, e.eval hx]
theorem J8 {x : Operand} {v : Value} (ho : o.op = .assign x) (hx : bd σ x = some v) : Yv P n ds F σ o (v) :=
 fun a w e fr => by simp [execOp, ho, e.eval hx]
theorem J3 {c x y : Operand} {b : Bool} {v : Value} (ho : o.op = .pick c x y) (hc : bd σ c = some (.bool b)) (hb : b = true) (hx : bd σ x = some v) : Yv P n ds F σ o (v) :=
 fun a w e fr => by simp [execOp, ho, e.eval hc, e.eval hx, hb, asBool]
theorem J4 {c x y : Operand} {b : Bool} {v : Value} (ho : o.op = .pick c x y) (hc : bd σ c = some (.bool b)) (hb : b = false) (hx : bd σ y = some v) : Yv P n ds F σ o (v) :=
 fun a w e fr => by simp [execOp, ho, e.eval hc, e.eval hx, hb, asBool]
theorem Bn {x : Operand} {ad : Addr} (ho : o.op = .nilCheck x) (hx : bd σ x = some (.pointer (some ad))) : Yv P n ds F σ o (.pointer (some ad)) :=
 fun a w e fr => by simp [execOp, ho, e.eval hx]
theorem zn {s f k b i : Nat} {x : Operand} (hk : ak P s f = some k) (ho : o.op = .fieldAddr s x f) (hx : bd σ x = some (.pointer (some ⟨b, i, none⟩))) : Yv P n ds F σ o (.pointer (some ⟨b, i + k, none⟩)) :=
 fun a w e fr => by simp [execOp, ho, e.eval hx, qH hk, add_lit]
theorem qT {s f k j : Nat} {x : Operand} {a : Option Addr} (hk : ak P s f = some k) (ho : o.op = .fieldAddr s x f) (hx : bd σ x = some (.pointer (a.map (·.add j)))) (hs : a.isSome = true) : Yv P n ds F σ o (.pointer (a.map (·.add (j + k)))) := by
 obtain ⟨ad, rfl⟩ := Option.isSome_iff_exists.1 hs
 exact fun a w e _ => by simp [execOp, ho, e.eval hx, qH hk, add_add]
theorem Et {x : Operand} {i : Nat} {vs : Array Value} {v : Value} (ho : o.op = .extract x i) (hx : bd σ x = some (.tuple vs)) (hv : vs.toList[i]? = some v) : Yv P n ds F σ o (v) :=
 fun a w e fr => by
  have Hv : vs[i]? = some v := by simpa using hv
  simp [execOp, ho, e.eval hx, Instr.extract, Hv]
theorem Yy {t : TypeId} {x : Operand} {b : Bool} (ho : o.op = .unOp .not t x) (hx : bd σ x = some (.bool b)) : Yv P n ds F σ o (.bool (!b)) :=
 fun a w e fr => by simp [execOp, ho, e.eval hx, Op.unary]
theorem wrap_i64 {z : Int} (h : -9223372036854775808 ≤ z ∧ z ≤ 9223372036854775807) : IntKind.i64.wrap z = z := IntWalk.i64_in z h
theorem wrap_u64 {z : Int} (h : 0 ≤ z ∧ z ≤ 18446744073709551615) : IntKind.u64.wrap z = z := by
 unfold IntKind.wrap
 simp only [IntKind.bits, IntKind.signed, Bool.false_and, Bool.false_eq_true, if_false]
 omega
theorem wrap_u32 {z : Int} (h : 0 ≤ z ∧ z ≤ 4294967295) : IntKind.u32.wrap z = z := by
 unfold IntKind.wrap
 simp only [IntKind.bits, IntKind.signed, Bool.false_and, Bool.false_eq_true, if_false]
 omega
theorem wrap_u16 {z : Int} (h : 0 ≤ z ∧ z ≤ 65535) : IntKind.u16.wrap z = z := by
 unfold IntKind.wrap
 simp only [IntKind.bits, IntKind.signed, Bool.false_and, Bool.false_eq_true, if_false]
 omega
theorem wrap_u8 {z : Int} (h : 0 ≤ z ∧ z ≤ 255) : IntKind.u8.wrap z = z := by
 unfold IntKind.wrap
 simp only [IntKind.bits, IntKind.signed, Bool.false_and, Bool.false_eq_true, if_false]
 omega
theorem wrap_i32 {z : Int} (h : -2147483648 ≤ z ∧ z ≤ 2147483647) : IntKind.i32.wrap z = z := IntWalk.i32_in z h
def gw (op : BinOp) (k : IntKind) (x y : Int) : Option Int :=
 match op with
 | .add => some (k.wrap (x + y))
 | .sub => some (k.wrap (x - y))
 | .mul => some (k.wrap (x * y))
 | .and => some (k.wrap (BitVec.ofInt k.bits x &&& BitVec.ofInt k.bits y).toNat)
 | .or => some (k.wrap (BitVec.ofInt k.bits x ||| BitVec.ofInt k.bits y).toNat)
 | .xor => some (k.wrap (BitVec.ofInt k.bits x ^^^ BitVec.ofInt k.bits y).toNat)
 | .andNot => some (k.wrap (BitVec.ofInt k.bits x &&& ~~~BitVec.ofInt k.bits y).toNat)
 | .quo => if y = 0 then none else some (k.wrap (x.tdiv y))
 | .rem => if y = 0 then none else some (x.tmod y)
 | _ => none
def CC (op : BinOp) (x y : Int) : Option Bool :=
 match op with
 | .eql => some (decide (x = y))
 | .neq => some (!decide (x = y))
 | .lss => some (decide (x < y))
 | .leq => some (decide (x ≤ y))
 | .gtr => some (decide (y < x))
 | .geq => some (decide (y ≤ x))
 | _ => none
theorem EU {op : BinOp} {t : TypeId} {k : IntKind} {x y z : Int} {w : World} (h : gw op k x y = some z) : (binOp op t (.int k x) (.int k y)).run P w = .ok (.int k z) w := by
 cases op <;> simp only [gw] at h <;> try (cases h; done)
 case add => cases h; simp [binOp, Op.intArith]
 case sub => cases h; simp [binOp, Op.intArith]
 case mul => cases h; simp [binOp, Op.intArith]
 case and => cases h; simp [binOp, Op.intBits]
 case or => cases h; simp [binOp, Op.intBits]
 case xor => cases h; simp [binOp, Op.intBits]
 case andNot => cases h; simp [binOp, Op.intBits]
 all_goals
  split at h
  ·cases h
  rename_i hy
  cases h
  simp [binOp, Op.intDiv, hy]
theorem EV {op : BinOp} {t : TypeId} {k : IntKind} {x y : Int} {b : Bool} {w : World} (h : CC op x y = some b) : (binOp op t (.int k x) (.int k y)).run P w = .ok (.bool b) w := by
 cases op <;> simp only [CC] at h <;> (cases h; try simp [binOp, Op.intCmp])
 all_goals (first | rfl | (rw [Bool.eq_iff_iff]; simp; done) | skip)
theorem iA {op : BinOp} {t : TypeId} {x y : Operand} {k k' : IntKind} {i j : Int} {w : World} : (eqGuard op t x y (.int k i) (.int k' j)).run P w = .ok () w := by
 unfold eqGuard; cases op <;> simp
theorem uI {op : BinOp} {t yt : TypeId} {x y : Operand} {k : IntKind} {i j z : Int} (ho : o.op = .binOp op t x y yt) (hx : bd σ x = some (.int k i)) (hy : bd σ y = some (.int k j)) (hz : gw op k i j = some z) : Yv P n ds F σ o (.int k z) :=
 fun a w e fr => by simp [execOp, ho, e.eval hx, e.eval hy, iA, EU hz]
theorem YC {op : BinOp} {t yt : TypeId} {x y : Operand} {k : IntKind} {i j : Int} {b : Bool} (ho : o.op = .binOp op t x y yt) (hx : bd σ x = some (.int k i)) (hy : bd σ y = some (.int k j)) (hz : CC op i j = some b) : Yv P n ds F σ o (.bool b) :=
 fun a w e fr => by simp [execOp, ho, e.eval hx, e.eval hy, iA, EV hz]
def NN (op : BinOp) (k : IntKind) (x y : Int) : Option Int :=
 if y < 0 then none else
 match op with
 | .shl => some (k.wrap (x * 2 ^ (min y.toNat k.bits)))
 | .shr => some (x.fdiv (2 ^ (min y.toNat k.bits)))
 | _ => none
theorem XQ {op : BinOp} {t yt : TypeId} {x y : Operand} {k k' : IntKind} {i j z : Int} (ho : o.op = .binOp op t x y yt) (hx : bd σ x = some (.int k i)) (hy : bd σ y = some (.int k' j)) (hz : NN op k i j = some z) : Yv P n ds F σ o (.int k z) := by
 intro a w e _
 unfold NN at hz
 by_cases hj : j < 0
 ·simp [hj] at hz
 simp only [hj, if_false] at hz
 cases op <;> simp at hz <;> subst hz <;> simp [execOp, ho, e.eval hx, e.eval hy, iA, binOp, Op.shift, hj]
theorem Yx {t yt : TypeId} {x y : Operand} {k k' : IntKind} {i j z : Int} {s : Nat} (ho : o.op = .binOp .shl t x y yt) (hx : bd σ x = some (.int k i)) (hy : bd σ y = some (.int k' j)) (hj : j = (s : Int)) (hz : k.wrap (i * 2 ^ (min s k.bits)) = z) : Yv P n ds F σ o (.int k z) := by
 subst hj
 refine XQ ho hx hy ?_
 simp only [NN, if_neg (show ¬ ((s : Int) < 0) from by omega), Int.toNat_natCast, hz]
theorem Yw {t yt : TypeId} {x y : Operand} {k k' : IntKind} {i j z : Int} {s : Nat} (ho : o.op = .binOp .shr t x y yt) (hx : bd σ x = some (.int k i)) (hy : bd σ y = some (.int k' j)) (hj : j = (s : Int)) (hz : i.fdiv (2 ^ (min s k.bits)) = z) : Yv P n ds F σ o (.int k z) := by
 subst hj
 refine XQ ho hx hy ?_
 simp only [NN, if_neg (show ¬ ((s : Int) < 0) from by omega), Int.toNat_natCast, hz]
theorem Ty {s t : TypeId} {x : Operand} {k k' : IntKind} {i z : Int} (ht : P.underlying t = some (.int k)) (hs : (P.underlying s).isSome = true) (ho : o.op = .convert s t x) (hx : bd σ x = some (.int k' i)) (hz : k.wrap i = z) : Yv P n ds F σ o (.int k z) := by
 intro a w e _
 obtain ⟨sd, hsd⟩ := Option.isSome_iff_exists.1 hs
 simp [execOp, ho, e.eval hx, convert, run_underlying ht, run_underlying hsd, Conv.intToInt, ← hz]
theorem zx {t : TypeId} {i j : Bool} {w : World} (ht : P.underlying t = some .bool) : (binOp .eql t (.bool i) (.bool j)).run P w = .ok (.bool (i == j)) w := run_eql_bool w t i j ht
theorem zw {t : TypeId} {i j : Bool} {w : World} (ht : P.underlying t = some .bool) : (binOp .neq t (.bool i) (.bool j)).run P w = .ok (.bool (!(i == j))) w := by
 simp only [binOp, Sem.run_bind, run_equal_bool w t i j ht, Result.andThen_ok, Sem.run_pure]
theorem kL {op : BinOp} {t : TypeId} {x y : Operand} {i j : Bool} {w : World} : (eqGuard op t x y (.bool i) (.bool j)).run P w = .ok () w := by
 unfold eqGuard; cases op <;> simp
theorem J7 {op : BinOp} {t yt : TypeId} {x y : Operand} {i j b : Bool} (ht : P.underlying t = some .bool) (ho : o.op = .binOp op t x y yt) (hx : bd σ x = some (.bool i)) (hy : bd σ y = some (.bool j))
  (hop : (op = .eql ∧ b = (i == j)) ∨ (op = .neq ∧ b = !(i == j))) : Yv P n ds F σ o (.bool b) := by
 intro a w e _
 rcases hop with ⟨rfl, rfl⟩ | ⟨rfl, rfl⟩
 ·simp only [execOp, ho, e.eval hx, e.eval hy, Sem.run_bind, kL, zx ht, Result.andThen_ok, Sem.run_pure]
 simp only [execOp, ho, e.eval hx, e.eval hy, Sem.run_bind, kL, zw ht, Result.andThen_ok, Sem.run_pure]
def bC (l : List UInt8) : Value := .string ⟨l.toArray⟩
theorem N6 {op : BinOp} {t yt : TypeId} {x y : Operand} {i j : List UInt8} {b : Bool} (ho : o.op = .binOp op t x y yt) (hx : bd σ x = some (bC i)) (hy : bd σ y = some (bC j))
  (hop : (op = .eql ∧ b = decide (i = j)) ∨ (op = .neq ∧ b = !decide (i = j))) : Yv P n ds F σ o (.bool b) := by
 intro a w e _
 have hb : (i == j) = decide (i = j) := by rw [Bool.eq_iff_iff]; simp
 unfold bC at hx hy
 rcases hop with ⟨rfl, rfl⟩ | ⟨rfl, rfl⟩ <;> simp [execOp, ho, e.eval hx, e.eval hy, eqGuard, binOp, Op.stringOp, hb]
theorem qa {ad : Addr} {v : Value} {t : TypeId} (hs : cB P t = true) {w : World} (hc : w.cell? ad = some v) : (Instr.loadAt t (.pointer (some ad))).run P w = .ok v w := by
 simp [Instr.loadAt, Instr.sureAddr, loadVar, (pT hs).1, hc]
theorem CI {t : TypeId} {x : Operand} {ad : Addr} {v : Value} (hs : cB P t = true) (ho : o.op = .load t x) (hx : bd σ x = some (.pointer (some ad))) (hv : di F.h ad = some v) : Yv P n ds F σ o (v) :=
 fun a w en fr => by simp [execOp, ho, en.eval hx, qa hs (ku fr hv)]
theorem yL {t : TypeId} {x : Operand} {ad : Addr} {v : Value} (hs : cB P t = true) (ho : o.op = .load t x) (hd : o.dst = some d) (hx : bd σ x = some (.pointer (some ad))) (hv : ∀ w, St F H w → di (jB w) ad = some v) (hdn : Nat.blt d n = true)
  (h : G n ds F K ((d, v) :: σ) H) : G n ds F (fun a w => o.wp P a w K Q) σ H :=
 nP hd hdn (fun a w en s => by simp [execOp, ho, en.eval hx, qa hs (show w.cell? ad = some v from hv w s)]) h
theorem Lv {b i k : Nat} {vs : List Value} {t : TypeId} (hs : cn P t = some k) {w : World} (hk : vs.length = k) (hc : ∀ j v, vs[j]? = some v → w.cell? ((⟨b, i, none⟩ : Addr).add j) = some v) :
  (Instr.loadAt t (.pointer (some ⟨b, i, none⟩))).run P w = .ok (.agg vs.toArray) w := by
 subst hk
 simp [Instr.loadAt, Instr.sureAddr, loadVar, (dH hs).1, (dH hs).2, run_loadCells_list w _ vs hc]
theorem Bt {ad : Addr} {v u : Value} {t : TypeId} (hs : cB P t = true) {w : World} (hc : w.cell? ad = some u) (hf : w.frozen? ad = false) (h1 : v.oneCell' = true) : (Instr.storeAt t (.pointer (some ad)) v).run P w = .ok () (w.setCell ad v) := by
 have sD : v.cells = #[v] := by cases v <;> simp [Value.oneCell'] at h1 <;> rfl
 simp [Instr.storeAt, Instr.sureAddr, storeVar, (pT hs).2, sD, storeCells, add_zero', run_store P w ad v .plain h1, hc, hf]
theorem yK {t : TypeId} {x y : Operand} {b i : Nat} {e : TypeId} {cs : List Value} {f : aa → List aa} {v : Value} (hs : cB P t = true) (ho : o.op = .store t x y) (hd : o.dst = none) (hx : bd σ x = some (.pointer (some ⟨b, i, none⟩))) (hy : bd σ y = some v)
  (h1 : v.oneCell' = true) (hu : Pos H (af b e cs) f) (hi : i < cs.length) (h : G n ds F K σ (f (af b e (cs.set i v)))) : G n ds F (fun a w => o.wp P a w K Q) σ H := by
 refine .mk fun a w en s => ?_
 obtain ⟨R, s1, s2⟩ := hu.qK
 have sR := s.qK s1
 obtain ⟨hh, hp, hl⟩ := sR.get
 have di := ku hl (dX hp (List.getElem?_eq_getElem hi))
 have jA := Bt (P := P) hs di (sW hp hi hl) h1
 unfold Oper.wp
 have : (execOp a.eval o).run P w = .ok .skip (w.setCell ⟨b, i, none⟩ v) := by simp [execOp, ho, en.eval hx, en.eval hy, jA]
 rw [this, Oper.upon_skip, hd]
 exact h _ _ en ((sR.setCell v).ni (s2 _))
def db : List Value → Nat → List Value → List Value
 | cs, _, [] => cs
 | cs, i, v :: vs => db (cs.set i v) (i + 1) vs
theorem qE : ∀ (vs cs : List Value) (i : Nat), (db cs i vs).length = cs.length := by
 intro vs; induction vs with
 | nil => intro cs i; rfl
 | cons v vs ih => intro cs i; simp [db, ih]
theorem gU {b : Nat} {e : TypeId} {R : List aa} : ∀ (vs : List Value) (i j : Nat) (cs : List Value) (w : World), St F (af b e cs :: R) w → i + j + vs.length ≤ cs.length → (∀ v ∈ vs, v.oneCell' = true) →
  ∃ w', (storeCells ⟨b, i, none⟩ vs j).run P w = .ok () w' ∧ St F (af b e (db cs (i + j) vs) :: R) w' := by
 intro vs
 induction vs with
 | nil => intro i j cs w s _ _; exact ⟨w, by simp [storeCells], s⟩
 | cons v vs ih =>
  intro i j cs w s hl h1
  simp only [List.length_cons] at hl
  obtain ⟨hh, hp, hle⟩ := s.get
  have cJ : i + j < cs.length := by omega
  have di := ku hle (dX hp (List.getElem?_eq_getElem cJ))
  have hf := sW hp cJ hle
  have h1v := h1 v (by simp)
  obtain ⟨w', hr, s'⟩ := ih i (j + 1) (cs.set (i + j) v) _ (s.setCell (i := i + j) v) (by simp; omega) (fun u hu => h1 u (by simp [hu]))
  refine ⟨w', ?_, ?_⟩
  ·simp [storeCells, add_lit, run_store P w _ v .plain h1v, di, hf, hr]
  simpa [db, Nat.add_assoc] using s'
theorem pY {t k : TypeId} {x y : Operand} {b i : Nat} {e : TypeId} {cs vs : List Value} {f : aa → List aa} (hs : cn P t = some k) (ho : o.op = .store t x y) (hd : o.dst = none) (hx : bd σ x = some (.pointer (some ⟨b, i, none⟩))) (hy : bd σ y = some (.agg vs.toArray))
  (hk : vs.length = k) (h1 : ∀ v ∈ vs, v.oneCell' = true) (hu : Pos H (af b e cs) f) (hi : i + vs.length ≤ cs.length) (h : G n ds F K σ (f (af b e (db cs i vs)))) : G n ds F (fun a w => o.wp P a w K Q) σ H := by
 refine .mk fun a w en s => ?_
 obtain ⟨R, s1, s2⟩ := hu.qK
 obtain ⟨w', hr, s'⟩ := gU (P := P) vs i 0 cs w (s.qK s1) (by omega) h1
 unfold Oper.wp
 have : (execOp a.eval o).run P w = .ok .skip w' := by
  simp [execOp, ho, en.eval hx, en.eval hy, Instr.storeAt, Instr.sureAddr, storeVar, (dH hs).2, Value.cells, hk, hr]
 rw [this, Oper.upon_skip, hd]
 exact h _ _ en (s'.ni (s2 _))
theorem UB {t : TypeId} {x : Operand} {v : Value} {cs : List Value} (ho : o.op = .box t x) (hd : o.dst = some d) (hx : bd σ x = some v) (hc : v.cells = cs.toArray) (hdn : Nat.blt d n = true)
  (h : ∀ b, G n ds F K ((d, .pointer (some ⟨b, 0, none⟩)) :: σ) (af b t cs :: H)) : G n ds F (fun a w => o.wp P a w K Q) σ H := by
 refine .mk fun a w en s => ?_
 unfold Oper.wp
 have : (execOp a.eval o).run P w = .ok (.value (.pointer (some ⟨w.heap.size, 0, none⟩))) (w.alloc (.cells cs.toArray t)) := by
  simp [execOp, ho, en.eval hx, Instr.box, newVar, newRow, hc]
 rw [this, Oper.upon_value, hd]
 exact h _ _ _ (en.put hdn _) (s.new t cs)
def bF (P : Program) (t : TypeId) : Option (List Value) := (P.info? t).bind fun i => i.zero.map fun z => z.cells.toList
theorem my {t : TypeId} {cs : List Value} (h : bF P t = some cs) {w : World} : ∃ z, (zeroValue t).run P w = .ok z w ∧ z.cells = cs.toArray := by
 unfold bF at h
 cases hi : P.info? t with
 | none => simp [hi] at h
 | some i =>
  cases hz : i.zero with
  | none => simp [hi, hz] at h
  | some z =>
   simp [hi, hz] at h
   exact ⟨z, by simp [zeroValue, typeInfo, hi, hz], by rw [← h]⟩
theorem K6 {t : TypeId} {cs : List Value} (hz : bF P t = some cs) (ho : o.op = .alloc t) (hd : o.dst = some d) (hdn : Nat.blt d n = true)
  (h : ∀ b, G n ds F K ((d, .pointer (some ⟨b, 0, none⟩)) :: σ) (af b t cs :: H)) : G n ds F (fun a w => o.wp P a w K Q) σ H := by
 refine .mk fun a w en s => ?_
 obtain ⟨z, hr, hc⟩ := my (P := P) hz (w := w)
 unfold Oper.wp
 have : (execOp a.eval o).run P w = .ok (.value (.pointer (some ⟨w.heap.size, 0, none⟩))) (w.alloc (.cells cs.toArray t)) := by
  simp [execOp, ho, Instr.alloc, newVar, newRow, hr, hc]
 rw [this, Oper.upon_value, hd]
 exact h _ _ _ (en.put hdn _) (s.new t cs)
def fF : List aa → Hp → Prop
 | [], _ => True
 | A :: r, h => (∃ k, A k ∧ Le k h) ∧ fF r h
theorem bU : ∀ {H : List aa} {h k : Hp}, aj H h → Le h k → fF H k := by
 intro H
 induction H with
 | nil => intro h k _ _; trivial
 | cons A r ih => intro h k s l; obtain ⟨h1, h2, _, l1, l2, a, s⟩ := s; exact ⟨⟨h1, a, l1.trans l⟩, ih s (l2.trans l)⟩
theorem bs : ∀ {A B : List aa} {h : Hp}, aj (A ++ B) h → ∃ h1 h2, bK h1 h2 ∧ Le h1 h ∧ Le h2 h ∧ aj A h1 ∧ aj B h2 := by
 intro A
 induction A with
 | nil => intro B h s; exact ⟨fun _ => none, h, fun _ => .inl rfl, fun b o e => by simp at e, Le.refl h, trivial, s⟩
 | cons X r ih =>
  intro B h s
  obtain ⟨h1, h2, d, l1, l2, a, s⟩ := s
  obtain ⟨h3, h4, d', l3, l4, s3, s4⟩ := ih s
  exact ⟨fj h1 h3, h4, bK.fj (d.right l4) d', bS l1 (l3.trans l2), l4.trans l2, ⟨h1, h3, d.right l3, ba _ _, aV (d.right l3), a, s3⟩, s4⟩
theorem bB : ∀ {A B : List aa} {h1 h2 : Hp}, aj A h1 → aj B h2 → bK h1 h2 → aj (A ++ B) (fj h1 h2) := by
 intro A
 induction A with
 | nil => intro B h1 h2 _ s d; exact dp s (aV d)
 | cons X r ih =>
  intro B h1 h2 s t d
  obtain ⟨h3, h4, d', l3, l4, a, s⟩ := s
  refine ⟨h3, fj h4 h2, (bK.fj d'.symm (d.left l3).symm).symm, l3.trans (ba _ _), bS (l4.trans (ba _ _)) (aV d), a, ih s t (d.left l4)⟩
theorem yF {ρ : Operand → Value} {f : FuncId} {xs : List Operand} {vs : List Value} {pE : Array TypeId} {w : World} {fn : Func} (ho : o.op = .call { callee := .value (.func f), args := xs.toArray, argTypes := pE })
  (hρ : ρ (.func f) = .func (.func f) #[] #[]) (hv : xs.map ρ = vs) (hf : P.funcs[f]? = some fn) (hb : fn.body.isSome = true) (hnm : (fn.name == "runtime.NumGoroutine") = false) :
  (execOp ρ o).run P w = .ok (.enter f vs.toArray) w := by
 have Zj : fn.body.isNone = false := by rw [← Option.not_isSome, hb]; rfl
 have SJ : ¬ fn.name = "runtime.NumGoroutine" := by simpa using hnm
 have Xy : ¬ fn.body = none := by intro q; rw [q] at hb; cases hb
 simp [execOp, ho, resolve, hρ, Deferred.ofValue, invoke, callFunc, hf, ← hv]
 rw [if_neg SJ, if_neg Xy]
def aA (P : Program) (f : FuncId) : Bool := match P.funcs[f]? with | some fn => fn.body.isSome && !(fn.name == "runtime.NumGoroutine") | none => false
theorem OW {f : FuncId} {xs : List Operand} {vs : List Value} {pE : Array TypeId} {pre : Hp → Prop} {As R : List aa} {T : Value → List aa → Prop} (jw : aA P f = true) (ho : o.op = .call { callee := .value (.func f), args := xs.toArray, argTypes := pE })
  (hd : o.dst = some d) (hv : iH σ xs = some vs) (hc : aL P f vs pre As T) (dh : gY H As R) (gI : ∀ h, Le F.h h → fF R h → pre h) (hdn : Nat.blt d n = true)
  (h : ∀ v H', T v H' → G n ds F K ((d, v) :: σ) (H' ++ R)) : G n ds F (fun a w => o.wp P a w K Q) σ H := by
 refine .mk fun a w en s => ?_
 unfold aA at jw
 cases hf : P.funcs[f]? with
 | none => simp [hf] at jw
 | some fn =>
  simp only [hf, Bool.and_eq_true, Bool.not_eq_true'] at jw
  unfold Oper.wp
  rw [yF ho rfl (en.sj hv) hf jw.1 jw.2, Oper.upon_enter]
  obtain ⟨a1, a2, a3, fr, hh, st, hl, rQ⟩ := s
  obtain ⟨h1, h2, d12, l1, l2, s1, s2⟩ := bs (dh.out _ st)
  have uG : bK h2 F.h := rQ.left l2
  let F' : c9 := { F with h := fj h2 F.h }
  have gV : Le F.h F'.h := aV uG
  have gM : Le h2 F'.h := ba _ _
  have zX : St F' As w := ⟨a1, a2, a3, bS (l2.trans hl) fr, h1, s1, l1.trans hl, (bK.fj d12.symm (rQ.left l1).symm).symm⟩
  refine (hc F' w (gI _ gV (bU s2 gM)) zX).mono ?_
  rintro e w' ⟨v, H', rfl, hT, sw⟩
  obtain ⟨b1, b2, b3, rR, Ag, st2, Af, kf⟩ := sw
  rw [hd]
  refine h v H' hT _ _ (en.put hdn v) ⟨b1, b2, b3, gV.trans rR, fj Ag h2, bB st2 s2 (kf.right gM), bS Af (gM.trans rR), bK.fj (kf.right gV) uG⟩
end rules
end Go.cQ
namespace Go.cQ
open Go
def fK (h : Hp) (a : Option Addr) (cells : List Value) : Prop := ∀ k v, cells[k]? = some v → ∃ ad, a = some ad ∧ di h (ad.add k) = some v
theorem fK.nil {h : Hp} {a : Option Addr} : fK h a [] := fun k v e => by simp at e
theorem fK.mono {h k : Hp} {a : Option Addr} {cells : List Value} (r : fK h a cells) (l : Le h k) : fK k a cells := fun j v e => by
 obtain ⟨ad, h1, h2⟩ := r j v e; exact ⟨ad, h1, bZ l h2⟩
theorem fK.some {h : Hp} {a : Option Addr} {cells : List Value} (r : fK h a cells) (fu : 0 < cells.length) : a.isSome = true := by
 obtain ⟨ad, h1, _⟩ := r 0 _ (List.getElem?_eq_getElem fu); simp [h1]
theorem fK.take {h : Hp} {a : Option Addr} {cells : List Value} (r : fK h a cells) (k : Nat) : fK h a (cells.take k) := fun j v e => by
 rw [List.getElem?_take] at e
 split at e
 ·exact r j v e
 cases e
def wg (a : Option Addr) (l m k : Nat) : Option Addr := if m = l then a else a.map (·.add k)
structure own (a : Option Addr) (cap : Nat) (e : TypeId) (sz : Nat) (xs : List Value) (h : Hp) : Prop where
 fits : xs.length ≤ cap * sz
 aC : cap ≤ maxLen
 block : (a = none ∧ cap = 0) ∨ ∃ b spare, a = some ⟨b, 0, none⟩ ∧ xs.length + spare.length = cap * sz ∧ af b e (xs ++ spare) h
theorem oG {b i : Nat} {e : TypeId} {cs : List Value} {h : Hp} (p : af b e cs h) : fK h (some ⟨b, i, none⟩) (cs.drop i) := fun k v hv => by
 rw [List.getElem?_drop] at hv
 exact ⟨_, rfl, by rw [add_lit]; exact dX p hv⟩
theorem mG {a : Option Addr} {cap : Nat} {e : TypeId} {sz : Nat} {xs : List Value} {h : Hp} (o : own a cap e sz xs h) : fK h a xs := by
 obtain ⟨h1, _, h3 | ⟨b, sp, rfl, _, h5⟩⟩ := o
 ·obtain ⟨rfl, rfl⟩ := h3
  have : xs = [] := List.eq_nil_of_length_eq_zero (by omega)
  subst this; exact fK.nil
 intro k v hv
 refine ⟨_, rfl, ?_⟩
 rw [add_lit, Nat.zero_add]
 exact dX h5 (by rw [List.getElem?_append_left (by have := (List.getElem?_eq_some_iff.1 hv).1; exact this)]; exact hv)
theorem w7 (e : TypeId) (sz : Nat) (h : Hp) : own none 0 e sz [] h := ⟨by simp, by simp [maxLen], .inl ⟨rfl, rfl⟩⟩
theorem lp {b : Nat} {e : TypeId} {cs : List Value} {h : Hp} (p : af b e cs h) (cap sz : Nat) (hc : cs.length = cap * sz) (hm : cap ≤ maxLen) : own (some ⟨b, 0, none⟩) cap e sz cs h :=
 ⟨by omega, hm, .inr ⟨b, [], rfl, by simpa using hc, by simpa using p⟩⟩
theorem sX {a : Option Addr} {cap : Nat} {e : TypeId} {sz : Nat} {xs : List Value} {h : Hp} (o : own a cap e sz xs h) (k : Nat) : own a cap e sz (xs.take k) h := by
 obtain ⟨h1, h2, h3 | ⟨b, sp, rfl, h4, h5⟩⟩ := o
 ·exact ⟨by simp; omega, h2, .inl h3⟩
 refine ⟨by simp; omega, h2, .inr ⟨b, xs.drop k ++ sp, rfl, by simp; omega, ?_⟩⟩
 rw [← List.append_assoc, List.take_append_drop]; exact h5
theorem nw {H : List aa} (e : TypeId) (sz : Nat) {h : Hp} (s : aj H h) : aj (own none 0 e sz [] :: H) h :=
 ⟨fun _ => none, h, fun _ => .inl rfl, fun b o x => by simp at x, Le.refl h, w7 e sz _, s⟩
theorem fX {H : List aa} {A : aa} (hA : ∀ h, A h) {h : Hp} (s : aj H h) : aj (A :: H) h :=
 ⟨fun _ => none, h, fun _ => .inl rfl, fun b o x => by simp at x, Le.refl h, hA _, s⟩
section rules
variable {P : Program} {n : Nat} {ds : List Deferred} {F : c9} {Q : Exit → Act → World → Prop} {K : Act → World → Prop} {σ : aS} {H : List aa} {o : Oper} {d : Nat}
theorem cE (e : TypeId) (sz : Nat) (h : G n ds F K σ (own none 0 e sz [] :: H)) : G n ds F K σ H := az (fun _ s => nw e sz s) h
theorem YB {t : TypeId} {x : Operand} {a : Option Addr} {l c : Nat} {ek : TypeId × Nat} (ht : cH P t = some ek) (ho : o.op = .call { callee := .builtin .len, args := #[x], argTypes := #[t] }) (hx : bd σ x = some (.slice a l c)) : Yv P n ds F σ o (.int .i64 l) :=
 fun a w e fr => by
  obtain ⟨e', k⟩ := ek
  simp [execOp, ho, resolve, invoke, builtin, Builtin.len_, e.eval hx, run_underlying (ic ht).1, goInt]
theorem Tw {t : TypeId} {x : Operand} {l : List UInt8} (ht : P.underlying t = some .string) (ho : o.op = .call { callee := .builtin .len, args := #[x], argTypes := #[t] }) (hx : bd σ x = some (bC l)) : Yv P n ds F σ o (.int .i64 l.length) :=
 fun a w e fr => by
  unfold bC at hx
  have tZ : (ByteArray.mk l.toArray).size = l.length := by show l.toArray.size = l.length; simp
  simp [execOp, ho, resolve, invoke, builtin, Builtin.len_, e.eval hx, run_underlying ht, goInt, tZ]
theorem Yz {x y : Operand} {k : IntKind} {i j : Int} {pE : Array TypeId} (ho : o.op = .call { callee := .builtin .min, args := #[x, y], argTypes := pE }) (hx : bd σ x = some (.int k i)) (hy : bd σ y = some (.int k j)) : Yv P n ds F σ o (.int k (min i j)) :=
 fun a w e fr => by
  have : (if j < i then j else i) = min i j := by omega
  simp [execOp, ho, resolve, invoke, builtin, Builtin.min_, Builtin.min2, e.eval hx, e.eval hy, this]
theorem YA {x y : Operand} {k : IntKind} {i j : Int} {pE : Array TypeId} (ho : o.op = .call { callee := .builtin .max, args := #[x, y], argTypes := pE }) (hx : bd σ x = some (.int k i)) (hy : bd σ y = some (.int k j)) : Yv P n ds F σ o (.int k (max i j)) :=
 fun a w e fr => by
  have : (if j > i then j else i) = max i j := by omega
  simp [execOp, ho, resolve, invoke, builtin, Builtin.max_, Builtin.max2, e.eval hx, e.eval hy, this]
theorem CJ {t e sz m : Nat} {x y : Operand} {a : Option Addr} {l c j : Nat} {k : IntKind} {i : Int} (ht : cH P t = some (e, sz)) (ho : o.op = .indexAddr t x y) (hx : bd σ x = some (.slice a l c)) (hy : bd σ y = some (.int k i))
  (hj : i = (j : Int)) (hl : j < l) (hm : j * sz = m) (hs : a.isSome = true) : Yv P n ds F σ o (.pointer (a.map (·.add m))) :=
 fun a w en fr => by
  obtain ⟨hu, inf, hi, hz⟩ := ic ht
  obtain ⟨ad, rfl⟩ := Option.isSome_iff_exists.1 hs
  subst hj; subst hm
  simp [execOp, ho, Instr.indexAt, en.eval hx, en.eval hy, asIntOf, run_underlying hu, sizeOf, typeInfo, hi, hz, hl]
def Cj (σ : aS) : Option Operand → Nat → Nat → Prop
 | none, dflt, v => v = dflt
 | some x, _, v => ∃ k i, bd σ x = some (.int k i) ∧ i = (v : Int)
theorem eZ {x : Value} {y v : Nat} {code : BoundsCode} {k : IntKind} {i : Int} {w : World} (hx : x = .int k i) (hi : i = (v : Int)) (hv : v ≤ y) : (Instr.sliceBound x y code).run P w = .ok v w := by
 subst hx; subst hi
 simp [Instr.sliceBound, asIntOf, hv]
theorem BD {lo hi mx : Option Operand} {a : Act} {w : World} {len cap l h m : Nat} (en : Env n ds σ a) (hl : Cj σ lo 0 l) (hh : Cj σ hi len h) (hm : Cj σ mx cap m) (h1 : l ≤ h) (h2 : h ≤ m) (h3 : m ≤ cap) (hx : mx.isSome = true → hi.isSome = true) (b : Bool) :
  (Instr.sliceBounds b len cap (lo.map a.eval) (hi.map a.eval) (mx.map a.eval)).run P w = .ok (l, h, m) w := by
 unfold Instr.sliceBounds
 cases mx with
 | none =>
  simp only [Cj] at hm; subst hm
  cases hi with
  | none =>
   simp only [Cj] at hh; subst hh
   cases lo with
   | none => simp only [Cj] at hl; subst hl; simp
   | some x => obtain ⟨k, i, e, e2⟩ := hl; simp [eZ (en.eval e) e2 h1]
  | some y =>
   obtain ⟨k', i', e', XC⟩ := hh
   cases lo with
   | none => simp only [Cj] at hl; subst hl; simp [eZ (en.eval e') XC h2]
   | some x => obtain ⟨k, i, e, e2⟩ := hl; simp [eZ (en.eval e') XC h2, eZ (en.eval e) e2 h1]
 | some z =>
  obtain ⟨k'', i'', e'', Yl⟩ := hm
  cases hi with
  | none => simp at hx
  | some y =>
   obtain ⟨k', i', e', XC⟩ := hh
   cases lo with
   | none => simp only [Cj] at hl; subst hl; simp [eZ (en.eval e'') Yl h3, eZ (en.eval e') XC h2]
   | some x => obtain ⟨k, i, e, e2⟩ := hl; simp [eZ (en.eval e'') Yl h3, eZ (en.eval e') XC h2, eZ (en.eval e) e2 h1]
theorem N7 {t e sz : TypeId} {x : Operand} {lo hi mx : Option Operand} {a : Option Addr} {len cap : Nat} (l hh m : Nat) (ht : cH P t = some (e, sz)) (ho : o.op = .slice t x lo hi mx) (hx : bd σ x = some (.slice a len cap))
  (Xu : Cj σ lo 0 l) (hbh : Cj σ hi len hh) (WL : Cj σ mx cap m) (h1 : l ≤ hh) (h2 : hh ≤ m) (h3 : m ≤ cap) (D6 : mx.isSome = true → hi.isSome = true) : Yv P n ds F σ o (.slice (wg a l m (l * sz)) (hh - l) (m - l)) :=
 fun ac w en fr => by
  obtain ⟨hu, inf, xP, hz⟩ := ic ht
  have hr := BD (P := P) (w := w) en Xu hbh WL h1 h2 h3 D6 true
  simp [execOp, ho, Instr.sliceAt, Instr.slice, en.eval hx, run_underlying hu, hr, sizeOf, typeInfo, xP, hz, wg]
def aq (l : List UInt8) : List Value := l.map fun c => .int .u8 c.toNat
@[simp] theorem uv (l : List UInt8) : (aq l).length = l.length := by simp [aq]
theorem eo {l : List UInt8} : ∀ v ∈ aq l, v.oneCell' = true := by
 intro v hv; simp only [aq, List.mem_map] at hv; obtain ⟨c, _, rfl⟩ := hv; rfl
theorem o5 {a : Option Addr} {l : List UInt8} {c : Nat} {w : World} (hr : fK (jB w) a (aq l)) : (Conv.bytesToString (.slice a l.length c)).run P w = .ok (bC l) w := by
 cases a with
 | none =>
  have : l = [] := by
   cases l with
   | nil => rfl
   | cons x r => obtain ⟨ad, h1, _⟩ := hr 0 (.int .u8 x.toNat) (by simp [aq]); cases h1
  subst this; simp [Conv.bytesToString, bC]; rfl
 | some ad =>
  have sD : ∀ j v, (aq l)[j]? = some v → w.cell? (ad.add j) = some v := fun j v e => by
   obtain ⟨XH, h1, h2⟩ := hr j v e; cases h1; exact h2
  have Ri := run_loadCells_list (P := P) w ad (aq l) sD
  rw [uv] at Ri
  have h := run_bytesToString (P := P) w ad l.length c (l.map fun x => (x.toNat : Int)) (by rw [Ri]; simp [aq])
  rw [h]
  have key : ∀ (l : List UInt8) (acc : ByteArray), (l.map fun x => (x.toNat : Int)).foldl (fun r q => r.push (UInt8.ofNat q.toNat)) acc = ⟨acc.data ++ l.toArray⟩ := by
   intro l
   induction l with
   | nil => intro acc; simp
   | cons x r ih =>
    intro acc
    simp only [List.map_cons, List.foldl_cons, ih]
    apply ByteArray.ext; apply Array.ext'
    simp [ByteArray.push]
  rw [key]
  simp [bC]
theorem Bm {s t : TypeId} {x : Operand} {a : Option Addr} {l : List UInt8} {m c sz : Nat} {e : TypeId} (hs : cH P s = some (e, sz)) (he : P.underlying e = some (.int .u8)) (ht : P.underlying t = some .string) (ho : o.op = .convert s t x)
  (hx : bd σ x = some (.slice a m c)) (hm : m = l.length) (hr : fK F.h a (aq l)) : Yv P n ds F σ o (bC l) := fun ac w en fr => by
 subst hm
 have Xf := o5 (P := P) (c := c) (hr.mono fr)
 have := run_underlying (P := P) (ic hs).1 w
 cases a with
 | none => simp [execOp, ho, en.eval hx, convert, this, run_underlying ht, run_underlying he, Xf]
 | some ad => simp [execOp, ho, en.eval hx, convert, this, run_underlying ht, run_underlying he, Xf]
theorem N8 {s t : TypeId} {x : Operand} {l : List UInt8} (hs : P.underlying s = some .string) (ht : P.underlying t = some .string) (ho : o.op = .convert s t x) (hx : bd σ x = some (bC l)) : Yv P n ds F σ o (bC l) := fun ac w en fr => by
 unfold bC at hx ⊢
 simp [execOp, ho, en.eval hx, convert, run_underlying hs, run_underlying ht]
def WR (l : List UInt8) (i : Nat) : Nat := (l.getD i 0).toNat
theorem Ha {l : List UInt8} {i : Nat} (h : i < l.length) : (aq l)[i]? = some (.int .u8 (WR l i : Int)) := by
 simp [aq, WR, h]
theorem fK.IE {h : Hp} {a : Option Addr} {l : List UInt8} (r : fK h a (aq l)) (hl : 0 < l.length) : a.isSome = true := r.some (by simpa using hl)
end rules
end Go.cQ
namespace Go.cQ
open Go
def om (P : Program) (t : TypeId) : Option (TypeId × Nat × Nat × List Value) :=
 match P.underlying t with
 | some (.slice e) => match P.info? e with
  | some i => match i.zero with
   | some z => if z.cells.size = i.size && 0 < i.size then some (e, i.size, i.bytes, z.cells.toList) else none
   | none => none
  | none => none
 | _ => none
theorem kE {P : Program} {t e sz j7 : Nat} {z : List Value} (h : om P t = some (e, sz, j7, z)) :
  P.underlying t = some (.slice e) ∧ 0 < sz ∧ z.length = sz ∧ ∃ i zv, P.info? e = some i ∧ i.size = sz ∧ i.bytes = j7 ∧ i.zero = some zv ∧ zv.cells = z.toArray := by
 unfold om at h
 cases hu : P.underlying t with
 | none => simp [hu] at h
 | some d =>
  cases d <;> simp [hu] at h
  rename_i e'
  cases hi : P.info? e' with
  | none => simp [hi] at h
  | some i =>
   simp only [hi] at h
   cases hz : i.zero with
   | none => simp [hz] at h
   | some zv =>
    simp only [hz] at h
    split at h
    ·rename_i hc
     simp only [Bool.and_eq_true, decide_eq_true_eq, Option.some.injEq, Prod.mk.injEq] at h hc
     obtain ⟨rfl, rfl, rfl, rfl⟩ := h
     exact ⟨rfl, hc.2, by simpa using hc.1, i, zv, hi, rfl, rfl, hz, by simp⟩
    cases h
theorem mA : ∀ (vs pre MU post : List Value), MU.length = vs.length → db (pre ++ (MU ++ post)) pre.length vs = pre ++ (vs ++ post) := by
 intro vs
 induction vs with
 | nil => intro pre MU post h; have : MU = [] := List.eq_nil_of_length_eq_zero (by simpa using h); subst this; rfl
 | cons v vs ih =>
  intro pre MU post h
  cases MU with
  | nil => simp at h
  | cons m MU =>
   simp only [db, List.cons_append]
   have h1 : (pre ++ m :: (MU ++ post)).set pre.length v = (pre ++ [v]) ++ (MU ++ post) := by
    rw [List.set_append_right _ _ (Nat.le_refl _)]; simp
   have h2 : pre.length + 1 = (pre ++ [v]).length := by simp
   rw [h1, h2, ih (pre ++ [v]) MU post (by simpa using h)]
   simp
theorem jH {cs vs : List Value} {i : Nat} (h : i + vs.length ≤ cs.length) : db cs i vs = cs.take i ++ (vs ++ cs.drop (i + vs.length)) := by
 have h1 : cs = cs.take i ++ ((cs.drop i).take vs.length ++ cs.drop (i + vs.length)) := by
  rw [← List.drop_drop, List.take_append_drop, List.take_append_drop]
 have hl : (cs.take i).length = i := by simp; omega
 have := mA vs (cs.take i) ((cs.drop i).take vs.length) (cs.drop (i + vs.length)) (by simp; omega)
 rw [← h1, hl] at this
 exact this
def Src (P : Program) (F : c9) (H : List aa) (sz m : Nat) (x : Value) (news : List Value) : Prop :=
 ∀ w, St F H w → (Builtin.lenOf x).run P w = .ok m w ∧ (∀ j, j ≤ m → (Builtin.firstCells sz j x).run P w = .ok (news.take (j * sz)).toArray w) ∧ news.length = m * sz
theorem eF {P : Program} {F : c9} {H : List aa} {sz m c : Nat} {a : Option Addr} {news : List Value} (hl : news.length = m * sz) (hr : ∀ h, Le F.h h → fF H h → fK h a news) : Src P F H sz m (.slice a m c) news := by
 intro w s
 obtain ⟨hh, st, hle, _⟩ := s.own
 have r := hr (jB w) s.frame (bU st hle)
 refine ⟨by simp [Builtin.lenOf], fun j hj => ?_, hl⟩
 cases a with
 | none =>
  have : news = [] := by
   cases news with
   | nil => rfl
   | cons x y => obtain ⟨ad, h1, _⟩ := r 0 x (by simp); cases h1
  subst this; simp [Builtin.firstCells]
 | some ad =>
  refine run_firstCells_some w sz j ad m c (news.take (j * sz)) ?_ ?_
  ·rw [List.length_take, hl]; exact Nat.min_eq_left (Nat.mul_le_mul_right _ hj)
  intro i v hv
  obtain ⟨XH, h1, h2⟩ := (r.take (j * sz)) i v hv
  cases h1; exact h2
section rules
variable {P : Program} {n : Nat} {ds : List Deferred} {F : c9} {Q : Exit → Act → World → Prop} {K : Act → World → Prop} {σ : aS} {H : List aa} {o : Oper} {d : Nat}
theorem zR {t t2 ty : TypeId} {e sz j7 : Nat} {z : List Value} (ht : om P t = some (e, sz, j7, z)) {d2 : TypeDesc} (oc : P.underlying t2 = some d2) (Nb : d2 = .string ∨ ∃ e2, d2 = .slice e2) {b off len cap m : Nat} {cs news : List Value} {R : List aa} {x : Value} {w : World}
  (s : St F (af b e cs :: R) w) (hs : Src P F (af b e cs :: R) sz m x news) (h1 : ∀ v ∈ news, v.oneCell' = true) (nq : len + m ≤ cap) (Ap : off + (len + m) * sz ≤ cs.length) :
  ∃ w', (Builtin.append_ #[t, t2] ty #[.slice (some ⟨b, off, none⟩) len cap, x]).run P w = .ok (.slice (some ⟨b, off, none⟩) (len + m) cap) w' ∧ St F (af b e (db cs (off + len * sz) news) :: R) w' := by
 obtain ⟨hu, tZ, R8, i, zv, hi, oy, Sn, hz, Cc⟩ := kE ht
 obtain ⟨s1, s2, s3⟩ := hs w s
 have QG := s2 m (Nat.le_refl _)
 rw [← s3, List.take_length] at QG
 obtain ⟨w', hr, st⟩ := gU (P := P) news (off + len * sz) 0 cs w s (by rw [s3]; rw [Nat.add_mul] at Ap; omega) h1
 refine ⟨w', ?_, by simpa using st⟩
 rcases Nb with rfl | ⟨e2, rfl⟩ <;> simp [Builtin.append_, run_underlying hu, run_underlying oc, sizeOf, typeInfo, hi, oy, s1, nq, QG, add_lit, hr]
theorem zS {t t2 ty : TypeId} {e sz j7 : Nat} {z : List Value} (ht : om P t = some (e, sz, j7, z)) {d2 : TypeDesc} (oc : P.underlying t2 = some d2) (Nb : d2 = .string ∨ ∃ e2, d2 = .slice e2) {a : Option Addr} {len cap m : Nat} {vZ news : List Value} {R : List aa} {x : Value} {w : World}
  (s : St F R w) (ho : vZ.length = len * sz) (hro : fK (jB w) a vZ) (hs : Src P F R sz m x news) (nq : cap < len + m) (hb : (len + m) * j7 ≤ 140737488355328) (WM : len + m ≤ 9223372036854775807) :
  ∃ w' b uo, (Builtin.append_ #[t, t2] ty #[.slice a len cap, x]).run P w = .ok (.slice (some ⟨b, 0, none⟩) (len + m) uo) w' ∧ len + m ≤ uo ∧ uo ≤ maxLen ∧
   ∃ sp, (vZ ++ news).length + sp.length = uo * sz ∧ St F (af b e ((vZ ++ news) ++ sp) :: R) w' := by
 obtain ⟨hu, tZ, R8, i, zv, hi, oy, Sn, hz, Cc⟩ := kE ht
 have sd : St F R w.drew := s.drew
 obtain ⟨s1, _, s3⟩ := hs w s
 obtain ⟨_, s2, _⟩ := hs w.drew sd
 have QG := s2 m (Nat.le_refl _)
 rw [← s3, List.take_length] at QG
 have Ap := growslice_fits nq hb
 have hold : (Builtin.firstCells sz len (.slice a len cap)).run P w.drew = .ok vZ.toArray w.drew := by
  cases a with
  | none =>
   have : vZ = [] := by
    cases vZ with
    | nil => rfl
    | cons x y => obtain ⟨ad, h1, _⟩ := hro 0 x (by simp); cases h1
   subst this; simp [Builtin.firstCells]
  | some ad =>
   refine run_firstCells_some w.drew sz len ad len cap vZ ho ?_
   intro j v hv
   obtain ⟨XH, h1, h2⟩ := hro j v hv
   cases h1; exact h2
 have Ce := grownCap_ge w (len + m) cap e
 have hle := grownCap_le_maxLen w (len + m) cap e (by simp only [maxLen]; omega)
 have M7 : ((vZ ++ news)).length + (Builtin.zeroCells z.toArray (grownCap w (len + m) cap e - (len + m))).toList.length = grownCap w (len + m) cap e * sz := by
  have hz' : (Builtin.zeroCells z.toArray (grownCap w (len + m) cap e - (len + m))).toList.length = (grownCap w (len + m) cap e - (len + m)) * sz := by
   rw [Array.length_toList, size_zeroCells]; simp [R8]
  rw [hz', List.length_append, ho, s3, ← Nat.add_mul, ← Nat.add_mul]
  congr 1; omega
 refine ⟨_, w.heap.size, grownCap w (len + m) cap e, ?_, Ce, hle, (Builtin.zeroCells z.toArray (grownCap w (len + m) cap e - (len + m))).toList, M7, sd.new e _⟩
 have hn : ¬ (len + m ≤ cap) := by omega
 have h63' : ¬ (9223372036854775807 < ((len : Int) + (m : Int))) := by omega
 have h48' : ¬ (281474976710656 < Builtin.nextslicecap (len + m) cap * j7) := by omega
 have hdw : ({ w with drawn := w.drawn + 1 } : World) = w.drew := rfl
 rcases Nb with rfl | ⟨e2, rfl⟩ <;> simp [Builtin.append_, run_underlying hu, run_underlying oc, sizeOf, typeInfo, hi, oy, Sn, s1, hn, h63', h48', Question.forced, hdw, hold, QG, zeroValue, hz, Cc, newRow, grownCap]
 all_goals
  congr 2
  apply Array.ext'
  simp
theorem B9 {t t2 ty : TypeId} {e sz j7 : Nat} {z : List Value} (ht : om P t = some (e, sz, j7, z)) {d2 : TypeDesc} (oc : P.underlying t2 = some d2) (Nb : d2 = .string ∨ ∃ e2, d2 = .slice e2) {a : Option Addr} {len cap m : Nat} {xs news : List Value} {R : List aa} {x : Value} {w : World}
  (s : St F (own a cap e sz xs :: R) w) (ho : xs.length = len * sz) (hs : Src P F (own a cap e sz xs :: R) sz m x news) (h1 : ∀ v ∈ news, v.oneCell' = true) (hb : (len + m) * j7 ≤ 140737488355328) (WM : len + m ≤ 9223372036854775807) :
  ∃ w' a' uo, (Builtin.append_ #[t, t2] ty #[.slice a len cap, x]).run P w = .ok (.slice a' (len + m) uo) w' ∧ len + m ≤ uo ∧ St F (own a' uo e sz (xs ++ news) :: R) w' := by
 obtain ⟨hu, tZ, R8, i, zv, hi, oy, Sn, hz, Cc⟩ := kE ht
 have Sd := (hs w s).2.2
 by_cases nq : len + m ≤ cap
 ·obtain ⟨hh, ho', hle⟩ := s.get
  obtain ⟨q1, q2, q3 | ⟨b, sp, rfl, q4, q5⟩⟩ := ho'
  ·obtain ⟨rfl, rfl⟩ := q3
   have ua : len = 0 := by omega
   have WI : m = 0 := by omega
   subst ua; subst WI
   have hx : xs = [] := List.eq_nil_of_length_eq_zero (by simpa using ho)
   have hn : news = [] := List.eq_nil_of_length_eq_zero (by simpa using Sd)
   subst hx; subst hn
   obtain ⟨s1, s2, _⟩ := hs w s
   have QG := s2 0 (Nat.le_refl _)
   refine ⟨w, none, 0, ?_, by omega, (by simpa using s)⟩
   simp at QG
   rcases Nb with rfl | ⟨e2, rfl⟩ <;> simp [Builtin.append_, run_underlying hu, run_underlying oc, sizeOf, typeInfo, hi, oy, s1, QG]
  ·
   have hpt : St F (af b e (xs ++ sp) :: R) w := by
    obtain ⟨a1, a2, a3, fr, h, ⟨uc, h2', dd, l1, l2, wb, st⟩, y, zz⟩ := s
    obtain ⟨_, _, q3' | ⟨b', sp', e', q4', q6⟩⟩ := wb
    ·exact absurd q3'.1 (by simp)
    simp only [Option.some.injEq, Addr.mk.injEq, and_true] at e'
    subst e'
    have h6 := l1.trans y
    obtain ⟨lo, xP, hf, fS⟩ := q6
    have hw1 := h6 _ _ fS
    obtain ⟨lo2, Hj, hf2, lK⟩ := q5
    have hw2 := hle _ _ lK
    rw [hw1] at hw2
    simp only [Option.some.injEq, Obj.cells.injEq, List.toArray_eq_iff] at hw2
    have M7 : sp' = sp := by
     have := hw2.1
     simpa using this
    subst M7
    exact ⟨a1, a2, a3, fr, h, ⟨uc, h2', dd, l1, l2, ⟨lo, xP, hf, fS⟩, st⟩, y, zz⟩
   have Sc : Src P F (af b e (xs ++ sp) :: R) sz m x news := fun w' s' => hs w' (s'.sub fun h st => aY (fun h' p => ⟨by omega, q2, .inr ⟨b, sp, rfl, q4, p⟩⟩) st)
   obtain ⟨w', hr, st⟩ := zR (P := P) (ty := ty) ht oc Nb (off := 0) hpt Sc h1 nq (by rw [List.length_append, q4]; simpa using Nat.mul_le_mul_right sz nq)
   refine ⟨w', _, cap, hr, nq, ?_⟩
   have UU : db (xs ++ sp) (0 + len * sz) news = (xs ++ news) ++ sp.drop news.length := by
    rw [Nat.zero_add, ← ho]
    have QI : news.length ≤ sp.length := by
     have h2 := Nat.mul_le_mul_right sz nq
     rw [Nat.add_mul] at h2
     omega
    have := mA news xs (sp.take news.length) (sp.drop news.length) (by simp; omega)
    rw [List.take_append_drop] at this
    rw [this, List.append_assoc]
   rw [UU] at st
   refine st.sub fun h s' => aY (fun h' p => ⟨?_, q2, .inr ⟨b, _, rfl, ?_, p⟩⟩) s'
   ·rw [List.length_append, ho, Sd, ← Nat.add_mul]; exact Nat.mul_le_mul_right _ nq
   have h2 := Nat.mul_le_mul_right sz nq
   rw [Nat.add_mul] at h2
   simp only [List.length_append, List.length_drop]
   omega
 obtain ⟨hh, ho', hle⟩ := s.get
 obtain ⟨w', b, uo, hr, Ce, HB, sp, M7, st⟩ := zS (P := P) (ty := ty) (cap := cap) ht oc Nb s ho ((mG ho').mono hle) hs (by omega) hb WM
 refine ⟨w', _, uo, hr, Ce, ?_⟩
 have st2 := (st.sub fun _ s' => cV s').drop
 refine st2.sub fun h s' => aY (fun h' p => ⟨?_, HB, .inr ⟨b, sp, rfl, M7, p⟩⟩) s'
 omega
def je (P : Program) (t : TypeId) : Bool := match P.underlying t with | some (.slice _) => true | some .string => true | _ => false
theorem zC {t : TypeId} (h : je P t = true) : ∃ d, P.underlying t = some d ∧ (d = .string ∨ ∃ e2, d = .slice e2) := by
 unfold je at h
 cases hu : P.underlying t with
 | none => simp [hu] at h
 | some d => rw [hu] at h; cases d <;> simp at h <;> exact ⟨_, rfl, by simp⟩
theorem xu {ρ : Operand → Value} {x y : Operand} {t t2 : TypeId} {w : World} (ho : o.op = .call { callee := .builtin .append, args := #[x, y], argTypes := #[t, t2] }) :
  (execOp ρ o).run P w = ((Builtin.append_ #[t, t2] o.type #[ρ x, ρ y]).run P w).andThen fun v w' => .ok (.value v) w' := by
 simp [execOp, ho, resolve, invoke, builtin]
theorem fY {t t2 : TypeId} {e sz j7 m len cap : Nat} {z xs news : List Value} {x y : Operand} {a : Option Addr} {v : Value} {f : aa → List aa} (ht : om P t = some (e, sz, j7, z)) (oc : je P t2 = true)
  (ho : o.op = .call { callee := .builtin .append, args := #[x, y], argTypes := #[t, t2] }) (hd : o.dst = some d) (hx : bd σ x = some (.slice a len cap)) (hy : bd σ y = some v)
  (hu : Pos H (own a cap e sz xs) f) (hl : xs.length = len * sz) (hs : Src P F H sz m v news) (h1 : ∀ u ∈ news, u.oneCell' = true) (hb : (len + m) * j7 ≤ 140737488355328) (WM : len + m ≤ 9223372036854775807) (hdn : Nat.blt d n = true)
  (h : ∀ a' c', len + m ≤ c' → G n ds F K ((d, .slice a' (len + m) c') :: σ) (f (own a' c' e sz (xs ++ news)))) : G n ds F (fun a w => o.wp P a w K Q) σ H := by
 refine .mk fun ac w en s => ?_
 obtain ⟨d2, Nb, hd2'⟩ := zC oc
 obtain ⟨R, qK, back⟩ := hu.qK
 obtain ⟨w', a', c', hr, Ce, st⟩ := B9 (P := P) (ty := o.type) ht Nb hd2' (s.qK qK) hl (fun w' s' => hs w' (s'.ni qK)) h1 hb WM
 unfold Oper.wp
 rw [xu ho, en.eval hx, en.eval hy, hr, Result.andThen_ok, Oper.upon_value, hd]
 exact h a' c' Ce _ _ (en.put hdn _) (st.ni (back _))
theorem bf {t t2 : TypeId} {e sz j7 m len cap b : Nat} {z xs news : List Value} {x y : Operand} {a : Option Addr} {c : Nat} {e2 : TypeId} {f : aa → List aa} (ht : om P t = some (e, sz, j7, z)) (oc : je P t2 = true)
  (ho : o.op = .call { callee := .builtin .append, args := #[x, y], argTypes := #[t, t2] }) (hd : o.dst = some d) (hx : bd σ x = some (.slice a len cap)) (hy : bd σ y = some (.slice (some ⟨b, 0, none⟩) m c))
  (hu : Pos H (own a cap e sz xs) f) (hl : xs.length = len * sz) (hm : news.length = m * sz) (h1 : ∀ u ∈ news, u.oneCell' = true) (hb : (len + m) * j7 ≤ 140737488355328) (WM : len + m ≤ 9223372036854775807) (hdn : Nat.blt d n = true)
  (h : ∀ a' c', len + m ≤ c' → G n ds F K ((d, .slice a' (len + m) c') :: σ) (f (own a' c' e sz (xs ++ news)))) : G n ds F (fun a w => o.wp P a w K Q) σ (af b e2 news :: H) := by
 refine fY ht oc ho hd hx hy (.there hu) hl (eF hm ?_) h1 hb WM hdn ?_
 ·intro hh _ il
  obtain ⟨⟨k, pk, lk⟩, _⟩ := il
  exact (oG (i := 0) pk).mono lk
 intro a' c' hc
 exact az (fun _ s => by obtain ⟨_, _, _, _, l2, _, s⟩ := s; exact dp s l2) (h a' c' hc)
def lG (pl : Nat → Option (Nat × Nat)) : List Value → List (Nat × Value) → Option (List Value)
 | cells, [] => some cells
 | cells, (i, v) :: rest =>
  match pl i with
  | none => none
  | some (off, size) => if v.cells.size = size ∧ off + size ≤ cells.length then lG pl (db cells off v.cells.toList) rest else none
theorem BB : ∀ (vs : List Value) (cs : List Value) (off k : Nat),
  ((vs.zipIdx k).foldl (fun (c : Array Value) (p : Value × Nat) => c.setIfInBounds (off + p.2) p.1) cs.toArray) = (db cs (off + k) vs).toArray := by
 intro vs
 induction vs with
 | nil => intro cs off k; rfl
 | cons v vs ih =>
  intro cs off k
  simp only [List.zipIdx_cons, List.foldl_cons, db]
  have := ih (cs.set (off + k) v) off (k + 1)
  rw [← Nat.add_assoc] at this
  rw [← this]
  simp
theorem fill_eq (pl : Nat → Option (Nat × Nat)) : ∀ (parts : List (Nat × Value)) (cells : List Value) (r : List Value), lG pl cells parts = some r → Instr.fill pl cells.toArray parts = some r.toArray := by
 intro parts
 induction parts with
 | nil => intro cells r h; simp [lG] at h; simp [Instr.fill, h]
 | cons p rest ih =>
  intro cells r h
  obtain ⟨i, v⟩ := p
  simp only [lG] at h
  cases hp : pl i with
  | none => simp [hp] at h
  | some q =>
   obtain ⟨off, size⟩ := q
   simp only [hp] at h
   split at h
   ·rename_i hc
    have := ih _ _ h
    simp only [Instr.fill, hp]
    rw [if_neg (by simp only [List.size_toArray, ne_eq, decide_not, Bool.or_eq_true, Bool.not_eq_true', decide_eq_false_iff_not, decide_eq_true_eq]; omega)]
    have h2 := BB v.cells.toList cells off 0
    rw [Nat.add_zero] at h2
    rw [← this, ← h2, ← Array.foldl_toList]
    simp
   cases h
def eV (z : List Value) (k : Nat) : List Value := (List.range k).map fun i => (z[i % z.length]?).getD undef
theorem mf (v : Value) (k : Nat) : eV [v] k = List.replicate k v := by
 apply List.ext_getElem
 ·simp [eV]
 intro i h1 h2; simp [eV, Nat.mod_one]
theorem ib (z : List Value) (k : Nat) : (eV z k).length = k := by simp [eV]
theorem CH {z : List Value} (hz : 0 < z.length) (k : Nat) : (Array.range k).map (fun i => (z.toArray)[i % z.toArray.size]!) = (eV z k).toArray := by
 apply Array.ext'
 simp only [Array.toList_map, Array.toList_range, eV]
 apply List.map_congr_left
 intro i _
 have : i % z.length < z.length := Nat.mod_lt _ hz
 simp [this]
theorem qj {a : Act} (en : Env n ds σ a) {parts : List (Nat × Operand)} {vs : List Value} (h : iH σ (parts.map (·.2)) = some vs) : (parts.map fun p => (p.1, a.eval p.2)) = (parts.map (·.1)).zip vs := by
 have := en.sj h
 rw [← this]
 clear h this
 induction parts with
 | nil => rfl
 | cons p r ih => simp only [List.map_cons, List.zip_cons_cons, ih]
theorem UA {t : TypeId} {e sz j7 len : Nat} {z vs cs : List Value} {parts : List (Nat × Operand)} (ht : om P t = some (e, sz, j7, z)) (ho : o.op = .buildSlice t len parts.toArray) (hd : o.dst = some d) (hv : iH σ (parts.map (·.2)) = some vs)
  (hk : Nat.ble (len * sz) 16777216 = true) (hc : lG (fun i => some (i * sz, sz)) (eV z (len * sz)) ((parts.map (·.1)).zip vs) = some cs) (hdn : Nat.blt d n = true)
  (h : ∀ b, G n ds F K ((d, .slice (some ⟨b, 0, none⟩) len len) :: σ) (af b e cs :: H)) : G n ds F (fun a w => o.wp P a w K Q) σ H := by
 refine .mk fun ac w en s => ?_
 obtain ⟨hu, tZ, R8, i, zv, hi, oy, Sn, hz, Cc⟩ := kE ht
 have hp := qj en hv
 have Si : ¬ (2 ^ 24 < len * sz) := by have := Nat.le_of_ble_eq_true hk; omega
 have hz0 : 0 < z.length := by omega
 have sD : (if len * sz = 0 then (pure #[] : Sem (Array Value)) else do pure (← zeroValue e).cells).run P w = .ok (if len * sz = 0 then #[] else z.toArray) w := by
  split <;> simp [zeroValue, typeInfo, hi, hz, Cc]
 have ug : (Array.range (len * sz)).map (fun j => (if len * sz = 0 then (#[] : Array Value) else z.toArray)[j % (if len * sz = 0 then (#[] : Array Value) else z.toArray).size]!) = (eV z (len * sz)).toArray := by
  by_cases h0 : len * sz = 0
  ·simp [h0, eV]
  simp only [h0, if_false]; exact CH hz0 _
 unfold Oper.wp
 have : (execOp ac.eval o).run P w = .ok (.value (.slice (some ⟨w.heap.size, 0, none⟩) len len)) (w.alloc (.cells cs.toArray e)) := by
  have iW := fill_eq _ _ _ _ hc
  rw [← hp] at iW
  by_cases h0 : len * sz = 0
  ·simp only [h0, if_true] at ug
   rw [h0] at iW
   have H5 : (Array.range 0).map (fun _ => (default : Value)) = (eV z 0).toArray := by simp [eV]
   simp [execOp, ho, Instr.buildSlice, run_underlying hu, sizeOf, typeInfo, hi, oy, h0, H5, iW, newRow]
  simp only [h0, if_false] at ug
  simp [execOp, ho, Instr.buildSlice, run_underlying hu, sizeOf, typeInfo, zeroValue, hi, oy, h0, Si, hz, Cc]
  rw [show (Array.range (len * sz)).map (fun x => (z[x % z.length]?).getD default) = (eV z (len * sz)).toArray from by simpa using ug, iW]
  simp [newRow]
 rw [this, Oper.upon_value, hd]
 exact h _ _ _ (en.put hdn _) (s.new e cs)
theorem BX {sz : Nat} : ∀ (vs : List Value) (k : Nat) (pre post : List Value), (∀ v ∈ vs, v.cells.size = sz) → post.length = vs.length * sz → pre.length = k * sz →
  lG (fun i => some (i * sz, sz)) (pre ++ post) ((List.range' k vs.length).zip vs) = some (pre ++ vs.flatMap fun v => v.cells.toList) := by
 intro vs
 induction vs with
 | nil => intro k pre post _ hp _; have : post = [] := List.eq_nil_of_length_eq_zero (by simpa using hp); subst this; simp [lG]
 | cons v r ih =>
  intro k pre post hv hp hk
  have hv1 := hv v (by simp)
  have hpl : sz ≤ post.length := by rw [hp, List.length_cons, Nat.add_mul]; omega
  simp only [List.length_cons, List.range'_succ, List.zip_cons_cons, lG]
  rw [if_pos ⟨hv1, by rw [List.length_append]; omega⟩]
  have h1 := mA v.cells.toList pre (post.take sz) (post.drop sz) (by simp [hv1]; omega)
  rw [List.take_append_drop, hk] at h1
  rw [h1, ← List.append_assoc, ih (k + 1) (pre ++ v.cells.toList) (post.drop sz) (fun u hu => hv u (by simp [hu])) (by simp only [List.length_drop, hp, List.length_cons, Nat.add_mul]; omega) (by simp [hk, hv1, Nat.add_mul])]
  simp
theorem Da {t : TypeId} {e sz j7 len : Nat} {z vs cs : List Value} {parts : List (Nat × Operand)} (ht : om P t = some (e, sz, j7, z)) (ho : o.op = .buildSlice t len parts.toArray) (hd : o.dst = some d) (hv : iH σ (parts.map (·.2)) = some vs)
  (hk : Nat.ble (len * sz) 16777216 = true) (hi : parts.map (·.1) = List.range' 0 vs.length) (hlen : vs.length = len) (tZ : ∀ v ∈ vs, v.cells.size = sz) (hc : (vs.flatMap fun v => v.cells.toList) = cs) (hdn : Nat.blt d n = true)
  (h : ∀ b, G n ds F K ((d, .slice (some ⟨b, 0, none⟩) len len) :: σ) (af b e cs :: H)) : G n ds F (fun a w => o.wp P a w K Q) σ H := by
 refine UA ht ho hd hv hk ?_ hdn h
 have := BX vs 0 [] (eV z (len * sz)) tZ (by rw [ib, hlen]) (by simp)
 rw [hi]
 simpa [hc] using this
theorem OU {t : TypeId} {e j7 len : Nat} {z vs : List Value} {parts : List (Nat × Operand)} (ht : om P t = some (e, 1, j7, z)) (ho : o.op = .buildSlice t len parts.toArray) (hd : o.dst = some d) (hv : iH σ (parts.map (·.2)) = some vs)
  (hk : Nat.ble (len * 1) 16777216 = true) (hi : parts.map (·.1) = List.range' 0 vs.length) (hlen : vs.length = len) (h1 : ∀ v ∈ vs, v.oneCell' = true) (hdn : Nat.blt d n = true)
  (h : ∀ b, G n ds F K ((d, .slice (some ⟨b, 0, none⟩) len len) :: σ) (af b e vs :: H)) : G n ds F (fun a w => o.wp P a w K Q) σ H := by
 have di : ∀ v : Value, v.oneCell' = true → v.cells = #[v] := fun v hv => by cases v <;> simp [Value.oneCell'] at hv <;> rfl
 refine Da ht ho hd hv hk hi hlen (fun v hv => by rw [di v (h1 v hv)]; rfl) ?_ hdn h
 clear hv hi hlen h
 induction vs with
 | nil => rfl
 | cons v r ih => rw [List.flatMap_cons, di v (h1 v (by simp)), ih (fun u hu => h1 u (by simp [hu]))]; rfl
theorem OV {t : TypeId} {e sz j7 : Nat} {z cs : List Value} {x : Operand} (ht : om P t = some (e, sz, j7, z)) (ho : o.op = .buildSlice t 1 #[(0, x)]) (hd : o.dst = some d) (hx : bd σ x = some (.agg cs.toArray))
  (hl : cs.length = sz) (hk : Nat.ble (1 * sz) 16777216 = true) (hdn : Nat.blt d n = true)
  (h : ∀ b, G n ds F K ((d, .slice (some ⟨b, 0, none⟩) 1 1) :: σ) (af b e cs :: H)) : G n ds F (fun a w => o.wp P a w K Q) σ H :=
 Da (parts := [(0, x)]) (vs := [.agg cs.toArray]) ht ho hd (by simp [iH, hx]) hk rfl rfl (by simp [Value.cells, hl]) (by simp [Value.cells]) hdn h
def gu (P : Program) (t : TypeId) : Option (List (Nat × Nat)) :=
 match P.underlying t with
 | some (.struct fs) => fs.toList.mapM fun f => (P.info? f.type).map fun i => (f.offset, i.size)
 | _ => none
theorem zE {fs : List Field} {pl : List (Nat × Nat)} (h : (fs.mapM fun f => (P.info? f.type).map fun i => (f.offset, i.size)) = some pl) (w : World) :
  (fs.mapM fun f => Prod.mk f.offset <$> sizeOf f.type : Sem (List (Nat × Nat))).run P w = .ok pl w := by
 induction fs generalizing pl with
 | nil => simp at h; simp [h]
 | cons f r ih =>
  simp only [List.mapM_cons] at h ⊢
  cases hi : P.info? f.type with
  | none => simp [hi] at h
  | some i =>
   simp only [hi, Option.map_some, Option.bind_eq_bind, Option.bind_some] at h
   cases hr : (r.mapM fun f => (P.info? f.type).map fun i => (f.offset, i.size)) with
   | none => simp [hr] at h
   | some pl' =>
    simp [hr] at h
    have := ih hr
    simp [sizeOf, typeInfo, hi] at this ⊢
    simp [this, ← h]
theorem N9 {t : TypeId} {pl : List (Nat × Nat)} {zs vs cs : List Value} {parts : List (Nat × Operand)} (hz : bF P t = some zs) (hpl : gu P t = some pl) (ho : o.op = .build t parts.toArray) (hv : iH σ (parts.map (·.2)) = some vs)
  (hc : lG (fun i => pl[i]?) zs ((parts.map (·.1)).zip vs) = some cs) : Yv P n ds F σ o (.agg cs.toArray) :=
 fun ac w en fr => by
  have hp := qj en hv
  obtain ⟨zv, hzr, Cc⟩ := my hz (w := w)
  unfold gu at hpl
  cases hu : P.underlying t with
  | none => simp [hu] at hpl
  | some dsc =>
   cases dsc <;> simp [hu] at hpl
   rename_i fs
   have hm := zE (P := P) (by simpa using hpl) w
   have iW := fill_eq _ _ _ _ hc
   rw [← hp] at iW
   have hm' : (fs.mapM fun f => Prod.mk f.offset <$> sizeOf f.type : Sem (Array (Nat × Nat))).run P w = .ok pl.toArray w := by
    rw [← Array.toArray_toList (xs := fs), List.mapM_toArray]
    simp [hm]
   simp [execOp, ho, Instr.build, hzr, run_underlying hu, hm', Cc, iW]
theorem OT {t : TypeId} {e sz j7 : Nat} {z : List Value} {x y : Operand} {k k' : IntKind} {i j : Int} {l c : Nat} (ht : om P t = some (e, sz, j7, z)) (ho : o.op = .makeSlice t x y) (hd : o.dst = some d) (hx : bd σ x = some (.int k i)) (hy : bd σ y = some (.int k' j))
  (xP : i = (l : Int)) (hj : j = (c : Int)) (hlc : l ≤ c) (hc : c * j7 ≤ 281474976710656) (vV : c ≤ 9223372036854775807) (hdn : Nat.blt d n = true)
  (h : ∀ b, G n ds F K ((d, .slice (some ⟨b, 0, none⟩) l c) :: σ) (af b e (eV z (c * sz)) :: H)) : G n ds F (fun a w => o.wp P a w K Q) σ H := by
 refine .mk fun ac w en s => ?_
 obtain ⟨hu, tZ, R8, inf, zv, hi, oy, Sn, hz, Cc⟩ := kE ht
 subst xP; subst hj
 have hz0 : 0 < z.length := by omega
 have hwl : IntKind.i64.wrap (l : Int) = l := wrap_i64 (by omega)
 have hwc : IntKind.i64.wrap (c : Int) = c := wrap_i64 (by omega)
 have HN : ¬ ((281474976710656 : Int) < (j7 : Int) * (c : Int)) := by
  have : (j7 : Int) * (c : Int) = ((c * j7 : Nat) : Int) := by push_cast; rw [Int.mul_comm]
  omega
 have ug : (Array.range (c * sz)).map (fun j => (if c * sz = 0 then (#[] : Array Value) else z.toArray)[j % (if c * sz = 0 then (#[] : Array Value) else z.toArray).size]!) = (eV z (c * sz)).toArray := by
  by_cases h0 : c * sz = 0
  ·simp [h0, eV]
  simp only [h0, if_false]; exact CH hz0 _
 have sD : (if c * sz = 0 then (pure #[] : Sem (Array Value)) else do pure (← zeroValue e).cells).run P w = .ok (if c * sz = 0 then #[] else z.toArray) w := by
  split <;> simp [zeroValue, typeInfo, hi, hz, Cc]
 unfold Oper.wp
 have : (execOp ac.eval o).run P w = .ok (.value (.slice (some ⟨w.heap.size, 0, none⟩) l c)) (w.alloc (.cells (eV z (c * sz)).toArray e)) := by
  have Zo : (decide ((c : Int) < 0) || decide ((j7 : Int) * (c : Int) > 2 ^ 48) || decide ((l : Int) < 0) || decide ((l : Int) > (c : Int))) = false := by
   simp only [Bool.or_eq_false_iff, decide_eq_false_iff_not]
   refine ⟨⟨⟨by omega, ?_⟩, by omega⟩, by omega⟩
   have : (2 : Int) ^ 48 = 281474976710656 := by decide
   rw [this]; exact HN
  simp only [execOp, ho, Instr.makeSlice, Sem.run_bind, run_underlying hu, Result.andThen_ok, sizeOf, typeInfo, run_program, hi, Sem.run_pure, oy, Sn, en.eval hx, en.eval hy, asInt, asIntOf, hwl, hwc]
  simp only [Zo, Bool.false_eq_true, if_false, Sem.run_bind, Sem.run_pure, run_askRoom, Result.andThen_ok, Int.toNat_natCast]
  by_cases h0 : c * sz = 0
  ·simp only [h0, if_true] at ug
   have H5 : (Array.range 0).map (fun _ => (default : Value)) = (eV z 0).toArray := by simp [eV]
   simp [hi, oy, h0, newRow, H5]
  simp only [h0, if_false] at ug
  simp [hi, oy, h0, zeroValue, typeInfo, hz, Cc, newRow]
  rw [show (Array.range (c * sz)).map (fun x => (z[x % z.length]?).getD default) = (eV z (c * sz)).toArray from by simpa using ug]
 rw [this, Oper.upon_value, hd]
 exact h _ _ _ (en.put hdn _) (s.new e _)
theorem Db {t t2 : TypeId} {e sz j7 m dl dc b off : Nat} {z cs news : List Value} {x y : Operand} {v : Value} {e2 : TypeId} {f : aa → List aa} (ht : om P t = some (e, sz, j7, z)) (ho : o.op = .call { callee := .builtin .copy, args := #[x, y], argTypes := #[t, t2] }) (hd : o.dst = some d)
  (hx : bd σ x = some (.slice (some ⟨b, off, none⟩) dl dc)) (hy : bd σ y = some v) (hu : Pos H (af b e2 cs) f) (hs : Src P F H sz m v news) (h1 : ∀ u ∈ news, u.oneCell' = true) (Ap : off + dl * sz ≤ cs.length) (hdn : Nat.blt d n = true)
  (h : G n ds F K ((d, .int .i64 ((min m dl : Nat) : Int)) :: σ) (f (af b e2 (db cs off (news.take (min m dl * sz)))))) : G n ds F (fun a w => o.wp P a w K Q) σ H := by
 refine .mk fun ac w en s => ?_
 obtain ⟨hut, tZ, R8, inf, zv, hi, oy, Sn, hz, Cc⟩ := kE ht
 obtain ⟨s1, s2, s3⟩ := hs w s
 obtain ⟨R, qK, back⟩ := hu.qK
 have hlen : (news.take (min m dl * sz)).length = min m dl * sz := by
  rw [List.length_take, s3]; exact Nat.min_eq_left (Nat.mul_le_mul_right _ (Nat.min_le_left _ _))
 obtain ⟨w', hr, st⟩ := gU (P := P) (news.take (min m dl * sz)) off 0 cs w (s.qK qK) (by rw [hlen]; have := Nat.mul_le_mul_right sz (Nat.min_le_right m dl); omega) (fun u hu => h1 u (List.mem_of_mem_take hu))
 unfold Oper.wp
 have : (execOp ac.eval o).run P w = .ok (.value (.int .i64 ((min m dl : Nat) : Int))) w' := by
  have hmin : Nat.min m dl = min m dl := rfl
  simp [execOp, ho, resolve, invoke, builtin, Builtin.copy_, en.eval hx, en.eval hy, run_underlying hut, sizeOf, typeInfo, hi, oy, s1, hmin, s2 _ (Nat.min_le_left m dl), hr, goInt]
 rw [this, Oper.upon_value, hd]
 exact h _ _ (en.put hdn _) (by simpa using st.ni (back _))
end rules
end Go.cQ
namespace Go.cQ
open Go
def NQ : List Nat → Nat → Bool
 | [], _ => false
 | x :: r, t => match Nat.beq x t with | true => true | false => NQ r t
def fi (j8 : List Nat) : aS → aS
 | [] => []
 | (k, v) :: r => match NQ j8 k with | true => fi j8 r | false => (k, v) :: fi j8 r
theorem BN {j8 : List Nat} : ∀ {σ : aS} {t : Nat} {v : Value}, look (fi j8 σ) t = some v → look σ t = some v ∧ NQ j8 t = false := by
 intro σ
 induction σ with
 | nil => intro t v h; simp [fi, look] at h
 | cons p r ih =>
  obtain ⟨k, u⟩ := p
  intro t v h
  simp only [fi] at h
  cases hm : NQ j8 k with
  | true =>
   rw [hm] at h
   obtain ⟨h1, h2⟩ := ih h
   refine ⟨?_, h2⟩
   simp only [look]
   cases hb : Nat.beq k t with
   | true => have := Nat.eq_of_beq_eq_true hb; subst this; rw [hm] at h2; cases h2
   | false => exact h1
  | false =>
   rw [hm] at h
   simp only [look] at h ⊢
   cases hb : Nat.beq k t with
   | true => rw [hb] at h; have := Nat.eq_of_beq_eq_true hb; subst this; exact ⟨h, hm⟩
   | false => rw [hb] at h; exact ih h
theorem zG {L K : aS} {t : Nat} {v : Value} (h : look (L ++ K) t = some v) : look L t = some v ∨ look K t = some v := by
 induction L with
 | nil => exact .inr h
 | cons p r ih =>
  obtain ⟨k, u⟩ := p
  simp only [List.cons_append, look] at h ⊢
  cases hb : Nat.beq k t with
  | true => rw [hb] at h; exact .inl h
  | false => rw [hb] at h; exact ih h
theorem Env.uf {n : Nat} {ds : List Deferred} {σ σ' L : aS} {a : Act} {j8 : List Nat} (e : Env n ds σ' a) (hs : qS L σ') (hk : fi j8 σ' = fi j8 σ) : Env n ds (L ++ fi j8 σ) a :=
 ⟨e.size, e.defers, fun t v h => (zG h).elim (fun h1 => e.slot t v (hs.look t v h1)) fun h1 => by
  rw [← hk] at h1; exact e.slot t v (BN h1).1⟩
section
variable {ι : Type} (n : Nat) (ds : List Deferred) (F : c9) (j8 : List Nat) (σ : aS) (I : ι → Prop) (L : ι → aS) (HI : ι → List aa)
def rN (μ : ι → Nat) (i : ι) (a : Act) (w : World) : Prop := ∃ j, I j ∧ μ j < μ i ∧ Env n ds (L j ++ fi j8 σ) a ∧ St F (HI j) w
def Ip (a : Act) (w : World) : Prop := ∃ j, I j ∧ Env n ds (L j ++ fi j8 σ) a ∧ St F (HI j) w
end
section rules
variable {P : Program} {n : Nat} {ds : List Deferred} {F : c9} {Q : Exit → Act → World → Prop} {K : Act → World → Prop} {σ : aS} {H : List aa} {o : Oper} {d : Nat}
theorem Qb {ι : Type} {c : Code} (j8 : List Nat) (I : ι → Prop) (L : ι → aS) (HI : ι → List aa) (μ : ι → Nat) (i₀ : ι) (h0 : I i₀) (hs : qS (L i₀) σ) (hh : ∀ h, aj H h → aj (HI i₀) h)
  (round : ∀ i, I i → G n ds F (c.wp P (Exit.then (rN n ds F j8 σ I L HI μ i) Q)) (L i ++ fi j8 σ) (HI i)) : G n ds F ((Code.loop c).wp P Q) σ H := by
 refine .mk fun a w e s b k cs => ?_
 have key : ∀ m i a w, μ i = m → I i → Env n ds (L i ++ fi j8 σ) a → St F (HI i) w →
   ∃ e a' w', Q e a' w' ∧ Arrives P (lone (b.at a (.code c :: .inLoop c :: k)) cs w) b k cs e a' w' := by
  intro m
  induction m using Nat.strongRecOn with
  | _ m ih =>
   intro i a w hm hI he jA
   obtain ⟨e, a₁, w₁, hq, x5⟩ := round i hI a w he jA b (.inLoop c :: k) cs
   cases e with
   | normal =>
    obtain ⟨j, hj, cJ, he₁, hs₁⟩ := hq
    obtain ⟨e₂, a₂, w₂, hq₂, harr₂⟩ := ih (μ j) (hm ▸ cJ) j a₁ w₁ rfl hj he₁ hs₁
    exact ⟨e₂, a₂, w₂, hq₂, .of_steps (Steps.trans x5 (.one step_inLoop)) harr₂⟩
   | exit id => exact ⟨_, a₁, w₁, hq, .pass (x := .inLoop c) rfl (fun _ _ => .inl (by simp)) x5⟩
   | goto l => exact ⟨_, a₁, w₁, hq, .pass (x := .inLoop c) rfl (fun _ _ => .inl (by simp)) x5⟩
   | ret => exact ⟨_, a₁, w₁, hq, .pass (x := .inLoop c) rfl (fun _ _ => .inl (by simp)) x5⟩
   | panic ch => exact ⟨_, a₁, w₁, hq, .pass (x := .inLoop c) rfl (fun _ _ => .inl (by simp)) x5⟩
   | outgrown => exact ⟨_, a₁, w₁, hq, .pass (x := .inLoop c) rfl (fun _ _ => .inl (by simp)) x5⟩
 obtain ⟨e', a', w', hq, x5⟩ := key _ i₀ a w rfl h0 (e.uf hs rfl) (s.sub hh)
 exact ⟨e', a', w', hq, .of_steps (.one step_loop) x5⟩
theorem Mm {ι : Type} {j8 : List Nat} {σ0 : aS} {I : ι → Prop} {L : ι → aS} {HI : ι → List aa} {μ : ι → Nat} {i : ι} (j : ι) (hI : I j) (hm : μ j < μ i) (hs : qS (L j) σ) (hk : fi j8 σ = fi j8 σ0) (hh : ∀ h, aj H h → aj (HI j) h) :
  G n ds F (Exit.then (rN n ds F j8 σ0 I L HI μ i) Q .normal) σ H :=
 .mk fun _ _ e s => ⟨j, hI, hm, e.uf hs hk, s.sub hh⟩
theorem ZT {ι : Type} {j8 : List Nat} {σ0 : aS} {I : ι → Prop} {L : ι → aS} {HI : ι → List aa} (j : ι) (hI : I j) (hs : qS (L j) σ) (hk : fi j8 σ = fi j8 σ0) (hh : ∀ h, aj H h → aj (HI j) h) :
  G n ds F (Exit.then (Ip n ds F j8 σ0 I L HI) Q .normal) σ H :=
 .mk fun _ _ e s => ⟨j, hI, e.uf hs hk, s.sub hh⟩
theorem cR {ι : Type} {x : Code} (j8 : List Nat) (I : ι → Prop) (L : ι → aS) (HI : ι → List aa) (hx : G n ds F (x.wp P (Exit.then (Ip n ds F j8 σ I L HI) Q)) σ H)
  (hy : ∀ j, I j → G n ds F K (L j ++ fi j8 σ) (HI j)) : G n ds F (x.wp P (Exit.then K Q)) σ H :=
 .mk fun a w e s => wp_mono (hx a w e s) fun ex a' w' q => by
  cases ex with
  | normal => obtain ⟨j, hj, he, hs⟩ := q; exact hy j hj _ _ he hs
  | exit id => exact q
  | goto l => exact q
  | ret => exact q
  | panic ch => exact q
  | outgrown => exact q
theorem aJ {t : Nat} {b : Bool} (ht : look σ t = some (.bool b)) (h1 : b = true → G n ds F K ((t, .bool true) :: σ) H) (h2 : b = false → G n ds F K ((t, .bool false) :: σ) H) : G n ds F K σ H := by
 have key : ∀ c, b = c → ∀ a, Env n ds σ a → Env n ds ((t, .bool c) :: σ) a := fun c hc a e => ⟨e.size, e.defers, fun u v hv => by
  simp only [look] at hv
  cases hb : Nat.beq t u with
  | true => rw [hb] at hv; cases hv; have := Nat.eq_of_beq_eq_true hb; subst this; subst hc; exact e.slot _ _ ht
  | false => rw [hb] at hv; exact e.slot _ _ hv⟩
 refine .mk fun a w e s => ?_
 cases hb : b with
 | true => exact h1 hb a w (key true hb a e) s
 | false => exact h2 hb a w (key false hb a e) s
theorem aw {t : Nat} {v v' : Value} (ht : look σ t = some v) (hv : v = v') (h : G n ds F K ((t, v') :: σ) H) : G n ds F K σ H := by
 subst hv
 refine .mk fun a w e s => ?_
 refine h a w ⟨e.size, e.defers, fun u x hx => ?_⟩ s
 simp only [look] at hx
 cases hb : Nat.beq t u with
 | true => rw [hb] at hx; cases hx; have := Nat.eq_of_beq_eq_true hb; subst this; exact e.slot _ _ ht
 | false => rw [hb] at hx; exact e.slot _ _ hx
theorem tT : ∀ {A B : List aa} {h : Hp}, aj (A ++ B) h → aj A h := by
 intro A
 induction A with
 | nil => intros; trivial
 | cons X r ih => intro B h s; obtain ⟨h1, h2, d, l1, l2, a, s⟩ := s; exact ⟨h1, h2, d, l1, l2, a, ih s⟩
theorem dx {H As R : List aa} (s : gY H As R) : ∀ h, aj H h → aj As h := fun h x => tT (s.out h x)
theorem bY {h : Hp} {a : Option Addr} {cap e sz : Nat} {xs : List Value} (o : ∃ k, own a cap e sz xs k ∧ Le k h) : fK h a xs := by
 obtain ⟨k, p, l⟩ := o; exact (mG p).mono l
theorem PT {h k : Hp} {A : aa} (i : ∃ m, A m ∧ Le m h) (l : Le h k) : ∃ m, A m ∧ Le m k := by
 obtain ⟨m, p, l'⟩ := i; exact ⟨m, p, l'.trans l⟩
def aE (L : List aa) : aa := fun h => aj L h
theorem rG {L : List aa} (h : G n ds F K σ (L ++ H)) : G n ds F K σ (aE L :: H) :=
 az (fun k s => by
  obtain ⟨h1, h2, d, l1, l2, s1, s2⟩ := s
  exact dp (bB s1 s2 d) (bS l1 l2)) h
theorem eR {L : List aa} : ∀ {H : List aa} {h : Hp}, aj (L ++ H) h → aj (aE L :: H) h := fun s => by
 obtain ⟨h1, h2, d, l1, l2, s1, s2⟩ := bs s
 exact ⟨h1, h2, d, l1, l2, s1, s2⟩
theorem Yd {ι : Type} {A : ι → aa} (h : ∀ x, G n ds F K σ (A x :: H)) : G n ds F K σ ((fun k => ∃ x, A x k) :: H) := by
 refine .mk fun a w e s => ?_
 obtain ⟨a1, a2, a3, fr, hh, ⟨h1, h2, d, l1, l2, ⟨x, hx⟩, st⟩, y, z⟩ := s
 exact h x a w e ⟨a1, a2, a3, fr, hh, ⟨h1, h2, d, l1, l2, hx, st⟩, y, z⟩
theorem Bv {L M R : List aa} {h : Hp} (s : aj (aE L :: (M ++ R)) h) : aj (aE (L ++ M) :: R) h := by
 obtain ⟨h1, h2, d, l1, l2, s1, s2⟩ := s
 obtain ⟨h3, h4, d', l3, l4, s3, s4⟩ := bs s2
 exact ⟨fj h1 h3, h4, bK.fj (d.right l4) d', bS l1 (l3.trans l2), l4.trans l2, bB s1 s3 (d.right l3), s4⟩
theorem lH {h : Hp} (s : aj H h) : aj (aE [] :: H) h := fX (fun _ => trivial) s
def Ax (F : c9) (As : List aa) (F' : c9) : Prop := ∀ R w, St F' R w → St F (As ++ R) w
abbrev cD (F : c9) (w : World) : Prop := Le F.h (jB w)
theorem U3 {id : Nat} {ops : Array Oper} {As R : List aa} {listed : Array Bool} (hm : P.follows .mixedOrders = true) (hl : Array.replicate ops.size false = listed) (dh : gY H As R)
  (h : ∀ F' : c9, Le F.h F'.h → fF As F'.h → Ax F As F' → G n ds F' (wpAnyH P .any ops Q (cD F') ops.size listed) σ R) : G n ds F ((Code.region id ops true).wp P Q) σ H := by
 refine .mk fun a w e s => ?_
 subst hl
 refine wp_region_any hm (wpAny_of_held (S := cD { F with h := ?_ }) _ _ _ _ ?_)
 ·exact fj (Classical.choose (bs (dh.out _ (Classical.choose_spec s.own).1))) F.h
 generalize hA : Classical.choose (bs (dh.out _ (Classical.choose_spec s.own).1)) = h1
 have spec := Classical.choose_spec (bs (dh.out _ (Classical.choose_spec s.own).1))
 rw [hA] at spec
 obtain ⟨h2, d12, l1, l2, s1, s2⟩ := spec
 have wb := (Classical.choose_spec s.own).2
 have NF : bK h1 F.h := wb.2.left l1
 refine h { F with h := fj h1 F.h } (aV NF) (bU s1 (ba _ _)) ?_ a _ e ?_
 ·intro R' w' s'
  obtain ⟨b1, b2, b3, fr, hh, st, hl, hd⟩ := s'
  exact ⟨b1, b2, b3, (aV NF).trans fr, fj h1 hh, bB s1 st (hd.right (ba _ _)).symm, bS ((ba _ _).trans fr) hl, bK.fj NF (hd.right (aV NF))⟩
 exact ⟨s.os, ⟨s.tape.1, Nat.le_succ_of_le s.tape.2⟩, s.output, bS (l1.trans wb.1) s.frame, h2, s2, l2.trans wb.1, (bK.fj d12 (wb.2.left l2).symm).symm⟩
theorem br {ops : Array Oper} {listed : Array Bool} {fuel : Nat} {F' : c9} {As : List aa} {S : World → Prop} (hr : Region.ready .any ops listed = []) (hb : Ax F As F') (h : G n ds F (Q .normal) σ (As ++ H)) : G n ds F' (wpAnyH P .any ops Q S fuel listed) σ H := by
 refine .mk fun a w e s => ?_
 have := h a w e (hb _ _ s)
 cases fuel with
 | zero => exact ⟨hr, this⟩
 | succ m => exact ⟨fun _ => this, fun i hi => by rw [hr] at hi; cases hi⟩
def lj (Q : Exit → Act → World → Prop) : Prop := ∀ c a d v w, Q (.panic c) (Act.put a d v) w → Q (.panic c) a w
theorem OL (h : lj Q) : lj (Exit.then K Q) := fun c a d v w q => h c a d v w q
theorem KS {id : Nat} (h : lj Q) : lj (Exit.inBlock id Q) := fun c a d v w q => h c a d v w q
theorem OM {fn : Func} {R : Ending → World → Prop} : lj (bodyPost P fn R) := fun c a d v w q => by
 simp only [bodyPost] at q ⊢
 exact ⟨by rw [← q.1]; cases d <;> rfl, q.2⟩
def wo (ops : Array Oper) (listed : Array Bool) (i : Nat) (rB : Array Bool) : Bool :=
 Region.noSelect ops && (Region.ready .any ops listed).contains i && Region.free .any ops listed i && (listed.setIfInBounds i true == rB)
theorem LL {ops : Array Oper} {listed rB : Array Bool} {fuel i : Nat} {oi : Oper} {v : Value} (nB : wo ops listed i rB = true) (hi : ops[i]? = some oi) (po : lj Q)
  (hy : ∀ a, Env n ds σ a → YieldsIf P ops (cD F) oi v a) {σ' : aS} (hp : ∀ a, Env n ds σ a → Env n ds σ' (a.put oi.dst v)) (h : G n ds F (wpAnyH P .any ops Q (cD F) fuel rB) σ' H) : G n ds F (wpAnyH P .any ops Q (cD F) (fuel + 1) listed) σ H := by
 refine .mk fun a w e s => ?_
 simp only [wo, Bool.and_eq_true, beq_iff_eq, List.contains_iff_mem] at nB
 obtain ⟨⟨⟨h1, h2⟩, h3⟩, h4⟩ := nB
 refine wpAnyH_first hi (Region.noSelect_spec h1) (fun c a w q => po c a _ _ w q) fuel listed a w (fun j oj hj fu WC nC => Region.free_spec hi h3 j oj hj fu WC nC) h2 (hy a e) s.frame ?_
 rw [h4]
 exact h _ _ (hp a e) s
theorem AR {ops : Array Oper} {listed : Array Bool} {fuel : Nat} {l : List Nat} {S : World → Prop} (hr : Region.ready .any ops listed = l) (fu : l.isEmpty = false)
  (h : ∀ i ∈ l, G n ds F (wpOp P ops Q i (fun a' w' => S w' ∧ wpAnyH P .any ops Q S fuel (listed.setIfInBounds i true) a' w')) σ H) : G n ds F (wpAnyH P .any ops Q S (fuel + 1) listed) σ H := by
 refine .mk fun a w e s => ?_
 refine ⟨fun h0 => ?_, fun i hi => h i (by rw [← hr]; exact hi) a w e s⟩
 rw [hr] at h0; subst h0; cases fu
theorem UZ {ops : Array Oper} {listed : Array Bool} {fuel i : Nat} {S : World → Prop} (hr : Region.ready .any ops listed = [i])
  (h : G n ds F (wpOp P ops Q i (fun a' w' => S w' ∧ wpAnyH P .any ops Q S fuel (listed.setIfInBounds i true) a' w')) σ H) : G n ds F (wpAnyH P .any ops Q S (fuel + 1) listed) σ H :=
 AR hr rfl fun j hj => by rw [List.mem_singleton.1 hj]; exact h
theorem UY {ops : Array Oper} {listed : Array Bool} {fuel i j : Nat} {S : World → Prop} (hr : Region.ready .any ops listed = [i, j])
  (h1 : G n ds F (wpOp P ops Q i (fun a' w' => S w' ∧ wpAnyH P .any ops Q S fuel (listed.setIfInBounds i true) a' w')) σ H)
  (h2 : G n ds F (wpOp P ops Q j (fun a' w' => S w' ∧ wpAnyH P .any ops Q S fuel (listed.setIfInBounds j true) a' w')) σ H) : G n ds F (wpAnyH P .any ops Q S (fuel + 1) listed) σ H :=
 AR hr rfl fun k hk => by
  rcases List.mem_cons.1 hk with rfl | hk
  ·exact h1
  rw [List.mem_singleton.1 hk]; exact h2
theorem P6 {ops : Array Oper} {listed : Array Bool} {fuel : Nat} (h : G n ds F (wpAnyH P .any ops Q (cD F) fuel listed) σ H) : G n ds F (fun a w => cD F w ∧ wpAnyH P .any ops Q (cD F) fuel listed a w) σ H :=
 .mk fun a w e s => ⟨s.frame, h a w e s⟩
theorem tq {b i k ty : Nat} {e : TypeId} {cs vs : List Value} {R : List aa} {w : World} {t : Nat} {a : Act} (en : Env n ds σ a) (st : St F H w) (ht : look σ t = some (.pointer (some ⟨b, i, none⟩))) (hs : cn P ty = some k) (dh : ez H (af b e cs) R) (hv : (cs.drop i).take k = vs) (hk : vs.length = k) :
  (asAddr (a.tmps.getD t undef)).run P w = .ok ⟨b, i, none⟩ w ∧ (loadVar ty ⟨b, i, none⟩).run P w = .ok (.agg vs.toArray) w := by
 obtain ⟨h1, hp, hl⟩ := (st.qK dh).get
 have hg : a.tmps.getD t undef = .pointer (some ⟨b, i, none⟩) := by simp [en.slot t _ ht]
 have := Lv (P := P) (b := b) (i := i) hs (w := w) hk (fun j v hj => by
  rw [add_lit]
  refine ku hl (dX hp ?_)
  rw [← hv, List.getElem?_take] at hj
  split at hj
  ·simpa using hj
  cases hj)
 rw [hg]
 exact ⟨by simp [asAddr], by simpa [Instr.loadAt, Instr.sureAddr] using this⟩
theorem VW {fn : Func} {T : Value → List aa → Prop} {t ty b i k : Nat} {e : TypeId} {cs vs : List Value} {R H' : List aa} (hs : cn P ty = some k) (hr : fn.results = #[.cell t ty]) (ht : look σ t = some (.pointer (some ⟨b, i, none⟩))) (dh : ez H (af b e cs) R) (hv : (cs.drop i).take k = vs) (hk : vs.length = k)
  (hR : T (.agg vs.toArray) H') (hh : ∀ h, aj H h → aj H' h) : G n [] F (bodyPost P fn (fun e w' => ∃ v H', e = .returned v ∧ T v H' ∧ St F H' w') .ret) σ H :=
 .mk fun a w en s => ⟨en.defers, _, by
  obtain ⟨h1, h2⟩ := tq (P := P) en s ht hs dh hv hk
  simp only [results, hr]
  simp at h1
  simp [h1, h2], _, H', rfl, hR, s.sub hh⟩
end rules
end Go.cQ
namespace Go.cQ
open Go
section
variable {P : Program} {n : Nat} {ds : List Deferred} {F : c9} {σ : aS} {o : Oper}
theorem lI {op : BinOp} {t : TypeId} {x y : Operand} {p q : Option Addr} {w : World} : (eqGuard op t x y (.pointer p) (.pointer q)).run P w = .ok () w := by
 unfold eqGuard; cases op <;> simp
theorem J2 {op : BinOp} {t yt e : TypeId} {x y : Operand} {p : Option Addr} {b : Bool} (ht : P.underlying t = some (.pointer e)) (ho : o.op = .binOp op t x y yt) (hx : bd σ x = some (.pointer p)) (hy : bd σ y = some (.pointer none))
  (hop : (op = .eql ∧ b = p.isNone) ∨ (op = .neq ∧ b = !p.isNone)) : Yv P n ds F σ o (.bool b) := by
 intro a w en _
 have hp : P.underlying t = some (.pointer (P.pointee t)) := by unfold Program.pointee; rw [ht]
 rcases hop with ⟨rfl, rfl⟩ | ⟨rfl, rfl⟩
 ·simp only [execOp, ho, en.eval hx, en.eval hy, Sem.run_bind, lI, run_eql_pointer_nil w t p hp, Result.andThen_ok, Sem.run_pure]
 simp only [execOp, ho, en.eval hx, en.eval hy, Sem.run_bind, lI, run_neq_pointer_nil w t p hp, Result.andThen_ok, Sem.run_pure]
theorem xx (w : World) (b n : Nat) (cs : Array Value) (e : TypeId) (lo hi : Nat) (h : w.heap[b]? = some (.cells cs e (lo, hi))) :
  (w.freeze ⟨b, n, none⟩ 1).heap[b]? = some (.cells cs e (if lo == hi then (n, n + 1) else (min lo n, max hi (n + 1)))) := by
 simp [World.freeze, Array.getElem?_modify, h]
theorem xw (w : World) (b n x : Nat) (h : x ≠ b) : (w.freeze ⟨b, n, none⟩ 1).heap[x]? = w.heap[x]? := by
 simp [World.freeze, Array.getElem?_modify, Ne.symm h]
theorem St.freeze {H : List aa} {w : World} {b : Nat} {e : TypeId} {cs : List Value} (s : St F (af b e cs :: H) w) :
  St F (af b e cs :: H) (w.freeze ⟨b, cs.length, none⟩ 1) := by
 obtain ⟨a1, a2, a3, fr, h, ⟨h1, h2, d, l1, l2, ⟨lo, hi, hf, hb⟩, s⟩, y, z⟩ := s
 have hw : w.heap[b]? = some (.cells cs.toArray e (lo, hi)) := (l1.trans y) _ _ hb
 have fu : ∀ k : Hp, bK h1 k → ∀ x o, k x = some o → x ≠ b := by
  intro k dk x o e hx; subst hx
  rcases dk x with q | q
  ·rw [hb] at q; cases q
  rw [e] at q; cases q
 have hold : ∀ k : Hp, bK h1 k → Le k (jB w) → Le k (jB (w.freeze ⟨b, cs.length, none⟩ 1)) := by
  intro k dk lk x o e
  have := lk x o e
  unfold jB at *
  rw [xw w _ _ x (by exact fu k dk x o e)]
  exact this
 have dF : bK h1 F.h := z.left l1
 let fz : Nat × Nat := if lo == hi then (cs.length, cs.length + 1) else (min lo cs.length, max hi (cs.length + 1))
 have hfz : fz.2 = fz.1 ∨ cs.length ≤ fz.1 := by
  right
  show cs.length ≤ (if lo == hi then (cs.length, cs.length + 1) else (min lo cs.length, max hi (cs.length + 1))).1
  split
  ·exact Nat.le_refl _
  rename_i hq
  have : lo ≠ hi := by simpa using hq
  simp only
  omega
 let uc : Hp := fun x => if x = b then some (.cells cs.toArray e fz) else none
 have d2 : ∀ k : Hp, bK h1 k → bK uc k := by
  intro k dk x
  by_cases hx : x = b
  ·subst hx
   rcases dk x with q | q
   ·rw [hb] at q; cases q
   exact .inr q
  exact .inl (by simp [uc, hx])
 have l1' : Le uc (jB (w.freeze ⟨b, cs.length, none⟩ 1)) := by
  intro x o e
  by_cases hx : x = b
  ·subst hx
   simp only [uc, if_true] at e
   cases e
   have := xx w x cs.length _ _ _ _ hw
   rw [jB, this]
  simp [uc, hx] at e
 refine ⟨a1, a2, a3, hold _ dF fr, fj uc h2, ⟨uc, h2, d2 _ d, ba _ _, aV (d2 _ d), ⟨fz.1, fz.2, hfz, by simp [uc]⟩, s⟩,
  bS l1' (hold _ d (l2.trans y)), bK.fj (d2 _ dF) (z.left l2)⟩
theorem OS {Q : Exit → Act → World → Prop} {K : Act → World → Prop} {H R : List aa} {d : Nat} {t e e' : TypeId} {x : Operand} {b i l c : Nat} {cs : List Value} (ht : P.underlying t = some (.slice e)) (he : P.underlying e = some (.int .u8)) (ho : o.op = .convert t t x) (hd : o.dst = some d)
  (hx : bd σ x = some (.slice (some ⟨b, i, none⟩) l c)) (hs : ez H (af b e' cs) R) (hdn : Nat.blt d n = true)
  (h : G n ds F K ((d, .slice (some ⟨b, i, none⟩) l c) :: σ) (af b e' cs :: R)) : G n ds F (fun a w => o.wp P a w K Q) σ H := by
 refine .mk fun a w en s => ?_
 have s1 := s.qK hs
 obtain ⟨hh, ⟨lo, hi, hf, hb⟩, hl⟩ := s1.get
 have hw : w.heap[b]? = some (.cells cs.toArray e' (lo, hi)) := hl _ _ hb
 have WE : w.shape? b = some (e', cs.length) := by unfold World.shape?; rw [hw]; simp
 unfold Oper.wp
 have : (execOp a.eval o).run P w = .ok (.value (.slice (some ⟨b, i, none⟩) l c)) (w.freeze ⟨b, cs.length, none⟩ 1) := by
  simp [execOp, ho, en.eval hx, convert, run_underlying ht, run_underlying he, markStringish, WE]
 rw [this, Oper.upon_value, hd]
 exact h _ _ (en.put hdn _) s1.freeze
theorem jf {K : Act → World → Prop} {H : List aa} {X : Prop} (hx : ∀ h, fF H h → X) (h : X → G n ds F K σ H) : G n ds F K σ H := .mk fun a w e s => by
 obtain ⟨hh, st, le, _⟩ := s.own
 exact h (hx (jB w) (bU st le)) a w e s
theorem fF.nth : ∀ {H : List aa} {h : Hp} (i : Nat) {A : aa}, fF H h → H[i]? = some A → ∃ k, A k ∧ Le k h := by
 intro H
 induction H with
 | nil => intro h i A _ e; simp at e
 | cons B r ih =>
  intro h i A av e
  cases i with
  | zero => simp only [List.getElem?_cons_zero, Option.some.injEq] at e; subst e; exact av.1
  | succ i => exact ih i av.2 (by simpa using e)
theorem oP {L : List aa} {h : Hp} (o : ∃ k, aE L k ∧ Le k h) : fF L h := by
 obtain ⟨k, p, l⟩ := o; exact bU p l
theorem nN {h : Hp} {b e : Nat} {cs : List Value} (o : ∃ k, af b e cs k ∧ Le k h) : fK h (some ⟨b, 0, none⟩) cs := by
 obtain ⟨k, p, l⟩ := o; have := (oG (i := 0) p).mono l; simpa using this
end
end Go.cQ
namespace Go.cQ
open Go
theorem uy {α : Type} (l : List α) : [] ++ l = l := rfl
theorem cap {α : Type} (a : α) (l m : List α) : (a :: l) ++ m = a :: (l ++ m) := rfl
theorem aF {A B : Prop} (h : A) (f : A → B := by
  intro h
  first
   | (simp only [decide_eq_true_eq, decide_eq_false_iff_not, Bool.not_eq_true', Bool.not_eq_false', Bool.not_not, Bool.and_eq_true, Bool.or_eq_true, Bool.and_eq_false_iff, Bool.or_eq_false_iff, Int.not_lt, Int.not_le, Nat.not_lt, Nat.not_le, beq_iff_eq, bne_iff_ne, Bool.not_true, Bool.not_false] at h; exact h)
   | exact h) : B := f h
def NB (ops : Array Oper) (o : Oper) (σ : aS) : Bool :=
 match o.guard with
 | none => true
 | some (j, b) => match (ops[j]?).bind (·.dst) with
  | some t => match look σ t with
   | some (.bool c) => match c, b with | true, true => true | false, false => true | _, _ => false
   | _ => false
  | none => false
def gno (ops : Array Oper) (o : Oper) (σ : aS) : Bool :=
 match o.guard with
 | none => false
 | some (j, b) => match (ops[j]?).bind (·.dst) with
  | some t => match look σ t with
   | some (.bool c) => match c, b with | true, false => true | false, true => true | _, _ => false
   | some (.tuple vs) => vs.isEmpty
   | _ => false
  | none => false
section
variable {P : Program} {n : Nat} {ds : List Deferred} {F : c9} {Q : Exit → Act → World → Prop} {K : Act → World → Prop} {σ : aS} {H : List aa} {o : Oper} {d : Nat} {ops : Array Oper} {rest : List Oper}
theorem jt {a : Act} (h : NB ops o σ = true) (e : Env n ds σ a) : Region.wanted o (yielded ops a.tmps) = true := by
 unfold NB at h
 unfold Region.wanted
 cases hg : o.guard with
 | none => rfl
 | some p =>
  obtain ⟨j, b⟩ := p
  simp only [hg] at h ⊢
  cases hj : (ops[j]?).bind (·.dst) with
  | none => rw [hj] at h; cases h
  | some t =>
   rw [hj] at h
   simp only at h
   cases ht : look σ t with
   | none => rw [ht] at h; cases h
   | some v =>
    rw [ht] at h
    cases v <;> simp at h
    rename_i c
    rw [tw hj ht e]
    cases c <;> cases b <;> simp_all
theorem nY {a : Act} (h : gno ops o σ = true) (e : Env n ds σ a) : Region.wanted o (yielded ops a.tmps) = false := by
 unfold gno at h
 unfold Region.wanted
 cases hg : o.guard with
 | none => rw [hg] at h; cases h
 | some p =>
  obtain ⟨j, b⟩ := p
  simp only [hg] at h ⊢
  cases hj : (ops[j]?).bind (·.dst) with
  | none => rw [hj] at h; cases h
  | some t =>
   rw [hj] at h
   simp only at h
   cases ht : look σ t with
   | none => rw [ht] at h; cases h
   | some v =>
    rw [ht] at h
    cases v <;> simp at h
    ·rename_i c
     rw [tw hj ht e]
     cases c <;> cases b <;> simp_all
    subst h
    have : yielded ops a.tmps j = none := by simp [yielded, hj, e.slot t _ ht]
    rw [this]; simp
theorem Lp (h : G n ds F (fun a w => o.wp P a w (wpList P ops Q rest) Q) σ H) (hg : NB ops o σ = true := by exact rfl) : G n ds F (wpList P ops Q (o :: rest)) σ H :=
 .mk fun a w e s => wpList_step fun K hK => by
  rw [if_pos (jt hg e)]
  exact Oper.wp_mono hK (h a w e s)
theorem Li {v : Value} (hy : Yv P n ds F σ o v) (h : G n ds F (wpList P ops Q rest) ((d, v) :: σ) H) (hg : NB ops o σ = true := by exact rfl) (hd : o.dst = some d := by exact rfl) (hdn : Nat.blt d n = true := by exact rfl) :
  G n ds F (wpList P ops Q (o :: rest)) σ H := Lp (op_y hy hd hdn h) hg
theorem Lx (h : G n ds F (wpList P ops Q rest) ((d, undef) :: σ) H) (hg : gno ops o σ = true := by exact rfl) (hd : o.dst = some d := by exact rfl) (hdn : Nat.blt d n = true := by exact rfl) : G n ds F (wpList P ops Q (o :: rest)) σ H :=
 .mk fun a w e s => wpList_step fun K hK => by
  rw [if_neg (by simp [nY hg e]), hd]
  exact hK _ _ (h _ w (e.put hdn undef) s)
theorem iS {id : Nat} {l : List Oper} {y : Code} (h : G n ds F (wpList P l.toArray (Exit.then (y.wp P Q) Q) l) σ H) : G n ds F ((Code.seq (Code.region id l.toArray false) y).wp P Q) σ H := ay (fE h)
theorem g_ne {K : Act → World → Prop} (h : G n ds F K σ H) : G n ds F (wpList P ops (Exit.then K Q) []) σ H := aB (JK h)
theorem yn {id : Nat} {As R : List aa} (hm : P.follows .mixedOrders = true) (dh : gY H As R)
  (h : ∀ F' : c9, Le F.h F'.h → fF As F'.h → Ax F As F' → G n ds F' (wpAnyH P .any ops Q (cD F') ops.size (Array.replicate ops.size false)) σ R) : G n ds F ((Code.region id ops true).wp P Q) σ H := U3 hm rfl dh h
def SA (ops : Array Oper) (listed : Array Bool) (i : Nat) : Bool := Region.noSelect ops && (Region.ready .any ops listed).contains i && Region.free .any ops listed i
theorem Ez {listed : Array Bool} {i : Nat} (h : SA ops listed i = true) : wo ops listed i (listed.setIfInBounds i true) = true := by
 unfold wo; unfold SA at h; rw [h]; simp
theorem Dt {listed : Array Bool} {fuel : Nat} {oi : Oper} {v : Value} (i : Nat) (hi : ops[i]? = some oi) (hy : Yv P n ds F σ oi v) (h : G n ds F (wpAnyH P .any ops Q (cD F) fuel (listed.setIfInBounds i true)) ((d, v) :: σ) H)
  (nB : SA ops listed i = true := by kernel_rfl) (po : lj Q := by repeat (first | with_reducible exact OM | with_reducible apply OL | with_reducible apply KS | exact fun _ _ _ _ _ q => q)) (hg : NB ops oi σ = true := by exact rfl) (hd : oi.dst = some d := by exact rfl) (hdn : Nat.blt d n = true := by exact rfl) :
  G n ds F (wpAnyH P .any ops Q (cD F) (fuel + 1) listed) σ H :=
 LL (Ez nB) hi po (fun a e => .inl ⟨jt hg e, fun w hw => hy a w e hw⟩) (fun a e => by rw [hd]; exact e.put hdn v) h
theorem Dn {listed : Array Bool} {fuel : Nat} {S : World → Prop} (i : Nat) (h : G n ds F (wpOp P ops Q i (fun a' w' => S w' ∧ wpAnyH P .any ops Q S fuel (listed.setIfInBounds i true) a' w')) σ H) (hr : Region.ready .any ops listed = [i] := by kernel_rfl) :
  G n ds F (wpAnyH P .any ops Q S (fuel + 1) listed) σ H := UZ hr h
theorem D2 {listed : Array Bool} {fuel : Nat} {S : World → Prop} (i j : Nat)
  (h1 : G n ds F (wpOp P ops Q i (fun a' w' => S w' ∧ wpAnyH P .any ops Q S fuel (listed.setIfInBounds i true) a' w')) σ H)
  (h2 : G n ds F (wpOp P ops Q j (fun a' w' => S w' ∧ wpAnyH P .any ops Q S fuel (listed.setIfInBounds j true) a' w')) σ H) (hr : Region.ready .any ops listed = [i, j] := by kernel_rfl) : G n ds F (wpAnyH P .any ops Q S (fuel + 1) listed) σ H := UY hr h1 h2
theorem Do {i : Nat} {oi : Oper} {K : Act → World → Prop} (hi : ops[i]? = some oi) (h : G n ds F (fun a w => oi.wp P a w K Q) σ H) (hg : NB ops oi σ = true := by exact rfl) : G n ds F (wpOp P ops Q i K) σ H := by
 refine .mk fun a w e s => ?_
 unfold wpOp
 simp only [hi, jt hg e, if_true]
 exact .inl (h a w e s)
theorem Mv {x : Operand} {v : Value} (ho : o.op = .move x := by exact rfl) (hx : bd σ x = some v := by exact rfl) : Yv P n ds F σ o v := Tv ho hx
theorem As {x : Operand} {v : Value} (ho : o.op = .assign x := by exact rfl) (hx : bd σ x = some v := by exact rfl) : Yv P n ds F σ o v := J8 ho hx
theorem Pt {c x y : Operand} {b : Bool} {v : Value} (ho : o.op = .pick c x y := by exact rfl) (hc : bd σ c = some (.bool b) := by exact rfl) (hb : b = true := by exact rfl) (hx : bd σ x = some v := by exact rfl) : Yv P n ds F σ o v := J3 ho hc hb hx
theorem Pf {c x y : Operand} {b : Bool} {v : Value} (ho : o.op = .pick c x y := by exact rfl) (hc : bd σ c = some (.bool b) := by exact rfl) (hb : b = false := by exact rfl) (hx : bd σ y = some v := by exact rfl) : Yv P n ds F σ o v := J4 ho hc hb hx
theorem Nc {x : Operand} {ad : Addr} (ho : o.op = .nilCheck x := by exact rfl) (hx : bd σ x = some (.pointer (some ad)) := by exact rfl) : Yv P n ds F σ o (.pointer (some ad)) := Bn ho hx
theorem Fa {s f k b i : Nat} {x : Operand} (hk : ak P s f = some k) (ho : o.op = .fieldAddr s x f := by exact rfl) (hx : bd σ x = some (.pointer (some ⟨b, i, none⟩)) := by exact rfl) : Yv P n ds F σ o (.pointer (some ⟨b, i + k, none⟩)) := zn hk ho hx
theorem Fam {s f k j : Nat} {x : Operand} {a : Option Addr} (hk : ak P s f = some k) (ho : o.op = .fieldAddr s x f := by exact rfl) (hx : bd σ x = some (.pointer (a.map (·.add j))) := by exact rfl) (hs : a.isSome = true := by first | rfl | assumption | exact fK.IE (by assumption) (by omega)) : Yv P n ds F σ o (.pointer (a.map (·.add (j + k)))) :=
 qT hk ho hx hs
theorem Ix {t e sz m : Nat} {x y : Operand} {a : Option Addr} {l c j : Nat} {k : IntKind} {i : Int} (ht : cH P t = some (e, sz)) (ho : o.op = .indexAddr t x y := by exact rfl) (hx : bd σ x = some (.slice a l c) := by exact rfl) (hy : bd σ y = some (.int k i) := by exact rfl)
  (hj : i = (j : Int) := by exact rfl) (hl : j < l := by first | omega | (simp only [List.length_append, List.length_cons, List.length_nil, List.length_take, List.length_drop]; omega)) (hm : j * sz = m := by first | exact Nat.mul_one _ | rfl) (hs : a.isSome = true := by first | rfl | assumption | exact fK.IE (by assumption) (by omega)) :
  Yv P n ds F σ o (.pointer (a.map (·.add m))) := CJ ht ho hx hy hj hl hm hs
theorem Ex {x : Operand} {i : Nat} {vs : Array Value} {v : Value} (ho : o.op = .extract x i := by exact rfl) (hx : bd σ x = some (.tuple vs) := by exact rfl) (hv : vs.toList[i]? = some v := by exact rfl) : Yv P n ds F σ o v := Et ho hx hv
theorem Nt {t : TypeId} {x : Operand} {b : Bool} (ho : o.op = .unOp .not t x := by exact rfl) (hx : bd σ x = some (.bool b) := by exact rfl) : Yv P n ds F σ o (.bool (!b)) := Yy ho hx
theorem Im {op : BinOp} {t yt : TypeId} {x y : Operand} {k : IntKind} {i j z : Int} (ho : o.op = .binOp op t x y yt := by exact rfl) (hx : bd σ x = some (.int k i) := by exact rfl) (hy : bd σ y = some (.int k j) := by exact rfl)
  (hz : gw op k i j = some z := by first | exact congrArg some (wrap_i64 (by omega)) | exact congrArg some (wrap_u64 (by omega)) | exact congrArg some (wrap_u32 (by omega)) | exact congrArg some (wrap_u16 (by omega)) | exact congrArg some (wrap_u8 (by omega)) | exact congrArg some (wrap_i32 (by omega)) | exact rfl) : Yv P n ds F σ o (.int k z) := uI ho hx hy hz
theorem Cm {op : BinOp} {t yt : TypeId} {x y : Operand} {k : IntKind} {i j : Int} {b : Bool} (ho : o.op = .binOp op t x y yt := by exact rfl) (hx : bd σ x = some (.int k i) := by exact rfl) (hy : bd σ y = some (.int k j) := by exact rfl) (hz : CC op i j = some b := by exact rfl) : Yv P n ds F σ o (.bool b) := YC ho hx hy hz
theorem Sh {t yt : TypeId} {x y : Operand} {k k' : IntKind} {i j z : Int} (s : Nat) (ho : o.op = .binOp .shl t x y yt := by exact rfl) (hx : bd σ x = some (.int k i) := by exact rfl) (hy : bd σ y = some (.int k' j) := by exact rfl) (hj : j = (s : Int) := by exact rfl) (hz : k.wrap (i * 2 ^ (min s k.bits)) = z := by exact rfl) : Yv P n ds F σ o (.int k z) := Yx ho hx hy hj hz
theorem Sr {t yt : TypeId} {x y : Operand} {k k' : IntKind} {i j z : Int} (s : Nat) (ho : o.op = .binOp .shr t x y yt := by exact rfl) (hx : bd σ x = some (.int k i) := by exact rfl) (hy : bd σ y = some (.int k' j) := by exact rfl) (hj : j = (s : Int) := by exact rfl) (hz : i.fdiv (2 ^ (min s k.bits)) = z := by exact rfl) : Yv P n ds F σ o (.int k z) := Yw ho hx hy hj hz
theorem Cv {s t : TypeId} {x : Operand} {k k' : IntKind} {i z : Int} (ht : P.underlying t = some (.int k)) (hs : (P.underlying s).isSome = true) (ho : o.op = .convert s t x := by exact rfl) (hx : bd σ x = some (.int k' i) := by exact rfl)
  (hz : k.wrap i = z := by first | exact wrap_i64 (by omega) | exact wrap_u64 (by omega) | exact wrap_u32 (by omega) | exact wrap_u16 (by omega) | exact wrap_u8 (by omega) | exact wrap_i32 (by omega) | exact rfl) : Yv P n ds F σ o (.int k z) := Ty ht hs ho hx hz
theorem Bq {op : BinOp} {t yt : TypeId} {x y : Operand} {i j b : Bool} (ht : P.underlying t = some .bool) (ho : o.op = .binOp op t x y yt := by exact rfl) (hx : bd σ x = some (.bool i) := by exact rfl) (hy : bd σ y = some (.bool j) := by exact rfl)
  (hop : (op = .eql ∧ b = (i == j)) ∨ (op = .neq ∧ b = (i != j)) := by first | exact .inl ⟨rfl, rfl⟩ | exact .inr ⟨rfl, rfl⟩) : Yv P n ds F σ o (.bool b) := J7 ht ho hx hy hop
theorem Sq {op : BinOp} {t yt : TypeId} {x y : Operand} {i j : List UInt8} {b : Bool} (ho : o.op = .binOp op t x y yt := by exact rfl) (hx : bd σ x = some (bC i) := by exact rfl) (hy : bd σ y = some (bC j) := by exact rfl)
  (hop : (op = .eql ∧ b = decide (i = j)) ∨ (op = .neq ∧ b = !decide (i = j)) := by first | exact .inl ⟨rfl, rfl⟩ | exact .inr ⟨rfl, rfl⟩) : Yv P n ds F σ o (.bool b) := N6 ho hx hy hop
theorem Pn {op : BinOp} {t yt e : TypeId} {x y : Operand} {p : Option Addr} {b : Bool} (ht : P.underlying t = some (.pointer e)) (ho : o.op = .binOp op t x y yt := by exact rfl) (hx : bd σ x = some (.pointer p) := by exact rfl) (hy : bd σ y = some (.pointer none) := by exact rfl)
  (hop : (op = .eql ∧ b = p.isNone) ∨ (op = .neq ∧ b = !p.isNone) := by first | exact .inl ⟨rfl, rfl⟩ | exact .inr ⟨rfl, rfl⟩) : Yv P n ds F σ o (.bool b) := J2 ht ho hx hy hop
theorem Ln {t : TypeId} {x : Operand} {a : Option Addr} {l c : Nat} {ek : TypeId × Nat} (ht : cH P t = some ek) (ho : o.op = .call { callee := .builtin .len, args := #[x], argTypes := #[t] } := by exact rfl) (hx : bd σ x = some (.slice a l c) := by exact rfl) : Yv P n ds F σ o (.int .i64 l) := YB ht ho hx
theorem Ls {t : TypeId} {x : Operand} {l : List UInt8} (ht : P.underlying t = some .string) (ho : o.op = .call { callee := .builtin .len, args := #[x], argTypes := #[t] } := by exact rfl) (hx : bd σ x = some (bC l) := by exact rfl) : Yv P n ds F σ o (.int .i64 l.length) := Tw ht ho hx
theorem Mi {x y : Operand} {k : IntKind} {i j : Int} {pE : Array TypeId} (ho : o.op = .call { callee := .builtin .min, args := #[x, y], argTypes := pE } := by exact rfl) (hx : bd σ x = some (.int k i) := by exact rfl) (hy : bd σ y = some (.int k j) := by exact rfl) : Yv P n ds F σ o (.int k (min i j)) := Yz ho hx hy
theorem Ma {x y : Operand} {k : IntKind} {i j : Int} {pE : Array TypeId} (ho : o.op = .call { callee := .builtin .max, args := #[x, y], argTypes := pE } := by exact rfl) (hx : bd σ x = some (.int k i) := by exact rfl) (hy : bd σ y = some (.int k j) := by exact rfl) : Yv P n ds F σ o (.int k (max i j)) := YA ho hx hy
theorem Bd {t : TypeId} {pl : List (Nat × Nat)} {zs vs cs : List Value} {parts : List (Nat × Operand)} (hz : bF P t = some zs) (hpl : gu P t = some pl) (ho : o.op = .build t parts.toArray := by exact rfl) (hv : iH σ (parts.map (·.2)) = some vs := by exact rfl)
  (hc : lG (fun i => pl[i]?) zs ((parts.map (·.1)).zip vs) = some cs := by exact rfl) : Yv P n ds F σ o (.agg cs.toArray) := N9 hz hpl ho hv hc
theorem Sl {t e sz : TypeId} {x : Operand} {lo hi mx : Option Operand} {a : Option Addr} {len cap : Nat} (l hh m : Nat) (ht : cH P t = some (e, sz)) (ho : o.op = .slice t x lo hi mx := by exact rfl) (hx : bd σ x = some (.slice a len cap) := by exact rfl)
  (Xu : Cj σ lo 0 l := by first | exact rfl | exact ⟨_, _, rfl, rfl⟩ | exact ⟨_, _, rfl, by omega⟩) (hbh : Cj σ hi len hh := by first | exact rfl | exact ⟨_, _, rfl, rfl⟩ | exact ⟨_, _, rfl, by omega⟩) (WL : Cj σ mx cap m := by first | exact rfl | exact ⟨_, _, rfl, rfl⟩ | exact ⟨_, _, rfl, by omega⟩)
  (h1 : l ≤ hh := by first | omega | (simp; omega)) (h2 : hh ≤ m := by first | omega | (simp; omega)) (h3 : m ≤ cap := by first | omega | (simp; omega)) (D6 : mx.isSome = true → hi.isSome = true := by simp) : Yv P n ds F σ o (.slice (wg a l m (l * sz)) (hh - l) (m - l)) := N7 l hh m ht ho hx Xu hbh WL h1 h2 h3 D6
theorem Ts {s t : TypeId} {x : Operand} {a : Option Addr} {l : List UInt8} {m c sz : Nat} {e : TypeId} (hs : cH P s = some (e, sz)) (he : P.underlying e = some (.int .u8)) (ht : P.underlying t = some .string) (ho : o.op = .convert s t x := by exact rfl)
  (hx : bd σ x = some (.slice a m c) := by exact rfl) (hm : m = l.length := by first | rfl | assumption) (hr : fK F.h a (aq l) := by assumption) : Yv P n ds F σ o (bC l) := Bm hs he ht ho hx hm hr
theorem Cs {s t : TypeId} {x : Operand} {l : List UInt8} (hs : P.underlying s = some .string) (ht : P.underlying t = some .string) (ho : o.op = .convert s t x := by exact rfl) (hx : bd σ x = some (bC l) := by exact rfl) : Yv P n ds F σ o (bC l) := N8 hs ht ho hx
def Aj (P : Program) (t : TypeId) : Option (Nat × TypeId × Nat) :=
 match P.underlying t with
 | some (.array k e) => match P.info? e with
  | some i => some (k, e, i.size)
  | none => none
 | _ => none
theorem J6 {t e sz k m b i j : Nat} {x y : Operand} {kd : IntKind} {z : Int} (ht : Aj P t = some (k, e, sz)) (ho : o.op = .indexAddr t x y) (hx : bd σ x = some (.pointer (some ⟨b, i, none⟩))) (hy : bd σ y = some (.int kd z)) (hj : z = (j : Int)) (hl : j < k) (hm : j * sz = m) : Yv P n ds F σ o (.pointer (some ⟨b, i + m, none⟩)) :=
 fun a w en fr => by
  unfold Aj at ht
  cases hu : P.underlying t with
  | none => simp [hu] at ht
  | some dsc =>
   cases dsc <;> simp [hu] at ht
   rename_i k' e'
   cases hi : P.info? e' with
   | none => simp [hi] at ht
   | some inf =>
    simp [hi] at ht
    obtain ⟨rfl, rfl, rfl⟩ := ht
    subst hj; subst hm
    simp [execOp, ho, Instr.indexAt, en.eval hx, en.eval hy, asIntOf, run_underlying hu, sizeOf, typeInfo, hi, hl, add_lit, Instr.sureAddr]
theorem Ia {t e sz k m b i j : Nat} {x y : Operand} {kd : IntKind} {z : Int} (ht : Aj P t = some (k, e, sz)) (ho : o.op = .indexAddr t x y := by exact rfl) (hx : bd σ x = some (.pointer (some ⟨b, i, none⟩)) := by exact rfl) (hy : bd σ y = some (.int kd z) := by exact rfl) (hj : z = (j : Int) := by exact rfl)
  (hl : j < k := by omega) (hm : j * sz = m := by first | exact Nat.mul_one _ | rfl) : Yv P n ds F σ o (.pointer (some ⟨b, i + m, none⟩)) := J6 ht ho hx hy hj hl hm
def Hq (F : c9) (H : List aa) (p : Option Addr) (v : Value) : Prop := ∃ ad, p = some ad ∧ ∀ h, Le F.h h → fF H h → di h ad = some v
theorem nK {A : aa} {R : List aa} (s : ez H A R) : ∀ h, fF H h → ∃ k, A k ∧ Le k h := by
 induction s with
 | here => exact fun h x => x.1
 | there _ ih => exact fun h x => ih h x.2
theorem I4 {b i : Nat} {e : TypeId} {cs : List Value} {R : List aa} {v : Value} (s : ez H (af b e cs) R) (hv : cs[i]? = some v) : Hq F H (some ⟨b, i, none⟩) v :=
 ⟨_, rfl, fun h _ av => by obtain ⟨k, p, l⟩ := nK s h av; exact bZ l (dX p hv)⟩
theorem I5 {a : Option Addr} {k cap e sz : Nat} {v : Value} {cells : List Value} {R : List aa} (hs : a.isSome = true) (s : ez H (own a cap e sz cells) R) (hv : cells[k]? = some v) : Hq F H (a.map (·.add k)) v := by
 obtain ⟨ad, rfl⟩ := Option.isSome_iff_exists.1 hs
 refine ⟨_, rfl, fun h _ av => ?_⟩
 obtain ⟨m, p, l⟩ := nK s h av
 obtain ⟨XH, e1, e2⟩ := mG p k v hv
 cases e1
 exact bZ l e2
theorem sb {b i : Nat} {e : TypeId} {cs : List Value} {v : Value} (hp : ∃ k, af b e cs k ∧ Le k F.h) (hv : cs[i]? = some v) : Hq F H (some ⟨b, i, none⟩) v := by
 obtain ⟨k, p, l⟩ := hp
 exact ⟨_, rfl, fun h le _ => bZ (l.trans le) (dX p hv)⟩
theorem yk {a : Option Addr} {k : Nat} {v : Value} {cells : List Value} (hr : fK F.h a cells) (hv : cells[k]? = some v) : Hq F H (a.map (·.add k)) v := by
 obtain ⟨ad, rfl, hc⟩ := hr k v hv
 exact ⟨_, rfl, fun h le _ => bZ le hc⟩
theorem Cx {a : Option Addr} {k : Nat} {l : List UInt8} (hr : fK F.h a (aq l)) (hk : k < l.length) : Hq F H (a.map (·.add k)) (.int .u8 (WR l k : Int)) := yk hr (Ha hk)
theorem NR {ad : Addr} {v : Value} (hv : di F.h ad = some v) : Hq F H (some ad) v := ⟨_, rfl, fun h le _ => bZ le hv⟩
theorem oL {t : TypeId} {x : Operand} {p : Option Addr} {v : Value} (hs : cB P t = true) (h : G n ds F K ((d, v) :: σ) H) (ho : o.op = .load t x := by exact rfl) (hd : o.dst = some d := by exact rfl) (hx : bd σ x = some (.pointer p) := by exact rfl)
  (hk : Hq F H p v := by
   first
    | exact I4 (by repeat (first | exact ez.here | apply ez.there)) (by first | exact rfl | assumption)
    | exact yk (by assumption) (by first | assumption | exact rfl)
    | exact Cx (by assumption) (by omega)
    | exact sb (by assumption) (by first | exact rfl | assumption)
    | exact I5 (by first | rfl | assumption) (by repeat (first | exact ez.here | apply ez.there)) (by first | assumption | exact rfl)
    | exact NR (by assumption)) (hdn : Nat.blt d n = true := by exact rfl) : G n ds F (fun a w => o.wp P a w K Q) σ H := by
 obtain ⟨ad, rfl, hv⟩ := hk
 exact yL hs ho hd hx (fun w s => by obtain ⟨hh, st, le, _⟩ := s.own; exact hv _ s.frame (bU st le)) hdn h
theorem Lf {t : TypeId} {x : Operand} {p : Option Addr} {v : Value} (hs : cB P t = true) (ho : o.op = .load t x := by exact rfl) (hx : bd σ x = some (.pointer p) := by exact rfl)
  (hk : Hq F [] p v := by
   first
    | exact yk (by assumption) (by first | assumption | exact rfl)
    | exact Cx (by assumption) (by omega)
    | exact sb (by assumption) (by first | exact rfl | assumption)
    | exact NR (by assumption)) : Yv P n ds F σ o v := by
 obtain ⟨ad, rfl, hv⟩ := hk
 exact CI hs ho hx (hv _ (Le.refl _) trivial)
def r7 (F : c9) (H : List aa) (p : Option Addr) (_k : Nat) (vs : List Value) : Prop := ∃ ad, p = some ad ∧ ∀ h, Le F.h h → fF H h → ∀ j v, vs[j]? = some v → di h (ad.add j) = some v
theorem mh {cs vs : List Value} {i k j : Nat} {v : Value} (hv : (cs.drop i).take k = vs) (hj : vs[j]? = some v) : cs[i + j]? = some v := by
 rw [← hv, List.getElem?_take] at hj
 split at hj
 ·simpa using hj
 cases hj
theorem xg {b i k : Nat} {e : TypeId} {cs vs : List Value} {R : List aa} (s : ez H (af b e cs) R) (hv : (cs.drop i).take k = vs) : r7 F H (some ⟨b, i, none⟩) k vs :=
 ⟨_, rfl, fun h _ av j v hj => by obtain ⟨m, p, l⟩ := nK s h av; rw [add_lit]; exact bZ l (dX p (mh hv hj))⟩
theorem yW {b k : Nat} {e : TypeId} {cs : List Value} {R : List aa} (s : ez H (af b e cs) R) (hv : cs.length = k) : r7 F H (some ⟨b, 0, none⟩) k cs :=
 xg s (by rw [List.drop_zero, List.take_of_length_le (by omega)])
theorem wC {b i k : Nat} {e : TypeId} {cs vs : List Value} (hp : ∃ m, af b e cs m ∧ Le m F.h) (hv : (cs.drop i).take k = vs) : r7 F H (some ⟨b, i, none⟩) k vs := by
 obtain ⟨m, p, l⟩ := hp
 exact ⟨_, rfl, fun h le _ j v hj => by rw [add_lit]; exact bZ (l.trans le) (dX p (mh hv hj))⟩
theorem sB {a : Option Addr} {i k : Nat} {cells vs : List Value} (hr : fK F.h a cells) (hv : (cells.drop i).take k = vs) (h0 : a.isSome = true) : r7 F H (a.map (·.add i)) k vs := by
 obtain ⟨ad, rfl⟩ := Option.isSome_iff_exists.1 h0
 refine ⟨_, rfl, fun h le _ j v hj => ?_⟩
 obtain ⟨XH, e1, e2⟩ := hr _ v (mh hv hj)
 cases e1
 rw [add_add]; exact bZ le e2
theorem Dx {a : Option Addr} {i k cap e sz : Nat} {cells vs : List Value} {R : List aa} (h0 : a.isSome = true) (s : ez H (own a cap e sz cells) R) (hv : (cells.drop i).take k = vs) : r7 F H (a.map (·.add i)) k vs := by
 obtain ⟨ad, rfl⟩ := Option.isSome_iff_exists.1 h0
 refine ⟨_, rfl, fun h _ av j v hj => ?_⟩
 obtain ⟨m, p, l⟩ := nK s h av
 obtain ⟨XH, e1, e2⟩ := mG p _ v (mh hv hj)
 cases e1
 rw [add_add]; exact bZ l e2
theorem vu {t k : TypeId} {x : Operand} {p : Option Addr} {vs : List Value} (hs : cn P t = some k) (ho : o.op = .load t x) (hd : o.dst = some d) (hx : bd σ x = some (.pointer p)) (hk : r7 F H p k vs) (hl : vs.length = k) (hdn : Nat.blt d n = true)
  (h : G n ds F K ((d, .agg vs.toArray) :: σ) H) : G n ds F (fun a w => o.wp P a w K Q) σ H := by
 obtain ⟨ad, rfl, hv⟩ := hk
 refine nP hd hdn (fun ac w en s => ?_) h
 obtain ⟨hh, st, le, _⟩ := s.own
 have hc := hv _ s.frame (bU st le)
 subst hl
 simp [execOp, ho, en.eval hx, Instr.loadAt, Instr.sureAddr, loadVar, (dH hs).1, (dH hs).2, run_loadCells_list w _ vs hc]
theorem oLN {t k : TypeId} {x : Operand} {p : Option Addr} {vs : List Value} (hs : cn P t = some k) (h : G n ds F K ((d, .agg vs.toArray) :: σ) H) (ho : o.op = .load t x := by exact rfl) (hd : o.dst = some d := by exact rfl) (hx : bd σ x = some (.pointer p) := by exact rfl)
  (hk : r7 F H p k vs := by
   first
    | exact yW (by repeat (first | exact ez.here | apply ez.there)) (by exact rfl)
    | exact xg (by repeat (first | exact ez.here | apply ez.there)) (by exact rfl)
    | exact sB (by assumption) (by first | assumption | exact rfl) (by first | rfl | assumption)
    | exact wC (by assumption) (by exact rfl)
    | exact Dx (by first | rfl | assumption) (by repeat (first | exact ez.here | apply ez.there)) (by first | assumption | exact rfl))
  (hl : vs.length = k := by first | rfl | (simp; omega)) (hdn : Nat.blt d n = true := by exact rfl) : G n ds F (fun a w => o.wp P a w K Q) σ H := vu hs ho hd hx hk hl hdn h
theorem J5 {t k : TypeId} {x : Operand} {p : Option Addr} {vs : List Value} (hs : cn P t = some k) (ho : o.op = .load t x) (hx : bd σ x = some (.pointer p)) (hk : r7 F [] p k vs) (hl : vs.length = k) : Yv P n ds F σ o (.agg vs.toArray) := by
 obtain ⟨ad, rfl, hv⟩ := hk
 intro ac w en fr
 have hc := hv _ fr trivial
 subst hl
 simp [execOp, ho, en.eval hx, Instr.loadAt, Instr.sureAddr, loadVar, (dH hs).1, (dH hs).2, run_loadCells_list w _ vs hc]
theorem LfN {t k : TypeId} {x : Operand} {p : Option Addr} {vs : List Value} (hs : cn P t = some k) (ho : o.op = .load t x := by exact rfl) (hx : bd σ x = some (.pointer p) := by exact rfl)
  (hk : r7 F [] p k vs := by
   first
    | exact sB (by assumption) (by first | assumption | exact rfl) (by first | rfl | assumption)
    | exact wC (by assumption) (by exact rfl)) (hl : vs.length = k := by first | rfl | (simp; omega)) : Yv P n ds F σ o (.agg vs.toArray) := J5 hs ho hx hk hl
theorem oS {t : TypeId} {x y : Operand} {b i : Nat} {e : TypeId} {cs : List Value} {f : aa → List aa} {v : Value} (hs : cB P t = true) (h : G n ds F K σ (f (af b e (cs.set i v)))) (ho : o.op = .store t x y := by exact rfl) (hd : o.dst = none := by exact rfl)
  (hx : bd σ x = some (.pointer (some ⟨b, i, none⟩)) := by exact rfl) (hy : bd σ y = some v := by exact rfl) (hu : Pos H (af b e cs) f := by repeat (first | exact Pos.here | apply Pos.there)) (h1 : v.oneCell' = true := by first | rfl | decide | simp) (hi : i < cs.length := by first | decide | (simp; done) | (simp; omega) | omega) :
  G n ds F (fun a w => o.wp P a w K Q) σ H := yK hs ho hd hx hy h1 hu hi h
theorem oSN {t k : TypeId} {x y : Operand} {b i : Nat} {e : TypeId} {cs vs : List Value} {f : aa → List aa} (hs : cn P t = some k) (h : G n ds F K σ (f (af b e (db cs i vs)))) (ho : o.op = .store t x y := by exact rfl) (hd : o.dst = none := by exact rfl)
  (hx : bd σ x = some (.pointer (some ⟨b, i, none⟩)) := by exact rfl) (hy : bd σ y = some (.agg vs.toArray) := by exact rfl) (hk : vs.length = k := by exact rfl) (h1 : ∀ v ∈ vs, v.oneCell' = true := by simp [db, Value.cells, Value.oneCell', bC])
  (hu : Pos H (af b e cs) f := by repeat (first | exact Pos.here | apply Pos.there)) (hi : i + vs.length ≤ cs.length := by simp [db, qE]) : G n ds F (fun a w => o.wp P a w K Q) σ H := pY hs ho hd hx hy hk h1 hu hi h
theorem KC {cs vs : List Value} (h : vs.length = cs.length) : db cs 0 vs = vs := by
 rw [jH (by omega)]; simp [h]
theorem j5 {t k : TypeId} {x y : Operand} {b : Nat} {e : TypeId} {cs vs : List Value} {f : aa → List aa} (hs : cn P t = some k) (h : G n ds F K σ (f (af b e vs))) (ho : o.op = .store t x y := by exact rfl) (hd : o.dst = none := by exact rfl)
  (hx : bd σ x = some (.pointer (some ⟨b, 0, none⟩)) := by exact rfl) (hy : bd σ y = some (.agg vs.toArray) := by exact rfl) (hk : vs.length = k := by exact rfl) (h1 : ∀ v ∈ vs, v.oneCell' = true := by simp [db, Value.cells, Value.oneCell', bC])
  (hu : Pos H (af b e cs) f := by repeat (first | exact Pos.here | apply Pos.there)) (hl : cs.length = k := by exact rfl) : G n ds F (fun a w => o.wp P a w K Q) σ H :=
 pY hs ho hd hx hy hk h1 hu (by omega) (by rw [KC (by omega)]; exact h)
theorem oB {t : TypeId} {x : Operand} {v : Value} {cs : List Value} (h : ∀ b, G n ds F K ((d, .pointer (some ⟨b, 0, none⟩)) :: σ) (af b t cs :: H)) (ho : o.op = .box t x := by exact rfl) (hd : o.dst = some d := by exact rfl) (hx : bd σ x = some v := by exact rfl) (hc : v.cells = cs.toArray := by exact rfl) (hdn : Nat.blt d n = true := by exact rfl) :
  G n ds F (fun a w => o.wp P a w K Q) σ H := UB ho hd hx hc hdn h
theorem oA {t : TypeId} {cs : List Value} (hz : bF P t = some cs) (h : ∀ b, G n ds F K ((d, .pointer (some ⟨b, 0, none⟩)) :: σ) (af b t cs :: H)) (ho : o.op = .alloc t := by exact rfl) (hd : o.dst = some d := by exact rfl) (hdn : Nat.blt d n = true := by exact rfl) :
  G n ds F (fun a w => o.wp P a w K Q) σ H := K6 hz ho hd hdn h
theorem oT {t : TypeId} {e j7 len : Nat} {z vs : List Value} {parts : List (Nat × Operand)} (ht : om P t = some (e, 1, j7, z)) (h : ∀ b, G n ds F K ((d, .slice (some ⟨b, 0, none⟩) len len) :: σ) (af b e vs :: H)) (ho : o.op = .buildSlice t len parts.toArray := by exact rfl) (hd : o.dst = some d := by exact rfl) (hv : iH σ (parts.map (·.2)) = some vs := by exact rfl)
  (hk : Nat.ble (len * 1) 16777216 = true := by exact rfl) (hi : parts.map (·.1) = List.range' 0 vs.length := by exact rfl) (hlen : vs.length = len := by exact rfl) (h1 : ∀ v ∈ vs, v.oneCell' = true := by simp [Value.oneCell', bC]) (hdn : Nat.blt d n = true := by exact rfl) :
  G n ds F (fun a w => o.wp P a w K Q) σ H := OU ht ho hd hv hk hi hlen h1 hdn h
theorem oT1 {t : TypeId} {e sz j7 : Nat} {z cs : List Value} {x : Operand} (ht : om P t = some (e, sz, j7, z)) (h : ∀ b, G n ds F K ((d, .slice (some ⟨b, 0, none⟩) 1 1) :: σ) (af b e cs :: H)) (ho : o.op = .buildSlice t 1 #[(0, x)] := by exact rfl) (hd : o.dst = some d := by exact rfl) (hx : bd σ x = some (.agg cs.toArray) := by exact rfl)
  (hl : cs.length = sz := by exact rfl) (hk : Nat.ble (1 * sz) 16777216 = true := by exact rfl) (hdn : Nat.blt d n = true := by exact rfl) : G n ds F (fun a w => o.wp P a w K Q) σ H := OV ht ho hd hx hl hk hdn h
theorem oMk {t e e' : TypeId} {x : Operand} {b i l c : Nat} {cs : List Value} {R : List aa} (ht : P.underlying t = some (.slice e)) (he : P.underlying e = some (.int .u8)) (h : G n ds F K ((d, .slice (some ⟨b, i, none⟩) l c) :: σ) (af b e' cs :: R)) (ho : o.op = .convert t t x := by exact rfl) (hd : o.dst = some d := by exact rfl)
  (hx : bd σ x = some (.slice (some ⟨b, i, none⟩) l c) := by exact rfl) (hs : ez H (af b e' cs) R := by repeat (first | exact ez.here | apply ez.there)) (hdn : Nat.blt d n = true := by exact rfl) : G n ds F (fun a w => o.wp P a w K Q) σ H := OS ht he ho hd hx hs hdn h
theorem oM {t : TypeId} {e sz j7 : Nat} {z : List Value} {x y : Operand} {k k' : IntKind} {i j : Int} (l c : Nat) (ht : om P t = some (e, sz, j7, z)) (h : ∀ b, G n ds F K ((d, .slice (some ⟨b, 0, none⟩) l c) :: σ) (af b e (eV z (c * sz)) :: H)) (ho : o.op = .makeSlice t x y := by exact rfl) (hd : o.dst = some d := by exact rfl)
  (hx : bd σ x = some (.int k i) := by exact rfl) (hy : bd σ y = some (.int k' j) := by exact rfl) (xP : i = (l : Int) := by first | omega | (simp; omega)) (hj : j = (c : Int) := by first | omega | (simp; omega)) (hlc : l ≤ c := by first | omega | (simp; omega)) (hc : c * j7 ≤ 281474976710656 := by first | omega | (simp; omega))
  (vV : c ≤ 9223372036854775807 := by first | omega | (simp; omega)) (hdn : Nat.blt d n = true := by exact rfl) : G n ds F (fun a w => o.wp P a w K Q) σ H := OT ht ho hd hx hy xP hj hlc hc vV hdn h
theorem oC {f : FuncId} {xs : List Operand} {vs : List Value} {pE : Array TypeId} {pre : Hp → Prop} {A2 R : List aa} {T : Value → List aa → Prop} (jw : aA P f = true) (ho : o.op = .call { callee := .value (.func f), args := xs.toArray, argTypes := pE }) (hv : iH σ xs = some vs) (hc : aL P f vs pre A2 T) (dh : gY H A2 R) (gI : ∀ h, Le F.h h → fF R h → pre h)
  (h : ∀ v H', T v H' → G n ds F K ((d, v) :: σ) (H' ++ R)) (hd : o.dst = some d := by exact rfl) (hdn : Nat.blt d n = true := by exact rfl) :
  G n ds F (fun a w => o.wp P a w K Q) σ H := OW jw ho hd hv hc dh gI hdn h
theorem Eh {A B : List aa} (h : ∀ h, aj A h → aj B h := by
  first
   | exact fun _ x => x
   | (apply dx; (repeat' (first | exact gY.nil | apply gY.cons | exact ez.here | apply ez.there)); done)
   | (refine ent_eq ?_; simp; done)) : ∀ h, aj A h → aj B h := h
theorem Hh {K : Act → World → Prop} {H' : List aa} (h : G n ds F K σ H') (hh : ∀ h, aj H h → aj H' h := by exact Eh) : G n ds F K σ H := az hh h
theorem Sb {A B : aS} (h : qS A B := by
  repeat' first
   | exact trivial
   | refine And.intro ?_ ?_
   | exact rfl
   | (refine congrArg (fun q => some (Value.int _ q)) ?_; omega)
   | (refine congrArg (fun q => some (Value.slice _ q _)) ?_; omega)
   | (refine congrArg (fun q => some (Value.bool q)) ?_; rw [Bool.eq_iff_iff]; simp only [Bool.or_eq_true, Bool.and_eq_true, decide_eq_true_eq, Bool.not_eq_true', decide_eq_false_iff_not, Bool.false_eq_true, true_iff, false_iff, iff_true, iff_false]; first | omega | grind)
   | (refine congrArg (fun q => some (Value.bool q)) ?_; simp [*]; done)) : qS A B := h
theorem Lo {ι : Type} {c : Code} (j8 : List Nat) (I : ι → Prop) (L : ι → aS) (HI : ι → List aa) (μ : ι → Nat) (i₀ : ι) (h0 : I i₀)
  (round : ∀ i, I i → G n ds F (c.wp P (Exit.then (rN n ds F j8 σ I L HI μ i) Q)) (L i ++ fi j8 σ) (HI i)) (hs : qS (L i₀) σ := by exact Sb) (hh : ∀ h, aj H h → aj (HI i₀) h := by exact Eh) : G n ds F ((Code.loop c).wp P Q) σ H :=
 Qb j8 I L HI μ i₀ h0 hs hh round
theorem Ro {ι : Type} {j8 : List Nat} {σ0 : aS} {I : ι → Prop} {L : ι → aS} {HI : ι → List aa} {μ : ι → Nat} {i : ι} (j : ι) (hI : I j) (hm : μ j < μ i) (hs : qS (L j) σ := by exact Sb) (hk : fi j8 σ = fi j8 σ0 := by exact rfl) (hh : ∀ h, aj H h → aj (HI j) h := by exact Eh) :
  G n ds F (Exit.then (rN n ds F j8 σ0 I L HI μ i) Q .normal) σ H := Mm j hI hm hs hk hh
theorem Me {ι : Type} {j8 : List Nat} {σ0 : aS} {I : ι → Prop} {L : ι → aS} {HI : ι → List aa} (j : ι) (hI : I j) (hs : qS (L j) σ := by exact Sb) (hk : fi j8 σ = fi j8 σ0 := by exact rfl) (hh : ∀ h, aj H h → aj (HI j) h := by exact Eh) :
  G n ds F (Exit.then (Ip n ds F j8 σ0 I L HI) Q .normal) σ H := ZT j hI hs hk hh
theorem Rt {fn : Func} {R : Value → List aa → Prop} {t : Nat} {v : Value} (H' : List aa) (hr : fn.results = #[.tmp t]) (hR : R v H') (hv : look σ t = some v := by exact rfl) (hh : ∀ h, aj H h → aj H' h := by exact Eh) :
  G n [] F (bodyPost P fn (fun e w' => ∃ v H', e = .returned v ∧ R v H' ∧ St F H' w') .ret) σ H := ZS hr hv hR hh
theorem Rt0 {fn : Func} {R : Value → List aa → Prop} (H' : List aa) (hr : fn.results = #[]) (hR : R (.tuple #[]) H') (hh : ∀ h, aj H h → aj H' h := by exact Eh) :
  G n [] F (bodyPost P fn (fun e w' => ∃ v H', e = .returned v ∧ R v H' ∧ St F H' w') .ret) σ H := VY hr hR hh
theorem jN {fn : Func} {R : Value → List aa → Prop} (H' : List aa) (hr : fn.results = #[]) (hR : R (.tuple #[]) H') (hh : ∀ h, aj H h → aj H' h := by exact Eh) :
  G n [] F (bodyPost P fn (fun e w' => ∃ v H', e = .returned v ∧ R v H' ∧ St F H' w') .normal) σ H := VZ hr hR hh
theorem gn {fn : Func} {R : Value → List aa → Prop} {t u : Nat} {v x : Value} (H' : List aa) (hr : fn.results = #[.tmp t, .tmp u]) (hR : R (.tuple #[v, x]) H') (hv : look σ t = some v := by exact rfl) (hx : look σ u = some x := by exact rfl) (hh : ∀ h, aj H h → aj H' h := by exact Eh) :
  G n [] F (bodyPost P fn (fun e w' => ∃ v H', e = .returned v ∧ R v H' ∧ St F H' w') .ret) σ H := VX hr hv hx hR hh
theorem Sx {fn : Func} {T : Value → List aa → Prop} {t ty b i k : Nat} {e : TypeId} {cs vs : List Value} {R : List aa} (H' : List aa) (hs : cn P ty = some k) (hr : fn.results = #[.cell t ty]) (hR : T (.agg vs.toArray) H') (ht : look σ t = some (.pointer (some ⟨b, i, none⟩)) := by exact rfl)
  (dh : ez H (af b e cs) R := by repeat (first | exact ez.here | apply ez.there)) (hv : (cs.drop i).take k = vs := by exact rfl) (hk : vs.length = k := by exact rfl) (hh : ∀ h, aj H h → aj H' h := by exact Eh) : G n [] F (bodyPost P fn (fun e w' => ∃ v H', e = .returned v ∧ T v H' ∧ St F H' w') .ret) σ H :=
 VW hs hr ht dh hv hk hR hh
end
end Go.cQ
