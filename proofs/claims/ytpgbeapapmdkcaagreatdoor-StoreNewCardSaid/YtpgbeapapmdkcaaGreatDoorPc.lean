/- Part Pc of the proof. -/
import Derived.Test.YtpgbeapapmdkcaaGreatDoorPb
import Derived.Defers
import Derived.Laws.Concat
import Derived.Laws.Externs
import Derived.Laws.LoneSync
import Derived.Laws.StructEq
import Derived.MapKept
set_option maxRecDepth 100000
namespace Go.cQ
open Go
section
variable {P : Program} {f : FuncId} {args : List Value} {pre : Hp → Prop} {H : List aa} {R : Value → List aa → Prop}
theorem St.ex {ι : Type} {F : c9} {w : World} {A : ι → aa} (s : St F ((fun k => ∃ x, A x k) :: H) w) : ∃ x, St F (A x :: H) w := by
 obtain ⟨a1, a2, a3, fr, hh, ⟨h1, h2, d, l1, l2, ⟨x, hx⟩, st⟩, y, z⟩ := s
 exact ⟨x, a1, a2, a3, fr, hh, ⟨h1, h2, d, l1, l2, hx, st⟩, y, z⟩
theorem aL.WO {ι : Type} {A : ι → aa} (h : ∀ x, aL P f args pre (A x :: H) R) : aL P f args pre ((fun k => ∃ x, A x k) :: H) R := fun F w hp s => by
 obtain ⟨x, s'⟩ := s.ex
 exact h x F w hp s'
theorem aL.ye {X : Prop} {A : aa} (h : X → aL P f args pre (A :: H) R) : aL P f args pre ((fun k => X ∧ A k) :: H) R := fun F w hp s => by
 obtain ⟨a1, a2, a3, fr, hh, ⟨h1, h2, d, l1, l2, ⟨x, hx⟩, st⟩, y, z⟩ := s
 exact h x F w hp ⟨a1, a2, a3, fr, hh, ⟨h1, h2, d, l1, l2, hx, st⟩, y, z⟩
theorem aL.AG {L : List aa} (h : aL P f args pre (L ++ H) R) : aL P f args pre (aE L :: H) R := fun F w hp s =>
 h F w hp (s.sub fun k s => by
  obtain ⟨h1, h2, d, l1, l2, s1, s2⟩ := s
  exact dp (bB s1 s2 d) (bS l1 l2))
theorem aL.out {R' : Value → List aa → Prop} (h : aL P f args pre H R) (hr : ∀ v H', R v H' → ∃ H'', R' v H'' ∧ ∀ k, aj H' k → aj H'' k) : aL P f args pre H R' := fun F w p s =>
 (h F w p s).mono fun e w' hh => by
  obtain ⟨v, H', he, r, st⟩ := hh
  obtain ⟨H'', r', WQ⟩ := hr v H' r
  exact ⟨v, H'', he, r', st.sub WQ⟩
theorem aL.inp {XU : Hp → Prop} (h : aL P f args pre H R) (hp : ∀ k, XU k → pre k) : aL P f args XU H R := fun F w p s => h F w (hp _ p) s
theorem aL.UC {X : Prop} (hx : ∀ k, pre k → X) (h : X → aL P f args pre H R) : aL P f args pre H R := fun F w p s => h (hx _ p) F w p s
end
section
variable {P : Program} {n : Nat} {ds : List Deferred} {F : c9} {K : Act → World → Prop} {σ : aS} {H : List aa}
theorem U1 {X : Prop} {A : aa} (h : X → G n ds F K σ (A :: H)) : G n ds F K σ ((fun k => X ∧ A k) :: H) := by
 refine .mk fun a w e s => ?_
 obtain ⟨a1, a2, a3, fr, hh, ⟨h1, h2, d, l1, l2, ⟨x, hx⟩, st⟩, y, z⟩ := s
 exact h x a w e ⟨a1, a2, a3, fr, hh, ⟨h1, h2, d, l1, l2, hx, st⟩, y, z⟩
end
theorem eS {H R : List aa} {A : aa} {X : Prop} (s : ez H A R) (hx : ∀ k, A k → X) : ∀ h, fF H h → X := fun h av => by obtain ⟨k, p, _⟩ := nK s h av; exact hx k p
theorem OR {a : Option Addr} {cap e : Nat} {xs : List Value} (k : Hp) (o : own a cap e 1 xs k) : xs.length ≤ cap := by have := o.1; omega
theorem hJ {a : Option Addr} {cap e sz : Nat} {xs : List Value} {k : Hp} (o : own a cap e sz xs k) (h : 0 < xs.length) : a.isSome = true := by
 obtain ⟨h1, _, h3 | ⟨b, sp, rfl, _, _⟩⟩ := o
 ·obtain ⟨rfl, rfl⟩ := h3; omega
 rfl
end Go.cQ
namespace Go.cQ
open Go
section
variable {P : Program} {n : Nat} {ds : List Deferred} {F : c9} {Q : Exit → Act → World → Prop} {K : Act → World → Prop} {σ : aS} {H : List aa} {o : Oper} {d : Nat}
def FnD (P : Program) (f : FuncId) (args : List Value) (pre : Hp → Prop) (H : List aa) (R : Value → List aa → Prop) : Prop :=
 aA P f = true ∧ ∀ F w u, pre F.h → St F H w → CallsD P f args.toArray u w fun e u' w' => u' = u ∧ ∃ v H', e = .returned v ∧ R v H' ∧ St F H' w'
theorem Fl {f : FuncId} {fn : Func} {c : Code} {args : List Value} {pre : Hp → Prop} {R : Value → List aa → Prop} {m : Nat} (hi : aA P f = true) (hf : P.funcs[f]? = some fn) (hb : fn.body = some c) (hm : fn.ntmps = m) (hn : Nat.ble args.length m = true)
  (h : ∀ F : c9, pre F.h → G m [] F (c.wp P (bodyPost P fn fun e w' => ∃ v H', e = .returned v ∧ R v H' ∧ St F H' w')) (iY 0 args) H) : FnD P f args pre H R :=
 ⟨hi, fun F w u hp s => callsD_of_wp hf hb (by
  subst hm
  exact h F hp _ _ (El args _ (Nat.le_of_ble_eq_true hn)) s)⟩
def RP (P : Program) (fn : Func) (R : Ending → World → Prop) : Exit → Act → World → Prop
 | .normal, a, w | .ret, a, w => Leaves P fn a.tmps R a.defers .returning w
 | _, _, _ => False
theorem LO {f : FuncId} {fn : Func} {c : Code} {args : List Value} {pre : Hp → Prop} {R : Value → List aa → Prop} {m : Nat} (hf : P.funcs[f]? = some fn) (hb : fn.body = some c) (hm : fn.ntmps = m) (hn : Nat.ble args.length m = true)
  (h : ∀ F : c9, pre F.h → G m [] F (c.wp P (RP P fn fun e w' => ∃ v H', e = .returned v ∧ R v H' ∧ St F H' w')) (iY 0 args) H) : aL P f args pre H R :=
 fun F w hp s => calls_of_wp_defers hf hb (by
  subst hm
  refine wp_mono (h F hp _ _ (El args _ (Nat.le_of_ble_eq_true hn)) s) fun e a w' q => ?_
  cases e with
  | normal => exact q
  | ret => exact q
  | exit id => exact q.elim
  | goto l => exact q.elim
  | panic ch => exact q.elim
  | outgrown => exact q.elim)
theorem D3 {ops : Array Oper} {listed : Array Bool} {fuel : Nat} {S : World → Prop} (i j k : Nat)
  (h1 : G n ds F (wpOp P ops Q i (fun a' w' => S w' ∧ wpAnyH P .any ops Q S fuel (listed.setIfInBounds i true) a' w')) σ H)
  (h2 : G n ds F (wpOp P ops Q j (fun a' w' => S w' ∧ wpAnyH P .any ops Q S fuel (listed.setIfInBounds j true) a' w')) σ H)
  (h3 : G n ds F (wpOp P ops Q k (fun a' w' => S w' ∧ wpAnyH P .any ops Q S fuel (listed.setIfInBounds k true) a' w')) σ H) (hr : Region.ready .any ops listed = [i, j, k] := by kernel_rfl) : G n ds F (wpAnyH P .any ops Q S (fuel + 1) listed) σ H :=
 AR hr rfl fun m hm => by
  rcases List.mem_cons.1 hm with rfl | hm
  ·exact h1
  rcases List.mem_cons.1 hm with rfl | hm
  ·exact h2
  rw [List.mem_singleton.1 hm]; exact h3
end
end Go.cQ
namespace Go.cQ
open Go Go.MapKept
def lk (es : List (Value × Value)) (k : Value) : Option Value :=
 match es with
 | [] => none
 | (k', v) :: r => match sameK k' k with | true => some v | false => lk r k
where sameK : Value → Value → Bool
 | .int _ a, .int _ b => decide (a = b)
 | .string a, .string b => decide (a.data.toList = b.data.toList)
 | _, _ => false
def MW : TypeDesc → Value → Bool
 | .int k, .int k' _ => decide (k' = k)
 | .string, .string _ => true
 | _, _ => false
theorem gB {d : TypeDesc} {k : Value} (h : MW d k = true) : IsKey d k := by
 cases d <;> cases k <;> simp [MW] at h <;> simp [IsKey, h]
def ue (P : Program) (t : TypeId) : Option (TypeId × TypeDesc × TypeId × Value) :=
 match P.underlying t with
 | some (.map k e) => match P.underlying k, P.info? e with
  | some d, some i => match i.zero with
   | some z => some (k, d, e, z)
   | none => none
  | _, _ => none
 | _ => none
theorem mL {P : Program} {t k e : TypeId} {d : TypeDesc} {z : Value} (h : ue P t = some (k, d, e, z)) : P.underlying t = some (.map k e) ∧ P.underlying k = some d ∧ ∃ i, P.info? e = some i ∧ i.zero = some z := by
 unfold ue at h
 cases hu : P.underlying t with
 | none => simp [hu] at h
 | some dd =>
  cases dd <;> simp [hu] at h
  rename_i k' e'
  cases hk : P.underlying k' with
  | none => simp [hk] at h
  | some d' =>
   cases hi : P.info? e' with
   | none => simp [hk, hi] at h
   | some i =>
    simp only [hk, hi] at h
    cases hz : i.zero with
    | none => simp [hz] at h
    | some z' =>
     simp [hz] at h
     obtain ⟨rfl, rfl, rfl, rfl⟩ := h
     exact ⟨rfl, hk, i, hi, hz⟩
theorem St.X0 {F : c9} {H : List aa} {w : World} (s : St F H w) (o : Obj) (A : aa) (hA : A fun x => if x = w.heap.size then some o else none) : St F (A :: H) (w.alloc o) := by
 obtain ⟨a1, a2, a3, fr, h, s, y, z⟩ := s
 have hold : ∀ k : Hp, Le k (jB w) → Le k (jB (w.alloc o)) := by
  intro k lk x ob ex
  have hx := lk x ob ex
  unfold jB at *
  rw [RowKit.Below.heap_alloc w _ x (Array.getElem?_eq_some_iff.1 hx).1]
  exact hx
 have dk : ∀ k : Hp, Le k (jB w) → bK (fun x => if x = w.heap.size then some o else none) k := by
  intro k lk x
  by_cases hx : x = w.heap.size
  ·right
   cases q : k x with
   | none => rfl
   | some ob =>
    have := lk x ob q
    unfold jB at this
    have := (Array.getElem?_eq_some_iff.1 this).1
    omega
  exact .inl (by simp [hx])
 refine ⟨a1, a2, a3, hold _ fr, fj _ h, ⟨_, h, dk _ y, ba _ _, aV (dk _ y), hA, s⟩, bS ?_ (hold _ y), bK.fj (dk _ fr) z⟩
 intro x ob ex
 by_cases hx : x = w.heap.size
 ·subst hx; simp only [if_true] at ex; cases ex; exact heap_alloc_new w _
 simp [hx] at ex
theorem St.NO {F : c9} {H : List aa} {w : World} {A B : aa} {b : Nat} {o' : Obj} (s : St F (A :: H) w) (hA : ∀ h, A h → ∃ o, h b = some o) (hB : B fun x => if x = b then some o' else none) :
  St F (B :: H) { w with heap := w.heap.setIfInBounds b o' } := by
 obtain ⟨a1, a2, a3, fr, h, ⟨h1, h2, d, l1, l2, hp, s⟩, y, z⟩ := s
 obtain ⟨ob, hb⟩ := hA h1 hp
 have hw : w.heap[b]? = some ob := (l1.trans y) _ _ hb
 obtain ⟨QJ, Sa⟩ := heap_set (o' := o') hw
 have fu : ∀ k : Hp, bK h1 k → ∀ x o, k x = some o → x ≠ b := by
  intro k dk x o e hx; subst hx
  rcases dk x with q | q
  ·rw [hb] at q; cases q
  rw [e] at q; cases q
 have hold : ∀ k : Hp, bK h1 k → Le k (jB w) → Le k (jB { w with heap := w.heap.setIfInBounds b o' }) := by
  intro k dk lk x o e
  have := lk x o e
  unfold jB at *
  show (w.heap.setIfInBounds b o')[x]? = some o
  rw [Sa x (fu k dk x o e)]; exact this
 have dF : bK h1 F.h := z.left l1
 have d2 : ∀ k : Hp, bK h1 k → bK (fun x => if x = b then some o' else none) k := by
  intro k dk x
  by_cases hx : x = b
  ·subst hx
   rcases dk x with q | q
   ·rw [hb] at q; cases q
   exact .inr q
  exact .inl (by simp [hx])
 refine ⟨a1, a2, a3, hold _ dF fr, fj _ h2, ⟨_, h2, d2 _ d, ba _ _, aV (d2 _ d), hB, s⟩, bS ?_ (hold _ d (l2.trans y)), bK.fj (d2 _ dF) (z.left l2)⟩
 intro x o e
 by_cases hx : x = b
 ·subst hx; simp only [if_true] at e; cases e; exact QJ
 simp [hx] at e
section
variable {P : Program} {n : Nat} {ds : List Deferred} {F : c9} {Q : Exit → Act → World → Prop} {K : Act → World → Prop} {σ : aS} {H : List aa} {o : Oper} {d : Nat}
theorem Rt3 {fn : Func} {R : Value → List aa → Prop} {t u u' : Nat} {v x x' : Value} (H' : List aa) (hr : fn.results = #[.tmp t, .tmp u, .tmp u']) (hR : R (.tuple #[v, x, x']) H') (hv : look σ t = some v := by exact rfl) (hx : look σ u = some x := by exact rfl) (Xb : look σ u' = some x' := by exact rfl)
  (hh : ∀ h, aj H h → aj H' h := by exact Eh) : G n [] F (bodyPost P fn (fun e w' => ∃ v H', e = .returned v ∧ R v H' ∧ St F H' w') .ret) σ H :=
 .mk fun a w e s => ⟨e.defers, .tuple #[v, x, x'], by
  have h1 : a.tmps.getD t undef = v := by simp [e.slot t v hv]
  have h2 : a.tmps.getD u undef = x := by simp [e.slot u x hx]
  have h3 : a.tmps.getD u' undef = x' := by simp [e.slot u' x' Xb]
  simp only [results, hr]
  simp at h1 h2 h3
  simp [h1, h2, h3], _, H', rfl, hR, s.sub hh⟩
end
end Go.cQ
namespace Go.cQ
open Go
def NoQ : Exit → Act → World → Prop := fun _ _ _ => False
def pq (P : Program) (ops : Array Oper) (o : Oper) (K : Act → World → Prop) (a : Act) (w : World) : Prop :=
 if Region.wanted o (yielded ops a.tmps) = true then o.wp P a w K NoQ else K (a.put o.dst undef) w
def ph (P : Program) (ops : Array Oper) (S : World → Prop) (Q : Act → World → Prop) : List (Nat × Bool × Oper) → Act → World → Prop
 | [], a, w => Q a w
 | (_, true, o) :: r, a, w => ∃ v, YieldsIf P ops S o v a ∧ ph P ops S Q r (a.put o.dst v) w
 | (_, false, o) :: r, a, w => pq P ops o (fun a' w' => S w' ∧ ph P ops S Q r a' w') a w
def Ao (o : Oper) : Bool := match o.op with | .load _ _ => true | _ => false
def indep (ops : Array Oper) (x y : Nat × Bool × Oper) : Bool := x.2.2.apart ops y.2.2 && (x.2.1 || y.2.1 || (Ao x.2.2 && Ao y.2.2))
inductive Still {α : Type} : Sem α → Prop
 | pure (a : α) : Still (.pure a)
 | load (m : Mode) (a : Addr) (k : Value → Sem α) (h : ∀ v, Still (k v)) : Still (.load m a k)
 | program (k : Program → Sem α) (h : ∀ p, Still (k p)) : Still (.program k)
 | halt (x : Halt) : Still (.halt x)
theorem Still.bind {α β : Type} {s : Sem α} {f : α → Sem β} (h : Still s) (hf : ∀ a, Still (f a)) : Still (s.bind f) := by
 induction h with
 | pure a => exact hf a
 | load m a k _ ih => exact .load m a _ ih
 | program k _ ih => exact .program _ ih
 | halt x => exact .halt x
theorem Still.run {α : Type} {s : Sem α} (h : Still s) (P : Program) (w : World) {r : α} {w' : World} (e : s.run P w = .ok r w') : w' = w := by
 induction h with
 | pure a => simp only [Sem.run] at e; cases e; rfl
 | load m a k _ ih =>
  simp only [Sem.run] at e
  split at e
  ·exact ih _ e
  split at e
  ·exact ih _ e
  cases e
 | program k _ ih => simp only [Sem.run] at e; exact ih _ e
 | halt x => simp only [Sem.run] at e; cases e
theorem Bu {ρ : Operand → Value} {o : Oper} (h : Ao o = true) : Still (execOp ρ o) := by
 unfold Ao at h
 split at h
 ·rename_i t x ho
  have cells : ∀ (n : Nat) (a : Addr) (i : Nat) (acc : Array Value), Still (loadCellsFrom a i n acc) := by
   intro n
   induction n with
   | zero => intro a i acc; exact .pure _
   | succ n ih => intro a i acc; exact .load _ _ _ fun v => ih _ _ _
  have und : ∀ t, Still (underlying t) := fun t => by
   unfold underlying
   exact .program _ fun p => by simp only [Sem.bind]; split <;> first | exact .pure _ | exact .halt _
  have tin : ∀ t, Still (typeInfo t) := fun t => by
   unfold typeInfo
   exact .program _ fun p => by simp only [Sem.bind]; split <;> first | exact .pure _ | exact .halt _
  have hvar : ∀ a, Still (loadVar t a) := by
   intro a
   unfold loadVar
   refine Still.bind ?_ fun b => ?_
   ·unfold isAgg
    exact (und t).bind fun d => by split <;> exact .pure _
   split
   ·refine Still.bind ?_ fun k => (Still.bind (cells _ _ _ _) fun c => .pure _)
    unfold sizeOf
    exact (tin t).bind fun _ => .pure _
   exact .load _ _ _ fun v => .pure _
  unfold execOp
  rw [ho]
  refine Still.bind ?_ fun v => .pure _
  unfold Instr.loadAt
  refine Still.bind ?_ fun a => hvar a
  unfold Instr.sureAddr
  split
  ·exact .pure _
  exact .halt _
 cases h
theorem UJ {P : Program} {ρ : Operand → Value} {o : Oper} (h : Ao o = true) {w w' : World} {n : Next} (e : (execOp ρ o).run P w = .ok n w') : w' = w ∧ ∃ v, n = .value v := by
 refine ⟨(Bu h).run P w e, ?_⟩
 unfold Ao at h
 split at h
 ·rename_i t x ho
  unfold execOp at e
  rw [ho] at e
  simp only [Sem.run_bind] at e
  cases hr : (Instr.loadAt t (ρ x)).run P w with
  | ok v w1 => rw [hr] at e; simp only [Result.andThen_ok, Sem.run_pure] at e; cases e; exact ⟨v, rfl⟩
  | halt x w1 => rw [hr] at e; cases e
 cases h
section
variable {P : Program} {ops : Array Oper} {S : World → Prop} {Q : Act → World → Prop}
theorem IL : ¬ LetsOut NoQ := fun ⟨_, _, h⟩ => h
theorem Tu {o : Oper} {u v : Value} {a : Act} {w : World} (hS : S w) (h1 : YieldsIf P ops S o u a) (h2 : YieldsIf P ops S o v a) : v = u := by
 rcases h1 with ⟨w1, e1⟩ | ⟨w1, rfl⟩ <;> rcases h2 with ⟨w2, e2⟩ | ⟨w2, rfl⟩
 ·have := (e1 w hS).symm.trans (e2 w hS); cases this; rfl
 ·rw [w1] at w2; cases w2
 ·rw [w1] at w2; cases w2
 rfl
theorem sM {o : Oper} {K K' : Act → World → Prop} (f : ∀ a w, K a w → K' a w) {a : Act} {w : World} (h : pq P ops o K a w) : pq P ops o K' a w := by
 unfold pq at *
 split
 ·rename_i hw; rw [if_pos hw] at h; exact Oper.wp_mono f h
 rename_i hw; rw [if_neg hw] at h; exact f _ _ h
theorem Bo {x k : Oper} (HC : k.apart ops x = true) (hsx : ∀ cs b, x.op ≠ .select cs b) (Hf : ∀ cs b, k.op ≠ .select cs b) {K K2 : Act → World → Prop} {a : Act} {w : World} (hS : S w)
  (hK : ∀ a' w', K a' w' → ∃ v, YieldsIf P ops S x v a' ∧ K2 (a'.put x.dst v) w') (h : pq P ops k K a w) : ∃ v, YieldsIf P ops S x v a ∧ pq P ops k K2 (a.put x.dst v) w := by
 obtain ⟨h1, h2, h3⟩ := Oper.apart_spec HC
 have back : ∀ (u v : Value), YieldsIf P ops S x v (a.put k.dst u) → YieldsIf P ops S x v a := fun u v hy =>
  hy.of_same (execOp_put x hsx a k.dst u h1).symm (wanted_put x a k.dst u h1).symm
 unfold pq at h
 split at h
 ·rename_i hw
  have key : ∃ v, YieldsIf P ops S x v a := by
   unfold Oper.wp at h
   generalize (execOp a.eval k).run P w = r at h
   cases r with
   | ok n w' =>
    cases n <;> simp only [Oper.upon] at h
    case value u => obtain ⟨v, hv, _⟩ := hK _ _ h; exact ⟨v, back u v hv⟩
    case skip => obtain ⟨v, hv, _⟩ := hK _ _ h; exact ⟨v, back _ v hv⟩
    case defer d =>
     obtain ⟨v, hv, _⟩ := hK _ _ h
     exact ⟨v, (back undef v (hv.of_same (a' := a.put k.dst undef) (by cases k.dst <;> rfl) (by cases k.dst <;> rfl)))⟩
    case enter f args =>
     obtain ⟨e, w2, fr, he, _⟩ := h []
     cases e with
     | returned u => obtain ⟨v, hv, _⟩ := hK _ _ he; exact ⟨v, back u v hv⟩
     | panicked c => exact he.elim
     | outgrown => exact (IL he).elim
    case row row args =>
     obtain ⟨u, w2, he, _⟩ := h default []
     obtain ⟨v, hv, _⟩ := hK _ _ he; exact ⟨v, back u v hv⟩
   | halt y w' => cases y <;> simp only [Oper.upon] at h <;> exact h.elim
  obtain ⟨v, hv⟩ := key
  refine ⟨v, hv, ?_⟩
  have same : ∀ (u v' : Value), YieldsIf P ops S x v' (a.put k.dst u) → v' = v := fun u v' hy => Tu hS hv (back u v' hy)
  unfold pq
  rw [wanted_put k a x.dst v (fun d hd => h3 d hd), if_pos hw]
  unfold Oper.wp at *
  rw [execOp_put k Hf a x.dst v (fun d hd => h3 d hd)]
  have HB : ∀ u : Value, (a.put k.dst u).put x.dst v = (a.put x.dst v).put k.dst u := fun u => Act.put_comm a u v h2
  generalize (execOp a.eval k).run P w = r at *
  cases r with
  | ok n w' =>
   cases n <;> simp only [Oper.upon] at h ⊢
   case value u => obtain ⟨v', Hv, hk⟩ := hK _ _ h; rw [← HB, ← same u v' Hv]; exact hk
   case skip => obtain ⟨v', Hv, hk⟩ := hK _ _ h; rw [← HB, ← same _ v' Hv]; exact hk
   case defer d =>
    obtain ⟨v', Hv, hk⟩ := hK _ _ h
    have Xd : YieldsIf P ops S x v' (a.put k.dst undef) := Hv.of_same (by cases k.dst <;> rfl) (by cases k.dst <;> rfl)
    rw [same _ v' Xd] at hk
    have e1 : ({ a with defers := d :: a.defers } : Act).put x.dst v = ({ a.put x.dst v with defers := d :: (a.put x.dst v).defers } : Act) := (Act.put_defers a x.dst v d).symm
    rw [Act.put_comm _ undef v h2, e1] at hk
    exact hk
   case enter f args =>
    refine Calls.mono h fun e w'' he => ?_
    cases e with
    | returned u => obtain ⟨v', Hv, hk⟩ := hK _ _ he; show K2 _ _; rw [← HB, ← same u v' Hv]; exact hk
    | panicked c => exact he
    | outgrown => exact he
   case row row args => exact Rows.mono h fun u w'' he => by obtain ⟨v', Hv, hk⟩ := hK _ _ he; rw [← HB, ← same u v' Hv]; exact hk
  | halt y w' => cases y <;> simp only [Oper.upon] at h ⊢ <;> exact h
 rename_i hw
 obtain ⟨v, hv, hk⟩ := hK _ _ h
 refine ⟨v, back _ v hv, ?_⟩
 unfold pq
 rw [wanted_put k a x.dst v (fun d hd => h3 d hd), if_neg hw, ← Act.put_comm a undef v h2]
 exact hk
theorem Bp {x k : Oper} (HC : k.apart ops x = true) (hsx : ∀ cs b, x.op ≠ .select cs b) (Hf : ∀ cs b, k.op ≠ .select cs b) {K : Act → World → Prop} {a : Act} {w : World} {u : Value} (hy : YieldsIf P ops S k u a)
  (h : pq P ops x K (a.put k.dst u) w) : pq P ops x (fun a' w' => YieldsIf P ops S k u a' ∧ K (a'.put k.dst u) w') a w := by
 obtain ⟨h1, h2, h3⟩ := Oper.apart_spec HC
 have uf : ∀ z : Value, YieldsIf P ops S k u (a.put x.dst z) := fun z => hy.of_same (execOp_put k Hf a x.dst z h3) (wanted_put k a x.dst z h3)
 unfold pq at *
 rw [wanted_put x a k.dst u h1] at h
 split
 ·rename_i hw
  rw [if_pos hw] at h
  unfold Oper.wp at *
  rw [execOp_put x hsx a k.dst u h1] at h
  have HB : ∀ z : Value, (a.put k.dst u).put x.dst z = (a.put x.dst z).put k.dst u := fun z => Act.put_comm a u z h2
  generalize (execOp a.eval x).run P w = r at *
  cases r with
  | ok n w' =>
   cases n <;> simp only [Oper.upon] at h ⊢
   case value z => exact ⟨uf z, by rw [← HB]; exact h⟩
   case skip => exact ⟨uf _, by rw [← HB]; exact h⟩
   case defer d =>
    refine ⟨(uf undef).of_same (by cases x.dst <;> rfl) (by cases x.dst <;> rfl), ?_⟩
    rw [← Act.put_comm _ u undef h2, ← Act.put_defers]
    exact h
   case enter f args =>
    refine Calls.mono h fun e w'' he => ?_
    cases e with
    | returned z => exact ⟨uf z, by rw [← HB]; exact he⟩
    | panicked c => exact he
    | outgrown => exact he
   case row row args => exact Rows.mono h fun z w'' he => ⟨uf z, by rw [← HB]; exact he⟩
  | halt y w' => cases y <;> simp only [Oper.upon] at h ⊢ <;> exact h
 rename_i hw
 rw [if_neg hw, Act.put_comm a u undef h2] at h
 exact ⟨uf _, h⟩
def uW (l : List (Nat × Bool × Oper)) : Prop := ∀ x ∈ l, ∀ cs b, x.2.2.op ≠ .select cs b
theorem mvR {i : Nat} {o : Oper} {post : List (Nat × Bool × Oper)} : ∀ (pre : List (Nat × Bool × Oper)) (a : Act) (w : World), (∀ k ∈ pre, indep ops k (i, true, o) = true) → uW pre → (∀ cs b, o.op ≠ .select cs b) → S w →
  ph P ops S Q (pre ++ (i, true, o) :: post) a w → ∃ v, YieldsIf P ops S o v a ∧ ph P ops S Q (pre ++ post) (a.put o.dst v) w := by
 intro pre
 induction pre with
 | nil => intro a w _ _ _ _ h; exact h
 | cons k pre ih =>
  obtain ⟨j, fl, ok⟩ := k
  intro a w hi hs Nr hS h
  have hk := hi _ (List.mem_cons_self ..)
  simp only [indep, Bool.and_eq_true] at hk
  have HC := hk.1
  obtain ⟨h1, h2, h3⟩ := Oper.apart_spec HC
  have Hf := hs _ (List.mem_cons_self ..)
  have xP : ∀ k ∈ pre, indep ops k (i, true, o) = true := fun k hk => hi k (List.mem_cons_of_mem _ hk)
  have Sc : uW pre := fun k hk => hs k (List.mem_cons_of_mem _ hk)
  cases fl with
  | true =>
   simp only [List.cons_append, ph] at h ⊢
   obtain ⟨u, hu, h⟩ := h
   obtain ⟨v, hv, h⟩ := ih _ _ xP Sc Nr hS h
   refine ⟨v, hv.of_same (execOp_put o Nr a ok.dst u h1).symm (wanted_put o a ok.dst u h1).symm, u, hu.of_same (execOp_put ok Hf a o.dst v h3) (wanted_put ok a o.dst v h3), ?_⟩
   rw [← Act.put_comm a u v h2]; exact h
  | false =>
   simp only [List.cons_append, ph] at h ⊢
   exact Bo HC Nr Hf hS (fun a' w' hh => by
    obtain ⟨v, hv, h⟩ := ih _ _ xP Sc Nr hh.1 hh.2
    exact ⟨v, hv, hh.1, h⟩) h
theorem mvW {i : Nat} {o : Oper} {post : List (Nat × Bool × Oper)} : ∀ (pre : List (Nat × Bool × Oper)) (a : Act) (w : World), (∀ k ∈ pre, indep ops k (i, false, o) = true) → uW pre → (∀ cs b, o.op ≠ .select cs b) → S w →
  ph P ops S Q (pre ++ (i, false, o) :: post) a w → pq P ops o (fun a' w' => S w' ∧ ph P ops S Q (pre ++ post) a' w') a w := by
 intro pre
 induction pre with
 | nil => intro a w _ _ _ _ h; exact h
 | cons k pre ih =>
  obtain ⟨j, fl, ok⟩ := k
  intro a w hi hs Nr hS h
  have hk := hi _ (List.mem_cons_self ..)
  simp only [indep, Bool.and_eq_true] at hk
  have HC := hk.1
  obtain ⟨h1, h2, h3⟩ := Oper.apart_spec HC
  have Hf := hs _ (List.mem_cons_self ..)
  have xP : ∀ k ∈ pre, indep ops k (i, false, o) = true := fun k hk => hi k (List.mem_cons_of_mem _ hk)
  have Sc : uW pre := fun k hk => hs k (List.mem_cons_of_mem _ hk)
  cases fl with
  | true =>
   simp only [List.cons_append, ph] at h ⊢
   obtain ⟨u, hu, h⟩ := h
   have h := ih _ _ xP Sc Nr hS h
   exact sM (fun a' w' hh => ⟨hh.2.1, u, hh.1, hh.2.2⟩) (Bp HC Nr Hf hu h)
  | false =>
   have hl := hk.2
   simp only [Bool.or_self, Bool.false_or, Bool.and_eq_true] at hl
   simp only [List.cons_append, ph] at h ⊢
   have look : ∀ {y : Oper} {a : Act} {w : World} {K : Act → World → Prop}, Ao y = true → (pq P ops y K a w ↔ ((Region.wanted y (yielded ops a.tmps) = true ∧ ∃ v, (execOp a.eval y).run P w = .ok (.value v) w ∧ K (a.put y.dst v) w) ∨ (Region.wanted y (yielded ops a.tmps) = false ∧ K (a.put y.dst undef) w))) := by
    intro y a w K hy
    unfold pq
    cases hw : Region.wanted y (yielded ops a.tmps) with
    | false => simp
    | true =>
     simp only [if_true, true_and, Bool.true_eq_false, false_and, or_false]
     unfold Oper.wp
     cases hr : (execOp a.eval y).run P w with
     | ok n w' =>
      obtain ⟨rfl, v, rfl⟩ := UJ hy hr
      simp only [Oper.upon_value]
      exact ⟨fun h => ⟨v, rfl, h⟩, fun ⟨v', e, h⟩ => by cases e; exact h⟩
     | halt z w' =>
      cases z <;> simp [Oper.upon, NoQ]
   rw [look hl.1] at h
   rw [look hl.2]
   have fin : ∀ u : Value, S w ∧ ph P ops S Q (pre ++ (i, false, o) :: post) (a.put ok.dst u) w → (∀ z, pq P ops ok (fun a' w' => S w' ∧ ph P ops S Q (pre ++ post) a' w') (a.put o.dst z) w ↔ pq P ops ok (fun a' w' => S w' ∧ ph P ops S Q (pre ++ post) a' w') (a.put o.dst z) w) →
     ((Region.wanted o (yielded ops a.tmps) = true ∧ ∃ z, (execOp a.eval o).run P w = .ok (.value z) w ∧ (S w ∧ ph P ops S Q (pre ++ post) ((a.put ok.dst u).put o.dst z) w)) ∨ (Region.wanted o (yielded ops a.tmps) = false ∧ (S w ∧ ph P ops S Q (pre ++ post) ((a.put ok.dst u).put o.dst undef) w))) := by
    intro u hh _
    have h' := ih _ _ xP Sc Nr hh.1 hh.2
    rw [look hl.2, execOp_put o Nr a ok.dst u h1, wanted_put o a ok.dst u h1] at h'
    exact h'
   have put : ∀ (z : Value), (∀ u, ph P ops S Q (pre ++ post) ((a.put ok.dst u).put o.dst z) w → ph P ops S Q (pre ++ post) ((a.put o.dst z).put ok.dst u) w) := fun z u hh => by rw [← Act.put_comm a u z h2]; exact hh
   rcases h with ⟨hw, u, hu, hh⟩ | ⟨hw, hh⟩
   ·rcases fin u hh (fun _ => Iff.rfl) with ⟨hwo, z, hz, hS', h'⟩ | ⟨hwo, hS', h'⟩
    ·refine .inl ⟨hwo, z, hz, hS, ?_⟩
     rw [look hl.1, execOp_put ok Hf a o.dst z h3, wanted_put ok a o.dst z h3]
     exact .inl ⟨hw, u, hu, hS, put _ _ h'⟩
    refine .inr ⟨hwo, hS, ?_⟩
    rw [look hl.1, execOp_put ok Hf a o.dst undef h3, wanted_put ok a o.dst undef h3]
    exact .inl ⟨hw, u, hu, hS, put _ _ h'⟩
   rcases fin undef hh (fun _ => Iff.rfl) with ⟨hwo, z, hz, hS', h'⟩ | ⟨hwo, hS', h'⟩
   ·refine .inl ⟨hwo, z, hz, hS, ?_⟩
    rw [look hl.1, execOp_put ok Hf a o.dst z h3, wanted_put ok a o.dst z h3]
    exact .inr ⟨hw, hS, put _ _ h'⟩
   refine .inr ⟨hwo, hS, ?_⟩
   rw [look hl.1, execOp_put ok Hf a o.dst undef h3, wanted_put ok a o.dst undef h3]
   exact .inr ⟨hw, hS, put _ _ h'⟩
inductive xL (ops : Array Oper) : Nat → Nat → Prop
 | one {i : Nat} {o : Oper} {e : Edge} (ho : ops[i]? = some o) (he : e ∈ o.after) (hb : Region.binds .any e = true) : xL ops e.on i
 | more {i k : Nat} {o : Oper} {e : Edge} (ho : ops[i]? = some o) (he : e ∈ o.after) (hb : Region.binds .any e = true) (h : xL ops k e.on) : xL ops k i
def msk (acc : List Nat) (o : Oper) : Nat := o.after.toList.foldl (fun s e => if Region.binds .any e = true then s ||| 2 ^ e.on ||| acc.getD e.on 0 else s) 0
def Ct : List Oper → List Nat → List Nat
 | [], acc => acc
 | o :: r, acc => Ct r (acc ++ [msk acc o])
theorem Lh {i : Nat} {o : Oper} (ho : ops[i]? = some o) {acc : List Nat} (NY : ∀ j k, (acc.getD j 0).testBit k = true → xL ops k j) (k : Nat) (h : (msk acc o).testBit k = true) : xL ops k i := by
 have key : ∀ (l : List Edge) (s : Nat), (∀ e ∈ l, e ∈ o.after) → (∀ k, s.testBit k = true → xL ops k i) → ∀ k, (l.foldl (fun s e => if Region.binds .any e = true then s ||| 2 ^ e.on ||| acc.getD e.on 0 else s) s).testBit k = true → xL ops k i := by
  intro l
  induction l with
  | nil => intro s _ hs k hk; exact hs k hk
  | cons e l ih =>
   intro s hl hs k hk
   rw [List.foldl_cons] at hk
   refine ih _ (fun e' h' => hl e' (List.mem_cons_of_mem _ h')) (fun k' Si => ?_) k hk
   split at Si
   ·rename_i hb
    rw [Nat.testBit_or, Nat.testBit_or] at Si
    simp only [Bool.or_eq_true] at Si
    rcases Si with (h1 | h1) | h1
    ·exact hs _ h1
    ·rw [Nat.testBit_two_pow] at h1
     simp only [decide_eq_true_eq] at h1
     subst h1
     exact .one ho (hl e (List.mem_cons_self ..)) hb
    exact .more ho (hl e (List.mem_cons_self ..)) hb (NY _ _ h1)
   exact hs _ Si
 exact key o.after.toList 0 (fun e he => by simpa using he) (fun k hk => by simp at hk) k h
theorem BM : ∀ (l : List Oper) (acc : List Nat), (∀ j o, l[j]? = some o → ops[acc.length + j]? = some o) → (∀ j k, (acc.getD j 0).testBit k = true → xL ops k j) → ∀ j k, ((Ct l acc).getD j 0).testBit k = true → xL ops k j := by
 intro l
 induction l with
 | nil => intro acc _ h; exact h
 | cons o l ih =>
  intro acc hl NY
  refine ih _ (fun j o' hj => ?_) (fun j k M9 => ?_)
  ·have := hl (j + 1) o' (by simpa using hj)
   rw [List.length_append, List.length_singleton, show acc.length + 1 + j = acc.length + (j + 1) from by omega]; exact this
  rcases Nat.lt_trichotomy j acc.length with cJ | heq | hgt
  ·refine NY j k ?_
   simpa [List.getD_eq_getElem?_getD, List.getElem?_append_left cJ] using M9
  ·subst heq
   refine Lh (by simpa using hl 0 o rfl) NY k ?_
   simpa [List.getD_eq_getElem?_getD] using M9
  have hz : (acc ++ [msk acc o])[j]? = none := List.getElem?_eq_none (by simp; omega)
  rw [List.getD_eq_getElem?_getD, hz] at M9; simp at M9
def W2 (ops : Array Oper) (m : List Nat) : List (Nat × Bool × Oper) → Bool
 | [] => true
 | x :: r => r.all (fun y => (m.getD y.1 0).testBit x.1 || indep ops x y) && W2 ops m r
theorem yI {m : List Nat} (hm : ∀ j k, (m.getD j 0).testBit k = true → xL ops k j) : ∀ l, W2 ops m l = true → l.Pairwise fun x y => xL ops x.1 y.1 ∨ indep ops x y = true := by
 intro l
 induction l with
 | nil => intro _; exact .nil
 | cons x r ih =>
  intro h
  simp only [W2, Bool.and_eq_true, List.all_eq_true, Bool.or_eq_true] at h
  exact .cons (fun y hy => (h.1 y hy).imp (hm _ _) id) (ih h.2)
structure N4 (ops : Array Oper) (listed : Array Bool) (rem : List (Nat × Bool × Oper)) : Prop where
 at_ : ∀ x ∈ rem, ops[x.1]? = some x.2.2
 un : ∀ x ∈ rem, listed.getD x.1 true = false
 all : ∀ j, j < ops.size → listed.getD j true = false → ∃ x ∈ rem, x.1 = j
 once : (rem.map (·.1)).Nodup
 size : listed.size = ops.size
 shut : ∀ j o e, ops[j]? = some o → listed.getD j false = true → e ∈ o.after → Region.binds .any e = true → listed.getD e.on false = true
theorem Ca {listed : Array Bool} (shut : ∀ j o e, ops[j]? = some o → listed.getD j false = true → e ∈ o.after → Region.binds .any e = true → listed.getD e.on false = true) {k i : Nat} (h : xL ops k i)
  (hi : ∀ o, ops[i]? = some o → ∀ e ∈ o.after, Region.binds .any e = true → listed.getD e.on false = true) : listed.getD k false = true := by
 induction h with
 | one ho he hb => exact hi _ ho _ he hb
 | more ho he hb _ ih =>
  have h1 := hi _ ho _ he hb
  exact ih fun o' ho' e' HA Xy => shut _ _ _ ho' h1 HA Xy
theorem lJ {listed : Array Bool} {j : Nat} (h1 : listed.getD j true = false) (h2 : listed.getD j false = true) : False := by
 by_cases h : j < listed.size
 ·simp [h] at h1 h2; rw [h1] at h2; cases h2
 simp [Array.getElem?_eq_none (Nat.le_of_not_lt h)] at h2
theorem J9 {Q : Exit → Act → World → Prop} {i : Nat} {o : Oper} (hi : ops[i]? = some o) {K : Act → World → Prop} {a : Act} {w : World} (h : pq P ops o K a w) : wpOp P ops Q i K a w := by
 unfold pq at h
 unfold wpOp
 simp only [hi]
 split
 ·rename_i hw
  rw [if_pos hw] at h
  refine .inl ?_
  unfold Oper.wp at *
  generalize (execOp a.eval o).run P w = r at *
  cases r with
  | ok n w' =>
   cases n <;> simp only [Oper.upon] at h ⊢
   case value u => exact h
   case skip => exact h
   case defer d => exact h
   case enter f args =>
    refine Calls.mono h fun e w'' he => ?_
    cases e with
    | returned z => exact he
    | panicked c => exact he.elim
    | outgrown => exact (IL he).elim
   case row row args => exact h
  | halt y w' => cases y <;> simp only [Oper.upon] at h ⊢ <;> exact h.elim
 rename_i hw
 rw [if_neg hw] at h; exact h
theorem YieldsIf.pq {o : Oper} {v : Value} {a : Act} {w : World} {K : Act → World → Prop} (hy : YieldsIf P ops S o v a) (hS : S w) (h : K (a.put o.dst v) w) : pq P ops o K a w := by
 unfold cQ.pq
 rcases hy with ⟨hw, hv⟩ | ⟨hw, rfl⟩
 ·rw [if_pos hw]; simp only [Oper.wp, hv w hS, Oper.upon]; exact h
 rw [if_neg (by simp [hw])]; exact h
theorem uX {WA : Nat → Array Bool → Act → World → Prop} {C : Act → World → Prop} {l2 : List (Nat × Bool × Oper)} {fuel0 : Nat} (dh : Region.noSelect ops = true) (qw : ∀ j o e, ops[j]? = some o → e ∈ o.after → Region.binds .any e = true → e.on < j)
  (Cy : ∀ fuel listed a w, (∃ i, i ∈ Region.ready .any ops listed) → (∀ i ∈ Region.ready .any ops listed, ∃ o, ops[i]? = some o ∧ pq P ops o (WA fuel (listed.setIfInBounds i true)) a w) → WA (fuel + 1) listed a w)
  (hC : ∀ listed, N4 ops listed l2 → ∀ a w, C a w → WA fuel0 listed a w) :
  ∀ (n : Nat) (rem : List (Nat × Bool × Oper)) (listed : Array Bool) (a : Act) (w : World), rem.length = n → N4 ops listed (rem ++ l2) → rem.Pairwise (fun x y => xL ops x.1 y.1 ∨ indep ops x y = true) → (∀ x ∈ rem, ∀ y ∈ l2, xL ops x.1 y.1) → S w →
   ph P ops S C rem a w → WA (n + fuel0) listed a w := by
 intro n
 induction n with
 | zero =>
  intro rem listed a w hn hI _ _ _ h
  have : rem = [] := List.eq_nil_of_length_eq_zero hn
  subst this
  simpa using hC listed (by simpa using hI) a w h
 | succ n ih =>
  intro rem listed a w hn hI hP HD hS h
  rw [show n + 1 + fuel0 = (n + fuel0) + 1 from by omega]
  have vt : ∀ {i k : Nat}, i ∈ Region.ready .any ops listed → xL ops k i → listed.getD k false = true := by
   intro i k hi hk
   obtain ⟨_, o, ho, oz⟩ := mem_ready.1 hi
   exact Ca hI.shut hk fun o' ho' e he hb => by rw [ho] at ho'; cases ho'; exact oz e he hb
  refine Cy _ _ _ _ ?_ (fun i hi => ?_)
  ·
   cases hr0 : Region.ready .any ops listed with
   | cons i r => exact ⟨i, by simp⟩
   | nil =>
   exfalso
   have hr := hr0
   have fu : ∃ m, ∃ x ∈ rem ++ l2, x.1 = m := by
    cases rem with
    | nil => simp at hn
    | cons x r => exact ⟨x.1, x, by simp, rfl⟩
   obtain ⟨m0, WI⟩ := fu
   have least : ∀ m, (∃ x ∈ rem ++ l2, x.1 = m) → False := by
    intro m
    induction m using Nat.strongRecOn with
    | _ m ihm =>
     rintro ⟨x, hx, rfl⟩
     have hrd : x.1 ∈ Region.ready .any ops listed := by
      refine mem_ready.2 ⟨hI.un x hx, x.2.2, hI.at_ x hx, fun e he hb => ?_⟩
      have cJ := qw _ _ _ (hI.at_ x hx) he hb
      have Wz : x.1 < ops.size := (Array.getElem?_eq_some_iff.1 (hI.at_ x hx)).1
      cases hq : listed.getD e.on false with
      | true => rfl
      | false =>
       exfalso
       have hl : listed.getD e.on true = false := by
        have : e.on < listed.size := by rw [hI.size]; omega
        simp [this] at hq ⊢; exact hq
       obtain ⟨y, hy, hy1⟩ := hI.all e.on (by omega) hl
       exact ihm e.on cJ ⟨y, hy, hy1⟩
     rw [hr] at hrd; cases hrd
   exact least m0 WI
  ·obtain ⟨WC, o, ho, oz⟩ := mem_ready.1 hi
   obtain ⟨x, hx, MY⟩ := hI.all i (Array.getElem?_eq_some_iff.1 ho).1 WC
   have hxr : x ∈ rem := by
    rcases List.mem_append.1 hx with q | q
    ·exact q
    exfalso
    cases rem with
    | nil => simp at hn
    | cons y r =>
     have hA := HD y (List.mem_cons_self ..) x q
     rw [MY] at hA
     exact lJ (hI.un y (by simp)) (vt hi hA)
   obtain ⟨pre, post, rfl⟩ := List.append_of_mem hxr
   have hox : x.2.2 = o := by have := hI.at_ x hx; rw [MY, ho] at this; cases this; rfl
   have X8 : ∀ k ∈ pre, indep ops k x = true := by
    intro k hk
    have hkx := (List.pairwise_append.1 hP).2.2 k hk x (List.mem_cons_self ..)
    rcases hkx with q | q
    ·exfalso
     rw [MY] at q
     exact lJ (hI.un k (by simp [hk])) (vt hi q)
    exact q
   have hns : uW (pre ++ x :: post ++ l2) := fun y hy cs b => Region.noSelect_spec dh y.1 y.2.2 cs b (hI.at_ y hy)
   have hnp : uW pre := fun y hy => hns y (by simp [hy])
   have Wz := hns x hx
   have hI' : N4 ops (listed.setIfInBounds i true) ((pre ++ post) ++ l2) := by
    have uB : i ∉ ((pre ++ post) ++ l2).map (·.1) := by
     have h0 := hI.once
     simp only [List.map_append, List.map_cons, List.append_assoc, List.cons_append] at h0
     rw [List.nodup_append] at h0
     obtain ⟨h1, h2, h3⟩ := h0
     rw [List.nodup_cons] at h2
     simp only [List.map_append, List.append_assoc, List.mem_append, not_or]
     rw [MY] at h2
     simp only [List.mem_append, not_or] at h2
     refine ⟨fun hm => h3 i hm i (by simp [MY]) rfl, h2.1.1, h2.1.2⟩
    have sub : ∀ y ∈ (pre ++ post) ++ l2, y ∈ pre ++ x :: post ++ l2 := fun y hy => by
     simp only [List.mem_append, List.mem_cons] at hy ⊢; grind
    have fu : ∀ y ∈ (pre ++ post) ++ l2, i ≠ y.1 := fun y hy e => uB (List.mem_map.2 ⟨y, hy, e.symm⟩)
    have his : i < listed.size := by rw [hI.size]; exact (Array.getElem?_eq_some_iff.1 ho).1
    refine ⟨fun y hy => hI.at_ y (sub y hy), fun y hy => by rw [getD_set_ne true (fu y hy)]; exact hI.un y (sub y hy), fun j hj hl => ?_, ?_, by simp [hI.size], fun j o' e ho' hl he hb => ?_⟩
    ·by_cases QL : i = j
     ·subst QL; simp [his] at hl
     rw [getD_set_ne true QL] at hl
     obtain ⟨y, hy, hy1⟩ := hI.all j hj hl
     refine ⟨y, ?_, hy1⟩
     simp only [List.mem_append, List.mem_cons] at hy ⊢
     rcases hy with (hy | rfl | hy) | hy
     ·exact .inl (.inl hy)
     ·exact absurd (MY.symm.trans hy1) QL
     ·exact .inl (.inr hy)
     exact .inr hy
    ·have h0 := hI.once
     refine List.Nodup.sublist ?_ h0
     refine List.Sublist.map _ (List.Sublist.append_right ?_ _)
     exact List.Sublist.append_left (List.sublist_cons_self ..) _
    by_cases QL : i = j
    ·subst QL; rw [ho] at ho'; cases ho'
     exact getD_set_true (oz e he hb)
    rw [getD_set_ne false QL] at hl
    exact getD_set_true (hI.shut j o' e ho' hl he hb)
   have hlen : (pre ++ post).length = n := by simp at hn ⊢; omega
   have hP' : (pre ++ post).Pairwise fun x y => xL ops x.1 y.1 ∨ indep ops x y = true := hP.sublist (List.Sublist.append_left (List.sublist_cons_self ..) _)
   have Yb : ∀ y ∈ pre ++ post, ∀ z ∈ l2, xL ops y.1 z.1 := fun y hy z hz => HD y (by simp only [List.mem_append, List.mem_cons] at hy ⊢; grind) z hz
   obtain ⟨xi, fl, xo⟩ := x
   simp only at MY hox
   subst MY; subst hox
   cases fl with
   | true =>
    obtain ⟨v, hv, h'⟩ := mvR pre a w X8 hnp Wz hS h
    exact ⟨xo, ho, YieldsIf.pq hv hS (ih _ _ _ _ hlen hI' hP' Yb hS h')⟩
   | false => exact ⟨xo, ho, sM (fun a' w' hh => ih _ _ _ _ hlen hI' hP' Yb hh.1 hh.2) (mvW pre a w X8 hnp Wz hS h)⟩
def pt (fl : List Bool) (ops : Array Oper) : List (Nat × Bool × Oper) := (List.range' 0 ops.toList.length).zip (fl.zip ops.toList)
def xW (k : Nat) (fl : List Bool) (ops : Array Oper) : Bool :=
 let m := Ct ops.toList []
 let l := pt fl ops
 fl.length == ops.toList.length && Region.noSelect ops && l.all (fun x => x.2.2.after.toList.all fun e => !Region.binds .any e || Nat.blt e.on x.1) &&
  W2 ops m (l.take k) && W2 ops m (l.drop k) && (l.take k).all fun x => (l.drop k).all fun y => (m.getD y.1 0).testBit x.1
theorem Iy {fl : List Bool} (h : fl.length = ops.toList.length) {x : Nat × Bool × Oper} (hx : x ∈ pt fl ops) : ops[x.1]? = some x.2.2 := by
 obtain ⟨j, hj⟩ := List.getElem?_of_mem hx
 unfold pt at hj
 rw [List.getElem?_zip_eq_some] at hj
 obtain ⟨h1, h2⟩ := hj
 rw [List.getElem?_zip_eq_some] at h2
 have : x.1 = j := by
  rw [List.getElem?_range'] at h1
  ·simp at h1; omega
  have := (List.getElem?_eq_some_iff.1 h1).1; simpa using this
 rw [this, ← Array.getElem?_toList]; exact h2.2
theorem q8 {fl : List Bool} (h : fl.length = ops.toList.length) : (pt fl ops).map (·.1) = List.range' 0 ops.toList.length := by
 unfold pt
 exact List.map_fst_zip (by simp [h])
theorem Oa {WA : Nat → Array Bool → Act → World → Prop} {C2 : Act → World → Prop} {S1 S2 : World → Prop} {k : Nat} {fl : List Bool}
  (Cy : ∀ fuel listed a w, (∃ i, i ∈ Region.ready .any ops listed) → (∀ i ∈ Region.ready .any ops listed, ∃ o, ops[i]? = some o ∧ pq P ops o (WA fuel (listed.setIfInBounds i true)) a w) → WA (fuel + 1) listed a w)
  (SR : ∀ listed a w, Region.ready .any ops listed = [] → C2 a w → WA 0 listed a w) (ok : xW k fl ops = true) {a : Act} {w : World}
  (h : ph P ops S1 (fun a w => S2 w ∧ ph P ops S2 C2 ((pt fl ops).drop k) a w) ((pt fl ops).take k) a w) (SS : S1 w) : WA ops.size (Array.replicate ops.size false) a w := by
 simp only [xW, Bool.and_eq_true, beq_iff_eq, List.all_eq_true, Bool.or_eq_true, Bool.not_eq_true'] at ok
 obtain ⟨⟨⟨⟨⟨h1, h2⟩, h3⟩, h4⟩, h5⟩, h6⟩ := ok
 have uC : ∀ j k, ((Ct ops.toList []).getD j 0).testBit k = true → xL ops k j := BM _ _ (fun j o hj => by simpa using hj) (fun j k M9 => by simp at M9)
 have qw : ∀ j o e, ops[j]? = some o → e ∈ o.after → Region.binds .any e = true → e.on < j := by
  intro j o e ho he hb
  have hj : j < ops.toList.length := by simpa using (Array.getElem?_eq_some_iff.1 ho).1
  have hx : (j, fl[j]'(by omega), o) ∈ pt fl ops := by
   refine List.mem_of_getElem? (i := j) ?_
   unfold pt
   rw [List.getElem?_zip_eq_some]
   refine ⟨by rw [List.getElem?_range' hj]; simp, ?_⟩
   rw [List.getElem?_zip_eq_some]
   exact ⟨List.getElem?_eq_getElem (by omega), by rw [Array.getElem?_toList]; exact ho⟩
  rcases h3 _ hx e (by simpa using he) with q | q
  ·rw [hb] at q; cases q
  exact Nat.le_of_ble_eq_true q
 have hI : N4 ops (Array.replicate ops.size false) ((pt fl ops).take k ++ (pt fl ops).drop k) := by
  rw [List.take_append_drop]
  refine ⟨fun x hx => Iy h1 hx, fun x hx => ?_, fun j hj _ => ?_, ?_, by simp, fun j o e ho hl => ?_⟩
  ·have := (Array.getElem?_eq_some_iff.1 (Iy h1 hx)).1
   simp [this]
  ·have : j ∈ (pt fl ops).map (·.1) := by rw [q8 h1]; simp; omega
   obtain ⟨x, hx, MY⟩ := List.mem_map.1 this
   exact ⟨x, hx, MY⟩
  ·rw [q8 h1]; exact List.nodup_range' ..
  exfalso
  have := (Array.getElem?_eq_some_iff.1 ho).1
  simp [this] at hl
 have hlen : ((pt fl ops).take k).length + ((pt fl ops).drop k).length = ops.size := by
  have := congrArg List.length (List.take_append_drop k (pt fl ops))
  rw [List.length_append] at this
  rw [this]
  have := congrArg List.length (q8 h1)
  simpa using this
 have := uX (P := P) (S := S1) (WA := WA) (l2 := (pt fl ops).drop k) (fuel0 := ((pt fl ops).drop k).length) h2 qw Cy (fun listed hL a w hh => ?_) _ ((pt fl ops).take k) (Array.replicate ops.size false) a _ rfl hI (yI uC _ h4) (fun x hx y hy => uC _ _ (h6 x hx y hy)) SS h
 ·rwa [hlen] at this
 have := uX (P := P) (S := S2) (WA := WA) (C := C2) (l2 := []) (fuel0 := 0) h2 qw Cy (fun listed hL a w hh => ?_) _ ((pt fl ops).drop k) listed a w rfl (by simpa using hL) (yI uC _ h5) (fun x _ y hy => by cases hy) hh.1 hh.2
 ·simpa using this
 refine SR _ _ _ ?_ hh
 cases hr : Region.ready .any ops listed with
 | nil => rfl
 | cons i r =>
  exfalso
  have hi : i ∈ Region.ready .any ops listed := by rw [hr]; exact List.mem_cons_self ..
  obtain ⟨WC, o, ho, _⟩ := mem_ready.1 hi
  obtain ⟨x, hx, _⟩ := hL.all i (Array.getElem?_eq_some_iff.1 ho).1 WC
  cases hx
theorem ML {Q : Exit → Act → World → Prop} (fuel : Nat) (listed : Array Bool) (a : Act) (w : World) (fu : ∃ i, i ∈ Region.ready .any ops listed) (h : ∀ i ∈ Region.ready .any ops listed, ∃ o, ops[i]? = some o ∧ pq P ops o (wpAny P .any ops Q fuel (listed.setIfInBounds i true)) a w) :
  wpAny P .any ops Q (fuel + 1) listed a w := by
 refine ⟨fun hr => ?_, fun i hi => ?_⟩
 ·obtain ⟨i, hi⟩ := fu; rw [hr] at hi; cases hi
 obtain ⟨o, ho, hh⟩ := h i hi; exact J9 ho hh
theorem tx {Q : Exit → Act → World → Prop} {S1 S2 : World → Prop} {id k : Nat} {fl : List Bool} (hm : P.follows .mixedOrders = true) (ok : xW k fl ops = true) {a : Act} {w : World}
  (h : ph P ops S1 (fun a w => S2 w ∧ ph P ops S2 (Q .normal) ((pt fl ops).drop k) a w) ((pt fl ops).take k) a { w with drawn := w.drawn + 1 }) (SS : S1 { w with drawn := w.drawn + 1 }) : (Code.region id ops true).wp P Q a w :=
 wp_region_any hm (Oa (WA := wpAny P .any ops Q) ML (fun listed a w hr hq => ⟨hr, hq⟩) ok h SS)
end
def TT (P : Program) (ops : Array Oper) (F : c9) (C : Act → World → Prop) (l : List (Nat × Bool × Oper)) : Act → World → Prop := fun a w => cD F w ∧ ph P ops (cD F) C l a w
section
variable {P : Program} {n : Nat} {ds : List Deferred} {F : c9} {Q : Exit → Act → World → Prop} {K : Act → World → Prop} {σ : aS} {H : List aa} {o : Oper} {d i : Nat} {ops : Array Oper} {C : Act → World → Prop} {rest : List (Nat × Bool × Oper)}
theorem Zp {id : Nat} (fl : List Bool) (hm : P.follows .mixedOrders = true) (h : G n ds F (TT P ops F (Q .normal) (pt fl ops)) σ H) (ok : xW ops.size fl ops = true := by kernel_rfl) : G n ds F ((Code.region id ops true).wp P Q) σ H := by
 have hk : (pt fl ops).length ≤ ops.size := by
  have h1 : fl.length = ops.toList.length := by simp only [xW, Bool.and_eq_true, beq_iff_eq] at ok; exact ok.1.1.1.1.1
  have := congrArg List.length (q8 (ops := ops) h1)
  simp at this; omega
 refine .mk fun a w e s => tx (k := ops.size) (fl := fl) (S1 := cD F) (S2 := cD F) hm ok ?_ s.frame
 rw [List.take_of_length_le hk, List.drop_of_length_le hk]
 have h2 : ∀ (l : List (Nat × Bool × Oper)) (a : Act) (w : World), cD F w → ph P ops (cD F) (Q .normal) l a w → ph P ops (cD F) (fun a w => cD F w ∧ ph P ops (cD F) (Q .normal) [] a w) l a w := by
  intro l
  induction l with
  | nil => intro a w hS hh; exact ⟨hS, hh⟩
  | cons x l ih =>
   obtain ⟨j, fl, ox⟩ := x
   intro a w hS hh
   cases fl with
   | true => obtain ⟨v, hv, hh⟩ := hh; exact ⟨v, hv, ih _ _ hS hh⟩
   | false => exact sM (fun a' w' hq => ⟨hq.1, ih _ _ hq.1 hq.2⟩) hh
 exact h2 _ _ _ s.frame (h a _ e (s.drawn _)).2
theorem U0 {id : Nat} {As R : List aa} (k : Nat) (fl : List Bool) (hm : P.follows .mixedOrders = true) (dh : gY H As R)
  (h : ∀ F' : c9, Le F.h F'.h → fF As F'.h → Ax F As F' → G n ds F' (TT P ops F' (TT P ops F (Q .normal) ((pt fl ops).drop k)) ((pt fl ops).take k)) σ R) (ok : xW k fl ops = true := by kernel_rfl) : G n ds F ((Code.region id ops true).wp P Q) σ H := by
 refine .mk fun a w e s => ?_
 obtain ⟨a1, a2, a3, fr, hh, st, hl, rQ⟩ := s
 obtain ⟨h1, h2, d12, l1, l2, s1, s2⟩ := bs (dh.out _ st)
 have NF : bK h1 F.h := rQ.left l1
 let F' : c9 := { F with h := fj h1 F.h }
 have hb : Ax F As F' := by
  intro R' w' s'
  obtain ⟨b1, b2, b3, rR, Ag, zX, Af, hd'⟩ := s'
  exact ⟨b1, b2, b3, (aV NF).trans rR, fj h1 Ag, bB s1 zX (hd'.right (ba _ _)).symm, bS ((ba _ _).trans rR) Af, bK.fj NF (hd'.right (aV NF))⟩
 have s' : St F' R { w with drawn := w.drawn + 1 } := ⟨a1, ⟨a2.1, Nat.le_succ_of_le a2.2⟩, a3, bS (l1.trans hl) fr, h2, s2, l2.trans hl, (bK.fj d12 (rQ.left l2).symm).symm⟩
 refine tx (k := k) (fl := fl) (S1 := cD F') (S2 := cD F) hm ok ?_ s'.frame
 exact (h F' (aV NF) (bU s1 (ba _ _)) hb a _ e s').2
theorem Ti {v : Value} (hy : Yv P n ds F σ o v) (h : G n ds F (TT P ops F C rest) ((d, v) :: σ) H) (hg : NB ops o σ = true := by exact rfl) (hd : o.dst = some d := by exact rfl) (hdn : Nat.blt d n = true := by exact rfl) : G n ds F (TT P ops F C ((i, true, o) :: rest)) σ H :=
 .mk fun a w e s => ⟨s.frame, v, .inl ⟨jt hg e, fun w hw => hy a w e hw⟩, by rw [hd]; exact (h _ w (e.put hdn v) s).2⟩
theorem Tp (h : G n ds F (fun a w => o.wp P a w (TT P ops F C rest) NoQ) σ H) (hg : NB ops o σ = true := by exact rfl) : G n ds F (TT P ops F C ((i, false, o) :: rest)) σ H :=
 .mk fun a w e s => ⟨s.frame, by unfold ph pq; rw [if_pos (jt hg e)]; exact h a w e s⟩
theorem Tx {b : Bool} (h : G n ds F (TT P ops F C rest) ((d, undef) :: σ) H) (hg : gno ops o σ = true := by exact rfl) (hd : o.dst = some d := by exact rfl) (hdn : Nat.blt d n = true := by exact rfl) : G n ds F (TT P ops F C ((i, b, o) :: rest)) σ H :=
 .mk fun a w e s => by
  refine ⟨s.frame, ?_⟩
  have h' := (h _ w (e.put hdn undef) s)
  cases b with
  | true => exact ⟨undef, .inr ⟨nY hg e, rfl⟩, by rw [hd]; exact h'.2⟩
  | false => unfold ph pq; rw [if_neg (by simp [nY hg e]), hd]; exact h'
theorem Tn (h : G n ds F C σ H) : G n ds F (TT P ops F C []) σ H := .mk fun a w e s => ⟨s.frame, h a w e s⟩
theorem iC {F' : c9} {As : List aa} (hb : Ax F As F') (h : G n ds F C σ (As ++ H)) : G n ds F' (TT P ops F' C []) σ H := .mk fun a w e s => ⟨s.frame, h a w e (hb _ _ s)⟩
theorem Tne {K : Act → World → Prop} (h : G n ds F K σ H) : G n ds F (TT P ops F (Exit.then K Q .normal) []) σ H := Tn h
def XI (P : Program) (ld : Bool) (ops : Array Oper) : List Bool := ops.toList.map fun o => match o.op with
 | .load _ _ => ld
 | .move _ | .assign _ | .pick _ _ _ | .nilCheck _ | .binOp _ _ _ _ _ | .unOp _ _ _ | .fieldAddr _ _ _ | .field _ _ _ | .indexAddr _ _ _ | .index _ _ _ | .extract _ _ | .slice _ _ _ _ _ | .build _ _ | .makeFunc _ _ _ | .makeInterface _ _ | .typeAssert _ _ _ _ => true
 | .convert s t _ => match P.underlying t with
  | some (.slice _) => false
  | _ => match P.underlying s with
   | some (.slice _) => ld
   | _ => true
 | .call c => match c.callee with
  | .builtin .len => true
  | .builtin .cap => true
  | .builtin .min => true
  | .builtin .max => true
  | _ => false
 | _ => false
theorem gT {id : Nat} (ld : Bool) (hm : P.follows .mixedOrders = true) (h : G n ds F (TT P ops F (Q .normal) (pt (XI P ld ops) ops)) σ H) (ok : xW ops.size (XI P ld ops) ops = true := by kernel_rfl) : G n ds F ((Code.region id ops true).wp P Q) σ H := Zp _ hm h ok
theorem jC {id : Nat} {As R : List aa} (k : Nat) (hm : P.follows .mixedOrders = true) (dh : gY H As R)
  (h : ∀ F' : c9, Le F.h F'.h → fF As F'.h → Ax F As F' → G n ds F' (TT P ops F' (TT P ops F (Q .normal) ((pt (XI P true ops) ops).drop k)) ((pt (XI P true ops) ops).take k)) σ R) (ok : xW k (XI P true ops) ops = true := by kernel_rfl) : G n ds F ((Code.region id ops true).wp P Q) σ H := U0 k _ hm dh h ok
end
end Go.cQ
namespace Go.cQ
open Go
variable {P : Program} {n : Nat} {ds : List Deferred} {F : c9} {Q : Exit → Act → World → Prop} {K : Act → World → Prop} {σ : aS} {H : List aa} {o : Oper} {d : Nat}
theorem Bda {t e : TypeId} {sz k : Nat} {zs vs cs : List Value} {parts : List (Nat × Operand)} (hz : bF P t = some zs) (ht : Aj P t = some (k, e, sz)) (ho : o.op = .build t parts.toArray := by exact rfl) (hv : iH σ (parts.map (·.2)) = some vs := by exact rfl)
  (hc : lG (fun i => some (i * sz, sz)) zs ((parts.map (·.1)).zip vs) = some cs := by exact rfl) : Yv P n ds F σ o (.agg cs.toArray) :=
 fun ac w en fr => by
  have hp := qj en hv
  obtain ⟨zv, hzr, Cc⟩ := my hz (w := w)
  unfold Aj at ht
  cases hu : P.underlying t with
  | none => simp [hu] at ht
  | some dsc =>
   cases dsc <;> simp [hu] at ht
   rename_i k' e'
   cases hi : P.info? e' with
   | none => simp [hi] at ht
   | some inf =>
    simp [hi] at ht
    obtain ⟨rfl, rfl, rfl⟩ := ht
    have iW := fill_eq _ _ _ _ hc
    rw [← hp] at iW
    simp [execOp, ho, Instr.build, hzr, run_underlying hu, sizeOf, typeInfo, hi, Cc, iW]
end Go.cQ
namespace Go.cQ
open Go Go.MapKept
section
variable {P : Program} {n : Nat} {ds : List Deferred} {F : c9} {Q : Exit → Act → World → Prop} {K : Act → World → Prop} {σ : aS} {H : List aa} {o : Oper} {d : Nat}
theorem Mf {fn : Fn} {fs cs : List Operand} {fv cv : List Value} (ho : o.op = .makeFunc fn fs.toArray cs.toArray := by exact rfl) (hf : iH σ fs = some fv := by exact rfl) (hc : iH σ cs = some cv := by exact rfl) : Yv P n ds F σ o (.func fn fv.toArray cv.toArray) :=
 fun a w e _ => by
  have h1 := e.sj hf
  have h2 := e.sj hc
  simp [execOp, ho, Instr.makeFunc, ← h1, ← h2]
theorem EW {ρ : Operand → Value} {f : FuncId} {xs : List Operand} {vs fv cv : List Value} {pE : Array TypeId} {w : World} {fn : Func} {x : Operand} (ho : o.op = .call { callee := .value x, args := xs.toArray, argTypes := pE })
  (hρ : ρ x = .func (.func f) fv.toArray cv.toArray) (hv : xs.map ρ = vs) (hf : P.funcs[f]? = some fn) (hb : fn.body.isSome = true) (hnm : (fn.name == "runtime.NumGoroutine") = false) :
  (execOp ρ o).run P w = .ok (.enter f (fv ++ vs ++ cv).toArray) w := by
 have Zj : fn.body.isNone = false := by rw [← Option.not_isSome, hb]; rfl
 have SJ : ¬ fn.name = "runtime.NumGoroutine" := by simpa using hnm
 have Xy : ¬ fn.body = none := by intro q; rw [q] at hb; cases hb
 simp [execOp, ho, resolve, hρ, Deferred.ofValue, invoke, callFunc, hf, ← hv]
 rw [if_neg SJ, if_neg Xy]
theorem K5 {f : FuncId} {xs : List Operand} {vs fv cv : List Value} {pE : Array TypeId} {pre : Hp → Prop} {As R : List aa} {T : Value → List aa → Prop} {x : Operand} (jw : aA P f = true) (ho : o.op = .call { callee := .value x, args := xs.toArray, argTypes := pE })
  (hd : o.dst = some d) (hx : bd σ x = some (.func (.func f) fv.toArray cv.toArray)) (hv : iH σ xs = some vs) (hc : aL P f (fv ++ vs ++ cv) pre As T) (dh : gY H As R) (gI : ∀ h, Le F.h h → fF R h → pre h) (hdn : Nat.blt d n = true)
  (h : ∀ v H', T v H' → G n ds F K ((d, v) :: σ) (H' ++ R)) : G n ds F (fun a w => o.wp P a w K Q) σ H := by
 refine .mk fun a w en s => ?_
 unfold aA at jw
 cases hf : P.funcs[f]? with
 | none => simp [hf] at jw
 | some fn =>
  simp only [hf, Bool.and_eq_true, Bool.not_eq_true'] at jw
  unfold Oper.wp
  rw [EW ho (en.eval hx) (en.sj hv) hf jw.1 jw.2, Oper.upon_enter]
  obtain ⟨a1, a2, a3, fr, hh, st, hl, rQ⟩ := s
  obtain ⟨h1, h2, d12, l1, l2, s1, s2⟩ := bs (dh.out _ st)
  have uG : bK h2 F.h := rQ.left l2
  let F' : c9 := { F with h := fj h2 F.h }
  have gV : Le F.h F'.h := aV uG
  have gM : Le h2 F'.h := ba _ _
  have zX : St F' As w := ⟨a1, a2, a3, bS (l2.trans hl) fr, h1, s1, l1.trans hl, (bK.fj d12.symm (rQ.left l1).symm).symm⟩
  refine (hc F' w (gI _ gV (bU s2 gM)) zX).mono ?_
  rintro e w' ⟨v, H', rfl, hT, sw⟩
  obtain ⟨b1, b2, b3, rR, Ag, st2, Af, kf⟩ := sw
  rw [hd]
  refine h v H' hT _ _ (en.put hdn v) ⟨b1, b2, b3, gV.trans rR, fj Ag h2, bB st2 s2 (kf.right gM), bS Af (gM.trans rR), bK.fj (kf.right gV) uG⟩
theorem oCV {f : FuncId} {xs : List Operand} {vs fv cv : List Value} {pE : Array TypeId} {pre : Hp → Prop} {A2 R : List aa} {T : Value → List aa → Prop} {x : Operand} (jw : aA P f = true) (ho : o.op = .call { callee := .value x, args := xs.toArray, argTypes := pE })
  (hx : bd σ x = some (.func (.func f) fv.toArray cv.toArray)) (hv : iH σ xs = some vs) (hc : aL P f (fv ++ vs ++ cv) pre A2 T) (dh : gY H A2 R) (gI : ∀ h, Le F.h h → fF R h → pre h)
  (h : ∀ v H', T v H' → G n ds F K ((d, v) :: σ) (H' ++ R)) (hd : o.dst = some d := by exact rfl) (hdn : Nat.blt d n = true := by exact rfl) : G n ds F (fun a w => o.wp P a w K Q) σ H :=
 K5 jw ho hd hx hv hc dh gI hdn h
def oH (P : Program) (t : TypeId) : Bool := match P.underlying t with | some (.interface _) => false | some _ => true | none => false
theorem o6 {t : TypeId} (h : oH P t = true) : ∃ dd, P.underlying t = some dd ∧ ∀ ms, dd ≠ .interface ms := by
 unfold oH at h
 cases hu : P.underlying t with
 | none => simp [hu] at h
 | some dd => exact ⟨dd, rfl, fun ms q => by subst q; simp [hu] at h⟩
theorem XM {t : TypeId} {x : Operand} {v : Value} (ht : oH P t = true) (ho : o.op = .makeInterface t x := by exact rfl) (hx : bd σ x = some v := by exact rfl) : Yv P n ds F σ o (.iface t v) := fun a w e _ => by
 obtain ⟨dd, hu, fu⟩ := o6 ht
 have : (Instr.makeInterface t v).run P w = .ok (.iface t v) w := by
  cases dd <;> simp_all [Instr.makeInterface, run_underlying hu]
 simp [execOp, ho, e.eval hx, this]
def isIface (P : Program) (t : TypeId) : Bool := match P.underlying t with | some (.interface _) => true | _ => false
theorem o8 {t : TypeId} (h : isIface P t = true) : ∃ ms, P.underlying t = some (.interface ms) := by
 unfold isIface at h
 cases hu : P.underlying t with
 | none => simp [hu] at h
 | some dd => cases dd <;> simp [hu] at h; exact ⟨_, rfl⟩
theorem Oz {t tv : TypeId} {v : Value} (ht : isIface P t = true) (w : World) : (Op.equalIn 10000 t (.iface tv v) .nilIface).run P w = .ok false w := by
 obtain ⟨ms, hu⟩ := o8 ht
 unfold Op.equalIn
 simp [run_underlying hu]
theorem Oy {t : TypeId} (ht : isIface P t = true) (w : World) : (Op.equalIn 10000 t .nilIface .nilIface).run P w = .ok true w := by
 obtain ⟨ms, hu⟩ := o8 ht
 unfold Op.equalIn
 simp [run_underlying hu]
theorem Iq {op : BinOp} {t yt tv : TypeId} {x : Operand} {v : Value} {b : Bool} (ht : isIface P t = true) (ho : o.op = .binOp op t x (.const .nilIface) yt := by exact rfl) (hx : bd σ x = some (.iface tv v) := by exact rfl)
  (hop : (op = .eql ∧ b = false) ∨ (op = .neq ∧ b = true) := by first | exact .inl ⟨rfl, rfl⟩ | exact .inr ⟨rfl, rfl⟩) : Yv P n ds F σ o (.bool b) := fun a w e _ => by
 have hc : a.eval (.const .nilIface) = .nilIface := rfl
 have q := Oz (P := P) (tv := tv) (v := v) ht w
 rcases hop with ⟨rfl, rfl⟩ | ⟨rfl, rfl⟩ <;> simp [execOp, ho, e.eval hx, hc, eqGuard, binOp, Op.equal, Op.maxDepth, q]
theorem Iqn {op : BinOp} {t yt : TypeId} {x : Operand} {b : Bool} (ht : isIface P t = true) (ho : o.op = .binOp op t x (.const .nilIface) yt := by exact rfl) (hx : bd σ x = some .nilIface := by exact rfl)
  (hop : (op = .eql ∧ b = true) ∨ (op = .neq ∧ b = false) := by first | exact .inl ⟨rfl, rfl⟩ | exact .inr ⟨rfl, rfl⟩) : Yv P n ds F σ o (.bool b) := fun a w e _ => by
 have hc : a.eval (.const .nilIface) = .nilIface := rfl
 have q := Oy (P := P) ht w
 rcases hop with ⟨rfl, rfl⟩ | ⟨rfl, rfl⟩ <;> simp [execOp, ho, e.eval hx, hc, eqGuard, binOp, Op.equal, Op.maxDepth, q]
theorem TaT {xt t : TypeId} {x : Operand} {v : Value} (ht : oH P t = true) (ho : o.op = .typeAssert x xt t true := by exact rfl) (hx : bd σ x = some (.iface t v) := by exact rfl) : Yv P n ds F σ o (.tuple #[v, .bool true]) := fun a w e _ => by
 obtain ⟨dd, hu, fu⟩ := o6 ht
 have : (Instr.typeAssert (.iface t v) xt t true).run P w = .ok (.tuple #[v, .bool true]) w := by
  cases dd <;> simp_all [Instr.typeAssert, run_underlying hu]
 simp [execOp, ho, e.eval hx, this]
end
inductive mq (dd : TypeDesc) (b : Nat) (es : List (Value × Value)) (h : Hp) : Prop
 | mk (dx : Array MapEntry) (mU : Nat) (he : dx.toList.map (fun e => (e.key, e.val)) = es) (hk : ∀ x ∈ dx.toList, IsKey dd x.key) (hs : Stamped dx mU) (hb : h b = some (.map dx mU))
noncomputable def pA (es : List (Value × Value)) (k : Value) : Option Value := by
 classical exact (es.find? fun e => decide (e.1 = k)).map (·.2)
noncomputable def zW (es : List (Value × Value)) (k v : Value) : List (Value × Value) := by
 classical exact if (∃ e ∈ es, e.1 = k) then es.map (fun e => if e.1 = k then (k, v) else e) else es ++ [(k, v)]
noncomputable def Ch (es : List (Value × Value)) (k : Value) : List (Value × Value) := by
 classical exact es.filter fun e => decide (e.1 ≠ k)
theorem Lj {dd : TypeDesc} {b : Nat} {es : List (Value × Value)} {h : Hp} (p : mq dd b es h) : (es.map (·.1)).Nodup := by
 obtain ⟨dx, mU, he, _, hs, _⟩ := p
 rw [← he]
 simpa [Function.comp_def] using hs.2.2
theorem xn {dd : TypeDesc} {k : Value} (hk : IsKey dd k) {dx : Array MapEntry} (Hz : ∀ x ∈ dx.toList, IsKey dd x.key) :
  (Instr.findNow dd k dx.toList 0 = some none ∧ ∀ e ∈ dx.toList.map (fun e => (e.key, e.val)), e.1 ≠ k) ∨ ∃ j e, Instr.findNow dd k dx.toList 0 = some (some (j, e.val)) ∧ dx[j]? = some e ∧ e.key = k := by
 rcases findNow_spec hk dx.toList 0 Hz with ⟨h1, h2⟩ | ⟨j, e, h1, h2, h3⟩
 ·refine .inl ⟨h1, fun e he => ?_⟩
  obtain ⟨x, hx, rfl⟩ := List.mem_map.1 he
  exact h2 x hx
 exact .inr ⟨j, e, by simpa using h1, by simpa using h2, h3⟩
theorem yR {es : List (Value × Value)} {k : Value} (h : ∀ e ∈ es, e.1 ≠ k) : pA es k = none := by
 simp only [pA, Option.map_eq_none_iff, List.find?_eq_none]
 intro e he; simpa using h e he
theorem Lw {es : List (Value × Value)} {k v : Value} (hn : (es.map (·.1)).Nodup) (h : (k, v) ∈ es) : pA es k = some v := by
 induction es with
 | nil => cases h
 | cons e es ih =>
  simp only [List.map_cons, List.nodup_cons] at hn
  rcases List.mem_cons.1 h with rfl | h
  ·simp [pA]
  have fu : e.1 ≠ k := fun q => hn.1 (List.mem_map.2 ⟨(k, v), h, q.symm⟩)
  have := ih hn.2 h
  simp only [pA] at this ⊢
  rw [List.find?_cons_of_neg (by simpa using fu)]
  exact this
theorem K8 {α : Type} {l : List α} (hn : l.Nodup) {i j : Nat} {x : α} (hi : l[i]? = some x) (hj : l[j]? = some x) : i = j := by
 obtain ⟨h1, e1⟩ := List.getElem?_eq_some_iff.1 hi
 obtain ⟨h2, e2⟩ := List.getElem?_eq_some_iff.1 hj
 have hp := List.pairwise_iff_getElem.1 hn
 rcases Nat.lt_trichotomy i j with q | q | q
 ·exact absurd (e1.trans e2.symm) (hp i j h1 h2 q)
 ·exact q
 exact absurd (e2.trans e1.symm) (hp j i h2 h1 q)
theorem pf {dd : TypeDesc} {k : Value} (h : MW dd k = true) (m : Nat) : Instr.sameBits m k k = true := by
 cases dd <;> cases k <;> simp [MW] at h <;> simp [Instr.sameBits]
 exact (bytes_beq _ _).2 rfl
section
variable {P : Program} {n : Nat} {ds : List Deferred} {F : c9} {Q : Exit → Act → World → Prop} {K : Act → World → Prop} {σ : aS} {H : List aa} {o : Oper} {d : Nat}
theorem oQm {t : TypeId} (dd : TypeDesc) (h : ∀ b, G n ds F K ((d, .map (some b)) :: σ) (mq dd b [] :: H)) (ho : o.op = .makeMap t none := by exact rfl) (hd : o.dst = some d := by exact rfl) (hdn : Nat.blt d n = true := by exact rfl) : G n ds F (fun a w => o.wp P a w K Q) σ H := by
 refine .mk fun a w en s => ?_
 unfold Oper.wp
 have : (execOp a.eval o).run P w = .ok (.value (.map (some w.heap.size))) (w.alloc (.map #[] 0)) := by
  have h0 : (Instr.makeMap t none).run P w = .ok (.map (some w.heap.size)) (w.alloc (.map #[] 0)) := rfl
  simp [execOp, ho, h0]
 rw [this, Oper.upon_value, hd]
 exact h _ _ _ (en.put hdn _) (s.X0 _ _ (.mk #[] 0 rfl (by simp) (stamped_empty 0) (by simp)))
theorem CM {es : List (Value × Value)} {k v : Value} (h : ∃ e ∈ es, e.1 = k) : zW es k v = es.map (fun e => by classical exact if e.1 = k then (k, v) else e) := by
 unfold zW; rw [if_pos h]
theorem CN {es : List (Value × Value)} {k v : Value} (h : ∀ e ∈ es, e.1 ≠ k) : zW es k v = es ++ [(k, v)] := by
 unfold zW; rw [if_neg (by rintro ⟨e, he, q⟩; exact h e he q)]
theorem zD {α : Type} (l : Array α) (i : Nat) (f : α → α) : (l.modify i f).toList = l.toList.modify i f := Array.toList_modify
theorem oQi {t k e : TypeId} {dd : TypeDesc} {z : Value} {m x y : Operand} {b : Nat} {es : List (Value × Value)} {kv v : Value} {f : aa → List aa} (ht : ue P t = some (k, dd, e, z)) (h : G n ds F K σ (f (mq dd b (zW es kv v)))) (ho : o.op = .mapUpdate t m x y ∨ o.op = .insert t m x y := by first | exact .inl rfl | exact .inr rfl) (hd : o.dst = none := by exact rfl)
  (hm : bd σ m = some (.map (some b)) := by exact rfl) (hx : bd σ x = some kv := by exact rfl) (hy : bd σ y = some v := by exact rfl) (hk : MW dd kv = true := by exact rfl) (hu : Pos H (mq dd b es) f := by repeat (first | exact Pos.here | apply Pos.there)) :
  G n ds F (fun a w => o.wp P a w K Q) σ H := by
 classical
 refine .mk fun a w en s => ?_
 obtain ⟨MZ, xO, _, _, _⟩ := mL ht
 obtain ⟨R, s1, s2⟩ := hu.qK
 have sR := s.qK s1
 obtain ⟨hh, ⟨dx, mU, he, Hz, jA, hb⟩, hl⟩ := sR.get
 have hw : w.heap[b]? = some (.map dx mU) := hl _ _ hb
 unfold Oper.wp
 rcases xn (gB hk) Hz with ⟨Ac, nC⟩ | ⟨j, HE, Ac, hj, ow⟩
 ·have : (execOp a.eval o).run P w = .ok .skip { w with heap := w.heap.setIfInBounds b (.map (dx.push { key := kv, val := v, born := mU }) (mU + 1)) } := by
   have hup : (Instr.mapUpdate t (.map (some b)) kv v).run P w = .ok () { w with heap := w.heap.setIfInBounds b (.map (dx.push { key := kv, val := v, born := mU }) (mU + 1)) } := by
    simp [Instr.mapUpdate, run_underlying MZ, MapKept.run_getObj_map hw, MapKept.run_checkKey xO (gB hk), MapKept.run_findKey xO Ac, MapKept.run_setObj_map _ hw, Result.andThen]
   rcases ho with ho | ho <;> simp [execOp, ho, en.eval hm, en.eval hx, en.eval hy, hup, Result.andThen]
  rw [this, Oper.upon_skip, hd]
  rw [he] at nC
  refine h _ _ en (St.ni (s2 _) (sR.NO (fun h' p => by obtain ⟨_, _, _, _, _, q⟩ := p; exact ⟨_, q⟩) (.mk (dx.push { key := kv, val := v, born := mU }) (mU + 1) (by rw [CN nC]; simp [he]) (fun q hq => ?_) (stamped_push jA fun q hq e => ?_) (by simp))))
  ·simp only [Array.toList_push, List.mem_append, List.mem_singleton] at hq
   rcases hq with hq | rfl
   ·exact Hz q hq
   exact gB hk
  exact nC (q.key, q.val) (by rw [← he]; exact List.mem_map.2 ⟨q, hq, rfl⟩) e
 have hold : dx.toList[j]? = some HE := by simpa using hj
 have NT : (execOp a.eval o).run P w = .ok .skip { w with heap := w.heap.setIfInBounds b (.map (dx.modify j fun e => { e with key := kv, val := v }) mU) } := by
  have hup : (Instr.mapUpdate t (.map (some b)) kv v).run P w = .ok () { w with heap := w.heap.setIfInBounds b (.map (dx.modify j fun e => { e with key := kv, val := v }) mU) } := by
   simp [Instr.mapUpdate, run_underlying MZ, MapKept.run_getObj_map hw, MapKept.run_checkKey xO (gB hk), MapKept.run_findKey xO Ac, hj, ow, Instr.keyThatStays, pf hk, MapKept.run_setObj_map _ hw, Result.andThen]
  rcases ho with ho | ho <;> simp [execOp, ho, en.eval hm, en.eval hx, en.eval hy, hup, Result.andThen]
 rw [NT, Oper.upon_skip, hd]
 have qP : (kv, HE.val) ∈ es := by rw [← he, ← ow]; exact List.mem_map.2 ⟨HE, List.mem_of_getElem? hold, rfl⟩
 have H7 : (dx.modify j fun e => { e with key := kv, val := v }).toList.map (fun e => (e.key, e.val)) = zW es kv v := by
  rw [CM ⟨_, qP, rfl⟩, ← he, zD]
  apply List.ext_getElem?
  intro i
  simp only [List.getElem?_map, List.getElem?_modify]
  by_cases QM : j = i
  ·subst QM
   simp [hold, ow]
  cases hi : dx.toList[i]? with
  | none => simp
  | some e' =>
   have fu : e'.key ≠ kv := by
    intro q
    have hn := jA.2.2
    exact QM (K8 hn (x := kv) (by simp [hold, ow]) (by simp [hi, q]))
   simp [fu, QM]
 refine h _ _ en (St.ni (s2 _) (sR.NO (fun h' p => by obtain ⟨_, _, _, _, _, q⟩ := p; exact ⟨_, q⟩) (.mk _ mU H7 (isKey_modify Hz j _ (fun e HA => by rw [hj] at HA; cases HA; exact ow.symm)) (stamped_modify jA j _ (fun _ _ => rfl) (fun e _ HA => by rw [hj] at HA; cases HA; exact ow.symm)) (by simp))))
theorem vk {t k e : TypeId} {dd : TypeDesc} {z : Value} {b : Nat} {es : List (Value × Value)} {kv : Value} {h : Hp} {w : World} (ht : ue P t = some (k, dd, e, z)) (hk : MW dd kv = true) (p : mq dd b es h) (hl : Le h (jB w)) (c : Bool) :
  (Instr.lookup t (.map (some b)) kv c).run P w = .ok (if c then .tuple #[(pA es kv).getD z, .bool (pA es kv).isSome] else (pA es kv).getD z) w := by
 obtain ⟨MZ, xO, i, hi, hz⟩ := mL ht
 have uB := Lj p
 obtain ⟨dx, mU, he, Hz, jA, hb⟩ := p
 have hw : w.heap[b]? = some (.map dx mU) := hl _ _ hb
 rcases xn (gB hk) Hz with ⟨Ac, nC⟩ | ⟨j, HE, Ac, hj, ow⟩
 ·rw [he] at nC
  rw [yR nC]
  simp [Instr.lookup, run_underlying MZ, MapKept.run_getObj_map hw, MapKept.run_checkKey xO (gB hk), MapKept.run_findKey xO Ac, zeroValue, typeInfo, hi, hz, Result.andThen]
 have qP : (kv, HE.val) ∈ es := by rw [← he, ← ow]; exact List.mem_map.2 ⟨HE, List.mem_of_getElem? (by simpa using hj), rfl⟩
 rw [Lw uB qP]
 simp [Instr.lookup, run_underlying MZ, MapKept.run_getObj_map hw, MapKept.run_checkKey xO (gB hk), MapKept.run_findKey xO Ac, Result.andThen]
theorem oQl {t k e : TypeId} {dd : TypeDesc} {z : Value} {m x : Operand} {b : Nat} {es : List (Value × Value)} {kv : Value} {R : List aa} (ht : ue P t = some (k, dd, e, z)) (h : G n ds F K ((d, (pA es kv).getD z) :: σ) H) (ho : o.op = .lookup t m x false := by exact rfl) (hd : o.dst = some d := by exact rfl)
  (hm : bd σ m = some (.map (some b)) := by exact rfl) (hx : bd σ x = some kv := by exact rfl) (hk : MW dd kv = true := by exact rfl) (hs : ez H (mq dd b es) R := by repeat (first | exact ez.here | apply ez.there)) (hdn : Nat.blt d n = true := by exact rfl) : G n ds F (fun a w => o.wp P a w K Q) σ H :=
 nP hd hdn (fun a w en s => by
  obtain ⟨hh, p, hl⟩ := (s.qK hs).get
  simp [execOp, ho, en.eval hm, en.eval hx, vk ht hk p hl]) h
theorem XW {t k e : TypeId} {dd : TypeDesc} {z : Value} {m x : Operand} {b : Nat} {es : List (Value × Value)} {kv : Value} {R : List aa} (ht : ue P t = some (k, dd, e, z)) (h : G n ds F K ((d, .tuple #[(pA es kv).getD z, .bool (pA es kv).isSome]) :: σ) H) (ho : o.op = .lookup t m x true := by exact rfl) (hd : o.dst = some d := by exact rfl)
  (hm : bd σ m = some (.map (some b)) := by exact rfl) (hx : bd σ x = some kv := by exact rfl) (hk : MW dd kv = true := by exact rfl) (hs : ez H (mq dd b es) R := by repeat (first | exact ez.here | apply ez.there)) (hdn : Nat.blt d n = true := by exact rfl) : G n ds F (fun a w => o.wp P a w K Q) σ H :=
 nP hd hdn (fun a w en s => by
  obtain ⟨hh, p, hl⟩ := (s.qK hs).get
  simp [execOp, ho, en.eval hm, en.eval hx, vk ht hk p hl]) h
theorem oQd {t k e : TypeId} {dd : TypeDesc} {z : Value} {m x : Operand} {b : Nat} {es : List (Value × Value)} {kv : Value} {f : aa → List aa} {t2 : TypeId} (ht : ue P t = some (k, dd, e, z)) (h : G n ds F K σ (f (mq dd b (Ch es kv)))) (ho : o.op = .call { callee := .builtin .delete, args := #[m, x], argTypes := #[t, t2] } := by exact rfl) (hd : o.dst = none := by exact rfl)
  (hm : bd σ m = some (.map (some b)) := by exact rfl) (hx : bd σ x = some kv := by exact rfl) (hk : MW dd kv = true := by exact rfl) (hu : Pos H (mq dd b es) f := by repeat (first | exact Pos.here | apply Pos.there)) : G n ds F (fun a w => o.wp P a w K Q) σ H := by
 classical
 refine .mk fun a w en s => ?_
 obtain ⟨MZ, xO, _, _, _⟩ := mL ht
 obtain ⟨R, s1, s2⟩ := hu.qK
 have sR := s.qK s1
 obtain ⟨hh, ⟨dx, mU, he, Hz, jA, hb⟩, hl⟩ := sR.get
 have hw : w.heap[b]? = some (.map dx mU) := hl _ _ hb
 have same : { w with heap := w.heap.setIfInBounds b (.map dx mU) } = w := by
  have cJ := (Array.getElem?_eq_some_iff.1 hw).1
  have : w.heap.setIfInBounds b (.map dx mU) = w.heap := by
   apply Array.ext_getElem?
   intro i
   rw [Array.getElem?_setIfInBounds]
   split
   ·rename_i q; subst q; rw [hw]
   rfl
  rw [this]
 unfold Oper.wp
 rcases xn (gB hk) Hz with ⟨Ac, nC⟩ | ⟨j, HE, Ac, hj, ow⟩
 ·have : (execOp a.eval o).run P w = .ok (.value (.tuple #[])) w := by
   simp [execOp, ho, resolve, invoke, builtin, Builtin.delete_, en.eval hm, en.eval hx, run_underlying MZ, MapKept.run_getObj_map hw, MapKept.run_checkKey xO (gB hk), MapKept.run_findKey xO Ac, MapKept.run_setObj_map _ hw, Result.andThen, same]
  rw [this, Oper.upon_value, hd]
  rw [he] at nC
  have nE : Ch es kv = es := by
   unfold Ch
   rw [List.filter_eq_self]
   intro e' HA; simpa using nC e' HA
  rw [nE] at h
  exact h _ _ en (by
   have := St.ni (s2 (mq dd b es)) sR
   exact this)
 have cJ := (Array.getElem?_eq_some_iff.1 hj).1
 have : (execOp a.eval o).run P w = .ok (.value (.tuple #[])) { w with heap := w.heap.setIfInBounds b (.map (dx.eraseIdxIfInBounds j) mU) } := by
  simp [execOp, ho, resolve, invoke, builtin, Builtin.delete_, en.eval hm, en.eval hx, run_underlying MZ, MapKept.run_getObj_map hw, MapKept.run_checkKey xO (gB hk), MapKept.run_findKey xO Ac, MapKept.run_setObj_map _ hw, Result.andThen]
 rw [this, Oper.upon_value, hd]
 have H7 : (dx.eraseIdxIfInBounds j).toList.map (fun e => (e.key, e.val)) = Ch es kv := by
  have e1 : (dx.eraseIdxIfInBounds j).toList = dx.toList.eraseIdx j := by
   unfold Array.eraseIdxIfInBounds; rw [dif_pos cJ]; simp
  rw [e1, ← he]
  have uB : (dx.toList.map (·.key)).Nodup := jA.2.2
  have hg : dx.toList[j]? = some HE := by simpa using hj
  clear Ac jA Hz hb hw hl he this e1 same
  clear hj cJ
  generalize dx.toList = l at *
  induction l generalizing j with
  | nil => simp at hg
  | cons x l ih =>
   simp only [List.map_cons, List.nodup_cons] at uB
   cases j with
   | zero =>
    simp at hg; subst hg
    simp only [List.eraseIdx_cons_zero, List.map_cons, Ch]
    rw [List.filter_cons_of_neg (by simp [ow])]
    symm
    rw [List.filter_eq_self]
    intro e' HA
    obtain ⟨y, hy, rfl⟩ := List.mem_map.1 HA
    have : y.key ≠ x.key := fun q => uB.1 (List.mem_map.2 ⟨y, hy, q⟩)
    simpa [← ow] using this
   | succ j =>
    simp at hg
    have Xb : x.key ≠ kv := fun q => uB.1 (List.mem_map.2 ⟨HE, List.mem_of_getElem? hg, ow.trans q.symm⟩)
    simp only [List.eraseIdx_cons_succ, List.map_cons, Ch]
    rw [List.filter_cons_of_pos (by simpa using Xb)]
    congr 1
    exact ih j uB.2 hg
 refine h _ _ en (St.ni (s2 _) (sR.NO (fun h' p => by obtain ⟨_, _, _, _, _, q⟩ := p; exact ⟨_, q⟩) (.mk _ mU H7 (fun q hq => Hz q ?_) (stamped_erase jA j) (by simp))))
 unfold Array.eraseIdxIfInBounds at hq
 rw [dif_pos cJ] at hq
 exact (List.eraseIdx_sublist _ _).subset (by simpa using hq)
end
end Go.cQ
namespace Go.cQ
open Go Go.MapKept
section
variable {P : Program} {n : Nat} {ds : List Deferred} {F : c9} {Q : Exit → Act → World → Prop} {K : Act → World → Prop} {σ : aS} {H : List aa} {o : Oper} {d : Nat}
end
end Go.cQ
namespace Go.cQ
open Go
theorem Bw {A : aa} {L H : List aa} {h : Hp} (s : aj (aE (A :: L) :: H) h) : aj (A :: aE L :: H) h := by
 obtain ⟨h1, h2, d, l1, l2, ⟨h3, h4, d', l3, l4, a, s1⟩, s2⟩ := s
 refine ⟨h3, fj h4 h2, ?_, l3.trans l1, bS (l4.trans l1) l2, a, h4, h2, d.left l4, ba _ _, aV (d.left l4), s1, s2⟩
 exact (bK.fj d'.symm (d.left l3).symm).symm
theorem tD {A : aa} {L H : List aa} {h : Hp} (s : aj (A :: aE L :: H) h) : aj (aE (L ++ [A]) :: H) h := by
 have s := cV s
 have : aj (aE L :: ([A] ++ H)) h := s
 exact Bv this
section
variable {P : Program} {n : Nat} {ds : List Deferred} {F : c9} {Q : Exit → Act → World → Prop} {K : Act → World → Prop} {σ : aS} {H : List aa} {o : Oper} {d : Nat}
theorem EM {α : Type} {f : α → aa} {X : α → Hp → Prop} (hx : ∀ a k, f a k → X a k) (hm : ∀ a k l, X a k → Le k l → X a l) : ∀ (L : List α) (h : Hp), aj (L.map f) h → ∀ a ∈ L, X a h := by
 intro L
 induction L with
 | nil => intro h _ a ha; cases ha
 | cons b r ih =>
  intro h s a ha
  obtain ⟨h1, h2, d, l1, l2, p, s2⟩ := s
  rcases List.mem_cons.1 ha with rfl | ha
  ·exact hm _ _ _ (hx _ _ p) l1
  exact hm _ _ _ (ih h2 s2 a ha) l2
theorem KZ {a : Option Addr} {cap e sz : Nat} {xs : List Value} {R : List aa} {w : World} (s : St F (own a cap e sz xs :: R) w) :
  (a = none ∧ cap = 0 ∧ xs = []) ∨ ∃ b sp, a = some ⟨b, 0, none⟩ ∧ xs.length + sp.length = cap * sz ∧ cap ≤ maxLen ∧ St F (af b e (xs ++ sp) :: R) w := by
 obtain ⟨a1, a2, a3, fr, h, ⟨h1, h2, dd, l1, l2, ⟨q1, q2, q3 | ⟨b, sp, rfl, q4, q5⟩⟩, st⟩, y, zz⟩ := s
 ·obtain ⟨rfl, rfl⟩ := q3
  exact .inl ⟨rfl, rfl, List.eq_nil_of_length_eq_zero (by omega)⟩
 exact .inr ⟨b, sp, rfl, q4, q2, a1, a2, a3, fr, h, ⟨h1, h2, dd, l1, l2, q5, st⟩, y, zz⟩
theorem GZ {b cap e sz : Nat} {xs sp : List Value} {R : List aa} {w : World} (hl : xs.length + sp.length = cap * sz) (hm : cap ≤ maxLen) (s : St F (af b e (xs ++ sp) :: R) w) : St F (own (some ⟨b, 0, none⟩) cap e sz xs :: R) w :=
 s.sub fun _ s' => aY (fun _ p => ⟨by omega, hm, .inr ⟨b, sp, rfl, hl, p⟩⟩) s'
theorem OQ {a : Option Addr} {cap e sz : Nat} {xs ys : List Value} {h : Hp} (o : own a cap e sz (xs ++ ys) h) : own a cap e sz xs h := by
 have := sX o xs.length
 rwa [List.take_left] at this
theorem oSON {t k' : TypeId} {x y : Operand} {a : Option Addr} {j cap e sz : Nat} {cells vs : List Value} {f : aa → List aa} (hs : cn P t = some k') (h : G n ds F K σ (f (own a cap e sz (db cells j vs)))) (ho : o.op = .store t x y := by exact rfl) (hd : o.dst = none := by exact rfl)
  (hx : bd σ x = some (.pointer (a.map (·.add j))) := by exact rfl) (hy : bd σ y = some (.agg vs.toArray) := by exact rfl) (hk : vs.length = k' := by exact rfl) (h1 : ∀ v ∈ vs, v.oneCell' = true := by simp [db, Value.cells, Value.oneCell', bC])
  (hu : Pos H (own a cap e sz cells) f := by repeat (first | exact Pos.here | apply Pos.there)) (hj : j + vs.length ≤ cells.length := by first | omega | (simp; omega)) (h0 : 0 < vs.length := by first | omega | (simp; done) | (simp; omega)) : G n ds F (fun a w => o.wp P a w K Q) σ H := by
 refine .mk fun ac w en s => ?_
 obtain ⟨R, s1, s2⟩ := hu.qK
 rcases KZ (s.qK s1) with ⟨rfl, rfl, rfl⟩ | ⟨b, sp, rfl, q4, q2, st⟩
 ·simp only [List.length_nil] at hj; omega
 obtain ⟨w', hr, s'⟩ := gU (P := P) vs j 0 (cells ++ sp) w st (by rw [List.length_append]; omega) h1
 unfold Oper.wp
 have : (execOp ac.eval o).run P w = .ok .skip w' := by
  simp [execOp, ho, en.eval hx, en.eval hy, Instr.storeAt, Instr.sureAddr, storeVar, (dH hs).2, Value.cells, hk, add_lit, hr]
 rw [this, Oper.upon_skip, hd]
 refine h _ _ en (St.ni (s2 _) (GZ (b := b) (sp := sp) ?_ q2 ?_))
 ·rw [qE]; exact q4
 have e : db (cells ++ sp) j vs = db cells j vs ++ sp := by
  rw [jH (by rw [List.length_append]; omega), jH hj, List.take_append_of_le_length (by omega), List.drop_append_of_le_length (by omega)]
  simp
 have s'' := s'
 simp only [Nat.add_zero] at s''
 rw [e] at s''
 exact s''
def NA (a : Option Addr) (c e sz : Nat) (pre news : List Value) (g : Option Addr) (gc : Nat) : aa := fun h =>
 ((g = a ∧ gc = c) ∧ own a c e sz (pre ++ news) h) ∨ ∃ ys, aE [own g gc e sz (pre ++ news), own a c e sz (pre ++ ys)] h
end
end Go.cQ
