/- The engine: a region that draws its order, walked in the text's order alone, where all that is left unordered can be exchanged. -/
import Derived.Test.YtncmmhfgcgnojaaEngM
namespace Go.Eng
open Go

def NoQ : Exit → Act → World → Prop := fun _ _ _ => False
def wpO (P : Program) (ops : Array Oper) (o : Oper) (K : Act → World → Prop) (a : Act) (w : World) : Prop :=
  if Region.wanted o (yielded ops a.tmps) = true then o.wp P a w K NoQ else K (a.put o.dst undef) w
/-- in the text's order; 'true': it yields wherever S holds -/
def wpT (P : Program) (ops : Array Oper) (S : World → Prop) (Q : Act → World → Prop) : List (Nat × Bool × Oper) → Act → World → Prop
  | [], a, w => Q a w
  | (_, true, o) :: r, a, w => ∃ v, YieldsIf P ops S o v a ∧ wpT P ops S Q r (a.put o.dst v) w
  | (_, false, o) :: r, a, w => wpO P ops o (fun a' w' => S w' ∧ wpT P ops S Q r a' w') a w
def isLd (o : Oper) : Bool := match o.op with | .load _ _ => true | _ => false
def indep (ops : Array Oper) (x y : Nat × Bool × Oper) : Bool := x.2.2.apart ops y.2.2 && (x.2.1 || y.2.1 || (isLd x.2.2 && isLd y.2.2))

-- what only looks
inductive Still {α : Type} : Sem α → Prop
  | pure (a : α) : Still (.pure a)
  | load (m : Mode) (a : Addr) (k : Value → Sem α) (h : ∀ v, Still (k v)) : Still (.load m a k)
  | program (k : Program → Sem α) (h : ∀ p, Still (k p)) : Still (.program k)
  | halt (x : Halt) : Still (.halt x)
theorem Still.bind {α β : Type} {s : Sem α} {f : α → Sem β} (h : Still s) (hf : ∀ a, Still (f a)) : Still (s.bind f) := by
  induction h with
  | pure a => exact hf a
  | load m a k _ ih => exact .load m a _ ih
  | program k _ ih => exact .program _ ih
  | halt x => exact .halt x
theorem Still.run {α : Type} {s : Sem α} (h : Still s) (P : Program) (w : World) {r : α} {w' : World} (e : s.run P w = .ok r w') : w' = w := by
  induction h with
  | pure a => simp only [Sem.run] at e; cases e; rfl
  | load m a k _ ih =>
    simp only [Sem.run] at e
    split at e
    · exact ih _ e
    · split at e
      · exact ih _ e
      · cases e
  | program k _ ih => simp only [Sem.run] at e; exact ih _ e
  | halt x => simp only [Sem.run] at e; cases e
theorem still_load {ρ : Operand → Value} {o : Oper} (h : isLd o = true) : Still (execOp ρ o) := by
  unfold isLd at h
  split at h
  · rename_i t x ho
    have cells : ∀ (n : Nat) (a : Addr) (i : Nat) (acc : Array Value), Still (loadCellsFrom a i n acc) := by
      intro n
      induction n with
      | zero => intro a i acc; exact .pure _
      | succ n ih => intro a i acc; exact .load _ _ _ fun v => ih _ _ _
    have und : ∀ t, Still (underlying t) := fun t => by
      unfold underlying
      exact .program _ fun p => by simp only [Sem.bind]; split <;> first | exact .pure _ | exact .halt _
    have tin : ∀ t, Still (typeInfo t) := fun t => by
      unfold typeInfo
      exact .program _ fun p => by simp only [Sem.bind]; split <;> first | exact .pure _ | exact .halt _
    have hvar : ∀ a, Still (loadVar t a) := by
      intro a
      unfold loadVar
      refine Still.bind ?_ fun b => ?_
      · unfold isAgg
        exact (und t).bind fun d => by split <;> exact .pure _
      · split
        · refine Still.bind ?_ fun k => (Still.bind (cells _ _ _ _) fun c => .pure _)
          unfold sizeOf
          exact (tin t).bind fun _ => .pure _
        · exact .load _ _ _ fun v => .pure _
    unfold execOp
    rw [ho]
    refine Still.bind ?_ fun v => .pure _
    unfold Instr.loadAt
    refine Still.bind ?_ fun a => hvar a
    unfold Instr.sureAddr
    split
    · exact .pure _
    · exact .halt _
  · cases h
theorem ld_out {P : Program} {ρ : Operand → Value} {o : Oper} (h : isLd o = true) {w w' : World} {n : Next} (e : (execOp ρ o).run P w = .ok n w') : w' = w ∧ ∃ v, n = .value v := by
  refine ⟨(still_load h).run P w e, ?_⟩
  unfold isLd at h
  split at h
  · rename_i t x ho
    unfold execOp at e
    rw [ho] at e
    simp only [Sem.run_bind] at e
    cases hr : (Instr.loadAt t (ρ x)).run P w with
    | ok v w1 => rw [hr] at e; simp only [Result.andThen_ok, Sem.run_pure] at e; cases e; exact ⟨v, rfl⟩
    | halt x w1 => rw [hr] at e; cases e
  · cases h

section
variable {P : Program} {ops : Array Oper} {S : World → Prop} {Q : Act → World → Prop}
theorem noLets : ¬ LetsOut NoQ := fun ⟨_, _, h⟩ => h
/-- what it yields is one -/
theorem yi_one {o : Oper} {u v : Value} {a : Act} {w : World} (hS : S w) (h1 : YieldsIf P ops S o u a) (h2 : YieldsIf P ops S o v a) : v = u := by
  rcases h1 with ⟨w1, e1⟩ | ⟨w1, rfl⟩ <;> rcases h2 with ⟨w2, e2⟩ | ⟨w2, rfl⟩
  · have := (e1 w hS).symm.trans (e2 w hS); cases this; rfl
  · rw [w1] at w2; cases w2
  · rw [w1] at w2; cases w2
  · rfl
theorem wpO_mono {o : Oper} {K K' : Act → World → Prop} (f : ∀ a w, K a w → K' a w) {a : Act} {w : World} (h : wpO P ops o K a w) : wpO P ops o K' a w := by
  unfold wpO at *
  split
  · rename_i hw; rw [if_pos hw] at h; exact Oper.wp_mono f h
  · rename_i hw; rw [if_neg hw] at h; exact f _ _ h
/-- an operation that yields, put behind one that acts -/
theorem wpO_behind {x k : Oper} (hap : k.apart ops x = true) (hsx : ∀ cs b, x.op ≠ .select cs b) (hsk : ∀ cs b, k.op ≠ .select cs b) {K K2 : Act → World → Prop} {a : Act} {w : World} (hS : S w)
    (hK : ∀ a' w', K a' w' → ∃ v, YieldsIf P ops S x v a' ∧ K2 (a'.put x.dst v) w') (h : wpO P ops k K a w) : ∃ v, YieldsIf P ops S x v a ∧ wpO P ops k K2 (a.put x.dst v) w := by
  obtain ⟨h1, h2, h3⟩ := Oper.apart_spec hap
  have back : ∀ (u v : Value), YieldsIf P ops S x v (a.put k.dst u) → YieldsIf P ops S x v a := fun u v hy =>
    hy.of_same (execOp_put x hsx a k.dst u h1).symm (wanted_put x a k.dst u h1).symm
  unfold wpO at h
  split at h
  · rename_i hw
    have key : ∃ v, YieldsIf P ops S x v a := by
      unfold Oper.wp at h
      generalize (execOp a.eval k).run P w = r at h
      cases r with
      | ok n w' =>
        cases n <;> simp only [Oper.upon] at h
        case value u => obtain ⟨v, hv, _⟩ := hK _ _ h; exact ⟨v, back u v hv⟩
        case skip => obtain ⟨v, hv, _⟩ := hK _ _ h; exact ⟨v, back _ v hv⟩
        case defer d =>
          obtain ⟨v, hv, _⟩ := hK _ _ h
          exact ⟨v, (back undef v (hv.of_same (a' := a.put k.dst undef) (by cases k.dst <;> rfl) (by cases k.dst <;> rfl)))⟩
        case enter f args =>
          obtain ⟨e, w2, fr, he, _⟩ := h []
          cases e with
          | returned u => obtain ⟨v, hv, _⟩ := hK _ _ he; exact ⟨v, back u v hv⟩
          | panicked c => exact he.elim
          | outgrown => exact (noLets he).elim
        case row row args =>
          obtain ⟨u, w2, he, _⟩ := h default []
          obtain ⟨v, hv, _⟩ := hK _ _ he; exact ⟨v, back u v hv⟩
      | halt y w' => cases y <;> simp only [Oper.upon] at h <;> exact h.elim
    obtain ⟨v, hv⟩ := key
    refine ⟨v, hv, ?_⟩
    have same : ∀ (u v' : Value), YieldsIf P ops S x v' (a.put k.dst u) → v' = v := fun u v' hy => yi_one hS hv (back u v' hy)
    unfold wpO
    rw [wanted_put k a x.dst v (fun d hd => h3 d hd), if_pos hw]
    unfold Oper.wp at *
    rw [execOp_put k hsk a x.dst v (fun d hd => h3 d hd)]
    have hcm : ∀ u : Value, (a.put k.dst u).put x.dst v = (a.put x.dst v).put k.dst u := fun u => Act.put_comm a u v h2
    generalize (execOp a.eval k).run P w = r at *
    cases r with
    | ok n w' =>
      cases n <;> simp only [Oper.upon] at h ⊢
      case value u => obtain ⟨v', hv', hk⟩ := hK _ _ h; rw [← hcm, ← same u v' hv']; exact hk
      case skip => obtain ⟨v', hv', hk⟩ := hK _ _ h; rw [← hcm, ← same _ v' hv']; exact hk
      case defer d =>
        obtain ⟨v', hv', hk⟩ := hK _ _ h
        have hv2 : YieldsIf P ops S x v' (a.put k.dst undef) := hv'.of_same (by cases k.dst <;> rfl) (by cases k.dst <;> rfl)
        rw [same _ v' hv2] at hk
        have e1 : ({ a with defers := d :: a.defers } : Act).put x.dst v = ({ a.put x.dst v with defers := d :: (a.put x.dst v).defers } : Act) := (Act.put_defers a x.dst v d).symm
        rw [Act.put_comm _ undef v h2, e1] at hk
        exact hk
      case enter f args =>
        refine Calls.mono h fun e w'' he => ?_
        cases e with
        | returned u => obtain ⟨v', hv', hk⟩ := hK _ _ he; show K2 _ _; rw [← hcm, ← same u v' hv']; exact hk
        | panicked c => exact he
        | outgrown => exact he
      case row row args => exact Rows.mono h fun u w'' he => by obtain ⟨v', hv', hk⟩ := hK _ _ he; rw [← hcm, ← same u v' hv']; exact hk
    | halt y w' => cases y <;> simp only [Oper.upon] at h ⊢ <;> exact h
  · rename_i hw
    obtain ⟨v, hv, hk⟩ := hK _ _ h
    refine ⟨v, back _ v hv, ?_⟩
    unfold wpO
    rw [wanted_put k a x.dst v (fun d hd => h3 d hd), if_neg hw, ← Act.put_comm a undef v h2]
    exact hk
/-- an operation that acts, put before one that yields -/
theorem wpO_before {x k : Oper} (hap : k.apart ops x = true) (hsx : ∀ cs b, x.op ≠ .select cs b) (hsk : ∀ cs b, k.op ≠ .select cs b) {K : Act → World → Prop} {a : Act} {w : World} {u : Value} (hy : YieldsIf P ops S k u a)
    (h : wpO P ops x K (a.put k.dst u) w) : wpO P ops x (fun a' w' => YieldsIf P ops S k u a' ∧ K (a'.put k.dst u) w') a w := by
  obtain ⟨h1, h2, h3⟩ := Oper.apart_spec hap
  have keep : ∀ z : Value, YieldsIf P ops S k u (a.put x.dst z) := fun z => hy.of_same (execOp_put k hsk a x.dst z h3) (wanted_put k a x.dst z h3)
  unfold wpO at *
  rw [wanted_put x a k.dst u h1] at h
  split
  · rename_i hw
    rw [if_pos hw] at h
    unfold Oper.wp at *
    rw [execOp_put x hsx a k.dst u h1] at h
    have hcm : ∀ z : Value, (a.put k.dst u).put x.dst z = (a.put x.dst z).put k.dst u := fun z => Act.put_comm a u z h2
    generalize (execOp a.eval x).run P w = r at *
    cases r with
    | ok n w' =>
      cases n <;> simp only [Oper.upon] at h ⊢
      case value z => exact ⟨keep z, by rw [← hcm]; exact h⟩
      case skip => exact ⟨keep _, by rw [← hcm]; exact h⟩
      case defer d =>
        refine ⟨(keep undef).of_same (by cases x.dst <;> rfl) (by cases x.dst <;> rfl), ?_⟩
        rw [← Act.put_comm _ u undef h2, ← Act.put_defers]
        exact h
      case enter f args =>
        refine Calls.mono h fun e w'' he => ?_
        cases e with
        | returned z => exact ⟨keep z, by rw [← hcm]; exact he⟩
        | panicked c => exact he
        | outgrown => exact he
      case row row args => exact Rows.mono h fun z w'' he => ⟨keep z, by rw [← hcm]; exact he⟩
    | halt y w' => cases y <;> simp only [Oper.upon] at h ⊢ <;> exact h
  · rename_i hw
    rw [if_neg hw, Act.put_comm a u undef h2] at h
    exact ⟨keep _, h⟩

def NoSel (l : List (Nat × Bool × Oper)) : Prop := ∀ x ∈ l, ∀ cs b, x.2.2.op ≠ .select cs b
theorem mvR {i : Nat} {o : Oper} {post : List (Nat × Bool × Oper)} : ∀ (pre : List (Nat × Bool × Oper)) (a : Act) (w : World), (∀ k ∈ pre, indep ops k (i, true, o) = true) → NoSel pre → (∀ cs b, o.op ≠ .select cs b) → S w →
    wpT P ops S Q (pre ++ (i, true, o) :: post) a w → ∃ v, YieldsIf P ops S o v a ∧ wpT P ops S Q (pre ++ post) (a.put o.dst v) w := by
  intro pre
  induction pre with
  | nil => intro a w _ _ _ _ h; exact h
  | cons k pre ih =>
    obtain ⟨j, fl, ok⟩ := k
    intro a w hi hs hso hS h
    have hk := hi _ (List.mem_cons_self ..)
    simp only [indep, Bool.and_eq_true] at hk
    have hap := hk.1
    obtain ⟨h1, h2, h3⟩ := Oper.apart_spec hap
    have hsk := hs _ (List.mem_cons_self ..)
    have hi' : ∀ k ∈ pre, indep ops k (i, true, o) = true := fun k hk => hi k (List.mem_cons_of_mem _ hk)
    have hs' : NoSel pre := fun k hk => hs k (List.mem_cons_of_mem _ hk)
    cases fl with
    | true =>
      simp only [List.cons_append, wpT] at h ⊢
      obtain ⟨u, hu, h⟩ := h
      obtain ⟨v, hv, h⟩ := ih _ _ hi' hs' hso hS h
      refine ⟨v, hv.of_same (execOp_put o hso a ok.dst u h1).symm (wanted_put o a ok.dst u h1).symm, u, hu.of_same (execOp_put ok hsk a o.dst v h3) (wanted_put ok a o.dst v h3), ?_⟩
      rw [← Act.put_comm a u v h2]; exact h
    | false =>
      simp only [List.cons_append, wpT] at h ⊢
      exact wpO_behind hap hso hsk hS (fun a' w' hh => by
        obtain ⟨v, hv, h⟩ := ih _ _ hi' hs' hso hh.1 hh.2
        exact ⟨v, hv, hh.1, h⟩) h
theorem mvW {i : Nat} {o : Oper} {post : List (Nat × Bool × Oper)} : ∀ (pre : List (Nat × Bool × Oper)) (a : Act) (w : World), (∀ k ∈ pre, indep ops k (i, false, o) = true) → NoSel pre → (∀ cs b, o.op ≠ .select cs b) → S w →
    wpT P ops S Q (pre ++ (i, false, o) :: post) a w → wpO P ops o (fun a' w' => S w' ∧ wpT P ops S Q (pre ++ post) a' w') a w := by
  intro pre
  induction pre with
  | nil => intro a w _ _ _ _ h; exact h
  | cons k pre ih =>
    obtain ⟨j, fl, ok⟩ := k
    intro a w hi hs hso hS h
    have hk := hi _ (List.mem_cons_self ..)
    simp only [indep, Bool.and_eq_true] at hk
    have hap := hk.1
    obtain ⟨h1, h2, h3⟩ := Oper.apart_spec hap
    have hsk := hs _ (List.mem_cons_self ..)
    have hi' : ∀ k ∈ pre, indep ops k (i, false, o) = true := fun k hk => hi k (List.mem_cons_of_mem _ hk)
    have hs' : NoSel pre := fun k hk => hs k (List.mem_cons_of_mem _ hk)
    cases fl with
    | true =>
      simp only [List.cons_append, wpT] at h ⊢
      obtain ⟨u, hu, h⟩ := h
      have h := ih _ _ hi' hs' hso hS h
      exact wpO_mono (fun a' w' hh => ⟨hh.2.1, u, hh.1, hh.2.2⟩) (wpO_before hap hso hsk hu h)
    | false =>
      have hl := hk.2
      simp only [Bool.or_self, Bool.false_or, Bool.and_eq_true] at hl
      simp only [List.cons_append, wpT] at h ⊢
      -- both look
      have look : ∀ {y : Oper} {a : Act} {w : World} {K : Act → World → Prop}, isLd y = true → (wpO P ops y K a w ↔ ((Region.wanted y (yielded ops a.tmps) = true ∧ ∃ v, (execOp a.eval y).run P w = .ok (.value v) w ∧ K (a.put y.dst v) w) ∨ (Region.wanted y (yielded ops a.tmps) = false ∧ K (a.put y.dst undef) w))) := by
        intro y a w K hy
        unfold wpO
        cases hw : Region.wanted y (yielded ops a.tmps) with
        | false => simp
        | true =>
          simp only [if_true, true_and, Bool.true_eq_false, false_and, or_false]
          unfold Oper.wp
          cases hr : (execOp a.eval y).run P w with
          | ok n w' =>
            obtain ⟨rfl, v, rfl⟩ := ld_out hy hr
            simp only [Oper.upon_value]
            exact ⟨fun h => ⟨v, rfl, h⟩, fun ⟨v', e, h⟩ => by cases e; exact h⟩
          | halt z w' =>
            cases z <;> simp [Oper.upon, NoQ]
      rw [look hl.1] at h
      rw [look hl.2]
      have fin : ∀ u : Value, S w ∧ wpT P ops S Q (pre ++ (i, false, o) :: post) (a.put ok.dst u) w → (∀ z, wpO P ops ok (fun a' w' => S w' ∧ wpT P ops S Q (pre ++ post) a' w') (a.put o.dst z) w ↔ wpO P ops ok (fun a' w' => S w' ∧ wpT P ops S Q (pre ++ post) a' w') (a.put o.dst z) w) →
          ((Region.wanted o (yielded ops a.tmps) = true ∧ ∃ z, (execOp a.eval o).run P w = .ok (.value z) w ∧ (S w ∧ wpT P ops S Q (pre ++ post) ((a.put ok.dst u).put o.dst z) w)) ∨ (Region.wanted o (yielded ops a.tmps) = false ∧ (S w ∧ wpT P ops S Q (pre ++ post) ((a.put ok.dst u).put o.dst undef) w))) := by
        intro u hh _
        have h' := ih _ _ hi' hs' hso hh.1 hh.2
        rw [look hl.2, execOp_put o hso a ok.dst u h1, wanted_put o a ok.dst u h1] at h'
        exact h'
      have put : ∀ (z : Value), (∀ u, wpT P ops S Q (pre ++ post) ((a.put ok.dst u).put o.dst z) w → wpT P ops S Q (pre ++ post) ((a.put o.dst z).put ok.dst u) w) := fun z u hh => by rw [← Act.put_comm a u z h2]; exact hh
      rcases h with ⟨hw, u, hu, hh⟩ | ⟨hw, hh⟩
      · rcases fin u hh (fun _ => Iff.rfl) with ⟨hwo, z, hz, hS', h'⟩ | ⟨hwo, hS', h'⟩
        · refine .inl ⟨hwo, z, hz, hS, ?_⟩
          rw [look hl.1, execOp_put ok hsk a o.dst z h3, wanted_put ok a o.dst z h3]
          exact .inl ⟨hw, u, hu, hS, put _ _ h'⟩
        · refine .inr ⟨hwo, hS, ?_⟩
          rw [look hl.1, execOp_put ok hsk a o.dst undef h3, wanted_put ok a o.dst undef h3]
          exact .inl ⟨hw, u, hu, hS, put _ _ h'⟩
      · rcases fin undef hh (fun _ => Iff.rfl) with ⟨hwo, z, hz, hS', h'⟩ | ⟨hwo, hS', h'⟩
        · refine .inl ⟨hwo, z, hz, hS, ?_⟩
          rw [look hl.1, execOp_put ok hsk a o.dst z h3, wanted_put ok a o.dst z h3]
          exact .inr ⟨hw, hS, put _ _ h'⟩
        · refine .inr ⟨hwo, hS, ?_⟩
          rw [look hl.1, execOp_put ok hsk a o.dst undef h3, wanted_put ok a o.dst undef h3]
          exact .inr ⟨hw, hS, put _ _ h'⟩

-- what comes ahead of what
inductive Anc (ops : Array Oper) : Nat → Nat → Prop
  | one {i : Nat} {o : Oper} {e : Edge} (ho : ops[i]? = some o) (he : e ∈ o.after) (hb : Region.binds .any e = true) : Anc ops e.on i
  | more {i k : Nat} {o : Oper} {e : Edge} (ho : ops[i]? = some o) (he : e ∈ o.after) (hb : Region.binds .any e = true) (h : Anc ops k e.on) : Anc ops k i
def msk (acc : List Nat) (o : Oper) : Nat := o.after.toList.foldl (fun s e => if Region.binds .any e = true then s ||| 2 ^ e.on ||| acc.getD e.on 0 else s) 0
def masks : List Oper → List Nat → List Nat
  | [], acc => acc
  | o :: r, acc => masks r (acc ++ [msk acc o])
theorem msk_spec {i : Nat} {o : Oper} (ho : ops[i]? = some o) {acc : List Nat} (hacc : ∀ j k, (acc.getD j 0).testBit k = true → Anc ops k j) (k : Nat) (h : (msk acc o).testBit k = true) : Anc ops k i := by
  have key : ∀ (l : List Edge) (s : Nat), (∀ e ∈ l, e ∈ o.after) → (∀ k, s.testBit k = true → Anc ops k i) → ∀ k, (l.foldl (fun s e => if Region.binds .any e = true then s ||| 2 ^ e.on ||| acc.getD e.on 0 else s) s).testBit k = true → Anc ops k i := by
    intro l
    induction l with
    | nil => intro s _ hs k hk; exact hs k hk
    | cons e l ih =>
      intro s hl hs k hk
      rw [List.foldl_cons] at hk
      refine ih _ (fun e' h' => hl e' (List.mem_cons_of_mem _ h')) (fun k' hk' => ?_) k hk
      split at hk'
      · rename_i hb
        rw [Nat.testBit_or, Nat.testBit_or] at hk'
        simp only [Bool.or_eq_true] at hk'
        rcases hk' with (h1 | h1) | h1
        · exact hs _ h1
        · rw [Nat.testBit_two_pow] at h1
          simp only [decide_eq_true_eq] at h1
          subst h1
          exact .one ho (hl e (List.mem_cons_self ..)) hb
        · exact .more ho (hl e (List.mem_cons_self ..)) hb (hacc _ _ h1)
      · exact hs _ hk'
  exact key o.after.toList 0 (fun e he => by simpa using he) (fun k hk => by simp at hk) k h
theorem masks_spec : ∀ (l : List Oper) (acc : List Nat), (∀ j o, l[j]? = some o → ops[acc.length + j]? = some o) → (∀ j k, (acc.getD j 0).testBit k = true → Anc ops k j) → ∀ j k, ((masks l acc).getD j 0).testBit k = true → Anc ops k j := by
  intro l
  induction l with
  | nil => intro acc _ h; exact h
  | cons o l ih =>
    intro acc hl hacc
    refine ih _ (fun j o' hj => ?_) (fun j k hjk => ?_)
    · have := hl (j + 1) o' (by simpa using hj)
      rw [List.length_append, List.length_singleton, show acc.length + 1 + j = acc.length + (j + 1) from by omega]; exact this
    · rcases Nat.lt_trichotomy j acc.length with hlt | heq | hgt
      · refine hacc j k ?_
        simpa [List.getD_eq_getElem?_getD, List.getElem?_append_left hlt] using hjk
      · subst heq
        refine msk_spec (by simpa using hl 0 o rfl) hacc k ?_
        simpa [List.getD_eq_getElem?_getD] using hjk
      · have hz : (acc ++ [msk acc o])[j]? = none := List.getElem?_eq_none (by simp; omega)
        rw [List.getD_eq_getElem?_getD, hz] at hjk; simp at hjk
def prs (ops : Array Oper) (m : List Nat) : List (Nat × Bool × Oper) → Bool
  | [] => true
  | x :: r => r.all (fun y => (m.getD y.1 0).testBit x.1 || indep ops x y) && prs ops m r
theorem prs_spec {m : List Nat} (hm : ∀ j k, (m.getD j 0).testBit k = true → Anc ops k j) : ∀ l, prs ops m l = true → l.Pairwise fun x y => Anc ops x.1 y.1 ∨ indep ops x y = true := by
  intro l
  induction l with
  | nil => intro _; exact .nil
  | cons x r ih =>
    intro h
    simp only [prs, Bool.and_eq_true, List.all_eq_true, Bool.or_eq_true] at h
    exact .cons (fun y hy => (h.1 y hy).imp (hm _ _) id) (ih h.2)
/-- what has not come up yet -/
structure TInv (ops : Array Oper) (listed : Array Bool) (rem : List (Nat × Bool × Oper)) : Prop where
  at_ : ∀ x ∈ rem, ops[x.1]? = some x.2.2
  un : ∀ x ∈ rem, listed.getD x.1 true = false
  all : ∀ j, j < ops.size → listed.getD j true = false → ∃ x ∈ rem, x.1 = j
  once : (rem.map (·.1)).Nodup
  size : listed.size = ops.size
  shut : ∀ j o e, ops[j]? = some o → listed.getD j false = true → e ∈ o.after → Region.binds .any e = true → listed.getD e.on false = true
theorem anc_listed {listed : Array Bool} (shut : ∀ j o e, ops[j]? = some o → listed.getD j false = true → e ∈ o.after → Region.binds .any e = true → listed.getD e.on false = true) {k i : Nat} (h : Anc ops k i)
    (hi : ∀ o, ops[i]? = some o → ∀ e ∈ o.after, Region.binds .any e = true → listed.getD e.on false = true) : listed.getD k false = true := by
  induction h with
  | one ho he hb => exact hi _ ho _ he hb
  | more ho he hb _ ih =>
    have h1 := hi _ ho _ he hb
    exact ih fun o' ho' e' he' hb' => shut _ _ _ ho' h1 he' hb'
theorem getD_true_false {listed : Array Bool} {j : Nat} (h1 : listed.getD j true = false) (h2 : listed.getD j false = true) : False := by
  by_cases h : j < listed.size
  · simp [h] at h1 h2; rw [h1] at h2; cases h2
  · simp [Array.getElem?_eq_none (Nat.le_of_not_lt h)] at h2
theorem wpO_wpOp {Q : Exit → Act → World → Prop} {i : Nat} {o : Oper} (hi : ops[i]? = some o) {K : Act → World → Prop} {a : Act} {w : World} (h : wpO P ops o K a w) : wpOp P ops Q i K a w := by
  unfold wpO at h
  unfold wpOp
  simp only [hi]
  split
  · rename_i hw
    rw [if_pos hw] at h
    refine .inl ?_
    unfold Oper.wp at *
    generalize (execOp a.eval o).run P w = r at *
    cases r with
    | ok n w' =>
      cases n <;> simp only [Oper.upon] at h ⊢
      case value u => exact h
      case skip => exact h
      case defer d => exact h
      case enter f args =>
        refine Calls.mono h fun e w'' he => ?_
        cases e with
        | returned z => exact he
        | panicked c => exact he.elim
        | outgrown => exact (noLets he).elim
      case row row args => exact h
    | halt y w' => cases y <;> simp only [Oper.upon] at h ⊢ <;> exact h.elim
  · rename_i hw
    rw [if_neg hw] at h; exact h
theorem YieldsIf.wpO {o : Oper} {v : Value} {a : Act} {w : World} {K : Act → World → Prop} (hy : YieldsIf P ops S o v a) (hS : S w) (h : K (a.put o.dst v) w) : wpO P ops o K a w := by
  unfold Eng.wpO
  rcases hy with ⟨hw, hv⟩ | ⟨hw, rfl⟩
  · rw [if_pos hw]; simp only [Oper.wp, hv w hS, Oper.upon]; exact h
  · rw [if_neg (by simp [hw])]; exact h
theorem wpT_phase {WA : Nat → Array Bool → Act → World → Prop} {C : Act → World → Prop} {l2 : List (Nat × Bool × Oper)} {fuel0 : Nat} (hsel : Region.noSelect ops = true) (hback : ∀ j o e, ops[j]? = some o → e ∈ o.after → Region.binds .any e = true → e.on < j)
    (hstep : ∀ fuel listed a w, (∃ i, i ∈ Region.ready .any ops listed) → (∀ i ∈ Region.ready .any ops listed, ∃ o, ops[i]? = some o ∧ wpO P ops o (WA fuel (listed.setIfInBounds i true)) a w) → WA (fuel + 1) listed a w)
    (hC : ∀ listed, TInv ops listed l2 → ∀ a w, C a w → WA fuel0 listed a w) :
    ∀ (n : Nat) (rem : List (Nat × Bool × Oper)) (listed : Array Bool) (a : Act) (w : World), rem.length = n → TInv ops listed (rem ++ l2) → rem.Pairwise (fun x y => Anc ops x.1 y.1 ∨ indep ops x y = true) → (∀ x ∈ rem, ∀ y ∈ l2, Anc ops x.1 y.1) → S w →
      wpT P ops S C rem a w → WA (n + fuel0) listed a w := by
  intro n
  induction n with
  | zero =>
    intro rem listed a w hn hI _ _ _ h
    have : rem = [] := List.eq_nil_of_length_eq_zero hn
    subst this
    simpa using hC listed (by simpa using hI) a w h
  | succ n ih =>
    intro rem listed a w hn hI hP h12 hS h
    rw [show n + 1 + fuel0 = (n + fuel0) + 1 from by omega]
    have ready_anc : ∀ {i k : Nat}, i ∈ Region.ready .any ops listed → Anc ops k i → listed.getD k false = true := by
      intro i k hi hk
      obtain ⟨_, o, ho, hall⟩ := mem_ready.1 hi
      exact anc_listed hI.shut hk fun o' ho' e he hb => by rw [ho] at ho'; cases ho'; exact hall e he hb
    refine hstep _ _ _ _ ?_ (fun i hi => ?_)
    · -- something is ready: the least one
      cases hr0 : Region.ready .any ops listed with
      | cons i r => exact ⟨i, by simp⟩
      | nil =>
      exfalso
      have hr := hr0
      have hne : ∃ m, ∃ x ∈ rem ++ l2, x.1 = m := by
        cases rem with
        | nil => simp at hn
        | cons x r => exact ⟨x.1, x, by simp, rfl⟩
      obtain ⟨m0, hm0⟩ := hne
      have least : ∀ m, (∃ x ∈ rem ++ l2, x.1 = m) → False := by
        intro m
        induction m using Nat.strongRecOn with
        | _ m ihm =>
          rintro ⟨x, hx, rfl⟩
          have hrd : x.1 ∈ Region.ready .any ops listed := by
            refine mem_ready.2 ⟨hI.un x hx, x.2.2, hI.at_ x hx, fun e he hb => ?_⟩
            have hlt := hback _ _ _ (hI.at_ x hx) he hb
            have hxs : x.1 < ops.size := (Array.getElem?_eq_some_iff.1 (hI.at_ x hx)).1
            cases hq : listed.getD e.on false with
            | true => rfl
            | false =>
              exfalso
              have hl : listed.getD e.on true = false := by
                have : e.on < listed.size := by rw [hI.size]; omega
                simp [this] at hq ⊢; exact hq
              obtain ⟨y, hy, hy1⟩ := hI.all e.on (by omega) hl
              exact ihm e.on hlt ⟨y, hy, hy1⟩
          rw [hr] at hrd; cases hrd
      exact least m0 hm0
    · obtain ⟨hun, o, ho, hall⟩ := mem_ready.1 hi
      obtain ⟨x, hx, hx1⟩ := hI.all i (Array.getElem?_eq_some_iff.1 ho).1 hun
      have hxr : x ∈ rem := by
        rcases List.mem_append.1 hx with q | q
        · exact q
        · exfalso
          cases rem with
          | nil => simp at hn
          | cons y r =>
            have hA := h12 y (List.mem_cons_self ..) x q
            rw [hx1] at hA
            exact getD_true_false (hI.un y (by simp)) (ready_anc hi hA)
      obtain ⟨pre, post, rfl⟩ := List.append_of_mem hxr
      have hox : x.2.2 = o := by have := hI.at_ x hx; rw [hx1, ho] at this; cases this; rfl
      have hind : ∀ k ∈ pre, indep ops k x = true := by
        intro k hk
        have hkx := (List.pairwise_append.1 hP).2.2 k hk x (List.mem_cons_self ..)
        rcases hkx with q | q
        · exfalso
          rw [hx1] at q
          exact getD_true_false (hI.un k (by simp [hk])) (ready_anc hi q)
        · exact q
      have hns : NoSel (pre ++ x :: post ++ l2) := fun y hy cs b => Region.noSelect_spec hsel y.1 y.2.2 cs b (hI.at_ y hy)
      have hnp : NoSel pre := fun y hy => hns y (by simp [hy])
      have hxs := hns x hx
      have hI' : TInv ops (listed.setIfInBounds i true) ((pre ++ post) ++ l2) := by
        have hnd : i ∉ ((pre ++ post) ++ l2).map (·.1) := by
          have h0 := hI.once
          simp only [List.map_append, List.map_cons, List.append_assoc, List.cons_append] at h0
          rw [List.nodup_append] at h0
          obtain ⟨h1, h2, h3⟩ := h0
          rw [List.nodup_cons] at h2
          simp only [List.map_append, List.append_assoc, List.mem_append, not_or]
          rw [hx1] at h2
          simp only [List.mem_append, not_or] at h2
          refine ⟨fun hm => h3 i hm i (by simp [hx1]) rfl, h2.1.1, h2.1.2⟩
        have sub : ∀ y ∈ (pre ++ post) ++ l2, y ∈ pre ++ x :: post ++ l2 := fun y hy => by
          simp only [List.mem_append, List.mem_cons] at hy ⊢; grind
        have hne : ∀ y ∈ (pre ++ post) ++ l2, i ≠ y.1 := fun y hy e => hnd (List.mem_map.2 ⟨y, hy, e.symm⟩)
        have his : i < listed.size := by rw [hI.size]; exact (Array.getElem?_eq_some_iff.1 ho).1
        refine ⟨fun y hy => hI.at_ y (sub y hy), fun y hy => by rw [getD_set_ne true (hne y hy)]; exact hI.un y (sub y hy), fun j hj hl => ?_, ?_, by simp [hI.size], fun j o' e ho' hl he hb => ?_⟩
        · by_cases hji : i = j
          · subst hji; simp [his] at hl
          · rw [getD_set_ne true hji] at hl
            obtain ⟨y, hy, hy1⟩ := hI.all j hj hl
            refine ⟨y, ?_, hy1⟩
            simp only [List.mem_append, List.mem_cons] at hy ⊢
            rcases hy with (hy | rfl | hy) | hy
            · exact .inl (.inl hy)
            · exact absurd (hx1.symm.trans hy1) hji
            · exact .inl (.inr hy)
            · exact .inr hy
        · have h0 := hI.once
          refine List.Nodup.sublist ?_ h0
          refine List.Sublist.map _ (List.Sublist.append_right ?_ _)
          exact List.Sublist.append_left (List.sublist_cons_self ..) _
        · by_cases hji : i = j
          · subst hji; rw [ho] at ho'; cases ho'
            exact getD_set_true (hall e he hb)
          · rw [getD_set_ne false hji] at hl
            exact getD_set_true (hI.shut j o' e ho' hl he hb)
      have hlen : (pre ++ post).length = n := by simp at hn ⊢; omega
      have hP' : (pre ++ post).Pairwise fun x y => Anc ops x.1 y.1 ∨ indep ops x y = true := hP.sublist (List.Sublist.append_left (List.sublist_cons_self ..) _)
      have h12' : ∀ y ∈ pre ++ post, ∀ z ∈ l2, Anc ops y.1 z.1 := fun y hy z hz => h12 y (by simp only [List.mem_append, List.mem_cons] at hy ⊢; grind) z hz
      obtain ⟨xi, fl, xo⟩ := x
      simp only at hx1 hox
      subst hx1; subst hox
      cases fl with
      | true =>
        obtain ⟨v, hv, h'⟩ := mvR pre a w hind hnp hxs hS h
        exact ⟨xo, ho, YieldsIf.wpO hv hS (ih _ _ _ _ hlen hI' hP' h12' hS h')⟩
      | false => exact ⟨xo, ho, wpO_mono (fun a' w' hh => ih _ _ _ _ hlen hI' hP' h12' hh.1 hh.2) (mvW pre a w hind hnp hxs hS h)⟩

def tel (fl : List Bool) (ops : Array Oper) : List (Nat × Bool × Oper) := (List.range' 0 ops.toList.length).zip (fl.zip ops.toList)
def txOk (k : Nat) (fl : List Bool) (ops : Array Oper) : Bool :=
  let m := masks ops.toList []
  let l := tel fl ops
  fl.length == ops.toList.length && Region.noSelect ops && l.all (fun x => x.2.2.after.toList.all fun e => !Region.binds .any e || Nat.blt e.on x.1) &&
    prs ops m (l.take k) && prs ops m (l.drop k) && (l.take k).all fun x => (l.drop k).all fun y => (m.getD y.1 0).testBit x.1
theorem tel_at {fl : List Bool} (h : fl.length = ops.toList.length) {x : Nat × Bool × Oper} (hx : x ∈ tel fl ops) : ops[x.1]? = some x.2.2 := by
  obtain ⟨j, hj⟩ := List.getElem?_of_mem hx
  unfold tel at hj
  rw [List.getElem?_zip_eq_some] at hj
  obtain ⟨h1, h2⟩ := hj
  rw [List.getElem?_zip_eq_some] at h2
  have : x.1 = j := by
    rw [List.getElem?_range'] at h1
    · simp at h1; omega
    · have := (List.getElem?_eq_some_iff.1 h1).1; simpa using this
  rw [this, ← Array.getElem?_toList]; exact h2.2
theorem tel_map {fl : List Bool} (h : fl.length = ops.toList.length) : (tel fl ops).map (·.1) = List.range' 0 ops.toList.length := by
  unfold tel
  exact List.map_fst_zip (by simp [h])
theorem wpT_all {WA : Nat → Array Bool → Act → World → Prop} {C2 : Act → World → Prop} {S1 S2 : World → Prop} {k : Nat} {fl : List Bool}
    (hstep : ∀ fuel listed a w, (∃ i, i ∈ Region.ready .any ops listed) → (∀ i ∈ Region.ready .any ops listed, ∃ o, ops[i]? = some o ∧ wpO P ops o (WA fuel (listed.setIfInBounds i true)) a w) → WA (fuel + 1) listed a w)
    (hend : ∀ listed a w, Region.ready .any ops listed = [] → C2 a w → WA 0 listed a w) (ok : txOk k fl ops = true) {a : Act} {w : World}
    (h : wpT P ops S1 (fun a w => S2 w ∧ wpT P ops S2 C2 ((tel fl ops).drop k) a w) ((tel fl ops).take k) a w) (hS1' : S1 w) : WA ops.size (Array.replicate ops.size false) a w := by
  simp only [txOk, Bool.and_eq_true, beq_iff_eq, List.all_eq_true, Bool.or_eq_true, Bool.not_eq_true'] at ok
  obtain ⟨⟨⟨⟨⟨h1, h2⟩, h3⟩, h4⟩, h5⟩, h6⟩ := ok
  have hmk : ∀ j k, ((masks ops.toList []).getD j 0).testBit k = true → Anc ops k j := masks_spec _ _ (fun j o hj => by simpa using hj) (fun j k hjk => by simp at hjk)
  have hback : ∀ j o e, ops[j]? = some o → e ∈ o.after → Region.binds .any e = true → e.on < j := by
    intro j o e ho he hb
    have hj : j < ops.toList.length := by simpa using (Array.getElem?_eq_some_iff.1 ho).1
    have hx : (j, fl[j]'(by omega), o) ∈ tel fl ops := by
      refine List.mem_of_getElem? (i := j) ?_
      unfold tel
      rw [List.getElem?_zip_eq_some]
      refine ⟨by rw [List.getElem?_range' hj]; simp, ?_⟩
      rw [List.getElem?_zip_eq_some]
      exact ⟨List.getElem?_eq_getElem (by omega), by rw [Array.getElem?_toList]; exact ho⟩
    rcases h3 _ hx e (by simpa using he) with q | q
    · rw [hb] at q; cases q
    · exact Nat.le_of_ble_eq_true q
  have hI : TInv ops (Array.replicate ops.size false) ((tel fl ops).take k ++ (tel fl ops).drop k) := by
    rw [List.take_append_drop]
    refine ⟨fun x hx => tel_at h1 hx, fun x hx => ?_, fun j hj _ => ?_, ?_, by simp, fun j o e ho hl => ?_⟩
    · have := (Array.getElem?_eq_some_iff.1 (tel_at h1 hx)).1
      simp [this]
    · have : j ∈ (tel fl ops).map (·.1) := by rw [tel_map h1]; simp; omega
      obtain ⟨x, hx, hx1⟩ := List.mem_map.1 this
      exact ⟨x, hx, hx1⟩
    · rw [tel_map h1]; exact List.nodup_range' ..
    · exfalso
      have := (Array.getElem?_eq_some_iff.1 ho).1
      simp [this] at hl
  have hlen : ((tel fl ops).take k).length + ((tel fl ops).drop k).length = ops.size := by
    have := congrArg List.length (List.take_append_drop k (tel fl ops))
    rw [List.length_append] at this
    rw [this]
    have := congrArg List.length (tel_map h1)
    simpa using this
  have := wpT_phase (P := P) (S := S1) (WA := WA) (l2 := (tel fl ops).drop k) (fuel0 := ((tel fl ops).drop k).length) h2 hback hstep (fun listed hL a w hh => ?_) _ ((tel fl ops).take k) (Array.replicate ops.size false) a _ rfl hI (prs_spec hmk _ h4) (fun x hx y hy => hmk _ _ (h6 x hx y hy)) hS1' h
  · rwa [hlen] at this
  · have := wpT_phase (P := P) (S := S2) (WA := WA) (C := C2) (l2 := []) (fuel0 := 0) h2 hback hstep (fun listed hL a w hh => ?_) _ ((tel fl ops).drop k) listed a w rfl (by simpa using hL) (prs_spec hmk _ h5) (fun x _ y hy => by cases hy) hh.1 hh.2
    · simpa using this
    · refine hend _ _ _ ?_ hh
      cases hr : Region.ready .any ops listed with
      | nil => rfl
      | cons i r =>
        exfalso
        have hi : i ∈ Region.ready .any ops listed := by rw [hr]; exact List.mem_cons_self ..
        obtain ⟨hun, o, ho, _⟩ := mem_ready.1 hi
        obtain ⟨x, hx, _⟩ := hL.all i (Array.getElem?_eq_some_iff.1 ho).1 hun
        cases hx
theorem any_step {Q : Exit → Act → World → Prop} (fuel : Nat) (listed : Array Bool) (a : Act) (w : World) (hne : ∃ i, i ∈ Region.ready .any ops listed) (h : ∀ i ∈ Region.ready .any ops listed, ∃ o, ops[i]? = some o ∧ wpO P ops o (wpAny P .any ops Q fuel (listed.setIfInBounds i true)) a w) :
    wpAny P .any ops Q (fuel + 1) listed a w := by
  refine ⟨fun hr => ?_, fun i hi => ?_⟩
  · obtain ⟨i, hi⟩ := hne; rw [hr] at hi; cases hi
  · obtain ⟨o, ho, hh⟩ := h i hi; exact wpO_wpOp ho hh
theorem wpT_region {Q : Exit → Act → World → Prop} {S1 S2 : World → Prop} {id k : Nat} {fl : List Bool} (hm : P.follows .mixedOrders = true) (ok : txOk k fl ops = true) {a : Act} {w : World}
    (h : wpT P ops S1 (fun a w => S2 w ∧ wpT P ops S2 (Q .normal) ((tel fl ops).drop k) a w) ((tel fl ops).take k) a { w with drawn := w.drawn + 1 }) (hS1' : S1 { w with drawn := w.drawn + 1 }) : (Code.region id ops true).wp P Q a w :=
  wp_region_any hm (wpT_all (WA := wpAny P .any ops Q) any_step (fun listed a w hr hq => ⟨hr, hq⟩) ok h hS1')
end

-- the same, as rules
/-- what is left of a region, and the frame -/
def TT (P : Program) (ops : Array Oper) (F : Frm) (C : Act → World → Prop) (l : List (Nat × Bool × Oper)) : Act → World → Prop := fun a w => FrameOk F w ∧ wpT P ops (FrameOk F) C l a w
section
variable {P : Program} {n : Nat} {ds : List Deferred} {F : Frm} {Q : Exit → Act → World → Prop} {K : Act → World → Prop} {σ : Slots} {H : List HProp} {o : Oper} {d i : Nat} {ops : Array Oper} {C : Act → World → Prop} {rest : List (Nat × Bool × Oper)}
theorem g_tt (h : G n ds F (wpT P ops (FrameOk F) C rest) σ H) : G n ds F (TT P ops F C rest) σ H := .mk fun a w e s => ⟨s.frame, h a w e s⟩
/-- a region in the text's order -/
theorem g_txt {id : Nat} (fl : List Bool) (hm : P.follows .mixedOrders = true) (h : G n ds F (TT P ops F (Q .normal) (tel fl ops)) σ H) (ok : txOk ops.size fl ops = true := by kernel_rfl) : G n ds F ((Code.region id ops true).wp P Q) σ H := by
  have hk : (tel fl ops).length ≤ ops.size := by
    have h1 : fl.length = ops.toList.length := by simp only [txOk, Bool.and_eq_true, beq_iff_eq] at ok; exact ok.1.1.1.1.1
    have := congrArg List.length (tel_map (ops := ops) h1)
    simp at this; omega
  refine .mk fun a w e s => wpT_region (k := ops.size) (fl := fl) (S1 := FrameOk F) (S2 := FrameOk F) hm ok ?_ s.frame
  rw [List.take_of_length_le hk, List.drop_of_length_le hk]
  have h2 : ∀ (l : List (Nat × Bool × Oper)) (a : Act) (w : World), FrameOk F w → wpT P ops (FrameOk F) (Q .normal) l a w → wpT P ops (FrameOk F) (fun a w => FrameOk F w ∧ wpT P ops (FrameOk F) (Q .normal) [] a w) l a w := by
    intro l
    induction l with
    | nil => intro a w hS hh; exact ⟨hS, hh⟩
    | cons x l ih =>
      obtain ⟨j, fl, ox⟩ := x
      intro a w hS hh
      cases fl with
      | true => obtain ⟨v, hv, hh⟩ := hh; exact ⟨v, hv, ih _ _ hS hh⟩
      | false => exact wpO_mono (fun a' w' hq => ⟨hq.1, ih _ _ hq.1 hq.2⟩) hh
  exact h2 _ _ _ s.frame (h a _ e (s.drawn _)).2
/-- the same; parts are only looked at till the last operations, from number k on -/
theorem g_txtB {id : Nat} {As R : List HProp} (k : Nat) (fl : List Bool) (hm : P.follows .mixedOrders = true) (hsel : Sels H As R)
    (h : ∀ F' : Frm, Le F.h F'.h → InL As F'.h → Back F As F' → G n ds F' (TT P ops F' (TT P ops F (Q .normal) ((tel fl ops).drop k)) ((tel fl ops).take k)) σ R) (ok : txOk k fl ops = true := by kernel_rfl) : G n ds F ((Code.region id ops true).wp P Q) σ H := by
  refine .mk fun a w e s => ?_
  obtain ⟨a1, a2, a3, fr, hh, st, hl, hdj⟩ := s
  obtain ⟨h1, h2, d12, l1, l2, s1, s2⟩ := starL_append (hsel.out _ st)
  have d1F : Disj h1 F.h := hdj.left l1
  let F' : Frm := { F with h := uni h1 F.h }
  have hb : Back F As F' := by
    intro R' w' s'
    obtain ⟨b1, b2, b3, fr', hh', st', hl', hd'⟩ := s'
    exact ⟨b1, b2, b3, (le_uni_right d1F).trans fr', uni h1 hh', append_starL s1 st' (hd'.right (le_uni_left _ _)).symm, uni_le ((le_uni_left _ _).trans fr') hl', Disj.uni d1F (hd'.right (le_uni_right d1F))⟩
  have s' : St F' R { w with drawn := w.drawn + 1 } := ⟨a1, a2, a3, uni_le (l1.trans hl) fr, h2, s2, l2.trans hl, (Disj.uni d12 (hdj.left l2).symm).symm⟩
  refine wpT_region (k := k) (fl := fl) (S1 := FrameOk F') (S2 := FrameOk F) hm ok ?_ s'.frame
  exact (h F' (le_uni_right d1F) (starL_InL s1 (le_uni_left _ _)) hb a _ e s').2
theorem Ti {v : Value} (hy : Yv P n ds F σ o v) (h : G n ds F (TT P ops F C rest) ((d, v) :: σ) H) (hg : gok ops o σ = true := by exact rfl) (hd : o.dst = some d := by exact rfl) (hdn : Nat.blt d n = true := by exact rfl) : G n ds F (TT P ops F C ((i, true, o) :: rest)) σ H :=
  .mk fun a w e s => ⟨s.frame, v, .inl ⟨gok_wanted hg e, fun w hw => hy a w e hw⟩, by rw [hd]; exact (h _ w (e.put hdn v) s).2⟩
theorem Tp (h : G n ds F (fun a w => o.wp P a w (TT P ops F C rest) NoQ) σ H) (hg : gok ops o σ = true := by exact rfl) : G n ds F (TT P ops F C ((i, false, o) :: rest)) σ H :=
  .mk fun a w e s => ⟨s.frame, by unfold wpT wpO; rw [if_pos (gok_wanted hg e)]; exact h a w e s⟩
theorem Tx {b : Bool} (h : G n ds F (TT P ops F C rest) ((d, undef) :: σ) H) (hg : gno ops o σ = true := by exact rfl) (hd : o.dst = some d := by exact rfl) (hdn : Nat.blt d n = true := by exact rfl) : G n ds F (TT P ops F C ((i, b, o) :: rest)) σ H :=
  .mk fun a w e s => by
    refine ⟨s.frame, ?_⟩
    have h' := (h _ w (e.put hdn undef) s)
    cases b with
    | true => exact ⟨undef, .inr ⟨gno_wanted hg e, rfl⟩, by rw [hd]; exact h'.2⟩
    | false => unfold wpT wpO; rw [if_neg (by simp [gno_wanted hg e]), hd]; exact h'
theorem Tx0 {b : Bool} (h : G n ds F (TT P ops F C rest) σ H) (hg : gno ops o σ = true := by exact rfl) (hd : o.dst = none := by exact rfl) : G n ds F (TT P ops F C ((i, b, o) :: rest)) σ H :=
  .mk fun a w e s => by
    refine ⟨s.frame, ?_⟩
    have h' := (h _ w e s)
    cases b with
    | true => exact ⟨undef, .inr ⟨gno_wanted hg e, rfl⟩, by rw [hd]; exact h'.2⟩
    | false => unfold wpT wpO; rw [if_neg (by simp [gno_wanted hg e]), hd]; exact h'
theorem Tn (h : G n ds F C σ H) : G n ds F (TT P ops F C []) σ H := .mk fun a w e s => ⟨s.frame, h a w e s⟩
theorem TnB {F' : Frm} {As : List HProp} (hb : Back F As F') (h : G n ds F C σ (As ++ H)) : G n ds F' (TT P ops F' C []) σ H := .mk fun a w e s => ⟨s.frame, h a w e (hb _ _ s)⟩
theorem Tne {K : Act → World → Prop} (h : G n ds F K σ H) : G n ds F (TT P ops F (Exit.then K Q .normal) []) σ H := Tn h
/-- which operations yield wherever the frame stands; 'ld': loads do, too -/
def aFl (P : Program) (ld : Bool) (ops : Array Oper) : List Bool := ops.toList.map fun o => match o.op with
  | .load _ _ => ld
  | .move _ | .assign _ | .pick _ _ _ | .nilCheck _ | .binOp _ _ _ _ _ | .unOp _ _ _ | .fieldAddr _ _ _ | .field _ _ _ | .indexAddr _ _ _ | .index _ _ _ | .extract _ _ | .slice _ _ _ _ _ | .build _ _ | .makeFunc _ _ _ | .makeInterface _ _ | .typeAssert _ _ _ _ => true
  | .convert s t _ => match P.underlying t with
    | some (.slice _) => false
    | _ => match P.underlying s with
      | some (.slice _) => ld
      | _ => true
  | .call c => match c.callee with
    | .builtin .len => true
    | .builtin .cap => true
    | .builtin .min => true
    | .builtin .max => true
    | _ => false
  | _ => false
theorem gT {id : Nat} (ld : Bool) (hm : P.follows .mixedOrders = true) (h : G n ds F (TT P ops F (Q .normal) (tel (aFl P ld ops) ops)) σ H) (ok : txOk ops.size (aFl P ld ops) ops = true := by kernel_rfl) : G n ds F ((Code.region id ops true).wp P Q) σ H := g_txt _ hm h ok
theorem gTB {id : Nat} {As R : List HProp} (k : Nat) (hm : P.follows .mixedOrders = true) (hsel : Sels H As R)
    (h : ∀ F' : Frm, Le F.h F'.h → InL As F'.h → Back F As F' → G n ds F' (TT P ops F' (TT P ops F (Q .normal) ((tel (aFl P true ops) ops).drop k)) ((tel (aFl P true ops) ops).take k)) σ R) (ok : txOk k (aFl P true ops) ops = true := by kernel_rfl) : G n ds F ((Code.region id ops true).wp P Q) σ H := g_txtB k _ hm hsel h ok
end
end Go.Eng
