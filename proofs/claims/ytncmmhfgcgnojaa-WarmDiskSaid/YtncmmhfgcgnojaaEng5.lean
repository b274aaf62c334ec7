/- The engine, part 5: loops and meeting ways with the slots that stay; a test on a slot; regions that draw their order. -/
import Derived.Test.YtncmmhfgcgnojaaEng4
import Derived.OrdersHeld
namespace Go.Eng
open Go

def memb : List Nat → Nat → Bool
  | [], _ => false
  | x :: r, t => match Nat.beq x t with | true => true | false => memb r t
/-- the slots that a piece does not write -/
def dropS (asg : List Nat) : Slots → Slots
  | [] => []
  | (k, v) :: r => match memb asg k with | true => dropS asg r | false => (k, v) :: dropS asg r
theorem look_dropS {asg : List Nat} : ∀ {σ : Slots} {t : Nat} {v : Value}, look (dropS asg σ) t = some v → look σ t = some v ∧ memb asg t = false := by
  intro σ
  induction σ with
  | nil => intro t v h; simp [dropS, look] at h
  | cons p r ih =>
    obtain ⟨k, u⟩ := p
    intro t v h
    simp only [dropS] at h
    cases hm : memb asg k with
    | true =>
      rw [hm] at h
      obtain ⟨h1, h2⟩ := ih h
      refine ⟨?_, h2⟩
      simp only [look]
      cases hb : Nat.beq k t with
      | true => have := Nat.eq_of_beq_eq_true hb; subst this; rw [hm] at h2; cases h2
      | false => exact h1
    | false =>
      rw [hm] at h
      simp only [look] at h ⊢
      cases hb : Nat.beq k t with
      | true => rw [hb] at h; have := Nat.eq_of_beq_eq_true hb; subst this; exact ⟨h, hm⟩
      | false => rw [hb] at h; exact ih h
theorem look_append {L K : Slots} {t : Nat} {v : Value} (h : look (L ++ K) t = some v) : look L t = some v ∨ look K t = some v := by
  induction L with
  | nil => exact .inr h
  | cons p r ih =>
    obtain ⟨k, u⟩ := p
    simp only [List.cons_append, look] at h ⊢
    cases hb : Nat.beq k t with
    | true => rw [hb] at h; exact .inl h
    | false => rw [hb] at h; exact ih h
theorem Env.keep {n : Nat} {ds : List Deferred} {σ σ' L : Slots} {a : Act} {asg : List Nat} (e : Env n ds σ' a) (hs : Subs L σ') (hk : dropS asg σ' = dropS asg σ) : Env n ds (L ++ dropS asg σ) a :=
  ⟨e.size, e.defers, fun t v h => (look_append h).elim (fun h1 => e.slot t v (hs.look t v h1)) fun h1 => by
    rw [← hk] at h1; exact e.slot t v (look_dropS h1).1⟩

section
variable {ι : Type} (n : Nat) (ds : List Deferred) (F : Frm) (asg : List Nat) (σ : Slots) (I : ι → Prop) (L : ι → Slots) (HI : ι → List HProp)
def RoundTo (μ : ι → Nat) (i : ι) (a : Act) (w : World) : Prop := ∃ j, I j ∧ μ j < μ i ∧ Env n ds (L j ++ dropS asg σ) a ∧ St F (HI j) w
def CutTo (a : Act) (w : World) : Prop := ∃ j, I j ∧ Env n ds (L j ++ dropS asg σ) a ∧ St F (HI j) w
end

section rules
variable {P : Program} {n : Nat} {ds : List Deferred} {F : Frm} {Q : Exit → Act → World → Prop} {K : Act → World → Prop} {σ : Slots} {H : List HProp} {o : Oper} {d : Nat}

theorem g_loopL {ι : Type} {c : Code} (asg : List Nat) (I : ι → Prop) (L : ι → Slots) (HI : ι → List HProp) (μ : ι → Nat) (i₀ : ι) (h0 : I i₀) (hs : Subs (L i₀) σ) (hh : ∀ h, starL H h → starL (HI i₀) h)
    (round : ∀ i, I i → G n ds F (c.wp P (Exit.then (RoundTo n ds F asg σ I L HI μ i) Q)) (L i ++ dropS asg σ) (HI i)) : G n ds F ((Code.loop c).wp P Q) σ H := by
  refine .mk fun a w e s b k cs => ?_
  have key : ∀ m i a w, μ i = m → I i → Env n ds (L i ++ dropS asg σ) a → St F (HI i) w →
      ∃ e a' w', Q e a' w' ∧ Arrives P (lone (b.at a (.code c :: .inLoop c :: k)) cs w) b k cs e a' w' := by
    intro m
    induction m using Nat.strongRecOn with
    | _ m ih =>
      intro i a w hm hI he hst
      obtain ⟨e, a₁, w₁, hq, harr⟩ := round i hI a w he hst b (.inLoop c :: k) cs
      cases e with
      | normal =>
        obtain ⟨j, hj, hlt, he₁, hs₁⟩ := hq
        obtain ⟨e₂, a₂, w₂, hq₂, harr₂⟩ := ih (μ j) (hm ▸ hlt) j a₁ w₁ rfl hj he₁ hs₁
        exact ⟨e₂, a₂, w₂, hq₂, .of_steps (Steps.trans harr (.one step_inLoop)) harr₂⟩
      | exit id => exact ⟨_, a₁, w₁, hq, .pass (x := .inLoop c) rfl (fun _ _ => .inl (by simp)) harr⟩
      | goto l => exact ⟨_, a₁, w₁, hq, .pass (x := .inLoop c) rfl (fun _ _ => .inl (by simp)) harr⟩
      | ret => exact ⟨_, a₁, w₁, hq, .pass (x := .inLoop c) rfl (fun _ _ => .inl (by simp)) harr⟩
      | panic ch => exact ⟨_, a₁, w₁, hq, .pass (x := .inLoop c) rfl (fun _ _ => .inl (by simp)) harr⟩
      | outgrown => exact ⟨_, a₁, w₁, hq, .pass (x := .inLoop c) rfl (fun _ _ => .inl (by simp)) harr⟩
  obtain ⟨e', a', w', hq, harr⟩ := key _ i₀ a w rfl h0 (e.keep hs rfl) (s.sub hh)
  exact ⟨e', a', w', hq, .of_steps (.one step_loop) harr⟩
theorem e_roundL {ι : Type} {asg : List Nat} {σ0 : Slots} {I : ι → Prop} {L : ι → Slots} {HI : ι → List HProp} {μ : ι → Nat} {i : ι} (j : ι) (hI : I j) (hm : μ j < μ i) (hs : Subs (L j) σ) (hk : dropS asg σ = dropS asg σ0) (hh : ∀ h, starL H h → starL (HI j) h) :
    G n ds F (Exit.then (RoundTo n ds F asg σ0 I L HI μ i) Q .normal) σ H :=
  .mk fun _ _ e s => ⟨j, hI, hm, e.keep hs hk, s.sub hh⟩

/-- two ways that meet again -/
theorem g_cut {ι : Type} {x y : Code} (asg : List Nat) (I : ι → Prop) (L : ι → Slots) (HI : ι → List HProp) (hx : G n ds F (x.wp P (Exit.then (CutTo n ds F asg σ I L HI) Q)) σ H)
    (hy : ∀ j, I j → G n ds F (y.wp P Q) (L j ++ dropS asg σ) (HI j)) : G n ds F ((Code.seq x y).wp P Q) σ H :=
  g_seq <| .mk fun a w e s => wp_mono (hx a w e s) fun ex a' w' q => by
    cases ex with
    | normal => obtain ⟨j, hj, he, hs⟩ := q; exact hy j hj _ _ he hs
    | exit id => exact q
    | goto l => exact q
    | ret => exact q
    | panic ch => exact q
    | outgrown => exact q
theorem e_cut {ι : Type} {asg : List Nat} {σ0 : Slots} {I : ι → Prop} {L : ι → Slots} {HI : ι → List HProp} (j : ι) (hI : I j) (hs : Subs (L j) σ) (hk : dropS asg σ = dropS asg σ0) (hh : ∀ h, starL H h → starL (HI j) h) :
    G n ds F (Exit.then (CutTo n ds F asg σ0 I L HI) Q .normal) σ H :=
  .mk fun _ _ e s => ⟨j, hI, e.keep hs hk, s.sub hh⟩

theorem g_mid {ι : Type} {x : Code} (asg : List Nat) (I : ι → Prop) (L : ι → Slots) (HI : ι → List HProp) (hx : G n ds F (x.wp P (Exit.then (CutTo n ds F asg σ I L HI) Q)) σ H)
    (hy : ∀ j, I j → G n ds F K (L j ++ dropS asg σ) (HI j)) : G n ds F (x.wp P (Exit.then K Q)) σ H :=
  .mk fun a w e s => wp_mono (hx a w e s) fun ex a' w' q => by
    cases ex with
    | normal => obtain ⟨j, hj, he, hs⟩ := q; exact hy j hj _ _ he hs
    | exit id => exact q
    | goto l => exact q
    | ret => exact q
    | panic ch => exact q
    | outgrown => exact q

/-- a test on a slot -/
theorem g_split {t : Nat} {b : Bool} (ht : look σ t = some (.bool b)) (h1 : b = true → G n ds F K ((t, .bool true) :: σ) H) (h2 : b = false → G n ds F K ((t, .bool false) :: σ) H) : G n ds F K σ H := by
  have key : ∀ c, b = c → ∀ a, Env n ds σ a → Env n ds ((t, .bool c) :: σ) a := fun c hc a e => ⟨e.size, e.defers, fun u v hv => by
    simp only [look] at hv
    cases hb : Nat.beq t u with
    | true => rw [hb] at hv; cases hv; have := Nat.eq_of_beq_eq_true hb; subst this; subst hc; exact e.slot _ _ ht
    | false => rw [hb] at hv; exact e.slot _ _ hv⟩
  refine .mk fun a w e s => ?_
  cases hb : b with
  | true => exact h1 hb a w (key true hb a e) s
  | false => exact h2 hb a w (key false hb a e) s
/-- a slot's value, said otherwise -/
theorem g_slot {t : Nat} {v v' : Value} (ht : look σ t = some v) (hv : v = v') (h : G n ds F K ((t, v') :: σ) H) : G n ds F K σ H := by
  subst hv
  refine .mk fun a w e s => ?_
  refine h a w ⟨e.size, e.defers, fun u x hx => ?_⟩ s
  simp only [look] at hx
  cases hb : Nat.beq t u with
  | true => rw [hb] at hx; cases hx; have := Nat.eq_of_beq_eq_true hb; subst this; exact e.slot _ _ ht
  | false => rw [hb] at hx; exact e.slot _ _ hx

theorem starL_app_left : ∀ {A B : List HProp} {h : Hp}, starL (A ++ B) h → starL A h := by
  intro A
  induction A with
  | nil => intros; trivial
  | cons X r ih => intro B h s; obtain ⟨h1, h2, d, l1, l2, a, s⟩ := s; exact ⟨h1, h2, d, l1, l2, a, ih s⟩
theorem ents {H As R : List HProp} (s : Sels H As R) : ∀ h, starL H h → starL As h := fun h x => starL_app_left (s.out h x)
theorem ent_eq {H H' : List HProp} (e : H = H') : ∀ h, starL H h → starL H' h := fun _ x => e ▸ x
theorem y_loadP {t : TypeId} {x : Operand} {b i : Nat} {e : TypeId} {cs : List Value} {v : Value} (hs : scal P t = true) (ho : o.op = .load t x) (hx : evo σ x = some (.pointer (some ⟨b, i, none⟩))) (hp : ∃ k, pts b e cs k ∧ Le k F.h) (hv : cs[i]? = some v) : Yv P n ds F σ o v := by
  obtain ⟨k, p, l⟩ := hp
  exact y_loadF hs ho hx (hcell_mono l (pts_cell p hv))
theorem y_loadPN {t k : TypeId} {x : Operand} {b i : Nat} {e : TypeId} {cs : List Value} (vs : List Value) (hs : aggSz P t = some k) (ho : o.op = .load t x) (hx : evo σ x = some (.pointer (some ⟨b, i, none⟩))) (hp : ∃ k, pts b e cs k ∧ Le k F.h) (hv : (cs.drop i).take k = vs) (hk : vs.length = k) : Yv P n ds F σ o (.agg vs.toArray) := by
  obtain ⟨m, p, l⟩ := hp
  intro ac w en fr
  have := load_agg (P := P) (b := b) (i := i) hs (w := w) hk (fun j v hj => by
    rw [add_lit]
    refine hcell_at (l.trans fr) (pts_cell p ?_)
    rw [← hv, List.getElem?_take] at hj
    split at hj
    · simpa using hj
    · cases hj)
  simp [execOp, ho, en.eval hx, this]

/-- a part of a frame -/
def In (h : Hp) (A : HProp) : Prop := ∃ k, A k ∧ Le k h
theorem own_in {h : Hp} {a : Option Addr} {cap e sz : Nat} {xs : List Value} (o : ∃ k, own a cap e sz xs k ∧ Le k h) : Rdl h a xs := by
  obtain ⟨k, p, l⟩ := o; exact (own_rdl p).mono l
theorem in_mono {h k : Hp} {A : HProp} (i : ∃ m, A m ∧ Le m h) (l : Le h k) : ∃ m, A m ∧ Le m k := by
  obtain ⟨m, p, l'⟩ := i; exact ⟨m, p, l'.trans l⟩
/-- several parts as one; a part with something unknown -/
def stars (L : List HProp) : HProp := fun h => starL L h
theorem g_stars {L : List HProp} (h : G n ds F K σ (L ++ H)) : G n ds F K σ (stars L :: H) :=
  g_heap (fun k s => by
    obtain ⟨h1, h2, d, l1, l2, s1, s2⟩ := s
    exact starL_mono (append_starL s1 s2 d) (uni_le l1 l2)) h
theorem stars_of {L : List HProp} : ∀ {H : List HProp} {h : Hp}, starL (L ++ H) h → starL (stars L :: H) h := fun s => by
  obtain ⟨h1, h2, d, l1, l2, s1, s2⟩ := starL_append s
  exact ⟨h1, h2, d, l1, l2, s1, s2⟩
theorem g_ex {ι : Type} {A : ι → HProp} (h : ∀ x, G n ds F K σ (A x :: H)) : G n ds F K σ ((fun k => ∃ x, A x k) :: H) := by
  refine .mk fun a w e s => ?_
  obtain ⟨a1, a2, a3, fr, hh, ⟨h1, h2, d, l1, l2, ⟨x, hx⟩, st⟩, y, z⟩ := s
  exact h x a w e ⟨a1, a2, a3, fr, hh, ⟨h1, h2, d, l1, l2, hx, st⟩, y, z⟩
theorem ex_of {ι : Type} {A : ι → HProp} (x : ι) {h : Hp} (s : starL (A x :: H) h) : starL ((fun k => ∃ x, A x k) :: H) h := starL_cons_mono (fun _ p => ⟨x, p⟩) s
theorem stars_fold {L M R : List HProp} {h : Hp} (s : starL (stars L :: (M ++ R)) h) : starL (stars (L ++ M) :: R) h := by
  obtain ⟨h1, h2, d, l1, l2, s1, s2⟩ := s
  obtain ⟨h3, h4, d', l3, l4, s3, s4⟩ := starL_append s2
  exact ⟨uni h1 h3, h4, Disj.uni (d.right l4) d', uni_le l1 (l3.trans l2), l4.trans l2, append_starL s1 s3 (d.right l3), s4⟩
theorem starL_nil_stars {h : Hp} (s : starL H h) : starL (stars [] :: H) h := starL_emp (fun _ => trivial) s

-- a region that draws its order
def Back (F : Frm) (As : List HProp) (F' : Frm) : Prop := ∀ R w, St F' R w → St F (As ++ R) w
abbrev FrameOk (F : Frm) (w : World) : Prop := Le F.h (hOf w)
theorem g_draw {id : Nat} {ops : Array Oper} {As R : List HProp} {listed : Array Bool} (hm : P.follows .mixedOrders = true) (hl : Array.replicate ops.size false = listed) (hsel : Sels H As R)
    (h : ∀ F' : Frm, Le F.h F'.h → InL As F'.h → Back F As F' → G n ds F' (wpAnyH P .any ops Q (FrameOk F') ops.size listed) σ R) : G n ds F ((Code.region id ops true).wp P Q) σ H := by
  refine .mk fun a w e s => ?_
  subst hl
  refine wp_region_any hm (wpAny_of_held (S := FrameOk { F with h := ?_ }) _ _ _ _ ?_)
  · exact uni (Classical.choose (starL_append (hsel.out _ (Classical.choose_spec s.own).1))) F.h
  · generalize hA : Classical.choose (starL_append (hsel.out _ (Classical.choose_spec s.own).1)) = h1
    have spec := Classical.choose_spec (starL_append (hsel.out _ (Classical.choose_spec s.own).1))
    rw [hA] at spec
    obtain ⟨h2, d12, l1, l2, s1, s2⟩ := spec
    have hown := (Classical.choose_spec s.own).2
    have d1F : Disj h1 F.h := hown.2.left l1
    refine h { F with h := uni h1 F.h } (le_uni_right d1F) (starL_InL s1 (le_uni_left _ _)) ?_ a _ e ?_
    · intro R' w' s'
      obtain ⟨b1, b2, b3, fr, hh, st, hl, hd⟩ := s'
      exact ⟨b1, b2, b3, (le_uni_right d1F).trans fr, uni h1 hh, append_starL s1 st (hd.right (le_uni_left _ _)).symm, uni_le ((le_uni_left _ _).trans fr) hl, Disj.uni d1F (hd.right (le_uni_right d1F))⟩
    · exact ⟨s.os, s.tape, s.output, uni_le (l1.trans hown.1) s.frame, h2, s2, l2.trans hown.1, (Disj.uni d12 (hown.2.left l2).symm).symm⟩
theorem gh_done {ops : Array Oper} {listed : Array Bool} {fuel : Nat} {F' : Frm} {As : List HProp} {S : World → Prop} (hr : Region.ready .any ops listed = []) (hb : Back F As F') (h : G n ds F (Q .normal) σ (As ++ H)) : G n ds F' (wpAnyH P .any ops Q S fuel listed) σ H := by
  refine .mk fun a w e s => ?_
  have := h a w e (hb _ _ s)
  cases fuel with
  | zero => exact ⟨hr, this⟩
  | succ m => exact ⟨fun _ => this, fun i hi => by rw [hr] at hi; cases hi⟩
def PanicOk (Q : Exit → Act → World → Prop) : Prop := ∀ c a d v w, Q (.panic c) (Act.put a d v) w → Q (.panic c) a w
theorem po_then (h : PanicOk Q) : PanicOk (Exit.then K Q) := fun c a d v w q => h c a d v w q
theorem po_block {id : Nat} (h : PanicOk Q) : PanicOk (Exit.inBlock id Q) := fun c a d v w q => h c a d v w q
theorem po_body {fn : Func} {R : Ending → World → Prop} : PanicOk (bodyPost P fn R) := fun c a d v w q => by
  simp only [bodyPost] at q ⊢
  exact ⟨by rw [← q.1]; cases d <;> rfl, q.2⟩
def takeOk (ops : Array Oper) (listed : Array Bool) (i : Nat) (listed' : Array Bool) : Bool :=
  Region.noSelect ops && (Region.ready .any ops listed).contains i && Region.free .any ops listed i && (listed.setIfInBounds i true == listed')
theorem gh_takeY {ops : Array Oper} {listed listed' : Array Bool} {fuel i : Nat} {oi : Oper} {v : Value} (hok : takeOk ops listed i listed' = true) (hi : ops[i]? = some oi) (po : PanicOk Q)
    (hy : ∀ a, Env n ds σ a → YieldsIf P ops (FrameOk F) oi v a) {σ' : Slots} (hp : ∀ a, Env n ds σ a → Env n ds σ' (a.put oi.dst v)) (h : G n ds F (wpAnyH P .any ops Q (FrameOk F) fuel listed') σ' H) : G n ds F (wpAnyH P .any ops Q (FrameOk F) (fuel + 1) listed) σ H := by
  refine .mk fun a w e s => ?_
  simp only [takeOk, Bool.and_eq_true, beq_iff_eq, List.contains_iff_mem] at hok
  obtain ⟨⟨⟨h1, h2⟩, h3⟩, h4⟩ := hok
  refine wpAnyH_first hi (Region.noSelect_spec h1) (fun c a w q => po c a _ _ w q) fuel listed a w (fun j oj hj hne hun hno => Region.free_spec hi h3 j oj hj hne hun hno) h2 (hy a e) s.frame ?_
  rw [h4]
  exact h _ _ (hp a e) s
theorem gh_take {ops : Array Oper} {listed listed' : Array Bool} {fuel i : Nat} {oi : Oper} {v : Value} (hok : takeOk ops listed i listed' = true) (hi : ops[i]? = some oi) (po : PanicOk Q) (hg : oi.guard = none) (hd : oi.dst = some d) (hdn : Nat.blt d n = true)
    (hy : Yv P n ds F σ oi v) (h : G n ds F (wpAnyH P .any ops Q (FrameOk F) fuel listed') ((d, v) :: σ) H) : G n ds F (wpAnyH P .any ops Q (FrameOk F) (fuel + 1) listed) σ H :=
  gh_takeY hok hi po (fun a e => .inl ⟨by simp [Region.wanted, hg], fun w hw => hy a w e hw⟩) (fun a e => by rw [hd]; exact e.put hdn v) h
theorem gh_yes {ops : Array Oper} {listed listed' : Array Bool} {fuel i j t : Nat} {b c : Bool} {oi : Oper} {v : Value} (hok : takeOk ops listed i listed' = true) (hi : ops[i]? = some oi) (po : PanicOk Q) (hg : oi.guard = some (j, b)) (hj : (ops[j]?).bind (·.dst) = some t) (ht : look σ t = some (.bool c)) (hc : c = b)
    (hd : oi.dst = some d) (hdn : Nat.blt d n = true) (hy : Yv P n ds F σ oi v) (h : G n ds F (wpAnyH P .any ops Q (FrameOk F) fuel listed') ((d, v) :: σ) H) : G n ds F (wpAnyH P .any ops Q (FrameOk F) (fuel + 1) listed) σ H :=
  gh_takeY hok hi po (fun a e => .inl ⟨by simp [Region.wanted, hg, yielded_of hj ht e, hc], fun w hw => hy a w e hw⟩) (fun a e => by rw [hd]; exact e.put hdn v) h
theorem gh_no {ops : Array Oper} {listed listed' : Array Bool} {fuel i j t : Nat} {b c : Bool} {oi : Oper} (hok : takeOk ops listed i listed' = true) (hi : ops[i]? = some oi) (po : PanicOk Q) (hg : oi.guard = some (j, b)) (hj : (ops[j]?).bind (·.dst) = some t) (ht : look σ t = some (.bool c)) (hc : c = !b)
    (hd : oi.dst = some d) (hdn : Nat.blt d n = true) (h : G n ds F (wpAnyH P .any ops Q (FrameOk F) fuel listed') ((d, undef) :: σ) H) : G n ds F (wpAnyH P .any ops Q (FrameOk F) (fuel + 1) listed) σ H :=
  gh_takeY hok hi po (fun a e => .inr ⟨by simp [Region.wanted, hg, yielded_of hj ht e, hc], rfl⟩) (fun a e => by rw [hd]; exact e.put hdn undef) h
theorem gh_no0 {ops : Array Oper} {listed listed' : Array Bool} {fuel i j t : Nat} {b c : Bool} {oi : Oper} (hok : takeOk ops listed i listed' = true) (hi : ops[i]? = some oi) (po : PanicOk Q) (hg : oi.guard = some (j, b)) (hj : (ops[j]?).bind (·.dst) = some t) (ht : look σ t = some (.bool c)) (hc : c = !b)
    (hd : oi.dst = none) (h : G n ds F (wpAnyH P .any ops Q (FrameOk F) fuel listed') σ H) : G n ds F (wpAnyH P .any ops Q (FrameOk F) (fuel + 1) listed) σ H :=
  gh_takeY hok hi po (fun a e => .inr ⟨by simp [Region.wanted, hg, yielded_of hj ht e, hc], rfl⟩) (fun a e => by rw [hd]; exact e) h
theorem gh_nou {ops : Array Oper} {listed listed' : Array Bool} {fuel i j t : Nat} {b : Bool} {oi : Oper} (hok : takeOk ops listed i listed' = true) (hi : ops[i]? = some oi) (po : PanicOk Q) (hg : oi.guard = some (j, b)) (hj : (ops[j]?).bind (·.dst) = some t) (ht : look σ t = some undef)
    (hd : oi.dst = some d) (hdn : Nat.blt d n = true) (h : G n ds F (wpAnyH P .any ops Q (FrameOk F) fuel listed') ((d, undef) :: σ) H) : G n ds F (wpAnyH P .any ops Q (FrameOk F) (fuel + 1) listed) σ H :=
  gh_takeY hok hi po (fun a e => .inr ⟨by simp [Region.wanted, hg, yielded_undef hj ht e], rfl⟩) (fun a e => by rw [hd]; exact e.put hdn undef) h
/-- what comes up now, whichever it is -/
theorem gh_all {ops : Array Oper} {listed : Array Bool} {fuel : Nat} {l : List Nat} {S : World → Prop} (hr : Region.ready .any ops listed = l) (hne : l.isEmpty = false)
    (h : ∀ i ∈ l, G n ds F (wpOp P ops Q i (fun a' w' => S w' ∧ wpAnyH P .any ops Q S fuel (listed.setIfInBounds i true) a' w')) σ H) : G n ds F (wpAnyH P .any ops Q S (fuel + 1) listed) σ H := by
  refine .mk fun a w e s => ?_
  refine ⟨fun h0 => ?_, fun i hi => h i (by rw [← hr]; exact hi) a w e s⟩
  rw [hr] at h0; subst h0; cases hne
theorem gh_op {ops : Array Oper} {listed listed' : Array Bool} {fuel i : Nat} {oi : Oper} {S : World → Prop} (hl : listed.setIfInBounds i true = listed') (hi : ops[i]? = some oi) (hg : oi.guard = none)
    (h : G n ds F (fun a w => oi.wp P a w (fun a' w' => S w' ∧ wpAnyH P .any ops Q S fuel listed' a' w') Q) σ H) :
    G n ds F (wpOp P ops Q i (fun a' w' => S w' ∧ wpAnyH P .any ops Q S fuel (listed.setIfInBounds i true) a' w')) σ H := by
  refine .mk fun a w e s => ?_
  subst hl
  unfold wpOp
  simp only [hi, Region.wanted, hg, if_true]
  exact .inl (h a w e s)
theorem gh_op_yes {ops : Array Oper} {listed listed' : Array Bool} {fuel i j t : Nat} {b c : Bool} {oi : Oper} {S : World → Prop} (hl : listed.setIfInBounds i true = listed') (hi : ops[i]? = some oi) (hg : oi.guard = some (j, b)) (hj : (ops[j]?).bind (·.dst) = some t) (ht : look σ t = some (.bool c)) (hc : c = b)
    (h : G n ds F (fun a w => oi.wp P a w (fun a' w' => S w' ∧ wpAnyH P .any ops Q S fuel listed' a' w') Q) σ H) :
    G n ds F (wpOp P ops Q i (fun a' w' => S w' ∧ wpAnyH P .any ops Q S fuel (listed.setIfInBounds i true) a' w')) σ H := by
  refine .mk fun a w e s => ?_
  subst hl
  unfold wpOp
  have hw : Region.wanted oi (yielded ops a.tmps) = true := by simp [Region.wanted, hg, yielded_of hj ht e, hc]
  simp only [hi, hw, if_true]
  exact .inl (h a w e s)
theorem gh_one {ops : Array Oper} {listed : Array Bool} {fuel i : Nat} {S : World → Prop} (hr : Region.ready .any ops listed = [i])
    (h : G n ds F (wpOp P ops Q i (fun a' w' => S w' ∧ wpAnyH P .any ops Q S fuel (listed.setIfInBounds i true) a' w')) σ H) : G n ds F (wpAnyH P .any ops Q S (fuel + 1) listed) σ H :=
  gh_all hr rfl fun j hj => by rw [List.mem_singleton.1 hj]; exact h
theorem gh_two {ops : Array Oper} {listed : Array Bool} {fuel i j : Nat} {S : World → Prop} (hr : Region.ready .any ops listed = [i, j])
    (h1 : G n ds F (wpOp P ops Q i (fun a' w' => S w' ∧ wpAnyH P .any ops Q S fuel (listed.setIfInBounds i true) a' w')) σ H)
    (h2 : G n ds F (wpOp P ops Q j (fun a' w' => S w' ∧ wpAnyH P .any ops Q S fuel (listed.setIfInBounds j true) a' w')) σ H) : G n ds F (wpAnyH P .any ops Q S (fuel + 1) listed) σ H :=
  gh_all hr rfl fun k hk => by
    rcases List.mem_cons.1 hk with rfl | hk
    · exact h1
    · rw [List.mem_singleton.1 hk]; exact h2
theorem gh_next {ops : Array Oper} {listed : Array Bool} {fuel : Nat} (h : G n ds F (wpAnyH P .any ops Q (FrameOk F) fuel listed) σ H) : G n ds F (fun a w => FrameOk F w ∧ wpAnyH P .any ops Q (FrameOk F) fuel listed a w) σ H :=
  .mk fun a w e s => ⟨s.frame, h a w e s⟩
-- results that stand in cells
theorem cell_res {b i k ty : Nat} {e : TypeId} {cs vs : List Value} {R : List HProp} {w : World} {t : Nat} {a : Act} (en : Env n ds σ a) (st : St F H w) (ht : look σ t = some (.pointer (some ⟨b, i, none⟩))) (hs : aggSz P ty = some k) (hsel : Sel H (pts b e cs) R) (hv : (cs.drop i).take k = vs) (hk : vs.length = k) :
    (asAddr (a.tmps.getD t undef)).run P w = .ok ⟨b, i, none⟩ w ∧ (loadVar ty ⟨b, i, none⟩).run P w = .ok (.agg vs.toArray) w := by
  obtain ⟨h1, hp, hl⟩ := (st.sel hsel).get
  have hg : a.tmps.getD t undef = .pointer (some ⟨b, i, none⟩) := by simp [en.slot t _ ht]
  have := load_agg (P := P) (b := b) (i := i) hs (w := w) hk (fun j v hj => by
    rw [add_lit]
    refine hcell_at hl (pts_cell hp ?_)
    rw [← hv, List.getElem?_take] at hj
    split at hj
    · simpa using hj
    · cases hj)
  rw [hg]
  exact ⟨by simp [asAddr], by simpa [Instr.loadAt, Instr.sureAddr] using this⟩
theorem e_retC {fn : Func} {T : Value → List HProp → Prop} {t ty b i k : Nat} {e : TypeId} {cs vs : List Value} {R H' : List HProp} (hs : aggSz P ty = some k) (hr : fn.results = #[.cell t ty]) (ht : look σ t = some (.pointer (some ⟨b, i, none⟩))) (hsel : Sel H (pts b e cs) R) (hv : (cs.drop i).take k = vs) (hk : vs.length = k)
    (hR : T (.agg vs.toArray) H') (hh : ∀ h, starL H h → starL H' h) : G n [] F (bodyPost P fn (fun e w' => ∃ v H', e = .returned v ∧ T v H' ∧ St F H' w') .ret) σ H :=
  .mk fun a w en s => ⟨en.defers, _, by
    obtain ⟨h1, h2⟩ := cell_res (P := P) en s ht hs hsel hv hk
    simp only [results, hr]
    simp at h1
    simp [h1, h2], _, H', rfl, hR, s.sub hh⟩
theorem e_retCTT {fn : Func} {T : Value → List HProp → Prop} {t ty b i k u u' : Nat} {x x' : Value} {e : TypeId} {cs vs : List Value} {R H' : List HProp} (hs : aggSz P ty = some k) (hr : fn.results = #[.cell t ty, .tmp u, .tmp u']) (ht : look σ t = some (.pointer (some ⟨b, i, none⟩))) (hx : look σ u = some x) (hx' : look σ u' = some x')
    (hsel : Sel H (pts b e cs) R) (hv : (cs.drop i).take k = vs) (hk : vs.length = k) (hR : T (.tuple #[.agg vs.toArray, x, x']) H') (hh : ∀ h, starL H h → starL H' h) :
    G n [] F (bodyPost P fn (fun e w' => ∃ v H', e = .returned v ∧ T v H' ∧ St F H' w') .ret) σ H :=
  .mk fun a w en s => ⟨en.defers, _, by
    obtain ⟨h1, h4⟩ := cell_res (P := P) en s ht hs hsel hv hk
    have h2 : a.tmps.getD u undef = x := by simp [en.slot u x hx]
    have h3 : a.tmps.getD u' undef = x' := by simp [en.slot u' x' hx']
    simp only [results, hr]
    simp at h1 h2 h3
    simp [h1, h2, h3, h4], _, H', rfl, hR, s.sub hh⟩
end rules
end Go.Eng
