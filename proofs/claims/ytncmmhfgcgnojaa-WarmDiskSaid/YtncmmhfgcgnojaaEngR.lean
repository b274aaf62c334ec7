/- The engine: a range over a function: the statement, a round, an iterator that calls yield. -/
import Derived.Test.YtncmmhfgcgnojaaEngX2
import Derived.RangeFuncLeaves
import Derived.RangeFuncRecord
import Derived.TacticsIn
import Derived.OrdersIn
namespace Go.Eng
open Go

def fen : Option Nat → Fence
  | none => Fence.wide
  | some l => Fence.wide.inRound l
theorem fen_fn (r : Option Nat) (f : FuncId) : (fen r).fn f := by cases r <;> trivial
theorem fen_depth (r : Option Nat) : (fen r).depth.isSome = true → 1 ≤ 0 := by cases r <;> simp [fen, Fence.wide, Fence.inRound]
theorem fen_round (r : Option Nat) : (fen r).round = r := by cases r <;> rfl
/-- code, in a round (of the loop whose record is block l) or in none -/
def RC (r : Option Nat) (c : Code) (P : Program) (Q : Exit → Act → World → Prop) : Act → World → Prop := fun a w => c.wpIn (fen r) 0 P Q a w
theorem rc_wp {c : Code} {P : Program} {Q : Exit → Act → World → Prop} {a : Act} {w : World} : RC none c P Q a w ↔ c.wp P Q a w := wpIn_wide
def nd (o : Oper) : Bool := match o.op with | .defer _ => false | _ => true
theorem calls_fen {r : Option Nat} {P : Program} {f : FuncId} {args : Array Value} {w : World} {R : Ending → World → Prop} (h : Calls P f args w R) : CallsIn (fen r) 0 P f args w R := by
  cases r with
  | none => exact callsIn_wide.2 h
  | some l => have h0 : CallsIn Fence.wide 0 P f args w R := callsIn_wide.2 h; exact h0
theorem rows_fen {r : Option Nat} {P : Program} {row : String} {args : Array Value} {w : World} {R : Value → World → Prop} (h : Rows P row args w R) : RowsIn (fen r) 0 P row args w R := by
  have key : RowsIn Fence.wide 0 P row args w R := fun c cs _ => by obtain ⟨v, w', q, s⟩ := h c cs; exact ⟨v, w', q, stepsIn_wide.2 s⟩
  cases r with
  | none => exact key
  | some l => exact key
theorem semAt_nd {o : Oper} (h : nd o = true) (r : Option Nat) (ρ : Operand → Value) : o.semAt r ρ = execOp ρ o := by
  unfold Oper.semAt
  cases r with
  | none => rfl
  | some l => unfold nd at h; split <;> simp_all
theorem wp_in {r : Option Nat} {P : Program} {o : Oper} {a : Act} {w : World} {K : Act → World → Prop} {Q : Exit → Act → World → Prop} (hn : nd o = true) (h : o.wp P a w K Q) : o.wpIn (fen r) 0 P a w K Q := by
  refine ⟨fun f _ => fen_fn r f, ?_⟩
  rw [semAt_nd hn]
  unfold Oper.wp at h
  generalize (execOp a.eval o).run P w = res at *
  cases res with
  | ok nx w' =>
    cases nx <;> simp only [Oper.upon, Oper.uponIn] at h ⊢ <;> first
      | exact h
      | exact ⟨fen_depth r, calls_fen h⟩
      | exact ⟨fen_depth r, rows_fen h⟩
      | exact h.elim
  | halt x w' => cases x <;> simp only [Oper.upon, Oper.uponIn] at h ⊢ <;> exact h

section rules
variable {P : Program} {n : Nat} {ds : List Deferred} {F : Frm} {Q : Exit → Act → World → Prop} {σ : Slots} {H : List HProp} {r : Option Nat}
theorem x_seq {x y : Code} (h : G n ds F (RC r x P (Exit.then (RC r y P Q) Q)) σ H) : G n ds F (RC r (Code.seq x y) P Q) σ H := .mk fun a w e s => wpIn_seq (h a w e s)
theorem x_skip (h : G n ds F (Q .normal) σ H) : G n ds F (RC r Code.skip P Q) σ H := .mk fun a w e s => wpIn_skip (h a w e s)
theorem x_ret (h : G n ds F (Q .ret) σ H) : G n ds F (RC r Code.ret P Q) σ H := .mk fun a w e s => wpIn_ret (h a w e s)
theorem x_exit {id : Nat} (h : G n ds F (Q (.exit id)) σ H) : G n ds F (RC r (Code.exit id) P Q) σ H := .mk fun a w e s => wpIn_exit (h a w e s)
theorem x_block {id : Nat} {c : Code} (h : G n ds F (RC r c P (Exit.inBlock id Q)) σ H) : G n ds F (RC r (Code.block id c) P Q) σ H := .mk fun a w e s => wpIn_block (h a w e s)
theorem x_cond {c : Operand} {x y : Code} {b : Bool} (hc : evo σ c = some (.bool b)) (ht : b = true → G n ds F (RC r x P Q) σ H) (hf : b = false → G n ds F (RC r y P Q) σ H) : G n ds F (RC r (Code.cond c x y) P Q) σ H :=
  .mk fun a w e s => wpIn_cond_split (e.eval hc) (fun hb => ht hb a w e s) (fun hb => hf hb a w e s)
theorem x_cond_t {c : Operand} {x y : Code} {b : Bool} (hc : evo σ c = some (.bool b)) (hb : b = true) (ht : G n ds F (RC r x P Q) σ H) : G n ds F (RC r (Code.cond c x y) P Q) σ H := x_cond hc (fun _ => ht) (fun h => by rw [hb] at h; cases h)
theorem x_cond_f {c : Operand} {x y : Code} {b : Bool} (hc : evo σ c = some (.bool b)) (hb : b = false) (ht : G n ds F (RC r y P Q) σ H) : G n ds F (RC r (Code.cond c x y) P Q) σ H := x_cond hc (fun h => by rw [hb] at h; cases h) (fun _ => ht)
theorem x_loopL {ι : Type} {c : Code} (asg : List Nat) (I : ι → Prop) (L : ι → Slots) (HI : ι → List HProp) (μ : ι → Nat) (i₀ : ι) (h0 : I i₀) (hs : Subs (L i₀) σ) (hh : ∀ h, starL H h → starL (HI i₀) h)
    (round : ∀ i, I i → G n ds F (RC r c P (Exit.then (RoundTo n ds F asg σ I L HI μ i) Q)) (L i ++ dropS asg σ) (HI i)) : G n ds F (RC r (Code.loop c) P Q) σ H := by
  refine .mk fun a w e s b k cs hro hb hr => ?_
  have key : ∀ m i a w, μ i = m → I i → Env n ds (L i ++ dropS asg σ) a → St F (HI i) w →
      ∃ e a' w', Q e a' w' ∧ ArrivesIn (Machine.fenced P (fen r)) P (lone (b.atR a (.code c :: .inLoop c :: k)) cs w) b k cs e a' w' := by
    intro m
    induction m using Nat.strongRecOn with
    | _ m ih =>
      intro i a w hm hi he hst
      obtain ⟨e, a₁, w₁, hq, harr⟩ := (round i hi).run a w he hst b (.inLoop c :: k) cs hro hb hr
      cases e with
      | normal =>
        obtain ⟨j, hj, hlt, he₁, hs₁⟩ := hq
        obtain ⟨e₂, a₂, w₂, hq₂, harr₂⟩ := ih (μ j) (hm ▸ hlt) j a₁ w₁ rfl hj he₁ hs₁
        exact ⟨e₂, a₂, w₂, hq₂, .of_steps (StepsIn.trans harr (.one (fenced_calm hb hr rfl) stepR_inLoop)) harr₂⟩
      | exit id => exact ⟨_, a₁, w₁, hq, .pass (x := .inLoop c) rfl (fun _ _ => .inl (by simp)) harr⟩
      | goto l => exact ⟨_, a₁, w₁, hq, .pass (x := .inLoop c) rfl (fun _ _ => .inl (by simp)) harr⟩
      | ret => exact ⟨_, a₁, w₁, hq, .pass (x := .inLoop c) rfl (fun _ _ => .inl (by simp)) harr⟩
      | panic ch => exact ⟨_, a₁, w₁, hq, .pass (x := .inLoop c) rfl (fun _ _ => .inl (by simp)) harr⟩
      | outgrown => exact ⟨_, a₁, w₁, hq, .pass (x := .inLoop c) rfl (fun _ _ => .inl (by simp)) harr⟩
  obtain ⟨e', a', w', hq, harr⟩ := key _ i₀ a w rfl h0 (e.keep hs rfl) (s.sub hh)
  exact ⟨e', a', w', hq, .of_steps (.one (fenced_calm hb hr rfl) stepR_loop) harr⟩
theorem x_mid {ι : Type} {K : Act → World → Prop} {x : Code} (asg : List Nat) (I : ι → Prop) (L : ι → Slots) (HI : ι → List HProp) (hx : G n ds F (RC r x P (Exit.then (CutTo n ds F asg σ I L HI) Q)) σ H)
    (hy : ∀ j, I j → G n ds F K (L j ++ dropS asg σ) (HI j)) : G n ds F (RC r x P (Exit.then K Q)) σ H :=
  .mk fun a w e s => wpIn_mono (hx a w e s) fun ex a' w' q => by
    cases ex with
    | normal => obtain ⟨j, hj, he, hs⟩ := q; exact hy j hj _ _ he hs
    | exit id => exact q
    | goto l => exact q
    | ret => exact q
    | panic ch => exact q
    | outgrown => exact q
theorem Xo {ι : Type} {c : Code} (asg : List Nat) (I : ι → Prop) (L : ι → Slots) (HI : ι → List HProp) (μ : ι → Nat) (i₀ : ι) (h0 : I i₀)
    (round : ∀ i, I i → G n ds F (RC r c P (Exit.then (RoundTo n ds F asg σ I L HI μ i) Q)) (L i ++ dropS asg σ) (HI i)) (hs : Subs (L i₀) σ := by exact Sb) (hh : ∀ h, starL H h → starL (HI i₀) h := by exact Eh) : G n ds F (RC r (Code.loop c) P Q) σ H :=
  x_loopL asg I L HI μ i₀ h0 hs hh round
end rules

section regions
variable {P : Program} {n : Nat} {ds : List Deferred} {F : Frm} {Q : Exit → Act → World → Prop} {K : Act → World → Prop} {σ : Slots} {H : List HProp} {o : Oper} {d : Nat} {ops : Array Oper} {rest : List Oper} {r : Option Nat}
def WL (r : Option Nat) (P : Program) (ops : Array Oper) (Q : Exit → Act → World → Prop) (l : List Oper) : Act → World → Prop := wpListIn (fen r) 0 P ops Q l
theorem x_region {id : Nat} {l : List Oper} (h : G n ds F (WL r P l.toArray Q l) σ H) : G n ds F (RC r (Code.region id l.toArray false) P Q) σ H := .mk fun a w e s => wpIn_region_lit (h a w e s)
theorem x_nil (h : G n ds F (Q .normal) σ H) : G n ds F (WL r P ops Q []) σ H := .mk fun a w e s => h a w e s
theorem x_ne {K : Act → World → Prop} (h : G n ds F K σ H) : G n ds F (WL r P ops (Exit.then K Q) []) σ H := x_nil (e_then h)
theorem x_sr {id : Nat} {l : List Oper} {y : Code} (h : G n ds F (WL r P l.toArray (Exit.then (RC r y P Q) Q) l) σ H) : G n ds F (RC r (Code.seq (Code.region id l.toArray false) y) P Q) σ H := x_seq (x_region h)
theorem Xin (h : G n ds F (fun a w => o.wpIn (fen r) 0 P a w (WL r P ops Q rest) Q) σ H) (hg : gok ops o σ = true := by exact rfl) : G n ds F (WL r P ops Q (o :: rest)) σ H :=
  .mk fun a w e s => by
    show wpListIn _ _ _ _ _ _ _ _
    unfold wpListIn
    rw [if_pos (gok_wanted hg e)]
    exact h a w e s
theorem Xp (h : G n ds F (fun a w => o.wp P a w (WL r P ops Q rest) Q) σ H) (hg : gok ops o σ = true := by exact rfl) (hn : nd o = true := by exact rfl) : G n ds F (WL r P ops Q (o :: rest)) σ H :=
  Xin (.mk fun a w e s => wp_in hn (h a w e s)) hg
theorem Xi {v : Value} (hy : Yv P n ds F σ o v) (h : G n ds F (WL r P ops Q rest) ((d, v) :: σ) H) (hg : gok ops o σ = true := by exact rfl) (hd : o.dst = some d := by exact rfl) (hdn : Nat.blt d n = true := by exact rfl) (hn : nd o = true := by exact rfl) :
    G n ds F (WL r P ops Q (o :: rest)) σ H := Xp (op_y hy hd hdn h) hg hn
theorem Xx (h : G n ds F (WL r P ops Q rest) ((d, undef) :: σ) H) (hg : gno ops o σ = true := by exact rfl) (hd : o.dst = some d := by exact rfl) (hdn : Nat.blt d n = true := by exact rfl) : G n ds F (WL r P ops Q (o :: rest)) σ H :=
  .mk fun a w e s => by
    show wpListIn _ _ _ _ _ _ _ _
    unfold wpListIn
    rw [if_neg (by simp [gno_wanted hg e]), hd]
    exact ⟨fun f _ => fen_fn r f, h _ w (e.put hdn undef) s⟩
theorem Xx0 (h : G n ds F (WL r P ops Q rest) σ H) (hg : gno ops o σ = true := by exact rfl) (hd : o.dst = none := by exact rfl) : G n ds F (WL r P ops Q (o :: rest)) σ H :=
  .mk fun a w e s => by
    show wpListIn _ _ _ _ _ _ _ _
    unfold wpListIn
    rw [if_neg (by simp [gno_wanted hg e]), hd]
    exact ⟨fun f _ => fen_fn r f, h _ w e s⟩
-- regions that draw their order
def nds (ops : Array Oper) : Bool := ops.toList.all nd
theorem nds_at (h : nds ops = true) {i : Nat} {o : Oper} (ho : ops[i]? = some o) : nd o = true := by
  unfold nds at h
  rw [List.all_eq_true] at h
  exact h o (List.mem_of_getElem? (by rw [Array.getElem?_toList]; exact ho))
theorem anyIn_step {Q : Exit → Act → World → Prop} (hn : nds ops = true) (fuel : Nat) (listed : Array Bool) (a : Act) (w : World) (hne : ∃ i, i ∈ Region.ready .any ops listed) (h : ∀ i ∈ Region.ready .any ops listed, ∃ o, ops[i]? = some o ∧ wpO P ops o (wpAnyIn (fen r) 0 P .any ops Q fuel (listed.setIfInBounds i true)) a w) :
    wpAnyIn (fen r) 0 P .any ops Q (fuel + 1) listed a w := by
  refine ⟨fun hr => ?_, fun i hi => ?_⟩
  · obtain ⟨i, hi⟩ := hne; rw [hr] at hi; cases hi
  · obtain ⟨o, ho, hh⟩ := h i hi
    unfold wpOpIn
    unfold wpO at hh
    simp only [ho]
    split
    · rename_i hw
      rw [if_pos hw] at hh
      have h2 := wp_in (r := r) (Q := NoQ) (nds_at hn ho) hh
      refine ⟨fun f _ => fen_fn r f, ?_⟩
      have h3 := h2.2
      generalize (o.semAt (fen r).round a.eval).run P w = res at *
      cases res with
      | ok nx w' =>
        cases nx <;> simp only [Oper.uponIn] at h3 ⊢ <;> first
          | exact h3
          | exact ⟨h3.1, h3.2.mono fun e w'' he => by cases e <;> first | exact he | exact he.elim | exact (noLets he).elim⟩
      | halt x w' => cases x <;> simp only [Oper.uponIn] at h3 ⊢ <;> exact h3.elim
    · rename_i hw
      rw [if_neg hw] at hh
      exact ⟨fun f _ => fen_fn r f, hh⟩
theorem xT {id : Nat} (ld : Bool) (hm : P.follows .mixedOrders = true) (h : G n ds F (TT P ops F (Q .normal) (tel (aFl P ld ops) ops)) σ H) (ok : txOk ops.size (aFl P ld ops) ops = true := by kernel_rfl) (hn : nds ops = true := by kernel_rfl) : G n ds F (RC r (Code.region id ops true) P Q) σ H := by
  have hk : (tel (aFl P ld ops) ops).length ≤ ops.size := by
    have h1 : (aFl P ld ops).length = ops.toList.length := by simp only [txOk, Bool.and_eq_true, beq_iff_eq] at ok; exact ok.1.1.1.1.1
    have := congrArg List.length (tel_map (ops := ops) h1)
    simp at this; omega
  refine .mk fun a w e s => wpIn_region_any hm (wpT_all (k := ops.size) (fl := aFl P ld ops) (S1 := FrameOk F) (S2 := FrameOk F) (WA := wpAnyIn (fen r) 0 P .any ops Q) (anyIn_step hn) (fun listed a w hr hq => ⟨hr, hq⟩) ok ?_ s.frame)
  rw [List.take_of_length_le hk, List.drop_of_length_le hk]
  have h2 : ∀ (l : List (Nat × Bool × Oper)) (a : Act) (w : World), FrameOk F w → wpT P ops (FrameOk F) (Q .normal) l a w → wpT P ops (FrameOk F) (fun a w => FrameOk F w ∧ wpT P ops (FrameOk F) (Q .normal) [] a w) l a w := by
    intro l
    induction l with
    | nil => intro a w hS hh; exact ⟨hS, hh⟩
    | cons x l ih =>
      obtain ⟨j, fl, ox⟩ := x
      intro a w hS hh
      cases fl with
      | true => obtain ⟨v, hv, hh⟩ := hh; exact ⟨v, hv, ih _ _ hS hh⟩
      | false => exact wpO_mono (fun a' w' hq => ⟨hq.1, ih _ _ hq.1 hq.2⟩) hh
  exact h2 _ _ _ s.frame (h a _ e (s.drawn _)).2
end regions
end Go.Eng
