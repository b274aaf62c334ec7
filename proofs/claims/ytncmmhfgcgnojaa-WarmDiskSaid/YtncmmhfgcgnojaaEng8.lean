/- The engine, part 8: contracts over parts that hide something. -/
import Derived.Test.YtncmmhfgcgnojaaTypes
namespace Go.Eng
open Go
section
variable {P : Program} {f : FuncId} {args : List Value} {pre : Hp → Prop} {H : List HProp} {R : Value → List HProp → Prop}
theorem St.ex {ι : Type} {F : Frm} {w : World} {A : ι → HProp} (s : St F ((fun k => ∃ x, A x k) :: H) w) : ∃ x, St F (A x :: H) w := by
  obtain ⟨a1, a2, a3, fr, hh, ⟨h1, h2, d, l1, l2, ⟨x, hx⟩, st⟩, y, z⟩ := s
  exact ⟨x, a1, a2, a3, fr, hh, ⟨h1, h2, d, l1, l2, hx, st⟩, y, z⟩
theorem FnS.exL {ι : Type} {A : ι → HProp} (h : ∀ x, FnS P f args pre (A x :: H) R) : FnS P f args pre ((fun k => ∃ x, A x k) :: H) R := fun F w hp s => by
  obtain ⟨x, s'⟩ := s.ex
  exact h x F w hp s'
theorem FnS.pureL {X : Prop} {A : HProp} (h : X → FnS P f args pre (A :: H) R) : FnS P f args pre ((fun k => X ∧ A k) :: H) R := fun F w hp s => by
  obtain ⟨a1, a2, a3, fr, hh, ⟨h1, h2, d, l1, l2, ⟨x, hx⟩, st⟩, y, z⟩ := s
  exact h x F w hp ⟨a1, a2, a3, fr, hh, ⟨h1, h2, d, l1, l2, hx, st⟩, y, z⟩
theorem FnS.starsL {L : List HProp} (h : FnS P f args pre (L ++ H) R) : FnS P f args pre (stars L :: H) R := fun F w hp s =>
  h F w hp (s.sub fun k s => by
    obtain ⟨h1, h2, d, l1, l2, s1, s2⟩ := s
    exact starL_mono (append_starL s1 s2 d) (uni_le l1 l2))
/-- what is told, said otherwise -/
theorem FnS.out {R' : Value → List HProp → Prop} (h : FnS P f args pre H R) (hr : ∀ v H', R v H' → ∃ H'', R' v H'' ∧ ∀ k, starL H' k → starL H'' k) : FnS P f args pre H R' := fun F w p s =>
  (h F w p s).mono fun e w' hh => by
    obtain ⟨v, H', he, r, st⟩ := hh
    obtain ⟨H'', r', ent⟩ := hr v H' r
    exact ⟨v, H'', he, r', st.sub ent⟩
theorem FnS.inp {pre' : Hp → Prop} (h : FnS P f args pre H R) (hp : ∀ k, pre' k → pre k) : FnS P f args pre' H R := fun F w p s => h F w (hp _ p) s
/-- what the frame holds may be known first -/
theorem FnS.of_pre {X : Prop} (hx : ∀ k, pre k → X) (h : X → FnS P f args pre H R) : FnS P f args pre H R := fun F w p s => h (hx _ p) F w p s
theorem starL_pure {X : Prop} {A : HProp} {h : Hp} (x : X) (s : starL (A :: H) h) : starL ((fun k => X ∧ A k) :: H) h := starL_cons_mono (fun _ p => ⟨x, p⟩) s
end
section
variable {P : Program} {n : Nat} {ds : List Deferred} {F : Frm} {K : Act → World → Prop} {σ : Slots} {H : List HProp}
theorem g_pure {X : Prop} {A : HProp} (h : X → G n ds F K σ (A :: H)) : G n ds F K σ ((fun k => X ∧ A k) :: H) := by
  refine .mk fun a w e s => ?_
  obtain ⟨a1, a2, a3, fr, hh, ⟨h1, h2, d, l1, l2, ⟨x, hx⟩, st⟩, y, z⟩ := s
  exact h x a w e ⟨a1, a2, a3, fr, hh, ⟨h1, h2, d, l1, l2, hx, st⟩, y, z⟩
end
/-- a fact on the heap's part, taken along -/
theorem sel_fact {H R : List HProp} {A : HProp} {X : Prop} (s : Sel H A R) (hx : ∀ k, A k → X) : ∀ h, InL H h → X := fun h hin => by obtain ⟨k, p, _⟩ := sel_in s h hin; exact hx k p
theorem own_len {a : Option Addr} {cap e : Nat} {xs : List Value} (k : Hp) (o : own a cap e 1 xs k) : xs.length ≤ cap := by have := o.1; omega
theorem own_none {a : Option Addr} {cap e sz : Nat} {xs : List Value} {k : Hp} (o : own a cap e sz xs k) (h : 0 < xs.length) : a.isSome = true := by
  obtain ⟨h1, _, h3 | ⟨b, sp, rfl, _, _⟩⟩ := o
  · obtain ⟨rfl, rfl⟩ := h3; omega
  · rfl
end Go.Eng
