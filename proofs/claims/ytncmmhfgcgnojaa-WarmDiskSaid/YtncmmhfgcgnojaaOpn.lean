/- Arguments opened: from what a reading says to what the frame holds. -/
import Derived.Test.YtncmmhfgcgnojaaFin
import Derived.DataReads
import Derived.ChangeArms
import Derived.WideShapes
set_option maxRecDepth 100000
namespace Go.Eng
open Go Go.RowKit Go.WideShapes Go.ChangeShapes

theorem flat_get {sz : Nat} (hsz : 0 < sz) : ∀ (L : List (List Value)), (∀ c ∈ L, c.length = sz) → ∀ k v, L.flatten[k]? = some v → ∃ i c, L[i]? = some c ∧ c[k - i * sz]? = some v ∧ i * sz ≤ k ∧ k - i * sz < sz := by
  intro L
  induction L with
  | nil => intro _ k v h; simp at h
  | cons c r ih =>
    intro hl k v h
    have hc := hl c (List.mem_cons_self ..)
    rw [List.flatten_cons] at h
    by_cases hk : k < c.length
    · rw [List.getElem?_append_left hk] at h
      exact ⟨0, c, rfl, by simpa using h, by omega, by omega⟩
    · rw [List.getElem?_append_right (by omega)] at h
      obtain ⟨i, c', h1, h2, h3, h4⟩ := ih (fun x hx => hl x (List.mem_cons_of_mem _ hx)) _ v h
      rw [hc] at h2 h3 h4
      refine ⟨i + 1, c', by simpa using h1, ?_, ?_, ?_⟩ <;> rw [Nat.add_mul] <;> try omega
      rw [show k - (i * sz + 1 * sz) = k - sz - i * sz from by omega]; exact h2
theorem list_of {α : Type} {enc : α → List Value} {Q : α → Prop} : ∀ (L : List (List Value)), (∀ c ∈ L, ∃ y, c = enc y ∧ Q y) → ∃ ys : List α, L = ys.map enc ∧ ∀ y ∈ ys, Q y := by
  intro L
  induction L with
  | nil => intro _; exact ⟨[], rfl, by simp⟩
  | cons c r ih =>
    intro h
    obtain ⟨y, rfl, hy⟩ := h c (List.mem_cons_self ..)
    obtain ⟨ys, rfl, hys⟩ := ih fun x hx => h x (List.mem_cons_of_mem _ hx)
    exact ⟨y :: ys, rfl, by simpa using ⟨hy, hys⟩⟩
section
variable {H : Type} {enc : TypeId × Value → H} {P : Program} {w : World} {spare : Nat → Bool} {held : Bool} {base : Nat}
theorem rd_int {t : TypeId} {k : IntKind} {fuel : Nat} {cs : List Value} {x : DataW H × List MemPlace} (ht : P.underlying t = some (.int k)) (h : DataW.trod enc P w base spare held fuel t cs = some x) : ∃ n, cs = [.int k n] ∧ k.min ≤ n ∧ n ≤ k.max := by
  obtain ⟨n, h1, _, h2⟩ := DataW.trod_int ht h
  exact ⟨n, h1, by simpa [Lit.wf] using h2⟩
theorem rd_bool {t : TypeId} {fuel : Nat} {cs : List Value} {x : DataW H × List MemPlace} (ht : P.underlying t = some .bool) (h : DataW.trod enc P w base spare held fuel t cs = some x) : ∃ b, cs = [.bool b] := by
  obtain ⟨n, h1, _⟩ := DataW.trod_bool ht h
  exact ⟨n, h1⟩
theorem rd_str {t : TypeId} {fuel : Nat} {cs : List Value} {x : DataW H × List MemPlace} (ht : P.underlying t = some .string) (h : DataW.trod enc P w base spare held fuel t cs = some x) : ∃ l : List UInt8, cs = [strv l] ∧ l.length ≤ maxLen := by
  obtain ⟨s, h1, _, h2⟩ := DataW.trod_string ht h
  refine ⟨s.data.toList, by rw [h1]; unfold strv; rw [Array.toArray_toList], ?_⟩
  have : s.data.toList.length = s.size := Array.length_toList
  omega
theorem rd_slice {α : Type} {en : α → List Value} {Q : α → Prop} {t e : TypeId} {fuel : Nat} {cs : List Value} {x : DataW H × List MemPlace} (ht : P.underlying t = some (.slice e)) (hsz : 0 < P.cellsOf e)
    (he : ∀ n cs x, DataW.trod enc P w base spare held n e cs = some x → ∃ y, cs = en y ∧ Q y) (h : DataW.trod enc P w base spare held fuel t cs = some x) :
    ∃ (a : Option Addr) (cap : Nat) (ys : List α), cs = [.slice a ys.length cap] ∧ ys.length ≤ cap ∧ cap ≤ maxLen ∧ Rdl (hOf w) a (ys.flatMap en) ∧ ∀ y ∈ ys, Q y := by
  rcases DataW.trod_slice ht h with ⟨h0, _⟩ | ⟨a, len, cap, elems, rest, n, _, rfl, _, hb, hl, hm, hlen, hel, _, _⟩
  · exact ⟨none, 0, [], h0, Nat.le_refl _, Nat.zero_le _, Rdl.nil, by simp⟩
  · have hc : ∀ i, i < len → ∃ c, w.cells? base (a.add (i * P.cellsOf e)) (P.cellsOf e) = some c ∧ ∃ y, c = en y ∧ Q y := fun i hi => by
      have h1 := hel i hi
      rw [List.getElem?_eq_getElem (by omega)] at h1
      obtain ⟨c, h2, h3⟩ := Option.bind_eq_some_iff.1 h1
      exact ⟨c, h2, he _ _ _ h3⟩
    let L : List (List Value) := (List.range len).map fun i => (w.cells? base (a.add (i * P.cellsOf e)) (P.cellsOf e)).getD []
    have hL : ∀ c ∈ L, c.length = P.cellsOf e ∧ ∃ y, c = en y ∧ Q y := by
      intro c hcm
      simp only [L, List.mem_map, List.mem_range] at hcm
      obtain ⟨i, hi, rfl⟩ := hcm
      obtain ⟨c, h2, h3⟩ := hc i hi
      rw [h2]
      exact ⟨(World.cells?_some h2).2.1, h3⟩
    obtain ⟨ys, e1, e2⟩ := list_of L fun c hcm => (hL c hcm).2
    have hlenL : ys.length = len := by
      have := congrArg List.length e1
      simpa [L] using this.symm
    refine ⟨some a, cap, ys, by rw [hlenL], by omega, hm, fun k v hv => ?_, e2⟩
    rw [List.flatMap_def, ← e1] at hv
    obtain ⟨i, c, h1, h2, h3, h4⟩ := flat_get hsz L (fun c hcm => (hL c hcm).1) k v hv
    refine ⟨a, rfl, ?_⟩
    have hi : i < len := by
      have := (List.getElem?_eq_some_iff.1 h1).1
      simpa [L] using this
    obtain ⟨c', h5, _⟩ := hc i hi
    have h6 : L[i]? = some c' := by simp [L, hi, h5]
    rw [h1] at h6
    cases h6
    have h7 := (World.cells?_some h5).2.2 (k - i * P.cellsOf e) h4
    rw [add_add, show i * P.cellsOf e + (k - i * P.cellsOf e) = k from by omega, h2] at h7
    exact h7
theorem flatMap_bcells : ∀ (l : List UInt8), (l.flatMap fun c : UInt8 => [Value.int .u8 (c.toNat : Int)]) = bcells l := by
  intro l; induction l with
  | nil => rfl
  | cons c r ih => simp only [List.flatMap_cons, ih]; rfl
theorem rd_bytes {t e : TypeId} {fuel : Nat} {cs : List Value} {x : DataW H × List MemPlace} (ht : P.underlying t = some (.slice e)) (he : P.underlying e = some (.int .u8)) (hc : P.cellsOf e = 1) (h : DataW.trod enc P w base spare held fuel t cs = some x) :
    ∃ a cap, ∃ l : List UInt8, cs = [.slice a l.length cap] ∧ l.length ≤ cap ∧ cap ≤ maxLen ∧ Rdl (hOf w) a (bcells l) := by
  obtain ⟨a, cap, ys, h1, h2, h3, h4, _⟩ := rd_slice (en := fun c : UInt8 => [.int .u8 (c.toNat : Int)]) (Q := fun _ => True) ht (by omega) (fun n cs x hx => by
    obtain ⟨n, rfl, q1, q2⟩ := rd_int he hx
    simp only [IntKind.min, IntKind.max, IntKind.signed, IntKind.bits] at q1 q2
    refine ⟨UInt8.ofNat n.toNat, ?_, trivial⟩
    have : (UInt8.ofNat n.toNat).toNat = n.toNat := by simp; omega
    rw [this]
    congr 2
    simp at q1
    omega) h
  exact ⟨a, cap, ys, h1, h2, h3, by rw [flatMap_bcells] at h4; exact h4⟩
theorem flatMap_icells (k : IntKind) : ∀ (l : List Int), (l.flatMap fun n : Int => [Value.int k n]) = l.map fun n => .int k n := by
  intro l; induction l with
  | nil => rfl
  | cons c r ih => simp only [List.flatMap_cons, ih]; rfl
theorem rd_ints {t e : TypeId} {k : IntKind} {fuel : Nat} {cs : List Value} {x : DataW H × List MemPlace} (ht : P.underlying t = some (.slice e)) (he : P.underlying e = some (.int k)) (hc : P.cellsOf e = 1) (h : DataW.trod enc P w base spare held fuel t cs = some x) :
    ∃ a cap, ∃ l : List Int, cs = [.slice a l.length cap] ∧ l.length ≤ cap ∧ cap ≤ maxLen ∧ Rdl (hOf w) a (l.map fun n => .int k n) ∧ ∀ n ∈ l, k.min ≤ n ∧ n ≤ k.max := by
  obtain ⟨a, cap, ys, h1, h2, h3, h4, h5⟩ := rd_slice (en := fun n : Int => [.int k n]) (Q := fun n => k.min ≤ n ∧ n ≤ k.max) ht (by omega) (fun n cs x hx => rd_int he hx) h
  exact ⟨a, cap, ys, h1, h2, h3, by rw [flatMap_icells] at h4; exact h4, h5⟩
/-- a struct's fields -/
theorem rd_struct {t : TypeId} {fs : Array Field} {fuel : Nat} {cs : List Value} {x : DataW H × List MemPlace} (ht : P.underlying t = some (.struct fs)) (h : DataW.trod enc P w base spare held fuel t cs = some x) :
    cs.length = P.cellsOf t ∧ ∀ (i : Nat) (f : Field), fs[i]? = some f → ∃ n x', DataW.trod enc P w base spare held n f.type ((cs.drop f.offset).take (P.cellsOf f.type)) = some x' := by
  obtain ⟨xs, n, _, _, h1, h2, h3⟩ := DataW.trod_struct ht h
  refine ⟨h1, fun i f hf => ⟨n, xs[i]'(by rw [h2]; exact (Array.getElem?_eq_some_iff.1 hf).1), ?_⟩⟩
  rw [h3 i f hf, List.getElem?_eq_getElem]
def flds (P : Program) (t : TypeId) : Option (List (Nat × TypeId × Nat)) :=
  match P.underlying t with
  | some (.struct fs) => some (fs.toList.map fun f => (f.offset, f.type, P.cellsOf f.type))
  | _ => none
theorem rd_flds {t : TypeId} {L : List (Nat × TypeId × Nat)} {fuel : Nat} {cs : List Value} {x : DataW H × List MemPlace} (ht : flds P t = some L) (h : DataW.trod enc P w base spare held fuel t cs = some x) :
    cs.length = P.cellsOf t ∧ ∀ (i : Nat) (o ty k : Nat), L[i]? = some (o, ty, k) → ∃ n x', DataW.trod enc P w base spare held n ty ((cs.drop o).take k) = some x' := by
  unfold flds at ht
  cases hu : P.underlying t with
  | none => simp [hu] at ht
  | some d =>
    cases d <;> simp [hu] at ht
    rename_i fs
    subst ht
    obtain ⟨h1, h2⟩ := rd_struct hu h
    refine ⟨h1, fun i o ty k hi => ?_⟩
    simp only [List.getElem?_map, Option.map_eq_some_iff, Prod.mk.injEq] at hi
    obtain ⟨f, hf, rfl, rfl, rfl⟩ := hi
    exact h2 i f (by simpa using hf)
theorem val_flds {t : TypeId} {L : List (Nat × TypeId × Nat)} {v : Value} {r : Reach} {b0 : Nat} (ht : flds P t = some L) (h : Value.okWide P w r b0 t v) : v = .agg v.cells.toList.toArray := by
  unfold flds at ht
  cases hu : P.underlying t with
  | none => simp [hu] at ht
  | some d =>
    cases d <;> simp [hu] at ht
    simp only [Value.okWide, hu] at h
    obtain ⟨cs, rfl, _⟩ := h
    simp [Value.cells]
-- values
theorem val_struct {t : TypeId} {fs : Array Field} {v : Value} {r : Reach} {b0 : Nat} (ht : P.underlying t = some (.struct fs)) (h : Value.okWide P w r b0 t v) : v = .agg v.cells.toList.toArray := by
  simp only [Value.okWide, ht] at h
  obtain ⟨cs, rfl, _⟩ := h
  simp [Value.cells]
theorem val_slice {t e : TypeId} {v : Value} {r : Reach} {b0 : Nat} (ht : P.underlying t = some (.slice e)) (h : Value.okWide P w r b0 t v) {u : Value} (hu : v.cells.toList = [u]) : v = u := by
  obtain ⟨a, l, c, rfl⟩ := okWide_slice ht h
  simpa [Value.cells] using hu
theorem val_int {t : TypeId} {k : IntKind} {v : Value} {r : Reach} {b0 : Nat} (ht : P.underlying t = some (.int k)) (h : Value.okWide P w r b0 t v) {u : Value} (hu : v.cells.toList = [u]) : v = u := by
  obtain ⟨n, rfl⟩ := okWide_int ht h
  simpa [Value.cells] using hu
end
end Go.Eng
