/- WarmDisk: the acts that came in, opened; what the form's own reach gives of each. -/
import Derived.Test.YtncmmhfgcgnojaaOpn
import Derived.Test.YtncmmhfgcgnojaaV5
import Derived.SizedLaws
import Derived.OpenShut
import Derived.Test.YtncmmhfgcgnojaaRows
set_option maxRecDepth 100000
namespace Go.Eng
open Go Go.RowKit Go.WideShapes Go.ChangeShapes
theorem weights_all {H : Type} {P : Program} {e : TypeId} {l : List (DataW H)} {d : DataW H} (h : d ∈ l) : ∀ u ∈ d.weights P e, u ∈ DataW.weightsAll P e l := by
  induction l with
  | nil => cases h
  | cons x r ih =>
    intro u hu
    simp only [DataW.weightsAll, List.mem_append]
    cases List.mem_cons.1 h with
    | inl q => subst q; exact .inl hu
    | inr q => exact .inr (ih q u hu)
section
variable {H : Type} {enc : TypeId × Value → H} {P : Program} {w : World} {spare : Nat → Bool} {held : Bool} {base : Nat} {B : Nat → Prop}
/-- a list, with what is asked of each weight -/
theorem rd_sliceW {α : Type} {en : α → List Value} {Q : α → Prop} {t e : TypeId} {fuel : Nat} {cs : List Value} {x : DataW H × List MemPlace} (ht : P.underlying t = some (.slice e)) (hsz : 0 < P.cellsOf e)
    (he : ∀ n cs x, DataW.trod enc P w base spare held n e cs = some x → (∀ u ∈ x.1.weights P e, B u) → ∃ y, cs = en y ∧ Q y) (h : DataW.trod enc P w base spare held fuel t cs = some x) (hB : ∀ u ∈ x.1.weights P t, B u) :
    ∃ (a : Option Addr) (cap : Nat) (ys : List α), cs = [.slice a ys.length cap] ∧ ys.length ≤ cap ∧ cap ≤ maxLen ∧ Rdl (hOf w) a (ys.flatMap en) ∧ ∀ y ∈ ys, Q y := by
  rcases DataW.trod_slice ht h with ⟨h0, _⟩ | ⟨a, len, cap, elems, rest, n, _, rfl, hx, hb, hl, hm, hlen, hel, _, _⟩
  · exact ⟨none, 0, [], h0, Nat.le_refl _, Nat.zero_le _, Rdl.nil, by simp⟩
  · have hBe : ∀ d ∈ elems, ∀ u ∈ d.1.weights P e, B u := fun d hd u hu => hB u (by
      rw [hx]
      simp only [DataW.weights, ht, List.mem_cons, List.mem_append]
      exact .inr (.inl (weights_all (List.mem_map_of_mem hd) u hu)))
    have hc : ∀ i, i < len → ∃ c, w.cells? base (a.add (i * P.cellsOf e)) (P.cellsOf e) = some c ∧ ∃ y, c = en y ∧ Q y := fun i hi => by
      have h1 := hel i hi
      have hg : elems[i]? = some (elems[i]'(by omega)) := List.getElem?_eq_getElem (by omega)
      rw [hg] at h1
      obtain ⟨c, h2, h3⟩ := Option.bind_eq_some_iff.1 h1
      exact ⟨c, h2, he _ _ _ h3 (hBe _ (List.mem_of_getElem? hg))⟩
    let L : List (List Value) := (List.range len).map fun i => (w.cells? base (a.add (i * P.cellsOf e)) (P.cellsOf e)).getD []
    have hL : ∀ c ∈ L, c.length = P.cellsOf e ∧ ∃ y, c = en y ∧ Q y := by
      intro c hcm
      simp only [L, List.mem_map, List.mem_range] at hcm
      obtain ⟨i, hi, rfl⟩ := hcm
      obtain ⟨c, h2, h3⟩ := hc i hi
      rw [h2]
      exact ⟨(World.cells?_some h2).2.1, h3⟩
    obtain ⟨ys, e1, e2⟩ := list_of L fun c hcm => (hL c hcm).2
    have hlenL : ys.length = len := by
      have := congrArg List.length e1
      simpa [L] using this.symm
    refine ⟨some a, cap, ys, by rw [hlenL], by omega, hm, fun k v hv => ?_, e2⟩
    rw [List.flatMap_def, ← e1] at hv
    obtain ⟨i, c, h1, h2, h3, h4⟩ := flat_get hsz L (fun c hcm => (hL c hcm).1) k v hv
    refine ⟨a, rfl, ?_⟩
    have hi : i < len := by
      have := (List.getElem?_eq_some_iff.1 h1).1
      simpa [L] using this
    obtain ⟨c', h5, _⟩ := hc i hi
    have h6 : L[i]? = some c' := by simp [L, hi, h5]
    rw [h1] at h6
    cases h6
    have h7 := (World.cells?_some h5).2.2 (k - i * P.cellsOf e) h4
    rw [add_add, show i * P.cellsOf e + (k - i * P.cellsOf e) = k from by omega, h2] at h7
    exact h7
theorem rd_fldsW {t : TypeId} {L : List (Nat × TypeId × Nat)} {fuel : Nat} {cs : List Value} {x : DataW H × List MemPlace} (ht : flds P t = some L) (h : DataW.trod enc P w base spare held fuel t cs = some x) (hB : ∀ u ∈ x.1.weights P t, B u) :
    cs.length = P.cellsOf t ∧ ∀ (i : Nat) (o ty k : Nat), L[i]? = some (o, ty, k) → ∃ n x', DataW.trod enc P w base spare held n ty ((cs.drop o).take k) = some x' ∧ ∀ u ∈ x'.1.weights P ty, B u := by
  unfold flds at ht
  cases hu : P.underlying t with
  | none => simp [hu] at ht
  | some d =>
    cases d <;> simp [hu] at ht
    rename_i fs
    subst ht
    obtain ⟨xs, n, _, hx, h1, h2, h3⟩ := DataW.trod_struct hu h
    refine ⟨h1, fun i o ty k hi => ?_⟩
    simp only [List.getElem?_map, Option.map_eq_some_iff, Prod.mk.injEq] at hi
    obtain ⟨f, hf, rfl, rfl, rfl⟩ := hi
    have hf' : fs[i]? = some f := by simpa using hf
    have hi : i < xs.length := by rw [h2]; exact (Array.getElem?_eq_some_iff.1 hf').1
    refine ⟨n, xs[i], by rw [h3 i f hf', List.getElem?_eq_getElem], fun u hu' => hB u ?_⟩
    rw [hx]
    simp only [DataW.weights, hu]
    exact DataW.weights_mem_each (j := i) (by rw [List.getElem?_map, hf]; rfl) (by rw [List.getElem?_map, List.getElem?_eq_getElem hi]; rfl) u hu'
theorem rd_strW {t : TypeId} {fuel : Nat} {cs : List Value} {x : DataW H × List MemPlace} (ht : P.underlying t = some .string) (h : DataW.trod enc P w base spare held fuel t cs = some x) (hB : ∀ u ∈ x.1.weights P t, B u) : ∃ l : List UInt8, cs = [strv l] ∧ l.length ≤ maxLen ∧ B l.length := by
  obtain ⟨s, h1, hx, h2⟩ := DataW.trod_string ht h
  have e : s.data.toList.length = s.size := Array.length_toList
  refine ⟨s.data.toList, by rw [h1]; unfold strv; rw [Array.toArray_toList], by omega, hB _ ?_⟩
  rw [hx]
  simp [DataW.weights]
end
end Go.Eng
namespace Go.Proofs.Ytncmmhfgcgnojaa
open Go Go.Eng Go.ChangeShapes Go.WideShapes Go.ChangeAt Go.RowKit
theorem Try.own : ownKnob Try.prog.godebug = none := by kernel_rfl
theorem Try.laidOut : laidOutB Try.prog = true := by kernel_rfl
theorem Try.bool4 : Try.prog.underlying 4 = some .bool := by kernel_rfl
theorem flAc : flds Try.prog 44 = some [(0, 3, 1), (1, 3, 1), (2, 9, 1), (3, 9, 1), (4, 38, 1), (5, 39, 1), (6, 42, 2)] := by kernel_rfl
theorem flFt : flds Try.prog 119 = some [(0, 3, 1), (1, 3, 1), (2, 3, 1)] := by kernel_rfl
theorem flCut : flds Try.prog 42 = some [(0, 40, 1), (1, 3, 1)] := by kernel_rfl
section
variable {H : Type} {enc : TypeId × Value → H} {w : World} {spare : Nat → Bool} {held : Bool}
theorem rd_flt {fuel : Nat} {cs : List Value} {x : DataW H × List MemPlace} (h : DataW.trod enc Try.prog w 0 spare held fuel 119 cs = some x) : ∃ y : Flt, cs = ftC y ∧ True := by
  obtain ⟨hl, hf⟩ := rd_flds flFt h
  rw [show Try.prog.cellsOf 119 = 3 by kernel_rfl] at hl
  match cs, hl with
  | [c0, c1, c2], _ =>
    obtain ⟨_, _, h0⟩ := hf 0 _ _ _ rfl
    obtain ⟨_, _, h1⟩ := hf 1 _ _ _ rfl
    obtain ⟨_, _, h2⟩ := hf 2 _ _ _ rfl
    obtain ⟨z0, e0, _⟩ := rd_int T.u_3 h0
    obtain ⟨z1, e1, _⟩ := rd_int T.u_3 h1
    obtain ⟨z2, e2, _⟩ := rd_int T.u_3 h2
    simp only [List.drop_zero, List.take_succ_cons, List.take_zero, List.drop_succ_cons, List.cons.injEq, and_true] at e0 e1 e2
    subst e0 e1 e2
    exact ⟨⟨z0, z1, z2⟩, rfl, trivial⟩
theorem rd_act {fuel : Nat} {cs : List Value} {x : DataW H × List MemPlace} (h : DataW.trod enc Try.prog w 0 spare held fuel 44 cs = some x) (hB : ∀ u ∈ x.1.weights Try.prog 44, u ≤ reachBytes) : ∃ y : AcL, cs = acE y ∧ AcOk (hOf w) y := by
  obtain ⟨hl, hf⟩ := rd_fldsW flAc h hB
  rw [show Try.prog.cellsOf 44 = 8 by kernel_rfl] at hl
  match cs, hl with
  | [c0, c1, c2, c3, c4, c5, c6, c7], _ =>
    obtain ⟨_, _, h0, _⟩ := hf 0 _ _ _ rfl
    obtain ⟨_, _, h1, _⟩ := hf 1 _ _ _ rfl
    obtain ⟨_, _, h2, q2⟩ := hf 2 _ _ _ rfl
    obtain ⟨_, _, h3, _⟩ := hf 3 _ _ _ rfl
    obtain ⟨_, _, h4, _⟩ := hf 4 _ _ _ rfl
    obtain ⟨_, _, h5, _⟩ := hf 5 _ _ _ rfl
    obtain ⟨_, _, h6, _⟩ := hf 6 _ _ _ rfl
    obtain ⟨_, hg⟩ := rd_flds flCut h6
    obtain ⟨_, _, h7⟩ := hg 0 _ _ _ rfl
    obtain ⟨_, _, h8⟩ := hg 1 _ _ _ rfl
    obtain ⟨z0, e0, _⟩ := rd_int T.u_3 h0
    obtain ⟨z1, e1, _⟩ := rd_int T.u_3 h1
    obtain ⟨nm, e2, _, b2⟩ := rd_strW T.u_9 h2 q2
    obtain ⟨to, e3, _⟩ := rd_str T.u_9 h3
    obtain ⟨ba, bc, bl, e4, m4, _, r4⟩ := rd_bytes Try.underlying38 T.u_5 (by kernel_rfl) h4
    obtain ⟨pa, pc, pl, e5, m5, _, r5, _⟩ := rd_slice (en := ftC) (Q := fun _ => True) Try.underlying39 (by rw [show Try.prog.cellsOf 119 = 3 by kernel_rfl]; omega) (fun _ _ _ hx => rd_flt hx) h5
    obtain ⟨ca, cc, cl, e6, m6, _, r6, _⟩ := rd_ints Try.underlying40 T.u_3 (by kernel_rfl) h7
    obtain ⟨z7, e7, _⟩ := rd_int T.u_3 h8
    simp only [List.drop_zero, List.take_succ_cons, List.take_zero, List.drop_succ_cons, List.cons.injEq, and_true] at e0 e1 e2 e3 e4 e5 e6 e7
    subst e0 e1 e2 e3 e4 e5 e6 e7
    unfold reachBytes at b2
    exact ⟨⟨z0, z1, nm, to, ba, bc, bl, pa, pc, pl, ca, cc, cl, z7⟩, rfl, ⟨r4, r5, r6⟩, m4, m5, m6, by dsimp only; omega⟩
end

theorem warmDisk_lifted (os : Os) (started : os.Started) (H : Type) (enc : TypeId × Value → H) :
    ReturnsInHanded {} Try.checked os 3 .any (Rows.warmDiskSpec.pre6 enc Try.prog Try.f3 Rows.warmDiskRow.domain false) (Rows.warmDiskSpec.post enc Try.prog Try.f3 false true false false) := by
  refine returnsInHanded_of_change_sized (C := Try.checked) Try.own started (by kernel_rfl) Try.func3
    (ChangeSpec.witness6 (enc := enc) (C := Try.checked) false ⟨#[], #[.agg #[.int .i64 0, .int .i64 0], .slice none 0 0], []⟩ 12 (by kernel_rfl) (by kernel_rfl) (by kernel_rfl) (by kernel_rfl)) ?_
  intro W base args ds gs before hval0 hW hcnd hsz _
  have hval : ∀ (j : Nat) t v, Try.f3.params[j]? = some t → args[j]? = some v → Value.okWide Try.prog W .any base t v := hval0
  have hW' := hW
  obtain ⟨p, q, hA0, hV, rfl, hfz, hnd⟩ := hW
  have hA : DataW.TrodAll enc Try.prog W 0 (fun _ => true) true Try.f3.params.toList args.toList ds p := hA0
  rw [Try.params3] at hA hval
  obtain ⟨v0, v1, d0, d1, p0, p1, rfl, rfl, rfl, h0, h1⟩ := trodAll_two hA
  obtain ⟨rfl, rfl⟩ := trodVars_none hV
  obtain ⟨_, h0⟩ := h0
  obtain ⟨_, h1⟩ := h1
  have hB : ∀ u ∈ d1.weights Try.prog 23, u ≤ reachBytes := fun u hu => by
    have := List.all_eq_true.1 hsz u (DataW.weights_mem_each (j := 1) (t := 23) (d := d1) (by rw [Try.params3]; rfl) rfl u hu)
    simpa using this
  obtain ⟨xs, n, _, hx, g1, g2, g3⟩ := DataW.trod_array Try.underlying22 h0
  rw [show Try.prog.cellsOf 22 = 2 by kernel_rfl] at g1
  rw [show Try.prog.cellsOf 3 = 1 by kernel_rfl] at g3
  obtain ⟨x0, x1, ec0⟩ : ∃ x0 x1, v0.cells.toList = [.int .i64 x0, .int .i64 x1] := by
    generalize v0.cells.toList = cs at *
    match cs, g1 with
    | [c0, c1], _ =>
      have k0 := g3 0 (by omega)
      have k1 := g3 1 (by omega)
      rw [List.getElem?_eq_getElem (by omega)] at k0 k1
      obtain ⟨z0, e0, _⟩ := rd_int T.u_3 k0
      obtain ⟨z1, e1, _⟩ := rd_int T.u_3 k1
      simp at e0 e1
      exact ⟨z0, z1, by rw [e0, e1]⟩
  obtain ⟨a, c, l, ec, hl1, hl2, hr, hok⟩ := rd_sliceW (en := acE) (Q := AcOk (hOf W)) Try.underlying23 (by rw [show Try.prog.cellsOf 44 = 8 by kernel_rfl]; omega) (fun _ _ _ hx hb => rd_act hx hb) h1 hB
  have e1 := val_slice Try.underlying23 (hval 1 23 v1 rfl rfl) ec
  have e0 : v0 = .agg #[.int .i64 x0, .int .i64 x1] := by
    have := hval 0 22 v0 rfl rfl
    simp only [Value.okWide, Try.underlying22] at this
    obtain ⟨cs, rfl, _⟩ := this
    simp only [Value.cells] at ec0
    rw [show cs = #[.int .i64 x0, .int .i64 x1] from by rw [← Array.toArray_toList (xs := cs), ec0]]
  have hc := law_done (warmDisk_fn x0 x1 a c l) W ⟨hr, hok⟩
  rw [← e0, ← e1] at hc
  refine hc.mono fun e W' ⟨he, hb⟩ => ?_
  subst he
  exact ⟨_, rfl, law_post hW' rfl (by kernel_rfl) Try.bool4 rfl Try.laidOut (by rw [Try.params3]; decide +kernel) hb⟩

/-- WarmDisk -/
theorem warmDisk_holds : Rows.WarmDiskSaid :=
  OpenClaim.holds_of_wide 3 Try.f3 rfl rfl rfl rfl rfl rfl rfl ⟨rfl, rfl, rfl, rfl, rfl⟩ rfl rfl rfl rfl rfl (by kernel_rfl) Try.func3 (by kernel_rfl)
    (of_decide_eq_true (by kernel_rfl)) (by unfold Func.isWrapper; first | (rw [if_pos (by decide +kernel)]; kernel_rfl) | (rw [if_neg (by decide +kernel)]; exact ⟨rfl, rfl⟩))
    (fun os started H enc _ => warmDisk_lifted os started H enc)
end Go.Proofs.Ytncmmhfgcgnojaa
