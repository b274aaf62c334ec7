/- Part Pr of the proof. -/
import Derived.Test.YtpgbeapapmdkcaaGreatDoorPa
import Derived.Test.YtpgbeapapmdkcaaGreatDoorPo
import Derived.Below
import Derived.Carry
import Derived.ChangeArms
import Derived.DataReads
import Derived.LaidMore
import Derived.Lib.LaidTab
import Derived.OpenShut
import Derived.ProofKit
import Derived.Stop.Joined
import Derived.Test.YtpgbeapapmdkcaaGreatDoorRows
import Derived.Test.YtpgbeapapmdkcaaGreatDoorTie
import Derived.WideShapes
set_option maxRecDepth 100000
namespace Go.cQ
open Go Go.RowKit Go.WideShapes Go.ChangeShapes
section
variable {H : Type} {enc : TypeId × Value → H} {P : Program}
def frm (W : World) : c9 := ⟨W.os, W.tape, W.output, jB W, W.drawn⟩
theorem TE (W : World) : St (frm W) [] W := ⟨rfl, ⟨rfl, Nat.le_refl _⟩, rfl, Le.refl _, fun _ => none, trivial, (fun _ _ e => by cases e), (fun _ => .inl rfl)⟩
theorem zQ {W W' : World} {L : List aa} (s : St (frm W) L W') : Below W.heap.size W W' := by
 have hk : ∀ k, k < W.heap.size → W'.heap[k]? = W.heap[k]? := fun k hk => by
  have h1 : W.heap[k]? = some W.heap[k] := Array.getElem?_eq_getElem hk
  rw [h1]
  exact s.frame k _ h1
 refine ⟨s.os, s.tape.1, s.output, ?_, hk⟩
 rcases Nat.eq_zero_or_pos W.heap.size with h0 | h0
 ·omega
 have h1 := hk (W.heap.size - 1) (by omega)
 rw [Array.getElem?_eq_getElem (show W.heap.size - 1 < W.heap.size by omega)] at h1
 have := (Array.getElem?_eq_some_iff.1 h1).1
 omega
theorem LD {f : FuncId} {args : List Value} {pre : Hp → Prop} (h : aL P f args pre [] (fun v H => v = .bool true ∧ H = [])) (W : World) (hp : pre (jB W)) :
  Calls P f args.toArray W fun e W' => e = .returned (.bool true) ∧ Below W.heap.size W W' := by
 refine (h (frm W) W hp (TE W)).mono fun e W' hh => ?_
 obtain ⟨v, H', he, ⟨rfl, rfl⟩, st⟩ := hh
 exact ⟨he, zQ st⟩
theorem ur (hl : laidOutB P = true) {W W' : World} {sp : Nat → Bool} : ∀ {ts : List TypeId} {vs : List Value} {ds : List (DataW H)} {ps : List MemPlace}, (∀ t ∈ ts, P.readableRec t = true ∧ t < P.types.size) →
  DataW.TrodAll enc P W 0 (fun _ => true) true ts vs ds ps → (∀ p ∈ ps, W.sameAt W' p) → (∀ p ∈ ps, sp p.block = true) → DataW.TrodAll enc P W' 0 sp true ts vs ds ps := by
 intro ts
 induction ts with
 | nil =>
  intro vs ds ps _ h _ _
  obtain ⟨rfl, rfl, rfl⟩ := trodAll_nil h
  exact rfl
 | cons t ts ih =>
  intro vs ds ps hr h hs hp
  obtain ⟨v, vs', d, ds', p, q, rfl, rfl, rfl, h1, h2⟩ := trodAll_cons h
  refine ⟨p, q, ?_, ih (fun x hx => hr x (List.mem_cons_of_mem _ hx)) h2 (fun x hx => hs x (List.mem_append_right _ hx)) (fun x hx => hp x (List.mem_append_right _ hx)), rfl⟩
  exact WideElems.Trod_stays hl (hr t (List.mem_cons_self ..)).1 (hr t (List.mem_cons_self ..)).2 h1 (fun x hx => hs x (List.mem_append_left _ hx)) (fun x hx => hp x (List.mem_append_left _ hx))
theorem LC {f : Func} {s : ChangeSpec} {apart fresh handsOn again : Bool} {W W' : World} {args : Array Value} {ds gs : List (DataW H)} {before : List MemPlace}
  (hW : DataW.Whole enc P f.params.toList s.vars apart W args.toList ds gs before) (hv : s.vars = []) (hrt : f.resultTypes = #[4]) (cF : P.underlying 4 = some .bool)
  (jw : s.fn H (ds ++ gs) = { results := [.lit (.bool true)], args := ds }) (hl : laidOutB P = true) (hr : ∀ t ∈ f.params.toList, P.readableRec t = true ∧ t < P.types.size) (hb : Below W.heap.size W W') :
  s.post enc P f apart fresh handsOn again W args (.bool true) W' := by
 have hW0 := hW
 obtain ⟨p, q, hA, hV, rfl, hz, hn⟩ := hW
 rw [hv] at hV
 obtain ⟨rfl, rfl⟩ := trodVars_none hV
 have cJ : ∀ x ∈ p ++ [], x.block < W.heap.size := fun x hx => hW0.lt x hx
 have Rp : ∀ sp : Nat → Bool, (∀ x ∈ p ++ [], sp x.block = true) → DataW.TrodAll enc P W' 0 sp true f.params.toList args.toList ds p := fun sp M7 =>
  ur hl hr hA (fun x hx => hb.same (cJ x (by simpa using hx))) (fun x hx => M7 x (by simpa using hx))
 have X5 : ∀ (b : Nat) (sp : Nat → Bool) (hd : Bool), DataW.TrodAll enc P W' b sp hd f.resultTypes.toList ((Value.bool true).resultList f.resultTypes.size) [.lit (.bool true)] [] := by
  intro b sp hd
  rw [hrt]
  exact ⟨[], [], shut_bool cF true, rfl, rfl⟩
 have nB : ∀ (j : Nat) (t : TypeId) (r : Value), f.resultTypes[j]? = some t → ((Value.bool true).resultList f.resultTypes.size)[j]? = some r → Value.okWide P W' .any 0 t r := by
  rw [hrt]; exact ok_one (f := f) hrt rfl (okWide_bool_mk cF true) |> fun h => by rw [hrt] at h; exact h
 refine ⟨ds, [], p ++ [], [], p, [], hW0, ?_, ?_, ?_, ?_, fun _ => ?_⟩
 ·rw [jw]; exact X5 _ _ _
 ·rw [jw]; exact Rp _ (fun x hx => by simpa using cJ x hx)
 ·rw [hv]; rw [jw]; exact rfl
 ·exact World.keptBut_mono (fun x hx => ⟨hx, Or.inr (by simpa using hx)⟩) (hb.frame (· ∈ p ++ []))
 rw [hv]
 refine ⟨nB, _, [], ([] ++ p) ++ [], ⟨[] ++ p, [], trodAll_append (Rp _ (fun _ _ => rfl)) (X5 _ _ _), rfl, rfl, ?_, ?_⟩, ?_⟩
 ·intro b off hp
  have av : MemPlace.cell b off ∈ p ++ [] := by simpa using hp
  rw [hb.frozen (cJ _ av)]
  exact hz b off av
 ·intro ha
  have := hn ha
  simpa using this
 intro x hx _
 simpa using hx
end
end Go.cQ
namespace Go.cQ
open Go Go.RowKit Go.WideShapes Go.ChangeShapes
section
variable {H : Type} {enc : TypeId × Value → H} {P : Program} {w : World} {spare : Nat → Bool} {held : Bool} {base : Nat}
theorem jb {t : TypeId} {k : IntKind} {fuel : Nat} {cs : List Value} {x : DataW H × List MemPlace} (ht : P.underlying t = some (.int k)) (h : DataW.trod enc P w base spare held fuel t cs = some x) : ∃ n, cs = [.int k n] ∧ k.min ≤ n ∧ n ≤ k.max := by
 obtain ⟨n, h1, _, h2⟩ := DataW.trod_int ht h
 exact ⟨n, h1, by simpa [Lit.wf] using h2⟩
theorem EX {t : TypeId} {fs : Array Field} {fuel : Nat} {cs : List Value} {x : DataW H × List MemPlace} (ht : P.underlying t = some (.struct fs)) (h : DataW.trod enc P w base spare held fuel t cs = some x) :
  cs.length = P.cellsOf t ∧ ∀ (i : Nat) (f : Field), fs[i]? = some f → ∃ n x', DataW.trod enc P w base spare held n f.type ((cs.drop f.offset).take (P.cellsOf f.type)) = some x' := by
 obtain ⟨xs, n, _, _, h1, h2, h3⟩ := DataW.trod_struct ht h
 refine ⟨h1, fun i f hf => ⟨n, xs[i]'(by rw [h2]; exact (Array.getElem?_eq_some_iff.1 hf).1), ?_⟩⟩
 rw [h3 i f hf, List.getElem?_eq_getElem]
def lM (P : Program) (t : TypeId) : Option (List (Nat × TypeId × Nat)) :=
 match P.underlying t with
 | some (.struct fs) => some (fs.toList.map fun f => (f.offset, f.type, P.cellsOf f.type))
 | _ => none
theorem C4 {t : TypeId} {L : List (Nat × TypeId × Nat)} {fuel : Nat} {cs : List Value} {x : DataW H × List MemPlace} (ht : lM P t = some L) (h : DataW.trod enc P w base spare held fuel t cs = some x) :
  cs.length = P.cellsOf t ∧ ∀ (i : Nat) (o ty k : Nat), L[i]? = some (o, ty, k) → ∃ n x', DataW.trod enc P w base spare held n ty ((cs.drop o).take k) = some x' := by
 unfold lM at ht
 cases hu : P.underlying t with
 | none => simp [hu] at ht
 | some d =>
  cases d <;> simp [hu] at ht
  rename_i fs
  subst ht
  obtain ⟨h1, h2⟩ := EX hu h
  refine ⟨h1, fun i o ty k hi => ?_⟩
  simp only [List.getElem?_map, Option.map_eq_some_iff, Prod.mk.injEq] at hi
  obtain ⟨f, hf, rfl, rfl, rfl⟩ := hi
  exact h2 i f (by simpa using hf)
theorem yx {t : TypeId} {L : List (Nat × TypeId × Nat)} {v : Value} {r : Reach} {b0 : Nat} (ht : lM P t = some L) (h : Value.okWide P w r b0 t v) : v = .agg v.cells.toList.toArray := by
 unfold lM at ht
 cases hu : P.underlying t with
 | none => simp [hu] at ht
 | some d =>
  cases d <;> simp [hu] at ht
  simp only [Value.okWide, hu] at h
  obtain ⟨cs, rfl, _⟩ := h
  simp [Value.cells]
end
end Go.cQ
namespace Go.Proofs.YtpgbeapapmdkcaaGreatDoor
open Go Go.cQ Go.ChangeShapes Go.WideShapes Go.ChangeAt Go.RowKit
theorem PR {H : Type} {enc : TypeId × Value → H} {P : Program} {w : World} {base : Nat} {spare : Nat → Bool} {held : Bool} {t : TypeId} {fs : Array Field} {fuel : Nat} {cs : List Value} {zs : List Int} {p : List MemPlace} (ht : P.underlying t = some (.struct fs))
  (hf : ∀ (i : Nat) (f : Field), fs[i]? = some f → f.offset = i ∧ P.underlying f.type = some (.int .i64) ∧ P.cellsOf f.type = 1) (hn : P.cellsOf t = fs.size)
  (h : DataW.trod enc P w base spare held fuel t cs = some (.agg (zs.map fun z => .lit (.int .i64 z)), p)) : cs = zs.map (Value.int .i64) := by
 obtain ⟨xs, n, _, hx, h1, h2, h3⟩ := DataW.trod_struct ht h
 simp only [Prod.mk.injEq, DataW.agg.injEq] at hx
 have Wz : xs.map (·.1) = zs.map fun z => (DataW.lit (.int .i64 z) : DataW H) := hx.1.symm
 have R8 : zs.length = xs.length := by
  have := congrArg List.length Wz
  simpa using this.symm
 apply List.ext_getElem?
 intro i
 by_cases hi : i < fs.size
 ·have Xq := Array.getElem?_eq_getElem hi
  obtain ⟨f1, f2, f3⟩ := hf i _ Xq
  have hxi : i < xs.length := by omega
  have h4 := h3 i _ Xq
  rw [f1, f3, List.getElem?_eq_getElem hxi] at h4
  obtain ⟨z, hc, hz, _⟩ := DataW.trod_int f2 h4
  have e1 : cs[i]? = some (.int .i64 z) := by
   have := congrArg (·[0]?) hc
   simpa [List.getElem?_take, List.getElem?_drop] using this
  have e2 : (xs.map (·.1))[i]? = some (DataW.lit (.int .i64 z) : DataW H) := by
   rw [List.getElem?_map, List.getElem?_eq_getElem hxi, Option.map_some, hz]
  rw [Wz] at e2
  simp only [List.getElem?_map, Option.map_eq_some_iff, DataW.lit.injEq, Lit.int.injEq, true_and] at e2
  obtain ⟨z', hz', rfl⟩ := e2
  simp [e1, hz']
 rw [List.getElem?_eq_none (by omega), List.getElem?_eq_none (by rw [List.length_map]; omega)]
def yj : List (String × DataW Unit) := [("granary/granarylaw10.ample", Rows.laid_granary_granarylaw10_ample)]
theorem Tryz.own : ownKnob Tryz.prog.godebug = none := by kernel_rfl
theorem Tryz.laidOut : laidOutB Tryz.prog = true := by kernel_rfl
theorem g0A : Tryz.prog.globalNamed "granary/granarylaw10.ample" = some 0 := by kernel_rfl
theorem ty0A : (Tryz.prog.globals[0]?).map (·.type) = some 23 := by kernel_rfl
theorem Yi : lM Tryz.prog 23 = some [(0, 3, 1), (1, 3, 1), (2, 3, 1), (3, 3, 1), (4, 3, 1), (5, 3, 1), (6, 3, 1)] := by kernel_rfl
theorem Yh : lM Tryz.prog 25 = some [(0, 3, 1), (1, 3, 1), (2, 3, 1), (3, 3, 1)] := by kernel_rfl
theorem uw {W : World} (h : laidMetH Tryz.prog yj W) : fK (jB W) (some ⟨0, 0, none⟩) (fy cA) := by
 rw [MakeChecks.laidMetH_plain _ _ _ (by kernel_rfl)] at h
 obtain ⟨ps, ⟨g0, t0, cs0, f0, p0, q0, hg0, ht0, R9, nE, _, _⟩, _, _⟩ := h
 obtain rfl := Option.some.inj (g0A.symm.trans hg0)
 obtain rfl := Option.some.inj (ty0A.symm.trans ht0)
 have gS := PR (zs := [4096, 64, 200, 64, 512, 30, 30]) Tryz.underlying23 (fun i f hf => by
  rcases i with _ | _ | _ | _ | _ | _ | _ | i <;> first | (cases hf; exact ⟨rfl, Tryz.underlying3, by kernel_rfl⟩) | (simp at hf)) (by kernel_rfl) nE
 intro k v hk
 have e : (⟨0, 0, none⟩ : Addr).add k = ⟨0, k, none⟩ := by unfold Addr.add; split <;> simp [*]
 refine ⟨_, rfl, ?_⟩
 rw [e, ← MA]
 have := World.var?_cell g0A R9 k
 rw [this]
 rw [show fy cA = [4096, 64, 200, 64, 512, 30, 30].map (Value.int .i64) from rfl, ← gS] at hk
 simpa using hk
theorem Mu (os : Os) (args : Array Value) : laidMetH Tryz.prog yj ((World.doorLaid Tryz.prog 400 os).forCall (fun _ _ => 0) ⟨#[], args, []⟩).memory :=
 laidMetH_of_parts3 (fuel := 8) (laidMet_of_run' 8 (by kernel_rfl) (by kernel_rfl)) (by kernel_rfl) (by kernel_rfl)
section
variable {H : Type} {enc : TypeId × Value → H} {w : World} {spare : Nat → Bool} {held : Bool} {base : Nat}
theorem Us {fuel : Nat} {cs : List Value} {x : DataW H × List MemPlace} (h : DataW.trod enc Tryz.prog w base spare held fuel 23 cs = some x) : ∃ c : lA, cs = fy c := by
 obtain ⟨hl, hf⟩ := C4 Yi h
 rw [show Tryz.prog.cellsOf 23 = 7 by kernel_rfl] at hl
 match cs, hl with
 | [c0, c1, c2, c3, c4, c5, c6], _ =>
  obtain ⟨_, _, h0⟩ := hf 0 _ _ _ rfl
  obtain ⟨_, _, h1⟩ := hf 1 _ _ _ rfl
  obtain ⟨_, _, h2⟩ := hf 2 _ _ _ rfl
  obtain ⟨_, _, h3⟩ := hf 3 _ _ _ rfl
  obtain ⟨_, _, h4⟩ := hf 4 _ _ _ rfl
  obtain ⟨_, _, h5⟩ := hf 5 _ _ _ rfl
  obtain ⟨_, _, h6⟩ := hf 6 _ _ _ rfl
  obtain ⟨z0, e0, _, _⟩ := jb Tryz.underlying3 h0
  obtain ⟨z1, e1, _, _⟩ := jb Tryz.underlying3 h1
  obtain ⟨z2, e2, _, _⟩ := jb Tryz.underlying3 h2
  obtain ⟨z3, e3, _, _⟩ := jb Tryz.underlying3 h3
  obtain ⟨z4, e4, _, _⟩ := jb Tryz.underlying3 h4
  obtain ⟨z5, e5, _, _⟩ := jb Tryz.underlying3 h5
  obtain ⟨z6, e6, _, _⟩ := jb Tryz.underlying3 h6
  simp only [List.drop_zero, List.take_succ_cons, List.take_zero, List.drop_succ_cons, List.cons.injEq, and_true] at e0 e1 e2 e3 e4 e5 e6
  subst e0 e1 e2 e3 e4 e5 e6
  exact ⟨⟨z0, z1, z2, z3, z4, z5, z6⟩, rfl⟩
theorem OG {fuel : Nat} {cs : List Value} {x : DataW H × List MemPlace} (h : DataW.trod enc Tryz.prog w base spare held fuel 25 cs = some x) : ∃ p : uH, cs = qN p := by
 obtain ⟨hl, hf⟩ := C4 Yh h
 rw [show Tryz.prog.cellsOf 25 = 4 by kernel_rfl] at hl
 match cs, hl with
 | [c0, c1, c2, c3], _ =>
  obtain ⟨_, _, h0⟩ := hf 0 _ _ _ rfl
  obtain ⟨_, _, h1⟩ := hf 1 _ _ _ rfl
  obtain ⟨_, _, h2⟩ := hf 2 _ _ _ rfl
  obtain ⟨_, _, h3⟩ := hf 3 _ _ _ rfl
  obtain ⟨z0, e0, _, _⟩ := jb Tryz.underlying3 h0
  obtain ⟨z1, e1, _, _⟩ := jb Tryz.underlying3 h1
  obtain ⟨z2, e2, _, _⟩ := jb Tryz.underlying3 h2
  obtain ⟨z3, e3, _, _⟩ := jb Tryz.underlying3 h3
  simp only [List.drop_zero, List.take_succ_cons, List.take_zero, List.drop_succ_cons, List.cons.injEq, and_true] at e0 e1 e2 e3
  subst e0 e1 e2 e3
  exact ⟨⟨z0, z1, z2, z3⟩, rfl⟩
end
end Go.Proofs.YtpgbeapapmdkcaaGreatDoor
