/- Part Pn of the proof. -/
import Derived.Test.YtpgbeapapmdkcaaGreatDoorPi
import Derived.Shelf.SlSortCmp.NoneTotal
import Derived.Test.YtpgbeapapmdkcaaGreatDoorProg
set_option maxRecDepth 100000
namespace Go.Proofs
open Go.Shelf
def Tryz.Lu : Go.Shelf.Ren := ⟨fun | 6 => 142 | 15 => 206 | 14 => 205 | 28 => 250 | 29 => 251 | 20 => 242 | 21 => 243 | 22 => 244 | 23 => 245 | 24 => 246 | 25 => 247 | 26 => 248 | 27 => 249 | 46 => 258 | 47 => 259 | 48 => 260 | 49 => 261 | 50 => 262 | 57 => 263 | n => n, fun | 22 => 195 | 24 => 243 | 25 => 245 | 3 => 3 | 39 => 190 | 0 => 0 | 53 => 163 | 55 => 38 | 4 => 4 | 46 => 319 | 45 => 318 | 50 => 265 | 5 => 5 | 9 => 9 | 66 => 331 | 70 => 180 | 76 => 335 | 77 => 123 | n => n, fun | n => n⟩
theorem Tryz.X1 : Go.Proofs.SlLaysF0.n6 Tryz.prog Tryz.Lu := {
 mixed := by kernel_rfl
 f6 := ⟨Tryz.f142.name, by decide, Tryz.func142.trans (congrArg some (by kernel_rfl))⟩
 f14 := ⟨Tryz.f205.name, by decide, Tryz.func205.trans (congrArg some (by kernel_rfl))⟩
 f15 := Tryz.func206.trans (congrArg some (by kernel_rfl))
 f20 := ⟨Tryz.f242.name, by decide, Tryz.func242.trans (congrArg some (by kernel_rfl))⟩
 f21 := ⟨Tryz.f243.name, by decide, Tryz.func243.trans (congrArg some (by kernel_rfl))⟩
 f22 := ⟨Tryz.f244.name, by decide, Tryz.func244.trans (congrArg some (by kernel_rfl))⟩
 f23 := ⟨Tryz.f245.name, by decide, Tryz.func245.trans (congrArg some (by kernel_rfl))⟩
 f24 := ⟨Tryz.f246.name, by decide, Tryz.func246.trans (congrArg some (by kernel_rfl))⟩
 f25 := ⟨Tryz.f247.name, by decide, Tryz.func247.trans (congrArg some (by kernel_rfl))⟩
 f26 := ⟨Tryz.f248.name, by decide, Tryz.func248.trans (congrArg some (by kernel_rfl))⟩
 f27 := ⟨Tryz.f249.name, by decide, Tryz.func249.trans (congrArg some (by kernel_rfl))⟩
 f28 := Tryz.func250.trans (congrArg some (by kernel_rfl))
 f29 := Tryz.func251.trans (congrArg some (by kernel_rfl))
 f46 := ⟨Tryz.f258.name, by decide, Tryz.func258.trans (congrArg some (by kernel_rfl))⟩
 f47 := Tryz.func259.trans (congrArg some (by kernel_rfl))
 f48 := Tryz.func260.trans (congrArg some (by kernel_rfl))
 f49 := ⟨Tryz.f261.name, by decide, Tryz.func261.trans (congrArg some (by kernel_rfl))⟩
 f50 := ⟨Tryz.f262.name, by decide, Tryz.func262.trans (congrArg some (by kernel_rfl))⟩
 f57 := ⟨Tryz.f263.name, by decide, Tryz.func263.trans (congrArg some (by kernel_rfl))⟩
 t0 := Tryz.underlying0
 a0 := Tryz.isAgg0
 z0 := Tryz.sizeOf0
 v0 := Tryz.zeroValue0
 t3 := Tryz.underlying3
 a3 := Tryz.isAgg3
 z3 := Tryz.sizeOf3
 v3 := Tryz.zeroValue3
 t4 := Tryz.underlying4
 a4 := Tryz.isAgg4
 z4 := Tryz.sizeOf4
 v4 := Tryz.zeroValue4
 t5 := Tryz.underlying5
 a5 := Tryz.isAgg5
 z5 := Tryz.sizeOf5
 v5 := Tryz.zeroValue5
 t9 := Tryz.underlying9
 a9 := Tryz.isAgg9
 z9 := Tryz.sizeOf9
 v9 := Tryz.zeroValue9
 t22 := Tryz.underlying195
 a22 := Tryz.isAgg195
 z22 := Tryz.sizeOf195
 v22 := Tryz.zeroValue195
 t25 := Tryz.underlying245
 a25 := Tryz.isAgg245
 z25 := Tryz.sizeOf245
 v25 := Tryz.zeroValue245
 t39 := Tryz.underlying190
 a39 := Tryz.isAgg190
 z39 := Tryz.sizeOf190
 v39 := Tryz.zeroValue190
 t45 := Tryz.underlying318
 a45 := Tryz.isAgg318
 z45 := Tryz.sizeOf318
 v45 := Tryz.zeroValue318
 t46 := Tryz.underlying319
 a46 := Tryz.isAgg319
 z46 := Tryz.sizeOf319
 v46 := Tryz.zeroValue319
 t50 := Tryz.underlying265
 a50 := Tryz.isAgg265
 z50 := Tryz.sizeOf265
 v50 := Tryz.zeroValue265
 t53 := Tryz.underlying163
 a53 := Tryz.isAgg163
 z53 := Tryz.sizeOf163
 v53 := Tryz.zeroValue163
 t55 := Tryz.underlying38
 a55 := Tryz.isAgg38
 z55 := Tryz.sizeOf38
 v55 := Tryz.zeroValue38
 t66 := Tryz.underlying331
 a66 := Tryz.isAgg331
 z66 := Tryz.sizeOf331
 v66 := Tryz.zeroValue331
 t70 := Tryz.underlying180
 a70 := Tryz.isAgg180
 z70 := Tryz.sizeOf180
 v70 := Tryz.zeroValue180
 t76 := Tryz.underlying335
 a76 := Tryz.isAgg335
 z76 := Tryz.sizeOf335
 v76 := Tryz.zeroValue335
 t77 := Tryz.underlying123
 a77 := Tryz.isAgg123
 z77 := Tryz.sizeOf123
 v77 := Tryz.zeroValue123 }
end Go.Proofs
namespace Go.Proofs.YtpgbeapapmdkcaaGreatDoor
open Go Go.cQ Go.Proofs.YtpgbeapapmdkcaaGreatDoor.Wh
theorem LM {f : FuncId} {args : List Value} {v : Value} (h : aL Tryz.prog f args (fun _ => True) [] (fun u H => u = v ∧ H = [])) (w : World) :
  Calls Tryz.prog f args.toArray w fun e w' => e = .returned v ∧ ∃ q os, w' = Sort.grow (w.drewN q) os := by
 refine (h ⟨w.os, w.tape, w.output, jB w, w.drawn⟩ w trivial ⟨rfl, ⟨rfl, Nat.le_refl _⟩, rfl, Le.refl _, fun _ => none, trivial, (fun _ _ e => by cases e), (fun _ => .inl rfl)⟩).mono ?_
 rintro e w' ⟨u, H, rfl, ⟨rfl, rfl⟩, s⟩
 obtain ⟨s1, ⟨s2, s3⟩, s4, s5, _⟩ := s
 refine ⟨rfl, w'.drawn - w.drawn, w'.heap.extract w.heap.size w'.heap.size, ?_⟩
 obtain ⟨Xj, tp', dr', os', out'⟩ := w'
 dsimp only at s1 s2 s3 s4
 subst s1 s2 s4
 unfold Sort.grow World.drewN
 have hl : ∀ b, b < w.heap.size → Xj[b]? = w.heap[b]? := fun b hb => by
  rw [Array.getElem?_eq_getElem hb]
  exact s5 b _ (Array.getElem?_eq_getElem hb)
 have hh : Xj = w.heap ++ Xj.extract w.heap.size Xj.size := by
  apply Array.ext_getElem?
  intro b
  by_cases hb : b < w.heap.size
  ·rw [Array.getElem?_append_left hb]; exact hl b hb
  rw [Array.getElem?_append_right (by omega), Array.getElem?_extract]
  by_cases cx : b < Xj.size
  ·rw [if_pos (by omega), show w.heap.size + (b - w.heap.size) = b by omega]
  rw [if_neg (by omega), Array.getElem?_eq_none (by omega)]
 have hd : dr' = w.drawn + (dr' - w.drawn) := by omega
 dsimp only
 congr 1
instance Hr : Inhabited En := ⟨⟨0, 0, 0⟩⟩
theorem y8 (L : List En) : Go.Sort.flatK eN 3 L.toArray = (L.flatMap eN).toArray := by
 apply Array.ext_getElem?
 intro t
 unfold Go.Sort.flatK
 simp only [List.size_toArray, Array.getElem?_map, Array.getElem?_range, List.getElem?_toArray]
 by_cases ht : t < L.length * 3
 ·rw [if_pos ht, Option.map_some]
  have q : t / 3 < L.length := by omega
  have e := bc jh (l := L) (i := t / 3) (a := L[t / 3]) (List.getElem?_eq_getElem q) (j := t % 3) (v := (eN L[t / 3])[t % 3]!) (by
   have : t % 3 < (eN L[t / 3]).length := by rw [jh]; omega
   rw [List.getElem?_eq_getElem this, getElem!_pos (eN L[t / 3]) (t % 3) this])
  rw [show t / 3 * 3 + t % 3 = t by omega] at e
  rw [e]
  congr 2
  rw [getElem!_pos L.toArray (t / 3) (by simpa using q)]
  simp
 rw [if_neg ht, List.getElem?_eq_none (by rw [Wh.c8]; omega)]; rfl
theorem YL : Go.Sort.SWO (ltOf An) where
 irrefl x := by unfold ltOf; rw [decide_eq_false]; rw [kZ]; unfold En.lt; omega
 trans x y z h1 h2 := by
  unfold ltOf at *
  rw [decide_eq_true_eq, kZ] at *
  unfold En.lt at *; omega
 ntrans x y z h1 h2 := by
  unfold ltOf at *
  rw [decide_eq_false_iff_not, kZ] at *
  unfold En.lt at *; omega
theorem St.grow {F : c9} {H : List aa} {w : World} (s : St F H w) (os : Array Obj) : St F H (Sort.grow w os) := by
 obtain ⟨a1, a2, a3, fr, h, st, y, z⟩ := s
 have hold : ∀ k : Hp, Le k (jB w) → Le k (jB (Sort.grow w os)) := by
  intro k lk x ob ex
  have hx := lk x ob ex
  unfold jB at *
  have cJ := (Array.getElem?_eq_some_iff.1 hx).1
  show (w.heap ++ os)[x]? = _
  rw [Array.getElem?_append_left cJ]; exact hx
 exact ⟨a1, a2, a3, hold _ fr, h, st, hold _ y, z⟩
theorem St.ahead {F : c9} {H : List aa} {w : World} (s : St F H w) (n : Nat) : St F H (Sort.ahead w n) := by
 obtain ⟨a1, a2, a3, fr, h, st, y, z⟩ := s
 exact ⟨a1, ⟨a2.1, Nat.le_trans a2.2 (Nat.le_add_right _ _)⟩, a3, fr, h, st, y, z⟩
theorem zB (cs ts sp : List Value) (hl : ts.length = cs.length) : Sort.putCells (id : Value → Value) 0 ts.toArray (cs ++ sp).toArray = (ts ++ sp).toArray := by
 apply Array.ext_getElem?
 intro k
 unfold Sort.putCells
 simp only [Array.getElem?_mapIdx, List.getElem?_toArray, List.size_toArray, Nat.zero_add, Nat.zero_le, true_and, Nat.sub_zero]
 by_cases hk : k < ts.length
 ·rw [List.getElem?_append_left (by omega), List.getElem?_append_left hk, List.getElem?_eq_getElem (by omega), List.getElem?_eq_getElem hk]
  simp only [Option.map_some, hk, if_true]
  have : ts.toArray[k]! = ts[k] := by rw [getElem!_pos _ k (by simpa using hk)]; simp
  rw [this]; rfl
 rw [List.getElem?_append_right (by omega), List.getElem?_append_right (by omega), hl]
 have : (fun x : Value => if k < ts.length then id ts.toArray[k]! else x) = id := by funext x; simp [hk]
 cases hs : sp[k - cs.length]? with
 | none => rfl
 | some v =>
  have qL : ¬ k < cs.length := by omega
  simp [hk, qL]
theorem St.putRow {F : c9} {R : List aa} {w : World} {b e : Nat} {cs ts sp : List Value} (hl : ts.length = cs.length) (s : St F (af b e (cs ++ sp) :: R) w) : St F (af b e (ts ++ sp) :: R) (Sort.putRow (id : Value → Value) w b 0 ts.toArray) := by
 obtain ⟨hh, ⟨lo, hi, hf, hb⟩, hle⟩ := s.get
 have hw : w.heap[b]? = some (.cells (cs ++ sp).toArray e (lo, hi)) := hle _ _ hb
 have cJ := (Array.getElem?_eq_some_iff.1 hw).1
 have key : Sort.putRow (id : Value → Value) w b 0 ts.toArray = { w with heap := w.heap.setIfInBounds b (.cells (ts ++ sp).toArray e (lo, hi)) } := by
  unfold Sort.putRow Sort.mapBlock
  congr 1
  apply Array.ext_getElem?
  intro x
  rw [Array.getElem?_modify, Array.getElem?_setIfInBounds]
  by_cases hx : b = x
  ·subst hx
   rw [if_pos rfl, if_pos rfl, if_pos cJ, hw]
   simp only [Option.map_some, Sort.onCells, zB cs ts sp hl]
  rw [if_neg hx, if_neg hx]
 rw [key]
 exact s.NO (fun h p => by obtain ⟨_, _, _, q⟩ := p; exact ⟨_, q⟩) (.mk lo hi (by rw [List.length_append] at hf ⊢; omega) (by simp))
theorem xM : oD := by
 intro a cap L hcap uB hlen F w _ s
 obtain ⟨a1, a2, a3, fr, h, ⟨h1, h2, d, l1, l2, ⟨r1, r2, r3⟩, st⟩, y, z⟩ := s
 have hE : ∀ M : List En, (M.flatMap eN).length = M.length * 3 := Wh.c8
 rcases r3 with ⟨rfl, rfl⟩ | ⟨b, sp, rfl, r4, r5⟩
 ·have hL : L = [] := List.eq_nil_of_length_eq_zero (by omega)
  subst hL
  refine (AnyF.slices_SortFunc_none Tryz.X1 none 0 _ w).mono ?_
  rintro e w' ⟨rfl, rfl⟩
  refine ⟨_, _, rfl, ⟨rfl, rfl⟩, a1, a2, a3, fr, h, ⟨h1, h2, d, l1, l2, ?_, st⟩, y, z⟩
  have : fg [] = [] := List.eq_nil_of_length_eq_zero (eU []).length_eq
  rw [this]
  exact ⟨r1, r2, .inl ⟨rfl, rfl⟩⟩
 have s1 : St F [af b 243 (L.flatMap eN ++ sp)] w := ⟨a1, a2, a3, fr, h, ⟨h1, h2, d, l1, l2, r5, st⟩, y, z⟩
 have hH : Sort.HoldsK eN 3 w b 0 L.toArray := by
  unfold Sort.HoldsK
  rw [y8]
  intro j hj
  have WJ : j < (L.flatMap eN).length := by simpa using hj
  have SP : (L.flatMap eN ++ sp)[j]? = some ((L.flatMap eN)[j]) := by rw [List.getElem?_append_left WJ, List.getElem?_eq_getElem WJ]
  have e1 : (L.flatMap eN).toArray[j]! = (L.flatMap eN)[j] := by rw [getElem!_pos _ j (by simpa using WJ)]; simp
  rw [Nat.zero_add, e1]
  exact ⟨ku (l1.trans y) (dX r5 SP), sW r5 (by rw [List.length_append]; omega) (l1.trans y)⟩
 have hblk : b < w.heap.size := by
  obtain ⟨lo, hi, _, hb⟩ := r5
  exact (Array.getElem?_eq_some_iff.1 ((l1.trans y) _ _ hb)).1
 have eg : ∀ args w, (callFunc 143 args).run Tryz.prog w = .ok (.enter 143 args) w := enters_of Tryz.func143 (by kernel_rfl) rfl
 have hcmp : CmpLays Tryz.prog 143 #[] eN 3 An b 0 L.toArray.size w := fun m os dk hdk x y => by
  have := LM (oW x y) (sortWorldK eN 3 w b 0 m dk os)
  exact this
 have con := AnyQ.slices_SortFunc Tryz.X1 3 Tryz.isAgg243 Tryz.sizeOf243 eN (fun x => rfl) (fun x v hv => by
  unfold eN at hv
  simp only [List.mem_cons, List.not_mem_nil, or_false] at hv
  rcases hv with rfl | rfl | rfl <;> rfl) An YL 143 #[] b 0 cap L.toArray w eg hcmp hH hblk (by simp; omega)
 have con2 : Calls Tryz.prog 142 #[.slice (some ⟨b, 0, none⟩) L.length cap, .func (.func 143) #[] #[]] w _ := con
 refine con2.mono ?_
 rintro e w' ⟨rfl, d', n, os, ⟨p1, p2, p3⟩, p4, rfl⟩
 have hs : d'.size = L.length := by rw [p1]; simp
 have hp : d'.toList.Perm L := by
  have q1 : (d'.extract 0 L.toArray.size).toList = d'.toList := by rw [← p1]; simp
  have q2 : (L.toArray.extract 0 L.toArray.size).toList = L := by simp
  rw [q1, q2] at p3
  exact p3
 have hw : d'.toList = fg L := CX hp uB (by
  rw [List.pairwise_iff_getElem]
  intro i j hi hj QM
  have xP : i < d'.size := by simpa using hi
  have WJ : j < d'.size := by simpa using hj
  have := p4 i j (Nat.zero_le _) QM (by rw [← p1]; exact WJ)
  rw [getElem!_pos d' i xP, getElem!_pos d' j WJ] at this
  unfold ltOf at this
  rw [decide_eq_false_iff_not, kZ] at this
  simpa using this)
 have hd : d' = (fg L).toArray := by rw [← hw]
 subst hd
 have QI : (fg L).length = L.length := (eU L).length_eq
 refine ⟨_, _, rfl, ⟨rfl, rfl⟩, ?_⟩
 have s2 := St.putRow (ts := (fg L).flatMap eN) (by rw [hE, hE, QI]) (St.ahead s1 n)
 have s3 := St.grow s2 os
 have ew : sortWorldK eN 3 w b 0 n (fg L).toArray os = Sort.grow (Sort.putRow id (Sort.ahead w n) b 0 ((fg L).flatMap eN).toArray) os := by
  unfold sortWorldK Sort.putRowK
  rw [y8]
 rw [ew]
 refine s3.sub fun k sk => aY (fun _ p => ⟨?_, r2, .inr ⟨b, sp, rfl, ?_, p⟩⟩) sk
 ·rw [hE, QI, ← hE]; exact r1
 rw [hE, QI, ← hE]; exact r4
end Go.Proofs.YtpgbeapapmdkcaaGreatDoor
