/- The engine: a map of the frame is gone through; a range over a function whose iterator leans on the frame. -/
import Derived.Test.YtncmmhfgcgnojaaEngS
import Derived.Test.YtncmmhfgcgnojaaEngV
set_option maxRecDepth 100000
namespace Go.Eng
open Go Go.MapKept

/-- one who goes through a map of the frame: what is left, what stands next -/
inductive mit (ents : Array MapEntry) (clk m b : Nat) (left : List (Value × Value)) (cur : Option (Value × Value)) (h : Hp) : Prop
  | mk (seen : Array Nat) (hb : h b = some (.mapIter (some m) clk seen clk)) (hl : (ents.toList.filter fun e => !seen.contains e.born).map (fun e => (e.key, e.val)) = left)
    (hc : ∀ c, cur = some c → ∃ e ∈ ents.toList, seen.back? = some e.born ∧ (e.key, e.val) = c)
section
variable {P : Program} {n : Nat} {ds : List Deferred} {F : Frm} {Q : Exit → Act → World → Prop} {K : Act → World → Prop} {σ : Slots} {H : List HProp} {o : Oper} {d : Nat}
theorem oFr {t k e : TypeId} {dd : TypeDesc} {z : Value} {x : Operand} {m : Nat} {ents : Array MapEntry} {clk : Nat} (ht : mapT P t = some (k, dd, e, z)) (hm : F.h m = some (.map ents clk))
    (h : ∀ b, G n ds F K ((d, .pointer (some ⟨b, 0, none⟩)) :: σ) (mit ents clk m b (ents.toList.map fun e => (e.key, e.val)) none :: H)) (ho : o.op = .range t x := by exact rfl) (hd : o.dst = some d := by exact rfl)
    (hx : evo σ x = some (.map (some m)) := by exact rfl) (hdn : Nat.blt d n = true := by exact rfl) : G n ds F (fun a w => o.wp P a w K Q) σ H := by
  refine .mk fun a w en s => ?_
  obtain ⟨hu1, hu2, _, _, _⟩ := mapT_spec ht
  have hw : w.heap[m]? = some (.map ents clk) := s.frame _ _ hm
  unfold Oper.wp
  have hrun : (execOp a.eval o).run P w = .ok (.value (.pointer (some ⟨w.heap.size, 0, none⟩))) (w.alloc (.mapIter (some m) clk #[] clk)) := by
    have : (Instr.range t (.map (some m))).run P w = .ok (.pointer (some ⟨w.heap.size, 0, none⟩)) (w.alloc (.mapIter (some m) clk #[] clk)) := by
      simp [Instr.range, run_underlying hu1, MapKept.run_getObj_map hw]
    simp [execOp, ho, en.eval hx, this]
  rw [hrun, Oper.upon_value, hd]
  exact h _ _ _ (en.put hdn _) (s.newO _ _ (.mk #[] (by simp) (by rw [List.filter_eq_self.2 (by simp)]) (fun c hc => by cases hc)))
theorem oFn {x : Operand} {m b clk : Nat} {ents : Array MapEntry} {left : List (Value × Value)} {cur : Option (Value × Value)} {f : HProp → List HProp} (hm : F.h m = some (.map ents clk)) (hst : Stamped ents clk) (h0 : left = [] → G n ds F K ((d, .tuple #[.bool false]) :: σ) (f (mit ents clk m b left cur)))
    (h1 : ∀ l1 k v l2, left = l1 ++ (k, v) :: l2 → G n ds F K ((d, .tuple #[.bool true, k, v]) :: σ) (f (mit ents clk m b (l1 ++ l2) (some (k, v))))) (ho : o.op = .next x false := by exact rfl) (hd : o.dst = some d := by exact rfl)
    (hx : evo σ x = some (.pointer (some ⟨b, 0, none⟩)) := by exact rfl) (hu : Pos H (mit ents clk m b left cur) f := by repeat (first | exact Pos.here | apply Pos.there)) (hdn : Nat.blt d n = true := by exact rfl) : G n ds F (fun a w => o.wp P a w K Q) σ H := by
  refine .mk fun a w en s => ?_
  obtain ⟨R, s1, s2⟩ := hu.sel
  have sR := s.sel s1
  obtain ⟨hh, ⟨seen, hb, hleft, hc⟩, hl⟩ := sR.get
  have hwm : w.heap[m]? = some (.map ents clk) := sR.frame _ _ hm
  have hwb : w.heap[b]? = some (.mapIter (some m) clk seen clk) := hl _ _ hb
  have test := next_test_false seen ents clk clk (fun x hx => hst.1 x hx) (Nat.le_refl _)
  have hL : ∃ L : Array MapEntry, ents.filter (fun e => !seen.contains e.born) = L ∧ L.toList = ents.toList.filter (fun e => !seen.contains e.born) := ⟨_, rfl, by simp⟩
  obtain ⟨L, hL1, hL2⟩ := hL
  have hmem : ∀ x ∈ L.toList, x.born < clk := fun x hx => by rw [hL2] at hx; exact hst.1 x (List.mem_filter.1 hx).1
  have e1 : L.filter (fun x => decide (x.born < clk)) = L := Array.filter_eq_self.2 (fun x hx => by simpa using hmem x (by simpa using hx))
  have e2 : L.filter (fun x => decide (x.born ≥ clk)) = #[] := by
    rw [Array.filter_eq_empty_iff]
    intro x hx
    have := hmem x (by simpa using hx)
    simp
    omega
  unfold Oper.wp
  by_cases hz : L.size = 0
  · have hLe : L = #[] := Array.eq_empty_of_size_eq_zero hz
    have hln : left = [] := by rw [← hleft, ← hL2, hLe]; rfl
    have hrun : (Instr.next (.pointer (some ⟨b, 0, none⟩)) false o.type).run P w = .ok (.tuple #[.bool false]) w := by
      simp only [Instr.next, getObj, Sem.run_bind, Sem.run, hwb, hwm, Result.andThen, test, Bool.false_eq_true, if_false, hL1, e1, e2, Array.append_empty]
      subst hLe
      simp [choose, Sem.run, Question.forced]
    have : (execOp a.eval o).run P w = .ok (.value (.tuple #[.bool false])) w := by simp [execOp, ho, en.eval hx, hrun]
    rw [this, Oper.upon_value, hd]
    exact h0 hln _ _ (en.put hdn _) (St.unsel (s2 _) sR)
  · have hne' : L.isEmpty = false := by simp [Array.isEmpty, hz]
    have hch : ∃ (j : Nat) (w1 : World), j < L.size ∧ w1.heap = w.heap ∧ (∀ {A : List HProp}, St F A w → St F A w1) ∧ (choose (Question.mapNext L.size)).run P w = .ok j w1 := by
      by_cases hf : L.size ≤ 1
      · exact ⟨0, w, by omega, rfl, fun s => s, by simp [choose, Sem.run, Question.forced, hf]⟩
      · exact ⟨_, w.drew, Nat.mod_lt _ (by omega), rfl, fun s => s.drew, by
          simp only [choose, Sem.run, Question.forced, decide_eq_true_eq, hf, if_false, Question.cut]
          rfl⟩
    obtain ⟨j, w1, hj, hheap, hst1, hrunc⟩ := hch
    have hjL : L.toList[j]? = some L[j] := by simp
    have hwb1 : w1.heap[b]? = some (.mapIter (some m) clk seen clk) := by rw [hheap]; exact hwb
    have hset : (setObj b (.mapIter (some m) clk (seen.push L[j].born) clk)).run P w1 = .ok () { w1 with heap := w1.heap.setIfInBounds b (.mapIter (some m) clk (seen.push L[j].born) clk) } := by
      simp [setObj, Sem.run, hwb1]
    have hrun : (Instr.next (.pointer (some ⟨b, 0, none⟩)) false o.type).run P w = .ok (.tuple #[.bool true, L[j].key, L[j].val]) { w1 with heap := w1.heap.setIfInBounds b (.mapIter (some m) clk (seen.push L[j].born) clk) } := by
      simp only [Instr.next, getObj, Sem.run_bind, Sem.run, hwb, hwm, Result.andThen, test, Bool.false_eq_true, if_false, hL1, e1, e2, Array.append_empty, hne', Array.empty_append, Array.size_map, hrunc, Array.getElem?_map, Array.getElem?_eq_getElem hj, Option.map_some, hset]
      rfl
    have : (execOp a.eval o).run P w = .ok (.value (.tuple #[.bool true, L[j].key, L[j].val])) { w1 with heap := w1.heap.setIfInBounds b (.mapIter (some m) clk (seen.push L[j].born) clk) } := by simp [execOp, ho, en.eval hx, hrun]
    rw [this, Oper.upon_value, hd]
    have hsplit : left = (L.toList.take j).map (fun e => (e.key, e.val)) ++ (L[j].key, L[j].val) :: (L.toList.drop (j + 1)).map (fun e => (e.key, e.val)) := by
      rw [← hleft, ← hL2]
      conv => lhs; rw [← List.take_append_drop j L.toList, List.map_append]
      rw [List.drop_eq_getElem_cons (by simpa using hj)]
      simp
    refine h1 _ _ _ _ hsplit _ _ (en.put hdn _) (St.unsel (s2 _) ((hst1 sR).setP fun h1 p hl1 => ?_))
    obtain ⟨seen', hb', hleft', hc'⟩ := p
    have q2 : w1.heap[b]? = some (.mapIter (some m) clk seen' clk) := hl1 _ _ hb'
    rw [hheap, hwb] at q2; cases q2
    refine ⟨⟨_, hb'⟩, seen.push L[j].born, by simp, ?_, fun c hcc => ?_⟩
    · -- what is left
      have hnd : (L.toList.map (·.born)).Nodup := by
        rw [hL2]; exact (List.Sublist.map _ List.filter_sublist).nodup hst.2.1
      have hfil : ents.toList.filter (fun e => !(seen.push L[j].born).contains e.born) = L.toList.filter (fun e => !(e.born == L[j].born)) := by
        rw [hL2, List.filter_filter]
        apply List.filter_congr
        intro x _
        rw [contains_push]
        cases seen.contains x.born <;> simp
      rw [hfil, ← List.map_append]
      congr 1
      conv => lhs; rw [← List.take_append_drop j L.toList, List.filter_append]
      rw [List.drop_eq_getElem_cons (show j < L.toList.length by simpa using hj), List.filter_cons_of_neg (by simp)]
      have hall : ∀ i (hi : i < L.toList.length), i ≠ j → (L.toList[i].born == L[j].born) = false := by
        intro i hi hij
        rw [beq_eq_false_iff_ne]
        intro q
        refine hij (nodup_at hnd (x := L[j].born) ?_ ?_)
        · rw [List.getElem?_map, List.getElem?_eq_getElem hi, Option.map_some, q]
        · rw [List.getElem?_map, hjL, Option.map_some]
      congr 1
      · rw [List.filter_eq_self]
        intro x hx
        obtain ⟨i, hi⟩ := List.getElem?_of_mem hx
        obtain ⟨hi1, hi2⟩ := List.getElem?_eq_some_iff.1 hi
        simp only [List.length_take] at hi1
        rw [List.getElem_take] at hi2
        rw [← hi2, hall i (by omega) (by omega)]; rfl
      · rw [List.filter_eq_self]
        intro x hx
        obtain ⟨i, hi⟩ := List.getElem?_of_mem hx
        obtain ⟨hi1, hi2⟩ := List.getElem?_eq_some_iff.1 hi
        simp only [List.length_drop] at hi1
        rw [List.getElem_drop] at hi2
        rw [← hi2, hall (j + 1 + i) (by omega) (by omega)]; rfl
    · cases hcc
      have hmemE : L[j] ∈ ents.toList := by
        have : L[j] ∈ L.toList := by simp
        rw [hL2] at this; exact (List.mem_filter.1 this).1
      exact ⟨L[j], hmemE, by simp, rfl⟩
theorem oFe {x : Operand} {m b clk : Nat} {ents : Array MapEntry} {left : List (Value × Value)} {k v : Value} {R : List HProp} (hm : F.h m = some (.map ents clk)) (hst : Stamped ents clk) (h : G n ds F K ((d, .tuple #[k, v]) :: σ) H) (ho : o.op = .entry x := by exact rfl) (hd : o.dst = some d := by exact rfl)
    (hx : evo σ x = some (.pointer (some ⟨b, 0, none⟩)) := by exact rfl) (hs : Sel H (mit ents clk m b left (some (k, v))) R := by repeat (first | exact Sel.here | apply Sel.there)) (hdn : Nat.blt d n = true := by exact rfl) : G n ds F (fun a w => o.wp P a w K Q) σ H :=
  op_run hd hdn (fun a w en s => by
    obtain ⟨hh, ⟨seen, hb, hleft, hc⟩, hl⟩ := (s.sel hs).get
    have hwm : w.heap[m]? = some (.map ents clk) := s.frame _ _ hm
    have hwb : w.heap[b]? = some (.mapIter (some m) clk seen clk) := hl _ _ hb
    obtain ⟨e, he1, he2, he3⟩ := hc _ rfl
    have hf : ents.find? (·.born == e.born) = some e := by rw [← Array.find?_toList]; exact find_born e ents.toList hst.2.1 he1
    have hrun : (Instr.entry (.pointer (some ⟨b, 0, none⟩))).run P w = .ok (.tuple #[k, v]) w := by
      simp only [Instr.entry, getObj, Sem.run_bind, Sem.run, hwb, hwm, Result.andThen, he2, bne_self_eq_false, Bool.false_eq_true, if_false, hf]
      cases he3; rfl
    simp [execOp, ho, en.eval hx, hrun]) h
end
theorem g_sub2 {n : Nat} {ds : List Deferred} {F : Frm} {K : Act → World → Prop} {σ S : Slots} {H : List HProp} (h : G n ds F K S H) (hs : Subs S σ := by exact Sb) : G n ds F K σ H := .mk fun a w e s => h a w (e.sub hs) s
end Go.Eng
