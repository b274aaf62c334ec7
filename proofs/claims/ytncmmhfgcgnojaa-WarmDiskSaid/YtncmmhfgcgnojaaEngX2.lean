/- The engine: a map is gone through, is copied. -/
import Derived.Test.YtncmmhfgcgnojaaEngW
namespace Go.Eng
open Go Go.MapKept

theorem St.setP {F : Frm} {H : List HProp} {w : World} {A B : HProp} {b : Nat} {o' : Obj} (s : St F (A :: H) w) (hA : ∀ h, A h → Le h (hOf w) → (∃ o, h b = some o) ∧ B fun x => if x = b then some o' else h x) :
    St F (B :: H) { w with heap := w.heap.setIfInBounds b o' } := by
  obtain ⟨a1, a2, a3, fr, h, ⟨h1, h2, d, l1, l2, hp, s⟩, y, z⟩ := s
  obtain ⟨⟨ob, hb⟩, hB⟩ := hA h1 hp (l1.trans y)
  have hw : w.heap[b]? = some ob := (l1.trans y) _ _ hb
  obtain ⟨hs1, hs2⟩ := heap_set (o' := o') hw
  have hne : ∀ k : Hp, Disj h1 k → ∀ x o, k x = some o → x ≠ b := by
    intro k dk x o e hx; subst hx
    rcases dk x with q | q
    · rw [hb] at q; cases q
    · rw [e] at q; cases q
  have hold : ∀ k : Hp, Disj h1 k → Le k (hOf w) → Le k (hOf { w with heap := w.heap.setIfInBounds b o' }) := by
    intro k dk lk x o e
    have := lk x o e
    unfold hOf at *
    show (w.heap.setIfInBounds b o')[x]? = some o
    rw [hs2 x (hne k dk x o e)]; exact this
  have dF : Disj h1 F.h := z.left l1
  have d2 : ∀ k : Hp, Disj h1 k → Disj (fun x => if x = b then some o' else h1 x) k := by
    intro k dk x
    by_cases hx : x = b
    · subst hx
      rcases dk x with q | q
      · rw [hb] at q; cases q
      · exact .inr q
    · rcases dk x with q | q
      · exact .inl (by simp [hx, q])
      · exact .inr q
  refine ⟨a1, a2, a3, hold _ dF fr, uni _ h2, ⟨_, h2, d2 _ d, le_uni_left _ _, le_uni_right (d2 _ d), hB, s⟩, uni_le ?_ (hold _ d (l2.trans y)), Disj.uni (d2 _ dF) (z.left l2)⟩
  intro x o e
  by_cases hx : x = b
  · subst hx; simp only [if_true] at e; cases e; exact hs1
  · simp only [hx, if_false] at e
    have := (l1.trans y) x o e
    unfold hOf at *
    show (w.heap.setIfInBounds b o')[x]? = some o
    rw [hs2 x hx]; exact this
/-- a new block beside a part becomes a part with it -/
theorem St.newP {F : Frm} {H : List HProp} {w : World} {A B : HProp} (s : St F (A :: H) w) (o : Obj) (hA : ∀ h, A h → Le h (hOf w) → B fun x => if x = w.heap.size then some o else h x) : St F (B :: H) (w.alloc o) := by
  have s1 := s.newO o (fun k => k w.heap.size = some o ∧ ∀ x, x ≠ w.heap.size → k x = none) ⟨by simp, fun x hx => by simp [hx]⟩
  obtain ⟨a1, a2, a3, fr, h, ⟨k1, k2, d, l1, l2, hk1, ⟨h1, h2, d', l3, l4, hp, st⟩⟩, y, z⟩ := s1
  have hOld : Le h1 (hOf w) := by
    intro x ob e
    have q := (l3.trans (l2.trans y)) x ob e
    unfold hOf at q ⊢
    have hx : x ≠ w.heap.size := by
      intro q'; subst q'
      rcases d w.heap.size with q2 | q2
      · rw [hk1.1] at q2; cases q2
      · rw [l3 _ _ e] at q2; cases q2
    have hlt := (Array.getElem?_eq_some_iff.1 q).1
    have hsz : (w.alloc o).heap.size = w.heap.size + 1 := by show (w.heap.push o).size = _; simp
    rw [hsz] at hlt
    rw [← q, RowKit.Below.heap_alloc w _ x (by omega)]
  have hB := hA h1 hp hOld
  have dk : Disj k1 h2 := d.right l4
  refine ⟨a1, a2, a3, fr, uni (fun x => if x = w.heap.size then some o else h1 x) h2, ⟨_, h2, ?_, le_uni_left _ _, le_uni_right ?_, hB, st⟩, uni_le ?_ (l4.trans (l2.trans y)), Disj.uni ?_ (z.left (l4.trans l2))⟩
  · intro x
    by_cases hx : x = w.heap.size
    · subst hx
      rcases dk w.heap.size with q | q
      · rw [hk1.1] at q; cases q
      · exact .inr q
    · rcases d' x with q | q
      · exact .inl (by simp [hx, q])
      · exact .inr q
  · intro x
    by_cases hx : x = w.heap.size
    · subst hx
      rcases dk w.heap.size with q | q
      · rw [hk1.1] at q; cases q
      · exact .inr q
    · rcases d' x with q | q
      · exact .inl (by simp [hx, q])
      · exact .inr q
  · intro x ob e
    by_cases hx : x = w.heap.size
    · subst hx; simp only [if_true] at e; cases e; exact (l1.trans y) _ _ hk1.1
    · simp only [hx, if_false] at e; exact (l3.trans (l2.trans y)) _ _ e
  · intro x
    by_cases hx : x = w.heap.size
    · subst hx
      rcases (z.left l1) w.heap.size with q | q
      · rw [hk1.1] at q; cases q
      · exact .inr q
    · rcases (z.left (l3.trans l2)) x with q | q
      · exact .inl (by simp [hx, q])
      · exact .inr q

/-- a map and one who goes through it: what is left, what stands next -/
inductive mqi (dd : TypeDesc) (m : Nat) (es : List (Value × Value)) (b : Nat) (left : List (Value × Value)) (cur : Option (Value × Value)) (h : Hp) : Prop
  | mk (ents : Array MapEntry) (clk : Nat) (seen : Array Nat) (he : ents.toList.map (fun e => (e.key, e.val)) = es) (hk : ∀ x ∈ ents.toList, IsKey dd x.key) (hs : Stamped ents clk) (hm : h m = some (.map ents clk)) (hb : h b = some (.mapIter (some m) clk seen clk))
    (hne : m ≠ b) (hl : (ents.toList.filter fun e => !seen.contains e.born).map (fun e => (e.key, e.val)) = left) (hc : ∀ c, cur = some c → ∃ e ∈ ents.toList, seen.back? = some e.born ∧ (e.key, e.val) = c)
theorem mqi_mq {dd : TypeDesc} {m b : Nat} {es left : List (Value × Value)} {cur : Option (Value × Value)} {h : Hp} (p : mqi dd m es b left cur h) : mq dd m es h := by
  obtain ⟨ents, clk, seen, he, hk, hs, hm, hb, _, _, _⟩ := p
  exact ⟨ents, clk, he, hk, hs, hm⟩
theorem starL_mqi {dd : TypeDesc} {m b : Nat} {es left : List (Value × Value)} {cur : Option (Value × Value)} {H : List HProp} {h : Hp} (s : starL (mqi dd m es b left cur :: H) h) : starL (mq dd m es :: H) h := starL_cons_mono (fun _ p => mqi_mq p) s

section
variable {P : Program} {n : Nat} {ds : List Deferred} {F : Frm} {Q : Exit → Act → World → Prop} {K : Act → World → Prop} {σ : Slots} {H : List HProp} {o : Oper} {d : Nat}
theorem oQr {t k e : TypeId} {dd : TypeDesc} {z : Value} {x : Operand} {m : Nat} {es : List (Value × Value)} {f : HProp → List HProp} (ht : mapT P t = some (k, dd, e, z)) (h : ∀ b, G n ds F K ((d, .pointer (some ⟨b, 0, none⟩)) :: σ) (f (mqi dd m es b es none))) (ho : o.op = .range t x := by exact rfl) (hd : o.dst = some d := by exact rfl)
    (hx : evo σ x = some (.map (some m)) := by exact rfl) (hu : Pos H (mq dd m es) f := by repeat (first | exact Pos.here | apply Pos.there)) (hdn : Nat.blt d n = true := by exact rfl) : G n ds F (fun a w => o.wp P a w K Q) σ H := by
  refine .mk fun a w en s => ?_
  obtain ⟨hu1, hu2, _, _, _⟩ := mapT_spec ht
  obtain ⟨R, s1, s2⟩ := hu.sel
  have sR := s.sel s1
  obtain ⟨hh, ⟨ents, clk, he, hks, hst, hb⟩, hl⟩ := sR.get
  have hw : w.heap[m]? = some (.map ents clk) := hl _ _ hb
  unfold Oper.wp
  have hrun : (execOp a.eval o).run P w = .ok (.value (.pointer (some ⟨w.heap.size, 0, none⟩))) (w.alloc (.mapIter (some m) clk #[] clk)) := by
    have : (Instr.range t (.map (some m))).run P w = .ok (.pointer (some ⟨w.heap.size, 0, none⟩)) (w.alloc (.mapIter (some m) clk #[] clk)) := by
      simp [Instr.range, run_underlying hu1, MapKept.run_getObj_map hw]
    simp [execOp, ho, en.eval hx, this]
  rw [hrun, Oper.upon_value, hd]
  refine h _ _ _ (en.put hdn _) (St.unsel (s2 _) (sR.newP _ fun h1 p hl1 => ?_))
  obtain ⟨ents', clk', he', hks', hst', hb'⟩ := p
  have hw' : w.heap[m]? = some (.map ents' clk') := hl1 _ _ hb'
  rw [hw] at hw'; cases hw'
  have hmlt := (Array.getElem?_eq_some_iff.1 hw).1
  exact ⟨ents, clk, #[], he', hks', hst', by simp [show m ≠ w.heap.size from by omega, hb'], by simp, by omega, by rw [List.filter_eq_self.2 (by simp)]; exact he', fun c hc => by cases hc⟩
theorem oQn {x : Operand} {dd : TypeDesc} {m b : Nat} {es left : List (Value × Value)} {cur : Option (Value × Value)} {f : HProp → List HProp} (h0 : left = [] → G n ds F K ((d, .tuple #[.bool false]) :: σ) (f (mqi dd m es b left cur)))
    (h1 : ∀ l1 k v l2, left = l1 ++ (k, v) :: l2 → G n ds F K ((d, .tuple #[.bool true, k, v]) :: σ) (f (mqi dd m es b (l1 ++ l2) (some (k, v))))) (ho : o.op = .next x false := by exact rfl) (hd : o.dst = some d := by exact rfl)
    (hx : evo σ x = some (.pointer (some ⟨b, 0, none⟩)) := by exact rfl) (hu : Pos H (mqi dd m es b left cur) f := by repeat (first | exact Pos.here | apply Pos.there)) (hdn : Nat.blt d n = true := by exact rfl) : G n ds F (fun a w => o.wp P a w K Q) σ H := by
  refine .mk fun a w en s => ?_
  obtain ⟨R, s1, s2⟩ := hu.sel
  have sR := s.sel s1
  obtain ⟨hh, ⟨ents, clk, seen, he, hks, hst, hm, hb, hne, hleft, hc⟩, hl⟩ := sR.get
  have hwm : w.heap[m]? = some (.map ents clk) := hl _ _ hm
  have hwb : w.heap[b]? = some (.mapIter (some m) clk seen clk) := hl _ _ hb
  have test := next_test_false seen ents clk clk (fun x hx => hst.1 x hx) (Nat.le_refl _)
  have hL : ∃ L : Array MapEntry, ents.filter (fun e => !seen.contains e.born) = L ∧ L.toList = ents.toList.filter (fun e => !seen.contains e.born) := ⟨_, rfl, by simp⟩
  obtain ⟨L, hL1, hL2⟩ := hL
  have hmem : ∀ x ∈ L.toList, x.born < clk := fun x hx => by rw [hL2] at hx; exact hst.1 x (List.mem_filter.1 hx).1
  have e1 : L.filter (fun x => decide (x.born < clk)) = L := Array.filter_eq_self.2 (fun x hx => by simpa using hmem x (by simpa using hx))
  have e2 : L.filter (fun x => decide (x.born ≥ clk)) = #[] := by
    rw [Array.filter_eq_empty_iff]
    intro x hx
    have := hmem x (by simpa using hx)
    simp
    omega
  unfold Oper.wp
  by_cases hz : L.size = 0
  · have hLe : L = #[] := Array.eq_empty_of_size_eq_zero hz
    have hln : left = [] := by rw [← hleft, ← hL2, hLe]; rfl
    have hrun : (Instr.next (.pointer (some ⟨b, 0, none⟩)) false o.type).run P w = .ok (.tuple #[.bool false]) w := by
      simp only [Instr.next, getObj, Sem.run_bind, Sem.run, hwb, hwm, Result.andThen, test, Bool.false_eq_true, if_false, hL1, e1, e2, Array.append_empty]
      subst hLe
      simp [choose, Sem.run, Question.forced]
    have : (execOp a.eval o).run P w = .ok (.value (.tuple #[.bool false])) w := by simp [execOp, ho, en.eval hx, hrun]
    rw [this, Oper.upon_value, hd]
    exact h0 hln _ _ (en.put hdn _) (St.unsel (s2 _) sR)
  · have hne' : L.isEmpty = false := by simp [Array.isEmpty, hz]
    have hch : ∃ (j : Nat) (w1 : World), j < L.size ∧ w1.heap = w.heap ∧ (∀ {A : List HProp}, St F A w → St F A w1) ∧ (choose (Question.mapNext L.size)).run P w = .ok j w1 := by
      by_cases hf : L.size ≤ 1
      · exact ⟨0, w, by omega, rfl, fun s => s, by simp [choose, Sem.run, Question.forced, hf]⟩
      · exact ⟨_, w.drew, Nat.mod_lt _ (by omega), rfl, fun s => s.drew, by
          simp only [choose, Sem.run, Question.forced, decide_eq_true_eq, hf, if_false, Question.cut]
          rfl⟩
    obtain ⟨j, w1, hj, hheap, hst1, hrunc⟩ := hch
    have hjL : L.toList[j]? = some L[j] := by simp
    have hwb1 : w1.heap[b]? = some (.mapIter (some m) clk seen clk) := by rw [hheap]; exact hwb
    have hset : (setObj b (.mapIter (some m) clk (seen.push L[j].born) clk)).run P w1 = .ok () { w1 with heap := w1.heap.setIfInBounds b (.mapIter (some m) clk (seen.push L[j].born) clk) } := by
      simp [setObj, Sem.run, hwb1]
    have hrun : (Instr.next (.pointer (some ⟨b, 0, none⟩)) false o.type).run P w = .ok (.tuple #[.bool true, L[j].key, L[j].val]) { w1 with heap := w1.heap.setIfInBounds b (.mapIter (some m) clk (seen.push L[j].born) clk) } := by
      simp only [Instr.next, getObj, Sem.run_bind, Sem.run, hwb, hwm, Result.andThen, test, Bool.false_eq_true, if_false, hL1, e1, e2, Array.append_empty, hne', Array.empty_append, Array.size_map, hrunc, Array.getElem?_map, Array.getElem?_eq_getElem hj, Option.map_some, hset]
      rfl
    have : (execOp a.eval o).run P w = .ok (.value (.tuple #[.bool true, L[j].key, L[j].val])) { w1 with heap := w1.heap.setIfInBounds b (.mapIter (some m) clk (seen.push L[j].born) clk) } := by simp [execOp, ho, en.eval hx, hrun]
    rw [this, Oper.upon_value, hd]
    have hsplit : left = (L.toList.take j).map (fun e => (e.key, e.val)) ++ (L[j].key, L[j].val) :: (L.toList.drop (j + 1)).map (fun e => (e.key, e.val)) := by
      rw [← hleft, ← hL2]
      conv => lhs; rw [← List.take_append_drop j L.toList, List.map_append]
      rw [List.drop_eq_getElem_cons (by simpa using hj)]
      simp
    refine h1 _ _ _ _ hsplit _ _ (en.put hdn _) (St.unsel (s2 _) ((hst1 sR).setP fun h1 p hl1 => ?_))
    obtain ⟨ents', clk', seen', he', hks', hst', hm', hb', hne2, hleft', hc'⟩ := p
    have q1 : w1.heap[m]? = some (.map ents' clk') := hl1 _ _ hm'
    have q2 : w1.heap[b]? = some (.mapIter (some m) clk' seen' clk') := hl1 _ _ hb'
    rw [hheap, hwm] at q1; cases q1
    rw [hheap, hwb] at q2; cases q2
    refine ⟨⟨_, hb'⟩, ents, clk, seen.push L[j].born, he, hks, hst, by simp [hne, hm'], by simp, hne, ?_, fun c hcc => ?_⟩
    · -- what is left
      have hnd : (L.toList.map (·.born)).Nodup := by
        rw [hL2]; exact (List.Sublist.map _ List.filter_sublist).nodup hst.2.1
      have hfil : ents.toList.filter (fun e => !(seen.push L[j].born).contains e.born) = L.toList.filter (fun e => !(e.born == L[j].born)) := by
        rw [hL2, List.filter_filter]
        apply List.filter_congr
        intro x _
        rw [contains_push]
        cases seen.contains x.born <;> simp
      rw [hfil, ← List.map_append]
      congr 1
      conv => lhs; rw [← List.take_append_drop j L.toList, List.filter_append]
      rw [List.drop_eq_getElem_cons (show j < L.toList.length by simpa using hj), List.filter_cons_of_neg (by simp)]
      have hall : ∀ i (hi : i < L.toList.length), i ≠ j → (L.toList[i].born == L[j].born) = false := by
        intro i hi hij
        rw [beq_eq_false_iff_ne]
        intro q
        refine hij (nodup_at hnd (x := L[j].born) ?_ ?_)
        · rw [List.getElem?_map, List.getElem?_eq_getElem hi, Option.map_some, q]
        · rw [List.getElem?_map, hjL, Option.map_some]
      congr 1
      · rw [List.filter_eq_self]
        intro x hx
        obtain ⟨i, hi⟩ := List.getElem?_of_mem hx
        obtain ⟨hi1, hi2⟩ := List.getElem?_eq_some_iff.1 hi
        simp only [List.length_take] at hi1
        rw [List.getElem_take] at hi2
        rw [← hi2, hall i (by omega) (by omega)]; rfl
      · rw [List.filter_eq_self]
        intro x hx
        obtain ⟨i, hi⟩ := List.getElem?_of_mem hx
        obtain ⟨hi1, hi2⟩ := List.getElem?_eq_some_iff.1 hi
        simp only [List.length_drop] at hi1
        rw [List.getElem_drop] at hi2
        rw [← hi2, hall (j + 1 + i) (by omega) (by omega)]; rfl
    · cases hcc
      have hmemE : L[j] ∈ ents.toList := by
        have : L[j] ∈ L.toList := by simp
        rw [hL2] at this; exact (List.mem_filter.1 this).1
      exact ⟨L[j], hmemE, by simp, rfl⟩
theorem oQe {x : Operand} {dd : TypeDesc} {m b : Nat} {es left : List (Value × Value)} {k v : Value} {R : List HProp} (h : G n ds F K ((d, .tuple #[k, v]) :: σ) H) (ho : o.op = .entry x := by exact rfl) (hd : o.dst = some d := by exact rfl)
    (hx : evo σ x = some (.pointer (some ⟨b, 0, none⟩)) := by exact rfl) (hs : Sel H (mqi dd m es b left (some (k, v))) R := by repeat (first | exact Sel.here | apply Sel.there)) (hdn : Nat.blt d n = true := by exact rfl) : G n ds F (fun a w => o.wp P a w K Q) σ H :=
  op_run hd hdn (fun a w en s => by
    obtain ⟨hh, ⟨ents, clk, seen, he, hks, hst, hm, hb, hne, hleft, hc⟩, hl⟩ := (s.sel hs).get
    have hwm : w.heap[m]? = some (.map ents clk) := hl _ _ hm
    have hwb : w.heap[b]? = some (.mapIter (some m) clk seen clk) := hl _ _ hb
    obtain ⟨e, he1, he2, he3⟩ := hc _ rfl
    have hf : ents.find? (·.born == e.born) = some e := by rw [← Array.find?_toList]; exact find_born e ents.toList hst.2.1 he1
    have hrun : (Instr.entry (.pointer (some ⟨b, 0, none⟩))).run P w = .ok (.tuple #[k, v]) w := by
      simp only [Instr.entry, getObj, Sem.run_bind, Sem.run, hwb, hwm, Result.andThen, he2, bne_self_eq_false, Bool.false_eq_true, if_false, hf]
      cases he3; rfl
    simp [execOp, ho, en.eval hx, hrun]) h
/-- maps.Clone's inner call -/
theorem oQc {f : FuncId} {ats : Array TypeId} {x : Operand} {t : TypeId} {dd : TypeDesc} {m : Nat} {es : List (Value × Value)} {R : List HProp} (he : isEx P f Extern.MapsClone.clone) (h : ∀ b, G n ds F K ((d, .iface t (.map (some b))) :: σ) (mq dd b es :: H)) (ho : o.op = .call { callee := .value (.func f), args := #[x], argTypes := ats } := by exact rfl) (hd : o.dst = some d := by exact rfl)
    (hx : evo σ x = some (.iface t (.map (some m))) := by exact rfl) (hs : Sel H (mq dd m es) R := by repeat (first | exact Sel.here | apply Sel.there)) (hdn : Nat.blt d n = true := by exact rfl) : G n ds F (fun a w => o.wp P a w K Q) σ H := by
  refine .mk fun a w en s => ?_
  obtain ⟨fn, h1, h2, h3, h4, h5⟩ := he
  obtain ⟨hh, ⟨ents, clk, hes, hks, hst, hb⟩, hl⟩ := (s.sel hs).get
  have hw : w.heap[m]? = some (.map ents clk) := hl _ _ hb
  unfold Oper.wp
  rw [run_ex (xs := [x]) ho rfl]
  have hcl : (Extern.MapsClone.clone #[.iface t (.map (some m))]).run P w = .ok (.iface t (.map (some w.heap.size))) (w.alloc (.map ents clk)) := by
    have hdef : Extern.MapsClone.clone #[.iface t (.map (some m))] = (do
      let .map entries clock ← getObj m | stuck "maps.clone: a map expected"
      pure (.iface t (.map (some (← newObj (.map entries clock)))))) := rfl
    rw [hdef, Sem.run_bind, MapKept.run_getObj_map hw]
    rfl
  have hrun : (callFunc f #[.iface t (.map (some m))]).run P w = .ok (.value (.iface t (.map (some w.heap.size)))) (w.alloc (.map ents clk)) := by
    rw [run_callFunc_extern h1 h2 h3 h4 h5, hcl]; rfl
  simp only [List.map_cons, List.map_nil, en.eval hx]
  rw [hrun, Oper.upon_value, hd]
  exact h _ _ _ (en.put hdn _) (s.newO _ _ (.mk ents clk hes hks hst (by simp)))
end
end Go.Eng
