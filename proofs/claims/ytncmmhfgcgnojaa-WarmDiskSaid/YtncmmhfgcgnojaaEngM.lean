/- The engine, maps: a map of one's own, its entries in the order of their laying. -/
import Derived.Test.YtncmmhfgcgnojaaEng9
import Derived.MapKept
namespace Go.Eng
open Go Go.MapKept

/-- a map's block: keys and values -/
inductive mp (d : TypeDesc) (b : Nat) (es : List (Value × Value)) (h : Hp) : Prop
  | mk (ents : Array MapEntry) (clk : Nat) (he : ents.toList.map (fun e => (e.key, e.val)) = es) (hk : ∀ x ∈ ents.toList, IsKey d x.key) (hb : h b = some (.map ents clk))
/-- what a key's value is -/
def lk (es : List (Value × Value)) (k : Value) : Option Value :=
  match es with
  | [] => none
  | (k', v) :: r => match sameK k' k with | true => some v | false => lk r k
where sameK : Value → Value → Bool
  | .int _ a, .int _ b => decide (a = b)
  | .string a, .string b => decide (a.data.toList = b.data.toList)
  | _, _ => false
def isK : TypeDesc → Value → Bool
  | .int k, .int k' _ => decide (k' = k)
  | .string, .string _ => true
  | _, _ => false
theorem isK_key {d : TypeDesc} {k : Value} (h : isK d k = true) : IsKey d k := by
  cases d <;> cases k <;> simp [isK] at h <;> simp [IsKey, h]
theorem findNow_lk {d : TypeDesc} {k : Value} (hk : isK d k = true) : ∀ (l : List MapEntry) (i : Nat), (∀ x ∈ l, IsKey d x.key) → ∃ r, Instr.findNow d k l i = some r ∧ r.map (·.2) = lk (l.map fun e => (e.key, e.val)) k := by
  intro l
  induction l with
  | nil => intro i _; exact ⟨none, rfl, rfl⟩
  | cons e r ih =>
    intro i h
    have he := h e (List.mem_cons_self ..)
    have hr := fun j => ih j fun x hx => h x (List.mem_cons_of_mem _ hx)
    cases d <;> cases k <;> simp [isK] at hk
    · rename_i kd kd' z
      subst hk
      obtain ⟨key, val, born⟩ := e
      cases key <;> simp [IsKey] at he
      rename_i kd2 z2
      subst he
      by_cases hz : z = z2
      · subst hz
        exact ⟨some (i, val), by simp [Instr.findNow, Instr.sameNow], by simp [lk, lk.sameK]⟩
      · obtain ⟨q, h1, h2⟩ := hr (i + 1)
        refine ⟨q, ?_, ?_⟩
        · simp only [Instr.findNow, Instr.sameNow, if_true]
          have : (z == z2) = false := by simpa using hz
          rw [this]; exact h1
        · simp only [List.map_cons, lk, lk.sameK]
          have : decide (z2 = z) = false := by simpa using fun e => hz e.symm
          rw [this]; exact h2
    · rename_i s
      obtain ⟨key, val, born⟩ := e
      cases key <;> simp [IsKey] at he
      rename_i s2
      by_cases hz : s = s2
      · subst hz
        refine ⟨some (i, val), ?_, by simp [lk, lk.sameK]⟩
        have : (s == s) = true := (bytes_beq s s).2 rfl
        simp [Instr.findNow, Instr.sameNow, this]
      · obtain ⟨q, h1, h2⟩ := hr (i + 1)
        refine ⟨q, ?_, ?_⟩
        · simp only [Instr.findNow, Instr.sameNow]
          have : (s == s2) = false := by
            cases hq : s == s2 with
            | false => rfl
            | true => exact absurd ((bytes_beq _ _).1 hq) hz
          rw [this]; exact h1
        · simp only [List.map_cons, lk, lk.sameK]
          have : decide (s2.data.toList = s.data.toList) = false := by
            simp only [decide_eq_false_iff_not]
            intro q
            apply hz
            apply ByteArray.ext
            exact (Array.toList_inj.1 q).symm
          rw [this]; exact h2

def mapT (P : Program) (t : TypeId) : Option (TypeId × TypeDesc × TypeId × Value) :=
  match P.underlying t with
  | some (.map k e) => match P.underlying k, P.info? e with
    | some d, some i => match i.zero with
      | some z => some (k, d, e, z)
      | none => none
    | _, _ => none
  | _ => none
theorem mapT_spec {P : Program} {t k e : TypeId} {d : TypeDesc} {z : Value} (h : mapT P t = some (k, d, e, z)) : P.underlying t = some (.map k e) ∧ P.underlying k = some d ∧ ∃ i, P.info? e = some i ∧ i.zero = some z := by
  unfold mapT at h
  cases hu : P.underlying t with
  | none => simp [hu] at h
  | some dd =>
    cases dd <;> simp [hu] at h
    rename_i k' e'
    cases hk : P.underlying k' with
    | none => simp [hk] at h
    | some d' =>
      cases hi : P.info? e' with
      | none => simp [hk, hi] at h
      | some i =>
        simp only [hk, hi] at h
        cases hz : i.zero with
        | none => simp [hz] at h
        | some z' =>
          simp [hz] at h
          obtain ⟨rfl, rfl, rfl, rfl⟩ := h
          exact ⟨rfl, hk, i, hi, hz⟩

theorem St.newO {F : Frm} {H : List HProp} {w : World} (s : St F H w) (o : Obj) (A : HProp) (hA : A fun x => if x = w.heap.size then some o else none) : St F (A :: H) (w.alloc o) := by
  obtain ⟨a1, a2, a3, fr, h, s, y, z⟩ := s
  have hold : ∀ k : Hp, Le k (hOf w) → Le k (hOf (w.alloc o)) := by
    intro k lk x ob ex
    have hx := lk x ob ex
    unfold hOf at *
    rw [RowKit.Below.heap_alloc w _ x (Array.getElem?_eq_some_iff.1 hx).1]
    exact hx
  have dk : ∀ k : Hp, Le k (hOf w) → Disj (fun x => if x = w.heap.size then some o else none) k := by
    intro k lk x
    by_cases hx : x = w.heap.size
    · right
      cases q : k x with
      | none => rfl
      | some ob =>
        have := lk x ob q
        unfold hOf at this
        have := (Array.getElem?_eq_some_iff.1 this).1
        omega
    · exact .inl (by simp [hx])
  refine ⟨a1, a2, a3, hold _ fr, uni _ h, ⟨_, h, dk _ y, le_uni_left _ _, le_uni_right (dk _ y), hA, s⟩, uni_le ?_ (hold _ y), Disj.uni (dk _ fr) z⟩
  intro x ob ex
  by_cases hx : x = w.heap.size
  · subst hx; simp only [if_true] at ex; cases ex; exact heap_alloc_new w _
  · simp [hx] at ex
/-- a block is laid anew -/
theorem St.setO {F : Frm} {H : List HProp} {w : World} {A B : HProp} {b : Nat} {o' : Obj} (s : St F (A :: H) w) (hA : ∀ h, A h → ∃ o, h b = some o) (hB : B fun x => if x = b then some o' else none) :
    St F (B :: H) { w with heap := w.heap.setIfInBounds b o' } := by
  obtain ⟨a1, a2, a3, fr, h, ⟨h1, h2, d, l1, l2, hp, s⟩, y, z⟩ := s
  obtain ⟨ob, hb⟩ := hA h1 hp
  have hw : w.heap[b]? = some ob := (l1.trans y) _ _ hb
  obtain ⟨hs1, hs2⟩ := heap_set (o' := o') hw
  have hne : ∀ k : Hp, Disj h1 k → ∀ x o, k x = some o → x ≠ b := by
    intro k dk x o e hx; subst hx
    rcases dk x with q | q
    · rw [hb] at q; cases q
    · rw [e] at q; cases q
  have hold : ∀ k : Hp, Disj h1 k → Le k (hOf w) → Le k (hOf { w with heap := w.heap.setIfInBounds b o' }) := by
    intro k dk lk x o e
    have := lk x o e
    unfold hOf at *
    show (w.heap.setIfInBounds b o')[x]? = some o
    rw [hs2 x (hne k dk x o e)]; exact this
  have dF : Disj h1 F.h := z.left l1
  have d2 : ∀ k : Hp, Disj h1 k → Disj (fun x => if x = b then some o' else none) k := by
    intro k dk x
    by_cases hx : x = b
    · subst hx
      rcases dk x with q | q
      · rw [hb] at q; cases q
      · exact .inr q
    · exact .inl (by simp [hx])
  refine ⟨a1, a2, a3, hold _ dF fr, uni _ h2, ⟨_, h2, d2 _ d, le_uni_left _ _, le_uni_right (d2 _ d), hB, s⟩, uni_le ?_ (hold _ d (l2.trans y)), Disj.uni (d2 _ dF) (z.left l2)⟩
  intro x o e
  by_cases hx : x = b
  · subst hx; simp only [if_true] at e; cases e; exact hs1
  · simp [hx] at e

section
variable {P : Program} {n : Nat} {ds : List Deferred} {F : Frm} {Q : Exit → Act → World → Prop} {K : Act → World → Prop} {σ : Slots} {H : List HProp} {o : Oper} {d : Nat}
theorem oMm {t : TypeId} (dd : TypeDesc) (h : ∀ b, G n ds F K ((d, .map (some b)) :: σ) (mp dd b [] :: H)) (ho : o.op = .makeMap t none := by exact rfl) (hd : o.dst = some d := by exact rfl) (hdn : Nat.blt d n = true := by exact rfl) : G n ds F (fun a w => o.wp P a w K Q) σ H := by
  refine .mk fun a w en s => ?_
  unfold Oper.wp
  have : (execOp a.eval o).run P w = .ok (.value (.map (some w.heap.size))) (w.alloc (.map #[] 0)) := by
    have h0 : (Instr.makeMap t none).run P w = .ok (.map (some w.heap.size)) (w.alloc (.map #[] 0)) := rfl
    simp [execOp, ho, h0]
  rw [this, Oper.upon_value, hd]
  exact h _ _ _ (en.put hdn _) (s.newO _ _ (.mk #[] 0 rfl (by simp) (by simp)))
/-- a new key is laid -/
theorem oMi {t k e : TypeId} {dd : TypeDesc} {z : Value} {m x y : Operand} {b : Nat} {es : List (Value × Value)} {kv v : Value} {f : HProp → List HProp} (ht : mapT P t = some (k, dd, e, z)) (h : G n ds F K σ (f (mp dd b (es ++ [(kv, v)])))) (ho : o.op = .insert t m x y := by exact rfl) (hd : o.dst = none := by exact rfl)
    (hm : evo σ m = some (.map (some b)) := by exact rfl) (hx : evo σ x = some kv := by exact rfl) (hy : evo σ y = some v := by exact rfl) (hk : isK dd kv = true := by exact rfl) (hu : Pos H (mp dd b es) f := by repeat (first | exact Pos.here | apply Pos.there)) (hnew : lk es kv = none := by exact rfl) :
    G n ds F (fun a w => o.wp P a w K Q) σ H := by
  refine .mk fun a w en s => ?_
  obtain ⟨hu1, hu2, _, _, _⟩ := mapT_spec ht
  obtain ⟨R, s1, s2⟩ := hu.sel
  have sR := s.sel s1
  obtain ⟨hh, ⟨ents, clk, he, hks, hb⟩, hl⟩ := sR.get
  have hw : w.heap[b]? = some (.map ents clk) := hl _ _ hb
  obtain ⟨r, hr1, hr2⟩ := findNow_lk hk ents.toList 0 hks
  rw [he, hnew] at hr2
  have hr0 : r = none := by cases r with | none => rfl | some q => simp at hr2
  subst hr0
  unfold Oper.wp
  have : (execOp a.eval o).run P w = .ok .skip { w with heap := w.heap.setIfInBounds b (.map (ents.push { key := kv, val := v, born := clk }) (clk + 1)) } := by
    simp [execOp, ho, en.eval hm, en.eval hx, en.eval hy, Instr.mapUpdate, run_underlying hu1, MapKept.run_getObj_map hw, MapKept.run_checkKey hu2 (isK_key hk), MapKept.run_findKey hu2 hr1, MapKept.run_setObj_map _ hw, Result.andThen]
  rw [this, Oper.upon_skip, hd]
  refine h _ _ en (St.unsel (s2 _) (sR.setO (fun h' p => by obtain ⟨_, _, _, _, q⟩ := p; exact ⟨_, q⟩) (.mk (ents.push { key := kv, val := v, born := clk }) (clk + 1) (by simp [he]) (fun q hq => ?_) (by simp))))
  simp only [Array.toList_push, List.mem_append, List.mem_singleton] at hq
  rcases hq with hq | rfl
  · exact hks q hq
  · exact isK_key hk
/-- a key is looked up -/
theorem oMl {t k e : TypeId} {dd : TypeDesc} {z : Value} {m x : Operand} {b : Nat} {es : List (Value × Value)} {kv : Value} {R : List HProp} (ht : mapT P t = some (k, dd, e, z)) (h : G n ds F K ((d, (lk es kv).getD z) :: σ) H) (ho : o.op = .lookup t m x false := by exact rfl) (hd : o.dst = some d := by exact rfl)
    (hm : evo σ m = some (.map (some b)) := by exact rfl) (hx : evo σ x = some kv := by exact rfl) (hk : isK dd kv = true := by exact rfl) (hs : Sel H (mp dd b es) R := by repeat (first | exact Sel.here | apply Sel.there)) (hdn : Nat.blt d n = true := by exact rfl) : G n ds F (fun a w => o.wp P a w K Q) σ H :=
  op_run hd hdn (fun a w en s => by
    obtain ⟨hu1, hu2, i, hi, hz⟩ := mapT_spec ht
    obtain ⟨hh, ⟨ents, clk, he, hks, hb⟩, hl⟩ := (s.sel hs).get
    have hw : w.heap[b]? = some (.map ents clk) := hl _ _ hb
    obtain ⟨r, hr1, hr2⟩ := findNow_lk hk ents.toList 0 hks
    rw [he] at hr2
    cases r with
    | none =>
      rw [← hr2]
      simp [execOp, ho, en.eval hm, en.eval hx, Instr.lookup, run_underlying hu1, MapKept.run_getObj_map hw, MapKept.run_checkKey hu2 (isK_key hk), MapKept.run_findKey hu2 hr1, zeroValue, typeInfo, hi, hz, Result.andThen]
    | some q =>
      obtain ⟨j, v⟩ := q
      rw [← hr2]
      simp [execOp, ho, en.eval hm, en.eval hx, Instr.lookup, run_underlying hu1, MapKept.run_getObj_map hw, MapKept.run_checkKey hu2 (isK_key hk), MapKept.run_findKey hu2 hr1, Result.andThen]) h
theorem Rt3 {fn : Func} {R : Value → List HProp → Prop} {t u u' : Nat} {v x x' : Value} (H' : List HProp) (hr : fn.results = #[.tmp t, .tmp u, .tmp u']) (hR : R (.tuple #[v, x, x']) H') (hv : look σ t = some v := by exact rfl) (hx : look σ u = some x := by exact rfl) (hx' : look σ u' = some x' := by exact rfl)
    (hh : ∀ h, starL H h → starL H' h := by exact Eh) : G n [] F (bodyPost P fn (fun e w' => ∃ v H', e = .returned v ∧ R v H' ∧ St F H' w') .ret) σ H :=
  .mk fun a w e s => ⟨e.defers, .tuple #[v, x, x'], by
    have h1 : a.tmps.getD t undef = v := by simp [e.slot t v hv]
    have h2 : a.tmps.getD u undef = x := by simp [e.slot u x hx]
    have h3 : a.tmps.getD u' undef = x' := by simp [e.slot u' x' hx']
    simp only [results, hr]
    simp at h1 h2 h3
    simp [h1, h2, h3], _, H', rfl, hR, s.sub hh⟩
theorem mp_in {dd : TypeDesc} {h : Hp} {b : Nat} {es : List (Value × Value)} (o : ∃ k, mp dd b es k ∧ Le k h) : ∃ k, mp dd b es k ∧ Le k h := o
end
end Go.Eng
