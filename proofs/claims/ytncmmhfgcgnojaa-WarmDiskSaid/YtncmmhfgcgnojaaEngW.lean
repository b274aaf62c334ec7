/- The engine: function values, interfaces, maps that are gone through. -/
import Derived.Test.YtncmmhfgcgnojaaEngT
import Derived.Test.YtncmmhfgcgnojaaEngL
import Derived.Laws.Externs
namespace Go.Eng
open Go Go.MapKept

section
variable {P : Program} {n : Nat} {ds : List Deferred} {F : Frm} {Q : Exit → Act → World → Prop} {K : Act → World → Prop} {σ : Slots} {H : List HProp} {o : Oper} {d : Nat}
-- function values
theorem Mf {fn : Fn} {fs cs : List Operand} {fv cv : List Value} (ho : o.op = .makeFunc fn fs.toArray cs.toArray := by exact rfl) (hf : evos σ fs = some fv := by exact rfl) (hc : evos σ cs = some cv := by exact rfl) : Yv P n ds F σ o (.func fn fv.toArray cv.toArray) :=
  fun a w e _ => by
    have h1 := e.evals hf
    have h2 := e.evals hc
    simp [execOp, ho, Instr.makeFunc, ← h1, ← h2]
theorem run_callV {ρ : Operand → Value} {f : FuncId} {xs : List Operand} {vs fv cv : List Value} {ats : Array TypeId} {w : World} {fn : Func} {x : Operand} (ho : o.op = .call { callee := .value x, args := xs.toArray, argTypes := ats })
    (hρ : ρ x = .func (.func f) fv.toArray cv.toArray) (hv : xs.map ρ = vs) (hf : P.funcs[f]? = some fn) (hb : fn.body.isSome = true) (hnm : (fn.name == "runtime.NumGoroutine") = false) :
    (execOp ρ o).run P w = .ok (.enter f (fv ++ vs ++ cv).toArray) w := by
  have hnone : fn.body.isNone = false := by rw [← Option.not_isSome, hb]; rfl
  have hnm' : ¬ fn.name = "runtime.NumGoroutine" := by simpa using hnm
  have hb' : ¬ fn.body = none := by intro q; rw [q] at hb; cases hb
  simp [execOp, ho, resolve, hρ, Deferred.ofValue, invoke, callFunc, hf, ← hv]
  rw [if_neg hnm', if_neg hb']
theorem op_callV {f : FuncId} {xs : List Operand} {vs fv cv : List Value} {ats : Array TypeId} {pre : Hp → Prop} {As R : List HProp} {T : Value → List HProp → Prop} {x : Operand} (hfn : isFn P f = true) (ho : o.op = .call { callee := .value x, args := xs.toArray, argTypes := ats })
    (hd : o.dst = some d) (hx : evo σ x = some (.func (.func f) fv.toArray cv.toArray)) (hv : evos σ xs = some vs) (hc : FnS P f (fv ++ vs ++ cv) pre As T) (hsel : Sels H As R) (hpre : ∀ h, Le F.h h → InL R h → pre h) (hdn : Nat.blt d n = true)
    (h : ∀ v H', T v H' → G n ds F K ((d, v) :: σ) (H' ++ R)) : G n ds F (fun a w => o.wp P a w K Q) σ H := by
  refine .mk fun a w en s => ?_
  unfold isFn at hfn
  cases hf : P.funcs[f]? with
  | none => simp [hf] at hfn
  | some fn =>
    simp only [hf, Bool.and_eq_true, Bool.not_eq_true'] at hfn
    unfold Oper.wp
    rw [run_callV ho (en.eval hx) (en.evals hv) hf hfn.1 hfn.2, Oper.upon_enter]
    obtain ⟨a1, a2, a3, fr, hh, st, hl, hdj⟩ := s
    obtain ⟨h1, h2, d12, l1, l2, s1, s2⟩ := starL_append (hsel.out _ st)
    have d2F : Disj h2 F.h := hdj.left l2
    let F' : Frm := { F with h := uni h2 F.h }
    have hFle : Le F.h F'.h := le_uni_right d2F
    have h2le : Le h2 F'.h := le_uni_left _ _
    have st' : St F' As w := ⟨a1, a2, a3, uni_le (l2.trans hl) fr, h1, s1, l1.trans hl, (Disj.uni d12.symm (hdj.left l1).symm).symm⟩
    refine (hc F' w (hpre _ hFle (starL_InL s2 h2le)) st').mono ?_
    rintro e w' ⟨v, H', rfl, hT, sw⟩
    obtain ⟨b1, b2, b3, fr', hh', st2, hl', hdj'⟩ := sw
    rw [hd]
    refine h v H' hT _ _ (en.put hdn v) ⟨b1, b2, b3, hFle.trans fr', uni hh' h2, append_starL st2 s2 (hdj'.right h2le), uni_le hl' (h2le.trans fr'), Disj.uni (hdj'.right hFle) d2F⟩
theorem oCV {f : FuncId} {xs : List Operand} {vs fv cv : List Value} {ats : Array TypeId} {pre : Hp → Prop} {A2 R : List HProp} {T : Value → List HProp → Prop} {x : Operand} (hfn : isFn P f = true) (ho : o.op = .call { callee := .value x, args := xs.toArray, argTypes := ats })
    (hx : evo σ x = some (.func (.func f) fv.toArray cv.toArray)) (hv : evos σ xs = some vs) (hc : FnS P f (fv ++ vs ++ cv) pre A2 T) (hsel : Sels H A2 R) (hpre : ∀ h, Le F.h h → InL R h → pre h)
    (h : ∀ v H', T v H' → G n ds F K ((d, v) :: σ) (H' ++ R)) (hd : o.dst = some d := by exact rfl) (hdn : Nat.blt d n = true := by exact rfl) : G n ds F (fun a w => o.wp P a w K Q) σ H :=
  op_callV hfn ho hd hx hv hc hsel hpre hdn h

-- interfaces
def noIface (P : Program) (t : TypeId) : Bool := match P.underlying t with | some (.interface _) => false | some _ => true | none => false
theorem noIface_spec {t : TypeId} (h : noIface P t = true) : ∃ dd, P.underlying t = some dd ∧ ∀ ms, dd ≠ .interface ms := by
  unfold noIface at h
  cases hu : P.underlying t with
  | none => simp [hu] at h
  | some dd => exact ⟨dd, rfl, fun ms q => by subst q; simp [hu] at h⟩
theorem MkI {t : TypeId} {x : Operand} {v : Value} (ht : noIface P t = true) (ho : o.op = .makeInterface t x := by exact rfl) (hx : evo σ x = some v := by exact rfl) : Yv P n ds F σ o (.iface t v) := fun a w e _ => by
  obtain ⟨dd, hu, hne⟩ := noIface_spec ht
  have : (Instr.makeInterface t v).run P w = .ok (.iface t v) w := by
    cases dd <;> simp_all [Instr.makeInterface, run_underlying hu]
  simp [execOp, ho, e.eval hx, this]
def isIface (P : Program) (t : TypeId) : Bool := match P.underlying t with | some (.interface _) => true | _ => false
theorem isIface_spec {t : TypeId} (h : isIface P t = true) : ∃ ms, P.underlying t = some (.interface ms) := by
  unfold isIface at h
  cases hu : P.underlying t with
  | none => simp [hu] at h
  | some dd => cases dd <;> simp [hu] at h; exact ⟨_, rfl⟩
theorem run_eqi {t tv : TypeId} {v : Value} (ht : isIface P t = true) (w : World) : (Op.equalIn 10000 t (.iface tv v) .nilIface).run P w = .ok false w := by
  obtain ⟨ms, hu⟩ := isIface_spec ht
  unfold Op.equalIn
  simp [run_underlying hu]
theorem run_eqn {t : TypeId} (ht : isIface P t = true) (w : World) : (Op.equalIn 10000 t .nilIface .nilIface).run P w = .ok true w := by
  obtain ⟨ms, hu⟩ := isIface_spec ht
  unfold Op.equalIn
  simp [run_underlying hu]
/-- something held against nil -/
theorem Iq {op : BinOp} {t yt tv : TypeId} {x : Operand} {v : Value} {b : Bool} (ht : isIface P t = true) (ho : o.op = .binOp op t x (.const .nilIface) yt := by exact rfl) (hx : evo σ x = some (.iface tv v) := by exact rfl)
    (hop : (op = .eql ∧ b = false) ∨ (op = .neq ∧ b = true) := by first | exact .inl ⟨rfl, rfl⟩ | exact .inr ⟨rfl, rfl⟩) : Yv P n ds F σ o (.bool b) := fun a w e _ => by
  have hc : a.eval (.const .nilIface) = .nilIface := rfl
  have q := run_eqi (P := P) (tv := tv) (v := v) ht w
  rcases hop with ⟨rfl, rfl⟩ | ⟨rfl, rfl⟩ <;> simp [execOp, ho, e.eval hx, hc, eqGuard, binOp, Op.equal, Op.maxDepth, q]
/-- nil held against nil -/
theorem Iqn {op : BinOp} {t yt : TypeId} {x : Operand} {b : Bool} (ht : isIface P t = true) (ho : o.op = .binOp op t x (.const .nilIface) yt := by exact rfl) (hx : evo σ x = some .nilIface := by exact rfl)
    (hop : (op = .eql ∧ b = true) ∨ (op = .neq ∧ b = false) := by first | exact .inl ⟨rfl, rfl⟩ | exact .inr ⟨rfl, rfl⟩) : Yv P n ds F σ o (.bool b) := fun a w e _ => by
  have hc : a.eval (.const .nilIface) = .nilIface := rfl
  have q := run_eqn (P := P) ht w
  rcases hop with ⟨rfl, rfl⟩ | ⟨rfl, rfl⟩ <;> simp [execOp, ho, e.eval hx, hc, eqGuard, binOp, Op.equal, Op.maxDepth, q]
/-- x.(T), T concrete: it holds -/
theorem TaT {xt t : TypeId} {x : Operand} {v : Value} (ht : noIface P t = true) (ho : o.op = .typeAssert x xt t true := by exact rfl) (hx : evo σ x = some (.iface t v) := by exact rfl) : Yv P n ds F σ o (.tuple #[v, .bool true]) := fun a w e _ => by
  obtain ⟨dd, hu, hne⟩ := noIface_spec ht
  have : (Instr.typeAssert (.iface t v) xt t true).run P w = .ok (.tuple #[v, .bool true]) w := by
    cases dd <;> simp_all [Instr.typeAssert, run_underlying hu]
  simp [execOp, ho, e.eval hx, this]
theorem TaC {xt t : TypeId} {x : Operand} {v : Value} (ht : noIface P t = true) (ho : o.op = .typeAssert x xt t false := by exact rfl) (hx : evo σ x = some (.iface t v) := by exact rfl) : Yv P n ds F σ o v := fun a w e _ => by
  obtain ⟨dd, hu, hne⟩ := noIface_spec ht
  have : (Instr.typeAssert (.iface t v) xt t false).run P w = .ok v w := by
    cases dd <;> simp_all [Instr.typeAssert, run_underlying hu]
  simp [execOp, ho, e.eval hx, this]
/-- a method, by the interface; 'hm': which function it is -/
theorem op_callI {f : FuncId} {t : TypeId} {v rv : Value} {name : String} {xs : List Operand} {vs : List Value} {ats : Array TypeId} {pre : Hp → Prop} {As R : List HProp} {T : Value → List HProp → Prop} {x : Operand} (hfn : isFn P f = true)
    (hm : ∀ w, (method (P.types.size + Made.depth) t v name).run P w = .ok (f, rv) w) (ho : o.op = .call { callee := .invoke x name, args := xs.toArray, argTypes := ats })
    (hd : o.dst = some d) (hx : evo σ x = some (.iface t v)) (hv : evos σ xs = some vs) (hc : FnS P f (rv :: vs) pre As T) (hsel : Sels H As R) (hpre : ∀ h, Le F.h h → InL R h → pre h) (hdn : Nat.blt d n = true)
    (h : ∀ v H', T v H' → G n ds F K ((d, v) :: σ) (H' ++ R)) : G n ds F (fun a w => o.wp P a w K Q) σ H := by
  refine .mk fun a w en s => ?_
  unfold isFn at hfn
  cases hf : P.funcs[f]? with
  | none => simp [hf] at hfn
  | some fn =>
    simp only [hf, Bool.and_eq_true, Bool.not_eq_true'] at hfn
    have hrun : (execOp a.eval o).run P w = .ok (.enter f (rv :: vs).toArray) w := by
      have hnm' : ¬ fn.name = "runtime.NumGoroutine" := by simpa using hfn.2
      have hb' : ¬ fn.body = none := by intro q; rw [q] at hfn; simp at hfn
      have hv' := en.evals hv
      simp [execOp, ho, resolve, invoke, callMethod, en.eval hx, program, Sem.run, hm, callFunc, hf, ← hv']
      rw [if_neg hnm', if_neg hb', List.take_of_length_le (by simp)]
    unfold Oper.wp
    rw [hrun, Oper.upon_enter]
    obtain ⟨a1, a2, a3, fr, hh, st, hl, hdj⟩ := s
    obtain ⟨h1, h2, d12, l1, l2, s1, s2⟩ := starL_append (hsel.out _ st)
    have d2F : Disj h2 F.h := hdj.left l2
    let F' : Frm := { F with h := uni h2 F.h }
    have hFle : Le F.h F'.h := le_uni_right d2F
    have h2le : Le h2 F'.h := le_uni_left _ _
    have st' : St F' As w := ⟨a1, a2, a3, uni_le (l2.trans hl) fr, h1, s1, l1.trans hl, (Disj.uni d12.symm (hdj.left l1).symm).symm⟩
    refine (hc F' w (hpre _ hFle (starL_InL s2 h2le)) st').mono ?_
    rintro e w' ⟨v, H', rfl, hT, sw⟩
    obtain ⟨b1, b2, b3, fr', hh', st2, hl', hdj'⟩ := sw
    rw [hd]
    refine h v H' hT _ _ (en.put hdn v) ⟨b1, b2, b3, hFle.trans fr', uni hh' h2, append_starL st2 s2 (hdj'.right h2le), uni_le hl' (h2le.trans fr'), Disj.uni (hdj'.right hFle) d2F⟩
theorem oCI {f : FuncId} {t : TypeId} {v rv : Value} {name : String} {xs : List Operand} {vs : List Value} {ats : Array TypeId} {pre : Hp → Prop} {A2 R : List HProp} {T : Value → List HProp → Prop} {x : Operand} (hfn : isFn P f = true)
    (hm : ∀ w, (method (P.types.size + Made.depth) t v name).run P w = .ok (f, rv) w) (ho : o.op = .call { callee := .invoke x name, args := xs.toArray, argTypes := ats })
    (hx : evo σ x = some (.iface t v)) (hv : evos σ xs = some vs) (hc : FnS P f (rv :: vs) pre A2 T) (hsel : Sels H A2 R) (hpre : ∀ h, Le F.h h → InL R h → pre h)
    (h : ∀ v H', T v H' → G n ds F K ((d, v) :: σ) (H' ++ R)) (hd : o.dst = some d := by exact rfl) (hdn : Nat.blt d n = true := by exact rfl) : G n ds F (fun a w => o.wp P a w K Q) σ H :=
  op_callI hfn hm ho hd hx hv hc hsel hpre hdn h
end

-- maps: keys that are unlike, entries that bear stamps
inductive mq (dd : TypeDesc) (b : Nat) (es : List (Value × Value)) (h : Hp) : Prop
  | mk (ents : Array MapEntry) (clk : Nat) (he : ents.toList.map (fun e => (e.key, e.val)) = es) (hk : ∀ x ∈ ents.toList, IsKey dd x.key) (hs : Stamped ents clk) (hb : h b = some (.map ents clk))
noncomputable def lkq (es : List (Value × Value)) (k : Value) : Option Value := by
  classical exact (es.find? fun e => decide (e.1 = k)).map (·.2)
noncomputable def upq (es : List (Value × Value)) (k v : Value) : List (Value × Value) := by
  classical exact if (∃ e ∈ es, e.1 = k) then es.map (fun e => if e.1 = k then (k, v) else e) else es ++ [(k, v)]
noncomputable def deq (es : List (Value × Value)) (k : Value) : List (Value × Value) := by
  classical exact es.filter fun e => decide (e.1 ≠ k)
theorem mq_nodup {dd : TypeDesc} {b : Nat} {es : List (Value × Value)} {h : Hp} (p : mq dd b es h) : (es.map (·.1)).Nodup := by
  obtain ⟨ents, clk, he, _, hs, _⟩ := p
  rw [← he]
  simpa [Function.comp_def] using hs.2.2
theorem mq_keys {dd : TypeDesc} {b : Nat} {es : List (Value × Value)} {h : Hp} (p : mq dd b es h) : ∀ e ∈ es, IsKey dd e.1 := by
  obtain ⟨ents, clk, he, hk, _, _⟩ := p
  subst he
  intro e hm
  obtain ⟨x, hx, rfl⟩ := List.mem_map.1 hm
  exact hk x hx
/-- where a key stands -/
theorem find_at {dd : TypeDesc} {k : Value} (hk : IsKey dd k) {ents : Array MapEntry} (hks : ∀ x ∈ ents.toList, IsKey dd x.key) :
    (Instr.findNow dd k ents.toList 0 = some none ∧ ∀ e ∈ ents.toList.map (fun e => (e.key, e.val)), e.1 ≠ k) ∨ ∃ j e, Instr.findNow dd k ents.toList 0 = some (some (j, e.val)) ∧ ents[j]? = some e ∧ e.key = k := by
  rcases findNow_spec hk ents.toList 0 hks with ⟨h1, h2⟩ | ⟨j, e, h1, h2, h3⟩
  · refine .inl ⟨h1, fun e he => ?_⟩
    obtain ⟨x, hx, rfl⟩ := List.mem_map.1 he
    exact h2 x hx
  · exact .inr ⟨j, e, by simpa using h1, by simpa using h2, h3⟩
theorem lkq_none {es : List (Value × Value)} {k : Value} (h : ∀ e ∈ es, e.1 ≠ k) : lkq es k = none := by
  simp only [lkq, Option.map_eq_none_iff, List.find?_eq_none]
  intro e he; simpa using h e he
theorem lkq_some {es : List (Value × Value)} {k v : Value} (hn : (es.map (·.1)).Nodup) (h : (k, v) ∈ es) : lkq es k = some v := by
  induction es with
  | nil => cases h
  | cons e es ih =>
    simp only [List.map_cons, List.nodup_cons] at hn
    rcases List.mem_cons.1 h with rfl | h
    · simp [lkq]
    · have hne : e.1 ≠ k := fun q => hn.1 (List.mem_map.2 ⟨(k, v), h, q.symm⟩)
      have := ih hn.2 h
      simp only [lkq] at this ⊢
      rw [List.find?_cons_of_neg (by simpa using hne)]
      exact this
theorem nodup_at {α : Type} {l : List α} (hn : l.Nodup) {i j : Nat} {x : α} (hi : l[i]? = some x) (hj : l[j]? = some x) : i = j := by
  obtain ⟨h1, e1⟩ := List.getElem?_eq_some_iff.1 hi
  obtain ⟨h2, e2⟩ := List.getElem?_eq_some_iff.1 hj
  have hp := List.pairwise_iff_getElem.1 hn
  rcases Nat.lt_trichotomy i j with q | q | q
  · exact absurd (e1.trans e2.symm) (hp i j h1 h2 q)
  · exact q
  · exact absurd (e2.trans e1.symm) (hp j i h2 h1 q)
theorem isK_isKey {dd : TypeDesc} {k : Value} (h : isK dd k = true) : IsKey dd k := isK_key h
theorem sameBits_refl_key {dd : TypeDesc} {k : Value} (h : isK dd k = true) (m : Nat) : Instr.sameBits m k k = true := by
  cases dd <;> cases k <;> simp [isK] at h <;> simp [Instr.sameBits]
  exact (bytes_beq _ _).2 rfl

section
variable {P : Program} {n : Nat} {ds : List Deferred} {F : Frm} {Q : Exit → Act → World → Prop} {K : Act → World → Prop} {σ : Slots} {H : List HProp} {o : Oper} {d : Nat}
theorem oQm {t : TypeId} (dd : TypeDesc) (h : ∀ b, G n ds F K ((d, .map (some b)) :: σ) (mq dd b [] :: H)) (ho : o.op = .makeMap t none := by exact rfl) (hd : o.dst = some d := by exact rfl) (hdn : Nat.blt d n = true := by exact rfl) : G n ds F (fun a w => o.wp P a w K Q) σ H := by
  refine .mk fun a w en s => ?_
  unfold Oper.wp
  have : (execOp a.eval o).run P w = .ok (.value (.map (some w.heap.size))) (w.alloc (.map #[] 0)) := by
    have h0 : (Instr.makeMap t none).run P w = .ok (.map (some w.heap.size)) (w.alloc (.map #[] 0)) := rfl
    simp [execOp, ho, h0]
  rw [this, Oper.upon_value, hd]
  exact h _ _ _ (en.put hdn _) (s.newO _ _ (.mk #[] 0 rfl (by simp) (stamped_empty 0) (by simp)))
theorem upq_old {es : List (Value × Value)} {k v : Value} (h : ∃ e ∈ es, e.1 = k) : upq es k v = es.map (fun e => by classical exact if e.1 = k then (k, v) else e) := by
  unfold upq; rw [if_pos h]
theorem upq_new {es : List (Value × Value)} {k v : Value} (h : ∀ e ∈ es, e.1 ≠ k) : upq es k v = es ++ [(k, v)] := by
  unfold upq; rw [if_neg (by rintro ⟨e, he, q⟩; exact h e he q)]
theorem modify_list {α : Type} (l : Array α) (i : Nat) (f : α → α) : (l.modify i f).toList = l.toList.modify i f := Array.toList_modify
/-- a key is laid, new or not -/
theorem oQi {t k e : TypeId} {dd : TypeDesc} {z : Value} {m x y : Operand} {b : Nat} {es : List (Value × Value)} {kv v : Value} {f : HProp → List HProp} (ht : mapT P t = some (k, dd, e, z)) (h : G n ds F K σ (f (mq dd b (upq es kv v)))) (ho : o.op = .mapUpdate t m x y ∨ o.op = .insert t m x y := by first | exact .inl rfl | exact .inr rfl) (hd : o.dst = none := by exact rfl)
    (hm : evo σ m = some (.map (some b)) := by exact rfl) (hx : evo σ x = some kv := by exact rfl) (hy : evo σ y = some v := by exact rfl) (hk : isK dd kv = true := by exact rfl) (hu : Pos H (mq dd b es) f := by repeat (first | exact Pos.here | apply Pos.there)) :
    G n ds F (fun a w => o.wp P a w K Q) σ H := by
  classical
  refine .mk fun a w en s => ?_
  obtain ⟨hu1, hu2, _, _, _⟩ := mapT_spec ht
  obtain ⟨R, s1, s2⟩ := hu.sel
  have sR := s.sel s1
  obtain ⟨hh, ⟨ents, clk, he, hks, hst, hb⟩, hl⟩ := sR.get
  have hw : w.heap[b]? = some (.map ents clk) := hl _ _ hb
  unfold Oper.wp
  rcases find_at (isK_key hk) hks with ⟨hr1, hno⟩ | ⟨j, en', hr1, hj, hkey⟩
  · have : (execOp a.eval o).run P w = .ok .skip { w with heap := w.heap.setIfInBounds b (.map (ents.push { key := kv, val := v, born := clk }) (clk + 1)) } := by
      have hup : (Instr.mapUpdate t (.map (some b)) kv v).run P w = .ok () { w with heap := w.heap.setIfInBounds b (.map (ents.push { key := kv, val := v, born := clk }) (clk + 1)) } := by
        simp [Instr.mapUpdate, run_underlying hu1, MapKept.run_getObj_map hw, MapKept.run_checkKey hu2 (isK_key hk), MapKept.run_findKey hu2 hr1, MapKept.run_setObj_map _ hw, Result.andThen]
      rcases ho with ho | ho <;> simp [execOp, ho, en.eval hm, en.eval hx, en.eval hy, hup, Result.andThen]
    rw [this, Oper.upon_skip, hd]
    rw [he] at hno
    refine h _ _ en (St.unsel (s2 _) (sR.setO (fun h' p => by obtain ⟨_, _, _, _, _, q⟩ := p; exact ⟨_, q⟩) (.mk (ents.push { key := kv, val := v, born := clk }) (clk + 1) (by rw [upq_new hno]; simp [he]) (fun q hq => ?_) (stamped_push hst fun q hq e => ?_) (by simp))))
    · simp only [Array.toList_push, List.mem_append, List.mem_singleton] at hq
      rcases hq with hq | rfl
      · exact hks q hq
      · exact isK_key hk
    · exact hno (q.key, q.val) (by rw [← he]; exact List.mem_map.2 ⟨q, hq, rfl⟩) e
  · have hold : ents.toList[j]? = some en' := by simpa using hj
    have hset : (execOp a.eval o).run P w = .ok .skip { w with heap := w.heap.setIfInBounds b (.map (ents.modify j fun e => { e with key := kv, val := v }) clk) } := by
      have hup : (Instr.mapUpdate t (.map (some b)) kv v).run P w = .ok () { w with heap := w.heap.setIfInBounds b (.map (ents.modify j fun e => { e with key := kv, val := v }) clk) } := by
        simp [Instr.mapUpdate, run_underlying hu1, MapKept.run_getObj_map hw, MapKept.run_checkKey hu2 (isK_key hk), MapKept.run_findKey hu2 hr1, hj, hkey, Instr.keyThatStays, sameBits_refl_key hk, MapKept.run_setObj_map _ hw, Result.andThen]
      rcases ho with ho | ho <;> simp [execOp, ho, en.eval hm, en.eval hx, en.eval hy, hup, Result.andThen]
    rw [hset, Oper.upon_skip, hd]
    have hmem : (kv, en'.val) ∈ es := by rw [← he, ← hkey]; exact List.mem_map.2 ⟨en', List.mem_of_getElem? hold, rfl⟩
    have hlist : (ents.modify j fun e => { e with key := kv, val := v }).toList.map (fun e => (e.key, e.val)) = upq es kv v := by
      rw [upq_old ⟨_, hmem, rfl⟩, ← he, modify_list]
      apply List.ext_getElem?
      intro i
      simp only [List.getElem?_map, List.getElem?_modify]
      by_cases hij : j = i
      · subst hij
        simp [hold, hkey]
      · cases hi : ents.toList[i]? with
        | none => simp
        | some e' =>
          have hne : e'.key ≠ kv := by
            intro q
            have hn := hst.2.2
            exact hij (nodup_at hn (x := kv) (by simp [hold, hkey]) (by simp [hi, q]))
          simp [hne, hij]
    refine h _ _ en (St.unsel (s2 _) (sR.setO (fun h' p => by obtain ⟨_, _, _, _, _, q⟩ := p; exact ⟨_, q⟩) (.mk _ clk hlist (isKey_modify hks j _ (fun e he' => by rw [hj] at he'; cases he'; exact hkey.symm)) (stamped_modify hst j _ (fun _ _ => rfl) (fun e _ he' => by rw [hj] at he'; cases he'; exact hkey.symm)) (by simp))))
/-- a key is looked up -/
theorem run_lookq {t k e : TypeId} {dd : TypeDesc} {z : Value} {b : Nat} {es : List (Value × Value)} {kv : Value} {h : Hp} {w : World} (ht : mapT P t = some (k, dd, e, z)) (hk : isK dd kv = true) (p : mq dd b es h) (hl : Le h (hOf w)) (c : Bool) :
    (Instr.lookup t (.map (some b)) kv c).run P w = .ok (if c then .tuple #[(lkq es kv).getD z, .bool (lkq es kv).isSome] else (lkq es kv).getD z) w := by
  obtain ⟨hu1, hu2, i, hi, hz⟩ := mapT_spec ht
  have hnd := mq_nodup p
  obtain ⟨ents, clk, he, hks, hst, hb⟩ := p
  have hw : w.heap[b]? = some (.map ents clk) := hl _ _ hb
  rcases find_at (isK_key hk) hks with ⟨hr1, hno⟩ | ⟨j, en', hr1, hj, hkey⟩
  · rw [he] at hno
    rw [lkq_none hno]
    simp [Instr.lookup, run_underlying hu1, MapKept.run_getObj_map hw, MapKept.run_checkKey hu2 (isK_key hk), MapKept.run_findKey hu2 hr1, zeroValue, typeInfo, hi, hz, Result.andThen]
  · have hmem : (kv, en'.val) ∈ es := by rw [← he, ← hkey]; exact List.mem_map.2 ⟨en', List.mem_of_getElem? (by simpa using hj), rfl⟩
    rw [lkq_some hnd hmem]
    simp [Instr.lookup, run_underlying hu1, MapKept.run_getObj_map hw, MapKept.run_checkKey hu2 (isK_key hk), MapKept.run_findKey hu2 hr1, Result.andThen]
theorem oQl {t k e : TypeId} {dd : TypeDesc} {z : Value} {m x : Operand} {b : Nat} {es : List (Value × Value)} {kv : Value} {R : List HProp} (ht : mapT P t = some (k, dd, e, z)) (h : G n ds F K ((d, (lkq es kv).getD z) :: σ) H) (ho : o.op = .lookup t m x false := by exact rfl) (hd : o.dst = some d := by exact rfl)
    (hm : evo σ m = some (.map (some b)) := by exact rfl) (hx : evo σ x = some kv := by exact rfl) (hk : isK dd kv = true := by exact rfl) (hs : Sel H (mq dd b es) R := by repeat (first | exact Sel.here | apply Sel.there)) (hdn : Nat.blt d n = true := by exact rfl) : G n ds F (fun a w => o.wp P a w K Q) σ H :=
  op_run hd hdn (fun a w en s => by
    obtain ⟨hh, p, hl⟩ := (s.sel hs).get
    simp [execOp, ho, en.eval hm, en.eval hx, run_lookq ht hk p hl]) h
theorem oQl2 {t k e : TypeId} {dd : TypeDesc} {z : Value} {m x : Operand} {b : Nat} {es : List (Value × Value)} {kv : Value} {R : List HProp} (ht : mapT P t = some (k, dd, e, z)) (h : G n ds F K ((d, .tuple #[(lkq es kv).getD z, .bool (lkq es kv).isSome]) :: σ) H) (ho : o.op = .lookup t m x true := by exact rfl) (hd : o.dst = some d := by exact rfl)
    (hm : evo σ m = some (.map (some b)) := by exact rfl) (hx : evo σ x = some kv := by exact rfl) (hk : isK dd kv = true := by exact rfl) (hs : Sel H (mq dd b es) R := by repeat (first | exact Sel.here | apply Sel.there)) (hdn : Nat.blt d n = true := by exact rfl) : G n ds F (fun a w => o.wp P a w K Q) σ H :=
  op_run hd hdn (fun a w en s => by
    obtain ⟨hh, p, hl⟩ := (s.sel hs).get
    simp [execOp, ho, en.eval hm, en.eval hx, run_lookq ht hk p hl]) h
/-- a key is taken out -/
theorem oQd {t k e : TypeId} {dd : TypeDesc} {z : Value} {m x : Operand} {b : Nat} {es : List (Value × Value)} {kv : Value} {f : HProp → List HProp} {t2 : TypeId} (ht : mapT P t = some (k, dd, e, z)) (h : G n ds F K σ (f (mq dd b (deq es kv)))) (ho : o.op = .call { callee := .builtin .delete, args := #[m, x], argTypes := #[t, t2] } := by exact rfl) (hd : o.dst = none := by exact rfl)
    (hm : evo σ m = some (.map (some b)) := by exact rfl) (hx : evo σ x = some kv := by exact rfl) (hk : isK dd kv = true := by exact rfl) (hu : Pos H (mq dd b es) f := by repeat (first | exact Pos.here | apply Pos.there)) : G n ds F (fun a w => o.wp P a w K Q) σ H := by
  classical
  refine .mk fun a w en s => ?_
  obtain ⟨hu1, hu2, _, _, _⟩ := mapT_spec ht
  obtain ⟨R, s1, s2⟩ := hu.sel
  have sR := s.sel s1
  obtain ⟨hh, ⟨ents, clk, he, hks, hst, hb⟩, hl⟩ := sR.get
  have hw : w.heap[b]? = some (.map ents clk) := hl _ _ hb
  have same : { w with heap := w.heap.setIfInBounds b (.map ents clk) } = w := by
    have hlt := (Array.getElem?_eq_some_iff.1 hw).1
    have : w.heap.setIfInBounds b (.map ents clk) = w.heap := by
      apply Array.ext_getElem?
      intro i
      rw [Array.getElem?_setIfInBounds]
      split
      · rename_i q; subst q; rw [hw]
      · rfl
    rw [this]
  unfold Oper.wp
  rcases find_at (isK_key hk) hks with ⟨hr1, hno⟩ | ⟨j, en', hr1, hj, hkey⟩
  · have : (execOp a.eval o).run P w = .ok (.value (.tuple #[])) w := by
      simp [execOp, ho, resolve, invoke, builtin, Builtin.delete_, en.eval hm, en.eval hx, run_underlying hu1, MapKept.run_getObj_map hw, MapKept.run_checkKey hu2 (isK_key hk), MapKept.run_findKey hu2 hr1, MapKept.run_setObj_map _ hw, Result.andThen, same]
    rw [this, Oper.upon_value, hd]
    rw [he] at hno
    have hd0 : deq es kv = es := by
      unfold deq
      rw [List.filter_eq_self]
      intro e' he'; simpa using hno e' he'
    rw [hd0] at h
    exact h _ _ en (by
      have := St.unsel (s2 (mq dd b es)) sR
      exact this)
  · have hlt := (Array.getElem?_eq_some_iff.1 hj).1
    have : (execOp a.eval o).run P w = .ok (.value (.tuple #[])) { w with heap := w.heap.setIfInBounds b (.map (ents.eraseIdxIfInBounds j) clk) } := by
      simp [execOp, ho, resolve, invoke, builtin, Builtin.delete_, en.eval hm, en.eval hx, run_underlying hu1, MapKept.run_getObj_map hw, MapKept.run_checkKey hu2 (isK_key hk), MapKept.run_findKey hu2 hr1, MapKept.run_setObj_map _ hw, Result.andThen]
    rw [this, Oper.upon_value, hd]
    have hlist : (ents.eraseIdxIfInBounds j).toList.map (fun e => (e.key, e.val)) = deq es kv := by
      have e1 : (ents.eraseIdxIfInBounds j).toList = ents.toList.eraseIdx j := by
        unfold Array.eraseIdxIfInBounds; rw [dif_pos hlt]; simp
      rw [e1, ← he]
      have hnd : (ents.toList.map (·.key)).Nodup := hst.2.2
      have hg : ents.toList[j]? = some en' := by simpa using hj
      clear hr1 hst hks hb hw hl he this e1 same
      clear hj hlt
      generalize ents.toList = l at *
      induction l generalizing j with
      | nil => simp at hg
      | cons x l ih =>
        simp only [List.map_cons, List.nodup_cons] at hnd
        cases j with
        | zero =>
          simp at hg; subst hg
          simp only [List.eraseIdx_cons_zero, List.map_cons, deq]
          rw [List.filter_cons_of_neg (by simp [hkey])]
          symm
          rw [List.filter_eq_self]
          intro e' he'
          obtain ⟨y, hy, rfl⟩ := List.mem_map.1 he'
          have : y.key ≠ x.key := fun q => hnd.1 (List.mem_map.2 ⟨y, hy, q⟩)
          simpa [← hkey] using this
        | succ j =>
          simp at hg
          have hx' : x.key ≠ kv := fun q => hnd.1 (List.mem_map.2 ⟨en', List.mem_of_getElem? hg, hkey.trans q.symm⟩)
          simp only [List.eraseIdx_cons_succ, List.map_cons, deq]
          rw [List.filter_cons_of_pos (by simpa using hx')]
          congr 1
          exact ih j hnd.2 hg
    refine h _ _ en (St.unsel (s2 _) (sR.setO (fun h' p => by obtain ⟨_, _, _, _, _, q⟩ := p; exact ⟨_, q⟩) (.mk _ clk hlist (fun q hq => hks q ?_) (stamped_erase hst j) (by simp))))
    unfold Array.eraseIdxIfInBounds at hq
    rw [dif_pos hlt] at hq
    exact (List.eraseIdx_sublist _ _).subset (by simpa using hq)
end
end Go.Eng
