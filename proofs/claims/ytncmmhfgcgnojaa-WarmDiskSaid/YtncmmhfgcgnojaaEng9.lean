/- The engine, part 9: calls put off; calls of what has no body; arrays; maps. -/
import Derived.Test.YtncmmhfgcgnojaaEng8
import Derived.Defers
import Derived.Laws.LoneSync
namespace Go.Eng
open Go

section
variable {P : Program} {n : Nat} {ds : List Deferred} {F : Frm} {Q : Exit → Act → World → Prop} {K : Act → World → Prop} {σ : Slots} {H : List HProp} {o : Oper} {d : Nat}

-- calls put off
def dcl (f : FuncId) (args : List Value) : Deferred := { target := .fn (.func f) #[], args := args.toArray }
theorem oD {f : FuncId} {xs : List Operand} {vs : List Value} {ats : Array TypeId} (h : G n (dcl f vs :: ds) F K σ H) (ho : o.op = .defer { callee := .value (.func f), args := xs.toArray, argTypes := ats } := by exact rfl) (hv : evos σ xs = some vs := by exact rfl) (hd : o.dst = none := by exact rfl) :
    G n ds F (fun a w => o.wp P a w K Q) σ H := by
  refine .mk fun a w en s => ?_
  have hvs := en.evals hv
  have : (execOp a.eval o).run P w = .ok (.defer (dcl f vs)) w := by
    have ef : a.eval (.func f) = .func (.func f) #[] #[] := rfl
    simp [execOp, ho, resolve, Deferred.ofValue, ef, dcl, ← hvs]
  unfold Oper.wp
  rw [this, Oper.upon_defer, hd]
  exact h _ _ ⟨en.size, by simp [Act.put, en.defers], en.slot⟩ s

/-- a contract of a call put off -/
def FnD (P : Program) (f : FuncId) (args : List Value) (pre : Hp → Prop) (H : List HProp) (R : Value → List HProp → Prop) : Prop :=
  isFn P f = true ∧ ∀ F w u, pre F.h → St F H w → CallsD P f args.toArray u w fun e u' w' => u' = u ∧ ∃ v H', e = .returned v ∧ R v H' ∧ St F H' w'
theorem fn_bodyDf {f : FuncId} {fn : Func} {c : Code} {args : List Value} {pre : Hp → Prop} {R : Value → List HProp → Prop} {m : Nat} (hi : isFn P f = true) (hf : P.funcs[f]? = some fn) (hb : fn.body = some c) (hm : fn.ntmps = m) (hn : Nat.ble args.length m = true)
    (h : ∀ F : Frm, pre F.h → G m [] F (c.wp P (bodyPost P fn fun e w' => ∃ v H', e = .returned v ∧ R v H' ∧ St F H' w')) (slots0 0 args) H) : FnD P f args pre H R :=
  ⟨hi, fun F w u hp s => callsD_of_wp hf hb (by
    subst hm
    exact h F hp _ _ (env0 args _ (Nat.le_of_ble_eq_true hn)) s)⟩
/-- what a body with calls put off must end in -/
def bodyQ (P : Program) (fn : Func) (R : Ending → World → Prop) : Exit → Act → World → Prop
  | .normal, a, w | .ret, a, w => Leaves P fn a.tmps R a.defers .returning w
  | _, _, _ => False
theorem po_bodyQ {fn : Func} {R : Ending → World → Prop} : PanicOk (bodyQ P fn R) := fun c a d v w q => q
theorem fn_bodyD {f : FuncId} {fn : Func} {c : Code} {args : List Value} {pre : Hp → Prop} {R : Value → List HProp → Prop} {m : Nat} (hf : P.funcs[f]? = some fn) (hb : fn.body = some c) (hm : fn.ntmps = m) (hn : Nat.ble args.length m = true)
    (h : ∀ F : Frm, pre F.h → G m [] F (c.wp P (bodyQ P fn fun e w' => ∃ v H', e = .returned v ∧ R v H' ∧ St F H' w')) (slots0 0 args) H) : FnS P f args pre H R :=
  fun F w hp s => calls_of_wp_defers hf hb (by
    subst hm
    refine wp_mono (h F hp _ _ (env0 args _ (Nat.le_of_ble_eq_true hn)) s) fun e a w' q => ?_
    cases e with
    | normal => exact q
    | ret => exact q
    | exit id => exact q.elim
    | goto l => exact q.elim
    | panic ch => exact q.elim
    | outgrown => exact q.elim)
/-- the way out of a body that put one call off -/
theorem leave1 {fn : Func} {f : FuncId} {vs : List Value} {pre : Hp → Prop} {As R : List HProp} {T T' : Value → List HProp → Prop} (hc : FnD P f vs pre As T) (hsel : Sels H As R) (hpre : ∀ h, Le F.h h → InL R h → pre h) {a : Act} {w : World} {rv : Value} {H' : List HProp}
    (en : Env n [dcl f vs] σ a) (s : St F H w) (hr : ∀ w', (results fn a.tmps).run P w' = .ok rv w') (hT : ∀ v Hx, T v Hx → T' rv H' ∧ ∀ h, starL (Hx ++ R) h → starL H' h) :
    Leaves P fn a.tmps (fun e w' => ∃ v H', e = .returned v ∧ T' v H' ∧ St F H' w') a.defers .returning w := by
  rw [en.defers]
  obtain ⟨hfn, hc⟩ := hc
  unfold isFn at hfn
  cases hf : P.funcs[f]? with
  | none => simp [hf] at hfn
  | some fd =>
    simp only [hf, Bool.and_eq_true, Bool.not_eq_true'] at hfn
    refine ⟨by simp, .func f, #[], f, vs.toArray, rfl, ?_, ?_⟩
    · have h1 : ¬ fd.name = "runtime.NumGoroutine" := by simpa using hfn.2
      have h2 : ¬ fd.body = none := by intro q; rw [q] at hfn; simp at hfn
      simp [dcl, invoke, callFunc, hf]
      rw [if_neg h1, if_neg h2]
    · obtain ⟨a1, a2, a3, fr, hh, st, hl, hdj⟩ := s
      obtain ⟨h1, h2, d12, l1, l2, s1, s2⟩ := starL_append (hsel.out _ st)
      have d2F : Disj h2 F.h := hdj.left l2
      let F' : Frm := { F with h := uni h2 F.h }
      have hFle : Le F.h F'.h := le_uni_right d2F
      have h2le : Le h2 F'.h := le_uni_left _ _
      have st' : St F' As w := ⟨a1, a2, a3, uni_le (l2.trans hl) fr, h1, s1, l1.trans hl, (Disj.uni d12.symm (hdj.left l1).symm).symm⟩
      refine (hc F' w .returning (hpre _ hFle (starL_InL s2 h2le)) st').mono ?_
      rintro e u' w' ⟨rfl, v, Hx, rfl, hTx, sw⟩
      obtain ⟨b1, b2, b3, fr', hh', st2, hl', hdj'⟩ := sw
      obtain ⟨t1, t2⟩ := hT v Hx hTx
      refine ⟨rv, hr _, rv, H', rfl, t1, ⟨b1, b2, b3, hFle.trans fr', uni hh' h2, t2 _ (append_starL st2 s2 (hdj'.right h2le)), uni_le hl' (h2le.trans fr'), Disj.uni (hdj'.right hFle) d2F⟩⟩
theorem RdD0 {fn : Func} {f : FuncId} {vs : List Value} {pre : Hp → Prop} {As R : List HProp} {T T' : Value → List HProp → Prop} (H' : List HProp) (hrs : fn.results = #[]) (hc : FnD P f vs pre As T) (hsel : Sels H As R) (hpre : ∀ h, Le F.h h → InL R h → pre h)
    (hT : ∀ v Hx, T v Hx → T' (.tuple #[]) H' ∧ ∀ h, starL (Hx ++ R) h → starL H' h) : G n [dcl f vs] F (bodyQ P fn (fun e w' => ∃ v H', e = .returned v ∧ T' v H' ∧ St F H' w') .ret) σ H :=
  .mk fun a w en s => leave1 hc hsel hpre en s (fun w' => results_none hrs _ _ _) hT
theorem RdDn {fn : Func} {f : FuncId} {vs : List Value} {pre : Hp → Prop} {As R : List HProp} {T T' : Value → List HProp → Prop} (H' : List HProp) (hrs : fn.results = #[]) (hc : FnD P f vs pre As T) (hsel : Sels H As R) (hpre : ∀ h, Le F.h h → InL R h → pre h)
    (hT : ∀ v Hx, T v Hx → T' (.tuple #[]) H' ∧ ∀ h, starL (Hx ++ R) h → starL H' h) : G n [dcl f vs] F (bodyQ P fn (fun e w' => ∃ v H', e = .returned v ∧ T' v H' ∧ St F H' w') .normal) σ H :=
  .mk fun a w en s => leave1 hc hsel hpre en s (fun w' => results_none hrs _ _ _) hT
theorem RdD {fn : Func} {f : FuncId} {vs : List Value} {pre : Hp → Prop} {As R : List HProp} {T T' : Value → List HProp → Prop} {t : Nat} {rv : Value} (H' : List HProp) (hrs : fn.results = #[.tmp t]) (hc : FnD P f vs pre As T) (hsel : Sels H As R) (hpre : ∀ h, Le F.h h → InL R h → pre h)
    (hT : ∀ v Hx, T v Hx → T' rv H' ∧ ∀ h, starL (Hx ++ R) h → starL H' h) (hv : look σ t = some rv := by exact rfl) : G n [dcl f vs] F (bodyQ P fn (fun e w' => ∃ v H', e = .returned v ∧ T' v H' ∧ St F H' w') .ret) σ H :=
  .mk fun a w en s => leave1 hc hsel hpre en s (fun w' => by rw [results_tmp hrs, show a.tmps.getD t undef = rv from by simp [en.slot t rv hv]]) hT

-- what has no body
def exMark (m : Mark) : Array Value → Sem Value := fun _ => do mark m; pure Extern.Race.none_
inductive isEx (P : Program) (f : FuncId) (e : Array Value → Sem Value) : Prop
  | mk (fn : Func) (h1 : P.funcs[f]? = some fn) (h2 : (fn.name == "runtime.NumGoroutine") = false) (h3 : fn.body.isNone = true) (h4 : Extern.findNext fn = none) (h5 : Extern.find fn = some e)
theorem run_ex {ρ : Operand → Value} {f : FuncId} {xs : List Operand} {ats : Array TypeId} {w : World} (ho : o.op = .call { callee := .value (.func f), args := xs.toArray, argTypes := ats }) (hρ : ρ (.func f) = .func (.func f) #[] #[]) :
    (execOp ρ o).run P w = (callFunc f (xs.map ρ).toArray).run P w := by
  simp [execOp, ho, resolve, hρ, Deferred.ofValue, invoke]
/-- a mark: nothing else -/
theorem oXm {f : FuncId} {ats : Array TypeId} {m : Mark} (he : isEx P f (exMark m)) (h : G n ds F K ((d, .tuple #[]) :: σ) H) (ho : o.op = .call { callee := .value (.func f), args := #[], argTypes := ats } := by exact rfl) (hd : o.dst = some d := by exact rfl) (hdn : Nat.blt d n = true := by exact rfl) :
    G n ds F (fun a w => o.wp P a w K Q) σ H := by
  obtain ⟨fn, h1, h2, h3, h4, h5⟩ := he
  exact op_run hd hdn (fun a w en s => by rw [run_ex (xs := []) ho rfl]; exact run_call_mark0 h1 h2 h3 h4 m h5 w) h
theorem oXa {f : FuncId} {ats : Array TypeId} {m : Addr → Mark} {x : Operand} {ad : Addr} (he : isEx P f (Extern.Race.marked m)) (h : G n ds F K ((d, .tuple #[]) :: σ) H) (ho : o.op = .call { callee := .value (.func f), args := #[x], argTypes := ats } := by exact rfl) (hd : o.dst = some d := by exact rfl)
    (hx : evo σ x = some (.pointer (some ad)) := by exact rfl) (hdn : Nat.blt d n = true := by exact rfl) : G n ds F (fun a w => o.wp P a w K Q) σ H := by
  obtain ⟨fn, h1, h2, h3, h4, h5⟩ := he
  exact op_run hd hdn (fun a w en s => by rw [run_ex (xs := [x]) ho rfl]; simp only [List.map_cons, List.map_nil, en.eval hx]; exact run_call_marked h1 h2 h3 h4 m h5 ad w) h
theorem oXcas {f : FuncId} {ats : Array TypeId} {k : IntKind} {x y z : Operand} {b i : Nat} {e : TypeId} {cs : List Value} {fp : HProp → List HProp} {u v : Int} (he : isEx P f (Extern.Atomic.casT (.int k))) (h : G n ds F K ((d, .bool true) :: σ) (fp (pts b e (cs.set i (.int k v)))))
    (ho : o.op = .call { callee := .value (.func f), args := #[x, y, z], argTypes := ats } := by exact rfl) (hd : o.dst = some d := by exact rfl) (hx : evo σ x = some (.pointer (some ⟨b, i, none⟩)) := by exact rfl) (hy : evo σ y = some (.int k u) := by exact rfl) (hz : evo σ z = some (.int k v) := by exact rfl)
    (hp : Pos H (pts b e cs) fp := by repeat (first | exact Pos.here | apply Pos.there)) (hu : cs[i]? = some (.int k u) := by exact rfl) (hdn : Nat.blt d n = true := by exact rfl) : G n ds F (fun a w => o.wp P a w K Q) σ H := by
  refine .mk fun a w en s => ?_
  obtain ⟨fn, h1, h2, h3, h4, h5⟩ := he
  obtain ⟨R, s1, s2⟩ := hp.sel
  have sR := s.sel s1
  obtain ⟨hh, hpt, hl⟩ := sR.get
  have hi := (List.getElem?_eq_some_iff.1 hu).1
  have hc := hcell_at hl (pts_cell hpt hu)
  unfold Oper.wp
  rw [run_ex (xs := [x, y, z]) ho rfl]
  simp only [List.map_cons, List.map_nil, en.eval hx, en.eval hy, en.eval hz]
  rw [run_call_cas_hit h1 h2 h3 h4 k h5 hc (pts_free hpt hi hl), Oper.upon_value, hd]
  exact h _ _ (en.put hdn _) ((sR.setCell _).unsel (s2 _))
theorem oXadd {f : FuncId} {ats : Array TypeId} {k : IntKind} {x y : Operand} {b i : Nat} {e : TypeId} {cs : List Value} {fp : HProp → List HProp} {u v : Int} (he : isEx P f (Extern.Atomic.update (Op.intArith .add) k true)) (s' : Int) (h : G n ds F K ((d, .int k s') :: σ) (fp (pts b e (cs.set i (.int k s')))))
    (ho : o.op = .call { callee := .value (.func f), args := #[x, y], argTypes := ats } := by exact rfl) (hd : o.dst = some d := by exact rfl) (hx : evo σ x = some (.pointer (some ⟨b, i, none⟩)) := by exact rfl) (hy : evo σ y = some (.int k v) := by exact rfl)
    (hp : Pos H (pts b e cs) fp := by repeat (first | exact Pos.here | apply Pos.there)) (hu : cs[i]? = some (.int k u) := by exact rfl) (hs : k.wrap (u + v) = s' := by exact rfl) (hdn : Nat.blt d n = true := by exact rfl) : G n ds F (fun a w => o.wp P a w K Q) σ H := by
  refine .mk fun a w en s => ?_
  obtain ⟨fn, h1, h2, h3, h4, h5⟩ := he
  obtain ⟨R, s1, s2⟩ := hp.sel
  have sR := s.sel s1
  obtain ⟨hh, hpt, hl⟩ := sR.get
  have hi := (List.getElem?_eq_some_iff.1 hu).1
  have hc := hcell_at hl (pts_cell hpt hu)
  unfold Oper.wp
  rw [run_ex (xs := [x, y]) ho rfl]
  simp only [List.map_cons, List.map_nil, en.eval hx, en.eval hy]
  rw [run_call_add h1 h2 h3 h4 k h5 hc (pts_free hpt hi hl) (s := s') (by simp [Op.intArith, hs]), Oper.upon_value, hd]
  exact h _ _ (en.put hdn _) ((sR.setCell _).unsel (s2 _))
/-- a pointer, seen as unsafe -/
theorem oXu {s t e : TypeId} {x : Operand} {b i : Nat} {el : TypeId} {cs : List Value} {v : Value} {R : List HProp} (hs : P.underlying s = some (.pointer e)) (ht : P.underlying t = some .unsafePointer) (hz : (P.info? e).map (fun i => decide (i.size = 0)) = some false)
    (h : G n ds F K ((d, .pointer (some ⟨b, i, none⟩)) :: σ) H) (ho : o.op = .convert s t x := by exact rfl) (hd : o.dst = some d := by exact rfl) (hx : evo σ x = some (.pointer (some ⟨b, i, none⟩)) := by exact rfl) (hsel : Sel H (pts b el cs) R := by repeat (first | exact Sel.here | apply Sel.there)) (hv : cs[i]? = some v := by exact rfl) (hdn : Nat.blt d n = true := by exact rfl) :
    G n ds F (fun a w => o.wp P a w K Q) σ H :=
  op_run hd hdn (fun a w en st => by
    obtain ⟨h1, hp, hl⟩ := (st.sel hsel).get
    have hc := hcell_at hl (pts_cell hp hv)
    have := run_convert_to_unsafe (P := P) hs ht hz hc
    simp [execOp, ho, en.eval hx, this]) h

theorem D3 {ops : Array Oper} {listed : Array Bool} {fuel : Nat} {S : World → Prop} (i j k : Nat)
    (h1 : G n ds F (wpOp P ops Q i (fun a' w' => S w' ∧ wpAnyH P .any ops Q S fuel (listed.setIfInBounds i true) a' w')) σ H)
    (h2 : G n ds F (wpOp P ops Q j (fun a' w' => S w' ∧ wpAnyH P .any ops Q S fuel (listed.setIfInBounds j true) a' w')) σ H)
    (h3 : G n ds F (wpOp P ops Q k (fun a' w' => S w' ∧ wpAnyH P .any ops Q S fuel (listed.setIfInBounds k true) a' w')) σ H) (hr : Region.ready .any ops listed = [i, j, k] := by kernel_rfl) : G n ds F (wpAnyH P .any ops Q S (fuel + 1) listed) σ H :=
  gh_all hr rfl fun m hm => by
    rcases List.mem_cons.1 hm with rfl | hm
    · exact h1
    · rcases List.mem_cons.1 hm with rfl | hm
      · exact h2
      · rw [List.mem_singleton.1 hm]; exact h3
end
end Go.Eng
