/- The engine: contracts of iterators; the statement that goes over one; how a body leaves behind it. -/
import Derived.Test.YtncmmhfgcgnojaaEngR
namespace Go.Eng
open Go

theorem starL_perm {A B : List HProp} (p : List.Perm A B) : ∀ h, starL A h → starL B h := by
  induction p with
  | nil => exact fun _ x => x
  | cons _ _ ih => exact fun _ x => starL_tail ih x
  | swap _ _ _ => exact fun _ x => starL_swap x
  | trans _ _ i1 i2 => exact fun h x => i2 h (i1 h x)
/-- a loop's record -/
def lpo (l : Nat) (rc : Loop) : HProp := fun h => h l = some (.loop rc)
/-- the block for calls that rounds put off: none -/
def dfr (D : Nat) : HProp := fun h => h D = some (.deferred (some []))
def mark (D : Nat) : Deferred := { target := .collected D, args := #[] }

/-- what a call of yield does -/
def YdS (P : Program) (l : Nat) (args : List Value) (pre : Hp → Prop) (H : List HProp) (R : Value → List HProp → Prop) : Prop :=
  ∀ F w, pre F.h → St F H w → ∃ f tmps assign body, (Instr.yield l args.toArray).run P w = .ok (.round l f tmps assign body) w ∧ RoundIn Fence.wide 0 P l f tmps assign body w (fun e w' => ∃ v H', e = .returned v ∧ R v H' ∧ St F H' w')
/-- what yield tells -/
def YR (A : List HProp) (J : List (List Value) → List HProp) (Z : List HProp → Prop) (p : List (List Value)) (x : List Value) (v : Value) (H' : List HProp) : Prop :=
  (v = .bool true ∧ H' = A ++ J (p ++ [x])) ∨ (v = .bool false ∧ ∃ Zs, Z Zs ∧ H' = A ++ Zs)
def IR (A : List HProp) (fin : List (List Value) → Prop) (J : List (List Value) → List HProp) (Z : List HProp → Prop) (_ : Value) (H' : List HProp) : Prop :=
  (∃ p, fin p ∧ H' = A ++ J p) ∨ ∃ Zs, Z Zs ∧ H' = A ++ Zs
/-- an iterator's contract: 'al p x': behind p comes x; 'fin p': that was all -/
def ItS (P : Program) (gf : FuncId) (fv cv : List Value) (A : List HProp) (al : List (List Value) → List Value → Prop) (fin : List (List Value) → Prop) : Prop :=
  ∀ (l : Nat) (J : List (List Value) → List HProp) (Z : List HProp → Prop) (pre : Hp → Prop), (∀ h k, Le h k → pre h → pre k) →
    (∀ p x, al p x → YdS P l x pre (A ++ J p) (YR A J Z p x)) → FnS P gf (fv ++ [.func (.yield l) #[] #[]] ++ cv) pre (A ++ J []) (IR A fin J Z)

/-- the same, the frame being as it is -/
def ItF (P : Program) (F : Frm) (gf : FuncId) (fv cv : List Value) (A : List HProp) (al : List (List Value) → List Value → Prop) (fin : List (List Value) → Prop) : Prop :=
  ∀ (l : Nat) (J : List (List Value) → List HProp) (Z : List HProp → Prop), (∀ p x, al p x → YdS P l x (fun h => Le F.h h) (A ++ J p) (YR A J Z p x)) → FnS P gf (fv ++ [.func (.yield l) #[] #[]] ++ cv) (fun h => Le F.h h) (A ++ J []) (IR A fin J Z)

section
variable {P : Program} {n : Nat} {ds : List Deferred} {F : Frm} {Q : Exit → Act → World → Prop} {K : Act → World → Prop} {σ : Slots} {H : List HProp} {o : Oper} {d : Nat} {ops : Array Oper} {rest : List Oper} {r : Option Nat}
/-- yield is called -/
theorem op_yield {l : Nat} {xs : List Operand} {vs : List Value} {ats : Array TypeId} {pre : Hp → Prop} {As R : List HProp} {T : Value → List HProp → Prop} {x : Operand} (ho : o.op = .call { callee := .value x, args := xs.toArray, argTypes := ats })
    (hd : o.dst = some d) (hx : evo σ x = some (.func (.yield l) #[] #[])) (hv : evos σ xs = some vs) (hc : YdS P l vs pre As T) (hsel : Sels H As R) (hpre : ∀ h, Le F.h h → InL R h → pre h) (hdn : Nat.blt d n = true)
    (h : ∀ v H', T v H' → G n ds F K ((d, v) :: σ) (H' ++ R)) : G n ds F (fun a w => o.wpIn (fen none) 0 P a w K Q) σ H := by
  refine .mk fun a w en s => ⟨fun f _ => trivial, ?_⟩
  obtain ⟨a1, a2, a3, fr, hh, st, hl, hdj⟩ := s
  obtain ⟨h1, h2, d12, l1, l2, s1, s2⟩ := starL_append (hsel.out _ st)
  have d2F : Disj h2 F.h := hdj.left l2
  let F' : Frm := { F with h := uni h2 F.h }
  have hFle : Le F.h F'.h := le_uni_right d2F
  have h2le : Le h2 F'.h := le_uni_left _ _
  have st' : St F' As w := ⟨a1, a2, a3, uni_le (l2.trans hl) fr, h1, s1, l1.trans hl, (Disj.uni d12.symm (hdj.left l1).symm).symm⟩
  obtain ⟨f, tmps, assign, body, hy, hrd⟩ := hc F' w (hpre _ hFle (starL_InL s2 h2le)) st'
  have hrun : (o.semAt (fen none).round a.eval).run P w = .ok (.round l f tmps assign body) w := by
    have : o.semAt (fen none).round a.eval = execOp a.eval o := rfl
    rw [this]
    have hvs := en.evals hv
    simp [execOp, ho, resolve, Deferred.ofValue, en.eval hx, invoke, hvs, hy]
  rw [hrun, Oper.uponIn_round]
  refine ⟨fen_depth none, hrd.mono ?_⟩
  rintro e w' ⟨v, H', rfl, hT, sw⟩
  obtain ⟨b1, b2, b3, fr', hh', st2, hl', hdj'⟩ := sw
  show K (a.put o.dst v) w'
  rw [hd]
  exact h v H' hT _ _ (en.put hdn v) ⟨b1, b2, b3, hFle.trans fr', uni hh' h2, append_starL st2 s2 (hdj'.right h2le), uni_le hl' (h2le.trans fr'), Disj.uni (hdj'.right hFle) d2F⟩
theorem oY {l : Nat} {xs : List Operand} {vs : List Value} {ats : Array TypeId} {pre : Hp → Prop} {A2 R : List HProp} {T : Value → List HProp → Prop} {x : Operand} (ho : o.op = .call { callee := .value x, args := xs.toArray, argTypes := ats })
    (hx : evo σ x = some (.func (.yield l) #[] #[])) (hv : evos σ xs = some vs) (hc : YdS P l vs pre A2 T) (hsel : Sels H A2 R) (hpre : ∀ h, Le F.h h → InL R h → pre h)
    (h : ∀ v H', T v H' → G n ds F K ((d, v) :: σ) (H' ++ R)) (hd : o.dst = some d := by exact rfl) (hdn : Nat.blt d n = true := by exact rfl) : G n ds F (fun a w => o.wpIn (fen none) 0 P a w K Q) σ H := op_yield ho hd hx hv hc hsel hpre hdn h

-- bodies
theorem fn_bodyX {f : FuncId} {fn : Func} {c : Code} {args : List Value} {pre : Hp → Prop} {R : Value → List HProp → Prop} {m : Nat} (hf : P.funcs[f]? = some fn) (hb : fn.body = some c) (hm : fn.ntmps = m) (hn : Nat.ble args.length m = true)
    (h : ∀ F : Frm, pre F.h → G m [] F (RC none c P (bodyPost P fn fun e w' => ∃ v H', e = .returned v ∧ R v H' ∧ St F H' w')) (slots0 0 args) H) : FnS P f args pre H R :=
  fun F w hp s => calls_of_wp hf hb (by
    subst hm
    exact rc_wp.1 (h F hp _ _ (env0 args _ (Nat.le_of_ble_eq_true hn)) s))
/-- what a body must end in that went over functions -/
def bodyM (P : Program) (fn : Func) (R : Ending → World → Prop) : Exit → Act → World → Prop
  | .normal, a, w | .ret, a, w => LeavesInM Fence.wide 0 P fn a.tmps R a.defers .returning w
  | _, _, _ => False
theorem fn_bodyM {f : FuncId} {fn : Func} {c : Code} {args : List Value} {pre : Hp → Prop} {R : Value → List HProp → Prop} {m : Nat} (hf : P.funcs[f]? = some fn) (hb : fn.body = some c) (hm : fn.ntmps = m) (hn : Nat.ble args.length m = true)
    (h : ∀ F : Frm, pre F.h → G m [] F (RC none c P (bodyM P fn fun e w' => ∃ v H', e = .returned v ∧ R v H' ∧ St F H' w')) (slots0 0 args) H) : FnS P f args pre H R :=
  fun F w hp s => callsIn_wide.1 (callsIn_of_wp_marks (F := Fence.wide) (n := 0) hf hb trivial (by
    subst hm
    refine wpIn_mono (h F hp _ _ (env0 args _ (Nat.le_of_ble_eq_true hn)) s) fun e a w' q => ?_
    cases e with
    | normal => exact q
    | ret => exact q
    | exit id => exact q.elim
    | goto l => exact q.elim
    | panic ch => exact q.elim
    | outgrown => exact q.elim))
theorem putObj_eq (w : World) (b : Nat) (o : Obj) : w.putObj b o = { w with heap := w.heap.setIfInBounds b o } := rfl
/-- the marks are taken one by one -/
theorem leaveM {fn : Func} {T : Ending → World → Prop} {tmps : Array Value} {R : List HProp} : ∀ (Ds : List Nat) (w : World), St F (Ds.map dfr ++ R) w → (∀ w', St F R w' → ∃ v, (results fn tmps).run P w' = .ok v w' ∧ T (.returned v) w') → LeavesInM Fence.wide 0 P fn tmps T (Ds.map mark) .returning w := by
  intro Ds
  induction Ds with
  | nil => intro w s h; exact h w s
  | cons D Ds ih =>
    intro w s h
    refine ⟨by simp, .inl ⟨D, _, rfl, run_takeDeferred (ds := []) ?_, ih _ ?_ h⟩⟩
    · obtain ⟨hh, hp, hl⟩ := s.get
      exact hl _ _ hp
    · rw [putObj_eq]
      exact St.drop (A := fun _ => True) (s.setP fun k hk _ => ⟨⟨_, hk⟩, trivial⟩)
theorem RdM {fn : Func} {T : Value → List HProp → Prop} {t : Nat} {v : Value} (Ds : List Nat) (H' : List HProp) (hr : fn.results = #[.tmp t]) (hR : T v H') (hv : look σ t = some v := by exact rfl) (hh : ∀ h, starL H h → starL (Ds.map dfr ++ H') h := by exact Eh) :
    G n (Ds.map mark) F (bodyM P fn (fun e w' => ∃ v H', e = .returned v ∧ T v H' ∧ St F H' w') .ret) σ H :=
  .mk fun a w e s => by
    show LeavesInM _ _ _ _ _ _ _ _ _
    rw [e.defers]
    exact leaveM Ds w (s.sub hh) fun w' s' => ⟨v, by rw [results_tmp hr, show a.tmps.getD t undef = v from by simp [e.slot t v hv]], v, H', rfl, hR, s'⟩
theorem RdM3 {fn : Func} {T : Value → List HProp → Prop} {t u u' : Nat} {v x x' : Value} (Ds : List Nat) (H' : List HProp) (hr : fn.results = #[.tmp t, .tmp u, .tmp u']) (hR : T (.tuple #[v, x, x']) H') (hv : look σ t = some v := by exact rfl) (hx : look σ u = some x := by exact rfl) (hx' : look σ u' = some x' := by exact rfl)
    (hh : ∀ h, starL H h → starL (Ds.map dfr ++ H') h := by exact Eh) : G n (Ds.map mark) F (bodyM P fn (fun e w' => ∃ v H', e = .returned v ∧ T v H' ∧ St F H' w') .ret) σ H :=
  .mk fun a w e s => by
    show LeavesInM _ _ _ _ _ _ _ _ _
    rw [e.defers]
    have h1 : a.tmps.getD t undef = v := by simp [e.slot t v hv]
    have h2 : a.tmps.getD u undef = x := by simp [e.slot u x hx]
    have h3 : a.tmps.getD u' undef = x' := by simp [e.slot u' x' hx']
    exact leaveM Ds w (s.sub hh) fun w' s' => ⟨.tuple #[v, x, x'], by simp only [results, hr]; simp at h1 h2 h3; simp [h1, h2, h3], _, H', rfl, hR, s'⟩
theorem RdM0 {fn : Func} {T : Value → List HProp → Prop} (Ds : List Nat) (H' : List HProp) (hr : fn.results = #[]) (hR : T (.tuple #[]) H') (hh : ∀ h, starL H h → starL (Ds.map dfr ++ H') h := by exact Eh) :
    G n (Ds.map mark) F (bodyM P fn (fun e w' => ∃ v H', e = .returned v ∧ T v H' ∧ St F H' w') .ret) σ H :=
  .mk fun a w e s => by
    show LeavesInM _ _ _ _ _ _ _ _ _
    rw [e.defers]
    exact leaveM Ds w (s.sub hh) fun w' s' => ⟨_, results_none hr _ _ _, _, H', rfl, hR, s'⟩
theorem RnM0 {fn : Func} {T : Value → List HProp → Prop} (Ds : List Nat) (H' : List HProp) (hr : fn.results = #[]) (hR : T (.tuple #[]) H') (hh : ∀ h, starL H h → starL (Ds.map dfr ++ H') h := by exact Eh) :
    G n (Ds.map mark) F (bodyM P fn (fun e w' => ∃ v H', e = .returned v ∧ T v H' ∧ St F H' w') .normal) σ H :=
  .mk fun a w e s => by
    show LeavesInM _ _ _ _ _ _ _ _ _
    rw [e.defers]
    exact leaveM Ds w (s.sub hh) fun w' s' => ⟨_, results_none hr _ _ _, _, H', rfl, hR, s'⟩

-- the statement
def bindps : List Tmp → List Value → Slots → Slots
  | t :: ts, v :: vs, σ => bindps ts vs ((t, v) :: σ)
  | _, _, σ => σ
theorem env_bind {σ : Slots} : ∀ (ts : List Tmp) (vs : List Value) (a : Act) (σ : Slots), (ts.all fun t => Nat.blt t n) = true → Env n ds σ a → Env n ds (bindps ts vs σ) { tmps := (ts.zip vs).foldl (fun q (t, v) => q.setIfInBounds t v) a.tmps, defers := a.defers } := by
  intro ts
  induction ts with
  | nil => intro vs a σ _ e; cases vs <;> exact e
  | cons t ts ih =>
    intro vs a σ ht e
    cases vs with
    | nil => exact e
    | cons v vs =>
      simp only [List.all_cons, Bool.and_eq_true] at ht
      have := ih vs (a.put (some t) v) ((t, v) :: σ) ht.2 (e.put ht.1 v)
      simpa [bindps, Act.put] using this
/-- how a round may be left -/
def RQ (F : Frm) (L : HProp) (A : List HProp) (J : List (List Value) → List HProp) (ZR : List HProp → Prop) (ZX : Nat → List HProp → Prop) (p : List (List Value)) (x : List Value) : Exit → Act → World → Prop
  | .normal, _, w => St F (L :: (A ++ J (p ++ [x]))) w
  | .ret, _, w => ∃ Zs, ZR Zs ∧ St F (L :: (A ++ Zs)) w
  | .exit id, _, w => ∃ Zs, ZX id Zs ∧ St F (L :: (A ++ Zs)) w
  | _, _, _ => False
theorem rq_normal {L : HProp} {A : List HProp} {J : List (List Value) → List HProp} {ZR : List HProp → Prop} {ZX : Nat → List HProp → Prop} {p : List (List Value)} {x : List Value} (hh : ∀ h, starL H h → starL (L :: (A ++ J (p ++ [x]))) h) : G n ds F (RQ F L A J ZR ZX p x .normal) σ H := .mk fun a w _ s => s.sub hh
theorem rq_ret {L : HProp} {A : List HProp} {J : List (List Value) → List HProp} {ZR : List HProp → Prop} {ZX : Nat → List HProp → Prop} {p : List (List Value)} {x : List Value} (Zs : List HProp) (hz : ZR Zs) (hh : ∀ h, starL H h → starL (L :: (A ++ Zs)) h) : G n ds F (RQ F L A J ZR ZX p x .ret) σ H := .mk fun a w _ s => ⟨Zs, hz, s.sub hh⟩
theorem rq_exit {L : HProp} {A : List HProp} {J : List (List Value) → List HProp} {ZR : List HProp → Prop} {ZX : Nat → List HProp → Prop} {p : List (List Value)} {x : List Value} {id : Nat} (Zs : List HProp) (hz : ZX id Zs) (hh : ∀ h, starL H h → starL (L :: (A ++ Zs)) h) : G n ds F (RQ F L A J ZR ZX p x (.exit id)) σ H := .mk fun a w _ s => ⟨Zs, hz, s.sub hh⟩
theorem perm_mid {A B : List HProp} {X : HProp} : List.Perm (X :: (A ++ B)) (A ++ X :: B) := List.perm_middle.symm
theorem x_rf {g : Operand} {ps : List Tmp} {assign body : Code} {gf : FuncId} {fv cv : List Value} {A R : List HProp} {al : List (List Value) → List Value → Prop} {fin : List (List Value) → Prop} (J : List (List Value) → List HProp) (ZR : List HProp → Prop) (ZX : Nat → List HProp → Prop) (σ1 : List (List Value) → List Value → Slots)
    (hfn : isFn P gf = true) (hg : evo σ g = some (.func (.func gf) fv.toArray cv.toArray)) (hit : ItF P F gf fv cv A al fin) (hsel : Sels H (A ++ J []) R) (hlen : ∀ p x, al p x → x.length = ps.length) (hps : (ps.all fun t => Nat.blt t n) = true)
    (ha : ∀ (l : Nat) (F' : Frm) (p : List (List Value)) (x : List Value) (HH : List HProp) (K : Act → World → Prop), al p x → G n [] F' K (σ1 p x) HH → G n [] F' (RC (some l) assign P (Exit.then K NoQ)) (bindps ps x σ) HH)
    (hb : ∀ (l : Nat) (F' : Frm) (p : List (List Value)) (x : List Value) (L : HProp), al p x → Le F.h F'.h → G n [] F' (RC (some l) body P (RQ F' L A J ZR ZX p x)) (σ1 p x) (L :: (A ++ J p)))
    (hn : ∀ D p, fin p → G n (mark D :: ds) F (Q .normal) σ (dfr D :: (A ++ J p) ++ R)) (hr : ∀ D Zs, ZR Zs → G n (mark D :: ds) F (Q .ret) σ (dfr D :: (A ++ Zs) ++ R)) (hx : ∀ id D Zs, ZX id Zs → G n (mark D :: ds) F (Q (.exit id)) σ (dfr D :: (A ++ Zs) ++ R)) :
    G n ds F (RC none (Code.rangeFunc g ps.toArray assign body) P Q) σ H := by
  refine .mk fun a w e s => wpIn_rangeFunc fun fn _ => ?_
  obtain ⟨rec, hrec⟩ : ∃ rec : LoopState → Option Code → Loop, rec = fun st pe => { state := st, pending := pe, fn, tmps := a.tmps, params := ps.toArray, assign, body, defers := w.heap.size } := ⟨_, rfl⟩
  have e0 : (Instr.enterLoop fn a.tmps ps.toArray assign body (fen none).round).run P w = .ok (w.heap.size + 1, [mark w.heap.size]) ((w.alloc (.deferred (some []))).alloc (.loop (rec .ready none))) := by
    rw [hrec]; exact run_enterLoop_outer _ _ _ _ _
  have s0 := s.newO (.deferred (some [])) (dfr w.heap.size) (by simp [dfr])
  have hsz : (w.alloc (.deferred (some []))).heap.size = w.heap.size + 1 := by show (w.heap.push _).size = _; simp
  have s1 := s0.newO (.loop (rec .ready none)) (lpo (w.heap.size + 1) (rec .ready none)) (by simp [lpo, hsz])
  generalize (w.alloc (.deferred (some []))).alloc (.loop (rec .ready none)) = W1 at *
  generalize hl : w.heap.size + 1 = l at *
  generalize hD : w.heap.size = D at *
  refine ⟨l, [mark D], W1, { target := .fn (.func gf) cv.toArray, args := fv.toArray ++ #[.func (.yield l) #[] #[]] }, W1, gf, (fv ++ [Value.func (.yield l) #[] #[]] ++ cv).toArray, W1, e0, ?_, ?_, ?_, fun h => absurd h (by simp [fen, Fence.wide]), ?_⟩
  · simp only [resolve, e.eval hg, Deferred.ofValue]
    have : ∀ a : Act, a.eval (.const (.func (.yield l) #[] #[])) = .func (.yield l) #[] #[] := fun _ => rfl
    simp [this]
  · intro f' _; trivial
  · unfold isFn at hfn
    cases hf : P.funcs[gf]? with
    | none => simp [hf] at hfn
    | some fd =>
      simp only [hf, Bool.and_eq_true, Bool.not_eq_true'] at hfn
      have h1 : ¬ fd.name = "runtime.NumGoroutine" := by simpa using hfn.2
      have h2 : ¬ fd.body = none := by intro q; rw [q] at hfn; simp at hfn
      simp [invoke, callFunc, hf]
      rw [if_neg h1, if_neg h2]
  · -- the iterator, over what lies beside
    let J' : List (List Value) → List HProp := fun p => lpo l (rec .ready none) :: J p
    let Z' : List HProp → Prop := fun Zs' => (∃ Zs, ZR Zs ∧ Zs' = lpo l (rec .done (some .ret)) :: Zs) ∨ ∃ id Zs, ZX id Zs ∧ Zs' = lpo l (rec .done (some (.exit id))) :: Zs
    have hcall := hit l J' Z' (fun p x hal F' W hle sW => ?_)
    · -- the call
      have sA : St F ((A ++ J' []) ++ (dfr D :: R)) W1 := by
        refine s1.sub fun h st => ?_
        have q1 : starL (lpo l (rec .ready none) :: dfr D :: ((A ++ J []) ++ R)) h := starL_tail (fun h' st' => starL_tail (fun h'' st'' => hsel.out h'' st'') st') st
        refine starL_perm ?_ h q1
        simp only [J', List.append_assoc, List.cons_append]
        refine (List.Perm.swap _ _ _).trans ?_
        refine (List.Perm.cons _ (perm_mid (A := A) (B := J [] ++ R))).trans ?_
        have : List.Perm (dfr D :: (A ++ lpo l (rec .ready none) :: (J [] ++ R))) (A ++ lpo l (rec .ready none) :: (J [] ++ dfr D :: R)) := by
          rw [show A ++ lpo l (rec .ready none) :: (J [] ++ R) = (A ++ lpo l (rec .ready none) :: J []) ++ R from by simp, show A ++ lpo l (rec .ready none) :: (J [] ++ dfr D :: R) = (A ++ lpo l (rec .ready none) :: J []) ++ dfr D :: R from by simp]
          exact List.perm_middle.symm
        exact this
      obtain ⟨a1, a2, a3, fr, hh, st, hlH, hdj⟩ := sA
      obtain ⟨h1, h2, d12, l1, l2, q1, q2⟩ := starL_append st
      have d2F : Disj h2 F.h := hdj.left l2
      let F' : Frm := { F with h := uni h2 F.h }
      have hFle : Le F.h F'.h := le_uni_right d2F
      have h2le : Le h2 F'.h := le_uni_left _ _
      have st' : St F' (A ++ J' []) W1 := ⟨a1, a2, a3, uni_le (l2.trans hlH) fr, h1, q1, l1.trans hlH, (Disj.uni d12.symm (hdj.left l1).symm).symm⟩
      refine CallsIn.mono (callsIn_wide.2 (hcall F' W1 hFle st')) ?_
      rintro e' w' ⟨v, H', rfl, hT, sw⟩
      have back : ∀ {X : List HProp}, St F' X w' → St F (X ++ dfr D :: R) w' := fun sX => by
        obtain ⟨b1, b2, b3, fr', hh', st2, hl', hdj'⟩ := sX
        exact ⟨b1, b2, b3, hFle.trans fr', uni hh' h2, append_starL st2 q2 (hdj'.right h2le), uni_le hl' (h2le.trans fr'), Disj.uni (hdj'.right hFle) d2F⟩
      have hen : Env n (mark D :: ds) σ { a with defers := [mark D] ++ a.defers } := ⟨e.size, by simp [e.defers], e.slot⟩
      have fl : ∀ {st : LoopState} {pe : Option Code} {Y : List HProp}, st ≠ .busy → H' = A ++ lpo l (rec st pe) :: Y → ∃ w4, (Instr.endLoop l).run P w' = .ok pe w4 ∧ St F (dfr D :: (A ++ Y) ++ R) w4 := by
        intro st pe Y hst hH
        subst hH
        have sb := back sw
        have sp : St F (lpo l (rec st pe) :: (dfr D :: (A ++ Y) ++ R)) w' := sb.sub (starL_perm (by
          have p1 : List.Perm ((A ++ lpo l (rec st pe) :: Y) ++ dfr D :: R) (lpo l (rec st pe) :: ((A ++ Y) ++ dfr D :: R)) := by
            rw [List.append_assoc, List.cons_append, List.append_assoc]; exact List.perm_middle
          exact p1.trans (List.Perm.cons _ (by rw [List.cons_append]; exact List.perm_middle))))
        obtain ⟨hh, hp, hle⟩ := sp.get
        have hw : w'.heap[l]? = some (.loop (rec st pe)) := hle _ _ hp
        have hrun := run_endLoop (P := P) hw (by rw [hrec]; exact hst)
        refine ⟨_, by rw [hrun, hrec], ?_⟩
        rw [putObj_eq]
        exact St.drop (A := fun _ => True) (sp.setP fun k hk _ => ⟨⟨_, hk⟩, trivial⟩)
      rcases hT with ⟨p, hfin, hH⟩ | ⟨Zs', hz, hH⟩
      · obtain ⟨w4, hr4, s4⟩ := fl (st := .ready) (pe := none) (Y := J p) (by simp) (by rw [hH])
        exact ⟨none, w4, hr4, hn D p hfin _ _ hen s4⟩
      · rcases hz with ⟨Zs, hz, rfl⟩ | ⟨id, Zs, hz, rfl⟩
        · obtain ⟨w4, hr4, s4⟩ := fl (st := .done) (pe := some .ret) (Y := Zs) (by simp) (by rw [hH])
          exact ⟨some .ret, w4, hr4, wpIn_ret (hr D Zs hz _ _ hen s4)⟩
        · obtain ⟨w4, hr4, s4⟩ := fl (st := .done) (pe := some (.exit id)) (Y := Zs) (by simp) (by rw [hH])
          exact ⟨some (.exit id), w4, hr4, wpIn_exit (hx id D Zs hz _ _ hen s4)⟩
    · -- one round
      have sp : St F' (lpo l (rec .ready none) :: (A ++ J p)) W := sW.sub (starL_perm List.perm_middle)
      obtain ⟨hh0, hp0, hle0⟩ := sp.get
      have hwl : W.heap[l]? = some (.loop (rec .ready none)) := hle0 _ _ hp0
      have hy := run_yield (P := P) (args := x.toArray) hwl (by rw [hrec]; simp [hlen p x hal])
      rw [hrec] at hy
      refine ⟨fn, _, assign, body, hy, roundIn_of_wpIn (F := Fence.wide) (n := 0) trivial ?_⟩
      have henv : Env n [] (bindps ps x σ) { tmps := (ps.toArray.zip x.toArray).foldl (fun tmps (t, a) => tmps.setIfInBounds t a) a.tmps, defers := [] } := by
        have := env_bind (σ := σ) ps x { tmps := a.tmps, defers := [] } σ hps ⟨e.size, rfl, e.slot⟩
        simpa using this
      have hq : ∀ (K' : Act → World → Prop), G n [] F' K' (σ1 p x) (lpo l (rec .ready none) :: (A ++ J p)) → Code.wpIn (Fence.wide.inRound l) 0 P assign (Exit.then K' NoQ) { tmps := (ps.toArray.zip x.toArray).foldl (fun tmps (t, a) => tmps.setIfInBounds t a) a.tmps, defers := [] } W := fun K' hK' =>
        (ha l F' p x _ K' hal hK') _ _ henv sp
      refine hq _ (.mk fun a1 w1 en1 st1 => ?_)
      obtain ⟨hh1, hp1, hle1⟩ := st1.get
      have hw1 : w1.heap[l]? = some (.loop (rec .ready none)) := hle1 _ _ hp1
      refine ⟨_, run_beginRound hw1 (by rw [hrec]), ?_⟩
      have st2 : St F' (lpo l { rec .ready none with state := .busy } :: (A ++ J p)) (w1.putObj l (.loop { rec .ready none with state := .busy })) := by
        rw [putObj_eq]; exact st1.setP fun k hk _ => ⟨⟨_, hk⟩, by simp [lpo]⟩
      refine wpIn_mono ((hb l F' p x (lpo l { rec .ready none with state := .busy }) hal hle) _ _ en1 st2) ?_
      have fin' : ∀ (jump : Option Code) (Y : List HProp) (W3 : World), St F' (lpo l { rec .ready none with state := .busy } :: (A ++ Y)) W3 →
          ∃ w4, (Instr.endRound l jump).run P W3 = .ok (.bool jump.isNone) w4 ∧ St F' (A ++ lpo l (rec (if jump.isNone then .ready else .done) jump) :: Y) w4 := by
        intro jump Y W3 s3
        obtain ⟨hh3, hp3, hle3⟩ := s3.get
        have hw3 : W3.heap[l]? = some (.loop { rec .ready none with state := .busy }) := hle3 _ _ hp3
        have hrun := run_endRound (P := P) jump hw3
        refine ⟨_, hrun, ?_⟩
        rw [putObj_eq]
        have s4 := s3.setP (o' := .loop { { rec .ready none with state := .busy } with state := if jump.isNone then .ready else .done, pending := jump }) (B := lpo l (rec (if jump.isNone then .ready else .done) jump)) fun k hk _ => ⟨⟨_, hk⟩, by simp [lpo, hrec]⟩
        exact s4.sub (starL_perm perm_mid)
      rintro ex a3 W3 hp
      cases ex with
      | normal =>
        obtain ⟨w4, hr4, s4⟩ := fin' none _ W3 hp
        exact ⟨_, w4, hr4, _, _, rfl, .inl ⟨rfl, rfl⟩, s4⟩
      | ret =>
        obtain ⟨Zs, hz, hp⟩ := hp
        obtain ⟨w4, hr4, s4⟩ := fin' (some .ret) _ W3 hp
        exact ⟨_, w4, hr4, _, _, rfl, .inr ⟨rfl, _, .inl ⟨Zs, hz, rfl⟩, rfl⟩, s4⟩
      | exit id =>
        obtain ⟨Zs, hz, hp⟩ := hp
        obtain ⟨w4, hr4, s4⟩ := fin' (some (.exit id)) _ W3 hp
        exact ⟨_, w4, hr4, _, _, rfl, .inr ⟨rfl, _, .inr ⟨id, Zs, hz, rfl⟩, rfl⟩, s4⟩
      | goto t => exact hp.elim
      | panic ch => exact hp.elim
      | outgrown => exact hp.elim
end
end Go.Eng
