/- Part Pj1 of the proof. -/
import Derived.Test.YtpgbeapapmdkcaaGreatDoorPc1
import Derived.Test.YtpgbeapapmdkcaaGreatDoorPd
import Derived.Test.YtpgbeapapmdkcaaGreatDoorPi
set_option maxRecDepth 100000
namespace Go.Proofs.YtpgbeapapmdkcaaGreatDoor
open Go Go.cQ
structure Ck where
 now : Nat
 nG : Nat
 cut : Nat
structure N5 (k : Ck) : Prop where
 n1 : 1 ≤ k.now
 n2 : k.now ≤ 1099511627776
 p : k.nG ≤ 1099511627777
 pn : k.nG ≠ 0 → k.now < k.nG
 c : k.cut < 18446744073709551616
def ckC (k : Ck) : List Value := [.int .i64 (k.now : Int), .int .i64 (k.nG : Int), .int .u64 (k.cut : Int)]
def iN (a : Nat) (k : Ck) : aa := af a 174 (ckC k)
def Ck.flush (k : Ck) (t : Int) (bm : Nat) : Ck := if t ≤ 0 then { k with cut := max k.cut bm, nG := 0 } else { k with nG := k.now + min t.toNat (1099511627777 - k.now) }
theorem kD (a : Nat) (k : Ck) : aL Tryz.prog 46 [.pointer (some ⟨a, 0, none⟩)] (In (iN a k)) [] (fun v H => v = .int .i64 (k.now : Int) ∧ H = []) := by
 unfold iN ckC
 refine ag Tryz.func46 rfl Tryz.ntmps46 rfl ?_
 intro F hk
 refine bP ?_
 refine Rt [] Tryz.results46 ?_
 exact ⟨rfl, rfl⟩
theorem My (a : Nat) (k : Ck) : aL Tryz.prog 137 [.pointer (some ⟨a, 0, none⟩)] (In (iN a k)) [] (fun v H => v = .int .u64 (k.cut : Int) ∧ H = []) := by
 unfold iN ckC
 refine ag Tryz.func137 rfl Tryz.ntmps137 rfl ?_
 intro F hk
 refine bP ?_
 refine Rt [] Tryz.results137 ?_
 exact ⟨rfl, rfl⟩
theorem Qq (ex tok now cut : Nat) : aL Tryz.prog 136 [.int .i64 (ex : Int), .int .u64 (tok : Int), .int .i64 (now : Int), .int .u64 (cut : Int)] (fun _ => True) [] (fun v H => v = .bool (decide (0 < ex ∧ ex ≤ now ∨ tok ≤ cut)) ∧ H = []) := by
 refine ag Tryz.func136 rfl Tryz.ntmps136 rfl ?_
 intro F _
 by_cases h1 : 0 < ex
 ·by_cases h2 : ex ≤ now
  ·refine iS ?_
   refine bE ?_
   refine zt 11 ?_
   refine bq ?_
   refine zt 16 ?_
   refine bO ?_
   refine Rt [] Tryz.results136 ?_
   exact ⟨by rw [decide_eq_true (.inl ⟨h1, h2⟩)], rfl⟩
  refine iS ?_
  refine bE ?_
  refine zt 11 ?_
  refine bq ?_
  refine zf 16 ?_
  refine bO ?_
  refine Rt [] Tryz.results136 ?_
  exact ⟨congrArg Value.bool (decide_eq_decide.2 (by omega)), rfl⟩
 refine iS ?_
 refine bE ?_
 refine zf 11 ?_
 refine ed ?_
 refine Rt [] Tryz.results136 ?_
 exact ⟨congrArg Value.bool (decide_eq_decide.2 (by omega)), rfl⟩
def Ek (now : Nat) (t : Int) : Int := if t = 0 then 0 else if t < 0 then (now : Int) else if t ≤ 2592000 then (now : Int) + t else t
theorem GX (now : Nat) (t : Int) (h1 : 1 ≤ now) (h2 : now ≤ 1099511627776) : aL Tryz.prog 121 [.int .i64 (now : Int), .int .i64 t] (fun _ => True) [] (fun v H => v = .int .i64 (Ek now t) ∧ H = []) := by
 unfold Ek
 refine ag Tryz.func121 rfl Tryz.ntmps121 rfl ?_
 intro F _
 refine bq ?_
 refine Li Ma ?_
 refine Li Mi ?_
 refine bw ?_
 refine ay ?_
 refine aw (t := 0) (v' := (.int .i64 (now : Int))) rfl (by (congr 1 <;> omega)) ?_
 refine bE ?_
 refine au rfl ?_ ?_
 ·intro g0
  replace g0 := aF g0
  refine bE ?_
  refine Rt [] Tryz.results121 ?_
  exact ⟨by rw [if_pos g0], rfl⟩
 intro g0
 replace g0 := aF g0
 refine bq ?_
 refine au rfl ?_ ?_
 ·intro g1
  replace g1 := aF g1
  refine bO ?_
  refine Rt [] Tryz.results121 ?_
  exact ⟨by rw [if_neg g0, if_pos g1], rfl⟩
 intro g1
 replace g1 := aF g1
 refine bq ?_
 refine au rfl ?_ ?_
 ·intro g2
  replace g2 := aF g2
  refine cY ?_
  refine Rt [] Tryz.results121 ?_
  exact ⟨by rw [if_neg g0, if_neg (by omega), if_pos g2], rfl⟩
 intro g2
 replace g2 := aF g2
 refine cX ?_
 refine Rt [] Tryz.results121 ?_
 exact ⟨by rw [if_neg g0, if_neg (by omega), if_neg (by omega)], rfl⟩
end Go.Proofs.YtpgbeapapmdkcaaGreatDoor
namespace Go.Proofs.YtpgbeapapmdkcaaGreatDoor
open Go Go.cQ Go.Proofs.YtpgbeapapmdkcaaGreatDoor.Cs
section
variable {P : Program} {n : Nat} {ds : List Deferred} {F : c9} {σ : aS} {o : Oper}
theorem zm {t e sz k : Nat} (ht : Aj P t = some (k, e, sz)) : P.underlying t = some (.array k e) := by
 unfold Aj at ht
 cases hu : P.underlying t with
 | none => simp [hu] at ht
 | some dsc =>
  cases dsc <;> simp [hu] at ht
  rename_i k' e'
  cases hi : P.info? e' with
  | none => simp [hi] at ht
  | some inf =>
   simp [hi] at ht
   obtain ⟨rfl, rfl, rfl⟩ := ht
   rfl
theorem Iag {t e sz sz' k j : Nat} {x y : Operand} {kd : IntKind} {z : Int} {cs vs : List Value} (ht : Aj P t = some (k, e, sz')) (he : cn P e = some sz) (ho : o.op = .index t x y := by exact rfl) (hx : bd σ x = some (.agg cs.toArray) := by exact rfl) (hy : bd σ y = some (.int kd z) := by exact rfl) (hj : z = (j : Int) := by exact rfl)
  (hl : j < k := by omega) (hv : (cs.drop (j * sz)).take sz = vs := by first | assumption | exact rfl) : Yv P n ds F σ o (.agg vs.toArray) := fun a w en fr => by
 obtain ⟨h1, h2⟩ := dH (w := w) he
 subst hj
 have e : cs.toArray.extract (j * sz) (j * sz + sz) = vs.toArray := by
  rw [← hv]
  simp [List.take_drop]
 simp [execOp, ho, Instr.index, en.eval hx, en.eval hy, asIntOf, run_underlying (zm ht), hl, part, h1, h2, e]
 exact hv
theorem Ias {t e sz k j : Nat} {x y : Operand} {kd : IntKind} {z : Int} {cs : List Value} {v : Value} (ht : Aj P t = some (k, e, sz)) (he : cB P e = true) (ho : o.op = .index t x y := by exact rfl) (hx : bd σ x = some (.agg cs.toArray) := by exact rfl) (hy : bd σ y = some (.int kd z) := by exact rfl) (hj : z = (j : Int) := by exact rfl)
  (hl : j < k := by omega) (hv : cs[j]? = some v := by first | assumption | exact rfl) : Yv P n ds F σ o v := fun a w en fr => by
 obtain ⟨h1, h2⟩ := pT (w := w) he
 subst hj
 simp [execOp, ho, Instr.index, en.eval hx, en.eval hy, asIntOf, run_underlying (zm ht), hl, part, h1, h2, hv]
theorem Fnn {t yt : TypeId} {x y : Operand} {f : Fn} {a c : Array Value} (ht : (P.underlying t).map (fun d => match d with | .func .. => true | _ => false) = some true) (ho : o.op = .binOp .neq t x y yt := by exact rfl) (hx : bd σ x = some (.func f a c) := by exact rfl) (hy : bd σ y = some .nilFunc := by exact rfl) : Yv P n ds F σ o (.bool true) := fun w0 w en _ => by
 cases hu : P.underlying t with
 | none => simp [hu] at ht
 | some d =>
  cases d <;> simp [hu] at ht
  have h : ∀ k : Nat, (Op.equalIn (k + 1) t (.func f a c) .nilFunc).run P w = .ok false w := fun k => by simp [Op.equalIn, run_underlying hu]
  have r : (Go.binOp .neq t (.func f a c) .nilFunc).run P w = .ok (.bool true) w := by
   simp only [Go.binOp]
   simp [Op.equal, Op.maxDepth, h 9999]
  simp only [execOp, ho, en.eval hx, en.eval hy, Sem.run_bind, eqGuard_at_func, Sem.run_pure, r, Result.andThen_ok]
end
theorem AT : (Tryz.prog.underlying 151).map (fun d => match d with | .func .. => true | _ => false) = some true := by kernel_rfl
theorem Wm : Aj Tryz.prog 280 = some (3, 279, 2) := by kernel_rfl
theorem Wt : cn Tryz.prog 279 = some 2 := by kernel_rfl
def uk (C : Cs) (Q : List (List Nat)) (c hot warm : Nat) : Option Nat :=
 if lE Q c 1 hot then some 1 else if lE Q c 2 warm then some 2 else if so C Q c then some 3 else none
theorem Mn {C : Cs} {Q : List (List Nat)} {c hot warm s : Nat} (h : uk C Q c hot warm = some s) : (1 ≤ s ∧ s ≤ 3) ∧ ∃ p, (ql Q (qi c s)).getLast? = some p := by
 have ne : ∀ l : List Nat, 0 < l.length → ∃ p, l.getLast? = some p := fun l h => by
  cases l with
  | nil => simp at h
  | cons a l => exact ⟨_, List.getLast?_cons ..⟩
 unfold uk at h
 split at h
 ·next g =>
  cases h
  unfold lE at g
  exact ⟨by omega, ne _ (by have := of_decide_eq_true g; omega)⟩
 split at h
 ·next g =>
  cases h
  unfold lE at g
  exact ⟨by omega, ne _ (by have := of_decide_eq_true g; omega)⟩
 split at h
 ·next g =>
  cases h
  unfold so at g
  refine ⟨by omega, ?_⟩
  cases e : (ql Q (qi c 3)).getLast? with
  | none => rw [e] at g; cases g
  | some p => exact ⟨p, rfl⟩
 cases h
def toQ (A : By) (p : Nat) : Nat := if Ea A p then 2 else 3
def lW (C : Cs) (Q : List (List Nat)) (c s p : Nat) : List (List Nat) := rP Q (qi c s) ((ql Q (qi c s)).length - 1) (qi c (toQ C.A p)) p
theorem JX {l : List Nat} (nd : l.Nodup) {p : Nat} (h : p ∈ l) : WS l p ≠ some p := fun e => by
 unfold WS at e
 obtain ⟨i1, i2⟩ := xh h
 generalize l.idxOf p = k at *
 rcases k with _ | k
 ·cases e
 have := fm nd e i2; omega
theorem Dh {Q : List (List Nat)} {i j k p q m : Nat} (hi : i < Q.length) (hj : j < Q.length) (hq : q ≠ p) (h : q ∈ ql Q m) (hk : (ql Q i)[k]? = some p) : q ∈ ql (rP Q i k j p) m := by
 have qP : ∀ u, q ∈ ql Q u → q ∈ ql (Q.set i ((ql Q i).eraseIdx k)) u := fun u hu => by
  rw [ee hi]
  split
  ·next e =>
   rw [e] at hu
   rw [List.mem_eraseIdx_iff_getElem?]
   obtain ⟨v, hv, ev⟩ := List.getElem_of_mem hu
   refine ⟨v, fun g => hq ?_, List.getElem?_eq_some_iff.2 ⟨hv, ev⟩⟩
   have h1 : (ql Q i)[k]? = some q := by rw [← g]; exact List.getElem?_eq_some_iff.2 ⟨hv, ev⟩
   rw [hk] at h1
   exact (Option.some.inj h1).symm
  exact hu
 unfold rP
 rw [ee (by rw [List.length_set]; exact hj)]
 split
 ·next e => rw [← e]; exact List.mem_cons_of_mem _ (qP m h)
 exact qP m h
theorem PC {n : Nat} {Q : List (List Nat)} {x : Cw} (X : ct n Q x) (nd : ∀ i, (ql Q i).Nodup) {i j k p : Nat} (hi : i < Q.length) (hj : j < Q.length) (hk : (ql Q i)[k]? = some p) : ct n (rP Q i k j p) (x.left Q p) := by
 have L := X.left p
 refine ⟨L.go, L.no, fun q hq => ?_, L.lf⟩
 obtain ⟨h1, h2⟩ := L.nx q hq
 refine ⟨Dh hi hj (fun e => ?_) h1 hk, h2⟩
 subst e
 unfold Cw.left at hq h1
 split at hq
 ·next g =>
  rw [if_pos g] at h1
  have hp := (X.nx q g).1
  unfold Cw.pass at hq
  rw [g] at hq
  dsimp only at hq
  split at hq
  ·exact JX (nd _) hp hq
  cases hq
 next g => exact g hq
structure J0 (C : Cs) (n p : Nat) (A : By) (Q : List (List Nat)) (x : Cw) : Prop where
 o : gH (C.wA A) Q
 d : cZ C C.A A (SL p)
 mr : eM A p = mkSet (eM C.A p) false
 x : ct n Q x
def Rb (cr : Nat) : Value := .func (.func 82) #[.pointer (some ⟨cr, 0, none⟩)] #[]
def ruF (j : Nat) : Nat := if j = 0 then 236 else if j = 1 then 237 else 238
theorem Uo (j : Nat) (h : j < 3) : (ruC.drop (j * 2)).take 2 = [.int .i64 ((j + 1 : Nat) : Int), .func (.func (ruF j)) #[] #[]] := by
 have : j = 0 ∨ j = 1 ∨ j = 2 := by omega
 rcases this with rfl | rfl | rfl <;> rfl
def ND (C : Cs) (Q : List (List Nat)) (c hot warm j : Nat) : Bool := if j = 0 then lE Q c 1 hot else if j = 1 then lE Q c 2 warm else so C Q c
theorem OA (a q b qb hot warm : Nat) (C : Cs) (K : Ok C) (Q : List (List Nat)) (O : gH C Q) (M : XL C Q) (c : Nat) (hc : c < C.ae.length) (hh : hot ≤ 100) (hw : warm ≤ 100) (j : Nat) (hj : j < 3) :
  aA Tryz.prog (ruF j) = true ∧ aL Tryz.prog (ruF j) [.pointer (some ⟨a, 0, none⟩), .int .i64 (c : Int)] (fun h => In (Cl b C) h ∧ In (gf a b q hot warm) h ∧ fF (py q b qb C Q) h) [] (fun v H => v = .bool (ND C Q c hot warm j) ∧ H = []) := by
 have : j = 0 ∨ j = 1 ∨ j = 2 := by omega
 rcases this with rfl | rfl | rfl
 ·exact ⟨T.Vb, (zH a q b qb hot warm C K Q O c hc hh).inp fun k h => ⟨h.2.1, h.2.2⟩⟩
 ·exact ⟨T.Va, (xv a q b qb hot warm C K Q O c hc hw).inp fun k h => ⟨h.2.1, h.2.2⟩⟩
 exact ⟨T.U9, LI a q b qb hot warm C K Q O M c hc⟩
theorem Mq {C : Cs} {Q : List (List Nat)} {c hot warm : Nat} (h : ∀ i, i < 3 → ND C Q c hot warm i = false) : uk C Q c hot warm = none := by
 have h0 := h 0 (by omega)
 have h1 := h 1 (by omega)
 have h2 := h 2 (by omega)
 unfold ND at h0 h1 h2
 unfold uk
 rw [if_pos rfl] at h0
 rw [if_neg (by decide), if_pos rfl] at h1
 rw [if_neg (by decide), if_neg (by decide)] at h2
 rw [h0, h1, h2]; rfl
theorem Mp {C : Cs} {Q : List (List Nat)} {c hot warm j : Nat} (hj : j < 3) (h : ∀ i, i < j → ND C Q c hot warm i = false) (t : ND C Q c hot warm j = true) : uk C Q c hot warm = some (j + 1) := by
 have : j = 0 ∨ j = 1 ∨ j = 2 := by omega
 unfold uk
 rcases this with rfl | rfl | rfl
 ·unfold ND at t
  rw [if_pos rfl] at t
  rw [t]; rfl
 ·have h0 := h 0 (by omega)
  unfold ND at t h0
  rw [if_pos rfl] at h0
  rw [if_neg (by decide), if_pos rfl] at t
  rw [h0, t]; rfl
 have h0 := h 0 (by omega)
 have h1 := h 1 (by omega)
 unfold ND at t h0 h1
 rw [if_pos rfl] at h0
 rw [if_neg (by decide), if_pos rfl] at h1
 rw [if_neg (by decide), if_neg (by decide)] at t
 rw [h0, h1, t]; rfl
theorem LG (a q b qb hot warm cr w : Nat) (dv tv : Value) (C : Cs) (K : Ok C) (Q : List (List Nat)) (O : gH C Q) (M : XL C Q) (c : Nat) (hc : c < C.ae.length) (hh : hot ≤ 100) (hw : warm ≤ 100) (x : Cw) (X : ct C.ae.length Q x) :
  aL Tryz.prog 126 [.pointer (some ⟨a, 0, none⟩), .int .i64 (c : Int), Rb cr] (In (gf a b q hot warm)) [Cl b C, af q 139 (dy b qb C.ae.length), af qb 327 (Q.flatMap (dD C)), ey cr q w C.ae.length dv tv C x]
   (fun v H => (uk C Q c hot warm = none ∧ v = .bool false ∧ H = [Cl b C, af q 139 (dy b qb C.ae.length), af qb 327 (Q.flatMap (dD C)), ey cr q w C.ae.length dv tv C x]) ∨
    ∃ s p A, uk C Q c hot warm = some s ∧ (ql Q (qi c s)).getLast? = some p ∧ v = .bool true ∧
     H = [Cl b (C.wA A), af q 139 (dy b qb C.ae.length), af qb 327 ((lW C Q c s p).flatMap (dD C)), ey cr q w C.ae.length dv tv C (x.left Q p)] ∧ J0 C C.ae.length p A (lW C Q c s p) (x.left Q p)) := by
 refine ag Tryz.func126 rfl Tryz.ntmps126 rfl ?_
 rintro F ua
 have hl := ua
 unfold gf Hs at hl
 refine bq ?_
 refine zl T.Vn (KH) .nil (fun _ _ _ => trivial) ?_
 refine bL ?_
 refine Lo (ι := Nat) [14, 15, 8, 16, 17, 18, 19, 20, 21, 23, 24, 25, 26, 27, 28, 29, 30, 22, 31, 32, 9, 10, 33, 34, 6, 11, 35, 36, 37, 38, 39, 40, 41, 42, 43, 44, 45, 46, 47, 48, 49, 50, 51, 52, 53, 13] (fun j => j ≤ 3 ∧ ∀ i, i < j → ND C Q c hot warm i = false) (fun j => [(13, .int .i64 (j : Int))]) (fun j => [Cl b C, af q 139 (dy b qb C.ae.length), af qb 327 (Q.flatMap (dD C)), ey cr q w C.ae.length dv tv C x]) (fun j => 3 - j) (0) ⟨Nat.zero_le 3, fun i h => absurd h (Nat.not_lt_zero _)⟩ ?_
 rintro j hI
 obtain ⟨hj3, nC⟩ := hI
 by_cases hj : j < 3
 ·have hru := Uo j hj
  obtain ⟨jw, Zh⟩ := OA a q b qb hot warm C K Q O M c hc hh hw j hj
  refine bL ?_
  refine ay ?_
  refine gK ?_
  refine bq ?_
  refine Li (Iag Wm Wt) ?_
  refine Lp (oA T.Is fun b1 => ?_)
  refine cX ?_
  refine Lp (oCV jw rfl rfl rfl Zh .nil (fun _ le av => ⟨av.nth 1 rfl, In.mono ua le, av.nth 2 rfl, av.nth 3 rfl, trivial⟩) fun v H' hr => ?_)
  obtain ⟨rfl, rfl⟩ := hr
  refine bo ?_
  refine bw ?_
  refine au rfl ?_ ?_
  ·intro Aq
   replace Aq := aF Aq
   refine bO ?_
   refine aB ?_
   refine Ro (j + 1) (⟨hj, fun i hi => (by by_cases e : i = j; exact e ▸ Aq; exact nC i (by omega))⟩) ((by omega))
  intro Aq
  replace Aq := aF Aq
  have hds := Mp hj nC Aq
  obtain ⟨hs, p, uN⟩ := Mn hds
  have uA := List.mem_of_getLast? uN
  have P : gr C (some p) := O.Ht (i := qi c (j + 1)) fun y hy => by cases hy; exact uA
  have L := (P p rfl).1
  have Nv : (ql Q (qi c (j + 1)))[(ql Q (qi c (j + 1))).length - 1]? = some p := by rw [← List.getLast?_eq_getElem?]; exact uN
  have dR : C.cl p = c := by
   have h := O.st _ p uA
   have h3 := h.2.2
   unfold qi at h3
   omega
  have Se := M _ p uA
  have tl := sU q b qb C K Q O c (j + 1) hc hs
  rw [uN, bV] at tl
  refine bw ?_
  refine ay ?_
  refine jC 12 T.mix (.cons .here .nil) fun F1 kN cT aU => ?_
  obtain ⟨q1, _⟩ := cT
  have hl1 := In.mono hl kN
  refine bO ?_
  refine Tp (oC T.AX rfl rfl (tl) .nil (fun _ le av => ⟨av.nth 1 rfl, av.nth 2 rfl, trivial⟩) ?_)
  rintro v H' ⟨rfl, rfl⟩
  refine bo ?_
  refine bb ?_
  refine iC aU ?_
  refine mV ?_
  refine zl T.Jp (tN a b q hot warm C K p L (P.kl p rfl) Se) .nil (fun _ le av => ⟨av.nth 1 rfl, In.mono ua le⟩) ?_
  refine aD ?_
  refine cR (ι := Nat) [11] (fun t => t = toQ C.A p) (fun t => [(11, .int .i64 (t : Int))]) (fun t => [Cl b C, af q 139 (dy b qb C.ae.length), af qb 327 (Q.flatMap (dD C)), ey cr q w C.ae.length dv tv C x]) ?_ ?_
  ·refine au rfl ?_ ?_
   ·intro Nz
    replace Nz := aF Nz
    refine bw ?_
    refine aB ?_
    refine Me (2) ((by unfold toQ; rw [if_pos Nz]))
   intro Nz
   replace Nz := aF Nz
   refine aD ?_
   refine Me (3) ((by unfold toQ; rw [if_neg (by rw [Nz]; decide)]))
  rintro t ht
  have ht3 : 1 ≤ t ∧ t ≤ 3 := by rw [ht]; unfold toQ; split <;> omega
  have hlen1 : (ql Q (qi c (j + 1))).length - 1 < (ql Q (qi c (j + 1))).length := by have := List.length_pos_of_mem uA; omega
  have Xp := lB O hc hs
  have Hj := lB O hc ht3
  have X2 := PC X O.nd (j := qi c t) Xp Hj Nv
  have lf := zk cr q w C.ae.length b qb dv tv C K Q O x X p L
  have sh := EY q b qb C K Q O (qi c (j + 1)) ((ql Q (qi c (j + 1))).length - 1) p t ht3 Nv
  rw [dR] at sh
  have hsq : lW C Q c (j + 1) p = rP Q (qi c (j + 1)) ((ql Q (qi c (j + 1))).length - 1) (qi c t) p := by unfold lW; rw [ht]
  generalize QH : x.left Q p = x2 at *
  generalize rP Q (qi c (j + 1)) ((ql Q (qi c (j + 1))).length - 1) (qi c t) p = Q2 at *
  refine bL ?_
  refine Li (Fnn AT) ?_
  refine bq ?_
  refine Lp (oCV T.Rz rfl rfl rfl lf (.cons (.there (.there (.there .here))) .nil) (fun _ le av => ⟨av.nth 0 rfl, av.nth 1 rfl, av.nth 2 rfl, trivial⟩) fun v H' hr => ?_)
  obtain ⟨rfl, rfl⟩ := hr
  refine bo ?_
  refine cX ?_
  refine Lp (oC T.Vm rfl rfl (sh) (.cons (.there .here) (.cons (.there .here) (.cons (.there .here) .nil))) (fun _ _ _ => trivial) ?_)
  rintro v H' ⟨rfl, A, rfl, E⟩
  refine bo ?_
  have P2 : gr (C.wA A) (some p) := uM K E.d P (fun _ _ _ s => s.qQ)
  have hmA : eM A p = eM C.A p := xa K E.d L (by unfold SQ; omega)
  refine bb ?_
  refine zl T.Jo (yV a b q hot warm (C.wA A) (K.wA A) p (P2 p rfl).1 (P2.kl p rfl) (by rw [cP, hmA]; exact Se) false) (.cons .here .nil) (fun _ le av => In.mono ua le) ?_
  refine bx ?_
  refine Rt [Cl b (C.wA (MT A p false)), af q 139 (dy b qb C.ae.length), af qb 327 (Q2.flatMap (dD C)), ey cr q w C.ae.length dv tv C x2] Tryz.results126 ?_
  refine .inr ⟨j + 1, p, MT A p false, hds, uN, rfl, (by rw [hsq, QH]), ?_, ?_, ?_, ?_⟩
  ·rw [hsq]; exact Q1 (K.wA A) E.o (P2 p rfl).1 false
  ·exact (E.d.mono fun q o s => by unfold SQ at s; unfold SL; omega).trans ((SE (K.wA A) A (P2 p rfl).1 false).wA.mono fun q o s => by unfold SM at s; unfold SL; omega)
  ·rw [Q9 K A L L, if_pos rfl, hmA]
   have := mu Se false
   omega
  rw [hsq, QH]; exact X2
 refine iS ?_
 refine bw ?_
 refine ay ?_
 refine dq ?_
 refine cY ?_
 obtain rfl : j = 3 := by omega
 refine Rt [Cl b C, af q 139 (dy b qb C.ae.length), af qb 327 (Q.flatMap (dD C)), ey cr q w C.ae.length dv tv C x] Tryz.results126 ?_
 exact .inl ⟨Mq nC, rfl, rfl⟩
end Go.Proofs.YtpgbeapapmdkcaaGreatDoor
namespace Go.Proofs.YtpgbeapapmdkcaaGreatDoor
open Go Go.cQ Go.Proofs.YtpgbeapapmdkcaaGreatDoor.Cs
structure kh where
 Q : List (List Nat)
 ac : Nat → Bool
 x : Cw
def Ij (s : kh) (c : Nat) : Bool := match (ql s.Q (qi c 3)).getLast? with
 | none => false
 | some p => s.ac p
def Av (s : kh) (c hot warm : Nat) : Option Nat := if lE s.Q c 1 hot then some 1 else if lE s.Q c 2 warm then some 2 else if Ij s c then some 3 else none
def nj (c hot warm : Nat) (s : kh) : Option kh := match Av s c hot warm with
 | none => none
 | some k => match (ql s.Q (qi c k)).getLast? with
  | none => none
  | some p => some ⟨rP s.Q (qi c k) ((ql s.Q (qi c k)).length - 1) (qi c (if s.ac p then 2 else 3)) p, fun y => if y = p then false else s.ac y, s.x.left s.Q p⟩
def iT (c hot warm : Nat) : Nat → kh → Nat × kh
 | 0, s => (0, s)
 | k + 1, s => match nj c hot warm s with
  | none => (0, s)
  | some t => ((iT c hot warm k t).1 + 1, (iT c hot warm k t).2)
def SB (_q o : Nat) : Prop := 4 ≤ o ∧ o < 12 ∨ o = 45 ∨ o = 46
structure BaI (C : Cs) (A : By) (s : kh) : Prop where
 o : gH (C.wA A) s.Q
 x : ct C.ae.length s.Q s.x
 mq : XL (C.wA A) s.Q
 ac : ∀ i, ∀ p ∈ ql s.Q i, Ea A p = s.ac p
structure Es (C : Cs) (Q : List (List Nat)) (A : By) (s : kh) : Prop where
 i : BaI C A s
 d : cZ C C.A A SB
 mr : ∀ y, Live C y → eM A y / 2 = eM C.A y / 2
 mem : ∀ p, (∃ i, p ∈ ql s.Q i) ↔ ∃ i, p ∈ ql Q i
theorem Lg {Q : List (List Nat)} {i j k p q m : Nat} (hi : i < Q.length) (hj : j < Q.length) (h : q ∈ ql (rP Q i k j p) m) : q = p ∨ q ∈ ql Q m := by
 have back : ∀ u, q ∈ ql (Q.set i ((ql Q i).eraseIdx k)) u → q ∈ ql Q u := fun u hu => by
  rw [ee hi] at hu
  split at hu
  ·next e => rw [e]; exact List.mem_of_mem_eraseIdx hu
  exact hu
 unfold rP at h
 rw [ee (by rw [List.length_set]; exact hj)] at h
 split at h
 ·next e =>
  rcases List.mem_cons.1 h with g | g
  ·exact .inl g
  exact .inr (by rw [e]; exact back _ g)
 exact .inr (back m h)
theorem UG {Q : List (List Nat)} {i j k p : Nat} (hi : i < Q.length) (hj : j < Q.length) : p ∈ ql (rP Q i k j p) j := by
 unfold rP
 rw [ee (by rw [List.length_set]; exact hj), if_pos rfl]
 exact List.mem_cons_self
theorem Wu {A B : By} {x : Nat} (h : eM B x = eM A x) : Ea B x = Ea A x := by unfold Ea; rw [h]
theorem Qk {C : Cs} {A : By} {s : kh} (I : BaI C A s) (c hot warm : Nat) : uk (C.wA A) s.Q c hot warm = Av s c hot warm := by
 have : so (C.wA A) s.Q c = Ij s c := by
  unfold so Ij
  cases e : (ql s.Q (qi c 3)).getLast? with
  | none => rfl
  | some p => exact I.ac _ p (List.mem_of_getLast? e)
 unfold uk Av
 rw [this]
theorem Es.step {C : Cs} (K : Ok C) {Q : List (List Nat)} {A B : By} {s : kh} (O : Es C Q A s) {c hot warm k p : Nat} (hc : c < C.ae.length) (hd : Av s c hot warm = some k) (hk : 1 ≤ k ∧ k ≤ 3) (hl : (ql s.Q (qi c k)).getLast? = some p)
  (T : J0 (C.wA A) C.ae.length p B (lW (C.wA A) s.Q c k p) (s.x.left s.Q p)) :
  ∃ t, nj c hot warm s = some t ∧ t.Q = lW (C.wA A) s.Q c k p ∧ t.x = s.x.left s.Q p ∧ Es C Q B t := by
 have uA := List.mem_of_getLast? hl
 have Nz : Ea A p = s.ac p := O.i.ac _ p uA
 have hQ : rP s.Q (qi c k) ((ql s.Q (qi c k)).length - 1) (qi c (if s.ac p then 2 else 3)) p = lW (C.wA A) s.Q c k p := by
  unfold lW toQ
  rw [cP, Nz]
 have L : Live C p := by
  have := O.i.o.lv _ p uA
  exact ⟨⟨this.i, this.own, this.al, this.k⟩, this.tk⟩
 have Xp : qi c k < s.Q.length := lB O.i.o hc hk
 have Hj : qi c (toQ A p) < s.Q.length := lB O.i.o hc (by unfold toQ; split <;> omega)
 have uC : ∀ y, Live C y → y ≠ p → eM B y = eM A y := fun y hy ne => xa (K.wA A) T.d (hy.wA A) (by unfold SL; omega)
 have lvS : ∀ i, ∀ y ∈ ql (lW (C.wA A) s.Q c k p) i, Live C y := fun i y hy => by
  have := T.o.lv i y hy
  exact ⟨⟨this.i, this.own, this.al, this.k⟩, this.tk⟩
 have hpB := T.mr
 have X6 := O.i.mq _ p uA
 rw [cP] at hpB X6
 have qw : ∀ i, ∀ y ∈ ql (lW (C.wA A) s.Q c k p) i, y = p ∨ y ∈ ql s.Q i := fun i y hy => Lg Xp Hj hy
 refine ⟨⟨lW (C.wA A) s.Q c k p, fun y => if y = p then false else s.ac y, s.x.left s.Q p⟩, ?_, rfl, rfl, ⟨⟨T.o, T.x, fun i y hy => ?_, fun i y hy => ?_⟩, ?_, fun y hy => ?_, fun y => ?_⟩⟩
 ·unfold nj
  rw [hd]
  dsimp only
  rw [hl]
  dsimp only
  rw [hQ]
 ·show eM B y < 16
  by_cases e : y = p
  ·rw [e, hpB]; exact mu X6 false
  rw [uC y (lvS i y hy) e]
  rcases qw i y hy with g | g
  ·exact absurd g e
  exact O.i.mq i y g
 ·show Ea B y = if y = p then false else s.ac y
  by_cases e : y = p
  ·rw [if_pos e, e]
   unfold Ea
   rw [hpB]
   unfold mkSet
   exact decide_eq_false (by simp)
  rw [if_neg e, Wu (uC y (lvS i y hy) e)]
  rcases qw i y hy with g | g
  ·exact absurd g e
  exact O.i.ac i y g
 ·exact O.d.trans (T.d.wA.mono fun q o g => by unfold SL at g; unfold SB; omega)
 ·by_cases e : y = p
  ·rw [e, hpB, ← O.mr p L]
   unfold mkSet
   simp
  rw [uC y hy e, O.mr y hy]
 rw [← O.mem y]
 constructor
 ·rintro ⟨i, hy⟩
  rcases qw i y hy with g | g
  ·exact ⟨_, by rw [g]; exact uA⟩
  exact ⟨i, g⟩
 rintro ⟨i, hy⟩
 by_cases e : y = p
 ·exact ⟨qi c (toQ A p), by rw [e]; exact UG Xp Hj⟩
 exact ⟨i, Dh Xp Hj e hy (by rw [← List.getLast?_eq_getElem?]; exact hl)⟩
theorem zI (a q b qb hot warm cr w : Nat) (dv tv : Value) (C : Cs) (K : Ok C) (s0 : kh) (I : BaI C C.A s0) (c : Nat) (hc : c < C.ae.length) (hh : hot ≤ 100) (hw : warm ≤ 100) (gv : Nat) (hl : gv ≤ 1048576) :
  aL Tryz.prog 81 [.pointer (some ⟨a, 0, none⟩), .int .i64 (c : Int), .int .i64 (gv : Int), Rb cr] (In (gf a b q hot warm)) [Cl b C, af q 139 (dy b qb C.ae.length), af qb 327 (s0.Q.flatMap (dD C)), ey cr q w C.ae.length dv tv C s0.x]
   (fun v H => ∃ n A t, iT c hot warm gv s0 = (n, t) ∧ v = .int .i64 (n : Int) ∧
     H = [Cl b (C.wA A), af q 139 (dy b qb C.ae.length), af qb 327 (t.Q.flatMap (dD C)), ey cr q w C.ae.length dv tv C t.x] ∧ Es C s0.Q A t) := by
 refine ag Tryz.func81 rfl Tryz.ntmps81 rfl ?_
 rintro F ua
 refine cX ?_
 refine Lo (ι := Nat × By × kh) [10, 11, 12, 13, 14, 15, 16, 17, 18, 19, 20, 9] (fun s => Es C s0.Q s.2.1 s.2.2 ∧ s.1 ≤ gv ∧ iT c hot warm gv s0 = (s.1 + (iT c hot warm (gv - s.1) s.2.2).1, (iT c hot warm (gv - s.1) s.2.2).2)) (fun s => [(9, .int .i64 (s.1 : Int))]) (fun s => [Cl b (C.wA s.2.1), af q 139 (dy b qb C.ae.length), af qb 327 (s.2.2.Q.flatMap (dD C)), ey cr q w C.ae.length dv tv C s.2.2.x]) (fun s => gv - s.1) ((0, C.A, s0)) ⟨⟨I, cZ.refl _ _ _, fun y _ => rfl, fun p => Iff.rfl⟩, Nat.zero_le _, by simp⟩ ?_
 rintro ⟨n, A, t⟩ hI
 dsimp only at hI ⊢
 obtain ⟨B, hn, hb⟩ := hI
 by_cases cJ : n < gv
 ·have st := LG a q b qb hot warm cr w dv tv (C.wA A) (K.wA A) t.Q B.i.o B.i.mq c hc hh hw t.x B.i.x
  rw [Qk B.i] at st
  refine bE ?_
  refine zt 13 ?_
  refine bL ?_
  refine Lp (oC T.VI rfl rfl (st) (.cons .here (.cons .here (.cons .here (.cons .here .nil)))) (fun _ le av => In.mono ua le) ?_)
  rintro v H' hr
  refine bo ?_
  rcases hr with ⟨hd, rfl, rfl⟩ | ⟨k, p, A2, hd, uN, rfl, rfl, T⟩
  ·refine Li Pt ?_
   refine ed ?_
   refine Rt [Cl b (C.wA A), af q 139 (dy b qb C.ae.length), af qb 327 (t.Q.flatMap (dD C)), ey cr q w C.ae.length dv tv C t.x] Tryz.results81 ?_
   have hz : iT c hot warm (gv - n) t = (0, t) := by
    obtain ⟨m, hm⟩ : ∃ m, gv - n = m + 1 := ⟨gv - n - 1, by omega⟩
    rw [hm]
    unfold iT
    have : nj c hot warm t = none := by unfold nj; rw [hd]
    rw [this]
   exact ⟨n, A, t, by rw [hb, hz]; rfl, rfl, rfl, B⟩
  have hk : 1 ≤ k ∧ k ≤ 3 := by
   unfold Av at hd
   split at hd
   ·cases hd; omega
   split at hd
   ·cases hd; omega
   split at hd
   ·cases hd; omega
   cases hd
  obtain ⟨u, u1, u2, u3, U⟩ := B.step K hc hd hk uN T
  have Zk : iT c hot warm gv s0 = (n + 1 + (iT c hot warm (gv - (n + 1)) u).1, (iT c hot warm (gv - (n + 1)) u).2) := by
   obtain ⟨m, hm⟩ : ∃ m, gv - n = m + 1 := ⟨gv - n - 1, by omega⟩
   have e : gv - (n + 1) = m := by omega
   have e2 : iT c hot warm (m + 1) t = ((iT c hot warm m u).1 + 1, (iT c hot warm m u).2) := by
    show (match nj c hot warm t with | none => _ | some v => _) = _
    rw [u1]
   rw [hb, hm, e, e2]
   exact Prod.ext (by dsimp only; omega) rfl
  rw [← u2, ← u3]
  refine ed ?_
  refine Ro ((n + 1, A2, u)) (⟨U, cJ, Zk⟩) ((by dsimp only; omega))
 obtain rfl : n = gv := by omega
 refine bE ?_
 refine zf 13 ?_
 refine mV ?_
 refine Rt [Cl b (C.wA A), af q 139 (dy b qb C.ae.length), af qb 327 (t.Q.flatMap (dD C)), ey cr q w C.ae.length dv tv C t.x] Tryz.results81 ?_
 exact ⟨n, A, t, by rw [hb, Nat.sub_self]; rfl, rfl, rfl, B⟩
structure Sy where
 b : Nat
 ck : Nat
 t : Nat
 lu : Nat
 wh : Nat
 cr : Nat
 mo : Nat
 q : Nat
def pV (a : Nat) : Value := .pointer (some ⟨a, 0, none⟩)
def jM (y : Sy) (rest : List Value) : List Value := pV y.b :: pV y.ck :: pV y.t :: pV y.lu :: pV y.wh :: pV y.cr :: pV y.mo :: pV y.q :: rest
def ij (s : Nat) (y : Sy) (rest : List Value) : aa := af s 111 (jM y rest)
def Ni (A : By) (p : Nat) : Nat := rd A (p + 16) 8
def xX (A : By) (p : Nat) : Nat := rd A (p + 32) 8
def Ee (A : By) (k : Ck) (p : Nat) : Nat := if 0 < Ni A p ∧ Ni A p ≤ k.now then 2 else if xX A p ≤ k.cut then 3 else 0
theorem vj (s : Nat) (y : Sy) (rest : List Value) (C : Cs) (K : Ok C) (k : Ck) (p : Nat) (P : gr C (some p)) :
  aL Tryz.prog 87 [.pointer (some ⟨s, 0, none⟩), .int .u64 (C.hd p : Int)] (fun h => In (ij s y rest) h ∧ In (Cl y.b C) h ∧ In (iN y.ck k) h) []
   (fun v H => v = .int .i64 (Ee C.A k p : Int) ∧ H = []) := by
 have L := (P p rfl).1
 have I := (P p rfl).2
 unfold Ee Ni xX
 refine ag Tryz.func87 rfl Tryz.ntmps87 rfl ?_
 rintro F ⟨WG, dR, Ny⟩
 have hs := WG
 unfold ij jM pV at hs
 refine bx ?_
 refine zl T.VF (BP y.b C K p L I.k0 I.exp) .nil (fun _ le _ => In.mono dR le) ?_
 refine gh ?_
 refine zl T.nR (vB y.b C K p L I.k0) .nil (fun _ le _ => In.mono dR le) ?_
 generalize rd C.A (p + 16) 8 = e at *
 generalize rd C.A (p + 32) 8 = tk at *
 refine cX ?_
 refine ay ?_
 refine gT true T.mix ?_
 refine bO ?_
 refine Tp (oC T.iF rfl rfl (kD y.ck k) .nil (fun _ le _ => In.mono Ny le) ?_)
 rintro v H' ⟨rfl, rfl⟩
 refine bo ?_
 refine bq ?_
 refine Tp (oC T.VD rfl rfl (My y.ck k) .nil (fun _ le _ => In.mono Ny le) ?_)
 rintro v H' ⟨rfl, rfl⟩
 refine bo ?_
 refine Tp (oC T.VE rfl rfl (Qq e tk k.now k.cut) .nil (fun _ _ _ => trivial) ?_)
 rintro v H' ⟨rfl, rfl⟩
 refine bo ?_
 by_cases h1 : 0 < e ∧ e ≤ k.now
 ·rw [decide_eq_true (.inl h1), if_pos h1]
  refine Ti Nt ?_
  refine bO ?_
  refine zt 49 ?_
  refine bE ?_
  refine zl T.iF (kD y.ck k) .nil (fun _ le _ => In.mono Ny le) ?_
  refine bb ?_
  refine gK ?_
  refine bE ?_
  refine Rt [] Tryz.results87 ?_
  exact ⟨rfl, rfl⟩
 rw [if_neg h1]
 by_cases h2 : tk ≤ k.cut
 ·rw [decide_eq_true (.inr h2), if_pos h2]
  refine Ti Nt ?_
  refine bL ?_
  by_cases h3 : 0 < e
  ·refine iS ?_
   refine bL ?_
   refine zt 49 ?_
   refine bE ?_
   refine zl T.iF (kD y.ck k) .nil (fun _ le _ => In.mono Ny le) ?_
   refine bb ?_
   refine dq ?_
   refine bO ?_
   refine Rt [] Tryz.results87 ?_
   exact ⟨rfl, rfl⟩
  refine iS ?_
  refine bL ?_
  refine zf 49 ?_
  refine xU ?_
  refine Rt [] Tryz.results87 ?_
  exact ⟨rfl, rfl⟩
 rw [decide_eq_false (fun g => g.elim h1 h2), if_neg h2]
 refine Ti Nt ?_
 refine cY ?_
 refine Rt [] Tryz.results87 ?_
 exact ⟨rfl, rfl⟩
theorem KF (s : Nat) (y : Sy) (rest : List Value) (C : Cs) (K : Ok C) (k : Ck) (p : Nat) (P : gr C (some p)) :
  aL Tryz.prog 40 [.pointer (some ⟨s, 0, none⟩), .int .u64 (C.hd p : Int)] (fun h => In (ij s y rest) h ∧ In (Cl y.b C) h ∧ In (iN y.ck k) h) []
   (fun v H => v = .bool (decide (Ee C.A k p ≠ 0)) ∧ H = []) := by
 refine ag Tryz.func40 rfl Tryz.ntmps40 rfl ?_
 rintro F ⟨WG, dR, Ny⟩
 refine bE ?_
 refine zl T.Rx (vj s y rest C K k p P) .nil (fun _ le _ => ⟨In.mono WG le, In.mono dR le, In.mono Ny le⟩) ?_
 refine bb ?_
 refine Rt [] Tryz.results40 ?_
 refine ⟨?_, rfl⟩
 by_cases h : Ee C.A k p = 0
 ·rw [h]; rfl
 rw [decide_eq_true h, decide_eq_false (by omega)]; rfl
theorem yE (s : Nat) (y : Sy) (rest : List Value) (C : Cs) (K : Ok C) (p : Nat) (P : gr C (some p)) (hk : kl C.A p ≤ 250) :
  aL Tryz.prog 155 [.pointer (some ⟨s, 0, none⟩), .int .u64 (C.hd p : Int)] (fun h => In (ij s y rest) h ∧ In (Cl y.b C) h) []
   (fun v H => v = .int .i64 ((58 + kl C.A p + vl C.A p : Nat) : Int) ∧ H = []) := by
 have L := (P p rfl).1
 have I := (P p rfl).2
 have k0 := I.k0
 have hf := I.fits
 have n1 := L.toAt.bh K
 have p1 := K.p1
 refine ag Tryz.func155 rfl Tryz.ntmps155 rfl ?_
 rintro F ⟨WG, dR⟩
 have hs := WG
 unfold ij jM pV at hs
 refine bx ?_
 refine zl T.Jl (qF y.b C K p L I.k0) .nil (fun _ le _ => In.mono dR le) ?_
 refine bP ?_
 refine zl T.Jt (yX (kl C.A p) (vl C.A p) (by omega) (by omega)) .nil (fun _ _ _ => trivial) ?_
 refine bP ?_
 refine Rt [] Tryz.results155 ?_
 exact ⟨rfl, rfl⟩
structure xI (C D : Cs) (S : Nat → Prop) : Prop where
 a : D.A = C.A
 sz : D.ae = C.ae
 lv : ∀ q, S q → Live C q → Live D q ∧ D.hd q = C.hd q ∧ D.cl q = C.cl q
theorem xI.it {C D : Cs} {S : Nat → Prop} (M : xI C D S) {q : Nat} (s : S q) (L : Live C q) (I : gk C q) : gk D q := by
 obtain ⟨_, _, e⟩ := M.lv q s L
 have hz : D.sz (D.cl q) = C.sz (C.cl q) := by rw [e]; unfold Cs.sz; rw [M.sz]
 exact ⟨by rw [M.a]; exact I.k0, by rw [M.a, hz]; exact I.fits, by rw [M.a]; exact I.exp, by rw [M.a]; exact I.tch⟩
theorem xI.qu {C D : Cs} {S : Nat → Prop} (M : xI C D S) {Q : List (List Nat)} (O : gH C Q) (h : ∀ i, ∀ p ∈ ql Q i, S p) : gH D Q :=
 ⟨by rw [M.sz]; exact O.len, fun i p hp => (M.lv p (h i p hp) (O.lv i p hp)).1, fun i p hp => M.it (h i p hp) (O.lv i p hp) (O.it i p hp), fun i p hp => by
  rw [M.a, (M.lv p (h i p hp) (O.lv i p hp)).2.2]; exact O.st i p hp, O.nd, fun i k hk => by rw [M.a]; exact O.l1 i k hk, fun i k hk => by rw [M.a]; exact O.l2 i k hk⟩
theorem xI.tb {C D : Cs} {S : Nat → Prop} (M : xI C D S) {W : Tb} (O : cz C W) (h : ∀ p ∈ W.all, S p) : cz D W :=
 ⟨O.pw, O.po, O.st, O.mp, O.sz, O.MR, O.sm, O.mv, O.n, O.nd, fun x => by rw [M.a]; exact O.li x, fun p hp => (M.lv p (h p hp) (O.lv p hp)).1, fun p hp => M.it (h p hp) (O.lv p hp) (O.it p hp),
  fun x p hp => by rw [M.a]; exact O.bu x p hp, fun p hp q hq e => O.kd p hp q hq (by rw [M.a] at e; exact e)⟩
theorem xI.ls {C D : Cs} {S : Nat → Prop} (M : xI C D S) {Q : List (List Nat)} (O : gH C Q) (h : ∀ i, ∀ p ∈ ql Q i, S p) : Q.flatMap (dD D) = Q.flatMap (dD C) := by
 have one : ∀ l, (∀ p ∈ l, S p ∧ Live C p) → dD D l = dD C l := fun l hl => by
  have ho : ∀ o : Option Nat, (∀ p, o = some p → p ∈ l) → hO D o = hO C o := fun o hp => by
   cases o with
   | none => rfl
   | some p =>
    have := hl p (hp p rfl)
    rw [bV, bV, (M.lv p this.1 this.2).2.1]
  have h1 := ho l.head? (fun p e => List.mem_of_mem_head? e)
  have h2 := ho l.getLast? (fun p e => List.mem_of_getLast? e)
  show [Value.int .u64 (hO D l.head? : Int), Value.int .u64 (hO D l.getLast? : Int), Value.int .i64 (l.length : Int)] = [Value.int .u64 (hO C l.head? : Int), Value.int .u64 (hO C l.getLast? : Int), Value.int .i64 (l.length : Int)]
  generalize hO D l.head? = x1 at *
  generalize hO D l.getLast? = x2 at *
  subst h1
  subst h2
  rfl
 have : ∀ (R : List (List Nat)), (∀ l ∈ R, ∀ p ∈ l, S p ∧ Live C p) → R.flatMap (dD D) = R.flatMap (dD C) := fun R hR => by
  induction R with
  | nil => rw [List.flatMap_nil, List.flatMap_nil]
  | cons l R ih => rw [List.flatMap_cons, List.flatMap_cons, one l (hR l List.mem_cons_self), ih fun m hm => hR m (List.mem_cons_of_mem _ hm)]
 refine this Q fun l hl p hp => ?_
 obtain ⟨i, hi, e⟩ := List.getElem_of_mem hl
 have e2 : ql Q i = l := by unfold ql; rw [List.getD_eq_getElem?_getD, List.getElem?_eq_getElem hi, e]; rfl
 rw [← e2] at hp
 exact ⟨h i p hp, O.lv i p hp⟩
theorem xI.cw {C D : Cs} {S : Nat → Prop} (M : xI C D S) {Q : List (List Nat)} (O : gH C Q) (h : ∀ i, ∀ p ∈ ql Q i, S p) {n : Nat} {x : Cw} (X : ct n Q x) (q w m : Nat) (dv tv : Value) : rS q w m dv tv D x = rS q w m dv tv C x := by
 have : hO D x.nx = hO C x.nx := by
  cases e : x.nx with
  | none => rfl
  | some p =>
   have hp := (X.nx p e).1
   rw [bV, bV, (M.lv p (h _ p hp) (O.lv _ p hp)).2.1]
 unfold rS
 rw [this]
theorem kx {C : Cs} (K : Ok C) {p : Nat} (L : Live C p) : xI C (C.a8 p) (fun q => q ≠ p) := by
 obtain ⟨K2, S⟩ := fD K L
 have hpl : C.pn p < C.cb.length := by rw [K.pl]; exact L.i
 have im := fun j => jS (C := C) (c := C.cl p) (sp := C.spare) (x := { C.pg (C.pn p) with tk := (C.pg (C.pn p)).tk.set (C.ix p) false, held := (C.pg (C.pn p)).held - 1, aZ := (C.pg (C.pn p)).aZ.set (C.ix p) ((C.gen p + 1) % 4294967296) }) (r := { C.rw (C.cl p) with free := if (C.pg (C.pn p)).lv = true then (C.rw (C.cl p)).free else (C.rw (C.cl p)).free ++ [p], gG := (C.rw (C.cl p)).gG - 1 }) (A := C.A) hpl j
 refine ⟨rfl, rfl, fun q ne M => ?_⟩
 have ecl := S.cl q
 have eix := S.ix q
 have epn := S.pn q
 have key : ((C.a8 p).pg (C.pn q)).tk[C.ix q]? = (C.pg (C.pn q)).tk[C.ix q]? ∧ ((C.a8 p).pg (C.pn q)).aZ.getD (C.ix q) 0 = (C.pg (C.pn q)).aZ.getD (C.ix q) 0 ∧ ((C.a8 p).pg (C.pn q)).own = (C.pg (C.pn q)).own ∧ ((C.a8 p).pg (C.pn q)).aZ.length = (C.pg (C.pn q)).aZ.length := by
  have h := im (C.pn q)
  change (C.a8 p).pg (C.pn q) = _ at h
  rw [h]
  by_cases e : C.pn q = C.pn p
  ·have fu : C.ix p ≠ C.ix q := fun g => ne (by
    have h1 := (L.toAt.bh K).2.2.2.2.2.1
    have h2 := (M.toAt.bh K).2.2.2.2.2.1
    have hc : C.cl q = C.cl p := by unfold Cs.cl; rw [e]
    rw [h1, h2, e, hc, g])
   rw [if_pos e, e]
   refine ⟨?_, ?_, rfl, by simp⟩
   ·show ((C.pg (C.pn p)).tk.set (C.ix p) false)[C.ix q]? = _
    rw [List.getElem?_set_ne fu]
   show ((C.pg (C.pn p)).aZ.set (C.ix p) _).getD (C.ix q) 0 = _
   rw [List.getD_eq_getElem?_getD, List.getD_eq_getElem?_getD, List.getElem?_set_ne fu]
  rw [if_neg e]; exact ⟨rfl, rfl, rfl, rfl⟩
 obtain ⟨k1, k2, k3, k4⟩ := key
 have e1 : (C.a8 p).pg ((C.a8 p).pn q) = (C.a8 p).pg (C.pn q) := by rw [epn]
 refine ⟨⟨⟨by rw [epn]; exact M.i, by rw [e1, k3]; exact M.own, ?_, by rw [eix, e1, k4]; exact M.k⟩, by rw [eix, e1, k1]; exact M.tk⟩, ?_, ecl⟩
 ·rw [ecl, S.sz]; exact M.al
 unfold Cs.hd Cs.gen
 rw [eix, e1, k2]
structure Sv where
 c : lA
 p : uH
 bm : Nat
 fJ : Nat
 mt : Mt
 wa : Option Addr
 wn : Nat
 wc : Nat
def iZ (z : Int) : Value := .int .i64 z
def gF (v : Sv) : List Value := [iZ v.c.ai, iZ v.c.bj, iZ v.c.fac, iZ v.c.aM, iZ v.c.lim, iZ v.c.hot, iZ v.c.warm, iZ v.p.b, iZ v.p.l, iZ v.p.c, iZ v.p.m, .int .u64 (v.bm : Int), .int .i64 (v.fJ : Int), iZ v.mt.dr, iZ v.mt.re, iZ v.mt.bu, iZ v.mt.li, iZ v.mt.lo, iZ v.mt.cr, iZ v.mt.mv, .slice v.wa v.wn v.wc]
theorem xe {n : Nat} {Q : List (List Nat)} {x : Cw} (X : ct n Q x) (nd : ∀ i, (ql Q i).Nodup) {i k p : Nat} (hi : i < Q.length) (hk : (ql Q i)[k]? = some p) : ct n (Q.set i ((ql Q i).eraseIdx k)) (x.left Q p) := by
 have L := X.left p
 refine ⟨L.go, L.no, fun q hq => ?_, L.lf⟩
 obtain ⟨h1, h2⟩ := L.nx q hq
 have ne : q ≠ p := fun e => by
  subst e
  unfold Cw.left at hq
  split at hq
  ·next g =>
   have hp := (X.nx q g).1
   unfold Cw.pass at hq
   rw [g] at hq
   dsimp only at hq
   split at hq
   ·exact JX (nd _) hp hq
   cases hq
  next g => exact g hq
 refine ⟨?_, h2⟩
 rw [ee hi]
 split
 ·next e =>
  rw [e] at h1
  rw [List.mem_eraseIdx_iff_getElem?]
  obtain ⟨v, hv, ev⟩ := List.getElem_of_mem h1
  refine ⟨v, fun g => ne ?_, List.getElem?_eq_some_iff.2 ⟨hv, ev⟩⟩
  have h1 : (ql Q i)[k]? = some q := by rw [← g]; exact List.getElem?_eq_some_iff.2 ⟨hv, ev⟩
  rw [hk] at h1
  exact (Option.some.inj h1).symm
 exact h1
structure RY (C : Cs) (p : Nat) (A : By) (Q : List (List Nat)) (x : Cw) : Prop where
 k : Ok ((C.wA A).a8 p)
 s : xI (C.wA A) ((C.wA A).a8 p) (fun q => q ≠ p)
 o : gH ((C.wA A).a8 p) Q
 d : cZ C C.A A (SQ p)
 x : ct C.ae.length Q x
 no : ∀ i, p ∉ ql Q i
theorem CY (s qb hot warm : Nat) (dv tv : Value) (y : Sy) (v : Sv) (C : Cs) (K : Ok C) (Q : List (List Nat)) (O : gH C Q) (x : Cw) (X : ct C.ae.length Q x) (E : List En) (tn i k p : Nat) (hk : (ql Q i)[k]? = some p) (Ar : kl C.A p ≤ 250) (hb : 58 + kl C.A p + vl C.A p ≤ v.fJ) (WL : v.fJ < 4611686018427387904) :
  aL Tryz.prog 100 [.pointer (some ⟨s, 0, none⟩), .int .u64 (C.hd p : Int)] (In (gf y.lu y.b y.q hot warm)) [Cl y.b C, af y.q 139 (dy y.b qb C.ae.length), af qb 327 (Q.flatMap (dD C)), ey y.cr y.q y.wh C.ae.length dv tv C x, Wl y.wh E tn, ij s y (gF v)]
   (fun r H => r = .tuple #[] ∧ ∃ A, H = [Cl y.b ((C.wA A).a8 p), af y.q 139 (dy y.b qb C.ae.length), af qb 327 ((Q.set i ((ql Q i).eraseIdx k)).flatMap (dD ((C.wA A).a8 p))), ey y.cr y.q y.wh C.ae.length dv tv ((C.wA A).a8 p) (x.left Q p), Wl y.wh (dJ E (C.hd p)) tn, ij s y (gF { v with fJ := v.fJ - (58 + kl C.A p + vl C.A p) })] ∧
    RY C p A (Q.set i ((ql Q i).eraseIdx k)) (x.left Q p)) := by
 have hpl := List.mem_of_getElem? hk
 have P : gr C (some p) := O.Ht (i := i) fun z hz => by cases hz; exact hpl
 have L := (P p rfl).1
 have cJ := (List.getElem?_eq_some_iff.1 hk).1
 have hi : i < Q.length := by
  have h := O.st i p hpl
  have := lB O (L.toAt.bh K).1 ⟨h.1, h.2.1⟩
  rw [← h.2.2] at this
  exact this
 have X2 := xe X O.nd hi hk
 have lf := zk y.cr y.q y.wh C.ae.length y.b qb dv tv C K Q O x X p L
 generalize QH : x.left Q p = x2 at *
 unfold ij jM pV gF iZ
 refine ag Tryz.func100 rfl Tryz.ntmps100 rfl ?_
 rintro F hl
 refine bO ?_
 refine zl T.Rz (lf) (.cons (.there (.there (.there .here))) .nil) (fun _ le av => ⟨av.nth 0 rfl, av.nth 1 rfl, av.nth 2 rfl, trivial⟩) ?_
 refine cX ?_
 refine Lp (oC T.Vy rfl rfl (Fg y.lu y.q y.b qb hot warm C K Q O i k p hk) (.cons (.there .here) (.cons (.there .here) (.cons (.there .here) .nil))) (fun _ le _ => In.mono hl le) ?_)
 rintro v H' ⟨rfl, A, rfl, D⟩
 refine bo ?_
 refine cX ?_
 refine zl T.A5 (MN y.wh E tn (C.hd p)) (.cons (.there (.there (.there (.there .here)))) .nil) (fun _ _ _ => trivial) ?_
 have P2 : gr (C.wA A) (some p) := uM K D.d P (fun _ _ _ s => s.qQ)
 have kp := nU K D.d L.toAt (P p rfl).2 (fun _ s => s.qQ)
 have sz := yE s y (gF v) (C.wA A) (K.wA A) p P2 (by rw [cP, kp.kl]; exact Ar)
 rw [cP, kp.kl, kp.vl] at sz
 have L2 : Live (C.wA A) p := L.wA A
 obtain ⟨G1, G2⟩ := fD (K.wA A) L2
 have S := kx (K.wA A) L2
 have nC : ∀ j, ∀ z ∈ ql (Q.set i ((ql Q i).eraseIdx k)) j, z ≠ p := fun j z hz e => D.no j (e ▸ hz)
 have els := S.ls D.o nC
 have ecr := S.cw D.o nC X2 y.q y.wh C.ae.length dv tv
 generalize hz : 58 + kl C.A p + vl C.A p = z at *
 generalize hQ2 : Q.set i ((ql Q i).eraseIdx k) = Q2 at *
 refine aD ?_
 refine ay ?_
 refine jC 8 T.mix (.cons (.there (.there (.there (.there (.there .here))))) (.cons (.there .here) .nil)) fun F1 kN cT aU => ?_
 obtain ⟨q1, q2, _⟩ := cT
 refine bE ?_
 refine Tp (oC T.JB rfl rfl (sz) .nil (fun _ le av => ⟨In.mono q1 le, In.mono q2 le⟩) ?_)
 rintro v H' ⟨rfl, rfl⟩
 refine bo ?_
 refine aD ?_
 refine iC aU ?_
 refine bP ?_
 refine zl T.VP (P5 y.b (C.wA A) (K.wA A) p L2) (.cons (.there .here) .nil) (fun _ _ _ => trivial) ?_
 refine aB ?_
 have e : ((v.fJ - z : Nat) : Int) = (v.fJ : Int) - (z : Int) := by omega
 refine jN [Cl y.b ((C.wA A).a8 p), af y.q 139 (dy y.b qb C.ae.length), af qb 327 (Q2.flatMap (dD (C.wA A))), af y.cr 177 (rS y.q y.wh C.ae.length dv tv (C.wA A) x2), Wl y.wh (dJ E (C.hd p)) tn, af s 111 (jM y [iZ v.c.ai, iZ v.c.bj, iZ v.c.fac, iZ v.c.aM, iZ v.c.lim, iZ v.c.hot, iZ v.c.warm, iZ v.p.b, iZ v.p.l, iZ v.p.c, iZ v.p.m, .int .u64 (v.bm : Int), .int .i64 ((v.fJ : Int) - (z : Int)), iZ v.mt.dr, iZ v.mt.re, iZ v.mt.bu, iZ v.mt.li, iZ v.mt.lo, iZ v.mt.cr, iZ v.mt.mv, .slice v.wa v.wn v.wc])] Tryz.results100 ?_
 refine ⟨rfl, A, ?_, G1, S, S.qu D.o nC, D.d, X2, D.no⟩
 unfold ey
 rw [els, ecr, ← e]
 rfl
theorem XJ {q o : Nat} {S : List Nat} (h : q ∈ S ∧ 0 ≤ o ∧ o < 0 + 4) : ki o ∧ (o < 4 ∨ 12 ≤ o) ∧ o ≠ 45 := by
 unfold ki
 omega
structure Yq (C : Cs) (p : Nat) (D : Cs) (V : Tb) (Q : List (List Nat)) (x : Cw) : Prop where
 k : Ok D
 t : cz D V
 o : gH D Q
 x : ct C.ae.length Q x
 s : xI (C.wA D.A) D (fun q => q ≠ p)
 d : cZ C C.A D.A (fun _ o => o < 12 ∨ o = 45)
 no : ∀ i, p ∉ ql Q i
 g : D = (C.a8 p).wA D.A
theorem KG (s qb hot warm : Nat) (dv tv : Value) (y : Sy) (v : Sv) (C : Cs) (K : Ok C) (W : Tb) (ty : mZ) (TO : cz C W) (hy : ty.ok = none → W.ob = []) (Q : List (List Nat)) (O : gH C Q) (x : Cw) (X : ct C.ae.length Q x) (E : List En) (tn i k p : Nat) (hp : p ∈ W.all) (hk : (ql Q i)[k]? = some p) (Ar : kl C.A p ≤ 250) (hb : 58 + kl C.A p + vl C.A p ≤ v.fJ) (WL : v.fJ < 4611686018427387904) :
  aL Tryz.prog 66 [.pointer (some ⟨s, 0, none⟩), .int .u64 (C.hd p : Int)] (In (gf y.lu y.b y.q hot warm)) (Cl y.b C :: jZ y.t y.b W ty ++ [af y.q 139 (dy y.b qb C.ae.length), af qb 327 (Q.flatMap (dD C)), ey y.cr y.q y.wh C.ae.length dv tv C x, Wl y.wh E tn, ij s y (gF v)])
   (fun r H => r = .tuple #[] ∧ ∃ D V RZ, H = Cl y.b D :: jZ y.t y.b V RZ ++ [af y.q 139 (dy y.b qb C.ae.length), af qb 327 ((Q.set i ((ql Q i).eraseIdx k)).flatMap (dD D)), ey y.cr y.q y.wh C.ae.length dv tv D (x.left Q p), Wl y.wh (dJ E (C.hd p)) tn, ij s y (gF { v with fJ := v.fJ - (58 + kl C.A p + vl C.A p) })] ∧
    (RZ.ok = none → V.ob = []) ∧ W.all.Perm (p :: V.all) ∧ Yq C p D V (Q.set i ((ql Q i).eraseIdx k)) (x.left Q p) ∧ ∃ A, Bl C W p A V) := by
 have at_ : ∀ q ∈ W.all, At C q := fun q hq => (TO.lv q hq).toAt
 unfold ij jM pV
 refine ag Tryz.func66 rfl Tryz.ntmps66 rfl ?_
 rintro F hl
 unfold jZ
 refine bO ?_
 refine Lp (oC T.Zs rfl rfl (Ks y.t y.b C K W ty TO hy p hp) (.cons .here (.cons .here (.cons .here (.cons .here .nil)))) (fun _ _ _ => trivial) ?_)
 rintro v H' ⟨rfl, A, V, RZ, rfl, hy', TK⟩
 refine bo ?_
 have hpl := List.mem_of_getElem? hk
 have L := O.lv i p hpl
 have dP := uS TK.df at_ (fun q hq => by have := ((at_ q hq).bh K).2.1; omega)
 have kp := nU K dP L.toAt (O.it i p hpl) (fun j g => (XJ g).1)
 have O1 := HJ K O dP (fun j q hq u g => XJ g)
 have off := CY s qb hot warm dv tv y v (C.wA A) (K.wA A) Q O1 x X E tn i k p hk (by rw [cP, kp.kl]; exact Ar) (by rw [cP, kp.kl, kp.vl]; exact hb) WL
 rw [cP, kp.kl, kp.vl] at off
 have nd2 := (TK.pm.nodup_iff).2 TO.nd
 have hnV : ∀ q ∈ V.all, q ≠ p := fun q hq e => (List.nodup_cons.1 nd2).1 (e ▸ hq)
 refine bb ?_
 refine Lp (oC T.JH rfl rfl (off) (.cons .here (.cons (.there (.there (.there .here))) (.cons (.there (.there (.there .here))) (.cons (.there (.there (.there .here))) (.cons (.there (.there (.there .here))) (.cons (.there (.there (.there .here))) .nil)))))) (fun _ le _ => In.mono hl le) ?_)
 rintro v H' ⟨rfl, B, rfl, OF⟩
 refine bo ?_
 have T2 := Eg (K.wA A) TK.o OF.d (fun q _ j g => ⟨g.qQ, by unfold SQ at g; omega⟩)
 have T3 := OF.s.tb T2 hnV
 refine aB ?_
 refine jN [Cl y.b (((C.wA A).wA B).a8 p), af y.t 145 (dg y.b V RZ), af RZ.nk 163 (ax (ao V.nb)), fI RZ.ok 163 (ax (ao V.ob)), af y.q 139 (dy y.b qb C.ae.length), af qb 327 ((Q.set i ((ql Q i).eraseIdx k)).flatMap (dD (((C.wA A).wA B).a8 p))), ey y.cr y.q y.wh C.ae.length dv tv (((C.wA A).wA B).a8 p) (x.left Q p), Wl y.wh (dJ E (C.hd p)) tn, ij s y (gF { v with fJ := v.fJ - (58 + kl C.A p + vl C.A p) })] Tryz.results66 ?_
 refine ⟨rfl, ((C.wA A).wA B).a8 p, V, RZ, rfl, hy', TK.pm.symm, ⟨OF.k, T3, OF.o, OF.x, OF.s, ?_, OF.no, rfl⟩, A, TK⟩
 exact (dP.mono fun q o g => by omega).trans (OF.d.wA.mono fun q o g => by unfold SQ at g; omega)
def mX (now : Nat) (t : Int) : Nat := (Ek now t).toNat
theorem Ml (now : Nat) (t : Int) : Ek now t = (mX now t : Int) := by
 unfold mX Ek
 split
 ·rfl
 split
 ·omega
 ·split <;> omega
theorem Qf (now : Nat) (t : Int) (h : now ≤ 1099511627776) (ht : t < 9223372036854775808) : mX now t < 9223372036854775808 := by
 unfold mX Ek
 split
 ·decide
 split
 ·omega
 ·split <;> omega
structure jQ where
 un : List Nat
 st : Nat
 pg : Nat
 fr : Nat
 tt : Nat
 on : Bool
def moC (b ub : Nat) (dv tv sv : Value) (m : jQ) : List Value := [.pointer (some ⟨b, 0, none⟩), dv, tv, sv, .slice (some ⟨ub, 0, none⟩) m.un.length m.un.length, .int .i64 (m.st : Int), .int .i64 (m.pg : Int), .int .i64 (m.fr : Int), .int .i64 (m.tt : Int), .bool m.on]
def iB (a b ub : Nat) (dv tv sv : Value) (m : jQ) : aa := af a 201 (moC b ub dv tv sv m)
def iM (ub : Nat) (m : jQ) : aa := af ub 3 (aH m.un)
def jQ.nJ (m : jQ) (c : Nat) : jQ := { m with un := m.un.set c (m.st + 64) }
def jQ.mE (m : jQ) (c : Nat) : Bool := decide (m.st < m.un.getD c 0)
def jQ.off (m : jQ) : jQ := { m with pg := 0, fr := 0, tt := 0, on := false }
theorem Mx (k : Ck) (h1 : 1 ≤ k.now) (h2 : k.now ≤ 1099511627776) (h3 : k.nG = 0 ∨ k.now < k.nG) (hp : k.nG < 9223372036854775808) :
  aL Tryz.prog 63 [.int .i64 (k.now : Int), .int .u64 (k.cut : Int), .int .i64 (k.nG : Int)] (fun _ => True) []
   (fun v H => ∃ a, v = .tuple #[.pointer (some ⟨a, 0, none⟩), .int .i64 0] ∧ H = [iN a k]) := by
 unfold iN ckC
 refine ag Tryz.func63 rfl Tryz.ntmps63 rfl ?_
 intro F _
 refine cY ?_
 refine zf 10 ?_
 refine bb ?_
 refine zf 14 ?_
 refine bL ?_
 by_cases h0 : k.nG = 0
 ·refine zf 17 ?_ (e := by exact congrArg (!·) (decide_eq_true (by omega)))
  refine gg ?_
  refine Lp (oB fun b1 => ?_)
  refine bb ?_
  refine gn [af b1 174 [.int .i64 (k.now : Int), .int .i64 (k.nG : Int), .int .u64 (k.cut : Int)]] Tryz.results63 ?_
  exact ⟨b1, rfl, rfl⟩
 refine zt 17 ?_ (e := by exact congrArg (!·) (decide_eq_false (by omega)))
 refine bE ?_
 refine dq ?_
 refine bO ?_
 refine Lp (oB fun b2 => ?_)
 refine bb ?_
 refine gn [af b2 174 [.int .i64 (k.now : Int), .int .i64 (k.nG : Int), .int .u64 (k.cut : Int)]] Tryz.results63 ?_
 exact ⟨b2, rfl, rfl⟩
theorem PN (b q hot warm : Nat) (h1 : 1 ≤ hot) (h2 : 1 ≤ warm) (h3 : hot + warm ≤ 90) :
  aL Tryz.prog 30 [.pointer (some ⟨b, 0, none⟩), .pointer (some ⟨q, 0, none⟩), .int .i64 (hot : Int), .int .i64 (warm : Int)] (fun _ => True) []
   (fun v H => ∃ a, v = .tuple #[.pointer (some ⟨a, 0, none⟩), .int .i64 0] ∧ H = [gf a b q hot warm]) := by
 unfold gf Hs
 refine ag Tryz.func30 rfl Tryz.ntmps30 rfl ?_
 intro F _
 refine cY ?_
 refine zf 12 ?_ (e := by rfl)
 refine bb ?_
 refine zf 16 ?_ (e := by rfl)
 refine bb ?_
 refine zf 20 ?_
 refine bb ?_
 refine zf 24 ?_
 refine bb ?_
 refine zf 28 ?_
 refine bE ?_
 refine dq ?_
 refine cX ?_
 refine Lp (oB fun b1 => ?_)
 refine bb ?_
 refine gn [af b1 141 [.pointer (some ⟨b, 0, none⟩), .pointer (some ⟨q, 0, none⟩), .int .i64 (hot : Int), .int .i64 (warm : Int)]] Tryz.results30 ?_
 exact ⟨b1, rfl, rfl⟩
theorem XN {P : Program} {n : Nat} {ds : List Deferred} {F : c9} {σ : aS} {o : Oper} {t yt : TypeId} {x y : Operand} {f : Fn} {a c : Array Value} (ht : (P.underlying t).map (fun d => match d with | .func .. => true | _ => false) = some true) (ho : o.op = .binOp .eql t x y yt := by exact rfl) (hx : bd σ x = some (.func f a c) := by exact rfl) (hy : bd σ y = some .nilFunc := by exact rfl) : Yv P n ds F σ o (.bool false) := fun w0 w en _ => by
 cases hu : P.underlying t with
 | none => simp [hu] at ht
 | some d =>
  cases d <;> simp [hu] at ht
  have h : ∀ k : Nat, (Op.equalIn (k + 1) t (.func f a c) .nilFunc).run P w = .ok false w := fun k => by simp [Op.equalIn, run_underlying hu]
  have r : (Go.binOp .eql t (.func f a c) .nilFunc).run P w = .ok (.bool false) w := by
   simp only [Go.binOp]
   simp [Op.equal, Op.maxDepth, h 9999]
  simp only [execOp, ho, en.eval hx, en.eval hy, Sem.run_bind, eqGuard_at_func, Sem.run_pure, r, Result.andThen_ok]
theorem I8 : (Tryz.prog.underlying 120).map (fun d => match d with | .func .. => true | _ => false) = some true := by kernel_rfl
theorem DR (q w n : Nat) (h1 : 1 ≤ n) (h2 : n ≤ 62) (f g : Fn) (fa fc ga gc : Array Value) (C : Cs) :
  aL Tryz.prog 65 [.pointer (some ⟨q, 0, none⟩), .pointer (some ⟨w, 0, none⟩), .int .i64 (n : Int), .func f fa fc, .func g ga gc] (fun _ => True) []
   (fun v H => ∃ a, v = .tuple #[.pointer (some ⟨a, 0, none⟩), .int .i64 0] ∧ H = [ey a q w n (.func f fa fc) (.func g ga gc) C ⟨0, false, 0, 0, none, 0⟩]) := by
 unfold ey rS
 refine ag Tryz.func65 rfl Tryz.ntmps65 rfl ?_
 intro F _
 refine cY ?_
 refine zf 14 ?_ (e := by rfl)
 refine bb ?_
 refine zf 18 ?_ (e := by rfl)
 refine aD ?_
 refine Li (XN I8) ?_
 refine bw ?_
 refine zf 22 ?_ (e := by rfl)
 refine aD ?_
 refine Li (XN AT) ?_
 refine bw ?_
 refine zf 26 ?_ (e := by rfl)
 refine bb ?_
 refine zf 30 ?_
 refine bb ?_
 refine dq ?_
 refine cY ?_
 refine Lp (oB fun b1 => ?_)
 refine bb ?_
 refine gn [af b1 177 [.pointer (some ⟨q, 0, none⟩), .pointer (some ⟨w, 0, none⟩), .int .i64 (n : Int), .func f fa fc, .func g ga gc, .int .i64 0, .bool false, .int .i64 0, .int .i64 0, .int .u64 0, .int .i64 0]] Tryz.results65 ?_
 exact ⟨b1, rfl, rfl⟩
def HH (Q : List (List Nat)) (c : Nat) : List Nat := (ql Q (qi c 3)).reverse ++ (ql Q (qi c 2)).reverse ++ (ql Q (qi c 1)).reverse
def Au (own : Option Nat) (l : List Nat) : List Nat := l.filter fun q => decide (some q ≠ own)
def H2 (dd act : Nat → Bool) (r : List Nat) : Option Nat × Bool × Nat := match r.findIdx? dd with
 | some i => (r[i]?, true, i + 1)
 | none => (match r.find? (fun q => !act q) with | some q => some q | none => r.head?, false, r.length)
def yf (dd act : Nat → Bool) (own : Option Nat) (looks : Nat) (l : List Nat) : Option Nat × Bool × Nat := H2 dd act ((Au own l).take looks)
def aO (s : Nat) : Value := .func (.func 40) #[.pointer (some ⟨s, 0, none⟩)] #[]
end Go.Proofs.YtpgbeapapmdkcaaGreatDoor
