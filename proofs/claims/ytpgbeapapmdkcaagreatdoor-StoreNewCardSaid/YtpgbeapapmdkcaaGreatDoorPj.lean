/- Part Pj of the proof. -/
import Derived.Test.YtpgbeapapmdkcaaGreatDoorPd
import Derived.Test.YtpgbeapapmdkcaaGreatDoorPh
set_option maxRecDepth 100000
namespace Go.Proofs.YtpgbeapapmdkcaaGreatDoor
open Go Go.cQ Go.Proofs.YtpgbeapapmdkcaaGreatDoor.Cs
def eM (A : By) (p : Nat) : Nat := rd A (p + 46) 1
def Ea (A : By) (p : Nat) : Bool := decide (eM A p % 2 = 1)
def mkSet (m : Nat) (on : Bool) : Nat := m / 2 * 2 + (if on then 1 else 0)
def MT (A : By) (p : Nat) (on : Bool) : By := wr A (p + 46) 1 (mkSet (eM A p) on)
theorem MF : ∀ m : Nat, m < 16 → gw .and .i64 (m : Int) 1 = some ((m % 2 : Nat) : Int) := by decide +kernel
theorem ME : ∀ m : Nat, m < 16 → gw .andNot .i64 (m : Int) 1 = some ((m / 2 * 2 : Nat) : Int) := by decide +kernel
theorem Qx : ∀ m : Nat, m < 16 → gw .or .i64 ((m / 2 * 2 : Nat) : Int) 1 = some ((m / 2 * 2 + 1 : Nat) : Int) := by decide +kernel
def Hs (b q hot warm : Nat) : List Value := [.pointer (some ⟨b, 0, none⟩), .pointer (some ⟨q, 0, none⟩), .int .i64 (hot : Int), .int .i64 (warm : Int)]
def gf (a b q hot warm : Nat) : aa := af a 141 (Hs b q hot warm)
theorem tN (a b q hot warm : Nat) (C : Cs) (K : Ok C) (p : Nat) (L : Live C p) (hk : kl C.A p ≠ 0) (hm : eM C.A p < 16) :
  aL Tryz.prog 196 [.pointer (some ⟨a, 0, none⟩), .int .u64 (C.hd p : Int)] (fun h => In (Cl b C) h ∧ In (gf a b q hot warm) h) []
   (fun v H => v = .bool (Ea C.A p) ∧ H = []) := by
 have ha := MF _ hm
 unfold gf Hs Ea
 unfold eM at *
 refine ag Tryz.func196 rfl Tryz.ntmps196 rfl ?_
 rintro F ⟨hc, hl⟩
 refine cY ?_
 refine zl T.Jw (vD b C K p L hk) .nil (fun _ le _ => In.mono hc le) ?_
 refine bx ?_
 refine zt 18 ?_ (e := by rfl)
 refine bw ?_
 refine aw (t := 20) (v' := (.int .i64 ((rd C.A (p + 46) 1 % 2 : Nat) : Int))) rfl (by exact congrArg (fun x => Value.int .i64 (x.getD 0)) ha) ?_
 refine bq ?_
 refine Rt [] Tryz.results196 ?_
 refine ⟨?_, rfl⟩
 by_cases h : rd C.A (p + 46) 1 % 2 = 1
 ·rw [h]; rfl
 rw [show rd C.A (p + 46) 1 % 2 = 0 by omega]; rfl
theorem yV (a b q hot warm : Nat) (C : Cs) (K : Ok C) (p : Nat) (L : Live C p) (hk : kl C.A p ≠ 0) (hm : eM C.A p < 16) (on : Bool) :
  aL Tryz.prog 198 [.pointer (some ⟨a, 0, none⟩), .int .u64 (C.hd p : Int), .bool on] (In (gf a b q hot warm)) [Cl b C]
   (fun v H => v = .tuple #[] ∧ H = [Cl b (C.wA (MT C.A p on))]) := by
 have ha := ME _ hm
 have hb := Qx _ hm
 unfold gf Hs MT mkSet
 unfold eM at *
 refine ag Tryz.func198 rfl Tryz.ntmps198 rfl ?_
 rintro F hl
 refine bE ?_
 refine zl T.Jw (vD b C K p L hk) .nil (fun _ le av => av.1) ?_
 refine ca ?_
 refine bL ?_
 refine aw (t := 6) (v' := (.int .i64 ((rd C.A (p + 46) 1 / 2 * 2 : Nat) : Int))) rfl (by exact congrArg (fun x => Value.int .i64 (x.getD 0)) ha) ?_
 rcases on with _ | _
 ·refine dq ?_ (e := by rfl)
  refine cY ?_
  refine zl T.Jv (pd b C K p (rd C.A (p + 46) 1 / 2 * 2) (by omega) L hk) (.cons .here .nil) (fun _ _ _ => trivial) ?_
  refine aB ?_
  refine jN [Cl b (C.wA (wr C.A (p + 46) 1 (rd C.A (p + 46) 1 / 2 * 2 + 0)))] Tryz.results198 ?_
  exact ⟨rfl, rfl⟩
 refine gK ?_ (e := by rfl)
 refine bq ?_
 refine aw (t := 6) (v' := (.int .i64 ((rd C.A (p + 46) 1 / 2 * 2 + 1 : Nat) : Int))) rfl (by exact congrArg (fun x => Value.int .i64 (x.getD 0)) hb) ?_
 refine bO ?_
 refine zl T.Jv (pd b C K p (rd C.A (p + 46) 1 / 2 * 2 + 1) (by omega) L hk) (.cons .here .nil) (fun _ _ _ => trivial) ?_
 refine aB ?_
 refine jN [Cl b (C.wA (wr C.A (p + 46) 1 (rd C.A (p + 46) 1 / 2 * 2 + 1)))] Tryz.results198 ?_
 exact ⟨rfl, rfl⟩
def SM (p : Nat) (q o : Nat) : Prop := o = 46 ∧ q = p
def SL (p : Nat) (q o : Nat) : Prop := 4 ≤ o ∧ o < 12 ∨ (o = 45 ∨ o = 46) ∧ q = p
theorem mu {m : Nat} (h : m < 16) (on : Bool) : mkSet m on < 16 := by
 unfold mkSet
 split <;> omega
theorem SE {C : Cs} (K : Ok C) (A : By) {p : Nat} (L : Live C p) (on : Bool) : cZ C A (MT A p on) (SM p) :=
 Ed A L.toAt (by have := (L.toAt.bh K).2.1; omega) fun j h1 h2 => ⟨by omega, rfl⟩
theorem Q9 {C : Cs} (K : Ok C) (A : By) {p x : Nat} (L : Live C p) (X : Live C x) (on : Bool) : eM (MT A p on) x = if x = p then mkSet (eM A p) on % 256 else eM A x := by
 unfold eM MT
 split
 ·next e => rw [e, cI]; rfl
 next e => exact jc (C := C.wA A) (K.wA A) (X.wA A).toAt (L.wA A).toAt (a := 46) (n := 1) (o := 46) (w := 1) (by have := (L.toAt.bh K).2.1; show _ ≤ C.sz (C.cl p); omega) (by have := (X.toAt.bh K).2.1; show _ ≤ C.sz (C.cl x); omega) (fun g => absurd g e)
theorem SM.qQ {p q o : Nat} (h : SM p q o) : ki o := by
 unfold SM at h
 unfold ki
 omega
theorem Dw (a q b qb hot warm : Nat) (C : Cs) (K : Ok C) (Q : List (List Nat)) (O : gH C Q) (c : Nat) (hc : c < C.ae.length) :
  aL Tryz.prog 257 [.pointer (some ⟨a, 0, none⟩), .int .i64 (c : Int)] (fun h => In (gf a b q hot warm) h ∧ fF (py q b qb C Q) h) []
   (fun v H => v = .tuple #[.int .i64 ((ql Q (qi c 1)).length : Int), .int .i64 ((ql Q (qi c 2)).length : Int), .int .i64 ((ql Q (qi c 3)).length : Int)] ∧ H = []) := by
 refine ag Tryz.func257 rfl Tryz.ntmps257 rfl ?_
 rintro F ⟨hl, hq⟩
 unfold gf Hs at hl
 refine bq ?_
 refine ay ?_
 refine gT true T.mix ?_
 refine bq ?_
 refine Tp (oC T.wH rfl rfl (rq q b qb C K Q O c 1 hc (by omega)) .nil (fun _ le _ => cu hq le) ?_)
 rintro v H' ⟨rfl, rfl⟩
 refine bo ?_
 refine bq ?_
 refine Tp (oC T.wH rfl rfl (rq q b qb C K Q O c 2 hc (by omega)) .nil (fun _ le _ => cu hq le) ?_)
 rintro v H' ⟨rfl, rfl⟩
 refine bo ?_
 refine bq ?_
 refine Tp (oC T.wH rfl rfl (rq q b qb C K Q O c 3 hc (by omega)) .nil (fun _ le _ => cu hq le) ?_)
 rintro v H' ⟨rfl, rfl⟩
 refine bo ?_
 refine bq ?_
 refine Rt3 [] Tryz.results257 ?_
 exact ⟨rfl, rfl⟩
def lE (Q : List (List Nat)) (c s share : Nat) : Bool := decide (((ql Q (qi c 1)).length + (ql Q (qi c 2)).length + (ql Q (qi c 3)).length) * share < 100 * (ql Q (qi c s)).length)
theorem zH (a q b qb hot warm : Nat) (C : Cs) (K : Ok C) (Q : List (List Nat)) (O : gH C Q) (c : Nat) (hc : c < C.ae.length) (hh : hot ≤ 100) :
  aL Tryz.prog 236 [.pointer (some ⟨a, 0, none⟩), .int .i64 (c : Int)] (fun h => In (gf a b q hot warm) h ∧ fF (py q b qb C Q) h) []
   (fun v H => v = .bool (lE Q c 1 hot) ∧ H = []) := by
 have n1 := vX K O (qi c 1)
 have n2 := vX K O (qi c 2)
 have n3 := vX K O (qi c 3)
 unfold lE
 refine ag Tryz.func236 rfl Tryz.ntmps236 rfl ?_
 rintro F ⟨ua, hq⟩
 have hl := ua
 unfold gf Hs at hl
 refine bE ?_
 refine zl T.Ja (Dw a q b qb hot warm C K Q O c hc) .nil (fun _ le _ => ⟨In.mono ua le, cu hq le⟩) ?_
 generalize (ql Q (qi c 1)).length = x at *
 generalize (ql Q (qi c 2)).length = y at *
 generalize (ql Q (qi c 3)).length = z at *
 have hmul : (x + y + z) * hot ≤ (x + y + z) * 100 := Nat.mul_le_mul_left _ hh
 have e : ((x : Int) + (y : Int) + (z : Int)) * (hot : Int) = (((x + y + z) * hot : Nat) : Int) := by push_cast; rfl
 generalize ((x + y + z) * hot) = m at *
 refine ca ?_
 refine aD ?_
 refine aw (t := 26) (v' := (.int .i64 (m : Int))) rfl (by exact congrArg (Value.int .i64) e) ?_
 refine bb ?_
 refine Rt [] Tryz.results236 ?_
 refine ⟨congrArg Value.bool (decide_eq_decide.2 ?_), rfl⟩
 omega
theorem xv (a q b qb hot warm : Nat) (C : Cs) (K : Ok C) (Q : List (List Nat)) (O : gH C Q) (c : Nat) (hc : c < C.ae.length) (hh : warm ≤ 100) :
  aL Tryz.prog 237 [.pointer (some ⟨a, 0, none⟩), .int .i64 (c : Int)] (fun h => In (gf a b q hot warm) h ∧ fF (py q b qb C Q) h) []
   (fun v H => v = .bool (lE Q c 2 warm) ∧ H = []) := by
 have n1 := vX K O (qi c 1)
 have n2 := vX K O (qi c 2)
 have n3 := vX K O (qi c 3)
 unfold lE
 refine ag Tryz.func237 rfl Tryz.ntmps237 rfl ?_
 rintro F ⟨ua, hq⟩
 have hl := ua
 unfold gf Hs at hl
 refine bE ?_
 refine zl T.Ja (Dw a q b qb hot warm C K Q O c hc) .nil (fun _ le _ => ⟨In.mono ua le, cu hq le⟩) ?_
 generalize (ql Q (qi c 1)).length = x at *
 generalize (ql Q (qi c 2)).length = y at *
 generalize (ql Q (qi c 3)).length = z at *
 have hmul : (x + y + z) * warm ≤ (x + y + z) * 100 := Nat.mul_le_mul_left _ hh
 have e : ((x : Int) + (y : Int) + (z : Int)) * (warm : Int) = (((x + y + z) * warm : Nat) : Int) := by push_cast; rfl
 generalize ((x + y + z) * warm) = m at *
 refine ca ?_
 refine aD ?_
 refine aw (t := 26) (v' := (.int .i64 (m : Int))) rfl (by exact congrArg (Value.int .i64) e) ?_
 refine bb ?_
 refine Rt [] Tryz.results237 ?_
 refine ⟨congrArg Value.bool (decide_eq_decide.2 ?_), rfl⟩
 omega
def XL (C : Cs) (Q : List (List Nat)) : Prop := ∀ i, ∀ p ∈ ql Q i, eM C.A p < 16
structure Io (C : Cs) (p : Nat) (A : By) (Q : List (List Nat)) : Prop where
 o : gH (C.wA A) Q
 d : cZ C C.A A (SL p)
 mr : eM A p = mkSet (eM C.A p) false
theorem xa {C : Cs} (K : Ok C) {A B : By} {S : Nat → Nat → Prop} (d : cZ C A B S) {x : Nat} (X : Live C x) (h : ¬ S x 46) : eM B x = eM A x :=
 lP K d X.toAt (by have := (X.toAt.bh K).2.1; omega) fun j h1 h2 s => h (by rwa [show j = 46 by omega] at s)
theorem Q1 {C : Cs} (K : Ok C) {Q : List (List Nat)} (O : gH C Q) {p : Nat} (L : Live C p) (on : Bool) : gH (C.wA (MT C.A p on)) Q :=
 HJ K O (SE K C.A L on) fun i x hx j s => ⟨s.qQ, by unfold SM at s; omega, by unfold SM at s; omega⟩
theorem vz (a q b qb hot warm : Nat) (C : Cs) (K : Ok C) (Q : List (List Nat)) (O : gH C Q) (p : Nat) (P : gr C (some p)) (hm : eM C.A p < 16) (hn : ¬ (1 ≤ iR C.A p ∧ iR C.A p ≤ 3)) :
  aL Tryz.prog 184 [.pointer (some ⟨a, 0, none⟩), .int .u64 (C.hd p : Int)] (In (gf a b q hot warm)) (Cl b C :: py q b qb C Q)
   (fun v H => v = .int .i64 0 ∧ ∃ A, H = Cl b (C.wA A) :: py q b qb (C.wA A) (Q.set (qi (C.cl p) 1) (p :: ql Q (qi (C.cl p) 1))) ∧ Io C p A (Q.set (qi (C.cl p) 1) (p :: ql Q (qi (C.cl p) 1)))) := by
 have L := (P p rfl).1
 unfold py
 refine ag Tryz.func184 rfl Tryz.ntmps184 rfl ?_
 rintro F ua
 have hl := ua
 unfold gf Hs at hl
 refine cY ?_
 refine Lp (oC T.Jf rfl rfl (yG q b qb C K Q O p 1 (by omega) P hn) (.cons .here (.cons .here (.cons .here .nil))) (fun _ _ _ => trivial) ?_)
 rintro v H' ⟨rfl, A, rfl, E⟩
 refine bo ?_
 have Se : eM A p = eM C.A p := xa K E.d L (by unfold SQ; omega)
 have P2 : gr (C.wA A) (some p) := uM K E.d P (fun _ _ j s => s.qQ)
 refine bP ?_
 refine zl T.Jo (yV a b q hot warm (C.wA A) (K.wA A) p (P2 p rfl).1 (P2.kl p rfl) (by rw [cP, Se]; exact hm) false) (.cons .here .nil) (fun _ le av => In.mono ua le) ?_
 refine bE ?_
 refine Rt [Cl b (C.wA (MT A p false)), af q 139 (dy b qb C.ae.length), af qb 327 ((Q.set (qi (C.cl p) 1) (p :: ql Q (qi (C.cl p) 1))).flatMap (dD C))] Tryz.results184 ?_
 refine ⟨rfl, MT A p false, rfl, Q1 (K.wA A) E.o (P2 p rfl).1 false, (E.d.mono fun q o s => ?_).trans ((SE (K.wA A) A (P2 p rfl).1 false).wA.mono fun q o s => ?_), ?_⟩
 ·unfold SQ at s; unfold SL; omega
 ·unfold SM at s; unfold SL; omega
 rw [Q9 K A L L, if_pos rfl, Se]
 have := mu hm false
 omega
theorem Fg (a q b qb hot warm : Nat) (C : Cs) (K : Ok C) (Q : List (List Nat)) (O : gH C Q) (i k p : Nat) (hk : (ql Q i)[k]? = some p) :
  aL Tryz.prog 153 [.pointer (some ⟨a, 0, none⟩), .int .u64 (C.hd p : Int)] (In (gf a b q hot warm)) (Cl b C :: py q b qb C Q)
   (fun v H => v = .int .i64 0 ∧ ∃ A, H = Cl b (C.wA A) :: py q b qb (C.wA A) (Q.set i ((ql Q i).eraseIdx k)) ∧ J1 C p A (Q.set i ((ql Q i).eraseIdx k))) := by
 unfold py
 refine ag Tryz.func153 rfl Tryz.ntmps153 rfl ?_
 rintro F hl
 unfold gf Hs at hl
 refine cY ?_
 refine Lp (oC T.Jx rfl rfl (yH q b qb C K Q O i k p hk) (.cons .here (.cons .here (.cons .here .nil))) (fun _ _ _ => trivial) ?_)
 rintro v H' ⟨rfl, A, rfl, E⟩
 refine bo ?_
 refine bL ?_
 refine Rt [Cl b (C.wA A), af q 139 (dy b qb C.ae.length), af qb 327 ((Q.set i ((ql Q i).eraseIdx k)).flatMap (dD C))] Tryz.results153 ?_
 exact ⟨rfl, A, rfl, E⟩
def so (C : Cs) (Q : List (List Nat)) (c : Nat) : Bool := match (ql Q (qi c 3)).getLast? with
 | none => false
 | some p => Ea C.A p
theorem LI (a q b qb hot warm : Nat) (C : Cs) (K : Ok C) (Q : List (List Nat)) (O : gH C Q) (M : XL C Q) (c : Nat) (hc : c < C.ae.length) :
  aL Tryz.prog 238 [.pointer (some ⟨a, 0, none⟩), .int .i64 (c : Int)] (fun h => In (Cl b C) h ∧ In (gf a b q hot warm) h ∧ fF (py q b qb C Q) h) []
   (fun v H => v = .bool (so C Q c) ∧ H = []) := by
 have hp := fun x (h : (ql Q (qi c 3)).getLast? = some x) => List.mem_of_getLast? h
 unfold so
 refine ag Tryz.func238 rfl Tryz.ntmps238 rfl ?_
 rintro F ⟨dR, ua, hq⟩
 have hl := ua
 unfold gf Hs at hl
 refine cY ?_
 refine zl T.AX (sU q b qb C K Q O c 3 hc (by omega)) .nil (fun _ le _ => cu hq le) ?_
 rcases hg : (ql Q (qi c 3)).getLast? with _ | p
 ·refine Li Mv ?_
  refine cX ?_
  refine zf 17 ?_ (e := by rfl)
  refine bO ?_
  refine Rt [] Tryz.results238 ?_
  exact ⟨rfl, rfl⟩
 have uA := hp p hg
 refine cY ?_
 refine zt 17 ?_ (e := by rfl)
 refine bw ?_
 refine zl T.Jp (tN a b q hot warm C K p (O.lv _ p uA) (O.it _ p uA).k0 (M _ p uA)) .nil (fun _ le _ => ⟨In.mono dR le, In.mono ua le⟩) ?_
 refine bb ?_
 refine Rt [] Tryz.results238 ?_
 exact ⟨rfl, rfl⟩
def ruC : List Value := [.int .i64 1, .func (.func 236) #[] #[], .int .i64 2, .func (.func 237) #[] #[], .int .i64 3, .func (.func 238) #[] #[]]
theorem KH : aL Tryz.prog 194 [] (fun _ => True) [] (fun v H => v = Value.agg ruC.toArray ∧ H = []) := by
 refine ag Tryz.func194 rfl Tryz.ntmps194 rfl ?_
 intro F _
 refine aD ?_
 refine Lp (oA T.Ir fun b1 => ?_)
 refine bq ?_
 refine Li (Bda T.Ir T.Wo) ?_
 refine bL ?_
 refine Hh (H' := [af b1 280 ruC]) ?_
 refine Sx [] T.JY Tryz.results194 ?_
 exact ⟨rfl, rfl⟩
structure Cw where
 dn : Int
 bg : Bool
 cl : Nat
 kd : Nat
 nx : Option Nat
 lf : Nat
def WS (l : List Nat) (p : Nat) : Option Nat := pv l (l.idxOf p)
namespace Cw
def iw (Q : List (List Nat)) (x : Cw) (c k : Nat) : Cw := { x with bg := true, cl := c, kd := k, nx := (ql Q (qi c k)).getLast?, lf := (ql Q (qi c k)).length }
def pass (Q : List (List Nat)) (x : Cw) : Cw := match x.nx with
 | none => x
 | some p => { x with nx := if 1 < x.lf then WS (ql Q (qi x.cl x.kd)) p else none, lf := x.lf - 1 }
def left (Q : List (List Nat)) (x : Cw) (p : Nat) : Cw := if x.nx = some p then x.pass Q else x
def uL (x : Cw) (p r : Nat) : Cw := if x.nx = some p then { x with nx := some r } else x
def again (x : Cw) : Cw := { x with bg := false, cl := 0, kd := 0, nx := none, lf := 0 }
end Cw
structure ct (n : Nat) (Q : List (List Nat)) (x : Cw) : Prop where
 go : x.bg = true → x.cl < n ∧ 1 ≤ x.kd ∧ x.kd ≤ 3
 no : x.bg = false → x.nx = none ∧ x.cl = 0 ∧ x.kd = 0 ∧ x.lf = 0
 nx : ∀ p, x.nx = some p → p ∈ ql Q (qi x.cl x.kd) ∧ 1 ≤ x.lf
 lf : x.lf ≤ 1073741824
theorem ct.bg {n : Nat} {Q : List (List Nat)} {x : Cw} (h : ct n Q x) {p : Nat} (e : x.nx = some p) : x.bg = true := by
 rcases hb : x.bg with _ | _
 ·rw [(h.no hb).1] at e; cases e
 rfl
theorem ct.iw {C : Cs} (K : Ok C) {n : Nat} {Q : List (List Nat)} (O : gH C Q) {x : Cw} {c k : Nat} (hc : c < n) (hk : 1 ≤ k ∧ k ≤ 3) : ct n Q (x.iw Q c k) :=
 ⟨fun _ => ⟨hc, hk⟩, (fun h => by cases h), (fun _ hp => ⟨List.mem_of_getLast? hp, List.length_pos_of_mem (List.mem_of_getLast? hp)⟩), vX K O _⟩
theorem QC {l : List Nat} {p q : Nat} (h : WS l p = some q) : q ∈ l := nM h
theorem ct.pass {n : Nat} {Q : List (List Nat)} {x : Cw} (h : ct n Q x) : ct n Q (x.pass Q) := by
 unfold Cw.pass
 split
 ·exact h
 next p hp =>
 have hb := h.bg hp
 obtain ⟨h1, h2⟩ := h.nx p hp
 refine ⟨h.go, fun hh => (by rw [hb] at hh; cases hh), fun r hr => ?_, by have := h.lf; show x.lf - 1 ≤ _; omega⟩
 change (if 1 < x.lf then _ else none) = some r at hr
 split at hr
 ·next g => exact ⟨QC hr, by show 1 ≤ x.lf - 1; omega⟩
 cases hr
theorem ct.left {n : Nat} {Q : List (List Nat)} {x : Cw} (h : ct n Q x) (p : Nat) : ct n Q (x.left Q p) := by
 unfold Cw.left
 split
 ·exact h.pass
 exact h
def rS (q w n : Nat) (dv tv : Value) (C : Cs) (x : Cw) : List Value := [.pointer (some ⟨q, 0, none⟩), .pointer (some ⟨w, 0, none⟩), .int .i64 (n : Int), dv, tv, .int .i64 x.dn, .bool x.bg, .int .i64 (x.cl : Int), .int .i64 (x.kd : Int), .int .u64 (hO C x.nx : Int), .int .i64 (x.lf : Int)]
def ey (a q w n : Nat) (dv tv : Value) (C : Cs) (x : Cw) : aa := af a 177 (rS q w n dv tv C x)
theorem xh {l : List Nat} {p : Nat} (h : p ∈ l) : l.idxOf p < l.length ∧ l[l.idxOf p]? = some p := by
 have h1 := List.idxOf_lt_length_of_mem h
 exact ⟨h1, by rw [List.getElem?_eq_getElem h1, List.getElem_idxOf]⟩
theorem G5 (a q w n : Nat) (dv tv : Value) (C : Cs) (x : Cw) :
  aL Tryz.prog 76 [.pointer (some ⟨a, 0, none⟩)] (fun _ => True) [ey a q w n dv tv C x]
   (fun v H => v = .tuple #[] ∧ H = [ey a q w n dv tv C x.again]) := by
 unfold ey rS
 refine ag Tryz.func76 rfl Tryz.ntmps76 rfl ?_
 intro F _
 refine ca ?_
 refine aD ?_
 refine aB ?_
 refine jN [af a 177 (rS q w n dv tv C x.again)] Tryz.results76 ?_
 exact ⟨rfl, rfl⟩
theorem MD (a q w n b qb : Nat) (dv tv : Value) (C : Cs) (K : Ok C) (Q : List (List Nat)) (O : gH C Q) (x : Cw) (c k : Nat) (hc : c < C.ae.length) (hk : 1 ≤ k ∧ k ≤ 3) :
  aL Tryz.prog 145 [.pointer (some ⟨a, 0, none⟩), .int .i64 (c : Int), .int .i64 (k : Int)] (fF (py q b qb C Q)) [ey a q w n dv tv C x]
   (fun v H => v = .tuple #[] ∧ H = [ey a q w n dv tv C (x.iw Q c k)]) := by
 unfold ey rS
 refine ag Tryz.func145 rfl Tryz.ntmps145 rfl ?_
 rintro F hq
 refine ca ?_
 refine bb ?_
 refine zl T.AX (sU q b qb C K Q O c k hc hk) .nil (fun _ le _ => cu hq le) ?_
 refine oo ?_
 refine zl T.wH (rq q b qb C K Q O c k hc hk) .nil (fun _ le _ => cu hq le) ?_
 refine bL ?_
 refine aB ?_
 refine jN [af a 177 (rS q w n dv tv C (x.iw Q c k))] Tryz.results145 ?_
 exact ⟨rfl, rfl⟩
theorem zj (a q w n b qb : Nat) (dv tv : Value) (C : Cs) (K : Ok C) (Q : List (List Nat)) (O : gH C Q) (x : Cw) (X : ct n Q x) (p : Nat) (hp : x.nx = some p) :
  aL Tryz.prog 92 [.pointer (some ⟨a, 0, none⟩)] (fun h => In (Cl b C) h ∧ fF (py q b qb C Q) h) [ey a q w n dv tv C x]
   (fun v H => v = .int .u64 (C.hd p : Int) ∧ H = [ey a q w n dv tv C (x.pass Q)]) := by
 obtain ⟨h1, h2⟩ := X.nx p hp
 have h3 := X.lf
 obtain ⟨i1, i2⟩ := xh h1
 have SP : (ql Q (qi x.cl x.kd))[(ql Q (qi x.cl x.kd)).idxOf p]'i1 = p := List.getElem_idxOf i1
 have ah := EZ q b qb C K Q O (qi x.cl x.kd) ((ql Q (qi x.cl x.kd)).idxOf p) i1
 rw [SP] at ah
 have e1 : ((x.lf : Int) - 1) = ((x.lf - 1 : Nat) : Int) := by omega
 have ex : x.pass Q = { x with nx := if 1 < x.lf then WS (ql Q (qi x.cl x.kd)) p else none, lf := x.lf - 1 } := by unfold Cw.pass; rw [hp]
 rw [ex]
 unfold WS
 by_cases hl : 1 < x.lf
 ·rw [if_pos hl]
  unfold ey rS
  rw [hp]
  dsimp only
  rw [← e1]
  refine ag Tryz.func92 rfl Tryz.ntmps92 rfl ?_
  rintro F ⟨dR, hq⟩
  refine ca ?_
  refine gg ?_
  refine gK ?_
  refine bO ?_
  refine zl T.VA (ah) .nil (fun _ le _ => ⟨In.mono dR le, In.mono hq.1 le⟩) ?_
  refine ed ?_
  refine Rt [af a 177 [.pointer (some ⟨q, 0, none⟩), .pointer (some ⟨w, 0, none⟩), .int .i64 (n : Int), dv, tv, .int .i64 x.dn, .bool x.bg, .int .i64 (x.cl : Int), .int .i64 (x.kd : Int), .int .u64 (hO C (pv (ql Q (qi x.cl x.kd)) ((ql Q (qi x.cl x.kd)).idxOf p)) : Int), .int .i64 ((x.lf : Int) - 1)]] Tryz.results92 ?_
  exact ⟨rfl, rfl⟩
 rw [if_neg hl]
 unfold ey rS
 rw [hp]
 dsimp only
 rw [← e1]
 refine ag Tryz.func92 rfl Tryz.ntmps92 rfl ?_
 rintro F ⟨dR, hq⟩
 refine ca ?_
 refine gg ?_
 refine dq ?_
 refine bO ?_
 refine Rt [af a 177 [.pointer (some ⟨q, 0, none⟩), .pointer (some ⟨w, 0, none⟩), .int .i64 (n : Int), dv, tv, .int .i64 x.dn, .bool x.bg, .int .i64 (x.cl : Int), .int .i64 (x.kd : Int), .int .u64 0, .int .i64 ((x.lf : Int) - 1)]] Tryz.results92 ?_
 exact ⟨rfl, rfl⟩
theorem zk (a q w n b qb : Nat) (dv tv : Value) (C : Cs) (K : Ok C) (Q : List (List Nat)) (O : gH C Q) (x : Cw) (X : ct n Q x) (p : Nat) (L : Live C p) :
  aL Tryz.prog 82 [.pointer (some ⟨a, 0, none⟩), .int .u64 (C.hd p : Int)] (fun h => In (Cl b C) h ∧ fF (py q b qb C Q) h) [ey a q w n dv tv C x]
   (fun v H => v = .tuple #[] ∧ H = [ey a q w n dv tv C (x.left Q p)]) := by
 obtain ⟨m1, m2, m3, m4, m5, m6⟩ := bM K L.toAt
 rcases hb : x.bg with _ | _
 ·have hx : x.left Q p = x := by unfold Cw.left; rw [(X.no hb).1, if_neg (by simp)]
  rw [hx]
  unfold ey rS
  rw [hb]
  refine ag Tryz.func82 rfl Tryz.ntmps82 rfl ?_
  rintro F ⟨dR, hq⟩
  refine bE ?_
  refine zf 8 ?_ (e := by rfl)
  refine gg ?_
  refine jN [af a 177 [.pointer (some ⟨q, 0, none⟩), .pointer (some ⟨w, 0, none⟩), .int .i64 (n : Int), dv, tv, .int .i64 x.dn, .bool false, .int .i64 (x.cl : Int), .int .i64 (x.kd : Int), .int .u64 (hO C x.nx : Int), .int .i64 (x.lf : Int)]] Tryz.results82 ?_
  exact ⟨rfl, rfl⟩
 by_cases hp : x.nx = some p
 ·have hx : x.left Q p = x.pass Q := by unfold Cw.left; rw [if_pos hp]
  rw [hx]
  have ps := zj a q w n b qb dv tv C K Q O x X p hp
  unfold ey rS at ps ⊢
  rw [hp, hb] at ps
  rw [hp, hb]
  generalize hy : x.pass Q = y at *
  refine ag Tryz.func82 rfl Tryz.ntmps82 rfl ?_
  rintro F ⟨dR, hq⟩
  refine bE ?_
  refine zt 8 ?_ (e := by rfl)
  refine bb ?_
  refine zt 12 ?_ (e := by exact congrArg (!·) (decide_eq_false (by omega)))
  refine cX ?_
  refine gK ?_ (e := by exact decide_eq_true rfl)
  refine bw ?_
  refine zl T.Ru (ps) (.cons .here .nil) (fun _ le _ => ⟨In.mono dR le, cu hq le⟩) ?_
  refine aB ?_
  refine jN [af a 177 [.pointer (some ⟨q, 0, none⟩), .pointer (some ⟨w, 0, none⟩), .int .i64 (n : Int), dv, tv, .int .i64 y.dn, .bool y.bg, .int .i64 (y.cl : Int), .int .i64 (y.kd : Int), .int .u64 (hO C y.nx : Int), .int .i64 (y.lf : Int)]] Tryz.results82 ?_
  exact ⟨rfl, rfl⟩
 have hx : x.left Q p = x := by unfold Cw.left; rw [if_neg hp]
 rw [hx]
 have fu : ¬ ((C.hd p : Int) = (hO C x.nx : Int)) := fun e => by
  rcases WH : x.nx with _ | r
  ·rw [WH] at e
   change (C.hd p : Int) = ((0 : Nat) : Int) at e
   omega
  have hr := (X.nx r WH).1
  rw [WH, bV] at e
  exact hp (by rw [WH, kU K (O.lv _ r hr).toAt L.toAt (by omega)])
 unfold ey rS
 rw [hb]
 refine ag Tryz.func82 rfl Tryz.ntmps82 rfl ?_
 rintro F ⟨dR, hq⟩
 refine bE ?_
 refine zt 8 ?_ (e := by rfl)
 refine bb ?_
 refine zt 12 ?_ (e := by exact congrArg (!·) (decide_eq_false (by omega)))
 refine cX ?_
 refine dq ?_ (e := by exact decide_eq_false fu)
 refine aD ?_
 refine jN [af a 177 [.pointer (some ⟨q, 0, none⟩), .pointer (some ⟨w, 0, none⟩), .int .i64 (n : Int), dv, tv, .int .i64 x.dn, .bool true, .int .i64 (x.cl : Int), .int .i64 (x.kd : Int), .int .u64 (hO C x.nx : Int), .int .i64 (x.lf : Int)]] Tryz.results82 ?_
 exact ⟨rfl, rfl⟩
open Go Go.cQ Go.Proofs.YtpgbeapapmdkcaaGreatDoor.Cs
namespace Cw
def Hl (n : Nat) (Q : List (List Nat)) : Nat → Cw → Bool × Cw
 | 0, x => (false, x)
 | f + 1, x =>
  if x.nx ≠ none then (true, x)
  else if 1 < x.kd then Hl n Q f (x.iw Q x.cl (x.kd - 1))
  else if x.cl + 1 < n then Hl n Q f (x.iw Q (x.cl + 1) 3)
  else (false, { x.again with dn := IntKind.i64.wrap (x.dn + 1) })
def ms (n : Nat) (x : Cw) : Nat := (n - x.cl) * 3 + x.kd
def start (Q : List (List Nat)) (x : Cw) : Cw := if x.bg then x else x.iw Q 0 3
def find (n : Nat) (Q : List (List Nat)) (x : Cw) : Bool × Cw := Hl n Q (3 * n + 4) (x.start Q)
theorem sE {n : Nat} {Q : List (List Nat)} : ∀ {f g : Nat} {x : Cw}, 1 ≤ x.kd → x.ms n < f → x.ms n < g → Hl n Q f x = Hl n Q g x
 | 0, _, _, _, h, _ => absurd h (Nat.not_lt_zero _)
 | _, 0, _, _, _, h => absurd h (Nat.not_lt_zero _)
 | f + 1, g + 1, x, hk, h1, h2 => by
  unfold Hl
  by_cases e1 : x.nx ≠ none
  ·rw [if_pos e1, if_pos e1]
  rw [if_neg e1, if_neg e1]
  unfold ms at h1 h2
  by_cases e2 : 1 < x.kd
  ·rw [if_pos e2, if_pos e2]
   exact sE (by show 1 ≤ x.kd - 1; omega) (by unfold ms iw; dsimp only; omega) (by unfold ms iw; dsimp only; omega)
  rw [if_neg e2, if_neg e2]
  by_cases e3 : x.cl + 1 < n
  ·rw [if_pos e3, if_pos e3]
   exact sE (by show 1 ≤ 3; omega) (by unfold ms iw; dsimp only; omega) (by unfold ms iw; dsimp only; omega)
  rw [if_neg e3, if_neg e3]
end Cw
theorem MC (a q w b qb : Nat) (dv tv : Value) (C : Cs) (K : Ok C) (Q : List (List Nat)) (O : gH C Q) (x : Cw) (X : ct C.ae.length Q x) :
  aL Tryz.prog 91 [.pointer (some ⟨a, 0, none⟩)] (fF (py q b qb C Q)) [ey a q w C.ae.length dv tv C x]
   (fun v H => ∃ r y, v = .bool r ∧ H = [ey a q w C.ae.length dv tv C y] ∧ x.find C.ae.length Q = (r, y) ∧ ct C.ae.length Q y ∧ (r = true → y.nx ≠ none)) := by
 have n0 := K.toFix.l0
 have n1 := K.toFix.l1
 have QJ : ct C.ae.length Q (x.start Q) ∧ (x.start Q).bg = true := by
  unfold Cw.start
  split
  ·next h => exact ⟨X, h⟩
  exact ⟨ct.iw K O (by omega) (by omega), rfl⟩
 have hR : x.find C.ae.length Q = Cw.Hl C.ae.length Q (3 * C.ae.length + 4) (x.start Q) := rfl
 generalize hr : x.find C.ae.length Q = R at *
 have hfu : ∀ f, (x.start Q).ms C.ae.length < f → Cw.Hl C.ae.length Q f (x.start Q) = R := fun f hf => by
  rw [hR]
  have h2 := QJ.1.go QJ.2
  exact Cw.sE h2.2.1 hf (by unfold Cw.ms; omega)
 have hlen : ∀ z : Cw, z.cl < C.ae.length → 1 ≤ z.kd → z.kd ≤ 3 → z.nx = none → z.ms C.ae.length ≤ 3 * C.ae.length + 3 := fun z h1 h2 h3 _ => by unfold Cw.ms; omega
 have iw := fun (z : Cw) (c k : Nat) (hc : c < C.ae.length) (hk : 1 ≤ k ∧ k ≤ 3) => MD a q w C.ae.length b qb dv tv C K Q O z c k hc hk
 have JP := fun (z : Cw) (c k : Nat) (hc : c < C.ae.length) (hk : 1 ≤ k ∧ k ≤ 3) => ct.iw K O (x := z) hc hk
 generalize hn : C.ae.length = n at *
 unfold ey rS at *
 refine ag Tryz.func91 rfl Tryz.ntmps91 rfl ?_
 intro F hq
 refine bP ?_
 refine cR (ι := Cw) [8, 9] (fun z => z = x.start Q) (fun z => []) (fun z => [af a 177 [.pointer (some ⟨q, 0, none⟩), .pointer (some ⟨w, 0, none⟩), .int .i64 (n : Int), dv, tv, .int .i64 z.dn, .bool z.bg, .int .i64 (z.cl : Int), .int .i64 (z.kd : Int), .int .u64 (hO C z.nx : Int), .int .i64 (z.lf : Int)]]) ?_ ?_
 ·refine au rfl ?_ ?_
  ·intro hb
   replace hb := aF hb
   refine bw ?_
   refine zl T.A7 (iw x 0 3 (by omega) (by omega)) (.cons .here .nil) (fun _ le _ => cu hq le) ?_
   refine aB ?_
   refine Me ((x.iw Q 0 3)) ((by unfold Cw.start; rw [if_neg (by simp [hb])]))
  intro hb
  replace hb := aF hb
  refine aD ?_
  refine Me (x) ((by unfold Cw.start; rw [if_pos hb]))
 rintro z hz
 subst hz
 generalize x.start Q = s0 at *
 refine bw ?_
 refine Lo (ι := Cw) [10, 11, 12, 13, 14, 25, 26, 27, 28, 29, 24, 30, 31, 32, 33, 34, 35, 36, 37, 38, 39, 40, 42, 43, 44, 45, 46, 47, 48, 49, 50, 51, 41, 52, 53, 54, 55, 56, 57, 58, 15, 16, 17, 18, 19, 20, 21, 22, 23, 2] (fun z => (ct n Q z ∧ z.bg = true) ∧ ∀ f, z.ms n < f → Cw.Hl n Q f z = R) (fun z => []) (fun z => [af a 177 [.pointer (some ⟨q, 0, none⟩), .pointer (some ⟨w, 0, none⟩), .int .i64 (n : Int), dv, tv, .int .i64 z.dn, .bool z.bg, .int .i64 (z.cl : Int), .int .i64 (z.kd : Int), .int .u64 (hO C z.nx : Int), .int .i64 (z.lf : Int)]]) (fun z => z.ms n) (s0) ⟨QJ, hfu⟩ ?_
 rintro z hI
 dsimp only at hI ⊢
 obtain ⟨⟨Z, zb⟩, hf⟩ := hI
 obtain ⟨g1, g2, g3⟩ := Z.go zb
 have Na := hf (z.ms n + 1) (Nat.lt_succ_self _)
 unfold Cw.Hl at Na
 rcases hz : z.nx with _ | p
 ·rw [hz, if_neg (by simp)] at Na
  refine cY ?_
  by_cases h1 : 1 < z.kd
  ·refine AS ?_
   refine bP ?_
   refine gK ?_
   refine jC 10 T.mix (.cons .here .nil) fun F1 kN cT aU => ?_
   obtain ⟨q1, _⟩ := cT
   refine bx ?_
   refine iC aU ?_
   have ek : ((z.kd : Int) - 1) = ((z.kd - 1 : Nat) : Int) := by omega
   rw [ek]
   refine Tp (oC T.A7 rfl rfl ((by have h := iw z z.cl (z.kd - 1) g1 (by omega); rw [hz] at h; exact h)) (.cons .here .nil) (fun _ le _ => cu hq le) ?_)
   rintro v H' ⟨rfl, rfl⟩
   refine bo ?_
   refine bL ?_
   refine Ro ((z.iw Q z.cl (z.kd - 1))) (⟨⟨JP z z.cl (z.kd - 1) g1 (by omega), rfl⟩, fun f hf2 => (by rw [if_pos h1] at Na; exact (Cw.sE (by show 1 ≤ z.kd - 1; omega) hf2 (by unfold Cw.ms Cw.iw; dsimp only; omega)).trans Na)⟩) ((by unfold Cw.ms Cw.iw; dsimp only; omega))
  refine AS ?_
  refine bP ?_
  refine dq ?_
  by_cases h2 : z.cl + 1 < n
  ·refine ay ?_
   refine jC 10 T.mix (.cons .here .nil) fun F2 D1 eO eP => ?_
   obtain ⟨q1, _⟩ := eO
   refine bx ?_
   refine iC eP ?_
   refine bw ?_
   refine gK ?_
   refine bO ?_
   refine zl T.A7 ((by have h := iw z (z.cl + 1) 3 h2 (by omega); rw [hz] at h; exact h)) (.cons .here .nil) (fun _ le _ => cu hq le) ?_
   refine bL ?_
   refine Ro ((z.iw Q (z.cl + 1) 3)) (⟨⟨JP z (z.cl + 1) 3 h2 (by omega), rfl⟩, fun f hf2 => (by rw [if_neg h1, if_pos h2] at Na; exact (Cw.sE (by show 1 ≤ 3; omega) hf2 (by unfold Cw.ms Cw.iw; dsimp only; omega)).trans Na)⟩) ((by unfold Cw.ms Cw.iw; dsimp only; omega))
  refine ay ?_
  refine jC 10 T.mix (.cons .here .nil) fun F3 R7 rX fW => ?_
  obtain ⟨q1, _⟩ := rX
  refine bx ?_
  refine iC fW ?_
  refine bw ?_
  refine dq ?_
  refine bw ?_
  refine zl T.Zy ((by have h := G5 a q w n dv tv C z; unfold ey rS at h; rw [hz] at h; exact h)) (.cons .here .nil) (fun _ _ _ => trivial) ?_
  unfold Cw.again
  refine ca ?_
  rw [if_neg h1, if_neg h2] at Na
  refine Rt [af a 177 [.pointer (some ⟨q, 0, none⟩), .pointer (some ⟨w, 0, none⟩), .int .i64 (n : Int), dv, tv, .int .i64 (IntKind.i64.wrap (z.dn + 1)), .bool false, .int .i64 0, .int .i64 0, .int .u64 0, .int .i64 0]] Tryz.results91 ?_
  refine ⟨false, { z.again with dn := IntKind.i64.wrap (z.dn + 1) }, rfl, rfl, Na.symm, ⟨(fun h => by cases h), fun _ => ⟨rfl, rfl, rfl, rfl⟩, (fun _ h => by cases h), Nat.zero_le _⟩, (fun h => by cases h)⟩
 rw [hz, if_pos (by simp)] at Na
 have hp := (Z.nx p hz).1
 obtain ⟨m1, m2, m3, m4, m5, m6⟩ := bM K (O.lv _ p hp).toAt
 rw [bV]
 refine cX ?_
 refine dq ?_
 refine cY ?_
 refine Rt [af a 177 [.pointer (some ⟨q, 0, none⟩), .pointer (some ⟨w, 0, none⟩), .int .i64 (n : Int), dv, tv, .int .i64 z.dn, .bool z.bg, .int .i64 (z.cl : Int), .int .i64 (z.kd : Int), .int .u64 (C.hd p : Int), .int .i64 (z.lf : Int)]] Tryz.results91 ?_
 exact ⟨true, z, rfl, by rw [hz, bV], Na.symm, Z, fun _ => by rw [hz]; simp⟩
end Go.Proofs.YtpgbeapapmdkcaaGreatDoor
