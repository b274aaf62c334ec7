/- Part Ph of the proof. -/
import Derived.Test.YtpgbeapapmdkcaaGreatDoorPd
import Derived.Test.YtpgbeapapmdkcaaGreatDoorPg
import Derived.LaidEqlPtr
set_option maxRecDepth 100000
namespace Go.Proofs.YtpgbeapapmdkcaaGreatDoor
open Go Go.cQ Go.Proofs.YtpgbeapapmdkcaaGreatDoor.Cs
def dD (C : Cs) (l : List Nat) : List Value := [.int .u64 (hO C l.head? : Int), .int .u64 (hO C l.getLast? : Int), .int .i64 (l.length : Int)]
theorem Py (C : Cs) : ∀ l, (dD C l).length = 3 := fun _ => rfl
def dy (b qb n : Nat) : List Value := [.pointer (some ⟨b, 0, none⟩), .slice (some ⟨qb, 0, none⟩) n n]
def py (q b qb : Nat) (C : Cs) (Q : List (List Nat)) : List aa := [af q 139 (dy b qb C.ae.length), af qb 327 (Q.flatMap (dD C))]
def qi (c s : Nat) : Nat := c * 3 + (s - 1)
theorem qf (s : Nat) (h : 1 ≤ s ∧ s ≤ 3) : aL Tryz.prog 225 [.int .i64 (s : Int)] (fun _ => True) [] (fun v H => v = .bool true ∧ H = []) := by
 refine ag Tryz.func225 rfl Tryz.ntmps225 rfl ?_
 intro F _
 refine bO ?_
 refine zt 5 ?_
 refine bE ?_
 refine Rt [] Tryz.results225 ?_
 exact ⟨by rw [decide_eq_true (by omega)], rfl⟩
theorem Fh (s : Nat) (h : ¬ (1 ≤ s ∧ s ≤ 3)) : aL Tryz.prog 225 [.int .i64 (s : Int)] (fun _ => True) [] (fun v H => v = .bool false ∧ H = []) := by
 refine ag Tryz.func225 rfl Tryz.ntmps225 rfl ?_
 intro F _
 refine bO ?_
 refine aJ (t := 5) rfl ?_ ?_
 ·intro h1
  replace h1 := aF h1
  refine bE ?_
  refine Rt [] Tryz.results225 ?_
  exact ⟨by rw [decide_eq_false (by omega)], rfl⟩
 intro h1
 replace h1 := aF h1
 refine bE ?_
 refine Rt [] Tryz.results225 ?_
 exact ⟨rfl, rfl⟩
theorem mm (q b qb n c s : Nat) (hc : c < n) (hn : n ≤ 62) (h : 1 ≤ s ∧ s ≤ 3) :
  aL Tryz.prog 223 [.pointer (some ⟨q, 0, none⟩), .int .i64 (c : Int), .int .i64 (s : Int)] (In (af q 139 (dy b qb n))) []
   (fun v H => v = .pointer (some ⟨qb, qi c s * 3, none⟩) ∧ H = []) := by
 unfold dy
 refine ag Tryz.func223 rfl Tryz.ntmps223 rfl ?_
 intro F hq
 refine cX ?_
 refine zf 9 ?_
 refine cY ?_
 refine zf 18 ?_
 refine aD ?_
 refine zl T.wG (qf s h) .nil (fun _ _ _ => trivial) ?_
 refine gg ?_
 refine aw (t := 29) (v' := (.int .i64 ((s - 1 : Nat) : Int))) rfl (by (congr 1; omega)) ?_
 refine aD ?_
 refine Li (Ia T.Wn) ?_
 refine bL ?_
 refine Rt [] Tryz.results223 ?_
 refine ⟨?_, rfl⟩
 unfold qi
 congr 3
 omega
def iR (A : By) (p : Nat) : Nat := rd A (p + 45) 1
def ql (Q : List (List Nat)) (i : Nat) : List Nat := Q.getD i []
def pv (l : List Nat) : Nat → Option Nat
 | 0 => none
 | k + 1 => l[k]?
structure gH (C : Cs) (Q : List (List Nat)) : Prop where
 len : Q.length = C.ae.length * 3
 lv : ∀ i, ∀ p ∈ ql Q i, Live C p
 it : ∀ i, ∀ p ∈ ql Q i, gk C p
 st : ∀ i, ∀ p ∈ ql Q i, 1 ≤ iR C.A p ∧ iR C.A p ≤ 3 ∧ i = qi (C.cl p) (iR C.A p)
 nd : ∀ i, (ql Q i).Nodup
 l1 : ∀ i k (h : k < (ql Q i).length), rd C.A ((ql Q i)[k] + 4) 4 = nO (pv (ql Q i) k)
 l2 : ∀ i k (h : k < (ql Q i).length), rd C.A ((ql Q i)[k] + 8) 4 = nO (ql Q i)[k + 1]?
theorem mF {C : Cs} {Q : List (List Nat)} {i j : Nat} {v : Value} (hi : i < Q.length) (hv : (dD C (ql Q i))[j]? = some v) : (Q.flatMap (dD C))[i * 3 + j]? = some v :=
 bc (Py C) (by unfold ql; rw [List.getD_eq_getElem?_getD, List.getElem?_eq_getElem hi]; rfl) hv
theorem lB {C : Cs} {Q : List (List Nat)} (O : gH C Q) {c s : Nat} (hc : c < C.ae.length) (h : 1 ≤ s ∧ s ≤ 3) : qi c s < Q.length := by
 rw [O.len]
 unfold qi
 omega
theorem KP (q b qb n c s : Nat) (hc : c < n) (hn : n ≤ 62) (h : ¬ (1 ≤ s ∧ s ≤ 3)) :
  aL Tryz.prog 223 [.pointer (some ⟨q, 0, none⟩), .int .i64 (c : Int), .int .i64 (s : Int)] (In (af q 139 (dy b qb n))) []
   (fun v H => v = .pointer none ∧ H = []) := by
 unfold dy
 refine ag Tryz.func223 rfl Tryz.ntmps223 rfl ?_
 intro F hq
 refine cX ?_
 refine zf 9 ?_
 refine cY ?_
 refine zf 18 ?_
 refine aD ?_
 refine zl T.wG (Fh s h) .nil (fun _ _ _ => trivial) ?_
 refine cY ?_
 refine Rt [] Tryz.results223 ?_
 exact ⟨rfl, rfl⟩
theorem tJ (q b qb : Nat) (C : Cs) (K : Ok C) (p : Nat) (L : Live C p) (hk : kl C.A p ≠ 0) (h : 1 ≤ iR C.A p ∧ iR C.A p ≤ 3) :
  aL Tryz.prog 163 [.pointer (some ⟨q, 0, none⟩), .int .u64 (C.hd p : Int)] (fun h => In (Cl b C) h ∧ In (af q 139 (dy b qb C.ae.length)) h) []
   (fun v H => v = .pointer (some ⟨qb, qi (C.cl p) (iR C.A p) * 3, none⟩) ∧ H = []) := by
 have hc := (L.toAt.bh K).1
 have hl := K.toFix.l1
 unfold iR at *
 refine ag Tryz.func163 rfl Tryz.ntmps163 rfl ?_
 rintro F ⟨dR, hq⟩
 have Hw := hq
 unfold dy at Hw
 refine cY ?_
 refine zl T.uQ (uU b C K p L) .nil (fun _ le _ => In.mono dR le) ?_
 refine ca ?_
 refine bw ?_
 refine zl T.Jy (vC b C K p L hk) .nil (fun _ le _ => In.mono dR le) ?_
 refine vW ?_
 refine zl T.pK (mm q b qb C.ae.length (C.cl p) (rd C.A (p + 45) 1) hc hl h) .nil (fun _ le _ => In.mono hq le) ?_
 refine bL ?_
 refine Rt [] Tryz.results163 ?_
 exact ⟨rfl, rfl⟩
theorem BH (q b qb : Nat) (C : Cs) (K : Ok C) (p : Nat) (L : Live C p) (hk : kl C.A p ≠ 0) (h : ¬ (1 ≤ iR C.A p ∧ iR C.A p ≤ 3)) :
  aL Tryz.prog 163 [.pointer (some ⟨q, 0, none⟩), .int .u64 (C.hd p : Int)] (fun h => In (Cl b C) h ∧ In (af q 139 (dy b qb C.ae.length)) h) []
   (fun v H => v = .pointer none ∧ H = []) := by
 have hc := (L.toAt.bh K).1
 have hl := K.toFix.l1
 unfold iR at *
 refine ag Tryz.func163 rfl Tryz.ntmps163 rfl ?_
 rintro F ⟨dR, hq⟩
 have Hw := hq
 unfold dy at Hw
 refine cY ?_
 refine zl T.uQ (uU b C K p L) .nil (fun _ le _ => In.mono dR le) ?_
 refine ca ?_
 refine bw ?_
 refine zl T.Jy (vC b C K p L hk) .nil (fun _ le _ => In.mono dR le) ?_
 refine vW ?_
 refine zl T.pK (KP q b qb C.ae.length (C.cl p) (rd C.A (p + 45) 1) hc hl h) .nil (fun _ le _ => In.mono hq le) ?_
 refine bL ?_
 refine Rt [] Tryz.results163 ?_
 exact ⟨rfl, rfl⟩
theorem rq (q b qb : Nat) (C : Cs) (K : Ok C) (Q : List (List Nat)) (O : gH C Q) (c s : Nat) (hc : c < C.ae.length) (h : 1 ≤ s ∧ s ≤ 3) :
  aL Tryz.prog 210 [.pointer (some ⟨q, 0, none⟩), .int .i64 (c : Int), .int .i64 (s : Int)] (fF (py q b qb C Q)) []
   (fun v H => v = .int .i64 ((ql Q (qi c s)).length : Int) ∧ H = []) := by
 have hl := K.toFix.l1
 have k2 := mF (C := C) (Q := Q) (j := 2) (lB O hc h) rfl
 refine ag Tryz.func210 rfl Tryz.ntmps210 rfl ?_
 rintro F ⟨hq, hb, _⟩
 refine bO ?_
 refine zl T.pK (mm q b qb C.ae.length c s hc hl h) .nil (fun _ le _ => In.mono hq le) ?_
 refine vW ?_
 refine Rt [] Tryz.results210 ?_
 exact ⟨rfl, rfl⟩
theorem sU (q b qb : Nat) (C : Cs) (K : Ok C) (Q : List (List Nat)) (O : gH C Q) (c s : Nat) (hc : c < C.ae.length) (h : 1 ≤ s ∧ s ≤ 3) :
  aL Tryz.prog 195 [.pointer (some ⟨q, 0, none⟩), .int .i64 (c : Int), .int .i64 (s : Int)] (fF (py q b qb C Q)) []
   (fun v H => v = .tuple #[.int .u64 (hO C (ql Q (qi c s)).getLast? : Int), .bool (ql Q (qi c s)).getLast?.isSome] ∧ H = []) := by
 have hl := K.toFix.l1
 have k1 := mF (C := C) (Q := Q) (j := 1) (lB O hc h) rfl
 have k2 := mF (C := C) (Q := Q) (j := 2) (lB O hc h) rfl
 rcases hz : ql Q (qi c s) with _ | ⟨a, l⟩
 ·rw [hz] at k1 k2
  refine ag Tryz.func195 rfl Tryz.ntmps195 rfl ?_
  rintro F ⟨hq, hb, _⟩
  refine cX ?_
  refine zl T.pK (mm q b qb C.ae.length c s hc hl h) .nil (fun _ le _ => In.mono hq le) ?_
  refine bO ?_
  refine zf 15 ?_ (e := by rfl)
  refine gg ?_
  refine gn [] Tryz.results195 ?_
  exact ⟨rfl, rfl⟩
 rw [hz] at k1 k2
 refine ag Tryz.func195 rfl Tryz.ntmps195 rfl ?_
 rintro F ⟨hq, hb, _⟩
 refine cX ?_
 refine zl T.pK (mm q b qb C.ae.length c s hc hl h) .nil (fun _ le _ => In.mono hq le) ?_
 refine bO ?_
 refine zf 15 ?_ (e := by rfl)
 refine bO ?_
 refine dq ?_ (e := by exact decide_eq_false (by rw [List.length_cons]; omega))
 refine bP ?_
 refine gn [] Tryz.results195 ?_
 exact ⟨by rw [List.getLast?_cons]; rfl, rfl⟩
def KlO (C : Cs) (o : Option Nat) : Prop := ∀ q, o = some q → kl C.A q ≠ 0
def uz (A : By) (o1 o2 : Option Nat) : By :=
 let B := match o1 with | none => A | some a => wr A (a + 4 * 2) 4 (nO o2)
 match o2 with | none => B | some e => wr B (e + 4 * 1) 4 (nO o1)
def ny (C : Cs) (cs : List Value) (i : Nat) (o1 o2 : Option Nat) : List Value :=
 let ds := match o1 with | none => cs.set (i * 3 + 0) (.int .u64 (hO C o2 : Int)) | some _ => cs
 match o2 with | none => ds.set (i * 3 + 1) (.int .u64 (hO C o1 : Int)) | some _ => ds
theorem sV (q b qb n : Nat) (C : Cs) (K : Ok C) (cs : List Value) (i : Nat) (hi : i * 3 + 2 < cs.length) (o1 o2 : Option Nat) (L1 : cq C o1) (L2 : cq C o2) (k1 : KlO C o1) (k2 : KlO C o2) (it : ∀ p, o2 = some p → gk C p) :
  aL Tryz.prog 226 [.pointer (some ⟨q, 0, none⟩), .pointer (some ⟨qb, i * 3, none⟩), .int .u64 (hO C o1 : Int), .int .u64 (hO C o2 : Int)] (fun _ => True) [Cl b C, af q 139 (dy b qb n), af qb 327 cs]
   (fun v H => v = .tuple #[] ∧ H = [Cl b (C.wA (uz C.A o1 o2)), af q 139 (dy b qb n), af qb 327 (ny C cs i o1 o2)]) := by
 rcases o1 with _ | a <;> rcases o2 with _ | e
 ·unfold dy uz ny
  refine ag Tryz.func226 rfl Tryz.ntmps226 rfl ?_
  intro F _
  refine ca ?_
  refine bb ?_
  refine aB ?_
  refine jN [Cl b C, af q 139 (dy b qb n), af qb 327 ((cs.set (i * 3 + 0) (.int .u64 (0 : Int))).set (i * 3 + 1) (.int .u64 (0 : Int)))] Tryz.results226 ?_
  exact ⟨rfl, rfl⟩
 ·have M := L2 e rfl
  obtain ⟨m1, m2, m3, m4, m5, m6⟩ := bM K M.toAt
  unfold dy uz ny
  rw [bV]
  refine ag Tryz.func226 rfl Tryz.ntmps226 rfl ?_
  intro F _
  refine mV ?_
  refine dq ?_
  refine bO ?_
  refine zl T.jg (cN b C K e 1 none M (k2 e rfl) (by omega) L1) (.cons .here .nil) (fun _ _ _ => trivial) ?_
  refine aB ?_
  refine jN [Cl b (C.wA (wr C.A (e + 4 * 1) 4 (nO none))), af q 139 (dy b qb n), af qb 327 (cs.set (i * 3 + 0) (.int .u64 (C.hd e : Int)))] Tryz.results226 ?_
  exact ⟨rfl, rfl⟩
 ·have M := L1 a rfl
  obtain ⟨m1, m2, m3, m4, m5, m6⟩ := bM K M.toAt
  unfold dy uz ny
  rw [bV]
  refine ag Tryz.func226 rfl Tryz.ntmps226 rfl ?_
  intro F _
  refine bq ?_
  refine dq ?_
  refine bO ?_
  refine zl T.jg (cN b C K a 2 none M (k1 a rfl) (by omega) L2) (.cons .here .nil) (fun _ _ _ => trivial) ?_
  refine ed ?_
  refine aB ?_
  refine jN [Cl b (C.wA (wr C.A (a + 4 * 2) 4 (nO none))), af q 139 (dy b qb n), af qb 327 (cs.set (i * 3 + 1) (.int .u64 (C.hd a : Int)))] Tryz.results226 ?_
  exact ⟨rfl, rfl⟩
 have M := L1 a rfl
 have N := L2 e rfl
 obtain ⟨m1, m2, m3, m4, m5, m6⟩ := bM K M.toAt
 obtain ⟨u1, u2, u3, u4, u5, u6⟩ := bM K N.toAt
 have kp := rC K N.toAt M.toAt (it e rfl) (a := 4 * 2) (n := 4) (v := nO (some e)) (by omega)
 unfold dy uz ny
 rw [bV, bV]
 refine ag Tryz.func226 rfl Tryz.ntmps226 rfl ?_
 intro F _
 refine bq ?_
 refine dq ?_
 refine bO ?_
 refine zl T.jg (cN b C K a 2 (some e) M (k1 a rfl) (by omega) L2) (.cons .here .nil) (fun _ _ _ => trivial) ?_
 refine bq ?_
 refine dq ?_
 refine bO ?_
 refine zl T.jg (cN b (C.wA (wr C.A (a + 4 * 2) 4 (nO (some e)))) (K.wA _) e 1 (some a) (N.wA _) (fun h => k2 e rfl (by rw [← kp.kl]; exact h)) (by omega) (fun q hq => (L1 q hq).wA _)) (.cons .here .nil) (fun _ _ _ => trivial) ?_
 refine aB ?_
 refine jN [Cl b ((C.wA (wr C.A (a + 4 * 2) 4 (nO (some e)))).wA (wr (wr C.A (a + 4 * 2) 4 (nO (some e))) (e + 4 * 1) 4 (nO (some a)))), af q 139 (dy b qb n), af qb 327 cs] Tryz.results226 ?_
 exact ⟨rfl, rfl⟩
theorem PO {C : Cs} (K : Ok C) {p q : Nat} (L : At C p) (M : At C q) (I : gk C p) (v : Nat) : Kept C (wr C.A (q + 45) 1 v) p := by
 have n1 := (L.bh K).2.1
 have m1 := (M.bh K).2.1
 have hf := I.fits
 have r := fun (o w : Nat) (h1 : o + w ≤ 45 ∨ 46 ≤ o) (h2 : o + w ≤ C.sz (C.cl p)) => jc K L M (a := 45) (n := 1) (v := v) (o := o) (w := w) (by omega) h2 (fun _ => by omega)
 have e1 : kl (wr C.A (q + 45) 1 v) p = kl C.A p := r 44 1 (by omega) (by omega)
 have e2 : vl (wr C.A (q + 45) 1 v) p = vl C.A p := r 48 4 (by omega) (by omega)
 refine ⟨e1, e2, ?_, fun J => ⟨?_, ?_, ?_, ?_⟩⟩
 ·unfold aI
  rw [e1]
  exact C0 K L M (by omega) (by omega) (fun _ => by omega)
 ·rw [cP, e1]; exact J.k0
 ·rw [cP, e1, e2]; exact J.fits
 ·rw [cP, r 16 8 (by omega) (by omega)]; exact J.exp
 rw [cP, r 24 8 (by omega) (by omega)]; exact J.tch
def gr (C : Cs) (o : Option Nat) : Prop := ∀ q, o = some q → Live C q ∧ gk C q
theorem gr.lv {C : Cs} {o : Option Nat} (h : gr C o) : cq C o := fun q e => (h q e).1
theorem gr.kl {C : Cs} {o : Option Nat} (h : gr C o) : KlO C o := fun q e => (h q e).2.k0
theorem gr.link {C : Cs} (K : Ok C) {o : Option Nat} (h : gr C o) {p : Nat} (M : Live C p) {a n v : Nat} (ha : a + n ≤ 12) : gr (C.wA (wr C.A (p + a) n v)) o :=
 fun q e => ⟨(h q e).1.wA _, (rC K (h q e).1.toAt M.toAt (h q e).2 ha).it (h q e).2⟩
theorem gr.state {C : Cs} (K : Ok C) {o : Option Nat} (h : gr C o) {p : Nat} (M : Live C p) (v : Nat) : gr (C.wA (wr C.A (p + 45) 1 v)) o :=
 fun q e => ⟨(h q e).1.wA _, (PO K (h q e).1.toAt M.toAt (h q e).2 v).it (h q e).2⟩
theorem gr.join {C : Cs} (K : Ok C) {o : Option Nat} (h : gr C o) {o1 o2 : Option Nat} (h1 : gr C o1) (h2 : gr C o2) : gr (C.wA (uz C.A o1 o2)) o := by
 rcases o1 with _ | a <;> rcases o2 with _ | e
 ·exact h
 ·exact h.link K (h2 e rfl).1 (a := 4 * 1) (by omega)
 ·exact h.link K (h1 a rfl).1 (a := 4 * 2) (by omega)
 have g := h.link K (h1 a rfl).1 (a := 4 * 2) (n := 4) (v := nO (some e)) (by omega)
 exact g.link (K.wA _) ((h2 e rfl).1.wA _) (a := 4 * 1) (by omega)
def iV (A : By) (p s : Nat) (o1 o2 : Option Nat) : By := wr (wr (wr A (p + 4 * 1) 4 (nO o1)) (p + 4 * 2) 4 (nO o2)) (p + 45) 1 s
def jE (A : By) (p s : Nat) (o1 o2 : Option Nat) : By := uz (uz (iV A p s o1 o2) o1 (some p)) (some p) o2
theorem OJ (q b qb n m : Nat) (C : Cs) (K : Ok C) (cs : List Value) (i : Nat) (hi : i * 3 + 2 < cs.length) (p s : Nat) (hs : 1 ≤ s ∧ s ≤ 3) (o1 o2 : Option Nat) (hp : gr C (some p)) (h1 : gr C o1) (h2 : gr C o2)
  (hn : (ny C (ny C cs i o1 (some p)) i (some p) o2)[i * 3 + 2]? = some (.int .i64 (m : Int))) (hl : (ny C (ny C cs i o1 (some p)) i (some p) o2).length = cs.length) (hl1 : (ny C cs i o1 (some p)).length = cs.length) (hm : m ≤ 1073741824) :
  aL Tryz.prog 167 [.pointer (some ⟨q, 0, none⟩), .pointer (some ⟨qb, i * 3, none⟩), .int .u64 (C.hd p : Int), .int .i64 (s : Int), .int .u64 (hO C o1 : Int), .int .u64 (hO C o2 : Int)] (fun _ => True) [Cl b C, af q 139 (dy b qb n), af qb 327 cs]
   (fun v H => v = .tuple #[] ∧ H = [Cl b (C.wA (jE C.A p s o1 o2)), af q 139 (dy b qb n), af qb 327 ((ny C (ny C cs i o1 (some p)) i (some p) o2).set (i * 3 + 2) (.int .i64 ((m + 1 : Nat) : Int)))]) := by
 have L := (hp p rfl).1
 have k0 := hp.kl p rfl
 have g1 := hp.link K L (a := 4 * 1) (n := 4) (v := nO o1) (by omega)
 have a1 := h1.link K L (a := 4 * 1) (n := 4) (v := nO o1) (by omega)
 have b1 := h2.link K L (a := 4 * 1) (n := 4) (v := nO o1) (by omega)
 have K1 := K.wA (wr C.A (p + 4 * 1) 4 (nO o1))
 have g2 := g1.link K1 (g1 p rfl).1 (a := 4 * 2) (n := 4) (v := nO o2) (by omega)
 have a2 := a1.link K1 (g1 p rfl).1 (a := 4 * 2) (n := 4) (v := nO o2) (by omega)
 have b2 := b1.link K1 (g1 p rfl).1 (a := 4 * 2) (n := 4) (v := nO o2) (by omega)
 have K2 := K.wA (wr (wr C.A (p + 4 * 1) 4 (nO o1)) (p + 4 * 2) 4 (nO o2))
 have g3 := g2.state K2 (g2 p rfl).1 s
 have a3 := a2.state K2 (g2 p rfl).1 s
 have b3 := b2.state K2 (g2 p rfl).1 s
 have K3 := K.wA (iV C.A p s o1 o2)
 have g4 := g3.join K3 a3 g3
 have b4 := b3.join K3 a3 g3
 have K4 := K.wA (uz (iV C.A p s o1 o2) o1 (some p))
 have j1 := sV q b qb n (C.wA (iV C.A p s o1 o2)) K3 cs i hi o1 (some p) a3.lv g3.lv a3.kl g3.kl (fun u hu => (g3 u hu).2)
 have j2 := sV q b qb n (C.wA (uz (iV C.A p s o1 o2) o1 (some p))) K4 (ny C cs i o1 (some p)) i (by rw [hl1]; exact hi) (some p) o2 g4.lv b4.lv g4.kl b4.kl (fun u hu => (b4 u hu).2)
 unfold dy at *
 refine ag Tryz.func167 rfl Tryz.ntmps167 rfl ?_
 intro F _
 refine bO ?_
 refine zl T.jg (cN b C K p 1 o1 L k0 (by omega) h1.lv) (.cons .here .nil) (fun _ _ _ => trivial) ?_
 refine cX ?_
 refine zl T.jg (cN b (C.wA (wr C.A (p + 4 * 1) 4 (nO o1))) K1 p 2 o2 (g1 p rfl).1 (g1.kl p rfl) (by omega) b1.lv) (.cons .here .nil) (fun _ _ _ => trivial) ?_
 refine cX ?_
 refine zl T.Jh (o9 b (C.wA (wr (wr C.A (p + 4 * 1) 4 (nO o1)) (p + 4 * 2) 4 (nO o2))) K2 p s ⟨hs.1, by omega⟩ (g2 p rfl).1 (g2.kl p rfl)) (.cons .here .nil) (fun _ _ _ => trivial) ?_
 refine bE ?_
 refine zl T.AU (j1) (.cons .here (.cons .here (.cons .here .nil))) (fun _ _ _ => trivial) ?_
 refine bE ?_
 refine zl T.AU (j2) (.cons .here (.cons .here (.cons .here .nil))) (fun _ _ _ => trivial) ?_
 refine Hh (H' := [Cl b (C.wA (jE C.A p s o1 o2)), af q 139 [.pointer (some ⟨b, 0, none⟩), .slice (some ⟨qb, 0, none⟩) n n], af qb 327 (ny C (ny C cs i o1 (some p)) i (some p) o2)]) ?_
 generalize ny C (ny C cs i o1 (some p)) i (some p) o2 = ds at hn hl ⊢
 have Hj : i * 3 + 2 < ds.length := by rw [hl]; exact hi
 refine bx ?_
 refine aB ?_
 refine jN [Cl b (C.wA (jE C.A p s o1 o2)), af q 139 [.pointer (some ⟨b, 0, none⟩), .slice (some ⟨qb, 0, none⟩) n n], af qb 327 (ds.set (i * 3 + 2) (.int .i64 ((m : Int) + 1)))] Tryz.results167 ?_
 exact ⟨rfl, rfl⟩
structure T3 where
 a : Value
 b : Value
 c : Value
def t3 (x : T3) : List Value := [x.a, x.b, x.c]
theorem sy : ∀ x, (t3 x).length = 3 := fun _ => rfl
def DZ (C : Cs) (l : List Nat) : T3 := ⟨.int .u64 (hO C l.head? : Int), .int .u64 (hO C l.getLast? : Int), .int .i64 (l.length : Int)⟩
theorem yi (C : Cs) (Q : List (List Nat)) : Q.flatMap (dD C) = (Q.map (DZ C)).flatMap t3 := by
 rw [List.flatMap_map]; rfl
def Wy (C : Cs) (x : T3) (o1 o2 : Option Nat) : T3 :=
 let y : T3 := match o1 with | none => { x with a := .int .u64 (hO C o2 : Int) } | some _ => x
 match o2 with | none => { y with b := .int .u64 (hO C o1 : Int) } | some _ => y
theorem H3 (C : Cs) (R : List T3) (i : Nat) (x : T3) (h : R[i]? = some x) (o1 o2 : Option Nat) : ny C (R.flatMap t3) i o1 o2 = (R.set i (Wy C x o1 o2)).flatMap t3 := by
 have hi := (List.getElem?_eq_some_iff.1 h).1
 have s0 : ∀ (S : List T3) (y : T3) (v : Value), S[i]? = some y → (S.flatMap t3).set (i * 3 + 0) v = (S.set i { y with a := v }).flatMap t3 := fun S y v hs => cg sy hs rfl (by decide)
 have s1 : ∀ (S : List T3) (y : T3) (v : Value), S[i]? = some y → (S.flatMap t3).set (i * 3 + 1) v = (S.set i { y with b := v }).flatMap t3 := fun S y v hs => cg sy hs rfl (by decide)
 have same : R.set i x = R := by
  obtain ⟨h1, h2⟩ := List.getElem?_eq_some_iff.1 h
  rw [← h2, List.set_getElem_self]
 rcases o1 with _ | a <;> rcases o2 with _ | e
 ·unfold ny Wy
  show ((R.flatMap t3).set (i * 3 + 0) _).set (i * 3 + 1) _ = _
  rw [s0 R x _ h, s1 _ _ _ (List.getElem?_set_self hi), List.set_set]
 ·exact s0 R x _ h
 ·exact s1 R x _ h
 unfold ny Wy
 show R.flatMap t3 = (R.set i x).flatMap t3
 rw [same]
theorem qG : ∀ (l : List Nat) (k p : Nat) (_ : k ≤ l.length), (l.insertIdx k p).getLast? = if k = l.length then some p else l.getLast?
 | [], 0, p, _ => rfl
 | a :: l, 0, p, _ => by
  rw [List.insertIdx_zero, List.getLast?_cons_cons, if_neg (by simp)]
 | a :: l, k + 1, p, h => by
  rw [List.insertIdx_succ_cons, List.getLast?_cons, qG l k p (by simpa using h), List.length_cons, List.getLast?_cons]
  by_cases e : k = l.length
  ·rw [if_pos e, if_pos (by omega)]; rfl
  rw [if_neg e, if_neg (by omega)]
theorem LJ (l : List Nat) (k p : Nat) (h : k ≤ l.length) : (l.insertIdx k p).head? = if k = 0 then some p else l.head? := by
 rcases k with _ | k
 ·simp
 rcases l with _ | ⟨a, l⟩
 ·simp at h
 simp
theorem UK (C : Cs) (l : List Nat) (k p : Nat) (h : k ≤ l.length) : { Wy C (Wy C (DZ C l) (pv l k) (some p)) (some p) l[k]? with c := .int .i64 ((l.length + 1 : Nat) : Int) } = DZ C (l.insertIdx k p) := by
 unfold DZ
 rw [LJ l k p h, qG l k p h, List.length_insertIdx_of_le_length h]
 rcases k with _ | k
 ·by_cases e : 0 < l.length
  ·rw [List.getElem?_eq_getElem e, if_pos rfl, if_neg (by omega)]; rfl
  rw [List.getElem?_eq_none (by omega), if_pos rfl, if_pos (by omega)]; rfl
 have e1 : pv l (k + 1) = some l[k] := List.getElem?_eq_getElem (by omega)
 by_cases e : k + 1 < l.length
 ·rw [e1, List.getElem?_eq_getElem e, if_neg (by omega), if_neg (by omega)]; rfl
 rw [e1, List.getElem?_eq_none (by omega), if_neg (by omega), if_pos (by omega)]; rfl
theorem Fe (C : Cs) (Q : List (List Nat)) (i k p : Nat) (hi : i < Q.length) (h : k ≤ (ql Q i).length) :
  (ny C (ny C (Q.flatMap (dD C)) i (pv (ql Q i) k) (some p)) i (some p) (ql Q i)[k]?).set (i * 3 + 2) (.int .i64 (((ql Q i).length + 1 : Nat) : Int)) = (Q.set i ((ql Q i).insertIdx k p)).flatMap (dD C) := by
 have hq : (Q.map (DZ C))[i]? = some (DZ C (ql Q i)) := by
  unfold ql
  rw [List.getElem?_map, List.getD_eq_getElem?_getD, List.getElem?_eq_getElem hi]; rfl
 have Hj : i < (Q.map (DZ C)).length := by simpa using hi
 have s2 : ∀ (S : List T3) (y : T3) (v : Value), S[i]? = some y → (S.flatMap t3).set (i * 3 + 2) v = (S.set i { y with c := v }).flatMap t3 := fun S y v hs => cg sy hs rfl (by decide)
 rw [yi, yi, H3 C _ i _ hq, H3 C _ i _ (List.getElem?_set_self Hj), List.set_set, s2 _ _ _ (List.getElem?_set_self Hj), List.set_set, UK C _ k p h, List.map_set]
theorem KL (q b qb : Nat) (C : Cs) (K : Ok C) (p j : Nat) (hj : j = 1 ∨ j = 2) (o : Option Nat) (L : Live C p) (hk : kl C.A p ≠ 0) (h : 1 ≤ iR C.A p ∧ iR C.A p ≤ 3) (ho : cq C o) (hn : rd C.A (p + 4 * j) 4 = nO o) :
  aL Tryz.prog 211 [.pointer (some ⟨q, 0, none⟩), .int .u64 (C.hd p : Int), .int .i64 (j : Int)] (fun h => In (Cl b C) h ∧ In (af q 139 (dy b qb C.ae.length)) h) []
   (fun v H => v = .tuple #[.int .u64 (hO C o : Int), .bool o.isSome] ∧ H = []) := by
 refine ag Tryz.func211 rfl Tryz.ntmps211 rfl ?_
 rintro F ⟨dR, hq⟩
 have Hw := hq
 unfold dy at Hw
 refine cX ?_
 refine zl T.AY (tJ q b qb C K p L hk h) .nil (fun _ le _ => ⟨In.mono dR le, In.mono hq le⟩) ?_
 refine ed ?_
 refine zl T.wL (oY b C K p j o L hk (by omega) ho hn) .nil (fun _ le _ => In.mono dR le) ?_
 rcases o with _ | e
 ·refine Li Mv ?_
  refine bx ?_
  refine zf 26 ?_ (e := by rfl)
  refine bP ?_
  refine gn [] Tryz.results211 ?_
  exact ⟨rfl, rfl⟩
 obtain ⟨m1, m2, m3, m4, m5, m6⟩ := bM K (ho e rfl).toAt
 rw [bV]
 refine bP ?_
 refine zf 26 ?_ (e := by rfl)
 refine bb ?_
 refine dq ?_
 refine cX ?_
 refine gn [] Tryz.results211 ?_
 exact ⟨rfl, rfl⟩
theorem EZ (q b qb : Nat) (C : Cs) (K : Ok C) (Q : List (List Nat)) (O : gH C Q) (i k : Nat) (hk : k < (ql Q i).length) :
  aL Tryz.prog 146 [.pointer (some ⟨q, 0, none⟩), .int .u64 (C.hd (ql Q i)[k] : Int)] (fun h => In (Cl b C) h ∧ In (af q 139 (dy b qb C.ae.length)) h) []
   (fun v H => v = .tuple #[.int .u64 (hO C (pv (ql Q i) k) : Int), .bool (pv (ql Q i) k).isSome] ∧ H = []) := by
 have hp := List.getElem_mem hk
 have s := O.st i _ hp
 have ho : cq C (pv (ql Q i) k) := fun u hu => by
  rcases k with _ | k
  ·cases hu
  exact O.lv i u (List.mem_of_getElem? hu)
 refine ag Tryz.func146 rfl Tryz.ntmps146 rfl ?_
 rintro F ⟨dR, hq⟩
 refine bO ?_
 refine zl T.Vd (KL q b qb C K (ql Q i)[k] 1 (.inl rfl) (pv (ql Q i) k) (O.lv i _ hp) (O.it i _ hp).k0 ⟨s.1, s.2.1⟩ ho (O.l1 i k hk)) .nil (fun _ le _ => ⟨In.mono dR le, In.mono hq le⟩) ?_
 refine bE ?_
 refine gn [] Tryz.results146 ?_
 exact ⟨rfl, rfl⟩
theorem KQ (q b qb : Nat) (C : Cs) (K : Ok C) (p s : Nat) (hs : 1 ≤ s ∧ s ≤ 3) (L : Live C p) (hk : kl C.A p ≠ 0) (h : ¬ (1 ≤ iR C.A p ∧ iR C.A p ≤ 3)) :
  aL Tryz.prog 165 [.pointer (some ⟨q, 0, none⟩), .int .u64 (C.hd p : Int), .int .i64 (s : Int)] (fun h => In (Cl b C) h ∧ In (af q 139 (dy b qb C.ae.length)) h) []
   (fun v H => v = .tuple #[.pointer (some ⟨qb, qi (C.cl p) s * 3, none⟩), .int .i64 0] ∧ H = []) := by
 have hc := (L.toAt.bh K).1
 have hl := K.toFix.l1
 refine ag Tryz.func165 rfl Tryz.ntmps165 rfl ?_
 rintro F ⟨dR, hq⟩
 have Hw := hq
 unfold dy at Hw
 refine bO ?_
 refine zl T.wG (qf s hs) .nil (fun _ _ _ => trivial) ?_
 refine bP ?_
 refine zl T.Jl (qF b C K p L hk) .nil (fun _ le _ => In.mono dR le) ?_
 refine gh ?_
 refine zf 28 ?_ (e := by rfl)
 refine bb ?_
 refine dq ?_
 refine bE ?_
 refine zl T.AY (BH q b qb C K p L hk h) .nil (fun _ le _ => ⟨In.mono dR le, In.mono hq le⟩) ?_
 refine bP ?_
 refine zl T.uQ (uU b C K p L) .nil (fun _ le _ => In.mono dR le) ?_
 refine ca ?_
 refine zl T.pK (mm q b qb C.ae.length (C.cl p) s hc hl hs) .nil (fun _ le _ => In.mono hq le) ?_
 refine bb ?_
 refine gn [] Tryz.results165 ?_
 exact ⟨rfl, rfl⟩
theorem rp {C : Cs} (K : Ok C) {x q : Nat} (L : At C x) (M : At C q) (A : By) {i j v : Nat} (hi : i ≤ 2) (hj : j ≤ 2) (hv : v < 4294967296) : rd (wr A (q + 4 * j) 4 v) (x + 4 * i) 4 = if x = q ∧ i = j then v else rd A (x + 4 * i) 4 := by
 have n1 := (L.bh K).2.1
 have m1 := (M.bh K).2.1
 split
 ·next h =>
  obtain ⟨rfl, rfl⟩ := h
  rw [cI]
  exact Nat.mod_eq_of_lt hv
 next h => exact jc (C := C.wA A) (K.wA A) (L.wA A) (M.wA A) (a := 4 * j) (n := 4) (o := 4 * i) (w := 4) (by show _ ≤ C.sz (C.cl q); omega) (by show _ ≤ C.sz (C.cl x); omega) (fun e => by
  have : i ≠ j := fun g => h ⟨e, g⟩
  omega)
theorem oU {C : Cs} (K : Ok C) {x q : Nat} (L : At C x) (M : At C q) (A : By) {i v : Nat} (hi : i ≤ 2) : rd (wr A (q + 45) 1 v) (x + 4 * i) 4 = rd A (x + 4 * i) 4 := by
 have n1 := (L.bh K).2.1
 have m1 := (M.bh K).2.1
 exact jc (C := C.wA A) (K.wA A) (L.wA A) (M.wA A) (a := 45) (n := 1) (o := 4 * i) (w := 4) (by show _ ≤ C.sz (C.cl q); omega) (by show _ ≤ C.sz (C.cl x); omega) (fun _ => by omega)
theorem CW {C : Cs} (K : Ok C) {x q : Nat} (L : At C x) (M : At C q) (A : By) {j v : Nat} (hj : j ≤ 2) : iR (wr A (q + 4 * j) 4 v) x = iR A x := by
 have n1 := (L.bh K).2.1
 have m1 := (M.bh K).2.1
 exact jc (C := C.wA A) (K.wA A) (L.wA A) (M.wA A) (a := 4 * j) (n := 4) (o := 45) (w := 1) (by show _ ≤ C.sz (C.cl q); omega) (by show _ ≤ C.sz (C.cl x); omega) (fun _ => by omega)
theorem QX {C : Cs} (K : Ok C) {x q : Nat} (L : At C x) (M : At C q) (A : By) {v : Nat} (hv : v < 256) : iR (wr A (q + 45) 1 v) x = if x = q then v else iR A x := by
 have n1 := (L.bh K).2.1
 have m1 := (M.bh K).2.1
 split
 ·next h =>
  subst h
  unfold iR
  rw [cI]
  exact Nat.mod_eq_of_lt (by rw [Nat.pow_one]; exact hv)
 next h => exact jc (C := C.wA A) (K.wA A) (L.wA A) (M.wA A) (a := 45) (n := 1) (o := 45) (w := 1) (by show _ ≤ C.sz (C.cl q); omega) (by show _ ≤ C.sz (C.cl x); omega) (fun e => absurd e h)
theorem sZ (A : By) (p s : Nat) (o1 o2 : Option Nat) : jE A p s o1 o2 =
  (match o2 with
   | none => wr (wr (match o1 with | none => iV A p s o1 o2 | some a => wr (iV A p s o1 o2) (a + 4 * 2) 4 (nO (some p))) (p + 4 * 1) 4 (nO o1)) (p + 4 * 2) 4 (nO o2)
   | some e => wr (wr (wr (match o1 with | none => iV A p s o1 o2 | some a => wr (iV A p s o1 o2) (a + 4 * 2) 4 (nO (some p))) (p + 4 * 1) 4 (nO o1)) (p + 4 * 2) 4 (nO o2)) (e + 4 * 1) 4 (nO (some p))) := by
 rcases o1 with _ | a <;> rcases o2 with _ | e <;> rfl
theorem UO {C : Cs} (K : Ok C) {x p s : Nat} {o1 o2 : Option Nat} (X : Live C x) (P : Live C p) (L1 : cq C o1) (L2 : cq C o2) (d2 : o2 ≠ some p) :
  rd (jE C.A p s o1 o2) (x + 4 * 1) 4 = if x = p then nO o1 else if o2 = some x then nO (some p) else rd C.A (x + 4 * 1) 4 := by
 have b1 := lD K L1
 have b2 := lD K L2
 have bp := lD K (o := some p) (fun q hq => by cases hq; exact P)
 have l := fun (q : Nat) (M : Live C q) (A : By) (j v : Nat) (hj : j ≤ 2) (hv : v < 4294967296) => rp K X.toAt M.toAt A (i := 1) (j := j) (v := v) (by omega) hj hv
 have z := fun (A : By) => oU K X.toAt P.toAt A (i := 1) (v := s) (by omega)
 rw [sZ]
 rcases o1 with _ | a <;> rcases o2 with _ | e <;> dsimp only <;> unfold iV
 ·rw [l p P _ 2 _ (by omega) b2, l p P _ 1 _ (by omega) b1, z, l p P _ 2 _ (by omega) b2, l p P _ 1 _ (by omega) b1]
  by_cases h : x = p <;> simp [h]
 ·have E := L2 e rfl
  have ne : e ≠ p := fun h => d2 (by rw [h])
  rw [l e E _ 1 _ (by omega) bp, l p P _ 2 _ (by omega) b2, l p P _ 1 _ (by omega) b1, z, l p P _ 2 _ (by omega) b2, l p P _ 1 _ (by omega) b1]
  by_cases h : x = p
  ·subst h; simp [Ne.symm ne]
  by_cases g : x = e
  ·subst g; simp [h]
  have g2 : ¬ e = x := fun u => g u.symm
  simp [h, g, g2]
 ·have A' := L1 a rfl
  rw [l p P _ 2 _ (by omega) b2, l p P _ 1 _ (by omega) b1, l a A' _ 2 _ (by omega) bp, z, l p P _ 2 _ (by omega) b2, l p P _ 1 _ (by omega) b1]
  by_cases h : x = p <;> simp [h]
 have A' := L1 a rfl
 have E := L2 e rfl
 have ne : e ≠ p := fun h => d2 (by rw [h])
 rw [l e E _ 1 _ (by omega) bp, l p P _ 2 _ (by omega) b2, l p P _ 1 _ (by omega) b1, l a A' _ 2 _ (by omega) bp, z, l p P _ 2 _ (by omega) b2, l p P _ 1 _ (by omega) b1]
 by_cases h : x = p
 ·subst h; simp [Ne.symm ne]
 by_cases g : x = e
 ·subst g; simp [h]
 have g2 : ¬ e = x := fun u => g u.symm
 simp [h, g, g2]
theorem UN {C : Cs} (K : Ok C) {x p s : Nat} {o1 o2 : Option Nat} (X : Live C x) (P : Live C p) (L1 : cq C o1) (L2 : cq C o2) (d1 : o1 ≠ some p) :
  rd (jE C.A p s o1 o2) (x + 4 * 2) 4 = if x = p then nO o2 else if o1 = some x then nO (some p) else rd C.A (x + 4 * 2) 4 := by
 have b1 := lD K L1
 have b2 := lD K L2
 have bp := lD K (o := some p) (fun q hq => by cases hq; exact P)
 have l := fun (q : Nat) (M : Live C q) (A : By) (j v : Nat) (hj : j ≤ 2) (hv : v < 4294967296) => rp K X.toAt M.toAt A (i := 2) (j := j) (v := v) (by omega) hj hv
 have z := fun (A : By) => oU K X.toAt P.toAt A (i := 2) (v := s) (by omega)
 rw [sZ]
 rcases o1 with _ | a <;> rcases o2 with _ | e <;> dsimp only <;> unfold iV
 ·rw [l p P _ 2 _ (by omega) b2, l p P _ 1 _ (by omega) b1, z, l p P _ 2 _ (by omega) b2, l p P _ 1 _ (by omega) b1]
  by_cases h : x = p <;> simp [h]
 ·have E := L2 e rfl
  rw [l e E _ 1 _ (by omega) bp, l p P _ 2 _ (by omega) b2, l p P _ 1 _ (by omega) b1, z, l p P _ 2 _ (by omega) b2, l p P _ 1 _ (by omega) b1]
  by_cases h : x = p <;> simp [h]
 ·have A' := L1 a rfl
  rw [l p P _ 2 _ (by omega) b2, l p P _ 1 _ (by omega) b1, l a A' _ 2 _ (by omega) bp, z, l p P _ 2 _ (by omega) b2, l p P _ 1 _ (by omega) b1]
  by_cases h : x = p
  ·simp [h]
  by_cases g : x = a
  ·subst g; simp [h]
  have g2 : ¬ a = x := fun u => g u.symm
  simp [h, g, g2]
 have A' := L1 a rfl
 have E := L2 e rfl
 rw [l e E _ 1 _ (by omega) bp, l p P _ 2 _ (by omega) b2, l p P _ 1 _ (by omega) b1, l a A' _ 2 _ (by omega) bp, z, l p P _ 2 _ (by omega) b2, l p P _ 1 _ (by omega) b1]
 by_cases h : x = p
 ·simp [h]
 by_cases g : x = a
 ·subst g; simp [h]
 have g2 : ¬ a = x := fun u => g u.symm
 simp [h, g, g2]
theorem UL {C : Cs} (K : Ok C) {x p s : Nat} {o1 o2 : Option Nat} (X : Live C x) (P : Live C p) (L1 : cq C o1) (L2 : cq C o2) (hs : s < 256) :
  iR (jE C.A p s o1 o2) x = if x = p then s else iR C.A x := by
 have l := fun (q : Nat) (M : Live C q) (A : By) (j v : Nat) (hj : j ≤ 2) => CW K X.toAt M.toAt A (j := j) (v := v) hj
 have z := fun (A : By) => QX K X.toAt P.toAt A (v := s) hs
 rw [sZ]
 rcases o1 with _ | a <;> rcases o2 with _ | e <;> dsimp only <;> unfold iV
 ·rw [l p P _ 2 _ (by omega), l p P _ 1 _ (by omega), z, l p P _ 2 _ (by omega), l p P _ 1 _ (by omega)]
 ·rw [l e (L2 e rfl) _ 1 _ (by omega), l p P _ 2 _ (by omega), l p P _ 1 _ (by omega), z, l p P _ 2 _ (by omega), l p P _ 1 _ (by omega)]
 ·rw [l p P _ 2 _ (by omega), l p P _ 1 _ (by omega), l a (L1 a rfl) _ 2 _ (by omega), z, l p P _ 2 _ (by omega), l p P _ 1 _ (by omega)]
 rw [l e (L2 e rfl) _ 1 _ (by omega), l p P _ 2 _ (by omega), l p P _ 1 _ (by omega), l a (L1 a rfl) _ 2 _ (by omega), z, l p P _ 2 _ (by omega), l p P _ 1 _ (by omega)]
theorem ee {Q : List (List Nat)} {i : Nat} (h : i < Q.length) (l : List Nat) (j : Nat) : ql (Q.set i l) j = if j = i then l else ql Q j := by
 unfold ql
 split
 ·next e => rw [e]; exact jW h l
 next e => exact getD_set_ne (fun g => e g.symm) l
theorem Di {l : List Nat} {k p x : Nat} (h : k ≤ l.length) (hx : x ∈ l.insertIdx k p) : x = p ∨ x ∈ l := (List.mem_insertIdx h).1 hx
theorem Uv (l : List Nat) (k p j : Nat) (h : k ≤ l.length) (hj : j < (l.insertIdx k p).length) : pv (l.insertIdx k p) j = if j = 0 then none else if j - 1 < k then l[j - 1]? else if j - 1 = k then some p else l[j - 2]? := by
 rcases j with _ | j
 ·rfl
 show (l.insertIdx k p)[j]? = _
 rw [List.getElem?_insertIdx, if_neg (show ¬ j + 1 = 0 by omega), show j + 1 - 1 = j from rfl, show j + 1 - 2 = j - 1 by omega]
 by_cases h1 : j < k
 ·rw [if_pos h1, if_pos h1]
 rw [if_neg h1, if_neg h1]
 by_cases h2 : j = k
 ·rw [if_pos h2, if_pos h2, if_pos (by omega)]
 rw [if_neg h2, if_neg h2]
theorem Ff {C : Cs} (K : Ok C) {p s : Nat} {o1 o2 : Option Nat} (hp : gr C (some p)) (h1 : gr C o1) (h2 : gr C o2) {o : Option Nat} (h : gr C o) : gr (C.wA (jE C.A p s o1 o2)) o := by
 have L := (hp p rfl).1
 have s1 := fun {o : Option Nat} (h : gr C o) => h.link K L (a := 4 * 1) (n := 4) (v := nO o1) (by omega)
 have K1 := K.wA (wr C.A (p + 4 * 1) 4 (nO o1))
 have s2 := fun {o : Option Nat} (h : gr C o) => (s1 h).link K1 (s1 hp p rfl).1 (a := 4 * 2) (n := 4) (v := nO o2) (by omega)
 have K2 := K.wA (wr (wr C.A (p + 4 * 1) 4 (nO o1)) (p + 4 * 2) 4 (nO o2))
 have s3 := fun {o : Option Nat} (h : gr C o) => (s2 h).state K2 (s2 hp p rfl).1 s
 have K3 := K.wA (iV C.A p s o1 o2)
 have s4 := fun {o : Option Nat} (h : gr C o) => (s3 h).join K3 (s3 h1) (s3 hp)
 have K4 := K.wA (uz (iV C.A p s o1 o2) o1 (some p))
 exact (s4 h).join K4 (s4 hp) (s4 h2)
theorem fm : ∀ {l : List Nat} {i j x : Nat}, l.Nodup → l[i]? = some x → l[j]? = some x → i = j
 | [], i, j, x, _, h, _ => by simp at h
 | a :: l, 0, 0, x, _, _, _ => rfl
 | a :: l, 0, j + 1, x, nd, h, g => by
  rw [List.getElem?_cons_zero] at h
  rw [List.getElem?_cons_succ] at g
  cases h
  exact absurd (List.mem_of_getElem? g) (List.nodup_cons.1 nd).1
 | a :: l, i + 1, 0, x, nd, h, g => by
  rw [List.getElem?_cons_zero] at g
  rw [List.getElem?_cons_succ] at h
  cases g
  exact absurd (List.mem_of_getElem? h) (List.nodup_cons.1 nd).1
 | a :: l, i + 1, j + 1, x, nd, h, g => by
  rw [List.getElem?_cons_succ] at h g
  rw [fm (List.nodup_cons.1 nd).2 h g]
theorem IS : ∀ {l : List Nat} {k p : Nat}, k ≤ l.length → p ∉ l → l.Nodup → (l.insertIdx k p).Nodup
 | l, 0, p, _, hp, nd => by
  rw [List.insertIdx_zero]
  exact List.nodup_cons.2 ⟨hp, nd⟩
 | [], k + 1, p, h, _, _ => by simp at h
 | a :: l, k + 1, p, h, hp, nd => by
  rw [List.insertIdx_succ_cons]
  have h2 : k ≤ l.length := by simpa using h
  refine List.nodup_cons.2 ⟨fun hm => ?_, IS h2 (fun g => hp (List.mem_cons_of_mem _ g)) (List.nodup_cons.1 nd).2⟩
  rcases Di h2 hm with e | e
  ·exact hp (by rw [← e]; exact List.mem_cons_self)
  exact (List.nodup_cons.1 nd).1 e
theorem DE {l : List Nat} {k p m x : Nat} (hk : k ≤ l.length) (h : (l.insertIdx k p)[m]? = some x) : m < k ∧ l[m]? = some x ∨ m = k ∧ x = p ∨ k < m ∧ l[m - 1]? = some x := by
 rw [List.getElem?_insertIdx] at h
 by_cases h1 : m < k
 ·rw [if_pos h1] at h; exact .inl ⟨h1, h⟩
 rw [if_neg h1] at h
 by_cases h2 : m = k
 ·rw [if_pos h2, if_pos (by omega)] at h
  cases h
  exact .inr (.inl ⟨h2, rfl⟩)
 rw [if_neg h2] at h
 exact .inr (.inr ⟨by omega, h⟩)
theorem PS {l : List Nat} {k p m : Nat} (hk : k ≤ l.length) : (l.insertIdx k p)[m]? = if m < k then l[m]? else if m = k then some p else l[m - 1]? := by
 rw [List.getElem?_insertIdx]
 by_cases h1 : m < k
 ·rw [if_pos h1, if_pos h1]
 rw [if_neg h1, if_neg h1]
 by_cases h2 : m = k
 ·rw [if_pos h2, if_pos h2, if_pos (by omega)]
 rw [if_neg h2, if_neg h2]
theorem gH.m1 {C : Cs} {Q : List (List Nat)} (O : gH C Q) {i k x : Nat} (h : (ql Q i)[k]? = some x) : rd C.A (x + 4) 4 = nO (pv (ql Q i) k) := by
 obtain ⟨h1, h2⟩ := List.getElem?_eq_some_iff.1 h
 rw [← h2]; exact O.l1 i k h1
theorem gH.m2 {C : Cs} {Q : List (List Nat)} (O : gH C Q) {i k x : Nat} (h : (ql Q i)[k]? = some x) : rd C.A (x + 8) 4 = nO (ql Q i)[k + 1]? := by
 obtain ⟨h1, h2⟩ := List.getElem?_eq_some_iff.1 h
 rw [← h2]; exact O.l2 i k h1
theorem nM {l : List Nat} {k x : Nat} (h : pv l k = some x) : x ∈ l := by
 rcases k with _ | k
 ·cases h
 exact List.mem_of_getElem? h
theorem gH.Ht {C : Cs} {Q : List (List Nat)} (O : gH C Q) {i : Nat} {o : Option Nat} (h : ∀ x, o = some x → x ∈ ql Q i) : gr C o := fun x hx => ⟨O.lv i x (h x hx), O.it i x (h x hx)⟩
theorem gH.one {C : Cs} {Q : List (List Nat)} (O : gH C Q) {i j x : Nat} (h : x ∈ ql Q i) (g : x ∈ ql Q j) : i = j := by
 rw [(O.st i x h).2.2, (O.st j x g).2.2]
theorem UM {C : Cs} (K : Ok C) {Q : List (List Nat)} (O : gH C Q) {p s k i : Nat} (ei : i = qi (C.cl p) s) (hi : i < Q.length) (hs : 1 ≤ s ∧ s ≤ 3) (hk : k ≤ (ql Q i).length) (P : gr C (some p)) (hn : ¬ (1 ≤ iR C.A p ∧ iR C.A p ≤ 3)) :
  gH (C.wA (jE C.A p s (pv (ql Q i) k) (ql Q i)[k]?)) (Q.set i ((ql Q i).insertIdx k p)) := by
 have no : ∀ j, p ∉ ql Q j := fun j h => hn ⟨(O.st j p h).1, (O.st j p h).2.1⟩
 have LP := (P p rfl).1
 have I1 : gr C (pv (ql Q i) k) := O.Ht fun x hx => nM hx
 have I2 : gr C (ql Q i)[k]? := O.Ht fun x hx => List.mem_of_getElem? hx
 have d1 : pv (ql Q i) k ≠ some p := fun h => no i (nM h)
 have d2 : (ql Q i)[k]? ≠ some p := fun h => no i (List.mem_of_getElem? h)
 have hm : ∀ j x, x ∈ ql (Q.set i ((ql Q i).insertIdx k p)) j → j = i ∧ x = p ∨ x ≠ p ∧ x ∈ ql Q j := fun j x hx => by
  rw [ee hi] at hx
  split at hx
  ·next e =>
   rcases Di hk hx with g | g
   ·exact .inl ⟨e, g⟩
   exact .inr ⟨fun z => no i (by rw [← z]; exact g), by rw [e]; exact g⟩
  next e => exact .inr ⟨fun z => no j (by rw [← z]; exact hx), hx⟩
 have Nx : ∀ j x, x ∈ ql (Q.set i ((ql Q i).insertIdx k p)) j → gr C (some x) := fun j x hx y hy => by
  cases hy
  rcases hm j _ hx with ⟨_, rfl⟩ | ⟨_, h⟩
  ·exact P _ rfl
  exact ⟨O.lv j _ h, O.it j _ h⟩
 have kp := fun j x hx => Ff K (s := s) P I1 I2 (Nx j x hx)
 refine ⟨?_, fun j x hx => (kp j x hx x rfl).1, fun j x hx => (kp j x hx x rfl).2, fun j x hx => ?_, fun j => ?_, fun j m h => ?_, fun j m h => ?_⟩
 ·rw [List.length_set]; exact O.len
 ·show 1 ≤ iR (jE _ _ _ _ _) x ∧ _ ∧ j = qi (C.cl x) _
  rw [cP, UL K (Nx j x hx x rfl).1 LP I1.lv I2.lv (by omega)]
  rcases hm j x hx with ⟨rfl, rfl⟩ | ⟨h1, h2⟩
  ·rw [if_pos rfl]; exact ⟨hs.1, hs.2, ei⟩
  rw [if_neg h1]; exact O.st j x h2
 ·rw [ee hi]
  split
  ·exact IS hk (no i) (O.nd i)
  exact O.nd j
 ·have hx : (ql (Q.set i ((ql Q i).insertIdx k p)) j)[m]? = some (ql (Q.set i ((ql Q i).insertIdx k p)) j)[m] := List.getElem?_eq_getElem h
  generalize (ql (Q.set i ((ql Q i).insertIdx k p)) j)[m] = x at hx ⊢
  have D6 := List.mem_of_getElem? hx
  have r := UO K (s := s) (Nx j x D6 x rfl).1 LP I1.lv I2.lv d2
  rw [cP]
  refine r.trans ?_
  rw [ee hi] at hx ⊢
  split at hx
  ·next e =>
   subst e
   rw [if_pos rfl]
   have hml : m < ((ql Q j).insertIdx k p).length := (List.getElem?_eq_some_iff.1 hx).1
   rw [Uv _ _ _ _ hk hml]
   rcases DE hk hx with ⟨h1, h2⟩ | ⟨h1, h2⟩ | ⟨h1, h2⟩
   ·have g1 : x ≠ p := fun z => no j (by rw [← z]; exact List.mem_of_getElem? h2)
    have g2 : (ql Q j)[k]? ≠ some x := fun z => by have := fm (O.nd j) z h2; omega
    rw [if_neg g1, if_neg g2, O.m1 h2]
    rcases m with _ | m
    ·rfl
    rw [if_neg (by omega), if_pos (by omega)]; rfl
   ·rw [if_pos h2]
    subst h1
    rcases m with _ | m
    ·rfl
    rw [if_neg (by omega), if_pos (by omega)]; rfl
   have g1 : x ≠ p := fun z => no j (by rw [← z]; exact List.mem_of_getElem? h2)
   rw [if_neg g1, if_neg (show ¬ m = 0 by omega), if_neg (show ¬ m - 1 < k by omega)]
   by_cases g : m - 1 = k
   ·rw [if_pos g, if_pos (by rw [← g]; exact h2)]
   have g2 : (ql Q j)[k]? ≠ some x := fun z => by have := fm (O.nd j) z h2; omega
   rw [if_neg g2, if_neg g, O.m1 h2]
   obtain ⟨u, rfl⟩ : ∃ u, m = u + 2 := ⟨m - 2, by omega⟩
   rfl
  next e =>
  rw [if_neg e]
  have hj := List.mem_of_getElem? hx
  have g1 : x ≠ p := fun z => no j (by rw [← z]; exact hj)
  have g2 : (ql Q i)[k]? ≠ some x := fun z => e (O.one hj (List.mem_of_getElem? z))
  rw [if_neg g1, if_neg g2, O.m1 hx]
 have hx : (ql (Q.set i ((ql Q i).insertIdx k p)) j)[m]? = some (ql (Q.set i ((ql Q i).insertIdx k p)) j)[m] := List.getElem?_eq_getElem h
 generalize (ql (Q.set i ((ql Q i).insertIdx k p)) j)[m] = x at hx ⊢
 have D6 := List.mem_of_getElem? hx
 have r := UN K (s := s) (Nx j x D6 x rfl).1 LP I1.lv I2.lv d1
 rw [cP]
 refine r.trans ?_
 rw [ee hi] at hx ⊢
 split at hx
 ·next e =>
  subst e
  rw [if_pos rfl, PS hk]
  rcases DE hk hx with ⟨h1, h2⟩ | ⟨h1, h2⟩ | ⟨h1, h2⟩
  ·have g1 : x ≠ p := fun z => no j (by rw [← z]; exact List.mem_of_getElem? h2)
   rw [if_neg g1]
   by_cases g : m + 1 = k
   ·subst g
    rw [if_pos (show pv (ql Q j) (m + 1) = some x from h2), if_neg (by omega), if_pos rfl]
   have g2 : pv (ql Q j) k ≠ some x := fun z => by
    rcases k with _ | k
    ·omega
    have := fm (O.nd j) z h2; omega
   rw [if_neg g2, if_pos (by omega), O.m2 h2]
  ·rw [if_pos h2, if_neg (by omega), if_neg (by omega), show m + 1 - 1 = k by omega]
  have g1 : x ≠ p := fun z => no j (by rw [← z]; exact List.mem_of_getElem? h2)
  have g2 : pv (ql Q j) k ≠ some x := fun z => by
    rcases k with _ | k
    ·cases z
    have := fm (O.nd j) z h2; omega
  rw [if_neg g1, if_neg g2, if_neg (by omega), if_neg (by omega), O.m2 h2, show m - 1 + 1 = m + 1 - 1 by omega]
 next e =>
 rw [if_neg e]
 have hj := List.mem_of_getElem? hx
 have g1 : x ≠ p := fun z => no j (by rw [← z]; exact hj)
 have g2 : pv (ql Q i) k ≠ some x := fun z => e (O.one hj (nM z))
 rw [if_neg g1, if_neg g2, O.m2 hx]
def cZ (C : Cs) (A B : By) (S : Nat → Nat → Prop) : Prop := ∀ i, B i ≠ A i → ∃ q o, At C q ∧ o < C.sz (C.cl q) ∧ S q o ∧ i = q + o
theorem cZ.refl (C : Cs) (A : By) (S : Nat → Nat → Prop) : cZ C A A S := fun _ h => absurd rfl h
theorem cZ.trans {C : Cs} {A B D : By} {S : Nat → Nat → Prop} (h : cZ C A B S) (g : cZ C B D S) : cZ C A D S := fun i e => by
 by_cases hb : B i = A i
 ·exact g i (by rw [hb]; exact e)
 exact h i hb
theorem cZ.mono {C : Cs} {A B : By} {S R : Nat → Nat → Prop} (h : cZ C A B S) (s : ∀ q o, S q o → R q o) : cZ C A B R := fun i e => by
 obtain ⟨q, o, h1, h2, h3, h4⟩ := h i e
 exact ⟨q, o, h1, h2, s q o h3, h4⟩
theorem cZ.wA {C : Cs} {A B D : By} {S : Nat → Nat → Prop} (h : cZ (C.wA D) A B S) : cZ C A B S := fun i e => by
 obtain ⟨q, o, h1, h2, h3, h4⟩ := h i e
 exact ⟨q, o, ⟨h1.i, h1.own, h1.al, h1.k⟩, h2, h3, h4⟩
theorem Ed {C : Cs} (A : By) {S : Nat → Nat → Prop} {q a n v : Nat} (M : At C q) (ha : a + n ≤ C.sz (C.cl q)) (h : ∀ j, a ≤ j → j < a + n → S q j) : cZ C A (wr A (q + a) n v) S := fun i e => by
 have hr : q + a ≤ i ∧ i < q + a + n := by
  refine Decidable.byContradiction fun g => e ?_
  unfold wr
  exact gA _ _ _ _ (by rw [kW]; omega)
 exact ⟨q, i - q, M, by omega, h _ (by omega) (by omega), by omega⟩
theorem uS {C : Cs} {A B : By} {S : List Nat} {a n : Nat} (d : ng A B S a n) (hS : ∀ q ∈ S, At C q) (ha : ∀ q ∈ S, a + n ≤ C.sz (C.cl q)) : cZ C A B (fun q o => q ∈ S ∧ a ≤ o ∧ o < a + n) := fun i e => by
 obtain ⟨q, q1, q2, q3⟩ := d i e
 have := ha q q1
 exact ⟨q, i - q, hS q q1, by omega, ⟨q1, by omega, by omega⟩, by omega⟩
theorem uV {C : Cs} (K : Ok C) {A B : By} {S : Nat → Nat → Prop} (d : cZ C A B S) {p o w : Nat} (L : At C p) (ho : o + w ≤ C.sz (C.cl p)) (h : ∀ j, o ≤ j → j < o + w → ¬ S p j) : ik B (p + o) w = ik A (p + o) w :=
 pU fun i h1 h2 => by
  refine Decidable.byContradiction fun e => ?_
  obtain ⟨q, j, q1, q2, q3, q4⟩ := d i e
  by_cases e2 : p = q
  ·subst e2
   exact h j (by omega) (by omega) q3
  ·rcases apart K L q1 e2 with g | g <;> omega
theorem lP {C : Cs} (K : Ok C) {A B : By} {S : Nat → Nat → Prop} (d : cZ C A B S) {p o w : Nat} (L : At C p) (ho : o + w ≤ C.sz (C.cl p)) (h : ∀ j, o ≤ j → j < o + w → ¬ S p j) : rd B (p + o) w = rd A (p + o) w := by
 unfold rd; rw [uV K d L ho h]
def ki (o : Nat) : Prop := o < 16 ∨ 32 ≤ o ∧ o < 44 ∨ o = 45 ∨ o = 46
theorem nU {C : Cs} (K : Ok C) {B : By} {S : Nat → Nat → Prop} (d : cZ C C.A B S) {p : Nat} (L : At C p) (I : gk C p) (h : ∀ j, S p j → ki j) : Kept C B p := by
 have n1 := (L.bh K).2.1
 have hf := I.fits
 have r := fun (o w : Nat) (h2 : o + w ≤ C.sz (C.cl p)) (h3 : ∀ j, o ≤ j → j < o + w → ¬ ki j) => lP K d L h2 (fun j g1 g2 s => h3 j g1 g2 (h j s))
 have e1 : kl B p = kl C.A p := r 44 1 (by omega) (fun j g1 g2 => by unfold ki; omega)
 have e2 : vl B p = vl C.A p := r 48 4 (by omega) (fun j g1 g2 => by unfold ki; omega)
 refine ⟨e1, e2, ?_, fun J => ⟨?_, ?_, ?_, ?_⟩⟩
 ·unfold aI
  rw [e1]
  exact uV K d L (by omega) (fun j g1 g2 s => by have := h j s; unfold ki at this; omega)
 ·rw [cP, e1]; exact J.k0
 ·rw [cP, e1, e2]; exact J.fits
 ·rw [cP, r 16 8 (by omega) (fun j g1 g2 => by unfold ki; omega)]; exact J.exp
 rw [cP, r 24 8 (by omega) (fun j g1 g2 => by unfold ki; omega)]; exact J.tch
theorem Ra {C : Cs} (K : Ok C) {B : By} {S : Nat → Nat → Prop} (d : cZ C C.A B S) : ∀ {l : List Nat}, (∀ p ∈ l, At C p ∧ ∀ j, j < 4 → ¬ S p j) → Eb C.A l → Eb B l
 | [], _, _ => trivial
 | p :: l, h, g => by
  obtain ⟨L, hp⟩ := h p List.mem_cons_self
  refine ⟨?_, Ra K d (fun q hq => h q (List.mem_cons_of_mem _ hq)) g.2⟩
  have := lP K d L (o := 0) (w := 4) (by have := (L.bh K).2.1; omega) (fun j _ g2 => hp j (by omega))
  rw [← g.1]; exact this
theorem Eg {C : Cs} (K : Ok C) {W : Tb} (O : cz C W) {B : By} {S : Nat → Nat → Prop} (d : cZ C C.A B S) (h : ∀ p ∈ W.all, ∀ j, S p j → ki j ∧ 4 ≤ j) : cz (C.wA B) W := by
 have kp := fun p (hp : p ∈ W.all) => nU K d (O.lv p hp).toAt (O.it p hp) (fun j s => (h p hp j s).1)
 refine ⟨O.pw, O.po, O.st, O.mp, O.sz, O.MR, O.sm, O.mv, O.n, O.nd, fun x => ?_, fun p hp => (O.lv p hp).wA B, fun p hp => (kp p hp).it (O.it p hp), fun x p hp => ?_, fun p hp q hq e => ?_⟩
 ·refine Ra K d (fun p hp => ?_) (O.li x)
  have gm := Tb.fQ hp
  exact ⟨(O.lv p gm).toAt, fun j hj s => by have := (h p gm j s).2; omega⟩
 ·show W.bk (bJ (aI B p)) = x
  rw [(kp p (Tb.fQ hp)).key]; exact O.bu x p hp
 change aI B p = aI B q at e
 rw [(kp p hp).key, (kp q hq).key] at e
 exact O.kd p hp q hq e
theorem HJ {C : Cs} (K : Ok C) {Q : List (List Nat)} (O : gH C Q) {B : By} {S : Nat → Nat → Prop} (d : cZ C C.A B S) (h : ∀ i, ∀ p ∈ ql Q i, ∀ j, S p j → ki j ∧ (j < 4 ∨ 12 ≤ j) ∧ j ≠ 45) : gH (C.wA B) Q := by
 have kp := fun i p (hp : p ∈ ql Q i) => nU K d (O.lv i p hp).toAt (O.it i p hp) (fun j s => (h i p hp j s).1)
 have n1 := fun i p (hp : p ∈ ql Q i) => ((O.lv i p hp).toAt.bh K).2.1
 refine ⟨O.len, fun i p hp => (O.lv i p hp).wA B, fun i p hp => (kp i p hp).it (O.it i p hp), fun i p hp => ?_, O.nd, fun i k hk => ?_, fun i k hk => ?_⟩
 ·have := n1 i p hp
  have e : iR B p = iR C.A p := lP K d (O.lv i p hp).toAt (by omega) (fun j g1 g2 s => (h i p hp j s).2.2 (by omega))
  show 1 ≤ iR B p ∧ _
  rw [cP, e]; exact O.st i p hp
 ·have hp := List.getElem_mem hk
  have := n1 i _ hp
  rw [cP, lP K d (O.lv i _ hp).toAt (by omega) (fun j g1 g2 s => by have := (h i _ hp j s).2.1; omega)]; exact O.l1 i k hk
 have hp := List.getElem_mem hk
 have := n1 i _ hp
 rw [cP, lP K d (O.lv i _ hp).toAt (by omega) (fun j g1 g2 s => by have := (h i _ hp j s).2.1; omega)]; exact O.l2 i k hk
def SQ (p : Nat) (_q o : Nat) : Prop := 4 ≤ o ∧ o < 12 ∨ o = 45 ∧ _q = p
theorem NS {C : Cs} (K : Ok C) (A : By) {S : Nat → Nat → Prop} (hS : ∀ q o, 4 ≤ o → o < 12 → S q o) {o1 o2 : Option Nat} (L1 : cq C o1) (L2 : cq C o2) : cZ C A (uz A o1 o2) S := by
 have w := fun (A : By) (q : Nat) (M : Live C q) (j v : Nat) (hj : 1 ≤ j ∧ j ≤ 2) => Ed (S := S) A (a := 4 * j) (n := 4) (v := v) M.toAt (by have := (M.toAt.bh K).2.1; omega) (fun i g1 g2 => hS q i (by omega) (by omega))
 rcases o1 with _ | a <;> rcases o2 with _ | e
 ·exact cZ.refl _ _ _
 ·exact w A e (L2 e rfl) 1 _ (by omega)
 ·exact w A a (L1 a rfl) 2 _ (by omega)
 exact (w A a (L1 a rfl) 2 _ (by omega)).trans (w _ e (L2 e rfl) 1 _ (by omega))
theorem Zd {C : Cs} (K : Ok C) {p s : Nat} (L : Live C p) {o1 o2 : Option Nat} (L1 : cq C o1) (L2 : cq C o2) : cZ C C.A (jE C.A p s o1 o2) (SQ p) := by
 have n1 := (L.toAt.bh K).2.1
 have w := fun (A : By) (j v : Nat) (hj : 1 ≤ j ∧ j ≤ 2) => Ed (S := SQ p) A (a := 4 * j) (n := 4) (v := v) L.toAt (by omega) (fun i g1 g2 => .inl ⟨by omega, by omega⟩)
 have w2 := fun (A : By) (v : Nat) => Ed (S := SQ p) A (a := 45) (n := 1) (v := v) L.toAt (by omega) (fun i g1 g2 => .inr ⟨by omega, rfl⟩)
 have hp : cq C (some p) := fun q h => by cases h; exact L
 have hS : ∀ q o, 4 ≤ o → o < 12 → SQ p q o := fun q o h1 h2 => .inl ⟨h1, h2⟩
 have d1 : cZ C C.A (iV C.A p s o1 o2) (SQ p) := ((w C.A 1 (nO o1) (by omega)).trans (w _ 2 (nO o2) (by omega))).trans (w2 _ s)
 exact (d1.trans (NS K _ hS L1 hp)).trans (NS K _ hS hp L2)
theorem rD (C : Cs) (cs : List Value) (i : Nat) (o1 o2 : Option Nat) : (ny C cs i o1 o2).length = cs.length := by
 rcases o1 with _ | a <;> rcases o2 with _ | e <;> simp [ny]
theorem H4 (C : Cs) (cs : List Value) (i : Nat) (o1 o2 : Option Nat) : (ny C cs i o1 o2)[i * 3 + 2]? = cs[i * 3 + 2]? := by
 rcases o1 with _ | a <;> rcases o2 with _ | e <;> simp [ny, List.getElem?_set]
theorem vX {C : Cs} (K : Ok C) {Q : List (List Nat)} (O : gH C Q) (i : Nat) : (ql Q i).length ≤ 1073741824 :=
 kH _ _ (O.nd i) fun p hp => by
  have h := (O.lv i p hp).toAt.bh K
  have := fB K.toFix
  omega
theorem IU (C : Cs) (Q : List (List Nat)) : (Q.flatMap (dD C)).length = Q.length * 3 := by
 rw [yi]
 induction Q with
 | nil => rfl
 | cons a l ih => rw [List.map_cons, List.flatMap_cons, List.length_append, ih, sy, List.length_cons]; omega
structure S8 (C : Cs) (p : Nat) (A : By) (Q : List (List Nat)) : Prop where
 o : gH (C.wA A) Q
 d : cZ C C.A A (SQ p)
theorem yG (q b qb : Nat) (C : Cs) (K : Ok C) (Q : List (List Nat)) (O : gH C Q) (p s : Nat) (hs : 1 ≤ s ∧ s ≤ 3) (P : gr C (some p)) (hn : ¬ (1 ≤ iR C.A p ∧ iR C.A p ≤ 3)) :
  aL Tryz.prog 231 [.pointer (some ⟨q, 0, none⟩), .int .u64 (C.hd p : Int), .int .i64 (s : Int)] (fun _ => True) (Cl b C :: py q b qb C Q)
   (fun v H => v = .int .i64 0 ∧ ∃ A, H = Cl b (C.wA A) :: py q b qb (C.wA A) (Q.set (qi (C.cl p) s) (p :: ql Q (qi (C.cl p) s))) ∧ S8 C p A (Q.set (qi (C.cl p) s) (p :: ql Q (qi (C.cl p) s)))) := by
 have L := (P p rfl).1
 have k0 := P.kl p rfl
 have hc := (L.toAt.bh K).1
 have hi := lB O hc hs
 generalize hii : qi (C.cl p) s = i at *
 have I2 : gr C (ql Q i)[0]? := O.Ht fun x hx => List.mem_of_getElem? hx
 have I1 : gr C none := fun x hx => by cases hx
 have ok := UM K O hii.symm hi hs (k := 0) (by omega) P hn
 have ce := Fe C Q i 0 p hi (by omega)
 have hlen := IU C Q
 have k0c := mF (C := C) (Q := Q) (j := 0) hi rfl
 have k2c := mF (C := C) (Q := Q) (j := 2) hi rfl
 have d := Zd K (p := p) (s := s) L I1.lv I2.lv
 have lay := OJ q b qb C.ae.length (ql Q i).length C K (Q.flatMap (dD C)) i (by omega) p s hs none (ql Q i)[0]? P I1 I2 (by rw [H4, H4]; exact k2c) (by rw [rD, rD]) (rD _ _ _ _ _) (vX K O i)
 have e0 : (ql Q i).head? = (ql Q i)[0]? := List.head?_eq_getElem? ..
 rw [e0] at k0c
 change gH (C.wA (jE C.A p s none (ql Q i)[0]?)) _ at ok
 rw [List.insertIdx_zero] at ok ce
 change ((ny C (ny C (Q.flatMap (dD C)) i none (some p)) i (some p) (ql Q i)[0]?).set (i * 3 + 2) _) = _ at ce
 rw [ce] at lay
 unfold py
 generalize gS : Q.flatMap (dD C) = cs at *
 unfold dy at *
 refine ag Tryz.func231 rfl Tryz.ntmps231 rfl ?_
 intro F _
 refine bO ?_
 refine zl T.Vu (KQ q b qb C K p s hs L k0 hn) .nil (fun _ le av => ⟨av.1, av.2.1⟩) ?_
 rw [hii]
 refine ca ?_
 refine aD ?_
 refine zl T.Vt (lay) (.cons .here (.cons .here (.cons .here .nil))) (fun _ _ _ => trivial) ?_
 refine bE ?_
 refine Rt [Cl b (C.wA (jE C.A p s none (ql Q i)[0]?)), af q 139 [.pointer (some ⟨b, 0, none⟩), .slice (some ⟨qb, 0, none⟩) C.ae.length C.ae.length], af qb 327 ((Q.set i (p :: ql Q i)).flatMap (dD C))] Tryz.results231 ?_
 exact ⟨rfl, jE C.A p s none (ql Q i)[0]?, rfl, ok, d⟩
theorem uM {C : Cs} (K : Ok C) {B : By} {S : Nat → Nat → Prop} (d : cZ C C.A B S) {o : Option Nat} (P : gr C o) (h : ∀ x, o = some x → ∀ j, S x j → ki j) : gr (C.wA B) o := fun x hx =>
 ⟨(P x hx).1.wA B, (nU K d (P x hx).1.toAt (P x hx).2 (h x hx)).it (P x hx).2⟩
theorem SQ.qQ {p q o : Nat} (h : SQ p q o) : ki o := by
 unfold SQ at h
 unfold ki
 omega
def me (A : By) (p : Nat) : By := wr (wr (wr A (p + 4 * 1) 4 (nO none)) (p + 4 * 2) 4 (nO none)) (p + 45) 1 4
theorem BZ (C : Cs) (Q : List (List Nat)) (i k : Nat) (hi : i < Q.length) (h : k < (ql Q i).length) :
  (ny C (Q.flatMap (dD C)) i (pv (ql Q i) k) (ql Q i)[k + 1]?).set (i * 3 + 2) (.int .i64 (((ql Q i).length : Int) - 1)) = (Q.set i ((ql Q i).eraseIdx k)).flatMap (dD C) := by
 have hq : (Q.map (DZ C))[i]? = some (DZ C (ql Q i)) := by
  unfold ql
  rw [List.getElem?_map, List.getD_eq_getElem?_getD, List.getElem?_eq_getElem hi]; rfl
 have Hj : i < (Q.map (DZ C)).length := by simpa using hi
 have s2 : ∀ (S : List T3) (y : T3) (v : Value), S[i]? = some y → (S.flatMap t3).set (i * 3 + 2) v = (S.set i { y with c := v }).flatMap t3 := fun S y v hs => cg sy hs rfl (by decide)
 generalize hl : ql Q i = l at *
 have e : { Wy C (DZ C l) (pv l k) l[k + 1]? with c := .int .i64 ((l.length : Int) - 1) } = DZ C (l.eraseIdx k) := by
  have hlen := List.length_eraseIdx_of_lt h
  have h1 : (l.eraseIdx k).head? = if k = 0 then l[k + 1]? else l.head? := by
   rw [List.head?_eq_getElem?, List.head?_eq_getElem?]
   split
   ·next e => subst e; rw [List.getElem?_eraseIdx_of_ge (by omega)]
   next e => rw [List.getElem?_eraseIdx_of_lt (by omega)]
  have h2 : (l.eraseIdx k).getLast? = if k + 1 = l.length then pv l k else l.getLast? := by
   rw [List.getLast?_eq_getElem?, List.getLast?_eq_getElem?, hlen]
   split
   ·next e =>
    rcases k with _ | k
    ·rw [List.getElem?_eq_none (by omega)]; rfl
    rw [List.getElem?_eraseIdx_of_lt (by omega), show l.length - 1 - 1 = k by omega]; rfl
   next e => rw [List.getElem?_eraseIdx_of_ge (by omega), show l.length - 1 - 1 + 1 = l.length - 1 by omega]
  unfold DZ
  rw [h1, h2, hlen, show (((l.length - 1 : Nat)) : Int) = (l.length : Int) - 1 by omega]
  rcases k with _ | k
  ·by_cases e : 0 + 1 < l.length
   ·rw [List.getElem?_eq_getElem e, if_pos rfl, if_neg (by omega)]; rfl
   rw [List.getElem?_eq_none (by omega), if_pos rfl, if_pos (by omega)]; rfl
  have e1 : pv l (k + 1) = some l[k] := List.getElem?_eq_getElem (by omega)
  by_cases e : k + 1 + 1 < l.length
  ·rw [e1, List.getElem?_eq_getElem e, if_neg (by omega), if_neg (by omega)]; rfl
  rw [e1, List.getElem?_eq_none (by omega), if_neg (by omega), if_pos (by omega)]; rfl
 rw [yi, yi, H3 C _ i _ hq, s2 _ _ _ (List.getElem?_set_self Hj), List.set_set, e, List.map_set]
def jT (A : By) (p : Nat) (o1 o2 : Option Nat) : By := me (uz A o1 o2) p
theorem Qo {C : Cs} (K : Ok C) {x p : Nat} {o1 o2 : Option Nat} (X : Live C x) (P : Live C p) (L1 : cq C o1) (L2 : cq C o2) :
  rd (jT C.A p o1 o2) (x + 4 * 1) 4 = if x = p then 0 else if o2 = some x then nO o1 else rd C.A (x + 4 * 1) 4 := by
 have b1 := lD K L1
 have b2 := lD K L2
 have l := fun (q : Nat) (M : Live C q) (A : By) (j v : Nat) (hj : j ≤ 2) (hv : v < 4294967296) => rp K X.toAt M.toAt A (i := 1) (j := j) (v := v) (by omega) hj hv
 have z := fun (A : By) => oU K X.toAt P.toAt A (i := 1) (v := 4) (by omega)
 have n0 : nO none < 4294967296 := by decide
 unfold jT me
 rw [z, l p P _ 2 _ (by omega) n0, l p P _ 1 _ (by omega) n0]
 by_cases h : x = p
 ·simp [h, nO]
 rw [if_neg (by simp [h]), if_neg (by simp [h]), if_neg h]
 rcases o1 with _ | a <;> rcases o2 with _ | e <;> dsimp only [uz]
 ·simp
 ·rw [l e (L2 e rfl) _ 1 _ (by omega) b1]
  by_cases g : x = e
  ·subst g; simp
  have g2 : ¬ e = x := fun u => g u.symm
  simp [g, g2]
 ·rw [l a (L1 a rfl) _ 2 _ (by omega) b2]
  simp
 rw [l e (L2 e rfl) _ 1 _ (by omega) b1, l a (L1 a rfl) _ 2 _ (by omega) b2]
 by_cases g : x = e
 ·subst g; simp
 have g2 : ¬ e = x := fun u => g u.symm
 simp [g, g2]
theorem Qn {C : Cs} (K : Ok C) {x p : Nat} {o1 o2 : Option Nat} (X : Live C x) (P : Live C p) (L1 : cq C o1) (L2 : cq C o2) :
  rd (jT C.A p o1 o2) (x + 4 * 2) 4 = if x = p then 0 else if o1 = some x then nO o2 else rd C.A (x + 4 * 2) 4 := by
 have b1 := lD K L1
 have b2 := lD K L2
 have l := fun (q : Nat) (M : Live C q) (A : By) (j v : Nat) (hj : j ≤ 2) (hv : v < 4294967296) => rp K X.toAt M.toAt A (i := 2) (j := j) (v := v) (by omega) hj hv
 have z := fun (A : By) => oU K X.toAt P.toAt A (i := 2) (v := 4) (by omega)
 have n0 : nO none < 4294967296 := by decide
 unfold jT me
 rw [z, l p P _ 2 _ (by omega) n0, l p P _ 1 _ (by omega) n0]
 by_cases h : x = p
 ·simp [h, nO]
 rw [if_neg (by simp [h]), if_neg (by simp [h]), if_neg h]
 rcases o1 with _ | a <;> rcases o2 with _ | e <;> dsimp only [uz]
 ·simp
 ·rw [l e (L2 e rfl) _ 1 _ (by omega) b1]
  simp
 ·rw [l a (L1 a rfl) _ 2 _ (by omega) b2]
  by_cases g : x = a
  ·subst g; simp
  have g2 : ¬ a = x := fun u => g u.symm
  simp [g, g2]
 rw [l e (L2 e rfl) _ 1 _ (by omega) b1, l a (L1 a rfl) _ 2 _ (by omega) b2]
 by_cases g : x = a
 ·subst g; simp
 have g2 : ¬ a = x := fun u => g u.symm
 simp [g, g2]
theorem DL {C : Cs} (K : Ok C) {x p : Nat} {o1 o2 : Option Nat} (X : Live C x) (P : Live C p) (L1 : cq C o1) (L2 : cq C o2) :
  iR (jT C.A p o1 o2) x = if x = p then 4 else iR C.A x := by
 have l := fun (q : Nat) (M : Live C q) (A : By) (j v : Nat) (hj : j ≤ 2) => CW K X.toAt M.toAt A (j := j) (v := v) hj
 have z := fun (A : By) => QX K X.toAt P.toAt A (v := 4) (by omega)
 unfold jT me
 rw [z, l p P _ 2 _ (by omega), l p P _ 1 _ (by omega)]
 rcases o1 with _ | a <;> rcases o2 with _ | e <;> dsimp only [uz]
 ·rw [l e (L2 e rfl) _ 1 _ (by omega)]
 ·rw [l a (L1 a rfl) _ 2 _ (by omega)]
 rw [l e (L2 e rfl) _ 1 _ (by omega), l a (L1 a rfl) _ 2 _ (by omega)]
theorem JM {C : Cs} (K : Ok C) {p : Nat} (L : Live C p) {o1 o2 : Option Nat} (L1 : cq C o1) (L2 : cq C o2) : cZ C C.A (jT C.A p o1 o2) (SQ p) := by
 have n1 := (L.toAt.bh K).2.1
 have w := fun (A : By) (j v : Nat) (hj : 1 ≤ j ∧ j ≤ 2) => Ed (S := SQ p) A (a := 4 * j) (n := 4) (v := v) L.toAt (by omega) (fun i g1 g2 => .inl ⟨by omega, by omega⟩)
 have w2 := fun (A : By) (v : Nat) => Ed (S := SQ p) A (a := 45) (n := 1) (v := v) L.toAt (by omega) (fun i g1 g2 => .inr ⟨by omega, rfl⟩)
 have hS : ∀ q o, 4 ≤ o → o < 12 → SQ p q o := fun q o h1 h2 => .inl ⟨h1, h2⟩
 exact (((NS K _ hS L1 L2).trans (w _ 1 (nO none) (by omega))).trans (w _ 2 (nO none) (by omega))).trans (w2 _ 4)
theorem get_erase {l : List Nat} {k m x : Nat} (h : (l.eraseIdx k)[m]? = some x) : m < k ∧ l[m]? = some x ∨ k ≤ m ∧ l[m + 1]? = some x := by
 by_cases h1 : m < k
 ·rw [List.getElem?_eraseIdx_of_lt h1] at h; exact .inl ⟨h1, h⟩
 rw [List.getElem?_eraseIdx_of_ge (by omega)] at h; exact .inr ⟨by omega, h⟩
theorem Ql {C : Cs} (K : Ok C) {Q : List (List Nat)} (O : gH C Q) {p k i : Nat} (hi : i < Q.length) (hk : (ql Q i)[k]? = some p) :
  gH (C.wA (jT C.A p (pv (ql Q i) k) (ql Q i)[k + 1]?)) (Q.set i ((ql Q i).eraseIdx k)) := by
 have cJ := (List.getElem?_eq_some_iff.1 hk).1
 have hpl := List.mem_of_getElem? hk
 have LP := O.lv i p hpl
 have I1 : gr C (pv (ql Q i) k) := O.Ht fun x hx => nM hx
 have I2 : gr C (ql Q i)[k + 1]? := O.Ht fun x hx => List.mem_of_getElem? hx
 have d := JM K LP I1.lv I2.lv
 have hm : ∀ j x, x ∈ ql (Q.set i ((ql Q i).eraseIdx k)) j → x ≠ p ∧ x ∈ ql Q j := fun j x hx => by
  rw [ee hi] at hx
  split at hx
  ·next e =>
   subst e
   refine ⟨fun z => ?_, List.mem_of_mem_eraseIdx hx⟩
   subst z
   obtain ⟨m, hm, em⟩ := List.getElem_of_mem hx
   have := List.getElem?_eq_some_iff.2 ⟨hm, em⟩
   rcases get_erase this with ⟨h1, h2⟩ | ⟨h1, h2⟩
   ·have := fm (O.nd j) hk h2; omega
   have := fm (O.nd j) hk h2; omega
  next e => exact ⟨fun z => e (O.one hx (by rw [z]; exact hpl)), hx⟩
 have Nx : ∀ j x, x ∈ ql (Q.set i ((ql Q i).eraseIdx k)) j → gr C (some x) := fun j x hx y hy => by
  cases hy
  exact ⟨O.lv j _ (hm j _ hx).2, O.it j _ (hm j _ hx).2⟩
 have kp := fun j x hx => uM K d (Nx j x hx) (fun y _ j s => s.qQ)
 refine ⟨?_, fun j x hx => (kp j x hx x rfl).1, fun j x hx => (kp j x hx x rfl).2, fun j x hx => ?_, fun j => ?_, fun j m h => ?_, fun j m h => ?_⟩
 ·rw [List.length_set]; exact O.len
 ·show 1 ≤ iR (jT _ _ _ _) x ∧ _ ∧ j = qi (C.cl x) _
  rw [cP, DL K (Nx j x hx x rfl).1 LP I1.lv I2.lv, if_neg (hm j x hx).1]; exact O.st j x (hm j x hx).2
 ·rw [ee hi]
  split
  ·exact (O.nd i).sublist (List.eraseIdx_sublist _ _)
  exact O.nd j
 ·have hx : (ql (Q.set i ((ql Q i).eraseIdx k)) j)[m]? = some (ql (Q.set i ((ql Q i).eraseIdx k)) j)[m] := List.getElem?_eq_getElem h
  generalize (ql (Q.set i ((ql Q i).eraseIdx k)) j)[m] = x at hx ⊢
  have D6 := List.mem_of_getElem? hx
  have r := Qo K (Nx j x D6 x rfl).1 LP I1.lv I2.lv
  rw [if_neg (hm j x D6).1] at r
  rw [cP]
  refine r.trans ?_
  rw [ee hi] at hx ⊢
  split at hx
  ·next e =>
   subst e
   rw [if_pos rfl]
   rcases get_erase hx with ⟨h1, h2⟩ | ⟨h1, h2⟩
   ·have g2 : (ql Q j)[k + 1]? ≠ some x := fun z => by have := fm (O.nd j) z h2; omega
    rw [if_neg g2, O.m1 h2]
    rcases m with _ | m
    ·rfl
    show _ = nO ((ql Q j).eraseIdx k)[m]?
    rw [List.getElem?_eraseIdx_of_lt (by omega)]; rfl
   by_cases g : m = k
   ·subst g
    rw [if_pos h2]
    rcases m with _ | m
    ·rfl
    show _ = nO ((ql Q j).eraseIdx (m + 1))[m]?
    rw [List.getElem?_eraseIdx_of_lt (by omega)]; rfl
   have g2 : (ql Q j)[k + 1]? ≠ some x := fun z => by have := fm (O.nd j) z h2; omega
   rw [if_neg g2, O.m1 h2]
   obtain ⟨u, rfl⟩ : ∃ u, m = u + 1 := ⟨m - 1, by omega⟩
   show _ = nO ((ql Q j).eraseIdx k)[u]?
   rw [List.getElem?_eraseIdx_of_ge (by omega)]; rfl
  next e =>
  rw [if_neg e]
  have hj := List.mem_of_getElem? hx
  have g2 : (ql Q i)[k + 1]? ≠ some x := fun z => e (O.one hj (List.mem_of_getElem? z))
  rw [if_neg g2, O.m1 hx]
 have hx : (ql (Q.set i ((ql Q i).eraseIdx k)) j)[m]? = some (ql (Q.set i ((ql Q i).eraseIdx k)) j)[m] := List.getElem?_eq_getElem h
 generalize (ql (Q.set i ((ql Q i).eraseIdx k)) j)[m] = x at hx ⊢
 have D6 := List.mem_of_getElem? hx
 have r := Qn K (Nx j x D6 x rfl).1 LP I1.lv I2.lv
 rw [if_neg (hm j x D6).1] at r
 rw [cP]
 refine r.trans ?_
 rw [ee hi] at hx ⊢
 split at hx
 ·next e =>
  subst e
  rw [if_pos rfl]
  rcases get_erase hx with ⟨h1, h2⟩ | ⟨h1, h2⟩
  ·by_cases g : m + 1 = k
   ·subst g
    rw [if_pos (show pv (ql Q j) (m + 1) = some x from h2), List.getElem?_eraseIdx_of_ge (by omega)]
   have g2 : pv (ql Q j) k ≠ some x := fun z => by
    rcases k with _ | k
    ·cases z
    have := fm (O.nd j) z h2; omega
   rw [if_neg g2, O.m2 h2, List.getElem?_eraseIdx_of_lt (by omega)]
  have g2 : pv (ql Q j) k ≠ some x := fun z => by
    rcases k with _ | k
    ·cases z
    have := fm (O.nd j) z h2; omega
  rw [if_neg g2, O.m2 h2, List.getElem?_eraseIdx_of_ge (by omega)]
 next e =>
 rw [if_neg e]
 have hj := List.mem_of_getElem? hx
 have g2 : pv (ql Q i) k ≠ some x := fun z => e (O.one hj (nM z))
 rw [if_neg g2, O.m2 hx]
structure J1 (C : Cs) (p : Nat) (A : By) (Q : List (List Nat)) : Prop extends S8 C p A Q where
 st : iR A p = 4
 no : ∀ i, p ∉ ql Q i
theorem yH (q b qb : Nat) (C : Cs) (K : Ok C) (Q : List (List Nat)) (O : gH C Q) (i k p : Nat) (hk : (ql Q i)[k]? = some p) :
  aL Tryz.prog 166 [.pointer (some ⟨q, 0, none⟩), .int .u64 (C.hd p : Int)] (fun _ => True) (Cl b C :: py q b qb C Q)
   (fun v H => v = .int .i64 0 ∧ ∃ A, H = Cl b (C.wA A) :: py q b qb (C.wA A) (Q.set i ((ql Q i).eraseIdx k)) ∧ J1 C p A (Q.set i ((ql Q i).eraseIdx k))) := by
 have hpl := List.mem_of_getElem? hk
 have P : gr C (some p) := O.Ht (i := i) fun x hx => by cases hx; exact hpl
 have L := (P p rfl).1
 have k0 := P.kl p rfl
 have hc := (L.toAt.bh K).1
 obtain ⟨s1, s2, s3⟩ := O.st i p hpl
 have hi := lB O hc ⟨s1, s2⟩
 rw [← s3] at hi
 have I1 : gr C (pv (ql Q i) k) := O.Ht fun x hx => nM hx
 have I2 : gr C (ql Q i)[k + 1]? := O.Ht fun x hx => List.mem_of_getElem? hx
 have ok := Ql K O hi hk
 have d := JM K L I1.lv I2.lv
 have dst := DL K L L I1.lv I2.lv
 rw [if_pos rfl] at dst
 have ce := BZ C Q i k hi (List.getElem?_eq_some_iff.1 hk).1
 have hlen := IU C Q
 have nC : ∀ j, p ∉ ql (Q.set i ((ql Q i).eraseIdx k)) j := fun j h => by
  have := (ok.st j p h).2.1
  rw [cP, dst] at this
  omega
 have hn2 : (ny C (Q.flatMap (dD C)) i (pv (ql Q i) k) (ql Q i)[k + 1]?)[i * 3 + 2]? = some (.int .i64 ((ql Q i).length : Int)) := by rw [H4]; exact mF (j := 2) hi rfl
 have Ae := rD C (Q.flatMap (dD C)) i (pv (ql Q i) k) (ql Q i)[k + 1]?
 have jn := sV q b qb C.ae.length C K (Q.flatMap (dD C)) i (by omega) (pv (ql Q i) k) (ql Q i)[k + 1]? I1.lv I2.lv I1.kl I2.kl (fun x hx => (I2 x hx).2)
 have lk1 := oY b C K p 1 (pv (ql Q i) k) L k0 (by omega) I1.lv (O.m1 hk)
 have lk2 := oY b C K p 2 (ql Q i)[k + 1]? L k0 (by omega) I2.lv (O.m2 hk)
 have K1 := K.wA (uz C.A (pv (ql Q i) k) (ql Q i)[k + 1]?)
 have hS : ∀ q o, 4 ≤ o → o < 12 → SQ p q o := fun q o h1 h2 => .inl ⟨h1, h2⟩
 have P1 : gr (C.wA (uz C.A (pv (ql Q i) k) (ql Q i)[k + 1]?)) (some p) := uM K (NS K C.A hS I1.lv I2.lv) P (fun _ _ j s => s.qQ)
 have hA : jT C.A p (pv (ql Q i) k) (ql Q i)[k + 1]? = me (uz C.A (pv (ql Q i) k) (ql Q i)[k + 1]?) p := rfl
 rw [hA] at ok d dst
 have hql := vX K O i
 generalize pv (ql Q i) k = o1 at *
 generalize (ql Q i)[k + 1]? = o2 at *
 generalize uz C.A o1 o2 = A1 at *
 have cJ := (List.getElem?_eq_some_iff.1 hk).1
 unfold py
 generalize gS : Q.flatMap (dD C) = cs at *
 generalize ny C cs i o1 o2 = ds at *
 have Hi : i * 3 + 2 < ds.length := by omega
 have k1p : gr (C.wA (wr A1 (p + 4 * 1) 4 (nO none))) (some p) := P1.link K1 (P1 p rfl).1 (by omega)
 have k2p : gr (C.wA (wr (wr A1 (p + 4 * 1) 4 (nO none)) (p + 4 * 2) 4 (nO none))) (some p) := k1p.link (K.wA _) (k1p p rfl).1 (by omega)
 refine ag Tryz.func166 rfl Tryz.ntmps166 rfl ?_
 intro F _
 refine bE ?_
 refine zl T.AY (tJ q b qb C K p L k0 ⟨s1, s2⟩) .nil (fun _ le av => ⟨av.1, av.2.1⟩) ?_
 rw [← s3]
 unfold dy at *
 refine qM ?_
 refine zl T.wL (lk1) .nil (fun _ le av => av.1) ?_
 refine ed ?_
 refine zl T.wL (lk2) .nil (fun _ le av => av.1) ?_
 refine bP ?_
 refine zl T.AU (jn) (.cons .here (.cons .here (.cons .here .nil))) (fun _ _ _ => trivial) ?_
 refine bO ?_
 refine zl T.jg (cN b (C.wA A1) K1 p 1 none (P1 p rfl).1 (P1.kl p rfl) (by omega) (fun q h => by cases h)) (.cons .here .nil) (fun _ _ _ => trivial) ?_
 refine bO ?_
 refine zl T.jg (cN b (C.wA (wr A1 (p + 4 * 1) 4 (nO none))) (K.wA _) p 2 none (k1p p rfl).1 (k1p.kl p rfl) (by omega) (fun q h => by cases h)) (.cons .here .nil) (fun _ _ _ => trivial) ?_
 refine bO ?_
 refine zl T.Jh (o9 b (C.wA (wr (wr A1 (p + 4 * 1) 4 (nO none)) (p + 4 * 2) 4 (nO none))) (K.wA _) p 4 (by omega) (k2p p rfl).1 (k2p.kl p rfl)) (.cons .here .nil) (fun _ _ _ => trivial) ?_
 refine oo ?_
 refine Hh (H' := [Cl b (C.wA (me A1 p)), af q 139 [.pointer (some ⟨b, 0, none⟩), .slice (some ⟨qb, 0, none⟩) C.ae.length C.ae.length], af qb 327 (ds.set (i * 3 + 2) (.int .i64 (((ql Q i).length : Int) - 1)))]) ?_
 rw [ce]
 refine Rt [Cl b (C.wA (me A1 p)), af q 139 [.pointer (some ⟨b, 0, none⟩), .slice (some ⟨qb, 0, none⟩) C.ae.length C.ae.length], af qb 327 ((Q.set i ((ql Q i).eraseIdx k)).flatMap (dD C))] Tryz.results166 ?_
 exact ⟨rfl, me A1 p, rfl, ⟨ok, d⟩, dst, nC⟩
def rP (Q : List (List Nat)) (i k j p : Nat) : List (List Nat) := (Q.set i ((ql Q i).eraseIdx k)).set j (p :: ql (Q.set i ((ql Q i).eraseIdx k)) j)
theorem EY (q b qb : Nat) (C : Cs) (K : Ok C) (Q : List (List Nat)) (O : gH C Q) (i k p s : Nat) (hs : 1 ≤ s ∧ s ≤ 3) (hk : (ql Q i)[k]? = some p) :
  aL Tryz.prog 197 [.pointer (some ⟨q, 0, none⟩), .int .u64 (C.hd p : Int), .int .i64 (s : Int)] (fun _ => True) (Cl b C :: py q b qb C Q)
   (fun v H => v = .int .i64 0 ∧ ∃ A, H = Cl b (C.wA A) :: py q b qb (C.wA A) (rP Q i k (qi (C.cl p) s) p) ∧ S8 C p A (rP Q i k (qi (C.cl p) s) p)) := by
 have P : gr C (some p) := O.Ht (i := i) fun x hx => by cases hx; exact List.mem_of_getElem? hk
 unfold py
 refine ag Tryz.func197 rfl Tryz.ntmps197 rfl ?_
 intro F _
 refine bE ?_
 refine zl T.wG (qf s hs) .nil (fun _ _ _ => trivial) ?_
 refine cY ?_
 refine Lp (oC T.Jx rfl rfl (yH q b qb C K Q O i k p hk) (.cons .here (.cons .here (.cons .here .nil))) (fun _ _ _ => trivial) ?_)
 rintro v H' ⟨rfl, A, rfl, D⟩
 refine bo ?_
 have P2 : gr (C.wA A) (some p) := uM K D.d P (fun _ _ j s => s.qQ)
 have hn2 : ¬ (1 ≤ iR (C.wA A).A p ∧ iR (C.wA A).A p ≤ 3) := by rw [cP, D.st]; omega
 refine gh ?_
 refine Lp (oC T.Jf rfl rfl (yG q b qb (C.wA A) (K.wA A) (Q.set i ((ql Q i).eraseIdx k)) D.o p s hs P2 hn2) (.cons .here (.cons .here (.cons .here .nil))) (fun _ _ _ => trivial) ?_)
 rintro v H' ⟨rfl, B, rfl, E⟩
 refine bo ?_
 refine bL ?_
 refine Rt [Cl b (C.wA B), af q 139 (dy b qb C.ae.length), af qb 327 ((rP Q i k (qi (C.cl p) s) p).flatMap (dD C))] Tryz.results197 ?_
 exact ⟨rfl, B, rfl, E.o, D.d.trans E.d.wA⟩
end Go.Proofs.YtpgbeapapmdkcaaGreatDoor
