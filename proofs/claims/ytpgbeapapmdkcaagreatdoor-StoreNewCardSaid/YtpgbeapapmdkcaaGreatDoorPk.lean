/- Part Pk of the proof. -/
import Derived.Test.YtpgbeapapmdkcaaGreatDoorPc1
import Derived.Test.YtpgbeapapmdkcaaGreatDoorPd
import Derived.Test.YtpgbeapapmdkcaaGreatDoorPj1
set_option maxRecDepth 100000
namespace Go.Proofs.YtpgbeapapmdkcaaGreatDoor
open Go Go.cQ Go.Proofs.YtpgbeapapmdkcaaGreatDoor.Cs
structure I3 where
 key : List UInt8
 val : List UInt8
 fl : Nat
 exp : Nat
 tch : Nat
 tok : Nat
 du : Nat
def Ef (A : By) (p : Nat) : Nat := rd A (p + 24) 8
def Su (A : By) (p : Nat) : Nat := rd A (p + 40) 4
def pB (A : By) (p : Nat) : I3 := ⟨aI A p, pF A p, Su A p, Ni A p, Ef A p, xX A p, eM A p⟩
def I3.sz (x : I3) : Nat := 58 + x.key.length + x.val.length
theorem US (A : By) (p : Nat) : (pB A p).sz = 58 + kl A p + vl A p := by
 unfold I3.sz pB
 rw [show (aI A p).length = kl A p from cS _ _ _, show (pF A p).length = vl A p from cS _ _ _]
theorem yl {C : Cs} (K : Ok C) {B : By} {S : Nat → Nat → Prop} (d : cZ C C.A B S) {p : Nat} (L : At C p) (I : gk C p) (h : ∀ j, S p j → j < 16 ∨ j = 45) : pB B p = pB C.A p := by
 have n1 := (L.bh K).2.1
 have hf := I.fits
 have r := fun (o w : Nat) (h2 : o + w ≤ C.sz (C.cl p)) (h3 : ∀ j, o ≤ j → j < o + w → ¬ (j < 16 ∨ j = 45)) => lP K d L h2 (fun j g1 g2 s => h3 j g1 g2 (h j s))
 have e1 : kl B p = kl C.A p := r 44 1 (by omega) (fun j g1 g2 => by omega)
 have e2 : vl B p = vl C.A p := r 48 4 (by omega) (fun j g1 g2 => by omega)
 have e3 : aI B p = aI C.A p := by
  unfold aI
  rw [e1]
  exact uV K d L (by omega) (fun j g1 g2 s => by have := h j s; omega)
 have e4 : pF B p = pF C.A p := by
  unfold pF
  rw [e1, e2, Nat.add_assoc]
  exact uV K d L (by omega) (fun j g1 g2 s => by have := h j s; omega)
 unfold pB Su Ni Ef xX eM
 rw [e3, e4, r 40 4 (by omega) (fun j g1 g2 => by omega), r 16 8 (by omega) (fun j g1 g2 => by omega), r 24 8 (by omega) (fun j g1 g2 => by omega), r 32 8 (by omega) (fun j g1 g2 => by omega), r 46 1 (by omega) (fun j g1 g2 => by omega)]
theorem tb_K {C : Cs} (K : Ok C) {W : Tb} (O : cz C W) {B : By} (kp : ∀ p ∈ W.all, Kept C B p) (hl : ∀ p ∈ W.all, rd B p 4 = rd C.A p 4) : cz (C.wA B) W := by
 have lk : ∀ l : List Nat, (∀ p ∈ l, p ∈ W.all) → Eb C.A l → Eb B l := fun l => by
  induction l with
  | nil => exact fun _ _ => trivial
  | cons p l ih => exact fun h g => ⟨(hl p (h p List.mem_cons_self)).trans g.1, ih (fun q hq => h q (List.mem_cons_of_mem _ hq)) g.2⟩
 refine ⟨O.pw, O.po, O.st, O.mp, O.sz, O.MR, O.sm, O.mv, O.n, O.nd, fun x => lk _ (fun p hp => Tb.fQ hp) (O.li x), fun p hp => (O.lv p hp).wA B, fun p hp => (kp p hp).it (O.it p hp), fun x p hp => ?_, fun p hp q hq e => ?_⟩
 ·show W.bk (bJ (aI B p)) = x
  rw [(kp p (Tb.fQ hp)).key]; exact O.bu x p hp
 change aI B p = aI B q at e
 rw [(kp p hp).key, (kp q hq).key] at e
 exact O.kd p hp q hq e
theorem qu_K {C : Cs} {Q : List (List Nat)} (O : gH C Q) {B : By} (kp : ∀ i, ∀ p ∈ ql Q i, Kept C B p) (hs : ∀ i, ∀ p ∈ ql Q i, iR B p = iR C.A p) (h1 : ∀ i, ∀ p ∈ ql Q i, rd B (p + 4 * 1) 4 = rd C.A (p + 4 * 1) 4) (h2 : ∀ i, ∀ p ∈ ql Q i, rd B (p + 4 * 2) 4 = rd C.A (p + 4 * 2) 4) : gH (C.wA B) Q := by
 refine ⟨O.len, fun i p hp => (O.lv i p hp).wA B, fun i p hp => (kp i p hp).it (O.it i p hp), fun i p hp => ?_, O.nd, fun i k hk => ?_, fun i k hk => ?_⟩
 ·show 1 ≤ iR B p ∧ _
  rw [cP, hs i p hp]; exact O.st i p hp
 ·have hp := List.getElem_mem hk
  rw [cP, h1 i _ hp]; exact O.l1 i k hk
 have hp := List.getElem_mem hk
 rw [cP, h2 i _ hp]; exact O.l2 i k hk
structure Mo where
 C : Cs
 hole : Option Nat
 Q : List (List Nat)
 it : Nat → I3
 ord : Nat → Nat
 x : Cw
 tn : Nat
 k : Ck
 m : jQ
 nb : Nat
 mg : Nat
 aC : Nat
 v : Sv
 jX : List Nat
 n : Nat
structure Bx where
 C : Cs
 W : Tb
 ty : mZ
 E : List En
structure Ly where
 s : Nat
 y : Sy
 qb : Nat
 ub : Nat
 hot : Nat
 warm : Nat
def aN (s : Nat) : Value := .func (.func 66) #[.pointer (some ⟨s, 0, none⟩)] #[]
def bn (s : Nat) : Value := .func (.func 68) #[.pointer (some ⟨s, 0, none⟩)] #[]
def iq (C : Cs) (M : Mo) (l : List Nat) : List En := (l.filter fun p => decide (0 < (M.it p).exp)).map fun p => ⟨C.hd p, (M.it p).exp, M.ord p⟩
structure bT (B : Bx) (M : Mo) : Prop where
 c : B.C = M.C.wA B.C.A
 k : Ok B.C
 t : cz B.C B.W
 ty : B.ty.ok = none → B.W.ob = []
 o : gH B.C M.Q
 x : ct B.C.ae.length M.Q M.x
 mq : XL B.C M.Q
 ck : N5 M.k
 al : ∀ p, p ∈ B.W.all ↔ ∃ i, p ∈ ql M.Q i
 lv : ∀ p, Live B.C p ↔ p ∈ B.W.all ∨ M.hole = some p
 ho : ∀ p, M.hole = some p → p ∉ B.W.all
 it : ∀ p ∈ B.W.all, pB B.C.A p = M.it p
 e : B.E.Perm (iq B.C M B.W.all)
 st : B.W.st = 2 → B.W.mv < B.W.ob.length
 nb : B.W.size = M.nb
 mg : M.mg = if B.W.st = 2 then B.W.ob.length - B.W.mv else 0
 mo : B.W.aC = M.aC
 bt : M.v.fJ = (B.W.all.map fun p => (M.it p).sz).sum
 un : M.m.un.length = B.C.ae.length
 on : M.m.on = true → M.m.pg < B.C.n ∧ (B.C.pg M.m.pg).own = true ∧ (B.C.pg M.m.pg).lv = true ∧ (B.C.pg M.m.pg).cl = M.m.fr
 go : ∀ i, (B.C.pg i).lv = true → M.m.on = true ∧ i = M.m.pg
 wn : M.v.wn = M.jX.length
 cf : M.v.c = B.C.cfg
 n : B.W.n = M.n
 lg : ∀ p ∈ B.W.all, dS (M.it p).key = true
def eW (M : Mo) : aa := own M.v.wa M.v.wc 3 1 (aH M.jX)
def gp (z : Ly) (B : Bx) (M : Mo) : List aa :=
 [Cl z.y.b B.C, af z.y.t 145 (dg z.y.b B.W B.ty), af B.ty.nk 163 (ax (ao B.W.nb)), fI B.ty.ok 163 (ax (ao B.W.ob)), af z.y.q 139 (dy z.y.b z.qb B.C.ae.length), af z.qb 327 (M.Q.flatMap (dD B.C)), ey z.y.cr z.y.q z.y.wh B.C.ae.length (aO z.s) (aN z.s) B.C M.x, Wl z.y.wh B.E M.tn, ij z.s z.y (gF M.v),
  iN z.y.ck M.k, gf z.y.lu z.y.b z.y.q z.hot z.warm, iB z.y.mo z.y.b z.ub (aO z.s) (aN z.s) (bn z.s) M.m, iM z.ub M.m, eW M]
def Mo.put (M : Mo) (p : Nat) (n : I3) : Mo := { M with it := fun q => if q = p then n else M.it q }
theorem bT.tY {B : Bx} {M : Mo} (O : bT B M) {p : Nat} (h : p ∈ B.W.all) : Live B.C p := (O.lv p).2 (.inl h)
theorem bT.z8 {B : Bx} {M : Mo} (O : bT B M) {i p : Nat} (h : p ∈ ql M.Q i) : p ∈ B.W.all := (O.al p).2 ⟨i, h⟩
theorem bT.ito {B : Bx} {M : Mo} (O : bT B M) {p : Nat} (h : p ∈ B.W.all) : gr B.C (some p) := fun q e => by cases e; exact ⟨O.tY h, O.t.it p h⟩
theorem bT.szp {B : Bx} {M : Mo} (O : bT B M) {p : Nat} (h : p ∈ B.W.all) : 58 + kl B.C.A p + vl B.C.A p = (M.it p).sz := by rw [← O.it p h, US]
theorem wS {α : Type} (f : α → Nat) : ∀ {l : List α} {x : α}, x ∈ l → f x ≤ (l.map f).sum
 | y :: l, x, h => by
  rw [List.map_cons, List.sum_cons]
  rcases List.mem_cons.1 h with rfl | h
  ·omega
  have := wS f h; omega
theorem mj {α : Type} (f : α → Nat) {l m : List α} (p : l.Perm m) : (l.map f).sum = (m.map f).sum := (p.map f).sum_nat
end Go.Proofs.YtpgbeapapmdkcaaGreatDoor
namespace Go.cQ
open Go
theorem aL.fr {P : Program} {f : FuncId} {args : List Value} {pre : Hp → Prop} {H As R : List aa} {T : Value → List aa → Prop} (h : aL P f args pre As T) (dh : gY H As R) (hp : ∀ k, fF R k → pre k) :
  aL P f args (fun _ => True) H (fun v H' => ∃ H0, T v H0 ∧ H' = H0 ++ R) := by
 intro F w _ s
 obtain ⟨a1, a2, a3, fr, hh, st, hl, rQ⟩ := s
 obtain ⟨h1, h2, d12, l1, l2, s1, s2⟩ := bs (dh.out _ st)
 have uG : bK h2 F.h := rQ.left l2
 let F' : c9 := { F with h := fj h2 F.h }
 have gV : Le F.h F'.h := aV uG
 have gM : Le h2 F'.h := ba _ _
 have zX : St F' As w := ⟨a1, a2, a3, bS (l2.trans hl) fr, h1, s1, l1.trans hl, (bK.fj d12.symm (rQ.left l1).symm).symm⟩
 refine (h F' w (hp _ (bU s2 gM)) zX).mono ?_
 rintro e w' ⟨v, H', rfl, hT, sw⟩
 obtain ⟨b1, b2, b3, rR, Ag, st2, Af, kf⟩ := sw
 exact ⟨v, _, rfl, ⟨H', hT, rfl⟩, b1, b2, b3, gV.trans rR, fj Ag h2, bB st2 s2 (kf.right gM), bS Af (gM.trans rR), bK.fj (kf.right gV) uG⟩
end Go.cQ
namespace Go.Proofs.YtpgbeapapmdkcaaGreatDoor
open Go Go.cQ Go.Proofs.YtpgbeapapmdkcaaGreatDoor.Cs
def SH (z : Ly) (M : Mo) : aa := fun h => ∃ B, bT B M ∧ aE (gp z B M) h
theorem iK {P : Program} {f : FuncId} {args : List Value} {pre : Hp → Prop} {H : List aa} {R : Value → List aa → Prop} {z : Ly} {M : Mo} (h : ∀ B, bT B M → aL P f args pre (gp z B M ++ H) R) : aL P f args pre (SH z M :: H) R :=
 aL.WO fun B => aL.ye fun O => aL.AG (h B O)
theorem aR {z : Ly} {B : Bx} {M : Mo} (O : bT B M) {H : List aa} : ∀ h, aj (gp z B M ++ H) h → aj (SH z M :: H) h := fun h s =>
 aY (fun k x => ⟨B, O, x⟩) (eR s)
def Mo.has (M : Mo) (p : Nat) : Prop := ∃ i, p ∈ ql M.Q i
def Mo.pC (M : Mo) (p : Nat) : Mo := M.put p { M.it p with tch := M.k.now, du := mkSet (M.it p).du true % 8 + 8 }
def Mo.marks (M : Mo) (p k : Nat) : Mo := M.put p { M.it p with du := (M.it p).du - (M.it p).du / 2 % 4 * 2 + k * 2 }
def Mo.tok (M : Mo) (p t : Nat) : Mo := M.put p { M.it p with tok := t }
def Mo.time (M : Mo) (p e : Nat) : Mo := { M.put p { M.it p with exp := e } with ord := fun q => if q = p then M.tn + 1 else M.ord q, tn := if 0 < e then M.tn + 1 else M.tn }
theorem bT.hd {B : Bx} {M : Mo} (O : bT B M) (p : Nat) : B.C.hd p = M.C.hd p := by rw [O.c]; rfl
theorem kB {C : Cs} {M : Mo} {l m : List Nat} (p : l.Perm m) : (iq C M l).Perm (iq C M m) := (p.filter _).map _
theorem kC {C : Cs} {M : Mo} {p : Nat} {r : List Nat} : iq C M (p :: r) = if 0 < (M.it p).exp then ⟨C.hd p, (M.it p).exp, M.ord p⟩ :: iq C M r else iq C M r := by
 unfold iq
 by_cases h : 0 < (M.it p).exp
 ·rw [if_pos h, List.filter_cons, if_pos (by simpa using h)]; rfl
 rw [if_neg h, List.filter_cons, if_neg (by simpa using h)]
theorem gQ {C D : Cs} {M N : Mo} : ∀ {l : List Nat}, (∀ q ∈ l, (N.it q).exp = (M.it q).exp ∧ N.ord q = M.ord q ∧ D.hd q = C.hd q) → iq D N l = iq C M l
 | [], _ => by simp only [iq, List.filter_nil, List.map_nil]
 | p :: r, h => by
  obtain ⟨h1, h2, h3⟩ := h p List.mem_cons_self
  rw [kC, kC, h1, h2, h3, gQ fun q hq => h q (List.mem_cons_of_mem _ hq)]
theorem kA {C : Cs} {M : Mo} {h : Nat} {r : List Nat} (hr : ∀ q ∈ r, C.hd q ≠ h) : dJ (iq C M r) h = iq C M r := by
 unfold dJ
 rw [List.filter_eq_self]
 intro x hx
 unfold iq at hx
 obtain ⟨q, hq, rfl⟩ := List.mem_map.1 hx
 exact decide_eq_true (hr q (List.mem_filter.1 hq).1)
theorem bT.qp {B : Bx} {M : Mo} (O : bT B M) {p : Nat} (h : p ∈ B.W.all) : At B.C p := (O.tY h).toAt
theorem bT.rest {B : Bx} {M : Mo} (O : bT B M) {p : Nat} {r : List Nat} (h : B.W.all.Perm (p :: r)) : (dJ B.E (B.C.hd p)).Perm (iq B.C M r) := by
 have nd := h.nodup_iff.1 O.t.nd
 have fu : ∀ q ∈ r, B.C.hd q ≠ B.C.hd p := fun q hq e => (List.nodup_cons.1 nd).1 (by
  rw [← kU O.k (O.qp (h.mem_iff.2 (List.mem_cons_of_mem _ hq))) (O.qp (h.mem_iff.2 List.mem_cons_self)) e]; exact hq)
 have h1 : (dJ B.E (B.C.hd p)).Perm (dJ (iq B.C M (p :: r)) (B.C.hd p)) := (O.e.trans (kB h)).filter _
 refine h1.trans ?_
 rw [kC]
 split
 ·unfold dJ
  rw [List.filter_cons, if_neg (by simp)]
  exact List.Perm.of_eq (kA fu)
 exact List.Perm.of_eq (kA fu)
theorem bT.SF {B : Bx} {M : Mo} (O : bT B M) {p : Nat} (hp : p ∈ B.W.all) : eM B.C.A p = (M.it p).du ∧ (M.it p).du < 16 := by
 have h := congrArg I3.du (O.it p hp)
 obtain ⟨i, hi⟩ := (O.al p).1 hp
 have h2 := O.mq i p hi
 have h3 : eM B.C.A p = (M.it p).du := h
 exact ⟨h3, by omega⟩
theorem bT.lM {B : Bx} {M : Mo} (O : bT B M) {p : Nat} (hp : p ∈ B.W.all) : Ni B.C.A p = (M.it p).exp ∧ Ef B.C.A p = (M.it p).tch ∧ xX B.C.A p = (M.it p).tok ∧ eM B.C.A p = (M.it p).du ∧ aI B.C.A p = (M.it p).key ∧ pF B.C.A p = (M.it p).val ∧ Su B.C.A p = (M.it p).fl := by
 have h := O.it p hp
 rw [← h]
 exact ⟨rfl, rfl, rfl, rfl, rfl, rfl, rfl⟩
theorem oJ {C : Cs} (K : Ok C) {p : Nat} (L : Live C p) (j : Nat) : ((C.a8 p).pg j).own = (C.pg j).own ∧ ((C.a8 p).pg j).lv = (C.pg j).lv ∧ ((C.a8 p).pg j).cl = (C.pg j).cl := by
 have hpl : C.pn p < C.cb.length := by rw [K.pl]; exact L.i
 have h := jS (C := C) (c := C.cl p) (sp := C.spare) (x := { C.pg (C.pn p) with tk := (C.pg (C.pn p)).tk.set (C.ix p) false, held := (C.pg (C.pn p)).held - 1, aZ := (C.pg (C.pn p)).aZ.set (C.ix p) ((C.gen p + 1) % 4294967296) }) (r := { C.rw (C.cl p) with free := if (C.pg (C.pn p)).lv = true then (C.rw (C.cl p)).free else (C.rw (C.cl p)).free ++ [p], gG := (C.rw (C.cl p)).gG - 1 }) (A := C.A) hpl j
 change (C.a8 p).pg j = _ at h
 rw [h]
 by_cases e : j = C.pn p
 ·rw [if_pos e, e]; exact ⟨rfl, rfl, rfl⟩
 rw [if_neg e]; exact ⟨rfl, rfl, rfl⟩
theorem mO {C : Cs} (K : Ok C) {p : Nat} (L : Live C p) (q : Nat) : Live (C.a8 p) q ↔ Live C q ∧ q ≠ p := by
 obtain ⟨K2, S⟩ := fD K L
 have M := kx K L
 refine ⟨fun h => ?_, fun h => (M.lv q h.2 h.1).1⟩
 have hpl : C.pn p < C.cb.length := by rw [K.pl]; exact L.i
 have hp := jS (C := C) (c := C.cl p) (sp := C.spare) (x := { C.pg (C.pn p) with tk := (C.pg (C.pn p)).tk.set (C.ix p) false, held := (C.pg (C.pn p)).held - 1, aZ := (C.pg (C.pn p)).aZ.set (C.ix p) ((C.gen p + 1) % 4294967296) }) (r := { C.rw (C.cl p) with free := if (C.pg (C.pn p)).lv = true then (C.rw (C.cl p)).free else (C.rw (C.cl p)).free ++ [p], gG := (C.rw (C.cl p)).gG - 1 }) (A := C.A) hpl (C.pn q)
 change (C.a8 p).pg (C.pn q) = _ at hp
 have a := (S.at).1 h.toAt
 have t := h.tk
 rw [S.pn, S.ix, hp] at t
 by_cases e : C.pn q = C.pn p
 ·rw [if_pos e] at t
  have ne : q ≠ p := fun g => by
   rw [g] at t
   change ((C.pg (C.pn p)).tk.set (C.ix p) false)[C.ix p]? = some true at t
   rw [List.getElem?_set_self' ] at t
   cases hh : (C.pg (C.pn p)).tk[C.ix p]? <;> rw [hh] at t <;> cases t
  refine ⟨⟨a, ?_⟩, ne⟩
  change ((C.pg (C.pn p)).tk.set (C.ix p) false)[C.ix q]? = some true at t
  rw [List.getElem?_set_ne (fun g => se K L.toAt a e ne g.symm)] at t
  rw [e]; exact t
 rw [if_neg e] at t
 exact ⟨⟨a, t⟩, fun g => e (by rw [g])⟩
def fw (Q : List (List Nat)) (p : Nat) : List (List Nat) := Q.map fun l => l.erase p
theorem gy (Q : List (List Nat)) (p i : Nat) : ql (fw Q p) i = (ql Q i).erase p := by
 unfold fw ql
 rw [List.getD_eq_getElem?_getD, List.getD_eq_getElem?_getD, List.getElem?_map]
 cases Q[i]? <;> rfl
theorem Cr {C : Cs} {Q : List (List Nat)} (O : gH C Q) {i j p : Nat} (h : p ∈ ql Q i) (g : p ∈ ql Q j) : i = j := by
 rw [(O.st i p h).2.2, (O.st j p g).2.2]
theorem Bc {l : List Nat} (nd : l.Nodup) {k p : Nat} (h : l[k]? = some p) : l.eraseIdx k = l.erase p := by
 obtain ⟨hk, e⟩ := List.getElem?_eq_some_iff.1 h
 have : l.idxOf p = k := by
  have h1 : p ∈ l := List.mem_of_getElem? h
  obtain ⟨i1, i2⟩ := xh h1
  exact fm nd i2 h
 rw [List.erase_eq_eraseIdx_of_idxOf this]
theorem wY {C : Cs} {Q : List (List Nat)} (O : gH C Q) {i k p : Nat} (h : (ql Q i)[k]? = some p) : Q.set i ((ql Q i).eraseIdx k) = fw Q p := by
 have hm := List.mem_of_getElem? h
 have hi : i < Q.length := by
  refine Decidable.byContradiction fun g => ?_
  unfold ql at h
  have e0 : Q[i]? = none := List.getElem?_eq_none (by omega)
  rw [List.getD_eq_getElem?_getD, e0] at h
  cases h
 refine List.ext_getElem? fun j => ?_
 unfold fw
 rw [List.getElem?_set, List.getElem?_map]
 by_cases e : i = j
 ·subst e
  rw [if_pos rfl, if_pos hi, List.getElem?_eq_getElem hi]
  have e2 : ql Q i = Q[i] := by unfold ql; rw [List.getD_eq_getElem?_getD, List.getElem?_eq_getElem hi]; rfl
  rw [Bc (O.nd i) h, e2]; rfl
 rw [if_neg e]
 cases hq : Q[j]? with
 | none => rfl
 | some l =>
  have e2 : ql Q j = l := by unfold ql; rw [List.getD_eq_getElem?_getD, hq]; rfl
  have : p ∉ l := fun g => e (Cr O hm (by rw [e2]; exact g))
  rw [Option.map_some, List.erase_of_not_mem this]
def Mo.shr (M : Mo) : Prop := M.mg = 0 ∧ 16 < M.nb ∧ 8 * (M.n - 1) < M.nb
instance (M : Mo) : Decidable M.shr := by unfold Mo.shr; infer_instance
def Mo.bR (M : Mo) (p : Nat) : Mo :=
 { M with C := M.C.a8 p, Q := fw M.Q p, x := M.x.left M.Q p, n := M.n - 1, nb := if M.shr then M.nb / 2 else M.nb, mg := if M.shr then M.nb else M.mg, v := { M.v with fJ := M.v.fJ - (M.it p).sz } }
theorem bT.st0 {B : Bx} {M : Mo} (O : bT B M) : M.mg = 0 ↔ B.W.st = 0 := by
 have := O.st
 rw [O.mg]
 rcases O.t.st with ⟨h, _⟩ | ⟨h, _, _⟩
 ·rw [h, if_neg (by omega)]
 rw [if_pos h, h]
 have := this h
 omega
theorem bT.bR {B : Bx} {M : Mo} (O : bT B M) {p i k : Nat} (hp : p ∈ B.W.all) (hk : (ql M.Q i)[k]? = some p) {D : Cs} {V : Tb} {ty : mZ} {A : By} (hy : ty.ok = none → V.ob = []) (uA : B.W.all.Perm (p :: V.all)) (hA : Yq B.C p D V (M.Q.set i ((ql M.Q i).eraseIdx k)) (M.x.left M.Q p)) (TK : Bl B.C B.W p A V) :
  bT ⟨D, V, ty, dJ B.E (B.C.hd p)⟩ (M.bR p) := by
 have L := O.tY hp
 have K := O.k
 have hq := wY O.o hk
 rw [hq] at hA
 have nd := List.nodup_cons.1 (uA.nodup_iff.1 O.t.nd)
 have av : ∀ q, q ∈ V.all ↔ q ∈ B.W.all ∧ q ≠ p := fun q => by
  rw [uA.mem_iff, List.mem_cons]
  exact ⟨fun h => ⟨.inr h, fun e => nd.1 (e ▸ h)⟩, fun h => h.1.resolve_left h.2⟩
 have tZ : D.ae = B.C.ae := by rw [hA.g]; rfl
 have jY : ∀ q, Live D q ↔ Live B.C q ∧ q ≠ p := fun q => by
  rw [hA.g]
  exact Iff.trans ⟨fun h => ⟨⟨h.i, h.own, h.al, h.k⟩, h.tk⟩, fun h => h.wA _⟩ (mO K L q)
 have D7 : ∀ q, q ∈ V.all → D.hd q = B.C.hd q := fun q h => by
  have h2 := (av q).1 h
  rw [hA.g]
  exact ((kx K L).lv q h2.2 (O.tY h2.1)).2.1
 have pC : ∀ q ∈ V.all, pB D.A q = M.it q := fun q h => by
  have h2 := (av q).1 h
  rw [← O.it q h2.1]
  exact yl K hA.d (O.qp h2.1) (O.t.it q h2.1) fun j s => by omega
 have im : ∀ j, (D.pg j).own = (B.C.pg j).own ∧ (D.pg j).lv = (B.C.pg j).lv ∧ (D.pg j).cl = (B.C.pg j).cl := fun j => by rw [hA.g]; exact oJ K L j
 have h0 := O.st0
 have D5 := O.nb
 have hn := O.n
 have Ad := O.mg
 have WE : M.shr ↔ gz B.W := by unfold Mo.shr gz; rw [h0, D5, hn]
 have Ss := O.t.MR
 refine ⟨?_, hA.k, hA.t, hy, hA.o, ?_, ?_, O.ck, fun q => ?_, fun q => ?_, fun q h => ?_, pC, ?_, ?_, ?_, ?_, ?_, ?_, ?_, ?_, ?_, O.wn, ?_, ?_, fun q h => O.lg q ((av q).1 h).1⟩
 ·show D = (M.C.a8 p).wA D.A
  conv => lhs; rw [hA.g, O.c]
  rfl
 ·show ct D.ae.length (fw M.Q p) (M.x.left M.Q p)
  rw [tZ]; exact hA.x
 ·intro j q Hw
  change q ∈ ql (fw M.Q p) j at Hw
  rw [gy] at Hw
  have hqm := List.mem_of_mem_erase Hw
  have e : eM D.A q = eM B.C.A q := lP K hA.d (O.o.lv j q hqm).toAt (by have := ((O.o.lv j q hqm).toAt.bh K).2.1; omega) fun u h1 h2 s => by omega
  show eM D.A q < 16
  rw [e]; exact O.mq j q hqm
 ·show q ∈ V.all ↔ ∃ j, q ∈ ql (fw M.Q p) j
  rw [av q, O.al q]
  refine ⟨fun ⟨⟨j, h1⟩, h2⟩ => ⟨j, by rw [gy]; exact (List.mem_erase_of_ne h2).2 h1⟩, fun ⟨j, h1⟩ => ?_⟩
  rw [gy] at h1
  exact ⟨⟨j, List.mem_of_mem_erase h1⟩, fun e => by subst e; exact (List.Nodup.not_mem_erase (O.o.nd j)) h1⟩
 ·show Live D q ↔ q ∈ V.all ∨ M.hole = some q
  rw [jY q, av q, O.lv q]
  constructor
  ·rintro ⟨h | h, ne⟩
   ·exact .inl ⟨h, ne⟩
   exact .inr h
  rintro (⟨h, ne⟩ | h)
  ·exact ⟨.inl h, ne⟩
  exact ⟨.inr h, fun e => O.ho q h (e ▸ hp)⟩
 ·exact fun g => O.ho q h ((av q).1 g).1
 ·refine (O.rest uA).trans (List.Perm.of_eq (gQ fun q h => ⟨rfl, rfl, D7 q h⟩).symm)
 ·intro h2
  show V.mv < V.ob.length
  by_cases g : gz B.W
  ·obtain ⟨_, _, e1, e2⟩ := TK.Sw g
   rw [e1, e2]; omega
  obtain ⟨_, e1, e2, e3⟩ := TK.same g
  rw [e2, e3]; exact O.st (by rw [← e1]; exact h2)
 ·show V.size = if M.shr then M.nb / 2 else M.nb
  by_cases g : gz B.W
  ·rw [if_pos (WE.2 g), (TK.Sw g).1, D5]
  rw [if_neg fun e => g (WE.1 e), (TK.same g).1, D5]
 ·show (if M.shr then M.nb else M.mg) = if V.st = 2 then V.ob.length - V.mv else 0
  by_cases g : gz B.W
  ·obtain ⟨_, e1, e2, e3⟩ := TK.Sw g
   rw [if_pos (WE.2 g), if_pos e1, e2, e3, D5]; rfl
  obtain ⟨_, e1, e2, e3⟩ := TK.same g
  rw [if_neg fun e => g (WE.1 e), e1, e2, e3]; exact Ad
 ·exact TK.aC.trans O.mo
 ·show M.v.fJ - (M.it p).sz = _
  rw [O.bt, mj _ uA, List.map_cons, List.sum_cons]
  show _ = (V.all.map fun p => (M.it p).sz).sum
  omega
 ·show M.m.un.length = D.ae.length
  rw [tZ]; exact O.un
 ·intro h
  have := O.on h
  obtain ⟨e1, e2, e3⟩ := im M.m.pg
  show M.m.pg < D.n ∧ (D.pg M.m.pg).own = true ∧ (D.pg M.m.pg).lv = true ∧ (D.pg M.m.pg).cl = M.m.fr
  rw [e1, e2, e3, show D.n = B.C.n by rw [hA.g]; rfl]; exact this
 ·intro j h
  rw [show (D.pg j).lv = (B.C.pg j).lv from (im j).2.1] at h
  exact O.go j h
 ·show M.v.c = D.cfg
  rw [hA.g]; exact O.cf
 show V.n = M.n - 1
 rw [TK.n, hn]
def Mo.bz (M : Mo) (p : Nat) : Nat := if 0 < (M.it p).exp ∧ (M.it p).exp ≤ M.k.now then 2 else if (M.it p).tok ≤ M.k.cut then 3 else 0
theorem bT.XR {B : Bx} {M : Mo} (O : bT B M) {p : Nat} (hp : p ∈ B.W.all) : Ee B.C.A M.k p = M.bz p := by
 obtain ⟨f1, f2, f3, f4, f5, f6, f7⟩ := O.lM hp
 unfold Ee Mo.bz
 rw [f1, f3]
theorem kY : ∀ (A R : List aa), gY (A ++ R) A R
 | [], _ => .nil
 | _ :: A, R => .cons .here (kY A R)
theorem vg (z : Ly) (M : Mo) (p : Nat) (hp : M.has p) : aL Tryz.prog 40 [.pointer (some ⟨z.s, 0, none⟩), .int .u64 (M.C.hd p : Int)] (fun _ => True) [SH z M]
  (fun v H => v = .bool (decide (M.bz p ≠ 0)) ∧ H = [SH z M]) :=
 iK fun B O => by
  have gm := (O.al p).2 hp
  have h := (KF z.s z.y (gF M.v) B.C O.k M.k p (O.ito gm)).fr (H := gp z B M ++ []) (R := gp z B M) (kY [] _) (fun k av => ⟨av.nth 8 rfl, av.nth 0 rfl, av.nth 9 rfl⟩)
  rw [O.hd, O.XR gm] at h
  refine h.out ?_
  rintro v H' ⟨H0, ⟨rfl, rfl⟩, rfl⟩
  exact ⟨[SH z M], ⟨rfl, rfl⟩, fun k s => aR O (H := []) k s⟩
theorem BA (z : Ly) (M : Mo) (p : Nat) (hp : M.has p) : aL Tryz.prog 87 [.pointer (some ⟨z.s, 0, none⟩), .int .u64 (M.C.hd p : Int)] (fun _ => True) [SH z M]
  (fun v H => v = .int .i64 (M.bz p : Int) ∧ H = [SH z M]) :=
 iK fun B O => by
  have gm := (O.al p).2 hp
  have h := (vj z.s z.y (gF M.v) B.C O.k M.k p (O.ito gm)).fr (H := gp z B M ++ []) (R := gp z B M) (kY [] _) (fun k av => ⟨av.nth 8 rfl, av.nth 0 rfl, av.nth 9 rfl⟩)
  rw [O.hd, O.XR gm] at h
  refine h.out ?_
  rintro v H' ⟨H0, ⟨rfl, rfl⟩, rfl⟩
  exact ⟨[SH z M], ⟨rfl, rfl⟩, fun k s => aR O (H := []) k s⟩
theorem bT.btb {B : Bx} {M : Mo} (O : bT B M) : M.v.fJ < 4611686018427387904 := by
 rw [O.bt]
 have h2 := xY O.k O.t
 rw [O.t.n] at h2
 have : ∀ l : List Nat, (∀ p ∈ l, p ∈ B.W.all) → (l.map fun p => (M.it p).sz).sum ≤ l.length * 1048576 := fun l => by
  induction l with
  | nil => intro _; simp
  | cons p l ih =>
   intro h
   have hp := h p List.mem_cons_self
   have h1 := O.szp hp
   have h3 := (O.t.it p hp).fits
   have h4 := ((O.qp hp).bh O.k).2.2.1
   have h5 := O.k.toFix.p1
   have := ih fun q hq => h q (List.mem_cons_of_mem _ hq)
   rw [List.map_cons, List.sum_cons, List.length_cons]
   omega
 have := this _ fun p h => h
 have h3 : B.W.all.length * 1048576 ≤ 1073741824 * 1048576 := Nat.mul_le_mul_right _ h2
 omega
theorem vh (z : Ly) (M : Mo) (p : Nat) (hp : M.has p) : aL Tryz.prog 66 [.pointer (some ⟨z.s, 0, none⟩), .int .u64 (M.C.hd p : Int)] (fun _ => True) [SH z M]
  (fun v H => v = .tuple #[] ∧ H = [SH z (M.bR p)]) :=
 iK fun B O => by
  have gm := (O.al p).2 hp
  obtain ⟨i, hi⟩ := hp
  obtain ⟨k, hk⟩ := List.getElem?_of_mem hi
  have tZ := O.szp gm
  have Ar : kl B.C.A p ≤ 250 := by
   have h1 := (iP (O.lg p gm)).2
   rw [← O.it p gm] at h1
   rw [← show (aI B.C.A p).length = kl B.C.A p from cS _ _ _]
   exact h1
  have hb : 58 + kl B.C.A p + vl B.C.A p ≤ M.v.fJ := by
   rw [tZ, O.bt]
   exact wS (fun p => (M.it p).sz) gm
  have h := (KG z.s z.qb z.hot z.warm (aO z.s) (aN z.s) z.y M.v B.C O.k B.W B.ty O.t O.ty M.Q O.o M.x O.x B.E M.tn i k p gm hk Ar hb O.btb).fr (H := gp z B M ++ []) (R := [iN z.y.ck M.k, gf z.y.lu z.y.b z.y.q z.hot z.warm, iB z.y.mo z.y.b z.ub (aO z.s) (aN z.s) (bn z.s) M.m, iM z.ub M.m, eW M]) (kY (Cl z.y.b B.C :: jZ z.y.t z.y.b B.W B.ty ++ [af z.y.q 139 (dy z.y.b z.qb B.C.ae.length), af z.qb 327 (M.Q.flatMap (dD B.C)), ey z.y.cr z.y.q z.y.wh B.C.ae.length (aO z.s) (aN z.s) B.C M.x, Wl z.y.wh B.E M.tn, ij z.s z.y (gF M.v)]) _) (fun k av => av.nth 1 rfl)
  rw [O.hd] at h
  refine h.out ?_
  rintro v H' ⟨H0, ⟨rfl, D, V, ty, rfl, hy, uA, hA, A, TK⟩, rfl⟩
  refine ⟨[SH z (M.bR p)], ⟨rfl, rfl⟩, ?_⟩
  have O1 := O.bR gm hk hy uA hA TK
  have e1 : B.C.ae.length = D.ae.length := by rw [hA.g]; rfl
  rw [wY O.o hk, tZ, ← O.hd, e1]
  exact fun k s => aR O1 (H := []) k s
theorem rH : ∀ {Q : List (List Nat)}, (∀ i, (ql Q i).Nodup) → (∀ i j p, p ∈ ql Q i → p ∈ ql Q j → i = j) → Q.flatten.Nodup
 | [], _, _ => by simp
 | l :: Q, h, g => by
  have ih := rH (Q := Q) (fun i => h (i + 1)) (fun i j p h1 h2 => by have := g (i + 1) (j + 1) p h1 h2; omega)
  rw [List.flatten_cons, List.nodup_append]
  refine ⟨h 0, ih, fun a ha b hb e => ?_⟩
  subst e
  obtain ⟨m, hm, ham⟩ := List.mem_flatten.1 hb
  obtain ⟨i, hi, rfl⟩ := List.getElem_of_mem hm
  have := g 0 (i + 1) a ha (by show a ∈ ql Q i; unfold ql; rw [List.getD_eq_getElem?_getD, List.getElem?_eq_getElem hi]; exact ham)
  omega
theorem eD {Q : List (List Nat)} {p : Nat} : p ∈ Q.flatten ↔ ∃ i, p ∈ ql Q i := by
 rw [List.mem_flatten]
 constructor
 ·rintro ⟨l, hl, hp⟩
  obtain ⟨i, hi, rfl⟩ := List.getElem_of_mem hl
  exact ⟨i, by unfold ql; rw [List.getD_eq_getElem?_getD, List.getElem?_eq_getElem hi]; exact hp⟩
 rintro ⟨i, hp⟩
 unfold ql at hp
 rw [List.getD_eq_getElem?_getD] at hp
 cases h : Q[i]? with
 | none => rw [h] at hp; cases hp
 | some l => rw [h] at hp; exact ⟨l, List.mem_of_getElem? h, hp⟩
theorem bT.perm {B : Bx} {M : Mo} (O : bT B M) : B.W.all.Perm M.Q.flatten :=
 (List.perm_ext_iff_of_nodup O.t.nd (rH O.o.nd fun i j p h g => Cr O.o h g)).2 fun p => (O.al p).trans eD.symm
def ot (h : Nat) : Nat := (h % 4294967296 - 1) * 8
theorem Ux {B : Bx} {M : Mo} (O : bT B M) {p : Nat} (hp : p ∈ B.W.all) : ot (M.C.hd p) = p := by
 obtain ⟨m1, m2, m3, m4, m5, m6⟩ := bM O.k (O.qp hp)
 rw [O.hd] at m1
 unfold ot
 omega
noncomputable def Mo.iu (M : Mo) (now aC : Int) : List Nat := (lV (iq M.C M M.Q.flatten) now aC).map ot
theorem VU {B : Bx} {M : Mo} (O : bT B M) (l : List Nat) : iq B.C M l = iq M.C M l := gQ fun q _ => ⟨rfl, rfl, O.hd q⟩
theorem IP {f : Nat → Nat} : ∀ {l : List Nat}, (l.map f).Nodup → l.Nodup
 | [], _ => List.nodup_nil
 | a :: l, h => by
  rw [List.map_cons, List.nodup_cons] at h
  exact List.nodup_cons.2 ⟨fun g => h.1 (List.mem_map.2 ⟨a, g, rfl⟩), IP h.2⟩
theorem Qj {M : Mo} {now aC : Int} {h : Nat} (hh : h ∈ lV (iq M.C M M.Q.flatten) now aC) : ∃ p, M.has p ∧ h = M.C.hd p := by
 unfold lV at hh
 obtain ⟨x, hx, rfl⟩ := List.mem_map.1 hh
 have h1 := (eU _).mem_iff.1 (List.mem_of_mem_take hx)
 have h2 := (List.mem_filter.1 h1).1
 unfold iq at h2
 obtain ⟨p, hp, rfl⟩ := List.mem_map.1 h2
 exact ⟨p, eD.1 (List.mem_filter.1 hp).1, rfl⟩
theorem ZR (C : Cs) (M : Mo) (l : List Nat) : (iq C M l).map En.h = (l.filter fun p => decide (0 < (M.it p).exp)).map C.hd := by
 unfold iq
 rw [List.map_map]
 exact List.map_congr_left fun p _ => rfl
theorem Rn {B : Bx} {M : Mo} (O : bT B M) : ∀ {l : List Nat}, l.Nodup → (∀ p ∈ l, M.has p) → (l.map M.C.hd).Nodup
 | [], _, _ => List.nodup_nil
 | p :: l, h, g => by
  rw [List.map_cons, List.nodup_cons]
  refine ⟨fun hc => ?_, Rn O (List.nodup_cons.1 h).2 fun q hq => g q (List.mem_cons_of_mem _ hq)⟩
  obtain ⟨q, hq, e⟩ := List.mem_map.1 hc
  rw [← O.hd, ← O.hd] at e
  have := kU O.k (O.qp ((O.al q).2 (g q (List.mem_cons_of_mem _ hq)))) (O.qp ((O.al p).2 (g p List.mem_cons_self))) e
  exact (List.nodup_cons.1 h).1 (this ▸ hq)
theorem V1 {B : Bx} {M : Mo} (O : bT B M) (now aC : Int) : (lV (iq M.C M M.Q.flatten) now aC).Nodup := by
 have n1 : ((iq M.C M M.Q.flatten).map En.h).Nodup := by
  rw [ZR]
  exact Rn O ((rH O.o.nd fun i j p h g => Cr O.o h g).sublist List.filter_sublist) fun p hp => eD.1 (List.mem_filter.1 hp).1
 unfold lV
 generalize iq M.C M M.Q.flatten = E at *
 have n2 : ((E.filter fun x => decide ((x.ex : Int) ≤ now)).map En.h).Nodup := n1.sublist (List.filter_sublist.map _)
 have n3 := ((eU (E.filter fun x => decide ((x.ex : Int) ≤ now))).map En.h).nodup_iff.2 n2
 exact n3.sublist ((List.take_sublist _ _).map _)
theorem JL {B : Bx} {M : Mo} (O : bT B M) : ∀ {l : List Nat}, (∀ h ∈ l, ∃ p, M.has p ∧ h = M.C.hd p) → (l.map ot).map M.C.hd = l ∧ ∀ p ∈ l.map ot, M.has p
 | [], _ => ⟨rfl, fun p h => by cases h⟩
 | h :: l, g => by
  obtain ⟨p, hp, e⟩ := g h List.mem_cons_self
  obtain ⟨i1, i2⟩ := JL O (l := l) fun x hx => g x (List.mem_cons_of_mem _ hx)
  have e1 : ot h = p := by rw [e, Ux O ((O.al p).2 hp)]
  rw [List.map_cons, List.map_cons, e1, i1, e]
  refine ⟨rfl, fun q hq => ?_⟩
  rcases List.mem_cons.1 hq with rfl | hq
  ·exact hp
  exact i2 q hq
theorem V0 {B : Bx} {M : Mo} (O : bT B M) (td : (B.E.map En.tu).Nodup) (now aC : Int) : lV B.E now aC = lV (iq M.C M M.Q.flatten) now aC := by
 have pe : B.E.Perm (iq M.C M M.Q.flatten) := by rw [← VU O]; exact O.e.trans (kB O.perm)
 generalize iq M.C M M.Q.flatten = E at *
 unfold lV
 rw [tE (pe.filter _)]
 exact ((pe.map En.tu).nodup_iff.1 td).sublist (List.filter_sublist.map _)
theorem bT.due {B : Bx} {M : Mo} (O : bT B M) (td : (B.E.map En.tu).Nodup) (now aC : Int) : lV B.E now aC = (M.iu now aC).map M.C.hd ∧ (∀ p ∈ M.iu now aC, M.has p) ∧ (M.iu now aC).Nodup := by
 obtain ⟨e1, e2⟩ := JL O (l := lV (iq M.C M M.Q.flatten) now aC) fun h hh => Qj hh
 have nh := V1 O now aC
 have e3 := V0 O td now aC
 unfold Mo.iu
 generalize lV (iq M.C M M.Q.flatten) now aC = L at *
 refine ⟨e3.trans e1.symm, e2, ?_⟩
 rw [← e1] at nh
 exact IP nh
theorem KA (xM : oD) (z : Ly) (M : Mo) (now aC : Int) : aL Tryz.prog 89 [.pointer (some ⟨z.y.wh, 0, none⟩), .int .i64 now, .int .i64 aC] (fun _ => True) [SH z M]
  (fun v H => ∃ a c, v = .slice a (M.iu now aC).length c ∧ (∀ p ∈ M.iu now aC, M.has p) ∧ (M.iu now aC).Nodup ∧ H = [own a c 117 1 (xH ((M.iu now aC).map M.C.hd)), SH z M]) :=
 iK fun B O => fun F w _ s => by
  obtain ⟨k, hk, _⟩ := (s.sub fun k x => (ez.out (.there (.there (.there (.there (.there (.there (.there .here))))))) k x)).get
  obtain ⟨y, N, p, W, _⟩ := S6 ⟨k, hk, Le.refl _⟩
  have td : (B.E.map En.tu).Nodup := (p.map En.tu).nodup_iff.1 W.td
  obtain ⟨e1, e2, e3⟩ := O.due td now aC
  have h := ((QF xM z.y.wh B.E M.tn now aC).fr (H := gp z B M ++ []) (R := gp z B M) (kY [] _) (fun k av => av.nth 7 rfl)) F w trivial s
  refine h.mono ?_
  rintro e w' ⟨v, H', he, ⟨H0, ⟨a, c, rfl, rfl⟩, rfl⟩, st⟩
  refine ⟨_, _, he, ⟨a, c, by rw [e1, List.length_map], e2, e3, rfl⟩, ?_⟩
  rw [← e1]
  exact st.sub fun k x => aK (fun k x => aR O (H := []) k (by rw [List.append_nil]; exact x)) x
theorem bT.cw {B : Bx} {M : Mo} (O : bT B M) {y : Cw} (X : ct B.C.ae.length M.Q y) : bT B { M with x := y } :=
 ⟨O.c, O.k, O.t, O.ty, O.o, X, O.mq, O.ck, O.al, O.lv, O.ho, O.it, O.e, O.st, O.nb, O.mg, O.mo, O.bt, O.un, O.on, O.go, O.wn, O.cf, O.n, O.lg⟩
def Mo.gL (M : Mo) : Nat := M.C.ae.length
theorem bT.gL {B : Bx} {M : Mo} (O : bT B M) : B.C.ae.length = M.gL := by rw [O.c]; rfl
theorem ER (z : Ly) (M : Mo) : aL Tryz.prog 91 [.pointer (some ⟨z.y.cr, 0, none⟩)] (fun _ => True) [SH z M]
  (fun v H => ∃ r x, v = .bool r ∧ M.x.find M.gL M.Q = (r, x) ∧ H = [SH z { M with x := x }] ∧ (r = true → ∃ p, x.nx = some p ∧ M.has p)) :=
 iK fun B O => by
  have h := (MC z.y.cr z.y.q z.y.wh z.y.b z.qb (aO z.s) (aN z.s) B.C O.k M.Q O.o M.x O.x).fr (H := gp z B M ++ []) (R := [Cl z.y.b B.C, af z.y.t 145 (dg z.y.b B.W B.ty), af B.ty.nk 163 (ax (ao B.W.nb)), fI B.ty.ok 163 (ax (ao B.W.ob)), af z.y.q 139 (dy z.y.b z.qb B.C.ae.length), af z.qb 327 (M.Q.flatMap (dD B.C)), Wl z.y.wh B.E M.tn, ij z.s z.y (gF M.v),
   iN z.y.ck M.k, gf z.y.lu z.y.b z.y.q z.hot z.warm, iB z.y.mo z.y.b z.ub (aO z.s) (aN z.s) (bn z.s) M.m, iM z.ub M.m, eW M]) (.cons (.there (.there (.there (.there (.there (.there .here)))))) .nil) (fun k av => ⟨av.nth 4 rfl, av.nth 5 rfl, trivial⟩)
  refine h.out ?_
  rintro v H' ⟨H0, ⟨r, x, rfl, rfl, e, X, hr⟩, rfl⟩
  rw [O.gL] at e
  refine ⟨_, ⟨r, x, rfl, e, rfl, fun h => ?_⟩, ?_⟩
  ·cases hx : x.nx with
   | none => exact absurd hx (hr h)
   | some p => exact ⟨p, rfl, _, (X.nx p hx).1⟩
  refine fun k s => aR (O.cw X) (H := []) k ?_
  revert s
  revert k
  simp only [uy, cap, List.append_nil]
  unfold gp
  exact Eh
theorem EP (z : Ly) (M : Mo) (p : Nat) (hp : M.x.nx = some p) : aL Tryz.prog 92 [.pointer (some ⟨z.y.cr, 0, none⟩)] (fun _ => True) [SH z M]
  (fun v H => v = .int .u64 (M.C.hd p : Int) ∧ H = [SH z { M with x := M.x.pass M.Q }]) :=
 iK fun B O => by
  have h := (zj z.y.cr z.y.q z.y.wh B.C.ae.length z.y.b z.qb (aO z.s) (aN z.s) B.C O.k M.Q O.o M.x O.x p hp).fr (H := gp z B M ++ []) (R := [Cl z.y.b B.C, af z.y.t 145 (dg z.y.b B.W B.ty), af B.ty.nk 163 (ax (ao B.W.nb)), fI B.ty.ok 163 (ax (ao B.W.ob)), af z.y.q 139 (dy z.y.b z.qb B.C.ae.length), af z.qb 327 (M.Q.flatMap (dD B.C)), Wl z.y.wh B.E M.tn, ij z.s z.y (gF M.v),
   iN z.y.ck M.k, gf z.y.lu z.y.b z.y.q z.hot z.warm, iB z.y.mo z.y.b z.ub (aO z.s) (aN z.s) (bn z.s) M.m, iM z.ub M.m, eW M]) (.cons (.there (.there (.there (.there (.there (.there .here)))))) .nil) (fun k av => ⟨av.nth 0 rfl, av.nth 4 rfl, av.nth 5 rfl, trivial⟩)
  rw [O.hd] at h
  refine h.out ?_
  rintro v H' ⟨H0, ⟨rfl, rfl⟩, rfl⟩
  refine ⟨_, ⟨rfl, rfl⟩, fun k s => aR (O.cw O.x.pass) (H := []) k ?_⟩
  revert s
  revert k
  simp only [uy, cap, List.append_nil]
  unfold gp
  exact Eh
theorem eK {n : Nat} {ds : List Deferred} {F : c9} {K : Act → World → Prop} {σ : aS} {z : Ly} {M : Mo} {H : List aa} (h : ∀ B, bT B M → G n ds F K σ (gp z B M ++ H)) : G n ds F K σ (SH z M :: H) :=
 Yd fun B => U1 fun O => rG (h B O)
theorem Cz {n : Nat} {ds : List Deferred} {F : c9} {K : Act → World → Prop} {σ : aS} {z : Ly} {B : Bx} {M : Mo} {H : List aa} (O : bT B M) (h : G n ds F K σ (SH z M :: H)) : G n ds F K σ (gp z B M ++ H) :=
 az (aR O) h
def Mo.look (M : Mo) (p : Nat) : Mo := if M.bz p ≠ 0 then M.bR p else M
theorem yQ (b6 lb l : Nat) (hl : l < 4611686018427387904) : FnD Tryz.prog 144 [.pointer (some ⟨b6, 0, none⟩)] (fun _ => True) [af b6 180 [.pointer (some ⟨lb, 0, none⟩)], af lb 3 [.int .i64 (l : Int)]]
  (fun v H => v = .tuple #[] ∧ H = [af lb 3 [.int .i64 ((l + 1 : Nat) : Int)]]) := by
 refine Fl T.VB Tryz.func144 rfl Tryz.ntmps144 rfl ?_
 intro F _
 refine bO ?_
 refine aB ?_
 refine jN [af lb 3 [.int .i64 ((l + 1 : Nat) : Int)]] Tryz.results144 ?_
 exact ⟨rfl, rfl⟩
theorem Dp (z : Ly) (M : Mo) (p : Nat) (hp : M.has p) (lb tb l t : Nat) (hl : l < 4611686018427387904) (ht : t < 4611686018427387904) :
  aL Tryz.prog 90 [.pointer (some ⟨z.y.cr, 0, none⟩), .int .u64 (M.C.hd p : Int), .pointer (some ⟨lb, 0, none⟩), .pointer (some ⟨tb, 0, none⟩)] (fun _ => True) [SH z M, af lb 3 [.int .i64 (l : Int)], af tb 3 [.int .i64 (t : Int)]]
   (fun v H => v = .tuple #[] ∧ ∃ t' : Nat, t' ≤ t + 1 ∧ H = [SH z (M.look p), af lb 3 [.int .i64 ((l + 1 : Nat) : Int)], af tb 3 [.int .i64 (t' : Int)]]) := by
 have dead := vg z M p hp
 have bR := vh z M p hp
 refine LO Tryz.func90 rfl Tryz.ntmps90 rfl ?_
 intro F _
 refine aD ?_
 refine Lp (oB fun b1 => ?_)
 refine bw ?_
 refine Li Mf ?_
 refine Lp (oDv ?_)
 refine aD ?_
 refine Hh (H' := [SH z M, af b1 180 [.pointer (some ⟨lb, 0, none⟩)], af lb 3 [.int .i64 (l : Int)], af tb 3 [.int .i64 (t : Int)]]) ?_
 refine eK fun B O => ?_
 unfold gp ey rS
 simp only [uy, cap]
 refine bq ?_
 refine Cz (z := z) (B := B) (M := M) (H := [af b1 180 [.pointer (some ⟨lb, 0, none⟩)], af lb 3 [.int .i64 (l : Int)], af tb 3 [.int .i64 (t : Int)]]) O ?_
 refine aD ?_
 refine Lp (oCV T.RF rfl rfl rfl dead (.cons .here .nil) (fun _ le _ => trivial) fun v H' hr => ?_)
 obtain ⟨rfl, rfl⟩ := hr
 simp only [uy, cap]
 refine aD ?_
 refine au rfl ?_ ?_
 ·intro nE
  replace nE := aF nE
  have Sf : M.look p = M.bR p := by unfold Mo.look; rw [if_pos (by simpa using nE)]
  refine eK fun B O => ?_
  unfold gp ey rS
  simp only [uy, cap]
  refine bq ?_
  refine Cz (z := z) (B := B) (M := M) (H := [af b1 180 [.pointer (some ⟨lb, 0, none⟩)], af lb 3 [.int .i64 (l : Int)], af tb 3 [.int .i64 (t : Int)]]) O ?_
  refine aD ?_
  refine Lp (oCV T.Ie rfl rfl rfl bR (.cons .here .nil) (fun _ le _ => trivial) fun v H' hr => ?_)
  obtain ⟨rfl, rfl⟩ := hr
  simp only [uy, cap]
  refine cX ?_
  refine aB ?_
  refine Ym [SH z (M.look p), af lb 3 [.int .i64 ((l + 1 : Nat) : Int)], af tb 3 [.int .i64 ((t + 1 : Nat) : Int)]] Tryz.results90 (yQ b1 lb l hl) (.cons (.there .here) (.cons (.there .here) .nil)) (fun _ _ _ => trivial) ?_
  rintro v H' ⟨rfl, rfl⟩
  refine ⟨⟨rfl, t + 1, Nat.le_refl _, rfl⟩, ?_⟩
  rw [Sf]
  exact Eh
 intro nE
 replace nE := aF nE
 have Sf : M.look p = M := by unfold Mo.look; rw [if_neg (by simpa using nE)]
 refine aD ?_
 refine Ym [SH z (M.look p), af lb 3 [.int .i64 ((l + 1 : Nat) : Int)], af tb 3 [.int .i64 (t : Int)]] Tryz.results90 (yQ b1 lb l hl) (.cons (.there .here) (.cons (.there .here) .nil)) (fun _ _ _ => trivial) ?_
 rintro v H' ⟨rfl, rfl⟩
 refine ⟨⟨rfl, t, by omega, rfl⟩, ?_⟩
 rw [Sf]
 exact Eh
theorem H9 {n : Nat} {ds : List Deferred} {F : c9} {K : Act → World → Prop} {σ : aS} {z : Ly} {M : Mo} {H : List aa} (h : ∀ B, bT B M → G n ds F K σ (SH z M :: H)) : G n ds F K σ (SH z M :: H) :=
 eK fun B O => Cz O (h B O)
theorem Hb {B : Bx} {M : Mo} (O : bT B M) {p q : Nat} (hp : M.has p) (hq : M.has q) (ne : q ≠ p) : (M.bR p).has q ∧ (M.bR p).C.hd q = M.C.hd q := by
 obtain ⟨i, hi⟩ := hq
 refine ⟨⟨i, ?_⟩, ?_⟩
 ·show q ∈ ql (fw M.Q p) i
  rw [gy]
  exact (List.mem_erase_of_ne ne).2 hi
 have h := ((kx O.k (O.tY ((O.al p).2 hp))).lv q ne (O.tY ((O.al q).2 ⟨i, hi⟩))).2.1
 rw [O.hd] at h
 rw [← h]
 show (M.C.a8 p).hd q = (B.C.a8 p).hd q
 rw [O.c]; rfl
theorem Fb {B : Bx} {M : Mo} (O : bT B M) {p q : Nat} (hp : M.has p) (hq : M.has q) (ne : q ≠ p) : (M.look p).has q ∧ (M.look p).C.hd q = M.C.hd q := by
 unfold Mo.look
 split
 ·exact Hb O hp hq ne
 exact ⟨hq, rfl⟩
def Mo.bI : Nat → Mo → Nat × Mo
 | 0, M => (0, M)
 | f + 1, M => match M.x.find M.gL M.Q with
  | (true, x) => (match x.nx with
   | some p => (((({ M with x := x.pass M.Q } : Mo).look p).bI f).1 + 1, ((({ M with x := x.pass M.Q } : Mo).look p).bI f).2)
   | none => (0, { M with x := x }))
  | (false, x) => (0, { M with x := x })
theorem mR {M : Mo} {f : Nat} {x : Cw} (h : M.x.find M.gL M.Q = (false, x)) : M.bI (f + 1) = (0, { M with x := x }) := by
 unfold Mo.bI
 rw [h]
theorem mQ {M : Mo} {f p : Nat} {x : Cw} (h : M.x.find M.gL M.Q = (true, x)) (hp : x.nx = some p) : M.bI (f + 1) = (((({ M with x := x.pass M.Q } : Mo).look p).bI f).1 + 1, ((({ M with x := x.pass M.Q } : Mo).look p).bI f).2) := by
 conv => lhs; unfold Mo.bI
 rw [h]
 dsimp only
 rw [hp]
noncomputable def Mo.nS (M : Mo) (now m : Int) : Nat × Mo := ((M.iu now m).length + (((M.iu now m).foldl Mo.look M).bI (m.toNat - (M.iu now m).length)).1, (((M.iu now m).foldl Mo.look M).bI (m.toNat - (M.iu now m).length)).2)
noncomputable def Mo.dC (M : Mo) (now aC : Int) : Nat × Mo := if min aC 1048576 < 1 then (0, M) else M.nS now (min aC 1048576)
theorem Mr (M : Mo) (now m : Int) : (M.iu now m).length ≤ m.toNat := by
 unfold Mo.iu lV
 rw [List.length_map, List.length_map, List.length_take]
 omega
theorem UX (l : List Nat) (k : Nat) (h : k < l.length) : (xH l)[k]? = some (.int .u64 (l[k] : Int)) := by
 unfold xH
 rw [List.getElem?_map, List.getElem?_eq_getElem h]; rfl
theorem P3 (l : List Nat) : (xH l).length = l.length := List.length_map _
theorem MB (xM : oD) (z : Ly) (M : Mo) (now aC : Int) :
  aL Tryz.prog 45 [.pointer (some ⟨z.y.cr, 0, none⟩), .int .i64 now, .int .i64 aC] (fun _ => True) [SH z M]
   (fun v H => ∃ n t M', M.dC now aC = (n, M') ∧ v = .tuple #[.int .i64 (n : Int), .int .i64 (t : Int)] ∧ H = [SH z M']) := by
 have due := KA xM z M now (min aC 1048576)
 have QN := Mr M now (min aC 1048576)
 have Nf : M.dC now aC = if min aC 1048576 < 1 then (0, M) else M.nS now (min aC 1048576) := rfl
 have hmle : min aC 1048576 ≤ 1048576 := Int.min_le_right _ _
 refine ag Tryz.func45 rfl Tryz.ntmps45 rfl ?_
 intro F _
 refine aD ?_
 refine Lp (oA T.XP fun b1 => ?_)
 refine Lp (oA T.XP fun b2 => ?_)
 refine bL ?_
 refine Li Mi ?_
 refine bw ?_
 refine ay ?_
 refine aw (t := 2) (v' := (.int .i64 (min aC 1048576))) rfl (by rfl) ?_
 generalize min aC 1048576 = m at *
 refine bb ?_
 by_cases h1 : m < 1
 ·refine gK ?_ (e := by exact decide_eq_true h1)
  refine bE ?_
  refine S7 [SH z M] T.eL T.eL Tryz.results45 ?_
  exact ⟨0, 0, M, by rw [Nf, if_pos h1], rfl, rfl⟩
 rw [if_neg h1] at Nf
 refine dq ?_ (e := by exact decide_eq_false h1)
 refine bw ?_
 refine ay ?_
 refine Hh (H' := [SH z M, af b1 3 [.int .i64 0], af b2 3 [.int .i64 0]]) ?_
 refine eK fun B O => ?_
 unfold gp ey rS
 simp only [uy, cap]
 refine bq ?_
 refine Cz (z := z) (B := B) (M := M) (H := [af b1 3 [.int .i64 0], af b2 3 [.int .i64 0]]) O ?_
 refine bw ?_
 refine Lp (oC T.Zv rfl rfl (due) (.cons .here .nil) (fun _ _ _ => trivial) ?_)
 rintro v H' ⟨sa, sc, rfl, hhas, uB, rfl⟩
 refine bo ?_
 unfold Mo.nS at Nf
 generalize M.iu now m = D at *
 have ua : (xH (D.map M.C.hd)).length = D.length := by rw [P3, List.length_map]
 have NV : m.toNat ≤ 1048576 := by omega
 refine bb ?_
 refine Lo (ι := Nat × Nat) [23, 24, 25, 9, 26, 27, 28, 29, 22] (fun s => (s.1 ≤ D.length ∧ s.2 ≤ s.1) ∧ ∀ q ∈ D.drop s.1, ((D.take s.1).foldl Mo.look M).has q ∧ ((D.take s.1).foldl Mo.look M).C.hd q = M.C.hd q) (fun s => [(22, .int .i64 (s.1 : Int))]) (fun s => [SH z ((D.take s.1).foldl Mo.look M), own sa sc 117 1 (xH (D.map M.C.hd)), af b1 3 [.int .i64 (s.1 : Int)], af b2 3 [.int .i64 (s.2 : Int)]]) (fun s => D.length - s.1) ((0, 0)) ⟨⟨Nat.zero_le _, Nat.le_refl _⟩, fun q hq => ⟨hhas q hq, rfl⟩⟩ ?_
 rintro ⟨k, t⟩ hI
 dsimp only at hI ⊢
 obtain ⟨⟨hk, M6⟩, H6⟩ := hI
 by_cases cJ : k < D.length
 ·have Hk : (xH (D.map M.C.hd))[k]? = some (.int .u64 (M.C.hd D[k] : Int)) := by rw [UX _ _ (by rw [List.length_map]; exact cJ), List.getElem_map]
  have hdr : D.drop k = D[k] :: D.drop (k + 1) := List.drop_eq_getElem_cons cJ
  rw [hdr] at H6
  obtain ⟨Xi, gm⟩ := H6 _ List.mem_cons_self
  have Rk : (D.take (k + 1)).foldl Mo.look M = ((D.take k).foldl Mo.look M).look D[k] := by
   rw [List.take_add_one, List.getElem?_eq_getElem cJ, List.foldl_append]; rfl
  have hnd2 : ∀ q ∈ D.drop (k + 1), q ≠ D[k] := fun q hq e => by
   have := uB.sublist (List.drop_sublist k D)
   rw [hdr, List.nodup_cons] at this
   exact this.1 (e ▸ hq)
  have lk := fun lb tb => Dp z ((D.take k).foldl Mo.look M) D[k] Xi lb tb k t (by omega) (by omega)
  rw [gm] at lk
  refine H9 fun B2 O2 => ?_
  refine jf (eS (.there .here) (fun _ o => hJ o (by omega))) fun QO => ?_
  refine bL ?_
  refine ay ?_
  refine gK ?_
  refine bq ?_
  refine Li (Ix T.IF) ?_
  refine bE ?_
  refine Lp (oC T.Rv rfl rfl (lk _ _) (.cons .here (.cons (.there .here) (.cons (.there .here) .nil))) (fun _ _ _ => trivial) ?_)
  rintro v H' ⟨rfl, t2, oc, rfl⟩
  refine bo ?_
  refine Hh (H' := [SH z (((D.take k).foldl Mo.look M).look D[k]), own sa sc 117 1 (xH (D.map M.C.hd)), af b1 3 [.int .i64 ((k + 1 : Nat) : Int)], af b2 3 [.int .i64 (t2 : Int)]]) ?_
  refine bE ?_
  refine aB ?_
  rw [← Rk]
  refine Ro ((k + 1, t2)) (⟨⟨cJ, (by dsimp only; omega)⟩, fun q hq => (by have ne := hnd2 q hq; obtain ⟨g1, g2⟩ := H6 q (List.mem_cons_of_mem _ hq); obtain ⟨g3, g4⟩ := Fb O2 Xi g1 ne; rw [Rk]; exact ⟨g3, g4.trans g2⟩)⟩) ((by dsimp only; omega))
 obtain rfl : k = D.length := by omega
 rw [List.take_length]
 refine bL ?_
 refine ay ?_
 refine dq ?_
 refine bO ?_
 generalize hN0 : D.foldl Mo.look M = N0 at *
 refine Lo (ι := Mo × Nat × Nat) [30, 31, 32, 33, 34, 35, 36, 37, 38, 39, 40] (fun s => (D.length ≤ s.2.1 ∧ s.2.1 ≤ m.toNat ∧ s.2.2 ≤ s.2.1) ∧ N0.bI (m.toNat - D.length) = (s.2.1 - D.length + (s.1.bI (m.toNat - s.2.1)).1, (s.1.bI (m.toNat - s.2.1)).2)) (fun s => []) (fun s => [SH z s.1, af b1 3 [.int .i64 (s.2.1 : Int)], af b2 3 [.int .i64 (s.2.2 : Int)]]) (fun s => m.toNat - s.2.1) ((N0, D.length, t)) ⟨⟨Nat.le_refl _, QN, M6⟩, (by dsimp only; rw [Nat.sub_self, Nat.zero_add])⟩ ?_
 rintro ⟨N, l, t⟩ hI
 dsimp only at hI ⊢
 obtain ⟨⟨i1, i2, i3⟩, i4⟩ := hI
 refine bE ?_
 by_cases hlm : (l : Int) < m
 ·obtain ⟨f, hf⟩ : ∃ f, m.toNat - l = f + 1 := ⟨m.toNat - l - 1, by omega⟩
  rw [hf] at i4
  refine zt 33 ?_ (e := by exact decide_eq_true hlm)
  refine aD ?_
  refine Lp (oC T.Zu rfl rfl (ER z N) (.cons .here .nil) (fun _ _ _ => trivial) ?_)
  rintro v H' ⟨r, x, rfl, Rl, rfl, hr⟩
  refine bo ?_
  rcases r with _ | _
  ·refine Li Pt ?_
   refine gg ?_
   refine S7 [SH z { N with x := x }] T.eL T.eL Tryz.results45 ?_
   refine ⟨l, t, { N with x := x }, ?_, rfl, rfl⟩
   rw [Nf, i4, mR Rl]
   exact Prod.ext (by dsimp only; omega) rfl
  obtain ⟨p, hpx, hph⟩ := hr rfl
  rw [mQ Rl hpx] at i4
  dsimp only at i4
  refine cY ?_
  refine zl T.Ru (EP z { N with x := x } p hpx) (.cons .here .nil) (fun _ _ _ => trivial) ?_
  have lk := fun lb tb => Dp z { N with x := x.pass N.Q } p hph lb tb l t (by omega) (by omega)
  refine Lp (oC T.Rv rfl rfl (lk _ _) (.cons .here (.cons .here (.cons .here .nil))) (fun _ _ _ => trivial) ?_)
  rintro v H' ⟨rfl, t2, oc, rfl⟩
  refine bo ?_
  refine bw ?_
  refine Ro ((({ N with x := x.pass N.Q } : Mo).look p, l + 1, t2)) (⟨⟨(by dsimp only; omega), (by dsimp only; omega), (by dsimp only; omega)⟩, (by dsimp only; rw [i4, show m.toNat - (l + 1) = f by omega]; exact Prod.ext (by dsimp only; omega) rfl)⟩) ((by dsimp only; omega))
 have X7 : m.toNat - l = 0 := by omega
 rw [X7] at i4
 refine zf 33 ?_ (e := by exact decide_eq_false hlm)
 refine mV ?_
 refine S7 [SH z N] T.eL T.eL Tryz.results45 ?_
 refine ⟨l, t, N, ?_, rfl, rfl⟩
 rw [Nf, i4]
 exact Prod.ext (by show D.length + (l - D.length + 0) = l; omega) rfl
theorem bT.cls {B : Bx} {M : Mo} (O : bT B M) {D N : Cs} {ho' : Option Nat} {m' : jQ} (K2 : Ok D) (hN : D = N.wA B.C.A) (S : xI B.C D (fun q => q ∈ B.W.all)) (Ng : D.cfg = B.C.cfg) (lv : ∀ q, Live D q ↔ q ∈ B.W.all ∨ ho' = some q) (hoo : ∀ q, ho' = some q → q ∉ B.W.all)
  (un : m'.un.length = D.ae.length) (on : m'.on = true → m'.pg < D.n ∧ (D.pg m'.pg).own = true ∧ (D.pg m'.pg).lv = true ∧ (D.pg m'.pg).cl = m'.fr) (go : ∀ i, (D.pg i).lv = true → m'.on = true ∧ i = m'.pg) :
  bT ⟨D, B.W, B.ty, B.E⟩ { M with C := N, hole := ho', m := m' } := by
 have hA : D.A = B.C.A := S.a
 have hs : D.ae.length = B.C.ae.length := by rw [S.sz]
 refine ⟨?_, K2, S.tb O.t fun p h => h, O.ty, S.qu O.o fun i p h => O.z8 h, by show ct D.ae.length _ _; rw [hs]; exact O.x, fun i p h => by show eM D.A p < 16; rw [hA]; exact O.mq i p h, O.ck, O.al, lv, hoo, fun p h => by show pB D.A p = _; rw [hA]; exact O.it p h, ?_, O.st, O.nb, O.mg, O.mo, O.bt, un, on, go, O.wn, by show M.v.c = D.cfg; rw [Ng]; exact O.cf, O.n, O.lg⟩
 ·show D = N.wA D.A
  rw [hA]; exact hN
 exact O.e.trans (List.Perm.of_eq (gQ fun q h => ⟨rfl, rfl, (S.lv q h (O.tY h)).2.1⟩).symm)
theorem bT.WR {B : Bx} {M : Mo} (O : bT B M) {r : Nat} (hr : M.hole = some r) {A : By} (d : cZ B.C B.C.A A (fun q _ => q = r)) : bT ⟨B.C.wA A, B.W, B.ty, B.E⟩ M := by
 have K := O.k
 have ne : ∀ q ∈ B.W.all, q ≠ r := fun q h e => O.ho r hr (e ▸ h)
 have r_ := fun (q : Nat) (hq : q ∈ B.W.all) (o w : Nat) (h2 : o + w ≤ B.C.sz (B.C.cl q)) => lP K d (O.qp hq) h2 (fun j _ _ s => ne q hq s)
 have n1 : ∀ q ∈ B.W.all, 64 ≤ B.C.sz (B.C.cl q) := fun q hq => ((O.qp hq).bh K).2.1
 have it_ : ∀ q ∈ B.W.all, pB A q = pB B.C.A q := fun q hq => yl K d (O.qp hq) (O.t.it q hq) (fun j s => absurd s (ne q hq))
 have kp : ∀ q ∈ B.W.all, Kept B.C A q := fun q hq => nU K d (O.qp hq) (O.t.it q hq) (fun j s => absurd s (ne q hq))
 refine ⟨?_, K.wA A, tb_K K O.t kp (fun q hq => r_ q hq 0 4 (by have := n1 q hq; omega)), O.ty, ?_, O.x, ?_, O.ck, O.al, fun q => ?_, O.ho, fun q hq => (it_ q hq).trans (O.it q hq), O.e, O.st, O.nb, O.mg, O.mo, O.bt, O.un, O.on, O.go, O.wn, O.cf, O.n, O.lg⟩
 ·show B.C.wA A = M.C.wA A
  conv => lhs; rw [O.c]
  rfl
 ·exact qu_K O.o (fun i q hq => kp q (O.z8 hq)) (fun i q hq => r_ q (O.z8 hq) 45 1 (by have := n1 q (O.z8 hq); omega)) (fun i q hq => r_ q (O.z8 hq) (4 * 1) 4 (by have := n1 q (O.z8 hq); omega)) (fun i q hq => r_ q (O.z8 hq) (4 * 2) 4 (by have := n1 q (O.z8 hq); omega))
 ·intro i q hq
  show eM A q < 16
  rw [show eM A q = eM B.C.A q from congrArg I3.du (it_ q (O.z8 hq))]
  exact O.mq i q hq
 refine Iff.trans ?_ (O.lv q)
 exact ⟨fun h => ⟨⟨h.i, h.own, h.al, h.k⟩, h.tk⟩, fun h => h.wA A⟩
structure Tkn (C : Cs) (c p : Nat) (D : Cs) : Prop where
 k : Ok D
 no : ¬ Live C p
 lv : ∀ q, Live D q ↔ Live C q ∨ q = p
 hd : ∀ q, Live C q → D.hd q = C.hd q ∧ D.cl q = C.cl q
 cl : D.cl p = c
 sz : D.ae = C.ae
 n : D.n = C.n
 ps : D.ai = C.ai
 cf : D.cfg = C.cfg
 lf : ∀ i, (D.pg i).lv = (C.pg i).lv
 pg : ∀ i, (C.pg i).own = true → (D.pg i).own = true ∧ (D.pg i).cl = (C.pg i).cl
 dA : cZ D C.A D.A (fun q _ => q = p)
 nA : ∀ A, ∃ A', (C.wA A).dw c = some (p, D.wA A')
theorem Kq {C : Cs} (K : Ok C) {c p : Nat} (h : (C.rw c).free.getLast? = some p) (j : Nat) : (C.fA c p).pg j = if j = C.pn p then { C.pg (C.pn p) with tk := (C.pg (C.pn p)).tk.set (C.ix p) true, held := (C.pg (C.pn p)).held + 1 } else C.pg j := by
 obtain ⟨_, _, F⟩ := sO K h
 exact jS (by rw [K.pl]; exact F.i) j
theorem QW {C : Cs} (K : Ok C) {c p : Nat} (h : (C.rw c).free.getLast? = some p) : Tkn C c p (C.fA c p) := by
 obtain ⟨K2, S, F⟩ := sO K h
 have im := Kq K h
 have e1 : ∀ q, C.pn q = C.pn p → (C.fA c p).pg (C.pn q) = { C.pg (C.pn p) with tk := (C.pg (C.pn p)).tk.set (C.ix p) true, held := (C.pg (C.pn p)).held + 1 } := fun q e => by rw [im, if_pos e]
 have e2 : ∀ q, C.pn q ≠ C.pn p → (C.fA c p).pg (C.pn q) = C.pg (C.pn q) := fun q e => by rw [im, if_neg e]
 have nC : ¬ Live C p := fun L => by
  have a := F.tk
  have b := L.tk
  rw [a] at b; cases b
 have cJ := (List.getElem?_eq_some_iff.1 F.tk).1
 have f1 := K.toFix.p1
 refine ⟨K2, nC, fun q => ?_, fun q L => ?_, by rw [S.cl]; exact F.cl, S.ae, S.n, S.ai, rfl, fun i => ?_, fun i ho => ?_, ?_, fun A => ?_⟩
 ·constructor
  ·intro L
   have a := S.at.1 L.toAt
   have t := L.tk
   rw [S.pn, S.ix] at t
   by_cases e : C.pn q = C.pn p
   ·by_cases g : q = p
    ·exact .inr g
    rw [e1 q e] at t
    change ((C.pg (C.pn p)).tk.set (C.ix p) true)[C.ix q]? = some true at t
    rw [List.getElem?_set_ne (fun z => se K F.toAt a e g z.symm), ← e] at t
    exact .inl ⟨a, t⟩
   rw [e2 q e] at t
   exact .inl ⟨a, t⟩
  rintro (L | rfl)
  ·refine ⟨S.at.2 L.toAt, ?_⟩
   rw [S.pn, S.ix]
   by_cases e : C.pn q = C.pn p
   ·have g : q ≠ p := fun g => nC (g ▸ L)
    rw [e1 q e]
    show ((C.pg (C.pn p)).tk.set (C.ix p) true)[C.ix q]? = some true
    rw [List.getElem?_set_ne (fun z => se K F.toAt L.toAt e g z.symm), ← e]
    exact L.tk
   rw [e2 q e]; exact L.tk
  refine ⟨S.at.2 F.toAt, ?_⟩
  rw [S.pn, S.ix, e1 q rfl]
  show ((C.pg (C.pn q)).tk.set (C.ix q) true)[C.ix q]? = some true
  rw [List.getElem?_set_self cJ]
 ·refine ⟨?_, S.cl q⟩
  unfold Cs.hd Cs.gen
  rw [S.pn, S.ix]
  by_cases e : C.pn q = C.pn p
  ·rw [e1 q e, e]
  rw [e2 q e]
 ·rw [im]
  by_cases e : i = C.pn p
  ·rw [if_pos e, e]
  rw [if_neg e]
 ·rw [im]
  by_cases e : i = C.pn p
  ·rw [if_pos e, e]; rw [e] at ho; exact ⟨ho, rfl⟩
  rw [if_neg e]; exact ⟨ho, rfl⟩
 ·intro i hi
  have hr : p ≤ i ∧ i < p + 56 := by
   refine Decidable.byContradiction fun g => hi ?_
   show wr (lay C.A p (List.replicate 56 0)) (p + 12) 4 (C.gen p) i = C.A i
   unfold wr
   rw [gA _ _ _ _ (by rw [kW]; omega), gA _ _ _ _ (by rw [List.length_replicate]; omega)]
  have := ((S.at.2 F.toAt).bh K2).2.1
  exact ⟨p, i - p, S.at.2 F.toAt, by omega, rfl, by omega⟩
 refine ⟨((C.wA A).fA c p).A, ?_⟩
 have : (C.wA A).dw c = some (p, (C.wA A).fA c p) := by
  unfold Cs.dw
  rw [show ((C.wA A).rw c).free.getLast? = some p from h]
 rw [this]; rfl
theorem Ka {C : Cs} (K : Ok C) {i c : Nat} (hi : i < C.n) (j : Nat) : (C.bG i c).pg j = if j = i then C.dT i c else C.pg j := jS (by rw [K.pl]; exact hi) j
theorem YK {C : Cs} (K : Ok C) {i c p : Nat} (hi : i < C.n) (gS : c < C.ae.length) (ho : (C.pg i).own = false) (hf : C.eI = some i) (he : (C.rw c).free.getLast? = none) (h : ((C.bG i c).rw c).free.getLast? = some p) : Tkn C c p ((C.bG i c).fA c p) := by
 have KW := uY K hi gS ho
 have im := Ka K (c := c) hi
 have X := QW KW h
 have P : kS C (C.pg i) := K.pg _ (fM (by rw [K.pl]; exact hi))
 have jY : (C.pg i).lv = false := (P.no ho).2.1
 have HL : ∀ q, At C q → C.pn q ≠ i := fun q L e => by
  have := L.own
  rw [e, ho] at this; cases this
 have same : ∀ q, C.pn q ≠ i → (C.bG i c).pg ((C.bG i c).pn q) = C.pg (C.pn q) := fun q e => by
  rw [show (C.bG i c).pn q = C.pn q from rfl, im, if_neg e]
 have Nk : ∀ q, C.pn q ≠ i → (C.bG i c).cl q = C.cl q := fun q e => by unfold Cs.cl; rw [same q e]
 have MQ : ∀ q, C.pn q ≠ i → (C.bG i c).ix q = C.ix q := fun q e => by unfold Cs.ix; rw [Nk q e]; rfl
 have wl : ∀ q, Live (C.bG i c) q ↔ Live C q := fun q => by
  constructor
  ·intro L
   have e : C.pn q ≠ i := fun e => by
    have t := L.tk
    rw [show (C.bG i c).pn q = C.pn q from rfl, im, if_pos e] at t
    change (List.replicate (C.ai / C.sz c) false)[(C.bG i c).ix q]? = some true at t
    obtain ⟨hh, t2⟩ := List.getElem?_eq_some_iff.1 t
    rw [List.getElem_replicate] at t2
    cases t2
   refine ⟨⟨L.i, by have := L.own; rw [same q e] at this; exact this, by have := L.al; rw [Nk q e] at this; exact this, by have := L.k; rw [same q e, MQ q e] at this; exact this⟩, by have := L.tk; rw [same q e, MQ q e] at this; exact this⟩
  intro L
  have e := HL q L.toAt
  exact ⟨⟨L.i, by rw [same q e]; exact L.own, by rw [Nk q e]; exact L.al, by rw [same q e, MQ q e]; exact L.k⟩, by rw [same q e, MQ q e]; exact L.tk⟩
 refine ⟨X.k, fun L => X.no ((wl p).2 L), fun q => by rw [X.lv, wl], fun q L => ?_, X.cl, X.sz, X.n, X.ps, X.cf, fun j => ?_, fun j hj => ?_, X.dA, fun A => ?_⟩
 ·have e := HL q L.toAt
  obtain ⟨a, b⟩ := X.hd q ((wl q).2 L)
  rw [a, b, Nk q e]
  refine ⟨?_, rfl⟩
  unfold Cs.hd Cs.gen
  rw [same q e, MQ q e]
 ·rw [X.lf, im]
  by_cases e : j = i
  ·rw [if_pos e, e]; rfl
  rw [if_neg e]
 ·have e : j ≠ i := fun e => by rw [e, ho] at hj; cases hj
  obtain ⟨a, b⟩ := X.pg j (by rw [im, if_neg e]; exact hj)
  rw [a, b, im, if_neg e]
  exact ⟨rfl, rfl⟩
 refine ⟨(((C.wA A).bG i c).fA c p).A, ?_⟩
 have : (C.wA A).dw c = some (p, ((C.wA A).bG i c).fA c p) := by
  unfold Cs.dw
  rw [show ((C.wA A).rw c).free.getLast? = none from he]
  dsimp only
  rw [show (C.wA A).eI = some i from hf]
  dsimp only
  rw [show (((C.wA A).bG i c).rw c).free.getLast? = some p from h]
 rw [this]; rfl
theorem zJ {C : Cs} {i : Nat} (K : Ok C) (h : C.eI = some i) : i < C.n ∧ (C.pg i).own = false := by
 unfold Cs.eI at h
 rw [List.findIdx?_eq_some_iff_getElem] at h
 obtain ⟨h1, h2, _⟩ := h
 refine ⟨by rw [← K.pl]; exact h1, ?_⟩
 have e : C.pg i = C.cb[i] := by unfold Cs.pg; rw [List.getD_eq_getElem?_getD, List.getElem?_eq_getElem h1]; rfl
 rw [e]
 simpa using h2
theorem pO {C : Cs} (K : Ok C) {c p : Nat} {D : Cs} (gS : c < C.ae.length) (h : C.dw c = some (p, D)) : Tkn C c p D := by
 unfold Cs.dw at h
 cases hf : (C.rw c).free.getLast? with
 | some q =>
  rw [hf] at h
  cases h
  exact QW K hf
 | none =>
  rw [hf] at h
  dsimp only at h
  cases hp : C.eI with
  | none => rw [hp] at h; cases h
  | some i =>
   rw [hp] at h
   dsimp only at h
   obtain ⟨h1, h2⟩ := zJ K hp
   cases hg : ((C.bG i c).rw c).free.getLast? with
   | none => rw [hg] at h; cases h
   | some q =>
    rw [hg] at h
    cases h
    exact YK K h1 gS h2 hp hf hg
theorem Kr {C : Cs} (A : By) {c : Nat} (h : C.dw c = none) : (C.wA A).dw c = none := by
 unfold Cs.dw at *
 rw [show ((C.wA A).rw c).free.getLast? = (C.rw c).free.getLast? from rfl]
 cases hf : (C.rw c).free.getLast? with
 | some q => rw [hf] at h; cases h
 | none =>
  rw [hf] at h
  dsimp only at h ⊢
  rw [show (C.wA A).eI = C.eI from rfl]
  cases hp : C.eI with
  | none => rfl
  | some i =>
   rw [hp] at h
   dsimp only at h ⊢
   rw [show (((C.wA A).bG i c).rw c).free.getLast? = ((C.bG i c).rw c).free.getLast? from rfl]
   cases hg : ((C.bG i c).rw c).free.getLast? with
   | none => rfl
   | some q => rw [hg] at h; cases h
def Mo.take (M : Mo) (c : Nat) : Option (Nat × Mo) := match M.C.dw c with
 | some (p, D) => some (p, { M with C := D, hole := some p })
 | none => none
theorem bT.take {B : Bx} {M : Mo} (O : bT B M) (hh : M.hole = none) {c p : Nat} {D : Cs} (gS : c < B.C.ae.length) (h : B.C.dw c = some (p, D)) : ∃ N, M.take c = some (p, N) ∧ N.C.hd p = D.hd p ∧ N.hole = some p ∧ N = { M with C := N.C, hole := some p } ∧ bT ⟨D, B.W, B.ty, B.E⟩ N ∧ Tkn B.C c p D := by
 have X := pO O.k gS h
 have hM : ∃ A', M.C.dw c = some (p, D.wA A') := by
  obtain ⟨A', e⟩ := X.nA M.C.A
  rw [O.c] at e
  exact ⟨A', e⟩
 obtain ⟨A', hM⟩ := hM
 refine ⟨{ M with C := D.wA A', hole := some p }, by unfold Mo.take; rw [hM], rfl, rfl, rfl, ?_, X⟩
 have Hy : ∀ q ∈ B.W.all, q ≠ p := fun q hq e => X.no (e ▸ O.tY hq)
 have K0 : Ok (D.wA B.C.A) := X.k.wA _
 have h0 : ∀ q, Live (D.wA B.C.A) q ↔ Live D q := fun q => ⟨fun h => ⟨⟨h.i, h.own, h.al, h.k⟩, h.tk⟩, fun h => h.wA _⟩
 have S : xI B.C (D.wA B.C.A) (fun q => q ∈ B.W.all) := ⟨rfl, X.sz, fun q _ L => ⟨(h0 q).2 ((X.lv q).2 (.inl L)), (X.hd q L).1, (X.hd q L).2⟩⟩
 have O1 := O.cls (D := D.wA B.C.A) (N := D.wA A') (ho' := some p) (m' := M.m) K0 rfl S X.cf (fun q => by
   rw [h0, X.lv, O.lv, hh]
   constructor
   ·rintro ((h | h) | h)
    ·exact .inl h
    ·cases h
    exact .inr (by rw [h])
   rintro (h | h)
   ·exact .inl (.inl h)
   exact .inr (Option.some.inj h).symm) (fun q e hq => Hy q hq (Option.some.inj e).symm) (by rw [show (D.wA B.C.A).ae = B.C.ae from X.sz]; exact O.un)
  (fun e => by
   obtain ⟨a, b, c, d⟩ := O.on e
   obtain ⟨e1, e2⟩ := X.pg _ b
   exact ⟨by rw [show (D.wA B.C.A).n = B.C.n from X.n]; exact a, e1, (X.lf _).trans c, e2.trans d⟩) (fun i e => O.go i ((X.lf i).symm.trans e))
 have O2 := O1.WR (r := p) rfl (A := D.A) (fun i hi => by
  obtain ⟨q, o, q1, q2, q3, q4⟩ := X.dA i hi
  exact ⟨q, o, q1.wA _, q2, q3, q4⟩)
 exact O2
theorem k8 (A : By) (p c : Nat) (k v : List UInt8) (fl exp tch tok st mk o w : Nat) (h : o + w ≤ 48) (hk : k.length < 256) : rd (jy A p c k v fl exp tch tok st mk) (p + o) w = rd (Cf A p c k.length fl exp tch tok st mk) (p + o) w := by
 unfold jy rW
 rw [fR, fR, aG, fR] <;> omega
theorem Dv (A : By) (p c : Nat) (k v : List UInt8) (fl exp tch tok st mk : Nat) (hk : k.length < 256) : kl (jy A p c k v fl exp tch tok st mk) p = k.length := by
 unfold kl
 rw [k8 _ _ _ _ _ _ _ _ _ _ _ _ _ (by omega) hk]
 unfold Cf
 rw [aG, aG, aG, aG, cI] <;> omega
theorem PJ (A : By) (p c : Nat) (k v : List UInt8) (fl exp tch tok st mk : Nat) (hk : k.length < 256) (h : exp < 256 ^ 8) : Ni (jy A p c k v fl exp tch tok st mk) p = exp := by
 unfold Ni
 rw [k8 _ _ _ _ _ _ _ _ _ _ _ _ _ (by omega) hk]
 unfold Cf
 rw [aG, aG, aG, aG, aG, aG, aG, aG, cI, Nat.mod_eq_of_lt h] <;> omega
theorem LB (A : By) (p c : Nat) (k v : List UInt8) (fl exp tch tok st mk : Nat) (hk : k.length < 256) (h : tch < 256 ^ 8) : Ef (jy A p c k v fl exp tch tok st mk) p = tch := by
 unfold Ef
 rw [k8 _ _ _ _ _ _ _ _ _ _ _ _ _ (by omega) hk]
 unfold Cf
 rw [aG, aG, aG, aG, aG, aG, aG, cI, Nat.mod_eq_of_lt h] <;> omega
theorem LA (A : By) (p c : Nat) (k v : List UInt8) (fl exp tch tok st mk : Nat) (hk : k.length < 256) (h : tok < 256 ^ 8) : xX (jy A p c k v fl exp tch tok st mk) p = tok := by
 unfold xX
 rw [k8 _ _ _ _ _ _ _ _ _ _ _ _ _ (by omega) hk]
 unfold Cf
 rw [aG, aG, aG, aG, aG, aG, cI, Nat.mod_eq_of_lt h] <;> omega
theorem PI (A : By) (p c : Nat) (k v : List UInt8) (fl exp tch tok st mk : Nat) (hk : k.length < 256) (h : fl < 256 ^ 4) : Su (jy A p c k v fl exp tch tok st mk) p = fl := by
 unfold Su
 rw [k8 _ _ _ _ _ _ _ _ _ _ _ _ _ (by omega) hk]
 unfold Cf
 rw [aG, aG, aG, aG, aG, cI, Nat.mod_eq_of_lt h] <;> omega
theorem PG (A : By) (p c : Nat) (k v : List UInt8) (fl exp tch tok st mk : Nat) (hk : k.length < 256) (h : st < 256 ^ 1) : iR (jy A p c k v fl exp tch tok st mk) p = st := by
 unfold iR
 rw [k8 _ _ _ _ _ _ _ _ _ _ _ _ _ (by omega) hk]
 unfold Cf
 rw [aG, aG, aG, cI, Nat.mod_eq_of_lt h] <;> omega
theorem PH (A : By) (p c : Nat) (k v : List UInt8) (fl exp tch tok st mk : Nat) (hk : k.length < 256) (h : mk < 256 ^ 1) : eM (jy A p c k v fl exp tch tok st mk) p = mk := by
 unfold eM
 rw [k8 _ _ _ _ _ _ _ _ _ _ _ _ _ (by omega) hk]
 unfold Cf
 rw [aG, aG, cI, Nat.mod_eq_of_lt h] <;> omega
theorem PL (A : By) (p c : Nat) (k v : List UInt8) (fl exp tch tok st mk : Nat) (hk : k.length < 256) (hv : v.length < 256 ^ 4) : vl (jy A p c k v fl exp tch tok st mk) p = v.length ∧ aI (jy A p c k v fl exp tch tok st mk) p = k ∧ pF (jy A p c k v fl exp tch tok st mk) p = v := by
 have e1 := Dv A p c k v fl exp tch tok st mk hk
 have e0 := AO A p c k.length fl exp tch tok st mk k hk
 have e2 : vl (jy A p c k v fl exp tch tok st mk) p = v.length := by
  unfold vl jy rW
  rw [e0, fR, fR, cI, Nat.mod_eq_of_lt hv] <;> omega
 refine ⟨e2, ?_, ?_⟩
 ·unfold aI
  rw [e1]
  unfold jy rW
  rw [e0, ie, ie, tI, lz] <;> omega
 unfold pF
 rw [e1, e2]
 unfold jy rW
 rw [e0, ie, lz]
 omega
theorem UQ {C : Cs} {p c : Nat} {k v : List UInt8} {fl exp tch tok st mk : Nat} (L : At C p) (hk : k.length < 256) (hf : 58 + k.length + v.length ≤ C.sz (C.cl p)) : cZ C C.A (jy C.A p c k v fl exp tch tok st mk) (fun q _ => q = p) := fun i hi => by
 have hr : p ≤ i ∧ i < p + (58 + k.length + v.length) := by
  refine Decidable.byContradiction fun g => hi ?_
  have e0 := AO C.A p c k.length fl exp tch tok st mk k hk
  have w : ∀ (A : By) (o n x : Nat), o + n ≤ 56 → wr A (p + o) n x i = A i := fun A o n x h => by
   unfold wr
   exact gA _ _ _ _ (by rw [kW]; omega)
  unfold jy rW
  rw [e0, gA, gA, w _ _ _ _ (by omega), gA]
  ·unfold Cf
   rw [w _ _ _ _ (by omega), w _ _ _ _ (by omega), w _ _ _ _ (by omega), w _ _ _ _ (by omega), w _ _ _ _ (by omega), w _ _ _ _ (by omega), w _ _ _ _ (by omega), w _ _ _ _ (by omega), w _ _ _ _ (by omega), oZ, oZ, oZ, w _ _ _ _ (by omega), w _ _ _ _ (by omega), w _ _ _ _ (by omega)]
   rfl
  ·omega
  ·omega
  have : crlf.length = 2 := rfl
  omega
 exact ⟨p, i - p, L, by omega, rfl, by omega⟩
def Nl (p r q : Nat) : Nat := if q = p then r else q
def vY (Q : List (List Nat)) (p r : Nat) : List (List Nat) := Q.map fun l => l.map (Nl p r)
theorem nL (Q : List (List Nat)) (p r i : Nat) : ql (vY Q p r) i = (ql Q i).map (Nl p r) := by
 unfold vY ql
 rw [List.getD_eq_getElem?_getD, List.getD_eq_getElem?_getD, List.getElem?_map]
 cases Q[i]? <;> rfl
def Mo.swap (M : Mo) (p r : Nat) : Mo :=
 { M with hole := some p, Q := vY M.Q p r, it := fun q => if q = r then M.it p else M.it q, ord := fun q => if q = r then M.ord p else M.ord q, x := M.x.uL p r }
def Mo.uO (M : Mo) (p : Nat) : Mo := { M with C := M.C.a8 p, hole := none }
def Mo.shift (M : Mo) (p : Nat) : Option Mo := match M.take (M.C.cl p) with
 | some (r, N) => some ((N.swap p r).uO p)
 | none => none
theorem bT.cl {B : Bx} {M : Mo} (O : bT B M) (p : Nat) : B.C.cl p = M.C.cl p := by rw [O.c]; rfl
theorem bT.takeN {B : Bx} {M : Mo} (O : bT B M) {c : Nat} (h : B.C.dw c = none) : M.take c = none := by
 have : (B.C.wA M.C.A).dw c = none := Kr _ h
 rw [O.c] at this
 unfold Mo.take
 rw [show M.C.dw c = none from this]
theorem rA {C D : Cs} (S : xT C D) (hp : ∀ j, ∃ b, D.pg j = { C.pg j with lv := b }) (q : Nat) : (Live D q ↔ Live C q) ∧ D.hd q = C.hd q ∧ D.cl q = C.cl q := by
 have tk : ∀ i, (D.pg i).tk = (C.pg i).tk := fun i => by obtain ⟨b, e⟩ := hp i; rw [e]
 have aZ : ∀ i, (D.pg i).aZ = (C.pg i).aZ := fun i => by obtain ⟨b, e⟩ := hp i; rw [e]
 refine ⟨⟨fun L => ⟨S.at.1 L.toAt, ?_⟩, fun L => ⟨S.at.2 L.toAt, ?_⟩⟩, ?_, S.cl q⟩
 ·have := L.tk
  rw [S.pn, S.ix, tk] at this
  exact this
 ·rw [S.pn, S.ix, tk]; exact L.tk
 unfold Cs.hd Cs.gen
 rw [S.pn, S.ix, aZ]
theorem wT {C : Cs} (K : Ok C) {i : Nat} (hi : i < C.n) (j : Nat) : (C.jD i).pg j = if j = i then { C.pg i with lv := false } else C.pg j := jS (by rw [K.pl]; exact hi) j
theorem Lz {C : Cs} (K : Ok C) {i : Nat} (hi : i < C.n) (j : Nat) : (C.kT i).pg j = if j = i then { C.pg i with lv := true } else C.pg j := jS (by rw [K.pl]; exact hi) j
theorem BF {C : Cs} (K : Ok C) {i : Nat} (hi : i < C.n) (j : Nat) : (C.dV i).pg j = if j = i then { Pg.no with old := C.HK (C.pg i) } else C.pg j := jS (by rw [K.pl]; exact hi) j
theorem bT.stay {B : Bx} {M : Mo} (O : bT B M) (nz : M.m.on = true) : xI B.C (B.C.jD M.m.pg) (fun q => q ∈ B.W.all) ∧ bT ⟨B.C.jD M.m.pg, B.W, B.ty, B.E⟩ { M with C := M.C.jD M.m.pg, m := M.m.off } := by
 obtain ⟨a, b, c, d⟩ := O.on nz
 have K := O.k
 obtain ⟨K2, S⟩ := sS K a b c
 have im := wT K a
 have sm := rA S fun j => by
  rw [im]
  by_cases e : j = M.m.pg
  ·exact ⟨false, by rw [if_pos e, e]⟩
  exact ⟨(B.C.pg j).lv, by rw [if_neg e]⟩
 have hs : xI B.C (B.C.jD M.m.pg) (fun q => q ∈ B.W.all) := ⟨rfl, S.ae, fun q _ L => ⟨(sm q).1.2 L, (sm q).2⟩⟩
 refine ⟨hs, O.cls (ho' := M.hole) K2 (congrArg (fun C : Cs => C.jD M.m.pg) O.c) hs rfl (fun q => (sm q).1.trans (O.lv q)) O.ho (by rw [S.ae]; exact O.un) (fun e => by cases e) (fun i e => ?_)⟩
 rw [im] at e
 by_cases g : i = M.m.pg
 ·rw [if_pos g] at e; cases e
 rw [if_neg g] at e; exact absurd (O.go i e).2 g
theorem Zn {C : Cs} (K : Ok C) {i : Nat} (hi : i < C.n) (h : (C.pg i).tk.findIdx? id = none) : (C.pg i).held = 0 ∧ ∀ k : Nat, (C.pg i).tk[k]? ≠ some true := by
 have P : kS C (C.pg i) := K.pg _ (fM (by rw [K.pl]; exact hi))
 rw [List.findIdx?_eq_none_iff] at h
 refine ⟨?_, fun k e => ?_⟩
 ·rw [P.held]
  have : ∀ l : List Bool, (∀ x ∈ l, id x = false) → (l.map bN).sum = 0 := fun l => by
   induction l with
   | nil => intro _; rfl
   | cons x l ih =>
    intro g
    have hx : x = false := g x List.mem_cons_self
    rw [List.map_cons, List.sum_cons, ih fun y hy => g y (List.mem_cons_of_mem _ hy), hx]; rfl
  exact this _ h
 have := h true (List.mem_of_getElem? e)
 cases this
def Mo.mstop (M : Mo) : Mo := { M with C := M.C.jD M.m.pg, m := M.m.off }
def Mo.fh (M : Mo) : Bool × Mo := match (M.C.pg M.m.pg).tk.findIdx? id with
 | none => (false, { M with C := M.C.dV M.m.pg, m := M.m.off })
 | some k => if M.bz (M.C.ux M.m.pg k) ≠ 0 then (true, M.bR (M.C.ux M.m.pg k)) else (match M.shift (M.C.ux M.m.pg k) with
  | some N => (true, N)
  | none => (false, M.mstop))
def lsB (C : Cs) (f each k : Nat) (o : Option Nat) : Prop := (C.pg k).own = true ∧ (C.pg k).cl = f ∧ ((C.pg k).held : Int) ≤ ((C.rw f).free.length : Int) - ((each : Int) - ((C.pg k).held : Int)) ∧ ∀ q, o = some q → (C.pg k).held < (C.pg q).held
noncomputable def W8 (C : Cs) (f each : Nat) : Nat → Option Nat
 | 0 => none
 | k + 1 => by classical exact if lsB C f each k (W8 C f each k) then some k else W8 C f each k
noncomputable def pJ (C : Cs) (f : Nat) : Option Nat := if (C.rw f).bj < 2 then none else W8 C f (C.ai / C.sz f) C.n
theorem Dk (C : Cs) (f each : Nat) : ∀ k q, W8 C f each k = some q → q < k ∧ (C.pg q).own = true ∧ (C.pg q).cl = f
 | 0, q, h => by cases h
 | k + 1, q, h => by
  unfold W8 at h
  split at h
  ·next g => cases h; exact ⟨Nat.lt_succ_self _, g.1, g.2.1⟩
  obtain ⟨a, b⟩ := Dk C f each k q h; exact ⟨by omega, b⟩
def qy (C : Cs) (f : Nat) : Nat := (C.rw f).free.length
noncomputable def gZ (m : jQ) (C : Cs) : Nat → Option (Nat × Nat)
 | 0 => none
 | k + 1 => if m.mE k = true ∨ (∃ o, gZ m C k = some o ∧ qy C k ≤ qy C o.2) then gZ m C k else (match pJ C k with
  | some p => some (p, k)
  | none => gZ m C k)
noncomputable def Mo.fq (M : Mo) : Mo := if 0 < M.C.spare then M else match (List.range M.gL).find? M.m.mE with
 | none => M
 | some t => match gZ M.m M.C M.gL with
  | none => M
  | some o => { M with C := M.C.kT o.1, m := { M.m with pg := o.1, fr := o.2, tt := t, on := true } }
theorem B5 {m : jQ} {C : Cs} {k : Nat} (h : m.mE k = true ∨ (∃ o, gZ m C k = some o ∧ qy C k ≤ qy C o.2)) : gZ m C (k + 1) = gZ m C k := by
 conv => lhs; unfold gZ
 rw [if_pos h]
theorem B8 {m : jQ} {C : Cs} {k : Nat} (h : pJ C k = none) : gZ m C (k + 1) = gZ m C k := by
 conv => lhs; unfold gZ
 split
 ·rfl
 rw [h]
theorem G6 {m : jQ} {C : Cs} {k p : Nat} (g : ¬ (m.mE k = true ∨ (∃ o, gZ m C k = some o ∧ qy C k ≤ qy C o.2))) (h : pJ C k = some p) : gZ m C (k + 1) = some (p, k) := by
 conv => lhs; unfold gZ
 rw [if_neg g, h]
theorem BO {C : Cs} {f p : Nat} (h : pJ C f = some p) : p < C.n ∧ (C.pg p).own = true ∧ (C.pg p).cl = f := by
 unfold pJ at h
 split at h
 ·cases h
 exact Dk _ _ _ _ _ h
theorem qm {m : jQ} {C : Cs} : ∀ {k : Nat} {o : Nat × Nat}, gZ m C k = some o → o.1 < C.n ∧ (C.pg o.1).own = true ∧ (C.pg o.1).cl = o.2 ∧ o.2 < k
 | 0, o, h => by cases h
 | k + 1, o, h => by
  by_cases g : m.mE k = true ∨ (∃ o, gZ m C k = some o ∧ qy C k ≤ qy C o.2)
  ·rw [B5 g] at h
   obtain ⟨a, b, c, d⟩ := qm h
   exact ⟨a, b, c, by omega⟩
  cases hl : pJ C k with
  | none =>
   rw [B8 hl] at h
   obtain ⟨a, b, c, d⟩ := qm h
   exact ⟨a, b, c, by omega⟩
  | some p =>
   rw [G6 g hl] at h
   cases h
   obtain ⟨a, b, c⟩ := BO hl
   exact ⟨a, b, c, Nat.lt_succ_self _⟩
def NK (z : Ly) (B : Bx) (M : Mo) : List aa :=
 [af z.y.t 145 (dg z.y.b B.W B.ty), af B.ty.nk 163 (ax (ao B.W.nb)), fI B.ty.ok 163 (ax (ao B.W.ob)), af z.y.q 139 (dy z.y.b z.qb B.C.ae.length), af z.qb 327 (M.Q.flatMap (dD B.C)), ey z.y.cr z.y.q z.y.wh B.C.ae.length (aO z.s) (aN z.s) B.C M.x, Wl z.y.wh B.E M.tn, ij z.s z.y (gF M.v), iN z.y.ck M.k, gf z.y.lu z.y.b z.y.q z.hot z.warm, eW M]
theorem RN {z : Ly} {B : Bx} {M : Mo} : ∀ h, aj (gp z B M ++ []) h → aj [Cl z.y.b B.C, iB z.y.mo z.y.b z.ub (aO z.s) (aN z.s) (bn z.s) M.m, iM z.ub M.m, aE (NK z B M)] h := fun h s => by
 have s1 : aj (NK z B M ++ [Cl z.y.b B.C, iB z.y.mo z.y.b z.ub (aO z.s) (aN z.s) (bn z.s) M.m, iM z.ub M.m]) h := by
  revert s
  revert h
  unfold gp NK
  simp only [uy, cap]
  exact Eh
 have s2 := eR s1
 revert s2
 generalize aE (NK z B M) = X
 revert h
 intro h _ _ s2
 exact (Eh : ∀ h, aj [X, Cl z.y.b B.C, iB z.y.mo z.y.b z.ub (aO z.s) (aN z.s) (bn z.s) M.m, iM z.ub M.m] h → aj [Cl z.y.b B.C, iB z.y.mo z.y.b z.ub (aO z.s) (aN z.s) (bn z.s) M.m, iM z.ub M.m, X] h) h s2
theorem RM {z : Ly} {B : Bx} {M : Mo} : ∀ h, aj [Cl z.y.b B.C, iB z.y.mo z.y.b z.ub (aO z.s) (aN z.s) (bn z.s) M.m, iM z.ub M.m, aE (NK z B M)] h → aj (gp z B M ++ []) h := fun h s => by
 have s1 : aj (aE (NK z B M) :: [Cl z.y.b B.C, iB z.y.mo z.y.b z.ub (aO z.s) (aN z.s) (bn z.s) M.m, iM z.ub M.m]) h := by
  revert s
  generalize aE (NK z B M) = X
  intro s
  exact (Eh : ∀ h, aj [Cl z.y.b B.C, iB z.y.mo z.y.b z.ub (aO z.s) (aN z.s) (bn z.s) M.m, iM z.ub M.m, X] h → aj [X, Cl z.y.b B.C, iB z.y.mo z.y.b z.ub (aO z.s) (aN z.s) (bn z.s) M.m, iM z.ub M.m] h) h s
 have s2 : aj (NK z B M ++ [Cl z.y.b B.C, iB z.y.mo z.y.b z.ub (aO z.s) (aN z.s) (bn z.s) M.m, iM z.ub M.m]) h := by
  obtain ⟨h1, h2, d, l1, l2, a, b⟩ := s1
  exact dp (bB a b d) (bS l1 l2)
 revert s2
 clear s1 s
 revert h
 unfold gp NK
 simp only [uy, cap]
 exact Eh
theorem E8 (z : Ly) (M : Mo) (hoff : M.m.on = false) (x4 : 0 < M.C.spare) : aL Tryz.prog 123 [.pointer (some ⟨z.y.mo, 0, none⟩)] (fun _ => True) [SH z M]
  (fun v H => v = .tuple #[] ∧ H = [SH z M.fq]) :=
 iK fun B O => by
  have K := O.k
  have WC := O.un
  have f3 := K.toFix.l1
  have hC : B.C = M.C.wA B.C.A := O.c
  have M7 : B.C.spare = M.C.spare := by rw [hC]; rfl
  have hncl : B.C.ae.length = M.gL := O.gL
  have fp := xy z.y.b B.C
  have hspl : B.C.spare < 4611686018427387904 := by
   have := wq uE (fun x => by unfold uE; split <;> omega) B.C.cb
   rw [K.sp]
   unfold Cs.Ci
   rw [K.pl] at this
   have := K.toFix.n1
   omega
  refine ag Tryz.func123 rfl Tryz.ntmps123 rfl ?_
  intro F _
  refine az RN ?_
  unfold iB moC
  refine bE ?_
  refine zl T.Vo (fp) .nil (fun _ le av => av.nth 0 rfl) ?_
  refine bw ?_
  by_cases WG : 0 < B.C.spare
  ·refine gK ?_
   refine bw ?_
   refine az (fun h s => aR O (H := []) h (RM h s)) ?_
   refine Rt0 [SH z M] Tryz.results123 ?_
   refine ⟨rfl, ?_⟩
   unfold Mo.fq
   rw [if_pos (by omega)]
  exfalso; omega
theorem yA {α : Type} (f : α → Nat) : ∀ l : List α, (∀ x ∈ l, f x = 0) → (l.map f).sum = 0
 | [], _ => rfl
 | x :: l, h => by
  rw [List.map_cons, List.sum_cons, h x List.mem_cons_self, yA f l fun y hy => h y (List.mem_cons_of_mem _ hy)]
theorem Bz {C : Cs} (K : Ok C) (h : 0 < C.spare) : ∃ i, C.eI = some i := by
 cases hf : C.eI with
 | some i => exact ⟨i, rfl⟩
 | none =>
  exfalso
  have h1 : ∀ x ∈ C.cb, uE x = 0 := fun x hx => by
   have := List.findIdx?_eq_none_iff.1 hf x hx
   unfold uE
   rw [if_pos (by simpa using this)]
  have h2 := K.sp
  unfold Cs.Ci at h2
  have h3 := yA uE C.cb h1
  omega
theorem qC {C : Cs} (K : Ok C) {c : Nat} (hc : c < C.ae.length) (h : 0 < C.spare) : ∃ p D, C.dw c = some (p, D) ∧ C.spare ≤ D.spare + 1 := by
 unfold Cs.dw
 cases (C.rw c).free.getLast? with
 | some p => exact ⟨p, _, rfl, Nat.le_succ _⟩
 | none =>
  obtain ⟨i, hi⟩ := Bz K h
  obtain ⟨p, hp⟩ := tz K (i := i) hc
  dsimp only
  rw [hi]
  dsimp only
  rw [hp]
  refine ⟨p, _, rfl, ?_⟩
  show C.spare ≤ C.spare - 1 + 1
  omega
structure Gv (C D : Cs) : Prop where
 sz : D.ae = C.ae
 n : D.n = C.n
 ps : D.ai = C.ai
 sp : D.spare = C.spare
 pg : ∀ c, (D.rw c).bj = (C.rw c).bj
 tk : ∀ c, (D.rw c).gG ≤ (C.rw c).gG
theorem Gv.refl (C : Cs) : Gv C C := ⟨rfl, rfl, rfl, rfl, fun _ => rfl, fun _ => Nat.le_refl _⟩
theorem Gv.trans {C D E : Cs} (a : Gv C D) (b : Gv D E) : Gv C E := ⟨b.sz.trans a.sz, b.n.trans a.n, b.ps.trans a.ps, b.sp.trans a.sp, fun c => (b.pg c).trans (a.pg c), fun c => Nat.le_trans (b.tk c) (a.tk c)⟩
theorem DA (C : Cs) (p : Nat) : Gv C (C.a8 p) := by
 have h : ∀ c, (C.a8 p).rw c = C.rw c ∨ ((C.a8 p).rw c).bj = (C.rw c).bj ∧ ((C.a8 p).rw c).gG = (C.rw c).gG - 1 := fun c => by
  by_cases g : C.cl p < C.rows.length
  ·have e : (C.a8 p).rw c = _ := sA C (C.cl p) c { C.rw (C.cl p) with free := if (C.pg (C.pn p)).lv = true then (C.rw (C.cl p)).free else (C.rw (C.cl p)).free ++ [p], gG := (C.rw (C.cl p)).gG - 1 } g
   by_cases i : c = C.cl p
   ·rw [if_pos i] at e
    right
    rw [e, i]
    exact ⟨rfl, rfl⟩
   rw [if_neg i] at e
   exact .inl e
  left
  unfold Cs.a8 Cs.put Cs.rw
  dsimp only
  rw [List.set_eq_of_length_le (by omega)]
 refine ⟨rfl, rfl, rfl, rfl, fun c => ?_, fun c => ?_⟩
 ·rcases h c with e | ⟨e, _⟩
  ·rw [e]
  exact e
 rcases h c with e | ⟨_, e⟩
 ·rw [e]; exact Nat.le_refl _
 omega
structure Ev (M N : Mo) : Prop where
 on : N.m.on = M.m.on
 g : Gv M.C N.C
theorem Ev.rf {M N : Mo} (h1 : N.m.on = M.m.on) (h2 : N.C = M.C) : Ev M N := ⟨h1, by rw [h2]; exact .refl _⟩
theorem Ev.trans {M N O : Mo} (a : Ev M N) (b : Ev N O) : Ev M O := ⟨b.on.trans a.on, a.g.trans b.g⟩
theorem Ev.bR (M : Mo) (p : Nat) : Ev M (M.bR p) := ⟨rfl, DA M.C p⟩
theorem Ev.look (M : Mo) (p : Nat) : Ev M (M.look p) := by
 unfold Mo.look
 split
 ·exact Ev.bR M p
 exact .rf rfl rfl
theorem Ev.looks : ∀ (l : List Nat) (M : Mo), Ev M (l.foldl Mo.look M)
 | [], _ => .rf rfl rfl
 | p :: l, M => (Ev.look M p).trans (Ev.looks l (M.look p))
theorem Ev.bI : ∀ (f : Nat) (M : Mo), Ev M (M.bI f).2
 | 0, _ => .rf rfl rfl
 | f + 1, M => by
  unfold Mo.bI
  split
  ·next x h =>
   split
   ·next p hp => exact ((Ev.rf rfl rfl : Ev M { M with x := x.pass M.Q }).trans (Ev.look _ p)).trans (Ev.bI f _)
   exact .rf rfl rfl
  exact .rf rfl rfl
theorem Ev.dC (M : Mo) (now aC : Int) : Ev M (M.dC now aC).2 := by
 unfold Mo.dC
 split
 ·exact .rf rfl rfl
 exact (Ev.looks _ M).trans (Ev.bI _ _)
structure gq (M : Mo) (j : Nat) : Prop where
 on : M.m.on = false
 sp : j ≤ M.C.spare
theorem gq.ev {M N : Mo} {j : Nat} (A : gq M j) (E : Ev M N) : gq N j := ⟨E.on.trans A.on, by rw [E.g.sp]; exact A.sp⟩
theorem gq.le {M : Mo} {i j : Nat} (A : gq M j) (h : i ≤ j) : gq M i := ⟨A.on, Nat.le_trans h A.sp⟩
theorem bT.W7 {B : Bx} {M : Mo} (O : bT B M) : Ok M.C := by
 have h := O.k.wA M.C.A
 rw [O.c] at h
 exact h
def Mo.dG : Nat → Mo → Nat × Mo
 | 0, M => (0, M)
 | f + 1, M => if M.fh.1 = true then ((M.fh.2.dG f).1 + 1, (M.fh.2.dG f).2) else (0, M.fh.2)
def Mo.ff (M : Mo) : Mo := { M with m := { M.m with st := M.m.st + 1 } }
noncomputable def Mo.fV (M : Mo) (aC : Int) : Nat × Mo := if min aC 1048576 < 1 then (0, M) else if M.m.on = true then M.ff.dG (min aC 1048576).toNat else (0, M.ff.fq)
theorem pZ {M N : Mo} {f : Nat} (h : M.fh = (true, N)) : M.dG (f + 1) = ((N.dG f).1 + 1, (N.dG f).2) := by
 conv => lhs; unfold Mo.dG
 rw [h]; rfl
theorem p7 {M N : Mo} {f : Nat} (h : M.fh = (false, N)) : M.dG (f + 1) = (0, N) := by
 conv => lhs; unfold Mo.dG
 rw [h]; rfl
theorem bT.ff {B : Bx} {M : Mo} (O : bT B M) : bT B M.ff :=
 ⟨O.c, O.k, O.t, O.ty, O.o, O.x, O.mq, O.ck, O.al, O.lv, O.ho, O.it, O.e, O.st, O.nb, O.mg, O.mo, O.bt, O.un, O.on, O.go, O.wn, O.cf, O.n, O.lg⟩
theorem Oi {M N : Mo} {c r : Nat} (h : M.take c = some (r, N)) : N.m = M.m := by
 unfold Mo.take at h
 cases hc : M.C.dw c with
 | none => rw [hc] at h; cases h
 | some o => rw [hc] at h; cases h; rfl
theorem Kz {M N : Mo} {p : Nat} (h : M.shift p = some N) : N.hole = none ∧ N.m = M.m := by
 unfold Mo.shift at h
 cases hc : M.take (M.C.cl p) with
 | none => rw [hc] at h; cases h
 | some o =>
  rw [hc] at h
  cases h
  exact ⟨rfl, Oi (r := o.1) (N := o.2) hc⟩
theorem hU (z : Ly) (M : Mo) (hh : M.hole = none) (jA : M.m.st < 4611686018427387904) (A : gq M 1) (aC : Int) : aL Tryz.prog 79 [.pointer (some ⟨z.y.mo, 0, none⟩), .int .i64 aC] (fun _ => True) [SH z M]
  (fun v H => ∃ n N, M.fV aC = (n, N) ∧ v = .int .i64 (n : Int) ∧ H = [SH z N]) := by
 have oh : M.fV aC = if min aC 1048576 < 1 then (0, M) else if M.m.on = true then M.ff.dG (min aC 1048576).toNat else (0, M.ff.fq) := rfl
 have hmle : min aC 1048576 ≤ 1048576 := Int.min_le_right _ _
 refine ag Tryz.func79 rfl Tryz.ntmps79 rfl ?_
 intro F _
 refine bq ?_
 refine Li Mi ?_
 refine bw ?_
 refine ay ?_
 refine aw (t := 1) (v' := (.int .i64 (min aC 1048576))) rfl (by rfl) ?_
 generalize min aC 1048576 = m at *
 refine bb ?_
 by_cases h1 : m < 1
 ·rw [if_pos h1] at oh
  refine gK ?_ (e := by exact decide_eq_true h1)
  refine bq ?_
  refine Rt [SH z M] Tryz.results79 ?_
  exact ⟨0, M, oh, rfl, rfl⟩
 rw [if_neg h1] at oh
 refine dq ?_ (e := by exact decide_eq_false h1)
 refine bw ?_
 refine eK fun B O => az RN ?_
 unfold iB moC
 refine xU ?_
 refine az (fun h s => aR O.ff (H := []) h (RM h (z := z) (B := B) (M := M.ff) s)) ?_
 rcases nz : M.m.on with _ | _
 ·rw [nz, if_neg (by decide)] at oh
  refine bL ?_
  refine zl T.VJ (E8 z M.ff nz A.sp) (.cons .here .nil) (fun _ _ _ => trivial) ?_
  refine bE ?_
  refine Rt [SH z M.ff.fq] Tryz.results79 ?_
  exact ⟨0, _, oh, rfl, rfl⟩
 rw [A.on] at nz; cases nz
theorem bT.tbl {B : Bx} {M : Mo} (O : bT B M) {A : By} {V : Tb} {ty : mZ} {nb mg : Nat} (d : ng B.C.A A B.W.all 0 4) (T : cz (B.C.wA A) V) (pm : V.all.Perm B.W.all) (hy : ty.ok = none → V.ob = []) (hn : V.n = B.W.n) (hmo : V.aC = B.W.aC) (D5 : V.size = nb) (Ad : mg = if V.st = 2 then V.ob.length - V.mv else 0) (jA : V.st = 2 → V.mv < V.ob.length) :
  bT ⟨B.C.wA A, V, ty, B.E⟩ { M with nb := nb, mg := mg } := by
 have K := O.k
 have dP := uS d (fun q hq => O.qp hq) (fun q hq => by have := ((O.qp hq).bh K).2.1; omega)
 have same : ∀ q ∈ B.W.all, pB A q = pB B.C.A q := fun q h => yl K dP (O.qp h) (O.t.it q h) fun j s => by obtain ⟨_, _, s3⟩ := s; omega
 have jY : ∀ q, Live (B.C.wA A) q ↔ Live B.C q := fun q => ⟨fun h => ⟨⟨h.i, h.own, h.al, h.k⟩, h.tk⟩, fun h => h.wA _⟩
 refine ⟨?_, K.wA A, T, hy, HJ K O.o dP (fun j q hq u g => XJ g), O.x, fun j q h => ?_, O.ck, fun q => pm.mem_iff.trans (O.al q), fun q => ?_, fun q h g => O.ho q h (pm.mem_iff.1 g), fun q h => (same q (pm.mem_iff.1 h)).trans (O.it q (pm.mem_iff.1 h)), O.e.trans (kB pm.symm), jA, D5, Ad, hmo.trans O.mo, ?_, O.un, O.on, O.go, O.wn, O.cf, hn.trans O.n, fun q h => O.lg q (pm.mem_iff.1 h)⟩
 ·show B.C.wA A = M.C.wA A
  conv => lhs; rw [O.c]
  rfl
 ·show eM A q < 16
  rw [show eM A q = eM B.C.A q from congrArg I3.du (same q (O.z8 h))]
  exact O.mq j q h
 ·show Live (B.C.wA A) q ↔ q ∈ V.all ∨ _
  rw [jY, pm.mem_iff]; exact O.lv q
 show M.v.fJ = _
 rw [O.bt]
 exact (mj _ pm).symm
def Mo.uJ (M : Mo) (k : Nat) : Mo := { M with mg := M.mg - min k M.mg }
theorem bT.tst {B : Bx} {M : Mo} (O : bT B M) {k : Nat} {A : By} {V : Tb} {ty : mZ} (h2 : B.W.st = 2) (hy : ty.ok = none → V.ob = []) (S : Stp B.C B.W k A V) : bT ⟨B.C.wA A, V, ty, B.E⟩ (M.uJ k) := by
 have cJ := O.st h2
 have Ad := O.mg
 rw [if_pos h2] at Ad
 have hz : V.ob.length - V.mv = if B.W.mv + k < B.W.ob.length then M.mg - min k M.mg else V.ob.length - V.mv := by
  split
  ·next g => obtain ⟨_, e1, e2⟩ := S.on g; rw [e1, e2, Ad]; omega
  rfl
 refine O.tbl (nb := M.nb) (mg := M.mg - min k M.mg) S.d S.o S.p hy S.n S.aC (S.size.trans O.nb) ?_ ?_
 ·by_cases g : B.W.mv + k < B.W.ob.length
  ·obtain ⟨e0, e1, e2⟩ := S.on g
   rw [if_pos e0, e1, e2, Ad]; omega
  have e0 := S.off (by omega)
  rw [if_neg (by omega), Ad]; omega
 intro e
 by_cases g : B.W.mv + k < B.W.ob.length
 ·obtain ⟨e0, e1, e2⟩ := S.on g
  rw [e1, e2]; exact g
 have e0 := S.off (by omega)
 omega
theorem EC {B : Bx} {M : Mo} (O : bT B M) (z : Ly) (k : Nat) (hk : k ≤ 1099511627776) :
  aL Tryz.prog 78 [.pointer (some ⟨z.y.t, 0, none⟩), .int .i64 (k : Int)] (fun _ => True) (Cl z.y.b B.C :: jZ z.y.t z.y.b B.W B.ty)
   (fun v H => v = .int .i64 ((min k M.mg : Nat) : Int) ∧ ∃ A V ty, H = Cl z.y.b (B.C.wA A) :: jZ z.y.t z.y.b V ty ∧ bT ⟨B.C.wA A, V, ty, B.E⟩ (M.uJ k)) := by
 rcases O.t.st with ⟨h0, _⟩ | ⟨h2, _, _⟩
 ·have WI := O.st0.2 h0
  have h := (EF z.y.t z.y.b B.C O.k B.W B.ty h0 k).fr (H := Cl z.y.b B.C :: jZ z.y.t z.y.b B.W B.ty) (R := Cl z.y.b B.C :: jZ z.y.t z.y.b B.W B.ty) (kY [] _) (fun k av => av.nth 1 rfl)
  refine h.out ?_
  rintro v H' ⟨H0, ⟨rfl, rfl⟩, rfl⟩
  refine ⟨_, ⟨by rw [WI, Nat.min_zero]; rfl, B.C.A, B.W, B.ty, rfl, ?_⟩, fun _ s => s⟩
  have : M.uJ k = M := by unfold Mo.uJ; rw [WI, Nat.min_zero]; cases M; simp_all
  rw [this]
  exact O
 have cJ := O.st h2
 have Ad := O.mg
 rw [if_pos h2] at Ad
 obtain ⟨ok, nB⟩ : ∃ ok, B.ty.ok = some ok := by
  cases h : B.ty.ok with
  | none => have := O.ty h; rw [this] at cJ; simp at cJ
  | some x => exact ⟨x, rfl⟩
 have hty : B.ty = ⟨B.ty.nk, some ok⟩ := by rw [← nB]
 have h := ED z.y.t z.y.b B.C O.k B.W B.ty.nk ok O.t h2 cJ k hk
 rw [← hty] at h
 refine h.out ?_
 rintro v H' ⟨rfl, A, V, o', rfl, hy, S⟩
 exact ⟨_, ⟨by rw [Ad], A, V, ⟨B.ty.nk, o'⟩, rfl, O.tst h2 hy S⟩, fun _ s => s⟩
def Mo.aX (M : Mo) (t : Mt) : Mo := { M with v := { M.v with mt := t } }
theorem bT.aX {B : Bx} {M : Mo} (O : bT B M) (t : Mt) : bT B (M.aX t) :=
 ⟨O.c, O.k, O.t, O.ty, O.o, O.x, O.mq, O.ck, O.al, O.lv, O.ho, O.it, O.e, O.st, O.nb, O.mg, O.mo, O.bt, O.un, O.on, O.go, O.wn, O.cf, O.n, O.lg⟩
theorem Dm (M : Mo) (p : Nat) : (M.look p).hole = M.hole ∧ (M.look p).m = M.m ∧ (M.look p).v.p = M.v.p ∧ (M.look p).v.mt = M.v.mt ∧ (M.look p).v.c = M.v.c ∧ (M.look p).v.bm = M.v.bm ∧ (M.look p).tn = M.tn := by
 unfold Mo.look
 split <;> exact ⟨rfl, rfl, rfl, rfl, rfl, rfl, rfl⟩
theorem yP : ∀ (l : List Nat) (M : Mo), (l.foldl Mo.look M).hole = M.hole ∧ (l.foldl Mo.look M).m = M.m ∧ (l.foldl Mo.look M).v.p = M.v.p ∧ (l.foldl Mo.look M).v.mt = M.v.mt ∧ (l.foldl Mo.look M).v.c = M.v.c ∧ (l.foldl Mo.look M).v.bm = M.v.bm ∧ (l.foldl Mo.look M).tn = M.tn
 | [], M => ⟨rfl, rfl, rfl, rfl, rfl, rfl, rfl⟩
 | p :: l, M => by
  obtain ⟨a1, a2, a3, a4, a5, a6, a7⟩ := Dm M p
  obtain ⟨b1, b2, b3, b4, b5, b6, b7⟩ := yP l (M.look p)
  rw [List.foldl_cons]
  exact ⟨b1.trans a1, b2.trans a2, b3.trans a3, b4.trans a4, b5.trans a5, b6.trans a6, b7.trans a7⟩
theorem vP : ∀ (f : Nat) (M : Mo), (M.bI f).2.hole = M.hole ∧ (M.bI f).2.m = M.m ∧ (M.bI f).2.v.p = M.v.p ∧ (M.bI f).2.v.mt = M.v.mt ∧ (M.bI f).2.v.c = M.v.c ∧ (M.bI f).2.v.bm = M.v.bm ∧ (M.bI f).2.tn = M.tn
 | 0, M => ⟨rfl, rfl, rfl, rfl, rfl, rfl, rfl⟩
 | f + 1, M => by
  rcases hf : M.x.find M.gL M.Q with ⟨_ | _, x⟩
  ·rw [mR hf]; exact ⟨rfl, rfl, rfl, rfl, rfl, rfl, rfl⟩
  cases hx : x.nx with
  | none =>
   unfold Mo.bI
   rw [hf]
   dsimp only
   rw [hx]
   exact ⟨rfl, rfl, rfl, rfl, rfl, rfl, rfl⟩
  | some p =>
   rw [mQ hf hx]
   obtain ⟨a1, a2, a3, a4, a5, a6, a7⟩ := Dm { M with x := x.pass M.Q } p
   obtain ⟨b1, b2, b3, b4, b5, b6, b7⟩ := vP f (({ M with x := x.pass M.Q } : Mo).look p)
   exact ⟨b1.trans a1, b2.trans a2, b3.trans a3, b4.trans a4, b5.trans a5, b6.trans a6, b7.trans a7⟩
theorem o0 (M : Mo) (now aC : Int) : (M.dC now aC).2.hole = M.hole ∧ (M.dC now aC).2.m = M.m ∧ (M.dC now aC).2.v.p = M.v.p ∧ (M.dC now aC).2.v.mt = M.v.mt ∧ (M.dC now aC).2.v.c = M.v.c ∧ (M.dC now aC).2.v.bm = M.v.bm ∧ (M.dC now aC).2.tn = M.tn := by
 unfold Mo.dC
 split
 ·exact ⟨rfl, rfl, rfl, rfl, rfl, rfl, rfl⟩
 unfold Mo.nS
 obtain ⟨a1, a2, a3, a4, a5, a6, a7⟩ := yP (M.iu now (min aC 1048576)) M
 obtain ⟨b1, b2, b3, b4, b5, b6, b7⟩ := vP ((min aC 1048576).toNat - (M.iu now (min aC 1048576)).length) ((M.iu now (min aC 1048576)).foldl Mo.look M)
 exact ⟨b1.trans a1, b2.trans a2, b3.trans a3, b4.trans a4, b5.trans a5, b6.trans a6, b7.trans a7⟩
structure xJ (M N : Mo) : Prop where
 h : M.hole = none → N.hole = none
 p : N.v.p = M.v.p
 mt : N.v.mt = M.v.mt
 c : N.v.c = M.v.c
 bm : N.v.bm = M.v.bm
 tn : N.tn = M.tn
 k : N.k = M.k
 w : N.jX = M.jX
theorem xJ.refl (M : Mo) : xJ M M := ⟨id, rfl, rfl, rfl, rfl, rfl, rfl, rfl⟩
theorem xJ.trans {M N O : Mo} (a : xJ M N) (b : xJ N O) : xJ M O := ⟨fun h => b.h (a.h h), b.p.trans a.p, b.mt.trans a.mt, b.c.trans a.c, b.bm.trans a.bm, b.tn.trans a.tn, b.k.trans a.k, b.w.trans a.w⟩
theorem MJ (M : Mo) (p : Nat) : xJ M (M.bR p) := ⟨id, rfl, rfl, rfl, rfl, rfl, rfl, rfl⟩
theorem EN {M N : Mo} {p : Nat} (h : M.shift p = some N) : xJ M N := by
 unfold Mo.shift at h
 cases hc : M.take (M.C.cl p) with
 | none => rw [hc] at h; cases h
 | some o =>
  rw [hc] at h
  cases h
  unfold Mo.take at hc
  cases hd : M.C.dw (M.C.cl p) with
  | none => rw [hd] at hc; cases hc
  | some q => rw [hd] at hc; cases hc; exact ⟨fun _ => rfl, rfl, rfl, rfl, rfl, rfl, rfl, rfl⟩
theorem vv {M N : Mo} {r : Bool} (h : M.fh = (r, N)) : xJ M N ∧ N.m.st = M.m.st := by
 unfold Mo.fh at h
 split at h
 ·cases h; exact ⟨⟨id, rfl, rfl, rfl, rfl, rfl, rfl, rfl⟩, rfl⟩
 split at h
 ·cases h; exact ⟨MJ M _, rfl⟩
 split at h
 ·next hs => cases h; exact ⟨EN hs, by rw [(Kz hs).2]⟩
 cases h; exact ⟨⟨id, rfl, rfl, rfl, rfl, rfl, rfl, rfl⟩, rfl⟩
theorem tM : ∀ (f : Nat) (M : Mo), xJ M (M.dG f).2 ∧ (M.dG f).2.m.st = M.m.st
 | 0, M => ⟨xJ.refl M, rfl⟩
 | f + 1, M => by
  rcases hm : M.fh with ⟨_ | _, N⟩
  ·rw [p7 hm]; exact vv hm
  rw [pZ hm]
  obtain ⟨a, b⟩ := vv hm
  obtain ⟨c, d⟩ := tM f N
  exact ⟨a.trans c, d.trans b⟩
theorem BL (M : Mo) : xJ M M.fq ∧ M.fq.m.st = M.m.st := by
 unfold Mo.fq
 split
 ·exact ⟨xJ.refl M, rfl⟩
 split
 ·exact ⟨xJ.refl M, rfl⟩
 split
 ·exact ⟨xJ.refl M, rfl⟩
 exact ⟨⟨id, rfl, rfl, rfl, rfl, rfl, rfl, rfl⟩, rfl⟩
theorem fb (M : Mo) (aC : Int) : xJ M (M.fV aC).2 ∧ (M.fV aC).2.m.st ≤ M.m.st + 1 := by
 unfold Mo.fV
 split
 ·exact ⟨xJ.refl M, Nat.le_succ _⟩
 have t : xJ M M.ff := ⟨id, rfl, rfl, rfl, rfl, rfl, rfl, rfl⟩
 split
 ·obtain ⟨a, b⟩ := tM (min aC 1048576).toNat M.ff
  exact ⟨t.trans a, by rw [b]; exact Nat.le_refl _⟩
 obtain ⟨a, b⟩ := BL M.ff
 exact ⟨t.trans a, by show M.ff.fq.m.st ≤ _; rw [b]; exact Nat.le_refl _⟩
structure x9 (p : uH) : Prop where
 b : 0 ≤ p.b ∧ p.b ≤ 1048576
 l : 0 ≤ p.l ∧ p.l ≤ 1048576
 c : 0 ≤ p.c ∧ p.c ≤ 1048576
 m : 0 ≤ p.m ∧ p.m ≤ 1048576
def Mo.dM (M : Mo) : Mo := (M.uJ M.v.p.b.toNat).aX { M.v.mt with bu := cC (M.v.mt.bu + (min M.v.p.b.toNat M.mg : Nat)) }
noncomputable def Mo.gN (M : Mo) : Mo := (M.dC M.k.now M.v.p.c).2.aX { M.v.mt with cr := cC (M.v.mt.cr + ((M.dC M.k.now M.v.p.c).1 : Nat)) }
noncomputable def Mo.iI (M : Mo) : Mo := (M.fV M.v.p.m).2.aX { M.v.mt with mv := cC (M.v.mt.mv + ((M.fV M.v.p.m).1 : Nat)) }
noncomputable def Mo.beside (M : Mo) : Mo := M.dM.gN.iI
theorem Qy (M : Mo) : M.gN.hole = M.hole ∧ M.gN.m = M.m ∧ M.gN.v.p = M.v.p := by
 obtain ⟨a1, a2, a3, a4, a5, a6, a7⟩ := o0 M M.k.now M.v.p.c
 exact ⟨a1, a2, a3⟩
theorem gq.fV {M : Mo} (A : gq M 1) (aC : Int) : Ev M (M.fV aC).2 := by
 have h := A.sp
 have T : Ev M M.ff := .rf rfl rfl
 unfold Mo.fV
 split
 ·exact .rf rfl rfl
 rw [if_neg (by rw [A.on]; decide)]
 unfold Mo.fq
 rw [if_pos (show 0 < M.ff.C.spare from (by show 0 < M.C.spare; omega))]
 exact T
theorem G7 (xM : oD) (z : Ly) (M : Mo) (hh : M.hole = none) (jA : M.m.st < 4611686018427387904) (Hg : x9 M.v.p) (hA : gq M 1) : aL Tryz.prog 37 [.pointer (some ⟨z.s, 0, none⟩)] (fun _ => True) [SH z M]
  (fun v H => v = .tuple #[] ∧ H = [SH z M.beside]) := by
 refine ag Tryz.func37 rfl Tryz.ntmps37 rfl ?_
 intro F _
 refine eK fun B O => ?_
 have ts := EC O z M.v.p.b.toNat (by have := Hg.b; omega)
 rw [show ((M.v.p.b.toNat : Nat) : Int) = M.v.p.b by have := Hg.b; omega] at ts
 unfold gp ij jM gF pV iZ
 refine bo ?_
 refine ay ?_
 refine jC 20 T.mix (.cons (.there (.there (.there (.there (.there (.there (.there (.there .here)))))))) .nil) fun F1 kN cT aU => ?_
 obtain ⟨q1, _⟩ := cT
 refine oo ?_
 refine Tp (oC T.RA rfl rfl (ts) (.cons .here (.cons .here (.cons .here (.cons .here .nil)))) (fun _ _ _ => trivial) ?_)
 rintro v H' ⟨rfl, A, V, ty, rfl, O1⟩
 refine bo ?_
 have O2 := O1.aX { M.v.mt with bu := cC (M.v.mt.bu + (min M.v.p.b.toNat M.mg : Nat)) }
 refine bb ?_
 refine iC aU ?_
 refine bw ?_
 refine Hh (H' := [Cl z.y.b (B.C.wA A), af z.y.t 145 (dg z.y.b V ty), af ty.nk 163 (ax (ao V.nb)), fI ty.ok 163 (ax (ao V.ob)), af z.y.q 139 (dy z.y.b z.qb B.C.ae.length), af z.qb 327 (M.Q.flatMap (dD B.C)), ey z.y.cr z.y.q z.y.wh B.C.ae.length (aO z.s) (aN z.s) B.C M.x, Wl z.y.wh B.E M.tn, af z.s 111 [.pointer (some ⟨z.y.b, 0, none⟩), .pointer (some ⟨z.y.ck, 0, none⟩), .pointer (some ⟨z.y.t, 0, none⟩), .pointer (some ⟨z.y.lu, 0, none⟩), .pointer (some ⟨z.y.wh, 0, none⟩), .pointer (some ⟨z.y.cr, 0, none⟩), .pointer (some ⟨z.y.mo, 0, none⟩), .pointer (some ⟨z.y.q, 0, none⟩), .int .i64 M.v.c.ai, .int .i64 M.v.c.bj, .int .i64 M.v.c.fac, .int .i64 M.v.c.aM, .int .i64 M.v.c.lim, .int .i64 M.v.c.hot, .int .i64 M.v.c.warm, .int .i64 M.v.p.b, .int .i64 M.v.p.l, .int .i64 M.v.p.c, .int .i64 M.v.p.m, .int .u64 (M.v.bm : Int), .int .i64 (M.v.fJ : Int), .int .i64 M.v.mt.dr, .int .i64 M.v.mt.re, .int .i64 (IntKind.i64.wrap (M.v.mt.bu + ((min M.v.p.b.toNat M.mg : Nat) : Int))), .int .i64 M.v.mt.li, .int .i64 M.v.mt.lo, .int .i64 M.v.mt.cr, .int .i64 M.v.mt.mv, .slice M.v.wa M.v.wn M.v.wc], iN z.y.ck M.k, gf z.y.lu z.y.b z.y.q z.hot z.warm, iB z.y.mo z.y.b z.ub (aO z.s) (aN z.s) (bn z.s) M.m, iM z.ub M.m, eW M]) ?_
 refine az (aR O2 (H := [])) ?_
 have Xi : M.dM.v.p = M.v.p := rfl
 have hh1 : M.dM.hole = none := hh
 have QJ : M.dM.m.st = M.m.st := rfl
 have Nh : gq M.dM.gN 1 := hA.ev (((Ev.rf rfl rfl : Ev M M.dM).trans (Ev.dC M.dM M.dM.k.now M.dM.v.p.c)).trans (.rf rfl rfl))
 change G _ _ _ _ _ [SH z M.dM]
 rw [show M.beside = M.dM.gN.iI from rfl]
 generalize M.dM = M1 at *
 refine eK fun B3 O3 => ?_
 unfold gp ij jM gF pV iZ
 refine bo ?_
 refine ay ?_
 refine jC 16 T.mix (.cons (.there (.there (.there (.there (.there (.there (.there (.there .here)))))))) .nil) fun F2 D1 eO eP => ?_
 obtain ⟨q1, _⟩ := eO
 refine bx ?_
 refine Tp (oC T.iF rfl rfl (kD z.y.ck M1.k) .nil (fun _ le av => av.nth 8 rfl) ?_)
 rintro v H' ⟨rfl, rfl⟩
 refine bo ?_
 refine bq ?_
 refine iC eP ?_
 refine bo ?_
 refine az (fun h s => aR O3 (H := []) h (by revert s; revert h; unfold gp ij jM gF pV iZ; simp only [uy, cap]; exact Eh)) ?_
 refine Tp (oC T.ZG rfl rfl (MB xM z M1 M1.k.now M1.v.p.c) (.cons .here .nil) (fun _ _ _ => trivial) ?_)
 rintro v H' ⟨n1, t1, M2, Nf, rfl, rfl⟩
 refine bo ?_
 obtain ⟨c1, c2, c3, c4, c5, c6, c7⟩ := o0 M1 M1.k.now M1.v.p.c
 have cx : M1.gN = M2.aX { M1.v.mt with cr := cC (M1.v.mt.cr + (n1 : Nat)) } := by unfold Mo.gN; rw [Nf]
 rw [Nf] at c1 c2 c3 c4
 dsimp only at c1 c2 c3 c4
 refine bE ?_
 refine eK fun B4 O4 => ?_
 have O5 := O4.aX { M1.v.mt with cr := cC (M1.v.mt.cr + (n1 : Nat)) }
 unfold gp ij jM gF pV iZ
 rw [c4]
 refine bo ?_
 refine gh ?_
 refine Hh (H' := [Cl z.y.b B4.C, af z.y.t 145 (dg z.y.b B4.W B4.ty), af B4.ty.nk 163 (ax (ao B4.W.nb)), fI B4.ty.ok 163 (ax (ao B4.W.ob)), af z.y.q 139 (dy z.y.b z.qb B4.C.ae.length), af z.qb 327 (M2.Q.flatMap (dD B4.C)), ey z.y.cr z.y.q z.y.wh B4.C.ae.length (aO z.s) (aN z.s) B4.C M2.x, Wl z.y.wh B4.E M2.tn, af z.s 111 [.pointer (some ⟨z.y.b, 0, none⟩), .pointer (some ⟨z.y.ck, 0, none⟩), .pointer (some ⟨z.y.t, 0, none⟩), .pointer (some ⟨z.y.lu, 0, none⟩), .pointer (some ⟨z.y.wh, 0, none⟩), .pointer (some ⟨z.y.cr, 0, none⟩), .pointer (some ⟨z.y.mo, 0, none⟩), .pointer (some ⟨z.y.q, 0, none⟩), .int .i64 M2.v.c.ai, .int .i64 M2.v.c.bj, .int .i64 M2.v.c.fac, .int .i64 M2.v.c.aM, .int .i64 M2.v.c.lim, .int .i64 M2.v.c.hot, .int .i64 M2.v.c.warm, .int .i64 M2.v.p.b, .int .i64 M2.v.p.l, .int .i64 M2.v.p.c, .int .i64 M2.v.p.m, .int .u64 (M2.v.bm : Int), .int .i64 (M2.v.fJ : Int), .int .i64 M1.v.mt.dr, .int .i64 M1.v.mt.re, .int .i64 M1.v.mt.bu, .int .i64 M1.v.mt.li, .int .i64 M1.v.mt.lo, .int .i64 (IntKind.i64.wrap (M1.v.mt.cr + (n1 : Int))), .int .i64 M1.v.mt.mv, .slice M2.v.wa M2.v.wn M2.v.wc], iN z.y.ck M2.k, gf z.y.lu z.y.b z.y.q z.hot z.warm, iB z.y.mo z.y.b z.ub (aO z.s) (aN z.s) (bn z.s) M2.m, iM z.ub M2.m, eW M2]) ?_
 refine az (aR O5 (H := [])) ?_
 obtain ⟨d1, d2, d3⟩ := Qy M1
 rw [Xi.symm] at Hg
 rw [hh1] at d1
 rw [← cx]
 have vU : M1.gN.m.st < 4611686018427387904 := by rw [d2, QJ]; exact jA
 clear cx O5
 generalize M1.gN = M3 at *
 refine eK fun B6 O6 => ?_
 unfold gp ij jM gF pV iZ
 refine bo ?_
 refine yn T.mix .nil fun F3 R7 rX fW => ?_
 refine Dt 0 rfl Mv ?_
 refine Dt 1 rfl Nc ?_
 refine Dt 2 rfl (Fa T.eG) ?_
 refine Dt 3 rfl (Fa T.fe) ?_
 refine Dt 5 rfl Mv ?_
 refine Dt 6 rfl Nc ?_
 refine Dt 7 rfl (Fa T.iQ) ?_
 refine Dt 8 rfl (Fa T.vL) ?_
 refine Dt 10 rfl Mv ?_
 refine Dt 11 rfl Nc ?_
 refine Dt 12 rfl (Fa T.vK) ?_
 refine Dt 13 rfl (Fa T.y7) ?_
 refine D3 4 9 14 ?_ ?_ ?_
 ·refine Do rfl (oL T.eL ?_)
  refine aD ?_
  refine D2 9 14 ?_ ?_
  ·refine Do rfl (oL T.pG ?_)
   refine aD ?_
   refine Dn 14 ?_
   refine Do rfl (oL T.eL ?_)
   refine aD ?_
   refine az (fun h s => aR O6 (H := []) h (by revert s; revert h; unfold gp ij jM gF pV iZ; simp only [uy, cap]; exact Eh)) ?_
   refine Dn 15 ?_
   refine Do rfl (oC T.qz rfl rfl (hU z M3 d1 vU Nh M3.v.p.m) (.cons .here .nil) (fun _ _ _ => trivial) ?_)
   rintro v H' ⟨n2, M4, oh, rfl, rfl⟩
   refine bo ?_
   have nD := (fb M3 M3.v.p.m).1.mt
   rw [oh] at nD
   change M4.v.mt = M3.v.mt at nD
   refine eK fun B7 O7 => ?_
   unfold gp ij jM gF pV iZ
   rw [nD]
   refine bo ?_
   refine aD ?_
   refine Dt 16 rfl Im ?_
   refine Dt 17 rfl Nc ?_
   refine Dt 18 rfl (Fa T.eG) ?_
   refine Dt 19 rfl (Fa T.fe) ?_
   refine Dn 20 ?_
   refine Do rfl (oS T.eL ?_)
   refine aD ?_
   refine br (by kernel_rfl) fW ?_
   have bQ : M3.iI = M4.aX { M3.v.mt with mv := cC (M3.v.mt.mv + (n2 : Nat)) } := by unfold Mo.iI; rw [oh]
   refine Hh (H' := [Cl z.y.b B7.C, af z.y.t 145 (dg z.y.b B7.W B7.ty), af B7.ty.nk 163 (ax (ao B7.W.nb)), fI B7.ty.ok 163 (ax (ao B7.W.ob)), af z.y.q 139 (dy z.y.b z.qb B7.C.ae.length), af z.qb 327 (M4.Q.flatMap (dD B7.C)), ey z.y.cr z.y.q z.y.wh B7.C.ae.length (aO z.s) (aN z.s) B7.C M4.x, Wl z.y.wh B7.E M4.tn, af z.s 111 [.pointer (some ⟨z.y.b, 0, none⟩), .pointer (some ⟨z.y.ck, 0, none⟩), .pointer (some ⟨z.y.t, 0, none⟩), .pointer (some ⟨z.y.lu, 0, none⟩), .pointer (some ⟨z.y.wh, 0, none⟩), .pointer (some ⟨z.y.cr, 0, none⟩), .pointer (some ⟨z.y.mo, 0, none⟩), .pointer (some ⟨z.y.q, 0, none⟩), .int .i64 M4.v.c.ai, .int .i64 M4.v.c.bj, .int .i64 M4.v.c.fac, .int .i64 M4.v.c.aM, .int .i64 M4.v.c.lim, .int .i64 M4.v.c.hot, .int .i64 M4.v.c.warm, .int .i64 M4.v.p.b, .int .i64 M4.v.p.l, .int .i64 M4.v.p.c, .int .i64 M4.v.p.m, .int .u64 (M4.v.bm : Int), .int .i64 (M4.v.fJ : Int), .int .i64 M3.v.mt.dr, .int .i64 M3.v.mt.re, .int .i64 M3.v.mt.bu, .int .i64 M3.v.mt.li, .int .i64 M3.v.mt.lo, .int .i64 M3.v.mt.cr, .int .i64 (IntKind.i64.wrap (M3.v.mt.mv + (n2 : Int))), .slice M4.v.wa M4.v.wn M4.v.wc], iN z.y.ck M4.k, gf z.y.lu z.y.b z.y.q z.hot z.warm, iB z.y.mo z.y.b z.ub (aO z.s) (aN z.s) (bn z.s) M4.m, iM z.ub M4.m, eW M4]) ?_
   refine az (aR (O7.aX { M3.v.mt with mv := cC (M3.v.mt.mv + (n2 : Nat)) }) (H := [])) ?_
   refine jN [SH z (M4.aX { M3.v.mt with mv := cC (M3.v.mt.mv + (n2 : Nat)) })] Tryz.results37 ?_
   exact ⟨rfl, by rw [bQ]⟩
  refine Do rfl (oL T.eL ?_)
  refine aD ?_
  refine Dn 9 ?_
  refine Do rfl (oL T.pG ?_)
  refine aD ?_
  refine az (fun h s => aR O6 (H := []) h (by revert s; revert h; unfold gp ij jM gF pV iZ; simp only [uy, cap]; exact Eh)) ?_
  refine Dn 15 ?_
  refine Do rfl (oC T.qz rfl rfl (hU z M3 d1 vU Nh M3.v.p.m) (.cons .here .nil) (fun _ _ _ => trivial) ?_)
  rintro v H' ⟨n2, M4, oh, rfl, rfl⟩
  refine bo ?_
  have nD := (fb M3 M3.v.p.m).1.mt
  rw [oh] at nD
  change M4.v.mt = M3.v.mt at nD
  refine eK fun B7 O7 => ?_
  unfold gp ij jM gF pV iZ
  rw [nD]
  refine bo ?_
  refine aD ?_
  refine Dt 16 rfl Im ?_
  refine Dt 17 rfl Nc ?_
  refine Dt 18 rfl (Fa T.eG) ?_
  refine Dt 19 rfl (Fa T.fe) ?_
  refine Dn 20 ?_
  refine Do rfl (oS T.eL ?_)
  refine aD ?_
  refine br (by kernel_rfl) fW ?_
  have bQ : M3.iI = M4.aX { M3.v.mt with mv := cC (M3.v.mt.mv + (n2 : Nat)) } := by unfold Mo.iI; rw [oh]
  refine Hh (H' := [Cl z.y.b B7.C, af z.y.t 145 (dg z.y.b B7.W B7.ty), af B7.ty.nk 163 (ax (ao B7.W.nb)), fI B7.ty.ok 163 (ax (ao B7.W.ob)), af z.y.q 139 (dy z.y.b z.qb B7.C.ae.length), af z.qb 327 (M4.Q.flatMap (dD B7.C)), ey z.y.cr z.y.q z.y.wh B7.C.ae.length (aO z.s) (aN z.s) B7.C M4.x, Wl z.y.wh B7.E M4.tn, af z.s 111 [.pointer (some ⟨z.y.b, 0, none⟩), .pointer (some ⟨z.y.ck, 0, none⟩), .pointer (some ⟨z.y.t, 0, none⟩), .pointer (some ⟨z.y.lu, 0, none⟩), .pointer (some ⟨z.y.wh, 0, none⟩), .pointer (some ⟨z.y.cr, 0, none⟩), .pointer (some ⟨z.y.mo, 0, none⟩), .pointer (some ⟨z.y.q, 0, none⟩), .int .i64 M4.v.c.ai, .int .i64 M4.v.c.bj, .int .i64 M4.v.c.fac, .int .i64 M4.v.c.aM, .int .i64 M4.v.c.lim, .int .i64 M4.v.c.hot, .int .i64 M4.v.c.warm, .int .i64 M4.v.p.b, .int .i64 M4.v.p.l, .int .i64 M4.v.p.c, .int .i64 M4.v.p.m, .int .u64 (M4.v.bm : Int), .int .i64 (M4.v.fJ : Int), .int .i64 M3.v.mt.dr, .int .i64 M3.v.mt.re, .int .i64 M3.v.mt.bu, .int .i64 M3.v.mt.li, .int .i64 M3.v.mt.lo, .int .i64 M3.v.mt.cr, .int .i64 (IntKind.i64.wrap (M3.v.mt.mv + (n2 : Int))), .slice M4.v.wa M4.v.wn M4.v.wc], iN z.y.ck M4.k, gf z.y.lu z.y.b z.y.q z.hot z.warm, iB z.y.mo z.y.b z.ub (aO z.s) (aN z.s) (bn z.s) M4.m, iM z.ub M4.m, eW M4]) ?_
  refine az (aR (O7.aX { M3.v.mt with mv := cC (M3.v.mt.mv + (n2 : Nat)) }) (H := [])) ?_
  refine jN [SH z (M4.aX { M3.v.mt with mv := cC (M3.v.mt.mv + (n2 : Nat)) })] Tryz.results37 ?_
  exact ⟨rfl, by rw [bQ]⟩
 ·refine Do rfl (oL T.pG ?_)
  refine aD ?_
  refine D2 4 14 ?_ ?_
  ·refine Do rfl (oL T.eL ?_)
   refine aD ?_
   refine Dn 14 ?_
   refine Do rfl (oL T.eL ?_)
   refine aD ?_
   refine az (fun h s => aR O6 (H := []) h (by revert s; revert h; unfold gp ij jM gF pV iZ; simp only [uy, cap]; exact Eh)) ?_
   refine Dn 15 ?_
   refine Do rfl (oC T.qz rfl rfl (hU z M3 d1 vU Nh M3.v.p.m) (.cons .here .nil) (fun _ _ _ => trivial) ?_)
   rintro v H' ⟨n2, M4, oh, rfl, rfl⟩
   refine bo ?_
   have nD := (fb M3 M3.v.p.m).1.mt
   rw [oh] at nD
   change M4.v.mt = M3.v.mt at nD
   refine eK fun B7 O7 => ?_
   unfold gp ij jM gF pV iZ
   rw [nD]
   refine bo ?_
   refine aD ?_
   refine Dt 16 rfl Im ?_
   refine Dt 17 rfl Nc ?_
   refine Dt 18 rfl (Fa T.eG) ?_
   refine Dt 19 rfl (Fa T.fe) ?_
   refine Dn 20 ?_
   refine Do rfl (oS T.eL ?_)
   refine aD ?_
   refine br (by kernel_rfl) fW ?_
   have bQ : M3.iI = M4.aX { M3.v.mt with mv := cC (M3.v.mt.mv + (n2 : Nat)) } := by unfold Mo.iI; rw [oh]
   refine Hh (H' := [Cl z.y.b B7.C, af z.y.t 145 (dg z.y.b B7.W B7.ty), af B7.ty.nk 163 (ax (ao B7.W.nb)), fI B7.ty.ok 163 (ax (ao B7.W.ob)), af z.y.q 139 (dy z.y.b z.qb B7.C.ae.length), af z.qb 327 (M4.Q.flatMap (dD B7.C)), ey z.y.cr z.y.q z.y.wh B7.C.ae.length (aO z.s) (aN z.s) B7.C M4.x, Wl z.y.wh B7.E M4.tn, af z.s 111 [.pointer (some ⟨z.y.b, 0, none⟩), .pointer (some ⟨z.y.ck, 0, none⟩), .pointer (some ⟨z.y.t, 0, none⟩), .pointer (some ⟨z.y.lu, 0, none⟩), .pointer (some ⟨z.y.wh, 0, none⟩), .pointer (some ⟨z.y.cr, 0, none⟩), .pointer (some ⟨z.y.mo, 0, none⟩), .pointer (some ⟨z.y.q, 0, none⟩), .int .i64 M4.v.c.ai, .int .i64 M4.v.c.bj, .int .i64 M4.v.c.fac, .int .i64 M4.v.c.aM, .int .i64 M4.v.c.lim, .int .i64 M4.v.c.hot, .int .i64 M4.v.c.warm, .int .i64 M4.v.p.b, .int .i64 M4.v.p.l, .int .i64 M4.v.p.c, .int .i64 M4.v.p.m, .int .u64 (M4.v.bm : Int), .int .i64 (M4.v.fJ : Int), .int .i64 M3.v.mt.dr, .int .i64 M3.v.mt.re, .int .i64 M3.v.mt.bu, .int .i64 M3.v.mt.li, .int .i64 M3.v.mt.lo, .int .i64 M3.v.mt.cr, .int .i64 (IntKind.i64.wrap (M3.v.mt.mv + (n2 : Int))), .slice M4.v.wa M4.v.wn M4.v.wc], iN z.y.ck M4.k, gf z.y.lu z.y.b z.y.q z.hot z.warm, iB z.y.mo z.y.b z.ub (aO z.s) (aN z.s) (bn z.s) M4.m, iM z.ub M4.m, eW M4]) ?_
   refine az (aR (O7.aX { M3.v.mt with mv := cC (M3.v.mt.mv + (n2 : Nat)) }) (H := [])) ?_
   refine jN [SH z (M4.aX { M3.v.mt with mv := cC (M3.v.mt.mv + (n2 : Nat)) })] Tryz.results37 ?_
   exact ⟨rfl, by rw [bQ]⟩
  refine Do rfl (oL T.eL ?_)
  refine aD ?_
  refine D2 4 15 ?_ ?_
  ·refine Do rfl (oL T.eL ?_)
   refine aD ?_
   refine az (fun h s => aR O6 (H := []) h (by revert s; revert h; unfold gp ij jM gF pV iZ; simp only [uy, cap]; exact Eh)) ?_
   refine Dn 15 ?_
   refine Do rfl (oC T.qz rfl rfl (hU z M3 d1 vU Nh M3.v.p.m) (.cons .here .nil) (fun _ _ _ => trivial) ?_)
   rintro v H' ⟨n2, M4, oh, rfl, rfl⟩
   refine bo ?_
   have nD := (fb M3 M3.v.p.m).1.mt
   rw [oh] at nD
   change M4.v.mt = M3.v.mt at nD
   refine eK fun B7 O7 => ?_
   unfold gp ij jM gF pV iZ
   rw [nD]
   refine bo ?_
   refine aD ?_
   refine Dt 16 rfl Im ?_
   refine Dt 17 rfl Nc ?_
   refine Dt 18 rfl (Fa T.eG) ?_
   refine Dt 19 rfl (Fa T.fe) ?_
   refine Dn 20 ?_
   refine Do rfl (oS T.eL ?_)
   refine aD ?_
   refine br (by kernel_rfl) fW ?_
   have bQ : M3.iI = M4.aX { M3.v.mt with mv := cC (M3.v.mt.mv + (n2 : Nat)) } := by unfold Mo.iI; rw [oh]
   refine Hh (H' := [Cl z.y.b B7.C, af z.y.t 145 (dg z.y.b B7.W B7.ty), af B7.ty.nk 163 (ax (ao B7.W.nb)), fI B7.ty.ok 163 (ax (ao B7.W.ob)), af z.y.q 139 (dy z.y.b z.qb B7.C.ae.length), af z.qb 327 (M4.Q.flatMap (dD B7.C)), ey z.y.cr z.y.q z.y.wh B7.C.ae.length (aO z.s) (aN z.s) B7.C M4.x, Wl z.y.wh B7.E M4.tn, af z.s 111 [.pointer (some ⟨z.y.b, 0, none⟩), .pointer (some ⟨z.y.ck, 0, none⟩), .pointer (some ⟨z.y.t, 0, none⟩), .pointer (some ⟨z.y.lu, 0, none⟩), .pointer (some ⟨z.y.wh, 0, none⟩), .pointer (some ⟨z.y.cr, 0, none⟩), .pointer (some ⟨z.y.mo, 0, none⟩), .pointer (some ⟨z.y.q, 0, none⟩), .int .i64 M4.v.c.ai, .int .i64 M4.v.c.bj, .int .i64 M4.v.c.fac, .int .i64 M4.v.c.aM, .int .i64 M4.v.c.lim, .int .i64 M4.v.c.hot, .int .i64 M4.v.c.warm, .int .i64 M4.v.p.b, .int .i64 M4.v.p.l, .int .i64 M4.v.p.c, .int .i64 M4.v.p.m, .int .u64 (M4.v.bm : Int), .int .i64 (M4.v.fJ : Int), .int .i64 M3.v.mt.dr, .int .i64 M3.v.mt.re, .int .i64 M3.v.mt.bu, .int .i64 M3.v.mt.li, .int .i64 M3.v.mt.lo, .int .i64 M3.v.mt.cr, .int .i64 (IntKind.i64.wrap (M3.v.mt.mv + (n2 : Int))), .slice M4.v.wa M4.v.wn M4.v.wc], iN z.y.ck M4.k, gf z.y.lu z.y.b z.y.q z.hot z.warm, iB z.y.mo z.y.b z.ub (aO z.s) (aN z.s) (bn z.s) M4.m, iM z.ub M4.m, eW M4]) ?_
   refine az (aR (O7.aX { M3.v.mt with mv := cC (M3.v.mt.mv + (n2 : Nat)) }) (H := [])) ?_
   refine jN [SH z (M4.aX { M3.v.mt with mv := cC (M3.v.mt.mv + (n2 : Nat)) })] Tryz.results37 ?_
   exact ⟨rfl, by rw [bQ]⟩
  refine az (fun h s => aR O6 (H := []) h (by revert s; revert h; unfold gp ij jM gF pV iZ; simp only [uy, cap]; exact Eh)) ?_
  refine Do rfl (oC T.qz rfl rfl (hU z M3 d1 vU Nh M3.v.p.m) (.cons .here .nil) (fun _ _ _ => trivial) ?_)
  rintro v H' ⟨n2, M4, oh, rfl, rfl⟩
  refine bo ?_
  have nD := (fb M3 M3.v.p.m).1.mt
  rw [oh] at nD
  change M4.v.mt = M3.v.mt at nD
  refine eK fun B7 O7 => ?_
  unfold gp ij jM gF pV iZ
  rw [nD]
  refine bo ?_
  refine aD ?_
  refine Dn 4 ?_
  refine Do rfl (oL T.eL ?_)
  refine aD ?_
  refine Dt 16 rfl Im ?_
  refine Dt 17 rfl Nc ?_
  refine Dt 18 rfl (Fa T.eG) ?_
  refine Dt 19 rfl (Fa T.fe) ?_
  refine Dn 20 ?_
  refine Do rfl (oS T.eL ?_)
  refine aD ?_
  refine br (by kernel_rfl) fW ?_
  have bQ : M3.iI = M4.aX { M3.v.mt with mv := cC (M3.v.mt.mv + (n2 : Nat)) } := by unfold Mo.iI; rw [oh]
  refine Hh (H' := [Cl z.y.b B7.C, af z.y.t 145 (dg z.y.b B7.W B7.ty), af B7.ty.nk 163 (ax (ao B7.W.nb)), fI B7.ty.ok 163 (ax (ao B7.W.ob)), af z.y.q 139 (dy z.y.b z.qb B7.C.ae.length), af z.qb 327 (M4.Q.flatMap (dD B7.C)), ey z.y.cr z.y.q z.y.wh B7.C.ae.length (aO z.s) (aN z.s) B7.C M4.x, Wl z.y.wh B7.E M4.tn, af z.s 111 [.pointer (some ⟨z.y.b, 0, none⟩), .pointer (some ⟨z.y.ck, 0, none⟩), .pointer (some ⟨z.y.t, 0, none⟩), .pointer (some ⟨z.y.lu, 0, none⟩), .pointer (some ⟨z.y.wh, 0, none⟩), .pointer (some ⟨z.y.cr, 0, none⟩), .pointer (some ⟨z.y.mo, 0, none⟩), .pointer (some ⟨z.y.q, 0, none⟩), .int .i64 M4.v.c.ai, .int .i64 M4.v.c.bj, .int .i64 M4.v.c.fac, .int .i64 M4.v.c.aM, .int .i64 M4.v.c.lim, .int .i64 M4.v.c.hot, .int .i64 M4.v.c.warm, .int .i64 M4.v.p.b, .int .i64 M4.v.p.l, .int .i64 M4.v.p.c, .int .i64 M4.v.p.m, .int .u64 (M4.v.bm : Int), .int .i64 (M4.v.fJ : Int), .int .i64 M3.v.mt.dr, .int .i64 M3.v.mt.re, .int .i64 M3.v.mt.bu, .int .i64 M3.v.mt.li, .int .i64 M3.v.mt.lo, .int .i64 M3.v.mt.cr, .int .i64 (IntKind.i64.wrap (M3.v.mt.mv + (n2 : Int))), .slice M4.v.wa M4.v.wn M4.v.wc], iN z.y.ck M4.k, gf z.y.lu z.y.b z.y.q z.hot z.warm, iB z.y.mo z.y.b z.ub (aO z.s) (aN z.s) (bn z.s) M4.m, iM z.ub M4.m, eW M4]) ?_
  refine az (aR (O7.aX { M3.v.mt with mv := cC (M3.v.mt.mv + (n2 : Nat)) }) (H := [])) ?_
  refine jN [SH z (M4.aX { M3.v.mt with mv := cC (M3.v.mt.mv + (n2 : Nat)) })] Tryz.results37 ?_
  exact ⟨rfl, by rw [bQ]⟩
 refine Do rfl (oL T.eL ?_)
 refine aD ?_
 refine D2 4 9 ?_ ?_
 ·refine Do rfl (oL T.eL ?_)
  refine aD ?_
  refine Dn 9 ?_
  refine Do rfl (oL T.pG ?_)
  refine aD ?_
  refine az (fun h s => aR O6 (H := []) h (by revert s; revert h; unfold gp ij jM gF pV iZ; simp only [uy, cap]; exact Eh)) ?_
  refine Dn 15 ?_
  refine Do rfl (oC T.qz rfl rfl (hU z M3 d1 vU Nh M3.v.p.m) (.cons .here .nil) (fun _ _ _ => trivial) ?_)
  rintro v H' ⟨n2, M4, oh, rfl, rfl⟩
  refine bo ?_
  have nD := (fb M3 M3.v.p.m).1.mt
  rw [oh] at nD
  change M4.v.mt = M3.v.mt at nD
  refine eK fun B7 O7 => ?_
  unfold gp ij jM gF pV iZ
  rw [nD]
  refine bo ?_
  refine aD ?_
  refine Dt 16 rfl Im ?_
  refine Dt 17 rfl Nc ?_
  refine Dt 18 rfl (Fa T.eG) ?_
  refine Dt 19 rfl (Fa T.fe) ?_
  refine Dn 20 ?_
  refine Do rfl (oS T.eL ?_)
  refine aD ?_
  refine br (by kernel_rfl) fW ?_
  have bQ : M3.iI = M4.aX { M3.v.mt with mv := cC (M3.v.mt.mv + (n2 : Nat)) } := by unfold Mo.iI; rw [oh]
  refine Hh (H' := [Cl z.y.b B7.C, af z.y.t 145 (dg z.y.b B7.W B7.ty), af B7.ty.nk 163 (ax (ao B7.W.nb)), fI B7.ty.ok 163 (ax (ao B7.W.ob)), af z.y.q 139 (dy z.y.b z.qb B7.C.ae.length), af z.qb 327 (M4.Q.flatMap (dD B7.C)), ey z.y.cr z.y.q z.y.wh B7.C.ae.length (aO z.s) (aN z.s) B7.C M4.x, Wl z.y.wh B7.E M4.tn, af z.s 111 [.pointer (some ⟨z.y.b, 0, none⟩), .pointer (some ⟨z.y.ck, 0, none⟩), .pointer (some ⟨z.y.t, 0, none⟩), .pointer (some ⟨z.y.lu, 0, none⟩), .pointer (some ⟨z.y.wh, 0, none⟩), .pointer (some ⟨z.y.cr, 0, none⟩), .pointer (some ⟨z.y.mo, 0, none⟩), .pointer (some ⟨z.y.q, 0, none⟩), .int .i64 M4.v.c.ai, .int .i64 M4.v.c.bj, .int .i64 M4.v.c.fac, .int .i64 M4.v.c.aM, .int .i64 M4.v.c.lim, .int .i64 M4.v.c.hot, .int .i64 M4.v.c.warm, .int .i64 M4.v.p.b, .int .i64 M4.v.p.l, .int .i64 M4.v.p.c, .int .i64 M4.v.p.m, .int .u64 (M4.v.bm : Int), .int .i64 (M4.v.fJ : Int), .int .i64 M3.v.mt.dr, .int .i64 M3.v.mt.re, .int .i64 M3.v.mt.bu, .int .i64 M3.v.mt.li, .int .i64 M3.v.mt.lo, .int .i64 M3.v.mt.cr, .int .i64 (IntKind.i64.wrap (M3.v.mt.mv + (n2 : Int))), .slice M4.v.wa M4.v.wn M4.v.wc], iN z.y.ck M4.k, gf z.y.lu z.y.b z.y.q z.hot z.warm, iB z.y.mo z.y.b z.ub (aO z.s) (aN z.s) (bn z.s) M4.m, iM z.ub M4.m, eW M4]) ?_
  refine az (aR (O7.aX { M3.v.mt with mv := cC (M3.v.mt.mv + (n2 : Nat)) }) (H := [])) ?_
  refine jN [SH z (M4.aX { M3.v.mt with mv := cC (M3.v.mt.mv + (n2 : Nat)) })] Tryz.results37 ?_
  exact ⟨rfl, by rw [bQ]⟩
 refine Do rfl (oL T.pG ?_)
 refine aD ?_
 refine D2 4 15 ?_ ?_
 ·refine Do rfl (oL T.eL ?_)
  refine aD ?_
  refine az (fun h s => aR O6 (H := []) h (by revert s; revert h; unfold gp ij jM gF pV iZ; simp only [uy, cap]; exact Eh)) ?_
  refine Dn 15 ?_
  refine Do rfl (oC T.qz rfl rfl (hU z M3 d1 vU Nh M3.v.p.m) (.cons .here .nil) (fun _ _ _ => trivial) ?_)
  rintro v H' ⟨n2, M4, oh, rfl, rfl⟩
  refine bo ?_
  have nD := (fb M3 M3.v.p.m).1.mt
  rw [oh] at nD
  change M4.v.mt = M3.v.mt at nD
  refine eK fun B7 O7 => ?_
  unfold gp ij jM gF pV iZ
  rw [nD]
  refine bo ?_
  refine aD ?_
  refine Dt 16 rfl Im ?_
  refine Dt 17 rfl Nc ?_
  refine Dt 18 rfl (Fa T.eG) ?_
  refine Dt 19 rfl (Fa T.fe) ?_
  refine Dn 20 ?_
  refine Do rfl (oS T.eL ?_)
  refine aD ?_
  refine br (by kernel_rfl) fW ?_
  have bQ : M3.iI = M4.aX { M3.v.mt with mv := cC (M3.v.mt.mv + (n2 : Nat)) } := by unfold Mo.iI; rw [oh]
  refine Hh (H' := [Cl z.y.b B7.C, af z.y.t 145 (dg z.y.b B7.W B7.ty), af B7.ty.nk 163 (ax (ao B7.W.nb)), fI B7.ty.ok 163 (ax (ao B7.W.ob)), af z.y.q 139 (dy z.y.b z.qb B7.C.ae.length), af z.qb 327 (M4.Q.flatMap (dD B7.C)), ey z.y.cr z.y.q z.y.wh B7.C.ae.length (aO z.s) (aN z.s) B7.C M4.x, Wl z.y.wh B7.E M4.tn, af z.s 111 [.pointer (some ⟨z.y.b, 0, none⟩), .pointer (some ⟨z.y.ck, 0, none⟩), .pointer (some ⟨z.y.t, 0, none⟩), .pointer (some ⟨z.y.lu, 0, none⟩), .pointer (some ⟨z.y.wh, 0, none⟩), .pointer (some ⟨z.y.cr, 0, none⟩), .pointer (some ⟨z.y.mo, 0, none⟩), .pointer (some ⟨z.y.q, 0, none⟩), .int .i64 M4.v.c.ai, .int .i64 M4.v.c.bj, .int .i64 M4.v.c.fac, .int .i64 M4.v.c.aM, .int .i64 M4.v.c.lim, .int .i64 M4.v.c.hot, .int .i64 M4.v.c.warm, .int .i64 M4.v.p.b, .int .i64 M4.v.p.l, .int .i64 M4.v.p.c, .int .i64 M4.v.p.m, .int .u64 (M4.v.bm : Int), .int .i64 (M4.v.fJ : Int), .int .i64 M3.v.mt.dr, .int .i64 M3.v.mt.re, .int .i64 M3.v.mt.bu, .int .i64 M3.v.mt.li, .int .i64 M3.v.mt.lo, .int .i64 M3.v.mt.cr, .int .i64 (IntKind.i64.wrap (M3.v.mt.mv + (n2 : Int))), .slice M4.v.wa M4.v.wn M4.v.wc], iN z.y.ck M4.k, gf z.y.lu z.y.b z.y.q z.hot z.warm, iB z.y.mo z.y.b z.ub (aO z.s) (aN z.s) (bn z.s) M4.m, iM z.ub M4.m, eW M4]) ?_
  refine az (aR (O7.aX { M3.v.mt with mv := cC (M3.v.mt.mv + (n2 : Nat)) }) (H := [])) ?_
  refine jN [SH z (M4.aX { M3.v.mt with mv := cC (M3.v.mt.mv + (n2 : Nat)) })] Tryz.results37 ?_
  exact ⟨rfl, by rw [bQ]⟩
 refine az (fun h s => aR O6 (H := []) h (by revert s; revert h; unfold gp ij jM gF pV iZ; simp only [uy, cap]; exact Eh)) ?_
 refine Do rfl (oC T.qz rfl rfl (hU z M3 d1 vU Nh M3.v.p.m) (.cons .here .nil) (fun _ _ _ => trivial) ?_)
 rintro v H' ⟨n2, M4, oh, rfl, rfl⟩
 refine bo ?_
 have nD := (fb M3 M3.v.p.m).1.mt
 rw [oh] at nD
 change M4.v.mt = M3.v.mt at nD
 refine eK fun B7 O7 => ?_
 unfold gp ij jM gF pV iZ
 rw [nD]
 refine bo ?_
 refine aD ?_
 refine Dn 4 ?_
 refine Do rfl (oL T.eL ?_)
 refine aD ?_
 refine Dt 16 rfl Im ?_
 refine Dt 17 rfl Nc ?_
 refine Dt 18 rfl (Fa T.eG) ?_
 refine Dt 19 rfl (Fa T.fe) ?_
 refine Dn 20 ?_
 refine Do rfl (oS T.eL ?_)
 refine aD ?_
 refine br (by kernel_rfl) fW ?_
 have bQ : M3.iI = M4.aX { M3.v.mt with mv := cC (M3.v.mt.mv + (n2 : Nat)) } := by unfold Mo.iI; rw [oh]
 refine Hh (H' := [Cl z.y.b B7.C, af z.y.t 145 (dg z.y.b B7.W B7.ty), af B7.ty.nk 163 (ax (ao B7.W.nb)), fI B7.ty.ok 163 (ax (ao B7.W.ob)), af z.y.q 139 (dy z.y.b z.qb B7.C.ae.length), af z.qb 327 (M4.Q.flatMap (dD B7.C)), ey z.y.cr z.y.q z.y.wh B7.C.ae.length (aO z.s) (aN z.s) B7.C M4.x, Wl z.y.wh B7.E M4.tn, af z.s 111 [.pointer (some ⟨z.y.b, 0, none⟩), .pointer (some ⟨z.y.ck, 0, none⟩), .pointer (some ⟨z.y.t, 0, none⟩), .pointer (some ⟨z.y.lu, 0, none⟩), .pointer (some ⟨z.y.wh, 0, none⟩), .pointer (some ⟨z.y.cr, 0, none⟩), .pointer (some ⟨z.y.mo, 0, none⟩), .pointer (some ⟨z.y.q, 0, none⟩), .int .i64 M4.v.c.ai, .int .i64 M4.v.c.bj, .int .i64 M4.v.c.fac, .int .i64 M4.v.c.aM, .int .i64 M4.v.c.lim, .int .i64 M4.v.c.hot, .int .i64 M4.v.c.warm, .int .i64 M4.v.p.b, .int .i64 M4.v.p.l, .int .i64 M4.v.p.c, .int .i64 M4.v.p.m, .int .u64 (M4.v.bm : Int), .int .i64 (M4.v.fJ : Int), .int .i64 M3.v.mt.dr, .int .i64 M3.v.mt.re, .int .i64 M3.v.mt.bu, .int .i64 M3.v.mt.li, .int .i64 M3.v.mt.lo, .int .i64 M3.v.mt.cr, .int .i64 (IntKind.i64.wrap (M3.v.mt.mv + (n2 : Int))), .slice M4.v.wa M4.v.wn M4.v.wc], iN z.y.ck M4.k, gf z.y.lu z.y.b z.y.q z.hot z.warm, iB z.y.mo z.y.b z.ub (aO z.s) (aN z.s) (bn z.s) M4.m, iM z.ub M4.m, eW M4]) ?_
 refine az (aR (O7.aX { M3.v.mt with mv := cC (M3.v.mt.mv + (n2 : Nat)) }) (H := [])) ?_
 refine jN [SH z (M4.aX { M3.v.mt with mv := cC (M3.v.mt.mv + (n2 : Nat)) })] Tryz.results37 ?_
 exact ⟨rfl, by rw [bQ]⟩
def Mo.find (M : Mo) (k : List UInt8) : Option Nat := M.Q.flatten.find? fun p => decide ((M.it p).key = k)
theorem bT.Ih {B : Bx} {M : Mo} (O : bT B M) (k : List UInt8) : B.W.get B.C k = M.find k := by
 have hk : ∀ p ∈ B.W.all, aI B.C.A p = (M.it p).key := fun p hp => (O.lM hp).2.2.2.2.1
 cases hf : M.find k with
 | none =>
  unfold Mo.find at hf
  rw [List.find?_eq_none] at hf
  refine get_none fun p hp e => hf p (O.perm.mem_iff.1 hp) (decide_eq_true ?_)
  rw [← hk p hp]; exact e
 | some p =>
  unfold Mo.find at hf
  have h1 := List.mem_of_find?_eq_some hf
  have h2 : (M.it p).key = k := by simpa using List.find?_some hf
  have hp := O.perm.mem_iff.2 h1
  exact get_some O.t hp ((hk p hp).trans h2)
theorem ky {M : Mo} {k : List UInt8} {p : Nat} (h : M.find k = some p) : M.has p ∧ (M.it p).key = k := by
 unfold Mo.find at h
 exact ⟨eD.1 (List.mem_of_find?_eq_some h), by simpa using List.find?_some h⟩
def Mo.R6 (M : Mo) : kh := ⟨M.Q, fun p => decide ((M.it p).du % 2 = 1), M.x⟩
def Mo.v8 (M : Mo) (t : kh) : Mo := { M with Q := t.Q, x := t.x, it := fun p => { M.it p with du := mkSet (M.it p).du (t.ac p) } }
theorem AP {C : Cs} (K : Ok C) {B : By} {S : Nat → Nat → Prop} (d : cZ C C.A B S) {p : Nat} (L : At C p) (I : gk C p) (h : ∀ j, S p j → j < 16 ∨ j = 45 ∨ j = 46) : pB B p = { pB C.A p with du := eM B p } := by
 have n1 := (L.bh K).2.1
 have hf := I.fits
 have r := fun (o w : Nat) (h2 : o + w ≤ C.sz (C.cl p)) (h3 : ∀ j, o ≤ j → j < o + w → ¬ (j < 16 ∨ j = 45 ∨ j = 46)) => lP K d L h2 (fun j g1 g2 s => h3 j g1 g2 (h j s))
 have e1 : kl B p = kl C.A p := r 44 1 (by omega) (fun j g1 g2 => by omega)
 have e2 : vl B p = vl C.A p := r 48 4 (by omega) (fun j g1 g2 => by omega)
 have e3 : aI B p = aI C.A p := by
  unfold aI
  rw [e1]
  exact uV K d L (by omega) (fun j g1 g2 s => by have := h j s; omega)
 have e4 : pF B p = pF C.A p := by
  unfold pF
  rw [e1, e2, Nat.add_assoc]
  exact uV K d L (by omega) (fun j g1 g2 s => by have := h j s; omega)
 unfold pB Su Ni Ef xX
 rw [e3, e4, r 40 4 (by omega) (fun j g1 g2 => by omega), r 16 8 (by omega) (fun j g1 g2 => by omega), r 24 8 (by omega) (fun j g1 g2 => by omega), r 32 8 (by omega) (fun j g1 g2 => by omega)]
theorem bT.bai {B : Bx} {M : Mo} (O : bT B M) : BaI B.C B.C.A M.R6 :=
 ⟨O.o, O.x, O.mq, fun i p h => by unfold Ea; rw [(O.SF (O.z8 h)).1]; rfl⟩
theorem bT.bal {B : Bx} {M : Mo} (O : bT B M) {A : By} {t : kh} (T : Es B.C M.Q A t) : bT ⟨B.C.wA A, B.W, B.ty, B.E⟩ (M.v8 t) := by
 have K := O.k
 have hS : ∀ q j, SB q j → j < 16 ∨ j = 45 ∨ j = 46 := fun q j s => by unfold SB at s; omega
 have pC : ∀ p ∈ B.W.all, pB A p = { M.it p with du := mkSet (M.it p).du (t.ac p) } := fun p hp => by
  rw [AP K T.d (O.qp hp) (O.t.it p hp) (fun j s => hS p j s), O.it p hp]
  obtain ⟨i, hi⟩ := (T.mem p).2 ((O.al p).1 hp)
  have h1 := T.mr p (O.tY hp)
  have h2 := T.i.ac i p hi
  have h3 := (O.SF hp).1
  have h4 : eM A p = mkSet (M.it p).du (t.ac p) := by
   unfold mkSet
   rw [← h3, ← h2, ← h1]
   unfold Ea
   by_cases e : eM A p % 2 = 1
   ·rw [decide_eq_true e, if_pos rfl]; omega
   rw [decide_eq_false e, if_neg (by decide)]; omega
  rw [h4]
 have jY : ∀ q, Live (B.C.wA A) q ↔ Live B.C q := fun q => ⟨fun h => ⟨⟨h.i, h.own, h.al, h.k⟩, h.tk⟩, fun h => h.wA _⟩
 refine ⟨?_, K.wA A, Eg K O.t T.d fun p _ j s => by unfold SB at s; unfold ki; omega, O.ty, T.i.o, T.i.x, T.i.mq, O.ck, fun p => (O.al p).trans (T.mem p).symm, fun q => (jY q).trans (O.lv q), O.ho, pC, ?_, O.st, O.nb, O.mg, O.mo, O.bt, O.un, O.on, O.go, O.wn, O.cf, O.n, O.lg⟩
 ·show B.C.wA A = M.C.wA A
  conv => lhs; rw [O.c]
  rfl
 exact O.e.trans (List.Perm.of_eq (gQ fun q h => ⟨rfl, rfl, rfl⟩).symm)
def Mo.aQ (M : Mo) (a : Option Addr) (c : Nat) : Mo := { M with v := { M.v with wa := a, wn := M.jX.length, wc := c } }
def SW (z : Ly) (M : Mo) : aa := fun h => ∃ w : Option Addr × Nat, SH z (M.aQ w.1 w.2) h
theorem rh {P : Program} {f : FuncId} {args : List Value} {pre : Hp → Prop} {H : List aa} {R : Value → List aa → Prop} {z : Ly} {M : Mo} (h : ∀ a c, aL P f args pre (SH z (M.aQ a c) :: H) R) : aL P f args pre (SW z M :: H) R :=
 aL.WO fun w => h w.1 w.2
theorem eQ {z : Ly} {M : Mo} (a : Option Addr) (c : Nat) {H : List aa} : ∀ h, aj (SH z (M.aQ a c) :: H) h → aj (SW z M :: H) h := fun h s =>
 aY (fun k x => ⟨(a, c), x⟩) s
theorem ym {n : Nat} {ds : List Deferred} {F : c9} {K : Act → World → Prop} {σ : aS} {z : Ly} {M : Mo} {H : List aa} (h : ∀ a c, G n ds F K σ (SH z (M.aQ a c) :: H)) : G n ds F K σ (SW z M :: H) :=
 Yd fun w => h w.1 w.2
theorem Zq {n : Nat} {ds : List Deferred} {F : c9} {K : Act → World → Prop} {σ : aS} {z : Ly} {M : Mo} {H : List aa} (a : Option Addr) (c : Nat) (h : G n ds F K σ (SW z M :: H)) : G n ds F K σ (SH z (M.aQ a c) :: H) :=
 az (eQ a c) h
theorem ri {P : Program} {f : FuncId} {args : List Value} {z : Ly} {M N : Mo} {T : Value → Prop} (h : ∀ a c, aL P f args (fun _ => True) [SH z (M.aQ a c)] (fun v H => T v ∧ H = [SH z (N.aQ a c)])) : aL P f args (fun _ => True) [SW z M] (fun v H => T v ∧ H = [SW z N]) :=
 rh fun a c => (h a c).out (by
  rintro v H' ⟨t, rfl⟩
  exact ⟨[SW z N], ⟨t, rfl⟩, fun k s => eQ a c k s⟩)
theorem EJ (z : Ly) (M : Mo) (p : Nat) (hp : M.has p) : aL Tryz.prog 40 [.pointer (some ⟨z.s, 0, none⟩), .int .u64 (M.C.hd p : Int)] (fun _ => True) [SW z M]
  (fun v H => v = .bool (decide (M.bz p ≠ 0)) ∧ H = [SW z M]) :=
 ri (N := M) (T := fun v => v = .bool (decide (M.bz p ≠ 0))) fun a d => by
  have h := vg z (M.aQ a d) p hp
  exact h
theorem Bs (z : Ly) (M : Mo) (p : Nat) (hp : M.has p) : aL Tryz.prog 87 [.pointer (some ⟨z.s, 0, none⟩), .int .u64 (M.C.hd p : Int)] (fun _ => True) [SW z M]
  (fun v H => v = .int .i64 (M.bz p : Int) ∧ H = [SW z M]) :=
 ri (N := M) (T := fun v => v = .int .i64 (M.bz p : Int)) fun a d => by
  have h := BA z (M.aQ a d) p hp
  exact h
theorem u9 (z : Ly) (M : Mo) (p : Nat) (hp : M.has p) : aL Tryz.prog 66 [.pointer (some ⟨z.s, 0, none⟩), .int .u64 (M.C.hd p : Int)] (fun _ => True) [SW z M]
  (fun v H => v = .tuple #[] ∧ H = [SW z (M.bR p)]) :=
 ri (N := M.bR p) (T := fun v => v = .tuple #[]) fun a d => by
  have h := vh z (M.aQ a d) p hp
  rw [show (M.aQ a d).bR p = (M.bR p).aQ a d from rfl] at h
  exact h
theorem IV (M : Mo) (p : Nat) (a : Option Addr) (c : Nat) : (M.aQ a c).look p = (M.look p).aQ a c := by
 unfold Mo.look
 rw [show (M.aQ a c).bz p = M.bz p from rfl]
 split <;> rfl
theorem Dl (a : Option Addr) (c : Nat) : ∀ (l : List Nat) (M : Mo), l.foldl Mo.look (M.aQ a c) = (l.foldl Mo.look M).aQ a c
 | [], _ => rfl
 | p :: l, M => by rw [List.foldl_cons, List.foldl_cons, IV, Dl a c l]
theorem zd (a : Option Addr) (c : Nat) : ∀ (f : Nat) (M : Mo), (M.aQ a c).bI f = ((M.bI f).1, (M.bI f).2.aQ a c)
 | 0, _ => rfl
 | f + 1, M => by
  rcases hf : M.x.find M.gL M.Q with ⟨_ | _, x⟩
  ·rw [mR hf, mR (M := M.aQ a c) hf]; rfl
  cases hx : x.nx with
  | none =>
   unfold Mo.bI
   rw [show (M.aQ a c).x.find (M.aQ a c).gL (M.aQ a c).Q = (true, x) from hf, hf]
   dsimp only
   rw [hx]; rfl
  | some p =>
   rw [mQ hf hx, mQ (M := M.aQ a c) hf hx]
   have e : (({ M.aQ a c with x := x.pass (M.aQ a c).Q } : Mo).look p) = (({ M with x := x.pass M.Q } : Mo).look p).aQ a c := IV { M with x := x.pass M.Q } p a c
   rw [e, zd a c f]
theorem Qr (M : Mo) (now aC : Int) (a : Option Addr) (c : Nat) : (M.aQ a c).dC now aC = ((M.dC now aC).1, (M.dC now aC).2.aQ a c) := by
 unfold Mo.dC
 split
 ·rfl
 unfold Mo.nS
 rw [show (M.aQ a c).iu now (min aC 1048576) = M.iu now (min aC 1048576) from rfl, Dl, zd]
theorem wm (M : Mo) (d : Nat) (a : Option Addr) (c : Nat) : (M.aQ a c).take d = (M.take d).map fun o => (o.1, o.2.aQ a c) := by
 unfold Mo.take
 rw [show (M.aQ a c).C = M.C from rfl]
 cases M.C.dw d <;> rfl
theorem Ov (M : Mo) (p : Nat) (a : Option Addr) (c : Nat) : (M.aQ a c).shift p = (M.shift p).map fun N => N.aQ a c := by
 unfold Mo.shift
 rw [show (M.aQ a c).C.cl p = M.C.cl p from rfl, wm]
 cases M.take (M.C.cl p) <;> rfl
theorem Ps (M : Mo) (a : Option Addr) (c : Nat) : (M.aQ a c).fh = (M.fh.1, M.fh.2.aQ a c) := by
 unfold Mo.fh
 rw [show ((M.aQ a c).C.pg (M.aQ a c).m.pg) = M.C.pg M.m.pg from rfl]
 cases (M.C.pg M.m.pg).tk.findIdx? id with
 | none => rfl
 | some k =>
  dsimp only
  rw [show (M.aQ a c).C.ux (M.aQ a c).m.pg k = M.C.ux M.m.pg k from rfl, show (M.aQ a c).bz (M.C.ux M.m.pg k) = M.bz (M.C.ux M.m.pg k) from rfl, Ov]
  split
  ·rfl
  ·cases M.shift (M.C.ux M.m.pg k) <;> rfl
theorem yN (a : Option Addr) (c : Nat) : ∀ (f : Nat) (M : Mo), (M.aQ a c).dG f = ((M.dG f).1, (M.dG f).2.aQ a c)
 | 0, _ => rfl
 | f + 1, M => by
  have h := Ps M a c
  rcases hm : M.fh with ⟨_ | _, N⟩
  ·rw [hm] at h
   rw [p7 hm, p7 h]
  rw [hm] at h
  rw [pZ hm, pZ h, yN a c f]
theorem Lt (M : Mo) (a : Option Addr) (c : Nat) : (M.aQ a c).fq = M.fq.aQ a c := by
 unfold Mo.fq
 rw [show (M.aQ a c).C = M.C from rfl, show (M.aQ a c).m = M.m from rfl, show (M.aQ a c).gL = M.gL from rfl]
 split
 ·rfl
 cases (List.range M.gL).find? M.m.mE with
 | none => rfl
 | some t =>
  dsimp only
  cases gZ M.m M.C M.gL <;> rfl
theorem Pq (M : Mo) (aC : Int) (a : Option Addr) (c : Nat) : (M.aQ a c).fV aC = ((M.fV aC).1, (M.fV aC).2.aQ a c) := by
 unfold Mo.fV
 rw [show (M.aQ a c).ff = M.ff.aQ a c from rfl, show (M.aQ a c).m = M.m from rfl, yN, Lt]
 split
 ·rfl
 ·split <;> rfl
theorem MG (M : Mo) (a : Option Addr) (c : Nat) : (M.aQ a c).beside = M.beside.aQ a c := by
 have h1 : ∀ N : Mo, (N.aQ a c).gN = N.gN.aQ a c := fun N => by
  unfold Mo.gN
  rw [show (N.aQ a c).k = N.k from rfl, show (N.aQ a c).v.p = N.v.p from rfl, Qr]; rfl
 have h2 : ∀ N : Mo, (N.aQ a c).iI = N.iI.aQ a c := fun N => by
  unfold Mo.iI
  rw [show (N.aQ a c).v.p = N.v.p from rfl, Pq]; rfl
 unfold Mo.beside
 rw [show (M.aQ a c).dM = M.dM.aQ a c from rfl, h1, h2]
theorem zq (xM : oD) (z : Ly) (M : Mo) (hh : M.hole = none) (jA : M.m.st < 4611686018427387904) (Hg : x9 M.v.p) (hA : gq M 1) : aL Tryz.prog 37 [.pointer (some ⟨z.s, 0, none⟩)] (fun _ => True) [SW z M]
  (fun v H => v = .tuple #[] ∧ H = [SW z M.beside]) :=
 ri (N := M.beside) (T := fun v => v = .tuple #[]) fun a d => by
  have h := G7 xM z (M.aQ a d) hh jA Hg ⟨hA.on, hA.sp⟩
  rw [MG] at h
  exact h
def Mo.eJ (M : Mo) (w : Nat) : Mo := { M with jX := M.jX ++ [w] }
def tW (C : Cs) : Option Nat → Nat
 | none => 0
 | some p => C.hd p
def Mo.meet (M : Mo) (k : List UInt8) : Option Nat × Mo := match M.find k with
 | none => (none, M.eJ 1)
 | some p => if M.bz p ≠ 0 then (none, (M.eJ (M.bz p)).bR p) else (some p, M.eJ 0)
theorem bT.eJ {B : Bx} {M : Mo} (O : bT B M) (w : Nat) (a : Option Addr) (c : Nat) : bT B ((M.eJ w).aQ a c) :=
 ⟨O.c, O.k, O.t, O.ty, O.o, O.x, O.mq, O.ck, O.al, O.lv, O.ho, O.it, O.e, O.st, O.nb, O.mg, O.mo, O.bt, O.un, O.on, O.go, rfl, O.cf, O.n, O.lg⟩
theorem SU {B : Bx} {M : Mo} (O : bT B M) (o : Option Nat) : hO B.C o = tW M.C o := by
 cases o with
 | none => rfl
 | some p => rw [bV, O.hd]; rfl
theorem KE (z : Ly) (M : Mo) (k : List UInt8) (hk : k.length < 281474976710656) (hw : M.jX.length < 1073741824) : aL Tryz.prog 108 [.pointer (some ⟨z.s, 0, none⟩), bC k] (fun _ => True) [SW z M]
  (fun v H => v = .int .u64 (tW M.C (M.meet k).1 : Int) ∧ H = [SW z (M.meet k).2]) := by
 refine ag Tryz.func108 rfl Tryz.ntmps108 rfl ?_
 intro F _
 refine ym fun wa wc => eK fun B O => ?_
 have tf := fun a c => kk z.y.t z.y.b B.C O.k B.W B.ty O.t O.ty a k.length c k rfl hk
 rw [O.Ih, show (M.aQ wa wc).find k = M.find k from rfl, SU O, show (M.aQ wa wc).C = M.C from rfl] at tf
 have Sd : (aH M.jX).length = M.jX.length := iO M.jX
 unfold gp ij jM gF pV iZ eW
 dsimp only [Mo.aQ]
 refine bo ?_
 refine bx ?_
 refine Lp (xB T.qW T.jx T.og fun kb kc od => ?_)
 refine zl T.uR (tf _ _) .nil (fun _ le av => ⟨av.nth 1 rfl, ⟨av.nth 2 rfl, av.nth 3 rfl, av.nth 4 rfl, trivial⟩, bY (av.nth 0 rfl)⟩) ?_
 rcases hf : M.find k with _ | p
 ·have Xl : M.meet k = (none, M.eJ 1) := by unfold Mo.meet; rw [hf]
  refine vW ?_
  refine Lp (oT T.dZ fun b1 => ?_)
  refine Lp (bf T.dZ T.lZ rfl rfl rfl rfl (.there (.there (.there (.there (.there (.there (.there (.there (.there (.there (.there (.there (.there (.there .here)))))))))))))) (by first | rfl | (simp; done) | (simp; omega) | omega) (rfl) (by simp [Value.oneCell']) (by first | omega | (simp; omega)) (by first | omega | (simp; omega)) rfl fun a5 c5 hc5 => ?_)
  refine cY ?_
  rw [show aH M.jX ++ [.int .i64 1] = aH (M.jX ++ [1]) by unfold aH; rw [List.map_append]; rfl, show M.jX.length + 1 = (M.jX ++ [1]).length by simp]
  refine Hh (H' := [Cl z.y.b B.C, af z.y.t 145 (dg z.y.b B.W B.ty), af B.ty.nk 163 (ax (ao B.W.nb)), fI B.ty.ok 163 (ax (ao B.W.ob)), af z.y.q 139 (dy z.y.b z.qb B.C.ae.length), af z.qb 327 (M.Q.flatMap (dD B.C)), ey z.y.cr z.y.q z.y.wh B.C.ae.length (aO z.s) (aN z.s) B.C M.x, Wl z.y.wh B.E M.tn, af z.s 111 [.pointer (some ⟨z.y.b, 0, none⟩), .pointer (some ⟨z.y.ck, 0, none⟩), .pointer (some ⟨z.y.t, 0, none⟩), .pointer (some ⟨z.y.lu, 0, none⟩), .pointer (some ⟨z.y.wh, 0, none⟩), .pointer (some ⟨z.y.cr, 0, none⟩), .pointer (some ⟨z.y.mo, 0, none⟩), .pointer (some ⟨z.y.q, 0, none⟩), .int .i64 M.v.c.ai, .int .i64 M.v.c.bj, .int .i64 M.v.c.fac, .int .i64 M.v.c.aM, .int .i64 M.v.c.lim, .int .i64 M.v.c.hot, .int .i64 M.v.c.warm, .int .i64 M.v.p.b, .int .i64 M.v.p.l, .int .i64 M.v.p.c, .int .i64 M.v.p.m, .int .u64 (M.v.bm : Int), .int .i64 (M.v.fJ : Int), .int .i64 M.v.mt.dr, .int .i64 M.v.mt.re, .int .i64 M.v.mt.bu, .int .i64 M.v.mt.li, .int .i64 M.v.mt.lo, .int .i64 M.v.mt.cr, .int .i64 M.v.mt.mv, .slice a5 (M.jX ++ [1]).length c5], iN z.y.ck M.k, gf z.y.lu z.y.b z.y.q z.hot z.warm, iB z.y.mo z.y.b z.ub (aO z.s) (aN z.s) (bn z.s) M.m, iM z.ub M.m, own a5 c5 3 1 (aH (M.jX ++ [1]))]) ?_
  refine az (aR (O.eJ 1 a5 c5) (H := [])) ?_
  refine az (eQ (M := M.eJ 1) a5 c5) ?_
  refine Rt [SW z (M.eJ 1)] Tryz.results108 ?_
  exact ⟨by rw [Xl]; rfl, by rw [Xl]⟩
 obtain ⟨hp, ow⟩ := ky hf
 have Xl : M.meet k = if M.bz p ≠ 0 then (none, (M.eJ (M.bz p)).bR p) else (some p, M.eJ 0) := by unfold Mo.meet; rw [hf]
 refine gg ?_
 refine Hh (H' := [Cl z.y.b B.C, af z.y.t 145 (dg z.y.b B.W B.ty), af B.ty.nk 163 (ax (ao B.W.nb)), fI B.ty.ok 163 (ax (ao B.W.ob)), af z.y.q 139 (dy z.y.b z.qb B.C.ae.length), af z.qb 327 (M.Q.flatMap (dD B.C)), ey z.y.cr z.y.q z.y.wh B.C.ae.length (aO z.s) (aN z.s) B.C M.x, Wl z.y.wh B.E M.tn, af z.s 111 [.pointer (some ⟨z.y.b, 0, none⟩), .pointer (some ⟨z.y.ck, 0, none⟩), .pointer (some ⟨z.y.t, 0, none⟩), .pointer (some ⟨z.y.lu, 0, none⟩), .pointer (some ⟨z.y.wh, 0, none⟩), .pointer (some ⟨z.y.cr, 0, none⟩), .pointer (some ⟨z.y.mo, 0, none⟩), .pointer (some ⟨z.y.q, 0, none⟩), .int .i64 M.v.c.ai, .int .i64 M.v.c.bj, .int .i64 M.v.c.fac, .int .i64 M.v.c.aM, .int .i64 M.v.c.lim, .int .i64 M.v.c.hot, .int .i64 M.v.c.warm, .int .i64 M.v.p.b, .int .i64 M.v.p.l, .int .i64 M.v.p.c, .int .i64 M.v.p.m, .int .u64 (M.v.bm : Int), .int .i64 (M.v.fJ : Int), .int .i64 M.v.mt.dr, .int .i64 M.v.mt.re, .int .i64 M.v.mt.bu, .int .i64 M.v.mt.li, .int .i64 M.v.mt.lo, .int .i64 M.v.mt.cr, .int .i64 M.v.mt.mv, .slice wa M.jX.length wc], iN z.y.ck M.k, gf z.y.lu z.y.b z.y.q z.hot z.warm, iB z.y.mo z.y.b z.ub (aO z.s) (aN z.s) (bn z.s) M.m, iM z.ub M.m, own wa wc 3 1 (aH M.jX)]) ?_
 refine az (aR O (H := [])) ?_
 refine az (eQ (M := M) wa wc) ?_
 refine bL ?_
 refine zl T.Rx (Bs z M p hp) (.cons .here .nil) (fun _ _ _ => trivial) ?_
 refine bw ?_
 refine ym fun wa wc => eK fun B O => ?_
 unfold gp ij jM gF pV iZ eW
 dsimp only [Mo.aQ]
 refine bo ?_
 refine bO ?_
 refine Lp (oT T.dZ fun b2 => ?_)
 refine Lp (bf T.dZ T.lZ rfl rfl rfl rfl (.there (.there (.there (.there (.there (.there (.there (.there (.there (.there (.there (.there (.there .here))))))))))))) (by first | rfl | (simp; done) | (simp; omega) | omega) (rfl) (by simp [Value.oneCell']) (by first | omega | (simp; omega)) (by first | omega | (simp; omega)) rfl fun a5 c5 hc5 => ?_)
 refine bb ?_
 refine ay ?_
 rw [show aH M.jX ++ [.int .i64 (M.bz p : Int)] = aH (M.jX ++ [M.bz p]) by unfold aH; rw [List.map_append]; rfl, show M.jX.length + 1 = (M.jX ++ [M.bz p]).length by simp]
 refine Hh (H' := [Cl z.y.b B.C, af z.y.t 145 (dg z.y.b B.W B.ty), af B.ty.nk 163 (ax (ao B.W.nb)), fI B.ty.ok 163 (ax (ao B.W.ob)), af z.y.q 139 (dy z.y.b z.qb B.C.ae.length), af z.qb 327 (M.Q.flatMap (dD B.C)), ey z.y.cr z.y.q z.y.wh B.C.ae.length (aO z.s) (aN z.s) B.C M.x, Wl z.y.wh B.E M.tn, af z.s 111 [.pointer (some ⟨z.y.b, 0, none⟩), .pointer (some ⟨z.y.ck, 0, none⟩), .pointer (some ⟨z.y.t, 0, none⟩), .pointer (some ⟨z.y.lu, 0, none⟩), .pointer (some ⟨z.y.wh, 0, none⟩), .pointer (some ⟨z.y.cr, 0, none⟩), .pointer (some ⟨z.y.mo, 0, none⟩), .pointer (some ⟨z.y.q, 0, none⟩), .int .i64 M.v.c.ai, .int .i64 M.v.c.bj, .int .i64 M.v.c.fac, .int .i64 M.v.c.aM, .int .i64 M.v.c.lim, .int .i64 M.v.c.hot, .int .i64 M.v.c.warm, .int .i64 M.v.p.b, .int .i64 M.v.p.l, .int .i64 M.v.p.c, .int .i64 M.v.p.m, .int .u64 (M.v.bm : Int), .int .i64 (M.v.fJ : Int), .int .i64 M.v.mt.dr, .int .i64 M.v.mt.re, .int .i64 M.v.mt.bu, .int .i64 M.v.mt.li, .int .i64 M.v.mt.lo, .int .i64 M.v.mt.cr, .int .i64 M.v.mt.mv, .slice a5 (M.jX ++ [M.bz p]).length c5], iN z.y.ck M.k, gf z.y.lu z.y.b z.y.q z.hot z.warm, iB z.y.mo z.y.b z.ub (aO z.s) (aN z.s) (bn z.s) M.m, iM z.ub M.m, own a5 c5 3 1 (aH (M.jX ++ [M.bz p]))]) ?_
 refine az (aR (O.eJ (M.bz p) a5 c5) (H := [])) ?_
 refine az (eQ (M := M.eJ (M.bz p)) a5 c5) ?_
 refine bb ?_
 by_cases hw0 : M.bz p = 0
 ·rw [hw0]
  refine dq ?_ (e := by exact congrArg (!·) (decide_eq_true rfl))
  refine bO ?_
  refine Rt [SW z (M.eJ 0)] Tryz.results108 ?_
  rw [Xl, if_neg (by simpa using hw0)]
  exact ⟨rfl, rfl⟩
 refine gK ?_ (e := by exact congrArg (!·) (decide_eq_false (by omega)))
 refine bL ?_
 refine zl T.Ie (u9 z (M.eJ (M.bz p)) p hp) (.cons .here .nil) (fun _ _ _ => trivial) ?_
 refine bE ?_
 refine Rt [SW z ((M.eJ (M.bz p)).bR p)] Tryz.results108 ?_
 rw [Xl, if_pos hw0]
 exact ⟨rfl, rfl⟩
def Mo.lN (hot warm : Nat) (M : Mo) (k : List UInt8) : Mo := match M.find k with
 | none => M
 | some p => (M.v8 (iT (M.C.cl p) hot warm M.v.p.l.toNat M.R6).2).aX { M.v.mt with li := cC (M.v.mt.li + ((iT (M.C.cl p) hot warm M.v.p.l.toNat M.R6).1 : Nat)) }
noncomputable def Mo.behind (hot warm : Nat) (M : Mo) (k : List UInt8) : Mo := (M.lN hot warm k).beside
theorem DX (hot warm : Nat) (M : Mo) (k : List UInt8) : (M.lN hot warm k).hole = M.hole ∧ (M.lN hot warm k).m = M.m ∧ (M.lN hot warm k).v.p = M.v.p := by
 unfold Mo.lN
 split <;> exact ⟨rfl, rfl, rfl⟩
theorem DY (hot warm : Nat) (M : Mo) (k : List UInt8) : Ev M (M.lN hot warm k) := by
 unfold Mo.lN
 split
 ·exact .rf rfl rfl
 exact .rf rfl rfl
theorem BC (xM : oD) (z : Ly) (M : Mo) (k : List UInt8) (hk : k.length < 281474976710656) (hh : M.hole = none) (jA : M.m.st < 4611686018427387904) (Hg : x9 M.v.p) (hA : gq M 1) (Nq : z.hot ≤ 100) (MX : z.warm ≤ 100) : aL Tryz.prog 38 [.pointer (some ⟨z.s, 0, none⟩), bC k] (fun _ => True) [SW z M]
  (fun v H => v = .tuple #[] ∧ H = [SW z (M.behind z.hot z.warm k)]) := by
 obtain ⟨b1, b2, b3⟩ := DX z.hot z.warm M k
 have bsd := zq xM z (M.lN z.hot z.warm k) (b1.trans hh) (by rw [b2]; exact jA) (by rw [b3]; exact Hg) (hA.ev (DY _ _ _ _))
 refine ag Tryz.func38 rfl Tryz.ntmps38 rfl ?_
 intro F _
 refine ym fun wa wc => eK fun B O => ?_
 unfold gp ij jM gF pV iZ eW
 dsimp only [Mo.aQ]
 refine bo ?_
 have tf := fun a c => kk z.y.t z.y.b B.C O.k B.W B.ty O.t O.ty a k.length c k rfl hk
 rw [O.Ih, show (M.aQ wa wc).find k = M.find k from rfl, SU O, show (M.aQ wa wc).C = M.C from rfl] at tf
 refine cX ?_
 refine Lp (xB T.qW T.jx T.og fun kb kc od => ?_)
 refine zl T.uR (tf _ _) .nil (fun _ le av => ⟨av.nth 1 rfl, ⟨av.nth 2 rfl, av.nth 3 rfl, av.nth 4 rfl, trivial⟩, bY (av.nth 0 rfl)⟩) ?_
 rcases hf : M.find k with _ | p
 ·have Xw : M.lN z.hot z.warm k = M := by unfold Mo.lN; rw [hf]
  rw [Xw] at bsd
  refine ed ?_
  refine Hh (H' := [Cl z.y.b B.C, af z.y.t 145 (dg z.y.b B.W B.ty), af B.ty.nk 163 (ax (ao B.W.nb)), fI B.ty.ok 163 (ax (ao B.W.ob)), af z.y.q 139 (dy z.y.b z.qb B.C.ae.length), af z.qb 327 (M.Q.flatMap (dD B.C)), ey z.y.cr z.y.q z.y.wh B.C.ae.length (aO z.s) (aN z.s) B.C M.x, Wl z.y.wh B.E M.tn, af z.s 111 [.pointer (some ⟨z.y.b, 0, none⟩), .pointer (some ⟨z.y.ck, 0, none⟩), .pointer (some ⟨z.y.t, 0, none⟩), .pointer (some ⟨z.y.lu, 0, none⟩), .pointer (some ⟨z.y.wh, 0, none⟩), .pointer (some ⟨z.y.cr, 0, none⟩), .pointer (some ⟨z.y.mo, 0, none⟩), .pointer (some ⟨z.y.q, 0, none⟩), .int .i64 M.v.c.ai, .int .i64 M.v.c.bj, .int .i64 M.v.c.fac, .int .i64 M.v.c.aM, .int .i64 M.v.c.lim, .int .i64 M.v.c.hot, .int .i64 M.v.c.warm, .int .i64 M.v.p.b, .int .i64 M.v.p.l, .int .i64 M.v.p.c, .int .i64 M.v.p.m, .int .u64 (M.v.bm : Int), .int .i64 (M.v.fJ : Int), .int .i64 M.v.mt.dr, .int .i64 M.v.mt.re, .int .i64 M.v.mt.bu, .int .i64 M.v.mt.li, .int .i64 M.v.mt.lo, .int .i64 M.v.mt.cr, .int .i64 M.v.mt.mv, .slice wa M.jX.length wc], iN z.y.ck M.k, gf z.y.lu z.y.b z.y.q z.hot z.warm, iB z.y.mo z.y.b z.ub (aO z.s) (aN z.s) (bn z.s) M.m, iM z.ub M.m, own wa wc 3 1 (aH M.jX)]) ?_
  refine az (aR O (H := [])) ?_
  refine az (eQ (M := M) wa wc) ?_
  refine bw ?_
  refine zl T.RG (bsd) (.cons .here .nil) (fun _ _ _ => trivial) ?_
  refine aB ?_
  refine jN [SW z M.beside] Tryz.results38 ?_
  exact ⟨rfl, by unfold Mo.behind; rw [Xw]⟩
 obtain ⟨hp, ow⟩ := ky hf
 have gm := (O.al p).2 hp
 have L := O.tY gm
 have at_ := uU z.y.b B.C O.k p L
 rw [O.hd, show (M.aQ wa wc).C = M.C from rfl] at at_
 have gS := (L.toAt.bh O.k).1
 have bl := zI z.y.lu z.y.q z.y.b z.qb z.hot z.warm z.y.cr z.y.wh (aO z.s) (aN z.s) B.C O.k M.R6 O.bai (B.C.cl p) gS Nq MX M.v.p.l.toNat (by have := Hg.l; omega)
 rw [show ((M.v.p.l.toNat : Nat) : Int) = M.v.p.l by have := Hg.l; omega] at bl
 refine mV ?_
 refine zl T.uQ (at_) .nil (fun _ le av => av.nth 1 rfl) ?_
 refine cX ?_
 refine jC 27 T.mix (.cons (.there (.there (.there (.there (.there (.there (.there (.there (.there .here))))))))) .nil) fun F1 kN cT aU => ?_
 obtain ⟨q1, _⟩ := cT
 refine ca ?_
 refine aD ?_
 refine Ti Mf ?_
 refine Tp (oC T.Zw rfl rfl (bl) (.cons (.there .here) (.cons (.there (.there (.there (.there .here)))) (.cons (.there (.there (.there (.there .here)))) (.cons (.there (.there (.there (.there .here)))) .nil)))) (fun _ le av => av.nth 6 rfl) ?_)
 rintro v H' ⟨n, A, t, Xv, rfl, rfl, T2⟩
 refine bo ?_
 refine bb ?_
 refine iC aU ?_
 refine bw ?_
 have O1 : bT ⟨B.C.wA A, B.W, B.ty, B.E⟩ (((M.v8 t).aX { M.v.mt with li := cC (M.v.mt.li + (n : Nat)) }).aQ wa wc) := (O.bal T2).aX { M.v.mt with li := cC (M.v.mt.li + (n : Nat)) }
 have Xw : M.lN z.hot z.warm k = (M.v8 t).aX { M.v.mt with li := cC (M.v.mt.li + (n : Nat)) } := by
  unfold Mo.lN
  rw [hf]
  dsimp only
  rw [O.cl, show (M.aQ wa wc).C = M.C from rfl] at Xv
  rw [Xv]
 rw [Xw] at bsd
 refine Hh (H' := [Cl z.y.b (B.C.wA A), af z.y.t 145 (dg z.y.b B.W B.ty), af B.ty.nk 163 (ax (ao B.W.nb)), fI B.ty.ok 163 (ax (ao B.W.ob)), af z.y.q 139 (dy z.y.b z.qb B.C.ae.length), af z.qb 327 (t.Q.flatMap (dD B.C)), ey z.y.cr z.y.q z.y.wh B.C.ae.length (aO z.s) (aN z.s) B.C t.x, Wl z.y.wh B.E M.tn, af z.s 111 [.pointer (some ⟨z.y.b, 0, none⟩), .pointer (some ⟨z.y.ck, 0, none⟩), .pointer (some ⟨z.y.t, 0, none⟩), .pointer (some ⟨z.y.lu, 0, none⟩), .pointer (some ⟨z.y.wh, 0, none⟩), .pointer (some ⟨z.y.cr, 0, none⟩), .pointer (some ⟨z.y.mo, 0, none⟩), .pointer (some ⟨z.y.q, 0, none⟩), .int .i64 M.v.c.ai, .int .i64 M.v.c.bj, .int .i64 M.v.c.fac, .int .i64 M.v.c.aM, .int .i64 M.v.c.lim, .int .i64 M.v.c.hot, .int .i64 M.v.c.warm, .int .i64 M.v.p.b, .int .i64 M.v.p.l, .int .i64 M.v.p.c, .int .i64 M.v.p.m, .int .u64 (M.v.bm : Int), .int .i64 (M.v.fJ : Int), .int .i64 M.v.mt.dr, .int .i64 M.v.mt.re, .int .i64 M.v.mt.bu, .int .i64 (IntKind.i64.wrap (M.v.mt.li + (n : Int))), .int .i64 M.v.mt.lo, .int .i64 M.v.mt.cr, .int .i64 M.v.mt.mv, .slice wa M.jX.length wc], iN z.y.ck M.k, gf z.y.lu z.y.b z.y.q z.hot z.warm, iB z.y.mo z.y.b z.ub (aO z.s) (aN z.s) (bn z.s) M.m, iM z.ub M.m, own wa wc 3 1 (aH M.jX)]) ?_
 refine az (aR O1 (H := [])) ?_
 refine az (eQ (M := (M.v8 t).aX { M.v.mt with li := cC (M.v.mt.li + (n : Nat)) }) wa wc) ?_
 refine bw ?_
 refine zl T.RG (bsd) (.cons .here .nil) (fun _ _ _ => trivial) ?_
 refine aB ?_
 refine jN [SW z ((M.v8 t).aX { M.v.mt with li := cC (M.v.mt.li + (n : Nat)) }).beside] Tryz.results38 ?_
 exact ⟨rfl, by unfold Mo.behind; rw [Xw]⟩
theorem Wg : ∀ m : Nat, m < 16 → gw .and .i64 (m : Int) 2 = some ((m / 2 % 2 * 2 : Nat) : Int) := by decide +kernel
theorem Wf : ∀ m : Nat, m < 16 → gw .and .i64 (m : Int) 4 = some ((m / 4 % 2 * 4 : Nat) : Int) := by decide +kernel
theorem We : ∀ m : Nat, m < 16 → gw .and .i64 (m : Int) 8 = some ((m / 8 % 2 * 8 : Nat) : Int) := by decide +kernel
def x6 (x : I3) (va : Value) : List Value := [bC x.key, va, .int .u64 (x.fl : Int), .int .i64 (x.exp : Int), .int .u64 (x.tok : Int), .int .i64 (x.tch : Int), .bool (decide (x.du / 2 % 2 = 1)), .bool (decide (x.du / 4 % 2 = 1)), .bool (decide (x.du / 8 % 2 = 1))]
theorem cx (m : Nat) : (!decide (((m / 2 % 2 * 2 : Nat) : Int) = 0)) = decide (m / 2 % 2 = 1) := by
 have : m / 2 % 2 = 0 ∨ m / 2 % 2 = 1 := by omega
 rcases this with h | h <;> rw [h] <;> rfl
theorem cF (m : Nat) : (!decide (((m / 4 % 2 * 4 : Nat) : Int) = 0)) = decide (m / 4 % 2 = 1) := by
 have : m / 4 % 2 = 0 ∨ m / 4 % 2 = 1 := by omega
 rcases this with h | h <;> rw [h] <;> rfl
theorem D8 (m : Nat) : (!decide (((m / 8 % 2 * 8 : Nat) : Int) = 0)) = decide (m / 8 % 2 = 1) := by
 have : m / 8 % 2 = 0 ∨ m / 8 % 2 = 1 := by omega
 rcases this with h | h <;> rw [h] <;> rfl
theorem ES (z : Ly) (M : Mo) (p : Nat) (hp : M.has p) : aL Tryz.prog 41 [.pointer (some ⟨z.s, 0, none⟩), .int .u64 (M.C.hd p : Int)] (fun _ => True) [SW z M]
  (fun v H => ∃ vb, v = .agg (x6 (M.it p) (.slice (some ⟨vb, 0, none⟩) (M.it p).val.length (M.it p).val.length)).toArray ∧ H = [own (some ⟨vb, 0, none⟩) (M.it p).val.length 5 1 (aq (M.it p).val), SW z M]) := by
 refine ag Tryz.func41 rfl Tryz.ntmps41 rfl ?_
 intro F _
 refine aD ?_
 refine Lp (oA T.ya fun b1 => ?_)
 refine aD ?_
 refine az (fun _ x => cV x) ?_
 refine ym fun wa wc => eK fun B O => ?_
 unfold gp ij jM gF pV iZ eW
 dsimp only [Mo.aQ]
 refine bo ?_
 have gm := (O.al p).2 hp
 have rdc := s7 z.y.b B.C O.k p (O.tY gm) (O.t.it p gm)
 rw [O.hd, show (M.aQ wa wc).C = M.C from rfl] at rdc
 obtain ⟨f1, f2, f3, f4, f5, f6, f7⟩ := O.lM gm
 have uC := (O.SF gm).2
 rw [show (M.aQ wa wc).it p = M.it p from rfl] at f1 f2 f3 f4 f5 f6 f7 uC
 have lk : kl B.C.A p = (M.it p).key.length := by rw [← f5]; exact (cS _ _ _).symm
 have lv : vl B.C.A p = (M.it p).val.length := by rw [← f6]; exact (cS _ _ _).symm
 rw [show rd B.C.A (p + 40) 4 = (M.it p).fl from f7, show rd B.C.A (p + 16) 8 = (M.it p).exp from f1, show rd B.C.A (p + 24) 8 = (M.it p).tch from f2, show rd B.C.A (p + 32) 8 = (M.it p).tok from f3, show rd B.C.A (p + 46) 1 = (M.it p).du from f4, lk, lv, f5, f6] at rdc
 generalize rd B.C.A (p + 45) 1 = stt at *
 refine bO ?_
 refine Lp (oC T.Ic rfl rfl (rdc) .nil (fun _ le av => av.nth 0 rfl) ?_)
 rintro v H' ⟨kb, vb, rfl, rfl⟩
 refine bo ?_
 refine bL ?_
 refine Lp (oA T.bA fun b2 => ?_)
 refine Lp (j5 T.cU ?_ (h1 := by simp [Cg, Value.oneCell']))
 refine bq ?_
 refine Lp (oTs T.iD T.og T.qW ?_)
 refine gh ?_
 refine aw (t := 32) (v' := (.int .i64 (((M.it p).du / 2 % 2 * 2 : Nat) : Int))) rfl (by exact congrArg (fun x => Value.int .i64 (x.getD 0)) (Wg _ uC)) ?_
 refine aD ?_
 refine aw (t := 33) (v' := (.bool (decide ((M.it p).du / 2 % 2 = 1)))) rfl (by exact congrArg Value.bool (cx _)) ?_
 refine bL ?_
 refine aw (t := 36) (v' := (.int .i64 (((M.it p).du / 4 % 2 * 4 : Nat) : Int))) rfl (by exact congrArg (fun x => Value.int .i64 (x.getD 0)) (Wf _ uC)) ?_
 refine aD ?_
 refine aw (t := 37) (v' := (.bool (decide ((M.it p).du / 4 % 2 = 1)))) rfl (by exact congrArg Value.bool (cF _)) ?_
 refine bL ?_
 refine aw (t := 40) (v' := (.int .i64 (((M.it p).du / 8 % 2 * 8 : Nat) : Int))) rfl (by exact congrArg (fun x => Value.int .i64 (x.getD 0)) (We _ uC)) ?_
 refine aD ?_
 refine aw (t := 41) (v' := (.bool (decide ((M.it p).du / 8 % 2 = 1)))) rfl (by exact congrArg Value.bool (D8 _)) ?_
 refine aD ?_
 refine Lp (j5 T.nt ?_ (h1 := by simp [db, Value.cells, Value.oneCell', bC]))
 refine bw ?_
 refine Hh (H' := [Cl z.y.b B.C, af z.y.t 145 (dg z.y.b B.W B.ty), af B.ty.nk 163 (ax (ao B.W.nb)), fI B.ty.ok 163 (ax (ao B.W.ob)), af z.y.q 139 (dy z.y.b z.qb B.C.ae.length), af z.qb 327 (M.Q.flatMap (dD B.C)), ey z.y.cr z.y.q z.y.wh B.C.ae.length (aO z.s) (aN z.s) B.C M.x, Wl z.y.wh B.E M.tn, af z.s 111 [.pointer (some ⟨z.y.b, 0, none⟩), .pointer (some ⟨z.y.ck, 0, none⟩), .pointer (some ⟨z.y.t, 0, none⟩), .pointer (some ⟨z.y.lu, 0, none⟩), .pointer (some ⟨z.y.wh, 0, none⟩), .pointer (some ⟨z.y.cr, 0, none⟩), .pointer (some ⟨z.y.mo, 0, none⟩), .pointer (some ⟨z.y.q, 0, none⟩), .int .i64 M.v.c.ai, .int .i64 M.v.c.bj, .int .i64 M.v.c.fac, .int .i64 M.v.c.aM, .int .i64 M.v.c.lim, .int .i64 M.v.c.hot, .int .i64 M.v.c.warm, .int .i64 M.v.p.b, .int .i64 M.v.p.l, .int .i64 M.v.p.c, .int .i64 M.v.p.m, .int .u64 (M.v.bm : Int), .int .i64 (M.v.fJ : Int), .int .i64 M.v.mt.dr, .int .i64 M.v.mt.re, .int .i64 M.v.mt.bu, .int .i64 M.v.mt.li, .int .i64 M.v.mt.lo, .int .i64 M.v.mt.cr, .int .i64 M.v.mt.mv, .slice wa M.jX.length wc], iN z.y.ck M.k, gf z.y.lu z.y.b z.y.q z.hot z.warm, iB z.y.mo z.y.b z.ub (aO z.s) (aN z.s) (bn z.s) M.m, iM z.ub M.m, own wa wc 3 1 (aH M.jX), own (some ⟨vb, 0, none⟩) (M.it p).val.length 5 1 (aq (M.it p).val), af b1 49 (x6 (M.it p) (.slice (some ⟨vb, 0, none⟩) (M.it p).val.length (M.it p).val.length))]) ?_
 refine az (aR O (H := [own (some ⟨vb, 0, none⟩) (M.it p).val.length 5 1 (aq (M.it p).val), af b1 49 (x6 (M.it p) (.slice (some ⟨vb, 0, none⟩) (M.it p).val.length (M.it p).val.length))])) ?_
 refine az (eQ (M := M) wa wc) ?_
 refine Sx [own (some ⟨vb, 0, none⟩) (M.it p).val.length 5 1 (aq (M.it p).val), SW z M] T.nt Tryz.results41 ?_
 exact ⟨vb, rfl, rfl⟩
theorem EO (z : Ly) (M : Mo) (hh : M.hole = none) (c : Nat) (hc : c < M.gL) : aL Tryz.prog 101 [.pointer (some ⟨z.y.b, 0, none⟩), .int .i64 (c : Int)] (fun _ => True) [SH z M]
  (fun v H => (M.take c = none ∧ v = .tuple #[.int .u64 0, .int .i64 21] ∧ H = [SH z M]) ∨ ∃ r N, M.take c = some (r, N) ∧ v = .tuple #[.int .u64 (N.C.hd r : Int), .int .i64 0] ∧ H = [SH z N]) :=
 iK fun B O => by
  have gS : c < B.C.ae.length := by rw [O.gL]; exact hc
  have h := (Oj z.y.b B.C O.k c gS).fr (H := gp z B M ++ []) (R := (gp z B M).tail) (.cons .here .nil) (fun k av => trivial)
  refine h.out ?_
  rintro v H' ⟨H0, hr, rfl⟩
  rcases hT : B.C.dw c with _ | ⟨r, D⟩
  ·rw [hT] at hr
   obtain ⟨rfl, rfl⟩ := hr
   exact ⟨[SH z M], .inl ⟨O.takeN hT, rfl, rfl⟩, fun k s => aR O (H := []) k s⟩
  rw [hT] at hr
  obtain ⟨rfl, rfl⟩ := hr
  obtain ⟨N, n1, n2, n3, n4, O1, X⟩ := O.take hh gS hT
  refine ⟨[SH z N], .inr ⟨r, N, n1, by rw [n2], rfl⟩, fun k s => aR O1 (H := []) k ?_⟩
  have S : xI B.C (D.wA B.C.A) (fun q => q ∈ B.W.all) := ⟨rfl, X.sz, fun q _ M => ⟨((X.lv q).2 (.inl M)).wA _, (X.hd q M).1, (X.hd q M).2⟩⟩
  have e_ls : M.Q.flatMap (dD B.C) = M.Q.flatMap (dD D) := (S.ls O.o fun i q h => O.z8 h).symm
  have e_cr : rS z.y.q z.y.wh D.ae.length (aO z.s) (aN z.s) B.C M.x = rS z.y.q z.y.wh D.ae.length (aO z.s) (aN z.s) D M.x := (S.cw O.o (fun i q h => O.z8 h) O.x _ _ _ _ _).symm
  have e_sz : B.C.ae.length = D.ae.length := by rw [X.sz]
  change aj ([Cl z.y.b D] ++ [af z.y.t 145 (dg z.y.b B.W B.ty), af B.ty.nk 163 (ax (ao B.W.nb)), fI B.ty.ok 163 (ax (ao B.W.ob)), af z.y.q 139 (dy z.y.b z.qb B.C.ae.length), af z.qb 327 (M.Q.flatMap (dD B.C)), af z.y.cr 177 (rS z.y.q z.y.wh B.C.ae.length (aO z.s) (aN z.s) B.C M.x), Wl z.y.wh B.E M.tn, ij z.s z.y (gF M.v),
   iN z.y.ck M.k, gf z.y.lu z.y.b z.y.q z.hot z.warm, iB z.y.mo z.y.b z.ub (aO z.s) (aN z.s) (bn z.s) M.m, iM z.ub M.m, eW M]) k at s
  rw [e_ls, e_sz, e_cr] at s
  rw [n4]
  exact s
def Mo.pick (M : Mo) (c : Nat) (own : Option Nat) : Option Nat × Bool × Nat := yf (fun p => decide (M.bz p ≠ 0)) (fun p => decide ((M.it p).du % 2 = 1)) own 5 (HH M.Q c)
theorem OB {Q : List (List Nat)} {c p : Nat} (hp : p ∈ HH Q c) : ∃ i, p ∈ ql Q i := by
 unfold HH at hp
 rw [List.mem_append, List.mem_append, List.mem_reverse, List.mem_reverse, List.mem_reverse] at hp
 rcases hp with (h | h) | h <;> exact ⟨_, h⟩
theorem KV {d a : Nat → Bool} {own : Option Nat} {n : Nat} {l : List Nat} {p : Nat} (h : (yf d a own n l).1 = some p) : p ∈ l ∧ some p ≠ own := by
 have hs : ∀ p ∈ (Au own l).take n, p ∈ l ∧ some p ≠ own := fun p hp => by
  obtain ⟨h1, h2⟩ := List.mem_filter.1 (List.mem_of_mem_take hp)
  exact ⟨h1, of_decide_eq_true h2⟩
 unfold yf H2 at h
 refine hs p ?_
 generalize (Au own l).take n = r at *
 cases hf : r.findIdx? d with
 | some i => rw [hf] at h; exact List.mem_of_getElem? h
 | none =>
  rw [hf] at h
  dsimp only at h
  cases hg : r.find? (fun q => !a q) with
  | some q => rw [hg] at h; cases h; exact List.mem_of_find?_eq_some hg
  | none => rw [hg] at h; exact List.mem_of_mem_head? h
def Mo.fG (M : Mo) (c : Nat) : Mo := { M with m := M.m.nJ c }
def Mo.last (M : Mo) (c p : Nat) : Option Nat × Mo := match (M.bR p).take c with
 | some (r, N) => (some r, N)
 | none => (none, M.bR p)
def Mo.Ii (M : Mo) (c : Nat) : Option Nat → Bool → Option Nat × Mo
 | none, true => (none, M)
 | none, false => (none, M.fG c)
 | some p, true => (M.aX { M.v.mt with re := cC (M.v.mt.re + 1) }).last c p
 | some p, false => ((M.fG c).aX { (M.fG c).v.mt with dr := cC ((M.fG c).v.mt.dr + 1) }).last c p
def Mo.ns (M : Mo) (c : Nat) (own : Option Nat) : Option Nat × Mo := (M.aX { M.v.mt with lo := cC (M.v.mt.lo + ((M.pick c own).2.2 : Int)) }).Ii c (M.pick c own).1 (M.pick c own).2.1
def Mo.r8 (M : Mo) (c : Nat) (own : Option Nat) : Option Nat × Mo := match M.take c with
 | some (r, N) => (some r, N)
 | none => if M.m.on = true ∧ M.m.fr = c then (match M.mstop.take c with
  | some (r, N) => (some r, N)
  | none => M.mstop.ns c own) else M.ns c own
def Mo.room (M : Mo) (n : Nat) (own : Option Nat) : Option Nat × Mo := match M.C.ae.findIdx? fun z => decide (n ≤ z) with
 | none => (none, M)
 | some c => M.r8 c own
theorem bT.nE {B : Bx} {M : Mo} (O : bT B M) {p : Nat} (hp : M.has p) : M.C.hd p ≠ 0 := by
 have h := (bM O.k (O.qp ((O.al p).2 hp))).2.2.2.2.2
 rw [O.hd] at h; exact h
theorem ET (z : Ly) (M : Mo) (hh : M.hole = none) (jA : M.m.st < 4611686018427387904) (x4 : 0 < M.C.spare) (kn vn : Nat) (hk : 1 ≤ kn ∧ kn ≤ 250) (hv : vn ≤ 1048576) (own : Option Nat) (wb : ∀ p, own = some p → M.has p) :
  aL Tryz.prog 117 [.pointer (some ⟨z.s, 0, none⟩), .int .i64 (kn : Int), .int .i64 (vn : Int), .int .u64 (tW M.C own : Int)] (fun _ => True) [SH z M]
   (fun w H => ∃ o N, M.room (58 + kn + vn) own = (o, N) ∧ w = .int .u64 (tW N.C o : Int) ∧ H = [SH z N]) := by
 refine ag Tryz.func117 rfl Tryz.ntmps117 rfl ?_
 intro F _
 refine bE ?_
 refine zl T.Jt (yX kn vn hk hv) .nil (fun _ _ _ => trivial) ?_
 refine bE ?_
 refine eK fun B O => ?_
 have fo := U5 z.y.b B.C O.k (58 + kn + vn) (by omega)
 rw [show B.C.ae = M.C.ae by rw [O.c]; rfl] at fo
 have dR := fun c (h : (M.C.ae.findIdx? fun z => decide (58 + kn + vn ≤ z)) = some c) => (show c < M.gL from (List.findIdx?_eq_some_iff_getElem.1 h).1)
 have hXn := fun p hp => O.nE (p := p) hp
 have hXhd : ∀ p, M.has p → M.m.on = true → M.mstop.C.hd p = M.C.hd p := fun p hp nz => by
  have h := (((O.stay nz).1).lv p ((O.al p).2 hp) (O.tY ((O.al p).2 hp))).2.1
  rw [O.hd] at h
  rw [← h]
  show (M.C.jD M.m.pg).hd p = (B.C.jD M.m.pg).hd p
  rw [O.c]; rfl
 unfold gp ij jM gF pV iZ
 refine bo ?_
 refine bO ?_
 refine Lp (oC T.Vq rfl rfl (fo) .nil (fun _ le av => av.nth 0 rfl) ?_)
 rintro v H' ⟨R9, rfl⟩
 refine bo ?_
 rcases hf : (M.C.ae.findIdx? fun z => decide (58 + kn + vn ≤ z)) with _ | c
 ·rw [hf] at R9
  subst R9
  refine mV ?_
  refine Hh (H' := [Cl z.y.b B.C, af z.y.t 145 (dg z.y.b B.W B.ty), af B.ty.nk 163 (ax (ao B.W.nb)), fI B.ty.ok 163 (ax (ao B.W.ob)), af z.y.q 139 (dy z.y.b z.qb B.C.ae.length), af z.qb 327 (M.Q.flatMap (dD B.C)), ey z.y.cr z.y.q z.y.wh B.C.ae.length (aO z.s) (aN z.s) B.C M.x, Wl z.y.wh B.E M.tn, af z.s 111 [.pointer (some ⟨z.y.b, 0, none⟩), .pointer (some ⟨z.y.ck, 0, none⟩), .pointer (some ⟨z.y.t, 0, none⟩), .pointer (some ⟨z.y.lu, 0, none⟩), .pointer (some ⟨z.y.wh, 0, none⟩), .pointer (some ⟨z.y.cr, 0, none⟩), .pointer (some ⟨z.y.mo, 0, none⟩), .pointer (some ⟨z.y.q, 0, none⟩), .int .i64 M.v.c.ai, .int .i64 M.v.c.bj, .int .i64 M.v.c.fac, .int .i64 M.v.c.aM, .int .i64 M.v.c.lim, .int .i64 M.v.c.hot, .int .i64 M.v.c.warm, .int .i64 M.v.p.b, .int .i64 M.v.p.l, .int .i64 M.v.p.c, .int .i64 M.v.p.m, .int .u64 (M.v.bm : Int), .int .i64 (M.v.fJ : Int), .int .i64 M.v.mt.dr, .int .i64 M.v.mt.re, .int .i64 M.v.mt.bu, .int .i64 M.v.mt.li, .int .i64 M.v.mt.lo, .int .i64 M.v.mt.cr, .int .i64 M.v.mt.mv, .slice M.v.wa M.v.wn M.v.wc], iN z.y.ck M.k, gf z.y.lu z.y.b z.y.q z.hot z.warm, iB z.y.mo z.y.b z.ub (aO z.s) (aN z.s) (bn z.s) M.m, iM z.ub M.m, eW M]) ?_
  refine az (aR O (H := [])) ?_
  refine Rt [SH z M] Tryz.results117 ?_
  exact ⟨none, M, by unfold Mo.room; rw [hf], rfl, rfl⟩
 rw [hf] at R9
 subst R9
 have hXc := dR c hf
 have hrc : M.room (58 + kn + vn) own = M.r8 c own := by unfold Mo.room; rw [hf]
 refine gg ?_
 refine Hh (H' := [Cl z.y.b B.C, af z.y.t 145 (dg z.y.b B.W B.ty), af B.ty.nk 163 (ax (ao B.W.nb)), fI B.ty.ok 163 (ax (ao B.W.ob)), af z.y.q 139 (dy z.y.b z.qb B.C.ae.length), af z.qb 327 (M.Q.flatMap (dD B.C)), ey z.y.cr z.y.q z.y.wh B.C.ae.length (aO z.s) (aN z.s) B.C M.x, Wl z.y.wh B.E M.tn, af z.s 111 [.pointer (some ⟨z.y.b, 0, none⟩), .pointer (some ⟨z.y.ck, 0, none⟩), .pointer (some ⟨z.y.t, 0, none⟩), .pointer (some ⟨z.y.lu, 0, none⟩), .pointer (some ⟨z.y.wh, 0, none⟩), .pointer (some ⟨z.y.cr, 0, none⟩), .pointer (some ⟨z.y.mo, 0, none⟩), .pointer (some ⟨z.y.q, 0, none⟩), .int .i64 M.v.c.ai, .int .i64 M.v.c.bj, .int .i64 M.v.c.fac, .int .i64 M.v.c.aM, .int .i64 M.v.c.lim, .int .i64 M.v.c.hot, .int .i64 M.v.c.warm, .int .i64 M.v.p.b, .int .i64 M.v.p.l, .int .i64 M.v.p.c, .int .i64 M.v.p.m, .int .u64 (M.v.bm : Int), .int .i64 (M.v.fJ : Int), .int .i64 M.v.mt.dr, .int .i64 M.v.mt.re, .int .i64 M.v.mt.bu, .int .i64 M.v.mt.li, .int .i64 M.v.mt.lo, .int .i64 M.v.mt.cr, .int .i64 M.v.mt.mv, .slice M.v.wa M.v.wn M.v.wc], iN z.y.ck M.k, gf z.y.lu z.y.b z.y.q z.hot z.warm, iB z.y.mo z.y.b z.ub (aO z.s) (aN z.s) (bn z.s) M.m, iM z.ub M.m, eW M]) ?_
 refine az (aR O (H := [])) ?_
 refine H9 fun B O => ?_
 refine eK fun B O => ?_
 unfold gp ij jM gF pV iZ
 refine bo ?_
 refine bO ?_
 refine Hh (H' := [Cl z.y.b B.C, af z.y.t 145 (dg z.y.b B.W B.ty), af B.ty.nk 163 (ax (ao B.W.nb)), fI B.ty.ok 163 (ax (ao B.W.ob)), af z.y.q 139 (dy z.y.b z.qb B.C.ae.length), af z.qb 327 (M.Q.flatMap (dD B.C)), ey z.y.cr z.y.q z.y.wh B.C.ae.length (aO z.s) (aN z.s) B.C M.x, Wl z.y.wh B.E M.tn, af z.s 111 [.pointer (some ⟨z.y.b, 0, none⟩), .pointer (some ⟨z.y.ck, 0, none⟩), .pointer (some ⟨z.y.t, 0, none⟩), .pointer (some ⟨z.y.lu, 0, none⟩), .pointer (some ⟨z.y.wh, 0, none⟩), .pointer (some ⟨z.y.cr, 0, none⟩), .pointer (some ⟨z.y.mo, 0, none⟩), .pointer (some ⟨z.y.q, 0, none⟩), .int .i64 M.v.c.ai, .int .i64 M.v.c.bj, .int .i64 M.v.c.fac, .int .i64 M.v.c.aM, .int .i64 M.v.c.lim, .int .i64 M.v.c.hot, .int .i64 M.v.c.warm, .int .i64 M.v.p.b, .int .i64 M.v.p.l, .int .i64 M.v.p.c, .int .i64 M.v.p.m, .int .u64 (M.v.bm : Int), .int .i64 (M.v.fJ : Int), .int .i64 M.v.mt.dr, .int .i64 M.v.mt.re, .int .i64 M.v.mt.bu, .int .i64 M.v.mt.li, .int .i64 M.v.mt.lo, .int .i64 M.v.mt.cr, .int .i64 M.v.mt.mv, .slice M.v.wa M.v.wn M.v.wc], iN z.y.ck M.k, gf z.y.lu z.y.b z.y.q z.hot z.warm, iB z.y.mo z.y.b z.ub (aO z.s) (aN z.s) (bn z.s) M.m, iM z.ub M.m, eW M]) ?_
 refine az (aR O (H := [])) ?_
 refine Lp (oC T.VR rfl rfl (EO z M hh c hXc) (.cons .here .nil) (fun _ _ _ => trivial) ?_)
 rintro v H' hr
 refine bo ?_
 rcases hr with ⟨ht, rfl, rfl⟩ | ⟨r, N, ht, rfl, rfl⟩
 ·obtain ⟨p0, D0, hD0, _⟩ := qC O.W7 (show c < M.C.ae.length from hXc) x4
  unfold Mo.take at ht
  rw [hD0] at ht
  cases ht
 refine Li Mv ?_
 refine bx ?_
 refine zf 47 ?_ (e := by rfl)
 refine ca ?_
 refine bb ?_
 refine Rt [SH z N] Tryz.results117 ?_
 exact ⟨some r, N, by rw [hrc]; unfold Mo.r8; rw [ht], rfl, rfl⟩
def Mo.NA (M : Mo) : Prop := M.mg = 0 ∧ 3 * M.nb < 2 * (M.n + 1) ∧ M.nb < M.aC
instance (M : Mo) : Decidable M.NA := by unfold Mo.NA; infer_instance
def iE (Q : List (List Nat)) (i p : Nat) : List (List Nat) := Q.set i (p :: ql Q i)
def Mo.gj (M : Mo) (r : Nat) (n : I3) : Mo :=
 { M with hole := none, Q := iE M.Q (qi (M.C.cl r) 1) r, it := fun q => if q = r then { n with du := mkSet n.du false } else M.it q, ord := fun q => if q = r then M.tn + 1 else M.ord q, tn := if 0 < n.exp then M.tn + 1 else M.tn, n := M.n + 1, nb := if M.NA then 2 * M.nb else M.nb, mg := if M.NA then M.nb else M.mg, v := { M.v with fJ := M.v.fJ + n.sz } }
theorem gD {Q : List (List Nat)} {i p q j : Nat} (hi : i < Q.length) : q ∈ ql (iE Q i p) j ↔ (j = i ∧ q = p) ∨ q ∈ ql Q j := by
 unfold iE
 rw [ee hi]
 by_cases e : j = i
 ·rw [if_pos e, List.mem_cons, e]
  exact ⟨fun h => h.imp (fun h => ⟨rfl, h⟩) id, fun h => h.imp (fun h => h.2) id⟩
 rw [if_neg e]
 exact ⟨.inr, fun h => h.resolve_left fun g => e g.1⟩
theorem bT.gj {B : Bx} {M : Mo} (O : bT B M) {r : Nat} (hr : M.hole = some r) (I : gk B.C r) (n : I3) (pC : pB B.C.A r = n) (hm : n.du < 16) (M8 : dS n.key = true) {A2 A3 : By} {V : Tb} {ty : mZ} (hy : ty.ok = none → V.ob = []) (PK : RW B.C B.W r A2 V) (EK : Io (B.C.wA A2) r A3 (iE M.Q (qi (B.C.cl r) 1) r)) :
  bT ⟨B.C.wA A3, V, ty, lS B.E (B.C.hd r) n.exp M.tn⟩ (M.gj r n) := by
 have K := O.k
 have xE : r ∉ B.W.all := O.ho r hr
 have L : Live B.C r := (O.lv r).2 (.inr hr)
 have gS := (L.toAt.bh K).1
 have Ns := lB O.o gS (s := 1) ⟨Nat.le_refl _, by omega⟩
 have dR : B.C.cl r = M.C.cl r := O.cl r
 have xC : ∀ q, q ∈ V.all ↔ q = r ∨ q ∈ B.W.all := fun q => by rw [PK.pm.mem_iff, List.mem_cons]
 have lv_ : ∀ q, q = r ∨ q ∈ B.W.all → Live B.C q := fun q h => h.elim (fun e => e ▸ L) O.tY
 have io_ : ∀ q, q = r ∨ q ∈ B.W.all → gk B.C q := fun q h => h.elim (fun e => e ▸ I) (O.t.it q)
 have d1 : cZ B.C B.C.A A2 (fun q o => q = r ∧ o < 4) := (uS PK.df (fun q hq => by rw [List.mem_singleton.1 hq]; exact L.toAt) (fun q hq => by rw [List.mem_singleton.1 hq]; have := (L.toAt.bh K).2.1; omega)).mono fun q o g => by
  obtain ⟨g1, _, g3⟩ := g
  exact ⟨List.mem_singleton.1 g1, by omega⟩
 have d2 : cZ B.C A2 A3 (SL r) := EK.d.wA
 have dd : cZ B.C B.C.A A3 (fun q o => o < 12 ∨ (o = 45 ∨ o = 46) ∧ q = r) := (d1.mono fun q o g => by omega).trans (d2.mono fun q o g => by unfold SL at g; omega)
 have same : ∀ q ∈ B.W.all, pB A3 q = pB B.C.A q := fun q h => yl K dd (O.qp h) (O.t.it q h) fun j s => by
  have ne : q ≠ r := fun e => xE (e ▸ h)
  rcases s with s | s
  ·omega
  exact absurd s.2 ne
 have mr : eM A3 r = mkSet n.du false := by
  rw [EK.mr]
  have : eM A2 r = eM B.C.A r := lP K d1 L.toAt (by have := (L.toAt.bh K).2.1; omega) fun j h1 h2 s => by omega
  rw [show eM (B.C.wA A2).A r = eM B.C.A r from this, show eM B.C.A r = n.du from congrArg I3.du pC]
 have HZ : pB A3 r = { n with du := mkSet n.du false } := by
  rw [AP K dd L.toAt I fun j s => by omega, pC, mr]
 have nit : ∀ q ∈ V.all, pB A3 q = (M.gj r n).it q := fun q h => by
  show _ = if q = r then _ else M.it q
  rcases (xC q).1 h with e | h1
  ·rw [if_pos e, e]; exact HZ
  rw [if_neg fun e : q = r => xE (e ▸ h1), same q h1]; exact O.it q h1
 have jY : ∀ q, Live (B.C.wA A3) q ↔ Live B.C q := fun q => ⟨fun h => ⟨⟨h.i, h.own, h.al, h.k⟩, h.tk⟩, fun h => h.wA _⟩
 have hmq : ∀ q ∈ V.all, eM A3 q < 16 := fun q h => by
  rcases (xC q).1 h with e | h1
  ·rw [e, mr]
   have := mu hm false
   omega
  rw [show eM A3 q = eM B.C.A q from congrArg I3.du (same q h1)]
  obtain ⟨i, hi⟩ := (O.al q).1 h1
  exact O.mq i q hi
 have XG : ∀ q, q ∈ V.all ↔ ∃ j, q ∈ ql (M.gj r n).Q j := fun q => by
  rw [xC]
  show _ ↔ ∃ j, q ∈ ql (iE M.Q (qi (M.C.cl r) 1) r) j
  rw [← dR]
  constructor
  ·rintro (e | h)
   ·exact ⟨_, (gD Ns).2 (.inl ⟨rfl, e⟩)⟩
   obtain ⟨j, hj⟩ := (O.al q).1 h
   exact ⟨j, (gD Ns).2 (.inr hj)⟩
  rintro ⟨j, hj⟩
  rcases (gD Ns).1 hj with ⟨_, e⟩ | h
  ·exact .inl e
  exact .inr (O.z8 h)
 have h0 := O.st0
 have D5 := O.nb
 have hn := O.n
 have Ad := O.mg
 have hmo := O.mo
 have hgr : M.NA ↔ l7 B.W := by unfold Mo.NA l7; rw [h0, D5, hn, hmo]
 have Ss := O.t.MR
 have NU : ∀ q ∈ B.W.all, B.C.hd q ≠ B.C.hd r := fun q h e => xE ((kU K (O.qp h) L.toAt e) ▸ h)
 refine ⟨?_, K.wA A3, ?_, hy, ?_, ?_, fun j q h => hmq q ((XG q).2 ⟨j, h⟩), O.ck, XG, fun q => ?_, fun q h => (by cases h), nit, ?_, ?_, ?_, ?_, ?_, ?_, O.un, O.on, O.go, O.wn, O.cf, ?_, fun q h => ?_⟩
 ·show B.C.wA A3 = M.C.wA A3
  conv => lhs; rw [O.c]
  rfl
 ·exact Eg (K.wA A2) PK.o EK.d fun q _ j g => ⟨by unfold SL at g; unfold ki; omega, by unfold SL at g; omega⟩
 ·show gH (B.C.wA A3) (iE M.Q (qi (M.C.cl r) 1) r)
  rw [← dR]; exact EK.o
 ·show ct B.C.ae.length (iE M.Q (qi (M.C.cl r) 1) r) M.x
  rw [← dR]
  exact ⟨O.x.go, O.x.no, fun q h => ⟨(gD Ns).2 (.inr (O.x.nx q h).1), (O.x.nx q h).2⟩, O.x.lf⟩
 ·show Live (B.C.wA A3) q ↔ q ∈ V.all ∨ none = some q
  rw [jY, O.lv, xC, hr]
  constructor
  ·rintro (h | h)
   ·exact .inl (.inr h)
   exact .inl (.inl (Option.some.inj h).symm)
  rintro ((h | h) | h)
  ·exact .inr (by rw [h])
  ·exact .inl h
  cases h
 ·have e1 : iq (B.C.wA A3) (M.gj r n) B.W.all = iq B.C M B.W.all := gQ fun q h => by
   have ne : q ≠ r := fun e => xE (e ▸ h)
   refine ⟨?_, if_neg ne, rfl⟩
   show (if q = r then _ else M.it q).exp = _
   rw [if_neg ne]
  have e2 : iq (B.C.wA A3) (M.gj r n) (r :: B.W.all) = if 0 < n.exp then ⟨B.C.hd r, n.exp, M.tn + 1⟩ :: iq B.C M B.W.all else iq B.C M B.W.all := by
   rw [kC, e1, show (M.gj r n).it r = { n with du := mkSet n.du false } from if_pos rfl, show (M.gj r n).ord r = M.tn + 1 from if_pos rfl]; rfl
  refine List.Perm.trans ?_ ((List.Perm.of_eq e2.symm).trans (kB PK.pm.symm))
  have p1 : (dJ B.E (B.C.hd r)).Perm (iq B.C M B.W.all) := (O.e.filter _).trans (List.Perm.of_eq (kA NU))
  unfold lS
  split
  ·exact p1.cons _
  exact p1
 ·intro h2
  show V.mv < V.ob.length
  by_cases g : l7 B.W
  ·obtain ⟨_, _, e1, e2⟩ := PK.Sw g
   rw [e1, e2]; omega
  obtain ⟨_, e1, e2, e3⟩ := PK.same g
  rw [e2, e3]; exact O.st (by rw [← e1]; exact h2)
 ·show V.size = if M.NA then 2 * M.nb else M.nb
  by_cases g : l7 B.W
  ·rw [if_pos (hgr.2 g), (PK.Sw g).1, D5]
  rw [if_neg fun e => g (hgr.1 e), (PK.same g).1, D5]
 ·show (if M.NA then M.nb else M.mg) = if V.st = 2 then V.ob.length - V.mv else 0
  by_cases g : l7 B.W
  ·obtain ⟨_, e1, e2, e3⟩ := PK.Sw g
   rw [if_pos (hgr.2 g), if_pos e1, e2, e3, D5]; rfl
  obtain ⟨_, e1, e2, e3⟩ := PK.same g
  rw [if_neg fun e => g (hgr.1 e), e1, e2, e3]; exact Ad
 ·exact PK.aC.trans hmo
 ·show M.v.fJ + n.sz = (V.all.map fun q => ((M.gj r n).it q).sz).sum
  rw [mj _ PK.pm, List.map_cons, List.sum_cons, show ((M.gj r n).it r).sz = n.sz by rw [show (M.gj r n).it r = { n with du := mkSet n.du false } from if_pos rfl]; rfl, O.bt]
  rw [show (B.W.all.map fun q => ((M.gj r n).it q).sz) = B.W.all.map fun q => (M.it q).sz from List.map_congr_left fun q h => by
   show (if q = r then _ else M.it q).sz = _
   rw [if_neg fun e : q = r => xE (e ▸ h)]]
  omega
 ·show V.n = M.n + 1
  rw [PK.n, hn]
 show dS (if q = r then { n with du := mkSet n.du false } else M.it q).key = true
 rcases (xC q).1 h with e | h1
 ·rw [if_pos e]; exact M8
 rw [if_neg fun e : q = r => xE (e ▸ h1)]; exact O.lg q h1
def Mo.kR (M : Mo) (p r : Nat) (n : I3) : Mo :=
 { M with C := M.C.a8 p, hole := none, Q := iE (fw M.Q p) (qi (M.C.cl r) 1) r, it := fun q => if q = r then { n with du := mkSet n.du false } else M.it q, ord := fun q => if q = r then M.tn + 1 else M.ord q, tn := if 0 < n.exp then M.tn + 1 else M.tn, x := M.x.left M.Q p, v := { M.v with fJ := M.v.fJ + n.sz - (M.it p).sz } }
theorem bT.kR {B : Bx} {M : Mo} (O : bT B M) {p r : Nat} (hp : M.has p) (hr : M.hole = some r) (I : gk B.C r) (n : I3) (pC : pB B.C.A r = n) (hm : n.du < 16) (M8 : dS n.key = true) {A2 A3 A4 : By} {V : Tb} {ty : mZ} (hy : ty.ok = none → V.ob = []) (T : JZ B.C B.W p r A2 V)
  (OF : RY (B.C.wA A2) p A3 (fw M.Q p) (M.x.left M.Q p)) (EK : Io (((B.C.wA A2).wA A3).a8 p) r A4 (iE (fw M.Q p) (qi (B.C.cl r) 1) r)) :
  bT ⟨(((B.C.wA A2).wA A3).a8 p).wA A4, V, ty, dJ (lS B.E (B.C.hd r) n.exp M.tn) (B.C.hd p)⟩ (M.kR p r n) := by
 have K := O.k
 have gm := (O.al p).2 hp
 have Lp := O.tY gm
 have xE : r ∉ B.W.all := O.ho r hr
 have R4 : r ≠ p := fun e => xE (e ▸ gm)
 have L : Live B.C r := (O.lv r).2 (.inr hr)
 have gS := (L.toAt.bh K).1
 have dR : B.C.cl r = M.C.cl r := O.cl r
 obtain ⟨rest, Ww, Wv⟩ := T.pm
 have nd1 := List.nodup_cons.1 (Ww.nodup_iff.1 O.t.nd)
 have inr : ∀ q, q ∈ rest ↔ q ∈ B.W.all ∧ q ≠ p := fun q => by
  rw [Ww.mem_iff, List.mem_cons]
  exact ⟨fun h => ⟨.inr h, fun e => nd1.1 (e ▸ h)⟩, fun h => h.1.resolve_left h.2⟩
 have xC : ∀ q, q ∈ V.all ↔ q = r ∨ q ∈ B.W.all ∧ q ≠ p := fun q => by rw [Wv.mem_iff, List.mem_cons, inr]
 have lv_ : ∀ q, q = r ∨ q ∈ B.W.all → Live B.C q := fun q h => h.elim (fun e => e ▸ L) O.tY
 have io_ : ∀ q, q = r ∨ q ∈ B.W.all → gk B.C q := fun q h => h.elim (fun e => e ▸ I) (O.t.it q)
 have Ns : qi (B.C.cl r) 1 < (fw M.Q p).length := by
  unfold fw
  rw [List.length_map]
  exact lB O.o gS (s := 1) ⟨Nat.le_refl _, by omega⟩
 have d1 : cZ B.C B.C.A A2 (fun _ o => o < 4) := (uS T.df (fun q hq => (lv_ q ((List.mem_cons.1 hq).imp id id)).toAt) (fun q hq => by have := ((lv_ q ((List.mem_cons.1 hq).imp id id)).toAt.bh K).2.1; omega)).mono fun q o g => by omega
 have d2 : cZ B.C A2 A3 (SQ p) := OF.d.wA
 have d3 : cZ B.C A3 A4 (SL r) := fun i hi => by
  obtain ⟨q, o, q1, q2, q3, q4⟩ := EK.d i hi
  have S := (fD (K.wA A3) (Lp.wA A3)).2
  have a := (S.at (p := q)).1 ⟨q1.i, q1.own, q1.al, q1.k⟩
  refine ⟨q, o, ⟨a.i, a.own, a.al, a.k⟩, ?_, q3, q4⟩
  have e1 : ((((B.C.wA A2).wA A3).a8 p)).cl q = B.C.cl q := S.cl q
  rw [e1] at q2
  exact q2
 have dd : cZ B.C B.C.A A4 (fun q o => o < 12 ∨ o = 45 ∨ o = 46 ∧ q = r) := ((d1.mono fun q o g => by omega).trans (d2.mono fun q o g => by unfold SQ at g; omega)).trans (d3.mono fun q o g => by unfold SL at g; omega)
 have same : ∀ q ∈ B.W.all, pB A4 q = pB B.C.A q := fun q h => yl K dd (O.qp h) (O.t.it q h) fun j s => by
  have ne : q ≠ r := fun e => xE (e ▸ h)
  rcases s with s | s | s
  ·omega
  ·omega
  exact absurd s.2 ne
 have d12 : cZ B.C B.C.A A3 (fun q o => o < 12 ∨ o = 45) := (d1.mono fun q o g => by omega).trans (d2.mono fun q o g => by unfold SQ at g; omega)
 have mr : eM A4 r = mkSet n.du false := by
  rw [EK.mr]
  have : eM A3 r = eM B.C.A r := lP K d12 L.toAt (by have := (L.toAt.bh K).2.1; omega) fun j h1 h2 s => by omega
  rw [show eM (((B.C.wA A2).wA A3).a8 p).A r = eM B.C.A r from this, show eM B.C.A r = n.du from congrArg I3.du pC]
 have HZ : pB A4 r = { n with du := mkSet n.du false } := by
  rw [AP K dd L.toAt I fun j s => by omega, pC, mr]
 have nit : ∀ q ∈ V.all, pB A4 q = (M.kR p r n).it q := fun q h => by
  show _ = if q = r then _ else M.it q
  rcases (xC q).1 h with e | ⟨h1, h2⟩
  ·rw [if_pos e, e]; exact HZ
  rw [if_neg fun e : q = r => xE (e ▸ h1), same q h1]; exact O.it q h1
 have jY : ∀ q, Live ((((B.C.wA A2).wA A3).a8 p).wA A4) q ↔ Live B.C q ∧ q ≠ p := fun q => by
  have h1 := mO (K.wA A3) (Lp.wA A3) q
  refine Iff.trans ⟨fun h => ?_, fun h => ?_⟩ (h1.trans ⟨fun h => ⟨⟨⟨h.1.i, h.1.own, h.1.al, h.1.k⟩, h.1.tk⟩, h.2⟩, fun h => ⟨h.1.wA _, h.2⟩⟩)
  ·exact ⟨⟨h.i, h.own, h.al, h.k⟩, h.tk⟩
  exact ⟨⟨h.i, h.own, h.al, h.k⟩, h.tk⟩
 have D7 : ∀ q, Live B.C q → q ≠ p → ((((B.C.wA A2).wA A3).a8 p).wA A4).hd q = B.C.hd q := fun q h ne => ((kx (K.wA A3) (Lp.wA A3)).lv q ne (h.wA A3)).2.1
 have hmq : ∀ q ∈ V.all, eM A4 q < 16 := fun q h => by
  rcases (xC q).1 h with e | ⟨h1, h2⟩
  ·rw [e, mr]
   have := mu hm false
   omega
  rw [show eM A4 q = eM B.C.A q from congrArg I3.du (same q h1)]
  obtain ⟨i, hi⟩ := (O.al q).1 h1
  exact O.mq i q hi
 have XG : ∀ q, q ∈ V.all ↔ ∃ j, q ∈ ql (M.kR p r n).Q j := fun q => by
  rw [xC]
  show _ ↔ ∃ j, q ∈ ql (iE (fw M.Q p) (qi (M.C.cl r) 1) r) j
  rw [← dR]
  constructor
  ·rintro (e | ⟨h, ne⟩)
   ·exact ⟨_, (gD Ns).2 (.inl ⟨rfl, e⟩)⟩
   obtain ⟨j, hj⟩ := (O.al q).1 h
   exact ⟨j, (gD Ns).2 (.inr (by rw [gy]; exact (List.mem_erase_of_ne ne).2 hj))⟩
  rintro ⟨j, hj⟩
  rcases (gD Ns).1 hj with ⟨_, e⟩ | h
  ·exact .inl e
  rw [gy] at h
  exact .inr ⟨O.z8 (List.mem_of_mem_erase h), fun e => by subst e; exact (List.Nodup.not_mem_erase (O.o.nd j)) h⟩
 have im := fun j => oJ (K.wA A3) (Lp.wA A3) j
 have hn := O.n
 have D5 := O.nb
 have Ad := O.mg
 have Kf : Ok ((((B.C.wA A2).wA A3).a8 p).wA A4) := OF.k.wA A4
 have hsV : ∀ q ∈ V.all, q ≠ p := fun q h => ((xC q).1 h).elim (fun e => e ▸ R4) fun g => g.2
 refine ⟨?_, Kf, ?_, hy, ?_, ?_, fun j q h => hmq q ((XG q).2 ⟨j, h⟩), O.ck, XG, fun q => ?_, fun q h => (by cases h), nit, ?_, ?_, ?_, ?_, ?_, ?_, ?_, ?_, ?_, O.wn, ?_, ?_, fun q h => ?_⟩
 ·show (((B.C.wA A2).wA A3).a8 p).wA A4 = (M.C.a8 p).wA A4
  conv => lhs; rw [O.c]
  rfl
 ·have T2 := Eg (K.wA A2) T.o OF.d fun q _ j g => ⟨g.qQ, by unfold SQ at g; omega⟩
  have T3 := OF.s.tb T2 hsV
  exact Eg OF.k T3 EK.d fun q _ j g => ⟨by unfold SL at g; unfold ki; omega, by unfold SL at g; omega⟩
 ·show gH _ (iE (fw M.Q p) (qi (M.C.cl r) 1) r)
  rw [← dR]; exact EK.o
 ·show ct B.C.ae.length (iE (fw M.Q p) (qi (M.C.cl r) 1) r) (M.x.left M.Q p)
  rw [← dR]
  have X := OF.x
  exact ⟨X.go, X.no, fun q h => ⟨(gD Ns).2 (.inr (X.nx q h).1), (X.nx q h).2⟩, X.lf⟩
 ·show Live _ q ↔ q ∈ V.all ∨ none = some q
  rw [jY, O.lv, xC, hr]
  constructor
  ·rintro ⟨h | h, ne⟩
   ·exact .inl (.inr ⟨h, ne⟩)
   exact .inl (.inl (Option.some.inj h).symm)
  rintro ((h | h) | h)
  ·exact ⟨.inr (by rw [h]), fun e => R4 (h.symm.trans e)⟩
  ·exact ⟨.inl h.1, h.2⟩
  cases h
 ·have fu : ∀ q ∈ rest, B.C.hd q ≠ B.C.hd p := fun q h e => ((inr q).1 h).2 (kU K (O.qp ((inr q).1 h).1) (O.qp gm) e)
  have NU : ∀ q ∈ p :: rest, B.C.hd q ≠ B.C.hd r := fun q h e => by
   have hq : q ∈ B.W.all := (List.mem_cons.1 h).elim (fun e => e ▸ gm) fun h => ((inr q).1 h).1
   exact xE ((kU K (O.qp hq) L.toAt e) ▸ hq)
  have hrp : B.C.hd r ≠ B.C.hd p := fun e => NU p List.mem_cons_self e.symm
  have e1 : iq ((((B.C.wA A2).wA A3).a8 p).wA A4) (M.kR p r n) rest = iq B.C M rest := gQ fun q h => by
   obtain ⟨g1, g2⟩ := (inr q).1 h
   have ne : q ≠ r := fun e => xE (e ▸ g1)
   refine ⟨?_, if_neg ne, D7 q (O.tY g1) g2⟩
   show (if q = r then _ else M.it q).exp = _
   rw [if_neg ne]
  have e2 : iq ((((B.C.wA A2).wA A3).a8 p).wA A4) (M.kR p r n) (r :: rest) = if 0 < n.exp then ⟨B.C.hd r, n.exp, M.tn + 1⟩ :: iq B.C M rest else iq B.C M rest := by
   rw [kC, e1, show (M.kR p r n).it r = { n with du := mkSet n.du false } from if_pos rfl, show (M.kR p r n).ord r = M.tn + 1 from if_pos rfl, D7 r L R4]
  refine List.Perm.trans ?_ ((List.Perm.of_eq e2.symm).trans (kB Wv.symm))
  have p1 : (dJ B.E (B.C.hd r)).Perm (iq B.C M (p :: rest)) := ((O.e.trans (kB Ww)).filter _).trans (List.Perm.of_eq (kA NU))
  have p2 : (dJ (dJ B.E (B.C.hd r)) (B.C.hd p)).Perm (iq B.C M rest) := by
   refine (p1.filter _).trans ?_
   rw [kC]
   split
   ·rw [List.filter_cons, if_neg (by simp)]
    exact List.Perm.of_eq (kA fu)
   exact List.Perm.of_eq (kA fu)
  unfold lS
  split
  ·unfold dJ at p2 ⊢
   rw [List.filter_cons, if_pos (by simpa using hrp)]
   exact p2.cons _
  exact p2
 ·intro h2
  show V.mv < V.ob.length
  rw [T.mv, T.s.ob]
  exact O.st (by rw [← T.s.st]; exact h2)
 ·exact T.s.size.trans D5
 ·show M.mg = if V.st = 2 then V.ob.length - V.mv else 0
  rw [T.s.st, T.mv, T.s.ob]; exact Ad
 ·exact T.s.aC.trans O.mo
 ·show M.v.fJ + n.sz - (M.it p).sz = (V.all.map fun q => ((M.kR p r n).it q).sz).sum
  rw [mj _ Wv, List.map_cons, List.sum_cons, show ((M.kR p r n).it r).sz = n.sz by rw [show (M.kR p r n).it r = { n with du := mkSet n.du false } from if_pos rfl]; rfl, O.bt, mj _ Ww, List.map_cons, List.sum_cons]
  rw [show (rest.map fun q => ((M.kR p r n).it q).sz) = rest.map fun q => (M.it q).sz from List.map_congr_left fun q h => by
   show (if q = r then _ else M.it q).sz = _
   rw [if_neg fun e : q = r => xE (e ▸ ((inr q).1 h).1)]]
  omega
 ·exact O.un
 ·intro h
  have := O.on h
  obtain ⟨e1, e2, e3⟩ := im M.m.pg
  exact ⟨this.1, e1.trans this.2.1, e2.trans this.2.2.1, e3.trans this.2.2.2⟩
 ·intro j h
  exact O.go j ((im j).2.1.symm.trans h)
 ·exact O.cf
 ·exact T.s.n.trans hn
 show dS (if q = r then { n with du := mkSet n.du false } else M.it q).key = true
 rcases (xC q).1 h with e | ⟨h1, h2⟩
 ·rw [if_pos e]; exact M8
 rw [if_neg fun e : q = r => xE (e ▸ h1)]; exact O.lg q h1
def Mo.mW (M : Mo) (i : Nat) : Mo := { M with v := { M.v with bm := i } }
theorem bT.mW {B : Bx} {M : Mo} (O : bT B M) (i : Nat) : bT B (M.mW i) :=
 ⟨O.c, O.k, O.t, O.ty, O.o, O.x, O.mq, O.ck, O.al, O.lv, O.ho, O.it, O.e, O.st, O.nb, O.mg, O.mo, O.bt, O.un, O.on, O.go, O.wn, O.cf, O.n, O.lg⟩
def Mo.eX (M : Mo) (r : Nat) (old : Option Nat) (n : I3) : Mo := match old with
 | none => (M.mW (M.v.bm + 1)).gj r n
 | some p => (M.mW (M.v.bm + 1)).kR p r n
theorem bT.btb2 {B : Bx} {M : Mo} (O : bT B M) : M.v.fJ ≤ 1125899906842624 := by
 rw [O.bt]
 have h2 := xY O.k O.t
 rw [O.t.n] at h2
 have : ∀ l : List Nat, (∀ p ∈ l, p ∈ B.W.all) → (l.map fun p => (M.it p).sz).sum ≤ l.length * 1048576 := fun l => by
  induction l with
  | nil => intro _; simp
  | cons p l ih =>
   intro h
   have hp := h p List.mem_cons_self
   have h1 := O.szp hp
   have h3 := (O.t.it p hp).fits
   have h4 := ((O.qp hp).bh O.k).2.2.1
   have h5 := O.k.toFix.p1
   have := ih fun q hq => h q (List.mem_cons_of_mem _ hq)
   rw [List.map_cons, List.sum_cons, List.length_cons]
   omega
 have := this _ fun p h => h
 have h3 : B.W.all.length * 1048576 ≤ 1073741824 * 1048576 := Nat.mul_le_mul_right _ h2
 omega
theorem Ox (z : Ly) (M : Mo) (r : Nat) (hr : M.hole = some r) (old : Option Nat) (k v : List UInt8) (MV MO : Nat) (xF : MV = k.length) (hvl : MO = v.length) (hold : ∀ p, old = some p → M.has p ∧ (M.it p).key = k) (SN : old = none → M.find k = none) (ka va : Option Addr) (kc vc fl ex mk : Nat) (M8 : dS k = true)
  (Ap : 58 + k.length + v.length ≤ M.C.sz (M.C.cl r)) (uD : fl < 4294967296) (hex : ex < 9223372036854775808) (uC : mk < 16) (we : M.v.bm + 1 < 18446744073709551616) (M5 : M.tn < 18446744073709551615) :
  aL Tryz.prog 118 [.pointer (some ⟨z.s, 0, none⟩), .int .u64 (M.C.hd r : Int), .int .u64 (tW M.C old : Int), .agg (Cg (.slice ka MV kc) (.slice va MO vc) fl ex 0 0 0 mk).toArray] (fun h => fK h ka (aq k) ∧ fK h va (aq v)) [SH z M]
   (fun w H => w = .tuple #[] ∧ H = [SH z (M.eX r old ⟨k, v, fl, ex, M.k.now, M.v.bm + 1, mk⟩)]) := by
 obtain ⟨n, hn⟩ : ∃ n : I3, n = ⟨k, v, fl, ex, M.k.now, M.v.bm + 1, mk⟩ := ⟨_, rfl⟩
 rw [← hn]
 refine ag Tryz.func118 rfl Tryz.ntmps118 rfl ?_
 rintro F ⟨hka, hva⟩
 refine aD ?_
 refine Lp (oB fun b1 => ?_)
 refine aD ?_
 refine az (fun _ x => cV x) ?_
 refine eK fun B O => ?_
 have K := O.k
 have L : Live B.C r := (O.lv r).2 (.inr hr)
 have Ny := O.ck.n2
 have D7 := O.hd r
 have hz4 := (L.toAt.bh K).2.2.1
 have Xi := K.toFix.p1
 have H8 : 58 + k.length + v.length ≤ B.C.sz (B.C.cl r) := by rw [O.c]; exact Ap
 have Sf := iP M8
 have ly := PU z.y.b B.C K r L ka va kc vc MV MO k v xF hvl fl ex M.k.now (M.v.bm + 1) 4 mk M8 H8 uD hex (by omega) we ⟨by omega, by omega⟩ uC
 rw [D7] at ly
 have Nw : k.length < 256 := by omega
 have hv6 : v.length < 256 ^ 4 := by omega
 have LP := UQ (c := B.C.cl r) (fl := fl) (exp := ex) (tch := M.k.now) (tok := M.v.bm + 1) (st := 4) (mk := mk) L.toAt Nw H8
 have HP := Dv B.C.A r (B.C.cl r) k v fl ex M.k.now (M.v.bm + 1) 4 mk Nw
 obtain ⟨SX, f_k, f_v⟩ := PL B.C.A r (B.C.cl r) k v fl ex M.k.now (M.v.bm + 1) 4 mk Nw hv6
 have S4 := PJ B.C.A r (B.C.cl r) k v fl ex M.k.now (M.v.bm + 1) 4 mk Nw (by omega)
 have SY := LB B.C.A r (B.C.cl r) k v fl ex M.k.now (M.v.bm + 1) 4 mk Nw (by omega)
 have Yj := LA B.C.A r (B.C.cl r) k v fl ex M.k.now (M.v.bm + 1) 4 mk Nw (by omega)
 have Yk := PI B.C.A r (B.C.cl r) k v fl ex M.k.now (M.v.bm + 1) 4 mk Nw (by omega)
 have SZ := PG B.C.A r (B.C.cl r) k v fl ex M.k.now (M.v.bm + 1) 4 mk Nw (by omega)
 have NZ := PH B.C.A r (B.C.cl r) k v fl ex M.k.now (M.v.bm + 1) 4 mk Nw (by omega)
 obtain ⟨A1, Nh⟩ : ∃ A1, A1 = jy B.C.A r (B.C.cl r) k v fl ex M.k.now (M.v.bm + 1) 4 mk := ⟨_, rfl⟩
 rw [← Nh] at ly LP HP SX f_k f_v S4 SY Yj Yk SZ NZ
 have pC : pB (B.C.wA A1).A r = n := by
  rw [hn]; unfold pB; rw [cP, f_k, f_v, S4, SY, Yj, Yk, NZ]
 have O1 := (O.WR hr LP).mW (M.v.bm + 1)
 have I1 : gk (B.C.wA A1) r := ⟨by rw [cP, HP]; omega, by rw [cP, HP, SX]; exact H8, by rw [cP, show rd A1 (r + 16) 8 = ex from S4]; exact hex, by rw [cP, show rd A1 (r + 24) 8 = M.k.now from SY]; omega⟩
 have xE := O.ho r hr
 have P1 : gr (B.C.wA A1) (some r) := fun q e => by cases e; exact ⟨L.wA _, I1⟩
 have ss := fun rest => yE z.s z.y rest (B.C.wA A1) O1.k r P1 (by rw [cP, HP]; omega)
 rw [cP, HP, SX] at ss
 rw [show (B.C.wA A1).hd r = M.C.hd r from D7] at ss
 have hbt := O.btb2
 have tZ : n.sz = 58 + k.length + v.length := by rw [hn]; rfl
 have hE : B.E.length < 2147483647 := by
  rw [O.e.length_eq]
  unfold iq
  rw [List.length_map]
  have h1 := List.length_filter_le (fun p => decide (0 < (M.it p).exp)) B.W.all
  have h2 := xY O.k O.t
  rw [O.t.n] at h2
  omega
 have ws := QD z.y.wh B.E M.tn (M.C.hd r) ex M5 hE
 unfold gp ij jM gF pV iZ Cg
 refine bo ?_
 refine bx ?_
 refine ay ?_
 refine jC 16 T.mix (.cons (.there (.there (.there (.there (.there (.there (.there (.there .here)))))))) .nil) fun F1 kN cT aU => ?_
 obtain ⟨q1, _⟩ := cT
 refine cY ?_
 refine Tp (oC T.iF rfl rfl (kD z.y.ck M.k) .nil (fun _ le av => av.nth 8 rfl) ?_)
 rintro v H' ⟨rfl, rfl⟩
 refine bo ?_
 refine bE ?_
 refine iC aU ?_
 refine aD ?_
 refine ay ?_
 refine Hh (H' := [Cl z.y.b B.C, af z.y.t 145 (dg z.y.b B.W B.ty), af B.ty.nk 163 (ax (ao B.W.nb)), fI B.ty.ok 163 (ax (ao B.W.ob)), af z.y.q 139 (dy z.y.b z.qb B.C.ae.length), af z.qb 327 (M.Q.flatMap (dD B.C)), ey z.y.cr z.y.q z.y.wh B.C.ae.length (aO z.s) (aN z.s) B.C M.x, Wl z.y.wh B.E M.tn, af z.s 111 [.pointer (some ⟨z.y.b, 0, none⟩), .pointer (some ⟨z.y.ck, 0, none⟩), .pointer (some ⟨z.y.t, 0, none⟩), .pointer (some ⟨z.y.lu, 0, none⟩), .pointer (some ⟨z.y.wh, 0, none⟩), .pointer (some ⟨z.y.cr, 0, none⟩), .pointer (some ⟨z.y.mo, 0, none⟩), .pointer (some ⟨z.y.q, 0, none⟩), .int .i64 M.v.c.ai, .int .i64 M.v.c.bj, .int .i64 M.v.c.fac, .int .i64 M.v.c.aM, .int .i64 M.v.c.lim, .int .i64 M.v.c.hot, .int .i64 M.v.c.warm, .int .i64 M.v.p.b, .int .i64 M.v.p.l, .int .i64 M.v.p.c, .int .i64 M.v.p.m, .int .u64 ((M.v.bm + 1 : Nat) : Int), .int .i64 (M.v.fJ : Int), .int .i64 M.v.mt.dr, .int .i64 M.v.mt.re, .int .i64 M.v.mt.bu, .int .i64 M.v.mt.li, .int .i64 M.v.mt.lo, .int .i64 M.v.mt.cr, .int .i64 M.v.mt.mv, .slice M.v.wa M.v.wn M.v.wc], iN z.y.ck M.k, gf z.y.lu z.y.b z.y.q z.hot z.warm, iB z.y.mo z.y.b z.ub (aO z.s) (aN z.s) (bn z.s) M.m, iM z.ub M.m, eW M, af b1 170 [.slice ka MV kc, .slice va MO vc, .int .u64 (fl : Int), .int .i64 (ex : Int), .int .i64 (M.k.now : Int), .int .u64 ((M.v.bm + 1 : Nat) : Int), .int .i64 4, .int .i64 (mk : Int)]]) ?_
 refine jC 7 T.mix (.cons (.there (.there (.there (.there (.there (.there (.there (.there .here)))))))) (.cons (.there (.there (.there (.there (.there (.there (.there (.there (.there (.there (.there (.there (.there .here))))))))))))) .nil)) fun F2 D1 eO eP => ?_
 obtain ⟨q2, q3, _⟩ := eO
 refine bO ?_
 refine iC eP ?_
 refine Tp (oC T.Vv rfl rfl (ly) (.cons (.there (.there .here)) .nil) (fun _ le _ => ⟨hka.mono le, hva.mono le⟩) ?_)
 rintro v H' ⟨rfl, rfl⟩
 refine bo ?_
 refine aD ?_
 refine ay ?_
 refine Hh (H' := [Cl z.y.b (B.C.wA A1), af z.y.t 145 (dg z.y.b B.W B.ty), af B.ty.nk 163 (ax (ao B.W.nb)), fI B.ty.ok 163 (ax (ao B.W.ob)), af z.y.q 139 (dy z.y.b z.qb B.C.ae.length), af z.qb 327 (M.Q.flatMap (dD (B.C.wA A1))), ey z.y.cr z.y.q z.y.wh B.C.ae.length (aO z.s) (aN z.s) (B.C.wA A1) M.x, Wl z.y.wh B.E M.tn, af z.s 111 [.pointer (some ⟨z.y.b, 0, none⟩), .pointer (some ⟨z.y.ck, 0, none⟩), .pointer (some ⟨z.y.t, 0, none⟩), .pointer (some ⟨z.y.lu, 0, none⟩), .pointer (some ⟨z.y.wh, 0, none⟩), .pointer (some ⟨z.y.cr, 0, none⟩), .pointer (some ⟨z.y.mo, 0, none⟩), .pointer (some ⟨z.y.q, 0, none⟩), .int .i64 M.v.c.ai, .int .i64 M.v.c.bj, .int .i64 M.v.c.fac, .int .i64 M.v.c.aM, .int .i64 M.v.c.lim, .int .i64 M.v.c.hot, .int .i64 M.v.c.warm, .int .i64 M.v.p.b, .int .i64 M.v.p.l, .int .i64 M.v.p.c, .int .i64 M.v.p.m, .int .u64 ((M.v.bm + 1 : Nat) : Int), .int .i64 (M.v.fJ : Int), .int .i64 M.v.mt.dr, .int .i64 M.v.mt.re, .int .i64 M.v.mt.bu, .int .i64 M.v.mt.li, .int .i64 M.v.mt.lo, .int .i64 M.v.mt.cr, .int .i64 M.v.mt.mv, .slice M.v.wa M.v.wn M.v.wc], iN z.y.ck M.k, gf z.y.lu z.y.b z.y.q z.hot z.warm, iB z.y.mo z.y.b z.ub (aO z.s) (aN z.s) (bn z.s) M.m, iM z.ub M.m, eW M, af b1 170 [.slice ka MV kc, .slice va MO vc, .int .u64 (fl : Int), .int .i64 (ex : Int), .int .i64 (M.k.now : Int), .int .u64 ((M.v.bm + 1 : Nat) : Int), .int .i64 4, .int .i64 (mk : Int)]]) ?_
 refine jC 8 T.mix (.cons (.there (.there (.there (.there (.there (.there (.there (.there .here)))))))) (.cons (.there (.there (.there (.there (.there (.there (.there (.there (.there (.there (.there (.there (.there .here))))))))))))) .nil)) fun F3 R7 rX fW => ?_
 obtain ⟨q4, q5, _⟩ := rX
 refine cX ?_
 refine iC fW ?_
 refine Tp (oC T.Vs rfl rfl (ws) (.cons (.there (.there (.there (.there (.there (.there (.there (.there (.there .here))))))))) .nil) (fun _ _ _ => trivial) ?_)
 rintro v H' ⟨rfl, rfl⟩
 refine bo ?_
 refine aD ?_
 refine ay ?_
 refine Hh (H' := [Cl z.y.b (B.C.wA A1), af z.y.t 145 (dg z.y.b B.W B.ty), af B.ty.nk 163 (ax (ao B.W.nb)), fI B.ty.ok 163 (ax (ao B.W.ob)), af z.y.q 139 (dy z.y.b z.qb B.C.ae.length), af z.qb 327 (M.Q.flatMap (dD (B.C.wA A1))), ey z.y.cr z.y.q z.y.wh B.C.ae.length (aO z.s) (aN z.s) (B.C.wA A1) M.x, Wl z.y.wh (lS B.E (M.C.hd r) ex M.tn) (if 0 < ex then M.tn + 1 else M.tn), af z.s 111 [.pointer (some ⟨z.y.b, 0, none⟩), .pointer (some ⟨z.y.ck, 0, none⟩), .pointer (some ⟨z.y.t, 0, none⟩), .pointer (some ⟨z.y.lu, 0, none⟩), .pointer (some ⟨z.y.wh, 0, none⟩), .pointer (some ⟨z.y.cr, 0, none⟩), .pointer (some ⟨z.y.mo, 0, none⟩), .pointer (some ⟨z.y.q, 0, none⟩), .int .i64 M.v.c.ai, .int .i64 M.v.c.bj, .int .i64 M.v.c.fac, .int .i64 M.v.c.aM, .int .i64 M.v.c.lim, .int .i64 M.v.c.hot, .int .i64 M.v.c.warm, .int .i64 M.v.p.b, .int .i64 M.v.p.l, .int .i64 M.v.p.c, .int .i64 M.v.p.m, .int .u64 ((M.v.bm + 1 : Nat) : Int), .int .i64 (M.v.fJ : Int), .int .i64 M.v.mt.dr, .int .i64 M.v.mt.re, .int .i64 M.v.mt.bu, .int .i64 M.v.mt.li, .int .i64 M.v.mt.lo, .int .i64 M.v.mt.cr, .int .i64 M.v.mt.mv, .slice M.v.wa M.v.wn M.v.wc], iN z.y.ck M.k, gf z.y.lu z.y.b z.y.q z.hot z.warm, iB z.y.mo z.y.b z.ub (aO z.s) (aN z.s) (bn z.s) M.m, iM z.ub M.m, eW M, af b1 170 [.slice ka MV kc, .slice va MO vc, .int .u64 (fl : Int), .int .i64 (ex : Int), .int .i64 (M.k.now : Int), .int .u64 ((M.v.bm + 1 : Nat) : Int), .int .i64 4, .int .i64 (mk : Int)]]) ?_
 refine jC 10 T.mix (.cons (.there (.there (.there (.there (.there (.there (.there (.there .here)))))))) .nil) fun F4 le4 SO Il => ?_
 obtain ⟨q6, _⟩ := SO
 refine bE ?_
 refine Tp (oC T.JB rfl rfl (ss (gF { M.v with bm := M.v.bm + 1 })) .nil (fun _ le av => ⟨In.mono q6 le, av.nth 0 rfl⟩) ?_)
 rintro v H' ⟨rfl, rfl⟩
 refine bo ?_
 refine bL ?_
 refine iC Il ?_
 refine bL ?_
 refine ay ?_
 refine Hh (H' := [Cl z.y.b (B.C.wA A1), af z.y.t 145 (dg z.y.b B.W B.ty), af B.ty.nk 163 (ax (ao B.W.nb)), fI B.ty.ok 163 (ax (ao B.W.ob)), af z.y.q 139 (dy z.y.b z.qb B.C.ae.length), af z.qb 327 (M.Q.flatMap (dD (B.C.wA A1))), ey z.y.cr z.y.q z.y.wh B.C.ae.length (aO z.s) (aN z.s) (B.C.wA A1) M.x, Wl z.y.wh (lS B.E (M.C.hd r) ex M.tn) (if 0 < ex then M.tn + 1 else M.tn), af z.s 111 [.pointer (some ⟨z.y.b, 0, none⟩), .pointer (some ⟨z.y.ck, 0, none⟩), .pointer (some ⟨z.y.t, 0, none⟩), .pointer (some ⟨z.y.lu, 0, none⟩), .pointer (some ⟨z.y.wh, 0, none⟩), .pointer (some ⟨z.y.cr, 0, none⟩), .pointer (some ⟨z.y.mo, 0, none⟩), .pointer (some ⟨z.y.q, 0, none⟩), .int .i64 M.v.c.ai, .int .i64 M.v.c.bj, .int .i64 M.v.c.fac, .int .i64 M.v.c.aM, .int .i64 M.v.c.lim, .int .i64 M.v.c.hot, .int .i64 M.v.c.warm, .int .i64 M.v.p.b, .int .i64 M.v.p.l, .int .i64 M.v.p.c, .int .i64 M.v.p.m, .int .u64 ((M.v.bm + 1 : Nat) : Int), .int .i64 ((M.v.fJ + (58 + k.length + v.length) : Nat) : Int), .int .i64 M.v.mt.dr, .int .i64 M.v.mt.re, .int .i64 M.v.mt.bu, .int .i64 M.v.mt.li, .int .i64 M.v.mt.lo, .int .i64 M.v.mt.cr, .int .i64 M.v.mt.mv, .slice M.v.wa M.v.wn M.v.wc], iN z.y.ck M.k, gf z.y.lu z.y.b z.y.q z.hot z.warm, iB z.y.mo z.y.b z.ub (aO z.s) (aN z.s) (bn z.s) M.m, iM z.ub M.m, eW M]) ?_
 have K1 : Ok (B.C.wA A1) := O1.k
 have L1 : Live (B.C.wA A1) r := L.wA _
 rcases old with _ | p
 ·refine fE ?_
  refine bb ?_
  have hkd : ∀ q ∈ B.W.all, aI (B.C.wA A1).A q ≠ aI (B.C.wA A1).A r := fun q hq e => by
   rw [cP, f_k, show aI A1 q = (M.it q).key from (O1.lM hq).2.2.2.2.1] at e
   have h1 := SN rfl
   unfold Mo.find at h1
   rw [List.find?_eq_none] at h1
   obtain ⟨i, hi⟩ := (O.al q).1 hq
   have h2 := h1 q (by exact eD.2 ⟨i, hi⟩)
   simp only [decide_eq_true_eq] at h2
   exact h2 e
  have tp := Ol z.y.t z.y.b (B.C.wA A1) K1 B.W B.ty O1.t O.ty r L1 I1 xE hkd
  rw [show (B.C.wA A1).hd r = M.C.hd r from D7] at tp
  unfold jZ at tp
  refine bO ?_
  refine Lp (oC T.Vp rfl rfl (tp) (.cons .here (.cons .here (.cons .here (.cons .here .nil)))) (fun _ _ _ => trivial) ?_)
  rintro v H' ⟨rfl, A2, V, y2, rfl, hy, PK⟩
  refine bo ?_
  refine aD ?_
  have d1 : cZ (B.C.wA A1) A1 A2 (fun q o => q = r ∧ o < 4) := (uS PK.df (fun q hq => by rw [List.mem_singleton.1 hq]; exact L1.toAt) (fun q hq => by rw [List.mem_singleton.1 hq]; have := (L1.toAt.bh K1).2.1; omega)).mono fun q o g => by
   obtain ⟨g1, _, g3⟩ := g
   exact ⟨List.mem_singleton.1 g1, by omega⟩
  have K2 := K1.wA A2
  have Q2 := HJ K1 O1.o d1 (fun i q hq j g => ⟨by unfold ki; omega, by omega, by omega⟩)
  have L2 : Live ((B.C.wA A1).wA A2) r := L1.wA _
  have n1 := (L1.toAt.bh K1).2.1
  have m2 : eM A2 r = mk := by
   rw [← NZ]
   exact lP K1 d1 L1.toAt (by omega) fun j h1 h2 s => by omega
  have s2 : iR A2 r = 4 := by
   rw [← SZ]
   exact lP K1 d1 L1.toAt (by omega) fun j h1 h2 s => by omega
  have I2 : gk ((B.C.wA A1).wA A2) r := PK.o.it r (PK.pm.mem_iff.2 List.mem_cons_self)
  have le := vz z.y.lu z.y.q z.y.b z.qb z.hot z.warm ((B.C.wA A1).wA A2) K2 M.Q Q2 r (fun q e => by cases e; exact ⟨L2, I2⟩) (by rw [cP, m2]; exact uC) (by rw [cP, s2]; omega)
  rw [show ((B.C.wA A1).wA A2).hd r = M.C.hd r from D7, show ((B.C.wA A1).wA A2).cl r = B.C.cl r from rfl] at le
  unfold py at le
  refine Hh (H' := [Cl z.y.b ((B.C.wA A1).wA A2), af z.y.t 145 (dg z.y.b V y2), af y2.nk 163 (ax (ao V.nb)), fI y2.ok 163 (ax (ao V.ob)), af z.y.q 139 (dy z.y.b z.qb B.C.ae.length), af z.qb 327 (M.Q.flatMap (dD ((B.C.wA A1).wA A2))), ey z.y.cr z.y.q z.y.wh B.C.ae.length (aO z.s) (aN z.s) ((B.C.wA A1).wA A2) M.x, Wl z.y.wh (lS B.E (M.C.hd r) ex M.tn) (if 0 < ex then M.tn + 1 else M.tn), af z.s 111 [.pointer (some ⟨z.y.b, 0, none⟩), .pointer (some ⟨z.y.ck, 0, none⟩), .pointer (some ⟨z.y.t, 0, none⟩), .pointer (some ⟨z.y.lu, 0, none⟩), .pointer (some ⟨z.y.wh, 0, none⟩), .pointer (some ⟨z.y.cr, 0, none⟩), .pointer (some ⟨z.y.mo, 0, none⟩), .pointer (some ⟨z.y.q, 0, none⟩), .int .i64 M.v.c.ai, .int .i64 M.v.c.bj, .int .i64 M.v.c.fac, .int .i64 M.v.c.aM, .int .i64 M.v.c.lim, .int .i64 M.v.c.hot, .int .i64 M.v.c.warm, .int .i64 M.v.p.b, .int .i64 M.v.p.l, .int .i64 M.v.p.c, .int .i64 M.v.p.m, .int .u64 ((M.v.bm + 1 : Nat) : Int), .int .i64 ((M.v.fJ + (58 + k.length + v.length) : Nat) : Int), .int .i64 M.v.mt.dr, .int .i64 M.v.mt.re, .int .i64 M.v.mt.bu, .int .i64 M.v.mt.li, .int .i64 M.v.mt.lo, .int .i64 M.v.mt.cr, .int .i64 M.v.mt.mv, .slice M.v.wa M.v.wn M.v.wc], iN z.y.ck M.k, gf z.y.lu z.y.b z.y.q z.hot z.warm, iB z.y.mo z.y.b z.ub (aO z.s) (aN z.s) (bn z.s) M.m, iM z.ub M.m, eW M]) ?_
  refine bO ?_
  refine Lp (oC T.Js rfl rfl (le) (.cons .here (.cons (.there (.there (.there .here))) (.cons (.there (.there (.there .here))) .nil))) (fun _ le av => av.nth 7 rfl) ?_)
  rintro v H' ⟨rfl, A3, rfl, EK⟩
  refine bo ?_
  refine aB ?_
  subst hn
  have O2 := bT.gj O1 hr I1 _ pC uC M8 hy PK EK
  refine Hh (H' := [Cl z.y.b (((B.C.wA A1).wA A2).wA A3), af z.y.t 145 (dg z.y.b V y2), af y2.nk 163 (ax (ao V.nb)), fI y2.ok 163 (ax (ao V.ob)), af z.y.q 139 (dy z.y.b z.qb B.C.ae.length), af z.qb 327 ((iE M.Q (qi (B.C.cl r) 1) r).flatMap (dD (((B.C.wA A1).wA A2).wA A3))), ey z.y.cr z.y.q z.y.wh B.C.ae.length (aO z.s) (aN z.s) (((B.C.wA A1).wA A2).wA A3) M.x, Wl z.y.wh (lS B.E (M.C.hd r) ex M.tn) (if 0 < ex then M.tn + 1 else M.tn), af z.s 111 [.pointer (some ⟨z.y.b, 0, none⟩), .pointer (some ⟨z.y.ck, 0, none⟩), .pointer (some ⟨z.y.t, 0, none⟩), .pointer (some ⟨z.y.lu, 0, none⟩), .pointer (some ⟨z.y.wh, 0, none⟩), .pointer (some ⟨z.y.cr, 0, none⟩), .pointer (some ⟨z.y.mo, 0, none⟩), .pointer (some ⟨z.y.q, 0, none⟩), .int .i64 M.v.c.ai, .int .i64 M.v.c.bj, .int .i64 M.v.c.fac, .int .i64 M.v.c.aM, .int .i64 M.v.c.lim, .int .i64 M.v.c.hot, .int .i64 M.v.c.warm, .int .i64 M.v.p.b, .int .i64 M.v.p.l, .int .i64 M.v.p.c, .int .i64 M.v.p.m, .int .u64 ((M.v.bm + 1 : Nat) : Int), .int .i64 ((M.v.fJ + (58 + k.length + v.length) : Nat) : Int), .int .i64 M.v.mt.dr, .int .i64 M.v.mt.re, .int .i64 M.v.mt.bu, .int .i64 M.v.mt.li, .int .i64 M.v.mt.lo, .int .i64 M.v.mt.cr, .int .i64 M.v.mt.mv, .slice M.v.wa M.v.wn M.v.wc], iN z.y.ck M.k, gf z.y.lu z.y.b z.y.q z.hot z.warm, iB z.y.mo z.y.b z.ub (aO z.s) (aN z.s) (bn z.s) M.m, iM z.ub M.m, eW M]) ?_
  rw [← D7, show B.C.cl r = M.C.cl r from O.cl r]
  refine az (aR O2 (H := [])) ?_
  refine jN [SH z (M.eX r none ⟨k, v, fl, ex, M.k.now, M.v.bm + 1, mk⟩)] Tryz.results118 ?_
  exact ⟨rfl, rfl⟩
 obtain ⟨hp, Xg⟩ := hold p rfl
 have gm := (O.al p).2 hp
 have hp1' : At B.C p := O.qp gm
 have Cd := (bM K hp1').2.2.2.2.2
 rw [O.hd p] at Cd
 have hpz : (!decide (((M.C.hd p : Nat) : Int) = 0)) = true := by rw [decide_eq_false (by omega)]; rfl
 refine bb ?_
 refine gK ?_ (e := by exact hpz)
 have qL : aI (B.C.wA A1).A p = aI (B.C.wA A1).A r := by
  rw [cP, f_k, show aI A1 p = (M.it p).key from (O1.lM gm).2.2.2.2.1]; exact Xg
 have tp := Kt z.y.t z.y.b (B.C.wA A1) K1 B.W B.ty O1.t O.ty p r gm L1 I1 xE qL
 rw [show (B.C.wA A1).hd r = M.C.hd r from D7, show (B.C.wA A1).hd p = M.C.hd p from O.hd p] at tp
 unfold jZ at tp
 refine cX ?_
 refine Lp (oC T.VQ rfl rfl (tp) (.cons .here (.cons .here (.cons .here (.cons .here .nil)))) (fun _ _ _ => trivial) ?_)
 rintro v H' ⟨rfl, A2, V, rfl, hy, SK⟩
 refine bo ?_
 refine bb ?_
 obtain ⟨i, hi⟩ := hp
 obtain ⟨kq, hkq⟩ := List.getElem?_of_mem hi
 have lvs : ∀ q ∈ r :: B.W.all, Live (B.C.wA A1) q := fun q hq => (List.mem_cons.1 hq).elim (fun e => e ▸ L1) fun h => (O.tY h).wA _
 have d1 : cZ (B.C.wA A1) A1 A2 (fun q o => q ∈ r :: B.W.all ∧ 0 ≤ o ∧ o < 0 + 4) := uS SK.df (fun q hq => (lvs q hq).toAt) (fun q hq => by have := ((lvs q hq).toAt.bh K1).2.1; omega)
 have K2 := K1.wA A2
 have Q2 := HJ K1 O1.o d1 (fun i q hq j g => XJ g)
 have Lvp := O.tY gm
 have kp := nU K1 d1 (Lvp.wA A1).toAt (O1.t.it p gm) (fun j g => (XJ g).1)
 have klp : kl A2 p = kl A1 p := kp.kl
 have vlp : vl A2 p = vl A1 p := kp.vl
 have X3 : 58 + kl A1 p + vl A1 p = (M.it p).sz := O1.szp gm
 have Ar : kl A2 p ≤ 250 := by
  have h1 := (iP (O.lg p gm)).2
  rw [klp, ← show (aI A1 p).length = kl A1 p from cS _ _ _, show aI A1 p = (M.it p).key from (O1.lM gm).2.2.2.2.1]
  exact h1
 have hb : (M.it p).sz ≤ M.v.fJ := by
  rw [O.bt]
  exact wS (fun p => (M.it p).sz) gm
 have of := CY z.s z.qb z.hot z.warm (aO z.s) (aN z.s) z.y { M.v with bm := M.v.bm + 1, fJ := M.v.fJ + (58 + k.length + v.length) } ((B.C.wA A1).wA A2) K2 M.Q Q2 M.x O.x (lS B.E (M.C.hd r) ex M.tn) (if 0 < ex then M.tn + 1 else M.tn) i kq p hkq Ar (by rw [cP, klp, vlp, X3]; show _ ≤ M.v.fJ + _; omega) (by show M.v.fJ + _ < _; omega)
 rw [cP, klp, vlp, X3, wY O.o hkq, show ((B.C.wA A1).wA A2).hd p = M.C.hd p from O.hd p] at of
 refine Hh (H' := [Cl z.y.b ((B.C.wA A1).wA A2), af z.y.t 145 (dg z.y.b V B.ty), af B.ty.nk 163 (ax (ao V.nb)), fI B.ty.ok 163 (ax (ao V.ob)), af z.y.q 139 (dy z.y.b z.qb B.C.ae.length), af z.qb 327 (M.Q.flatMap (dD ((B.C.wA A1).wA A2))), ey z.y.cr z.y.q z.y.wh B.C.ae.length (aO z.s) (aN z.s) ((B.C.wA A1).wA A2) M.x, Wl z.y.wh (lS B.E (M.C.hd r) ex M.tn) (if 0 < ex then M.tn + 1 else M.tn), af z.s 111 [.pointer (some ⟨z.y.b, 0, none⟩), .pointer (some ⟨z.y.ck, 0, none⟩), .pointer (some ⟨z.y.t, 0, none⟩), .pointer (some ⟨z.y.lu, 0, none⟩), .pointer (some ⟨z.y.wh, 0, none⟩), .pointer (some ⟨z.y.cr, 0, none⟩), .pointer (some ⟨z.y.mo, 0, none⟩), .pointer (some ⟨z.y.q, 0, none⟩), .int .i64 M.v.c.ai, .int .i64 M.v.c.bj, .int .i64 M.v.c.fac, .int .i64 M.v.c.aM, .int .i64 M.v.c.lim, .int .i64 M.v.c.hot, .int .i64 M.v.c.warm, .int .i64 M.v.p.b, .int .i64 M.v.p.l, .int .i64 M.v.p.c, .int .i64 M.v.p.m, .int .u64 ((M.v.bm + 1 : Nat) : Int), .int .i64 ((M.v.fJ + (58 + k.length + v.length) : Nat) : Int), .int .i64 M.v.mt.dr, .int .i64 M.v.mt.re, .int .i64 M.v.mt.bu, .int .i64 M.v.mt.li, .int .i64 M.v.mt.lo, .int .i64 M.v.mt.cr, .int .i64 M.v.mt.mv, .slice M.v.wa M.v.wn M.v.wc], iN z.y.ck M.k, gf z.y.lu z.y.b z.y.q z.hot z.warm, iB z.y.mo z.y.b z.ub (aO z.s) (aN z.s) (bn z.s) M.m, iM z.ub M.m, eW M]) ?_
 refine Lp (oC T.JH rfl rfl (of) (.cons .here (.cons (.there (.there (.there .here))) (.cons (.there (.there (.there .here))) (.cons (.there (.there (.there .here))) (.cons (.there (.there (.there .here))) (.cons (.there (.there (.there .here))) .nil)))))) (fun _ le av => av.nth 4 rfl) ?_)
 rintro v H' ⟨rfl, A3, rfl, OF⟩
 refine bo ?_
 have R4 : r ≠ p := fun e => xE (e ▸ gm)
 obtain ⟨rest, Ww, Wv⟩ := SK.pm
 have nd1 := List.nodup_cons.1 (Ww.nodup_iff.1 O.t.nd)
 have hsV : ∀ q ∈ V.all, q ≠ p := fun q h => (List.mem_cons.1 (Wv.mem_iff.1 h)).elim (fun e => e ▸ R4) fun h e => nd1.1 (e ▸ h)
 have T2 := Eg K2 SK.o OF.d (fun q _ j g => ⟨g.qQ, by unfold SQ at g; omega⟩)
 have T3 := OF.s.tb T2 hsV
 have hrV : r ∈ V.all := Wv.mem_iff.2 List.mem_cons_self
 obtain ⟨C3, Sp⟩ : ∃ C3, C3 = (((B.C.wA A1).wA A2).wA A3).a8 p := ⟨_, rfl⟩
 have L2 : At ((B.C.wA A1).wA A2) r := (L1.wA A2).toAt
 have n1 := (L1.toAt.bh K1).2.1
 have m3 : eM A3 r = mk := by
  rw [← NZ]
  have e1 : eM A3 r = eM A2 r := lP K2 OF.d L2 (by have := (L2.bh K2).2.1; omega) fun j h1 h2 s => by unfold SQ at s; omega
  rw [e1]
  exact lP K1 d1 L1.toAt (by omega) fun j h1 h2 s => by omega
 have s3 : iR A3 r = 4 := by
  rw [← SZ]
  have e1 : iR A3 r = iR A2 r := lP K2 OF.d L2 (by have := (L2.bh K2).2.1; omega) fun j h1 h2 s => by unfold SQ at s; omega
  rw [e1]
  exact lP K1 d1 L1.toAt (by omega) fun j h1 h2 s => by omega
 have hA3 : C3.A = A3 := by rw [Sp]; rfl
 have hcl3 : C3.cl r = B.C.cl r := by
  have := (OF.s.lv r R4 ((T2.lv r hrV))).2.2
  rw [← Sp] at this
  exact this
 have hhd3 : C3.hd r = M.C.hd r := by
  have := (OF.s.lv r R4 ((T2.lv r hrV))).2.1
  rw [← Sp] at this
  exact this.trans D7
 have OF2 := OF
 have T4 := T3
 have K3 := OF.k
 have Q3 := OF.o
 have vU : C3.ae.length = B.C.ae.length := by rw [Sp]; rfl
 rw [← Sp] at T4 K3 Q3
 have WQ := vz z.y.lu z.y.q z.y.b z.qb z.hot z.warm C3 K3 (fw M.Q p) Q3 r (fun q e => by cases e; exact ⟨T4.lv r hrV, T4.it r hrV⟩) (by rw [hA3, m3]; exact uC) (by rw [hA3, s3]; omega)
 rw [hcl3, hhd3] at WQ
 unfold py at WQ
 rw [vU] at WQ
 rw [← Sp]
 refine cX ?_
 refine Lp (oC T.Js rfl rfl (WQ) (.cons .here (.cons .here (.cons .here .nil))) (fun _ le av => av.nth 7 rfl) ?_)
 rintro v H' ⟨rfl, A4, rfl, EK⟩
 refine bo ?_
 refine aB ?_
 subst hn
 subst Sp
 have O2 := bT.kR O1 ⟨i, hi⟩ hr I1 _ pC uC M8 hy SK OF EK
 refine Hh (H' := [Cl z.y.b (((((B.C.wA A1).wA A2).wA A3).a8 p).wA A4), af z.y.t 145 (dg z.y.b V B.ty), af B.ty.nk 163 (ax (ao V.nb)), fI B.ty.ok 163 (ax (ao V.ob)), af z.y.q 139 (dy z.y.b z.qb B.C.ae.length), af z.qb 327 ((iE (fw M.Q p) (qi (B.C.cl r) 1) r).flatMap (dD (((((B.C.wA A1).wA A2).wA A3).a8 p).wA A4))), ey z.y.cr z.y.q z.y.wh B.C.ae.length (aO z.s) (aN z.s) (((((B.C.wA A1).wA A2).wA A3).a8 p).wA A4) (M.x.left M.Q p), Wl z.y.wh (dJ (lS B.E (M.C.hd r) ex M.tn) (M.C.hd p)) (if 0 < ex then M.tn + 1 else M.tn), af z.s 111 [.pointer (some ⟨z.y.b, 0, none⟩), .pointer (some ⟨z.y.ck, 0, none⟩), .pointer (some ⟨z.y.t, 0, none⟩), .pointer (some ⟨z.y.lu, 0, none⟩), .pointer (some ⟨z.y.wh, 0, none⟩), .pointer (some ⟨z.y.cr, 0, none⟩), .pointer (some ⟨z.y.mo, 0, none⟩), .pointer (some ⟨z.y.q, 0, none⟩), .int .i64 M.v.c.ai, .int .i64 M.v.c.bj, .int .i64 M.v.c.fac, .int .i64 M.v.c.aM, .int .i64 M.v.c.lim, .int .i64 M.v.c.hot, .int .i64 M.v.c.warm, .int .i64 M.v.p.b, .int .i64 M.v.p.l, .int .i64 M.v.p.c, .int .i64 M.v.p.m, .int .u64 ((M.v.bm + 1 : Nat) : Int), .int .i64 ((M.v.fJ + (58 + k.length + v.length) - (M.it p).sz : Nat) : Int), .int .i64 M.v.mt.dr, .int .i64 M.v.mt.re, .int .i64 M.v.mt.bu, .int .i64 M.v.mt.li, .int .i64 M.v.mt.lo, .int .i64 M.v.mt.cr, .int .i64 M.v.mt.mv, .slice M.v.wa M.v.wn M.v.wc], iN z.y.ck M.k, gf z.y.lu z.y.b z.y.q z.hot z.warm, iB z.y.mo z.y.b z.ub (aO z.s) (aN z.s) (bn z.s) M.m, iM z.ub M.m, eW M]) ?_
 rw [← D7, ← O.hd p, show B.C.cl r = M.C.cl r from O.cl r]
 refine az (aR O2 (H := [])) ?_
 refine jN [SH z (M.eX r (some p) ⟨k, v, fl, ex, M.k.now, M.v.bm + 1, mk⟩)] Tryz.results118 ?_
 exact ⟨rfl, rfl⟩
theorem gq.beside {M : Mo} (A : gq M 1) : Ev M M.beside := by
 have h1 : Ev M M.dM := .rf rfl rfl
 have h2 : Ev M M.dM.gN := (h1.trans (Ev.dC M.dM M.dM.k.now M.dM.v.p.c)).trans (.rf rfl rfl)
 exact (h2.trans ((A.ev h2).fV M.dM.gN.v.p.m)).trans (.rf rfl rfl)
theorem gq.behind {M : Mo} (A : gq M 1) (hot warm : Nat) (k : List UInt8) : Ev M (M.behind hot warm k) := by
 have h := DY hot warm M k
 exact h.trans (A.ev h).beside
theorem Ev.meet (M : Mo) (k : List UInt8) : Ev M (M.meet k).2 := by
 unfold Mo.meet
 split
 ·exact .rf rfl rfl
 split
 ·exact (Ev.rf rfl rfl : Ev M (M.eJ _)).trans (Ev.bR _ _)
 exact .rf rfl rfl
theorem gq.meet {M : Mo} {j : Nat} (A : gq M j) (k : List UInt8) : gq (M.meet k).2 j := A.ev (Ev.meet M k)
theorem Ev.eX (M : Mo) (r : Nat) (old : Option Nat) (n : I3) : Ev M (M.eX r old n) := by
 unfold Mo.eX
 split
 ·exact .rf rfl rfl
 next p => exact ⟨rfl, DA M.C p⟩
theorem gq.mJ {j : Nat} (hot warm : Nat) : ∀ (l : List (List UInt8)) {M : Mo}, gq M (j + 1) → Ev M (l.foldl (Mo.behind hot warm) M)
 | [], _, _ => .rf rfl rfl
 | k :: l, M, A => by
  have e := (A.le (Nat.succ_le_succ (Nat.zero_le j))).behind hot warm k
  exact e.trans (gq.mJ (j := j) hot warm l (A.ev e))
end Go.Proofs.YtpgbeapapmdkcaaGreatDoor
