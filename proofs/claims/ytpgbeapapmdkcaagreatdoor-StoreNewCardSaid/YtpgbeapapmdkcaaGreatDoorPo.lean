/- Part Po of the proof. -/
import Derived.Test.YtpgbeapapmdkcaaGreatDoorPl
import Derived.Test.YtpgbeapapmdkcaaGreatDoorPm
set_option maxRecDepth 100000
namespace Go.Proofs.YtpgbeapapmdkcaaGreatDoor
open Go Go.cQ Go.Proofs.YtpgbeapapmdkcaaGreatDoor.Cs
def I3.vw (n : I3) : I3 := { n with du := n.du / 2 * 2 }
structure Pl (M : Mo) : Prop where
 nd : ∀ i, (ql M.Q i).Nodup
 kd : ∀ p q, M.has p → M.has q → (M.it p).key = (M.it q).key → p = q
def Mo.vw (M : Mo) (p : Nat) : I3 × Nat := ((M.it p).vw, M.C.cl p)
def oq (k : Ck) (x : I3) : Nat := if 0 < x.exp ∧ x.exp ≤ k.now then 2 else if x.tok ≤ k.cut then 3 else 0
theorem yv (M : Mo) (p : Nat) : M.bz p = oq M.k (M.it p) := rfl
theorem sx {M N : Mo} (hk : N.k = M.k) {p q : Nat} (h : N.vw q = M.vw p) : N.bz q = M.bz p := by
 have h1 : (N.it q).exp = (M.it p).exp := congrArg (fun x : I3 × Nat => x.1.exp) h
 have h2 : (N.it q).tok = (M.it p).tok := congrArg (fun x : I3 × Nat => x.1.tok) h
 unfold Mo.bz
 rw [h1, h2, hk]
theorem l8 {M N : Mo} {p q : Nat} (h : N.vw q = M.vw p) : (N.it q).key = (M.it p).key := congrArg (fun x : I3 × Nat => x.1.key) h
def Mo.jO (M : Mo) (k : List UInt8) : Option (I3 × Nat) := (M.live k).map M.vw
theorem bT.pl {B : Bx} {M : Mo} (O : bT B M) : Pl M := ⟨O.o.nd, fun _ _ hp hq e => O.kdM hp hq e⟩
theorem hZ {M : Mo} (P : Pl M) {k : List UInt8} {p : Nat} : M.find k = some p ↔ M.has p ∧ (M.it p).key = k := by
 unfold Mo.find
 constructor
 ·intro h
  exact ⟨eD.1 (List.mem_of_find?_eq_some h), by simpa using List.find?_some h⟩
 rintro ⟨hp, hk⟩
 cases hf : M.Q.flatten.find? fun p => decide ((M.it p).key = k) with
 | none => exact absurd (decide_eq_true hk) (List.find?_eq_none.1 hf p (eD.2 hp))
 | some q =>
  have h1 : M.has q := eD.1 (List.mem_of_find?_eq_some hf)
  have h2 : (M.it q).key = k := by simpa using List.find?_some hf
  rw [P.kd q p h1 hp (h2.trans hk.symm)]
theorem ml {M : Mo} (P : Pl M) {k : List UInt8} {i : I3 × Nat} : M.jO k = some i ↔ ∃ p, M.has p ∧ (M.it p).key = k ∧ M.bz p = 0 ∧ M.vw p = i := by
 unfold Mo.jO Mo.live
 constructor
 ·intro h
  cases hf : M.find k with
  | none => rw [hf] at h; cases h
  | some p =>
   rw [hf] at h
   obtain ⟨h1, h2⟩ := (hZ P).1 hf
   by_cases hw : M.bz p = 0
   ·simp only [hw, if_true, Option.map_some, Option.some.injEq] at h
    exact ⟨p, h1, h2, hw, h⟩
   simp only [hw, if_false] at h; cases h
 rintro ⟨p, h1, h2, hw, rfl⟩
 rw [(hZ P).2 ⟨h1, h2⟩]
 simp [hw]
structure iU (M N : Mo) : Prop where
 p : Pl N
 k : N.k = M.k
 d : ∀ q, N.has q → ∃ p, M.has p ∧ N.vw q = M.vw p
 u : ∀ p, M.has p → M.bz p = 0 → ∃ q, N.has q ∧ N.vw q = M.vw p
 z : N.C.ae = M.C.ae
theorem iU.s {M N : Mo} (S : iU M N) (P : Pl M) (k : List UInt8) : N.jO k = M.jO k := by
 refine Option.ext fun i => ?_
 rw [ml S.p, ml P]
 constructor
 ·rintro ⟨q, a, b, c, d⟩
  obtain ⟨p, e, f⟩ := S.d q a
  exact ⟨p, e, (l8 f).symm.trans b, (sx S.k f).symm.trans c, f.symm.trans d⟩
 rintro ⟨p, a, b, c, d⟩
 obtain ⟨q, e, f⟩ := S.u p a c
 exact ⟨q, e, (l8 f).trans b, (sx S.k f).trans c, f.trans d⟩
theorem iU.refl {M : Mo} (P : Pl M) : iU M M := ⟨P, rfl, fun q h => ⟨q, h, rfl⟩, fun q h _ => ⟨q, h, rfl⟩, rfl⟩
theorem iU.trans {M N O : Mo} (a : iU M N) (b : iU N O) : iU M O := by
 refine ⟨b.p, b.k.trans a.k, fun q h => ?_, fun p h w => ?_, b.z.trans a.z⟩
 ·obtain ⟨r, h1, e1⟩ := b.d q h
  obtain ⟨p, h2, e2⟩ := a.d r h1
  exact ⟨p, h2, e1.trans e2⟩
 obtain ⟨r, h1, e1⟩ := a.u p h w
 obtain ⟨q, h2, e2⟩ := b.u r h1 ((sx a.k e1).trans w)
 exact ⟨q, h2, e2.trans e1⟩
theorem iL {M : Mo} (P : Pl M) {p q : Nat} : (∃ i, q ∈ ql (fw M.Q p) i) ↔ M.has q ∧ q ≠ p := by
 constructor
 ·rintro ⟨i, hi⟩
  rw [gy, (P.nd i).mem_erase_iff] at hi
  exact ⟨⟨i, hi.2⟩, hi.1⟩
 rintro ⟨⟨i, hi⟩, h⟩
 exact ⟨i, by rw [gy, (P.nd i).mem_erase_iff]; exact ⟨h, hi⟩⟩
theorem IJ {M N : Mo} (P : Pl M) {p : Nat} (hQ : N.Q = fw M.Q p) (hi : N.it = M.it) : Pl N := by
 refine ⟨fun i => ?_, fun a b ha hb e => ?_⟩
 ·rw [hQ, gy]; exact (P.nd i).erase p
 unfold Mo.has at ha hb
 rw [hQ] at ha hb
 rw [hi] at e
 exact P.kd a b ((iL P).1 ha).1 ((iL P).1 hb).1 e
theorem V7 (C : Cs) {i c sp : Nat} {x : Pg} {r : Rw} {A : By} (h : x.cl = (C.pg i).cl) (q : Nat) : (C.put i x c r sp A).cl q = C.cl q := by
 unfold Cs.cl Cs.pn
 show ((C.put i x c r sp A).pg (q / C.ai)).cl = _
 unfold Cs.pg Cs.put
 dsimp only
 rw [List.getD_eq_getElem?_getD, List.getElem?_set, List.getD_eq_getElem?_getD]
 split
 ·next e =>
  split
  ·rw [← e]
   show x.cl = _
   rw [h]
   unfold Cs.pg
   rw [List.getD_eq_getElem?_getD]
  next g => rw [← e, List.getElem?_eq_none (by omega)]
 rfl
theorem oK (C : Cs) (p q : Nat) : (C.a8 p).cl q = C.cl q := by
 unfold Cs.a8
 refine V7 C ?_ q
 rfl
theorem vS {M : Mo} (P : Pl M) {p : Nat} (hd : M.bz p ≠ 0) : iU M (M.bR p) := by
 have e : ∀ q, (M.bR p).vw q = M.vw q := fun q => congrArg (Prod.mk _) (oK M.C p q)
 exact ⟨IJ P rfl rfl, rfl, fun q h => ⟨q, ((iL P).1 h).1, e q⟩, fun q h w => ⟨q, (iL P).2 ⟨h, fun g => hd (g ▸ w)⟩, e q⟩, rfl⟩
theorem p9 {M : Mo} (P : Pl M) (p : Nat) : iU M (M.look p) := by
 unfold Mo.look
 split
 ·next h => exact vS P h
 exact .refl P
theorem dt {M N : Mo} (P : Pl M) (hQ : N.Q = M.Q) (hi : N.it = M.it) (hk : N.k = M.k) (hc : ∀ p, M.has p → N.C.cl p = M.C.cl p := by exact fun _ _ => rfl) (hz : N.C.ae = M.C.ae := by exact rfl) : iU M N := by
 have hh : ∀ p, N.has p ↔ M.has p := fun p => by unfold Mo.has; rw [hQ]
 have e : ∀ q, M.has q → N.vw q = M.vw q := fun q h => by unfold Mo.vw; rw [hi, hc q h]
 exact ⟨⟨fun i => by rw [hQ]; exact P.nd i, fun a b ha hb e => by rw [hi] at e; exact P.kd a b ((hh a).1 ha) ((hh b).1 hb) e⟩, hk, fun q h => ⟨q, (hh q).1 h, e q ((hh q).1 h)⟩, fun q h _ => ⟨q, (hh q).2 h, e q h⟩, hz⟩
theorem nX : ∀ (l : List Nat) {M : Mo}, Pl M → iU M (l.foldl Mo.look M)
 | [], _, P => .refl P
 | p :: l, M, P => (p9 P p).trans (nX l (p9 P p).p)
theorem qJ : ∀ (f : Nat) {M : Mo}, Pl M → iU M (M.bI f).2
 | 0, _, P => .refl P
 | f + 1, M, P => by
  unfold Mo.bI
  split
  ·next x h =>
   split
   ·next p hp =>
    have a : iU M { M with x := x.pass M.Q } := dt P rfl rfl rfl
    have b := p9 a.p p
    exact (a.trans b).trans (qJ f b.p)
   exact dt P rfl rfl rfl
  exact dt P rfl rfl rfl
theorem B0 {M : Mo} (P : Pl M) (now aC : Int) : iU M (M.dC now aC).2 := by
 unfold Mo.dC
 split
 ·exact .refl P
 unfold Mo.nS
 exact (nX _ P).trans (qJ _ (nX _ P).p)
theorem Dy {M : Mo} {p r : Nat} (hp : M.has p) {q : Nat} : (∃ i, q ∈ ql (vY M.Q p r) i) ↔ q = r ∨ (M.has q ∧ q ≠ p) := by
 constructor
 ·rintro ⟨i, hi⟩
  rw [nL, List.mem_map] at hi
  obtain ⟨a, ha, e⟩ := hi
  unfold Nl at e
  split at e
  ·exact .inl e.symm
  next h => subst e; exact .inr ⟨⟨i, ha⟩, h⟩
 rintro (rfl | ⟨⟨i, hi⟩, h⟩)
 ·obtain ⟨i, hi⟩ := hp
  exact ⟨i, by rw [nL, List.mem_map]; exact ⟨p, hi, by unfold Nl; rw [if_pos rfl]⟩⟩
 exact ⟨i, by rw [nL, List.mem_map]; exact ⟨q, hi, by unfold Nl; rw [if_neg h]⟩⟩
theorem EG {M : Mo} (P : Pl M) {p r : Nat} (hp : M.has p) (hr : ¬ M.has r) (dR : M.C.cl r = M.C.cl p) : iU M (M.swap p r) := by
 have ne : p ≠ r := fun e => hr (e ▸ hp)
 have ir : (M.swap p r).it r = M.it p := if_pos rfl
 have io : ∀ q, q ≠ r → (M.swap p r).it q = M.it q := fun q h => if_neg h
 have vr : (M.swap p r).vw r = M.vw p := by unfold Mo.vw; rw [ir]; exact congrArg (Prod.mk _) dR
 have vo : ∀ q, q ≠ r → (M.swap p r).vw q = M.vw q := fun q h => by unfold Mo.vw; rw [io q h]; rfl
 have hs : ∀ q, (M.swap p r).has q ↔ q = r ∨ (M.has q ∧ q ≠ p) := fun q => Dy hp
 have nr : ∀ q, M.has q → q ≠ r := fun q h e => hr (e ▸ h)
 refine ⟨⟨fun i => ?_, fun a b ha hb e => ?_⟩, rfl, fun q hq => ?_, fun q hq hw => ?_, rfl⟩
 ·show (ql (vY M.Q p r) i).Nodup
  rw [nL]
  unfold List.Nodup
  rw [List.pairwise_map]
  refine List.Pairwise.imp_of_mem (fun {x y} hx hy h e => h ?_) (P.nd i)
  have QH := nr x ⟨i, hx⟩
  have D4 := nr y ⟨i, hy⟩
  unfold Nl at e
  split at e <;> split at e
  ·next h1 h2 => rw [h1, h2]
  ·exact absurd e.symm D4
  ·exact absurd e QH
  exact e
 ·rcases (hs a).1 ha with rfl | ⟨a1, a2⟩ <;> rcases (hs b).1 hb with rfl | ⟨b1, b2⟩
  ·rfl
  ·rw [ir, io b (nr b b1)] at e
   exact absurd (P.kd p b hp b1 e).symm b2
  ·rw [ir, io a (nr a a1)] at e
   exact absurd (P.kd a p a1 hp e) a2
  rw [io a (nr a a1), io b (nr b b1)] at e
  exact P.kd a b a1 b1 e
 ·rcases (hs q).1 hq with rfl | ⟨a1, a2⟩
  ·exact ⟨p, hp, vr⟩
  exact ⟨q, a1, vo q (nr q a1)⟩
 by_cases e : q = p
 ·subst e; exact ⟨r, (hs r).2 (.inl rfl), vr⟩
 exact ⟨q, (hs q).2 (.inr ⟨hq, e⟩), vo q (nr q hq)⟩
structure Qp (n : Nat) (Q : List (List Nat)) : Prop where
 len : Q.length = n * 3
 nd : ∀ i, (ql Q i).Nodup
 one : ∀ i j p, p ∈ ql Q i → p ∈ ql Q j → i = j
theorem Qp.rem {n : Nat} {Q : List (List Nat)} (K : Qp n Q) (p : Nat) : Qp n (fw Q p) := by
 refine ⟨by unfold fw; rw [List.length_map]; exact K.len, fun i => by rw [gy]; exact (K.nd i).erase p, fun i j q h g => ?_⟩
 rw [gy] at h g
 exact K.one i j q (List.mem_of_mem_erase h) (List.mem_of_mem_erase g)
theorem Qp.Ur {n : Nat} {Q : List (List Nat)} (K : Qp n Q) {i k p : Nat} (h : (ql Q i)[k]? = some p) : Q.set i ((ql Q i).eraseIdx k) = fw Q p := by
 have hp : p ∈ ql Q i := List.mem_of_getElem? h
 have hi : i < Q.length := by
  refine Decidable.byContradiction fun g => ?_
  unfold ql at hp
  rw [List.getD_eq_getElem?_getD, List.getElem?_eq_none (by omega)] at hp
  cases hp
 apply List.ext_getElem?
 intro j
 by_cases hj : j < Q.length
 ·have e1 : Q[j]? = some (ql Q j) := by
   unfold ql
   rw [List.getD_eq_getElem?_getD, List.getElem?_eq_getElem hj]; rfl
  unfold fw
  rw [List.getElem?_map, e1, Option.map_some, List.getElem?_set]
  by_cases e : i = j
  ·subst e
   rw [if_pos rfl, if_pos hi, Bc (K.nd i) h]
  rw [if_neg e, e1]
  congr 1
  exact (List.erase_of_not_mem fun g => e (K.one i j p hp g)).symm
 rw [List.getElem?_eq_none (by rw [List.length_set]; omega), List.getElem?_eq_none (by unfold fw; rw [List.length_map]; omega)]
structure Mi (M : Mo) : Prop where
 k : Ok M.C
 p : Pl M
 q : Qp M.gL M.Q
 x : ct M.gL M.Q M.x
 lv : ∀ p, Live M.C p ↔ M.has p ∨ M.hole = some p
 ho : ∀ p, M.hole = some p → ¬ M.has p
 on : M.m.on = true → M.m.pg < M.C.n ∧ (M.C.pg M.m.pg).own = true ∧ (M.C.pg M.m.pg).lv = true ∧ (M.C.pg M.m.pg).cl = M.m.fr
 go : ∀ i, (M.C.pg i).lv = true → M.m.on = true ∧ i = M.m.pg
theorem bT.mi {B : Bx} {M : Mo} (O : bT B M) : Mi M := by
 refine ⟨O.W7, O.pl, ⟨?_, O.o.nd, fun _ _ _ h g => Cr O.o h g⟩, ?_, fun p => ?_, fun p h g => O.ho p h ((O.al p).2 g), O.R5.on, fun i hi => O.go i ?_⟩
 ·have := O.o.len
  rw [O.gL] at this; exact this
 ·have := O.x
  rw [O.gL] at this; exact this
 ·have h := O.lv p
  rw [O.al p, O.c] at h
  refine Iff.trans ⟨fun L => ?_, fun L => ?_⟩ h
  ·exact L.wA _
  exact ⟨⟨L.i, L.own, L.al, L.k⟩, L.tk⟩
 rw [O.c]; exact hi
theorem Mi.co {M : Mo} (K : Mi M) : nc M := ⟨K.k, K.p.nd, fun p hp => (K.lv p).2 (.inl hp), K.on⟩
theorem Mi.bR {M : Mo} (K : Mi M) {p : Nat} (hp : M.has p) : Mi (M.bR p) := by
 have L := (K.lv p).2 (.inl hp)
 have g := oJ K.k L
 have hh : ∀ q, (M.bR p).has q ↔ M.has q ∧ q ≠ p := fun q => iL K.p
 refine ⟨(fD K.k L).1, IJ K.p rfl rfl, ?_, ?_, fun q => ?_, fun q h h2 => K.ho q h ((hh q).1 h2).1, fun h => ?_, fun i hi => K.go i ?_⟩
 ·show Qp (M.C.a8 p).ae.length (fw M.Q p)
  rw [(fD K.k L).2.ae]; exact K.q.rem p
 ·show ct (M.C.a8 p).ae.length (fw M.Q p) (M.x.left M.Q p)
  rw [(fD K.k L).2.ae]
  obtain ⟨i, hi⟩ := hp
  obtain ⟨j, hj, e⟩ := List.getElem_of_mem hi
  have hk : (ql M.Q i)[j]? = some p := by rw [List.getElem?_eq_getElem hj, e]
  have hil : i < M.Q.length := by
   refine Decidable.byContradiction fun g => ?_
   unfold ql at hi
   rw [List.getD_eq_getElem?_getD, List.getElem?_eq_none (by omega)] at hi
   cases hi
  rw [← K.q.Ur hk]
  exact xe K.x K.q.nd hil hk
 ·refine (mO K.k L q).trans ?_
  rw [K.lv q, hh q]
  constructor
  ·rintro ⟨a | a, b⟩
   ·exact .inl ⟨a, b⟩
   exact .inr a
  rintro (⟨a, b⟩ | a)
  ·exact ⟨.inl a, b⟩
  exact ⟨.inr a, fun e => K.ho q a (e ▸ hp)⟩
 ·obtain ⟨a, b, c, d⟩ := K.on h
  obtain ⟨e1, e2, e3⟩ := g M.m.pg
  have en : (M.C.a8 p).n = M.C.n := (fD K.k L).2.n
  exact ⟨by show _ < (M.C.a8 p).n; rw [en]; exact a, e1.trans b, e2.trans c, e3.trans d⟩
 rw [← (g i).2.1]; exact hi
theorem Mi.rf {M N : Mo} (K : Mi M) (hx : ct M.gL M.Q N.x) (hC : N.C = M.C) (hQ : N.Q = M.Q) (hi : N.it = M.it) (hh : N.hole = M.hole) (hk : N.k = M.k) (on : N.m.on = M.m.on) (pg : N.m.pg = M.m.pg) (fr : N.m.fr = M.m.fr) : Mi N := by
 have e : ∀ p, N.has p ↔ M.has p := fun p => by unfold Mo.has; rw [hQ]
 refine ⟨by rw [hC]; exact K.k, (dt K.p hQ hi hk (by rw [hC]; exact fun _ _ => rfl) (by rw [hC])).p, by unfold Mo.gL; rw [hC, hQ]; exact K.q, by unfold Mo.gL; rw [hC, hQ]; exact hx, fun p => by rw [hC, hh, e]; exact K.lv p, fun p h => by rw [hh] at h; rw [e]; exact K.ho p h, by rw [on, pg, fr, hC]; exact K.on, by rw [on, pg, hC]; exact K.go⟩
theorem Mi.look {M : Mo} (K : Mi M) {p : Nat} (hp : M.has p) : Mi (M.look p) := by
 unfold Mo.look
 split
 ·exact K.bR hp
 exact K
theorem Qp.mv {n : Nat} {Q : List (List Nat)} (K : Qp n Q) {i j k p : Nat} (hi : i < Q.length) (hj : j < Q.length) (hk : (ql Q i)[k]? = some p) : Qp n (rP Q i k j p) ∧ ∀ q, (∃ m, q ∈ ql (rP Q i k j p) m) ↔ ∃ m, q ∈ ql Q m := by
 have hp : p ∈ ql Q i := List.mem_of_getElem? hk
 obtain ⟨R, hR⟩ : ∃ R, R = Q.set i ((ql Q i).eraseIdx k) := ⟨_, rfl⟩
 have lR : R.length = Q.length := by rw [hR, List.length_set]
 have er := Bc (K.nd i) hk
 have qR : ∀ m, ql R m = if m = i then (ql Q i).erase p else ql Q m := fun m => by rw [hR, ee hi, er]
 have noR : ∀ m, p ∉ ql R m := fun m h => by
  rw [qR] at h
  split at h
  ·exact (K.nd i).not_mem_erase h
  next e => exact e (K.one m i p h hp)
 have inR : ∀ m q, q ∈ ql R m ↔ q ∈ ql Q m ∧ q ≠ p := fun m q => by
  rw [qR]
  split
  ·next e => subst e; rw [(K.nd m).mem_erase_iff, and_comm]
  next e => exact ⟨fun h => ⟨h, fun g => e (K.one m i p (g ▸ h) hp)⟩, fun h => h.1⟩
 have ndR : ∀ m, (ql R m).Nodup := fun m => by
  rw [qR]
  split
  ·exact (K.nd i).erase p
  exact K.nd m
 have e : rP Q i k j p = R.set j (p :: ql R j) := by unfold rP; rw [hR]
 have qV : ∀ m, ql (rP Q i k j p) m = if m = j then p :: ql R j else ql R m := fun m => by rw [e, ee (by rw [lR]; exact hj)]
 have xC : ∀ m q, q ∈ ql (rP Q i k j p) m ↔ (q = p ∧ m = j) ∨ (q ∈ ql Q m ∧ q ≠ p) := fun m q => by
  rw [qV]
  split
  ·next g => subst g; rw [List.mem_cons, inR]; exact ⟨fun h => h.imp (fun h => ⟨h, rfl⟩) id, fun h => h.imp (fun h => h.1) id⟩
  next g => rw [inR]; exact ⟨.inr, fun h => h.resolve_left fun h => g h.2⟩
 refine ⟨⟨by rw [e, List.length_set, lR]; exact K.len, fun m => ?_, fun a b q ha hb => ?_⟩, fun q => ⟨?_, ?_⟩⟩
 ·rw [qV]
  split
  ·exact List.nodup_cons.2 ⟨noR j, ndR j⟩
  exact ndR m
 ·rcases (xC a q).1 ha with ⟨h1, h2⟩ | ⟨h1, h2⟩ <;> rcases (xC b q).1 hb with ⟨h3, h4⟩ | ⟨h3, h4⟩
  ·rw [h2, h4]
  ·exact absurd h1 h4
  ·exact absurd h3 h2
  exact K.one a b q h1 h3
 ·rintro ⟨m, h⟩
  rcases (xC m q).1 h with ⟨h1, _⟩ | ⟨h1, _⟩
  ·exact ⟨i, h1 ▸ hp⟩
  exact ⟨m, h1⟩
 rintro ⟨m, h⟩
 by_cases g : q = p
 ·exact ⟨j, (xC j q).2 (.inl ⟨g, rfl⟩)⟩
 exact ⟨m, (xC m q).2 (.inr ⟨h, g⟩)⟩
theorem yB {n c hot warm : Nat} {s t : kh} (hc : c < n) (K : Qp n s.Q) (h : nj c hot warm s = some t) : Qp n t.Q ∧ ∀ q, (∃ m, q ∈ ql t.Q m) ↔ ∃ m, q ∈ ql s.Q m := by
 unfold nj at h
 split at h
 ·cases h
 next k hk =>
 have hk3 : 1 ≤ k ∧ k ≤ 3 := by
  unfold Av at hk
  repeat' split at hk
  all_goals first | cases hk | (simp only [Option.some.injEq] at hk; omega)
  all_goals omega
 split at h
 ·cases h
 next p hp =>
 simp only [Option.some.injEq] at h
 subst h
 have hl := K.len
 refine K.mv (by unfold qi; omega) (by unfold qi; split <;> omega) ?_
 rw [← List.getLast?_eq_getElem?]; exact hp
theorem DV {n c hot warm : Nat} (hc : c < n) : ∀ (k : Nat) {s : kh}, Qp n s.Q → Qp n (iT c hot warm k s).2.Q ∧ ∀ q, (∃ m, q ∈ ql (iT c hot warm k s).2.Q m) ↔ ∃ m, q ∈ ql s.Q m
 | 0, _, K => ⟨K, fun _ => Iff.rfl⟩
 | k + 1, s, K => by
  unfold iT
  split
  ·exact ⟨K, fun _ => Iff.rfl⟩
  next t ht =>
  obtain ⟨K2, e⟩ := yB hc K ht
  obtain ⟨K3, e3⟩ := DV hc k K2
  exact ⟨K3, fun q => (e3 q).trans (e q)⟩
theorem QV (n : I3) (b : Bool) : ({ n with du := mkSet n.du b } : I3).vw = n.vw := by
 unfold I3.vw mkSet
 congr 1
 cases b <;> simp <;> omega
theorem E9 {M : Mo} (P : Pl M) {t : kh} (nd : ∀ i, (ql t.Q i).Nodup) (mem : ∀ q, (∃ m, q ∈ ql t.Q m) ↔ M.has q) : iU M (M.v8 t) := by
 have e : ∀ q, (M.v8 t).vw q = M.vw q := fun q => congrArg (fun x => (x, M.C.cl q)) (QV (M.it q) (t.ac q))
 exact ⟨⟨nd, fun a b ha hb e => P.kd a b ((mem a).1 ha) ((mem b).1 hb) e⟩, rfl, fun a h => ⟨a, (mem a).1 h, e a⟩, fun a h _ => ⟨a, (mem a).2 h, e a⟩, rfl⟩
theorem Mi.ln {M : Mo} (K : Mi M) (i : Nat) : (ql M.Q i).length ≤ 1073741824 :=
 kH _ _ (K.q.nd i) fun p hp => by
  have h := ((K.lv p).2 (.inl ⟨i, hp⟩)).toAt.bh K.k
  have := fB K.k.toFix
  omega
theorem xq {n : Nat} {Q : List (List Nat)} (ln : ∀ i, (ql Q i).length ≤ 1073741824) {x : Cw} {c k : Nat} (hc : c < n) (hk : 1 ≤ k ∧ k ≤ 3) : ct n Q (x.iw Q c k) :=
 ⟨fun _ => ⟨hc, hk⟩, (fun h => by cases h), (fun _ hp => ⟨List.mem_of_getLast? hp, List.length_pos_of_mem (List.mem_of_getLast? hp)⟩), ln _⟩
theorem wF {n : Nat} {Q : List (List Nat)} (ln : ∀ i, (ql Q i).length ≤ 1073741824) : ∀ (f : Nat) {x : Cw}, ct n Q x → x.bg = true → ct n Q (Cw.Hl n Q f x).2
 | 0, _, X, _ => X
 | f + 1, x, X, hb => by
  obtain ⟨g1, g2, g3⟩ := X.go hb
  unfold Cw.Hl
  split
  ·exact X
  split
  ·exact wF ln f (xq ln g1 ⟨by omega, by omega⟩) rfl
  split
  ·next h => exact wF ln f (xq ln h ⟨by omega, by omega⟩) rfl
  exact ⟨(fun h => by cases h), fun _ => ⟨rfl, rfl, rfl, rfl⟩, (fun p h => by cases h), Nat.zero_le _⟩
theorem Qe {n : Nat} {Q : List (List Nat)} (hn : 1 ≤ n) (ln : ∀ i, (ql Q i).length ≤ 1073741824) {x : Cw} (X : ct n Q x) : ct n Q (x.find n Q).2 := by
 unfold Cw.find Cw.start
 cases hb : x.bg with
 | true => simp only [if_true]; exact wF ln _ X hb
 | false =>
  simp only [Bool.false_eq_true, if_false]
  exact wF ln _ (xq ln (by omega) ⟨by omega, by omega⟩) rfl
theorem Mi.cw {M : Mo} (K : Mi M) {x : Cw} (X : ct M.gL M.Q x) : Mi { M with x := x } := K.rf X rfl rfl rfl rfl rfl rfl rfl rfl
theorem Mi.n1 {M : Mo} (K : Mi M) : 1 ≤ M.gL := K.k.l0
theorem Mi.bI : ∀ (f : Nat) {M : Mo}, Mi M → Mi (M.bI f).2
 | 0, _, K => K
 | f + 1, M, K => by
  have X := Qe K.n1 K.ln K.x
  unfold Mo.bI
  split
  ·next x h =>
   rw [h] at X
   split
   ·next p hp =>
    have hm := (X.nx p hp).1
    exact Mi.bI f ((K.cw X.pass).look ⟨_, hm⟩)
   exact K.cw X
  next x h =>
  rw [h] at X
  exact K.cw X
theorem Mi.looks : ∀ (l : List Nat) {M : Mo}, Mi M → l.Nodup → (∀ p ∈ l, M.has p) → Mi (l.foldl Mo.look M)
 | [], _, K, _, _ => K
 | p :: l, M, K, nd, h => by
  obtain ⟨n1, n2⟩ := List.nodup_cons.1 nd
  refine Mi.looks l (K.look (h p List.mem_cons_self)) n2 fun q hq => ?_
  have hM := h q (List.mem_cons_of_mem _ hq)
  unfold Mo.look
  split
  ·exact (iL K.p).2 ⟨hM, fun e => n1 (e ▸ hq)⟩
  exact hM
theorem ON {C : Cs} (K : Ok C) {p : Nat} (L : At C p) : ot (C.hd p) = p := by
 obtain ⟨m1, m2, m3, m4, m5, m6⟩ := bM K L
 unfold ot
 generalize C.hd p = h at *
 omega
theorem Mi.due {M : Mo} (K : Mi M) (now aC : Int) : (M.iu now aC).Nodup ∧ ∀ p ∈ M.iu now aC, M.has p := by
 obtain ⟨L, hL⟩ : ∃ L, L = M.Q.flatten.filter fun p => decide (0 < (M.it p).exp) := ⟨_, rfl⟩
 have hh : ∀ p ∈ L, M.has p := fun p hp => by rw [hL] at hp; exact eD.1 (List.mem_filter.1 hp).1
 have nd : L.Nodup := by rw [hL]; exact (rH K.q.nd fun i j p h g => K.q.one i j p h g).sublist List.filter_sublist
 have eE : iq M.C M M.Q.flatten = L.map fun p => ⟨M.C.hd p, (M.it p).exp, M.ord p⟩ := by rw [hL]; rfl
 have eg : (iq M.C M M.Q.flatten).map (fun e => ot e.h) = L := by
  rw [eE, List.map_map]
  conv => rhs; rw [← List.map_id L]
  refine List.map_congr_left fun p hp => ?_
  have := ON K.k ((K.lv p).2 (.inl (hh p hp))).toAt
  rw [Function.comp_apply, id]
  exact this
 have e : M.iu now aC = ((fg ((iq M.C M M.Q.flatten).filter fun x => decide ((x.ex : Int) ≤ now))).take aC.toNat).map fun e => ot e.h := by
  unfold Mo.iu lV
  rw [List.map_map]; rfl
 have sub : ((iq M.C M M.Q.flatten).filter fun x => decide ((x.ex : Int) ≤ now)).map (fun e => ot e.h) |>.Sublist L := by
  have := (List.filter_sublist (p := fun x : En => decide ((x.ex : Int) ≤ now)) (l := iq M.C M M.Q.flatten)).map (fun e => ot e.h)
  rw [eg] at this; exact this
 have pm := (eU ((iq M.C M M.Q.flatten).filter fun x => decide ((x.ex : Int) ≤ now))).map (fun e => ot e.h)
 have n2 := pm.nodup_iff.2 (nd.sublist sub)
 have tk := (List.take_sublist aC.toNat (fg ((iq M.C M M.Q.flatten).filter fun x => decide ((x.ex : Int) ≤ now)))).map (fun e => ot e.h)
 rw [e]
 exact ⟨n2.sublist tk, fun p hp => hh p (sub.subset (pm.mem_iff.1 (tk.subset hp)))⟩
theorem Mi.dC {M : Mo} (K : Mi M) (now aC : Int) : Mi (M.dC now aC).2 := by
 unfold Mo.dC
 split
 ·exact K
 unfold Mo.nS
 obtain ⟨d1, d2⟩ := K.due now (min aC 1048576)
 exact Mi.bI _ (K.looks _ d1 d2)
structure kO (M N : Mo) : Prop where
 i : Mi N
 s : iU M N
theorem kO.trans {M N O : Mo} (a : kO M N) (b : kO N O) : kO M O := ⟨b.i, a.s.trans b.s⟩
theorem Mi.sg {M : Mo} (K : Mi M) (t : Mt) : kO M (M.aX t) := ⟨K.rf K.x rfl rfl rfl rfl rfl rfl rfl rfl, dt K.p rfl rfl rfl⟩
theorem Mi.Rq {M : Mo} (K : Mi M) (k : Nat) : kO M (M.uJ k) := ⟨K.rf K.x rfl rfl rfl rfl rfl rfl rfl rfl, dt K.p rfl rfl rfl⟩
theorem Mi.yZ {M : Mo} (K : Mi M) (now aC : Int) : kO M (M.dC now aC).2 := ⟨K.dC now aC, B0 K.p now aC⟩
theorem Mi.dM {M : Mo} (K : Mi M) : kO M M.dM := by
 unfold Mo.dM
 exact (K.Rq _).trans ((K.Rq _).i.sg _)
theorem Mi.gN {M : Mo} (K : Mi M) : kO M M.gN := by
 unfold Mo.gN
 exact (K.yZ _ _).trans ((K.yZ _ _).i.sg _)
theorem Mi.take {M N : Mo} (K : Mi M) (hh : M.hole = none) {c r : Nat} (hc : c < M.gL) (h : M.take c = some (r, N)) : kO M N ∧ N.hole = some r ∧ ¬ M.has r ∧ N = { M with C := N.C, hole := some r } ∧ N.C.cl r = c ∧ N.C.ae = M.C.ae ∧ ∀ q, M.has q → N.C.cl q = M.C.cl q := by
 unfold Mo.take at h
 split at h
 ·next p D hD =>
  simp only [Option.some.injEq, Prod.mk.injEq] at h
  obtain ⟨rfl, rfl⟩ := h
  have T := pO K.k hc hD
  have no : ¬ M.has p := fun g => T.no ((K.lv p).2 (.inl g))
  have hq : ∀ q, M.has q → D.cl q = M.C.cl q := fun q g => (T.hd q ((K.lv q).2 (.inl g))).2
  have S : iU M ({ M with C := D, hole := some p } : Mo) := dt K.p rfl rfl rfl hq T.sz
  refine ⟨⟨⟨T.k, S.p, ?_, ?_, fun q => ?_, fun q g => ?_, fun g => ?_, fun i g => ?_⟩, S⟩, rfl, no, rfl, T.cl, T.sz, hq⟩
  ·show Qp D.ae.length M.Q
   rw [T.sz]; exact K.q
  ·show ct D.ae.length M.Q M.x
   rw [T.sz]; exact K.x
  ·refine (T.lv q).trans ?_
   rw [K.lv q, hh]
   show (M.has q ∨ none = some q) ∨ q = p ↔ M.has q ∨ some p = some q
   simp only [reduceCtorEq, or_false, Option.some.injEq]
   exact ⟨fun h => h.imp id Eq.symm, fun h => h.imp id Eq.symm⟩
  ·cases g; exact no
  ·obtain ⟨a, b, d, e⟩ := K.on g
   obtain ⟨p1, p2⟩ := T.pg M.m.pg b
   exact ⟨by show _ < D.n; rw [T.n]; exact a, p1, (T.lf M.m.pg).trans d, p2.trans e⟩
  refine K.go i ?_
  rw [← T.lf i]; exact g
 cases h
theorem Ll {n : Nat} {Q : List (List Nat)} {x : Cw} (X : ct n Q x) (p r : Nat) : ct n (vY Q p r) (x.uL p r) := by
 by_cases g : x.nx = some p
 ·have e : x.uL p r = { x with nx := some r } := by unfold Cw.uL; rw [if_pos g]
  rw [e]
  obtain ⟨h1, h2⟩ := X.nx p g
  refine ⟨X.go, fun h => ?_, fun q hq => ?_, X.lf⟩
  ·rw [(X.no h).1] at g; cases g
  simp only [Option.some.injEq] at hq
  subst hq
  exact ⟨by rw [nL, List.mem_map]; exact ⟨p, h1, by unfold Nl; rw [if_pos rfl]⟩, h2⟩
 have e : x.uL p r = x := by unfold Cw.uL; rw [if_neg g]
 rw [e]
 refine ⟨X.go, X.no, fun q hq => ?_, X.lf⟩
 obtain ⟨h1, h2⟩ := X.nx q hq
 exact ⟨by rw [nL, List.mem_map]; exact ⟨q, h1, by unfold Nl; exact if_neg fun e : q = p => g (e ▸ hq)⟩, h2⟩
theorem Qp.sub {n : Nat} {Q : List (List Nat)} (K : Qp n Q) {p r : Nat} (nd : ∀ i, (ql (vY Q p r) i).Nodup) (hr : ∀ i, r ∉ ql Q i) : Qp n (vY Q p r) := by
 refine ⟨by unfold vY; rw [List.length_map]; exact K.len, nd, fun i j q h g => ?_⟩
 rw [nL, List.mem_map] at h g
 obtain ⟨a, ha, ea⟩ := h
 obtain ⟨b, hb, eb⟩ := g
 unfold Nl at ea eb
 split at ea <;> split at eb
 ·next h1 h2 => subst h1; subst h2; exact K.one i j _ ha hb
 ·exact absurd (by rw [ea, ← eb]; exact hb) (hr j)
 ·exact absurd (by rw [eb, ← ea]; exact ha) (hr i)
 subst ea; subst eb; exact K.one i j _ ha hb
theorem Mi.swap {M : Mo} (K : Mi M) {p r : Nat} (hh : M.hole = some r) (hp : M.has p) (dR : M.C.cl r = M.C.cl p) : kO M (M.swap p r) ∧ (M.swap p r).hole = some p := by
 have hr : ¬ M.has r := K.ho r hh
 have S := EG K.p hp hr dR
 have hs : ∀ q, (M.swap p r).has q ↔ q = r ∨ (M.has q ∧ q ≠ p) := fun q => Dy hp
 refine ⟨⟨⟨K.k, S.p, K.q.sub S.p.nd fun i h => hr ⟨i, h⟩, Ll K.x p r, fun q => ?_, fun q g => ?_, K.on, K.go⟩, S⟩, rfl⟩
 ·refine (K.lv q).trans ?_
  rw [hs q, hh]
  show M.has q ∨ some r = some q ↔ (q = r ∨ M.has q ∧ q ≠ p) ∨ some p = some q
  simp only [Option.some.injEq]
  constructor
  ·rintro (h | h)
   ·by_cases e : q = p
    ·exact .inr e.symm
    exact .inl (.inr ⟨h, e⟩)
   exact .inl (.inl h.symm)
  rintro ((h | h) | h)
  ·exact .inr h.symm
  ·exact .inl h.1
  exact .inl (h ▸ hp)
 cases g
 intro h
 rcases (hs p).1 h with h | h
 ·exact hr (h ▸ hp)
 exact h.2 rfl
theorem Mi.uO {M : Mo} (K : Mi M) {p : Nat} (hh : M.hole = some p) : kO M (M.uO p) ∧ (M.uO p).hole = none := by
 have L := (K.lv p).2 (.inr hh)
 have no := K.ho p hh
 have g := oJ K.k L
 have G := fD K.k L
 have S : iU M (M.uO p) := dt K.p rfl rfl rfl fun q _ => oK M.C p q
 refine ⟨⟨⟨G.1, S.p, ?_, ?_, fun q => ?_, (fun q h => by cases h), fun h => ?_, fun i hi => K.go i ?_⟩, S⟩, rfl⟩
 ·show Qp (M.C.a8 p).ae.length M.Q
  rw [G.2.ae]; exact K.q
 ·show ct (M.C.a8 p).ae.length M.Q M.x
  rw [G.2.ae]; exact K.x
 ·refine (mO K.k L q).trans ?_
  rw [K.lv q, hh]
  show (M.has q ∨ some p = some q) ∧ q ≠ p ↔ M.has q ∨ none = some q
  simp only [Option.some.injEq, reduceCtorEq, or_false]
  exact ⟨fun h => h.1.resolve_right fun e => h.2 e.symm, fun h => ⟨.inl h, fun e => no (e ▸ h)⟩⟩
 ·obtain ⟨a, b, c, d⟩ := K.on h
  obtain ⟨e1, e2, e3⟩ := g M.m.pg
  exact ⟨by show _ < (M.C.a8 p).n; rw [G.2.n]; exact a, e1.trans b, e2.trans c, e3.trans d⟩
 rw [← (g i).2.1]; exact hi
theorem Mi.shift {M N : Mo} (K : Mi M) (hh : M.hole = none) {p : Nat} (hp : M.has p) (h : M.shift p = some N) : kO M N ∧ N.hole = none := by
 have hc : M.C.cl p < M.gL := (((K.lv p).2 (.inl hp)).toAt.bh K.k).1
 unfold Mo.shift at h
 split at h
 ·next r O hO =>
  simp only [Option.some.injEq] at h
  subst h
  obtain ⟨A, h1, h2, h3, h6, _, h7⟩ := K.take hh hc hO
  have gm : O.has p := by rw [h3]; exact hp
  obtain ⟨B, h4⟩ := A.i.swap h1 gm (h6.trans (h7 p hp).symm)
  obtain ⟨D, h5⟩ := B.i.uO h4
  exact ⟨(A.trans B).trans D, h5⟩
 cases h
theorem Mi.xk {M : Mo} (K : Mi M) {p : Nat} (hp : M.has p) (hd : M.bz p ≠ 0) : kO M (M.bR p) := ⟨K.bR hp, vS K.p hd⟩
theorem Mi.mstop {M : Mo} (K : Mi M) (nz : M.m.on = true) : kO M M.mstop ∧ M.mstop.hole = M.hole := by
 obtain ⟨a, b, c, d⟩ := K.on nz
 obtain ⟨K2, S⟩ := sS K.k a b c
 have im := wT K.k a
 have sm := rA S fun j => by
  rw [im]
  by_cases e : j = M.m.pg
  ·exact ⟨false, by rw [if_pos e, e]⟩
  exact ⟨(M.C.pg j).lv, by rw [if_neg e]⟩
 have sa : iU M M.mstop := dt K.p rfl rfl rfl fun q _ => S.cl q
 refine ⟨⟨⟨K2, sa.p, ?_, ?_, fun q => (sm q).1.trans (K.lv q), K.ho, (fun e => by cases e), fun i e => ?_⟩, sa⟩, rfl⟩
 ·show Qp (M.C.jD M.m.pg).ae.length M.Q
  rw [S.ae]; exact K.q
 ·show ct (M.C.jD M.m.pg).ae.length M.Q M.x
  rw [S.ae]; exact K.x
 change ((M.C.jD M.m.pg).pg i).lv = true at e
 rw [im] at e
 by_cases g : i = M.m.pg
 ·rw [if_pos g] at e; cases e
 rw [if_neg g] at e; exact absurd (K.go i e).2 g
theorem Mi.release {M : Mo} (K : Mi M) (nz : M.m.on = true) (h : (M.C.pg M.m.pg).tk.findIdx? id = none) : kO M { M with C := M.C.dV M.m.pg, m := M.m.off } := by
 obtain ⟨a, b, c, d⟩ := K.on nz
 obtain ⟨h0, nC⟩ := Zn K.k a h
 have K2 := zy K.k a b c h0
 have im := BF K.k a
 have HL : ∀ q, Live M.C q → M.C.pn q ≠ M.m.pg := fun q L e => nC _ (e ▸ L.tk)
 have same : ∀ q, M.C.pn q ≠ M.m.pg → (M.C.dV M.m.pg).pg ((M.C.dV M.m.pg).pn q) = M.C.pg (M.C.pn q) := fun q e => by
  rw [show (M.C.dV M.m.pg).pn q = M.C.pn q from rfl, im, if_neg e]
 have Nk : ∀ q, M.C.pn q ≠ M.m.pg → (M.C.dV M.m.pg).cl q = M.C.cl q := fun q e => by unfold Cs.cl; rw [same q e]
 have MQ : ∀ q, M.C.pn q ≠ M.m.pg → (M.C.dV M.m.pg).ix q = M.C.ix q := fun q e => by unfold Cs.ix; rw [Nk q e]; rfl
 have wl : ∀ q, Live (M.C.dV M.m.pg) q ↔ Live M.C q := fun q => by
  constructor
  ·intro L
   have e : M.C.pn q ≠ M.m.pg := fun e => by
    have t := L.own
    rw [show (M.C.dV M.m.pg).pn q = M.C.pn q from rfl, im, if_pos e] at t
    cases t
   refine ⟨⟨L.i, by have := L.own; rw [same q e] at this; exact this, by have := L.al; rw [Nk q e] at this; exact this, by have := L.k; rw [same q e, MQ q e] at this; exact this⟩, by have := L.tk; rw [same q e, MQ q e] at this; exact this⟩
  intro L
  have e := HL q L
  exact ⟨⟨L.i, by rw [same q e]; exact L.own, by rw [Nk q e]; exact L.al, by rw [same q e, MQ q e]; exact L.k⟩, by rw [same q e, MQ q e]; exact L.tk⟩
 have sa : iU M { M with C := M.C.dV M.m.pg, m := M.m.off } := dt K.p rfl rfl rfl fun q h => Nk q (HL q ((K.lv q).2 (.inl h)))
 refine ⟨⟨K2, sa.p, K.q, K.x, fun q => (wl q).trans (K.lv q), K.ho, (fun e => by cases e), fun i e => ?_⟩, sa⟩
 change ((M.C.dV M.m.pg).pg i).lv = true at e
 rw [im] at e
 by_cases g : i = M.m.pg
 ·rw [if_pos g] at e; cases e
 rw [if_neg g] at e; exact absurd (K.go i e).2 g
theorem Mi.leave {M : Mo} (K : Mi M) (nz : M.m.on = false) {i f t : Nat} (hi : i < M.C.n) (ho : (M.C.pg i).own = true) (hf : (M.C.pg i).cl = f) : kO M { M with C := M.C.kT i, m := { M.m with pg := i, fr := f, tt := t, on := true } } := by
 have jY : (M.C.pg i).lv = false := by
  rcases h : (M.C.pg i).lv with _ | _
  ·rfl
  have := (K.go i h).1
  rw [nz] at this; cases this
 obtain ⟨K2, S⟩ := Fc K.k hi ho jY
 have im := Lz K.k hi
 have sm := rA S fun j => by
  rw [im]
  by_cases e : j = i
  ·exact ⟨true, by rw [if_pos e, e]⟩
  exact ⟨(M.C.pg j).lv, by rw [if_neg e]⟩
 have sa : iU M { M with C := M.C.kT i, m := { M.m with pg := i, fr := f, tt := t, on := true } } := dt K.p rfl rfl rfl fun q _ => S.cl q
 refine ⟨⟨K2, sa.p, ?_, ?_, fun q => (sm q).1.trans (K.lv q), K.ho, fun _ => ?_, fun j e => ?_⟩, sa⟩
 ·show Qp (M.C.kT i).ae.length M.Q
  rw [S.ae]; exact K.q
 ·show ct (M.C.kT i).ae.length M.Q M.x
  rw [S.ae]; exact K.x
 ·refine ⟨hi, ?_, ?_, ?_⟩ <;> (show _ = _) <;> dsimp only <;> rw [im, if_pos rfl]
  ·exact ho
  exact hf
 change ((M.C.kT i).pg j).lv = true at e
 rw [im] at e
 by_cases g : j = i
 ·exact ⟨rfl, g⟩
 rw [if_neg g] at e
 have := (K.go j e).1
 rw [nz] at this; cases this
theorem Mi.TB {M : Mo} (K : Mi M) (hh : M.hole = none) {i k : Nat} (hi : i < M.C.n) (ho : (M.C.pg i).own = true) (hk : (M.C.pg i).tk.findIdx? id = some k) : M.has (M.C.ux i k) := by
 have P : kS M.C (M.C.pg i) := K.k.pg _ (fM (by rw [K.k.pl]; exact hi))
 rw [List.findIdx?_eq_some_iff_getElem] at hk
 obtain ⟨h1, h2, _⟩ := hk
 obtain ⟨e1, e2, a⟩ := KT K.k hi ho (k := k) (by rw [← P.tl]; exact h1)
 have L : Live M.C (M.C.ux i k) := ⟨a, by rw [e1, e2, List.getElem?_eq_getElem h1]; exact congrArg some h2⟩
 exact ((K.lv _).1 L).resolve_right (by rw [hh]; simp)
theorem Mi.fh {M : Mo} (K : Mi M) (hh : M.hole = none) (nz : M.m.on = true) : kO M M.fh.2 ∧ M.fh.2.hole = none := by
 unfold Mo.fh
 split
 ·next h => exact ⟨K.release nz h, hh⟩
 next k hk =>
 obtain ⟨a, b, c, d⟩ := K.on nz
 have hp := K.TB hh a b hk
 split
 ·next hd => exact ⟨K.xk hp hd, hh⟩
 split
 ·next N hN => exact K.shift hh hp hN
 obtain ⟨g1, g2⟩ := K.mstop nz
 exact ⟨g1, g2.trans hh⟩
theorem Lm {M : Mo} (h : M.fh.1 = true) : M.fh.2.m.on = M.m.on := by
 unfold Mo.fh at h ⊢
 split at h
 ·cases h
 next k hk =>
 split
 ·rfl
 next hd =>
 rw [if_neg hd] at h
 split at h
 ·next N hN =>
  unfold Mo.shift Mo.take at hN
  split at hN
  ·next r O hO =>
   simp only [Option.some.injEq] at hN
   subst hN
   split at hO
   ·simp only [Option.some.injEq, Prod.mk.injEq] at hO
    obtain ⟨rfl, rfl⟩ := hO
    rfl
   cases hO
  cases hN
 cases h
theorem Mi.dG : ∀ (f : Nat) {M : Mo}, Mi M → M.hole = none → M.m.on = true → kO M (M.dG f).2 ∧ (M.dG f).2.hole = none
 | 0, _, K, hh, _ => ⟨⟨K, .refl K.p⟩, hh⟩
 | f + 1, M, K, hh, nz => by
  obtain ⟨g1, g2⟩ := K.fh hh nz
  unfold Mo.dG
  split
  ·next h =>
   obtain ⟨g3, g4⟩ := Mi.dG f g1.i g2 (by rw [Lm h]; exact nz)
   exact ⟨g1.trans g3, g4⟩
  exact ⟨g1, g2⟩
theorem Mi.fV {M : Mo} (K : Mi M) (hh : M.hole = none) (aC : Int) : kO M (M.fV aC).2 ∧ (M.fV aC).2.hole = none := by
 have T : kO M M.ff := ⟨K.rf K.x rfl rfl rfl rfl rfl rfl rfl rfl, dt K.p rfl rfl rfl⟩
 unfold Mo.fV
 split
 ·exact ⟨⟨K, .refl K.p⟩, hh⟩
 split
 ·next nz =>
  obtain ⟨g1, g2⟩ := T.i.dG _ hh nz
  exact ⟨T.trans g1, g2⟩
 next nz =>
 have B : kO M.ff M.ff.fq ∧ M.ff.fq.hole = none := by
  unfold Mo.fq
  split
  ·exact ⟨⟨T.i, .refl T.i.p⟩, hh⟩
  split
  ·exact ⟨⟨T.i, .refl T.i.p⟩, hh⟩
  split
  ·exact ⟨⟨T.i, .refl T.i.p⟩, hh⟩
  next o ho =>
  obtain ⟨b1, b2, b3, _⟩ := qm ho
  exact ⟨T.i.leave (show M.m.on = false by simpa using nz) b1 b2 b3, hh⟩
 exact ⟨T.trans B.1, B.2⟩
theorem Mi.beside {M : Mo} (K : Mi M) (hh : M.hole = none) : kO M M.beside ∧ M.beside.hole = none := by
 have g1 := K.dM
 have h1 : M.dM.hole = none := hh
 have g2 := g1.i.gN
 have h2 : M.dM.gN.hole = none := by
  obtain ⟨a1, _⟩ := o0 M.dM M.dM.k.now M.dM.v.p.c
  exact a1.trans h1
 obtain ⟨g3, h3⟩ := g2.i.fV h2 M.dM.gN.v.p.m
 unfold Mo.beside Mo.iI
 exact ⟨((g1.trans g2).trans g3).trans (g3.i.sg _), h3⟩
theorem ZX {n : Nat} {Q : List (List Nat)} (K : Qp n Q) {x : Cw} (X : ct n Q x) {i j k p : Nat} (hi : i < Q.length) (hj : j < Q.length) (hk : (ql Q i)[k]? = some p) : ct n (rP Q i k j p) (x.left Q p) := by
 have L := xe X K.nd hi hk
 refine ⟨L.go, L.no, fun q hq => ⟨?_, (L.nx q hq).2⟩, L.lf⟩
 have h := (L.nx q hq).1
 unfold rP
 rw [ee (by rw [List.length_set]; exact hj)]
 split
 ·next e => rw [← e]; exact List.mem_cons_of_mem _ h
 exact h
theorem Kx {n c hot warm : Nat} {s t : kh} (hc : c < n) (K : Qp n s.Q) (X : ct n s.Q s.x) (h : nj c hot warm s = some t) : ct n t.Q t.x := by
 unfold nj at h
 split at h
 ·cases h
 next k hk =>
 have hk3 : 1 ≤ k ∧ k ≤ 3 := by
  unfold Av at hk
  repeat' split at hk
  all_goals first | cases hk | (simp only [Option.some.injEq] at hk; omega)
  all_goals omega
 split at h
 ·cases h
 next p hp =>
 simp only [Option.some.injEq] at h
 subst h
 have hl := K.len
 refine ZX K X (by unfold qi; omega) (by unfold qi; split <;> omega) ?_
 rw [← List.getLast?_eq_getElem?]; exact hp
theorem DW {n c hot warm : Nat} (hc : c < n) : ∀ (k : Nat) {s : kh}, Qp n s.Q → ct n s.Q s.x → ct n (iT c hot warm k s).2.Q (iT c hot warm k s).2.x
 | 0, _, _, X => X
 | k + 1, s, K, X => by
  unfold iT
  split
  ·exact X
  next t ht => exact DW hc k (yB hc K ht).1 (Kx hc K X ht)
theorem Mi.bal {M : Mo} (K : Mi M) (hot warm : Nat) (k : List UInt8) : kO M (M.lN hot warm k) := by
 unfold Mo.lN
 split
 ·exact ⟨K, .refl K.p⟩
 next p hp =>
 have hc : M.C.cl p < M.gL := (((K.lv p).2 (.inl ((hZ K.p).1 hp).1)).toAt.bh K.k).1
 obtain ⟨q1, q2⟩ := DV (hot := hot) (warm := warm) hc M.v.p.l.toNat (s := M.R6) K.q
 have x1 := DW (hot := hot) (warm := warm) hc M.v.p.l.toNat (s := M.R6) K.q K.x
 have S := E9 K.p q1.nd q2
 have G : kO M (M.v8 (iT (M.C.cl p) hot warm M.v.p.l.toNat M.R6).2) := ⟨⟨K.k, S.p, q1, x1, fun r => (K.lv r).trans (or_congr (q2 r).symm Iff.rfl), fun r h g => K.ho r h ((q2 r).1 g), K.on, K.go⟩, S⟩
 exact G.trans (G.i.sg _)
theorem Mi.behind {M : Mo} (K : Mi M) (hh : M.hole = none) (hot warm : Nat) (k : List UInt8) : kO M (M.behind hot warm k) ∧ (M.behind hot warm k).hole = none := by
 have g := K.bal hot warm k
 obtain ⟨g2, h2⟩ := g.i.beside ((DX hot warm M k).1.trans hh)
 exact ⟨g.trans g2, h2⟩
theorem Mi.s8 {M : Mo} (K : Mi M) (w : Nat) : kO M (M.eJ w) := ⟨K.rf K.x rfl rfl rfl rfl rfl rfl rfl rfl, dt K.p rfl rfl rfl⟩
theorem Mi.LK {M : Mo} (K : Mi M) : kO M M.reset := ⟨K.rf K.x rfl rfl rfl rfl rfl rfl rfl rfl, dt K.p rfl rfl rfl⟩
theorem Mi.meet {M : Mo} (K : Mi M) (k : List UInt8) : kO M (M.meet k).2 ∧ (M.meet k).1 = M.live k ∧ (M.meet k).2.hole = M.hole := by
 unfold Mo.meet Mo.live
 cases hf : M.find k with
 | none => exact ⟨K.s8 1, rfl, rfl⟩
 | some p =>
  have hp := ((hZ K.p).1 hf).1
  dsimp only
  by_cases hw : M.bz p = 0
  ·rw [if_neg (by simpa using hw), if_pos hw]
   exact ⟨K.s8 0, rfl, rfl⟩
  rw [if_pos hw, if_neg hw]
  have g := K.s8 (M.bz p)
  exact ⟨g.trans (g.i.xk hp hw), rfl, rfl⟩
structure xS (M N : Mo) (y : List UInt8) (o : Option (I3 × Nat)) : Prop where
 i : Mi N
 k : N.k = M.k
 s : ∀ z, N.jO z = if z = y then o else M.jO z
 d : ∀ q, N.has q → (N.it q).key = y ∨ ∃ p, M.has p ∧ (M.it p).key = (N.it q).key
 z : N.C.ae = M.C.ae
theorem kO.dK {M N O : Mo} {y : List UInt8} {o : Option (I3 × Nat)} (a : kO M N) (P : Pl M) (b : xS N O y o) : xS M O y o :=
 ⟨b.i, b.k.trans a.s.k, fun z => (b.s z).trans (by rw [a.s.s P]), fun q h => (b.d q h).imp id fun ⟨p, h1, e⟩ => by
  obtain ⟨r, h2, e2⟩ := a.s.d p h1
  exact ⟨r, h2, (l8 e2).symm.trans e⟩, b.z.trans a.s.z⟩
theorem xS.go {M N O : Mo} {y : List UInt8} {o : Option (I3 × Nat)} (a : xS M N y o) (b : kO N O) : xS M O y o :=
 ⟨b.i, b.s.k.trans a.k, fun z => (b.s.s a.i.p z).trans (a.s z), fun q h => by
  obtain ⟨r, h2, e2⟩ := b.s.d q h
  rw [l8 e2]
  exact a.d r h2, b.s.z.trans a.z⟩
theorem xS.dK {M N O : Mo} {y : List UInt8} {o o2 : Option (I3 × Nat)} (a : xS M N y o) (b : xS N O y o2) : xS M O y o2 :=
 ⟨b.i, b.k.trans a.k, fun z => by
  rw [b.s, a.s]
  by_cases h : z = y <;> simp [h], fun q h => (b.d q h).elim .inl fun ⟨p, h1, e⟩ => by rw [← e]; exact a.d p h1, b.z.trans a.z⟩
theorem oF {M : Mo} (P : Pl M) {p : Nat} (h : M.has p) : M.jO (M.it p).key = if M.bz p = 0 then some (M.vw p) else none := by
 unfold Mo.jO Mo.live
 rw [(hZ P).2 ⟨h, rfl⟩]
 dsimp only
 split <;> rfl
theorem VS {M : Mo} {y : List UInt8} (h : ∀ q, M.has q → (M.it q).key ≠ y) : M.find y = none := by
 unfold Mo.find
 rw [List.find?_eq_none]
 intro q hq
 simpa using h q (eD.1 hq)
theorem IM {M : Mo} (P : Pl M) {y : List UInt8} (h : M.find y = none) : ∀ q, M.has q → (M.it q).key ≠ y := fun q hq e => by
 rw [(hZ P).2 ⟨hq, e⟩] at h; cases h
theorem wV {M : Mo} {y : List UInt8} (h : ∀ q, M.has q → (M.it q).key ≠ y) : M.jO y = none := by
 unfold Mo.jO Mo.live
 rw [VS h]; rfl
theorem AF {M N : Mo} (P : Pl M) (K : Mi N) (hk : N.k = M.k) (hz : N.C.ae = M.C.ae) {y : List UInt8} {o : Option (I3 × Nat)} (h1 : ∀ q, N.has q → (N.it q).key ≠ y → ∃ p, M.has p ∧ N.vw q = M.vw p)
  (h2 : ∀ p, M.has p → M.bz p = 0 → (M.it p).key ≠ y → ∃ q, N.has q ∧ N.vw q = M.vw p) (h3 : N.jO y = o) : xS M N y o := by
 refine ⟨K, hk, fun z => ?_, fun q h => ?_, hz⟩
 ·by_cases e : z = y
  ·rw [if_pos e, e]; exact h3
  rw [if_neg e]
  refine Option.ext fun i => ?_
  rw [ml K.p, ml P]
  constructor
  ·rintro ⟨q, a, b, c, d⟩
   obtain ⟨p, f, g⟩ := h1 q a (by rw [b]; exact e)
   exact ⟨p, f, (l8 g).symm.trans b, (sx hk g).symm.trans c, g.symm.trans d⟩
  rintro ⟨p, a, b, c, d⟩
  obtain ⟨q, f, g⟩ := h2 p a c (by rw [b]; exact e)
  exact ⟨q, f, (l8 g).trans b, (sx hk g).trans c, g.trans d⟩
 by_cases e : (N.it q).key = y
 ·exact .inl e
 obtain ⟨p, f, g⟩ := h1 q h e
 exact .inr ⟨p, f, (l8 g).symm⟩
theorem Mi.put_ {M N : Mo} (K : Mi M) (hC : N.C = M.C) (hQ : N.Q = M.Q) (hx : N.x = M.x) (hh : N.hole = M.hole) (hm : N.m = M.m) (hk : ∀ q, (N.it q).key = (M.it q).key) : Mi N := by
 have e : ∀ p, N.has p ↔ M.has p := fun p => by unfold Mo.has; rw [hQ]
 exact ⟨by rw [hC]; exact K.k, ⟨fun i => by rw [hQ]; exact K.p.nd i, fun a b ha hb g => K.p.kd a b ((e a).1 ha) ((e b).1 hb) (by rw [← hk a, ← hk b]; exact g)⟩, by unfold Mo.gL; rw [hC, hQ]; exact K.q, by unfold Mo.gL; rw [hC, hQ, hx]; exact K.x, fun p => by rw [hC, hh, e]; exact K.lv p, fun p h => by rw [hh] at h; rw [e]; exact K.ho p h, by rw [hm, hC]; exact K.on, by rw [hC, hm]; exact K.go⟩
theorem Mi.Oe {M N : Mo} (K : Mi M) (hC : N.C = M.C) (hQ : N.Q = M.Q) (hx : N.x = M.x) (hh : N.hole = M.hole) (hm : N.m = M.m) (hk : N.k = M.k) {p : Nat} (hp : M.has p) (ho : ∀ q, q ≠ p → N.it q = M.it q) (hy : (N.it p).key = (M.it p).key) :
  xS M N (M.it p).key (if N.bz p = 0 then some (N.vw p) else none) := by
 have kq : ∀ q, (N.it q).key = (M.it q).key := fun q => by
  by_cases e : q = p
  ·rw [e]; exact hy
  rw [ho q e]
 have KN := K.put_ hC hQ hx hh hm kq
 have e : ∀ q, N.has q ↔ M.has q := fun q => by unfold Mo.has; rw [hQ]
 have v : ∀ q, q ≠ p → N.vw q = M.vw q := fun q h => by unfold Mo.vw; rw [ho q h, hC]
 refine AF K.p KN hk (by rw [hC]) (fun q h g => ⟨q, (e q).1 h, v q fun a => g (by rw [a]; exact hy)⟩) (fun q h _ g => ⟨q, (e q).2 h, v q fun a => g (by rw [a])⟩) ?_
 rw [← kq p]; exact oF KN.p ((e p).2 hp)
theorem Mi.oO {M : Mo} (K : Mi M) {p : Nat} (hp : M.has p) : xS M (M.bR p) (M.it p).key none := by
 have e : ∀ q, (M.bR p).vw q = M.vw q := fun q => congrArg (Prod.mk _) (oK M.C p q)
 have hs : ∀ q, (M.bR p).has q ↔ M.has q ∧ q ≠ p := fun q => iL K.p
 refine AF K.p (K.bR hp) rfl rfl (fun q h _ => ⟨q, ((hs q).1 h).1, e q⟩) (fun q h _ g => ⟨q, (hs q).2 ⟨h, fun a => g (by rw [a])⟩, e q⟩) (wV fun q h g => ?_)
 obtain ⟨h1, h2⟩ := (hs q).1 h
 exact h2 (K.p.kd q p h1 hp g)
theorem Mi.gj {M : Mo} (K : Mi M) {r : Nat} (hr : M.hole = some r) (n : I3) (hn : ∀ q, M.has q → (M.it q).key ≠ n.key) : xS M (M.gj r n) n.key (if oq M.k n = 0 then some (n.vw, M.C.cl r) else none) := by
 have L := (K.lv r).2 (.inr hr)
 have no : ∀ i, r ∉ ql M.Q i := fun i h => K.ho r hr ⟨i, h⟩
 have hi : qi (M.C.cl r) 1 < M.Q.length := by
  have h1 := (L.toAt.bh K.k).1
  have h2 := K.q.len
  unfold Mo.gL at h2
  unfold qi; omega
 have pm : ∀ q j, q ∈ ql (M.gj r n).Q j ↔ (j = qi (M.C.cl r) 1 ∧ q = r) ∨ q ∈ ql M.Q j := fun q j => gD hi
 have hs : ∀ q, (M.gj r n).has q ↔ q = r ∨ M.has q := fun q => by
  constructor
  ·rintro ⟨j, h⟩
   exact ((pm q j).1 h).imp (fun h => h.2) fun h => ⟨j, h⟩
  rintro (h | ⟨j, h⟩)
  ·exact ⟨_, (pm q _).2 (.inl ⟨rfl, h⟩)⟩
  exact ⟨j, (pm q j).2 (.inr h)⟩
 have nr : ∀ q, M.has q → q ≠ r := fun q ⟨i, h⟩ e => no i (e ▸ h)
 have ir : (M.gj r n).it r = { n with du := mkSet n.du false } := if_pos rfl
 have io : ∀ q, q ≠ r → (M.gj r n).it q = M.it q := fun q h => if_neg h
 have vo : ∀ q, q ≠ r → (M.gj r n).vw q = M.vw q := fun q h => by unfold Mo.vw; rw [io q h]; rfl
 have qe : ∀ j, ql (M.gj r n).Q j = if j = qi (M.C.cl r) 1 then r :: ql M.Q (qi (M.C.cl r) 1) else ql M.Q j := fun j => ee hi _ j
 have nd : ∀ j, (ql (M.gj r n).Q j).Nodup := fun j => by
  rw [qe]
  split
  ·exact List.nodup_cons.2 ⟨no _, K.p.nd _⟩
  exact K.p.nd j
 have P : Pl (M.gj r n) := by
  refine ⟨nd, fun a b ha hb e => ?_⟩
  rcases (hs a).1 ha with rfl | a1 <;> rcases (hs b).1 hb with rfl | b1
  ·rfl
  ·rw [ir, io b (nr b b1)] at e
   exact absurd e.symm (hn b b1)
  ·rw [ir, io a (nr a a1)] at e
   exact absurd e (hn a a1)
  rw [io a (nr a a1), io b (nr b b1)] at e
  exact K.p.kd a b a1 b1 e
 have KN : Mi (M.gj r n) := by
  refine ⟨K.k, P, ⟨?_, nd, fun i j q h g => ?_⟩, ⟨K.x.go, K.x.no, fun q hq => ⟨(pm q _).2 (.inr (K.x.nx q hq).1), (K.x.nx q hq).2⟩, K.x.lf⟩, fun q => ?_, (fun q h => by cases h), K.on, K.go⟩
  ·exact List.length_set.trans K.q.len
  ·rcases (pm q i).1 h with ⟨h1, h2⟩ | h1 <;> rcases (pm q j).1 g with ⟨g1, g2⟩ | g1
   ·rw [h1, g1]
   ·exact absurd (h2 ▸ g1) (no j)
   ·exact absurd (g2 ▸ h1) (no i)
   exact K.q.one i j q h1 g1
  refine (K.lv q).trans ?_
  rw [hr, hs q]
  show M.has q ∨ some r = some q ↔ (q = r ∨ M.has q) ∨ none = some q
  simp only [Option.some.injEq, reduceCtorEq, or_false]
  exact ⟨fun h => h.elim .inr fun h => .inl h.symm, fun h => h.elim (fun h => .inr h.symm) .inl⟩
 refine AF K.p KN rfl rfl (fun q h g => ?_) (fun q h _ _ => ⟨q, (hs q).2 (.inr h), vo q (nr q h)⟩) ?_
 ·rcases (hs q).1 h with rfl | h
  ·rw [ir] at g; exact absurd rfl g
  exact ⟨q, h, vo q (nr q h)⟩
 have h := oF P ((hs r).2 (.inl rfl))
 rw [yv, ir] at h
 refine h.trans ?_
 have e : (M.gj r n).vw r = (n.vw, M.C.cl r) := by
  unfold Mo.vw
  rw [ir, QV]; rfl
 rw [e]; rfl
theorem Mi.kR {M : Mo} (K : Mi M) {r : Nat} (hr : M.hole = some r) {p : Nat} (hp : M.has p) (n : I3) (hn : (M.it p).key = n.key) : xS M (M.kR p r n) n.key (if oq M.k n = 0 then some (n.vw, M.C.cl r) else none) := by
 have A := K.oO hp
 rw [hn] at A
 have U := A.i.gj (r := r) hr n fun q h g => by
  obtain ⟨h1, h2⟩ := (iL K.p).1 h
  exact h2 (K.p.kd q p h1 hp (g.trans hn.symm))
 have hQ : (M.kR p r n).Q = ((M.bR p).gj r n).Q := by
  show iE (fw M.Q p) (qi (M.C.cl r) 1) r = iE (fw M.Q p) (qi ((M.C.a8 p).cl r) 1) r
  rw [oK]
 have G : kO ((M.bR p).gj r n) (M.kR p r n) := ⟨U.i.rf U.i.x rfl hQ rfl rfl rfl rfl rfl rfl, dt U.i.p hQ rfl rfl⟩
 have V := A.dK (U.go G)
 rw [show (M.bR p).C.cl r = M.C.cl r from oK M.C p r, show (M.bR p).k = M.k from rfl] at V
 exact V
theorem Mi.P4 {M : Mo} (K : Mi M) (i : Nat) : kO M (M.mW i) := ⟨K.rf K.x rfl rfl rfl rfl rfl rfl rfl rfl, dt K.p rfl rfl rfl⟩
theorem Mi.eX {M : Mo} (K : Mi M) {r : Nat} (hr : M.hole = some r) (old : Option Nat) (n : I3) (h0 : old = none → ∀ q, M.has q → (M.it q).key ≠ n.key) (h1 : ∀ p, old = some p → M.has p ∧ (M.it p).key = n.key) :
  xS M (M.eX r old n) n.key (if oq M.k n = 0 then some (n.vw, M.C.cl r) else none) ∧ (M.eX r old n).hole = none ∧ (M.eX r old n).v.bm = M.v.bm + 1 := by
 have g := K.P4 (M.v.bm + 1)
 cases old with
 | none => exact ⟨g.dK K.p (g.i.gj hr n (h0 rfl)), rfl, rfl⟩
 | some p => exact ⟨g.dK K.p (g.i.kR hr (h1 p rfl).1 n (h1 p rfl).2), rfl, rfl⟩
theorem Mi.room {M : Mo} (K : Mi M) (hh : M.hole = none) {j : Nat} (A : gq M (j + 1)) {n c : Nat} (hc : M.C.ae.findIdx? (fun z => decide (n ≤ z)) = some c) (own : Option Nat) :
  ∃ r N, M.room n own = (some r, N) ∧ kO M N ∧ N.hole = some r ∧ ¬ M.has r ∧ N = { M with C := N.C, hole := some r } ∧ N.C.cl r = c ∧ gq N j ∧ M.take c = some (r, N) := by
 have cJ : c < M.gL := (List.findIdx?_eq_some_iff_getElem.1 hc).1
 obtain ⟨p, D, hD, hs⟩ := qC K.k cJ (by have := A.sp; omega)
 have ht : M.take c = some (p, { M with C := D, hole := some p }) := by unfold Mo.take; rw [hD]
 obtain ⟨G, h1, h2, h3, h4, _, _⟩ := K.take hh cJ ht
 refine ⟨p, _, ?_, G, h1, h2, h3, h4, ⟨A.on, ?_⟩, ht⟩
 ·unfold Mo.room
  rw [hc]
  dsimp only
  unfold Mo.r8
  rw [ht]
 have := A.sp
 show j ≤ D.spare
 omega
structure bD where
 f : List UInt8 → Option (I3 × Nat)
 k : Ck
 i : Nat
 c : lA
 z : List Nat
def Mo.ps (M : Mo) : bD := ⟨M.jO, M.k, M.v.bm, M.v.c, M.C.ae⟩
def bD.set (P : bD) (y : List UInt8) (o : Option (I3 × Nat)) : bD := { P with f := fun z => if z = y then o else P.f z }
def bD.num (P : bD) (i : Nat) : bD := { P with i := i }
def bD.put (P : bD) (x : I3) (c : Nat) : bD := P.set x.key (if oq P.k x = 0 then some (x, c) else none)
structure aW (T : List UInt8 → Prop) (N : Mo) (P : bD) : Prop where
 i : Mi N
 h : N.hole = none
 p : N.ps = P
 t : ∀ q, N.has q → T (N.it q).key
theorem lF {M N : Mo} (P : Pl M) (G : kO M N) (e : N.v.bm = M.v.bm) (e2 : N.v.c = M.v.c) : N.ps = M.ps := by
 unfold Mo.ps
 rw [e, e2, G.s.z, G.s.k, show N.jO = M.jO from funext (G.s.s P)]
theorem AE {M N : Mo} {y : List UInt8} {o : Option (I3 × Nat)} (U : xS M N y o) (e2 : N.v.c = M.v.c) : N.ps = (M.ps.set y o).num N.v.bm := by
 unfold Mo.ps bD.set bD.num
 rw [U.k, e2, U.z, show N.jO = _ from funext U.s]
theorem aW.go {M N : Mo} {P : bD} {T : List UInt8 → Prop} (S : aW T M P) (G : kO M N) (h : N.hole = none) (e : N.v.bm = M.v.bm) (e2 : N.v.c = M.v.c) : aW T N P := ⟨G.i, h, (lF S.i.p G e e2).trans S.p, fun q hq => by
  obtain ⟨r, h2, e2⟩ := G.s.d q hq
  rw [l8 e2]
  exact S.t r h2⟩
theorem aW.dK {M N : Mo} {P : bD} {T : List UInt8 → Prop} (S : aW T M P) {y : List UInt8} {o : Option (I3 × Nat)} (U : xS M N y o) (hy : T y) (h : N.hole = none) {i : Nat} (e : N.v.bm = i) (e2 : N.v.c = M.v.c) : aW T N ((P.set y o).num i) := ⟨U.i, h, by rw [AE U e2, S.p, e], fun q hq => by
  rcases U.d q hq with g | ⟨r, h2, e2⟩
  ·rw [g]; exact hy
  rw [← e2]; exact S.t r h2⟩
theorem aW.bm {M : Mo} {P : bD} {T : List UInt8 → Prop} (S : aW T M P) : P.i = M.v.bm := by rw [← S.p]; rfl
theorem aW.mU {M : Mo} {P : bD} {T : List UInt8 → Prop} (S : aW T M P) : P.k = M.k := by rw [← S.p]; rfl
theorem aW.f {M : Mo} {P : bD} {T : List UInt8 → Prop} (S : aW T M P) : P.f = M.jO := by rw [← S.p]; rfl
theorem aW.cfg {M : Mo} {P : bD} {T : List UInt8 → Prop} (S : aW T M P) : P.c = M.v.c := by rw [← S.p]; rfl
theorem aW.mY {M : Mo} {P : bD} {T : List UInt8 → Prop} (S : aW T M P) : P.z = M.C.ae := by rw [← S.p]; rfl
theorem aW.meet {M : Mo} {P : bD} {T : List UInt8 → Prop} (S : aW T M P) (y : List UInt8) : aW T (M.meet y).2 P ∧ (∀ p, (M.meet y).1 = some p → (M.meet y).2.has p ∧ ((M.meet y).2.it p).key = y ∧ (M.meet y).2.bz p = 0 ∧ P.f y = some ((M.meet y).2.vw p)) ∧
  ((M.meet y).1 = none → P.f y = none ∧ ∀ q, (M.meet y).2.has q → ((M.meet y).2.it q).key ≠ y) := by
 obtain ⟨G, _, hh⟩ := S.i.meet y
 refine ⟨S.go G (hh.trans S.h) (ry M y).2.2.2.2.1 (ry M y).2.2.2.1, fun p hp => ?_, fun hn => ?_⟩
 ·rw [S.f]
  unfold Mo.meet at hp ⊢
  cases hf : M.find y with
  | none => rw [hf] at hp; cases hp
  | some r =>
   rw [hf] at hp
   dsimp only at hp ⊢
   obtain ⟨h1, h2⟩ := (hZ S.i.p).1 hf
   by_cases hw : M.bz r ≠ 0
   ·rw [if_pos hw] at hp; cases hp
   rw [if_neg hw] at hp ⊢
   cases hp
   have hw : M.bz p = 0 := Decidable.of_not_not hw
   exact ⟨h1, h2, hw, by rw [← h2, oF S.i.p h1, if_pos hw]; rfl⟩
 rw [S.f]
 unfold Mo.meet at hn ⊢
 cases hf : M.find y with
 | none => exact ⟨wV (IM S.i.p hf), IM S.i.p hf⟩
 | some r =>
  rw [hf] at hn
  dsimp only at hn ⊢
  obtain ⟨h1, h2⟩ := (hZ S.i.p).1 hf
  by_cases hw : M.bz r ≠ 0
  ·rw [if_pos hw]
   refine ⟨by rw [← h2, oF S.i.p h1, if_neg hw], fun q hq e => ?_⟩
   obtain ⟨a, b⟩ := (iL S.i.p).1 hq
   exact b (S.i.p.kd q r a h1 (e.trans h2.symm))
  rw [if_neg hw] at hn; cases hn
theorem aW.put {M N : Mo} {P : bD} {T : List UInt8 → Prop} (S : aW T M P) {p : Nat} (hp : M.has p) (hC : N.C = M.C) (hQ : N.Q = M.Q) (hx : N.x = M.x) (hh : N.hole = M.hole) (hm : N.m = M.m) (hk : N.k = M.k) (ho : ∀ q, q ≠ p → N.it q = M.it q) {x : I3} (hv : (N.it p).vw = x) (hy : x.key = (M.it p).key) {i : Nat} (hi : N.v.bm = i) (hc : N.v.c = M.v.c) :
  aW T N ((P.put x (M.C.cl p)).num i) := by
 have U := S.i.Oe hC hQ hx hh hm hk hp ho ((congrArg I3.key hv).trans hy)
 have e1 : N.bz p = oq P.k x := by rw [S.mU, ← hk, ← hv]; rfl
 have e2 : N.vw p = (x, M.C.cl p) := by unfold Mo.vw; rw [hv, hC]
 rw [e1, e2, ← hy] at U
 exact S.dK U (by rw [hy]; exact S.t p hp) (hh.trans S.h) hi hc
def I3.ui (x : I3) (now : Nat) : I3 := { x with tch := now, du := x.du % 8 + 8 }
theorem AA (x : I3) (now : Nat) : ({ x with tch := now, du := mkSet x.du true % 8 + 8 } : I3).vw = x.vw.ui now := by
 unfold I3.vw I3.ui mkSet
 congr 1
 simp only [if_true]
 omega
def bD.dz (dK : Bool) (ex : Int) (s : List I3 × bD) (y : List UInt8) : List I3 × bD := match s.2.f y with
 | none => s
 | some x => let x2 : I3 := if dK = true then { x.1 with exp := mX s.2.k.now ex } else x.1
  (s.1 ++ [x2], s.2.put (x2.ui s.2.k.now) x.2)
def bD.lL (P : bD) (verb : Int) (keys : List (List UInt8)) (ex : Int) : eH × bD := let r := keys.foldl (bD.dz (decide (verb = 3 ∨ verb = 4)) ex) ([], P); (⟨9, r.1, 0, []⟩, r.2)
def bD.dQ (P : bD) (y : List UInt8) (ex : Int) : eH × bD := match P.f y with
 | none => (.k 4, P)
 | some x => (.k 6, P.put (({ x.1 with exp := mX P.k.now ex } : I3).ui P.k.now) x.2)
def bD.delete (P : bD) (y : List UInt8) : eH × bD := match P.f y with
 | none => (.k 4, P)
 | some _ => (.k 5, P.set y none)
def eH.vw (a : eH) : eH := { a with dx := a.dx.map I3.vw }
theorem aW.hitp {M : Mo} {P : bD} {T : List UInt8 → Prop} (S : aW T M P) {p : Nat} (hp : M.has p) : aW T (M.pC p) (P.put ((M.it p).vw.ui P.k.now) (M.C.cl p)) := by
 have h := S.put (N := M.pC p) hp rfl rfl rfl rfl rfl rfl (fun q h => if_neg h) (x := (M.it p).vw.ui P.k.now) (by
  rw [S.mU, ← AA]
  unfold Mo.pC Mo.put
  dsimp only
  rw [if_pos rfl]) rfl (i := P.i) S.bm.symm rfl
 exact h
theorem aW.CO {M : Mo} {P : bD} {T : List UInt8 → Prop} (S : aW T M P) {p : Nat} (hp : M.has p) (e : Nat) : aW T ((M.time p e).pC p) (P.put (({ (M.it p).vw with exp := e } : I3).ui P.k.now) (M.C.cl p)) := by
 have h := S.put (N := (M.time p e).pC p) hp rfl rfl rfl rfl rfl rfl (fun q h => (if_neg h).trans (if_neg h)) (x := ({ (M.it p).vw with exp := e } : I3).ui P.k.now) (by
  rw [S.mU, show ({ (M.it p).vw with exp := e } : I3) = ({ M.it p with exp := e } : I3).vw from rfl, ← AA]
  unfold Mo.pC Mo.time Mo.put
  dsimp only
  rw [if_pos rfl, if_pos rfl]) rfl (i := P.i) S.bm.symm rfl
 exact h
theorem aW.dz {M : Mo} {P : bD} {T : List UInt8 → Prop} (S : aW T M P) (dK : Bool) (ex : Int) (l : List I3) (y : List UInt8) :
  aW T (Mo.dz dK ex (l, M) y).2 (bD.dz dK ex (l.map I3.vw, P) y).2 ∧ (Mo.dz dK ex (l, M) y).1.map I3.vw = (bD.dz dK ex (l.map I3.vw, P) y).1 := by
 obtain ⟨S1, h1, h2⟩ := S.meet y
 unfold Mo.dz bD.dz
 dsimp only
 rcases hm : M.meet y with ⟨_ | p, N⟩ <;> rw [hm] at S1 h1 h2 <;> dsimp only at S1 h1 h2 ⊢
 ·rw [(h2 rfl).1]
  exact ⟨S1, rfl⟩
 obtain ⟨a, b, c, d⟩ := h1 p rfl
 rw [d]
 dsimp only
 rw [show N.vw p = ((N.it p).vw, N.C.cl p) from rfl]
 dsimp only
 cases dK with
 | false =>
  refine ⟨S1.hitp a, ?_⟩
  simp
 | true =>
  simp only [if_true]
  refine ⟨?_, ?_⟩
  ·have := S1.CO a (mX N.k.now ex)
   rw [S1.mU] at this ⊢
   exact this
  rw [List.map_append, S1.mU]
  congr 1
  simp only [List.map_cons, List.map_nil]
  congr 1
  show ((if p = p then _ else _ : I3)).vw = _
  rw [if_pos rfl]; rfl
theorem aW.Rr (dK : Bool) (ex : Int) : ∀ (keys : List (List UInt8)) {M : Mo} {P : bD} {T : List UInt8 → Prop} (l : List I3), aW T M P →
  aW T (keys.foldl (Mo.dz dK ex) (l, M)).2 (keys.foldl (bD.dz dK ex) (l.map I3.vw, P)).2 ∧ (keys.foldl (Mo.dz dK ex) (l, M)).1.map I3.vw = (keys.foldl (bD.dz dK ex) (l.map I3.vw, P)).1
 | [], _, _, _, _, S => ⟨S, rfl⟩
 | y :: keys, M, P, _, l, S => by
  obtain ⟨a, b⟩ := S.dz dK ex l y
  rw [List.foldl_cons, List.foldl_cons]
  have h := aW.Rr dK ex keys (Mo.dz dK ex (l, M) y).1 a
  rw [b] at h
  exact h
theorem aW.lL {M : Mo} {P : bD} {T : List UInt8 → Prop} (S : aW T M P) (verb : Int) (keys : List (List UInt8)) (ex : Int) : aW T (M.lL verb keys ex).2 (P.lL verb keys ex).2 ∧ (M.lL verb keys ex).1.vw = (P.lL verb keys ex).1 := by
 obtain ⟨a, b⟩ := aW.Rr (decide (verb = 3 ∨ verb = 4)) ex keys [] S
 refine ⟨a, ?_⟩
 unfold Mo.lL bD.lL eH.vw
 dsimp only
 rw [b]; rfl
theorem aW.dQ {M : Mo} {P : bD} {T : List UInt8 → Prop} (S : aW T M P) (y : List UInt8) (ex : Int) : aW T (M.dQ y ex).2 (P.dQ y ex).2 ∧ (M.dQ y ex).1.vw = (P.dQ y ex).1 := by
 obtain ⟨S1, h1, h2⟩ := S.meet y
 unfold Mo.dQ bD.dQ
 rcases hm : M.meet y with ⟨_ | p, N⟩ <;> rw [hm] at S1 h1 h2 <;> dsimp only at S1 h1 h2 ⊢
 ·rw [(h2 rfl).1]
  exact ⟨S1, rfl⟩
 obtain ⟨a, b, c, d⟩ := h1 p rfl
 rw [d]
 dsimp only
 refine ⟨?_, rfl⟩
 have := S1.CO a (mX N.k.now ex)
 rw [S1.mU] at this ⊢
 exact this
theorem aW.delete {M : Mo} {P : bD} {T : List UInt8 → Prop} (S : aW T M P) (y : List UInt8) : aW T (M.delete y).2 (P.delete y).2 ∧ (M.delete y).1.vw = (P.delete y).1 := by
 obtain ⟨S1, h1, h2⟩ := S.meet y
 unfold Mo.delete bD.delete
 rcases hm : M.meet y with ⟨_ | p, N⟩ <;> rw [hm] at S1 h1 h2 <;> dsimp only at S1 h1 h2 ⊢
 ·rw [(h2 rfl).1]
  exact ⟨S1, rfl⟩
 obtain ⟨a, b, c, d⟩ := h1 p rfl
 rw [d]
 dsimp only
 refine ⟨?_, rfl⟩
 have U := S1.i.oO a
 rw [b] at U
 exact S1.dK U (by rw [← b]; exact S1.t p a) S1.h (i := P.i) S1.bm.symm rfl
def bD.clock (P : bD) (k : Ck) : bD := { P with k := k, f := fun z => match P.f z with | some x => if oq k x.1 = 0 then some x else none | none => none }
theorem Kc {k k2 : Ck} (h1 : k.now ≤ k2.now) (h2 : k.cut ≤ k2.cut) {x : I3} (h : oq k x ≠ 0) : oq k2 x ≠ 0 := by
 unfold oq at *
 split
 ·decide
 split
 ·decide
 next a b =>
 split at h
 ·omega
 ·split at h <;> omega
theorem aW.clock {M N : Mo} {P : bD} {T : List UInt8 → Prop} (S : aW T M P) {k : Ck} (hC : N.C = M.C) (hQ : N.Q = M.Q) (hx : ct M.gL M.Q N.x) (hi : N.it = M.it) (hh : N.hole = M.hole) (hm : N.m = M.m) (hk : N.k = k) (hn : N.v.bm = M.v.bm) (hc : N.v.c = M.v.c) (h1 : M.k.now ≤ k.now) (h2 : M.k.cut ≤ k.cut) : aW T N (P.clock k) := by
 have e : ∀ p, N.has p ↔ M.has p := fun p => by unfold Mo.has; rw [hQ]
 have K : Mi N := ⟨by rw [hC]; exact S.i.k, ⟨fun i => by rw [hQ]; exact S.i.p.nd i, fun a b ha hb g => S.i.p.kd a b ((e a).1 ha) ((e b).1 hb) (by rw [← hi]; exact g)⟩, by unfold Mo.gL; rw [hC, hQ]; exact S.i.q, by unfold Mo.gL; rw [hC, hQ]; exact hx, fun p => by rw [hC, hh, e]; exact S.i.lv p, fun p h => by rw [hh] at h; rw [e]; exact S.i.ho p h, by rw [hm, hC]; exact S.i.on, by rw [hC, hm]; exact S.i.go⟩
 refine ⟨K, hh.trans S.h, ?_, fun q hq => by rw [hi]; exact S.t q ((e q).1 hq)⟩
 have es : N.jO = fun z => match M.jO z with | some x => if oq k x.1 = 0 then some x else none | none => none := by
  funext z
  have ef : N.find z = M.find z := by unfold Mo.find; rw [hQ, hi]
  unfold Mo.jO Mo.live
  rw [ef]
  cases M.find z with
  | none => rfl
  | some p =>
   dsimp only
   have w : N.bz p = oq k (M.it p) := by rw [yv, hk, hi]
   have v : N.vw p = M.vw p := by unfold Mo.vw; rw [hi, hC]
   rw [w]
   by_cases g : M.bz p = 0
   ·rw [if_pos g]
    simp only [Option.map_some]
    rw [show oq k (M.vw p).1 = oq k (M.it p) from rfl]
    split
    ·rw [Option.map_some, v]
    rfl
   rw [if_neg g, if_neg (Kc h1 h2 g)]; rfl
 unfold Mo.ps bD.clock
 rw [es, hk, hn, S.bm, S.f, S.cfg, S.mY, hc, hC]
theorem tQ (k : Ck) (t : Int) (n : Nat) : k.now ≤ (k.flush t n).now ∧ k.cut ≤ (k.flush t n).cut := by
 unfold Ck.flush
 split <;> dsimp only <;> omega
theorem MM {n : Nat} {Q : List (List Nat)} (x : Cw) : ct n Q x.again := ⟨(fun h => by cases h), fun _ => ⟨rfl, rfl, rfl, rfl⟩, (fun p h => by cases h), Nat.zero_le _⟩
theorem aW.flush {M : Mo} {P : bD} {T : List UInt8 → Prop} (S : aW T M P) (ex : Int) : aW T { M with k := M.k.flush ex M.v.bm, x := M.x.again } (P.clock (P.k.flush ex P.i)) := by
 rw [S.mU, S.bm]
 exact S.clock rfl rfl (MM _) rfl rfl rfl rfl rfl rfl (tQ _ _ _).1 (tQ _ _ _).2
structure Rm where
 ok : Bool
 v : Option (List UInt8)
def bD.rm (P : bD) (m : Rm) : bD := match m.v with
 | none => P
 | some y => P.set y none
structure Yn (M N : Mo) (P : bD) (own o : Option Nat) (c : Nat) (m : Rm) : Prop where
 i : Mi N
 p : N.ps = P.rm m
 ok : m.ok = o.isSome
 no : o = none → N.hole = none
 r : ∀ r, o = some r → N.hole = some r ∧ N.C.cl r = c
 own : ∀ y, m.v = some y → ∀ p, own = some p → M.has p → y ≠ (M.it p).key
 v : ∀ y, m.v = some y → P.f y ≠ none
 dr : N.v.mt.dr = if m.v.isSome = true then cC (M.v.mt.dr + 1) else M.v.mt.dr
theorem Up {Q : List (List Nat)} {c p : Nat} (h : p ∈ HH Q c) : ∃ i, p ∈ ql Q i := by
 unfold HH at h
 simp only [List.mem_append, List.mem_reverse] at h
 rcases h with (h | h) | h
 ·exact ⟨_, h⟩
 ·exact ⟨_, h⟩
 exact ⟨_, h⟩
theorem KU {dd act : Nat → Bool} {own : Option Nat} {n : Nat} {l : List Nat} {p : Nat} {d : Bool} {k : Nat} (h : yf dd act own n l = (some p, d, k)) : p ∈ l ∧ some p ≠ own ∧ dd p = d := by
 have sub : ∀ q ∈ (Au own l).take n, q ∈ l ∧ some q ≠ own := fun q hq => by
  have := List.mem_of_mem_take hq
  unfold Au at this
  rw [List.mem_filter] at this
  exact ⟨this.1, by simpa using this.2⟩
 unfold yf H2 at h
 cases hf : ((Au own l).take n).findIdx? dd with
 | some i =>
  rw [hf] at h
  simp only [Prod.mk.injEq] at h
  obtain ⟨h1, h2, h3⟩ := h
  obtain ⟨a, b, _⟩ := List.findIdx?_eq_some_iff_getElem.1 hf
  rw [List.getElem?_eq_getElem a, Option.some.injEq] at h1
  have := sub p (h1 ▸ List.getElem_mem a)
  exact ⟨this.1, this.2, by rw [← h2, ← h1]; exact b⟩
 | none =>
  rw [hf] at h
  simp only [Prod.mk.injEq] at h
  obtain ⟨h1, h2, h3⟩ := h
  have hm : p ∈ (Au own l).take n := by
   split at h1
   ·next q hq => cases h1; exact List.mem_of_find?_eq_some hq
   exact List.mem_of_mem_head? h1
  have := sub p hm
  refine ⟨this.1, this.2, ?_⟩
  rw [← h2]
  have := List.findIdx?_eq_none_iff.1 hf p hm
  simpa using this
theorem Mi.vG {M : Mo} (K : Mi M) (c : Nat) : kO M (M.fG c) := ⟨K.rf K.x rfl rfl rfl rfl rfl rfl rfl rfl, dt K.p rfl rfl rfl⟩
theorem I0 {M N : Mo} (K : Mi M) (hh : M.hole = none) {c p : Nat} (hc : c < M.gL) (hp : M.has p) {o : Option Nat} (h : M.last c p = (o, N)) :
  kO (M.bR p) N ∧ (o = none → N.hole = none) ∧ (∀ r, o = some r → N.hole = some r ∧ N.C.cl r = c) ∧ N.v.bm = M.v.bm ∧ N.v.mt = M.v.mt ∧ N.v.c = M.v.c := by
 have A := K.bR hp
 unfold Mo.last at h
 cases ht : (M.bR p).take c with
 | none =>
  rw [ht] at h
  cases h
  exact ⟨⟨A, .refl A.p⟩, fun _ => hh, (fun r e => by cases e), rfl, rfl, rfl⟩
 | some x =>
  obtain ⟨r, D⟩ := x
  rw [ht] at h
  cases h
  obtain ⟨G, h1, h2, h3, h4, _, _⟩ := A.take (show (M.bR p).hole = none from hh) (show c < (M.bR p).gL from hc) ht
  exact ⟨G, (fun e => by cases e), fun q e => by cases e; exact ⟨h1, h4⟩, by rw [h3]; rfl, by rw [h3]; rfl, by rw [h3]; rfl⟩
theorem za {M N : Mo} {P : bD} {T : List UInt8 → Prop} (S : aW T M P) {c : Nat} (hc : c < M.gL) (own : Option Nat) {o : Option Nat} (h : M.ns c own = (o, N)) : ∃ m, Yn M N P own o c m := by
 have KM := S.i
 have hh := S.h
 unfold Mo.ns at h
 rcases Xg : M.pick c own with ⟨v, d, k⟩
 rw [Xg] at h
 dsimp only at h
 have G0 := KM.sg { M.v.mt with lo := cC (M.v.mt.lo + (k : Int)) }
 have p0 := lF KM.p G0 rfl rfl
 rcases v with _ | p
 ·cases d with
  | true =>
   cases h
   exact ⟨⟨false, none⟩, G0.i, p0.trans S.p, rfl, fun _ => hh, (fun r e => by cases e), (fun y e => by cases e), (fun y e => by cases e), rfl⟩
  | false =>
   have G1 := G0.i.vG c
   have p1 := lF G0.i.p G1 rfl rfl
   cases h
   exact ⟨⟨false, none⟩, G1.i, p1.trans (p0.trans S.p), rfl, fun _ => hh, (fun r e => by cases e), (fun y e => by cases e), (fun y e => by cases e), rfl⟩
 obtain ⟨m1, m2, m3⟩ := KU Xg
 have hp : M.has p := Up m1
 cases d with
 | true =>
  have hw : M.bz p ≠ 0 := by simpa using m3
  have G1 := G0.i.sg { (M.aX { M.v.mt with lo := cC (M.v.mt.lo + (k : Int)) }).v.mt with re := cC ((M.aX { M.v.mt with lo := cC (M.v.mt.lo + (k : Int)) }).v.mt.re + 1) }
  have p1 := lF G0.i.p G1 rfl rfl
  obtain ⟨G2, n1, n2, n3, n4, n5⟩ := I0 G1.i hh hc (p := p) hp h
  have A : kO _ _ := G1.i.xk (p := p) hp hw
  have p2 := lF G1.i.p A rfl rfl
  have p3 := lF A.i.p G2 n3 n5
  refine ⟨⟨o.isSome, none⟩, G2.i, ?_, rfl, n1, n2, (fun y e => by cases e), (fun y e => by cases e), by rw [n4]; rfl⟩
  exact p3.trans (p2.trans (p1.trans (p0.trans S.p)))
 | false =>
  have hw : M.bz p = 0 := by simpa using m3
  have G1 := G0.i.vG c
  have p1 := lF G0.i.p G1 rfl rfl
  have G1b := G1.i.sg { ((M.aX { M.v.mt with lo := cC (M.v.mt.lo + (k : Int)) }).fG c).v.mt with dr := cC (((M.aX { M.v.mt with lo := cC (M.v.mt.lo + (k : Int)) }).fG c).v.mt.dr + 1) }
  have p1b := lF G1.i.p G1b rfl rfl
  obtain ⟨G2, n1, n2, n3, n4, n5⟩ := I0 G1b.i hh hc (p := p) hp h
  have U := G1b.i.oO (p := p) hp
  have p2 := AE U rfl
  have p3 := lF U.i.p G2 n3 n5
  refine ⟨⟨o.isSome, some (M.it p).key⟩, G2.i, ?_, rfl, n1, n2, fun y e q eq hq => ?_, fun y e => ?_, by rw [n4]; rfl⟩
  ·rw [p3, p2, p1b, p1, p0, S.p]
   show (P.set (M.it p).key none).num M.v.bm = P.set (M.it p).key none
   rw [← S.bm]; rfl
  ·cases e
   exact fun e => m2 (by rw [eq, KM.p.kd p q hp hq e])
  cases e
  rw [S.f, oF KM.p hp, if_pos hw]
  simp
theorem aW.room {M N : Mo} {P : bD} {T : List UInt8 → Prop} (S : aW T M P) {n c : Nat} (hc : M.C.ae.findIdx? (fun z => decide (n ≤ z)) = some c) (own : Option Nat) {o : Option Nat} (h : M.room n own = (o, N)) : ∃ m, Yn M N P own o c m ∧ (gq M 1 → m = ⟨true, none⟩) := by
 have cJ : c < M.gL := (List.findIdx?_eq_some_iff_getElem.1 hc).1
 by_cases A : gq M 1
 ·obtain ⟨r, D, e, G, h1, h2, h3, h4, _, _⟩ := S.i.room S.h (j := 0) A hc own
  rw [e] at h
  cases h
  exact ⟨⟨true, none⟩, ⟨G.i, (lF S.i.p G (by rw [h3]) (by rw [h3])).trans S.p, rfl, (fun e => by cases e), fun q e => by cases e; exact ⟨h1, h4⟩, (fun y e => by cases e), (fun y e => by cases e), by rw [h3]; rfl⟩, fun _ => rfl⟩
 unfold Mo.room at h
 rw [hc] at h
 dsimp only at h
 unfold Mo.r8 at h
 cases ht : M.take c with
 | some x =>
  obtain ⟨r, D⟩ := x
  rw [ht] at h
  cases h
  obtain ⟨G, h1, h2, h3, h4, _, _⟩ := S.i.take S.h cJ ht
  exact ⟨⟨true, none⟩, ⟨G.i, (lF S.i.p G (by rw [h3]) (by rw [h3])).trans S.p, rfl, (fun e => by cases e), fun q e => by cases e; exact ⟨h1, h4⟩, (fun y e => by cases e), (fun y e => by cases e), by rw [h3]; rfl⟩, fun a => absurd a A⟩
 | none =>
  rw [ht] at h
  dsimp only at h
  split at h
  ·next g =>
   obtain ⟨G, hh⟩ := S.i.mstop g.1
   have S1 : aW T M.mstop P := S.go G (hh.trans S.h) rfl rfl
   cases oc : M.mstop.take c with
   | some x =>
    obtain ⟨r, D⟩ := x
    rw [oc] at h
    cases h
    obtain ⟨G2, h1, h2, h3, h4, _, _⟩ := S1.i.take S1.h (show c < M.mstop.gL from cJ) oc
    exact ⟨⟨true, none⟩, ⟨G2.i, (lF S1.i.p G2 (by rw [h3]) (by rw [h3])).trans S1.p, rfl, (fun e => by cases e), fun q e => by cases e; exact ⟨h1, h4⟩, (fun y e => by cases e), (fun y e => by cases e), by rw [h3]; rfl⟩, fun a => absurd a A⟩
   | none =>
    rw [oc] at h
    obtain ⟨m, R⟩ := za S1 (show c < M.mstop.gL from cJ) own h
    exact ⟨m, ⟨R.i, R.p, R.ok, R.no, R.r, R.own, R.v, R.dr⟩, fun a => absurd a A⟩
  obtain ⟨m, R⟩ := za S cJ own h
  exact ⟨m, R, fun a => absurd a A⟩
def CE (verb : Int) (Eo : Nat) (o : Option (I3 × Nat)) : Nat := aP verb Eo (o.map fun x => x.1.tok) id
theorem QA (M : Mo) (verb : Int) (Eo : Nat) (old : Option Nat) : aP verb Eo old (fun p => (M.it p).tok) = CE verb Eo (old.map M.vw) := by cases old <;> rfl
def bD.ou (P : bD) (c : eA) (k : List UInt8) (o : Option (I3 × Nat)) : Option (List UInt8 × Nat × Nat) :=
 if zZ c.verb = true then some (c.data, c.fl, mX P.k.now c.ex) else match o with
 | none => none
 | some x => if P.c.lim < 58 + k.length + c.data.length + x.1.val.length then none else some (if c.verb = 8 then x.1.val ++ c.data else c.data ++ x.1.val, x.1.fl, x.1.exp)
def bD.over (P : bD) (k : List UInt8) (ov : Bool) : bD := if ov = true then P.set k none else P
def uT (mY : List Nat) (n : Nat) : Nat := (mY.findIdx? fun z => decide (n ≤ z)).getD 0
def bD.lays (m : Rm) (P : bD) (k : List UInt8) (ov : Bool) (x : List UInt8 × Nat × Nat) : eH × bD :=
 if m.ok = true then (.k 1, ((P.rm m).put ⟨k, x.1, x.2.1, x.2.2, P.k.now, P.i + 1, 0⟩ (uT P.z (58 + k.length + x.1.length))).num (P.i + 1)) else (.t iJ, (P.rm m).over k ov)
def bD.cG (m : Rm) (P : bD) (c : eA) (k : List UInt8) : eH × bD :=
 if c.lg = true ∨ P.c.lim < 58 + k.length + c.data.length then (.t dm, P.over k (zZ c.verb))
 else if CE c.verb c.tok (P.f k) ≠ 0 then (.k (CE c.verb c.tok (P.f k)), P)
 else match P.ou c k (P.f k) with
  | none => (.t dm, P)
  | some x => P.lays m k (zZ c.verb) x
def bD.fP (m : Rm) (P : bD) (x : I3 × Nat) (n : Nat) : eH × bD :=
 if 58 + x.1.key.length + (gJ n).length ≤ P.z.getD x.2 0 then (⟨7, [], n, []⟩, (P.put (({ x.1 with val := gJ n, tok := P.i + 1, du := x.1.du - x.1.du / 2 % 4 * 2 } : I3).ui P.k.now) x.2).num (P.i + 1))
 else if P.c.lim < 58 + x.1.key.length + (gJ n).length then (.t dm, P)
 else if m.ok = true then (⟨7, [], n, []⟩, ((P.rm m).put ⟨x.1.key, gJ n, x.1.fl, x.1.exp, P.k.now, P.i + 1, 0⟩ (uT P.z (58 + x.1.key.length + (gJ n).length))).num (P.i + 1)) else (.t iJ, P.rm m)
def bD.counts (m : Rm) (P : bD) (c : eA) (k : List UInt8) : eH × bD := match P.f k with
 | none => (.k 4, P)
 | some x => match NP x.1.val with
  | none => (.t Iv, P)
  | some n => P.fP m x (v7 c n)
def bD.fx (m : Rm) (P : bD) (c : eA) : eH × bD :=
 if 1 ≤ c.verb ∧ c.verb ≤ 4 then P.lL c.verb c.keys c.ex
 else if c.verb = 12 ∨ c.verb = 13 then P.counts m c (c.keys.headD [])
 else if c.verb = 14 then P.dQ (c.keys.headD []) c.ex
 else if c.verb = 11 then P.delete (c.keys.headD [])
 else if c.verb = 15 then (.k 8, P.clock (P.k.flush c.ex P.i))
 else if c.verb = 16 then (⟨10, [], 0, wQ⟩, P)
 else if c.verb = 17 then (.k 8, P)
 else if c.verb = 18 then (.k 12, P)
 else P.cG m c (c.keys.headD [])
structure Ho (M N : Mo) (P : bD) (k : List UInt8) (m : Rm) : Prop where
 v : ∀ y, m.v = some y → P.f y ≠ none ∧ y ≠ k
 dr : N.v.mt.dr = if m.v.isSome = true then cC (M.v.mt.dr + 1) else M.v.mt.dr
 am : gq M 1 → m = ⟨true, none⟩
theorem Ho.none {M N : Mo} {P : bD} {k : List UInt8} (h : N.v.mt.dr = M.v.mt.dr) : Ho M N P k ⟨true, none⟩ := ⟨(fun y e => by cases e), h, fun _ => rfl⟩
theorem Ho.of {M N O : Mo} {P : bD} {k : List UInt8} {m : Rm} (R : Ho N O P k m) (h : N.v.mt.dr = M.v.mt.dr) (a : gq M 1 → gq N 1) : Ho M O P k m := ⟨R.v, by rw [← h]; exact R.dr, fun g => R.am (a g)⟩
def bD.Fits (P : bD) : Prop := ∀ n : Nat, (n : Int) ≤ P.c.lim → ∃ c, P.z.findIdx? (fun z => decide (n ≤ z)) = some c
theorem T9 {P : bD} {k : List UInt8} (h : P.f k = none) : P.set k none = P := by
 unfold bD.set
 have e : (fun z => if z = k then none else P.f z) = P.f := funext fun z => by
  by_cases g : z = k
  ·rw [if_pos g, g, h]
  rw [if_neg g]
 rw [e]
theorem rm_f {P : bD} {m : Rm} {k : List UInt8} (h : ∀ y, m.v = some y → y ≠ k) : (P.rm m).f k = P.f k := by
 unfold bD.rm
 split
 ·rfl
 next y e => exact if_neg fun g => h y e g.symm
theorem Y2 (P : bD) (m : Rm) : (P.rm m).k = P.k ∧ (P.rm m).i = P.i := by
 unfold bD.rm
 split <;> exact ⟨rfl, rfl⟩
theorem aW.over {M : Mo} {P : bD} {T : List UInt8 → Prop} (S : aW T M P) {k : List UInt8} {old : Option Nat} (h0 : old = none → P.f k = none) (h1 : ∀ p, old = some p → M.has p ∧ (M.it p).key = k) (ov : Bool) : aW T (M.over old ov) (P.over k ov) := by
 unfold Mo.over bD.over
 cases old with
 | none =>
  rw [T9 (h0 rfl)]
  simpa using S
 | some p =>
  obtain ⟨a, b⟩ := h1 p rfl
  cases ov with
  | false => simpa using S
  | true =>
   simp only [if_true]
   have U := S.i.oO a
   rw [b] at U
   exact S.dK U (by rw [← b]; exact S.t p a) S.h (i := P.i) S.bm.symm rfl
theorem C7 (M : Mo) (old : Option Nat) (ov : Bool) : (M.over old ov).v.mt = M.v.mt := by
 unfold Mo.over
 cases old with
 | none => rfl
 | some p => cases ov <;> rfl
theorem Du (M : Mo) (r : Nat) (old : Option Nat) (n : I3) : (M.eX r old n).v.mt = M.v.mt := by
 unfold Mo.eX
 cases old <;> rfl
theorem rz (M : Mo) (k : List UInt8) : (M.meet k).2.v.mt = M.v.mt := by
 unfold Mo.meet
 split
 ·rfl
 ·split <;> rfl
theorem UP (M : Mo) (r : Nat) (old : Option Nat) (n : I3) : (M.eX r old n).v.c = M.v.c := by
 unfold Mo.eX
 cases old <;> rfl
theorem Od (k v : List UInt8) (fl ex t n : Nat) : (⟨k, v, fl, ex, t, n, 0⟩ : I3).vw = ⟨k, v, fl, ex, t, n, 0⟩ := by
 unfold I3.vw
 simp only [Nat.zero_div, Nat.zero_mul]
theorem aW.laid {M : Mo} {P : bD} {T : List UInt8 → Prop} (S : aW T M P) {k : List UInt8} (hT : T k) {n c : Nat} (hc : M.C.ae.findIdx? (fun z => decide (n ≤ z)) = some c) (old : Option Nat) (h0 : old = none → P.f k = none ∧ ∀ q, M.has q → (M.it q).key ≠ k) (h1 : ∀ p, old = some p → M.has p ∧ (M.it p).key = k ∧ P.f k ≠ none) {o : Option Nat} {N : Mo} (hr : M.room n old = (o, N)) :
  ∃ m, m.ok = o.isSome ∧ Ho M N P k m ∧ (o = none → aW T N (P.rm m)) ∧ (∀ p, old = some p → N.has p ∧ (N.it p).key = k) ∧ (∀ r, o = some r → ∀ v fl ex, aW T (N.eX r old ⟨k, v, fl, ex, N.k.now, N.v.bm + 1, 0⟩) (((P.rm m).put ⟨k, v, fl, ex, P.k.now, P.i + 1, 0⟩ c).num (P.i + 1))) := by
 obtain ⟨m, R, ha⟩ := S.room hc old hr
 have Y := wW S.i.co hr
 have ne : ∀ y, m.v = some y → y ≠ k := fun y e g => by
  cases old with
  | none => exact R.v y e (by rw [g]; exact (h0 rfl).1)
  | some p => exact R.own y e p rfl (h1 p rfl).1 (by rw [g, (h1 p rfl).2.1])
 have ht : ∀ q, N.has q → T (N.it q).key := fun q hq => by rw [Y.s.it]; exact S.t q (Y.s.has q hq)
 have hold : ∀ p, old = some p → N.has p ∧ (N.it p).key = k := fun p e => ⟨(Y.s.own p e (h1 p e).1).1, by rw [Y.s.it]; exact (h1 p e).2.1⟩
 refine ⟨m, R.ok, ⟨fun y e => ⟨R.v y e, ne y e⟩, R.dr, ha⟩, fun e => ⟨R.i, R.no e, R.p, ht⟩, hold, fun r e v fl ex => ?_⟩
 obtain ⟨r1, r2⟩ := R.r r e
 obtain ⟨U, u1, u2⟩ := R.i.eX r1 old ⟨k, v, fl, ex, N.k.now, N.v.bm + 1, 0⟩ (fun e q hq => by rw [Y.s.it]; exact (h0 e).2 q (Y.s.has q hq)) hold
 have q1 : P.k = N.k := by rw [S.mU, Y.s.k]
 have q2 : P.i = N.v.bm := by rw [S.bm, Y.s.bm]
 refine ⟨U.i, u1, ?_, fun q hq => by
  rcases U.d q hq with g | ⟨w, h2, e2⟩
  ·rw [g]; exact hT
  rw [← e2]; exact ht w h2⟩
 rw [AE U (UP _ _ _ _), R.p, u2, r2]
 unfold bD.put
 rw [(Y2 P m).1, q1, q2, Od]
theorem aW.lays {M : Mo} {P : bD} {T : List UInt8 → Prop} (S : aW T M P) (F : P.Fits) {old : Option Nat} {k : List UInt8} (hT : T k) (h0 : old = none → P.f k = none ∧ ∀ q, M.has q → (M.it q).key ≠ k) (h1 : ∀ p, old = some p → M.has p ∧ (M.it p).key = k ∧ P.f k ≠ none) (ov : Bool) (x : List UInt8 × Nat × Nat) (hx : (58 + k.length + x.1.length : Nat) ≤ P.c.lim) :
  ∃ m, aW T (M.lays k old ov x).2 (P.lays m k ov x).2 ∧ (M.lays k old ov x).1.vw = (P.lays m k ov x).1 ∧ Ho M (M.lays k old ov x).2 P k m := by
 obtain ⟨c, hc⟩ := F _ hx
 have dR : uT P.z (58 + k.length + x.1.length) = c := by unfold uT; rw [hc]; rfl
 rw [S.mY] at hc
 rcases hr : M.room (58 + k.length + x.1.length) old with ⟨o, N⟩
 obtain ⟨m, m1, m2, m3, m4, m5⟩ := S.laid hT hc old h0 h1 hr
 refine ⟨m, ?_⟩
 unfold Mo.lays bD.lays
 rw [hr, dR]
 cases o with
 | none =>
  dsimp only
  rw [m1, if_neg (by decide)]
  refine ⟨(m3 rfl).over (fun e => by rw [rm_f fun y e => (m2.v y e).2]; exact (h0 e).1) m4 ov, rfl, m2.v, ?_, m2.am⟩
  rw [C7]; exact m2.dr
 | some r =>
  dsimp only
  rw [m1, if_pos (by rfl)]
  refine ⟨m5 r rfl x.1 x.2.1 x.2.2, rfl, m2.v, ?_, m2.am⟩
  rw [Du]; exact m2.dr
theorem aW.gP {M : Mo} {P : bD} {T : List UInt8 → Prop} (S : aW T M P) (F : P.Fits) {old : Option Nat} {k : List UInt8} (hT : T k) (h0 : old = none → P.f k = none ∧ ∀ q, M.has q → (M.it q).key ≠ k) (h1 : ∀ p, old = some p → M.has p ∧ (M.it p).key = k ∧ P.f k = some (M.vw p)) (c : eA) :
  ∃ m, aW T (M.gP c k old).2 (P.cG m c k).2 ∧ (M.gP c k old).1.vw = (P.cG m c k).1 ∧ Ho M (M.gP c k old).2 P k m := by
 have uc : ∀ p, old = some p → M.has p ∧ (M.it p).key = k ∧ P.f k ≠ none := fun p e => ⟨(h1 p e).1, (h1 p e).2.1, by rw [(h1 p e).2.2]; simp⟩
 have ef : P.f k = old.map M.vw := by
  cases old with
  | none => exact (h0 rfl).1
  | some p => exact (h1 p rfl).2.2
 have en : M.ou c k old = P.ou c k (P.f k) := by
  rw [ef]
  unfold Mo.ou bD.ou
  rw [S.mU, S.cfg]
  cases old <;> rfl
 unfold Mo.gP bD.cG
 rw [QA, ← ef, en, S.cfg]
 by_cases g1 : c.lg = true ∨ M.v.c.lim < 58 + k.length + c.data.length
 ·rw [if_pos g1]
  simp only [if_pos g1]
  exact ⟨⟨true, none⟩, S.over (fun e => (h0 e).1) (fun p e => ⟨(h1 p e).1, (h1 p e).2.1⟩) _, rfl, .none (by rw [C7])⟩
 rw [if_neg g1]
 simp only [if_neg g1]
 by_cases g2 : CE c.verb c.tok (P.f k) ≠ 0
 ·rw [if_pos g2]
  simp only [if_pos g2]
  exact ⟨⟨true, none⟩, S, rfl, .none rfl⟩
 rw [if_neg g2]
 simp only [if_neg g2]
 cases hx : P.ou c k (P.f k) with
 | none => exact ⟨⟨true, none⟩, S, rfl, .none rfl⟩
 | some x =>
  refine S.lays F hT h0 uc (zZ c.verb) x ?_
  unfold bD.ou at hx
  rw [S.cfg] at hx ⊢
  have g3 : ¬ M.v.c.lim < 58 + k.length + c.data.length := fun h => g1 (.inr h)
  split at hx
  ·cases hx
   simp only; omega
  split at hx
  ·cases hx
  next y hy =>
  split at hx
  ·cases hx
  cases hx
  simp only
  split <;> rw [List.length_append] <;> omega
theorem aW.cG {M : Mo} {P : bD} {T : List UInt8 → Prop} (S : aW T M P) (F : P.Fits) (c : eA) (k : List UInt8) (hT : T k) :
  ∃ m, aW T (M.cG c k).2 (P.cG m c k).2 ∧ (M.cG c k).1.vw = (P.cG m c k).1 ∧ Ho M (M.cG c k).2 P k m := by
 obtain ⟨S1, h1, h2⟩ := S.meet k
 obtain ⟨m, a, b, d⟩ := S1.gP (old := (M.meet k).1) (k := k) F hT h2 (fun p e => ⟨(h1 p e).1, (h1 p e).2.1, (h1 p e).2.2.2⟩) c
 exact ⟨m, a, b, d.of (by rw [rz]) fun A => A.meet k⟩
theorem Ki (x : I3) : ({ x with du := x.du - x.du / 2 % 4 * 2 + 0 * 2 } : I3).vw = { x.vw with du := x.vw.du - x.vw.du / 2 % 4 * 2 } := by
 unfold I3.vw
 congr 1
 dsimp only
 omega
theorem aW.fP {M : Mo} {P : bD} {T : List UInt8 → Prop} (S : aW T M P) (F : P.Fits) {p : Nat} {k : List UInt8} (hp : M.has p) (hk : (M.it p).key = k) (hf : P.f k = some (M.vw p)) (n : Nat) :
  ∃ m, aW T (M.fP p n).2 (P.fP m (M.vw p) n).2 ∧ (M.fP p n).1.vw = (P.fP m (M.vw p) n).1 ∧ Ho M (M.fP p n).2 P k m := by
 unfold Mo.fP bD.fP
 rw [S.mY, S.cfg, show M.C.sz (M.C.cl p) = M.C.ae.getD (M.vw p).2 0 from rfl, show (M.vw p).1.key = (M.it p).key from rfl]
 by_cases g1 : 58 + (M.it p).key.length + (gJ n).length ≤ M.C.ae.getD (M.vw p).2 0
 ·rw [if_pos g1]
  simp only [if_pos g1]
  refine ⟨⟨true, none⟩, ?_, rfl, .none rfl⟩
  refine S.put (N := ((((M.Am p (gJ n)).mW (M.v.bm + 1)).tok p (M.v.bm + 1)).marks p 0).pC p) hp rfl rfl rfl rfl rfl rfl (fun q h => ?_) (x := ({ (M.vw p).1 with val := gJ n, tok := P.i + 1, du := (M.vw p).1.du - (M.vw p).1.du / 2 % 4 * 2 } : I3).ui P.k.now) ?_ rfl (i := P.i + 1) (by rw [S.bm]; rfl) rfl
  ·unfold Mo.pC Mo.marks Mo.tok Mo.mW Mo.Am Mo.put
   dsimp only
   rw [if_neg h, if_neg h, if_neg h, if_neg h]
  rw [S.mU, S.bm]
  have e : ((((M.Am p (gJ n)).mW (M.v.bm + 1)).tok p (M.v.bm + 1)).marks p 0).it p = { ({ M.it p with val := gJ n, tok := M.v.bm + 1 } : I3) with du := (M.it p).du - (M.it p).du / 2 % 4 * 2 + 0 * 2 } := by
   unfold Mo.marks Mo.tok Mo.mW Mo.Am Mo.put
   dsimp only
   rw [if_pos rfl, if_pos rfl, if_pos rfl]
  have e2 := AA (((((M.Am p (gJ n)).mW (M.v.bm + 1)).tok p (M.v.bm + 1)).marks p 0).it p) M.k.now
  rw [e, Ki { M.it p with val := gJ n, tok := M.v.bm + 1 }] at e2
  refine Eq.trans (congrArg I3.vw ?_) e2
  rw [← e]
  exact if_pos rfl
 rw [if_neg g1]
 simp only [if_neg g1]
 by_cases g2 : M.v.c.lim < 58 + (M.it p).key.length + (gJ n).length
 ·rw [if_pos g2]
  simp only [if_pos g2]
  exact ⟨⟨true, none⟩, S, rfl, .none rfl⟩
 rw [if_neg g2]
 simp only [if_neg g2]
 obtain ⟨c, hc⟩ := F (58 + (M.it p).key.length + (gJ n).length) (by rw [S.cfg]; omega)
 rw [S.mY] at hc
 have dR : uT M.C.ae (58 + (M.it p).key.length + (gJ n).length) = c := by unfold uT; rw [hc]; rfl
 rcases hr : M.room (58 + (M.it p).key.length + (gJ n).length) (some p) with ⟨o, N⟩
 obtain ⟨m, m1, m2, m3, m4, m5⟩ := S.laid (k := k) (by rw [← hk]; exact S.t p hp) hc (some p) (fun e => by cases e) (fun q e => by cases e; exact ⟨hp, hk, by rw [hf]; simp⟩) hr
 refine ⟨m, ?_⟩
 rw [dR]
 cases o with
 | none =>
  dsimp only
  rw [m1, if_neg (by decide)]
  exact ⟨m3 rfl, rfl, m2⟩
 | some r =>
  dsimp only
  rw [m1, if_pos (by rfl)]
  have := m5 r rfl (gJ n) (M.it p).fl (M.it p).exp
  rw [← hk] at this m2
  refine ⟨this, rfl, by rw [← hk]; exact m2.v, ?_, m2.am⟩
  rw [Du]; exact m2.dr
theorem aW.counts {M : Mo} {P : bD} {T : List UInt8 → Prop} (S : aW T M P) (F : P.Fits) (c : eA) (k : List UInt8) :
  ∃ m, aW T (M.counts c k).2 (P.counts m c k).2 ∧ (M.counts c k).1.vw = (P.counts m c k).1 ∧ Ho M (M.counts c k).2 P k m := by
 obtain ⟨S1, h1, h2⟩ := S.meet k
 have e3 := rz M k
 have ea : gq M 1 → gq (M.meet k).2 1 := fun A => A.meet k
 unfold Mo.counts bD.counts
 rcases hm : M.meet k with ⟨_ | p, N⟩ <;> rw [hm] at S1 h1 h2 e3 ea <;> dsimp only at S1 h1 h2 e3 ea ⊢
 ·rw [(h2 rfl).1]
  exact ⟨⟨true, none⟩, S1, rfl, .none (by rw [e3])⟩
 obtain ⟨a, b, d, e⟩ := h1 p rfl
 rw [e]
 dsimp only
 rw [show (N.vw p).1.val = (N.it p).val from rfl]
 cases NP (N.it p).val with
 | none => exact ⟨⟨true, none⟩, S1, rfl, .none (by rw [e3])⟩
 | some n =>
  dsimp only
  obtain ⟨m, x1, x2, x3⟩ := S1.fP F a b e (v7 c n)
  exact ⟨m, x1, x2, x3.of (by rw [e3]) ea⟩
theorem P8 (dK : Bool) (ex : Int) (s : List I3 × Mo) (y : List UInt8) : (Mo.dz dK ex s y).2.v.mt = s.2.v.mt := by
 have e3 : (s.2.meet y).2.v.mt = s.2.v.mt := by
  unfold Mo.meet
  split
  ·rfl
  ·split <;> rfl
 unfold Mo.dz
 rcases hm : s.2.meet y with ⟨_ | p, N⟩ <;> rw [hm] at e3
 ·exact e3
 ·cases dK <;> exact e3
theorem DC (dK : Bool) (ex : Int) : ∀ (l : List (List UInt8)) (s : List I3 × Mo), (l.foldl (Mo.dz dK ex) s).2.v.mt = s.2.v.mt
 | [], _ => rfl
 | y :: l, s => by rw [List.foldl_cons, DC dK ex l, P8]
theorem aW.fx {M : Mo} {P : bD} {T : List UInt8 → Prop} (S : aW T M P) (F : P.Fits) (c : eA) (hT : T (c.keys.headD [])) :
  ∃ m, aW T (M.fx c).2 (P.fx m c).2 ∧ (M.fx c).1.vw = (P.fx m c).1 ∧ Ho M (M.fx c).2 P (c.keys.headD []) m := by
 unfold Mo.fx bD.fx
 split
 ·obtain ⟨a, b⟩ := S.lL c.verb c.keys c.ex
  refine ⟨⟨true, none⟩, a, b, .none ?_⟩
  unfold Mo.lL
  dsimp only
  rw [DC]
 split
 ·exact S.counts F c _
 split
 ·obtain ⟨a, b⟩ := S.dQ (c.keys.headD []) c.ex
  refine ⟨⟨true, none⟩, a, b, .none ?_⟩
  have := rz M (c.keys.headD [])
  unfold Mo.dQ
  rcases hm : M.meet (c.keys.headD []) with ⟨_ | p, N⟩ <;> rw [hm] at this <;> exact congrArg Mt.dr this
 split
 ·obtain ⟨a, b⟩ := S.delete (c.keys.headD [])
  refine ⟨⟨true, none⟩, a, b, .none ?_⟩
  have := rz M (c.keys.headD [])
  unfold Mo.delete
  rcases hm : M.meet (c.keys.headD []) with ⟨_ | p, N⟩ <;> rw [hm] at this <;> exact congrArg Mt.dr this
 split
 ·exact ⟨⟨true, none⟩, S.flush c.ex, rfl, .none rfl⟩
 split
 ·exact ⟨⟨true, none⟩, S, rfl, .none rfl⟩
 split
 ·exact ⟨⟨true, none⟩, S, rfl, .none rfl⟩
 split
 ·exact ⟨⟨true, none⟩, S, rfl, .none rfl⟩
 exact S.cG F c _ hT
def bD.dO (m : Rm) (P : bD) (c : eA) : eH × bD := if wi c = true then (.t wk, P) else P.fx m c
theorem vR (M : Mo) : M.beside.v.mt.dr = M.v.mt.dr := by
 unfold Mo.beside Mo.iI Mo.gN Mo.dM Mo.aX
 rfl
theorem G9 (hot warm : Nat) (M : Mo) (k : List UInt8) : (M.behind hot warm k).v.mt.dr = M.v.mt.dr := by
 unfold Mo.behind
 rw [vR]
 unfold Mo.lN
 split <;> rfl
theorem aW.beside {M : Mo} {P : bD} {T : List UInt8 → Prop} (S : aW T M P) : aW T M.beside P := S.go (S.i.beside S.h).1 (S.i.beside S.h).2 (mS M).bm (mS M).c
theorem aW.behind {M : Mo} {P : bD} {T : List UInt8 → Prop} (S : aW T M P) (hot warm : Nat) (k : List UInt8) : aW T (M.behind hot warm k) P := S.go (S.i.behind S.h hot warm k).1 (S.i.behind S.h hot warm k).2 (qn hot warm M k).bm (qn hot warm M k).c
theorem aW.mJ {P : bD} {T : List UInt8 → Prop} (hot warm : Nat) : ∀ (l : List (List UInt8)) {M : Mo}, aW T M P → aW T (l.foldl (Mo.behind hot warm) M) P
 | [], _, S => S
 | k :: l, _, S => aW.mJ hot warm l (S.behind hot warm k)
theorem tR (hot warm : Nat) : ∀ (l : List (List UInt8)) (M : Mo), (l.foldl (Mo.behind hot warm) M).v.mt.dr = M.v.mt.dr
 | [], _ => rfl
 | k :: l, M => by rw [List.foldl_cons, tR hot warm l, G9]
theorem aW.reset {M : Mo} {P : bD} {T : List UInt8 → Prop} (S : aW T M P) : aW T M.reset P := S.go S.i.LK S.h rfl rfl
theorem gq.of {M N : Mo} {j : Nat} (A : gq M j) (h1 : N.m.on = M.m.on) (h2 : N.C = M.C) : gq N j := A.ev (.rf h1 h2)
theorem aW.dO {M : Mo} {P : bD} {T : List UInt8 → Prop} (S : aW T M P) (F : P.Fits) (hot warm : Nat) (c : eA) (hT : T (c.keys.headD [])) :
  ∃ m, aW T (M.dO hot warm c).2 (P.dO m c).2 ∧ (M.dO hot warm c).1.vw = (P.dO m c).1 ∧ (∀ y, m.v = some y → P.f y ≠ none ∧ y ≠ c.keys.headD []) ∧ (M.dO hot warm c).2.v.mt.dr = (if m.v.isSome = true then 1 else 0) ∧ (gq M 1 → m = ⟨true, none⟩) := by
 unfold Mo.dO bD.dO
 split
 ·exact ⟨⟨true, none⟩, S.reset, rfl, (fun y e => by cases e), rfl, fun _ => rfl⟩
 obtain ⟨m, a, b, d⟩ := S.reset.fx F c hT
 have hd : (M.reset.fx c).2.v.mt.dr = (if m.v.isSome = true then 1 else 0) := by
  rw [d.dr]
  split <;> rfl
 split
 ·exact ⟨m, a.beside, b, d.v, by rw [vR]; exact hd, fun A => d.am (A.of rfl rfl)⟩
 exact ⟨m, a.mJ hot warm _, b, d.v, by rw [tR]; exact hd, fun A => d.am (A.of rfl rfl)⟩
def HF (M N : Mo) : Prop := ∃ A B, Ev M A ∧ (B = A ∨ ∃ c r, A.take c = some (r, B)) ∧ Ev B N
theorem Ev.one {M N : Mo} (E : Ev M N) : HF M N := ⟨N, N, E, .inl rfl, .rf rfl rfl⟩
theorem Ev.then {M N O : Mo} (E : Ev M N) (F : HF N O) : HF M O := by
 obtain ⟨A, B, h1, h2, h3⟩ := F
 exact ⟨A, B, E.trans h1, h2, h3⟩
theorem HF.then {M N O : Mo} (F : HF M N) (E : Ev N O) : HF M O := by
 obtain ⟨A, B, h1, h2, h3⟩ := F
 exact ⟨A, B, h1, h2, h3.trans E⟩
theorem Ev.over (M : Mo) (old : Option Nat) (ov : Bool) : Ev M (M.over old ov) := by
 unfold Mo.over
 split
 ·split
  ·exact Ev.bR M _
  exact .rf rfl rfl
 exact .rf rfl rfl
theorem rj {M : Mo} (K : Mi M) (hh : M.hole = none) (A : gq M 1) (n : Nat) (own : Option Nat) {o : Option Nat} {N : Mo} (h : M.room n own = (o, N)) : N = M ∨ ∃ c r, M.take c = some (r, N) := by
 cases hc : M.C.ae.findIdx? (fun z => decide (n ≤ z)) with
 | none =>
  unfold Mo.room at h
  rw [hc] at h
  cases h
  exact .inl rfl
 | some c =>
  obtain ⟨r, D, e, _, _, _, _, _, _, t⟩ := K.room hh (j := 0) A hc own
  rw [e] at h
  cases h
  exact .inr ⟨c, r, t⟩
theorem PD {M : Mo} (K : Mi M) (hh : M.hole = none) (A : gq M 1) (k : List UInt8) (old : Option Nat) (ov : Bool) (x : List UInt8 × Nat × Nat) : HF M (M.lays k old ov x).2 := by
 unfold Mo.lays
 rcases hr : M.room (58 + k.length + x.1.length) old with ⟨_ | r, N⟩
 ·exact ⟨M, N, .rf rfl rfl, rj K hh A _ _ hr, Ev.over _ _ _⟩
 exact ⟨M, N, .rf rfl rfl, rj K hh A _ _ hr, Ev.eX _ _ _ _⟩
theorem Ev.dz (dK : Bool) (ex : Int) (s : List I3 × Mo) (y : List UInt8) : Ev s.2 (Mo.dz dK ex s y).2 := by
 have e := Ev.meet s.2 y
 unfold Mo.dz
 rcases hm : s.2.meet y with ⟨_ | p, N⟩ <;> rw [hm] at e
 ·exact e
 cases dK
 ·exact e.trans (.rf rfl rfl)
 exact e.trans (.rf rfl rfl)
theorem Ev.lL (dK : Bool) (ex : Int) : ∀ (l : List (List UInt8)) (s : List I3 × Mo), Ev s.2 (l.foldl (Mo.dz dK ex) s).2
 | [], _ => .rf rfl rfl
 | y :: l, s => by rw [List.foldl_cons]; exact (Ev.dz dK ex s y).trans (Ev.lL dK ex l _)
theorem DO {M : Mo} {P : bD} {T : List UInt8 → Prop} (S : aW T M P) (A : gq M 1) (c : eA) : HF M (M.fx c).2 := by
 unfold Mo.fx
 split
 ·exact (Ev.lL _ _ c.keys ([], M)).one
 split
 ·have e := Ev.meet M (c.keys.headD [])
  have S1 := (S.meet (c.keys.headD [])).1
  have A1 := A.meet (c.keys.headD [])
  unfold Mo.counts
  rcases hm : M.meet (c.keys.headD []) with ⟨_ | p, N⟩ <;> rw [hm] at e S1 A1
  ·exact e.one
  dsimp only at S1 A1 ⊢
  cases NP (N.it p).val with
  | none => exact e.one
  | some n =>
   refine e.then ?_
   dsimp only
   unfold Mo.fP
   split
   ·exact Ev.one (by exact .rf rfl rfl)
   split
   ·exact Ev.one (by exact .rf rfl rfl)
   rcases hr : N.room (58 + (N.it p).key.length + (gJ (v7 c n)).length) (some p) with ⟨_ | r, R⟩
   ·exact ⟨N, R, .rf rfl rfl, rj S1.i S1.h A1 _ _ hr, .rf rfl rfl⟩
   exact ⟨N, R, .rf rfl rfl, rj S1.i S1.h A1 _ _ hr, by dsimp only; exact Ev.eX _ _ _ _⟩
 split
 ·have e := Ev.meet M (c.keys.headD [])
  unfold Mo.dQ
  rcases hm : M.meet (c.keys.headD []) with ⟨_ | p, N⟩ <;> rw [hm] at e
  ·exact e.one
  exact Ev.one (e.trans (by exact .rf rfl rfl))
 split
 ·have e := Ev.meet M (c.keys.headD [])
  unfold Mo.delete
  rcases hm : M.meet (c.keys.headD []) with ⟨_ | p, N⟩ <;> rw [hm] at e
  ·exact e.one
  exact Ev.one (e.trans (by exact Ev.bR _ _))
 split
 ·exact Ev.one (by exact .rf rfl rfl)
 split
 ·exact Ev.one (by exact .rf rfl rfl)
 split
 ·exact Ev.one (by exact .rf rfl rfl)
 split
 ·exact Ev.one (by exact .rf rfl rfl)
 have e := Ev.meet M (c.keys.headD [])
 have S1 := (S.meet (c.keys.headD [])).1
 have A1 := A.meet (c.keys.headD [])
 unfold Mo.cG
 refine e.then ?_
 unfold Mo.gP
 split
 ·exact (Ev.over _ _ _).one
 split
 ·exact Ev.one (by exact .rf rfl rfl)
 split
 ·exact Ev.one (by exact .rf rfl rfl)
 exact PD S1.i S1.h A1 _ _ _ _
theorem Oh {M N : Mo} {c r : Nat} (h : M.take c = some (r, N)) : M.C.spare ≤ N.C.spare + 1 ∧ N.m = M.m := by
 unfold Mo.take at h
 split at h
 ·next p D hD =>
  cases h
  refine ⟨?_, rfl⟩
  unfold Cs.dw at hD
  split at hD
  ·cases hD; exact Nat.le_succ _
  split at hD
  ·cases hD
  next i _ =>
  split at hD
  ·cases hD
   show M.C.spare ≤ M.C.spare - 1 + 1
   omega
  cases hD
 cases h
theorem HF.amp {M N : Mo} {j : Nat} (A : gq M (j + 1)) (E : HF M N) : gq N j := by
 obtain ⟨B, D, h1, h2, h3⟩ := E
 have A1 := A.ev h1
 have A2 : gq D j := by
  rcases h2 with rfl | ⟨c, r, h⟩
  ·exact A1.le (Nat.le_succ j)
  obtain ⟨g1, g2⟩ := Oh h
  exact ⟨by rw [g2]; exact A1.on, by have := A1.sp; omega⟩
 exact A2.ev h3
theorem ZV {M : Mo} {P : bD} {T : List UInt8 → Prop} (S : aW T M P) {j : Nat} (A : gq M (j + 2)) (hot warm : Nat) (c : eA) : HF M (M.dO hot warm c).2 := by
 have E0 : Ev M M.reset := .rf rfl rfl
 unfold Mo.dO
 split
 ·exact E0.one
 have A0 : gq M.reset (j + 1 + 1) := A.ev E0
 have E := DO S.reset (A0.le (Nat.succ_le_succ (Nat.zero_le _))) c
 have A1 := E.amp A0
 split
 ·exact E0.then (E.then (A1.le (Nat.succ_le_succ (Nat.zero_le _))).beside)
 exact E0.then (E.then (gq.mJ hot warm _ A1))
theorem V6 {M : Mo} {P : bD} {T : List UInt8 → Prop} (S : aW T M P) {j : Nat} (A : gq M (j + 2)) (hot warm : Nat) (c : eA) : gq (M.dO hot warm c).2 (j + 1) := (ZV S A hot warm c).amp A
structure WU (M : Mo) (s : Nat) : Prop where
 st : M.m.st ≤ s
 tn : M.tn ≤ s
 bm : M.v.bm ≤ s
theorem V5 {M : Mo} {P : bD} {T : List UInt8 → Prop} (S : aW T M P) {s : Nat} (R : WU M s) (hot warm : Nat) (c : eA) : WU (M.dO hot warm c).2 (s + c.keys.length + 1) ∧ (M.dO hot warm c).2.v.p = M.v.p ∧ (M.dO hot warm c).2.v.c = M.v.c := by
 have r1 := R.st
 have r2 := R.tn
 have r3 := R.bm
 unfold Mo.dO
 split
 ·exact ⟨⟨by show M.m.st ≤ _; omega, by show M.tn ≤ _; omega, by show M.v.bm ≤ _; omega⟩, rfl, rfl⟩
 have KD := DN S.reset.i.co S.h c
 have k1 : _ = M.m.st := KD.st
 have k2 : _ ≤ M.v.bm + 1 := KD.bm
 have k3 : _ ≤ M.tn + max c.keys.length 1 := KD.tn
 have k4 : _ = M.v.p := KD.p
 have k5 : _ = M.v.c := KD.c
 generalize (M.reset.fx c).2 = N at *
 split
 ·have B := mS N
  have b1 := B.st
  have b2 := B.bm
  have b3 := B.tn
  exact ⟨⟨by dsimp only; omega, by dsimp only; omega, by dsimp only; omega⟩, B.p.trans k4, B.c.trans k5⟩
 have B := n9 hot warm c.keys N
 have b1 := B.st
 have b2 := B.bm
 have b3 := B.tn
 exact ⟨⟨by dsimp only; omega, by dsimp only; omega, by dsimp only; omega⟩, B.p.trans k4, B.c.trans k5⟩
theorem yd (P : bD) (m : Rm) : (P.rm m).c = P.c ∧ (P.rm m).z = P.z := by
 unfold bD.rm
 split <;> exact ⟨rfl, rfl⟩
theorem w8 (P : bD) (k : List UInt8) (ov : Bool) : (P.over k ov).c = P.c ∧ (P.over k ov).z = P.z := by
 unfold bD.over
 split <;> exact ⟨rfl, rfl⟩
theorem DD (dK : Bool) (ex : Int) : ∀ (l : List (List UInt8)) (s : List I3 × bD), (l.foldl (bD.dz dK ex) s).2.c = s.2.c ∧ (l.foldl (bD.dz dK ex) s).2.z = s.2.z
 | [], _ => ⟨rfl, rfl⟩
 | y :: l, s => by
  obtain ⟨a, b⟩ := DD dK ex l (bD.dz dK ex s y)
  have h : (bD.dz dK ex s y).2.c = s.2.c ∧ (bD.dz dK ex s y).2.z = s.2.z := by
   unfold bD.dz
   split <;> exact ⟨rfl, rfl⟩
  exact ⟨a.trans h.1, b.trans h.2⟩
theorem ZW (m : Rm) (P : bD) (c : eA) : (P.dO m c).2.c = P.c ∧ (P.dO m c).2.z = P.z := by
 unfold bD.dO
 split
 ·exact ⟨rfl, rfl⟩
 unfold bD.fx
 split
 ·exact DD _ _ c.keys ([], P)
 split
 ·unfold bD.counts
  split
  ·exact ⟨rfl, rfl⟩
  split
  ·exact ⟨rfl, rfl⟩
  unfold bD.fP
  split
  ·exact ⟨rfl, rfl⟩
  split
  ·exact ⟨rfl, rfl⟩
  split
  ·exact yd P m
  exact yd P m
 split
 ·unfold bD.dQ
  split <;> exact ⟨rfl, rfl⟩
 split
 ·unfold bD.delete
  split <;> exact ⟨rfl, rfl⟩
 split
 ·exact ⟨rfl, rfl⟩
 split
 ·exact ⟨rfl, rfl⟩
 split
 ·exact ⟨rfl, rfl⟩
 split
 ·exact ⟨rfl, rfl⟩
 unfold bD.cG
 split
 ·exact w8 _ _ _
 split
 ·exact ⟨rfl, rfl⟩
 split
 ·exact ⟨rfl, rfl⟩
 unfold bD.lays
 split
 ·exact yd P m
 exact ⟨(w8 _ _ _).1.trans (yd P m).1, (w8 _ _ _).2.trans (yd P m).2⟩
theorem xp {m : Rm} {P : bD} {c : eA} (F : P.Fits) : (P.dO m c).2.Fits := by
 obtain ⟨a, b⟩ := ZW m P c
 unfold bD.Fits
 rw [a, b]
 exact F
theorem E5 {l : List Nat} {p : Nat} (nd : l.Nodup) (h : p ∈ l) (g : ∀ q ∈ l, q = p) : l.length = 1 := by
 cases l with
 | nil => cases h
 | cons a r =>
  cases r with
  | nil => rfl
  | cons b r =>
   have h1 := g a List.mem_cons_self
   have h2 := g b (List.mem_cons_of_mem _ List.mem_cons_self)
   rw [h1, h2] at nd
   exact absurd List.mem_cons_self (List.nodup_cons.1 nd).1
theorem Ds {B : Bx} {M : Mo} {P : bD} {k : List UInt8} (O : bT B M) (S : aW (fun y => y = k) M P) (h : P.f k ≠ none) : M.n = 1 := by
 cases hx : P.f k with
 | none => exact absurd hx h
 | some x =>
  rw [S.f] at hx
  obtain ⟨p, h1, h2, _, _⟩ := (ml S.i.p).1 hx
  rw [← O.n, O.t.n]
  refine E5 O.t.nd ((O.al p).2 h1) fun q hq => ?_
  have g := (O.al q).1 hq
  exact S.i.p.kd q p g h1 ((S.t q g).trans h2.symm)
theorem Dd {c : lA} {pc : uH} {k : Ck} {q : Nat} (h : (dY c pc k).has q) : False := by
 obtain ⟨i, hi⟩ := h
 rw [show (dY c pc k).Q = List.replicate ((cy c).ae.length * 3) [] from rfl, AK] at hi
 cases hi
def rV (c : lA) : bD := ⟨fun _ => none, ⟨1, 0, 0⟩, 0, c, bX c⟩
theorem yM {c : lA} (h : gX c = 0) (pc : uH) (T : List UInt8 → Prop) : aW T (dY c pc ⟨1, 0, 0⟩) (rV c) := by
 have O := De h pc ⟨1, 0, 0⟩ ⟨Nat.le_refl _, by decide, by decide, fun h => absurd rfl h, by decide⟩ 0
 refine ⟨O.mi, rfl, ?_, fun q hq => (Dd hq).elim⟩
 unfold Mo.ps rV
 rw [show (dY c pc ⟨1, 0, 0⟩).jO = fun _ => none from funext fun z => wV fun q hq => (Dd hq).elim]
 rfl
theorem Df (c : lA) (pc : uH) (k : Ck) : gq (dY c pc k) c.bj.toNat := ⟨rfl, Nat.le_refl _⟩
theorem Dc (c : lA) (pc : uH) (k : Ck) : WU (dY c pc k) 0 := ⟨Nat.le_refl _, Nat.le_refl _, Nat.le_refl _⟩
theorem DH {P : bD} {z : Nat} (h : z ∈ P.z) (hl : P.c.lim ≤ z) : P.Fits := fun n hn => by
 cases hf : P.z.findIdx? (fun z => decide (n ≤ z)) with
 | some c => exact ⟨c, rfl⟩
 | none =>
  have := List.findIdx?_eq_none_iff.1 hf z h
  simp only [decide_eq_false_iff_not] at this
  omega
theorem Dr {M : Mo} {P : bD} {T : List UInt8 → Prop} (S : aW T M P) {k : List UInt8} {x : I3} {c : Nat} (h : P.f k = some (x, c)) : ∃ p, M.live k = some p ∧ (M.it p).vw = x := by
 rw [S.f] at h
 unfold Mo.jO at h
 cases hl : M.live k with
 | none => rw [hl] at h; cases h
 | some p =>
  rw [hl] at h
  simp only [Option.map_some, Option.some.injEq] at h
  exact ⟨p, rfl, congrArg Prod.fst h⟩
def He : Rm := ⟨true, none⟩
theorem oR {M : Mo} {P : bD} {T : List UInt8 → Prop} (S : aW T M P) (F : P.Fits) {j s : Nat} (A : gq M (j + 2)) (R : WU M s) (hot warm : Nat) (c : eA) (hT : T (c.keys.headD [])) :
  (aW T (M.dO hot warm c).2 (P.dO He c).2 ∧ (M.dO hot warm c).1.vw = (P.dO He c).1 ∧ gq (M.dO hot warm c).2 (j + 1) ∧ WU (M.dO hot warm c).2 (s + c.keys.length + 1)) ∧ (M.dO hot warm c).2.v.p = M.v.p ∧ (M.dO hot warm c).2.v.c = M.v.c := by
 obtain ⟨m, a, b, _, _, h⟩ := S.dO F hot warm c hT
 obtain rfl := h (A.le (Nat.succ_le_succ (Nat.zero_le _)))
 obtain ⟨r1, r2, r3⟩ := V5 S R hot warm c
 exact ⟨⟨a, b, V6 S A hot warm c, r1⟩, r2, r3⟩
structure Rdy (M : Mo) : Prop where
 h : M.hole = none
 st : M.m.st ≤ 1000
 tn : M.tn ≤ 1000
 bm : M.v.bm ≤ 1000
 p : x9 M.v.p
 lim : M.v.c.lim ≤ 1048576
structure WT (M : Mo) (c : eA) : Prop where
 r : Rdy M
 a : gq M 1
 b : gq (M.reset.fx c).2 1
theorem wx {M : Mo} {P : bD} {T : List UInt8 → Prop} (S : aW T M P) {s : Nat} (R : WU M s) (hs : s ≤ 1000) (hp : x9 M.v.p) (hl : M.v.c.lim ≤ 1048576) : Rdy M := ⟨S.h, Nat.le_trans R.st hs, Nat.le_trans R.tn hs, Nat.le_trans R.bm hs, hp, hl⟩
theorem wy {M : Mo} {P : bD} {T : List UInt8 → Prop} (S : aW T M P) {j : Nat} (A : gq M (j + 2)) (R : Rdy M) (c : eA) : WT M c := ⟨R, A.le (Nat.succ_le_succ (Nat.zero_le _)), ((DO S.reset ((A.le (Nat.succ_le_succ (Nat.zero_le _))).of rfl rfl) c).amp (A.of rfl rfl : gq M.reset (j + 1 + 1))).le (Nat.succ_le_succ (Nat.zero_le _))⟩
theorem oV : x9 dB := ⟨by decide, by decide, by decide, by decide⟩
def cW : lA := ⟨4096, 4, 200, 64, 256, 30, 30⟩
def pD (v : Int) (fl tok : Nat) (b : UInt8) : eA := ⟨v, [[97]], fl, 0, tok, 0, [b], false, false, []⟩
theorem Wa : gX cW = 0 := by decide +kernel
theorem V9 : ke cW dB = 0 := by decide +kernel
theorem pW1 : ((rV cW).dO He (pD 5 5 0 120)).1.kind = 1 := by kernel_rfl
theorem pW2 : (((rV cW).dO He (pD 5 5 0 120)).2.dO He (pD 10 0 1 121)).1.kind = 1 := by kernel_rfl
theorem pW3 : ((((rV cW).dO He (pD 5 5 0 120)).2.dO He (pD 10 0 1 121)).2.dO He (pD 10 0 1 122)).1.kind = 3 := by kernel_rfl
theorem pWf : ((((rV cW).dO He (pD 5 5 0 120)).2.dO He (pD 10 0 1 121)).2.dO He (pD 10 0 1 122)).2.f [97] = some (⟨[97], [121], 0, 0, 1, 2, 0⟩, 0) := by kernel_rfl
theorem zo (hot warm : Nat) : ∀ r1 r2 r3, (dY cW dB ⟨1, 0, 0⟩).dO hot warm (pD 5 5 0 120) = r1 → r1.2.dO hot warm (pD 10 0 1 121) = r2 → r2.2.dO hot warm (pD 10 0 1 122) = r3 →
  ((WT (dY cW dB ⟨1, 0, 0⟩) (pD 5 5 0 120) ∧ WT r1.2 (pD 10 0 1 121) ∧ WT r2.2 (pD 10 0 1 122)) ∧ r1.1.kind = 1 ∧ r2.1.kind = 1 ∧ r3.1.kind = 3) ∧ ∃ P, aW (fun y => y = [97]) r3.2 P ∧ P.f [97] = some (⟨[97], [121], 0, 0, 1, 2, 0⟩, 0) := by
 intro r1 r2 r3 e1 e2 e3
 have w0 : (dY cW dB ⟨1, 0, 0⟩).v.c.lim ≤ 1048576 := show (256 : Int) ≤ 1048576 by decide
 have F0 : (rV cW).Fits := DH (z := 256) (show 256 ∈ bX cW by decide +kernel) (by decide)
 have S0 : aW (fun y => y = [97]) (dY cW dB ⟨1, 0, 0⟩) (rV cW) := yM Wa dB _
 have A0 : gq (dY cW dB ⟨1, 0, 0⟩) (2 + 2) := Df cW dB _
 have R0 := Dc cW dB ⟨1, 0, 0⟩
 obtain ⟨⟨S1, k1, A1, R1⟩, p1, c1⟩ := oR S0 F0 A0 R0 hot warm (pD 5 5 0 120) rfl
 rw [e1] at S1 k1 A1 R1 p1 c1
 obtain ⟨⟨S2, k2, A2, R2⟩, p2, c2⟩ := oR S1 (xp F0) A1 R1 hot warm (pD 10 0 1 121) rfl
 rw [e2] at S2 k2 A2 R2 p2 c2
 obtain ⟨⟨S3, k3, A3, R3⟩, p3, c3⟩ := oR S2 (xp (xp F0)) (j := 0) A2 R2 hot warm (pD 10 0 1 122) rfl
 rw [e3] at S3 k3 A3 R3
 exact ⟨⟨⟨wy S0 A0 (wx S0 R0 (by decide) oV w0) _, wy S1 A1 (wx S1 R1 (by decide) (p1.symm ▸ oV) (c1.symm ▸ w0)) _, wy S2 (j := 0) A2 (wx S2 R2 (by decide) (p2.symm ▸ p1.symm ▸ oV) (c2.symm ▸ c1.symm ▸ w0)) _⟩, (congrArg eH.kind k1).trans pW1, (congrArg eH.kind k2).trans pW2, (congrArg eH.kind k3).trans pW3⟩, _, S3, pWf⟩
def cA : lA := ⟨4096, 64, 200, 64, 512, 30, 30⟩
def QQ (i : Nat) : eA := ⟨5, [[107]], i, 0, 0, 0, [], false, false, []⟩
theorem Wc : gX cA = 0 := by decide +kernel
theorem Wb : ke cA dB = 0 := by decide +kernel
def Goo (i : Nat) (M : Mo) : Prop := ∃ P, aW (fun y => y = [107]) M P ∧ P.f [107] = some (⟨[107], [], i, 0, 1, 1, 0⟩, 0)
theorem Y5 {i : Nat} (h : i < 12) : ((rV cA).dO He (QQ i)).2.f [107] = some (⟨[107], [], i, 0, 1, 1, 0⟩, 0) := by
 obtain rfl | rfl | rfl | rfl | rfl | rfl | rfl | rfl | rfl | rfl | rfl | rfl : i = 0 ∨ i = 1 ∨ i = 2 ∨ i = 3 ∨ i = 4 ∨ i = 5 ∨ i = 6 ∨ i = 7 ∨ i = 8 ∨ i = 9 ∨ i = 10 ∨ i = 11 := by omega
 all_goals kernel_rfl
theorem zT (hot warm : Nat) {i : Nat} (h : i < 12) : WT (dY cA dB ⟨1, 0, 0⟩) (QQ i) ∧ Goo i ((dY cA dB ⟨1, 0, 0⟩).dO hot warm (QQ i)).2 := by
 have S0 : aW (fun y => y = [107]) (dY cA dB ⟨1, 0, 0⟩) (rV cA) := yM Wc dB _
 have A0 : gq (dY cA dB ⟨1, 0, 0⟩) (62 + 2) := Df cA dB _
 have R0 := Dc cA dB ⟨1, 0, 0⟩
 obtain ⟨⟨S1, k1, A1, R1⟩, p1, c1⟩ := oR S0 (DH (P := rV cA) (z := 512) (show 512 ∈ bX cA by decide +kernel) (by decide)) A0 R0 hot warm (QQ i) rfl
 exact ⟨wy S0 A0 (wx S0 R0 (by decide) oV (show (512 : Int) ≤ 1048576 by decide)) _, _, S1, Y5 h⟩
theorem aW.aQ {M : Mo} {P : bD} {T : List UInt8 → Prop} (S : aW T M P) (a : Option Addr) (c : Nat) : aW T (M.aQ a c) P := S.go ⟨S.i.rf S.i.x rfl rfl rfl rfl rfl rfl rfl rfl, dt S.i.p rfl rfl rfl⟩ S.h rfl rfl
def vT (fac n : Nat) : Nat := max (((n * fac + 99) / 100 + 7) / 8 * 8) (n + 8)
def jP (fac last : Nat) : Nat → Nat → List Nat
 | 0, _ => []
 | k + 1, n => if last ≤ n then [] else n :: jP fac last k (vT fac n)
theorem jk (fac last k n : Nat) (h : last ≤ n) : jP fac last k n = [] := by
 cases k with
 | zero => rfl
 | succ k => unfold jP; rw [if_pos h]
theorem vq (fac last : Nat) : ∀ (k j n : Nat), last - n ≤ k → last - n ≤ j → jP fac last k n = jP fac last j n
 | 0, j, n, h, _ => by rw [jk fac last j n (by omega)]; rfl
 | k + 1, 0, n, _, h => by rw [jk fac last (k + 1) n (by omega)]; rfl
 | k + 1, j + 1, n, h1, h2 => by
  unfold jP
  split
  ·rfl
  have : n + 8 ≤ vT fac n := Nat.le_max_right _ _
  rw [vq fac last k j (vT fac n) (by omega) (by omega)]
theorem pW (fac last n : Nat) (h : n < last) : jP fac last (last - n) n = n :: jP fac last (last - vT fac n) (vT fac n) := by
 obtain ⟨k, hk⟩ : ∃ k, last - n = k + 1 := ⟨last - n - 1, by omega⟩
 have : n + 8 ≤ vT fac n := Nat.le_max_right _ _
 rw [hk]
 conv => lhs; unfold jP
 rw [if_neg (by omega), vq fac last k (last - vT fac n) _ (by omega) (by omega)]
theorem UD {fac n : Nat} (h1 : 105 ≤ fac) (h2 : 64 ≤ n) (h3 : n % 8 = 0) : vT fac n = (n * fac + 799) / 800 * 8 := by
 unfold vT
 have : n * 105 ≤ n * fac := Nat.mul_le_mul_left n h1
 generalize n * fac = x at *
 omega
theorem CR {fac last : Nat} (hf : 105 ≤ fac) (hl : last % 8 = 0) : ∀ (k n : Nat), 64 ≤ n → n % 8 = 0 → n ≤ last →
  ((jP fac last (last - n) n).length ≤ k → mY fac last k n = jP fac last (last - n) n ++ [last]) ∧ (k < (jP fac last (last - n) n).length → (mY fac last k n).length = k + 1)
 | 0, n, h1, h2, h3 => by
  refine ⟨fun h => ?_, fun _ => rfl⟩
  by_cases e : n = last
  ·rw [jk _ _ _ _ (by omega), e]; rfl
  rw [pW fac last n (by omega), List.length_cons] at h; omega
 | k + 1, n, h1, h2, h3 => by
  by_cases e : n = last
  ·rw [jk _ _ _ _ (by omega)]
   refine ⟨fun _ => ?_, fun h => by simp at h⟩
   unfold mY
   rw [if_pos (by omega), e]; rfl
  have st := pW fac last n (by omega)
  have nx := UD hf h1 h2
  have ge : n + 8 ≤ vT fac n := Nat.le_max_right _ _
  have e2 : mY fac last (k + 1) n = n :: mY fac last k (min last (vT fac n)) := by
   conv => lhs; unfold mY
   rw [if_neg (by omega), nx]
  have e3 : jP fac last (last - min last (vT fac n)) (min last (vT fac n)) = jP fac last (last - vT fac n) (vT fac n) := by
   by_cases g : last ≤ vT fac n
   ·rw [Nat.min_eq_left g, jk _ _ _ _ g, jk _ _ _ _ (Nat.le_refl _)]
   rw [Nat.min_eq_right (by omega)]
  obtain ⟨a, b⟩ := CR hf hl k (min last (vT fac n)) (by omega) (by rw [nx]; omega) (by omega)
  rw [e3] at a b
  rw [st, e2, List.length_cons]
  refine ⟨fun h => ?_, fun h => ?_⟩
  ·rw [a (by omega)]; rfl
  rw [List.length_cons, b (by omega)]
def Ei (c : lA) : List Nat := jP c.fac.toNat (eB c) (eB c - c.aM.toNat) c.aM.toNat ++ [eB c]
theorem OE {c : lA} (h : ja c = true) : (62 < (Ei c).length ↔ 62 < (bX c).length) ∧ (¬ 62 < (Ei c).length → Ei c = bX c) := by
 obtain ⟨h1, h2, h3, h4, h5, h6, h7, h8, h9, h10, Xz, HD⟩ := of_decide_eq_true h
 have hl : eB c % 8 = 0 := by unfold eB; omega
 have hm : c.aM.toNat ≤ eB c := by unfold eB; omega
 obtain ⟨a, b⟩ := CR (fac := c.fac.toNat) (by omega) hl 62 c.aM.toNat (by omega) (by omega) hm
 unfold Ei bX
 rw [List.length_append, List.length_singleton]
 by_cases g : (jP c.fac.toNat (eB c) (eB c - c.aM.toNat) c.aM.toNat).length ≤ 62
 ·rw [a g, List.length_append, List.length_singleton]
  exact ⟨Iff.rfl, fun _ => rfl⟩
 rw [b (by omega)]
 exact ⟨⟨fun _ => by omega, fun _ => by omega⟩, fun h => absurd (by omega) h⟩
end Go.Proofs.YtpgbeapapmdkcaaGreatDoor
