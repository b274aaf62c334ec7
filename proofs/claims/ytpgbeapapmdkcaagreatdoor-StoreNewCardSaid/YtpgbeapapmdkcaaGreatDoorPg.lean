/- Part Pg of the proof. -/
import Derived.Test.YtpgbeapapmdkcaaGreatDoorPd
import Derived.Test.YtpgbeapapmdkcaaGreatDoorPf
set_option maxRecDepth 100000
namespace Go.Proofs.YtpgbeapapmdkcaaGreatDoor
open Go Go.cQ Go.Proofs.YtpgbeapapmdkcaaGreatDoor.Cs
theorem Cs.xK.wA {C : Cs} {c p : Nat} (h : xK C c p) (A : By) : xK (C.wA A) c p := ⟨⟨h.i, h.own, h.al, h.k⟩, h.cl, h.tk, h.lv⟩
theorem Cs.xK.ofA {C : Cs} {c p : Nat} {A : By} (h : xK (C.wA A) c p) : xK C c p := ⟨⟨h.i, h.own, h.al, h.k⟩, h.cl, h.tk, h.lv⟩
theorem Cs.Ok.wA {C : Cs} (K : Ok C) (A : By) : Ok (C.wA A) :=
 ⟨⟨K.p0, K.p1, K.p8, K.n0, K.n1, K.l0, K.l1, K.s0, K.pl, K.rl⟩, fun x h => ⟨(K.pg x h).cl, (K.pg x h).gl, (K.pg x h).tl, (K.pg x h).QP, (K.pg x h).Nn, (K.pg x h).nd, (K.pg x h).held, (K.pg x h).no⟩,
  fun c p h => (K.fr c p h).wA A, K.fn, fun c p h => K.fa c p h.ofA, K.ft, K.fp, K.fs, K.sp⟩
theorem Cs.At.wA {C : Cs} {p : Nat} (h : At C p) (A : By) : At (C.wA A) p := ⟨h.i, h.own, h.al, h.k⟩
theorem Cs.Live.wA {C : Cs} {p : Nat} (h : Live C p) (A : By) : Live (C.wA A) p := ⟨h.toAt.wA A, h.tk⟩
theorem cP (C : Cs) (A : By) : (C.wA A).A = A := rfl
theorem WN {C : Cs} (K : Ok C) {p q : Nat} (L : At C p) (M : At C q) {a n o w : Nat} (ha : a + n ≤ C.sz (C.cl q)) (ho : o + w ≤ C.sz (C.cl p)) (h : p = q → a + n ≤ o ∨ o + w ≤ a) : p + o + w ≤ q + a ∨ q + a + n ≤ p + o := by
 by_cases e : p = q
 ·subst e
  rcases h rfl with h | h <;> omega
 ·rcases apart K L M e with h | h <;> omega
theorem jc {C : Cs} (K : Ok C) {p q : Nat} (L : At C p) (M : At C q) {a n v o w : Nat} (ha : a + n ≤ C.sz (C.cl q)) (ho : o + w ≤ C.sz (C.cl p)) (h : p = q → a + n ≤ o ∨ o + w ≤ a) : rd (wr C.A (q + a) n v) (p + o) w = rd C.A (p + o) w :=
 aG _ _ _ _ _ _ (WN K L M ha ho h)
theorem C0 {C : Cs} (K : Ok C) {p q : Nat} (L : At C p) (M : At C q) {a n v o w : Nat} (ha : a + n ≤ C.sz (C.cl q)) (ho : o + w ≤ C.sz (C.cl p)) (h : p = q → a + n ≤ o ∨ o + w ≤ a) : ik (wr C.A (q + a) n v) (p + o) w = ik C.A (p + o) w :=
 tI _ _ _ _ _ _ (WN K L M ha ho h)
structure Kept (C : Cs) (A : By) (p : Nat) : Prop where
 kl : kl A p = kl C.A p
 vl : vl A p = vl C.A p
 key : aI A p = aI C.A p
 it : gk C p → gk (C.wA A) p
theorem rC {C : Cs} (K : Ok C) {p q : Nat} (L : At C p) (M : At C q) (I : gk C p) {a n v : Nat} (ha : a + n ≤ 12) : Kept C (wr C.A (q + a) n v) p := by
 have n1 := (L.bh K).2.1
 have m1 := (M.bh K).2.1
 have hf := I.fits
 have e1 : kl (wr C.A (q + a) n v) p = kl C.A p := jc K L M (by omega) (by omega) (fun _ => by omega)
 have e2 : vl (wr C.A (q + a) n v) p = vl C.A p := jc K L M (by omega) (by omega) (fun _ => by omega)
 refine ⟨e1, e2, ?_, fun J => ⟨?_, ?_, ?_, ?_⟩⟩
 ·unfold aI
  rw [e1]
  exact C0 K L M (by omega) (by omega) (fun _ => by omega)
 ·rw [cP, e1]; exact J.k0
 ·rw [cP, e1, e2]; exact J.fits
 ·rw [cP, jc K L M (by omega) (by omega) (fun _ => by omega)]; exact J.exp
 rw [cP, jc K L M (by omega) (by omega) (fun _ => by omega)]; exact J.tch
def Eb (A : By) : List Nat → Prop
 | [] => True
 | p :: l => rd A p 4 = nO l.head? ∧ Eb A l
structure Tb where
 aC : Nat
 n : Nat
 size : Nat
 nb : List (List Nat)
 ob : List (List Nat)
 mv : Nat
 st : Nat
namespace Tb
def bk (T : Tb) (h : Nat) : Bool × Nat := if 0 < T.ob.length ∧ T.mv ≤ h % T.ob.length then (true, h % T.ob.length) else (false, h % T.nb.length)
def ch (T : Tb) (x : Bool × Nat) : List Nat := if x.1 then T.ob.getD x.2 [] else T.nb.getD x.2 []
def bW (T : Tb) (x : Bool × Nat) (c : List Nat) : Tb := if x.1 then { T with ob := T.ob.set x.2 c } else { T with nb := T.nb.set x.2 c }
def all (T : Tb) : List Nat := T.nb.flatten ++ T.ob.flatten
end Tb
def Ye (z : Int) (c : UInt8) : Int := IntKind.u64.wrap (IntKind.u64.wrap ((BitVec.ofInt 64 z ^^^ BitVec.ofInt 64 (c.toNat : Int)).toNat : Int) * 1099511628211)
def NC (l : List UInt8) : Int := l.foldl Ye 14695981039346656037
def bJ (l : List UInt8) : Nat := (NC l).toNat
theorem y4 (l : List UInt8) (c : UInt8) : NC (l ++ [c]) = Ye (NC l) c := by unfold NC; rw [List.foldl_append]; rfl
theorem Ey (z : Int) : 0 ≤ IntKind.u64.wrap z ∧ IntKind.u64.wrap z < 18446744073709551616 := by
 rw [IntKind.wrap_u64]
 omega
theorem Fk (l : List UInt8) : 0 ≤ NC l ∧ NC l < 18446744073709551616 := by
 rcases List.eq_nil_or_concat l with rfl | ⟨m, c, rfl⟩
 ·decide
 rw [List.concat_eq_append, y4]; exact Ey _
theorem DG (l : List UInt8) : NC l = (bJ l : Int) ∧ bJ l < 18446744073709551616 := by
 have := Fk l
 unfold bJ
 omega
structure cz (C : Cs) (T : Tb) : Prop where
 pw : ∃ m, m ≤ 20 ∧ T.nb.length = 2 ^ m
 po : T.ob = [] ∨ ∃ m, m ≤ 20 ∧ T.ob.length = 2 ^ m
 st : (T.st = 0 ∧ T.ob = []) ∨ (T.st = 2 ∧ 0 < T.ob.length ∧ T.mv ≤ T.ob.length)
 mp : ∃ m, m ≤ 20 ∧ T.aC = 2 ^ m
 sz : T.size = T.nb.length
 MR : 16 ≤ T.size
 sm : T.size ≤ T.aC
 mv : T.mv ≤ 1048576
 n : T.n = T.all.length
 nd : T.all.Nodup
 li : ∀ x, Eb C.A (T.ch x)
 lv : ∀ p ∈ T.all, Live C p
 it : ∀ p ∈ T.all, gk C p
 bu : ∀ x p, p ∈ T.ch x → T.bk (bJ (aI C.A p)) = x
 kd : ∀ p ∈ T.all, ∀ q ∈ T.all, aI C.A p = aI C.A q → p = q
theorem Tb.Dj {T : Tb} {p : Nat} : p ∈ T.all ↔ ∃ x, p ∈ T.ch x := by
 unfold all ch
 rw [List.mem_append, List.mem_flatten, List.mem_flatten]
 constructor
 ·rintro (⟨l, h1, h2⟩ | ⟨l, h1, h2⟩)
  ·obtain ⟨i, hi, rfl⟩ := List.getElem_of_mem h1
   exact ⟨(false, i), by simpa [List.getD_eq_getElem?_getD, hi] using h2⟩
  obtain ⟨i, hi, rfl⟩ := List.getElem_of_mem h1
  exact ⟨(true, i), by simpa [List.getD_eq_getElem?_getD, hi] using h2⟩
 rintro ⟨⟨f, i⟩, h⟩
 rcases f with _ | _
 ·left
  simp only [Bool.false_eq_true, if_false, List.getD_eq_getElem?_getD] at h
  by_cases hi : i < T.nb.length
  ·rw [List.getElem?_eq_getElem hi] at h
   exact ⟨_, List.getElem_mem hi, h⟩
  rw [List.getElem?_eq_none (by omega)] at h
  cases h
 right
 simp only [if_true, List.getD_eq_getElem?_getD] at h
 by_cases hi : i < T.ob.length
 ·rw [List.getElem?_eq_getElem hi] at h
  exact ⟨_, List.getElem_mem hi, h⟩
 rw [List.getElem?_eq_none (by omega)] at h
 cases h
theorem Tb.fQ {T : Tb} {x : Bool × Nat} {p : Nat} (h : p ∈ T.ch x) : p ∈ T.all := Dj.2 ⟨x, h⟩
theorem Tb.lr (T : Tb) (x : Bool × Nat) : List.Sublist (T.ch x) T.all := by
 unfold ch all
 rcases x with ⟨f, i⟩
 have g : ∀ (L : List (List Nat)), List.Sublist (L.getD i []) L.flatten := fun L => by
  by_cases hi : i < L.length
  ·rw [List.getD_eq_getElem?_getD, List.getElem?_eq_getElem hi]
   exact List.sublist_flatten_of_mem (List.getElem_mem hi)
  rw [List.getD_eq_getElem?_getD, List.getElem?_eq_none (by omega)]
  exact List.nil_sublist _
 rcases f with _ | _
 ·exact (g T.nb).trans (List.sublist_append_left _ _)
 exact (g T.ob).trans (List.sublist_append_right _ _)
def Tb.get (T : Tb) (C : Cs) (k : List UInt8) : Option Nat := T.all.find? fun p => decide (aI C.A p = k)
theorem get_some {C : Cs} {T : Tb} (O : cz C T) {p : Nat} {k : List UInt8} (h : p ∈ T.all) (hk : aI C.A p = k) : T.get C k = some p := by
 unfold Tb.get
 cases hf : T.all.find? (fun p => decide (aI C.A p = k)) with
 | none => exact absurd hk (by simpa using List.find?_eq_none.1 hf p h)
 | some q =>
  have h1 := List.mem_of_find?_eq_some hf
  have h2 := List.find?_some hf
  rw [O.kd p h q h1 (by rw [hk, of_decide_eq_true h2])]
theorem get_none {C : Cs} {T : Tb} {k : List UInt8} (h : ∀ p ∈ T.all, aI C.A p ≠ k) : T.get C k = none := by
 unfold Tb.get
 rw [List.find?_eq_none]
 intro p hp
 simpa using h p hp
theorem Be {C : Cs} {T : Tb} (O : cz C T) {p : Nat} (h : p ∈ T.all) : p ∈ T.ch (T.bk (bJ (aI C.A p))) := by
 obtain ⟨x, hx⟩ := Tb.Dj.1 h
 rw [O.bu x p hx]; exact hx
theorem pM {C : Cs} {T : Tb} (O : cz C T) (x : Bool × Nat) : (T.ch x).length ≤ T.n := by
 rw [O.n]
 exact (T.lr x).length_le
theorem pI {A : By} : ∀ {l : List Nat} {k : Nat} (_ : Eb A l) (hk : k < l.length), rd A l[k] 4 = nO (l.drop (k + 1)).head?
 | _ :: l, 0, h, _ => h.1
 | _ :: l, k + 1, h, hk => pI (l := l) h.2 (by simpa using hk)
open Go Go.cQ Go.Proofs.YtpgbeapapmdkcaaGreatDoor.Cs
theorem EA {l : List UInt8} {k : Nat} (h : k < l.length) : l.take (k + 1) = l.take k ++ [l[k]] := by
 rw [List.take_add_one, List.getElem?_eq_getElem h]; rfl
theorem TD (a : Option Addr) (m c : Nat) (l : List UInt8) (hm : m = l.length) (hl : l.length < 281474976710656) :
  aL Tryz.prog 128 [.slice a m c] (fun h => fK h a (aq l)) [] (fun v H => v = .int .u64 (bJ l : Int) ∧ H = []) := by
 refine ag Tryz.func128 rfl Tryz.ntmps128 rfl ?_
 intro F r
 refine gh ?_
 refine Lo (ι := Nat) [9, 10, 11, 5, 12, 13, 14, 15, 16, 3, 17, 8] (fun k => k ≤ m) (fun k => [(3, .int .u64 (NC (l.take k))), (8, .int .i64 (k : Int))]) (fun k => []) (fun k => m - k) (0) (by simp) ?_
 rintro k hI
 refine bL ?_
 refine ay ?_
 refine au rfl ?_ ?_
 ·intro hk
  replace hk := aF hk
  have cJ : k < l.length := by omega
  have kb : (aq l)[k]? = some (.int .u8 ((l[k].toNat : Nat) : Int)) := by unfold aq; rw [List.getElem?_map, List.getElem?_eq_getElem cJ]; rfl
  have hc := l[k].toNat_lt
  refine bq ?_
  refine Li (Ix T.iD) ?_
  refine qM ?_
  refine aB ?_
  refine aw (t := 3) (v' := (.int .u64 (NC (l.take (k + 1))))) rfl (by (rw [EA cJ, y4]; rfl)) ?_
  refine Ro (k + 1) (by omega) (by omega)
 intro hk
 replace hk := aF hk
 obtain rfl : k = m := by omega
 rw [List.take_of_length_le (by omega), (DG l).1]
 refine bx ?_
 refine Rt [] Tryz.results128 ?_
 exact ⟨rfl, rfl⟩
structure mZ where
 nk : Nat
 ok : Option Nat
def ao (l : List (List Nat)) : List Nat := l.map fun c => nO c.head?
theorem kK (l : List (List Nat)) : (ao l).length = l.length := by simp [ao]
def dg (b : Nat) (T : Tb) (y : mZ) : List Value := [.pointer (some ⟨b, 0, none⟩), .int .i64 (T.aC : Int), .int .i64 (T.n : Int), .int .i64 (T.size : Int), .slice (some ⟨y.nk, 0, none⟩) T.nb.length T.nb.length, MP y.ok T.ob.length, .int .i64 (T.mv : Int), .int .i64 (T.st : Int)]
def jZ (t b : Nat) (T : Tb) (y : mZ) : List aa := [af t 145 (dg b T y), af y.nk 163 (ax (ao T.nb)), fI y.ok 163 (ax (ao T.ob))]
abbrev TL (t b : Nat) (T : Tb) (y : mZ) : aa := aE (jZ t b T y)
theorem jq (t b : Nat) (C : Cs) (W : Tb) (y : mZ) (K : Ok C) (o : Option Nat) (ho : cq C o) :
  aL Tryz.prog 83 [.pointer (some ⟨t, 0, none⟩), .int .u32 (nO o : Int)] (fun h => In (Cl b C) h ∧ In (af t 145 (dg b W y)) h) []
   (fun v H => v = .int .u64 (hO C o : Int) ∧ H = []) := by
 unfold dg
 refine ag Tryz.func83 rfl Tryz.ntmps83 rfl ?_
 rintro F ⟨hc, ht⟩
 rcases o with _ | q
 ·refine iS ?_
  refine gh ?_
  refine Rt [] Tryz.results83 ?_
  exact ⟨rfl, rfl⟩
 have M := ho q rfl
 obtain ⟨m1, m2, m3, m4, m5, m6⟩ := bM K M.toAt
 rw [mH]
 refine cX ?_
 refine dq ?_
 refine bP ?_
 refine aw (t := 17) (v' := (.int .i64 (q : Int))) rfl (by rw [show (8 : Int) * (((q / 8 + 1 : Nat) : Int) - 1) = (q : Int) by omega]) ?_
 refine zl T.JF (Q7 b C K q M) .nil (fun _ le _ => In.mono hc le) ?_
 refine bP ?_
 refine Rt [] Tryz.results83 ?_
 exact ⟨rfl, rfl⟩
theorem gR (t b : Nat) (C : Cs) (W : Tb) (y : mZ) (K : Ok C) (p : Nat) (o : Option Nat) (L : Live C p) (hk : kl C.A p ≠ 0) (ho : cq C o) (hn : rd C.A p 4 = nO o) :
  aL Tryz.prog 86 [.pointer (some ⟨t, 0, none⟩), .int .u64 (C.hd p : Int)] (fun h => In (Cl b C) h ∧ In (af t 145 (dg b W y)) h) []
   (fun v H => v = .int .u64 (hO C o : Int) ∧ H = []) := by
 unfold dg
 refine ag Tryz.func86 rfl Tryz.ntmps86 rfl ?_
 rintro F ⟨hc, ht⟩
 refine cY ?_
 refine zl T.wL (oY b C K p 0 o L hk (by omega) ho hn) .nil (fun _ le _ => In.mono hc le) ?_
 refine bx ?_
 refine Rt [] Tryz.results86 ?_
 exact ⟨rfl, rfl⟩
theorem mD (t b : Nat) (C : Cs) (W : Tb) (y : mZ) (K : Ok C) (p : Nat) (L : Live C p) (I : gk C p) :
  aL Tryz.prog 161 [.pointer (some ⟨t, 0, none⟩), .int .u64 (C.hd p : Int)] (fun h => In (Cl b C) h ∧ In (af t 145 (dg b W y)) h) []
   (fun v H => ∃ kb, v = .slice (some ⟨kb, 0, none⟩) (kl C.A p) (kl C.A p) ∧ H = [own (some ⟨kb, 0, none⟩) (kl C.A p) 5 1 (aq (aI C.A p))]) := by
 unfold dg
 refine ag Tryz.func161 rfl Tryz.ntmps161 rfl ?_
 rintro F ⟨hc, ht⟩
 refine cY ?_
 refine Lp (oC T.Ic rfl rfl (s7 b C K p L I) .nil (fun _ le _ => In.mono hc le) ?_)
 rintro v H' ⟨kb, vb, rfl, rfl⟩
 refine bo ?_
 unfold Cg
 refine bL ?_
 refine Lp (oA T.bA fun b1 => ?_)
 refine cY ?_
 refine Rt [own (some ⟨kb, 0, none⟩) (kl C.A p) 5 1 (aq (aI C.A p))] Tryz.results161 ?_
 exact ⟨kb, rfl, rfl⟩
def XF (y : mZ) (x : Bool × Nat) : Addr := ⟨if x.1 then y.ok.getD 0 else y.nk, x.2, none⟩
theorem rM {a L m : Nat} (hL : L = 2 ^ m) (hm : m ≤ 20) (ha : a < 18446744073709551616) : gw .and .u64 (a : Int) ((L - 1 : Nat) : Int) = some ((a % L : Nat) : Int) := by
 subst hL
 exact tS m (by omega) ha
theorem np {L m : Nat} (hL : L = 2 ^ m) (hm : m ≤ 20) : 1 ≤ L ∧ L ≤ 1048576 := by
 subst hL
 exact ⟨Nat.one_le_two_pow, by
  have := Nat.pow_le_pow_right (n := 2) (by decide) hm
  exact Nat.le_trans this (by decide)⟩
theorem jr (t b : Nat) (C : Cs) (W : Tb) (y : mZ) (k : Nat) (O : cz C { W with n := k }) (hy : y.ok = none → W.ob = []) (a : Option Addr) (m c : Nat) (l : List UInt8) (hm : m = l.length) (hl : l.length < 281474976710656) :
  aL Tryz.prog 84 [.pointer (some ⟨t, 0, none⟩), .slice a m c] (fun h => In (af t 145 (dg b W y)) h ∧ fK h a (aq l)) []
   (fun v H => v = .pointer (some (XF y (W.bk (bJ l)))) ∧ H = []) := by
 obtain ⟨i, hi, ei⟩ := O.pw
 change W.nb.length = 2 ^ i at ei
 have po : W.ob = [] ∨ ∃ m, m ≤ 20 ∧ W.ob.length = 2 ^ m := O.po
 obtain ⟨p1, p2⟩ := np ei hi
 obtain ⟨f1, f2⟩ := DG l
 have hmn := Nat.mod_lt (bJ l) (show 0 < W.nb.length by omega)
 unfold dg XF
 rcases y with ⟨nk, ok⟩
 dsimp only at hy ⊢
 refine ag Tryz.func84 rfl Tryz.ntmps84 rfl ?_
 rintro F ⟨ht, hr⟩
 refine bq ?_
 refine zl T.VH (TD a m c l hm hl) .nil (fun _ le _ => hr.mono le) ?_
 rcases ok with _ | ok
 ·refine Li As ?_
  refine mV ?_
  refine ay ?_
  refine jC 15 T.mix .nil fun F1 kN cT aU => ?_
  have oc := In.mono ht kN
  refine bP ?_
  refine aw (t := 45) (v' := (.int .i64 ((W.nb.length - 1 : Nat) : Int))) rfl (by (congr 1; omega)) ?_
  refine Ti (Cv T.HG T.NL) ?_
  refine Ti ((Im (hz := rM ei hi f2))) ?_
  refine bw ?_
  refine iC aU ?_
  refine bw ?_
  refine Rt [] Tryz.results84 ?_
  rw [show W.bk (bJ l) = (false, bJ l % W.nb.length) from if_neg (by rw [hy rfl]; simp)]
  exact ⟨rfl, rfl⟩
 have hol : W.ob.length ≤ 1048576 := by
  rcases po with h | ⟨j, hj, ej⟩
  ·rw [h]; decide
  exact (np ej hj).2
 refine oo ?_
 refine au rfl ?_ ?_
 ·intro hlen
  replace hlen := aF hlen
  obtain ⟨j, hj, ej⟩ : ∃ m, m ≤ 20 ∧ W.ob.length = 2 ^ m := by
   rcases po with h | h
   ·rw [h] at hlen; exact absurd hlen (by decide)
   exact h
  refine bb ?_
  refine aw (t := 19) (v' := (.int .i64 ((W.ob.length - 1 : Nat) : Int))) rfl (by (congr 1; omega)) ?_
  refine aD ?_
  refine Li ((Im (hz := rM ej hj f2))) ?_
  have hmod := Nat.mod_lt (bJ l) (show 0 < W.ob.length by omega)
  refine bP ?_
  refine au rfl ?_ ?_
  ·intro Ce
   replace Ce := aF Ce
   refine bP ?_
   refine Rt [] Tryz.results84 ?_
   rw [show W.bk (bJ l) = (true, bJ l % W.ob.length) from if_pos ⟨by omega, by omega⟩]
   exact ⟨rfl, rfl⟩
  intro Ce
  replace Ce := aF Ce
  refine bw ?_
  refine ay ?_
  refine jC 15 T.mix .nil fun F2 D1 eO eP => ?_
  have oc := In.mono ht D1
  refine bP ?_
  refine aw (t := 45) (v' := (.int .i64 ((W.nb.length - 1 : Nat) : Int))) rfl (by (congr 1; omega)) ?_
  refine Ti (Cv T.HG T.NL) ?_
  refine Ti ((Im (hz := rM ei hi f2))) ?_
  refine bw ?_
  refine iC eP ?_
  refine bw ?_
  refine Rt [] Tryz.results84 ?_
  rw [show W.bk (bJ l) = (false, bJ l % W.nb.length) from if_neg (by omega)]
  exact ⟨rfl, rfl⟩
 intro hlen
 replace hlen := aF hlen
 refine bw ?_
 refine ay ?_
 refine jC 15 T.mix .nil fun F3 R7 rX fW => ?_
 have oc := In.mono ht R7
 refine bP ?_
 refine aw (t := 45) (v' := (.int .i64 ((W.nb.length - 1 : Nat) : Int))) rfl (by (congr 1; omega)) ?_
 refine Ti (Cv T.HG T.NL) ?_
 refine Ti ((Im (hz := rM ei hi f2))) ?_
 refine bw ?_
 refine iC fW ?_
 refine bw ?_
 refine Rt [] Tryz.results84 ?_
 rw [show W.bk (bJ l) = (false, bJ l % W.nb.length) from if_neg (by omega)]
 exact ⟨rfl, rfl⟩
theorem RQ {C : Cs} {W : Tb} (O : cz C W) (h : Nat) : (∃ i, W.bk h = (false, i) ∧ i < W.nb.length) ∨ (∃ i, W.bk h = (true, i) ∧ i < W.ob.length) := by
 obtain ⟨m, hm, e⟩ := O.pw
 obtain ⟨p1, _⟩ := np e hm
 unfold Tb.bk
 split
 ·next g => exact .inr ⟨_, rfl, Nat.mod_lt _ g.1⟩
 exact .inl ⟨_, rfl, Nat.mod_lt _ (by omega)⟩
theorem mw {l : List (List Nat)} {i : Nat} (h : i < l.length) : (ax (ao l))[i]? = some (.int .u32 (nO (l.getD i []).head? : Int)) :=
 oE (by unfold ao; rw [List.getElem?_map, List.getD_eq_getElem?_getD, List.getElem?_eq_getElem h]; rfl)
theorem rE {b i : Nat} {e : TypeId} {cs : List Value} {h : Hp} {v : Value} (o : In (af b e cs) h) (hv : cs[i]? = some v) : di h ⟨b, i, none⟩ = some v := by
 obtain ⟨k, q, l⟩ := o
 exact jm ((oG (i := 0) q).mono l) hv
theorem Fi {t b : Nat} {C : Cs} {W : Tb} {y : mZ} {hp : Hp} (O : cz C W) (hy : y.ok = none → W.ob = []) (av : fF (jZ t b W y) hp) (h : Nat) : di hp (XF y (W.bk h)) = some (.int .u32 (nO (W.ch (W.bk h)).head? : Int)) := by
 obtain ⟨_, h1, h2, _⟩ := av
 rcases RQ O h with ⟨i, e, hi⟩ | ⟨i, e, hi⟩
 ·rw [e]
  exact rE h1 (mw hi)
 rw [e]
 rcases y with ⟨nk, ok⟩
 rcases ok with _ | ok
 ·rw [hy rfl] at hi; cases hi
 exact rE h2 (mw hi)
theorem rI {c : List Nat} {k : Nat} (h : k < c.length) : (c.drop k).head? = some c[k] := by
 rw [List.head?_drop, List.getElem?_eq_getElem h]
theorem Qm {c : List Nat} {k : Nat} (h : ¬ k < c.length) : (c.drop k).head? = none := by
 rw [List.head?_drop, List.getElem?_eq_none (by omega)]
theorem kH : ∀ (N : Nat) (l : List Nat), l.Nodup → (∀ p ∈ l, p < N) → l.length ≤ N
 | 0, l, _, h => by
  cases l with
  | nil => simp
  | cons a l => exact absurd (h a (by simp)) (by omega)
 | N + 1, l, hn, h => by
  have := kH N (l.erase N) (hn.erase N) fun p hp => by
   have h1 := h p (List.mem_of_mem_erase hp)
   have h2 : p ≠ N := fun e => by
    rw [e] at hp
    exact (List.Nodup.mem_erase_iff hn).1 hp |>.1 rfl
   omega
  have := List.length_erase_of_mem (a := N) (l := l)
  by_cases hm : N ∈ l
  ·have := List.length_erase_of_mem hm
   omega
  rw [List.erase_of_not_mem hm] at *
  omega
theorem xY {C : Cs} (K : Ok C) {W : Tb} (O : cz C W) : W.n ≤ 1073741824 := by
 rw [O.n]
 refine kH _ _ O.nd fun p hp => ?_
 obtain ⟨n1, n2, _, _, _, _, _, n8⟩ := (O.lv p hp).toAt.bh K
 have := fB K.toFix
 omega
theorem kk (t b : Nat) (C : Cs) (K : Ok C) (W : Tb) (y : mZ) (O : cz C W) (hy : y.ok = none → W.ob = []) (a : Option Addr) (m c : Nat) (l : List UInt8) (hm : m = l.length) (hl : l.length < 281474976710656) :
  aL Tryz.prog 39 [.pointer (some ⟨t, 0, none⟩), .slice a m c] (fun h => In (Cl b C) h ∧ fF (jZ t b W y) h ∧ fK h a (aq l)) []
   (fun v H => v = .tuple #[.int .u64 (hO C (W.get C l) : Int), .bool (W.get C l).isSome] ∧ H = []) := by
 have li := O.li (W.bk (bJ l))
 have cl := pM O (W.bk (bJ l))
 have hn := xY K O
 have sub : ∀ p ∈ W.ch (W.bk (bJ l)), p ∈ W.all := fun p hp => Tb.fQ hp
 have key : ∀ p ∈ W.all, aI C.A p = l → p ∈ W.ch (W.bk (bJ l)) := fun p hp e => by
  have := Be O hp
  rwa [e] at this
 have hc := fun {hp : Hp} (av : fF (jZ t b W y) hp) => Fi O hy av (bJ l)
 generalize Xs : W.ch (W.bk (bJ l)) = cc at *
 have Np : ∀ k, cq C (cc.drop k).head? := fun k q hq => O.lv q (sub q (List.mem_of_mem_drop (List.mem_of_mem_head? hq)))
 refine ag Tryz.func39 rfl Tryz.ntmps39 rfl ?_
 rintro F ⟨dR, av, hr⟩
 have ht := av.1
 have kc := hc av
 unfold dg at ht
 refine cX ?_
 refine zl T.yo (jr t b C W y W.n O hy a m c l hm hl) .nil (fun _ le _ => ⟨In.mono av.1 le, hr.mono le⟩) ?_
 refine bw ?_
 refine zl T.yp (jq t b C W y K cc.head? (Np 0)) .nil (fun _ le _ => ⟨In.mono dR le, In.mono av.1 le⟩) ?_
 refine bO ?_
 refine Lo (ι := Nat) [15, 16, 17, 18, 19, 20, 21, 22, 23, 24, 27, 28, 29, 30, 31, 32, 33, 34, 4, 5, 35, 36, 37, 6, 25, 26, 7] (fun k => k ≤ cc.length ∧ ∀ i (h : i < cc.length), i < k → aI C.A cc[i] ≠ l) (fun k => [(6, .int .u64 (hO C (cc.drop k).head? : Int)), (7, .int .i64 (k : Int))]) (fun k => []) (fun k => cc.length - k) (0) ⟨Nat.zero_le _, fun i _ h => absurd h (Nat.not_lt_zero _)⟩ ?_
 rintro k hI
 by_cases hk : k < cc.length
 ·have hp := sub _ (List.getElem_mem hk)
  have L := O.lv _ hp
  have I := O.it _ hp
  obtain ⟨m1, m2, m3, m4, m5, m6⟩ := bM K L.toAt
  rw [rI hk, bV]
  refine bq ?_
  refine zt 17 ?_ (e := by exact by rw [decide_eq_false (by omega)]; rfl)
  refine cX ?_
  refine gK ?_
  refine ed ?_
  refine zl T.Ry (yY b C K cc[k] L I a m c l hm hl) .nil (fun _ le _ => ⟨In.mono dR le, hr.mono le⟩) ?_
  refine aD ?_
  refine au rfl ?_ ?_
  ·intro hs
   replace hs := aF hs
   refine ed ?_
   refine gn [] Tryz.results39 ?_
   rw [get_some O hp (hs)]
   exact ⟨rfl, rfl⟩
  intro hs
  replace hs := aF hs
  refine bq ?_
  refine zl T.uP (gR t b C W y K cc[k] (cc.drop (k + 1)).head? L I.k0 (Np (k + 1)) (pI li hk)) .nil (fun _ le _ => ⟨In.mono dR le, In.mono av.1 le⟩) ?_
  refine cX ?_
  refine aB ?_
  refine Ro (k + 1) (⟨hk, fun i h hi => by rcases Nat.lt_succ_iff_lt_or_eq.1 hi with e | rfl; exact hI.2 i h e; exact hs⟩) ((by omega))
 rw [Qm hk]
 refine bq ?_
 refine zf 17 ?_ (e := by rfl)
 refine xU ?_
 refine gn [] Tryz.results39 ?_
 have e : W.get C l = none := get_none fun p hp he => by
  obtain ⟨i, hi, rfl⟩ := List.getElem_of_mem (key p hp he)
  exact hI.2 i hi (by omega) he
 rw [e]
 exact ⟨rfl, rfl⟩
theorem kJ (l : List (List Nat)) (i : Nat) (c : List Nat) : (ax (ao l)).set i (.int .u32 (nO c.head? : Int)) = ax (ao (l.set i c)) := by
 unfold ax ao
 rw [List.map_set, List.map_set]
theorem I6 {C : Cs} (K : Ok C) {p : Nat} (L : Live C p) : IntKind.u32.wrap (C.hd p : Int) = (nO (some p) : Int) := by
 obtain ⟨m1, _⟩ := bM K L.toAt
 rw [IntKind.wrap_u32, mH]
 omega
theorem UW {C : Cs} (K : Ok C) {o : Option Nat} (L : cq C o) : IntKind.u32.wrap (hO C o : Int) = (nO o : Int) := by
 rcases o with _ | p
 ·rfl
 exact I6 K (L p rfl)
def Aa (W : Tb) (x : Bool × Nat) : Prop := if x.1 then x.2 < W.ob.length else x.2 < W.nb.length
theorem nQ {C : Cs} {W : Tb} (O : cz C W) (h : Nat) : Aa W (W.bk h) := by
 rcases RQ O h with ⟨i, e, hi⟩ | ⟨i, e, hi⟩ <;> rw [e] <;> exact hi
theorem tP {t b : Nat} {W : Tb} {y : mZ} {hp : Hp} (hy : y.ok = none → W.ob = []) (av : fF (jZ t b W y) hp) {x : Bool × Nat} (hx : Aa W x) : di hp (XF y x) = some (.int .u32 (nO (W.ch x).head? : Int)) := by
 obtain ⟨_, h1, h2, _⟩ := av
 rcases x with ⟨_ | _, i⟩
 ·exact rE h1 (mw hx)
 rcases y with ⟨nk, ok⟩
 rcases ok with _ | ok
 ·have := hy rfl
  unfold Aa at hx
  rw [this] at hx; cases hx
 exact rE h2 (mw hx)
theorem HW (t b : Nat) (W : Tb) (y : mZ) (i : Nat) (c : List Nat) : jZ t b (W.bW (false, i) c) y = [af t 145 (dg b W y), af y.nk 163 (ax (ao (W.nb.set i c))), fI y.ok 163 (ax (ao W.ob))] := by
 simp [jZ, dg, Tb.bW]
theorem HV (t b : Nat) (W : Tb) (y : mZ) (i : Nat) (c : List Nat) : jZ t b (W.bW (true, i) c) y = [af t 145 (dg b W y), af y.nk 163 (ax (ao W.nb)), fI y.ok 163 (ax (ao (W.ob.set i c)))] := by
 simp [jZ, dg, Tb.bW]
theorem sP (t b : Nat) (C : Cs) (K : Ok C) (W : Tb) (y : mZ) (hy : y.ok = none → W.ob = []) (x : Bool × Nat) (hx : Aa W x) (p : Nat) (L : Live C p) (hk : kl C.A p ≠ 0) (ho : cq C (W.ch x).head?) :
  aL Tryz.prog 162 [.pointer (some ⟨t, 0, none⟩), .pointer (some (XF y x)), .int .u64 (C.hd p : Int)] (fun _ => True) (Cl b C :: jZ t b W y)
   (fun v H => v = .tuple #[] ∧ H = Cl b (C.wA (wr C.A p 4 (nO (W.ch x).head?))) :: jZ t b (W.bW x (p :: W.ch x)) y) := by
 have kp := I6 K L
 have Ng := fun {hp : Hp} (av : fF (jZ t b W y) hp) => tP hy av hx
 change aL _ _ _ _ [Cl b C, af t 145 [.pointer (some ⟨b, 0, none⟩), .int .i64 (W.aC : Int), .int .i64 (W.n : Int), .int .i64 (W.size : Int), .slice (some ⟨y.nk, 0, none⟩) W.nb.length W.nb.length, MP y.ok W.ob.length, .int .i64 (W.mv : Int), .int .i64 (W.st : Int)], af y.nk 163 (ax (ao W.nb)), fI y.ok 163 (ax (ao W.ob))] _
 refine ag Tryz.func162 rfl Tryz.ntmps162 rfl ?_
 intro F _
 refine ay ?_
 refine jC 10 T.mix (.cons (.there .here) (.cons (.there .here) (.cons (.there .here) .nil))) fun F1 kN cT aU => ?_
 obtain ⟨q1, q2, q3, _⟩ := cT
 have kc := Ng ⟨q1, q2, q3, trivial⟩
 refine cY ?_
 refine Tp (oC T.yp rfl rfl (jq t b C W y K (W.ch x).head? ho) .nil (fun _ le av => ⟨av.1, In.mono q1 le⟩) ?_)
 rintro v H' ⟨rfl, rfl⟩
 refine bo ?_
 refine iC aU ?_
 refine Tp (oC T.jg rfl rfl (cN b C K p 0 (W.ch x).head? L hk (by omega) ho) (.cons (.there (.there (.there .here))) .nil) (fun _ _ _ => trivial) ?_)
 rintro v H' ⟨rfl, rfl⟩
 refine bo ?_
 rw [show p + 4 * 0 = p from rfl]
 refine bb ?_
 refine Li ((Cv T.HU T.AD (hz := kp))) ?_
 rcases x with ⟨_ | _, i⟩
 ·refine Li Nc ?_
  refine Lp (oS T.ma ?_ (i := i) (hi := by rw [jj, kK]; exact hx))
  rw [show (ax (ao W.nb)).set i (.int .u32 (nO (some p) : Int)) = ax (ao (W.nb.set i (p :: W.ch (false, i)))) from kJ W.nb i (p :: W.ch (false, i))]
  refine aB ?_
  refine jN [Cl b (C.wA (wr C.A p 4 (nO (W.ch (false, i)).head?))), af t 145 (dg b W y), af y.nk 163 (ax (ao (W.nb.set i (p :: W.ch (false, i))))), fI y.ok 163 (ax (ao W.ob))] Tryz.results162 ?_
  exact ⟨rfl, by rw [HW]⟩
 obtain ⟨ok, nB⟩ : ∃ ok, y.ok = some ok := by
  rcases h : y.ok with _ | ok
  ·have e := hy h
   unfold Aa at hx
   rw [e] at hx; cases hx
  exact ⟨ok, rfl⟩
 rcases y with ⟨nk, _⟩
 dsimp only at nB
 subst nB
 refine aD ?_
 refine Lp (oS T.ma ?_ (i := i) (hi := by rw [jj, kK]; exact hx))
 rw [show (ax (ao W.ob)).set i (.int .u32 (nO (some p) : Int)) = ax (ao (W.ob.set i (p :: W.ch (true, i)))) from kJ W.ob i (p :: W.ch (true, i))]
 refine aB ?_
 refine jN [Cl b (C.wA (wr C.A p 4 (nO (W.ch (true, i)).head?))), af t 145 (dg b W ⟨nk, some ok⟩), af nk 163 (ax (ao W.nb)), fI (some ok) 163 (ax (ao (W.ob.set i (p :: W.ch (true, i)))))] Tryz.results162 ?_
 exact ⟨rfl, by rw [HV]⟩
def lT (A : By) (c : List Nat) : Nat → By
 | 0 => A
 | i + 1 => wr A (c.getD i 0) 4 (nO (c.drop (i + 2)).head?)
theorem kG (A : By) (c : List Nat) (i : Nat) : lT A c (i + 1) = wr A (c.getD i 0) 4 (nO (c.drop (i + 2)).head?) := rfl
def lY (A : By) (c : List Nat) (j p : Nat) : By := wr (lT A c j) p 4 0
theorem tO {l : List (List Nat)} {i : Nat} {c : List Nat} (h : c.head? = (l.getD i []).head?) : ao (l.set i c) = ao l := by
 unfold ao
 apply List.ext_getElem (by simp)
 intro k h1 h2
 simp only [List.length_map, List.length_set] at h1 h2
 rw [List.getElem_map, List.getElem_map, List.getElem_set]
 split
 ·next e =>
  subst e
  rw [h, List.getD_eq_getElem?_getD, List.getElem?_eq_getElem h2]; rfl
 rfl
theorem Ko {t b : Nat} {W : Tb} {y : mZ} {x : Bool × Nat} {c : List Nat} (h : c.head? = (W.ch x).head?) : jZ t b (W.bW x c) y = jZ t b W y := by
 rcases x with ⟨_ | _, i⟩
 ·rw [HW, tO h]; rfl
 rw [HV, tO h]; rfl
theorem BQ {c : List Nat} {j : Nat} : (c.eraseIdx (j + 1)).head? = c.head? := by
 cases c <;> simp
theorem jK {c : List Nat} {k : Nat} (h : k < c.length) : c.getD k 0 = c[k] := by
 rw [List.getD_eq_getElem?_getD, List.getElem?_eq_getElem h]; rfl
theorem yz (t b : Nat) (C : Cs) (K : Ok C) (W : Tb) (y : mZ) (O : cz C W) (hy : y.ok = none → W.ob = []) (x : Bool × Nat) (hx : Aa W x) (c : List Nat) (Xs : W.ch x = c) (j : Nat) (hj : j < c.length) (p : Nat) (hp : c[j] = p) :
  aL Tryz.prog 151 [.pointer (some ⟨t, 0, none⟩), .int .u64 (C.hd p : Int)] (fun _ => True) (Cl b C :: jZ t b W y)
   (fun v H => v = .tuple #[] ∧ H = Cl b (C.wA (lY C.A c j p)) :: jZ t b (W.bW x (c.eraseIdx j)) y) := by
 have Ng := fun {hp : Hp} (av : fF (jZ t b W y) hp) => tP hy av hx
 have li := O.li x
 have nd := (W.lr x).nodup O.nd
 have cl := pM O x
 have hn := xY K O
 rw [Xs] at Ng li nd cl
 have sub : ∀ q ∈ c, q ∈ W.all := fun q hq => Tb.fQ (x := x) (by rw [Xs]; exact hq)
 have Np : ∀ k, cq C (c.drop k).head? := fun k q hq => O.lv q (sub q (List.mem_of_mem_drop (List.mem_of_mem_head? hq)))
 have ha : p ∈ W.all := sub p (by rw [← hp]; exact List.getElem_mem hj)
 have L := O.lv p ha
 have I := O.it p ha
 have hbk : W.bk (bJ (aI C.A p)) = x := O.bu x p (by rw [Xs, ← hp]; exact List.getElem_mem hj)
 obtain ⟨v1, v2, v3, v4, v5, v6⟩ := bM K L.toAt
 have lk : (aI C.A p).length = kl C.A p := cS _ _ _
 have lf := I.fits
 obtain ⟨z1, z2, z3, _⟩ := L.toAt.bh K
 have f1 := K.toFix.p1
 change aL _ _ _ _ [Cl b C, af t 145 [.pointer (some ⟨b, 0, none⟩), .int .i64 (W.aC : Int), .int .i64 (W.n : Int), .int .i64 (W.size : Int), .slice (some ⟨y.nk, 0, none⟩) W.nb.length W.nb.length, MP y.ok W.ob.length, .int .i64 (W.mv : Int), .int .i64 (W.st : Int)], af y.nk 163 (ax (ao W.nb)), fI y.ok 163 (ax (ao W.ob))] _
 refine ag Tryz.func151 rfl Tryz.ntmps151 rfl ?_
 intro F _
 refine bb ?_
 refine Lp (oC T.pL rfl rfl (mD t b C W y K p L I) .nil (fun _ le av => ⟨av.1, av.2.1⟩) ?_)
 rintro v H' ⟨kb, rfl, rfl⟩
 refine bo ?_
 refine zl T.yo (jr t b C W y W.n O hy (some ⟨kb, 0, none⟩) (kl C.A p) (kl C.A p) (aI C.A p) lk.symm (by omega)) .nil (fun _ le av => ⟨av.2.2.1, bY av.1⟩) ?_
 rw [hbk]
 refine Hh (H' := [Cl b C, af t 145 [.pointer (some ⟨b, 0, none⟩), .int .i64 (W.aC : Int), .int .i64 (W.n : Int), .int .i64 (W.size : Int), .slice (some ⟨y.nk, 0, none⟩) W.nb.length W.nb.length, MP y.ok W.ob.length, .int .i64 (W.mv : Int), .int .i64 (W.st : Int)], af y.nk 163 (ax (ao W.nb)), fI y.ok 163 (ax (ao W.ob))]) ?_
 refine bw ?_
 refine ay ?_
 refine cR (ι := Unit) [12, 13, 14, 15, 16, 17, 18, 19, 20, 21, 22, 23, 24, 25, 26, 27, 28, 29, 5, 6, 30, 31, 32, 33, 34, 35, 36, 37, 38, 39, 40, 41, 42, 43, 44, 45, 46, 49, 50, 51, 47, 48, 52, 53, 54, 55, 56, 57, 58, 59, 60] (fun u => True) (fun u => [(0, .pointer (some ⟨t, 0, none⟩)), (1, .int .u64 (C.hd p : Int))]) (fun u => [Cl b (C.wA (lT C.A c j)), TL t b (W.bW x (c.eraseIdx j)) y]) ?_ ?_
 ·refine iS ?_
  refine bL ?_
  refine Lp (oL T.ma ?_ (hk := ⟨_, rfl, fun h _ av => Ng av.2⟩))
  refine zl T.yp (jq t b C W y K c.head? (Np 0)) .nil (fun _ le av => ⟨av.1, av.2.1⟩) ?_
  rcases j with _ | j
  ·have e0 : c.head? = some p := by rw [← hp]; exact rI (k := 0) hj
   rw [e0, bV]
   refine bL ?_
   refine gK ?_ (e := by exact decide_eq_true rfl)
   refine bb ?_
   refine zl T.uP (gR t b C W y K p (c.drop 1).head? L I.k0 (Np 1) (by rw [← hp]; exact pI li hj)) .nil (fun _ le av => ⟨av.1, av.2.1⟩) ?_
   refine Li ((Cv T.HU T.AD (hz := UW K (Np 1)))) ?_
   rcases x with ⟨_ | _, i⟩
   ·refine Li Nc ?_
    refine Lp (oS T.ma ?_ (i := i) (hi := by rw [jj, kK]; exact hx))
    rw [show (ax (ao W.nb)).set i (.int .u32 (nO (c.drop 1).head? : Int)) = ax (ao (W.nb.set i (c.drop 1))) from kJ W.nb i (c.drop 1)]
    refine aB ?_
    refine Hh (H' := [af t 145 (dg b W y), af y.nk 163 (ax (ao (W.nb.set i (c.drop 1)))), fI y.ok 163 (ax (ao W.ob)), Cl b C]) ?_
    rw [show c.drop 1 = c.eraseIdx 0 by simp]
    refine az (H' := [TL t b (W.bW (false, i) (c.eraseIdx 0)) y, Cl b C]) (fun _ s => eR (by rw [HW]; exact s)) ?_
    refine Me (()) (trivial)
   obtain ⟨ok, nB⟩ : ∃ ok, y.ok = some ok := by
    rcases h : y.ok with _ | ok
    ·have e := hy h
     unfold Aa at hx
     rw [e] at hx; cases hx
    exact ⟨ok, rfl⟩
   rcases y with ⟨nk, _⟩
   dsimp only at nB
   subst nB
   refine aD ?_
   refine Lp (oS T.ma ?_ (i := i) (hi := by rw [jj, kK]; exact hx))
   rw [show (ax (ao W.ob)).set i (.int .u32 (nO (c.drop 1).head? : Int)) = ax (ao (W.ob.set i (c.drop 1))) from kJ W.ob i (c.drop 1)]
   refine aB ?_
   refine Hh (H' := [af t 145 (dg b W ⟨nk, some ok⟩), af nk 163 (ax (ao W.nb)), fI (some ok) 163 (ax (ao (W.ob.set i (c.drop 1)))), Cl b C]) ?_
   rw [show c.drop 1 = c.eraseIdx 0 by simp]
   refine az (H' := [TL t b (W.bW (true, i) (c.eraseIdx 0)) ⟨nk, some ok⟩, Cl b C]) (fun _ s => eR (by rw [HV]; exact s)) ?_
   refine Me (()) (trivial)
  have hp0 : (c.drop 0).head? = some c[0] := rI (by omega)
  have L0 := O.lv c[0] (sub _ (List.getElem_mem (by omega)))
  have ne0 : c[0] ≠ p := fun e => by
   rw [← hp] at e
   have := (List.getElem_inj nd).1 e
   omega
  have ne0h : C.hd c[0] ≠ C.hd p := fun e => ne0 (kU K L0.toAt L.toAt e)
  rw [show c.head? = some c[0] from hp0, bV]
  refine bL ?_
  refine dq ?_
  refine bb ?_
  refine Lp (oL T.ma ?_ (hk := ⟨_, rfl, fun h _ av => Ng av.2⟩))
  refine zl T.yp (jq t b C W y K c.head? (Np 0)) .nil (fun _ le av => ⟨av.1, av.2.1⟩) ?_
  rw [show c.head? = some c[0] from hp0, bV, ← jK]
  refine bO ?_
  refine Lo (ι := Nat) [30, 31, 32, 33, 34, 35, 36, 37, 38, 39, 40, 41, 42, 43, 44, 45, 46, 49, 50, 51, 5, 47, 48, 6] (fun k => k ≤ j) (fun k => [(5, .int .u64 (C.hd (c.getD k 0) : Int)), (6, .int .i64 (k : Int))]) (fun k => [Cl b C, af t 145 [.pointer (some ⟨b, 0, none⟩), .int .i64 (W.aC : Int), .int .i64 (W.n : Int), .int .i64 (W.size : Int), .slice (some ⟨y.nk, 0, none⟩) W.nb.length W.nb.length, MP y.ok W.ob.length, .int .i64 (W.mv : Int), .int .i64 (W.st : Int)], af y.nk 163 (ax (ao W.nb)), fI y.ok 163 (ax (ao W.ob))]) (fun k => j - k) (0) (by simp) ?_
  rintro k hI
  have od : k < c.length := by omega
  have Lk := O.lv c[k] (sub _ (List.getElem_mem od))
  have Ik := O.it c[k] (sub _ (List.getElem_mem od))
  obtain ⟨w1, w2, w3, w4, w5, w6⟩ := bM K Lk.toAt
  have hk1 : k + 1 < c.length := by omega
  have Lk1 := O.lv c[k + 1] (sub _ (List.getElem_mem hk1))
  have Sf : rd C.A c[k] 4 = nO (some c[k + 1]) := by rw [pI li od, rI hk1]
  have lvk : cq C (some c[k + 1]) := fun q hq => by cases hq; exact Lk1
  obtain ⟨u1, u2, u3, u4, u5, u6⟩ := bM K Lk1.toAt
  rw [jK od]
  refine bq ?_
  refine zt 32 ?_ (e := by exact by rw [decide_eq_false (by omega)]; rfl)
  refine bw ?_
  refine zl T.uP (gR t b C W y K c[k] (some c[k + 1]) Lk Ik.k0 lvk Sf) .nil (fun _ le av => ⟨av.1, av.2.1⟩) ?_
  rw [bV]
  by_cases hkj : k = j
  ·subst hkj
   rw [hp]
   refine bb ?_
   refine zf 39 ?_ (e := by rw [decide_eq_true rfl]; rfl)
   refine gg ?_
   refine jC 8 T.mix (.cons (.there .here) (.cons (.there .here) (.cons (.there .here) .nil))) fun F1 kN cT aU => ?_
   obtain ⟨q1, q2, q3, _⟩ := cT
   refine bO ?_
   refine Tp (oC T.uP rfl rfl (gR t b C W y K p (c.drop (k + 2)).head? L I.k0 (Np (k + 2)) (by rw [← hp]; exact pI li hj)) .nil (fun _ le av => ⟨av.1, In.mono q1 le⟩) ?_)
   rintro v H' ⟨rfl, rfl⟩
   refine bo ?_
   refine iC aU ?_
   refine Tp (oC T.jg rfl rfl (cN b C K c[k] 0 (c.drop (k + 2)).head? Lk Ik.k0 (by omega) (Np (k + 2))) (.cons (.there (.there (.there .here))) .nil) (fun _ _ _ => trivial) ?_)
   rintro v H' ⟨rfl, rfl⟩
   refine bo ?_
   refine Tn ?_
   rw [show wr C.A (c[k] + 4 * 0) 4 (nO (c.drop (k + 2)).head?) = lT C.A c (k + 1) by rw [kG, jK od]; rfl]
   refine Hh (H' := [af t 145 [.pointer (some ⟨b, 0, none⟩), .int .i64 (W.aC : Int), .int .i64 (W.n : Int), .int .i64 (W.size : Int), .slice (some ⟨y.nk, 0, none⟩) W.nb.length W.nb.length, MP y.ok W.ob.length, .int .i64 (W.mv : Int), .int .i64 (W.st : Int)], af y.nk 163 (ax (ao W.nb)), fI y.ok 163 (ax (ao W.ob)), Cl b (C.wA (lT C.A c (k + 1)))]) ?_
   refine az (H' := [TL t b (W.bW x (c.eraseIdx (k + 1))) y, Cl b (C.wA (lT C.A c (k + 1)))]) (fun _ s => eR (by rw [Ko (by rw [Xs]; exact BQ)]; exact s)) ?_
   refine Me (()) (trivial)
  have ne1 : c[k + 1] ≠ p := fun e => by
   rw [← hp] at e
   have := (List.getElem_inj nd).1 e
   omega
  have ne1h : C.hd c[k + 1] ≠ C.hd p := fun e => ne1 (kU K Lk1.toAt L.toAt e)
  refine bb ?_
  refine zt 39 ?_ (e := by rw [decide_eq_false (by omega)]; rfl)
  refine cX ?_
  refine gK ?_
  refine bO ?_
  refine zl T.uP (gR t b C W y K c[k] (some c[k + 1]) Lk Ik.k0 lvk Sf) .nil (fun _ le av => ⟨av.1, av.2.1⟩) ?_
  rw [bV, ← jK]
  refine cX ?_
  refine aB ?_
  refine Ro (k + 1) (by omega) (by omega)
 rintro u hI
 have xF : kl (lT C.A c j) p ≠ 0 := by
  rcases j with _ | j
  ·exact I.k0
  have Lq := O.lv c[j] (sub _ (List.getElem_mem (by omega)))
  have e := rC K L.toAt Lq.toAt I (a := 0) (n := 4) (v := nO (c.drop (j + 2)).head?) (by omega)
  rw [kG, jK (by omega)]
  exact fun h => I.k0 (by rw [← e.kl]; exact h)
 refine Hh (H' := [TL t b (W.bW x (c.eraseIdx j)) y, Cl b (C.wA (lT C.A c j))]) ?_
 refine rG ?_
 refine az (H' := [af t 145 (dg b (W.bW x (c.eraseIdx j)) y), Cl b (C.wA (lT C.A c j)), af y.nk 163 (ax (ao (W.bW x (c.eraseIdx j)).nb)), fI y.ok 163 (ax (ao (W.bW x (c.eraseIdx j)).ob))]) (by exact Eh) ?_
 unfold dg
 refine bE ?_
 refine zl T.jg (cN b (C.wA (lT C.A c j)) (K.wA _) p 0 none (L.wA _) xF (by omega) (fun q hq => by cases hq)) (.cons (.there .here) .nil) (fun _ _ _ => trivial) ?_
 rw [show (C.wA (lT C.A c j)).wA (wr (C.wA (lT C.A c j)).A (p + 4 * 0) 4 (nO none)) = C.wA (lY C.A c j p) from rfl]
 refine aB ?_
 refine jN [Cl b (C.wA (lY C.A c j p)), af t 145 (dg b (W.bW x (c.eraseIdx j)) y), af y.nk 163 (ax (ao (W.bW x (c.eraseIdx j)).nb)), fI y.ok 163 (ax (ao (W.bW x (c.eraseIdx j)).ob))] Tryz.results151 ?_
 exact ⟨rfl, rfl⟩
theorem IW {A : By} : ∀ {l : List Nat} (_ : ∀ k (h : k < l.length), rd A l[k] 4 = nO l[k + 1]?), Eb A l
 | [], _ => trivial
 | _ :: l, h => ⟨by have := h 0 (by simp); simpa [List.head?_eq_getElem?] using this, IW fun k hk => by have := h (k + 1) (by simpa using hk); simpa using this⟩
theorem Dq {A : By} {l : List Nat} {k : Nat} (h : Eb A l) (hk : k < l.length) : rd A l[k] 4 = nO l[k + 1]? := by
 rw [pI h hk, List.head?_drop]
theorem mM {A B : By} : ∀ {l : List Nat} (_ : ∀ q ∈ l, rd B q 4 = rd A q 4) (_ : Eb A l), Eb B l
 | [], _, _ => trivial
 | q :: _, h, i => ⟨by rw [h q (by simp)]; exact i.1, mM (fun r hr => h r (by simp [hr])) i.2⟩
theorem Kept.refl (C : Cs) (p : Nat) : Kept C C.A p := ⟨rfl, rfl, rfl, fun i => i⟩
theorem kI {C : Cs} (K : Ok C) {p q : Nat} (L : Live C p) (M : Live C q) (I : gk C p) (v : Nat) : Kept C (wr C.A q 4 v) p := rC K L.toAt M.toAt I (a := 0) (n := 4) (by omega)
theorem oX {C : Cs} (K : Ok C) {p q : Nat} (L : Live C p) (M : Live C q) (h : p ≠ q) (v : Nat) : rd (wr C.A q 4 v) p 4 = rd C.A p 4 := by
 have n1 := (L.toAt.bh K).2.1
 have m1 := (M.toAt.bh K).2.1
 exact jc K L.toAt M.toAt (a := 0) (n := 4) (o := 0) (w := 4) (by omega) (by omega) (fun e => absurd e h)
theorem lD {C : Cs} (K : Ok C) {o : Option Nat} (L : cq C o) : nO o < 4294967296 := by
 rcases o with _ | q
 ·exact Nat.zero_lt_succ _
 obtain ⟨_, _, m3, m4, _⟩ := bM K (L q rfl).toAt
 have := fB K.toFix
 rw [mH]
 omega
theorem vx (A : By) (p n : Nat) (h : n < 4294967296) : rd (wr A p 4 n) p 4 = n := by
 rw [cI]; exact Nat.mod_eq_of_lt h
theorem gE : ∀ {L : List (List Nat)} {i : Nat} (_ : i < L.length), ∃ r, L.flatten.Perm (L.getD i [] ++ r) ∧ ∀ c, (L.set i c).flatten.Perm (c ++ r)
 | l :: L, 0, _ => ⟨L.flatten, by simp, fun c => by simp⟩
 | l :: L, i + 1, h => by
  obtain ⟨r, h1, h2⟩ := gE (L := L) (i := i) (by simpa using h)
  have sw : ∀ c : List Nat, (l ++ (c ++ r)).Perm (c ++ (l ++ r)) := fun c => by
   rw [← List.append_assoc, ← List.append_assoc]
   exact List.Perm.append_right r List.perm_append_comm
  refine ⟨l ++ r, ?_, fun c => ?_⟩
  ·rw [List.flatten_cons]
   exact (List.Perm.append_left l h1).trans (by simpa using sw (L.getD i []))
  rw [List.set_cons_succ, List.flatten_cons]
  exact (List.Perm.append_left l (h2 c)).trans (sw c)
theorem Tb.lh {W : Tb} {x : Bool × Nat} (hx : Aa W x) : ∃ r, W.all.Perm (W.ch x ++ r) ∧ ∀ c, (W.bW x c).all.Perm (c ++ r) := by
 rcases x with ⟨_ | _, i⟩
 ·obtain ⟨r, h1, h2⟩ := gE (L := W.nb) (i := i) hx
  refine ⟨r ++ W.ob.flatten, ?_, fun c => ?_⟩
  ·have := List.Perm.append_right W.ob.flatten h1
   rw [List.append_assoc] at this; exact this
  have := List.Perm.append_right W.ob.flatten (h2 c)
  rw [List.append_assoc] at this; exact this
 obtain ⟨r, h1, h2⟩ := gE (L := W.ob) (i := i) hx
 have sw : ∀ c : List Nat, (W.nb.flatten ++ (c ++ r)).Perm (c ++ (W.nb.flatten ++ r)) := fun c => by
  rw [← List.append_assoc, ← List.append_assoc]
  exact List.Perm.append_right r List.perm_append_comm
 refine ⟨W.nb.flatten ++ r, ?_, fun c => ?_⟩
 ·exact (List.Perm.append_left _ h1).trans (sw _)
 exact (List.Perm.append_left _ (h2 c)).trans (sw c)
theorem jW {L : List (List Nat)} {i : Nat} (h : i < L.length) (c : List Nat) : (L.set i c).getD i [] = c := by
 rw [List.getD_eq_getElem?_getD, List.getElem?_set_self h]; rfl
theorem getD_set_ne {L : List (List Nat)} {i k : Nat} (h : i ≠ k) (c : List Nat) : (L.set i c).getD k [] = L.getD k [] := by
 rw [List.getD_eq_getElem?_getD, List.getD_eq_getElem?_getD, List.getElem?_set_ne h]
theorem Tb.JQ {W : Tb} {x : Bool × Nat} (hx : Aa W x) (c : List Nat) (z : Bool × Nat) : (W.bW x c).ch z = if z = x then c else W.ch z := by
 split
 ·next e =>
  subst e
  rcases z with ⟨_ | _, i⟩
  ·exact jW hx c
  exact jW hx c
 next e =>
 rcases z with ⟨_ | _, k⟩ <;> rcases x with ⟨_ | _, i⟩
 ·exact getD_set_ne (fun h => e (Prod.ext rfl h.symm)) c
 ·rfl
 ·rfl
 exact getD_set_ne (fun h => e (Prod.ext rfl h.symm)) c
theorem Tb.Wd (W : Tb) (x : Bool × Nat) (c : List Nat) (n h : Nat) : Tb.bk { W.bW x c with n := n } h = W.bk h := by
 rcases x with ⟨_ | _, i⟩ <;> simp [Tb.bk, Tb.bW]
theorem wU {C : Cs} {W : Tb} (O : cz C W) {x : Bool × Nat} (hx : Aa W x) {c c' : List Nat} (hc : W.ch x = c) {A : By} {n' p : Nat}
  (hn : n' + c.length = W.n + c'.length) (nd : c'.Nodup) (hp : ∀ q ∈ c', q ∈ c ∨ (q = p ∧ p ∉ W.all)) (li : Eb A c')
  (lo : ∀ q ∈ W.all, q ∉ c → rd A q 4 = rd C.A q 4) (lv : ∀ q ∈ c', Live C q) (kp : ∀ q ∈ W.all, Kept C A q) (it : ∀ q ∈ c', gk (C.wA A) q)
  (bu : ∀ q ∈ c', W.bk (bJ (aI A q)) = x) (kd : p ∈ c' → p ∉ W.all → ∀ r ∈ W.all, aI A p ≠ aI C.A r) : cz (C.wA A) { W.bW x c' with n := n' } := by
 obtain ⟨r, p1, p2⟩ := Tb.lh hx
 rw [hc] at p1
 have p2' : Tb.all { W.bW x c' with n := n' } = (W.bW x c').all := rfl
 have al : ∀ q, q ∈ (W.bW x c').all → q ∈ c' ∨ (q ∈ W.all ∧ q ∉ c) := fun q hq => by
  rcases List.mem_append.1 ((p2 c').mem_iff.1 hq) with h | h
  ·exact .inl h
  refine .inr ⟨p1.mem_iff.2 (List.mem_append_right _ h), fun g => ?_⟩
  have := p1.nodup_iff.1 O.nd
  exact (List.nodup_append.1 this).2.2 q g q h rfl
 have Hn : ∀ z, Tb.ch { W.bW x c' with n := n' } z = if z = x then c' else W.ch z := fun z => (show Tb.ch { W.bW x c' with n := n' } z = (W.bW x c').ch z from rfl).trans (Tb.JQ hx c' z)
 have cp : ∀ q ∈ c, q ∈ W.all := fun q hq => p1.mem_iff.2 (List.mem_append_left _ hq)
 have l1 : ({ W.bW x c' with n := n' } : Tb).nb.length = W.nb.length := by rcases x with ⟨_ | _, i⟩ <;> simp [Tb.bW]
 have l2 : ({ W.bW x c' with n := n' } : Tb).ob.length = W.ob.length := by rcases x with ⟨_ | _, i⟩ <;> simp [Tb.bW]
 have e1 : ({ W.bW x c' with n := n' } : Tb).size = W.size := by rcases x with ⟨_ | _, i⟩ <;> rfl
 have e2 : ({ W.bW x c' with n := n' } : Tb).aC = W.aC := by rcases x with ⟨_ | _, i⟩ <;> rfl
 have e3 : ({ W.bW x c' with n := n' } : Tb).mv = W.mv := by rcases x with ⟨_ | _, i⟩ <;> rfl
 have e4 : ({ W.bW x c' with n := n' } : Tb).st = W.st := by rcases x with ⟨_ | _, i⟩ <;> rfl
 refine ⟨by rw [l1]; exact O.pw, ?_, by rw [l2, e3, e4]; exact O.st.imp (fun h => ⟨h.1, List.eq_nil_of_length_eq_zero (by rw [l2, h.2]; rfl)⟩) id, by rw [e2]; exact O.mp, by rw [e1, l1]; exact O.sz, by rw [e1]; exact O.MR, by rw [e1, e2]; exact O.sm, by rw [e3]; exact O.mv, ?_, ?_, fun z => ?_, fun q hq => ?_, fun q hq => ?_, fun z q hq => ?_, fun q hq s hs e => ?_⟩
 ·rcases O.po with h | ⟨m, hm, e⟩
  ·exact .inl (List.eq_nil_of_length_eq_zero (by rw [l2, h]; rfl))
  exact .inr ⟨m, hm, by rw [l2]; exact e⟩
 ·rw [p2', (p2 c').length_eq, List.length_append]
  have h1 := O.n
  rw [p1.length_eq, List.length_append] at h1
  show n' = _
  omega
 ·rw [p2', (p2 c').nodup_iff, List.nodup_append]
  have h1 := List.nodup_append.1 (p1.nodup_iff.1 O.nd)
  refine ⟨nd, h1.2.1, fun q hq s hs e => ?_⟩
  subst e
  rcases hp q hq with h | ⟨rfl, h⟩
  ·exact h1.2.2 q h q hs rfl
  exact h (p1.mem_iff.2 (List.mem_append_right _ hs))
 ·rw [Hn]
  split
  ·exact li
  next hz =>
  refine mM (fun q hq => lo q (Tb.fQ hq) fun g => ?_) (O.li z)
  rw [← hc] at g
  exact hz ((O.bu z q hq).symm.trans (O.bu x q g))
 ·rcases al q hq with h | h
  ·exact (lv q h).wA A
  exact (O.lv q h.1).wA A
 ·rcases al q hq with h | h
  ·exact it q h
  exact (kp q h.1).it (O.it q h.1)
 ·rw [Tb.Wd]
  rw [Hn] at hq
  split at hq
  ·next e => rw [e]; exact bu q hq
  rw [show aI (C.wA A).A q = aI C.A q from (kp q (Tb.fQ hq)).key]
  exact O.bu z q hq
 change aI A q = aI A s at e
 have cl : ∀ q, q ∈ (W.bW x c').all → q ∈ W.all ∨ (q = p ∧ p ∈ c' ∧ p ∉ W.all) := fun q hq => by
  rcases al q hq with h | h
  ·rcases hp q h with g | g
   ·exact .inl (cp q g)
   exact .inr ⟨g.1, g.1 ▸ h, g.2⟩
  exact .inl h.1
 rcases cl q hq with h | ⟨rfl, hi, h⟩ <;> rcases cl s hs with g | ⟨rfl, gi, g⟩
 ·rw [(kp q h).key, (kp s g).key] at e
  exact O.kd q h s g e
 ·rw [(kp q h).key] at e
  exact absurd e.symm (kd gi g q h)
 ·rw [(kp s g).key] at e
  exact absurd e (kd hi h s g)
 rfl
theorem wZ {C : Cs} (K : Ok C) {W : Tb} (O : cz C W) {p : Nat} (L : Live C p) (I : gk C p) (hp : p ∉ W.all) (hk : ∀ q ∈ W.all, aI C.A q ≠ aI C.A p) {x : Bool × Nat} (hx : W.bk (bJ (aI C.A p)) = x) :
  cz (C.wA (wr C.A p 4 (nO (W.ch x).head?))) { W.bW x (p :: W.ch x) with n := W.n + 1 } := by
 have kp : ∀ q ∈ W.all, Kept C (wr C.A p 4 (nO (W.ch x).head?)) q := fun q hq => kI K (O.lv q hq) L (O.it q hq) _
 have W9 := kI K L L I (nO (W.ch x).head?)
 have ne : ∀ q ∈ W.all, q ≠ p := fun q hq e => hp (e ▸ hq)
 have WN : ∀ q ∈ W.all, rd (wr C.A p 4 (nO (W.ch x).head?)) q 4 = rd C.A q 4 := fun q hq => oX K (O.lv q hq) L (ne q hq) _
 have sub : ∀ q ∈ W.ch x, q ∈ W.all := fun q hq => Tb.fQ hq
 have lO : cq C (W.ch x).head? := fun q hq => O.lv q (sub q (List.mem_of_mem_head? hq))
 refine wU O (by rw [← hx]; exact nQ O _) rfl (p := p) (by simp; omega) (List.nodup_cons.2 ⟨fun h => hp (sub p h), (W.lr x).nodup O.nd⟩) (fun q hq => ?_) ⟨vx _ _ _ (lD K lO), mM (fun q hq => WN q (sub q hq)) (O.li x)⟩
  (fun q hq _ => WN q hq) (fun q hq => ?_) kp (fun q hq => ?_) (fun q hq => ?_) (fun _ _ r hr e => ?_)
 ·rcases List.mem_cons.1 hq with rfl | h
  ·exact .inr ⟨rfl, hp⟩
  exact .inl h
 ·rcases List.mem_cons.1 hq with rfl | h
  ·exact L
  exact O.lv q (sub q h)
 ·rcases List.mem_cons.1 hq with rfl | h
  ·exact W9.it I
  exact (kp q (sub q h)).it (O.it q (sub q h))
 ·rcases List.mem_cons.1 hq with rfl | h
  ·rw [W9.key]; exact hx
  rw [(kp q (sub q h)).key]; exact O.bu x q h
 rw [W9.key] at e
 exact hk r hr e.symm
def ng (A B : By) (S : List Nat) (a n : Nat) : Prop := ∀ i, B i ≠ A i → ∃ q ∈ S, q + a ≤ i ∧ i < q + a + n
theorem ng.refl (A : By) (S : List Nat) (a n : Nat) : ng A A S a n := fun _ h => absurd rfl h
theorem ng.trans {A B D : By} {S : List Nat} {a n : Nat} (h : ng A B S a n) (g : ng B D S a n) : ng A D S a n := fun i e => by
 by_cases hb : B i = A i
 ·exact g i (by rw [hb]; exact e)
 exact h i hb
theorem ng.mono {A B : By} {S R : List Nat} {a n : Nat} (h : ng A B S a n) (s : ∀ q ∈ S, q ∈ R) : ng A B R a n := fun i e => by
 obtain ⟨q, q1, q2⟩ := h i e
 exact ⟨q, s q q1, q2⟩
theorem su (A : By) {S : List Nat} {q a n v : Nat} (h : q ∈ S) : ng A (wr A (q + a) n v) S a n := fun i e => by
 refine ⟨q, h, ?_⟩
 refine Decidable.byContradiction fun g => e ?_
 unfold wr
 exact gA _ _ _ _ (by rw [kW]; omega)
theorem DP {C : Cs} (K : Ok C) {B : By} {S : List Nat} {a n : Nat} (d : ng C.A B S a n) (hS : ∀ q ∈ S, At C q) {p o w : Nat} (L : At C p) (ha : a + n ≤ 64) (ho : o + w ≤ C.sz (C.cl p)) (h : p ∈ S → a + n ≤ o ∨ o + w ≤ a) : ik B (p + o) w = ik C.A (p + o) w :=
 pU fun i h1 h2 => by
  refine Decidable.byContradiction fun e => ?_
  obtain ⟨q, q1, q2, q3⟩ := d i e
  have m1 := ((hS q q1).bh K).2.1
  rcases WN K L (hS q q1) (a := a) (n := n) (o := o) (w := w) (by omega) ho (fun e => h (e ▸ q1)) with g | g <;> omega
theorem JN {C : Cs} (K : Ok C) {B : By} {S : List Nat} {a n : Nat} (d : ng C.A B S a n) (hS : ∀ q ∈ S, At C q) {p o w : Nat} (L : At C p) (ha : a + n ≤ 64) (ho : o + w ≤ C.sz (C.cl p)) (h : p ∈ S → a + n ≤ o ∨ o + w ≤ a) : rd B (p + o) w = rd C.A (p + o) w := by
 unfold rd; rw [DP K d hS L ha ho h]
theorem ti {C : Cs} (K : Ok C) {B : By} {S : List Nat} {a n : Nat} (d : ng C.A B S a n) (hS : ∀ q ∈ S, At C q) (ha : a + n ≤ 12) {p : Nat} (L : At C p) (I : gk C p) : Kept C B p := by
 have n1 := (L.bh K).2.1
 have hf := I.fits
 have r := fun (o w : Nat) (h1 : 12 ≤ o) (h2 : o + w ≤ C.sz (C.cl p)) => JN K d hS L (by omega) h2 (fun _ => .inl (by omega))
 have e1 : kl B p = kl C.A p := r 44 1 (by omega) (by omega)
 have e2 : vl B p = vl C.A p := r 48 4 (by omega) (by omega)
 refine ⟨e1, e2, ?_, fun J => ⟨?_, ?_, ?_, ?_⟩⟩
 ·unfold aI
  rw [e1]
  exact DP K d hS L (by omega) (by omega) (fun _ => .inl (by omega))
 ·rw [cP, e1]; exact J.k0
 ·rw [cP, e1, e2]; exact J.fits
 ·rw [cP, r 16 8 (by omega) (by omega)]; exact J.exp
 rw [cP, r 24 8 (by omega) (by omega)]; exact J.tch
theorem OK (A : By) (c : List Nat) (j : Nat) (hj : j < c.length) : ng A (lT A c j) c 0 4 := by
 rcases j with _ | j
 ·exact ng.refl _ _ _ _
 rw [kG, jK (by omega)]
 exact su A (a := 0) (List.getElem_mem (by omega))
theorem KR (A : By) (c : List Nat) (j : Nat) (hj : j < c.length) : ng A (lY A c j c[j]) c 0 4 :=
 (OK A c j hj).trans (su _ (a := 0) (List.getElem_mem hj))
theorem C5 {C : Cs} (K : Ok C) {W : Tb} (O : cz C W) {x : Bool × Nat} (hx : Aa W x) {c : List Nat} (hc : W.ch x = c) {j p : Nat} (hj : j < c.length) (hp : c[j] = p) :
  cz (C.wA (lY C.A c j p)) { W.bW x (c.eraseIdx j) with n := W.n - 1 } ∧ ng C.A (lY C.A c j p) W.all 0 4 := by
 subst hp
 have sub : ∀ q ∈ c, q ∈ W.all := fun q hq => Tb.fQ (x := x) (by rw [hc]; exact hq)
 have d := KR C.A c j hj
 have dW : ng C.A (lY C.A c j c[j]) W.all 0 4 := d.mono sub
 have at_ : ∀ q ∈ W.all, At C q := fun q hq => (O.lv q hq).toAt
 have kp : ∀ q ∈ W.all, Kept C (lY C.A c j c[j]) q := fun q hq => ti K dW at_ (by omega) (at_ q hq) (O.it q hq)
 have li := O.li x
 have nd := (W.lr x).nodup O.nd
 rw [hc] at li nd
 have es : ∀ q ∈ c.eraseIdx j, q ∈ c := fun q hq => List.mem_of_mem_eraseIdx hq
 refine ⟨wU O hx hc (p := c[j]) ?_ (nd.sublist (List.eraseIdx_sublist c j)) (fun q hq => .inl (es q hq)) ?_ (fun q hq g => ?_) (fun q hq => O.lv q (sub q (es q hq))) kp (fun q hq => (kp q (sub q (es q hq))).it (O.it q (sub q (es q hq))))
  (fun q hq => by rw [(kp q (sub q (es q hq))).key]; exact O.bu x q (by rw [hc]; exact es q hq)) (fun _ h r hr e => ?_), dW⟩
 ·have h1 := pM O x
  rw [hc] at h1
  have h2 := List.length_eraseIdx_of_lt hj
  omega
 ·refine IW fun k hk => ?_
  have hlen := List.length_eraseIdx_of_lt hj
  have lv : ∀ i (h : i < c.length), Live C c[i] := fun i h => O.lv _ (sub _ (List.getElem_mem h))
  have inj : ∀ i k (h : i < c.length) (g : k < c.length), i ≠ k → c[i] ≠ c[k] := fun i k h g e h2 => e ((List.getElem_inj nd).1 h2)
  have K2 := K.wA (lT C.A c j)
  have rd2 : ∀ i (h : i < c.length), i ≠ j → rd (lY C.A c j c[j]) c[i] 4 = rd (lT C.A c j) c[i] 4 := fun i h e => oX K2 ((lv i h).wA _) ((lv j hj).wA _) (inj i j h hj e) 0
  have rd1 : ∀ i (h : i < c.length), i + 1 ≠ j → rd (lT C.A c j) c[i] 4 = nO c[i + 1]? := fun i h e => by
   rcases j with _ | j
   ·exact Dq li h
   rw [kG, jK (by omega), oX K (lv i h) (lv j (by omega)) (inj i j h (by omega) (by omega))]
   exact Dq li h
  have rd0 : ∀ i (h : i < c.length), i + 1 = j → rd (lT C.A c j) c[i] 4 = nO c[i + 2]? := fun i h e => by
   subst e
   rw [kG, jK (by omega), List.head?_drop]
   refine vx _ _ _ (lD K fun q hq => ?_)
   exact O.lv q (sub q (List.mem_of_getElem? hq))
  rw [List.getElem_eraseIdx]
  split
  ·next h =>
   have od : k < c.length := by omega
   rw [rd2 k od (by omega)]
   by_cases e : k + 1 = j
   ·rw [rd0 k od e, List.getElem?_eraseIdx_of_ge (by omega)]
   rw [rd1 k od e, List.getElem?_eraseIdx_of_lt (by omega)]
  next h =>
  have od : k + 1 < c.length := by omega
  rw [rd2 (k + 1) od (by omega), rd1 (k + 1) od (by omega), List.getElem?_eraseIdx_of_ge (by omega)]
 ·have := JN K d (fun q hq => at_ q (sub q hq)) (at_ q hq) (o := 0) (w := 4) (by omega) (by have := ((at_ q hq).bh K).2.1; omega) (fun h => absurd h g)
  exact this
 exact absurd (sub _ (List.getElem_mem hj)) h
def Tb.nn (W : Tb) : Tb := { W with n := W.all.length }
def Tb.emp (W : Tb) : Tb := { W.bW (true, W.mv) [] with mv := W.mv + 1 }
theorem Tb.VV (W : Tb) : W.emp.nb = W.nb := rfl
theorem Tb.JJ (W : Tb) : W.emp.ob = W.ob.set W.mv [] := rfl
theorem JI {C : Cs} {W : Tb} (O : cz C W) (hm : W.mv < W.ob.length) : cz C W.emp.nn ∧ W.all.Perm (W.ch (true, W.mv) ++ W.emp.all) ∧
  ∀ q ∈ W.ch (true, W.mv), W.emp.bk (bJ (aI C.A q)) = (false, bJ (aI C.A q) % W.nb.length) := by
 have hx : Aa W (true, W.mv) := hm
 obtain ⟨r, p1, p2⟩ := Tb.lh hx
 have pe : W.emp.all.Perm r := by
  have : (W.bW (true, W.mv) []).all.Perm r := by simpa using p2 []
  exact this
 have oz : W.emp.all = (W.bW (true, W.mv) []).all := rfl
 have O1 := wU O hx rfl (c' := []) (A := C.A) (n' := W.emp.all.length) (p := 0) (by
   have h1 := O.n
   rw [p1.length_eq, List.length_append] at h1
   rw [pe.length_eq, List.length_nil]; omega) List.nodup_nil (fun _ h => by cases h) trivial (fun _ _ _ => rfl) (fun _ h => by cases h) (fun q _ => Kept.refl C q) (fun _ h => by cases h) (fun _ h => by cases h) (fun h => by cases h)
 have bkx : ∀ h, W.emp.bk h = if W.mv = h % W.ob.length then (false, h % W.nb.length) else W.bk h := fun h => by
  unfold Tb.bk
  rw [Tb.VV, Tb.JJ, List.length_set, show W.emp.mv = W.mv + 1 from rfl]
  split
  ·next g => rw [if_neg (by omega), if_pos ⟨g.1, by omega⟩]
  next g =>
  split
  ·rfl
  next e => rw [if_neg (by omega)]
 have chx : ∀ z, W.emp.ch z = (W.bW (true, W.mv) []).ch z := fun _ => rfl
 have ol : W.ob.length ≤ 1048576 := by
  rcases O.po with h | ⟨m, hm, e⟩
  ·rw [h]; decide
  exact (np e hm).2
 have obl : W.emp.nn.ob.length = W.ob.length := by show (W.ob.set W.mv []).length = _; rw [List.length_set]
 have jA : W.st = 2 := by
  rcases O.st with h | h
  ·rw [h.2] at hm; cases hm
  exact h.1
 have old : ∀ h i, W.bk h = (true, i) → h % W.ob.length = i := fun h i e => by
  unfold Tb.bk at e
  split at e
  ·cases e; rfl
  cases e
 refine ⟨⟨O1.pw, O1.po, .inr ⟨jA, by rw [obl]; omega, by rw [obl]; exact hm⟩, O1.mp, O1.sz, O1.MR, O1.sm, Nat.le_trans hm ol, rfl, O1.nd, O1.li, O1.lv, O1.it, fun z q hq => ?_, O1.kd⟩, p1.trans (List.Perm.append_left _ pe.symm), fun q hq => ?_⟩
 ·change W.emp.bk (bJ (aI C.A q)) = z
  rw [bkx]
  have hq' : q ∈ (W.bW (true, W.mv) []).ch z := hq
  rw [Tb.JQ hx] at hq'
  split at hq'
  ·cases hq'
  next e =>
  have hb := O.bu z q hq'
  split
  ·next g =>
   refine absurd ?_ e
   rw [← hb]
   unfold Tb.bk
   rw [if_pos ⟨by omega, by omega⟩, g]
  exact hb
 rw [bkx, old _ _ (O.bu _ q hq), if_pos rfl]
structure Hand (C : Cs) (W : Tb) (r : List Nat) : Prop where
 nd : r.Nodup
 li : Eb C.A r
 lv : ∀ q ∈ r, Live C q
 it : ∀ q ∈ r, gk C q
 no : ∀ q ∈ r, q ∉ W.all
 kd : ∀ q ∈ r, ∀ s ∈ W.all, aI C.A s ≠ aI C.A q
 kr : ∀ q ∈ r, ∀ s ∈ r, aI C.A q = aI C.A s → q = s
theorem PZ {C : Cs} {W : Tb} (O : cz C W) (hm : W.mv < W.ob.length) : Hand C W.emp (W.ch (true, W.mv)) := by
 obtain ⟨_, p, _⟩ := JI O hm
 have nd := List.nodup_append.1 (p.nodup_iff.1 O.nd)
 have sub : ∀ q ∈ W.ch (true, W.mv), q ∈ W.all := fun q hq => Tb.fQ hq
 have sub2 : ∀ q ∈ W.emp.all, q ∈ W.all := fun q hq => p.mem_iff.2 (List.mem_append_right _ hq)
 exact ⟨nd.1, O.li _, fun q hq => O.lv q (sub q hq), fun q hq => O.it q (sub q hq), fun q hq g => nd.2.2 q hq q g rfl,
  fun q hq s hs e => nd.2.2 q hq s hs (O.kd s (sub2 s hs) q (sub q hq) e).symm, fun q hq s hs e => O.kd q (sub q hq) s (sub s hs) e⟩
def Tb.on (W : Tb) (C : Cs) (p : Nat) : Tb := W.bW (W.bk (bJ (aI C.A p))) (p :: W.ch (W.bk (bJ (aI C.A p))))
def xN (W : Tb) (C : Cs) (p : Nat) : By := wr C.A p 4 (nO (W.ch (W.bk (bJ (aI C.A p)))).head?)
theorem Y8 {C : Cs} (K : Ok C) {W : Tb} (O : cz C W.nn) {p : Nat} {r : List Nat} (H : Hand C W (p :: r)) :
  cz (C.wA (xN W C p)) (W.on C p).nn ∧ Hand (C.wA (xN W C p)) (W.on C p) r ∧ (W.on C p).all.Perm (p :: W.all) ∧ ng C.A (xN W C p) [p] 0 4 := by
 have L := H.lv p (by simp)
 have I := H.it p (by simp)
 have P := wZ K O L I (H.no p (by simp)) (H.kd p (by simp)) (x := W.bk (bJ (aI C.A p))) rfl
 have hx : Aa W (W.bk (bJ (aI C.A p))) := nQ O (bJ (aI C.A p))
 obtain ⟨r1, p1, p2⟩ := Tb.lh hx
 have pa : (W.on C p).all.Perm (p :: W.all) := (p2 _).trans (List.Perm.cons p p1.symm)
 have ne : (W.on C p).nn = { W.nn.bW (W.bk (bJ (aI C.A p))) (p :: W.ch (W.bk (bJ (aI C.A p)))) with n := W.nn.n + 1 } := by
  have : (W.on C p).all.length = W.all.length + 1 := by rw [pa.length_eq]; rfl
  unfold Tb.nn
  rw [this]
  unfold Tb.on
  rcases W.bk (bJ (aI C.A p)) with ⟨_ | _, i⟩ <;> rfl
 have d : ng C.A (xN W C p) [p] 0 4 := su C.A (q := p) (a := 0) (by simp)
 have nd := List.nodup_cons.1 H.nd
 have kp : ∀ q ∈ r, Kept C (xN W C p) q := fun q hq => kI K (H.lv q (by simp [hq])) L (H.it q (by simp [hq])) _
 have kw : ∀ q ∈ W.all, Kept C (xN W C p) q := fun q hq => kI K (O.lv q hq) L (O.it q hq) _
 have W9 : Kept C (xN W C p) p := kI K L L I _
 refine ⟨by rw [ne]; exact P, ⟨nd.2, mM (fun q hq => oX K (H.lv q (by simp [hq])) L (fun e => nd.1 (e ▸ hq)) _) H.li.2, fun q hq => (H.lv q (by simp [hq])).wA _, fun q hq => (kp q hq).it (H.it q (by simp [hq])), fun q hq g => ?_, fun q hq s hs e => ?_, fun q hq s hs e => ?_⟩, pa, d⟩
 ·rcases List.mem_cons.1 (pa.mem_iff.1 g) with h | h
  ·exact nd.1 (h ▸ hq)
  exact H.no q (by simp [hq]) h
 ·change aI (xN W C p) s = aI (xN W C p) q at e
  rw [(kp q hq).key] at e
  rcases List.mem_cons.1 (pa.mem_iff.1 hs) with h | h
  ·subst h
   rw [W9.key] at e
   have := H.kr s (by simp) q (by simp [hq]) e
   exact nd.1 (this ▸ hq)
  rw [(kw s h).key] at e
  exact H.kd q (by simp [hq]) s h e
 change aI (xN W C p) q = aI (xN W C p) s at e
 rw [(kp q hq).key, (kp s hs).key] at e
 exact H.kr q (by simp [hq]) s (by simp [hs]) e
structure nu (W V : Tb) : Prop where
 n : V.n = W.n
 st : V.st = W.st
 size : V.size = W.size
 aC : V.aC = W.aC
 nb : V.nb.length = W.nb.length
 ob : V.ob.length = W.ob.length
theorem nu.on {C : Cs} {W V : Tb} (h : nu W V) (p : Nat) : nu W (V.on C p) := by
 unfold Tb.on
 rcases V.bk (bJ (aI C.A p)) with ⟨_ | _, i⟩
 ·exact ⟨h.n, h.st, h.size, h.aC, by rw [← h.nb]; exact List.length_set, h.ob⟩
 exact ⟨h.n, h.st, h.size, h.aC, h.nb, by rw [← h.ob]; exact List.length_set⟩
theorem Q6 (C : Cs) (W : Tb) (p : Nat) : (W.on C p).mv = W.mv := by
 unfold Tb.on
 rcases W.bk (bJ (aI C.A p)) with ⟨_ | _, i⟩ <;> rfl
structure NI (C : Cs) (W : Tb) (A : By) (V : Tb) (r : List Nat) (k : Nat) : Prop where
 o : cz (C.wA A) V.nn
 h : Hand (C.wA A) V r
 p : (r ++ V.all).Perm W.all
 d : ng C.A A W.all 0 4
 s : nu W V
 mv : V.mv = W.mv + 1
 k : k + r.length ≤ W.n
structure S9 (C : Cs) (W : Tb) (A : By) (V : Tb) : Prop where
 o : cz (C.wA A) V
 p : V.all.Perm W.all
 d : ng C.A A W.all 0 4
 s : nu W V
 mv : V.mv = W.mv + 1
theorem NI.start {C : Cs} {W : Tb} (O : cz C W) (hm : W.mv < W.ob.length) : NI C W C.A W.emp (W.ch (true, W.mv)) 0 := by
 obtain ⟨h1, h2, _⟩ := JI O hm
 exact ⟨h1, PZ O hm, h2.symm, ng.refl _ _ _ _, ⟨rfl, rfl, rfl, rfl, rfl, List.length_set⟩, rfl, by have := pM O (true, W.mv); omega⟩
theorem NI.step {C : Cs} (K : Ok C) {W : Tb} {A : By} {V : Tb} {p : Nat} {r : List Nat} {k : Nat} (I : NI C W A V (p :: r) k) : NI C W (xN V (C.wA A) p) (V.on (C.wA A) p) r (k + 1) := by
 obtain ⟨h1, h2, h3, h4⟩ := Y8 (K.wA A) I.o I.h
 have hp : p ∈ W.all := I.p.mem_iff.1 (by simp)
 refine ⟨h1, h2, ?_, I.d.trans (h4.mono fun q hq => by rw [List.mem_singleton] at hq; exact hq ▸ hp), I.s.on p, by rw [Q6]; exact I.mv, by have := I.k; simp at this; omega⟩
 refine (List.Perm.append_left r h3).trans (List.Perm.trans ?_ I.p)
 exact List.perm_middle
theorem NI.done {C : Cs} {W : Tb} (O : cz C W) {A : By} {V : Tb} {k : Nat} (I : NI C W A V [] k) : S9 C W A V := by
 have e : V.nn = V := by
  unfold Tb.nn
  have h1 := I.p.length_eq
  simp only [List.nil_append] at h1
  rw [h1, ← O.n, ← I.s.n]
 have o := I.o
 rw [e] at o
 exact ⟨o, by simpa using I.p, I.d, I.s, I.mv⟩
theorem Qg (b : Nat) (W : Tb) (nk ok : Nat) : [.pointer (some ⟨b, 0, none⟩), .int .i64 (W.aC : Int), .int .i64 (W.n : Int), .int .i64 (W.size : Int), .slice (some ⟨nk, 0, none⟩) W.nb.length W.nb.length, .slice (some ⟨ok, 0, none⟩) W.ob.length W.ob.length, .int .i64 ((W.mv : Int) + 1), .int .i64 (W.st : Int)] = dg b W.emp ⟨nk, some ok⟩ := by
 unfold dg MP
 rw [Tb.JJ, List.length_set]
 rfl
theorem Ku (t b : Nat) (C : Cs) (K : Ok C) (W : Tb) (y : mZ) (O : cz C W) (hy : y.ok = none → W.ob = []) (hm : W.mv < W.ob.length) :
  aL Tryz.prog 122 [.pointer (some ⟨t, 0, none⟩), .int .i64 (W.mv : Int)] (fun _ => True) (Cl b C :: jZ t b W y)
   (fun v H => v = .tuple #[] ∧ ∃ A V, H = Cl b (C.wA A) :: jZ t b V y ∧ S9 C W A V) := by
 obtain ⟨ok, nB⟩ : ∃ ok, y.ok = some ok := by
  rcases h : y.ok with _ | ok
  ·rw [hy h] at hm; cases hm
  exact ⟨ok, rfl⟩
 rcases y with ⟨nk, _⟩
 dsimp only at nB
 subst nB
 have hn := xY K O
 have mvb := O.mv
 have st := NI.start O hm
 have ho : cq C (W.ch (true, W.mv)).head? := fun q hq => O.lv q (Tb.fQ (List.mem_of_mem_head? hq))
 have di : (ax (ao W.ob))[W.mv]? = some (.int .u32 (nO (W.ch (true, W.mv)).head? : Int)) := mw hm
 change aL _ _ _ _ [Cl b C, af t 145 [.pointer (some ⟨b, 0, none⟩), .int .i64 (W.aC : Int), .int .i64 (W.n : Int), .int .i64 (W.size : Int), .slice (some ⟨nk, 0, none⟩) W.nb.length W.nb.length, .slice (some ⟨ok, 0, none⟩) W.ob.length W.ob.length, .int .i64 (W.mv : Int), .int .i64 (W.st : Int)], af nk 163 (ax (ao W.nb)), af ok 163 (ax (ao W.ob))] _
 refine ag Tryz.func122 rfl Tryz.ntmps122 rfl ?_
 intro F _
 refine cY ?_
 refine zl T.yp (jq t b C W ⟨nk, some ok⟩ K (W.ch (true, W.mv)).head? ho) .nil (fun _ le av => ⟨av.1, av.2.1⟩) ?_
 refine cY ?_
 refine Lp (oS T.ma ?_ (i := W.mv) (hi := by rw [jj, kK]; exact hm))
 rw [show (ax (ao W.ob)).set W.mv (.int .u32 0) = ax (ao (W.ob.set W.mv [])) from kJ W.ob W.mv []]
 refine oo ?_
 refine Hh (H' := [Cl b C, af t 145 [.pointer (some ⟨b, 0, none⟩), .int .i64 (W.aC : Int), .int .i64 (W.n : Int), .int .i64 (W.size : Int), .slice (some ⟨nk, 0, none⟩) W.nb.length W.nb.length, .slice (some ⟨ok, 0, none⟩) W.ob.length W.ob.length, .int .i64 ((W.mv : Int) + 1), .int .i64 (W.st : Int)], af nk 163 (ax (ao W.nb)), af ok 163 (ax (ao (W.ob.set W.mv [])))]) ?_
 rw [Qg b W nk ok]
 refine Lo (ι := By × Tb × List Nat × Nat) [29, 30, 31, 32, 33, 34, 35, 36, 37, 38, 41, 42, 43, 6, 44, 45, 46, 47, 48, 49, 50, 51, 52, 4, 39, 40, 5] (fun s => NI C W s.1 s.2.1 s.2.2.1 s.2.2.2) (fun s => [(4, .int .u64 (hO (C.wA s.1) s.2.2.1.head? : Int)), (5, .int .i64 (s.2.2.2 : Int))]) (fun s => [Cl b (C.wA s.1), af t 145 (dg b s.2.1 ⟨nk, some ok⟩), af nk 163 (ax (ao s.2.1.nb)), af ok 163 (ax (ao s.2.1.ob))]) (fun s => s.2.2.1.length) ((C.A, W.emp, W.ch (true, W.mv), 0)) st ?_
 rintro ⟨A, V, r, k⟩ hI
 dsimp only at hI ⊢
 have K2 := K.wA A
 have hk := hI.k
 have hsn := hI.s.n
 rcases r with _ | ⟨p, r⟩
 ·unfold dg
  refine bq ?_
  refine zf 31 ?_ (e := by rfl)
  refine gh ?_
  refine jN [Cl b (C.wA A), af t 145 (dg b V ⟨nk, some ok⟩), af nk 163 (ax (ao V.nb)), af ok 163 (ax (ao V.ob))] Tryz.results122 ?_
  exact ⟨rfl, A, V, rfl, hI.done O⟩
 have L := hI.h.lv p (by simp)
 have I := hI.h.it p (by simp)
 obtain ⟨m1, m2, m3, m4, m5, m6⟩ := bM K2 L.toAt
 have hx := nQ hI.o (bJ (aI A p))
 have lvr : cq (C.wA A) r.head? := fun q hq => hI.h.lv q (List.mem_cons_of_mem _ (List.mem_of_mem_head? hq))
 have lvc : cq (C.wA A) (V.ch (V.bk (bJ (aI A p)))).head? := fun q hq => hI.o.lv q (Tb.fQ (T := V) (List.mem_of_mem_head? hq))
 have lk : (aI A p).length = kl A p := cS _ _ _
 obtain ⟨z1, z2, z3, _⟩ := L.toAt.bh K2
 have lf := I.fits
 change 58 + kl A p + vl A p ≤ _ at lf
 have f1 := K2.toFix.p1
 have jA := hI.step K
 have nz : V.on (C.wA A) p = V.bW (V.bk (bJ (aI A p))) (p :: V.ch (V.bk (bJ (aI A p)))) := rfl
 have hoA : xN V (C.wA A) p = wr A p 4 (nO (V.ch (V.bk (bJ (aI A p)))).head?) := rfl
 have hbk : Tb.bk { V with n := V.all.length } (bJ (aI A p)) = V.bk (bJ (aI A p)) := rfl
 rw [nz, hoA] at jA
 simp only [List.length_cons] at hk
 rw [List.head?_cons, bV]
 unfold dg
 refine bq ?_
 refine zt 31 ?_ (e := by exact by rw [decide_eq_false (by omega)]; rfl)
 refine cX ?_
 refine gK ?_
 refine bO ?_
 refine zl T.uP (gR t b (C.wA A) V ⟨nk, some ok⟩ K2 p r.head? L I.k0 lvr hI.h.li.1) .nil (fun _ le av => ⟨av.1, av.2.1⟩) ?_
 refine bO ?_
 refine Lp (oC T.pL rfl rfl (mD t b (C.wA A) V ⟨nk, some ok⟩ K2 p L I) .nil (fun _ le av => ⟨av.1, av.2.1⟩) ?_)
 rintro v H' ⟨kb, rfl, rfl⟩
 refine bo ?_
 refine zl T.yo (jr t b (C.wA A) V ⟨nk, some ok⟩ V.all.length hI.o (fun h => by cases h) (some ⟨kb, 0, none⟩) (kl A p) (kl A p) (aI A p) lk.symm (by omega)) .nil (fun _ le av => ⟨av.2.2.1, bY av.1⟩) ?_
 refine aD ?_
 replace hx : Aa V (V.bk (bJ (aI A p))) := hx
 clear nz hoA hbk
 generalize V.bk (bJ (aI A p)) = x at hx lvc jA ⊢
 refine zl T.AZ (sP t b (C.wA A) K2 V ⟨nk, some ok⟩ (fun h => by cases h) x hx p L I.k0 lvc) (.cons (.there .here) (.cons (.there .here) (.cons (.there .here) (.cons (.there .here) .nil)))) (fun _ _ _ => trivial) ?_
 refine bP ?_
 refine aB ?_
 refine Ro ((wr A p 4 (nO (V.ch x).head?), V.bW x (p :: V.ch x), r, k + 1)) (jA) ((by simp))
def Tb.fin (W : Tb) : Tb := { W with ob := [], st := 0 }
theorem VT {C : Cs} {W : Tb} (O : cz C W) (hm : W.ob.length ≤ W.mv) : cz C W.fin ∧ W.fin.all.Perm W.all := by
 obtain ⟨m, NV, ep⟩ := O.pw
 obtain ⟨p1, _⟩ := np ep NV
 have no : ∀ i, W.ch (true, i) = [] := fun i => by
  refine List.eq_nil_iff_forall_not_mem.2 fun q hq => ?_
  have h := O.bu _ q hq
  unfold Tb.bk at h
  split at h
  ·next g =>
   have := Nat.mod_lt (bJ (aI C.A q)) g.1
   omega
  cases h
 have obf : W.ob.flatten = [] := by
  refine List.eq_nil_iff_forall_not_mem.2 fun q hq => ?_
  obtain ⟨l, h1, h2⟩ := List.mem_flatten.1 hq
  obtain ⟨i, hi, rfl⟩ := List.getElem_of_mem h1
  have := no i
  unfold Tb.ch at this
  rw [if_pos rfl, List.getD_eq_getElem?_getD, List.getElem?_eq_getElem hi] at this
  change W.ob[i] = [] at this
  rw [this] at h2; cases h2
 have ea : W.fin.all = W.all := by unfold Tb.fin Tb.all; rw [obf]; rfl
 have chx : ∀ z, W.fin.ch z = W.ch z := fun z => by
  rcases z with ⟨_ | _, i⟩
  ·rfl
  rw [no i]; rfl
 refine ⟨⟨O.pw, .inl rfl, .inl ⟨rfl, rfl⟩, O.mp, O.sz, O.MR, O.sm, O.mv, by rw [ea]; exact O.n, by rw [ea]; exact O.nd, fun z => by rw [chx]; exact O.li z, by rw [ea]; exact O.lv, by rw [ea]; exact O.it, fun z q hq => ?_, by rw [ea]; exact O.kd⟩, by rw [ea]⟩
 rw [chx] at hq
 have h := O.bu z q hq
 rw [← h]
 unfold Tb.bk Tb.fin
 rw [if_neg (by simp)]
 split
 ·next g =>
  have := Nat.mod_lt (bJ (aI C.A q)) g.1
  omega
 rfl
def Tb.Cn (W : Tb) (s : Nat) : Tb := { W with size := s, nb := List.replicate s [], ob := W.nb, mv := 0, st := 2 }
theorem Mj (s : Nat) : (List.replicate s ([] : List Nat)).flatten = [] := by
 rw [List.flatten_eq_nil_iff]
 intro l h
 exact List.eq_of_mem_replicate h
theorem JR {C : Cs} {W : Tb} (O : cz C W) (h0 : W.st = 0) {s : Nat} (hs : ∃ m, m ≤ 20 ∧ s = 2 ^ m) (Ss : 16 ≤ s) (hm : s ≤ W.aC) : cz C (W.Cn s) ∧ (W.Cn s).all = W.all := by
 obtain ⟨m, NV, ep⟩ := O.pw
 obtain ⟨p1, p2⟩ := np ep NV
 have ob0 : W.ob = [] := by
  rcases O.st with h | h
  ·exact h.2
  omega
 have ea : (W.Cn s).all = W.all := by
  unfold Tb.Cn Tb.all
  rw [ob0]
  show (List.replicate s []).flatten ++ W.nb.flatten = _
  rw [Mj]; simp
 have chf : ∀ i, (W.Cn s).ch (false, i) = [] := fun i => by
  show (List.replicate s []).getD i [] = []
  rw [List.getD_eq_getElem?_getD]
  by_cases h : i < s
  ·rw [List.getElem?_replicate, if_pos h]; rfl
  rw [List.getElem?_replicate, if_neg h]; rfl
 refine ⟨⟨by obtain ⟨m, h1, h2⟩ := hs; exact ⟨m, h1, by show (List.replicate s _).length = _; rw [List.length_replicate]; exact h2⟩, .inr O.pw, .inr ⟨rfl, by show 0 < W.nb.length; omega, Nat.zero_le _⟩, O.mp, (List.length_replicate ..).symm, Ss, hm, Nat.zero_le _, by rw [ea]; exact O.n, by rw [ea]; exact O.nd, fun z => ?_, by rw [ea]; exact O.lv, by rw [ea]; exact O.it, fun z q hq => ?_, by rw [ea]; exact O.kd⟩, ea⟩
 ·rcases z with ⟨_ | _, i⟩
  ·rw [chf]; trivial
  exact O.li (false, i)
 rcases z with ⟨_ | _, i⟩
 ·rw [chf] at hq; cases hq
 have h := O.bu (false, i) q hq
 unfold Tb.bk at h
 rw [if_neg (by rw [ob0]; simp)] at h
 show Tb.bk (W.Cn s) _ = _
 unfold Tb.bk
 rw [if_pos ⟨by show 0 < W.nb.length; omega, Nat.zero_le _⟩]
 have := (Prod.mk.inj h).2
 show (true, bJ (aI C.A q) % W.nb.length) = _
 rw [this]
structure rZ (C : Cs) (W : Tb) (k : Nat) (A : By) (V : Tb) : Prop where
 o : cz (C.wA A) V
 p : V.all.Perm W.all
 d : ng C.A A W.all 0 4
 s : nu W V
 mv : V.mv = W.mv + k
theorem rZ.zero {C : Cs} {W : Tb} (O : cz C W) : rZ C W 0 C.A W := ⟨O, List.Perm.refl _, ng.refl _ _ _ _, ⟨rfl, rfl, rfl, rfl, rfl, rfl⟩, rfl⟩
theorem rZ.next {C : Cs} {W : Tb} {k : Nat} {A : By} {V : Tb} (I : rZ C W k A V) {B : By} {U : Tb} (M : S9 (C.wA A) V B U) : rZ C W (k + 1) B U :=
 ⟨M.o, M.p.trans I.p, I.d.trans (M.d.mono fun q hq => I.p.mem_iff.1 hq), ⟨M.s.n.trans I.s.n, M.s.st.trans I.s.st, M.s.size.trans I.s.size, M.s.aC.trans I.s.aC, M.s.nb.trans I.s.nb, M.s.ob.trans I.s.ob⟩, by rw [M.mv, I.mv]; omega⟩
structure Stp (C : Cs) (W : Tb) (k : Nat) (A : By) (V : Tb) : Prop where
 o : cz (C.wA A) V
 p : V.all.Perm W.all
 d : ng C.A A W.all 0 4
 n : V.n = W.n
 size : V.size = W.size
 aC : V.aC = W.aC
 on : W.mv + k < W.ob.length → V.st = 2 ∧ V.mv = W.mv + k ∧ V.ob.length = W.ob.length
 off : W.ob.length ≤ W.mv + k → V.st = 0
theorem rZ.go {C : Cs} {W : Tb} {k : Nat} {A : By} {V : Tb} (I : rZ C W k A V) (h2 : W.st = 2) (h : W.mv + k < W.ob.length) : Stp C W k A V :=
 ⟨I.o, I.p, I.d, I.s.n, I.s.size, I.s.aC, fun _ => ⟨by rw [I.s.st, h2], I.mv, I.s.ob⟩, fun g => by omega⟩
theorem rZ.fin {C : Cs} {W : Tb} {k j : Nat} {A : By} {V : Tb} (I : rZ C W k A V) (h : W.mv + k = W.ob.length) (hj : k ≤ j) : Stp C W j A V.fin := by
 obtain ⟨f1, f2⟩ := VT I.o (by rw [I.s.ob, I.mv]; omega)
 exact ⟨f1, f2.trans I.p, I.d, I.s.n, I.s.size, I.s.aC, fun g => by omega, fun _ => rfl⟩
theorem EF (t b : Nat) (C : Cs) (K : Ok C) (W : Tb) (y : mZ) (h0 : W.st = 0) (k : Nat) :
  aL Tryz.prog 78 [.pointer (some ⟨t, 0, none⟩), .int .i64 (k : Int)] (In (af t 145 (dg b W y))) []
   (fun v H => v = .int .i64 0 ∧ H = []) := by
 unfold dg
 rw [h0]
 refine ag Tryz.func78 rfl Tryz.ntmps78 rfl ?_
 intro F ht
 refine ca ?_
 refine ca ?_
 refine vW ?_
 refine Rt [] Tryz.results78 ?_
 exact ⟨rfl, rfl⟩
theorem ED (t b : Nat) (C : Cs) (K : Ok C) (W : Tb) (nk ok : Nat) (O : cz C W) (h2 : W.st = 2) (hm : W.mv < W.ob.length) (k : Nat) (hk : k ≤ 1099511627776) :
  aL Tryz.prog 78 [.pointer (some ⟨t, 0, none⟩), .int .i64 (k : Int)] (fun _ => True) (Cl b C :: jZ t b W ⟨nk, some ok⟩)
   (fun v H => v = .int .i64 ((min k (W.ob.length - W.mv) : Nat) : Int) ∧ ∃ A V o', H = Cl b (C.wA A) :: jZ t b V ⟨nk, o'⟩ ∧ (o' = none → V.ob = []) ∧ Stp C W k A V) := by
 have ol : W.ob.length ≤ 1048576 := by
  rcases O.po with h | ⟨m, hm, e⟩
  ·rw [h]; decide
  exact (np e hm).2
 change aL _ _ _ _ [Cl b C, af t 145 [.pointer (some ⟨b, 0, none⟩), .int .i64 (W.aC : Int), .int .i64 (W.n : Int), .int .i64 (W.size : Int), .slice (some ⟨nk, 0, none⟩) W.nb.length W.nb.length, .slice (some ⟨ok, 0, none⟩) W.ob.length W.ob.length, .int .i64 (W.mv : Int), .int .i64 (W.st : Int)], af nk 163 (ax (ao W.nb)), af ok 163 (ax (ao W.ob))] _
 refine ag Tryz.func78 rfl Tryz.ntmps78 rfl ?_
 intro F _
 refine ca ?_
 refine bE ?_
 refine dq ?_
 refine bO ?_
 refine gK ?_
 refine cY ?_
 refine Lo (ι := Nat × By × Tb) [27, 28, 29, 30, 31, 32, 33, 34, 35, 36, 37, 38, 39, 40, 41, 44, 45, 46, 47, 48, 49, 42, 43, 5] (fun s => rZ C W s.1 s.2.1 s.2.2 ∧ s.1 ≤ k ∧ W.mv + s.1 ≤ W.ob.length) (fun s => [(5, .int .i64 (s.1 : Int))]) (fun s => [Cl b (C.wA s.2.1), af t 145 (dg b s.2.2 ⟨nk, some ok⟩), af nk 163 (ax (ao s.2.2.nb)), af ok 163 (ax (ao s.2.2.ob))]) (fun s => k - s.1) ((0, C.A, W)) ⟨rZ.zero O, Nat.zero_le _, Nat.le_of_lt hm⟩ ?_
 rintro ⟨d, A, V⟩ hI
 dsimp only at hI ⊢
 have K2 := K.wA A
 have hmv := hI.1.mv
 have hob := hI.1.s.ob
 have hd := hI.2
 unfold dg
 refine aD ?_
 refine ay ?_
 refine jC 14 T.mix (.cons (.there .here) .nil) fun F1 kN cT aU => ?_
 obtain ⟨q1, _⟩ := cT
 by_cases hg : d < k
 ·refine Ti Mv ?_
  refine bL ?_
  refine zt 30 ?_
  refine bx ?_
  refine iC aU ?_
  refine bw ?_
  by_cases hl : W.mv + d < W.ob.length
  ·refine gK ?_
   refine Hh (H' := [Cl b (C.wA A), af t 145 (dg b V ⟨nk, some ok⟩), af nk 163 (ax (ao V.nb)), af ok 163 (ax (ao V.ob))]) ?_
   unfold dg
   refine bx ?_
   refine Lp (oC T.VK rfl rfl (Ku t b (C.wA A) K2 V ⟨nk, some ok⟩ hI.1.o (fun h => by cases h) (by omega)) (.cons .here (.cons .here (.cons .here (.cons .here .nil)))) (fun _ _ _ => trivial) ?_)
   rintro v H' ⟨rfl, B, U, rfl, hM⟩
   refine bo ?_
   refine bO ?_
   refine aB ?_
   refine Ro ((d + 1, B, U)) (⟨hI.1.next hM, by dsimp only; omega, by dsimp only; omega⟩) ((by dsimp only; omega))
  refine dq ?_
  refine bE ?_
  refine ay ?_
  refine jC 9 T.mix (.cons .here .nil) fun F2 D1 eO eP => ?_
  obtain ⟨q1, _⟩ := eO
  refine cY ?_
  refine iC eP ?_
  refine bw ?_
  refine dq ?_
  refine ca ?_
  refine bP ?_
  refine az (fun _ s => fX (A := Em) (fun _ => trivial) s) ?_
  refine Rt [Cl b (C.wA A), af t 145 (dg b V.fin ⟨nk, none⟩), af nk 163 (ax (ao V.nb)), Em] Tryz.results78 ?_
  exact ⟨by rw [show min k (W.ob.length - W.mv) = d by omega], A, V.fin, none, rfl, fun _ => rfl, hI.1.fin (by omega) hd.1⟩
 refine Ti Mv ?_
 refine bL ?_
 refine zf 30 ?_
 refine bx ?_
 refine iC aU ?_
 refine cY ?_
 refine ay ?_
 refine jC 9 T.mix (.cons .here .nil) fun F3 R7 rX fW => ?_
 obtain ⟨q1, _⟩ := rX
 refine cY ?_
 refine iC fW ?_
 refine bw ?_
 by_cases hl : W.mv + d < W.ob.length
 ·refine gK ?_
  refine bP ?_
  refine Rt [Cl b (C.wA A), af t 145 (dg b V ⟨nk, some ok⟩), af nk 163 (ax (ao V.nb)), af ok 163 (ax (ao V.ob))] Tryz.results78 ?_
  obtain rfl : d = k := by omega
  exact ⟨by rw [show min d (W.ob.length - W.mv) = d by omega], A, V, some ok, rfl, (fun h => by cases h), hI.1.go h2 hl⟩
 refine dq ?_
 refine ca ?_
 refine bP ?_
 refine az (fun _ s => fX (A := Em) (fun _ => trivial) s) ?_
 refine Rt [Cl b (C.wA A), af t 145 (dg b V.fin ⟨nk, none⟩), af nk 163 (ax (ao V.nb)), Em] Tryz.results78 ?_
 exact ⟨by rw [show min k (W.ob.length - W.mv) = d by omega], A, V.fin, none, rfl, fun _ => rfl, hI.1.fin (by omega) hd.1⟩
theorem vp (s : Nat) : eV [.int .u32 0] (s * 1) = ax (ao (List.replicate s [])) := by
 rw [mf, Nat.mul_one]
 unfold ax ao
 rw [List.map_replicate, List.map_replicate]; rfl
theorem EE (t b nk mo n s L : Nat) (hs : s ≤ 1048576) (hL : 0 < L ∧ L ≤ 1048576) :
  aL Tryz.prog 78 [.pointer (some ⟨t, 0, none⟩), .int .i64 0] (fun _ => True) [af t 145 [.pointer (some ⟨b, 0, none⟩), .int .i64 (mo : Int), .int .i64 (n : Int), .int .i64 (s : Int), .slice none 0 0, .slice (some ⟨nk, 0, none⟩) L L, .int .i64 0, .int .i64 1]]
   (fun v H => v = .int .i64 0 ∧ ∃ mk, H = [af t 145 [.pointer (some ⟨b, 0, none⟩), .int .i64 (mo : Int), .int .i64 (n : Int), .int .i64 (s : Int), .slice (some ⟨mk, 0, none⟩) s s, .slice (some ⟨nk, 0, none⟩) L L, .int .i64 0, .int .i64 2], af mk 163 (ax (ao (List.replicate s [])))]) := by
 refine ag Tryz.func78 rfl Tryz.ntmps78 rfl ?_
 intro F _
 refine ca ?_
 refine vW ?_
 refine Lp (oM (s) (s) T.wP fun b1 => ?_)
 rw [vp]
 refine gg ?_
 refine Lo (ι := Unit) [27, 28, 29, 30, 31, 32, 33, 34, 35, 36, 37, 38, 39, 40, 41, 44, 45, 46, 47, 48, 49, 42, 43, 5] (fun u => True) (fun u => [(5, .int .i64 0)]) (fun u => [af t 145 [.pointer (some ⟨b, 0, none⟩), .int .i64 (mo : Int), .int .i64 (n : Int), .int .i64 (s : Int), .slice (some ⟨b1, 0, none⟩) s s, .slice (some ⟨nk, 0, none⟩) L L, .int .i64 0, .int .i64 2], af b1 163 (ax (ao (List.replicate s [])))]) (fun u => 0) (()) trivial ?_
 rintro u hI
 refine aD ?_
 refine ay ?_
 refine jC 14 T.mix (.cons .here .nil) fun F1 kN cT aU => ?_
 obtain ⟨q1, _⟩ := cT
 refine bb ?_
 refine zf 30 ?_ (e := by rfl)
 refine bx ?_
 refine iC aU ?_
 refine cY ?_
 refine ay ?_
 refine jC 9 T.mix (.cons .here .nil) fun F2 D1 eO eP => ?_
 obtain ⟨q1, _⟩ := eO
 refine cY ?_
 refine iC eP ?_
 refine bw ?_
 refine gK ?_
 refine bP ?_
 refine Rt [af t 145 [.pointer (some ⟨b, 0, none⟩), .int .i64 (mo : Int), .int .i64 (n : Int), .int .i64 (s : Int), .slice (some ⟨b1, 0, none⟩) s s, .slice (some ⟨nk, 0, none⟩) L L, .int .i64 0, .int .i64 2], af b1 163 (ax (ao (List.replicate s [])))] Tryz.results78 ?_
 exact ⟨rfl, _, rfl⟩
theorem u7 (t b : Nat) (C : Cs) (W : Tb) (y : mZ) (O : cz C W) (s : Nat) (hs : s ≤ 1048576) :
  aL Tryz.prog 152 [.pointer (some ⟨t, 0, none⟩), .int .i64 (s : Int)] (fun _ => True) [af t 145 (dg b W y), af y.nk 163 (ax (ao W.nb))]
   (fun v H => v = .tuple #[] ∧ ∃ mk, H = jZ t b (W.Cn s) ⟨mk, some y.nk⟩) := by
 obtain ⟨i, hi, ei⟩ := O.pw
 have hp := np ei hi
 unfold dg
 refine ag Tryz.func152 rfl Tryz.ntmps152 rfl ?_
 intro F _
 refine ca ?_
 refine mV ?_
 refine Lp (oC T.RA rfl rfl (EE t b y.nk W.aC W.n s W.nb.length hs (by omega)) (.cons .here .nil) (fun _ _ _ => trivial) ?_)
 rintro v H' ⟨rfl, mk, rfl⟩
 refine bo ?_
 refine aB ?_
 refine jN [af t 145 [.pointer (some ⟨b, 0, none⟩), .int .i64 (W.aC : Int), .int .i64 (W.n : Int), .int .i64 (s : Int), .slice (some ⟨mk, 0, none⟩) s s, .slice (some ⟨y.nk, 0, none⟩) W.nb.length W.nb.length, .int .i64 0, .int .i64 2], af mk 163 (ax (ao (List.replicate s []))), af y.nk 163 (ax (ao W.nb))] Tryz.results152 ?_
 exact ⟨rfl, mk, by simp [jZ, dg, Tb.Cn, MP, fI]⟩
theorem Iz (t b : Nat) (C : Cs) (K : Ok C) (W : Tb) (y : mZ) (O : cz C W) (hy : y.ok = none → W.ob = []) (p : Nat) (hp : p ∈ W.all) :
  aL Tryz.prog 150 [.pointer (some ⟨t, 0, none⟩), .int .u64 (C.hd p : Int)] (fun h => In (Cl b C) h ∧ fF (jZ t b W y) h) []
   (fun v H => v = .bool true ∧ H = []) := by
 have L := O.lv p hp
 have I := O.it p hp
 have lk : (aI C.A p).length = kl C.A p := cS _ _ _
 have hk := I.k0
 have hf := I.fits
 obtain ⟨z1, z2, z3, _⟩ := L.toAt.bh K
 have f1 := K.toFix.p1
 have eg := get_some O hp rfl
 refine ag Tryz.func150 rfl Tryz.ntmps150 rfl ?_
 rintro F ⟨hc, ht⟩
 refine bE ?_
 refine Lp (oC T.pL rfl rfl (mD t b C W y K p L I) .nil (fun _ le _ => ⟨In.mono hc le, In.mono ht.1 le⟩) ?_)
 rintro v H' ⟨kb, rfl, rfl⟩
 refine bo ?_
 refine bq ?_
 refine zl T.uR (kk t b C K W y O hy (some ⟨kb, 0, none⟩) (kl C.A p) (kl C.A p) (aI C.A p) lk.symm (by omega)) .nil (fun _ le av => ⟨In.mono hc le, cu ht le, bY av.1⟩) ?_
 rw [eg, bV]
 refine bP ?_
 refine zt 20 ?_
 refine bL ?_
 refine zt 23 ?_ (e := by rfl)
 refine bO ?_
 refine Rt [] Tryz.results150 ?_
 exact ⟨by rw [decide_eq_true rfl], rfl⟩
def l7 (W : Tb) : Prop := W.st = 0 ∧ 3 * W.size < 2 * (W.n + 1) ∧ W.size < W.aC
structure RW (C : Cs) (W : Tb) (p : Nat) (A : By) (V : Tb) : Prop where
 o : cz (C.wA A) V
 pm : V.all.Perm (p :: W.all)
 df : ng C.A A [p] 0 4
 n : V.n = W.n + 1
 aC : V.aC = W.aC
 Sw : l7 W → V.size = 2 * W.size ∧ V.st = 2 ∧ V.mv = 0 ∧ V.ob.length = W.size
 same : ¬ l7 W → V.size = W.size ∧ V.st = W.st ∧ V.mv = W.mv ∧ V.ob.length = W.ob.length
theorem YJ {C : Cs} {W : Tb} (O : cz C W) (h : W.size < W.aC) : 2 * W.size ≤ W.aC ∧ ∃ m, m ≤ 20 ∧ 2 * W.size = 2 ^ m := by
 obtain ⟨m, hm, e⟩ := O.pw
 obtain ⟨M, hM, e2⟩ := O.mp
 have e0 := O.sz
 have h3 : (2 : Nat) ^ m < 2 ^ M := by omega
 have h4 : m < M := (Nat.pow_lt_pow_iff_right (by decide)).1 h3
 have h5 : (2 : Nat) ^ (m + 1) ≤ 2 ^ M := Nat.pow_le_pow_right (by decide) h4
 rw [Nat.pow_succ] at h5
 exact ⟨by omega, m + 1, by omega, by rw [Nat.pow_succ]; omega⟩
theorem Ol (t b : Nat) (C : Cs) (K : Ok C) (W : Tb) (y : mZ) (O : cz C W) (hy : y.ok = none → W.ob = []) (p : Nat) (L : Live C p) (I : gk C p) (hp : p ∉ W.all) (hkd : ∀ q ∈ W.all, aI C.A q ≠ aI C.A p) :
  aL Tryz.prog 183 [.pointer (some ⟨t, 0, none⟩), .int .u64 (C.hd p : Int)] (fun _ => True) (Cl b C :: jZ t b W y)
   (fun v H => v = .int .i64 0 ∧ ∃ A V y', H = Cl b (C.wA A) :: jZ t b V y' ∧ (y'.ok = none → V.ob = []) ∧ RW C W p A V) := by
 have lk : (aI C.A p).length = kl C.A p := cS _ _ _
 have hk := I.k0
 have hf := I.fits
 obtain ⟨z1, z2, z3, _⟩ := L.toAt.bh K
 have f1 := K.toFix.p1
 have eg : W.get C (aI C.A p) = none := get_none hkd
 have hn := xY K O
 have Ss := O.MR
 have hsm := O.sm
 have Zl : W.aC ≤ 1048576 := by
  obtain ⟨m, hm, e⟩ := O.mp
  exact (np e hm).2
 have tZ : ∃ m, m ≤ 20 ∧ W.size = 2 ^ m := by rw [O.sz]; exact O.pw
 have P := wZ K O L I hp hkd (x := W.bk (bJ (aI C.A p))) rfl
 have hx := nQ O (bJ (aI C.A p))
 obtain ⟨r1, p1, p2⟩ := Tb.lh hx
 have pa : (W.on C p).all.Perm (p :: W.all) := (p2 _).trans (List.Perm.cons p p1.symm)
 have S : nu W (W.on C p) := nu.on (C := C) ⟨rfl, rfl, rfl, rfl, rfl, rfl⟩ p
 have Sm : (W.on C p).mv = W.mv := Q6 C W p
 have lO : cq C (W.ch (W.bk (bJ (aI C.A p)))).head? := fun q hq => O.lv q (Tb.fQ (List.mem_of_mem_head? hq))
 change cz (C.wA (xN W C p)) { W.on C p with n := W.n + 1 } at P
 have Hu : y.ok = none → (W.on C p).ob = [] := fun h => List.eq_nil_of_length_eq_zero (by rw [S.ob, hy h]; rfl)
 have d : ng C.A (xN W C p) [p] 0 4 := su C.A (q := p) (a := 0) (by simp)
 have eon : W.on C p = W.bW (W.bk (bJ (aI C.A p))) (p :: W.ch (W.bk (bJ (aI C.A p)))) := rfl
 have eoA : xN W C p = wr C.A p 4 (nO (W.ch (W.bk (bJ (aI C.A p)))).head?) := rfl
 generalize hV : W.on C p = V at *
 generalize hA : xN W C p = A at *
 generalize hxx : W.bk (bJ (aI C.A p)) = x at *
 obtain ⟨s1, s2, s3, s4, s5, s6⟩ := S
 refine ag Tryz.func183 rfl Tryz.ntmps183 rfl ?_
 intro F _
 refine bE ?_
 refine Lp (oC T.pL rfl rfl (mD t b C W y K p L I) .nil (fun _ le av => ⟨av.1, av.2.1⟩) ?_)
 rintro v H' ⟨kb, rfl, rfl⟩
 refine bo ?_
 refine cX ?_
 refine dq ?_
 refine bE ?_
 refine zl T.uR (kk t b C K W y O hy (some ⟨kb, 0, none⟩) (kl C.A p) (kl C.A p) (aI C.A p) lk.symm (by omega)) .nil (fun _ le av => ⟨av.2.1, av.2.2, bY av.1⟩) ?_
 rw [eg]
 refine qM ?_
 refine zl T.yo (jr t b C W y W.n O hy (some ⟨kb, 0, none⟩) (kl C.A p) (kl C.A p) (aI C.A p) lk.symm (by omega)) .nil (fun _ le av => ⟨av.2.2.1, bY av.1⟩) ?_
 rw [hxx]
 refine aD ?_
 refine zl T.AZ (sP t b C K W y hy x hx p L I.k0 lO) (.cons (.there .here) (.cons (.there .here) (.cons (.there .here) (.cons (.there .here) .nil)))) (fun _ _ _ => trivial) ?_
 rw [← eon, ← eoA]
 refine Hh (H' := [af t 145 (dg b V y), af y.nk 163 (ax (ao V.nb)), fI y.ok 163 (ax (ao V.ob)), Cl b (C.wA A)]) ?_
 unfold dg
 rw [s1]
 refine ed ?_
 refine ay ?_
 refine jC 28 T.mix (.cons .here .nil) fun F1 kN cT aU => ?_
 obtain ⟨q1, _⟩ := cT
 by_cases h0 : W.st = 0
 ·refine Ti Mv ?_
  refine bq ?_
  refine zt 39 ?_
  refine gh ?_
  by_cases h1 : 3 * W.size < 2 * (W.n + 1)
  ·refine zt 52 ?_
   refine cY ?_
   refine iC aU ?_
   refine bw ?_
   by_cases h2 : W.size < W.aC
   ·have hg : l7 W := ⟨h0, h1, h2⟩
    have hdb := YJ O h2
    refine gK ?_
    refine bO ?_
    refine aw (t := 68) (v' := (.int .i64 ((2 * W.size : Nat) : Int))) rfl (by (rw [s3]; rfl)) ?_
    refine Lp (oC T.JC rfl rfl (u7 t b (C.wA A) { V with n := W.n + 1 } y P (2 * W.size) (by omega)) (.cons .here (.cons .here .nil)) (fun _ _ _ => trivial) ?_)
    rintro v H' ⟨rfl, mk, rfl⟩
    refine bo ?_
    refine bq ?_
    obtain ⟨B1, B2⟩ := JR (C := C.wA A) P (s2.trans h0) (s := 2 * W.size) hdb.2 (by omega) (by show 2 * W.size ≤ V.aC; rw [s4]; exact hdb.1)
    refine Rt [Cl b (C.wA A), af t 145 (dg b (Tb.Cn { V with n := W.n + 1 } (2 * W.size)) ⟨mk, some y.nk⟩), af mk 163 (ax (ao (Tb.Cn { V with n := W.n + 1 } (2 * W.size)).nb)), fI (some y.nk) 163 (ax (ao (Tb.Cn { V with n := W.n + 1 } (2 * W.size)).ob))] Tryz.results183 ?_
    exact ⟨rfl, A, _, ⟨mk, some y.nk⟩, rfl, (fun h => by cases h), ⟨B1, by rw [B2]; exact pa, d, rfl, s4, fun _ => ⟨rfl, rfl, rfl, by show V.nb.length = _; rw [s5, O.sz]⟩, fun h => absurd hg h⟩⟩
   have hg : ¬ l7 W := fun h => h2 h.2.2
   refine dq ?_
   refine bE ?_
   refine Rt [Cl b (C.wA A), af t 145 (dg b { V with n := W.n + 1 } y), af y.nk 163 (ax (ao V.nb)), fI y.ok 163 (ax (ao V.ob))] Tryz.results183 ?_
   exact ⟨rfl, A, { V with n := W.n + 1 }, y, rfl, Hu, ⟨P, pa, d, rfl, s4, fun h => absurd h hg, fun _ => ⟨s3, s2, Sm, s6⟩⟩⟩
  have hg : ¬ l7 W := fun h => h1 h.2.1
  refine zf 52 ?_
  refine cY ?_
  refine iC aU ?_
  refine cY ?_
  refine Rt [Cl b (C.wA A), af t 145 (dg b { V with n := W.n + 1 } y), af y.nk 163 (ax (ao V.nb)), fI y.ok 163 (ax (ao V.ob))] Tryz.results183 ?_
  exact ⟨rfl, A, { V with n := W.n + 1 }, y, rfl, Hu, ⟨P, pa, d, rfl, s4, fun h => absurd h hg, fun _ => ⟨s3, s2, Sm, s6⟩⟩⟩
 have hg : ¬ l7 W := fun h => h0 h.1
 refine bE ?_
 refine zf 39 ?_
 refine ca ?_
 refine bw ?_
 refine iC aU ?_
 refine cY ?_
 refine Rt [Cl b (C.wA A), af t 145 (dg b { V with n := W.n + 1 } y), af y.nk 163 (ax (ao V.nb)), fI y.ok 163 (ax (ao V.ob))] Tryz.results183 ?_
 exact ⟨rfl, A, { V with n := W.n + 1 }, y, rfl, Hu, ⟨P, pa, d, rfl, s4, fun h => absurd h hg, fun _ => ⟨s3, s2, Sm, s6⟩⟩⟩
theorem pS (W : Tb) (x : Bool × Nat) (c : List Nat) : nu W (W.bW x c) ∧ (W.bW x c).mv = W.mv := by
 rcases x with ⟨_ | _, i⟩
 ·exact ⟨⟨rfl, rfl, rfl, rfl, List.length_set, rfl⟩, rfl⟩
 exact ⟨⟨rfl, rfl, rfl, rfl, rfl, List.length_set⟩, rfl⟩
theorem nZ : ∀ {c : List Nat} {j : Nat} (h : j < c.length), (c[j] :: c.eraseIdx j).Perm c
 | _ :: _, 0, _ => List.Perm.refl _
 | a :: l, j + 1, h => (List.Perm.swap a _ _).trans (List.Perm.cons a (nZ (c := l) (j := j) (by simpa using h)))
def gz (W : Tb) : Prop := W.st = 0 ∧ 16 < W.size ∧ 8 * (W.n - 1) < W.size
structure Bl (C : Cs) (W : Tb) (p : Nat) (A : By) (V : Tb) : Prop where
 o : cz (C.wA A) V
 pm : (p :: V.all).Perm W.all
 df : ng C.A A W.all 0 4
 n : V.n = W.n - 1
 aC : V.aC = W.aC
 Sw : gz W → V.size = W.size / 2 ∧ V.st = 2 ∧ V.mv = 0 ∧ V.ob.length = W.size
 same : ¬ gz W → V.size = W.size ∧ V.st = W.st ∧ V.mv = W.mv ∧ V.ob.length = W.ob.length
theorem half {C : Cs} {W : Tb} (O : cz C W) (h : 16 < W.size) : (∃ m, m ≤ 20 ∧ W.size / 2 = 2 ^ m) ∧ 16 ≤ W.size / 2 ∧ W.size / 2 ≤ W.aC := by
 obtain ⟨m, hm, e⟩ := O.pw
 have e0 := O.sz
 have e1 := O.sm
 have h3 : (2 : Nat) ^ 4 < 2 ^ m := by rw [← e, ← e0]; exact h
 have h4 : 4 < m := (Nat.pow_lt_pow_iff_right (by decide)).1 h3
 obtain ⟨i, rfl⟩ : ∃ i, m = i + 1 := ⟨m - 1, by omega⟩
 rw [Nat.pow_succ] at e
 have h5 : (2 : Nat) ^ 4 ≤ 2 ^ i := Nat.pow_le_pow_right (by decide) (by omega)
 exact ⟨⟨i, by omega, by omega⟩, by omega, by omega⟩
theorem Ks (t b : Nat) (C : Cs) (K : Ok C) (W : Tb) (y : mZ) (O : cz C W) (hy : y.ok = none → W.ob = []) (p : Nat) (hp : p ∈ W.all) :
  aL Tryz.prog 99 [.pointer (some ⟨t, 0, none⟩), .int .u64 (C.hd p : Int)] (fun _ => True) (Cl b C :: jZ t b W y)
   (fun v H => v = .int .i64 0 ∧ ∃ A V y', H = Cl b (C.wA A) :: jZ t b V y' ∧ (y'.ok = none → V.ob = []) ∧ Bl C W p A V) := by
 have hn := xY K O
 have Ss := O.MR
 have hsm := O.sm
 have Zl : W.aC ≤ 1048576 := by
  obtain ⟨m, hm, e⟩ := O.mp
  exact (np e hm).2
 have hx := nQ O (bJ (aI C.A p))
 have Xh := Be O hp
 have hlen := pM O (W.bk (bJ (aI C.A p)))
 generalize hxx : W.bk (bJ (aI C.A p)) = x at *
 obtain ⟨c, hc⟩ : ∃ c, W.ch x = c := ⟨_, rfl⟩
 rw [hc] at Xh hlen
 obtain ⟨j, hj, ej⟩ := List.getElem_of_mem Xh
 obtain ⟨P, d⟩ := C5 K O hx hc hj ej
 obtain ⟨r1, p1, p2⟩ := Tb.lh hx
 rw [hc] at p1
 have pa : (p :: (W.bW x (c.eraseIdx j)).all).Perm W.all := by
  refine (List.Perm.cons p (p2 _)).trans (List.Perm.trans ?_ p1.symm)
  have := List.Perm.append_right r1 (nZ hj)
  rw [ej] at this
  exact this
 obtain ⟨⟨s1, s2, s3, s4, s5, s6⟩, Sm⟩ := pS W x (c.eraseIdx j)
 have hn1 : 1 ≤ W.n := by omega
 have pull := yz t b C K W y O hy x hx c hc j hj p ej
 generalize hV : W.bW x (c.eraseIdx j) = V at *
 generalize hA : lY C.A c j p = A at *
 have Hu : y.ok = none → V.ob = [] := fun h => List.eq_nil_of_length_eq_zero (by rw [s6, hy h]; rfl)
 refine ag Tryz.func99 rfl Tryz.ntmps99 rfl ?_
 intro F _
 refine bO ?_
 refine zl T.A6 (Iz t b C K W y O hy p hp) .nil (fun _ le av => ⟨av.1, av.2⟩) ?_
 refine cX ?_
 refine zl T.JD (pull) (.cons .here (.cons .here (.cons .here (.cons .here .nil)))) (fun _ _ _ => trivial) ?_
 refine Hh (H' := [af t 145 (dg b V y), af y.nk 163 (ax (ao V.nb)), fI y.ok 163 (ax (ao V.ob)), Cl b (C.wA A)]) ?_
 unfold dg
 rw [s1]
 refine bO ?_
 refine aw (t := 16) (v' := (.int .i64 ((W.n - 1 : Nat) : Int))) rfl (by (congr 1; omega)) ?_
 refine bq ?_
 refine ay ?_
 refine jC 23 T.mix (.cons .here .nil) fun F1 kN cT aU => ?_
 obtain ⟨q1, _⟩ := cT
 by_cases h0 : W.st = 0
 ·refine Ti Mv ?_
  refine bq ?_
  refine zt 24 ?_
  refine bO ?_
  by_cases h1 : 16 < W.size
  ·refine zt 31 ?_
   refine bx ?_
   refine iC aU ?_
   refine bw ?_
   by_cases h2 : 8 * (W.n - 1) < W.size
   ·have hg : gz W := ⟨h0, h1, h2⟩
    obtain ⟨cL, cx, bQ⟩ := half O h1
    refine gK ?_
    refine bE ?_
    refine Li (Qu (q := 2)) ?_
    refine aw (t := 48) (v' := (.int .i64 ((W.size / 2 : Nat) : Int))) rfl (by rw [s3]) ?_
    refine Lp (oC T.JC rfl rfl (u7 t b (C.wA A) { V with n := W.n - 1 } y P (W.size / 2) (by omega)) (.cons .here (.cons .here .nil)) (fun _ _ _ => trivial) ?_)
    rintro v H' ⟨rfl, mk, rfl⟩
    refine bo ?_
    refine bq ?_
    obtain ⟨B1, B2⟩ := JR (C := C.wA A) P (s2.trans h0) (s := W.size / 2) cL cx (by show W.size / 2 ≤ V.aC; rw [s4]; exact bQ)
    refine Rt [Cl b (C.wA A), af t 145 (dg b (Tb.Cn { V with n := W.n - 1 } (W.size / 2)) ⟨mk, some y.nk⟩), af mk 163 (ax (ao (Tb.Cn { V with n := W.n - 1 } (W.size / 2)).nb)), fI (some y.nk) 163 (ax (ao (Tb.Cn { V with n := W.n - 1 } (W.size / 2)).ob))] Tryz.results99 ?_
    exact ⟨rfl, A, _, ⟨mk, some y.nk⟩, rfl, (fun h => by cases h), ⟨B1, by rw [B2]; exact pa, d, rfl, s4, fun _ => ⟨rfl, rfl, rfl, by show V.nb.length = _; rw [s5, O.sz]⟩, fun h => absurd hg h⟩⟩
   have hg : ¬ gz W := fun h => h2 h.2.2
   refine dq ?_
   refine bE ?_
   refine Rt [Cl b (C.wA A), af t 145 (dg b { V with n := W.n - 1 } y), af y.nk 163 (ax (ao V.nb)), fI y.ok 163 (ax (ao V.ob))] Tryz.results99 ?_
   exact ⟨rfl, A, { V with n := W.n - 1 }, y, rfl, Hu, ⟨P, pa, d, rfl, s4, fun h => absurd h hg, fun _ => ⟨s3, s2, Sm, s6⟩⟩⟩
  have hg : ¬ gz W := fun h => h1 h.2.1
  refine zf 31 ?_
  refine bx ?_
  refine iC aU ?_
  refine cY ?_
  refine Rt [Cl b (C.wA A), af t 145 (dg b { V with n := W.n - 1 } y), af y.nk 163 (ax (ao V.nb)), fI y.ok 163 (ax (ao V.ob))] Tryz.results99 ?_
  exact ⟨rfl, A, { V with n := W.n - 1 }, y, rfl, Hu, ⟨P, pa, d, rfl, s4, fun h => absurd h hg, fun _ => ⟨s3, s2, Sm, s6⟩⟩⟩
 have hg : ¬ gz W := fun h => h0 h.1
 refine bE ?_
 refine zf 24 ?_
 refine mV ?_
 refine iC aU ?_
 refine cY ?_
 refine Rt [Cl b (C.wA A), af t 145 (dg b { V with n := W.n - 1 } y), af y.nk 163 (ax (ao V.nb)), fI y.ok 163 (ax (ao V.ob))] Tryz.results99 ?_
 exact ⟨rfl, A, { V with n := W.n - 1 }, y, rfl, Hu, ⟨P, pa, d, rfl, s4, fun h => absurd h hg, fun _ => ⟨s3, s2, Sm, s6⟩⟩⟩
theorem Om (t b : Nat) (C : Cs) (K : Ok C) (W : Tb) (y : mZ) (O : cz C W) (hy : y.ok = none → W.ob = []) (p q : Nat) (hp : p ∈ W.all) (L : Live C q) (I : gk C q) (hq : q ∉ W.all) (qL : aI C.A p = aI C.A q) :
  aL Tryz.prog 150 [.pointer (some ⟨t, 0, none⟩), .int .u64 (C.hd q : Int)] (fun h => In (Cl b C) h ∧ fF (jZ t b W y) h) []
   (fun v H => v = .bool false ∧ H = []) := by
 have lk : (aI C.A q).length = kl C.A q := cS _ _ _
 have hk := I.k0
 have hf := I.fits
 obtain ⟨z1, z2, z3, _⟩ := L.toAt.bh K
 have f1 := K.toFix.p1
 have eg := get_some O hp qL
 have ne : C.hd p ≠ C.hd q := fun e => hq (kU K (O.lv p hp).toAt L.toAt e ▸ hp)
 refine ag Tryz.func150 rfl Tryz.ntmps150 rfl ?_
 rintro F ⟨hc, ht⟩
 refine bE ?_
 refine Lp (oC T.pL rfl rfl (mD t b C W y K q L I) .nil (fun _ le _ => ⟨In.mono hc le, In.mono ht.1 le⟩) ?_)
 rintro v H' ⟨kb, rfl, rfl⟩
 refine bo ?_
 refine bq ?_
 refine zl T.uR (kk t b C K W y O hy (some ⟨kb, 0, none⟩) (kl C.A q) (kl C.A q) (aI C.A q) lk.symm (by omega)) .nil (fun _ le av => ⟨In.mono hc le, cu ht le, bY av.1⟩) ?_
 rw [eg, bV]
 refine bP ?_
 refine zt 20 ?_
 refine bL ?_
 refine zt 23 ?_ (e := by rfl)
 refine bO ?_
 refine Rt [] Tryz.results150 ?_
 exact ⟨by rw [decide_eq_false (by omega)], rfl⟩
structure JZ (C : Cs) (W : Tb) (p q : Nat) (A : By) (V : Tb) : Prop where
 o : cz (C.wA A) V
 pm : ∃ r, W.all.Perm (p :: r) ∧ V.all.Perm (q :: r)
 df : ng C.A A (q :: W.all) 0 4
 s : nu W V
 mv : V.mv = W.mv
theorem Kt (t b : Nat) (C : Cs) (K : Ok C) (W : Tb) (y : mZ) (O : cz C W) (hy : y.ok = none → W.ob = []) (p q : Nat) (hp : p ∈ W.all) (L : Live C q) (I : gk C q) (hq : q ∉ W.all) (qL : aI C.A p = aI C.A q) :
  aL Tryz.prog 103 [.pointer (some ⟨t, 0, none⟩), .int .u64 (C.hd p : Int), .int .u64 (C.hd q : Int)] (fun _ => True) (Cl b C :: jZ t b W y)
   (fun v H => v = .int .i64 0 ∧ ∃ A V, H = Cl b (C.wA A) :: jZ t b V y ∧ (y.ok = none → V.ob = []) ∧ JZ C W p q A V) := by
 have lk : (aI C.A q).length = kl C.A q := cS _ _ _
 have hk := I.k0
 have hf := I.fits
 obtain ⟨z1, z2, z3, _⟩ := L.toAt.bh K
 have f1 := K.toFix.p1
 have hx := nQ O (bJ (aI C.A p))
 have Xh := Be O hp
 have hlen := pM O (W.bk (bJ (aI C.A p)))
 generalize hxx : W.bk (bJ (aI C.A p)) = x at *
 obtain ⟨c, hc⟩ : ∃ c, W.ch x = c := ⟨_, rfl⟩
 rw [hc] at Xh hlen
 obtain ⟨j, hj, ej⟩ := List.getElem_of_mem Xh
 obtain ⟨P, d⟩ := C5 K O hx hc hj ej
 obtain ⟨r1, p1, p2⟩ := Tb.lh hx
 rw [hc] at p1
 have pa : (p :: (W.bW x (c.eraseIdx j)).all).Perm W.all := by
  refine (List.Perm.cons p (p2 _)).trans (List.Perm.trans ?_ p1.symm)
  have := List.Perm.append_right r1 (nZ hj)
  rw [ej] at this
  exact this
 have S := pS W x (c.eraseIdx j)
 have pull := yz t b C K W y O hy x hx c hc j hj p ej
 have sub : ∀ s ∈ (W.bW x (c.eraseIdx j)).all, s ∈ W.all ∧ s ≠ p := fun s hs => by
  refine ⟨pa.mem_iff.1 (List.mem_cons_of_mem _ hs), fun e => ?_⟩
  have := pa.nodup_iff.2 O.nd
  exact (List.nodup_cons.1 this).1 (e ▸ hs)
 generalize hV : W.bW x (c.eraseIdx j) = V at *
 generalize hA : lY C.A c j p = A at *
 obtain ⟨⟨s1, s2, s3, s4, s5, s6⟩, Sm⟩ := S
 have Hu : y.ok = none → V.ob = [] := fun h => List.eq_nil_of_length_eq_zero (by rw [s6, hy h]; rfl)
 have kp := fun s (h : s ∈ W.all) => ti K d (fun u hu => (O.lv u hu).toAt) (by omega) (O.lv s h).toAt (O.it s h)
 have kq := ti K d (fun u hu => (O.lv u hu).toAt) (by omega) L.toAt I
 have K2 := K.wA A
 have L2 := L.wA A
 have I2 := kq.it I
 have hkd2 : ∀ s ∈ Tb.all { V with n := W.n - 1 }, aI (C.wA A).A s ≠ aI (C.wA A).A q := fun s hs e => by
  obtain ⟨g1, g2⟩ := sub s hs
  change aI A s = aI A q at e
  rw [(kp s g1).key, kq.key, ← qL] at e
  exact g2 (O.kd s g1 p hp e)
 have P2 := wZ K2 P L2 I2 (fun h => hq (sub q h).1) hkd2 (x := V.bk (bJ (aI A q))) rfl
 have QH : Aa V (V.bk (bJ (aI A q))) := nQ P (bJ (aI A q))
 have kqe : aI A q = aI C.A q := kq.key
 have lO2 : cq (C.wA A) (V.ch (V.bk (bJ (aI A q)))).head? := fun u hu => P.lv u (Tb.fQ (T := V) (List.mem_of_mem_head? hu))
 obtain ⟨r3, p3, p4⟩ := Tb.lh QH
 generalize hxx2 : V.bk (bJ (aI A q)) = x2 at *
 refine ag Tryz.func103 rfl Tryz.ntmps103 rfl ?_
 intro F _
 refine bE ?_
 refine Lp (oC T.pL rfl rfl (mD t b C W y K q L I) .nil (fun _ le av => ⟨av.1, av.2.1⟩) ?_)
 rintro v H' ⟨kb, rfl, rfl⟩
 refine bo ?_
 refine bO ?_
 refine zl T.A6 (Iz t b C K W y O hy p hp) .nil (fun _ le av => ⟨av.2.1, av.2.2⟩) ?_
 refine bw ?_
 refine zf 16 ?_ (e := by rfl)
 refine bq ?_
 refine zf 21 ?_
 refine bw ?_
 refine zl T.A6 (Om t b C K W y O hy p q hp L I hq qL) .nil (fun _ le av => ⟨av.2.1, av.2.2⟩) ?_
 refine bb ?_
 refine Hh (H' := [Cl b C, af t 145 (dg b W y), af y.nk 163 (ax (ao W.nb)), fI y.ok 163 (ax (ao W.ob)), own (some ⟨kb, 0, none⟩) (kl C.A q) 5 1 (aq (aI C.A q))]) ?_
 unfold dg
 refine bO ?_
 refine zl T.Ry (yY b C K p (O.lv p hp) (O.it p hp) (some ⟨kb, 0, none⟩) (kl C.A q) (kl C.A q) (aI C.A q) lk.symm (by omega)) .nil (fun _ le av => ⟨av.1, bY av.2.2.2.2.1⟩) ?_
 rw [decide_eq_true qL]
 refine bx ?_
 refine zl T.JD (pull) (.cons .here (.cons .here (.cons .here (.cons .here .nil)))) (fun _ _ _ => trivial) ?_
 refine bq ?_
 refine zl T.yo (jr t b (C.wA A) V y (W.n - 1) P Hu (some ⟨kb, 0, none⟩) (kl C.A q) (kl C.A q) (aI C.A q) lk.symm (by omega)) .nil (fun _ le av => ⟨av.2.1, bY av.2.2.2.2.1⟩) ?_
 rw [show V.bk (bJ (aI C.A q)) = x2 by rw [← kqe]; exact hxx2]
 refine aD ?_
 refine zl T.AZ (sP t b (C.wA A) K2 V y Hu x2 QH q L2 I2.k0 lO2) (.cons .here (.cons .here (.cons .here (.cons .here .nil)))) (fun _ _ _ => trivial) ?_
 refine bq ?_
 have hn1 : 1 ≤ W.n := by omega
 have e2 : ({ ({ V with n := W.n - 1 } : Tb).bW x2 (q :: V.ch x2) with n := W.n - 1 + 1 } : Tb) = V.bW x2 (q :: V.ch x2) := by
  rcases x2 with ⟨_ | _, i⟩ <;> (simp [Tb.bW]; omega)
 change cz _ { ({ V with n := W.n - 1 } : Tb).bW x2 (q :: V.ch x2) with n := W.n - 1 + 1 } at P2
 rw [e2] at P2
 have S2 := pS V x2 (q :: V.ch x2)
 have pz : (V.bW x2 (q :: V.ch x2)).all.Perm (q :: V.all) := (p4 _).trans (List.Perm.cons q p3.symm)
 generalize hV2 : V.bW x2 (q :: V.ch x2) = V2 at *
 obtain ⟨⟨t1, t2, t3, t4, t5, t6⟩, Tm⟩ := S2
 refine Rt [Cl b ((C.wA A).wA (wr A q 4 (nO (V.ch x2).head?))), af t 145 (dg b V2 y), af y.nk 163 (ax (ao V2.nb)), fI y.ok 163 (ax (ao V2.ob))] Tryz.results103 ?_
 refine ⟨rfl, wr A q 4 (nO (V.ch x2).head?), V2, rfl, fun h => List.eq_nil_of_length_eq_zero (by rw [t6, Hu h]; rfl), P2, ⟨V.all, pa.symm, pz⟩, ?_, ⟨t1.trans s1, t2.trans s2, t3.trans s3, t4.trans s4, t5.trans s5, t6.trans s6⟩, Tm.trans Sm⟩
 exact (d.mono fun u hu => List.mem_cons_of_mem _ hu).trans ((su A (S := [q]) (q := q) (a := 0) (by simp)).mono fun u hu => by rw [List.mem_singleton] at hu; rw [hu]; exact List.mem_cons_self)
end Go.Proofs.YtpgbeapapmdkcaaGreatDoor
