/- Part Pl of the proof. -/
import Derived.Test.YtpgbeapapmdkcaaGreatDoorPc1
import Derived.Test.YtpgbeapapmdkcaaGreatDoorPd
import Derived.Test.YtpgbeapapmdkcaaGreatDoorPf
import Derived.Test.YtpgbeapapmdkcaaGreatDoorPk
set_option maxRecDepth 100000
namespace Go.Proofs.YtpgbeapapmdkcaaGreatDoor
open Go Go.cQ
def XZ : Nat → List UInt8 → Option Nat
 | n, [] => some n
 | n, b :: r => if b.toNat < 48 ∨ 57 < b.toNat ∨ (18446744073709551615 - (b.toNat - 48)) / 10 < n then none else XZ (n * 10 + (b.toNat - 48)) r
def NP (l : List UInt8) : Option Nat := if 0 < l.length ∧ l.length ≤ 20 then XZ 0 l else none
def Iv : List UInt8 := [99, 97, 110, 110, 111, 116, 32, 105, 110, 99, 114, 101, 109, 101, 110, 116, 32, 111, 114, 32, 100, 101, 99, 114, 101, 109, 101, 110, 116, 32, 110, 111, 110, 45, 110, 117, 109, 101, 114, 105, 99, 32, 118, 97, 108, 117, 101]
def iy (kind : Nat) (ea : Value) (num : Nat) (tX : List UInt8) : List Value := [.int .i64 (kind : Int), ea, .int .u64 (num : Int), bC tX, .slice none 0 0]
def x7 (kind : Nat) (ea : Value) (num : Nat) (tX : List UInt8) : Value := .agg (iy kind ea num tX).toArray
def cM : Value := .slice none 0 0
theorem kF (t : List UInt8) : aL Tryz.prog 34 [bC t] (fun _ => True) [] (fun v H => v = x7 11 cM 0 t ∧ H = []) := by
 refine ag Tryz.func34 rfl Tryz.ntmps34 rfl ?_
 intro F _
 refine aD ?_
 refine Lp (oA T.Az fun b1 => ?_)
 refine cX ?_
 refine Sx [] T.Bj Tryz.results34 ?_
 exact ⟨rfl, rfl⟩
def gJ (n : Nat) : List UInt8 := if n < 10 then [UInt8.ofNat (48 + n)] else gJ (n / 10) ++ [UInt8.ofNat (48 + n % 10)]
termination_by n
structure eA where
 verb : Int
 keys : List (List UInt8)
 fl : Nat
 ex : Int
 tok : Nat
 dl : Nat
 data : List UInt8
 nor : Bool
 lg : Bool
 XS : List UInt8
def qt (l : List (List UInt8)) : List Value := l.map bC
theorem CV (l : List (List UInt8)) (k : Nat) (h : k < l.length) : (qt l)[k]? = some (bC l[k]) := by
 unfold qt
 rw [List.getElem?_map, List.getElem?_eq_getElem h]; rfl
def gW (c : eA) (ka : Option Addr) (kc : Nat) (da : Option Addr) (dc : Nat) (mv : Value) : List Value :=
 [.int .i64 c.verb, .slice ka c.keys.length kc, .int .u64 (c.fl : Int), .int .i64 c.ex, .int .u64 (c.tok : Int), .int .u64 (c.dl : Int), .slice da c.data.length dc, .bool c.nor, .bool c.lg, mv, bC c.XS]
def bH (v : Int) : Int := if 1 ≤ v ∧ v ≤ 4 then 2 else if 5 ≤ v ∧ v ≤ 14 then 1 else if 15 ≤ v ∧ v ≤ 18 then 0 else -1
def wi (c : eA) : Bool := decide (bH c.verb < 0 ∨ 0 < bH c.verb ∧ c.keys.length = 0 ∨ bH c.verb = 1 ∧ 1 < c.keys.length) || (decide (0 < bH c.verb) && c.keys.any fun k => !dS k) || decide (5 ≤ c.verb ∧ c.verb ≤ 10 ∧ 4294967295 < c.fl)
theorem yw (v : Int) : aL Tryz.prog 36 [.int .i64 v] (fun _ => True) [] (fun w H => w = .int .i64 (bH v) ∧ H = []) := by
 refine ag Tryz.func36 rfl Tryz.ntmps36 rfl ?_
 intro F _
 refine cY ?_
 refine aJ (t := 6) rfl ?_ ?_
 ·intro cK
  replace cK := aF cK
  refine bq ?_
  refine au rfl ?_ ?_
  ·intro cL
   replace cL := aF cL
   refine bE ?_
   refine Rt [] Tryz.results36 ?_
   refine ⟨?_, rfl⟩
   unfold bH
   repeat' split
   all_goals first | rfl | (exfalso; omega)
  intro cL
  replace cL := aF cL
  refine bb ?_
  refine aJ (t := 13) rfl ?_ ?_
  ·intro cx
   replace cx := aF cx
   refine bq ?_
   refine au rfl ?_ ?_
   ·intro bQ
    replace bQ := aF bQ
    refine bE ?_
    refine Rt [] Tryz.results36 ?_
    refine ⟨?_, rfl⟩
    unfold bH
    repeat' split
    all_goals first | rfl | (exfalso; omega)
   intro bQ
   replace bQ := aF bQ
   refine bb ?_
   refine aJ (t := 20) rfl ?_ ?_
   ·intro cF
    replace cF := aF cF
    refine bq ?_
    refine au rfl ?_ ?_
    ·intro fS
     replace fS := aF fS
     refine bE ?_
     refine Rt [] Tryz.results36 ?_
     refine ⟨?_, rfl⟩
     unfold bH
     repeat' split
     all_goals first | rfl | (exfalso; omega)
    intro fS
    replace fS := aF fS
    refine bO ?_
    refine Rt [] Tryz.results36 ?_
    refine ⟨?_, rfl⟩
    unfold bH
    repeat' split
    all_goals first | rfl | (exfalso; omega)
   intro cF
   replace cF := aF cF
   refine gh ?_
   refine Rt [] Tryz.results36 ?_
   refine ⟨?_, rfl⟩
   unfold bH
   repeat' split
   all_goals first | rfl | (exfalso; omega)
  intro cx
  replace cx := aF cx
  refine bx ?_
  refine aJ (t := 20) rfl ?_ ?_
  ·intro bQ
   replace bQ := aF bQ
   refine bq ?_
   refine au rfl ?_ ?_
   ·intro cF
    replace cF := aF cF
    refine bE ?_
    refine Rt [] Tryz.results36 ?_
    refine ⟨?_, rfl⟩
    unfold bH
    repeat' split
    all_goals first | rfl | (exfalso; omega)
   intro cF
   replace cF := aF cF
   refine bO ?_
   refine Rt [] Tryz.results36 ?_
   refine ⟨?_, rfl⟩
   unfold bH
   repeat' split
   all_goals first | rfl | (exfalso; omega)
  intro bQ
  replace bQ := aF bQ
  refine gh ?_
  refine Rt [] Tryz.results36 ?_
  refine ⟨?_, rfl⟩
  unfold bH
  repeat' split
  all_goals first | rfl | (exfalso; omega)
 intro cK
 replace cK := aF cK
 refine bx ?_
 refine aJ (t := 13) rfl ?_ ?_
 ·intro cL
  replace cL := aF cL
  refine bq ?_
  refine au rfl ?_ ?_
  ·intro cx
   replace cx := aF cx
   refine bE ?_
   refine Rt [] Tryz.results36 ?_
   refine ⟨?_, rfl⟩
   unfold bH
   repeat' split
   all_goals first | rfl | (exfalso; omega)
  intro cx
  replace cx := aF cx
  refine bb ?_
  refine aJ (t := 20) rfl ?_ ?_
  ·intro bQ
   replace bQ := aF bQ
   refine bq ?_
   refine au rfl ?_ ?_
   ·intro cF
    replace cF := aF cF
    refine bE ?_
    refine Rt [] Tryz.results36 ?_
    refine ⟨?_, rfl⟩
    unfold bH
    repeat' split
    all_goals first | rfl | (exfalso; omega)
   intro cF
   replace cF := aF cF
   refine bO ?_
   refine Rt [] Tryz.results36 ?_
   refine ⟨?_, rfl⟩
   unfold bH
   repeat' split
   all_goals first | rfl | (exfalso; omega)
  intro bQ
  replace bQ := aF bQ
  refine gh ?_
  refine Rt [] Tryz.results36 ?_
  refine ⟨?_, rfl⟩
  unfold bH
  repeat' split
  all_goals first | rfl | (exfalso; omega)
 intro cL
 replace cL := aF cL
 refine bx ?_
 refine aJ (t := 20) rfl ?_ ?_
 ·intro cx
  replace cx := aF cx
  refine bq ?_
  refine au rfl ?_ ?_
  ·intro bQ
   replace bQ := aF bQ
   refine bE ?_
   refine Rt [] Tryz.results36 ?_
   refine ⟨?_, rfl⟩
   unfold bH
   repeat' split
   all_goals first | rfl | (exfalso; omega)
  intro bQ
  replace bQ := aF bQ
  refine bO ?_
  refine Rt [] Tryz.results36 ?_
  refine ⟨?_, rfl⟩
  unfold bH
  repeat' split
  all_goals first | rfl | (exfalso; omega)
 intro cx
 replace cx := aF cx
 refine gh ?_
 refine Rt [] Tryz.results36 ?_
 refine ⟨?_, rfl⟩
 unfold bH
 repeat' split
 all_goals first | rfl | (exfalso; omega)
theorem Wj (c : eA) (ka : Option Addr) (kc : Nat) (da : Option Addr) (dc : Nat) (mv : Value) (uh : mv.oneCell' = true) (Sg : c.keys.length < 281474976710656) (hk : ∀ k ∈ c.keys, k.length < 281474976710656) :
  aL Tryz.prog 33 [.agg (gW c ka kc da dc mv).toArray] (fun h => fK h ka (qt c.keys)) [] (fun w H => w = .bool (wi c) ∧ H = []) := by
 have hb : wi c = (decide (bH c.verb < 0 ∨ 0 < bH c.verb ∧ c.keys.length = 0 ∨ bH c.verb = 1 ∧ 1 < c.keys.length) || (decide (0 < bH c.verb) && c.keys.any fun k => !dS k) || decide (5 ≤ c.verb ∧ c.verb ≤ 10 ∧ 4294967295 < c.fl)) := rfl
 refine ag Tryz.func33 rfl Tryz.ntmps33 rfl ?_
 intro F hr
 refine aD ?_
 refine Lp (oB fun b1 => ?_)
 refine bq ?_
 refine zl T.RH (yw c.verb) .nil (fun _ _ _ => trivial) ?_
 generalize hn : bH c.verb = n at *
 have hn4 : n = -1 ∨ n = 0 ∨ n = 1 ∨ n = 2 := by
  rw [← hn]; unfold bH
  repeat' split
  all_goals omega
 have fin : decide (n < 0 ∨ 0 < n ∧ c.keys.length = 0 ∨ n = 1 ∧ 1 < c.keys.length) = true → wi c = true := fun h => by rw [hb, h]; rfl
 refine bw ?_
 refine ay ?_
 refine cR (ι := Unit) [9, 10, 11, 12, 13, 14, 15, 16, 17, 18, 19, 20, 21, 22, 23, 24, 25, 26, 27, 28, 29, 30, 2] (fun u => ¬ (n < 0 ∨ 0 < n ∧ c.keys.length = 0 ∨ n = 1 ∧ 1 < c.keys.length)) (fun u => []) (fun u => [af b1 47 (gW c ka kc da dc mv)]) ?_ ?_
 ·refine iS ?_
  refine bL ?_
  refine aJ (t := 11) rfl ?_ ?_
  ·intro cK
   replace cK := aF cK
   refine ca ?_
   refine bE ?_
   refine Rt [] Tryz.results33 ?_
   exact ⟨congrArg Value.bool (fin (decide_eq_true (by omega))).symm, rfl⟩
  intro cK
  replace cK := aF cK
  refine bL ?_
  refine aJ (t := 14) rfl ?_ ?_
  ·intro cL
   replace cL := aF cL
   refine bO ?_
   refine aJ (t := 21) rfl ?_ ?_
   ·intro cx
    replace cx := aF cx
    refine qM ?_
    refine Rt [] Tryz.results33 ?_
    exact ⟨congrArg Value.bool (fin (decide_eq_true (by omega))).symm, rfl⟩
   intro cx
   replace cx := aF cx
   refine bL ?_
   refine aJ (t := 24) rfl ?_ ?_
   ·intro bQ
    replace bQ := aF bQ
    refine bO ?_
    refine au rfl ?_ ?_
    ·intro cF
     replace cF := aF cF
     refine bq ?_
     refine Rt [] Tryz.results33 ?_
     exact ⟨congrArg Value.bool (fin (decide_eq_true (by omega))).symm, rfl⟩
    intro cF
    replace cF := aF cF
    refine aD ?_
    refine Me (()) (by omega)
   intro bQ
   replace bQ := aF bQ
   refine cY ?_
   refine Me (()) (by omega)
  intro cL
  replace cL := aF cL
  refine bx ?_
  refine aJ (t := 24) rfl ?_ ?_
  ·intro cx
   replace cx := aF cx
   refine bO ?_
   refine au rfl ?_ ?_
   ·intro bQ
    replace bQ := aF bQ
    refine bq ?_
    refine Rt [] Tryz.results33 ?_
    exact ⟨congrArg Value.bool (fin (decide_eq_true (by omega))).symm, rfl⟩
   intro bQ
   replace bQ := aF bQ
   refine aD ?_
   refine Me (()) (by omega)
  intro cx
  replace cx := aF cx
  refine cY ?_
  refine Me (()) (by omega)
 rintro u hI
 have cx : wi c = ((decide (0 < n) && c.keys.any fun k => !dS k) || decide (5 ≤ c.verb ∧ c.verb ≤ 10 ∧ 4294967295 < c.fl)) := by rw [hb, decide_eq_false hI, Bool.false_or]
 refine ay ?_
 refine cR (ι := Unit) [31, 32, 33, 34, 35, 36, 37, 38, 39, 5, 40, 41, 42, 43, 2, 44] (fun u => (decide (0 < n) && c.keys.any fun k => !dS k) = false) (fun u => []) (fun u => [af b1 47 (gW c ka kc da dc mv)]) ?_ ?_
 ·refine iS ?_
  refine bL ?_
  by_cases hp : 0 < n
  ·refine gK ?_ (e := by exact decide_eq_true hp)
   refine bO ?_
   refine Lo (ι := Nat) [37, 38, 39, 5, 40, 41, 42, 43, 2, 44, 36] (fun k => k ≤ c.keys.length ∧ ∀ x ∈ c.keys.take k, dS x = true) (fun k => [(36, .int .i64 (k : Int))]) (fun k => [af b1 47 (gW c ka kc da dc mv)]) (fun k => c.keys.length - k) (0) ⟨Nat.zero_le _, by simp⟩ ?_
   rintro k hI
   obtain ⟨hk1, qL⟩ := hI
   by_cases cJ : k < c.keys.length
   ·have Hk := CV c.keys k cJ
    have Hi := hk _ (List.getElem_mem cJ)
    have hsm : ka.isSome = true := by obtain ⟨ad, e, _⟩ := hr k _ Hk; rw [e]; rfl
    refine bL ?_
    refine ay ?_
    refine gK ?_
    refine bq ?_
    refine Li (Ix T.Cq) ?_
    refine bq ?_
    refine Lp (xB T.qW T.jx T.og fun kb kcc od => ?_)
    refine zl T.RC (yT (some ⟨kb, 0, none⟩) kcc _ c.keys[k] rfl (by omega)) .nil (fun h le av => bY (av.nth 0 rfl)) ?_
    by_cases hg : dS c.keys[k] = true
    ·rw [hg]
     refine cY ?_
     refine aB ?_
     refine Ro (k + 1) (⟨cJ, fun x hx => (by rw [List.take_add_one, List.getElem?_eq_getElem cJ, List.mem_append] at hx; rcases hx with hx | hx; exact qL x hx; obtain rfl : x = c.keys[k] := (by simpa using hx); exact hg)⟩) (by omega)
    have hg2 : dS c.keys[k] = false := by simpa using hg
    rw [hg2]
    refine ed ?_
    refine Rt [] Tryz.results33 ?_
    refine ⟨congrArg Value.bool ?_, rfl⟩
    have : (c.keys.any fun k => !dS k) = true := List.any_eq_true.2 ⟨_, List.getElem_mem cJ, by rw [hg2]; rfl⟩
    rw [cx, this, decide_eq_true hp]; rfl
   refine iS ?_
   refine bw ?_
   refine ay ?_
   refine dq ?_
   refine bb ?_
   refine Me (()) ((by (have xF : k = c.keys.length := by omega); rw [xF, List.take_length] at qL; rw [Bool.and_eq_false_iff]; right; rw [List.any_eq_false]; intro x hx; rw [qL x hx]; decide))
  refine dq ?_ (e := by exact decide_eq_false hp)
  refine aD ?_
  refine Me (()) ((by rw [decide_eq_false hp]; rfl))
 rintro u hI
 rw [hI, Bool.false_or] at cx
 refine bq ?_
 refine aJ (t := 48) rfl ?_ ?_
 ·intro cK
  replace cK := aF cK
  refine bq ?_
  refine aJ (t := 53) rfl ?_ ?_
  ·intro cL
   replace cL := aF cL
   refine bO ?_
   refine Rt [] Tryz.results33 ?_
   refine ⟨congrArg Value.bool ?_, rfl⟩
   rw [cx]
   first
    | exact decide_eq_decide.2 (by omega)
    | exact (decide_eq_false (by omega)).symm
  intro cL
  replace cL := aF cL
  refine bO ?_
  refine Rt [] Tryz.results33 ?_
  refine ⟨congrArg Value.bool ?_, rfl⟩
  rw [cx]
  first
   | exact decide_eq_decide.2 (by omega)
   | exact (decide_eq_false (by omega)).symm
 intro cK
 replace cK := aF cK
 refine ed ?_
 refine Rt [] Tryz.results33 ?_
 refine ⟨congrArg Value.bool ?_, rfl⟩
 rw [cx]
 first
  | exact decide_eq_decide.2 (by omega)
  | exact (decide_eq_false (by omega)).symm
end Go.Proofs.YtpgbeapapmdkcaaGreatDoor
namespace Go.cQ
open Go
theorem aL.frP {P : Program} {f : FuncId} {args : List Value} {pre rT : Hp → Prop} {H As R : List aa} {T : Value → List aa → Prop} (h : aL P f args pre As T) (dh : gY H As R) (hp : ∀ k k0, Le k0 k → rT k0 → fF R k → pre k) :
  aL P f args rT H (fun v H' => ∃ H0, T v H0 ∧ H' = H0 ++ R) := by
 intro F w hF s
 obtain ⟨a1, a2, a3, fr, hh, st, hl, rQ⟩ := s
 obtain ⟨h1, h2, d12, l1, l2, s1, s2⟩ := bs (dh.out _ st)
 have uG : bK h2 F.h := rQ.left l2
 let F' : c9 := { F with h := fj h2 F.h }
 have gV : Le F.h F'.h := aV uG
 have gM : Le h2 F'.h := ba _ _
 have zX : St F' As w := ⟨a1, a2, a3, bS (l2.trans hl) fr, h1, s1, l1.trans hl, (bK.fj d12.symm (rQ.left l1).symm).symm⟩
 refine (h F' w (hp _ _ gV hF (bU s2 gM)) zX).mono ?_
 rintro e w' ⟨v, H', rfl, hT, sw⟩
 obtain ⟨b1, b2, b3, rR, Ag, st2, Af, kf⟩ := sw
 exact ⟨v, _, rfl, ⟨H', hT, rfl⟩, b1, b2, b3, gV.trans rR, fj Ag h2, bB st2 s2 (kf.right gM), bS Af (gM.trans rR), bK.fj (kf.right gV) uG⟩
end Go.cQ
namespace Go.Proofs.YtpgbeapapmdkcaaGreatDoor
open Go Go.cQ Go.Proofs.YtpgbeapapmdkcaaGreatDoor.Cs
def svC2 (v : Sv) : List Value := [.int .i64 v.c.ai, .int .i64 v.c.bj, .int .i64 v.c.fac, .int .i64 v.c.aM, .int .i64 v.c.lim, .int .i64 v.c.hot, .int .i64 v.c.warm, .int .i64 v.p.b, .int .i64 v.p.l, .int .i64 v.p.c, .int .i64 v.p.m, .int .u64 (v.bm : Int), .int .i64 (v.fJ : Int), .int .i64 v.mt.dr, .int .i64 v.mt.re, .int .i64 v.mt.bu, .int .i64 v.mt.li, .int .i64 v.mt.lo, .int .i64 v.mt.cr, .int .i64 v.mt.mv]
def SC (y : Sy) (v : Sv) : List Value := .pointer (some ⟨y.b, 0, none⟩) :: .pointer (some ⟨y.ck, 0, none⟩) :: .pointer (some ⟨y.t, 0, none⟩) :: .pointer (some ⟨y.lu, 0, none⟩) :: .pointer (some ⟨y.wh, 0, none⟩) :: .pointer (some ⟨y.cr, 0, none⟩) :: .pointer (some ⟨y.mo, 0, none⟩) :: .pointer (some ⟨y.q, 0, none⟩) :: svC2 v
def NJ (z : Ly) (B : Bx) (M : Mo) : List aa :=
 [Cl z.y.b B.C, af z.y.t 145 (dg z.y.b B.W B.ty), af B.ty.nk 163 (ax (ao B.W.nb)), fI B.ty.ok 163 (ax (ao B.W.ob)), af z.y.q 139 (dy z.y.b z.qb B.C.ae.length), af z.qb 327 (M.Q.flatMap (dD B.C)), ey z.y.cr z.y.q z.y.wh B.C.ae.length (aO z.s) (aN z.s) B.C M.x, Wl z.y.wh B.E M.tn,
  iN z.y.ck M.k, gf z.y.lu z.y.b z.y.q z.hot z.warm, iB z.y.mo z.y.b z.ub (aO z.s) (aN z.s) (bn z.s) M.m, iM z.ub M.m, eW M]
theorem rO (z : Ly) (B : Bx) (M : Mo) : ez (gp z B M) (ij z.s z.y (gF M.v)) (NJ z B M) :=
 .there (.there (.there (.there (.there (.there (.there (.there .here)))))))
theorem oQ {z : Ly} {M : Mo} {h : Hp} (s : SH z M h) : ∃ B, bT B M ∧ aj (ij z.s z.y (gF M.v) :: NJ z B M) h := by
 obtain ⟨B, O, t⟩ := s
 exact ⟨B, O, (rO z B M).out _ t⟩
theorem yD {z : Ly} {M : Mo} (h : Hp) (s : SH z M h) (i : Nat) (v : Value) (e : (SC z.y M.v ++ [.slice M.v.wa M.v.wn M.v.wc])[i]? = some v) : di h ⟨z.s, i, none⟩ = some v := by
 obtain ⟨B, O, t⟩ := oQ s
 obtain ⟨h1, h2, _, l1, _, a, _⟩ := t
 exact bZ l1 (dX a e)
instance aab {z : Ly} {M : Mo} : Cells (SH z M) z.s (SC z.y M.v ++ [.slice M.v.wa M.v.wn M.v.wc]) := ⟨fun h s i v e => yD h s i v e⟩
instance aaa {z : Ly} {M : Mo} : Cells (SW z M) z.s (SC z.y M.v) := ⟨fun h s i v e => by
 obtain ⟨w, s⟩ := s
 refine yD h s i v ?_
 rw [show (M.aQ w.1 w.2).v.wa = w.1 from rfl]
 exact (List.getElem?_append_left (List.getElem?_eq_some_iff.1 e).1).trans e⟩
theorem l9 {z : Ly} {M : Mo} {w : Sv} {i : Nat} {v : Value} (hO : ∀ B, bT B M → bT B { M with v := w }) (hw : w.wa = M.v.wa ∧ w.wc = M.v.wc) (hi : i < 29) (hc : (jM z.y (gF M.v)).set i v = jM z.y (gF w)) : nI (SH z M) z.s i v (SH z { M with v := w }) := ⟨fun h s => by
 obtain ⟨B, O, t⟩ := oQ s
 refine ⟨_, _, NJ z B M, (by simpa [jM, gF] using hi), t, fun k sk => ⟨B, hO B O, ?_⟩⟩
 rw [hc] at sk
 have h1 : NJ z B M = NJ z B { M with v := w } := by
  unfold NJ eW
  rw [hw.1, hw.2]
 rw [h1] at sk
 exact (rO z B { M with v := w }).back _ sk⟩
theorem IB {z : Ly} {M N : Mo} {i : Nat} {v : Value} (h : ∀ a c, nI (SH z (M.aQ a c)) z.s i v (SH z (N.aQ a c))) : nI (SW z M) z.s i v (SW z N) := ⟨fun k s => by
 obtain ⟨w, s⟩ := s
 obtain ⟨e, cs, R, hi, t, back⟩ := (h w.1 w.2).cut k s
 exact ⟨e, cs, R, hi, t, fun k2 s2 => ⟨w, back k2 s2⟩⟩⟩
instance T8 {z : Ly} {M : Mo} {i : Nat} : nI (SH z M) z.s 19 (.int .u64 (i : Int)) (SH z (M.mW i)) := l9 (fun _ O => O.mW i) ⟨rfl, rfl⟩ (by decide) rfl
instance sh_dr {z : Ly} {M : Mo} {x : Int} : nI (SH z M) z.s 21 (.int .i64 x) (SH z (M.aX { M.v.mt with dr := x })) := l9 (fun _ O => O.aX _) ⟨rfl, rfl⟩ (by decide) rfl
instance sh_re {z : Ly} {M : Mo} {x : Int} : nI (SH z M) z.s 22 (.int .i64 x) (SH z (M.aX { M.v.mt with re := x })) := l9 (fun _ O => O.aX _) ⟨rfl, rfl⟩ (by decide) rfl
instance sh_bu {z : Ly} {M : Mo} {x : Int} : nI (SH z M) z.s 23 (.int .i64 x) (SH z (M.aX { M.v.mt with bu := x })) := l9 (fun _ O => O.aX _) ⟨rfl, rfl⟩ (by decide) rfl
instance sh_li {z : Ly} {M : Mo} {x : Int} : nI (SH z M) z.s 24 (.int .i64 x) (SH z (M.aX { M.v.mt with li := x })) := l9 (fun _ O => O.aX _) ⟨rfl, rfl⟩ (by decide) rfl
instance sh_lo {z : Ly} {M : Mo} {x : Int} : nI (SH z M) z.s 25 (.int .i64 x) (SH z (M.aX { M.v.mt with lo := x })) := l9 (fun _ O => O.aX _) ⟨rfl, rfl⟩ (by decide) rfl
instance YT {z : Ly} {M : Mo} {x : Int} : nI (SH z M) z.s 26 (.int .i64 x) (SH z (M.aX { M.v.mt with cr := x })) := l9 (fun _ O => O.aX _) ⟨rfl, rfl⟩ (by decide) rfl
instance sh_mv {z : Ly} {M : Mo} {x : Int} : nI (SH z M) z.s 27 (.int .i64 x) (SH z (M.aX { M.v.mt with mv := x })) := l9 (fun _ O => O.aX _) ⟨rfl, rfl⟩ (by decide) rfl
instance sw_iss {z : Ly} {M : Mo} {i : Nat} : nI (SW z M) z.s 19 (.int .u64 (i : Int)) (SW z (M.mW i)) := IB fun a c => T8 (M := M.aQ a c)
instance sw_cr {z : Ly} {M : Mo} {x : Int} : nI (SW z M) z.s 26 (.int .i64 x) (SW z (M.aX { M.v.mt with cr := x })) := IB fun a c => YT (M := M.aQ a c)
theorem Ow {P : Program} {f : FuncId} {args : List Value} {z : Ly} {M : Mo} {rT : Hp → Prop} {T : Value → List aa → Prop} (h : ∀ B, bT B M → ∃ pre, aL P f args pre [] T ∧ ∀ k k0, Le k0 k → rT k0 → fF (gp z B M) k → pre k) :
  aL P f args rT [SH z M] (fun v H => ∃ H0, T v H0 ∧ H = H0 ++ [SH z M]) :=
 iK fun B O => by
  obtain ⟨pre, g, hp⟩ := h B O
  rw [List.append_nil]
  refine (g.frP (H := gp z B M) (kY [] _) hp).out ?_
  rintro v H' ⟨H0, t, rfl⟩
  refine ⟨H0 ++ [SH z M], ⟨H0, t, rfl⟩, fun k s => ?_⟩
  obtain ⟨h1, h2, d, l1, l2, s1, s2⟩ := bs s
  exact mK (A := SH z M) (B := SH z M) d l1 l2 s1 (ve ⟨B, O, s2⟩)
theorem CS {P : Program} {f : FuncId} {args : List Value} {z : Ly} {M : Mo} {rT : Hp → Prop} {T : Value → List aa → Prop} (h : ∀ a c B, bT B (M.aQ a c) → ∃ pre, aL P f args pre [] T ∧ ∀ k k0, Le k0 k → rT k0 → fF (gp z B (M.aQ a c)) k → pre k) :
  aL P f args rT [SW z M] (fun v H => ∃ H0, T v H0 ∧ H = H0 ++ [SW z M]) :=
 rh fun a c => (Ow (h a c)).out fun v H' ⟨H0, t, e⟩ => ⟨H0 ++ [SW z M], ⟨H0, t, rfl⟩, by
  subst e
  intro k s
  obtain ⟨h1, h2, d, l1, l2, s1, s2⟩ := bs s
  obtain ⟨h3, _, _, l3, _, q, _⟩ := s2
  exact mK (A := SW z M) (B := SW z M) (d.right l3) l1 (l3.trans l2) s1 (ve ⟨(a, c), q⟩)⟩
theorem sQ {P : Program} {f : FuncId} {args : List Value} {z : Ly} {M : Mo} {rT : Hp → Prop} {T : Value → Prop} (h : ∀ a c B, bT B (M.aQ a c) → ∃ pre, aL P f args pre [] (fun v H => T v ∧ H = []) ∧ ∀ k k0, Le k0 k → rT k0 → fF (gp z B (M.aQ a c)) k → pre k) :
  aL P f args rT [SW z M] (fun v H => T v ∧ H = [SW z M]) :=
 (CS h).out fun v H' ⟨H0, ⟨t, e0⟩, e⟩ => ⟨[SW z M], ⟨t, rfl⟩, by subst e0; subst e; exact fun k s => s⟩
theorem EI (z : Ly) (M : Mo) (a : Option Addr) (c m : Nat) (l : List UInt8) (hm : m = l.length) (hl : l.length < 281474976710656) :
  aL Tryz.prog 39 [.pointer (some ⟨z.y.t, 0, none⟩), .slice a m c] (fun h => fK h a (aq l)) [SW z M] (fun v H => v = .tuple #[.int .u64 (tW M.C (M.find l) : Int), .bool (M.find l).isSome] ∧ H = [SW z M]) :=
 sQ fun wa wc B O => by
  have h := kk z.y.t z.y.b B.C O.k B.W B.ty O.t O.ty a m c l hm hl
  rw [O.Ih, SU O] at h
  exact ⟨_, h, fun k k0 le g av => ⟨av.nth 0 rfl, ⟨av.nth 1 rfl, av.nth 2 rfl, av.nth 3 rfl, trivial⟩, g.mono le⟩⟩
theorem nW (z : Ly) (M : Mo) (p : Nat) (hp : M.has p) : aL Tryz.prog 135 [.pointer (some ⟨z.y.b, 0, none⟩), .int .u64 (M.C.hd p : Int)] (fun _ => True) [SW z M] (fun v H => v = .tuple #[.int .u64 ((M.it p).tok : Int), .int .i64 0] ∧ H = [SW z M]) :=
 sQ fun wa wc B O => by
  have gm := (O.al p).2 hp
  have h := vB z.y.b B.C O.k p (O.tY gm) (O.t.it p gm).k0
  rw [O.hd, show rd B.C.A (p + 32) 8 = (M.it p).tok from (O.lM gm).2.2.1] at h
  exact ⟨_, h, fun k k0 le h av => av.nth 0 rfl⟩
theorem EH (z : Ly) (M : Mo) (p : Nat) (hp : M.has p) : aL Tryz.prog 88 [.pointer (some ⟨z.y.b, 0, none⟩), .int .u64 (M.C.hd p : Int)] (fun _ => True) [SW z M]
  (fun v H => ∃ H0, (∃ kb vb st, 1 ≤ st ∧ st ≤ 3 ∧ p ∈ ql M.Q (qi (M.C.cl p) st) ∧ v = .tuple #[.agg (Cg (.slice (some ⟨kb, 0, none⟩) (M.it p).key.length (M.it p).key.length) (.slice (some ⟨vb, 0, none⟩) (M.it p).val.length (M.it p).val.length) (M.it p).fl (M.it p).exp (M.it p).tch (M.it p).tok st (M.it p).du).toArray, .int .i64 0] ∧
   H0 = [own (some ⟨kb, 0, none⟩) (M.it p).key.length 5 1 (aq (M.it p).key), own (some ⟨vb, 0, none⟩) (M.it p).val.length 5 1 (aq (M.it p).val)]) ∧ H = H0 ++ [SW z M]) :=
 CS fun wa wc B O => by
  have gm := (O.al p).2 hp
  obtain ⟨f1, f2, f3, f4, f5, f6, f7⟩ := O.lM gm
  rw [show (M.aQ wa wc).it p = M.it p from rfl] at f1 f2 f3 f4 f5 f6 f7
  have lk : kl B.C.A p = (M.it p).key.length := by rw [← f5]; exact (cS _ _ _).symm
  have lv : vl B.C.A p = (M.it p).val.length := by rw [← f6]; exact (cS _ _ _).symm
  have jA : ∃ i, p ∈ ql M.Q i := hp
  obtain ⟨i, hi⟩ := jA
  have hs := O.o.st i p hi
  have h := s7 z.y.b B.C O.k p (O.tY gm) (O.t.it p gm)
  rw [O.hd, show rd B.C.A (p + 40) 4 = (M.it p).fl from f7, show rd B.C.A (p + 16) 8 = (M.it p).exp from f1, show rd B.C.A (p + 24) 8 = (M.it p).tch from f2, show rd B.C.A (p + 32) 8 = (M.it p).tok from f3, show rd B.C.A (p + 46) 1 = (M.it p).du from f4, lk, lv, f5, f6] at h
  refine ⟨_, h.out ?_, fun k k0 le h av => av.nth 0 rfl⟩
  rintro v H ⟨kb, vb, e1, e2⟩
  refine ⟨H, ⟨kb, vb, iR B.C.A p, hs.1, hs.2.1, ?_, e1, e2⟩, fun _ s => s⟩
  have := hs.2.2
  rw [show B.C.cl p = M.C.cl p from O.cl p] at this
  rw [← this]; exact hi
theorem qx {n : Nat} {ds : List Deferred} {F : c9} {K : Act → World → Prop} {σ : aS} {z : Ly} {M : Mo} {H : List aa} (h : ∀ a c B, bT B (M.aQ a c) → G n ds F K σ (SW z M :: H)) : G n ds F K σ (SW z M :: H) :=
 ym fun a c => H9 fun B O => Zq a c (h a c B O)
theorem bT.hdp {B : Bx} {M : Mo} (O : bT B M) {p : Nat} (hp : M.has p) : 0 < M.C.hd p ∧ M.C.hd p < 18446744073709551616 := by
 have h := bM O.k (O.qp ((O.al p).2 hp))
 rw [O.hd] at h
 obtain ⟨h1, h2, h3, h4, h5, h6⟩ := h
 exact ⟨by omega, by omega⟩
theorem Lr {M N : Mo} {k : List UInt8} {p : Nat} (h : M.meet k = (some p, N)) : M.has p ∧ (M.it p).key = k ∧ N = M.eJ 0 := by
 unfold Mo.meet at h
 cases hf : M.find k with
 | none => rw [hf] at h; simp at h
 | some q =>
  rw [hf] at h
  dsimp only at h
  split at h
  ·simp at h
  simp only [Prod.mk.injEq, Option.some.injEq] at h
  obtain ⟨rfl, rfl⟩ := h
  obtain ⟨h1, h2⟩ := ky hf
  exact ⟨h1, h2, rfl⟩
structure eH where
 kind : Nat
 dx : List I3
 num : Nat
 tX : List UInt8
def eH.k (n : Nat) : eH := ⟨n, [], 0, []⟩
def eH.t (t : List UInt8) : eH := ⟨11, [], 0, t⟩
def x8 (a : eH) : Value := x7 a.kind cM a.num a.tX
def si (v : Value) : Value := .iface 113 v
def Mo.over (M : Mo) (old : Option Nat) (ov : Bool) : Mo := match old with | some p => if ov = true then M.bR p else M | none => M
theorem jV (z : Ly) (M : Mo) (old : Option Nat) (hold : ∀ p, old = some p → M.has p) (over : Bool) (t : List UInt8) :
  XO Tryz.prog 119 [.pointer (some ⟨z.s, 0, none⟩), .int .u64 (tW M.C old : Int), .bool over, bC t] (fun _ => True) [SW z M]
   (fun _ _ => False) (fun v H => v = si (x8 (.t t)) ∧ H = [SW z (M.over old over)]) := by
 refine te Tryz.func119 rfl Tryz.ntmps119 rfl ?_
 intro F _
 refine qx fun a c B O => ?_
 rcases old with _ | p
 ·refine ay ?_
  refine bb ?_
  refine zf 10 ?_ (e := by rfl)
  refine cX ?_
  refine zl T.yq (kF t) .nil (fun _ _ _ => trivial) ?_
  refine Li (XM T.ko) ?_
  refine Lp (W5 ?_)
  refine pP [SW z M] ?_
  exact ⟨rfl, rfl⟩
 have hp := O.hdp (hold p rfl)
 change 0 < M.C.hd p ∧ _ at hp
 rcases over with _ | _
 ·refine ay ?_
  refine bb ?_
  refine zt 10 ?_ (e := by exact congrArg (!·) (decide_eq_false (by show ¬ (((M.C.hd p : Nat) : Int) = 0); omega)))
  refine cX ?_
  refine zl T.yq (kF t) .nil (fun _ _ _ => trivial) ?_
  refine Li (XM T.ko) ?_
  refine Lp (W5 ?_)
  refine pP [SW z M] ?_
  exact ⟨rfl, rfl⟩
 refine ay ?_
 refine bb ?_
 refine zt 10 ?_ (e := by exact congrArg (!·) (decide_eq_false (by show ¬ (((M.C.hd p : Nat) : Int) = 0); omega)))
 refine bO ?_
 refine zl T.Ie (u9 z M p (hold p rfl)) (.cons .here .nil) (fun _ _ _ => trivial) ?_
 refine bL ?_
 refine zl T.yq (kF t) .nil (fun _ _ _ => trivial) ?_
 refine Li (XM T.ko) ?_
 refine Lp (W5 ?_)
 refine pP [SW z (M.bR p)] ?_
 exact ⟨rfl, rfl⟩
def aP (verb : Int) (Eo : Nat) (old : Option Nat) (tok : Nat → Nat) : Nat :=
 if verb = 6 then (if old.isSome then 2 else 0)
 else if verb = 7 ∨ verb = 8 ∨ verb = 9 then (if old.isSome then 0 else 2)
 else if verb = 10 then (match old with | none => 4 | some p => if tok p = Eo then 0 else 3)
 else 0
theorem Qz (z : Ly) (M : Mo) (c : eA) (ka : Option Addr) (kc : Nat) (da : Option Addr) (dc : Nat) (mv : Value) (uh : mv.oneCell' = true) (old : Option Nat) (hold : ∀ p, old = some p → M.has p) :
  XO Tryz.prog 120 [.pointer (some ⟨z.s, 0, none⟩), .agg (gW c ka kc da dc mv).toArray, .int .u64 (tW M.C old : Int)] (fun _ => True) [SW z M]
   (fun v H => aP c.verb c.tok old (fun p => (M.it p).tok) = 0 ∧ v = .tuple #[] ∧ H = [SW z M]) (fun v H => ∃ n, aP c.verb c.tok old (fun p => (M.it p).tok) = n ∧ n ≠ 0 ∧ v = si (x8 (.k n)) ∧ H = [SW z M]) := by
 refine te Tryz.func120 rfl Tryz.ntmps120 rfl ?_
 intro F _
 refine aD ?_
 refine Lp (oB fun b1 => ?_)
 refine aD ?_
 refine az (fun _ x => cV x) ?_
 refine qx fun a b B O => ?_
 refine bL ?_
 refine ay ?_
 refine cR (ι := Nat) [9, 10, 12, 11, 13, 14, 6, 16, 15, 17, 18, 19, 20, 22, 21, 23, 24, 26, 27, 28, 29, 30, 31, 32, 25, 33, 34, 7, 8, 35, 36, 37, 38] (fun n => aP c.verb c.tok old (fun p => (M.it p).tok) = n) (fun n => [(6, .int .i64 (n : Int))]) (fun n => [SW z M]) ?_ ?_
 ·rcases old with _ | p
  ·have e0 : tW M.C none = 0 := rfl
   refine cY ?_
   refine au rfl ?_ ?_
   ·intro cK
    replace cK := aF cK
    refine bb ?_
    refine au rfl ?_ ?_
    ·intro cL
     replace cL := aF cL
     refine bb ?_
     refine Me (aP c.verb c.tok _ _) (rfl) (hs := ⟨(by refine congrArg (fun q => some (Value.int .i64 q)) ?_; unfold aP; try dsimp only; (repeat' split) <;> first | rfl | (exfalso; omega) | simp_all), trivial⟩)
    intro cL
    replace cL := aF cL
    refine bw ?_
    refine Me (aP c.verb c.tok _ _) (rfl) (hs := ⟨(by refine congrArg (fun q => some (Value.int .i64 q)) ?_; unfold aP; try dsimp only; (repeat' split) <;> first | rfl | (exfalso; omega) | simp_all), trivial⟩)
   intro cK
   replace cK := aF cK
   refine bq ?_
   refine au rfl ?_ ?_
   ·intro cL
    replace cL := aF cL
    refine bw ?_
    refine au rfl ?_ ?_
    ·intro cx
     replace cx := aF cx
     refine bb ?_
     refine au rfl ?_ ?_
     ·intro bQ
      replace bQ := aF bQ
      refine bb ?_
      refine Me (aP c.verb c.tok _ _) (rfl) (hs := ⟨(by refine congrArg (fun q => some (Value.int .i64 q)) ?_; unfold aP; try dsimp only; (repeat' split) <;> first | rfl | (exfalso; omega) | simp_all), trivial⟩)
     intro bQ
     replace bQ := aF bQ
     refine bw ?_
     refine Me (aP c.verb c.tok _ _) (rfl) (hs := ⟨(by refine congrArg (fun q => some (Value.int .i64 q)) ?_; unfold aP; try dsimp only; (repeat' split) <;> first | rfl | (exfalso; omega) | simp_all), trivial⟩)
    intro cx
    replace cx := aF cx
    refine bb ?_
    refine au rfl ?_ ?_
    ·intro bQ
     replace bQ := aF bQ
     refine bb ?_
     refine au rfl ?_ ?_
     ·intro cF
      replace cF := aF cF
      refine bb ?_
      refine Me (aP c.verb c.tok _ _) (rfl) (hs := ⟨(by refine congrArg (fun q => some (Value.int .i64 q)) ?_; unfold aP; try dsimp only; (repeat' split) <;> first | rfl | (exfalso; omega) | simp_all), trivial⟩)
     intro cF
     replace cF := aF cF
     refine bO ?_
     refine zl T.nR ((show aL Tryz.prog 135 [.pointer (some ⟨z.y.b, 0, none⟩), .int .u64 (tW M.C none : Int)] (fun _ => True) [SW z M] (fun v H => v = .tuple #[.int .u64 0, .int .i64 0] ∧ H = [SW z M]) from fun F w _ _ => by exfalso; omega)) (.cons .here .nil) (fun _ _ _ => trivial) ?_
     refine ed ?_
     refine au rfl ?_ ?_
     ·intro fS
      replace fS := aF fS
      refine bb ?_
      refine Me (aP c.verb c.tok _ _) (rfl) (hs := ⟨(by refine congrArg (fun q => some (Value.int .i64 q)) ?_; unfold aP; try dsimp only; (repeat' split) <;> first | rfl | (exfalso; omega) | simp_all), trivial⟩)
     intro fS
     replace fS := aF fS
     refine bw ?_
     refine Me (aP c.verb c.tok _ _) (rfl) (hs := ⟨(by refine congrArg (fun q => some (Value.int .i64 q)) ?_; unfold aP; try dsimp only; (repeat' split) <;> first | rfl | (exfalso; omega) | simp_all), trivial⟩)
    intro bQ
    replace bQ := aF bQ
    refine bw ?_
    refine Me (aP c.verb c.tok _ _) (rfl) (hs := ⟨(by refine congrArg (fun q => some (Value.int .i64 q)) ?_; unfold aP; try dsimp only; (repeat' split) <;> first | rfl | (exfalso; omega) | simp_all), trivial⟩)
   intro cL
   replace cL := aF cL
   refine bb ?_
   refine au rfl ?_ ?_
   ·intro cx
    replace cx := aF cx
    refine bw ?_
    refine au rfl ?_ ?_
    ·intro bQ
     replace bQ := aF bQ
     refine bb ?_
     refine au rfl ?_ ?_
     ·intro cF
      replace cF := aF cF
      refine bb ?_
      refine Me (aP c.verb c.tok _ _) (rfl) (hs := ⟨(by refine congrArg (fun q => some (Value.int .i64 q)) ?_; unfold aP; try dsimp only; (repeat' split) <;> first | rfl | (exfalso; omega) | simp_all), trivial⟩)
     intro cF
     replace cF := aF cF
     refine bw ?_
     refine Me (aP c.verb c.tok _ _) (rfl) (hs := ⟨(by refine congrArg (fun q => some (Value.int .i64 q)) ?_; unfold aP; try dsimp only; (repeat' split) <;> first | rfl | (exfalso; omega) | simp_all), trivial⟩)
    intro bQ
    replace bQ := aF bQ
    refine bb ?_
    refine au rfl ?_ ?_
    ·intro cF
     replace cF := aF cF
     refine bb ?_
     refine au rfl ?_ ?_
     ·intro fS
      replace fS := aF fS
      refine bb ?_
      refine Me (aP c.verb c.tok _ _) (rfl) (hs := ⟨(by refine congrArg (fun q => some (Value.int .i64 q)) ?_; unfold aP; try dsimp only; (repeat' split) <;> first | rfl | (exfalso; omega) | simp_all), trivial⟩)
     intro fS
     replace fS := aF fS
     refine bO ?_
     refine zl T.nR ((show aL Tryz.prog 135 [.pointer (some ⟨z.y.b, 0, none⟩), .int .u64 (tW M.C none : Int)] (fun _ => True) [SW z M] (fun v H => v = .tuple #[.int .u64 0, .int .i64 0] ∧ H = [SW z M]) from fun F w _ _ => by exfalso; omega)) (.cons .here .nil) (fun _ _ _ => trivial) ?_
     refine ed ?_
     refine au rfl ?_ ?_
     ·intro lK
      replace lK := aF lK
      refine bb ?_
      refine Me (aP c.verb c.tok _ _) (rfl) (hs := ⟨(by refine congrArg (fun q => some (Value.int .i64 q)) ?_; unfold aP; try dsimp only; (repeat' split) <;> first | rfl | (exfalso; omega) | simp_all), trivial⟩)
     intro lK
     replace lK := aF lK
     refine bw ?_
     refine Me (aP c.verb c.tok _ _) (rfl) (hs := ⟨(by refine congrArg (fun q => some (Value.int .i64 q)) ?_; unfold aP; try dsimp only; (repeat' split) <;> first | rfl | (exfalso; omega) | simp_all), trivial⟩)
    intro cF
    replace cF := aF cF
    refine bw ?_
    refine Me (aP c.verb c.tok _ _) (rfl) (hs := ⟨(by refine congrArg (fun q => some (Value.int .i64 q)) ?_; unfold aP; try dsimp only; (repeat' split) <;> first | rfl | (exfalso; omega) | simp_all), trivial⟩)
   intro cx
   replace cx := aF cx
   refine bb ?_
   refine au rfl ?_ ?_
   ·intro bQ
    replace bQ := aF bQ
    refine bb ?_
    refine au rfl ?_ ?_
    ·intro cF
     replace cF := aF cF
     refine bb ?_
     refine Me (aP c.verb c.tok _ _) (rfl) (hs := ⟨(by refine congrArg (fun q => some (Value.int .i64 q)) ?_; unfold aP; try dsimp only; (repeat' split) <;> first | rfl | (exfalso; omega) | simp_all), trivial⟩)
    intro cF
    replace cF := aF cF
    refine bw ?_
    refine Me (aP c.verb c.tok _ _) (rfl) (hs := ⟨(by refine congrArg (fun q => some (Value.int .i64 q)) ?_; unfold aP; try dsimp only; (repeat' split) <;> first | rfl | (exfalso; omega) | simp_all), trivial⟩)
   intro bQ
   replace bQ := aF bQ
   refine bb ?_
   refine au rfl ?_ ?_
   ·intro cF
    replace cF := aF cF
    refine bb ?_
    refine au rfl ?_ ?_
    ·intro fS
     replace fS := aF fS
     refine bb ?_
     refine Me (aP c.verb c.tok _ _) (rfl) (hs := ⟨(by refine congrArg (fun q => some (Value.int .i64 q)) ?_; unfold aP; try dsimp only; (repeat' split) <;> first | rfl | (exfalso; omega) | simp_all), trivial⟩)
    intro fS
    replace fS := aF fS
    refine bO ?_
    refine zl T.nR ((show aL Tryz.prog 135 [.pointer (some ⟨z.y.b, 0, none⟩), .int .u64 (tW M.C none : Int)] (fun _ => True) [SW z M] (fun v H => v = .tuple #[.int .u64 0, .int .i64 0] ∧ H = [SW z M]) from fun F w _ _ => by exfalso; omega)) (.cons .here .nil) (fun _ _ _ => trivial) ?_
    refine ed ?_
    refine au rfl ?_ ?_
    ·intro lK
     replace lK := aF lK
     refine bb ?_
     refine Me (aP c.verb c.tok _ _) (rfl) (hs := ⟨(by refine congrArg (fun q => some (Value.int .i64 q)) ?_; unfold aP; try dsimp only; (repeat' split) <;> first | rfl | (exfalso; omega) | simp_all), trivial⟩)
    intro lK
    replace lK := aF lK
    refine bw ?_
    refine Me (aP c.verb c.tok _ _) (rfl) (hs := ⟨(by refine congrArg (fun q => some (Value.int .i64 q)) ?_; unfold aP; try dsimp only; (repeat' split) <;> first | rfl | (exfalso; omega) | simp_all), trivial⟩)
   intro cF
   replace cF := aF cF
   refine bw ?_
   refine Me (aP c.verb c.tok _ _) (rfl) (hs := ⟨(by refine congrArg (fun q => some (Value.int .i64 q)) ?_; unfold aP; try dsimp only; (repeat' split) <;> first | rfl | (exfalso; omega) | simp_all), trivial⟩)
  have hp := O.hdp (hold p rfl)
  have e0 : tW M.C (some p) = M.C.hd p := rfl
  change 0 < M.C.hd p ∧ _ at hp
  refine cY ?_
  refine au rfl ?_ ?_
  ·intro cK
   replace cK := aF cK
   refine bb ?_
   refine au rfl ?_ ?_
   ·intro cL
    replace cL := aF cL
    refine bb ?_
    refine Me (aP c.verb c.tok _ _) (rfl) (hs := ⟨(by refine congrArg (fun q => some (Value.int .i64 q)) ?_; unfold aP; try dsimp only; (repeat' split) <;> first | rfl | (exfalso; omega) | simp_all), trivial⟩)
   intro cL
   replace cL := aF cL
   refine bw ?_
   refine Me (aP c.verb c.tok _ _) (rfl) (hs := ⟨(by refine congrArg (fun q => some (Value.int .i64 q)) ?_; unfold aP; try dsimp only; (repeat' split) <;> first | rfl | (exfalso; omega) | simp_all), trivial⟩)
  intro cK
  replace cK := aF cK
  refine bq ?_
  refine au rfl ?_ ?_
  ·intro cL
   replace cL := aF cL
   refine bw ?_
   refine au rfl ?_ ?_
   ·intro cx
    replace cx := aF cx
    refine bb ?_
    refine au rfl ?_ ?_
    ·intro bQ
     replace bQ := aF bQ
     refine bb ?_
     refine Me (aP c.verb c.tok _ _) (rfl) (hs := ⟨(by refine congrArg (fun q => some (Value.int .i64 q)) ?_; unfold aP; try dsimp only; (repeat' split) <;> first | rfl | (exfalso; omega) | simp_all), trivial⟩)
    intro bQ
    replace bQ := aF bQ
    refine bw ?_
    refine Me (aP c.verb c.tok _ _) (rfl) (hs := ⟨(by refine congrArg (fun q => some (Value.int .i64 q)) ?_; unfold aP; try dsimp only; (repeat' split) <;> first | rfl | (exfalso; omega) | simp_all), trivial⟩)
   intro cx
   replace cx := aF cx
   refine bb ?_
   refine au rfl ?_ ?_
   ·intro bQ
    replace bQ := aF bQ
    refine bb ?_
    refine au rfl ?_ ?_
    ·intro cF
     replace cF := aF cF
     refine bb ?_
     refine Me (aP c.verb c.tok _ _) (rfl) (hs := ⟨(by refine congrArg (fun q => some (Value.int .i64 q)) ?_; unfold aP; try dsimp only; (repeat' split) <;> first | rfl | (exfalso; omega) | simp_all), trivial⟩)
    intro cF
    replace cF := aF cF
    refine bO ?_
    refine zl T.nR (nW z M p (hold p rfl)) (.cons .here .nil) (fun _ _ _ => trivial) ?_
    refine ed ?_
    refine au rfl ?_ ?_
    ·intro fS
     replace fS := aF fS
     refine bb ?_
     refine Me (aP c.verb c.tok _ _) (rfl) (hs := ⟨(by refine congrArg (fun q => some (Value.int .i64 q)) ?_; unfold aP; try dsimp only; (repeat' split) <;> first | rfl | (exfalso; omega) | simp_all), trivial⟩)
    intro fS
    replace fS := aF fS
    refine bw ?_
    refine Me (aP c.verb c.tok _ _) (rfl) (hs := ⟨(by refine congrArg (fun q => some (Value.int .i64 q)) ?_; unfold aP; try dsimp only; (repeat' split) <;> first | rfl | (exfalso; omega) | simp_all), trivial⟩)
   intro bQ
   replace bQ := aF bQ
   refine bw ?_
   refine Me (aP c.verb c.tok _ _) (rfl) (hs := ⟨(by refine congrArg (fun q => some (Value.int .i64 q)) ?_; unfold aP; try dsimp only; (repeat' split) <;> first | rfl | (exfalso; omega) | simp_all), trivial⟩)
  intro cL
  replace cL := aF cL
  refine bb ?_
  refine au rfl ?_ ?_
  ·intro cx
   replace cx := aF cx
   refine bw ?_
   refine au rfl ?_ ?_
   ·intro bQ
    replace bQ := aF bQ
    refine bb ?_
    refine au rfl ?_ ?_
    ·intro cF
     replace cF := aF cF
     refine bb ?_
     refine Me (aP c.verb c.tok _ _) (rfl) (hs := ⟨(by refine congrArg (fun q => some (Value.int .i64 q)) ?_; unfold aP; try dsimp only; (repeat' split) <;> first | rfl | (exfalso; omega) | simp_all), trivial⟩)
    intro cF
    replace cF := aF cF
    refine bw ?_
    refine Me (aP c.verb c.tok _ _) (rfl) (hs := ⟨(by refine congrArg (fun q => some (Value.int .i64 q)) ?_; unfold aP; try dsimp only; (repeat' split) <;> first | rfl | (exfalso; omega) | simp_all), trivial⟩)
   intro bQ
   replace bQ := aF bQ
   refine bb ?_
   refine au rfl ?_ ?_
   ·intro cF
    replace cF := aF cF
    refine bb ?_
    refine au rfl ?_ ?_
    ·intro fS
     replace fS := aF fS
     refine bb ?_
     refine Me (aP c.verb c.tok _ _) (rfl) (hs := ⟨(by refine congrArg (fun q => some (Value.int .i64 q)) ?_; unfold aP; try dsimp only; (repeat' split) <;> first | rfl | (exfalso; omega) | simp_all), trivial⟩)
    intro fS
    replace fS := aF fS
    refine bO ?_
    refine zl T.nR (nW z M p (hold p rfl)) (.cons .here .nil) (fun _ _ _ => trivial) ?_
    refine ed ?_
    refine au rfl ?_ ?_
    ·intro lK
     replace lK := aF lK
     refine bb ?_
     refine Me (aP c.verb c.tok _ _) (rfl) (hs := ⟨(by refine congrArg (fun q => some (Value.int .i64 q)) ?_; unfold aP; try dsimp only; (repeat' split) <;> first | rfl | (exfalso; omega) | simp_all), trivial⟩)
    intro lK
    replace lK := aF lK
    refine bw ?_
    refine Me (aP c.verb c.tok _ _) (rfl) (hs := ⟨(by refine congrArg (fun q => some (Value.int .i64 q)) ?_; unfold aP; try dsimp only; (repeat' split) <;> first | rfl | (exfalso; omega) | simp_all), trivial⟩)
   intro cF
   replace cF := aF cF
   refine bw ?_
   refine Me (aP c.verb c.tok _ _) (rfl) (hs := ⟨(by refine congrArg (fun q => some (Value.int .i64 q)) ?_; unfold aP; try dsimp only; (repeat' split) <;> first | rfl | (exfalso; omega) | simp_all), trivial⟩)
  intro cx
  replace cx := aF cx
  refine bb ?_
  refine au rfl ?_ ?_
  ·intro bQ
   replace bQ := aF bQ
   refine bb ?_
   refine au rfl ?_ ?_
   ·intro cF
    replace cF := aF cF
    refine bb ?_
    refine Me (aP c.verb c.tok _ _) (rfl) (hs := ⟨(by refine congrArg (fun q => some (Value.int .i64 q)) ?_; unfold aP; try dsimp only; (repeat' split) <;> first | rfl | (exfalso; omega) | simp_all), trivial⟩)
   intro cF
   replace cF := aF cF
   refine bw ?_
   refine Me (aP c.verb c.tok _ _) (rfl) (hs := ⟨(by refine congrArg (fun q => some (Value.int .i64 q)) ?_; unfold aP; try dsimp only; (repeat' split) <;> first | rfl | (exfalso; omega) | simp_all), trivial⟩)
  intro bQ
  replace bQ := aF bQ
  refine bb ?_
  refine au rfl ?_ ?_
  ·intro cF
   replace cF := aF cF
   refine bb ?_
   refine au rfl ?_ ?_
   ·intro fS
    replace fS := aF fS
    refine bb ?_
    refine Me (aP c.verb c.tok _ _) (rfl) (hs := ⟨(by refine congrArg (fun q => some (Value.int .i64 q)) ?_; unfold aP; try dsimp only; (repeat' split) <;> first | rfl | (exfalso; omega) | simp_all), trivial⟩)
   intro fS
   replace fS := aF fS
   refine bO ?_
   refine zl T.nR (nW z M p (hold p rfl)) (.cons .here .nil) (fun _ _ _ => trivial) ?_
   refine ed ?_
   refine au rfl ?_ ?_
   ·intro lK
    replace lK := aF lK
    refine bb ?_
    refine Me (aP c.verb c.tok _ _) (rfl) (hs := ⟨(by refine congrArg (fun q => some (Value.int .i64 q)) ?_; unfold aP; try dsimp only; (repeat' split) <;> first | rfl | (exfalso; omega) | simp_all), trivial⟩)
   intro lK
   replace lK := aF lK
   refine bw ?_
   refine Me (aP c.verb c.tok _ _) (rfl) (hs := ⟨(by refine congrArg (fun q => some (Value.int .i64 q)) ?_; unfold aP; try dsimp only; (repeat' split) <;> first | rfl | (exfalso; omega) | simp_all), trivial⟩)
  intro cF
  replace cF := aF cF
  refine bw ?_
  refine Me (aP c.verb c.tok _ _) (rfl) (hs := ⟨(by refine congrArg (fun q => some (Value.int .i64 q)) ?_; unfold aP; try dsimp only; (repeat' split) <;> first | rfl | (exfalso; omega) | simp_all), trivial⟩)
 rintro n hI
 refine bb ?_
 by_cases hn : n = 0
 ·refine dq ?_ (e := by exact congrArg (!·) (decide_eq_true (by omega)))
  refine aD ?_
  refine pN ?_
  refine jN [SW z M] Tryz.results120 ?_
  exact ⟨hI.trans hn, rfl, rfl⟩
 refine gK ?_ (e := by exact congrArg (!·) (decide_eq_false (by omega)))
 refine bb ?_
 refine Li (XM T.ko) ?_
 refine Lp (W5 ?_)
 refine pP [SW z M] ?_
 exact ⟨n, hI, hn, rfl, rfl⟩
def Mo.dQ (M : Mo) (k : List UInt8) (ex : Int) : eH × Mo := match M.meet k with
 | (none, N) => (.k 4, N)
 | (some p, N) => (.k 6, (N.time p (mX N.k.now ex)).pC p)
def yr (l : List (I3 × Nat)) : List Value := l.flatMap fun x => x6 x.1 (.slice (some ⟨x.2, 0, none⟩) x.1.val.length x.1.val.length)
def sn (l : List (I3 × Nat)) : aa := aE (l.map fun x => own (some ⟨x.2, 0, none⟩) x.1.val.length 5 1 (aq x.1.val))
def Mo.dz (dK : Bool) (ex : Int) (s : List I3 × Mo) (k : List UInt8) : List I3 × Mo := match s.2.meet k with
 | (none, N) => (s.1, N)
 | (some p, N) => let N2 := if dK then N.time p (mX N.k.now ex) else N; (s.1 ++ [N2.it p], N2.pC p)
def Mo.lL (M : Mo) (verb : Int) (keys : List (List UInt8)) (ex : Int) : eH × Mo := let r := keys.foldl (Mo.dz (decide (verb = 3 ∨ verb = 4)) ex) ([], M); (⟨9, r.1, 0, []⟩, r.2)
theorem th {n : Nat} {ds : List Deferred} {F : c9} {K : Act → World → Prop} {σ : aS} {H : List aa} (h : G n ds F K σ (sn [] :: H)) : G n ds F K σ H :=
 az (fun k s => lH s) h
theorem CP (M : Mo) (p e : Nat) : (M.time p e).tn ≤ M.tn + 1 := by
 unfold Mo.time
 dsimp only
 split <;> omega
structure nc (M : Mo) : Prop where
 k : Ok M.C
 nd : ∀ i, (ql M.Q i).Nodup
 lv : ∀ p, M.has p → Live M.C p
 on : M.m.on = true → M.m.pg < M.C.n ∧ (M.C.pg M.m.pg).own = true ∧ (M.C.pg M.m.pg).lv = true ∧ (M.C.pg M.m.pg).cl = M.m.fr
theorem bT.R5 {B : Bx} {M : Mo} (O : bT B M) : nc M := by
 refine ⟨O.W7, O.o.nd, fun p hp => ?_, fun h => ?_⟩
 ·have h := (O.tY ((O.al p).2 hp)).wA M.C.A
  rw [O.c] at h
  exact h
 have h := O.on h
 rw [O.c] at h
 exact h
structure Co (M N : Mo) (own : Option Nat) : Prop where
 it : N.it = M.it
 bm : N.v.bm = M.v.bm
 c : N.v.c = M.v.c
 p : N.v.p = M.v.p
 tn : N.tn = M.tn
 k : N.k = M.k
 w : N.jX = M.jX
 st : N.m.st = M.m.st
 ex : N.ord = M.ord
 sz : N.C.ae = M.C.ae
 own : ∀ p, own = some p → M.has p → N.has p ∧ N.C.hd p = M.C.hd p ∧ N.C.cl p = M.C.cl p
 has : ∀ q, N.has q → M.has q
theorem Co.refl (M : Mo) (own : Option Nat) : Co M M own := ⟨rfl, rfl, rfl, rfl, rfl, rfl, rfl, rfl, rfl, rfl, fun _ _ h => ⟨h, rfl, rfl⟩, fun _ h => h⟩
theorem Co.trans {M N O : Mo} {own : Option Nat} (a : Co M N own) (b : Co N O own) : Co M O own :=
 ⟨b.it.trans a.it, b.bm.trans a.bm, b.c.trans a.c, b.p.trans a.p, b.tn.trans a.tn, b.k.trans a.k, b.w.trans a.w, b.st.trans a.st, b.ex.trans a.ex, b.sz.trans a.sz, fun p e h => by
  obtain ⟨h1, h2, h3⟩ := a.own p e h
  obtain ⟨h4, h5, h6⟩ := b.own p e h1
  exact ⟨h4, h5.trans h2, h6.trans h3⟩, fun q h => a.has q (b.has q h)⟩
theorem C1 {Q : List (List Nat)} {p q : Nat} (nd : ∀ i, (ql Q i).Nodup) : (∃ i, q ∈ ql (fw Q p) i) ↔ (∃ i, q ∈ ql Q i) ∧ q ≠ p := by
 constructor
 ·rintro ⟨i, h⟩
  rw [gy] at h
  exact ⟨⟨i, List.mem_of_mem_erase h⟩, fun e => by subst e; exact (List.Nodup.not_mem_erase (nd i)) h⟩
 rintro ⟨⟨i, h⟩, ne⟩
 exact ⟨i, by rw [gy]; exact (List.mem_erase_of_ne ne).2 h⟩
theorem nc.bR {M : Mo} (K : nc M) {p : Nat} (hp : M.has p) : nc (M.bR p) ∧ ∀ own, own ≠ some p → Co M (M.bR p) own := by
 have L := K.lv p hp
 obtain ⟨K2, S⟩ := fD K.k L
 have sm := kx K.k L
 have hh := fun q => C1 (Q := M.Q) (p := p) (q := q) K.nd
 refine ⟨⟨K2, fun i => ?_, fun q hq => ?_, fun h => ?_⟩, fun own ne => ⟨rfl, rfl, rfl, rfl, rfl, rfl, rfl, rfl, rfl, S.ae, fun q e hq => ?_, fun q hq => ((hh q).1 hq).1⟩⟩
 ·show (ql (fw M.Q p) i).Nodup
  rw [gy]; exact (K.nd i).erase p
 ·obtain ⟨h1, h2⟩ := (hh q).1 hq
  exact (sm.lv q h2 (K.lv q h1)).1
 ·obtain ⟨a, b, c, d⟩ := K.on h
  obtain ⟨e1, e2, e3⟩ := oJ K.k L M.m.pg
  refine ⟨a, e1.trans b, e2.trans c, e3.trans d⟩
 have h2 : q ≠ p := fun g => ne (by rw [e, g])
 obtain ⟨g1, g2, g3⟩ := sm.lv q h2 (K.lv q hq)
 exact ⟨(hh q).2 ⟨hq, h2⟩, g2, g3⟩
theorem nc.take {M N : Mo} (K : nc M) {c r : Nat} (hc : c < M.gL) (h : M.take c = some (r, N)) (own : Option Nat) : nc N ∧ Co M N own ∧ N.hole = some r ∧ N.C.cl r = c ∧ Live N.C r ∧ ¬ M.has r ∧ N = { M with C := N.C, hole := some r } := by
 unfold Mo.take at h
 cases ht : M.C.dw c with
 | none => rw [ht] at h; cases h
 | some x =>
  obtain ⟨p, D⟩ := x
  rw [ht] at h
  simp only [Option.some.injEq, Prod.mk.injEq] at h
  obtain ⟨rfl, rfl⟩ := h
  have X := pO K.k hc ht
  refine ⟨⟨X.k, K.nd, fun q hq => (X.lv q).2 (.inl (K.lv q hq)), fun g => ?_⟩, ⟨rfl, rfl, rfl, rfl, rfl, rfl, rfl, rfl, rfl, X.sz, fun q _ hq => ⟨hq, (X.hd q (K.lv q hq)).1, (X.hd q (K.lv q hq)).2⟩, fun _ h => h⟩, rfl, X.cl, (X.lv p).2 (.inr rfl), fun g => X.no (K.lv p g), rfl⟩
  obtain ⟨a, b, c, d⟩ := K.on g
  obtain ⟨e1, e2⟩ := X.pg _ b
  refine ⟨?_, e1, (X.lf _).trans c, e2.trans d⟩
  show _ < D.n
  rw [X.n]; exact a
theorem nc.mstop {M : Mo} (K : nc M) (nz : M.m.on = true) (own : Option Nat) : nc M.mstop ∧ Co M M.mstop own := by
 obtain ⟨a, b, c, d⟩ := K.on nz
 obtain ⟨K2, S⟩ := sS K.k a b c
 have im := wT K.k a
 have sm := rA S fun j => by
  rw [im]
  by_cases e : j = M.m.pg
  ·exact ⟨false, by rw [if_pos e, e]⟩
  exact ⟨(M.C.pg j).lv, by rw [if_neg e]⟩
 exact ⟨⟨K2, K.nd, fun q hq => (sm q).1.2 (K.lv q hq), fun e => by cases e⟩, ⟨rfl, rfl, rfl, rfl, rfl, rfl, rfl, rfl, rfl, S.ae, fun q _ hq => ⟨hq, (sm q).2⟩, fun _ h => h⟩⟩
theorem nc.mt {M : Mo} (K : nc M) (t : Mt) (own : Option Nat) : nc (M.aX t) ∧ Co M (M.aX t) own := ⟨⟨K.k, K.nd, K.lv, K.on⟩, ⟨rfl, rfl, rfl, rfl, rfl, rfl, rfl, rfl, rfl, rfl, fun _ _ h => ⟨h, rfl, rfl⟩, fun _ h => h⟩⟩
theorem nc.nJ {M : Mo} (K : nc M) (c : Nat) (own : Option Nat) : nc (M.fG c) ∧ Co M (M.fG c) own := ⟨⟨K.k, K.nd, K.lv, K.on⟩, ⟨rfl, rfl, rfl, rfl, rfl, rfl, rfl, rfl, rfl, rfl, fun _ _ h => ⟨h, rfl, rfl⟩, fun _ h => h⟩⟩
structure nT (M N : Mo) (n : Nat) (own o : Option Nat) : Prop where
 k : nc N
 s : Co M N own
 no : o = none → N.hole = M.hole
 ok : ∀ r, o = some r → N.hole = some r ∧ n ≤ N.C.sz (N.C.cl r) ∧ Live N.C r ∧ ¬ N.has r
theorem PM {M N : Mo} (K : nc M) {n c p : Nat} (hc : c < M.gL) (hz : n ≤ M.C.sz c) {own o : Option Nat} (hp : M.has p) (ne : own ≠ some p) (h : M.last c p = (o, N)) : nT M N n own o := by
 obtain ⟨K1, S1⟩ := K.bR hp
 have S1 := S1 own ne
 have vV : c < (M.bR p).gL := by show c < (M.bR p).C.ae.length; rw [S1.sz]; exact hc
 unfold Mo.last at h
 cases ht : (M.bR p).take c with
 | none =>
  rw [ht] at h
  simp only [Prod.mk.injEq] at h
  obtain ⟨rfl, rfl⟩ := h
  exact ⟨K1, S1, fun _ => rfl, fun r e => by cases e⟩
 | some x =>
  obtain ⟨r, D⟩ := x
  rw [ht] at h
  simp only [Prod.mk.injEq] at h
  obtain ⟨rfl, rfl⟩ := h
  obtain ⟨K2, S2, h1, h2, h3, h4, h5⟩ := K1.take vV ht own
  refine ⟨K2, S1.trans S2, (fun e => by cases e), fun r' e => ?_⟩
  cases e
  refine ⟨h1, ?_, h3, fun g => h4 (S2.has _ g)⟩
  rw [h2]
  unfold Cs.sz
  rw [(S1.trans S2).sz]; exact hz
theorem OO {M : Mo} {c p : Nat} {own : Option Nat} (h : (M.pick c own).1 = some p) : M.has p ∧ own ≠ some p := by
 obtain ⟨h1, h2⟩ := KV h
 exact ⟨OB h1, fun e => h2 e.symm⟩
theorem zc {M N : Mo} (K : nc M) {n c : Nat} (hc : c < M.gL) (hz : n ≤ M.C.sz c) {own o : Option Nat} (h : M.ns c own = (o, N)) : nT M N n own o := by
 unfold Mo.ns at h
 obtain ⟨K1, S1⟩ := K.mt { M.v.mt with lo := cC (M.v.mt.lo + ((M.pick c own).2.2 : Int)) } own
 have av := fun p => OO (M := M) (c := c) (p := p) (own := own)
 obtain ⟨M1, hM1⟩ : ∃ M1, M1 = M.aX { M.v.mt with lo := cC (M.v.mt.lo + ((M.pick c own).2.2 : Int)) } := ⟨_, rfl⟩
 have hq : M1.Q = M.Q := by rw [hM1]; rfl
 have hC : M1.C = M.C := by rw [hM1]; rfl
 have hh : M1.hole = M.hole := by rw [hM1]; rfl
 rw [← hM1] at h K1 S1
 have Xt : c < M1.gL := by unfold Mo.gL; rw [hC]; exact hc
 have Nq : n ≤ M1.C.sz c := by rw [hC]; exact hz
 have go : ∀ {M2 N : Mo} {p : Nat} {o : Option Nat}, nc M2 → Co M M2 own → M2.Q = M.Q → M2.C = M.C → M2.hole = M.hole → M.has p → own ≠ some p → M2.last c p = (o, N) → nT M N n own o := fun K2 S2 hQ2 hC2 hh2 hp ne e => by
  have R := PM K2 (n := n) (by unfold Mo.gL; rw [hC2]; exact hc) (by rw [hC2]; exact hz) (own := own) (by unfold Mo.has; rw [hQ2]; exact hp) ne e
  exact ⟨R.k, S2.trans R.s, fun g => (R.no g).trans hh2, R.ok⟩
 rcases hp : (M.pick c own).1 with _ | p <;> rcases hd : (M.pick c own).2.1 with _ | _ <;> rw [hp, hd] at h <;> unfold Mo.Ii at h
 ·simp only [Prod.mk.injEq] at h
  obtain ⟨rfl, rfl⟩ := h
  obtain ⟨K2, S2⟩ := K1.nJ c own
  exact ⟨K2, S1.trans S2, fun _ => hh, fun r e => by cases e⟩
 ·simp only [Prod.mk.injEq] at h
  obtain ⟨rfl, rfl⟩ := h
  exact ⟨K1, S1, fun _ => hh, fun r e => by cases e⟩
 ·obtain ⟨K2, S2⟩ := K1.nJ c own
  obtain ⟨K3, S3⟩ := K2.mt { (M1.fG c).v.mt with dr := cC ((M1.fG c).v.mt.dr + 1) } own
  exact go K3 ((S1.trans S2).trans S3) hq hC hh (av p hp).1 (av p hp).2 h
 obtain ⟨K3, S3⟩ := K1.mt { M1.v.mt with re := cC (M1.v.mt.re + 1) } own
 exact go K3 (S1.trans S3) hq hC hh (av p hp).1 (av p hp).2 h
theorem CQ {M N : Mo} (K : nc M) {n c r : Nat} (hc : c < M.gL) (hz : n ≤ M.C.sz c) {own : Option Nat} (h : M.take c = some (r, N)) : nT M N n own (some r) := by
 obtain ⟨K2, S2, h1, h2, h3, h4, h5⟩ := K.take hc h own
 refine ⟨K2, S2, (fun e => by cases e), fun r' e => ?_⟩
 cases e
 refine ⟨h1, ?_, h3, fun g => h4 (S2.has _ g)⟩
 rw [h2]
 unfold Cs.sz
 rw [S2.sz]; exact hz
theorem wW {M N : Mo} (K : nc M) {n : Nat} {own o : Option Nat} (h : M.room n own = (o, N)) : nT M N n own o := by
 unfold Mo.room at h
 cases hf : M.C.ae.findIdx? (fun z => decide (n ≤ z)) with
 | none =>
  rw [hf] at h
  simp only [Prod.mk.injEq] at h
  obtain ⟨rfl, rfl⟩ := h
  exact ⟨K, .refl _ _, fun _ => rfl, fun r e => by cases e⟩
 | some c =>
  rw [hf] at h
  dsimp only at h
  obtain ⟨hc, hz, _⟩ := List.findIdx?_eq_some_iff_getElem.1 hf
  have MX : n ≤ M.C.sz c := by
   unfold Cs.sz
   rw [List.getD_eq_getElem?_getD, List.getElem?_eq_getElem hc]
   simpa using hz
  unfold Mo.r8 at h
  cases ht : M.take c with
  | some x =>
   obtain ⟨r, D⟩ := x
   rw [ht] at h
   simp only [Prod.mk.injEq] at h
   obtain ⟨rfl, rfl⟩ := h
   exact CQ K hc MX ht
  | none =>
   rw [ht] at h
   dsimp only at h
   split at h
   ·next g =>
    obtain ⟨K1, S1⟩ := K.mstop g.1 own
    have Xt : c < M.mstop.gL := by show c < M.mstop.C.ae.length; rw [S1.sz]; exact hc
    have Nq : n ≤ M.mstop.C.sz c := by unfold Cs.sz; rw [S1.sz]; exact MX
    have fin : ∀ o, nT M.mstop N n own o → nT M N n own o := fun o R => ⟨R.k, S1.trans R.s, R.no, R.ok⟩
    cases oc : M.mstop.take c with
    | some x =>
     obtain ⟨r, D⟩ := x
     rw [oc] at h
     simp only [Prod.mk.injEq] at h
     obtain ⟨rfl, rfl⟩ := h
     exact fin _ (CQ K1 Xt Nq oc)
    | none =>
     rw [oc] at h
     exact fin _ (zc K1 Xt Nq h)
   exact zc K hc MX h
theorem IZ (M : Mo) (c p : Nat) (a : Option Addr) (w : Nat) : (M.aQ a w).last c p = ((M.last c p).1, (M.last c p).2.aQ a w) := by
 unfold Mo.last
 rw [show (M.aQ a w).bR p = (M.bR p).aQ a w from rfl, wm]
 cases (M.bR p).take c <;> rfl
theorem DM (M : Mo) (c : Nat) (own : Option Nat) (a : Option Addr) (w : Nat) : (M.aQ a w).ns c own = ((M.ns c own).1, (M.ns c own).2.aQ a w) := by
 unfold Mo.ns
 rw [show (M.aQ a w).pick c own = M.pick c own from rfl]
 rcases (M.pick c own).1 with _ | p <;> rcases (M.pick c own).2.1 with _ | _ <;> unfold Mo.Ii
 ·rfl
 ·rfl
 ·exact IZ (((M.aX { M.v.mt with lo := cC (M.v.mt.lo + ((M.pick c own).2.2 : Int)) }).fG c).aX _) c p a w
 exact IZ ((M.aX { M.v.mt with lo := cC (M.v.mt.lo + ((M.pick c own).2.2 : Int)) }).aX _) c p a w
theorem Uq (M : Mo) (n : Nat) (own : Option Nat) (a : Option Addr) (w : Nat) : (M.aQ a w).room n own = ((M.room n own).1, (M.room n own).2.aQ a w) := by
 unfold Mo.room
 rw [show (M.aQ a w).C = M.C from rfl]
 cases M.C.ae.findIdx? (fun z => decide (n ≤ z)) with
 | none => rfl
 | some c =>
  dsimp only
  unfold Mo.r8
  rw [wm]
  cases M.take c with
  | some x => rfl
  | none =>
   dsimp only [Option.map]
   rw [show (M.aQ a w).m = M.m from rfl]
   split
   ·rw [show (M.aQ a w).mstop = M.mstop.aQ a w from rfl, wm]
    cases M.mstop.take c with
    | some x => rfl
    | none => exact DM _ _ _ _ _
   exact DM _ _ _ _ _
theorem zp (z : Ly) (M : Mo) (hh : M.hole = none) (jA : M.m.st < 4611686018427387904) (x4 : 0 < M.C.spare) (kn vn : Nat) (hk : 1 ≤ kn ∧ kn ≤ 250) (hv : vn ≤ 1048576) (own : Option Nat) (wb : ∀ p, own = some p → M.has p) :
  aL Tryz.prog 117 [.pointer (some ⟨z.s, 0, none⟩), .int .i64 (kn : Int), .int .i64 (vn : Int), .int .u64 (tW M.C own : Int)] (fun _ => True) [SW z M]
   (fun w H => w = .int .u64 (tW (M.room (58 + kn + vn) own).2.C (M.room (58 + kn + vn) own).1 : Int) ∧ H = [SW z (M.room (58 + kn + vn) own).2]) :=
 rh fun a c => (ET z (M.aQ a c) hh jA x4 kn vn hk hv own wb).out (by
  rintro v H' ⟨o, N, hr, rfl, rfl⟩
  rw [Uq] at hr
  simp only [Prod.mk.injEq] at hr
  obtain ⟨rfl, rfl⟩ := hr
  exact ⟨_, ⟨rfl, rfl⟩, fun k s => eQ a c k s⟩)
theorem Kw (z : Ly) (M : Mo) (r : Nat) (hr : M.hole = some r) (old : Option Nat) (k v : List UInt8) (MV MO : Nat) (xF : MV = k.length) (hvl : MO = v.length) (hold : ∀ p, old = some p → M.has p ∧ (M.it p).key = k) (SN : old = none → M.find k = none) (ka va : Option Addr) (kc vc fl ex mk : Nat) (M8 : dS k = true)
  (Ap : 58 + k.length + v.length ≤ M.C.sz (M.C.cl r)) (uD : fl < 4294967296) (hex : ex < 9223372036854775808) (uC : mk < 16) (we : M.v.bm + 1 < 18446744073709551616) (M5 : M.tn < 18446744073709551615) :
  aL Tryz.prog 118 [.pointer (some ⟨z.s, 0, none⟩), .int .u64 (M.C.hd r : Int), .int .u64 (tW M.C old : Int), .agg (Cg (.slice ka MV kc) (.slice va MO vc) fl ex 0 0 0 mk).toArray] (fun h => fK h ka (aq k) ∧ fK h va (aq v)) [SW z M]
   (fun w H => w = .tuple #[] ∧ H = [SW z (M.eX r old ⟨k, v, fl, ex, M.k.now, M.v.bm + 1, mk⟩)]) :=
 rh fun a c => (Ox z (M.aQ a c) r hr old k v MV MO xF hvl hold SN ka va kc vc fl ex mk M8 Ap uD hex uC we M5).out (by
  rintro w H' ⟨rfl, rfl⟩
  refine ⟨_, ⟨rfl, rfl⟩, fun k' s => eQ a c k' ?_⟩
  rw [show (M.aQ a c).eX r old ⟨k, v, fl, ex, (M.aQ a c).k.now, (M.aQ a c).v.bm + 1, mk⟩ = (M.eX r old ⟨k, v, fl, ex, M.k.now, M.v.bm + 1, mk⟩).aQ a c by cases old <;> rfl] at s
  exact s)
def dm : List UInt8 := [111, 98, 106, 101, 99, 116, 32, 116, 111, 111, 32, 108, 97, 114, 103, 101, 32, 102, 111, 114, 32, 99, 97, 99, 104, 101]
def iJ : List UInt8 := [111, 117, 116, 32, 111, 102, 32, 109, 101, 109, 111, 114, 121, 32, 115, 116, 111, 114, 105, 110, 103, 32, 111, 98, 106, 101, 99, 116]
def zZ (verb : Int) : Bool := decide (verb ≠ 8 ∧ verb ≠ 9)
def Mo.ou (M : Mo) (c : eA) (k : List UInt8) (old : Option Nat) : Option (List UInt8 × Nat × Nat) :=
 if zZ c.verb = true then some (c.data, c.fl, mX M.k.now c.ex) else match old with
 | none => none
 | some p => if M.v.c.lim < 58 + k.length + c.data.length + (M.it p).val.length then none else some (if c.verb = 8 then (M.it p).val ++ c.data else c.data ++ (M.it p).val, (M.it p).fl, (M.it p).exp)
def Mo.lays (M : Mo) (k : List UInt8) (old : Option Nat) (ov : Bool) (x : List UInt8 × Nat × Nat) : eH × Mo := match M.room (58 + k.length + x.1.length) old with
 | (none, R) => (.t iJ, R.over old ov)
 | (some r, R) => (.k 1, R.eX r old ⟨k, x.1, x.2.1, x.2.2, R.k.now, R.v.bm + 1, 0⟩)
def Mo.gP (M : Mo) (c : eA) (k : List UInt8) (old : Option Nat) : eH × Mo :=
 if c.lg = true ∨ M.v.c.lim < 58 + k.length + c.data.length then (.t dm, M.over old (zZ c.verb))
 else if aP c.verb c.tok old (fun p => (M.it p).tok) ≠ 0 then (.k (aP c.verb c.tok old (fun p => (M.it p).tok)), M)
 else match M.ou c k old with
  | none => (.t dm, M)
  | some x => M.lays k old (zZ c.verb) x
def Mo.cG (M : Mo) (c : eA) (k : List UInt8) : eH × Mo := (M.meet k).2.gP c k (M.meet k).1
theorem bT.kdM {B : Bx} {M : Mo} (O : bT B M) {p q : Nat} (hp : M.has p) (hq : M.has q) (e : (M.it p).key = (M.it q).key) : p = q := by
 have h1 := (O.al p).2 hp
 have h2 := (O.al q).2 hq
 refine O.t.kd p h1 q h2 ?_
 rw [(O.lM h1).2.2.2.2.1, (O.lM h2).2.2.2.2.1]; exact e
theorem DI {M : Mo} {k : List UInt8} (h : ∀ p, M.has p → (M.it p).key ≠ k) : M.find k = none := by
 unfold Mo.find
 rw [List.find?_eq_none]
 intro p hp e
 exact h p (eD.1 hp) (by simpa using e)
theorem O8 {M : Mo} {k : List UInt8} (h : M.find k = none) {p : Nat} (hp : M.has p) : (M.it p).key ≠ k := fun e => by
 unfold Mo.find at h
 rw [List.find?_eq_none] at h
 exact h p (eD.2 hp) (decide_eq_true e)
theorem Zc {M N : Mo} (nd : ∀ i, (ql M.Q i).Nodup) (kd : ∀ p q, M.has p → M.has q → (M.it p).key = (M.it q).key → p = q) {k : List UInt8} {old : Option Nat} (h : M.meet k = (old, N)) : tW M.C old = tW N.C old ∧ (∀ p, old = some p → N.has p ∧ (N.it p).key = k) ∧ (old = none → N.find k = none) := by
 cases old with
 | some p =>
  obtain ⟨h1, h2, h3⟩ := Lr h
  subst h3
  exact ⟨rfl, fun q e => by cases e; exact ⟨h1, h2⟩, fun e => by cases e⟩
 | none =>
  refine ⟨rfl, fun q e => (by cases e), fun _ => ?_⟩
  unfold Mo.meet at h
  cases hf : M.find k with
  | none =>
   rw [hf] at h
   simp only [Prod.mk.injEq, true_and] at h
   subst h
   exact hf
  | some p =>
   rw [hf] at h
   dsimp only at h
   obtain ⟨hp, hk⟩ := ky hf
   split at h
   ·simp only [Prod.mk.injEq, true_and] at h
    subst h
    refine DI fun q hq e => ?_
    obtain ⟨h1, h2⟩ := (C1 nd).1 hq
    exact h2 (kd _ _ h1 hp (e.trans hk.symm))
   simp at h
theorem bT.valL {B : Bx} {M : Mo} (O : bT B M) {p : Nat} (hp : M.has p) : (M.it p).val.length ≤ 1048576 ∧ (M.it p).fl < 4294967296 ∧ (M.it p).exp < 9223372036854775808 ∧ (M.it p).key.length ≤ 250 := by
 have h1 := (O.al p).2 hp
 obtain ⟨f1, f2, f3, f4, f5, f6, f7⟩ := O.lM h1
 have I := O.t.it p h1
 have h2 := ((O.qp h1).bh O.k).2.2.1
 have h3 := O.k.toFix.p1
 have h4 := I.fits
 have h5 : (M.it p).val.length = vl B.C.A p := by rw [← f6]; exact cS _ _ _
 have h6 : Su B.C.A p < 256 ^ 4 := lX _ _ _
 have h7 : Ni B.C.A p < 9223372036854775808 := I.exp
 have h8 := (iP (O.lg p h1)).2
 refine ⟨by omega, by rw [← f7]; exact h6, by rw [← f1]; exact h7, h8⟩
theorem inSW {z : Ly} {M : Mo} {h : Hp} (i : In (SW z M) h) : In (iN z.y.ck M.k) h := by
 obtain ⟨k, ⟨w, B, O, s⟩, l⟩ := i
 have := (bU (H := gp z B (M.aQ w.1 w.2)) s l).nth 9 rfl
 exact this
theorem jd (z : Ly) (M : Mo) : aL Tryz.prog 46 [.pointer (some ⟨z.y.ck, 0, none⟩)] (In (SW z M)) [] (fun v H => v = .int .i64 (M.k.now : Int) ∧ H = []) :=
 fun F w hp s => kD z.y.ck M.k F w (inSW hp) s
theorem EL (z : Ly) (M : Mo) (c : eA) (ka : Option Addr) (kc : Nat) (da : Option Addr) (dc : Nat) (mv : Value) (uh : mv.oneCell' = true) (x4 : 0 < M.C.spare) (k : List UInt8) (r : List (List UInt8)) (Nv : c.keys = k :: r) (hk : dS k = true) (hw : M.jX.length < 1073741824) (hex : c.ex < 9223372036854775808) (uD : c.fl < 4294967296) (hda : c.data.length < 281474976710656)
  (hh : M.hole = none) (jA : M.m.st < 4611686018427387904) (NW : M.v.c.lim ≤ 1048576) (we : M.v.bm + 1 < 18446744073709551616) (M5 : M.tn < 18446744073709551615) :
  XO Tryz.prog 77 [.pointer (some ⟨z.s, 0, none⟩), .agg (gW c ka kc da dc mv).toArray] (fun h => fK h ka (qt c.keys) ∧ fK h da (aq c.data)) [SW z M]
   (fun v H => ∃ a N, M.cG c k = (a, N) ∧ v = x8 a ∧ H = [SW z N]) (fun v H => ∃ a N, M.cG c k = (a, N) ∧ v = si (x8 a) ∧ H = [SW z N]) := by
 obtain ⟨hk0, Zm⟩ := iP hk
 refine te Tryz.func77 rfl Tryz.ntmps77 rfl ?_
 rintro F ⟨hr, hd⟩
 have Hk : (qt c.keys)[0]? = some (bC k) := by rw [Nv]; rfl
 have hsm : ka.isSome = true := by obtain ⟨ad, e, _⟩ := hr 0 _ Hk; rw [e]; rfl
 have Hi : 0 < c.keys.length := by rw [Nv]; exact Nat.succ_pos _
 refine aD ?_
 refine Lp (oB fun b1 => ?_)
 refine Lp (oA T.qq fun b2 => ?_)
 refine aD ?_
 refine Hh (H' := [SW z M, af b1 47 (gW c ka kc da dc mv), af b2 41 [.int .i64 0, cM, .int .u64 0, bC [], cM]]) ?_
 refine qx fun wa wc B O => ?_
 refine bL ?_
 refine Li (Ix (j := 0) T.Cq) ?_
 refine bE ?_
 refine zl T.VO (KE z M k (by omega) hw) (.cons .here .nil) (fun _ _ _ => trivial) ?_
 rcases hm : M.meet k with ⟨old, N⟩
 have Sa : M.cG c k = N.gP c k old := by unfold Mo.cG; rw [hm]
 obtain ⟨e1, e2, e3⟩ := Zc (M := M) O.o.nd (fun p q => O.kdM) hm
 change tW M.C old = tW N.C old at e1
 change ∀ p, old = some p → N.has p ∧ (N.it p).key = k at e2
 change old = none → N.find k = none at e3
 have hNv : N.v.c = M.v.c ∧ N.v.bm = M.v.bm ∧ N.tn = M.tn ∧ N.hole = M.hole ∧ N.m.st = M.m.st := by
  unfold Mo.meet at hm
  rcases hf : M.find k with _ | p <;> rw [hf] at hm
  ·simp only [Prod.mk.injEq] at hm; obtain ⟨_, rfl⟩ := hm; exact ⟨rfl, rfl, rfl, rfl, rfl⟩
  dsimp only at hm
  split at hm <;> (simp only [Prod.mk.injEq] at hm; obtain ⟨_, rfl⟩ := hm; exact ⟨rfl, rfl, rfl, rfl, rfl⟩)
 obtain ⟨n1, n2, n3, n4, n5⟩ := hNv
 have hsN : N.C.spare = M.C.spare := by
  have h := (Ev.meet M k).g.sp
  rw [hm] at h
  exact h
 dsimp only
 rw [e1]
 have hold : ∀ p, old = some p → N.has p := fun p e => (e2 p e).1
 refine qx fun wa2 wc2 B2 O2 => ?_
 refine bw ?_
 refine ay ?_
 refine cR (ι := Bool) [20, 21, 22, 23, 24, 25, 26, 27, 7] (fun ov => ov = zZ c.verb) (fun ov => [(7, .bool ov)]) (fun ov => [SW z N, af b1 47 (gW c ka kc da dc mv), af b2 41 [.int .i64 0, cM, .int .u64 0, bC [], cM]]) ?_ ?_
 ·refine fE ?_
  refine bb ?_
  refine aJ (t := 23) rfl ?_ ?_
  ·intro cK
   replace cK := aF cK
   refine bq ?_
   refine aB ?_
   refine Me (zZ c.verb) (rfl) (hs := ⟨(by refine congrArg (fun q => some (Value.bool q)) ?_; unfold zZ; rw [Bool.eq_iff_iff]; simp only [Bool.not_eq_true', decide_eq_false_iff_not, decide_eq_true_eq, Bool.false_eq_true, true_iff, false_iff, iff_true, iff_false]; try omega), trivial⟩)
  intro cK
  replace cK := aF cK
  refine bq ?_
  refine aB ?_
  refine Me (zZ c.verb) (rfl) (hs := ⟨(by refine congrArg (fun q => some (Value.bool q)) ?_; unfold zZ; rw [Bool.eq_iff_iff]; simp only [Bool.not_eq_true', decide_eq_false_iff_not, decide_eq_true_eq, Bool.false_eq_true, true_iff, false_iff, iff_true, iff_false]; try omega), trivial⟩)
 rintro ov hI
 subst hI
 generalize Xk : zZ c.verb = ov at *
 have vU : N.gP c k old = if c.lg = true ∨ N.v.c.lim < 58 + k.length + c.data.length then (.t dm, N.over old ov) else if aP c.verb c.tok old (fun p => (N.it p).tok) ≠ 0 then (.k (aP c.verb c.tok old (fun p => (N.it p).tok)), N) else match N.ou c k old with | none => (.t dm, N) | some x => N.lays k old ov x := by unfold Mo.gP; rw [Xk]
 have hs4 : (c.lg = true ∨ N.v.c.lim < 58 + k.length + c.data.length) → M.cG c k = (.t dm, N.over old ov) := fun h => by rw [Sa, vU, if_pos h]
 refine bw ?_
 refine Li (Ls T.qW) ?_
 refine bO ?_
 refine ay ?_
 refine cR (ι := Unit) [35, 36, 37, 38, 39, 40, 41, 42, 43, 44, 45, 46, 47, 48, 49] (fun u => ¬ (c.lg = true ∨ N.v.c.lim < 58 + k.length + c.data.length)) (fun u => []) (fun u => [SW z N, af b1 47 (gW c ka kc da dc mv), af b2 41 [.int .i64 0, cM, .int .u64 0, bC [], cM]]) ?_ ?_
 ·refine iS ?_
  refine bL ?_
  refine aJ (t := 37) rfl ?_ ?_
  ·intro cK
   replace cK := aF cK
   refine gg ?_
   refine Lp (W6 T.Bb rfl rfl (jV z N old hold ov dm) (.cons .here .nil) (fun _ _ _ => trivial) (by rintro v H' ⟨rfl, rfl⟩; exact pP [SW z (N.over old ov)] ⟨.t dm, _, hs4 (by first | exact .inl (by assumption) | exact .inr (by omega)), rfl, rfl⟩) ?_)
   rintro v H' hF
   exact hF.elim
  intro cK
  replace cK := aF cK
  refine cY ?_
  refine au rfl ?_ ?_
  ·intro cL
   replace cL := aF cL
   refine bb ?_
   refine Lp (W6 T.Bb rfl rfl (jV z N old hold ov dm) (.cons .here .nil) (fun _ _ _ => trivial) (by rintro v H' ⟨rfl, rfl⟩; exact pP [SW z (N.over old ov)] ⟨.t dm, _, hs4 (by first | exact .inl (by assumption) | exact .inr (by omega)), rfl, rfl⟩) ?_)
   rintro v H' hF
   exact hF.elim
  intro cL
  replace cL := aF cL
  refine aD ?_
  refine Me (()) ((by rintro (h | h) <;> first | omega | (simp_all; done)))
 rintro u hI
 rw [if_neg hI] at vU
 have hle : (58 + k.length + c.data.length : Int) ≤ N.v.c.lim := by omega
 have hd20 : 58 + k.length + c.data.length ≤ 1048576 := by rw [n1] at hle; omega
 refine bb ?_
 refine Lp (W6 T.VL rfl rfl (Qz z N c ka kc da dc mv uh old hold) (.cons .here .nil) (fun _ _ _ => trivial) (by rintro v H' ⟨n, hn, hn0, rfl, rfl⟩; exact pP [SW z N] ⟨.k n, N, by rw [Sa, vU, if_pos (by rw [hn]; exact hn0), hn], rfl, rfl⟩) ?_)
 rintro v H' ⟨hn, rfl, rfl⟩
 refine bo ?_
 rw [if_neg (by rw [hn]; decide)] at vU
 have Sg : N.k.now ≤ 1099511627776 ∧ 1 ≤ N.k.now := ⟨O2.ck.n2, O2.ck.n1⟩
 have uF := GX N.k.now c.ex Sg.2 Sg.1
 rw [Ml] at uF
 refine aD ?_
 refine ay ?_
 refine cR (ι := Nat × Nat × Option Addr × Nat × Nat) [54, 55, 56, 57, 58, 59, 60, 61, 62, 63, 64, 65, 66, 67, 68, 69, 70, 9] (fun s => True) (fun s => [(9, .pointer (some ⟨s.2.2.2.2, 0, none⟩))]) (fun s => [SW z N, af b1 47 (gW c ka kc da dc mv), af b2 41 [.int .i64 0, cM, .int .u64 0, bC [], cM], own (some ⟨s.1, 0, none⟩) s.2.1 5 1 (aq k), own s.2.2.1 s.2.2.2.1 5 1 (aq c.data), af s.2.2.2.2 170 (Cg (.slice (some ⟨s.1, 0, none⟩) k.length s.2.1) (.slice s.2.2.1 c.data.length s.2.2.2.1) c.fl (mX N.k.now c.ex) 0 0 0 0)]) ?_ ?_
 ·refine yn T.mix (.cons .here (.cons .here .nil)) fun F1 kN cT aU => ?_
  obtain ⟨q1, q2, _⟩ := cT
  refine Dt 0 rfl Mv ?_
  refine Dt 2 rfl (Fa T.y5) ?_
  first
   | refine Dt 3 rfl (Lf T.yc) ?_
   | refine Dt 3 rfl (WW T.yc q1) ?_
  refine Dt 5 rfl (Fa T.y6) ?_
  first
   | refine Dt 6 rfl (Lf T.HY) ?_
   | refine Dt 6 rfl (WW T.HY q1) ?_
  refine Dt 7 rfl Mv ?_
  refine Dt 8 rfl Nc ?_
  refine Dt 9 rfl (Fa T.iQ) ?_
  refine Dt 10 rfl (Fa T.vN) ?_
  first
   | refine Dt 11 rfl (Lf T.AJ) ?_
   | refine Dt 11 rfl (WW T.AJ q1) ?_
  refine Dt 13 rfl (Fa T.LZ) ?_
  first
   | refine Dt 14 rfl (Lf T.eL) ?_
   | refine Dt 14 rfl (WW T.eL q1) ?_
  refine D3 1 4 17 ?_ ?_ ?_
  ·refine Do rfl (xB T.qW T.jx T.og fun kb j6 od => ?_)
   refine aD ?_
   refine D2 4 17 ?_ ?_
   ·refine cE 5 1 ?_
    refine Do rfl (fY T.iX T.r9 rfl rfl rfl rfl .here (rfl) (eF (m := c.data.length) (by simp) (fun h le _ => hd.mono (kN.trans le))) (by first | exact eo | (simp [Value.oneCell', bC])) (by first | omega | (simp; omega)) (by first | omega | (simp; omega)) rfl fun va vc hvc => ?_)
    refine aD ?_
    refine D2 12 17 ?_ ?_
    ·refine Do rfl (oC T.iF rfl rfl (jd z N) .nil (fun _ le _ => In.mono q1 le) ?_)
     rintro v H' ⟨rfl, rfl⟩
     refine bo ?_
     refine aD ?_
     refine D2 15 17 ?_ ?_
     ·refine Do rfl (oC T.eh rfl rfl (uF) .nil (fun _ _ _ => trivial) ?_)
      rintro v H' ⟨rfl, rfl⟩
      refine bo ?_
      refine aD ?_
      refine Dt 16 rfl (Bd T.bA T.dE) ?_
      refine Dn 17 ?_
      refine Do rfl (oA T.bA fun b3 => ?_)
      refine aD ?_
      refine Dn 18 ?_
      refine Do rfl (j5 T.cU ?_)
      refine aD ?_
      refine br (by kernel_rfl) aU ?_
      simp only [Nat.zero_add]
      refine Me ((kb, j6, va, vc, b3)) (trivial)
     refine Do rfl (oA T.bA fun b4 => ?_)
     refine aD ?_
     refine Dn 15 ?_
     refine Do rfl (oC T.eh rfl rfl (uF) .nil (fun _ _ _ => trivial) ?_)
     rintro v H' ⟨rfl, rfl⟩
     refine bo ?_
     refine aD ?_
     refine Dt 16 rfl (Bd T.bA T.dE) ?_
     refine Dn 18 ?_
     refine Do rfl (j5 T.cU ?_)
     refine aD ?_
     refine br (by kernel_rfl) aU ?_
     simp only [Nat.zero_add]
     refine Me ((kb, j6, va, vc, b4)) (trivial)
    refine Do rfl (oA T.bA fun b5 => ?_)
    refine aD ?_
    refine Dn 12 ?_
    refine Do rfl (oC T.iF rfl rfl (jd z N) .nil (fun _ le _ => In.mono q1 le) ?_)
    rintro v H' ⟨rfl, rfl⟩
    refine bo ?_
    refine aD ?_
    refine Dn 15 ?_
    refine Do rfl (oC T.eh rfl rfl (uF) .nil (fun _ _ _ => trivial) ?_)
    rintro v H' ⟨rfl, rfl⟩
    refine bo ?_
    refine aD ?_
    refine Dt 16 rfl (Bd T.bA T.dE) ?_
    refine Dn 18 ?_
    refine Do rfl (j5 T.cU ?_)
    refine aD ?_
    refine br (by kernel_rfl) aU ?_
    simp only [Nat.zero_add]
    refine Me ((kb, j6, va, vc, b5)) (trivial)
   refine Do rfl (oA T.bA fun b6 => ?_)
   refine aD ?_
   refine cE 5 1 ?_
   refine Dn 4 ?_
   refine Do rfl (fY T.iX T.r9 rfl rfl rfl rfl .here (rfl) (eF (m := c.data.length) (by simp) (fun h le _ => hd.mono (kN.trans le))) (by first | exact eo | (simp [Value.oneCell', bC])) (by first | omega | (simp; omega)) (by first | omega | (simp; omega)) rfl fun va vc hvc => ?_)
   refine aD ?_
   refine Dn 12 ?_
   refine Do rfl (oC T.iF rfl rfl (jd z N) .nil (fun _ le _ => In.mono q1 le) ?_)
   rintro v H' ⟨rfl, rfl⟩
   refine bo ?_
   refine aD ?_
   refine Dn 15 ?_
   refine Do rfl (oC T.eh rfl rfl (uF) .nil (fun _ _ _ => trivial) ?_)
   rintro v H' ⟨rfl, rfl⟩
   refine bo ?_
   refine aD ?_
   refine Dt 16 rfl (Bd T.bA T.dE) ?_
   refine Dn 18 ?_
   refine Do rfl (j5 T.cU ?_)
   refine aD ?_
   refine br (by kernel_rfl) aU ?_
   simp only [Nat.zero_add]
   refine Me ((kb, j6, va, vc, b6)) (trivial)
  ·refine cE 5 1 ?_
   refine Do rfl (fY T.iX T.r9 rfl rfl rfl rfl .here (rfl) (eF (m := c.data.length) (by simp) (fun h le _ => hd.mono (kN.trans le))) (by first | exact eo | (simp [Value.oneCell', bC])) (by first | omega | (simp; omega)) (by first | omega | (simp; omega)) rfl fun va vc hvc => ?_)
   refine aD ?_
   refine D3 1 12 17 ?_ ?_ ?_
   ·refine Do rfl (xB T.qW T.jx T.og fun kb j6 od => ?_)
    refine aD ?_
    refine D2 12 17 ?_ ?_
    ·refine Do rfl (oC T.iF rfl rfl (jd z N) .nil (fun _ le _ => In.mono q1 le) ?_)
     rintro v H' ⟨rfl, rfl⟩
     refine bo ?_
     refine aD ?_
     refine D2 15 17 ?_ ?_
     ·refine Do rfl (oC T.eh rfl rfl (uF) .nil (fun _ _ _ => trivial) ?_)
      rintro v H' ⟨rfl, rfl⟩
      refine bo ?_
      refine aD ?_
      refine Dt 16 rfl (Bd T.bA T.dE) ?_
      refine Dn 17 ?_
      refine Do rfl (oA T.bA fun b7 => ?_)
      refine aD ?_
      refine Dn 18 ?_
      refine Do rfl (j5 T.cU ?_)
      refine aD ?_
      refine br (by kernel_rfl) aU ?_
      simp only [Nat.zero_add]
      refine Me ((kb, j6, va, vc, b7)) (trivial)
     refine Do rfl (oA T.bA fun b8 => ?_)
     refine aD ?_
     refine Dn 15 ?_
     refine Do rfl (oC T.eh rfl rfl (uF) .nil (fun _ _ _ => trivial) ?_)
     rintro v H' ⟨rfl, rfl⟩
     refine bo ?_
     refine aD ?_
     refine Dt 16 rfl (Bd T.bA T.dE) ?_
     refine Dn 18 ?_
     refine Do rfl (j5 T.cU ?_)
     refine aD ?_
     refine br (by kernel_rfl) aU ?_
     simp only [Nat.zero_add]
     refine Me ((kb, j6, va, vc, b8)) (trivial)
    refine Do rfl (oA T.bA fun b9 => ?_)
    refine aD ?_
    refine Dn 12 ?_
    refine Do rfl (oC T.iF rfl rfl (jd z N) .nil (fun _ le _ => In.mono q1 le) ?_)
    rintro v H' ⟨rfl, rfl⟩
    refine bo ?_
    refine aD ?_
    refine Dn 15 ?_
    refine Do rfl (oC T.eh rfl rfl (uF) .nil (fun _ _ _ => trivial) ?_)
    rintro v H' ⟨rfl, rfl⟩
    refine bo ?_
    refine aD ?_
    refine Dt 16 rfl (Bd T.bA T.dE) ?_
    refine Dn 18 ?_
    refine Do rfl (j5 T.cU ?_)
    refine aD ?_
    refine br (by kernel_rfl) aU ?_
    simp only [Nat.zero_add]
    refine Me ((kb, j6, va, vc, b9)) (trivial)
   ·refine Do rfl (oC T.iF rfl rfl (jd z N) .nil (fun _ le _ => In.mono q1 le) ?_)
    rintro v H' ⟨rfl, rfl⟩
    refine bo ?_
    refine aD ?_
    refine D3 1 15 17 ?_ ?_ ?_
    ·refine Do rfl (xB T.qW T.jx T.og fun kb j6 od => ?_)
     refine aD ?_
     refine D2 15 17 ?_ ?_
     ·refine Do rfl (oC T.eh rfl rfl (uF) .nil (fun _ _ _ => trivial) ?_)
      rintro v H' ⟨rfl, rfl⟩
      refine bo ?_
      refine aD ?_
      refine Dt 16 rfl (Bd T.bA T.dE) ?_
      refine Dn 17 ?_
      refine Do rfl (oA T.bA fun b10 => ?_)
      refine aD ?_
      refine Dn 18 ?_
      refine Do rfl (j5 T.cU ?_)
      refine aD ?_
      refine br (by kernel_rfl) aU ?_
      simp only [Nat.zero_add]
      refine Me ((kb, j6, va, vc, b10)) (trivial)
     refine Do rfl (oA T.bA fun b11 => ?_)
     refine aD ?_
     refine Dn 15 ?_
     refine Do rfl (oC T.eh rfl rfl (uF) .nil (fun _ _ _ => trivial) ?_)
     rintro v H' ⟨rfl, rfl⟩
     refine bo ?_
     refine aD ?_
     refine Dt 16 rfl (Bd T.bA T.dE) ?_
     refine Dn 18 ?_
     refine Do rfl (j5 T.cU ?_)
     refine aD ?_
     refine br (by kernel_rfl) aU ?_
     simp only [Nat.zero_add]
     refine Me ((kb, j6, va, vc, b11)) (trivial)
    ·refine Do rfl (oC T.eh rfl rfl (uF) .nil (fun _ _ _ => trivial) ?_)
     rintro v H' ⟨rfl, rfl⟩
     refine bo ?_
     refine aD ?_
     refine D2 1 17 ?_ ?_
     ·refine Do rfl (xB T.qW T.jx T.og fun kb j6 od => ?_)
      refine aD ?_
      refine Dt 16 rfl (Bd T.bA T.dE) ?_
      refine Dn 17 ?_
      refine Do rfl (oA T.bA fun b12 => ?_)
      refine aD ?_
      refine Dn 18 ?_
      refine Do rfl (j5 T.cU ?_)
      refine aD ?_
      refine br (by kernel_rfl) aU ?_
      simp only [Nat.zero_add]
      refine Me ((kb, j6, va, vc, b12)) (trivial)
     refine Do rfl (oA T.bA fun b13 => ?_)
     refine aD ?_
     refine Dn 1 ?_
     refine Do rfl (xB T.qW T.jx T.og fun kb j6 od => ?_)
     refine aD ?_
     refine Dt 16 rfl (Bd T.bA T.dE) ?_
     refine Dn 18 ?_
     refine Do rfl (j5 T.cU ?_)
     refine aD ?_
     refine br (by kernel_rfl) aU ?_
     simp only [Nat.zero_add]
     refine Me ((kb, j6, va, vc, b13)) (trivial)
    refine Do rfl (oA T.bA fun b14 => ?_)
    refine aD ?_
    refine D2 1 15 ?_ ?_
    ·refine Do rfl (xB T.qW T.jx T.og fun kb j6 od => ?_)
     refine aD ?_
     refine Dn 15 ?_
     refine Do rfl (oC T.eh rfl rfl (uF) .nil (fun _ _ _ => trivial) ?_)
     rintro v H' ⟨rfl, rfl⟩
     refine bo ?_
     refine aD ?_
     refine Dt 16 rfl (Bd T.bA T.dE) ?_
     refine Dn 18 ?_
     refine Do rfl (j5 T.cU ?_)
     refine aD ?_
     refine br (by kernel_rfl) aU ?_
     simp only [Nat.zero_add]
     refine Me ((kb, j6, va, vc, b14)) (trivial)
    refine Do rfl (oC T.eh rfl rfl (uF) .nil (fun _ _ _ => trivial) ?_)
    rintro v H' ⟨rfl, rfl⟩
    refine bo ?_
    refine aD ?_
    refine Dn 1 ?_
    refine Do rfl (xB T.qW T.jx T.og fun kb j6 od => ?_)
    refine aD ?_
    refine Dt 16 rfl (Bd T.bA T.dE) ?_
    refine Dn 18 ?_
    refine Do rfl (j5 T.cU ?_)
    refine aD ?_
    refine br (by kernel_rfl) aU ?_
    simp only [Nat.zero_add]
    refine Me ((kb, j6, va, vc, b14)) (trivial)
   refine Do rfl (oA T.bA fun b15 => ?_)
   refine aD ?_
   refine D2 1 12 ?_ ?_
   ·refine Do rfl (xB T.qW T.jx T.og fun kb j6 od => ?_)
    refine aD ?_
    refine Dn 12 ?_
    refine Do rfl (oC T.iF rfl rfl (jd z N) .nil (fun _ le _ => In.mono q1 le) ?_)
    rintro v H' ⟨rfl, rfl⟩
    refine bo ?_
    refine aD ?_
    refine Dn 15 ?_
    refine Do rfl (oC T.eh rfl rfl (uF) .nil (fun _ _ _ => trivial) ?_)
    rintro v H' ⟨rfl, rfl⟩
    refine bo ?_
    refine aD ?_
    refine Dt 16 rfl (Bd T.bA T.dE) ?_
    refine Dn 18 ?_
    refine Do rfl (j5 T.cU ?_)
    refine aD ?_
    refine br (by kernel_rfl) aU ?_
    simp only [Nat.zero_add]
    refine Me ((kb, j6, va, vc, b15)) (trivial)
   refine Do rfl (oC T.iF rfl rfl (jd z N) .nil (fun _ le _ => In.mono q1 le) ?_)
   rintro v H' ⟨rfl, rfl⟩
   refine bo ?_
   refine aD ?_
   refine D2 1 15 ?_ ?_
   ·refine Do rfl (xB T.qW T.jx T.og fun kb j6 od => ?_)
    refine aD ?_
    refine Dn 15 ?_
    refine Do rfl (oC T.eh rfl rfl (uF) .nil (fun _ _ _ => trivial) ?_)
    rintro v H' ⟨rfl, rfl⟩
    refine bo ?_
    refine aD ?_
    refine Dt 16 rfl (Bd T.bA T.dE) ?_
    refine Dn 18 ?_
    refine Do rfl (j5 T.cU ?_)
    refine aD ?_
    refine br (by kernel_rfl) aU ?_
    simp only [Nat.zero_add]
    refine Me ((kb, j6, va, vc, b15)) (trivial)
   refine Do rfl (oC T.eh rfl rfl (uF) .nil (fun _ _ _ => trivial) ?_)
   rintro v H' ⟨rfl, rfl⟩
   refine bo ?_
   refine aD ?_
   refine Dn 1 ?_
   refine Do rfl (xB T.qW T.jx T.og fun kb j6 od => ?_)
   refine aD ?_
   refine Dt 16 rfl (Bd T.bA T.dE) ?_
   refine Dn 18 ?_
   refine Do rfl (j5 T.cU ?_)
   refine aD ?_
   refine br (by kernel_rfl) aU ?_
   simp only [Nat.zero_add]
   refine Me ((kb, j6, va, vc, b15)) (trivial)
  refine Do rfl (oA T.bA fun b16 => ?_)
  refine aD ?_
  refine D2 1 4 ?_ ?_
  ·refine Do rfl (xB T.qW T.jx T.og fun kb j6 od => ?_)
   refine aD ?_
   refine cE 5 1 ?_
   refine Dn 4 ?_
   refine Do rfl (fY T.iX T.r9 rfl rfl rfl rfl .here (rfl) (eF (m := c.data.length) (by simp) (fun h le _ => hd.mono (kN.trans le))) (by first | exact eo | (simp [Value.oneCell', bC])) (by first | omega | (simp; omega)) (by first | omega | (simp; omega)) rfl fun va vc hvc => ?_)
   refine aD ?_
   refine Dn 12 ?_
   refine Do rfl (oC T.iF rfl rfl (jd z N) .nil (fun _ le _ => In.mono q1 le) ?_)
   rintro v H' ⟨rfl, rfl⟩
   refine bo ?_
   refine aD ?_
   refine Dn 15 ?_
   refine Do rfl (oC T.eh rfl rfl (uF) .nil (fun _ _ _ => trivial) ?_)
   rintro v H' ⟨rfl, rfl⟩
   refine bo ?_
   refine aD ?_
   refine Dt 16 rfl (Bd T.bA T.dE) ?_
   refine Dn 18 ?_
   refine Do rfl (j5 T.cU ?_)
   refine aD ?_
   refine br (by kernel_rfl) aU ?_
   simp only [Nat.zero_add]
   refine Me ((kb, j6, va, vc, b16)) (trivial)
  refine cE 5 1 ?_
  refine Do rfl (fY T.iX T.r9 rfl rfl rfl rfl .here (rfl) (eF (m := c.data.length) (by simp) (fun h le _ => hd.mono (kN.trans le))) (by first | exact eo | (simp [Value.oneCell', bC])) (by first | omega | (simp; omega)) (by first | omega | (simp; omega)) rfl fun va vc hvc => ?_)
  refine aD ?_
  refine D2 1 12 ?_ ?_
  ·refine Do rfl (xB T.qW T.jx T.og fun kb j6 od => ?_)
   refine aD ?_
   refine Dn 12 ?_
   refine Do rfl (oC T.iF rfl rfl (jd z N) .nil (fun _ le _ => In.mono q1 le) ?_)
   rintro v H' ⟨rfl, rfl⟩
   refine bo ?_
   refine aD ?_
   refine Dn 15 ?_
   refine Do rfl (oC T.eh rfl rfl (uF) .nil (fun _ _ _ => trivial) ?_)
   rintro v H' ⟨rfl, rfl⟩
   refine bo ?_
   refine aD ?_
   refine Dt 16 rfl (Bd T.bA T.dE) ?_
   refine Dn 18 ?_
   refine Do rfl (j5 T.cU ?_)
   refine aD ?_
   refine br (by kernel_rfl) aU ?_
   simp only [Nat.zero_add]
   refine Me ((kb, j6, va, vc, b16)) (trivial)
  refine Do rfl (oC T.iF rfl rfl (jd z N) .nil (fun _ le _ => In.mono q1 le) ?_)
  rintro v H' ⟨rfl, rfl⟩
  refine bo ?_
  refine aD ?_
  refine D2 1 15 ?_ ?_
  ·refine Do rfl (xB T.qW T.jx T.og fun kb j6 od => ?_)
   refine aD ?_
   refine Dn 15 ?_
   refine Do rfl (oC T.eh rfl rfl (uF) .nil (fun _ _ _ => trivial) ?_)
   rintro v H' ⟨rfl, rfl⟩
   refine bo ?_
   refine aD ?_
   refine Dt 16 rfl (Bd T.bA T.dE) ?_
   refine Dn 18 ?_
   refine Do rfl (j5 T.cU ?_)
   refine aD ?_
   refine br (by kernel_rfl) aU ?_
   simp only [Nat.zero_add]
   refine Me ((kb, j6, va, vc, b16)) (trivial)
  refine Do rfl (oC T.eh rfl rfl (uF) .nil (fun _ _ _ => trivial) ?_)
  rintro v H' ⟨rfl, rfl⟩
  refine bo ?_
  refine aD ?_
  refine Dn 1 ?_
  refine Do rfl (xB T.qW T.jx T.og fun kb j6 od => ?_)
  refine aD ?_
  refine Dt 16 rfl (Bd T.bA T.dE) ?_
  refine Dn 18 ?_
  refine Do rfl (j5 T.cU ?_)
  refine aD ?_
  refine br (by kernel_rfl) aU ?_
  simp only [Nat.zero_add]
  refine Me ((kb, j6, va, vc, b16)) (trivial)
 rintro ⟨kb, j6, va, vc, b9⟩ hI
 dsimp only
 refine ay ?_
 refine cR (ι := List UInt8 × Nat × Nat × Option Addr × Nat) [71, 72, 74, 75, 76, 77, 78, 79, 80, 73, 81, 82, 10, 11, 83, 84, 85, 86, 87, 88, 89, 90, 91, 92, 93, 94, 95, 96, 97, 98, 99, 100, 101, 102, 103, 104, 105, 106, 107, 108, 109, 110, 111, 112, 113, 114, 115, 116] (fun s => N.ou c k old = some (s.1, s.2.1, s.2.2.1) ∧ 58 + k.length + s.1.length ≤ 1048576 ∧ s.2.1 < 4294967296 ∧ s.2.2.1 < 9223372036854775808) (fun s => []) (fun s => [SW z N, af b1 47 (gW c ka kc da dc mv), af b2 41 [.int .i64 0, cM, .int .u64 0, bC [], cM], own (some ⟨kb, 0, none⟩) j6 5 1 (aq k), own s.2.2.2.1 s.2.2.2.2 5 1 (aq s.1), af b9 170 (Cg (.slice (some ⟨kb, 0, none⟩) k.length j6) (.slice s.2.2.2.1 s.1.length s.2.2.2.2) s.2.1 s.2.2.1 0 0 0 0)]) ?_ ?_
 ·rcases ov with _ | _
  ·refine iS ?_
   refine bb ?_
   cases old with
   | none =>
    exfalso
    have h89 : c.verb = 8 ∨ c.verb = 9 := by unfold zZ at Xk; have := of_decide_eq_false Xk; omega
    unfold aP at hn
    rw [if_neg (by omega), if_pos (by omega)] at hn
    cases hn
   | some p =>
   have hp := hold p rfl
   obtain ⟨v1, v2, v3, v4⟩ := O2.valL (p := p) hp
   change (N.it p).val.length ≤ _ at v1
   change (N.it p).fl < _ at v2
   change (N.it p).exp < _ at v3
   refine bO ?_
   refine Lp (oC T.Ic rfl rfl (EH z N p hp) (.cons .here .nil) (fun _ _ _ => trivial) ?_)
   rintro v H' ⟨H0, ⟨kb2, vb2, st2, QJ, hs2', hs3', rfl, rfl⟩, rfl⟩
   refine bo ?_
   refine bL ?_
   refine Lp (oA T.bA fun b17 => ?_)
   refine Lp (j5 T.cU ?_ (h1 := by simp [Cg, Value.oneCell']))
   refine bw ?_
   refine ay ?_
   unfold Cg
   refine jC 8 T.mix (.cons .here .nil) fun F2 D1 eO eP => ?_
   obtain ⟨q3, _⟩ := eO
   refine cX ?_
   refine iC eP ?_
   refine aD ?_
   refine ay ?_
   simp only [Nat.zero_add]
   refine Hh (H' := [SW z N, af b1 47 (gW c ka kc da dc mv), af b2 41 [.int .i64 0, cM, .int .u64 0, bC [], cM], own (some ⟨kb, 0, none⟩) j6 5 1 (aq k), own va vc 5 1 (aq c.data), af b9 170 [.slice (some ⟨kb, 0, none⟩) k.length j6, .slice va c.data.length vc, .int .u64 ((N.it p).fl : Int), .int .i64 ((N.it p).exp : Int), .int .i64 0, .int .u64 0, .int .i64 0, .int .i64 0], own (some ⟨vb2, 0, none⟩) (N.it p).val.length 5 1 (aq (N.it p).val), af b17 170 [.slice (some ⟨kb2, 0, none⟩) (N.it p).key.length (N.it p).key.length, .slice (some ⟨vb2, 0, none⟩) (N.it p).val.length (N.it p).val.length, .int .u64 ((N.it p).fl : Int), .int .i64 ((N.it p).exp : Int), .int .i64 ((N.it p).tch : Int), .int .u64 ((N.it p).tok : Int), .int .i64 (st2 : Int), .int .i64 ((N.it p).du : Int)]]) ?_
   refine cR (ι := Option Addr × Nat) [89, 90, 91, 92, 93, 94, 95, 96, 97, 98, 99, 100, 101, 102, 103] (fun s => True) (fun s => []) (fun s => [SW z N, af b1 47 (gW c ka kc da dc mv), af b2 41 [.int .i64 0, cM, .int .u64 0, bC [], cM], own (some ⟨kb, 0, none⟩) j6 5 1 (aq k), own s.1 s.2 5 1 (aq (if c.verb = 8 then (N.it p).val ++ c.data else c.data ++ (N.it p).val)), af b9 170 [.slice (some ⟨kb, 0, none⟩) k.length j6, .slice s.1 (if c.verb = 8 then (N.it p).val ++ c.data else c.data ++ (N.it p).val).length s.2, .int .u64 ((N.it p).fl : Int), .int .i64 ((N.it p).exp : Int), .int .i64 0, .int .u64 0, .int .i64 0, .int .i64 0], af b17 170 [.slice (some ⟨kb2, 0, none⟩) (N.it p).key.length (N.it p).key.length, .slice (some ⟨vb2, 0, none⟩) (N.it p).val.length (N.it p).val.length, .int .u64 ((N.it p).fl : Int), .int .i64 ((N.it p).exp : Int), .int .i64 ((N.it p).tch : Int), .int .u64 ((N.it p).tok : Int), .int .i64 (st2 : Int), .int .i64 ((N.it p).du : Int)]]) ?_ ?_
   ·by_cases h8 : c.verb = 8
    ·rw [if_pos h8]
     refine bq ?_
     refine gK ?_ (e := by exact decide_eq_true h8)
     refine bq ?_
     refine Lp (fY T.iX T.r9 rfl rfl rfl rfl (.there (.there (.there (.there (.there (.there .here)))))) (by simp) (eF (m := c.data.length) (by simp) (fun h le av => bY (av.nth 4 rfl))) (by first | exact eo | (simp [Value.oneCell', bC])) (by first | omega | (simp; omega)) (by first | omega | (simp; omega)) rfl fun a6 c6 hc6 => ?_)
     refine bw ?_
     refine aB ?_
     rw [show aq (N.it p).val ++ aq c.data = aq ((N.it p).val ++ c.data) by unfold aq; rw [List.map_append], ← List.length_append]
     refine Me ((a6, c6)) (trivial)
    rw [if_neg h8]
    refine bq ?_
    refine dq ?_ (e := by exact decide_eq_false h8)
    refine bq ?_
    refine Lp (fY T.iX T.r9 rfl rfl rfl rfl (.there (.there (.there (.there .here)))) (by simp) (eF (m := (N.it p).val.length) (by simp) (fun h le av => bY (av.nth 6 rfl))) (by first | exact eo | (simp [Value.oneCell', bC])) (by first | omega | (simp; omega)) (by first | omega | (simp; omega)) rfl fun a6 c6 hc6 => ?_)
    refine bw ?_
    refine aB ?_
    rw [show aq c.data ++ aq (N.it p).val = aq (c.data ++ (N.it p).val) by unfold aq; rw [List.map_append], ← List.length_append]
    refine Me ((a6, c6)) (trivial)
   rintro ⟨a6, c6⟩ hI
   dsimp only
   have hvl : (if c.verb = 8 then (N.it p).val ++ c.data else c.data ++ (N.it p).val).length = c.data.length + (N.it p).val.length := by
    split <;> rw [List.length_append] <;> omega
   have hnw : N.ou c k (some p) = if N.v.c.lim < 58 + k.length + c.data.length + (N.it p).val.length then none else some (if c.verb = 8 then (N.it p).val ++ c.data else c.data ++ (N.it p).val, (N.it p).fl, (N.it p).exp) := by unfold Mo.ou; rw [Xk]; rfl
   generalize (if c.verb = 8 then (N.it p).val ++ c.data else c.data ++ (N.it p).val) = nv at *
   refine ay ?_
   refine jC 11 T.mix (.cons .here (.cons (.there (.there (.there (.there (.there .here))))) .nil)) fun F3 R7 rX fW => ?_
   obtain ⟨q4, q5, _⟩ := rX
   refine bw ?_
   first
    | refine Ti (Lf T.yc) ?_
    | refine Ti (WW T.yc q4) ?_
   refine bE ?_
   first
    | refine Ti (Lf T.eL) ?_
    | refine Ti (WW T.eL q4) ?_
   refine aD ?_
   refine iC fW ?_
   refine aD ?_
   by_cases HN : N.v.c.lim < 58 + k.length + c.data.length + (N.it p).val.length
   ·rw [if_pos HN] at hnw
    refine gK ?_
    refine fE ?_
    refine zl T.yq (kF dm) .nil (fun _ _ _ => trivial) ?_
    refine Li (XM T.ko) ?_
    refine Lp (W5 ?_)
    refine pP [SW z N] ?_
    exact ⟨.t dm, N, by rw [Sa, vU, hnw], rfl, rfl⟩
   rw [if_neg HN] at hnw
   refine dq ?_
   refine aD ?_
   refine Me ((nv, (N.it p).fl, (N.it p).exp, a6, c6)) (⟨hnw, (by dsimp only; rw [n1] at HN; omega), v2, v3⟩)
  refine iS ?_
  refine bq ?_
  refine Me ((c.data, c.fl, mX N.k.now c.ex, va, vc)) (⟨(by unfold Mo.ou; rw [Xk]; rfl), hd20, uD, Qf _ _ Sg.1 hex⟩)
 rintro ⟨v, fl, ex, va2, vc2⟩ hI
 dsimp only at hI ⊢
 obtain ⟨hnv, tZ, hfl2, hex2⟩ := hI
 rw [hnv] at vU
 have hR := wW (M := N) (n := 58 + k.length + v.length) (own := old) (o := (N.room (58 + k.length + v.length) old).1) (N := (N.room (58 + k.length + v.length) old).2) ⟨O2.W7, O2.R5.nd, O2.R5.lv, O2.R5.on⟩ rfl
 have Xm : N.lays k old ov (v, fl, ex) = match N.room (58 + k.length + v.length) old with | (none, R) => (.t iJ, R.over old ov) | (some r, R) => (.k 1, R.eX r old ⟨k, v, fl, ex, R.k.now, R.v.bm + 1, 0⟩) := rfl
 have Ny := zp z N (n4.trans hh) (by rw [n5]; exact jA) (by rw [hsN]; exact x4) k.length v.length ⟨hk0, Zm⟩ (by omega) old hold
 unfold Cg
 refine bL ?_
 refine Li (Ls T.qW) ?_
 refine bb ?_
 refine zl T.VN (Ny) (.cons .here .nil) (fun _ _ _ => trivial) ?_
 rcases hrm : N.room (58 + k.length + v.length) old with ⟨o, R⟩
 rw [hrm] at hR Xm
 dsimp only at hR Xm ⊢
 have hoR : tW N.C old = tW R.C old := by
  rcases old with _ | p
  ·rfl
  exact (hR.s.own p rfl (hold p rfl)).2.1.symm
 have Rh : ∀ p, old = some p → R.has p := fun p e => (hR.s.own p e (hold p e)).1
 rw [hoR]
 rcases o with _ | r0
 ·dsimp only at Xm
  refine ed ?_
  refine Lp (W6 T.Bb rfl rfl (jV z R old Rh ov iJ) (.cons .here .nil) (fun _ _ _ => trivial) (by rintro v H' ⟨rfl, rfl⟩; exact pP [SW z (R.over old ov)] ⟨.t iJ, _, by rw [Sa, vU]; exact Xm, rfl, rfl⟩) ?_)
  rintro v H' hF
  exact hF.elim
 obtain ⟨g1, g2, g3, g4⟩ := hR.ok r0 rfl
 have hdn := bM hR.k.k g3.toAt
 obtain ⟨_, _, _, _, hd1, Nb⟩ := hdn
 refine bO ?_
 refine dq ?_ (e := by exact decide_eq_false (by show ¬ (((R.C.hd r0 : Nat) : Int) = 0); omega))
 refine bO ?_
 refine zl T.VM (Kw z R r0 g1 old k v _ _ rfl rfl (fun p e => ⟨Rh p e, by rw [hR.s.it]; exact (e2 p e).2⟩) (fun e => DI fun q hq ek => O8 (e3 e) (hR.s.has q hq) (by rw [← hR.s.it]; exact ek)) (some ⟨kb, 0, none⟩) va2 j6 vc2 fl ex 0 hk g2 hfl2 hex2 (by decide) (by rw [hR.s.bm, n2]; exact we) (by rw [hR.s.tn, n3]; exact M5)) (.cons .here .nil) (fun _ le av => ⟨bY (av.nth 2 rfl), bY (av.nth 3 rfl)⟩) ?_
 refine bL ?_
 refine Lp (j5 T.iG ?_ (h1 := by simp [db, Value.cells, Value.oneCell', bC, cM]))
 refine bw ?_
 refine pR ?_
 refine Sx [SW z (R.eX r0 old ⟨k, v, fl, ex, R.k.now, R.v.bm + 1, 0⟩)] T.iG Tryz.results77 ?_
 exact ⟨.k 1, _, by rw [Sa, vU]; exact Xm, rfl, rfl⟩
def Mo.Am (M : Mo) (p : Nat) (v : List UInt8) : Mo := { M.put p { M.it p with val := v } with v := { M.v with fJ := M.v.fJ + v.length - (M.it p).val.length } }
end Go.Proofs.YtpgbeapapmdkcaaGreatDoor
namespace Go.Proofs.YtpgbeapapmdkcaaGreatDoor
open Go Go.cQ Go.Proofs.YtpgbeapapmdkcaaGreatDoor.Cs
section
variable {n : Nat} {ds : List Deferred} {F : c9} {K : Act → World → Prop} {σ : aS} {z : Ly} {M N : Mo} {H : List aa}
end
def v7 (c : eA) (n : Nat) : Nat := if c.verb = 12 then (n + c.dl) % 18446744073709551616 else n - c.dl
def Mo.fP (M : Mo) (p m : Nat) : eH × Mo :=
 if 58 + (M.it p).key.length + (gJ m).length ≤ M.C.sz (M.C.cl p) then (⟨7, [], m, []⟩, ((((M.Am p (gJ m)).mW (M.v.bm + 1)).tok p (M.v.bm + 1)).marks p 0).pC p)
 else if M.v.c.lim < 58 + (M.it p).key.length + (gJ m).length then (.t dm, M)
 else match M.room (58 + (M.it p).key.length + (gJ m).length) (some p) with
  | (none, R) => (.t iJ, R)
  | (some r, R) => (⟨7, [], m, []⟩, R.eX r (some p) ⟨(M.it p).key, gJ m, (M.it p).fl, (M.it p).exp, R.k.now, R.v.bm + 1, 0⟩)
def Mo.counts (M : Mo) (c : eA) (k : List UInt8) : eH × Mo := match M.meet k with
 | (none, N) => (.k 4, N)
 | (some p, N) => match NP (N.it p).val with
  | none => (.t Iv, N)
  | some n => N.fP p (v7 c n)
end Go.Proofs.YtpgbeapapmdkcaaGreatDoor
namespace Go.Proofs.YtpgbeapapmdkcaaGreatDoor
open Go Go.cQ Go.Proofs.YtpgbeapapmdkcaaGreatDoor.Cs
theorem Kn (b : Nat) (cs : List Value) : Er Tryz.prog 70 [.pointer (some ⟨b, 0, none⟩)] .returning .returning (fun _ => True) [af b 41 cs] (fun v H => v = .tuple #[] ∧ H = [af b 41 cs]) := by
 refine I9 T.RB Tryz.func70 rfl Tryz.ntmps70 rfl rfl rfl rfl rfl rfl rfl rfl rfl (.inl ⟨rfl, rfl, rfl⟩) ?_
 intro F _
 refine bw ?_
 refine Li (Iqn T.Rf) ?_
 refine bL ?_
 refine jN [af b 41 cs] Tryz.results70 ?_
 exact ⟨rfl, rfl⟩
theorem Km (b : Nat) (c0 c1 c2 c3 c4 : Value) (a : eH) : Er Tryz.prog 70 [.pointer (some ⟨b, 0, none⟩)] (.panicking [pe (si (x8 a))]) (.panicking [{ v := si (x8 a), recovered := true }]) (fun _ => True) [af b 41 [c0, c1, c2, c3, c4]] (fun v H => v = .tuple #[] ∧ H = [af b 41 (iy a.kind cM a.num a.tX)]) := by
 refine I9 T.RB Tryz.func70 rfl Tryz.ntmps70 rfl rfl rfl rfl rfl rfl rfl rfl rfl (.inr ⟨rfl, rfl⟩) ?_
 intro F _
 unfold si x8 x7 iy cM
 refine bw ?_
 refine Li (Iq T.Rf) ?_
 refine bb ?_
 refine Li (TaT T.ko) ?_
 refine bL ?_
 refine Lp (oA T.Az fun b1 => ?_)
 refine Lp (j5 T.Bj ?_ (h1 := by simp [db, Value.cells, Value.oneCell', bC, cM]))
 refine gh ?_
 refine Lp (oSN T.iG ?_ (h1 := by simp [db, Value.cells, Value.oneCell', bC, cM]))
 refine aB ?_
 refine jN [af b 41 [.int .i64 (a.kind : Int), .slice none 0 0, .int .u64 (a.num : Int), bC a.tX, .slice none 0 0]] Tryz.results70 ?_
 exact ⟨rfl, rfl⟩
def wQ : List UInt8 := [103, 114, 97, 110, 97, 114, 121, 32, 49]
def Mo.delete (M : Mo) (k : List UInt8) : eH × Mo := match M.meet k with
 | (none, N) => (.k 4, N)
 | (some p, N) => (.k 5, N.bR p)
def Mo.fx (M : Mo) (c : eA) : eH × Mo :=
 if 1 ≤ c.verb ∧ c.verb ≤ 4 then M.lL c.verb c.keys c.ex
 else if c.verb = 12 ∨ c.verb = 13 then M.counts c (c.keys.headD [])
 else if c.verb = 14 then M.dQ (c.keys.headD []) c.ex
 else if c.verb = 11 then M.delete (c.keys.headD [])
 else if c.verb = 15 then (.k 8, { M with k := M.k.flush c.ex M.v.bm, x := M.x.again })
 else if c.verb = 16 then (⟨10, [], 0, wQ⟩, M)
 else if c.verb = 17 then (.k 8, M)
 else if c.verb = 18 then (.k 12, M)
 else M.cG c (c.keys.headD [])
def HQ (z : Ly) (r : eH × Mo) (v : Value) (H : List aa) : Prop := ∃ ea ec l, l.map Prod.fst = r.1.dx ∧ v = x7 r.1.kind (.slice ea l.length ec) r.1.num r.1.tX ∧ H = [own ea ec 49 9 (yr l), sn l, SW z r.2]
theorem qD {M N : Mo} {c : eA} {k : List UInt8} {a : eH} (h : M.cG c k = (a, N)) : a.dx = [] := by
 have : (M.cG c k).1.dx = [] := by
  unfold Mo.cG Mo.gP Mo.lays
  (repeat' split) <;> rfl
 rw [h] at this
 exact this
section
variable {n t b : Nat} {F : c9} {σ : aS} {fn : Func} {z : Ly} {r : eH × Mo} {R : List aa}
theorem Kk (hr : fn.results = #[.cell t 41]) (he : r.1.dx = []) (ht : cQ.look σ t = some (.pointer (some ⟨b, 0, none⟩)) := by exact rfl) :
  G n [Hm 70 [] [.pointer (some ⟨b, 0, none⟩)]] F (bodyPostD Tryz.prog fn (fun e w' => ∃ v H', e = .returned v ∧ HQ z r v H' ∧ St F H' w') .ret) σ (af b 41 (iy r.1.kind cM r.1.num r.1.tX) :: SW z r.2 :: R) := by
 refine cE 49 9 ?_
 refine th ?_
 refine RrC (e := 41) [own none 0 49 9 (yr []), sn [], SW z r.2] T.iG hr (Kn b (iy r.1.kind cM r.1.num r.1.tX)) (.cons (.there (.there .here)) .nil) (fun _ _ _ => trivial) ?_ ht
 rintro v Hx ⟨rfl, rfl⟩
 exact ⟨_, _, _, .here, rfl, rfl, ⟨none, 0, [], he.symm, rfl, rfl⟩, fun h s => cV (by
  obtain ⟨_, h2, _, _, l2, _, s⟩ := s
  exact dp (aK (fun k s => aK (R := SW z r.2 :: R) (fun k s => aK (R' := []) (fun _ _ => trivial) s) s) s) l2)⟩
theorem Kl {c0 c1 c2 c3 c4 : Value} (hr : fn.results = #[.cell t 41]) (he : r.1.dx = []) (ht : cQ.look σ t = some (.pointer (some ⟨b, 0, none⟩)) := by exact rfl) :
  G n [Hm 70 [] [.pointer (some ⟨b, 0, none⟩)]] F (bodyPostD Tryz.prog fn (fun e w' => ∃ v H', e = .returned v ∧ HQ z r v H' ∧ St F H' w') (.panic [pe (si (x8 r.1))])) σ (af b 41 [c0, c1, c2, c3, c4] :: SW z r.2 :: R) := by
 refine cE 49 9 ?_
 refine th ?_
 refine RpC (e := 41) [own none 0 49 9 (yr []), sn [], SW z r.2] T.iG hr (Km b c0 c1 c2 c3 c4 r.1) (.cons (.there (.there .here)) .nil) (fun _ _ _ => trivial) ?_ ht
 rintro v Hx ⟨rfl, rfl⟩
 exact ⟨_, _, _, .here, rfl, rfl, ⟨none, 0, [], he.symm, rfl, rfl⟩, fun h s => cV (by
  obtain ⟨_, h2, _, _, l2, _, s⟩ := s
  exact dp (aK (fun k s => aK (R := SW z r.2 :: R) (fun k s => aK (R' := []) (fun _ _ => trivial) s) s) s) l2)⟩
end
theorem TA (z : Ly) (M : Mo) (c : eA) (ka : Option Addr) (kc : Nat) (da : Option Addr) (dc : Nat) (mv : Value) (uh : mv.oneCell' = true) (hv : 5 ≤ c.verb ∧ c.verb ≤ 10) (x4 : 0 < M.C.spare) (hb : wi c = false) (Sg : c.keys.length < 1073741824) (xF : ∀ k ∈ c.keys, k.length < 281474976710656) (hw : M.jX = []) (hex : c.ex < 9223372036854775808) (hda : c.data.length < 281474976710656) (QN : c.dl < 18446744073709551616)
  (hh : M.hole = none) (jA : M.m.st < 4611686018427387904) (NW : M.v.c.lim ≤ 1048576) (we : M.v.bm + 1 < 18446744073709551616) (M5 : M.tn + c.keys.length < 18446744073709551615) :
  aL Tryz.prog 35 [.pointer (some ⟨z.s, 0, none⟩), .agg (gW c ka kc da dc mv).toArray] (fun h => fK h ka (qt c.keys) ∧ fK h da (aq c.data)) [SW z M] (HQ z (M.fx c)) := by
 have tV : M.fx c = if 1 ≤ c.verb ∧ c.verb ≤ 4 then M.lL c.verb c.keys c.ex else if c.verb = 12 ∨ c.verb = 13 then M.counts c (c.keys.headD []) else if c.verb = 14 then M.dQ (c.keys.headD []) c.ex else if c.verb = 11 then M.delete (c.keys.headD []) else if c.verb = 15 then (.k 8, { M with k := M.k.flush c.ex M.v.bm, x := M.x.again }) else if c.verb = 16 then (⟨10, [], 0, wQ⟩, M) else if c.verb = 17 then (.k 8, M) else if c.verb = 18 then (.k 12, M) else M.cG c (c.keys.headD []) := rfl
 have Xv : wi c = (decide (bH c.verb < 0 ∨ 0 < bH c.verb ∧ c.keys.length = 0 ∨ bH c.verb = 1 ∧ 1 < c.keys.length) || (decide (0 < bH c.verb) && c.keys.any fun k => !dS k) || decide (5 ≤ c.verb ∧ c.verb ≤ 10 ∧ 4294967295 < c.fl)) := rfl
 rw [hb] at Xv
 have Ya := Xv.symm
 simp only [Bool.or_eq_false_iff, decide_eq_false_iff_not] at Ya
 obtain ⟨⟨cL, cx⟩, bQ⟩ := Ya
 have R9 : 1 ≤ c.verb ∧ c.verb ≤ 18 := by
  refine Decidable.byContradiction fun g => cL (.inl ?_)
  unfold bH
  rw [if_neg (by omega), if_neg (by omega), if_neg (by omega)]; decide
 have Zi : 5 ≤ c.verb → c.verb ≤ 14 → ∃ k, c.keys = [k] ∧ dS k = true := fun h1 h2 => by
  have hvi : bH c.verb = 1 := by unfold bH; rw [if_neg (by omega), if_pos (by omega)]
  rw [hvi] at cL cx
  rcases hk : c.keys with _ | ⟨k, _ | ⟨k2, r⟩⟩
  ·exact absurd (.inr (.inl ⟨by decide, by rw [hk]; rfl⟩)) cL
  ·refine ⟨k, rfl, ?_⟩
   rw [hk] at cx
   simpa using cx
  exact absurd (.inr (.inr ⟨rfl, by rw [hk]; simp⟩)) cL
 refine LN Tryz.func35 rfl Tryz.ntmps35 rfl ?_
 rintro F ⟨hr, hd⟩
 refine aD ?_
 refine Lp (oB fun b1 => ?_)
 refine Lp (oA T.qq fun b2 => ?_)
 refine bw ?_
 refine Li Mf ?_
 refine Lp (oDv ?_)
 refine aD ?_
 refine ay ?_
 refine Hh (H' := [SW z M, af b1 47 (gW c ka kc da dc mv), af b2 41 [.int .i64 0, cM, .int .u64 0, bC [], cM]]) ?_
 refine bq ?_
 refine ay ?_
 refine cR (ι := Bool) [10, 9, 11, 12, 13] (fun b => b = decide (1 ≤ c.verb ∧ c.verb ≤ 4)) (fun b => [(9, .bool b)]) (fun b => [SW z M, af b1 47 (gW c ka kc da dc mv), af b2 41 [.int .i64 0, cM, .int .u64 0, bC [], cM]]) ?_ ?_
 ·refine iS ?_
  refine bL ?_
  refine au rfl ?_ ?_
  ·intro cK
   replace cK := aF cK
   refine aD ?_
   refine Me (decide (1 ≤ c.verb ∧ c.verb ≤ 4)) (rfl) (hs := ⟨(by refine congrArg (fun q => some (Value.bool q)) ?_; first | exact (decide_eq_true (by omega)).symm | exact decide_eq_decide.2 (by omega) | exact (decide_eq_false (by omega)).symm), trivial⟩)
  intro cK
  replace cK := aF cK
  refine bb ?_
  refine au rfl ?_ ?_
  ·intro cL
   replace cL := aF cL
   refine aD ?_
   refine Me (decide (1 ≤ c.verb ∧ c.verb ≤ 4)) (rfl) (hs := ⟨(by refine congrArg (fun q => some (Value.bool q)) ?_; first | exact (decide_eq_true (by omega)).symm | exact decide_eq_decide.2 (by omega) | exact (decide_eq_false (by omega)).symm), trivial⟩)
  intro cL
  replace cL := aF cL
  refine bb ?_
  refine au rfl ?_ ?_
  ·intro cx
   replace cx := aF cx
   refine aD ?_
   refine Me (decide (1 ≤ c.verb ∧ c.verb ≤ 4)) (rfl) (hs := ⟨(by refine congrArg (fun q => some (Value.bool q)) ?_; first | exact (decide_eq_true (by omega)).symm | exact decide_eq_decide.2 (by omega) | exact (decide_eq_false (by omega)).symm), trivial⟩)
  intro cx
  replace cx := aF cx
  refine bL ?_
  refine aB ?_
  refine Me (decide (1 ≤ c.verb ∧ c.verb ≤ 4)) (rfl) (hs := ⟨(by refine congrArg (fun q => some (Value.bool q)) ?_; first | exact (decide_eq_true (by omega)).symm | exact decide_eq_decide.2 (by omega) | exact (decide_eq_false (by omega)).symm), trivial⟩)
 rintro b hI
 subst hI
 by_cases h4 : 1 ≤ c.verb ∧ c.verb ≤ 4
 ·exfalso; omega
 rw [if_neg h4] at tV
 refine dq ?_ (e := by exact decide_eq_false h4)
 refine ay ?_
 refine cR (ι := Bool) [18, 17, 19] (fun b => b = decide (c.verb = 12 ∨ c.verb = 13)) (fun b => [(17, .bool b)]) (fun b => [SW z M, af b1 47 (gW c ka kc da dc mv), af b2 41 [.int .i64 0, cM, .int .u64 0, bC [], cM]]) ?_ ?_
 ·refine iS ?_
  refine bL ?_
  refine au rfl ?_ ?_
  ·intro cK
   replace cK := aF cK
   refine aD ?_
   refine Me (decide (c.verb = 12 ∨ c.verb = 13)) (rfl) (hs := ⟨(by refine congrArg (fun q => some (Value.bool q)) ?_; first | exact (decide_eq_true (by omega)).symm | exact decide_eq_decide.2 (by omega) | exact (decide_eq_false (by omega)).symm), trivial⟩)
  intro cK
  replace cK := aF cK
  refine bL ?_
  refine aB ?_
  refine Me (decide (c.verb = 12 ∨ c.verb = 13)) (rfl) (hs := ⟨(by refine congrArg (fun q => some (Value.bool q)) ?_; first | exact (decide_eq_true (by omega)).symm | exact decide_eq_decide.2 (by omega) | exact (decide_eq_false (by omega)).symm), trivial⟩)
 rintro b hI
 subst hI
 by_cases HD : c.verb = 12 ∨ c.verb = 13
 ·exfalso; omega
 rw [if_neg HD] at tV
 refine dq ?_ (e := by exact decide_eq_false HD)
 refine bb ?_
 by_cases v14 : c.verb = 14
 ·exfalso; omega
 rw [if_neg v14] at tV
 refine dq ?_ (e := by exact decide_eq_false v14)
 refine bb ?_
 by_cases v11 : c.verb = 11
 ·exfalso; omega
 rw [if_neg v11] at tV
 refine dq ?_ (e := by exact decide_eq_false v11)
 refine bb ?_
 by_cases v15 : c.verb = 15
 ·exfalso; omega
 rw [if_neg v15] at tV
 refine dq ?_ (e := by exact decide_eq_false v15)
 refine bb ?_
 by_cases v16 : c.verb = 16
 ·exfalso; omega
 rw [if_neg v16] at tV
 refine dq ?_ (e := by exact decide_eq_false v16)
 refine bb ?_
 by_cases v17 : c.verb = 17
 ·exfalso; omega
 rw [if_neg v17] at tV
 refine dq ?_ (e := by exact decide_eq_false v17)
 refine bb ?_
 by_cases v18 : c.verb = 18
 ·exfalso; omega
 rw [if_neg v18] at tV
 refine dq ?_ (e := by exact decide_eq_false v18)
 refine bE ?_
 obtain ⟨k, Nv, hkl2⟩ := Zi (by omega) (by omega)
 rw [Nv] at tV
 change M.fx c = M.cG c k at tV
 rw [tV]
 refine Lp (W6 T.Zx rfl rfl (EL z M c ka kc da dc mv uh x4 k [] Nv hkl2 (by rw [hw]; decide) hex (by have : ¬ _ := bQ; omega) hda hh jA NW we (by rw [Nv] at M5; exact Nat.lt_of_le_of_lt (Nat.le_add_right _ _) M5)) (.cons .here .nil) (fun _ le _ => ⟨hr.mono le, hd.mono le⟩) (by rintro v H' ⟨a, N, hm, rfl, rfl⟩; refine Hh (H' := [af b2 41 [.int .i64 0, cM, .int .u64 0, bC [], cM], SW z N]) ?_; rw [hm]; exact Kl (z := z) (r := (a, N)) (R := []) (c0 := .int .i64 0) (c1 := cM) (c2 := .int .u64 0) (c3 := bC []) (c4 := cM) Tryz.results35 (qD hm)) ?_)
 rintro v H' ⟨a, N, hm, rfl, rfl⟩
 refine bo ?_
 refine Lp (j5 T.iG ?_ (h1 := by simp [iy, Value.oneCell', bC, cM]))
 refine bw ?_
 refine Hh (H' := [af b2 41 (iy a.kind cM a.num a.tX), SW z N]) ?_
 rw [hm]
 exact Kk (z := z) (r := (a, N)) (R := []) Tryz.results35 (qD hm)
end Go.Proofs.YtpgbeapapmdkcaaGreatDoor
namespace Go.cQ
open Go
class RV (A : aa) (b i : Nat) (vs : List Value) (A' : outParam aa) : Prop where
 cut : ∀ h, A h → ∃ e cs R, i + vs.length ≤ cs.length ∧ aj (af b e cs :: R) h ∧ ∀ k, aj (af b e (db cs i vs) :: R) k → A' k
section
variable {P : Program} {n : Nat} {ds : List Deferred} {F : c9} {Q : Exit → Act → World → Prop} {K : Act → World → Prop} {σ : aS} {H : List aa} {o : Oper} {d : Nat}
theorem oScN {t k : TypeId} {x y : Operand} {A A' : aa} {R : List aa} {b : Nat} {vs : List Value} (i : Nat) (hs : cn P t = some k) (h : G n ds F K σ (A' :: R)) (ho : o.op = .store t x y := by exact rfl) (hd : o.dst = none := by exact rfl)
  (hx : bd σ x = some (.pointer (some ⟨b, i, none⟩)) := by exact rfl) (hy : bd σ y = some (.agg vs.toArray) := by exact rfl) (hk : vs.length = k := by exact rfl) (c : RV A b i vs A' := by infer_instance) (h1 : ∀ v ∈ vs, v.oneCell' = true := by simp [db, Value.cells, Value.oneCell', bC]) : G n ds F (fun a w => o.wp P a w K Q) σ (A :: R) :=
 .mk fun a w en s => by
  obtain ⟨a1, a2, a3, fr, hh, st, l, dj⟩ := s
  obtain ⟨k1, k2, d12, l1, l2, ha, sr⟩ := st
  obtain ⟨e, cs, R0, hi, s1, back⟩ := c.cut k1 ha
  have s2 : aj (af b e cs :: (R0 ++ R)) hh := mK (A := A) (B := A) d12 l1 l2 s1 sr
  refine (pY hs ho hd hx hy hk h1 .here hi (az (fun k sk => ?_) h)) a w en ⟨a1, a2, a3, fr, hh, s2, l, dj⟩
  obtain ⟨m1, m2, d', n1, n2, t1, t2⟩ := bs (A := af b e (db cs i vs) :: R0) sk
  exact ⟨m1, m2, d', n1, n2, back m1 t1, t2⟩
theorem Fga {s f k sz : Nat} {e : TypeId} {x : Operand} {cs vs : List Value} (hk : SV P s f = some (k, e)) (he : cn P e = some sz) (ho : o.op = .field s x f := by exact rfl) (hx : bd σ x = some (.agg cs.toArray) := by exact rfl) (hv : (cs.drop k).take sz = vs := by exact rfl) : Yv P n ds F σ o (.agg vs.toArray) := fun a w en fr => by
 obtain ⟨h1, h2⟩ := dH (w := w) he
 unfold SV at hk
 cases hu : P.underlying s with
 | none => simp [hu] at hk
 | some d =>
  cases d <;> simp [hu] at hk
  rename_i fs
  obtain ⟨y, hf, e1, e2⟩ := hk
  subst e1; subst e2
  have e : cs.toArray.extract y.offset (y.offset + sz) = vs.toArray := by
   rw [← hv]
   simp [List.take_drop]
  simp [execOp, ho, Instr.field, en.eval hx, run_underlying hu, hf, asAgg, part, h1, h2, e]
  exact hv
end
end Go.cQ
namespace Go.Proofs.YtpgbeapapmdkcaaGreatDoor
open Go Go.cQ Go.Proofs.YtpgbeapapmdkcaaGreatDoor.Cs
theorem Mk : SV Tryz.prog 113 0 = some (0, 41) := by kernel_rfl
instance sw_mt0 {z : Ly} {M : Mo} : RV (SW z M) z.s 21 [.int .i64 0, .int .i64 0, .int .i64 0, .int .i64 0, .int .i64 0, .int .i64 0, .int .i64 0] (SW z (M.aX .zero)) := ⟨fun h s => by
 obtain ⟨w, s⟩ := s
 obtain ⟨B, O, t⟩ := oQ s
 refine ⟨_, _, NJ z B (M.aQ w.1 w.2), (by simp [jM, gF]), t, fun k sk => ⟨w, B, O.aX .zero, ?_⟩⟩
 rw [show db (jM z.y (gF (M.aQ w.1 w.2).v)) 21 [.int .i64 0, .int .i64 0, .int .i64 0, .int .i64 0, .int .i64 0, .int .i64 0, .int .i64 0] = jM z.y (gF ((M.aQ w.1 w.2).aX .zero).v) from rfl] at sk
 exact (rO z B ((M.aQ w.1 w.2).aX .zero)).back _ sk⟩
def Mo.qv (M : Mo) : Mo := { M with jX := [] }
theorem bT.qv {B : Bx} {M : Mo} (O : bT B M) : bT B (M.qv.aQ none 0) :=
 ⟨O.c, O.k, O.t, O.ty, O.o, O.x, O.mq, O.ck, O.al, O.lv, O.ho, O.it, O.e, O.st, O.nb, O.mg, O.mo, O.bt, O.un, O.on, O.go, rfl, O.cf, O.n, O.lg⟩
instance sw_why {z : Ly} {M : Mo} : nI (SW z M) z.s 28 (.slice none 0 0) (SW z M.qv) := ⟨fun h s => by
 obtain ⟨w, s⟩ := s
 obtain ⟨B, O, t⟩ := oQ s
 refine ⟨_, _, NJ z B (M.aQ w.1 w.2), (by simp [jM, gF]), t, fun k sk => ⟨(none, 0), B, O.qv, ?_⟩⟩
 rw [show (jM z.y (gF (M.aQ w.1 w.2).v)).set 28 (.slice none 0 0) = jM z.y (gF (M.qv.aQ none 0).v) from rfl] at sk
 refine (rO z B (M.qv.aQ none 0)).back _ ?_
 have s2 := nw 3 1 sk
 clear sk
 revert s2
 revert k
 unfold NJ
 simp only [eW]
 rw [show aH (M.qv.aQ none 0).jX = [] from rfl]
 exact Eh⟩
def Mo.reset (M : Mo) : Mo := (M.aX .zero).qv
theorem nc.eJ {M : Mo} (K : nc M) (w : Nat) : nc (M.eJ w) := ⟨K.k, K.nd, K.lv, K.on⟩
structure Kd (M N : Mo) (t : Nat) : Prop where
 ho : N.hole = M.hole
 st : N.m.st = M.m.st
 p : N.v.p = M.v.p
 c : N.v.c = M.v.c
 bm : N.v.bm ≤ M.v.bm + 1
 tn : N.tn ≤ M.tn + t
theorem Kd.le {M N : Mo} {s t : Nat} (h : Kd M N s) (e : s ≤ t) : Kd M N t := ⟨h.ho, h.st, h.p, h.c, h.bm, Nat.le_trans h.tn (Nat.add_le_add_left e _)⟩
theorem Kd.rf {M N : Mo} (ho : N.hole = M.hole) (st : N.m.st = M.m.st) (p : N.v.p = M.v.p) (c : N.v.c = M.v.c) (i : N.v.bm = M.v.bm) (t : N.tn = M.tn) : Kd M N 0 := ⟨ho, st, p, c, by omega, by omega⟩
theorem ry (M : Mo) (k : List UInt8) : (M.meet k).2.hole = M.hole ∧ (M.meet k).2.m = M.m ∧ (M.meet k).2.v.p = M.v.p ∧ (M.meet k).2.v.c = M.v.c ∧ (M.meet k).2.v.bm = M.v.bm ∧ (M.meet k).2.tn = M.tn := by
 unfold Mo.meet
 cases M.find k with
 | none => exact ⟨rfl, rfl, rfl, rfl, rfl, rfl⟩
 | some p =>
  dsimp only
  split <;> exact ⟨rfl, rfl, rfl, rfl, rfl, rfl⟩
theorem nc.meet {M N : Mo} (K : nc M) {k : List UInt8} {o : Option Nat} (h : M.meet k = (o, N)) : nc N := by
 unfold Mo.meet at h
 cases hf : M.find k with
 | none => rw [hf] at h; simp only [Prod.mk.injEq] at h; rw [← h.2]; exact K.eJ 1
 | some p =>
  rw [hf] at h
  dsimp only at h
  split at h
  ·simp only [Prod.mk.injEq] at h
   rw [← h.2]
   exact ((K.eJ _).bR (ky hf).1).1
  simp only [Prod.mk.injEq] at h
  rw [← h.2]
  exact K.eJ 0
theorem P7 (dK : Bool) (ex : Int) (s : List I3 × Mo) (k : List UInt8) : (Mo.dz dK ex s k).2.hole = s.2.hole ∧ (Mo.dz dK ex s k).2.m = s.2.m ∧ (Mo.dz dK ex s k).2.v.p = s.2.v.p ∧ (Mo.dz dK ex s k).2.v.c = s.2.v.c ∧ (Mo.dz dK ex s k).2.v.bm = s.2.v.bm ∧ (Mo.dz dK ex s k).2.tn ≤ s.2.tn + 1 := by
 obtain ⟨h1, h2, h3, h4, h5, h6⟩ := ry s.2 k
 unfold Mo.dz
 rcases hm : s.2.meet k with ⟨_ | p, N⟩ <;> rw [hm] at h1 h2 h3 h4 h5 h6
 ·exact ⟨h1, h2, h3, h4, h5, by dsimp only at *; omega⟩
 dsimp only at *
 cases dK
 ·exact ⟨h1, h2, h3, h4, h5, by show N.tn ≤ _; omega⟩
 refine ⟨h1, h2, h3, h4, h5, ?_⟩
 have := CP N p (mX N.k.now ex)
 show (N.time p _).tn ≤ _
 omega
theorem DB (dK : Bool) (ex : Int) : ∀ (l : List (List UInt8)) (s : List I3 × Mo), (l.foldl (Mo.dz dK ex) s).2.hole = s.2.hole ∧ (l.foldl (Mo.dz dK ex) s).2.m = s.2.m ∧ (l.foldl (Mo.dz dK ex) s).2.v.p = s.2.v.p ∧ (l.foldl (Mo.dz dK ex) s).2.v.c = s.2.v.c ∧ (l.foldl (Mo.dz dK ex) s).2.v.bm = s.2.v.bm ∧ (l.foldl (Mo.dz dK ex) s).2.tn ≤ s.2.tn + l.length
 | [], s => ⟨rfl, rfl, rfl, rfl, rfl, Nat.le_refl _⟩
 | k :: l, s => by
  obtain ⟨a1, a2, a3, a4, a5, a6⟩ := P7 dK ex s k
  obtain ⟨b1, b2, b3, b4, b5, b6⟩ := DB dK ex l (Mo.dz dK ex s k)
  rw [List.foldl_cons, List.length_cons]
  exact ⟨b1.trans a1, b2.trans a2, b3.trans a3, b4.trans a4, b5.trans a5, by omega⟩
theorem PF {M : Mo} {r : Nat} {old : Option Nat} {n : I3} : (M.eX r old n).hole = none ∧ (M.eX r old n).m = M.m ∧ (M.eX r old n).v.p = M.v.p ∧ (M.eX r old n).v.c = M.v.c ∧ (M.eX r old n).v.bm = M.v.bm + 1 ∧ (M.eX r old n).tn ≤ M.tn + 1 := by
 cases old <;> refine ⟨rfl, rfl, rfl, rfl, rfl, ?_⟩
 ·show (if 0 < n.exp then M.tn + 1 else M.tn) ≤ _
  split <;> omega
 show (if 0 < n.exp then M.tn + 1 else M.tn) ≤ _
 split <;> omega
theorem C6 (M : Mo) (old : Option Nat) (ov : Bool) : Kd M (M.over old ov) 0 := by
 unfold Mo.over
 cases old with
 | none => exact .rf rfl rfl rfl rfl rfl rfl
 | some p => dsimp only; split <;> exact .rf rfl rfl rfl rfl rfl rfl
theorem Kd.kM {M N : Mo} {own : Option Nat} (s : Co M N own) (h : N.hole = M.hole) : Kd M N 0 := .rf h s.st s.p s.c s.bm s.tn
theorem Kd.tr {M N O : Mo} {s t : Nat} (a : Kd M N s) (i : N.v.bm = M.v.bm) (b : Kd N O t) : Kd M O (s + t) := ⟨b.ho.trans a.ho, b.st.trans a.st, b.p.trans a.p, b.c.trans a.c, by have := b.bm; omega, by have := a.tn; have := b.tn; omega⟩
theorem CZ {M : Mo} (K : nc M) (hh : M.hole = none) (n : Nat) (own old : Option Nat) (ov : Bool) (X : Mo → Nat → I3) (a : eH) (b : eH) : Kd M (match M.room n own with | (none, R) => (a, R.over old ov) | (some r, R) => (b, R.eX r old (X R r))).2 1 := by
 have R := wW K (n := n) (own := own) (o := (M.room n own).1) (N := (M.room n own).2) rfl
 rcases hr : M.room n own with ⟨_ | r, N⟩ <;> rw [hr] at R
 ·exact ((Kd.kM R.s (R.no rfl)).tr R.s.bm (C6 N old ov)).le (by omega)
 obtain ⟨l1, l2, l3, l4, l5, l6⟩ := PF (M := N) (r := r) (old := old) (n := X N r)
 exact ⟨l1.trans hh.symm, by rw [l2]; exact R.s.st, l3.trans R.s.p, l4.trans R.s.c, (by show (N.eX r old (X N r)).v.bm ≤ _; rw [l5, R.s.bm]; omega), (by have h9 : N.tn = M.tn := R.s.tn; show (N.eX r old (X N r)).tn ≤ _; omega)⟩
theorem DN {M : Mo} (K : nc M) (hh : M.hole = none) (c : eA) : Kd M (M.fx c).2 (max c.keys.length 1) := by
 have mk := fun k => ry M k
 have K1 : ∀ k o N, M.meet k = (o, N) → nc N ∧ N.hole = none ∧ Kd M N 0 ∧ N.v.bm = M.v.bm := fun k o N h => by
  obtain ⟨h1, h2, h3, h4, h5, h6⟩ := mk k
  rw [h] at h1 h2 h3 h4 h5 h6
  exact ⟨K.meet h, h1.trans hh, .rf h1 (congrArg jQ.st h2) h3 h4 h5 h6, h5⟩
 unfold Mo.fx
 split
 ·obtain ⟨g1, g2, g3, g4, g5, g6⟩ := DB (decide (c.verb = 3 ∨ c.verb = 4)) c.ex c.keys ([], M)
  exact ⟨g1, congrArg jQ.st g2, g3, g4, by have := g5; show _ ≤ _; unfold Mo.lL; dsimp only at *; omega, by unfold Mo.lL; dsimp only at *; omega⟩
 split
 ·unfold Mo.counts
  rcases hm : M.meet (c.keys.headD []) with ⟨_ | p, N⟩ <;> obtain ⟨k1, k2, k3, k4⟩ := K1 _ _ _ hm
  ·exact k3.le (by omega)
  dsimp only
  split
  ·exact k3.le (by omega)
  next n _ =>
  unfold Mo.fP
  split
  ·exact (k3.tr k4 (⟨rfl, rfl, rfl, rfl, (by show N.v.bm + 1 ≤ _; exact Nat.le_refl _), Nat.le_refl _⟩ : Kd N ((((N.Am p (gJ (v7 c n))).mW (N.v.bm + 1)).tok p (N.v.bm + 1)).marks p 0 |>.pC p) 0)).le (by omega)
  split
  ·exact k3.le (by omega)
  have := CZ k1 k2 (58 + (N.it p).key.length + (gJ (v7 c n)).length) (some p) (some p) false (fun R r => ⟨(N.it p).key, gJ (v7 c n), (N.it p).fl, (N.it p).exp, R.k.now, R.v.bm + 1, 0⟩) (.t iJ) ⟨7, [], v7 c n, []⟩
  refine Kd.le (k3.tr k4 (t := 1) ?_) (by omega)
  revert this
  generalize N.room (58 + (N.it p).key.length + (gJ (v7 c n)).length) (some p) = o
  rcases o with ⟨_ | r, R⟩
  ·exact fun h => h
  exact fun h => h
 split
 ·unfold Mo.dQ
  rcases hm : M.meet (c.keys.headD []) with ⟨_ | p, N⟩ <;> obtain ⟨k1, k2, k3, k4⟩ := K1 _ _ _ hm
  ·exact k3.le (by omega)
  exact (k3.tr k4 (⟨rfl, rfl, rfl, rfl, Nat.le_succ _, CP N p _⟩ : Kd N ((N.time p (mX N.k.now c.ex)).pC p) 1)).le (by omega)
 split
 ·unfold Mo.delete
  rcases hm : M.meet (c.keys.headD []) with ⟨_ | p, N⟩ <;> obtain ⟨k1, k2, k3, k4⟩ := K1 _ _ _ hm
  ·exact k3.le (by omega)
  exact (k3.tr k4 (Kd.rf rfl rfl rfl rfl rfl rfl : Kd N (N.bR p) 0)).le (by omega)
 split
 ·exact (Kd.rf (M := M) (N := { M with k := M.k.flush c.ex M.v.bm, x := M.x.again }) rfl rfl rfl rfl rfl rfl).le (by omega)
 split
 ·exact (Kd.rf (N := M) rfl rfl rfl rfl rfl rfl).le (by omega)
 split
 ·exact (Kd.rf (N := M) rfl rfl rfl rfl rfl rfl).le (by omega)
 split
 ·exact (Kd.rf (N := M) rfl rfl rfl rfl rfl rfl).le (by omega)
 unfold Mo.cG
 rcases hm : M.meet (c.keys.headD []) with ⟨o, N⟩
 obtain ⟨k1, k2, k3, k4⟩ := K1 _ _ _ hm
 refine Kd.le (k3.tr k4 (t := 1) ?_) (by omega)
 dsimp only
 unfold Mo.gP
 split
 ·exact (C6 _ _ _).le (by omega)
 split
 ·exact (Kd.rf (N := N) rfl rfl rfl rfl rfl rfl).le (by omega)
 split
 ·exact (Kd.rf (N := N) rfl rfl rfl rfl rfl rfl).le (by omega)
 next x _ =>
 unfold Mo.lays
 exact CZ k1 k2 (58 + (c.keys.headD []).length + x.1.length) o o (zZ c.verb) (fun R r => ⟨c.keys.headD [], x.1, x.2.1, x.2.2, R.k.now, R.v.bm + 1, 0⟩) (.t iJ) (.k 1)
end Go.Proofs.YtpgbeapapmdkcaaGreatDoor
namespace Go.Proofs.YtpgbeapapmdkcaaGreatDoor
open Go Go.cQ Go.Proofs.YtpgbeapapmdkcaaGreatDoor.Cs
def wk : List UInt8 := [98, 97, 100, 32, 99, 111, 109, 109, 97, 110, 100]
noncomputable def Mo.dO (hot warm : Nat) (M : Mo) (c : eA) : eH × Mo :=
 if wi c = true then (.t wk, M.reset)
 else if bH c.verb = 0 then ((M.reset.fx c).1, (M.reset.fx c).2.beside)
 else ((M.reset.fx c).1, c.keys.foldl (Mo.behind hot warm) (M.reset.fx c).2)
structure Bk (M N : Mo) (t : Nat) : Prop where
 h : M.hole = none → N.hole = none
 st : N.m.st ≤ M.m.st + t
 p : N.v.p = M.v.p
 c : N.v.c = M.v.c
 bm : N.v.bm = M.v.bm
 tn : N.tn = M.tn
theorem Bk.refl (M : Mo) : Bk M M 0 := ⟨id, Nat.le_refl _, rfl, rfl, rfl, rfl⟩
theorem Bk.trans {M N O : Mo} {s t : Nat} (a : Bk M N s) (b : Bk N O t) : Bk M O (s + t) := ⟨fun h => b.h (a.h h), by have := a.st; have := b.st; omega, b.p.trans a.p, b.c.trans a.c, b.bm.trans a.bm, b.tn.trans a.tn⟩
theorem mS (M : Mo) : Bk M M.beside 1 := by
 obtain ⟨a1, a2, a3, a4, a5, a6, a7⟩ := o0 M.dM M.dM.k.now M.dM.v.p.c
 obtain ⟨b1, b2⟩ := fb M.dM.gN M.dM.gN.v.p.m
 have h1 : Bk M M.dM 0 := ⟨id, Nat.le_refl _, rfl, rfl, rfl, rfl⟩
 have h2 : Bk M.dM M.dM.gN 0 := ⟨fun h => a1.trans h, by show (M.dM.dC _ _).2.m.st ≤ _; rw [a2]; exact Nat.le_refl _, a3, a5, a6, a7⟩
 have h3 : Bk M.dM.gN M.dM.gN.iI 1 := ⟨b1.h, b2, b1.p, b1.c, b1.bm, b1.tn⟩
 exact (h1.trans h2).trans h3
theorem qn (hot warm : Nat) (M : Mo) (k : List UInt8) : Bk M (M.behind hot warm k) 1 := by
 have h : Bk M (M.lN hot warm k) 0 := by
  unfold Mo.lN
  split
  ·exact .refl M
  exact ⟨id, Nat.le_refl _, rfl, rfl, rfl, rfl⟩
 have := h.trans (mS (M.lN hot warm k))
 rwa [Nat.zero_add] at this
theorem n9 (hot warm : Nat) : ∀ (l : List (List UInt8)) (M : Mo), Bk M (l.foldl (Mo.behind hot warm) M) l.length
 | [], M => .refl M
 | k :: l, M => by
  have := (qn hot warm M k).trans (n9 hot warm l (M.behind hot warm k))
  rw [Nat.add_comm] at this
  exact this
theorem ZU (xM : oD) (z : Ly) (Nq : z.hot ≤ 100) (MX : z.warm ≤ 100) (M : Mo) (c : eA) (ka : Option Addr) (kc : Nat) (da : Option Addr) (dc : Nat) (mv : Value) (uh : mv.oneCell' = true) (hv : 5 ≤ c.verb ∧ c.verb ≤ 10) (hA : gq M 1) (hA2 : gq (M.reset.fx c).2 1) (Sg : c.keys.length < 1073741824) (xF : ∀ k ∈ c.keys, k.length < 281474976710656) (hex : c.ex < 9223372036854775808) (hda : c.data.length < 281474976710656) (QN : c.dl < 18446744073709551616)
  (hh : M.hole = none) (jA : M.m.st + c.keys.length < 4611686018427387904) (Hg : x9 M.v.p) (NW : M.v.c.lim ≤ 1048576) (we : M.v.bm + 1 < 18446744073709551616) (M5 : M.tn + c.keys.length < 18446744073709551615) :
  aL Tryz.prog 11 [.pointer (some ⟨z.s, 0, none⟩), .agg (gW c ka kc da dc mv).toArray] (fun h => fK h ka (qt c.keys) ∧ fK h da (aq c.data)) [SW z M] (HQ z (M.dO z.hot z.warm c)) := by
 refine ag Tryz.func11 rfl Tryz.ntmps11 rfl ?_
 rintro F ⟨hr, hd⟩
 refine aD ?_
 refine Lp (oB fun b1 => ?_)
 refine Lp (oA T.qq fun b2 => ?_)
 refine aD ?_
 refine Hh (H' := [SW z M, af b1 47 (gW c ka kc da dc mv), af b2 41 [.int .i64 0, cM, .int .u64 0, bC [], cM]]) ?_
 refine bE ?_
 refine Lp (oScN 21 T.Ws ?_)
 refine bw ?_
 refine Lp (oSc (i := 28) T.QZ ?_)
 change G _ _ _ _ _ [SW z M.reset, af b1 47 (gW c ka kc da dc mv), af b2 41 [.int .i64 0, cM, .int .u64 0, bC [], cM]]
 refine bb ?_
 refine zl T.ZL (Wj c ka kc da dc mv uh (by omega) xF) .nil (fun _ le _ => hr.mono le) ?_
 rcases hb : wi c with _ | _
 ·have tV : M.dO z.hot z.warm c = if bH c.verb = 0 then ((M.reset.fx c).1, (M.reset.fx c).2.beside) else ((M.reset.fx c).1, c.keys.foldl (Mo.behind z.hot z.warm) (M.reset.fx c).2) := by unfold Mo.dO; rw [hb, if_neg (by decide)]
  refine qx fun wa wc B O => ?_
  have KD := DN (M := M.reset) ⟨O.W7, O.R5.nd, O.R5.lv, O.R5.on⟩ hh c
  refine bO ?_
  refine Lp (oC T.ZK rfl rfl (TA z M.reset c ka kc da dc mv uh hv hA.sp hb Sg xF rfl hex hda QN hh (by show M.m.st < _; omega) NW we M5) (.cons .here .nil) (fun _ le _ => ⟨hr.mono le, hd.mono le⟩) ?_)
  rintro v H' ⟨ea, ec, l, hl, rfl, rfl⟩
  refine bo ?_
  generalize hR : M.reset.fx c = r at *
  obtain ⟨a, N⟩ := r
  dsimp only at KD hl tV hA2 ⊢
  have hN0 : N.hole = none := KD.ho.trans hh
  have hNs : N.m.st + c.keys.length < 4611686018427387904 := by have := KD.st; change N.m.st = M.m.st at this; omega
  have hNp : x9 N.v.p := by have := KD.p; change N.v.p = M.v.p at this; rw [this]; exact Hg
  refine Lp (oA T.qq fun b3 => ?_)
  refine Lp (j5 T.iG ?_ (h1 := by simp [iy, Value.oneCell', bC, cM]))
  refine bq ?_
  refine zl T.RH (yw c.verb) .nil (fun _ _ _ => trivial) ?_
  by_cases h0 : bH c.verb = 0
  ·exfalso
   unfold bH at h0
   rw [if_neg (by omega), if_pos (by omega)] at h0
   cases h0
  rw [if_neg h0] at tV
  refine bw ?_
  refine dq ?_ (e := by exact decide_eq_false h0)
  refine bx ?_
  refine Lo (ι := Nat × Mo) [33, 34, 35, 7, 36, 37, 38, 39, 32] (fun s => (s.1 ≤ c.keys.length ∧ s.2 = (c.keys.take s.1).foldl (Mo.behind z.hot z.warm) N)) (fun s => [(32, .int .i64 (s.1 : Int))]) (fun s => [SW z s.2, af b1 47 (gW c ka kc da dc mv), af b2 41 [.int .i64 0, cM, .int .u64 0, bC [], cM], af b3 41 (iy a.kind (.slice ea l.length ec) a.num a.tX), own ea ec 49 9 (yr l), sn l]) (fun s => c.keys.length - s.1) ((0, N)) ⟨Nat.zero_le _, rfl⟩ ?_
  rintro ⟨i, X⟩ hI
  dsimp only at hI ⊢
  obtain ⟨hi, hX⟩ := hI
  by_cases cJ : i < c.keys.length
  ·have Hk := CV c.keys i cJ
   have hsm : ka.isSome = true := by obtain ⟨ad, e, _⟩ := hr i _ Hk; rw [e]; rfl
   have Hi := xF _ (List.getElem_mem cJ)
   have hX2 : X.behind z.hot z.warm c.keys[i] = (c.keys.take (i + 1)).foldl (Mo.behind z.hot z.warm) N := by rw [List.take_add_one, List.getElem?_eq_getElem cJ, List.foldl_append, ← hX]; rfl
   have bk := n9 z.hot z.warm (c.keys.take i) N
   rw [← hX] at bk
   have Xu : (c.keys.take i).length = i := by rw [List.length_take]; omega
   rw [Xu] at bk
   have bst := bk.st
   have hAX : gq X 1 := by rw [hX]; exact hA2.ev (gq.mJ (j := 0) z.hot z.warm _ hA2)
   generalize c.keys[i] = k at *
   refine bL ?_
   refine ay ?_
   refine gK ?_
   refine bq ?_
   refine Li (Ix T.Cq) ?_
   refine bE ?_
   refine zl T.ZJ (BC xM z X k Hi (bk.h hN0) (by omega) (by rw [bk.p]; exact hNp) hAX Nq MX) (.cons .here .nil) (fun _ _ _ => trivial) ?_
   refine bE ?_
   refine aB ?_
   refine Ro ((i + 1, X.behind z.hot z.warm k)) (⟨cJ, hX2⟩) ((by dsimp only; omega))
  refine iS ?_
  refine bw ?_
  refine ay ?_
  refine dq ?_
  refine bO ?_
  refine Lp (j5 T.iG ?_ (h1 := by simp [iy, Value.oneCell', bC, cM]))
  refine bw ?_
  obtain rfl : i = c.keys.length := by omega
  rw [List.take_length] at hX
  rw [← hX] at tV
  refine Sx [own ea ec 49 9 (yr l), sn l, SW z X] T.iG Tryz.results11 ?_
  exact ⟨ea, ec, l, by rw [tV]; exact hl, by rw [tV]; rfl, by rw [tV]⟩
 have tV : M.dO z.hot z.warm c = (.t wk, M.reset) := by unfold Mo.dO; rw [hb, if_pos rfl]
 refine bL ?_
 refine zl T.yq (kF wk) .nil (fun _ _ _ => trivial) ?_
 unfold x7 iy cM
 refine Li (Fga Mk T.iG) ?_
 refine Lp (j5 T.iG ?_ (h1 := by simp [iy, Value.oneCell', bC, cM]))
 refine bL ?_
 refine cE 49 9 ?_
 refine th ?_
 refine Sx [own none 0 49 9 [], sn [], SW z M.reset] T.iG Tryz.results11 ?_
 exact ⟨none, 0, [], by rw [tV]; rfl, by rw [tV]; rfl, by rw [tV]; rfl⟩
theorem Oo (t b : Nat) (W : Tb) (y : mZ) : aL Tryz.prog 42 [.pointer (some ⟨t, 0, none⟩)] (In (af t 145 (dg b W y))) [] (fun v H => v = .int .i64 (W.n : Int) ∧ H = []) := by
 unfold dg
 refine ag Tryz.func42 rfl Tryz.ntmps42 rfl ?_
 intro F h0
 refine bP ?_
 refine Rt [] Tryz.results42 ?_
 exact ⟨rfl, rfl⟩
theorem Kv (z : Ly) (M : Mo) : aL Tryz.prog 42 [.pointer (some ⟨z.y.t, 0, none⟩)] (fun _ => True) [SW z M] (fun v H => v = .int .i64 (M.n : Int) ∧ H = [SW z M]) :=
 sQ fun wa wc B O => by
  have h := Oo z.y.t z.y.b B.W B.ty
  rw [show B.W.n = M.n from O.n] at h
  exact ⟨_, h, fun k k0 le h av => av.nth 1 rfl⟩
theorem CK (z : Ly) (M : Mo) : aL Tryz.prog 13 [.pointer (some ⟨z.s, 0, none⟩)] (fun _ => True) [SW z M] (fun v H => v = .int .i64 (M.n : Int) ∧ H = [SW z M]) := by
 refine ag Tryz.func13 rfl Tryz.ntmps13 rfl ?_
 intro F _
 refine cY ?_
 refine zl T.ZH (Kv z M) (.cons .here .nil) (fun _ _ _ => trivial) ?_
 refine bL ?_
 refine Rt [SW z M] Tryz.results13 ?_
 exact ⟨rfl, rfl⟩
def S5 : List Value := [bC [], .slice none 0 0, .int .u64 0, .int .i64 0, .int .u64 0, .int .i64 0, .bool false, .bool false, .bool false]
def Mo.live (M : Mo) (k : List UInt8) : Option Nat := match M.find k with
 | some p => if M.bz p = 0 then some p else none
 | none => none
def Z9 (z : Ly) (M : Mo) (o : Option Nat) (v : Value) (H : List aa) : Prop := match o with
 | some p => ∃ vb, v = .tuple #[.agg (x6 (M.it p) (.slice (some ⟨vb, 0, none⟩) (M.it p).val.length (M.it p).val.length)).toArray, .bool true] ∧ H = [own (some ⟨vb, 0, none⟩) (M.it p).val.length 5 1 (aq (M.it p).val), SW z M]
 | none => v = .tuple #[.agg S5.toArray, .bool false] ∧ H = [SW z M]
theorem y9 (z : Ly) (M : Mo) (k : List UInt8) (hk : k.length < 281474976710656) : aL Tryz.prog 12 [.pointer (some ⟨z.s, 0, none⟩), bC k] (fun _ => True) [SW z M] (Z9 z M (M.live k)) := by
 refine ag Tryz.func12 rfl Tryz.ntmps12 rfl ?_
 intro F _
 refine aD ?_
 refine Lp (oA T.ya fun b1 => ?_)
 refine bw ?_
 refine Hh (H' := [SW z M, af b1 49 S5]) ?_
 refine qx fun wa wc B O => ?_
 refine bO ?_
 refine Lp (xB T.qW T.jx T.og fun kb kc od => ?_)
 refine zl T.uR (EI z M (some ⟨kb, 0, none⟩) kc _ k rfl hk) (.cons (.there .here) .nil) (fun _ le av => bY (av.nth 0 rfl)) ?_
 unfold S5
 rcases hf : M.find k with _ | p
 ·refine Li Mv ?_
  refine bx ?_
  refine zt 21 ?_ (e := by rfl)
  refine gh ?_
  refine Ep [SW z M] T.nt Tryz.results12 ?_
  unfold Mo.live; rw [hf]; exact ⟨rfl, rfl⟩
 obtain ⟨hp, _⟩ := ky hf
 refine bP ?_
 refine zf 21 ?_ (e := by rfl)
 refine bw ?_
 refine zl T.RF (EJ z M p hp) (.cons .here .nil) (fun _ _ _ => trivial) ?_
 by_cases h0 : M.bz p = 0
 ·rw [h0]
  refine cX ?_
  refine Lp (oC T.ZI rfl rfl (ES z M p hp) (.cons .here .nil) (fun _ _ _ => trivial) ?_)
  rintro v H' ⟨vb, rfl, rfl⟩
  refine bo ?_
  refine Lp (j5 T.nt ?_ (h1 := by simp [x6, Value.oneCell', bC]))
  refine bL ?_
  refine Ep [own (some ⟨vb, 0, none⟩) (M.it p).val.length 5 1 (aq (M.it p).val), SW z M] T.nt Tryz.results12 ?_
  unfold Mo.live; rw [hf]; dsimp only; rw [if_pos h0]; exact ⟨vb, rfl, rfl⟩
 refine Li Pf ?_
 refine aD ?_
 refine gK ?_ (e := by exact decide_eq_true h0)
 refine bw ?_
 refine Lp (j5 T.nt ?_ (h1 := by simp [db, Value.cells, Value.oneCell', bC]))
 refine bb ?_
 refine Ep [SW z M] T.nt Tryz.results12 ?_
 unfold Mo.live; rw [hf]; dsimp only; rw [if_neg h0]; exact ⟨rfl, rfl⟩
end Go.Proofs.YtpgbeapapmdkcaaGreatDoor
