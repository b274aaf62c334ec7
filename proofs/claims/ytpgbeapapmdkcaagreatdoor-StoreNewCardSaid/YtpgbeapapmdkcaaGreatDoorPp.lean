/- Part Pp of the proof. -/
import Derived.Test.YtpgbeapapmdkcaaGreatDoorPc
import Derived.Test.YtpgbeapapmdkcaaGreatDoorPc1
import Derived.Test.YtpgbeapapmdkcaaGreatDoorPd
import Derived.Test.YtpgbeapapmdkcaaGreatDoorPn
import Derived.Test.YtpgbeapapmdkcaaGreatDoorPo
set_option maxRecDepth 100000
namespace Go.Proofs.YtpgbeapapmdkcaaGreatDoor
open Go Go.cQ Go.Proofs.YtpgbeapapmdkcaaGreatDoor.Cs
theorem zA (c : lA) : aL Tryz.prog 15 [.agg (fy c).toArray] (fun _ => True) []
  (fun v H => (gX c ≠ 0 ∧ v = .tuple #[.slice none 0 0, .int .i64 (gX c)] ∧ H = []) ∨ (gX c = 0 ∧ ∃ a cc, v = .tuple #[.slice a (bX c).length cc, .int .i64 0] ∧ H = [own a cc 3 1 (aH (bX c))])) := by
 obtain ⟨ai, bj, fac, aM, lim, hot, warm⟩ := c
 unfold fy
 dsimp only
 have dR : gX ⟨ai, bj, fac, aM, lim, hot, warm⟩ = if ja ⟨ai, bj, fac, aM, lim, hot, warm⟩ = true then if 62 < (bX ⟨ai, bj, fac, aM, lim, hot, warm⟩).length then 2 else if bj < ((bX ⟨ai, bj, fac, aM, lim, hot, warm⟩).length : Int) then 3 else 0 else 1 := rfl
 have Ab : ja ⟨ai, bj, fac, aM, lim, hot, warm⟩ = true ↔ (4096 ≤ ai ∧ ai ≤ 1048576 ∧ zY ai = 0) ∧ (1 ≤ bj ∧ bj ≤ 1024 ∧ 105 ≤ fac ∧ fac ≤ 400 ∧ 64 ≤ aM ∧ aM ≤ 512 ∧ aM % 8 = 0 ∧ aM ≤ lim ∧ lim ≤ ai) := by
  unfold ja
  rw [decide_eq_true_eq]
  dsimp only
  omega
 have hre := @OE ⟨ai, bj, fac, aM, lim, hot, warm⟩
 have QI := q9 fac.toNat (eB ⟨ai, bj, fac, aM, lim, hot, warm⟩) 62 aM.toNat
 have hse : bX ⟨ai, bj, fac, aM, lim, hot, warm⟩ = mY fac.toNat (eB ⟨ai, bj, fac, aM, lim, hot, warm⟩) 62 aM.toNat := rfl
 rw [← hse] at QI
 have hrl : Ei ⟨ai, bj, fac, aM, lim, hot, warm⟩ = jP fac.toNat (eB ⟨ai, bj, fac, aM, lim, hot, warm⟩) (eB ⟨ai, bj, fac, aM, lim, hot, warm⟩ - aM.toNat) aM.toNat ++ [eB ⟨ai, bj, fac, aM, lim, hot, warm⟩] := rfl
 have hla : eB ⟨ai, bj, fac, aM, lim, hot, warm⟩ = (lim.toNat + 7) / 8 * 8 := rfl
 generalize ja ⟨ai, bj, fac, aM, lim, hot, warm⟩ = rb at *
 generalize bX ⟨ai, bj, fac, aM, lim, hot, warm⟩ = sl at *
 generalize gX ⟨ai, bj, fac, aM, lim, hot, warm⟩ = ce at *
 generalize Ei ⟨ai, bj, fac, aM, lim, hot, warm⟩ = rl at *
 generalize eB ⟨ai, bj, fac, aM, lim, hot, warm⟩ = L at *
 refine ag Tryz.func15 rfl Tryz.ntmps15 rfl ?_
 intro F _
 refine aD ?_
 refine Lp (oB fun b1 => ?_)
 refine bL ?_
 refine ay ?_
 refine cR (ι := Bool) [9, 10, 11, 12, 13, 14, 15, 16, 17, 18, 19, 20, 21, 22, 23, 24, 25, 4] (fun b => b = decide (4096 ≤ ai ∧ ai ≤ 1048576 ∧ zY ai = 0)) (fun b => [(4, .bool b)]) (fun b => [af b1 23 [.int .i64 ai, .int .i64 bj, .int .i64 fac, .int .i64 aM, .int .i64 lim, .int .i64 hot, .int .i64 warm]]) ?_ ?_
 ·refine fE ?_
  refine bb ?_
  refine aJ (t := 12) rfl ?_ ?_
  ·intro cK
   replace cK := aF cK
   refine bq ?_
   refine aJ (t := 17) rfl ?_ ?_
   ·intro cL
    replace cL := aF cL
    refine bE ?_
    refine aw (t := 23) (v' := (.int .i64 (zY ai))) rfl (by (first | rfl | (refine congrArg (Value.int .i64) ?_; unfold zY; rw [wrap_i64 (by omega)]; rfl))) ?_
    refine Li (Cm) ?_
    refine bw ?_
    refine aB ?_
    refine Me (decide (4096 ≤ ai ∧ ai ≤ 1048576 ∧ zY ai = 0)) (rfl) (hs := ⟨(by refine congrArg (fun q => some (Value.bool q)) (Bool.eq_iff_iff.2 ?_); (try simp only [decide_eq_true_eq, Bool.false_eq_true, false_iff]); omega), trivial⟩)
   intro cL
   replace cL := aF cL
   refine cY ?_
   refine aB ?_
   refine Me (decide (4096 ≤ ai ∧ ai ≤ 1048576 ∧ zY ai = 0)) (rfl) (hs := ⟨(by refine congrArg (fun q => some (Value.bool q)) (Bool.eq_iff_iff.2 ?_); (try simp only [decide_eq_true_eq, Bool.false_eq_true, false_iff]); omega), trivial⟩)
  intro cK
  replace cK := aF cK
  refine gg ?_
  refine aB ?_
  refine Me (decide (4096 ≤ ai ∧ ai ≤ 1048576 ∧ zY ai = 0)) (rfl) (hs := ⟨(by refine congrArg (fun q => some (Value.bool q)) (Bool.eq_iff_iff.2 ?_); (try simp only [decide_eq_true_eq, Bool.false_eq_true, false_iff]); omega), trivial⟩)
 rintro b hb
 refine aD ?_
 refine ay ?_
 refine cR (ι := Bool) [26, 27, 28, 29, 30, 31, 32, 33, 34, 35, 36, 37, 38, 39, 40, 41, 42, 43, 44, 45, 46, 47, 48, 49, 50, 51, 52, 53, 54, 55, 56, 57, 58, 59, 60, 61, 62, 63, 64, 65, 66, 67, 68, 69, 70, 71, 72, 73, 74, 75, 76, 77] (fun b2 => b2 = !rb) (fun b2 => [(77, .bool b2)]) (fun b2 => [af b1 23 [.int .i64 ai, .int .i64 bj, .int .i64 fac, .int .i64 aM, .int .i64 lim, .int .i64 hot, .int .i64 warm]]) ?_ ?_
 ·refine fE ?_
  refine bL ?_
  refine aJ (t := 28) rfl ?_ ?_
  ·intro cK
   replace cK := aF cK
   refine ca ?_
   refine ca ?_
   refine cY ?_
   refine aB ?_
   refine Me (!rb) (rfl) (hs := ⟨(by refine congrArg (fun q => some (Value.bool q)) (Bool.eq_iff_iff.2 ?_); rw [Bool.not_eq_true', ← Bool.not_eq_true, Ab]; simp only [hb, Bool.not_eq_true', Bool.not_eq_false', decide_eq_true_eq, decide_eq_false_iff_not, Bool.false_eq_true, true_iff, false_iff] at *; omega), trivial⟩)
  intro cK
  replace cK := aF cK
  refine bq ?_
  refine aJ (t := 33) rfl ?_ ?_
  ·intro cL
   replace cL := aF cL
   refine ca ?_
   refine ca ?_
   refine bb ?_
   refine aB ?_
   refine Me (!rb) (rfl) (hs := ⟨(by refine congrArg (fun q => some (Value.bool q)) (Bool.eq_iff_iff.2 ?_); rw [Bool.not_eq_true', ← Bool.not_eq_true, Ab]; simp only [hb, Bool.not_eq_true', Bool.not_eq_false', decide_eq_true_eq, decide_eq_false_iff_not, Bool.false_eq_true, true_iff, false_iff] at *; omega), trivial⟩)
  intro cL
  replace cL := aF cL
  refine bq ?_
  refine aJ (t := 38) rfl ?_ ?_
  ·intro cx
   replace cx := aF cx
   refine ca ?_
   refine xU ?_
   refine aB ?_
   refine Me (!rb) (rfl) (hs := ⟨(by refine congrArg (fun q => some (Value.bool q)) (Bool.eq_iff_iff.2 ?_); rw [Bool.not_eq_true', ← Bool.not_eq_true, Ab]; simp only [hb, Bool.not_eq_true', Bool.not_eq_false', decide_eq_true_eq, decide_eq_false_iff_not, Bool.false_eq_true, true_iff, false_iff] at *; omega), trivial⟩)
  intro cx
  replace cx := aF cx
  refine bq ?_
  refine aJ (t := 43) rfl ?_ ?_
  ·intro bQ
   replace bQ := aF bQ
   refine ca ?_
   refine gg ?_
   refine aB ?_
   refine Me (!rb) (rfl) (hs := ⟨(by refine congrArg (fun q => some (Value.bool q)) (Bool.eq_iff_iff.2 ?_); rw [Bool.not_eq_true', ← Bool.not_eq_true, Ab]; simp only [hb, Bool.not_eq_true', Bool.not_eq_false', decide_eq_true_eq, decide_eq_false_iff_not, Bool.false_eq_true, true_iff, false_iff] at *; omega), trivial⟩)
  intro bQ
  replace bQ := aF bQ
  refine bq ?_
  refine aJ (t := 48) rfl ?_ ?_
  ·intro cF
   replace cF := aF cF
   refine ca ?_
   refine cY ?_
   refine aB ?_
   refine Me (!rb) (rfl) (hs := ⟨(by refine congrArg (fun q => some (Value.bool q)) (Bool.eq_iff_iff.2 ?_); rw [Bool.not_eq_true', ← Bool.not_eq_true, Ab]; simp only [hb, Bool.not_eq_true', Bool.not_eq_false', decide_eq_true_eq, decide_eq_false_iff_not, Bool.false_eq_true, true_iff, false_iff] at *; omega), trivial⟩)
  intro cF
  replace cF := aF cF
  refine bq ?_
  refine aJ (t := 53) rfl ?_ ?_
  ·intro fS
   replace fS := aF fS
   refine ca ?_
   refine bb ?_
   refine aB ?_
   refine Me (!rb) (rfl) (hs := ⟨(by refine congrArg (fun q => some (Value.bool q)) (Bool.eq_iff_iff.2 ?_); rw [Bool.not_eq_true', ← Bool.not_eq_true, Ab]; simp only [hb, Bool.not_eq_true', Bool.not_eq_false', decide_eq_true_eq, decide_eq_false_iff_not, Bool.false_eq_true, true_iff, false_iff] at *; omega), trivial⟩)
  intro fS
  replace fS := aF fS
  refine bq ?_
  refine aJ (t := 58) rfl ?_ ?_
  ·intro lK
   replace lK := aF lK
   refine xU ?_
   refine aB ?_
   refine Me (!rb) (rfl) (hs := ⟨(by refine congrArg (fun q => some (Value.bool q)) (Bool.eq_iff_iff.2 ?_); rw [Bool.not_eq_true', ← Bool.not_eq_true, Ab]; simp only [hb, Bool.not_eq_true', Bool.not_eq_false', decide_eq_true_eq, decide_eq_false_iff_not, Bool.false_eq_true, true_iff, false_iff] at *; omega), trivial⟩)
  intro lK
  replace lK := aF lK
  refine bw ?_
  refine Li (Im) ?_
  refine aw (t := 61) (v' := (.int .i64 (aM % 8))) rfl (by exact congrArg (Value.int .i64) (Int.tmod_eq_emod_of_nonneg (by omega))) ?_
  refine bL ?_
  refine aJ (t := 64) rfl ?_ ?_
  ·intro Xx
   replace Xx := aF Xx
   refine gh ?_
   refine aB ?_
   refine Me (!rb) (rfl) (hs := ⟨(by refine congrArg (fun q => some (Value.bool q)) (Bool.eq_iff_iff.2 ?_); rw [Bool.not_eq_true', ← Bool.not_eq_true, Ab]; simp only [hb, Bool.not_eq_true', Bool.not_eq_false', decide_eq_true_eq, decide_eq_false_iff_not, Bool.false_eq_true, true_iff, false_iff] at *; omega), trivial⟩)
  intro Xx
  replace Xx := aF Xx
  refine bO ?_
  refine aJ (t := 71) rfl ?_ ?_
  ·intro D8
   replace D8 := aF D8
   refine bE ?_
   refine aB ?_
   refine Me (!rb) (rfl) (hs := ⟨(by refine congrArg (fun q => some (Value.bool q)) (Bool.eq_iff_iff.2 ?_); rw [Bool.not_eq_true', ← Bool.not_eq_true, Ab]; simp only [hb, Bool.not_eq_true', Bool.not_eq_false', decide_eq_true_eq, decide_eq_false_iff_not, Bool.false_eq_true, true_iff, false_iff] at *; omega), trivial⟩)
  intro D8
  replace D8 := aF D8
  refine bE ?_
  refine aB ?_
  refine Me (!rb) (rfl) (hs := ⟨(by refine congrArg (fun q => some (Value.bool q)) (Bool.eq_iff_iff.2 ?_); rw [Bool.not_eq_true', ← Bool.not_eq_true, Ab]; simp only [hb, Bool.not_eq_true', Bool.not_eq_false', decide_eq_true_eq, decide_eq_false_iff_not, Bool.false_eq_true, true_iff, false_iff] at *; omega), trivial⟩)
 rintro b2 cx
 subst cx
 rcases rb with _ | _
 ·rw [if_neg (by decide)] at dR
  refine bO ?_
  refine gn [] Tryz.results15 ?_
  exact .inl (by rw [dR]; exact ⟨by decide, rfl, rfl⟩)
 obtain ⟨⟨h1, h2, h3⟩, h4, h5, h6, h7, h8, h9, h10, Xz, HD⟩ := Ab.1 rfl
 obtain ⟨r1, r2⟩ := hre rfl
 rw [if_pos rfl] at dR
 obtain ⟨fac, rfl⟩ : ∃ f : Nat, fac = f := ⟨fac.toNat, by omega⟩
 obtain ⟨aM, rfl⟩ : ∃ f : Nat, aM = f := ⟨aM.toNat, by omega⟩
 obtain ⟨lim, rfl⟩ : ∃ f : Nat, lim = f := ⟨lim.toNat, by omega⟩
 rw [Int.toNat_natCast, Int.toNat_natCast] at hrl
 rw [Int.toNat_natCast] at hla
 have hlb : L ≤ 1048583 := by omega
 refine bO ?_
 refine aw (t := 80) (v' := (.int .i64 ((lim + 7 : Nat) : Int))) rfl (by exact congrArg (Value.int .i64) rfl) ?_
 refine Li (Qu (q := 8)) ?_
 refine aD ?_
 refine aw (t := 82) (v' := (.int .i64 (L : Int))) rfl (by exact congrArg (Value.int .i64) (by omega)) ?_
 refine ed ?_
 refine cE 3 1 ?_
 refine Lo (ι := List Nat × Nat × Option Addr × Nat) [85, 86, 87, 88, 89, 90, 91, 6, 92, 93, 94, 95, 96, 97, 8, 98, 99, 100, 101, 102, 103, 104, 105, 106, 107, 108, 7] (fun s => (64 ≤ s.2.1 ∧ s.2.1 ≤ 4200000 ∧ s.2.1 % 8 = 0 ∧ s.1.length ≤ s.2.1) ∧ s.1 ++ jP fac L (L - s.2.1) s.2.1 = jP fac L (L - aM) aM) (fun s => [(6, .slice s.2.2.1 s.1.length s.2.2.2), (7, .int .i64 (s.2.1 : Int))]) (fun s => [own s.2.2.1 s.2.2.2 3 1 (aH s.1), af b1 23 [.int .i64 ai, .int .i64 bj, .int .i64 (fac : Int), .int .i64 (aM : Int), .int .i64 (lim : Int), .int .i64 hot, .int .i64 warm]]) (fun s => L - s.2.1) (([], aM, none, 0)) ⟨⟨by dsimp only; omega, by dsimp only; omega, by dsimp only; omega, Nat.zero_le _⟩, rfl⟩ ?_
 rintro ⟨l, n, a, cc⟩ hI
 dsimp only at hI ⊢
 obtain ⟨⟨i1, i2, i3, i5⟩, i4⟩ := hI
 by_cases cJ : n < L
 ·have hnf : n * fac ≤ 1048583 * 400 := Nat.mul_le_mul (by omega) (by omega)
  have hnf2 : n * 105 ≤ n * fac := Nat.mul_le_mul_left n (by omega)
  have WH : vT fac n = ((n * fac + 99) / 100 + 7) / 8 * 8 := by unfold vT; omega
  rw [pW fac L n cJ, WH] at i4
  refine bE ?_
  refine gK ?_
  refine bE ?_
  refine Lp (oT T.dZ fun b2 => ?_)
  refine Lp (bf T.dZ T.lZ rfl rfl rfl rfl .here (by simp [aH]) (rfl) (by simp [Value.oneCell']) (by first | omega | (simp; omega)) (by first | omega | (simp; omega)) rfl fun a2 c2 vV => ?_)
  refine bO ?_
  refine aw (t := 95) (v' := (.int .i64 ((n * fac : Nat) : Int))) rfl (by exact congrArg (Value.int .i64) (by first | rfl | (rw [← Int.natCast_mul]; exact wrap_i64 (by omega)))) ?_
  generalize n * fac = nf at *
  refine aD ?_
  refine aw (t := 96) (v' := (.int .i64 ((nf + 99 : Nat) : Int))) rfl (by exact congrArg (Value.int .i64) rfl) ?_
  refine Li (Qu (q := 100)) ?_
  refine aw (t := 97) (v' := (.int .i64 (((nf + 99) / 100 : Nat) : Int))) rfl (by exact congrArg (Value.int .i64) (by omega)) ?_
  refine bq ?_
  refine aw (t := 99) (v' := (.int .i64 (((nf + 99) / 100 + 7 : Nat) : Int))) rfl (by exact congrArg (Value.int .i64) rfl) ?_
  refine Li (Qu (q := 8)) ?_
  refine aD ?_
  refine aw (t := 101) (v' := (.int .i64 ((((nf + 99) / 100 + 7) / 8 * 8 : Nat) : Int))) rfl (by exact congrArg (Value.int .i64) (by omega)) ?_
  have Ce : n + 8 ≤ ((nf + 99) / 100 + 7) / 8 * 8 := by omega
  have hle : ((nf + 99) / 100 + 7) / 8 * 8 ≤ 4200000 := by omega
  have hm8 : ((nf + 99) / 100 + 7) / 8 * 8 % 8 = 0 := by omega
  generalize ((nf + 99) / 100 + 7) / 8 * 8 = m at *
  refine cY ?_
  refine dq ?_
  refine bO ?_
  rw [show aH l ++ [Value.int .i64 (n : Int)] = aH (l ++ [n]) from (fZ l [n]).symm, show l.length + 1 = (l ++ [n]).length by simp]
  have Xo : (l ++ [n]) ++ jP fac L (L - m) m = jP fac L (L - aM) aM := by rw [← i4, List.append_assoc]; rfl
  have Ae : (l ++ [n]).length = l.length + 1 := by simp
  generalize l ++ [n] = l2 at *
  refine Ro ((l2, m, a2, c2)) (⟨⟨(by dsimp only; omega), (by dsimp only; omega), (by dsimp only; omega), (by dsimp only; omega)⟩, Xo⟩) ((by dsimp only; omega))
 rw [jk fac L _ n (by omega), List.append_nil] at i4
 rw [← i4] at hrl
 refine bE ?_
 refine dq ?_
 refine cX ?_
 refine Lp (oT T.dZ fun b3 => ?_)
 refine Lp (bf T.dZ T.lZ rfl rfl rfl rfl .here (by simp [aH]) (rfl) (by simp [Value.oneCell']) (by first | omega | (simp; omega)) (by first | omega | (simp; omega)) rfl fun a2 c2 vV => ?_)
 rw [show aH l ++ [Value.int .i64 (L : Int)] = aH (l ++ [L]) from (fZ l [L]).symm, show l.length + 1 = (l ++ [L]).length by simp, ← hrl]
 have hrlen : rl.length ≤ 4200001 := by rw [hrl, List.length_append, List.length_singleton]; omega
 by_cases g1 : 62 < rl.length
 ·rw [if_pos (r1.1 g1)] at dR
  refine cX ?_
  refine gK ?_
  refine bE ?_
  refine gn [] Tryz.results15 ?_
  exact .inl (by rw [dR]; exact ⟨by decide, rfl, rfl⟩)
 rw [if_neg (fun h => g1 (r1.2 h))] at dR
 have er := r2 g1
 subst er
 by_cases g2 : bj < (rl.length : Int)
 ·rw [if_pos g2] at dR
  refine cX ?_
  refine dq ?_
  refine bx ?_
  refine gK ?_
  refine bE ?_
  refine gn [] Tryz.results15 ?_
  exact .inl (by rw [dR]; exact ⟨by decide, rfl, rfl⟩)
 rw [if_neg g2] at dR
 refine cX ?_
 refine dq ?_
 refine bx ?_
 refine dq ?_
 refine cX ?_
 refine gn [own a2 c2 3 1 (aH rl)] Tryz.results15 ?_
 exact .inr ⟨dR, a2, c2, rfl, rfl⟩
theorem E7 {l : List Nat} {i : Nat} (h : i < l.length) : (aH l)[i]? = some (.int .i64 (l[i] : Int)) := by
 unfold aH
 rw [List.getElem?_map, List.getElem?_eq_getElem h]; rfl
set_option maxHeartbeats 2000000 in
theorem pX (c : lA) (pc : uH) : aL Tryz.prog 9 [.agg (fy c).toArray, .agg (qN pc).toArray] (fun _ => True) []
  (fun v H => ∃ p : Option Addr, v = .tuple #[.pointer p, .int .i64 (ke c pc)] ∧ H = []) := by
 have rs := zA c
 have fu : ke c pc = if gX c = 0 then if 1 ≤ c.hot ∧ 1 ≤ c.warm ∧ c.hot + c.warm ≤ 90 then if yg pc = true then 0 else 1 else 1 else gX c := rfl
 have Nu : yg pc = true ↔ ((0 ≤ pc.b ∧ pc.b ≤ 1048576) ∧ (0 ≤ pc.l ∧ pc.l ≤ 1048576) ∧ (0 ≤ pc.c ∧ pc.c ≤ 1048576) ∧ (0 ≤ pc.m ∧ pc.m ≤ 1048576)) := decide_eq_true_iff
 have nB := fun h => @ru c h
 have hf : gX c = 0 → (1 ≤ (bX c).length ∧ (bX c).length ≤ 62 ∧ ∀ z ∈ bX c, 64 ≤ z ∧ z ≤ c.ai.toNat) ∧ (c.ai = (c.ai.toNat : Int) ∧ c.ai.toNat ≤ 1048576 ∧ c.bj = (c.bj.toNat : Int) ∧ c.bj.toNat ≤ 1024) := fun h => by
  obtain ⟨K, e1, e2, _⟩ := nB h
  exact ⟨⟨K.l0, K.l1, fun z hz => ⟨(K.s0 z hz).1, (K.s0 z hz).2.1⟩⟩, e1, K.p1, e2, K.n1⟩
 clear nB
 obtain ⟨ai, bj, fac, aM, lim, hot, warm⟩ := c
 obtain ⟨xb, xl, xc, xm⟩ := pc
 unfold fy at rs ⊢
 unfold qN
 dsimp only at rs fu Nu hf ⊢
 generalize ke ⟨ai, bj, fac, aM, lim, hot, warm⟩ ⟨xb, xl, xc, xm⟩ = ne at *
 generalize gX ⟨ai, bj, fac, aM, lim, hot, warm⟩ = ce at *
 generalize bX ⟨ai, bj, fac, aM, lim, hot, warm⟩ = sl at *
 generalize yg ⟨xb, xl, xc, xm⟩ = pb at *
 refine ag Tryz.func9 rfl Tryz.ntmps9 rfl ?_
 intro F _
 refine aD ?_
 refine Lp (oB fun b1 => ?_)
 refine Lp (oB fun b2 => ?_)
 refine bq ?_
 refine Lp (oC T.ZQ rfl rfl (rs) .nil (fun _ _ _ => trivial) ?_)
 rintro v H' hr
 refine bo ?_
 rcases hr with ⟨h1, rfl, rfl⟩ | ⟨rfl, a, cc, rfl, rfl⟩
 ·refine Li Mv ?_
  refine bx ?_
  refine gK ?_ (e := by exact congrArg (!·) (decide_eq_false h1))
  refine bO ?_
  refine gn [] Tryz.results9 ?_
  exact ⟨none, by rw [fu, if_neg h1], rfl⟩
 obtain ⟨⟨k1, k2, k3⟩, k4, k5, k6, k7⟩ := hf rfl
 rw [if_pos rfl] at fu
 refine oo ?_
 refine ay ?_
 obtain ⟨hw, Sj⟩ : ∃ q : Bool, (q = true ↔ 1 ≤ hot ∧ 1 ≤ warm ∧ hot + warm ≤ 90) := ⟨decide _, decide_eq_true_iff⟩
 refine cR (ι := Bool) [19, 20, 21, 22, 23, 24, 25, 26, 27, 28, 29, 30, 31, 32, 33, 34, 35, 36, 37, 38, 39, 40, 41, 42, 43, 44] (fun W4 => W4 = !hw) (fun W4 => [(44, .bool W4)]) (fun W4 => [own a cc 3 1 (aH sl), af b1 23 [.int .i64 ai, .int .i64 bj, .int .i64 fac, .int .i64 aM, .int .i64 lim, .int .i64 hot, .int .i64 warm], af b2 25 [.int .i64 xb, .int .i64 xl, .int .i64 xc, .int .i64 xm]]) ?_ ?_
 ·refine fE ?_
  refine bb ?_
  refine aJ (t := 22) rfl ?_ ?_
  ·intro cK
   replace cK := aF cK
   refine ca ?_
   refine bw ?_
   refine aB ?_
   refine Me (!hw) (rfl) (hs := ⟨(by refine congrArg (fun q => some (Value.bool q)) (Bool.eq_iff_iff.2 ?_); rw [Bool.not_eq_true', ← Bool.not_eq_true, Sj]; (try simp only [decide_eq_true_eq, true_iff]); omega), trivial⟩)
  intro cK
  replace cK := aF cK
  refine bq ?_
  refine aJ (t := 27) rfl ?_ ?_
  ·intro cL
   replace cL := aF cL
   refine mV ?_
   refine aB ?_
   refine Me (!hw) (rfl) (hs := ⟨(by refine congrArg (fun q => some (Value.bool q)) (Bool.eq_iff_iff.2 ?_); rw [Bool.not_eq_true', ← Bool.not_eq_true, Sj]; (try simp only [decide_eq_true_eq, true_iff]); omega), trivial⟩)
  intro cL
  replace cL := aF cL
  refine bq ?_
  refine aJ (t := 32) rfl ?_ ?_
  ·intro cx
   replace cx := aF cx
   refine ed ?_
   refine aB ?_
   refine Me (!hw) (rfl) (hs := ⟨(by refine congrArg (fun q => some (Value.bool q)) (Bool.eq_iff_iff.2 ?_); rw [Bool.not_eq_true', ← Bool.not_eq_true, Sj]; (try simp only [decide_eq_true_eq, true_iff]); omega), trivial⟩)
  intro cx
  replace cx := aF cx
  refine bq ?_
  refine aJ (t := 37) rfl ?_ ?_
  ·intro bQ
   replace bQ := aF bQ
   refine bO ?_
   refine aB ?_
   refine Me (!hw) (rfl) (hs := ⟨(by refine congrArg (fun q => some (Value.bool q)) (Bool.eq_iff_iff.2 ?_); rw [Bool.not_eq_true', ← Bool.not_eq_true, Sj]; (try simp only [decide_eq_true_eq, true_iff]); omega), trivial⟩)
  intro bQ
  replace bQ := aF bQ
  refine bO ?_
  refine aB ?_
  refine Me (!hw) (rfl) (hs := ⟨(by refine congrArg (fun q => some (Value.bool q)) (Bool.eq_iff_iff.2 ?_); rw [Bool.not_eq_true', ← Bool.not_eq_true, Sj]; (try simp only [decide_eq_true_eq, true_iff]); omega), trivial⟩)
 rintro W4 hb
 subst hb
 rcases hw with _ | _
 ·rw [if_neg (fun h => by have := Sj.2 h; cases this)] at fu
  refine bO ?_
  refine gn [] Tryz.results9 ?_
  exact ⟨none, by rw [fu], rfl⟩
 rw [if_pos (Sj.1 rfl)] at fu
 refine bb ?_
 refine ay ?_
 refine cR (ι := Bool) [45, 46, 47, 48, 49, 50, 51, 52, 53, 54, 55, 56, 57, 58, 59, 60, 61, 62, 63, 64, 65, 66, 67, 68, 69, 70, 71, 72, 73, 74, 75, 76, 77, 78, 79, 80, 81, 82] (fun W3 => W3 = !pb) (fun W3 => [(82, .bool W3)]) (fun W3 => [own a cc 3 1 (aH sl), af b1 23 [.int .i64 ai, .int .i64 bj, .int .i64 fac, .int .i64 aM, .int .i64 lim, .int .i64 hot, .int .i64 warm], af b2 25 [.int .i64 xb, .int .i64 xl, .int .i64 xc, .int .i64 xm]]) ?_ ?_
 ·refine fE ?_
  refine bb ?_
  refine aJ (t := 48) rfl ?_ ?_
  ·intro cK
   replace cK := aF cK
   refine ca ?_
   refine gg ?_
   refine aB ?_
   refine Me (!pb) (rfl) (hs := ⟨(by refine congrArg (fun q => some (Value.bool q)) (Bool.eq_iff_iff.2 ?_); rw [Bool.not_eq_true', ← Bool.not_eq_true, Nu]; (try simp only [decide_eq_true_eq, true_iff]); omega), trivial⟩)
  intro cK
  replace cK := aF cK
  refine bq ?_
  refine aJ (t := 53) rfl ?_ ?_
  ·intro cL
   replace cL := aF cL
   refine ca ?_
   refine cY ?_
   refine aB ?_
   refine Me (!pb) (rfl) (hs := ⟨(by refine congrArg (fun q => some (Value.bool q)) (Bool.eq_iff_iff.2 ?_); rw [Bool.not_eq_true', ← Bool.not_eq_true, Nu]; (try simp only [decide_eq_true_eq, true_iff]); omega), trivial⟩)
  intro cL
  replace cL := aF cL
  refine bq ?_
  refine aJ (t := 58) rfl ?_ ?_
  ·intro cx
   replace cx := aF cx
   refine ca ?_
   refine bb ?_
   refine aB ?_
   refine Me (!pb) (rfl) (hs := ⟨(by refine congrArg (fun q => some (Value.bool q)) (Bool.eq_iff_iff.2 ?_); rw [Bool.not_eq_true', ← Bool.not_eq_true, Nu]; (try simp only [decide_eq_true_eq, true_iff]); omega), trivial⟩)
  intro cx
  replace cx := aF cx
  refine bq ?_
  refine aJ (t := 63) rfl ?_ ?_
  ·intro bQ
   replace bQ := aF bQ
   refine xU ?_
   refine aB ?_
   refine Me (!pb) (rfl) (hs := ⟨(by refine congrArg (fun q => some (Value.bool q)) (Bool.eq_iff_iff.2 ?_); rw [Bool.not_eq_true', ← Bool.not_eq_true, Nu]; (try simp only [decide_eq_true_eq, true_iff]); omega), trivial⟩)
  intro bQ
  replace bQ := aF bQ
  refine bq ?_
  refine aJ (t := 68) rfl ?_ ?_
  ·intro cF
   replace cF := aF cF
   refine gg ?_
   refine aB ?_
   refine Me (!pb) (rfl) (hs := ⟨(by refine congrArg (fun q => some (Value.bool q)) (Bool.eq_iff_iff.2 ?_); rw [Bool.not_eq_true', ← Bool.not_eq_true, Nu]; (try simp only [decide_eq_true_eq, true_iff]); omega), trivial⟩)
  intro cF
  replace cF := aF cF
  refine bq ?_
  refine aJ (t := 73) rfl ?_ ?_
  ·intro fS
   replace fS := aF fS
   refine cY ?_
   refine aB ?_
   refine Me (!pb) (rfl) (hs := ⟨(by refine congrArg (fun q => some (Value.bool q)) (Bool.eq_iff_iff.2 ?_); rw [Bool.not_eq_true', ← Bool.not_eq_true, Nu]; (try simp only [decide_eq_true_eq, true_iff]); omega), trivial⟩)
  intro fS
  replace fS := aF fS
  refine bq ?_
  refine aJ (t := 78) rfl ?_ ?_
  ·intro lK
   replace lK := aF lK
   refine bb ?_
   refine aB ?_
   refine Me (!pb) (rfl) (hs := ⟨(by refine congrArg (fun q => some (Value.bool q)) (Bool.eq_iff_iff.2 ?_); rw [Bool.not_eq_true', ← Bool.not_eq_true, Nu]; (try simp only [decide_eq_true_eq, true_iff]); omega), trivial⟩)
  intro lK
  replace lK := aF lK
  refine bb ?_
  refine aB ?_
  refine Me (!pb) (rfl) (hs := ⟨(by refine congrArg (fun q => some (Value.bool q)) (Bool.eq_iff_iff.2 ?_); rw [Bool.not_eq_true', ← Bool.not_eq_true, Nu]; (try simp only [decide_eq_true_eq, true_iff]); omega), trivial⟩)
 rintro W3 cx
 subst cx
 rcases pb with _ | _
 ·refine gK ?_ (e := by rfl)
  refine bE ?_
  refine gn [] Tryz.results9 ?_
  exact ⟨none, by rw [fu]; rfl, rfl⟩
 obtain rfl : ne = 0 := fu
 refine bO ?_
 refine aw (t := 83) (v' := (.agg #[.int .i64 ai, .int .i64 bj, .int .i64 fac, .int .i64 aM, .int .i64 lim, .int .i64 hot, .int .i64 warm])) rfl (by rfl) ?_
 refine aw (t := 84) (v' := (.agg #[.int .i64 xb, .int .i64 xl, .int .i64 xc, .int .i64 xm])) rfl (by rfl) ?_
 refine aD ?_
 refine aw (t := 86) (v' := (.agg #[.int .i64 ai, .int .i64 bj, .int .i64 fac, .int .i64 aM, .int .i64 lim, .int .i64 hot, .int .i64 warm, .int .i64 xb, .int .i64 xl, .int .i64 xc, .int .i64 xm, .slice a sl.length cc, .slice none 0 0, .slice none 0 0, .slice none 0 0, .slice none 0 0, .slice none 0 0, .int .i64 1, .int .u64 0, .int .u64 0, .int .i64 0, .int .i64 0, .int .i64 16, .int .i64 0, .int .i64 0, .int .i64 0, .int .i64 0, .pointer none, .int .i64 0, .bool false, .slice none 0 0, .int .i64 (-1), .int .i64 0, .int .i64 0, .int .i64 0, .int .i64 0, .int .i64 0, .int .i64 0, .int .i64 0, .int .i64 0, .slice none 0 0])) rfl (by (simp only [Value.cells, db, List.set_cons_zero, List.set_cons_succ]; first | rfl | done)) ?_
 refine Lp (oB fun b3 => ?_)
 refine bO ?_
 refine cE 3 1 ?_
 refine cE 55 1 ?_
 refine cE 3 1 ?_
 refine cE 103 3 ?_
 obtain ⟨ai, rfl⟩ : ∃ f : Nat, ai = f := ⟨ai.toNat, k4⟩
 obtain ⟨bj, rfl⟩ : ∃ f : Nat, bj = f := ⟨bj.toNat, k6⟩
 rw [Int.toNat_natCast] at k5 k7
 simp only [Int.toNat_natCast] at k3
 refine Hh (H' := [af b3 102 [.int .i64 (ai : Int), .int .i64 (bj : Int), .int .i64 fac, .int .i64 aM, .int .i64 lim, .int .i64 hot, .int .i64 warm, .int .i64 xb, .int .i64 xl, .int .i64 xc, .int .i64 xm, .slice a sl.length cc, .slice none 0 0, .slice none 0 0, .slice none 0 0, .slice none 0 0, .slice none 0 0, .int .i64 1, .int .u64 0, .int .u64 0, .int .i64 0, .int .i64 0, .int .i64 16, .int .i64 0, .int .i64 0, .int .i64 0, .int .i64 0, .pointer none, .int .i64 0, .bool false, .slice none 0 0, .int .i64 (-1), .int .i64 0, .int .i64 0, .int .i64 0, .int .i64 0, .int .i64 0, .int .i64 0, .int .i64 0, .int .i64 0, .slice none 0 0], own a cc 3 1 (aH sl), af b1 23 [.int .i64 (ai : Int), .int .i64 (bj : Int), .int .i64 fac, .int .i64 aM, .int .i64 lim, .int .i64 hot, .int .i64 warm], own none 0 3 1 [], own none 0 55 1 [], own none 0 3 1 [], own none 0 103 3 []]) ?_
 refine jf (eS (.there .here) (fun _ o => hJ o (by unfold aH; rw [List.length_map]; omega))) fun QO => ?_
 refine Lo (ι := Nat × (Option Addr × Nat) × (Option Addr × Nat) × (Option Addr × Nat) × (Option Addr × Nat)) [88, 89, 90, 91, 94, 95, 96, 97, 98, 99, 100, 101, 102, 103, 104, 105, 106, 107, 108, 109, 110, 111, 112, 113, 114, 115, 116, 117, 118, 119, 120, 121, 122, 123, 124, 125, 126, 127, 128, 129, 130, 131, 132, 133, 134, 135, 136, 137, 92, 93, 9] (fun s => s.1 ≤ sl.length) (fun s => [(9, .int .i64 (s.1 : Int))]) (fun s => [af b3 102 [.int .i64 (ai : Int), .int .i64 (bj : Int), .int .i64 fac, .int .i64 aM, .int .i64 lim, .int .i64 hot, .int .i64 warm, .int .i64 xb, .int .i64 xl, .int .i64 xc, .int .i64 xm, .slice a sl.length cc, .slice s.2.1.1 s.1 s.2.1.2, .slice none 0 0, .slice s.2.2.1.1 s.1 s.2.2.1.2, .slice none 0 0, .slice s.2.2.2.2.1 s.1 s.2.2.2.2.2, .int .i64 1, .int .u64 0, .int .u64 0, .int .i64 0, .int .i64 0, .int .i64 16, .int .i64 0, .int .i64 0, .int .i64 0, .int .i64 0, .pointer none, .int .i64 0, .bool false, .slice s.2.2.2.1.1 s.1 s.2.2.2.1.2, .int .i64 (-1), .int .i64 0, .int .i64 0, .int .i64 0, .int .i64 0, .int .i64 0, .int .i64 0, .int .i64 0, .int .i64 0, .slice none 0 0], own a cc 3 1 (aH sl), af b1 23 [.int .i64 (ai : Int), .int .i64 (bj : Int), .int .i64 fac, .int .i64 aM, .int .i64 lim, .int .i64 hot, .int .i64 warm], own s.2.1.1 s.2.1.2 3 1 (aH ((sl.take s.1).map fun z => ai / z)), own s.2.2.1.1 s.2.2.1.2 55 1 (List.replicate s.1 (.slice none 0 0)), own s.2.2.2.1.1 s.2.2.2.1.2 3 1 (List.replicate s.1 (.int .i64 (-1))), own s.2.2.2.2.1 s.2.2.2.2.2 103 3 (List.replicate (s.1 * 3) (.slice none 0 0))]) (fun s => sl.length - s.1) ((0, (none, 0), (none, 0), (none, 0), (none, 0))) (Nat.zero_le _) ?_
 rintro ⟨i, ⟨pa, pk⟩, ⟨ra, rk⟩, ⟨na, nk⟩, ⟨la, lk⟩⟩ hi
 dsimp only at hi ⊢
 by_cases cJ : i < sl.length
 ·have hz := k3 _ (List.getElem_mem cJ)
  have Hk := E7 cJ
  refine bO ?_
  refine gK ?_
  have hp : aH ((sl.take i).map fun z => ai / z) ++ [.int .i64 ((ai / sl[i] : Nat) : Int)] = aH ((sl.take (i + 1)).map fun z => ai / z) := by rw [List.take_add_one, List.getElem?_eq_getElem cJ, Option.toList_some, List.map_append, fZ]; rfl
  have hpl : (aH ((sl.take i).map fun z => ai / z)).length = i := by simp [aH]; omega
  generalize hP2 : aH ((sl.take (i + 1)).map fun z => ai / z) = P2 at *
  generalize aH ((sl.take i).map fun z => ai / z) = P1 at *
  generalize sl[i] = z at *
  refine bb ?_
  refine ay ?_
  refine cR (ι := Option Addr × Nat) [94, 95, 96, 97, 98, 99, 100, 101, 102, 103, 104, 105, 106, 107, 108, 109] (fun q => True) (fun q => []) (fun q => [af b3 102 [.int .i64 (ai : Int), .int .i64 (bj : Int), .int .i64 fac, .int .i64 aM, .int .i64 lim, .int .i64 hot, .int .i64 warm, .int .i64 xb, .int .i64 xl, .int .i64 xc, .int .i64 xm, .slice a sl.length cc, .slice q.1 (i + 1) q.2, .slice none 0 0, .slice ra i rk, .slice none 0 0, .slice la i lk, .int .i64 1, .int .u64 0, .int .u64 0, .int .i64 0, .int .i64 0, .int .i64 16, .int .i64 0, .int .i64 0, .int .i64 0, .int .i64 0, .pointer none, .int .i64 0, .bool false, .slice na i nk, .int .i64 (-1), .int .i64 0, .int .i64 0, .int .i64 0, .int .i64 0, .int .i64 0, .int .i64 0, .int .i64 0, .int .i64 0, .slice none 0 0], own a cc 3 1 (aH sl), af b1 23 [.int .i64 (ai : Int), .int .i64 (bj : Int), .int .i64 fac, .int .i64 aM, .int .i64 lim, .int .i64 hot, .int .i64 warm], own q.1 q.2 3 1 P2, own ra rk 55 1 (List.replicate i (.slice none 0 0)), own na nk 3 1 (List.replicate i (.int .i64 (-1))), own la lk 103 3 (List.replicate (i * 3) (.slice none 0 0))]) ?_ ?_
  ·refine jC 16 T.mix (.cons .here (.cons .here (.cons .here .nil))) fun F1 kN cT aU => ?_
   obtain ⟨q1, q2, q3, _⟩ := cT
   have kr := bY q2
   refine cY ?_
   refine Ti (Ix T.nm) ?_
   refine aD ?_
   refine Ti (Qu) ?_
   refine aw (t := 105) (v' := (.int .i64 ((ai / z : Nat) : Int))) rfl (by exact congrArg (Value.int .i64) (by first | rfl | exact (Int.natCast_tdiv ai z).symm | exact Int.ofNat_tdiv ai z)) ?_
   refine Tp (oT T.dZ fun b4 => ?_)
   refine Tp (bf T.dZ T.lZ rfl rfl rfl rfl .here ((by rw [hpl]; omega)) (rfl) (by simp [Value.oneCell']) (by first | omega | (simp; omega)) (by first | omega | (simp; omega)) rfl fun a2 c2 vV => ?_)
   refine bw ?_
   refine iC aU ?_
   refine aD ?_
   refine Tn ?_
   rw [hp]
   refine Me ((a2, c2)) (trivial)
  rintro q hI
  obtain ⟨pa2, pk2⟩ := q
  dsimp only
  have e1 : List.replicate i (Value.slice none 0 0) ++ [Value.slice none 0 0] = List.replicate (i + 1) (Value.slice none 0 0) := List.replicate_succ'.symm
  have e2 : List.replicate i (Value.int .i64 (-1)) ++ [Value.int .i64 (-1)] = List.replicate (i + 1) (Value.int .i64 (-1)) := List.replicate_succ'.symm
  have e3 : List.replicate (i * 3) (Value.slice none 0 0) ++ [Value.slice none 0 0, Value.slice none 0 0, Value.slice none 0 0] = List.replicate ((i + 1) * 3) (Value.slice none 0 0) := by
   rw [show [Value.slice none 0 0, Value.slice none 0 0, Value.slice none 0 0] = List.replicate 3 (Value.slice none 0 0) from rfl, List.replicate_append_replicate, Nat.succ_mul]
  refine bE ?_
  refine Lp (oT T.RS fun b5 => ?_)
  refine Lp (bf T.RS T.Za rfl rfl rfl rfl (.there (.there (.there (.there .here)))) ((by simp)) (rfl) (by simp [Value.oneCell']) (by first | omega | (simp; omega)) (by first | omega | (simp; omega)) rfl fun a4 c4 hc4 => ?_)
  refine bx ?_
  refine Lp (oT T.dZ fun b6 => ?_)
  refine Lp (bf T.dZ T.lZ rfl rfl rfl rfl (.there (.there (.there (.there (.there .here))))) ((by simp)) (rfl) (by simp [Value.oneCell']) (by first | omega | (simp; omega)) (by first | omega | (simp; omega)) rfl fun a5 c5 hc5 => ?_)
  refine bx ?_
  refine Li (Bda T.To T.Wp) ?_
  refine Lp (oT1 T.RR fun b7 => ?_)
  refine Lp (bf T.RR T.Y9 rfl rfl rfl rfl (.there (.there (.there (.there (.there (.there .here)))))) ((by simp)) (rfl) (by simp [Value.oneCell']) (by first | omega | (simp; omega)) (by first | omega | (simp; omega)) rfl fun a6 c6 hc6 => ?_)
  refine bx ?_
  refine aB ?_
  rw [e1, e2, e3, ← hP2]
  refine Ro ((i + 1, (pa2, pk2), (a4, c4), (a5, c5), (a6, c6))) (cJ) ((by dsimp only; omega))
 refine ay ?_
 refine bE ?_
 refine dq ?_
 refine bx ?_
 obtain rfl : i = sl.length := by omega
 rw [List.take_length]
 obtain ⟨p0, hp0, cK⟩ : ∃ p0 : Nat, (aH (sl.map fun z => ai / z))[0]? = some (.int .i64 (p0 : Int)) ∧ p0 ≤ 16384 := by
  refine ⟨ai / sl[0], ?_, ?_⟩
  ·unfold aH
   rw [List.map_map, List.getElem?_map, List.getElem?_eq_getElem (show 0 < sl.length by omega)]; rfl
  exact Nat.le_trans (Nat.div_le_div_left (k3 _ (List.getElem_mem (show 0 < sl.length by omega))).1 (by decide)) (by omega)
 have hpx : p0 * bj ≤ 16384 * 1024 := Nat.mul_le_mul cK k7
 generalize aH (sl.map fun z => ai / z) = P1 at *
 refine Hh (H' := [af b3 102 [.int .i64 (ai : Int), .int .i64 (bj : Int), .int .i64 fac, .int .i64 aM, .int .i64 lim, .int .i64 hot, .int .i64 warm, .int .i64 xb, .int .i64 xl, .int .i64 xc, .int .i64 xm, .slice a sl.length cc, .slice pa sl.length pk, .slice none 0 0, .slice ra sl.length rk, .slice none 0 0, .slice la sl.length lk, .int .i64 1, .int .u64 0, .int .u64 0, .int .i64 0, .int .i64 0, .int .i64 16, .int .i64 0, .int .i64 0, .int .i64 0, .int .i64 0, .pointer none, .int .i64 0, .bool false, .slice na sl.length nk, .int .i64 (-1), .int .i64 0, .int .i64 0, .int .i64 0, .int .i64 0, .int .i64 0, .int .i64 0, .int .i64 0, .int .i64 0, .slice none 0 0], af b1 23 [.int .i64 (ai : Int), .int .i64 (bj : Int), .int .i64 fac, .int .i64 aM, .int .i64 lim, .int .i64 hot, .int .i64 warm], own pa pk 3 1 P1]) ?_
 refine jf (eS (.there (.there .here)) (fun _ o => hJ o (List.getElem?_eq_some_iff.1 hp0).1)) fun Hg => ?_
 refine cE 3 1 ?_
 refine Lo (ι := Nat × Option Addr × Nat) [138, 139, 140, 141, 144, 145, 146, 147, 148, 149, 150, 151, 152, 142, 143, 10] (fun s => s.1 ≤ bj) (fun s => [(10, .int .i64 (s.1 : Int))]) (fun s => [own s.2.1 s.2.2 3 1 (List.replicate s.1 (.int .i64 (-1))), af b3 102 [.int .i64 (ai : Int), .int .i64 (bj : Int), .int .i64 fac, .int .i64 aM, .int .i64 lim, .int .i64 hot, .int .i64 warm, .int .i64 xb, .int .i64 xl, .int .i64 xc, .int .i64 xm, .slice a sl.length cc, .slice pa sl.length pk, .slice s.2.1 s.1 s.2.2, .slice ra sl.length rk, .slice none 0 0, .slice la sl.length lk, .int .i64 1, .int .u64 0, .int .u64 0, .int .i64 0, .int .i64 0, .int .i64 16, .int .i64 0, .int .i64 0, .int .i64 0, .int .i64 0, .pointer none, .int .i64 0, .bool false, .slice na sl.length nk, .int .i64 (-1), .int .i64 0, .int .i64 0, .int .i64 0, .int .i64 0, .int .i64 0, .int .i64 0, .int .i64 0, .int .i64 0, .slice none 0 0], af b1 23 [.int .i64 (ai : Int), .int .i64 (bj : Int), .int .i64 fac, .int .i64 aM, .int .i64 lim, .int .i64 hot, .int .i64 warm], own pa pk 3 1 P1]) (fun s => bj - s.1) ((0, none, 0)) (Nat.zero_le _) ?_
 rintro ⟨j, oa, ok⟩ hj
 dsimp only at hj ⊢
 by_cases hjl : j < bj
 ·have e2 : List.replicate j (Value.int .i64 (-1)) ++ [Value.int .i64 (-1)] = List.replicate (j + 1) (Value.int .i64 (-1)) := List.replicate_succ'.symm
  refine bO ?_
  refine gK ?_
  refine bx ?_
  refine Lp (oT T.dZ fun b8 => ?_)
  refine Lp (bf T.dZ T.lZ rfl rfl rfl rfl .here ((by simp)) (rfl) (by simp [Value.oneCell']) (by first | omega | (simp; omega)) (by first | omega | (simp; omega)) rfl fun a5 c5 hc5 => ?_)
  refine bx ?_
  refine aB ?_
  rw [e2]
  refine Ro ((j + 1, a5, c5)) (hjl) ((by dsimp only; omega))
 refine ay ?_
 refine bE ?_
 refine dq ?_
 refine gh ?_
 refine Lo (ι := Nat) [156, 157, 158, 159, 160, 161, 162, 163, 164, 165, 166, 167, 168, 169, 170, 171, 172, 173, 174, 175, 176, 177, 178, 179, 180, 181, 182, 183, 184, 185, 186, 187] (fun m => 16 ≤ m ∧ m ≤ 1048576) (fun m => []) (fun m => [af b3 102 [.int .i64 (ai : Int), .int .i64 (bj : Int), .int .i64 fac, .int .i64 aM, .int .i64 lim, .int .i64 hot, .int .i64 warm, .int .i64 xb, .int .i64 xl, .int .i64 xc, .int .i64 xm, .slice a sl.length cc, .slice pa sl.length pk, .slice oa j ok, .slice ra sl.length rk, .slice none 0 0, .slice la sl.length lk, .int .i64 1, .int .u64 0, .int .u64 0, .int .i64 0, .int .i64 0, .int .i64 16, .int .i64 0, .int .i64 (m : Int), .int .i64 0, .int .i64 0, .pointer none, .int .i64 0, .bool false, .slice na sl.length nk, .int .i64 (-1), .int .i64 0, .int .i64 0, .int .i64 0, .int .i64 0, .int .i64 0, .int .i64 0, .int .i64 0, .int .i64 0, .slice none 0 0], af b1 23 [.int .i64 (ai : Int), .int .i64 (bj : Int), .int .i64 fac, .int .i64 aM, .int .i64 lim, .int .i64 hot, .int .i64 warm], own pa pk 3 1 P1]) (fun m => 1048577 - m) (16) ⟨by decide, by decide⟩ ?_
 rintro m ⟨m1, m2⟩
 refine aD ?_
 refine ay ?_
 refine cR (ι := Bool) [156, 157, 158, 159, 160, 161, 162, 163, 164, 165, 166, 167, 168, 169, 170, 171, 172, 173, 174, 175, 176, 177, 178, 179] (fun Wx => (Wx = true → 2 * m ≤ 1048576)) (fun Wx => [(179, .bool Wx)]) (fun Wx => [af b3 102 [.int .i64 (ai : Int), .int .i64 (bj : Int), .int .i64 fac, .int .i64 aM, .int .i64 lim, .int .i64 hot, .int .i64 warm, .int .i64 xb, .int .i64 xl, .int .i64 xc, .int .i64 xm, .slice a sl.length cc, .slice pa sl.length pk, .slice oa j ok, .slice ra sl.length rk, .slice none 0 0, .slice la sl.length lk, .int .i64 1, .int .u64 0, .int .u64 0, .int .i64 0, .int .i64 0, .int .i64 16, .int .i64 0, .int .i64 (m : Int), .int .i64 0, .int .i64 0, .pointer none, .int .i64 0, .bool false, .slice na sl.length nk, .int .i64 (-1), .int .i64 0, .int .i64 0, .int .i64 0, .int .i64 0, .int .i64 0, .int .i64 0, .int .i64 0, .int .i64 0, .slice none 0 0], af b1 23 [.int .i64 (ai : Int), .int .i64 (bj : Int), .int .i64 fac, .int .i64 aM, .int .i64 lim, .int .i64 hot, .int .i64 warm], own pa pk 3 1 P1]) ?_ ?_
 ·refine jC 24 T.mix (.cons .here (.cons .here (.cons .here .nil))) fun F2 D1 eO eP => ?_
  obtain ⟨q1, q2, q3, _⟩ := eO
  have kr := bY q3
  refine cY ?_
  refine Ti (Ix (j := 0) T.nm) ?_
  refine bq ?_
  refine aw (t := 170) (v' := (.int .i64 ((4 * (p0 * bj) : Nat) : Int))) rfl (by exact congrArg (Value.int .i64) (by first | rfl | (rw [show (4 * (p0 : Int)) * (bj : Int) = ((4 * (p0 * bj) : Nat) : Int) by rw [Int.natCast_mul, Int.natCast_mul, Int.mul_assoc]; rfl]; exact wrap_i64 (by omega)))) ?_
  refine Ti (Cm) ?_
  refine aD ?_
  refine aJ (t := 172) rfl ?_ ?_
  ·intro cK
   replace cK := aF cK
   refine bO ?_
   refine iC eP ?_
   refine Tn ?_
   refine Me (decide (2 * m ≤ 4 * (p0 * bj) ∧ 2 * m ≤ 1048576)) ((fun h => (of_decide_eq_true h).2)) (hs := ⟨(by refine congrArg (fun q => some (Value.bool q)) (Bool.eq_iff_iff.2 ?_); generalize p0 * bj = X at *; (try simp only [decide_eq_true_eq, Bool.false_eq_true, false_iff]); omega), trivial⟩)
  intro cK
  replace cK := aF cK
  refine bO ?_
  refine iC eP ?_
  refine Tn ?_
  refine Me (decide (2 * m ≤ 4 * (p0 * bj) ∧ 2 * m ≤ 1048576)) ((fun h => (of_decide_eq_true h).2)) (hs := ⟨(by refine congrArg (fun q => some (Value.bool q)) (Bool.eq_iff_iff.2 ?_); generalize p0 * bj = X at *; (try simp only [decide_eq_true_eq, Bool.false_eq_true, false_iff]); omega), trivial⟩)
 rintro Wx nB
 rcases Wx with _ | _
 ·refine dq ?_ (e := by rfl)
  refine bP ?_
  refine gn [] Tryz.results9 ?_
  exact ⟨_, rfl, rfl⟩
 have m3 := nB rfl
 refine qM ?_
 refine Ro (2 * m) (⟨(by omega), m3⟩) ((by omega))
theorem yU (c : lA) (pc : uH) : aL Tryz.prog 7 [.agg (fy c).toArray, .agg (qN pc).toArray] (fun _ => True) [] (fun v H => ∃ b : Bool, v = .bool b ∧ H = []) := by
 have rn := pX c pc
 unfold fy qN at rn ⊢
 generalize ke c pc = e at *
 refine ag Tryz.func7 rfl Tryz.ntmps7 rfl ?_
 intro F _
 refine aD ?_
 refine Lp (oB fun b1 => ?_)
 refine Lp (oB fun b2 => ?_)
 refine bq ?_
 refine Lp (oC T.HO rfl rfl (rn) .nil (fun _ _ _ => trivial) ?_)
 rintro v H' ⟨p, rfl, rfl⟩
 refine bo ?_
 refine bx ?_
 refine aJ (t := 15) rfl ?_ ?_
 ·intro cK
  replace cK := aF cK
  refine bx ?_
  refine Rt [] Tryz.results7 ?_
  exact ⟨_, rfl, rfl⟩
 intro cK
 replace cK := aF cK
 refine bx ?_
 refine Rt [] Tryz.results7 ?_
 exact ⟨_, rfl, rfl⟩
theorem wN (z : Ly) (Nq : z.hot ≤ 100) (MX : z.warm ≤ 100) (M : Mo) (c : eA) (RO : WT M c) (hv : 5 ≤ c.verb ∧ c.verb ≤ 10) (hk : c.keys.length ≤ 1) (xF : ∀ k ∈ c.keys, k.length ≤ 1) (hd : c.data.length ≤ 1) (hex : c.ex = 0) (QN : c.dl = 0) (ka : Option Addr) (kc : Nat) (da : Option Addr) (dc : Nat) (mv : Value) (uh : mv.oneCell' = true) :
  aL Tryz.prog 11 [.pointer (some ⟨z.s, 0, none⟩), .agg (gW c ka kc da dc mv).toArray] (fun h => fK h ka (qt c.keys) ∧ fK h da (aq c.data)) [SW z M] (HQ z (M.dO z.hot z.warm c)) := by
 have R := RO.r
 have h1 := R.st
 have h2 := R.tn
 have h3 := R.bm
 exact ZU xM z Nq MX M c ka kc da dc mv uh hv RO.a RO.b (by omega) (fun k hk => by have := xF k hk; omega) (by omega) (by omega) (by omega) R.h (by omega) R.p R.lim (by omega) (by omega)
theorem Ke : aL Tryz.prog 6 [] (fun _ => True) [] (fun v H => v = .bool true ∧ H = []) := by
 refine ag Tryz.func6 rfl Tryz.ntmps6 rfl ?_
 intro F _
 refine bq ?_
 refine Lp (oC T.Ig rfl rfl (AN cW) .nil (fun _ _ _ => trivial) ?_)
 rintro v H' hr
 refine bo ?_
 obtain ⟨-, z, z1, z2, z3, z4, rfl, rfl⟩ := hr.resolve_left fun h => h.1 V9
 obtain ⟨r1, e1⟩ : ∃ r, (dY cW dB ⟨1, 0, 0⟩).dO z.hot z.warm (pD 5 5 0 120) = r := ⟨_, rfl⟩
 obtain ⟨r2, e2⟩ : ∃ r, r1.2.dO z.hot z.warm (pD 10 0 1 121) = r := ⟨_, rfl⟩
 obtain ⟨r3, e3⟩ : ∃ r, r2.2.dO z.hot z.warm (pD 10 0 1 122) = r := ⟨_, rfl⟩
 obtain ⟨⟨⟨y0, y1, y2⟩, k1, k2, k3⟩, P, S3, hP⟩ := zo z.hot z.warm r1 r2 r3 e1 e2 e3
 have d1 := wN z (by omega) (by omega) _ (pD 5 5 0 120) y0 (by decide) (by decide) (by decide) (by decide) rfl rfl
 have d2 := wN z (by omega) (by omega) _ (pD 10 0 1 121) y1 (by decide) (by decide) (by decide) (by decide) rfl rfl
 have d3 := wN z (by omega) (by omega) _ (pD 10 0 1 122) y2 (by decide) (by decide) (by decide) (by decide) rfl rfl
 rw [e1] at d1
 rw [e2] at d2
 rw [e3] at d3
 refine bP ?_
 refine zf 15 ?_ (e := by rfl)
 refine cY ?_
 refine Lp (oT T.CF fun b1 => ?_)
 refine Lp (oT T.iX fun b2 => ?_)
 refine Lp (oMk T.jx T.og ?_)
 refine aD ?_
 refine aw (t := 23) (v' := (.agg (gW (pD 5 5 0 120) (some ⟨b1, 0, none⟩) 1 (some ⟨b2, 0, none⟩) 1 cM).toArray)) rfl (by (first | rfl | (simp only [Value.cells, db, List.set_cons_zero, List.set_cons_succ]; first | rfl | done))) ?_
 refine Lp (oC T.CB rfl rfl (d1 (some ⟨b1, 0, none⟩) 1 (some ⟨b2, 0, none⟩) 1 cM rfl) (.cons (.there (.there .here)) .nil) (fun _ le av => ⟨nN (av.nth 1 rfl), nN (av.nth 0 rfl)⟩) ?_)
 rintro v H' ⟨ea1, ec1, l1, hl1, rfl, rfl⟩
 refine bo ?_
 unfold x7
 rw [k1]
 refine Lp (oA T.qq fun b3 => ?_)
 refine Lp (j5 T.iG ?_ (h1 := by simp [iy, Value.oneCell', bC]))
 refine aD ?_
 refine Hh (H' := [SW z r1.2, af b3 41 (iy 1 (.slice ea1 l1.length ec1) r1.1.num r1.1.tX)]) ?_
 refine bw ?_
 refine Lp (oT T.CF fun b4 => ?_)
 refine Lp (oT T.iX fun b5 => ?_)
 refine Lp (oMk T.jx T.og ?_)
 refine aD ?_
 refine aw (t := 29) (v' := (.agg (gW (pD 10 0 1 121) (some ⟨b4, 0, none⟩) 1 (some ⟨b5, 0, none⟩) 1 cM).toArray)) rfl (by (first | rfl | (simp only [Value.cells, db, List.set_cons_zero, List.set_cons_succ]; first | rfl | done))) ?_
 refine Lp (oC T.CB rfl rfl (d2 (some ⟨b4, 0, none⟩) 1 (some ⟨b5, 0, none⟩) 1 cM rfl) (.cons (.there (.there .here)) .nil) (fun _ le av => ⟨nN (av.nth 1 rfl), nN (av.nth 0 rfl)⟩) ?_)
 rintro v H' ⟨ea2, ec2, l2, Ae, rfl, rfl⟩
 refine bo ?_
 unfold x7
 rw [k2]
 refine Lp (oA T.qq fun b6 => ?_)
 refine Lp (j5 T.iG ?_ (h1 := by simp [iy, Value.oneCell', bC]))
 refine aD ?_
 refine Hh (H' := [SW z r2.2, af b3 41 (iy 1 (.slice ea1 l1.length ec1) r1.1.num r1.1.tX), af b6 41 (iy 1 (.slice ea2 l2.length ec2) r2.1.num r2.1.tX)]) ?_
 refine bw ?_
 refine Lp (oT T.CF fun b7 => ?_)
 refine Lp (oT T.iX fun b8 => ?_)
 refine Lp (oMk T.jx T.og ?_)
 refine aD ?_
 refine aw (t := 35) (v' := (.agg (gW (pD 10 0 1 122) (some ⟨b7, 0, none⟩) 1 (some ⟨b8, 0, none⟩) 1 cM).toArray)) rfl (by (first | rfl | (simp only [Value.cells, db, List.set_cons_zero, List.set_cons_succ]; first | rfl | done))) ?_
 refine Lp (oC T.CB rfl rfl (d3 (some ⟨b7, 0, none⟩) 1 (some ⟨b8, 0, none⟩) 1 cM rfl) (.cons (.there (.there .here)) .nil) (fun _ le av => ⟨nN (av.nth 1 rfl), nN (av.nth 0 rfl)⟩) ?_)
 rintro v H' ⟨ea3, ec3, l3, hl3, rfl, rfl⟩
 refine bo ?_
 unfold x7
 rw [k3]
 refine Lp (oA T.qq fun b9 => ?_)
 refine Lp (j5 T.iG ?_ (h1 := by simp [iy, Value.oneCell', bC]))
 refine aD ?_
 refine Hh (H' := [SW z r3.2, af b3 41 (iy 1 (.slice ea1 l1.length ec1) r1.1.num r1.1.tX), af b6 41 (iy 1 (.slice ea2 l2.length ec2) r2.1.num r2.1.tX), af b9 41 (iy 3 (.slice ea3 l3.length ec3) r3.1.num r3.1.tX)]) ?_
 obtain ⟨p, jY, Xc⟩ := Dr S3 hP
 refine bw ?_
 refine Lp (oC T.RK rfl rfl (y9 z r3.2 [97] (by decide)) (.cons .here .nil) (fun _ _ _ => trivial) ?_)
 rintro v H' hf
 refine bo ?_
 rw [jY] at hf
 obtain ⟨vb, rfl, rfl⟩ := hf
 refine Hh (H' := [SW z r3.2, own (some ⟨vb, 0, none⟩) (r3.2.it p).val.length 5 1 (aq (r3.2.it p).val), af b3 41 (iy 1 (.slice ea1 l1.length ec1) r1.1.num r1.1.tX), af b6 41 (iy 1 (.slice ea2 l2.length ec2) r2.1.num r2.1.tX), af b9 41 (iy 3 (.slice ea3 l3.length ec3) r3.1.num r3.1.tX)]) ?_
 refine qx fun wa wc B O => ?_
 have hn : r3.2.n = 1 := show (r3.2.aQ wa wc).n = 1 from Ds O (S3.aQ wa wc) (by rw [hP]; simp)
 have HM : (r3.2.it p).val = [121] := congrArg I3.val Xc
 have SG : (r3.2.it p).tok = 2 := congrArg I3.tok Xc
 unfold x6
 rw [HM, SG]
 unfold iy
 refine bL ?_
 refine Lp (oA T.ya fun b10 => ?_)
 refine Lp (j5 T.nt ?_ (h1 := by simp [Value.oneCell', bC]))
 refine bO ?_
 refine zt 45 ?_ (e := by rfl)
 refine bq ?_
 refine zt 50 ?_ (e := by rfl)
 refine bq ?_
 refine zt 55 ?_ (e := by rfl)
 refine bL ?_
 refine zt 58 ?_ (e := by rfl)
 refine bw ?_
 refine Lp (oTs T.iD T.og T.qW ?_)
 refine Li Sq ?_
 refine bw ?_
 refine zt 64 ?_ (e := by rfl)
 refine bq ?_
 refine zt 69 ?_ (e := by rfl)
 refine aD ?_
 refine zl T.RJ (CK z r3.2) (.cons (.there .here) .nil) (fun _ _ _ => trivial) ?_
 rw [hn]
 refine bq ?_
 refine Rt [] Tryz.results6 ?_
 exact ⟨rfl, rfl⟩
def Hd (x : Ly × Mo) : Value := .pointer (some ⟨x.1.s, 0, none⟩)
def Cb (x : Ly × Mo) : aa := SW x.1 x.2
theorem Qa {n : Nat} {ds : List Deferred} {F : c9} {K : Act → World → Prop} {σ : aS} {H : List aa} {α : Type} {f : α → aa} (h : G n ds F K σ (aE (([] : List α).map f) :: H)) : G n ds F K σ H :=
 az (fun k s => lH s) h
theorem zr (c : lA) (q : uH) : aL Tryz.prog 3 [.agg (fy c).toArray, .agg (qN q).toArray] (fun h => fK h (some ⟨0, 0, none⟩) (fy cA)) [] (fun v H => v = .bool true ∧ H = []) := by
 have l1 := yU c q
 have l2 := yU c dB
 have p1 := yJ c q
 have p2 := AN c
 have n1 := pX c q
 have n2 := pX c dB
 unfold fy qN at l1 l2 p1 n1 n2
 unfold fy at p2
 unfold qN
 generalize ke c q = e1 at *
 generalize ke c dB = e2 at *
 unfold fy
 refine ag Tryz.func3 rfl Tryz.ntmps3 rfl ?_
 intro F hg
 refine aD ?_
 refine Lp (oB fun b1 => ?_)
 refine Lp (oB fun b2 => ?_)
 refine bb ?_
 refine zl T.fn_6 (Ke) .nil (fun _ _ _ => trivial) ?_
 refine bq ?_
 refine ay ?_
 refine cR (ι := Unit) [23, 24, 25, 26, 28, 29, 30, 27, 31, 32, 5, 6, 34, 35, 36, 33, 37, 38, 7, 8, 39, 40, 41, 42, 43, 44, 45, 46, 47, 48, 4] (fun u => True) (fun u => []) (fun u => [af b1 23 [.int .i64 c.ai, .int .i64 c.bj, .int .i64 c.fac, .int .i64 c.aM, .int .i64 c.lim, .int .i64 c.hot, .int .i64 c.warm], af b2 25 [.int .i64 q.b, .int .i64 q.l, .int .i64 q.c, .int .i64 q.m]]) ?_ ?_
 ·refine iS ?_
  refine bw ?_
  refine Lp (oC T.Yg rfl rfl (l1) .nil (fun _ _ _ => trivial) ?_)
  rintro v H' ⟨lb, rfl, rfl⟩
  refine bo ?_
  rcases lb with _ | _
  ·refine Li Nt ?_
   refine bq ?_
   refine Lp (oC T.Yf rfl rfl (p1) .nil (fun _ _ _ => trivial) ?_)
   rintro v H' hr
   refine bo ?_
   rcases hr with ⟨h1, rfl, rfl⟩ | ⟨rfl, z, z1, z2, z3, z4, rfl, rfl⟩
   ·refine Li Mv ?_
    refine cX ?_
    refine Lp (oC T.HO rfl rfl (n1) .nil (fun _ _ _ => trivial) ?_)
    rintro v H' ⟨p, rfl, rfl⟩
    refine bo ?_
    refine bP ?_
    refine zf 42 ?_ (e := by exact (by simp))
    refine bb ?_
    refine Li (Bq T.u_4) ?_
    refine bw ?_
    refine dq ?_ (e := by exact (by simp [h1]))
    refine aD ?_
    refine Me (()) (trivial)
   refine Li Mv ?_
   refine cX ?_
   refine Lp (oC T.HO rfl rfl (n1) .nil (fun _ _ _ => trivial) ?_)
   rintro v H' ⟨p, rfl, rfl⟩
   refine bo ?_
   refine bP ?_
   refine zf 42 ?_ (e := by exact (by simp))
   refine bb ?_
   refine Li (Bq T.u_4) ?_
   refine bw ?_
   refine dq ?_ (e := by exact (by simp))
   refine aD ?_
   refine Me (()) (trivial)
  refine Li Nt ?_
  refine bL ?_
  refine Me (()) (trivial)
 rintro u hI
 refine bw ?_
 refine Lp (oA T.QU fun b3 => ?_)
 refine bw ?_
 refine ay ?_
 refine cR (ι := Unit) [50, 51, 52, 53, 55, 56, 54, 57, 58, 10, 11, 60, 61, 62, 59, 63, 64, 12, 13, 65, 66, 67, 68, 69, 70, 71, 72, 73, 74, 4] (fun u => True) (fun u => []) (fun u => [af b1 23 [.int .i64 c.ai, .int .i64 c.bj, .int .i64 c.fac, .int .i64 c.aM, .int .i64 c.lim, .int .i64 c.hot, .int .i64 c.warm]]) ?_ ?_
 ·refine iS ?_
  refine bw ?_
  refine Lp (oC T.Yg rfl rfl (l2) .nil (fun _ _ _ => trivial) ?_)
  rintro v H' ⟨lb, rfl, rfl⟩
  refine bo ?_
  rcases lb with _ | _
  ·refine Li Nt ?_
   refine bb ?_
   refine Lp (oC T.Ig rfl rfl (p2) .nil (fun _ _ _ => trivial) ?_)
   rintro v H' hr
   refine bo ?_
   rcases hr with ⟨h1, rfl, rfl⟩ | ⟨rfl, z, z1, z2, z3, z4, rfl, rfl⟩
   ·refine Li Mv ?_
    refine cX ?_
    refine Lp (oC T.HO rfl rfl (n2) .nil (fun _ _ _ => trivial) ?_)
    rintro v H' ⟨p, rfl, rfl⟩
    refine bo ?_
    refine bP ?_
    refine zf 68 ?_ (e := by exact (by simp))
    refine bb ?_
    refine Li (Bq T.u_4) ?_
    refine bw ?_
    refine dq ?_ (e := by exact (by simp [h1]))
    refine aD ?_
    refine Me (()) (trivial)
   refine Li Mv ?_
   refine cX ?_
   refine Lp (oC T.HO rfl rfl (n2) .nil (fun _ _ _ => trivial) ?_)
   rintro v H' ⟨p, rfl, rfl⟩
   refine bo ?_
   refine bP ?_
   refine zf 68 ?_ (e := by exact (by simp))
   refine bb ?_
   refine Li (Bq T.u_4) ?_
   refine bw ?_
   refine dq ?_ (e := by exact (by simp))
   refine aD ?_
   refine Me (()) (trivial)
  refine Li Nt ?_
  refine bL ?_
  refine Me (()) (trivial)
 rintro u hI
 refine cX ?_
 refine cE 28 1 ?_
 refine Qa (f := Cb) ?_
 refine Lo (ι := List (Ly × Mo) × Option Addr × Nat) [75, 76, 80, 81, 79, 82, 83, 16, 17, 84, 85, 86, 87, 88, 89, 4, 90, 91, 92, 93, 94, 95, 96, 97, 98, 99, 14, 77, 78, 15] (fun s => s.1.length ≤ 12 ∧ ∀ j x, s.1[j]? = some x → Goo j x.2) (fun s => [(14, .slice s.2.1 s.1.length s.2.2), (15, .int .i64 (s.1.length : Int))]) (fun s => [own s.2.1 s.2.2 28 1 (s.1.map Hd), aE (s.1.map Cb)]) (fun s => 12 - s.1.length) (([], none, 0)) ⟨Nat.zero_le _, fun j x h => by simp at h⟩ ?_
 rintro ⟨L, la, lc⟩ hI
 dsimp only at hI ⊢
 obtain ⟨hL, hG⟩ := hI
 by_cases cJ : L.length < 12
 ·refine ay ?_
  refine bb ?_
  refine gK ?_
  refine bq ?_
  refine Li (LfN T.CG (hk := sB (a := some ⟨0, 0, none⟩) (i := 0) (vs := fy cA) hg rfl rfl)) ?_
  refine Lp (oC T.Ig rfl rfl (AN cA) .nil (fun _ _ _ => trivial) ?_)
  rintro v H' hr
  refine bo ?_
  obtain ⟨-, z, z1, z2, z3, z4, rfl, rfl⟩ := hr.resolve_left fun h => h.1 Wb
  obtain ⟨y0, hgo⟩ := zT z.hot z.warm cJ
  have d1 := wN z (by omega) (by omega) _ (QQ L.length) y0 ⟨by show (5 : Int) ≤ 5; decide, by show (5 : Int) ≤ 10; decide⟩ (Nat.le_refl 1) (fun k hk => by simp [QQ] at hk; subst hk; decide) (Nat.zero_le 1) rfl rfl
  generalize (dY cA dB ⟨1, 0, 0⟩).dO z.hot z.warm (QQ L.length) = r1 at *
  refine bP ?_
  refine zf 86 ?_ (e := by rfl)
  refine cY ?_
  refine Lp (oT T.CF fun b4 => ?_)
  refine bL ?_
  refine aw (t := 93) (v' := (.int .u64 (L.length : Int))) rfl (by (first | rfl | exact congrArg (Value.int .u64) (wrap_u64 (by omega)))) ?_
  refine aw (t := 94) (v' := (.agg (gW (QQ L.length) (some ⟨b4, 0, none⟩) 1 none 0 cM).toArray)) rfl (by (first | rfl | (simp only [Value.cells, db, List.set_cons_zero, List.set_cons_succ]; first | rfl | done))) ?_
  refine Lp (oC T.CB rfl rfl (d1 (some ⟨b4, 0, none⟩) 1 none 0 cM rfl) (.cons (.there .here) .nil) (fun _ le av => ⟨nN (av.nth 0 rfl), fK.nil⟩) ?_)
  rintro v H' ⟨ea, ec, le, hle, rfl, rfl⟩
  refine bo ?_
  refine Hh (H' := [own la lc 28 1 (L.map Hd), aE (L.map Cb), SW z r1.2]) ?_
  refine bb ?_
  refine Lp (oT T.RT fun b5 => ?_)
  refine Lp (bf T.RT T.Zb rfl rfl rfl rfl .here ((by simp)) (rfl) (by simp [Value.oneCell']) (by first | omega | (simp; omega)) (by first | omega | (simp; omega)) rfl fun a5 c5 hc5 => ?_)
  refine cX ?_
  refine aB ?_
  refine Hh (H' := [SW z r1.2, aE (L.map Cb), own a5 c5 28 1 (L.map Hd ++ [.pointer (some ⟨z.s, 0, none⟩)])]) ?_
  refine az (fun k s => tD (A := Cb (z, r1.2)) s) ?_
  rw [show L.map Cb ++ [Cb (z, r1.2)] = (L ++ [(z, r1.2)]).map Cb by simp, show L.map Hd ++ [Value.pointer (some ⟨z.s, 0, none⟩)] = (L ++ [(z, r1.2)]).map Hd by simp [Hd], show L.length + 1 = (L ++ [(z, r1.2)]).length by simp]
  have Ae : (L ++ [(z, r1.2)]).length = L.length + 1 := by simp
  have hG2 : ∀ j x, (L ++ [(z, r1.2)])[j]? = some x → Goo j x.2 := fun j x h => by
   by_cases hj : j < L.length
   ·rw [List.getElem?_append_left hj] at h
    exact hG j x h
   have hj2 : j = L.length := by
    have := (List.getElem?_eq_some_iff.1 h).1
    omega
   subst hj2
   rw [List.getElem?_append_right (Nat.le_refl _), Nat.sub_self] at h
   cases h
   exact hgo
  generalize L ++ [(z, r1.2)] = L2 at *
  refine aw (t := 15) (v' := (.int .i64 (L2.length : Int))) rfl (by exact congrArg (Value.int .i64) (by omega)) ?_
  refine Ro ((L2, a5, c5)) (⟨(by dsimp only; omega), hG2⟩) ((by dsimp only; omega))
 refine ay ?_
 refine bb ?_
 refine dq ?_
 refine bx ?_
 have hL12 : L.length = 12 := by omega
 refine Lo (ι := Nat) [100, 101, 102, 103, 107, 108, 109, 110, 111, 106, 112, 113, 19, 20, 114, 115, 116, 117, 118, 119, 120, 121, 122, 123, 124, 125, 126, 127, 128, 129, 130, 131, 132, 133, 134, 135, 4, 104, 105, 18] (fun i => i ≤ 12) (fun i => [(18, .int .i64 (i : Int))]) (fun i => [aE (L.map Cb), own la lc 28 1 (L.map Hd)]) (fun i => 12 - i) (0) (Nat.zero_le _) ?_
 rintro i hi
 by_cases hil : i < 12
 ·obtain ⟨⟨z, M⟩, hx⟩ : ∃ x, L[i]? = some x := ⟨_, List.getElem?_eq_getElem (by omega)⟩
  obtain ⟨P, S, hP⟩ := hG i _ hx
  dsimp only at S hP
  obtain ⟨p, jY, Xc⟩ := Dr S hP
  have hpt : (L.map Hd)[i]? = some (.pointer (some ⟨z.s, 0, none⟩)) := by rw [List.getElem?_map, hx]; rfl
  refine az (fun k s => oN hx s) ?_
  change G _ _ _ _ _ [SW z M, aE ((L.eraseIdx i).map Cb), own la lc 28 1 (L.map Hd)]
  refine jf (eS (.there (.there .here)) (fun _ o => hJ o (by rw [List.length_map]; omega))) fun QO => ?_
  refine bO ?_
  refine gK ?_
  refine bO ?_
  refine Li (Ix T.HX) ?_
  refine aD ?_
  refine Lp (oC T.RK rfl rfl (y9 z M [107] (by decide)) (.cons .here .nil) (fun _ _ _ => trivial) ?_)
  rintro v H' hf
  refine bo ?_
  rw [jY] at hf
  obtain ⟨vb, rfl, rfl⟩ := hf
  refine Hh (H' := [SW z M, own (some ⟨vb, 0, none⟩) (M.it p).val.length 5 1 (aq (M.it p).val), aE ((L.eraseIdx i).map Cb), own la lc 28 1 (L.map Hd)]) ?_
  refine qx fun wa wc B O => ?_
  have hn : M.n = 1 := show (M.aQ wa wc).n = 1 from Ds O (S.aQ wa wc) (by rw [hP]; simp)
  have uD : (M.it p).fl = i := congrArg I3.fl Xc
  have SG : (M.it p).tok = 1 := congrArg I3.tok Xc
  unfold x6
  rw [uD, SG]
  refine bL ?_
  refine Lp (oA T.ya fun b6 => ?_)
  refine Lp (j5 T.nt ?_ (h1 := by simp [Value.oneCell', bC]))
  refine bw ?_
  refine Hh (H' := [SW z M, aE ((L.eraseIdx i).map Cb), own la lc 28 1 (L.map Hd), af b6 49 [bC (M.it p).key, .slice (some ⟨vb, 0, none⟩) (M.it p).val.length (M.it p).val.length, .int .u64 (i : Int), .int .i64 ((M.it p).exp : Int), .int .u64 ((1 : Nat) : Int), .int .i64 ((M.it p).tch : Int), .bool (decide ((M.it p).du / 2 % 2 = 1)), .bool (decide ((M.it p).du / 4 % 2 = 1)), .bool (decide ((M.it p).du / 8 % 2 = 1))]]) ?_
  refine bb ?_
  refine zf 116 ?_ (e := by rfl)
  refine bb ?_
  refine aw (t := 120) (v' := (.int .u64 (i : Int))) rfl (by (first | rfl | exact congrArg (Value.int .u64) (wrap_u64 (by omega)))) ?_
  refine bL ?_
  refine zf 123 ?_ (e := by exact (by simp))
  refine bq ?_
  refine zf 128 ?_ (e := by exact (by simp))
  refine bw ?_
  refine Li (Ix T.HX) ?_
  refine aD ?_
  refine zl T.RJ (CK z M) (.cons .here .nil) (fun _ _ _ => trivial) ?_
  rw [hn]
  refine bP ?_
  refine aB ?_
  refine Hh (H' := [SW z M, aE ((L.eraseIdx i).map Cb), own la lc 28 1 (L.map Hd)]) ?_
  refine az (fun k s => sJ (f := Cb) hx (z, M) s) ?_
  rw [fC hx]
  refine Ro (i + 1) ((by omega)) ((by omega))
 refine ay ?_
 refine bE ?_
 refine dq ?_
 refine cY ?_
 refine Rt [] Tryz.results3 ?_
 exact ⟨rfl, rfl⟩
end Go.Proofs.YtpgbeapapmdkcaaGreatDoor
