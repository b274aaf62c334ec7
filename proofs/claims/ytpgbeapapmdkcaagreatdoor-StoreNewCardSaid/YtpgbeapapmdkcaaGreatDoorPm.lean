/- Part Pm of the proof. -/
import Derived.Test.YtpgbeapapmdkcaaGreatDoorPc1
import Derived.Test.YtpgbeapapmdkcaaGreatDoorPd
import Derived.Test.YtpgbeapapmdkcaaGreatDoorPe
import Derived.Test.YtpgbeapapmdkcaaGreatDoorPl
set_option maxRecDepth 100000
namespace Go.Proofs.YtpgbeapapmdkcaaGreatDoor
open Go Go.cQ Go.Proofs.YtpgbeapapmdkcaaGreatDoor.Cs
def zY (n : Int) : Int := IntKind.i64.wrap (BitVec.ofInt 64 n &&& BitVec.ofInt 64 (n - 1)).toNat
def ja (c : lA) : Bool := decide (4096 ≤ c.ai ∧ c.ai ≤ 1048576 ∧ zY c.ai = 0 ∧ 1 ≤ c.bj ∧ c.bj ≤ 1024 ∧ 105 ≤ c.fac ∧ c.fac ≤ 400 ∧ 64 ≤ c.aM ∧ c.aM ≤ 512 ∧ c.aM % 8 = 0 ∧ c.aM ≤ c.lim ∧ c.lim ≤ c.ai)
theorem KK (c : lA) : aL Tryz.prog 57 [.agg (fy c).toArray] (fun _ => True) [] (fun v H => v = .bool (ja c) ∧ H = []) := by
 unfold fy
 have ok : ∀ b, (b = true ↔ (4096 ≤ c.ai ∧ c.ai ≤ 1048576 ∧ zY c.ai = 0 ∧ 1 ≤ c.bj ∧ c.bj ≤ 1024 ∧ 105 ≤ c.fac ∧ c.fac ≤ 400 ∧ 64 ≤ c.aM ∧ c.aM ≤ 512 ∧ c.aM % 8 = 0 ∧ c.aM ≤ c.lim ∧ c.lim ≤ c.ai)) → Value.bool b = .bool (ja c) := fun b h => congrArg Value.bool (by
  unfold ja
  rw [Bool.eq_iff_iff, h, decide_eq_true_eq])
 refine ag Tryz.func57 rfl Tryz.ntmps57 rfl ?_
 intro F _
 refine aD ?_
 refine Lp (oB fun b1 => ?_)
 refine bw ?_
 refine ay ?_
 refine cR (ι := Unit) [3, 4, 5, 6, 7, 8, 9, 10, 11, 12, 13, 14, 15, 16, 17, 18, 19, 20, 21, 22, 23, 24, 25, 26, 27, 28, 29, 2] (fun u => 4096 ≤ c.ai ∧ c.ai ≤ 1048576 ∧ zY c.ai = 0 ∧ 1 ≤ c.bj ∧ c.bj ≤ 1024) (fun u => []) (fun u => [af b1 23 [.int .i64 c.ai, .int .i64 c.bj, .int .i64 c.fac, .int .i64 c.aM, .int .i64 c.lim, .int .i64 c.hot, .int .i64 c.warm]]) ?_ ?_
 ·refine iS ?_
  refine bb ?_
  refine aJ (t := 6) rfl ?_ ?_
  ·intro cK
   replace cK := aF cK
   refine ca ?_
   refine bx ?_
   refine Rt [] Tryz.results57 ?_
   exact ⟨ok _ ⟨(fun h => by cases h), fun h => by exfalso; first | omega | (simp_all; done)⟩, rfl⟩
  intro cK
  replace cK := aF cK
  refine bq ?_
  refine aJ (t := 11) rfl ?_ ?_
  ·intro cL
   replace cL := aF cL
   refine ca ?_
   refine bq ?_
   refine Rt [] Tryz.results57 ?_
   exact ⟨ok _ ⟨(fun h => by cases h), fun h => by exfalso; first | omega | (simp_all; done)⟩, rfl⟩
  intro cL
  replace cL := aF cL
  refine bE ?_
  refine aw (t := 17) (v' := (.int .i64 (zY c.ai))) rfl (by (first | rfl | (refine congrArg (Value.int .i64) ?_; unfold zY; rw [wrap_i64 (by omega)]; rfl))) ?_
  refine Li (Cm) ?_
  refine bw ?_
  refine aJ (t := 20) rfl ?_ ?_
  ·intro cx
   replace cx := aF cx
   refine qM ?_
   refine Rt [] Tryz.results57 ?_
   exact ⟨ok _ ⟨(fun h => by cases h), fun h => by exfalso; first | omega | (simp_all; done)⟩, rfl⟩
  intro cx
  replace cx := aF cx
  refine bq ?_
  refine aJ (t := 25) rfl ?_ ?_
  ·intro bQ
   replace bQ := aF bQ
   refine bP ?_
   refine Rt [] Tryz.results57 ?_
   exact ⟨ok _ ⟨(fun h => by cases h), fun h => by exfalso; first | omega | (simp_all; done)⟩, rfl⟩
  intro bQ
  replace bQ := aF bQ
  refine bq ?_
  refine au rfl ?_ ?_
  ·intro cF
   replace cF := aF cF
   refine bq ?_
   refine Rt [] Tryz.results57 ?_
   exact ⟨ok _ ⟨(fun h => by cases h), fun h => by exfalso; first | omega | (simp_all; done)⟩, rfl⟩
  intro cF
  replace cF := aF cF
  refine aD ?_
  refine Me (()) ((by refine ⟨?_, ?_, ?_, ?_, ?_⟩ <;> omega))
 rintro u hI
 refine bE ?_
 refine aJ (t := 33) rfl ?_ ?_
 ·intro cK
  replace cK := aF cK
  refine bP ?_
  refine Rt [] Tryz.results57 ?_
  refine ⟨ok _ ?_, rfl⟩
  first | exact ⟨(fun h => by cases h), fun h => by exfalso; omega⟩ | (rw [decide_eq_true_eq]; constructor <;> intro h <;> omega)
 intro cK
 replace cK := aF cK
 refine bq ?_
 refine au rfl ?_ ?_
 ·intro cL
  replace cL := aF cL
  refine bq ?_
  refine Rt [] Tryz.results57 ?_
  refine ⟨ok _ ?_, rfl⟩
  first | exact ⟨(fun h => by cases h), fun h => by exfalso; omega⟩ | (rw [decide_eq_true_eq]; constructor <;> intro h <;> omega)
 intro cL
 replace cL := aF cL
 refine cX ?_
 refine aJ (t := 41) rfl ?_ ?_
 ·intro cx
  replace cx := aF cx
  refine mV ?_
  refine Rt [] Tryz.results57 ?_
  refine ⟨ok _ ?_, rfl⟩
  first | exact ⟨(fun h => by cases h), fun h => by exfalso; omega⟩ | (rw [decide_eq_true_eq]; constructor <;> intro h <;> omega)
 intro cx
 replace cx := aF cx
 refine bq ?_
 refine aJ (t := 46) rfl ?_ ?_
 ·intro bQ
  replace bQ := aF bQ
  refine ed ?_
  refine Rt [] Tryz.results57 ?_
  refine ⟨ok _ ?_, rfl⟩
  first | exact ⟨(fun h => by cases h), fun h => by exfalso; omega⟩ | (rw [decide_eq_true_eq]; constructor <;> intro h <;> omega)
 intro bQ
 replace bQ := aF bQ
 refine bw ?_
 refine Li (Im) ?_
 refine aw (t := 49) (v' := (.int .i64 (c.aM % 8))) rfl (by exact congrArg (Value.int .i64) (Int.tmod_eq_emod_of_nonneg (by omega))) ?_
 refine bL ?_
 refine au rfl ?_ ?_
 ·intro cF
  replace cF := aF cF
  refine bq ?_
  refine Rt [] Tryz.results57 ?_
  refine ⟨ok _ ?_, rfl⟩
  first | exact ⟨(fun h => by cases h), fun h => by exfalso; omega⟩ | (rw [decide_eq_true_eq]; constructor <;> intro h <;> omega)
 intro cF
 replace cF := aF cF
 refine cY ?_
 refine aJ (t := 57) rfl ?_ ?_
 ·intro fS
  replace fS := aF fS
  refine cY ?_
  refine Rt [] Tryz.results57 ?_
  refine ⟨ok _ ?_, rfl⟩
  first | exact ⟨(fun h => by cases h), fun h => by exfalso; omega⟩ | (rw [decide_eq_true_eq]; constructor <;> intro h <;> omega)
 intro fS
 replace fS := aF fS
 refine cY ?_
 refine Rt [] Tryz.results57 ?_
 refine ⟨ok _ ?_, rfl⟩
 first | exact ⟨(fun h => by cases h), fun h => by exfalso; omega⟩ | (rw [decide_eq_true_eq]; constructor <;> intro h <;> omega)
def mY (fac last : Nat) : Nat → Nat → List Nat
 | 0, n => [n]
 | k + 1, n => if last ≤ n then [n] else n :: mY fac last k (min last ((n * fac + 799) / 800 * 8))
def eB (c : lA) : Nat := (c.lim.toNat + 7) / 8 * 8
def bX (c : lA) : List Nat := mY c.fac.toNat (eB c) 62 c.aM.toNat
theorem q9 (fac last : Nat) : ∀ k n, 1 ≤ (mY fac last k n).length ∧ (mY fac last k n).length ≤ k + 1
 | 0, n => ⟨Nat.le_refl _, Nat.le_refl _⟩
 | k + 1, n => by
  unfold mY
  split
  ·exact ⟨Nat.le_refl _, by simp⟩
  obtain ⟨h1, h2⟩ := q9 fac last k (min last ((n * fac + 799) / 800 * 8))
  rw [List.length_cons]
  omega
theorem Ky (c : lA) (hr : ja c = true) : aL Tryz.prog 58 [.agg (fy c).toArray] (fun _ => True) [] (fun v H => ∃ a cc, v = .slice a (bX c).length cc ∧ H = [own a cc 3 1 (aH (bX c))]) := by
 have hr := of_decide_eq_true hr
 obtain ⟨h1, h2, h3, h4, h5, h6, h7, h8, h9, h10, Xz, HD⟩ := hr
 obtain ⟨fac, hf⟩ : ∃ f : Nat, c.fac = f := ⟨c.fac.toNat, by omega⟩
 obtain ⟨aM, hm⟩ : ∃ f : Nat, c.aM = f := ⟨c.aM.toNat, by omega⟩
 obtain ⟨lim, hl⟩ : ∃ f : Nat, c.lim = f := ⟨c.lim.toNat, by omega⟩
 have hs : bX c = mY fac (eB c) 62 aM := by unfold bX; rw [hf, hm]; rfl
 have hla : eB c = (lim + 7) / 8 * 8 := by unfold eB; rw [hl]; rfl
 have hlb : eB c ≤ 1048583 := by omega
 unfold fy
 rw [hf, hm, hl, hs]
 rw [hf] at h6 h7
 rw [hm] at h8 h9
 refine ag Tryz.func58 rfl Tryz.ntmps58 rfl ?_
 intro F _
 refine aD ?_
 refine Lp (oB fun b1 => ?_)
 refine bw ?_
 refine P9 ?_
 refine bb ?_
 refine aw (t := 8) (v' := (.int .i64 ((lim + 7 : Nat) : Int))) rfl (by exact congrArg (Value.int .i64) rfl) ?_
 refine Li (Qu (q := 8)) ?_
 refine aD ?_
 refine aw (t := 10) (v' := (.int .i64 ((lim + 7) / 8 * 8 : Nat))) rfl (by exact congrArg (Value.int .i64) (by omega)) ?_
 refine bq ?_
 refine Lp (oT T.dZ fun b2 => ?_)
 refine bw ?_
 refine ay ?_
 refine Qc ?_
 refine bL ?_
 refine aw (t := 3) (v' := (.int .i64 (eB c : Int))) rfl (by exact congrArg (Value.int .i64) (by rw [hla])) ?_
 generalize hL : eB c = L at *
 refine az (fun k s => aY (fun h p => lp p 1 1 rfl (by decide)) s) ?_
 refine Lo (ι := List Nat × Nat × Option Addr × Nat) [14, 15, 16, 17, 18, 19, 5, 21, 22, 23, 20, 24, 25, 26, 27, 28, 29, 30, 31, 32, 33, 34, 35, 36, 37, 38, 4] (fun s => (s.1.length ≤ 62 ∧ s.2.1 ≤ 1048583 ∧ 64 ≤ s.2.1) ∧ mY fac L 62 aM = s.1 ++ mY fac L (62 - s.1.length) s.2.1) (fun s => [(4, .slice s.2.2.1 (s.1.length + 1) s.2.2.2)]) (fun s => [af b1 23 [.int .i64 c.ai, .int .i64 c.bj, .int .i64 (fac : Int), .int .i64 (aM : Int), .int .i64 (lim : Int), .int .i64 c.hot, .int .i64 c.warm], own s.2.2.1 s.2.2.2 3 1 (aH (s.1 ++ [s.2.1]))]) (fun s => 62 - s.1.length) (([], aM, some ⟨b2, 0, none⟩, 1)) ⟨⟨Nat.zero_le _, by dsimp only; omega, by dsimp only; omega⟩, rfl⟩ ?_
 rintro ⟨l, n, a, cc⟩ hI
 dsimp only at hI ⊢
 obtain ⟨⟨i1, i2, i3⟩, i4⟩ := hI
 have Hk : (aH (l ++ [n]))[l.length]? = some (.int .i64 (n : Int)) := by unfold aH; rw [List.map_append, List.getElem?_append_right (by simp)]; simp
 have Sd : (aH (l ++ [n])).length = l.length + 1 := by unfold aH; simp
 refine jf (eS (.there .here) (fun _ o => hJ o (by rw [Sd]; omega))) fun QO => ?_
 refine bE ?_
 refine aw (t := 17) (v' := (.int .i64 (l.length : Int))) rfl (by exact congrArg (Value.int .i64) (by omega)) ?_
 refine Li (Ix T.nm (j := l.length)) ?_
 refine bL ?_
 refine ay ?_
 by_cases SR : L ≤ n ∨ 62 ≤ l.length
 ·have he : mY fac L (62 - l.length) n = [n] := by
   rcases SR with h | h
   ·rcases hk : 62 - l.length with _ | k
    ·rfl
    unfold mY; rw [if_pos h]
   rw [show 62 - l.length = 0 by omega]; rfl
  rw [he] at i4
  by_cases Hi : L ≤ n
  ·refine mI ?_
   refine bO ?_
   refine gK ?_
   refine bw ?_
   refine gK ?_
   refine ed ?_
   refine qI ?_
   refine Rt [own a cc 3 1 (aH (l ++ [n]))] Tryz.results58 ?_
   exact ⟨a, cc, by rw [i4, List.length_append]; rfl, by rw [i4]⟩
  refine mI ?_
  refine bO ?_
  refine dq ?_
  refine bE ?_
  refine gK ?_
  refine ed ?_
  refine qI ?_
  refine Rt [own a cc 3 1 (aH (l ++ [n]))] Tryz.results58 ?_
  exact ⟨a, cc, by rw [i4, List.length_append]; rfl, by rw [i4]⟩
 obtain ⟨k, hk⟩ : ∃ k, 62 - l.length = k + 1 := ⟨61 - l.length, by omega⟩
 have he : mY fac L (62 - l.length) n = n :: mY fac L (62 - (l.length + 1)) (min L ((n * fac + 799) / 800 * 8)) := by
  rw [hk, show 62 - (l.length + 1) = k by omega]
  conv => lhs; unfold mY
  rw [if_neg (by omega)]
 rw [he] at i4
 have hnf : n * fac ≤ 1048583 * 400 := Nat.mul_le_mul i2 (by omega)
 have hnf2 : 64 * 105 ≤ n * fac := Nat.mul_le_mul i3 (by omega)
 refine cX ?_
 refine dq ?_
 refine bE ?_
 refine dq ?_
 refine bx ?_
 refine aw (t := 32) (v' := (.int .i64 ((n * fac : Nat) : Int))) rfl (by exact congrArg (Value.int .i64) (by first | rfl | (rw [← Int.natCast_mul]; exact wrap_i64 (by omega)))) ?_
 generalize n * fac = nf at *
 refine aD ?_
 refine aw (t := 33) (v' := (.int .i64 ((nf + 799 : Nat) : Int))) rfl (by exact congrArg (Value.int .i64) rfl) ?_
 refine Li (Qu (q := 800)) ?_
 refine aD ?_
 refine Li Mi ?_
 refine aw (t := 36) (v' := (.int .i64 (min L ((nf + 799) / 800 * 8) : Nat))) rfl (by exact congrArg (Value.int .i64) (by omega)) ?_
 generalize hmn : min L ((nf + 799) / 800 * 8) = mn at *
 refine Lp (oT T.dZ fun b3 => ?_)
 refine Lp (bf T.dZ T.lZ rfl rfl rfl rfl (.there .here) (by simp [aH]) (rfl) (by simp [Value.oneCell']) (by first | omega | (simp; omega)) (by first | omega | (simp; omega)) rfl fun a2 c2 vV => ?_)
 refine bL ?_
 rw [show aH (l ++ [n]) ++ [Value.int .i64 (mn : Int)] = aH ((l ++ [n]) ++ [mn]) by rw [fZ _ [mn]]; rfl, show l.length + 1 = (l ++ [n]).length by simp]
 have Ae : (l ++ [n]).length = l.length + 1 := by simp
 have Xo : mY fac L 62 aM = (l ++ [n]) ++ mY fac L (62 - (l ++ [n]).length) mn := by rw [i4, Ae, List.append_assoc]; rfl
 generalize l ++ [n] = l2 at *
 refine Ro ((l2, mn, a2, c2)) (⟨⟨(by dsimp only; omega), (by dsimp only; omega), (by dsimp only; omega)⟩, Xo⟩) ((by dsimp only; omega))
theorem Uu {n : Nat} (h1 : 1 ≤ n) (h2 : n < 4294967296) (h : zY n = 0) : n &&& (n - 1) = 0 := by
 unfold zY at h
 have e1 : (BitVec.ofInt 64 (n : Int)).toNat = n := by rw [BitVec.toNat_ofInt]; omega
 have e2 : (BitVec.ofInt 64 ((n : Int) - 1)).toNat = n - 1 := by rw [BitVec.toNat_ofInt]; omega
 rw [BitVec.toNat_and, e1, e2] at h
 have h3 : n &&& (n - 1) ≤ n := Nat.and_le_left
 generalize n &&& (n - 1) = x at *
 simp [IntKind.wrap, IntKind.bits, IntKind.signed] at h
 omega
theorem Ut {n : Nat} (h1 : 1 ≤ n) (h : n &&& (n - 1) = 0) : n = 2 ^ n.log2 := by
 have l1 := Nat.log2_self_le (n := n) (by omega)
 have l2 := Nat.lt_log2_self (n := n)
 refine Decidable.byContradiction fun g => ?_
 have bit : ∀ x, 2 ^ n.log2 ≤ x → x < 2 ^ (n.log2 + 1) → x.testBit n.log2 = true := fun x a b => by
  obtain ⟨i, hi, ht⟩ := Nat.exists_ge_and_testBit_of_ge_two_pow a
  have : i = n.log2 := by
   refine Decidable.byContradiction fun e => ?_
   have h3 : x < 2 ^ i := Nat.lt_of_lt_of_le b (Nat.pow_le_pow_right (by decide) (by omega))
   rw [Nat.testBit_lt_two_pow h3] at ht; cases ht
  rw [← this]; exact ht
 have b1 := bit n l1 l2
 have b2 := bit (n - 1) (by omega) (by omega)
 have : (n &&& (n - 1)).testBit n.log2 = true := by rw [Nat.testBit_and, b1, b2]; rfl
 rw [h] at this
 simp at this
def MS : List Nat := [4096, 8192, 16384, 32768, 65536, 131072, 262144, 524288, 1048576]
theorem Y3 {n : Nat} (h1 : 4096 ≤ n) (h2 : n ≤ 1048576) (h : zY n = 0) : n ∈ MS := by
 have e := Ut (by omega) (Uu (by omega) (by omega) h)
 have k1 : 12 ≤ n.log2 := by
  refine Decidable.byContradiction fun g => ?_
  have := Nat.pow_le_pow_right (n := 2) (by decide) (show n.log2 ≤ 11 by omega)
  omega
 have k2 : n.log2 ≤ 20 := by
  refine Decidable.byContradiction fun g => ?_
  have := Nat.pow_le_pow_right (n := 2) (by decide) (show 21 ≤ n.log2 by omega)
  omega
 rw [e]
 generalize n.log2 = k at *
 have : k = 12 ∨ k = 13 ∨ k = 14 ∨ k = 15 ∨ k = 16 ∨ k = 17 ∨ k = 18 ∨ k = 19 ∨ k = 20 := by omega
 rcases this with rfl | rfl | rfl | rfl | rfl | rfl | rfl | rfl | rfl <;> decide
theorem E4 (n : Nat) : aL Tryz.prog 149 [.int .u64 (n : Int)] (fun _ => True) [] (fun v H => (∃ z : Int, v = .int .i64 z ∧ (n ∈ MS → z = 1)) ∧ H = []) := by
 refine ag Tryz.func149 rfl Tryz.ntmps149 rfl ?_
 intro F _
 refine bq ?_
 refine Li (Sr 1) ?_
 refine cX ?_
 refine Li (Sr 2) ?_
 refine cX ?_
 refine Li (Sr 4) ?_
 refine cX ?_
 refine Li (Sr 8) ?_
 refine bE ?_
 refine Li (Sr 16) ?_
 refine bE ?_
 refine Li (Sr 32) ?_
 refine bx ?_
 refine Rt [] Tryz.results149 ?_
 refine ⟨⟨_, rfl, fun h => ?_⟩, rfl⟩
 simp only [MS, List.mem_cons, List.mem_singleton, List.not_mem_nil, or_false] at h
 rcases h with rfl | rfl | rfl | rfl | rfl | rfl | rfl | rfl | rfl <;> decide +kernel
theorem sL {z : List Value} (n k : Nat) (hk : k = n * z.length) : eV z k = (List.replicate n z).flatten := by
 subst hk
 rcases Nat.eq_zero_or_pos z.length with h0 | h0
 ·rw [List.eq_nil_of_length_eq_zero h0]; simp [eV]
 apply List.ext_getElem?
 intro i
 have e : ((List.replicate n z).flatten).length = n * z.length := by simp
 by_cases hi : i < n * z.length
 ·have q : i / z.length < n := (Nat.div_lt_iff_lt_mul h0).2 hi
  have r : i % z.length < z.length := Nat.mod_lt _ h0
  unfold eV
  rw [List.getElem?_map, List.getElem?_range hi]
  have := bc (f := fun _ : Unit => z) (k := z.length) (fun _ => rfl) (l := List.replicate n ()) (i := i / z.length) (a := ()) (by rw [List.getElem?_replicate, if_pos q]) (j := i % z.length) (v := z[i % z.length]) (List.getElem?_eq_getElem r)
  rw [Option.map_some, List.getElem?_eq_getElem r]
  rw [show i / z.length * z.length + i % z.length = i from by rw [Nat.mul_comm]; exact Nat.div_add_mod i _] at this
  rw [List.flatMap_def, List.map_replicate] at this
  exact this.symm
 rw [List.getElem?_eq_none (by rw [ib]; omega), List.getElem?_eq_none (by omega)]
theorem OX (n : Nat) : aL Tryz.prog 97 [.int .u64 (n : Int)] (fun _ => True) [] (fun v H => (∃ z : Int, v = .int .i64 z ∧ (n ∈ MS → z = 1)) ∧ H = []) := by
 refine ag Tryz.func97 rfl Tryz.ntmps97 rfl ?_
 intro F _
 refine cY ?_
 refine Lp (oC T.Vz rfl rfl (E4 n) .nil (fun _ _ _ => trivial) ?_)
 rintro v H' ⟨⟨z, rfl, hz⟩, rfl⟩
 refine bo ?_
 refine bL ?_
 refine Rt [] Tryz.results97 ?_
 exact ⟨⟨z, rfl, hz⟩, rfl⟩
theorem MH (n : Nat) : eV [.int .u8 0] (n * 1) = cO (fun _ => 0) n := by
 rw [mf, Nat.mul_one]
 unfold cO aq ik
 simp [List.map_map, Function.comp_def, List.map_const']
theorem QB (s n : Nat) (h1 : s ∈ MS) (h2 : 1 ≤ n) (h3 : n ≤ 1024) : aL Tryz.prog 59 [.int .i64 (s : Int), .int .i64 (n : Int)] (fun _ => True) []
  (fun v H => ∃ a ab, v = .tuple #[.pointer (some ⟨a, 0, none⟩), .int .i64 0] ∧ H = [af a 192 (fU ab s (s * n)), af ab 5 (cO (fun _ => 0) (s * n))]) := by
 have hs : 4096 ≤ s ∧ s ≤ 1048576 := by
  simp only [MS, List.mem_cons, List.not_mem_nil, or_false] at h1
  omega
 have hb : s * n ≤ 1048576 * 1024 := Nat.mul_le_mul hs.2 h3
 unfold fU
 refine ag Tryz.func59 rfl Tryz.ntmps59 rfl ?_
 intro F _
 refine bq ?_
 refine ay ?_
 refine cR (ι := Unit) [6, 7, 8, 9, 10, 11, 12, 13, 14, 15, 16, 17, 18, 19, 20, 21, 22, 23, 24, 25] (fun u => True) (fun u => [(25, .bool false)]) (fun u => []) ?_ ?_
 ·refine fE ?_
  refine bL ?_
  refine aJ (t := 8) rfl ?_ ?_
  ·intro cK
   replace cK := aF cK
   refine mV ?_
   refine aB ?_
   refine Me (()) (trivial)
  intro cK
  replace cK := aF cK
  refine bb ?_
  refine aJ (t := 12) rfl ?_ ?_
  ·intro cL
   replace cL := aF cL
   refine gh ?_
   refine aB ?_
   refine Me (()) (trivial)
  intro cL
  replace cL := aF cL
  refine bw ?_
  refine aw (t := 14) (v' := (.int .u64 (s : Int))) rfl (by (first | rfl | exact congrArg (Value.int .u64) (by first | rfl | exact wrap_u64 (by omega)))) ?_
  refine Lp (oC T.Zt rfl rfl (OX s) .nil (fun _ _ _ => trivial) ?_)
  rintro v H' ⟨⟨z, rfl, hz⟩, rfl⟩
  refine bo ?_
  refine bL ?_
  refine aJ (t := 18) rfl ?_ ?_
  ·intro cx
   replace cx := aF cx
   refine bO ?_
   refine aB ?_
   refine Me (()) (trivial)
  intro cx
  replace cx := aF cx
  refine bb ?_
  refine aJ (t := 22) rfl ?_ ?_
  ·intro bQ
   replace bQ := aF bQ
   refine bL ?_
   refine aB ?_
   refine Me (()) (trivial)
  intro bQ
  replace bQ := aF bQ
  refine bL ?_
  refine aB ?_
  refine Me (()) (trivial)
 rintro u hI
 refine cX ?_
 refine aw (t := 29) (v' := (.int .i64 ((s * n : Nat) : Int))) rfl (by exact congrArg (Value.int .i64) (by first | rfl | (rw [← Int.natCast_mul]; exact wrap_i64 (by omega)))) ?_
 refine Lp (oM (s * n) (s * n) T.iX fun b1 => ?_)
 rw [MH]
 refine aD ?_
 refine Lp (oB fun b2 => ?_)
 refine bb ?_
 refine gn [af b2 192 [.int .i64 (s : Int), .slice (some ⟨b1, 0, none⟩) (s * n) (s * n)], af b1 5 (cO (fun _ => 0) (s * n))] Tryz.results59 ?_
 exact ⟨_, _, rfl, rfl⟩
theorem IA {ai fac last : Nat} (h1 : last ≤ ai) (h2 : 64 ≤ last) (h3 : last % 8 = 0) (h4 : 105 ≤ fac) : ∀ k n, 64 ≤ n → n ≤ ai → n % 8 = 0 → ∀ z ∈ mY fac last k n, 64 ≤ z ∧ z ≤ ai ∧ z % 8 = 0
 | 0, n, a, b, c, z, hz => by
  unfold mY at hz
  rw [List.mem_singleton] at hz
  subst hz; exact ⟨a, b, c⟩
 | k + 1, n, a, b, c, z, hz => by
  unfold mY at hz
  split at hz
  ·rw [List.mem_singleton] at hz
   subst hz; exact ⟨a, b, c⟩
  rw [List.mem_cons] at hz
  rcases hz with rfl | hz
  ·exact ⟨a, b, c⟩
  have : 64 * 105 ≤ n * fac := Nat.mul_le_mul a h4
  exact IA h1 h2 h3 h4 k _ (by omega) (by omega) (by omega) z hz
def cy (c : lA) : Cs := ⟨c, c.ai.toNat, c.bj.toNat, bX c, List.replicate c.bj.toNat .no, List.replicate (bX c).length ⟨[], 0, 0, 0⟩, c.bj.toNat, fun _ => 0⟩
def gX (c : lA) : Int := if ja c = true then if 62 < (bX c).length then 2 else if c.bj < ((bX c).length : Int) then 3 else 0 else 1
theorem pw_8 {n : Nat} (h : n ∈ MS) : n % 8 = 0 := by
 simp only [MS, List.mem_cons, List.not_mem_nil, or_false] at h
 omega
theorem Oq (n k : Nat) : (List.replicate n k).sum = n * k := by
 induction n with
 | zero => simp
 | succ n ih => rw [List.replicate_succ, List.sum_cons, ih, Nat.succ_mul]; omega
theorem ru {c : lA} (h : gX c = 0) : Ok (cy c) ∧ (c.ai = (c.ai.toNat : Int)) ∧ c.bj = (c.bj.toNat : Int) ∧ c.ai.toNat ∈ MS := by
 unfold gX at h
 split at h
 case isFalse => cases h
 case isTrue hr =>
 split at h
 case isTrue => cases h
 case isFalse h62 =>
 split at h
 case isTrue => cases h
 case isFalse im =>
 obtain ⟨h1, h2, h3, h4, h5, h6, h7, h8, h9, h10, Xz, HD⟩ := of_decide_eq_true hr
 obtain ⟨ai, hp⟩ : ∃ f : Nat, c.ai = f := ⟨c.ai.toNat, by omega⟩
 obtain ⟨bj, hg⟩ : ∃ f : Nat, c.bj = f := ⟨c.bj.toNat, by omega⟩
 have hpp : c.ai.toNat = ai := by omega
 have hgg : c.bj.toNat = bj := by omega
 rw [hp] at h3
 have hpw := Y3 (n := ai) (by omega) (by omega) h3
 have p8 := pw_8 hpw
 have hl := q9 c.fac.toNat (eB c) 62 c.aM.toNat
 have hla : eB c = (c.lim.toNat + 7) / 8 * 8 := rfl
 have nB : ∀ z ∈ bX c, 64 ≤ z ∧ z ≤ ai ∧ z % 8 = 0 := IA (by omega) (by omega) (by omega) (by omega) 62 _ (by omega) (by omega) (by omega)
 have WZ : ∀ k, (cy c).rw k = ⟨[], 0, 0, 0⟩ := fun k => by
  unfold Cs.rw cy
  rw [List.getD_eq_getElem?_getD, List.getElem?_replicate]
  split <;> rfl
 have pgE : ∀ k, (cy c).pg k = .no := fun k => by
  unfold Cs.pg cy
  rw [List.getD_eq_getElem?_getD, List.getElem?_replicate]
  split <;> rfl
 have N1 : ∀ f : Pg → Nat, (cy c).Ci f = bj * f .no := fun f => by
  unfold Cs.Ci cy
  rw [List.map_replicate, Oq, hgg]
 have noAt : ∀ p, ¬ Cs.At (cy c) p := fun p a => by
  have := a.own
  rw [pgE] at this
  cases this
 refine ⟨⟨⟨?_, ?_, ?_, ?_, ?_, ?_, ?_, ?_, ?_, ?_⟩, ?_, ?_, ?_, ?_, ?_, ?_, ?_, ?_⟩, by omega, by omega, by rw [hpp]; exact hpw⟩
 ·show 4096 ≤ c.ai.toNat; omega
 ·show c.ai.toNat ≤ 1048576; omega
 ·show c.ai.toNat % 8 = 0; omega
 ·show 1 ≤ c.bj.toNat; omega
 ·show c.bj.toNat ≤ 1024; omega
 ·exact hl.1
 ·show (bX c).length ≤ 62; omega
 ·intro z hz
  have := nB z hz
  exact ⟨this.1, by show z ≤ c.ai.toNat; omega, this.2.2⟩
 ·exact List.length_replicate
 ·exact List.length_replicate
 ·intro x hx
  obtain rfl := List.eq_of_mem_replicate hx
  exact ⟨(fun h => by cases h), (fun h => by cases h), rfl, (fun g hg => by cases hg), (fun g hg => by cases hg), List.nodup_nil, rfl, fun _ => ⟨rfl, rfl, rfl⟩⟩
 ·intro k p hp
  rw [WZ] at hp; cases hp
 ·intro k; rw [WZ]; exact List.nodup_nil
 ·intro k p f; exact absurd f.toAt (noAt p)
 ·intro k _; rw [WZ, N1]; simp [ud, Pg.no]
 ·intro k _; rw [WZ, N1]; simp [xR, Pg.no]
 ·intro k _; rw [WZ, N1]; simp [xQ, Pg.no]
 rw [N1]
 show c.bj.toNat = bj * uE .no
 rw [hgg]; simp [uE, Pg.no]
theorem QT (n : Nat) : eV [.bool false, .bool false, .int .i64 0, .slice none 0 0, .slice none 0 0, .int .i64 0, .map none] (n * 7) = (List.replicate n (⟨.no, none, none, none⟩ : qX)).flatMap dL := by
 rw [sL n (n * 7) rfl, List.flatMap_def, List.map_replicate]; rfl
theorem QS (n : Nat) : eV [.slice none 0 0, .int .i64 0, .int .i64 0, .int .i64 0] (n * 4) = (List.replicate n (⟨⟨[], 0, 0, 0⟩, none, 0⟩ : Ak)).flatMap dI := by
 rw [sL n (n * 4) rfl, List.flatMap_def, List.map_replicate]; rfl
theorem Uy {a : Option Addr} {cap e sz : Nat} {xs : List Value} {k : Hp} (o : own a cap e sz xs k) (h : 0 < xs.length) : ∃ b, a = some ⟨b, 0, none⟩ := by
 obtain ⟨h1, _, ⟨_, rfl⟩ | ⟨b, _, rfl, _⟩⟩ := o
 ·rw [Nat.zero_mul] at h1; omega
 exact ⟨b, rfl⟩
theorem pQ {l : List aa} (hl : ∀ A ∈ l, ∀ h, A h) : ∀ h, aE l h := by
 induction l with
 | nil => intro h; exact trivial
 | cons A l ih => intro h; exact fX (hl A (List.mem_cons_self ..)) (ih (fun B hB => hl B (List.mem_cons_of_mem _ hB)) h)
theorem V8 {c : lA} {p g b ar ab sa pb rb cc : Nat} {S : List Nat} {H : List aa} {h : Hp} (c1 : c.ai = p) (c2 : c.bj = g) (hS : bX c = S)
  (s : aj (af b 136 [.int .i64 p, .int .i64 g, .int .i64 c.fac, .int .i64 c.aM, .int .i64 c.lim, .int .i64 c.hot, .int .i64 c.warm, .pointer (some ⟨ar, 0, none⟩), .slice (some ⟨sa, 0, none⟩) S.length cc, .slice (some ⟨pb, 0, none⟩) g g, .slice (some ⟨rb, 0, none⟩) S.length S.length, .int .i64 g] ::
   own (some ⟨sa, 0, none⟩) cc 3 1 (aH S) :: af pb 224 ((List.replicate g (⟨.no, none, none, none⟩ : qX)).flatMap dL) :: af rb 253 ((List.replicate S.length (⟨⟨[], 0, 0, 0⟩, none, 0⟩ : Ak)).flatMap dI) :: af ar 192 (fU ab p (p * g)) :: af ab 5 (cO (fun _ => 0) (p * g)) :: H) h) : aj (Cl b (cy c) :: H) h := by
 have q1 : c.ai.toNat = p := by omega
 have q2 : c.bj.toNat = g := by omega
 have e : cy c = ⟨c, p, g, S, List.replicate g .no, List.replicate S.length ⟨[], 0, 0, 0⟩, g, fun _ => 0⟩ := by unfold cy; rw [q1, q2, hS]
 rw [e]
 refine tm (y := ⟨ar, ab, sa, pb, rb, cc, List.replicate g ⟨.no, none, none, none⟩, List.replicate S.length ⟨⟨[], 0, 0, 0⟩, none, 0⟩⟩) ⟨by simp, by simp, ?_, c1, c2⟩ ?_
 ·intro x hx
  obtain rfl := List.eq_of_mem_replicate hx
  exact ⟨rfl, rfl, fun _ => rfl⟩
 unfold nF de mT
 dsimp only
 rw [Nat.mul_comm g p]
 refine aK (fun _ s => aK (fun _ s => aK (fun _ s => fX ?_ (aK (fun _ s => fX ?_ s) s)) s) s) s
 ·refine pQ fun A hA => ?_
  rw [List.map_replicate] at hA
  obtain rfl := List.eq_of_mem_replicate hA
  refine pQ fun B hB => ?_
  simp only [List.mem_cons, List.not_mem_nil, or_false] at hB
  rcases hB with rfl | rfl | rfl <;> exact fun _ => trivial
 refine pQ fun A hA => ?_
 rw [List.map_replicate] at hA
 obtain rfl := List.eq_of_mem_replicate hA
 exact fun h => w7 _ _ h
theorem Qt (c : lA) : aL Tryz.prog 28 [.agg (fy c).toArray] (fun _ => True) []
  (fun v H => (gX c ≠ 0 ∧ v = .tuple #[.pointer none, .int .i64 (gX c)] ∧ H = []) ∨ (gX c = 0 ∧ ∃ b, v = .tuple #[.pointer (some ⟨b, 0, none⟩), .int .i64 0] ∧ H = [Cl b (cy c)])) := by
 refine ag Tryz.func28 rfl Tryz.ntmps28 rfl ?_
 intro F _
 refine aD ?_
 refine Lp (oB fun b1 => ?_)
 refine bE ?_
 refine zl T.ZF (KK c) .nil (fun _ _ _ => trivial) ?_
 refine bw ?_
 by_cases hr : ja c = true
 ·refine dq ?_ (e := by exact congrArg (!·) hr)
  refine bb ?_
  refine Lp (oC T.ZE rfl rfl (Ky c hr) .nil (fun _ _ _ => trivial) ?_)
  rintro v H' ⟨a, cc, rfl, rfl⟩
  refine bo ?_
  refine cX ?_
  by_cases h62 : 62 < (bX c).length
  ·refine gK ?_
   refine bE ?_
   refine gn [] Tryz.results28 ?_
   refine .inl ⟨?_, ?_, rfl⟩ <;> (unfold gX; rw [if_pos hr, if_pos h62])
   decide
  refine dq ?_
  refine bx ?_
  by_cases im : c.bj < ((bX c).length : Int)
  ·refine gK ?_ (e := by exact decide_eq_true im)
   refine bE ?_
   refine gn [] Tryz.results28 ?_
   refine .inl ⟨?_, ?_, rfl⟩ <;> (unfold gX; rw [if_pos hr, if_neg h62, if_pos im])
   decide
  refine dq ?_ (e := by exact decide_eq_false im)
  have h0 : gX c = 0 := by unfold gX; rw [if_pos hr, if_neg h62, if_neg im]
  obtain ⟨K, e1, e2, e3⟩ := ru h0
  have hpg1 : c.bj.toNat ≤ 1024 := K.n1
  have hl : 0 < (bX c).length := (q9 _ _ _ _).1
  refine jf (eS .here (fun _ o => Uy o (by unfold aH; rw [List.length_map]; exact hl))) fun ⟨sa, hsa⟩ => ?_
  subst hsa
  obtain ⟨ai, bj, fac, aM, lim, hot, warm⟩ := c
  obtain ⟨p, rfl⟩ : ∃ p : Nat, ai = p := ⟨_, e1⟩
  obtain ⟨g, rfl⟩ : ∃ g : Nat, bj = g := ⟨_, e2⟩
  change p ∈ MS at e3
  have hg0 : 1 ≤ g := K.n0
  have hg1 : g ≤ 1024 := K.n1
  generalize hc : (⟨p, g, fac, aM, lim, hot, warm⟩ : lA) = c at *
  unfold fy
  have c1 : c.ai = p := by rw [← hc]
  have c2 : c.bj = g := by rw [← hc]
  rw [c1, c2]
  refine bO ?_
  refine Lp (oC T.ZD rfl rfl (QB p g e3 hg0 hg1) .nil (fun _ _ _ => trivial) ?_)
  rintro v H' ⟨ar, ab, rfl, rfl⟩
  refine bo ?_
  refine gg ?_
  refine ay ?_
  generalize hS : bX c = S at *
  refine cR (ι := Nat × Nat × Nat) [31, 32, 33, 34, 35, 36, 37, 38, 39, 40, 41, 42, 43, 2, 3] (fun (b, pb, rb) => True) (fun (b, pb, rb) => [(2, .pointer (some ⟨b, 0, none⟩)), (3, .int .i64 0)]) (fun (b, pb, rb) => [af b1 23 [.int .i64 p, .int .i64 g, .int .i64 c.fac, .int .i64 c.aM, .int .i64 c.lim, .int .i64 c.hot, .int .i64 c.warm], af b 136 [.int .i64 p, .int .i64 g, .int .i64 c.fac, .int .i64 c.aM, .int .i64 c.lim, .int .i64 c.hot, .int .i64 c.warm, .pointer (some ⟨ar, 0, none⟩), .slice (some ⟨sa, 0, none⟩) S.length cc, .slice (some ⟨pb, 0, none⟩) g g, .slice (some ⟨rb, 0, none⟩) S.length S.length, .int .i64 g], af pb 224 ((List.replicate g (⟨.no, none, none, none⟩ : qX)).flatMap dL), af rb 253 ((List.replicate S.length (⟨⟨[], 0, 0, 0⟩, none, 0⟩ : Ak)).flatMap dI), af ar 192 (fU ab p (p * g)), af ab 5 (cO (fun _ => 0) (p * g)), own (some ⟨sa, 0, none⟩) cc 3 1 (aH S)]) ?_ ?_
  ·refine yn T.mix (.cons (.there (.there (.there .here))) .nil) fun F1 kN cT aU => ?_
   obtain ⟨hs, _⟩ := cT
   refine Dt 0 rfl (LfN T.CG) ?_
   refine Dt 1 rfl Mv ?_
   refine Dt 2 rfl Mv ?_
   refine Dt 3 rfl (Fa T.tg) ?_
   refine Dt 4 rfl (Lf T.eL) ?_
   refine Dt 6 rfl Mv ?_
   refine Dt 7 rfl (Ln T.nm) ?_
   refine Dt 9 rfl (Fa T.tg) ?_
   refine Dt 10 rfl (Lf T.eL) ?_
   refine D2 5 8 ?_ ?_
   ·refine Do rfl (oM (g) (g) T.JV fun b2 => ?_)
    refine aD ?_
    refine Dn 8 ?_
    refine Do rfl (oM (S.length) (S.length) T.JU fun b3 => ?_)
    refine aD ?_
    refine Dt 11 rfl (Bd T.Iu T.ID) ?_
    refine Dn 12 ?_
    refine Do rfl (oB fun b4 => ?_)
    refine aD ?_
    refine Dt 13 rfl As ?_
    refine Dt 14 rfl As ?_
    refine br (by kernel_rfl) aU ?_
    rw [QT, QS]
    refine Me ((b4, b2, b3)) (trivial)
   refine Do rfl (oM (S.length) (S.length) T.JU fun b5 => ?_)
   refine aD ?_
   refine Dn 5 ?_
   refine Do rfl (oM (g) (g) T.JV fun b6 => ?_)
   refine aD ?_
   refine Dt 11 rfl (Bd T.Iu T.ID) ?_
   refine Dn 12 ?_
   refine Do rfl (oB fun b7 => ?_)
   refine aD ?_
   refine Dt 13 rfl As ?_
   refine Dt 14 rfl As ?_
   refine br (by kernel_rfl) aU ?_
   rw [QT, QS]
   refine Me ((b7, b6, b5)) (trivial)
  rintro ⟨b, pb, rb⟩ hI
  try dsimp only at hI ⊢
  refine aD ?_
  refine Hh (H' := [af b 136 [.int .i64 p, .int .i64 g, .int .i64 c.fac, .int .i64 c.aM, .int .i64 c.lim, .int .i64 c.hot, .int .i64 c.warm, .pointer (some ⟨ar, 0, none⟩), .slice (some ⟨sa, 0, none⟩) S.length cc, .slice (some ⟨pb, 0, none⟩) g g, .slice (some ⟨rb, 0, none⟩) S.length S.length, .int .i64 g], own (some ⟨sa, 0, none⟩) cc 3 1 (aH S), af pb 224 ((List.replicate g (⟨.no, none, none, none⟩ : qX)).flatMap dL), af rb 253 ((List.replicate S.length (⟨⟨[], 0, 0, 0⟩, none, 0⟩ : Ak)).flatMap dI), af ar 192 (fU ab p (p * g)), af ab 5 (cO (fun _ => 0) (p * g)), af b1 23 [.int .i64 p, .int .i64 g, .int .i64 c.fac, .int .i64 c.aM, .int .i64 c.lim, .int .i64 c.hot, .int .i64 c.warm]]) ?_
  refine az (fun _ s => V8 c1 c2 hS s) ?_
  refine gn [Cl b (cy c)] Tryz.results28 ?_
  exact .inr ⟨h0, b, rfl, rfl⟩
 refine gK ?_ (e := by exact congrArg (!·) (by simpa using hr))
 refine bE ?_
 refine gn [] Tryz.results28 ?_
 refine .inl ⟨?_, ?_, rfl⟩ <;> (unfold gX; rw [if_neg hr])
 decide
theorem Yr (C : Cs) (n : Nat) : eV [.int .u64 0, .int .u64 0, .int .i64 0, .int .u64 0, .int .u64 0, .int .i64 0, .int .u64 0, .int .u64 0, .int .i64 0] (n * 9) = (List.replicate (n * 3) []).flatMap (dD C) := by
 rw [sL n (n * 9) rfl, List.flatMap_def, List.map_replicate]
 induction n with
 | zero => rfl
 | succ n ih =>
  rw [List.replicate_succ, List.flatten_cons, ih, show (n + 1) * 3 = n * 3 + 1 + 1 + 1 by omega]
  simp only [List.replicate_succ, List.flatten_cons]
  rfl
theorem OI (b : Nat) (C : Cs) (K : Ok C) : aL Tryz.prog 29 [.pointer (some ⟨b, 0, none⟩)] (In (Cl b C)) []
  (fun v H => ∃ q qb, v = .tuple #[.pointer (some ⟨q, 0, none⟩), .int .i64 0] ∧ H = [af q 139 (dy b qb C.ae.length), af qb 327 ((List.replicate (C.ae.length * 3) []).flatMap (dD C))]) := by
 have hl := K.l1
 unfold dy
 refine ag Tryz.func29 rfl Tryz.ntmps29 rfl ?_
 intro F hc
 refine oo ?_
 refine zl T.CA (lq b C) .nil (fun _ le _ => hc.mono le) ?_
 refine Lp (oM (C.ae.length) (C.ae.length) T.Wq fun b1 => ?_)
 rw [Yr C]
 refine aD ?_
 refine Lp (oB fun b2 => ?_)
 refine bb ?_
 refine gn [af b2 139 [.pointer (some ⟨b, 0, none⟩), .slice (some ⟨b1, 0, none⟩) C.ae.length C.ae.length], af b1 327 ((List.replicate (C.ae.length * 3) []).flatMap (dD C))] Tryz.results29 ?_
 exact ⟨_, _, rfl, rfl⟩
def grow (lim : Nat) : Nat → Nat → Nat
 | 0, n => n
 | k + 1, n => if 2 * n ≤ lim then grow lim k (2 * n) else n
def kj (C : Cs) : Nat := grow (min (4 * (C.n * (C.ai / C.sz 0))) 1048576) 16 16
theorem Dz (lim : Nat) (h : lim ≤ 1048576) : ∀ k n, (∃ m, m + k = 20 ∧ n = 2 ^ m) → 16 ≤ n → ∃ m, m ≤ 20 ∧ grow lim k n = 2 ^ m ∧ 16 ≤ grow lim k n
 | 0, n, ⟨m, h1, h2⟩, h3 => ⟨m, by omega, h2, h3⟩
 | k + 1, n, ⟨m, h1, h2⟩, h3 => by
  unfold grow
  split
  ·exact Dz lim h k (2 * n) ⟨m + 1, by omega, by rw [h2, Nat.pow_succ]; omega⟩ (by omega)
  exact ⟨m, by omega, h2, h3⟩
def kQ (m : Nat) : Tb := ⟨m, 0, 16, List.replicate 16 [], [], 0, 0⟩
theorem aac {C : Cs} {m : Nat} (h : ∃ j, j ≤ 20 ∧ m = 2 ^ j) (Ss : 16 ≤ m) : cz C (kQ m) := by
 have ch : ∀ x, (kQ m).ch x = [] := fun x => by
  obtain ⟨f, i⟩ := x
  unfold Tb.ch kQ
  rcases f with _ | _
  ·simp only [Bool.false_eq_true, if_false, List.getD_eq_getElem?_getD, List.getElem?_replicate]
   split <;> rfl
  simp [List.getD_eq_getElem?_getD]
 have al : (kQ m).all = [] := by unfold kQ Tb.all; simp
 refine ⟨⟨4, by decide, by simp [kQ]⟩, .inl rfl, .inl ⟨rfl, rfl⟩, h, by simp [kQ], Nat.le_refl _, Ss, Nat.zero_le _, ?_, ?_, ?_, ?_, ?_, ?_, ?_⟩
 ·rw [al]; rfl
 ·rw [al]; exact List.nodup_nil
 ·intro x; rw [ch]; trivial
 ·intro p hp; rw [al] at hp; cases hp
 ·intro p hp; rw [al] at hp; cases hp
 ·intro x p hp; rw [ch] at hp; cases hp
 intro p hp; rw [al] at hp; cases hp
theorem On (b : Nat) (C : Cs) (K : Ok C) : aL Tryz.prog 31 [.pointer (some ⟨b, 0, none⟩)] (In (Cl b C)) []
  (fun v H => ∃ t nk, v = .tuple #[.pointer (some ⟨t, 0, none⟩), .int .i64 0] ∧ H = [af t 145 (dg b (kQ (kj C)) ⟨nk, none⟩), af nk 163 (ax (ao (kQ (kj C)).nb))]) := by
 have hl := K.l0
 obtain ⟨z1, z2, z3⟩ := K.toFix.sz (c := 0) (by omega)
 have n0 := K.n0
 have n1 := K.n1
 have p0 := K.p0
 have p1 := K.p1
 have hq : C.ai / C.sz 0 ≤ 16384 := Nat.div_le_of_le_mul (by omega)
 have hm : C.n * (C.ai / C.sz 0) ≤ 1024 * 16384 := Nat.mul_le_mul n1 hq
 obtain ⟨ft, Sk⟩ : ∃ ft, ft = C.n * (C.ai / C.sz 0) := ⟨_, rfl⟩
 unfold dg kj
 rw [← Sk] at hm ⊢
 refine ag Tryz.func31 rfl Tryz.ntmps31 rfl ?_
 intro F hc
 obtain ⟨y, hy, _⟩ := RL hc
 have Ng := GY b C
 have hcE : fy C.cfg = [.int .i64 (C.ai : Int), .int .i64 (C.n : Int), .int .i64 C.cfg.fac, .int .i64 C.cfg.aM, .int .i64 C.cfg.lim, .int .i64 C.cfg.hot, .int .i64 C.cfg.warm] := by
  unfold fy; rw [hy.ai, hy.bj]
 rw [hcE] at Ng
 have hch : ofM C 0 (fun i => C.sz i) = C.sz 0 := by unfold ofM; rw [if_pos ⟨by omega, by omega⟩]; rfl
 have X9 := vQ b C K 0
 rw [hch] at X9
 refine gg ?_
 refine zl T.ZC (Ng) .nil (fun _ le _ => hc.mono le) ?_
 refine Lp (oA T.HT fun b1 => ?_)
 refine bE ?_
 refine ay ?_
 refine aw (t := 5) (v' := (.int .i64 ((16 : Nat) : Int))) rfl (by rfl) ?_
 refine jC 8 T.mix (.cons .here .nil) fun F1 kN cT aU => ?_
 obtain ⟨q1, _⟩ := cT
 refine bq ?_
 refine Tp (oC T.RE rfl rfl (X9) .nil (fun _ le _ => (hc.mono kN).mono le) ?_)
 rintro v H' ⟨rfl, rfl⟩
 refine bo ?_
 refine Ti (Qu) ?_
 refine Ti (MuN) ?_
 refine iC aU ?_
 refine aw (t := 18) (v' := (.int .i64 (ft : Int))) rfl (by exact congrArg (Value.int .i64) (by rw [Sk])) ?_
 refine bL ?_
 refine Lo (ι := Nat × Nat) [19, 20, 21, 22, 23, 24, 25, 26, 5] (fun s => (∃ m, m + s.1 = 20 ∧ s.2 = 2 ^ m) ∧ 16 ≤ s.2 ∧ s.2 ≤ 1048576 ∧ grow (min (4 * ft) 1048576) 16 16 = grow (min (4 * ft) 1048576) s.1 s.2) (fun s => [(5, .int .i64 (s.2 : Int))]) (fun s => [af b1 23 [.int .i64 (C.ai : Int), .int .i64 (C.n : Int), .int .i64 C.cfg.fac, .int .i64 C.cfg.aM, .int .i64 C.cfg.lim, .int .i64 C.cfg.hot, .int .i64 C.cfg.warm]]) (fun s => s.1) ((16, 16)) ⟨⟨4, rfl, rfl⟩, Nat.le_refl _, (by decide), rfl⟩ ?_
 rintro ⟨k, n⟩ ⟨⟨m, i1, i2⟩, i3, i4, i5⟩
 dsimp only at i1 i2 i3 i4 i5 ⊢
 refine bE ?_
 refine Li Mi ?_
 refine aw (t := 23) (v' := (.int .i64 ((min (4 * ft) 1048576 : Nat) : Int))) rfl (by exact congrArg (Value.int .i64) (by omega)) ?_
 generalize hlm : min (4 * ft) 1048576 = lm at *
 have X7 : lm ≤ 1048576 := by omega
 refine bw ?_
 refine au rfl ?_ ?_
 ·intro hle
  replace hle := aF hle
  obtain ⟨k, rfl⟩ : ∃ j, k = j + 1 := by
   refine ⟨k - 1, ?_⟩
   rcases k with _ | k
   ·rw [show m = 20 by omega] at i2
    exfalso; omega
   omega
  have e : grow lm (k + 1) n = grow lm k (2 * n) := by
   conv => lhs; unfold grow
   rw [if_pos (by omega)]
  refine cY ?_
  refine aw (t := 5) (v' := (.int .i64 ((2 * n : Nat) : Int))) rfl (by exact congrArg (Value.int .i64) (by omega)) ?_
  refine Ro ((k, 2 * n)) (⟨⟨m + 1, by omega, by rw [i2, Nat.pow_succ]; omega⟩, by omega, by omega, i5.trans e⟩) ((by dsimp only; omega))
 intro hle
 replace hle := aF hle
 have e : grow lm k n = n := by
  rcases k with _ | k
  ·rfl
  unfold grow
  rw [if_neg (by omega)]
 rw [i5, e]
 refine cX ?_
 refine Lp (oM (16) (16) T.wP fun b2 => ?_)
 rw [vp]
 refine aD ?_
 refine Lp (oB fun b3 => ?_)
 refine bb ?_
 refine gn [af b3 145 (dg b (kQ n) ⟨b2, none⟩), af b2 163 (ax (ao (kQ n).nb))] Tryz.results31 ?_
 exact ⟨_, _, rfl, rfl⟩
theorem U4 : (Tryz.prog.underlying 154).map (fun d => match d with | .func .. => true | _ => false) = some true := by kernel_rfl
theorem La (n : Nat) : eV [.int .i64 0] (n * 1) = aH (List.replicate n 0) := by
 rw [mf, Nat.mul_one]
 unfold aH
 rw [List.map_replicate]; rfl
def qO (n : Nat) : jQ := ⟨List.replicate n 0, 0, 0, 0, 0, false⟩
theorem Px (b : Nat) (C : Cs) (K : Ok C) (f g h : Fn) (fa ga ha : Array Value) :
  aL Tryz.prog 67 [.pointer (some ⟨b, 0, none⟩), .func f fa #[], .func g ga #[], .func h ha #[]] (In (Cl b C)) []
   (fun v H => ∃ a ub, v = .tuple #[.pointer (some ⟨a, 0, none⟩), .int .i64 0] ∧ H = [iB a b ub (.func f fa #[]) (.func g ga #[]) (.func h ha #[]) (qO C.ae.length), iM ub (qO C.ae.length)]) := by
 have hl := K.l1
 unfold iB moC iM
 refine ag Tryz.func67 rfl Tryz.ntmps67 rfl ?_
 intro F hc
 refine cY ?_
 refine zf 12 ?_ (e := by rfl)
 refine aD ?_
 refine Li (XN I8) ?_
 refine bw ?_
 refine zf 16 ?_ (e := by rfl)
 refine aD ?_
 refine Li (XN AT) ?_
 refine bw ?_
 refine zf 20 ?_ (e := by rfl)
 refine aD ?_
 refine Li (XN U4) ?_
 refine bP ?_
 refine zl T.CA (lq b C) .nil (fun _ le _ => hc.mono le) ?_
 refine Lp (oM (C.ae.length) (C.ae.length) T.dZ fun b1 => ?_)
 rw [La]
 refine aD ?_
 refine Lp (oB fun b2 => ?_)
 refine bb ?_
 refine gn [af b2 201 [.pointer (some ⟨b, 0, none⟩), .func f fa #[], .func g ga #[], .func h ha #[], .slice (some ⟨b1, 0, none⟩) C.ae.length C.ae.length, .int .i64 0, .int .i64 0, .int .i64 0, .int .i64 0, .bool false], af b1 3 (aH (List.replicate C.ae.length 0))] Tryz.results67 ?_
 refine ⟨b2, b1, rfl, ?_⟩
 unfold qO
 dsimp only
 rw [List.length_replicate]
 rfl
theorem LH (b q : Nat) (hot warm : Int) (h : ¬ (1 ≤ hot ∧ 1 ≤ warm ∧ hot + warm ≤ 90)) :
  aL Tryz.prog 30 [.pointer (some ⟨b, 0, none⟩), .pointer (some ⟨q, 0, none⟩), .int .i64 hot, .int .i64 warm] (fun _ => True) []
   (fun v H => v = .tuple #[.pointer none, .int .i64 1] ∧ H = []) := by
 refine ag Tryz.func30 rfl Tryz.ntmps30 rfl ?_
 intro F _
 refine cY ?_
 refine zf 12 ?_ (e := by rfl)
 refine bb ?_
 refine zf 16 ?_ (e := by rfl)
 refine bb ?_
 by_cases h1 : hot < 1
 ·refine zt 20 ?_ (e := by exact decide_eq_true h1)
  refine ca ?_
  refine aD ?_
  refine gn [] Tryz.results30 ?_
  exact ⟨rfl, rfl⟩
 refine zf 20 ?_ (e := by exact decide_eq_false h1)
 refine bb ?_
 by_cases h2 : warm < 1
 ·refine zt 24 ?_ (e := by exact decide_eq_true h2)
  refine mV ?_
  refine gn [] Tryz.results30 ?_
  exact ⟨rfl, rfl⟩
 refine zf 24 ?_ (e := by exact decide_eq_false h2)
 refine bb ?_
 by_cases h3 : 90 < hot
 ·refine zt 28 ?_ (e := by exact decide_eq_true h3)
  refine gh ?_
  refine gn [] Tryz.results30 ?_
  exact ⟨rfl, rfl⟩
 refine zf 28 ?_ (e := by exact decide_eq_false h3)
 refine bE ?_
 refine gK ?_
 refine bE ?_
 refine gn [] Tryz.results30 ?_
 exact ⟨rfl, rfl⟩
def qN (p : uH) : List Value := [.int .i64 p.b, .int .i64 p.l, .int .i64 p.c, .int .i64 p.m]
theorem Pw (c : lA) (pc : uH) (b q lu t : Nat) (C : Cs) (K : Ok C) (k : Ck) (hk : N5 k) (bm : Nat) :
  aL Tryz.prog 32 [.agg (fy c).toArray, .agg (qN pc).toArray, .pointer (some ⟨b, 0, none⟩), .pointer (some ⟨q, 0, none⟩), .pointer (some ⟨lu, 0, none⟩), .pointer (some ⟨t, 0, none⟩), .agg #[.int .i64 (k.now : Int), .int .u64 (bm : Int), .int .u64 (k.cut : Int), .int .i64 (k.nG : Int)]] (In (Cl b C)) []
   (fun v H => ∃ s ck wh cr mo ub, v = .tuple #[.pointer (some ⟨s, 0, none⟩), .int .i64 0] ∧ H = [ij s ⟨b, ck, t, lu, wh, cr, mo, q⟩ (gF ⟨c, pc, 0, 0, ⟨0, 0, 0, 0, 0, 0, 0⟩, none, 0, 0⟩), iN ck k, Wl wh [] 0, ey cr q wh C.ae.length (aO s) (aN s) C ⟨0, false, 0, 0, none, 0⟩, iB mo b ub (aO s) (aN s) (bn s) (qO C.ae.length), iM ub (qO C.ae.length)]) := by
 have k1 := hk.n1
 have k2 := hk.n2
 have k3 := hk.p
 have k4 := hk.pn
 have l0 := K.l0
 have l1 := K.l1
 unfold fy qN ij
 refine ag Tryz.func32 rfl Tryz.ntmps32 rfl ?_
 intro F hc
 refine aD ?_
 refine Lp (oB fun b1 => ?_)
 refine Lp (oB fun b2 => ?_)
 refine Lp (oB fun b3 => ?_)
 refine bx ?_
 refine Lp (oC T.ZB rfl rfl (Mx k k1 k2 (by omega) (by omega)) .nil (fun _ _ _ => trivial) ?_)
 rintro v H' ⟨ck, rfl, rfl⟩
 refine bo ?_
 refine gg ?_
 refine ay ?_
 refine jC 11 T.mix (.cons (.there (.there .here)) (.cons (.there (.there .here)) .nil)) fun F1 kN cT aU => ?_
 obtain ⟨q1, q2, _⟩ := cT
 refine bb ?_
 refine Tp (oC T.ZA rfl rfl (QE) .nil (fun _ _ _ => trivial) ?_)
 rintro v H' ⟨wh, rfl, rfl⟩
 refine bo ?_
 refine bb ?_
 refine aw (t := 38) (v' := (.agg #[.pointer (some ⟨b, 0, none⟩), .pointer (some ⟨ck, 0, none⟩), .pointer (some ⟨t, 0, none⟩), .pointer (some ⟨lu, 0, none⟩), .pointer (some ⟨wh, 0, none⟩), .pointer none, .pointer none, .pointer (some ⟨q, 0, none⟩)])) rfl (by rfl) ?_
 refine aw (t := 39) (v' := (.agg #[.int .i64 c.ai, .int .i64 c.bj, .int .i64 c.fac, .int .i64 c.aM, .int .i64 c.lim, .int .i64 c.hot, .int .i64 c.warm])) rfl (by rfl) ?_
 refine aw (t := 40) (v' := (.agg #[.int .i64 pc.b, .int .i64 pc.l, .int .i64 pc.c, .int .i64 pc.m])) rfl (by rfl) ?_
 refine aD ?_
 refine aw (t := 41) (v' := (.agg #[.pointer (some ⟨b, 0, none⟩), .pointer (some ⟨ck, 0, none⟩), .pointer (some ⟨t, 0, none⟩), .pointer (some ⟨lu, 0, none⟩), .pointer (some ⟨wh, 0, none⟩), .pointer none, .pointer none, .pointer (some ⟨q, 0, none⟩), .int .i64 c.ai, .int .i64 c.bj, .int .i64 c.fac, .int .i64 c.aM, .int .i64 c.lim, .int .i64 c.hot, .int .i64 c.warm, .int .i64 pc.b, .int .i64 pc.l, .int .i64 pc.c, .int .i64 pc.m, .int .u64 0, .int .i64 0, .int .i64 0, .int .i64 0, .int .i64 0, .int .i64 0, .int .i64 0, .int .i64 0, .int .i64 0, .slice none 0 0])) rfl (by (simp only [Value.cells, db, List.set_cons_zero, List.set_cons_succ]; first | rfl | done)) ?_
 refine Tp (oB fun b4 => ?_)
 refine iC aU ?_
 refine bw ?_
 refine ay ?_
 refine cR (ι := Nat) [44, 45, 46, 47, 48, 49, 50, 51, 52, 53, 54, 55, 56, 57, 43, 58, 59, 60, 61, 62, 17] (fun cr => True) (fun cr => [(17, .int .i64 0), (18, .pointer (some ⟨b4, 0, none⟩))]) (fun cr => [af b4 111 [.pointer (some ⟨b, 0, none⟩), .pointer (some ⟨ck, 0, none⟩), .pointer (some ⟨t, 0, none⟩), .pointer (some ⟨lu, 0, none⟩), .pointer (some ⟨wh, 0, none⟩), .pointer (some ⟨cr, 0, none⟩), .pointer none, .pointer (some ⟨q, 0, none⟩), .int .i64 c.ai, .int .i64 c.bj, .int .i64 c.fac, .int .i64 c.aM, .int .i64 c.lim, .int .i64 c.hot, .int .i64 c.warm, .int .i64 pc.b, .int .i64 pc.l, .int .i64 pc.c, .int .i64 pc.m, .int .u64 0, .int .i64 0, .int .i64 0, .int .i64 0, .int .i64 0, .int .i64 0, .int .i64 0, .int .i64 0, .int .i64 0, .slice none 0 0], ey cr q wh C.ae.length (aO b4) (aN b4) C ⟨0, false, 0, 0, none, 0⟩, Wl wh [] 0, iN ck k]) ?_ ?_
 ·refine yn T.mix .nil fun F2 D1 eO eP => ?_
  refine Dt 0 rfl Mv ?_
  refine Dt 1 rfl Mv ?_
  refine Dt 2 rfl Mv ?_
  refine Dt 3 rfl Nc ?_
  refine Dt 4 rfl (Fa T.iQ) ?_
  refine Dt 5 rfl (Fa T.vM) ?_
  refine Dt 7 rfl Mv ?_
  refine Dt 9 rfl Mv ?_
  refine Dt 10 rfl Mf ?_
  refine Dt 11 rfl Mv ?_
  refine Dt 12 rfl Mf ?_
  refine D2 6 8 ?_ ?_
  ·refine Do rfl (oL T.AI ?_)
   refine aD ?_
   refine Dn 8 ?_
   refine Do rfl (oC T.CA rfl rfl (lq b C) .nil (fun _ le _ => (hc.mono D1).mono le) ?_)
   rintro v H' ⟨rfl, rfl⟩
   refine bo ?_
   refine aD ?_
   refine Dn 13 ?_
   refine Do rfl (oC T.RD rfl rfl (DR q wh C.ae.length l0 l1 (.func 40) (.func 66) #[.pointer (some ⟨b4, 0, none⟩)] #[] #[.pointer (some ⟨b4, 0, none⟩)] #[] C) .nil (fun _ _ _ => trivial) ?_)
   rintro v H' ⟨cr, rfl, rfl⟩
   refine bo ?_
   refine aD ?_
   refine Dt 14 rfl Mv ?_
   refine Dt 15 rfl Ex ?_
   refine Dt 16 rfl Ex ?_
   refine Dt 17 rfl Nc ?_
   refine Dt 18 rfl (Fa T.iQ) ?_
   refine Dt 19 rfl (Fa T.qh) ?_
   refine Dn 20 ?_
   refine Do rfl (oS T.AH ?_)
   refine aD ?_
   refine Dt 21 rfl As ?_
   refine br (by kernel_rfl) eP ?_
   refine Me (cr) (trivial)
  refine Do rfl (oC T.CA rfl rfl (lq b C) .nil (fun _ le _ => (hc.mono D1).mono le) ?_)
  rintro v H' ⟨rfl, rfl⟩
  refine bo ?_
  refine aD ?_
  refine Dn 6 ?_
  refine Do rfl (oL T.AI ?_)
  refine aD ?_
  refine Dn 13 ?_
  refine Do rfl (oC T.RD rfl rfl (DR q wh C.ae.length l0 l1 (.func 40) (.func 66) #[.pointer (some ⟨b4, 0, none⟩)] #[] #[.pointer (some ⟨b4, 0, none⟩)] #[] C) .nil (fun _ _ _ => trivial) ?_)
  rintro v H' ⟨cr, rfl, rfl⟩
  refine bo ?_
  refine aD ?_
  refine Dt 14 rfl Mv ?_
  refine Dt 15 rfl Ex ?_
  refine Dt 16 rfl Ex ?_
  refine Dt 17 rfl Nc ?_
  refine Dt 18 rfl (Fa T.iQ) ?_
  refine Dt 19 rfl (Fa T.qh) ?_
  refine Dn 20 ?_
  refine Do rfl (oS T.AH ?_)
  refine aD ?_
  refine Dt 21 rfl As ?_
  refine br (by kernel_rfl) eP ?_
  refine Me (cr) (trivial)
 rintro cr hI
 refine ed ?_
 refine Li Mf ?_
 refine aD ?_
 refine Li Mf ?_
 refine aD ?_
 refine Li Mf ?_
 refine Lp (oC T.Zz rfl rfl (Px b C K (.func 40) (.func 66) (.func 68) #[.pointer (some ⟨b4, 0, none⟩)] #[.pointer (some ⟨b4, 0, none⟩)] #[.pointer (some ⟨b4, 0, none⟩)]) .nil (fun _ le _ => hc.mono le) ?_)
 rintro v H' ⟨mo, ub, rfl, rfl⟩
 refine bo ?_
 refine ca ?_
 refine bL ?_
 refine gn [af b4 111 [.pointer (some ⟨b, 0, none⟩), .pointer (some ⟨ck, 0, none⟩), .pointer (some ⟨t, 0, none⟩), .pointer (some ⟨lu, 0, none⟩), .pointer (some ⟨wh, 0, none⟩), .pointer (some ⟨cr, 0, none⟩), .pointer (some ⟨mo, 0, none⟩), .pointer (some ⟨q, 0, none⟩), .int .i64 c.ai, .int .i64 c.bj, .int .i64 c.fac, .int .i64 c.aM, .int .i64 c.lim, .int .i64 c.hot, .int .i64 c.warm, .int .i64 pc.b, .int .i64 pc.l, .int .i64 pc.c, .int .i64 pc.m, .int .u64 0, .int .i64 0, .int .i64 0, .int .i64 0, .int .i64 0, .int .i64 0, .int .i64 0, .int .i64 0, .int .i64 0, .slice none 0 0], iN ck k, Wl wh [] 0, ey cr q wh C.ae.length (aO b4) (aN b4) C ⟨0, false, 0, 0, none, 0⟩, iB mo b ub (aO b4) (aN b4) (bn b4) (qO C.ae.length), iM ub (qO C.ae.length)] Tryz.results32 ?_
 exact ⟨b4, ck, wh, cr, mo, ub, rfl, rfl⟩
def dY (c : lA) (pc : uH) (k : Ck) : Mo :=
 ⟨cy c, none, List.replicate ((cy c).ae.length * 3) [], fun _ => ⟨[], [], 0, 0, 0, 0, 0⟩, fun _ => 0, ⟨0, false, 0, 0, none, 0⟩, 0, k, qO (cy c).ae.length, 16, 0, kj (cy c), ⟨c, pc, 0, 0, ⟨0, 0, 0, 0, 0, 0, 0⟩, none, 0, 0⟩, [], 0⟩
theorem K9 {c : lA} (p : Nat) : ¬ Live (cy c) p := fun L => by
 have := L.own
 unfold Cs.pg cy at this
 rw [List.getD_eq_getElem?_getD, List.getElem?_replicate] at this
 split at this <;> cases this
theorem AK (n i : Nat) : ql (List.replicate n []) i = [] := by
 unfold ql
 rw [List.getD_eq_getElem?_getD, List.getElem?_replicate]
 split <;> rfl
theorem De {c : lA} (h : gX c = 0) (pc : uH) (k : Ck) (hk : N5 k) (nk : Nat) : bT ⟨cy c, kQ (kj (cy c)), ⟨nk, none⟩, []⟩ (dY c pc k) := by
 obtain ⟨K, e1, e2, e3⟩ := ru h
 have l1 := K.l1
 have al : (kQ (kj (cy c))).all = [] := by unfold kQ Tb.all; simp
 have hm : ∃ m, m ≤ 20 ∧ kj (cy c) = 2 ^ m ∧ 16 ≤ kj (cy c) := Dz _ (by omega) 16 16 ⟨4, rfl, rfl⟩ (Nat.le_refl _)
 obtain ⟨m, m1, m2, m3⟩ := hm
 have pgE : ∀ i, (cy c).pg i = .no := fun i => by
  unfold Cs.pg cy
  rw [List.getD_eq_getElem?_getD, List.getElem?_replicate]
  split <;> rfl
 have qe : ∀ i p, p ∈ ql (dY c pc k).Q i → False := fun i p hp => by
  rw [show (dY c pc k).Q = List.replicate ((cy c).ae.length * 3) [] from rfl, AK] at hp
  cases hp
 refine ⟨rfl, K, aac ⟨m, m1, m2⟩ m3, fun _ => rfl, ⟨?_, fun i p hp => (qe i p hp).elim, fun i p hp => (qe i p hp).elim, fun i p hp => (qe i p hp).elim, fun i => ?_, fun i k hk => ?_, fun i k hk => ?_⟩, ⟨?_, ?_, ?_, ?_⟩, fun i p hp => (qe i p hp).elim, hk, fun p => ?_, fun p => ?_, ?_, ?_, ?_, (fun h => by cases h), rfl, rfl, rfl, ?_, ?_, ?_, fun i hi => ?_, rfl, rfl, rfl, fun p hp => ?_⟩
 ·exact List.length_replicate
 ·rw [show (dY c pc k).Q = List.replicate ((cy c).ae.length * 3) [] from rfl, AK]; exact List.nodup_nil
 ·exact (qe i _ (List.getElem_mem hk)).elim
 ·exact (qe i _ (List.getElem_mem hk)).elim
 ·intro h; cases h
 ·intro _; exact ⟨rfl, rfl, rfl, rfl⟩
 ·intro p h; cases h
 ·exact Nat.zero_le _
 ·constructor
  ·intro h; dsimp only at h; rw [al] at h; cases h
  rintro ⟨i, hi⟩; exact (qe i p hi).elim
 ·constructor
  ·intro h; exact (K9 p h).elim
  rintro (h | h)
  ·dsimp only at h; rw [al] at h; cases h
  cases h
 ·intro p h; cases h
 ·intro p hp; dsimp only at hp; rw [al] at hp; cases hp
 ·unfold iq; dsimp only; rw [al]; exact List.Perm.refl _
 ·dsimp only; rw [al]; rfl
 ·exact List.length_replicate
 ·intro h; cases h
 ·dsimp only at hi; rw [pgE] at hi; cases hi
 dsimp only at hp; rw [al] at hp; cases hp
theorem TC {c : lA} {pc : uH} {k : Ck} {s b ck t lu wh cr mo q qb ub nk : Nat} {hot warm : Nat} (h : gX c = 0) (hk : N5 k) {H : List aa} : ∀ h, aj ([Cl b (cy c), af t 145 (dg b (kQ (kj (cy c))) ⟨nk, none⟩), af nk 163 (ax (ao (kQ (kj (cy c))).nb)), af q 139 (dy b qb (cy c).ae.length), af qb 327 ((List.replicate ((cy c).ae.length * 3) []).flatMap (dD (cy c))), ey cr q wh (cy c).ae.length (aO s) (aN s) (cy c) ⟨0, false, 0, 0, none, 0⟩, Wl wh [] 0, ij s ⟨b, ck, t, lu, wh, cr, mo, q⟩ (gF ⟨c, pc, 0, 0, ⟨0, 0, 0, 0, 0, 0, 0⟩, none, 0, 0⟩), iN ck k, gf lu b q hot warm, iB mo b ub (aO s) (aN s) (bn s) (qO (cy c).ae.length), iM ub (qO (cy c).ae.length)] ++ H) h → aj (SW ⟨s, ⟨b, ck, t, lu, wh, cr, mo, q⟩, qb, ub, hot, warm⟩ (dY c pc k) :: H) h := fun h0 s0 =>
 eQ none 0 h0 (aR (B := ⟨cy c, kQ (kj (cy c)), ⟨nk, none⟩, []⟩) (De h pc k hk nk) h0 (by
  unfold gp
  dsimp only [List.cons_append, List.nil_append]
  refine aK (fun _ s => aK (fun _ s => aK (fun _ s => fX (fun _ => trivial) (aK (fun _ s => aK (fun _ s => aK (fun _ s => aK (fun _ s => aK (fun _ s => aK (fun _ s => aK (fun _ s => aK (fun _ s => aK (fun _ s => fX (fun k => w7 _ _ k) s) s) s) s) s) s) s) s) s) s)) s) s) s0))
def yg (p : uH) : Bool := decide ((0 ≤ p.b ∧ p.b ≤ 1048576) ∧ (0 ≤ p.l ∧ p.l ≤ 1048576) ∧ (0 ≤ p.c ∧ p.c ≤ 1048576) ∧ (0 ≤ p.m ∧ p.m ≤ 1048576))
def ke (c : lA) (p : uH) : Int := if gX c = 0 then if 1 ≤ c.hot ∧ 1 ≤ c.warm ∧ c.hot + c.warm ≤ 90 then if yg p = true then 0 else 1 else 1 else gX c
theorem Z3 : Aj Tryz.prog 88 = some (4, 3, 1) := by kernel_rfl
theorem yJ (c : lA) (pc : uH) : aL Tryz.prog 8 [.agg (fy c).toArray, .agg (qN pc).toArray] (fun _ => True) []
  (fun v H => (ke c pc ≠ 0 ∧ v = .tuple #[.pointer none, .int .i64 (ke c pc)] ∧ H = []) ∨ (ke c pc = 0 ∧ ∃ z : Ly, z.hot = c.hot.toNat ∧ z.warm = c.warm.toNat ∧ z.hot ≤ 90 ∧ z.warm ≤ 90 ∧ v = .tuple #[.pointer (some ⟨z.s, 0, none⟩), .int .i64 0] ∧ H = [SW z (dY c pc ⟨1, 0, 0⟩)])) := by
 unfold qN
 refine ag Tryz.func8 rfl Tryz.ntmps8 rfl ?_
 intro F _
 refine aD ?_
 refine Lp (oB fun b1 => ?_)
 refine Lp (oB fun b2 => ?_)
 refine bq ?_
 refine Lp (oC T.ZP rfl rfl (Qt c) .nil (fun _ _ _ => trivial) ?_)
 rintro v H' hr
 refine bo ?_
 rcases hr with ⟨h1, rfl, rfl⟩ | ⟨h1, b, rfl, rfl⟩
 ·refine Li Mv ?_
  refine bx ?_
  refine gK ?_ (e := by exact congrArg (!·) (decide_eq_false h1))
  refine bO ?_
  refine gn [] Tryz.results8 ?_
  exact .inl (by unfold ke; rw [if_neg h1]; exact ⟨h1, rfl, rfl⟩)
 refine Li Mv ?_
 refine bP ?_
 obtain ⟨K, e1, e2, e3⟩ := ru h1
 refine bb ?_
 refine Lp (oC T.ZO rfl rfl (OI b (cy c) K) .nil (fun _ le av => av.1) ?_)
 rintro v H' ⟨q, qb, rfl, rfl⟩
 refine bo ?_
 refine ca ?_
 refine aD ?_
 by_cases h2 : 1 ≤ c.hot ∧ 1 ≤ c.warm ∧ c.hot + c.warm ≤ 90
 ·obtain ⟨hot, hh⟩ : ∃ n : Nat, c.hot = n := ⟨c.hot.toNat, by omega⟩
  obtain ⟨warm, hw⟩ : ∃ n : Nat, c.warm = n := ⟨c.warm.toNat, by omega⟩
  refine aw (t := 33) (v' := (.int .i64 (hot : Int))) rfl (by exact congrArg (Value.int .i64) hh) ?_
  refine aw (t := 35) (v' := (.int .i64 (warm : Int))) rfl (by exact congrArg (Value.int .i64) hw) ?_
  refine Lp (oC T.RI rfl rfl (PN b q hot warm (by omega) (by omega) (by omega)) .nil (fun _ _ _ => trivial) ?_)
  rintro v H' ⟨lu, rfl, rfl⟩
  refine bo ?_
  refine ca ?_
  refine bb ?_
  refine Li (Bda T.Yt T.Z4) ?_
  refine bL ?_
  refine Lo (ι := Nat) [52, 53, 11, 54, 55, 56, 57, 58, 59, 4, 5, 60, 51] (fun i => i ≤ 4 ∧ ∀ j, j < i → ∃ z : Int, [pc.b, pc.l, pc.c, pc.m][j]? = some z ∧ 0 ≤ z ∧ z ≤ 1048576) (fun i => [(51, .int .i64 (i : Int))]) (fun i => [gf lu b q hot warm, af q 139 (dy b qb (cy c).ae.length), af qb 327 ((List.replicate ((cy c).ae.length * 3) []).flatMap (dD (cy c))), Cl b (cy c), af b2 25 [.int .i64 pc.b, .int .i64 pc.l, .int .i64 pc.c, .int .i64 pc.m], af b1 23 (fy c)]) (fun i => 4 - i) (0) ⟨Nat.zero_le _, fun j h => absurd h (Nat.not_lt_zero j)⟩ ?_
  rintro i ⟨i1, i2⟩
  refine bL ?_
  refine ay ?_
  refine au rfl ?_ ?_
  ·intro hi
   replace hi := aF hi
   have Xo : i < 4 := by omega
   obtain ⟨z, hz⟩ : ∃ z, [pc.b, pc.l, pc.c, pc.m][i]? = some z := ⟨_, List.getElem?_eq_getElem (by simpa using Xo)⟩
   have MX : ([.int .i64 pc.b, .int .i64 pc.l, .int .i64 pc.c, .int .i64 pc.m] : List Value)[i]? = some (.int .i64 z) := by
    have : ([.int .i64 pc.b, .int .i64 pc.l, .int .i64 pc.c, .int .i64 pc.m] : List Value) = [pc.b, pc.l, pc.c, pc.m].map (Value.int .i64) := rfl
    rw [this, List.getElem?_map, hz]; rfl
   refine bq ?_
   refine Li (Ias Z3 T.eL (j := i) (cs := [.int .i64 pc.b, .int .i64 pc.l, .int .i64 pc.c, .int .i64 pc.m]) (v := .int .i64 z)) ?_
   refine bE ?_
   have bad : ¬ (0 ≤ z ∧ z ≤ 1048576) → ke c pc = 1 := fun h => by
    unfold ke
    rw [if_pos h1, if_pos h2, if_neg]
    intro e
    obtain ⟨p1, p2, p3, p4⟩ := of_decide_eq_true e
    rcases i with _ | _ | _ | _ | i
    ·cases hz; exact h p1
    ·cases hz; exact h p2
    ·cases hz; exact h p3
    ·cases hz; exact h p4
    omega
   by_cases z0 : z < 0
   ·refine zt 56 ?_ (e := by exact decide_eq_true z0)
    refine oo ?_
    refine gn [] Tryz.results8 ?_
    exact .inl (by rw [bad (by omega)]; exact ⟨by decide, rfl, rfl⟩)
   refine zf 56 ?_ (e := by exact decide_eq_false z0)
   refine bb ?_
   by_cases z1 : 1048576 < z
   ·refine gK ?_ (e := by exact decide_eq_true z1)
    refine bx ?_
    refine gn [] Tryz.results8 ?_
    exact .inl (by rw [bad (by omega)]; exact ⟨by decide, rfl, rfl⟩)
   refine dq ?_ (e := by exact decide_eq_false z1)
   refine bE ?_
   refine aB ?_
   refine Ro (i + 1) (⟨by omega, fun j hj => ?_⟩) ((by omega))
   by_cases QL : j = i
   ·subst QL; exact ⟨z, hz, by omega, by omega⟩
   exact i2 j (by omega)
  intro hi
  replace hi := aF hi
  obtain rfl : i = 4 := by omega
  have hp : yg pc = true := by
   obtain ⟨z0, a0, b0⟩ := i2 0 (by decide)
   obtain ⟨z1, a1, b1⟩ := i2 1 (by decide)
   obtain ⟨z2, a2, b2⟩ := i2 2 (by decide)
   obtain ⟨z3, a3, b3⟩ := i2 3 (by decide)
   cases a0; cases a1; cases a2; cases a3
   exact decide_eq_true ⟨b0, b1, b2, b3⟩
  have h0 : ke c pc = 0 := by unfold ke; rw [if_pos h1, if_pos h2, if_pos hp]
  refine bO ?_
  refine Lp (oC T.ZN rfl rfl (On b (cy c) K) .nil (fun _ le av => av.2.2.2.1) ?_)
  rintro v H' ⟨t, nk, rfl, rfl⟩
  refine bo ?_
  refine ca ?_
  refine bw ?_
  refine Lp (oC T.ZM rfl rfl (Pw c pc b q lu t (cy c) K ⟨1, 0, 0⟩ ⟨Nat.le_refl _, by decide, by decide, fun h => absurd rfl h, by decide⟩ 0) .nil (fun _ le av => av.2.2.2.2.2.1) ?_)
  rintro v H' ⟨s, ck, wh, cr, mo, ub, rfl, rfl⟩
  refine bo ?_
  refine bE ?_
  refine Hh (H' := [Cl b (cy c), af t 145 (dg b (kQ (kj (cy c))) ⟨nk, none⟩), af nk 163 (ax (ao (kQ (kj (cy c))).nb)), af q 139 (dy b qb (cy c).ae.length), af qb 327 ((List.replicate ((cy c).ae.length * 3) []).flatMap (dD (cy c))), ey cr q wh (cy c).ae.length (aO s) (aN s) (cy c) ⟨0, false, 0, 0, none, 0⟩, Wl wh [] 0, ij s ⟨b, ck, t, lu, wh, cr, mo, q⟩ (gF ⟨c, pc, 0, 0, ⟨0, 0, 0, 0, 0, 0, 0⟩, none, 0, 0⟩), iN ck ⟨1, 0, 0⟩, gf lu b q hot warm, iB mo b ub (aO s) (aN s) (bn s) (qO (cy c).ae.length), iM ub (qO (cy c).ae.length), af b2 25 [.int .i64 pc.b, .int .i64 pc.l, .int .i64 pc.c, .int .i64 pc.m], af b1 23 (fy c)]) ?_
  refine az (TC (k := ⟨1, 0, 0⟩) (pc := pc) h1 ⟨Nat.le_refl _, by decide, by decide, fun h => absurd rfl h, by decide⟩) ?_
  refine gn [SW ⟨s, ⟨b, ck, t, lu, wh, cr, mo, q⟩, qb, ub, hot, warm⟩ (dY c pc ⟨1, 0, 0⟩)] Tryz.results8 ?_
  exact .inr ⟨h0, ⟨s, ⟨b, ck, t, lu, wh, cr, mo, q⟩, qb, ub, hot, warm⟩, by dsimp only; omega, by dsimp only; omega, by dsimp only; omega, by dsimp only; omega, rfl, rfl⟩
 refine zl T.RI (LH b q c.hot c.warm h2) .nil (fun _ _ _ => trivial) ?_
 refine xU ?_
 refine gn [] Tryz.results8 ?_
 exact .inl (by unfold ke; rw [if_pos h1, if_neg h2]; exact ⟨by decide, rfl, rfl⟩)
def dB : uH := ⟨8, 3, 4, 2⟩
theorem AN (c : lA) : aL Tryz.prog 10 [.agg (fy c).toArray] (fun _ => True) []
  (fun v H => (ke c dB ≠ 0 ∧ v = .tuple #[.pointer none, .int .i64 (ke c dB)] ∧ H = []) ∨ (ke c dB = 0 ∧ ∃ z : Ly, z.hot = c.hot.toNat ∧ z.warm = c.warm.toNat ∧ z.hot ≤ 90 ∧ z.warm ≤ 90 ∧ v = .tuple #[.pointer (some ⟨z.s, 0, none⟩), .int .i64 0] ∧ H = [SW z (dY c dB ⟨1, 0, 0⟩)])) := by
 refine ag Tryz.func10 rfl Tryz.ntmps10 rfl ?_
 intro F _
 refine aD ?_
 refine Lp (oB fun b1 => ?_)
 refine bE ?_
 refine Lp (oC T.Yf rfl rfl (yJ c dB) .nil (fun _ _ _ => trivial) ?_)
 rintro v H' hr
 refine bo ?_
 rcases hr with ⟨h1, rfl, rfl⟩ | ⟨h1, z, z1, z2, z3, z4, rfl, rfl⟩
 ·refine Li Ex ?_
  refine bq ?_
  refine gn [] Tryz.results10 ?_
  exact .inl ⟨h1, rfl, rfl⟩
 refine Li Ex ?_
 refine bq ?_
 refine gn [SW z (dY c dB ⟨1, 0, 0⟩)] Tryz.results10 ?_
 exact .inr ⟨h1, z, z1, z2, z3, z4, rfl, rfl⟩
end Go.Proofs.YtpgbeapapmdkcaaGreatDoor
