/- Packets, plainly: what is written is read again, what is read is written so. -/
import Derived.Test.YtggmpaggmkfmoaaB1
set_option maxRecDepth 100000
namespace Go.Proofs.Ytggmpaggmkfmoaa
open Go Go.Eng

theorem num_foldl : ∀ (l : List UInt8) (n : Nat), l.foldl (fun n c => n * 256 + c.toNat) n = n * 256 ^ l.length + num l := by
  intro l
  induction l with
  | nil => intro n; simp [num]
  | cons c r ih =>
    intro n
    unfold num
    simp only [List.foldl_cons, List.length_cons]
    rw [ih, ih (0 * 256 + c.toNat), Nat.pow_succ, Nat.zero_mul, Nat.zero_add, Nat.add_mul, ← Nat.add_assoc]
    congr 2
    rw [Nat.mul_assoc, Nat.mul_comm 256]
theorem num_cons (c : UInt8) (r : List UInt8) : num (c :: r) = c.toNat * 256 ^ r.length + num r := by
  show (c :: r).foldl (fun n c => n * 256 + c.toNat) 0 = _
  rw [List.foldl_cons, num_foldl, Nat.zero_mul, Nat.zero_add]
theorem num_be : ∀ (w n : Nat), num (be w n) = n % 256 ^ w := by
  intro w
  induction w with
  | zero => intro n; simp [be, num, Nat.mod_one]
  | succ w ih =>
    intro n
    rw [be, num_cons, ih, be_length]
    have h1 : (UInt8.ofNat (n / 256 ^ w)).toNat = (n / 256 ^ w) % 256 := by simp
    rw [h1, Nat.pow_succ, Nat.mod_mul, Nat.mul_comm (256 ^ w), Nat.add_comm]
theorem be_num : ∀ (l : List UInt8), be l.length (num l) = l := by
  intro l
  induction l with
  | nil => rfl
  | cons c r ih =>
    rw [List.length_cons, be, num_cons]
    have h := num_lt r
    have hp : 0 < 256 ^ r.length := Nat.pow_pos (by decide)
    have h1 : (c.toNat * 256 ^ r.length + num r) / 256 ^ r.length = c.toNat := by
      rw [Nat.add_comm, Nat.add_mul_div_right _ _ hp, Nat.div_eq_of_lt h, Nat.zero_add]
    have h2 : ∀ (w n m : Nat), be w (n * 256 ^ w + m) = be w m := by
      intro w
      induction w with
      | zero => intro n m; rfl
      | succ w ihw =>
        intro n m
        simp only [be]
        have e1 : (n * 256 ^ (w + 1) + m) = (n * 256) * 256 ^ w + m := by rw [Nat.pow_succ, Nat.mul_comm (256 ^ w) 256, ← Nat.mul_assoc]
        have hw : 0 < 256 ^ w := Nat.pow_pos (by decide)
        rw [e1, ihw]
        congr 1
        rw [Nat.add_comm, Nat.add_mul_div_right _ _ hw]
        apply UInt8.toNat_inj.1
        simp
    rw [h1, h2, ih]
    simp
theorem byt_num (l : List UInt8) (i : Nat) (h : i < l.length) : byt l i = num ((l.drop i).take 1) := by
  rw [List.drop_eq_getElem_cons h, List.take_succ_cons, List.take_zero]
  simp [num, byt, h]
theorem fld_at (A B C : List UInt8) (i k : Nat) (hA : A.length = i) (hB : B.length = k) : ((A ++ (B ++ C)).drop i).take k = B := by
  subst hA hB
  simp
section
variable (p : Pkt) (t : List UInt8) (ok : okP p = true)
include ok
theorem ok_facts : (0 ≤ p.op ∧ p.op ≤ 255) ∧ (0 ≤ p.status ∧ p.status ≤ 65535) ∧ (p.reply = false → p.status = 0) ∧ p.opq ≤ 4294967295 ∧ p.ex.length ≤ 255 ∧ p.key.length ≤ 250 ∧ p.body ≤ 2147483647 ∧ p.large = false := by
  have h := ok
  simp only [okP, Bool.not_eq_true', Bool.or_eq_false_iff, decide_eq_false_iff_not, Bool.and_eq_false_iff] at h
  obtain ⟨⟨⟨⟨⟨q1, q2⟩, ⟨q3, q4⟩, q5⟩, q6⟩, ⟨q7, q8⟩, q9⟩, q10⟩ := h
  refine ⟨⟨by omega, by omega⟩, ⟨by omega, by omega⟩, fun hr => ?_, by omega, by omega, by omega, by omega, q10⟩
  rcases q5 with q5 | q5
  · simp [hr] at q5
  · simpa using q5
omit ok in
theorem enc_split : enc p ++ t = be 1 (if p.reply then 129 else 128) ++ (be 1 p.op.toNat ++ (be 2 p.key.length ++ (be 1 p.ex.length ++ (be 1 0 ++ (be 2 p.status.toNat ++ (be 4 p.body ++ (be 4 p.opq ++ (be 8 p.token ++ (p.ex ++ (p.key ++ (p.val ++ t))))))))))) := by
  simp [enc]
omit ok in
theorem enc_length : (enc p).length = 24 + p.body := by
  simp [enc, Pkt.body]; omega
theorem enc_n2_2 : n2 (enc p ++ t) 2 = p.key.length := by
  obtain ⟨_, _, _, _, _, h, _⟩ := ok_facts p ok
  unfold n2
  rw [enc_split, ← List.append_assoc, fld_at _ (be 2 p.key.length) _ 2 2 (by simp) (by simp), num_be]
  omega
theorem enc_n2_6 : n2 (enc p ++ t) 6 = p.status.toNat := by
  obtain ⟨_, h, _⟩ := ok_facts p ok
  unfold n2
  rw [enc_split]
  simp only [← List.append_assoc]
  rw [List.append_assoc _ p.val, List.append_assoc _ p.key, List.append_assoc _ p.ex, List.append_assoc _ (be 8 _), List.append_assoc _ (be 4 _), List.append_assoc _ (be 4 _), List.append_assoc _ (be 2 p.status.toNat), fld_at _ (be 2 p.status.toNat) _ 6 2 (by simp) (by simp), num_be]
  omega
theorem enc_n4_8 : n4 (enc p ++ t) 8 = p.body := by
  obtain ⟨_, _, _, _, _, _, h, _⟩ := ok_facts p ok
  unfold n4
  rw [enc_split]
  simp only [← List.append_assoc]
  rw [List.append_assoc _ p.val, List.append_assoc _ p.key, List.append_assoc _ p.ex, List.append_assoc _ (be 8 _), List.append_assoc _ (be 4 _), List.append_assoc _ (be 4 p.body), fld_at _ (be 4 p.body) _ 8 4 (by simp) (by simp), num_be]
  omega
theorem enc_n4_12 : n4 (enc p ++ t) 12 = p.opq := by
  obtain ⟨_, _, _, h, _⟩ := ok_facts p ok
  unfold n4
  rw [enc_split]
  simp only [← List.append_assoc]
  rw [List.append_assoc _ p.val, List.append_assoc _ p.key, List.append_assoc _ p.ex, List.append_assoc _ (be 8 _), List.append_assoc _ (be 4 p.opq), fld_at _ (be 4 p.opq) _ 12 4 (by simp) (by simp), num_be]
  omega
omit ok in
theorem enc_n8_16 (htok : p.token < 18446744073709551616) : num (((enc p ++ t).drop 16).take 8) = p.token := by
  rw [enc_split]
  simp only [← List.append_assoc]
  rw [List.append_assoc _ p.val, List.append_assoc _ p.key, List.append_assoc _ p.ex, List.append_assoc _ (be 8 p.token), fld_at _ (be 8 p.token) _ 16 8 (by simp) (by simp), num_be]
  omega
omit ok in
theorem enc_b0 : byt (enc p ++ t) 0 = if p.reply then 129 else 128 := by
  rw [byt_num _ _ (by rw [List.length_append, enc_length]; omega), enc_split]
  have := fld_at [] (be 1 (if p.reply then 129 else 128)) (be 1 p.op.toNat ++ (be 2 p.key.length ++ (be 1 p.ex.length ++ (be 1 0 ++ (be 2 p.status.toNat ++ (be 4 p.body ++ (be 4 p.opq ++ (be 8 p.token ++ (p.ex ++ (p.key ++ (p.val ++ t))))))))))) 0 1 rfl (by simp)
  rw [List.nil_append] at this
  rw [this, num_be]
  split <;> rfl
theorem enc_b1 : byt (enc p ++ t) 1 = p.op.toNat := by
  obtain ⟨h, _⟩ := ok_facts p ok
  rw [byt_num _ _ (by rw [List.length_append, enc_length]; omega), enc_split, fld_at _ (be 1 p.op.toNat) _ 1 1 (by simp) (by simp), num_be]
  omega
theorem enc_b4 : byt (enc p ++ t) 4 = p.ex.length := by
  obtain ⟨_, _, _, _, h, _⟩ := ok_facts p ok
  rw [byt_num _ _ (by rw [List.length_append, enc_length]; omega), enc_split]
  rw [← List.append_assoc, ← List.append_assoc, fld_at _ (be 1 p.ex.length) _ 4 1 (by simp) (by simp), num_be]
  omega
omit ok in
theorem enc_b5 : byt (enc p ++ t) 5 = 0 := by
  rw [byt_num _ _ (by rw [List.length_append, enc_length]; omega), enc_split]
  rw [← List.append_assoc, ← List.append_assoc, ← List.append_assoc, fld_at _ (be 1 0) _ 5 1 (by simp) (by simp), num_be]
theorem enc_b67 (hr : p.reply = false) : byt (enc p ++ t) 6 = 0 ∧ byt (enc p ++ t) 7 = 0 := by
  obtain ⟨_, _, hs, _⟩ := ok_facts p ok
  have h0 := hs hr
  have h6 := enc_n2_6 p t ok
  rw [h0] at h6
  have hl : 24 ≤ (enc p ++ t).length := by rw [List.length_append, enc_length]; omega
  generalize enc p ++ t = l at *
  unfold n2 at h6
  have e : (l.drop 6).take 2 = [l[6]'(by omega), l[7]'(by omega)] := by
    rw [List.drop_eq_getElem_cons (show 6 < l.length by omega), List.drop_eq_getElem_cons (show 6 + 1 < l.length by omega)]; rfl
  rw [e] at h6
  have b6 : byt l 6 = (l[6]'(by omega)).toNat := by simp [byt, show 6 < l.length by omega]
  have b7 : byt l 7 = (l[7]'(by omega)).toNat := by simp [byt, show 7 < l.length by omega]
  simp [num] at h6
  rw [b6, b7]
  have h1 : (l[6]'(by omega)).toNat = 0 := by have := h6.1; omega
  have h2 : (l[7]'(by omega)).toNat = 0 := by have := h6.2; omega
  exact ⟨h1, h2⟩
theorem enc_front : frontN (enc p ++ t) = 24 + p.ex.length + p.key.length := by unfold frontN; rw [enc_b4 p t ok, enc_n2_2 p t ok]
theorem enc_whole : wholeN (enc p ++ t) = (enc p).length := by unfold wholeN; rw [enc_n4_8 p t ok, enc_length]
theorem enc_good : badB (enc p ++ t) = false := by
  obtain ⟨h1, h2, h3, h4, h5, h6, h7, h8⟩ := ok_facts p ok
  have hl : 24 ≤ (enc p ++ t).length := by rw [List.length_append, enc_length]; omega
  have b0 := enc_b0 p t
  have hb : p.ex.length + p.key.length ≤ p.body := by unfold Pkt.body; omega
  simp only [badB, enc_n2_2 p t ok, enc_n4_8 p t ok, enc_b4 p t ok, enc_b5 p t, Bool.or_eq_false_iff, Bool.and_eq_false_iff, decide_eq_false_iff_not, Bool.not_eq_false', decide_eq_true_eq, or_true, and_true]
  cases hr : p.reply with
  | true => rw [hr] at b0; simp at b0; omega
  | false =>
    have := enc_b67 p t ok hr
    rw [hr] at b0; simp at b0
    omega
omit ok in
theorem enc_ex : ((enc p ++ t).drop 24).take p.ex.length = p.ex := by
  rw [enc_split]
  simp only [← List.append_assoc]
  rw [List.append_assoc _ p.val, List.append_assoc _ p.key, List.append_assoc _ p.ex, fld_at _ p.ex _ 24 _ (by simp) rfl]
omit ok in
theorem enc_key : ((enc p ++ t).drop (24 + p.ex.length)).take p.key.length = p.key := by
  rw [enc_split]
  simp only [← List.append_assoc]
  rw [List.append_assoc _ p.val, List.append_assoc _ p.key, fld_at _ p.key _ (24 + p.ex.length) _ (by simp; omega) rfl]
omit ok in
theorem enc_val : ((enc p ++ t).drop (24 + p.ex.length + p.key.length)).take p.val.length = p.val := by
  rw [enc_split]
  simp only [← List.append_assoc]
  rw [List.append_assoc _ p.val, fld_at _ p.val _ (24 + p.ex.length + p.key.length) _ (by simp; omega) rfl]
theorem enc_dec (htok : p.token < 18446744073709551616) (large : Bool) : decP (enc p ++ t) large = (if large then { p with val := [], large := true } else p) := by
  obtain ⟨h1, h2, h3, h4, h5, h6, h7, h8⟩ := ok_facts p ok
  have hw : wholeN (enc p ++ t) - frontN (enc p ++ t) = p.val.length := by rw [enc_whole p t ok, enc_front p t ok, enc_length]; unfold Pkt.body; omega
  unfold decP
  rw [enc_b0, enc_b1 p t ok, enc_n2_6 p t ok, enc_n4_12 p t ok, enc_b4 p t ok, enc_n2_2 p t ok, hw, enc_front p t ok, enc_ex p t, enc_key p t, enc_val p t]
  have e8 : n8 (enc p ++ t) 16 = p.token := enc_n8_16 p t htok
  rw [e8]
  obtain ⟨reply, op, status, opq, token, ex, key, val, lg⟩ := p
  dsimp only at h1 h2 h8 ⊢
  subst h8
  have e1 : ((op.toNat : Nat) : Int) = op := by omega
  have e2 : ((status.toNat : Nat) : Int) = status := by omega
  rw [e1, e2]
  cases reply <;> cases large <;> simp
/-- what is written is read again -/
theorem read_enc (htok : p.token < 18446744073709551616) (limit : Int) (hl : (p.val.length : Int) ≤ max limit 0) : readP (enc p ++ t) limit = (p, (enc p).length, 0) := by
  have hw : wholeN (enc p ++ t) - frontN (enc p ++ t) = p.val.length := by rw [enc_whole p t ok, enc_front p t ok, enc_length]; unfold Pkt.body; omega
  have hb : p.ex.length + p.key.length ≤ p.body := by unfold Pkt.body; omega
  have hf := enc_front p t ok
  have hwh := enc_whole p t ok
  have hl' := enc_length p
  unfold readP
  rw [enc_good p t ok, if_neg (by simp), if_neg (by rw [List.length_append, hwh]; omega), show decide (max limit 0 < (wholeN (enc p ++ t) : Int) - (frontN (enc p ++ t) : Int)) = false from by simp; omega, enc_dec p t ok htok, hwh]
  rfl
theorem read_enc_large (htok : p.token < 18446744073709551616) (limit : Int) (hl : max limit 0 < (p.val.length : Int)) : readP (enc p ++ t) limit = ({ p with val := [], large := true }, (enc p).length, 0) := by
  have hw : wholeN (enc p ++ t) - frontN (enc p ++ t) = p.val.length := by rw [enc_whole p t ok, enc_front p t ok, enc_length]; unfold Pkt.body; omega
  have hb : p.ex.length + p.key.length ≤ p.body := by unfold Pkt.body; omega
  have hf := enc_front p t ok
  have hwh := enc_whole p t ok
  have hl' := enc_length p
  unfold readP
  rw [enc_good p t ok, if_neg (by simp), if_neg (by rw [List.length_append, hwh]; omega), show decide (max limit 0 < (wholeN (enc p ++ t) : Int) - (frontN (enc p ++ t) : Int)) = true from by simp; omega, enc_dec p t ok htok, hwh]
  rfl
theorem read_enc_take (k : Nat) (hk : k < (enc p).length) (limit : Int) : readP ((enc p).take k) limit = (zeroP, 0, 0) := by
  have hg := enc_good p [] ok
  have hw := enc_whole p [] ok
  rw [List.append_nil] at hg hw
  have hgt : badB ((enc p).take k) = false := by
    cases hb : badB ((enc p).take k) with
    | false => rfl
    | true => rw [badB_mono _ _ hb] at hg; cases hg
  unfold readP
  rw [hgt, if_neg (by simp), if_pos]
  by_cases h24 : k < 24
  · left; simp; omega
  · right; rw [wholeN_take _ _ (by omega), hw]; simp; omega
end

/-- a beginning's beginning is one -/
theorem short_take {l : List UInt8} (k : Nat) (hb : badB l = false) (hs : Short l) : readP (l.take k) 12000 = (zeroP, 0, 0) := by
  have hgt : badB (l.take k) = false := by
    cases hb' : badB (l.take k) with
    | false => rfl
    | true => rw [badB_mono _ _ hb'] at hb; cases hb
  unfold readP
  rw [hgt, if_neg (by simp), if_pos]
  by_cases h24 : (l.take k).length < 24
  · left; exact h24
  · right
    simp at h24
    rw [wholeN_take _ _ (by omega)]
    unfold Short at hs
    simp; omega
/-- what is read is written so -/
theorem enc_decP (l : List UInt8) (hb : badB l = false) (hs : ¬ Short l) : okP (decP l false) = true ∧ enc (decP l false) = l.take (wholeN l) ∧ (decP l false).token < 18446744073709551616 ∧ (decP l false).body ≤ 2147483647 := by
  have hs' := hs
  unfold Short at hs'
  have hge := wholeN_ge l
  obtain ⟨r1, r2, r3⟩ := badB_room hb (by omega)
  have hfr : frontN l = 24 + byt l 4 + n2 l 2 := rfl
  have hwh : wholeN l = 24 + n4 l 8 := rfl
  have p4 := byt_lt l 4
  have p1 := byt_lt l 1
  have q6 := n2_lt l 6
  have q12 := n4_lt l 12
  have hex : (decP l false).ex.length = byt l 4 := by simp [decP]; omega
  have hkey : (decP l false).key.length = n2 l 2 := by simp [decP]; omega
  have hval : (decP l false).val.length = wholeN l - frontN l := by simp [decP]; omega
  have hbody : (decP l false).body = n4 l 8 := by unfold Pkt.body; rw [hex, hkey, hval]; omega
  have h0 : byt l 0 = 128 ∨ byt l 0 = 129 := by
    simp only [badB, Bool.or_eq_false_iff, Bool.and_eq_false_iff, decide_eq_false_iff_not, Bool.not_eq_false', decide_eq_true_eq] at hb
    omega
  have h5 : byt l 5 = 0 := by
    simp only [badB, Bool.or_eq_false_iff, Bool.and_eq_false_iff, decide_eq_false_iff_not, Bool.not_eq_false', decide_eq_true_eq] at hb
    omega
  have h67 : byt l 0 = 128 → byt l 6 = 0 ∧ byt l 7 = 0 := fun h => by
    simp only [badB, Bool.or_eq_false_iff, Bool.and_eq_false_iff, decide_eq_false_iff_not, Bool.not_eq_false', decide_eq_true_eq] at hb
    omega
  have e2 : (l.drop 6).take 2 = [l[6]'(by omega), l[7]'(by omega)] := by
    rw [List.drop_eq_getElem_cons (show 6 < l.length by omega), List.drop_eq_getElem_cons (show 6 + 1 < l.length by omega)]; rfl
  have hst : byt l 0 = 128 → n2 l 6 = 0 := fun h => by
    obtain ⟨a, b⟩ := h67 h
    have b6 : byt l 6 = (l[6]'(by omega)).toNat := by simp [byt, show 6 < l.length by omega]
    have b7 : byt l 7 = (l[7]'(by omega)).toNat := by simp [byt, show 7 < l.length by omega]
    unfold n2
    rw [e2]
    simp only [num, List.foldl_cons, List.foldl_nil]
    omega
  refine ⟨?_, ?_, n8_lt l 16, by rw [hbody]; exact r2⟩
  · have hrep : (decP l false).reply = decide (byt l 0 = 129) := rfl
    have hop : (decP l false).op = (byt l 1 : Int) := rfl
    have hstt : (decP l false).status = (n2 l 6 : Int) := rfl
    have hopq : (decP l false).opq = n4 l 12 := rfl
    have hlg : (decP l false).large = false := rfl
    simp only [okP, hrep, hop, hstt, hopq, hlg, hex, hkey, hbody, Bool.or_false, Bool.not_eq_true', Bool.or_eq_false_iff, Bool.and_eq_false_iff, decide_eq_false_iff_not, Bool.not_eq_false', decide_eq_true_eq]
    refine ⟨⟨⟨⟨by omega, by omega⟩, ⟨by omega, by omega⟩, ?_⟩, by omega⟩, ⟨by omega, by omega⟩, by omega⟩
    rcases h0 with h | h
    · right; have := hst h; omega
    · left; exact h
  · have cut : ∀ i k, i + k ≤ l.length → be k (num ((l.drop i).take k)) = (l.drop i).take k := fun i k h => by
      have := be_num ((l.drop i).take k)
      rwa [show ((l.drop i).take k).length = k from by simp; omega] at this
    have hm : be 1 (if (decP l false).reply then 129 else 128) = (l.drop 0).take 1 := by
      rw [← cut 0 1 (by omega), ← byt_num l 0 (by omega)]
      have : (decP l false).reply = decide (byt l 0 = 129) := rfl
      rw [this]
      rcases h0 with h | h <;> rw [h] <;> rfl
    have hop : be 1 (decP l false).op.toNat = (l.drop 1).take 1 := by
      rw [← cut 1 1 (by omega), ← byt_num l 1 (by omega)]; rfl
    have hk : be 2 (decP l false).key.length = (l.drop 2).take 2 := by rw [hkey]; exact cut 2 2 (by omega)
    have he : be 1 (decP l false).ex.length = (l.drop 4).take 1 := by rw [hex, byt_num l 4 (by omega)]; exact cut 4 1 (by omega)
    have hz : be 1 0 = (l.drop 5).take 1 := by rw [← cut 5 1 (by omega), ← byt_num l 5 (by omega), h5]
    have hs6 : be 2 (decP l false).status.toNat = (l.drop 6).take 2 := cut 6 2 (by omega)
    have hb8 : be 4 (decP l false).body = (l.drop 8).take 4 := by rw [hbody]; exact cut 8 4 (by omega)
    have ho : be 4 (decP l false).opq = (l.drop 12).take 4 := cut 12 4 (by omega)
    have ht : be 8 (decP l false).token = (l.drop 16).take 8 := cut 16 8 (by omega)
    have hv : (decP l false).val = (l.drop (frontN l)).take (wholeN l - frontN l) := rfl
    have hx : (decP l false).ex = (l.drop 24).take (byt l 4) := rfl
    have hy : (decP l false).key = (l.drop (24 + byt l 4)).take (n2 l 2) := rfl
    unfold enc
    rw [hm, hop, hk, he, hz, hs6, hb8, ho, ht, hx, hy, hv]
    simp only [← List.take_add, List.drop_zero]
    rw [show 1 + 1 + 2 + 1 + 1 + 2 + 4 + 4 + 8 = 24 from rfl, ← hfr, ← List.take_add, show frontN l + (wholeN l - frontN l) = wholeN l from by omega]
end Go.Proofs.Ytggmpaggmkfmoaa
