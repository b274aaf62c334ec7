/- Packets: a number's bytes, laid behind others. -/
import Derived.Test.YtggmpaggmkfmoaaA3
set_option maxRecDepth 100000
namespace Go.Proofs.Ytggmpaggmkfmoaa
open Go Go.Eng

/-- so many bytes of a number, the highest first -/
def be : Nat → Nat → List UInt8
  | 0, _ => []
  | w + 1, n => UInt8.ofNat (n / 256 ^ w) :: be w n
@[simp] theorem be_length (w n : Nat) : (be w n).length = w := by
  induction w with
  | zero => rfl
  | succ w ih => simp [be, ih]
theorem be_get : ∀ (w n k : Nat) (h : k < w), (be w n)[k]? = some (UInt8.ofNat (n / 256 ^ (w - 1 - k))) := by
  intro w
  induction w with
  | zero => intro n k h; omega
  | succ w ih =>
    intro n k h
    cases k with
    | zero => simp [be]
    | succ k =>
      rw [be, List.getElem?_cons_succ, ih n k (by omega), show w + 1 - 1 - (k + 1) = w - 1 - k from by omega]
theorem be_take (w n k : Nat) (h : k < w) : (be w n).take (k + 1) = (be w n).take k ++ [UInt8.ofNat (n / 256 ^ (w - 1 - k))] := by
  rw [List.take_add_one, be_get w n k h]; rfl
theorem bcells_snoc (l : List UInt8) (c : UInt8) : bcells l ++ [.int .u8 (c.toNat : Int)] = bcells (l ++ [c]) := by simp [bcells]
theorem shift_byte (n i : Nat) (hi : i ≤ 7) : IntKind.u8.wrap ((n : Int).fdiv (2 ^ (min (8 * i) IntKind.u64.bits))) = ((UInt8.ofNat (n / 256 ^ i)).toNat : Int) := by
  have h1 : (2 : Int) ^ (min (8 * i) IntKind.u64.bits) = ((256 ^ i : Nat) : Int) := by
    rw [Nat.min_eq_left (by simp only [IntKind.bits]; omega), Int.pow_mul]; norm_cast
  rw [h1, IntKind.wrap_u8, Int.fdiv_eq_ediv_of_nonneg _ (Int.natCast_nonneg _)]
  have h2 : (n : Int) / ((256 ^ i : Nat) : Int) = ((n / 256 ^ i : Nat) : Int) := by norm_cast
  rw [h2]
  simp

set_option maxHeartbeats 400000 in
theorem lay40 (l : List UInt8) (a : Option Addr) (m c n w : Nat) (hm : m = l.length) (hn : n < 256) (hw : w ≤ 8) (hl : l.length + w ≤ 140737488355328) :
    FnS Try.prog 40 [.slice a m c, .int .u8 (n : Int), .int .i64 (w : Int)] (fun _ => True) [own a c 5 1 (bcells l)]
      (fun v H => ∃ a' c', v = .slice a' (m + w) c' ∧ H = [own a' c' 5 1 (bcells (l ++ be w n))]) := by
  subst hm
  refine fn_body Try.func40 rfl Try.ntmps40 rfl ?_
  intro F _
  refine g_sr ?_
  refine Li As ?_
  refine g_ne ?_
  refine g_seq ?_
  refine g_sr ?_
  refine Li Mv ?_
  refine Li Im ?_
  refine Li As ?_
  refine g_ne ?_
  refine g_block ?_
  refine Lo (ι := Nat × Option Addr × Nat) [10, 11, 14, 15, 16, 17, 18, 19, 20, 21, 22, 0, 12, 13, 7] (fun (i, a', c') => i ≤ w) (fun (i, a', c') => [(0, .slice a' (l.length + (w - i)) c'), (7, .int .i64 ((i : Int) - 1))]) (fun (i, a', c') => [own a' c' 5 1 (bcells (l ++ (be w n).take (w - i)))]) (fun (i, a', c') => i) ((w, a, c)) (Nat.le_refl w) ?_
  rintro ⟨i, a', c'⟩ hI
  try dsimp only at hI ⊢
  refine g_seq ?_
  refine g_sr ?_
  refine Li Mv ?_
  refine Li Cm ?_
  refine g_ne ?_
  refine g_cond rfl ?_ ?_
  · intro hk
    replace hk := nrm hk
    refine g_skip ?_
    refine e_then ?_
    refine g_seq ?_
    refine g_block ?_
    refine g_region ?_
    refine Li Mv ?_
    refine Li Mv ?_
    refine Li (Cv T.u_36 T.us_5) ?_
    refine Li Mv ?_
    refine Li Im ?_
    refine Li (y_shr (s := 8 * (i - 1)) rfl rfl rfl (by omega) rfl) ?_
    refine Li (Cv T.u_5 T.us_36) ?_
    refine Lp (oT T.ap_37 fun b1 => ?_)
    refine Lp (op_append_lit T.ap_37 T.ni_37 rfl rfl rfl rfl .here (by rw [bcells_length, List.length_append, List.length_take, be_length]; omega) (rfl) (by first | exact bcells_one | (simp [Value.oneCell', strv])) (by first | omega | (simp; omega)) (by first | omega | (simp; omega)) rfl fun a1 c1 h1 => ?_)
    refine Li As ?_
    refine g_nil ?_
    refine e_block ?_
    refine e_then ?_
    refine g_region ?_
    refine Li Mv ?_
    refine Li Im ?_
    refine Li As ?_
    refine g_nil ?_
    refine g_heap (ent_eq (H' := [own a1 c1 5 1 (bcells (l ++ (be w n).take (w - (i - 1))))]) ?_) ?_
    · rw [show w - (i - 1) = w - i + 1 from by omega, be_take w n (w - i) (by omega), ← List.append_assoc, ← bcells_snoc, show w - 1 - (w - i) = i - 1 from by omega, shift_byte n (i - 1) (by omega)]
    refine Ro ((i - 1, a1, c1)) (by omega) (by omega)
  · intro hk
    replace hk := nrm hk
    have h0 : i = 0 := by omega
    subst h0
    have e0 : (be w n).take (w - 0) = be w n := List.take_of_length_le (by simp)
    rw [e0]
    refine g_exit ?_
    refine e_then_exit ?_
    refine e_then_exit ?_
    refine e_block_hit ?_
    refine e_then ?_
    refine g_sr ?_
    refine Li Mv ?_
    refine Li As ?_
    refine g_ne ?_
    refine g_ret ?_
    refine Rt [own a' c' 5 1 (bcells (l ++ be w n))] Try.results40 ?_
    exact ⟨a', c', rfl, rfl⟩
set_option maxHeartbeats 400000 in
theorem lay41 (l : List UInt8) (a : Option Addr) (m c n w : Nat) (hm : m = l.length) (hn : n < 65536) (hw : w ≤ 8) (hl : l.length + w ≤ 140737488355328) :
    FnS Try.prog 41 [.slice a m c, .int .u16 (n : Int), .int .i64 (w : Int)] (fun _ => True) [own a c 5 1 (bcells l)]
      (fun v H => ∃ a' c', v = .slice a' (m + w) c' ∧ H = [own a' c' 5 1 (bcells (l ++ be w n))]) := by
  subst hm
  refine fn_body Try.func41 rfl Try.ntmps41 rfl ?_
  intro F _
  refine g_sr ?_
  refine Li As ?_
  refine g_ne ?_
  refine g_seq ?_
  refine g_sr ?_
  refine Li Mv ?_
  refine Li Im ?_
  refine Li As ?_
  refine g_ne ?_
  refine g_block ?_
  refine Lo (ι := Nat × Option Addr × Nat) [10, 11, 14, 15, 16, 17, 18, 19, 20, 21, 22, 0, 12, 13, 7] (fun (i, a', c') => i ≤ w) (fun (i, a', c') => [(0, .slice a' (l.length + (w - i)) c'), (7, .int .i64 ((i : Int) - 1))]) (fun (i, a', c') => [own a' c' 5 1 (bcells (l ++ (be w n).take (w - i)))]) (fun (i, a', c') => i) ((w, a, c)) (Nat.le_refl w) ?_
  rintro ⟨i, a', c'⟩ hI
  try dsimp only at hI ⊢
  refine g_seq ?_
  refine g_sr ?_
  refine Li Mv ?_
  refine Li Cm ?_
  refine g_ne ?_
  refine g_cond rfl ?_ ?_
  · intro hk
    replace hk := nrm hk
    refine g_skip ?_
    refine e_then ?_
    refine g_seq ?_
    refine g_block ?_
    refine g_region ?_
    refine Li Mv ?_
    refine Li Mv ?_
    refine Li (Cv T.u_36 T.us_83) ?_
    refine Li Mv ?_
    refine Li Im ?_
    refine Li (y_shr (s := 8 * (i - 1)) rfl rfl rfl (by omega) rfl) ?_
    refine Li (Cv T.u_5 T.us_36) ?_
    refine Lp (oT T.ap_37 fun b1 => ?_)
    refine Lp (op_append_lit T.ap_37 T.ni_37 rfl rfl rfl rfl .here (by rw [bcells_length, List.length_append, List.length_take, be_length]; omega) (rfl) (by first | exact bcells_one | (simp [Value.oneCell', strv])) (by first | omega | (simp; omega)) (by first | omega | (simp; omega)) rfl fun a1 c1 h1 => ?_)
    refine Li As ?_
    refine g_nil ?_
    refine e_block ?_
    refine e_then ?_
    refine g_region ?_
    refine Li Mv ?_
    refine Li Im ?_
    refine Li As ?_
    refine g_nil ?_
    refine g_heap (ent_eq (H' := [own a1 c1 5 1 (bcells (l ++ (be w n).take (w - (i - 1))))]) ?_) ?_
    · rw [show w - (i - 1) = w - i + 1 from by omega, be_take w n (w - i) (by omega), ← List.append_assoc, ← bcells_snoc, show w - 1 - (w - i) = i - 1 from by omega, shift_byte n (i - 1) (by omega)]
    refine Ro ((i - 1, a1, c1)) (by omega) (by omega)
  · intro hk
    replace hk := nrm hk
    have h0 : i = 0 := by omega
    subst h0
    have e0 : (be w n).take (w - 0) = be w n := List.take_of_length_le (by simp)
    rw [e0]
    refine g_exit ?_
    refine e_then_exit ?_
    refine e_then_exit ?_
    refine e_block_hit ?_
    refine e_then ?_
    refine g_sr ?_
    refine Li Mv ?_
    refine Li As ?_
    refine g_ne ?_
    refine g_ret ?_
    refine Rt [own a' c' 5 1 (bcells (l ++ be w n))] Try.results41 ?_
    exact ⟨a', c', rfl, rfl⟩
set_option maxHeartbeats 400000 in
theorem lay42 (l : List UInt8) (a : Option Addr) (m c n w : Nat) (hm : m = l.length) (hn : n < 4294967296) (hw : w ≤ 8) (hl : l.length + w ≤ 140737488355328) :
    FnS Try.prog 42 [.slice a m c, .int .u32 (n : Int), .int .i64 (w : Int)] (fun _ => True) [own a c 5 1 (bcells l)]
      (fun v H => ∃ a' c', v = .slice a' (m + w) c' ∧ H = [own a' c' 5 1 (bcells (l ++ be w n))]) := by
  subst hm
  refine fn_body Try.func42 rfl Try.ntmps42 rfl ?_
  intro F _
  refine g_sr ?_
  refine Li As ?_
  refine g_ne ?_
  refine g_seq ?_
  refine g_sr ?_
  refine Li Mv ?_
  refine Li Im ?_
  refine Li As ?_
  refine g_ne ?_
  refine g_block ?_
  refine Lo (ι := Nat × Option Addr × Nat) [10, 11, 14, 15, 16, 17, 18, 19, 20, 21, 22, 0, 12, 13, 7] (fun (i, a', c') => i ≤ w) (fun (i, a', c') => [(0, .slice a' (l.length + (w - i)) c'), (7, .int .i64 ((i : Int) - 1))]) (fun (i, a', c') => [own a' c' 5 1 (bcells (l ++ (be w n).take (w - i)))]) (fun (i, a', c') => i) ((w, a, c)) (Nat.le_refl w) ?_
  rintro ⟨i, a', c'⟩ hI
  try dsimp only at hI ⊢
  refine g_seq ?_
  refine g_sr ?_
  refine Li Mv ?_
  refine Li Cm ?_
  refine g_ne ?_
  refine g_cond rfl ?_ ?_
  · intro hk
    replace hk := nrm hk
    refine g_skip ?_
    refine e_then ?_
    refine g_seq ?_
    refine g_block ?_
    refine g_region ?_
    refine Li Mv ?_
    refine Li Mv ?_
    refine Li (Cv T.u_36 T.us_85) ?_
    refine Li Mv ?_
    refine Li Im ?_
    refine Li (y_shr (s := 8 * (i - 1)) rfl rfl rfl (by omega) rfl) ?_
    refine Li (Cv T.u_5 T.us_36) ?_
    refine Lp (oT T.ap_37 fun b1 => ?_)
    refine Lp (op_append_lit T.ap_37 T.ni_37 rfl rfl rfl rfl .here (by rw [bcells_length, List.length_append, List.length_take, be_length]; omega) (rfl) (by first | exact bcells_one | (simp [Value.oneCell', strv])) (by first | omega | (simp; omega)) (by first | omega | (simp; omega)) rfl fun a1 c1 h1 => ?_)
    refine Li As ?_
    refine g_nil ?_
    refine e_block ?_
    refine e_then ?_
    refine g_region ?_
    refine Li Mv ?_
    refine Li Im ?_
    refine Li As ?_
    refine g_nil ?_
    refine g_heap (ent_eq (H' := [own a1 c1 5 1 (bcells (l ++ (be w n).take (w - (i - 1))))]) ?_) ?_
    · rw [show w - (i - 1) = w - i + 1 from by omega, be_take w n (w - i) (by omega), ← List.append_assoc, ← bcells_snoc, show w - 1 - (w - i) = i - 1 from by omega, shift_byte n (i - 1) (by omega)]
    refine Ro ((i - 1, a1, c1)) (by omega) (by omega)
  · intro hk
    replace hk := nrm hk
    have h0 : i = 0 := by omega
    subst h0
    have e0 : (be w n).take (w - 0) = be w n := List.take_of_length_le (by simp)
    rw [e0]
    refine g_exit ?_
    refine e_then_exit ?_
    refine e_then_exit ?_
    refine e_block_hit ?_
    refine e_then ?_
    refine g_sr ?_
    refine Li Mv ?_
    refine Li As ?_
    refine g_ne ?_
    refine g_ret ?_
    refine Rt [own a' c' 5 1 (bcells (l ++ be w n))] Try.results42 ?_
    exact ⟨a', c', rfl, rfl⟩
set_option maxHeartbeats 400000 in
theorem lay43 (l : List UInt8) (a : Option Addr) (m c n w : Nat) (hm : m = l.length) (hn : n < 18446744073709551616) (hw : w ≤ 8) (hl : l.length + w ≤ 140737488355328) :
    FnS Try.prog 43 [.slice a m c, .int .u64 (n : Int), .int .i64 (w : Int)] (fun _ => True) [own a c 5 1 (bcells l)]
      (fun v H => ∃ a' c', v = .slice a' (m + w) c' ∧ H = [own a' c' 5 1 (bcells (l ++ be w n))]) := by
  subst hm
  refine fn_body Try.func43 rfl Try.ntmps43 rfl ?_
  intro F _
  refine g_sr ?_
  refine Li As ?_
  refine g_ne ?_
  refine g_seq ?_
  refine g_sr ?_
  refine Li Mv ?_
  refine Li Im ?_
  refine Li As ?_
  refine g_ne ?_
  refine g_block ?_
  refine Lo (ι := Nat × Option Addr × Nat) [10, 11, 14, 15, 16, 17, 18, 19, 20, 21, 0, 12, 13, 7] (fun (i, a', c') => i ≤ w) (fun (i, a', c') => [(0, .slice a' (l.length + (w - i)) c'), (7, .int .i64 ((i : Int) - 1))]) (fun (i, a', c') => [own a' c' 5 1 (bcells (l ++ (be w n).take (w - i)))]) (fun (i, a', c') => i) ((w, a, c)) (Nat.le_refl w) ?_
  rintro ⟨i, a', c'⟩ hI
  try dsimp only at hI ⊢
  refine g_seq ?_
  refine g_sr ?_
  refine Li Mv ?_
  refine Li Cm ?_
  refine g_ne ?_
  refine g_cond rfl ?_ ?_
  · intro hk
    replace hk := nrm hk
    refine g_skip ?_
    refine e_then ?_
    refine g_seq ?_
    refine g_block ?_
    refine g_region ?_
    refine Li Mv ?_
    refine Li Mv ?_
    refine Li Mv ?_
    refine Li Im ?_
    refine Li (y_shr (s := 8 * (i - 1)) rfl rfl rfl (by omega) rfl) ?_
    refine Li (Cv T.u_5 T.us_36) ?_
    refine Lp (oT T.ap_37 fun b1 => ?_)
    refine Lp (op_append_lit T.ap_37 T.ni_37 rfl rfl rfl rfl .here (by rw [bcells_length, List.length_append, List.length_take, be_length]; omega) (rfl) (by first | exact bcells_one | (simp [Value.oneCell', strv])) (by first | omega | (simp; omega)) (by first | omega | (simp; omega)) rfl fun a1 c1 h1 => ?_)
    refine Li As ?_
    refine g_nil ?_
    refine e_block ?_
    refine e_then ?_
    refine g_region ?_
    refine Li Mv ?_
    refine Li Im ?_
    refine Li As ?_
    refine g_nil ?_
    refine g_heap (ent_eq (H' := [own a1 c1 5 1 (bcells (l ++ (be w n).take (w - (i - 1))))]) ?_) ?_
    · rw [show w - (i - 1) = w - i + 1 from by omega, be_take w n (w - i) (by omega), ← List.append_assoc, ← bcells_snoc, show w - 1 - (w - i) = i - 1 from by omega, shift_byte n (i - 1) (by omega)]
    refine Ro ((i - 1, a1, c1)) (by omega) (by omega)
  · intro hk
    replace hk := nrm hk
    have h0 : i = 0 := by omega
    subst h0
    have e0 : (be w n).take (w - 0) = be w n := List.take_of_length_le (by simp)
    rw [e0]
    refine g_exit ?_
    refine e_then_exit ?_
    refine e_then_exit ?_
    refine e_block_hit ?_
    refine e_then ?_
    refine g_sr ?_
    refine Li Mv ?_
    refine Li As ?_
    refine g_ne ?_
    refine g_ret ?_
    refine Rt [own a' c' 5 1 (bcells (l ++ be w n))] Try.results43 ?_
    exact ⟨a', c', rfl, rfl⟩
end Go.Proofs.Ytggmpaggmkfmoaa

