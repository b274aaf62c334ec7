/- Packets: the small functions that read numbers out of bytes. -/
import Derived.Test.YtggmpaggmkfmoaaTypes
import Derived.Test.YtggmpaggmkfmoaaRows
set_option maxRecDepth 100000
namespace Go.Proofs.Ytggmpaggmkfmoaa
open Go Go.Eng

def num (l : List UInt8) : Nat := l.foldl (fun n c => n * 256 + c.toNat) 0
theorem num_snoc (l : List UInt8) (c : UInt8) : num (l ++ [c]) = num l * 256 + c.toNat := by simp [num]
theorem take_snoc {l : List UInt8} {k : Nat} (h : k < l.length) : l.take (k + 1) = l.take k ++ [l[k]] := by
  rw [List.take_succ_eq_append_getElem h]
theorem num_take {l : List UInt8} {k : Nat} (h : k < l.length) : num (l.take (k + 1)) = num (l.take k) * 256 + byt l k := by
  rw [take_snoc h, num_snoc]; simp [byt, h]
theorem num_lt : ∀ (l : List UInt8), num l < 256 ^ l.length := by
  have key : ∀ (l : List UInt8) (n m : Nat), n < 256 ^ m → l.foldl (fun n c => n * 256 + c.toNat) n < 256 ^ (m + l.length) := by
    intro l
    induction l with
    | nil => intro n m h; simpa using h
    | cons c r ih =>
      intro n m h
      have hc := c.toNat_lt
      have := ih (n * 256 + c.toNat) (m + 1) (by rw [Nat.pow_succ]; omega)
      simpa [Nat.add_comm, Nat.add_left_comm, Nat.add_assoc] using this
  intro l
  have h := key l 0 0 (by simp)
  rw [Nat.zero_add] at h
  exact h

theorem told_bits (n c : Nat) (hc : c < 256) : IntKind.u64.wrap ((BitVec.ofInt IntKind.u64.bits (IntKind.u64.wrap ((n : Int) * 2 ^ (min 8 IntKind.u64.bits))) ||| BitVec.ofInt IntKind.u64.bits ((c : Nat) : Int)).toNat : Int) = (((n * 256 + c) % 18446744073709551616 : Nat) : Int) := by
  have h1 : IntKind.u64.wrap ((n : Int) * 2 ^ (min 8 IntKind.u64.bits)) = (((n * 256) % 18446744073709551616 : Nat) : Int) := by
    rw [IntKind.wrap_u64]; simp [IntKind.bits]
  have hm : (n * 256) % 18446744073709551616 = 2 ^ 8 * (n % 72057594037927936) := by omega
  rw [h1]
  have h3 := or_u64 (a := (n * 256) % 18446744073709551616) (b := c) (Nat.mod_lt _ (by decide)) (by omega)
  have h4 : (n * 256) % 18446744073709551616 ||| c = 2 ^ 8 * (n % 72057594037927936) + c := by
    rw [hm, Nat.two_pow_add_eq_or_of_lt (by simpa using hc)]
  have h5 := Option.some.inj h3
  rw [h4] at h5
  have h6 : (n * 256 + c) % 18446744073709551616 = 2 ^ 8 * (n % 72057594037927936) + c := by omega
  rw [h6]; exact h5
theorem told16_step (n c : Nat) (hc : c < 256) (z : Int) (hz : z = (((n * 256 + c) % 18446744073709551616 : Nat) : Int)) : IntKind.u16.wrap z = (((n * 256 + c) % 65536 : Nat) : Int) := by
  subst hz; rw [IntKind.wrap_u16]; omega
theorem told32_step (n c : Nat) (hc : c < 256) (z : Int) (hz : z = (((n * 256 + c) % 18446744073709551616 : Nat) : Int)) : IntKind.u32.wrap z = (((n * 256 + c) % 4294967296 : Nat) : Int) := by
  subst hz; rw [IntKind.wrap_u32]; omega

theorem told16 (l : List UInt8) (a : Option Addr) (m c : Nat) (hm : m = l.length) (hl : l.length < 4611686018427387904) :
    FnS Try.prog 79 [.slice a m c] (fun h => Rdl h a (bcells l)) [] (fun v H => v = .int .u16 ((num l % 65536 : Nat) : Int) ∧ H = []) := by
  subst hm
  refine fn_body Try.func79 rfl Try.ntmps79 rfl ?_
  intro F hF
  refine g_sr ?_
  refine Li As ?_
  refine g_ne ?_
  refine g_seq ?_
  refine g_sr ?_
  refine Li Mv ?_
  refine Li (Ln T.sl_37) ?_
  refine Li Mv ?_
  refine g_ne ?_
  refine g_block ?_
  refine Lo (ι := Nat) [8, 9, 10, 4, 11, 12, 13, 14, 15, 16, 17, 2, 18, 7] (fun k => k ≤ l.length) (fun k => [(2, .int .u16 ((num (l.take k) % 65536 : Nat) : Int)), (7, .int .i64 (k : Int))]) (fun k => []) (fun k => l.length - k) (0) (by simp) ?_
  rintro k hI
  refine g_sr ?_
  refine Li Cm ?_
  refine g_ne ?_
  refine g_seq ?_
  refine g_cond rfl ?_ ?_
  · intro hk
    replace hk := nrm hk
    have hlt : k < l.length := by omega
    have hb := byt_lt l k
    refine g_skip ?_
    refine e_then ?_
    refine g_seq ?_
    refine g_block ?_
    refine g_sr ?_
    refine Li (Ix T.sl_37) ?_
    refine Lp (oL T.sc_5 ?_)
    refine Li As ?_
    refine g_ne ?_
    refine g_region ?_
    refine Li Mv ?_
    refine Li (Cv T.u_36 T.us_83) ?_
    refine Li (Sh 8) ?_
    refine Li Mv ?_
    refine Li (Cv T.u_36 T.us_5) ?_
    refine Li Im ?_
    refine Li (Cv T.u_83 T.us_36) ?_
    refine Li As ?_
    refine g_nil ?_
    refine e_block ?_
    refine e_then ?_
    refine g_region ?_
    refine Li Im ?_
    refine Li Mv ?_
    refine g_nil ?_
    refine g_slot (t := 2) (v' := .int .u16 ((num (l.take (k + 1)) % 65536 : Nat) : Int)) rfl (by refine congrArg (Value.int .u16) ((told16_step _ _ hb _ (told_bits _ _ hb)).trans ?_); rw [num_take hlt]; omega) ?_
    refine Ro (k + 1) (by omega) (by omega)
  · intro hk
    replace hk := nrm hk
    refine g_exit ?_
    refine e_then_exit ?_
    refine e_then_exit ?_
    refine e_block_hit ?_
    refine e_then ?_
    refine g_sr ?_
    refine Li Mv ?_
    refine Li As ?_
    refine g_ne ?_
    refine g_ret ?_
    refine Rt [] Try.results79 ?_
    have : k = l.length := by omega
    subst this
    rw [List.take_length]
    exact ⟨rfl, rfl⟩
theorem told32 (l : List UInt8) (a : Option Addr) (m c : Nat) (hm : m = l.length) (hl : l.length < 4611686018427387904) :
    FnS Try.prog 80 [.slice a m c] (fun h => Rdl h a (bcells l)) [] (fun v H => v = .int .u32 ((num l % 4294967296 : Nat) : Int) ∧ H = []) := by
  subst hm
  refine fn_body Try.func80 rfl Try.ntmps80 rfl ?_
  intro F hF
  refine g_sr ?_
  refine Li As ?_
  refine g_ne ?_
  refine g_seq ?_
  refine g_sr ?_
  refine Li Mv ?_
  refine Li (Ln T.sl_37) ?_
  refine Li Mv ?_
  refine g_ne ?_
  refine g_block ?_
  refine Lo (ι := Nat) [8, 9, 10, 4, 11, 12, 13, 14, 15, 16, 17, 2, 18, 7] (fun k => k ≤ l.length) (fun k => [(2, .int .u32 ((num (l.take k) % 4294967296 : Nat) : Int)), (7, .int .i64 (k : Int))]) (fun k => []) (fun k => l.length - k) (0) (by simp) ?_
  rintro k hI
  refine g_sr ?_
  refine Li Cm ?_
  refine g_ne ?_
  refine g_seq ?_
  refine g_cond rfl ?_ ?_
  · intro hk
    replace hk := nrm hk
    have hlt : k < l.length := by omega
    have hb := byt_lt l k
    refine g_skip ?_
    refine e_then ?_
    refine g_seq ?_
    refine g_block ?_
    refine g_sr ?_
    refine Li (Ix T.sl_37) ?_
    refine Lp (oL T.sc_5 ?_)
    refine Li As ?_
    refine g_ne ?_
    refine g_region ?_
    refine Li Mv ?_
    refine Li (Cv T.u_36 T.us_85) ?_
    refine Li (Sh 8) ?_
    refine Li Mv ?_
    refine Li (Cv T.u_36 T.us_5) ?_
    refine Li Im ?_
    refine Li (Cv T.u_85 T.us_36) ?_
    refine Li As ?_
    refine g_nil ?_
    refine e_block ?_
    refine e_then ?_
    refine g_region ?_
    refine Li Im ?_
    refine Li Mv ?_
    refine g_nil ?_
    refine g_slot (t := 2) (v' := .int .u32 ((num (l.take (k + 1)) % 4294967296 : Nat) : Int)) rfl (by refine congrArg (Value.int .u32) ((told32_step _ _ hb _ (told_bits _ _ hb)).trans ?_); rw [num_take hlt]; omega) ?_
    refine Ro (k + 1) (by omega) (by omega)
  · intro hk
    replace hk := nrm hk
    refine g_exit ?_
    refine e_then_exit ?_
    refine e_then_exit ?_
    refine e_block_hit ?_
    refine e_then ?_
    refine g_sr ?_
    refine Li Mv ?_
    refine Li As ?_
    refine g_ne ?_
    refine g_ret ?_
    refine Rt [] Try.results80 ?_
    have : k = l.length := by omega
    subst this
    rw [List.take_length]
    exact ⟨rfl, rfl⟩
theorem told64 (l : List UInt8) (a : Option Addr) (m c : Nat) (hm : m = l.length) (hl : l.length < 4611686018427387904) :
    FnS Try.prog 81 [.slice a m c] (fun h => Rdl h a (bcells l)) [] (fun v H => v = .int .u64 ((num l % 18446744073709551616 : Nat) : Int) ∧ H = []) := by
  subst hm
  refine fn_body Try.func81 rfl Try.ntmps81 rfl ?_
  intro F hF
  refine g_sr ?_
  refine Li As ?_
  refine g_ne ?_
  refine g_seq ?_
  refine g_sr ?_
  refine Li Mv ?_
  refine Li (Ln T.sl_37) ?_
  refine Li Mv ?_
  refine g_ne ?_
  refine g_block ?_
  refine Lo (ι := Nat) [8, 9, 10, 4, 11, 12, 13, 14, 15, 2, 16, 7] (fun k => k ≤ l.length) (fun k => [(2, .int .u64 ((num (l.take k) % 18446744073709551616 : Nat) : Int)), (7, .int .i64 (k : Int))]) (fun k => []) (fun k => l.length - k) (0) (by simp) ?_
  rintro k hI
  refine g_sr ?_
  refine Li Cm ?_
  refine g_ne ?_
  refine g_seq ?_
  refine g_cond rfl ?_ ?_
  · intro hk
    replace hk := nrm hk
    have hlt : k < l.length := by omega
    have hb := byt_lt l k
    refine g_skip ?_
    refine e_then ?_
    refine g_seq ?_
    refine g_block ?_
    refine g_sr ?_
    refine Li (Ix T.sl_37) ?_
    refine Lp (oL T.sc_5 ?_)
    refine Li As ?_
    refine g_ne ?_
    refine g_region ?_
    refine Li Mv ?_
    refine Li (Sh 8) ?_
    refine Li Mv ?_
    refine Li (Cv T.u_36 T.us_5) ?_
    refine Li Im ?_
    refine Li As ?_
    refine g_nil ?_
    refine e_block ?_
    refine e_then ?_
    refine g_region ?_
    refine Li Im ?_
    refine Li Mv ?_
    refine g_nil ?_
    refine g_slot (t := 2) (v' := .int .u64 ((num (l.take (k + 1)) % 18446744073709551616 : Nat) : Int)) rfl (by refine congrArg (Value.int .u64) ((told_bits _ _ hb).trans ?_); rw [num_take hlt]; omega) ?_
    refine Ro (k + 1) (by omega) (by omega)
  · intro hk
    replace hk := nrm hk
    refine g_exit ?_
    refine e_then_exit ?_
    refine e_then_exit ?_
    refine e_block_hit ?_
    refine e_then ?_
    refine g_sr ?_
    refine Li Mv ?_
    refine Li As ?_
    refine g_ne ?_
    refine g_ret ?_
    refine Rt [] Try.results81 ?_
    have : k = l.length := by omega
    subst this
    rw [List.take_length]
    exact ⟨rfl, rfl⟩
end Go.Proofs.Ytggmpaggmkfmoaa

