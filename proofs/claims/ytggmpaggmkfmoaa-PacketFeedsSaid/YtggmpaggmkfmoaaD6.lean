/- Packets, the reference: a number's bytes; a packet's bytes. -/
import Derived.Test.YtggmpaggmkfmoaaA5
import Derived.Test.YtggmpaggmkfmoaaEngX
set_option maxRecDepth 100000
namespace Go.Proofs.Ytggmpaggmkfmoaa
open Go Go.Eng

theorem wrap_byte (n : Nat) : IntKind.u8.wrap (n : Int) = ((UInt8.ofNat n).toNat : Int) := by rw [IntKind.wrap_u8]; simp
theorem lay_step (w n j : Nat) (h1 : 0 < j) (h2 : j ≤ w) : (bcells (List.replicate j 0 ++ (be w n).drop j)).set (j - 1) (.int .u8 ((UInt8.ofNat (n / 256 ^ (w - j))).toNat : Int)) = bcells (List.replicate (j - 1) 0 ++ (be w n).drop (j - 1)) := by
  have hg := be_get w n (j - 1) (by omega)
  rw [show w - 1 - (j - 1) = w - j from by omega] at hg
  obtain ⟨hi, hv⟩ := List.getElem?_eq_some_iff.1 hg
  have e1 : (be w n).drop (j - 1) = UInt8.ofNat (n / 256 ^ (w - j)) :: (be w n).drop j := by
    rw [List.drop_eq_getElem_cons hi, hv, show j - 1 + 1 = j from by omega]
  have e2 : List.replicate j (0 : UInt8) = List.replicate (j - 1) 0 ++ [0] := by rw [← List.replicate_succ', show j - 1 + 1 = j from by omega]
  rw [e1, e2]
  unfold bcells
  rw [List.map_append, List.map_append, List.map_append, List.append_assoc, List.set_append_right _ _ (by simp)]
  simp
set_option maxHeartbeats 1000000 in
theorem rlay_fn (n w : Nat) (hn : n < 18446744073709551616) (hw1 : 1 ≤ w) (hw : w ≤ 8) : FnS Try.prog 44 [.int .u64 (n : Int), .int .i64 (w : Int)] (fun _ => True) [] (fun v H => ∃ a, v = .slice a w w ∧ H = [own a w 5 1 (bcells (be w n))]) := by
  refine fn_body Try.func44 rfl Try.ntmps44 rfl ?_
  intro F hF
  refine g_sr ?_
  refine Li As ?_
  refine g_ne ?_
  refine g_sr ?_
  refine Li Mv ?_
  refine Lp (oM (w) (w) T.ap_37 fun b1 => ?_)
  refine g_heap (fun _ s => starL_cons_mono (fun _ p => own_of_pts p w 1 (by rw [zrep_length]) (by simp only [maxLen]; omega)) s) ?_
  generalize hw2 : (some (⟨b1, 0, none⟩ : Addr)) = aw
  have a0 : aw.isSome = true := by rw [← hw2]; rfl
  have e0 : zrep [Value.int .u8 0] (w * 1) = bcells (List.replicate w 0 ++ (be w n).drop w) := by
    rw [zrep_one, List.drop_of_length_le (by simp), List.append_nil, Nat.mul_one]; simp [bcells]
  rw [e0]
  refine Li As ?_
  refine g_ne ?_
  refine g_seq ?_
  refine g_sr ?_
  refine Li Mv ?_
  refine Li Im ?_
  refine Li As ?_
  refine g_ne ?_
  refine g_block ?_
  refine g_slot (t := 0) (v' := .int .u64 ((n / 256 ^ (w - w) : Nat) : Int)) rfl (by rw [Nat.sub_self, Nat.pow_zero, Nat.div_one]) ?_
  refine Lo (ι := Nat) [11, 12, 15, 16, 17, 18, 19, 20, 21, 0, 13, 14, 6] (fun j => j ≤ w) (fun j => [(6, .int .i64 ((j : Int) - 1)), (0, .int .u64 ((n / 256 ^ (w - j) : Nat) : Int))]) (fun j => [own aw w 5 1 (bcells (List.replicate j 0 ++ (be w n).drop j))]) (fun j => j) (w) (Nat.le_refl w) ?_
  rintro j hj
  have hll : (bcells (List.replicate j (0 : UInt8) ++ (be w n).drop j)).length = w := by simp; omega
  have hlt : n / 256 ^ (w - j) ≤ n := Nat.div_le_self _ _
  refine g_seq ?_
  refine g_sr ?_
  refine Li Mv ?_
  refine Li Cm ?_
  refine g_ne ?_
  refine g_cond rfl ?_ ?_
  · intro hk
    replace hk := nrm hk
    have e1 := lay_step w n j (by omega) hj
    have e2 : n / 256 ^ (w - j) / 256 = n / 256 ^ (w - (j - 1)) := by rw [Nat.div_div_eq_div_mul, ← Nat.pow_succ, show (w - j).succ = w - (j - 1) from by omega]
    generalize n / 256 ^ (w - j) = x at *
    have e3 : ((x : Nat) : Int).tdiv 256 = ((x / 256 : Nat) : Int) := rfl
    have e4 : IntKind.u64.wrap (((x : Nat) : Int).tdiv 256) = ((x / 256 : Nat) : Int) := by rw [e3]; exact wrap_u64 (by omega)
    refine g_skip ?_
    refine e_then ?_
    refine g_seq ?_
    refine g_block ?_
    refine g_sr ?_
    refine Li Mv ?_
    refine Li Mv ?_
    refine Li Mv ?_
    refine Li (Cv T.u_5 T.us_36 (hz := wrap_byte _)) ?_
    refine Li (Ix T.sl_37 (j := j - 1) (hj := by omega)) ?_
    refine Lp (oSO T.sc_5 ?_)
    refine g_ne ?_
    refine g_region ?_
    refine Li Mv ?_
    refine Li (Im (z := ((x / 256 : Nat) : Int)) (hz := by exact congrArg some e4)) ?_
    rw [e1]
    refine Li As ?_
    refine g_nil ?_
    refine e_block ?_
    refine e_then ?_
    refine g_region ?_
    refine Li Mv ?_
    refine Li Im ?_
    refine Li As ?_
    refine g_nil ?_
    refine Ro (j - 1) ((by omega)) ((by omega)) (hs := ⟨(by first | (refine congrArg (fun q => some (Value.int _ q)) ?_; omega) | (rw [← e2]; rfl)), (by first | (refine congrArg (fun q => some (Value.int _ q)) ?_; omega) | (rw [← e2]; rfl)), trivial⟩)
  · intro hk
    replace hk := nrm hk
    have h0 : j = 0 := by omega
    subst h0
    refine g_exit ?_
    refine e_then_exit ?_
    refine e_then_exit ?_
    refine e_block_hit ?_
    refine e_then ?_
    refine g_sr ?_
    refine Li Mv ?_
    refine Li As ?_
    refine g_ne ?_
    refine g_ret ?_
    refine Rt [own aw w 5 1 (bcells (be w n))] Try.results44 ?_
    exact ⟨aw, rfl, rfl⟩
end Go.Proofs.Ytggmpaggmkfmoaa

