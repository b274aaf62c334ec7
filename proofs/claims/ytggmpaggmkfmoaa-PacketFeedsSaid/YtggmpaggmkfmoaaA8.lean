/- Packets: a Feeder; what it wants. -/
import Derived.Test.YtggmpaggmkfmoaaA7
set_option maxRecDepth 100000
namespace Go.Proofs.Ytggmpaggmkfmoaa
open Go Go.Eng

def fdCells (limit : Nat) (ak : Option Addr) (nk ck : Nat) (passed : Nat) (broken : Bool) (taken : Nat) : List Value :=
  [.int .i64 (limit : Int), .slice ak nk ck, .int .i64 (passed : Int), .bool broken, .int .i64 (taken : Int)]
/-- how many bytes the beginning wants, how many it passes over -/
def wantsM (limit : Nat) (kept : List UInt8) : Nat × Nat :=
  if kept.length < 24 then (24, 0)
  else if (limit : Int) < (wholeN kept : Int) - frontN kept then (frontN kept, wholeN kept - frontN kept) else (wholeN kept, 0)

theorem new_fn (limit : Int) (h1 : -9223372036854775808 ≤ limit) (h2 : limit ≤ 9223372036854775807) :
    FnS Try.prog 27 [.int .i64 limit] (fun _ => True) [] (fun v H => ∃ b, v = .pointer (some ⟨b, 0, none⟩) ∧ H = [pts b 95 (fdCells limit.toNat none 0 0 0 false 0)]) := by
  refine fn_body Try.func27 rfl Try.ntmps27 rfl ?_
  intro F hF
  refine g_sr ?_
  refine Li As ?_
  refine g_ne ?_
  refine g_sr ?_
  refine Li Mv ?_
  refine Li Ma ?_
  refine Li (Bd T.zc_95 T.st_95) ?_
  refine Lp (oB fun b1 => ?_)
  refine Li As ?_
  refine g_ne ?_
  refine g_ret ?_
  rw [show max limit 0 = (limit.toNat : Int) from by omega]
  refine Rt [pts b1 95 (fdCells limit.toNat none 0 0 0 false 0)] Try.results27 ?_
  exact ⟨b1, rfl, rfl⟩
theorem held_fn (b limit nk ck passed taken : Nat) (broken : Bool) (ak : Option Addr) :
    FnS Try.prog 37 [.pointer (some ⟨b, 0, none⟩)] (fun h => ∃ k, pts b 95 (fdCells limit ak nk ck passed broken taken) k ∧ Le k h) [] (fun v H => v = .int .i64 (nk : Int) ∧ H = []) := by
  refine fn_body Try.func37 rfl Try.ntmps37 rfl ?_
  intro F hF
  refine g_sr ?_
  refine Li As ?_
  refine g_ne ?_
  refine g_sr ?_
  refine Li Mv ?_
  refine Li Nc ?_
  refine Li (Fa T.fld_95_1) ?_
  refine Lp (oL T.sc_37 ?_)
  refine Li (Ln T.sl_37) ?_
  refine Li As ?_
  refine g_ne ?_
  refine g_ret ?_
  refine Rt [] Try.results37 ?_
  exact ⟨rfl, rfl⟩
theorem broken_fn (b limit nk ck passed taken : Nat) (broken : Bool) (ak : Option Addr) :
    FnS Try.prog 38 [.pointer (some ⟨b, 0, none⟩)] (fun h => ∃ k, pts b 95 (fdCells limit ak nk ck passed broken taken) k ∧ Le k h) [] (fun v H => v = .bool broken ∧ H = []) := by
  refine fn_body Try.func38 rfl Try.ntmps38 rfl ?_
  intro F hF
  refine g_sr ?_
  refine Li As ?_
  refine g_ne ?_
  refine g_sr ?_
  refine Li Mv ?_
  refine Li Nc ?_
  refine Li (Fa T.fld_95_3) ?_
  refine Lp (oL T.sc_4 ?_)
  refine Li As ?_
  refine g_ne ?_
  refine g_ret ?_
  refine Rt [] Try.results38 ?_
  exact ⟨rfl, rfl⟩
theorem taken_fn (b limit nk ck passed taken : Nat) (broken : Bool) (ak : Option Addr) :
    FnS Try.prog 39 [.pointer (some ⟨b, 0, none⟩)] (fun h => ∃ k, pts b 95 (fdCells limit ak nk ck passed broken taken) k ∧ Le k h) [] (fun v H => v = .int .i64 (taken : Int) ∧ H = []) := by
  refine fn_body Try.func39 rfl Try.ntmps39 rfl ?_
  intro F hF
  refine g_sr ?_
  refine Li As ?_
  refine g_ne ?_
  refine g_sr ?_
  refine Li Mv ?_
  refine Li Nc ?_
  refine Li (Fa T.fld_95_4) ?_
  refine Lp (oL T.sc_3 ?_)
  refine Li As ?_
  refine g_ne ?_
  refine g_ret ?_
  refine Rt [] Try.results39 ?_
  exact ⟨rfl, rfl⟩
theorem wants_fn (b limit nk ck passed taken : Nat) (broken : Bool) (ak : Option Addr) (kept : List UInt8) (hn : nk = kept.length) (hc : nk ≤ ck) :
    FnS Try.prog 67 [.pointer (some ⟨b, 0, none⟩)] (fun h => (∃ k, pts b 95 (fdCells limit ak nk ck passed broken taken) k ∧ Le k h) ∧ Rdl h ak (bcells kept)) []
      (fun v H => v = .tuple #[.int .i64 ((wantsM limit kept).1 : Int), .int .i64 ((wantsM limit kept).2 : Int)] ∧ H = []) := by
  refine fn_body Try.func67 rfl Try.ntmps67 rfl ?_
  rintro F ⟨hF, hR⟩
  have q2 := n2_lt kept 2
  have q4 := n4_lt kept 8
  have p4 := byt_lt kept 4
  have hfr : frontN kept = 24 + byt kept 4 + n2 kept 2 := rfl
  have hwh : wholeN kept = 24 + n4 kept 8 := rfl
  refine g_sr ?_
  refine Li As ?_
  refine Li As ?_
  refine g_ne ?_
  refine g_seq ?_
  refine g_sr ?_
  refine Li Mv ?_
  refine Li Nc ?_
  refine Li (Fa T.fld_95_1) ?_
  refine Lp (oL T.sc_37 ?_)
  refine Li (Ln T.sl_37) ?_
  refine Li Cm ?_
  refine g_ne ?_
  refine g_cond rfl ?_ ?_
  · intro h24
    replace h24 := nrm h24
    refine g_sr ?_
    refine Li As ?_
    refine Li As ?_
    refine g_ne ?_
    refine g_ret ?_
    refine e_then_ret ?_
    refine Rt2 [] Try.results67 ?_
    have : wantsM limit kept = (24, 0) := by unfold wantsM; rw [if_pos (by omega)]
    rw [this]
    exact ⟨rfl, rfl⟩
  · intro h24
    replace h24 := nrm h24
    refine g_skip ?_
    refine e_then ?_
    refine g_sr ?_
    refine Li Mv ?_
    refine Li Nc ?_
    refine Li (Fa T.fld_95_1) ?_
    refine Lp (oL T.sc_37 ?_)
    refine Lp (oC T.fn_56 rfl rfl (whole_fn kept ak nk ck hn hc (by omega)) .nil (fun _ le _ => hR.mono le) ?_)
    rintro v H' ⟨rfl, rfl⟩
    try simp only [nap, cap]
    refine Li As ?_
    refine g_ne ?_
    refine g_seq ?_
    refine g_sr ?_
    refine Li Mv ?_
    refine Li Mv ?_
    refine Li Nc ?_
    refine Li (Fa T.fld_95_1) ?_
    refine Lp (oL T.sc_37 ?_)
    refine Lp (oC T.fn_58 rfl rfl (front_fn kept ak nk ck hn hc (by omega)) .nil (fun _ le _ => hR.mono le) ?_)
    rintro v H' ⟨rfl, rfl⟩
    try simp only [nap, cap]
    refine Li Im ?_
    refine Li As ?_
    refine g_ne ?_
    refine g_sr ?_
    refine Li Mv ?_
    refine Li Mv ?_
    refine Li Nc ?_
    refine Li (Fa T.fld_95_0) ?_
    refine Lp (oL T.sc_3 ?_)
    refine Li Cm ?_
    refine g_ne ?_
    refine g_cond rfl ?_ ?_
    · intro hv
      replace hv := nrm hv
      refine g_sr ?_
      refine Li Mv ?_
      refine Li Nc ?_
      refine Li (Fa T.fld_95_1) ?_
      refine Lp (oL T.sc_37 ?_)
      refine Lp (oC T.fn_58 rfl rfl (front_fn kept ak nk ck hn hc (by omega)) .nil (fun _ le _ => hR.mono le) ?_)
      rintro v H' ⟨rfl, rfl⟩
      try simp only [nap, cap]
      refine Li Mv ?_
      refine Li As ?_
      refine Li As ?_
      refine g_ne ?_
      refine g_ret ?_
      refine e_then_ret ?_
      refine Rt2 [] Try.results67 ?_
      have : wantsM limit kept = (frontN kept, wholeN kept - frontN kept) := by unfold wantsM; rw [if_neg (by omega), if_pos hv]
      rw [this]
      refine ⟨?_, rfl⟩
      simp
      omega
    · intro hv
      replace hv := nrm hv
      refine g_skip ?_
      refine e_then ?_
      refine g_sr ?_
      refine Li Mv ?_
      refine Li As ?_
      refine Li As ?_
      refine g_ne ?_
      refine g_ret ?_
      refine Rt2 [] Try.results67 ?_
      have : wantsM limit kept = (wholeN kept, 0) := by unfold wantsM; rw [if_neg (by omega), if_neg (by omega)]
      rw [this]
      exact ⟨rfl, rfl⟩
end Go.Proofs.Ytggmpaggmkfmoaa

