/- Counts: the board's own calls: Add, Set, Read, Reset, Command. -/
import Derived.Test.YtdmepoiijgejhaaDoorK1
import Derived.Test.YtdmepoiijgejhaaDoorK5
set_option maxRecDepth 100000
namespace Go.Proofs.YtdmepoiijgejhaaDoor
open Go Go.Eng

theorem lockB (b : Nat) (e : TypeId) (l : List Nat) : FnS Tryd.prog 33 [.pointer (some ⟨b, 0, none⟩)] (fun _ => True) [pts b e (bdC 0 l)] (fun v H => v = .tuple #[] ∧ H = [pts b e (bdC 1 l)]) := lock_fn b e _
theorem unlockB (b : Nat) (e : TypeId) (l : List Nat) : FnD Tryd.prog 34 [.pointer (some ⟨b, 0, none⟩)] (fun _ => True) [pts b e (bdC 1 l)] (fun v H => v = .tuple #[] ∧ H = [pts b e (bdC 0 l)]) := unlock_fn b e _
theorem Add_fn (b : Nat) (e : TypeId) (l : List Nat) (bd : Brd l) (z : Int) (n : Nat) (hn : n ≤ maxN) :
    FnS Tryd.prog 28 [.pointer (some ⟨b, 0, none⟩), .int .i64 z, .int .u64 (n : Int)] (fun _ => True) [pts b e (bdC 0 l)] (fun v H => v = .tuple #[] ∧ H = [pts b e (bdC 0 (addM l z n))]) := by
  refine fn_bodyD Tryd.func28 rfl Tryd.ntmps28 rfl ?_
  intro F hF
  refine g_sr ?_
  refine Li Mv ?_
  refine Li Nc ?_
  refine Li (Fa T.fld_89_0) ?_
  refine Lp (oC T.fn_33 rfl rfl (lockB b e l) (.cons .here .nil) (fun _ _ _ => trivial) ?_)
  rintro v H' ⟨rfl, rfl⟩
  try simp only [nap, cap]
  refine g_ne ?_
  refine g_sr ?_
  refine Li Mv ?_
  refine Li Nc ?_
  refine Li (Fa T.fld_89_0) ?_
  refine Lp (oD ?_)
  refine g_ne ?_
  refine g_region ?_
  refine Li Mv ?_
  refine Li Mv ?_
  refine Li Mv ?_
  refine Lp (oC T.fn_55 rfl rfl (add_fn b e 1 l bd z n hn) (.cons .here .nil) (fun _ _ _ => trivial) ?_)
  rintro v H' ⟨rfl, rfl⟩
  try simp only [nap, cap]
  refine g_nil ?_
  refine RdDn [pts b e (bdC 0 (addM l z n))] Tryd.results28 (unlockB b e (addM l z n)) (.cons .here .nil) (fun _ _ _ => trivial) ?_
  rintro v H' ⟨rfl, rfl⟩
  refine ⟨?_, Eh⟩
  exact ⟨rfl, rfl⟩
def setM (l : List Nat) (z : Int) (n : Nat) : List Nat := if 1 ≤ z ∧ z < 32 then l.set z.toNat n else l
def readM (l : List Nat) (z : Int) : Nat := if 1 ≤ z ∧ z < 32 then l.getD z.toNat 0 else 0
theorem Set_fn (b : Nat) (e : TypeId) (l : List Nat) (bd : Brd l) (z : Int) (n : Nat) (hn : n ≤ maxN) :
    FnS Tryd.prog 31 [.pointer (some ⟨b, 0, none⟩), .int .i64 z, .int .u64 (n : Int)] (fun _ => True) [pts b e (bdC 0 l)] (fun v H => v = .tuple #[] ∧ H = [pts b e (bdC 0 (setM l z n))]) := by
  have hlen := bd.len
  unfold setM
  refine fn_bodyD Tryd.func31 rfl Tryd.ntmps31 rfl ?_
  intro F hF
  refine g_sr ?_
  refine Li Mv ?_
  refine Li Nc ?_
  refine Li (Fa T.fld_89_0) ?_
  refine Lp (oC T.fn_33 rfl rfl (lockB b e l) (.cons .here .nil) (fun _ _ _ => trivial) ?_)
  rintro v H' ⟨rfl, rfl⟩
  try simp only [nap, cap]
  refine g_ne ?_
  refine g_sr ?_
  refine Li Mv ?_
  refine Li Nc ?_
  refine Li (Fa T.fld_89_0) ?_
  refine Lp (oD ?_)
  refine g_ne ?_
  refine g_seq ?_
  refine g_mid (ι := Unit) [13, 14, 15, 16, 17, 18] (fun u => True) (fun u => [(18, .bool (decide (1 ≤ z) && decide (z < 32)))]) (fun u => [pts b e (bdC 1 l)]) ?_ ?_
  · refine g_region ?_
    refine Li Mv ?_
    refine Li Cm ?_
    refine Li Mv ?_
    refine g_split (t := 15) rfl ?_ ?_
    · intro hb0
      replace hb0 := nrm hb0
      refine Li Mv ?_
      refine Li Cm ?_
      refine Li Pt ?_
      refine g_nil ?_
      refine Me (()) (trivial)
    · intro hb0
      replace hb0 := nrm hb0
      refine Lx ?_
      refine Lx ?_
      refine Li Pf ?_
      refine g_nil ?_
      refine Me (()) (trivial)
  rintro u hI
  refine g_cond rfl ?_ ?_
  · intro hz
    replace hz := nrm hz
    obtain ⟨j, rfl⟩ : ∃ j : Nat, z = (j : Int) := ⟨z.toNat, by omega⟩
    have hj : j < l.length := by omega
    have hcl := bdC_len 1 l
    rw [if_pos (by omega)]
    refine g_region ?_
    refine Li Mv ?_
    refine Li Mv ?_
    refine Li Mv ?_
    refine Li Nc ?_
    refine Li (Fa T.fld_89_1) ?_
    refine Li (Ia T.ar_87) ?_
    refine Lp (oS T.sc_30 ?_)
    refine g_nil ?_
    have e1 : (bdC 1 l).set (0 + 2 + j) (.int .u64 (n : Int)) = bdC 1 (l.set j n) := by rw [show 0 + 2 + j = 2 + j from by omega, bdC_set]
    rw [e1]
    refine RdDn [pts b e (bdC 0 (l.set j n))] Tryd.results31 (unlockB b e (l.set j n)) (.cons .here .nil) (fun _ _ _ => trivial) ?_
    rintro v H' ⟨rfl, rfl⟩
    refine ⟨?_, Eh⟩
    exact ⟨rfl, rfl⟩
  · intro hz
    replace hz := nrm hz
    rw [if_neg (by omega)]
    refine g_skip ?_
    refine RdDn [pts b e (bdC 0 l)] Tryd.results31 (unlockB b e l) (.cons .here .nil) (fun _ _ _ => trivial) ?_
    rintro v H' ⟨rfl, rfl⟩
    refine ⟨?_, Eh⟩
    exact ⟨rfl, rfl⟩
theorem Read_fn (b : Nat) (e : TypeId) (l : List Nat) (bd : Brd l) (z : Int) :
    FnS Tryd.prog 20 [.pointer (some ⟨b, 0, none⟩), .int .i64 z] (fun _ => True) [pts b e (bdC 0 l)] (fun v H => v = .int .u64 (readM l z : Int) ∧ H = [pts b e (bdC 0 l)]) := by
  have hlen := bd.len
  unfold readM
  refine fn_bodyD Tryd.func20 rfl Tryd.ntmps20 rfl ?_
  intro F hF
  refine g_sr ?_
  refine Li As ?_
  refine g_ne ?_
  refine g_sr ?_
  refine Li Mv ?_
  refine Li Nc ?_
  refine Li (Fa T.fld_89_0) ?_
  refine Lp (oC T.fn_33 rfl rfl (lockB b e l) (.cons .here .nil) (fun _ _ _ => trivial) ?_)
  rintro v H' ⟨rfl, rfl⟩
  try simp only [nap, cap]
  refine g_ne ?_
  refine g_sr ?_
  refine Li Mv ?_
  refine Li Nc ?_
  refine Li (Fa T.fld_89_0) ?_
  refine Lp (oD ?_)
  refine g_ne ?_
  refine g_seq ?_
  refine g_seq ?_
  refine g_mid (ι := Unit) [12, 13, 14, 15, 16, 17] (fun u => True) (fun u => [(17, .bool (decide (z < 1) || decide (32 ≤ z)))]) (fun u => [pts b e (bdC 1 l)]) ?_ ?_
  · refine g_region ?_
    refine Li Mv ?_
    refine Li Cm ?_
    refine Li Mv ?_
    refine g_split (t := 14) rfl ?_ ?_
    · intro hb0
      replace hb0 := nrm hb0
      refine Lx ?_
      refine Lx ?_
      refine Li Pt ?_
      refine g_nil ?_
      refine Me (()) (trivial)
    · intro hb0
      replace hb0 := nrm hb0
      refine Li Mv ?_
      refine Li Cm ?_
      refine Li Pf ?_
      refine g_nil ?_
      refine Me (()) (trivial)
  rintro u hI
  refine g_cond rfl ?_ ?_
  · intro hz
    replace hz := nrm hz
    rw [if_neg (by omega)]
    refine g_sr ?_
    refine Li As ?_
    refine g_ne ?_
    refine g_ret ?_
    refine e_then_ret ?_
    refine RdD [pts b e (bdC 0 l)] Tryd.results20 (unlockB b e l) (.cons .here .nil) (fun _ _ _ => trivial) ?_
    rintro v H' ⟨rfl, rfl⟩
    refine ⟨?_, Eh⟩
    exact ⟨rfl, rfl⟩
  · intro hz
    replace hz := nrm hz
    obtain ⟨j, rfl⟩ : ∃ j : Nat, z = (j : Int) := ⟨z.toNat, by omega⟩
    have hj : j < l.length := by omega
    have hat := bdC_at 1 l j hj
    rw [if_pos (by omega), Int.toNat_natCast]
    refine g_skip ?_
    refine e_then ?_
    refine g_sr ?_
    refine Li Mv ?_
    refine Li Mv ?_
    refine Li Nc ?_
    refine Li (Fa T.fld_89_1) ?_
    refine Li (Ia T.ar_87) ?_
    refine Lp (oL T.sc_30 ?_)
    refine Li As ?_
    refine g_ne ?_
    refine g_ret ?_
    refine RdD [pts b e (bdC 0 l)] Tryd.results20 (unlockB b e l) (.cons .here .nil) (fun _ _ _ => trivial) ?_
    rintro v H' ⟨rfl, rfl⟩
    refine ⟨?_, Eh⟩
    exact ⟨rfl, rfl⟩
end Go.Proofs.YtdmepoiijgejhaaDoor

