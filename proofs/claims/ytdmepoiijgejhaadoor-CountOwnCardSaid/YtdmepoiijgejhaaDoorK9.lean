/- Counts: Stats. -/
import Derived.Test.YtdmepoiijgejhaaDoorK8
set_option maxRecDepth 100000
namespace Go.Proofs.YtdmepoiijgejhaaDoor
open Go Go.Eng

def lineC (x : List UInt8 × Nat) : List Value := [strv x.1, .int .u64 (x.2 : Int)]
def linesC (l : List (List UInt8 × Nat)) : List Value := l.flatMap lineC
theorem linesC_len (l : List (List UInt8 × Nat)) : (linesC l).length = l.length * 2 := flatMap_len lineC 2 (fun _ => rfl) l
theorem linesC_at (l : List (List UInt8 × Nat)) (i : Nat) (x : List UInt8 × Nat) (h : l[i]? = some x) : ((linesC l).drop (i * 2)).take 2 = lineC x := flatMap_at lineC 2 (fun _ => rfl) l i x h
theorem linesC_snoc (l : List (List UInt8 × Nat)) (x : List UInt8 × Nat) : linesC (l ++ [x]) = linesC l ++ lineC x := by simp [linesC]
/-- the first n names, each with its number -/
def statsM (l : List Nat) (n : Nat) : List (List UInt8 × Nat) := (List.range n).map fun i => (nameM ((i + 1 : Nat) : Int), l.getD (i + 1) 0)
theorem statsM_succ (l : List Nat) (n : Nat) : statsM l (n + 1) = statsM l n ++ [(nameM ((n + 1 : Nat) : Int), l.getD (n + 1) 0)] := by simp [statsM, List.range_succ]
theorem statsM_len (l : List Nat) (n : Nat) : (statsM l n).length = n := by simp [statsM]
theorem Stats_fn (b : Nat) (e : TypeId) (l : List Nat) (bd : Brd l) :
    FnS Tryd.prog 17 [.pointer (some ⟨b, 0, none⟩)] Tab [pts b e (bdC 0 l)] (fun v H => ∃ a c, v = .slice a 31 c ∧ 31 ≤ c ∧ a.isSome = true ∧ H = [own a c 78 2 (linesC (statsM l 31)), pts b e (bdC 0 l)]) := by
  have hlen := bd.len
  refine fn_bodyD Tryd.func17 rfl Tryd.ntmps17 rfl ?_
  intro F hF
  refine g_sr ?_
  refine Li As ?_
  refine g_ne ?_
  refine g_sr ?_
  refine Li Mv ?_
  refine Li Nc ?_
  refine Li (Fa T.fld_89_0) ?_
  refine Lp (oC T.fn_33 rfl rfl (lockB b e l) (.cons .here .nil) (fun _ _ _ => trivial) ?_)
  rintro v H' ⟨rfl, rfl⟩
  try simp only [nap, cap]
  refine g_ne ?_
  refine g_sr ?_
  refine Li Mv ?_
  refine Li Nc ?_
  refine Li (Fa T.fld_89_0) ?_
  refine Lp (oD ?_)
  refine g_ne ?_
  refine g_sr ?_
  refine Li As ?_
  refine g_ne ?_
  refine g_seq ?_
  refine g_sr ?_
  refine Li As ?_
  refine g_ne ?_
  refine g_block ?_
  refine g_nilrow 78 2 ?_
  refine Lo (ι := Nat × Option Addr × Nat) [12, 13, 16, 17, 18, 19, 20, 21, 22, 23, 24, 25, 26, 27, 3, 14, 15, 4] (fun (i, a, c) => i ≤ 31 ∧ i ≤ c) (fun (i, a, c) => [(3, .slice a i c), (4, .int .i64 ((i + 1 : Nat) : Int))]) (fun (i, a, c) => [own a c 78 2 (linesC (statsM l i)), pts b e (bdC 1 l)]) (fun (i, a, c) => 31 - i) ((0, none, 0)) ⟨Nat.zero_le _, Nat.le_refl _⟩ ?_
  rintro ⟨i, a, c⟩ ⟨hi, hc⟩
  try dsimp only at hI ⊢
  dsimp only at hi hc ⊢
  refine g_seq ?_
  refine g_sr ?_
  refine Li Mv ?_
  refine Li Cm ?_
  refine g_ne ?_
  refine g_cond rfl ?_ ?_
  · intro h1
    replace h1 := nrm h1
    have hat := bdC_at 1 l (i + 1) (by omega)
    have hcl := bdC_len 1 l
    have hsl := statsM_len l i
    have hll := linesC_len (statsM l i)
    refine g_skip ?_
    refine e_then ?_
    refine g_seq ?_
    refine g_block ?_
    refine g_drw T.mix (.cons (.there .here) .nil) fun F1 le1 hin1 back1 => ?_
    obtain ⟨hb, _⟩ := hin1
    have hT := hF.mono le1
    refine Dt 0 rfl Mv ?_
    refine Dt 1 rfl Mv ?_
    refine Dt 3 rfl Mv ?_
    refine Dt 4 rfl Mv ?_
    refine Dt 5 rfl Nc ?_
    refine Dt 6 rfl (Fa T.fld_89_1) ?_
    refine Dt 7 rfl (Ia T.ar_87) ?_
    refine Dt 8 rfl (Lf T.sc_30) ?_
    refine Dn 2 ?_
    refine Do rfl (oC T.fn_21 rfl rfl (Name_fn ((i + 1 : Nat) : Int) (by omega) (by omega)) .nil (fun _ le _ => hT.mono le) ?_)
    rintro v H' ⟨rfl, rfl⟩
    try simp only [nap, cap]
    refine gh_next ?_
    refine Dt 9 rfl (Bd T.zc_78 T.st_78) ?_
    refine Dn 10 ?_
    refine Do rfl (oT1 T.ap_36 fun b1 => ?_)
    refine gh_next ?_
    refine Hh (H' := [pts b1 78 (lineC (nameM ((i + 1 : Nat) : Int), l.getD (i + 1) 0)), own a c 78 2 (linesC (statsM l i))]) ?_
    refine Dn 11 ?_
    refine Do rfl (op_append_lit T.ap_36 T.ni_36 rfl rfl rfl rfl .here (by omega) (rfl) (by simp [lineC, Value.oneCell', strv]) (by first | omega | (simp; omega)) (by first | omega | (simp; omega)) rfl fun a2 c2 hc2 => ?_)
    rw [← linesC_snoc, ← statsM_succ]
    refine gh_next ?_
    refine Dt 12 rfl As ?_
    refine gh_done (by kernel_rfl) back1 ?_
    refine e_block ?_
    refine e_then ?_
    refine g_region ?_
    refine Li Mv ?_
    refine Li Im ?_
    refine Li As ?_
    refine g_nil ?_
    refine Ro ((i + 1, a2, c2)) (⟨by omega, by omega⟩) (by omega)
  · intro h1
    replace h1 := nrm h1
    have : i = 31 := by omega
    subst this
    refine g_exit ?_
    refine e_then_exit ?_
    refine e_then_exit ?_
    refine e_block_hit ?_
    refine e_then ?_
    refine g_sr ?_
    refine Li Mv ?_
    refine Li As ?_
    refine g_ne ?_
    refine g_ret ?_
    refine g_fact (sel_fact .here fun k ho => own_none ho (by rw [linesC_len, statsM_len]; omega)) fun ha => ?_
    refine RdD [own a c 78 2 (linesC (statsM l 31)), pts b e (bdC 0 l)] Tryd.results17 (unlockB b e l) (.cons (.there .here) .nil) (fun _ _ _ => trivial) ?_
    rintro v H' ⟨rfl, rfl⟩
    refine ⟨?_, Eh⟩
    exact ⟨a, c, rfl, hc, ha, rfl⟩
end Go.Proofs.YtdmepoiijgejhaaDoor

