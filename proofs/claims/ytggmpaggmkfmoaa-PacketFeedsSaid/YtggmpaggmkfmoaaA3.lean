/- Packets: what stands of a head that can't be one's. -/
import Derived.Test.YtggmpaggmkfmoaaA2
set_option maxRecDepth 100000
namespace Go.Proofs.Ytggmpaggmkfmoaa
open Go Go.Eng

def badB (l : List UInt8) : Bool :=
  (decide (0 < l.length) && !decide (byt l 0 = 128) && !decide (byt l 0 = 129)) ||
  (decide (3 < l.length) && decide (250 < n2 l 2)) ||
  (decide (5 < l.length) && !decide (byt l 5 = 0)) ||
  (decide (6 < l.length) && decide (byt l 0 = 128) && !decide (byt l 6 = 0)) ||
  (decide (7 < l.length) && decide (byt l 0 = 128) && !decide (byt l 7 = 0)) ||
  (decide (11 < l.length) && (decide (2147483647 < n4 l 8) || decide (n4 l 8 < byt l 4 + n2 l 2)))

set_option maxHeartbeats 1000000 in
theorem bad_fn (l : List UInt8) (a : Option Addr) (m c : Nat) (hm : m = l.length) (hc : m ≤ c) (hl : l.length < 4611686018427387904) :
    FnS Try.prog 55 [.slice a m c] (fun h => Rdl h a (bcells l)) [] (fun v H => v = .bool (badB l) ∧ H = []) := by
  subst hm
  refine fn_body Try.func55 rfl Try.ntmps55 rfl ?_
  intro F hF
  have q2 := n2_lt l 2
  have q4 := n4_lt l 8
  have p0 := byt_lt l 0
  have p4 := byt_lt l 4
  have p5 := byt_lt l 5
  have p6 := byt_lt l 6
  have p7 := byt_lt l 7
  have hf : frontN l = 24 + byt l 4 + n2 l 2 := rfl
  refine g_sr ?_
  refine Li As ?_
  refine g_ne ?_
  refine g_sr ?_
  refine Li Mv ?_
  refine Li (Ln T.sl_37) ?_
  refine Li As ?_
  refine g_ne ?_
  refine g_seq ?_
  refine g_block ?_
  refine g_seq ?_
  refine g_mid (ι := Unit) [7, 8, 9, 10, 11, 12, 13, 14, 15, 16, 17, 18, 19, 20, 6] (fun u => True) (fun u => [(6, .bool (decide (0 < l.length) && !decide (byt l 0 = 128) && !decide (byt l 0 = 129)))]) (fun u => []) ?_ ?_
  · refine g_region ?_
    refine Li Mv ?_
    refine Li Cm ?_
    refine Li Mv ?_
    refine g_split (t := 9) rfl ?_ ?_
    · intro hb0
      replace hb0 := nrm hb0
      refine Li Mv ?_
      refine Li (Ix (j := 0) T.sl_37) ?_
      refine Lp (oL T.sc_5 ?_)
      refine Li Cm ?_
      refine Li Pt ?_
      refine Li Mv ?_
      refine g_split (t := 15) rfl ?_ ?_
      · intro hb1
        replace hb1 := nrm hb1
        refine Li Mv ?_
        refine Li (Ix (j := 0) T.sl_37) ?_
        refine Lp (oL T.sc_5 ?_)
        refine Li Cm ?_
        refine Li Pt ?_
        refine Li As ?_
        refine g_nil ?_
        refine Me (()) (trivial)
      · intro hb1
        replace hb1 := nrm hb1
        refine Lx ?_
        refine Lx ?_
        refine Lx ?_
        refine Lx ?_
        refine Li Pf ?_
        refine Li As ?_
        refine g_nil ?_
        refine Me (()) (trivial)
    · intro hb0
      replace hb0 := nrm hb0
      refine Lx ?_
      refine Lx ?_
      refine Lx ?_
      refine Lx ?_
      refine Li Pf ?_
      refine Li Mv ?_
      refine Lx ?_
      refine Lx ?_
      refine Lx ?_
      refine Lx ?_
      refine Li Pf ?_
      refine Li As ?_
      refine g_nil ?_
      refine Me (()) (trivial)
  rintro u hI
  refine g_cond rfl ?_ ?_
  · intro h3
    replace h3 := nrm h3
    refine g_skip ?_
    refine e_block ?_
    refine e_then ?_
    refine g_sr ?_
    refine Li As ?_
    refine g_ne ?_
    refine g_ret ?_
    refine Rt [] Try.results55 ?_
    exact ⟨congrArg Value.bool (by rw [Bool.eq_iff_iff]; simp only [badB, Bool.or_eq_true, Bool.and_eq_true, decide_eq_true_eq, Bool.not_eq_true', decide_eq_false_iff_not, true_iff]; omega), rfl⟩
  · intro h3
    replace h3 := nrm h3
    refine g_seq ?_
    refine g_mid (ι := Unit) [22, 23, 24, 25, 26, 27, 28, 29, 21] (fun u => True) (fun u => [(21, .bool (decide (3 < l.length) && decide (250 < n2 l 2)))]) (fun u => []) ?_ ?_
    · refine g_region ?_
      refine Li Mv ?_
      refine Li Cm ?_
      refine Li Mv ?_
      refine g_split (t := 24) rfl ?_ ?_
      · intro hb0
        replace hb0 := nrm hb0
        refine Li Mv ?_
        refine Li (Sl 2 4 4 T.sl_37) ?_
        refine Lp (oC T.fn_79 rfl rfl (told16_at l a 2 4 (4 - 2) (by omega) (by omega)) .nil (fun _ le _ => hF.mono le) ?_)
        rintro v H' ⟨rfl, rfl⟩
        try simp only [nap, cap]
        refine Li Cm ?_
        refine Li Pt ?_
        refine Li As ?_
        refine g_nil ?_
        refine Me (()) (trivial)
      · intro hb0
        replace hb0 := nrm hb0
        refine Lx ?_
        refine Lx ?_
        refine Lx ?_
        refine Lx ?_
        refine Li Pf ?_
        refine Li As ?_
        refine g_nil ?_
        refine Me (()) (trivial)
    rintro u hI
    refine g_cond rfl ?_ ?_
    · intro h4
      replace h4 := nrm h4
      refine g_skip ?_
      refine e_block ?_
      refine e_then ?_
      refine g_sr ?_
      refine Li As ?_
      refine g_ne ?_
      refine g_ret ?_
      refine Rt [] Try.results55 ?_
      exact ⟨congrArg Value.bool (by rw [Bool.eq_iff_iff]; simp only [badB, Bool.or_eq_true, Bool.and_eq_true, decide_eq_true_eq, Bool.not_eq_true', decide_eq_false_iff_not, true_iff]; omega), rfl⟩
    · intro h4
      replace h4 := nrm h4
      refine g_seq ?_
      refine g_mid (ι := Unit) [31, 32, 33, 34, 35, 36, 37, 38, 30] (fun u => True) (fun u => [(30, .bool (decide (5 < l.length) && !decide (byt l 5 = 0)))]) (fun u => []) ?_ ?_
      · refine g_region ?_
        refine Li Mv ?_
        refine Li Cm ?_
        refine Li Mv ?_
        refine g_split (t := 33) rfl ?_ ?_
        · intro hb0
          replace hb0 := nrm hb0
          refine Li Mv ?_
          refine Li (Ix (j := 5) T.sl_37) ?_
          refine Lp (oL T.sc_5 ?_)
          refine Li Cm ?_
          refine Li Pt ?_
          refine Li As ?_
          refine g_nil ?_
          refine Me (()) (trivial)
        · intro hb0
          replace hb0 := nrm hb0
          refine Lx ?_
          refine Lx ?_
          refine Lx ?_
          refine Lx ?_
          refine Li Pf ?_
          refine Li As ?_
          refine g_nil ?_
          refine Me (()) (trivial)
      rintro u hI
      refine g_cond rfl ?_ ?_
      · intro h5
        replace h5 := nrm h5
        refine g_skip ?_
        refine e_block ?_
        refine e_then ?_
        refine g_sr ?_
        refine Li As ?_
        refine g_ne ?_
        refine g_ret ?_
        refine Rt [] Try.results55 ?_
        exact ⟨congrArg Value.bool (by rw [Bool.eq_iff_iff]; simp only [badB, Bool.or_eq_true, Bool.and_eq_true, decide_eq_true_eq, Bool.not_eq_true', decide_eq_false_iff_not, true_iff]; omega), rfl⟩
      · intro h5
        replace h5 := nrm h5
        refine g_seq ?_
        refine g_mid (ι := Unit) [40, 41, 42, 43, 44, 45, 46, 47, 48, 49, 50, 51, 52, 53, 39] (fun u => True) (fun u => [(39, .bool (decide (6 < l.length) && decide (byt l 0 = 128) && !decide (byt l 6 = 0)))]) (fun u => []) ?_ ?_
        · refine g_region ?_
          refine Li Mv ?_
          refine Li Cm ?_
          refine Li Mv ?_
          refine g_split (t := 42) rfl ?_ ?_
          · intro hb0
            replace hb0 := nrm hb0
            refine Li Mv ?_
            refine Li (Ix (j := 0) T.sl_37) ?_
            refine Lp (oL T.sc_5 ?_)
            refine Li Cm ?_
            refine Li Pt ?_
            refine Li Mv ?_
            refine g_split (t := 48) rfl ?_ ?_
            · intro hb1
              replace hb1 := nrm hb1
              refine Li Mv ?_
              refine Li (Ix (j := 6) T.sl_37) ?_
              refine Lp (oL T.sc_5 ?_)
              refine Li Cm ?_
              refine Li Pt ?_
              refine Li As ?_
              refine g_nil ?_
              refine Me (()) (trivial)
            · intro hb1
              replace hb1 := nrm hb1
              refine Lx ?_
              refine Lx ?_
              refine Lx ?_
              refine Lx ?_
              refine Li Pf ?_
              refine Li As ?_
              refine g_nil ?_
              refine Me (()) (trivial)
          · intro hb0
            replace hb0 := nrm hb0
            refine Lx ?_
            refine Lx ?_
            refine Lx ?_
            refine Lx ?_
            refine Li Pf ?_
            refine Li Mv ?_
            refine Lx ?_
            refine Lx ?_
            refine Lx ?_
            refine Lx ?_
            refine Li Pf ?_
            refine Li As ?_
            refine g_nil ?_
            refine Me (()) (trivial)
        rintro u hI
        refine g_cond rfl ?_ ?_
        · intro h6
          replace h6 := nrm h6
          refine g_skip ?_
          refine e_block ?_
          refine e_then ?_
          refine g_sr ?_
          refine Li As ?_
          refine g_ne ?_
          refine g_ret ?_
          refine Rt [] Try.results55 ?_
          exact ⟨congrArg Value.bool (by rw [Bool.eq_iff_iff]; simp only [badB, Bool.or_eq_true, Bool.and_eq_true, decide_eq_true_eq, Bool.not_eq_true', decide_eq_false_iff_not, true_iff]; omega), rfl⟩
        · intro h6
          replace h6 := nrm h6
          refine g_seq ?_
          refine g_mid (ι := Unit) [55, 56, 57, 58, 59, 60, 61, 62, 63, 64, 65, 66, 67, 68, 54] (fun u => True) (fun u => [(54, .bool (decide (7 < l.length) && decide (byt l 0 = 128) && !decide (byt l 7 = 0)))]) (fun u => []) ?_ ?_
          · refine g_region ?_
            refine Li Mv ?_
            refine Li Cm ?_
            refine Li Mv ?_
            refine g_split (t := 57) rfl ?_ ?_
            · intro hb0
              replace hb0 := nrm hb0
              refine Li Mv ?_
              refine Li (Ix (j := 0) T.sl_37) ?_
              refine Lp (oL T.sc_5 ?_)
              refine Li Cm ?_
              refine Li Pt ?_
              refine Li Mv ?_
              refine g_split (t := 63) rfl ?_ ?_
              · intro hb1
                replace hb1 := nrm hb1
                refine Li Mv ?_
                refine Li (Ix (j := 7) T.sl_37) ?_
                refine Lp (oL T.sc_5 ?_)
                refine Li Cm ?_
                refine Li Pt ?_
                refine Li As ?_
                refine g_nil ?_
                refine Me (()) (trivial)
              · intro hb1
                replace hb1 := nrm hb1
                refine Lx ?_
                refine Lx ?_
                refine Lx ?_
                refine Lx ?_
                refine Li Pf ?_
                refine Li As ?_
                refine g_nil ?_
                refine Me (()) (trivial)
            · intro hb0
              replace hb0 := nrm hb0
              refine Lx ?_
              refine Lx ?_
              refine Lx ?_
              refine Lx ?_
              refine Li Pf ?_
              refine Li Mv ?_
              refine Lx ?_
              refine Lx ?_
              refine Lx ?_
              refine Lx ?_
              refine Li Pf ?_
              refine Li As ?_
              refine g_nil ?_
              refine Me (()) (trivial)
          rintro u hI
          refine g_cond rfl ?_ ?_
          · intro h7
            replace h7 := nrm h7
            refine g_skip ?_
            refine e_block ?_
            refine e_then ?_
            refine g_sr ?_
            refine Li As ?_
            refine g_ne ?_
            refine g_ret ?_
            refine Rt [] Try.results55 ?_
            exact ⟨congrArg Value.bool (by rw [Bool.eq_iff_iff]; simp only [badB, Bool.or_eq_true, Bool.and_eq_true, decide_eq_true_eq, Bool.not_eq_true', decide_eq_false_iff_not, true_iff]; omega), rfl⟩
          · intro h7
            replace h7 := nrm h7
            refine g_seq ?_
            refine g_mid (ι := Unit) [70, 71, 72, 73, 74, 75, 76, 77, 78, 79, 80, 81, 82, 83, 84, 85, 86, 87, 69] (fun u => True) (fun u => [(69, .bool (decide (11 < l.length) && (decide (2147483647 < n4 l 8) || decide (n4 l 8 < byt l 4 + n2 l 2))))]) (fun u => []) ?_ ?_
            · refine g_region ?_
              refine Li Mv ?_
              refine Li Cm ?_
              refine Li Mv ?_
              refine g_split (t := 72) rfl ?_ ?_
              · intro hb0
                replace hb0 := nrm hb0
                refine Li Mv ?_
                refine Li (Sl 8 12 12 T.sl_37) ?_
                refine Lp (oC T.fn_80 rfl rfl (told32_at l a 8 12 (12 - 8) (by omega) (by omega)) .nil (fun _ le _ => hF.mono le) ?_)
                rintro v H' ⟨rfl, rfl⟩
                try simp only [nap, cap]
                refine Li Cm ?_
                refine Li Mv ?_
                refine g_split (t := 77) rfl ?_ ?_
                · intro hb1
                  replace hb1 := nrm hb1
                  refine Lx ?_
                  refine Lx ?_
                  refine Lx ?_
                  refine Lx ?_
                  refine Lx ?_
                  refine Lx ?_
                  refine Lx ?_
                  refine Lx ?_
                  refine Li Pt ?_
                  refine Li Pt ?_
                  refine Li As ?_
                  refine g_nil ?_
                  refine Me (()) (trivial)
                · intro hb1
                  replace hb1 := nrm hb1
                  refine Li Mv ?_
                  refine Li (Sl 8 12 12 T.sl_37) ?_
                  refine Lp (oC T.fn_80 rfl rfl (told32_at l a 8 12 (12 - 8) (by omega) (by omega)) .nil (fun _ le _ => hF.mono le) ?_)
                  rintro v H' ⟨rfl, rfl⟩
                  try simp only [nap, cap]
                  refine Li (Cv T.u_3 T.us_85) ?_
                  refine Li Mv ?_
                  refine Lp (oC T.fn_58 rfl rfl (front_fn l a l.length c rfl hc (by omega)) .nil (fun _ le _ => hF.mono le) ?_)
                  rintro v H' ⟨rfl, rfl⟩
                  try simp only [nap, cap]
                  refine Li Im ?_
                  refine Li Cm ?_
                  refine Li Pf ?_
                  refine Li Pt ?_
                  refine Li As ?_
                  refine g_nil ?_
                  refine Me (()) (trivial)
              · intro hb0
                replace hb0 := nrm hb0
                refine Lx ?_
                refine Lx ?_
                refine Lx ?_
                refine Lx ?_
                refine Lx ?_
                refine Lx ?_
                refine Lx ?_
                refine Lx ?_
                refine Lx ?_
                refine Lx ?_
                refine Lx ?_
                refine Lx ?_
                refine Lx ?_
                refine Lx ?_
                refine Li Pf ?_
                refine Li As ?_
                refine g_nil ?_
                refine Me (()) (trivial)
            rintro u hI
            refine g_cond rfl ?_ ?_
            · intro h8
              replace h8 := nrm h8
              refine g_skip ?_
              refine e_block ?_
              refine e_then ?_
              refine g_sr ?_
              refine Li As ?_
              refine g_ne ?_
              refine g_ret ?_
              refine Rt [] Try.results55 ?_
              exact ⟨congrArg Value.bool (by rw [Bool.eq_iff_iff]; simp only [badB, Bool.or_eq_true, Bool.and_eq_true, decide_eq_true_eq, Bool.not_eq_true', decide_eq_false_iff_not, true_iff]; omega), rfl⟩
            · intro h8
              replace h8 := nrm h8
              refine g_sr ?_
              refine Li As ?_
              refine g_ne ?_
              refine g_ret ?_
              refine e_block_ret ?_
              refine e_then_ret ?_
              refine Rt [] Try.results55 ?_
              exact ⟨congrArg Value.bool (by rw [Bool.eq_iff_iff]; simp only [badB, Bool.or_eq_true, Bool.and_eq_true, decide_eq_true_eq, Bool.not_eq_true', decide_eq_false_iff_not, Bool.false_eq_true, false_iff]; omega), rfl⟩
end Go.Proofs.Ytggmpaggmkfmoaa

