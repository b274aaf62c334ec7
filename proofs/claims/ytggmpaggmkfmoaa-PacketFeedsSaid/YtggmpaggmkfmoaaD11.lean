/- Packets, the reference: what bytes say; refused? -/
import Derived.Test.YtggmpaggmkfmoaaA7
import Derived.Test.YtggmpaggmkfmoaaEngX
set_option maxRecDepth 100000
namespace Go.Proofs.Ytggmpaggmkfmoaa
open Go Go.Eng

theorem number_fn (l : List UInt8) (a : Option Addr) (m c : Nat) (hm : m = l.length) (h8 : l.length ≤ 8) :
    FnS Try.prog 62 [.slice a m c] (fun h => Rdl h a (bcells l)) [] (fun v H => v = .int .u64 (num l : Int) ∧ H = []) := by
  subst hm
  refine fn_body Try.func62 rfl Try.ntmps62 rfl ?_
  intro F hF
  refine g_sr ?_
  refine Li As ?_
  refine g_ne ?_
  refine g_sr ?_
  refine Li As ?_
  refine g_ne ?_
  refine g_seq ?_
  refine g_sr ?_
  refine Li As ?_
  refine g_ne ?_
  refine g_block ?_
  refine Lo (ι := Nat) [5, 6, 7, 8, 11, 12, 13, 14, 15, 16, 17, 18, 3, 9, 10, 4] (fun i => i ≤ l.length) (fun i => [(4, .int .i64 (i : Int)), (3, .int .u64 (num (l.take i) : Int))]) (fun i => []) (fun i => l.length - i) (0) (Nat.zero_le _) ?_
  rintro i hi
  refine g_seq ?_
  refine g_sr ?_
  refine Li Mv ?_
  refine Li Mv ?_
  refine Li (Ln T.sl_37) ?_
  refine Li Cm ?_
  refine g_ne ?_
  refine g_cond rfl ?_ ?_
  · intro h1
    replace h1 := nrm h1
    have hk : i < l.length := by omega
    have hlt := num_lt (l.take i)
    have hp : 256 ^ (l.take i).length ≤ 256 ^ 7 := Nat.pow_le_pow_right (by decide) (by simp; omega)
    have hb : num (l.take i) < 72057594037927936 := Nat.lt_of_lt_of_le hlt hp
    have ht := num_take hk
    have hby := byt_lt l i
    have a0 : a.isSome = true := hF.some (by simp; omega)
    refine g_skip ?_
    refine e_then ?_
    refine g_seq ?_
    refine g_block ?_
    refine g_region ?_
    refine Li Mv ?_
    refine Li Im ?_
    refine Li Mv ?_
    refine Li Mv ?_
    refine Li (Ix T.sl_37) ?_
    refine Lp (oL T.sc_5 ?_)
    refine Li (Cv T.u_36 T.us_5) ?_
    refine Li Im ?_
    refine Li As ?_
    refine g_nil ?_
    refine e_block ?_
    refine e_then ?_
    refine g_region ?_
    refine Li Mv ?_
    refine Li Im ?_
    refine Li As ?_
    refine g_nil ?_
    refine Ro (i + 1) ((by omega)) ((by omega)) (hs := ⟨(by first | (refine congrArg (fun q => some (Value.int _ q)) ?_; omega) | exact rfl), (by first | (refine congrArg (fun q => some (Value.int _ q)) ?_; omega) | exact rfl), trivial⟩)
  · intro h1
    replace h1 := nrm h1
    rw [List.take_of_length_le (by omega)]
    refine g_exit ?_
    refine e_then_exit ?_
    refine e_then_exit ?_
    refine e_block_hit ?_
    refine e_then ?_
    refine g_sr ?_
    refine Li Mv ?_
    refine Li As ?_
    refine g_ne ?_
    refine g_ret ?_
    refine Rt [] Try.results62 ?_
    exact ⟨rfl, rfl⟩
theorem number_at (l : List UInt8) (a : Option Addr) (i k m c : Nat) (h2 : i + k ≤ l.length) (hk : 1 ≤ k ∧ k ≤ 8) (hm : m ≠ i) :
    FnS Try.prog 62 [.slice (cutA a i m (i * 1)) ((i + k) - i) c] (fun h => Rdl h a (bcells l)) [] (fun v H => v = .int .u64 (num ((l.drop i).take k) : Int) ∧ H = []) :=
  (number_fn ((l.drop i).take k) (cutA a i m (i * 1)) ((i + k) - i) c (by simp; omega) (by simp; omega)).inp fun h r => cut2 r i m k (fun e => absurd e hm)
theorem rn2 (l : List UInt8) (a : Option Addr) (i m c : Nat) (h2 : i + 2 ≤ l.length) (hm : m ≠ i) : FnS Try.prog 62 [.slice (cutA a i m (i * 1)) ((i + 2) - i) c] (fun h => Rdl h a (bcells l)) [] (fun v H => v = .int .u64 (n2 l i : Int) ∧ H = []) := number_at l a i 2 m c h2 (by omega) hm
theorem rn4 (l : List UInt8) (a : Option Addr) (i m c : Nat) (h2 : i + 4 ≤ l.length) (hm : m ≠ i) : FnS Try.prog 62 [.slice (cutA a i m (i * 1)) ((i + 4) - i) c] (fun h => Rdl h a (bcells l)) [] (fun v H => v = .int .u64 (n4 l i : Int) ∧ H = []) := number_at l a i 4 m c h2 (by omega) hm
theorem rn8 (l : List UInt8) (a : Option Addr) (i m c : Nat) (h2 : i + 8 ≤ l.length) (hm : m ≠ i) : FnS Try.prog 62 [.slice (cutA a i m (i * 1)) ((i + 8) - i) c] (fun h => Rdl h a (bcells l)) [] (fun v H => v = .int .u64 (n8 l i : Int) ∧ H = []) := number_at l a i 8 m c h2 (by omega) hm
theorem rcopied_fn (l : List UInt8) (a : Option Addr) (m c : Nat) (hm : m = l.length) (hl : l.length ≤ 140737488355328) :
    FnS Try.prog 63 [.slice a m c] (fun h => Rdl h a (bcells l)) [] (fun v H => ∃ b k, v = .slice b l.length k ∧ H = [own b k 5 1 (bcells l)]) := by
  subst hm
  refine fn_body Try.func63 rfl Try.ntmps63 rfl ?_
  intro F hF
  refine g_nilrow 5 1 ?_
  refine g_sr ?_
  refine Li As ?_
  refine g_ne ?_
  refine g_sr ?_
  refine Li As ?_
  refine g_ne ?_
  refine g_sr ?_
  refine Li Mv ?_
  refine Li Mv ?_
  refine Lp (op_append T.ap_37 T.ni_37 rfl rfl rfl rfl .here (rfl) (src_slice (m := l.length) (by simp) fun h le _ => hF.mono le) (bcells_one) (by omega) (by omega) rfl fun a4 c4 h4 => ?_)
  rw [show 0 + l.length = l.length from Nat.zero_add _, List.nil_append]
  refine Li As ?_
  refine g_ne ?_
  refine g_ret ?_
  refine Rt [own a4 c4 5 1 (bcells l)] Try.results63 ?_
  exact ⟨a4, c4, rfl, rfl⟩
theorem rwhole_fn (l : List UInt8) (a : Option Addr) (m c : Nat) (hm : m = l.length) (hc : m ≤ c) (h12 : 12 ≤ l.length) :
    FnS Try.prog 60 [.slice a m c] (fun h => Rdl h a (bcells l)) [] (fun v H => v = .int .i64 (wholeN l : Int) ∧ H = []) := by
  refine fn_body Try.func60 rfl Try.ntmps60 rfl ?_
  intro F hF
  have hn := n4_lt l 8
  refine g_sr ?_
  refine Li As ?_
  refine g_ne ?_
  refine g_sr ?_
  refine Li Mv ?_
  refine Li (Sl 8 12 _ T.sl_37) ?_
  refine Lp (oC T.fn_62 rfl rfl (rn4 l a 8 c (c - 8) (by omega) (by omega)) .nil (fun _ le _ => hF.mono le) ?_)
  rintro v H' ⟨rfl, rfl⟩
  try simp only [nap, cap]
  refine Li (Cv T.u_3 T.us_36) ?_
  refine Li Im ?_
  refine Li As ?_
  refine g_ne ?_
  refine g_ret ?_
  refine Rt [] Try.results60 ?_
  exact ⟨rfl, rfl⟩
theorem rfront_fn (l : List UInt8) (a : Option Addr) (m c : Nat) (hm : m = l.length) (hc : m ≤ c) (h5 : 5 ≤ l.length) :
    FnS Try.prog 61 [.slice a m c] (fun h => Rdl h a (bcells l)) [] (fun v H => v = .int .i64 (frontN l : Int) ∧ H = []) := by
  refine fn_body Try.func61 rfl Try.ntmps61 rfl ?_
  intro F hF
  have hn := n2_lt l 2
  have hby := byt_lt l 4
  have a0 : a.isSome = true := hF.some (by simp; omega)
  refine g_sr ?_
  refine Li As ?_
  refine g_ne ?_
  refine g_seq ?_
  refine g_drw T.mix .nil fun F1 le1 hin1 back1 => ?_
  have hF := hF.mono le1
  refine Dt 0 rfl Mv ?_
  refine Dt 1 rfl (Ix (j := 4) T.sl_37) ?_
  refine Dt 2 rfl (Lf T.sc_5) ?_
  refine Dt 3 rfl (Cv T.u_3 T.us_5) ?_
  refine Dt 4 rfl Im ?_
  refine Dt 5 rfl Mv ?_
  refine Dt 6 rfl (Sl 2 4 _ T.sl_37) ?_
  refine Dn 7 ?_
  refine Do rfl (oC T.fn_62 rfl rfl (rn2 l a 2 c (c - 2) (by omega) (by omega)) .nil (fun _ le _ => hF.mono le) ?_)
  rintro v H' ⟨rfl, rfl⟩
  try simp only [nap, cap]
  refine gh_next ?_
  refine Dt 8 rfl (Cv T.u_3 T.us_36) ?_
  refine Dt 9 rfl Im ?_
  refine Dt 10 rfl As ?_
  refine gh_done (by kernel_rfl) back1 ?_
  refine e_then ?_
  refine g_ret ?_
  refine Rt [] Try.results61 ?_
  exact ⟨rfl, rfl⟩
set_option maxHeartbeats 2000000 in
theorem refused_fn (l : List UInt8) (a : Option Addr) (m c : Nat) (hm : m = l.length) (hc : m ≤ c) (hl : l.length < 4611686018427387904) :
    FnS Try.prog 59 [.slice a m c] (fun h => Rdl h a (bcells l)) [] (fun v H => v = .bool (badB l) ∧ H = []) := by
  subst hm
  refine fn_body Try.func59 rfl Try.ntmps59 rfl ?_
  intro F hF
  have q2 := n2_lt l 2
  have q4 := n4_lt l 8
  have p0 := byt_lt l 0
  have p4 := byt_lt l 4
  have p5 := byt_lt l 5
  have p6 := byt_lt l 6
  have p7 := byt_lt l 7
  refine g_sr ?_
  refine Li As ?_
  refine g_ne ?_
  refine g_seq ?_
  refine g_seq ?_
  refine g_mid (ι := Unit) [3, 4, 5, 6, 7, 8, 9, 10, 11, 12, 13, 14, 15, 16, 17] (fun u => True) (fun u => [(17, .bool (decide (0 < l.length) && !decide (byt l 0 = 128) && !decide (byt l 0 = 129)))]) (fun u => []) ?_ ?_
  · refine g_region ?_
    refine Li Mv ?_
    refine Li (Ln T.sl_37) ?_
    refine Li Cm ?_
    refine Li Mv ?_
    refine g_split (t := 6) rfl ?_ ?_
    · intro hb0
      replace hb0 := nrm hb0
      refine Li Mv ?_
      refine Li (Ix (j := 0) T.sl_37) ?_
      refine Lp (oL T.sc_5 ?_)
      refine Li Cm ?_
      refine Li Pt ?_
      refine Li Mv ?_
      refine g_split (t := 12) rfl ?_ ?_
      · intro hb1
        replace hb1 := nrm hb1
        refine Li Mv ?_
        refine Li (Ix (j := 0) T.sl_37) ?_
        refine Lp (oL T.sc_5 ?_)
        refine Li Cm ?_
        refine Li Pt ?_
        refine g_nil ?_
        refine Me (()) (trivial)
      · intro hb1
        replace hb1 := nrm hb1
        refine Lx ?_
        refine Lx ?_
        refine Lx ?_
        refine Lx ?_
        refine Li Pf ?_
        refine g_nil ?_
        refine Me (()) (trivial)
    · intro hb0
      replace hb0 := nrm hb0
      refine Lx ?_
      refine Lx ?_
      refine Lx ?_
      refine Lx ?_
      refine Li Pf ?_
      refine Li Mv ?_
      refine Lx ?_
      refine Lx ?_
      refine Lx ?_
      refine Lx ?_
      refine Li Pf ?_
      refine g_nil ?_
      refine Me (()) (trivial)
  rintro u hI
  refine g_cond rfl ?_ ?_
  · intro h3
    replace h3 := nrm h3
    refine g_sr ?_
    refine Li As ?_
    refine g_ne ?_
    refine g_ret ?_
    refine e_then_ret ?_
    refine Rt [] Try.results59 ?_
    exact ⟨congrArg Value.bool (by rw [Bool.eq_iff_iff]; simp only [badB, Bool.or_eq_true, Bool.and_eq_true, decide_eq_true_eq, Bool.not_eq_true', decide_eq_false_iff_not, true_iff]; omega), rfl⟩
  · intro h3
    replace h3 := nrm h3
    refine g_skip ?_
    refine e_then ?_
    refine g_seq ?_
    refine g_seq ?_
    refine g_mid (ι := Unit) [18, 19, 20, 21, 22, 23, 24, 25, 26] (fun u => True) (fun u => [(26, .bool (decide (3 < l.length) && decide (250 < n2 l 2)))]) (fun u => []) ?_ ?_
    · refine g_region ?_
      refine Li Mv ?_
      refine Li (Ln T.sl_37) ?_
      refine Li Cm ?_
      refine Li Mv ?_
      refine g_split (t := 21) rfl ?_ ?_
      · intro hb0
        replace hb0 := nrm hb0
        refine Li Mv ?_
        refine Li (Sl 2 4 _ T.sl_37) ?_
        refine Lp (oC T.fn_62 rfl rfl (rn2 l a 2 c (c - 2) (by omega) (by omega)) .nil (fun _ le _ => hF.mono le) ?_)
        rintro v H' ⟨rfl, rfl⟩
        try simp only [nap, cap]
        refine Li Cm ?_
        refine Li Pt ?_
        refine g_nil ?_
        refine Me (()) (trivial)
      · intro hb0
        replace hb0 := nrm hb0
        refine Lx ?_
        refine Lx ?_
        refine Lx ?_
        refine Lx ?_
        refine Li Pf ?_
        refine g_nil ?_
        refine Me (()) (trivial)
    rintro u hI
    refine g_cond rfl ?_ ?_
    · intro h4
      replace h4 := nrm h4
      refine g_sr ?_
      refine Li As ?_
      refine g_ne ?_
      refine g_ret ?_
      refine e_then_ret ?_
      refine Rt [] Try.results59 ?_
      exact ⟨congrArg Value.bool (by rw [Bool.eq_iff_iff]; simp only [badB, Bool.or_eq_true, Bool.and_eq_true, decide_eq_true_eq, Bool.not_eq_true', decide_eq_false_iff_not, true_iff]; omega), rfl⟩
    · intro h4
      replace h4 := nrm h4
      refine g_skip ?_
      refine e_then ?_
      refine g_seq ?_
      refine g_seq ?_
      refine g_mid (ι := Unit) [27, 28, 29, 30, 31, 32, 33, 34, 35] (fun u => True) (fun u => [(35, .bool (decide (5 < l.length) && !decide (byt l 5 = 0)))]) (fun u => []) ?_ ?_
      · refine g_region ?_
        refine Li Mv ?_
        refine Li (Ln T.sl_37) ?_
        refine Li Cm ?_
        refine Li Mv ?_
        refine g_split (t := 30) rfl ?_ ?_
        · intro hb0
          replace hb0 := nrm hb0
          refine Li Mv ?_
          refine Li (Ix (j := 5) T.sl_37) ?_
          refine Lp (oL T.sc_5 ?_)
          refine Li Cm ?_
          refine Li Pt ?_
          refine g_nil ?_
          refine Me (()) (trivial)
        · intro hb0
          replace hb0 := nrm hb0
          refine Lx ?_
          refine Lx ?_
          refine Lx ?_
          refine Lx ?_
          refine Li Pf ?_
          refine g_nil ?_
          refine Me (()) (trivial)
      rintro u hI
      refine g_cond rfl ?_ ?_
      · intro h5
        replace h5 := nrm h5
        refine g_sr ?_
        refine Li As ?_
        refine g_ne ?_
        refine g_ret ?_
        refine e_then_ret ?_
        refine Rt [] Try.results59 ?_
        exact ⟨congrArg Value.bool (by rw [Bool.eq_iff_iff]; simp only [badB, Bool.or_eq_true, Bool.and_eq_true, decide_eq_true_eq, Bool.not_eq_true', decide_eq_false_iff_not, true_iff]; omega), rfl⟩
      · intro h5
        replace h5 := nrm h5
        refine g_skip ?_
        refine e_then ?_
        refine g_seq ?_
        refine g_seq ?_
        refine g_mid (ι := Unit) [36, 37, 38, 39, 40, 41, 42, 43, 44, 45, 46, 47, 48, 49, 50] (fun u => True) (fun u => [(50, .bool (decide (6 < l.length) && decide (byt l 0 = 128) && !decide (byt l 6 = 0)))]) (fun u => []) ?_ ?_
        · refine g_region ?_
          refine Li Mv ?_
          refine Li (Ln T.sl_37) ?_
          refine Li Cm ?_
          refine Li Mv ?_
          refine g_split (t := 39) rfl ?_ ?_
          · intro hb0
            replace hb0 := nrm hb0
            refine Li Mv ?_
            refine Li (Ix (j := 0) T.sl_37) ?_
            refine Lp (oL T.sc_5 ?_)
            refine Li Cm ?_
            refine Li Pt ?_
            refine Li Mv ?_
            refine g_split (t := 45) rfl ?_ ?_
            · intro hb1
              replace hb1 := nrm hb1
              refine Li Mv ?_
              refine Li (Ix (j := 6) T.sl_37) ?_
              refine Lp (oL T.sc_5 ?_)
              refine Li Cm ?_
              refine Li Pt ?_
              refine g_nil ?_
              refine Me (()) (trivial)
            · intro hb1
              replace hb1 := nrm hb1
              refine Lx ?_
              refine Lx ?_
              refine Lx ?_
              refine Lx ?_
              refine Li Pf ?_
              refine g_nil ?_
              refine Me (()) (trivial)
          · intro hb0
            replace hb0 := nrm hb0
            refine Lx ?_
            refine Lx ?_
            refine Lx ?_
            refine Lx ?_
            refine Li Pf ?_
            refine Li Mv ?_
            refine Lx ?_
            refine Lx ?_
            refine Lx ?_
            refine Lx ?_
            refine Li Pf ?_
            refine g_nil ?_
            refine Me (()) (trivial)
        rintro u hI
        refine g_cond rfl ?_ ?_
        · intro h6
          replace h6 := nrm h6
          refine g_sr ?_
          refine Li As ?_
          refine g_ne ?_
          refine g_ret ?_
          refine e_then_ret ?_
          refine Rt [] Try.results59 ?_
          exact ⟨congrArg Value.bool (by rw [Bool.eq_iff_iff]; simp only [badB, Bool.or_eq_true, Bool.and_eq_true, decide_eq_true_eq, Bool.not_eq_true', decide_eq_false_iff_not, true_iff]; omega), rfl⟩
        · intro h6
          replace h6 := nrm h6
          refine g_skip ?_
          refine e_then ?_
          refine g_seq ?_
          refine g_seq ?_
          refine g_mid (ι := Unit) [51, 52, 53, 54, 55, 56, 57, 58, 59, 60, 61, 62, 63, 64, 65] (fun u => True) (fun u => [(65, .bool (decide (7 < l.length) && decide (byt l 0 = 128) && !decide (byt l 7 = 0)))]) (fun u => []) ?_ ?_
          · refine g_region ?_
            refine Li Mv ?_
            refine Li (Ln T.sl_37) ?_
            refine Li Cm ?_
            refine Li Mv ?_
            refine g_split (t := 54) rfl ?_ ?_
            · intro hb0
              replace hb0 := nrm hb0
              refine Li Mv ?_
              refine Li (Ix (j := 0) T.sl_37) ?_
              refine Lp (oL T.sc_5 ?_)
              refine Li Cm ?_
              refine Li Pt ?_
              refine Li Mv ?_
              refine g_split (t := 60) rfl ?_ ?_
              · intro hb1
                replace hb1 := nrm hb1
                refine Li Mv ?_
                refine Li (Ix (j := 7) T.sl_37) ?_
                refine Lp (oL T.sc_5 ?_)
                refine Li Cm ?_
                refine Li Pt ?_
                refine g_nil ?_
                refine Me (()) (trivial)
              · intro hb1
                replace hb1 := nrm hb1
                refine Lx ?_
                refine Lx ?_
                refine Lx ?_
                refine Lx ?_
                refine Li Pf ?_
                refine g_nil ?_
                refine Me (()) (trivial)
            · intro hb0
              replace hb0 := nrm hb0
              refine Lx ?_
              refine Lx ?_
              refine Lx ?_
              refine Lx ?_
              refine Li Pf ?_
              refine Li Mv ?_
              refine Lx ?_
              refine Lx ?_
              refine Lx ?_
              refine Lx ?_
              refine Li Pf ?_
              refine g_nil ?_
              refine Me (()) (trivial)
          rintro u hI
          refine g_cond rfl ?_ ?_
          · intro h7
            replace h7 := nrm h7
            refine g_sr ?_
            refine Li As ?_
            refine g_ne ?_
            refine g_ret ?_
            refine e_then_ret ?_
            refine Rt [] Try.results59 ?_
            exact ⟨congrArg Value.bool (by rw [Bool.eq_iff_iff]; simp only [badB, Bool.or_eq_true, Bool.and_eq_true, decide_eq_true_eq, Bool.not_eq_true', decide_eq_false_iff_not, true_iff]; omega), rfl⟩
          · intro h7
            replace h7 := nrm h7
            refine g_skip ?_
            refine e_then ?_
            refine g_seq ?_
            refine g_mid (ι := Unit) [66, 67, 68, 69, 70, 71, 72, 73, 74, 75, 76, 77, 78, 79, 80, 81, 82, 83, 84, 85, 86, 87, 88, 2] (fun u => True) (fun u => [(2, .bool (decide (11 < l.length) && (decide (2147483647 < n4 l 8) || decide (n4 l 8 < byt l 4 + n2 l 2))))]) (fun u => []) ?_ ?_
            · refine g_drw T.mix .nil fun F1 le1 hin1 back1 => ?_
              have hF := hF.mono le1
              have nm1 := fun (h : 8 + 4 ≤ l.length) => rn4 l a 8 c (c - 8) h (by omega)
              have nm2 := fun (h : 8 + 4 ≤ l.length) => rn4 l a 8 c (c - 8) h (by omega)
              have nm3 := fun (h : 8 + 4 ≤ l.length) => rn2 l a 2 c (c - 2) (by omega) (by omega)
              refine Dt 0 rfl Mv ?_
              refine Dt 1 rfl (Ln T.sl_37) ?_
              refine Dt 2 rfl Cm ?_
              refine Dt 3 rfl Mv ?_
              refine g_split (t := 69) rfl ?_ ?_
              · intro hb0
                replace hb0 := nrm hb0
                refine Dt 4 rfl Mv ?_
                refine Dt 5 rfl (Sl 8 12 _ T.sl_37) ?_
                refine Dn 6 ?_
                refine Do rfl (oC T.fn_62 rfl rfl (nm1 (by omega)) .nil (fun _ le _ => hF.mono le) ?_)
                rintro v H' ⟨rfl, rfl⟩
                try simp only [nap, cap]
                refine gh_next ?_
                refine Dt 7 rfl Cm ?_
                refine Dt 8 rfl Mv ?_
                refine g_split (t := 74) rfl ?_ ?_
                · intro hb1
                  replace hb1 := nrm hb1
                  refine Dx 9 ?_
                  refine Dx 10 ?_
                  refine Dx 11 ?_
                  refine Dx 12 ?_
                  refine Dx 13 ?_
                  refine Dx 14 ?_
                  refine Dx 15 ?_
                  refine Dx 16 ?_
                  refine Dx 17 ?_
                  refine Dx 18 ?_
                  refine Dx 19 ?_
                  refine Dx 20 ?_
                  refine Dt 21 rfl Pt ?_
                  refine Dt 22 rfl Pt ?_
                  refine Dt 23 rfl As ?_
                  refine gh_done (by kernel_rfl) back1 ?_
                  refine Me (()) (trivial)
                · intro hb1
                  replace hb1 := nrm hb1
                  refine Dt 9 rfl Mv ?_
                  refine Dt 10 rfl (Sl 8 12 _ T.sl_37) ?_
                  refine Dt 12 rfl Mv ?_
                  refine Dt 13 rfl (Sl 2 4 _ T.sl_37) ?_
                  refine Dt 15 rfl Mv ?_
                  refine Dt 16 rfl (Ix (j := 4) T.sl_37) ?_
                  refine Dt 17 rfl (Lf T.sc_5) ?_
                  refine Dt 18 rfl (Cv T.u_36 T.us_5) ?_
                  refine Dn 11 ?_
                  refine Do rfl (oC T.fn_62 rfl rfl (nm2 (by omega)) .nil (fun _ le _ => hF.mono le) ?_)
                  rintro v H' ⟨rfl, rfl⟩
                  try simp only [nap, cap]
                  refine gh_next ?_
                  refine Dn 14 ?_
                  refine Do rfl (oC T.fn_62 rfl rfl (nm3 (by omega)) .nil (fun _ le _ => hF.mono le) ?_)
                  rintro v H' ⟨rfl, rfl⟩
                  try simp only [nap, cap]
                  refine gh_next ?_
                  refine Dt 19 rfl Im ?_
                  refine Dt 20 rfl Cm ?_
                  refine Dt 21 rfl Pf ?_
                  refine Dt 22 rfl Pt ?_
                  refine Dt 23 rfl As ?_
                  refine gh_done (by kernel_rfl) back1 ?_
                  refine Me (()) (trivial)
              · intro hb0
                replace hb0 := nrm hb0
                refine Dx 4 ?_
                refine Dx 5 ?_
                refine Dx 6 ?_
                refine Dx 7 ?_
                refine Dx 8 ?_
                refine Dx 9 ?_
                refine Dx 10 ?_
                refine Dx 11 ?_
                refine Dx 12 ?_
                refine Dx 13 ?_
                refine Dx 14 ?_
                refine Dx 15 ?_
                refine Dx 16 ?_
                refine Dx 17 ?_
                refine Dx 18 ?_
                refine Dx 19 ?_
                refine Dx 20 ?_
                refine Dx 21 ?_
                refine Dt 22 rfl Pf ?_
                refine Dt 23 rfl As ?_
                refine gh_done (by kernel_rfl) back1 ?_
                refine Me (()) (trivial)
            rintro u hI
            refine g_ret ?_
            refine Rt [] Try.results59 ?_
            exact ⟨congrArg Value.bool (by rw [Bool.eq_iff_iff]; simp only [badB, Bool.or_eq_true, Bool.and_eq_true, decide_eq_true_eq, Bool.not_eq_true', decide_eq_false_iff_not]; omega), rfl⟩
end Go.Proofs.Ytggmpaggmkfmoaa

