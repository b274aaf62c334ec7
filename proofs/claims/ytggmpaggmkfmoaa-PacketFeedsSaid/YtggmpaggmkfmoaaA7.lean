/- Packets: Read. -/
import Derived.Test.YtggmpaggmkfmoaaA6
set_option maxRecDepth 100000
namespace Go.Proofs.Ytggmpaggmkfmoaa
open Go Go.Eng

def zeroP : Pkt := { reply := false, op := 0, status := 0, opq := 0, token := 0, ex := [], key := [], val := [], large := false }
/-- P22.2 -/
def readP (l : List UInt8) (limit : Int) : Pkt × Nat × Nat :=
  if badB l then (zeroP, 0, 7)
  else if l.length < 24 ∨ l.length < wholeN l then (zeroP, 0, 0)
  else (decP l (decide (max limit 0 < (wholeN l : Int) - frontN l)), wholeN l, 0)

theorem byt_take (l : List UInt8) (n i : Nat) (h : i < n) : byt (l.take n) i = byt l i := by
  simp [byt, List.getElem?_take, h]
theorem cutl_take (l : List UInt8) (n i k : Nat) (h : i + k ≤ n) : ((l.take n).drop i).take k = (l.drop i).take k := by
  rw [List.drop_take, List.take_take, Nat.min_eq_left (by omega)]
theorem n2_take (l : List UInt8) (n i : Nat) (h : i + 2 ≤ n) : n2 (l.take n) i = n2 l i := by unfold n2; rw [cutl_take l n i 2 h]
theorem n4_take (l : List UInt8) (n i : Nat) (h : i + 4 ≤ n) : n4 (l.take n) i = n4 l i := by unfold n4; rw [cutl_take l n i 4 h]
theorem n8_take (l : List UInt8) (n i : Nat) (h : i + 8 ≤ n) : n8 (l.take n) i = n8 l i := by unfold n8; rw [cutl_take l n i 8 h]
theorem frontN_take (l : List UInt8) (n : Nat) (h : 24 ≤ n) : frontN (l.take n) = frontN l := by unfold frontN; rw [byt_take l n 4 (by omega), n2_take l n 2 (by omega)]
theorem wholeN_take (l : List UInt8) (n : Nat) (h : 24 ≤ n) : wholeN (l.take n) = wholeN l := by unfold wholeN; rw [n4_take l n 8 (by omega)]
theorem decP_take (l : List UInt8) (n : Nat) (large : Bool) (h : 24 ≤ n) (hf : frontN l ≤ n) (hw : large = false → wholeN l ≤ n) : decP (l.take n) large = decP l large := by
  have hfr : frontN l = 24 + byt l 4 + n2 l 2 := rfl
  unfold decP
  rw [byt_take l n 0 (by omega), byt_take l n 1 (by omega), byt_take l n 4 (by omega), n2_take l n 6 (by omega), n2_take l n 2 (by omega), n4_take l n 12 (by omega), n8_take l n 16 (by omega), frontN_take l n h, wholeN_take l n h,
    cutl_take l n 24 _ (by omega), cutl_take l n (24 + byt l 4) _ (by omega)]
  cases large with
  | true => rfl
  | false =>
    have := hw rfl
    congr 1
    simp only [Bool.false_eq_true, if_false]
    by_cases hc : frontN l ≤ wholeN l
    · rw [cutl_take l n (frontN l) _ (by omega)]
    · rw [show wholeN l - frontN l = 0 from by omega]; simp
theorem badB_room {l : List UInt8} (h : badB l = false) (hl : 12 ≤ l.length) : frontN l ≤ wholeN l ∧ n4 l 8 ≤ 2147483647 ∧ n2 l 2 ≤ 250 := by
  have hfr : frontN l = 24 + byt l 4 + n2 l 2 := rfl
  have hwh : wholeN l = 24 + n4 l 8 := rfl
  simp only [badB, Bool.or_eq_false_iff, Bool.and_eq_false_iff, decide_eq_false_iff_not] at h
  omega

set_option maxHeartbeats 4000000 in
theorem read_fn (l : List UInt8) (a : Option Addr) (m c : Nat) (limit : Int) (hm : m = l.length) (hc : m ≤ c) (hl : l.length < 4611686018427387904) (h1 : -9223372036854775808 ≤ limit) (h2 : limit ≤ 9223372036854775807) :
    FnS Try.prog 23 [.slice a m c, .int .i64 limit] (fun h => Rdl h a (bcells l)) []
      (fun v H => ∃ ae ce av cv, v = .tuple #[.agg (pktCells (readP l limit).1 ae ce av cv).toArray, .int .i64 ((readP l limit).2.1 : Int), .int .i64 ((readP l limit).2.2 : Int)] ∧
        H = [own ae ce 5 1 (bcells (readP l limit).1.ex), own av cv 5 1 (bcells (readP l limit).1.val)]) := by
  refine fn_body Try.func23 rfl Try.ntmps23 rfl ?_
  intro F hF
  have q2 := n2_lt l 2
  have q4 := n4_lt l 8
  have p4 := byt_lt l 4
  have hfr : frontN l = 24 + byt l 4 + n2 l 2 := rfl
  have hwh : wholeN l = 24 + n4 l 8 := rfl
  refine g_sr ?_
  refine Lp (oA T.zc_39 fun b1 => ?_)
  refine Li As ?_
  refine Li As ?_
  refine g_ne ?_
  refine g_seq ?_
  refine g_sr ?_
  refine Li Mv ?_
  refine Lp (oC T.fn_55 rfl rfl (bad_fn l a m c hm hc hl) .nil (fun _ le _ => hF.mono le) ?_)
  rintro v H' ⟨rfl, rfl⟩
  try simp only [nap, cap]
  refine g_ne ?_
  refine g_cond rfl ?_ ?_
  · intro hbad
    replace hbad := nrm hbad
    have hr : readP l limit = (zeroP, 0, 7) := by unfold readP; rw [hbad]; rfl
    rw [hr]
    refine g_sr ?_
    refine Li (Bd T.zc_39 T.st_39) ?_
    refine Lp (oSW T.ag_39 ?_)
    refine Li As ?_
    refine Li As ?_
    refine g_ne ?_
    refine g_ret ?_
    refine e_then_ret ?_
    refine g_nilrow 5 1 ?_
    refine g_nilrow 5 1 ?_
    refine RtCTT [own none 0 5 1 [], own none 0 5 1 []] T.ag_39 Try.results23 ?_
    exact ⟨none, 0, none, 0, rfl, rfl⟩
  · intro hbad
    replace hbad := nrm hbad
    refine g_skip ?_
    refine e_then ?_
    refine g_seq ?_
    refine g_seq ?_
    refine g_mid (ι := Unit) [10, 11, 12, 13, 14, 15, 16, 17, 18, 19] (fun u => True) (fun u => [(19, .bool (decide (l.length < 24) || decide (l.length < wholeN l)))]) (fun u => [pts b1 39 [.bool false, .int .i64 0, .int .i64 0, .int .u64 0, .int .u64 0, .slice none 0 0, strv [], .slice none 0 0, .bool false]]) ?_ ?_
    · refine g_region ?_
      refine Li Mv ?_
      refine Li (Ln T.sl_37) ?_
      refine Li Cm ?_
      refine Li Mv ?_
      refine g_split (t := 13) rfl ?_ ?_
      · intro hb0
        replace hb0 := nrm hb0
        refine Lx ?_
        refine Lx ?_
        refine Lx ?_
        refine Lx ?_
        refine Lx ?_
        refine Li Pt ?_
        refine g_nil ?_
        refine Me (()) (trivial)
      · intro hb0
        replace hb0 := nrm hb0
        refine Li Mv ?_
        refine Li (Ln T.sl_37) ?_
        refine Li Mv ?_
        refine Lp (oC T.fn_56 rfl rfl (whole_fn l a m c hm hc (by omega)) .nil (fun _ le _ => hF.mono le) ?_)
        rintro v H' ⟨rfl, rfl⟩
        try simp only [nap, cap]
        refine Li Cm ?_
        refine Li Pf ?_
        refine g_nil ?_
        refine Me (()) (trivial)
    rintro u hI
    refine g_cond rfl ?_ ?_
    · intro hsh
      replace hsh := nrm hsh
      have hr : readP l limit = (zeroP, 0, 0) := by unfold readP; rw [hbad, if_neg (by simp), if_pos hsh]
      rw [hr]
      refine g_sr ?_
      refine Li (Bd T.zc_39 T.st_39) ?_
      refine Lp (oSW T.ag_39 ?_)
      refine Li As ?_
      refine Li As ?_
      refine g_ne ?_
      refine g_ret ?_
      refine e_then_ret ?_
      refine g_nilrow 5 1 ?_
      refine g_nilrow 5 1 ?_
      refine RtCTT [own none 0 5 1 [], own none 0 5 1 []] T.ag_39 Try.results23 ?_
      exact ⟨none, 0, none, 0, rfl, rfl⟩
    · intro hsh
      replace hsh := nrm hsh
      obtain ⟨r1, r2, r3⟩ := badB_room hbad (by omega)
      have hr : readP l limit = (decP l (decide (max limit 0 < (wholeN l : Int) - frontN l)), wholeN l, 0) := by unfold readP; rw [hbad, if_neg (by simp), if_neg (by omega)]
      rw [hr]
      refine g_skip ?_
      refine e_then ?_
      refine g_sr ?_
      refine Li Mv ?_
      refine Lp (oC T.fn_56 rfl rfl (whole_fn l a m c hm hc (by omega)) .nil (fun _ le _ => hF.mono le) ?_)
      rintro v H' ⟨rfl, rfl⟩
      try simp only [nap, cap]
      refine Li As ?_
      refine g_ne ?_
      refine g_seq ?_
      refine g_drw T.mix .nil fun F1 le1 hin1 back1 => ?_
      have hF := hF.mono le1
      refine Dt 0 rfl Mv ?_
      refine Dt 1 rfl Mv ?_
      refine Dt 2 rfl Mv ?_
      refine Dt 3 rfl (Sl 0 _ _ T.sl_37) ?_
      refine Dt 4 rfl Mv ?_
      refine Dt 5 rfl Mv ?_
      refine Dt 8 rfl Mv ?_
      refine Dt 9 rfl Ma ?_
      refine Dt 12 rfl Mv ?_
      refine Dn 6 ?_
      refine Do rfl (oC T.fn_58 rfl rfl (front_fn l a m c hm hc (by omega)) .nil (fun _ le _ => hF.mono le) ?_)
      rintro v H' ⟨rfl, rfl⟩
      try simp only [nap, cap]
      refine gh_next ?_
      refine Dt 7 rfl Im ?_
      refine Dt 10 rfl Cm ?_
      have hC : Rdl F1.h (cutA a 0 (wholeN l) (0 * 1)) (bcells (l.take (wholeN l))) := by
        have := cut2 hF 0 (wholeN l) (wholeN l) (by omega)
        simpa using this
      have hCl : wholeN l - 0 = (l.take (wholeN l)).length := by simp; omega
      have hdp : decP (l.take (wholeN l)) (decide (max limit 0 < (wholeN l : Int) - frontN l)) = decP l (decide (max limit 0 < (wholeN l : Int) - frontN l)) := decP_take l _ _ (by omega) (by omega) (fun _ => Nat.le_refl _)
      refine Dn 11 ?_
      refine Do rfl (oC T.fn_57 rfl rfl (parsed_fn (l.take (wholeN l)) _ _ _ (decide (max limit 0 < (wholeN l : Int) - frontN l)) hCl (by omega) (by simp; omega) (by simp; omega) (by rw [frontN_take l _ (by omega)]; simp; omega) (fun _ => by rw [frontN_take l _ (by omega), wholeN_take l _ (by omega)]; simp; omega)) .nil (fun _ le _ => hC.mono le) ?_)
      rintro v H' ⟨ae, ce, av, cv, rfl, rfl⟩
      try simp only [nap, cap]
      rw [hdp]
      clear hdp hr
      generalize decP l (decide (max limit 0 < (wholeN l : Int) - frontN l)) = p
      simp only [pktCells]
      refine gh_next ?_
      refine Dn 13 ?_
      refine Do rfl (oSW T.ag_39 ?_)
      refine gh_next ?_
      refine Dt 14 rfl As ?_
      refine Dt 15 rfl As ?_
      refine gh_done (by kernel_rfl) back1 ?_
      refine e_then ?_
      refine g_ret ?_
      refine RtCTT [own ae ce 5 1 (bcells p.ex), own av cv 5 1 (bcells p.val)] T.ag_39 Try.results23 ?_
      exact ⟨ae, ce, av, cv, rfl, rfl⟩
end Go.Proofs.Ytggmpaggmkfmoaa

