/- Packets, the reference: Read. -/
import Derived.Test.YtggmpaggmkfmoaaD11
set_option maxRecDepth 100000
namespace Go.Proofs.Ytggmpaggmkfmoaa
open Go Go.Eng

set_option maxHeartbeats 4000000 in
theorem rread_fn (l : List UInt8) (a : Option Addr) (m c : Nat) (limit : Int) (hm : m = l.length) (hc : m ≤ c) (hl : l.length ≤ 140737488355328) (h1 : -9223372036854775808 ≤ limit) (h2 : limit ≤ 9223372036854775807) :
    FnS Try.prog 24 [.slice a m c, .int .i64 limit] (fun h => Rdl h a (bcells l)) []
      (fun v H => ∃ ae ce av cv, v = .tuple #[.agg (pktCells (readP l limit).1 ae ce av cv).toArray, .int .i64 ((readP l limit).2.1 : Int), .int .i64 ((readP l limit).2.2 : Int)] ∧
        H = [own ae ce 5 1 (bcells (readP l limit).1.ex), own av cv 5 1 (bcells (readP l limit).1.val)]) := by
  subst hm
  refine fn_body Try.func24 rfl Try.ntmps24 rfl ?_
  intro F hF
  have q2 := n2_lt l 2
  have q4 := n4_lt l 8
  have p4 := byt_lt l 4
  have p0 := byt_lt l 0
  have p1 := byt_lt l 1
  have q12 := n4_lt l 12
  have hfr : frontN l = 24 + byt l 4 + n2 l 2 := rfl
  have hwh : wholeN l = 24 + n4 l 8 := rfl
  refine g_sr ?_
  refine Lp (oA T.zc_39 fun b1 => ?_)
  refine Li As ?_
  refine Li As ?_
  refine g_ne ?_
  refine g_seq ?_
  refine g_sr ?_
  refine Li Mv ?_
  refine Li Cm ?_
  refine g_ne ?_
  refine g_mid (ι := Unit) [1] (fun u => True) (fun u => [(1, .int .i64 (max limit 0))]) (fun u => [pts b1 39 [.bool false, .int .i64 0, .int .i64 0, .int .u64 0, .int .u64 0, .slice none 0 0, strv [], .slice none 0 0, .bool false]]) ?_ ?_
  · refine g_cond rfl ?_ ?_
    · intro h0
      replace h0 := nrm h0
      refine g_region ?_
      refine Li As ?_
      refine g_nil ?_
      refine g_slot (t := 1) (v' := .int .i64 (max limit 0)) rfl (by refine congrArg (Value.int .i64) ?_; omega) ?_
      refine Me (()) (trivial)
    · intro h0
      replace h0 := nrm h0
      refine g_skip ?_
      refine g_slot (t := 1) (v' := .int .i64 (max limit 0)) rfl (by refine congrArg (Value.int .i64) ?_; omega) ?_
      refine Me (()) (trivial)
  rintro u hI
  refine g_seq ?_
  refine g_sr ?_
  refine Li Mv ?_
  refine Lp (oC T.fn_59 rfl rfl (refused_fn l a _ c rfl hc (by omega)) .nil (fun _ le _ => hF.mono le) ?_)
  rintro v H' ⟨rfl, rfl⟩
  try simp only [nap, cap]
  refine g_ne ?_
  refine g_cond rfl ?_ ?_
  · intro hbad
    replace hbad := nrm hbad
    have hr : readP l limit = (zeroP, 0, 7) := by unfold readP; rw [hbad]; rfl
    rw [hr]
    refine g_sr ?_
    refine Li (Bd T.zc_39 T.st_39) ?_
    refine Lp (oSW T.ag_39 ?_)
    refine Li As ?_
    refine Li As ?_
    refine g_ne ?_
    refine g_ret ?_
    refine e_then_ret ?_
    refine g_nilrow 5 1 ?_
    refine g_nilrow 5 1 ?_
    refine RtCTT [own none 0 5 1 [], own none 0 5 1 []] T.ag_39 Try.results24 ?_
    exact ⟨none, 0, none, 0, rfl, rfl⟩
  · intro hbad
    replace hbad := nrm hbad
    refine g_skip ?_
    refine e_then ?_
    refine g_seq ?_
    refine g_seq ?_
    refine g_mid (ι := Unit) [16, 17, 18, 19, 20, 21, 22, 23, 24, 25] (fun u => True) (fun u => [(25, .bool (decide (l.length < 24) || decide (l.length < wholeN l)))]) (fun u => [pts b1 39 [.bool false, .int .i64 0, .int .i64 0, .int .u64 0, .int .u64 0, .slice none 0 0, strv [], .slice none 0 0, .bool false]]) ?_ ?_
    · have wh := fun (h : 12 ≤ l.length) => rwhole_fn l a _ c rfl hc h
      refine g_region ?_
      refine Li Mv ?_
      refine Li (Ln T.sl_37) ?_
      refine Li Cm ?_
      refine Li Mv ?_
      refine g_split (t := 19) rfl ?_ ?_
      · intro hb0
        replace hb0 := nrm hb0
        refine Lx ?_
        refine Lx ?_
        refine Lx ?_
        refine Lx ?_
        refine Lx ?_
        refine Li Pt ?_
        refine g_nil ?_
        refine Me (()) (trivial)
      · intro hb0
        replace hb0 := nrm hb0
        refine Li Mv ?_
        refine Li (Ln T.sl_37) ?_
        refine Li Mv ?_
        refine Lp (oC T.fn_60 rfl rfl (wh (by omega)) .nil (fun _ le _ => hF.mono le) ?_)
        rintro v H' ⟨rfl, rfl⟩
        try simp only [nap, cap]
        refine Li Cm ?_
        refine Li Pf ?_
        refine g_nil ?_
        refine Me (()) (trivial)
    rintro u hI
    refine g_cond rfl ?_ ?_
    · intro hsh
      replace hsh := nrm hsh
      have hr : readP l limit = (zeroP, 0, 0) := by unfold readP; rw [hbad, if_neg (by simp), if_pos hsh]
      rw [hr]
      refine g_sr ?_
      refine Li (Bd T.zc_39 T.st_39) ?_
      refine Lp (oSW T.ag_39 ?_)
      refine Li As ?_
      refine Li As ?_
      refine g_ne ?_
      refine g_ret ?_
      refine e_then_ret ?_
      refine g_nilrow 5 1 ?_
      refine g_nilrow 5 1 ?_
      refine RtCTT [own none 0 5 1 [], own none 0 5 1 []] T.ag_39 Try.results24 ?_
      exact ⟨none, 0, none, 0, rfl, rfl⟩
    · intro hsh
      replace hsh := nrm hsh
      obtain ⟨r1, r2, r3⟩ := badB_room hbad (by omega)
      have hr : readP l limit = (decP l (decide (max limit 0 < (wholeN l : Int) - frontN l)), wholeN l, 0) := by unfold readP; rw [hbad, if_neg (by simp), if_neg (by omega)]
      rw [hr]
      clear hr
      have a0 : a.isSome = true := hF.some (by simp; omega)
      refine g_skip ?_
      refine e_then ?_
      refine g_sr ?_
      refine Li Mv ?_
      refine Li (Ix (j := 4) T.sl_37) ?_
      refine Lp (oL T.sc_5 ?_)
      refine Li (Cv T.u_3 T.us_5) ?_
      refine Li Im ?_
      refine Li As ?_
      refine g_ne ?_
      refine g_sr ?_
      refine Li Mv ?_
      refine g_slot (t := 7) (v' := .int .i64 ((24 + byt l 4 : Nat) : Int)) rfl (by refine congrArg (Value.int .i64) ?_; omega) ?_
      refine Lp (oC T.fn_61 rfl rfl (rfront_fn l a _ c rfl hc (by omega)) .nil (fun _ le _ => hF.mono le) ?_)
      rintro v H' ⟨rfl, rfl⟩
      try simp only [nap, cap]
      refine Li As ?_
      refine g_ne ?_
      refine g_sr ?_
      refine Li Mv ?_
      refine Lp (oC T.fn_60 rfl rfl (rwhole_fn l a _ c rfl hc (by omega)) .nil (fun _ le _ => hF.mono le) ?_)
      rintro v H' ⟨rfl, rfl⟩
      try simp only [nap, cap]
      refine Li As ?_
      refine g_ne ?_
      refine g_seq ?_
      refine g_mid (ι := Nat) [36, 37, 38, 39, 40, 41, 42, 43, 44, 45, 46, 47, 48, 49, 50, 51, 52, 53, 54, 10] (fun bx => True) (fun bx => [(10, .pointer (some ⟨bx, 0, none⟩))]) (fun bx => [pts bx 39 [.bool (decide ((byt l 0 : Int) = 129)), .int .i64 (byt l 1 : Int), .int .i64 (n2 l 6 : Int), .int .u64 (n4 l 12 : Int), .int .u64 (n8 l 16 : Int), .slice none 0 0, strv [], .slice none 0 0, .bool false], pts b1 39 [.bool false, .int .i64 0, .int .i64 0, .int .u64 0, .int .u64 0, .slice none 0 0, strv [], .slice none 0 0, .bool false]]) ?_ ?_
      · refine g_drw T.mix .nil fun F1 le1 hin1 back1 => ?_
        have hF := hF.mono le1
        have q6 := n2_lt l 6
        have nm1 := rn2 l a 6 c (c - 6) (by omega) (by omega)
        have nm2 := rn4 l a 12 c (c - 12) (by omega) (by omega)
        have nm3 := rn8 l a 16 c (c - 16) (by omega) (by omega)
        refine Dt 0 rfl Mv ?_
        refine Dt 1 rfl (Ix (j := 0) T.sl_37) ?_
        refine Dt 2 rfl (Lf T.sc_5) ?_
        refine Dt 3 rfl Cm ?_
        refine Dt 4 rfl Mv ?_
        refine Dt 5 rfl (Ix (j := 1) T.sl_37) ?_
        refine Dt 6 rfl (Lf T.sc_5) ?_
        refine Dt 7 rfl (Cv T.u_3 T.us_5) ?_
        refine Dt 8 rfl Mv ?_
        refine Dt 9 rfl (Sl 6 8 _ T.sl_37) ?_
        refine Dt 12 rfl Mv ?_
        refine Dt 13 rfl (Sl 12 16 _ T.sl_37) ?_
        refine Dt 15 rfl Mv ?_
        refine Dt 16 rfl (Sl 16 24 _ T.sl_37) ?_
        refine D2 10 19 ?_ ?_
        · refine Do rfl (oC T.fn_62 rfl rfl (nm1) .nil (fun _ le _ => hF.mono le) ?_)
          rintro v H' ⟨rfl, rfl⟩
          try simp only [nap, cap]
          refine gh_next ?_
          refine Dt 11 rfl (Cv T.u_3 T.us_36) ?_
          refine D2 14 19 ?_ ?_
          · refine Do rfl (oC T.fn_62 rfl rfl (nm2) .nil (fun _ le _ => hF.mono le) ?_)
            rintro v H' ⟨rfl, rfl⟩
            try simp only [nap, cap]
            refine gh_next ?_
            refine D2 17 19 ?_ ?_
            · refine Do rfl (oC T.fn_62 rfl rfl (nm3) .nil (fun _ le _ => hF.mono le) ?_)
              rintro v H' ⟨rfl, rfl⟩
              try simp only [nap, cap]
              refine gh_next ?_
              refine Dt 18 rfl (Bd T.zc_39 T.st_39) ?_
              refine Dn 19 ?_
              refine Do rfl (oA T.zc_39 fun b2 => ?_)
              refine gh_next ?_
              refine Dn 20 ?_
              refine Do rfl (oSW T.ag_39 ?_)
              refine gh_next ?_
              refine gh_done (by kernel_rfl) back1 ?_
              refine Me (b2) (trivial)
            · refine Do rfl (oA T.zc_39 fun b3 => ?_)
              refine gh_next ?_
              refine Dn 17 ?_
              refine Do rfl (oC T.fn_62 rfl rfl (nm3) .nil (fun _ le _ => hF.mono le) ?_)
              rintro v H' ⟨rfl, rfl⟩
              try simp only [nap, cap]
              refine gh_next ?_
              refine Dt 18 rfl (Bd T.zc_39 T.st_39) ?_
              refine Dn 20 ?_
              refine Do rfl (oSW T.ag_39 ?_)
              refine gh_next ?_
              refine gh_done (by kernel_rfl) back1 ?_
              refine Me (b3) (trivial)
          · refine Do rfl (oA T.zc_39 fun b4 => ?_)
            refine gh_next ?_
            refine Dn 14 ?_
            refine Do rfl (oC T.fn_62 rfl rfl (nm2) .nil (fun _ le _ => hF.mono le) ?_)
            rintro v H' ⟨rfl, rfl⟩
            try simp only [nap, cap]
            refine gh_next ?_
            refine Dn 17 ?_
            refine Do rfl (oC T.fn_62 rfl rfl (nm3) .nil (fun _ le _ => hF.mono le) ?_)
            rintro v H' ⟨rfl, rfl⟩
            try simp only [nap, cap]
            refine gh_next ?_
            refine Dt 18 rfl (Bd T.zc_39 T.st_39) ?_
            refine Dn 20 ?_
            refine Do rfl (oSW T.ag_39 ?_)
            refine gh_next ?_
            refine gh_done (by kernel_rfl) back1 ?_
            refine Me (b4) (trivial)
        · refine Do rfl (oA T.zc_39 fun b5 => ?_)
          refine gh_next ?_
          refine Dn 10 ?_
          refine Do rfl (oC T.fn_62 rfl rfl (nm1) .nil (fun _ le _ => hF.mono le) ?_)
          rintro v H' ⟨rfl, rfl⟩
          try simp only [nap, cap]
          refine gh_next ?_
          refine Dt 11 rfl (Cv T.u_3 T.us_36) ?_
          refine Dn 14 ?_
          refine Do rfl (oC T.fn_62 rfl rfl (nm2) .nil (fun _ le _ => hF.mono le) ?_)
          rintro v H' ⟨rfl, rfl⟩
          try simp only [nap, cap]
          refine gh_next ?_
          refine Dn 17 ?_
          refine Do rfl (oC T.fn_62 rfl rfl (nm3) .nil (fun _ le _ => hF.mono le) ?_)
          rintro v H' ⟨rfl, rfl⟩
          try simp only [nap, cap]
          refine gh_next ?_
          refine Dt 18 rfl (Bd T.zc_39 T.st_39) ?_
          refine Dn 20 ?_
          refine Do rfl (oSW T.ag_39 ?_)
          refine gh_next ?_
          refine gh_done (by kernel_rfl) back1 ?_
          refine Me (b5) (trivial)
      rintro bx hI
      have hX : Rdl F.h (cutA a 24 c (24 * 1)) (bcells ((l.drop 24).take (byt l 4))) := cut2 hF 24 c (byt l 4) (by omega)
      have hXl : 24 + byt l 4 - 24 = ((l.drop 24).take (byt l 4)).length := by simp; omega
      have hK : Rdl F.h (cutA a (24 + byt l 4) c ((24 + byt l 4) * 1)) (bcells ((l.drop (24 + byt l 4)).take (n2 l 2))) := cut2 hF (24 + byt l 4) c (n2 l 2) (by omega)
      have hKl : frontN l - (24 + byt l 4) = ((l.drop (24 + byt l 4)).take (n2 l 2)).length := by simp; omega
      refine g_sr ?_
      refine Li Mv ?_
      refine Li Mv ?_
      refine Li (Sl 24 _ _ T.sl_37) ?_
      refine Lp (oC T.fn_63 rfl rfl (rcopied_fn ((l.drop 24).take (byt l 4)) _ _ _ hXl (by simp; omega)) .nil (fun _ le _ => hX.mono le) ?_)
      rintro v H' ⟨ax, cx, rfl, rfl⟩
      try simp only [nap, cap]
      refine Li (Fa T.fld_39_5) ?_
      refine Lp (oS T.sc_37 ?_)
      refine g_ne ?_
      refine g_sr ?_
      refine Li Mv ?_
      refine Li Mv ?_
      refine Li Mv ?_
      refine Li (Sl _ _ _ T.sl_37) ?_
      refine Li (Ts T.sl_37 T.u_5 T.u_9) ?_
      refine Li (Fa T.fld_39_6) ?_
      refine Lp (oS T.sc_9 ?_)
      refine g_ne ?_
      refine g_seq ?_
      refine g_sr ?_
      refine Li Mv ?_
      refine Li Mv ?_
      refine Li Im ?_
      refine Li Mv ?_
      refine Li Cm ?_
      refine g_ne ?_
      refine g_cond rfl ?_ ?_
      · intro hlg
        replace hlg := nrm hlg
        have hd : decide (max limit 0 < (wholeN l : Int) - frontN l) = true := decide_eq_true (by omega)
        rw [hd]
        refine g_region ?_
        refine Li (Fa T.fld_39_8) ?_
        refine Lp (oS T.sc_4 ?_)
        refine g_ne ?_
        refine g_sr ?_
        refine Lp (oLN T.ag_39 ?_)
        refine Li Mv ?_
        refine Lp (oSW T.ag_39 ?_)
        refine Li As ?_
        refine Li As ?_
        refine g_ne ?_
        refine g_ret ?_
        refine g_nilrow 5 1 ?_
        refine RtCTT [own ax cx 5 1 (bcells (decP l true).ex), own none 0 5 1 []] T.ag_39 Try.results24 ?_
        refine ⟨ax, cx, none, 0, ?_, rfl⟩
        have h129 : decide ((byt l 0 : Int) = 129) = decide (byt l 0 = 129) := by rw [Bool.eq_iff_iff]; simp; omega
        simp only [pktCells, h129]
        rfl
      · intro hlg
        replace hlg := nrm hlg
        have hd : decide (max limit 0 < (wholeN l : Int) - frontN l) = false := decide_eq_false (by omega)
        rw [hd]
        have hV : Rdl F.h (cutA a (frontN l) c (frontN l * 1)) (bcells ((l.drop (frontN l)).take (wholeN l - frontN l))) := cut2 hF (frontN l) c (wholeN l - frontN l) (by omega)
        have hVl : wholeN l - frontN l = ((l.drop (frontN l)).take (wholeN l - frontN l)).length := by simp; omega
        refine g_region ?_
        refine Li Mv ?_
        refine Li Mv ?_
        refine Li Mv ?_
        refine Li (Sl _ _ _ T.sl_37) ?_
        refine Lp (oC T.fn_63 rfl rfl (rcopied_fn ((l.drop (frontN l)).take (wholeN l - frontN l)) _ _ _ hVl (by simp; omega)) .nil (fun _ le _ => hV.mono le) ?_)
        rintro v H' ⟨av, cv, rfl, rfl⟩
        try simp only [nap, cap]
        refine Li (Fa T.fld_39_7) ?_
        refine Lp (oS T.sc_37 ?_)
        refine g_ne ?_
        refine g_sr ?_
        refine Lp (oLN T.ag_39 ?_)
        refine Li Mv ?_
        refine Lp (oSW T.ag_39 ?_)
        refine Li As ?_
        refine Li As ?_
        refine g_ne ?_
        refine g_ret ?_
        refine RtCTT [own ax cx 5 1 (bcells (decP l false).ex), own av cv 5 1 (bcells (decP l false).val)] T.ag_39 Try.results24 ?_
        refine ⟨ax, cx, av, cv, ?_, rfl⟩
        have h129 : decide ((byt l 0 : Int) = 129) = decide (byt l 0 = 129) := by rw [Bool.eq_iff_iff]; simp; omega
        simp only [pktCells, h129]
        rfl
end Go.Proofs.Ytggmpaggmkfmoaa

