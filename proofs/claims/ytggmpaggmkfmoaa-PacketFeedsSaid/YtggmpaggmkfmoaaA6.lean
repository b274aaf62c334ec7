/- Packets: the packet of a head and what stands behind it. -/
import Derived.Test.YtggmpaggmkfmoaaA5
set_option maxRecDepth 100000
namespace Go.Proofs.Ytggmpaggmkfmoaa
open Go Go.Eng

def n8 (l : List UInt8) (i : Nat) : Nat := num ((l.drop i).take 8)
theorem n8_lt (l : List UInt8) (i : Nat) : n8 l i < 18446744073709551616 := by
  have h := num_lt ((l.drop i).take 8)
  have h2 : ((l.drop i).take 8).length ≤ 8 := List.length_take_le _ _
  have : 256 ^ ((l.drop i).take 8).length ≤ 256 ^ 8 := Nat.pow_le_pow_right (by decide) h2
  unfold n8; omega
theorem told64_at (l : List UInt8) (a : Option Addr) (i m c : Nat) (h2 : i + 8 ≤ l.length) (hm : m ≠ i) :
    FnS Try.prog 81 [.slice (cutA a i m (i * 1)) ((i + 8) - i) c] (fun h => Rdl h a (bcells l)) [] (fun v H => v = .int .u64 (n8 l i : Int) ∧ H = []) := by
  have hlen : (i + 8) - i = ((l.drop i).take 8).length := by simp; omega
  have h := told64 ((l.drop i).take 8) (cutA a i m (i * 1)) ((i + 8) - i) c hlen (by simp; omega)
  intro F w hp hs
  refine (h F w (cut2 hp i m 8 (fun e => absurd e hm)) hs).mono ?_
  rintro e w' ⟨v, H', rfl, ⟨rfl, rfl⟩, st⟩
  refine ⟨_, _, rfl, ⟨?_, rfl⟩, st⟩
  have := n8_lt l i
  rw [Nat.mod_eq_of_lt (show num ((l.drop i).take 8) < 18446744073709551616 from this)]; rfl

def decP (l : List UInt8) (large : Bool) : Pkt :=
  { reply := decide (byt l 0 = 129), op := byt l 1, status := n2 l 6, opq := n4 l 12, token := n8 l 16,
    ex := (l.drop 24).take (byt l 4), key := (l.drop (24 + byt l 4)).take (n2 l 2),
    val := if large then [] else (l.drop (frontN l)).take (wholeN l - frontN l), large := large }

set_option maxHeartbeats 4000000 in
theorem parsed_fn (l : List UInt8) (a : Option Addr) (m c : Nat) (large : Bool) (hm : m = l.length) (hc : m ≤ c) (hl : l.length < 4611686018427387904) (h24 : 24 ≤ l.length) (hf : frontN l ≤ l.length)
    (hw : large = false → frontN l ≤ wholeN l ∧ wholeN l ≤ l.length) :
    FnS Try.prog 57 [.slice a m c, .bool large] (fun h => Rdl h a (bcells l)) []
      (fun v H => ∃ ae ce av cv, v = .agg (pktCells (decP l large) ae ce av cv).toArray ∧ H = [own ae ce 5 1 (bcells (decP l large).ex), own av cv 5 1 (bcells (decP l large).val)]) := by
  refine fn_body Try.func57 rfl Try.ntmps57 rfl ?_
  intro F hF
  have q2 := n2_lt l 2
  have q4 := n4_lt l 8
  have p4 := byt_lt l 4
  have p0 := byt_lt l 0
  have p1 := byt_lt l 1
  have q6 := n2_lt l 6
  have q12 := n4_lt l 12
  have hfr : frontN l = 24 + byt l 4 + n2 l 2 := rfl
  have hwh : wholeN l = 24 + n4 l 8 := rfl
  refine g_sr ?_
  refine Lp (oA T.zc_39 fun b1 => ?_)
  refine g_ne ?_
  refine g_sr ?_
  refine Li Mv ?_
  refine Lp (oC T.fn_58 rfl rfl (front_fn l a m c hm hc (by omega)) .nil (fun _ le _ => hF.mono le) ?_)
  rintro v H' ⟨rfl, rfl⟩
  try simp only [nap, cap]
  refine Li As ?_
  refine g_ne ?_
  refine g_sr ?_
  refine Li Mv ?_
  refine Li (Ix (j := 4) T.sl_37) ?_
  refine Lp (oL T.sc_5 ?_)
  refine Li (Cv T.u_3 T.us_5) ?_
  refine Li Im ?_
  refine Li As ?_
  refine g_ne ?_
  refine g_seq ?_
  refine g_slot (t := 6) (v' := .int .i64 ((24 + byt l 4 : Nat) : Int)) rfl (by refine congrArg (Value.int .i64) ?_; omega) ?_
  refine g_mid (ι := Option Addr × Nat × Nat) [16, 17, 18, 19, 20, 21, 22, 23, 24, 25, 26, 27, 28, 29, 30, 31, 32, 33, 34, 35, 36, 37, 38, 39, 40, 41, 42, 43, 44, 45, 46, 47, 7] (fun (ax, cx, bx) => True) (fun (ax, cx, bx) => [(7, .pointer (some ⟨bx, 0, none⟩))]) (fun (ax, cx, bx) => [own ax cx 5 1 (bcells (decP l large).ex), pts bx 39 [.bool (decide ((byt l 0 : Int) = 129)), .int .i64 (byt l 1 : Int), .int .i64 (n2 l 6 : Int), .int .u64 (n4 l 12 : Int), .int .u64 (n8 l 16 : Int), .slice ax (decP l large).ex.length cx, strv (decP l large).key, .slice none 0 0, .bool large], pts b1 39 [.bool false, .int .i64 0, .int .i64 0, .int .u64 0, .int .u64 0, .slice none 0 0, strv [], .slice none 0 0, .bool false]]) ?_ ?_
  · refine g_drw T.mix .nil fun F1 le1 hin1 back1 => ?_
    have hF := hF.mono le1
    have hX : Rdl F1.h (cutA a 24 (24 + byt l 4) (24 * 1)) (bcells ((l.drop 24).take (byt l 4))) := cut2 hF 24 (24 + byt l 4) (byt l 4) (by omega)
    have hK : Rdl F1.h (cutA a (24 + byt l 4) (frontN l) ((24 + byt l 4) * 1)) (bcells ((l.drop (24 + byt l 4)).take (n2 l 2))) := cut2 hF (24 + byt l 4) (frontN l) (n2 l 2) (by omega)
    have hKl : frontN l - (24 + byt l 4) = ((l.drop (24 + byt l 4)).take (n2 l 2)).length := by simp; omega
    have hXl : 24 + byt l 4 - 24 = ((l.drop 24).take (byt l 4)).length := by simp; omega
    refine Dt 0 rfl Mv ?_
    refine Dt 1 rfl (Ix (j := 0) T.sl_37) ?_
    refine Dt 2 rfl (Lf T.sc_5) ?_
    refine Dt 3 rfl Cm ?_
    refine Dt 4 rfl Mv ?_
    refine Dt 5 rfl (Ix (j := 1) T.sl_37) ?_
    refine Dt 6 rfl (Lf T.sc_5) ?_
    refine Dt 7 rfl (Cv T.u_3 T.us_5) ?_
    refine Dt 8 rfl Mv ?_
    refine Dt 9 rfl (Sl 6 8 8 T.sl_37) ?_
    refine Dt 12 rfl Mv ?_
    refine Dt 13 rfl (Sl 12 16 16 T.sl_37) ?_
    refine Dt 16 rfl Mv ?_
    refine Dt 17 rfl (Sl 16 24 24 T.sl_37) ?_
    refine Dt 19 rfl Mv ?_
    refine Dt 20 rfl Mv ?_
    refine Dt 21 rfl Mv ?_
    refine Dt 22 rfl (Sl 24 _ _ T.sl_37) ?_
    refine Dt 24 rfl Mv ?_
    refine Dt 25 rfl Mv ?_
    refine Dt 26 rfl Mv ?_
    refine Dt 27 rfl Mv ?_
    refine Dt 28 rfl (Sl _ _ _ T.sl_37) ?_
    refine Dt 29 rfl (Ts T.sl_37 T.u_5 T.u_9) ?_
    refine Dt 30 rfl Mv ?_
    refine D2 10 32 ?_ ?_
    · refine Do rfl (oC T.fn_79 rfl rfl (told16_at l a 6 8 (8 - 6) (by omega) (by omega)) .nil (fun _ le _ => hF.mono le) ?_)
      rintro v H' ⟨rfl, rfl⟩
      try simp only [nap, cap]
      refine gh_next ?_
      refine Dt 11 rfl (Cv T.u_3 T.us_83) ?_
      refine D2 14 32 ?_ ?_
      · refine Do rfl (oC T.fn_80 rfl rfl (told32_at l a 12 16 (16 - 12) (by omega) (by omega)) .nil (fun _ le _ => hF.mono le) ?_)
        rintro v H' ⟨rfl, rfl⟩
        try simp only [nap, cap]
        refine gh_next ?_
        refine Dt 15 rfl (Cv T.u_36 T.us_85) ?_
        refine D2 18 32 ?_ ?_
        · refine Do rfl (oC T.fn_81 rfl rfl (told64_at l a 16 24 (24 - 16) (by omega) (by omega)) .nil (fun _ le _ => hF.mono le) ?_)
          rintro v H' ⟨rfl, rfl⟩
          try simp only [nap, cap]
          refine gh_next ?_
          refine D2 23 32 ?_ ?_
          · refine Do rfl (oC T.fn_82 rfl rfl (copied_fn ((l.drop 24).take (byt l 4)) _ _ _ hXl (by simp; omega) (by simp; omega)) .nil (fun _ le _ => hX.mono le) ?_)
            rintro v H' ⟨ax, cx, rfl, rfl⟩
            try simp only [nap, cap]
            refine gh_next ?_
            refine Dt 31 rfl (Bd T.zc_39 T.st_39) ?_
            refine Dn 32 ?_
            refine Do rfl (oA T.zc_39 fun b2 => ?_)
            refine gh_next ?_
            refine Dn 33 ?_
            refine Do rfl (oSW T.ag_39 ?_)
            refine gh_next ?_
            refine gh_done (by kernel_rfl) back1 ?_
            refine Me ((ax, cx, b2)) (trivial)
          · refine Do rfl (oA T.zc_39 fun b3 => ?_)
            refine gh_next ?_
            refine Dn 23 ?_
            refine Do rfl (oC T.fn_82 rfl rfl (copied_fn ((l.drop 24).take (byt l 4)) _ _ _ hXl (by simp; omega) (by simp; omega)) .nil (fun _ le _ => hX.mono le) ?_)
            rintro v H' ⟨ax, cx, rfl, rfl⟩
            try simp only [nap, cap]
            refine gh_next ?_
            refine Dt 31 rfl (Bd T.zc_39 T.st_39) ?_
            refine Dn 33 ?_
            refine Do rfl (oSW T.ag_39 ?_)
            refine gh_next ?_
            refine gh_done (by kernel_rfl) back1 ?_
            refine Me ((ax, cx, b3)) (trivial)
        · refine Do rfl (oA T.zc_39 fun b4 => ?_)
          refine gh_next ?_
          refine Dn 18 ?_
          refine Do rfl (oC T.fn_81 rfl rfl (told64_at l a 16 24 (24 - 16) (by omega) (by omega)) .nil (fun _ le _ => hF.mono le) ?_)
          rintro v H' ⟨rfl, rfl⟩
          try simp only [nap, cap]
          refine gh_next ?_
          refine Dn 23 ?_
          refine Do rfl (oC T.fn_82 rfl rfl (copied_fn ((l.drop 24).take (byt l 4)) _ _ _ hXl (by simp; omega) (by simp; omega)) .nil (fun _ le _ => hX.mono le) ?_)
          rintro v H' ⟨ax, cx, rfl, rfl⟩
          try simp only [nap, cap]
          refine gh_next ?_
          refine Dt 31 rfl (Bd T.zc_39 T.st_39) ?_
          refine Dn 33 ?_
          refine Do rfl (oSW T.ag_39 ?_)
          refine gh_next ?_
          refine gh_done (by kernel_rfl) back1 ?_
          refine Me ((ax, cx, b4)) (trivial)
      · refine Do rfl (oA T.zc_39 fun b5 => ?_)
        refine gh_next ?_
        refine Dn 14 ?_
        refine Do rfl (oC T.fn_80 rfl rfl (told32_at l a 12 16 (16 - 12) (by omega) (by omega)) .nil (fun _ le _ => hF.mono le) ?_)
        rintro v H' ⟨rfl, rfl⟩
        try simp only [nap, cap]
        refine gh_next ?_
        refine Dt 15 rfl (Cv T.u_36 T.us_85) ?_
        refine Dn 18 ?_
        refine Do rfl (oC T.fn_81 rfl rfl (told64_at l a 16 24 (24 - 16) (by omega) (by omega)) .nil (fun _ le _ => hF.mono le) ?_)
        rintro v H' ⟨rfl, rfl⟩
        try simp only [nap, cap]
        refine gh_next ?_
        refine Dn 23 ?_
        refine Do rfl (oC T.fn_82 rfl rfl (copied_fn ((l.drop 24).take (byt l 4)) _ _ _ hXl (by simp; omega) (by simp; omega)) .nil (fun _ le _ => hX.mono le) ?_)
        rintro v H' ⟨ax, cx, rfl, rfl⟩
        try simp only [nap, cap]
        refine gh_next ?_
        refine Dt 31 rfl (Bd T.zc_39 T.st_39) ?_
        refine Dn 33 ?_
        refine Do rfl (oSW T.ag_39 ?_)
        refine gh_next ?_
        refine gh_done (by kernel_rfl) back1 ?_
        refine Me ((ax, cx, b5)) (trivial)
    · refine Do rfl (oA T.zc_39 fun b6 => ?_)
      refine gh_next ?_
      refine Dn 10 ?_
      refine Do rfl (oC T.fn_79 rfl rfl (told16_at l a 6 8 (8 - 6) (by omega) (by omega)) .nil (fun _ le _ => hF.mono le) ?_)
      rintro v H' ⟨rfl, rfl⟩
      try simp only [nap, cap]
      refine gh_next ?_
      refine Dt 11 rfl (Cv T.u_3 T.us_83) ?_
      refine Dn 14 ?_
      refine Do rfl (oC T.fn_80 rfl rfl (told32_at l a 12 16 (16 - 12) (by omega) (by omega)) .nil (fun _ le _ => hF.mono le) ?_)
      rintro v H' ⟨rfl, rfl⟩
      try simp only [nap, cap]
      refine gh_next ?_
      refine Dt 15 rfl (Cv T.u_36 T.us_85) ?_
      refine Dn 18 ?_
      refine Do rfl (oC T.fn_81 rfl rfl (told64_at l a 16 24 (24 - 16) (by omega) (by omega)) .nil (fun _ le _ => hF.mono le) ?_)
      rintro v H' ⟨rfl, rfl⟩
      try simp only [nap, cap]
      refine gh_next ?_
      refine Dn 23 ?_
      refine Do rfl (oC T.fn_82 rfl rfl (copied_fn ((l.drop 24).take (byt l 4)) _ _ _ hXl (by simp; omega) (by simp; omega)) .nil (fun _ le _ => hX.mono le) ?_)
      rintro v H' ⟨ax, cx, rfl, rfl⟩
      try simp only [nap, cap]
      refine gh_next ?_
      refine Dt 31 rfl (Bd T.zc_39 T.st_39) ?_
      refine Dn 33 ?_
      refine Do rfl (oSW T.ag_39 ?_)
      refine gh_next ?_
      refine gh_done (by kernel_rfl) back1 ?_
      refine Me ((ax, cx, b6)) (trivial)
  rintro ⟨ax, cx, bx⟩ hI
  try dsimp only at hI ⊢
  refine g_seq ?_
  refine g_sr ?_
  refine Li Mv ?_
  refine Lp (oC T.fn_56 rfl rfl (whole_fn l a m c hm hc (by omega)) .nil (fun _ le _ => hF.mono le) ?_)
  rintro v H' ⟨rfl, rfl⟩
  try simp only [nap, cap]
  refine Li As ?_
  refine g_ne ?_
  refine g_sr ?_
  refine Li Mv ?_
  refine Li Nt ?_
  refine g_ne ?_
  refine g_cond rfl ?_ ?_
  · intro hlg
    replace hlg := nrm hlg
    subst hlg
    obtain ⟨hw1, hw2⟩ := hw rfl
    have hV : Rdl F.h (cutA a (frontN l) (wholeN l) (frontN l * 1)) (bcells ((l.drop (frontN l)).take (wholeN l - frontN l))) := cut2 hF (frontN l) (wholeN l) (wholeN l - frontN l) (by omega)
    have hVl : wholeN l - frontN l = ((l.drop (frontN l)).take (wholeN l - frontN l)).length := by simp; omega
    refine g_region ?_
    refine Li Mv ?_
    refine Li Mv ?_
    refine Li Mv ?_
    refine Li Mv ?_
    refine Li (Sl _ _ _ T.sl_37) ?_
    refine Lp (oC T.fn_82 rfl rfl (copied_fn ((l.drop (frontN l)).take (wholeN l - frontN l)) _ _ _ hVl (by simp; omega) (by simp; omega)) .nil (fun _ le _ => hV.mono le) ?_)
    rintro v H' ⟨av, cv, rfl, rfl⟩
    try simp only [nap, cap]
    refine Li (Fa T.fld_39_7) ?_
    refine Lp (oS T.sc_37 ?_)
    refine g_ne ?_
    refine g_sr ?_
    refine Lp (oLN T.ag_39 ?_)
    refine Lp (oSW T.ag_39 ?_)
    refine g_ne ?_
    refine g_ret ?_
    refine RtC [own ax cx 5 1 (bcells (decP l false).ex), own av cv 5 1 (bcells (decP l false).val)] T.ag_39 Try.results57 ?_
    refine ⟨ax, cx, av, cv, ?_, rfl⟩
    have h129 : decide ((byt l 0 : Int) = 129) = decide (byt l 0 = 129) := by rw [Bool.eq_iff_iff]; simp; omega
    simp only [pktCells, h129]
    rfl
  · intro hlg
    replace hlg := nrm hlg
    subst hlg
    refine g_skip ?_
    refine e_then ?_
    refine g_sr ?_
    refine Lp (oLN T.ag_39 ?_)
    refine Lp (oSW T.ag_39 ?_)
    refine g_ne ?_
    refine g_ret ?_
    refine g_nilrow 5 1 ?_
    refine RtC [own ax cx 5 1 (bcells (decP l true).ex), own none 0 5 1 []] T.ag_39 Try.results57 ?_
    refine ⟨ax, cx, none, 0, ?_, rfl⟩
    have h129 : decide ((byt l 0 : Int) = 129) = decide (byt l 0 = 129) := by rw [Bool.eq_iff_iff]; simp; omega
    simp only [pktCells, h129]
    rfl
end Go.Proofs.Ytggmpaggmkfmoaa

