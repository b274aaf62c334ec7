/- Packets: a Feeder tells what Read tells. -/
import Derived.Test.YtggmpaggmkfmoaaA18
import Derived.Test.YtggmpaggmkfmoaaA13
set_option maxRecDepth 100000
namespace Go.Proofs.Ytggmpaggmkfmoaa
open Go Go.Eng

theorem readP_nat (l : List UInt8) (limit : Int) : readP l (limit.toNat : Int) = readP l limit := by
  unfold readP
  rw [show max (limit.toNat : Int) 0 = max limit 0 from by omega]
def kP : Pkt := { zeroP with key := [107] }
theorem kP_ok : okP kP = true := by decide
theorem kP_len : (enc kP).length = 25 := by decide
theorem kP_bytes : FnS Try.prog 15 [.agg #[.bool false, .int .i64 0, .int .i64 0, .int .u64 0, .int .u64 0, .slice none 0 0, strv [107], .slice none 0 0, .bool false]] (fun _ => True) []
    (fun v H => ∃ a c, v = .tuple #[.slice a 25 c, .int .i64 0] ∧ H = [own a c 5 1 (bcells (enc kP))]) :=
  (bytes_fn kP none 0 none 0 (by decide) (by decide)).imp (fun _ _ => ⟨Rdl.nil, Rdl.nil⟩) fun v H r => by
    rcases r with ⟨_, a, c, rfl, rfl⟩ | ⟨q, _⟩
    · rw [kP_len]; exact ⟨a, c, rfl, rfl⟩
    · rw [kP_ok] at q; cases q

structure WhI (limit : Int) (raw : List UInt8) (i : Nat) (rest : List UInt8) (o : List (Pkt × Ad)) : Prop where
  cnt : i * 24 + rest.length ≤ raw.length
  len : o.length = i
  pk : (PS limit.toNat raw).1 = o.map Prod.fst ++ (PS limit.toNat rest).1
  st : (PS limit.toNat raw).2 = (PS limit.toNat rest).2

set_option maxHeartbeats 8000000 in
theorem whole9_fn (raw : List UInt8) (ar : Option Addr) (cr : Nat) (one : List Int) (a1 : Option Addr) (c1 : Nat) (two : List Int) (a2 : Option Addr) (c2 : Nat) (limit : Int) (hr : raw.length ≤ cr)
    (q1 : -9223372036854775808 ≤ limit) (q2 : limit ≤ 9223372036854775807) :
    FnS Try.prog 9 [.agg (rowCells raw ar cr one a1 c1 two a2 c2 limit).toArray] (fun h => Rdl h ar (bcells raw) ∧ Rdl h a1 (icells one) ∧ Rdl h a2 (icells two)) [] (fun v H => v = .bool true ∧ H = []) := by
  dsimp only [rowCells]

  refine fn_body Try.func9 rfl Try.ntmps9 rfl ?_
  rintro F ⟨hR, hO, hT⟩
  have hlim : limit.toNat ≤ 9223372036854775807 := by omega
  have hcl := cap12_len raw
  refine g_sr ?_
  refine Lp (oB fun b1 => ?_)
  refine Li As ?_
  refine g_ne ?_
  refine g_sr ?_
  refine Li (Fa T.fld_75_0) ?_
  refine Lp (oL T.sc_37 ?_)
  refine Lp (oC T.fn_22 rfl rfl (bytes22_fn raw ar raw.length cr rfl hr) .nil (fun _ _ _ => trivial) ?_)
  rintro v H' ⟨ax, cx, rfl, hcx, hrx, rfl⟩
  try simp only [nap, cap]
  have hX := hrx _ hR
  refine Li As ?_
  refine g_ne ?_
  refine g_sr ?_
  refine Li (Fa T.fld_75_3) ?_
  refine Lp (oL T.sc_3 ?_)
  refine Lp (oC T.fn_27 rfl rfl (newF limit q1 q2) .nil (fun _ _ _ => trivial) ?_)
  rintro v H' ⟨bf, rfl, rfl⟩
  try simp only [nap, cap]
  refine Li As ?_
  refine g_ne ?_
  refine g_seq ?_
  refine g_sr ?_
  refine Li Mv ?_
  refine Li (Pn T.u_58) ?_
  refine g_ne ?_
  refine g_cond_f rfl (by first | rfl | decide | (simp; done)) ?_
  refine g_skip ?_
  refine e_then ?_
  refine g_sr ?_
  refine Li Mv ?_
  refine Li Mv ?_
  refine Li (Fa T.fld_75_1) ?_
  refine Lp (oL T.sc_73 ?_)
  refine Lp (oC T.fn_36 rfl rfl (pieces_fn (cap12 raw) ax (cap12 raw).length cx one a1 one.length c1 rfl hcx rfl) .nil (fun _ le _ => hO.mono le) ?_)
  rintro v H' ⟨ak, ck, k, rfl, hkl, hk, hkc, hkr, rfl⟩
  try simp only [nap, cap]
  refine Lp (oC T.fn_35 rfl rfl (fed_fn bf limit.toNat [] k ak k.length ck rfl (by omega) hlim (by rw [flat_pieces hk]; simp; omega)) (.cons (.there .here) .nil) (fun _ le hin => ⟨own_in hin.1, fun x hx => (hkr _ hX x hx).mono le, hkc⟩) ?_)
  rintro v H' ⟨ao, co, o, rfl, ho, rfl⟩
  try simp only [nap, cap]
  rw [flat_pieces hk, List.nil_append, PS_nil, List.nil_append] at ho
  rw [flat_pieces hk]
  clear hkr hkc hk
  generalize hcr : cap12 raw = S at *
  refine Li As ?_
  refine g_ne ?_
  refine g_sr ?_
  refine Li As ?_
  refine g_ne ?_
  refine g_sr ?_
  refine Li Mv ?_
  refine Li As ?_
  refine g_ne ?_
  refine g_sr ?_
  refine Li As ?_
  refine g_ne ?_
  refine g_seq ?_
  refine Hh (H' := [Fd bf limit.toNat S, Pks ao co o, pts b1 75 [.slice ar raw.length cr, .slice a1 one.length c1, .slice a2 two.length c2, .int .i64 limit]]) ?_
  refine g_nilrow 39 9 ?_
  refine g_heap (fun _ s => starL_swap (starL_nil_stars s)) ?_
  refine g_mid (ι := Option Addr × Nat × List (Pkt × Ad) × Bool) [9, 30, 31, 32, 33, 37, 38, 39, 40, 36, 41, 42, 43, 10, 11, 12, 44, 45, 46, 8, 47, 48, 49, 50, 51, 52, 6, 53, 54, 55, 7, 34, 35] (fun (aw, cw, w, br) => w.map Prod.fst = (PS limit.toNat S).1 ∧ (PS limit.toNat S).2.broken = br ∧ w.length ≤ 12000) (fun (aw, cw, w, br) => [(6, .slice aw w.length cw), (8, .bool br)]) (fun (aw, cw, w, br) => [own aw cw 39 9 (pktsCells w), stars (pktOwns w), Fd bf limit.toNat S, Pks ao co o, pts b1 75 [.slice ar raw.length cr, .slice a1 one.length c1, .slice a2 two.length c2, .int .i64 limit]]) ?_ ?_
  · refine g_sr ?_
    refine Li As ?_
    refine g_ne ?_
    refine g_block ?_
    refine Lo (ι := Nat × List UInt8 × Option Addr × Nat × Option Addr × Nat × List (Pkt × Ad)) [30, 31, 32, 33, 37, 38, 39, 40, 36, 41, 42, 43, 10, 11, 12, 44, 45, 46, 8, 47, 48, 49, 50, 51, 52, 6, 53, 54, 55, 7, 34, 35, 9] (fun (i, rest, ac, cc, aw, cw, w) => WhI limit S i rest w ∧ rest.length ≤ cc ∧ Rdl F.h ac (bcells rest)) (fun (i, rest, ac, cc, aw, cw, w) => [(6, .slice aw w.length cw), (7, .slice ac rest.length cc), (8, .bool false), (9, .int .i64 (i : Int))]) (fun (i, rest, ac, cc, aw, cw, w) => [own aw cw 39 9 (pktsCells w), stars (pktOwns w), Fd bf limit.toNat S, Pks ao co o, pts b1 75 [.slice ar raw.length cr, .slice a1 one.length c1, .slice a2 two.length c2, .int .i64 limit]]) (fun (i, rest, ac, cc, aw, cw, w) => rest.length) ((0, S, ax, cx, none, 0, [])) ⟨⟨by omega, rfl, rfl, rfl⟩, hcx, hX⟩ ?_
    rintro ⟨i, rest, ac, cc, aw, cw, w⟩ ⟨⟨icnt, ilen, ipk, ist⟩, hcc, hrd⟩
    try dsimp only at hI ⊢
    try dsimp only at icnt ilen ipk ist hcc hrd ⊢
    refine g_seq ?_
    refine g_sr ?_
    refine Li Mv ?_
    refine Li Mv ?_
    refine Li (Ln T.sl_37) ?_
    refine Li Cm ?_
    refine g_ne ?_
    refine g_cond_t rfl (by simp; omega) ?_
    refine g_skip ?_
    refine e_then ?_
    refine g_seq ?_
    refine g_block ?_
    refine g_sr ?_
    refine Li Mv ?_
    refine Li (Fa T.fld_75_3) ?_
    refine Lp (oL T.sc_3 ?_)
    refine Lp (oC T.fn_23 rfl rfl (read_fn rest ac rest.length cc limit rfl hcc (by omega) q1 q2) .nil (fun _ le hin => hrd.mono le) ?_)
    rintro v H' ⟨ae, ce, av, cv, rfl, rfl⟩
    try simp only [nap, cap]
    cases hb : badB rest with
    | true =>
      have hread : readP rest limit = (zeroP, 0, 7) := by unfold readP; rw [hb]; rfl
      have hps := PS_bad (limit := limit.toNat) hb
      rw [hread]
      dsimp only [pktCells, zeroP]
      ·
        refine Li Mv ?_
        refine Li Ex ?_
        refine Li Ex ?_
        refine Li Ex ?_
        refine Lp (oA T.zc_39 fun b2 => ?_)
        refine Lp (oSW T.ag_39 ?_)
        refine Li As ?_
        refine Li As ?_
        refine g_ne ?_
        refine g_seq ?_
        refine g_sr ?_
        refine Li Mv ?_
        refine Lp (oC T.fn_17 rfl rfl (num_fn 7) .nil (fun _ _ _ => trivial) ?_)
        rintro v H' ⟨rfl, rfl⟩
        try simp only [nap, cap]
        refine Li Cm ?_
        refine g_ne ?_
        refine g_cond_t rfl (by first | rfl | decide | (simp; done)) ?_
        refine g_sr ?_
        refine Li As ?_
        refine g_ne ?_
        refine g_exit ?_
        refine e_then_exit ?_
        refine e_block_miss rfl ?_
        refine e_then_exit ?_
        refine e_then_exit ?_
        refine e_block_hit ?_
        refine Hh (H' := [own aw cw 39 9 (pktsCells w), stars (pktOwns w), Fd bf limit.toNat S, Pks ao co o, pts b1 75 [.slice ar raw.length cr, .slice a1 one.length c1, .slice a2 two.length c2, .int .i64 limit]]) ?_
        refine Me ((aw, cw, w, true)) (⟨by rw [ipk, hps]; simp, by rw [ist, hps], by dsimp only; omega⟩)
    | false =>
      by_cases hs : Short rest
      · have hread : readP rest limit = (zeroP, 0, 0) := by unfold readP; rw [hb, if_neg (by simp), if_pos (show rest.length < 24 ∨ rest.length < wholeN rest from hs)]
        have hps := PS_short (limit := limit.toNat) hb hs
        rw [hread]
        dsimp only [pktCells, zeroP]
        ·
          refine Li Mv ?_
          refine Li Ex ?_
          refine Li Ex ?_
          refine Li Ex ?_
          refine Lp (oA T.zc_39 fun b3 => ?_)
          refine Lp (oSW T.ag_39 ?_)
          refine Li As ?_
          refine Li As ?_
          refine g_ne ?_
          refine g_seq ?_
          refine g_sr ?_
          refine Li Mv ?_
          refine Lp (oC T.fn_17 rfl rfl (num_fn 0) .nil (fun _ _ _ => trivial) ?_)
          rintro v H' ⟨rfl, rfl⟩
          try simp only [nap, cap]
          refine Li Cm ?_
          refine g_ne ?_
          refine g_cond_f rfl (by first | rfl | decide | (simp; done)) ?_
          refine g_skip ?_
          refine e_then ?_
          refine g_seq ?_
          refine g_sr ?_
          refine Li Mv ?_
          refine Li Cm ?_
          refine g_ne ?_
          refine g_cond_t rfl (by first | rfl | decide | (simp; done)) ?_
          refine g_exit ?_
          refine e_then_exit ?_
          refine e_block_miss rfl ?_
          refine e_then_exit ?_
          refine e_then_exit ?_
          refine e_block_hit ?_
          refine Hh (H' := [own aw cw 39 9 (pktsCells w), stars (pktOwns w), Fd bf limit.toNat S, Pks ao co o, pts b1 75 [.slice ar raw.length cr, .slice a1 one.length c1, .slice a2 two.length c2, .int .i64 limit]]) ?_
          refine Me ((aw, cw, w, false)) (⟨by rw [ipk, hps]; simp, by rw [ist, hps]; rfl, by dsimp only; omega⟩)
      · obtain ⟨p, hp⟩ : ∃ p, p = (readP rest limit).1 := ⟨_, rfl⟩
        have hs' := hs
        unfold Short at hs'
        have hge := wholeN_ge rest
        have hread : readP rest limit = (p, wholeN rest, 0) := by
          rw [hp]; unfold readP; rw [hb, if_neg (by simp), if_neg hs']
        have hps := PS_more (limit := limit.toNat) hb hs
        rw [readP_nat, ← hp] at hps
        rw [hread]
        clear hp hread
        dsimp only [pktCells]
        have hq := n4_lt rest 8
        have hwh : wholeN rest = 24 + n4 rest 8 := rfl
        ·
          refine Li Mv ?_
          refine Li Ex ?_
          refine Li Ex ?_
          refine Li Ex ?_
          refine Lp (oA T.zc_39 fun b4 => ?_)
          refine Lp (oSW T.ag_39 ?_)
          refine Li As ?_
          refine Li As ?_
          refine g_ne ?_
          refine g_seq ?_
          refine g_sr ?_
          refine Li Mv ?_
          refine Lp (oC T.fn_17 rfl rfl (num_fn 0) .nil (fun _ _ _ => trivial) ?_)
          rintro v H' ⟨rfl, rfl⟩
          try simp only [nap, cap]
          refine Li Cm ?_
          refine g_ne ?_
          refine g_cond_f rfl (by first | rfl | decide | (simp; done)) ?_
          refine g_skip ?_
          refine e_then ?_
          refine g_seq ?_
          refine g_sr ?_
          refine Li Mv ?_
          refine Li Cm ?_
          refine g_ne ?_
          refine g_cond_f rfl (by simp; omega) ?_
          refine g_skip ?_
          refine e_then ?_
          refine g_sr ?_
          refine Li Mv ?_
          refine Lp (oLN T.ag_39 ?_)
          refine Lp (oT1 T.ap_22 fun b5 => ?_)
          refine Lp (op_append_lit T.ap_22 T.ni_22 rfl rfl rfl rfl (.there (.there (.there .here))) (pktsCells_length w) (rfl) (by simp [Value.oneCell', strv]) (by first | omega | (simp; omega)) (by first | omega | (simp; omega)) rfl fun a5 c5 hc5 => ?_)
          have hcat : pktsCells w ++ [.bool p.reply, .int .i64 p.op, .int .i64 p.status, .int .u64 p.opq, .int .u64 p.token, .slice ae p.ex.length ce, strv p.key, .slice av p.val.length cv, .bool p.large] = pktsCells (w ++ [(p, ⟨ae, ce, av, cv⟩)]) := (pktsCells_snoc w p ⟨ae, ce, av, cv⟩).symm
          rw [hcat]
          refine Li As ?_
          refine g_ne ?_
          refine g_region ?_
          refine Li Mv ?_
          refine Li Mv ?_
          refine Li (Sl (wholeN rest) rest.length cc T.sl_37) ?_
          refine Li As ?_
          refine g_nil ?_
          refine e_block ?_
          refine e_then ?_
          refine g_region ?_
          refine Li Mv ?_
          refine Li Im ?_
          refine Li As ?_
          refine g_nil ?_
          refine Hh (H' := [stars (pktOwns w), own ae ce 5 1 (bcells p.ex), own av cv 5 1 (bcells p.val), own a5 c5 39 9 (pktsCells (w ++ [(p, ⟨ae, ce, av, cv⟩)])), Fd bf limit.toNat S, Pks ao co o, pts b1 75 [.slice ar raw.length cr, .slice a1 one.length c1, .slice a2 two.length c2, .int .i64 limit]]) ?_
          refine g_heap (fun _ s => stars_fold (M := [own ae ce 5 1 (bcells p.ex), own av cv 5 1 (bcells p.val)]) s) ?_
          rw [← pktOwns_snoc w p ⟨ae, ce, av, cv⟩, show w.length + 1 = (w ++ [(p, (⟨ae, ce, av, cv⟩ : Ad))]).length from by simp, show rest.length - wholeN rest = (rest.drop (wholeN rest)).length from by simp]
          have hcut : Rdl F.h (cutA ac (wholeN rest) cc (wholeN rest * 1)) (bcells (rest.drop (wholeN rest))) := cutT hrd (wholeN rest) cc (by omega)
          refine Ro ((i + 1, rest.drop (wholeN rest), cutA ac (wholeN rest) cc (wholeN rest * 1), cc - wholeN rest, a5, c5, w ++ [(p, ⟨ae, ce, av, cv⟩)])) (⟨⟨by simp; omega, by simp [ilen], by rw [ipk, hps]; simp, by rw [ist, hps]⟩, by simp; omega, hcut⟩) ((by simp; omega))
  rintro ⟨aw, cw, w, br⟩ ⟨hw, hbr, hwl⟩
  try dsimp only at hI ⊢
  dsimp only at hw hbr hwl ⊢
  have hou : o.map Prod.fst = w.map Prod.fst := ho.trans hw.symm
  have hol : o.length = w.length := by simpa using congrArg List.length hou
  refine g_fact (X := PktsAt2 aw cw w) (fun h hin => PktsAt2_in (hin.nth 0 rfl)) fun hcw => ?_
  refine g_fact (sel_fact (.there (.there (.there .here))) Pks_len) fun hco => ?_
  refine g_seq ?_
  refine g_sr ?_
  refine Li Mv ?_
  refine Li Mv ?_
  refine Lp (oC T.fn_33 rfl rfl (sames_fn o w ao aw o.length w.length co cw rfl rfl hco hcw (by omega)) .nil (fun _ le hin => ⟨Pks_at (hin.nth 3 rfl), Pk2_at (hin.nth 0 rfl) (hin.nth 1 rfl)⟩) ?_)
  rintro v H' ⟨rfl, rfl⟩
  try simp only [nap, cap]
  rw [hou, decide_eq_true rfl]
  refine Li Nt ?_
  refine Li Mv ?_
  refine g_slot (t := 60) (v' := .bool false) rfl (congrArg Value.bool (by rfl)) ?_
  refine Li Mv ?_
  refine Lp (oC T.fn_38 rfl rfl (brokenF bf limit.toNat S) .nil (fun _ le hin => hin.nth 2 rfl) ?_)
  rintro v H' ⟨rfl, rfl⟩
  try simp only [nap, cap]
  refine Li Mv ?_
  refine Li (Bq T.u_4) ?_
  refine Li Pf ?_
  refine Li Mv ?_
  refine g_slot (t := 66) (v' := .bool false) rfl (congrArg Value.bool (by simp [hbr])) ?_
  cases br with
  | false =>
    ·
      refine Li Mv ?_
      refine Li Mv ?_
      refine g_slot (t := 68) (v' := .bool false) rfl (congrArg Value.bool (by rfl)) ?_
      refine Lx ?_
      refine Lx ?_
      refine Lx ?_
      refine Li Pf ?_
      refine Li Pf ?_
      refine g_ne ?_
      refine g_cond_f rfl rfl ?_
      refine g_skip ?_
      refine e_then ?_
      refine g_sr ?_
      refine Li (Bd T.zc_39 T.st_39) ?_
      refine Lp (oC T.fn_15 rfl rfl (kP_bytes) .nil (fun _ _ _ => trivial) ?_)
      rintro v H' ⟨ag, cg, rfl, rfl⟩
      try simp only [nap, cap]
      refine Li Mv ?_
      refine Li Ex ?_
      refine Li Ex ?_
      refine Li As ?_
      refine Li As ?_
      refine g_ne ?_
      refine g_seq ?_
      refine g_sr ?_
      refine Li Mv ?_
      refine Lp (oC T.fn_17 rfl rfl (num_fn 0) .nil (fun _ _ _ => trivial) ?_)
      rintro v H' ⟨rfl, rfl⟩
      try simp only [nap, cap]
      refine Li Cm ?_
      refine Li Mv ?_
      refine g_slot (t := 82) (v' := .bool false) rfl (congrArg Value.bool (by rfl)) ?_
      refine Li Mv ?_
      refine Li Nt ?_
      refine Li Pf ?_
      refine g_ne ?_
      refine g_cond_t rfl (by rfl) ?_
      refine g_sr ?_
      refine Li Mv ?_
      refine Lp (oC T.fn_17 rfl rfl (num_fn 0) .nil (fun _ _ _ => trivial) ?_)
      rintro v H' ⟨rfl, rfl⟩
      try simp only [nap, cap]
      refine Li Cm ?_
      refine Li Mv ?_
      refine g_slot (t := 89) (v' := .bool true) rfl (congrArg Value.bool (by rfl)) ?_
      refine Lp (oC T.fn_21 rfl rfl (wakes_fn) .nil (fun _ _ _ => trivial) ?_)
      rintro v H' ⟨rfl, rfl⟩
      try simp only [nap, cap]
      refine Li Pt ?_
      refine Li As ?_
      refine g_ne ?_
      refine g_ret ?_
      refine e_then_ret ?_
      refine Rt [] Try.results9 ?_
      exact ⟨rfl, rfl⟩
  | true =>
    have hk0 := PS_broken_kept limit.toNat S hbr
    have hps : PS limit.toNat (S ++ enc kP) = PS limit.toNat S := by
      rcases PS_cases limit.toNat S with ⟨_, h2⟩ | ⟨V, _, _, _, h4, _⟩
      · exact h2 _
      · rw [h4] at hbr; simp [restS] at hbr
    ·
      refine Li Mv ?_
      refine Li Mv ?_
      refine g_slot (t := 68) (v' := .bool true) rfl (congrArg Value.bool (by rfl)) ?_
      refine Li Mv ?_
      refine Lp (oC T.fn_37 rfl rfl (heldF bf limit.toNat S) .nil (fun _ le hin => hin.nth 2 rfl) ?_)
      rintro v H' ⟨rfl, rfl⟩
      try simp only [nap, cap]
      rw [hk0]
      refine Li Cm ?_
      refine Li Pt ?_
      refine Li Pf ?_
      refine g_ne ?_
      refine g_cond_f rfl (by rfl) ?_
      refine g_skip ?_
      refine e_then ?_
      refine g_sr ?_
      refine Li (Bd T.zc_39 T.st_39) ?_
      refine Lp (oC T.fn_15 rfl rfl (kP_bytes) .nil (fun _ _ _ => trivial) ?_)
      rintro v H' ⟨ag, cg, rfl, rfl⟩
      try simp only [nap, cap]
      refine Li Mv ?_
      refine Li Ex ?_
      refine Li Ex ?_
      refine Li As ?_
      refine Li As ?_
      refine g_ne ?_
      refine g_seq ?_
      refine g_sr ?_
      refine Li Mv ?_
      refine Lp (oC T.fn_17 rfl rfl (num_fn 0) .nil (fun _ _ _ => trivial) ?_)
      rintro v H' ⟨rfl, rfl⟩
      try simp only [nap, cap]
      refine Li Cm ?_
      refine Li Mv ?_
      refine g_slot (t := 82) (v' := .bool false) rfl (congrArg Value.bool (by rfl)) ?_
      refine Li Mv ?_
      refine Li Nt ?_
      refine Li Pf ?_
      refine g_ne ?_
      refine g_cond_f rfl (by rfl) ?_
      refine g_skip ?_
      refine e_then ?_
      refine g_sr ?_
      refine Li Mv ?_
      refine Li Mv ?_
      refine g_fact (X := 25 ≤ cg) (fun h hin => by have := own_capb (hin.nth 0 rfl); rw [bcells_length, kP_len] at this; exact this) fun hcg => ?_
      refine Lp (oC T.fn_31 rfl rfl (feedF bf limit.toNat S ag 25 cg (enc kP) kP_len.symm hcg hlim (by rw [kP_len]; omega)) (.cons (.there (.there (.there .here))) .nil) (fun _ le hin => own_in (hin.nth 0 rfl)) ?_)
      rintro v H' ⟨ao2, co2, o2, rfl, hs2, rfl⟩
      try simp only [nap, cap]
      have ho2 : o2 = [] := by
        rw [hps] at hs2
        have : o2.map Prod.fst = [] := List.append_right_eq_self.1 hs2
        exact List.map_eq_nil_iff.1 this
      subst ho2
      refine Li (Ln T.sl_22) ?_
      refine Li Cm ?_
      refine Li Mv ?_
      refine g_slot (t := 97) (v' := .bool true) rfl (congrArg Value.bool (by rfl)) ?_
      refine Li Mv ?_
      refine Lp (oC T.fn_38 rfl rfl (brokenF bf limit.toNat (S ++ enc kP)) .nil (fun _ le hin => hin.nth 0 rfl) ?_)
      rintro v H' ⟨rfl, rfl⟩
      try simp only [nap, cap]
      refine Li Pt ?_
      refine Li Mv ?_
      refine g_slot (t := 101) (v' := .bool true) rfl (congrArg Value.bool (by rw [hps]; exact hbr)) ?_
      refine Li Mv ?_
      refine Lp (oC T.fn_37 rfl rfl (heldF bf limit.toNat (S ++ enc kP)) .nil (fun _ le hin => hin.nth 0 rfl) ?_)
      rintro v H' ⟨rfl, rfl⟩
      try simp only [nap, cap]
      refine Li Cm ?_
      refine Li Pt ?_
      refine Li Mv ?_
      refine g_slot (t := 106) (v' := .bool true) rfl (congrArg Value.bool (by rw [hps, hk0]; rfl)) ?_
      refine Li Mv ?_
      refine Lp (oC T.fn_39 rfl rfl (takenF bf limit.toNat (S ++ enc kP)) .nil (fun _ le hin => hin.nth 0 rfl) ?_)
      rintro v H' ⟨rfl, rfl⟩
      try simp only [nap, cap]
      refine Li Mv ?_
      refine Li (Ln T.sl_37) ?_
      refine Li Mv ?_
      refine Li (Ln T.sl_37) ?_
      refine Li Im ?_
      refine Li Cm ?_
      refine Li Pt ?_
      refine Li Mv ?_
      refine g_slot (t := 116) (v' := .bool true) rfl (congrArg Value.bool (by rw [List.length_append, kP_len]; simp)) ?_
      refine Lp (oC T.fn_21 rfl rfl (wakes_fn) .nil (fun _ _ _ => trivial) ?_)
      rintro v H' ⟨rfl, rfl⟩
      try simp only [nap, cap]
      refine Li Pt ?_
      refine Li As ?_
      refine g_ne ?_
      refine g_ret ?_
      refine Rt [] Try.results9 ?_
      exact ⟨rfl, rfl⟩
end Go.Proofs.Ytggmpaggmkfmoaa

