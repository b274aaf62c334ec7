/- Packets: what Read takes Bytes writes just so. -/
import Derived.Test.YtggmpaggmkfmoaaA19
import Derived.Test.YtggmpaggmkfmoaaB2
set_option maxRecDepth 100000
namespace Go.Proofs.Ytggmpaggmkfmoaa
open Go Go.Eng

theorem same_zero (ae av : Option Addr) (ce cv : Nat) : FnS Try.prog 25 [.agg #[.bool false, .int .i64 0, .int .i64 0, .int .u64 0, .int .u64 0, .slice ae 0 ce, strv [], .slice av 0 cv, .bool false], .agg #[.bool false, .int .i64 0, .int .i64 0, .int .u64 0, .int .u64 0, .slice none 0 0, strv [], .slice none 0 0, .bool false]] (fun _ => True) []
    (fun v H => v = .bool true ∧ H = []) :=
  (same_fn zeroP zeroP ae av none none ce cv 0 0).imp (fun _ _ => ⟨⟨Rdl.nil, Rdl.nil⟩, Rdl.nil, Rdl.nil⟩) fun v H r => by rw [sameB_refl] at r; exact r
theorem bytes_ok (p : Pkt) (ae : Option Addr) (ce : Nat) (av : Option Addr) (cv : Nat) (ok : okP p = true) (hlen : p.body ≤ 1099511627776) (htok : p.token < 18446744073709551616) :
    FnS Try.prog 15 [.agg (pktCells p ae ce av cv).toArray] (fun h => Rdl h ae (bcells p.ex) ∧ Rdl h av (bcells p.val)) []
      (fun v H => ∃ a c, v = .tuple #[.slice a (enc p).length c, .int .i64 0] ∧ H = [own a c 5 1 (bcells (enc p))]) :=
  (bytes_fn p ae ce av cv hlen htok).imp (fun _ q => q) fun v H r => by
    rcases r with ⟨_, a, c, rfl, rfl⟩ | ⟨q, _⟩
    · exact ⟨a, c, rfl, rfl⟩
    · rw [ok] at q; cases q
theorem readP_full (S T : List UInt8) (limit : Int) (hb : badB S = false) (hs : ¬ Short S) : readP (S ++ T) limit = (decP S (decide (max limit 0 < (wholeN S : Int) - frontN S)), wholeN S, 0) ∧ badB (S ++ T) = false := by
  have hs' := hs
  unfold Short at hs'
  have hge := wholeN_ge S
  obtain ⟨r1, _, _⟩ := badB_room hb (by omega)
  have hb' : badB (S ++ T) = false := by
    rw [← badB_take (S ++ T) S.length (by omega)]; simpa using hb
  have hw' : wholeN (S ++ T) = wholeN S := by rw [← wholeN_take (S ++ T) S.length (by omega)]; simp
  have hf' : frontN (S ++ T) = frontN S := by rw [← frontN_take (S ++ T) S.length (by omega)]; simp
  refine ⟨?_, hb'⟩
  unfold readP
  rw [hb', if_neg (by simp), if_neg (by rw [hw', List.length_append]; omega), hw', hf', ← decP_take (S ++ T) S.length _ (by omega) (by omega) (fun _ => by omega)]
  simp

set_option maxHeartbeats 8000000 in
theorem just_fn (raw : List UInt8) (a : Option Addr) (c : Nat) (tail : List UInt8) (at' : Option Addr) (ct : Nat) (hr : raw.length ≤ c) (ht : tail.length ≤ ct) :
    FnS Try.prog 7 [.slice a raw.length c, .slice at' tail.length ct] (fun h => Rdl h a (bcells raw) ∧ Rdl h at' (bcells tail)) [] (fun v H => v = .bool true ∧ H = []) := by
  refine fn_body Try.func7 rfl Try.ntmps7 rfl ?_
  rintro F ⟨hR, hT⟩
  have hcl := cap12_len raw
  have hct := cap12_len tail
  refine g_sr ?_
  refine Li As ?_
  refine g_ne ?_
  refine g_sr ?_
  refine Li Mv ?_
  refine Lp (oC T.fn_22 rfl rfl (bytes22_fn raw a raw.length c rfl hr) .nil (fun _ _ _ => trivial) ?_)
  rintro v H' ⟨ax, cx, rfl, hcx, hrx, rfl⟩
  try simp only [nap, cap]
  have hX := hrx _ hR
  clear hrx
  refine Li As ?_
  refine g_ne ?_
  refine g_sr ?_
  refine Li Mv ?_
  refine Lp (oC T.fn_23 rfl rfl (read_fn (cap12 raw) ax (cap12 raw).length cx 12000 rfl hcx (by omega) (by decide) (by decide)) .nil (fun _ le hin => hX.mono le) ?_)
  rintro v H' ⟨ae1, ce1, av1, cv1, rfl, rfl⟩
  try simp only [nap, cap]
  generalize hS : cap12 raw = S at *
  obtain ⟨p1, n1, e1, hR1⟩ : ∃ p n e, readP S 12000 = (p, n, e) := ⟨_, _, _, rfl⟩
  rw [hR1]
  dsimp only [pktCells]
  refine Li Mv ?_
  refine Li Ex ?_
  refine Li Ex ?_
  refine Li Ex ?_
  refine Lp (oA T.zc_39 fun b1 => ?_)
  refine Lp (oSW T.ag_39 ?_)
  refine Li As ?_
  refine Li As ?_
  refine g_ne ?_
  refine g_sr ?_
  refine Lp (oT T.ap_37 fun b2 => ?_)
  refine Li Mv ?_
  refine g_heap (fun _ s => starL_cons_mono (fun _ p => own_of_pts p 0 1 (by simp) (by simp [maxLen])) s) ?_
  refine Lp (op_append T.ap_37 T.ni_37 rfl rfl rfl rfl .here (rfl) (src_slice (m := S.length) (by simp) fun h le _ => hX.mono le) (by first | exact bcells_one | (simp [Value.oneCell', strv])) (by first | omega | (simp; omega)) (by first | omega | (simp; omega)) rfl fun a4 c4 hc4 => ?_)
  refine Li Mv ?_
  refine Lp (oC T.fn_22 rfl rfl (bytes22_fn tail at' tail.length ct rfl ht) .nil (fun _ _ _ => trivial) ?_)
  rintro v H' ⟨ay, cy, rfl, hcy, hry, rfl⟩
  try simp only [nap, cap]
  have hY := hry _ hT
  clear hry
  generalize hTT : cap12 tail = U at *
  refine Lp (op_append T.ap_37 T.ni_37 rfl rfl rfl rfl .here (by simp) (src_slice (m := U.length) (by simp) fun h le _ => hY.mono le) (by first | exact bcells_one | (simp [Value.oneCell', strv])) (by first | omega | (simp; omega)) (by first | omega | (simp; omega)) rfl fun a5 c5 hc5 => ?_)
  rw [← bcells_append]
  refine Li As ?_
  refine g_ne ?_
  refine g_sr ?_
  refine Li Mv ?_
  refine Lp (oC T.fn_23 rfl rfl (read_fn (S ++ U) a5 (0 + S.length + U.length) c5 12000 (by simp) hc5 (by simp; omega) (by decide) (by decide)) .nil (fun _ le hin => own_in (hin.nth 0 rfl)) ?_)
  rintro v H' ⟨ae2, ce2, av2, cv2, rfl, rfl⟩
  try simp only [nap, cap]
  obtain ⟨p2, n2', e2, hR2⟩ : ∃ p n e, readP (S ++ U) 12000 = (p, n, e) := ⟨_, _, _, rfl⟩
  rw [hR2]
  dsimp only [pktCells]
  refine Li Mv ?_
  refine Li Ex ?_
  refine Li Ex ?_
  refine Li Ex ?_
  refine Lp (oA T.zc_39 fun b3 => ?_)
  refine Lp (oSW T.ag_39 ?_)
  refine Li As ?_
  refine Li As ?_
  refine g_ne ?_
  refine g_seq ?_
  refine g_sr ?_
  refine Li Mv ?_
  refine Lp (oC T.fn_17 rfl rfl (num_fn (e1 : Int)) .nil (fun _ _ _ => trivial) ?_)
  rintro v H' ⟨rfl, rfl⟩
  try simp only [nap, cap]
  cases hb : badB S with
  | true =>
    have h1 : readP S 12000 = (zeroP, 0, 7) := by unfold readP; rw [hb]; rfl
    have h2 : readP (S ++ U) 12000 = (zeroP, 0, 7) := by unfold readP; rw [badB_pre hb]; rfl
    rw [h1] at hR1
    rw [h2] at hR2
    cases hR1
    cases hR2
    dsimp only [zeroP]
    ·
      refine Li Cm ?_
      refine g_ne ?_
      refine g_cond_t rfl (by rfl) ?_
      refine g_sr ?_
      refine Li Mv ?_
      refine Lp (oC T.fn_17 rfl rfl (num_fn 7) .nil (fun _ _ _ => trivial) ?_)
      rintro v H' ⟨rfl, rfl⟩
      try simp only [nap, cap]
      refine Li Cm ?_
      refine Li Mv ?_
      refine g_slot (t := 44) (v' := .bool true) rfl (congrArg Value.bool (by rfl)) ?_
      refine Li Mv ?_
      refine Li Cm ?_
      refine Li Pt ?_
      refine Li Mv ?_
      refine g_slot (t := 48) (v' := .bool true) rfl (congrArg Value.bool (by rfl)) ?_
      refine Lp (oLN T.ag_39 ?_)
      refine Li (Bd T.zc_39 T.st_39) ?_
      refine Lp (oC T.fn_25 rfl rfl (same_zero ae1 av1 ce1 cv1) .nil (fun _ _ _ => trivial) ?_)
      rintro v H' ⟨rfl, rfl⟩
      try simp only [nap, cap]
      refine Li Pt ?_
      refine Li Mv ?_
      refine g_slot (t := 53) (v' := .bool true) rfl (congrArg Value.bool (by rfl)) ?_
      refine Li Mv ?_
      refine Lp (oC T.fn_17 rfl rfl (num_fn 7) .nil (fun _ _ _ => trivial) ?_)
      rintro v H' ⟨rfl, rfl⟩
      try simp only [nap, cap]
      refine Li Mv ?_
      refine Lp (oC T.fn_17 rfl rfl (num_fn 7) .nil (fun _ _ _ => trivial) ?_)
      rintro v H' ⟨rfl, rfl⟩
      try simp only [nap, cap]
      refine Li Cm ?_
      refine Li Pt ?_
      refine Li Mv ?_
      refine g_slot (t := 60) (v' := .bool true) rfl (congrArg Value.bool (by rfl)) ?_
      refine Li Mv ?_
      refine Li Cm ?_
      refine Li Pt ?_
      refine Li Mv ?_
      refine g_slot (t := 64) (v' := .bool true) rfl (congrArg Value.bool (by rfl)) ?_
      refine Lp (oC T.fn_21 rfl rfl (wakes_fn) .nil (fun _ _ _ => trivial) ?_)
      rintro v H' ⟨rfl, rfl⟩
      try simp only [nap, cap]
      refine Li Pt ?_
      refine Li As ?_
      refine g_ne ?_
      refine g_ret ?_
      refine e_then_ret ?_
      refine Rt [] Try.results7 ?_
      exact ⟨rfl, rfl⟩
  | false =>
    by_cases hs : Short S
    · have h1 : readP S 12000 = (zeroP, 0, 0) := by unfold readP; rw [hb, if_neg (by simp), if_pos (show S.length < 24 ∨ S.length < wholeN S from hs)]
      rw [h1] at hR1
      cases hR1
      dsimp only [zeroP]
      ·
        refine Li Cm ?_
        refine g_ne ?_
        refine g_cond_f rfl (by rfl) ?_

        refine Hh (H' := [pts b1 39 [.bool false, .int .i64 0, .int .i64 0, .int .u64 0, .int .u64 0, .slice ae1 0 ce1, strv [], .slice av1 0 cv1, .bool false]]) ?_
        refine g_skip ?_
        refine e_then ?_
        refine g_seq ?_
        refine g_sr ?_
        refine Li As ?_
        refine g_ne ?_
        refine g_block ?_
        refine Lo (ι := Nat) [67, 68, 69, 70, 71, 72, 73, 74, 75, 76, 77, 78, 82, 83, 84, 85, 81, 86, 87, 88, 13, 14, 15, 89, 90, 91, 92, 93, 94, 95, 4, 79, 80, 12] (fun i => i ≤ 40 ∧ i ≤ S.length) (fun i => [(12, .int .i64 (i : Int))]) (fun i => [pts b1 39 [.bool false, .int .i64 0, .int .i64 0, .int .u64 0, .int .u64 0, .slice ae1 0 ce1, strv [], .slice av1 0 cv1, .bool false]]) (fun i => 40 - i) (0) ⟨by omega, Nat.zero_le _⟩ ?_
        rintro i ⟨hi, hi2⟩
        refine g_seq ?_
        refine g_seq ?_
        refine g_mid (ι := Unit) [67, 68, 69, 70, 71, 72, 73, 74, 75, 76, 77, 78] (fun u => True) (fun u => [(78, .bool (decide ((i : Int) < S.length) && decide ((i : Int) < 40)))]) (fun u => [pts b1 39 [.bool false, .int .i64 0, .int .i64 0, .int .u64 0, .int .u64 0, .slice ae1 0 ce1, strv [], .slice av1 0 cv1, .bool false]]) ?_ ?_
        · refine g_region ?_
          refine Li Mv ?_
          refine Li Mv ?_
          refine Li (Ln T.sl_37) ?_
          refine Li Cm ?_
          refine Li Mv ?_
          refine g_split (t := 71) rfl ?_ ?_
          · intro hb0
            replace hb0 := nrm hb0
            refine Li Mv ?_
            refine Li Cm ?_
            refine Li Pt ?_
            refine Li Mv ?_
            refine g_split (t := 75) rfl ?_ ?_
            · intro hb1
              replace hb1 := nrm hb1
              refine Li Mv ?_
              refine Li Cm ?_
              refine Li Pt ?_
              refine g_nil ?_
              refine Me (()) (trivial)
            · intro hb1
              replace hb1 := nrm hb1
              refine Lx ?_
              refine Lx ?_
              refine Li Pf ?_
              refine g_nil ?_
              refine Me (()) (trivial)
          · intro hb0
            replace hb0 := nrm hb0
            refine Lx ?_
            refine Lx ?_
            refine Li Pf ?_
            refine Li Mv ?_
            refine Lx ?_
            refine Lx ?_
            refine Li Pf ?_
            refine g_nil ?_
            refine Me (()) (trivial)
        rintro u hI
        refine g_cond rfl ?_ ?_
        · intro hc
          replace hc := nrm hc
          have hsh := short_take i hb hs
          refine g_skip ?_
          refine e_then ?_
          refine g_seq ?_
          refine g_block ?_
          refine g_sr ?_
          refine Li Mv ?_
          refine Li Mv ?_
          refine Li (Sl 0 i cx T.sl_37) ?_
          refine Lp (oC T.fn_23 rfl rfl (read_fn (S.take i) (cutA ax 0 cx (0 * 1)) (i - 0) (cx - 0) 12000 (by simp; omega) (by omega) (by simp; omega) (by decide) (by decide)) .nil (fun _ le hin => (cut2 hX 0 cx i (by omega)).mono le) ?_)
          rintro v H' ⟨ae3, ce3, av3, cv3, rfl, rfl⟩
          try simp only [nap, cap]
          rw [hsh]
          dsimp only [pktCells, zeroP]
          refine Li Mv ?_
          refine Li Ex ?_
          refine Li Ex ?_
          refine Li Ex ?_
          refine Lp (oA T.zc_39 fun b4 => ?_)
          refine Lp (oSW T.ag_39 ?_)
          refine Li As ?_
          refine Li As ?_
          refine g_ne ?_
          refine g_sr ?_
          refine Li Mv ?_
          refine Lp (oC T.fn_17 rfl rfl (num_fn 0) .nil (fun _ _ _ => trivial) ?_)
          rintro v H' ⟨rfl, rfl⟩
          try simp only [nap, cap]
          refine Li Cm ?_
          refine Li Mv ?_
          refine g_slot (t := 92) (v' := .bool false) rfl (congrArg Value.bool (by rfl)) ?_
          refine Li Mv ?_
          refine Li Cm ?_
          refine Li Pf ?_
          refine g_ne ?_
          refine g_cond_f rfl (by rfl) ?_
          refine g_skip ?_
          refine e_block ?_
          refine e_then ?_
          refine g_region ?_
          refine Li Mv ?_
          refine Li Im ?_
          refine Li As ?_
          refine g_nil ?_
          refine Hh (H' := [pts b1 39 [.bool false, .int .i64 0, .int .i64 0, .int .u64 0, .int .u64 0, .slice ae1 0 ce1, strv [], .slice av1 0 cv1, .bool false]]) ?_
          refine Ro (i + 1) (⟨by omega, by omega⟩) (by omega)
        · intro hc
          replace hc := nrm hc
          refine g_exit ?_
          refine e_then_exit ?_
          refine e_then_exit ?_
          refine e_block_hit ?_
          refine e_then ?_
          refine g_seq ?_
          refine g_sr ?_
          refine Li Mv ?_
          refine Li Cm ?_
          refine g_ne ?_
          refine g_cond_t rfl (by rfl) ?_
          refine g_sr ?_
          refine Lp (oLN T.ag_39 ?_)
          refine Li (Bd T.zc_39 T.st_39) ?_
          refine Lp (oC T.fn_25 rfl rfl (same_zero ae1 av1 ce1 cv1) .nil (fun _ _ _ => trivial) ?_)
          rintro v H' ⟨rfl, rfl⟩
          try simp only [nap, cap]
          refine Li Mv ?_
          refine g_slot (t := 101) (v' := .bool true) rfl (congrArg Value.bool (by rfl)) ?_
          refine Lp (oC T.fn_21 rfl rfl (wakes_fn) .nil (fun _ _ _ => trivial) ?_)
          rintro v H' ⟨rfl, rfl⟩
          try simp only [nap, cap]
          refine Li Pt ?_
          refine Li As ?_
          refine g_ne ?_
          refine g_ret ?_
          refine e_then_ret ?_
          refine Rt [] Try.results7 ?_
          exact ⟨rfl, rfl⟩
    · obtain ⟨h2, _⟩ := readP_full S U 12000 hb hs
      have hs' := hs
      unfold Short at hs'
      have hge := wholeN_ge S
      obtain ⟨g1, g2, g3⟩ := badB_room hb (by omega)
      have hlg : decide (max (12000 : Int) 0 < (wholeN S : Int) - frontN S) = false := by simp; omega
      have h1 : readP S 12000 = (decP S false, wholeN S, 0) := by unfold readP; rw [hb, if_neg (by simp), if_neg hs', hlg]
      rw [hlg] at h2
      obtain ⟨k1, k2, k3, k4⟩ := enc_decP S hb hs
      have k5 := enc_length (decP S false)
      have k6 : (enc (decP S false)).length = wholeN S := by rw [k2]; simp; omega
      have k7 : (decP S false).large = false := rfl

      rw [h1] at hR1
      rw [h2] at hR2
      cases hR1
      cases hR2
      ·
        refine Li Cm ?_
        refine g_ne ?_
        refine g_cond_f rfl (by rfl) ?_
        refine g_skip ?_
        refine e_then ?_
        refine g_seq ?_
        refine g_sr ?_
        refine Li As ?_
        refine g_ne ?_
        refine g_block ?_
        refine Lo (ι := Nat) [67, 68, 69, 70, 71, 72, 73, 74, 75, 76, 77, 78, 82, 83, 84, 85, 81, 86, 87, 88, 13, 14, 15, 89, 90, 91, 92, 93, 94, 95, 4, 79, 80, 12] (fun u => u ≤ 0) (fun u => [(12, .int .i64 0)]) (fun u => [pts b3 39 (pktCells (decP S false) ae2 ce2 av2 cv2), own ae2 ce2 5 1 (bcells (decP S false).ex), own av2 cv2 5 1 (bcells (decP S false).val), pts b1 39 (pktCells (decP S false) ae1 ce1 av1 cv1), own ae1 ce1 5 1 (bcells (decP S false).ex), own av1 cv1 5 1 (bcells (decP S false).val)]) (fun u => 0) (0) (Nat.le_refl _) ?_
        rintro u hu
        refine g_seq ?_
        refine g_sr ?_
        refine Li Mv ?_
        refine Li Mv ?_
        refine Li (Ln T.sl_37) ?_
        refine Li Cm ?_
        refine Li Mv ?_
        refine g_slot (t := 71) (v' := .bool true) rfl (congrArg Value.bool (by simp; omega)) ?_
        refine Li Mv ?_
        refine Li Cm ?_
        refine Li Pt ?_
        refine Li Mv ?_
        refine g_slot (t := 75) (v' := .bool true) rfl (congrArg Value.bool (by rfl)) ?_
        refine Li Mv ?_
        refine Li Cm ?_
        refine Li Pt ?_
        refine g_ne ?_
        refine g_cond_f rfl (by simp; omega) ?_
        refine g_exit ?_
        refine e_then_exit ?_
        refine e_then_exit ?_
        refine e_block_hit ?_
        refine e_then ?_
        refine g_seq ?_
        refine g_sr ?_
        refine Li Mv ?_
        refine Li Cm ?_
        refine g_ne ?_
        refine g_cond_f rfl (by simp; omega) ?_
        refine g_skip ?_
        refine e_then ?_
        refine g_sr ?_
        refine Lp (oLN T.ag_39 ?_)
        refine Lp (oC T.fn_15 rfl rfl (bytes_ok (decP S false) ae1 ce1 av1 cv1 k1 (by omega) k3) .nil (fun _ le hin => ⟨own_in (hin.nth 4 rfl), own_in (hin.nth 5 rfl)⟩) ?_)
        rintro v H' ⟨ag, cg, rfl, rfl⟩
        try simp only [nap, cap]
        refine Li Mv ?_
        refine Li Ex ?_
        refine Li Ex ?_
        refine Li As ?_
        refine Li As ?_
        refine g_ne ?_
        refine g_seq ?_
        refine g_drw T.mix (.cons .here (.cons .here (.cons .here (.cons .here (.cons .here (.cons .here (.cons .here .nil))))))) fun F1 le1 hin1 back1 => ?_
        obtain ⟨hg, hb3, he2, hv2, hb1, he1, hv1, _⟩ := hin1
        have rg := own_in hg
        have hKl : wholeN S - 0 = (S.take (wholeN S)).length := by simp; omega
        have rS : Rdl F1.h (cutA ax 0 cx (0 * 1)) (bcells (S.take (wholeN S))) := (cut2 hX 0 cx (wholeN S) (by omega)).mono le1
        have re1 := own_in he1
        have rv1 := own_in hv1
        have re2 := own_in he2
        have rv2 := own_in hv2
        refine Dt 0 rfl Mv ?_
        refine Dt 1 rfl Mv ?_
        refine Dt 2 rfl (Ln T.sl_37) ?_
        refine Dt 3 rfl Cm ?_
        refine Dt 4 rfl Mv ?_
        refine g_slot (t := 113) (v' := .bool true) rfl (congrArg Value.bool (by simp; omega)) ?_
        refine Dt 5 rfl Mv ?_
        refine Dn 6 ?_
        refine Do rfl (oC T.fn_17 rfl rfl (num_fn 0) .nil (fun _ _ _ => trivial) ?_)
        rintro v H' ⟨rfl, rfl⟩
        try simp only [nap, cap]
        refine gh_next ?_
        refine Dt 7 rfl Cm ?_
        refine Dt 8 rfl Pt ?_
        refine Dt 9 rfl Mv ?_
        refine g_slot (t := 118) (v' := .bool true) rfl (congrArg Value.bool (by rfl)) ?_
        refine Dt 10 rfl Mv ?_
        refine Dt 11 rfl Mv ?_
        refine Dt 12 rfl Cm ?_
        refine Dt 13 rfl Pt ?_
        refine Dt 14 rfl Mv ?_
        refine g_slot (t := 123) (v' := .bool true) rfl (congrArg Value.bool (by simp)) ?_
        refine Dt 15 rfl (LfN T.ag_39) ?_
        refine Dt 16 rfl (LfN T.ag_39) ?_
        refine Dn 17 ?_
        refine Do rfl (oC T.fn_25 rfl rfl (same_fn (decP S false) (decP S false) ae1 av1 ae2 av2 ce1 cv1 ce2 cv2) .nil (fun _ le _ => ⟨⟨re1.mono le, rv1.mono le⟩, ⟨re2.mono le, rv2.mono le⟩⟩) ?_)
        rintro v H' ⟨rfl, rfl⟩
        try simp only [nap, cap]
        refine gh_next ?_
        refine Dt 18 rfl Pt ?_
        refine Dt 19 rfl Mv ?_
        refine g_slot (t := 128) (v' := .bool true) rfl (congrArg Value.bool (by exact sameB_refl _)) ?_
        refine Dt 20 rfl (Fa T.fld_39_8) ?_
        refine Dt 21 rfl (Lf T.sc_4) ?_
        refine Dt 22 rfl Nt ?_
        refine Dt 23 rfl Pt ?_
        refine Dt 24 rfl Mv ?_
        refine g_slot (t := 133) (v' := .bool true) rfl (congrArg Value.bool (by rw [k7]; rfl)) ?_
        refine Dt 25 rfl Mv ?_
        refine Dn 26 ?_
        refine Do rfl (oC T.fn_17 rfl rfl (num_fn 0) .nil (fun _ _ _ => trivial) ?_)
        rintro v H' ⟨rfl, rfl⟩
        try simp only [nap, cap]
        refine gh_next ?_
        refine Dt 27 rfl Cm ?_
        refine Dt 28 rfl Pt ?_
        refine Dt 29 rfl Mv ?_
        refine g_slot (t := 138) (v' := .bool true) rfl (congrArg Value.bool (by rfl)) ?_
        refine Dt 30 rfl Mv ?_
        refine Dt 31 rfl (Ts T.sl_37 T.u_5 T.u_9) ?_
        refine Dt 32 rfl Mv ?_
        refine Dt 33 rfl Mv ?_
        refine Dt 34 rfl (Sl 0 _ _ T.sl_37) ?_
        refine Dt 35 rfl (Ts T.sl_37 T.u_5 T.u_9) ?_
        refine Dt 36 rfl Sq ?_
        refine Dt 37 rfl Pt ?_
        refine Dt 38 rfl Mv ?_
        refine g_slot (t := 147) (v' := .bool true) rfl (congrArg Value.bool (by simp [k2])) ?_
        refine Dn 39 ?_
        refine Do rfl (oC T.fn_21 rfl rfl (wakes_fn) .nil (fun _ _ _ => trivial) ?_)
        rintro v H' ⟨rfl, rfl⟩
        try simp only [nap, cap]
        refine gh_next ?_
        refine Dt 40 rfl Pt ?_
        refine Dt 41 rfl As ?_
        refine gh_done (by kernel_rfl) back1 ?_
        refine e_then ?_
        refine g_ret ?_
        refine Rt [] Try.results7 ?_
        exact ⟨rfl, rfl⟩
end Go.Proofs.Ytggmpaggmkfmoaa

