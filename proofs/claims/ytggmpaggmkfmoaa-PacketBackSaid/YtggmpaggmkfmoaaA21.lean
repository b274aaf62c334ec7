/- Packets: what Bytes writes Read tells again. -/
import Derived.Test.YtggmpaggmkfmoaaA20
set_option maxRecDepth 100000
namespace Go.Proofs.Ytggmpaggmkfmoaa
open Go Go.Eng

theorem bytes_no (p : Pkt) (ae : Option Addr) (ce : Nat) (av : Option Addr) (cv : Nat) (ok : okP p = false) (hlen : p.body ≤ 1099511627776) (htok : p.token < 18446744073709551616) :
    FnS Try.prog 15 [.agg (pktCells p ae ce av cv).toArray] (fun h => Rdl h ae (bcells p.ex) ∧ Rdl h av (bcells p.val)) []
      (fun v H => v = .tuple #[.slice none 0 0, .int .i64 7] ∧ H = []) :=
  (bytes_fn p ae ce av cv hlen htok).imp (fun _ q => q) fun v H r => by
    rcases r with ⟨q, _⟩ | ⟨_, rfl, rfl⟩
    · rw [ok] at q; cases q
    · exact ⟨rfl, rfl⟩
def backCells (p : Pkt) (ae : Option Addr) (ce : Nat) (av : Option Addr) (cv : Nat) (tail : List UInt8) (at' : Option Addr) (ct : Nat) (more cut : Int) : List Value :=
  [.bool p.reply, .int .i64 p.op, .int .i64 p.status, .int .u64 p.opq, .int .u64 p.token, .slice ae p.ex.length ce, strv p.key, .slice av p.val.length cv, .bool p.large, .slice at' tail.length ct, .int .i64 more, .int .i64 cut]

set_option maxHeartbeats 8000000 in
theorem back_fn (p : Pkt) (ae : Option Addr) (ce : Nat) (av : Option Addr) (cv : Nat) (tail : List UInt8) (at' : Option Addr) (ct : Nat) (more cut : Int) (he : p.ex.length ≤ ce) (hv : p.val.length ≤ cv) (ht : tail.length ≤ ct) (htok : p.token < 18446744073709551616)
    (q1 : -9223372036854775808 ≤ more) (q2 : more ≤ 9223372036854775807) :
    FnS Try.prog 6 [.agg (backCells p ae ce av cv tail at' ct more cut).toArray] (fun h => (Rdl h ae (bcells p.ex) ∧ Rdl h av (bcells p.val)) ∧ Rdl h at' (bcells tail)) [] (fun v H => v = .bool true ∧ H = []) := by
  dsimp only [backCells]

  refine fn_body Try.func6 rfl Try.ntmps6 rfl ?_
  rintro F ⟨⟨hE, hV⟩, hT⟩
  have hct := cap12_len tail
  refine g_sr ?_
  refine Lp (oB fun b1 => ?_)
  refine Li As ?_
  refine g_ne ?_
  refine g_sr ?_
  refine Li (Fa T.fld_70_0) ?_
  refine Lp (oLN T.ag_39 ?_)
  refine Lp (oC T.fn_13 rfl rfl (fit_fn p ae av ce cv he hv) .nil (fun _ _ _ => trivial) ?_)
  rintro v H' ⟨ae1, ce1, av1, cv1, rfl, he1, hv1, hre, hrv, rfl⟩
  try simp only [nap, cap]
  have hE := hre _ hE
  have hV := hrv _ hV
  clear hre hrv
  have htok1 : (fitP p).token < 18446744073709551616 := htok
  have hbod : (fitP p).body ≤ 36000 := by
    have h1 := cap12_len p.ex
    have h2 := cap12_len p.key
    have h3 := cap12_len p.val
    unfold Pkt.body fitP; dsimp only; omega
  generalize hq : fitP p = q at *
  dsimp only [pktCells]
  refine Lp (oA T.zc_39 fun b2 => ?_)
  refine Lp (oSW T.ag_39 ?_)
  refine g_ne ?_
  refine g_sr ?_
  refine Lp (oLN T.ag_39 ?_)
  cases hok : okP q with
  | false =>
    ·
      refine Lp (oC T.fn_15 rfl rfl (bytes_no q ae1 ce1 av1 cv1 hok (by omega) htok1) .nil (fun _ le _ => ⟨hE.mono le, hV.mono le⟩) ?_)
      rintro v H' ⟨rfl, rfl⟩
      try simp only [nap, cap]
      refine Li Mv ?_
      refine Li Ex ?_
      refine Li Ex ?_
      refine Li As ?_
      refine Li As ?_
      refine g_ne ?_
      refine g_seq ?_
      refine g_sr ?_
      refine Li Mv ?_
      refine Lp (oC T.fn_17 rfl rfl (num_fn 7) .nil (fun _ _ _ => trivial) ?_)
      rintro v H' ⟨rfl, rfl⟩
      try simp only [nap, cap]
      refine Li Cm ?_
      refine g_ne ?_
      refine g_cond_t rfl (by rfl) ?_
      refine g_sr ?_
      refine Li Mv ?_
      refine Lp (oC T.fn_17 rfl rfl (num_fn 7) .nil (fun _ _ _ => trivial) ?_)
      rintro v H' ⟨rfl, rfl⟩
      try simp only [nap, cap]
      refine Li Cm ?_
      refine Li Mv ?_
      refine g_slot (t := 32) (v' := .bool true) rfl (congrArg Value.bool (by rfl)) ?_
      refine Li Mv ?_
      refine Li (Ln T.sl_37) ?_
      refine Li Cm ?_
      refine Li Pt ?_
      refine Li Mv ?_
      refine g_slot (t := 37) (v' := .bool true) rfl (congrArg Value.bool (by rfl)) ?_
      refine Lp (oC T.fn_21 rfl rfl (wakes_fn) .nil (fun _ _ _ => trivial) ?_)
      rintro v H' ⟨rfl, rfl⟩
      try simp only [nap, cap]
      refine Li Pt ?_
      refine Li As ?_
      refine g_ne ?_
      refine g_ret ?_
      refine e_then_ret ?_
      refine Rt [] Try.results6 ?_
      exact ⟨rfl, rfl⟩
  | true =>
    ·
      refine Lp (oC T.fn_15 rfl rfl (bytes_ok q ae1 ce1 av1 cv1 hok (by omega) htok1) .nil (fun _ le _ => ⟨hE.mono le, hV.mono le⟩) ?_)
      rintro v H' ⟨ag, cg, rfl, rfl⟩
      try simp only [nap, cap]
      have hlen := enc_length q
      refine Li Mv ?_
      refine Li Ex ?_
      refine Li Ex ?_
      refine Li As ?_
      refine Li As ?_
      refine g_ne ?_
      refine g_seq ?_
      refine g_sr ?_
      refine Li Mv ?_
      refine Lp (oC T.fn_17 rfl rfl (num_fn 0) .nil (fun _ _ _ => trivial) ?_)
      rintro v H' ⟨rfl, rfl⟩
      try simp only [nap, cap]
      refine Li Cm ?_
      refine g_ne ?_
      refine g_cond_f rfl (by rfl) ?_


      refine g_skip ?_
      refine e_then ?_
      refine g_sr ?_
      refine Li (Fa T.fld_70_2) ?_
      refine Lp (oL T.sc_3 ?_)
      refine Li As ?_
      refine g_ne ?_
      refine g_seq ?_
      refine g_mid (ι := Nat) [42, 43, 44, 45, 46, 47, 6] (fun M => M ≤ 1099511627776) (fun M => [(6, .int .i64 (M : Int))]) (fun M => [own ag cg 5 1 (bcells (enc q)), pts b2 39 [.bool q.reply, .int .i64 q.op, .int .i64 q.status, .int .u64 q.opq, .int .u64 q.token, .slice ae1 q.ex.length ce1, strv q.key, .slice av1 q.val.length cv1, .bool q.large], pts b1 70 [.bool p.reply, .int .i64 p.op, .int .i64 p.status, .int .u64 p.opq, .int .u64 p.token, .slice ae p.ex.length ce, strv p.key, .slice av p.val.length cv, .bool p.large, .slice at' tail.length ct, .int .i64 more, .int .i64 cut]]) ?_ ?_
      · refine g_sr ?_
        refine Li Mv ?_
        refine Li Cm ?_
        refine Li Mv ?_
        refine g_split (t := 44) rfl ?_ ?_
        · intro h1
          replace h1 := nrm h1
          refine Lx ?_
          refine Lx ?_
          refine Li Pt ?_
          refine g_ne ?_
          refine g_cond_t rfl rfl ?_
          refine g_region ?_
          refine Li As ?_
          refine g_nil ?_
          refine Me (0) ((by omega))
        · intro h1
          replace h1 := nrm h1
          refine Li Mv ?_
          refine Li Cm ?_
          refine Li Pf ?_
          refine g_ne ?_
          refine g_cond rfl ?_ ?_
          · intro h2
            replace h2 := nrm h2
            refine g_region ?_
            refine Li As ?_
            refine g_nil ?_
            refine Me (0) ((by omega))
          · intro h2
            replace h2 := nrm h2
            refine g_skip ?_
            refine Me (more.toNat) ((by omega))
      rintro M hM
      refine g_seq ?_
      have hct := cap12_len tail
      have hvl : q.val.length ≤ 36000 := by unfold Pkt.body at hbod; omega
      have hrd : readP (enc q ++ cap12 tail) (q.val.length + M) = (q, (enc q).length, 0) := read_enc q (cap12 tail) hok htok1 _ (by omega)
      refine g_mid (ι := Nat × Option Addr × Nat × Option Addr × Nat) [49, 50, 51, 52, 53, 54, 55, 56, 57, 58, 59, 60, 61, 48, 62, 63, 64, 7, 8, 9] (fun (b7, ae2, ce2, av2, cv2) => True) (fun (b7, ae2, ce2, av2, cv2) => [(7, .pointer (some ⟨b7, 0, none⟩)), (8, .int .i64 ((enc q).length : Int)), (9, .int .i64 0)]) (fun (b7, ae2, ce2, av2, cv2) => [pts b7 39 (pktCells q ae2 ce2 av2 cv2), own ae2 ce2 5 1 (bcells q.ex), own av2 cv2 5 1 (bcells q.val), own ag cg 5 1 (bcells (enc q)), pts b2 39 [.bool q.reply, .int .i64 q.op, .int .i64 q.status, .int .u64 q.opq, .int .u64 q.token, .slice ae1 q.ex.length ce1, strv q.key, .slice av1 q.val.length cv1, .bool q.large], pts b1 70 [.bool p.reply, .int .i64 p.op, .int .i64 p.status, .int .u64 p.opq, .int .u64 p.token, .slice ae p.ex.length ce, strv p.key, .slice av p.val.length cv, .bool p.large, .slice at' tail.length ct, .int .i64 more, .int .i64 cut]]) ?_ ?_
      · refine g_drw T.mix (.cons .here (.cons .here (.cons .here .nil))) fun F1 le1 hin1 back1 => ?_
        obtain ⟨hg, hb2, hb1, _⟩ := hin1
        have rg := own_in hg
        have hT1 := hT.mono le1
        refine Dt 1 rfl Mv ?_
        refine Dt 3 rfl (Fa T.fld_70_1) ?_
        refine Dt 4 rfl (Lf T.sc_37) ?_
        refine Dt 7 rfl (Fa T.fld_39_7) ?_
        refine Dt 8 rfl (Lf T.sc_37) ?_
        refine Dt 9 rfl (Ln T.sl_37) ?_
        refine Dt 10 rfl Mv ?_
        refine Dt 11 rfl Im ?_
        refine D2 0 17 ?_ ?_
        · refine Do rfl (oT T.ap_37 fun b3 => ?_)
          refine g_heap (fun _ s => starL_cons_mono (fun _ p => own_of_pts p 0 1 (by simp) (by simp [maxLen])) s) ?_
          refine gh_next ?_
          refine D2 2 17 ?_ ?_
          · refine Do rfl (op_append T.ap_37 T.ni_37 rfl rfl rfl rfl .here (rfl) (src_slice (m := (enc q).length) (by simp) fun h le _ => rg.mono le) (by first | exact bcells_one | (simp [Value.oneCell', strv])) (by first | omega | (simp; omega)) (by first | omega | (simp; omega)) rfl fun a4 c4 hc4 => ?_)
            refine gh_next ?_
            refine D2 5 17 ?_ ?_
            · refine Do rfl (oC T.fn_22 rfl rfl (bytes22_fn tail at' tail.length ct rfl ht) .nil (fun _ _ _ => trivial) ?_)
              rintro v H' ⟨ay, cy, rfl, hcy, hry, rfl⟩
              try simp only [nap, cap]
              have hY := hry _ hT1
              refine gh_next ?_
              refine D2 6 17 ?_ ?_
              · refine Do rfl (op_append T.ap_37 T.ni_37 rfl rfl rfl rfl .here (by simp) (src_slice (m := (cap12 tail).length) (by simp) fun h le _ => hY.mono le) (by first | exact bcells_one | (simp [Value.oneCell', strv])) (by first | omega | (simp; omega)) (by first | omega | (simp; omega)) rfl fun a5 c5 hc5 => ?_)
                refine gh_next ?_
                refine D2 12 17 ?_ ?_
                · refine Do rfl (oC T.fn_23 rfl rfl (read_fn (enc q ++ cap12 tail) a5 (0 + (enc q).length + (cap12 tail).length) c5 (q.val.length + M) (by simp) hc5 (by simp; omega) (by omega) (by omega)) .nil (fun _ le hin => by simpa using own_in (hin.nth 0 rfl)) ?_)
                  rintro v H' ⟨ae2, ce2, av2, cv2, rfl, rfl⟩
                  try simp only [nap, cap]
                  rw [hrd]
                  dsimp only [pktCells]
                  refine gh_next ?_
                  refine Dt 13 rfl Mv ?_
                  refine Dt 14 rfl Ex ?_
                  refine Dt 15 rfl Ex ?_
                  refine Dt 16 rfl Ex ?_
                  refine Dn 17 ?_
                  refine Do rfl (oA T.zc_39 fun b4 => ?_)
                  refine gh_next ?_
                  refine Dn 18 ?_
                  refine Do rfl (oSW T.ag_39 ?_)
                  refine gh_next ?_
                  refine Dt 19 rfl As ?_
                  refine Dt 20 rfl As ?_
                  refine gh_done (by kernel_rfl) back1 ?_
                  refine Hh (H' := [pts b4 39 (pktCells q ae2 ce2 av2 cv2), own ae2 ce2 5 1 (bcells q.ex), own av2 cv2 5 1 (bcells q.val), own ag cg 5 1 (bcells (enc q)), pts b2 39 [.bool q.reply, .int .i64 q.op, .int .i64 q.status, .int .u64 q.opq, .int .u64 q.token, .slice ae1 q.ex.length ce1, strv q.key, .slice av1 q.val.length cv1, .bool q.large], pts b1 70 [.bool p.reply, .int .i64 p.op, .int .i64 p.status, .int .u64 p.opq, .int .u64 p.token, .slice ae p.ex.length ce, strv p.key, .slice av p.val.length cv, .bool p.large, .slice at' tail.length ct, .int .i64 more, .int .i64 cut]]) ?_
                  refine Me ((b4, ae2, ce2, av2, cv2)) (trivial)
                · refine Do rfl (oA T.zc_39 fun b5 => ?_)
                  refine gh_next ?_
                  refine Dn 12 ?_
                  refine Do rfl (oC T.fn_23 rfl rfl (read_fn (enc q ++ cap12 tail) a5 (0 + (enc q).length + (cap12 tail).length) c5 (q.val.length + M) (by simp) hc5 (by simp; omega) (by omega) (by omega)) .nil (fun _ le hin => by simpa using own_in (hin.nth 1 rfl)) ?_)
                  rintro v H' ⟨ae2, ce2, av2, cv2, rfl, rfl⟩
                  try simp only [nap, cap]
                  rw [hrd]
                  dsimp only [pktCells]
                  refine gh_next ?_
                  refine Dt 13 rfl Mv ?_
                  refine Dt 14 rfl Ex ?_
                  refine Dt 15 rfl Ex ?_
                  refine Dt 16 rfl Ex ?_
                  refine Dn 18 ?_
                  refine Do rfl (oSW T.ag_39 ?_)
                  refine gh_next ?_
                  refine Dt 19 rfl As ?_
                  refine Dt 20 rfl As ?_
                  refine gh_done (by kernel_rfl) back1 ?_
                  refine Hh (H' := [pts b5 39 (pktCells q ae2 ce2 av2 cv2), own ae2 ce2 5 1 (bcells q.ex), own av2 cv2 5 1 (bcells q.val), own ag cg 5 1 (bcells (enc q)), pts b2 39 [.bool q.reply, .int .i64 q.op, .int .i64 q.status, .int .u64 q.opq, .int .u64 q.token, .slice ae1 q.ex.length ce1, strv q.key, .slice av1 q.val.length cv1, .bool q.large], pts b1 70 [.bool p.reply, .int .i64 p.op, .int .i64 p.status, .int .u64 p.opq, .int .u64 p.token, .slice ae p.ex.length ce, strv p.key, .slice av p.val.length cv, .bool p.large, .slice at' tail.length ct, .int .i64 more, .int .i64 cut]]) ?_
                  refine Me ((b5, ae2, ce2, av2, cv2)) (trivial)
              · refine Do rfl (oA T.zc_39 fun b6 => ?_)
                refine gh_next ?_
                refine Dn 6 ?_
                refine Do rfl (op_append T.ap_37 T.ni_37 rfl rfl rfl rfl (.there .here) (by simp) (src_slice (m := (cap12 tail).length) (by simp) fun h le _ => hY.mono le) (by first | exact bcells_one | (simp [Value.oneCell', strv])) (by first | omega | (simp; omega)) (by first | omega | (simp; omega)) rfl fun a5 c5 hc5 => ?_)
                refine gh_next ?_
                refine Dn 12 ?_
                refine Do rfl (oC T.fn_23 rfl rfl (read_fn (enc q ++ cap12 tail) a5 (0 + (enc q).length + (cap12 tail).length) c5 (q.val.length + M) (by simp) hc5 (by simp; omega) (by omega) (by omega)) .nil (fun _ le hin => by simpa using own_in (hin.nth 1 rfl)) ?_)
                rintro v H' ⟨ae2, ce2, av2, cv2, rfl, rfl⟩
                try simp only [nap, cap]
                rw [hrd]
                dsimp only [pktCells]
                refine gh_next ?_
                refine Dt 13 rfl Mv ?_
                refine Dt 14 rfl Ex ?_
                refine Dt 15 rfl Ex ?_
                refine Dt 16 rfl Ex ?_
                refine Dn 18 ?_
                refine Do rfl (oSW T.ag_39 ?_)
                refine gh_next ?_
                refine Dt 19 rfl As ?_
                refine Dt 20 rfl As ?_
                refine gh_done (by kernel_rfl) back1 ?_
                refine Hh (H' := [pts b6 39 (pktCells q ae2 ce2 av2 cv2), own ae2 ce2 5 1 (bcells q.ex), own av2 cv2 5 1 (bcells q.val), own ag cg 5 1 (bcells (enc q)), pts b2 39 [.bool q.reply, .int .i64 q.op, .int .i64 q.status, .int .u64 q.opq, .int .u64 q.token, .slice ae1 q.ex.length ce1, strv q.key, .slice av1 q.val.length cv1, .bool q.large], pts b1 70 [.bool p.reply, .int .i64 p.op, .int .i64 p.status, .int .u64 p.opq, .int .u64 p.token, .slice ae p.ex.length ce, strv p.key, .slice av p.val.length cv, .bool p.large, .slice at' tail.length ct, .int .i64 more, .int .i64 cut]]) ?_
                refine Me ((b6, ae2, ce2, av2, cv2)) (trivial)
            · refine Do rfl (oA T.zc_39 fun b7 => ?_)
              refine gh_next ?_
              refine Dn 5 ?_
              refine Do rfl (oC T.fn_22 rfl rfl (bytes22_fn tail at' tail.length ct rfl ht) .nil (fun _ _ _ => trivial) ?_)
              rintro v H' ⟨ay, cy, rfl, hcy, hry, rfl⟩
              try simp only [nap, cap]
              have hY := hry _ hT1
              refine gh_next ?_
              refine Dn 6 ?_
              refine Do rfl (op_append T.ap_37 T.ni_37 rfl rfl rfl rfl (.there .here) (by simp) (src_slice (m := (cap12 tail).length) (by simp) fun h le _ => hY.mono le) (by first | exact bcells_one | (simp [Value.oneCell', strv])) (by first | omega | (simp; omega)) (by first | omega | (simp; omega)) rfl fun a5 c5 hc5 => ?_)
              refine gh_next ?_
              refine Dn 12 ?_
              refine Do rfl (oC T.fn_23 rfl rfl (read_fn (enc q ++ cap12 tail) a5 (0 + (enc q).length + (cap12 tail).length) c5 (q.val.length + M) (by simp) hc5 (by simp; omega) (by omega) (by omega)) .nil (fun _ le hin => by simpa using own_in (hin.nth 1 rfl)) ?_)
              rintro v H' ⟨ae2, ce2, av2, cv2, rfl, rfl⟩
              try simp only [nap, cap]
              rw [hrd]
              dsimp only [pktCells]
              refine gh_next ?_
              refine Dt 13 rfl Mv ?_
              refine Dt 14 rfl Ex ?_
              refine Dt 15 rfl Ex ?_
              refine Dt 16 rfl Ex ?_
              refine Dn 18 ?_
              refine Do rfl (oSW T.ag_39 ?_)
              refine gh_next ?_
              refine Dt 19 rfl As ?_
              refine Dt 20 rfl As ?_
              refine gh_done (by kernel_rfl) back1 ?_
              refine Hh (H' := [pts b7 39 (pktCells q ae2 ce2 av2 cv2), own ae2 ce2 5 1 (bcells q.ex), own av2 cv2 5 1 (bcells q.val), own ag cg 5 1 (bcells (enc q)), pts b2 39 [.bool q.reply, .int .i64 q.op, .int .i64 q.status, .int .u64 q.opq, .int .u64 q.token, .slice ae1 q.ex.length ce1, strv q.key, .slice av1 q.val.length cv1, .bool q.large], pts b1 70 [.bool p.reply, .int .i64 p.op, .int .i64 p.status, .int .u64 p.opq, .int .u64 p.token, .slice ae p.ex.length ce, strv p.key, .slice av p.val.length cv, .bool p.large, .slice at' tail.length ct, .int .i64 more, .int .i64 cut]]) ?_
              refine Me ((b7, ae2, ce2, av2, cv2)) (trivial)
          · refine Do rfl (oA T.zc_39 fun b8 => ?_)
            refine gh_next ?_
            refine Dn 2 ?_
            refine Do rfl (op_append T.ap_37 T.ni_37 rfl rfl rfl rfl (.there .here) (rfl) (src_slice (m := (enc q).length) (by simp) fun h le _ => rg.mono le) (by first | exact bcells_one | (simp [Value.oneCell', strv])) (by first | omega | (simp; omega)) (by first | omega | (simp; omega)) rfl fun a4 c4 hc4 => ?_)
            refine gh_next ?_
            refine Dn 5 ?_
            refine Do rfl (oC T.fn_22 rfl rfl (bytes22_fn tail at' tail.length ct rfl ht) .nil (fun _ _ _ => trivial) ?_)
            rintro v H' ⟨ay, cy, rfl, hcy, hry, rfl⟩
            try simp only [nap, cap]
            have hY := hry _ hT1
            refine gh_next ?_
            refine Dn 6 ?_
            refine Do rfl (op_append T.ap_37 T.ni_37 rfl rfl rfl rfl (.there .here) (by simp) (src_slice (m := (cap12 tail).length) (by simp) fun h le _ => hY.mono le) (by first | exact bcells_one | (simp [Value.oneCell', strv])) (by first | omega | (simp; omega)) (by first | omega | (simp; omega)) rfl fun a5 c5 hc5 => ?_)
            refine gh_next ?_
            refine Dn 12 ?_
            refine Do rfl (oC T.fn_23 rfl rfl (read_fn (enc q ++ cap12 tail) a5 (0 + (enc q).length + (cap12 tail).length) c5 (q.val.length + M) (by simp) hc5 (by simp; omega) (by omega) (by omega)) .nil (fun _ le hin => by simpa using own_in (hin.nth 1 rfl)) ?_)
            rintro v H' ⟨ae2, ce2, av2, cv2, rfl, rfl⟩
            try simp only [nap, cap]
            rw [hrd]
            dsimp only [pktCells]
            refine gh_next ?_
            refine Dt 13 rfl Mv ?_
            refine Dt 14 rfl Ex ?_
            refine Dt 15 rfl Ex ?_
            refine Dt 16 rfl Ex ?_
            refine Dn 18 ?_
            refine Do rfl (oSW T.ag_39 ?_)
            refine gh_next ?_
            refine Dt 19 rfl As ?_
            refine Dt 20 rfl As ?_
            refine gh_done (by kernel_rfl) back1 ?_
            refine Hh (H' := [pts b8 39 (pktCells q ae2 ce2 av2 cv2), own ae2 ce2 5 1 (bcells q.ex), own av2 cv2 5 1 (bcells q.val), own ag cg 5 1 (bcells (enc q)), pts b2 39 [.bool q.reply, .int .i64 q.op, .int .i64 q.status, .int .u64 q.opq, .int .u64 q.token, .slice ae1 q.ex.length ce1, strv q.key, .slice av1 q.val.length cv1, .bool q.large], pts b1 70 [.bool p.reply, .int .i64 p.op, .int .i64 p.status, .int .u64 p.opq, .int .u64 p.token, .slice ae p.ex.length ce, strv p.key, .slice av p.val.length cv, .bool p.large, .slice at' tail.length ct, .int .i64 more, .int .i64 cut]]) ?_
            refine Me ((b8, ae2, ce2, av2, cv2)) (trivial)
        · refine Do rfl (oA T.zc_39 fun b9 => ?_)
          refine gh_next ?_
          refine Dn 0 ?_
          refine Do rfl (oT T.ap_37 fun b10 => ?_)
          refine gh_next ?_
          refine g_heap (fun _ s => starL_cons_mono (fun _ p => own_of_pts p 0 1 (by simp) (by simp [maxLen])) s) ?_
          refine Dn 2 ?_
          refine Do rfl (op_append T.ap_37 T.ni_37 rfl rfl rfl rfl .here (rfl) (src_slice (m := (enc q).length) (by simp) fun h le _ => rg.mono le) (by first | exact bcells_one | (simp [Value.oneCell', strv])) (by first | omega | (simp; omega)) (by first | omega | (simp; omega)) rfl fun a4 c4 hc4 => ?_)
          refine gh_next ?_
          refine Dn 5 ?_
          refine Do rfl (oC T.fn_22 rfl rfl (bytes22_fn tail at' tail.length ct rfl ht) .nil (fun _ _ _ => trivial) ?_)
          rintro v H' ⟨ay, cy, rfl, hcy, hry, rfl⟩
          try simp only [nap, cap]
          have hY := hry _ hT1
          refine gh_next ?_
          refine Dn 6 ?_
          refine Do rfl (op_append T.ap_37 T.ni_37 rfl rfl rfl rfl .here (by simp) (src_slice (m := (cap12 tail).length) (by simp) fun h le _ => hY.mono le) (by first | exact bcells_one | (simp [Value.oneCell', strv])) (by first | omega | (simp; omega)) (by first | omega | (simp; omega)) rfl fun a5 c5 hc5 => ?_)
          refine gh_next ?_
          refine Dn 12 ?_
          refine Do rfl (oC T.fn_23 rfl rfl (read_fn (enc q ++ cap12 tail) a5 (0 + (enc q).length + (cap12 tail).length) c5 (q.val.length + M) (by simp) hc5 (by simp; omega) (by omega) (by omega)) .nil (fun _ le hin => by simpa using own_in (hin.nth 0 rfl)) ?_)
          rintro v H' ⟨ae2, ce2, av2, cv2, rfl, rfl⟩
          try simp only [nap, cap]
          rw [hrd]
          dsimp only [pktCells]
          refine gh_next ?_
          refine Dt 13 rfl Mv ?_
          refine Dt 14 rfl Ex ?_
          refine Dt 15 rfl Ex ?_
          refine Dt 16 rfl Ex ?_
          refine Dn 18 ?_
          refine Do rfl (oSW T.ag_39 ?_)
          refine gh_next ?_
          refine Dt 19 rfl As ?_
          refine Dt 20 rfl As ?_
          refine gh_done (by kernel_rfl) back1 ?_
          refine Hh (H' := [pts b9 39 (pktCells q ae2 ce2 av2 cv2), own ae2 ce2 5 1 (bcells q.ex), own av2 cv2 5 1 (bcells q.val), own ag cg 5 1 (bcells (enc q)), pts b2 39 [.bool q.reply, .int .i64 q.op, .int .i64 q.status, .int .u64 q.opq, .int .u64 q.token, .slice ae1 q.ex.length ce1, strv q.key, .slice av1 q.val.length cv1, .bool q.large], pts b1 70 [.bool p.reply, .int .i64 p.op, .int .i64 p.status, .int .u64 p.opq, .int .u64 p.token, .slice ae p.ex.length ce, strv p.key, .slice av p.val.length cv, .bool p.large, .slice at' tail.length ct, .int .i64 more, .int .i64 cut]]) ?_
          refine Me ((b9, ae2, ce2, av2, cv2)) (trivial)
      rintro ⟨b7, ae2, ce2, av2, cv2⟩ hI
      try dsimp only at hI ⊢
      have hE' := hE
      refine g_seq ?_
      refine g_sr ?_
      refine Li Mv ?_
      refine Lp (oC T.fn_17 rfl rfl (num_fn 0) .nil (fun _ _ _ => trivial) ?_)
      rintro v H' ⟨rfl, rfl⟩
      try simp only [nap, cap]
      refine Li Cm ?_
      refine Li Mv ?_
      refine g_slot (t := 68) (v' := .bool false) rfl (congrArg Value.bool (by rfl)) ?_
      refine Li Mv ?_
      refine Li Mv ?_
      refine Li (Ln T.sl_37) ?_
      refine Li Cm ?_
      refine Li Pf ?_
      refine Li Mv ?_
      refine g_slot (t := 74) (v' := .bool false) rfl (congrArg Value.bool (by simp)) ?_
      refine Lp (oLN T.ag_39 ?_)
      refine Lp (oLN T.ag_39 ?_)
      refine Lp (oC T.fn_25 rfl rfl (same_fn q q ae1 av1 ae2 av2 ce1 cv1 ce2 cv2) .nil (fun _ le hin => ⟨⟨hE.mono le, hV.mono le⟩, ⟨own_in (hin.nth 1 rfl), own_in (hin.nth 2 rfl)⟩⟩) ?_)
      rintro v H' ⟨rfl, rfl⟩
      try simp only [nap, cap]
      rw [sameB_refl]
      refine Li Nt ?_
      refine Li Pf ?_
      refine g_ne ?_
      refine g_cond_f rfl (by rfl) ?_
      refine g_skip ?_
      refine e_then ?_
      refine g_seq ?_
      refine g_sr ?_
      refine Li (Fa T.fld_39_7) ?_
      refine Lp (oL T.sc_37 ?_)
      refine Li (Ln T.sl_37) ?_
      refine Li Cm ?_
      refine g_ne ?_
      refine g_mid (ι := Unit) [85, 86, 87, 88, 89, 90, 84, 91, 92, 93, 10, 11, 12, 94, 13, 95, 96, 97, 98, 99, 100, 101, 102, 103, 104, 105, 106, 107, 108, 109, 110, 2] (fun u => True) (fun u => []) (fun u => [own ag cg 5 1 (bcells (enc q)), pts b2 39 [.bool q.reply, .int .i64 q.op, .int .i64 q.status, .int .u64 q.opq, .int .u64 q.token, .slice ae1 q.ex.length ce1, strv q.key, .slice av1 q.val.length cv1, .bool q.large], pts b1 70 [.bool p.reply, .int .i64 p.op, .int .i64 p.status, .int .u64 p.opq, .int .u64 p.token, .slice ae p.ex.length ce, strv p.key, .slice av p.val.length cv, .bool p.large, .slice at' tail.length ct, .int .i64 more, .int .i64 cut]]) ?_ ?_
      · refine g_cond rfl ?_ ?_
        · intro hv0
          replace hv0 := nrm hv0
          have hrl : readP (enc q) ((q.val.length : Int) - 1) = ({ q with val := [], large := true }, (enc q).length, 0) := by
            have := read_enc_large q [] hok htok1 ((q.val.length : Int) - 1) (by omega)
            rwa [List.append_nil] at this
          refine g_fact (X := (enc q).length ≤ cg) (fun h hin => by have := own_capb (hin.nth 3 rfl); simpa using this) fun hcg => ?_
          refine g_sr ?_
          refine Li Mv ?_
          refine Li (Fa T.fld_39_7) ?_
          refine Lp (oL T.sc_37 ?_)
          refine Li (Ln T.sl_37) ?_
          refine Li Im ?_
          refine Lp (oC T.fn_23 rfl rfl (read_fn (enc q) ag (enc q).length cg ((q.val.length : Int) - 1) rfl hcg (by omega) (by omega) (by omega)) .nil (fun _ le hin => own_in (hin.nth 3 rfl)) ?_)
          rintro v H' ⟨ae3, ce3, av3, cv3, rfl, rfl⟩
          try simp only [nap, cap]
          rw [hrl]
          dsimp only [pktCells]
          refine Li Mv ?_
          refine Li Ex ?_
          refine Li Ex ?_
          refine Li Ex ?_
          refine Lp (oA T.zc_39 fun b11 => ?_)
          refine Lp (oSW T.ag_39 ?_)
          refine Li As ?_
          refine Li As ?_
          refine g_ne ?_
          refine g_sr ?_
          refine Lp (oLN T.ag_39 ?_)
          refine Lp (oA T.zc_39 fun b12 => ?_)
          refine Lp (oSW T.ag_39 ?_)
          refine g_ne ?_
          refine g_sr ?_
          refine Li (Fa T.fld_39_7) ?_
          refine Lp (oS T.sc_37 ?_)
          refine g_ne ?_
          refine g_sr ?_
          refine Li (Fa T.fld_39_8) ?_
          refine Lp (oS T.sc_4 ?_)
          refine g_ne ?_
          refine g_sr ?_
          refine Li Mv ?_
          refine Lp (oC T.fn_17 rfl rfl (num_fn 0) .nil (fun _ _ _ => trivial) ?_)
          rintro v H' ⟨rfl, rfl⟩
          try simp only [nap, cap]
          refine Li Cm ?_
          refine Li Mv ?_
          refine g_slot (t := 100) (v' := .bool false) rfl (congrArg Value.bool (by rfl)) ?_
          refine Li Mv ?_
          refine Li Mv ?_
          refine Li Cm ?_
          refine Li Pf ?_
          refine Li Mv ?_
          refine g_slot (t := 105) (v' := .bool false) rfl (congrArg Value.bool (by simp)) ?_
          refine Lp (oLN T.ag_39 ?_)
          refine Lp (oLN T.ag_39 ?_)
          refine Lp (oC T.fn_25 rfl rfl (same_fn { q with val := [], large := true } { q with val := [], large := true } ae3 av3 ae1 none ce3 cv3 ce1 0) .nil (fun _ le hin => ⟨⟨own_in (hin.nth 2 rfl), own_in (hin.nth 3 rfl)⟩, ⟨hE.mono le, Rdl.nil⟩⟩) ?_)
          rintro v H' ⟨rfl, rfl⟩
          try simp only [nap, cap]
          rw [sameB_refl]
          refine Li Nt ?_
          refine Li Pf ?_
          refine g_ne ?_
          refine g_cond_f rfl (by rfl) ?_
          refine g_skip ?_
          refine Hh (H' := [own ag cg 5 1 (bcells (enc q)), pts b2 39 [.bool q.reply, .int .i64 q.op, .int .i64 q.status, .int .u64 q.opq, .int .u64 q.token, .slice ae1 q.ex.length ce1, strv q.key, .slice av1 q.val.length cv1, .bool q.large], pts b1 70 [.bool p.reply, .int .i64 p.op, .int .i64 p.status, .int .u64 p.opq, .int .u64 p.token, .slice ae p.ex.length ce, strv p.key, .slice av p.val.length cv, .bool p.large, .slice at' tail.length ct, .int .i64 more, .int .i64 cut]]) ?_
          refine Me (()) (trivial)
        · intro hv0
          replace hv0 := nrm hv0
          refine g_skip ?_
          refine Hh (H' := [own ag cg 5 1 (bcells (enc q)), pts b2 39 [.bool q.reply, .int .i64 q.op, .int .i64 q.status, .int .u64 q.opq, .int .u64 q.token, .slice ae1 q.ex.length ce1, strv q.key, .slice av1 q.val.length cv1, .bool q.large], pts b1 70 [.bool p.reply, .int .i64 p.op, .int .i64 p.status, .int .u64 p.opq, .int .u64 p.token, .slice ae p.ex.length ce, strv p.key, .slice av p.val.length cv, .bool p.large, .slice at' tail.length ct, .int .i64 more, .int .i64 cut]]) ?_
          refine Me (()) (trivial)
      rintro u hI
      refine g_fact (X := (enc q).length ≤ cg) (fun h hin => by have := own_capb (hin.nth 0 rfl); simpa using this) fun hcg => ?_
      refine g_seq ?_
      refine g_sr ?_
      refine Li As ?_
      refine g_ne ?_
      refine g_block ?_
      refine Lo (ι := Nat) [111, 112, 113, 114, 117, 118, 119, 120, 121, 122, 123, 124, 125, 126, 127, 128, 14, 130, 131, 132, 133, 134, 135, 136, 129, 137, 138, 139, 15, 16, 17, 140, 141, 142, 143, 144, 145, 146, 147, 148, 149, 150, 151, 152, 2, 115, 116] (fun i => i ≤ (enc q).length) (fun i => [(14, .int .i64 (i : Int))]) (fun i => [own ag cg 5 1 (bcells (enc q)), pts b2 39 [.bool q.reply, .int .i64 q.op, .int .i64 q.status, .int .u64 q.opq, .int .u64 q.token, .slice ae1 q.ex.length ce1, strv q.key, .slice av1 q.val.length cv1, .bool q.large], pts b1 70 [.bool p.reply, .int .i64 p.op, .int .i64 p.status, .int .u64 p.opq, .int .u64 p.token, .slice ae p.ex.length ce, strv p.key, .slice av p.val.length cv, .bool p.large, .slice at' tail.length ct, .int .i64 more, .int .i64 cut]]) (fun i => (enc q).length - i) (0) (Nat.zero_le _) ?_
      rintro i hi
      refine g_seq ?_
      refine g_sr ?_
      refine Li Mv ?_
      refine Li Mv ?_
      refine Li (Ln T.sl_37) ?_
      refine Li Cm ?_
      refine g_ne ?_
      refine g_cond rfl ?_ ?_
      · intro hlt
        replace hlt := nrm hlt
        refine g_skip ?_
        refine e_then ?_
        refine g_seq ?_
        refine g_block ?_
        refine g_seq ?_
        refine g_seq ?_
        refine g_mid (ι := Unit) [117, 118, 119, 120, 121, 122, 123, 124, 125] (fun u => True) (fun u => [(125, .bool (decide (300 < (i : Int)) && decide ((i : Int) < (enc q).length - 5)))]) (fun u => [own ag cg 5 1 (bcells (enc q)), pts b2 39 [.bool q.reply, .int .i64 q.op, .int .i64 q.status, .int .u64 q.opq, .int .u64 q.token, .slice ae1 q.ex.length ce1, strv q.key, .slice av1 q.val.length cv1, .bool q.large], pts b1 70 [.bool p.reply, .int .i64 p.op, .int .i64 p.status, .int .u64 p.opq, .int .u64 p.token, .slice ae p.ex.length ce, strv p.key, .slice av p.val.length cv, .bool p.large, .slice at' tail.length ct, .int .i64 more, .int .i64 cut]]) ?_ ?_
        · refine g_region ?_
          refine Li Mv ?_
          refine Li Cm ?_
          refine Li Mv ?_
          refine g_split (t := 119) rfl ?_ ?_
          · intro hb0
            replace hb0 := nrm hb0
            refine Li Mv ?_
            refine Li Mv ?_
            refine Li (Ln T.sl_37) ?_
            refine Li Im ?_
            refine Li Cm ?_
            refine Li Pt ?_
            refine g_nil ?_
            refine Me (()) (trivial)
          · intro hb0
            replace hb0 := nrm hb0
            refine Lx ?_
            refine Lx ?_
            refine Lx ?_
            refine Lx ?_
            refine Lx ?_
            refine Li Pf ?_
            refine g_nil ?_
            refine Me (()) (trivial)
        rintro u hI
        refine g_mid (ι := Nat) [126, 127, 128, 14] (fun j => i ≤ j ∧ j < (enc q).length) (fun j => [(14, .int .i64 (j : Int))]) (fun j => [own ag cg 5 1 (bcells (enc q)), pts b2 39 [.bool q.reply, .int .i64 q.op, .int .i64 q.status, .int .u64 q.opq, .int .u64 q.token, .slice ae1 q.ex.length ce1, strv q.key, .slice av1 q.val.length cv1, .bool q.large], pts b1 70 [.bool p.reply, .int .i64 p.op, .int .i64 p.status, .int .u64 p.opq, .int .u64 p.token, .slice ae p.ex.length ce, strv p.key, .slice av p.val.length cv, .bool p.large, .slice at' tail.length ct, .int .i64 more, .int .i64 cut]]) ?_ ?_
        · refine g_cond rfl ?_ ?_
          · intro hc
            replace hc := nrm hc
            refine g_region ?_
            refine Li Mv ?_
            refine Li (Ln T.sl_37) ?_
            refine Li Im ?_
            refine Li As ?_
            refine g_nil ?_
            refine Me ((enc q).length - 5) (⟨by omega, by omega⟩)
          · intro hc
            replace hc := nrm hc
            refine g_skip ?_
            refine Me (i) (⟨by omega, by omega⟩)
        rintro j ⟨hj, hj2⟩
        have hrt := read_enc_take q hok j hj2 more
        refine g_seq ?_
        refine g_mid (ι := Nat × Option Addr × Nat × Option Addr × Nat) [130, 131, 132, 133, 134, 135, 136, 129, 137, 138, 139, 15, 16, 17] (fun (b7, ae3, ce3, av3, cv3) => True) (fun (b7, ae3, ce3, av3, cv3) => [(15, .pointer (some ⟨b7, 0, none⟩)), (16, .int .i64 0), (17, .int .i64 0)]) (fun (b7, ae3, ce3, av3, cv3) => [pts b7 39 [.bool false, .int .i64 0, .int .i64 0, .int .u64 0, .int .u64 0, .slice ae3 0 ce3, strv [], .slice av3 0 cv3, .bool false], own ag cg 5 1 (bcells (enc q)), pts b2 39 [.bool q.reply, .int .i64 q.op, .int .i64 q.status, .int .u64 q.opq, .int .u64 q.token, .slice ae1 q.ex.length ce1, strv q.key, .slice av1 q.val.length cv1, .bool q.large], pts b1 70 [.bool p.reply, .int .i64 p.op, .int .i64 p.status, .int .u64 p.opq, .int .u64 p.token, .slice ae p.ex.length ce, strv p.key, .slice av p.val.length cv, .bool p.large, .slice at' tail.length ct, .int .i64 more, .int .i64 cut]]) ?_ ?_
        · refine g_drw T.mix (.cons .here (.cons (.there .here) .nil)) fun F2 le2 hin2 back2 => ?_
          obtain ⟨hg, hb1, _⟩ := hin2
          have rg := own_in hg
          refine Dt 0 rfl Mv ?_
          refine Dt 1 rfl Mv ?_
          refine Dt 2 rfl Mv ?_
          refine Dt 3 rfl (Sl 0 _ _ T.sl_37) ?_
          refine Dt 4 rfl (Fa T.fld_70_2) ?_
          refine Dt 5 rfl (Lf T.sc_3) ?_
          refine D2 6 11 ?_ ?_
          · refine Do rfl (oC T.fn_23 rfl rfl (read_fn ((enc q).take j) (cutA ag 0 j (0 * 1)) (j - 0) (j - 0) more (by simp; omega) (Nat.le_refl _) (by simp; omega) q1 q2) .nil (fun _ le hin => (cut2 rg 0 j j (by omega)).mono le) ?_)
            rintro v H' ⟨ae3, ce3, av3, cv3, rfl, rfl⟩
            try simp only [nap, cap]
            rw [hrt]
            dsimp only [pktCells, zeroP]
            refine gh_next ?_
            refine Dt 7 rfl Mv ?_
            refine Dt 8 rfl Ex ?_
            refine Dt 9 rfl Ex ?_
            refine Dt 10 rfl Ex ?_
            refine Dn 11 ?_
            refine Do rfl (oA T.zc_39 fun b13 => ?_)
            refine gh_next ?_
            refine Dn 12 ?_
            refine Do rfl (oSW T.ag_39 ?_)
            refine gh_next ?_
            refine Dt 13 rfl As ?_
            refine Dt 14 rfl As ?_
            refine gh_done (by kernel_rfl) back2 ?_
            refine Hh (H' := [pts b13 39 [.bool false, .int .i64 0, .int .i64 0, .int .u64 0, .int .u64 0, .slice ae3 0 ce3, strv [], .slice av3 0 cv3, .bool false], own ag cg 5 1 (bcells (enc q)), pts b2 39 [.bool q.reply, .int .i64 q.op, .int .i64 q.status, .int .u64 q.opq, .int .u64 q.token, .slice ae1 q.ex.length ce1, strv q.key, .slice av1 q.val.length cv1, .bool q.large], pts b1 70 [.bool p.reply, .int .i64 p.op, .int .i64 p.status, .int .u64 p.opq, .int .u64 p.token, .slice ae p.ex.length ce, strv p.key, .slice av p.val.length cv, .bool p.large, .slice at' tail.length ct, .int .i64 more, .int .i64 cut]]) ?_
            refine Me ((b13, ae3, ce3, av3, cv3)) (trivial)
          · refine Do rfl (oA T.zc_39 fun b14 => ?_)
            refine gh_next ?_
            refine Dn 6 ?_
            refine Do rfl (oC T.fn_23 rfl rfl (read_fn ((enc q).take j) (cutA ag 0 j (0 * 1)) (j - 0) (j - 0) more (by simp; omega) (Nat.le_refl _) (by simp; omega) q1 q2) .nil (fun _ le hin => (cut2 rg 0 j j (by omega)).mono le) ?_)
            rintro v H' ⟨ae3, ce3, av3, cv3, rfl, rfl⟩
            try simp only [nap, cap]
            rw [hrt]
            dsimp only [pktCells, zeroP]
            refine gh_next ?_
            refine Dt 7 rfl Mv ?_
            refine Dt 8 rfl Ex ?_
            refine Dt 9 rfl Ex ?_
            refine Dt 10 rfl Ex ?_
            refine Dn 12 ?_
            refine Do rfl (oSW T.ag_39 ?_)
            refine gh_next ?_
            refine Dt 13 rfl As ?_
            refine Dt 14 rfl As ?_
            refine gh_done (by kernel_rfl) back2 ?_
            refine Hh (H' := [pts b14 39 [.bool false, .int .i64 0, .int .i64 0, .int .u64 0, .int .u64 0, .slice ae3 0 ce3, strv [], .slice av3 0 cv3, .bool false], own ag cg 5 1 (bcells (enc q)), pts b2 39 [.bool q.reply, .int .i64 q.op, .int .i64 q.status, .int .u64 q.opq, .int .u64 q.token, .slice ae1 q.ex.length ce1, strv q.key, .slice av1 q.val.length cv1, .bool q.large], pts b1 70 [.bool p.reply, .int .i64 p.op, .int .i64 p.status, .int .u64 p.opq, .int .u64 p.token, .slice ae p.ex.length ce, strv p.key, .slice av p.val.length cv, .bool p.large, .slice at' tail.length ct, .int .i64 more, .int .i64 cut]]) ?_
            refine Me ((b14, ae3, ce3, av3, cv3)) (trivial)
        rintro ⟨b7, ae3, ce3, av3, cv3⟩ hI
        try dsimp only at hI ⊢
        refine g_sr ?_
        refine Li Mv ?_
        refine Lp (oC T.fn_17 rfl rfl (num_fn 0) .nil (fun _ _ _ => trivial) ?_)
        rintro v H' ⟨rfl, rfl⟩
        try simp only [nap, cap]
        refine Li Cm ?_
        refine Li Mv ?_
        refine g_slot (t := 143) (v' := .bool false) rfl (congrArg Value.bool (by rfl)) ?_
        refine Li Mv ?_
        refine Li Cm ?_
        refine Li Pf ?_
        refine Li Mv ?_
        refine g_slot (t := 147) (v' := .bool false) rfl (congrArg Value.bool (by rfl)) ?_
        refine Lp (oLN T.ag_39 ?_)
        refine Li (Bd T.zc_39 T.st_39) ?_
        refine Lp (oC T.fn_25 rfl rfl (same_zero ae3 av3 ce3 cv3) .nil (fun _ _ _ => trivial) ?_)
        rintro v H' ⟨rfl, rfl⟩
        try simp only [nap, cap]
        refine Li Nt ?_
        refine Li Pf ?_
        refine g_ne ?_
        refine g_cond_f rfl (by rfl) ?_
        refine g_skip ?_
        refine e_block ?_
        refine e_then ?_
        refine g_region ?_
        refine Li Mv ?_
        refine Li Im ?_
        refine Li As ?_
        refine g_nil ?_
        refine Hh (H' := [own ag cg 5 1 (bcells (enc q)), pts b2 39 [.bool q.reply, .int .i64 q.op, .int .i64 q.status, .int .u64 q.opq, .int .u64 q.token, .slice ae1 q.ex.length ce1, strv q.key, .slice av1 q.val.length cv1, .bool q.large], pts b1 70 [.bool p.reply, .int .i64 p.op, .int .i64 p.status, .int .u64 p.opq, .int .u64 p.token, .slice ae p.ex.length ce, strv p.key, .slice av p.val.length cv, .bool p.large, .slice at' tail.length ct, .int .i64 more, .int .i64 cut]]) ?_
        refine Ro (j + 1) ((by omega)) (by omega)
      · intro hlt
        replace hlt := nrm hlt
        refine g_exit ?_
        refine e_then_exit ?_
        refine e_then_exit ?_
        refine e_block_hit ?_
        refine e_then ?_
        refine g_sr ?_
        refine Lp (oC T.fn_21 rfl rfl (wakes_fn) .nil (fun _ _ _ => trivial) ?_)
        rintro v H' ⟨rfl, rfl⟩
        try simp only [nap, cap]
        refine Li As ?_
        refine g_ne ?_
        refine g_ret ?_
        refine Rt [] Try.results6 ?_
        exact ⟨rfl, rfl⟩
end Go.Proofs.Ytggmpaggmkfmoaa

