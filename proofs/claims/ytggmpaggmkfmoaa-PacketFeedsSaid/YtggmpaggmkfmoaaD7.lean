/- Packets, the reference: a packet's bytes. -/
import Derived.Test.YtggmpaggmkfmoaaD6
set_option maxRecDepth 100000
namespace Go.Proofs.Ytggmpaggmkfmoaa
open Go Go.Eng

theorem be1 (n : Nat) (h : n < 256) : bcells (be 1 n) = [.int .u8 (n : Int)] := by
  simp [be, bcells]
  omega
set_option maxHeartbeats 4000000 in
theorem rbytes_fn (p : Pkt) (ae : Option Addr) (ce : Nat) (av : Option Addr) (cv : Nat) (hlen : p.body ≤ 1099511627776) (htok : p.token < 18446744073709551616) :
    FnS Try.prog 16 [.agg (pktCells p ae ce av cv).toArray] (fun h => Rdl h ae (bcells p.ex) ∧ Rdl h av (bcells p.val)) []
      (fun v H => (okP p = true ∧ ∃ a c, v = .tuple #[.slice a (enc p).length c, .int .i64 0] ∧ H = [own a c 5 1 (bcells (enc p))]) ∨
        (okP p = false ∧ v = .tuple #[.slice none 0 0, .int .i64 7] ∧ H = [])) := by
  obtain ⟨reply, op, status, opq, token, ex, key, val, large⟩ := p
  dsimp only [Pkt.body, pktCells] at hlen htok ⊢

  have hok : okP ⟨reply, op, status, opq, token, ex, key, val, large⟩ = (!(decide (op < 0) || decide (255 < op) || decide (status < 0) || decide (65535 < status) || (!reply && !decide (status = 0)) || decide (4294967295 < opq)) && !(decide (255 < ex.length) || decide (250 < key.length) || decide (2147483647 < ex.length + key.length + val.length) || large)) := by
    simp only [okP, Pkt.body]
    cases reply <;> cases large <;> (simp [Bool.and_assoc] <;> rfl)
  refine fn_body Try.func16 rfl Try.ntmps16 rfl ?_
  rintro F ⟨hE, hV⟩
  refine g_sr ?_
  refine Lp (oB fun b1 => ?_)
  refine Li As ?_
  refine Li As ?_
  refine g_ne ?_
  refine g_sr ?_
  refine Li (Fa T.fld_39_5) ?_
  refine Lp (oL T.sc_37 ?_)
  refine Li (Ln T.sl_37) ?_
  refine Li (Fa T.fld_39_6) ?_
  refine Lp (oL T.sc_9 ?_)
  refine Li (Ls T.u_9) ?_
  refine Li Im ?_
  refine Li (Fa T.fld_39_7) ?_
  refine Lp (oL T.sc_37 ?_)
  refine Li (Ln T.sl_37) ?_
  refine Li Im ?_
  refine g_slot (t := 16) (v' := .int .i64 ((ex.length + key.length + val.length : Nat) : Int)) rfl (by refine congrArg (Value.int .i64) ?_; omega) ?_
  refine Li As ?_
  refine g_ne ?_
  refine g_seq ?_
  refine g_seq ?_
  refine g_mid (ι := Unit) [17, 18, 19, 20, 21, 22, 23, 24, 25, 26, 27, 28, 29, 30, 31, 32, 33, 34, 35, 36, 37, 38, 39, 40, 41, 42, 43, 44, 45, 46, 47, 48, 49] (fun u => True) (fun u => [(49, .bool (decide (op < 0) || decide (255 < op) || decide (status < 0) || decide (65535 < status) || (!reply && !decide (status = 0)) || decide (4294967295 < opq)))]) (fun u => [pts b1 39 [.bool reply, .int .i64 op, .int .i64 status, .int .u64 opq, .int .u64 token, .slice ae ex.length ce, strv key, .slice av val.length cv, .bool large]]) ?_ ?_
  · cases reply
    ·
      refine g_region ?_
      refine Li (Fa T.fld_39_1) ?_
      refine Lp (oL T.sc_3 ?_)
      refine Li Cm ?_
      refine Li Mv ?_
      refine g_split (t := 20) rfl ?_ ?_
      · intro hb0
        replace hb0 := nrm hb0
        refine Lx ?_
        refine Lx ?_
        refine Lx ?_
        refine Li Pt ?_
        refine Li Mv ?_
        refine Lx ?_
        refine Lx ?_
        refine Lx ?_
        refine Li Pt ?_
        refine Li Mv ?_
        refine Lx ?_
        refine Lx ?_
        refine Lx ?_
        refine Li Pt ?_
        refine Li Mv ?_
        refine Lx ?_
        refine Lx ?_
        refine Lx ?_
        refine Lx ?_
        refine Lx ?_
        refine Lx ?_
        refine Lx ?_
        refine Lx ?_
        refine Li Pt ?_
        refine Li Mv ?_
        refine Lx ?_
        refine Lx ?_
        refine Lx ?_
        refine Li Pt ?_
        refine g_nil ?_
        refine Me (()) (trivial)
      · intro hb0
        replace hb0 := nrm hb0
        refine Li (Fa T.fld_39_1) ?_
        refine Lp (oL T.sc_3 ?_)
        refine Li Cm ?_
        refine Li Pf ?_
        refine Li Mv ?_
        refine g_split (t := 25) rfl ?_ ?_
        · intro hb1
          replace hb1 := nrm hb1
          refine Lx ?_
          refine Lx ?_
          refine Lx ?_
          refine Li Pt ?_
          refine Li Mv ?_
          refine Lx ?_
          refine Lx ?_
          refine Lx ?_
          refine Li Pt ?_
          refine Li Mv ?_
          refine Lx ?_
          refine Lx ?_
          refine Lx ?_
          refine Lx ?_
          refine Lx ?_
          refine Lx ?_
          refine Lx ?_
          refine Lx ?_
          refine Li Pt ?_
          refine Li Mv ?_
          refine Lx ?_
          refine Lx ?_
          refine Lx ?_
          refine Li Pt ?_
          refine g_nil ?_
          refine Me (()) (trivial)
        · intro hb1
          replace hb1 := nrm hb1
          refine Li (Fa T.fld_39_2) ?_
          refine Lp (oL T.sc_3 ?_)
          refine Li Cm ?_
          refine Li Pf ?_
          refine Li Mv ?_
          refine g_split (t := 30) rfl ?_ ?_
          · intro hb2
            replace hb2 := nrm hb2
            refine Lx ?_
            refine Lx ?_
            refine Lx ?_
            refine Li Pt ?_
            refine Li Mv ?_
            refine Lx ?_
            refine Lx ?_
            refine Lx ?_
            refine Lx ?_
            refine Lx ?_
            refine Lx ?_
            refine Lx ?_
            refine Lx ?_
            refine Li Pt ?_
            refine Li Mv ?_
            refine Lx ?_
            refine Lx ?_
            refine Lx ?_
            refine Li Pt ?_
            refine g_nil ?_
            refine Me (()) (trivial)
          · intro hb2
            replace hb2 := nrm hb2
            refine Li (Fa T.fld_39_2) ?_
            refine Lp (oL T.sc_3 ?_)
            refine Li Cm ?_
            refine Li Pf ?_
            refine Li Mv ?_
            refine g_split (t := 35) rfl ?_ ?_
            · intro hb3
              replace hb3 := nrm hb3
              refine Lx ?_
              refine Lx ?_
              refine Lx ?_
              refine Lx ?_
              refine Lx ?_
              refine Lx ?_
              refine Lx ?_
              refine Lx ?_
              refine Li Pt ?_
              refine Li Mv ?_
              refine Lx ?_
              refine Lx ?_
              refine Lx ?_
              refine Li Pt ?_
              refine g_nil ?_
              refine Me (()) (trivial)
            · intro hb3
              replace hb3 := nrm hb3
              refine Li (Fa T.fld_39_0) ?_
              refine Lp (oL T.sc_4 ?_)
              refine Li Nt ?_
              refine Li Mv ?_
              refine g_split (t := 39) rfl ?_ ?_
              · intro hb4
                replace hb4 := nrm hb4
                refine Li (Fa T.fld_39_2) ?_
                refine Lp (oL T.sc_3 ?_)
                refine Li Cm ?_
                refine Li Pt ?_
                refine Li Pf ?_
                refine Li Mv ?_
                refine g_split (t := 45) rfl ?_ ?_
                · intro hb5
                  replace hb5 := nrm hb5
                  refine Lx ?_
                  refine Lx ?_
                  refine Lx ?_
                  refine Li Pt ?_
                  refine g_nil ?_
                  refine Me (()) (trivial)
                · intro hb5
                  replace hb5 := nrm hb5
                  refine Li (Fa T.fld_39_3) ?_
                  refine Lp (oL T.sc_36 ?_)
                  refine Li Cm ?_
                  refine Li Pf ?_
                  refine g_nil ?_
                  refine Me (()) (trivial)
              · intro hb4
                replace hb4 := nrm hb4
                refine Lx ?_
                refine Lx ?_
                refine Lx ?_
                refine Li Pf ?_
                refine Li Pf ?_
                refine Li Mv ?_
                refine Li (Fa T.fld_39_3) ?_
                refine Lp (oL T.sc_36 ?_)
                refine Li Cm ?_
                refine Li Pf ?_
                refine g_nil ?_
                refine Me (()) (trivial)
    ·
      refine g_region ?_
      refine Li (Fa T.fld_39_1) ?_
      refine Lp (oL T.sc_3 ?_)
      refine Li Cm ?_
      refine Li Mv ?_
      refine g_split (t := 20) rfl ?_ ?_
      · intro hb0
        replace hb0 := nrm hb0
        refine Lx ?_
        refine Lx ?_
        refine Lx ?_
        refine Li Pt ?_
        refine Li Mv ?_
        refine Lx ?_
        refine Lx ?_
        refine Lx ?_
        refine Li Pt ?_
        refine Li Mv ?_
        refine Lx ?_
        refine Lx ?_
        refine Lx ?_
        refine Li Pt ?_
        refine Li Mv ?_
        refine Lx ?_
        refine Lx ?_
        refine Lx ?_
        refine Lx ?_
        refine Lx ?_
        refine Lx ?_
        refine Lx ?_
        refine Lx ?_
        refine Li Pt ?_
        refine Li Mv ?_
        refine Lx ?_
        refine Lx ?_
        refine Lx ?_
        refine Li Pt ?_
        refine g_nil ?_
        refine Me (()) (trivial)
      · intro hb0
        replace hb0 := nrm hb0
        refine Li (Fa T.fld_39_1) ?_
        refine Lp (oL T.sc_3 ?_)
        refine Li Cm ?_
        refine Li Pf ?_
        refine Li Mv ?_
        refine g_split (t := 25) rfl ?_ ?_
        · intro hb1
          replace hb1 := nrm hb1
          refine Lx ?_
          refine Lx ?_
          refine Lx ?_
          refine Li Pt ?_
          refine Li Mv ?_
          refine Lx ?_
          refine Lx ?_
          refine Lx ?_
          refine Li Pt ?_
          refine Li Mv ?_
          refine Lx ?_
          refine Lx ?_
          refine Lx ?_
          refine Lx ?_
          refine Lx ?_
          refine Lx ?_
          refine Lx ?_
          refine Lx ?_
          refine Li Pt ?_
          refine Li Mv ?_
          refine Lx ?_
          refine Lx ?_
          refine Lx ?_
          refine Li Pt ?_
          refine g_nil ?_
          refine Me (()) (trivial)
        · intro hb1
          replace hb1 := nrm hb1
          refine Li (Fa T.fld_39_2) ?_
          refine Lp (oL T.sc_3 ?_)
          refine Li Cm ?_
          refine Li Pf ?_
          refine Li Mv ?_
          refine g_split (t := 30) rfl ?_ ?_
          · intro hb2
            replace hb2 := nrm hb2
            refine Lx ?_
            refine Lx ?_
            refine Lx ?_
            refine Li Pt ?_
            refine Li Mv ?_
            refine Lx ?_
            refine Lx ?_
            refine Lx ?_
            refine Lx ?_
            refine Lx ?_
            refine Lx ?_
            refine Lx ?_
            refine Lx ?_
            refine Li Pt ?_
            refine Li Mv ?_
            refine Lx ?_
            refine Lx ?_
            refine Lx ?_
            refine Li Pt ?_
            refine g_nil ?_
            refine Me (()) (trivial)
          · intro hb2
            replace hb2 := nrm hb2
            refine Li (Fa T.fld_39_2) ?_
            refine Lp (oL T.sc_3 ?_)
            refine Li Cm ?_
            refine Li Pf ?_
            refine Li Mv ?_
            refine g_split (t := 35) rfl ?_ ?_
            · intro hb3
              replace hb3 := nrm hb3
              refine Lx ?_
              refine Lx ?_
              refine Lx ?_
              refine Lx ?_
              refine Lx ?_
              refine Lx ?_
              refine Lx ?_
              refine Lx ?_
              refine Li Pt ?_
              refine Li Mv ?_
              refine Lx ?_
              refine Lx ?_
              refine Lx ?_
              refine Li Pt ?_
              refine g_nil ?_
              refine Me (()) (trivial)
            · intro hb3
              replace hb3 := nrm hb3
              refine Li (Fa T.fld_39_0) ?_
              refine Lp (oL T.sc_4 ?_)
              refine Li Nt ?_
              refine Li Mv ?_
              refine g_split (t := 39) rfl ?_ ?_
              · intro hb4
                replace hb4 := nrm hb4
                refine Li (Fa T.fld_39_2) ?_
                refine Lp (oL T.sc_3 ?_)
                refine Li Cm ?_
                refine Li Pt ?_
                refine Li Pf ?_
                refine Li Mv ?_
                refine g_split (t := 45) rfl ?_ ?_
                · intro hb5
                  replace hb5 := nrm hb5
                  refine Lx ?_
                  refine Lx ?_
                  refine Lx ?_
                  refine Li Pt ?_
                  refine g_nil ?_
                  refine Me (()) (trivial)
                · intro hb5
                  replace hb5 := nrm hb5
                  refine Li (Fa T.fld_39_3) ?_
                  refine Lp (oL T.sc_36 ?_)
                  refine Li Cm ?_
                  refine Li Pf ?_
                  refine g_nil ?_
                  refine Me (()) (trivial)
              · intro hb4
                replace hb4 := nrm hb4
                refine Lx ?_
                refine Lx ?_
                refine Lx ?_
                refine Li Pf ?_
                refine Li Pf ?_
                refine Li Mv ?_
                refine Li (Fa T.fld_39_3) ?_
                refine Lp (oL T.sc_36 ?_)
                refine Li Cm ?_
                refine Li Pf ?_
                refine g_nil ?_
                refine Me (()) (trivial)
  rintro u hI
  generalize hc1 : (decide (op < 0) || decide (255 < op) || decide (status < 0) || decide (65535 < status) || (!reply && !decide (status = 0)) || decide (4294967295 < opq)) = c1 at *
  refine g_cond rfl ?_ ?_
  · intro hz
    replace hz := nrm hz
    subst hz
    refine g_sr ?_
    refine Li As ?_
    refine Li As ?_
    refine g_ne ?_
    refine g_ret ?_
    refine e_then_ret ?_
    refine Rt2 [] Try.results16 ?_
    exact .inr ⟨by rw [hok]; rfl, rfl, rfl⟩
  · intro hz
    replace hz := nrm hz
    subst hz
    refine g_skip ?_
    refine e_then ?_
    refine g_seq ?_
    refine g_seq ?_
    refine g_mid (ι := Unit) [50, 51, 52, 53, 54, 55, 56, 57, 58, 59, 60, 61, 62, 63, 64, 65, 66, 67] (fun u => True) (fun u => [(67, .bool (decide (255 < ex.length) || decide (250 < key.length) || decide (2147483647 < ex.length + key.length + val.length) || large))]) (fun u => [pts b1 39 [.bool reply, .int .i64 op, .int .i64 status, .int .u64 opq, .int .u64 token, .slice ae ex.length ce, strv key, .slice av val.length cv, .bool large]]) ?_ ?_
    · cases large
      ·
        refine g_region ?_
        refine Li (Fa T.fld_39_5) ?_
        refine Lp (oL T.sc_37 ?_)
        refine Li (Ln T.sl_37) ?_
        refine Li Cm ?_
        refine Li Mv ?_
        refine g_split (t := 54) rfl ?_ ?_
        · intro hb0
          replace hb0 := nrm hb0
          refine Lx ?_
          refine Lx ?_
          refine Lx ?_
          refine Lx ?_
          refine Li Pt ?_
          refine Li Mv ?_
          refine Lx ?_
          refine Lx ?_
          refine Li Pt ?_
          refine Li Mv ?_
          refine Lx ?_
          refine Lx ?_
          refine Li Pt ?_
          refine g_nil ?_
          refine Me (()) (trivial)
        · intro hb0
          replace hb0 := nrm hb0
          refine Li (Fa T.fld_39_6) ?_
          refine Lp (oL T.sc_9 ?_)
          refine Li (Ls T.u_9) ?_
          refine Li Cm ?_
          refine Li Pf ?_
          refine Li Mv ?_
          refine g_split (t := 60) rfl ?_ ?_
          · intro hb1
            replace hb1 := nrm hb1
            refine Lx ?_
            refine Lx ?_
            refine Li Pt ?_
            refine Li Mv ?_
            refine Lx ?_
            refine Lx ?_
            refine Li Pt ?_
            refine g_nil ?_
            refine Me (()) (trivial)
          · intro hb1
            replace hb1 := nrm hb1
            refine Li Mv ?_
            refine Li Cm ?_
            refine Li Pf ?_
            refine Li Mv ?_
            refine g_split (t := 64) rfl ?_ ?_
            · intro hb2
              replace hb2 := nrm hb2
              refine Lx ?_
              refine Lx ?_
              refine Li Pt ?_
              refine g_nil ?_
              refine Me (()) (trivial)
            · intro hb2
              replace hb2 := nrm hb2
              refine Li (Fa T.fld_39_8) ?_
              refine Lp (oL T.sc_4 ?_)
              refine Li Pf ?_
              refine g_nil ?_
              refine Me (()) (trivial)
      ·
        refine g_region ?_
        refine Li (Fa T.fld_39_5) ?_
        refine Lp (oL T.sc_37 ?_)
        refine Li (Ln T.sl_37) ?_
        refine Li Cm ?_
        refine Li Mv ?_
        refine g_split (t := 54) rfl ?_ ?_
        · intro hb0
          replace hb0 := nrm hb0
          refine Lx ?_
          refine Lx ?_
          refine Lx ?_
          refine Lx ?_
          refine Li Pt ?_
          refine Li Mv ?_
          refine Lx ?_
          refine Lx ?_
          refine Li Pt ?_
          refine Li Mv ?_
          refine Lx ?_
          refine Lx ?_
          refine Li Pt ?_
          refine g_nil ?_
          refine Me (()) (trivial)
        · intro hb0
          replace hb0 := nrm hb0
          refine Li (Fa T.fld_39_6) ?_
          refine Lp (oL T.sc_9 ?_)
          refine Li (Ls T.u_9) ?_
          refine Li Cm ?_
          refine Li Pf ?_
          refine Li Mv ?_
          refine g_split (t := 60) rfl ?_ ?_
          · intro hb1
            replace hb1 := nrm hb1
            refine Lx ?_
            refine Lx ?_
            refine Li Pt ?_
            refine Li Mv ?_
            refine Lx ?_
            refine Lx ?_
            refine Li Pt ?_
            refine g_nil ?_
            refine Me (()) (trivial)
          · intro hb1
            replace hb1 := nrm hb1
            refine Li Mv ?_
            refine Li Cm ?_
            refine Li Pf ?_
            refine Li Mv ?_
            refine g_split (t := 64) rfl ?_ ?_
            · intro hb2
              replace hb2 := nrm hb2
              refine Lx ?_
              refine Lx ?_
              refine Li Pt ?_
              refine g_nil ?_
              refine Me (()) (trivial)
            · intro hb2
              replace hb2 := nrm hb2
              refine Li (Fa T.fld_39_8) ?_
              refine Lp (oL T.sc_4 ?_)
              refine Li Pf ?_
              refine g_nil ?_
              refine Me (()) (trivial)
    rintro u hI
    generalize hc2 : (decide (255 < ex.length) || decide (250 < key.length) || decide (2147483647 < ex.length + key.length + val.length) || large) = c2 at *
    refine g_cond rfl ?_ ?_
    · intro hz
      replace hz := nrm hz
      subst hz
      refine g_sr ?_
      refine Li As ?_
      refine Li As ?_
      refine g_ne ?_
      refine g_ret ?_
      refine e_then_ret ?_
      refine Rt2 [] Try.results16 ?_
      exact .inr ⟨by rw [hok]; rfl, rfl, rfl⟩
    · intro hz
      replace hz := nrm hz
      subst hz
      simp only [Bool.or_eq_false_iff, decide_eq_false_iff_not] at hc1 hc2
      obtain ⟨⟨⟨⟨⟨q1, q2⟩, q3⟩, q4⟩, q5⟩, q6⟩ := hc1
      obtain ⟨⟨⟨q7, q8⟩, q9⟩, rfl⟩ := hc2
      obtain ⟨opn, rfl⟩ := Int.eq_ofNat_of_zero_le (Int.not_lt.1 q1)
      obtain ⟨stn, rfl⟩ := Int.eq_ofNat_of_zero_le (Int.not_lt.1 q3)
      clear q1 q3 q5
      refine g_skip ?_
      refine e_then ?_
      refine g_sr ?_
      refine Li (Fa T.fld_39_1) ?_
      refine Lp (oL T.sc_3 ?_)
      refine Li (Cv T.u_5 T.us_3) ?_
      refine Lp (oT T.ap_37 fun b2 => ?_)
      refine Li As ?_
      refine g_ne ?_
      refine g_seq ?_
      refine g_sr ?_
      refine Li (Fa T.fld_39_0) ?_
      refine Lp (oL T.sc_4 ?_)
      refine g_ne ?_

      refine g_heap (fun _ s => starL_cons_mono (fun _ p => own_of_pts p 2 1 (by rfl) (by simp [maxLen])) s) ?_
      generalize hw2 : (some (⟨b2, 0, none⟩ : Addr)) = aw
      have a0 : aw.isSome = true := by rw [← hw2]; rfl
      refine g_mid (ι := Unit) [74, 75] (fun u => True) (fun u => []) (fun u => [own aw 2 5 1 (bcells (be 1 (if reply then 129 else 128)) ++ bcells (be 1 opn)), pts b1 39 [.bool reply, .int .i64 (opn : Int), .int .i64 (stn : Int), .int .u64 opq, .int .u64 token, .slice ae ex.length ce, strv key, .slice av val.length cv, .bool false]]) ?_ ?_
      · refine g_cond rfl ?_ ?_
        · intro hr
          replace hr := nrm hr
          subst hr
          refine g_region ?_
          refine Li Mv ?_
          refine Li (Ix (j := 0) T.sl_37) ?_
          refine Lp (oSO T.sc_5 ?_ (hk := by simp))
          refine g_nil ?_
          refine g_heap (H' := [own aw 2 5 1 (bcells (be 1 129) ++ bcells (be 1 opn)), pts b1 39 [.bool true, .int .i64 (opn : Int), .int .i64 (stn : Int), .int .u64 opq, .int .u64 token, .slice ae ex.length ce, strv key, .slice av val.length cv, .bool false]]) (by rw [be1 129 (by omega), be1 opn (by omega)]; exact fun _ q => q) ?_
          refine Me (()) (trivial)
        · intro hr
          replace hr := nrm hr
          subst hr
          refine g_skip ?_
          refine g_heap (H' := [own aw 2 5 1 (bcells (be 1 128) ++ bcells (be 1 opn)), pts b1 39 [.bool false, .int .i64 (opn : Int), .int .i64 (stn : Int), .int .u64 opq, .int .u64 token, .slice ae ex.length ce, strv key, .slice av val.length cv, .bool false]]) (by rw [be1 128 (by omega), be1 opn (by omega)]; exact fun _ q => q) ?_
          refine Me (()) (trivial)
      rintro u hI
      generalize hM : (if reply then 129 else 128) = M
      refine g_sr ?_
      refine Li Mv ?_
      refine Li (Fa T.fld_39_6) ?_
      refine Lp (oL T.sc_9 ?_)
      refine Li (Ls T.u_9) ?_
      refine Li (Cv T.u_36 T.us_3) ?_
      refine Lp (oC T.fn_44 rfl rfl (rlay_fn key.length 2 (by omega) (by omega) (by omega)) .nil (fun _ _ _ => trivial) ?_)
      rintro v H' ⟨l1, rfl, rfl⟩
      try simp only [nap, cap]
      refine Lp (op_append T.ap_37 T.ni_37 rfl rfl rfl rfl (.there .here) (by simp) (src_slice (m := 2) (by simp) fun h le hin => own_in (hin.nth 0 rfl)) (bcells_one) (by first | omega | (simp; omega)) (by first | omega | (simp; omega)) rfl fun w1 c1 h1 => ?_)
      refine Hh (H' := [own w1 c1 5 1 (bcells (be 1 M) ++ bcells (be 1 opn) ++ bcells (be 2 key.length)), pts b1 39 [.bool reply, .int .i64 (opn : Int), .int .i64 (stn : Int), .int .u64 opq, .int .u64 token, .slice ae ex.length ce, strv key, .slice av val.length cv, .bool false]]) ?_
      refine Li As ?_
      refine g_ne ?_
      refine g_sr ?_
      refine Li Mv ?_
      refine Li (Fa T.fld_39_5) ?_
      refine Lp (oL T.sc_37 ?_)
      refine Li (Ln T.sl_37) ?_
      refine Li (Cv T.u_5 T.us_3) ?_
      refine Lp (oT T.ap_37 fun b3 => ?_)
      refine g_heap (H' := [pts b3 5 (bcells (be 1 ex.length) ++ bcells (be 1 0)), own w1 c1 5 1 (bcells (be 1 M) ++ bcells (be 1 opn) ++ bcells (be 2 key.length)), pts b1 39 [.bool reply, .int .i64 (opn : Int), .int .i64 (stn : Int), .int .u64 opq, .int .u64 token, .slice ae ex.length ce, strv key, .slice av val.length cv, .bool false]]) (by rw [be1 ex.length (by omega), be1 0 (by omega)]; exact Eh) ?_
      refine Lp (op_append_lit T.ap_37 T.ni_37 rfl rfl rfl rfl .here (by simp) (by simp) (by rw [be1 ex.length (by omega), be1 0 (by omega)]; simp [Value.oneCell']) (by first | omega | (simp; omega)) (by first | omega | (simp; omega)) rfl fun w2 c2 h2 => ?_)
      refine Li As ?_
      refine g_ne ?_
      refine g_sr ?_
      refine Li Mv ?_
      refine Li (Fa T.fld_39_2) ?_
      refine Lp (oL T.sc_3 ?_)
      refine Li (Cv T.u_36 T.us_3) ?_
      refine Lp (oC T.fn_44 rfl rfl (rlay_fn stn 2 (by omega) (by omega) (by omega)) .nil (fun _ _ _ => trivial) ?_)
      rintro v H' ⟨l2, rfl, rfl⟩
      try simp only [nap, cap]
      refine Lp (op_append T.ap_37 T.ni_37 rfl rfl rfl rfl (.there .here) (by simp) (src_slice (m := 2) (by simp) fun h le hin => own_in (hin.nth 0 rfl)) (bcells_one) (by first | omega | (simp; omega)) (by first | omega | (simp; omega)) rfl fun w3 c3 h3 => ?_)
      refine Li As ?_
      refine g_ne ?_
      refine g_sr ?_
      refine Li Mv ?_
      refine Li Mv ?_
      refine Li (Cv T.u_36 T.us_3) ?_
      refine g_slot (t := 98) (v' := .int .u64 ((ex.length + key.length + val.length : Nat) : Int)) rfl (by refine congrArg (Value.int .u64) ?_; omega) ?_
      refine Lp (oC T.fn_44 rfl rfl (rlay_fn (ex.length + key.length + val.length) 4 (by omega) (by omega) (by omega)) .nil (fun _ _ _ => trivial) ?_)
      rintro v H' ⟨l3, rfl, rfl⟩
      try simp only [nap, cap]
      refine Lp (op_append T.ap_37 T.ni_37 rfl rfl rfl rfl (.there (.there .here)) (by simp) (src_slice (m := 4) (by simp) fun h le hin => own_in (hin.nth 0 rfl)) (bcells_one) (by first | omega | (simp; omega)) (by first | omega | (simp; omega)) rfl fun w4 c4 h4 => ?_)
      refine Li As ?_
      refine g_ne ?_
      refine g_sr ?_
      refine Li Mv ?_
      refine Li (Fa T.fld_39_3) ?_
      refine Lp (oL T.sc_36 ?_)
      refine Lp (oC T.fn_44 rfl rfl (rlay_fn opq 4 (by omega) (by omega) (by omega)) .nil (fun _ _ _ => trivial) ?_)
      rintro v H' ⟨l4, rfl, rfl⟩
      try simp only [nap, cap]
      refine Lp (op_append T.ap_37 T.ni_37 rfl rfl rfl rfl (.there (.there (.there .here))) (by simp) (src_slice (m := 4) (by simp) fun h le hin => own_in (hin.nth 0 rfl)) (bcells_one) (by first | omega | (simp; omega)) (by first | omega | (simp; omega)) rfl fun w5 c5 h5 => ?_)
      refine Li As ?_
      refine g_ne ?_
      refine g_sr ?_
      refine Li Mv ?_
      refine Li (Fa T.fld_39_4) ?_
      refine Lp (oL T.sc_36 ?_)
      refine Lp (oC T.fn_44 rfl rfl (rlay_fn token 8 htok (by omega) (by omega)) .nil (fun _ _ _ => trivial) ?_)
      rintro v H' ⟨l5, rfl, rfl⟩
      try simp only [nap, cap]
      refine Lp (op_append T.ap_37 T.ni_37 rfl rfl rfl rfl (.there (.there (.there (.there .here)))) (by simp) (src_slice (m := 8) (by simp) fun h le hin => own_in (hin.nth 0 rfl)) (bcells_one) (by first | omega | (simp; omega)) (by first | omega | (simp; omega)) rfl fun w6 c6 h6 => ?_)

      refine Hh (H' := [own w6 c6 5 1 (bcells (be 1 M) ++ bcells (be 1 opn) ++ bcells (be 2 key.length) ++ (bcells (be 1 ex.length) ++ bcells (be 1 0)) ++ bcells (be 2 stn) ++ bcells (be 4 (ex.length + key.length + val.length)) ++ bcells (be 4 opq) ++ bcells (be 8 token)), pts b1 39 [.bool reply, .int .i64 (opn : Int), .int .i64 (stn : Int), .int .u64 opq, .int .u64 token, .slice ae ex.length ce, strv key, .slice av val.length cv, .bool false]]) ?_
      have hll : (bcells (be 1 M) ++ bcells (be 1 opn) ++ bcells (be 2 key.length) ++ (bcells (be 1 ex.length) ++ bcells (be 1 0)) ++ bcells (be 2 stn) ++ bcells (be 4 (ex.length + key.length + val.length)) ++ bcells (be 4 opq) ++ bcells (be 8 token)).length = 24 := by simp
      generalize hLL : bcells (be 1 M) ++ bcells (be 1 opn) ++ bcells (be 2 key.length) ++ (bcells (be 1 ex.length) ++ bcells (be 1 0)) ++ bcells (be 2 stn) ++ bcells (be 4 (ex.length + key.length + val.length)) ++ bcells (be 4 opq) ++ bcells (be 8 token) = LL at *
      refine Li As ?_
      refine g_ne ?_
      refine g_sr ?_
      refine Li Mv ?_
      refine Li (Fa T.fld_39_5) ?_
      refine Lp (oL T.sc_37 ?_)
      refine Lp (op_append T.ap_37 T.ni_37 rfl rfl rfl rfl .here (by rw [hll]) (src_slice (by simp) fun h le _ => hE.mono le) (by first | exact bcells_one | (simp [Value.oneCell', strv])) (by first | omega | (simp; omega)) (by first | omega | (simp; omega)) rfl fun w7 c7 h7 => ?_)
      refine Li As ?_
      refine g_ne ?_
      refine g_sr ?_
      refine Li Mv ?_
      refine Li (Fa T.fld_39_6) ?_
      refine Lp (oL T.sc_9 ?_)
      refine Lp (op_append T.ap_37 T.ni_9 rfl rfl rfl rfl .here (by rw [List.length_append, hll, bcells_length]; omega) (src_str key) (by first | exact bcells_one | (simp [Value.oneCell', strv])) (by first | omega | (simp; omega)) (by first | omega | (simp; omega)) rfl fun w8 c8 h8 => ?_)
      refine Li As ?_
      refine g_ne ?_
      refine g_sr ?_
      refine Li Mv ?_
      refine Li (Fa T.fld_39_7) ?_
      refine Lp (oL T.sc_37 ?_)
      refine Lp (op_append T.ap_37 T.ni_37 rfl rfl rfl rfl .here (by rw [List.length_append, List.length_append, hll, bcells_length, bcells_length]; omega) (src_slice (by simp) fun h le _ => hV.mono le) (by first | exact bcells_one | (simp [Value.oneCell', strv])) (by first | omega | (simp; omega)) (by first | omega | (simp; omega)) rfl fun w9 c9 h9 => ?_)
      refine Li As ?_
      refine Li As ?_
      refine g_ne ?_
      refine g_ret ?_
      have hfin : LL ++ bcells ex ++ bcells key ++ bcells val = bcells (enc ⟨reply, opn, stn, opq, token, ex, key, val, false⟩) := by
        rw [← hLL, ← hM]
        simp [enc, Pkt.body]
      rw [hfin]
      refine Rt2 [own w9 c9 5 1 (bcells (enc ⟨reply, opn, stn, opq, token, ex, key, val, false⟩))] Try.results16 ?_
      refine .inl ⟨by rw [hok]; rfl, w9, c9, ?_, rfl⟩
      simp [enc, Nat.add_comm, Nat.add_left_comm, Nat.add_assoc]
end Go.Proofs.Ytggmpaggmkfmoaa

