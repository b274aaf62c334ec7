/- Packets: Bytes. -/
import Derived.Test.YtggmpaggmkfmoaaA4
set_option maxRecDepth 100000
namespace Go.Proofs.Ytggmpaggmkfmoaa
open Go Go.Eng

structure Pkt where
  reply : Bool
  op : Int
  status : Int
  opq : Nat
  token : Nat
  ex : List UInt8
  key : List UInt8
  val : List UInt8
  large : Bool

def Pkt.body (p : Pkt) : Nat := p.ex.length + p.key.length + p.val.length
/-- P22.1: may it be written? -/
def okP (p : Pkt) : Bool :=
  !(decide (p.op < 0) || decide (255 < p.op) || (decide (p.status < 0) || decide (65535 < p.status) || (!p.reply && !decide (p.status = 0))) || decide (4294967295 < p.opq) ||
    (decide (255 < p.ex.length) || decide (250 < p.key.length) || decide (2147483647 < p.body)) || p.large)
def enc (p : Pkt) : List UInt8 :=
  be 1 (if p.reply then 129 else 128) ++ be 1 p.op.toNat ++ be 2 p.key.length ++ be 1 p.ex.length ++ be 1 0 ++ be 2 p.status.toNat ++ be 4 p.body ++ be 4 p.opq ++ be 8 p.token ++ p.ex ++ p.key ++ p.val
def pktCells (p : Pkt) (ae : Option Addr) (ce : Nat) (av : Option Addr) (cv : Nat) : List Value :=
  [.bool p.reply, .int .i64 p.op, .int .i64 p.status, .int .u64 p.opq, .int .u64 p.token, .slice ae p.ex.length ce, strv p.key, .slice av p.val.length cv, .bool p.large]

set_option maxHeartbeats 4000000 in
theorem bytes_fn (p : Pkt) (ae : Option Addr) (ce : Nat) (av : Option Addr) (cv : Nat) (hlen : p.body ≤ 1099511627776) (htok : p.token < 18446744073709551616) :
    FnS Try.prog 15 [.agg (pktCells p ae ce av cv).toArray] (fun h => Rdl h ae (bcells p.ex) ∧ Rdl h av (bcells p.val)) []
      (fun v H => (okP p = true ∧ ∃ a c, v = .tuple #[.slice a (enc p).length c, .int .i64 0] ∧ H = [own a c 5 1 (bcells (enc p))]) ∨
        (okP p = false ∧ v = .tuple #[.slice none 0 0, .int .i64 7] ∧ H = [])) := by
  obtain ⟨reply, op, status, opq, token, ex, key, val, large⟩ := p
  dsimp only [Pkt.body, pktCells] at hlen htok ⊢

  refine fn_body Try.func15 rfl Try.ntmps15 rfl ?_
  rintro F ⟨hE, hV⟩
  refine g_sr ?_
  refine Lp (oB fun b1 => ?_)
  refine Li As ?_
  refine Li As ?_
  refine g_ne ?_
  refine g_sr ?_
  refine Li (Fa T.fld_39_5) ?_
  refine Lp (oL T.sc_37 ?_)
  refine Li (Ln T.sl_37) ?_
  refine Li (Fa T.fld_39_6) ?_
  refine Lp (oL T.sc_9 ?_)
  refine Li (Ls T.u_9) ?_
  refine Li Im ?_
  refine Li (Fa T.fld_39_7) ?_
  refine Lp (oL T.sc_37 ?_)
  refine Li (Ln T.sl_37) ?_
  refine Li Im ?_
  refine Li As ?_
  refine g_ne ?_
  refine g_seq ?_
  refine g_mid (ι := Unit) [20, 21, 22, 23, 24, 25, 26, 27, 28, 29, 30, 31, 32, 33, 5] (fun u => True) (fun u => [(5, .bool (decide (255 < ex.length) || decide (250 < key.length) || decide (2147483647 < ex.length + key.length + val.length)))]) (fun u => [pts b1 39 [.bool reply, .int .i64 op, .int .i64 status, .int .u64 opq, .int .u64 token, .slice ae ex.length ce, strv key, .slice av val.length cv, .bool large]]) ?_ ?_
  · refine g_region ?_
    refine Li (Fa T.fld_39_5) ?_
    refine Lp (oL T.sc_37 ?_)
    refine Li (Ln T.sl_37) ?_
    refine Li Cm ?_
    refine Li Mv ?_
    refine g_split (t := 24) rfl ?_ ?_
    · intro hb0
      replace hb0 := nrm hb0
      refine Lx ?_
      refine Lx ?_
      refine Lx ?_
      refine Lx ?_
      refine Li Pt ?_
      refine Li Mv ?_
      refine Lx ?_
      refine Lx ?_
      refine Li Pt ?_
      refine Li As ?_
      refine g_nil ?_
      refine Me (()) (trivial)
    · intro hb0
      replace hb0 := nrm hb0
      refine Li (Fa T.fld_39_6) ?_
      refine Lp (oL T.sc_9 ?_)
      refine Li (Ls T.u_9) ?_
      refine Li Cm ?_
      refine Li Pf ?_
      refine Li Mv ?_
      refine g_split (t := 30) rfl ?_ ?_
      · intro hb1
        replace hb1 := nrm hb1
        refine Lx ?_
        refine Lx ?_
        refine Li Pt ?_
        refine Li As ?_
        refine g_nil ?_
        refine Me (()) (trivial)
      · intro hb1
        replace hb1 := nrm hb1
        refine Li Mv ?_
        refine Li Cm ?_
        refine Li Pf ?_
        refine Li As ?_
        refine g_nil ?_
        refine Me (()) (trivial)
  rintro u hI
  refine g_seq ?_
  refine g_mid (ι := Unit) [34, 35, 36, 37, 38, 39, 40, 41, 42, 43, 44, 45, 46, 47, 48, 49, 50, 51, 6] (fun u => True) (fun u => [(6, .bool (decide (status < 0) || decide (65535 < status) || (!reply && !decide (status = 0))))]) (fun u => [pts b1 39 [.bool reply, .int .i64 op, .int .i64 status, .int .u64 opq, .int .u64 token, .slice ae ex.length ce, strv key, .slice av val.length cv, .bool large]]) ?_ ?_
  · cases reply
    ·
      refine g_region ?_
      refine Li (Fa T.fld_39_2) ?_
      refine Lp (oL T.sc_3 ?_)
      refine Li Cm ?_
      refine Li Mv ?_
      refine g_split (t := 37) rfl ?_ ?_
      · intro hb0
        replace hb0 := nrm hb0
        refine Lx ?_
        refine Lx ?_
        refine Lx ?_
        refine Li Pt ?_
        refine Li Mv ?_
        refine Lx ?_
        refine Lx ?_
        refine Lx ?_
        refine Lx ?_
        refine Lx ?_
        refine Lx ?_
        refine Lx ?_
        refine Lx ?_
        refine Li Pt ?_
        refine Li As ?_
        refine g_nil ?_
        refine Me (()) (trivial)
      · intro hb0
        replace hb0 := nrm hb0
        refine Li (Fa T.fld_39_2) ?_
        refine Lp (oL T.sc_3 ?_)
        refine Li Cm ?_
        refine Li Pf ?_
        refine Li Mv ?_
        refine g_split (t := 42) rfl ?_ ?_
        · intro hb1
          replace hb1 := nrm hb1
          refine Lx ?_
          refine Lx ?_
          refine Lx ?_
          refine Lx ?_
          refine Lx ?_
          refine Lx ?_
          refine Lx ?_
          refine Lx ?_
          refine Li Pt ?_
          refine Li As ?_
          refine g_nil ?_
          refine Me (()) (trivial)
        · intro hb1
          replace hb1 := nrm hb1
          refine Li (Fa T.fld_39_0) ?_
          refine Lp (oL T.sc_4 ?_)
          refine Li Nt ?_
          refine Li Mv ?_
          refine g_split (t := 46) rfl ?_ ?_
          · intro hb2
            replace hb2 := nrm hb2
            refine Li (Fa T.fld_39_2) ?_
            refine Lp (oL T.sc_3 ?_)
            refine Li Cm ?_
            refine Li Pt ?_
            refine Li Pf ?_
            refine Li As ?_
            refine g_nil ?_
            refine Me (()) (trivial)
          · intro hb2
            replace hb2 := nrm hb2
            refine Lx ?_
            refine Lx ?_
            refine Lx ?_
            refine Li Pf ?_
            refine Li Pf ?_
            refine Li As ?_
            refine g_nil ?_
            refine Me (()) (trivial)
    ·
      refine g_region ?_
      refine Li (Fa T.fld_39_2) ?_
      refine Lp (oL T.sc_3 ?_)
      refine Li Cm ?_
      refine Li Mv ?_
      refine g_split (t := 37) rfl ?_ ?_
      · intro hb0
        replace hb0 := nrm hb0
        refine Lx ?_
        refine Lx ?_
        refine Lx ?_
        refine Li Pt ?_
        refine Li Mv ?_
        refine Lx ?_
        refine Lx ?_
        refine Lx ?_
        refine Lx ?_
        refine Lx ?_
        refine Lx ?_
        refine Lx ?_
        refine Lx ?_
        refine Li Pt ?_
        refine Li As ?_
        refine g_nil ?_
        refine Me (()) (trivial)
      · intro hb0
        replace hb0 := nrm hb0
        refine Li (Fa T.fld_39_2) ?_
        refine Lp (oL T.sc_3 ?_)
        refine Li Cm ?_
        refine Li Pf ?_
        refine Li Mv ?_
        refine g_split (t := 42) rfl ?_ ?_
        · intro hb1
          replace hb1 := nrm hb1
          refine Lx ?_
          refine Lx ?_
          refine Lx ?_
          refine Lx ?_
          refine Lx ?_
          refine Lx ?_
          refine Lx ?_
          refine Lx ?_
          refine Li Pt ?_
          refine Li As ?_
          refine g_nil ?_
          refine Me (()) (trivial)
        · intro hb1
          replace hb1 := nrm hb1
          refine Li (Fa T.fld_39_0) ?_
          refine Lp (oL T.sc_4 ?_)
          refine Li Nt ?_
          refine Li Mv ?_
          refine g_split (t := 46) rfl ?_ ?_
          · intro hb2
            replace hb2 := nrm hb2
            refine Li (Fa T.fld_39_2) ?_
            refine Lp (oL T.sc_3 ?_)
            refine Li Cm ?_
            refine Li Pt ?_
            refine Li Pf ?_
            refine Li As ?_
            refine g_nil ?_
            refine Me (()) (trivial)
          · intro hb2
            replace hb2 := nrm hb2
            refine Lx ?_
            refine Lx ?_
            refine Lx ?_
            refine Li Pf ?_
            refine Li Pf ?_
            refine Li As ?_
            refine g_nil ?_
            refine Me (()) (trivial)
  rintro u hI
  refine g_seq ?_
  refine g_seq ?_
  refine g_mid (ι := Unit) [52, 53, 54, 55, 56, 57, 58, 59, 60, 61, 62, 63, 64, 65, 66, 67, 68, 69, 70, 71, 72, 73, 74] (fun u => True) (fun u => [(74, .bool (!okP ⟨reply, op, status, opq, token, ex, key, val, large⟩))]) (fun u => [pts b1 39 [.bool reply, .int .i64 op, .int .i64 status, .int .u64 opq, .int .u64 token, .slice ae ex.length ce, strv key, .slice av val.length cv, .bool large]]) ?_ ?_
  · generalize hsz : (decide (255 < ex.length) || decide (250 < key.length) || decide (2147483647 < ex.length + key.length + val.length)) = sz
    generalize hst : (decide (status < 0) || decide (65535 < status) || (!reply && !decide (status = 0))) = st
    have hok : okP ⟨reply, op, status, opq, token, ex, key, val, large⟩ = !(decide (op < 0) || decide (255 < op) || st || decide (4294967295 < opq) || sz || large) := by
      rw [← hsz, ← hst]; rfl
    rw [hok]
    clear hok hsz hst
    refine g_region ?_
    refine Li (Fa T.fld_39_1) ?_
    refine Lp (oL T.sc_3 ?_)
    refine Li Cm ?_
    refine Li Mv ?_
    refine g_split (t := 55) rfl ?_ ?_
    · intro hb0
      replace hb0 := nrm hb0
      refine Lx ?_
      refine Lx ?_
      refine Lx ?_
      refine Li Pt ?_
      refine Li Mv ?_
      refine Lx ?_
      refine Li Pt ?_
      refine Li Mv ?_
      refine Lx ?_
      refine Lx ?_
      refine Lx ?_
      refine Li Pt ?_
      refine Li Mv ?_
      refine Lx ?_
      refine Li Pt ?_
      refine Li Mv ?_
      refine Lx ?_
      refine Lx ?_
      refine Li Pt ?_
      refine g_nil ?_
      refine Me (()) (trivial)
    · intro hb0
      replace hb0 := nrm hb0
      refine Li (Fa T.fld_39_1) ?_
      refine Lp (oL T.sc_3 ?_)
      refine Li Cm ?_
      refine Li Pf ?_
      refine Li Mv ?_
      refine g_split (t := 60) rfl ?_ ?_
      · intro hb1
        replace hb1 := nrm hb1
        refine Lx ?_
        refine Li Pt ?_
        refine Li Mv ?_
        refine Lx ?_
        refine Lx ?_
        refine Lx ?_
        refine Li Pt ?_
        refine Li Mv ?_
        refine Lx ?_
        refine Li Pt ?_
        refine Li Mv ?_
        refine Lx ?_
        refine Lx ?_
        refine Li Pt ?_
        refine g_nil ?_
        refine Me (()) (trivial)
      · intro hb1
        replace hb1 := nrm hb1
        refine Li Mv ?_
        refine Li Pf ?_
        refine Li Mv ?_
        refine g_split (t := 63) rfl ?_ ?_
        · intro hb2
          replace hb2 := nrm hb2
          refine Lx ?_
          refine Lx ?_
          refine Lx ?_
          refine Li Pt ?_
          refine Li Mv ?_
          refine Lx ?_
          refine Li Pt ?_
          refine Li Mv ?_
          refine Lx ?_
          refine Lx ?_
          refine Li Pt ?_
          refine g_nil ?_
          refine Me (()) (trivial)
        · intro hb2
          replace hb2 := nrm hb2
          refine Li (Fa T.fld_39_3) ?_
          refine Lp (oL T.sc_36 ?_)
          refine Li Cm ?_
          refine Li Pf ?_
          refine Li Mv ?_
          refine g_split (t := 68) rfl ?_ ?_
          · intro hb3
            replace hb3 := nrm hb3
            refine Lx ?_
            refine Li Pt ?_
            refine Li Mv ?_
            refine Lx ?_
            refine Lx ?_
            refine Li Pt ?_
            refine g_nil ?_
            refine Me (()) (trivial)
          · intro hb3
            replace hb3 := nrm hb3
            refine Li Mv ?_
            refine Li Pf ?_
            refine Li Mv ?_
            refine g_split (t := 71) rfl ?_ ?_
            · intro hb4
              replace hb4 := nrm hb4
              refine Lx ?_
              refine Lx ?_
              refine Li Pt ?_
              refine g_nil ?_
              refine Me (()) (trivial)
            · intro hb4
              replace hb4 := nrm hb4
              refine Li (Fa T.fld_39_8) ?_
              refine Lp (oL T.sc_4 ?_)
              refine Li Pf ?_
              refine g_nil ?_
              refine Me (()) (trivial)
  rintro u hI
  refine g_cond rfl ?_ ?_
  · intro hz
    replace hz := nrm hz
    refine g_sr ?_
    refine Li As ?_
    refine Li As ?_
    refine g_ne ?_
    refine g_ret ?_
    refine e_then_ret ?_
    refine Rt2 [] Try.results15 ?_
    exact .inr ⟨hz, rfl, rfl⟩
  · intro hz
    replace hz := nrm hz
    have hz0 := hz
    simp only [okP, Pkt.body, Bool.not_eq_true', Bool.or_eq_false_iff, decide_eq_false_iff_not, Bool.and_eq_false_iff] at hz0
    obtain ⟨⟨⟨⟨⟨q1, q2⟩, ⟨q3, q4⟩, q5⟩, q6⟩, ⟨q7, q8⟩, q9⟩, rfl⟩ := hz0
    obtain ⟨opn, rfl⟩ := Int.eq_ofNat_of_zero_le (Int.not_lt.1 q1)
    obtain ⟨stn, rfl⟩ := Int.eq_ofNat_of_zero_le (Int.not_lt.1 q3)
    have q10 : ¬ 2147483647 < ex.length + key.length + val.length := of_decide_eq_false q9
    clear q1 q3 q5 q9
    refine g_skip ?_
    refine e_then ?_
    refine g_sr ?_
    refine Li As ?_
    refine g_ne ?_
    refine g_seq ?_
    refine g_sr ?_
    refine Li (Fa T.fld_39_0) ?_
    refine Lp (oL T.sc_4 ?_)
    refine g_ne ?_

    refine g_mid (ι := Unit) [7] (fun u => True) (fun u => [(7, .int .u8 (((if reply then 129 else 128 : Nat) : Nat) : Int))]) (fun u => [pts b1 39 [.bool reply, .int .i64 (opn : Int), .int .i64 (stn : Int), .int .u64 opq, .int .u64 token, .slice ae ex.length ce, strv key, .slice av val.length cv, .bool false]]) ?_ ?_
    · refine g_cond rfl ?_ ?_
      · intro hr
        replace hr := nrm hr
        subst hr
        refine g_region ?_
        refine Li As ?_
        refine g_nil ?_
        refine Me (()) (trivial)
      · intro hr
        replace hr := nrm hr
        subst hr
        refine g_skip ?_
        refine Me (()) (trivial)
    rintro u hI
    refine g_sr ?_
    refine Li Mv ?_
    refine Li Im ?_
    refine Lp (oM (0) (24 + (ex.length + key.length + val.length)) T.ap_37 fun b2 => ?_)
    refine Li As ?_
    refine g_ne ?_
    refine g_seq ?_
    refine g_heap (fun _ s => starL_cons_mono (fun _ p => own_make p (24 + (ex.length + key.length + val.length)) 1 (by rw [zrep_length]) (by simp only [maxLen]; omega)) s) ?_
    refine g_region ?_
    refine Li Mv ?_
    refine Li Mv ?_
    refine Lp (oC T.fn_40 rfl rfl (lay40 [] _ _ _ (if reply then 129 else 128) 1 rfl (by split <;> omega) (by omega) (by simp)) (.cons .here .nil) (fun _ _ _ => trivial) ?_)
    rintro v H' ⟨a1, c1, rfl, rfl⟩
    try simp only [nap, cap]
    refine Li As ?_
    refine g_ne ?_
    refine g_sr ?_
    refine Li Mv ?_
    refine Li (Fa T.fld_39_1) ?_
    refine Lp (oL T.sc_3 ?_)
    refine Li (Cv T.u_5 T.us_3) ?_










    refine Lp (oC T.fn_40 rfl rfl (lay40 (be 1 (if reply then 129 else 128)) _ _ _ opn 1 (by simp) (by omega) (by omega) (by simp)) (.cons .here .nil) (fun _ _ _ => trivial) ?_)
    rintro v H' ⟨a2, c2, rfl, rfl⟩
    try simp only [nap, cap]
    refine Li As ?_
    refine g_ne ?_
    refine g_sr ?_
    refine Li Mv ?_
    refine Li (Fa T.fld_39_6) ?_
    refine Lp (oL T.sc_9 ?_)
    refine Li (Ls T.u_9) ?_
    refine Li (Cv T.u_83 T.us_3) ?_
    refine Lp (oC T.fn_41 rfl rfl (lay41 (be 1 (if reply then 129 else 128) ++ be 1 opn) _ _ _ key.length 2 (by simp) (by omega) (by omega) (by simp)) (.cons .here .nil) (fun _ _ _ => trivial) ?_)
    rintro v H' ⟨a3, c3, rfl, rfl⟩
    try simp only [nap, cap]
    refine Li As ?_
    refine g_ne ?_
    refine g_sr ?_
    refine Li Mv ?_
    refine Li (Fa T.fld_39_5) ?_
    refine Lp (oL T.sc_37 ?_)
    refine Li (Ln T.sl_37) ?_
    refine Li (Cv T.u_5 T.us_3) ?_
    refine Lp (oC T.fn_40 rfl rfl (lay40 (be 1 (if reply then 129 else 128) ++ be 1 opn ++ be 2 key.length) _ _ _ ex.length 1 (by simp) (by omega) (by omega) (by simp)) (.cons .here .nil) (fun _ _ _ => trivial) ?_)
    rintro v H' ⟨a4, c4, rfl, rfl⟩
    try simp only [nap, cap]
    refine Li As ?_
    refine g_ne ?_
    refine g_sr ?_
    refine Li Mv ?_
    refine Lp (oC T.fn_40 rfl rfl (lay40 (be 1 (if reply then 129 else 128) ++ be 1 opn ++ be 2 key.length ++ be 1 ex.length) _ _ _ 0 1 (by simp) (by omega) (by omega) (by simp)) (.cons .here .nil) (fun _ _ _ => trivial) ?_)
    rintro v H' ⟨a5, c5, rfl, rfl⟩
    try simp only [nap, cap]
    refine Li As ?_
    refine g_ne ?_
    refine g_sr ?_
    refine Li Mv ?_
    refine Li (Fa T.fld_39_2) ?_
    refine Lp (oL T.sc_3 ?_)
    refine Li (Cv T.u_83 T.us_3) ?_
    refine Lp (oC T.fn_41 rfl rfl (lay41 (be 1 (if reply then 129 else 128) ++ be 1 opn ++ be 2 key.length ++ be 1 ex.length ++ be 1 0) _ _ _ stn 2 (by simp) (by omega) (by omega) (by simp)) (.cons .here .nil) (fun _ _ _ => trivial) ?_)
    rintro v H' ⟨a6, c6, rfl, rfl⟩
    try simp only [nap, cap]
    refine Li As ?_
    refine g_ne ?_
    refine g_sr ?_
    refine Li Mv ?_
    refine Li Mv ?_
    refine Li (Cv T.u_85 T.us_3) ?_
    refine g_slot (t := 109) (v' := .int .u32 ((ex.length + key.length + val.length : Nat) : Int)) rfl (by refine congrArg (Value.int .u32) ?_; omega) ?_
    refine Lp (oC T.fn_42 rfl rfl (lay42 (be 1 (if reply then 129 else 128) ++ be 1 opn ++ be 2 key.length ++ be 1 ex.length ++ be 1 0 ++ be 2 stn) _ _ _ (ex.length + key.length + val.length) 4 (by simp) (by omega) (by omega) (by simp)) (.cons .here .nil) (fun _ _ _ => trivial) ?_)
    rintro v H' ⟨a7, c7, rfl, rfl⟩
    try simp only [nap, cap]
    refine Li As ?_
    refine g_ne ?_
    refine g_sr ?_
    refine Li Mv ?_
    refine Li (Fa T.fld_39_3) ?_
    refine Lp (oL T.sc_36 ?_)
    refine Li (Cv T.u_85 T.us_36) ?_
    refine Lp (oC T.fn_42 rfl rfl (lay42 (be 1 (if reply then 129 else 128) ++ be 1 opn ++ be 2 key.length ++ be 1 ex.length ++ be 1 0 ++ be 2 stn ++ be 4 (ex.length + key.length + val.length)) _ _ _ opq 4 (by simp) (by omega) (by omega) (by simp)) (.cons .here .nil) (fun _ _ _ => trivial) ?_)
    rintro v H' ⟨a8, c8, rfl, rfl⟩
    try simp only [nap, cap]
    refine Li As ?_
    refine g_ne ?_
    refine g_sr ?_
    refine Li Mv ?_
    refine Li (Fa T.fld_39_4) ?_
    refine Lp (oL T.sc_36 ?_)
    refine Lp (oC T.fn_43 rfl rfl (lay43 (be 1 (if reply then 129 else 128) ++ be 1 opn ++ be 2 key.length ++ be 1 ex.length ++ be 1 0 ++ be 2 stn ++ be 4 (ex.length + key.length + val.length) ++ be 4 opq) _ _ _ token 8 (by simp) htok (by omega) (by simp)) (.cons .here .nil) (fun _ _ _ => trivial) ?_)
    rintro v H' ⟨a9, c9, rfl, rfl⟩
    try simp only [nap, cap]
    refine Li As ?_
    refine g_ne ?_
    refine g_sr ?_
    refine Li Mv ?_
    refine Li (Fa T.fld_39_5) ?_
    refine Lp (oL T.sc_37 ?_)
    have hl9 : (bcells (be 1 (if reply then 129 else 128) ++ be 1 opn ++ be 2 key.length ++ be 1 ex.length ++ be 1 0 ++ be 2 stn ++ be 4 (ex.length + key.length + val.length) ++ be 4 opq ++ be 8 token)).length = 24 := by simp
    refine Lp (op_append T.ap_37 T.ni_37 rfl rfl rfl rfl .here (by rw [hl9]) (src_slice (by simp) fun h le _ => hE.mono le) (by first | exact bcells_one | (simp [Value.oneCell', strv])) (by first | omega | (simp; omega)) (by first | omega | (simp; omega)) rfl fun a10 c10 h10 => ?_)
    refine Li As ?_
    refine g_ne ?_
    refine g_sr ?_
    refine Li Mv ?_
    refine Li (Fa T.fld_39_6) ?_
    refine Lp (oL T.sc_9 ?_)
    refine Lp (op_append T.ap_37 T.ni_9 rfl rfl rfl rfl .here (by rw [List.length_append, hl9, bcells_length]; omega) (src_str key) (by first | exact bcells_one | (simp [Value.oneCell', strv])) (by first | omega | (simp; omega)) (by first | omega | (simp; omega)) rfl fun a11 c11 h11 => ?_)
    refine Li As ?_
    refine g_ne ?_
    refine g_sr ?_
    refine Li Mv ?_
    refine Li (Fa T.fld_39_7) ?_
    refine Lp (oL T.sc_37 ?_)
    refine Lp (op_append T.ap_37 T.ni_37 rfl rfl rfl rfl .here (by rw [List.length_append, List.length_append, hl9, bcells_length, bcells_length]; omega) (src_slice (by simp) fun h le _ => hV.mono le) (by first | exact bcells_one | (simp [Value.oneCell', strv])) (by first | omega | (simp; omega)) (by first | omega | (simp; omega)) rfl fun a12 c12 h12 => ?_)
    refine Li As ?_
    refine Li As ?_
    refine g_ne ?_
    refine g_ret ?_
    refine g_heap (ent_eq (H' := [own a12 c12 5 1 (bcells (enc ⟨reply, opn, stn, opq, token, ex, key, val, false⟩)), pts b1 39 [.bool reply, .int .i64 (opn : Int), .int .i64 (stn : Int), .int .u64 opq, .int .u64 token, .slice ae ex.length ce, strv key, .slice av val.length cv, .bool false]]) ?_) ?_
    · simp [enc, Pkt.body]
    refine Rt2 [own a12 c12 5 1 (bcells (enc ⟨reply, opn, stn, opq, token, ex, key, val, false⟩))] Try.results15 ?_
    refine .inl ⟨hz, a12, c12, ?_, rfl⟩
    simp [enc, Nat.add_comm, Nat.add_left_comm, Nat.add_assoc]
end Go.Proofs.Ytggmpaggmkfmoaa

