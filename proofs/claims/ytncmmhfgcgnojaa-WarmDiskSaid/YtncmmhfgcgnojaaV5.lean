/- The law on the disk: WarmDisk. -/
import Derived.Test.YtncmmhfgcgnojaaV4
set_option maxRecDepth 100000
namespace Go.Proofs.Ytncmmhfgcgnojaa
open Go Go.Eng

theorem and_one (z : Int) : ∃ k : Nat, k ≤ 1 ∧ intOp .and .i64 z 1 = some (k : Int) := by
  have h2 : (BitVec.ofInt 64 z &&& BitVec.ofInt 64 1).toNat ≤ 1 := by
    rw [BitVec.toNat_and]
    have : (BitVec.ofInt 64 1).toNat = 1 := by decide
    rw [this, Nat.and_one_is_mod]
    omega
  refine ⟨(BitVec.ofInt 64 z &&& BitVec.ofInt 64 1).toNat, h2, ?_⟩
  show some (IntKind.i64.wrap ((BitVec.ofInt 64 z &&& BitVec.ofInt 64 1).toNat : Int)) = _
  rw [wrap_i64 (by omega)]
/-- an act, and where its lists lie -/
structure AcL where
  on : Int
  d : Int
  name : Nm
  to : Nm
  ba : Option Addr
  bc : Nat
  bl : List UInt8
  pa : Option Addr
  pc : Nat
  pl : List Flt
  ca : Option Addr
  cc : Nat
  cl : List Int
  cn : Int
def acE (x : AcL) : List Value := acC x.on x.d x.name x.to x.ba x.bl.length x.bc x.pa x.pl.length x.pc x.ca x.cl.length x.cc x.cn
def acEs (l : List AcL) : List Value := l.flatMap acE
theorem acE_len : ∀ x, (acE x).length = 8 := fun _ => rfl
def AcOk (h : Hp) (x : AcL) : Prop := (Rdl h x.ba (bcells x.bl) ∧ Rdl h x.pa (ftCs x.pl) ∧ Rdl h x.ca (icells x.cl)) ∧ x.bl.length ≤ x.bc ∧ x.pl.length ≤ x.pc ∧ x.cl.length ≤ x.cc ∧ x.name.length ≤ 140737488355328
abbrev Two := Option (Nat × Nat × Ds)
def Sok : Two → Nat → Prop
  | none, _ => True
  | some (_, _, s), i => Inv s ∧ Short s ∧ s.acts ≤ i
def pD : Two → Value
  | none => .pointer none
  | some (db, _, _) => .pointer (some ⟨db, 0, none⟩)
def pR : Two → Value
  | none => .pointer none
  | some (_, rb, _) => .pointer (some ⟨rb, 0, none⟩)
def slH : Two → HProp
  | none => empt
  | some (db, rb, s) => stars [Dk db s, Rk rb s]
theorem Sok.mono {o : Two} {i j : Nat} (h : Sok o i) (hij : i ≤ j) : Sok o j := by
  match o, h with
  | none, _ => trivial
  | some (_, _, s), h => exact ⟨h.1, h.2.1, Nat.le_trans h.2.2 hij⟩
theorem Sok.start {db rb n : Nat} (h : n ≤ 1099511627776) : Sok (some (db, rb, startM n)) 0 := ⟨inv_start n h, ⟨(by intro p hp; cases hp), (by intro c hc; cases hc)⟩, Nat.le_refl _⟩
set_option maxHeartbeats 4000000 in
theorem warmDisk_fn (x0 x1 : Int) (a : Option Addr) (c : Nat) (l : List AcL) :
    FnS Try.prog 3 [.agg #[.int .i64 x0, .int .i64 x1], .slice a l.length c] (fun h => Rdl h a (acEs l) ∧ ∀ x ∈ l, AcOk h x) [] (fun v H => v = .bool true ∧ H = []) := by
  refine fn_body Try.func3 rfl Try.ntmps3 rfl ?_
  rintro F ⟨hR, hA⟩
  refine g_sr ?_
  refine Lp (oB fun b1 => ?_)
  refine Li As ?_
  refine g_ne ?_
  refine g_seq ?_
  refine g_sr ?_
  refine Lp (oC T.fn_4 rfl rfl (stirs_law) .nil (fun _ _ _ => trivial) ?_)
  rintro v H' ⟨rfl, rfl⟩
  try simp only [nap, cap]
  refine Li Nt ?_
  refine g_ne ?_
  refine g_cond_f rfl (by rfl) ?_
  refine g_skip ?_
  refine e_then ?_
  refine g_sr ?_
  refine Lp (oA T.zc_26 fun b2 => ?_)
  refine g_ne ?_
  refine g_sr ?_
  refine Lp (oA T.zc_28 fun b3 => ?_)
  refine g_ne ?_
  refine g_seq ?_
  refine g_sr ?_
  refine Li As ?_
  refine g_ne ?_
  refine g_block ?_
  refine g_heap (fun _ s => starL_emp (A := empt) (fun _ => trivial) (starL_emp (A := empt) (fun _ => trivial) s)) ?_
  refine Lo (ι := Nat × Two × Two) [17, 18, 22, 23, 24, 25, 21, 26, 27, 8, 9, 29, 30, 31, 32, 28, 33, 34, 11, 10, 35, 36, 37, 38, 39, 40, 41, 42, 43, 44, 45, 4, 46, 47, 48, 49, 50, 51, 19, 20, 7] (fun (k, o0, o1) => k ≤ 2 ∧ (k = 0 → o0 = none ∧ o1 = none) ∧ (k = 1 → o1 = none) ∧ Sok o0 0 ∧ Sok o1 0) (fun (k, o0, o1) => [(7, .int .i64 (k : Int))]) (fun (k, o0, o1) => [pts b1 22 [.int .i64 x0, .int .i64 x1], pts b2 26 [pD o0, pD o1], pts b3 28 [pR o0, pR o1], slH o0, slH o1]) (fun (k, o0, o1) => 2 - k) ((0, none, none)) ⟨by omega, fun _ => ⟨rfl, rfl⟩, fun _ => rfl, trivial, trivial⟩ ?_
  rintro ⟨k, o0, o1⟩ ⟨hk, hz0, hz1, hs0, hs1⟩
  try dsimp only at hI ⊢
  dsimp only at hk hz0 hz1 hs0 hs1 ⊢
  refine g_seq ?_
  refine g_sr ?_
  refine Li Mv ?_
  refine Li Cm ?_
  refine g_ne ?_
  refine g_cond rfl ?_ ?_
  · intro hlt
    replace hlt := nrm hlt
    rcases (by omega : k = 0 ∨ k = 1) with rfl | rfl
    · obtain ⟨rfl, rfl⟩ := hz0 rfl
      by_cases hx : 0 ≤ x0 ∧ x0 ≤ 1099511627776
      · obtain ⟨n, rfl⟩ : ∃ n : Nat, x0 = (n : Int) := ⟨x0.toNat, by omega⟩
        refine g_skip ?_
        refine e_then ?_
        refine g_seq ?_
        refine g_block ?_
        refine g_sr ?_
        refine Li Mv ?_
        refine Li (Ia T.ar_22) ?_
        refine Lp (oL T.sc_3 ?_)
        refine Lp (oC T.fn_5 rfl rfl (new_ok n (by omega)) .nil (fun _ _ _ => trivial) ?_)
        rintro v H' ⟨db, rfl, rfl⟩
        try simp only [nap, cap]
        refine Li Mv ?_
        refine Li Ex ?_
        refine Li Ex ?_
        refine Li As ?_
        refine Li As ?_
        refine g_ne ?_
        refine g_sr ?_
        refine Li Mv ?_
        refine Li (Ia T.ar_22) ?_
        refine Lp (oL T.sc_3 ?_)
        refine Lp (oC T.fn_6 rfl rfl (rnew_ok n (by omega)) .nil (fun _ _ _ => trivial) ?_)
        rintro v H' ⟨rb, rfl, rfl⟩
        try simp only [nap, cap]
        unfold faultV
        refine Li Mv ?_
        refine Li Ex ?_
        refine Li Ex ?_
        refine Lp (oA T.zc_34 fun b4 => ?_)
        refine Li As ?_
        refine Lp (oSW T.ag_34 ?_)
        refine g_ne ?_
        refine g_seq ?_
        refine g_sr ?_
        refine Li Mv ?_
        refine Lp (oLN T.ag_34 ?_)
        refine Lp (oC T.fn_7 rfl rfl (told_no) .nil (fun _ _ _ => trivial) ?_)
        rintro v H' ⟨rfl, rfl⟩
        try simp only [nap, cap]
        refine Li Nt ?_
        refine Li Mv ?_
        refine g_slot (t := 39) (v' := .bool false) rfl (congrArg Value.bool (by rfl)) ?_
        refine Li Mv ?_
        refine Li (Pn T.u_25) ?_
        refine Li Mv ?_
        refine Li (Pn T.u_27) ?_
        refine Li (Bq T.u_4) ?_
        refine Li Pf ?_
        refine g_ne ?_
        refine g_cond_f rfl (by rfl) ?_
        refine g_skip ?_
        refine e_then ?_
        refine g_region ?_
        refine Li Mv ?_
        refine Li Mv ?_
        refine Li Mv ?_
        refine Li Mv ?_
        refine Li (Ia T.ar_26) ?_
        refine Lp (oS T.sc_25 ?_)
        refine Li (Ia T.ar_28) ?_
        refine Lp (oS T.sc_27 ?_)
        refine g_nil ?_
        refine e_block ?_
        refine e_then ?_
        refine g_region ?_
        refine Li Mv ?_
        refine Li Im ?_
        refine Li As ?_
        refine g_nil ?_
        refine Hh (H' := [Dk db (startM n), Rk rb (startM n), pts b1 22 [.int .i64 (n : Int), .int .i64 x1], pts b2 26 [.pointer (some ⟨db, 0, none⟩), pD none], pts b3 28 [.pointer (some ⟨rb, 0, none⟩), pR none], slH none]) ?_
        refine g_heap (fun _ s => stars_of (L := [_, _]) s) ?_
        refine Ro ((1, some (db, rb, startM n), none)) (⟨by dsimp only; omega, fun h => absurd h (by dsimp only; omega), fun _ => rfl, (Sok.start (by omega)), trivial⟩) ((by dsimp only; omega))
      · refine g_skip ?_
        refine e_then ?_
        refine g_seq ?_
        refine g_block ?_
        refine g_sr ?_
        refine Li Mv ?_
        refine Li (Ia T.ar_22) ?_
        refine Lp (oL T.sc_3 ?_)
        refine Lp (oC T.fn_5 rfl rfl (new_bad x0 (by omega)) .nil (fun _ _ _ => trivial) ?_)
        rintro v H' ⟨E, ve, rfl, hE, rfl⟩
        try simp only [nap, cap]
        refine Li Mv ?_
        refine Li Ex ?_
        refine Li Ex ?_
        refine Li As ?_
        refine Li As ?_
        refine g_ne ?_
        refine g_sr ?_
        refine Li Mv ?_
        refine Li (Ia T.ar_22) ?_
        refine Lp (oL T.sc_3 ?_)
        refine Lp (oC T.fn_6 rfl rfl (rnew_bad x0 (by omega)) .nil (fun _ _ _ => trivial) ?_)
        rintro v H' ⟨rfl, rfl⟩
        try simp only [nap, cap]
        unfold faultV
        refine Li Mv ?_
        refine Li Ex ?_
        refine Li Ex ?_
        refine Lp (oA T.zc_34 fun b5 => ?_)
        refine Li As ?_
        refine Lp (oSW T.ag_34 ?_)
        refine g_ne ?_
        refine g_seq ?_
        refine g_sr ?_
        refine Li Mv ?_
        refine Lp (oLN T.ag_34 ?_)
        refine Lp (oC T.fn_7 rfl rfl (told_fn newT [] 1 _ E hE (by decide) (by simp)) .nil (fun _ _ hin => hin.nth 1 rfl) ?_)
        rintro v H' ⟨rfl, rfl⟩
        try simp only [nap, cap]
        refine Li Nt ?_
        refine Li Mv ?_
        refine g_slot (t := 39) (v' := .bool false) rfl (congrArg Value.bool (by rfl)) ?_
        refine Li Mv ?_
        refine Li (Pn T.u_25) ?_
        refine Li Mv ?_
        refine Li (Pn T.u_27) ?_
        refine Li (Bq T.u_4) ?_
        refine Li Pf ?_
        refine g_ne ?_
        refine g_cond_f rfl (by rfl) ?_
        refine g_skip ?_
        refine e_then ?_
        refine g_region ?_
        refine Li Mv ?_
        refine Li Mv ?_
        refine Li Mv ?_
        refine Li Mv ?_
        refine Li (Ia T.ar_26) ?_
        refine Lp (oS T.sc_25 ?_)
        refine Li (Ia T.ar_28) ?_
        refine Lp (oS T.sc_27 ?_)
        refine g_nil ?_
        refine e_block ?_
        refine e_then ?_
        refine g_region ?_
        refine Li Mv ?_
        refine Li Im ?_
        refine Li As ?_
        refine g_nil ?_
        refine g_heap (fun _ s => starL_emp (A := empt) (fun _ => trivial) s) ?_
        refine Ro ((1, none, none)) (⟨by dsimp only; omega, fun h => absurd h (by dsimp only; omega), fun _ => rfl, trivial, trivial⟩) ((by dsimp only; omega))
    · obtain rfl := hz1 rfl
      by_cases hx : 0 ≤ x1 ∧ x1 ≤ 1099511627776
      · obtain ⟨n, rfl⟩ : ∃ n : Nat, x1 = (n : Int) := ⟨x1.toNat, by omega⟩
        refine g_skip ?_
        refine e_then ?_
        refine g_seq ?_
        refine g_block ?_
        refine g_sr ?_
        refine Li Mv ?_
        refine Li (Ia T.ar_22) ?_
        refine Lp (oL T.sc_3 ?_)
        refine Lp (oC T.fn_5 rfl rfl (new_ok n (by omega)) .nil (fun _ _ _ => trivial) ?_)
        rintro v H' ⟨db, rfl, rfl⟩
        try simp only [nap, cap]
        refine Li Mv ?_
        refine Li Ex ?_
        refine Li Ex ?_
        refine Li As ?_
        refine Li As ?_
        refine g_ne ?_
        refine g_sr ?_
        refine Li Mv ?_
        refine Li (Ia T.ar_22) ?_
        refine Lp (oL T.sc_3 ?_)
        refine Lp (oC T.fn_6 rfl rfl (rnew_ok n (by omega)) .nil (fun _ _ _ => trivial) ?_)
        rintro v H' ⟨rb, rfl, rfl⟩
        try simp only [nap, cap]
        unfold faultV
        refine Li Mv ?_
        refine Li Ex ?_
        refine Li Ex ?_
        refine Lp (oA T.zc_34 fun b6 => ?_)
        refine Li As ?_
        refine Lp (oSW T.ag_34 ?_)
        refine g_ne ?_
        refine g_seq ?_
        refine g_sr ?_
        refine Li Mv ?_
        refine Lp (oLN T.ag_34 ?_)
        refine Lp (oC T.fn_7 rfl rfl (told_no) .nil (fun _ _ _ => trivial) ?_)
        rintro v H' ⟨rfl, rfl⟩
        try simp only [nap, cap]
        refine Li Nt ?_
        refine Li Mv ?_
        refine g_slot (t := 39) (v' := .bool false) rfl (congrArg Value.bool (by rfl)) ?_
        refine Li Mv ?_
        refine Li (Pn T.u_25) ?_
        refine Li Mv ?_
        refine Li (Pn T.u_27) ?_
        refine Li (Bq T.u_4) ?_
        refine Li Pf ?_
        refine g_ne ?_
        refine g_cond_f rfl (by rfl) ?_
        refine g_skip ?_
        refine e_then ?_
        refine g_region ?_
        refine Li Mv ?_
        refine Li Mv ?_
        refine Li Mv ?_
        refine Li Mv ?_
        refine Li (Ia T.ar_26) ?_
        refine Lp (oS T.sc_25 ?_)
        refine Li (Ia T.ar_28) ?_
        refine Lp (oS T.sc_27 ?_)
        refine g_nil ?_
        refine e_block ?_
        refine e_then ?_
        refine g_region ?_
        refine Li Mv ?_
        refine Li Im ?_
        refine Li As ?_
        refine g_nil ?_
        refine Hh (H' := [Dk db (startM n), Rk rb (startM n), pts b1 22 [.int .i64 x0, .int .i64 (n : Int)], pts b2 26 [pD o0, .pointer (some ⟨db, 0, none⟩)], pts b3 28 [pR o0, .pointer (some ⟨rb, 0, none⟩)], slH o0]) ?_
        refine g_heap (fun _ s => stars_of (L := [_, _]) s) ?_
        refine Ro ((2, o0, some (db, rb, startM n))) (⟨by dsimp only; omega, fun h => absurd h (by dsimp only; omega), fun h => absurd h (by dsimp only; omega), hs0, (Sok.start (by omega))⟩) ((by dsimp only; omega))
      · refine g_skip ?_
        refine e_then ?_
        refine g_seq ?_
        refine g_block ?_
        refine g_sr ?_
        refine Li Mv ?_
        refine Li (Ia T.ar_22) ?_
        refine Lp (oL T.sc_3 ?_)
        refine Lp (oC T.fn_5 rfl rfl (new_bad x1 (by omega)) .nil (fun _ _ _ => trivial) ?_)
        rintro v H' ⟨E, ve, rfl, hE, rfl⟩
        try simp only [nap, cap]
        refine Li Mv ?_
        refine Li Ex ?_
        refine Li Ex ?_
        refine Li As ?_
        refine Li As ?_
        refine g_ne ?_
        refine g_sr ?_
        refine Li Mv ?_
        refine Li (Ia T.ar_22) ?_
        refine Lp (oL T.sc_3 ?_)
        refine Lp (oC T.fn_6 rfl rfl (rnew_bad x1 (by omega)) .nil (fun _ _ _ => trivial) ?_)
        rintro v H' ⟨rfl, rfl⟩
        try simp only [nap, cap]
        unfold faultV
        refine Li Mv ?_
        refine Li Ex ?_
        refine Li Ex ?_
        refine Lp (oA T.zc_34 fun b7 => ?_)
        refine Li As ?_
        refine Lp (oSW T.ag_34 ?_)
        refine g_ne ?_
        refine g_seq ?_
        refine g_sr ?_
        refine Li Mv ?_
        refine Lp (oLN T.ag_34 ?_)
        refine Lp (oC T.fn_7 rfl rfl (told_fn newT [] 1 _ E hE (by decide) (by simp)) .nil (fun _ _ hin => hin.nth 1 rfl) ?_)
        rintro v H' ⟨rfl, rfl⟩
        try simp only [nap, cap]
        refine Li Nt ?_
        refine Li Mv ?_
        refine g_slot (t := 39) (v' := .bool false) rfl (congrArg Value.bool (by rfl)) ?_
        refine Li Mv ?_
        refine Li (Pn T.u_25) ?_
        refine Li Mv ?_
        refine Li (Pn T.u_27) ?_
        refine Li (Bq T.u_4) ?_
        refine Li Pf ?_
        refine g_ne ?_
        refine g_cond_f rfl (by rfl) ?_
        refine g_skip ?_
        refine e_then ?_
        refine g_region ?_
        refine Li Mv ?_
        refine Li Mv ?_
        refine Li Mv ?_
        refine Li Mv ?_
        refine Li (Ia T.ar_26) ?_
        refine Lp (oS T.sc_25 ?_)
        refine Li (Ia T.ar_28) ?_
        refine Lp (oS T.sc_27 ?_)
        refine g_nil ?_
        refine e_block ?_
        refine e_then ?_
        refine g_region ?_
        refine Li Mv ?_
        refine Li Im ?_
        refine Li As ?_
        refine g_nil ?_
        refine g_heap (fun _ s => starL_emp (A := empt) (fun _ => trivial) s) ?_
        refine Ro ((2, o0, none)) (⟨by dsimp only; omega, fun h => absurd h (by dsimp only; omega), fun h => absurd h (by dsimp only; omega), hs0, trivial⟩) ((by dsimp only; omega))
  · intro hlt
    replace hlt := nrm hlt
    obtain rfl : k = 2 := by omega
    clear hz0 hz1 hlt
    obtain ⟨N, hN⟩ : ∃ N, N = min l.length 300 := ⟨_, rfl⟩
    refine g_exit ?_
    refine e_then_exit ?_
    refine e_then_exit ?_
    refine e_block_hit ?_
    refine e_then ?_
    refine g_seq ?_
    refine g_sr ?_
    refine Li As ?_
    refine g_ne ?_
    refine g_block ?_
    refine Lo (ι := Nat × Two × Two) [52, 53, 54, 55, 56, 57, 58, 59, 62, 63, 64, 65, 66, 67, 13, 68, 69, 70, 71, 72, 73, 74, 75, 76, 77, 78, 79, 80, 81, 82, 83, 84, 85, 4, 60, 61, 12] (fun (i, o0, o1) => i ≤ N ∧ Sok o0 i ∧ Sok o1 i) (fun (i, o0, o1) => [(12, .int .i64 (i : Int))]) (fun (i, o0, o1) => [pts b2 26 [pD o0, pD o1], pts b3 28 [pR o0, pR o1], slH o0, slH o1]) (fun (i, o0, o1) => N - i) ((0, o0, o1)) ⟨Nat.zero_le _, hs0, hs1⟩ ?_
    rintro ⟨i, o0, o1⟩ ⟨hi, hs0, hs1⟩
    try dsimp only at hI ⊢
    dsimp only at hi hs0 hs1 ⊢
    refine g_seq ?_
    refine g_seq ?_
    refine g_mid (ι := Unit) [52, 53, 54, 55, 56, 57, 58, 59] (fun u => True) (fun u => [(59, .bool (decide ((i : Int) < (N : Int))))]) (fun u => [pts b2 26 [pD o0, pD o1], pts b3 28 [pR o0, pR o1], slH o0, slH o1]) ?_ ?_
    · refine g_region ?_
      refine Li Mv ?_
      refine Li Mv ?_
      refine Li (Ln T.sl_23) ?_
      refine Li Cm ?_
      refine Li Mv ?_
      refine g_split (t := 56) rfl ?_ ?_
      · intro hb0
        replace hb0 := nrm hb0
        refine Li Mv ?_
        refine Li Cm ?_
        refine Li Pt ?_
        refine g_nil ?_
        refine Me (()) (trivial)
      · intro hb0
        replace hb0 := nrm hb0
        refine Lx ?_
        refine Lx ?_
        refine Li Pf ?_
        refine g_nil ?_
        refine Me (()) (trivial)
    rintro u hI
    refine g_cond rfl ?_ ?_
    · intro hlt
      replace hlt := nrm hlt
      have hil : i < l.length := by omega
      have e1 : l[i]? = some l[i] := List.getElem?_eq_getElem hil
      generalize l[i] = x at e1
      obtain ⟨hx1, hx2, hx3, hx4, hx5⟩ := hA x (List.mem_of_getElem? e1)
      have k0 : (acEs l)[i * 8 + 0]? = some (.int .i64 x.on) := rows_cell acE_len e1 rfl
      have k1 : ((acEs l).drop (i * 8)).take 8 = acE x := rows_at acE_len e1
      have sa : a.isSome = true := hR.some (by unfold acEs; rw [rows_len acE_len]; omega)
      unfold acE at k1
      obtain ⟨kk, hkk, hand⟩ := and_one x.on
      refine g_skip ?_
      refine e_then ?_
      refine g_seq ?_
      refine g_block ?_
      refine g_sr ?_
      refine Li Mv ?_
      refine Li Mv ?_
      refine Li (Ix T.sl_23) ?_
      refine Li (Fam T.fld_44_0) ?_
      refine Lp (oL T.sc_3 ?_)
      refine Li ((Im (hz := hand))) ?_
      refine Li As ?_
      refine g_ne ?_
      refine g_seq ?_
      rcases (by omega : kk = 0 ∨ kk = 1) with rfl | rfl
      · rcases o0 with _ | ⟨db, rb, s⟩
        · dsimp only [pD, pR, slH]
          refine gT false T.mix ?_
          refine Ti Mv ?_
          refine Ti (Ia T.ar_26) ?_
          refine Tp (oL T.sc_25 ?_)
          refine Ti (Pn T.u_25) ?_
          refine Ti Mv ?_
          refine g_slot (t := 72) (v' := .bool false) rfl (congrArg Value.bool (by rfl)) ?_
          refine Tx ?_
          refine Tx ?_
          refine Tx ?_
          refine Tx ?_
          refine Tx ?_
          refine Tx ?_
          refine Tx ?_
          refine Tx ?_
          refine Tx ?_
          refine Tx ?_
          refine Tx ?_
          refine Tx ?_
          refine Ti Pf ?_
          refine Tne ?_
          refine g_cond_f rfl rfl ?_
          refine g_skip ?_
          refine e_block ?_
          refine e_then ?_
          refine g_region ?_
          refine Li Mv ?_
          refine Li Im ?_
          refine Li As ?_
          refine g_nil ?_
          refine Hh (H' := [pts b2 26 [.pointer none, pD o1], pts b3 28 [.pointer none, pR o1], empt, slH o1]) ?_
          refine Ro ((i + 1, none, o1)) (⟨by dsimp only; omega, trivial, hs1.mono (Nat.le_succ _)⟩) ((by dsimp only; omega))
        · obtain ⟨hI1, hI2, hI3⟩ := hs0
          dsimp only [pD, pR, slH]
          refine gT false T.mix ?_
          refine Ti Mv ?_
          refine Ti (Ia T.ar_26) ?_
          refine Tp (oL T.sc_25 ?_)
          refine Ti (Pn T.u_25) ?_
          refine Ti Mv ?_
          refine g_slot (t := 72) (v' := .bool true) rfl (congrArg Value.bool (by rfl)) ?_
          refine Ti Mv ?_
          refine Ti (Ia T.ar_26) ?_
          refine Tp (oL T.sc_25 ?_)
          refine Ti Mv ?_
          refine Ti (Ia T.ar_28) ?_
          refine Tp (oL T.sc_27 ?_)
          refine Ti Mv ?_
          refine Ti Mv ?_
          refine Ti (Ix T.sl_23) ?_
          refine Tp (oLN T.ag_44 ?_)
          refine g_heap (H' := [stars [Dk db s, Rk rb s], pts b2 26 [.pointer (some ⟨db, 0, none⟩), pD o1], pts b3 28 [.pointer (some ⟨rb, 0, none⟩), pR o1], slH o1]) Eh ?_
          refine g_stars ?_
          simp only [nap, cap]
          refine Tp (oC T.fn_8 rfl rfl (acts_law db rb s hI1 (by omega) x.on x.d x.name x.to hx5 x.ba x.bc x.bl x.pa x.pc x.pl x.ca x.cc x.cl x.cn hx2 hx3 hx4) (.cons .here (.cons .here .nil)) (fun _ le _ => ⟨hx1.1.mono le, hx1.2.1.mono le, hx1.2.2.mono le⟩) ?_)
          rintro v H' ⟨rfl, rfl⟩
          try simp only [nap, cap]
          have hst := inv_step hI1 x.d x.name x.to x.bl x.pl x.cl x.cn
          have hsh := short_step hI2 x.d x.name x.to x.bl x.pl x.cl x.cn
          generalize stepM s x.d x.name x.to x.bl x.pl x.cl x.cn = s2 at *
          refine g_heap (fun _ s => stars_of (L := [_, _]) s) ?_
          refine Ti Nt ?_
          refine Ti Pt ?_
          refine Tne ?_
          refine g_cond_f rfl (by rfl) ?_
          refine g_skip ?_
          refine e_block ?_
          refine e_then ?_
          refine g_region ?_
          refine Li Mv ?_
          refine Li Im ?_
          refine Li As ?_
          refine g_nil ?_
          refine Ro ((i + 1, some (db, rb, s2), o1)) (⟨by dsimp only; omega, ⟨hst.1, hsh, by have := hst.2; omega⟩, hs1.mono (Nat.le_succ _)⟩) ((by dsimp only; omega))
      · rcases o1 with _ | ⟨db, rb, s⟩
        · dsimp only [pD, pR, slH]
          refine gT false T.mix ?_
          refine Ti Mv ?_
          refine Ti (Ia T.ar_26) ?_
          refine Tp (oL T.sc_25 ?_)
          refine Ti (Pn T.u_25) ?_
          refine Ti Mv ?_
          refine g_slot (t := 72) (v' := .bool false) rfl (congrArg Value.bool (by rfl)) ?_
          refine Tx ?_
          refine Tx ?_
          refine Tx ?_
          refine Tx ?_
          refine Tx ?_
          refine Tx ?_
          refine Tx ?_
          refine Tx ?_
          refine Tx ?_
          refine Tx ?_
          refine Tx ?_
          refine Tx ?_
          refine Ti Pf ?_
          refine Tne ?_
          refine g_cond_f rfl rfl ?_
          refine g_skip ?_
          refine e_block ?_
          refine e_then ?_
          refine g_region ?_
          refine Li Mv ?_
          refine Li Im ?_
          refine Li As ?_
          refine g_nil ?_
          refine Hh (H' := [pts b2 26 [pD o0, .pointer none], pts b3 28 [pR o0, .pointer none], slH o0, empt]) ?_
          refine Ro ((i + 1, o0, none)) (⟨by dsimp only; omega, hs0.mono (Nat.le_succ _), trivial⟩) ((by dsimp only; omega))
        · obtain ⟨hI1, hI2, hI3⟩ := hs1
          dsimp only [pD, pR, slH]
          refine gT false T.mix ?_
          refine Ti Mv ?_
          refine Ti (Ia T.ar_26) ?_
          refine Tp (oL T.sc_25 ?_)
          refine Ti (Pn T.u_25) ?_
          refine Ti Mv ?_
          refine g_slot (t := 72) (v' := .bool true) rfl (congrArg Value.bool (by rfl)) ?_
          refine Ti Mv ?_
          refine Ti (Ia T.ar_26) ?_
          refine Tp (oL T.sc_25 ?_)
          refine Ti Mv ?_
          refine Ti (Ia T.ar_28) ?_
          refine Tp (oL T.sc_27 ?_)
          refine Ti Mv ?_
          refine Ti Mv ?_
          refine Ti (Ix T.sl_23) ?_
          refine Tp (oLN T.ag_44 ?_)
          refine g_heap (H' := [stars [Dk db s, Rk rb s], pts b2 26 [pD o0, .pointer (some ⟨db, 0, none⟩)], pts b3 28 [pR o0, .pointer (some ⟨rb, 0, none⟩)], slH o0]) Eh ?_
          refine g_stars ?_
          simp only [nap, cap]
          refine Tp (oC T.fn_8 rfl rfl (acts_law db rb s hI1 (by omega) x.on x.d x.name x.to hx5 x.ba x.bc x.bl x.pa x.pc x.pl x.ca x.cc x.cl x.cn hx2 hx3 hx4) (.cons .here (.cons .here .nil)) (fun _ le _ => ⟨hx1.1.mono le, hx1.2.1.mono le, hx1.2.2.mono le⟩) ?_)
          rintro v H' ⟨rfl, rfl⟩
          try simp only [nap, cap]
          have hst := inv_step hI1 x.d x.name x.to x.bl x.pl x.cl x.cn
          have hsh := short_step hI2 x.d x.name x.to x.bl x.pl x.cl x.cn
          generalize stepM s x.d x.name x.to x.bl x.pl x.cl x.cn = s2 at *
          refine g_heap (fun _ s => stars_of (L := [_, _]) s) ?_
          refine Ti Nt ?_
          refine Ti Pt ?_
          refine Tne ?_
          refine g_cond_f rfl (by rfl) ?_
          refine g_skip ?_
          refine e_block ?_
          refine e_then ?_
          refine g_region ?_
          refine Li Mv ?_
          refine Li Im ?_
          refine Li As ?_
          refine g_nil ?_
          refine Ro ((i + 1, o0, some (db, rb, s2))) (⟨by dsimp only; omega, hs0.mono (Nat.le_succ _), ⟨hst.1, hsh, by have := hst.2; omega⟩⟩) ((by dsimp only; omega))
    · intro hlt
      replace hlt := nrm hlt
      obtain rfl : i = N := by omega
      refine g_exit ?_
      refine e_then_exit ?_
      refine e_then_exit ?_
      refine e_block_hit ?_
      refine e_then ?_
      refine g_seq ?_
      refine g_sr ?_
      refine Li As ?_
      refine g_ne ?_
      refine g_block ?_
      refine Lo (ι := Nat × Two × Two) [86, 87, 90, 91, 92, 93, 94, 95, 96, 97, 98, 99, 100, 101, 4, 102, 103, 104, 105, 106, 107, 108, 109, 110, 111, 112, 113, 114, 115, 116, 117, 118, 119, 88, 89, 14] (fun (k, o0, o1) => k ≤ 2 ∧ Sok o0 300 ∧ Sok o1 300) (fun (k, o0, o1) => [(14, .int .i64 (k : Int))]) (fun (k, o0, o1) => [pts b2 26 [pD o0, pD o1], pts b3 28 [pR o0, pR o1], slH o0, slH o1]) (fun (k, o0, o1) => 2 - k) ((0, o0, o1)) ⟨by omega, hs0.mono (by omega), hs1.mono (by omega)⟩ ?_
      rintro ⟨k, o0, o1⟩ ⟨hk, hs0, hs1⟩
      try dsimp only at hI ⊢
      try dsimp only at hk hs0 hs1 ⊢
      refine g_seq ?_
      refine g_sr ?_
      refine Li Mv ?_
      refine Li Cm ?_
      refine g_ne ?_
      refine g_cond rfl ?_ ?_
      · intro hlt
        replace hlt := nrm hlt
        rcases (by omega : k = 0 ∨ k = 1) with rfl | rfl
        · rcases o0 with _ | ⟨db, rb, s⟩
          · dsimp only [pD, pR, slH]
            refine g_skip ?_
            refine e_then ?_
            refine g_seq ?_
            refine g_block ?_
            refine g_seq ?_
            refine g_sr ?_
            refine Li Mv ?_
            refine Li (Ia T.ar_26) ?_
            refine Lp (oL T.sc_25 ?_)
            refine Li (Pn T.u_25) ?_
            refine g_ne ?_
            refine g_cond_t rfl (by rfl) ?_
            refine g_exit ?_
            refine e_then_exit ?_
            refine e_block_hit ?_
            refine e_then ?_
            refine g_region ?_
            refine Li Mv ?_
            refine Li Im ?_
            refine Li As ?_
            refine g_nil ?_
            refine Hh (H' := [pts b2 26 [.pointer none, pD o1], pts b3 28 [.pointer none, pR o1], empt, slH o1]) ?_
            refine Ro ((1, none, o1)) (⟨by dsimp only; omega, trivial, hs1⟩) ((by dsimp only; omega))
          · obtain ⟨hI1, hI2, hI3⟩ := hs0
            dsimp only [pD, pR, slH]
            refine g_heap (H' := [stars [Dk db s, Rk rb s], pts b2 26 [.pointer (some ⟨db, 0, none⟩), pD o1], pts b3 28 [.pointer (some ⟨rb, 0, none⟩), pR o1], slH o1]) Eh ?_
            refine g_stars ?_
            simp only [nap, cap]
            refine g_skip ?_
            refine e_then ?_
            refine g_seq ?_
            refine g_block ?_
            refine g_seq ?_
            refine g_sr ?_
            refine Li Mv ?_
            refine Li (Ia T.ar_26) ?_
            refine Lp (oL T.sc_25 ?_)
            refine Li (Pn T.u_25) ?_
            refine g_ne ?_
            refine g_cond_f rfl (by rfl) ?_
            refine g_skip ?_
            refine e_then ?_
            refine g_seq ?_
            refine g_seq ?_
            refine gT false T.mix ?_
            refine Ti Mv ?_
            refine Ti (Ia T.ar_26) ?_
            refine Tp (oL T.sc_25 ?_)
            refine Ti Mv ?_
            refine Ti (Ia T.ar_28) ?_
            refine Tp (oL T.sc_27 ?_)
            refine Tp (oC T.fn_9 rfl rfl (alike_law db rb s hI1 (by omega) hI2) (.cons .here (.cons .here .nil)) (fun _ _ _ => trivial) ?_)
            rintro v H' ⟨rfl, rfl⟩
            try simp only [nap, cap]
            refine Ti Nt ?_
            refine Tne ?_
            refine g_cond_f rfl (by rfl) ?_
            refine g_skip ?_
            refine e_then ?_
            refine g_sr ?_
            refine Li Mv ?_
            refine Li (Ia T.ar_26) ?_
            refine Lp (oL T.sc_25 ?_)
            refine Li (Bd T.zc_42 T.st_42) ?_
            refine Lp (oC T.fn_10 rfl rfl (restart_m db s hI1 (by omega) none 0 0 [] rfl 0) (.cons .here .nil) (fun _ _ _ => Rdl.nil) ?_)
            rintro v H' ⟨rfl, rfl⟩
            try simp only [nap, cap]
            refine g_ne ?_
            refine g_sr ?_
            refine Li Mv ?_
            refine Li (Ia T.ar_28) ?_
            refine Lp (oL T.sc_27 ?_)
            refine Li (Bd T.zc_42 T.st_42) ?_
            refine Lp (oC T.fn_11 rfl rfl (rrestart_m rb s hI1 (by omega) none 0 0 [] rfl 0) (.cons (.there .here) .nil) (fun _ _ _ => Rdl.nil) ?_)
            rintro v H' ⟨rfl, rfl⟩
            try simp only [nap, cap]
            have hst := inv_rest hI1 [] 0
            have hsh := short_rest hI2 [] 0
            have hac : (restM s [] 0).acts ≤ 300 := hI3
            generalize restM s [] 0 = s2 at *
            refine g_ne ?_
            refine g_seq ?_
            refine gT false T.mix ?_
            refine Ti Mv ?_
            refine Ti (Ia T.ar_26) ?_
            refine Tp (oL T.sc_25 ?_)
            refine Ti Mv ?_
            refine Ti (Ia T.ar_28) ?_
            refine Tp (oL T.sc_27 ?_)
            refine Tp (oC T.fn_9 rfl rfl (alike_law db rb s2 hst (by omega) hsh) (.cons (.there .here) (.cons .here .nil)) (fun _ _ _ => trivial) ?_)
            rintro v H' ⟨rfl, rfl⟩
            try simp only [nap, cap]
            refine Ti Nt ?_
            refine Tne ?_
            refine g_cond_f rfl (by rfl) ?_
            refine g_skip ?_
            refine e_block ?_
            refine e_then ?_
            refine g_region ?_
            refine Li Mv ?_
            refine Li Im ?_
            refine Li As ?_
            refine g_nil ?_
            refine g_heap (fun _ s => stars_of (L := [_, _]) s) ?_
            refine Ro ((1, some (db, rb, s2), o1)) (⟨by dsimp only; omega, ⟨hst, hsh, hac⟩, hs1⟩) ((by dsimp only; omega))
        · rcases o1 with _ | ⟨db, rb, s⟩
          · dsimp only [pD, pR, slH]
            refine g_skip ?_
            refine e_then ?_
            refine g_seq ?_
            refine g_block ?_
            refine g_seq ?_
            refine g_sr ?_
            refine Li Mv ?_
            refine Li (Ia T.ar_26) ?_
            refine Lp (oL T.sc_25 ?_)
            refine Li (Pn T.u_25) ?_
            refine g_ne ?_
            refine g_cond_t rfl (by rfl) ?_
            refine g_exit ?_
            refine e_then_exit ?_
            refine e_block_hit ?_
            refine e_then ?_
            refine g_region ?_
            refine Li Mv ?_
            refine Li Im ?_
            refine Li As ?_
            refine g_nil ?_
            refine Hh (H' := [pts b2 26 [pD o0, .pointer none], pts b3 28 [pR o0, .pointer none], slH o0, empt]) ?_
            refine Ro ((2, o0, none)) (⟨by dsimp only; omega, hs0, trivial⟩) ((by dsimp only; omega))
          · obtain ⟨hI1, hI2, hI3⟩ := hs1
            dsimp only [pD, pR, slH]
            refine g_heap (H' := [stars [Dk db s, Rk rb s], pts b2 26 [pD o0, .pointer (some ⟨db, 0, none⟩)], pts b3 28 [pR o0, .pointer (some ⟨rb, 0, none⟩)], slH o0]) Eh ?_
            refine g_stars ?_
            simp only [nap, cap]
            refine g_skip ?_
            refine e_then ?_
            refine g_seq ?_
            refine g_block ?_
            refine g_seq ?_
            refine g_sr ?_
            refine Li Mv ?_
            refine Li (Ia T.ar_26) ?_
            refine Lp (oL T.sc_25 ?_)
            refine Li (Pn T.u_25) ?_
            refine g_ne ?_
            refine g_cond_f rfl (by rfl) ?_
            refine g_skip ?_
            refine e_then ?_
            refine g_seq ?_
            refine g_seq ?_
            refine gT false T.mix ?_
            refine Ti Mv ?_
            refine Ti (Ia T.ar_26) ?_
            refine Tp (oL T.sc_25 ?_)
            refine Ti Mv ?_
            refine Ti (Ia T.ar_28) ?_
            refine Tp (oL T.sc_27 ?_)
            refine Tp (oC T.fn_9 rfl rfl (alike_law db rb s hI1 (by omega) hI2) (.cons .here (.cons .here .nil)) (fun _ _ _ => trivial) ?_)
            rintro v H' ⟨rfl, rfl⟩
            try simp only [nap, cap]
            refine Ti Nt ?_
            refine Tne ?_
            refine g_cond_f rfl (by rfl) ?_
            refine g_skip ?_
            refine e_then ?_
            refine g_sr ?_
            refine Li Mv ?_
            refine Li (Ia T.ar_26) ?_
            refine Lp (oL T.sc_25 ?_)
            refine Li (Bd T.zc_42 T.st_42) ?_
            refine Lp (oC T.fn_10 rfl rfl (restart_m db s hI1 (by omega) none 0 0 [] rfl 0) (.cons .here .nil) (fun _ _ _ => Rdl.nil) ?_)
            rintro v H' ⟨rfl, rfl⟩
            try simp only [nap, cap]
            refine g_ne ?_
            refine g_sr ?_
            refine Li Mv ?_
            refine Li (Ia T.ar_28) ?_
            refine Lp (oL T.sc_27 ?_)
            refine Li (Bd T.zc_42 T.st_42) ?_
            refine Lp (oC T.fn_11 rfl rfl (rrestart_m rb s hI1 (by omega) none 0 0 [] rfl 0) (.cons (.there .here) .nil) (fun _ _ _ => Rdl.nil) ?_)
            rintro v H' ⟨rfl, rfl⟩
            try simp only [nap, cap]
            have hst := inv_rest hI1 [] 0
            have hsh := short_rest hI2 [] 0
            have hac : (restM s [] 0).acts ≤ 300 := hI3
            generalize restM s [] 0 = s2 at *
            refine g_ne ?_
            refine g_seq ?_
            refine gT false T.mix ?_
            refine Ti Mv ?_
            refine Ti (Ia T.ar_26) ?_
            refine Tp (oL T.sc_25 ?_)
            refine Ti Mv ?_
            refine Ti (Ia T.ar_28) ?_
            refine Tp (oL T.sc_27 ?_)
            refine Tp (oC T.fn_9 rfl rfl (alike_law db rb s2 hst (by omega) hsh) (.cons (.there .here) (.cons .here .nil)) (fun _ _ _ => trivial) ?_)
            rintro v H' ⟨rfl, rfl⟩
            try simp only [nap, cap]
            refine Ti Nt ?_
            refine Tne ?_
            refine g_cond_f rfl (by rfl) ?_
            refine g_skip ?_
            refine e_block ?_
            refine e_then ?_
            refine g_region ?_
            refine Li Mv ?_
            refine Li Im ?_
            refine Li As ?_
            refine g_nil ?_
            refine g_heap (fun _ s => stars_of (L := [_, _]) s) ?_
            refine Ro ((2, o0, some (db, rb, s2))) (⟨by dsimp only; omega, hs0, ⟨hst, hsh, hac⟩⟩) ((by dsimp only; omega))
      · intro hlt
        replace hlt := nrm hlt
        refine g_exit ?_
        refine e_then_exit ?_
        refine e_then_exit ?_
        refine e_block_hit ?_
        refine e_then ?_
        refine g_sr ?_
        refine Li As ?_
        refine g_ne ?_
        refine g_ret ?_
        refine Rt [] Try.results3 ?_
        exact ⟨rfl, rfl⟩
end Go.Proofs.Ytncmmhfgcgnojaa

