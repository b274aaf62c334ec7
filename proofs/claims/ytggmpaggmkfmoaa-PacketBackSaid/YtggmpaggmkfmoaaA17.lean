/- Packets: how much is held. -/
import Derived.Test.YtggmpaggmkfmoaaA16
set_option maxRecDepth 100000
namespace Go.Proofs.Ytggmpaggmkfmoaa
open Go Go.Eng

theorem flat_len (l : List Ch) (i : Nat) : (flat (l.take i)).length ≤ (flat l).length := by
  have : flat l = flat (l.take i) ++ flat (l.drop i) := by simp [flat, ← List.flatten_append, ← List.map_append]
  rw [this]; simp

set_option maxHeartbeats 4000000 in
theorem holds_fn (raw : List UInt8) (ar : Option Addr) (cr : Nat) (one : List Int) (a1 : Option Addr) (c1 : Nat) (two : List Int) (a2 : Option Addr) (c2 : Nat) (limit : Int) (hr : raw.length ≤ cr)
    (q1 : -9223372036854775808 ≤ limit) (q2 : limit ≤ 9223372036854775807) :
    FnS Try.prog 10 [.agg (rowCells raw ar cr one a1 c1 two a2 c2 limit).toArray] (fun h => Rdl h ar (bcells raw) ∧ Rdl h a1 (icells one) ∧ Rdl h a2 (icells two)) [] (fun v H => v = .bool true ∧ H = []) := by
  dsimp only [rowCells]
  refine fn_body Try.func10 rfl Try.ntmps10 rfl ?_
  rintro F ⟨hR, hO, hT⟩
  have hlim : limit.toNat ≤ 9223372036854775807 := by omega
  have hcl := cap12_len raw
  refine g_sr ?_
  refine Lp (oB fun b1 => ?_)
  refine Li As ?_
  refine g_ne ?_
  refine g_sr ?_
  refine Li (Fa T.fld_75_3) ?_
  refine Lp (oL T.sc_3 ?_)
  refine Li As ?_
  refine g_ne ?_
  refine g_seq ?_
  refine g_sr ?_
  refine Li Mv ?_
  refine Li Cm ?_
  refine g_ne ?_
  refine g_mid (ι := Unit) [3] (fun u => True) (fun u => [(3, .int .i64 (limit.toNat : Int))]) (fun u => [pts b1 75 [.slice ar raw.length cr, .slice a1 one.length c1, .slice a2 two.length c2, .int .i64 limit]]) ?_ ?_
  · refine g_cond rfl ?_ ?_
    · intro hneg
      replace hneg := nrm hneg
      refine g_region ?_
      refine Li As ?_
      refine g_nil ?_
      refine Me (()) (trivial)
    · intro hneg
      replace hneg := nrm hneg
      refine g_skip ?_
      refine Me (()) (trivial)
  rintro u hI
  refine g_sr ?_
  refine Li (Fa T.fld_75_3) ?_
  refine Lp (oL T.sc_3 ?_)
  refine Lp (oC T.fn_27 rfl rfl (newF limit q1 q2) .nil (fun _ _ _ => trivial) ?_)
  rintro v H' ⟨bf, rfl, rfl⟩
  try simp only [nap, cap]
  refine Li As ?_
  refine g_ne ?_
  refine g_seq ?_
  refine g_sr ?_
  refine Li Mv ?_
  refine Li (Pn T.u_58) ?_
  refine Li Mv ?_
  refine g_slot (t := 18) (v' := .bool false) rfl (congrArg Value.bool (by rfl)) ?_
  refine Li Mv ?_
  refine Lp (oC T.fn_37 rfl rfl (heldF bf limit.toNat []) .nil (fun _ le hin => hin.nth 0 rfl) ?_)
  rintro v H' ⟨rfl, rfl⟩
  try simp only [nap, cap]
  refine Li Cm ?_
  refine Li Pf ?_
  refine Li Mv ?_
  refine g_slot (t := 23) (v' := .bool false) rfl (congrArg Value.bool (by rw [PS_nil]; rfl)) ?_
  refine Li Mv ?_
  refine Lp (oC T.fn_39 rfl rfl (takenF bf limit.toNat []) .nil (fun _ le hin => hin.nth 0 rfl) ?_)
  rintro v H' ⟨rfl, rfl⟩
  try simp only [nap, cap]
  refine Li Cm ?_
  refine Li Pf ?_
  refine Li Mv ?_
  refine g_slot (t := 28) (v' := .bool false) rfl (congrArg Value.bool (by rfl)) ?_
  refine Li Mv ?_
  refine Lp (oC T.fn_38 rfl rfl (brokenF bf limit.toNat []) .nil (fun _ le hin => hin.nth 0 rfl) ?_)
  rintro v H' ⟨rfl, rfl⟩
  try simp only [nap, cap]
  refine Li Pf ?_
  refine g_ne ?_
  refine g_cond_f rfl (by rw [PS_nil]; rfl) ?_
  refine g_skip ?_
  refine e_then ?_
  refine g_seq ?_
  refine g_drw T.mix (.cons (.there .here) .nil) fun F1 le1 hin1 back1 => ?_
  obtain ⟨hb1, _⟩ := hin1
  have hR1 := hR.mono le1
  have hO1 := hO.mono le1
  refine Dt 0 rfl (Fa T.fld_75_0) ?_
  refine Dt 1 rfl (Lf T.sc_37) ?_
  refine Dt 3 rfl (Fa T.fld_75_1) ?_
  refine Dt 4 rfl (Lf T.sc_73) ?_
  refine Dn 2 ?_
  refine Do rfl (oC T.fn_22 rfl rfl (bytes22_fn raw ar raw.length cr rfl hr) .nil (fun _ _ _ => trivial) ?_)
  rintro v H' ⟨ax, cx, rfl, hcx, hrx, rfl⟩
  try simp only [nap, cap]
  refine gh_next ?_
  refine Dn 5 ?_
  refine Do rfl (oC T.fn_36 rfl rfl (pieces_fn (cap12 raw) ax (cap12 raw).length cx one a1 one.length c1 rfl hcx rfl) .nil (fun _ le _ => hO1.mono le) ?_)
  rintro v H' ⟨ak, ck, k, rfl, hkl, hk, hkc, hkr, rfl⟩
  try simp only [nap, cap]
  refine gh_next ?_
  refine Dt 6 rfl As ?_
  refine gh_done (by kernel_rfl) back1 ?_
  refine e_then ?_
  refine g_sr ?_
  refine Li As ?_
  refine g_ne ?_
  refine g_seq ?_
  refine g_sr ?_
  refine Li As ?_
  refine g_ne ?_
  refine g_block ?_
  have hX := hkr _ (hrx _ hR)
  have hfl := flat_pieces hk
  refine Lo (ι := Nat) [38, 39, 40, 41, 44, 45, 46, 47, 48, 49, 50, 51, 52, 53, 54, 55, 56, 57, 58, 6, 59, 60, 8, 61, 62, 63, 64, 65, 66, 67, 68, 69, 70, 71, 72, 73, 74, 75, 76, 77, 78, 79, 2, 42, 43, 7] (fun i => i ≤ k.length) (fun i => [(6, .int .i64 ((flat (k.take i)).length : Int)), (7, .int .i64 (i : Int))]) (fun i => [Fd bf limit.toNat (flat (k.take i)), own ak ck 37 1 (chCells k)]) (fun i => k.length - i) (0) (Nat.zero_le _) ?_
  rintro i hi
  refine g_seq ?_
  refine g_sr ?_
  refine Li Mv ?_
  refine Li Mv ?_
  refine Li (Ln T.sl_24) ?_
  refine Li Cm ?_
  refine g_ne ?_
  refine g_cond rfl ?_ ?_
  · intro h1
    replace h1 := nrm h1
    obtain ⟨x, e1⟩ : ∃ x, k[i]? = some x := ⟨_, List.getElem?_eq_getElem (show i < k.length by omega)⟩
    have k1 : (chCells k)[i]? = some (.slice x.a x.b.length x.c) := by simp [chCells, e1]
    have rx := hX x (List.mem_of_getElem? e1)
    have hle1 := flat_len k (i + 1)
    have hfx := flat_take k i x e1
    have hfl2 : (flat (k.take (i + 1))).length = (flat (k.take i)).length + x.b.length := by rw [hfx]; simp
    rw [hfl] at hle1
    have hh := PS_held limit.toNat (flat (k.take (i + 1)))
    have hkl2 := PS_kept_le limit.toNat (flat (k.take (i + 1)))
    refine g_fact (X := ak.isSome = true) (fun h hin => (own_in (hin.nth 1 rfl)).some (by simp; omega)) fun hs => ?_
    refine g_skip ?_
    refine e_then ?_
    refine g_seq ?_
    refine g_block ?_
    refine g_sr ?_
    refine Li Mv ?_
    refine Lp (oT T.ap_37 fun b2 => ?_)
    refine Li Mv ?_
    refine Li Mv ?_
    refine Li (Ix T.sl_24) ?_
    refine Lp (oL T.sc_37 ?_)
    refine g_heap (fun _ s => starL_cons_mono (fun _ p => own_of_pts p 0 1 (by simp) (by simp [maxLen])) s) ?_
    refine Lp (op_append T.ap_37 T.ni_37 rfl rfl rfl rfl .here (rfl) (src_slice (m := x.b.length) (by simp) fun h le _ => rx.mono le) (by first | exact bcells_one | (simp [Value.oneCell', strv])) (by first | omega | (simp; omega)) (by first | omega | (simp; omega)) rfl fun a4 c4 hc4 => ?_)
    refine Lp (oC T.fn_31 rfl rfl (feedF bf limit.toNat (flat (k.take i)) a4 (0 + x.b.length) c4 x.b (Nat.zero_add _) hc4 hlim (by omega)) (.cons (.there .here) .nil) (fun _ le hin => own_in (hin.nth 0 rfl)) ?_)
    rintro v H' ⟨ao2, co2, o2, rfl, hs2, rfl⟩
    try simp only [nap, cap]
    rw [← hfx]
    refine g_ne ?_
    refine g_sr ?_
    refine Li Mv ?_
    refine Li Mv ?_
    refine Li Mv ?_
    refine Li (Ix T.sl_24) ?_
    refine Lp (oL T.sc_37 ?_)
    refine Li (Ln T.sl_37) ?_
    refine Li Im ?_
    refine Li As ?_
    refine g_ne ?_
    refine g_seq ?_
    rw [show ((flat (k.take i)).length : Int) + (x.b.length : Int) = ((flat (k.take (i + 1))).length : Int) from by omega]
    refine g_region ?_
    refine Li Mv ?_
    refine Lp (oC T.fn_37 rfl rfl (heldF bf limit.toNat (flat (k.take (i + 1)))) .nil (fun _ le hin => hin.nth 0 rfl) ?_)
    rintro v H' ⟨rfl, rfl⟩
    try simp only [nap, cap]
    refine Li As ?_
    refine g_ne ?_
    refine g_sr ?_
    refine Li Mv ?_
    refine Lp (oC T.fn_39 rfl rfl (takenF bf limit.toNat (flat (k.take (i + 1)))) .nil (fun _ le hin => hin.nth 0 rfl) ?_)
    rintro v H' ⟨rfl, rfl⟩
    try simp only [nap, cap]
    refine Li Mv ?_
    refine Li Cm ?_
    refine Li Mv ?_
    refine g_slot (t := 65) (v' := .bool false) rfl (congrArg Value.bool (by simp)) ?_
    refine Li Mv ?_
    refine Li Cm ?_
    refine Li Pf ?_
    refine Li Mv ?_
    refine g_slot (t := 69) (v' := .bool false) rfl (congrArg Value.bool (by simp)) ?_
    refine Li Mv ?_
    refine Li Mv ?_
    refine Li Cm ?_
    refine Li Pf ?_
    refine Li Mv ?_
    refine g_slot (t := 74) (v' := .bool false) rfl (congrArg Value.bool (by simp; omega)) ?_
    refine Li Mv ?_
    refine Li Im ?_
    refine Li Mv ?_
    refine Li Cm ?_
    refine Li Pf ?_
    refine g_ne ?_
    refine g_cond_f rfl (by simp; omega) ?_
    refine g_skip ?_
    refine e_block ?_
    refine e_then ?_
    refine g_region ?_
    refine Li Mv ?_
    refine Li Im ?_
    refine Li As ?_
    refine g_nil ?_
    refine Hh (H' := [Fd bf limit.toNat (flat (k.take (i + 1))), own ak ck 37 1 (chCells k)]) ?_
    refine Ro (i + 1) ((by omega)) ((by omega))
  · intro h1
    replace h1 := nrm h1
    refine g_exit ?_
    refine e_then_exit ?_
    refine e_then_exit ?_
    refine e_block_hit ?_
    refine e_then ?_
    refine g_sr ?_
    refine Lp (oC T.fn_21 rfl rfl (wakes_fn) .nil (fun _ _ _ => trivial) ?_)
    rintro v H' ⟨rfl, rfl⟩
    try simp only [nap, cap]
    refine Li As ?_
    refine g_ne ?_
    refine g_ret ?_
    refine Rt [] Try.results10 ?_
    exact ⟨rfl, rfl⟩
end Go.Proofs.Ytggmpaggmkfmoaa

