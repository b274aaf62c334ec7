/- Counts: the law of all calls in every order. -/
import Derived.Test.YtdmepoiijgejhaaDoorK23
set_option maxRecDepth 100000
namespace Go.Proofs.YtdmepoiijgejhaaDoor
open Go Go.Eng

theorem and_one (z : Int) : ∃ k : Nat, k < 2 ∧ IntKind.i64.wrap ((BitVec.ofInt IntKind.i64.bits z &&& BitVec.ofInt IntKind.i64.bits 1).toNat : Int) = (k : Int) := by
  refine ⟨(BitVec.ofInt IntKind.i64.bits z &&& BitVec.ofInt IntKind.i64.bits 1).toNat, ?_, ?_⟩
  · rw [BitVec.toNat_and]
    have : (BitVec.ofInt IntKind.i64.bits 1).toNat = 1 := rfl
    rw [this, Nat.and_one_is_mod]
    exact Nat.mod_lt _ (by omega)
  · have h : (BitVec.ofInt IntKind.i64.bits z &&& BitVec.ofInt IntKind.i64.bits 1).toNat < 2 := by
      rw [BitVec.toNat_and]
      have : (BitVec.ofInt IntKind.i64.bits 1).toNat = 1 := rfl
      rw [this, Nat.and_one_is_mod]
      exact Nat.mod_lt _ (by omega)
    exact wrap_i64 (by omega)
def opsC (l : List Opc) : List Value := l.flatMap opC
theorem opC_len (x : Opc) : (opC x).length = 28 := rfl
theorem opsC_at (l : List Opc) (i : Nat) (x : Opc) (h : l[i]? = some x) : ((opsC l).drop (i * 28)).take 28 = opC x := flatMap_at opC 28 opC_len l i x h
theorem opsC_len (l : List Opc) : (opsC l).length = l.length * 28 := flatMap_len opC 28 opC_len l
set_option maxHeartbeats 4000000 in
theorem exactLaw_fn (l : List Opc) (hb : l.length ≤ 9223372036854775807) (a : Option Addr) (m c : Nat) (hm : m = l.length) :
    FnS Tryd.prog 8 [.slice a m c] (fun h => Tab h ∧ Rdl h a (opsC l) ∧ ∀ x ∈ l, OpOk h x) [] (fun v H => v = .bool true ∧ H = []) := by
  subst hm
  refine fn_body Tryd.func8 rfl Tryd.ntmps8 rfl ?_
  intro F hF
  refine g_sr ?_
  refine Li As ?_
  refine g_ne ?_
  refine g_seq ?_
  refine g_sr ?_
  refine Lp (oC T.fn_10 rfl rfl (wakes_fn) .nil (fun _ le _ => hF.1.mono le) ?_)
  rintro v H' ⟨rfl, rfl⟩
  try simp only [nap, cap]
  refine Li Nt ?_
  refine g_ne ?_
  refine g_cond_f rfl (by rfl) ?_
  refine g_skip ?_
  refine e_then ?_
  refine g_sr ?_
  refine Lp (oC T.fn_11 rfl rfl (new_fn) .nil (fun _ _ _ => trivial) ?_)
  rintro v H' ⟨ba, rfl, rfl⟩
  try simp only [nap, cap]
  refine Lp (oC T.fn_11 rfl rfl (new_fn) .nil (fun _ _ _ => trivial) ?_)
  rintro v H' ⟨bb, rfl, rfl⟩
  try simp only [nap, cap]
  refine Lp (oT T.ap_70 fun b1 => ?_)
  refine Li As ?_
  refine g_ne ?_
  refine g_sr ?_
  refine Lp (oC T.fn_12 rfl rfl (rNew_fn) .nil (fun _ _ _ => trivial) ?_)
  rintro v H' ⟨ra, rfl, rfl⟩
  try simp only [nap, cap]
  refine Lp (oC T.fn_12 rfl rfl (rNew_fn) .nil (fun _ _ _ => trivial) ?_)
  rintro v H' ⟨rb, rfl, rfl⟩
  try simp only [nap, cap]
  refine Lp (oT T.ap_71 fun b2 => ?_)
  refine Li As ?_
  refine g_ne ?_
  refine g_seq ?_
  refine g_sr ?_
  refine Li Mv ?_
  refine Li (Ix (j := 0) T.sl_70) ?_
  refine Lp (oL T.sc_24 ?_)
  refine Li (Pn T.u_24) ?_
  refine Li Mv ?_
  refine g_slot (t := 21) (v' := .bool false) rfl (congrArg Value.bool (by rfl)) ?_
  refine Li Mv ?_
  refine Li (Ix (j := 1) T.sl_70) ?_
  refine Lp (oL T.sc_24 ?_)
  refine Li (Pn T.u_24) ?_
  refine Li Pf ?_
  refine g_ne ?_
  refine g_cond_f rfl (by rfl) ?_
  refine g_skip ?_
  refine e_then ?_
  refine g_seq ?_
  refine g_sr ?_
  refine Li As ?_
  refine g_ne ?_
  refine g_block ?_


  refine Lo (ι := Nat × List Nat × List Nat) [27, 28, 29, 30, 31, 32, 33, 34, 37, 38, 39, 40, 41, 42, 6, 43, 44, 45, 46, 47, 48, 49, 50, 51, 52, 53, 54, 55, 56, 2, 35, 36, 5] (fun (i, l0, l1) => i ≤ l.length ∧ Bz l0 ∧ Bz l1) (fun (i, l0, l1) => [(5, .int .i64 (i : Int))]) (fun (i, l0, l1) => [pts b1 24 [.pointer (some ⟨ba, 0, none⟩), .pointer (some ⟨bb, 0, none⟩)], pts b2 26 [.pointer (some ⟨ra, 0, none⟩), .pointer (some ⟨rb, 0, none⟩)], pts ba 89 (bdC 0 l0), pts bb 89 (bdC 0 l1), pts ra 91 (rbC l0), pts rb 91 (rbC l1)]) (fun (i, l0, l1) => l.length - i) ((0, List.replicate 32 0, List.replicate 32 0)) ⟨Nat.zero_le _, .zero, .zero⟩ ?_
  rintro ⟨i, l0, l1⟩ ⟨hi, z0, z1⟩
  try dsimp only at hI ⊢
  try dsimp only at hi z0 z1 ⊢
  refine g_seq ?_
  refine g_seq ?_
  refine g_mid (ι := Unit) [27, 28, 29, 30, 31, 32, 33, 34] (fun u => True) (fun u => [(34, .bool (decide ((i : Int) < l.length) && decide ((i : Int) < 2000)))]) (fun u => [pts b1 24 [.pointer (some ⟨ba, 0, none⟩), .pointer (some ⟨bb, 0, none⟩)], pts b2 26 [.pointer (some ⟨ra, 0, none⟩), .pointer (some ⟨rb, 0, none⟩)], pts ba 89 (bdC 0 l0), pts bb 89 (bdC 0 l1), pts ra 91 (rbC l0), pts rb 91 (rbC l1)]) ?_ ?_
  · refine g_region ?_
    refine Li Mv ?_
    refine Li Mv ?_
    refine Li (Ln T.sl_69) ?_
    refine Li Cm ?_
    refine Li Mv ?_
    refine g_split (t := 31) rfl ?_ ?_
    · intro hb0
      replace hb0 := nrm hb0
      refine Li Mv ?_
      refine Li Cm ?_
      refine Li Pt ?_
      refine g_nil ?_
      refine Me (()) (trivial)
    · intro hb0
      replace hb0 := nrm hb0
      refine Lx ?_
      refine Lx ?_
      refine Li Pf ?_
      refine g_nil ?_
      refine Me (()) (trivial)
  rintro u hI
  refine g_cond rfl ?_ ?_
  · intro h1
    replace h1 := nrm h1
    obtain ⟨x, e1⟩ : ∃ x, l[i]? = some x := ⟨_, List.getElem?_eq_getElem (show i < l.length by omega)⟩
    have k1 : ((opsC l).drop (i * 28)).take 28 = opC x := opsC_at l i x e1
    have k0 : (opsC l)[i * 28 + 0]? = some (.int .i64 x.on) := flat_at opC 28 opC_len l i x e1 0 (by omega)
    have hll := opsC_len l
    have hF2 := hF.2.1
    have ox := hF.2.2 x (List.mem_of_getElem? e1)
    have a0 : a.isSome = true := hF2.some (by omega)
    obtain ⟨k, hk2, hk⟩ := and_one x.on
    refine g_skip ?_
    refine e_then ?_
    refine g_seq ?_
    refine g_block ?_
    refine g_sr ?_
    refine Li Mv ?_
    refine Li Mv ?_
    refine Li (Ix T.sl_69) ?_
    refine Li (Fam T.fld_73_0) ?_
    refine Lp (oL T.sc_3 ?_)
    refine Li (Im (z := (k : Int)) (hz := by exact congrArg some hk)) ?_
    clear hk
    refine Li As ?_
    refine g_ne ?_
    refine g_seq ?_
    rcases (by omega : k = 0 ∨ k = 1) with rfl | rfl
    ·
      refine g_drw T.mix (.cons .here (.cons .here .nil)) fun F1 le1 hin1 back1 => ?_
      obtain ⟨hb0, hb1, _⟩ := hin1
      replace hF2 := hF2.mono le1
      refine Dt 0 rfl Mv ?_
      refine Dt 1 rfl Mv ?_
      refine Dt 2 rfl (Ix T.sl_70) ?_
      refine Dt 3 rfl (Lf T.sc_24) ?_
      refine Dt 4 rfl Mv ?_
      refine Dt 5 rfl Mv ?_
      refine Dt 6 rfl (Ix T.sl_71) ?_
      refine Dt 7 rfl (Lf T.sc_26) ?_
      refine Dt 8 rfl Mv ?_
      refine Dt 9 rfl Mv ?_
      refine Dt 10 rfl (Ix T.sl_69) ?_
      refine Dt 11 rfl (LfN T.ag_73) ?_
      refine Dn 12 ?_
      refine Do rfl (oC T.fn_29 rfl rfl (plays_fn _ _ l0 z0 x) (.cons .here (.cons (.there .here) .nil)) (fun _ le _ => ⟨hF.1.mono (le1.trans le), ox.mono (le1.trans le)⟩) ?_)
      rintro v H' ⟨l', rfl, z', rfl⟩
      try simp only [nap, cap]
      refine gh_next ?_
      refine Dt 13 rfl Nt ?_
      refine gh_done (by kernel_rfl) back1 ?_
      refine e_then ?_
      refine g_cond_f rfl (by rfl) ?_
      refine g_skip ?_
      refine e_block ?_
      refine e_then ?_
      refine g_region ?_
      refine Li Mv ?_
      refine Li Im ?_
      refine Li As ?_
      refine g_nil ?_
      refine Ro ((i + 1, l', l1)) (⟨by omega, by assumption, by assumption⟩) (by omega)
    ·
      refine g_drw T.mix (.cons .here (.cons .here .nil)) fun F2 le2 hin2 back2 => ?_
      obtain ⟨hb0, hb1, _⟩ := hin2
      replace hF2 := hF2.mono le2
      refine Dt 0 rfl Mv ?_
      refine Dt 1 rfl Mv ?_
      refine Dt 2 rfl (Ix T.sl_70) ?_
      refine Dt 3 rfl (Lf T.sc_24) ?_
      refine Dt 4 rfl Mv ?_
      refine Dt 5 rfl Mv ?_
      refine Dt 6 rfl (Ix T.sl_71) ?_
      refine Dt 7 rfl (Lf T.sc_26) ?_
      refine Dt 8 rfl Mv ?_
      refine Dt 9 rfl Mv ?_
      refine Dt 10 rfl (Ix T.sl_69) ?_
      refine Dt 11 rfl (LfN T.ag_73) ?_
      refine Dn 12 ?_
      refine Do rfl (oC T.fn_29 rfl rfl (plays_fn _ _ l1 z1 x) (.cons (.there .here) (.cons (.there (.there .here)) .nil)) (fun _ le _ => ⟨hF.1.mono (le2.trans le), ox.mono (le2.trans le)⟩) ?_)
      rintro v H' ⟨l', rfl, z', rfl⟩
      try simp only [nap, cap]
      refine gh_next ?_
      refine Dt 13 rfl Nt ?_
      refine gh_done (by kernel_rfl) back2 ?_
      refine e_then ?_
      refine g_cond_f rfl (by rfl) ?_
      refine g_skip ?_
      refine e_block ?_
      refine e_then ?_
      refine g_region ?_
      refine Li Mv ?_
      refine Li Im ?_
      refine Li As ?_
      refine g_nil ?_
      refine Ro ((i + 1, l0, l')) (⟨by omega, by assumption, by assumption⟩) (by omega)
  · intro h1
    replace h1 := nrm h1
    refine g_exit ?_
    refine e_then_exit ?_
    refine e_then_exit ?_
    refine e_block_hit ?_
    refine e_then ?_
    refine g_seq ?_
    refine g_sr ?_
    refine Li As ?_
    refine g_ne ?_
    refine g_block ?_
    refine Lo (ι := Nat) [57, 58, 61, 62, 63, 64, 65, 66, 67, 68, 69, 70, 71, 72, 2, 8, 73, 74, 77, 78, 79, 80, 81, 82, 83, 84, 85, 86, 87, 88, 89, 75, 76, 59, 60, 7] (fun k => k ≤ 2) (fun k => [(7, .int .i64 (k : Int))]) (fun k => [pts b1 24 [.pointer (some ⟨ba, 0, none⟩), .pointer (some ⟨bb, 0, none⟩)], pts b2 26 [.pointer (some ⟨ra, 0, none⟩), .pointer (some ⟨rb, 0, none⟩)], pts ba 89 (bdC 0 l0), pts bb 89 (bdC 0 l1), pts ra 91 (rbC l0), pts rb 91 (rbC l1)]) (fun k => 2 - k) (0) (Nat.zero_le _) ?_
    rintro k hk
    refine g_seq ?_
    refine g_sr ?_
    refine Li Mv ?_
    refine Li Cm ?_
    refine g_ne ?_
    refine g_cond rfl ?_ ?_
    · intro h2
      replace h2 := nrm h2
      have d0 := z0.1
      have d1 := z1.1
      rcases (by omega : k = 0 ∨ k = 1) with rfl | rfl
      · have hs31 := statsM_len l0 31
        refine g_skip ?_
        refine e_then ?_
        refine g_seq ?_
        refine g_block ?_
        refine g_seq ?_
        refine g_seq ?_
        refine g_drw T.mix (.cons .here (.cons .here .nil)) fun F3 le3 hin3 back3 => ?_
        obtain ⟨hb0, hb1, _⟩ := hin3
        refine Dt 0 rfl Mv ?_
        refine Dt 1 rfl Mv ?_
        refine Dt 2 rfl (Ix T.sl_70) ?_
        refine Dt 3 rfl (Lf T.sc_24) ?_
        refine Dt 5 rfl Mv ?_
        refine Dt 6 rfl Mv ?_
        refine Dt 7 rfl (Ix T.sl_71) ?_
        refine Dt 8 rfl (Lf T.sc_26) ?_
        refine Dn 4 ?_
        refine Do rfl (oC T.fn_17 rfl rfl (Stats_fn ba 89 l0 d0) (.cons .here .nil) (fun _ le _ => hF.1.mono (le3.trans le)) ?_)
        rintro v H' ⟨s1, c1, rfl, _, _, rfl⟩
        try simp only [nap, cap]
        refine gh_next ?_
        refine Dn 9 ?_
        refine Do rfl (oC T.fn_18 rfl rfl (rStats_fn ra 91 l0 d0) (.cons (.there (.there (.there .here))) .nil) (fun _ _ _ => trivial) ?_)
        rintro v H' ⟨s2, c2, rfl, rfl⟩
        try simp only [nap, cap]
        refine gh_next ?_
        refine Dn 10 ?_
        refine Do rfl (oC T.fn_16 rfl rfl (lines_fn (statsM l0 31) (statsM l0 31) s1 s2 31 31 c1 c2 hs31.symm hs31.symm (by omega) (by omega)) .nil (fun _ _ hin => ⟨own_in (hin.nth 2 rfl), own_in (hin.nth 0 rfl)⟩) ?_)
        rintro v H' ⟨rfl, rfl⟩
        try simp only [nap, cap]
        refine gh_next ?_
        refine Dt 11 rfl Nt ?_
        refine gh_done (by kernel_rfl) back3 ?_
        refine e_then ?_
        refine g_cond_f rfl (by simp) ?_
        refine g_skip ?_
        refine e_then ?_
        refine g_sr ?_
        refine Li As ?_
        refine g_ne ?_
        refine g_block ?_
        refine Lo (ι := Nat) [73, 74, 77, 78, 79, 80, 81, 82, 83, 84, 85, 86, 87, 88, 89, 2, 75, 76, 8] (fun q => q ≤ 35) (fun q => [(8, .int .i64 ((q : Int) - 1))]) (fun q => [pts b1 24 [.pointer (some ⟨ba, 0, none⟩), .pointer (some ⟨bb, 0, none⟩)], pts b2 26 [.pointer (some ⟨ra, 0, none⟩), .pointer (some ⟨rb, 0, none⟩)], pts ba 89 (bdC 0 l0), pts bb 89 (bdC 0 l1), pts ra 91 (rbC l0), pts rb 91 (rbC l1)]) (fun q => 35 - q) (0) (Nat.zero_le _) ?_
        rintro q hq
        refine g_seq ?_
        refine g_sr ?_
        refine Li Mv ?_
        refine Li Cm ?_
        refine g_ne ?_
        refine g_cond rfl ?_ ?_
        · intro h3
          replace h3 := nrm h3
          refine g_skip ?_
          refine e_then ?_
          refine g_seq ?_
          refine g_block ?_
          refine g_seq ?_
          refine g_drw T.mix (.cons .here (.cons .here .nil)) fun F4 le4 hin4 back4 => ?_
          obtain ⟨hb0, hb1, _⟩ := hin4
          refine Dt 0 rfl Mv ?_
          refine Dt 1 rfl Mv ?_
          refine Dt 2 rfl (Ix T.sl_70) ?_
          refine Dt 3 rfl (Lf T.sc_24) ?_
          refine Dt 4 rfl Mv ?_
          refine Dt 6 rfl Mv ?_
          refine Dt 7 rfl Mv ?_
          refine Dt 8 rfl (Ix T.sl_71) ?_
          refine Dt 9 rfl (Lf T.sc_26) ?_
          refine Dt 10 rfl Mv ?_
          refine Dn 5 ?_
          refine Do rfl (oC T.fn_20 rfl rfl (Read_fn ba 89 l0 d0 ((q : Int) - 1)) (.cons .here .nil) (fun _ _ _ => trivial) ?_)
          rintro v H' ⟨rfl, rfl⟩
          try simp only [nap, cap]
          refine gh_next ?_
          refine Dn 11 ?_
          refine Do rfl (oC T.fn_30 rfl rfl (rRead_fn ra 91 l0 d0 ((q : Int) - 1)) (.cons (.there (.there .here)) .nil) (fun _ _ _ => trivial) ?_)
          rintro v H' ⟨rfl, rfl⟩
          try simp only [nap, cap]
          refine gh_next ?_
          refine Dt 12 rfl Cm ?_
          refine gh_done (by kernel_rfl) back4 ?_
          refine e_then ?_
          refine g_cond_f rfl (by simp) ?_
          refine g_skip ?_
          refine e_block ?_
          refine e_then ?_
          refine g_region ?_
          refine Li Mv ?_
          refine Li Im ?_
          refine Li As ?_
          refine g_nil ?_
          refine Ro (q + 1) ((by omega)) (by omega)
        · intro h3
          replace h3 := nrm h3
          refine g_exit ?_
          refine e_then_exit ?_
          refine e_then_exit ?_
          refine e_block_hit ?_
          refine e_block ?_
          refine e_then ?_
          refine g_region ?_
          refine Li Mv ?_
          refine Li Im ?_
          refine Li As ?_
          refine g_nil ?_
          refine Ro (0 + 1) ((by omega)) (by omega)
      · have hs31 := statsM_len l1 31
        refine g_skip ?_
        refine e_then ?_
        refine g_seq ?_
        refine g_block ?_
        refine g_seq ?_
        refine g_seq ?_
        refine g_drw T.mix (.cons .here (.cons .here .nil)) fun F5 le5 hin5 back5 => ?_
        obtain ⟨hb0, hb1, _⟩ := hin5
        refine Dt 0 rfl Mv ?_
        refine Dt 1 rfl Mv ?_
        refine Dt 2 rfl (Ix T.sl_70) ?_
        refine Dt 3 rfl (Lf T.sc_24) ?_
        refine Dt 5 rfl Mv ?_
        refine Dt 6 rfl Mv ?_
        refine Dt 7 rfl (Ix T.sl_71) ?_
        refine Dt 8 rfl (Lf T.sc_26) ?_
        refine Dn 4 ?_
        refine Do rfl (oC T.fn_17 rfl rfl (Stats_fn bb 89 l1 d1) (.cons (.there .here) .nil) (fun _ le _ => hF.1.mono (le5.trans le)) ?_)
        rintro v H' ⟨s1, c1, rfl, _, _, rfl⟩
        try simp only [nap, cap]
        refine gh_next ?_
        refine Dn 9 ?_
        refine Do rfl (oC T.fn_18 rfl rfl (rStats_fn rb 91 l1 d1) (.cons (.there (.there (.there (.there .here)))) .nil) (fun _ _ _ => trivial) ?_)
        rintro v H' ⟨s2, c2, rfl, rfl⟩
        try simp only [nap, cap]
        refine gh_next ?_
        refine Dn 10 ?_
        refine Do rfl (oC T.fn_16 rfl rfl (lines_fn (statsM l1 31) (statsM l1 31) s1 s2 31 31 c1 c2 hs31.symm hs31.symm (by omega) (by omega)) .nil (fun _ _ hin => ⟨own_in (hin.nth 2 rfl), own_in (hin.nth 0 rfl)⟩) ?_)
        rintro v H' ⟨rfl, rfl⟩
        try simp only [nap, cap]
        refine gh_next ?_
        refine Dt 11 rfl Nt ?_
        refine gh_done (by kernel_rfl) back5 ?_
        refine e_then ?_
        refine g_cond_f rfl (by simp) ?_
        refine g_skip ?_
        refine e_then ?_
        refine g_sr ?_
        refine Li As ?_
        refine g_ne ?_
        refine g_block ?_
        refine Lo (ι := Nat) [73, 74, 77, 78, 79, 80, 81, 82, 83, 84, 85, 86, 87, 88, 89, 2, 75, 76, 8] (fun q => q ≤ 35) (fun q => [(8, .int .i64 ((q : Int) - 1))]) (fun q => [pts b1 24 [.pointer (some ⟨ba, 0, none⟩), .pointer (some ⟨bb, 0, none⟩)], pts b2 26 [.pointer (some ⟨ra, 0, none⟩), .pointer (some ⟨rb, 0, none⟩)], pts ba 89 (bdC 0 l0), pts bb 89 (bdC 0 l1), pts ra 91 (rbC l0), pts rb 91 (rbC l1)]) (fun q => 35 - q) (0) (Nat.zero_le _) ?_
        rintro q hq
        refine g_seq ?_
        refine g_sr ?_
        refine Li Mv ?_
        refine Li Cm ?_
        refine g_ne ?_
        refine g_cond rfl ?_ ?_
        · intro h3
          replace h3 := nrm h3
          refine g_skip ?_
          refine e_then ?_
          refine g_seq ?_
          refine g_block ?_
          refine g_seq ?_
          refine g_drw T.mix (.cons .here (.cons .here .nil)) fun F6 le6 hin6 back6 => ?_
          obtain ⟨hb0, hb1, _⟩ := hin6
          refine Dt 0 rfl Mv ?_
          refine Dt 1 rfl Mv ?_
          refine Dt 2 rfl (Ix T.sl_70) ?_
          refine Dt 3 rfl (Lf T.sc_24) ?_
          refine Dt 4 rfl Mv ?_
          refine Dt 6 rfl Mv ?_
          refine Dt 7 rfl Mv ?_
          refine Dt 8 rfl (Ix T.sl_71) ?_
          refine Dt 9 rfl (Lf T.sc_26) ?_
          refine Dt 10 rfl Mv ?_
          refine Dn 5 ?_
          refine Do rfl (oC T.fn_20 rfl rfl (Read_fn bb 89 l1 d1 ((q : Int) - 1)) (.cons (.there .here) .nil) (fun _ _ _ => trivial) ?_)
          rintro v H' ⟨rfl, rfl⟩
          try simp only [nap, cap]
          refine gh_next ?_
          refine Dn 11 ?_
          refine Do rfl (oC T.fn_30 rfl rfl (rRead_fn rb 91 l1 d1 ((q : Int) - 1)) (.cons (.there (.there (.there .here))) .nil) (fun _ _ _ => trivial) ?_)
          rintro v H' ⟨rfl, rfl⟩
          try simp only [nap, cap]
          refine gh_next ?_
          refine Dt 12 rfl Cm ?_
          refine gh_done (by kernel_rfl) back6 ?_
          refine e_then ?_
          refine g_cond_f rfl (by simp) ?_
          refine g_skip ?_
          refine e_block ?_
          refine e_then ?_
          refine g_region ?_
          refine Li Mv ?_
          refine Li Im ?_
          refine Li As ?_
          refine g_nil ?_
          refine Ro (q + 1) ((by omega)) (by omega)
        · intro h3
          replace h3 := nrm h3
          refine g_exit ?_
          refine e_then_exit ?_
          refine e_then_exit ?_
          refine e_block_hit ?_
          refine e_block ?_
          refine e_then ?_
          refine g_region ?_
          refine Li Mv ?_
          refine Li Im ?_
          refine Li As ?_
          refine g_nil ?_
          refine Ro (1 + 1) ((by omega)) (by omega)
    · intro h2
      replace h2 := nrm h2
      refine g_exit ?_
      refine e_then_exit ?_
      refine e_then_exit ?_
      refine e_block_hit ?_
      refine e_then ?_
      refine g_sr ?_
      refine Li As ?_
      refine g_ne ?_
      refine g_ret ?_
      refine Rt [] Tryd.results8 ?_
      exact ⟨rfl, rfl⟩
end Go.Proofs.YtdmepoiijgejhaaDoor

