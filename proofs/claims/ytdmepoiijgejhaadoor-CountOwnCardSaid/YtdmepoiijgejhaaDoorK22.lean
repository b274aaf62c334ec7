/- Counts, the reference: Command, Stats; the law of the table. -/
import Derived.Test.YtdmepoiijgejhaaDoorK21
import Derived.Test.YtdmepoiijgejhaaDoorOpnL
set_option maxRecDepth 100000
namespace Go.Proofs.YtdmepoiijgejhaaDoor
open Go Go.Eng

theorem addM_zero {l : List Nat} (bd : Brd l) (z : Int) : addM l z 0 = l := by
  unfold addM
  split
  · rw [Nat.add_zero, Nat.min_eq_left (bd.top _)]
    apply List.ext_getElem
    · simp
    · intro i h1 h2
      rw [List.getElem_set]
      split
      · rename_i he; subst he; simp [List.getD_eq_getElem?_getD, h2]
      · rfl
  · rfl
def wsL (m : Mtr) : List Int := [m.d, m.r, m.cr, m.mv]
def wnL : List Int := [21, 22, 29, 31]
def wE (m : Mtr) : List (Int × Nat) := [(21, m.d.toNat), (22, m.r.toNat), (29, m.cr.toNat), (31, m.mv.toNat)]
theorem wE_at (m : Mtr) (i : Nat) (h : i < 4) : ∃ z nm, (wsL m)[i]? = some z ∧ wnL[i]? = some nm ∧ (wE m)[i]? = some (nm, z.toNat) := by
  have : i = 0 ∨ i = 1 ∨ i = 2 ∨ i = 3 := by omega
  rcases this with rfl | rfl | rfl | rfl <;> exact ⟨_, _, rfl, rfl, rfl⟩
theorem wsL_ok (m : Mtr) (hm : m.ok) (z : Int) (h : z ∈ wsL m) : i64 z := by
  simp only [wsL, List.mem_cons, List.not_mem_nil, or_false] at h
  rcases h with rfl | rfl | rfl | rfl
  · exact hm.d
  · exact hm.r
  · exact hm.cr
  · exact hm.mv
theorem foldM_snoc (l : List Nat) (E : List (Int × Nat)) (z : Int) (n : Nat) : foldM l (E ++ [(z, n)]) = addM (foldM l E) z n := by rw [foldM_append]; rfl
theorem commL_text (verb kind : Int) (text : List UInt8) (fl : List Flg) (why : List Int) (h : ¬ (20 ≤ verb ∧ verb ≤ 24)) : textG verb kind why = commL verb kind text fl why := by
  unfold textG commL
  by_cases h1 : 1 ≤ verb ∧ verb ≤ 4
  · rw [if_pos h1, if_pos h1]
  · rw [if_neg h1, if_neg h1]
    by_cases h2 : 20 ≤ verb
    · rw [if_pos h2]
      unfold metaL textL
      rw [if_pos (show verb > 24 by omega), if_neg (show ¬ (5 ≤ verb ∧ verb ≤ 10) by omega), if_neg (show ¬ verb = 11 by omega), if_neg (show ¬ verb = 12 by omega), if_neg (show ¬ verb = 13 by omega), if_neg (show ¬ verb = 14 by omega), if_neg (show ¬ verb = 15 by omega)]
    · rw [if_neg h2]
theorem commL_meta (verb kind : Int) (text : List UInt8) (fl : List Flg) (why : List Int) (h : 20 ≤ verb ∧ verb ≤ 24) : metaL verb kind text fl why = commL verb kind text fl why := by
  unfold commL
  rw [if_neg (by omega), if_pos h.1]
set_option maxHeartbeats 2000000 in
theorem rCommand_fn (b : Nat) (e : TypeId) (l : List Nat) (bd : Brd l) (c : Cmd) (a : Ans) (fl : List Flg) (hf : c.fm = fl.length) (hfb : fl.length ≤ 9223372036854775807) (why : List Int) (aw : Option Addr) (n cw : Nat) (hn : n = why.length) (hwb : why.length ≤ 10000) (ht : a.text.length ≤ 9223372036854775807) (m : Mtr) (hm : m.ok) :
    FnS Tryd.prog 15 [.pointer (some ⟨b, 0, none⟩), .agg (cmdC c).toArray, .agg (ansC a).toArray, .slice aw n cw, .agg (mtrC m).toArray] (fun h => Rdl h c.fa (flsC fl) ∧ Rdl h aw (icells why)) [pts b e (rbC l)] (fun v H => v = .tuple #[] ∧ H = [pts b e (rbC (commM l c.verb a.kind a.text fl why m))]) := by
  have hmeta := fun hv => rmeta_fn c a fl hf hfb why aw n cw hn ht hv
  have htx := rtext_fn c.verb a.kind why aw n cw hn hwb
  have hcm : commM l c.verb a.kind a.text fl why m = foldM (foldM l (wE m ++ (if a.kind = 11 then [(23, 1)] else []))) (onesE (commL c.verb a.kind a.text fl why)) := by
    rw [commM_fold, ← foldM_append]
    have : evE c.verb a.kind a.text fl why m = wE m ++ (if a.kind = 11 then [(23, 1)] else []) ++ onesE (commL c.verb a.kind a.text fl why) := by
      unfold evE wE
      rw [onesE_app]
      split <;> simp [onesE]
    rw [this]
  rw [hcm]
  have hwa := wE_at m
  have hwo := wsL_ok m hm
  have hws : wsL m = [m.d, m.r, m.cr, m.mv] := rfl
  have hwl : (wE m).length = 4 := rfl
  have hct := commL_text c.verb a.kind a.text fl why
  have hcv := commL_meta c.verb a.kind a.text fl why
  generalize commL c.verb a.kind a.text fl why = CL at *
  generalize wE m = WE at *
  obtain ⟨md, mr, mbu, mli, mlo, mcr, mmv⟩ := m
  simp only at hws
  obtain ⟨verb, ka, km, kc, flags, expt, token, delta, da, dm, dc, nr, lg, fa, fm, fc, what⟩ := c
  obtain ⟨kind, ea, em, ec, number, text, sa, sm, sc⟩ := a
  subst hn
  simp only at hf ht hmeta htx hct hcv ⊢
  subst hf
  refine fn_body Tryd.func15 rfl Tryd.ntmps15 rfl ?_
  intro F hF
  have hF1 := hF.1
  have hF2 := hF.2


  refine g_sr ?_
  refine Lp (oB fun b1 => ?_)
  refine Lp (oB fun b2 => ?_)
  refine Lp (oB fun b3 => ?_)
  refine g_ne ?_
  refine g_sr ?_
  refine Li (Fa T.fld_41_0) ?_
  refine Lp (oL T.sc_3 ?_)
  refine Li (Fa T.fld_41_1) ?_
  refine Lp (oL T.sc_3 ?_)
  refine Li (Fa T.fld_41_5) ?_
  refine Lp (oL T.sc_3 ?_)
  refine Li (Fa T.fld_41_6) ?_
  refine Lp (oL T.sc_3 ?_)
  refine Li (Bda T.zc_97 T.ar_97) ?_
  refine Lp (oA T.zc_97 fun b4 => ?_)
  refine Lp (oSW T.ag_97 ?_)
  refine g_ne ?_
  refine g_sr ?_
  refine Li (Bda T.zc_97 T.ar_97) ?_
  refine Lp (oA T.zc_97 fun b5 => ?_)
  refine Lp (oSW T.ag_97 ?_)
  refine g_ne ?_
  refine g_seq ?_

  refine Hh (H' := [pts b4 97 (icells (wsL ⟨md, mr, mbu, mli, mlo, mcr, mmv⟩)), pts b5 97 (icells wnL), pts b1 34 [.int .i64 verb, .slice ka km kc, .int .u64 flags, .int .i64 expt, .int .u64 token, .int .u64 delta, .slice da dm dc, .bool nr, .bool lg, .slice fa fl.length fc, strv what], pts b2 38 [.int .i64 kind, .slice ea em ec, .int .u64 number, strv text, .slice sa sm sc], pts b e (rbC (foldM l (WE.take 0)))]) ?_
  generalize wsL ⟨md, mr, mbu, mli, mlo, mcr, mmv⟩ = WS at *

  refine g_sr ?_
  refine Li As ?_
  refine g_ne ?_
  refine g_block ?_
  refine Lo (ι := Nat) [25, 26, 29, 30, 31, 32, 33, 34, 35, 36, 37, 38, 39, 40, 41, 27, 28, 12] (fun i => i ≤ 4) (fun i => [(12, .int .i64 (i : Int))]) (fun i => [pts b4 97 (icells WS), pts b5 97 (icells wnL), pts b1 34 [.int .i64 verb, .slice ka km kc, .int .u64 flags, .int .i64 expt, .int .u64 token, .int .u64 delta, .slice da dm dc, .bool nr, .bool lg, .slice fa fl.length fc, strv what], pts b2 38 [.int .i64 kind, .slice ea em ec, .int .u64 number, strv text, .slice sa sm sc], pts b e (rbC (foldM l (WE.take i)))]) (fun i => 4 - i) (0) (Nat.zero_le _) ?_
  rintro i hi
  refine g_seq ?_
  refine g_sr ?_
  refine Li Mv ?_
  refine Li Cm ?_
  refine g_ne ?_
  refine g_cond rfl ?_ ?_
  · intro h1
    replace h1 := nrm h1
    obtain ⟨z, nm, e1, e2, e3⟩ := hwa i (by omega)
    have k1 : (icells WS)[0 + i]? = some (.int .i64 z) := by simp [icells, e1]
    have k2 : (icells wnL)[0 + i]? = some (.int .i64 nm) := by simp [icells, e2]
    have hz := hwo z (List.mem_of_getElem? e1)
    have hwsl : (icells WS).length = 4 := by rw [hws]; rfl
    have hwnl : (icells wnL).length = 4 := rfl
    have e4 : WE.take (i + 1) = WE.take i ++ [(nm, z.toNat)] := by rw [List.take_add_one, e3]; rfl
    have bi := bd.fold (WE.take i)
    unfold i64 at hz
    refine g_skip ?_
    refine e_then ?_
    refine g_seq ?_
    refine g_block ?_
    refine g_sr ?_
    refine Li Mv ?_
    refine Li (Ia T.ar_97) ?_
    refine Lp (oL T.sc_3 ?_)
    refine Li Cm ?_
    refine g_ne ?_
    refine g_cond rfl ?_ ?_
    · intro h2
      replace h2 := nrm h2
      obtain ⟨k, rfl⟩ : ∃ k : Nat, z = (k : Int) := ⟨z.toNat, by omega⟩
      rw [Int.toNat_natCast] at e4
      refine g_drw T.mix (.cons .here (.cons .here .nil)) fun F1 le1 hin1 back1 => ?_
      obtain ⟨hb0, hb1, _⟩ := hin1
      refine Dt 0 rfl Mv ?_
      refine Dt 1 rfl Mv ?_
      refine Dt 2 rfl (Ia T.ar_97) ?_
      refine Dt 3 rfl (Lf T.sc_3) ?_
      refine Dt 4 rfl Mv ?_
      refine Dt 5 rfl (Ia T.ar_97) ?_
      refine Dt 6 rfl (Lf T.sc_3) ?_
      refine Dt 7 rfl (Cv T.u_30 T.us_3) ?_
      refine Dn 8 ?_
      refine Do rfl (oC T.fn_41 rfl rfl (rAdd_fn b e _ bi nm k (by unfold maxN; omega)) (.cons (.there (.there .here)) .nil) (fun _ _ _ => trivial) ?_)
      rintro v H' ⟨rfl, rfl⟩
      try simp only [nap, cap]
      rw [← foldM_snoc, ← e4]
      refine gh_next ?_
      refine gh_done (by kernel_rfl) back1 ?_
      refine e_block ?_
      refine e_then ?_
      refine g_region ?_
      refine Li Mv ?_
      refine Li Im ?_
      refine Li As ?_
      refine g_nil ?_
      refine Ro (i + 1) ((by omega)) (by omega)
    · intro h2
      replace h2 := nrm h2
      rw [show z.toNat = 0 from by omega] at e4
      have e5 : foldM l (WE.take (i + 1)) = foldM l (WE.take i) := by rw [e4, foldM_snoc, addM_zero bi]
      refine g_skip ?_
      refine e_block ?_
      refine e_then ?_
      refine g_region ?_
      refine Li Mv ?_
      refine Li Im ?_
      refine Li As ?_
      refine g_nil ?_
      rw [← e5]
      refine Ro (i + 1) ((by omega)) (by omega)
  · intro h1
    replace h1 := nrm h1
    rw [show WE.take i = WE from List.take_of_length_le (by omega)]
    have bi := bd.fold WE
    refine Hh (H' := [pts b1 34 [.int .i64 verb, .slice ka km kc, .int .u64 flags, .int .i64 expt, .int .u64 token, .int .u64 delta, .slice da dm dc, .bool nr, .bool lg, .slice fa fl.length fc, strv what], pts b2 38 [.int .i64 kind, .slice ea em ec, .int .u64 number, strv text, .slice sa sm sc], pts b e (rbC (foldM l WE))]) ?_
    refine g_exit ?_
    refine e_then_exit ?_
    refine e_then_exit ?_
    refine e_block_hit ?_
    refine e_then ?_
    refine g_seq ?_
    refine g_mid (ι := Unit) [42, 43, 44, 45, 46] (fun u => True) (fun u => []) (fun u => [pts b1 34 [.int .i64 verb, .slice ka km kc, .int .u64 flags, .int .i64 expt, .int .u64 token, .int .u64 delta, .slice da dm dc, .bool nr, .bool lg, .slice fa fl.length fc, strv what], pts b2 38 [.int .i64 kind, .slice ea em ec, .int .u64 number, strv text, .slice sa sm sc], pts b e (rbC (foldM l (WE ++ (if kind = 11 then [(23, 1)] else []))))]) ?_ ?_
    · refine g_sr ?_
      refine Li (Fa T.fld_38_0) ?_
      refine Lp (oL T.sc_3 ?_)
      refine Li Cm ?_
      refine g_ne ?_
      refine g_cond rfl ?_ ?_
      · intro hk
        replace hk := nrm hk
        rw [if_pos hk, foldM_snoc]
        refine g_region ?_
        refine Li Mv ?_
        refine Lp (oC T.fn_41 rfl rfl (rAdd_fn b e _ bi 23 1 (by unfold maxN; omega)) (.cons (.there (.there .here)) .nil) (fun _ _ _ => trivial) ?_)
        rintro v H' ⟨rfl, rfl⟩
        try simp only [nap, cap]
        refine g_nil ?_
        refine Me (()) (trivial)
      · intro hk
        replace hk := nrm hk
        rw [if_neg hk, List.append_nil]
        refine g_skip ?_
        refine Me (()) (trivial)
    rintro u hI
    generalize (if kind = 11 then [((23 : Int), 1)] else []) = RE at *
    have bj := bd.fold (WE ++ RE)
    generalize foldM l (WE ++ RE) = B at *
    refine g_sr ?_
    refine Li As ?_
    refine g_ne ?_
    refine g_seq ?_
    refine g_mid (ι := Option Addr × Nat × List Int) [47, 48, 49, 50, 51, 52, 53, 54, 55, 56, 57, 58, 13, 59, 60, 61, 62, 63, 64] (fun (a2, c2, L) => L.length ≤ 50000 ∧ EqN L CL) (fun (a2, c2, L) => [(13, .slice a2 L.length c2)]) (fun (a2, c2, L) => [own a2 c2 3 1 (icells L), pts b e (rbC B)]) ?_ ?_
    · refine g_seq ?_
      refine g_mid (ι := Unit) [47, 48, 49, 50, 51, 52, 53, 54] (fun u => True) (fun u => [(54, .bool (decide (20 ≤ verb) && decide (verb ≤ 24)))]) (fun u => [pts b1 34 [.int .i64 verb, .slice ka km kc, .int .u64 flags, .int .i64 expt, .int .u64 token, .int .u64 delta, .slice da dm dc, .bool nr, .bool lg, .slice fa fl.length fc, strv what], pts b2 38 [.int .i64 kind, .slice ea em ec, .int .u64 number, strv text, .slice sa sm sc], pts b e (rbC B)]) ?_ ?_
      · refine g_region ?_
        refine Li (Fa T.fld_34_0) ?_
        refine Lp (oL T.sc_3 ?_)
        refine Li Cm ?_
        refine Li Mv ?_
        refine g_split (t := 50) rfl ?_ ?_
        · intro hb0
          replace hb0 := nrm hb0
          refine Li (Fa T.fld_34_0) ?_
          refine Lp (oL T.sc_3 ?_)
          refine Li Cm ?_
          refine Li Pt ?_
          refine g_nil ?_
          refine Me (()) (trivial)
        · intro hb0
          replace hb0 := nrm hb0
          refine Lx ?_
          refine Lx ?_
          refine Lx ?_
          refine Li Pf ?_
          refine g_nil ?_
          refine Me (()) (trivial)
      rintro u hI
      refine g_cond rfl ?_ ?_
      · intro hv
        replace hv := nrm hv
        rw [← hcv hv]
        refine g_region ?_
        refine Lp (oLN T.ag_34 ?_)
        refine Lp (oLN T.ag_38 ?_)
        refine Li Mv ?_
        refine Lp (oC T.fn_42 rfl rfl (hmeta hv.2) .nil (fun _ le _ => ⟨hF1.mono le, hF2.mono le⟩) ?_)
        rintro v H' ⟨a2, c2, L2, rfl, hl2, hc2, he2, rfl⟩
        try simp only [nap, cap]
        refine Li As ?_
        refine g_nil ?_
        refine Me ((a2, c2, L2)) (⟨hl2, he2⟩)
      · intro hv
        replace hv := nrm hv
        rw [← hct (by omega)]
        refine g_region ?_
        refine Li (Fa T.fld_34_0) ?_
        refine Lp (oL T.sc_3 ?_)
        refine Li (Fa T.fld_38_0) ?_
        refine Lp (oL T.sc_3 ?_)
        refine Li Mv ?_
        refine Lp (oC T.fn_43 rfl rfl (htx) .nil (fun _ le _ => hF2.mono le) ?_)
        rintro v H' ⟨a2, c2, L2, rfl, hl2, hc2, he2, rfl⟩
        try simp only [nap, cap]
        refine Li As ?_
        refine g_nil ?_
        refine Me ((a2, c2, L2)) (⟨hl2, he2⟩)
    rintro ⟨a2, c2, L⟩ ⟨hL, hq⟩
    try dsimp only at hI ⊢
    try dsimp only at hL hq ⊢
    have hfin : foldM B (onesE L) = foldM B (onesE CL) := (bj.fold _).ext (bj.fold _) fun j => by rw [foldM_get _ bj, foldM_get _ bj, hq j]
    rw [← hfin]
    refine Hh (H' := [own a2 c2 3 1 (icells L), pts b e (rbC (foldM B (onesE (L.take 0))))]) ?_
    refine g_sr ?_
    refine Li As ?_
    refine g_ne ?_
    refine g_block ?_
    refine Lo (ι := Nat) [65, 66, 67, 68, 71, 72, 73, 74, 75, 76, 69, 70, 14] (fun i => i ≤ L.length) (fun i => [(14, .int .i64 (i : Int))]) (fun i => [own a2 c2 3 1 (icells L), pts b e (rbC (foldM B (onesE (L.take i))))]) (fun i => L.length - i) (0) (Nat.zero_le _) ?_
    rintro i hi
    refine g_seq ?_
    refine g_sr ?_
    refine Li Mv ?_
    refine Li Mv ?_
    refine Li (Ln T.sl_39) ?_
    refine Li Cm ?_
    refine g_ne ?_
    refine g_cond rfl ?_ ?_
    · intro h1
      replace h1 := nrm h1
      obtain ⟨z, e1⟩ : ∃ z, L[i]? = some z := ⟨_, List.getElem?_eq_getElem (show i < L.length by omega)⟩
      have k1 : (icells L)[i]? = some (.int .i64 z) := by simp [icells, e1]
      have hll := icells_len L
      refine g_fact (sel_fact .here fun k ho => own_none ho (by rw [icells_len]; omega)) fun ha => ?_
      have e4 : onesE (L.take (i + 1)) = onesE (L.take i) ++ [(z, 1)] := by rw [List.take_add_one, e1, onesE_app]; rfl
      refine g_skip ?_
      refine e_then ?_
      refine g_seq ?_
      refine g_block ?_
      refine g_region ?_
      refine Li Mv ?_
      refine Li Mv ?_
      refine Li Mv ?_
      refine Li (Ix T.sl_39) ?_
      refine Lp (oL T.sc_3 ?_)
      refine Lp (oC T.fn_41 rfl rfl (rAdd_fn b e _ (bj.fold (onesE (L.take i))) z 1 (by unfold maxN; omega)) (.cons (.there .here) .nil) (fun _ _ _ => trivial) ?_)
      rintro v H' ⟨rfl, rfl⟩
      try simp only [nap, cap]
      rw [← foldM_snoc, ← e4]
      refine g_nil ?_
      refine e_block ?_
      refine e_then ?_
      refine g_region ?_
      refine Li Mv ?_
      refine Li Im ?_
      refine Li As ?_
      refine g_nil ?_
      refine Ro (i + 1) ((by omega)) (by omega)
    · intro h1
      replace h1 := nrm h1
      rw [show L.take i = L from List.take_of_length_le (by omega)]
      refine g_exit ?_
      refine e_then_exit ?_
      refine e_then_exit ?_
      refine e_block_hit ?_
      refine Rn0 [pts b e (rbC (foldM B (onesE L)))] Tryd.results15 ?_
      exact ⟨rfl, rfl⟩
theorem rStats_fn (b : Nat) (e : TypeId) (l : List Nat) (bd : Brd l) :
    FnS Tryd.prog 18 [.pointer (some ⟨b, 0, none⟩)] (fun _ => True) [pts b e (rbC l)] (fun v H => ∃ a c, v = .slice a 31 c ∧ H = [own a c 78 2 (linesC (statsM l 31)), pts b e (rbC l)]) := by
  have hlen := bd.len
  refine fn_body Tryd.func18 rfl Tryd.ntmps18 rfl ?_
  intro F hF
  refine g_sr ?_
  refine Li As ?_
  refine g_ne ?_
  refine g_sr ?_
  refine Li As ?_
  refine g_ne ?_
  refine g_seq ?_
  refine g_sr ?_
  refine Li As ?_
  refine g_ne ?_
  refine g_block ?_
  refine g_nilrow 78 2 ?_
  refine Lo (ι := Nat × Option Addr × Nat) [5, 6, 9, 10, 11, 12, 13, 14, 15, 16, 17, 18, 19, 20, 3, 7, 8, 4] (fun (i, a, c) => i ≤ 31 ∧ i ≤ c) (fun (i, a, c) => [(3, .slice a i c), (4, .int .i64 ((i + 1 : Nat) : Int))]) (fun (i, a, c) => [own a c 78 2 (linesC (statsM l i)), pts b e (rbC l)]) (fun (i, a, c) => 31 - i) ((0, none, 0)) ⟨Nat.zero_le _, Nat.le_refl _⟩ ?_
  rintro ⟨i, a, c⟩ ⟨hi, hc⟩
  try dsimp only at hI ⊢
  dsimp only at hi hc ⊢
  refine g_seq ?_
  refine g_sr ?_
  refine Li Mv ?_
  refine Li Cm ?_
  refine g_ne ?_
  refine g_cond rfl ?_ ?_
  · intro h1
    replace h1 := nrm h1
    have hat : (rbC l)[0 + 0 + (i + 1)]? = some (.int .u64 ((l.getD (i + 1) 0 : Nat) : Int)) := by simp only [Nat.zero_add]; exact rbC_at l (i + 1) (by omega)
    have hrl := rbC_len l
    have hsl := statsM_len l i
    have hll := linesC_len (statsM l i)
    refine g_skip ?_
    refine e_then ?_
    refine g_seq ?_
    refine g_block ?_
    refine g_drw T.mix (.cons (.there .here) .nil) fun F1 le1 hin1 back1 => ?_
    obtain ⟨hb, _⟩ := hin1
    refine Dt 0 rfl Mv ?_
    refine Dt 1 rfl Mv ?_
    refine Dt 3 rfl Mv ?_
    refine Dt 4 rfl Mv ?_
    refine Dt 5 rfl Nc ?_
    refine Dt 6 rfl (Fa T.fld_91_0) ?_
    refine Dt 7 rfl (Ia T.ar_87) ?_
    refine Dt 8 rfl (Lf T.sc_30) ?_
    refine Dn 2 ?_
    refine Do rfl (oC T.fn_22 rfl rfl (refName_fn ((i + 1 : Nat) : Int) (by omega) (by omega)) .nil (fun _ _ _ => trivial) ?_)
    rintro v H' ⟨rfl, rfl⟩
    try simp only [nap, cap]
    refine gh_next ?_
    refine Dt 9 rfl (Bd T.zc_78 T.st_78) ?_
    refine Dn 10 ?_
    refine Do rfl (oT1 T.ap_36 fun b1 => ?_)
    refine gh_next ?_
    refine Hh (H' := [pts b1 78 (lineC (nameM ((i + 1 : Nat) : Int), l.getD (i + 1) 0)), own a c 78 2 (linesC (statsM l i))]) ?_
    refine Dn 11 ?_
    refine Do rfl (op_append_lit T.ap_36 T.ni_36 rfl rfl rfl rfl .here (by omega) (rfl) (by simp [lineC, Value.oneCell', strv]) (by first | omega | (simp; omega)) (by first | omega | (simp; omega)) rfl fun a2 c2 hc2 => ?_)
    rw [← linesC_snoc, ← statsM_succ]
    refine gh_next ?_
    refine Dt 12 rfl As ?_
    refine gh_done (by kernel_rfl) back1 ?_
    refine e_block ?_
    refine e_then ?_
    refine g_region ?_
    refine Li Mv ?_
    refine Li Im ?_
    refine Li As ?_
    refine g_nil ?_
    refine Ro ((i + 1, a2, c2)) (⟨by omega, by omega⟩) (by omega)
  · intro h1
    replace h1 := nrm h1
    have : i = 31 := by omega
    subst this
    refine g_exit ?_
    refine e_then_exit ?_
    refine e_then_exit ?_
    refine e_block_hit ?_
    refine e_then ?_
    refine g_sr ?_
    refine Li Mv ?_
    refine Li As ?_
    refine g_ne ?_
    refine g_ret ?_
    refine Rt [own a c 78 2 (linesC (statsM l 31)), pts b e (rbC l)] Tryd.results18 ?_
    exact ⟨a, c, rfl, rfl⟩
theorem flat_cut {α : Type} (f : α → List Value) (n : Nat) (hn : ∀ x, (f x).length = n) (l : List α) (i : Nat) (x : α) (h : l[i]? = some x) (o k : Nat) (hk : o + k ≤ n) : ((l.flatMap f).drop (i * n + o)).take k = ((f x).drop o).take k := by
  have e := congrArg (fun q => (q.drop o).take k) (flatMap_at f n hn l i x h)
  simp only [List.drop_take, List.drop_drop, List.take_take, Nat.min_eq_left (show k ≤ n - o by omega)] at e
  exact e
set_option maxHeartbeats 2000000 in
theorem tableLaw_fn (l : List Oc) (hb : l.length ≤ 9223372036854775807) (a : Option Addr) (m c : Nat) (hm : m = l.length) :
    FnS Tryd.prog 3 [.slice a m c] (fun h => Tab h ∧ Rdl h a (ocsC l) ∧ ∀ x ∈ l, OcOk h x) [] (fun v H => v = .bool true ∧ H = []) := by
  subst hm
  refine fn_body Tryd.func3 rfl Tryd.ntmps3 rfl ?_
  intro F hF
  refine g_sr ?_
  refine Li As ?_
  refine g_ne ?_
  refine g_seq ?_
  refine g_sr ?_
  refine Lp (oC T.fn_10 rfl rfl (wakes_fn) .nil (fun _ le _ => hF.1.mono le) ?_)
  rintro v H' ⟨rfl, rfl⟩
  try simp only [nap, cap]
  refine Li Nt ?_
  refine g_ne ?_
  refine g_cond_f rfl (by rfl) ?_
  refine g_skip ?_
  refine e_then ?_
  refine g_seq ?_
  refine g_sr ?_
  refine Li As ?_
  refine g_ne ?_
  refine g_block ?_
  refine Lo (ι := Nat) [8, 9, 10, 11, 12, 13, 14, 15, 18, 4, 19, 5, 20, 21, 2, 22, 23, 24, 25, 26, 27, 28, 29, 30, 31, 32, 33, 34, 35, 36, 37, 38, 39, 40, 41, 42, 43, 44, 45, 46, 47, 48, 49, 50, 51, 52, 53, 54, 55, 56, 57, 58, 59, 60, 61, 62, 63, 64, 65, 66, 67, 68, 69, 70, 71, 72, 73, 16, 17, 3] (fun i => i ≤ l.length) (fun i => [(3, .int .i64 (i : Int))]) (fun i => []) (fun i => l.length - i) (0) (Nat.zero_le _) ?_
  rintro i hi
  refine g_seq ?_
  refine g_seq ?_
  refine g_mid (ι := Unit) [8, 9, 10, 11, 12, 13, 14, 15] (fun u => True) (fun u => [(15, .bool (decide ((i : Int) < l.length) && decide ((i : Int) < 2000)))]) (fun u => []) ?_ ?_
  · refine g_region ?_
    refine Li Mv ?_
    refine Li Mv ?_
    refine Li (Ln T.sl_22) ?_
    refine Li Cm ?_
    refine Li Mv ?_
    refine g_split (t := 12) rfl ?_ ?_
    · intro hb0
      replace hb0 := nrm hb0
      refine Li Mv ?_
      refine Li Cm ?_
      refine Li Pt ?_
      refine g_nil ?_
      refine Me (()) (trivial)
    · intro hb0
      replace hb0 := nrm hb0
      refine Lx ?_
      refine Lx ?_
      refine Li Pf ?_
      refine g_nil ?_
      refine Me (()) (trivial)
  rintro u hI
  refine g_cond rfl ?_ ?_
  · intro h1
    replace h1 := nrm h1
    obtain ⟨x, e1⟩ : ∃ x, l[i]? = some x := ⟨_, List.getElem?_eq_getElem (show i < l.length by omega)⟩
    have hll := ocsC_len l
    have hF2 := hF.2.1
    have ox := hF.2.2 x (List.mem_of_getElem? e1)
    have a0 : a.isSome = true := hF2.some (by omega)
    have hfl : (few x.why).length ≤ 10000 := by unfold few; simp; omega
    refine g_skip ?_
    refine e_then ?_
    refine g_seq ?_
    refine g_block ?_
    refine g_sr ?_
    refine Lp (oC T.fn_11 rfl rfl (new_fn) .nil (fun _ _ _ => trivial) ?_)
    rintro v H' ⟨ba, rfl, rfl⟩
    try simp only [nap, cap]
    refine Li As ?_
    refine g_ne ?_
    refine g_sr ?_
    refine Lp (oC T.fn_12 rfl rfl (rNew_fn) .nil (fun _ _ _ => trivial) ?_)
    rintro v H' ⟨br, rfl, rfl⟩
    try simp only [nap, cap]
    refine Li As ?_
    refine g_ne ?_
    refine g_seq ?_
    refine g_sr ?_
    refine Li Mv ?_
    refine Li (Pn T.u_24) ?_
    refine g_ne ?_
    refine g_cond_f rfl (by rfl) ?_
    have p0 : ((ocsC l).drop (i * 24 + 0)).take 11 = cmdC x.c := flat_cut ocC 24 ocC_len l i x e1 0 11 (by omega)
    have p1 : ((ocsC l).drop (i * 24 + 11)).take 5 = ansC x.a := flat_cut ocC 24 ocC_len l i x e1 11 5 (by omega)
    have p2 : (ocsC l)[i * 24 + 16]? = some (.slice x.wa x.why.length x.wc) := flat_at ocC 24 ocC_len l i x e1 16 (by omega)
    have p3 : ((ocsC l).drop (i * 24 + 17)).take 7 = mtrC x.m := flat_cut ocC 24 ocC_len l i x e1 17 7 (by omega)
    refine g_skip ?_
    refine e_then ?_
    refine g_seq ?_
    refine g_drw T.mix .nil fun F1 le1 hin1 back1 => ?_
    have hr1 := hF2.mono le1
    refine Dt 0 rfl Mv ?_
    refine Dt 1 rfl Mv ?_
    refine Dt 2 rfl Mv ?_
    refine Dt 3 rfl (Ix T.sl_22) ?_
    refine Dt 4 rfl (Fam T.fld_43_0) ?_
    refine Dt 5 rfl (LfN T.ag_34) ?_
    refine Dt 6 rfl Mv ?_
    refine Dt 7 rfl Mv ?_
    refine Dt 8 rfl (Ix T.sl_22) ?_
    refine Dt 9 rfl (Fam T.fld_43_1) ?_
    refine Dt 10 rfl (LfN T.ag_38) ?_
    refine Dt 11 rfl Mv ?_
    refine Dt 12 rfl Mv ?_
    refine Dt 13 rfl (Ix T.sl_22) ?_
    refine Dt 14 rfl (Fam T.fld_43_2) ?_
    refine Dt 15 rfl (Lf T.sc_39) ?_
    refine Dt 17 rfl Mv ?_
    refine Dt 18 rfl Mv ?_
    refine Dt 19 rfl (Ix T.sl_22) ?_
    refine Dt 20 rfl (Fam T.fld_43_3) ?_
    refine Dt 21 rfl (LfN T.ag_41) ?_
    refine Dn 16 ?_
    refine Do rfl (oC T.fn_14 rfl rfl (few_fn x.why x.wa x.why.length x.wc rfl ox.wcb) .nil (fun _ _ _ => trivial) ?_)
    rintro v H' ⟨aw, cw, rfl, hcw, hrw, rfl⟩
    try simp only [nap, cap]
    refine gh_next ?_
    refine Dn 22 ?_
    refine Do rfl (oC T.fn_13 rfl rfl (Command_fn ba 89 (List.replicate 32 0) bd_zero x.c x.a x.fl ox.fm ox.flb (few x.why) aw (few x.why).length cw rfl (by omega) ox.txt x.m ox.mok) (.cons (.there .here) .nil) (fun _ le _ => ⟨ox.fls.mono (le1.trans le), (hrw _ ox.whs).mono (le1.trans le)⟩) ?_)
    rintro v H' ⟨rfl, rfl⟩
    try simp only [nap, cap]
    refine gh_next ?_
    refine gh_done (by kernel_rfl) back1 ?_
    refine e_then ?_
    refine g_seq ?_
    refine g_drw T.mix .nil fun F2 le2 hin2 back2 => ?_
    have hr2 := hF2.mono le2
    refine Dt 0 rfl Mv ?_
    refine Dt 1 rfl Mv ?_
    refine Dt 2 rfl Mv ?_
    refine Dt 3 rfl (Ix T.sl_22) ?_
    refine Dt 4 rfl (Fam T.fld_43_0) ?_
    refine Dt 5 rfl (LfN T.ag_34) ?_
    refine Dt 6 rfl Mv ?_
    refine Dt 7 rfl Mv ?_
    refine Dt 8 rfl (Ix T.sl_22) ?_
    refine Dt 9 rfl (Fam T.fld_43_1) ?_
    refine Dt 10 rfl (LfN T.ag_38) ?_
    refine Dt 11 rfl Mv ?_
    refine Dt 12 rfl Mv ?_
    refine Dt 13 rfl (Ix T.sl_22) ?_
    refine Dt 14 rfl (Fam T.fld_43_2) ?_
    refine Dt 15 rfl (Lf T.sc_39) ?_
    refine Dt 17 rfl Mv ?_
    refine Dt 18 rfl Mv ?_
    refine Dt 19 rfl (Ix T.sl_22) ?_
    refine Dt 20 rfl (Fam T.fld_43_3) ?_
    refine Dt 21 rfl (LfN T.ag_41) ?_
    refine Dn 16 ?_
    refine Do rfl (oC T.fn_14 rfl rfl (few_fn x.why x.wa x.why.length x.wc rfl ox.wcb) .nil (fun _ _ _ => trivial) ?_)
    rintro v H' ⟨aw2, cw2, rfl, hcw2, hrw2, rfl⟩
    try simp only [nap, cap]
    refine gh_next ?_
    refine Dn 22 ?_
    refine Do rfl (oC T.fn_15 rfl rfl (rCommand_fn br 91 (List.replicate 32 0) bd_zero x.c x.a x.fl ox.fm ox.flb (few x.why) aw2 (few x.why).length cw2 rfl hfl ox.txt x.m ox.mok) (.cons (.there .here) .nil) (fun _ le _ => ⟨ox.fls.mono (le2.trans le), (hrw2 _ ox.whs).mono (le2.trans le)⟩) ?_)
    rintro v H' ⟨rfl, rfl⟩
    try simp only [nap, cap]
    have bdm : Brd (commM (List.replicate 32 0) x.c.verb x.a.kind x.a.text x.fl (few x.why) x.m) := by rw [commM_fold]; exact bd_zero.fold _
    generalize commM (List.replicate 32 0) x.c.verb x.a.kind x.a.text x.fl (few x.why) x.m = B at *
    have hs31 := statsM_len B 31
    refine Hh (H' := [pts ba 89 (bdC 0 B), pts br 91 (rbC B)]) ?_
    refine gh_next ?_
    refine gh_done (by kernel_rfl) back2 ?_
    refine e_then ?_
    refine g_sr ?_
    refine Li Mv ?_
    refine Lp (oC T.fn_17 rfl rfl (Stats_fn ba 89 B bdm) (.cons .here .nil) (fun _ le _ => hF.1.mono le) ?_)
    rintro v H' ⟨s1, c1, rfl, _, _, rfl⟩
    try simp only [nap, cap]
    refine Li Mv ?_
    refine Lp (oC T.fn_18 rfl rfl (rStats_fn br 91 B bdm) (.cons (.there (.there .here)) .nil) (fun _ _ _ => trivial) ?_)
    rintro v H' ⟨s2, c2, rfl, rfl⟩
    try simp only [nap, cap]
    refine Lp (oC T.fn_16 rfl rfl (lines_fn (statsM B 31) (statsM B 31) s1 s2 31 31 c1 c2 hs31.symm hs31.symm (by omega) (by omega)) .nil (fun _ _ hin => ⟨own_in (hin.nth 2 rfl), own_in (hin.nth 0 rfl)⟩) ?_)
    rintro v H' ⟨rfl, rfl⟩
    try simp only [nap, cap]
    refine Li Nt ?_
    refine g_ne ?_
    refine g_cond_f rfl (by simp) ?_
    refine g_skip ?_
    refine e_block ?_
    refine e_then ?_
    refine g_region ?_
    refine Li Mv ?_
    refine Li Im ?_
    refine Li As ?_
    refine g_nil ?_
    refine Ro (i + 1) ((by omega)) (by omega)
  · intro h1
    replace h1 := nrm h1
    refine g_exit ?_
    refine e_then_exit ?_
    refine e_then_exit ?_
    refine e_block_hit ?_
    refine e_then ?_
    refine g_sr ?_
    refine Li As ?_
    refine g_ne ?_
    refine g_ret ?_
    refine Rt [] Tryd.results3 ?_
    exact ⟨rfl, rfl⟩
end Go.Proofs.YtdmepoiijgejhaaDoor

