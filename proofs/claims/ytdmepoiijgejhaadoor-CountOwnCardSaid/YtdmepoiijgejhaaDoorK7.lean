/- Counts: Reset; Command. -/
import Derived.Test.YtdmepoiijgejhaaDoorK6
set_option maxRecDepth 100000
namespace Go.Proofs.YtdmepoiijgejhaaDoor
open Go Go.Eng

def rs (l : List Nat) (i : Nat) : List Nat := l.mapIdx fun j n => if j < i ∧ j ≠ 25 ∧ j ≠ 26 ∧ j ≠ 28 then 0 else n
theorem rs_zero (l : List Nat) : rs l 0 = l := by
  apply List.ext_getElem
  · simp [rs]
  · intro j h1 h2; simp [rs]
theorem rs_keep (l : List Nat) (i : Nat) (h : i = 25 ∨ i = 26 ∨ i = 28) : rs l (i + 1) = rs l i := by
  apply List.ext_getElem
  · simp [rs]
  · intro j h1 h2
    simp only [rs, List.getElem_mapIdx]
    by_cases hj : j = i
    · subst hj; rw [if_neg (by omega), if_neg (by omega)]
    · have : (j < i + 1 ∧ j ≠ 25 ∧ j ≠ 26 ∧ j ≠ 28) ↔ (j < i ∧ j ≠ 25 ∧ j ≠ 26 ∧ j ≠ 28) := by omega
      simp only [this]
theorem rs_set (l : List Nat) (i : Nat) (h : ¬ (i = 25 ∨ i = 26 ∨ i = 28)) : rs l (i + 1) = (rs l i).set i 0 := by
  apply List.ext_getElem
  · simp [rs]
  · intro j h1 h2
    rw [List.getElem_set]
    simp only [rs, List.getElem_mapIdx]
    by_cases hj : i = j
    · subst hj; rw [if_pos (by omega), if_pos rfl]
    · rw [if_neg hj]
      have : (j < i + 1 ∧ j ≠ 25 ∧ j ≠ 26 ∧ j ≠ 28) ↔ (j < i ∧ j ≠ 25 ∧ j ≠ 26 ∧ j ≠ 28) := by omega
      simp only [this]
theorem rs_len (l : List Nat) (i : Nat) : (rs l i).length = l.length := by simp [rs]
theorem Reset_fn (b : Nat) (e : TypeId) (l : List Nat) (bd : Brd l) :
    FnS Tryd.prog 32 [.pointer (some ⟨b, 0, none⟩)] (fun _ => True) [pts b e (bdC 0 l)] (fun v H => v = .tuple #[] ∧ H = [pts b e (bdC 0 (rs l 32))]) := by
  have hlen := bd.len
  refine fn_bodyD Tryd.func32 rfl Tryd.ntmps32 rfl ?_
  intro F hF
  refine g_sr ?_
  refine Li Mv ?_
  refine Li Nc ?_
  refine Li (Fa T.fld_89_0) ?_
  refine Lp (oC T.fn_33 rfl rfl (lockB b e l) (.cons .here .nil) (fun _ _ _ => trivial) ?_)
  rintro v H' ⟨rfl, rfl⟩
  try simp only [nap, cap]
  refine g_heap (H' := [pts b e (bdC 1 (rs l 0))]) (by rw [rs_zero]; exact fun _ x => x) ?_
  refine g_ne ?_
  refine g_sr ?_
  refine Li Mv ?_
  refine Li Nc ?_
  refine Li (Fa T.fld_89_0) ?_
  refine Lp (oD ?_)
  refine g_ne ?_
  refine g_sr ?_
  refine Li Mv ?_
  refine g_ne ?_
  refine g_block ?_
  refine Lo (ι := Nat) [11, 12, 2, 13, 14, 15, 16, 17, 18, 19, 20, 21, 22, 23, 24, 25, 26, 27, 28, 10] (fun i => i ≤ 32) (fun i => [(10, .int .i64 (i : Int))]) (fun i => [pts b e (bdC 1 (rs l i))]) (fun i => 32 - i) (0) (Nat.zero_le _) ?_
  rintro i hi
  refine g_sr ?_
  refine Li Cm ?_
  refine g_ne ?_
  refine g_seq ?_
  refine g_cond rfl ?_ ?_
  · intro h1
    replace h1 := nrm h1
    refine g_skip ?_
    refine e_then ?_
    refine g_seq ?_
    refine g_block ?_
    refine g_sr ?_
    refine Li Mv ?_
    refine Li As ?_
    refine g_ne ?_
    refine g_seq ?_
    refine g_mid (ι := Unit) [13, 14, 15, 16, 17, 18, 19, 20, 21, 22] (fun u => True) (fun u => [(22, .bool (!(decide (i = 25) || decide (i = 26) || decide (i = 28))))]) (fun u => [pts b e (bdC 1 (rs l i))]) ?_ ?_
    · refine g_region ?_
      refine Li Mv ?_
      refine Li Cm ?_
      refine Li Mv ?_
      refine g_split (t := 15) rfl ?_ ?_
      · intro hb0
        replace hb0 := nrm hb0
        refine Li Mv ?_
        refine Li Cm ?_
        refine Li Pt ?_
        refine Li Mv ?_
        refine g_split (t := 19) rfl ?_ ?_
        · intro hb1
          replace hb1 := nrm hb1
          refine Li Mv ?_
          refine Li Cm ?_
          refine Li Pt ?_
          refine g_nil ?_
          refine Me (()) (trivial)
        · intro hb1
          replace hb1 := nrm hb1
          refine Lx ?_
          refine Lx ?_
          refine Li Pf ?_
          refine g_nil ?_
          refine Me (()) (trivial)
      · intro hb0
        replace hb0 := nrm hb0
        refine Lx ?_
        refine Lx ?_
        refine Li Pf ?_
        refine Li Mv ?_
        refine Lx ?_
        refine Lx ?_
        refine Li Pf ?_
        refine g_nil ?_
        refine Me (()) (trivial)
    rintro u hI
    refine g_cond rfl ?_ ?_
    · intro h2
      replace h2 := nrm h2
      have h3 : ¬ (i = 25 ∨ i = 26 ∨ i = 28) := by omega
      have hcl := bdC_len 1 (rs l i)
      have hrl := rs_len l i
      refine g_region ?_
      refine Li Mv ?_
      refine Li Mv ?_
      refine Li Nc ?_
      refine Li (Fa T.fld_89_1) ?_
      refine Li (Ia T.ar_87) ?_
      refine Lp (oS T.sc_30 ?_)
      refine g_nil ?_
      refine e_block ?_
      refine e_then ?_
      refine g_region ?_
      refine Li Im ?_
      refine Li Mv ?_
      refine g_nil ?_
      have e1 : (bdC 1 (rs l i)).set (0 + 2 + i) (.int .u64 0) = bdC 1 (rs l (i + 1)) := by rw [show 0 + 2 + i = 2 + i from by omega, rs_set l i h3, ← bdC_set]; rfl
      rw [e1]
      refine Ro (i + 1) ((by omega)) (by omega)
    · intro h2
      replace h2 := nrm h2
      have h3 : i = 25 ∨ i = 26 ∨ i = 28 := by omega
      rw [← rs_keep l i h3]
      refine g_skip ?_
      refine e_block ?_
      refine e_then ?_
      refine g_region ?_
      refine Li Im ?_
      refine Li Mv ?_
      refine g_nil ?_
      refine Ro (i + 1) ((by omega)) (by omega)
  · intro h1
    replace h1 := nrm h1
    have : i = 32 := by omega
    subst this
    refine g_exit ?_
    refine e_then_exit ?_
    refine e_then_exit ?_
    refine e_block_hit ?_
    refine RdDn [pts b e (bdC 0 (rs l 32))] Tryd.results32 (unlockB b e (rs l 32)) (.cons .here .nil) (fun _ _ _ => trivial) ?_
    rintro v H' ⟨rfl, rfl⟩
    refine ⟨?_, Eh⟩
    exact ⟨rfl, rfl⟩

/-- what the store says of its work -/
structure Mtr where
  d : Int
  r : Int
  bu : Int
  li : Int
  lo : Int
  cr : Int
  mv : Int
def mtrC (m : Mtr) : List Value := [.int .i64 m.d, .int .i64 m.r, .int .i64 m.bu, .int .i64 m.li, .int .i64 m.lo, .int .i64 m.cr, .int .i64 m.mv]
def i64 (z : Int) : Prop := -9223372036854775808 ≤ z ∧ z ≤ 9223372036854775807
structure Mtr.ok (m : Mtr) : Prop where
  d : i64 m.d
  r : i64 m.r
  cr : i64 m.cr
  mv : i64 m.mv
def workM (l : List Nat) (m : Mtr) : List Nat := addM (addM (addM (addM l 21 m.d.toNat) 22 m.r.toNat) 29 m.cr.toNat) 31 m.mv.toNat
def getL (verb : Int) (why : List Int) : List Int := why.flatMap fun w => keyL w ++ if 3 ≤ verb then toldL w 3 19 20 else []
theorem getL_snoc (verb : Int) (r : List Int) (w : Int) : getL verb (r ++ [w]) = getL verb r ++ (keyL w ++ if 3 ≤ verb then toldL w 3 19 20 else []) := by simp [getL]
def commL (verb kind : Int) (text : List UInt8) (fl : List Flg) (why : List Int) : List Int :=
  if 1 ≤ verb ∧ verb ≤ 4 then getL verb why else if 20 ≤ verb then metaL verb kind text fl why else textL verb kind
def commM (l : List Nat) (verb kind : Int) (text : List UInt8) (fl : List Flg) (why : List Int) (m : Mtr) : List Nat :=
  onesM (onesM (workM l m) (if kind = 11 then [23] else [])) (commL verb kind text fl why)
theorem Command_fn (b : Nat) (e : TypeId) (l : List Nat) (bd : Brd l) (c : Cmd) (a : Ans) (fl : List Flg) (hf : c.fm = fl.length) (hfb : fl.length ≤ 9223372036854775807) (why : List Int) (aw : Option Addr) (n cw : Nat) (hn : n = why.length) (hwb : why.length ≤ 1000000) (ht : a.text.length ≤ 9223372036854775807) (m : Mtr) (hm : m.ok) :
    FnS Tryd.prog 13 [.pointer (some ⟨b, 0, none⟩), .agg (cmdC c).toArray, .agg (ansC a).toArray, .slice aw n cw, .agg (mtrC m).toArray] (fun h => Rdl h c.fa (flsC fl) ∧ Rdl h aw (icells why)) [pts b e (bdC 0 l)] (fun v H => v = .tuple #[] ∧ H = [pts b e (bdC 0 (commM l c.verb a.kind a.text fl why m))]) := by
  obtain ⟨md, mr, mbu, mli, mlo, mcr, mmv⟩ := m
  obtain ⟨⟨d1, d2⟩, ⟨r1, r2⟩, ⟨c1, c2⟩, ⟨v1, v2⟩⟩ := hm
  have hmeta := fun (b : Nat) (e : TypeId) (l : List Nat) (bd : Brd l) => meta_fn b e 1 l bd c a fl hf hfb why aw n cw hn ht
  have hcc : cmdC c = cmdC c := rfl
  subst hn
  unfold commM workM commL
  simp only at d1 d2 r1 r2 c1 c2 v1 v2 ⊢
  obtain ⟨verb, ka, km, kc, flags, expt, token, delta, da, dm, dc, nr, lg, fa, fm, fc, what⟩ := c
  obtain ⟨kind, ea, em, ec, number, text, sa, sm, sc⟩ := a
  simp only at hf ht hmeta ⊢
  refine fn_bodyD Tryd.func13 rfl Tryd.ntmps13 rfl ?_
  intro F hF
  refine g_sr ?_
  refine Lp (oB fun b1 => ?_)
  refine Lp (oB fun b2 => ?_)
  refine Lp (oB fun b3 => ?_)
  refine g_ne ?_
  refine g_sr ?_
  refine Li Mv ?_
  refine Li Nc ?_
  refine Li (Fa T.fld_89_0) ?_
  refine Lp (oC T.fn_33 rfl rfl (lockB b e l) (.cons (.there (.there (.there .here))) .nil) (fun _ _ _ => trivial) ?_)
  rintro v H' ⟨rfl, rfl⟩
  try simp only [nap, cap]
  refine g_ne ?_
  refine g_sr ?_
  refine Li Mv ?_
  refine Li Nc ?_
  refine Li (Fa T.fld_89_0) ?_
  refine Lp (oD ?_)
  refine g_ne ?_
  refine g_sr ?_
  refine Li Mv ?_
  refine Li (Fa T.fld_41_0) ?_
  refine Lp (oL T.sc_3 ?_)
  refine Lp (oC T.fn_35 rfl rfl (work_fn b e 1 l bd 21 md d1 d2) (.cons .here .nil) (fun _ _ _ => trivial) ?_)
  rintro v H' ⟨rfl, rfl⟩
  try simp only [nap, cap]
  have bd := bd.add 21 md.toNat
  generalize addM l 21 md.toNat = l at *
  refine g_ne ?_
  refine g_sr ?_
  refine Li Mv ?_
  refine Li (Fa T.fld_41_1) ?_
  refine Lp (oL T.sc_3 ?_)
  refine Lp (oC T.fn_35 rfl rfl (work_fn b e 1 l bd 22 mr r1 r2) (.cons .here .nil) (fun _ _ _ => trivial) ?_)
  rintro v H' ⟨rfl, rfl⟩
  try simp only [nap, cap]
  have bd := bd.add 22 mr.toNat
  generalize addM l 22 mr.toNat = l at *
  refine g_ne ?_
  refine g_sr ?_
  refine Li Mv ?_
  refine Li (Fa T.fld_41_5) ?_
  refine Lp (oL T.sc_3 ?_)
  refine Lp (oC T.fn_35 rfl rfl (work_fn b e 1 l bd 29 mcr c1 c2) (.cons .here .nil) (fun _ _ _ => trivial) ?_)
  rintro v H' ⟨rfl, rfl⟩
  try simp only [nap, cap]
  have bd := bd.add 29 mcr.toNat
  generalize addM l 29 mcr.toNat = l at *
  refine g_ne ?_
  refine g_sr ?_
  refine Li Mv ?_
  refine Li (Fa T.fld_41_6) ?_
  refine Lp (oL T.sc_3 ?_)
  refine Lp (oC T.fn_35 rfl rfl (work_fn b e 1 l bd 31 mmv v1 v2) (.cons .here .nil) (fun _ _ _ => trivial) ?_)
  rintro v H' ⟨rfl, rfl⟩
  try simp only [nap, cap]
  have bd := bd.add 31 mmv.toNat
  generalize addM l 31 mmv.toNat = l at *


  refine Hh (H' := [pts b1 34 [.int .i64 verb, .slice ka km kc, .int .u64 flags, .int .i64 expt, .int .u64 token, .int .u64 delta, .slice da dm dc, .bool nr, .bool lg, .slice fa fm fc, strv what], pts b2 38 [.int .i64 kind, .slice ea em ec, .int .u64 number, strv text, .slice sa sm sc], pts b e (bdC 1 l)]) ?_
  refine g_ne ?_
  refine g_seq ?_
  refine g_mid (ι := Unit) [35, 36, 37, 38, 39, 40] (fun u => True) (fun u => []) (fun u => [pts b1 34 [.int .i64 verb, .slice ka km kc, .int .u64 flags, .int .i64 expt, .int .u64 token, .int .u64 delta, .slice da dm dc, .bool nr, .bool lg, .slice fa fm fc, strv what], pts b2 38 [.int .i64 kind, .slice ea em ec, .int .u64 number, strv text, .slice sa sm sc], pts b e (bdC 1 (onesM l (if kind = 11 then [23] else [])))]) ?_ ?_
  · refine g_sr ?_
    refine Li (Fa T.fld_38_0) ?_
    refine Lp (oL T.sc_3 ?_)
    refine Li Cm ?_
    refine g_ne ?_
    refine g_cond rfl ?_ ?_
    · intro h1
      replace h1 := nrm h1
      refine g_region ?_
      refine Li Mv ?_
      refine Lp (oT T.ap_39 fun b4 => ?_)
      refine Lp (oC T.fn_36 rfl rfl (one_fn b e 1 l bd [23] (some ⟨b4, 0, none⟩) 1 1 rfl (by simp)) (.cons (.there (.there (.there .here))) .nil) (fun _ _ hin => pts_in (hin.nth 0 rfl)) ?_)
      rintro v H' ⟨rfl, rfl⟩
      try simp only [nap, cap]
      rw [if_pos h1]
      refine g_nil ?_
      refine Me (()) (trivial)
    · intro h1
      replace h1 := nrm h1
      refine g_skip ?_
      rw [if_neg h1]
      refine Me (()) (trivial)
  rintro u hI
  have bd := bd.ones (if kind = 11 then [23] else [])
  generalize onesM l (if kind = 11 then [23] else []) = l at *
  refine g_block ?_
  refine g_seq ?_
  refine g_mid (ι := Unit) [48, 49, 50, 51, 52, 53, 54, 55, 47] (fun u => True) (fun u => [(47, .bool (decide (1 ≤ verb) && decide (verb ≤ 4)))]) (fun u => [pts b1 34 [.int .i64 verb, .slice ka km kc, .int .u64 flags, .int .i64 expt, .int .u64 token, .int .u64 delta, .slice da dm dc, .bool nr, .bool lg, .slice fa fm fc, strv what], pts b2 38 [.int .i64 kind, .slice ea em ec, .int .u64 number, strv text, .slice sa sm sc], pts b e (bdC 1 l)]) ?_ ?_
  · refine g_region ?_
    refine Li (Fa T.fld_34_0) ?_
    refine Lp (oL T.sc_3 ?_)
    refine Li Cm ?_
    refine Li Mv ?_
    refine g_split (t := 51) rfl ?_ ?_
    · intro hb0
      replace hb0 := nrm hb0
      refine Li (Fa T.fld_34_0) ?_
      refine Lp (oL T.sc_3 ?_)
      refine Li Cm ?_
      refine Li Pt ?_
      refine Li As ?_
      refine g_nil ?_
      refine Me (()) (trivial)
    · intro hb0
      replace hb0 := nrm hb0
      refine Lx ?_
      refine Lx ?_
      refine Lx ?_
      refine Li Pf ?_
      refine Li As ?_
      refine g_nil ?_
      refine Me (()) (trivial)
  rintro u hI
  refine g_cond rfl ?_ ?_
  · intro hg
    replace hg := nrm hg
    rw [if_pos hg]
    refine g_sr ?_
    refine Li Mv ?_
    refine Li (Ln T.sl_39) ?_
    refine Li Mv ?_
    refine g_ne ?_
    refine g_block ?_
    refine Lo (ι := Nat) [59, 60, 61, 11, 62, 63, 64, 65, 66, 67, 68, 69, 70, 71, 58] (fun i => i ≤ why.length) (fun i => [(58, .int .i64 (i : Int))]) (fun i => [pts b1 34 [.int .i64 verb, .slice ka km kc, .int .u64 flags, .int .i64 expt, .int .u64 token, .int .u64 delta, .slice da dm dc, .bool nr, .bool lg, .slice fa fm fc, strv what], pts b2 38 [.int .i64 kind, .slice ea em ec, .int .u64 number, strv text, .slice sa sm sc], pts b e (bdC 1 (onesM l (getL verb (why.take i))))]) (fun i => why.length - i) (0) (Nat.zero_le _) ?_
    rintro i hi
    refine g_sr ?_
    refine Li Cm ?_
    refine g_ne ?_
    refine g_seq ?_
    refine g_cond rfl ?_ ?_
    · intro h1
      replace h1 := nrm h1
      obtain ⟨z, e1⟩ : ∃ z, why[i]? = some z := ⟨_, List.getElem?_eq_getElem (show i < why.length by omega)⟩
      have k1 : (icells why)[i]? = some (.int .i64 z) := by simp [icells, e1]
      have hF2 := hF.2
      have a0 : aw.isSome = true := hF2.some (by simp [icells]; omega)
      have bi := bd.ones (getL verb (why.take i))
      have bi2 := bi.ones (keyL z)
      have hs : getL verb (why.take (i + 1)) = getL verb (why.take i) ++ (keyL z ++ if 3 ≤ verb then toldL z 3 19 20 else []) := by rw [List.take_add_one, e1]; exact getL_snoc _ _ _
      refine g_skip ?_
      refine e_then ?_
      refine g_seq ?_
      refine g_block ?_
      refine g_sr ?_
      refine Li (Ix T.sl_39) ?_
      refine Lp (oL T.sc_3 ?_)
      refine Li As ?_
      refine g_ne ?_
      refine g_sr ?_
      refine Li Mv ?_
      refine Li Mv ?_
      refine Lp (oC T.fn_37 rfl rfl (key_fn b e 1 (onesM l (getL verb (why.take i))) bi z) (.cons (.there (.there .here)) .nil) (fun _ _ _ => trivial) ?_)
      rintro v H' ⟨rfl, rfl⟩
      try simp only [nap, cap]
      refine g_ne ?_
      refine g_sr ?_
      refine Li (Fa T.fld_34_0) ?_
      refine Lp (oL T.sc_3 ?_)
      refine Li Cm ?_
      refine g_ne ?_
      refine g_cond rfl ?_ ?_
      · intro h3
        replace h3 := nrm h3
        have hs2 : onesM l (getL verb (why.take (i + 1))) = onesM (onesM (onesM l (getL verb (why.take i))) (keyL z)) (toldL z 3 19 20) := by rw [hs, if_pos h3, onesM_append, onesM_append]
        refine g_region ?_
        refine Li Mv ?_
        refine Li Mv ?_
        refine Lp (oC T.fn_38 rfl rfl (told_fn b e 1 (onesM (onesM l (getL verb (why.take i))) (keyL z)) bi2 z 3 19 20) (.cons .here .nil) (fun _ _ _ => trivial) ?_)
        rintro v H' ⟨rfl, rfl⟩
        try simp only [nap, cap]
        rw [← hs2]
        refine g_nil ?_
        refine e_block ?_
        refine e_then ?_
        refine g_region ?_
        refine Li Im ?_
        refine Li Mv ?_
        refine g_nil ?_
        refine Ro (i + 1) ((by omega)) (by omega)
      · intro h3
        replace h3 := nrm h3
        have hs2 : onesM l (getL verb (why.take (i + 1))) = onesM (onesM l (getL verb (why.take i))) (keyL z) := by rw [hs, if_neg (by omega), onesM_append, List.append_nil]
        rw [← hs2]
        refine g_skip ?_
        refine e_block ?_
        refine e_then ?_
        refine g_region ?_
        refine Li Im ?_
        refine Li Mv ?_
        refine g_nil ?_
        refine Ro (i + 1) ((by omega)) (by omega)
    · intro h1
      replace h1 := nrm h1
      have e1 : why.take i = why := List.take_of_length_le (by omega)
      rw [e1]
      refine g_exit ?_
      refine e_then_exit ?_
      refine e_then_exit ?_
      refine e_block_hit ?_
      refine e_block ?_
      refine RdDn [pts b e (bdC 0 (onesM l (getL verb why)))] Tryd.results13 (unlockB b e _) (.cons (.there (.there .here)) .nil) (fun _ _ _ => trivial) ?_
      rintro v H' ⟨rfl, rfl⟩
      refine ⟨?_, Eh⟩
      exact ⟨rfl, rfl⟩
  · intro hg
    replace hg := nrm hg
    rw [if_neg (by omega)]
    refine g_sr ?_
    refine Li (Fa T.fld_34_0) ?_
    refine Lp (oL T.sc_3 ?_)
    refine Li Cm ?_
    refine Li As ?_
    refine g_ne ?_
    refine g_cond rfl ?_ ?_
    · intro h20
      replace h20 := nrm h20
      rw [if_pos h20]
      refine g_region ?_
      refine Li Mv ?_
      refine Lp (oLN T.ag_34 ?_)
      refine Lp (oLN T.ag_38 ?_)
      refine Li Mv ?_
      refine Lp (oC T.fn_39 rfl rfl (hmeta b e l bd) (.cons (.there (.there .here)) .nil) (fun _ le _ => ⟨hF.1.mono le, hF.2.mono le⟩) ?_)
      rintro v H' ⟨rfl, rfl⟩
      try simp only [nap, cap]
      refine g_nil ?_
      refine e_block ?_
      refine RdDn [pts b e (bdC 0 (onesM l (metaL verb kind text fl why)))] Tryd.results13 (unlockB b e _) (.cons .here .nil) (fun _ _ _ => trivial) ?_
      rintro v H' ⟨rfl, rfl⟩
      refine ⟨?_, Eh⟩
      exact ⟨rfl, rfl⟩
    · intro h20
      replace h20 := nrm h20
      rw [if_neg (by omega)]
      refine g_region ?_
      refine Li Mv ?_
      refine Li (Fa T.fld_34_0) ?_
      refine Lp (oL T.sc_3 ?_)
      refine Li (Fa T.fld_38_0) ?_
      refine Lp (oL T.sc_3 ?_)
      refine Lp (oC T.fn_40 rfl rfl (text_fn b e 1 l bd verb kind) (.cons (.there (.there .here)) .nil) (fun _ _ _ => trivial) ?_)
      rintro v H' ⟨rfl, rfl⟩
      try simp only [nap, cap]
      refine g_nil ?_
      refine e_block ?_
      refine RdDn [pts b e (bdC 0 (onesM l (textL verb kind)))] Tryd.results13 (unlockB b e _) (.cons .here .nil) (fun _ _ _ => trivial) ?_
      rintro v H' ⟨rfl, rfl⟩
      refine ⟨?_, Eh⟩
      exact ⟨rfl, rfl⟩
end Go.Proofs.YtdmepoiijgejhaaDoor

