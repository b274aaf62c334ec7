/- Counts: every call; the law of all calls in every order. -/
import Derived.Test.YtdmepoiijgejhaaDoorK22
import Derived.Test.YtdmepoiijgejhaaDoorK13
set_option maxRecDepth 100000
namespace Go.Proofs.YtdmepoiijgejhaaDoor
open Go Go.Eng

theorem rSet_fn (b : Nat) (e : TypeId) (l : List Nat) (bd : Brd l) (z : Int) (n : Nat) (hn : n ≤ maxN) :
    FnS Tryd.prog 56 [.pointer (some ⟨b, 0, none⟩), .int .i64 z, .int .u64 (n : Int)] (fun _ => True) [pts b e (rbC l)] (fun v H => v = .tuple #[] ∧ H = [pts b e (rbC (setM l z n))]) := by
  have hlen := bd.len
  unfold setM
  refine fn_body Tryd.func56 rfl Tryd.ntmps56 rfl ?_
  intro F hF
  refine g_sr ?_
  refine Li Mv ?_
  refine Lp (oC T.fn_58 rfl rfl (is_fn z) .nil (fun _ _ _ => trivial) ?_)
  rintro v H' ⟨rfl, rfl⟩
  try simp only [nap, cap]
  refine g_ne ?_
  refine g_cond rfl ?_ ?_
  · intro hz
    replace hz := nrm hz
    obtain ⟨j, rfl⟩ : ∃ j : Nat, z = (j : Int) := ⟨z.toNat, by omega⟩
    have hj : j < l.length := by omega
    have hrl := rbC_len l
    have e1 : (rbC l).set (0 + 0 + j) (.int .u64 (n : Int)) = rbC (l.set j n) := by rw [show 0 + 0 + j = j from by omega, rbC_set]
    rw [if_pos (by omega), Int.toNat_natCast]
    refine g_region ?_
    refine Li Mv ?_
    refine Li Mv ?_
    refine Li Mv ?_
    refine Li Nc ?_
    refine Li (Fa T.fld_91_0) ?_
    refine Li (Ia T.ar_87) ?_
    refine Lp (oS T.sc_30 ?_)
    refine g_nil ?_
    rw [e1]
    refine Rn0 [pts b e (rbC (l.set j n))] Tryd.results56 ?_
    exact ⟨rfl, rfl⟩
  · intro hz
    replace hz := nrm hz
    rw [if_neg (by omega)]
    refine g_skip ?_
    refine Rn0 [pts b e (rbC l)] Tryd.results56 ?_
    exact ⟨rfl, rfl⟩
theorem rRead_fn (b : Nat) (e : TypeId) (l : List Nat) (bd : Brd l) (z : Int) :
    FnS Tryd.prog 30 [.pointer (some ⟨b, 0, none⟩), .int .i64 z] (fun _ => True) [pts b e (rbC l)] (fun v H => v = .int .u64 (readM l z : Int) ∧ H = [pts b e (rbC l)]) := by
  have hlen := bd.len
  unfold readM
  refine fn_body Tryd.func30 rfl Tryd.ntmps30 rfl ?_
  intro F hF
  refine g_sr ?_
  refine Li As ?_
  refine g_ne ?_
  refine g_seq ?_
  refine g_sr ?_
  refine Li Mv ?_
  refine Lp (oC T.fn_58 rfl rfl (is_fn z) .nil (fun _ _ _ => trivial) ?_)
  rintro v H' ⟨rfl, rfl⟩
  try simp only [nap, cap]
  refine Li Nt ?_
  refine g_ne ?_
  refine g_cond rfl ?_ ?_
  · intro hz
    replace hz := nrm hz
    rw [if_neg (by omega)]
    refine g_sr ?_
    refine Li As ?_
    refine g_ne ?_
    refine g_ret ?_
    refine e_then_ret ?_
    refine Rt [pts b e (rbC l)] Tryd.results30 ?_
    exact ⟨rfl, rfl⟩
  · intro hz
    replace hz := nrm hz
    obtain ⟨j, rfl⟩ : ∃ j : Nat, z = (j : Int) := ⟨z.toNat, by omega⟩
    have hj : j < l.length := by omega
    have hat : (rbC l)[0 + 0 + j]? = some (.int .u64 ((l.getD j 0 : Nat) : Int)) := by simp only [Nat.zero_add]; exact rbC_at l j hj
    rw [if_pos (by omega), Int.toNat_natCast]
    refine g_skip ?_
    refine e_then ?_
    refine g_sr ?_
    refine Li Mv ?_
    refine Li Mv ?_
    refine Li Nc ?_
    refine Li (Fa T.fld_91_0) ?_
    refine Li (Ia T.ar_87) ?_
    refine Lp (oL T.sc_30 ?_)
    refine Li As ?_
    refine g_ne ?_
    refine g_ret ?_
    refine Rt [pts b e (rbC l)] Tryd.results30 ?_
    exact ⟨rfl, rfl⟩
theorem rs_one (l : List Nat) (h0 : l.getD 0 0 = 0) : rs l 1 = l := by
  apply List.ext_getElem
  · simp [rs]
  · intro j h1 h2
    simp only [rs, List.getElem_mapIdx]
    by_cases hj : j = 0
    · subst hj
      rw [if_pos (by omega)]
      rw [List.getD_eq_getElem?_getD, List.getElem?_eq_getElem h2] at h0
      exact h0.symm
    · rw [if_neg (by omega)]
theorem rs_get0 (l : List Nat) : (rs l 32).getD 0 0 = 0 := by
  rw [List.getD_eq_getElem?_getD]
  cases l with
  | nil => rfl
  | cons a r => simp [rs]
theorem rReset_fn (b : Nat) (e : TypeId) (l : List Nat) (bd : Brd l) (h0 : l.getD 0 0 = 0) :
    FnS Tryd.prog 57 [.pointer (some ⟨b, 0, none⟩)] (fun _ => True) [pts b e (rbC l)] (fun v H => v = .tuple #[] ∧ H = [pts b e (rbC (rs l 32))]) := by
  have hlen := bd.len
  have hr1 := rs_one l h0
  refine fn_body Tryd.func57 rfl Tryd.ntmps57 rfl ?_
  intro F hF
  refine g_heap (H' := [pts b e (rbC (rs l 1))]) (by rw [hr1]; exact fun _ x => x) ?_
  refine g_sr ?_
  refine Li As ?_
  refine g_ne ?_
  refine g_block ?_
  refine Lo (ι := Nat) [3, 4, 7, 8, 9, 10, 11, 12, 13, 14, 15, 16, 17, 18, 19, 20, 21, 5, 6, 2] (fun i => 1 ≤ i ∧ i ≤ 32) (fun i => [(2, .int .i64 (i : Int))]) (fun i => [pts b e (rbC (rs l i))]) (fun i => 32 - i) (1) ⟨Nat.le_refl _, by omega⟩ ?_
  rintro i ⟨hi1, hi⟩
  refine g_seq ?_
  refine g_sr ?_
  refine Li Mv ?_
  refine Li Cm ?_
  refine g_ne ?_
  refine g_cond rfl ?_ ?_
  · intro h1
    replace h1 := nrm h1
    refine g_skip ?_
    refine e_then ?_
    refine g_seq ?_
    refine g_block ?_
    refine g_seq ?_
    refine g_mid (ι := Unit) [7, 8, 9, 10, 11, 12, 13, 14, 15, 16] (fun u => True) (fun u => [(16, .bool (!(decide (i = 25) || decide (i = 26) || decide (i = 28))))]) (fun u => [pts b e (rbC (rs l i))]) ?_ ?_
    · refine g_region ?_
      refine Li Mv ?_
      refine Li Cm ?_
      refine Li Mv ?_
      refine g_split (t := 9) rfl ?_ ?_
      · intro hb0
        replace hb0 := nrm hb0
        refine Li Mv ?_
        refine Li Cm ?_
        refine Li Pt ?_
        refine Li Mv ?_
        refine g_split (t := 13) rfl ?_ ?_
        · intro hb1
          replace hb1 := nrm hb1
          refine Li Mv ?_
          refine Li Cm ?_
          refine Li Pt ?_
          refine g_nil ?_
          refine Me (()) (trivial)
        · intro hb1
          replace hb1 := nrm hb1
          refine Lx ?_
          refine Lx ?_
          refine Li Pf ?_
          refine g_nil ?_
          refine Me (()) (trivial)
      · intro hb0
        replace hb0 := nrm hb0
        refine Lx ?_
        refine Lx ?_
        refine Li Pf ?_
        refine Li Mv ?_
        refine Lx ?_
        refine Lx ?_
        refine Li Pf ?_
        refine g_nil ?_
        refine Me (()) (trivial)
    rintro u hI
    refine g_cond rfl ?_ ?_
    · intro h2
      replace h2 := nrm h2
      have h3 : ¬ (i = 25 ∨ i = 26 ∨ i = 28) := by omega
      have hcl := rbC_len (rs l i)
      have hrl := rs_len l i
      have e1 : (rbC (rs l i)).set (0 + 0 + i) (.int .u64 0) = rbC (rs l (i + 1)) := by rw [show 0 + 0 + i = i from by omega, rs_set l i h3, ← rbC_set]; rfl
      refine g_region ?_
      refine Li Mv ?_
      refine Li Mv ?_
      refine Li Nc ?_
      refine Li (Fa T.fld_91_0) ?_
      refine Li (Ia T.ar_87) ?_
      refine Lp (oS T.sc_30 ?_)
      refine g_nil ?_
      refine e_block ?_
      refine e_then ?_
      refine g_region ?_
      refine Li Mv ?_
      refine Li Im ?_
      refine Li As ?_
      refine g_nil ?_
      rw [e1]
      refine Ro (i + 1) (⟨by omega, by omega⟩) (by omega)
    · intro h2
      replace h2 := nrm h2
      have h3 : i = 25 ∨ i = 26 ∨ i = 28 := by omega
      rw [← rs_keep l i h3]
      refine g_skip ?_
      refine e_block ?_
      refine e_then ?_
      refine g_region ?_
      refine Li Mv ?_
      refine Li Im ?_
      refine Li As ?_
      refine g_nil ?_
      refine Ro (i + 1) (⟨by omega, by omega⟩) (by omega)
  · intro h1
    replace h1 := nrm h1
    have : i = 32 := by omega
    subst this
    refine g_exit ?_
    refine e_then_exit ?_
    refine e_then_exit ?_
    refine e_block_hit ?_
    refine Rn0 [pts b e (rbC (rs l 32))] Tryd.results57 ?_
    exact ⟨rfl, rfl⟩

/-- a call -/
structure Opc where
  on : Int
  act : Int
  name : Int
  n : Nat
  x : Oc
def opC (o : Opc) : List Value := .int .i64 o.on :: .int .i64 o.act :: .int .i64 o.name :: .int .u64 (o.n : Int) :: ocC o.x
structure OpOk (h : Hp) (o : Opc) : Prop where
  nb : o.n ≤ maxN
  nm : i64 o.name
  ok : OcOk h o.x
theorem OpOk.mono {h k : Hp} {o : Opc} (q : OpOk h o) (le : Le h k) : OpOk k o := ⟨q.nb, q.nm, q.ok.mono le⟩
/-- a board that none but names are counted on -/
def Bz (l : List Nat) : Prop := Brd l ∧ l.getD 0 0 = 0
theorem Bz.zero : Bz (List.replicate 32 0) := ⟨bd_zero, rfl⟩
theorem Bz.fold {l : List Nat} (b : Bz l) (E : List (Int × Nat)) : Bz (foldM l E) := ⟨b.1.fold E, by
  rw [foldM_get E b.1, b.2]
  have : tot E 0 = 0 := by
    induction E with
    | nil => rfl
    | cons p r ih =>
      have e : tot (p :: r) 0 = (if p.1 = ((0 : Nat) : Int) ∧ 1 ≤ p.1 ∧ p.1 < 32 then p.2 else 0) + tot r 0 := by simp [tot]
      rw [e, ih, if_neg (by omega)]
  rw [this]; rfl⟩
theorem Bz.addM {l : List Nat} (b : Bz l) (z : Int) (n : Nat) : Bz (addM l z n) := b.fold [(z, n)]
theorem Bz.setM {l : List Nat} (b : Bz l) (z : Int) (n : Nat) (hn : n ≤ maxN) : Bz (setM l z n) := by
  unfold YtdmepoiijgejhaaDoor.setM
  split
  · exact ⟨b.1.set _ _ hn, by rw [getD_set, if_neg (by omega)]; exact b.2⟩
  · exact b
theorem Bz.comm {l : List Nat} (b : Bz l) (verb kind : Int) (text : List UInt8) (fl : List Flg) (why : List Int) (m : Mtr) : Bz (commM l verb kind text fl why m) := by rw [commM_fold]; exact b.fold _
theorem Bz.rs {l : List Nat} (b : Bz l) : Bz (rs l 32) := ⟨b.1.rs 32, rs_get0 l⟩
set_option maxHeartbeats 2000000 in
theorem plays_fn (b r : Nat) (l : List Nat) (bz : Bz l) (o : Opc) :
    FnS Tryd.prog 29 [.pointer (some ⟨b, 0, none⟩), .pointer (some ⟨r, 0, none⟩), .agg (opC o).toArray] (fun h => Tab h ∧ OpOk h o) [pts b 89 (bdC 0 l), pts r 91 (rbC l)] (fun v H => ∃ l', v = .bool true ∧ Bz l' ∧ H = [pts b 89 (bdC 0 l'), pts r 91 (rbC l')]) := by
  have bd := bz.1
  have h0 := bz.2
  refine FnS.of_pre (X := o.n ≤ maxN ∧ i64 o.name ∧ o.x.c.fm = o.x.fl.length ∧ o.x.fl.length ≤ 9223372036854775807 ∧ o.x.a.text.length ≤ 9223372036854775807 ∧ o.x.why.length ≤ o.x.wc ∧ o.x.m.ok) (fun _ h => ⟨h.2.nb, h.2.nm, h.2.ok.fm, h.2.ok.flb, h.2.ok.txt, h.2.ok.wcb, h.2.ok.mok⟩) ?_
  rintro ⟨hn, hnm, q1, q2, q3, q4, q5⟩
  have hfl : (few o.x.why).length ≤ 10000 := by unfold few; simp; omega
  obtain ⟨on, act, name, n, x⟩ := o
  unfold opC
  unfold i64 at hnm
  simp only at hn hnm q1 q2 q3 q4 q5 hfl ⊢
  obtain ⟨hnm1, hnm2⟩ := hnm
  refine fn_body Tryd.func29 rfl Tryd.ntmps29 rfl ?_
  intro F hF
  have hT := hF.1
  have ox := hF.2.ok
  simp only at ox
  have hone : ∀ v ∈ (.int .i64 on :: .int .i64 act :: .int .i64 name :: .int .u64 (n : Int) :: ocC x : List Value), v.oneCell' = true := by
    unfold ocC outC cmdC ansC mtrC
    simp [Value.oneCell', strv]
  refine g_sr ?_
  refine Lp (oB fun b1 => ?_)
  refine Li As ?_
  refine g_ne ?_
  refine g_seq ?_
  refine g_sr ?_
  refine Li (Fa T.fld_73_1) ?_
  refine Lp (oL T.sc_3 ?_)
  refine g_ne ?_
  refine g_block ?_
  refine g_sr ?_
  refine Li Cm ?_
  refine Li As ?_
  refine g_ne ?_
  refine g_cond rfl ?_ ?_
  · intro k1
    replace k1 := nrm k1
    refine g_sr ?_
    refine Li Mv ?_
    refine Li (Fa T.fld_73_2) ?_
    refine Lp (oL T.sc_3 ?_)
    refine Li (Fa T.fld_73_3) ?_
    refine Lp (oL T.sc_30 ?_)
    refine Lp (oC T.fn_28 rfl rfl (Add_fn b 89 l bd name n hn) (.cons (.there .here) .nil) (fun _ _ _ => trivial) ?_)
    rintro v H' ⟨rfl, rfl⟩
    try simp only [nap, cap]
    refine g_ne ?_
    refine g_region ?_
    refine Li Mv ?_
    refine Li (Fa T.fld_73_2) ?_
    refine Lp (oL T.sc_3 ?_)
    refine Li (Fa T.fld_73_3) ?_
    refine Lp (oL T.sc_30 ?_)
    refine Lp (oC T.fn_41 rfl rfl (rAdd_fn r 91 l bd name n hn) (.cons (.there (.there .here)) .nil) (fun _ _ _ => trivial) ?_)
    rintro v H' ⟨rfl, rfl⟩
    try simp only [nap, cap]
    refine g_nil ?_
    refine e_block ?_
    refine e_then ?_
    refine g_sr ?_
    refine Li As ?_
    refine g_ne ?_
    refine g_ret ?_
    refine Rt [pts b 89 (bdC 0 (addM l name n)), pts r 91 (rbC (addM l name n))] Tryd.results29 ?_
    exact ⟨_, rfl, bz.addM name n, rfl⟩
  · intro k1
    replace k1 := nrm k1
    refine g_sr ?_
    refine Li Cm ?_
    refine Li As ?_
    refine g_ne ?_
    refine g_cond rfl ?_ ?_
    · intro k2
      replace k2 := nrm k2
      refine g_sr ?_
      refine Li Mv ?_
      refine Li (Fa T.fld_73_2) ?_
      refine Lp (oL T.sc_3 ?_)
      refine Li (Fa T.fld_73_3) ?_
      refine Lp (oL T.sc_30 ?_)
      refine Lp (oC T.fn_31 rfl rfl (Set_fn b 89 l bd name n hn) (.cons (.there .here) .nil) (fun _ _ _ => trivial) ?_)
      rintro v H' ⟨rfl, rfl⟩
      try simp only [nap, cap]
      refine g_ne ?_
      refine g_region ?_
      refine Li Mv ?_
      refine Li (Fa T.fld_73_2) ?_
      refine Lp (oL T.sc_3 ?_)
      refine Li (Fa T.fld_73_3) ?_
      refine Lp (oL T.sc_30 ?_)
      refine Lp (oC T.fn_56 rfl rfl (rSet_fn r 91 l bd name n hn) (.cons (.there (.there .here)) .nil) (fun _ _ _ => trivial) ?_)
      rintro v H' ⟨rfl, rfl⟩
      try simp only [nap, cap]
      refine g_nil ?_
      refine e_block ?_
      refine e_then ?_
      refine g_sr ?_
      refine Li As ?_
      refine g_ne ?_
      refine g_ret ?_
      refine Rt [pts b 89 (bdC 0 (setM l name n)), pts r 91 (rbC (setM l name n))] Tryd.results29 ?_
      exact ⟨_, rfl, bz.setM name n hn, rfl⟩
    · intro k2
      replace k2 := nrm k2
      refine g_sr ?_
      refine Li Cm ?_
      refine Li As ?_
      refine g_ne ?_
      refine g_cond rfl ?_ ?_
      · intro k3
        replace k3 := nrm k3
        refine g_seq ?_
        refine g_drw T.mix (.cons .here .nil) fun F1 le1 hin1 back1 => ?_
        obtain ⟨hb, _⟩ := hin1
        refine Dt 0 rfl Mv ?_
        refine Dt 1 rfl (Fa T.fld_73_2) ?_
        refine Dt 2 rfl (Lf T.sc_3) ?_
        refine Dt 4 rfl Mv ?_
        refine Dt 5 rfl (Fa T.fld_73_2) ?_
        refine Dt 6 rfl (Lf T.sc_3) ?_
        refine Dn 3 ?_
        refine Do rfl (oC T.fn_20 rfl rfl (Read_fn b 89 l bd name) (.cons .here .nil) (fun _ _ _ => trivial) ?_)
        rintro v H' ⟨rfl, rfl⟩
        try simp only [nap, cap]
        refine gh_next ?_
        refine Dn 7 ?_
        refine Do rfl (oC T.fn_30 rfl rfl (rRead_fn r 91 l bd name) (.cons (.there .here) .nil) (fun _ _ _ => trivial) ?_)
        rintro v H' ⟨rfl, rfl⟩
        try simp only [nap, cap]
        refine gh_next ?_
        refine Dt 8 rfl Cm ?_
        refine Dt 9 rfl As ?_
        refine gh_done (by kernel_rfl) back1 ?_
        refine e_then ?_
        refine g_ret ?_
        refine e_block_ret ?_
        refine e_then_ret ?_
        refine Rt [pts b 89 (bdC 0 l), pts r 91 (rbC l)] Tryd.results29 ?_
        exact ⟨l, congrArg Value.bool (by simp), bz, rfl⟩
      · intro k3
        replace k3 := nrm k3
        refine g_sr ?_
        refine Li Cm ?_
        refine Li As ?_
        refine g_ne ?_
        refine g_cond rfl ?_ ?_
        · intro k4
          replace k4 := nrm k4
          refine g_seq ?_
          refine g_drw T.mix (.cons .here .nil) fun F2 le2 hin2 back2 => ?_
          obtain ⟨hb, _⟩ := hin2
          refine Dt 0 rfl Mv ?_
          refine Dt 1 rfl (Fa T.fld_73_4) ?_
          refine Dt 2 rfl (LfN T.ag_34) ?_
          refine Dt 3 rfl (Fa T.fld_73_5) ?_
          refine Dt 4 rfl (LfN T.ag_38) ?_
          refine Dt 5 rfl (Fa T.fld_73_6) ?_
          refine Dt 6 rfl (Lf T.sc_39) ?_
          refine Dt 8 rfl (Fa T.fld_73_7) ?_
          refine Dt 9 rfl (LfN T.ag_41) ?_
          refine Dn 7 ?_
          refine Do rfl (oC T.fn_14 rfl rfl (few_fn x.why x.wa x.why.length x.wc rfl q4) .nil (fun _ _ _ => trivial) ?_)
          rintro v H' ⟨aw, cw, rfl, hcw, hrw, rfl⟩
          try simp only [nap, cap]
          refine gh_next ?_
          refine Dn 10 ?_
          refine Do rfl (oC T.fn_13 rfl rfl (Command_fn b 89 l bd x.c x.a x.fl q1 q2 (few x.why) aw (few x.why).length cw rfl (by omega) q3 x.m q5) (.cons .here .nil) (fun _ le _ => ⟨ox.fls.mono (le2.trans le), (hrw _ ox.whs).mono (le2.trans le)⟩) ?_)
          rintro v H' ⟨rfl, rfl⟩
          try simp only [nap, cap]
          refine gh_next ?_
          refine gh_done (by kernel_rfl) back2 ?_
          refine e_then ?_
          refine Hh (H' := [pts b1 73 (.int .i64 on :: .int .i64 act :: .int .i64 name :: .int .u64 (n : Int) :: ocC x), pts b 89 (bdC 0 (commM l x.c.verb x.a.kind x.a.text x.fl (few x.why) x.m)), pts r 91 (rbC l)]) ?_
          refine g_drw T.mix (.cons .here .nil) fun F3 le3 hin3 back3 => ?_
          obtain ⟨hc, _⟩ := hin3
          refine Dt 0 rfl Mv ?_
          refine Dt 1 rfl (Fa T.fld_73_4) ?_
          refine Dt 2 rfl (LfN T.ag_34) ?_
          refine Dt 3 rfl (Fa T.fld_73_5) ?_
          refine Dt 4 rfl (LfN T.ag_38) ?_
          refine Dt 5 rfl (Fa T.fld_73_6) ?_
          refine Dt 6 rfl (Lf T.sc_39) ?_
          refine Dt 8 rfl (Fa T.fld_73_7) ?_
          refine Dt 9 rfl (LfN T.ag_41) ?_
          refine Dn 7 ?_
          refine Do rfl (oC T.fn_14 rfl rfl (few_fn x.why x.wa x.why.length x.wc rfl q4) .nil (fun _ _ _ => trivial) ?_)
          rintro v H' ⟨aw2, cw2, rfl, hcw2, hrw2, rfl⟩
          try simp only [nap, cap]
          refine gh_next ?_
          refine Dn 10 ?_
          refine Do rfl (oC T.fn_15 rfl rfl (rCommand_fn r 91 l bd x.c x.a x.fl q1 q2 (few x.why) aw2 (few x.why).length cw2 rfl hfl q3 x.m q5) (.cons (.there .here) .nil) (fun _ le _ => ⟨ox.fls.mono (le3.trans le), (hrw2 _ ox.whs).mono (le3.trans le)⟩) ?_)
          rintro v H' ⟨rfl, rfl⟩
          try simp only [nap, cap]
          refine gh_next ?_
          refine gh_done (by kernel_rfl) back3 ?_
          refine e_block ?_
          refine e_then ?_
          refine g_sr ?_
          refine Li As ?_
          refine g_ne ?_
          refine g_ret ?_
          refine Rt [pts b 89 (bdC 0 (commM l x.c.verb x.a.kind x.a.text x.fl (few x.why) x.m)), pts r 91 (rbC (commM l x.c.verb x.a.kind x.a.text x.fl (few x.why) x.m))] Tryd.results29 ?_
          exact ⟨_, rfl, bz.comm _ _ _ _ _ _, rfl⟩
        · intro k4
          replace k4 := nrm k4
          refine g_sr ?_
          refine Li Cm ?_
          refine Li As ?_
          refine g_ne ?_
          refine g_cond rfl ?_ ?_
          · intro k5
            replace k5 := nrm k5
            refine g_sr ?_
            refine Li Mv ?_
            refine Lp (oC T.fn_32 rfl rfl (Reset_fn b 89 l bd) (.cons (.there .here) .nil) (fun _ _ _ => trivial) ?_)
            rintro v H' ⟨rfl, rfl⟩
            try simp only [nap, cap]
            refine g_ne ?_
            refine g_region ?_
            refine Li Mv ?_
            refine Lp (oC T.fn_57 rfl rfl (rReset_fn r 91 l bd h0) (.cons (.there (.there .here)) .nil) (fun _ _ _ => trivial) ?_)
            rintro v H' ⟨rfl, rfl⟩
            try simp only [nap, cap]
            refine g_nil ?_
            refine e_block ?_
            refine e_then ?_
            refine g_sr ?_
            refine Li As ?_
            refine g_ne ?_
            refine g_ret ?_
            refine Rt [pts b 89 (bdC 0 (rs l 32)), pts r 91 (rbC (rs l 32))] Tryd.results29 ?_
            exact ⟨_, rfl, bz.rs, rfl⟩
          · intro k5
            replace k5 := nrm k5
            refine g_sr ?_
            refine Li Cm ?_
            refine Li As ?_
            refine g_ne ?_
            refine g_cond rfl ?_ ?_
            · intro k6
              replace k6 := nrm k6
              have hs31 := statsM_len l 31
              refine g_sr ?_
              refine Li Mv ?_
              refine Lp (oC T.fn_17 rfl rfl (Stats_fn b 89 l bd) (.cons (.there .here) .nil) (fun _ le _ => hT.mono le) ?_)
              rintro v H' ⟨s1, c1, rfl, _, _, rfl⟩
              try simp only [nap, cap]
              refine Li Mv ?_
              refine Lp (oC T.fn_18 rfl rfl (rStats_fn r 91 l bd) (.cons (.there (.there (.there .here))) .nil) (fun _ _ _ => trivial) ?_)
              rintro v H' ⟨s2, c2, rfl, rfl⟩
              try simp only [nap, cap]
              refine Lp (oC T.fn_16 rfl rfl (lines_fn (statsM l 31) (statsM l 31) s1 s2 31 31 c1 c2 hs31.symm hs31.symm (by omega) (by omega)) .nil (fun _ _ hin => ⟨own_in (hin.nth 2 rfl), own_in (hin.nth 0 rfl)⟩) ?_)
              rintro v H' ⟨rfl, rfl⟩
              try simp only [nap, cap]
              refine Li As ?_
              refine g_ne ?_
              refine g_ret ?_
              refine e_block_ret ?_
              refine e_then_ret ?_
              refine Rt [pts b 89 (bdC 0 l), pts r 91 (rbC l)] Tryd.results29 ?_
              exact ⟨l, congrArg Value.bool (by simp), bz, rfl⟩
            · intro k6
              replace k6 := nrm k6
              refine g_sr ?_
              refine Li Cm ?_
              refine Li As ?_
              refine g_ne ?_
              refine g_cond rfl ?_ ?_
              · intro k7
                replace k7 := nrm k7
                refine g_seq ?_
                refine g_drw T.mix (.cons .here .nil) fun F4 le4 hin4 back4 => ?_
                obtain ⟨hb, _⟩ := hin4
                have hT1 := hT.mono le4
                refine Dt 0 rfl (Fa T.fld_73_2) ?_
                refine Dt 1 rfl (Lf T.sc_3) ?_
                refine Dt 3 rfl (Fa T.fld_73_2) ?_
                refine Dt 4 rfl (Lf T.sc_3) ?_
                refine Dn 2 ?_
                refine Do rfl (oC T.fn_21 rfl rfl (Name_fn name hnm1 hnm2) .nil (fun _ le _ => hT1.mono le) ?_)
                rintro v H' ⟨rfl, rfl⟩
                try simp only [nap, cap]
                refine gh_next ?_
                refine Dn 5 ?_
                refine Do rfl (oC T.fn_22 rfl rfl (refName_fn name hnm1 hnm2) .nil (fun _ _ _ => trivial) ?_)
                rintro v H' ⟨rfl, rfl⟩
                try simp only [nap, cap]
                refine gh_next ?_
                refine Dt 6 rfl Sq ?_
                refine Dt 7 rfl As ?_
                refine gh_done (by kernel_rfl) back4 ?_
                refine e_then ?_
                refine g_ret ?_
                refine e_block_ret ?_
                refine e_then_ret ?_
                refine Rt [pts b 89 (bdC 0 l), pts r 91 (rbC l)] Tryd.results29 ?_
                exact ⟨l, congrArg Value.bool (by simp), bz, rfl⟩
              · intro k7
                replace k7 := nrm k7
                refine g_skip ?_
                refine e_block ?_
                refine e_then ?_
                refine g_sr ?_
                refine Li As ?_
                refine g_ne ?_
                refine g_ret ?_
                refine Rt [pts b 89 (bdC 0 l), pts r 91 (rbC l)] Tryd.results29 ?_
                exact ⟨l, rfl, bz, rfl⟩
end Go.Proofs.YtdmepoiijgejhaaDoor

