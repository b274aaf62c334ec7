/- The document's disk: its names, the first so many changes done. -/
import Derived.Test.YtncmmhfgcgnojaaR2
set_option maxRecDepth 100000
namespace Go.Proofs.Ytncmmhfgcgnojaa
open Go Go.Eng

set_option maxHeartbeats 1000000 in
theorem after_fn (b : Nat) (s : Ds) (y : RLay) (hS : Inv s) (hn : s.acts ≤ 10000) (hy : RLayOk s y) (z : Int) :
    FnS Try.prog 43 [.pointer (some ⟨b, 0, none⟩), .int .i64 z] (InL (rkL b s y)) [] (fun v H => ∃ a c, v = .slice a (afterL s.safe (s.chg.take z.toNat)).length c ∧ H = [own a c 113 2 (nmCs (afterL s.safe (s.chg.take z.toNat)))]) := by
  have hnn := hS.nn
  have hrc := rrc_len hy
  obtain ⟨N, hN⟩ : ∃ N, N = min z.toNat s.chg.length := ⟨_, rfl⟩
  rw [show s.chg.take z.toNat = s.chg.take N from by rw [List.take_eq_take_iff]; omega]
  have hbl : ∀ i, (afterL s.safe (s.chg.take i)).length ≤ s.acts := fun i => by
    have := (hS.tn.afterL (cs := s.chg.take i) fun c hc => hS.ck c (List.mem_of_mem_take hc)).len
    rw [List.length_take] at this
    omega
  refine fn_body Try.func43 rfl Try.ntmps43 rfl ?_
  rintro F ⟨h0, _, _, h3, h4, _, _⟩
  unfold rkC at h0
  have r3 := own_in h3
  have r4 := own_in h4
  refine g_sr ?_
  refine Li As ?_
  refine g_ne ?_
  refine g_sr ?_
  refine Lp (oT2 T.ap_67 fun b1 => ?_)
  refine Li Mv ?_
  refine Li Nc ?_
  refine Li (Fa T.fld_70_2) ?_
  refine Lp (oL T.sc_67 ?_)
  refine g_heap (fun _ s => starL_cons_mono (fun _ p => own_emp 2 p (by rfl)) s) ?_
  refine Lp (op_append T.ap_67 T.ni_67 rfl rfl rfl rfl .here (rfl) (src_slice (m := s.safe.length) (nmCs_len _) fun h le _ => r3.mono le) (nmCs_one _) (by first | omega | (simp; omega)) (by first | omega | (simp; omega)) rfl fun a5 c5 hc5 => ?_)
  rw [List.nil_append, Nat.zero_add]
  refine Li As ?_
  refine g_ne ?_
  refine g_seq ?_
  refine g_sr ?_
  refine Li As ?_
  refine g_ne ?_
  refine g_block ?_
  refine Lo (ι := Nat × Option Addr × Nat) [14, 15, 16, 17, 18, 19, 20, 21, 22, 23, 24, 25, 28, 29, 30, 31, 32, 33, 34, 7, 35, 36, 37, 38, 5, 39, 40, 41, 42, 43, 44, 45, 46, 47, 48, 49, 50, 51, 52, 26, 27, 6] (fun (i, a', c') => i ≤ N) (fun (i, a', c') => [(5, .slice a' (afterL s.safe (s.chg.take i)).length c'), (6, .int .i64 (i : Int))]) (fun (i, a', c') => [own a' c' 113 2 (nmCs (afterL s.safe (s.chg.take i)))]) (fun (i, a', c') => N - i) ((0, a5, c5)) (Nat.zero_le _) ?_
  rintro ⟨i, a', c'⟩ hi
  try dsimp only at hI ⊢
  dsimp only at hi ⊢
  have hli := hbl i
  refine g_seq ?_
  refine g_seq ?_
  refine g_mid (ι := Unit) [14, 15, 16, 17, 18, 19, 20, 21, 22, 23, 24, 25] (fun u => True) (fun u => [(25, .bool (decide ((i : Int) < (N : Int))))]) (fun u => [own a' c' 113 2 (nmCs (afterL s.safe (s.chg.take i)))]) ?_ ?_
  · refine g_region ?_
    refine Li Mv ?_
    refine Li Mv ?_
    refine Li Cm ?_
    refine Li Mv ?_
    refine g_split (t := 17) rfl ?_ ?_
    · intro hb0
      replace hb0 := nrm hb0
      refine Li Mv ?_
      refine Li Mv ?_
      refine Li Nc ?_
      refine Li (Fa T.fld_70_3) ?_
      refine Lp (oL T.sc_68 ?_)
      refine Li (Ln T.sl_68) ?_
      refine Li Cm ?_
      refine Li Pt ?_
      refine g_nil ?_
      refine Me (()) (trivial)
    · intro hb0
      replace hb0 := nrm hb0
      refine Lx ?_
      refine Lx ?_
      refine Lx ?_
      refine Lx ?_
      refine Lx ?_
      refine Lx ?_
      refine Lx ?_
      refine Li Pf ?_
      refine g_nil ?_
      refine Me (()) (trivial)
  rintro u hI
  refine g_cond rfl ?_ ?_
  · intro hlt
    replace hlt := nrm hlt
    have hic : i < y.rc.length := by omega
    have e1 : y.rc[i]? = some y.rc[i] := List.getElem?_eq_getElem hic
    generalize y.rc[i] = cc at e1
    have e2 : s.chg[i]? = some (norm cc) := by rw [← hy.rc, List.getElem?_map, e1]; rfl
    have etk : s.chg.take (i + 1) = s.chg.take i ++ [norm cc] := by rw [List.take_add_one, e2]; rfl
    have hst : afterL s.safe (s.chg.take (i + 1)) = app1 (afterL s.safe (s.chg.take i)) cc := by rw [etk, afterL_snoc, app1_norm]
    have k1 := rows_at chC_len e1
    change List.take 3 (List.drop (i * 3) (chCs y.rc)) = _ at k1
    have sc : y.ca.isSome = true := r4.some (by rw [chCs_len]; omega)
    unfold chC at k1
    generalize hL : afterL s.safe (s.chg.take i) = L at *
    refine g_skip ?_
    refine e_then ?_
    refine g_seq ?_
    refine g_block ?_
    refine g_sr ?_
    refine Li Mv ?_
    refine Li Nc ?_
    refine Li (Fa T.fld_70_3) ?_
    refine Lp (oL T.sc_68 ?_)
    refine Li Mv ?_
    refine Li (Ix T.sl_68) ?_
    refine Lp (oLN T.ag_116 ?_)
    refine Lp (oA T.zc_116 fun b2 => ?_)
    refine Lp (oSW T.ag_116 ?_)
    refine g_ne ?_
    refine g_sr ?_
    refine Li Mv ?_
    refine Li (Fa T.fld_116_0) ?_
    refine Lp (oL T.sc_9 ?_)
    refine Lp (oC T.fn_63 rfl rfl (without_fn a' L.length c' L cc.fr rfl (by omega)) .nil (fun _ _ hin => own_in (hin.nth 1 rfl)) ?_)
    rintro v H' ⟨a6, c6, rfl, rfl⟩
    try simp only [nap, cap]
    have hw1 : (without L cc.fr).length ≤ L.length := List.length_filter_le _ _
    refine Li As ?_
    refine g_ne ?_
    refine g_sr ?_
    refine Li (Fa T.fld_116_1) ?_
    refine Lp (oL T.sc_9 ?_)
    refine Li Sq ?_
    refine g_ne ?_
    refine g_cond rfl ?_ ?_
    · intro hto
      replace hto := nrm hto
      have hto2 : ¬ cc.to = [] := hto
      have hap : app1 L cc = without (without L cc.fr) cc.to ++ [(cc.to, cc.fi)] := by unfold app1; rw [if_neg hto2]
      have hw2 : (without (without L cc.fr) cc.to).length ≤ (without L cc.fr).length := List.length_filter_le _ _
      refine g_drw T.mix (.cons .here (.cons .here .nil)) fun F1 le1 hin1 back1 => ?_
      obtain ⟨hg, hb, _⟩ := hin1
      have rg := own_in hg
      refine Dt 0 rfl Mv ?_
      refine Dt 1 rfl (Fa T.fld_116_1) ?_
      refine Dt 2 rfl (Lf T.sc_9) ?_
      refine Dt 4 rfl (Fa T.fld_116_1) ?_
      refine Dt 5 rfl (Lf T.sc_9) ?_
      refine Dt 6 rfl (Fa T.fld_116_2) ?_
      refine Dt 7 rfl (Lf T.sc_3) ?_
      refine Dt 8 rfl (Bd T.zc_113 T.st_113) ?_
      refine D2 3 9 ?_ ?_
      · refine Do rfl (oC T.fn_63 rfl rfl (without_fn a6 (without L cc.fr).length c6 (without L cc.fr) cc.to rfl (by omega)) .nil (fun _ le _ => rg.mono le) ?_)
        rintro v H' ⟨a7, c7, rfl, rfl⟩
        try simp only [nap, cap]
        refine gh_next ?_
        refine Dn 9 ?_
        refine Do rfl (oT1 T.ap_67 fun b3 => ?_)
        refine gh_next ?_
        refine Dn 10 ?_
        refine Do rfl (op_append_lit T.ap_67 T.ni_67 rfl rfl rfl rfl .here (nmCs_len _) (rfl) (by simp [setL, Value.cells, Value.oneCell', strv]) (by first | omega | (simp; omega)) (by first | omega | (simp; omega)) rfl fun a8 c8 hc8 => ?_)
        refine gh_next ?_
        refine Dt 11 rfl As ?_
        refine gh_done (by kernel_rfl) back1 ?_
        refine e_block ?_
        refine e_then ?_
        refine g_region ?_
        refine Li Mv ?_
        refine Li Im ?_
        refine Li As ?_
        refine g_nil ?_
        refine Hh (H' := [own a8 c8 113 2 (nmCs (without (without L cc.fr) cc.to) ++ nmC (cc.to, cc.fi))]) ?_
        rw [← nmCs_snoc, ← hap, ← hst, show (without (without L cc.fr) cc.to).length + 1 = (afterL s.safe (s.chg.take (i + 1))).length from by rw [hst, hap]; simp]
        refine Ro ((i + 1, a8, c8)) ((by dsimp only; omega)) ((by dsimp only; omega))
      · refine Do rfl (oT1 T.ap_67 fun b4 => ?_)
        refine gh_next ?_
        refine Dn 3 ?_
        refine Do rfl (oC T.fn_63 rfl rfl (without_fn a6 (without L cc.fr).length c6 (without L cc.fr) cc.to rfl (by omega)) .nil (fun _ le _ => rg.mono le) ?_)
        rintro v H' ⟨a7, c7, rfl, rfl⟩
        try simp only [nap, cap]
        refine gh_next ?_
        refine g_heap (fun _ s => starL_swap s) ?_
        refine Dn 10 ?_
        refine Do rfl (op_append_lit T.ap_67 T.ni_67 rfl rfl rfl rfl .here (nmCs_len _) (rfl) (by simp [setL, Value.cells, Value.oneCell', strv]) (by first | omega | (simp; omega)) (by first | omega | (simp; omega)) rfl fun a8 c8 hc8 => ?_)
        refine gh_next ?_
        refine Dt 11 rfl As ?_
        refine gh_done (by kernel_rfl) back1 ?_
        refine e_block ?_
        refine e_then ?_
        refine g_region ?_
        refine Li Mv ?_
        refine Li Im ?_
        refine Li As ?_
        refine g_nil ?_
        refine Hh (H' := [own a8 c8 113 2 (nmCs (without (without L cc.fr) cc.to) ++ nmC (cc.to, cc.fi))]) ?_
        rw [← nmCs_snoc, ← hap, ← hst, show (without (without L cc.fr) cc.to).length + 1 = (afterL s.safe (s.chg.take (i + 1))).length from by rw [hst, hap]; simp]
        refine Ro ((i + 1, a8, c8)) ((by dsimp only; omega)) ((by dsimp only; omega))
    · intro hto
      replace hto := nrm hto
      have hto2 : cc.to = [] := hto
      have hap : app1 L cc = without L cc.fr := by unfold app1; rw [if_pos hto2]
      rw [hap] at hst
      rw [← hst]
      refine g_skip ?_
      refine e_block ?_
      refine e_then ?_
      refine g_region ?_
      refine Li Mv ?_
      refine Li Im ?_
      refine Li As ?_
      refine g_nil ?_
      refine Ro ((i + 1, a6, c6)) ((by dsimp only; omega)) ((by dsimp only; omega))
  · intro hlt
    replace hlt := nrm hlt
    obtain rfl : i = N := by omega
    refine g_exit ?_
    refine e_then_exit ?_
    refine e_then_exit ?_
    refine e_block_hit ?_
    refine e_then ?_
    refine g_sr ?_
    refine Li Mv ?_
    refine Li As ?_
    refine g_ne ?_
    refine g_ret ?_
    refine Rt [own a' c' 113 2 (nmCs (afterL s.safe (s.chg.take i)))] Try.results43 ?_
    exact ⟨a', c', rfl, rfl⟩
theorem names_fn (b : Nat) (s : Ds) (y : RLay) (hS : Inv s) (hn : s.acts ≤ 10000) (hy : RLayOk s y) :
    FnS Try.prog 61 [.pointer (some ⟨b, 0, none⟩)] (InL (rkL b s y)) [] (fun v H => ∃ a c, v = .slice a (namesL s).length c ∧ H = [own a c 113 2 (nmCs (namesL s))]) := by
  have hall : afterL s.safe (s.chg.take ((s.chg.length : Int)).toNat) = namesL s := by rw [Int.toNat_natCast, List.take_length]; rfl
  refine fn_body Try.func61 rfl Try.ntmps61 rfl ?_
  rintro F hF
  have h0 := hF.1
  unfold rkC at h0
  refine g_sr ?_
  refine Li As ?_
  refine g_ne ?_
  refine g_sr ?_
  refine Li Mv ?_
  refine Li Mv ?_
  refine Li Nc ?_
  refine Li (Fa T.fld_70_3) ?_
  refine Lp (oL T.sc_68 ?_)
  refine Li (Ln T.sl_68) ?_
  refine Lp (oC T.fn_43 rfl rfl (after_fn b s y hS hn hy (s.chg.length : Int)) .nil (fun _ le _ => inl_mono hF le) ?_)
  rintro v H' ⟨a, c, rfl, rfl⟩
  try simp only [nap, cap]
  rw [hall]
  refine Li As ?_
  refine g_ne ?_
  refine g_ret ?_
  refine Rt [own a c 113 2 (nmCs (namesL s))] Try.results61 ?_
  exact ⟨a, c, rfl, rfl⟩
theorem atM_hit {l : List (Nm × Nat)} {n : Nm} {i : Nat} {p : Nm × Nat} (h : l[i]? = some p) (hp : p.1 = n) (hn : ∀ j q, j < i → l[j]? = some q → q.1 ≠ n) : atM l n = some p.2 := by
  have : l.find? (fun p => decide (p.1 = n)) = some p := by
    rw [List.find?_eq_some_iff_getElem]
    obtain ⟨hi, e⟩ := List.getElem?_eq_some_iff.1 h
    refine ⟨by simpa using hp, i, hi, e, fun j hj => ?_⟩
    have := hn j _ hj (List.getElem?_eq_getElem (by omega))
    simpa using this
  unfold atM
  rw [this]; rfl
theorem atM_no {l : List (Nm × Nat)} {n : Nm} (hn : ∀ j q, j < l.length → l[j]? = some q → q.1 ≠ n) : atM l n = none := by
  have : l.find? (fun p => decide (p.1 = n)) = none := by
    rw [List.find?_eq_none]
    intro f hf
    obtain ⟨j, hj⟩ := List.getElem?_of_mem hf
    have := hn j f (List.getElem?_eq_some_iff.1 hj).1 hj
    simpa using this
  unfold atM
  rw [this]; rfl
theorem at_fn (b : Nat) (s : Ds) (y : RLay) (hS : Inv s) (hn : s.acts ≤ 10000) (hy : RLayOk s y) (name : Nm) :
    FnS Try.prog 60 [.pointer (some ⟨b, 0, none⟩), strv name] (InL (rkL b s y)) [] (fun v H => v = .int .i64 (atI (namesL s) name) ∧ H = []) := by
  have hnl := hS.names.len
  refine fn_body Try.func60 rfl Try.ntmps60 rfl ?_
  rintro F hF
  refine g_sr ?_
  refine Li As ?_
  refine g_ne ?_
  refine g_sr ?_
  refine Li Mv ?_
  refine Lp (oC T.fn_61 rfl rfl (names_fn b s y hS hn hy) .nil (fun _ le _ => inl_mono hF le) ?_)
  rintro v H' ⟨a, c, rfl, rfl⟩
  try simp only [nap, cap]
  generalize hL : namesL s = L at *
  refine Li As ?_
  refine g_ne ?_
  refine g_seq ?_
  refine g_sr ?_
  refine Li As ?_
  refine g_ne ?_
  refine g_block ?_
  refine Lo (ι := Nat) [9, 10, 11, 12, 15, 16, 17, 18, 19, 20, 21, 22, 23, 24, 25, 26, 4, 13, 14, 6] (fun i => i ≤ L.length ∧ ∀ j q, j < i → L[j]? = some q → q.1 ≠ name) (fun i => [(6, .int .i64 (i : Int))]) (fun i => [own a c 113 2 (nmCs L)]) (fun i => L.length - i) (0) ⟨Nat.zero_le _, fun j g hj => absurd hj (Nat.not_lt_zero j)⟩ ?_
  rintro i ⟨hi, hall⟩
  refine g_seq ?_
  refine g_sr ?_
  refine Li Mv ?_
  refine Li Mv ?_
  refine Li (Ln T.sl_67) ?_
  refine Li Cm ?_
  refine g_ne ?_
  refine g_cond rfl ?_ ?_
  · intro hlt
    replace hlt := nrm hlt
    have hlt' : i < L.length := by omega
    have e1 : L[i]? = some L[i] := List.getElem?_eq_getElem hlt'
    generalize L[i] = p at e1
    have k0 : (nmCs L)[i * 2 + 0]? = some (strv p.1) := rows_cell nmC_len e1 rfl
    have k1 : (nmCs L)[i * 2 + 1]? = some (.int .i64 (p.2 : Int)) := rows_cell nmC_len e1 rfl
    refine g_fact (sel_fact .here fun k o => own_none o (by rw [nmCs_len]; omega)) fun sa => ?_
    refine g_skip ?_
    refine e_then ?_
    refine g_seq ?_
    refine g_block ?_
    refine g_sr ?_
    refine Li Mv ?_
    refine Li Mv ?_
    refine Li (Ix T.sl_67) ?_
    refine Li (Fam T.fld_113_0) ?_
    refine Lp (oL T.sc_9 ?_)
    refine Li Mv ?_
    refine Li Sq ?_
    refine g_ne ?_
    refine g_cond rfl ?_ ?_
    · intro hq
      replace hq := nrm hq
      refine g_sr ?_
      refine Li Mv ?_
      refine Li Mv ?_
      refine Li (Ix T.sl_67) ?_
      refine Li (Fam T.fld_113_1) ?_
      refine Lp (oL T.sc_3 ?_)
      refine Li As ?_
      refine g_ne ?_
      refine g_ret ?_
      refine e_block_ret ?_
      refine e_then_ret ?_
      refine e_then_ret ?_
      refine e_block_ret ?_
      refine e_then_ret ?_
      refine Rt [] Try.results60 ?_
      refine ⟨?_, rfl⟩
      unfold atI
      rw [atM_hit e1 hq hall]
    · intro hq
      replace hq := nrm hq
      refine g_skip ?_
      refine e_block ?_
      refine e_then ?_
      refine g_region ?_
      refine Li Mv ?_
      refine Li Im ?_
      refine Li As ?_
      refine g_nil ?_
      refine Ro (i + 1) (⟨by omega, fun j g hj hg => ?_⟩) (by omega)
      by_cases hji : j = i
      · subst hji; rw [e1] at hg; cases hg; exact hq
      · exact hall j g (by omega) hg
  · intro hlt
    replace hlt := nrm hlt
    refine g_exit ?_
    refine e_then_exit ?_
    refine e_then_exit ?_
    refine e_block_hit ?_
    refine e_then ?_
    refine g_sr ?_
    refine Li As ?_
    refine g_ne ?_
    refine g_ret ?_
    refine Rt [] Try.results60 ?_
    refine ⟨?_, rfl⟩
    unfold atI
    rw [atM_no fun j g hj hg => hall j g (by omega) hg]
end Go.Proofs.Ytncmmhfgcgnojaa

