/- The document's disk: Names; two lists of texts. -/
import Derived.Test.YtncmmhfgcgnojaaR8
set_option maxRecDepth 100000
namespace Go.Proofs.Ytncmmhfgcgnojaa
open Go Go.Eng

theorem Sgt {P : Program} {n : Nat} {ds : List Deferred} {F : Frm} {σ : Slots} {o : Oper} {t yt : TypeId} {x y : Operand} {i j : List UInt8} (ho : o.op = .binOp .gtr t x y yt := by exact rfl) (hx : evo σ x = some (strv i) := by exact rfl) (hy : evo σ y = some (strv j) := by exact rfl) : Yv P n ds F σ o (.bool (decide (j < i))) := by
  intro a w e _
  unfold strv at hx hy
  have h1 : ∀ l : List UInt8, (ByteArray.mk l.toArray).toList = l := fun l => by rw [ByteArray.toList_eq]
  have h2 : (!(Op.bytesLess i j || i == j)) = decide (j < i) := by
    rw [Go.Proofs.bytesLess_eq, Bool.eq_iff_iff]
    simp only [Bool.not_eq_true', Bool.or_eq_false_iff, decide_eq_false_iff_not, beq_eq_false_iff_ne, ne_eq, decide_eq_true_eq]
    constructor
    · rintro ⟨h3, h4⟩
      have h5 : j ≤ i := List.not_lt.1 h3
      exact Std.lt_of_le_of_ne h5 (fun e => h4 e.symm)
    · intro h3
      exact ⟨fun h4 => absurd (List.lt_trans h3 h4) (List.lt_irrefl _), fun h4 => by subst h4; exact absurd h3 (List.lt_irrefl _)⟩
  simp [execOp, ho, e.eval hx, e.eval hy, eqGuard, binOp, Op.stringOp, h1, ← h2]
theorem sortL_eq {q l : List Nm} (p : q.Perm l) (hs : q.Pairwise (fun x y => x ≤ y)) : q = sortL l := by
  rw [← sortL_perm p]
  refine List.Perm.eq_of_pairwise (le := fun x y => decide (x ≤ y) = true) ?_ (hs.imp fun h => by simpa using h) (List.pairwise_mergeSort ?_ ?_ q) (List.mergeSort_perm q _).symm
  · intro a b _ _ h1 h2
    exact Std.le_antisymm (by simpa using h1) (by simpa using h2)
  all_goals first
    | (intro a b c h1 h2; simp only [decide_eq_true_eq] at h1 h2 ⊢; exact Std.le_trans h1 h2)
    | (intro a b; simp only [Bool.or_eq_true, decide_eq_true_eq]; exact Std.le_total)
theorem insert_sorted {q : List Nm} {x : Nm} {k : Nat} (hs : q.Pairwise (fun x y => x ≤ y)) (hk : k ≤ q.length) (h1 : ∀ z ∈ q.drop k, x ≤ z) (h2 : ∀ z, 0 < k → q[k - 1]? = some z → z ≤ x) : (q.take k ++ x :: q.drop k).Pairwise (fun x y => x ≤ y) := by
  have hq := hs
  rw [← List.take_append_drop k q, List.pairwise_append] at hq
  obtain ⟨a1, a2, a3⟩ := hq
  have a4 : ∀ z ∈ q.take k, z ≤ x := by
    intro z hz
    obtain ⟨j, hj⟩ := List.getElem?_of_mem hz
    rw [List.getElem?_take] at hj
    split at hj
    · rename_i hjk
      have hk1 : k - 1 < q.length := by omega
      have e1 := h2 (q[k - 1]) (by omega) (List.getElem?_eq_getElem hk1)
      obtain ⟨hjl, e2⟩ := List.getElem?_eq_some_iff.1 hj
      by_cases hjk2 : j = k - 1
      · subst hjk2; rw [← e2]; exact e1
      · have := List.pairwise_iff_getElem.1 hs j (k - 1) hjl hk1 (by omega)
        rw [← e2]; exact Std.le_trans this e1
    · cases hj
  rw [List.pairwise_append]
  refine ⟨a1, List.pairwise_cons.2 ⟨h1, a2⟩, ?_⟩
  intro y hy z hz
  rcases List.mem_cons.1 hz with rfl | hz
  · exact a4 y hy
  · exact a3 y hy z hz
theorem swap_step {q : List Nm} {x : Nm} {k : Nat} {z : Nm} (hz : q[k]? = some z) : ((q.take (k + 1) ++ x :: q.drop (k + 1)).set (k + 1) z).set k x = q.take k ++ x :: q.drop k := by
  obtain ⟨hk, e⟩ := List.getElem?_eq_some_iff.1 hz
  have h1 : (q.take (k + 1)).length = k + 1 := by rw [List.length_take]; omega
  have h2 : (q.take k).length = k := by rw [List.length_take]; omega
  rw [List.set_append_right _ _ (by omega), h1, Nat.sub_self, List.set_cons_zero]
  rw [List.take_add_one, hz, Option.toList_some, List.append_assoc, List.set_append_right _ _ (by omega), h2, Nat.sub_self]
  rw [List.singleton_append, List.set_cons_zero, List.drop_eq_getElem_cons hk, e]
theorem texts_fn (a a' : Option Addr) (n n' c c' : Nat) (l : List Nm) (hn : n = l.length) (hn' : n' = l.length) (hl : l.length ≤ 100000) :
    FnS Try.prog 34 [.slice a n c, .slice a' n' c'] (fun h => Rdl h a (l.map strv) ∧ Rdl h a' (l.map strv)) [] (fun v H => v = .bool true ∧ H = []) := by
  subst hn hn'
  refine fn_body Try.func34 rfl Try.ntmps34 rfl ?_
  rintro F ⟨h1, h2⟩
  refine g_sr ?_
  refine Li As ?_
  refine g_ne ?_
  refine g_seq ?_
  refine g_sr ?_
  refine Li Mv ?_
  refine Li (Ln T.sl_57) ?_
  refine Li Mv ?_
  refine Li (Ln T.sl_57) ?_
  refine Li Cm ?_
  refine g_ne ?_
  refine g_cond_f rfl (by (simp)) ?_
  refine g_skip ?_
  refine e_then ?_
  refine g_seq ?_
  refine g_sr ?_
  refine Li As ?_
  refine g_ne ?_
  refine g_block ?_
  refine Lo (ι := Nat) [11, 12, 13, 14, 17, 18, 19, 20, 21, 22, 23, 24, 25, 4, 15, 16, 5] (fun i => i ≤ l.length) (fun i => [(5, .int .i64 (i : Int))]) (fun i => []) (fun i => l.length - i) (0) (Nat.zero_le _) ?_
  rintro i hi
  refine g_seq ?_
  refine g_sr ?_
  refine Li Mv ?_
  refine Li Mv ?_
  refine Li (Ln T.sl_57) ?_
  refine Li Cm ?_
  refine g_ne ?_
  refine g_cond rfl ?_ ?_
  · intro hlt
    replace hlt := nrm hlt
    have hlt' : i < l.length := by omega
    have e1 : (l.map strv)[i]? = some (strv l[i]) := by rw [List.getElem?_map, List.getElem?_eq_getElem hlt']; rfl
    have sa : a.isSome = true := h1.some (by rw [List.length_map]; omega)
    have sb : a'.isSome = true := h2.some (by rw [List.length_map]; omega)
    refine g_skip ?_
    refine e_then ?_
    refine g_seq ?_
    refine g_block ?_
    refine g_seq ?_
    refine gT false T.mix ?_
    refine Ti Mv ?_
    refine Ti Mv ?_
    refine Ti (Ix T.sl_57) ?_
    refine Tp (oL T.sc_9 ?_)
    refine Ti Mv ?_
    refine Ti Mv ?_
    refine Ti (Ix T.sl_57) ?_
    refine Tp (oL T.sc_9 ?_)
    refine Ti Sq ?_
    refine Tne ?_
    refine g_cond_f rfl (by (simp)) ?_
    refine g_skip ?_
    refine e_block ?_
    refine e_then ?_
    refine g_region ?_
    refine Li Mv ?_
    refine Li Im ?_
    refine Li As ?_
    refine g_nil ?_
    refine Ro (i + 1) ((by omega)) ((by omega))
  · intro hlt
    replace hlt := nrm hlt
    refine g_exit ?_
    refine e_then_exit ?_
    refine e_then_exit ?_
    refine e_block_hit ?_
    refine e_then ?_
    refine g_sr ?_
    refine Li As ?_
    refine g_ne ?_
    refine g_ret ?_
    refine Rt [] Try.results34 ?_
    exact ⟨rfl, rfl⟩
set_option maxHeartbeats 1000000 in
theorem rnames_fn (b : Nat) (s : Ds) (y : RLay) (hS : Inv s) (hn : s.acts ≤ 10000) (hy : RLayOk s y) :
    FnS Try.prog 35 [.pointer (some ⟨b, 0, none⟩)] (InL (rkL b s y)) [] (fun v H => ∃ a c, v = .slice a (namesOut s).length c ∧ H = [own a c 9 1 ((namesOut s).map strv)]) := by
  have hnl := hS.names.len
  unfold namesOut keysL
  refine fn_body Try.func35 rfl Try.ntmps35 rfl ?_
  rintro F hF
  have h0 := hF.1
  unfold rkC at h0
  refine g_sr ?_
  refine Li As ?_
  refine g_ne ?_
  refine g_sr ?_
  refine Li As ?_
  refine g_ne ?_
  refine g_seq ?_
  refine g_sr ?_
  refine Li Mv ?_
  refine Li Nc ?_
  refine Li (Fa T.fld_70_6) ?_
  refine Lp (oL T.sc_4 ?_)
  refine g_ne ?_
  refine g_cond rfl ?_ ?_
  · intro hd
    replace hd := nrm hd
    rw [if_pos hd]
    refine g_sr ?_
    refine Li Mv ?_
    refine Li As ?_
    refine g_ne ?_
    refine g_ret ?_
    refine e_then_ret ?_
    refine g_nilrow 9 1 ?_
    refine Rt [own none 0 9 1 []] Try.results35 ?_
    exact ⟨none, 0, rfl, rfl⟩
  · intro hd
    replace hd := nrm hd
    rw [if_neg (by rw [hd]; simp)]
    refine g_skip ?_
    refine e_then ?_
    refine g_sr ?_
    refine Li Mv ?_
    refine Lp (oC T.fn_61 rfl rfl (names_fn b s y hS hn hy) .nil (fun _ le _ => inl_mono hF le) ?_)
    rintro v H' ⟨a, c, rfl, rfl⟩
    try simp only [nap, cap]
    generalize hL : namesL s = L at *
    refine Li As ?_
    refine g_ne ?_
    refine g_seq ?_
    refine g_sr ?_
    refine Li As ?_
    refine g_ne ?_
    refine g_block ?_
    refine g_nilrow 9 1 ?_
    refine Lo (ι := Nat × Option Addr × Nat × List Nm) [15, 16, 17, 18, 21, 22, 6, 23, 24, 25, 26, 27, 28, 29, 30, 3, 31, 32, 33, 34, 35, 36, 37, 38, 39, 40, 41, 42, 43, 44, 45, 46, 47, 48, 7, 49, 50, 51, 52, 53, 54, 55, 56, 57, 58, 59, 60, 61, 62, 63, 19, 20, 5] (fun (i, a', c', q) => i ≤ L.length ∧ q.Perm ((L.take i).map (·.1)) ∧ q.Pairwise (fun x y => x ≤ y)) (fun (i, a', c', q) => [(3, .slice a' q.length c'), (5, .int .i64 (i : Int))]) (fun (i, a', c', q) => [own a' c' 9 1 (q.map strv), own a c 113 2 (nmCs L)]) (fun (i, a', c', q) => L.length - i) ((0, none, 0, [])) ⟨Nat.zero_le _, List.Perm.refl _, List.Pairwise.nil⟩ ?_
    rintro ⟨i, a', c', q⟩ ⟨hi, hqp, hqs⟩
    try dsimp only at hI ⊢
    dsimp only at hi hqp hqs ⊢
    have hql : q.length = i := by have := hqp.length_eq; rw [List.length_map, List.length_take] at this; omega
    refine g_seq ?_
    refine g_sr ?_
    refine Li Mv ?_
    refine Li Mv ?_
    refine Li (Ln T.sl_67) ?_
    refine Li Cm ?_
    refine g_ne ?_
    refine g_cond rfl ?_ ?_
    · intro hlt
      replace hlt := nrm hlt
      have hlt' : i < L.length := by omega
      have e1 : L[i]? = some L[i] := List.getElem?_eq_getElem hlt'
      generalize L[i] = p at e1
      have k0 : (nmCs L)[i * 2 + 0]? = some (strv p.1) := rows_cell nmC_len e1 rfl
      refine g_fact (sel_fact (.there .here) fun k o => own_none o (by rw [nmCs_len]; omega)) fun sa => ?_
      generalize hx : p.1 = x at *
      refine g_skip ?_
      refine e_then ?_
      refine g_seq ?_
      refine g_mid (ι := Option Addr × Nat × List Nm) [21, 22, 6, 23, 24, 25, 26, 27, 28, 29, 30, 3, 31, 32, 33, 34, 35, 36, 37, 38, 39, 40, 41, 42, 43, 44, 45, 46, 47, 48, 7, 49, 50, 51, 52, 53, 54, 55, 56, 57, 58, 59, 60, 61, 62, 63] (fun (a5, c5, q') => q'.Perm (q ++ [x]) ∧ q'.Pairwise (fun x y => x ≤ y)) (fun (a5, c5, q') => [(3, .slice a5 q'.length c5)]) (fun (a5, c5, q') => [own a5 c5 9 1 (q'.map strv), own a c 113 2 (nmCs L)]) ?_ ?_
      · refine g_block ?_
        refine g_sr ?_
        refine Li Mv ?_
        refine Li (Ln T.sl_57) ?_
        refine Li As ?_
        refine g_ne ?_
        refine g_sr ?_
        refine Li Mv ?_
        refine Li Mv ?_
        refine Li Mv ?_
        refine Li (Ix T.sl_67) ?_
        refine Li (Fam T.fld_113_0) ?_
        refine Lp (oL T.sc_9 ?_)
        refine Lp (oT T.ap_57 fun b1 => ?_)
        refine Lp (op_append_lit T.ap_57 T.ni_57 rfl rfl rfl rfl .here (by simp) (rfl) (by simp [Value.oneCell', strv]) (by first | omega | (simp; omega)) (by first | omega | (simp; omega)) rfl fun a5 c5 hc5 => ?_)
        refine Li As ?_
        refine g_ne ?_
        have e2 : q.map strv ++ [strv x] = (q ++ [x]).map strv := by simp
        refine Hh (H' := [own a5 c5 9 1 (q.map strv ++ [strv x]), own a c 113 2 (nmCs L)]) ?_
        rw [e2, show q.length + 1 = (q ++ [x]).length from by simp]
        have e3 : (q ++ [x]).map strv = (q.take q.length ++ x :: q.drop q.length).map strv := by simp
        rw [e3]
        refine g_block ?_
        refine Lo (ι := Nat) [31, 32, 33, 34, 35, 36, 37, 38, 39, 40, 41, 42, 43, 44, 45, 46, 47, 48, 7, 49, 50, 51, 52, 53, 54, 55, 56, 57, 58, 59, 60, 61, 62, 63, 6] (fun k => k ≤ q.length ∧ ∀ z ∈ q.drop k, x ≤ z) (fun k => [(6, .int .i64 (k : Int))]) (fun k => [own a5 c5 9 1 ((q.take k ++ x :: q.drop k).map strv), own a c 113 2 (nmCs L)]) (fun k => k) (q.length) ⟨Nat.le_refl _, by simp⟩ ?_
        rintro k ⟨hk, hkz⟩
        have hlk : (q.take k ++ x :: q.drop k).length = q.length + 1 := by simp; omega
        have hlk2 : (q.take k ++ x :: q.drop k).length = (q ++ [x]).length := by rw [hlk]; simp
        have hpk : (q.take k ++ x :: q.drop k).Perm (q ++ [x]) := by
          refine List.perm_middle.trans ?_
          rw [List.take_append_drop]
          exact (List.perm_append_singleton _ _).symm
        rcases k with _ | k
        · refine g_seq ?_
          refine g_seq ?_
          refine gT false T.mix ?_
          refine Ti Mv ?_
          refine Ti Cm ?_
          refine Ti Mv ?_
          refine g_slot (t := 33) (v' := .bool false) rfl (congrArg Value.bool (by (simp))) ?_
          refine Tx ?_
          refine Tx ?_
          refine Tx ?_
          refine Tx ?_
          refine Tx ?_
          refine Tx ?_
          refine Tx ?_
          refine Tx ?_
          refine Tx ?_
          refine Tx ?_
          refine Ti Pf ?_
          refine Tne ?_
          refine g_cond_f rfl rfl ?_
          refine g_exit ?_
          refine e_then_exit ?_
          refine e_then_exit ?_
          refine e_block_hit ?_
          refine e_block ?_
          rw [← hlk2]
          refine Me ((a5, c5, q.take 0 ++ x :: q.drop 0)) (⟨hpk, insert_sorted hqs hk hkz (fun z h => absurd h (by omega))⟩)
        · have hkl : k < q.length := by omega
          have hz : q[k]? = some q[k] := List.getElem?_eq_getElem hkl
          generalize q[k] = z at hz
          have hM1 : (q.take (k + 1) ++ x :: q.drop (k + 1))[k]? = some z := by rw [List.getElem?_append_left (by rw [List.length_take]; omega), List.getElem?_take, if_pos (by omega)]; exact hz
          have hM2 : (q.take (k + 1) ++ x :: q.drop (k + 1))[k + 1]? = some x := by rw [List.getElem?_append_right (by rw [List.length_take]; omega), List.length_take, show k + 1 - min (k + 1) q.length = 0 from by omega]; rfl
          have hsw := swap_step (x := x) hz
          have hlx : (q ++ [x]).length = q.length + 1 := by simp
          generalize hM : q.take (k + 1) ++ x :: q.drop (k + 1) = M at *
          have c1 : (M.map strv)[k]? = some (strv z) := by rw [List.getElem?_map, hM1]; rfl
          have c2 : (M.map strv)[k + 1]? = some (strv x) := by rw [List.getElem?_map, hM2]; rfl
          have hMl : (M.map strv).length = q.length + 1 := by rw [List.length_map, hlk]
          refine g_fact (sel_fact .here fun k o => own_none o (by omega)) fun sa5 => ?_
          refine g_seq ?_
          refine g_seq ?_
          refine gT false T.mix ?_
          refine Ti Mv ?_
          refine Ti Cm ?_
          refine Ti Mv ?_
          refine g_slot (t := 33) (v' := .bool true) rfl (congrArg Value.bool (by (first | (simp; done) | (simp; omega)))) ?_
          refine Ti Mv ?_
          refine Ti Mv ?_
          refine Ti Im ?_
          refine Ti (Ix T.sl_57 (j := k) (hj := by omega)) ?_
          refine Tp (oL T.sc_9 ?_)
          refine Ti Mv ?_
          refine Ti Mv ?_
          refine Ti (Ix T.sl_57) ?_
          refine Tp (oL T.sc_9 ?_)
          refine Ti (Sgt) ?_
          refine Ti Pt ?_
          refine Tne ?_
          refine g_cond rfl ?_ ?_
          · intro hgt
            replace hgt := nrm hgt
            refine g_skip ?_
            refine e_then ?_
            refine g_block ?_
            refine g_sr ?_
            refine Li Mv ?_
            refine Li Mv ?_
            refine Li (Ix T.sl_57) ?_
            refine Lp (oL T.sc_9 ?_)
            refine Li As ?_
            refine g_ne ?_
            refine g_sr ?_
            refine Li Mv ?_
            refine Li Mv ?_
            refine Li Mv ?_
            refine Li Mv ?_
            refine Li Im ?_
            refine Li (Ix T.sl_57 (j := k) (hj := by omega)) ?_
            refine Lp (oL T.sc_9 ?_)
            refine Li (Ix T.sl_57) ?_
            refine Lp (oSO T.sc_9 ?_)
            refine g_ne ?_
            refine g_sr ?_
            refine Li Mv ?_
            refine Li Mv ?_
            refine Li Im ?_
            refine Li Mv ?_
            refine Li (Ix T.sl_57 (j := k) (hj := by omega)) ?_
            refine Lp (oSO T.sc_9 ?_)
            refine g_ne ?_
            refine g_region ?_
            refine Li Mv ?_
            refine Li Im ?_
            refine Li As ?_
            refine g_nil ?_
            refine e_block ?_
            have hsw2 : ((M.map strv).set (k + 1) (strv z)).set k (strv x) = (q.take k ++ x :: q.drop k).map strv := by rw [← hsw, List.map_set, List.map_set]
            rw [hsw2]
            have hzx : x ≤ z := Std.le_of_lt hgt
            refine g_slot (t := 6) (v' := .int .i64 (k : Int)) rfl (by refine congrArg (Value.int .i64) ?_; omega) ?_
            refine Ro (k) (⟨by omega, fun w hw => ?_⟩) ((by omega))
            rw [List.drop_eq_getElem_cons hkl] at hw
            rcases List.mem_cons.1 hw with rfl | hw
            · rw [(List.getElem?_eq_some_iff.1 hz).2]; exact hzx
            · exact hkz w hw
          · intro hgt
            replace hgt := nrm hgt
            refine g_exit ?_
            refine e_then_exit ?_
            refine e_then_exit ?_
            refine e_block_hit ?_
            refine e_block ?_
            rw [← hlk2]
            refine Me ((a5, c5, M)) (⟨hpk, hM ▸ insert_sorted hqs hk hkz (fun w _ hw => ?_)⟩)
            rw [Nat.add_sub_cancel, hz] at hw
            cases hw
            exact List.not_lt.1 hgt
      rintro ⟨a5, c5, q'⟩ hI
      try dsimp only at hI ⊢
      obtain ⟨hq'p, hq's⟩ := hI
      have htk : (L.take (i + 1)).map (·.1) = (L.take i).map (·.1) ++ [x] := by rw [List.take_add_one, e1, List.map_append, ← hx]; rfl
      refine g_region ?_
      refine Li Mv ?_
      refine Li Im ?_
      refine Li As ?_
      refine g_nil ?_
      refine Ro ((i + 1, a5, c5, q')) (⟨by dsimp only; omega, by dsimp only; rw [htk]; exact hq'p.trans (hqp.append_right _), hq's⟩) ((by dsimp only; omega))
    · intro hlt
      replace hlt := nrm hlt
      obtain rfl : i = L.length := by omega
      rw [List.take_length] at hqp
      have hqe : q = sortL (L.map (·.1)) := sortL_eq hqp hqs
      subst hqe
      refine g_exit ?_
      refine e_then_exit ?_
      refine e_then_exit ?_
      refine e_block_hit ?_
      refine e_then ?_
      refine g_sr ?_
      refine Li Mv ?_
      refine Li As ?_
      refine g_ne ?_
      refine g_ret ?_
      refine Rt [own a' c' 9 1 ((sortL (L.map (·.1))).map strv)] Try.results35 ?_
      exact ⟨a', c', rfl, rfl⟩
end Go.Proofs.Ytncmmhfgcgnojaa

