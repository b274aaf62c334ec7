/- The disk: what is looked up. -/
import Derived.Test.YtncmmhfgcgnojaaW5
set_option maxRecDepth 100000
namespace Go.Proofs.Ytncmmhfgcgnojaa
open Go Go.Eng

theorem acts_fn (b : Nat) (s : Ds) (y : Lay) : FnS Try.prog 19 [.pointer (some ⟨b, 0, none⟩)] (InL (dkL b s y)) [] (fun v H => v = .int .i64 (s.acts : Int) ∧ H = []) := by
  refine fn_body Try.func19 rfl Try.ntmps19 rfl ?_
  rintro F ⟨h0, _⟩
  unfold dkC at h0
  refine g_sr ?_
  refine Li As ?_
  refine g_ne ?_
  refine g_sr ?_
  refine Li Mv ?_
  refine Li Nc ?_
  refine Li (Fa T.fld_65_1) ?_
  refine Lp (oL T.sc_3 ?_)
  refine Li As ?_
  refine g_ne ?_
  refine g_ret ?_
  refine Rt [] Try.results19 ?_
  exact ⟨rfl, rfl⟩
theorem power_fn (b : Nat) (s : Ds) (y : Lay) : FnS Try.prog 12 [.pointer (some ⟨b, 0, none⟩)] (InL (dkL b s y)) [] (fun v H => v = .bool (!s.dark) ∧ H = []) := by
  refine fn_body Try.func12 rfl Try.ntmps12 rfl ?_
  rintro F ⟨h0, _⟩
  unfold dkC at h0
  refine g_sr ?_
  refine Li As ?_
  refine g_ne ?_
  refine g_sr ?_
  refine Li Mv ?_
  refine Li Nc ?_
  refine Li (Fa T.fld_65_7) ?_
  refine Lp (oL T.sc_4 ?_)
  refine Li Nt ?_
  refine Li As ?_
  refine g_ne ?_
  refine g_ret ?_
  refine Rt [] Try.results12 ?_
  exact ⟨rfl, rfl⟩
theorem planM_hit {l : List Flt} {n i : Nat} {f : Flt} (h : l[i]? = some f) (hf : f.st = (n : Int)) (hn : ∀ j g, j < i → l[j]? = some g → g.st ≠ (n : Int)) : planM l n = f := by
  have : l.find? (fun f => decide (f.st = (n : Int))) = some f := by
    rw [List.find?_eq_some_iff_getElem]
    obtain ⟨hi, e⟩ := List.getElem?_eq_some_iff.1 h
    refine ⟨by simpa using hf, i, hi, e, fun j hj => ?_⟩
    have := hn j _ hj (List.getElem?_eq_getElem (by omega))
    simpa using this
  unfold planM
  rw [this]; rfl
theorem planM_no {l : List Flt} {n : Nat} (hn : ∀ j g, j < l.length → l[j]? = some g → g.st ≠ (n : Int)) : planM l n = ⟨0, 0, 0⟩ := by
  have : l.find? (fun f => decide (f.st = (n : Int))) = none := by
    rw [List.find?_eq_none]
    intro f hf
    obtain ⟨j, hj⟩ := List.getElem?_of_mem hf
    have := hn j f (List.getElem?_eq_some_iff.1 hj).1 hj
    simpa using this
  unfold planM
  rw [this]; rfl
theorem planned_fn (b : Nat) (s : Ds) (y : Lay) (hp : s.plan.length ≤ 1000) : FnS Try.prog 64 [.pointer (some ⟨b, 0, none⟩)] (InL (dkL b s y)) [] (fun v H => v = .agg (ftC (planM s.plan s.acts)).toArray ∧ H = []) := by
  refine fn_body Try.func64 rfl Try.ntmps64 rfl ?_
  rintro F ⟨h0, _, _, _, _, _, h6, _⟩
  unfold dkC at h0
  have r6 := own_in h6
  refine g_sr ?_
  refine Lp (oA T.zc_119 fun b1 => ?_)
  refine g_ne ?_
  refine g_seq ?_
  refine g_sr ?_
  refine Li Mv ?_
  refine Li Nc ?_
  refine Li (Fa T.fld_65_6) ?_
  refine Lp (oL T.sc_39 ?_)
  refine Li (Ln T.sl_39) ?_
  refine Li Mv ?_
  refine g_ne ?_
  refine g_block ?_
  refine Lo (ι := Nat) [11, 12, 13, 4, 14, 15, 16, 17, 18, 19, 20, 21, 22, 10] (fun i => i ≤ s.plan.length ∧ ∀ j g, j < i → s.plan[j]? = some g → g.st ≠ (s.acts : Int)) (fun i => [(10, .int .i64 (i : Int))]) (fun i => [pts b1 119 [.int .i64 0, .int .i64 0, .int .i64 0]]) (fun i => s.plan.length - i) (0) ⟨Nat.zero_le _, fun j g hj => absurd hj (Nat.not_lt_zero j)⟩ ?_
  rintro i ⟨hi, hall⟩
  refine g_sr ?_
  refine Li Cm ?_
  refine g_ne ?_
  refine g_seq ?_
  refine g_cond rfl ?_ ?_
  · intro hlt
    replace hlt := nrm hlt
    have hlt' : i < s.plan.length := by omega
    have e1 : s.plan[i]? = some s.plan[i] := List.getElem?_eq_getElem hlt'
    generalize s.plan[i] = f at e1
    have k1 := rows_at ftC_len e1
    have sa : y.pa.isSome = true := r6.some (by unfold ftCs; rw [rows_len ftC_len]; omega)
    unfold ftC at k1
    change List.take 3 (List.drop (i * 3) (ftCs s.plan)) = _ at k1
    refine g_skip ?_
    refine e_then ?_
    refine g_seq ?_
    refine g_block ?_
    refine g_sr ?_
    refine Li (Ix T.sl_39) ?_
    refine Lp (oLN T.ag_119 ?_)
    refine Lp (oA T.zc_119 fun b2 => ?_)
    refine Lp (oSW T.ag_119 ?_)
    refine g_ne ?_
    refine g_seq ?_
    refine gT false T.mix ?_
    refine Ti (Fa T.fld_119_0) ?_
    refine Tp (oL T.sc_3 ?_)
    refine Ti Mv ?_
    refine Ti Nc ?_
    refine Ti (Fa T.fld_65_1) ?_
    refine Tp (oL T.sc_3 ?_)
    refine Ti Cm ?_
    refine Tne ?_
    refine g_cond rfl ?_ ?_
    · intro hq
      replace hq := nrm hq
      refine g_sr ?_
      refine Lp (oLN T.ag_119 ?_)
      refine Lp (oSW T.ag_119 ?_)
      refine g_ne ?_
      refine g_ret ?_
      refine e_block_ret ?_
      refine e_then_ret ?_
      refine e_then_ret ?_
      refine e_block_ret ?_
      refine e_then_ret ?_
      refine RtC [] T.ag_119 Try.results64 ?_
      refine ⟨?_, rfl⟩
      rw [planM_hit e1 hq hall]
      rfl
    · intro hq
      replace hq := nrm hq
      refine g_skip ?_
      refine e_block ?_
      refine e_then ?_
      refine g_region ?_
      refine Li Im ?_
      refine Li Mv ?_
      refine g_nil ?_
      refine Ro (i + 1) (⟨by omega, fun j g hj hg => ?_⟩) (by omega)
      by_cases hji : j = i
      · subst hji; rw [e1] at hg; cases hg; exact hq
      · exact hall j g (by omega) hg
  · intro hlt
    replace hlt := nrm hlt
    refine g_exit ?_
    refine e_then_exit ?_
    refine e_then_exit ?_
    refine e_block_hit ?_
    refine e_then ?_
    refine g_sr ?_
    refine Li (Bd T.zc_119 T.st_119) ?_
    refine Lp (oSW T.ag_119 ?_)
    refine g_ne ?_
    refine g_ret ?_
    refine RtC [] T.ag_119 Try.results64 ?_
    refine ⟨?_, rfl⟩
    rw [planM_no fun j g hj hg => hall j g (by omega) hg]
    rfl
/-- what 'find' tells -/
inductive Fnd (s : Ds) (y : Lay) (name : Nm) (v : Value) : Prop
  | bad (h : legalM name = false) (hv : v = .tuple #[.pointer none, .int .i64 186])
  | none (h : legalM name = true) (h2 : atM (namesL s) name = none) (hv : v = .tuple #[.pointer none, .int .i64 182])
  | some (h : legalM name = true) (i : Nat) (x : FiL) (h2 : atM (namesL s) name = some i) (h3 : i < s.files.length) (h4 : y.fl[i]? = some x) (h5 : x.f = fileM s i) (hv : v = .tuple #[.pointer (some ⟨x.b, 0, none⟩), .int .i64 0])
theorem find_fn (b : Nat) (s : Ds) (y : Lay) (hI : Inv s) (hy : LayOk s y) (name : Nm) : FnS Try.prog 47 [.pointer (some ⟨b, 0, none⟩), strv name] (InL (dkL b s y)) [] (fun v H => Fnd s y name v ∧ H = []) := by
  have hnm := hI.names
  have hlk : lkq (mes y.es) (strv name) = (atM (namesL s) name).map fun (i : Nat) => Value.int .i64 (i : Int) := by
    rw [mes_lkq (keys_nd hy.es hnm.nd), atM_perm hy.es hnm.nd]
  refine fn_body Try.func47 rfl Try.ntmps47 rfl ?_
  rintro F ⟨h0, h1, _, h3, _, _, _, _⟩
  unfold dkC at h0
  have r1 := own_in h1
  refine g_sr ?_
  refine Li As ?_
  refine Li As ?_
  refine g_ne ?_
  refine g_seq ?_
  refine g_sr ?_
  refine Li Mv ?_
  refine Lp (oC T.fn_57 rfl rfl (named_fn name) .nil (fun _ _ _ => trivial) ?_)
  rintro v H' ⟨rfl, rfl⟩
  try simp only [nap, cap]
  refine Li Nt ?_
  refine g_ne ?_
  refine g_cond rfl ?_ ?_
  · intro hl
    replace hl := nrm hl
    refine g_sr ?_
    refine Li As ?_
    refine Li As ?_
    refine g_ne ?_
    refine g_ret ?_
    refine e_then_ret ?_
    refine Rt2 [] Try.results47 ?_
    exact ⟨.bad hl rfl, rfl⟩
  · intro hl
    replace hl := nrm hl
    refine g_skip ?_
    refine e_then ?_
    refine g_sr ?_
    refine Li Mv ?_
    refine Li Nc ?_
    refine Li (Fa T.fld_65_3) ?_
    refine Lp (oL T.sc_61 ?_)
    refine Li Mv ?_
    refine Lp (oQl2F T.mt_61 h3 ?_)
    rw [hlk]
    rcases hat : atM (namesL s) name with _ | i
    · refine Li Mv ?_
      refine Li Ex ?_
      refine Li Ex ?_
      refine Li As ?_
      refine Li As ?_
      refine g_ne ?_
      refine g_seq ?_
      refine g_sr ?_
      refine Li Mv ?_
      refine Li Nt ?_
      refine g_ne ?_
      refine g_cond_t rfl (by rfl) ?_
      refine g_sr ?_
      refine Li As ?_
      refine Li As ?_
      refine g_ne ?_
      refine g_ret ?_
      refine e_then_ret ?_
      refine Rt2 [] Try.results47 ?_
      exact ⟨.none hl hat rfl, rfl⟩
    · have hi : i < s.files.length := (hnm.sk _ (atM_mem hat)).2
      obtain ⟨x, hx, hxf⟩ := lay_at hy hi
      have hfi : (y.fl.map fiP)[i]? = some (fiP x) := by rw [List.getElem?_map, hx]; rfl
      have sa : y.fa.isSome = true := r1.some (by rw [List.length_map, lay_len hy]; omega)
      refine Li Mv ?_
      refine Li Ex ?_
      refine Li Ex ?_
      refine Li As ?_
      refine Li As ?_
      refine g_ne ?_
      refine g_seq ?_
      refine g_sr ?_
      refine Li Mv ?_
      refine Li Nt ?_
      refine g_ne ?_
      refine g_cond_f rfl (by rfl) ?_
      refine g_skip ?_
      refine e_then ?_
      refine g_sr ?_
      refine Li Mv ?_
      refine Li Nc ?_
      refine Li (Fa T.fld_65_2) ?_
      refine Lp (oL T.sc_62 ?_)
      refine Li Mv ?_
      refine Li (Ix T.sl_62) ?_
      refine Lp (oL T.sc_87 ?_)
      refine Li As ?_
      refine Li As ?_
      refine g_ne ?_
      refine g_ret ?_
      refine Rt2 [] Try.results47 ?_
      exact ⟨.some hl i x hat hi hx hxf rfl, rfl⟩
end Go.Proofs.Ytncmmhfgcgnojaa

