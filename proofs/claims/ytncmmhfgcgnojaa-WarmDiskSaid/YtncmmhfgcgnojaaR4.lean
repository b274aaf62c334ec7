/- The document's disk: room, Loose, Read, a new one, a plan. -/
import Derived.Test.YtncmmhfgcgnojaaR3
set_option maxRecDepth 100000
namespace Go.Proofs.Ytncmmhfgcgnojaa
open Go Go.Eng

theorem used_take (s : Ds) {l : List (Nm × Nat)} {i : Nat} {p : Nm × Nat} (h : l[i]? = some p) : usedM s (l.take (i + 1)) = usedM s (l.take i) + (fileM s p.2).bs.length := by
  rw [List.take_add_one, h, used_append]
  show usedM s (l.take i) + usedM s [p] = _
  unfold usedM; simp
theorem room_fn (b : Nat) (s : Ds) (y : RLay) (hS : Inv s) (hn : s.acts ≤ 10000) (hy : RLayOk s y) :
    FnS Try.prog 74 [.pointer (some ⟨b, 0, none⟩)] (InL (rkL b s y)) [] (fun v H => v = .int .i64 (roomM s : Int) ∧ H = []) := by
  have hnm := hS.names
  have hub := used_bound hS hn hnm
  have hfb := hS.fb
  have hspace := hS.space
  have hnl := hnm.len
  refine fn_body Try.func74 rfl Try.ntmps74 rfl ?_
  rintro F hF
  have h0 := hF.1
  have r1 := own_in hF.2.1
  unfold rkC at h0
  refine g_sr ?_
  refine Li As ?_
  refine g_ne ?_
  refine g_sr ?_
  refine Li Mv ?_
  refine Li Nc ?_
  refine Li (Fa T.fld_70_0) ?_
  refine Lp (oL T.sc_3 ?_)
  refine Li As ?_
  refine g_ne ?_
  refine g_sr ?_
  refine Li Mv ?_
  refine Lp (oC T.fn_61 rfl rfl (names_fn b s y hS hn hy) .nil (fun _ le _ => inl_mono hF le) ?_)
  rintro v H' ⟨a, c, rfl, rfl⟩
  try simp only [nap, cap]
  have hr : roomM s = s.space - usedM s (namesL s) := rfl
  have hsk := hnm.sk
  generalize hL : namesL s = L at *
  refine Li As ?_
  refine g_ne ?_
  refine g_seq ?_
  refine g_sr ?_
  refine Li As ?_
  refine g_ne ?_
  refine g_block ?_
  refine Lo (ι := Nat) [12, 13, 14, 15, 18, 19, 20, 21, 22, 23, 24, 25, 26, 27, 28, 29, 30, 31, 32, 3, 16, 17, 5] (fun i => i ≤ L.length ∧ usedM s (L.take i) ≤ 20971520000 * i) (fun i => [(3, .int .i64 ((s.space : Int) - (usedM s (L.take i) : Int))), (5, .int .i64 (i : Int))]) (fun i => [own a c 113 2 (nmCs L)]) (fun i => L.length - i) (0) ⟨Nat.zero_le _, Nat.le_refl _⟩ ?_
  rintro i ⟨hi, hul⟩
  refine g_seq ?_
  refine g_sr ?_
  refine Li Mv ?_
  refine Li Mv ?_
  refine Li (Ln T.sl_67) ?_
  refine Li Cm ?_
  refine g_ne ?_
  refine g_cond rfl ?_ ?_
  · intro hlt
    replace hlt := nrm hlt
    have hlt' : i < L.length := by omega
    have e1 : L[i]? = some L[i] := List.getElem?_eq_getElem hlt'
    generalize L[i] = p at e1
    have hut := used_take s e1
    have hp2 : p.2 < s.files.length := (hsk p (List.mem_of_getElem? e1)).2
    obtain ⟨x, hx, hxf⟩ := rlay_at hy hp2
    have hxb := (hfb _ (fileM_mem hp2)).1
    rw [← hxf] at hxb hut
    have k1 : (nmCs L)[i * 2 + 1]? = some (.int .i64 (p.2 : Int)) := rows_cell nmC_len e1 rfl
    have k2 : (rfCs y.fl)[p.2 * 2 + 0]? = some (.slice x.a x.f.bs.length x.c) := rows_cell rfC_len hx rfl
    have sf : y.fa.isSome = true := r1.some (by rw [rfCs_len, rlay_len hy]; omega)
    refine g_fact (sel_fact .here fun k o => own_none o (by rw [nmCs_len]; omega)) fun sa => ?_
    refine g_skip ?_
    refine e_then ?_
    refine g_seq ?_
    refine g_block ?_
    refine gT false T.mix ?_
    refine Ti Mv ?_
    refine Ti Mv ?_
    refine Ti Nc ?_
    refine Ti (Fa T.fld_70_1) ?_
    refine Tp (oL T.sc_66 ?_)
    refine Ti Mv ?_
    refine Ti Mv ?_
    refine Ti (Ix T.sl_67) ?_
    refine Ti (Fam T.fld_113_1) ?_
    refine Tp (oL T.sc_3 ?_)
    refine Ti (Ix T.sl_66) ?_
    refine Ti (Fam T.fld_93_0) ?_
    refine Tp (oL T.sc_38 ?_)
    refine Ti (Ln T.sl_38) ?_
    refine Ti Im ?_
    refine Ti As ?_
    refine Tn ?_
    refine e_block ?_
    refine e_then ?_
    refine g_region ?_
    refine Li Mv ?_
    refine Li Im ?_
    refine Li As ?_
    refine g_nil ?_
    refine g_slot (t := 3) (v' := .int .i64 ((s.space : Int) - (usedM s (L.take (i + 1)) : Int))) rfl (by refine congrArg (Value.int .i64) ?_; omega) ?_
    refine Ro (i + 1) (⟨by omega, by omega⟩) (by omega)
  · intro hlt
    replace hlt := nrm hlt
    obtain rfl : i = L.length := by omega
    rw [List.take_length] at hul ⊢
    refine g_exit ?_
    refine e_then_exit ?_
    refine e_then_exit ?_
    refine e_block_hit ?_
    refine e_then ?_
    refine g_seq ?_
    refine g_sr ?_
    refine Li Mv ?_
    refine Li Cm ?_
    refine g_ne ?_
    refine g_cond rfl ?_ ?_
    · intro h0
      replace h0 := nrm h0
      refine g_sr ?_
      refine Li As ?_
      refine g_ne ?_
      refine g_ret ?_
      refine e_then_ret ?_
      refine Rt [] Try.results74 ?_
      refine ⟨congrArg (Value.int .i64) ?_, rfl⟩
      omega
    · intro h0
      replace h0 := nrm h0
      refine g_skip ?_
      refine e_then ?_
      refine g_sr ?_
      refine Li Mv ?_
      refine Li As ?_
      refine g_ne ?_
      refine g_ret ?_
      refine Rt [] Try.results74 ?_
      refine ⟨congrArg (Value.int .i64) ?_, rfl⟩
      omega
theorem rloose_fn (b : Nat) (s : Ds) (y : RLay) (hS : Inv s) (hn : s.acts ≤ 10000) (hy : RLayOk s y) :
    FnS Try.prog 36 [.pointer (some ⟨b, 0, none⟩)] (InL (rkL b s y)) [] (fun v H => v = .bool (looseM s) ∧ H = []) := by
  have hnm := hS.names
  have hnl := hnm.len
  have hlm : looseM s = ((namesL s).any (looseP s) || decide (0 < s.chg.length)) := rfl
  rw [hlm]
  refine fn_body Try.func36 rfl Try.ntmps36 rfl ?_
  rintro F hF
  have h0 := hF.1
  have r1 := own_in hF.2.1
  unfold rkC at h0
  refine g_sr ?_
  refine Li As ?_
  refine g_ne ?_
  refine g_sr ?_
  refine Li Mv ?_
  refine Lp (oC T.fn_61 rfl rfl (names_fn b s y hS hn hy) .nil (fun _ le _ => inl_mono hF le) ?_)
  rintro v H' ⟨a, c, rfl, rfl⟩
  try simp only [nap, cap]
  have hsk := hnm.sk
  generalize hL : namesL s = L at *
  refine Li As ?_
  refine g_ne ?_
  refine g_seq ?_
  refine g_sr ?_
  refine Li As ?_
  refine g_ne ?_
  refine g_block ?_
  refine Lo (ι := Nat) [7, 8, 9, 10, 13, 14, 15, 16, 17, 18, 19, 20, 21, 22, 23, 24, 25, 26, 27, 28, 29, 30, 31, 32, 33, 34, 35, 36, 37, 38, 2, 11, 12, 4] (fun i => i ≤ L.length ∧ (L.take i).any (looseP s) = false) (fun i => [(4, .int .i64 (i : Int))]) (fun i => [own a c 113 2 (nmCs L)]) (fun i => L.length - i) (0) ⟨Nat.zero_le _, rfl⟩ ?_
  rintro i ⟨hi, hul⟩
  refine g_seq ?_
  refine g_sr ?_
  refine Li Mv ?_
  refine Li Mv ?_
  refine Li (Ln T.sl_67) ?_
  refine Li Cm ?_
  refine g_ne ?_
  refine g_cond rfl ?_ ?_
  · intro hlt
    replace hlt := nrm hlt
    have hlt' : i < L.length := by omega
    have e1 : L[i]? = some L[i] := List.getElem?_eq_getElem hlt'
    generalize L[i] = p at e1
    have hp2 : p.2 < s.files.length := (hsk p (List.mem_of_getElem? e1)).2
    obtain ⟨x, hx, hxf⟩ := rlay_at hy hp2
    have hlp : looseP s p = decide (x.f.sf < x.f.bs.length) := by unfold looseP; rw [hxf]
    have k1 : (nmCs L)[i * 2 + 1]? = some (.int .i64 (p.2 : Int)) := rows_cell nmC_len e1 rfl
    have k2 : (rfCs y.fl)[p.2 * 2 + 0]? = some (.slice x.a x.f.bs.length x.c) := rows_cell rfC_len hx rfl
    have k3 : (rfCs y.fl)[p.2 * 2 + 1]? = some (.int .i64 (x.f.sf : Int)) := rows_cell rfC_len hx rfl
    have sf : y.fa.isSome = true := r1.some (by rw [rfCs_len, rlay_len hy]; omega)
    refine g_fact (sel_fact .here fun k o => own_none o (by rw [nmCs_len]; omega)) fun sa => ?_
    refine g_skip ?_
    refine e_then ?_
    refine g_seq ?_
    refine g_block ?_
    refine g_seq ?_
    refine gT false T.mix ?_
    refine Ti Mv ?_
    refine Ti Nc ?_
    refine Ti (Fa T.fld_70_1) ?_
    refine Tp (oL T.sc_66 ?_)
    refine Ti Mv ?_
    refine Ti Mv ?_
    refine Ti (Ix T.sl_67) ?_
    refine Ti (Fam T.fld_113_1) ?_
    refine Tp (oL T.sc_3 ?_)
    refine Ti (Ix T.sl_66) ?_
    refine Ti (Fam T.fld_93_1) ?_
    refine Tp (oL T.sc_3 ?_)
    refine Ti Mv ?_
    refine Ti Nc ?_
    refine Ti (Fa T.fld_70_1) ?_
    refine Tp (oL T.sc_66 ?_)
    refine Ti Mv ?_
    refine Ti Mv ?_
    refine Ti (Ix T.sl_67) ?_
    refine Ti (Fam T.fld_113_1) ?_
    refine Tp (oL T.sc_3 ?_)
    refine Ti (Ix T.sl_66) ?_
    refine Ti (Fam T.fld_93_0) ?_
    refine Tp (oL T.sc_38 ?_)
    refine Ti (Ln T.sl_38) ?_
    refine Ti Cm ?_
    refine Tne ?_
    refine g_cond rfl ?_ ?_
    · intro hq
      replace hq := nrm hq
      refine g_sr ?_
      refine Li As ?_
      refine g_ne ?_
      refine g_ret ?_
      refine e_block_ret ?_
      refine e_then_ret ?_
      refine e_then_ret ?_
      refine e_block_ret ?_
      refine e_then_ret ?_
      refine Rt [] Try.results36 ?_
      refine ⟨congrArg Value.bool ?_, rfl⟩
      have h1 : looseP s p = true := by rw [hlp]; simp; omega
      have h2 : L.any (looseP s) = true := List.any_eq_true.2 ⟨p, List.mem_of_getElem? e1, h1⟩
      rw [h2]; rfl
    · intro hq
      replace hq := nrm hq
      refine g_skip ?_
      refine e_block ?_
      refine e_then ?_
      refine g_region ?_
      refine Li Mv ?_
      refine Li Im ?_
      refine Li As ?_
      refine g_nil ?_
      have h1 : looseP s p = false := by rw [hlp]; simp; omega
      refine Ro (i + 1) (⟨by omega, by rw [List.take_add_one, e1, List.any_append, hul]; simp [h1]⟩) (by omega)
  · intro hlt
    replace hlt := nrm hlt
    obtain rfl : i = L.length := by omega
    rw [List.take_length] at hul
    refine g_exit ?_
    refine e_then_exit ?_
    refine e_then_exit ?_
    refine e_block_hit ?_
    refine e_then ?_
    refine g_sr ?_
    refine Li Mv ?_
    refine Li Nc ?_
    refine Li (Fa T.fld_70_3) ?_
    refine Lp (oL T.sc_68 ?_)
    refine Li (Ln T.sl_68) ?_
    refine Li Cm ?_
    refine Li As ?_
    refine g_ne ?_
    refine g_ret ?_
    refine Rt [] Try.results36 ?_
    refine ⟨congrArg Value.bool ?_, rfl⟩
    rw [hul, Bool.false_or, Bool.eq_iff_iff]; simp
theorem call_fn (k : Nat) (hk : k ≤ 5) : FnS Try.prog 70 [.int .i64 (k : Int)] (fun _ => True) [] (fun v H => v = strv (kindT k) ∧ H = []) := by
  refine fn_body Try.func70 rfl Try.ntmps70 rfl ?_
  intro F hF
  refine g_sr ?_
  refine Li As ?_
  refine g_ne ?_
  refine g_sr ?_
  refine Lp (oT T.ap_57 fun b1 => ?_)
  refine Li As ?_
  refine g_ne ?_
  refine g_sr ?_
  refine Li Mv ?_
  refine Li Mv ?_
  have hc : [strv [99, 114, 101, 97, 116, 101], strv [97, 112, 112, 101, 110, 100], strv [115, 121, 110, 99], strv [114, 101, 110, 97, 109, 101], strv [114, 101, 109, 111, 118, 101], strv [115, 121, 110, 99, 110, 97, 109, 101, 115]][k]? = some (strv (kindT k)) := by
    rcases (by omega : k = 0 ∨ k = 1 ∨ k = 2 ∨ k = 3 ∨ k = 4 ∨ k = 5) with rfl | rfl | rfl | rfl | rfl | rfl <;> rfl
  refine Hh (H' := [pts b1 9 [strv [99, 114, 101, 97, 116, 101], strv [97, 112, 112, 101, 110, 100], strv [115, 121, 110, 99], strv [114, 101, 110, 97, 109, 101], strv [114, 101, 109, 111, 118, 101], strv [115, 121, 110, 99, 110, 97, 109, 101, 115]]]) ?_
  refine g_heap (fun _ s => starL_cons_mono (fun _ p => own_of_pts p 6 1 rfl (by simp [maxLen])) s) ?_
  refine Li (Ix T.sl_57) ?_
  refine Lp (oL T.sc_9 ?_)
  refine Li As ?_
  refine g_ne ?_
  refine g_ret ?_
  refine Rt [] Try.results70 ?_
  exact ⟨rfl, rfl⟩
theorem rread_fn (b : Nat) (s : Ds) (y : RLay) (hS : Inv s) (hn : s.acts ≤ 10000) (hy : RLayOk s y) (name : Nm) :
    FnS Try.prog 33 [.pointer (some ⟨b, 0, none⟩), strv name] (InL (rkL b s y)) [] (fun v H => ∃ a c, v = .tuple #[.slice a (readM s name).2.length c, faultV readT name (readM s name).1] ∧ H = [own a c 5 1 (bcells (readM s name).2)]) := by
  have hnm := hS.names
  have hfb := hS.fb
  obtain ⟨⟨e, r⟩, hr⟩ : ∃ r, readM s name = r := ⟨_, rfl⟩
  rw [hr]
  dsimp only
  unfold readM at hr
  refine fn_body Try.func33 rfl Try.ntmps33 rfl ?_
  rintro F hF
  have h0 := hF.1
  have r1 := own_in hF.2.1
  unfold rkC at h0
  refine g_sr ?_
  refine Li As ?_
  refine Lp (oA T.zc_34 fun b1 => ?_)
  refine g_ne ?_
  refine g_seq ?_
  refine g_sr ?_
  refine Li Mv ?_
  refine Li Nc ?_
  refine Li (Fa T.fld_70_6) ?_
  refine Lp (oL T.sc_4 ?_)
  refine g_ne ?_
  refine g_cond rfl ?_ ?_
  · intro hd
    replace hd := nrm hd
    rw [if_pos hd] at hr
    cases hr
    refine g_sr ?_
    refine Li Mv ?_
    refine Li (Bd T.zc_34 T.st_34) ?_
    refine Li As ?_
    refine Lp (oSW T.ag_34 ?_)
    refine g_ne ?_
    refine g_ret ?_
    refine e_then_ret ?_
    refine g_nilrow 5 1 ?_
    refine RtTC [own none 0 5 1 (bcells [])] T.ag_34 Try.results33 ?_
    exact ⟨none, 0, rfl, rfl⟩
  · intro hd
    replace hd := nrm hd
    rw [if_neg (by rw [hd]; simp)] at hr
    refine g_skip ?_
    refine e_then ?_
    refine g_seq ?_
    refine g_sr ?_
    refine Li Mv ?_
    refine Lp (oC T.fn_59 rfl rfl (legal_fn name) .nil (fun _ _ _ => trivial) ?_)
    rintro v H' ⟨rfl, rfl⟩
    try simp only [nap, cap]
    refine Li Nt ?_
    refine g_ne ?_
    refine g_cond rfl ?_ ?_
    · intro hl
      replace hl := nrm hl
      rw [if_pos hl] at hr
      cases hr
      refine g_sr ?_
      refine Li Mv ?_
      refine Li (Bd T.zc_34 T.st_34) ?_
      refine Li As ?_
      refine Lp (oSW T.ag_34 ?_)
      refine g_ne ?_
      refine g_ret ?_
      refine e_then_ret ?_
      refine g_nilrow 5 1 ?_
      refine RtTC [own none 0 5 1 (bcells [])] T.ag_34 Try.results33 ?_
      exact ⟨none, 0, rfl, rfl⟩
    · intro hl
      replace hl := nrm hl
      rw [if_neg (by rw [hl]; simp)] at hr
      refine g_skip ?_
      refine e_then ?_
      refine g_sr ?_
      refine Li Mv ?_
      refine Li Mv ?_
      refine Lp (oC T.fn_60 rfl rfl (at_fn b s y hS hn hy name) .nil (fun _ le _ => inl_mono hF le) ?_)
      rintro v H' ⟨rfl, rfl⟩
      try simp only [nap, cap]
      rcases hat : atM (namesL s) name with _ | i
      · rw [hat] at hr
        cases hr
        rw [show atI (namesL s) name = -1 from by unfold atI; rw [hat]]
        refine Li As ?_
        refine g_ne ?_
        refine g_seq ?_
        refine g_sr ?_
        refine Li Mv ?_
        refine Li Cm ?_
        refine g_ne ?_
        refine g_cond_t rfl (by rfl) ?_
        refine g_sr ?_
        refine Li Mv ?_
        refine Li (Bd T.zc_34 T.st_34) ?_
        refine Li As ?_
        refine Lp (oSW T.ag_34 ?_)
        refine g_ne ?_
        refine g_ret ?_
        refine e_then_ret ?_
        refine g_nilrow 5 1 ?_
        refine RtTC [own none 0 5 1 (bcells [])] T.ag_34 Try.results33 ?_
        exact ⟨none, 0, rfl, rfl⟩
      · rw [hat] at hr
        dsimp only at hr
        rw [show atI (namesL s) name = (i : Int) from by unfold atI; rw [hat]]
        have hi : i < s.files.length := (hnm.sk _ (atM_mem hat)).2
        obtain ⟨x, hx, hxf⟩ := rlay_at hy hi
        have hxb := (hfb _ (fileM_mem hi)).1
        rw [← hxf] at hxb hr
        cases hr
        have k2 : (rfCs y.fl)[i * 2 + 0]? = some (.slice x.a x.f.bs.length x.c) := rows_cell rfC_len hx rfl
        have sf : y.fa.isSome = true := r1.some (by rw [rfCs_len, rlay_len hy]; omega)
        have rx : Rdl F.h x.a (bcells x.f.bs) := own_in (stars_at hF.2.2.1 (List.mem_of_getElem? hx))
        refine Li As ?_
        refine g_ne ?_
        refine g_seq ?_
        refine g_sr ?_
        refine Li Mv ?_
        refine Li Cm ?_
        refine g_ne ?_
        refine g_cond_f rfl (by simp) ?_
        refine g_skip ?_
        refine e_then ?_
        refine g_sr ?_
        refine Lp (oT T.ap_38 fun b2 => ?_)
        refine Li Mv ?_
        refine Li Nc ?_
        refine Li (Fa T.fld_70_1) ?_
        refine Lp (oL T.sc_66 ?_)
        refine Li Mv ?_
        refine Li (Ix T.sl_66) ?_
        refine Li (Fam T.fld_93_0) ?_
        refine Lp (oL T.sc_38 ?_)
        refine g_heap (fun _ s => starL_cons_mono (fun _ p => own_emp 1 p (by rfl)) s) ?_
        refine Lp (op_append T.ap_38 T.ni_38 rfl rfl rfl rfl .here (rfl) (src_slice (m := x.f.bs.length) (by simp) fun h le _ => rx.mono le) (bcells_one) (by first | omega | (simp; omega)) (by first | omega | (simp; omega)) rfl fun a5 c5 hc5 => ?_)
        rw [List.nil_append, Nat.zero_add]
        refine Li (Bd T.zc_34 T.st_34) ?_
        refine Li As ?_
        refine Lp (oSW T.ag_34 ?_)
        refine g_ne ?_
        refine g_ret ?_
        refine RtTC [own a5 c5 5 1 (bcells x.f.bs)] T.ag_34 Try.results33 ?_
        exact ⟨a5, c5, rfl, rfl⟩
theorem rnew_ok (n : Nat) (hn : n ≤ 1099511627776) : FnS Try.prog 6 [.int .i64 (n : Int)] (fun _ => True) [] (fun v H => ∃ b, v = .tuple #[.pointer (some ⟨b, 0, none⟩), faultV newT [] 0] ∧ H = [Rk b (startM n)]) := by
  refine fn_body Try.func6 rfl Try.ntmps6 rfl ?_
  intro F hF
  refine g_sr ?_
  refine Li As ?_
  refine Lp (oA T.zc_34 fun b1 => ?_)
  refine g_ne ?_
  refine g_seq ?_
  refine g_sr ?_
  refine Li Mv ?_
  refine Li Cm ?_
  refine Li Mv ?_
  refine g_slot (t := 6) (v' := .bool false) rfl (congrArg Value.bool (by simp)) ?_
  refine Li Mv ?_
  refine Li Cm ?_
  refine Li Pf ?_
  refine g_ne ?_
  refine g_cond_f rfl (by (simp; omega)) ?_
  refine g_skip ?_
  refine e_then ?_
  refine g_sr ?_
  refine Li Mv ?_
  refine Li (Bd T.zc_70 T.st_70) ?_
  refine Lp (oB fun b2 => ?_)
  refine Li (Bd T.zc_34 T.st_34) ?_
  refine Li As ?_
  refine Lp (oSW T.ag_34 ?_)
  refine g_ne ?_
  refine g_ret ?_
  refine g_nilrow 93 2 (g_nilrow 113 2 (g_nilrow 116 3 (g_nilrow 119 3 ?_)))
  refine g_heap (fun _ s => starL_nil_stars s) ?_
  refine Hh (H' := [pts b2 70 (rkC (startM n) ⟨none, 0, none, 0, none, 0, none, 0, [], []⟩), own none 0 93 2 (rfCs []), stars [], own none 0 113 2 (nmCs []), own none 0 116 3 (chCs []), own none 0 119 3 (ftCs []), pts b1 34 [strv [], strv [], .int .i64 0]]) ?_
  refine g_heap (H' := [Rk b2 (startM n), pts b1 34 [strv [], strv [], .int .i64 0]]) (fun _ x => close_rk (H := [_]) (y := ⟨none, 0, none, 0, none, 0, none, 0, [], []⟩) ⟨rfl, rfl⟩ x) ?_
  refine RtTC [Rk b2 (startM n)] T.ag_34 Try.results6 ?_
  exact ⟨_, rfl, rfl⟩
theorem rnew_bad (z : Int) (hz : z < 0 ∨ 1099511627776 < z) : FnS Try.prog 6 [.int .i64 z] (fun _ => True) [] (fun v H => v = .tuple #[.pointer none, faultV newT [] 1] ∧ H = []) := by
  refine fn_body Try.func6 rfl Try.ntmps6 rfl ?_
  intro F hF
  refine g_sr ?_
  refine Li As ?_
  refine Lp (oA T.zc_34 fun b1 => ?_)
  refine g_ne ?_
  refine g_seq ?_
  refine g_seq ?_
  refine g_mid (ι := Unit) [4, 5, 6, 7, 8, 9] (fun u => True) (fun u => [(9, .bool true)]) (fun u => [pts b1 34 [strv [], strv [], .int .i64 0]]) ?_ ?_
  · refine g_region ?_
    refine Li Mv ?_
    refine Li Cm ?_
    refine Li Mv ?_
    refine g_split (t := 6) rfl ?_ ?_
    · intro hb0
      replace hb0 := nrm hb0
      refine Lx ?_
      refine Lx ?_
      refine Li Pt ?_
      refine g_nil ?_
      refine g_slot (t := 9) (v' := .bool true) rfl (by refine congrArg Value.bool ?_; first | (simp; done) | (simp; omega)) ?_
      refine Me (()) (trivial)
    · intro hb0
      replace hb0 := nrm hb0
      refine Li Mv ?_
      refine Li Cm ?_
      refine Li Pf ?_
      refine g_nil ?_
      refine g_slot (t := 9) (v' := .bool true) rfl (by refine congrArg Value.bool ?_; first | (simp; done) | (simp; omega)) ?_
      refine Me (()) (trivial)
  rintro u hI
  refine g_cond_t rfl (by rfl) ?_
  refine g_sr ?_
  refine Li (Bd T.zc_34 T.st_34) ?_
  refine Li As ?_
  refine Lp (oSW T.ag_34 ?_)
  refine g_ne ?_
  refine g_ret ?_
  refine e_then_ret ?_
  refine RtTC [] T.ag_34 Try.results6 ?_
  exact ⟨rfl, rfl⟩
theorem rplan_fn (b : Nat) (s : Ds) (a : Option Addr) (n c : Nat) (l : List Flt) (hn : n = l.length) (hl : l.length ≤ 1000) :
    FnS Try.prog 40 [.pointer (some ⟨b, 0, none⟩), .slice a n c] (fun h => Rdl h a (ftCs l)) [Rk b s] (fun v H => v = .tuple #[] ∧ H = [Rk b { s with plan := l }]) := by
  subst hn
  refine open_rk fun y hy => ?_
  unfold rkL rkC
  simp only [nap, cap]
  refine fn_body Try.func40 rfl Try.ntmps40 rfl ?_
  intro F hF
  refine g_region ?_
  refine Li Mv ?_
  refine Lp (oT2 T.ap_39 fun b1 => ?_)
  refine Li Mv ?_
  refine g_heap (fun _ s => starL_cons_mono (fun _ p => own_emp 3 p (by rfl)) s) ?_
  refine Lp (op_append T.ap_39 T.ni_39 rfl rfl rfl rfl .here (rfl) (src_slice (m := l.length) (ftCs_len l) fun h le _ => hF.mono le) (ftCs_one l) (by first | omega | (simp; omega)) (by first | omega | (simp; omega)) rfl fun a5 c5 hc5 => ?_)
  rw [List.nil_append, Nat.zero_add]
  refine Li Nc ?_
  refine Li (Fa T.fld_70_5) ?_
  refine Lp (oS T.sc_39 ?_)
  refine g_nil ?_
  refine Hh (H' := [pts b 70 (rkC { s with plan := l } { y with pa := a5, pc := c5 }), own y.fa y.fc 93 2 (rfCs y.fl), stars (y.fl.map rfH), own y.sa y.sc 113 2 (nmCs s.safe), own y.ca y.cc 116 3 (chCs y.rc), own a5 c5 119 3 (ftCs l)]) ?_
  refine g_heap (H' := [Rk b { s with plan := l }]) (fun _ x => close_rk (H := []) (y := { y with pa := a5, pc := c5 }) ⟨hy.fl, hy.rc⟩ x) ?_
  refine Rn0 [Rk b { s with plan := l }] Try.results40 ?_
  exact ⟨rfl, rfl⟩
end Go.Proofs.Ytncmmhfgcgnojaa

