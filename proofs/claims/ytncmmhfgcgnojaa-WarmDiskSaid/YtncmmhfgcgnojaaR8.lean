/- The document's disk: Restart. -/
import Derived.Test.YtncmmhfgcgnojaaR7
set_option maxRecDepth 100000
namespace Go.Proofs.Ytncmmhfgcgnojaa
open Go Go.Eng

theorem rf_setlen (fl : List RFi) (j : Nat) (x : RFi) : (fl.set j x).length = fl.length := by simp
set_option maxHeartbeats 1000000 in
theorem rrestart_m (b : Nat) (s : Ds) (hS : Inv s) (hn : s.acts ≤ 10000) (ca : Option Addr) (cn cc : Nat) (cut : List Int) (hcn : cn = cut.length) (z : Int) :
    FnS Try.prog 11 [.pointer (some ⟨b, 0, none⟩), .agg #[.slice ca cn cc, .int .i64 z]] (fun h => Rdl h ca (icells cut)) [Rk b s] (fun v H => v = .tuple #[] ∧ H = [Rk b (restM s cut z)]) := by
  subst hcn
  have hnn := hS.nn
  have hnf := hS.nf
  have hfb := hS.fb
  refine open_rk fun y hy => ?_
  unfold rkL rkC
  simp only [nap, cap]

  refine fn_body Try.func11 rfl Try.ntmps11 rfl ?_
  intro F hR
  refine g_sr ?_
  refine Lp (oB fun b1 => ?_)
  refine g_ne ?_
  refine g_seq ?_
  refine gT false T.mix ?_
  refine Ti Mv ?_
  refine Ti Mv ?_
  refine Ti (Fa T.fld_42_1) ?_
  refine Tp (oL T.sc_3 ?_)
  refine Ti Mv ?_
  refine Ti Nc ?_
  refine Ti (Fa T.fld_70_3) ?_
  refine Tp (oL T.sc_68 ?_)
  refine Ti (Ln T.sl_68) ?_
  refine Tp (oC T.fn_44 rfl rfl (between_fn z s.chg.length) .nil (fun _ _ _ => trivial) ?_)
  rintro v H' ⟨rfl, rfl⟩
  try simp only [nap, cap]
  refine Tp (oC T.fn_43 rfl rfl (after_fn b s y hS hn hy ((min z.toNat s.chg.length : Nat) : Int)) .nil (fun _ _ hin => ⟨hin.nth 1 rfl, hin.nth 2 rfl, hin.nth 3 rfl, hin.nth 4 rfl, hin.nth 5 rfl, hin.nth 6 rfl, trivial⟩) ?_)
  rintro v H' ⟨a, c, rfl, rfl⟩
  try simp only [nap, cap]
  rw [Int.toNat_natCast, show s.chg.take (min z.toNat s.chg.length) = s.chg.take z.toNat from by rw [List.take_eq_take_iff]; omega]
  generalize hN : afterL s.safe (s.chg.take z.toNat) = N
  refine Ti Nc ?_
  refine Ti (Fa T.fld_70_2) ?_
  refine Tp (oS T.sc_67 ?_)
  refine Tne ?_
  refine g_sr ?_
  refine Li Mv ?_
  refine Li Nc ?_
  refine Li (Fa T.fld_70_3) ?_
  refine Lp (oS T.sc_68 ?_)
  refine g_ne ?_
  refine g_seq ?_
  refine g_sr ?_
  refine Li As ?_
  refine g_ne ?_
  refine g_block ?_
  obtain ⟨fl0, hfl0⟩ : ∃ fl0, fl0 = y.fl := ⟨_, rfl⟩

  refine Lo (ι := Nat × List RFi) [22, 23, 24, 25, 26, 27, 28, 31, 32, 33, 34, 35, 36, 37, 38, 5, 39, 40, 41, 42, 43, 44, 45, 46, 47, 48, 49, 50, 51, 52, 53, 54, 55, 56, 57, 58, 59, 60, 61, 62, 63, 64, 65, 66, 67, 68, 69, 70, 71, 72, 73, 74, 75, 76, 77, 78, 79, 80, 81, 82, 29, 30, 4] (fun (i, fl) => i ≤ s.files.length ∧ fl.map (·.f) = restF cut i s.files) (fun (i, fl) => [(4, .int .i64 (i : Int))]) (fun (i, fl) => [stars (fl.map rfH), own y.fa y.fc 93 2 (rfCs fl), pts b 70 [.int .i64 (s.space : Int), .slice y.fa s.files.length y.fc, .slice a N.length c, .slice none 0 0, .int .i64 (s.acts : Int), .slice y.pa s.plan.length y.pc, .bool s.dark], own a c 113 2 (nmCs N), own y.pa y.pc 119 3 (ftCs s.plan), pts b1 42 [.slice ca cut.length cc, .int .i64 z]]) (fun (i, fl) => s.files.length - i) ((0, y.fl)) ⟨Nat.zero_le _, by rw [restF_zero]; exact hy.fl⟩ ?_
  rintro ⟨j, fl⟩ ⟨hj, hfl⟩
  try dsimp only at hI ⊢
  dsimp only at hj hfl ⊢
  have hfll : fl.length = s.files.length := by rw [← restF_len cut j s.files, ← hfl]; simp
  have hcl : (rfCs fl).length = s.files.length * 2 := by rw [rfCs_len, hfll]
  refine g_seq ?_
  refine g_sr ?_
  refine Li Mv ?_
  refine Li Mv ?_
  refine Li Nc ?_
  refine Li (Fa T.fld_70_1) ?_
  refine Lp (oL T.sc_66 ?_)
  refine Li (Ln T.sl_66) ?_
  refine Li Cm ?_
  refine g_ne ?_
  refine g_cond rfl ?_ ?_
  · intro hlt2
    replace hlt2 := nrm hlt2
    have hjc : j < s.files.length := by omega
    obtain ⟨x, hx, hxf⟩ : ∃ x, fl[j]? = some x ∧ x.f = fileM s j := by
      have h1 := restF_at (cut := cut) (i := j) (fileM_at hjc)
      rw [← hfl, List.getElem?_map, if_neg (by omega), Option.map_eq_some_iff] at h1
      exact h1
    have hxb := hfb _ (fileM_mem hjc)
    rw [← hxf] at hxb
    have k2 : (rfCs fl)[j * 2 + 0]? = some (.slice x.a x.f.bs.length x.c) := rows_cell rfC_len hx rfl
    have k3 : (rfCs fl)[j * 2 + 1]? = some (.int .i64 (x.f.sf : Int)) := rows_cell rfC_len hx rfl
    refine g_fact (sel_fact (.there .here) fun k o => own_none o (by omega)) fun sa => ?_
    refine g_rfile hx ?_
    obtain ⟨kp, hkp⟩ : ∃ kp, kp = min (cut.getD j 0).toNat (x.f.bs.length - x.f.sf) := ⟨_, rfl⟩
    have hkf : keepF cut j x.f = ⟨x.f.bs.take (x.f.sf + kp), x.f.sf + kp⟩ := by unfold keepF; rw [hkp]
    have hlen : (x.f.bs.take (x.f.sf + kp)).length = x.f.sf + kp := by rw [List.length_take]; omega
    refine g_skip ?_
    refine e_then ?_
    refine g_seq ?_
    refine g_block ?_
    refine g_sr ?_
    refine Li Mv ?_
    refine Li Nc ?_
    refine Li (Fa T.fld_70_1) ?_
    refine Lp (oL T.sc_66 ?_)
    refine Li Mv ?_
    refine Li (Ix T.sl_66) ?_
    refine Li (Fam T.fld_93_1) ?_
    refine Lp (oL T.sc_3 ?_)
    refine Li As ?_
    refine g_ne ?_
    refine g_seq ?_
    refine g_sr ?_
    refine Li Mv ?_
    refine Li (Fa T.fld_42_0) ?_
    refine Lp (oL T.sc_40 ?_)
    refine Li (Ln T.sl_40) ?_
    refine Li Cm ?_
    refine g_ne ?_
    refine g_mid (ι := Unit) [44, 45, 46, 47, 48, 49, 50, 51, 52, 53, 54, 55, 56, 57, 58, 59, 60, 61, 62, 5] (fun u => True) (fun u => [(5, .int .i64 ((x.f.sf + kp : Nat) : Int))]) (fun u => [own x.a x.c 5 1 (bcells x.f.bs), stars ((fl.eraseIdx j).map rfH), own y.fa y.fc 93 2 (rfCs fl), pts b 70 [.int .i64 (s.space : Int), .slice y.fa s.files.length y.fc, .slice a N.length c, .slice none 0 0, .int .i64 (s.acts : Int), .slice y.pa s.plan.length y.pc, .bool s.dark], own a c 113 2 (nmCs N), own y.pa y.pc 119 3 (ftCs s.plan), pts b1 42 [.slice ca cut.length cc, .int .i64 z]]) ?_ ?_
    · refine g_cond rfl ?_ ?_
      · intro hc
        replace hc := nrm hc
        have hcj : j < cut.length := by omega
        have e1 : cut[j]? = some (cut.getD j 0) := by rw [List.getD_eq_getElem?_getD, List.getElem?_eq_getElem hcj]; rfl
        have e2 : (icells cut)[j]? = some (.int .i64 (cut.getD j 0)) := by unfold icells; rw [List.getElem?_map, e1]; rfl
        have sc : ca.isSome = true := hR.some (by unfold icells; rw [List.length_map]; omega)
        refine gT false T.mix ?_
        refine Ti Mv ?_
        refine Ti (Fa T.fld_42_0) ?_
        refine Tp (oL T.sc_40 ?_)
        refine Ti Mv ?_
        refine Ti (Ix T.sl_40) ?_
        refine Tp (oL T.sc_3 ?_)
        refine Ti Mv ?_
        refine Ti Nc ?_
        refine Ti (Fa T.fld_70_1) ?_
        refine Tp (oL T.sc_66 ?_)
        refine Ti Mv ?_
        refine Ti (Ix T.sl_66) ?_
        refine Ti (Fam T.fld_93_0) ?_
        refine Tp (oL T.sc_38 ?_)
        refine Ti (Ln T.sl_38) ?_
        refine Ti Mv ?_
        refine Ti Im ?_
        rw [show (x.f.bs.length : Int) - (x.f.sf : Int) = ((x.f.bs.length - x.f.sf : Nat) : Int) from by omega]
        refine Tp (oC T.fn_44 rfl rfl (between_fn (cut.getD j 0) (x.f.bs.length - x.f.sf)) .nil (fun _ _ _ => trivial) ?_)
        rintro v H' ⟨rfl, rfl⟩
        try simp only [nap, cap]
        rw [← hkp]
        refine Ti Im ?_
        refine Ti As ?_
        refine Tn ?_
        refine g_slot (t := 5) (v' := .int .i64 ((x.f.sf + kp : Nat) : Int)) rfl (by refine congrArg (Value.int .i64) ?_; omega) ?_
        refine Me (()) (trivial)
      · intro hc
        replace hc := nrm hc
        have e1 : cut.getD j 0 = 0 := by rw [List.getD_eq_getElem?_getD, List.getElem?_eq_none (by omega)]; rfl
        rw [e1] at hkp
        refine g_skip ?_
        refine g_slot (t := 5) (v' := .int .i64 ((x.f.sf + kp : Nat) : Int)) rfl (by refine congrArg (Value.int .i64) ?_; simp at hkp; omega) ?_
        refine Me (()) (trivial)
    rintro u hI
    refine g_fact (sel_fact .here own_len) fun hxc => ?_
    rw [bcells_length] at hxc
    refine gTB 20 T.mix (.cons (.there (.there .here)) (.cons (.there (.there .here)) .nil)) fun F1 le1 hin1 back1 => ?_
    obtain ⟨hf, hb, _⟩ := hin1
    have r1 := own_in hf
    refine Ti Mv ?_
    refine Ti Nc ?_
    refine Ti (Fa T.fld_70_1) ?_
    refine Ti (Lf T.sc_66) ?_
    refine Ti Mv ?_
    refine Tp (oT T.ap_38 fun b2 => ?_)
    refine Ti Mv ?_
    refine Ti Nc ?_
    refine Ti (Fa T.fld_70_1) ?_
    refine Ti (Lf T.sc_66) ?_
    refine Ti Mv ?_
    refine Ti (Ix T.sl_66) ?_
    refine Ti (Fam T.fld_93_0) ?_
    refine Ti (Lf T.sc_38) ?_
    refine Ti Mv ?_
    refine Ti (Sl 0 _ _ T.sl_38) ?_
    refine g_heap (fun _ s => starL_cons_mono (fun _ p => own_emp 1 p (by rfl)) s) ?_
    rw [Nat.sub_zero, Nat.sub_zero]
    refine Tp (op_append T.ap_38 T.ni_38 rfl rfl rfl rfl .here (rfl) (src_slice (m := x.f.sf + kp) (news := bcells (x.f.bs.take (x.f.sf + kp))) (by rw [bcells_length, hlen, Nat.mul_one]) fun h le hin => by simpa using cut2 (own_in (hin.nth 1 rfl)) 0 x.c (x.f.sf + kp) (by omega)) (bcells_one) (by first | omega | (simp; omega)) (by first | omega | (simp; omega)) rfl fun a5 c5 hc5 => ?_)
    rw [List.nil_append, Nat.zero_add (x.f.sf + kp)]
    refine Ti Mv ?_
    refine Ti (Bd T.zc_93 T.st_93) ?_
    refine Ti (Ix T.sl_66) ?_
    refine TnB back1 ?_
    refine Tp (oSON T.ag_93 ?_ (hj := by show j * 2 + 2 ≤ _; omega) (h0 := by show 0 < 2; omega))
    have e3 : [.slice a5 (x.f.sf + kp) c5, .int .i64 ((x.f.sf + kp : Nat) : Int)] = rfC ⟨a5, c5, ⟨x.f.bs.take (x.f.sf + kp), x.f.sf + kp⟩⟩ := by unfold rfC; rw [hlen]
    refine Tn ?_
    refine e_block ?_
    refine e_then ?_
    refine g_region ?_
    refine Li Mv ?_
    refine Li Im ?_
    refine Li As ?_
    refine g_nil ?_
    refine Hh (H' := [own a5 c5 5 1 (bcells (x.f.bs.take (x.f.sf + kp))), stars ((fl.eraseIdx j).map rfH), own y.fa y.fc 93 2 (setL (rfCs fl) (j * 2) [.slice a5 (x.f.sf + kp) c5, .int .i64 ((x.f.sf + kp : Nat) : Int)]), pts b 70 [.int .i64 (s.space : Int), .slice y.fa s.files.length y.fc, .slice a N.length c, .slice none 0 0, .int .i64 (s.acts : Int), .slice y.pa s.plan.length y.pc, .bool s.dark], own a c 113 2 (nmCs N), own y.pa y.pc 119 3 (ftCs s.plan), pts b1 42 [.slice ca cut.length cc, .int .i64 z]]) ?_
    rw [e3, show setL (rfCs fl) (j * 2) (rfC ⟨a5, c5, ⟨x.f.bs.take (x.f.sf + kp), x.f.sf + kp⟩⟩) = rfCs (fl.set j ⟨a5, c5, ⟨x.f.bs.take (x.f.sf + kp), x.f.sf + kp⟩⟩) from rows_set rfC_len hx]
    refine g_heap (fun _ k => rfile_back hx ⟨a5, c5, ⟨x.f.bs.take (x.f.sf + kp), x.f.sf + kp⟩⟩ k) ?_
    refine Ro ((j + 1, fl.set j ⟨a5, c5, ⟨x.f.bs.take (x.f.sf + kp), x.f.sf + kp⟩⟩)) (⟨by dsimp only; omega, by dsimp only; rw [List.map_set, hfl, ← hkf, restF_set (by rw [hxf]; exact fileM_at hjc)]⟩) ((by dsimp only; omega))
  · intro hlt2
    replace hlt2 := nrm hlt2
    obtain rfl : j = s.files.length := by omega
    have hl : (restF cut s.files.length s.files).length = s.files.length := restF_len _ _ _
    subst hN
    refine g_exit ?_
    refine e_then_exit ?_
    refine e_then_exit ?_
    refine e_block_hit ?_
    refine e_then ?_
    refine g_sr ?_
    refine Li Mv ?_
    refine Li Nc ?_
    refine Li (Fa T.fld_70_5) ?_
    refine Lp (oS T.sc_39 ?_)
    refine g_ne ?_
    refine g_region ?_
    refine Li Mv ?_
    refine Li Nc ?_
    refine Li (Fa T.fld_70_6) ?_
    refine Lp (oS T.sc_4 ?_)
    refine g_nil ?_
    refine g_nilrow 116 3 (g_nilrow 119 3 ?_)
    rw [← hl]
    refine Hh (H' := [pts b 70 (rkC (restM s cut z) ⟨y.fa, y.fc, a, c, none, 0, none, 0, fl, []⟩), own y.fa y.fc 93 2 (rfCs fl), stars (fl.map rfH), own a c 113 2 (nmCs (afterL s.safe (s.chg.take z.toNat))), own none 0 116 3 (chCs []), own none 0 119 3 (ftCs [])]) ?_
    refine g_heap (H' := [Rk b (restM s cut z)]) (fun _ x => close_rk (H := []) (y := ⟨y.fa, y.fc, a, c, none, 0, none, 0, fl, []⟩) ⟨hfl, rfl⟩ x) ?_
    refine Rn0 [Rk b (restM s cut z)] Try.results11 ?_
    exact ⟨rfl, rfl⟩
end Go.Proofs.Ytncmmhfgcgnojaa

