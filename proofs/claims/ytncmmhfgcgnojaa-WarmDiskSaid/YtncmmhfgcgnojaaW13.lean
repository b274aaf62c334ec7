/- The disk: a new one; Read; Loose. -/
import Derived.Test.YtncmmhfgcgnojaaW12
set_option maxRecDepth 100000
namespace Go.Proofs.Ytncmmhfgcgnojaa
open Go Go.Eng

def newT : Nm := [110, 101, 119, 100, 105, 115, 107]
def readT : Nm := [114, 101, 97, 100]
theorem new_ok (n : Nat) (hn : n ≤ 1099511627776) : FnS Try.prog 5 [.int .i64 (n : Int)] (fun _ => True) [] (fun v H => ∃ b, v = .tuple #[.pointer (some ⟨b, 0, none⟩), .nilIface] ∧ H = [Dk b (startM n)]) := by
  refine fn_body Try.func5 rfl Try.ntmps5 rfl ?_
  intro F hF
  refine g_sr ?_
  refine Li As ?_
  refine Li As ?_
  refine g_ne ?_
  refine g_seq ?_
  refine g_sr ?_
  refine Li Mv ?_
  refine Li Cm ?_
  refine Li Mv ?_
  refine g_slot (t := 6) (v' := .bool false) rfl (congrArg Value.bool (by simp)) ?_
  refine Li Mv ?_
  refine Li Cm ?_
  refine Li Pf ?_
  refine g_ne ?_
  refine g_cond_f rfl (by (simp; omega)) ?_
  refine g_skip ?_
  refine e_then ?_
  refine g_sr ?_
  refine Li Mv ?_
  refine Lp (oQm .string fun bm => ?_)
  refine Lp (oQm .string fun bs => ?_)
  refine Li (Bd T.zc_65 T.st_65) ?_
  refine Lp (oB fun b1 => ?_)
  refine Li As ?_
  refine Li As ?_
  refine g_ne ?_
  refine g_ret ?_
  refine g_nilrow 87 1 (g_nilrow 84 3 (g_nilrow 119 3 ?_))
  refine g_heap (fun _ s => starL_nil_stars s) ?_
  refine Hh (H' := [pts b1 65 (dkC (startM n) ⟨none, 0, bm, bs, none, 0, none, 0, [], [], []⟩), own none 0 87 1 [], stars [], mq .string bm (mes []), mq .string bs (mes []), own none 0 84 3 (chCs []), own none 0 119 3 (ftCs [])]) ?_
  refine g_heap (H' := [Dk b1 (startM n)]) (fun _ x => close_dk (H := []) (y := ⟨none, 0, bm, bs, none, 0, none, 0, [], [], []⟩) ⟨rfl, List.Perm.nil, List.Perm.nil⟩ x) ?_
  refine Rt2 [Dk b1 (startM n)] Try.results5 ?_
  exact ⟨_, rfl, rfl⟩
theorem new_bad (z : Int) (hz : z < 0 ∨ 1099511627776 < z) : FnS Try.prog 5 [.int .i64 z] (fun _ => True) [] (fun v H => ∃ E ve, v = .tuple #[.pointer none, ve] ∧ Er newT [] 1 ve E ∧ H = [E]) := by
  refine fn_body Try.func5 rfl Try.ntmps5 rfl ?_
  intro F hF
  refine g_sr ?_
  refine Li As ?_
  refine Li As ?_
  refine g_ne ?_
  refine g_seq ?_
  refine g_seq ?_
  refine g_mid (ι := Unit) [4, 5, 6, 7, 8, 9] (fun u => True) (fun u => [(9, .bool true)]) (fun u => []) ?_ ?_
  · refine g_region ?_
    refine Li Mv ?_
    refine Li Cm ?_
    refine Li Mv ?_
    refine g_split (t := 6) rfl ?_ ?_
    · intro hb0
      replace hb0 := nrm hb0
      refine Lx ?_
      refine Lx ?_
      refine Li Pt ?_
      refine g_nil ?_
      refine g_slot (t := 9) (v' := .bool true) rfl (by refine congrArg Value.bool ?_; first | (simp; done) | (simp; omega)) ?_
      refine Me (()) (trivial)
    · intro hb0
      replace hb0 := nrm hb0
      refine Li Mv ?_
      refine Li Cm ?_
      refine Li Pf ?_
      refine g_nil ?_
      refine g_slot (t := 9) (v' := .bool true) rfl (by refine congrArg Value.bool ?_; first | (simp; done) | (simp; omega)) ?_
      refine Me (()) (trivial)
  rintro u hI
  refine g_cond_t rfl (by rfl) ?_
  refine g_sr ?_
  refine Lp (oC T.fn_21 rfl rfl (refuse_fn newT [] 1) .nil (fun _ _ _ => trivial) ?_)
  rintro v H' ⟨E, hE, rfl⟩
  try simp only [nap, cap]
  refine Li As ?_
  refine Li As ?_
  refine g_ne ?_
  refine g_ret ?_
  refine e_then_ret ?_
  refine Rt2 [E] Try.results5 ?_
  exact ⟨E, _, rfl, hE, rfl⟩
theorem read_m (b : Nat) (s : Ds) (hI : Inv s) (hn : s.acts ≤ 10000) (name : Nm) : FnS Try.prog 18 [.pointer (some ⟨b, 0, none⟩), strv name] (fun _ => True) [Dk b s]
    (fun v H => ∃ a c ve E, v = .tuple #[.slice a (readM s name).2.length c, ve] ∧ Er readT name (readM s name).1 ve E ∧ H = [Dk b s, own a c 5 1 (bcells (readM s name).2), E]) := by
  obtain ⟨⟨e, r⟩, hr⟩ : ∃ r, readM s name = r := ⟨_, rfl⟩
  rw [hr]
  dsimp only
  unfold readM at hr
  refine open_dk fun y hy => ?_
  unfold dkL dkC
  simp only [nap, cap]
  refine fn_body Try.func18 rfl Try.ntmps18 rfl ?_
  intro F hF
  refine g_sr ?_
  refine Li As ?_
  refine Li As ?_
  refine g_ne ?_
  refine g_seq ?_
  refine g_sr ?_
  refine Li Mv ?_
  refine Li Nc ?_
  refine Li (Fa T.fld_65_7) ?_
  refine Lp (oL T.sc_4 ?_)
  refine g_ne ?_
  refine g_cond rfl ?_ ?_
  · intro hd
    replace hd := nrm hd
    rw [if_pos hd] at hr
    cases hr
    refine g_sr ?_
    refine Li Mv ?_
    refine Lp (oC T.fn_21 rfl rfl (refuse_fn readT name 184) .nil (fun _ _ _ => trivial) ?_)
    rintro v H' ⟨E, hE, rfl⟩
    try simp only [nap, cap]
    refine Li As ?_
    refine Li As ?_
    refine g_ne ?_
    refine g_ret ?_
    refine e_then_ret ?_
    refine g_nilrow 5 1 ?_
    refine Hh (H' := [pts b 65 (dkC s y), own y.fa y.fc 87 1 (y.fl.map fiP), stars (y.fl.map fiH), mq .string y.nm (mes y.es), mq .string y.sm (mes y.ss), own y.ca y.cc 84 3 (chCs s.chg), own y.pa y.pc 119 3 (ftCs s.plan), own none 0 5 1 (bcells []), E]) ?_
    refine g_heap (H' := [Dk b s, own none 0 5 1 (bcells []), E]) (fun _ x => close_dk (H := [_, _]) hy x) ?_
    refine Rt2 [Dk b s, own none 0 5 1 (bcells []), E] Try.results18 ?_
    exact ⟨_, _, _, E, rfl, hE, rfl⟩
  · intro hd
    replace hd := nrm hd
    rw [if_neg (by rw [hd]; simp)] at hr
    refine g_skip ?_
    refine e_then ?_
    refine g_sr ?_
    refine Li Mv ?_
    refine Li Mv ?_
    refine Lp (oC T.fn_47 rfl rfl (find_fn b s y hI hy name) .nil (fun _ _ hin => ⟨hin.nth 0 rfl, hin.nth 1 rfl, hin.nth 2 rfl, hin.nth 3 rfl, hin.nth 4 rfl, hin.nth 5 rfl, hin.nth 6 rfl, trivial⟩) ?_)
    rintro v H' ⟨hf, rfl⟩
    try simp only [nap, cap]
    rcases hf with ⟨h, rfl⟩ | ⟨h, h2, rfl⟩ | ⟨h, i, x, h2, h3, h4, h5, rfl⟩
    · rw [if_pos h] at hr
      cases hr
      refine Li Mv ?_
      refine Li Ex ?_
      refine Li Ex ?_
      refine Li As ?_
      refine Li As ?_
      refine g_ne ?_
      refine g_seq ?_
      refine g_sr ?_
      refine Li Mv ?_
      refine Li Cm ?_
      refine g_ne ?_
      refine g_cond_t rfl (by rfl) ?_
      refine g_sr ?_
      refine Li Mv ?_
      refine Li Mv ?_
      refine Lp (oC T.fn_21 rfl rfl (refuse_fn readT name 186) .nil (fun _ _ _ => trivial) ?_)
      rintro v H' ⟨E, hE, rfl⟩
      try simp only [nap, cap]
      refine Li As ?_
      refine Li As ?_
      refine g_ne ?_
      refine g_ret ?_
      refine e_then_ret ?_
      refine g_nilrow 5 1 ?_
      refine Hh (H' := [pts b 65 (dkC s y), own y.fa y.fc 87 1 (y.fl.map fiP), stars (y.fl.map fiH), mq .string y.nm (mes y.es), mq .string y.sm (mes y.ss), own y.ca y.cc 84 3 (chCs s.chg), own y.pa y.pc 119 3 (ftCs s.plan), own none 0 5 1 (bcells []), E]) ?_
      refine g_heap (H' := [Dk b s, own none 0 5 1 (bcells []), E]) (fun _ x => close_dk (H := [_, _]) hy x) ?_
      refine Rt2 [Dk b s, own none 0 5 1 (bcells []), E] Try.results18 ?_
      exact ⟨_, _, _, E, rfl, hE, rfl⟩
    · rw [if_neg (by rw [h]; simp), h2] at hr
      cases hr
      refine Li Mv ?_
      refine Li Ex ?_
      refine Li Ex ?_
      refine Li As ?_
      refine Li As ?_
      refine g_ne ?_
      refine g_seq ?_
      refine g_sr ?_
      refine Li Mv ?_
      refine Li Cm ?_
      refine g_ne ?_
      refine g_cond_t rfl (by rfl) ?_
      refine g_sr ?_
      refine Li Mv ?_
      refine Li Mv ?_
      refine Lp (oC T.fn_21 rfl rfl (refuse_fn readT name 182) .nil (fun _ _ _ => trivial) ?_)
      rintro v H' ⟨E, hE, rfl⟩
      try simp only [nap, cap]
      refine Li As ?_
      refine Li As ?_
      refine g_ne ?_
      refine g_ret ?_
      refine e_then_ret ?_
      refine g_nilrow 5 1 ?_
      refine Hh (H' := [pts b 65 (dkC s y), own y.fa y.fc 87 1 (y.fl.map fiP), stars (y.fl.map fiH), mq .string y.nm (mes y.es), mq .string y.sm (mes y.ss), own y.ca y.cc 84 3 (chCs s.chg), own y.pa y.pc 119 3 (ftCs s.plan), own none 0 5 1 (bcells []), E]) ?_
      refine g_heap (H' := [Dk b s, own none 0 5 1 (bcells []), E]) (fun _ x => close_dk (H := [_, _]) hy x) ?_
      refine Rt2 [Dk b s, own none 0 5 1 (bcells []), E] Try.results18 ?_
      exact ⟨_, _, _, E, rfl, hE, rfl⟩
    · rw [if_neg (by rw [h]; simp), h2] at hr
      dsimp only at hr
      rw [← h5] at hr
      cases hr
      have hxm := List.mem_of_getElem? h4
      have hxb := (hI.fb _ (fileM_mem h3)).1
      rw [← h5] at hxb
      refine Li Mv ?_
      refine Li Ex ?_
      refine Li Ex ?_
      refine Li As ?_
      refine Li As ?_
      refine g_ne ?_
      refine g_seq ?_
      refine g_sr ?_
      refine Li Mv ?_
      refine Li Cm ?_
      refine g_ne ?_
      refine g_cond_f rfl (by rfl) ?_
      refine g_skip ?_
      refine e_then ?_
      refine g_sr ?_
      refine Li Mv ?_
      refine Li Nc ?_
      refine Li (Fa T.fld_89_0) ?_
      refine Lp (oL T.sc_38 ?_ (hk := kn_fi hxm rfl (by repeat (first | exact Sel.here | apply Sel.there))))
      refine Li (Ln T.sl_38) ?_
      refine Lp (oM (x.f.bs.length) (x.f.bs.length) T.ap_38 fun b1 => ?_)
      refine Li As ?_
      refine g_ne ?_
      refine g_sr ?_
      refine Li Mv ?_
      refine Li Mv ?_
      refine Li Nc ?_
      refine Li (Fa T.fld_89_0) ?_
      refine Lp (oL T.sc_38 ?_ (hk := kn_fi hxm rfl (by repeat (first | exact Sel.here | apply Sel.there))))
      refine Lp (op_copy T.ap_38 rfl rfl rfl rfl .here (src_slice (m := x.f.bs.length) (news := bcells x.f.bs) (by simp) fun h le hin => (fi_in (hin.nth 3 rfl) hxm).2) bcells_one (by rw [zrep_length]; omega) rfl ?_)
      have hz : setL (zrep [.int .u8 0] (x.f.bs.length * 1)) 0 ((bcells x.f.bs).take (min x.f.bs.length x.f.bs.length * 1)) = bcells x.f.bs := by
        rw [Nat.min_self, List.take_of_length_le (by simp), setL_eq (by rw [zrep_length]; simp)]
        simp [zrep_length]
      rw [hz]
      refine g_heap (fun _ s => starL_cons_mono (fun _ p => own_of_pts p x.f.bs.length 1 (by simp) (by simp only [maxLen]; omega)) s) ?_
      refine g_ne ?_
      refine g_sr ?_
      refine Li Mv ?_
      refine Li As ?_
      refine Li As ?_
      refine g_ne ?_
      refine g_ret ?_
      refine g_heap (fun _ s => starL_emp (A := empt) (fun _ => trivial) s) ?_
      refine Hh (H' := [pts b 65 (dkC s y), own y.fa y.fc 87 1 (y.fl.map fiP), stars (y.fl.map fiH), mq .string y.nm (mes y.es), mq .string y.sm (mes y.ss), own y.ca y.cc 84 3 (chCs s.chg), own y.pa y.pc 119 3 (ftCs s.plan), own (some ⟨b1, 0, none⟩) x.f.bs.length 5 1 (bcells x.f.bs), empt]) ?_
      refine g_heap (H' := [Dk b s, own (some ⟨b1, 0, none⟩) x.f.bs.length 5 1 (bcells x.f.bs), empt]) (fun _ x => close_dk (H := [_, _]) hy x) ?_
      refine Rt2 [Dk b s, own (some ⟨b1, 0, none⟩) x.f.bs.length 5 1 (bcells x.f.bs), empt] Try.results18 ?_
      exact ⟨_, _, _, empt, rfl, .inl ⟨rfl, rfl, rfl⟩, rfl⟩
end Go.Proofs.Ytncmmhfgcgnojaa

