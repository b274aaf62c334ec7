/- The disk: what its acts do: Create, SyncNames, Sync. -/
import Derived.Test.YtncmmhfgcgnojaaW9
set_option maxRecDepth 100000
namespace Go.Proofs.Ytncmmhfgcgnojaa
open Go Go.Eng

theorem inv_file {s : Ds} (h : Inv s) (h1 : s.files.length + 1 ≤ s.acts) : Inv { s with files := s.files ++ [⟨[], 0⟩] } := by
  refine ⟨h.space, by simp; omega, h.nn, ?_, h.nd, ?_, ?_, h.np⟩
  · intro f hf
    rw [List.mem_append, List.mem_singleton] at hf
    rcases hf with hf | rfl
    · exact h.fb f hf
    · simp
  · intro p hp
    have := h.sk p hp
    exact ⟨this.1, by simp; omega⟩
  · intro c hc
    have := h.ck c hc
    simp; omega
theorem create_clo (b : Nat) (s : Ds) (hI : Inv s) (hn : s.acts ≤ 10000) (h1 : s.files.length + 1 ≤ s.acts) (bd bn : Nat) (name : Nm) (A : HProp) : ∀ m : Int, FnS Try.prog 46 [.int .i64 m, .pointer (some ⟨bd, 0, none⟩), .pointer (some ⟨bn, 0, none⟩)] (capD bd bn b name) [Dk b s, A] (fun v H => v = .int .i64 ((doD 0 name [] [] s m).2 : Int) ∧ H = [Dk b (doD 0 name [] [] s m).1]) := by
  intro m
  rw [do_create]
  generalize he : findE s name = e
  refine fn_body Try.func46 rfl Try.ntmps46 rfl ?_
  rintro F ⟨hF1, hF2⟩
  refine g_sr ?_
  refine Li As ?_
  refine g_ne ?_
  refine g_seq ?_
  refine g_sr ?_
  refine Lp (oL T.sc_25 ?_)
  refine Lp (oL T.sc_9 ?_)
  refine Lp (oC T.fn_47 rfl rfl (findc_fn b s hI name) .nil (fun _ _ hin => hin.nth 0 rfl) ?_)
  rintro v H' ⟨p, rfl, rfl⟩
  try simp only [nap, cap]
  rw [he]
  refine Li Mv ?_
  refine Li Ex ?_
  refine Li Ex ?_
  refine Li As ?_
  refine Li As ?_
  refine g_ne ?_
  refine g_sr ?_
  refine Li Mv ?_
  refine g_ne ?_
  refine g_block ?_
  refine g_sr ?_
  refine Li Cm ?_
  refine Li As ?_
  refine g_ne ?_
  refine g_cond rfl ?_ ?_
  · intro h0
    replace h0 := nrm h0
    obtain rfl : e = 0 := by omega
    rw [if_pos rfl]
    refine g_sr ?_
    refine Li As ?_
    refine g_ne ?_
    refine g_ret ?_
    refine e_block_ret ?_
    refine e_then_ret ?_
    refine Rt [Dk b s] Try.results46 ?_
    exact ⟨rfl, rfl⟩
  · intro h0
    replace h0 := nrm h0
    rw [if_neg (by omega)]
    refine g_sr ?_
    refine Li Cm ?_
    refine Li As ?_
    refine g_ne ?_
    refine g_cond rfl ?_ ?_
    · intro h6
      replace h6 := nrm h6
      obtain rfl : e = 186 := by omega
      rw [if_pos rfl]
      refine g_sr ?_
      refine Li Mv ?_
      refine Li As ?_
      refine g_ne ?_
      refine g_ret ?_
      refine e_block_ret ?_
      refine e_then_ret ?_
      refine Rt [Dk b s] Try.results46 ?_
      exact ⟨rfl, rfl⟩
    · intro h6
      replace h6 := nrm h6
      rw [if_neg (by omega)]
      refine g_opendk fun y hy => ?_
      unfold dkL dkC
      simp only [nap, cap]
      refine g_skip ?_
      refine e_block ?_
      refine e_then ?_
      refine g_seq ?_
      refine gTB 11 T.mix (.cons .here .nil) fun F1 le1 hin1 back1 => ?_
      obtain ⟨hb1, _⟩ := hin1
      have g1 := in_mono hF1 le1
      refine Ti (Lf T.sc_25) ?_
      refine Ti (Lf T.sc_25) ?_
      refine Ti Nc ?_
      refine Ti (Fa T.fld_65_2) ?_
      refine Ti (Lf T.sc_62) ?_
      refine Ti (Bd T.zc_89 T.st_89) ?_
      refine Tp (oB fun b1 => ?_)
      refine Tp (oT T.ap_62 fun b2 => ?_)
      refine Tp (op_append_lit T.ap_62 T.ni_62 rfl rfl rfl rfl (.there .here) ((by rw [List.length_map, lay_len hy, Nat.mul_one])) (rfl) (by simp [Value.oneCell']) (by first | omega | (simp; omega)) (by first | omega | (simp; omega)) rfl fun a5 c5 hc5 => ?_)
      refine Ti Nc ?_
      refine Ti (Fa T.fld_65_2) ?_
      refine TnB back1 ?_
      refine Tp (oS T.sc_62 ?_)
      refine Tne ?_
      refine g_seq ?_
      refine gT false T.mix ?_
      refine Tp (oL T.sc_25 ?_)
      refine Tp (oL T.sc_9 ?_)
      refine Tp (oL T.sc_25 ?_)
      refine Ti Nc ?_
      refine Ti (Fa T.fld_65_2) ?_
      refine Tp (oL T.sc_62 ?_)
      refine Ti (Ln T.sl_62) ?_
      refine Ti Im ?_
      refine Ti (Bd T.zc_84 T.st_84) ?_
      rw [show ((s.files.length + 1 : Nat) : Int) - 1 = (s.files.length : Int) from by omega]
      have hl1 : s.files.length + 1 = (s.files ++ [(⟨[], 0⟩ : Fi)]).length := by simp
      rw [hl1]
      refine Hh (H' := [pts b1 89 (fiC ⟨b1, none, 0, ⟨[], 0⟩⟩), stars (y.fl.map fiH), pts b 65 (dkC { s with files := s.files ++ [⟨[], 0⟩] } { y with fa := a5, fc := c5 }), own a5 c5 87 1 (y.fl.map fiP ++ [.pointer (some ⟨b1, 0, none⟩)]), mq .string y.nm (mes y.es), mq .string y.sm (mes y.ss), own y.ca y.cc 84 3 (chCs s.chg), own y.pa y.pc 119 3 (ftCs s.plan)]) ?_
      refine g_nilrow 5 1 ?_
      refine Hh (H' := [pts b1 89 (fiC ⟨b1, none, 0, ⟨[], 0⟩⟩), own none 0 5 1 (bcells []), stars (y.fl.map fiH), pts b 65 (dkC { s with files := s.files ++ [⟨[], 0⟩] } { y with fa := a5, fc := c5 }), own a5 c5 87 1 (y.fl.map fiP ++ [.pointer (some ⟨b1, 0, none⟩)]), mq .string y.nm (mes y.es), mq .string y.sm (mes y.ss), own y.ca y.cc 84 3 (chCs s.chg), own y.pa y.pc 119 3 (ftCs s.plan)]) ?_
      refine g_heap (fun _ x => stars_push (stars_of (L := [_, _]) x)) ?_
      obtain ⟨x1, hx1⟩ : ∃ x1 : FiL, x1 = ⟨b1, none, 0, ⟨[], 0⟩⟩ := ⟨_, rfl⟩
      have hy2 : LayOk { s with files := s.files ++ [⟨[], 0⟩] } { y with fa := a5, fc := c5, fl := y.fl ++ [x1] } := ⟨by rw [hx1]; simp [hy.fl], hy.es, hy.ss⟩
      have hst : stars (y.fl.map fiH ++ [stars [pts b1 89 (fiC ⟨b1, none, 0, ⟨[], 0⟩⟩), own none 0 5 1 (bcells [])]]) = stars ((y.fl ++ [x1]).map fiH) := by rw [hx1]; simp [fiH]
      rw [hst, show y.fl.map fiP ++ [.pointer (some ⟨b1, 0, none⟩)] = (y.fl ++ [x1]).map fiP from by rw [hx1]; simp [fiP]]
      refine Tp (oC T.fn_48 rfl rfl (turn_open b { s with files := s.files ++ [⟨[], 0⟩] } { y with fa := a5, fc := c5, fl := y.fl ++ [x1] } hy2 ⟨[], name, s.files.length⟩ (inv_file hI h1) hn) (.cons (.there .here) (.cons (.there .here) (.cons .here (.cons .here (.cons .here (.cons .here (.cons .here .nil))))))) (fun _ _ _ => trivial) ?_)
      rintro v H' ⟨rfl, rfl⟩
      try simp only [nap, cap]
      refine Tne ?_
      refine g_sr ?_
      refine Li As ?_
      refine g_ne ?_
      refine g_ret ?_
      refine Rt [Dk b (addF s name)] Try.results46 ?_
      exact ⟨rfl, rfl⟩
def syncN (s : Ds) : Ds := { s with safe := namesL s, chg := [] }
theorem do_syncn (s : Ds) (m : Int) : doD 5 [] [] [] s m = (syncN s, 0) := rfl
theorem syncn_clo (b : Nat) (s : Ds) (bd : Nat) (A : HProp) : ∀ m : Int, FnS Try.prog 49 [.int .i64 m, .pointer (some ⟨bd, 0, none⟩)] (fun h => ∃ k, pts bd 25 [.pointer (some ⟨b, 0, none⟩)] k ∧ Le k h) [Dk b s, A] (fun v H => v = .int .i64 ((doD 5 [] [] [] s m).2 : Int) ∧ H = [Dk b (doD 5 [] [] [] s m).1]) := by
  intro m
  rw [do_syncn]
  refine open_dk fun y hy => ?_
  unfold dkL dkC
  simp only [nap, cap]
  refine fn_body Try.func49 rfl Try.ntmps49 rfl ?_
  intro F hF1
  refine g_sr ?_
  refine Li As ?_
  refine g_ne ?_
  refine g_seq ?_
  refine gTB 8 T.mix (.cons .here .nil) fun F1 le1 hin1 back1 => ?_
  obtain ⟨hb1, _⟩ := hin1
  have g1 := in_mono hF1 le1
  refine Ti (Lf T.sc_25) ?_
  refine Ti (Lf T.sc_25) ?_
  refine Ti Nc ?_
  refine Ti (Fa T.fld_65_3) ?_
  refine Ti (Lf T.sc_61) ?_
  refine Tp (oC T.fn_42 rfl rfl (clone_fn y.nm y.es) (.cons (.there (.there .here)) .nil) (fun _ _ _ => trivial) ?_)
  rintro v H' ⟨bn, rfl, rfl⟩
  try simp only [nap, cap]
  refine Ti Nc ?_
  refine Ti (Fa T.fld_65_4) ?_
  refine TnB back1 ?_
  refine Tp (oS T.sc_61 ?_)
  refine Tne ?_
  refine g_sr ?_
  refine Lp (oL T.sc_25 ?_)
  refine Li Nc ?_
  refine Li (Fa T.fld_65_5) ?_
  refine Lp (oS T.sc_63 ?_)
  refine g_ne ?_
  refine g_sr ?_
  refine Li As ?_
  refine g_ne ?_
  refine g_ret ?_
  refine g_nilrow 84 3 ?_
  refine Hh (H' := [pts b 65 (dkC (syncN s) { y with sm := bn, ss := y.es, ca := none, cc := 0 }), own y.fa y.fc 87 1 (y.fl.map fiP), stars (y.fl.map fiH), mq .string y.nm (mes y.es), mq .string bn (mes y.es), own none 0 84 3 (chCs []), own y.pa y.pc 119 3 (ftCs s.plan)]) ?_
  refine g_heap (H' := [Dk b (syncN s)]) (fun _ x => close_dk (H := []) (y := { y with sm := bn, ss := y.es, ca := none, cc := 0 }) ⟨hy.fl, hy.es, hy.es⟩ x) ?_
  refine Rt [Dk b (syncN s)] Try.results49 ?_
  exact ⟨rfl, rfl⟩
def setF (s : Ds) (i : Nat) (f : Fi) : Ds := { s with files := s.files.set i f }
theorem do_sync_some {s : Ds} {name : Nm} {i : Nat} (h : legalM name = true) (h2 : atM (namesL s) name = some i) (m : Int) : doD 2 name [] [] s m = (setF s i ⟨(fileM s i).bs, (fileM s i).bs.length⟩, 0) := by
  unfold doD setF
  rw [do_ok (by decide) h (by decide), h2]
  rfl
theorem do_none {s : Ds} {k : Nat} {name to : Nm} {p : List UInt8} (hk : k ≠ 5 ∧ k ≠ 0 ∧ k ≠ 3) (h : legalM name = true) (h2 : atM (namesL s) name = none) (m : Int) : doD k name to p s m = (s, 182) := by
  unfold doD
  rw [do_ok hk.1 h (fun e => absurd e hk.2.2), h2]
  dsimp only
  rw [if_neg hk.2.1]
theorem sync_clo (b : Nat) (s : Ds) (hI : Inv s) (bd bn : Nat) (name : Nm) (A : HProp) : ∀ m : Int, FnS Try.prog 55 [.int .i64 m, .pointer (some ⟨bd, 0, none⟩), .pointer (some ⟨bn, 0, none⟩)] (capD bd bn b name) [Dk b s, A] (fun v H => v = .int .i64 ((doD 2 name [] [] s m).2 : Int) ∧ H = [Dk b (doD 2 name [] [] s m).1]) := by
  intro m
  refine open_dk fun y hy => ?_
  unfold dkL dkC
  simp only [nap, cap]
  refine fn_body Try.func55 rfl Try.ntmps55 rfl ?_
  rintro F ⟨hF1, hF2⟩
  refine g_sr ?_
  refine Li As ?_
  refine g_ne ?_
  refine g_sr ?_
  refine Lp (oL T.sc_25 ?_)
  refine Lp (oL T.sc_9 ?_)
  refine Lp (oC T.fn_47 rfl rfl (find_fn b s y hI hy name) .nil (fun _ _ hin => ⟨hin.nth 0 rfl, hin.nth 1 rfl, hin.nth 2 rfl, hin.nth 3 rfl, hin.nth 4 rfl, hin.nth 5 rfl, hin.nth 6 rfl, trivial⟩) ?_)
  rintro v H' ⟨hf, rfl⟩
  try simp only [nap, cap]
  rcases hf with ⟨h, rfl⟩ | ⟨h, h2, rfl⟩ | ⟨h, i, x, h2, h3, h4, h5, rfl⟩
  · rw [show doD 2 name [] [] s m = (s, 186) from do_bad (by decide) h]
    refine Li Mv ?_
    refine Li Ex ?_
    refine Li Ex ?_
    refine Li As ?_
    refine Li As ?_
    refine g_ne ?_
    refine g_seq ?_
    refine g_sr ?_
    refine Li Mv ?_
    refine Li Cm ?_
    refine g_ne ?_
    refine g_cond_f rfl (by rfl) ?_
    refine g_skip ?_
    refine e_then ?_
    refine g_sr ?_
    refine Li Mv ?_
    refine Li As ?_
    refine g_ne ?_
    refine g_ret ?_
    refine g_heap (H' := [Dk b s, A]) (fun _ x => close_dk (H := [A]) hy x) ?_
    refine Rt [Dk b s] Try.results55 ?_
    exact ⟨rfl, rfl⟩
  · rw [do_none (by decide) h h2]
    refine Li Mv ?_
    refine Li Ex ?_
    refine Li Ex ?_
    refine Li As ?_
    refine Li As ?_
    refine g_ne ?_
    refine g_seq ?_
    refine g_sr ?_
    refine Li Mv ?_
    refine Li Cm ?_
    refine g_ne ?_
    refine g_cond_f rfl (by rfl) ?_
    refine g_skip ?_
    refine e_then ?_
    refine g_sr ?_
    refine Li Mv ?_
    refine Li As ?_
    refine g_ne ?_
    refine g_ret ?_
    refine g_heap (H' := [Dk b s, A]) (fun _ x => close_dk (H := [A]) hy x) ?_
    refine Rt [Dk b s] Try.results55 ?_
    exact ⟨rfl, rfl⟩
  · rw [do_sync_some h h2]
    refine Hh (H' := [stars (y.fl.map fiH), pts b 65 (dkC s y), own y.fa y.fc 87 1 (y.fl.map fiP), mq .string y.nm (mes y.es), mq .string y.sm (mes y.ss), own y.ca y.cc 84 3 (chCs s.chg), own y.pa y.pc 119 3 (ftCs s.plan)]) ?_
    refine g_file h4 ?_
    unfold fiC
    refine Li Mv ?_
    refine Li Ex ?_
    refine Li Ex ?_
    refine Li As ?_
    refine Li As ?_
    refine g_ne ?_
    refine g_seq ?_
    refine g_sr ?_
    refine Li Mv ?_
    refine Li Cm ?_
    refine g_ne ?_
    refine g_cond_t rfl (by rfl) ?_
    refine g_region ?_
    refine Li Mv ?_
    refine Li Mv ?_
    refine Li Nc ?_
    refine Li (Fa T.fld_89_0) ?_
    refine Lp (oL T.sc_38 ?_)
    refine Li (Ln T.sl_38) ?_
    refine Li Nc ?_
    refine Li (Fa T.fld_89_1) ?_
    refine Lp (oS T.sc_3 ?_)
    refine g_ne ?_
    refine g_sr ?_
    refine Li Mv ?_
    refine Li As ?_
    refine g_ne ?_
    refine g_ret ?_
    have hlen : (s.files.set i ⟨(fileM s i).bs, (fileM s i).bs.length⟩).length = s.files.length := by simp
    have hs : (y.fl.set i { x with f := ⟨x.f.bs, x.f.bs.length⟩ }).map (·.f) = s.files.set i ⟨(fileM s i).bs, (fileM s i).bs.length⟩ := lay_set hy (by rw [← h5])
    have hp : (y.fl.set i { x with f := ⟨x.f.bs, x.f.bs.length⟩ }).map fiP = y.fl.map fiP := lay_ptr h4 rfl
    refine Hh (H' := [pts x.b 89 [.slice x.a x.f.bs.length x.c, .int .i64 (x.f.bs.length : Int)], own x.a x.c 5 1 (bcells x.f.bs), stars ((y.fl.eraseIdx i).map fiH), pts b 65 (dkC s y), own y.fa y.fc 87 1 (y.fl.map fiP), mq .string y.nm (mes y.es), mq .string y.sm (mes y.ss), own y.ca y.cc 84 3 (chCs s.chg), own y.pa y.pc 119 3 (ftCs s.plan)]) ?_
    refine g_heap (fun _ k => file_back h4 { x with f := ⟨x.f.bs, x.f.bs.length⟩ } k) ?_
    rw [← hp]
    unfold dkC
    rw [← hlen]
    refine Hh (H' := [pts b 65 (dkC (setF s i ⟨(fileM s i).bs, (fileM s i).bs.length⟩) y), own y.fa y.fc 87 1 ((y.fl.set i { x with f := ⟨x.f.bs, x.f.bs.length⟩ }).map fiP), stars ((y.fl.set i { x with f := ⟨x.f.bs, x.f.bs.length⟩ }).map fiH), mq .string y.nm (mes y.es), mq .string y.sm (mes y.ss), own y.ca y.cc 84 3 (chCs s.chg), own y.pa y.pc 119 3 (ftCs s.plan)]) ?_
    refine g_heap (H' := [Dk b (setF s i ⟨(fileM s i).bs, (fileM s i).bs.length⟩)]) (fun _ k => close_dk (H := []) (y := { y with fl := y.fl.set i { x with f := ⟨x.f.bs, x.f.bs.length⟩ } }) ⟨hs, hy.es, hy.ss⟩ k) ?_
    refine Rt [Dk b (setF s i ⟨(fileM s i).bs, (fileM s i).bs.length⟩)] Try.results55 ?_
    exact ⟨rfl, rfl⟩
end Go.Proofs.Ytncmmhfgcgnojaa

