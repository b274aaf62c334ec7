/- The disk: what Append does. -/
import Derived.Test.YtncmmhfgcgnojaaW10
set_option maxRecDepth 100000
namespace Go.Proofs.Ytncmmhfgcgnojaa
open Go Go.Eng

theorem cut2 {h : Hp} {a : Option Addr} {l : List UInt8} (r : Rdl h a (bcells l)) (i m k : Nat) (hm : m = i → k = 0) : Rdl h (cutA a i m (i * 1)) (bcells ((l.drop i).take k)) := by
  have := r.cut i m (i * 1) k hm
  rw [show bcells ((l.drop i).take k) = ((bcells l).drop i).take k from by unfold bcells; rw [List.map_take, List.map_drop]]
  simpa using this
theorem used_append (s : Ds) (l m : List (Nm × Nat)) : usedM s (l ++ m) = usedM s l + usedM s m := by unfold usedM; rw [List.map_append, List.sum_append]
theorem used_cons (s : Ds) (p : Nm × Nat) (m : List (Nm × Nat)) : usedM s (p :: m) = (fileM s p.2).bs.length + usedM s m := by unfold usedM; rw [List.map_cons, List.sum_cons]
theorem mes_append (l m : List (Nm × Nat)) : mes l ++ mes m = mes (l ++ m) := by unfold mes; rw [List.map_append]
theorem do_app_some {s : Ds} {name : Nm} {p : List UInt8} {m : Int} {i : Nat} (h : legalM name = true) (h2 : atM (namesL s) name = some i) :
    doD 1 name [] p s m = (setF s i ⟨(fileM s i).bs ++ (cutP p m).take (roomM s), (fileM s i).sf⟩, if roomM s < (cutP p m).length then 181 else 0) := by
  unfold doD setF
  rw [do_ok (by decide) h (by decide), h2]
  rfl
theorem used_bound {s : Ds} (hI : Inv s) (hn : s.acts ≤ 10000) {l : List (Nm × Nat)} (h : Tbl l s.files.length s.acts) : usedM s l ≤ 209715200000000 := by
  have h1 := used_le (B := 20971520000) h rfl fun f hf => by have := (hI.fb f hf).1; omega
  have h2 := h.len
  have h3 : l.length * 20971520000 ≤ 10000 * 20971520000 := Nat.mul_le_mul_right _ (by omega)
  omega
theorem Tbl.perm {l m : List (Nm × Nat)} {n k : Nat} (p : l.Perm m) (h : Tbl m n k) : Tbl l n k := ⟨by rw [p.length_eq]; exact h.len, keys_nd p h.nd, fun q hq => h.sk q (p.mem_iff.1 hq)⟩
def capA (bd bn b : Nat) (name : Nm) (pa : Option Addr) (p : List UInt8) (h : Hp) : Prop := capD bd bn b name h ∧ Rdl h pa (bcells p)
theorem capA_mono {bd bn b : Nat} {name : Nm} {pa : Option Addr} {p : List UInt8} (h k : Hp) (c : capA bd bn b name pa p h) (l : Le h k) : capA bd bn b name pa p k := ⟨capD_mono _ _ c.1 l, c.2.mono l⟩
set_option maxHeartbeats 1000000 in
theorem append_clo (b : Nat) (s : Ds) (hS : Inv s) (hn : s.acts ≤ 10000) (bd bn bp : Nat) (name : Nm) (pa : Option Addr) (pc : Nat) (p : List UInt8) (hp : p.length ≤ 2097152) (hpc : p.length ≤ pc) (m : Int) (hm : m = -1 ∨ 0 ≤ m) :
    FnS Try.prog 50 [.int .i64 m, .pointer (some ⟨bd, 0, none⟩), .pointer (some ⟨bn, 0, none⟩), .pointer (some ⟨bp, 0, none⟩)] (capA bd bn b name pa p) [Dk b s, pts bp 38 [.slice pa p.length pc]]
      (fun v H => v = .int .i64 ((doD 1 name [] p s m).2 : Int) ∧ H = [Dk b (doD 1 name [] p s m).1]) := by
  have hnm := hS.names
  refine open_dk fun y hy => ?_
  unfold dkL dkC
  simp only [nap, cap]
  refine fn_body Try.func50 rfl Try.ntmps50 rfl ?_
  rintro F ⟨⟨hF1, hF2⟩, hR⟩
  refine g_sr ?_
  refine Li As ?_
  refine g_ne ?_
  refine g_sr ?_
  refine Lp (oL T.sc_25 ?_)
  refine Lp (oL T.sc_9 ?_)
  refine Lp (oC T.fn_47 rfl rfl (find_fn b s y hS hy name) .nil (fun _ _ hin => ⟨hin.nth 0 rfl, hin.nth 1 rfl, hin.nth 2 rfl, hin.nth 3 rfl, hin.nth 4 rfl, hin.nth 5 rfl, hin.nth 6 rfl, trivial⟩) ?_)
  rintro v H' ⟨hf, rfl⟩
  try simp only [nap, cap]
  rcases hf with ⟨h, rfl⟩ | ⟨h, h2, rfl⟩ | ⟨h, i, x, h2, h3, h4, h5, rfl⟩
  · rw [show doD 1 name [] p s m = (s, 186) from do_bad (by decide) h]
    refine Li Mv ?_
    refine Li Ex ?_
    refine Li Ex ?_
    refine Li As ?_
    refine Li As ?_
    refine g_ne ?_
    refine g_seq ?_
    refine g_sr ?_
    refine Li Mv ?_
    refine Li Cm ?_
    refine g_ne ?_
    refine g_cond_t rfl (by rfl) ?_
    refine g_sr ?_
    refine Li Mv ?_
    refine Li As ?_
    refine g_ne ?_
    refine g_ret ?_
    refine e_then_ret ?_
    refine g_heap (H' := [Dk b s, pts bp 38 [.slice pa p.length pc]]) (fun _ x => close_dk (H := [_]) hy x) ?_
    refine Rt [Dk b s] Try.results50 ?_
    exact ⟨rfl, rfl⟩
  · rw [do_none (by decide) h h2]
    refine Li Mv ?_
    refine Li Ex ?_
    refine Li Ex ?_
    refine Li As ?_
    refine Li As ?_
    refine g_ne ?_
    refine g_seq ?_
    refine g_sr ?_
    refine Li Mv ?_
    refine Li Cm ?_
    refine g_ne ?_
    refine g_cond_t rfl (by rfl) ?_
    refine g_sr ?_
    refine Li Mv ?_
    refine Li As ?_
    refine g_ne ?_
    refine g_ret ?_
    refine e_then_ret ?_
    refine g_heap (H' := [Dk b s, pts bp 38 [.slice pa p.length pc]]) (fun _ x => close_dk (H := [_]) hy x) ?_
    refine Rt [Dk b s] Try.results50 ?_
    exact ⟨rfl, rfl⟩
  · rw [do_app_some h h2]
    refine Li Mv ?_
    refine Li Ex ?_
    refine Li Ex ?_
    refine Li As ?_
    refine Li As ?_
    refine g_ne ?_
    refine g_seq ?_
    refine g_sr ?_
    refine Li Mv ?_
    refine Li Cm ?_
    refine g_ne ?_
    refine g_cond_f rfl (by rfl) ?_
    refine g_skip ?_
    refine e_then ?_
    refine g_seq ?_
    refine g_sr ?_
    refine Li Mv ?_
    refine Li Cm ?_
    refine g_ne ?_

    generalize hq : cutP p m = q at *
    have hql : q.length ≤ p.length := by
      rw [← hq]; unfold cutP; split
      · exact Nat.le_refl _
      · rw [List.length_take]; omega
    refine g_mid (ι := Option Addr × Nat) [22, 23, 24, 25, 26, 27] (fun (a', c') => q.length ≤ c' ∧ Rdl F.h a' (bcells q)) (fun (a', c') => []) (fun (a', c') => [mq .string y.nm (mes y.es), pts b 65 (dkC s y), own y.fa y.fc 87 1 (y.fl.map fiP), stars (y.fl.map fiH), mq .string y.sm (mes y.ss), own y.ca y.cc 84 3 (chCs s.chg), own y.pa y.pc 119 3 (ftCs s.plan), pts bp 38 [.slice a' q.length c']]) ?_ ?_
    · refine g_cond rfl ?_ ?_
      · intro hm1
        replace hm1 := nrm hm1
        have hq2 : q = p.take m.toNat := by rw [← hq]; unfold cutP; rw [if_neg hm1]
        have hq3 : q.length = min m.toNat p.length := by rw [hq2, List.length_take]
        refine g_region ?_
        refine Lp (oL T.sc_38 ?_)
        refine Li Mv ?_
        refine Lp (oL T.sc_38 ?_)
        refine Li (Ln T.sl_38) ?_
        refine Li Mi ?_
        refine Li (Sl 0 (min m.toNat p.length) pc T.sl_38) ?_
        rw [← hq3, Nat.sub_zero]
        refine Lp (oS T.sc_38 ?_)
        refine g_nil ?_
        refine Me ((cutA pa 0 pc (0 * 1), pc - 0)) (⟨by omega, by have := cut2 hR 0 pc (min m.toNat p.length) (by omega); rw [List.drop_zero, show p.take (min m.toNat p.length) = q from by rw [hq2, List.take_eq_take_iff]; omega] at this; exact this⟩)
      · intro hm1
        replace hm1 := nrm hm1
        have hq2 : q = p := by rw [← hq]; unfold cutP; rw [if_pos hm1]
        subst hq2
        refine g_skip ?_
        refine Me ((pa, pc)) (⟨hpc, hR⟩)
    rintro ⟨a', c'⟩ hI
    try dsimp only at hI ⊢
    obtain ⟨hc', hRq⟩ := hI
    have hut := used_bound hS hn (hnm.perm hy.es)
    have hspace := hS.space
    have hroom : max 0 ((s.space : Int) - usedM s y.es) = (roomM s : Int) := by unfold roomM; rw [used_perm hy.es]; omega
    have hfb := hS.fb
    refine g_fact (sel_fact (.there (.there .here)) fun k o => own_none o (by rw [List.length_map, lay_len hy]; omega)) fun sa => ?_
    unfold dkC
    refine g_sr ?_
    refine Lp (oL T.sc_25 ?_)
    refine Li Nc ?_
    refine Li (Fa T.fld_65_0) ?_
    refine Lp (oL T.sc_3 ?_)
    refine Li As ?_
    refine g_ne ?_
    refine g_seq ?_
    refine g_sr ?_
    refine Lp (oL T.sc_25 ?_)
    refine Li Nc ?_
    refine Li (Fa T.fld_65_3) ?_
    refine Lp (oL T.sc_61 ?_)
    refine Lp (oQr T.mt_61 fun b1 => ?_)
    refine g_ne ?_
    refine g_block ?_

    refine Lo (ι := List (Nm × Nat) × Option (Value × Value)) [37, 38, 39, 40, 10, 41, 42, 43, 44, 45, 46, 47, 48, 49, 50, 51, 52, 53, 8] (fun (lf, cur) => (∀ p ∈ lf, p.2 < s.files.length) ∧ usedM s lf ≤ usedM s y.es) (fun (lf, cur) => [(8, .int .i64 ((s.space : Int) - usedM s y.es + usedM s lf))]) (fun (lf, cur) => [mqi .string y.nm (mes y.es) b1 (mes lf) cur, pts b 65 (dkC s y), own y.fa y.fc 87 1 (y.fl.map fiP), stars (y.fl.map fiH), mq .string y.sm (mes y.ss), own y.ca y.cc 84 3 (chCs s.chg), own y.pa y.pc 119 3 (ftCs s.plan), pts bp 38 [.slice a' q.length c']]) (fun (lf, cur) => lf.length) ((y.es, none)) ⟨fun p hp => ((hnm.perm hy.es).sk p hp).2, Nat.le_refl _⟩ ?_
    rintro ⟨lf, cur⟩ ⟨hlf, hul⟩
    try dsimp only at hI ⊢
    dsimp only at hlf hul ⊢
    unfold dkC
    refine g_sr ?_
    refine Lp (oQn ?_ ?_)
    · intro h0
      obtain rfl : lf = [] := by simpa [mes] using h0
      refine Li Ex ?_
      refine g_ne ?_
      refine g_seq ?_
      refine g_cond_f rfl (by rfl) ?_
      refine g_exit ?_
      refine e_then_exit ?_
      refine e_then_exit ?_
      refine e_block_hit ?_
      refine e_then ?_
      refine g_seq ?_
      refine g_sr ?_
      refine Li Mv ?_
      refine Li Ma ?_
      refine Li As ?_
      refine g_ne ?_
      refine g_sr ?_
      refine Lp (oL T.sc_38 ?_)
      refine Li (Ln T.sl_38) ?_
      refine Li Mv ?_
      refine Li Cm ?_
      refine g_ne ?_
      rw [show max 0 ((s.space : Int) - usedM s y.es + (usedM s [] : Nat)) = (roomM s : Int) from by rw [← hroom]; congr 1; show _ + ((0 : Nat) : Int) = _; omega]
      refine g_heap (fun _ x => starL_mqi x) ?_
      have hxb := hfb _ (fileM_mem h3)
      rw [← h5] at hxb
      refine g_cond rfl ?_ ?_
      · intro hlt
        replace hlt := nrm hlt
        rw [if_pos (by omega)]
        refine Hh (H' := [stars (y.fl.map fiH), pts b 65 (dkC s y), own y.fa y.fc 87 1 (y.fl.map fiP), mq .string y.nm (mes y.es), mq .string y.sm (mes y.ss), own y.ca y.cc 84 3 (chCs s.chg), own y.pa y.pc 119 3 (ftCs s.plan), pts bp 38 [.slice a' q.length c']]) ?_
        refine g_file h4 ?_
        unfold fiC
        refine g_seq ?_
        refine gT false T.mix ?_
        refine Ti Mv ?_
        refine Ti Mv ?_
        refine Ti Nc ?_
        refine Ti (Fa T.fld_89_0) ?_
        refine Tp (oL T.sc_38 ?_)
        refine Tp (oL T.sc_38 ?_)
        refine Ti Mv ?_
        refine Ti (Sl 0 _ _ T.sl_38) ?_
        rw [Nat.sub_zero, Nat.sub_zero]
        have hRc := cut2 hRq 0 c' (roomM s) (by omega)
        rw [List.drop_zero] at hRc
        have htl : (q.take (roomM s)).length = roomM s := by rw [List.length_take]; omega
        refine Tp (op_append T.ap_38 T.ni_38 rfl rfl rfl rfl (.there .here) (by simp) (src_slice (m := roomM s) (by rw [Nat.mul_one]; simpa using htl) fun h le _ => hRc.mono le) (by first | exact bcells_one | (simp [Value.oneCell', strv])) (by first | omega | (simp; omega)) (by first | omega | (simp; omega)) rfl fun a5 c5 hc5 => ?_)
        have hwl : x.f.bs.length + roomM s = (x.f.bs ++ q.take (roomM s)).length := by rw [List.length_append, htl]
        rw [hwl, ← bcells_append]
        have hlen : (s.files.set i ⟨(fileM s i).bs ++ q.take (roomM s), (fileM s i).sf⟩).length = s.files.length := by simp
        have hs : (y.fl.set i { x with a := a5, c := c5, f := ⟨x.f.bs ++ q.take (roomM s), x.f.sf⟩ }).map (·.f) = s.files.set i ⟨(fileM s i).bs ++ q.take (roomM s), (fileM s i).sf⟩ := lay_set hy (by rw [← h5])
        have hp2 : (y.fl.set i { x with a := a5, c := c5, f := ⟨x.f.bs ++ q.take (roomM s), x.f.sf⟩ }).map fiP = y.fl.map fiP := lay_ptr h4 rfl
        refine Ti Nc ?_
        refine Ti (Fa T.fld_89_0) ?_
        refine Tp (oS T.sc_38 ?_)
        refine Tne ?_
        refine g_sr ?_
        refine Li As ?_
        refine g_ne ?_
        refine g_ret ?_
        refine e_then_ret ?_
        refine Hh (H' := [pts x.b 89 [.slice a5 (x.f.bs ++ q.take (roomM s)).length c5, .int .i64 (x.f.sf : Int)], own a5 c5 5 1 (bcells (x.f.bs ++ q.take (roomM s))), stars ((y.fl.eraseIdx i).map fiH), pts b 65 (dkC s y), own y.fa y.fc 87 1 (y.fl.map fiP), mq .string y.nm (mes y.es), mq .string y.sm (mes y.ss), own y.ca y.cc 84 3 (chCs s.chg), own y.pa y.pc 119 3 (ftCs s.plan)]) ?_
        refine g_heap (fun _ k => file_back h4 { x with a := a5, c := c5, f := ⟨x.f.bs ++ q.take (roomM s), x.f.sf⟩ } k) ?_
        rw [← hp2]
        unfold dkC
        rw [← hlen]
        refine Hh (H' := [pts b 65 (dkC (setF s i ⟨(fileM s i).bs ++ q.take (roomM s), (fileM s i).sf⟩) y), own y.fa y.fc 87 1 ((y.fl.set i { x with a := a5, c := c5, f := ⟨x.f.bs ++ q.take (roomM s), x.f.sf⟩ }).map fiP), stars ((y.fl.set i { x with a := a5, c := c5, f := ⟨x.f.bs ++ q.take (roomM s), x.f.sf⟩ }).map fiH), mq .string y.nm (mes y.es), mq .string y.sm (mes y.ss), own y.ca y.cc 84 3 (chCs s.chg), own y.pa y.pc 119 3 (ftCs s.plan)]) ?_
        refine g_heap (H' := [Dk b (setF s i ⟨(fileM s i).bs ++ q.take (roomM s), (fileM s i).sf⟩)]) (fun _ k => close_dk (H := []) (y := { y with fl := y.fl.set i { x with a := a5, c := c5, f := ⟨x.f.bs ++ q.take (roomM s), x.f.sf⟩ } }) ⟨hs, hy.es, hy.ss⟩ k) ?_
        refine Rt [Dk b (setF s i ⟨(fileM s i).bs ++ q.take (roomM s), (fileM s i).sf⟩)] Try.results50 ?_
        exact ⟨rfl, rfl⟩
      · intro hlt
        replace hlt := nrm hlt
        rw [if_neg (by omega)]
        have hqt : q.take (roomM s) = q := List.take_of_length_le (by omega)
        rw [hqt]
        refine Hh (H' := [stars (y.fl.map fiH), pts b 65 (dkC s y), own y.fa y.fc 87 1 (y.fl.map fiP), mq .string y.nm (mes y.es), mq .string y.sm (mes y.ss), own y.ca y.cc 84 3 (chCs s.chg), own y.pa y.pc 119 3 (ftCs s.plan), pts bp 38 [.slice a' q.length c']]) ?_
        refine g_file h4 ?_
        unfold fiC
        refine g_skip ?_
        refine e_then ?_
        refine g_seq ?_
        refine gT false T.mix ?_
        refine Ti Mv ?_
        refine Ti Mv ?_
        refine Ti Nc ?_
        refine Ti (Fa T.fld_89_0) ?_
        refine Tp (oL T.sc_38 ?_)
        refine Tp (oL T.sc_38 ?_)
        refine Tp (op_append T.ap_38 T.ni_38 rfl rfl rfl rfl (.there .here) (by simp) (src_slice (m := q.length) (by simp) fun h le _ => hRq.mono le) (by first | exact bcells_one | (simp [Value.oneCell', strv])) (by first | omega | (simp; omega)) (by first | omega | (simp; omega)) rfl fun a5 c5 hc5 => ?_)
        have hwl : x.f.bs.length + q.length = (x.f.bs ++ q).length := by simp
        rw [hwl, ← bcells_append]
        have hlen : (s.files.set i ⟨(fileM s i).bs ++ q, (fileM s i).sf⟩).length = s.files.length := by simp
        have hs : (y.fl.set i { x with a := a5, c := c5, f := ⟨x.f.bs ++ q, x.f.sf⟩ }).map (·.f) = s.files.set i ⟨(fileM s i).bs ++ q, (fileM s i).sf⟩ := lay_set hy (by rw [← h5])
        have hp2 : (y.fl.set i { x with a := a5, c := c5, f := ⟨x.f.bs ++ q, x.f.sf⟩ }).map fiP = y.fl.map fiP := lay_ptr h4 rfl
        refine Ti Nc ?_
        refine Ti (Fa T.fld_89_0) ?_
        refine Tp (oS T.sc_38 ?_)
        refine Tne ?_
        refine g_sr ?_
        refine Li As ?_
        refine g_ne ?_
        refine g_ret ?_
        refine Hh (H' := [pts x.b 89 [.slice a5 (x.f.bs ++ q).length c5, .int .i64 (x.f.sf : Int)], own a5 c5 5 1 (bcells (x.f.bs ++ q)), stars ((y.fl.eraseIdx i).map fiH), pts b 65 (dkC s y), own y.fa y.fc 87 1 (y.fl.map fiP), mq .string y.nm (mes y.es), mq .string y.sm (mes y.ss), own y.ca y.cc 84 3 (chCs s.chg), own y.pa y.pc 119 3 (ftCs s.plan)]) ?_
        refine g_heap (fun _ k => file_back h4 { x with a := a5, c := c5, f := ⟨x.f.bs ++ q, x.f.sf⟩ } k) ?_
        rw [← hp2]
        unfold dkC
        rw [← hlen]
        refine Hh (H' := [pts b 65 (dkC (setF s i ⟨(fileM s i).bs ++ q, (fileM s i).sf⟩) y), own y.fa y.fc 87 1 ((y.fl.set i { x with a := a5, c := c5, f := ⟨x.f.bs ++ q, x.f.sf⟩ }).map fiP), stars ((y.fl.set i { x with a := a5, c := c5, f := ⟨x.f.bs ++ q, x.f.sf⟩ }).map fiH), mq .string y.nm (mes y.es), mq .string y.sm (mes y.ss), own y.ca y.cc 84 3 (chCs s.chg), own y.pa y.pc 119 3 (ftCs s.plan)]) ?_
        refine g_heap (H' := [Dk b (setF s i ⟨(fileM s i).bs ++ q, (fileM s i).sf⟩)]) (fun _ k => close_dk (H := []) (y := { y with fl := y.fl.set i { x with a := a5, c := c5, f := ⟨x.f.bs ++ q, x.f.sf⟩ } }) ⟨hs, hy.es, hy.ss⟩ k) ?_
        refine Rt [Dk b (setF s i ⟨(fileM s i).bs ++ q, (fileM s i).sf⟩)] Try.results50 ?_
        exact ⟨rfl, rfl⟩
    · intro l1 k v l2 hl
      obtain ⟨m1, n, j, m2, rfl, rfl, rfl, rfl, rfl⟩ := mes_split hl
      rw [mes_append]
      have hj : j < s.files.length := hlf (n, j) (by simp)
      obtain ⟨z, hz, hzf⟩ := lay_at hy hj
      have hzm := List.mem_of_getElem? hz
      have hfi : (y.fl.map fiP)[j]? = some (fiP z) := by rw [List.getElem?_map, hz]; rfl
      have hzb := hfb _ (fileM_mem hj)
      rw [← hzf] at hzb
      have hu2 : usedM s (m1 ++ (n, j) :: m2) = usedM s (m1 ++ m2) + z.f.bs.length := by rw [used_append, used_cons, used_append, hzf]; dsimp only; omega
      rw [hu2] at hul ⊢
      refine Li Ex ?_
      refine g_ne ?_
      refine g_seq ?_
      refine g_cond_t rfl (by rfl) ?_
      refine g_skip ?_
      refine e_then ?_
      refine g_block ?_
      refine g_sr ?_
      refine Lp (oQe ?_)
      refine Li Ex ?_
      refine Li As ?_
      refine g_ne ?_
      refine g_region ?_
      refine Li Mv ?_
      refine Lp (oL T.sc_25 ?_)
      refine Li Nc ?_
      refine Li (Fa T.fld_65_2) ?_
      refine Lp (oL T.sc_62 ?_)
      refine Li Mv ?_
      refine Li (Ix T.sl_62) ?_
      refine Lp (oL T.sc_87 ?_)
      refine Li Nc ?_
      refine Li (Fa T.fld_89_0) ?_
      refine Lp (oL T.sc_38 ?_ (hk := kn_fi hzm rfl (by repeat (first | exact Sel.here | apply Sel.there))))
      refine Li (Ln T.sl_38) ?_
      refine Li Im ?_
      refine Li As ?_
      refine g_nil ?_
      refine e_block ?_
      refine g_slot (t := 8) (v' := .int .i64 ((s.space : Int) - usedM s y.es + usedM s (m1 ++ m2))) rfl (by refine congrArg (Value.int .i64) ?_; omega) ?_
      refine Ro ((m1 ++ m2, some (strv n, .int .i64 (j : Int)))) (⟨fun p hp => hlf p (by simp at hp ⊢; rcases hp with hp | hp; exact .inl hp; exact .inr (.inr hp)), by dsimp only; omega⟩) ((by simp))
end Go.Proofs.Ytncmmhfgcgnojaa

