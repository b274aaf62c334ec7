/- The law on the disk: an act is as the document says. -/
import Derived.Test.YtncmmhfgcgnojaaR9
set_option maxRecDepth 100000
namespace Go.Proofs.Ytncmmhfgcgnojaa
open Go Go.Eng

def acC (on d : Int) (name to : Nm) (ba : Option Addr) (bl bc : Nat) (pa : Option Addr) (pl pc : Nat) (ca : Option Addr) (cl cc : Nat) (cn : Int) : List Value :=
  [.int .i64 on, .int .i64 d, strv name, strv to, .slice ba bl bc, .slice pa pl pc, .slice ca cl cc, .int .i64 cn]
theorem rows_take {α : Type} {f : α → List Value} {k : Nat} (hf : ∀ a, (f a).length = k) (l : List α) (n : Nat) : (l.flatMap f).take (n * k) = (l.take n).flatMap f := by
  have e : l.flatMap f = (l.take n).flatMap f ++ (l.drop n).flatMap f := by rw [← List.flatMap_append, List.take_append_drop]
  rw [e]
  by_cases h : n ≤ l.length
  · rw [List.take_append_of_le_length (by rw [rows_len hf, List.length_take, Nat.min_eq_left h]; exact Nat.le_refl _), List.take_of_length_le (by rw [rows_len hf, List.length_take, Nat.min_eq_left h]; exact Nat.le_refl _)]
  · rw [List.drop_of_length_le (by omega), List.flatMap_nil, List.append_nil, List.take_of_length_le]
    rw [rows_len hf, List.length_take]
    exact Nat.mul_le_mul_right _ (by omega)
theorem slim_fn (on d : Int) (name to : Nm) (ba : Option Addr) (bc : Nat) (bl : List UInt8) (pa : Option Addr) (pc : Nat) (pl : List Flt) (ca : Option Addr) (cc : Nat) (cl : List Int) (cn : Int) (hb : bl.length ≤ bc) (hp : pl.length ≤ pc) (hc : cl.length ≤ cc) :
    FnS Try.prog 23 [.agg (acC on d name to ba bl.length bc pa pl.length pc ca cl.length cc cn).toArray] (fun _ => True) [] (fun v H => ∃ ba' bc' pa' pc' ca' cc', v = .agg (acC on d name to ba' (bl.take 2097152).length bc' pa' (pl.take 1000).length pc' ca' (cl.take 10000).length cc' cn).toArray ∧
      (bl.take 2097152).length ≤ bc' ∧ (∀ h, Rdl h ba (bcells bl) → Rdl h ba' (bcells (bl.take 2097152))) ∧ (∀ h, Rdl h pa (ftCs pl) → Rdl h pa' (ftCs (pl.take 1000))) ∧ (∀ h, Rdl h ca (icells cl) → Rdl h ca' (icells (cl.take 10000))) ∧ H = []) := by
  unfold acC
  refine fn_body Try.func23 rfl Try.ntmps23 rfl ?_
  intro F hF
  refine g_sr ?_
  refine Lp (oB fun b1 => ?_)
  refine Lp (oA T.zc_44 fun b2 => ?_)
  refine g_ne ?_
  refine g_seq ?_
  refine g_sr ?_
  refine Li (Fa T.fld_44_4) ?_
  refine Lp (oL T.sc_38 ?_)
  refine Li (Ln T.sl_38) ?_
  refine Li Cm ?_
  refine g_ne ?_
  refine g_mid (ι := Option Addr × Nat) [7, 8, 9, 10] (fun (ba', bc') => (bl.take 2097152).length ≤ bc' ∧ (∀ h, Rdl h ba (bcells bl) → Rdl h ba' (bcells (bl.take 2097152)))) (fun (ba', bc') => []) (fun (ba', bc') => [pts b1 44 [.int .i64 on, .int .i64 d, strv name, strv to, .slice ba' (bl.take 2097152).length bc', .slice pa pl.length pc, .slice ca cl.length cc, .int .i64 cn], pts b2 44 [.int .i64 0, .int .i64 0, strv [], strv [], .slice none 0 0, .slice none 0 0, .slice none 0 0, .int .i64 0]]) ?_ ?_
  · refine g_cond rfl ?_ ?_
    · intro h
      replace h := nrm h
      have hl : (bl.take 2097152).length = 2097152 := by rw [List.length_take]; omega
      rw [hl]
      refine g_region ?_
      refine Li (Fa T.fld_44_4) ?_
      refine Lp (oL T.sc_38 ?_)
      refine Li (Sl 0 2097152 _ T.sl_38) ?_
      refine Li (Fa T.fld_44_4) ?_
      refine Lp (oS T.sc_38 ?_)
      refine g_nil ?_
      rw [Nat.sub_zero, Nat.sub_zero]
      refine Me ((cutA ba 0 bc (0 * 1), bc)) (⟨by omega, fun h r => by simpa using cut2 r 0 bc 2097152 (by omega)⟩)
    · intro h
      replace h := nrm h
      have hl : bl.take 2097152 = bl := List.take_of_length_le (by omega)
      rw [hl]
      refine g_skip ?_
      refine Me ((ba, bc)) (⟨hb, fun h r => r⟩)
  rintro ⟨ba', bc'⟩ hI
  try dsimp only at hI ⊢
  obtain ⟨hbc, hbr⟩ := hI
  refine g_seq ?_
  refine g_sr ?_
  refine Li (Fa T.fld_44_5) ?_
  refine Lp (oL T.sc_39 ?_)
  refine Li (Ln T.sl_39) ?_
  refine Li Cm ?_
  refine g_ne ?_
  refine g_mid (ι := Option Addr × Nat) [15, 16, 17, 18] (fun (pa', pc') => ∀ h, Rdl h pa (ftCs pl) → Rdl h pa' (ftCs (pl.take 1000))) (fun (pa', pc') => []) (fun (pa', pc') => [pts b1 44 [.int .i64 on, .int .i64 d, strv name, strv to, .slice ba' (bl.take 2097152).length bc', .slice pa' (pl.take 1000).length pc', .slice ca cl.length cc, .int .i64 cn], pts b2 44 [.int .i64 0, .int .i64 0, strv [], strv [], .slice none 0 0, .slice none 0 0, .slice none 0 0, .int .i64 0]]) ?_ ?_
  · refine g_cond rfl ?_ ?_
    · intro h
      replace h := nrm h
      have hl : (pl.take 1000).length = 1000 := by rw [List.length_take]; omega
      rw [hl]
      refine g_region ?_
      refine Li (Fa T.fld_44_5) ?_
      refine Lp (oL T.sc_39 ?_)
      refine Li (Sl 0 1000 _ T.sl_39) ?_
      refine Li (Fa T.fld_44_5) ?_
      refine Lp (oS T.sc_39 ?_)
      refine g_nil ?_
      rw [Nat.sub_zero, Nat.sub_zero]
      refine Me ((cutA pa 0 pc (0 * 3), pc)) ((fun h r => by have := r.cut 0 pc (0 * 3) (1000 * 3) (by omega); rw [show 0 * 3 = 0 from rfl, List.drop_zero] at this; rw [← show (ftCs pl).take (1000 * 3) = ftCs (pl.take 1000) from rows_take ftC_len pl 1000]; exact this))
    · intro h
      replace h := nrm h
      have hl : pl.take 1000 = pl := List.take_of_length_le (by omega)
      rw [hl]
      refine g_skip ?_
      refine Me ((pa, pc)) ((fun h r => r))
  rintro ⟨pa', pc'⟩ hI
  try dsimp only at hI ⊢
  have hpr := hI
  refine g_seq ?_
  refine g_sr ?_
  refine Li (Fa T.fld_44_6) ?_
  refine Li (Fa T.fld_42_0) ?_
  refine Lp (oL T.sc_40 ?_)
  refine Li (Ln T.sl_40) ?_
  refine Li Cm ?_
  refine g_ne ?_
  refine g_mid (ι := Option Addr × Nat) [24, 25, 26, 27, 28, 29] (fun (ca', cc') => ∀ h, Rdl h ca (icells cl) → Rdl h ca' (icells (cl.take 10000))) (fun (ca', cc') => []) (fun (ca', cc') => [pts b1 44 [.int .i64 on, .int .i64 d, strv name, strv to, .slice ba' (bl.take 2097152).length bc', .slice pa' (pl.take 1000).length pc', .slice ca' (cl.take 10000).length cc', .int .i64 cn], pts b2 44 [.int .i64 0, .int .i64 0, strv [], strv [], .slice none 0 0, .slice none 0 0, .slice none 0 0, .int .i64 0]]) ?_ ?_
  · refine g_cond rfl ?_ ?_
    · intro h
      replace h := nrm h
      have hl : (cl.take 10000).length = 10000 := by rw [List.length_take]; omega
      rw [hl]
      refine g_region ?_
      refine Li (Fa T.fld_44_6) ?_
      refine Li (Fa T.fld_42_0) ?_
      refine Lp (oL T.sc_40 ?_)
      refine Li (Sl 0 10000 _ T.sl_40) ?_
      refine Li (Fa T.fld_44_6) ?_
      refine Li (Fa T.fld_42_0) ?_
      refine Lp (oS T.sc_40 ?_)
      refine g_nil ?_
      rw [Nat.sub_zero, Nat.sub_zero]
      refine Me ((cutA ca 0 cc (0 * 1), cc)) ((fun h r => by have := r.cut 0 cc (0 * 1) 10000 (by omega); rw [show 0 * 1 = 0 from rfl, List.drop_zero] at this; rw [show icells (cl.take 10000) = (icells cl).take 10000 from by unfold icells; rw [List.map_take]]; exact this))
    · intro h
      replace h := nrm h
      have hl : cl.take 10000 = cl := List.take_of_length_le (by omega)
      rw [hl]
      refine g_skip ?_
      refine Me ((ca, cc)) ((fun h r => r))
  rintro ⟨ca', cc'⟩ hI
  try dsimp only at hI ⊢
  have hcr := hI
  refine g_sr ?_
  refine Lp (oLN T.ag_44 ?_)
  refine Lp (oSW T.ag_44 ?_)
  refine g_ne ?_
  refine g_ret ?_
  refine RtC [] T.ag_44 Try.results23 ?_
  exact ⟨ba', bc', pa', pc', ca', cc', rfl, hbc, hbr, hpr, hcr, rfl⟩

theorem rk_lift {f : FuncId} {args : List Value} {b : Nat} {s : Ds} {T : Value → List HProp → Prop} (h : ∀ y, RLayOk s y → FnS Try.prog f args (InL (rkL b s y)) [] T) : FnS Try.prog f args (fun h => ∃ k, Rk b s k ∧ Le k h) [] T := fun F w hp st => by
  obtain ⟨y, hy, hin⟩ := rk_in hp
  exact h y hy F w hin st
theorem dk_lift {f : FuncId} {args : List Value} {b : Nat} {s : Ds} {T : Value → List HProp → Prop} (h : ∀ y, LayOk s y → FnS Try.prog f args (InL (dkL b s y)) [] T) : FnS Try.prog f args (fun h => ∃ k, Dk b s k ∧ Le k h) [] T := fun F w hp st => by
  obtain ⟨y, hy, hin⟩ := dk_in hp
  exact h y hy F w hin st
/-- what an act leaves behind it -/
def stepM (s : Ds) (d : Int) (name to : Nm) (bl : List UInt8) (pl : List Flt) (cl : List Int) (cn : Int) : Ds :=
  if d = 1 then (actM s 0 name [] []).1 else if d = 2 then (actM s 1 name [] (bl.take 2097152)).1 else if d = 3 then (actM s 2 name [] []).1 else if d = 4 then (actM s 3 name to []).1
  else if d = 5 then (actM s 4 name [] []).1 else if d = 6 then (actM s 5 [] [] []).1 else if d = 7 then s else if d = 8 then s else if d = 9 then s else if d = 10 then s else if d = 11 then s
  else if d = 12 then { s with plan := pl.take 1000 } else if d = 13 then restM s (cl.take 10000) cn else s
theorem inv_plan {s : Ds} (h : Inv s) (l : List Flt) (hl : l.length ≤ 1000) : Inv { s with plan := l } := ⟨h.space, h.nf, h.nn, h.fb, h.nd, h.sk, h.ck, hl⟩
def InvN (n : Nat) (s : Ds) : Prop := Inv s ∧ s.acts ≤ n
theorem invN_ite {n : Nat} {c : Prop} [Decidable c] {x y : Ds} (hx : InvN n x) (hy : InvN n y) : InvN n (if c then x else y) := by
  split
  · exact hx
  · exact hy
theorem inv_step {s : Ds} (h : Inv s) (d : Int) (name to : Nm) (bl : List UInt8) (pl : List Flt) (cl : List Int) (cn : Int) : InvN (s.acts + 1) (stepM s d name to bl pl cl cn) := by
  have ha := fun k nm t p hp => inv_act h k nm t p hp
  have h0 : InvN (s.acts + 1) s := ⟨h, Nat.le_succ _⟩
  have h1 : ∀ k nm t, InvN (s.acts + 1) (actM s k nm t []).1 := fun k nm t => ⟨(ha k nm t [] (by simp)).1, Nat.le_of_eq (ha k nm t [] (by simp)).2⟩
  have hb : (bl.take 2097152).length ≤ 2097152 := by rw [List.length_take]; omega
  unfold stepM
  refine invN_ite (h1 _ _ _) (invN_ite ⟨(ha 1 name [] _ hb).1, Nat.le_of_eq (ha 1 name [] _ hb).2⟩ (invN_ite (h1 _ _ _) (invN_ite (h1 _ _ _) (invN_ite (h1 _ _ _) (invN_ite (h1 _ _ _) (invN_ite h0 (invN_ite h0 (invN_ite h0 (invN_ite h0 (invN_ite h0 (invN_ite ?_ (invN_ite ?_ h0))))))))))))
  · exact ⟨inv_plan h _ (by rw [List.length_take]; omega), Nat.le_succ _⟩
  · exact ⟨inv_rest h _ _, Nat.le_succ _⟩
theorem icells_one (l : List Int) : ∀ v ∈ icells l, v.oneCell' = true := by
  intro v hv
  obtain ⟨z, _, rfl⟩ := List.mem_map.1 hv
  rfl
theorem kindT_len (k : Nat) : (kindT k).length ≤ 100 := by
  unfold kindT
  rcases (by omega : k = 0 ∨ k = 1 ∨ k = 2 ∨ k = 3 ∨ k = 4 ∨ k = 5 ∨ 6 ≤ k) with rfl | rfl | rfl | rfl | rfl | rfl | h
  all_goals first
    | decide
    | (rw [List.getD_eq_getElem?_getD, List.getElem?_eq_none (by simpa using h)]; simp)
set_option maxHeartbeats 4000000 in
theorem acts_law (db rb : Nat) (s : Ds) (hS : Inv s) (hn : s.acts ≤ 9000) (on d : Int) (name to : Nm) (hname : name.length ≤ 140737488355328) (ba : Option Addr) (bc : Nat) (bl : List UInt8) (pa : Option Addr) (pc : Nat) (pl : List Flt) (ca : Option Addr) (cc : Nat) (cl : List Int) (cn : Int) (hb : bl.length ≤ bc) (hp : pl.length ≤ pc) (hc : cl.length ≤ cc) :
    FnS Try.prog 8 [.pointer (some ⟨db, 0, none⟩), .pointer (some ⟨rb, 0, none⟩), .agg (acC on d name to ba bl.length bc pa pl.length pc ca cl.length cc cn).toArray] (fun h => Rdl h ba (bcells bl) ∧ Rdl h pa (ftCs pl) ∧ Rdl h ca (icells cl))
      [Dk db s, Rk rb s] (fun v H => v = .bool true ∧ H = [Dk db (stepM s d name to bl pl cl cn), Rk rb (stepM s d name to bl pl cl cn)]) := by
  obtain ⟨s', hs'⟩ : ∃ s', stepM s d name to bl pl cl cn = s' := ⟨_, rfl⟩
  rw [hs']
  unfold stepM at hs'
  have hsl := fun h1 h2 h3 => slim_fn on d name to ba bc bl pa pc pl ca cc cl cn h1 h2 h3
  have hsl := hsl hb hp hc
  have hbt : (bl.take 2097152).length ≤ 2097152 := by rw [List.length_take]; omega
  have hpt : (pl.take 1000).length ≤ 1000 := by rw [List.length_take]; omega
  have hnol : (namesOut s).length ≤ 100000 := by unfold namesOut keysL; split <;> simp [sortL_len]; have := hS.names.len; omega
  have hct : (cl.take 10000).length ≤ 10000 := by rw [List.length_take]; omega
  unfold acC at hsl ⊢
  refine fn_body Try.func8 rfl Try.ntmps8 rfl ?_
  rintro F ⟨hRb, hRp, hRc⟩
  refine g_sr ?_
  refine Lp (oB fun b1 => ?_)
  refine Li As ?_
  refine g_ne ?_
  refine g_sr ?_
  refine Lp (oLN T.ag_44 ?_)
  refine Lp (oC T.fn_23 rfl rfl (hsl) .nil (fun _ _ _ => trivial) ?_)
  rintro v H' ⟨ba', bc', pa', pc', ca', cc', rfl, hbc, hbr, hpr, hcr, rfl⟩
  try simp only [nap, cap]
  replace hRb := hbr _ hRb
  replace hRp := hpr _ hRp
  replace hRc := hcr _ hRc
  clear hsl hbr hpr hcr
  generalize hbl : bl.take 2097152 = bm at *
  generalize hplm : pl.take 1000 = pm at *
  generalize hclm : cl.take 10000 = cm at *
  refine Lp (oSN T.ag_44 ?_)
  refine g_ne ?_
  refine g_seq ?_
  refine g_sr ?_
  refine Li (Fa T.fld_44_1) ?_
  refine Lp (oL T.sc_3 ?_)
  refine g_ne ?_
  refine g_block ?_
  refine g_sr ?_
  refine Li Cm ?_
  refine Li As ?_
  refine g_ne ?_
  refine g_cond rfl ?_ ?_
  · intro d1
    replace d1 := nrm d1
    rw [if_pos d1] at hs'
    subst hs'
    refine g_seq ?_
    refine gTB 10 T.mix (.cons .here .nil) fun F1 le1 hin1 back1 => ?_
    obtain ⟨hbx, _⟩ := hin1
    refine Ti Mv ?_
    refine Ti (Fa T.fld_44_2) ?_
    refine Ti (Lf T.sc_9) ?_
    refine Tp (oC T.fn_13 rfl rfl (create_m db s hS (by omega) name) (.cons .here .nil) (fun _ _ _ => trivial) ?_)
    rintro v H' ⟨E, hE, rfl⟩
    try simp only [nap, cap]
    refine Ti Mv ?_
    refine Ti (Fa T.fld_44_2) ?_
    refine Ti (Lf T.sc_9) ?_
    refine Tp (oC T.fn_24 rfl rfl (rcreate_m rb s hS (by omega) name) (.cons (.there (.there .here)) .nil) (fun _ _ _ => trivial) ?_)
    rintro v H' ⟨rfl, rfl⟩
    try simp only [nap, cap]
    refine Tp (oC T.fn_7 rfl rfl (told_fn (kindT 0) name _ _ E hE (kindT_len 0) hname) .nil (fun _ _ hin => hin.nth 2 rfl) ?_)
    rintro v H' ⟨rfl, rfl⟩
    try simp only [nap, cap]
    refine Ti As ?_
    refine TnB back1 ?_
    refine Tne ?_
    refine g_ret ?_
    refine e_block_ret ?_
    refine e_then_ret ?_
    refine Rt [Dk db (actM s 0 name [] []).1, Rk rb (actM s 0 name [] []).1] Try.results8 ?_
    exact ⟨rfl, rfl⟩
  · intro d1
    replace d1 := nrm d1
    rw [if_neg d1] at hs'
    refine g_sr ?_
    refine Li Cm ?_
    refine Li As ?_
    refine g_ne ?_
    refine g_cond rfl ?_ ?_
    · intro d2
      replace d2 := nrm d2
      rw [if_pos d2] at hs'
      subst hs'
      refine g_seq ?_
      refine gTB 16 T.mix (.cons .here .nil) fun F2 le2 hin2 back2 => ?_
      obtain ⟨hbx, _⟩ := hin2
      have hRb2 := hRb.mono le2
      refine Ti Mv ?_
      refine Ti (Fa T.fld_44_2) ?_
      refine Ti (Lf T.sc_9) ?_
      refine Tp (oT T.ap_38 fun b2 => ?_)
      refine Ti (Fa T.fld_44_4) ?_
      refine Ti (Lf T.sc_38) ?_
      refine g_heap (fun _ s => starL_cons_mono (fun _ p => own_emp 1 p (by rfl)) s) ?_
      refine Tp (op_append T.ap_38 T.ni_38 rfl rfl rfl rfl .here (rfl) (src_slice (m := bm.length) (by simp) fun h le _ => hRb2.mono le) (bcells_one) (by first | omega | (simp; omega)) (by first | omega | (simp; omega)) rfl fun a5 c5 hc5 => ?_)
      rw [List.nil_append, Nat.zero_add bm.length]
      refine Tp (oC T.fn_17 rfl rfl (append_m db s hS (by omega) name a5 bm.length c5 bm rfl hbt (by omega)) (.cons (.there .here) .nil) (fun _ _ hin => own_in (hin.nth 0 rfl)) ?_)
      rintro v H' ⟨E, hE, rfl⟩
      try simp only [nap, cap]
      refine Ti Mv ?_
      refine Ti (Fa T.fld_44_2) ?_
      refine Ti (Lf T.sc_9) ?_
      refine Ti (Fa T.fld_44_4) ?_
      refine Ti (Lf T.sc_38) ?_
      refine Tp (oC T.fn_25 rfl rfl (rappend_m rb s hS (by omega) name ba' bm.length bc' bm rfl hbt hbc) (.cons (.there (.there (.there .here))) .nil) (fun _ le _ => hRb2.mono le) ?_)
      rintro v H' ⟨rfl, rfl⟩
      try simp only [nap, cap]
      refine Tp (oC T.fn_7 rfl rfl (told_fn (kindT 1) name _ _ E hE (kindT_len 1) hname) .nil (fun _ _ hin => hin.nth 2 rfl) ?_)
      rintro v H' ⟨rfl, rfl⟩
      try simp only [nap, cap]
      refine Ti As ?_
      refine TnB back2 ?_
      refine Tne ?_
      refine g_ret ?_
      refine e_block_ret ?_
      refine e_then_ret ?_
      refine Rt [Dk db (actM s 1 name [] bm).1, Rk rb (actM s 1 name [] bm).1] Try.results8 ?_
      exact ⟨rfl, rfl⟩
    · intro d2
      replace d2 := nrm d2
      rw [if_neg d2] at hs'
      refine g_sr ?_
      refine Li Cm ?_
      refine Li As ?_
      refine g_ne ?_
      refine g_cond rfl ?_ ?_
      · intro d3
        replace d3 := nrm d3
        rw [if_pos d3] at hs'
        subst hs'
        refine g_seq ?_
        refine gTB 10 T.mix (.cons .here .nil) fun F3 le3 hin3 back3 => ?_
        obtain ⟨hbx, _⟩ := hin3
        refine Ti Mv ?_
        refine Ti (Fa T.fld_44_2) ?_
        refine Ti (Lf T.sc_9) ?_
        refine Tp (oC T.fn_26 rfl rfl (sync_m db s hS (by omega) name) (.cons .here .nil) (fun _ _ _ => trivial) ?_)
        rintro v H' ⟨E, hE, rfl⟩
        try simp only [nap, cap]
        refine Ti Mv ?_
        refine Ti (Fa T.fld_44_2) ?_
        refine Ti (Lf T.sc_9) ?_
        refine Tp (oC T.fn_27 rfl rfl (rsync_m rb s hS (by omega) name) (.cons (.there (.there .here)) .nil) (fun _ _ _ => trivial) ?_)
        rintro v H' ⟨rfl, rfl⟩
        try simp only [nap, cap]
        refine Tp (oC T.fn_7 rfl rfl (told_fn (kindT 2) name _ _ E hE (kindT_len 2) hname) .nil (fun _ _ hin => hin.nth 2 rfl) ?_)
        rintro v H' ⟨rfl, rfl⟩
        try simp only [nap, cap]
        refine Ti As ?_
        refine TnB back3 ?_
        refine Tne ?_
        refine g_ret ?_
        refine e_block_ret ?_
        refine e_then_ret ?_
        refine Rt [Dk db (actM s 2 name [] []).1, Rk rb (actM s 2 name [] []).1] Try.results8 ?_
        exact ⟨rfl, rfl⟩
      · intro d3
        replace d3 := nrm d3
        rw [if_neg d3] at hs'
        refine g_sr ?_
        refine Li Cm ?_
        refine Li As ?_
        refine g_ne ?_
        refine g_cond rfl ?_ ?_
        · intro d4
          replace d4 := nrm d4
          rw [if_pos d4] at hs'
          subst hs'
          refine g_seq ?_
          refine gTB 14 T.mix (.cons .here .nil) fun F4 le4 hin4 back4 => ?_
          obtain ⟨hbx, _⟩ := hin4
          refine Ti Mv ?_
          refine Ti (Fa T.fld_44_2) ?_
          refine Ti (Lf T.sc_9) ?_
          refine Ti (Fa T.fld_44_3) ?_
          refine Ti (Lf T.sc_9) ?_
          refine Tp (oC T.fn_28 rfl rfl (rename_m db s hS (by omega) name to) (.cons .here .nil) (fun _ _ _ => trivial) ?_)
          rintro v H' ⟨E, hE, rfl⟩
          try simp only [nap, cap]
          refine Ti Mv ?_
          refine Ti (Fa T.fld_44_2) ?_
          refine Ti (Lf T.sc_9) ?_
          refine Ti (Fa T.fld_44_3) ?_
          refine Ti (Lf T.sc_9) ?_
          refine Tp (oC T.fn_29 rfl rfl (rrename_m rb s hS (by omega) name to) (.cons (.there (.there .here)) .nil) (fun _ _ _ => trivial) ?_)
          rintro v H' ⟨rfl, rfl⟩
          try simp only [nap, cap]
          refine Tp (oC T.fn_7 rfl rfl (told_fn (kindT 3) name _ _ E hE (kindT_len 3) hname) .nil (fun _ _ hin => hin.nth 2 rfl) ?_)
          rintro v H' ⟨rfl, rfl⟩
          try simp only [nap, cap]
          refine Ti As ?_
          refine TnB back4 ?_
          refine Tne ?_
          refine g_ret ?_
          refine e_block_ret ?_
          refine e_then_ret ?_
          refine Rt [Dk db (actM s 3 name to []).1, Rk rb (actM s 3 name to []).1] Try.results8 ?_
          exact ⟨rfl, rfl⟩
        · intro d4
          replace d4 := nrm d4
          rw [if_neg d4] at hs'
          refine g_sr ?_
          refine Li Cm ?_
          refine Li As ?_
          refine g_ne ?_
          refine g_cond rfl ?_ ?_
          · intro d5
            replace d5 := nrm d5
            rw [if_pos d5] at hs'
            subst hs'
            refine g_seq ?_
            refine gTB 10 T.mix (.cons .here .nil) fun F5 le5 hin5 back5 => ?_
            obtain ⟨hbx, _⟩ := hin5
            refine Ti Mv ?_
            refine Ti (Fa T.fld_44_2) ?_
            refine Ti (Lf T.sc_9) ?_
            refine Tp (oC T.fn_30 rfl rfl (remove_m db s hS (by omega) name) (.cons .here .nil) (fun _ _ _ => trivial) ?_)
            rintro v H' ⟨E, hE, rfl⟩
            try simp only [nap, cap]
            refine Ti Mv ?_
            refine Ti (Fa T.fld_44_2) ?_
            refine Ti (Lf T.sc_9) ?_
            refine Tp (oC T.fn_31 rfl rfl (rremove_m rb s hS (by omega) name) (.cons (.there (.there .here)) .nil) (fun _ _ _ => trivial) ?_)
            rintro v H' ⟨rfl, rfl⟩
            try simp only [nap, cap]
            refine Tp (oC T.fn_7 rfl rfl (told_fn (kindT 4) name _ _ E hE (kindT_len 4) hname) .nil (fun _ _ hin => hin.nth 2 rfl) ?_)
            rintro v H' ⟨rfl, rfl⟩
            try simp only [nap, cap]
            refine Ti As ?_
            refine TnB back5 ?_
            refine Tne ?_
            refine g_ret ?_
            refine e_block_ret ?_
            refine e_then_ret ?_
            refine Rt [Dk db (actM s 4 name [] []).1, Rk rb (actM s 4 name [] []).1] Try.results8 ?_
            exact ⟨rfl, rfl⟩
          · intro d5
            replace d5 := nrm d5
            rw [if_neg d5] at hs'
            refine g_sr ?_
            refine Li Cm ?_
            refine Li As ?_
            refine g_ne ?_
            refine g_cond rfl ?_ ?_
            · intro d6
              replace d6 := nrm d6
              rw [if_pos d6] at hs'
              subst hs'
              refine g_sr ?_
              refine Li Mv ?_
              refine Lp (oC T.fn_15 rfl rfl (syncn_m db s hS (by omega)) (.cons (.there .here) .nil) (fun _ _ _ => trivial) ?_)
              rintro v H' ⟨E, hE, rfl⟩
              try simp only [nap, cap]
              refine Li Mv ?_
              refine Lp (oC T.fn_32 rfl rfl (rsyncn_m rb s hS (by omega)) (.cons (.there (.there (.there .here))) .nil) (fun _ _ _ => trivial) ?_)
              rintro v H' ⟨rfl, rfl⟩
              try simp only [nap, cap]
              refine Lp (oC T.fn_7 rfl rfl (told_fn (kindT 5) [] _ _ E hE (kindT_len 5) (by simp)) .nil (fun _ _ hin => hin.nth 2 rfl) ?_)
              rintro v H' ⟨rfl, rfl⟩
              try simp only [nap, cap]
              refine Li As ?_
              refine g_ne ?_
              refine g_ret ?_
              refine e_block_ret ?_
              refine e_then_ret ?_
              refine Rt [Dk db (actM s 5 [] [] []).1, Rk rb (actM s 5 [] [] []).1] Try.results8 ?_
              exact ⟨rfl, rfl⟩
            · intro d6
              replace d6 := nrm d6
              rw [if_neg d6] at hs'
              refine g_sr ?_
              refine Li Cm ?_
              refine Li As ?_
              refine g_ne ?_
              refine g_cond rfl ?_ ?_
              · intro d7
                replace d7 := nrm d7
                rw [if_pos d7] at hs'
                subst hs'
                refine g_sr ?_
                refine Li Mv ?_
                refine Li (Fa T.fld_44_2) ?_
                refine Lp (oL T.sc_9 ?_)
                refine Lp (oC T.fn_18 rfl rfl (read_m db s hS (by omega) name) (.cons (.there .here) .nil) (fun _ _ _ => trivial) ?_)
                rintro v H' ⟨a1, c1, ve, E, rfl, hE, rfl⟩
                try simp only [nap, cap]
                refine Li Mv ?_
                refine Li Ex ?_
                refine Li Ex ?_
                refine Li As ?_
                refine Li As ?_
                refine g_ne ?_
                refine g_sr ?_
                refine Li Mv ?_
                refine Li (Fa T.fld_44_2) ?_
                refine Lp (oL T.sc_9 ?_)
                refine Lp (oC T.fn_33 rfl rfl (rk_lift fun y hy => rread_fn rb s y hS (by omega) hy name) .nil (fun _ _ hin => hin.nth 4 rfl) ?_)
                rintro v H' ⟨a2, c2, rfl, rfl⟩
                try simp only [nap, cap]
                unfold faultV
                refine Li Mv ?_
                refine Li Ex ?_
                refine Li Ex ?_
                refine Lp (oA T.zc_34 fun b3 => ?_)
                refine Li As ?_
                refine Lp (oSW T.ag_34 ?_)
                refine g_ne ?_
                refine g_sr ?_
                refine Li Mv ?_
                refine Lp (oLN T.ag_34 ?_)
                refine Lp (oC T.fn_7 rfl rfl (told_fn readT name _ _ E hE (by decide) hname) .nil (fun _ _ hin => hin.nth 4 rfl) ?_)
                rintro v H' ⟨rfl, rfl⟩
                try simp only [nap, cap]
                refine Li Mv ?_
                refine g_slot (t := 106) (v' := .bool true) rfl (congrArg Value.bool (by rfl)) ?_
                refine Li Mv ?_
                refine Lp (op_yH rfl rfl (fun h hin le => Ts T.sl_38 T.u_5 T.u_9 (hr := own_in (hin.nth 3 rfl))) ?_)
                refine Li Mv ?_
                refine Lp (op_yH rfl rfl (fun h hin le => Ts T.sl_38 T.u_5 T.u_9 (hr := own_in (hin.nth 1 rfl))) ?_)
                refine Li Sq ?_
                refine Li Pt ?_
                refine Li As ?_
                refine g_ne ?_
                refine g_ret ?_
                refine e_block_ret ?_
                refine e_then_ret ?_
                refine Rt [Dk db s, Rk rb s] Try.results8 ?_
                refine ⟨?_, rfl⟩
                simp
              · intro d7
                replace d7 := nrm d7
                rw [if_neg d7] at hs'
                refine g_sr ?_
                refine Li Cm ?_
                refine Li As ?_
                refine g_ne ?_
                refine g_cond rfl ?_ ?_
                · intro d8
                  replace d8 := nrm d8
                  rw [if_pos d8] at hs'
                  subst hs'
                  refine g_sr ?_
                  refine Li Mv ?_
                  refine Lp (oC T.fn_20 rfl rfl (names_m db s hS (by omega)) (.cons (.there .here) .nil) (fun _ _ _ => trivial) ?_)
                  rintro v H' ⟨a1, c1, rfl, rfl⟩
                  try simp only [nap, cap]
                  refine Li Mv ?_
                  refine Lp (oC T.fn_35 rfl rfl (rk_lift fun y hy => rnames_fn rb s y hS (by omega) hy) .nil (fun _ _ hin => hin.nth 3 rfl) ?_)
                  rintro v H' ⟨a2, c2, rfl, rfl⟩
                  try simp only [nap, cap]
                  refine Lp (oC T.fn_34 rfl rfl (texts_fn a1 a2 _ _ c1 c2 (namesOut s) rfl rfl hnol) .nil (fun _ _ hin => ⟨own_in (hin.nth 2 rfl), own_in (hin.nth 0 rfl)⟩) ?_)
                  rintro v H' ⟨rfl, rfl⟩
                  try simp only [nap, cap]
                  refine Li As ?_
                  refine g_ne ?_
                  refine g_ret ?_
                  refine e_block_ret ?_
                  refine e_then_ret ?_
                  refine Rt [Dk db s, Rk rb s] Try.results8 ?_
                  exact ⟨rfl, rfl⟩
                · intro d8
                  replace d8 := nrm d8
                  rw [if_neg d8] at hs'
                  refine g_sr ?_
                  refine Li Cm ?_
                  refine Li As ?_
                  refine g_ne ?_
                  refine g_cond rfl ?_ ?_
                  · intro d9
                    replace d9 := nrm d9
                    rw [if_pos d9] at hs'
                    subst hs'
                    refine g_sr ?_
                    refine Li Mv ?_
                    refine Lp (oC T.fn_14 rfl rfl (loose_m db s hS) (.cons (.there .here) .nil) (fun _ _ _ => trivial) ?_)
                    rintro v H' ⟨rfl, rfl⟩
                    try simp only [nap, cap]
                    refine Li Mv ?_
                    refine Lp (oC T.fn_36 rfl rfl (rk_lift fun y hy => rloose_fn rb s y hS (by omega) hy) .nil (fun _ _ hin => hin.nth 2 rfl) ?_)
                    rintro v H' ⟨rfl, rfl⟩
                    try simp only [nap, cap]
                    refine Li (Bq T.u_4) ?_
                    refine Li As ?_
                    refine g_ne ?_
                    refine g_ret ?_
                    refine e_block_ret ?_
                    refine e_then_ret ?_
                    refine Rt [Dk db s, Rk rb s] Try.results8 ?_
                    exact ⟨by simp, rfl⟩
                  · intro d9
                    replace d9 := nrm d9
                    rw [if_neg d9] at hs'
                    refine g_sr ?_
                    refine Li Cm ?_
                    refine Li As ?_
                    refine g_ne ?_
                    refine g_cond rfl ?_ ?_
                    · intro d10
                      replace d10 := nrm d10
                      rw [if_pos d10] at hs'
                      subst hs'
                      refine g_sr ?_
                      refine Li Mv ?_
                      refine Lp (oC T.fn_19 rfl rfl (dk_lift fun y hy => acts_fn db s y) .nil (fun _ _ hin => hin.nth 1 rfl) ?_)
                      rintro v H' ⟨rfl, rfl⟩
                      try simp only [nap, cap]
                      refine Li Mv ?_
                      refine Lp (oC T.fn_37 rfl rfl (rk_lift fun y hy => racts_fn rb s y) .nil (fun _ _ hin => hin.nth 2 rfl) ?_)
                      rintro v H' ⟨rfl, rfl⟩
                      try simp only [nap, cap]
                      refine Li Cm ?_
                      refine Li As ?_
                      refine g_ne ?_
                      refine g_ret ?_
                      refine e_block_ret ?_
                      refine e_then_ret ?_
                      refine Rt [Dk db s, Rk rb s] Try.results8 ?_
                      exact ⟨by simp, rfl⟩
                    · intro d10
                      replace d10 := nrm d10
                      rw [if_neg d10] at hs'
                      refine g_sr ?_
                      refine Li Cm ?_
                      refine Li As ?_
                      refine g_ne ?_
                      refine g_cond rfl ?_ ?_
                      · intro d11
                        replace d11 := nrm d11
                        rw [if_pos d11] at hs'
                        subst hs'
                        refine g_sr ?_
                        refine Li Mv ?_
                        refine Lp (oC T.fn_12 rfl rfl (dk_lift fun y hy => power_fn db s y) .nil (fun _ _ hin => hin.nth 1 rfl) ?_)
                        rintro v H' ⟨rfl, rfl⟩
                        try simp only [nap, cap]
                        refine Li Mv ?_
                        refine Lp (oC T.fn_38 rfl rfl (rk_lift fun y hy => rpower_fn rb s y) .nil (fun _ _ hin => hin.nth 2 rfl) ?_)
                        rintro v H' ⟨rfl, rfl⟩
                        try simp only [nap, cap]
                        refine Li (Bq T.u_4) ?_
                        refine Li As ?_
                        refine g_ne ?_
                        refine g_ret ?_
                        refine e_block_ret ?_
                        refine e_then_ret ?_
                        refine Rt [Dk db s, Rk rb s] Try.results8 ?_
                        exact ⟨by simp, rfl⟩
                      · intro d11
                        replace d11 := nrm d11
                        rw [if_neg d11] at hs'
                        refine g_sr ?_
                        refine Li Cm ?_
                        refine Li As ?_
                        refine g_ne ?_
                        refine g_cond rfl ?_ ?_
                        · intro d12
                          replace d12 := nrm d12
                          rw [if_pos d12] at hs'
                          subst hs'
                          refine g_sr ?_
                          refine Li Mv ?_
                          refine Lp (oT2 T.ap_39 fun b4 => ?_)
                          refine Li (Fa T.fld_44_5) ?_
                          refine Lp (oL T.sc_39 ?_)
                          refine g_heap (fun _ s => starL_cons_mono (fun _ p => own_emp 3 p (by rfl)) s) ?_
                          refine Lp (op_append T.ap_39 T.ni_39 rfl rfl rfl rfl .here (rfl) (src_slice (m := pm.length) (ftCs_len pm) fun h le _ => hRp.mono le) (ftCs_one pm) (by first | omega | (simp; omega)) (by first | omega | (simp; omega)) rfl fun a5 c5 hc5 => ?_)
                          rw [List.nil_append, Nat.zero_add pm.length]
                          refine Lp (oC T.fn_39 rfl rfl (plan_fn db s a5 pm.length c5 pm rfl hpt) (.cons (.there (.there .here)) .nil) (fun _ _ hin => own_in (hin.nth 0 rfl)) ?_)
                          rintro v H' ⟨rfl, rfl⟩
                          try simp only [nap, cap]
                          refine g_ne ?_
                          refine g_region ?_
                          refine Li Mv ?_
                          refine Li (Fa T.fld_44_5) ?_
                          refine Lp (oL T.sc_39 ?_)
                          refine Lp (oC T.fn_40 rfl rfl (rplan_fn rb s pa' pm.length pc' pm rfl hpt) (.cons (.there (.there (.there .here))) .nil) (fun _ le _ => hRp.mono le) ?_)
                          rintro v H' ⟨rfl, rfl⟩
                          try simp only [nap, cap]
                          refine g_nil ?_
                          refine e_block ?_
                          refine e_then ?_
                          refine g_sr ?_
                          refine Li As ?_
                          refine g_ne ?_
                          refine g_ret ?_
                          refine Rt [Dk db { s with plan := pm }, Rk rb { s with plan := pm }] Try.results8 ?_
                          exact ⟨rfl, rfl⟩
                        · intro d12
                          replace d12 := nrm d12
                          rw [if_neg d12] at hs'
                          refine g_sr ?_
                          refine Li Cm ?_
                          refine Li As ?_
                          refine g_ne ?_
                          refine g_cond rfl ?_ ?_
                          · intro d13
                            replace d13 := nrm d13
                            rw [if_pos d13] at hs'
                            subst hs'
                            refine g_seq ?_
                            refine gTB 10 T.mix (.cons .here .nil) fun F6 le6 hin6 back6 => ?_
                            obtain ⟨hbx, _⟩ := hin6
                            have hRc2 := hRc.mono le6
                            refine Ti Mv ?_
                            refine Tp (oT T.ap_40 fun b5 => ?_)
                            refine Ti (Fa T.fld_44_6) ?_
                            refine Ti (Fa T.fld_42_0) ?_
                            refine Ti (Lf T.sc_40) ?_
                            refine g_heap (fun _ s => starL_cons_mono (fun _ p => own_emp 1 p (by rfl)) s) ?_
                            refine Tp (op_append T.ap_40 T.ni_40 rfl rfl rfl rfl .here (rfl) (src_slice (m := cm.length) (by simp [icells]) fun h le _ => hRc2.mono le) (icells_one cm) (by first | omega | (simp; omega)) (by first | omega | (simp; omega)) rfl fun a5 c5 hc5 => ?_)
                            rw [List.nil_append, Nat.zero_add cm.length]
                            refine Ti (Fa T.fld_44_6) ?_
                            refine Ti (Fa T.fld_42_1) ?_
                            refine Ti (Lf T.sc_3) ?_
                            refine Ti (Bd T.zc_42 T.st_42) ?_
                            refine TnB back6 ?_
                            refine Tp (oC T.fn_10 rfl rfl (restart_m db s hS (by omega) a5 cm.length c5 cm rfl cn) (.cons (.there (.there .here)) .nil) (fun _ _ hin => own_in (hin.nth 1 rfl)) ?_)
                            rintro v H' ⟨rfl, rfl⟩
                            try simp only [nap, cap]
                            refine Tne ?_
                            refine g_region ?_
                            refine Li Mv ?_
                            refine Li (Fa T.fld_44_6) ?_
                            refine Lp (oLN T.ag_42 ?_)
                            refine Lp (oC T.fn_11 rfl rfl (rrestart_m rb s hS (by omega) ca' cm.length cc' cm rfl cn) (.cons (.there (.there (.there .here))) .nil) (fun _ le _ => hRc.mono le) ?_)
                            rintro v H' ⟨rfl, rfl⟩
                            try simp only [nap, cap]
                            refine g_nil ?_
                            refine e_block ?_
                            refine e_then ?_
                            refine g_sr ?_
                            refine Li As ?_
                            refine g_ne ?_
                            refine g_ret ?_
                            refine Rt [Dk db (restM s cm cn), Rk rb (restM s cm cn)] Try.results8 ?_
                            exact ⟨rfl, rfl⟩
                          · intro d13
                            replace d13 := nrm d13
                            rw [if_neg d13] at hs'
                            subst hs'
                            refine g_skip ?_
                            refine e_block ?_
                            refine e_then ?_
                            refine g_sr ?_
                            refine Li As ?_
                            refine g_ne ?_
                            refine g_ret ?_
                            refine Rt [Dk db s, Rk rb s] Try.results8 ?_
                            exact ⟨rfl, rfl⟩
end Go.Proofs.Ytncmmhfgcgnojaa

