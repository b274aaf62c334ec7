/- The law on the disk: two of the document's runs. -/
import Derived.Test.YtncmmhfgcgnojaaV2
set_option maxRecDepth 100000
namespace Go.Proofs.Ytncmmhfgcgnojaa
open Go Go.Eng

/-- no name is long -/
def Short (s : Ds) : Prop := (∀ p ∈ s.safe, p.1.length ≤ 32) ∧ ∀ c ∈ s.chg, c.to.length ≤ 32
theorem without_mem {l : List (Nm × Nat)} {n : Nm} {p : Nm × Nat} (h : p ∈ without l n) : p ∈ l := (List.mem_filter.1 h).1
theorem afterL_short : ∀ (cs : List Ch) (l : List (Nm × Nat)), (∀ p ∈ l, p.1.length ≤ 32) → (∀ c ∈ cs, c.to.length ≤ 32) → ∀ p ∈ afterL l cs, p.1.length ≤ 32 := by
  intro cs
  induction cs with
  | nil => intro l h _; exact h
  | cons c cs ih =>
    intro l h hc
    refine ih (app1 l c) ?_ fun x hx => hc x (List.mem_cons_of_mem _ hx)
    intro p hp
    unfold app1 at hp
    split at hp
    · exact h p (without_mem hp)
    · rw [List.mem_append, List.mem_singleton] at hp
      rcases hp with hp | rfl
      · exact h p (without_mem (without_mem hp))
      · exact hc c (List.mem_cons_self ..)
theorem Short.names {s : Ds} (h : Short s) : ∀ p ∈ namesL s, p.1.length ≤ 32 := afterL_short _ _ h.1 h.2
theorem legal_len {n : Nm} (h : legalM n = true) : n.length ≤ 32 := by
  unfold legalM at h
  simp at h
  exact h.2
theorem short_do {s : Ds} (h : Short s) (k : Nat) (name to : Nm) (p : List UInt8) : Short (doM s k name to p).1 := by
  by_cases h5 : k = 5
  · subst h5
    exact ⟨h.names, by intro c hc; cases hc⟩
  · by_cases hl : legalM name = false ∨ (k = 3 ∧ legalM to = false)
    · unfold doM
      rw [if_neg h5, if_pos hl]; exact h
    · have h1 : legalM name = true := by
        cases hq : legalM name with
        | true => rfl
        | false => exact absurd (.inl hq) hl
      have h2 : k = 3 → legalM to = true := fun hk => by
        cases hq : legalM to with
        | true => rfl
        | false => exact absurd (.inr ⟨hk, hq⟩) hl
      rw [do_ok h5 h1 h2]
      have hadd : ∀ c : Ch, c.to.length ≤ 32 → ∀ x ∈ s.chg ++ [c], x.to.length ≤ 32 := by
        intro c hc x hx
        rw [List.mem_append, List.mem_singleton] at hx
        rcases hx with hx | rfl
        · exact h.2 x hx
        · exact hc
      cases atM (namesL s) name with
      | none =>
        dsimp only
        split
        · exact ⟨h.1, hadd _ (legal_len h1)⟩
        · exact h
      | some i =>
        dsimp only
        split
        · exact h
        · split
          · exact ⟨h.1, h.2⟩
          · split
            · exact ⟨h.1, h.2⟩
            · split
              · rename_i h3
                split
                · exact h
                · exact ⟨h.1, hadd _ (legal_len (h2 h3))⟩
              · exact ⟨h.1, hadd _ (by simp)⟩
theorem short_ite {c : Prop} [Decidable c] {x y : Ds} (hx : Short x) (hy : Short y) : Short (if c then x else y) := by
  split
  · exact hx
  · exact hy
theorem short_ite1 {c : Prop} [Decidable c] {x y : Ds × Nat} (hx : Short x.1) (hy : Short y.1) : Short (if c then x else y).1 := by
  split
  · exact hx
  · exact hy
theorem short_act {s : Ds} (h : Short s) (k : Nat) (name to : Nm) (p : List UInt8) : Short (actM s k name to p).1 := by
  have hb : Short (begun s) := h
  have hd : ∀ m, Short (doD k name to p (begun s) m).1 := fun m => short_do hb k name to _
  unfold actM actG
  dsimp only
  refine short_ite1 hb (short_ite1 hb (short_ite1 hb (short_ite1 hb (short_ite1 (hd _) (short_ite1 (hd _) (short_ite1 (short_ite1 (hd _) hb) (hd _)))))))
theorem short_rest {s : Ds} (h : Short s) (cut : List Int) (n : Int) : Short (restM s cut n) :=
  ⟨afterL_short _ _ h.1 fun c hc => h.2 c (List.mem_of_mem_take hc), by intro c hc; cases hc⟩
theorem short_step {s : Ds} (h : Short s) (d : Int) (name to : Nm) (bl : List UInt8) (pl : List Flt) (cl : List Int) (cn : Int) : Short (stepM s d name to bl pl cl cn) := by
  have h1 : ∀ k nm t p, Short (actM s k nm t p).1 := fun k nm t p => short_act h k nm t p
  unfold stepM
  exact short_ite (h1 _ _ _ _) (short_ite (h1 _ _ _ _) (short_ite (h1 _ _ _ _) (short_ite (h1 _ _ _ _) (short_ite (h1 _ _ _ _) (short_ite (h1 _ _ _ _) (short_ite h (short_ite h (short_ite h (short_ite h (short_ite h (short_ite ⟨h.1, h.2⟩ (short_ite (short_rest h _ _) h))))))))))))
theorem step_look (s : Ds) (k : Nat) (h1 : 7 ≤ k) (h2 : k ≤ 11) (name to : Nm) (bl : List UInt8) (pl : List Flt) (cl : List Int) (cn : Int) : stepM s (k : Int) name to bl pl cl cn = s := by
  unfold stepM
  rcases (by omega : k = 7 ∨ k = 8 ∨ k = 9 ∨ k = 10 ∨ k = 11) with rfl | rfl | rfl | rfl | rfl <;> rfl
theorem alike_law (db rb : Nat) (s : Ds) (hS : Inv s) (hn : s.acts ≤ 9000) (hsh : Short s) :
    FnS Try.prog 9 [.pointer (some ⟨db, 0, none⟩), .pointer (some ⟨rb, 0, none⟩)] (fun _ => True) [Dk db s, Rk rb s] (fun v H => v = .bool true ∧ H = [Dk db s, Rk rb s]) := by
  have hnl := hS.names.len
  have hno : (namesOut s).length ≤ 10000 := by unfold namesOut keysL; split <;> simp [sortL_len]; omega
  have hnm : ∀ x ∈ namesOut s, x.length ≤ 32 := by
    intro x hx
    unfold namesOut keysL at hx
    split at hx
    · cases hx
    · have hx2 : x ∈ (namesL s).map (·.1) := (List.mergeSort_perm _ _).mem_iff.1 hx
      obtain ⟨p, hp, rfl⟩ := List.mem_map.1 hx2
      exact hsh.names p hp
  have hact := fun (k : Nat) (h1 : 7 ≤ k) (h2 : k ≤ 11) (name : Nm) (hname : name.length ≤ 32) => by
    have := acts_law db rb s hS hn 0 (k : Int) name [] (by omega) none 0 [] none 0 [] none 0 [] 0 (by simp) (by simp) (by simp)
    rw [step_look s k h1 h2] at this
    exact this
  unfold acC at hact
  refine fn_body Try.func9 rfl Try.ntmps9 rfl ?_
  intro F hF
  refine g_sr ?_
  refine Li As ?_
  refine g_ne ?_
  refine g_seq ?_
  refine g_sr ?_
  refine Li As ?_
  refine g_ne ?_
  refine g_block ?_
  refine Lo (ι := Nat) [8, 9, 12, 13, 14, 15, 16, 17, 4, 10, 11, 5] (fun k => 8 ≤ k ∧ k ≤ 12) (fun k => [(5, .int .i64 (k : Int))]) (fun k => [Dk db s, Rk rb s]) (fun k => 12 - k) (8) ⟨Nat.le_refl _, by omega⟩ ?_
  rintro k ⟨hk1, hk2⟩
  refine g_seq ?_
  refine g_sr ?_
  refine Li Mv ?_
  refine Li Cm ?_
  refine g_ne ?_
  refine g_cond rfl ?_ ?_
  · intro hlt
    replace hlt := nrm hlt
    refine g_skip ?_
    refine e_then ?_
    refine g_seq ?_
    refine g_block ?_
    refine g_sr ?_
    refine Li Mv ?_
    refine Li Mv ?_
    refine Li Mv ?_
    refine Li (Bd T.zc_44 T.st_44) ?_
    refine Lp (oC T.fn_8 rfl rfl (hact k (by omega) (by omega) [] (by simp)) (.cons .here (.cons .here .nil)) (fun _ _ _ => ⟨Rdl.nil, Rdl.nil, Rdl.nil⟩) ?_)
    rintro v H' ⟨rfl, rfl⟩
    try simp only [nap, cap]
    refine Li Nt ?_
    refine g_ne ?_
    refine g_cond_f rfl (by rfl) ?_
    refine g_skip ?_
    refine e_block ?_
    refine e_then ?_
    refine g_region ?_
    refine Li Mv ?_
    refine Li Im ?_
    refine Li As ?_
    refine g_nil ?_
    refine Ro (k + 1) (⟨by omega, by omega⟩) (by omega)
  · intro hlt
    replace hlt := nrm hlt
    refine g_exit ?_
    refine e_then_exit ?_
    refine e_then_exit ?_
    refine e_block_hit ?_
    refine e_then ?_
    refine g_sr ?_
    refine Li Mv ?_
    refine Lp (oC T.fn_35 rfl rfl (rk_lift fun y hy => rnames_fn rb s y hS (by omega) hy) .nil (fun _ _ hin => hin.nth 1 rfl) ?_)
    rintro v H' ⟨a, c, rfl, rfl⟩
    try simp only [nap, cap]
    generalize hN : namesOut s = N at *
    refine Li As ?_
    refine g_ne ?_
    refine g_seq ?_
    refine g_sr ?_
    refine Li As ?_
    refine g_ne ?_
    refine g_block ?_
    refine Lo (ι := Nat) [20, 21, 22, 23, 26, 27, 28, 29, 30, 31, 32, 33, 34, 4, 24, 25, 7] (fun i => i ≤ N.length) (fun i => [(7, .int .i64 (i : Int))]) (fun i => [Dk db s, Rk rb s, own a c 9 1 (N.map strv)]) (fun i => N.length - i) (0) (Nat.zero_le _) ?_
    rintro i hi
    refine g_seq ?_
    refine g_sr ?_
    refine Li Mv ?_
    refine Li Mv ?_
    refine Li (Ln T.sl_57) ?_
    refine Li Cm ?_
    refine g_ne ?_
    refine g_cond rfl ?_ ?_
    · intro hlt2
      replace hlt2 := nrm hlt2
      have hi2 : i < N.length := by omega
      have e1 : (N.map strv)[i]? = some (strv N[i]) := by rw [List.getElem?_map, List.getElem?_eq_getElem hi2]; rfl
      have hsm := hnm N[i] (List.getElem_mem hi2)
      refine g_fact (sel_fact (.there (.there .here)) fun k o => own_none o (by rw [List.length_map]; omega)) fun sa => ?_
      refine g_skip ?_
      refine e_then ?_
      refine g_seq ?_
      refine g_block ?_
      refine g_sr ?_
      refine Li Mv ?_
      refine Li Mv ?_
      refine Li Mv ?_
      refine Li Mv ?_
      refine Li (Ix T.sl_57) ?_
      refine Lp (oL T.sc_9 ?_)
      refine Li (Bd T.zc_44 T.st_44) ?_
      refine Lp (oC T.fn_8 rfl rfl (hact 7 (by omega) (by omega) N[i] hsm) (.cons .here (.cons .here .nil)) (fun _ _ _ => ⟨Rdl.nil, Rdl.nil, Rdl.nil⟩) ?_)
      rintro v H' ⟨rfl, rfl⟩
      try simp only [nap, cap]
      refine Li Nt ?_
      refine g_ne ?_
      refine g_cond_f rfl (by rfl) ?_
      refine g_skip ?_
      refine e_block ?_
      refine e_then ?_
      refine g_region ?_
      refine Li Mv ?_
      refine Li Im ?_
      refine Li As ?_
      refine g_nil ?_
      refine Ro (i + 1) (by omega) (by omega)
    · intro hlt2
      replace hlt2 := nrm hlt2
      refine g_exit ?_
      refine e_then_exit ?_
      refine e_then_exit ?_
      refine e_block_hit ?_
      refine e_then ?_
      refine g_sr ?_
      refine Li As ?_
      refine g_ne ?_
      refine g_ret ?_
      refine Rt [Dk db s, Rk rb s] Try.results9 ?_
      exact ⟨rfl, rfl⟩

theorem er_nil {call name : Nm} {e : Nat} {v : Value} {E : HProp} (h : Er call name e v E) (he : e = 0) : v = .nilIface ∧ E = empt := by
  rcases h with ⟨_, h1, h2⟩ | ⟨h1, _⟩
  · exact ⟨h1, h2⟩
  · omega
theorem er_some {call name : Nm} {e : Nat} {v : Value} {E : HProp} (h : Er call name e v E) (he : 0 < e) : ∃ b, v = .iface 99 (.pointer (some ⟨b, 0, none⟩)) ∧ E = erH b call name e := by
  rcases h with ⟨h1, _⟩ | ⟨_, h2⟩
  · omega
  · exact h2
def w1 : Ds := ⟨3, 1, [⟨[], 0⟩], [], [⟨[], [97], 0⟩], [], false⟩
def w2 : Ds := ⟨3, 2, [⟨[], 0⟩], [([97], 0)], [], [], false⟩
def w3 : Ds := ⟨3, 3, [⟨[97, 98, 99], 0⟩], [([97], 0)], [], [], false⟩
def w4 : Ds := ⟨3, 3, [⟨[97], 1⟩], [([97], 0)], [], [], false⟩
theorem st1 : actM (startM 3) 0 [97] [] [] = (w1, 0) := rfl
theorem st2 : actM w1 5 [] [] [] = (w2, 0) := rfl
theorem st3 : actM w2 1 [97] [] [97, 98, 99, 100] = (w3, 181) := rfl
theorem st4 : restM w3 [1] 0 = w4 := rfl
theorem iw0 : Inv (startM 3) := inv_start 3 (by omega)
theorem iw1 : Inv w1 := by have := (inv_act iw0 0 [97] [] [] (by simp)).1; rwa [st1] at this
theorem iw2 : Inv w2 := by have := (inv_act iw1 5 [] [] [] (by simp)).1; rwa [st2] at this
theorem iw3 : Inv w3 := by have := (inv_act iw2 1 [97] [] [97, 98, 99, 100] (by simp)).1; rwa [st3] at this
theorem iw4 : Inv w4 := by have := inv_rest iw3 [1] 0; rwa [st4] at this
theorem rd3 : readM w3 [97] = (0, [97, 98, 99]) := rfl
theorem rd4 : readM w4 [97] = (0, [97]) := rfl
theorem no4 : namesOut w4 = [[97]] := by
  have h : keysL w4 = [[97]] := rfl
  unfold namesOut
  rw [if_neg (by decide), h]
  exact List.perm_singleton.1 (List.mergeSort_perm _ _)
theorem stirs_law : FnS Try.prog 4 [] (fun _ => True) [] (fun v H => v = .bool true ∧ H = []) := by
  refine fn_body Try.func4 rfl Try.ntmps4 rfl ?_
  intro F hF
  have hc1 := fun b => create_m b (startM 3) iw0 (by decide) [97]
  rw [st1] at hc1
  have hc2 := fun b => syncn_m b w1 iw1 (by decide)
  rw [st2] at hc2
  have hc3 := fun b a pc h => append_m b w2 iw2 (by decide) [97] a 4 pc [97, 98, 99, 100] rfl (by decide) h
  rw [st3] at hc3
  have hc4 := fun b => read_m b w3 iw3 (by decide) [97]
  rw [rd3] at hc4
  have hc5 := fun b a cc => restart_m b w3 iw3 (by decide) a 1 cc [1] rfl 0
  rw [st4] at hc5
  have hc6 := fun b => read_m b w4 iw4 (by decide) [97]
  rw [rd4] at hc6
  have hc7 := fun b => names_m b w4 iw4 (by decide)
  rw [no4] at hc7
  dsimp only at hc1 hc2 hc3 hc4 hc6
  refine g_sr ?_
  refine Li As ?_
  refine g_ne ?_
  refine g_sr ?_
  refine Lp (oC T.fn_5 rfl rfl (new_ok 3 (by omega)) .nil (fun _ _ _ => trivial) ?_)
  rintro v H' ⟨b, rfl, rfl⟩
  try simp only [nap, cap]
  refine Li Mv ?_
  refine Li Ex ?_
  refine Li Ex ?_
  refine Li As ?_
  refine Li As ?_
  refine g_ne ?_
  refine g_seq ?_
  refine g_sr ?_
  refine Li Mv ?_
  refine Li (Pn T.u_25) ?_
  refine Li Mv ?_
  refine g_slot (t := 13) (v' := .bool false) rfl (congrArg Value.bool (by rfl)) ?_
  refine Li Mv ?_
  refine Li ((Iqn T.if_30)) ?_
  refine Li Pf ?_
  refine Li Mv ?_
  refine g_slot (t := 17) (v' := .bool false) rfl (congrArg Value.bool (by rfl)) ?_
  refine Li Mv ?_
  refine Lp (oC T.fn_12 rfl rfl (dk_lift fun y hy => power_fn b (startM 3) y) .nil (fun _ _ hin => hin.nth 0 rfl) ?_)
  rintro v H' ⟨rfl, rfl⟩
  try simp only [nap, cap]
  refine Li Nt ?_
  refine Li Pf ?_
  refine Li Mv ?_
  refine g_slot (t := 22) (v' := .bool false) rfl (congrArg Value.bool (by rfl)) ?_
  refine Li Mv ?_
  refine Lp (oC T.fn_13 rfl rfl (hc1 b) (.cons .here .nil) (fun _ _ _ => trivial) ?_)
  rintro v H' ⟨E1, hE1, rfl⟩
  try simp only [nap, cap]
  obtain ⟨rfl, rfl⟩ := er_nil hE1 rfl
  refine Li ((Iqn T.if_30)) ?_
  refine Li Pf ?_
  refine Li Mv ?_
  refine g_slot (t := 27) (v' := .bool false) rfl (congrArg Value.bool (by rfl)) ?_
  refine Li Mv ?_
  refine Lp (oC T.fn_14 rfl rfl (loose_m b w1 iw1) (.cons .here .nil) (fun _ _ _ => trivial) ?_)
  rintro v H' ⟨rfl, rfl⟩
  try simp only [nap, cap]
  refine Li Nt ?_
  refine Li Pf ?_
  refine Li Mv ?_
  refine g_slot (t := 32) (v' := .bool false) rfl (congrArg Value.bool (by rfl)) ?_
  refine Li Mv ?_
  refine Lp (oC T.fn_15 rfl rfl (hc2 b) (.cons .here .nil) (fun _ _ _ => trivial) ?_)
  rintro v H' ⟨E2, hE2, rfl⟩
  try simp only [nap, cap]
  obtain ⟨rfl, rfl⟩ := er_nil hE2 rfl
  refine Li ((Iqn T.if_30)) ?_
  refine Li Pf ?_
  refine g_ne ?_
  refine g_cond_f rfl (by rfl) ?_
  refine g_skip ?_
  refine e_then ?_
  refine g_sr ?_
  refine Li Mv ?_
  refine Lp (oT T.ap_38 fun b1 => ?_)
  refine Lp (oMk T.u_38 T.u_5 ?_)
  refine Lp (oC T.fn_17 rfl rfl (hc3 b (some ⟨b1, 0, none⟩) 4 (by decide)) (.cons (.there .here) .nil) (fun _ _ hin => pts_in (hin.nth 0 rfl)) ?_)
  rintro v H' ⟨E3, hE3, rfl⟩
  try simp only [nap, cap]
  obtain ⟨be, rfl, rfl⟩ := er_some hE3 (by decide)
  refine Lp (oC T.fn_16 rfl rfl (refusal_er be (kindT 1) [97] 181 (by decide)) .nil (fun _ _ hin => hin.nth 1 rfl) ?_)
  rintro v H' ⟨rfl, rfl⟩
  try simp only [nap, cap]
  refine Li Mv ?_
  refine Li Ex ?_
  refine Li Ex ?_
  refine Lp (oA T.zc_34 fun b2 => ?_)
  refine Lp (oSW T.ag_34 ?_)
  refine Li As ?_
  refine g_ne ?_
  refine g_sr ?_
  refine Li Mv ?_
  refine Lp (oC T.fn_18 rfl rfl (hc4 b) (.cons (.there .here) .nil) (fun _ _ _ => trivial) ?_)
  rintro v H' ⟨a4, c4, ve4, E4, rfl, hE4, rfl⟩
  try simp only [nap, cap]
  obtain ⟨rfl, rfl⟩ := er_nil hE4 rfl
  refine Li Mv ?_
  refine Li Ex ?_
  refine Li Ex ?_
  refine Li As ?_
  refine Li As ?_
  refine g_ne ?_
  refine g_seq ?_
  refine g_sr ?_
  refine Li Mv ?_
  refine Li Nt ?_
  refine Li Mv ?_
  refine g_slot (t := 52) (v' := .bool false) rfl (congrArg Value.bool (by rfl)) ?_
  refine Lp (oLN T.ag_34 ?_)
  refine Li (Bd T.zc_34 T.st_34) ?_
  refine Li ((Lq3 T.le_34 T.ls_34 T.lg_34 T.lf_34 T.sc_9 T.sc_9 T.sc_3 T.u_9 T.u_9 T.u_3)) ?_
  refine Li Pf ?_
  refine Li Mv ?_
  refine g_slot (t := 57) (v' := .bool false) rfl (congrArg Value.bool (by decide)) ?_
  refine Li Mv ?_
  refine Li ((Iqn T.if_30)) ?_
  refine Li Pf ?_
  refine Li Mv ?_
  refine g_slot (t := 61) (v' := .bool false) rfl (congrArg Value.bool (by rfl)) ?_
  refine Li Mv ?_
  refine Lp (op_yH rfl rfl (fun h hin le => Ts T.sl_38 T.u_5 T.u_9 (hr := own_in (hin.nth 1 rfl))) ?_)
  refine Li Sq ?_
  refine Li Pf ?_
  refine Li Mv ?_
  refine g_slot (t := 66) (v' := .bool false) rfl (congrArg Value.bool (by decide)) ?_
  refine Li Mv ?_
  refine Lp (oC T.fn_19 rfl rfl (dk_lift fun y hy => acts_fn b w3 y) .nil (fun _ _ hin => hin.nth 0 rfl) ?_)
  rintro v H' ⟨rfl, rfl⟩
  try simp only [nap, cap]
  refine Li Cm ?_
  refine Li Pf ?_
  refine g_ne ?_
  refine g_cond_f rfl (by decide) ?_
  refine g_skip ?_
  refine e_then ?_
  refine g_sr ?_
  refine Li Mv ?_
  refine Lp (oT T.ap_40 fun b3 => ?_)
  refine Li (Bd T.zc_42 T.st_42) ?_
  refine Lp (oC T.fn_10 rfl rfl (hc5 b (some ⟨b3, 0, none⟩) 1) (.cons (.there .here) .nil) (fun _ _ hin => pts_in (hin.nth 0 rfl)) ?_)
  rintro v H' ⟨rfl, rfl⟩
  try simp only [nap, cap]
  refine g_ne ?_
  refine g_sr ?_
  refine Li Mv ?_
  refine Lp (oC T.fn_18 rfl rfl (hc6 b) (.cons .here .nil) (fun _ _ _ => trivial) ?_)
  rintro v H' ⟨a6, c6, ve6, E6, rfl, hE6, rfl⟩
  try simp only [nap, cap]
  obtain ⟨rfl, rfl⟩ := er_nil hE6 rfl
  refine Li Mv ?_
  refine Li Ex ?_
  refine Li Ex ?_
  refine Li As ?_
  refine Li As ?_
  refine g_ne ?_
  refine g_sr ?_
  refine Li Mv ?_
  refine Lp (oC T.fn_20 rfl rfl (hc7 b) (.cons .here .nil) (fun _ _ _ => trivial) ?_)
  rintro v H' ⟨a7, c7, rfl, rfl⟩
  try simp only [nap, cap]
  refine Li As ?_
  refine g_ne ?_
  refine g_sr ?_
  refine Li Mv ?_
  refine Li ((Iqn T.if_30)) ?_
  refine Li Mv ?_
  refine g_slot (t := 84) (v' := .bool true) rfl (congrArg Value.bool (by rfl)) ?_
  refine Li Mv ?_
  refine Lp (op_yH rfl rfl (fun h hin le => Ts T.sl_38 T.u_5 T.u_9 (hr := own_in (hin.nth 2 rfl))) ?_)
  refine Li Sq ?_
  refine Li Pt ?_
  refine Li Mv ?_
  refine g_slot (t := 89) (v' := .bool true) rfl (congrArg Value.bool (by decide)) ?_
  refine Li Mv ?_
  refine Lp (oC T.fn_14 rfl rfl (loose_m b w4 iw4) (.cons .here .nil) (fun _ _ _ => trivial) ?_)
  rintro v H' ⟨rfl, rfl⟩
  try simp only [nap, cap]
  refine Li Nt ?_
  refine Li Pt ?_
  refine Li Mv ?_
  refine g_slot (t := 94) (v' := .bool true) rfl (congrArg Value.bool (by rfl)) ?_
  refine Li Mv ?_
  refine Li (Ln T.sl_57) ?_
  refine Li Cm ?_
  refine Li Pt ?_
  refine Li Mv ?_
  refine g_slot (t := 99) (v' := .bool true) rfl (congrArg Value.bool (by decide)) ?_
  refine g_fact (sel_fact (.there .here) fun k o => own_none o (by simp)) fun sa => ?_
  refine Li Mv ?_
  refine Li (Ix (j := 0) T.sl_57) ?_
  refine Lp (oL T.sc_9 ?_)
  refine Li Sq ?_
  refine Li Pt ?_
  refine Li As ?_
  refine g_ne ?_
  refine g_ret ?_
  refine Rt [] Try.results4 ?_
  exact ⟨rfl, rfl⟩
end Go.Proofs.Ytncmmhfgcgnojaa

