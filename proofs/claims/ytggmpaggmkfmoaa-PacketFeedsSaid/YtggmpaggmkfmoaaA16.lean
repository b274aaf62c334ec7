/- Packets: cutting is not seen; how much is held. -/
import Derived.Test.YtggmpaggmkfmoaaA15
import Derived.Test.YtggmpaggmkfmoaaA12
set_option maxRecDepth 100000
namespace Go.Proofs.Ytggmpaggmkfmoaa
open Go Go.Eng

theorem InLmem : ∀ {H : List HProp} {h : Hp} {A : HProp}, InL H h → A ∈ H → ∃ k, A k ∧ Le k h := by
  intro H
  induction H with
  | nil => intro h A _ m; cases m
  | cons B r ih =>
    intro h A hin m
    rcases List.mem_cons.1 m with rfl | m
    · exact hin.1
    · exact ih hin.2 m
theorem Pks_at {ao : Option Addr} {co : Nat} {l : List (Pkt × Ad)} {h : Hp} (o : ∃ k, Pks ao co l k ∧ Le k h) : PktsAt h ao l := by
  have hin := stars_in o
  refine ⟨own_in hin.1, fun p hp => ?_⟩
  have h2 := stars_in hin.2.1
  have e1 : own p.2.ae p.2.ce 5 1 (bcells p.1.ex) ∈ pktOwns l := List.mem_flatMap.2 ⟨p, hp, by simp⟩
  have e2 : own p.2.av p.2.cv 5 1 (bcells p.1.val) ∈ pktOwns l := List.mem_flatMap.2 ⟨p, hp, by simp⟩
  exact ⟨own_in (InLmem h2 e1), own_in (InLmem h2 e2)⟩
def rowCells (raw : List UInt8) (ar : Option Addr) (cr : Nat) (one : List Int) (a1 : Option Addr) (c1 : Nat) (two : List Int) (a2 : Option Addr) (c2 : Nat) (limit : Int) : List Value :=
  [.slice ar raw.length cr, .slice a1 one.length c1, .slice a2 two.length c2, .int .i64 limit]
theorem flat_pieces {l : List Ch} {k : Nat} {b : List UInt8} {r : List Int} (h : l.map Ch.b = piecesM k b r) : flat l = b := by
  unfold flat; rw [h, piecesM_flat]
theorem cap12_len (l : List UInt8) : (cap12 l).length ≤ 12000 := by simp [cap12]; omega
theorem Pks_len {ao : Option Addr} {co : Nat} {l : List (Pkt × Ad)} (k : Hp) (p : Pks ao co l k) : l.length ≤ co := by
  obtain ⟨h1, _, _, _, _, o, _⟩ := p
  have := o.1
  rw [pktsCells_length] at this
  omega

set_option maxHeartbeats 4000000 in
theorem cuts_fn (raw : List UInt8) (ar : Option Addr) (cr : Nat) (one : List Int) (a1 : Option Addr) (c1 : Nat) (two : List Int) (a2 : Option Addr) (c2 : Nat) (limit : Int) (hr : raw.length ≤ cr)
    (q1 : -9223372036854775808 ≤ limit) (q2 : limit ≤ 9223372036854775807) :
    FnS Try.prog 8 [.agg (rowCells raw ar cr one a1 c1 two a2 c2 limit).toArray] (fun h => Rdl h ar (bcells raw) ∧ Rdl h a1 (icells one) ∧ Rdl h a2 (icells two)) [] (fun v H => v = .bool true ∧ H = []) := by
  dsimp only [rowCells]
  refine fn_body Try.func8 rfl Try.ntmps8 rfl ?_
  rintro F ⟨hR, hO, hT⟩
  have hlim : limit.toNat ≤ 9223372036854775807 := by omega
  have hcl := cap12_len raw
  refine g_sr ?_
  refine Lp (oB fun b1 => ?_)
  refine Li As ?_
  refine g_ne ?_
  refine g_sr ?_
  refine Li (Fa T.fld_75_0) ?_
  refine Lp (oL T.sc_37 ?_)
  refine Lp (oC T.fn_22 rfl rfl (bytes22_fn raw ar raw.length cr rfl hr) .nil (fun _ _ _ => trivial) ?_)
  rintro v H' ⟨ax, cx, rfl, hcx, hrx, rfl⟩
  try simp only [nap, cap]
  have hX := hrx _ hR
  refine Li As ?_
  refine g_ne ?_
  refine g_sr ?_
  refine Li (Fa T.fld_75_3) ?_
  refine Lp (oL T.sc_3 ?_)
  refine Lp (oC T.fn_27 rfl rfl (newF limit q1 q2) .nil (fun _ _ _ => trivial) ?_)
  rintro v H' ⟨bf, rfl, rfl⟩
  try simp only [nap, cap]
  refine Li As ?_
  refine g_ne ?_
  refine g_sr ?_
  refine Li (Fa T.fld_75_3) ?_
  refine Lp (oL T.sc_3 ?_)
  refine Lp (oC T.fn_27 rfl rfl (newF limit q1 q2) .nil (fun _ _ _ => trivial) ?_)
  rintro v H' ⟨bg, rfl, rfl⟩
  try simp only [nap, cap]
  refine Li As ?_
  refine g_ne ?_
  refine g_seq ?_
  refine g_sr ?_
  refine Li Mv ?_
  refine Li (Pn T.u_58) ?_
  refine Li Mv ?_
  refine g_slot (t := 19) (v' := .bool false) rfl (congrArg Value.bool (by first | rfl | decide | (simp; done))) ?_
  refine Li Mv ?_
  refine Li (Pn T.u_58) ?_
  refine Li Pf ?_
  refine g_ne ?_
  refine g_cond_f rfl (by first | rfl | decide | (simp; done)) ?_
  refine g_skip ?_
  refine e_then ?_
  refine g_sr ?_
  refine Li Mv ?_
  refine Li Mv ?_
  refine Li (Fa T.fld_75_1) ?_
  refine Lp (oL T.sc_73 ?_)
  refine Lp (oC T.fn_36 rfl rfl (pieces_fn (cap12 raw) ax (cap12 raw).length cx one a1 one.length c1 rfl hcx rfl) .nil (fun _ le _ => hO.mono le) ?_)
  rintro v H' ⟨ak, ck, k, rfl, hkl, hk, hkc, hkr, rfl⟩
  try simp only [nap, cap]
  refine Lp (oC T.fn_35 rfl rfl (fed_fn bf limit.toNat [] k ak k.length ck rfl (by omega) hlim (by rw [flat_pieces hk]; simp; omega)) (.cons (.there (.there .here)) .nil) (fun _ le hin => ⟨own_in hin.1, fun x hx => (hkr _ hX x hx).mono le, hkc⟩) ?_)
  rintro v H' ⟨ao, co, o, rfl, ho, rfl⟩
  try simp only [nap, cap]
  rw [flat_pieces hk, List.nil_append] at ho
  rw [flat_pieces hk]
  refine Li As ?_
  refine g_ne ?_
  refine g_sr ?_
  refine Li Mv ?_
  refine Li Mv ?_
  refine Li (Fa T.fld_75_2) ?_
  refine Lp (oL T.sc_73 ?_)
  refine Lp (oC T.fn_36 rfl rfl (pieces_fn (cap12 raw) ax (cap12 raw).length cx two a2 two.length c2 rfl hcx rfl) .nil (fun _ le _ => hT.mono le) ?_)
  rintro v H' ⟨am, cm, m, rfl, hml, hm, hmc, hmr, rfl⟩
  try simp only [nap, cap]
  refine Lp (oC T.fn_35 rfl rfl (fed_fn bg limit.toNat [] m am m.length cm rfl (by omega) hlim (by rw [flat_pieces hm]; simp; omega)) (.cons (.there (.there (.there (.there .here)))) .nil) (fun _ le hin => ⟨own_in hin.1, fun x hx => (hmr _ hX x hx).mono le, hmc⟩) ?_)
  rintro v H' ⟨au, cu, u, rfl, hu, rfl⟩
  try simp only [nap, cap]
  rw [flat_pieces hm, List.nil_append] at hu
  rw [flat_pieces hm]
  have hou : o.map Prod.fst = u.map Prod.fst := by
    have := ho.trans hu.symm
    exact List.append_cancel_left this
  have hol : o.length ≤ 12000 := by
    have h1 := PS_count limit.toNat (cap12 raw)
    rw [← ho, PS_nil] at h1
    simp at h1
    omega
  refine Li As ?_
  refine g_ne ?_
  refine g_sr ?_
  refine Li Mv ?_
  refine Li Mv ?_
  refine g_fact (sel_fact (.there .here) Pks_len) fun hcu => ?_
  refine g_fact (sel_fact (.there (.there (.there (.there .here)))) Pks_len) fun hco => ?_
  refine Lp (oC T.fn_33 rfl rfl (sames_fn o u ao au o.length u.length co cu rfl rfl hco hcu (by omega)) .nil (fun _ le hin => ⟨Pks_at (hin.nth 4 rfl), Pks_at (hin.nth 1 rfl)⟩) ?_)
  rintro v H' ⟨rfl, rfl⟩
  try simp only [nap, cap]
  rw [hou, decide_eq_true rfl]
  refine Li Mv ?_
  refine g_slot (t := 38) (v' := .bool true) rfl (congrArg Value.bool (by rfl)) ?_
  refine Li Mv ?_
  refine Lp (oC T.fn_37 rfl rfl (heldF bf limit.toNat (cap12 raw)) .nil (fun _ le hin => hin.nth 3 rfl) ?_)
  rintro v H' ⟨rfl, rfl⟩
  try simp only [nap, cap]
  refine Li Mv ?_
  refine Lp (oC T.fn_37 rfl rfl (heldF bg limit.toNat (cap12 raw)) .nil (fun _ le hin => hin.nth 0 rfl) ?_)
  rintro v H' ⟨rfl, rfl⟩
  try simp only [nap, cap]
  refine Li Cm ?_
  refine Li Pt ?_
  refine Li Mv ?_
  refine g_slot (t := 45) (v' := .bool true) rfl (congrArg Value.bool (by simp)) ?_
  refine Li Mv ?_
  refine Lp (oC T.fn_38 rfl rfl (brokenF bf limit.toNat (cap12 raw)) .nil (fun _ le hin => hin.nth 3 rfl) ?_)
  rintro v H' ⟨rfl, rfl⟩
  try simp only [nap, cap]
  refine Li Mv ?_
  refine Lp (oC T.fn_38 rfl rfl (brokenF bg limit.toNat (cap12 raw)) .nil (fun _ le hin => hin.nth 0 rfl) ?_)
  rintro v H' ⟨rfl, rfl⟩
  try simp only [nap, cap]
  refine Li (Bq T.u_4) ?_
  refine Li Pt ?_
  refine Li Mv ?_
  refine g_slot (t := 52) (v' := .bool true) rfl (congrArg Value.bool (by simp)) ?_
  refine Li Mv ?_
  refine Lp (oC T.fn_39 rfl rfl (takenF bf limit.toNat (cap12 raw)) .nil (fun _ le hin => hin.nth 3 rfl) ?_)
  rintro v H' ⟨rfl, rfl⟩
  try simp only [nap, cap]
  refine Li Mv ?_
  refine Lp (oC T.fn_39 rfl rfl (takenF bg limit.toNat (cap12 raw)) .nil (fun _ le hin => hin.nth 0 rfl) ?_)
  rintro v H' ⟨rfl, rfl⟩
  try simp only [nap, cap]
  refine Li Cm ?_
  refine Li Pt ?_
  refine Li Mv ?_
  refine g_slot (t := 59) (v' := .bool true) rfl (congrArg Value.bool (by simp)) ?_
  refine Li Mv ?_
  refine Lp (oC T.fn_39 rfl rfl (takenF bf limit.toNat (cap12 raw)) .nil (fun _ le hin => hin.nth 3 rfl) ?_)
  rintro v H' ⟨rfl, rfl⟩
  try simp only [nap, cap]
  refine Li Mv ?_
  refine Li (Ln T.sl_37) ?_
  refine Li Cm ?_
  refine Li Pt ?_
  refine Li Mv ?_
  refine g_slot (t := 66) (v' := .bool true) rfl (congrArg Value.bool (by simp)) ?_
  refine Lp (oC T.fn_21 rfl rfl (wakes_fn) .nil (fun _ _ _ => trivial) ?_)
  rintro v H' ⟨rfl, rfl⟩
  try simp only [nap, cap]
  refine Li Pt ?_
  refine Li As ?_
  refine g_ne ?_
  refine g_ret ?_
  refine Rt [] Try.results8 ?_
  exact ⟨rfl, rfl⟩
end Go.Proofs.Ytggmpaggmkfmoaa

