/- Packets: the law of Feeders. -/
import Derived.Test.YtggmpaggmkfmoaaD13
import Derived.Test.YtggmpaggmkfmoaaD18
import Derived.Test.YtggmpaggmkfmoaaA16
set_option maxRecDepth 100000
namespace Go.Proofs.Ytggmpaggmkfmoaa
open Go Go.Eng

theorem PS_small (limit : Nat) (S : List UInt8) : ∀ p ∈ (PS limit S).1, p.ex.length ≤ S.length ∧ p.val.length ≤ S.length := by
  have key : ∀ n (S : List UInt8), S.length = n → ∀ p ∈ (PS limit S).1, p.ex.length ≤ S.length ∧ p.val.length ≤ S.length := by
    intro n
    induction n using Nat.strongRecOn with
    | _ n ih =>
      intro S hn
      rw [PS_eq]
      split
      · simp
      · split
        · simp
        · rename_i hs
          unfold Short at hs
          have hge := wholeN_ge S
          intro p hp
          simp only [List.mem_cons] at hp
          rcases hp with rfl | hp
          · exact readP_len S limit
          · have := ih (S.drop (wholeN S)).length (by simp; omega) _ rfl p hp
            rw [List.length_drop] at this
            omega
  exact key _ S rfl
theorem rfeedP (b : Nat) (limit : Int) (a : Option Addr) (c : Nat) (S V : List UInt8) (br : Bool) (x : Option Addr) (m xc : Nat) (chunk : List UInt8) (hm : m = chunk.length) (hc : V.length ≤ c) (hI : RfI limit.toNat S V br) (hB : S.length + chunk.length ≤ 1099511627776)
    (q1 : -9223372036854775808 ≤ limit) (q2 : limit ≤ 9223372036854775807) :
    FnS Try.prog 32 [.pointer (some ⟨b, 0, none⟩), .slice x m xc] (fun h => Rdl h x (bcells chunk)) [pts b 97 (rfC limit a V.length c S.length br), rdB a V]
      (fun v H => ∃ ao co l a' c' V' br', v = .slice ao l.length co ∧ V'.length ≤ c' ∧ RfI limit.toNat (S ++ chunk) V' br' ∧ (PS limit.toNat S).1 ++ l.map Prod.fst = (PS limit.toNat (S ++ chunk)).1 ∧
        H = [pts b 97 (rfC limit a' V'.length c' (S ++ chunk).length br'), rdB a' V', Pks ao co l]) :=
  (rfeedF b limit a c S V br x m xc chunk hm hc hI hB q1 q2).out fun v H' r => by
    obtain ⟨ao, co, l, a', c', V', br', rfl, h1, h2, h3, rfl⟩ := r
    exact ⟨_, ⟨ao, co, l, a', c', V', br', rfl, h1, h2, h3, rfl⟩, fun k s => starL_tail (fun _ s => starL_tail (fun _ s => stars_of (L := [_, _]) (H := []) s) s) s⟩
theorem sames_true (l m : List (Pkt × Ad)) (a b : Option Addr) (c1 c2 : Nat) (hc1 : l.length ≤ c1) (hc2 : m.length ≤ c2) (hl : l.length < 4611686018427387904) (he : l.map Prod.fst = m.map Prod.fst) :
    FnS Try.prog 33 [.slice a l.length c1, .slice b m.length c2] (fun h => PktsAt h a l ∧ PktsAt h b m) [] (fun v H => v = .bool true ∧ H = []) :=
  (sames_fn l m a b _ _ c1 c2 rfl rfl hc1 hc2 hl).imp (fun _ q => q) fun v H r => by rw [decide_eq_true he] at r; exact r
theorem pktOwns_cons (q : Pkt × Ad) (r : List (Pkt × Ad)) : pktOwns (q :: r) = own q.2.ae q.2.ce 5 1 (bcells q.1.ex) :: own q.2.av q.2.cv 5 1 (bcells q.1.val) :: pktOwns r := by simp [pktOwns]
structure FsG where
  i : Nat
  ra : Option Addr
  rc : Nat
  V : List UInt8
  br : Bool
  ai : Option Addr
  ci : Nat
  aw : Option Addr
  cw : Nat
  xs : List Bi
  n : Int
  ta : Option Addr
  tc : Nat
  rs : List Rw
structure FsI (limit : Nat) (k : List Ch) (g : FsG) : Prop where
  hi : g.i ≤ k.length
  rf : RfI limit (flat (k.take g.i)) g.V g.br
  hrc : g.V.length ≤ g.rc
  ok : BkOk g.xs g.ci g.cw g.n
  hn : g.n ≤ 300000
  rl : g.rs.length = g.i
  tl : g.rs.length ≤ g.tc
  rk : ∀ (i : Nat) (r : Rw), g.rs[i]? = some r → r.k = i
  rn : ∀ r ∈ g.rs, r.n ≤ 1000000
set_option maxHeartbeats 8000000 in
theorem feedsLaw_fn (l : List Ch) (a : Option Addr) (c : Nat) (limit : Int) (q1 : -9223372036854775808 ≤ limit) (q2 : limit ≤ 9223372036854775807) :
    FnS Try.prog 5 [.int .i64 limit, .slice a l.length c] (fun h => ChsAt h a l) [] (fun v H => v = .bool true ∧ H = []) := by
  refine fn_body Try.func5 rfl Try.ntmps5 rfl ?_
  intro F hF
  have hlim : limit.toNat ≤ 9223372036854775807 := by omega
  refine g_sr ?_
  refine Li As ?_
  refine g_ne ?_
  refine g_sr ?_
  refine Li Mv ?_
  refine Lp (oC T.fn_27 rfl rfl (newF limit q1 q2) .nil (fun _ _ _ => trivial) ?_)
  rintro v H' ⟨bf, rfl, rfl⟩
  try simp only [nap, cap]
  refine Li As ?_
  refine g_ne ?_
  refine g_sr ?_
  refine Li Mv ?_
  refine Lp (oC T.fn_28 rfl rfl (rnew_fn limit) .nil (fun _ _ _ => trivial) ?_)
  rintro v H' ⟨rb, rfl, rfl⟩
  try simp only [nap, cap]
  refine Li As ?_
  refine g_ne ?_
  refine g_seq ?_
  refine g_sr ?_
  refine Li Mv ?_
  refine Li (Pn T.u_58) ?_
  refine Li Mv ?_
  refine g_slot (t := 20) (v' := .bool false) rfl (congrArg Value.bool (by rfl)) ?_
  refine Li Mv ?_
  refine Li Mv ?_
  refine Lp (oC T.fn_29 rfl rfl (alike_fn bf rb limit none 0 [] [] false (Nat.le_refl _) (RfI.start _) (by simp) q1 q2) .nil (fun _ _ hin => ⟨hin.nth 1 rfl, hin.nth 0 rfl, Rdl.nil⟩) ?_)
  rintro v H' ⟨rfl, rfl⟩
  try simp only [nap, cap]
  refine Li Nt ?_
  refine Li Pf ?_
  refine g_ne ?_
  refine g_cond_f rfl (by rfl) ?_
  refine g_skip ?_
  refine e_then ?_
  refine g_sr ?_
  refine Li (Bd T.zc_32 T.st_32) ?_
  refine Lp (oB fun b1 => ?_)
  refine Li As ?_
  refine g_ne ?_
  refine g_sr ?_
  refine Li (Bd T.zc_35 T.st_35) ?_
  refine Lp (oB fun b2 => ?_)
  refine Li As ?_
  refine g_ne ?_
  generalize hbk : b1 = bk
  generalize hlo : b2 = lo
  refine g_sr ?_
  refine Li Mv ?_
  refine Lp (oC T.fn_30 rfl rfl (cut_fn l a l.length c rfl) .nil (fun _ le _ => hF.mono le) ?_)
  rintro v H' ⟨ca, cc, k, rfl, hk4, hkf, hkc, hkr, rfl⟩
  try simp only [nap, cap]
  have hK := hkr _ hF
  have hkl : (k.take 0) = [] := rfl
  refine g_nilrow 22 1 ?_
  refine g_nilrow 37 1 ?_
  refine g_nilrow 37 1 ?_
  refine g_heap (fun _ s => starL_nil_stars s) ?_
  refine g_heap (fun _ s => starL_nil_stars s) ?_
  refine g_nilrow 5 1 ?_
  refine g_heap (fun _ s => starL_cons_mono (fun k p => rdB_of (l := []) k p) s) ?_
  refine Hh (H' := [pts lo 35 (lnC nilS nilS), pts bk 32 (bkC nilS nilS nilS nilS 0), own none 0 37 1 (([] : List Bi).map bir), own none 0 37 1 (([] : List Bi).map biw), stars (([] : List Bi).map Qb), pts rb 97 (rfC limit none 0 0 0 false), rdB none [], Fd bf limit.toNat [], own ca cc 37 1 (chCells k), own none 0 22 1 (([] : List Rw).map slv), stars (([] : List Rw).map Ow0)]) ?_
  refine Li As ?_
  refine g_ne ?_
  refine g_sr ?_
  refine Li As ?_
  refine g_ne ?_
  refine g_seq ?_
  refine g_sr ?_
  refine Li As ?_
  refine g_ne ?_
  refine g_block ?_
  refine Lo (ι := FsG) [32, 33, 34, 35, 38, 39, 40, 41, 42, 43, 44, 45, 11, 46, 47, 48, 49, 50, 51, 12, 52, 53, 54, 55, 56, 57, 58, 59, 60, 61, 62, 63, 64, 65, 66, 67, 68, 69, 70, 71, 72, 4, 13, 73, 74, 75, 76, 79, 80, 81, 82, 83, 84, 77, 78, 85, 86, 87, 88, 9, 36, 37, 10] (fun g => FsI limit.toNat k g) (fun g => [(9, .slice g.ta g.rs.length g.tc), (10, .int .i64 (g.i : Int))]) (fun g => [pts lo 35 (lnC nilS nilS), pts bk 32 (bkC (.slice g.ai g.xs.length g.ci) (.slice g.aw g.xs.length g.cw) nilS nilS g.n), own g.ai g.ci 37 1 (g.xs.map bir), own g.aw g.cw 37 1 (g.xs.map biw), stars (g.xs.map Qb), pts rb 97 (rfC limit g.ra g.V.length g.rc (flat (k.take g.i)).length g.br), rdB g.ra g.V, Fd bf limit.toNat (flat (k.take g.i)), own ca cc 37 1 (chCells k), own g.ta g.tc 22 1 (g.rs.map slv), stars (g.rs.map Ow0)]) (fun g => k.length - g.i) (⟨0, none, 0, [], false, none, 0, none, 0, [], 0, none, 0, []⟩) ⟨Nat.zero_le _, RfI.start _, Nat.le_refl _, ⟨Nat.zero_le _, Nat.zero_le _, fun i x h => by simp at h, Int.le_refl _, by simp, by simp⟩, by dsimp only; omega, rfl, Nat.le_refl _, by simp, by simp⟩ ?_
  rintro ⟨i, ra, rc, V, br, ai, ci, aw, cw, xs, n, ta, tc, rs⟩ ⟨hi, hrf, hrc, ok, hn, rl, tl, rk, rn⟩
  try dsimp only at hi hrf hrc ok hn rl tl rk rn ⊢
  have hcl := chCells_length k
  refine g_seq ?_
  refine g_sr ?_
  refine Li Mv ?_
  refine Li Mv ?_
  refine Li (Ln T.sl_24) ?_
  refine Li Cm ?_
  refine g_ne ?_
  refine g_cond rfl ?_ ?_
  · intro h1
    replace h1 := nrm h1
    obtain ⟨x, e1⟩ : ∃ x, k[i]? = some x := ⟨_, List.getElem?_eq_getElem (show i < k.length by omega)⟩
    have k1 : (chCells k)[i]? = some (.slice x.a x.b.length x.c) := by simp [chCells, e1]
    have hxm := List.mem_of_getElem? e1
    have hxc := hkc x hxm
    have rX := hK x hxm
    have hfl : (flat (k.take (i + 1))).length ≤ (flat k).length := by
      have : flat k = flat (k.take (i + 1)) ++ flat (k.drop (i + 1)) := by simp [flat, ← List.flatten_append, ← List.map_append]
      rw [this]; simp
    have hfx := flat_take k i x e1
    have hfl2 : (flat (k.take (i + 1))).length = (flat (k.take i)).length + x.b.length := by rw [hfx]; simp
    refine g_fact (sel_fact (.there (.there (.there (.there (.there (.there (.there (.there .here)))))))) fun _ ho => own_none ho (by omega)) fun ca0 => ?_
    refine g_heap ln_zero ?_
    refine g_skip ?_
    refine e_then ?_
    refine g_seq ?_
    refine g_block ?_
    refine g_sr ?_
    refine Li Mv ?_
    refine Li Mv ?_
    refine Li Mv ?_
    refine Li Mv ?_
    refine Li (Ix T.sl_24) ?_
    refine Lp (oL T.sc_37 ?_)
    refine Lp (oC T.fn_14 rfl rfl (lBytes_fn lo none 0 none 0 [] (Nat.zero_le _) (Nat.zero_le _) (Nat.zero_le _) x.a x.c x.b (by omega) x.b.length rfl) (.cons .here (.cons .here (.cons .here (.cons .here .nil)))) (fun _ le _ => rX.mono le) ?_)
    rintro v H' ⟨la, lc, lw, ld, X, rfl, hXL, hXc, lc1, lc2, rfl⟩
    try simp only [nap, cap]
    simp only [lnH, nap, cap, List.nil_append]
    simp only [List.length_nil, Nat.zero_add] at lc1 lc2
    generalize hS : flat (k.take i) = S at *
    refine Lp (oC T.fn_31 rfl rfl (feedF bf limit.toNat S (cutA X.r.a 0 X.r.c (0 * 1)) x.b.length (X.r.c - 0) x.b rfl (by omega) hlim (by omega)) (.cons (.there (.there (.there (.there (.there (.there (.there (.there (.there (.there .here)))))))))) .nil) (fun _ _ hin => cutB (by have := (ln_rows (hin.nth 3 rfl) X (by simp)).2.1; rw [hXL] at this; exact this) (by omega)) ?_)
    rintro v H' ⟨ao, co, o, rfl, ho, rfl⟩
    try simp only [nap, cap]
    refine Li As ?_
    refine g_ne ?_
    refine g_sr ?_
    refine Li Mv ?_
    refine Li Mv ?_
    refine Li Mv ?_
    refine Li (Ix T.sl_24) ?_
    refine Lp (oL T.sc_37 ?_)
    refine Lp (oC T.fn_32 rfl rfl (rfeedP rb limit ra rc S V br x.a x.b.length x.c x.b rfl hrc hrf (by omega) q1 q2) (.cons (.there (.there (.there (.there (.there (.there (.there (.there (.there (.there .here)))))))))) (.cons (.there (.there (.there (.there (.there (.there (.there (.there (.there (.there .here)))))))))) .nil)) (fun _ le _ => rX.mono le) ?_)
    rintro v H' ⟨so, sc, o2, ra2, rc2, V2, br2, rfl, hrc2, hrf2, ho2, rfl⟩
    try simp only [nap, cap]
    have heq : o.map Prod.fst = o2.map Prod.fst := List.append_cancel_left (ho.trans ho2.symm)
    have hsm := PS_small limit.toNat (S ++ x.b)
    have hct := PS_count limit.toNat (S ++ x.b)
    rw [← ho] at hsm hct
    have hSx : (S ++ x.b).length ≤ 12000 := by simp; omega
    have hol : o.length ≤ 12000 := by simp at hct hSx; omega
    refine g_fact (sel_fact (.there (.there .here)) fun k p => Pks_len k p) fun hsc => ?_
    refine g_fact (sel_fact (.there (.there (.there (.there .here)))) fun k p => Pks_len k p) fun hoc => ?_
    refine Li As ?_
    refine g_ne ?_
    refine g_seq ?_
    refine g_sr ?_
    refine Li Mv ?_
    refine Li Mv ?_
    refine Lp (oC T.fn_33 rfl rfl (sames_true o o2 ao so co sc hoc hsc (by omega) heq) .nil (fun _ _ hin => ⟨Pks_at (hin.nth 4 rfl), Pks_at (hin.nth 2 rfl)⟩) ?_)
    rintro v H' ⟨rfl, rfl⟩
    try simp only [nap, cap]
    refine Li Nt ?_
    refine Li Mv ?_
    refine g_slot (t := 56) (v' := .bool false) rfl (congrArg Value.bool (by rfl)) ?_
    refine Li Mv ?_
    have hpl : padL.length = 40 := by simp [padL]
    have hXLL : X.L.length ≤ 200000 := by rw [hXL, List.length_append, hpl]; omega
    refine Lp (oC T.fn_18 rfl rfl (lBack_fn lo la lc lw ld [X] (by simp) (by intro z hz; simp at hz; subst hz; exact hXLL)) (.cons (.there (.there (.there (.there (.there .here))))) (.cons (.there (.there (.there (.there (.there .here))))) (.cons (.there (.there (.there (.there (.there .here))))) (.cons (.there (.there (.there (.there (.there .here))))) .nil)))) (fun _ _ _ => trivial) ?_)
    rintro v H' ⟨rfl, rfl⟩
    try simp only [nap, cap]
    refine Li Nt ?_
    refine Li Pf ?_
    refine Li Mv ?_
    refine g_slot (t := 61) (v' := .bool false) rfl (congrArg Value.bool (by rfl)) ?_
    refine Li Mv ?_
    refine Li Mv ?_
    refine Lp (oC T.fn_33 rfl rfl (sames_true o o2 ao so co sc hoc hsc (by omega) heq) .nil (fun _ _ hin => ⟨Pks_at (hin.nth 5 rfl), Pks_at (hin.nth 3 rfl)⟩) ?_)
    rintro v H' ⟨rfl, rfl⟩
    try simp only [nap, cap]
    refine Li Nt ?_
    refine Li Pf ?_
    refine Li Mv ?_
    refine g_slot (t := 67) (v' := .bool false) rfl (congrArg Value.bool (by rfl)) ?_
    refine Li Mv ?_
    refine Li Mv ?_
    refine Lp (oC T.fn_29 rfl rfl (alike_fn bf rb limit ra2 rc2 (S ++ x.b) V2 br2 hrc2 hrf2 (by omega) q1 q2) .nil (fun _ _ hin => ⟨hin.nth 4 rfl, hin.nth 1 rfl, rdB_in (hin.nth 2 rfl)⟩) ?_)
    rintro v H' ⟨rfl, rfl⟩
    try simp only [nap, cap]
    refine Li Nt ?_
    refine Li Pf ?_
    refine g_ne ?_
    refine g_cond_f rfl (by rfl) ?_

    refine Hh (H' := [Pks ao co o, pts bk 32 (bkC (.slice ai xs.length ci) (.slice aw xs.length cw) nilS nilS n), own ai ci 37 1 (xs.map bir), own aw cw 37 1 (xs.map biw), stars (xs.map Qb), pts lo 35 (lnC nilS nilS), pts rb 97 (rfC limit ra2 V2.length rc2 (S ++ x.b).length br2), rdB ra2 V2, Fd bf limit.toNat (S ++ x.b), own ca cc 37 1 (chCells k), own ta tc 22 1 (rs.map slv), stars (rs.map Ow0)]) ?_
    refine g_stars ?_
    refine Hh (H' := [own ao co 39 9 (pktsCells o), stars (pktOwns (o.drop 0)), pts bk 32 (bkC (.slice ai xs.length ci) (.slice aw xs.length cw) nilS nilS n), own ai ci 37 1 (xs.map bir), own aw cw 37 1 (xs.map biw), stars (xs.map Qb), pts lo 35 (lnC nilS nilS), pts rb 97 (rfC limit ra2 V2.length rc2 (S ++ x.b).length br2), rdB ra2 V2, Fd bf limit.toNat (S ++ x.b), own ca cc 37 1 (chCells k), own ta tc 22 1 (rs.map slv), stars (rs.map Ow0)]) ?_

    refine g_skip ?_
    refine e_then ?_
    refine g_seq ?_
    refine g_sr ?_
    refine Li As ?_
    refine g_ne ?_
    refine g_block ?_
    refine Lo (ι := Nat × Option Addr × Nat × Option Addr × Nat × List Bi × Int) [73, 74, 75, 76, 79, 80, 81, 82, 83, 84, 77, 78, 13] (fun (j, bi, di, bw, dw, ys, n2) => j ≤ o.length ∧ BkOk ys di dw n2 ∧ n2 ≤ 300000) (fun (j, bi, di, bw, dw, ys, n2) => [(13, .int .i64 (j : Int))]) (fun (j, bi, di, bw, dw, ys, n2) => [own ao co 39 9 (pktsCells o), stars (pktOwns (o.drop j)), pts bk 32 (bkC (.slice bi ys.length di) (.slice bw ys.length dw) nilS nilS n2), own bi di 37 1 (ys.map bir), own bw dw 37 1 (ys.map biw), stars (ys.map Qb), pts lo 35 (lnC nilS nilS), pts rb 97 (rfC limit ra2 V2.length rc2 (S ++ x.b).length br2), rdB ra2 V2, Fd bf limit.toNat (S ++ x.b), own ca cc 37 1 (chCells k), own ta tc 22 1 (rs.map slv), stars (rs.map Ow0)]) (fun (j, bi, di, bw, dw, ys, n2) => o.length - j) ((0, ai, ci, aw, cw, xs, n)) ⟨Nat.zero_le _, ok, hn⟩ ?_
    rintro ⟨j, bi, di, bw, dw, ys, n2⟩ ⟨hj, ok2, hn2⟩
    try dsimp only at hI ⊢
    try dsimp only at hj ok2 hn2 ⊢
    refine g_seq ?_
    refine g_sr ?_
    refine Li Mv ?_
    refine Li Mv ?_
    refine Li (Ln T.sl_22) ?_
    refine Li Cm ?_
    refine g_ne ?_
    refine g_cond rfl ?_ ?_
    · intro h2
      replace h2 := nrm h2
      obtain ⟨q, e2⟩ : ∃ q, o[j]? = some q := ⟨_, List.getElem?_eq_getElem (show j < o.length by omega)⟩
      have k2 := pktsCells_at o j q e2
      have hqm : q.1 ∈ o.map Prod.fst := List.mem_map.2 ⟨q, List.mem_of_getElem? e2, rfl⟩
      obtain ⟨h5, h6⟩ := hsm q.1 (List.mem_append.2 (.inr hqm))
      refine g_fact (sel_fact .here fun _ ho => own_none ho (by rw [pktsCells_length]; omega)) fun ao0 => ?_
      rw [drop_at o j _ e2, pktOwns_cons]
      obtain ⟨p, ⟨ae, ce, av, cv⟩⟩ := q
      simp only at k2 h5 h6
      refine Hh (H' := [stars (own ae ce 5 1 (bcells p.ex) :: own av cv 5 1 (bcells p.val) :: pktOwns (o.drop (j + 1))), own ao co 39 9 (pktsCells o), pts bk 32 (bkC (.slice bi ys.length di) (.slice bw ys.length dw) nilS nilS n2), own bi di 37 1 (ys.map bir), own bw dw 37 1 (ys.map biw), stars (ys.map Qb), pts lo 35 (lnC nilS nilS), pts rb 97 (rfC limit ra2 V2.length rc2 (S ++ x.b).length br2), rdB ra2 V2, Fd bf limit.toNat (S ++ x.b), own ca cc 37 1 (chCells k), own ta tc 22 1 (rs.map slv), stars (rs.map Ow0)]) ?_
      refine g_pop ?_
      refine Hh (H' := [stars (own av cv 5 1 (bcells p.val) :: pktOwns (o.drop (j + 1))), own ae ce 5 1 (bcells p.ex), own ao co 39 9 (pktsCells o), pts bk 32 (bkC (.slice bi ys.length di) (.slice bw ys.length dw) nilS nilS n2), own bi di 37 1 (ys.map bir), own bw dw 37 1 (ys.map biw), stars (ys.map Qb), pts lo 35 (lnC nilS nilS), pts rb 97 (rfC limit ra2 V2.length rc2 (S ++ x.b).length br2), rdB ra2 V2, Fd bf limit.toNat (S ++ x.b), own ca cc 37 1 (chCells k), own ta tc 22 1 (rs.map slv), stars (rs.map Ow0)]) ?_
      refine g_pop ?_
      refine g_skip ?_
      refine e_then ?_
      refine g_seq ?_
      refine g_block ?_
      refine g_region ?_
      refine Li Mv ?_
      refine Li Mv ?_
      refine Li Mv ?_
      refine Li (Ix T.sl_22) ?_
      refine Lp (oLN T.ag_39 ?_)
      refine Lp (oC T.fn_26 rfl rfl (kept_fn bk bi di bw dw ys n2 ok2 hn2 p ae ce av cv (by omega) (by omega)) (.cons (.there (.there .here)) (.cons .here (.cons (.there (.there .here)) (.cons (.there (.there .here)) (.cons (.there (.there .here)) (.cons (.there (.there .here)) .nil)))))) (fun _ _ _ => trivial) ?_)
      rintro v H' ⟨rfl, bi3, ci3, bw3, cw3, xs3, n3, rfl, ok3, hn3⟩
      try simp only [nap, cap]
      simp only [bkH, nap, cap]
      refine g_nil ?_
      refine e_block ?_
      refine e_then ?_
      refine g_region ?_
      refine Li Mv ?_
      refine Li Im ?_
      refine Li As ?_
      refine g_nil ?_
      refine Ro ((j + 1, bi3, ci3, bw3, cw3, xs3, n3)) (⟨by omega, ok3, hn3⟩) (by omega)
    · intro h2
      replace h2 := nrm h2
      refine Hh (H' := [own ao co 39 9 (pktsCells o), stars (rs.map Ow0), own ta tc 22 1 (rs.map slv), pts bk 32 (bkC (.slice bi ys.length di) (.slice bw ys.length dw) nilS nilS n2), own bi di 37 1 (ys.map bir), own bw dw 37 1 (ys.map biw), stars (ys.map Qb), pts lo 35 (lnC nilS nilS), pts rb 97 (rfC limit ra2 V2.length rc2 (S ++ x.b).length br2), rdB ra2 V2, Fd bf limit.toNat (S ++ x.b), own ca cc 37 1 (chCells k)]) ?_
      refine g_heap (fun _ s => starL_cons_mono (B := Ow0 (⟨i, ao, o.length, co⟩ : Rw)) (fun _ p => ⟨_, pktsCells_length o, p⟩) s) ?_
      refine g_push ?_
      have hrs : rs.map Ow0 ++ [Ow0 (⟨i, ao, o.length, co⟩ : Rw)] = (rs ++ [(⟨i, ao, o.length, co⟩ : Rw)]).map Ow0 := by simp
      have hrk : ∀ (z : Nat) (r : Rw), (rs ++ [(⟨i, ao, o.length, co⟩ : Rw)])[z]? = some r → r.k = z := fun z r h => by
        by_cases hz : z < rs.length
        · rw [List.getElem?_append_left hz] at h
          exact rk z r h
        · rw [List.getElem?_append_right (by omega)] at h
          obtain ⟨w, hw⟩ : ∃ w, z - rs.length = w := ⟨_, rfl⟩
          rw [hw] at h
          cases w with
          | zero => simp at h; subst h; dsimp only; omega
          | succ w => simp at h
      have hrn : ∀ r ∈ rs ++ [(⟨i, ao, o.length, co⟩ : Rw)], r.n ≤ 1000000 := fun r h => by
        rcases List.mem_append.1 h with h | h
        · exact rn r h
        · rw [List.mem_singleton.1 h]; dsimp only; omega
      have hsl := slv_len rs
      have hsn := slv_snoc rs ao i o.length co
      have hrl : rs.length + 1 = (rs ++ [(⟨i, ao, o.length, co⟩ : Rw)]).length := by simp
      rw [hrs]
      generalize hrs2 : rs ++ [(⟨i, ao, o.length, co⟩ : Rw)] = rs2 at *
      refine Hh (H' := [own ta tc 22 1 (rs.map slv), stars (rs2.map Ow0), pts bk 32 (bkC (.slice bi ys.length di) (.slice bw ys.length dw) nilS nilS n2), own bi di 37 1 (ys.map bir), own bw dw 37 1 (ys.map biw), stars (ys.map Qb), pts lo 35 (lnC nilS nilS), pts rb 97 (rfC limit ra2 V2.length rc2 (S ++ x.b).length br2), rdB ra2 V2, Fd bf limit.toNat (S ++ x.b), own ca cc 37 1 (chCells k)]) ?_
      refine g_exit ?_
      refine e_then_exit ?_
      refine e_then_exit ?_
      refine e_block_hit ?_
      refine e_then ?_
      refine g_region ?_
      refine Li Mv ?_
      refine Li Mv ?_
      refine Lp (oT T.ap_64 fun b3 => ?_)
      refine Lp (op_append_lit T.ap_64 T.ni_64 rfl rfl rfl rfl .here (by simp) (rfl) (by simp [Value.oneCell']) (by first | omega | (simp; omega)) (by first | omega | (simp; omega)) rfl fun a5 c5 hc5 => ?_)
      rw [hsn, hrl, ← hfx]
      rw [hrl] at hc5
      rw [← hfx] at hrf2
      refine Li As ?_
      refine g_nil ?_
      refine e_block ?_
      refine e_then ?_
      refine g_region ?_
      refine Li Mv ?_
      refine Li Im ?_
      refine Li As ?_
      refine g_nil ?_
      refine Ro (⟨i + 1, ra2, rc2, V2, br2, bi, di, bw, dw, ys, n2, a5, c5, rs2⟩) (⟨by dsimp only; omega, hrf2, hrc2, ok2, hn2, by dsimp only; omega, hc5, hrk, hrn⟩) ((by dsimp only; omega))
  · intro h1
    replace h1 := nrm h1
    refine g_exit ?_
    refine e_then_exit ?_
    refine e_then_exit ?_
    refine e_block_hit ?_
    refine e_then ?_
    refine g_sr ?_
    refine Li Mv ?_
    refine Lp (oC T.fn_20 rfl rfl (close_fn bk ai ci aw cw xs n ok hn) (.cons (.there .here) (.cons (.there .here) (.cons (.there .here) (.cons (.there .here) .nil)))) (fun _ _ _ => trivial) ?_)
    rintro v H' ⟨rfl, rfl⟩
    try simp only [nap, cap]
    refine Li Mv ?_
    refine g_slot (t := 91) (v' := .bool true) rfl (congrArg Value.bool (by rfl)) ?_
    refine Li Mv ?_
    refine Lp (oC T.fn_34 rfl rfl (rowsOwn_fn ta rs rs.length tc rfl (by omega) rk rn) (.cons (.there (.there (.there (.there (.there (.there .here)))))) .nil) (fun _ _ hin => own_in (hin.nth 5 rfl)) ?_)
    rintro v H' ⟨rfl, rfl⟩
    try simp only [nap, cap]
    refine Li Pt ?_
    refine Li Mv ?_
    refine g_slot (t := 95) (v' := .bool true) rfl (congrArg Value.bool (by rfl)) ?_
    refine Lp (oC T.fn_21 rfl rfl (wakes_fn) .nil (fun _ _ _ => trivial) ?_)
    rintro v H' ⟨rfl, rfl⟩
    try simp only [nap, cap]
    refine Li Pt ?_
    refine Li As ?_
    refine g_ne ?_
    refine g_ret ?_
    refine Rt [] Try.results5 ?_
    exact ⟨rfl, rfl⟩
end Go.Proofs.Ytggmpaggmkfmoaa

