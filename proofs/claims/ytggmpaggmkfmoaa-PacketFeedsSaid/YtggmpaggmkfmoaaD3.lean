/- The book of lists, of bytes: closed: each list is its own. -/
import Derived.Test.YtggmpaggmkfmoaaD2
set_option maxRecDepth 100000
namespace Go.Proofs.Ytggmpaggmkfmoaa
open Go Go.Eng

theorem bkC_set2 (v0 v1 v2 v3 w : Value) (n : Int) : (bkC v0 v1 v2 v3 n).set (0 + 2) w = bkC v0 v1 w v3 n := rfl
theorem bkC_set3 (v0 v1 v2 v3 w : Value) (n : Int) : (bkC v0 v1 v2 v3 n).set (0 + 3) w = bkC v0 v1 v2 w n := rfl
/-- bytes that are numbers -/
def kcells (l : List Int) : List Value := l.map fun n => .int .u8 n
theorem kcells_len (l : List Int) : (kcells l).length = l.length := by simp [kcells]
theorem kcells_app (l m : List Int) : kcells (l ++ m) = kcells l ++ kcells m := by simp [kcells]
theorem kcells_one (l : List Int) : ∀ v ∈ kcells l, v.oneCell' = true := by
  intro v hv
  obtain ⟨n, _, rfl⟩ := List.mem_map.1 hv
  rfl
def mkI (n : Nat) (v : Int) : List Int := List.replicate n v
theorem mkI_len (n : Nat) (v : Int) : (kcells (mkI n v)).length = n := by rw [kcells_len]; simp [mkI]
theorem mkI_at (n k : Nat) (v : Int) (h : k < n) : (kcells (mkI n v))[k]? = some (.int .u8 v) := by unfold kcells mkI; rw [List.getElem?_map, List.getElem?_replicate, if_pos h]; rfl
theorem mkI_succ (n : Nat) (v : Int) : kcells (mkI (n + 1) v) = kcells (mkI n v) ++ [.int .u8 v] := by
  have : mkI (n + 1) v = mkI n v ++ [v] := List.replicate_succ'
  rw [this, kcells_app]; rfl
theorem mkI_add (n m : Nat) (v : Int) : kcells (mkI (n + m) v) = kcells (mkI n v) ++ kcells (mkI m v) := by
  have : mkI (n + m) v = mkI n v ++ mkI m v := (List.replicate_append_replicate ..).symm
  rw [this, kcells_app]
structure LkI (h : Hp) (b : Nat) (ai : Option Addr) (ci : Nat) (v5 v6 v7 : Value) (n : Int) (ag : Option Addr) (rs gs : List Rw) : Prop where
  bk : ∃ k, pts b 32 (bkC (.slice ai rs.length ci) v5 v6 v7 n) k ∧ Le k h
  l : Rdl h ai (rs.map slv)
  g : Rdl h ag (gs.map slv)
  row : ∀ (i : Nat) (r g : Rw), rs[i]? = some r → gs[i]? = some g → (r.n ≤ g.n ∧ g.n ≤ 1000000) ∧ Rdl h r.a (kcells (mkI r.n ((i : Int).tmod 125))) ∧ Rdl h g.a (kcells (mkI r.n ((i : Int).tmod 125) ++ mkI (g.n - r.n) (125 + (i : Int).tmod 125)))
set_option maxHeartbeats 1000000 in
theorem lookI_fn (b : Nat) (ai ag : Option Addr) (ci : Nat) (v5 v6 v7 : Value) (n : Int) (rs gs : List Rw) (mg cg : Nat) (hmg : mg = gs.length) (hl : gs.length = rs.length) (hr : rs.length ≤ 1000000) :
    FnS Try.prog 71 [.pointer (some ⟨b, 0, none⟩), .slice ag mg cg] (fun h => LkI h b ai ci v5 v6 v7 n ag rs gs) [] (fun v H => v = .bool true ∧ H = []) := by
  subst hmg
  refine fn_body Try.func71 rfl Try.ntmps71 rfl ?_
  intro F hF
  have hb := hF.bk
  refine g_sr ?_
  refine Li As ?_
  refine g_ne ?_
  refine g_seq ?_
  refine g_sr ?_
  refine Li As ?_
  refine g_ne ?_
  refine g_block ?_
  refine Lo (ι := Nat) [8, 9, 10, 11, 14, 15, 16, 17, 18, 19, 20, 21, 6, 7, 22, 23, 24, 25, 26, 27, 28, 31, 32, 33, 34, 35, 36, 37, 38, 39, 40, 41, 42, 43, 44, 45, 46, 47, 48, 49, 50, 51, 52, 53, 54, 55, 56, 57, 58, 59, 60, 61, 62, 63, 64, 65, 66, 67, 68, 69, 70, 71, 72, 73, 74, 75, 76, 77, 78, 79, 80, 81, 4, 29, 30, 12, 13, 5] (fun i => i ≤ rs.length) (fun i => [(5, .int .i64 (i : Int))]) (fun i => []) (fun i => rs.length - i) (0) (Nat.zero_le _) ?_
  rintro i hi
  refine g_seq ?_
  refine g_sr ?_
  refine Li Mv ?_
  refine Li Mv ?_
  refine Li (Ln T.sl_24) ?_
  refine Li Cm ?_
  refine g_ne ?_
  refine g_cond rfl ?_ ?_
  · intro h1
    replace h1 := nrm h1
    obtain ⟨r, e1⟩ : ∃ r, rs[i]? = some r := ⟨_, List.getElem?_eq_getElem (show i < rs.length by omega)⟩
    obtain ⟨g, e2⟩ : ∃ g, gs[i]? = some g := ⟨_, List.getElem?_eq_getElem (show i < gs.length by omega)⟩
    obtain ⟨⟨hng, hgb⟩, hra, hga⟩ := hF.row i r g e1 e2
    have s1 := slv_at rs i r e1
    have s2 := slv_at gs i g e2
    have hL := hF.l
    have hG := hF.g
    have t1 : 0 ≤ (i : Int).tmod 125 := Int.tmod_nonneg 125 (by omega)
    have t2 : (i : Int).tmod 125 < 125 := Int.tmod_lt_of_pos _ (by omega)
    have a1 : ai.isSome = true := hL.some (by simp; omega)
    have a2 : ag.isSome = true := hG.some (by simp; omega)
    obtain ⟨rk, ra, rn, rc⟩ := r
    obtain ⟨gk, ga, gn, gc⟩ := g
    simp only at hng hgb hra hga s1 s2
    have n1 := mkI_len rn ((i : Int).tmod 125)
    have n2 : (kcells (mkI rn ((i : Int).tmod 125) ++ mkI (gn - rn) (125 + (i : Int).tmod 125))).length = gn := by rw [kcells_app, List.length_append, mkI_len, mkI_len]; omega
    refine g_skip ?_
    refine e_then ?_
    refine g_seq ?_
    refine g_block ?_
    refine g_sr ?_
    refine Li Mv ?_
    refine Li Nc ?_
    refine Li (Fa T.fld_32_0) ?_
    refine Lp (oL T.sc_24 ?_)
    refine Li Mv ?_
    refine Li (Ix T.sl_24) ?_
    refine Lp (oL T.sc_37 ?_)
    refine Li (Ln T.sl_37) ?_
    refine Li As ?_
    refine g_ne ?_
    refine g_sr ?_
    refine Li As ?_
    refine g_ne ?_
    refine g_block ?_
    refine Lo (ι := Nat) [22, 23, 24, 25, 26, 27, 28, 31, 32, 33, 34, 35, 36, 37, 38, 39, 40, 41, 42, 43, 44, 45, 46, 47, 48, 49, 50, 51, 52, 53, 54, 55, 56, 57, 58, 59, 60, 61, 62, 63, 64, 65, 66, 67, 68, 69, 70, 71, 72, 73, 74, 75, 76, 77, 78, 79, 80, 81, 4, 29, 30, 7] (fun k => k ≤ gn) (fun k => [(7, .int .i64 (k : Int))]) (fun k => []) (fun k => gn - k) (0) (Nat.zero_le _) ?_
    rintro k hk
    refine g_seq ?_
    refine g_sr ?_
    refine Li Mv ?_
    refine Li Mv ?_
    refine Li Mv ?_
    refine Li (Ix T.sl_24) ?_
    refine Lp (oL T.sc_37 ?_)
    refine Li (Ln T.sl_37) ?_
    refine Li Cm ?_
    refine g_ne ?_
    refine g_cond rfl ?_ ?_
    · intro h2
      replace h2 := nrm h2
      have a4 : ga.isSome = true := hga.some (by omega)
      refine g_skip ?_
      refine e_then ?_
      refine g_seq ?_
      refine g_block ?_
      refine g_sr ?_
      refine Li Mv ?_
      refine Li Mv ?_
      refine Li Cm ?_
      refine Li Mv ?_
      refine g_split (t := 34) rfl ?_ ?_
      · intro h3
        replace h3 := nrm h3
        have q2 : (kcells (mkI rn ((i : Int).tmod 125) ++ mkI (gn - rn) (125 + (i : Int).tmod 125)))[k]? = some (.int .u8 ((i : Int).tmod 125)) := by
          rw [kcells_app, List.getElem?_append_left (by omega)]
          exact mkI_at _ _ _ (by omega)
        have q1 : (kcells (mkI rn ((i : Int).tmod 125)))[k]? = some (.int .u8 ((i : Int).tmod 125)) := mkI_at _ _ _ (by omega)
        have a3 : ra.isSome = true := hra.some (by omega)
        refine Li Mv ?_
        refine Li Mv ?_
        refine Li (Ix T.sl_24) ?_
        refine Lp (oL T.sc_37 ?_)
        refine Li Mv ?_
        refine Li (Ix T.sl_37) ?_
        refine Lp (oL T.sc_5 ?_)
        refine Li Mv ?_
        refine Li Im ?_
        refine Li (Cv T.u_5 T.us_3) ?_
        refine Li Cm ?_
        refine Li Mv ?_
        refine g_slot (t := 46) (v' := .bool false) rfl (congrArg Value.bool (by simp)) ?_
        refine Li Mv ?_
        refine Li Nc ?_
        refine Li (Fa T.fld_32_0) ?_
        refine Lp (oL T.sc_24 ?_)
        refine Li Mv ?_
        refine Li (Ix T.sl_24) ?_
        refine Lp (oL T.sc_37 ?_)
        refine Li Mv ?_
        refine Li (Ix T.sl_37) ?_
        refine Lp (oL T.sc_5 ?_)
        refine Li Mv ?_
        refine Li Im ?_
        refine Li (Cv T.u_5 T.us_3) ?_
        refine Li Cm ?_
        refine Li Pf ?_
        refine Li Pt ?_
        refine Li Mv ?_
        refine g_slot (t := 63) (v' := .bool false) rfl (congrArg Value.bool (by simp)) ?_
        refine Li Mv ?_
        refine Li Mv ?_
        refine Li Cm ?_
        refine Li Mv ?_
        refine g_slot (t := 67) (v' := .bool false) rfl (congrArg Value.bool (by (rw [decide_eq_false_iff_not]; omega))) ?_
        refine Lx ?_
        refine Lx ?_
        refine Lx ?_
        refine Lx ?_
        refine Lx ?_
        refine Lx ?_
        refine Lx ?_
        refine Lx ?_
        refine Lx ?_
        refine Lx ?_
        refine Lx ?_
        refine Lx ?_
        refine Li Pf ?_
        refine Li Pf ?_
        refine g_ne ?_
        refine g_cond_f rfl rfl ?_
        refine g_skip ?_
        refine e_block ?_
        refine e_then ?_
        refine g_region ?_
        refine Li Mv ?_
        refine Li Im ?_
        refine Li As ?_
        refine g_nil ?_
        refine Ro (k + 1) ((by omega)) (by omega)
      · intro h3
        replace h3 := nrm h3
        have q2 : (kcells (mkI rn ((i : Int).tmod 125) ++ mkI (gn - rn) (125 + (i : Int).tmod 125)))[k]? = some (.int .u8 (125 + (i : Int).tmod 125)) := by
          rw [kcells_app, List.getElem?_append_right (by omega), n1]
          exact mkI_at _ _ _ (by omega)
        refine Lx ?_
        refine Lx ?_
        refine Lx ?_
        refine Lx ?_
        refine Lx ?_
        refine Lx ?_
        refine Lx ?_
        refine Lx ?_
        refine Lx ?_
        refine Lx ?_
        refine Lx ?_
        refine Lx ?_
        refine Lx ?_
        refine Lx ?_
        refine Lx ?_
        refine Lx ?_
        refine Lx ?_
        refine Lx ?_
        refine Lx ?_
        refine Lx ?_
        refine Lx ?_
        refine Lx ?_
        refine Lx ?_
        refine Lx ?_
        refine Lx ?_
        refine Lx ?_
        refine Lx ?_
        refine Li Pf ?_
        refine Li Mv ?_
        refine Li Mv ?_
        refine Li Mv ?_
        refine Li Cm ?_
        refine Li Mv ?_
        refine g_slot (t := 67) (v' := .bool true) rfl (congrArg Value.bool (by (rw [decide_eq_true_eq]; omega))) ?_
        refine Li Mv ?_
        refine Li Mv ?_
        refine Li (Ix T.sl_24) ?_
        refine Lp (oL T.sc_37 ?_)
        refine Li Mv ?_
        refine Li (Ix T.sl_37) ?_
        refine Lp (oL T.sc_5 ?_)
        refine Li Mv ?_
        refine Li Im ?_
        refine Li Im ?_
        refine Li (Cv T.u_5 T.us_3) ?_
        refine Li Cm ?_
        refine Li Pt ?_
        refine Li Pf ?_
        refine g_ne ?_
        refine g_cond_f rfl (by simp) ?_
        refine g_skip ?_
        refine e_block ?_
        refine e_then ?_
        refine g_region ?_
        refine Li Mv ?_
        refine Li Im ?_
        refine Li As ?_
        refine g_nil ?_
        refine Ro (k + 1) ((by omega)) (by omega)
    · intro h2
      replace h2 := nrm h2
      refine g_exit ?_
      refine e_then_exit ?_
      refine e_then_exit ?_
      refine e_block_hit ?_
      refine e_block ?_
      refine e_then ?_
      refine g_region ?_
      refine Li Mv ?_
      refine Li Im ?_
      refine Li As ?_
      refine g_nil ?_
      refine Ro (i + 1) ((by omega)) (by omega)
  · intro h1
    replace h1 := nrm h1
    refine g_exit ?_
    refine e_then_exit ?_
    refine e_then_exit ?_
    refine e_block_hit ?_
    refine e_then ?_
    refine g_sr ?_
    refine Li As ?_
    refine g_ne ?_
    refine g_ret ?_
    refine Rt [] Try.results71 ?_
    exact ⟨rfl, rfl⟩
def P0 (r : Rw) : HProp := fun h => ∃ L : List Value, L.length = r.n ∧ own r.a r.c 5 1 L h
def P1 (r : Rw) : HProp := own r.a r.c 5 1 (kcells (mkI r.n ((r.k : Int).tmod 125)))
def P2 (p : Rw × Rw) : HProp := fun h => p.2.n = p.1.n + 16 ∧ grw p.1.a p.1.c 5 1 (kcells (mkI p.1.n ((p.1.k : Int).tmod 125))) (kcells (mkI 16 (125 + (p.1.k : Int).tmod 125))) p.2.a p.2.c h
def P3 (p : (Rw × Rw) × Rw) : HProp := fun h => (p.1.2.n = p.1.1.n + 16 ∧ p.2.n = p.1.1.n + 700) ∧ rdP [(p.1.1.a, kcells (mkI p.1.1.n ((p.1.1.k : Int).tmod 125))), (p.1.2.a, kcells (mkI p.1.1.n ((p.1.1.k : Int).tmod 125)) ++ kcells (mkI 16 (125 + (p.1.1.k : Int).tmod 125))), (p.2.a, kcells (mkI p.1.1.n ((p.1.1.k : Int).tmod 125)) ++ (kcells (mkI 16 (125 + (p.1.1.k : Int).tmod 125)) ++ kcells (mkI 684 (125 + (p.1.1.k : Int).tmod 125))))] h
theorem stars_p2 {rs gs : List Rw} {h : Hp} (hk : ∀ (i : Nat) (r : Rw), rs[i]? = some r → r.k = i) (hn : ∀ r ∈ rs, r.n ≤ 20000) (s : ∃ k, stars ((rs.zip gs).map P2) k ∧ Le k h) : ∀ (i : Nat) (r g : Rw), rs[i]? = some r → gs[i]? = some g → (r.n ≤ g.n ∧ g.n ≤ 1000000) ∧ Rdl h r.a (kcells (mkI r.n ((i : Int).tmod 125))) ∧ Rdl h g.a (kcells (mkI r.n ((i : Int).tmod 125) ++ mkI (g.n - r.n) (125 + (i : Int).tmod 125))) := by
  intro i r g h1 h2
  obtain ⟨k, s, le⟩ := s
  have := stars_all (f := P2) (X := fun p h => p.2.n = p.1.n + 16 ∧ Rdl h p.1.a (kcells (mkI p.1.n ((p.1.k : Int).tmod 125))) ∧ Rdl h p.2.a (kcells (mkI p.1.n ((p.1.k : Int).tmod 125)) ++ kcells (mkI 16 (125 + (p.1.k : Int).tmod 125)))) (fun p k q => ⟨q.1, grw_rd q.2⟩) (fun p k l q le => ⟨q.1, q.2.1.mono le, q.2.2.mono le⟩) _ _ s (r, g) (zip_at _ _ _ _ _ h1 h2)
  obtain ⟨x, y, z⟩ := this
  have e := hk i r h1
  have en := hn r (List.mem_of_getElem? h1)
  simp only [e] at x y z
  refine ⟨⟨by omega, by omega⟩, y.mono le, ?_⟩
  rw [kcells_app, x, show r.n + 16 - r.n = 16 from by omega]
  exact z.mono le
theorem stars_p3 {rs gs ms : List Rw} {h : Hp} (hk : ∀ (i : Nat) (r : Rw), rs[i]? = some r → r.k = i) (hn : ∀ r ∈ rs, r.n ≤ 20000) (hl : gs.length = rs.length) (hlm : ms.length = rs.length) (s : ∃ k, stars (((rs.zip gs).zip ms).map P3) k ∧ Le k h) :
    (∀ (i : Nat) (r g : Rw), rs[i]? = some r → gs[i]? = some g → (r.n ≤ g.n ∧ g.n ≤ 1000000) ∧ Rdl h r.a (kcells (mkI r.n ((i : Int).tmod 125))) ∧ Rdl h g.a (kcells (mkI r.n ((i : Int).tmod 125) ++ mkI (g.n - r.n) (125 + (i : Int).tmod 125)))) ∧
    ∀ (i : Nat) (r g : Rw), rs[i]? = some r → ms[i]? = some g → (r.n ≤ g.n ∧ g.n ≤ 1000000) ∧ Rdl h r.a (kcells (mkI r.n ((i : Int).tmod 125))) ∧ Rdl h g.a (kcells (mkI r.n ((i : Int).tmod 125) ++ mkI (g.n - r.n) (125 + (i : Int).tmod 125))) := by
  have key : ∀ (i : Nat) (r g m : Rw), rs[i]? = some r → gs[i]? = some g → ms[i]? = some m → (g.n = r.n + 16 ∧ m.n = r.n + 700) ∧ Rdl h r.a (kcells (mkI r.n ((i : Int).tmod 125))) ∧ Rdl h g.a (kcells (mkI r.n ((i : Int).tmod 125)) ++ kcells (mkI 16 (125 + (i : Int).tmod 125))) ∧ Rdl h m.a (kcells (mkI r.n ((i : Int).tmod 125)) ++ kcells (mkI 700 (125 + (i : Int).tmod 125))) := by
    intro i r g m h1 h2 h3
    obtain ⟨k, s, le⟩ := s
    have := stars_all (f := P3) (X := P3) (fun p k q => q) (fun p k l q le => ⟨q.1, rdP_mono q.2 le⟩) _ _ s ((r, g), m) (zip_at _ _ i _ _ (by rw [List.getElem?_zip_eq_some]; exact ⟨h1, h2⟩) h3)
    obtain ⟨x, y⟩ := this
    have y := rdP_mono y le
    have e := hk i r h1
    simp only [e] at x y
    have y1 := y (r.a, kcells (mkI r.n ((i : Int).tmod 125))) (by simp)
    have y2 := y (g.a, kcells (mkI r.n ((i : Int).tmod 125)) ++ kcells (mkI 16 (125 + (i : Int).tmod 125))) (by simp)
    have y3 := y (m.a, kcells (mkI r.n ((i : Int).tmod 125)) ++ (kcells (mkI 16 (125 + (i : Int).tmod 125)) ++ kcells (mkI 684 (125 + (i : Int).tmod 125)))) (by simp)
    rw [← mkI_add 16 684] at y3
    exact ⟨x, y1, y2, y3⟩
  constructor
  · intro i r g h1 h2
    obtain ⟨m, h3⟩ : ∃ m, ms[i]? = some m := ⟨_, List.getElem?_eq_getElem (show i < ms.length by have := (List.getElem?_eq_some_iff.1 h1).1; omega)⟩
    obtain ⟨⟨x, _⟩, y1, y2, _⟩ := key i r g m h1 h2 h3
    have en := hn r (List.mem_of_getElem? h1)
    refine ⟨⟨by omega, by omega⟩, y1, ?_⟩
    rw [kcells_app, x, show r.n + 16 - r.n = 16 from by omega]
    exact y2
  · intro i r m h1 h3
    obtain ⟨g, h2⟩ : ∃ m, gs[i]? = some m := ⟨_, List.getElem?_eq_getElem (show i < gs.length by have := (List.getElem?_eq_some_iff.1 h1).1; omega)⟩
    obtain ⟨⟨_, x⟩, y1, _, y3⟩ := key i r g m h1 h2 h3
    have en := hn r (List.mem_of_getElem? h1)
    refine ⟨⟨by omega, by omega⟩, y1, ?_⟩
    rw [kcells_app, x, show r.n + 700 - r.n = 700 from by omega]
    exact y3
theorem int_store (L : List Value) (k : Nat) (v : Int) (hk : k < L.length) : (kcells (mkI k v) ++ L.drop k).set k (.int .u8 v) = kcells (mkI (k + 1) v) ++ L.drop (k + 1) := by
  have h1 := mkI_len k v
  rw [List.set_append_right _ _ (by omega), h1, Nat.sub_self, List.drop_eq_getElem_cons hk, List.set_cons_zero, mkI_succ, List.append_assoc]
  rfl
end Go.Proofs.Ytggmpaggmkfmoaa

