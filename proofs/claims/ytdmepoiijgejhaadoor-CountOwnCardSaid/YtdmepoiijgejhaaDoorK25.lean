/- Counts: lists of lines that were told are written over and grown, and looked at. -/
import Derived.Test.YtdmepoiijgejhaaDoorK24
import Derived.Test.YtdmepoiijgejhaaDoorEngB
set_option maxRecDepth 100000
namespace Go.Proofs.YtdmepoiijgejhaaDoor
open Go Go.Eng

/-- a row: its place among the rows, its slice -/
structure Rw where
  k : Nat
  a : Option Addr
  n : Nat
  c : Nat
def slv (r : Rw) : Value := .slice r.a r.n r.c
def mkL (n v : Nat) : List (List UInt8 × Nat) := List.replicate n ([], v)
theorem mkL_succ (n v : Nat) : linesC (mkL (n + 1) v) = linesC (mkL n v) ++ lineC ([], v) := by
  rw [← linesC_snoc]
  congr 1
  exact List.replicate_succ'
theorem linesC_app (l m : List (List UInt8 × Nat)) : linesC (l ++ m) = linesC l ++ linesC m := by simp [linesC]
theorem linesC_one (l : List (List UInt8 × Nat)) : ∀ v ∈ linesC l, v.oneCell' = true := by
  intro v hv
  obtain ⟨x, _, hx⟩ := List.mem_flatMap.1 hv
  simp [lineC] at hx
  rcases hx with rfl | rfl <;> simp [Value.oneCell', strv]
theorem mkL_len (n v : Nat) : (linesC (mkL n v)).length = n * 2 := by rw [linesC_len]; simp [mkL]
theorem slv_at (rs : List Rw) (i : Nat) (r : Rw) (h : rs[i]? = some r) : (rs.map slv)[i]? = some (.slice r.a r.n r.c) := by simp [h, slv]
/-- what the looking at needs -/
structure Lk (h : Hp) (al ag : Option Addr) (rs gs : List Rw) (b : Nat) : Prop where
  l : Rdl h al (rs.map slv)
  g : Rdl h ag (gs.map slv)
  row : ∀ i r g, rs[i]? = some r → gs[i]? = some g → (r.n ≤ g.n ∧ g.n ≤ 1000000) ∧ Rdl h r.a (linesC (mkL r.n i)) ∧ Rdl h g.a (linesC (mkL r.n i ++ mkL (g.n - r.n) (b + i)))
theorem Lk.mono {h k : Hp} {al ag : Option Addr} {rs gs : List Rw} {b : Nat} (q : Lk h al ag rs gs b) (le : Le h k) : Lk k al ag rs gs b := ⟨q.l.mono le, q.g.mono le, fun i r g h1 h2 => by obtain ⟨x, y, z⟩ := q.row i r g h1 h2; exact ⟨x, y.mono le, z.mono le⟩⟩
set_option maxHeartbeats 1000000 in
theorem holds_fn (al ag : Option Addr) (rs gs : List Rw) (m mg cl cg b : Nat) (hm : m = rs.length) (hmg : mg = gs.length) (hl : gs.length = rs.length) (hb : b ≤ 10000) (hr : rs.length ≤ 1000) :
    FnS Tryd.prog 46 [.slice al m cl, .slice ag mg cg, .int .i64 (b : Int)] (fun h => Lk h al ag rs gs b) [] (fun v H => v = .bool true ∧ H = []) := by
  subst hm hmg
  refine fn_body Tryd.func46 rfl Tryd.ntmps46 rfl ?_
  intro F hF
  refine g_sr ?_
  refine Li As ?_
  refine g_ne ?_
  refine g_seq ?_
  refine g_sr ?_
  refine Li As ?_
  refine g_ne ?_
  refine g_block ?_
  refine Lo (ι := Nat) [10, 11, 12, 13, 8, 16, 17, 18, 19, 20, 21, 22, 25, 26, 9, 27, 28, 29, 30, 31, 32, 33, 34, 35, 36, 37, 38, 39, 40, 41, 42, 43, 44, 45, 46, 47, 48, 49, 50, 51, 52, 53, 54, 55, 56, 57, 58, 59, 60, 61, 62, 63, 64, 65, 66, 67, 68, 6, 23, 24, 14, 15, 7] (fun i => i ≤ rs.length) (fun i => [(7, .int .i64 (i : Int))]) (fun i => []) (fun i => rs.length - i) (0) (Nat.zero_le _) ?_
  rintro i hi
  refine g_seq ?_
  refine g_sr ?_
  refine Li Mv ?_
  refine Li Mv ?_
  refine Li (Ln T.sl_61) ?_
  refine Li Cm ?_
  refine g_ne ?_
  refine g_cond rfl ?_ ?_
  · intro h1
    replace h1 := nrm h1
    obtain ⟨r, e1⟩ : ∃ r, rs[i]? = some r := ⟨_, List.getElem?_eq_getElem (show i < rs.length by omega)⟩
    obtain ⟨g, e2⟩ : ∃ g, gs[i]? = some g := ⟨_, List.getElem?_eq_getElem (show i < gs.length by omega)⟩
    obtain ⟨hng, hra, hga⟩ := hF.row i r g e1 e2
    have s1 := slv_at rs i r e1
    have s2 := slv_at gs i g e2
    have hL := hF.l
    have hG := hF.g
    have a1 : al.isSome = true := hL.some (by simp; omega)
    have a2 : ag.isSome = true := hG.some (by simp; omega)
    obtain ⟨rk, ra, rn, rc⟩ := r
    obtain ⟨gk, ga, gn, gc⟩ := g
    simp only at hng hra hga s1 s2
    obtain ⟨hng, hgb⟩ := hng
    have n1 := mkL_len rn i
    have n2 : (linesC (mkL rn i ++ mkL (gn - rn) (b + i))).length = gn * 2 := by rw [linesC_app, List.length_append, mkL_len, mkL_len]; omega
    refine g_skip ?_
    refine e_then ?_
    refine g_seq ?_
    refine g_block ?_
    refine g_sr ?_
    refine Li As ?_
    refine g_ne ?_
    refine g_block ?_
    refine Lo (ι := Nat) [16, 17, 18, 19, 20, 21, 22, 25, 26, 9, 27, 28, 29, 30, 31, 32, 33, 34, 35, 36, 37, 38, 39, 40, 41, 42, 43, 44, 45, 46, 47, 48, 49, 50, 51, 52, 53, 54, 55, 56, 57, 58, 59, 60, 61, 62, 63, 64, 65, 66, 67, 68, 6, 23, 24, 8] (fun k => k ≤ gn) (fun k => [(8, .int .i64 (k : Int))]) (fun k => []) (fun k => gn - k) (0) (Nat.zero_le _) ?_
    rintro k hk
    refine g_seq ?_
    refine g_sr ?_
    refine Li Mv ?_
    refine Li Mv ?_
    refine Li Mv ?_
    refine Li (Ix T.sl_61) ?_
    refine Lp (oL T.sc_36 ?_)
    refine Li (Ln T.sl_36) ?_
    refine Li Cm ?_
    refine g_ne ?_
    refine g_cond rfl ?_ ?_
    · intro h2
      replace h2 := nrm h2
      have a4 : ga.isSome = true := hga.some (by omega)
      refine g_skip ?_
      refine e_then ?_
      refine g_seq ?_
      refine g_block ?_
      refine g_sr ?_
      refine Li Mv ?_
      refine Li (Cv T.u_30 T.us_3) ?_
      refine Li As ?_
      refine g_ne ?_
      refine g_seq ?_
      refine g_mid (ι := Nat) [27, 28, 29, 30, 31, 32, 33, 34, 35, 36, 37, 9] (fun w => w = if k < rn then i else b + i) (fun w => [(9, .int .u64 (w : Int))]) (fun w => []) ?_ ?_
      · refine g_sr ?_
        refine Li Mv ?_
        refine Li Mv ?_
        refine Li Mv ?_
        refine Li (Ix T.sl_61) ?_
        refine Lp (oL T.sc_36 ?_)
        refine Li (Ln T.sl_36) ?_
        refine Li Cm ?_
        refine g_ne ?_
        refine g_cond rfl ?_ ?_
        · intro h3
          replace h3 := nrm h3
          refine g_region ?_
          refine Li Mv ?_
          refine Li Mv ?_
          refine Li Im ?_
          refine Li (Cv T.u_30 T.us_3) ?_
          refine Li As ?_
          refine g_nil ?_
          refine Me (b + i) ((by rw [if_neg (by omega)]))
        · intro h3
          replace h3 := nrm h3
          refine g_skip ?_
          refine Me (i) ((by rw [if_pos (by omega)]))
      rintro w hw
      have q2 : (mkL rn i ++ mkL (gn - rn) (b + i))[k]? = some ([], w) := by
        unfold mkL
        by_cases hkr : k < rn
        · rw [List.getElem?_append_left (by simp; exact hkr), List.getElem?_replicate, if_pos hkr, hw, if_pos hkr]
        · rw [List.getElem?_append_right (by simp; omega), List.getElem?_replicate, if_pos (by simp; omega), hw, if_neg hkr]
      have p2 := (linesC_0 _ k _ q2).2
      refine g_sr ?_
      refine Li Mv ?_
      refine Li Mv ?_
      refine Li (Ix T.sl_61) ?_
      refine Lp (oL T.sc_36 ?_)
      refine Li Mv ?_
      refine Li (Ix T.sl_36) ?_
      refine Li (Fam T.fld_78_1) ?_
      refine Lp (oL T.sc_30 ?_)
      refine Li Mv ?_
      refine Li Cm ?_
      refine Li Mv ?_
      refine g_slot (t := 48) (v' := .bool false) rfl (congrArg Value.bool (by simp)) ?_
      refine Li Mv ?_
      refine Li Mv ?_
      refine Li Mv ?_
      refine Li (Ix T.sl_61) ?_
      refine Lp (oL T.sc_36 ?_)
      refine Li (Ln T.sl_36) ?_
      refine Li Cm ?_
      refine Li Mv ?_
      refine g_split (t := 56) rfl ?_ ?_
      · intro h4
        replace h4 := nrm h4
        have q1 : (mkL rn i)[k]? = some ([], w) := by
          unfold mkL
          rw [List.getElem?_replicate, if_pos (by omega), hw, if_pos (by omega)]
        have p1 := (linesC_0 _ k _ q1).2
        have a3 : ra.isSome = true := hra.some (by omega)
        refine Li Mv ?_
        refine Li Mv ?_
        refine Li (Ix T.sl_61) ?_
        refine Lp (oL T.sc_36 ?_)
        refine Li Mv ?_
        refine Li (Ix T.sl_36) ?_
        refine Li (Fam T.fld_78_1) ?_
        refine Lp (oL T.sc_30 ?_)
        refine Li Mv ?_
        refine Li Cm ?_
        refine Li Pt ?_
        refine Li Pf ?_
        refine g_ne ?_
        refine g_cond_f rfl (by simp) ?_
        refine g_skip ?_
        refine e_block ?_
        refine e_then ?_
        refine g_region ?_
        refine Li Mv ?_
        refine Li Im ?_
        refine Li As ?_
        refine g_nil ?_
        refine Ro (k + 1) ((by omega)) (by omega)
      · intro h4
        replace h4 := nrm h4
        refine Lx ?_
        refine Lx ?_
        refine Lx ?_
        refine Lx ?_
        refine Lx ?_
        refine Lx ?_
        refine Lx ?_
        refine Lx ?_
        refine Lx ?_
        refine Lx ?_
        refine Li Pf ?_
        refine Li Pf ?_
        refine g_ne ?_
        refine g_cond_f rfl rfl ?_
        refine g_skip ?_
        refine e_block ?_
        refine e_then ?_
        refine g_region ?_
        refine Li Mv ?_
        refine Li Im ?_
        refine Li As ?_
        refine g_nil ?_
        refine Ro (k + 1) ((by omega)) (by omega)
    · intro h2
      replace h2 := nrm h2
      refine g_exit ?_
      refine e_then_exit ?_
      refine e_then_exit ?_
      refine e_block_hit ?_
      refine e_block ?_
      refine e_then ?_
      refine g_region ?_
      refine Li Mv ?_
      refine Li Im ?_
      refine Li As ?_
      refine g_nil ?_
      refine Ro (i + 1) ((by omega)) (by omega)
  · intro h1
    replace h1 := nrm h1
    refine g_exit ?_
    refine e_then_exit ?_
    refine e_then_exit ?_
    refine e_block_hit ?_
    refine e_then ?_
    refine g_sr ?_
    refine Li As ?_
    refine g_ne ?_
    refine g_ret ?_
    refine Rt [] Tryd.results46 ?_
    exact ⟨rfl, rfl⟩
end Go.Proofs.YtdmepoiijgejhaaDoor

