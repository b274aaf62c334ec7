/- Counts: lists of lines that were told are written over and grown: each is its own. -/
import Derived.Test.YtdmepoiijgejhaaDoorK25
set_option maxRecDepth 100000
namespace Go.Proofs.YtdmepoiijgejhaaDoor
open Go Go.Eng

def Q0 (r : Rw) : HProp := fun h => ∃ xs : List Value, xs.length = r.n * 2 ∧ own r.a r.c 78 2 xs h
def Q1 (r : Rw) : HProp := own r.a r.c 78 2 (linesC (mkL r.n r.k))
def Q2 (p : Rw × Rw) : HProp := fun h => p.2.n = p.1.n + 40 ∧ grw p.1.a p.1.c 78 2 (linesC (mkL p.1.n p.1.k)) (linesC (mkL 40 (1000 + p.1.k))) p.2.a p.2.c h
def Q3 (p : Rw × Rw) : HProp := fun h => p.2.n = p.1.n + 90 ∧ rdP [(p.1.a, linesC (mkL p.1.n p.1.k)), (p.2.a, linesC (mkL p.1.n p.1.k) ++ linesC (mkL 90 (2000 + p.1.k)))] h
theorem drop_at {α : Type} (l : List α) (i : Nat) (x : α) (h : l[i]? = some x) : l.drop i = x :: l.drop (i + 1) := by
  obtain ⟨hi, rfl⟩ := List.getElem?_eq_some_iff.1 h
  exact List.drop_eq_getElem_cons hi
theorem take_at {α : Type} (l : List α) (i : Nat) (x : α) (h : l[i]? = some x) : l.take (i + 1) = l.take i ++ [x] := by rw [List.take_add_one, h]; rfl
theorem line_store (xs : List Value) (n k v : Nat) (hx : xs.length = n * 2) (hk : k < n) : setL (linesC (mkL k v) ++ xs.drop (k * 2)) (k * 2) (lineC ([], v)) = linesC (mkL (k + 1) v) ++ xs.drop ((k + 1) * 2) := by
  have h1 := mkL_len k v
  have h2 : (lineC ([], v)).length = 2 := rfl
  have e : xs.drop (k * 2) = (xs.drop (k * 2)).take 2 ++ xs.drop ((k + 1) * 2) := by
    rw [show (k + 1) * 2 = k * 2 + 2 from by omega, ← List.drop_drop, List.take_append_drop]
  have := setL_append (lineC ([], v)) (linesC (mkL k v)) ((xs.drop (k * 2)).take 2) (xs.drop ((k + 1) * 2)) (by rw [List.length_take, List.length_drop, h2]; omega)
  rw [← e, h1] at this
  rw [this, mkL_succ, List.append_assoc]
theorem stars_q2 {rs gs : List Rw} {h : Hp} (hk : ∀ (i : Nat) (r : Rw), rs[i]? = some r → r.k = i) (s : ∃ k, stars ((rs.zip gs).map Q2) k ∧ Le k h) : ∀ i r g, rs[i]? = some r → gs[i]? = some g → g.n = r.n + 40 ∧ Rdl h r.a (linesC (mkL r.n i)) ∧ Rdl h g.a (linesC (mkL r.n i ++ mkL (g.n - r.n) (1000 + i))) := by
  intro i r g h1 h2
  obtain ⟨k, s, le⟩ := s
  have := stars_all (f := Q2) (X := fun p h => p.2.n = p.1.n + 40 ∧ Rdl h p.1.a (linesC (mkL p.1.n p.1.k)) ∧ Rdl h p.2.a (linesC (mkL p.1.n p.1.k) ++ linesC (mkL 40 (1000 + p.1.k)))) (fun p k q => ⟨q.1, grw_rd q.2⟩) (fun p k l q le => ⟨q.1, q.2.1.mono le, q.2.2.mono le⟩) _ _ s (r, g) (zip_at _ _ _ _ _ h1 h2)
  obtain ⟨x, y, z⟩ := this
  have e := hk i r h1
  simp only [e] at x y z
  refine ⟨x, y.mono le, ?_⟩
  rw [linesC_app, x, show r.n + 40 - r.n = 40 from by omega]
  exact z.mono le
theorem stars_q3 {rs gs : List Rw} {h : Hp} (hk : ∀ (i : Nat) (r : Rw), rs[i]? = some r → r.k = i) (s : ∃ k, stars ((rs.zip gs).map Q3) k ∧ Le k h) : ∀ i r g, rs[i]? = some r → gs[i]? = some g → g.n = r.n + 90 ∧ Rdl h r.a (linesC (mkL r.n i)) ∧ Rdl h g.a (linesC (mkL r.n i ++ mkL (g.n - r.n) (2000 + i))) := by
  intro i r g h1 h2
  obtain ⟨k, s, le⟩ := s
  have := stars_all (f := Q3) (X := fun p h => p.2.n = p.1.n + 90 ∧ Rdl h p.1.a (linesC (mkL p.1.n p.1.k)) ∧ Rdl h p.2.a (linesC (mkL p.1.n p.1.k) ++ linesC (mkL 90 (2000 + p.1.k)))) (fun p k q => ⟨q.1, q.2 (p.1.a, linesC (mkL p.1.n p.1.k)) (by simp), q.2 (p.2.a, linesC (mkL p.1.n p.1.k) ++ linesC (mkL 90 (2000 + p.1.k))) (by simp)⟩) (fun p k l q le => ⟨q.1, q.2.1.mono le, q.2.2.mono le⟩) _ _ s (r, g) (zip_at _ _ _ _ _ h1 h2)
  obtain ⟨x, y, z⟩ := this
  have e := hk i r h1
  simp only [e] at x y z
  refine ⟨x, y.mono le, ?_⟩
  rw [linesC_app, x, show r.n + 90 - r.n = 90 from by omega]
  exact z.mono le
theorem slv_len (rs : List Rw) : (rs.map slv).length = rs.length := by simp
theorem slv_snoc (rs : List Rw) (a : Option Addr) (k n c : Nat) : rs.map slv ++ [.slice a n c] = (rs ++ [(⟨k, a, n, c⟩ : Rw)]).map slv := by simp [slv]
set_option maxHeartbeats 4000000 in
theorem spoilt_fn (al : Option Addr) (rs : List Rw) (m cl : Nat) (hm : m = rs.length) (hr : rs.length ≤ 1000) (hk : ∀ (i : Nat) (r : Rw), rs[i]? = some r → r.k = i) (hn : ∀ r ∈ rs, r.n ≤ 1000) :
    FnS Tryd.prog 26 [.slice al m cl] (fun h => Rdl h al (rs.map slv)) [stars (rs.map Q0)] (fun v H => v = .bool true ∧ H = []) := by
  subst hm
  refine fn_body Tryd.func26 rfl Tryd.ntmps26 rfl ?_
  intro F hF
  have hsl := slv_len rs
  refine g_heap (H' := [stars ((rs.take 0).map Q1), stars ((rs.drop 0).map Q0)]) (fun _ s => starL_nil_stars s) ?_
  refine g_sr ?_
  refine Li As ?_
  refine g_ne ?_
  refine g_seq ?_
  refine g_sr ?_
  refine Li As ?_
  refine g_ne ?_
  refine g_block ?_
  refine Lo (ι := Nat) [13, 14, 15, 16, 4, 19, 20, 21, 22, 23, 24, 25, 28, 29, 30, 31, 32, 33, 34, 35, 36, 26, 27, 17, 18, 3] (fun i => i ≤ rs.length) (fun i => [(3, .int .i64 (i : Int))]) (fun i => [stars ((rs.take i).map Q1), stars ((rs.drop i).map Q0)]) (fun i => rs.length - i) (0) (Nat.zero_le _) ?_
  rintro i hi
  refine g_seq ?_
  refine g_sr ?_
  refine Li Mv ?_
  refine Li Mv ?_
  refine Li (Ln T.sl_61) ?_
  refine Li Cm ?_
  refine g_ne ?_
  refine g_cond rfl ?_ ?_
  · intro h1
    replace h1 := nrm h1
    obtain ⟨r, e1⟩ : ∃ r, rs[i]? = some r := ⟨_, List.getElem?_eq_getElem (show i < rs.length by omega)⟩
    have s1 := slv_at rs i r e1
    have a1 : al.isSome = true := hF.some (by omega)
    have ek := hk i r e1
    have en := hn r (List.mem_of_getElem? e1)
    rw [drop_at rs i r e1, List.map_cons]
    refine Hh (H' := [stars (Q0 r :: (rs.drop (i + 1)).map Q0), stars ((rs.take i).map Q1)]) ?_
    refine g_pop ?_
    refine g_ex fun xs => g_pure fun hx => ?_
    have e3 : Q1 r = own r.a r.c 78 2 (linesC (mkL r.n i)) := by unfold Q1; rw [ek]
    have e4 : (rs.take (i + 1)).map Q1 = (rs.take i).map Q1 ++ [Q1 r] := by rw [take_at rs i r e1, List.map_append]; rfl
    rw [e3] at e4
    obtain ⟨rk, ra, rn, rc⟩ := r
    simp only at s1 hx en e4
    refine g_heap (H' := [own ra rc 78 2 (linesC (mkL 0 i) ++ xs.drop (0 * 2)), stars ((rs.drop (i + 1)).map Q0), stars ((rs.take i).map Q1)]) (fun _ q => q) ?_
    refine g_skip ?_
    refine e_then ?_
    refine g_seq ?_
    refine g_block ?_
    refine g_sr ?_
    refine Li As ?_
    refine g_ne ?_
    refine g_block ?_
    refine Lo (ι := Nat) [19, 20, 21, 22, 23, 24, 25, 28, 29, 30, 31, 32, 33, 34, 35, 36, 26, 27, 4] (fun k => k ≤ rn) (fun k => [(4, .int .i64 (k : Int))]) (fun k => [own ra rc 78 2 (linesC (mkL k i) ++ xs.drop (k * 2)), stars ((rs.drop (i + 1)).map Q0), stars ((rs.take i).map Q1)]) (fun k => rn - k) (0) (Nat.zero_le _) ?_
    rintro k hkn
    have hlk := mkL_len k i
    have hwl : (linesC (mkL k i) ++ xs.drop (k * 2)).length = rn * 2 := by rw [List.length_append, List.length_drop]; omega
    refine g_seq ?_
    refine g_sr ?_
    refine Li Mv ?_
    refine Li Mv ?_
    refine Li Mv ?_
    refine Li (Ix T.sl_61) ?_
    refine Lp (oL T.sc_36 ?_)
    refine Li (Ln T.sl_36) ?_
    refine Li Cm ?_
    refine g_ne ?_
    refine g_cond rfl ?_ ?_
    · intro h2
      replace h2 := nrm h2
      refine g_fact (sel_fact .here fun _ ho => own_none ho (by omega)) fun ha => ?_
      have e5 := line_store xs rn k i hx (by omega)
      refine g_skip ?_
      refine e_then ?_
      refine g_seq ?_
      refine g_block ?_
      refine g_region ?_
      refine Li Mv ?_
      refine Li Mv ?_
      refine Li (Ix T.sl_61) ?_
      refine Lp (oL T.sc_36 ?_)
      refine Li Mv ?_
      refine Li Mv ?_
      refine Li (Cv T.u_30 T.us_3) ?_
      refine Li (Bd T.zc_78 T.st_78) ?_
      refine Li (Ix T.sl_36) ?_
      refine Lp (oSON T.ag_78 ?_ (vs := lineC ([], i)) (h1 := by simp [lineC, Value.oneCell', strv]) (hj := by rw [hwl]; simp [lineC]; omega) (h0 := by simp [lineC]))
      rw [e5]
      refine g_nil ?_
      refine e_block ?_
      refine e_then ?_
      refine g_region ?_
      refine Li Mv ?_
      refine Li Im ?_
      refine Li As ?_
      refine g_nil ?_
      refine Ro (k + 1) ((by omega)) (by omega)
    · intro h2
      replace h2 := nrm h2
      have e6 : linesC (mkL k i) ++ xs.drop (k * 2) = linesC (mkL rn i) := by
        rw [show k = rn from by omega, List.drop_of_length_le (by omega), List.append_nil]
      rw [e6]
      refine Hh (H' := [own ra rc 78 2 (linesC (mkL rn i)), stars ((rs.take i).map Q1), stars ((rs.drop (i + 1)).map Q0)]) ?_
      refine g_push ?_
      rw [← e4]
      refine g_exit ?_
      refine e_then_exit ?_
      refine e_then_exit ?_
      refine e_block_hit ?_
      refine e_block ?_
      refine e_then ?_
      refine g_region ?_
      refine Li Mv ?_
      refine Li Im ?_
      refine Li As ?_
      refine g_nil ?_
      refine Ro (i + 1) ((by omega)) (by omega)
  · intro h1
    replace h1 := nrm h1
    rw [show rs.take i = rs from List.take_of_length_le (by omega)]
    clear hi h1
    refine g_nilrow 36 1 ?_
    refine g_heap (fun _ s => starL_nil_stars s) ?_
    have hz : ∀ Z : Rw × Rw → HProp, (rs.zip ([] : List Rw)).map Z = [] := fun Z => by rw [List.zip_nil_right]; rfl
    refine g_heap (H' := [own none 0 36 1 (([] : List Rw).map slv), stars ((rs.zip ([] : List Rw)).map Q2), stars ((rs.drop 0).map Q1)]) (by rw [hz]; exact Eh) ?_
    refine g_exit ?_
    refine e_then_exit ?_
    refine e_then_exit ?_
    refine e_block_hit ?_
    refine e_then ?_
    refine g_sr ?_
    refine Li As ?_
    refine Li As ?_
    refine g_ne ?_
    refine g_seq ?_
    refine g_sr ?_
    refine Li As ?_
    refine g_ne ?_
    refine g_block ?_
    refine Lo (ι := Nat × Option Addr × Nat × List Rw) [37, 38, 39, 40, 43, 44, 45, 46, 8, 9, 47, 48, 51, 52, 53, 54, 55, 56, 57, 49, 50, 58, 59, 60, 61, 5, 41, 42, 7] (fun (i, ao, co, gs) => i ≤ rs.length ∧ gs.length = i ∧ i ≤ co) (fun (i, ao, co, gs) => [(7, .int .i64 (i : Int)), (5, .slice ao i co)]) (fun (i, ao, co, gs) => [own ao co 36 1 (gs.map slv), stars ((rs.zip gs).map Q2), stars ((rs.drop i).map Q1)]) (fun (i, ao, co, gs) => rs.length - i) ((0, none, 0, [])) ⟨Nat.zero_le _, rfl, Nat.zero_le _⟩ ?_
    rintro ⟨i, ao, co, gs⟩ ⟨hi, hgl, hco⟩
    try dsimp only at hI ⊢
    try dsimp only at hi hgl hco ⊢
    refine g_seq ?_
    refine g_sr ?_
    refine Li Mv ?_
    refine Li Mv ?_
    refine Li (Ln T.sl_61) ?_
    refine Li Cm ?_
    refine g_ne ?_
    refine g_cond rfl ?_ ?_
    · intro h1
      replace h1 := nrm h1
      obtain ⟨r, e1⟩ : ∃ r, rs[i]? = some r := ⟨_, List.getElem?_eq_getElem (show i < rs.length by omega)⟩
      have s1 := slv_at rs i r e1
      have a1 : al.isSome = true := hF.some (by omega)
      have ek := hk i r e1
      have en := hn r (List.mem_of_getElem? e1)
      have hgsl := slv_len gs
      have hzs := fun g => zip_snoc rs gs r g (by rw [hgl]; exact e1)
      rw [drop_at rs i r e1, List.map_cons]
      refine Hh (H' := [stars (Q1 r :: (rs.drop (i + 1)).map Q1), own ao co 36 1 (gs.map slv), stars ((rs.zip gs).map Q2)]) ?_
      refine g_pop ?_
      obtain ⟨rk, ra, rn, rc⟩ := r
      simp only at s1 ek en
      subst ek

      refine g_heap (H' := [grw ra rc 78 2 (linesC (mkL rn rk)) (linesC (mkL 0 (1000 + rk))) ra rc, own ao co 36 1 (gs.map slv), stars ((rs.zip gs).map Q2), stars ((rs.drop (rk + 1)).map Q1)]) (fun h q => ?_) ?_
      · have q2 : starL [own ra rc 78 2 (linesC (mkL rn rk)), stars ((rs.drop (rk + 1)).map Q1), own ao co 36 1 (gs.map slv), stars ((rs.zip gs).map Q2)] h := q
        have q3 : starL [own ra rc 78 2 (linesC (mkL rn rk)), own ao co 36 1 (gs.map slv), stars ((rs.zip gs).map Q2), stars ((rs.drop (rk + 1)).map Q1)] h := ents (.cons .here (.cons (.there .here) (.cons (.there .here) (.cons .here .nil)))) h q2
        exact starL_cons_mono (fun _ p => grw_start p) q3
      refine g_skip ?_
      refine e_then ?_
      refine g_seq ?_
      refine g_block ?_
      refine g_sr ?_
      refine Li Mv ?_
      refine Li Mv ?_
      refine Li (Ix T.sl_61) ?_
      refine Lp (oL T.sc_36 ?_)
      refine Li As ?_
      refine g_ne ?_
      refine g_seq ?_
      refine g_sr ?_
      refine Li As ?_
      refine g_ne ?_
      refine g_block ?_
      refine Lo (ι := Nat × Option Addr × Nat) [47, 48, 51, 52, 53, 54, 55, 56, 57, 8, 49, 50, 9] (fun (k, g, gc) => k ≤ 40) (fun (k, g, gc) => [(9, .int .i64 (k : Int)), (8, .slice g (rn + k) gc)]) (fun (k, g, gc) => [grw ra rc 78 2 (linesC (mkL rn rk)) (linesC (mkL k (1000 + rk))) g gc, own ao co 36 1 (gs.map slv), stars ((rs.zip gs).map Q2), stars ((rs.drop (rk + 1)).map Q1)]) (fun (k, g, gc) => 40 - k) ((0, ra, rc)) (Nat.zero_le _) ?_
      rintro ⟨k, g, gc⟩ hk40
      try dsimp only at hI ⊢
      try dsimp only at hk40 ⊢
      have hlk := mkL_len k (1000 + rk)
      have hln := mkL_len rn rk
      refine g_seq ?_
      refine g_sr ?_
      refine Li Mv ?_
      refine Li Cm ?_
      refine g_ne ?_
      refine g_cond rfl ?_ ?_
      · intro h2
        replace h2 := nrm h2
        refine g_skip ?_
        refine e_then ?_
        refine g_seq ?_
        refine g_block ?_
        refine g_region ?_
        refine Li Mv ?_
        refine Li Mv ?_
        refine Li Im ?_
        refine Li (Cv T.u_30 T.us_3) ?_
        refine Li (Bd T.zc_78 T.st_78) ?_
        refine Lp (oT1 T.ap_36 fun b1 => ?_)
        refine Hh (H' := [grw ra rc 78 2 (linesC (mkL rn rk)) (linesC (mkL k (1000 + rk))) g gc, pts b1 78 (lineC ([], 1000 + rk)), own ao co 36 1 (gs.map slv), stars ((rs.zip gs).map Q2), stars ((rs.drop (rk + 1)).map Q1)]) ?_
        refine Lp (op_grow T.ap_36 T.ni_36 rfl rfl rfl rfl (by rw [List.length_append]; omega) (by omega) (fun _ => src_slice (m := 1) rfl fun h le hin => pts_in (hin.nth 1 rfl)) (fun _ _ => src_slice (m := 1) rfl fun h le hin => pts_in (hin.nth 2 rfl)) (by simp [lineC, Value.oneCell', strv]) (by omega) (by omega) rfl fun g2 gc2 => ?_)
        rw [← mkL_succ]
        refine Li As ?_
        refine g_nil ?_
        refine e_block ?_
        refine e_then ?_
        refine g_region ?_
        refine Li Mv ?_
        refine Li Im ?_
        refine Li As ?_
        refine g_nil ?_
        refine Ro ((k + 1, g2, gc2)) ((by omega)) (by omega)
      · intro h2
        replace h2 := nrm h2
        have hk4 : k = 40 := by omega
        subst hk4
        refine g_exit ?_
        refine e_then_exit ?_
        refine e_then_exit ?_
        refine e_block_hit ?_
        refine e_then ?_
        refine g_region ?_
        refine Li Mv ?_
        refine Li Mv ?_
        refine Lp (oT T.ap_61 fun b2 => ?_)
        refine g_heap (H' := [stars ((rs.zip (gs ++ [⟨rk, g, rn + 40, gc⟩])).map Q2), pts b2 36 [.slice g (rn + 40) gc], own ao co 36 1 (gs.map slv), stars ((rs.drop (rk + 1)).map Q1)]) (fun h q => ?_) ?_
        · rw [hzs, List.map_append]
          have q3 := ents (As := [grw ra rc 78 2 (linesC (mkL rn rk)) (linesC (mkL 40 (1000 + rk))) g gc, stars ((rs.zip gs).map Q2), pts b2 36 [.slice g (rn + 40) gc], own ao co 36 1 (gs.map slv), stars ((rs.drop (rk + 1)).map Q1)]) (.cons (.there .here) (.cons (.there (.there .here)) (.cons .here (.cons .here (.cons .here .nil))))) h q
          exact stars_push (A := Q2 (⟨rk, ra, rn, rc⟩, ⟨rk, g, rn + 40, gc⟩)) (starL_cons_mono (fun _ p => ⟨rfl, p⟩) q3)
        refine Hh (H' := [pts b2 36 [.slice g (rn + 40) gc], own ao co 36 1 (gs.map slv), stars ((rs.zip (gs ++ [⟨rk, g, rn + 40, gc⟩])).map Q2), stars ((rs.drop (rk + 1)).map Q1)]) ?_
        refine Lp (op_append_lit T.ap_61 T.ni_61 rfl rfl rfl rfl .here (by omega) (rfl) (by simp [Value.oneCell']) (by first | omega | (simp; omega)) (by first | omega | (simp; omega)) rfl fun a5 c5 hc5 => ?_)
        rw [slv_snoc gs g rk (rn + 40) gc]
        refine Li As ?_
        refine g_nil ?_
        refine e_block ?_
        refine e_then ?_
        refine g_region ?_
        refine Li Mv ?_
        refine Li Im ?_
        refine Li As ?_
        refine g_nil ?_
        refine Ro ((rk + 1, a5, c5, gs ++ [⟨rk, g, rn + 40, gc⟩])) (⟨by omega, by simp; omega, hc5⟩) (by omega)
    · intro h1
      replace h1 := nrm h1
      have hlen : gs.length = rs.length := by omega
      refine g_exit ?_
      refine e_then_exit ?_
      refine e_then_exit ?_
      refine e_block_hit ?_
      refine e_then ?_
      refine g_seq ?_
      refine g_sr ?_
      refine Li Mv ?_
      refine Li Mv ?_
      refine Lp (oC T.fn_46 rfl rfl (holds_fn al ao rs gs rs.length i cl co 1000 rfl hgl.symm hlen (by omega) hr) .nil (fun h le hin => ⟨hF.mono le, own_in (hin.nth 0 rfl), fun j r g h1 h2 => by obtain ⟨x, y, z⟩ := stars_q2 hk (hin.nth 1 rfl) j r g h1 h2; exact ⟨by have := hn r (List.mem_of_getElem? h1); omega, y, z⟩⟩) ?_)
      rintro v H' ⟨rfl, rfl⟩
      try simp only [nap, cap]
      refine Li Nt ?_
      refine g_ne ?_
      refine g_cond_f rfl (by rfl) ?_
      clear hi h1
      refine g_nilrow 36 1 ?_
      refine g_heap (fun _ s => starL_nil_stars s) ?_
      refine g_heap (H' := [own none 0 36 1 (([] : List Rw).map slv), stars ((rs.zip ([] : List Rw)).map Q3), stars (((rs.zip gs).drop 0).map Q2)]) (by rw [hz]; exact Eh) ?_
      have hzl : (rs.zip gs).length = rs.length := by rw [List.length_zip]; omega
      refine g_skip ?_
      refine e_then ?_
      refine g_seq ?_
      refine g_sr ?_
      refine Li As ?_
      refine g_ne ?_
      refine g_block ?_
      refine Lo (ι := Nat × Option Addr × Nat × List Rw) [66, 67, 68, 69, 11, 12, 72, 73, 76, 77, 78, 79, 80, 81, 82, 74, 75, 83, 84, 85, 86, 87, 88, 89, 90, 91, 6, 70, 71, 10] (fun (j, am, cm, ms) => j ≤ rs.length ∧ ms.length = j ∧ j ≤ cm) (fun (j, am, cm, ms) => [(10, .int .i64 (j : Int)), (6, .slice am j cm)]) (fun (j, am, cm, ms) => [own am cm 36 1 (ms.map slv), stars ((rs.zip ms).map Q3), stars (((rs.zip gs).drop j).map Q2)]) (fun (j, am, cm, ms) => rs.length - j) ((0, none, 0, [])) ⟨Nat.zero_le _, rfl, Nat.zero_le _⟩ ?_
      rintro ⟨j, am, cm, ms⟩ ⟨hj, hml, hcm⟩
      try dsimp only at hI ⊢
      try dsimp only at hj hml hcm ⊢
      refine g_seq ?_
      refine g_sr ?_
      refine Li Mv ?_
      refine Li Mv ?_
      refine Li (Ln T.sl_61) ?_
      refine Li Cm ?_
      refine g_ne ?_
      refine g_cond rfl ?_ ?_
      · intro h1
        replace h1 := nrm h1
        obtain ⟨r, e1⟩ : ∃ r, rs[j]? = some r := ⟨_, List.getElem?_eq_getElem (show j < rs.length by omega)⟩
        obtain ⟨g, e2⟩ : ∃ g, gs[j]? = some g := ⟨_, List.getElem?_eq_getElem (show j < gs.length by omega)⟩
        have e3 : (rs.zip gs)[j]? = some (r, g) := by rw [List.getElem?_zip_eq_some]; exact ⟨e1, e2⟩
        have s1 := slv_at rs j r e1
        have a1 : al.isSome = true := hF.some (by omega)
        have ek := hk j r e1
        have en := hn r (List.mem_of_getElem? e1)
        have hmsl := slv_len ms
        have hzs := fun g => zip_snoc rs ms r g (by rw [hml]; exact e1)
        rw [drop_at _ j _ e3, List.map_cons]
        refine Hh (H' := [stars (Q2 (r, g) :: ((rs.zip gs).drop (j + 1)).map Q2), own am cm 36 1 (ms.map slv), stars ((rs.zip ms).map Q3)]) ?_
        refine g_pop ?_
        refine g_pure fun hgn => ?_
        obtain ⟨rk, ra, rn, rc⟩ := r
        obtain ⟨gk, ga, gn, gc⟩ := g
        simp only at s1 ek en hgn
        subst ek
        refine g_nilrow 78 2 ?_

        refine Hh (H' := [own none 0 78 2 (linesC (mkL 0 (2000 + rk))), grw ra rc 78 2 (linesC (mkL rn rk)) (linesC (mkL 40 (1000 + rk))) ga gc, own am cm 36 1 (ms.map slv), stars ((rs.zip ms).map Q3), stars (((rs.zip gs).drop (rk + 1)).map Q2)]) ?_
        refine g_skip ?_
        refine e_then ?_
        refine g_seq ?_
        refine g_block ?_
        refine g_sr ?_
        refine Li As ?_
        refine g_ne ?_
        refine g_seq ?_
        refine g_sr ?_
        refine Li As ?_
        refine g_ne ?_
        refine g_block ?_
        refine Lo (ι := Nat × Option Addr × Nat) [72, 73, 76, 77, 78, 79, 80, 81, 82, 11, 74, 75, 12] (fun (k, a9, c9) => k ≤ 90) (fun (k, a9, c9) => [(12, .int .i64 (k : Int)), (11, .slice a9 k c9)]) (fun (k, a9, c9) => [own a9 c9 78 2 (linesC (mkL k (2000 + rk))), grw ra rc 78 2 (linesC (mkL rn rk)) (linesC (mkL 40 (1000 + rk))) ga gc, own am cm 36 1 (ms.map slv), stars ((rs.zip ms).map Q3), stars (((rs.zip gs).drop (rk + 1)).map Q2)]) (fun (k, a9, c9) => 90 - k) ((0, none, 0)) (Nat.zero_le _) ?_
        rintro ⟨k, a9, c9⟩ hk90
        try dsimp only at hI ⊢
        try dsimp only at hk90 ⊢
        have hlk := mkL_len k (2000 + rk)
        have hln := mkL_len rn rk
        refine g_seq ?_
        refine g_sr ?_
        refine Li Mv ?_
        refine Li Cm ?_
        refine g_ne ?_
        refine g_cond rfl ?_ ?_
        · intro h2
          replace h2 := nrm h2
          refine g_skip ?_
          refine e_then ?_
          refine g_seq ?_
          refine g_block ?_
          refine g_region ?_
          refine Li Mv ?_
          refine Li Mv ?_
          refine Li Im ?_
          refine Li (Cv T.u_30 T.us_3) ?_
          refine Li (Bd T.zc_78 T.st_78) ?_
          refine Lp (oT1 T.ap_36 fun b3 => ?_)
          refine Hh (H' := [pts b3 78 (lineC ([], 2000 + rk)), own a9 c9 78 2 (linesC (mkL k (2000 + rk))), grw ra rc 78 2 (linesC (mkL rn rk)) (linesC (mkL 40 (1000 + rk))) ga gc, own am cm 36 1 (ms.map slv), stars ((rs.zip ms).map Q3), stars (((rs.zip gs).drop (rk + 1)).map Q2)]) ?_
          refine Lp (op_append_lit T.ap_36 T.ni_36 rfl rfl rfl rfl .here (by omega) (rfl) (by simp [lineC, Value.oneCell', strv]) (by first | omega | (simp; omega)) (by first | omega | (simp; omega)) rfl fun a2 c2 hc2 => ?_)
          rw [← mkL_succ]
          refine Li As ?_
          refine g_nil ?_
          refine e_block ?_
          refine e_then ?_
          refine g_region ?_
          refine Li Mv ?_
          refine Li Im ?_
          refine Li As ?_
          refine g_nil ?_
          refine Ro ((k + 1, a2, c2)) ((by omega)) (by omega)
        · intro h2
          replace h2 := nrm h2
          have hk9 : k = 90 := by omega
          subst hk9
          refine g_exit ?_
          refine e_then_exit ?_
          refine e_then_exit ?_
          refine e_block_hit ?_
          refine e_then ?_
          refine g_region ?_
          refine Li Mv ?_
          refine Li Mv ?_
          refine Li Mv ?_
          refine Li (Ix T.sl_61) ?_
          refine Lp (oL T.sc_36 ?_)
          refine Li Mv ?_
          have hone := linesC_one (mkL 90 (2000 + rk))
          generalize hN : linesC (mkL 90 (2000 + rk)) = NW at *
          generalize hN4 : linesC (mkL 40 (1000 + rk)) = N4 at *
          refine Hh (H' := [grw ra rc 78 2 (linesC (mkL rn rk)) N4 ga gc, own a9 c9 78 2 NW, own am cm 36 1 (ms.map slv), stars ((rs.zip ms).map Q3), stars (((rs.zip gs).drop (rk + 1)).map Q2)]) ?_
          refine Lp (op_grow_new T.ap_36 T.ni_36 rfl rfl rfl rfl hln (by omega) (fun _ => src_slice (m := 90) hlk fun h le hin => own_in (hin.nth 1 rfl)) (fun _ _ => src_slice (m := 90) hlk fun h le hin => own_in (hin.nth 2 rfl)) hone (by omega) (by omega) rfl fun g2 gc2 => ?_)
          refine Lp (oT T.ap_61 fun b4 => ?_)
          refine g_heap (H' := [stars ((rs.zip (ms ++ [⟨rk, g2, rn + 90, gc2⟩])).map Q3), pts b4 36 [.slice g2 (rn + 90) gc2], own am cm 36 1 (ms.map slv), stars (((rs.zip gs).drop (rk + 1)).map Q2)]) (fun h q => ?_) ?_
          · rw [hzs, List.map_append]
            have q3 := ents (As := [rdP [(ra, linesC (mkL rn rk)), (g2, linesC (mkL rn rk) ++ NW)], stars ((rs.zip ms).map Q3), pts b4 36 [.slice g2 (rn + 90) gc2], own am cm 36 1 (ms.map slv), stars (((rs.zip gs).drop (rk + 1)).map Q2)]) (.cons (.there .here) (.cons (.there (.there (.there .here))) (.cons .here (.cons (.there .here) (.cons (.there .here) .nil))))) h q
            subst hN
            exact stars_push (A := Q3 (⟨rk, ra, rn, rc⟩, ⟨rk, g2, rn + 90, gc2⟩)) (starL_cons_mono (fun _ p => ⟨rfl, p⟩) q3)
          refine Hh (H' := [pts b4 36 [.slice g2 (rn + 90) gc2], own am cm 36 1 (ms.map slv), stars ((rs.zip (ms ++ [⟨rk, g2, rn + 90, gc2⟩])).map Q3), stars (((rs.zip gs).drop (rk + 1)).map Q2)]) ?_
          refine Lp (op_append_lit T.ap_61 T.ni_61 rfl rfl rfl rfl .here (by omega) (rfl) (by simp [Value.oneCell']) (by first | omega | (simp; omega)) (by first | omega | (simp; omega)) rfl fun a5 c5 hc5 => ?_)
          rw [slv_snoc ms g2 rk (rn + 90) gc2]
          refine Li As ?_
          refine g_nil ?_
          refine e_block ?_
          refine e_then ?_
          refine g_region ?_
          refine Li Mv ?_
          refine Li Im ?_
          refine Li As ?_
          refine g_nil ?_
          refine Ro ((rk + 1, a5, c5, ms ++ [⟨rk, g2, rn + 90, gc2⟩])) (⟨by omega, by simp; omega, hc5⟩) (by omega)
      · intro h1
        replace h1 := nrm h1
        have hmlen : ms.length = rs.length := by omega
        refine g_exit ?_
        refine e_then_exit ?_
        refine e_then_exit ?_
        refine e_block_hit ?_
        refine e_then ?_
        refine g_sr ?_
        refine Li Mv ?_
        refine Li Mv ?_
        refine Lp (oC T.fn_46 rfl rfl (holds_fn al am rs ms rs.length j cl cm 2000 rfl hml.symm hmlen (by omega) hr) .nil (fun h le hin => ⟨hF.mono le, own_in (hin.nth 0 rfl), fun j r g h1 h2 => by obtain ⟨x, y, z⟩ := stars_q3 hk (hin.nth 1 rfl) j r g h1 h2; exact ⟨by have := hn r (List.mem_of_getElem? h1); omega, y, z⟩⟩) ?_)
        rintro v H' ⟨rfl, rfl⟩
        try simp only [nap, cap]
        refine Li As ?_
        refine g_ne ?_
        refine g_ret ?_
        refine Rt [] Tryd.results26 ?_
        exact ⟨rfl, rfl⟩
end Go.Proofs.YtdmepoiijgejhaaDoor

