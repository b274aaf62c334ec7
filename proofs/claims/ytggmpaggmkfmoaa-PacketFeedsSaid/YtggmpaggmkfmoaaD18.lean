/- Packets, the law's own: lists of packets that were told are written over and grown: each is its own. -/
import Derived.Test.YtggmpaggmkfmoaaD17
import Derived.Test.YtggmpaggmkfmoaaD1
set_option maxRecDepth 100000
namespace Go.Proofs.Ytggmpaggmkfmoaa
open Go Go.Eng

def opC (v : Int) : List Value := [.bool false, .int .i64 v, .int .i64 0, .int .u64 0, .int .u64 0, .slice none 0 0, strv [], .slice none 0 0, .bool false]
def opsC (n : Nat) (v : Int) : List Value := (List.replicate n v).flatMap opC
theorem opsC_len (n : Nat) (v : Int) : (opsC n v).length = n * 9 := by
  induction n with
  | zero => rfl
  | succ n ih => unfold opsC at *; rw [List.replicate_succ, List.flatMap_cons, List.length_append, ih]; simp [opC]; omega
theorem opsC_succ (n : Nat) (v : Int) : opsC (n + 1) v = opsC n v ++ opC v := by
  unfold opsC
  rw [List.replicate_succ', List.flatMap_append]; simp
theorem opsC_at (n : Nat) (v : Int) (j : Nat) (h : j < n) : (opsC n v)[j * 9 + 1]? = some (.int .i64 v) := by
  induction n generalizing j with
  | zero => omega
  | succ n ih =>
    unfold opsC at *
    rw [List.replicate_succ, List.flatMap_cons]
    cases j with
    | zero => rfl
    | succ j =>
      have hl : (opC v).length = 9 := rfl
      rw [List.getElem?_append_right (by omega), hl, show (j + 1) * 9 + 1 - 9 = j * 9 + 1 from by omega]
      exact ih j (by omega)
theorem ow_store (xs : List Value) (n k : Nat) (v : Int) (hx : xs.length = n * 9) (hk : k < n) : setL (opsC k v ++ xs.drop (k * 9)) (k * 9) (opC v) = opsC (k + 1) v ++ xs.drop ((k + 1) * 9) := by
  have h1 := opsC_len k v
  have h2 : (opC v).length = 9 := rfl
  have e : xs.drop (k * 9) = (xs.drop (k * 9)).take 9 ++ xs.drop ((k + 1) * 9) := by
    rw [show (k + 1) * 9 = k * 9 + 9 from by omega, ← List.drop_drop, List.take_append_drop]
  have := setL_append (opC v) (opsC k v) ((xs.drop (k * 9)).take 9) (xs.drop ((k + 1) * 9)) (by rw [List.length_take, List.length_drop, h2]; omega)
  rw [← e, h1] at this
  rw [this, opsC_succ, List.append_assoc]
def Ow0 (r : Rw) : HProp := fun h => ∃ xs : List Value, xs.length = r.n * 9 ∧ own r.a r.c 39 9 xs h
def Ow1 (r : Rw) : HProp := own r.a r.c 39 9 (opsC r.n (r.k : Int))
def Ow2 (p : Rw × Rw) : HProp := fun h => p.2.n = p.1.n + 9 ∧ grw p.1.a p.1.c 39 9 (opsC p.1.n (p.1.k : Int)) (opsC 9 (1000 + (p.1.k : Int))) p.2.a p.2.c h
theorem stars_ow2 {rs gs : List Rw} {h : Hp} (hk : ∀ (i : Nat) (r : Rw), rs[i]? = some r → r.k = i) (s : ∃ k, stars ((rs.zip gs).map Ow2) k ∧ Le k h) : ∀ (i : Nat) (r g : Rw), rs[i]? = some r → gs[i]? = some g → g.n = r.n + 9 ∧ Rdl h g.a (opsC r.n (i : Int) ++ opsC 9 (1000 + (i : Int))) := by
  intro i r g h1 h2
  obtain ⟨k, s, le⟩ := s
  have hz : (rs.zip gs)[i]? = some (r, g) := by rw [List.getElem?_zip_eq_some]; exact ⟨h1, h2⟩
  have := stars_all (f := Ow2) (X := fun p h => p.2.n = p.1.n + 9 ∧ Rdl h p.2.a (opsC p.1.n (p.1.k : Int) ++ opsC 9 (1000 + (p.1.k : Int)))) (fun p k q => ⟨q.1, (grw_rd q.2).2⟩) (fun p k l q le => ⟨q.1, q.2.mono le⟩) _ _ s (r, g) (List.mem_of_getElem? hz)
  obtain ⟨x, z⟩ := this
  have e := hk i r h1
  simp only [e] at x z
  exact ⟨x, z.mono le⟩
set_option maxHeartbeats 4000000 in
theorem rowsOwn_fn (al : Option Addr) (rs : List Rw) (m cl : Nat) (hm : m = rs.length) (hr : rs.length ≤ 1000) (hk : ∀ (i : Nat) (r : Rw), rs[i]? = some r → r.k = i) (hn : ∀ r ∈ rs, r.n ≤ 1000000) :
    FnS Try.prog 34 [.slice al m cl] (fun h => Rdl h al (rs.map slv)) [stars (rs.map Ow0)] (fun v H => v = .bool true ∧ H = []) := by
  subst hm
  refine fn_body Try.func34 rfl Try.ntmps34 rfl ?_
  intro F hF
  have hsl := slv_len rs
  refine g_heap (H' := [stars ((rs.take 0).map Ow1), stars ((rs.drop 0).map Ow0)]) (fun _ s => starL_nil_stars s) ?_
  refine g_sr ?_
  refine Li As ?_
  refine g_ne ?_
  refine g_seq ?_
  refine g_sr ?_
  refine Li As ?_
  refine g_ne ?_
  refine g_block ?_
  refine Lo (ι := Nat) [12, 13, 14, 15, 4, 18, 19, 20, 21, 22, 23, 24, 27, 28, 29, 30, 31, 32, 33, 34, 25, 26, 16, 17, 3] (fun i => i ≤ rs.length) (fun i => [(3, .int .i64 (i : Int))]) (fun i => [stars ((rs.take i).map Ow1), stars ((rs.drop i).map Ow0)]) (fun i => rs.length - i) (0) (Nat.zero_le _) ?_
  rintro i hi
  refine g_seq ?_
  refine g_sr ?_
  refine Li Mv ?_
  refine Li Mv ?_
  refine Li (Ln T.sl_64) ?_
  refine Li Cm ?_
  refine g_ne ?_
  refine g_cond rfl ?_ ?_
  · intro h1
    replace h1 := nrm h1
    obtain ⟨r, e1⟩ : ∃ r, rs[i]? = some r := ⟨_, List.getElem?_eq_getElem (show i < rs.length by omega)⟩
    have s1 := slv_at rs i r e1
    have a1 : al.isSome = true := hF.some (by omega)
    have ek := hk i r e1
    have en := hn r (List.mem_of_getElem? e1)
    rw [drop_at rs i r e1, List.map_cons]
    refine Hh (H' := [stars (Ow0 r :: (rs.drop (i + 1)).map Ow0), stars ((rs.take i).map Ow1)]) ?_
    refine g_pop ?_
    refine g_ex fun xs => g_pure fun hx => ?_
    have e3 : Ow1 r = own r.a r.c 39 9 (opsC r.n (i : Int)) := by unfold Ow1; rw [ek]
    have e4 : (rs.take (i + 1)).map Ow1 = (rs.take i).map Ow1 ++ [Ow1 r] := by rw [take_at rs i r e1, List.map_append]; rfl
    rw [e3] at e4
    obtain ⟨rk, ra, rn, rc⟩ := r
    simp only at s1 hx en e4
    refine g_heap (H' := [own ra rc 39 9 (opsC 0 (i : Int) ++ xs.drop (0 * 9)), stars ((rs.drop (i + 1)).map Ow0), stars ((rs.take i).map Ow1)]) (fun _ q => q) ?_
    refine g_skip ?_
    refine e_then ?_
    refine g_seq ?_
    refine g_block ?_
    refine g_sr ?_
    refine Li As ?_
    refine g_ne ?_
    refine g_block ?_
    refine Lo (ι := Nat) [18, 19, 20, 21, 22, 23, 24, 27, 28, 29, 30, 31, 32, 33, 34, 25, 26, 4] (fun k => k ≤ rn) (fun k => [(4, .int .i64 (k : Int))]) (fun k => [own ra rc 39 9 (opsC k (i : Int) ++ xs.drop (k * 9)), stars ((rs.drop (i + 1)).map Ow0), stars ((rs.take i).map Ow1)]) (fun k => rn - k) (0) (Nat.zero_le _) ?_
    rintro k hkn
    have hlk := opsC_len k (i : Int)
    have hwl : (opsC k (i : Int) ++ xs.drop (k * 9)).length = rn * 9 := by rw [List.length_append, List.length_drop]; omega
    refine g_seq ?_
    refine g_sr ?_
    refine Li Mv ?_
    refine Li Mv ?_
    refine Li Mv ?_
    refine Li (Ix T.sl_64) ?_
    refine Lp (oL T.sc_22 ?_)
    refine Li (Ln T.sl_22) ?_
    refine Li Cm ?_
    refine g_ne ?_
    refine g_cond rfl ?_ ?_
    · intro h2
      replace h2 := nrm h2
      refine g_fact (sel_fact .here fun _ ho => own_none ho (by omega)) fun ha => ?_
      have e5 := ow_store xs rn k (i : Int) hx (by omega)
      refine g_skip ?_
      refine e_then ?_
      refine g_seq ?_
      refine g_block ?_
      refine g_region ?_
      refine Li Mv ?_
      refine Li Mv ?_
      refine Li (Ix T.sl_64) ?_
      refine Lp (oL T.sc_22 ?_)
      refine Li Mv ?_
      refine Li Mv ?_
      refine Li (Bd T.zc_39 T.st_39) ?_
      refine Li (Ix T.sl_22) ?_
      refine Lp (oSON T.ag_39 ?_ (vs := opC (i : Int)) (h1 := by simp [opC, Value.oneCell', strv]) (hj := by rw [hwl]; simp [opC]; omega) (h0 := by simp [opC]))
      rw [e5]
      refine g_nil ?_
      refine e_block ?_
      refine e_then ?_
      refine g_region ?_
      refine Li Mv ?_
      refine Li Im ?_
      refine Li As ?_
      refine g_nil ?_
      refine Ro (k + 1) ((by omega)) (by omega)
    · intro h2
      replace h2 := nrm h2
      have e6 : opsC k (i : Int) ++ xs.drop (k * 9) = opsC rn (i : Int) := by
        rw [show k = rn from by omega, List.drop_of_length_le (by omega), List.append_nil]
      rw [e6]
      refine Hh (H' := [own ra rc 39 9 (opsC rn (i : Int)), stars ((rs.take i).map Ow1), stars ((rs.drop (i + 1)).map Ow0)]) ?_
      refine g_push ?_
      rw [← e4]
      refine g_exit ?_
      refine e_then_exit ?_
      refine e_then_exit ?_
      refine e_block_hit ?_
      refine e_block ?_
      refine e_then ?_
      refine g_region ?_
      refine Li Mv ?_
      refine Li Im ?_
      refine Li As ?_
      refine g_nil ?_
      refine Ro (i + 1) ((by omega)) (by omega)
  · intro h1
    replace h1 := nrm h1
    rw [show rs.take i = rs from List.take_of_length_le (by omega)]
    clear hi h1
    refine g_nilrow 22 1 ?_
    refine g_heap (fun _ s => starL_nil_stars s) ?_
    have hz : ∀ Z : Rw × Rw → HProp, (rs.zip ([] : List Rw)).map Z = [] := fun Z => by rw [List.zip_nil_right]; rfl
    refine g_heap (H' := [own none 0 22 1 (([] : List Rw).map slv), stars ((rs.zip ([] : List Rw)).map Ow2), stars ((rs.drop 0).map Ow1)]) (by rw [hz]; exact Eh) ?_
    refine g_exit ?_
    refine e_then_exit ?_
    refine e_then_exit ?_
    refine e_block_hit ?_
    refine e_then ?_
    refine g_sr ?_
    refine Li As ?_
    refine g_ne ?_
    refine g_seq ?_
    refine g_sr ?_
    refine Li As ?_
    refine g_ne ?_
    refine g_block ?_
    refine Lo (ι := Nat × Option Addr × Nat × List Rw) [35, 36, 37, 38, 41, 42, 43, 44, 7, 8, 45, 46, 49, 50, 51, 52, 53, 54, 47, 48, 55, 56, 57, 58, 5, 39, 40, 6] (fun (i, ao, co, gs) => i ≤ rs.length ∧ gs.length = i ∧ i ≤ co) (fun (i, ao, co, gs) => [(6, .int .i64 (i : Int)), (5, .slice ao i co)]) (fun (i, ao, co, gs) => [own ao co 22 1 (gs.map slv), stars ((rs.zip gs).map Ow2), stars ((rs.drop i).map Ow1)]) (fun (i, ao, co, gs) => rs.length - i) ((0, none, 0, [])) ⟨Nat.zero_le _, rfl, Nat.zero_le _⟩ ?_
    rintro ⟨i, ao, co, gs⟩ ⟨hi, hgl, hco⟩
    try dsimp only at hI ⊢
    try dsimp only at hi hgl hco ⊢
    refine g_seq ?_
    refine g_sr ?_
    refine Li Mv ?_
    refine Li Mv ?_
    refine Li (Ln T.sl_64) ?_
    refine Li Cm ?_
    refine g_ne ?_
    refine g_cond rfl ?_ ?_
    · intro h1
      replace h1 := nrm h1
      obtain ⟨r, e1⟩ : ∃ r, rs[i]? = some r := ⟨_, List.getElem?_eq_getElem (show i < rs.length by omega)⟩
      have s1 := slv_at rs i r e1
      have a1 : al.isSome = true := hF.some (by omega)
      have ek := hk i r e1
      have en := hn r (List.mem_of_getElem? e1)
      have hgsl := slv_len gs
      have hzs := fun g => zip_snoc rs gs r g (by rw [hgl]; exact e1)
      rw [drop_at rs i r e1, List.map_cons]
      refine Hh (H' := [stars (Ow1 r :: (rs.drop (i + 1)).map Ow1), own ao co 22 1 (gs.map slv), stars ((rs.zip gs).map Ow2)]) ?_
      refine g_pop ?_
      obtain ⟨rk, ra, rn, rc⟩ := r
      simp only at s1 ek en
      subst ek

      refine g_heap (H' := [grw ra rc 39 9 (opsC rn (rk : Int)) (opsC 0 (1000 + (rk : Int))) ra rc, own ao co 22 1 (gs.map slv), stars ((rs.zip gs).map Ow2), stars ((rs.drop (rk + 1)).map Ow1)]) (fun h q => ?_) ?_
      · have q2 : starL [own ra rc 39 9 (opsC rn (rk : Int)), stars ((rs.drop (rk + 1)).map Ow1), own ao co 22 1 (gs.map slv), stars ((rs.zip gs).map Ow2)] h := q
        have q3 : starL [own ra rc 39 9 (opsC rn (rk : Int)), own ao co 22 1 (gs.map slv), stars ((rs.zip gs).map Ow2), stars ((rs.drop (rk + 1)).map Ow1)] h := ents (.cons .here (.cons (.there .here) (.cons (.there .here) (.cons .here .nil)))) h q2
        exact starL_cons_mono (fun _ p => grw_start p) q3
      refine g_skip ?_
      refine e_then ?_
      refine g_seq ?_
      refine g_block ?_
      refine g_sr ?_
      refine Li Mv ?_
      refine Li Mv ?_
      refine Li (Ix T.sl_64) ?_
      refine Lp (oL T.sc_22 ?_)
      refine Li As ?_
      refine g_ne ?_
      refine g_seq ?_
      refine g_sr ?_
      refine Li As ?_
      refine g_ne ?_
      refine g_block ?_
      refine Lo (ι := Nat × Option Addr × Nat) [45, 46, 49, 50, 51, 52, 53, 54, 7, 47, 48, 8] (fun (k, g, gc) => k ≤ 9) (fun (k, g, gc) => [(8, .int .i64 (k : Int)), (7, .slice g (rn + k) gc)]) (fun (k, g, gc) => [grw ra rc 39 9 (opsC rn (rk : Int)) (opsC k (1000 + (rk : Int))) g gc, own ao co 22 1 (gs.map slv), stars ((rs.zip gs).map Ow2), stars ((rs.drop (rk + 1)).map Ow1)]) (fun (k, g, gc) => 9 - k) ((0, ra, rc)) (Nat.zero_le _) ?_
      rintro ⟨k, g, gc⟩ hk9
      try dsimp only at hI ⊢
      try dsimp only at hk9 ⊢
      have hlk := opsC_len k (1000 + (rk : Int))
      have hln := opsC_len rn (rk : Int)
      refine g_seq ?_
      refine g_sr ?_
      refine Li Mv ?_
      refine Li Cm ?_
      refine g_ne ?_
      refine g_cond rfl ?_ ?_
      · intro h2
        replace h2 := nrm h2
        refine g_skip ?_
        refine e_then ?_
        refine g_seq ?_
        refine g_block ?_
        refine g_region ?_
        refine Li Mv ?_
        refine Li Mv ?_
        refine Li Im ?_
        refine Li (Bd T.zc_39 T.st_39) ?_
        refine Lp (oT1 T.ap_22 fun b1 => ?_)
        refine Hh (H' := [grw ra rc 39 9 (opsC rn (rk : Int)) (opsC k (1000 + (rk : Int))) g gc, pts b1 39 (opC (1000 + (rk : Int))), own ao co 22 1 (gs.map slv), stars ((rs.zip gs).map Ow2), stars ((rs.drop (rk + 1)).map Ow1)]) ?_
        refine Lp (op_grow T.ap_22 T.ni_22 rfl rfl rfl rfl (by rw [List.length_append]; omega) (by omega) (fun _ => src_slice (m := 1) rfl fun h le hin => pts_in (hin.nth 1 rfl)) (fun _ _ => src_slice (m := 1) rfl fun h le hin => pts_in (hin.nth 2 rfl)) (by simp [opC, Value.oneCell', strv]) (by omega) (by omega) rfl fun g2 gc2 => ?_)
        rw [← opsC_succ]
        refine Li As ?_
        refine g_nil ?_
        refine e_block ?_
        refine e_then ?_
        refine g_region ?_
        refine Li Mv ?_
        refine Li Im ?_
        refine Li As ?_
        refine g_nil ?_
        refine Ro ((k + 1, g2, gc2)) ((by omega)) (by omega)
      · intro h2
        replace h2 := nrm h2
        have hk4 : k = 9 := by omega
        subst hk4
        refine g_exit ?_
        refine e_then_exit ?_
        refine e_then_exit ?_
        refine e_block_hit ?_
        refine e_then ?_
        refine g_region ?_
        refine Li Mv ?_
        refine Li Mv ?_
        refine Lp (oT T.ap_64 fun b2 => ?_)
        refine g_heap (H' := [stars ((rs.zip (gs ++ [⟨rk, g, rn + 9, gc⟩])).map Ow2), pts b2 22 [.slice g (rn + 9) gc], own ao co 22 1 (gs.map slv), stars ((rs.drop (rk + 1)).map Ow1)]) (fun h q => ?_) ?_
        · rw [hzs, List.map_append]
          have q3 := ents (As := [grw ra rc 39 9 (opsC rn (rk : Int)) (opsC 9 (1000 + (rk : Int))) g gc, stars ((rs.zip gs).map Ow2), pts b2 22 [.slice g (rn + 9) gc], own ao co 22 1 (gs.map slv), stars ((rs.drop (rk + 1)).map Ow1)]) (.cons (.there .here) (.cons (.there (.there .here)) (.cons .here (.cons .here (.cons .here .nil))))) h q
          exact stars_push (A := Ow2 (⟨rk, ra, rn, rc⟩, ⟨rk, g, rn + 9, gc⟩)) (starL_cons_mono (fun _ p => ⟨rfl, p⟩) q3)
        refine Hh (H' := [pts b2 22 [.slice g (rn + 9) gc], own ao co 22 1 (gs.map slv), stars ((rs.zip (gs ++ [⟨rk, g, rn + 9, gc⟩])).map Ow2), stars ((rs.drop (rk + 1)).map Ow1)]) ?_
        refine Lp (op_append_lit T.ap_64 T.ni_64 rfl rfl rfl rfl .here (by omega) (rfl) (by simp [Value.oneCell']) (by first | omega | (simp; omega)) (by first | omega | (simp; omega)) rfl fun a5 c5 hc5 => ?_)
        rw [slv_snoc gs g rk (rn + 9) gc]
        refine Li As ?_
        refine g_nil ?_
        refine e_block ?_
        refine e_then ?_
        refine g_region ?_
        refine Li Mv ?_
        refine Li Im ?_
        refine Li As ?_
        refine g_nil ?_
        refine Ro ((rk + 1, a5, c5, gs ++ [⟨rk, g, rn + 9, gc⟩])) (⟨by omega, by simp; omega, hc5⟩) (by omega)
    · intro h1
      replace h1 := nrm h1
      have hlen : gs.length = rs.length := by omega
      have hil : i = rs.length := by omega
      subst hil
      clear hi h1 hgl
      have hgsl := slv_len gs
      refine Hh (H' := [own ao co 22 1 (gs.map slv), stars ((rs.zip gs).map Ow2)]) ?_
      refine g_exit ?_
      refine e_then_exit ?_
      refine e_then_exit ?_
      refine e_block_hit ?_
      refine e_then ?_
      refine g_seq ?_
      refine g_sr ?_
      refine Li As ?_
      refine g_ne ?_
      refine g_block ?_
      refine Lo (ι := Nat) [59, 60, 61, 62, 10, 65, 66, 67, 68, 69, 70, 71, 74, 11, 75, 76, 77, 78, 79, 80, 81, 82, 83, 84, 85, 86, 87, 88, 89, 90, 91, 92, 93, 2, 72, 73, 63, 64, 9] (fun i => i ≤ rs.length) (fun i => [(9, .int .i64 (i : Int))]) (fun i => [own ao co 22 1 (gs.map slv), stars ((rs.zip gs).map Ow2)]) (fun i => rs.length - i) (0) (Nat.zero_le _) ?_
      rintro i hi
      refine g_seq ?_
      refine g_sr ?_
      refine Li Mv ?_
      refine Li Mv ?_
      refine Li (Ln T.sl_64) ?_
      refine Li Cm ?_
      refine g_ne ?_
      refine g_cond rfl ?_ ?_
      · intro h1
        replace h1 := nrm h1
        obtain ⟨r, e1⟩ : ∃ r, rs[i]? = some r := ⟨_, List.getElem?_eq_getElem (show i < rs.length by omega)⟩
        obtain ⟨g, e2⟩ : ∃ g, gs[i]? = some g := ⟨_, List.getElem?_eq_getElem (show i < gs.length by omega)⟩
        have s1 := slv_at rs i r e1
        have s2 := slv_at gs i g e2
        have a1 : al.isSome = true := hF.some (by omega)
        have en := hn r (List.mem_of_getElem? e1)
        refine g_fact (sel_fact .here fun _ ho => own_none ho (by omega)) fun a2 => ?_
        refine g_fact (sel_fact (.there .here) fun _ ho => (stars_ow2 hk ⟨_, ho, Le.refl _⟩ i r g e1 e2).1) fun hgn => ?_
        refine g_fact (sel_fact (.there .here) fun _ ho => (stars_ow2 hk ⟨_, ho, Le.refl _⟩ i r g e1 e2).2.some (by rw [List.length_append, opsC_len, opsC_len]; omega)) fun ga0 => ?_
        obtain ⟨rk, ra, rn, rc⟩ := r
        obtain ⟨gk, ga, gn, gc⟩ := g
        simp only at s1 s2 en hgn ga0
        refine g_skip ?_
        refine e_then ?_
        refine g_seq ?_
        refine g_block ?_
        refine g_sr ?_
        refine Li As ?_
        refine g_ne ?_
        refine g_block ?_
        refine Lo (ι := Nat) [65, 66, 67, 68, 69, 70, 71, 74, 11, 75, 76, 77, 78, 79, 80, 81, 82, 83, 84, 85, 86, 87, 88, 89, 90, 91, 92, 93, 2, 72, 73, 10] (fun j => j ≤ gn) (fun j => [(10, .int .i64 (j : Int))]) (fun j => [own ao co 22 1 (gs.map slv), stars ((rs.zip gs).map Ow2)]) (fun j => gn - j) (0) (Nat.zero_le _) ?_
        rintro j hj
        refine g_seq ?_
        refine g_sr ?_
        refine Li Mv ?_
        refine Li Mv ?_
        refine Li Mv ?_
        refine Li (Ix T.sl_64) ?_
        refine Lp (oL T.sc_22 ?_)
        refine Li (Ln T.sl_22) ?_
        refine Li Cm ?_
        refine g_ne ?_
        refine g_cond rfl ?_ ?_
        · intro h2
          replace h2 := nrm h2
          refine g_skip ?_
          refine e_then ?_
          refine g_seq ?_
          refine g_block ?_
          refine g_sr ?_
          refine Li Mv ?_
          refine Li As ?_
          refine g_ne ?_
          refine g_seq ?_
          refine g_sr ?_
          refine Li Mv ?_
          refine Li Mv ?_
          refine Li Mv ?_
          refine Li (Ix T.sl_64) ?_
          refine Lp (oL T.sc_22 ?_)
          refine Li (Ln T.sl_22) ?_
          refine Li Cm ?_
          refine g_ne ?_
          refine g_mid (ι := Int) [82, 83, 11] (fun w => (opsC rn (i : Int) ++ opsC 9 (1000 + (i : Int)))[j * 9 + 1]? = some (.int .i64 w)) (fun w => [(11, .int .i64 w)]) (fun w => [own ao co 22 1 (gs.map slv), stars ((rs.zip gs).map Ow2)]) ?_ ?_
          · refine g_cond rfl ?_ ?_
            · intro h3
              replace h3 := nrm h3
              refine g_region ?_
              refine Li Mv ?_
              refine Li Im ?_
              refine Li As ?_
              refine g_nil ?_
              refine Me ((1000 + (i : Int))) ((by rw [List.getElem?_append_right (by rw [opsC_len]; omega), opsC_len, show j * 9 + 1 - rn * 9 = (j - rn) * 9 + 1 from by omega]; exact opsC_at 9 _ (j - rn) (by omega)))
            · intro h3
              replace h3 := nrm h3
              refine g_skip ?_
              refine Me ((i : Int)) ((by rw [List.getElem?_append_left (by rw [opsC_len]; omega)]; exact opsC_at rn _ j (by omega)))
          rintro w hw
          refine g_sr ?_
          refine Li Mv ?_
          refine Li Mv ?_
          refine Li (Ix T.sl_64) ?_
          refine Lp (oL T.sc_22 ?_)
          refine Li Mv ?_
          refine Li (Ix T.sl_22) ?_
          refine Li (Fam T.fld_39_1) ?_
          refine Lp (op_loadW T.sc_3 rfl rfl rfl (fun h le hin => (stars_ow2 hk (hin.nth 1 rfl) i _ _ e1 e2).2) hw ga0 rfl ?_)
          refine Li Mv ?_
          refine Li Cm ?_
          refine g_ne ?_
          refine g_cond_f rfl (by simp) ?_
          refine g_skip ?_
          refine e_block ?_
          refine e_then ?_
          refine g_region ?_
          refine Li Mv ?_
          refine Li Im ?_
          refine Li As ?_
          refine g_nil ?_
          refine Ro (j + 1) ((by omega)) (by omega)
        · intro h2
          replace h2 := nrm h2
          refine g_exit ?_
          refine e_then_exit ?_
          refine e_then_exit ?_
          refine e_block_hit ?_
          refine e_block ?_
          refine e_then ?_
          refine g_region ?_
          refine Li Mv ?_
          refine Li Im ?_
          refine Li As ?_
          refine g_nil ?_
          refine Ro (i + 1) ((by omega)) (by omega)
      · intro h1
        replace h1 := nrm h1
        refine g_exit ?_
        refine e_then_exit ?_
        refine e_then_exit ?_
        refine e_block_hit ?_
        refine e_then ?_
        refine g_sr ?_
        refine Li As ?_
        refine g_ne ?_
        refine g_ret ?_
        refine Rt [] Try.results34 ?_
        exact ⟨rfl, rfl⟩
end Go.Proofs.Ytggmpaggmkfmoaa

