/- The disk: its names, in their order. -/
import Derived.Test.YtncmmhfgcgnojaaSrtW
import Derived.Test.YtncmmhfgcgnojaaEngN
set_option maxRecDepth 100000
namespace Go.Proofs.Ytncmmhfgcgnojaa
open Go Go.Eng Go.MapKept

theorem insert_nil : FnS Try.prog 75 [.slice none 0 0, .int .i64 0, .int .i64 0] (fun _ => True) [] (fun v H => v = .tuple #[] ∧ H = []) := by
  refine fn_body Try.func75 rfl Try.ntmps75 rfl ?_
  intro F hF
  refine g_sr ?_
  refine Li Mv ?_
  refine Li Im ?_
  refine Li As ?_
  refine g_ne ?_
  refine g_block ?_
  refine Lo (ι := Unit) [10, 11, 12, 15, 7, 16, 17, 18, 19, 20, 21, 22, 23, 24, 25, 26, 27, 28, 29, 30, 33, 34, 35, 36, 37, 38, 39, 40, 41, 42, 43, 44, 45, 46, 47, 48, 31, 32, 13, 14, 6] (fun u => True) (fun u => [(6, .int .i64 1)]) (fun u => []) (fun u => 0) (()) trivial ?_
  rintro u hI
  refine g_seq ?_
  refine g_sr ?_
  refine Li Mv ?_
  refine Li Mv ?_
  refine Li Cm ?_
  refine g_ne ?_
  refine g_cond_f rfl (by rfl) ?_
  refine g_exit ?_
  refine e_then_exit ?_
  refine e_then_exit ?_
  refine e_block_hit ?_
  refine Rn0 [] Try.results75 ?_
  exact ⟨rfl, rfl⟩
theorem pdq_nil : FnS Try.prog 72 [.slice none 0 0, .int .i64 0, .int .i64 0, .int .i64 0] (fun _ => True) [] (fun v H => v = .tuple #[] ∧ H = []) := by
  refine fn_body Try.func72 rfl Try.ntmps72 rfl ?_
  intro F hF
  refine g_sr ?_
  refine Li As ?_
  refine g_ne ?_
  refine g_sr ?_
  refine Li As ?_
  refine g_ne ?_
  refine g_block ?_
  refine Lo (ι := Unit) [19, 20, 21, 10, 22, 23, 24, 25, 26, 27, 28, 29, 30, 31, 32, 33, 34, 35, 36, 37, 38, 39, 40, 41, 3, 43, 44, 45, 46, 42, 47, 48, 11, 12, 49, 50, 51, 52, 53, 54, 55, 56, 57, 58, 59, 60, 61, 62, 63, 64, 65, 66, 67, 68, 69, 70, 71, 72, 73, 74, 75, 76, 77, 78, 79, 80, 81, 82, 83, 84, 85, 86, 87, 88, 89, 90, 91, 92, 13, 93, 1, 95, 96, 97, 98, 99, 94, 100, 101, 14, 15, 102, 9, 103, 104, 105, 106, 107, 108, 16, 17, 109, 110, 18, 111, 112, 113, 114, 115, 116, 8, 117, 118, 119, 120, 121, 122, 123, 124, 125, 126, 127, 128, 129, 130, 131, 132, 133, 2] (fun u => True) (fun u => [(1, .int .i64 0), (2, .int .i64 0)]) (fun u => []) (fun u => 0) (()) trivial ?_
  rintro u hI
  refine g_block ?_
  refine g_sr ?_
  refine Li Mv ?_
  refine Li Mv ?_
  refine Li Im ?_
  refine Li As ?_
  refine g_ne ?_
  refine g_seq ?_
  refine g_sr ?_
  refine Li Mv ?_
  refine Li Cm ?_
  refine g_ne ?_
  refine g_cond_t rfl (by rfl) ?_
  refine g_sr ?_
  refine Li Mv ?_
  refine Li Mv ?_
  refine Li Mv ?_
  refine Lp (oC T.fn_75 rfl rfl (insert_nil) .nil (fun _ _ _ => trivial) ?_)
  rintro v H' ⟨rfl, rfl⟩
  try simp only [nap, cap]
  refine g_ne ?_
  refine g_ret ?_
  refine e_then_ret ?_
  refine e_block_ret ?_
  refine e_then_ret ?_
  refine e_block_ret ?_
  refine Rt0 [] Try.results72 ?_
  exact ⟨rfl, rfl⟩
theorem sort_nil : FnS Try.prog 67 [.slice none 0 0] (fun _ => True) [] (fun v H => v = .tuple #[] ∧ H = []) := by
  refine fn_body Try.func67 rfl Try.ntmps67 rfl ?_
  intro F hF
  refine g_sr ?_
  refine Li Mv ?_
  refine Li (Ln T.sl_57) ?_
  refine Li As ?_
  refine g_ne ?_
  refine g_region ?_
  refine Li Mv ?_
  refine Li Mv ?_
  refine Li Mv ?_
  refine Li (Cv T.u_129 T.us_3) ?_
  refine Lp (oC T.fn_73 rfl rfl (len0_fn) .nil (fun _ _ _ => trivial) ?_)
  rintro v H' ⟨rfl, rfl⟩
  try simp only [nap, cap]
  refine Lp (oC T.fn_72 rfl rfl (pdq_nil) .nil (fun _ _ _ => trivial) ?_)
  rintro v H' ⟨rfl, rfl⟩
  try simp only [nap, cap]
  refine g_nil ?_
  refine Rn0 [] Try.results67 ?_
  exact ⟨rfl, rfl⟩
theorem sort_fn (a : Option Addr) (cap : Nat) (ss : List (List UInt8)) (hl : ss.length < 4611686018427387904) (ha : 0 < ss.length → a.isSome = true) (ha0 : ss = [] → a = none ∧ cap = 0) : FnS Try.prog 67 [.slice a ss.length cap] (fun _ => True) [own a cap 9 1 (ss.map strv)] (fun v H => v = .tuple #[] ∧ H = [own a cap 9 1 ((sortL ss).map strv)]) := by
  cases ss with
  | nil =>
    rw [show sortL [] = [] from List.length_eq_zero_iff.1 (by rw [sortL_len]; rfl)]
    obtain ⟨rfl, rfl⟩ := ha0 rfl
    intro F w p s
    refine (sort_nil F w p (s.sub fun _ _ => trivial)).mono ?_
    rintro e w' ⟨v, H', rfl, ⟨rfl, rfl⟩, st⟩
    exact ⟨_, _, rfl, ⟨rfl, rfl⟩, st.sub fun _ x => starL_own_nil 9 1 x⟩
  | cons x ss =>
    obtain ⟨ad, rfl⟩ := Option.isSome_iff_exists.1 (ha (by simp))
    exact sort_some ad _ cap _ rfl hl
/-- the names of a table, in whatever order -/
def alN (l : List (Nm × Nat)) (p : List (List Value)) (x : List Value) : Prop := ∃ (q : List Nm) (n : Nm) (r : List Nm), p = q.map (fun n : Nm => [strv n]) ∧ x = [strv n] ∧ (q ++ n :: r).Perm (l.map (·.1))
def finN (l : List (Nm × Nat)) (p : List (List Value)) : Prop := ∃ q : List Nm, p = q.map (fun n : Nm => [strv n]) ∧ q.Perm (l.map (·.1))
theorem sels_app : ∀ (A R : List HProp), Sels (A ++ R) A R
  | [], _ => .nil
  | _ :: A, R => .cons .here (sels_app A R)
theorem keys_it (F : Frm) (bx m : Nat) (l : List (Nm × Nat)) (hF1 : ∃ k, pts bx 61 [.map (some m)] k ∧ Le k F.h) (hF2 : ∃ k, mq .string m (mes l) k ∧ Le k F.h) : ItF Try.prog F 68 [] [.pointer (some ⟨bx, 0, none⟩)] [] (alN l) (finN l) := by
  obtain ⟨k0, ⟨ents, clk, he, hk, hst, hb⟩, hle⟩ := hF2
  have hm0 : F.h m = some (.map ents clk) := hle _ _ hb
  intro ll J Z hyd
  refine fn_bodyX Try.func68 rfl Try.ntmps68 rfl ?_
  intro F1 hle1
  have hm : F1.h m = some (.map ents clk) := hle1 _ _ hm0
  have hF1' := in_mono hF1 hle1
  simp only [nap]
  refine x_sr ?_
  refine Xp (oL T.sc_61 ?_)
  refine Xp (oFr T.mt_61 hm fun b1 => ?_)
  rw [he]
  refine x_ne ?_
  refine x_block ?_
  refine g_heap (H' := [mit ents clk m b1 (mes l) none, stars (J (([] : List Nm).map fun n : Nm => [strv n]))]) (fun _ s => starL_tail (fun _ t => stars_of (H := []) (by rw [List.append_nil]; exact t)) s) ?_
  refine Xo (ι := List (Nm × Nat) × Option (Value × Value) × List Nm) [6, 7, 8, 9, 3, 10, 11, 12, 13] (fun (lf, cur, q) => (q ++ lf.map (·.1)).Perm (l.map (·.1))) (fun (lf, cur, q) => []) (fun (lf, cur, q) => [mit ents clk m b1 (mes lf) cur, stars (J (q.map fun n : Nm => [strv n]))]) (fun (lf, cur, q) => lf.length) ((l, none, [])) (List.Perm.refl _) ?_
  rintro ⟨lf, cur, q⟩ hq
  try dsimp only at hI ⊢
  dsimp only at hq ⊢
  refine x_sr ?_
  refine Xp (oFn hm hst ?_ ?_)
  · intro h0
    obtain rfl : lf = [] := by simpa [mes] using h0
    refine Xi Ex ?_
    refine x_ne ?_
    refine x_seq ?_
    refine x_cond_f rfl (by rfl) ?_
    refine x_exit ?_
    refine e_then_exit ?_
    refine e_then_exit ?_
    refine e_block_hit ?_
    refine g_heap (fun _ x => starL_swap x) (g_stars ?_)
    refine Rn0 ([] ++ J (q.map fun n : Nm => [strv n])) Try.results68 ?_ (hh := fun _ x => starL_app_left x)
    exact .inl ⟨_, ⟨q, rfl, by simpa using hq⟩, rfl⟩
  · intro l1 k v l2 hl
    obtain ⟨m1, n, j, m2, rfl, rfl, rfl, rfl, rfl⟩ := mes_split hl
    rw [mes_append]
    have hq2 : (q ++ n :: (m1 ++ m2).map (·.1)).Perm (l.map (·.1)) := by
      refine List.Perm.trans ?_ hq
      rw [List.map_append, List.map_append, List.map_cons]
      exact (List.perm_middle.symm).append_left q
    refine Xi Ex ?_
    refine x_ne ?_
    refine x_seq ?_
    refine x_cond_t rfl (by rfl) ?_
    refine x_skip ?_
    refine e_then ?_
    refine x_block ?_
    refine x_sr ?_
    refine Xp (oFe hm hst ?_)
    refine g_heap (fun _ x => starL_swap x) (g_stars ?_)
    refine Xi Ex ?_
    refine Xi As ?_
    refine x_ne ?_
    refine x_sr ?_
    refine Xi Mv ?_
    refine Xi Mv ?_
    refine Xin (oY rfl rfl rfl (hyd (q.map fun n : Nm => [strv n]) [strv n] ⟨q, n, _, rfl, rfl, hq2⟩) (sels_app _ _) (fun h le _ => hle1.trans le) ?_)
    rintro v H' (⟨rfl, rfl⟩ | ⟨rfl, Zs, hz, hH⟩)
    · refine Xi Nt ?_
      refine x_ne ?_
      refine x_cond_f rfl (by rfl) ?_
      refine x_skip ?_
      refine e_block ?_
      have ej : [] ++ J (q.map (fun n : Nm => [strv n]) ++ [[strv n]]) = J ((q ++ [n]).map fun n : Nm => [strv n]) := by simp
      rw [ej]
      refine g_heap (H' := [mit ents clk m b1 (mes (m1 ++ m2)) (some (strv n, .int .i64 (j : Int))), stars (J ((q ++ [n]).map fun n : Nm => [strv n]))]) (fun _ x => starL_swap (stars_of x)) ?_
      refine Ro ((m1 ++ m2, some (strv n, .int .i64 (j : Int)), q ++ [n])) ((by dsimp only; simpa using hq2)) ((by simp))
    · refine Xi Nt ?_
      refine x_ne ?_
      refine x_cond_t rfl (by rfl) ?_
      refine x_ret ?_
      refine e_block_ret ?_
      refine e_then_ret ?_
      refine e_block_ret ?_
      refine Rt0 H' Try.results68 ?_ (hh := fun _ x => starL_app_left x)
      exact .inr ⟨Zs, hz, hH⟩
/-- a row of texts that grows, with the cell that names it -/
def rowH (b1 : Nat) (p : List (List Value)) : HProp := fun h => ∃ y : Option Addr × Nat, (p = [] → y.1 = none ∧ y.2 = 0) ∧ stars [pts b1 57 [.slice y.1 p.length y.2], own y.1 y.2 9 1 p.flatten] h
theorem flat_names (q : List Nm) : (q.map fun n : Nm => [strv n]).flatten = q.map strv := by induction q <;> simp_all
theorem appendseq_fn (bx m : Nat) (l : List (Nm × Nat)) (hl : l.length ≤ 10000) : FnS Try.prog 71 [.slice none 0 0, .func (.func 68) #[] #[.pointer (some ⟨bx, 0, none⟩)]] (fun h => (∃ k, pts bx 61 [.map (some m)] k ∧ Le k h) ∧ ∃ k, mq .string m (mes l) k ∧ Le k h) []
    (fun v H => ∃ a c, ∃ q : List Nm, v = .slice a q.length c ∧ q.Perm (l.map (·.1)) ∧ (q = [] → a = none ∧ c = 0) ∧ H = [own a c 9 1 (q.map strv)]) := by
  refine fn_bodyM Try.func71 rfl Try.ntmps71 rfl ?_
  rintro F ⟨hF1, hF2⟩
  refine x_sr ?_
  refine Xp (oB fun b1 => ?_)
  refine Xi As ?_
  refine x_ne ?_
  refine x_seq ?_
  refine x_sr ?_
  refine Xi Mv ?_
  refine x_ne ?_
  refine x_block ?_
  refine g_nilrow 9 1 ?_
  refine g_heap (H' := [rowH b1 []]) (fun _ s => starL_cons_mono (A := stars [pts b1 57 [.slice none 0 0], own none 0 9 1 []]) (fun _ p => ⟨(none, 0), fun _ => ⟨rfl, rfl⟩, p⟩) (stars_of (L := [_, _]) (starL_swap s))) ?_
  refine x_rf (fun p => [rowH b1 p]) (fun _ => False) (fun _ _ => False) (fun _ x => [(5, x.headD undef), (2, .pointer (some ⟨b1, 0, none⟩))]) T.fn_68 rfl (keys_it F bx m l hF1 hF2) (.cons .here .nil) (fun p x ⟨q, n, r, _, hx, _⟩ => by rw [hx]; rfl) rfl ?_ ?_ ?_ (fun _ _ hz => hz.elim) (fun _ _ _ hz => hz.elim)
  · rintro ll F' p x HH K ⟨q, n, r, hp, rfl, hr⟩ hK
    refine x_region ?_
    refine Xi As ?_
    refine x_nil ?_
    exact e_then (g_sub2 hK (by exact ⟨rfl, rfl, trivial⟩))
  · rintro ll F' p x L ⟨q, n, r, rfl, rfl, hr⟩ hle
    have hql : q.length + 1 ≤ l.length := by have := hr.length_eq; simp at this; omega
    change G 13 [] F' _ [(5, strv n), (2, .pointer (some ⟨b1, 0, none⟩))] [L, rowH b1 (q.map fun n => [strv n])]
    refine g_heap (fun _ s => starL_swap s) (g_ex fun y => g_pure fun hnil => g_stars ?_)
    obtain ⟨a, c⟩ := y
    dsimp only at hnil ⊢
    simp only [nap, cap]
    rw [flat_names, List.length_map]
    refine x_block ?_
    refine x_region ?_
    refine Xp (oL T.sc_57 ?_)
    refine Xi Mv ?_
    refine Xp (oT T.ap_57 fun b2 => ?_)
    refine Xp (op_append_lit T.ap_57 T.ni_57 rfl rfl rfl rfl (.there .here) (by simp) (rfl) (by simp [Value.oneCell', strv]) (by first | omega | (simp; omega)) (by first | omega | (simp; omega)) rfl fun a5 c5 hc5 => ?_)
    refine Xp (oS T.sc_57 ?_)
    refine x_nil ?_
    refine e_block ?_
    refine rq_normal fun k s => ?_
    have e1 : rowH b1 ((q.map fun n : Nm => [strv n]) ++ [[strv n]]) = rowH b1 ((q ++ [n]).map fun n : Nm => [strv n]) := by simp
    rw [e1]
    refine starL_swap (starL_cons_mono (A := stars [pts b1 57 [.slice a5 (q.length + 1) c5], own a5 c5 9 1 (q.map strv ++ [strv n])]) (fun _ p => ⟨(a5, c5), fun h => (by simp at h), ?_⟩) (stars_of (L := [_, _]) s))
    dsimp only
    rw [flat_names, List.length_map, List.length_append]
    simpa using p
  rintro D p ⟨q, rfl, hq⟩
  refine e_block ?_
  refine e_then ?_
  refine g_heap (H' := [rowH b1 (q.map fun n : Nm => [strv n]), dfr D]) (fun _ s => starL_swap s) (g_ex fun y => g_pure fun hnil => g_stars ?_)
  obtain ⟨a, c⟩ := y
  dsimp only at hnil ⊢
  simp only [nap, cap]
  rw [flat_names, List.length_map]
  refine x_sr ?_
  refine Xp (oL T.sc_57 ?_)
  refine Xi As ?_
  refine x_ne ?_
  refine x_ret ?_
  refine RdM [D] [own a c 9 1 (q.map strv)] Try.results71 ?_
  exact ⟨a, c, q, rfl, hq, fun h => hnil (by rw [h]; rfl), rfl⟩
theorem collect_fn (bx m : Nat) (l : List (Nm × Nat)) (hl : l.length ≤ 10000) : FnS Try.prog 66 [.func (.func 68) #[] #[.pointer (some ⟨bx, 0, none⟩)]] (fun h => (∃ k, pts bx 61 [.map (some m)] k ∧ Le k h) ∧ ∃ k, mq .string m (mes l) k ∧ Le k h) []
    (fun v H => ∃ a c, ∃ q : List Nm, v = .slice a q.length c ∧ q.Perm (l.map (·.1)) ∧ (q = [] → a = none ∧ c = 0) ∧ H = [own a c 9 1 (q.map strv)]) := by
  refine fn_body Try.func66 rfl Try.ntmps66 rfl ?_
  rintro F ⟨hF1, hF2⟩
  refine g_sr ?_
  refine Li As ?_
  refine g_ne ?_
  refine g_sr ?_
  refine Li Mv ?_
  refine Lp (oC T.fn_71 rfl rfl (appendseq_fn bx m l hl) .nil (fun _ le _ => ⟨in_mono hF1 le, in_mono hF2 le⟩) ?_)
  rintro v H' ⟨a, c, q, rfl, hq, h0, rfl⟩
  try simp only [nap, cap]
  refine Li As ?_
  refine g_ne ?_
  refine g_ret ?_
  refine Rt [own a c 9 1 (q.map strv)] Try.results66 ?_
  exact ⟨a, c, q, rfl, hq, h0, rfl⟩
theorem sorted_fn (bx m : Nat) (l : List (Nm × Nat)) (hl : l.length ≤ 10000) : FnS Try.prog 51 [.func (.func 68) #[] #[.pointer (some ⟨bx, 0, none⟩)]] (fun h => (∃ k, pts bx 61 [.map (some m)] k ∧ Le k h) ∧ ∃ k, mq .string m (mes l) k ∧ Le k h) []
    (fun v H => ∃ a c, ∃ q : List Nm, v = .slice a q.length c ∧ q.Perm (l.map (·.1)) ∧ H = [own a c 9 1 ((sortL q).map strv)]) := by
  refine fn_body Try.func51 rfl Try.ntmps51 rfl ?_
  rintro F ⟨hF1, hF2⟩
  refine g_sr ?_
  refine Li As ?_
  refine g_ne ?_
  refine g_sr ?_
  refine Li Mv ?_
  refine Lp (oC T.fn_66 rfl rfl (collect_fn bx m l hl) .nil (fun _ le _ => ⟨in_mono hF1 le, in_mono hF2 le⟩) ?_)
  rintro v H' ⟨a, c, q, rfl, hq, h0, rfl⟩
  try simp only [nap, cap]
  have hql : q.length ≤ 10000 := by have := hq.length_eq; simp at this; omega
  refine g_fact (X := 0 < q.length → a.isSome = true) (sel_fact .here fun k o h => own_none o (by rw [List.length_map]; exact h)) fun sa => ?_
  refine Li As ?_
  refine g_ne ?_
  refine g_sr ?_
  refine Li Mv ?_
  refine Lp (oC T.fn_67 rfl rfl (sort_fn a c q (by omega) sa h0) (.cons .here .nil) (fun _ _ _ => trivial) ?_)
  rintro v H' ⟨rfl, rfl⟩
  try simp only [nap, cap]
  refine g_ne ?_
  refine g_sr ?_
  refine Li Mv ?_
  refine Li As ?_
  refine g_ne ?_
  refine g_ret ?_
  refine Rt [own a c 9 1 ((sortL q).map strv)] Try.results51 ?_
  exact ⟨a, c, q, rfl, hq, rfl⟩
theorem keys_fn (m : Nat) : FnS Try.prog 52 [.map (some m)] (fun _ => True) [] (fun v H => ∃ bx, v = .func (.func 68) #[] #[.pointer (some ⟨bx, 0, none⟩)] ∧ H = [pts bx 61 [.map (some m)]]) := by
  refine fn_body Try.func52 rfl Try.ntmps52 rfl ?_
  intro F hF
  refine g_sr ?_
  refine Lp (oB fun b1 => ?_)
  refine Li As ?_
  refine g_ne ?_
  refine g_sr ?_
  refine Li Mf ?_
  refine Li As ?_
  refine g_ne ?_
  refine g_ret ?_
  refine Rt [pts b1 61 [.map (some m)]] Try.results52 ?_
  exact ⟨b1, rfl, rfl⟩
theorem sortL_perm {l m : List Nm} (p : l.Perm m) : sortL l = sortL m := by
  refine List.Perm.eq_of_pairwise (le := fun x y => decide (x ≤ y) = true) ?_ (List.pairwise_mergeSort ?_ ?_ l) (List.pairwise_mergeSort ?_ ?_ m) ((List.mergeSort_perm l _).trans (p.trans (List.mergeSort_perm m _).symm))
  · intro a b _ _ h1 h2
    exact Std.le_antisymm (by simpa using h1) (by simpa using h2)
  all_goals first
    | (intro a b c h1 h2; simp only [decide_eq_true_eq] at h1 h2 ⊢; exact Std.le_trans h1 h2)
    | (intro a b; simp only [Bool.or_eq_true, decide_eq_true_eq]; exact Std.le_total)
def keysL (s : Ds) : List Nm := (namesL s).map (·.1)
def namesOut (s : Ds) : List Nm := if s.dark = true then [] else sortL (keysL s)
theorem names_m (b : Nat) (s : Ds) (hS : Inv s) (hn : s.acts ≤ 10000) : FnS Try.prog 20 [.pointer (some ⟨b, 0, none⟩)] (fun _ => True) [Dk b s] (fun v H => ∃ a c, v = .slice a (namesOut s).length c ∧ H = [Dk b s, own a c 9 1 ((namesOut s).map strv)]) := by
  have hnm := hS.names
  refine open_dk fun y hy => ?_
  unfold dkL dkC namesOut
  simp only [nap, cap]
  refine fn_body Try.func20 rfl Try.ntmps20 rfl ?_
  intro F hF
  refine g_sr ?_
  refine Li As ?_
  refine g_ne ?_
  refine g_seq ?_
  refine g_sr ?_
  refine Li Mv ?_
  refine Li Nc ?_
  refine Li (Fa T.fld_65_7) ?_
  refine Lp (oL T.sc_4 ?_)
  refine g_ne ?_
  refine g_cond rfl ?_ ?_
  · intro hd
    replace hd := nrm hd
    rw [if_pos hd]
    refine g_sr ?_
    refine Li As ?_
    refine g_ne ?_
    refine g_ret ?_
    refine e_then_ret ?_
    refine g_nilrow 9 1 ?_
    refine Hh (H' := [pts b 65 (dkC s y), own y.fa y.fc 87 1 (y.fl.map fiP), stars (y.fl.map fiH), mq .string y.nm (mes y.es), mq .string y.sm (mes y.ss), own y.ca y.cc 84 3 (chCs s.chg), own y.pa y.pc 119 3 (ftCs s.plan), own none 0 9 1 []]) ?_
    refine g_heap (H' := [Dk b s, own none 0 9 1 []]) (fun _ x => close_dk (H := [_]) hy x) ?_
    refine Rt [Dk b s, own none 0 9 1 []] Try.results20 ?_
    exact ⟨none, 0, rfl, rfl⟩
  · intro hd
    replace hd := nrm hd
    rw [if_neg (by rw [hd]; simp)]
    refine g_skip ?_
    refine e_then ?_
    refine g_sr ?_
    refine Li Mv ?_
    refine Li Nc ?_
    refine Li (Fa T.fld_65_3) ?_
    refine Lp (oL T.sc_61 ?_)
    refine Lp (oC T.fn_52 rfl rfl (keys_fn y.nm) .nil (fun _ _ _ => trivial) ?_)
    rintro v H' ⟨bx, rfl, rfl⟩
    try simp only [nap, cap]
    refine Lp (oC T.fn_51 rfl rfl (sorted_fn bx y.nm y.es (by have := (hnm.perm hy.es).len; omega)) .nil (fun _ _ hin => ⟨hin.nth 0 rfl, hin.nth 4 rfl⟩) ?_)
    rintro v H' ⟨a, c, q, rfl, hq, rfl⟩
    try simp only [nap, cap]
    have hsq : sortL q = sortL (keysL s) := sortL_perm (hq.trans (hy.es.map _))
    have hql : q.length = (sortL q).length := (sortL_len q).symm
    rw [hql, hsq]
    refine Li As ?_
    refine g_ne ?_
    refine g_ret ?_
    refine Hh (H' := [pts b 65 (dkC s y), own y.fa y.fc 87 1 (y.fl.map fiP), stars (y.fl.map fiH), mq .string y.nm (mes y.es), mq .string y.sm (mes y.ss), own y.ca y.cc 84 3 (chCs s.chg), own y.pa y.pc 119 3 (ftCs s.plan), own a c 9 1 ((sortL (keysL s)).map strv)]) ?_
    refine g_heap (H' := [Dk b s, own a c 9 1 ((sortL (keysL s)).map strv)]) (fun _ x => close_dk (H := [_]) hy x) ?_
    refine Rt [Dk b s, own a c 9 1 ((sortL (keysL s)).map strv)] Try.results20 ?_
    exact ⟨a, c, rfl, rfl⟩
end Go.Proofs.Ytncmmhfgcgnojaa

