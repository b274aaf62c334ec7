/- The engine, part B: bags of rows; rows that are grown while the old ones are kept. -/
import Derived.Test.YtncmmhfgcgnojaaEngL
set_option maxRecDepth 100000
namespace Go.Eng
open Go
theorem stars_cons {A : HProp} {L H : List HProp} {h : Hp} (s : starL (stars (A :: L) :: H) h) : starL (A :: stars L :: H) h := by
  obtain ⟨h1, h2, d, l1, l2, ⟨h3, h4, d', l3, l4, a, s1⟩, s2⟩ := s
  refine ⟨h3, uni h4 h2, ?_, l3.trans l1, uni_le (l4.trans l1) l2, a, h4, h2, d.left l4, le_uni_left _ _, le_uni_right (d.left l4), s1, s2⟩
  exact (Disj.uni d'.symm (d.left l3).symm).symm
theorem stars_push {A : HProp} {L H : List HProp} {h : Hp} (s : starL (A :: stars L :: H) h) : starL (stars (L ++ [A]) :: H) h := by
  have s := starL_swap s
  have : starL (stars L :: ([A] ++ H)) h := s
  exact stars_fold this
theorem stars_unpush {A : HProp} {L H : List HProp} {h : Hp} (s : starL (stars (A :: L) :: H) h) : starL (A :: stars L :: H) h := stars_cons s
section
variable {P : Program} {n : Nat} {ds : List Deferred} {F : Frm} {Q : Exit → Act → World → Prop} {K : Act → World → Prop} {σ : Slots} {H : List HProp} {o : Oper} {d : Nat}
/-- the first of a bag is taken out -/
theorem g_pop {A : HProp} {L : List HProp} (h : G n ds F K σ (A :: stars L :: H)) : G n ds F K σ (stars (A :: L) :: H) := g_heap (fun _ s => stars_cons s) h
theorem g_push {A : HProp} {L : List HProp} (h : G n ds F K σ (stars (L ++ [A]) :: H)) : G n ds F K σ (A :: stars L :: H) := g_heap (fun _ s => stars_push s) h
theorem g_or {A B : HProp} (h1 : G n ds F K σ (A :: H)) (h2 : G n ds F K σ (B :: H)) : G n ds F K σ ((fun k => A k ∨ B k) :: H) := by
  refine .mk fun a w e s => ?_
  obtain ⟨a1, a2, a3, fr, hh, ⟨k1, k2, d, l1, l2, x | x, st⟩, y, z⟩ := s
  · exact h1 a w e ⟨a1, a2, a3, fr, hh, ⟨k1, k2, d, l1, l2, x, st⟩, y, z⟩
  · exact h2 a w e ⟨a1, a2, a3, fr, hh, ⟨k1, k2, d, l1, l2, x, st⟩, y, z⟩
/-- what every part of a bag tells of the heap -/
theorem stars_all {α : Type} {f : α → HProp} {X : α → Hp → Prop} (hx : ∀ a k, f a k → X a k) (hm : ∀ a k l, X a k → Le k l → X a l) : ∀ (L : List α) (h : Hp), starL (L.map f) h → ∀ a ∈ L, X a h := by
  intro L
  induction L with
  | nil => intro h _ a ha; cases ha
  | cons b r ih =>
    intro h s a ha
    obtain ⟨h1, h2, d, l1, l2, p, s2⟩ := s
    rcases List.mem_cons.1 ha with rfl | ha
    · exact hm _ _ _ (hx _ _ p) l1
    · exact hm _ _ _ (ih h2 s2 a ha) l2
theorem open_own {a : Option Addr} {cap e sz : Nat} {xs : List Value} {R : List HProp} {w : World} (s : St F (own a cap e sz xs :: R) w) :
    (a = none ∧ cap = 0 ∧ xs = []) ∨ ∃ b sp, a = some ⟨b, 0, none⟩ ∧ xs.length + sp.length = cap * sz ∧ cap ≤ maxLen ∧ St F (pts b e (xs ++ sp) :: R) w := by
  obtain ⟨a1, a2, a3, fr, h, ⟨h1, h2, dd, l1, l2, ⟨q1, q2, q3 | ⟨b, sp, rfl, q4, q5⟩⟩, st⟩, y, zz⟩ := s
  · obtain ⟨rfl, rfl⟩ := q3
    exact .inl ⟨rfl, rfl, List.eq_nil_of_length_eq_zero (by omega)⟩
  · exact .inr ⟨b, sp, rfl, q4, q2, a1, a2, a3, fr, h, ⟨h1, h2, dd, l1, l2, q5, st⟩, y, zz⟩
theorem close_own {b cap e sz : Nat} {xs sp : List Value} {R : List HProp} {w : World} (hl : xs.length + sp.length = cap * sz) (hm : cap ≤ maxLen) (s : St F (pts b e (xs ++ sp) :: R) w) : St F (own (some ⟨b, 0, none⟩) cap e sz xs :: R) w :=
  s.sub fun _ s' => starL_cons_mono (fun _ p => ⟨by omega, hm, .inr ⟨b, sp, rfl, hl, p⟩⟩) s'
theorem own_pre {a : Option Addr} {cap e sz : Nat} {xs ys : List Value} {h : Hp} (o : own a cap e sz (xs ++ ys) h) : own a cap e sz xs h := by
  have := own_less o xs.length
  rwa [List.take_left] at this
/-- a struct laid into a row -/
theorem oSON {t k' : TypeId} {x y : Operand} {a : Option Addr} {j cap e sz : Nat} {cells vs : List Value} {f : HProp → List HProp} (hs : aggSz P t = some k') (h : G n ds F K σ (f (own a cap e sz (setL cells j vs)))) (ho : o.op = .store t x y := by exact rfl) (hd : o.dst = none := by exact rfl)
    (hx : evo σ x = some (.pointer (a.map (·.add j))) := by exact rfl) (hy : evo σ y = some (.agg vs.toArray) := by exact rfl) (hk : vs.length = k' := by exact rfl) (h1 : ∀ v ∈ vs, v.oneCell' = true := by simp [setL, Value.cells, Value.oneCell', strv])
    (hu : Pos H (own a cap e sz cells) f := by repeat (first | exact Pos.here | apply Pos.there)) (hj : j + vs.length ≤ cells.length := by first | omega | (simp; omega)) (h0 : 0 < vs.length := by first | omega | (simp; done) | (simp; omega)) : G n ds F (fun a w => o.wp P a w K Q) σ H := by
  refine .mk fun ac w en s => ?_
  obtain ⟨R, s1, s2⟩ := hu.sel
  rcases open_own (s.sel s1) with ⟨rfl, rfl, rfl⟩ | ⟨b, sp, rfl, q4, q2, st⟩
  · simp only [List.length_nil] at hj; omega
  · obtain ⟨w', hr, s'⟩ := storeCells_st (P := P) vs j 0 (cells ++ sp) w st (by rw [List.length_append]; omega) h1
    unfold Oper.wp
    have : (execOp ac.eval o).run P w = .ok .skip w' := by
      simp [execOp, ho, en.eval hx, en.eval hy, Instr.storeAt, Instr.sureAddr, storeVar, (aggSz_spec hs).2, Value.cells, hk, add_lit, hr]
    rw [this, Oper.upon_skip, hd]
    refine h _ _ en (St.unsel (s2 _) (close_own (b := b) (sp := sp) ?_ q2 ?_))
    · rw [setL_length]; exact q4
    · have e : setL (cells ++ sp) j vs = setL cells j vs ++ sp := by
        rw [setL_eq (by rw [List.length_append]; omega), setL_eq hj, List.take_append_of_le_length (by omega), List.drop_append_of_le_length (by omega)]
        simp
      have s'' := s'
      simp only [Nat.add_zero] at s''
      rw [e] at s''
      exact s''
/-- an append that keeps what it grew out of -/
theorem append_keep {t t2 ty : TypeId} {e sz by' : Nat} {z : List Value} (ht : apT P t = some (e, sz, by', z)) {d2 : TypeDesc} (ht2 : P.underlying t2 = some d2) (hd2 : d2 = .string ∨ ∃ e2, d2 = .slice e2) {a : Option Addr} {len cap m : Nat} {pre ys news : List Value} {R : List HProp} {x : Value} {w : World}
    (s : St F (own a cap e sz (pre ++ ys) :: R) w) (ho : pre.length = len * sz) (hm : 0 < m) (hs : Src P F (own a cap e sz (pre ++ ys) :: R) sz m x news) (h1 : ∀ v ∈ news, v.oneCell' = true) (hb : (len + m) * by' ≤ 140737488355328) (h63 : len + m ≤ 9223372036854775807) :
    (∃ w', (Builtin.append_ #[t, t2] ty #[.slice a len cap, x]).run P w = .ok (.slice a (len + m) cap) w' ∧ len + m ≤ cap ∧ St F (own a cap e sz (pre ++ news) :: R) w') ∨
    ∃ w' a' cap', (Builtin.append_ #[t, t2] ty #[.slice a len cap, x]).run P w = .ok (.slice a' (len + m) cap') w' ∧ cap < len + m ∧ len + m ≤ cap' ∧ St F (own a' cap' e sz (pre ++ news) :: own a cap e sz (pre ++ ys) :: R) w' := by
  have hnl := (hs w s).2.2
  by_cases hroom : len + m ≤ cap
  · refine .inl ?_
    rcases open_own s with ⟨rfl, rfl, _⟩ | ⟨b, sp, rfl, q4, q2, st⟩
    · omega
    · have hs' : Src P F (pts b e ((pre ++ ys) ++ sp) :: R) sz m x news := fun w' s' => hs w' (close_own q4 q2 s')
      have h2 := Nat.mul_le_mul_right sz hroom
      obtain ⟨w', hr, st'⟩ := append_room (P := P) (ty := ty) ht ht2 hd2 (off := 0) st hs' h1 hroom (by rw [List.length_append, q4]; omega)
      refine ⟨w', hr, hroom, ?_⟩
      have he : (pre ++ ys).length + sp.length = pre.length + (ys ++ sp).length := by simp only [List.length_append]; omega
      rw [Nat.add_mul] at h2
      have hsl : pre.length + news.length ≤ pre.length + (ys ++ sp).length := by omega
      have hsplit : setL ((pre ++ ys) ++ sp) (0 + len * sz) news = (pre ++ news) ++ (ys ++ sp).drop news.length := by
        rw [Nat.zero_add, ← ho, List.append_assoc]
        have := setL_append news pre ((ys ++ sp).take news.length) ((ys ++ sp).drop news.length) (by rw [List.length_take]; omega)
        rw [List.take_append_drop] at this
        rw [this, List.append_assoc]
      rw [hsplit] at st'
      refine close_own ?_ q2 st'
      rw [List.length_append, List.length_drop]
      omega
  · refine .inr ?_
    obtain ⟨hh, ho', hle⟩ := s.get
    obtain ⟨w', b, cap', hr, hge, hcm, sp, hsp, st⟩ := append_grow (P := P) (ty := ty) (cap := cap) ht ht2 hd2 s ho ((own_rdl (own_pre ho')).mono hle) hs (by omega) hb h63
    exact ⟨w', _, cap', hr, by omega, hge, close_own hsp hcm st⟩
theorem op_append_keep {t t2 : TypeId} {e sz by' m len cap : Nat} {z pre ys news : List Value} {x y : Operand} {a : Option Addr} {v : Value} {R : List HProp} (ht : apT P t = some (e, sz, by', z)) (ht2 : notInt P t2 = true)
    (ho : o.op = .call { callee := .builtin .append, args := #[x, y], argTypes := #[t, t2] }) (hd : o.dst = some d) (hx : evo σ x = some (.slice a len cap)) (hy : evo σ y = some v)
    (hl : pre.length = len * sz) (hm : 0 < m) (hs : Src P F (own a cap e sz (pre ++ ys) :: R) sz m v news) (h1 : ∀ u ∈ news, u.oneCell' = true) (hb : (len + m) * by' ≤ 140737488355328) (h63 : len + m ≤ 9223372036854775807) (hdn : Nat.blt d n = true)
    (hin : len + m ≤ cap → G n ds F K ((d, .slice a (len + m) cap) :: σ) (own a cap e sz (pre ++ news) :: R))
    (hout : cap < len + m → ∀ a' c', len + m ≤ c' → G n ds F K ((d, .slice a' (len + m) c') :: σ) (own a' c' e sz (pre ++ news) :: own a cap e sz (pre ++ ys) :: R)) : G n ds F (fun a w => o.wp P a w K Q) σ (own a cap e sz (pre ++ ys) :: R) := by
  refine .mk fun ac w en s => ?_
  obtain ⟨d2, hd2, hd2'⟩ := notInt_spec ht2
  unfold Oper.wp
  rcases append_keep (P := P) (ty := o.type) ht hd2 hd2' s hl hm hs h1 hb h63 with ⟨w', hr, hge, st⟩ | ⟨w', a', c', hr, hlt, hge, st⟩
  · rw [run_appendOp ho, en.eval hx, en.eval hy, hr, Result.andThen_ok, Oper.upon_value, hd]
    exact hin hge _ _ (en.put hdn _) st
  · rw [run_appendOp ho, en.eval hx, en.eval hy, hr, Result.andThen_ok, Oper.upon_value, hd]
    exact hout hlt a' c' hge _ _ (en.put hdn _) st
/-- a row, and what was grown out of it: in place or in a block of its own -/
def grw (a : Option Addr) (c e sz : Nat) (pre news : List Value) (g : Option Addr) (gc : Nat) : HProp := fun h =>
  ((g = a ∧ gc = c) ∧ own a c e sz (pre ++ news) h) ∨ ∃ ys, stars [own g gc e sz (pre ++ news), own a c e sz (pre ++ ys)] h
theorem grw_start {a : Option Addr} {c e sz : Nat} {pre : List Value} {h : Hp} (o : own a c e sz pre h) : grw a c e sz pre [] a c h := .inl ⟨⟨rfl, rfl⟩, by rwa [List.append_nil]⟩
theorem grw_rd {a g : Option Addr} {c e sz gc : Nat} {pre news : List Value} {h : Hp} (o : grw a c e sz pre news g gc h) : Rdl h a pre ∧ Rdl h g (pre ++ news) := by
  rcases o with ⟨⟨rfl, rfl⟩, o⟩ | ⟨ys, h1, h2, d, l1, l2, o, h3, h4, d', l3, l4, o', _⟩
  · exact ⟨own_rdl (own_pre o), own_rdl o⟩
  · exact ⟨(own_rdl (own_pre o')).mono (l3.trans l2), (own_rdl o).mono l1⟩
theorem g_grw {a g : Option Addr} {c e sz gc : Nat} {pre news : List Value} (h1 : g = a → gc = c → G n ds F K σ (own a c e sz (pre ++ news) :: H)) (h2 : ∀ ys, G n ds F K σ (own g gc e sz (pre ++ news) :: own a c e sz (pre ++ ys) :: H)) : G n ds F K σ (grw a c e sz pre news g gc :: H) := by
  refine g_or (g_pure fun ⟨q1, q2⟩ => h1 q1 q2) (g_ex fun ys => g_stars (h2 ys))
/-- one more, at the grown one's end -/
theorem op_grow {t t2 : TypeId} {e sz by' m len gc c : Nat} {z pre news more : List Value} {x y : Operand} {a g : Option Addr} {v : Value} {R : List HProp} (ht : apT P t = some (e, sz, by', z)) (ht2 : notInt P t2 = true)
    (ho : o.op = .call { callee := .builtin .append, args := #[x, y], argTypes := #[t, t2] }) (hd : o.dst = some d) (hx : evo σ x = some (.slice g len gc)) (hy : evo σ y = some v)
    (hl : (pre ++ news).length = len * sz) (hm : 0 < m) (hs : ∀ A, Src P F (A :: R) sz m v more) (hs2 : ∀ A B, Src P F (A :: B :: R) sz m v more) (h1 : ∀ u ∈ more, u.oneCell' = true) (hb : (len + m) * by' ≤ 140737488355328) (h63 : len + m ≤ 9223372036854775807) (hdn : Nat.blt d n = true)
    (h : ∀ g' gc', G n ds F K ((d, .slice g' (len + m) gc') :: σ) (grw a c e sz pre (news ++ more) g' gc' :: R)) : G n ds F (fun a w => o.wp P a w K Q) σ (grw a c e sz pre news g gc :: R) := by
  refine g_grw ?_ ?_
  · rintro rfl rfl
    rw [← List.append_nil (pre ++ news)]
    refine op_append_keep ht ht2 ho hd hx hy hl hm (hs _) h1 hb h63 hdn (fun _ => ?_) (fun _ a' c' _ => ?_)
    · refine g_heap (fun k s => starL_cons_mono (fun _ p => .inl ⟨⟨rfl, rfl⟩, ?_⟩) s) (h g gc)
      rw [← List.append_assoc]; exact p
    · refine g_heap (fun k s => ?_) (h a' c')
      refine starL_cons_mono (A := stars [own a' c' e sz (pre ++ news ++ more), own g gc e sz (pre ++ news)]) (fun _ p => .inr ⟨news, ?_⟩) (stars_of (L := [_, _]) (by rw [List.append_nil] at s; exact s))
      rw [← List.append_assoc]; exact p
  · intro ys
    rw [← List.append_nil (pre ++ news)]
    refine op_append_keep ht ht2 ho hd hx hy hl hm (hs2 _ _) h1 hb h63 hdn (fun _ => ?_) (fun _ a' c' _ => ?_)
    · refine g_heap (fun k s => ?_) (h g gc)
      refine starL_cons_mono (A := stars [own g gc e sz (pre ++ news ++ more), own a c e sz (pre ++ ys)]) (fun _ p => .inr ⟨ys, ?_⟩) (stars_of (L := [_, _]) s)
      rw [← List.append_assoc]; exact p
    · refine g_heap (fun k s => ?_) (h a' c')
      have s' : starL (own a' c' e sz (pre ++ news ++ more) :: own a c e sz (pre ++ ys) :: R) k := starL_tail (fun _ q => by obtain ⟨_, _, _, _, l2, _, q⟩ := q; exact starL_mono q l2) s
      refine starL_cons_mono (A := stars [own a' c' e sz (pre ++ news ++ more), own a c e sz (pre ++ ys)]) (fun _ p => .inr ⟨ys, ?_⟩) (stars_of (L := [_, _]) s')
      rw [← List.append_assoc]; exact p
/-- rows that may be read -/
def rdP (L : List (Option Addr × List Value)) : HProp := fun h => ∀ p ∈ L, Rdl h p.1 p.2
theorem rdP_mono {L : List (Option Addr × List Value)} {h k : Hp} (r : rdP L h) (l : Le h k) : rdP L k := fun p hp => (r p hp).mono l
/-- by many at once, out of the row itself: what was grown before stays as it was -/
theorem op_grow_all {t t2 : TypeId} {e sz by' m len gc c : Nat} {z pre news rest : List Value} {x y : Operand} {a g : Option Addr} {v : Value} {R : List HProp} (ht : apT P t = some (e, sz, by', z)) (ht2 : notInt P t2 = true)
    (ho : o.op = .call { callee := .builtin .append, args := #[x, y], argTypes := #[t, t2] }) (hd : o.dst = some d) (hx : evo σ x = some (.slice a len c)) (hy : evo σ y = some v)
    (hl : pre.length = len * sz) (hm : 0 < m) (hs : ∀ A, Src P F (A :: R) sz m v (news ++ rest)) (hs2 : ∀ A B, Src P F (A :: B :: R) sz m v (news ++ rest)) (h1 : ∀ u ∈ news ++ rest, u.oneCell' = true) (hb : (len + m) * by' ≤ 140737488355328) (h63 : len + m ≤ 9223372036854775807) (hdn : Nat.blt d n = true)
    (h : ∀ g' gc', G n ds F K ((d, .slice g' (len + m) gc') :: σ) (rdP [(a, pre), (g, pre ++ news), (g', pre ++ (news ++ rest))] :: R)) : G n ds F (fun a w => o.wp P a w K Q) σ (grw a c e sz pre news g gc :: R) := by
  have hp3 : ∀ {k : Hp} {g' : Option Addr}, Rdl k a pre → Rdl k g (pre ++ news) → Rdl k g' (pre ++ (news ++ rest)) → rdP [(a, pre), (g, pre ++ news), (g', pre ++ (news ++ rest))] k := by
    intro k g' r1 r2 r3 p hp
    simp only [List.mem_cons, List.not_mem_nil, or_false] at hp
    rcases hp with rfl | rfl | rfl
    · exact r1
    · exact r2
    · exact r3
  have hpre : ∀ {k : Hp} {b : Option Addr}, Rdl k b (pre ++ (news ++ rest)) → Rdl k b (pre ++ news) := by
    intro k b r
    have := r.take (pre ++ news).length
    rwa [← List.append_assoc, List.take_left] at this
  refine g_grw ?_ ?_
  · rintro rfl rfl
    refine op_append_keep ht ht2 ho hd hx hy hl hm (hs _) h1 hb h63 hdn (fun _ => ?_) (fun _ a' c' _ => ?_)
    · exact g_heap (fun k s => starL_cons_mono (fun _ p => hp3 (own_rdl (own_pre p)) (hpre (own_rdl p)) (own_rdl p)) s) (h g gc)
    · refine g_heap (fun k s => ?_) (h a' c')
      exact starL_cons_mono (A := stars [own a' c' e sz (pre ++ (news ++ rest)), own g gc e sz (pre ++ news)]) (fun _ p => by
        obtain ⟨h1, h2, d, l1, l2, o1, h3, h4, d', l3, l4, o2, _⟩ := p
        exact hp3 ((own_rdl (own_pre o2)).mono (l3.trans l2)) ((own_rdl o2).mono (l3.trans l2)) ((own_rdl o1).mono l1)) (stars_of (L := [_, _]) s)
  · intro ys
    refine g_heap (fun k s => starL_swap s) ?_
    refine op_append_keep ht ht2 ho hd hx hy hl hm (hs2 _ _) h1 hb h63 hdn (fun _ => ?_) (fun _ a' c' _ => ?_)
    · refine g_heap (fun k s => ?_) (h a c)
      exact starL_cons_mono (A := stars [own a c e sz (pre ++ (news ++ rest)), own g gc e sz (pre ++ news)]) (fun _ p => by
        obtain ⟨h1, h2, d, l1, l2, o1, h3, h4, d', l3, l4, o2, _⟩ := p
        exact hp3 ((own_rdl (own_pre o1)).mono l1) ((own_rdl o2).mono (l3.trans l2)) ((own_rdl o1).mono l1)) (stars_of (L := [_, _]) s)
    · refine g_heap (fun k s => ?_) (h a' c')
      exact starL_cons_mono (A := stars [own a' c' e sz (pre ++ (news ++ rest)), own a c e sz (pre ++ ys), own g gc e sz (pre ++ news)]) (fun _ p => by
        obtain ⟨h1, h2, d, l1, l2, o1, h3, h4, d', l3, l4, o2, h5, h6, d6, l5, l6, o3, _⟩ := p
        exact hp3 ((own_rdl (own_pre o2)).mono (l3.trans l2)) ((own_rdl o3).mono (l5.trans (l4.trans l2))) ((own_rdl o1).mono l1)) (stars_of (L := [_, _, _]) s)
/-- the same, where what was grown before is looked at no more -/
theorem op_grow_new {t t2 : TypeId} {e sz by' m len gc c : Nat} {z pre news more : List Value} {x y : Operand} {a g : Option Addr} {v : Value} {R : List HProp} (ht : apT P t = some (e, sz, by', z)) (ht2 : notInt P t2 = true)
    (ho : o.op = .call { callee := .builtin .append, args := #[x, y], argTypes := #[t, t2] }) (hd : o.dst = some d) (hx : evo σ x = some (.slice a len c)) (hy : evo σ y = some v)
    (hl : pre.length = len * sz) (hm : 0 < m) (hs : ∀ A, Src P F (A :: R) sz m v more) (hs2 : ∀ A B, Src P F (A :: B :: R) sz m v more) (h1 : ∀ u ∈ more, u.oneCell' = true) (hb : (len + m) * by' ≤ 140737488355328) (h63 : len + m ≤ 9223372036854775807) (hdn : Nat.blt d n = true)
    (h : ∀ g' gc', G n ds F K ((d, .slice g' (len + m) gc') :: σ) (rdP [(a, pre), (g', pre ++ more)] :: R)) : G n ds F (fun a w => o.wp P a w K Q) σ (grw a c e sz pre news g gc :: R) := by
  have hp3 : ∀ {k : Hp} {g' : Option Addr}, Rdl k a pre → Rdl k g' (pre ++ more) → rdP [(a, pre), (g', pre ++ more)] k := by
    intro k g' r1 r3 p hp
    simp only [List.mem_cons, List.not_mem_nil, or_false] at hp
    rcases hp with rfl | rfl
    · exact r1
    · exact r3
  have hk : ∀ ys, G n ds F (fun a w => o.wp P a w K Q) σ (own a c e sz (pre ++ ys) :: R) := fun ys => by
    refine op_append_keep ht ht2 ho hd hx hy hl hm (hs _) h1 hb h63 hdn (fun _ => ?_) (fun _ a' c' _ => ?_)
    · exact g_heap (fun k s => starL_cons_mono (fun _ p => hp3 (own_rdl (own_pre p)) (own_rdl p)) s) (h a c)
    · refine g_heap (fun k s => ?_) (h a' c')
      exact starL_cons_mono (A := stars [own a' c' e sz (pre ++ more), own a c e sz (pre ++ ys)]) (fun _ p => by
        obtain ⟨h1, h2, d, l1, l2, o1, h3, h4, d', l3, l4, o2, _⟩ := p
        exact hp3 ((own_rdl (own_pre o2)).mono (l3.trans l2)) ((own_rdl o1).mono l1)) (stars_of (L := [_, _]) s)
  refine g_grw (fun _ _ => hk news) fun ys => ?_
  refine g_heap (fun k s => ?_) (hk ys)
  obtain ⟨_, _, _, _, l2, _, q⟩ := s
  exact starL_mono q l2
end
theorem zip_snoc {α β : Type} : ∀ (rs : List α) (gs : List β) (r : α) (g : β), rs[gs.length]? = some r → rs.zip (gs ++ [g]) = rs.zip gs ++ [(r, g)] := by
  intro rs gs
  induction gs generalizing rs with
  | nil =>
    intro r g h
    cases rs with
    | nil => simp at h
    | cons x t => simp at h; subst h; simp
  | cons y u ih =>
    intro r g h
    cases rs with
    | nil => simp at h
    | cons x t => simp at h; simp [ih t r g h]
theorem zip_at {α β : Type} (rs : List α) (gs : List β) (i : Nat) (r : α) (g : β) (h1 : rs[i]? = some r) (h2 : gs[i]? = some g) : (r, g) ∈ rs.zip gs :=
  List.mem_of_getElem? (i := i) (by rw [List.getElem?_zip_eq_some]; exact ⟨h1, h2⟩)
end Go.Eng
