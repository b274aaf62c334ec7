/- The engine, part 4: append, copy, make, literals. -/
import Derived.Test.YtncmmhfgcgnojaaEng3
namespace Go.Eng
open Go

/-- element, its cells, its bytes, its zero -/
def apT (P : Program) (t : TypeId) : Option (TypeId × Nat × Nat × List Value) :=
  match P.underlying t with
  | some (.slice e) => match P.info? e with
    | some i => match i.zero with
      | some z => if z.cells.size = i.size && 0 < i.size then some (e, i.size, i.bytes, z.cells.toList) else none
      | none => none
    | none => none
  | _ => none
theorem apT_spec {P : Program} {t e sz by' : Nat} {z : List Value} (h : apT P t = some (e, sz, by', z)) :
    P.underlying t = some (.slice e) ∧ 0 < sz ∧ z.length = sz ∧ ∃ i zv, P.info? e = some i ∧ i.size = sz ∧ i.bytes = by' ∧ i.zero = some zv ∧ zv.cells = z.toArray := by
  unfold apT at h
  cases hu : P.underlying t with
  | none => simp [hu] at h
  | some d =>
    cases d <;> simp [hu] at h
    rename_i e'
    cases hi : P.info? e' with
    | none => simp [hi] at h
    | some i =>
      simp only [hi] at h
      cases hz : i.zero with
      | none => simp [hz] at h
      | some zv =>
        simp only [hz] at h
        split at h
        · rename_i hc
          simp only [Bool.and_eq_true, decide_eq_true_eq, Option.some.injEq, Prod.mk.injEq] at h hc
          obtain ⟨rfl, rfl, rfl, rfl⟩ := h
          exact ⟨rfl, hc.2, by simpa using hc.1, i, zv, hi, rfl, rfl, hz, by simp⟩
        · cases h

theorem setL_append : ∀ (vs pre mid post : List Value), mid.length = vs.length → setL (pre ++ (mid ++ post)) pre.length vs = pre ++ (vs ++ post) := by
  intro vs
  induction vs with
  | nil => intro pre mid post h; have : mid = [] := List.eq_nil_of_length_eq_zero (by simpa using h); subst this; rfl
  | cons v vs ih =>
    intro pre mid post h
    cases mid with
    | nil => simp at h
    | cons m mid =>
      simp only [setL, List.cons_append]
      have h1 : (pre ++ m :: (mid ++ post)).set pre.length v = (pre ++ [v]) ++ (mid ++ post) := by
        rw [List.set_append_right _ _ (Nat.le_refl _)]; simp
      have h2 : pre.length + 1 = (pre ++ [v]).length := by simp
      rw [h1, h2, ih (pre ++ [v]) mid post (by simpa using h)]
      simp
theorem setL_eq {cs vs : List Value} {i : Nat} (h : i + vs.length ≤ cs.length) : setL cs i vs = cs.take i ++ (vs ++ cs.drop (i + vs.length)) := by
  have h1 : cs = cs.take i ++ ((cs.drop i).take vs.length ++ cs.drop (i + vs.length)) := by
    rw [← List.drop_drop, List.take_append_drop, List.take_append_drop]
  have hl : (cs.take i).length = i := by simp; omega
  have := setL_append vs (cs.take i) ((cs.drop i).take vs.length) (cs.drop (i + vs.length)) (by simp; omega)
  rw [← h1, hl] at this
  exact this

/-- what is appended or copied -/
def Src (P : Program) (F : Frm) (H : List HProp) (sz m : Nat) (x : Value) (news : List Value) : Prop :=
  ∀ w, St F H w → (Builtin.lenOf x).run P w = .ok m w ∧ (∀ j, j ≤ m → (Builtin.firstCells sz j x).run P w = .ok (news.take (j * sz)).toArray w) ∧ news.length = m * sz
theorem src_slice {P : Program} {F : Frm} {H : List HProp} {sz m c : Nat} {a : Option Addr} {news : List Value} (hl : news.length = m * sz) (hr : ∀ h, Le F.h h → InL H h → Rdl h a news) : Src P F H sz m (.slice a m c) news := by
  intro w s
  obtain ⟨hh, st, hle, _⟩ := s.own
  have r := hr (hOf w) s.frame (starL_InL st hle)
  refine ⟨by simp [Builtin.lenOf], fun j hj => ?_, hl⟩
  cases a with
  | none =>
    have : news = [] := by
      cases news with
      | nil => rfl
      | cons x y => obtain ⟨ad, h1, _⟩ := r 0 x (by simp); cases h1
    subst this; simp [Builtin.firstCells]
  | some ad =>
    refine run_firstCells_some w sz j ad m c (news.take (j * sz)) ?_ ?_
    · rw [List.length_take, hl]; exact Nat.min_eq_left (Nat.mul_le_mul_right _ hj)
    · intro i v hv
      obtain ⟨ad', h1, h2⟩ := (r.take (j * sz)) i v hv
      cases h1; exact h2
theorem src_str {P : Program} {F : Frm} {H : List HProp} (l : List UInt8) : Src P F H 1 l.length (strv l) (bcells l) := by
  intro w _
  have hsz : (ByteArray.mk l.toArray).size = l.length := by show l.toArray.size = l.length; simp
  refine ⟨by simp [Builtin.lenOf, strv, hsz], fun j hj => ?_, by simp⟩
  simp only [Builtin.firstCells, strv, Sem.run_pure]
  congr 1
  apply Array.ext'
  simp [bcells, ByteArray.data_extract]

section rules
variable {P : Program} {n : Nat} {ds : List Deferred} {F : Frm} {Q : Exit → Act → World → Prop} {K : Act → World → Prop} {σ : Slots} {H : List HProp} {o : Oper} {d : Nat}

/-- the append's run, within the room -/
theorem append_room {t t2 ty : TypeId} {e sz by' : Nat} {z : List Value} (ht : apT P t = some (e, sz, by', z)) {d2 : TypeDesc} (ht2 : P.underlying t2 = some d2) (hd2 : d2 = .string ∨ ∃ e2, d2 = .slice e2) {b off len cap m : Nat} {cs news : List Value} {R : List HProp} {x : Value} {w : World}
    (s : St F (pts b e cs :: R) w) (hs : Src P F (pts b e cs :: R) sz m x news) (h1 : ∀ v ∈ news, v.oneCell' = true) (hroom : len + m ≤ cap) (hfit : off + (len + m) * sz ≤ cs.length) :
    ∃ w', (Builtin.append_ #[t, t2] ty #[.slice (some ⟨b, off, none⟩) len cap, x]).run P w = .ok (.slice (some ⟨b, off, none⟩) (len + m) cap) w' ∧ St F (pts b e (setL cs (off + len * sz) news) :: R) w' := by
  obtain ⟨hu, hsz, hzl, i, zv, hi, hisz, hby, hz, hzc⟩ := apT_spec ht
  obtain ⟨s1, s2, s3⟩ := hs w s
  have s2' := s2 m (Nat.le_refl _)
  rw [← s3, List.take_length] at s2'
  obtain ⟨w', hr, st⟩ := storeCells_st (P := P) news (off + len * sz) 0 cs w s (by rw [s3]; rw [Nat.add_mul] at hfit; omega) h1
  refine ⟨w', ?_, by simpa using st⟩
  rcases hd2 with rfl | ⟨e2, rfl⟩ <;> simp [Builtin.append_, run_underlying hu, run_underlying ht2, sizeOf, typeInfo, hi, hisz, s1, hroom, s2', add_lit, hr]
theorem append_grow {t t2 ty : TypeId} {e sz by' : Nat} {z : List Value} (ht : apT P t = some (e, sz, by', z)) {d2 : TypeDesc} (ht2 : P.underlying t2 = some d2) (hd2 : d2 = .string ∨ ∃ e2, d2 = .slice e2) {a : Option Addr} {len cap m : Nat} {olds news : List Value} {R : List HProp} {x : Value} {w : World}
    (s : St F R w) (ho : olds.length = len * sz) (hro : Rdl (hOf w) a olds) (hs : Src P F R sz m x news) (hroom : cap < len + m) (hb : (len + m) * by' ≤ 140737488355328) (h63 : len + m ≤ 9223372036854775807) :
    ∃ w' b cap', (Builtin.append_ #[t, t2] ty #[.slice a len cap, x]).run P w = .ok (.slice (some ⟨b, 0, none⟩) (len + m) cap') w' ∧ len + m ≤ cap' ∧ cap' ≤ maxLen ∧
      ∃ sp, (olds ++ news).length + sp.length = cap' * sz ∧ St F (pts b e ((olds ++ news) ++ sp) :: R) w' := by
  obtain ⟨hu, hsz, hzl, i, zv, hi, hisz, hby, hz, hzc⟩ := apT_spec ht
  have sd : St F R w.drew := s.drew
  obtain ⟨s1, _, s3⟩ := hs w s
  obtain ⟨_, s2, _⟩ := hs w.drew sd
  have s2' := s2 m (Nat.le_refl _)
  rw [← s3, List.take_length] at s2'
  have hfit := growslice_fits hroom hb
  have hold : (Builtin.firstCells sz len (.slice a len cap)).run P w.drew = .ok olds.toArray w.drew := by
    cases a with
    | none =>
      have : olds = [] := by
        cases olds with
        | nil => rfl
        | cons x y => obtain ⟨ad, h1, _⟩ := hro 0 x (by simp); cases h1
      subst this; simp [Builtin.firstCells]
    | some ad =>
      refine run_firstCells_some w.drew sz len ad len cap olds ho ?_
      intro j v hv
      obtain ⟨ad', h1, h2⟩ := hro j v hv
      cases h1; exact h2
  have hge := grownCap_ge w (len + m) cap e
  have hle := grownCap_le_maxLen w (len + m) cap e (by simp only [maxLen]; omega)
  have hsp : ((olds ++ news)).length + (Builtin.zeroCells z.toArray (grownCap w (len + m) cap e - (len + m))).toList.length = grownCap w (len + m) cap e * sz := by
    have hz' : (Builtin.zeroCells z.toArray (grownCap w (len + m) cap e - (len + m))).toList.length = (grownCap w (len + m) cap e - (len + m)) * sz := by
      rw [Array.length_toList, size_zeroCells]; simp [hzl]
    rw [hz', List.length_append, ho, s3, ← Nat.add_mul, ← Nat.add_mul]
    congr 1; omega
  refine ⟨_, w.heap.size, grownCap w (len + m) cap e, ?_, hge, hle, (Builtin.zeroCells z.toArray (grownCap w (len + m) cap e - (len + m))).toList, hsp, sd.new e _⟩
  have hn : ¬ (len + m ≤ cap) := by omega
  have h63' : ¬ (9223372036854775807 < ((len : Int) + (m : Int))) := by omega
  have h48' : ¬ (281474976710656 < Builtin.nextslicecap (len + m) cap * by') := by omega
  have hdw : ({ w with drawn := w.drawn + 1 } : World) = w.drew := rfl
  rcases hd2 with rfl | ⟨e2, rfl⟩ <;> simp [Builtin.append_, run_underlying hu, run_underlying ht2, sizeOf, typeInfo, hi, hisz, hby, s1, hn, h63', h48', Question.forced, hdw, hold, s2', zeroValue, hz, hzc, newRow, grownCap]
  all_goals
    congr 2
    apply Array.ext'
    simp

theorem append_own {t t2 ty : TypeId} {e sz by' : Nat} {z : List Value} (ht : apT P t = some (e, sz, by', z)) {d2 : TypeDesc} (ht2 : P.underlying t2 = some d2) (hd2 : d2 = .string ∨ ∃ e2, d2 = .slice e2) {a : Option Addr} {len cap m : Nat} {xs news : List Value} {R : List HProp} {x : Value} {w : World}
    (s : St F (own a cap e sz xs :: R) w) (ho : xs.length = len * sz) (hs : Src P F (own a cap e sz xs :: R) sz m x news) (h1 : ∀ v ∈ news, v.oneCell' = true) (hb : (len + m) * by' ≤ 140737488355328) (h63 : len + m ≤ 9223372036854775807) :
    ∃ w' a' cap', (Builtin.append_ #[t, t2] ty #[.slice a len cap, x]).run P w = .ok (.slice a' (len + m) cap') w' ∧ len + m ≤ cap' ∧ St F (own a' cap' e sz (xs ++ news) :: R) w' := by
  obtain ⟨hu, hsz, hzl, i, zv, hi, hisz, hby, hz, hzc⟩ := apT_spec ht
  have hnl := (hs w s).2.2
  by_cases hroom : len + m ≤ cap
  · obtain ⟨hh, ho', hle⟩ := s.get
    obtain ⟨q1, q2, q3 | ⟨b, sp, rfl, q4, q5⟩⟩ := ho'
    · obtain ⟨rfl, rfl⟩ := q3
      have hl0 : len = 0 := by omega
      have hm0 : m = 0 := by omega
      subst hl0; subst hm0
      have hx : xs = [] := List.eq_nil_of_length_eq_zero (by simpa using ho)
      have hn : news = [] := List.eq_nil_of_length_eq_zero (by simpa using hnl)
      subst hx; subst hn
      obtain ⟨s1, s2, _⟩ := hs w s
      have s2' := s2 0 (Nat.le_refl _)
      refine ⟨w, none, 0, ?_, by omega, (by simpa using s)⟩
      simp at s2'
      rcases hd2 with rfl | ⟨e2, rfl⟩ <;> simp [Builtin.append_, run_underlying hu, run_underlying ht2, sizeOf, typeInfo, hi, hisz, s1, s2']
    · -- in place: the block is known
      have hpt : St F (pts b e (xs ++ sp) :: R) w := by
        obtain ⟨a1, a2, a3, fr, h, ⟨h1', h2', dd, l1, l2, hown, st⟩, y, zz⟩ := s
        obtain ⟨_, _, q3' | ⟨b', sp', e', q4', q6⟩⟩ := hown
        · exact absurd q3'.1 (by simp)
        · simp only [Option.some.injEq, Addr.mk.injEq, and_true] at e'
          subst e'
          have h6 := l1.trans y
          obtain ⟨lo, hi', hf, hb5⟩ := q6
          have hw1 := h6 _ _ hb5
          obtain ⟨lo2, hi2, hf2, hb6⟩ := q5
          have hw2 := hle _ _ hb6
          rw [hw1] at hw2
          simp only [Option.some.injEq, Obj.cells.injEq, List.toArray_eq_iff] at hw2
          have hsp : sp' = sp := by
            have := hw2.1
            simpa using this
          subst hsp
          exact ⟨a1, a2, a3, fr, h, ⟨h1', h2', dd, l1, l2, ⟨lo, hi', hf, hb5⟩, st⟩, y, zz⟩
      have hs' : Src P F (pts b e (xs ++ sp) :: R) sz m x news := fun w' s' => hs w' (s'.sub fun h st => starL_cons_mono (fun h' p => ⟨by omega, q2, .inr ⟨b, sp, rfl, q4, p⟩⟩) st)
      obtain ⟨w', hr, st⟩ := append_room (P := P) (ty := ty) ht ht2 hd2 (off := 0) hpt hs' h1 hroom (by rw [List.length_append, q4]; simpa using Nat.mul_le_mul_right sz hroom)
      refine ⟨w', _, cap, hr, hroom, ?_⟩
      have hsplit : setL (xs ++ sp) (0 + len * sz) news = (xs ++ news) ++ sp.drop news.length := by
        rw [Nat.zero_add, ← ho]
        have hsl : news.length ≤ sp.length := by
          have h2 := Nat.mul_le_mul_right sz hroom
          rw [Nat.add_mul] at h2
          omega
        have := setL_append news xs (sp.take news.length) (sp.drop news.length) (by simp; omega)
        rw [List.take_append_drop] at this
        rw [this, List.append_assoc]
      rw [hsplit] at st
      refine st.sub fun h s' => starL_cons_mono (fun h' p => ⟨?_, q2, .inr ⟨b, _, rfl, ?_, p⟩⟩) s'
      · rw [List.length_append, ho, hnl, ← Nat.add_mul]; exact Nat.mul_le_mul_right _ hroom
      · have h2 := Nat.mul_le_mul_right sz hroom
        rw [Nat.add_mul] at h2
        simp only [List.length_append, List.length_drop]
        omega
  · obtain ⟨hh, ho', hle⟩ := s.get
    obtain ⟨w', b, cap', hr, hge, hcm, sp, hsp, st⟩ := append_grow (P := P) (ty := ty) (cap := cap) ht ht2 hd2 s ho ((own_rdl ho').mono hle) hs (by omega) hb h63
    refine ⟨w', _, cap', hr, hge, ?_⟩
    have st2 := (st.sub fun _ s' => starL_swap s').drop
    refine st2.sub fun h s' => starL_cons_mono (fun h' p => ⟨?_, hcm, .inr ⟨b, sp, rfl, hsp, p⟩⟩) s'
    omega

def notInt (P : Program) (t : TypeId) : Bool := match P.underlying t with | some (.slice _) => true | some .string => true | _ => false
theorem notInt_spec {t : TypeId} (h : notInt P t = true) : ∃ d, P.underlying t = some d ∧ (d = .string ∨ ∃ e2, d = .slice e2) := by
  unfold notInt at h
  cases hu : P.underlying t with
  | none => simp [hu] at h
  | some d => rw [hu] at h; cases d <;> simp at h <;> exact ⟨_, rfl, by simp⟩
theorem run_appendOp {ρ : Operand → Value} {x y : Operand} {t t2 : TypeId} {w : World} (ho : o.op = .call { callee := .builtin .append, args := #[x, y], argTypes := #[t, t2] }) :
    (execOp ρ o).run P w = ((Builtin.append_ #[t, t2] o.type #[ρ x, ρ y]).run P w).andThen fun v w' => .ok (.value v) w' := by
  simp [execOp, ho, resolve, invoke, builtin]
theorem op_append {t t2 : TypeId} {e sz by' m len cap : Nat} {z xs news : List Value} {x y : Operand} {a : Option Addr} {v : Value} {f : HProp → List HProp} (ht : apT P t = some (e, sz, by', z)) (ht2 : notInt P t2 = true)
    (ho : o.op = .call { callee := .builtin .append, args := #[x, y], argTypes := #[t, t2] }) (hd : o.dst = some d) (hx : evo σ x = some (.slice a len cap)) (hy : evo σ y = some v)
    (hu : Pos H (own a cap e sz xs) f) (hl : xs.length = len * sz) (hs : Src P F H sz m v news) (h1 : ∀ u ∈ news, u.oneCell' = true) (hb : (len + m) * by' ≤ 140737488355328) (h63 : len + m ≤ 9223372036854775807) (hdn : Nat.blt d n = true)
    (h : ∀ a' c', len + m ≤ c' → G n ds F K ((d, .slice a' (len + m) c') :: σ) (f (own a' c' e sz (xs ++ news)))) : G n ds F (fun a w => o.wp P a w K Q) σ H := by
  refine .mk fun ac w en s => ?_
  obtain ⟨d2, hd2, hd2'⟩ := notInt_spec ht2
  obtain ⟨R, sel, back⟩ := hu.sel
  obtain ⟨w', a', c', hr, hge, st⟩ := append_own (P := P) (ty := o.type) ht hd2 hd2' (s.sel sel) hl (fun w' s' => hs w' (s'.unsel sel)) h1 hb h63
  unfold Oper.wp
  rw [run_appendOp ho, en.eval hx, en.eval hy, hr, Result.andThen_ok, Oper.upon_value, hd]
  exact h a' c' hge _ _ (en.put hdn _) (st.unsel (back _))
/-- the same with a literal behind it, whose block goes out of sight -/
theorem op_append_lit {t t2 : TypeId} {e sz by' m len cap b : Nat} {z xs news : List Value} {x y : Operand} {a : Option Addr} {c : Nat} {e2 : TypeId} {f : HProp → List HProp} (ht : apT P t = some (e, sz, by', z)) (ht2 : notInt P t2 = true)
    (ho : o.op = .call { callee := .builtin .append, args := #[x, y], argTypes := #[t, t2] }) (hd : o.dst = some d) (hx : evo σ x = some (.slice a len cap)) (hy : evo σ y = some (.slice (some ⟨b, 0, none⟩) m c))
    (hu : Pos H (own a cap e sz xs) f) (hl : xs.length = len * sz) (hm : news.length = m * sz) (h1 : ∀ u ∈ news, u.oneCell' = true) (hb : (len + m) * by' ≤ 140737488355328) (h63 : len + m ≤ 9223372036854775807) (hdn : Nat.blt d n = true)
    (h : ∀ a' c', len + m ≤ c' → G n ds F K ((d, .slice a' (len + m) c') :: σ) (f (own a' c' e sz (xs ++ news)))) : G n ds F (fun a w => o.wp P a w K Q) σ (pts b e2 news :: H) := by
  refine op_append ht ht2 ho hd hx hy (.there hu) hl (src_slice hm ?_) h1 hb h63 hdn ?_
  · intro hh _ il
    obtain ⟨⟨k, pk, lk⟩, _⟩ := il
    exact (pts_rdl (i := 0) pk).mono lk
  · intro a' c' hc
    exact g_heap (fun _ s => by obtain ⟨_, _, _, _, l2, _, s⟩ := s; exact starL_mono s l2) (h a' c' hc)

/-- a literal slice -/
def fillL (pl : Nat → Option (Nat × Nat)) : List Value → List (Nat × Value) → Option (List Value)
  | cells, [] => some cells
  | cells, (i, v) :: rest =>
    match pl i with
    | none => none
    | some (off, size) => if v.cells.size = size ∧ off + size ≤ cells.length then fillL pl (setL cells off v.cells.toList) rest else none
theorem setL_foldl : ∀ (vs : List Value) (cs : List Value) (off k : Nat),
    ((vs.zipIdx k).foldl (fun (c : Array Value) (p : Value × Nat) => c.setIfInBounds (off + p.2) p.1) cs.toArray) = (setL cs (off + k) vs).toArray := by
  intro vs
  induction vs with
  | nil => intro cs off k; rfl
  | cons v vs ih =>
    intro cs off k
    simp only [List.zipIdx_cons, List.foldl_cons, setL]
    have := ih (cs.set (off + k) v) off (k + 1)
    rw [← Nat.add_assoc] at this
    rw [← this]
    simp
theorem fill_eq (pl : Nat → Option (Nat × Nat)) : ∀ (parts : List (Nat × Value)) (cells : List Value) (r : List Value), fillL pl cells parts = some r → Instr.fill pl cells.toArray parts = some r.toArray := by
  intro parts
  induction parts with
  | nil => intro cells r h; simp [fillL] at h; simp [Instr.fill, h]
  | cons p rest ih =>
    intro cells r h
    obtain ⟨i, v⟩ := p
    simp only [fillL] at h
    cases hp : pl i with
    | none => simp [hp] at h
    | some q =>
      obtain ⟨off, size⟩ := q
      simp only [hp] at h
      split at h
      · rename_i hc
        have := ih _ _ h
        simp only [Instr.fill, hp]
        rw [if_neg (by simp only [List.size_toArray, ne_eq, decide_not, Bool.or_eq_true, Bool.not_eq_true', decide_eq_false_iff_not, decide_eq_true_eq]; omega)]
        have h2 := setL_foldl v.cells.toList cells off 0
        rw [Nat.add_zero] at h2
        rw [← this, ← h2, ← Array.foldl_toList]
        simp
      · cases h
def zrep (z : List Value) (k : Nat) : List Value := (List.range k).map fun i => (z[i % z.length]?).getD undef
theorem zrep_one (v : Value) (k : Nat) : zrep [v] k = List.replicate k v := by
  apply List.ext_getElem
  · simp [zrep]
  · intro i h1 h2; simp [zrep, Nat.mod_one]
theorem zrep_length (z : List Value) (k : Nat) : (zrep z k).length = k := by simp [zrep]
theorem zrep_eq {z : List Value} (hz : 0 < z.length) (k : Nat) : (Array.range k).map (fun i => (z.toArray)[i % z.toArray.size]!) = (zrep z k).toArray := by
  apply Array.ext'
  simp only [Array.toList_map, Array.toList_range, zrep]
  apply List.map_congr_left
  intro i _
  have : i % z.length < z.length := Nat.mod_lt _ hz
  simp [this]
theorem evo_parts {a : Act} (en : Env n ds σ a) {parts : List (Nat × Operand)} {vs : List Value} (h : evos σ (parts.map (·.2)) = some vs) : (parts.map fun p => (p.1, a.eval p.2)) = (parts.map (·.1)).zip vs := by
  have := en.evals h
  rw [← this]
  clear h this
  induction parts with
  | nil => rfl
  | cons p r ih => simp only [List.map_cons, List.zip_cons_cons, ih]
theorem op_lit {t : TypeId} {e sz by' len : Nat} {z vs cs : List Value} {parts : List (Nat × Operand)} (ht : apT P t = some (e, sz, by', z)) (ho : o.op = .buildSlice t len parts.toArray) (hd : o.dst = some d) (hv : evos σ (parts.map (·.2)) = some vs)
    (hk : Nat.ble (len * sz) 16777216 = true) (hc : fillL (fun i => some (i * sz, sz)) (zrep z (len * sz)) ((parts.map (·.1)).zip vs) = some cs) (hdn : Nat.blt d n = true)
    (h : ∀ b, G n ds F K ((d, .slice (some ⟨b, 0, none⟩) len len) :: σ) (pts b e cs :: H)) : G n ds F (fun a w => o.wp P a w K Q) σ H := by
  refine .mk fun ac w en s => ?_
  obtain ⟨hu, hsz, hzl, i, zv, hi, hisz, hby, hz, hzc⟩ := apT_spec ht
  have hp := evo_parts en hv
  have hk' : ¬ (2 ^ 24 < len * sz) := by have := Nat.le_of_ble_eq_true hk; omega
  have hz0 : 0 < z.length := by omega
  have hcells : (if len * sz = 0 then (pure #[] : Sem (Array Value)) else do pure (← zeroValue e).cells).run P w = .ok (if len * sz = 0 then #[] else z.toArray) w := by
    split <;> simp [zeroValue, typeInfo, hi, hz, hzc]
  have hrow : (Array.range (len * sz)).map (fun j => (if len * sz = 0 then (#[] : Array Value) else z.toArray)[j % (if len * sz = 0 then (#[] : Array Value) else z.toArray).size]!) = (zrep z (len * sz)).toArray := by
    by_cases h0 : len * sz = 0
    · simp [h0, zrep]
    · simp only [h0, if_false]; exact zrep_eq hz0 _
  unfold Oper.wp
  have : (execOp ac.eval o).run P w = .ok (.value (.slice (some ⟨w.heap.size, 0, none⟩) len len)) (w.alloc (.cells cs.toArray e)) := by
    have hfill := fill_eq _ _ _ _ hc
    rw [← hp] at hfill
    by_cases h0 : len * sz = 0
    · simp only [h0, if_true] at hrow
      rw [h0] at hfill
      have hrow' : (Array.range 0).map (fun _ => (default : Value)) = (zrep z 0).toArray := by simp [zrep]
      simp [execOp, ho, Instr.buildSlice, run_underlying hu, sizeOf, typeInfo, hi, hisz, h0, hrow', hfill, newRow]
    · simp only [h0, if_false] at hrow
      simp [execOp, ho, Instr.buildSlice, run_underlying hu, sizeOf, typeInfo, zeroValue, hi, hisz, h0, hk', hz, hzc]
      rw [show (Array.range (len * sz)).map (fun x => (z[x % z.length]?).getD default) = (zrep z (len * sz)).toArray from by simpa using hrow, hfill]
      simp [newRow]
  rw [this, Oper.upon_value, hd]
  exact h _ _ _ (en.put hdn _) (s.new e cs)

theorem fillL_flat {sz : Nat} : ∀ (vs : List Value) (k : Nat) (pre post : List Value), (∀ v ∈ vs, v.cells.size = sz) → post.length = vs.length * sz → pre.length = k * sz →
    fillL (fun i => some (i * sz, sz)) (pre ++ post) ((List.range' k vs.length).zip vs) = some (pre ++ vs.flatMap fun v => v.cells.toList) := by
  intro vs
  induction vs with
  | nil => intro k pre post _ hp _; have : post = [] := List.eq_nil_of_length_eq_zero (by simpa using hp); subst this; simp [fillL]
  | cons v r ih =>
    intro k pre post hv hp hk
    have hv1 := hv v (by simp)
    have hpl : sz ≤ post.length := by rw [hp, List.length_cons, Nat.add_mul]; omega
    simp only [List.length_cons, List.range'_succ, List.zip_cons_cons, fillL]
    rw [if_pos ⟨hv1, by rw [List.length_append]; omega⟩]
    have h1 := setL_append v.cells.toList pre (post.take sz) (post.drop sz) (by simp [hv1]; omega)
    rw [List.take_append_drop, hk] at h1
    rw [h1, ← List.append_assoc, ih (k + 1) (pre ++ v.cells.toList) (post.drop sz) (fun u hu => hv u (by simp [hu])) (by simp only [List.length_drop, hp, List.length_cons, Nat.add_mul]; omega) (by simp [hk, hv1, Nat.add_mul])]
    simp
theorem op_litF {t : TypeId} {e sz by' len : Nat} {z vs cs : List Value} {parts : List (Nat × Operand)} (ht : apT P t = some (e, sz, by', z)) (ho : o.op = .buildSlice t len parts.toArray) (hd : o.dst = some d) (hv : evos σ (parts.map (·.2)) = some vs)
    (hk : Nat.ble (len * sz) 16777216 = true) (hi : parts.map (·.1) = List.range' 0 vs.length) (hlen : vs.length = len) (hsz : ∀ v ∈ vs, v.cells.size = sz) (hc : (vs.flatMap fun v => v.cells.toList) = cs) (hdn : Nat.blt d n = true)
    (h : ∀ b, G n ds F K ((d, .slice (some ⟨b, 0, none⟩) len len) :: σ) (pts b e cs :: H)) : G n ds F (fun a w => o.wp P a w K Q) σ H := by
  refine op_lit ht ho hd hv hk ?_ hdn h
  have := fillL_flat vs 0 [] (zrep z (len * sz)) hsz (by rw [zrep_length, hlen]) (by simp)
  rw [hi]
  simpa [hc] using this
/-- a literal of values of one cell each -/
theorem op_litS {t : TypeId} {e by' len : Nat} {z vs : List Value} {parts : List (Nat × Operand)} (ht : apT P t = some (e, 1, by', z)) (ho : o.op = .buildSlice t len parts.toArray) (hd : o.dst = some d) (hv : evos σ (parts.map (·.2)) = some vs)
    (hk : Nat.ble (len * 1) 16777216 = true) (hi : parts.map (·.1) = List.range' 0 vs.length) (hlen : vs.length = len) (h1 : ∀ v ∈ vs, v.oneCell' = true) (hdn : Nat.blt d n = true)
    (h : ∀ b, G n ds F K ((d, .slice (some ⟨b, 0, none⟩) len len) :: σ) (pts b e vs :: H)) : G n ds F (fun a w => o.wp P a w K Q) σ H := by
  have hcell : ∀ v : Value, v.oneCell' = true → v.cells = #[v] := fun v hv => by cases v <;> simp [Value.oneCell'] at hv <;> rfl
  refine op_litF ht ho hd hv hk hi hlen (fun v hv => by rw [hcell v (h1 v hv)]; rfl) ?_ hdn h
  clear hv hi hlen h
  induction vs with
  | nil => rfl
  | cons v r ih => rw [List.flatMap_cons, hcell v (h1 v (by simp)), ih (fun u hu => h1 u (by simp [hu]))]; rfl
/-- a literal of one struct -/
theorem op_litA {t : TypeId} {e sz by' : Nat} {z cs : List Value} {x : Operand} (ht : apT P t = some (e, sz, by', z)) (ho : o.op = .buildSlice t 1 #[(0, x)]) (hd : o.dst = some d) (hx : evo σ x = some (.agg cs.toArray))
    (hl : cs.length = sz) (hk : Nat.ble (1 * sz) 16777216 = true) (hdn : Nat.blt d n = true)
    (h : ∀ b, G n ds F K ((d, .slice (some ⟨b, 0, none⟩) 1 1) :: σ) (pts b e cs :: H)) : G n ds F (fun a w => o.wp P a w K Q) σ H :=
  op_litF (parts := [(0, x)]) (vs := [.agg cs.toArray]) ht ho hd (by simp [evos, hx]) hk rfl rfl (by simp [Value.cells, hl]) (by simp [Value.cells]) hdn h

/-- a literal struct -/
def stPl (P : Program) (t : TypeId) : Option (List (Nat × Nat)) :=
  match P.underlying t with
  | some (.struct fs) => fs.toList.mapM fun f => (P.info? f.type).map fun i => (f.offset, i.size)
  | _ => none
theorem mapM_places {fs : List Field} {pl : List (Nat × Nat)} (h : (fs.mapM fun f => (P.info? f.type).map fun i => (f.offset, i.size)) = some pl) (w : World) :
    (fs.mapM fun f => Prod.mk f.offset <$> sizeOf f.type : Sem (List (Nat × Nat))).run P w = .ok pl w := by
  induction fs generalizing pl with
  | nil => simp at h; simp [h]
  | cons f r ih =>
    simp only [List.mapM_cons] at h ⊢
    cases hi : P.info? f.type with
    | none => simp [hi] at h
    | some i =>
      simp only [hi, Option.map_some, Option.bind_eq_bind, Option.bind_some] at h
      cases hr : (r.mapM fun f => (P.info? f.type).map fun i => (f.offset, i.size)) with
      | none => simp [hr] at h
      | some pl' =>
        simp [hr] at h
        have := ih hr
        simp [sizeOf, typeInfo, hi] at this ⊢
        simp [this, ← h]
theorem y_build {t : TypeId} {pl : List (Nat × Nat)} {zs vs cs : List Value} {parts : List (Nat × Operand)} (hz : zeroCs P t = some zs) (hpl : stPl P t = some pl) (ho : o.op = .build t parts.toArray) (hv : evos σ (parts.map (·.2)) = some vs)
    (hc : fillL (fun i => pl[i]?) zs ((parts.map (·.1)).zip vs) = some cs) : Yv P n ds F σ o (.agg cs.toArray) :=
  fun ac w en fr => by
    have hp := evo_parts en hv
    obtain ⟨zv, hzr, hzc⟩ := zeroCs_spec hz (w := w)
    unfold stPl at hpl
    cases hu : P.underlying t with
    | none => simp [hu] at hpl
    | some dsc =>
      cases dsc <;> simp [hu] at hpl
      rename_i fs
      have hm := mapM_places (P := P) (by simpa using hpl) w
      have hfill := fill_eq _ _ _ _ hc
      rw [← hp] at hfill
      have hm' : (fs.mapM fun f => Prod.mk f.offset <$> sizeOf f.type : Sem (Array (Nat × Nat))).run P w = .ok pl.toArray w := by
        rw [← Array.toArray_toList (xs := fs), List.mapM_toArray]
        simp [hm]
      simp [execOp, ho, Instr.build, hzr, run_underlying hu, hm', hzc, hfill]
/-- make([]T, l, c) -/
theorem op_make {t : TypeId} {e sz by' : Nat} {z : List Value} {x y : Operand} {k k' : IntKind} {i j : Int} {l c : Nat} (ht : apT P t = some (e, sz, by', z)) (ho : o.op = .makeSlice t x y) (hd : o.dst = some d) (hx : evo σ x = some (.int k i)) (hy : evo σ y = some (.int k' j))
    (hi' : i = (l : Int)) (hj : j = (c : Int)) (hlc : l ≤ c) (hc : c * by' ≤ 281474976710656) (hc2 : c ≤ 9223372036854775807) (hdn : Nat.blt d n = true)
    (h : ∀ b, G n ds F K ((d, .slice (some ⟨b, 0, none⟩) l c) :: σ) (pts b e (zrep z (c * sz)) :: H)) : G n ds F (fun a w => o.wp P a w K Q) σ H := by
  refine .mk fun ac w en s => ?_
  obtain ⟨hu, hsz, hzl, inf, zv, hi, hisz, hby, hz, hzc⟩ := apT_spec ht
  subst hi'; subst hj
  have hz0 : 0 < z.length := by omega
  have hwl : IntKind.i64.wrap (l : Int) = l := wrap_i64 (by omega)
  have hwc : IntKind.i64.wrap (c : Int) = c := wrap_i64 (by omega)
  have hbig : ¬ ((281474976710656 : Int) < (by' : Int) * (c : Int)) := by
    have : (by' : Int) * (c : Int) = ((c * by' : Nat) : Int) := by push_cast; rw [Int.mul_comm]
    omega
  have hrow : (Array.range (c * sz)).map (fun j => (if c * sz = 0 then (#[] : Array Value) else z.toArray)[j % (if c * sz = 0 then (#[] : Array Value) else z.toArray).size]!) = (zrep z (c * sz)).toArray := by
    by_cases h0 : c * sz = 0
    · simp [h0, zrep]
    · simp only [h0, if_false]; exact zrep_eq hz0 _
  have hcells : (if c * sz = 0 then (pure #[] : Sem (Array Value)) else do pure (← zeroValue e).cells).run P w = .ok (if c * sz = 0 then #[] else z.toArray) w := by
    split <;> simp [zeroValue, typeInfo, hi, hz, hzc]
  unfold Oper.wp
  have : (execOp ac.eval o).run P w = .ok (.value (.slice (some ⟨w.heap.size, 0, none⟩) l c)) (w.alloc (.cells (zrep z (c * sz)).toArray e)) := by
    have hcond : (decide ((c : Int) < 0) || decide ((by' : Int) * (c : Int) > 2 ^ 48) || decide ((l : Int) < 0) || decide ((l : Int) > (c : Int))) = false := by
      simp only [Bool.or_eq_false_iff, decide_eq_false_iff_not]
      refine ⟨⟨⟨by omega, ?_⟩, by omega⟩, by omega⟩
      have : (2 : Int) ^ 48 = 281474976710656 := by decide
      rw [this]; exact hbig
    simp only [execOp, ho, Instr.makeSlice, Sem.run_bind, run_underlying hu, Result.andThen_ok, sizeOf, typeInfo, run_program, hi, Sem.run_pure, hisz, hby, en.eval hx, en.eval hy, asInt, asIntOf, hwl, hwc]
    simp only [hcond, Bool.false_eq_true, if_false, Sem.run_bind, Sem.run_pure, run_askRoom, Result.andThen_ok, Int.toNat_natCast]
    by_cases h0 : c * sz = 0
    · simp only [h0, if_true] at hrow
      have hrow' : (Array.range 0).map (fun _ => (default : Value)) = (zrep z 0).toArray := by simp [zrep]
      simp [hi, hisz, h0, newRow, hrow']
    · simp only [h0, if_false] at hrow
      simp [hi, hisz, h0, zeroValue, typeInfo, hz, hzc, newRow]
      rw [show (Array.range (c * sz)).map (fun x => (z[x % z.length]?).getD default) = (zrep z (c * sz)).toArray from by simpa using hrow]
  rw [this, Oper.upon_value, hd]
  exact h _ _ _ (en.put hdn _) (s.new e _)

/-- copy(dst, src), dst in a block of one's own -/
theorem op_copy {t t2 : TypeId} {e sz by' m dl dc b off : Nat} {z cs news : List Value} {x y : Operand} {v : Value} {e2 : TypeId} {f : HProp → List HProp} (ht : apT P t = some (e, sz, by', z)) (ho : o.op = .call { callee := .builtin .copy, args := #[x, y], argTypes := #[t, t2] }) (hd : o.dst = some d)
    (hx : evo σ x = some (.slice (some ⟨b, off, none⟩) dl dc)) (hy : evo σ y = some v) (hu : Pos H (pts b e2 cs) f) (hs : Src P F H sz m v news) (h1 : ∀ u ∈ news, u.oneCell' = true) (hfit : off + dl * sz ≤ cs.length) (hdn : Nat.blt d n = true)
    (h : G n ds F K ((d, .int .i64 ((min m dl : Nat) : Int)) :: σ) (f (pts b e2 (setL cs off (news.take (min m dl * sz)))))) : G n ds F (fun a w => o.wp P a w K Q) σ H := by
  refine .mk fun ac w en s => ?_
  obtain ⟨hut, hsz, hzl, inf, zv, hi, hisz, hby, hz, hzc⟩ := apT_spec ht
  obtain ⟨s1, s2, s3⟩ := hs w s
  obtain ⟨R, sel, back⟩ := hu.sel
  have hlen : (news.take (min m dl * sz)).length = min m dl * sz := by
    rw [List.length_take, s3]; exact Nat.min_eq_left (Nat.mul_le_mul_right _ (Nat.min_le_left _ _))
  obtain ⟨w', hr, st⟩ := storeCells_st (P := P) (news.take (min m dl * sz)) off 0 cs w (s.sel sel) (by rw [hlen]; have := Nat.mul_le_mul_right sz (Nat.min_le_right m dl); omega) (fun u hu => h1 u (List.mem_of_mem_take hu))
  unfold Oper.wp
  have : (execOp ac.eval o).run P w = .ok (.value (.int .i64 ((min m dl : Nat) : Int))) w' := by
    have hmin : Nat.min m dl = min m dl := rfl
    simp [execOp, ho, resolve, invoke, builtin, Builtin.copy_, en.eval hx, en.eval hy, run_underlying hut, sizeOf, typeInfo, hi, hisz, s1, hmin, s2 _ (Nat.min_le_left m dl), hr, goInt]
  rw [this, Oper.upon_value, hd]
  exact h _ _ (en.put hdn _) (by simpa using st.unsel (back _))
end rules
end Go.Eng
