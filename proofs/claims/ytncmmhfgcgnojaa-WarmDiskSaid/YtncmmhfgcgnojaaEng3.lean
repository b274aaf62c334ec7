/- The engine, part 3: slices and text: reading, cutting, appending, copying, making. -/
import Derived.Test.YtncmmhfgcgnojaaEng2
namespace Go.Eng
open Go

/-- what stands behind an address, cell by cell -/
def Rdl (h : Hp) (a : Option Addr) (cells : List Value) : Prop := ∀ k v, cells[k]? = some v → ∃ ad, a = some ad ∧ hcell h (ad.add k) = some v
theorem Rdl.nil {h : Hp} {a : Option Addr} : Rdl h a [] := fun k v e => by simp at e
theorem Rdl.mono {h k : Hp} {a : Option Addr} {cells : List Value} (r : Rdl h a cells) (l : Le h k) : Rdl k a cells := fun j v e => by
  obtain ⟨ad, h1, h2⟩ := r j v e; exact ⟨ad, h1, hcell_mono l h2⟩
theorem Rdl.some {h : Hp} {a : Option Addr} {cells : List Value} (r : Rdl h a cells) (hne : 0 < cells.length) : a.isSome = true := by
  obtain ⟨ad, h1, _⟩ := r 0 _ (List.getElem?_eq_getElem hne); simp [h1]
theorem Rdl.take {h : Hp} {a : Option Addr} {cells : List Value} (r : Rdl h a cells) (k : Nat) : Rdl h a (cells.take k) := fun j v e => by
  rw [List.getElem?_take] at e
  split at e
  · exact r j v e
  · cases e
theorem Rdl.drop {h : Hp} {a : Option Addr} {cells : List Value} (r : Rdl h a cells) (k : Nat) : Rdl h (a.map (·.add k)) (cells.drop k) := fun j v e => by
  rw [List.getElem?_drop] at e
  obtain ⟨ad, h1, h2⟩ := r _ v e
  exact ⟨ad.add k, by simp [h1], by rw [add_add]; exact h2⟩
/-- the address of a piece -/
def cutA (a : Option Addr) (l m k : Nat) : Option Addr := if m = l then a else a.map (·.add k)
theorem Rdl.cut {h : Hp} {a : Option Addr} {cells : List Value} (r : Rdl h a cells) (l m k j : Nat) (hm : m = l → j = 0) : Rdl h (cutA a l m k) ((cells.drop k).take j) := by
  unfold cutA
  split
  · rename_i e; rw [hm e]; simp; exact Rdl.nil
  · exact (r.drop k).take j

/-- a row of one's own -/
structure own (a : Option Addr) (cap : Nat) (e : TypeId) (sz : Nat) (xs : List Value) (h : Hp) : Prop where
  fits : xs.length ≤ cap * sz
  most : cap ≤ maxLen
  block : (a = none ∧ cap = 0) ∨ ∃ b spare, a = some ⟨b, 0, none⟩ ∧ xs.length + spare.length = cap * sz ∧ pts b e (xs ++ spare) h
theorem pts_rdl {b i : Nat} {e : TypeId} {cs : List Value} {h : Hp} (p : pts b e cs h) : Rdl h (some ⟨b, i, none⟩) (cs.drop i) := fun k v hv => by
  rw [List.getElem?_drop] at hv
  exact ⟨_, rfl, by rw [add_lit]; exact pts_cell p hv⟩
theorem own_rdl {a : Option Addr} {cap : Nat} {e : TypeId} {sz : Nat} {xs : List Value} {h : Hp} (o : own a cap e sz xs h) : Rdl h a xs := by
  obtain ⟨h1, _, h3 | ⟨b, sp, rfl, _, h5⟩⟩ := o
  · obtain ⟨rfl, rfl⟩ := h3
    have : xs = [] := List.eq_nil_of_length_eq_zero (by omega)
    subst this; exact Rdl.nil
  · intro k v hv
    refine ⟨_, rfl, ?_⟩
    rw [add_lit, Nat.zero_add]
    exact pts_cell h5 (by rw [List.getElem?_append_left (by have := (List.getElem?_eq_some_iff.1 hv).1; exact this)]; exact hv)
theorem own_nil (e : TypeId) (sz : Nat) (h : Hp) : own none 0 e sz [] h := ⟨by simp, by simp [maxLen], .inl ⟨rfl, rfl⟩⟩
theorem own_of_pts {b : Nat} {e : TypeId} {cs : List Value} {h : Hp} (p : pts b e cs h) (cap sz : Nat) (hc : cs.length = cap * sz) (hm : cap ≤ maxLen) : own (some ⟨b, 0, none⟩) cap e sz cs h :=
  ⟨by omega, hm, .inr ⟨b, [], rfl, by simpa using hc, by simpa using p⟩⟩
theorem own_make {b : Nat} {e : TypeId} {cs : List Value} {h : Hp} (p : pts b e cs h) (cap sz : Nat) (hc : cs.length = cap * sz) (hm : cap ≤ maxLen) : own (some ⟨b, 0, none⟩) cap e sz [] h :=
  ⟨by simp, hm, .inr ⟨b, cs, rfl, by simpa using hc, by simpa using p⟩⟩
theorem own_less {a : Option Addr} {cap : Nat} {e : TypeId} {sz : Nat} {xs : List Value} {h : Hp} (o : own a cap e sz xs h) (k : Nat) : own a cap e sz (xs.take k) h := by
  obtain ⟨h1, h2, h3 | ⟨b, sp, rfl, h4, h5⟩⟩ := o
  · exact ⟨by simp; omega, h2, .inl h3⟩
  · refine ⟨by simp; omega, h2, .inr ⟨b, xs.drop k ++ sp, rfl, by simp; omega, ?_⟩⟩
    rw [← List.append_assoc, List.take_append_drop]; exact h5
theorem starL_own_nil {H : List HProp} (e : TypeId) (sz : Nat) {h : Hp} (s : starL H h) : starL (own none 0 e sz [] :: H) h :=
  ⟨fun _ => none, h, fun _ => .inl rfl, fun b o x => by simp at x, Le.refl h, own_nil e sz _, s⟩
theorem starL_emp {H : List HProp} {A : HProp} (hA : ∀ h, A h) {h : Hp} (s : starL H h) : starL (A :: H) h :=
  ⟨fun _ => none, h, fun _ => .inl rfl, fun b o x => by simp at x, Le.refl h, hA _, s⟩

section rules
variable {P : Program} {n : Nat} {ds : List Deferred} {F : Frm} {Q : Exit → Act → World → Prop} {K : Act → World → Prop} {σ : Slots} {H : List HProp} {o : Oper} {d : Nat}

/-- a nil row of one's own, from nothing -/
theorem g_nilrow (e : TypeId) (sz : Nat) (h : G n ds F K σ (own none 0 e sz [] :: H)) : G n ds F K σ H := g_heap (fun _ s => starL_own_nil e sz s) h

theorem y_len {t : TypeId} {x : Operand} {a : Option Addr} {l c : Nat} {ek : TypeId × Nat} (ht : slElem P t = some ek) (ho : o.op = .call { callee := .builtin .len, args := #[x], argTypes := #[t] }) (hx : evo σ x = some (.slice a l c)) : Yv P n ds F σ o (.int .i64 l) :=
  fun a w e fr => by
    obtain ⟨e', k⟩ := ek
    simp [execOp, ho, resolve, invoke, builtin, Builtin.len_, e.eval hx, run_underlying (slElem_spec ht).1, goInt]
theorem y_lenS {t : TypeId} {x : Operand} {l : List UInt8} (ht : P.underlying t = some .string) (ho : o.op = .call { callee := .builtin .len, args := #[x], argTypes := #[t] }) (hx : evo σ x = some (strv l)) : Yv P n ds F σ o (.int .i64 l.length) :=
  fun a w e fr => by
    unfold strv at hx
    have hsz : (ByteArray.mk l.toArray).size = l.length := by show l.toArray.size = l.length; simp
    simp [execOp, ho, resolve, invoke, builtin, Builtin.len_, e.eval hx, run_underlying ht, goInt, hsz]
theorem y_min {x y : Operand} {k : IntKind} {i j : Int} {ats : Array TypeId} (ho : o.op = .call { callee := .builtin .min, args := #[x, y], argTypes := ats }) (hx : evo σ x = some (.int k i)) (hy : evo σ y = some (.int k j)) : Yv P n ds F σ o (.int k (min i j)) :=
  fun a w e fr => by
    have : (if j < i then j else i) = min i j := by omega
    simp [execOp, ho, resolve, invoke, builtin, Builtin.min_, Builtin.min2, e.eval hx, e.eval hy, this]
theorem y_max {x y : Operand} {k : IntKind} {i j : Int} {ats : Array TypeId} (ho : o.op = .call { callee := .builtin .max, args := #[x, y], argTypes := ats }) (hx : evo σ x = some (.int k i)) (hy : evo σ y = some (.int k j)) : Yv P n ds F σ o (.int k (max i j)) :=
  fun a w e fr => by
    have : (if j > i then j else i) = max i j := by omega
    simp [execOp, ho, resolve, invoke, builtin, Builtin.max_, Builtin.max2, e.eval hx, e.eval hy, this]
theorem y_index {t e sz m : Nat} {x y : Operand} {a : Option Addr} {l c j : Nat} {k : IntKind} {i : Int} (ht : slElem P t = some (e, sz)) (ho : o.op = .indexAddr t x y) (hx : evo σ x = some (.slice a l c)) (hy : evo σ y = some (.int k i))
    (hj : i = (j : Int)) (hl : j < l) (hm : j * sz = m) (hs : a.isSome = true) : Yv P n ds F σ o (.pointer (a.map (·.add m))) :=
  fun a w en fr => by
    obtain ⟨hu, inf, hi, hz⟩ := slElem_spec ht
    obtain ⟨ad, rfl⟩ := Option.isSome_iff_exists.1 hs
    subst hj; subst hm
    simp [execOp, ho, Instr.indexAt, en.eval hx, en.eval hy, asIntOf, run_underlying hu, sizeOf, typeInfo, hi, hz, hl]
/-- an element's cell, out of the frame -/
theorem y_loadR {t : TypeId} {x : Operand} {a : Option Addr} {k : Nat} {v : Value} {cells : List Value} (hs : scal P t = true) (ho : o.op = .load t x) (hx : evo σ x = some (.pointer (a.map (·.add k)))) (hr : Rdl F.h a cells) (hv : cells[k]? = some v) : Yv P n ds F σ o v := by
  obtain ⟨ad, rfl, hc⟩ := hr k v hv
  exact y_loadF hs ho hx hc
/-- an element of several cells, out of the frame -/
theorem y_loadRN {t k : TypeId} {x : Operand} {a : Option Addr} {j : Nat} {cells : List Value} (vs : List Value) (hs : aggSz P t = some k) (ho : o.op = .load t x) (hx : evo σ x = some (.pointer (a.map (·.add j)))) (hr : Rdl F.h a cells) (hv : (cells.drop j).take k = vs) (hk : vs.length = k) (h0 : a.isSome = true) : Yv P n ds F σ o (.agg vs.toArray) := by
  obtain ⟨ad, rfl⟩ := Option.isSome_iff_exists.1 h0
  intro ac w en fr
  have hc : ∀ i v, vs[i]? = some v → w.cell? ((ad.add j).add i) = some v := fun i v hi => by
    rw [← hv, List.getElem?_take] at hi
    split at hi
    · rw [List.getElem?_drop] at hi
      obtain ⟨ad', e1, e2⟩ := hr _ v hi
      cases e1
      rw [add_add]; exact hcell_at fr e2
    · cases hi
  subst hk
  simp [execOp, ho, en.eval hx, Instr.loadAt, Instr.sureAddr, loadVar, (aggSz_spec hs).1, (aggSz_spec hs).2, run_loadCells_list w _ vs hc]
/-- an element's cell, out of a row of one's own -/
theorem op_loadO {t : TypeId} {x : Operand} {a : Option Addr} {k cap e sz : Nat} {v : Value} {cells : List Value} {R : List HProp} (hs : scal P t = true) (ho : o.op = .load t x) (hd : o.dst = some d) (hx : evo σ x = some (.pointer (a.map (·.add k)))) (hsel : Sel H (own a cap e sz cells) R) (hv : cells[k]? = some v)
    (hsm : a.isSome = true) (hdn : Nat.blt d n = true) (h : G n ds F K ((d, v) :: σ) H) : G n ds F (fun a w => o.wp P a w K Q) σ H := by
  obtain ⟨ad, rfl⟩ := Option.isSome_iff_exists.1 hsm
  refine op_loadK hs ho hd hx (fun w s => ?_) hdn h
  obtain ⟨h1, hp, hl⟩ := (s.sel hsel).get
  obtain ⟨ad', e1, e2⟩ := own_rdl hp k v hv
  cases e1
  exact hcell_mono hl e2
/-- an element's cell, by whatever is known of it -/
theorem op_loadW {t : TypeId} {x : Operand} {a : Option Addr} {k : Nat} {v : Value} {cells : List Value} (hs : scal P t = true) (ho : o.op = .load t x) (hd : o.dst = some d) (hx : evo σ x = some (.pointer (a.map (·.add k)))) (hr : ∀ h, Le F.h h → InL H h → Rdl h a cells) (hv : cells[k]? = some v)
    (hsm : a.isSome = true) (hdn : Nat.blt d n = true) (h : G n ds F K ((d, v) :: σ) H) : G n ds F (fun a w => o.wp P a w K Q) σ H := by
  obtain ⟨ad, rfl⟩ := Option.isSome_iff_exists.1 hsm
  refine op_loadK hs ho hd hx (fun w s => ?_) hdn h
  obtain ⟨hh, st, hl, _⟩ := s.own
  obtain ⟨ad', e1, e2⟩ := hr (hOf w) s.frame (starL_InL st hl) k v hv
  cases e1
  exact e2

-- cutting
def bnd (σ : Slots) : Option Operand → Nat → Nat → Prop
  | none, dflt, v => v = dflt
  | some x, _, v => ∃ k i, evo σ x = some (.int k i) ∧ i = (v : Int)
theorem run_bound {x : Value} {y v : Nat} {code : BoundsCode} {k : IntKind} {i : Int} {w : World} (hx : x = .int k i) (hi : i = (v : Int)) (hv : v ≤ y) : (Instr.sliceBound x y code).run P w = .ok v w := by
  subst hx; subst hi
  simp [Instr.sliceBound, asIntOf, hv]
theorem run_bounds {lo hi mx : Option Operand} {a : Act} {w : World} {len cap l h m : Nat} (en : Env n ds σ a) (hl : bnd σ lo 0 l) (hh : bnd σ hi len h) (hm : bnd σ mx cap m) (h1 : l ≤ h) (h2 : h ≤ m) (h3 : m ≤ cap) (hx : mx.isSome = true → hi.isSome = true) (b : Bool) :
    (Instr.sliceBounds b len cap (lo.map a.eval) (hi.map a.eval) (mx.map a.eval)).run P w = .ok (l, h, m) w := by
  unfold Instr.sliceBounds
  cases mx with
  | none =>
    simp only [bnd] at hm; subst hm
    cases hi with
    | none =>
      simp only [bnd] at hh; subst hh
      cases lo with
      | none => simp only [bnd] at hl; subst hl; simp
      | some x => obtain ⟨k, i, e, e2⟩ := hl; simp [run_bound (en.eval e) e2 h1]
    | some y =>
      obtain ⟨k', i', e', e2'⟩ := hh
      cases lo with
      | none => simp only [bnd] at hl; subst hl; simp [run_bound (en.eval e') e2' h2]
      | some x => obtain ⟨k, i, e, e2⟩ := hl; simp [run_bound (en.eval e') e2' h2, run_bound (en.eval e) e2 h1]
  | some z =>
    obtain ⟨k'', i'', e'', e2''⟩ := hm
    cases hi with
    | none => simp at hx
    | some y =>
      obtain ⟨k', i', e', e2'⟩ := hh
      cases lo with
      | none => simp only [bnd] at hl; subst hl; simp [run_bound (en.eval e'') e2'' h3, run_bound (en.eval e') e2' h2]
      | some x => obtain ⟨k, i, e, e2⟩ := hl; simp [run_bound (en.eval e'') e2'' h3, run_bound (en.eval e') e2' h2, run_bound (en.eval e) e2 h1]
theorem y_slice {t e sz : TypeId} {x : Operand} {lo hi mx : Option Operand} {a : Option Addr} {len cap : Nat} (l hh m : Nat) (ht : slElem P t = some (e, sz)) (ho : o.op = .slice t x lo hi mx) (hx : evo σ x = some (.slice a len cap))
    (hbl : bnd σ lo 0 l) (hbh : bnd σ hi len hh) (hbm : bnd σ mx cap m) (h1 : l ≤ hh) (h2 : hh ≤ m) (h3 : m ≤ cap) (hmx : mx.isSome = true → hi.isSome = true) : Yv P n ds F σ o (.slice (cutA a l m (l * sz)) (hh - l) (m - l)) :=
  fun ac w en fr => by
    obtain ⟨hu, inf, hi', hz⟩ := slElem_spec ht
    have hr := run_bounds (P := P) (w := w) en hbl hbh hbm h1 h2 h3 hmx true
    simp [execOp, ho, Instr.sliceAt, Instr.slice, en.eval hx, run_underlying hu, hr, sizeOf, typeInfo, hi', hz, cutA]
theorem y_sliceS {t : TypeId} {x : Operand} {lo hi : Option Operand} {s : List UInt8} (l hh : Nat) (ht : P.underlying t = some .string) (ho : o.op = .slice t x lo hi none) (hx : evo σ x = some (strv s))
    (hbl : bnd σ lo 0 l) (hbh : bnd σ hi s.length hh) (h1 : l ≤ hh) (h2 : hh ≤ s.length) : Yv P n ds F σ o (strv ((s.drop l).take (hh - l))) :=
  fun ac w en fr => by
    have hr := run_bounds (P := P) (mx := none) (cap := s.length) (m := s.length) (w := w) en hbl hbh rfl h1 h2 (Nat.le_refl _) (by simp) false
    unfold strv at hx ⊢
    have hsz : (ByteArray.mk s.toArray).size = s.length := by show s.toArray.size = s.length; simp
    have hex : (ByteArray.mk s.toArray).extract l hh = ⟨((s.drop l).take (hh - l)).toArray⟩ := by
      apply ByteArray.ext; apply Array.ext'
      simp [ByteArray.data_extract, List.take_drop]
    simp only [Option.map_none] at hr
    simp [execOp, ho, Instr.sliceAt, Instr.slice, en.eval hx, run_underlying ht, hsz, hr, hex]
theorem y_indexS {t : TypeId} {x y : Operand} {s : List UInt8} {j : Nat} {k : IntKind} {i : Int} {c : UInt8} (ht : P.underlying t = some .string) (ho : o.op = .index t x y) (hx : evo σ x = some (strv s)) (hy : evo σ y = some (.int k i))
    (hj : i = (j : Int)) (hc : s[j]? = some c) : Yv P n ds F σ o (.int .u8 c.toNat) :=
  fun a w en fr => by
    subst hj
    unfold strv at hx
    have hlt := (List.getElem?_eq_some_iff.1 hc).1
    have hb : (ByteArray.mk s.toArray)[j]? = some c := by
      have : j < (ByteArray.mk s.toArray).size := by show j < s.toArray.size; simpa using hlt
      rw [getElem?_pos (ByteArray.mk s.toArray) j this]
      have hc' := (List.getElem?_eq_some_iff.1 hc).2
      simpa [ByteArray.getElem_eq_getElem_data] using hc'
    simp [execOp, ho, Instr.index, en.eval hx, en.eval hy, asIntOf, run_underlying ht, hb]
-- text out of bytes
def bcells (l : List UInt8) : List Value := l.map fun c => .int .u8 c.toNat
@[simp] theorem bcells_length (l : List UInt8) : (bcells l).length = l.length := by simp [bcells]
@[simp] theorem bcells_append (a b : List UInt8) : bcells (a ++ b) = bcells a ++ bcells b := by simp [bcells]
theorem bcells_take (l : List UInt8) (k : Nat) : bcells (l.take k) = (bcells l).take k := by simp [bcells]
theorem bcells_drop (l : List UInt8) (k : Nat) : bcells (l.drop k) = (bcells l).drop k := by simp [bcells]
theorem bcells_get {l : List UInt8} {k : Nat} {c : UInt8} (h : l[k]? = some c) : (bcells l)[k]? = some (.int .u8 c.toNat) := by simp [bcells, h]
theorem bcells_one {l : List UInt8} : ∀ v ∈ bcells l, v.oneCell' = true := by
  intro v hv; simp only [bcells, List.mem_map] at hv; obtain ⟨c, _, rfl⟩ := hv; rfl
theorem run_toString {a : Option Addr} {l : List UInt8} {c : Nat} {w : World} (hr : Rdl (hOf w) a (bcells l)) : (Conv.bytesToString (.slice a l.length c)).run P w = .ok (strv l) w := by
  cases a with
  | none =>
    have : l = [] := by
      cases l with
      | nil => rfl
      | cons x r => obtain ⟨ad, h1, _⟩ := hr 0 (.int .u8 x.toNat) (by simp [bcells]); cases h1
    subst this; simp [Conv.bytesToString, strv]; rfl
  | some ad =>
    have hcells : ∀ j v, (bcells l)[j]? = some v → w.cell? (ad.add j) = some v := fun j v e => by
      obtain ⟨ad', h1, h2⟩ := hr j v e; cases h1; exact h2
    have hload := run_loadCells_list (P := P) w ad (bcells l) hcells
    rw [bcells_length] at hload
    have h := run_bytesToString (P := P) w ad l.length c (l.map fun x => (x.toNat : Int)) (by rw [hload]; simp [bcells])
    rw [h]
    have key : ∀ (l : List UInt8) (acc : ByteArray), (l.map fun x => (x.toNat : Int)).foldl (fun r q => r.push (UInt8.ofNat q.toNat)) acc = ⟨acc.data ++ l.toArray⟩ := by
      intro l
      induction l with
      | nil => intro acc; simp
      | cons x r ih =>
        intro acc
        simp only [List.map_cons, List.foldl_cons, ih]
        apply ByteArray.ext; apply Array.ext'
        simp [ByteArray.push]
    rw [key]
    simp [strv]
theorem op_toString {s t : TypeId} {x : Operand} {a : Option Addr} {l : List UInt8} {m c sz : Nat} {e : TypeId} (hs : slElem P s = some (e, sz)) (he : P.underlying e = some (.int .u8)) (ht : P.underlying t = some .string) (ho : o.op = .convert s t x) (hd : o.dst = some d)
    (hx : evo σ x = some (.slice a m c)) (hm : m = l.length) (hr : ∀ h, Le F.h h → InL H h → Rdl h a (bcells l)) (hdn : Nat.blt d n = true) (h : G n ds F K ((d, strv l) :: σ) H) : G n ds F (fun a w => o.wp P a w K Q) σ H :=
  op_run hd hdn (fun ac w en st => by
    subst hm
    obtain ⟨hh, st', hl, _⟩ := st.own
    have hr' := run_toString (P := P) (c := c) (hr (hOf w) st.frame (starL_InL st' hl))
    have := run_underlying (P := P) (slElem_spec hs).1 w
    cases a with
    | none => simp [execOp, ho, en.eval hx, convert, this, run_underlying ht, run_underlying he, hr']
    | some ad => simp [execOp, ho, en.eval hx, convert, this, run_underlying ht, run_underlying he, hr']) h
theorem y_toString {s t : TypeId} {x : Operand} {a : Option Addr} {l : List UInt8} {m c sz : Nat} {e : TypeId} (hs : slElem P s = some (e, sz)) (he : P.underlying e = some (.int .u8)) (ht : P.underlying t = some .string) (ho : o.op = .convert s t x)
    (hx : evo σ x = some (.slice a m c)) (hm : m = l.length) (hr : Rdl F.h a (bcells l)) : Yv P n ds F σ o (strv l) := fun ac w en fr => by
  subst hm
  have hr' := run_toString (P := P) (c := c) (hr.mono fr)
  have := run_underlying (P := P) (slElem_spec hs).1 w
  cases a with
  | none => simp [execOp, ho, en.eval hx, convert, this, run_underlying ht, run_underlying he, hr']
  | some ad => simp [execOp, ho, en.eval hx, convert, this, run_underlying ht, run_underlying he, hr']
/-- text to text -/
theorem y_convS {s t : TypeId} {x : Operand} {l : List UInt8} (hs : P.underlying s = some .string) (ht : P.underlying t = some .string) (ho : o.op = .convert s t x) (hx : evo σ x = some (strv l)) : Yv P n ds F σ o (strv l) := fun ac w en fr => by
  unfold strv at hx ⊢
  simp [execOp, ho, en.eval hx, convert, run_underlying hs, run_underlying ht]
/-- a cell of a row of one's own is written -/
theorem op_storeO {t : TypeId} {x y : Operand} {a : Option Addr} {k cap e sz : Nat} {cells : List Value} {f : HProp → List HProp} {v : Value} (hs : scal P t = true) (ho : o.op = .store t x y) (hd : o.dst = none) (hx : evo σ x = some (.pointer (a.map (·.add k)))) (hy : evo σ y = some v)
    (h1 : v.oneCell' = true) (hu : Pos H (own a cap e sz cells) f) (hk : k < cells.length) (h : G n ds F K σ (f (own a cap e sz (cells.set k v)))) : G n ds F (fun a w => o.wp P a w K Q) σ H := by
  refine .mk fun ac w en s => ?_
  obtain ⟨R, s1, s2⟩ := hu.sel
  have sR := s.sel s1
  obtain ⟨hh, ⟨q1, q2, q3⟩, hl⟩ := sR.get
  rcases q3 with q3 | ⟨b, sp, rfl, q4, q5⟩
  · obtain ⟨rfl, rfl⟩ := q3; omega
  · have hcell := hcell_at hl (pts_cell q5 (List.getElem?_eq_getElem (show k < (cells ++ sp).length from by simp; omega)))
    have hst := store_cell (P := P) hs hcell (pts_free q5 (show k < (cells ++ sp).length from by simp; omega) hl) h1
    -- the part, with this spare room
    have hpt : St F (pts b e (cells ++ sp) :: R) w := by
      obtain ⟨a1, a2, a3, fr, h, ⟨h1', h2', dd, l1, l2, hown, st⟩, y, zz⟩ := sR
      obtain ⟨_, _, q3' | ⟨b', sp', e', q4', q6⟩⟩ := hown
      · exact absurd q3'.1 (by simp)
      · simp only [Option.some.injEq, Addr.mk.injEq, and_true] at e'
        subst e'
        have h6 := l1.trans y
        obtain ⟨lo, hi', hf, hb5⟩ := q6
        have hw1 := h6 _ _ hb5
        obtain ⟨lo2, hi2, hf2, hb6⟩ := q5
        have hw2 := hl _ _ hb6
        rw [hw1] at hw2
        simp only [Option.some.injEq, Obj.cells.injEq] at hw2
        have hsp : sp' = sp := by simpa using hw2.1
        subst hsp
        exact ⟨a1, a2, a3, fr, h, ⟨h1', h2', dd, l1, l2, ⟨lo, hi', hf, hb5⟩, st⟩, y, zz⟩
    have hrun : (execOp ac.eval o).run P w = .ok .skip (w.setCell ⟨b, k, none⟩ v) := by
      have hadd : (⟨b, 0, none⟩ : Addr).add k = ⟨b, k, none⟩ := by rw [add_lit, Nat.zero_add]
      have hx' := en.eval hx
      simp only [Option.map_some, hadd] at hx'
      simp [execOp, ho, hx', en.eval hy, hst]
    unfold Oper.wp
    rw [hrun, Oper.upon_skip, hd]
    refine h _ _ en (St.unsel (s2 _) ((hpt.setCell v).sub fun h' s' => starL_cons_mono (fun h'' p => ⟨by simpa using q1, q2, .inr ⟨b, sp, rfl, by simpa using q4, ?_⟩⟩) s'))
    rw [List.set_append_left _ _ hk] at p
    exact p
-- bytes, by number
def byt (l : List UInt8) (i : Nat) : Nat := (l.getD i 0).toNat
theorem byt_lt (l : List UInt8) (i : Nat) : byt l i < 256 := (l.getD i 0).toNat_lt
theorem bcells_at {l : List UInt8} {i : Nat} (h : i < l.length) : (bcells l)[i]? = some (.int .u8 (byt l i : Int)) := by
  simp [bcells, byt, h]
theorem Rdl.some_b {h : Hp} {a : Option Addr} {l : List UInt8} (r : Rdl h a (bcells l)) (hl : 0 < l.length) : a.isSome = true := r.some (by simpa using hl)
theorem y_loadB {t : TypeId} {x : Operand} {a : Option Addr} {k : Nat} {l : List UInt8} (hs : scal P t = true) (ho : o.op = .load t x) (hx : evo σ x = some (.pointer (a.map (·.add k)))) (hr : Rdl F.h a (bcells l)) (hk : k < l.length) : Yv P n ds F σ o (.int .u8 (byt l k : Int)) :=
  y_loadR hs ho hx hr (bcells_at hk)
end rules
end Go.Eng
