/- The engine: methods by their interface; what is lent to the frame; lists of parts. -/
import Derived.Test.YtncmmhfgcgnojaaTypes2
import Derived.Test.YtncmmhfgcgnojaaEngX2
import Derived.Test.YtncmmhfgcgnojaaEngB
set_option maxRecDepth 100000
namespace Go.Eng
open Go

-- methods
def mthd (P : Program) (t : TypeId) (name : String) : Option (FuncId × Bool) :=
  match P.info? t with
  | some i => match i.methods.find? (·.name == name) with
    | some m => match m.path.isEmpty with
      | true => m.func
      | false => none
    | none => none
  | none => none
theorem meth_run {P : Program} {t : TypeId} {v : Value} {name : String} {f : FuncId} {b : Bool} {k : Nat} {dd : TypeDesc} (h : mthd P t name = some (f, b)) (hu : P.underlying t = some dd)
    (hok : (∃ e, dd = .pointer e ∧ b = true) ∨ ((∀ e, dd ≠ .pointer e) ∧ b = false)) (w : World) : (method (k + 1) t v name).run P w = .ok (f, v) w := by
  unfold mthd at h
  cases hi : P.info? t with
  | none => simp [hi] at h
  | some i =>
    simp only [hi] at h
    cases hm : i.methods.find? (·.name == name) with
    | none => simp [hm] at h
    | some m =>
      simp only [hm] at h
      cases hp : m.path.isEmpty with
      | false => simp [hp] at h
      | true =>
        simp only [hp] at h
        have hp0 : m.path = #[] := by simpa using hp
        unfold method
        rcases hok with ⟨e, rfl, rfl⟩ | ⟨hne, rfl⟩
        · simp [typeInfo, hi, hm, hp0, h, follow, receiverAt, run_underlying hu, Place.get]
        · cases dd <;> simp_all [typeInfo, follow, receiverAt, run_underlying hu, Place.get]

-- what is lent
theorem FnS.lend {P : Program} {f : FuncId} {args : List Value} {pre : Hp → Prop} {H As R0 : List HProp} {T : Value → List HProp → Prop} (hsel : Sels H As R0) (h : FnS P f args (fun k => pre k ∧ InL As k) R0 T) (hm : ∀ k l, pre k → Le k l → pre l) :
    FnS P f args pre H (fun v H' => ∃ H0, T v H0 ∧ H' = As ++ H0) := by
  intro F w hp s
  obtain ⟨a1, a2, a3, fr, hh, st, hl, hdj⟩ := s
  obtain ⟨h1, h2, d12, l1, l2, s1, s2⟩ := starL_append (hsel.out _ st)
  have d1F : Disj h1 F.h := hdj.left l1
  let F' : Frm := { F with h := uni h1 F.h }
  have hFle : Le F.h F'.h := le_uni_right d1F
  have h1le : Le h1 F'.h := le_uni_left _ _
  have st' : St F' R0 w := ⟨a1, a2, a3, uni_le (l1.trans hl) fr, h2, s2, l2.trans hl, (Disj.uni d12 (hdj.left l2).symm).symm⟩
  refine (h F' w ⟨hm _ _ hp hFle, starL_InL s1 h1le⟩ st').mono ?_
  rintro e w' ⟨v, H', rfl, hT, sw⟩
  obtain ⟨b1, b2, b3, fr', hh', st2, hl', hdj'⟩ := sw
  refine ⟨v, _, rfl, ⟨H', hT, rfl⟩, b1, b2, b3, hFle.trans fr', uni h1 hh', append_starL s1 st2 (hdj'.right h1le).symm, uni_le (h1le.trans fr') hl', Disj.uni d1F (hdj'.right hFle)⟩

-- bags of parts, by their place
theorem stars_at {α : Type} {f : α → HProp} {L : List α} {h : Hp} (o : ∃ k, stars (L.map f) k ∧ Le k h) {a : α} (ha : a ∈ L) : ∃ k, f a k ∧ Le k h := by
  obtain ⟨k, p, l⟩ := o
  exact stars_all (f := f) (X := fun a k => ∃ j, f a j ∧ Le j k) (fun a k p => ⟨k, p, Le.refl _⟩) (fun a k m ⟨j, p, l⟩ lm => ⟨j, p, l.trans lm⟩) L h (by exact starL_mono p l) a ha
theorem starL_permE {A B : List HProp} (p : List.Perm A B) : ∀ h, starL A h → starL B h := by
  induction p with
  | nil => exact fun _ x => x
  | cons _ _ ih => exact fun _ x => starL_tail ih x
  | swap _ _ _ => exact fun _ x => starL_swap x
  | trans _ _ i1 i2 => exact fun h x => i2 h (i1 h x)
theorem stars_perm {A B : List HProp} (p : List.Perm A B) {H : List HProp} {h : Hp} (s : starL (stars A :: H) h) : starL (stars B :: H) h := starL_cons_mono (fun k q => starL_permE p k q) s
-- results, of which one stands in cells
section
variable {P : Program} {n : Nat} {ds : List Deferred} {F : Frm} {σ : Slots} {H : List HProp}
theorem RtCT {fn : Func} {T : Value → List HProp → Prop} {t ty b i k u : Nat} {x : Value} {e : TypeId} {cs vs : List Value} {R : List HProp} (H' : List HProp) (hs : aggSz P ty = some k) (hr : fn.results = #[.cell t ty, .tmp u]) (hR : T (.tuple #[.agg vs.toArray, x]) H') (ht : look σ t = some (.pointer (some ⟨b, i, none⟩)) := by exact rfl)
    (hx : look σ u = some x := by exact rfl) (hsel : Sel H (pts b e cs) R := by repeat (first | exact Sel.here | apply Sel.there)) (hv : (cs.drop i).take k = vs := by exact rfl) (hk : vs.length = k := by exact rfl) (hh : ∀ h, starL H h → starL H' h := by exact Eh) :
    G n [] F (bodyPost P fn (fun e w' => ∃ v H', e = .returned v ∧ T v H' ∧ St F H' w') .ret) σ H :=
  .mk fun a w en s => ⟨en.defers, _, by
    obtain ⟨h1, h4⟩ := cell_res (P := P) en s ht hs hsel hv hk
    have h2 : a.tmps.getD u undef = x := by simp [en.slot u x hx]
    simp only [results, hr]
    simp at h1 h2
    simp [h1, h2, h4], _, H', rfl, hR, s.sub hh⟩
theorem RtTC {fn : Func} {T : Value → List HProp → Prop} {t ty b i k u : Nat} {x : Value} {e : TypeId} {cs vs : List Value} {R : List HProp} (H' : List HProp) (hs : aggSz P ty = some k) (hr : fn.results = #[.tmp u, .cell t ty]) (hR : T (.tuple #[x, .agg vs.toArray]) H') (ht : look σ t = some (.pointer (some ⟨b, i, none⟩)) := by exact rfl)
    (hx : look σ u = some x := by exact rfl) (hsel : Sel H (pts b e cs) R := by repeat (first | exact Sel.here | apply Sel.there)) (hv : (cs.drop i).take k = vs := by exact rfl) (hk : vs.length = k := by exact rfl) (hh : ∀ h, starL H h → starL H' h := by exact Eh) :
    G n [] F (bodyPost P fn (fun e w' => ∃ v H', e = .returned v ∧ T v H' ∧ St F H' w') .ret) σ H :=
  .mk fun a w en s => ⟨en.defers, _, by
    obtain ⟨h1, h4⟩ := cell_res (P := P) en s ht hs hsel hv hk
    have h2 : a.tmps.getD u undef = x := by simp [en.slot u x hx]
    simp only [results, hr]
    simp at h1 h2
    simp [h1, h2, h4], _, H', rfl, hR, s.sub hh⟩
end
/-- two texts, one behind the other -/
theorem ScE {P : Program} {n : Nat} {ds : List Deferred} {F : Frm} {σ : Slots} {o : Oper} {t yt : TypeId} {x y : Operand} {i j : List UInt8} (ho : o.op = .binOp .add t x y yt := by exact rfl) (hx : evo σ x = some (strv i) := by exact rfl) (hy : evo σ y = some (strv j) := by exact rfl)
    (hl : i.length + j.length ≤ 9223372036854775807 := by first | omega | (simp; omega)) : Yv P n ds F σ o (strv (i ++ j)) := Sc hl ho hx hy rfl
theorem eq_line3 {P : Program} {t ta tb tc : TypeId} {i i' j j' : List UInt8} {m k : Int} (ht : P.underlying t = some (.struct (P.fieldsOf t))) (hp : P.stoodInHeld t = false)
    (hf : (P.fieldsOf t).toList.map (fun f => (decide (f.name = "_"), f.type, f.offset)) = [(false, ta, 0), (false, tb, 1), (false, tc, 2)])
    (s1 : scal P ta = true) (s2 : scal P tb = true) (s3 : scal P tc = true) (u1 : P.underlying ta = some .string) (u2 : P.underlying tb = some .string) (u3 : P.underlying tc = some (.int .i64)) (w : World) :
    (Op.equalIn 10000 t (.agg #[strv i, strv j, .int .i64 m]) (.agg #[strv i', strv j', .int .i64 k])).run P w = .ok (decide (i = i') && (decide (j = j') && decide (m = k))) w := by
  rw [run_equalIn_struct w 9999 t _ _ ht hp]
  generalize (P.fieldsOf t).toList = fs at hf
  obtain ⟨f, g, e, rfl⟩ : ∃ f g e, fs = [f, g, e] := by
    rcases fs with _ | ⟨f, _ | ⟨g, _ | ⟨e, _ | ⟨_, _⟩⟩⟩⟩ <;> simp at hf ⊢
  simp only [List.map_cons, List.map_nil, List.cons.injEq, Prod.mk.injEq, decide_eq_false_iff_not, and_true] at hf
  obtain ⟨⟨f1, f2, f3⟩, ⟨g1, g2, g3⟩, e1, e2, e3⟩ := hf
  subst f2 g2 e2
  have q1 : (Op.equalIn 9999 f.type (strv i) (strv i')).run P w = .ok (decide (i = i')) w := by
    unfold strv
    rw [run_equalIn_string w 9998 f.type _ _ u1]
    congr 1
    rw [ByteArray.toList_eq, ByteArray.toList_eq, Bool.eq_iff_iff]; simp
  have q2 : (Op.equalIn 9999 g.type (strv j) (strv j')).run P w = .ok (decide (j = j')) w := by
    unfold strv
    rw [run_equalIn_string w 9998 g.type _ _ u2]
    congr 1
    rw [ByteArray.toList_eq, ByteArray.toList_eq, Bool.eq_iff_iff]; simp
  have q3 : (Op.equalIn 9999 e.type (.int .i64 m) (.int .i64 k)).run P w = .ok (decide (m = k)) w := by
    rw [run_equalIn_int w 9998 e.type .i64 .i64 _ _ u3]
    congr 1
  have p1 : ∀ (a b : List UInt8) (z : Int), (part f.type #[strv a, strv b, .int .i64 z] f.offset).run P w = .ok (strv a) w := fun a b z => part_scal s1 (by rw [f3]; rfl)
  have p2 : ∀ (a b : List UInt8) (z : Int), (part g.type #[strv a, strv b, .int .i64 z] g.offset).run P w = .ok (strv b) w := fun a b z => part_scal s2 (by rw [g3]; rfl)
  have p3 : ∀ (a b : List UInt8) (z : Int), (part e.type #[strv a, strv b, .int .i64 z] e.offset).run P w = .ok (.int .i64 z) w := fun a b z => part_scal s3 (by rw [e3]; rfl)
  simp only [Op.eqFields, ne_eq, f1, g1, e1, not_false_eq_true, if_true, Sem.run_bind, p1, p2, p3, q1, Result.andThen_ok]
  by_cases hi : i = i'
  · simp [hi, q2, p2]
    by_cases hj : j = j'
    · simp [hj, q3, p3]
      by_cases hm : m = k <;> simp [hm]
    · simp [hj]
  · simp [hi]
theorem Lq3 {P : Program} {n : Nat} {ds : List Deferred} {F : Frm} {σ : Slots} {o : Oper} {op : BinOp} {t yt ta tb tc : TypeId} {x y : Operand} {i i' j j' : List UInt8} {m k : Int} {b : Bool} (ht : P.underlying t = some (.struct (P.fieldsOf t))) (hp : P.stoodInHeld t = false) (hm : P.eqGuardType P.depth t = false)
    (hf : (P.fieldsOf t).toList.map (fun f => (decide (f.name = "_"), f.type, f.offset)) = [(false, ta, 0), (false, tb, 1), (false, tc, 2)])
    (s1 : scal P ta = true) (s2 : scal P tb = true) (s3 : scal P tc = true) (u1 : P.underlying ta = some .string) (u2 : P.underlying tb = some .string) (u3 : P.underlying tc = some (.int .i64))
    (ho : o.op = .binOp op t x y yt := by exact rfl) (hx : evo σ x = some (.agg #[strv i, strv j, .int .i64 m]) := by exact rfl) (hy : evo σ y = some (.agg #[strv i', strv j', .int .i64 k]) := by exact rfl)
    (hop : (op = .eql ∧ b = (decide (i = i') && (decide (j = j') && decide (m = k)))) ∨ (op = .neq ∧ b = !(decide (i = i') && (decide (j = j') && decide (m = k)))) := by first | exact .inl ⟨rfl, rfl⟩ | exact .inr ⟨rfl, rfl⟩) : Yv P n ds F σ o (.bool b) := by
  intro a w e _
  have q := fun w => eq_line3 (i := i) (i' := i') (j := j) (j' := j') (m := m) (k := k) ht hp hf s1 s2 s3 u1 u2 u3 w
  rcases hop with ⟨rfl, rfl⟩ | ⟨rfl, rfl⟩ <;> simp [execOp, ho, e.eval hx, e.eval hy, run_eqGuard_agg w _ _ _ _ _ _ hm, run_eql_struct, run_neq_struct, q]
-- a map in the frame
section
open Go.MapKept
variable {P : Program} {n : Nat} {ds : List Deferred} {F : Frm} {Q : Exit → Act → World → Prop} {K : Act → World → Prop} {σ : Slots} {H : List HProp} {o : Oper} {d : Nat}
theorem oQlF {t k e : TypeId} {dd : TypeDesc} {z : Value} {m x : Operand} {b : Nat} {es : List (Value × Value)} {kv : Value} (ht : mapT P t = some (k, dd, e, z)) (hin : ∃ k, mq dd b es k ∧ Le k F.h) (h : G n ds F K ((d, (lkq es kv).getD z) :: σ) H) (ho : o.op = .lookup t m x false := by exact rfl) (hd : o.dst = some d := by exact rfl)
    (hm : evo σ m = some (.map (some b)) := by exact rfl) (hx : evo σ x = some kv := by exact rfl) (hk : isK dd kv = true := by exact rfl) (hdn : Nat.blt d n = true := by exact rfl) : G n ds F (fun a w => o.wp P a w K Q) σ H :=
  op_run hd hdn (fun a w en s => by
    obtain ⟨hh, p, hl⟩ := hin
    simp [execOp, ho, en.eval hm, en.eval hx, run_lookq ht hk p (hl.trans s.frame)]) h
theorem oQl2F {t k e : TypeId} {dd : TypeDesc} {z : Value} {m x : Operand} {b : Nat} {es : List (Value × Value)} {kv : Value} (ht : mapT P t = some (k, dd, e, z)) (hin : ∃ k, mq dd b es k ∧ Le k F.h) (h : G n ds F K ((d, .tuple #[(lkq es kv).getD z, .bool (lkq es kv).isSome]) :: σ) H) (ho : o.op = .lookup t m x true := by exact rfl) (hd : o.dst = some d := by exact rfl)
    (hm : evo σ m = some (.map (some b)) := by exact rfl) (hx : evo σ x = some kv := by exact rfl) (hk : isK dd kv = true := by exact rfl) (hdn : Nat.blt d n = true := by exact rfl) : G n ds F (fun a w => o.wp P a w K Q) σ H :=
  op_run hd hdn (fun a w en s => by
    obtain ⟨hh, p, hl⟩ := hin
    simp [execOp, ho, en.eval hm, en.eval hx, run_lookq ht hk p (hl.trans s.frame)]) h
end

-- rows of lines
section
variable {α : Type} {f : α → List Value} {k : Nat}
theorem rows_len (hf : ∀ a, (f a).length = k) (l : List α) : (l.flatMap f).length = l.length * k := by
  induction l with
  | nil => simp
  | cons a l ih => simp only [List.flatMap_cons, List.length_append, List.length_cons, ih, hf, Nat.add_mul]; omega
theorem rows_split (hf : ∀ a, (f a).length = k) {l : List α} {i : Nat} {a : α} (h : l[i]? = some a) : l.flatMap f = (l.take i).flatMap f ++ (f a ++ (l.drop (i + 1)).flatMap f) ∧ ((l.take i).flatMap f).length = i * k := by
  obtain ⟨hi, hg⟩ := List.getElem?_eq_some_iff.1 h
  constructor
  · conv => lhs; rw [← List.take_append_drop i l, List.drop_eq_getElem_cons hi, hg]
    rw [List.flatMap_append, List.flatMap_cons]
  · rw [rows_len hf, List.length_take]; congr 1; omega
theorem rows_at (hf : ∀ a, (f a).length = k) {l : List α} {i : Nat} {a : α} (h : l[i]? = some a) : ((l.flatMap f).drop (i * k)).take k = f a := by
  obtain ⟨e, hl⟩ := rows_split hf h
  have := hf a
  rw [e, List.drop_left' hl, List.take_append_of_le_length (by omega), List.take_of_length_le (by omega)]
theorem rows_cell (hf : ∀ a, (f a).length = k) {l : List α} {i j : Nat} {a : α} {v : Value} (h : l[i]? = some a) (hv : (f a)[j]? = some v) : (l.flatMap f)[i * k + j]? = some v := by
  obtain ⟨e, hl⟩ := rows_split hf h
  have hj := (List.getElem?_eq_some_iff.1 hv).1
  rw [e, List.getElem?_append_right (by omega), hl, List.getElem?_append_left (by omega), show i * k + j - i * k = j from by omega]
  exact hv
theorem rows_set (hf : ∀ a, (f a).length = k) {l : List α} {i : Nat} {a a' : α} (h : l[i]? = some a) : setL (l.flatMap f) (i * k) (f a') = (l.set i a').flatMap f := by
  obtain ⟨e, hl⟩ := rows_split hf h
  have h1 := hf a
  have h2 := hf a'
  have h3 : (l.set i a').flatMap f = (l.take i).flatMap f ++ (f a' ++ (l.drop (i + 1)).flatMap f) := by
    rw [List.set_eq_take_append_cons_drop, if_pos (List.getElem?_eq_some_iff.1 h).1, List.flatMap_append, List.flatMap_cons]
  rw [h3, e, ← hl, setL_append _ _ (f a) _ (by omega)]
theorem rows_setc (hf : ∀ a, (f a).length = k) {l : List α} {i j : Nat} {a a' : α} {v : Value} (h : l[i]? = some a) (hv : (f a).set j v = f a') (hj : j < k) : (l.flatMap f).set (i * k + j) v = (l.set i a').flatMap f := by
  obtain ⟨e, hl⟩ := rows_split hf h
  have h1 := hf a
  have h3 : (l.set i a').flatMap f = (l.take i).flatMap f ++ (f a' ++ (l.drop (i + 1)).flatMap f) := by
    rw [List.set_eq_take_append_cons_drop, if_pos (List.getElem?_eq_some_iff.1 h).1, List.flatMap_append, List.flatMap_cons]
  rw [h3, e, List.set_append_right _ _ (by omega), hl, show i * k + j - i * k = j from by omega, List.set_append_left _ _ (by omega), hv]
theorem rows_snoc (l : List α) (a : α) : (l ++ [a]).flatMap f = l.flatMap f ++ f a := by simp
end
end Go.Eng
