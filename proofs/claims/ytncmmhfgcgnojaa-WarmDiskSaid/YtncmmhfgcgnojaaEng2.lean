/- The engine, part 2: the rules for operations that touch no slice's array. -/
import Derived.Test.YtncmmhfgcgnojaaEng1
namespace Go.Eng
open Go

/-- parts that are handed over, parts that are left -/
inductive Sels : List HProp → List HProp → List HProp → Prop
  | nil {X : List HProp} : Sels X [] X
  | cons {X : List HProp} {A : HProp} {As R R' : List HProp} (s : Sel X A R) (t : Sels R As R') : Sels X (A :: As) R'
theorem Sels.out {H As R : List HProp} (s : Sels H As R) : ∀ h, starL H h → starL (As ++ R) h := by
  induction s with
  | nil => exact fun h x => x
  | cons s _ ih => exact fun h x => starL_tail ih (s.out h x)

-- what the program's table says of a type
def scal (P : Program) (t : TypeId) : Bool :=
  match P.underlying t, P.info? t with
  | some (.struct _), _ => false
  | some (.array _ _), _ => false
  | some _, some i => i.size == 1
  | _, _ => false
def aggSz (P : Program) (t : TypeId) : Option Nat :=
  match P.underlying t with
  | some (.struct _) => (P.info? t).map (·.size)
  | some (.array _ _) => (P.info? t).map (·.size)
  | _ => none
def fldOff (P : Program) (s f : Nat) : Option Nat :=
  match P.underlying s with
  | some (.struct fs) => match fs[f]? with
    | some f => match P.info? f.type with
      | some i => if i.size = 0 then none else some f.offset
      | none => none
    | none => none
  | _ => none
def slElem (P : Program) (t : TypeId) : Option (TypeId × Nat) :=
  match P.underlying t with
  | some (.slice e) => match P.info? e with
    | some i => some (e, i.size)
    | none => none
  | _ => none

section
variable {P : Program} {w : World}
theorem scal_spec {t : TypeId} (h : scal P t = true) : (isAgg t).run P w = .ok false w ∧ (sizeOf t).run P w = .ok 1 w := by
  unfold scal at h
  cases hu : P.underlying t with
  | none => simp [hu] at h
  | some d =>
    cases hi : P.info? t with
    | none => simp [hu, hi] at h; cases d <;> simp at h
    | some i =>
      cases d <;> simp [hu, hi] at h <;> simp [isAgg, run_underlying hu, sizeOf, typeInfo, hi, h]
theorem aggSz_spec {t : TypeId} {k : Nat} (h : aggSz P t = some k) : (isAgg t).run P w = .ok true w ∧ (sizeOf t).run P w = .ok k w := by
  unfold aggSz at h
  cases hu : P.underlying t with
  | none => simp [hu] at h
  | some d =>
    cases hi : P.info? t with
    | none => cases d <;> simp [hu, hi] at h
    | some i => cases d <;> simp [hu, hi] at h <;> simp [isAgg, run_underlying hu, sizeOf, typeInfo, hi, h]
theorem fldOff_spec {s f k : Nat} (h : fldOff P s f = some k) (a : Addr) : (Instr.fieldAt s (.pointer (some a)) f).run P w = .ok (.pointer (some (a.add k))) w := by
  unfold fldOff at h
  cases hu : P.underlying s with
  | none => simp [hu] at h
  | some d =>
    cases d <;> simp [hu] at h
    rename_i fs
    cases hf : fs[f]? with
    | none => simp [hf] at h
    | some fd =>
      simp only [hf] at h
      cases hi : P.info? fd.type with
      | none => simp [hi] at h
      | some i =>
        simp only [hi] at h
        by_cases h0 : i.size = 0
        · simp [h0] at h
        · simp only [h0, if_false, Option.some.injEq] at h
          simp [Instr.fieldAt, run_underlying hu, hf, Instr.sureAddr, fieldPlace, sizeOf, typeInfo, hi, h0, h]
theorem slElem_spec {t e k : Nat} (h : slElem P t = some (e, k)) : P.underlying t = some (.slice e) ∧ ∃ i, P.info? e = some i ∧ i.size = k := by
  unfold slElem at h
  cases hu : P.underlying t with
  | none => simp [hu] at h
  | some d =>
    cases d <;> simp [hu] at h
    rename_i e'
    cases hi : P.info? e' with
    | none => simp [hi] at h
    | some i => simp [hi] at h; obtain ⟨rfl, rfl⟩ := h; exact ⟨rfl, i, hi, rfl⟩
theorem add_lit (b i k : Nat) : (⟨b, i, none⟩ : Addr).add k = ⟨b, i + k, none⟩ := by unfold Addr.add; split <;> simp_all
theorem add_add (a : Addr) (l k : Nat) : (a.add l).add k = a.add (l + k) := by
  obtain ⟨b, o, s⟩ := a
  unfold Addr.add
  by_cases hl : l = 0
  · subst hl; simp
  · by_cases hk : k = 0
    · subst hk; simp
    · simp [hl, hk, show l + k ≠ 0 from by omega, Nat.add_assoc]
theorem add_zero' (a : Addr) : a.add 0 = a := by simp [Addr.add]
end

section rules
variable {P : Program} {n : Nat} {ds : List Deferred} {F : Frm} {Q : Exit → Act → World → Prop} {K : Act → World → Prop} {σ : Slots} {H : List HProp} {o : Oper} {d : Nat}

theorem op_run {v : Value} (hd : o.dst = some d) (hdn : Nat.blt d n = true) (hr : ∀ a w, Env n ds σ a → St F H w → (execOp a.eval o).run P w = .ok (.value v) w)
    (h : G n ds F K ((d, v) :: σ) H) : G n ds F (fun a w => o.wp P a w K Q) σ H := by
  refine .mk fun a w e s => ?_
  unfold Oper.wp
  rw [hr a w e s, Oper.upon_value, hd]
  exact h _ _ (e.put hdn v) s

/-- An operation that, wherever these slots and this frame are, yields v and does nothing else. -/
def Yv (P : Program) (n : Nat) (ds : List Deferred) (F : Frm) (σ : Slots) (o : Oper) (v : Value) : Prop :=
  ∀ a w, Env n ds σ a → Le F.h (hOf w) → (execOp a.eval o).run P w = .ok (.value v) w
theorem op_y {v : Value} (hy : Yv P n ds F σ o v) (hd : o.dst = some d) (hdn : Nat.blt d n = true) (h : G n ds F K ((d, v) :: σ) H) : G n ds F (fun a w => o.wp P a w K Q) σ H :=
  op_run hd hdn (fun a w e s => hy a w e s.frame) h
theorem op_y0 {v : Value} (hy : Yv P n ds F σ o v) (hd : o.dst = none) (h : G n ds F K σ H) : G n ds F (fun a w => o.wp P a w K Q) σ H := by
  refine .mk fun a w e s => ?_
  unfold Oper.wp
  rw [hy a w e s.frame, Oper.upon_value, hd]
  exact h _ _ e s

theorem y_move {x : Operand} {v : Value} (ho : o.op = .move x) (hx : evo σ x = some v) : Yv P n ds F σ o (v) :=
  fun a w e fr => by simp [execOp, ho, e.eval hx]
theorem y_assign {x : Operand} {v : Value} (ho : o.op = .assign x) (hx : evo σ x = some v) : Yv P n ds F σ o (v) :=
  fun a w e fr => by simp [execOp, ho, e.eval hx]
theorem y_pick_t {c x y : Operand} {b : Bool} {v : Value} (ho : o.op = .pick c x y) (hc : evo σ c = some (.bool b)) (hb : b = true) (hx : evo σ x = some v) : Yv P n ds F σ o (v) :=
  fun a w e fr => by simp [execOp, ho, e.eval hc, e.eval hx, hb, asBool]
theorem y_pick_f {c x y : Operand} {b : Bool} {v : Value} (ho : o.op = .pick c x y) (hc : evo σ c = some (.bool b)) (hb : b = false) (hx : evo σ y = some v) : Yv P n ds F σ o (v) :=
  fun a w e fr => by simp [execOp, ho, e.eval hc, e.eval hx, hb, asBool]
theorem y_nilCheck {x : Operand} {ad : Addr} (ho : o.op = .nilCheck x) (hx : evo σ x = some (.pointer (some ad))) : Yv P n ds F σ o (.pointer (some ad)) :=
  fun a w e fr => by simp [execOp, ho, e.eval hx]
theorem y_fieldAddr {s f k b i : Nat} {x : Operand} (hk : fldOff P s f = some k) (ho : o.op = .fieldAddr s x f) (hx : evo σ x = some (.pointer (some ⟨b, i, none⟩))) : Yv P n ds F σ o (.pointer (some ⟨b, i + k, none⟩)) :=
  fun a w e fr => by simp [execOp, ho, e.eval hx, fldOff_spec hk, add_lit]
theorem y_fieldAddr_map {s f k j : Nat} {x : Operand} {a : Option Addr} (hk : fldOff P s f = some k) (ho : o.op = .fieldAddr s x f) (hx : evo σ x = some (.pointer (a.map (·.add j)))) (hs : a.isSome = true) : Yv P n ds F σ o (.pointer (a.map (·.add (j + k)))) := by
  obtain ⟨ad, rfl⟩ := Option.isSome_iff_exists.1 hs
  exact fun a w e _ => by simp [execOp, ho, e.eval hx, fldOff_spec hk, add_add]
theorem y_nilCheck_map {x : Operand} {a : Option Addr} {j : Nat} (ho : o.op = .nilCheck x) (hx : evo σ x = some (.pointer (a.map (·.add j)))) (hs : a.isSome = true) : Yv P n ds F σ o (.pointer (a.map (·.add j))) := by
  obtain ⟨ad, rfl⟩ := Option.isSome_iff_exists.1 hs
  exact fun a w e _ => by simp [execOp, ho, e.eval hx]
theorem y_extract {x : Operand} {i : Nat} {vs : Array Value} {v : Value} (ho : o.op = .extract x i) (hx : evo σ x = some (.tuple vs)) (hv : vs.toList[i]? = some v) : Yv P n ds F σ o (v) :=
  fun a w e fr => by
    have hv' : vs[i]? = some v := by simpa using hv
    simp [execOp, ho, e.eval hx, Instr.extract, hv']
theorem y_not {t : TypeId} {x : Operand} {b : Bool} (ho : o.op = .unOp .not t x) (hx : evo σ x = some (.bool b)) : Yv P n ds F σ o (.bool (!b)) :=
  fun a w e fr => by simp [execOp, ho, e.eval hx, Op.unary]
theorem y_neg {t : TypeId} {x : Operand} {k : IntKind} {i z : Int} (ho : o.op = .unOp .neg t x) (hx : evo σ x = some (.int k i)) (hz : k.wrap (0 - i) = z) : Yv P n ds F σ o (.int k z) :=
  fun a w e fr => by simp [execOp, ho, e.eval hx, Op.unary, Op.intArith, ← hz]
-- numbers
theorem wrap_i64 {z : Int} (h : -9223372036854775808 ≤ z ∧ z ≤ 9223372036854775807) : IntKind.i64.wrap z = z := IntWalk.i64_in z h
theorem wrap_u64 {z : Int} (h : 0 ≤ z ∧ z ≤ 18446744073709551615) : IntKind.u64.wrap z = z := by
  unfold IntKind.wrap
  simp only [IntKind.bits, IntKind.signed, Bool.false_and, Bool.false_eq_true, if_false]
  omega
theorem wrap_u32 {z : Int} (h : 0 ≤ z ∧ z ≤ 4294967295) : IntKind.u32.wrap z = z := by
  unfold IntKind.wrap
  simp only [IntKind.bits, IntKind.signed, Bool.false_and, Bool.false_eq_true, if_false]
  omega
theorem wrap_u16 {z : Int} (h : 0 ≤ z ∧ z ≤ 65535) : IntKind.u16.wrap z = z := by
  unfold IntKind.wrap
  simp only [IntKind.bits, IntKind.signed, Bool.false_and, Bool.false_eq_true, if_false]
  omega
theorem wrap_u8 {z : Int} (h : 0 ≤ z ∧ z ≤ 255) : IntKind.u8.wrap z = z := by
  unfold IntKind.wrap
  simp only [IntKind.bits, IntKind.signed, Bool.false_and, Bool.false_eq_true, if_false]
  omega
theorem wrap_i32 {z : Int} (h : -2147483648 ≤ z ∧ z ≤ 2147483647) : IntKind.i32.wrap z = z := IntWalk.i32_in z h

def intOp (op : BinOp) (k : IntKind) (x y : Int) : Option Int :=
  match op with
  | .add => some (k.wrap (x + y))
  | .sub => some (k.wrap (x - y))
  | .mul => some (k.wrap (x * y))
  | .and => some (k.wrap (BitVec.ofInt k.bits x &&& BitVec.ofInt k.bits y).toNat)
  | .or => some (k.wrap (BitVec.ofInt k.bits x ||| BitVec.ofInt k.bits y).toNat)
  | .xor => some (k.wrap (BitVec.ofInt k.bits x ^^^ BitVec.ofInt k.bits y).toNat)
  | .andNot => some (k.wrap (BitVec.ofInt k.bits x &&& ~~~BitVec.ofInt k.bits y).toNat)
  | .quo => if y = 0 then none else some (k.wrap (x.tdiv y))
  | .rem => if y = 0 then none else some (x.tmod y)
  | _ => none
def cmpOp (op : BinOp) (x y : Int) : Option Bool :=
  match op with
  | .eql => some (decide (x = y))
  | .neq => some (!decide (x = y))
  | .lss => some (decide (x < y))
  | .leq => some (decide (x ≤ y))
  | .gtr => some (decide (y < x))
  | .geq => some (decide (y ≤ x))
  | _ => none
theorem run_intOp {op : BinOp} {t : TypeId} {k : IntKind} {x y z : Int} {w : World} (h : intOp op k x y = some z) : (binOp op t (.int k x) (.int k y)).run P w = .ok (.int k z) w := by
  cases op <;> simp only [intOp] at h <;> try (cases h; done)
  case add => cases h; simp [binOp, Op.intArith]
  case sub => cases h; simp [binOp, Op.intArith]
  case mul => cases h; simp [binOp, Op.intArith]
  case and => cases h; simp [binOp, Op.intBits]
  case or => cases h; simp [binOp, Op.intBits]
  case xor => cases h; simp [binOp, Op.intBits]
  case andNot => cases h; simp [binOp, Op.intBits]
  all_goals
    split at h
    · cases h
    · rename_i hy
      cases h
      simp [binOp, Op.intDiv, hy]
theorem run_cmpOp {op : BinOp} {t : TypeId} {k : IntKind} {x y : Int} {b : Bool} {w : World} (h : cmpOp op x y = some b) : (binOp op t (.int k x) (.int k y)).run P w = .ok (.bool b) w := by
  cases op <;> simp only [cmpOp] at h <;> (cases h; try simp [binOp, Op.intCmp])
  all_goals (first | rfl | (rw [Bool.eq_iff_iff]; simp; done) | skip)
theorem run_eqGuard_int {op : BinOp} {t : TypeId} {x y : Operand} {k k' : IntKind} {i j : Int} {w : World} : (eqGuard op t x y (.int k i) (.int k' j)).run P w = .ok () w := by
  unfold eqGuard; cases op <;> simp
theorem y_int {op : BinOp} {t yt : TypeId} {x y : Operand} {k : IntKind} {i j z : Int} (ho : o.op = .binOp op t x y yt) (hx : evo σ x = some (.int k i)) (hy : evo σ y = some (.int k j)) (hz : intOp op k i j = some z) : Yv P n ds F σ o (.int k z) :=
  fun a w e fr => by simp [execOp, ho, e.eval hx, e.eval hy, run_eqGuard_int, run_intOp hz]
theorem y_cmp {op : BinOp} {t yt : TypeId} {x y : Operand} {k : IntKind} {i j : Int} {b : Bool} (ho : o.op = .binOp op t x y yt) (hx : evo σ x = some (.int k i)) (hy : evo σ y = some (.int k j)) (hz : cmpOp op i j = some b) : Yv P n ds F σ o (.bool b) :=
  fun a w e fr => by simp [execOp, ho, e.eval hx, e.eval hy, run_eqGuard_int, run_cmpOp hz]
theorem wrapped {z z' : Int} (h : z' = z) : some z' = some z := congrArg some h

def shOp (op : BinOp) (k : IntKind) (x y : Int) : Option Int :=
  if y < 0 then none else
  match op with
  | .shl => some (k.wrap (x * 2 ^ (min y.toNat k.bits)))
  | .shr => some (x.fdiv (2 ^ (min y.toNat k.bits)))
  | _ => none
theorem y_sh {op : BinOp} {t yt : TypeId} {x y : Operand} {k k' : IntKind} {i j z : Int} (ho : o.op = .binOp op t x y yt) (hx : evo σ x = some (.int k i)) (hy : evo σ y = some (.int k' j)) (hz : shOp op k i j = some z) : Yv P n ds F σ o (.int k z) := by
  intro a w e _
  unfold shOp at hz
  by_cases hj : j < 0
  · simp [hj] at hz
  · simp only [hj, if_false] at hz
    cases op <;> simp at hz <;> subst hz <;> simp [execOp, ho, e.eval hx, e.eval hy, run_eqGuard_int, binOp, Op.shift, hj]

theorem y_shl {t yt : TypeId} {x y : Operand} {k k' : IntKind} {i j z : Int} {s : Nat} (ho : o.op = .binOp .shl t x y yt) (hx : evo σ x = some (.int k i)) (hy : evo σ y = some (.int k' j)) (hj : j = (s : Int)) (hz : k.wrap (i * 2 ^ (min s k.bits)) = z) : Yv P n ds F σ o (.int k z) := by
  subst hj
  refine y_sh ho hx hy ?_
  simp only [shOp, if_neg (show ¬ ((s : Int) < 0) from by omega), Int.toNat_natCast, hz]
theorem y_shr {t yt : TypeId} {x y : Operand} {k k' : IntKind} {i j z : Int} {s : Nat} (ho : o.op = .binOp .shr t x y yt) (hx : evo σ x = some (.int k i)) (hy : evo σ y = some (.int k' j)) (hj : j = (s : Int)) (hz : i.fdiv (2 ^ (min s k.bits)) = z) : Yv P n ds F σ o (.int k z) := by
  subst hj
  refine y_sh ho hx hy ?_
  simp only [shOp, if_neg (show ¬ ((s : Int) < 0) from by omega), Int.toNat_natCast, hz]
/-- bits, as naturals -/
theorem or_u64 {a b : Nat} (ha : a < 18446744073709551616) (hb : b < 18446744073709551616) : intOp .or .u64 (a : Int) (b : Int) = some ((a ||| b : Nat) : Int) := by
  have h1 : BitVec.ofInt IntKind.u64.bits (a : Int) = BitVec.ofNat 64 a := by simp [IntKind.bits]
  have h2 : BitVec.ofInt IntKind.u64.bits (b : Int) = BitVec.ofNat 64 b := by simp [IntKind.bits]
  have h3 : a ||| b < 2 ^ 64 := Nat.or_lt_two_pow ha hb
  simp only [intOp, h1, h2]
  congr 1
  have : (BitVec.ofNat 64 a ||| BitVec.ofNat 64 b).toNat = a ||| b := by
    rw [BitVec.toNat_or, BitVec.toNat_ofNat, BitVec.toNat_ofNat, Nat.mod_eq_of_lt ha, Nat.mod_eq_of_lt hb]
  exact (congrArg (fun q : Nat => IntKind.u64.wrap (q : Int)) this).trans (wrap_u64 (by omega))
theorem y_conv {s t : TypeId} {x : Operand} {k k' : IntKind} {i z : Int} (ht : P.underlying t = some (.int k)) (hs : (P.underlying s).isSome = true) (ho : o.op = .convert s t x) (hx : evo σ x = some (.int k' i)) (hz : k.wrap i = z) : Yv P n ds F σ o (.int k z) := by
  intro a w e _
  obtain ⟨sd, hsd⟩ := Option.isSome_iff_exists.1 hs
  simp [execOp, ho, e.eval hx, convert, run_underlying ht, run_underlying hsd, Conv.intToInt, ← hz]
theorem run_boolEql {t : TypeId} {i j : Bool} {w : World} (ht : P.underlying t = some .bool) : (binOp .eql t (.bool i) (.bool j)).run P w = .ok (.bool (i == j)) w := run_eql_bool w t i j ht
theorem run_boolNeq {t : TypeId} {i j : Bool} {w : World} (ht : P.underlying t = some .bool) : (binOp .neq t (.bool i) (.bool j)).run P w = .ok (.bool (!(i == j))) w := by
  simp only [binOp, Sem.run_bind, run_equal_bool w t i j ht, Result.andThen_ok, Sem.run_pure]
theorem run_eqGuard_bool {op : BinOp} {t : TypeId} {x y : Operand} {i j : Bool} {w : World} : (eqGuard op t x y (.bool i) (.bool j)).run P w = .ok () w := by
  unfold eqGuard; cases op <;> simp
theorem y_boolEq {op : BinOp} {t yt : TypeId} {x y : Operand} {i j b : Bool} (ht : P.underlying t = some .bool) (ho : o.op = .binOp op t x y yt) (hx : evo σ x = some (.bool i)) (hy : evo σ y = some (.bool j))
    (hop : (op = .eql ∧ b = (i == j)) ∨ (op = .neq ∧ b = !(i == j))) : Yv P n ds F σ o (.bool b) := by
  intro a w e _
  rcases hop with ⟨rfl, rfl⟩ | ⟨rfl, rfl⟩
  · simp only [execOp, ho, e.eval hx, e.eval hy, Sem.run_bind, run_eqGuard_bool, run_boolEql ht, Result.andThen_ok, Sem.run_pure]
  · simp only [execOp, ho, e.eval hx, e.eval hy, Sem.run_bind, run_eqGuard_bool, run_boolNeq ht, Result.andThen_ok, Sem.run_pure]

-- text
def strv (l : List UInt8) : Value := .string ⟨l.toArray⟩
theorem y_strEq {op : BinOp} {t yt : TypeId} {x y : Operand} {i j : List UInt8} {b : Bool} (ho : o.op = .binOp op t x y yt) (hx : evo σ x = some (strv i)) (hy : evo σ y = some (strv j))
    (hop : (op = .eql ∧ b = decide (i = j)) ∨ (op = .neq ∧ b = !decide (i = j))) : Yv P n ds F σ o (.bool b) := by
  intro a w e _
  have hb : (i == j) = decide (i = j) := by rw [Bool.eq_iff_iff]; simp
  unfold strv at hx hy
  rcases hop with ⟨rfl, rfl⟩ | ⟨rfl, rfl⟩ <;> simp [execOp, ho, e.eval hx, e.eval hy, eqGuard, binOp, Op.stringOp, hb]

-- memory: cells
theorem load_cell {ad : Addr} {v : Value} {t : TypeId} (hs : scal P t = true) {w : World} (hc : w.cell? ad = some v) : (Instr.loadAt t (.pointer (some ad))).run P w = .ok v w := by
  simp [Instr.loadAt, Instr.sureAddr, loadVar, (scal_spec hs).1, hc]
/-- from a block of one's own -/
theorem op_load {t : TypeId} {x : Operand} {b i : Nat} {e : TypeId} {cs : List Value} {R : List HProp} {v : Value} (hs : scal P t = true) (ho : o.op = .load t x) (hd : o.dst = some d) (hx : evo σ x = some (.pointer (some ⟨b, i, none⟩)))
    (hsel : Sel H (pts b e cs) R) (hv : cs[i]? = some v) (hdn : Nat.blt d n = true) (h : G n ds F K ((d, v) :: σ) H) : G n ds F (fun a w => o.wp P a w K Q) σ H :=
  op_run hd hdn (fun a w en s => by
    obtain ⟨h1, hp, hl⟩ := (s.sel hsel).get
    simp [execOp, ho, en.eval hx, load_cell hs (hcell_at hl (pts_cell hp hv))]) h
/-- from the frame -/
theorem y_loadF {t : TypeId} {x : Operand} {ad : Addr} {v : Value} (hs : scal P t = true) (ho : o.op = .load t x) (hx : evo σ x = some (.pointer (some ad))) (hv : hcell F.h ad = some v) : Yv P n ds F σ o (v) :=
  fun a w en fr => by simp [execOp, ho, en.eval hx, load_cell hs (hcell_at fr hv)]
/-- by whatever is known -/
theorem op_loadK {t : TypeId} {x : Operand} {ad : Addr} {v : Value} (hs : scal P t = true) (ho : o.op = .load t x) (hd : o.dst = some d) (hx : evo σ x = some (.pointer (some ad))) (hv : ∀ w, St F H w → hcell (hOf w) ad = some v) (hdn : Nat.blt d n = true)
    (h : G n ds F K ((d, v) :: σ) H) : G n ds F (fun a w => o.wp P a w K Q) σ H :=
  op_run hd hdn (fun a w en s => by simp [execOp, ho, en.eval hx, load_cell hs (show w.cell? ad = some v from hv w s)]) h
theorem load_agg {b i k : Nat} {vs : List Value} {t : TypeId} (hs : aggSz P t = some k) {w : World} (hk : vs.length = k) (hc : ∀ j v, vs[j]? = some v → w.cell? ((⟨b, i, none⟩ : Addr).add j) = some v) :
    (Instr.loadAt t (.pointer (some ⟨b, i, none⟩))).run P w = .ok (.agg vs.toArray) w := by
  subst hk
  simp [Instr.loadAt, Instr.sureAddr, loadVar, (aggSz_spec hs).1, (aggSz_spec hs).2, run_loadCells_list w _ vs hc]
theorem op_loadN {t k : TypeId} {x : Operand} {b i : Nat} {e : TypeId} {cs : List Value} {R : List HProp} (vs : List Value) (hs : aggSz P t = some k) (ho : o.op = .load t x) (hd : o.dst = some d) (hx : evo σ x = some (.pointer (some ⟨b, i, none⟩)))
    (hsel : Sel H (pts b e cs) R) (hv : (cs.drop i).take k = vs) (hk : vs.length = k) (hdn : Nat.blt d n = true) (h : G n ds F K ((d, .agg vs.toArray) :: σ) H) : G n ds F (fun a w => o.wp P a w K Q) σ H :=
  op_run hd hdn (fun a w en s => by
    obtain ⟨h1, hp, hl⟩ := (s.sel hsel).get
    have := load_agg (P := P) (b := b) (i := i) hs (w := w) hk (fun j v hj => by
      rw [add_lit]
      refine hcell_at hl (pts_cell hp ?_)
      rw [← hv, List.getElem?_take] at hj
      split at hj
      · simpa using hj
      · cases hj)
    simp [execOp, ho, en.eval hx, this]) h

theorem store_cell {ad : Addr} {v u : Value} {t : TypeId} (hs : scal P t = true) {w : World} (hc : w.cell? ad = some u) (hf : w.frozen? ad = false) (h1 : v.oneCell' = true) : (Instr.storeAt t (.pointer (some ad)) v).run P w = .ok () (w.setCell ad v) := by
  have hcells : v.cells = #[v] := by cases v <;> simp [Value.oneCell'] at h1 <;> rfl
  simp [Instr.storeAt, Instr.sureAddr, storeVar, (scal_spec hs).2, hcells, storeCells, add_zero', run_store P w ad v .plain h1, hc, hf]
theorem op_store {t : TypeId} {x y : Operand} {b i : Nat} {e : TypeId} {cs : List Value} {f : HProp → List HProp} {v : Value} (hs : scal P t = true) (ho : o.op = .store t x y) (hd : o.dst = none) (hx : evo σ x = some (.pointer (some ⟨b, i, none⟩))) (hy : evo σ y = some v)
    (h1 : v.oneCell' = true) (hu : Pos H (pts b e cs) f) (hi : i < cs.length) (h : G n ds F K σ (f (pts b e (cs.set i v)))) : G n ds F (fun a w => o.wp P a w K Q) σ H := by
  refine .mk fun a w en s => ?_
  obtain ⟨R, s1, s2⟩ := hu.sel
  have sR := s.sel s1
  obtain ⟨hh, hp, hl⟩ := sR.get
  have hcell := hcell_at hl (pts_cell hp (List.getElem?_eq_getElem hi))
  have hst := store_cell (P := P) hs hcell (pts_free hp hi hl) h1
  unfold Oper.wp
  have : (execOp a.eval o).run P w = .ok .skip (w.setCell ⟨b, i, none⟩ v) := by simp [execOp, ho, en.eval hx, en.eval hy, hst]
  rw [this, Oper.upon_skip, hd]
  exact h _ _ en ((sR.setCell v).unsel (s2 _))

/-- several cells laid over, from i on -/
def setL : List Value → Nat → List Value → List Value
  | cs, _, [] => cs
  | cs, i, v :: vs => setL (cs.set i v) (i + 1) vs
theorem setL_length : ∀ (vs cs : List Value) (i : Nat), (setL cs i vs).length = cs.length := by
  intro vs; induction vs with
  | nil => intro cs i; rfl
  | cons v vs ih => intro cs i; simp [setL, ih]
theorem storeCells_st {b : Nat} {e : TypeId} {R : List HProp} : ∀ (vs : List Value) (i j : Nat) (cs : List Value) (w : World), St F (pts b e cs :: R) w → i + j + vs.length ≤ cs.length → (∀ v ∈ vs, v.oneCell' = true) →
    ∃ w', (storeCells ⟨b, i, none⟩ vs j).run P w = .ok () w' ∧ St F (pts b e (setL cs (i + j) vs) :: R) w' := by
  intro vs
  induction vs with
  | nil => intro i j cs w s _ _; exact ⟨w, by simp [storeCells], s⟩
  | cons v vs ih =>
    intro i j cs w s hl h1
    simp only [List.length_cons] at hl
    obtain ⟨hh, hp, hle⟩ := s.get
    have hlt : i + j < cs.length := by omega
    have hcell := hcell_at hle (pts_cell hp (List.getElem?_eq_getElem hlt))
    have hf := pts_free hp hlt hle
    have h1v := h1 v (by simp)
    obtain ⟨w', hr, s'⟩ := ih i (j + 1) (cs.set (i + j) v) _ (s.setCell (i := i + j) v) (by simp; omega) (fun u hu => h1 u (by simp [hu]))
    refine ⟨w', ?_, ?_⟩
    · simp [storeCells, add_lit, run_store P w _ v .plain h1v, hcell, hf, hr]
    · simpa [setL, Nat.add_assoc] using s'
theorem op_storeN {t k : TypeId} {x y : Operand} {b i : Nat} {e : TypeId} {cs vs : List Value} {f : HProp → List HProp} (hs : aggSz P t = some k) (ho : o.op = .store t x y) (hd : o.dst = none) (hx : evo σ x = some (.pointer (some ⟨b, i, none⟩))) (hy : evo σ y = some (.agg vs.toArray))
    (hk : vs.length = k) (h1 : ∀ v ∈ vs, v.oneCell' = true) (hu : Pos H (pts b e cs) f) (hi : i + vs.length ≤ cs.length) (h : G n ds F K σ (f (pts b e (setL cs i vs)))) : G n ds F (fun a w => o.wp P a w K Q) σ H := by
  refine .mk fun a w en s => ?_
  obtain ⟨R, s1, s2⟩ := hu.sel
  obtain ⟨w', hr, s'⟩ := storeCells_st (P := P) vs i 0 cs w (s.sel s1) (by omega) h1
  unfold Oper.wp
  have : (execOp a.eval o).run P w = .ok .skip w' := by
    simp [execOp, ho, en.eval hx, en.eval hy, Instr.storeAt, Instr.sureAddr, storeVar, (aggSz_spec hs).2, Value.cells, hk, hr]
  rw [this, Oper.upon_skip, hd]
  exact h _ _ en (s'.unsel (s2 _))

-- new blocks
theorem op_box {t : TypeId} {x : Operand} {v : Value} {cs : List Value} (ho : o.op = .box t x) (hd : o.dst = some d) (hx : evo σ x = some v) (hc : v.cells = cs.toArray) (hdn : Nat.blt d n = true)
    (h : ∀ b, G n ds F K ((d, .pointer (some ⟨b, 0, none⟩)) :: σ) (pts b t cs :: H)) : G n ds F (fun a w => o.wp P a w K Q) σ H := by
  refine .mk fun a w en s => ?_
  unfold Oper.wp
  have : (execOp a.eval o).run P w = .ok (.value (.pointer (some ⟨w.heap.size, 0, none⟩))) (w.alloc (.cells cs.toArray t)) := by
    simp [execOp, ho, en.eval hx, Instr.box, newVar, newRow, hc]
  rw [this, Oper.upon_value, hd]
  exact h _ _ _ (en.put hdn _) (s.new t cs)
def zeroCs (P : Program) (t : TypeId) : Option (List Value) := (P.info? t).bind fun i => i.zero.map fun z => z.cells.toList
theorem zeroCs_spec {t : TypeId} {cs : List Value} (h : zeroCs P t = some cs) {w : World} : ∃ z, (zeroValue t).run P w = .ok z w ∧ z.cells = cs.toArray := by
  unfold zeroCs at h
  cases hi : P.info? t with
  | none => simp [hi] at h
  | some i =>
    cases hz : i.zero with
    | none => simp [hi, hz] at h
    | some z =>
      simp [hi, hz] at h
      exact ⟨z, by simp [zeroValue, typeInfo, hi, hz], by rw [← h]⟩
theorem op_alloc {t : TypeId} {cs : List Value} (hz : zeroCs P t = some cs) (ho : o.op = .alloc t) (hd : o.dst = some d) (hdn : Nat.blt d n = true)
    (h : ∀ b, G n ds F K ((d, .pointer (some ⟨b, 0, none⟩)) :: σ) (pts b t cs :: H)) : G n ds F (fun a w => o.wp P a w K Q) σ H := by
  refine .mk fun a w en s => ?_
  obtain ⟨z, hr, hc⟩ := zeroCs_spec (P := P) hz (w := w)
  unfold Oper.wp
  have : (execOp a.eval o).run P w = .ok (.value (.pointer (some ⟨w.heap.size, 0, none⟩))) (w.alloc (.cells cs.toArray t)) := by
    simp [execOp, ho, Instr.alloc, newVar, newRow, hr, hc]
  rw [this, Oper.upon_value, hd]
  exact h _ _ _ (en.put hdn _) (s.new t cs)

-- calls
def InL : List HProp → Hp → Prop
  | [], _ => True
  | A :: r, h => (∃ k, A k ∧ Le k h) ∧ InL r h
theorem starL_InL : ∀ {H : List HProp} {h k : Hp}, starL H h → Le h k → InL H k := by
  intro H
  induction H with
  | nil => intro h k _ _; trivial
  | cons A r ih => intro h k s l; obtain ⟨h1, h2, _, l1, l2, a, s⟩ := s; exact ⟨⟨h1, a, l1.trans l⟩, ih s (l2.trans l)⟩
theorem starL_append : ∀ {A B : List HProp} {h : Hp}, starL (A ++ B) h → ∃ h1 h2, Disj h1 h2 ∧ Le h1 h ∧ Le h2 h ∧ starL A h1 ∧ starL B h2 := by
  intro A
  induction A with
  | nil => intro B h s; exact ⟨fun _ => none, h, fun _ => .inl rfl, fun b o e => by simp at e, Le.refl h, trivial, s⟩
  | cons X r ih =>
    intro B h s
    obtain ⟨h1, h2, d, l1, l2, a, s⟩ := s
    obtain ⟨h3, h4, d', l3, l4, s3, s4⟩ := ih s
    exact ⟨uni h1 h3, h4, Disj.uni (d.right l4) d', uni_le l1 (l3.trans l2), l4.trans l2, ⟨h1, h3, d.right l3, le_uni_left _ _, le_uni_right (d.right l3), a, s3⟩, s4⟩
theorem append_starL : ∀ {A B : List HProp} {h1 h2 : Hp}, starL A h1 → starL B h2 → Disj h1 h2 → starL (A ++ B) (uni h1 h2) := by
  intro A
  induction A with
  | nil => intro B h1 h2 _ s d; exact starL_mono s (le_uni_right d)
  | cons X r ih =>
    intro B h1 h2 s t d
    obtain ⟨h3, h4, d', l3, l4, a, s⟩ := s
    refine ⟨h3, uni h4 h2, (Disj.uni d'.symm (d.left l3).symm).symm, l3.trans (le_uni_left _ _), uni_le (l4.trans (le_uni_left _ _)) (le_uni_right d), a, ih s t (d.left l4)⟩

theorem run_call {ρ : Operand → Value} {f : FuncId} {xs : List Operand} {vs : List Value} {ats : Array TypeId} {w : World} {fn : Func} (ho : o.op = .call { callee := .value (.func f), args := xs.toArray, argTypes := ats })
    (hρ : ρ (.func f) = .func (.func f) #[] #[]) (hv : xs.map ρ = vs) (hf : P.funcs[f]? = some fn) (hb : fn.body.isSome = true) (hnm : (fn.name == "runtime.NumGoroutine") = false) :
    (execOp ρ o).run P w = .ok (.enter f vs.toArray) w := by
  have hnone : fn.body.isNone = false := by rw [← Option.not_isSome, hb]; rfl
  have hnm' : ¬ fn.name = "runtime.NumGoroutine" := by simpa using hnm
  have hb' : ¬ fn.body = none := by intro q; rw [q] at hb; cases hb
  simp [execOp, ho, resolve, hρ, Deferred.ofValue, invoke, callFunc, hf, ← hv]
  rw [if_neg hnm', if_neg hb']

def isFn (P : Program) (f : FuncId) : Bool := match P.funcs[f]? with | some fn => fn.body.isSome && !(fn.name == "runtime.NumGoroutine") | none => false
theorem op_call {f : FuncId} {xs : List Operand} {vs : List Value} {ats : Array TypeId} {pre : Hp → Prop} {As R : List HProp} {T : Value → List HProp → Prop} (hfn : isFn P f = true) (ho : o.op = .call { callee := .value (.func f), args := xs.toArray, argTypes := ats })
    (hd : o.dst = some d) (hv : evos σ xs = some vs) (hc : FnS P f vs pre As T) (hsel : Sels H As R) (hpre : ∀ h, Le F.h h → InL R h → pre h) (hdn : Nat.blt d n = true)
    (h : ∀ v H', T v H' → G n ds F K ((d, v) :: σ) (H' ++ R)) : G n ds F (fun a w => o.wp P a w K Q) σ H := by
  refine .mk fun a w en s => ?_
  unfold isFn at hfn
  cases hf : P.funcs[f]? with
  | none => simp [hf] at hfn
  | some fn =>
    simp only [hf, Bool.and_eq_true, Bool.not_eq_true'] at hfn
    unfold Oper.wp
    rw [run_call ho rfl (en.evals hv) hf hfn.1 hfn.2, Oper.upon_enter]
    obtain ⟨a1, a2, a3, fr, hh, st, hl, hdj⟩ := s
    obtain ⟨h1, h2, d12, l1, l2, s1, s2⟩ := starL_append (hsel.out _ st)
    have d2F : Disj h2 F.h := hdj.left l2
    let F' : Frm := { F with h := uni h2 F.h }
    have hFle : Le F.h F'.h := le_uni_right d2F
    have h2le : Le h2 F'.h := le_uni_left _ _
    have st' : St F' As w := ⟨a1, a2, a3, uni_le (l2.trans hl) fr, h1, s1, l1.trans hl, (Disj.uni d12.symm (hdj.left l1).symm).symm⟩
    refine (hc F' w (hpre _ hFle (starL_InL s2 h2le)) st').mono ?_
    rintro e w' ⟨v, H', rfl, hT, sw⟩
    obtain ⟨b1, b2, b3, fr', hh', st2, hl', hdj'⟩ := sw
    rw [hd]
    refine h v H' hT _ _ (en.put hdn v) ⟨b1, b2, b3, hFle.trans fr', uni hh' h2, append_starL st2 s2 (hdj'.right h2le), uni_le hl' (h2le.trans fr'), Disj.uni (hdj'.right hFle) d2F⟩
theorem op_call0 {f : FuncId} {xs : List Operand} {vs : List Value} {ats : Array TypeId} {pre : Hp → Prop} {As R : List HProp} {T : Value → List HProp → Prop} (hfn : isFn P f = true) (ho : o.op = .call { callee := .value (.func f), args := xs.toArray, argTypes := ats })
    (hd : o.dst = none) (hv : evos σ xs = some vs) (hc : FnS P f vs pre As T) (hsel : Sels H As R) (hpre : ∀ h, Le F.h h → InL R h → pre h)
    (h : ∀ v H', T v H' → G n ds F K σ (H' ++ R)) : G n ds F (fun a w => o.wp P a w K Q) σ H := by
  refine .mk fun a w en s => ?_
  unfold isFn at hfn
  cases hf : P.funcs[f]? with
  | none => simp [hf] at hfn
  | some fn =>
    simp only [hf, Bool.and_eq_true, Bool.not_eq_true'] at hfn
    unfold Oper.wp
    rw [run_call ho rfl (en.evals hv) hf hfn.1 hfn.2, Oper.upon_enter]
    obtain ⟨a1, a2, a3, fr, hh, st, hl, hdj⟩ := s
    obtain ⟨h1, h2, d12, l1, l2, s1, s2⟩ := starL_append (hsel.out _ st)
    have d2F : Disj h2 F.h := hdj.left l2
    let F' : Frm := { F with h := uni h2 F.h }
    have hFle : Le F.h F'.h := le_uni_right d2F
    have h2le : Le h2 F'.h := le_uni_left _ _
    have st' : St F' As w := ⟨a1, a2, a3, uni_le (l2.trans hl) fr, h1, s1, l1.trans hl, (Disj.uni d12.symm (hdj.left l1).symm).symm⟩
    refine (hc F' w (hpre _ hFle (starL_InL s2 h2le)) st').mono ?_
    rintro e w' ⟨v, H', rfl, hT, sw⟩
    obtain ⟨b1, b2, b3, fr', hh', st2, hl', hdj'⟩ := sw
    rw [hd]
    exact h v H' hT _ _ en ⟨b1, b2, b3, hFle.trans fr', uni hh' h2, append_starL st2 s2 (hdj'.right h2le), uni_le hl' (h2le.trans fr'), Disj.uni (hdj'.right hFle) d2F⟩
end rules
end Go.Eng
