/- The engine, part 7: the rules once more, with what is found by itself left out: short texts. -/
import Derived.Test.YtncmmhfgcgnojaaEng6
import Derived.KernelRfl
namespace Go.Eng
open Go

theorem nap {α : Type} (l : List α) : [] ++ l = l := rfl
theorem cap {α : Type} (a : α) (l m : List α) : (a :: l) ++ m = a :: (l ++ m) := rfl
theorem nrm {A B : Prop} (h : A) (f : A → B := by
    intro h
    first
      | (simp only [decide_eq_true_eq, decide_eq_false_iff_not, Bool.not_eq_true', Bool.not_eq_false', Bool.not_not, Bool.and_eq_true, Bool.or_eq_true, Bool.and_eq_false_iff, Bool.or_eq_false_iff, Int.not_lt, Int.not_le, Nat.not_lt, Nat.not_le, beq_iff_eq, bne_iff_ne, Bool.not_true, Bool.not_false] at h; exact h)
      | exact h) : B := f h

def gok (ops : Array Oper) (o : Oper) (σ : Slots) : Bool :=
  match o.guard with
  | none => true
  | some (j, b) => match (ops[j]?).bind (·.dst) with
    | some t => match look σ t with
      | some (.bool c) => match c, b with | true, true => true | false, false => true | _, _ => false
      | _ => false
    | none => false
def gno (ops : Array Oper) (o : Oper) (σ : Slots) : Bool :=
  match o.guard with
  | none => false
  | some (j, b) => match (ops[j]?).bind (·.dst) with
    | some t => match look σ t with
      | some (.bool c) => match c, b with | true, false => true | false, true => true | _, _ => false
      | some (.tuple vs) => vs.isEmpty
      | _ => false
    | none => false
section
variable {P : Program} {n : Nat} {ds : List Deferred} {F : Frm} {Q : Exit → Act → World → Prop} {K : Act → World → Prop} {σ : Slots} {H : List HProp} {o : Oper} {d : Nat} {ops : Array Oper} {rest : List Oper}
theorem gok_wanted {a : Act} (h : gok ops o σ = true) (e : Env n ds σ a) : Region.wanted o (yielded ops a.tmps) = true := by
  unfold gok at h
  unfold Region.wanted
  cases hg : o.guard with
  | none => rfl
  | some p =>
    obtain ⟨j, b⟩ := p
    simp only [hg] at h ⊢
    cases hj : (ops[j]?).bind (·.dst) with
    | none => rw [hj] at h; cases h
    | some t =>
      rw [hj] at h
      simp only at h
      cases ht : look σ t with
      | none => rw [ht] at h; cases h
      | some v =>
        rw [ht] at h
        cases v <;> simp at h
        rename_i c
        rw [yielded_of hj ht e]
        cases c <;> cases b <;> simp_all
theorem gno_wanted {a : Act} (h : gno ops o σ = true) (e : Env n ds σ a) : Region.wanted o (yielded ops a.tmps) = false := by
  unfold gno at h
  unfold Region.wanted
  cases hg : o.guard with
  | none => rw [hg] at h; cases h
  | some p =>
    obtain ⟨j, b⟩ := p
    simp only [hg] at h ⊢
    cases hj : (ops[j]?).bind (·.dst) with
    | none => rw [hj] at h; cases h
    | some t =>
      rw [hj] at h
      simp only at h
      cases ht : look σ t with
      | none => rw [ht] at h; cases h
      | some v =>
        rw [ht] at h
        cases v <;> simp at h
        · rename_i c
          rw [yielded_of hj ht e]
          cases c <;> cases b <;> simp_all
        · subst h
          have : yielded ops a.tmps j = none := by simp [yielded, hj, e.slot t _ ht]
          rw [this]; simp

-- list regions
theorem Lp (h : G n ds F (fun a w => o.wp P a w (wpList P ops Q rest) Q) σ H) (hg : gok ops o σ = true := by exact rfl) : G n ds F (wpList P ops Q (o :: rest)) σ H :=
  .mk fun a w e s => wpList_step fun K hK => by
    rw [if_pos (gok_wanted hg e)]
    exact Oper.wp_mono hK (h a w e s)
theorem Li {v : Value} (hy : Yv P n ds F σ o v) (h : G n ds F (wpList P ops Q rest) ((d, v) :: σ) H) (hg : gok ops o σ = true := by exact rfl) (hd : o.dst = some d := by exact rfl) (hdn : Nat.blt d n = true := by exact rfl) :
    G n ds F (wpList P ops Q (o :: rest)) σ H := Lp (op_y hy hd hdn h) hg
theorem Lx (h : G n ds F (wpList P ops Q rest) ((d, undef) :: σ) H) (hg : gno ops o σ = true := by exact rfl) (hd : o.dst = some d := by exact rfl) (hdn : Nat.blt d n = true := by exact rfl) : G n ds F (wpList P ops Q (o :: rest)) σ H :=
  .mk fun a w e s => wpList_step fun K hK => by
    rw [if_neg (by simp [gno_wanted hg e]), hd]
    exact hK _ _ (h _ w (e.put hdn undef) s)
theorem Lx0 (h : G n ds F (wpList P ops Q rest) σ H) (hg : gno ops o σ = true := by exact rfl) (hd : o.dst = none := by exact rfl) : G n ds F (wpList P ops Q (o :: rest)) σ H :=
  .mk fun a w e s => wpList_step fun K hK => by
    rw [if_neg (by simp [gno_wanted hg e]), hd]
    exact hK _ _ (h _ w e s)
theorem g_sr {id : Nat} {l : List Oper} {y : Code} (h : G n ds F (wpList P l.toArray (Exit.then (y.wp P Q) Q) l) σ H) : G n ds F ((Code.seq (Code.region id l.toArray false) y).wp P Q) σ H := g_seq (g_region h)
theorem g_ne {K : Act → World → Prop} (h : G n ds F K σ H) : G n ds F (wpList P ops (Exit.then K Q) []) σ H := g_nil (e_then h)

-- regions that draw
theorem g_drw {id : Nat} {As R : List HProp} (hm : P.follows .mixedOrders = true) (hsel : Sels H As R)
    (h : ∀ F' : Frm, Le F.h F'.h → InL As F'.h → Back F As F' → G n ds F' (wpAnyH P .any ops Q (FrameOk F') ops.size (Array.replicate ops.size false)) σ R) : G n ds F ((Code.region id ops true).wp P Q) σ H := g_draw hm rfl hsel h
def tkOk (ops : Array Oper) (listed : Array Bool) (i : Nat) : Bool := Region.noSelect ops && (Region.ready .any ops listed).contains i && Region.free .any ops listed i
theorem tkOk_spec {listed : Array Bool} {i : Nat} (h : tkOk ops listed i = true) : takeOk ops listed i (listed.setIfInBounds i true) = true := by
  unfold takeOk; unfold tkOk at h; rw [h]; simp
theorem Dt {listed : Array Bool} {fuel : Nat} {oi : Oper} {v : Value} (i : Nat) (hi : ops[i]? = some oi) (hy : Yv P n ds F σ oi v) (h : G n ds F (wpAnyH P .any ops Q (FrameOk F) fuel (listed.setIfInBounds i true)) ((d, v) :: σ) H)
    (hok : tkOk ops listed i = true := by kernel_rfl) (po : PanicOk Q := by repeat (first | with_reducible exact po_body | with_reducible apply po_then | with_reducible apply po_block | exact fun _ _ _ _ _ q => q)) (hg : gok ops oi σ = true := by exact rfl) (hd : oi.dst = some d := by exact rfl) (hdn : Nat.blt d n = true := by exact rfl) :
    G n ds F (wpAnyH P .any ops Q (FrameOk F) (fuel + 1) listed) σ H :=
  gh_takeY (tkOk_spec hok) hi po (fun a e => .inl ⟨gok_wanted hg e, fun w hw => hy a w e hw⟩) (fun a e => by rw [hd]; exact e.put hdn v) h
theorem Dx {listed : Array Bool} {fuel : Nat} {oi : Oper} (i : Nat) (h : G n ds F (wpAnyH P .any ops Q (FrameOk F) fuel (listed.setIfInBounds i true)) ((d, undef) :: σ) H)
    (hok : tkOk ops listed i = true := by kernel_rfl) (hi : ops[i]? = some oi := by exact rfl) (po : PanicOk Q := by repeat (first | with_reducible exact po_body | with_reducible apply po_then | with_reducible apply po_block | exact fun _ _ _ _ _ q => q)) (hg : gno ops oi σ = true := by exact rfl) (hd : oi.dst = some d := by exact rfl) (hdn : Nat.blt d n = true := by exact rfl) :
    G n ds F (wpAnyH P .any ops Q (FrameOk F) (fuel + 1) listed) σ H :=
  gh_takeY (tkOk_spec hok) hi po (fun a e => .inr ⟨gno_wanted hg e, rfl⟩) (fun a e => by rw [hd]; exact e.put hdn undef) h
theorem Dx0 {listed : Array Bool} {fuel : Nat} {oi : Oper} (i : Nat) (h : G n ds F (wpAnyH P .any ops Q (FrameOk F) fuel (listed.setIfInBounds i true)) σ H)
    (hok : tkOk ops listed i = true := by kernel_rfl) (hi : ops[i]? = some oi := by exact rfl) (po : PanicOk Q := by repeat (first | with_reducible exact po_body | with_reducible apply po_then | with_reducible apply po_block | exact fun _ _ _ _ _ q => q)) (hg : gno ops oi σ = true := by exact rfl) (hd : oi.dst = none := by exact rfl) :
    G n ds F (wpAnyH P .any ops Q (FrameOk F) (fuel + 1) listed) σ H :=
  gh_takeY (tkOk_spec hok) hi po (fun a e => .inr ⟨gno_wanted hg e, rfl⟩) (fun a e => by rw [hd]; exact e) h
theorem Dn {listed : Array Bool} {fuel : Nat} {S : World → Prop} (i : Nat) (h : G n ds F (wpOp P ops Q i (fun a' w' => S w' ∧ wpAnyH P .any ops Q S fuel (listed.setIfInBounds i true) a' w')) σ H) (hr : Region.ready .any ops listed = [i] := by kernel_rfl) :
    G n ds F (wpAnyH P .any ops Q S (fuel + 1) listed) σ H := gh_one hr h
theorem D2 {listed : Array Bool} {fuel : Nat} {S : World → Prop} (i j : Nat)
    (h1 : G n ds F (wpOp P ops Q i (fun a' w' => S w' ∧ wpAnyH P .any ops Q S fuel (listed.setIfInBounds i true) a' w')) σ H)
    (h2 : G n ds F (wpOp P ops Q j (fun a' w' => S w' ∧ wpAnyH P .any ops Q S fuel (listed.setIfInBounds j true) a' w')) σ H) (hr : Region.ready .any ops listed = [i, j] := by kernel_rfl) : G n ds F (wpAnyH P .any ops Q S (fuel + 1) listed) σ H := gh_two hr h1 h2
theorem Do {i : Nat} {oi : Oper} {K : Act → World → Prop} (hi : ops[i]? = some oi) (h : G n ds F (fun a w => oi.wp P a w K Q) σ H) (hg : gok ops oi σ = true := by exact rfl) : G n ds F (wpOp P ops Q i K) σ H := by
  refine .mk fun a w e s => ?_
  unfold wpOp
  simp only [hi, gok_wanted hg e, if_true]
  exact .inl (h a w e s)

-- pure operations
theorem Mv {x : Operand} {v : Value} (ho : o.op = .move x := by exact rfl) (hx : evo σ x = some v := by exact rfl) : Yv P n ds F σ o v := y_move ho hx
theorem As {x : Operand} {v : Value} (ho : o.op = .assign x := by exact rfl) (hx : evo σ x = some v := by exact rfl) : Yv P n ds F σ o v := y_assign ho hx
theorem Pt {c x y : Operand} {b : Bool} {v : Value} (ho : o.op = .pick c x y := by exact rfl) (hc : evo σ c = some (.bool b) := by exact rfl) (hb : b = true := by exact rfl) (hx : evo σ x = some v := by exact rfl) : Yv P n ds F σ o v := y_pick_t ho hc hb hx
theorem Pf {c x y : Operand} {b : Bool} {v : Value} (ho : o.op = .pick c x y := by exact rfl) (hc : evo σ c = some (.bool b) := by exact rfl) (hb : b = false := by exact rfl) (hx : evo σ y = some v := by exact rfl) : Yv P n ds F σ o v := y_pick_f ho hc hb hx
theorem Nc {x : Operand} {ad : Addr} (ho : o.op = .nilCheck x := by exact rfl) (hx : evo σ x = some (.pointer (some ad)) := by exact rfl) : Yv P n ds F σ o (.pointer (some ad)) := y_nilCheck ho hx
theorem Ncm {x : Operand} {a : Option Addr} {j : Nat} (ho : o.op = .nilCheck x := by exact rfl) (hx : evo σ x = some (.pointer (a.map (·.add j))) := by exact rfl) (hs : a.isSome = true := by first | rfl | assumption | exact Rdl.some_b (by assumption) (by omega)) : Yv P n ds F σ o (.pointer (a.map (·.add j))) := y_nilCheck_map ho hx hs
theorem Fa {s f k b i : Nat} {x : Operand} (hk : fldOff P s f = some k) (ho : o.op = .fieldAddr s x f := by exact rfl) (hx : evo σ x = some (.pointer (some ⟨b, i, none⟩)) := by exact rfl) : Yv P n ds F σ o (.pointer (some ⟨b, i + k, none⟩)) := y_fieldAddr hk ho hx
theorem Fam {s f k j : Nat} {x : Operand} {a : Option Addr} (hk : fldOff P s f = some k) (ho : o.op = .fieldAddr s x f := by exact rfl) (hx : evo σ x = some (.pointer (a.map (·.add j))) := by exact rfl) (hs : a.isSome = true := by first | rfl | assumption | exact Rdl.some_b (by assumption) (by omega)) : Yv P n ds F σ o (.pointer (a.map (·.add (j + k)))) :=
  y_fieldAddr_map hk ho hx hs
theorem Ix {t e sz m : Nat} {x y : Operand} {a : Option Addr} {l c j : Nat} {k : IntKind} {i : Int} (ht : slElem P t = some (e, sz)) (ho : o.op = .indexAddr t x y := by exact rfl) (hx : evo σ x = some (.slice a l c) := by exact rfl) (hy : evo σ y = some (.int k i) := by exact rfl)
    (hj : i = (j : Int) := by exact rfl) (hl : j < l := by first | omega | (simp only [List.length_append, List.length_cons, List.length_nil, List.length_take, List.length_drop]; omega)) (hm : j * sz = m := by first | exact Nat.mul_one _ | rfl) (hs : a.isSome = true := by first | rfl | assumption | exact Rdl.some_b (by assumption) (by omega)) :
    Yv P n ds F σ o (.pointer (a.map (·.add m))) := y_index ht ho hx hy hj hl hm hs
theorem Is {t : TypeId} {x y : Operand} {s : List UInt8} {j : Nat} {k : IntKind} {i : Int} {c : UInt8} (ht : P.underlying t = some .string) (ho : o.op = .index t x y := by exact rfl) (hx : evo σ x = some (strv s) := by exact rfl) (hy : evo σ y = some (.int k i) := by exact rfl)
    (hj : i = (j : Int) := by exact rfl) (hc : s[j]? = some c := by assumption) : Yv P n ds F σ o (.int .u8 c.toNat) := y_indexS ht ho hx hy hj hc
theorem Ex {x : Operand} {i : Nat} {vs : Array Value} {v : Value} (ho : o.op = .extract x i := by exact rfl) (hx : evo σ x = some (.tuple vs) := by exact rfl) (hv : vs.toList[i]? = some v := by exact rfl) : Yv P n ds F σ o v := y_extract ho hx hv
theorem Nt {t : TypeId} {x : Operand} {b : Bool} (ho : o.op = .unOp .not t x := by exact rfl) (hx : evo σ x = some (.bool b) := by exact rfl) : Yv P n ds F σ o (.bool (!b)) := y_not ho hx
theorem Ng {t : TypeId} {x : Operand} {k : IntKind} {i z : Int} (ho : o.op = .unOp .neg t x := by exact rfl) (hx : evo σ x = some (.int k i) := by exact rfl) (hz : k.wrap (0 - i) = z := by first | exact wrap_i64 (by omega) | rfl) : Yv P n ds F σ o (.int k z) := y_neg ho hx hz
theorem Im {op : BinOp} {t yt : TypeId} {x y : Operand} {k : IntKind} {i j z : Int} (ho : o.op = .binOp op t x y yt := by exact rfl) (hx : evo σ x = some (.int k i) := by exact rfl) (hy : evo σ y = some (.int k j) := by exact rfl)
    (hz : intOp op k i j = some z := by first | exact congrArg some (wrap_i64 (by omega)) | exact congrArg some (wrap_u64 (by omega)) | exact congrArg some (wrap_u32 (by omega)) | exact congrArg some (wrap_u16 (by omega)) | exact congrArg some (wrap_u8 (by omega)) | exact congrArg some (wrap_i32 (by omega)) | exact rfl) : Yv P n ds F σ o (.int k z) := y_int ho hx hy hz
theorem Cm {op : BinOp} {t yt : TypeId} {x y : Operand} {k : IntKind} {i j : Int} {b : Bool} (ho : o.op = .binOp op t x y yt := by exact rfl) (hx : evo σ x = some (.int k i) := by exact rfl) (hy : evo σ y = some (.int k j) := by exact rfl) (hz : cmpOp op i j = some b := by exact rfl) : Yv P n ds F σ o (.bool b) := y_cmp ho hx hy hz
theorem Sh {t yt : TypeId} {x y : Operand} {k k' : IntKind} {i j z : Int} (s : Nat) (ho : o.op = .binOp .shl t x y yt := by exact rfl) (hx : evo σ x = some (.int k i) := by exact rfl) (hy : evo σ y = some (.int k' j) := by exact rfl) (hj : j = (s : Int) := by exact rfl) (hz : k.wrap (i * 2 ^ (min s k.bits)) = z := by exact rfl) : Yv P n ds F σ o (.int k z) := y_shl ho hx hy hj hz
theorem Sr {t yt : TypeId} {x y : Operand} {k k' : IntKind} {i j z : Int} (s : Nat) (ho : o.op = .binOp .shr t x y yt := by exact rfl) (hx : evo σ x = some (.int k i) := by exact rfl) (hy : evo σ y = some (.int k' j) := by exact rfl) (hj : j = (s : Int) := by exact rfl) (hz : i.fdiv (2 ^ (min s k.bits)) = z := by exact rfl) : Yv P n ds F σ o (.int k z) := y_shr ho hx hy hj hz
theorem Cv {s t : TypeId} {x : Operand} {k k' : IntKind} {i z : Int} (ht : P.underlying t = some (.int k)) (hs : (P.underlying s).isSome = true) (ho : o.op = .convert s t x := by exact rfl) (hx : evo σ x = some (.int k' i) := by exact rfl)
    (hz : k.wrap i = z := by first | exact wrap_i64 (by omega) | exact wrap_u64 (by omega) | exact wrap_u32 (by omega) | exact wrap_u16 (by omega) | exact wrap_u8 (by omega) | exact wrap_i32 (by omega) | exact rfl) : Yv P n ds F σ o (.int k z) := y_conv ht hs ho hx hz
theorem Bq {op : BinOp} {t yt : TypeId} {x y : Operand} {i j b : Bool} (ht : P.underlying t = some .bool) (ho : o.op = .binOp op t x y yt := by exact rfl) (hx : evo σ x = some (.bool i) := by exact rfl) (hy : evo σ y = some (.bool j) := by exact rfl)
    (hop : (op = .eql ∧ b = (i == j)) ∨ (op = .neq ∧ b = (i != j)) := by first | exact .inl ⟨rfl, rfl⟩ | exact .inr ⟨rfl, rfl⟩) : Yv P n ds F σ o (.bool b) := y_boolEq ht ho hx hy hop
theorem Sq {op : BinOp} {t yt : TypeId} {x y : Operand} {i j : List UInt8} {b : Bool} (ho : o.op = .binOp op t x y yt := by exact rfl) (hx : evo σ x = some (strv i) := by exact rfl) (hy : evo σ y = some (strv j) := by exact rfl)
    (hop : (op = .eql ∧ b = decide (i = j)) ∨ (op = .neq ∧ b = !decide (i = j)) := by first | exact .inl ⟨rfl, rfl⟩ | exact .inr ⟨rfl, rfl⟩) : Yv P n ds F σ o (.bool b) := y_strEq ho hx hy hop
theorem Pn {op : BinOp} {t yt e : TypeId} {x y : Operand} {p : Option Addr} {b : Bool} (ht : P.underlying t = some (.pointer e)) (ho : o.op = .binOp op t x y yt := by exact rfl) (hx : evo σ x = some (.pointer p) := by exact rfl) (hy : evo σ y = some (.pointer none) := by exact rfl)
    (hop : (op = .eql ∧ b = p.isNone) ∨ (op = .neq ∧ b = !p.isNone) := by first | exact .inl ⟨rfl, rfl⟩ | exact .inr ⟨rfl, rfl⟩) : Yv P n ds F σ o (.bool b) := y_ptrNil ht ho hx hy hop
theorem Ln {t : TypeId} {x : Operand} {a : Option Addr} {l c : Nat} {ek : TypeId × Nat} (ht : slElem P t = some ek) (ho : o.op = .call { callee := .builtin .len, args := #[x], argTypes := #[t] } := by exact rfl) (hx : evo σ x = some (.slice a l c) := by exact rfl) : Yv P n ds F σ o (.int .i64 l) := y_len ht ho hx
theorem Ls {t : TypeId} {x : Operand} {l : List UInt8} (ht : P.underlying t = some .string) (ho : o.op = .call { callee := .builtin .len, args := #[x], argTypes := #[t] } := by exact rfl) (hx : evo σ x = some (strv l) := by exact rfl) : Yv P n ds F σ o (.int .i64 l.length) := y_lenS ht ho hx
theorem Mi {x y : Operand} {k : IntKind} {i j : Int} {ats : Array TypeId} (ho : o.op = .call { callee := .builtin .min, args := #[x, y], argTypes := ats } := by exact rfl) (hx : evo σ x = some (.int k i) := by exact rfl) (hy : evo σ y = some (.int k j) := by exact rfl) : Yv P n ds F σ o (.int k (min i j)) := y_min ho hx hy
theorem Ma {x y : Operand} {k : IntKind} {i j : Int} {ats : Array TypeId} (ho : o.op = .call { callee := .builtin .max, args := #[x, y], argTypes := ats } := by exact rfl) (hx : evo σ x = some (.int k i) := by exact rfl) (hy : evo σ y = some (.int k j) := by exact rfl) : Yv P n ds F σ o (.int k (max i j)) := y_max ho hx hy
theorem Bd {t : TypeId} {pl : List (Nat × Nat)} {zs vs cs : List Value} {parts : List (Nat × Operand)} (hz : zeroCs P t = some zs) (hpl : stPl P t = some pl) (ho : o.op = .build t parts.toArray := by exact rfl) (hv : evos σ (parts.map (·.2)) = some vs := by exact rfl)
    (hc : fillL (fun i => pl[i]?) zs ((parts.map (·.1)).zip vs) = some cs := by exact rfl) : Yv P n ds F σ o (.agg cs.toArray) := y_build hz hpl ho hv hc
theorem Sl {t e sz : TypeId} {x : Operand} {lo hi mx : Option Operand} {a : Option Addr} {len cap : Nat} (l hh m : Nat) (ht : slElem P t = some (e, sz)) (ho : o.op = .slice t x lo hi mx := by exact rfl) (hx : evo σ x = some (.slice a len cap) := by exact rfl)
    (hbl : bnd σ lo 0 l := by first | exact rfl | exact ⟨_, _, rfl, rfl⟩ | exact ⟨_, _, rfl, by omega⟩) (hbh : bnd σ hi len hh := by first | exact rfl | exact ⟨_, _, rfl, rfl⟩ | exact ⟨_, _, rfl, by omega⟩) (hbm : bnd σ mx cap m := by first | exact rfl | exact ⟨_, _, rfl, rfl⟩ | exact ⟨_, _, rfl, by omega⟩)
    (h1 : l ≤ hh := by first | omega | (simp; omega)) (h2 : hh ≤ m := by first | omega | (simp; omega)) (h3 : m ≤ cap := by first | omega | (simp; omega)) (hmx : mx.isSome = true → hi.isSome = true := by simp) : Yv P n ds F σ o (.slice (cutA a l m (l * sz)) (hh - l) (m - l)) := y_slice l hh m ht ho hx hbl hbh hbm h1 h2 h3 hmx
theorem Ss {t : TypeId} {x : Operand} {lo hi : Option Operand} {s : List UInt8} (l hh : Nat) (ht : P.underlying t = some .string) (ho : o.op = .slice t x lo hi none := by exact rfl) (hx : evo σ x = some (strv s) := by exact rfl)
    (hbl : bnd σ lo 0 l := by first | exact rfl | exact ⟨_, _, rfl, rfl⟩ | exact ⟨_, _, rfl, by omega⟩) (hbh : bnd σ hi s.length hh := by first | exact rfl | exact ⟨_, _, rfl, rfl⟩ | exact ⟨_, _, rfl, by omega⟩)
    (h1 : l ≤ hh := by first | omega | (simp; omega)) (h2 : hh ≤ s.length := by first | omega | (simp; omega)) : Yv P n ds F σ o (strv ((s.drop l).take (hh - l))) := y_sliceS l hh ht ho hx hbl hbh h1 h2
theorem Ts {s t : TypeId} {x : Operand} {a : Option Addr} {l : List UInt8} {m c sz : Nat} {e : TypeId} (hs : slElem P s = some (e, sz)) (he : P.underlying e = some (.int .u8)) (ht : P.underlying t = some .string) (ho : o.op = .convert s t x := by exact rfl)
    (hx : evo σ x = some (.slice a m c) := by exact rfl) (hm : m = l.length := by first | rfl | assumption) (hr : Rdl F.h a (bcells l) := by assumption) : Yv P n ds F σ o (strv l) := y_toString hs he ht ho hx hm hr
theorem Cs {s t : TypeId} {x : Operand} {l : List UInt8} (hs : P.underlying s = some .string) (ht : P.underlying t = some .string) (ho : o.op = .convert s t x := by exact rfl) (hx : evo σ x = some (strv l) := by exact rfl) : Yv P n ds F σ o (strv l) := y_convS hs ht ho hx

-- arrays
def arT (P : Program) (t : TypeId) : Option (Nat × TypeId × Nat) :=
  match P.underlying t with
  | some (.array k e) => match P.info? e with
    | some i => some (k, e, i.size)
    | none => none
  | _ => none
theorem y_indexA {t e sz k m b i j : Nat} {x y : Operand} {kd : IntKind} {z : Int} (ht : arT P t = some (k, e, sz)) (ho : o.op = .indexAddr t x y) (hx : evo σ x = some (.pointer (some ⟨b, i, none⟩))) (hy : evo σ y = some (.int kd z)) (hj : z = (j : Int)) (hl : j < k) (hm : j * sz = m) : Yv P n ds F σ o (.pointer (some ⟨b, i + m, none⟩)) :=
  fun a w en fr => by
    unfold arT at ht
    cases hu : P.underlying t with
    | none => simp [hu] at ht
    | some dsc =>
      cases dsc <;> simp [hu] at ht
      rename_i k' e'
      cases hi : P.info? e' with
      | none => simp [hi] at ht
      | some inf =>
        simp [hi] at ht
        obtain ⟨rfl, rfl, rfl⟩ := ht
        subst hj; subst hm
        simp [execOp, ho, Instr.indexAt, en.eval hx, en.eval hy, asIntOf, run_underlying hu, sizeOf, typeInfo, hi, hl, add_lit, Instr.sureAddr]
theorem Ia {t e sz k m b i j : Nat} {x y : Operand} {kd : IntKind} {z : Int} (ht : arT P t = some (k, e, sz)) (ho : o.op = .indexAddr t x y := by exact rfl) (hx : evo σ x = some (.pointer (some ⟨b, i, none⟩)) := by exact rfl) (hy : evo σ y = some (.int kd z) := by exact rfl) (hj : z = (j : Int) := by exact rfl)
    (hl : j < k := by omega) (hm : j * sz = m := by first | exact Nat.mul_one _ | rfl) : Yv P n ds F σ o (.pointer (some ⟨b, i + m, none⟩)) := y_indexA ht ho hx hy hj hl hm

-- what is known of a cell
def PKn (F : Frm) (H : List HProp) (p : Option Addr) (v : Value) : Prop := ∃ ad, p = some ad ∧ ∀ h, Le F.h h → InL H h → hcell h ad = some v
theorem sel_in {A : HProp} {R : List HProp} (s : Sel H A R) : ∀ h, InL H h → ∃ k, A k ∧ Le k h := by
  induction s with
  | here => exact fun h x => x.1
  | there _ ih => exact fun h x => ih h x.2
theorem kn_pts {b i : Nat} {e : TypeId} {cs : List Value} {R : List HProp} {v : Value} (s : Sel H (pts b e cs) R) (hv : cs[i]? = some v) : PKn F H (some ⟨b, i, none⟩) v :=
  ⟨_, rfl, fun h _ hin => by obtain ⟨k, p, l⟩ := sel_in s h hin; exact hcell_mono l (pts_cell p hv)⟩
theorem kn_own {a : Option Addr} {k cap e sz : Nat} {v : Value} {cells : List Value} {R : List HProp} (hs : a.isSome = true) (s : Sel H (own a cap e sz cells) R) (hv : cells[k]? = some v) : PKn F H (a.map (·.add k)) v := by
  obtain ⟨ad, rfl⟩ := Option.isSome_iff_exists.1 hs
  refine ⟨_, rfl, fun h _ hin => ?_⟩
  obtain ⟨m, p, l⟩ := sel_in s h hin
  obtain ⟨ad', e1, e2⟩ := own_rdl p k v hv
  cases e1
  exact hcell_mono l e2
theorem kn_fp {b i : Nat} {e : TypeId} {cs : List Value} {v : Value} (hp : ∃ k, pts b e cs k ∧ Le k F.h) (hv : cs[i]? = some v) : PKn F H (some ⟨b, i, none⟩) v := by
  obtain ⟨k, p, l⟩ := hp
  exact ⟨_, rfl, fun h le _ => hcell_mono (l.trans le) (pts_cell p hv)⟩
theorem kn_fr {a : Option Addr} {k : Nat} {v : Value} {cells : List Value} (hr : Rdl F.h a cells) (hv : cells[k]? = some v) : PKn F H (a.map (·.add k)) v := by
  obtain ⟨ad, rfl, hc⟩ := hr k v hv
  exact ⟨_, rfl, fun h le _ => hcell_mono le hc⟩
theorem kn_fb {a : Option Addr} {k : Nat} {l : List UInt8} (hr : Rdl F.h a (bcells l)) (hk : k < l.length) : PKn F H (a.map (·.add k)) (.int .u8 (byt l k : Int)) := kn_fr hr (bcells_at hk)
theorem kn_f {ad : Addr} {v : Value} (hv : hcell F.h ad = some v) : PKn F H (some ad) v := ⟨_, rfl, fun h le _ => hcell_mono le hv⟩
/-- a load -/
theorem oL {t : TypeId} {x : Operand} {p : Option Addr} {v : Value} (hs : scal P t = true) (h : G n ds F K ((d, v) :: σ) H) (ho : o.op = .load t x := by exact rfl) (hd : o.dst = some d := by exact rfl) (hx : evo σ x = some (.pointer p) := by exact rfl)
    (hk : PKn F H p v := by
      first
        | exact kn_pts (by repeat (first | exact Sel.here | apply Sel.there)) (by first | exact rfl | assumption)
        | exact kn_fr (by assumption) (by first | assumption | exact rfl)
        | exact kn_fb (by assumption) (by omega)
        | exact kn_fp (by assumption) (by first | exact rfl | assumption)
        | exact kn_own (by first | rfl | assumption) (by repeat (first | exact Sel.here | apply Sel.there)) (by first | assumption | exact rfl)
        | exact kn_f (by assumption)) (hdn : Nat.blt d n = true := by exact rfl) : G n ds F (fun a w => o.wp P a w K Q) σ H := by
  obtain ⟨ad, rfl, hv⟩ := hk
  exact op_loadK hs ho hd hx (fun w s => by obtain ⟨hh, st, le, _⟩ := s.own; exact hv _ s.frame (starL_InL st le)) hdn h
/-- a load that leans on the frame alone -/
theorem Lf {t : TypeId} {x : Operand} {p : Option Addr} {v : Value} (hs : scal P t = true) (ho : o.op = .load t x := by exact rfl) (hx : evo σ x = some (.pointer p) := by exact rfl)
    (hk : PKn F [] p v := by
      first
        | exact kn_fr (by assumption) (by first | assumption | exact rfl)
        | exact kn_fb (by assumption) (by omega)
        | exact kn_fp (by assumption) (by first | exact rfl | assumption)
        | exact kn_f (by assumption)) : Yv P n ds F σ o v := by
  obtain ⟨ad, rfl, hv⟩ := hk
  exact y_loadF hs ho hx (hv _ (Le.refl _) trivial)
-- several cells
def PKnN (F : Frm) (H : List HProp) (p : Option Addr) (_k : Nat) (vs : List Value) : Prop := ∃ ad, p = some ad ∧ ∀ h, Le F.h h → InL H h → ∀ j v, vs[j]? = some v → hcell h (ad.add j) = some v
theorem take_get {cs vs : List Value} {i k j : Nat} {v : Value} (hv : (cs.drop i).take k = vs) (hj : vs[j]? = some v) : cs[i + j]? = some v := by
  rw [← hv, List.getElem?_take] at hj
  split at hj
  · simpa using hj
  · cases hj
theorem knN_pts {b i k : Nat} {e : TypeId} {cs vs : List Value} {R : List HProp} (s : Sel H (pts b e cs) R) (hv : (cs.drop i).take k = vs) : PKnN F H (some ⟨b, i, none⟩) k vs :=
  ⟨_, rfl, fun h _ hin j v hj => by obtain ⟨m, p, l⟩ := sel_in s h hin; rw [add_lit]; exact hcell_mono l (pts_cell p (take_get hv hj))⟩
theorem knN_ptsA {b k : Nat} {e : TypeId} {cs : List Value} {R : List HProp} (s : Sel H (pts b e cs) R) (hv : cs.length = k) : PKnN F H (some ⟨b, 0, none⟩) k cs :=
  knN_pts s (by rw [List.drop_zero, List.take_of_length_le (by omega)])
theorem knN_fp {b i k : Nat} {e : TypeId} {cs vs : List Value} (hp : ∃ m, pts b e cs m ∧ Le m F.h) (hv : (cs.drop i).take k = vs) : PKnN F H (some ⟨b, i, none⟩) k vs := by
  obtain ⟨m, p, l⟩ := hp
  exact ⟨_, rfl, fun h le _ j v hj => by rw [add_lit]; exact hcell_mono (l.trans le) (pts_cell p (take_get hv hj))⟩
theorem knN_fr {a : Option Addr} {i k : Nat} {cells vs : List Value} (hr : Rdl F.h a cells) (hv : (cells.drop i).take k = vs) (h0 : a.isSome = true) : PKnN F H (a.map (·.add i)) k vs := by
  obtain ⟨ad, rfl⟩ := Option.isSome_iff_exists.1 h0
  refine ⟨_, rfl, fun h le _ j v hj => ?_⟩
  obtain ⟨ad', e1, e2⟩ := hr _ v (take_get hv hj)
  cases e1
  rw [add_add]; exact hcell_mono le e2
theorem knN_own {a : Option Addr} {i k cap e sz : Nat} {cells vs : List Value} {R : List HProp} (h0 : a.isSome = true) (s : Sel H (own a cap e sz cells) R) (hv : (cells.drop i).take k = vs) : PKnN F H (a.map (·.add i)) k vs := by
  obtain ⟨ad, rfl⟩ := Option.isSome_iff_exists.1 h0
  refine ⟨_, rfl, fun h _ hin j v hj => ?_⟩
  obtain ⟨m, p, l⟩ := sel_in s h hin
  obtain ⟨ad', e1, e2⟩ := own_rdl p _ v (take_get hv hj)
  cases e1
  rw [add_add]; exact hcell_mono l e2
theorem op_loadKN {t k : TypeId} {x : Operand} {p : Option Addr} {vs : List Value} (hs : aggSz P t = some k) (ho : o.op = .load t x) (hd : o.dst = some d) (hx : evo σ x = some (.pointer p)) (hk : PKnN F H p k vs) (hl : vs.length = k) (hdn : Nat.blt d n = true)
    (h : G n ds F K ((d, .agg vs.toArray) :: σ) H) : G n ds F (fun a w => o.wp P a w K Q) σ H := by
  obtain ⟨ad, rfl, hv⟩ := hk
  refine op_run hd hdn (fun ac w en s => ?_) h
  obtain ⟨hh, st, le, _⟩ := s.own
  have hc := hv _ s.frame (starL_InL st le)
  subst hl
  simp [execOp, ho, en.eval hx, Instr.loadAt, Instr.sureAddr, loadVar, (aggSz_spec hs).1, (aggSz_spec hs).2, run_loadCells_list w _ vs hc]
theorem oLN {t k : TypeId} {x : Operand} {p : Option Addr} {vs : List Value} (hs : aggSz P t = some k) (h : G n ds F K ((d, .agg vs.toArray) :: σ) H) (ho : o.op = .load t x := by exact rfl) (hd : o.dst = some d := by exact rfl) (hx : evo σ x = some (.pointer p) := by exact rfl)
    (hk : PKnN F H p k vs := by
      first
        | exact knN_ptsA (by repeat (first | exact Sel.here | apply Sel.there)) (by exact rfl)
        | exact knN_pts (by repeat (first | exact Sel.here | apply Sel.there)) (by exact rfl)
        | exact knN_fr (by assumption) (by first | assumption | exact rfl) (by first | rfl | assumption)
        | exact knN_fp (by assumption) (by exact rfl)
        | exact knN_own (by first | rfl | assumption) (by repeat (first | exact Sel.here | apply Sel.there)) (by first | assumption | exact rfl))
    (hl : vs.length = k := by first | rfl | (simp; omega)) (hdn : Nat.blt d n = true := by exact rfl) : G n ds F (fun a w => o.wp P a w K Q) σ H := op_loadKN hs ho hd hx hk hl hdn h
theorem y_loadKN {t k : TypeId} {x : Operand} {p : Option Addr} {vs : List Value} (hs : aggSz P t = some k) (ho : o.op = .load t x) (hx : evo σ x = some (.pointer p)) (hk : PKnN F [] p k vs) (hl : vs.length = k) : Yv P n ds F σ o (.agg vs.toArray) := by
  obtain ⟨ad, rfl, hv⟩ := hk
  intro ac w en fr
  have hc := hv _ fr trivial
  subst hl
  simp [execOp, ho, en.eval hx, Instr.loadAt, Instr.sureAddr, loadVar, (aggSz_spec hs).1, (aggSz_spec hs).2, run_loadCells_list w _ vs hc]
theorem LfN {t k : TypeId} {x : Operand} {p : Option Addr} {vs : List Value} (hs : aggSz P t = some k) (ho : o.op = .load t x := by exact rfl) (hx : evo σ x = some (.pointer p) := by exact rfl)
    (hk : PKnN F [] p k vs := by
      first
        | exact knN_fr (by assumption) (by first | assumption | exact rfl) (by first | rfl | assumption)
        | exact knN_fp (by assumption) (by exact rfl)) (hl : vs.length = k := by first | rfl | (simp; omega)) : Yv P n ds F σ o (.agg vs.toArray) := y_loadKN hs ho hx hk hl

-- effects
theorem oS {t : TypeId} {x y : Operand} {b i : Nat} {e : TypeId} {cs : List Value} {f : HProp → List HProp} {v : Value} (hs : scal P t = true) (h : G n ds F K σ (f (pts b e (cs.set i v)))) (ho : o.op = .store t x y := by exact rfl) (hd : o.dst = none := by exact rfl)
    (hx : evo σ x = some (.pointer (some ⟨b, i, none⟩)) := by exact rfl) (hy : evo σ y = some v := by exact rfl) (hu : Pos H (pts b e cs) f := by repeat (first | exact Pos.here | apply Pos.there)) (h1 : v.oneCell' = true := by first | rfl | decide | simp) (hi : i < cs.length := by first | decide | (simp; done) | (simp; omega) | omega) :
    G n ds F (fun a w => o.wp P a w K Q) σ H := op_store hs ho hd hx hy h1 hu hi h
theorem oSN {t k : TypeId} {x y : Operand} {b i : Nat} {e : TypeId} {cs vs : List Value} {f : HProp → List HProp} (hs : aggSz P t = some k) (h : G n ds F K σ (f (pts b e (setL cs i vs)))) (ho : o.op = .store t x y := by exact rfl) (hd : o.dst = none := by exact rfl)
    (hx : evo σ x = some (.pointer (some ⟨b, i, none⟩)) := by exact rfl) (hy : evo σ y = some (.agg vs.toArray) := by exact rfl) (hk : vs.length = k := by exact rfl) (h1 : ∀ v ∈ vs, v.oneCell' = true := by simp [setL, Value.cells, Value.oneCell', strv])
    (hu : Pos H (pts b e cs) f := by repeat (first | exact Pos.here | apply Pos.there)) (hi : i + vs.length ≤ cs.length := by simp [setL, setL_length]) : G n ds F (fun a w => o.wp P a w K Q) σ H := op_storeN hs ho hd hx hy hk h1 hu hi h
theorem setL_all {cs vs : List Value} (h : vs.length = cs.length) : setL cs 0 vs = vs := by
  rw [setL_eq (by omega)]; simp [h]
/-- a whole block is laid over -/
theorem oSW {t k : TypeId} {x y : Operand} {b : Nat} {e : TypeId} {cs vs : List Value} {f : HProp → List HProp} (hs : aggSz P t = some k) (h : G n ds F K σ (f (pts b e vs))) (ho : o.op = .store t x y := by exact rfl) (hd : o.dst = none := by exact rfl)
    (hx : evo σ x = some (.pointer (some ⟨b, 0, none⟩)) := by exact rfl) (hy : evo σ y = some (.agg vs.toArray) := by exact rfl) (hk : vs.length = k := by exact rfl) (h1 : ∀ v ∈ vs, v.oneCell' = true := by simp [setL, Value.cells, Value.oneCell', strv])
    (hu : Pos H (pts b e cs) f := by repeat (first | exact Pos.here | apply Pos.there)) (hl : cs.length = k := by exact rfl) : G n ds F (fun a w => o.wp P a w K Q) σ H :=
  op_storeN hs ho hd hx hy hk h1 hu (by omega) (by rw [setL_all (by omega)]; exact h)
theorem oSO {t : TypeId} {x y : Operand} {a : Option Addr} {k cap e sz : Nat} {cells : List Value} {f : HProp → List HProp} {v : Value} (hs : scal P t = true) (h : G n ds F K σ (f (own a cap e sz (cells.set k v)))) (ho : o.op = .store t x y := by exact rfl) (hd : o.dst = none := by exact rfl)
    (hx : evo σ x = some (.pointer (a.map (·.add k))) := by exact rfl) (hy : evo σ y = some v := by exact rfl) (hu : Pos H (own a cap e sz cells) f := by repeat (first | exact Pos.here | apply Pos.there)) (h1 : v.oneCell' = true := by first | rfl | decide | simp)
    (hk : k < cells.length := by first | omega | (simp; omega)) : G n ds F (fun a w => o.wp P a w K Q) σ H := op_storeO hs ho hd hx hy h1 hu hk h
theorem oB {t : TypeId} {x : Operand} {v : Value} {cs : List Value} (h : ∀ b, G n ds F K ((d, .pointer (some ⟨b, 0, none⟩)) :: σ) (pts b t cs :: H)) (ho : o.op = .box t x := by exact rfl) (hd : o.dst = some d := by exact rfl) (hx : evo σ x = some v := by exact rfl) (hc : v.cells = cs.toArray := by exact rfl) (hdn : Nat.blt d n = true := by exact rfl) :
    G n ds F (fun a w => o.wp P a w K Q) σ H := op_box ho hd hx hc hdn h
theorem oA {t : TypeId} {cs : List Value} (hz : zeroCs P t = some cs) (h : ∀ b, G n ds F K ((d, .pointer (some ⟨b, 0, none⟩)) :: σ) (pts b t cs :: H)) (ho : o.op = .alloc t := by exact rfl) (hd : o.dst = some d := by exact rfl) (hdn : Nat.blt d n = true := by exact rfl) :
    G n ds F (fun a w => o.wp P a w K Q) σ H := op_alloc hz ho hd hdn h
theorem oT {t : TypeId} {e by' len : Nat} {z vs : List Value} {parts : List (Nat × Operand)} (ht : apT P t = some (e, 1, by', z)) (h : ∀ b, G n ds F K ((d, .slice (some ⟨b, 0, none⟩) len len) :: σ) (pts b e vs :: H)) (ho : o.op = .buildSlice t len parts.toArray := by exact rfl) (hd : o.dst = some d := by exact rfl) (hv : evos σ (parts.map (·.2)) = some vs := by exact rfl)
    (hk : Nat.ble (len * 1) 16777216 = true := by exact rfl) (hi : parts.map (·.1) = List.range' 0 vs.length := by exact rfl) (hlen : vs.length = len := by exact rfl) (h1 : ∀ v ∈ vs, v.oneCell' = true := by simp [Value.oneCell', strv]) (hdn : Nat.blt d n = true := by exact rfl) :
    G n ds F (fun a w => o.wp P a w K Q) σ H := op_litS ht ho hd hv hk hi hlen h1 hdn h
theorem oT1 {t : TypeId} {e sz by' : Nat} {z cs : List Value} {x : Operand} (ht : apT P t = some (e, sz, by', z)) (h : ∀ b, G n ds F K ((d, .slice (some ⟨b, 0, none⟩) 1 1) :: σ) (pts b e cs :: H)) (ho : o.op = .buildSlice t 1 #[(0, x)] := by exact rfl) (hd : o.dst = some d := by exact rfl) (hx : evo σ x = some (.agg cs.toArray) := by exact rfl)
    (hl : cs.length = sz := by exact rfl) (hk : Nat.ble (1 * sz) 16777216 = true := by exact rfl) (hdn : Nat.blt d n = true := by exact rfl) : G n ds F (fun a w => o.wp P a w K Q) σ H := op_litA ht ho hd hx hl hk hdn h
theorem oT2 {t : TypeId} {e sz by' len : Nat} {z vs cs : List Value} {parts : List (Nat × Operand)} (ht : apT P t = some (e, sz, by', z)) (h : ∀ b, G n ds F K ((d, .slice (some ⟨b, 0, none⟩) len len) :: σ) (pts b e cs :: H)) (ho : o.op = .buildSlice t len parts.toArray := by exact rfl) (hd : o.dst = some d := by exact rfl) (hv : evos σ (parts.map (·.2)) = some vs := by exact rfl)
    (hk : Nat.ble (len * sz) 16777216 = true := by exact rfl) (hc : fillL (fun i => some (i * sz, sz)) (zrep z (len * sz)) ((parts.map (·.1)).zip vs) = some cs := by exact rfl) (hdn : Nat.blt d n = true := by exact rfl) : G n ds F (fun a w => o.wp P a w K Q) σ H := op_lit ht ho hd hv hk hc hdn h
theorem oMk {t e e' : TypeId} {x : Operand} {b i l c : Nat} {cs : List Value} {R : List HProp} (ht : P.underlying t = some (.slice e)) (he : P.underlying e = some (.int .u8)) (h : G n ds F K ((d, .slice (some ⟨b, i, none⟩) l c) :: σ) (pts b e' cs :: R)) (ho : o.op = .convert t t x := by exact rfl) (hd : o.dst = some d := by exact rfl)
    (hx : evo σ x = some (.slice (some ⟨b, i, none⟩) l c) := by exact rfl) (hs : Sel H (pts b e' cs) R := by repeat (first | exact Sel.here | apply Sel.there)) (hdn : Nat.blt d n = true := by exact rfl) : G n ds F (fun a w => o.wp P a w K Q) σ H := op_mark ht he ho hd hx hs hdn h
theorem oM {t : TypeId} {e sz by' : Nat} {z : List Value} {x y : Operand} {k k' : IntKind} {i j : Int} (l c : Nat) (ht : apT P t = some (e, sz, by', z)) (h : ∀ b, G n ds F K ((d, .slice (some ⟨b, 0, none⟩) l c) :: σ) (pts b e (zrep z (c * sz)) :: H)) (ho : o.op = .makeSlice t x y := by exact rfl) (hd : o.dst = some d := by exact rfl)
    (hx : evo σ x = some (.int k i) := by exact rfl) (hy : evo σ y = some (.int k' j) := by exact rfl) (hi' : i = (l : Int) := by first | omega | (simp; omega)) (hj : j = (c : Int) := by first | omega | (simp; omega)) (hlc : l ≤ c := by first | omega | (simp; omega)) (hc : c * by' ≤ 281474976710656 := by first | omega | (simp; omega))
    (hc2 : c ≤ 9223372036854775807 := by first | omega | (simp; omega)) (hdn : Nat.blt d n = true := by exact rfl) : G n ds F (fun a w => o.wp P a w K Q) σ H := op_make ht ho hd hx hy hi' hj hlc hc hc2 hdn h
-- calls
theorem oC {f : FuncId} {xs : List Operand} {vs : List Value} {ats : Array TypeId} {pre : Hp → Prop} {A2 R : List HProp} {T : Value → List HProp → Prop} (hfn : isFn P f = true) (ho : o.op = .call { callee := .value (.func f), args := xs.toArray, argTypes := ats }) (hv : evos σ xs = some vs) (hc : FnS P f vs pre A2 T) (hsel : Sels H A2 R) (hpre : ∀ h, Le F.h h → InL R h → pre h)
    (h : ∀ v H', T v H' → G n ds F K ((d, v) :: σ) (H' ++ R)) (hd : o.dst = some d := by exact rfl) (hdn : Nat.blt d n = true := by exact rfl) :
    G n ds F (fun a w => o.wp P a w K Q) σ H := op_call hfn ho hd hv hc hsel hpre hdn h
theorem oC0 {f : FuncId} {xs : List Operand} {vs : List Value} {ats : Array TypeId} {pre : Hp → Prop} {A2 R : List HProp} {T : Value → List HProp → Prop} (hfn : isFn P f = true) (ho : o.op = .call { callee := .value (.func f), args := xs.toArray, argTypes := ats }) (hv : evos σ xs = some vs) (hc : FnS P f vs pre A2 T) (hsel : Sels H A2 R) (hpre : ∀ h, Le F.h h → InL R h → pre h)
    (h : ∀ v H', T v H' → G n ds F K σ (H' ++ R)) (hd : o.dst = none := by exact rfl) :
    G n ds F (fun a w => o.wp P a w K Q) σ H := op_call0 hfn ho hd hv hc hsel hpre h
/-- what a call asks of the frame, found -/
def Asks (F : Frm) (R : List HProp) (pre : Hp → Prop) : Prop := ∀ h, Le F.h h → InL R h → pre h
theorem auto_pre {F : Frm} {R : List HProp} {pre : Hp → Prop} (h : ∀ h, Le F.h h → InL R h → pre h := by
    intro _ le hin
    repeat' refine And.intro ?_ ?_
    all_goals first
      | trivial
      | exact own_in (hin.nth 0 rfl) | exact pts_in (hin.nth 0 rfl) | exact own_in (hin.nth 1 rfl) | exact pts_in (hin.nth 1 rfl) | exact own_in (hin.nth 2 rfl) | exact pts_in (hin.nth 2 rfl)
      | exact own_in (hin.nth 3 rfl) | exact pts_in (hin.nth 3 rfl) | exact own_in (hin.nth 4 rfl) | exact pts_in (hin.nth 4 rfl) | exact own_in (hin.nth 5 rfl) | exact pts_in (hin.nth 5 rfl)
      | exact own_in (hin.nth 6 rfl) | exact pts_in (hin.nth 6 rfl) | exact own_in (hin.nth 7 rfl) | exact pts_in (hin.nth 7 rfl) | exact own_in (hin.nth 8 rfl) | exact pts_in (hin.nth 8 rfl)
      | exact own_in (hin.nth 9 rfl) | exact pts_in (hin.nth 9 rfl) | exact own_in (hin.nth 10 rfl) | exact pts_in (hin.nth 10 rfl) | exact own_in (hin.nth 11 rfl) | exact pts_in (hin.nth 11 rfl)
      | exact own_in (hin.nth 12 rfl) | exact pts_in (hin.nth 12 rfl) | exact own_in (hin.nth 13 rfl) | exact pts_in (hin.nth 13 rfl) | exact own_in (hin.nth 14 rfl) | exact pts_in (hin.nth 14 rfl)
      | exact own_in (hin.nth 15 rfl) | exact pts_in (hin.nth 15 rfl) | exact own_in (hin.nth 16 rfl) | exact pts_in (hin.nth 16 rfl) | exact own_in (hin.nth 17 rfl) | exact pts_in (hin.nth 17 rfl) | exact own_in (hin.nth 18 rfl) | exact pts_in (hin.nth 18 rfl) | exact own_in (hin.nth 19 rfl) | exact pts_in (hin.nth 19 rfl) | exact own_in (hin.nth 20 rfl) | exact pts_in (hin.nth 20 rfl) | exact own_in (hin.nth 21 rfl) | exact pts_in (hin.nth 21 rfl) | exact own_in (hin.nth 22 rfl) | exact pts_in (hin.nth 22 rfl) | exact own_in (hin.nth 23 rfl) | exact pts_in (hin.nth 23 rfl)
      | exact Rdl.mono (by assumption) le) : ∀ h, Le F.h h → InL R h → pre h := h

-- heaps at the ends
theorem Eh {A B : List HProp} (h : ∀ h, starL A h → starL B h := by
    first
      | exact fun _ x => x
      | (apply ents; (repeat' (first | exact Sels.nil | apply Sels.cons | exact Sel.here | apply Sel.there)); done)
      | (refine ent_eq ?_; simp; done)) : ∀ h, starL A h → starL B h := h
theorem Hh {K : Act → World → Prop} {H' : List HProp} (h : G n ds F K σ H') (hh : ∀ h, starL H h → starL H' h := by exact Eh) : G n ds F K σ H := g_heap hh h
theorem Sb {A B : Slots} (h : Subs A B := by
    repeat' first
      | exact trivial
      | refine And.intro ?_ ?_
      | exact rfl
      | (refine congrArg (fun q => some (Value.int _ q)) ?_; omega)
      | (refine congrArg (fun q => some (Value.slice _ q _)) ?_; omega)
      | (refine congrArg (fun q => some (Value.bool q)) ?_; rw [Bool.eq_iff_iff]; simp only [Bool.or_eq_true, Bool.and_eq_true, decide_eq_true_eq, Bool.not_eq_true', decide_eq_false_iff_not, Bool.false_eq_true, true_iff, false_iff, iff_true, iff_false]; first | omega | grind)
      | (refine congrArg (fun q => some (Value.bool q)) ?_; simp [*]; done)) : Subs A B := h
theorem Lo {ι : Type} {c : Code} (asg : List Nat) (I : ι → Prop) (L : ι → Slots) (HI : ι → List HProp) (μ : ι → Nat) (i₀ : ι) (h0 : I i₀)
    (round : ∀ i, I i → G n ds F (c.wp P (Exit.then (RoundTo n ds F asg σ I L HI μ i) Q)) (L i ++ dropS asg σ) (HI i)) (hs : Subs (L i₀) σ := by exact Sb) (hh : ∀ h, starL H h → starL (HI i₀) h := by exact Eh) : G n ds F ((Code.loop c).wp P Q) σ H :=
  g_loopL asg I L HI μ i₀ h0 hs hh round
theorem Ro {ι : Type} {asg : List Nat} {σ0 : Slots} {I : ι → Prop} {L : ι → Slots} {HI : ι → List HProp} {μ : ι → Nat} {i : ι} (j : ι) (hI : I j) (hm : μ j < μ i) (hs : Subs (L j) σ := by exact Sb) (hk : dropS asg σ = dropS asg σ0 := by exact rfl) (hh : ∀ h, starL H h → starL (HI j) h := by exact Eh) :
    G n ds F (Exit.then (RoundTo n ds F asg σ0 I L HI μ i) Q .normal) σ H := e_roundL j hI hm hs hk hh
theorem Me {ι : Type} {asg : List Nat} {σ0 : Slots} {I : ι → Prop} {L : ι → Slots} {HI : ι → List HProp} (j : ι) (hI : I j) (hs : Subs (L j) σ := by exact Sb) (hk : dropS asg σ = dropS asg σ0 := by exact rfl) (hh : ∀ h, starL H h → starL (HI j) h := by exact Eh) :
    G n ds F (Exit.then (CutTo n ds F asg σ0 I L HI) Q .normal) σ H := e_cut j hI hs hk hh
theorem Rt {fn : Func} {R : Value → List HProp → Prop} {t : Nat} {v : Value} (H' : List HProp) (hr : fn.results = #[.tmp t]) (hR : R v H') (hv : look σ t = some v := by exact rfl) (hh : ∀ h, starL H h → starL H' h := by exact Eh) :
    G n [] F (bodyPost P fn (fun e w' => ∃ v H', e = .returned v ∧ R v H' ∧ St F H' w') .ret) σ H := e_ret hr hv hR hh
theorem Rt0 {fn : Func} {R : Value → List HProp → Prop} (H' : List HProp) (hr : fn.results = #[]) (hR : R (.tuple #[]) H') (hh : ∀ h, starL H h → starL H' h := by exact Eh) :
    G n [] F (bodyPost P fn (fun e w' => ∃ v H', e = .returned v ∧ R v H' ∧ St F H' w') .ret) σ H := e_ret0 hr hR hh
theorem Rn0 {fn : Func} {R : Value → List HProp → Prop} (H' : List HProp) (hr : fn.results = #[]) (hR : R (.tuple #[]) H') (hh : ∀ h, starL H h → starL H' h := by exact Eh) :
    G n [] F (bodyPost P fn (fun e w' => ∃ v H', e = .returned v ∧ R v H' ∧ St F H' w') .normal) σ H := e_end0 hr hR hh
theorem Rt2 {fn : Func} {R : Value → List HProp → Prop} {t u : Nat} {v x : Value} (H' : List HProp) (hr : fn.results = #[.tmp t, .tmp u]) (hR : R (.tuple #[v, x]) H') (hv : look σ t = some v := by exact rfl) (hx : look σ u = some x := by exact rfl) (hh : ∀ h, starL H h → starL H' h := by exact Eh) :
    G n [] F (bodyPost P fn (fun e w' => ∃ v H', e = .returned v ∧ R v H' ∧ St F H' w') .ret) σ H := e_ret2 hr hv hx hR hh
theorem RtC {fn : Func} {T : Value → List HProp → Prop} {t ty b i k : Nat} {e : TypeId} {cs vs : List Value} {R : List HProp} (H' : List HProp) (hs : aggSz P ty = some k) (hr : fn.results = #[.cell t ty]) (hR : T (.agg vs.toArray) H') (ht : look σ t = some (.pointer (some ⟨b, i, none⟩)) := by exact rfl)
    (hsel : Sel H (pts b e cs) R := by repeat (first | exact Sel.here | apply Sel.there)) (hv : (cs.drop i).take k = vs := by exact rfl) (hk : vs.length = k := by exact rfl) (hh : ∀ h, starL H h → starL H' h := by exact Eh) : G n [] F (bodyPost P fn (fun e w' => ∃ v H', e = .returned v ∧ T v H' ∧ St F H' w') .ret) σ H :=
  e_retC hs hr ht hsel hv hk hR hh
theorem RtCTT {fn : Func} {T : Value → List HProp → Prop} {t ty b i k u u' : Nat} {x x' : Value} {e : TypeId} {cs vs : List Value} {R : List HProp} (H' : List HProp) (hs : aggSz P ty = some k) (hr : fn.results = #[.cell t ty, .tmp u, .tmp u']) (hR : T (.tuple #[.agg vs.toArray, x, x']) H') (ht : look σ t = some (.pointer (some ⟨b, i, none⟩)) := by exact rfl)
    (hx : look σ u = some x := by exact rfl) (hx' : look σ u' = some x' := by exact rfl) (hsel : Sel H (pts b e cs) R := by repeat (first | exact Sel.here | apply Sel.there)) (hv : (cs.drop i).take k = vs := by exact rfl) (hk : vs.length = k := by exact rfl) (hh : ∀ h, starL H h → starL H' h := by exact Eh) :
    G n [] F (bodyPost P fn (fun e w' => ∃ v H', e = .returned v ∧ T v H' ∧ St F H' w') .ret) σ H := e_retCTT hs hr ht hx hx' hsel hv hk hR hh
end
end Go.Eng
