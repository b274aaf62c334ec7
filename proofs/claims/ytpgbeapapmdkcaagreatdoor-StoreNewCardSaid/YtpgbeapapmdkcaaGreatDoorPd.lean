/- Part Pd of the proof. -/
import Derived.Test.YtpgbeapapmdkcaaGreatDoorPb
import Derived.Test.YtpgbeapapmdkcaaGreatDoorPc1
set_option maxRecDepth 100000
namespace Go.cQ
open Go
variable {P : Program}
class kP (P : Program) (t : Nat) : Prop where p : cB P t = true
class WX (P : Program) (t : Nat) : Prop where p : (P.underlying t).isSome = true
class Ec (P : Program) (t : Nat) (k : outParam (TypeId × Nat)) : Prop where p : cH P t = some k
class Al (P : Program) (t : Nat) (k : outParam (Nat)) : Prop where p : cn P t = some k
class qY (P : Program) (t : Nat) (k : outParam (List Value)) : Prop where p : bF P t = some k
class qZ (P : Program) (t : Nat) (k : outParam (List (Nat × Nat))) : Prop where p : gu P t = some k
class Cu (P : Program) (t : Nat) (k : outParam (TypeDesc)) : Prop where p : P.underlying t = some k
class aT (P : Program) (t i : Nat) (k : outParam Nat) : Prop where p : ak P t i = some k
variable {n : Nat} {ds : List Deferred} {F : c9} {Q : Exit → Act → World → Prop} {K : Act → World → Prop} {σ : aS} {H : List aa} {o : Oper} {d : Nat} {ops : Array Oper} {rest : List Oper}
theorem FaK {s f k b i : Nat} {x : Operand} (ho : o.op = .fieldAddr s x f := by exact rfl) (hk : ak P s f = some k := by exact aT.p) (hx : bd σ x = some (.pointer (some ⟨b, i, none⟩)) := by exact rfl) : Yv P n ds F σ o (.pointer (some ⟨b, i + k, none⟩)) := Fa (hk := hk) (ho := ho) (hx := hx)
theorem PnK {op : BinOp} {t yt e : TypeId} {x y : Operand} {p : Option Addr} {b : Bool} (ho : o.op = .binOp op t x y yt := by exact rfl) (ht : P.underlying t = some (.pointer e) := by exact Cu.p) (hx : bd σ x = some (.pointer p) := by exact rfl) (hy : bd σ y = some (.pointer none) := by exact rfl) (hop : (op = .eql ∧ b = p.isNone) ∨ (op = .neq ∧ b = !p.isNone) := by first | exact .inl ⟨rfl, rfl⟩ | exact .inr ⟨rfl, rfl⟩) : Yv P n ds F σ o (.bool b) := Pn (ht := ht) (ho := ho) (hx := hx) (hy := hy) (hop := hop)
theorem LnK {t : TypeId} {x : Operand} {a : Option Addr} {l c : Nat} {ek : TypeId × Nat} (ho : o.op = .call { callee := .builtin .len, args := #[x], argTypes := #[t] } := by exact rfl) (ht : cH P t = some ek := by exact Ec.p) (hx : bd σ x = some (.slice a l c) := by exact rfl) : Yv P n ds F σ o (.int .i64 l) := Ln (ht := ht) (ho := ho) (hx := hx)
theorem XY {t k : TypeId} {x : Operand} {p : Option Addr} {vs : List Value} (h : G n ds F K ((d, .agg vs.toArray) :: σ) H) (ho : o.op = .load t x := by exact rfl) (hs : cn P t = some k := by exact Al.p) (hd : o.dst = some d := by exact rfl) (hx : bd σ x = some (.pointer p) := by exact rfl) (hk : r7 F H p k vs := by
   first
   | exact yW (by repeat (first | exact ez.here | apply ez.there)) (by exact rfl)
   | exact xg (by repeat (first | exact ez.here | apply ez.there)) (by exact rfl)
   | exact sB (by assumption) (by first | assumption | exact rfl) (by first | rfl | assumption)
   | exact wC (by assumption) (by exact rfl)
   | exact Dx (by first | rfl | assumption) (by repeat (first | exact ez.here | apply ez.there)) (by first | assumption | exact rfl)) (hl : vs.length = k := by first | rfl | (simp; omega)) (hdn : Nat.blt d n = true := by exact rfl) : G n ds F (fun a w => o.wp P a w K Q) σ H := oLN (hs := hs) (h := h) (ho := ho) (hd := hd) (hx := hx) (hk := hk) (hl := hl) (hdn := hdn)
theorem LfNK {t k : TypeId} {x : Operand} {p : Option Addr} {vs : List Value} (ho : o.op = .load t x := by exact rfl) (hs : cn P t = some k := by exact Al.p) (hx : bd σ x = some (.pointer p) := by exact rfl) (hk : r7 F [] p k vs := by
   first
   | exact sB (by assumption) (by first | assumption | exact rfl) (by first | rfl | assumption)
   | exact wC (by assumption) (by exact rfl)) (hl : vs.length = k := by first | rfl | (simp; omega)) : Yv P n ds F σ o (.agg vs.toArray) := LfN (hs := hs) (ho := ho) (hx := hx) (hk := hk) (hl := hl)
theorem oSWK {t k : TypeId} {x y : Operand} {b : Nat} {e : TypeId} {cs vs : List Value} {f : aa → List aa} (h : G n ds F K σ (f (af b e vs))) (ho : o.op = .store t x y := by exact rfl) (hs : cn P t = some k := by exact Al.p) (hd : o.dst = none := by exact rfl) (hx : bd σ x = some (.pointer (some ⟨b, 0, none⟩)) := by exact rfl) (hy : bd σ y = some (.agg vs.toArray) := by exact rfl) (hk : vs.length = k := by exact rfl) (h1 : ∀ v ∈ vs, v.oneCell' = true := by simp [db, Value.cells, Value.oneCell', bC]) (hu : Pos H (af b e cs) f := by repeat (first | exact Pos.here | apply Pos.there)) (hl : cs.length = k := by exact rfl) : G n ds F (fun a w => o.wp P a w K Q) σ H := j5 (hs := hs) (h := h) (ho := ho) (hd := hd) (hx := hx) (hy := hy) (hk := hk) (h1 := h1) (hu := hu) (hl := hl)
theorem Yo {t e sz m b : Nat} {x y : Operand} {l c j : Nat} {k : IntKind} {i : Int} (ho : o.op = .indexAddr t x y := by exact rfl) (ht : cH P t = some (e, sz) := by exact Ec.p) (hx : bd σ x = some (.slice (some ⟨b, 0, none⟩) l c) := by exact rfl) (hy : bd σ y = some (.int k i) := by exact rfl) (hj : i = (j : Int) := by first | exact rfl | omega) (hl : j < l := by first | omega | assumption) (hm : j * sz = m := by first | exact Nat.mul_one _ | rfl) : Yv P n ds F σ o (.pointer (some ⟨b, m, none⟩)) := IxZ (ht := ht) (ho := ho) (hx := hx) (hy := hy) (hj := hj) (hl := hl) (hm := hm)
theorem CvK {s t : TypeId} {x : Operand} {k k' : IntKind} {i z : Int} (ho : o.op = .convert s t x := by exact rfl) (ht : P.underlying t = some (.int k) := by exact Cu.p) (hs : (P.underlying s).isSome = true := by exact WX.p) (hx : bd σ x = some (.int k' i) := by exact rfl) (hz : k.wrap i = z := by first | exact wrap_i64 (by omega) | exact wrap_u64 (by omega) | exact wrap_u32 (by omega) | exact wrap_u16 (by omega) | exact wrap_u8 (by omega) | exact wrap_i32 (by omega) | exact rfl) : Yv P n ds F σ o (.int k z) := Cv (ht := ht) (hs := hs) (ho := ho) (hx := hx) (hz := hz)
theorem BdK {t : TypeId} {pl : List (Nat × Nat)} {zs vs cs : List Value} {parts : List (Nat × Operand)} (ho : o.op = .build t parts.toArray := by exact rfl) (hz : bF P t = some zs := by exact qY.p) (hpl : gu P t = some pl := by exact qZ.p) (hv : iH σ (parts.map (·.2)) = some vs := by exact rfl) (hc : lG (fun i => pl[i]?) zs ((parts.map (·.1)).zip vs) = some cs := by exact rfl) : Yv P n ds F σ o (.agg cs.toArray) := Bd (hz := hz) (hpl := hpl) (ho := ho) (hv := hv) (hc := hc)
theorem oLK {t : TypeId} {x : Operand} {p : Option Addr} {v : Value} (h : G n ds F K ((d, v) :: σ) H) (ho : o.op = .load t x := by exact rfl) (hs : cB P t = true := by exact kP.p) (hd : o.dst = some d := by exact rfl) (hx : bd σ x = some (.pointer p) := by exact rfl) (hk : Hq F H p v := by
   first
   | exact I4 (by repeat (first | exact ez.here | apply ez.there)) (by first | exact rfl | assumption)
   | exact yk (by assumption) (by first | assumption | exact rfl)
   | exact Cx (by assumption) (by omega)
   | exact sb (by assumption) (by first | exact rfl | assumption)
   | exact I5 (by first | rfl | assumption) (by repeat (first | exact ez.here | apply ez.there)) (by first | assumption | exact rfl)
   | exact NR (by assumption)) (hdn : Nat.blt d n = true := by exact rfl) : G n ds F (fun a w => o.wp P a w K Q) σ H := oL (hs := hs) (h := h) (ho := ho) (hd := hd) (hx := hx) (hk := hk) (hdn := hdn)
theorem oSK {t : TypeId} {x y : Operand} {b i : Nat} {e : TypeId} {cs : List Value} {f : aa → List aa} {v : Value} (h : G n ds F K σ (f (af b e (cs.set i v)))) (ho : o.op = .store t x y := by exact rfl) (hs : cB P t = true := by exact kP.p) (hd : o.dst = none := by exact rfl) (hx : bd σ x = some (.pointer (some ⟨b, i, none⟩)) := by exact rfl) (hy : bd σ y = some v := by exact rfl) (hu : Pos H (af b e cs) f := by repeat (first | exact Pos.here | apply Pos.there)) (h1 : v.oneCell' = true := by first | rfl | decide | simp) (hi : i < cs.length := by first | decide | (simp; done) | (simp; omega) | omega) :
    G n ds F (fun a w => o.wp P a w K Q) σ H := oS (hs := hs) (h := h) (ho := ho) (hd := hd) (hx := hx) (hy := hy) (hu := hu) (h1 := h1) (hi := hi)
theorem LfK {t : TypeId} {x : Operand} {p : Option Addr} {v : Value} (ho : o.op = .load t x := by exact rfl) (hs : cB P t = true := by exact kP.p) (hx : bd σ x = some (.pointer p) := by exact rfl) (hk : Hq F [] p v := by
   first
   | exact yk (by assumption) (by first | assumption | exact rfl)
   | exact Cx (by assumption) (by omega)
   | exact sb (by assumption) (by first | exact rfl | assumption)
   | exact NR (by assumption)) : Yv P n ds F σ o v := Lf (hs := hs) (ho := ho) (hx := hx) (hk := hk)
theorem XX {t : TypeId} {x : Operand} {b i : Nat} {cs : List Value} {v : Value} (h : G n ds F K ((d, v) :: σ) H) (ho : o.op = .load t x := by exact rfl) (hs : cB P t = true := by exact kP.p) (hd : o.dst = some d := by exact rfl) (hx : bd σ x = some (.pointer (some ⟨b, i, none⟩)) := by exact rfl) (c : kX H b cs := by infer_instance) (hv : cs[i]? = some v := by exact rfl) (hdn : Nat.blt d n = true := by exact rfl) : G n ds F (fun a w => o.wp P a w K Q) σ H := oLc (hs := hs) (h := h) (ho := ho) (hd := hd) (hx := hx) (c := c) (hv := hv) (hdn := hdn)
theorem Q8 {t k : TypeId} {x : Operand} {b i : Nat} {cs vs : List Value} (h : G n ds F K ((d, .agg vs.toArray) :: σ) H) (ho : o.op = .load t x := by exact rfl) (hs : cn P t = some k := by exact Al.p) (hd : o.dst = some d := by exact rfl) (hx : bd σ x = some (.pointer (some ⟨b, i, none⟩)) := by exact rfl) (c : kX H b cs := by infer_instance) (hv : (cs.drop i).take k = vs := by exact rfl) (hl : vs.length = k := by exact rfl) (hdn : Nat.blt d n = true := by exact rfl) : G n ds F (fun a w => o.wp P a w K Q) σ H := oLcN (hs := hs) (h := h) (ho := ho) (hd := hd) (hx := hx) (c := c) (hv := hv) (hl := hl) (hdn := hdn)
theorem XV {t : TypeId} {x y : Operand} {b i : Nat} {v : Value} {H' : List aa} (h : G n ds F K σ H') (ho : o.op = .store t x y := by exact rfl) (hs : cB P t = true := by exact kP.p) (hd : o.dst = none := by exact rfl) (hx : bd σ x = some (.pointer (some ⟨b, i, none⟩)) := by exact rfl) (hy : bd σ y = some v := by exact rfl) (c : Aw H b i v H' := by infer_instance) (h1 : v.oneCell' = true := by first | rfl | decide | simp) : G n ds F (fun a w => o.wp P a w K Q) σ H := oSc (hs := hs) (h := h) (ho := ho) (hd := hd) (hx := hx) (hy := hy) (c := c) (h1 := h1)
theorem zf {K : Act → World → Prop} (t : Nat) {b : Bool} (h : G n ds F K ((t, .bool false) :: σ) H) (hl : look σ t = some (.bool b) := by exact rfl) (e : b = false := by exact decide_eq_false (by omega)) : G n ds F K σ H := aw hl (congrArg Value.bool e) h
theorem dq {c : Operand} {x y : Code} {b : Bool} (h : G n ds F (y.wp P Q) σ H) (hc : bd σ c = some (.bool b) := by exact rfl) (e : b = false := by exact decide_eq_false (by omega)) : G n ds F ((Code.cond c x y).wp P Q) σ H := ta hc e h
theorem zt {K : Act → World → Prop} (t : Nat) {b : Bool} (h : G n ds F K ((t, .bool true) :: σ) H) (hl : look σ t = some (.bool b) := by exact rfl) (e : b = true := by exact decide_eq_true (by omega)) : G n ds F K σ H := aw hl (congrArg Value.bool e) h
theorem gK {c : Operand} {x y : Code} {b : Bool} (h : G n ds F (x.wp P Q) σ H) (hc : bd σ c = some (.bool b) := by exact rfl) (e : b = true := by exact decide_eq_true (by omega)) : G n ds F ((Code.cond c x y).wp P Q) σ H := s9 hc e h
structure Hid (q : Prop) : Prop where out : q
theorem aD {p q : Prop} (h : q) (f : Hid q → p := by
  intro h
  first
    | with_reducible refine g_ne ?_
    | with_reducible refine iS ?_
    | with_reducible refine ay ?_
    | with_reducible refine JK ?_
    | with_reducible refine Zr ?_
    | with_reducible refine AS ?_
    | with_reducible refine fE ?_
    | with_reducible refine P6 ?_
    | with_reducible refine aB ?_
    | with_reducible refine BY ?_
    | with_reducible refine zM ?_
    | with_reducible refine Qi ?_
    | with_reducible refine mI ?_
    | with_reducible refine U2 ?_
    | with_reducible refine zN ?_
    | refine Li Mv ?_
    | refine Li As ?_
    | refine Li FaK ?_
    | refine Li Cm ?_
    | refine Lp (oLK ?_)
    | refine Li Nc ?_
    | refine Lx ?_
    | refine Ti Mv ?_
    | refine Li Ex ?_
    | refine Ti FaK ?_
    | refine Li Im ?_
    | refine Tx ?_
    | refine Ti Nc ?_
    | refine Li Pf ?_
    | refine Ti LfK ?_
    | refine Li Pt ?_
    | refine Lp (oSK ?_)
    | refine zO ?_
    | refine Li Nt ?_
    | refine Li LnK ?_
    | refine Tp (oLK ?_)
    | refine Ti As ?_
    | refine Lp (XY ?_)
    | refine Ti Cm ?_
    | refine Li BdK ?_
    | refine ta rfl rfl ?_
    | refine s9 rfl rfl ?_
    | refine ta rfl (by rfl) ?_
    | refine s9 rfl (by rfl) ?_
    | refine Li CvK ?_
    | refine Ti Im ?_
    | refine Li PnK ?_
    | refine Li Yo ?_
    | refine Ti LfNK ?_
    | refine Lp (oSWK ?_)
    | refine Ti Pf ?_
    | refine Ti Yo ?_
    | refine Ti LnK ?_
    | refine Ti Pt ?_
    | refine Ti Ex ?_
    | refine Tp (oSK ?_)
    | refine Ti BdK ?_
    | refine xz rfl ?_
    | refine Lp (XX ?_)
    | refine Lp (Q8 ?_)
    | refine Lp (XV ?_)
    | refine Tp (XV ?_)
    | refine Tp (XX ?_)
    | refine Tp (XY ?_)
    | refine Tp (Q8 ?_)
    | refine Tne ?_
    | refine Tn ?_
  exact h.out) : p := f ⟨h⟩
theorem bo {p q : Prop} (h : q) (f : Hid q → p := by
  intro h
  try simp only [uy, cap]
  exact h.out) : p := f ⟨h⟩
theorem bw {p q : Prop} (h : q) (f : Hid q → p := by
  intro h
  refine aD ?_
  refine aD ?_
  exact h.out) : p := f ⟨h⟩
theorem bL {p q : Prop} (h : q) (f : Hid q → p := by
  intro h
  refine aD ?_
  refine bw ?_
  exact h.out) : p := f ⟨h⟩
theorem bb {p q : Prop} (h : q) (f : Hid q → p := by
  intro h
  refine bw ?_
  refine bw ?_
  exact h.out) : p := f ⟨h⟩
theorem bq {p q : Prop} (h : q) (f : Hid q → p := by
  intro h
  refine bw ?_
  refine bL ?_
  exact h.out) : p := f ⟨h⟩
theorem bE {p q : Prop} (h : q) (f : Hid q → p := by
  intro h
  refine bL ?_
  refine bL ?_
  exact h.out) : p := f ⟨h⟩
theorem bO {p q : Prop} (h : q) (f : Hid q → p := by
  intro h
  refine bL ?_
  refine bb ?_
  exact h.out) : p := f ⟨h⟩
theorem cX {p q : Prop} (h : q) (f : Hid q → p := by
  intro h
  refine bb ?_
  refine bb ?_
  exact h.out) : p := f ⟨h⟩
theorem cY {p q : Prop} (h : q) (f : Hid q → p := by
  intro h
  refine bb ?_
  refine bq ?_
  exact h.out) : p := f ⟨h⟩
theorem bx {p q : Prop} (h : q) (f : Hid q → p := by
  intro h
  refine bq ?_
  refine bq ?_
  exact h.out) : p := f ⟨h⟩
theorem bP {p q : Prop} (h : q) (f : Hid q → p := by
  intro h
  refine bq ?_
  refine bE ?_
  exact h.out) : p := f ⟨h⟩
theorem ed {p q : Prop} (h : q) (f : Hid q → p := by
  intro h
  refine bE ?_
  refine bE ?_
  exact h.out) : p := f ⟨h⟩
theorem gh {p q : Prop} (h : q) (f : Hid q → p := by
  intro h
  refine bE ?_
  refine bO ?_
  exact h.out) : p := f ⟨h⟩
theorem gg {p q : Prop} (h : q) (f : Hid q → p := by
  intro h
  refine bO ?_
  refine bO ?_
  exact h.out) : p := f ⟨h⟩
theorem oo {p q : Prop} (h : q) (f : Hid q → p := by
  intro h
  refine bO ?_
  refine cX ?_
  exact h.out) : p := f ⟨h⟩
theorem qM {p q : Prop} (h : q) (f : Hid q → p := by
  intro h
  refine cX ?_
  refine cX ?_
  exact h.out) : p := f ⟨h⟩
theorem mV {p q : Prop} (h : q) (f : Hid q → p := by
  intro h
  refine cX ?_
  refine cY ?_
  exact h.out) : p := f ⟨h⟩
theorem vW {p q : Prop} (h : q) (f : Hid q → p := by
  intro h
  refine cY ?_
  refine cY ?_
  exact h.out) : p := f ⟨h⟩
theorem xU {p q : Prop} (h : q) (f : Hid q → p := by
  intro h
  refine cY ?_
  refine bx ?_
  exact h.out) : p := f ⟨h⟩
theorem ca {p q : Prop} (h : q) (f : Hid q → p := by
  intro h
  refine bx ?_
  refine bx ?_
  exact h.out) : p := f ⟨h⟩
theorem zl {f : FuncId} {xs : List Operand} {vs : List Value} {pE : Array TypeId} {pre : Hp → Prop} {A2 R : List aa} {x : Value} {y : List aa} {q : Prop} (jw : aA P f = true) (hc : aL P f vs pre A2 (fun v H => v = x ∧ H = y)) (dh : gY H A2 R) (gI : ∀ h, Le F.h h → fF R h → pre h) (h : q)
 (ho : o.op = .call { callee := .value (.func f), args := xs.toArray, argTypes := pE } := by exact rfl) (hv : iH σ xs = some vs := by exact rfl) (hg : NB ops o σ = true := by exact rfl) (hd : o.dst = some d := by exact rfl) (hdn : Nat.blt d n = true := by exact rfl)
 (g : Hid q → G n ds F (wpList P ops Q rest) ((d, x) :: σ) (y ++ R) := by
  intro h
  try simp only [uy, cap]
  exact h.out) : G n ds F (wpList P ops Q (o :: rest)) σ H := Lp (oC jw ho hv hc dh gI (by rintro v H' ⟨rfl, rfl⟩; exact g ⟨h⟩) hd hdn) hg
end Go.cQ
namespace Go.Proofs.YtpgbeapapmdkcaaGreatDoor
open Go Go.cQ
instance : Al Tryz.prog 113 (5) := ⟨T.Bj⟩
instance : Al Tryz.prog 170 (8) := ⟨T.cU⟩
instance : Al Tryz.prog 228 (4) := ⟨T.Bi⟩
instance : Al Tryz.prog 23 (7) := ⟨T.CG⟩
instance : Al Tryz.prog 243 (3) := ⟨T.sK⟩
instance : Al Tryz.prog 25 (4) := ⟨T.Z7⟩
instance : Al Tryz.prog 279 (2) := ⟨T.Wr⟩
instance : Al Tryz.prog 280 (6) := ⟨T.JY⟩
instance : Al Tryz.prog 41 (5) := ⟨T.iG⟩
instance : Al Tryz.prog 47 (11) := ⟨T.Z6⟩
instance : Al Tryz.prog 49 (9) := ⟨T.nt⟩
instance : aT Tryz.prog 100 2 (2) := ⟨T.GW⟩
instance : aT Tryz.prog 100 3 (3) := ⟨T.GV⟩
instance : aT Tryz.prog 100 5 (5) := ⟨T.GU⟩
instance : aT Tryz.prog 102 15 (24) := ⟨T.BV⟩
instance : aT Tryz.prog 102 21 (30) := ⟨T.BU⟩
instance : aT Tryz.prog 102 3 (12) := ⟨T.GS⟩
instance : aT Tryz.prog 102 4 (13) := ⟨T.GR⟩
instance : aT Tryz.prog 102 5 (14) := ⟨T.GQ⟩
instance : aT Tryz.prog 102 7 (16) := ⟨T.GP⟩
instance : aT Tryz.prog 109 0 (0) := ⟨T.GO⟩
instance : aT Tryz.prog 109 1 (1) := ⟨T.vN⟩
instance : aT Tryz.prog 109 2 (2) := ⟨T.GN⟩
instance : aT Tryz.prog 109 3 (3) := ⟨T.GM⟩
instance : aT Tryz.prog 109 4 (4) := ⟨T.vM⟩
instance : aT Tryz.prog 109 5 (5) := ⟨T.qh⟩
instance : aT Tryz.prog 109 6 (6) := ⟨T.vL⟩
instance : aT Tryz.prog 111 0 (0) := ⟨T.iQ⟩
instance : aT Tryz.prog 111 1 (8) := ⟨T.GL⟩
instance : aT Tryz.prog 111 2 (15) := ⟨T.vK⟩
instance : aT Tryz.prog 111 3 (19) := ⟨T.GK⟩
instance : aT Tryz.prog 111 4 (20) := ⟨T.GJ⟩
instance : aT Tryz.prog 111 5 (21) := ⟨T.eG⟩
instance : aT Tryz.prog 111 6 (28) := ⟨T.GI⟩
instance : aT Tryz.prog 113 0 (0) := ⟨T.GH⟩
instance : aT Tryz.prog 136 0 (0) := ⟨T.GG⟩
instance : aT Tryz.prog 136 1 (7) := ⟨T.GF⟩
instance : aT Tryz.prog 136 2 (8) := ⟨T.GD⟩
instance : aT Tryz.prog 136 3 (9) := ⟨T.GC⟩
instance : aT Tryz.prog 136 4 (10) := ⟨T.GB⟩
instance : aT Tryz.prog 136 5 (11) := ⟨T.GA⟩
instance : aT Tryz.prog 139 0 (0) := ⟨T.Gz⟩
instance : aT Tryz.prog 139 1 (1) := ⟨T.Gy⟩
instance : aT Tryz.prog 141 0 (0) := ⟨T.Gx⟩
instance : aT Tryz.prog 141 1 (1) := ⟨T.Gw⟩
instance : aT Tryz.prog 141 2 (2) := ⟨T.Gu⟩
instance : aT Tryz.prog 141 3 (3) := ⟨T.Gt⟩
instance : aT Tryz.prog 145 0 (0) := ⟨T.Gs⟩
instance : aT Tryz.prog 145 1 (1) := ⟨T.Gr⟩
instance : aT Tryz.prog 145 2 (2) := ⟨T.Gq⟩
instance : aT Tryz.prog 145 3 (3) := ⟨T.Gp⟩
instance : aT Tryz.prog 145 4 (4) := ⟨T.Gn⟩
instance : aT Tryz.prog 145 5 (5) := ⟨T.Gm⟩
instance : aT Tryz.prog 145 6 (6) := ⟨T.Gl⟩
instance : aT Tryz.prog 145 7 (7) := ⟨T.Gk⟩
instance : aT Tryz.prog 170 0 (0) := ⟨T.Gj⟩
instance : aT Tryz.prog 170 1 (1) := ⟨T.Gi⟩
instance : aT Tryz.prog 170 2 (2) := ⟨T.Gh⟩
instance : aT Tryz.prog 170 3 (3) := ⟨T.Gg⟩
instance : aT Tryz.prog 170 4 (4) := ⟨T.Gf⟩
instance : aT Tryz.prog 170 5 (5) := ⟨T.Ge⟩
instance : aT Tryz.prog 170 6 (6) := ⟨T.Gd⟩
instance : aT Tryz.prog 170 7 (7) := ⟨T.Gc⟩
instance : aT Tryz.prog 174 0 (0) := ⟨T.Gb⟩
instance : aT Tryz.prog 174 2 (2) := ⟨T.Ga⟩
instance : aT Tryz.prog 177 0 (0) := ⟨T.F9⟩
instance : aT Tryz.prog 177 1 (1) := ⟨T.F8⟩
instance : aT Tryz.prog 177 10 (10) := ⟨T.BT⟩
instance : aT Tryz.prog 177 2 (2) := ⟨T.F7⟩
instance : aT Tryz.prog 177 3 (3) := ⟨T.FZ⟩
instance : aT Tryz.prog 177 4 (4) := ⟨T.FY⟩
instance : aT Tryz.prog 177 5 (5) := ⟨T.FX⟩
instance : aT Tryz.prog 177 6 (6) := ⟨T.FW⟩
instance : aT Tryz.prog 177 7 (7) := ⟨T.FV⟩
instance : aT Tryz.prog 177 8 (8) := ⟨T.FU⟩
instance : aT Tryz.prog 177 9 (9) := ⟨T.FT⟩
instance : aT Tryz.prog 192 0 (0) := ⟨T.FR⟩
instance : aT Tryz.prog 192 1 (1) := ⟨T.FQ⟩
instance : aT Tryz.prog 197 0 (0) := ⟨T.FP⟩
instance : aT Tryz.prog 197 1 (1) := ⟨T.FO⟩
instance : aT Tryz.prog 197 2 (2) := ⟨T.FN⟩
instance : aT Tryz.prog 199 3 (3) := ⟨T.FM⟩
instance : aT Tryz.prog 201 0 (0) := ⟨T.FL⟩
instance : aT Tryz.prog 201 5 (5) := ⟨T.FK⟩
instance : aT Tryz.prog 201 6 (6) := ⟨T.FJ⟩
instance : aT Tryz.prog 224 0 (0) := ⟨T.FI⟩
instance : aT Tryz.prog 224 1 (1) := ⟨T.FH⟩
instance : aT Tryz.prog 224 2 (2) := ⟨T.FG⟩
instance : aT Tryz.prog 224 3 (3) := ⟨T.qg⟩
instance : aT Tryz.prog 224 4 (4) := ⟨T.mP⟩
instance : aT Tryz.prog 224 5 (5) := ⟨T.FF⟩
instance : aT Tryz.prog 224 6 (6) := ⟨T.FE⟩
instance : aT Tryz.prog 228 0 (0) := ⟨T.FD⟩
instance : aT Tryz.prog 228 1 (1) := ⟨T.FC⟩
instance : aT Tryz.prog 228 2 (2) := ⟨T.FB⟩
instance : aT Tryz.prog 228 3 (3) := ⟨T.FA⟩
instance : aT Tryz.prog 23 0 (0) := ⟨T.Mh⟩
instance : aT Tryz.prog 23 1 (1) := ⟨T.tg⟩
instance : aT Tryz.prog 23 2 (2) := ⟨T.Mg⟩
instance : aT Tryz.prog 23 3 (3) := ⟨T.Md⟩
instance : aT Tryz.prog 23 4 (4) := ⟨T.Mc⟩
instance : aT Tryz.prog 23 5 (5) := ⟨T.Mb⟩
instance : aT Tryz.prog 23 6 (6) := ⟨T.L9⟩
instance : aT Tryz.prog 243 0 (0) := ⟨T.Fz⟩
instance : aT Tryz.prog 243 1 (1) := ⟨T.vJ⟩
instance : aT Tryz.prog 243 2 (2) := ⟨T.Fy⟩
instance : aT Tryz.prog 253 0 (0) := ⟨T.Fx⟩
instance : aT Tryz.prog 253 1 (1) := ⟨T.Fw⟩
instance : aT Tryz.prog 253 2 (2) := ⟨T.Fv⟩
instance : aT Tryz.prog 253 3 (3) := ⟨T.Fu⟩
instance : aT Tryz.prog 25 0 (0) := ⟨T.L8⟩
instance : aT Tryz.prog 25 1 (1) := ⟨T.L7⟩
instance : aT Tryz.prog 25 2 (2) := ⟨T.L6⟩
instance : aT Tryz.prog 25 3 (3) := ⟨T.y7⟩
instance : aT Tryz.prog 279 0 (0) := ⟨T.Ft⟩
instance : aT Tryz.prog 279 1 (1) := ⟨T.Fs⟩
instance : aT Tryz.prog 310 0 (0) := ⟨T.Fq⟩
instance : aT Tryz.prog 310 1 (1) := ⟨T.Fo⟩
instance : aT Tryz.prog 310 2 (2) := ⟨T.Fm⟩
instance : aT Tryz.prog 41 0 (0) := ⟨T.L5⟩
instance : aT Tryz.prog 47 0 (0) := ⟨T.L4⟩
instance : aT Tryz.prog 47 1 (1) := ⟨T.L3⟩
instance : aT Tryz.prog 47 2 (2) := ⟨T.y6⟩
instance : aT Tryz.prog 47 4 (4) := ⟨T.LY⟩
instance : aT Tryz.prog 47 6 (6) := ⟨T.y5⟩
instance : aT Tryz.prog 47 8 (8) := ⟨T.LX⟩
instance : aT Tryz.prog 49 1 (1) := ⟨T.LW⟩
instance : aT Tryz.prog 49 2 (2) := ⟨T.LV⟩
instance : aT Tryz.prog 49 4 (4) := ⟨T.LU⟩
instance : aT Tryz.prog 94 0 (0) := ⟨T.LS⟩
instance : aT Tryz.prog 94 2 (2) := ⟨T.LR⟩
instance : aT Tryz.prog 94 3 (3) := ⟨T.LQ⟩
instance : kP Tryz.prog 104 := ⟨T.AJ⟩
instance : kP Tryz.prog 105 := ⟨T.AI⟩
instance : kP Tryz.prog 106 := ⟨T.AH⟩
instance : kP Tryz.prog 107 := ⟨T.pG⟩
instance : kP Tryz.prog 117 := ⟨T.Ul⟩
instance : kP Tryz.prog 120 := ⟨T.Uk⟩
instance : kP Tryz.prog 130 := ⟨T.Uj⟩
instance : kP Tryz.prog 133 := ⟨T.Ui⟩
instance : kP Tryz.prog 134 := ⟨T.Uh⟩
instance : kP Tryz.prog 137 := ⟨T.Ug⟩
instance : kP Tryz.prog 143 := ⟨T.wv⟩
instance : kP Tryz.prog 151 := ⟨T.Uf⟩
instance : kP Tryz.prog 163 := ⟨T.ma⟩
instance : kP Tryz.prog 180 := ⟨T.Ue⟩
instance : kP Tryz.prog 194 := ⟨T.Ud⟩
instance : kP Tryz.prog 195 := ⟨T.Uc⟩
instance : kP Tryz.prog 221 := ⟨T.wu⟩
instance : kP Tryz.prog 222 := ⟨T.Ub⟩
instance : kP Tryz.prog 277 := ⟨T.Ua⟩
instance : kP Tryz.prog 28 := ⟨T.Y1⟩
instance : kP Tryz.prog 3 := ⟨T.eL⟩
instance : kP Tryz.prog 38 := ⟨T.HY⟩
instance : kP Tryz.prog 4 := ⟨T.XT⟩
instance : kP Tryz.prog 43 := ⟨T.Y0⟩
instance : kP Tryz.prog 44 := ⟨T.yc⟩
instance : kP Tryz.prog 5 := ⟨T.xZ⟩
instance : kP Tryz.prog 55 := ⟨T.QZ⟩
instance : kP Tryz.prog 79 := ⟨T.YZ⟩
instance : kP Tryz.prog 82 := ⟨T.YY⟩
instance : kP Tryz.prog 85 := ⟨T.YX⟩
instance : kP Tryz.prog 89 := ⟨T.YW⟩
instance : kP Tryz.prog 9 := ⟨T.sc_9⟩
instance : kP Tryz.prog 95 := ⟨T.YV⟩
instance : kP Tryz.prog 97 := ⟨T.YU⟩
instance : Ec Tryz.prog 133 ((224, 7)) := ⟨T.T7⟩
instance : Ec Tryz.prog 134 ((253, 4)) := ⟨T.T6⟩
instance : Ec Tryz.prog 137 ((327, 9)) := ⟨T.T5⟩
instance : Ec Tryz.prog 143 ((163, 1)) := ⟨T.T0⟩
instance : Ec Tryz.prog 175 ((117, 1)) := ⟨T.IF⟩
instance : Ec Tryz.prog 195 ((243, 3)) := ⟨T.fL⟩
instance : Ec Tryz.prog 221 ((4, 1)) := ⟨T.TZ⟩
instance : Ec Tryz.prog 36 ((28, 1)) := ⟨T.HX⟩
instance : Ec Tryz.prog 43 ((9, 1)) := ⟨T.Cq⟩
instance : Ec Tryz.prog 44 ((5, 1)) := ⟨T.iD⟩
instance : Ec Tryz.prog 55 ((3, 1)) := ⟨T.nm⟩
instance : qZ Tryz.prog 100 ([(0, 1), (1, 1), (2, 1), (3, 1), (4, 1), (5, 1), (6, 1)]) := ⟨T.TY⟩
instance : qZ Tryz.prog 102 ([(0, 7), (7, 4), (11, 1), (12, 1), (13, 1), (14, 1), (15, 1), (16, 1), (17, 1), (18, 1), (19, 1), (20, 1), (21, 1), (22, 1), (23, 1), (24, 1), (25, 1), (26, 1), (27, 1), (28, 1), (29, 1), (30, 1), (31, 1), (32, 1), (33, 7), (40, 1)]) := ⟨T.TX⟩
instance : qZ Tryz.prog 109 ([(0, 1), (1, 1), (2, 1), (3, 1), (4, 1), (5, 1), (6, 1), (7, 1)]) := ⟨T.TW⟩
instance : qZ Tryz.prog 111 ([(0, 8), (8, 7), (15, 4), (19, 1), (20, 1), (21, 7), (28, 1)]) := ⟨T.TV⟩
instance : qZ Tryz.prog 113 ([(0, 5)]) := ⟨T.TU⟩
instance : qZ Tryz.prog 139 ([(0, 1), (1, 1)]) := ⟨T.TS⟩
instance : qZ Tryz.prog 141 ([(0, 1), (1, 1), (2, 1), (3, 1)]) := ⟨T.TR⟩
instance : qZ Tryz.prog 145 ([(0, 1), (1, 1), (2, 1), (3, 1), (4, 1), (5, 1), (6, 1), (7, 1)]) := ⟨T.TQ⟩
instance : qZ Tryz.prog 170 ([(0, 1), (1, 1), (2, 1), (3, 1), (4, 1), (5, 1), (6, 1), (7, 1)]) := ⟨T.dE⟩
instance : qZ Tryz.prog 174 ([(0, 1), (1, 1), (2, 1)]) := ⟨T.TP⟩
instance : qZ Tryz.prog 177 ([(0, 1), (1, 1), (2, 1), (3, 1), (4, 1), (5, 1), (6, 1), (7, 1), (8, 1), (9, 1), (10, 1)]) := ⟨T.TN⟩
instance : qZ Tryz.prog 192 ([(0, 1), (1, 1)]) := ⟨T.TM⟩
instance : qZ Tryz.prog 197 ([(0, 1), (1, 1), (2, 1)]) := ⟨T.TJ⟩
instance : qZ Tryz.prog 201 ([(0, 1), (1, 1), (2, 1), (3, 1), (4, 1), (5, 1), (6, 4)]) := ⟨T.TI⟩
instance : qZ Tryz.prog 228 ([(0, 1), (1, 1), (2, 1), (3, 1)]) := ⟨T.TH⟩
instance : qZ Tryz.prog 23 ([(0, 1), (1, 1), (2, 1), (3, 1), (4, 1), (5, 1), (6, 1)]) := ⟨T.YR⟩
instance : qZ Tryz.prog 243 ([(0, 1), (1, 1), (2, 1)]) := ⟨T.TG⟩
instance : qZ Tryz.prog 25 ([(0, 1), (1, 1), (2, 1), (3, 1)]) := ⟨T.YQ⟩
instance : qZ Tryz.prog 279 ([(0, 1), (1, 1)]) := ⟨T.TF⟩
instance : qZ Tryz.prog 41 ([(0, 1), (1, 1), (2, 1), (3, 1), (4, 1)]) := ⟨T.YP⟩
instance : qZ Tryz.prog 47 ([(0, 1), (1, 1), (2, 1), (3, 1), (4, 1), (5, 1), (6, 1), (7, 1), (8, 1), (9, 1), (10, 1)]) := ⟨T.YO⟩
instance : qZ Tryz.prog 49 ([(0, 1), (1, 1), (2, 1), (3, 1), (4, 1), (5, 1), (6, 1), (7, 1), (8, 1)]) := ⟨T.YN⟩
instance : qZ Tryz.prog 94 ([(0, 1), (1, 1), (2, 1), (3, 1)]) := ⟨T.YM⟩
instance : Cu Tryz.prog 105 ((.pointer 197)) := ⟨T.YI⟩
instance : Cu Tryz.prog 117 ((.int .u64)) := ⟨T.YH⟩
instance : Cu Tryz.prog 130 ((.pointer 192)) := ⟨T.YG⟩
instance : Cu Tryz.prog 163 ((.int .u32)) := ⟨T.HU⟩
instance : Cu Tryz.prog 190 ((.int .u64)) := ⟨T.YF⟩
instance : Cu Tryz.prog 260 ((.pointer 310)) := ⟨T.YE⟩
instance : Cu Tryz.prog 28 ((.pointer 111)) := ⟨T.u_28⟩
instance : Cu Tryz.prog 3 ((.int .i64)) := ⟨T.WY⟩
instance : Cu Tryz.prog 38 ((.int .u64)) := ⟨T.HG⟩
instance : Cu Tryz.prog 5 ((.int .u8)) := ⟨T.og⟩
instance : Cu Tryz.prog 79 ((.pointer 136)) := ⟨T.u_79⟩
instance : Cu Tryz.prog 82 ((.pointer 139)) := ⟨T.u_82⟩
instance : WX Tryz.prog 117 := ⟨T.AD⟩
instance : WX Tryz.prog 163 := ⟨T.AB⟩
instance : WX Tryz.prog 3 := ⟨T.NL⟩
instance : WX Tryz.prog 38 := ⟨T.Cp⟩
instance : WX Tryz.prog 5 := ⟨T.Sz⟩
instance : qY Tryz.prog 100 ([(.int .i64 0), (.int .i64 0), (.int .i64 0), (.int .i64 0), (.int .i64 0), (.int .i64 0), (.int .i64 0)]) := ⟨T.Tt⟩
instance : qY Tryz.prog 102 ([(.int .i64 0), (.int .i64 0), (.int .i64 0), (.int .i64 0), (.int .i64 0), (.int .i64 0), (.int .i64 0), (.int .i64 0), (.int .i64 0), (.int .i64 0), (.int .i64 0), (.slice none 0 0), (.slice none 0 0), (.slice none 0 0), (.slice none 0 0), (.slice none 0 0), (.slice none 0 0), (.int .i64 0), (.int .u64 0), (.int .u64 0), (.int .i64 0), (.int .i64 0), (.int .i64 0), (.int .i64 0), (.int .i64 0), (.int .i64 0), (.int .i64 0), (.pointer none), (.int .i64 0), (.bool false), (.slice none 0 0), (.int .i64 0), (.int .i64 0), (.int .i64 0), (.int .i64 0), (.int .i64 0), (.int .i64 0), (.int .i64 0), (.int .i64 0), (.int .i64 0), (.slice none 0 0)]) := ⟨T.Tq⟩
instance : qY Tryz.prog 109 ([(.pointer none), (.pointer none), (.pointer none), (.pointer none), (.pointer none), (.pointer none), (.pointer none), (.pointer none)]) := ⟨T.Tl⟩
instance : qY Tryz.prog 111 ([(.pointer none), (.pointer none), (.pointer none), (.pointer none), (.pointer none), (.pointer none), (.pointer none), (.pointer none), (.int .i64 0), (.int .i64 0), (.int .i64 0), (.int .i64 0), (.int .i64 0), (.int .i64 0), (.int .i64 0), (.int .i64 0), (.int .i64 0), (.int .i64 0), (.int .i64 0), (.int .u64 0), (.int .i64 0), (.int .i64 0), (.int .i64 0), (.int .i64 0), (.int .i64 0), (.int .i64 0), (.int .i64 0), (.int .i64 0), (.slice none 0 0)]) := ⟨T.Tk⟩
instance : qY Tryz.prog 113 ([(.int .i64 0), (.slice none 0 0), (.int .u64 0), (.string { data := #[] }), (.slice none 0 0)]) := ⟨T.Az⟩
instance : qY Tryz.prog 139 ([(.pointer none), (.slice none 0 0)]) := ⟨T.Tj⟩
instance : qY Tryz.prog 141 ([(.pointer none), (.pointer none), (.int .i64 0), (.int .i64 0)]) := ⟨T.Th⟩
instance : qY Tryz.prog 145 ([(.pointer none), (.int .i64 0), (.int .i64 0), (.int .i64 0), (.slice none 0 0), (.slice none 0 0), (.int .i64 0), (.int .i64 0)]) := ⟨T.Tg⟩
instance : qY Tryz.prog 170 ([(.slice none 0 0), (.slice none 0 0), (.int .u64 0), (.int .i64 0), (.int .i64 0), (.int .u64 0), (.int .i64 0), (.int .i64 0)]) := ⟨T.bA⟩
instance : qY Tryz.prog 174 ([(.int .i64 0), (.int .i64 0), (.int .u64 0)]) := ⟨T.Tf⟩
instance : qY Tryz.prog 177 ([(.pointer none), (.pointer none), (.int .i64 0), .nilFunc, .nilFunc, (.int .i64 0), (.bool false), (.int .i64 0), (.int .i64 0), (.int .u64 0), (.int .i64 0)]) := ⟨T.Te⟩
instance : qY Tryz.prog 192 ([(.int .i64 0), (.slice none 0 0)]) := ⟨T.Td⟩
instance : qY Tryz.prog 197 ([(.slice none 0 0), (.map none), (.int .u64 0)]) := ⟨T.Tc⟩
instance : qY Tryz.prog 201 ([(.pointer none), .nilFunc, .nilFunc, .nilFunc, (.slice none 0 0), (.int .i64 0), (.int .i64 0), (.int .i64 0), (.int .i64 0), (.bool false)]) := ⟨T.Ta⟩
instance : qY Tryz.prog 228 ([(.pointer none), (.int .i64 0), (.int .i64 0), (.int .i64 0)]) := ⟨T.gO⟩
instance : qY Tryz.prog 23 ([(.int .i64 0), (.int .i64 0), (.int .i64 0), (.int .i64 0), (.int .i64 0), (.int .i64 0), (.int .i64 0)]) := ⟨T.HT⟩
instance : qY Tryz.prog 243 ([(.int .u64 0), (.int .i64 0), (.int .u64 0)]) := ⟨T.wj⟩
instance : qY Tryz.prog 25 ([(.int .i64 0), (.int .i64 0), (.int .i64 0), (.int .i64 0)]) := ⟨T.QU⟩
instance : qY Tryz.prog 279 ([(.int .i64 0), .nilFunc]) := ⟨T.Is⟩
instance : qY Tryz.prog 41 ([(.int .i64 0), (.slice none 0 0), (.int .u64 0), (.string { data := #[] }), (.slice none 0 0)]) := ⟨T.qq⟩
instance : qY Tryz.prog 47 ([(.int .i64 0), (.slice none 0 0), (.int .u64 0), (.int .i64 0), (.int .u64 0), (.int .u64 0), (.slice none 0 0), (.bool false), (.bool false), (.slice none 0 0), (.string { data := #[] })]) := ⟨T.Yu⟩
instance : qY Tryz.prog 49 ([(.string { data := #[] }), (.slice none 0 0), (.int .u64 0), (.int .i64 0), (.int .u64 0), (.int .i64 0), (.bool false), (.bool false), (.bool false)]) := ⟨T.ya⟩
instance : qY Tryz.prog 94 ([(.int .i64 0), (.int .u64 0), (.int .u64 0), (.int .i64 0)]) := ⟨T.Ys⟩
end Go.Proofs.YtpgbeapapmdkcaaGreatDoor
