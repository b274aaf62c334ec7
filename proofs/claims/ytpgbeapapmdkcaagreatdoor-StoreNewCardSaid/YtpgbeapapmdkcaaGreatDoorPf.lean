/- Part Pf of the proof. -/
import Derived.Test.YtpgbeapapmdkcaaGreatDoorPd
import Derived.Test.YtpgbeapapmdkcaaGreatDoorPe
set_option maxRecDepth 100000
namespace Go.Proofs.YtpgbeapapmdkcaaGreatDoor
open Go Go.cQ Go.Proofs.YtpgbeapapmdkcaaGreatDoor.Cs
def oe (a p c s : Nat) : List Value := [.pointer (some ⟨a, 0, none⟩), .int .i64 (p : Int), .int .i64 (c : Int), .int .i64 (s : Int)]
def kl (A : By) (p : Nat) : Nat := rd A (p + 44) 1
def vl (A : By) (p : Nat) : Nat := rd A (p + 48) 4
theorem Cs.At.off {C : Cs} (K : Ok C) {p : Nat} (L : At C p) {o w : Nat} (h : o + w ≤ C.sz (C.cl p)) : p + o + w ≤ C.n * C.ai ∧ (p + o) % C.ai + w ≤ C.ai := by
 obtain ⟨_, n2, n3, _, _, n6, n7, n8⟩ := L.bh K
 refine ⟨by omega, ?_⟩
 have Ej := K.toFix.pos
 have e : (p + o) % C.ai = (C.ix p * C.sz (C.cl p) + o) % C.ai := by
  rw [n6, Nat.add_assoc, Nat.add_comm, Nat.add_mul_mod_self_right]
  rw [← n6]
 rw [e]
 by_cases hw : C.ix p * C.sz (C.cl p) + o < C.ai
 ·rw [Nat.mod_eq_of_lt hw]; omega
 have : C.ix p * C.sz (C.cl p) + o = C.ai := by omega
 rw [this, Nat.mod_self]; omega
theorem lx (a ab ai n p o c s : Nat) (A : By) (h0 : 0 < ai) (h1 : p + o + 1 ≤ n) (h2 : n ≤ 1073741824) (h3 : (p + o) % ai + 1 ≤ ai) (h4 : ai ≤ 1048576) :
  aL Tryz.prog 141 [.agg (oe a p c s).toArray, .int .i64 (o : Int)] (fun h => In (af a 192 (fU ab ai n)) h ∧ In (af ab 5 (cO A n)) h) []
   (fun v H => v = .int .u8 ((rd A (p + o) 1 : Nat) : Int) ∧ H = []) := by
 unfold oe
 refine ag Tryz.func141 rfl Tryz.ntmps141 rfl ?_
 rintro F ⟨ha, hb⟩
 refine aD ?_
 refine Lp (oB fun b1 => ?_)
 refine cY ?_
 refine zl T.Vh (Fj a ab ai n (p + o) A h0 h1 h2 h3 h4) .nil (fun _ le _ => ⟨ha.mono le, hb.mono le⟩) ?_
 refine bP ?_
 refine Rt [] Tryz.results141 ?_
 exact ⟨rfl, rfl⟩
theorem jv (a ab ai n p o c s v : Nat) (A : By) (hv : v < 256 ^ 1) (h0 : 0 < ai) (h1 : p + o + 1 ≤ n) (h2 : n ≤ 1073741824) (h3 : (p + o) % ai + 1 ≤ ai) (h4 : ai ≤ 1048576) :
  aL Tryz.prog 221 [.agg (oe a p c s).toArray, .int .i64 (o : Int), .int .u8 (v : Int)] (In (af a 192 (fU ab ai n))) [af ab 5 (cO A n)]
   (fun u H => u = .tuple #[] ∧ H = [af ab 5 (cO (wr A (p + o) 1 v) n)]) := by
 unfold oe
 refine ag Tryz.func221 rfl Tryz.ntmps221 rfl ?_
 rintro F ha
 refine aD ?_
 refine Lp (oB fun b1 => ?_)
 refine cY ?_
 refine zl T.U6 (E1 a ab ai n (p + o) v A hv h0 h1 h2 h3 h4) (.cons (.there .here) .nil) (fun _ le _ => ha.mono le) ?_
 refine aB ?_
 refine jN [af ab 5 (cO (wr A (p + o) 1 v) n)] Tryz.results221 ?_
 exact ⟨rfl, rfl⟩
theorem mC (a ab ai n p o c s : Nat) (A : By) (h0 : 0 < ai) (h1 : p + o + 4 ≤ n) (h2 : n ≤ 1073741824) (h3 : (p + o) % ai + 4 ≤ ai) (h4 : ai ≤ 1048576) :
  aL Tryz.prog 139 [.agg (oe a p c s).toArray, .int .i64 (o : Int)] (fun h => In (af a 192 (fU ab ai n)) h ∧ In (af ab 5 (cO A n)) h) []
   (fun v H => v = .int .u32 ((rd A (p + o) 4 : Nat) : Int) ∧ H = []) := by
 unfold oe
 refine ag Tryz.func139 rfl Tryz.ntmps139 rfl ?_
 rintro F ⟨ha, hb⟩
 refine aD ?_
 refine Lp (oB fun b1 => ?_)
 refine cY ?_
 refine zl T.Vj (BS a ab ai n (p + o) A h0 h1 h2 h3 h4) .nil (fun _ le _ => ⟨ha.mono le, hb.mono le⟩) ?_
 refine bP ?_
 refine Rt [] Tryz.results139 ?_
 exact ⟨rfl, rfl⟩
theorem ig (a ab ai n p o c s v : Nat) (A : By) (hv : v < 256 ^ 4) (h0 : 0 < ai) (h1 : p + o + 4 ≤ n) (h2 : n ≤ 1073741824) (h3 : (p + o) % ai + 4 ≤ ai) (h4 : ai ≤ 1048576) :
  aL Tryz.prog 219 [.agg (oe a p c s).toArray, .int .i64 (o : Int), .int .u32 (v : Int)] (In (af a 192 (fU ab ai n))) [af ab 5 (cO A n)]
   (fun u H => u = .tuple #[] ∧ H = [af ab 5 (cO (wr A (p + o) 4 v) n)]) := by
 unfold oe
 refine ag Tryz.func219 rfl Tryz.ntmps219 rfl ?_
 rintro F ha
 refine aD ?_
 refine Lp (oB fun b1 => ?_)
 refine cY ?_
 refine zl T.JA (tK a ab ai n (p + o) v A hv h0 h1 h2 h3 h4) (.cons (.there .here) .nil) (fun _ le _ => ha.mono le) ?_
 refine aB ?_
 refine jN [af ab 5 (cO (wr A (p + o) 4 v) n)] Tryz.results219 ?_
 exact ⟨rfl, rfl⟩
theorem jL (a ab ai n p o c s : Nat) (A : By) (h0 : 0 < ai) (h1 : p + o + 8 ≤ n) (h2 : n ≤ 1073741824) (h3 : (p + o) % ai + 8 ≤ ai) (h4 : ai ≤ 1048576) :
  aL Tryz.prog 140 [.agg (oe a p c s).toArray, .int .i64 (o : Int)] (fun h => In (af a 192 (fU ab ai n)) h ∧ In (af ab 5 (cO A n)) h) []
   (fun v H => v = .int .u64 ((rd A (p + o) 8 : Nat) : Int) ∧ H = []) := by
 unfold oe
 refine ag Tryz.func140 rfl Tryz.ntmps140 rfl ?_
 rintro F ⟨ha, hb⟩
 refine aD ?_
 refine Lp (oB fun b1 => ?_)
 refine cY ?_
 refine zl T.Vi (BR a ab ai n (p + o) A h0 h1 h2 h3 h4) .nil (fun _ le _ => ⟨ha.mono le, hb.mono le⟩) ?_
 refine bP ?_
 refine Rt [] Tryz.results140 ?_
 exact ⟨rfl, rfl⟩
theorem mB (a ab ai n p o c s v : Nat) (A : By) (hv : v < 256 ^ 8) (h0 : 0 < ai) (h1 : p + o + 8 ≤ n) (h2 : n ≤ 1073741824) (h3 : (p + o) % ai + 8 ≤ ai) (h4 : ai ≤ 1048576) :
  aL Tryz.prog 220 [.agg (oe a p c s).toArray, .int .i64 (o : Int), .int .u64 (v : Int)] (In (af a 192 (fU ab ai n))) [af ab 5 (cO A n)]
   (fun u H => u = .tuple #[] ∧ H = [af ab 5 (cO (wr A (p + o) 8 v) n)]) := by
 unfold oe
 refine ag Tryz.func220 rfl Tryz.ntmps220 rfl ?_
 rintro F ha
 refine aD ?_
 refine Lp (oB fun b1 => ?_)
 refine cY ?_
 refine zl T.U7 (BI a ab ai n (p + o) v A hv h0 h1 h2 h3 h4) (.cons (.there .here) .nil) (fun _ le _ => ha.mono le) ?_
 refine aB ?_
 refine jN [af ab 5 (cO (wr A (p + o) 8 v) n)] Tryz.results220 ?_
 exact ⟨rfl, rfl⟩
theorem fH (a ab ai n p c s : Nat) (A : By) (h0 : 0 < ai) (h1 : p + 44 + 1 ≤ n) (h2 : n ≤ 1073741824) (h3 : (p + 44) % ai + 1 ≤ ai) (h4 : ai ≤ 1048576) :
  aL Tryz.prog 130 [.agg (oe a p c s).toArray] (fun h => In (af a 192 (fU ab ai n)) h ∧ In (af ab 5 (cO A n)) h) []
   (fun v H => v = .int .i64 ((kl A p : Nat) : Int) ∧ H = []) := by
 have hl : rd A (p + 44) 1 < 256 ^ 1 := lX _ _ _
 unfold kl
 refine ag Tryz.func130 rfl Tryz.ntmps130 rfl ?_
 rintro F ⟨ha, hb⟩
 refine aD ?_
 refine Lp (oB fun b1 => ?_)
 refine bb ?_
 refine zl T.wJ (lx a ab ai n p 44 c s A h0 h1 h2 h3 h4) .nil (fun _ le _ => ⟨ha.mono le, hb.mono le⟩) ?_
 refine bb ?_
 refine Rt [] Tryz.results130 ?_
 exact ⟨rfl, rfl⟩
theorem vO (a ab ai n p c s : Nat) (A : By) (h0 : 0 < ai) (h1 : p + 48 + 4 ≤ n) (h2 : n ≤ 1073741824) (h3 : (p + 48) % ai + 4 ≤ ai) (h4 : ai ≤ 1048576) :
  aL Tryz.prog 138 [.agg (oe a p c s).toArray] (fun h => In (af a 192 (fU ab ai n)) h ∧ In (af ab 5 (cO A n)) h) []
   (fun v H => v = .int .i64 ((vl A p : Nat) : Int) ∧ H = []) := by
 have hl : rd A (p + 48) 4 < 256 ^ 4 := lX _ _ _
 unfold vl
 refine ag Tryz.func138 rfl Tryz.ntmps138 rfl ?_
 rintro F ⟨ha, hb⟩
 refine aD ?_
 refine Lp (oB fun b1 => ?_)
 refine bb ?_
 refine zl T.A9 (mC a ab ai n p 48 c s A h0 h1 h2 h3 h4) .nil (fun _ le _ => ⟨ha.mono le, hb.mono le⟩) ?_
 refine bb ?_
 refine Rt [] Tryz.results138 ?_
 exact ⟨rfl, rfl⟩
theorem tj (a ab ai n p o c s m : Nat) (A : By) (h0 : 0 < ai) (h1 : p + o + m ≤ n) (h2 : n ≤ 1073741824) (h3 : (p + o) % ai + m ≤ ai) (h4 : ai ≤ 1048576) :
  aL Tryz.prog 132 [.agg (oe a p c s).toArray, .int .i64 (o : Int), .int .i64 (m : Int)] (fun h => In (af a 192 (fU ab ai n)) h ∧ In (af ab 5 (cO A n)) h) []
   (fun v H => ∃ b, v = .slice (some ⟨b, 0, none⟩) m m ∧ H = [own (some ⟨b, 0, none⟩) m 5 1 (aq (ik A (p + o) m))]) := by
 unfold oe
 refine ag Tryz.func132 rfl Tryz.ntmps132 rfl ?_
 rintro F ⟨ha, hb⟩
 refine aD ?_
 refine Lp (oB fun b1 => ?_)
 refine bx ?_
 refine Lp (oC T.Vk rfl rfl (BG a ab ai n (p + o) m A h0 h1 h2 h3 h4) .nil (fun _ le _ => ⟨ha.mono le, hb.mono le⟩) ?_)
 rintro v H' ⟨b, rfl, rfl⟩
 refine bo ?_
 refine bP ?_
 refine Rt [own (some ⟨b, 0, none⟩) m 5 1 (aq (ik A (p + o) m))] Tryz.results132 ?_
 exact ⟨_, rfl, rfl⟩
abbrev CL (b : Nat) (C : Cs) (y : Lc) : aa := aE (nF b C y)
theorem sC {P : Program} {f : FuncId} {args : List Value} {H : List aa} {R : Value → List aa → Prop} {b : Nat} {C : Cs} (h : ∀ y, fk C y → aL P f args (In (CL b C y)) H R) : aL P f args (In (Cl b C)) H R := fun F w hp s => by
 obtain ⟨k, ⟨y, hy, p⟩, l⟩ := hp
 exact h y hy F w ⟨k, p, l⟩ s
theorem CD {b : Nat} {C : Cs} {y : Lc} {h k : Hp} (hy : fk C y) (i : In (CL b C y) h) (l : Le h k) : In (Cl b C) k := by
 obtain ⟨m, p, q⟩ := i
 exact ⟨m, ⟨y, hy, p⟩, q.trans l⟩
theorem eC {b : Nat} {C : Cs} {y : Lc} {h k : Hp} (i : In (CL b C y) h) (l : Le h k) : In (af y.a 192 (fU y.ab C.ai (C.n * C.ai))) k ∧ In (af y.ab 5 (cO C.A (C.n * C.ai))) k := by
 obtain ⟨_, _, _, _, _, _, h6, h7, _⟩ := oP i
 exact ⟨In.mono h6 l, In.mono h7 l⟩
theorem jI (b : Nat) (C : Cs) (y : Lc) (K : Ok C) (hy : fk C y) (p : Nat) (L : Live C p) :
  aL Tryz.prog 129 [.pointer (some ⟨b, 0, none⟩), .int .u64 (C.hd p : Int)] (In (CL b C y)) []
   (fun v H => v = .tuple #[.agg (oe y.a p (C.cl p) (C.sz (C.cl p))).toArray, .int .i64 0] ∧ H = []) := by
 have hc : C.cl p < C.ae.length := (L.toAt.bh K).1
 refine ag Tryz.func129 rfl Tryz.ntmps129 rfl ?_
 intro F av
 refine aD ?_
 refine Lp (oA T.gO fun b1 => ?_)
 refine gh ?_
 refine zl T.uQ (uU b C K p L) .nil (fun _ le _ => CD hy av le) ?_
 refine vW ?_
 refine zl T.Vl (MK b C y) .nil (fun _ le _ => cu (oP av) le) ?_
 refine bb ?_
 refine zl T.RE (vQ b C K (C.cl p : Int)) .nil (fun _ le _ => CD hy av le) ?_
 unfold ofM
 rw [if_pos (by omega), Int.toNat_natCast]
 refine bq ?_
 refine Ep [] T.Bi Tryz.results129 ?_
 exact ⟨rfl, rfl⟩
theorem DK (b : Nat) (C : Cs) (y : Lc) (K : Ok C) (hy : fk C y) (p : Nat) (L : Live C p) (hk : kl C.A p ≠ 0) :
  aL Tryz.prog 175 [.pointer (some ⟨b, 0, none⟩), .int .u64 (C.hd p : Int)] (In (CL b C y)) []
   (fun v H => v = .tuple #[.agg (oe y.a p (C.cl p) (C.sz (C.cl p))).toArray, .int .i64 0] ∧ H = []) := by
 obtain ⟨n1, n2, _⟩ := L.toAt.bh K
 have nb := fB K.toFix
 have f0 := K.toFix.pos
 have f1 := K.toFix.p1
 obtain ⟨e1, e2⟩ := L.toAt.off K (o := 44) (w := 1) (by omega)
 refine ag Tryz.func175 rfl Tryz.ntmps175 rfl ?_
 intro F av
 refine aD ?_
 refine Lp (oA T.gO fun b1 => ?_)
 refine bq ?_
 refine zl T.mc (jI b C y K hy p L) .nil (fun _ le _ => In.mono av le) ?_
 unfold oe
 refine bL ?_
 refine Lp (oA T.gO fun b2 => ?_)
 refine cX ?_
 refine zt 16 ?_ (e := by rfl)
 refine aD ?_
 refine zl T.iz (fH y.a y.ab C.ai (C.n * C.ai) p (C.cl p) (C.sz (C.cl p)) C.A f0 e1 nb e2 f1) .nil (fun _ le _ => eC av le) ?_
 refine bL ?_
 refine dq ?_
 refine cY ?_
 refine Ep [] T.Bi Tryz.results175 ?_
 exact ⟨rfl, rfl⟩
def Cs.wA (C : Cs) (A : By) : Cs := { C with A := A }
theorem sY {P : Program} {f : FuncId} {args : List Value} {pre : Hp → Prop} {H : List aa} {R : Value → List aa → Prop} {b : Nat} {C : Cs} (h : ∀ y, fk C y → aL P f args pre (CL b C y :: H) R) : aL P f args pre (Cl b C :: H) R :=
 aL.WO fun y => aL.ye fun hy => h y hy
theorem G3 {b : Nat} {C : Cs} {y : Lc} {H : List aa} {h : Hp} (hy : fk C y) (st : aj (CL b C y :: H) h) : aj (Cl b C :: H) h :=
 aY (fun _ p => ⟨y, hy, p⟩) st
theorem fk.wA {C : Cs} {y : Lc} (hy : fk C y) (A : By) : fk (C.wA A) y := ⟨hy.pl, hy.rl, hy.pk, hy.ai, hy.bj⟩
def XD (b : Nat) (C : Cs) (y : Lc) : aa := aE [af b 136 (de C y), mT C y, af y.pb 224 (y.pl.flatMap dL), aE (y.pl.map lQ), af y.rb 253 (y.rl.flatMap dI), aE (y.rl.map jz)]
theorem vd {L H : List aa} {h : Hp} (s : aj (aE L :: H) h) : aj (L ++ H) h := by
 obtain ⟨h1, h2, d, l1, l2, s1, s2⟩ := s
 exact dp (bB s1 s2 d) (bS l1 l2)
theorem zg (b : Nat) (C : Cs) (y : Lc) : List.Perm (nF b C y) ([af y.ab 5 (cO C.A (C.n * C.ai)), af y.a 192 (fU y.ab C.ai (C.n * C.ai))] ++ [af b 136 (de C y), mT C y, af y.pb 224 (y.pl.flatMap dL), aE (y.pl.map lQ), af y.rb 253 (y.rl.flatMap dI), aE (y.rl.map jz)]) :=
 List.perm_append_comm (l₁ := [_, _, _, _, _, _]) (l₂ := [_, _]) |>.trans (List.Perm.swap _ _ _)
theorem Mw {b : Nat} {C : Cs} {y : Lc} {H : List aa} {h : Hp} (s : aj (CL b C y :: H) h) : aj (af y.ab 5 (cO C.A (C.n * C.ai)) :: af y.a 192 (fU y.ab C.ai (C.n * C.ai)) :: XD b C y :: H) h :=
 aK (fun _ s => aK (fun _ s => eR (L := [_, _, _, _, _, _]) s) s) (vd (ll (zg b C y) s))
theorem qk {b : Nat} {C : Cs} {y : Lc} {H : List aa} {A : By} (hy : fk C y) {h : Hp} (s : aj (af y.ab 5 (cO A (C.n * C.ai)) :: af y.a 192 (fU y.ab C.ai (C.n * C.ai)) :: XD b C y :: H) h) : aj (Cl b (C.wA A) :: H) h := by
 refine G3 (hy.wA A) (ll (zg b (C.wA A) y).symm (eR (L := [_, _, _, _, _, _, _, _]) ?_))
 exact aK (fun _ s => aK (fun _ s => vd s) s) s
theorem Ib {n : Nat} {ds : List Deferred} {F : c9} {K : Act → World → Prop} {σ : aS} {H : List aa} {b : Nat} {C : Cs} {y : Lc}
  (h : G n ds F K σ (af y.ab 5 (cO C.A (C.n * C.ai)) :: af y.a 192 (fU y.ab C.ai (C.n * C.ai)) :: XD b C y :: H)) : G n ds F K σ (CL b C y :: H) := az (fun _ s => Mw s) h
theorem tC (b : Nat) (C : Cs) (K : Ok C) (p o : Nat) (L : Live C p) (hk : kl C.A p ≠ 0) (ho : o + 1 ≤ 56) :
  aL Tryz.prog 224 [.pointer (some ⟨b, 0, none⟩), .int .u64 (C.hd p : Int), .int .i64 (o : Int)] (In (Cl b C)) []
   (fun v H => v = .tuple #[.int .u8 ((rd C.A (p + o) 1 : Nat) : Int), .int .i64 0] ∧ H = []) := by
 refine sC fun y hy => ?_
 obtain ⟨n1, n2, _⟩ := L.toAt.bh K
 have nb := fB K.toFix
 have f0 := K.toFix.pos
 have f1 := K.toFix.p1
 obtain ⟨e1, e2⟩ := L.toAt.off K (o := 44) (w := 1) (by omega)
 obtain ⟨e3, e4⟩ := L.toAt.off K (o := o) (w := 1) (by omega)
 refine ag Tryz.func224 rfl Tryz.ntmps224 rfl ?_
 intro F av
 refine bO ?_
 refine zl T.mc (jI b C y K hy p L) .nil (fun _ le _ => In.mono av le) ?_
 unfold oe
 refine bL ?_
 refine Lp (oA T.gO fun b1 => ?_)
 refine cX ?_
 refine zf 18 ?_ (e := by rfl)
 refine aD ?_
 refine zl T.iz (fH y.a y.ab C.ai (C.n * C.ai) p (C.cl p) (C.sz (C.cl p)) C.A f0 e1 nb e2 f1) .nil (fun _ le _ => eC av le) ?_
 refine bL ?_
 refine dq ?_
 refine bq ?_
 refine zl T.wJ (lx y.a y.ab C.ai (C.n * C.ai) p o (C.cl p) (C.sz (C.cl p)) C.A f0 e3 nb e4 f1) .nil (fun _ le _ => eC av le) ?_
 refine bq ?_
 refine gn [] Tryz.results224 ?_
 exact ⟨rfl, rfl⟩
theorem vi (b : Nat) (C : Cs) (K : Ok C) (p o v : Nat) (hv : v < 256 ^ 1) (L : Live C p) (hk : kl C.A p ≠ 0) (ho : o + 1 ≤ 56) :
  aL Tryz.prog 228 [.pointer (some ⟨b, 0, none⟩), .int .u64 (C.hd p : Int), .int .i64 (o : Int), .int .u8 (v : Int), .bool true] (fun _ => True) [Cl b C]
   (fun u H => u = .int .i64 0 ∧ H = [Cl b (C.wA (wr C.A (p + o) 1 v))]) := by
 refine sY fun y hy => ?_
 obtain ⟨n1, n2, _⟩ := L.toAt.bh K
 have nb := fB K.toFix
 have f0 := K.toFix.pos
 have f1 := K.toFix.p1
 obtain ⟨e3, e4⟩ := L.toAt.off K (o := o) (w := 1) (by omega)
 refine ag Tryz.func228 rfl Tryz.ntmps228 rfl ?_
 intro F _
 refine bE ?_
 refine zl T.Ju (DK b C y K hy p L hk) .nil (fun _ le av => av.1) ?_
 unfold oe
 refine bL ?_
 refine Lp (oA T.gO fun b1 => ?_)
 refine ca ?_
 refine bb ?_
 refine Hh (H' := [CL b C y, af b1 228 [.pointer (some ⟨y.a, 0, none⟩), .int .i64 (p : Int), .int .i64 (C.cl p : Int), .int .i64 (C.sz (C.cl p) : Int)]]) ?_
 refine Ib ?_
 refine zl T.sG (jv y.a y.ab C.ai (C.n * C.ai) p o (C.cl p) (C.sz (C.cl p)) v C.A hv f0 e3 nb e4 f1) (.cons .here .nil) (fun _ le av => av.1) ?_
 refine az (fun _ s => qk hy s) ?_
 refine bq ?_
 refine Rt [Cl b (C.wA (wr C.A (p + o) 1 v))] Tryz.results228 ?_
 exact ⟨rfl, rfl⟩
theorem qB (b : Nat) (C : Cs) (K : Ok C) (p o : Nat) (L : Live C p) (hk : kl C.A p ≠ 0) (ho : o + 8 ≤ 56) :
  aL Tryz.prog 201 [.pointer (some ⟨b, 0, none⟩), .int .u64 (C.hd p : Int), .int .i64 (o : Int)] (In (Cl b C)) []
   (fun v H => v = .tuple #[.int .u64 ((rd C.A (p + o) 8 : Nat) : Int), .int .i64 0] ∧ H = []) := by
 refine sC fun y hy => ?_
 obtain ⟨n1, n2, _⟩ := L.toAt.bh K
 have nb := fB K.toFix
 have f0 := K.toFix.pos
 have f1 := K.toFix.p1
 obtain ⟨e1, e2⟩ := L.toAt.off K (o := 44) (w := 1) (by omega)
 obtain ⟨e3, e4⟩ := L.toAt.off K (o := o) (w := 8) (by omega)
 refine ag Tryz.func201 rfl Tryz.ntmps201 rfl ?_
 intro F av
 refine bO ?_
 refine zl T.mc (jI b C y K hy p L) .nil (fun _ le _ => In.mono av le) ?_
 unfold oe
 refine bL ?_
 refine Lp (oA T.gO fun b1 => ?_)
 refine cX ?_
 refine zf 18 ?_ (e := by rfl)
 refine aD ?_
 refine zl T.iz (fH y.a y.ab C.ai (C.n * C.ai) p (C.cl p) (C.sz (C.cl p)) C.A f0 e1 nb e2 f1) .nil (fun _ le _ => eC av le) ?_
 refine bL ?_
 refine dq ?_
 refine bq ?_
 refine zl T.wK (jL y.a y.ab C.ai (C.n * C.ai) p o (C.cl p) (C.sz (C.cl p)) C.A f0 e3 nb e4 f1) .nil (fun _ le _ => eC av le) ?_
 refine bq ?_
 refine gn [] Tryz.results201 ?_
 exact ⟨rfl, rfl⟩
theorem G8 (a1 a2 : Option Addr) (c1 c2 m1 m2 : Nat) (l1 l2 : List UInt8) (h1 : m1 = l1.length) (h2 : m2 = l2.length) (k1 : l1.length < 18446744073709551616) (k2 : l2.length < 18446744073709551616) :
  aL Tryz.prog 131 [.slice a1 m1 c1, .slice a2 m2 c2] (fun h => fK h a1 (aq l1) ∧ fK h a2 (aq l2)) [] (fun v H => v = .bool (decide (l1 = l2)) ∧ H = []) := by
 refine ag Tryz.func131 rfl Tryz.ntmps131 rfl ?_
 rintro F ⟨r1, r2⟩
 refine bq ?_
 refine Li (Ts T.iD T.og T.qW) ?_
 refine aD ?_
 refine Li (Ts T.iD T.og T.qW) ?_
 refine Li Sq ?_
 refine bL ?_
 refine Rt [] Tryz.results131 ?_
 exact ⟨rfl, rfl⟩
theorem yO (m : Int) : aL Tryz.prog 218 [.int .i64 m] (fun _ => True) [] (fun v H => v = .bool (decide (0 ≤ m ∧ m < 16)) ∧ H = []) := by
 refine ag Tryz.func218 rfl Tryz.ntmps218 rfl ?_
 intro F _
 refine bO ?_
 refine aJ (t := 5) rfl ?_ ?_
 ·intro h
  replace h := aF h
  refine bE ?_
  refine Rt [] Tryz.results218 ?_
  refine ⟨?_, rfl⟩
  congr 2
  simp [h]
 intro h
 replace h := aF h
 refine bE ?_
 refine Rt [] Tryz.results218 ?_
 refine ⟨?_, rfl⟩
 rw [decide_eq_false (by omega)]
theorem BP (b : Nat) (C : Cs) (K : Ok C) (p : Nat) (L : Live C p) (hk : kl C.A p ≠ 0) (hx : rd C.A (p + 16) 8 < 9223372036854775808) :
  aL Tryz.prog 134 [.pointer (some ⟨b, 0, none⟩), .int .u64 (C.hd p : Int)] (In (Cl b C)) []
   (fun v H => v = .tuple #[.int .i64 ((rd C.A (p + 16) 8 : Nat) : Int), .int .i64 0] ∧ H = []) := by
 refine ag Tryz.func134 rfl Tryz.ntmps134 rfl ?_
 intro F av
 refine bO ?_
 refine zl T.Jn (qB b C K p 16 L hk (by omega)) .nil (fun _ le _ => In.mono av le) ?_
 refine gg ?_
 refine gn [] Tryz.results134 ?_
 exact ⟨rfl, rfl⟩
theorem vB (b : Nat) (C : Cs) (K : Ok C) (p : Nat) (L : Live C p) (hk : kl C.A p ≠ 0) :
  aL Tryz.prog 135 [.pointer (some ⟨b, 0, none⟩), .int .u64 (C.hd p : Int)] (In (Cl b C)) []
   (fun v H => v = .tuple #[.int .u64 ((rd C.A (p + 32) 8 : Nat) : Int), .int .i64 0] ∧ H = []) := by
 refine ag Tryz.func135 rfl Tryz.ntmps135 rfl ?_
 intro F av
 refine bO ?_
 refine zl T.Jn (qB b C K p 32 L hk (by omega)) .nil (fun _ le _ => In.mono av le) ?_
 refine bE ?_
 refine gn [] Tryz.results135 ?_
 exact ⟨rfl, rfl⟩
theorem vC (b : Nat) (C : Cs) (K : Ok C) (p : Nat) (L : Live C p) (hk : kl C.A p ≠ 0) :
  aL Tryz.prog 164 [.pointer (some ⟨b, 0, none⟩), .int .u64 (C.hd p : Int)] (In (Cl b C)) []
   (fun v H => v = .tuple #[.int .i64 ((rd C.A (p + 45) 1 : Nat) : Int), .int .i64 0] ∧ H = []) := by
 have hl : rd C.A (p + 45) 1 < 256 ^ 1 := lX _ _ _
 refine ag Tryz.func164 rfl Tryz.ntmps164 rfl ?_
 intro F av
 refine bO ?_
 refine zl T.Ji (tC b C K p 45 L hk (by omega)) .nil (fun _ le _ => In.mono av le) ?_
 refine gg ?_
 refine gn [] Tryz.results164 ?_
 exact ⟨rfl, rfl⟩
theorem vD (b : Nat) (C : Cs) (K : Ok C) (p : Nat) (L : Live C p) (hk : kl C.A p ≠ 0) :
  aL Tryz.prog 172 [.pointer (some ⟨b, 0, none⟩), .int .u64 (C.hd p : Int)] (In (Cl b C)) []
   (fun v H => v = .tuple #[.int .i64 ((rd C.A (p + 46) 1 : Nat) : Int), .int .i64 0] ∧ H = []) := by
 have hl : rd C.A (p + 46) 1 < 256 ^ 1 := lX _ _ _
 refine ag Tryz.func172 rfl Tryz.ntmps172 rfl ?_
 intro F av
 refine bO ?_
 refine zl T.Ji (tC b C K p 46 L hk (by omega)) .nil (fun _ le _ => In.mono av le) ?_
 refine gg ?_
 refine gn [] Tryz.results172 ?_
 exact ⟨rfl, rfl⟩
theorem pd (b : Nat) (C : Cs) (K : Ok C) (p v : Nat) (hv : v < 16) (L : Live C p) (hk : kl C.A p ≠ 0) :
  aL Tryz.prog 173 [.pointer (some ⟨b, 0, none⟩), .int .u64 (C.hd p : Int), .int .i64 (v : Int)] (fun _ => True) [Cl b C]
   (fun u H => u = .int .i64 0 ∧ H = [Cl b (C.wA (wr C.A (p + 46) 1 v))]) := by
 refine ag Tryz.func173 rfl Tryz.ntmps173 rfl ?_
 intro F _
 refine cY ?_
 refine zl T.Jj (yO (v : Int)) .nil (fun _ _ _ => trivial) ?_
 refine aw (t := 12) (v' := (.bool true)) rfl (by rw [decide_eq_true (by omega)]) ?_
 refine zl T.Jg (vi b C K p 46 v (Nat.lt_trans hv (by decide)) L hk (by omega)) (.cons .here .nil) (fun _ _ _ => trivial) ?_
 refine bL ?_
 refine Rt [Cl b (C.wA (wr C.A (p + 46) 1 v))] Tryz.results173 ?_
 exact ⟨rfl, rfl⟩
theorem o9 (b : Nat) (C : Cs) (K : Ok C) (p v : Nat) (hv : 1 ≤ v ∧ v ≤ 4) (L : Live C p) (hk : kl C.A p ≠ 0) :
  aL Tryz.prog 227 [.pointer (some ⟨b, 0, none⟩), .int .u64 (C.hd p : Int), .int .i64 (v : Int)] (fun _ => True) [Cl b C]
   (fun u H => u = .int .i64 0 ∧ H = [Cl b (C.wA (wr C.A (p + 45) 1 v))]) := by
 refine ag Tryz.func227 rfl Tryz.ntmps227 rfl ?_
 intro F _
 refine bP ?_
 refine zt 13 ?_
 refine bL ?_
 refine aw (t := 16) (v' := (.bool true)) rfl (by rw [decide_eq_true (by omega)]) ?_
 refine zl T.Jg (vi b C K p 45 v (Nat.lt_of_le_of_lt hv.2 (by decide)) L hk (by omega)) (.cons .here .nil) (fun _ _ _ => trivial) ?_
 refine bL ?_
 refine Rt [Cl b (C.wA (wr C.A (p + 45) 1 v))] Tryz.results227 ?_
 exact ⟨rfl, rfl⟩
theorem yX (k v : Nat) (hk : 1 ≤ k ∧ k ≤ 250) (hv : v ≤ 1048576) : aL Tryz.prog 178 [.int .i64 (k : Int), .int .i64 (v : Int)] (fun _ => True) []
   (fun u H => u = .tuple #[.int .i64 ((58 + k + v : Nat) : Int), .int .i64 0] ∧ H = []) := by
 refine ag Tryz.func178 rfl Tryz.ntmps178 rfl ?_
 intro F _
 refine bx ?_
 refine zf 9 ?_
 refine bq ?_
 refine dq ?_
 refine bb ?_
 refine zf 16 ?_
 refine bq ?_
 refine dq ?_
 refine ed ?_
 refine gn [] Tryz.results178 ?_
 exact ⟨rfl, rfl⟩
def okB (c : UInt8) : Bool := decide (32 < c.toNat ∧ c.toNat ≠ 127)
def dS (l : List UInt8) : Bool := decide (1 ≤ l.length ∧ l.length ≤ 250) && l.all okB
theorem yS {l : List UInt8} {k : Nat} (h : k < l.length) (hb : okB (l[k]) = false) : dS l = false := by
 unfold dS
 rw [Bool.and_eq_false_iff]
 right
 rw [List.all_eq_false]
 exact ⟨l[k], List.getElem_mem h, by rw [hb]; decide⟩
theorem K7 {l : List UInt8} {k : Nat} (h : ∀ i (h : i < l.length), i < k → okB l[i] = true) (hk : k < l.length) (hb : okB l[k] = true) : ∀ i (h : i < l.length), i < k + 1 → okB l[i] = true := fun i hl hi => by
 by_cases e : i < k
 ·exact h i hl e
 obtain rfl : i = k := by omega
 exact hb
theorem yT (a : Option Addr) (c m : Nat) (l : List UInt8) (hm : m = l.length) (hl : m < 281474976710656) :
  aL Tryz.prog 69 [.slice a m c] (fun h => fK h a (aq l)) [] (fun v H => v = .bool (dS l) ∧ H = []) := by
 refine ag Tryz.func69 rfl Tryz.ntmps69 rfl ?_
 intro F r
 refine cY ?_
 refine aJ (t := 8) rfl ?_ ?_
 ·intro h1
  replace h1 := aF h1
  refine bP ?_
  refine Rt [] Tryz.results69 ?_
  refine ⟨?_, rfl⟩
  unfold dS
  rw [decide_eq_false (by omega)]; rfl
 intro h1
 replace h1 := aF h1
 refine bq ?_
 refine au rfl ?_ ?_
 ·intro h2
  replace h2 := aF h2
  refine bq ?_
  refine Rt [] Tryz.results69 ?_
  refine ⟨?_, rfl⟩
  unfold dS
  rw [decide_eq_false (by omega)]; rfl
 intro h2
 replace h2 := aF h2
 refine cY ?_
 refine Lo (ι := Nat) [16, 17, 18, 4, 19, 20, 21, 22, 23, 24, 2, 25, 15] (fun k => k ≤ m ∧ ∀ i (h : i < l.length), i < k → okB l[i] = true) (fun k => [(15, .int .i64 (k : Int))]) (fun k => []) (fun k => m - k) (0) ⟨Nat.zero_le _, fun i _ h => absurd h (Nat.not_lt_zero _)⟩ ?_
 rintro k hI
 refine bL ?_
 refine ay ?_
 refine au rfl ?_ ?_
 ·intro hk
  replace hk := aF hk
  have cJ : k < l.length := by omega
  have kb : (aq l)[k]? = some (.int .u8 ((l[k].toNat : Nat) : Int)) := by unfold aq; rw [List.getElem?_map, List.getElem?_eq_getElem cJ]; rfl
  have hc := l[k].toNat_lt
  refine bq ?_
  refine Li (Ix T.iD) ?_
  refine bO ?_
  refine aJ (t := 21) rfl ?_ ?_
  ·intro h3
   replace h3 := aF h3
   refine gg ?_
   refine Rt [] Tryz.results69 ?_
   exact ⟨by rw [yS cJ (decide_eq_false (by omega))], rfl⟩
  intro h3
  replace h3 := aF h3
  refine bb ?_
  refine au rfl ?_ ?_
  ·intro h4
   replace h4 := aF h4
   refine cY ?_
   refine Rt [] Tryz.results69 ?_
   exact ⟨by rw [yS cJ (decide_eq_false (by omega))], rfl⟩
  intro h4
  replace h4 := aF h4
  refine bE ?_
  refine aB ?_
  refine Ro (k + 1) (⟨by omega, K7 hI.2 cJ (decide_eq_true (by omega))⟩) ((by omega))
 intro hk
 replace hk := aF hk
 refine cY ?_
 refine Rt [] Tryz.results69 ?_
 refine ⟨?_, rfl⟩
 unfold dS
 rw [decide_eq_true (by omega), Bool.true_and]
 rw [eq_comm, Value.bool.injEq, List.all_eq_true]
 intro x hx
 obtain ⟨i, hi, rfl⟩ := List.getElem_of_mem hx
 exact hI.2 i hi (by omega)
def nO : Option Nat → Nat
 | none => 0
 | some q => q / 8 + 1
def hO (C : Cs) : Option Nat → Nat
 | none => 0
 | some q => C.hd q
theorem mH (q : Nat) : nO (some q) = q / 8 + 1 := rfl
theorem bV (C : Cs) (q : Nat) : hO C (some q) = C.hd q := rfl
def cq (C : Cs) (o : Option Nat) : Prop := ∀ q, o = some q → Live C q
theorem qF (b : Nat) (C : Cs) (K : Ok C) (p : Nat) (L : Live C p) (hk : kl C.A p ≠ 0) :
  aL Tryz.prog 214 [.pointer (some ⟨b, 0, none⟩), .int .u64 (C.hd p : Int)] (In (Cl b C)) []
   (fun v H => v = .tuple #[.int .i64 ((kl C.A p : Nat) : Int), .int .i64 ((vl C.A p : Nat) : Int), .int .i64 0] ∧ H = []) := by
 refine sC fun y hy => ?_
 obtain ⟨n1, n2, _⟩ := L.toAt.bh K
 have nb := fB K.toFix
 have f0 := K.toFix.pos
 have f1 := K.toFix.p1
 obtain ⟨e1, e2⟩ := L.toAt.off K (o := 44) (w := 1) (by omega)
 obtain ⟨e3, e4⟩ := L.toAt.off K (o := 48) (w := 4) (by omega)
 refine ag Tryz.func214 rfl Tryz.ntmps214 rfl ?_
 intro F av
 refine cX ?_
 refine zl T.mc (jI b C y K hy p L) .nil (fun _ le _ => In.mono av le) ?_
 unfold oe
 refine bL ?_
 refine Lp (oA T.gO fun b1 => ?_)
 refine cX ?_
 refine zf 16 ?_ (e := by rfl)
 refine aD ?_
 refine zl T.iz (fH y.a y.ab C.ai (C.n * C.ai) p (C.cl p) (C.sz (C.cl p)) C.A f0 e1 nb e2 f1) .nil (fun _ le _ => eC av le) ?_
 refine bL ?_
 refine dq ?_
 refine bw ?_
 refine ay ?_
 refine jC 8 T.mix (.cons .here .nil) fun F1 kN cT aU => ?_
 obtain ⟨hb, _⟩ := cT
 refine aD ?_
 refine Tp (oC T.iz rfl rfl (fH y.a y.ab C.ai (C.n * C.ai) p (C.cl p) (C.sz (C.cl p)) C.A f0 e1 nb e2 f1) .nil (fun _ le _ => eC (In.mono av kN) le) ?_)
 rintro v H' ⟨rfl, rfl⟩
 refine bo ?_
 refine aD ?_
 refine Tp (oC T.JE rfl rfl (vO y.a y.ab C.ai (C.n * C.ai) p (C.cl p) (C.sz (C.cl p)) C.A f0 e3 nb e4 f1) .nil (fun _ le _ => eC (In.mono av kN) le) ?_)
 rintro v H' ⟨rfl, rfl⟩
 refine bo ?_
 refine bb ?_
 refine iC aU ?_
 refine bw ?_
 refine Rt3 [] Tryz.results214 ?_
 exact ⟨rfl, rfl⟩
theorem oY (b : Nat) (C : Cs) (K : Ok C) (p i : Nat) (o : Option Nat) (L : Live C p) (hk : kl C.A p ≠ 0) (hi : i ≤ 2) (ho : cq C o) (hn : rd C.A (p + 4 * i) 4 = nO o) :
  aL Tryz.prog 133 [.pointer (some ⟨b, 0, none⟩), .int .u64 (C.hd p : Int), .int .i64 (i : Int)] (In (Cl b C)) []
   (fun v H => v = .tuple #[.int .u64 (hO C o : Int), .int .i64 0] ∧ H = []) := by
 refine sC fun y hy => ?_
 obtain ⟨n1, n2, _⟩ := L.toAt.bh K
 have nb := fB K.toFix
 have f0 := K.toFix.pos
 have f1 := K.toFix.p1
 obtain ⟨e1, e2⟩ := L.toAt.off K (o := 44) (w := 1) (by omega)
 obtain ⟨e3, e4⟩ := L.toAt.off K (o := 4 * i) (w := 4) (by omega)
 refine ag Tryz.func133 rfl Tryz.ntmps133 rfl ?_
 intro F av
 refine bO ?_
 refine zl T.mc (jI b C y K hy p L) .nil (fun _ le _ => In.mono av le) ?_
 unfold oe
 refine bL ?_
 refine Lp (oA T.gO fun b1 => ?_)
 refine oo ?_
 refine zf 26 ?_
 refine bq ?_
 refine dq ?_
 refine bw ?_
 refine zl T.iz (fH y.a y.ab C.ai (C.n * C.ai) p (C.cl p) (C.sz (C.cl p)) C.A f0 e1 nb e2 f1) .nil (fun _ le _ => eC av le) ?_
 refine bL ?_
 refine dq ?_
 refine cX ?_
 refine aw (t := 37) (v' := (.int .i64 ((4 * i : Nat) : Int))) rfl (by rw [Int.zero_add]; rfl) ?_
 refine zl T.A9 (mC y.a y.ab C.ai (C.n * C.ai) p (4 * i) (C.cl p) (C.sz (C.cl p)) C.A f0 e3 nb e4 f1) .nil (fun _ le _ => eC av le) ?_
 rw [hn]
 rcases o with _ | q
 ·refine Li As ?_
  refine gh ?_
  refine gn [] Tryz.results133 ?_
  exact ⟨rfl, rfl⟩
 have M := ho q rfl
 obtain ⟨m1, m2, m3, m4, m5, m6⟩ := bM K M.toAt
 rw [mH]
 refine bO ?_
 refine dq ?_
 refine cX ?_
 refine aw (t := 46) (v' := (.int .i64 (q : Int))) rfl (by rw [show (8 : Int) * (((q / 8 + 1 : Nat) : Int) - 1) = (q : Int) by omega]) ?_
 refine zl T.JF (Q7 b C K q M) .nil (fun _ le _ => CD hy av le) ?_
 refine ca ?_
 refine gn [] Tryz.results133 ?_
 exact ⟨rfl, rfl⟩
theorem cN (b : Nat) (C : Cs) (K : Ok C) (p i : Nat) (o : Option Nat) (L : Live C p) (hk : kl C.A p ≠ 0) (hi : i ≤ 2) (ho : cq C o) :
  aL Tryz.prog 212 [.pointer (some ⟨b, 0, none⟩), .int .u64 (C.hd p : Int), .int .i64 (i : Int), .int .u64 (hO C o : Int)] (fun _ => True) [Cl b C]
   (fun u H => u = .int .i64 0 ∧ H = [Cl b (C.wA (wr C.A (p + 4 * i) 4 (nO o)))]) := by
 refine sY fun y hy => ?_
 obtain ⟨n1, n2, _⟩ := L.toAt.bh K
 have nb := fB K.toFix
 have f0 := K.toFix.pos
 have f1 := K.toFix.p1
 obtain ⟨e3, e4⟩ := L.toAt.off K (o := 4 * i) (w := 4) (by omega)
 have hw : nO o < 256 ^ 4 := by
  rcases o with _ | q
  ·exact Nat.pow_pos (by decide)
  obtain ⟨_, _, m3, m4, _⟩ := bM K (ho q rfl).toAt
  rw [mH]
  rw [show 256 ^ 4 = 4294967296 from rfl]
  omega
 have hm : IntKind.u32.wrap (hO C o : Int) = (nO o : Int) := by
  rcases o with _ | q
  ·rfl
  obtain ⟨m1, _⟩ := bM K (ho q rfl).toAt
  rw [IntKind.wrap_u32, mH, bV]
  omega
 refine ag Tryz.func212 rfl Tryz.ntmps212 rfl ?_
 intro F _
 refine bE ?_
 refine zl T.Ju (DK b C y K hy p L hk) .nil (fun _ le av => av.1) ?_
 unfold oe
 refine bL ?_
 refine Lp (oA T.gO fun b1 => ?_)
 refine oo ?_
 refine zf 27 ?_
 refine bq ?_
 refine dq ?_
 refine bL ?_
 refine ay ?_
 refine cR (ι := Unit) [31, 32, 34, 35, 36, 33, 37, 38, 39, 11, 12, 13, 40, 41, 8] (fun u => True) (fun u => [(3, .int .u64 (hO C o : Int)), (2, .int .i64 (i : Int)), (9, .pointer (some ⟨b1, 0, none⟩))]) (fun u => [CL b C y, af b1 228 [.pointer (some ⟨y.a, 0, none⟩), .int .i64 (p : Int), .int .i64 (C.cl p : Int), .int .i64 (C.sz (C.cl p) : Int)]]) ?_ ?_
 ·rcases o with _ | q
  ·refine iS ?_
   refine bq ?_
   refine Me (()) (trivial)
  have M := ho q rfl
  obtain ⟨m1, m2, m3, m4, m5, m6⟩ := bM K M.toAt
  rw [bV]
  refine bb ?_
  refine gK ?_ (e := by exact by rw [decide_eq_false (by omega)]; rfl)
  refine bL ?_
  refine zl T.uQ (uU b C K q M) .nil (fun _ le av => CD hy av.2.1 (Le.refl _)) ?_
  refine gg ?_
  refine Me (()) (trivial)
 rintro u hI
 refine bb ?_
 refine aw (t := 44) (v' := (.int .i64 ((4 * i : Nat) : Int))) rfl (by rfl) ?_
 refine aD ?_
 refine aw (t := 45) (v' := (.int .i64 ((4 * i : Nat) : Int))) rfl (by rw [Int.zero_add]) ?_
 refine bw ?_
 refine aw (t := 47) (v' := (.int .u32 (nO o : Int))) rfl (by rw [hm]) ?_
 refine Ib ?_
 refine zl T.sH (ig y.a y.ab C.ai (C.n * C.ai) p (4 * i) (C.cl p) (C.sz (C.cl p)) (nO o) C.A hw f0 e3 nb e4 f1) (.cons .here .nil) (fun _ le av => av.1) ?_
 refine az (fun _ s => qk hy s) ?_
 refine bq ?_
 refine Rt [Cl b (C.wA (wr C.A (p + 4 * i) 4 (nO o)))] Tryz.results212 ?_
 exact ⟨rfl, rfl⟩
def Cg (ka va : Value) (fl exp tch tok st mk : Nat) : List Value := [ka, va, .int .u64 (fl : Int), .int .i64 (exp : Int), .int .i64 (tch : Int), .int .u64 (tok : Int), .int .i64 (st : Int), .int .i64 (mk : Int)]
structure gk (C : Cs) (p : Nat) : Prop where
 k0 : kl C.A p ≠ 0
 fits : 58 + kl C.A p + vl C.A p ≤ C.sz (C.cl p)
 exp : rd C.A (p + 16) 8 < 9223372036854775808
 tch : rd C.A (p + 24) 8 < 9223372036854775808
def aI (A : By) (p : Nat) : List UInt8 := ik A (p + 56) (kl A p)
def pF (A : By) (p : Nat) : List UInt8 := ik A (p + 56 + kl A p) (vl A p)
theorem s7 (b : Nat) (C : Cs) (K : Ok C) (p : Nat) (L : Live C p) (I : gk C p) :
  aL Tryz.prog 88 [.pointer (some ⟨b, 0, none⟩), .int .u64 (C.hd p : Int)] (In (Cl b C)) []
   (fun v H => ∃ kb vb, v = .tuple #[.agg (Cg (.slice (some ⟨kb, 0, none⟩) (kl C.A p) (kl C.A p)) (.slice (some ⟨vb, 0, none⟩) (vl C.A p) (vl C.A p)) (rd C.A (p + 40) 4) (rd C.A (p + 16) 8) (rd C.A (p + 24) 8) (rd C.A (p + 32) 8) (rd C.A (p + 45) 1) (rd C.A (p + 46) 1)).toArray, .int .i64 0] ∧
    H = [own (some ⟨kb, 0, none⟩) (kl C.A p) 5 1 (aq (aI C.A p)), own (some ⟨vb, 0, none⟩) (vl C.A p) 5 1 (aq (pF C.A p))]) := by
 refine sC fun y hy => ?_
 obtain ⟨n1, n2, n3, _⟩ := L.toAt.bh K
 have nb := fB K.toFix
 have f0 := K.toFix.pos
 have f1 := K.toFix.p1
 have hk := I.k0
 have hf := I.fits
 have hx := I.exp
 have ht := I.tch
 have off := fun {o w : Nat} (h : o + w ≤ C.sz (C.cl p)) => L.toAt.off K h
 obtain ⟨e1, e2⟩ := off (o := 44) (w := 1) (by omega)
 obtain ⟨e3, e4⟩ := off (o := 48) (w := 4) (by omega)
 obtain ⟨e5, e6⟩ := off (o := 56) (w := kl C.A p) (by omega)
 obtain ⟨e7, e8⟩ := off (o := 56 + kl C.A p) (w := vl C.A p) (by omega)
 obtain ⟨g1, g2⟩ := off (o := 40) (w := 4) (by omega)
 obtain ⟨g3, g4⟩ := off (o := 16) (w := 8) (by omega)
 obtain ⟨g5, g6⟩ := off (o := 24) (w := 8) (by omega)
 obtain ⟨g7, g8⟩ := off (o := 32) (w := 8) (by omega)
 obtain ⟨j1, j2⟩ := off (o := 45) (w := 1) (by omega)
 obtain ⟨j3, j4⟩ := off (o := 46) (w := 1) (by omega)
 have r1 : rd C.A (p + 40) 4 < 256 ^ 4 := lX _ _ _
 have r2 : rd C.A (p + 45) 1 < 256 ^ 1 := lX _ _ _
 have r3 : rd C.A (p + 46) 1 < 256 ^ 1 := lX _ _ _
 refine ag Tryz.func88 rfl Tryz.ntmps88 rfl ?_
 intro F av
 refine aD ?_
 refine Lp (oA T.bA fun b1 => ?_)
 refine bq ?_
 refine zl T.mc (jI b C y K hy p L) .nil (fun _ le _ => In.mono av le) ?_
 unfold oe
 refine bL ?_
 refine Lp (oA T.gO fun b2 => ?_)
 refine cX ?_
 refine zf 16 ?_ (e := by rfl)
 refine aD ?_
 refine zl T.iz (fH y.a y.ab C.ai (C.n * C.ai) p (C.cl p) (C.sz (C.cl p)) C.A f0 e1 nb e2 f1) .nil (fun _ le _ => eC av le) ?_
 refine bL ?_
 refine dq ?_
 refine bw ?_
 refine ay ?_
 refine jC 28 T.mix (.cons .here .nil) fun F1 kN cT aU => ?_
 obtain ⟨hb, _⟩ := cT
 have eO := In.mono av kN
 refine bw ?_
 refine Tp (oC T.iz rfl rfl (fH y.a y.ab C.ai (C.n * C.ai) p (C.cl p) (C.sz (C.cl p)) C.A f0 e1 nb e2 f1) .nil (fun _ le _ => eC eO le) ?_)
 rintro v H' ⟨rfl, rfl⟩
 refine bo ?_
 refine Tp (oC T.Ba rfl rfl (tj y.a y.ab C.ai (C.n * C.ai) p 56 (C.cl p) (C.sz (C.cl p)) (kl C.A p) C.A f0 e5 nb e6 f1) .nil (fun _ le _ => eC eO le) ?_)
 rintro v H' ⟨kb, rfl, rfl⟩
 refine bo ?_
 refine bw ?_
 refine Tp (oC T.iz rfl rfl (fH y.a y.ab C.ai (C.n * C.ai) p (C.cl p) (C.sz (C.cl p)) C.A f0 e1 nb e2 f1) .nil (fun _ le _ => eC eO le) ?_)
 rintro v H' ⟨rfl, rfl⟩
 refine bo ?_
 refine aD ?_
 refine aw (t := 30) (v' := (.int .i64 ((56 + kl C.A p : Nat) : Int))) rfl (by rfl) ?_
 refine aD ?_
 refine Tp (oC T.JE rfl rfl (vO y.a y.ab C.ai (C.n * C.ai) p (C.cl p) (C.sz (C.cl p)) C.A f0 e3 nb e4 f1) .nil (fun _ le _ => eC eO le) ?_)
 rintro v H' ⟨rfl, rfl⟩
 refine bo ?_
 refine Tp (oC T.Ba rfl rfl (tj y.a y.ab C.ai (C.n * C.ai) p (56 + kl C.A p) (C.cl p) (C.sz (C.cl p)) (vl C.A p) C.A f0 e7 nb e8 f1) .nil (fun _ le _ => eC eO le) ?_)
 rintro v H' ⟨vb, rfl, rfl⟩
 refine bo ?_
 refine aD ?_
 refine Tp (oC T.A9 rfl rfl (mC y.a y.ab C.ai (C.n * C.ai) p 40 (C.cl p) (C.sz (C.cl p)) C.A f0 g1 nb g2 f1) .nil (fun _ le _ => eC eO le) ?_)
 rintro v H' ⟨rfl, rfl⟩
 refine bo ?_
 refine Ti (Cv T.HG T.AB) ?_
 refine aD ?_
 refine Tp (oC T.wK rfl rfl (jL y.a y.ab C.ai (C.n * C.ai) p 16 (C.cl p) (C.sz (C.cl p)) C.A f0 g3 nb g4 f1) .nil (fun _ le _ => eC eO le) ?_)
 rintro v H' ⟨rfl, rfl⟩
 refine bo ?_
 refine Ti (Cv T.WY T.Cp) ?_
 refine aD ?_
 refine Tp (oC T.wK rfl rfl (jL y.a y.ab C.ai (C.n * C.ai) p 24 (C.cl p) (C.sz (C.cl p)) C.A f0 g5 nb g6 f1) .nil (fun _ le _ => eC eO le) ?_)
 rintro v H' ⟨rfl, rfl⟩
 refine bo ?_
 refine Ti (Cv T.WY T.Cp) ?_
 refine aD ?_
 refine Tp (oC T.wK rfl rfl (jL y.a y.ab C.ai (C.n * C.ai) p 32 (C.cl p) (C.sz (C.cl p)) C.A f0 g7 nb g8 f1) .nil (fun _ le _ => eC eO le) ?_)
 rintro v H' ⟨rfl, rfl⟩
 refine bo ?_
 refine aD ?_
 refine Tp (oC T.wJ rfl rfl (lx y.a y.ab C.ai (C.n * C.ai) p 45 (C.cl p) (C.sz (C.cl p)) C.A f0 j1 nb j2 f1) .nil (fun _ le _ => eC eO le) ?_)
 rintro v H' ⟨rfl, rfl⟩
 refine bo ?_
 refine Ti (Cv T.WY T.Sz) ?_
 refine aD ?_
 refine Tp (oC T.wJ rfl rfl (lx y.a y.ab C.ai (C.n * C.ai) p 46 (C.cl p) (C.sz (C.cl p)) C.A f0 j3 nb j4 f1) .nil (fun _ le _ => eC eO le) ?_)
 rintro v H' ⟨rfl, rfl⟩
 refine bo ?_
 refine Ti (Cv T.WY T.Sz) ?_
 refine iC aU ?_
 refine aD ?_
 refine Tp (j5 T.cU ?_)
 refine bL ?_
 refine Ep [own (some ⟨kb, 0, none⟩) (kl C.A p) 5 1 (aq (ik C.A (p + 56) (kl C.A p))), own (some ⟨vb, 0, none⟩) (vl C.A p) 5 1 (aq (ik C.A (p + (56 + kl C.A p)) (vl C.A p)))] T.cU Tryz.results88 ?_
 exact ⟨kb, vb, rfl, by unfold aI pF; rw [Nat.add_assoc p 56]⟩
theorem yY (b : Nat) (C : Cs) (K : Ok C) (p : Nat) (L : Live C p) (I : gk C p) (a : Option Addr) (m c : Nat) (l : List UInt8) (hm : m = l.length) (hl : l.length < 281474976710656) :
  aL Tryz.prog 85 [.pointer (some ⟨b, 0, none⟩), .int .u64 (C.hd p : Int), .slice a m c] (fun h => In (Cl b C) h ∧ fK h a (aq l)) []
   (fun v H => v = .bool (decide (aI C.A p = l)) ∧ H = []) := by
 suffices h : ∀ y, fk C y → aL Tryz.prog 85 [.pointer (some ⟨b, 0, none⟩), .int .u64 (C.hd p : Int), .slice a m c] (fun h => In (CL b C y) h ∧ fK h a (aq l)) []
   (fun v H => v = .bool (decide (aI C.A p = l)) ∧ H = []) from fun F w hp s => by
  obtain ⟨⟨k, ⟨y, hy, q⟩, le⟩, r⟩ := hp
  exact h y hy F w ⟨⟨k, q, le⟩, r⟩ s
 intro y hy
 obtain ⟨n1, n2, n3, _⟩ := L.toAt.bh K
 have nb := fB K.toFix
 have f0 := K.toFix.pos
 have f1 := K.toFix.p1
 have hk := I.k0
 have hf := I.fits
 have off := fun {o w : Nat} (h : o + w ≤ C.sz (C.cl p)) => L.toAt.off K h
 obtain ⟨e1, e2⟩ := off (o := 44) (w := 1) (by omega)
 obtain ⟨e5, e6⟩ := off (o := 56) (w := kl C.A p) (by omega)
 refine ag Tryz.func85 rfl Tryz.ntmps85 rfl ?_
 rintro F ⟨av, hr⟩
 refine bE ?_
 refine zl T.mc (jI b C y K hy p L) .nil (fun _ le _ => In.mono av le) ?_
 unfold oe
 refine bL ?_
 refine Lp (oA T.gO fun b1 => ?_)
 refine bL ?_
 refine ay ?_
 refine jC 15 T.mix (.cons .here .nil) fun F1 kN cT aU => ?_
 obtain ⟨hb, _⟩ := cT
 have eO := In.mono av kN
 have Xe := fK.mono hr kN
 refine bL ?_
 refine zt 17 ?_ (e := by rfl)
 refine aD ?_
 refine Tp (oC T.iz rfl rfl (fH y.a y.ab C.ai (C.n * C.ai) p (C.cl p) (C.sz (C.cl p)) C.A f0 e1 nb e2 f1) .nil (fun _ le _ => eC eO le) ?_)
 rintro v H' ⟨rfl, rfl⟩
 refine bo ?_
 refine bw ?_
 refine aw (t := 21) (v' := (.bool true)) rfl (by rw [decide_eq_true (by omega)]) ?_
 refine aD ?_
 refine zt 22 ?_ (e := by rfl)
 refine bw ?_
 refine Tp (oC T.iz rfl rfl (fH y.a y.ab C.ai (C.n * C.ai) p (C.cl p) (C.sz (C.cl p)) C.A f0 e1 nb e2 f1) .nil (fun _ le _ => eC eO le) ?_)
 rintro v H' ⟨rfl, rfl⟩
 refine bo ?_
 refine Tp (oC T.Ba rfl rfl (tj y.a y.ab C.ai (C.n * C.ai) p 56 (C.cl p) (C.sz (C.cl p)) (kl C.A p) C.A f0 e5 nb e6 f1) .nil (fun _ le _ => eC eO le) ?_)
 rintro v H' ⟨kb, rfl, rfl⟩
 refine bo ?_
 refine aD ?_
 refine Tp (oC T.VG rfl rfl (G8 (some ⟨kb, 0, none⟩) a (kl C.A p) c (kl C.A p) m (aI C.A p) l (by unfold aI; rw [cS]) hm (by unfold aI; rw [cS]; omega) (by omega)) .nil (fun _ le av => ⟨bY av.1, Xe.mono le⟩) ?_)
 rintro v H' ⟨rfl, rfl⟩
 refine bo ?_
 refine aD ?_
 refine iC aU ?_
 refine bL ?_
 refine Rt [] Tryz.results85 ?_
 exact ⟨rfl, rfl⟩
def crlf : List UInt8 := [13, 10]
def rW (A : By) (p : Nat) (v : List UInt8) : By :=
 lay (lay (wr A (p + 48) 4 v.length) (p + 56 + kl A p) v) (p + 56 + kl A p + v.length) crlf
theorem Ze (A : By) (p w v : Nat) : kl (wr A (p + 48) w v) p = kl A p := aG A _ w v _ _ (.inl (by omega))
theorem Qv (a ab ai n p c s m cc : Nat) (sa : Option Addr) (l : List UInt8) (A : By) (hm : m = l.length) (hl : l.length < 4294967296) (h0 : 0 < ai) (h2 : n ≤ 1073741824) (h4 : ai ≤ 1048576)
  (off : ∀ o w, o + w ≤ s → p + o + w ≤ n ∧ (p + o) % ai + w ≤ ai) (hs : 58 + kl A p + l.length ≤ s) :
  aL Tryz.prog 176 [.agg (oe a p c s).toArray, .slice sa m cc] (fun h => In (af a 192 (fU ab ai n)) h ∧ fK h sa (aq l)) [af ab 5 (cO A n)]
   (fun u H => u = .tuple #[] ∧ H = [af ab 5 (cO (rW A p l) n)]) := by
 obtain ⟨e1, e2⟩ := off 44 1 (by omega)
 obtain ⟨e3, e4⟩ := off 48 4 (by omega)
 obtain ⟨e5, e6⟩ := off (56 + kl A p) l.length (by omega)
 obtain ⟨e7, e8⟩ := off (56 + kl A p + l.length) 2 (by omega)
 subst hm
 have hkw := Ze A p 4 l.length
 unfold oe
 refine ag Tryz.func176 rfl Tryz.ntmps176 rfl ?_
 rintro F ⟨ha, hr⟩
 refine aD ?_
 refine Lp (oB fun b1 => ?_)
 refine bE ?_
 refine zl T.sH (ig a ab ai n p 48 c s l.length A (by omega) h0 e3 h2 e4 h4) (.cons (.there .here) .nil) (fun _ le _ => ha.mono le) ?_
 refine bL ?_
 refine zl T.iz (fH a ab ai n p c s (wr A (p + 48) 4 l.length) h0 e1 h2 e2 h4) .nil (fun _ le av => ⟨ha.mono le, av.1⟩) ?_
 rw [hkw]
 refine bb ?_
 refine aw (t := 15) (v' := (.int .i64 ((56 + kl A p + l.length : Nat) : Int))) rfl (by rfl) ?_
 refine ed ?_
 refine aw (t := 24) (v' := (.int .i64 ((p + (56 + kl A p) : Nat) : Int))) rfl (by (congr 1; omega)) ?_
 refine aD ?_
 refine zl T.AV (mz a ab ai n (p + (56 + kl A p)) l.length cc (wr A (p + 48) 4 l.length) sa l rfl h0 e5 h2 e6 h4) (.cons .here .nil) (fun _ le _ => ⟨ha.mono le, hr.mono le⟩) ?_
 refine cX ?_
 refine aw (t := 32) (v' := (.int .i64 ((p + (56 + kl A p + l.length) : Nat) : Int))) rfl (by rfl) ?_
 refine Lp (oT T.iX fun b2 => ?_)
 refine Lp (oMk T.jx T.og ?_)
 refine zl T.AV (mz a ab ai n (p + (56 + kl A p + l.length)) 2 2 (lay (wr A (p + 48) 4 l.length) (p + (56 + kl A p)) l) (some ⟨b2, 0, none⟩) crlf rfl h0 e7 h2 e8 h4) (.cons (.there .here) .nil) (fun _ le av => ⟨ha.mono le, by obtain ⟨⟨k, q, l⟩, _⟩ := av; exact (oG (i := 0) q).mono l⟩) ?_
 refine aB ?_
 rw [show lay (lay (wr A (p + 48) 4 l.length) (p + (56 + kl A p)) l) (p + (56 + kl A p + l.length)) crlf = rW A p l by unfold rW; rw [Nat.add_assoc p, Nat.add_assoc p]]
 refine jN [af ab 5 (cO (rW A p l) n)] Tryz.results176 ?_
 exact ⟨rfl, rfl⟩
def nE (A : By) (p k : Nat) : By := (List.range k).foldl (fun A i => wr A (p + 4 * i) 4 0) A
def Cf (A : By) (p c kn fl exp tch tok st mk : Nat) : By :=
 wr (wr (wr (wr (wr (wr (wr (wr (wr (nE A p 3) (p + 16) 8 exp) (p + 24) 8 tch) (p + 32) 8 tok) (p + 40) 4 fl) (p + 44) 1 kn) (p + 45) 1 st) (p + 46) 1 mk) (p + 47) 1 c) (p + 52) 4 0
def jy (A : By) (p c : Nat) (k v : List UInt8) (fl exp tch tok st mk : Nat) : By :=
 rW (lay (Cf A p c k.length fl exp tch tok st mk) (p + 56) k) p v
theorem oZ (A : By) (p k : Nat) : nE A p (k + 1) = wr (nE A p k) (p + 4 * k) 4 0 := by unfold nE; rw [List.range_succ, List.foldl_append]; rfl
theorem AO (A : By) (p c kn fl exp tch tok st mk : Nat) (k : List UInt8) (h : kn < 256) : kl (lay (Cf A p c kn fl exp tch tok st mk) (p + 56) k) p = kn := by
 unfold kl Cf
 rw [fR _ _ _ _ _ (.inl (by omega)), aG _ _ _ _ _ _ (.inl (by omega)), aG _ _ _ _ _ _ (.inl (by omega)), aG _ _ _ _ _ _ (.inl (by omega)), aG _ _ _ _ _ _ (.inl (by omega)), cI]
 exact Nat.mod_eq_of_lt (by rw [Nat.pow_one]; exact h)
theorem iP {l : List UInt8} (h : dS l = true) : 1 ≤ l.length ∧ l.length ≤ 250 := by
 unfold dS at h
 rw [Bool.and_eq_true, decide_eq_true_iff] at h
 exact h.1
theorem PU (b : Nat) (C : Cs) (K : Ok C) (p : Nat) (L : Live C p) (ka va : Option Addr) (kc vc km vm : Nat) (k v : List UInt8) (hkm : km = k.length) (hvm : vm = v.length) (fl exp tch tok st mk : Nat)
  (hl : dS k = true) (hf : 58 + k.length + v.length ≤ C.sz (C.cl p)) (h1 : fl < 4294967296) (h2 : exp < 9223372036854775808) (h3 : tch < 9223372036854775808) (h4 : tok < 18446744073709551616) (h5 : 1 ≤ st ∧ st ≤ 4) (h6 : mk < 16) :
  aL Tryz.prog 160 [.pointer (some ⟨b, 0, none⟩), .int .u64 (C.hd p : Int), .agg (Cg (.slice ka km kc) (.slice va vm vc) fl exp tch tok st mk).toArray] (fun h => fK h ka (aq k) ∧ fK h va (aq v)) [Cl b C]
   (fun u H => u = .int .i64 0 ∧ H = [Cl b (C.wA (jy C.A p (C.cl p) k v fl exp tch tok st mk))]) := by
 refine sY fun y hy => ?_
 obtain ⟨n0, n1, n2, n3, _⟩ := L.toAt.bh K
 have nb := fB K.toFix
 have f0 := K.toFix.pos
 have f1 := K.toFix.p1
 have f2 := K.toFix.l1
 obtain ⟨l1, l2⟩ := iP hl
 have off := fun (o w : Nat) (h : o + w ≤ C.sz (C.cl p)) => L.toAt.off K h
 have j9 := fun (o w : Nat) (h : o + w ≤ 64) => L.toAt.off K (o := o) (w := w) (by omega)
 subst hkm
 subst hvm
 have xF := fun X => AO X p (C.cl p) k.length fl exp tch tok st mk k (by omega)
 unfold Cg
 refine ag Tryz.func160 rfl Tryz.ntmps160 rfl ?_
 rintro F ⟨Ac, Xe⟩
 refine aD ?_
 refine Lp (oB fun b1 => ?_)
 refine bq ?_
 refine zl T.mc (jI b C y K hy p L) .nil (fun _ le av => av.2.1) ?_
 unfold oe
 refine bL ?_
 refine Lp (oA T.gO fun b2 => ?_)
 refine gg ?_
 refine zl T.RC (yT ka kc k.length k rfl (by omega)) .nil (fun _ le _ => Ac.mono le) ?_
 rw [hl]
 refine vW ?_
 refine dq ?_
 refine bq ?_
 refine zf 41 ?_
 refine bq ?_
 refine zf 46 ?_
 refine bw ?_
 refine zl T.Jj (yO (mk : Int)) .nil (fun _ _ _ => trivial) ?_
 refine aD ?_
 refine aw (t := 50) (v' := (.bool false)) rfl (by (rw [decide_eq_true (by omega)]; rfl)) ?_
 refine bw ?_
 refine zf 52 ?_ (e := by rfl)
 refine bq ?_
 refine zf 57 ?_
 refine bq ?_
 refine zf 62 ?_
 refine bb ?_
 refine aw (t := 66) (v' := (.bool false)) rfl (by (rw [decide_eq_false (by omega)])) ?_
 refine bP ?_
 refine az (H' := [CL b C y, af b2 228 [.pointer (some ⟨y.a, 0, none⟩), .int .i64 (p : Int), .int .i64 (C.cl p : Int), .int .i64 (C.sz (C.cl p) : Int)], af b1 170 [.slice ka k.length kc, .slice va v.length vc, .int .u64 (fl : Int), .int .i64 (exp : Int), .int .i64 (tch : Int), .int .u64 (tok : Int), .int .i64 (st : Int), .int .i64 (mk : Int)]]) (by exact Eh) ?_
 refine Ib ?_
 refine az (H' := [af y.ab 5 (cO (nE C.A p 0) (C.n * C.ai)), af y.a 192 (fU y.ab C.ai (C.n * C.ai)), XD b C y, af b2 228 [.pointer (some ⟨y.a, 0, none⟩), .int .i64 (p : Int), .int .i64 (C.cl p : Int), .int .i64 (C.sz (C.cl p) : Int)], af b1 170 [.slice ka k.length kc, .slice va v.length vc, .int .u64 (fl : Int), .int .i64 (exp : Int), .int .i64 (tch : Int), .int .u64 (tok : Int), .int .i64 (st : Int), .int .i64 (mk : Int)]]) (fun _ s => s) ?_
 refine Lo (ι := Nat) [68, 69, 9, 70, 71, 72, 73, 74, 75, 67] (fun i => i ≤ 3) (fun i => [(67, .int .i64 (i : Int))]) (fun i => [af y.ab 5 (cO (nE C.A p i) (C.n * C.ai)), af y.a 192 (fU y.ab C.ai (C.n * C.ai)), XD b C y, af b2 228 [.pointer (some ⟨y.a, 0, none⟩), .int .i64 (p : Int), .int .i64 (C.cl p : Int), .int .i64 (C.sz (C.cl p) : Int)], af b1 170 [.slice ka k.length kc, .slice va v.length vc, .int .u64 (fl : Int), .int .i64 (exp : Int), .int .i64 (tch : Int), .int .u64 (tok : Int), .int .i64 (st : Int), .int .i64 (mk : Int)]]) (fun i => 3 - i) (0) (by simp) ?_
 rintro i hI
 refine bL ?_
 refine ay ?_
 refine au rfl ?_ ?_
 ·intro hi
  replace hi := aF hi
  refine ed ?_
  refine aw (t := 72) (v' := (.int .i64 ((4 * i : Nat) : Int))) rfl (by rfl) ?_
  refine aD ?_
  refine aw (t := 73) (v' := (.int .i64 ((4 * i : Nat) : Int))) rfl (by rw [Int.zero_add]) ?_
  refine zl T.sH (ig y.a y.ab C.ai (C.n * C.ai) p (4 * i) (C.cl p) (C.sz (C.cl p)) 0 (nE C.A p i) (by decide) f0 (j9 (4 * i) 4 (by omega)).1 nb (j9 (4 * i) 4 (by omega)).2 f1) (.cons .here .nil) (fun _ le av => av.1) ?_
  rw [← oZ]
  refine bE ?_
  refine aB ?_
  refine Ro (i + 1) (by omega) (by omega)
 intro hi
 replace hi := aF hi
 obtain rfl : i = 3 := by omega
 refine bx ?_
 refine zl T.AW (mB y.a y.ab C.ai (C.n * C.ai) p 16 (C.cl p) (C.sz (C.cl p)) exp (nE C.A p 3) (Nat.lt_trans h2 (by decide)) f0 (j9 16 8 (by omega)).1 nb (j9 16 8 (by omega)).2 f1) (.cons .here .nil) (fun _ le av => av.1) ?_
 refine bE ?_
 refine zl T.AW (mB y.a y.ab C.ai (C.n * C.ai) p 24 (C.cl p) (C.sz (C.cl p)) tch (wr (nE C.A p 3) (p + 16) 8 exp) (Nat.lt_trans h3 (by decide)) f0 (j9 24 8 (by omega)).1 nb (j9 24 8 (by omega)).2 f1) (.cons .here .nil) (fun _ le av => av.1) ?_
 refine bq ?_
 refine zl T.AW (mB y.a y.ab C.ai (C.n * C.ai) p 32 (C.cl p) (C.sz (C.cl p)) tok (wr (wr (nE C.A p 3) (p + 16) 8 exp) (p + 24) 8 tch) (Nat.lt_of_lt_of_le h4 (by decide)) f0 (j9 32 8 (by omega)).1 nb (j9 32 8 (by omega)).2 f1) (.cons .here .nil) (fun _ le av => av.1) ?_
 refine bE ?_
 refine zl T.sH (ig y.a y.ab C.ai (C.n * C.ai) p 40 (C.cl p) (C.sz (C.cl p)) fl (wr (wr (wr (nE C.A p 3) (p + 16) 8 exp) (p + 24) 8 tch) (p + 32) 8 tok) (Nat.lt_of_lt_of_le h1 (by decide)) f0 (j9 40 4 (by omega)).1 nb (j9 40 4 (by omega)).2 f1) (.cons .here .nil) (fun _ le av => av.1) ?_
 refine bO ?_
 refine zl T.sG (jv y.a y.ab C.ai (C.n * C.ai) p 44 (C.cl p) (C.sz (C.cl p)) k.length (wr (wr (wr (wr (nE C.A p 3) (p + 16) 8 exp) (p + 24) 8 tch) (p + 32) 8 tok) (p + 40) 4 fl) (Nat.lt_of_le_of_lt l2 (by decide)) f0 (j9 44 1 (by omega)).1 nb (j9 44 1 (by omega)).2 f1) (.cons .here .nil) (fun _ le av => av.1) ?_
 refine bE ?_
 refine zl T.sG (jv y.a y.ab C.ai (C.n * C.ai) p 45 (C.cl p) (C.sz (C.cl p)) st (wr (wr (wr (wr (wr (nE C.A p 3) (p + 16) 8 exp) (p + 24) 8 tch) (p + 32) 8 tok) (p + 40) 4 fl) (p + 44) 1 k.length) (Nat.lt_of_le_of_lt h5.2 (by decide)) f0 (j9 45 1 (by omega)).1 nb (j9 45 1 (by omega)).2 f1) (.cons .here .nil) (fun _ le av => av.1) ?_
 refine bE ?_
 refine zl T.sG (jv y.a y.ab C.ai (C.n * C.ai) p 46 (C.cl p) (C.sz (C.cl p)) mk (wr (wr (wr (wr (wr (wr (nE C.A p 3) (p + 16) 8 exp) (p + 24) 8 tch) (p + 32) 8 tok) (p + 40) 4 fl) (p + 44) 1 k.length) (p + 45) 1 st) (Nat.lt_trans h6 (by decide)) f0 (j9 46 1 (by omega)).1 nb (j9 46 1 (by omega)).2 f1) (.cons .here .nil) (fun _ le av => av.1) ?_
 refine bE ?_
 refine zl T.sG (jv y.a y.ab C.ai (C.n * C.ai) p 47 (C.cl p) (C.sz (C.cl p)) (C.cl p) (wr (wr (wr (wr (wr (wr (wr (nE C.A p 3) (p + 16) 8 exp) (p + 24) 8 tch) (p + 32) 8 tok) (p + 40) 4 fl) (p + 44) 1 k.length) (p + 45) 1 st) (p + 46) 1 mk) (Nat.lt_of_lt_of_le n0 (Nat.le_trans f2 (by decide))) f0 (j9 47 1 (by omega)).1 nb (j9 47 1 (by omega)).2 f1) (.cons .here .nil) (fun _ le av => av.1) ?_
 refine bL ?_
 refine zl T.sH (ig y.a y.ab C.ai (C.n * C.ai) p 52 (C.cl p) (C.sz (C.cl p)) 0 (wr (wr (wr (wr (wr (wr (wr (wr (nE C.A p 3) (p + 16) 8 exp) (p + 24) 8 tch) (p + 32) 8 tok) (p + 40) 4 fl) (p + 44) 1 k.length) (p + 45) 1 st) (p + 46) 1 mk) (p + 47) 1 (C.cl p)) (by decide) f0 (j9 52 4 (by omega)).1 nb (j9 52 4 (by omega)).2 f1) (.cons .here .nil) (fun _ le av => av.1) ?_
 refine cY ?_
 rw [show wr (wr (wr (wr (wr (wr (wr (wr (wr (nE C.A p 3) (p + 16) 8 exp) (p + 24) 8 tch) (p + 32) 8 tok) (p + 40) 4 fl) (p + 44) 1 k.length) (p + 45) 1 st) (p + 46) 1 mk) (p + 47) 1 (C.cl p)) (p + 52) 4 0 = Cf C.A p (C.cl p) k.length fl exp tch tok st mk from rfl]
 generalize hX : Cf C.A p (C.cl p) k.length fl exp tch tok st mk = X
 refine zl T.AV (mz y.a y.ab C.ai (C.n * C.ai) (p + 56) k.length kc X ka k rfl f0 (off 56 k.length (by omega)).1 nb (off 56 k.length (by omega)).2 f1) (.cons .here .nil) (fun _ le av => ⟨av.1, Ac.mono le⟩) ?_
 have hY : kl (lay X (p + 56) k) p = k.length := by rw [← hX]; exact xF _
 have eY : rW (lay X (p + 56) k) p v = jy C.A p (C.cl p) k v fl exp tch tok st mk := by rw [← hX]; rfl
 generalize lay X (p + 56) k = Y at hY eY ⊢
 refine bq ?_
 refine zl T.Vr (Qv y.a y.ab C.ai (C.n * C.ai) p (C.cl p) (C.sz (C.cl p)) v.length vc va v Y rfl (by omega) f0 nb f1 off (by rw [hY]; exact hf)) (.cons .here .nil) (fun _ le av => ⟨av.1, Xe.mono le⟩) ?_
 rw [eY]
 refine az (fun _ s => qk hy s) ?_
 refine bq ?_
 refine Rt [Cl b (C.wA (jy C.A p (C.cl p) k v fl exp tch tok st mk))] Tryz.results160 ?_
 exact ⟨rfl, rfl⟩
end Go.Proofs.YtpgbeapapmdkcaaGreatDoor
