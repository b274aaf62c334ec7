/- Part Pi of the proof. -/
import Derived.Test.YtpgbeapapmdkcaaGreatDoorPd
import Derived.Test.YtpgbeapapmdkcaaGreatDoorPj
set_option maxRecDepth 100000
namespace Go.Proofs.YtpgbeapapmdkcaaGreatDoor
open Go Go.cQ
structure En where
 h : Nat
 ex : Nat
 tu : Nat
namespace En
def lt (a b : En) : Prop := a.ex < b.ex ∨ a.ex = b.ex ∧ a.tu < b.tu
def le (a b : En) : Prop := a.ex < b.ex ∨ a.ex = b.ex ∧ a.tu ≤ b.tu
theorem le_trans {a b c : En} (h : le a b) (g : le b c) : le a c := by unfold le at *; omega
theorem le_of_lt {a b : En} (h : lt a b) : le a b := by unfold lt le at *; omega
theorem qc {a b : En} (h : ¬ lt a b) : le b a := by unfold lt le at *; omega
theorem le_refl (a : En) : le a a := by unfold le; omega
instance (a b : En) : Decidable (lt a b) := by unfold lt; infer_instance
end En
namespace Wh
def at_ (M : List En) (j : Nat) : En := M.getD j ⟨0, 0, 0⟩
def par (j : Nat) : Nat := (j - 1) / 2
def uq (M : List En) : Prop := ∀ j, 0 < j → j < M.length → En.le (at_ M (par j)) (at_ M j)
structure Hx (M : List En) (i : Nat) : Prop where
 a : ∀ j, 0 < j → j < M.length → j ≠ i → par j ≠ i → En.le (at_ M (par j)) (at_ M j)
 b : ∀ j, 0 < i → j < M.length → 0 < j → par j = i → En.le (at_ M (par i)) (at_ M j)
theorem gx {M : List En} {j : Nat} (h : j < M.length) : M[j]? = some (at_ M j) := by
 unfold at_
 rw [List.getD_eq_getElem?_getD, List.getElem?_eq_getElem h]; rfl
theorem jU {M : List En} {i : Nat} (h : i < M.length) (x : En) (j : Nat) : at_ (M.set i x) j = if j = i then x else at_ M j := by
 unfold at_
 rw [List.getD_eq_getElem?_getD, List.getD_eq_getElem?_getD, List.getElem?_set]
 by_cases e : i = j
 ·rw [if_pos e, if_pos h, if_pos e.symm]; rfl
 rw [if_neg e, if_neg (fun g => e g.symm)]
def sw (M : List En) (i c : Nat) : List En := (M.set i (at_ M c)).set c (at_ M i)
theorem jR (M : List En) (i c : Nat) : (sw M i c).length = M.length := by unfold sw; simp
theorem yb {M : List En} {i c : Nat} (hi : i < M.length) (hc : c < M.length) (j : Nat) : at_ (sw M i c) j = if j = c then at_ M i else if j = i then at_ M c else at_ M j := by
 unfold sw
 rw [jU (by simpa using hc), jU hi]
theorem CT {M : List En} {i c : Nat} (hi : i < M.length) (hc : c < M.length) (ne : i ≠ c) : (sw M i c).Perm M := by
 have h1 := ia (gx hi) (at_ M c)
 have h0 := ia (gx hi) (at_ M i)
 rw [fC (gx hi)] at h0
 have vV : (M.set i (at_ M c))[c]? = some (at_ M c) := by rw [List.getElem?_set, if_neg ne]; exact gx hc
 have h2 := ia vV (at_ M i)
 have h3 := ia vV (at_ M c)
 rw [fC vV] at h3
 have h4 : ((M.set i (at_ M c)).eraseIdx c).Perm (M.eraseIdx i) := (List.Perm.cons_inv (h3.symm.trans h1))
 exact h2.trans ((List.Perm.cons _ h4).trans h0.symm)
theorem fN {j : Nat} (h : 0 < j) : par j < j := by unfold par; omega
theorem Zf {M : List En} {i : Nat} (H : Hx M i) (h0 : 0 < i) (hi : i < M.length) (lt : En.lt (at_ M i) (at_ M (par i))) : Hx (sw M i (par i)) (par i) := by
 have hu := fN h0
 have hul : par i < M.length := by omega
 have A := yb hi hul
 generalize hp : par i = u at *
 refine ⟨fun j j0 jl n1 n2 => ?_, fun j u0 jl j0 pj => ?_⟩
 ·rw [jR] at jl
  have ji : j ≠ i := fun e => n2 (by rw [e, hp])
  rw [A, A, if_neg n2, if_neg n1, if_neg ji]
  by_cases e : par j = i
  ·rw [if_pos e, ← hp]; exact H.b j h0 jl j0 e
  rw [if_neg e]; exact H.a j j0 jl ji e
 rw [jR] at jl
 have pu := fN u0
 have hpu : En.le (at_ M (par u)) (at_ M u) := H.a u u0 hul (by omega) (by omega)
 rw [A, A, if_neg (by omega), if_neg (by omega)]
 have ju : j ≠ u := by have := fN j0; omega
 rw [if_neg ju]
 by_cases e : j = i
 ·rw [if_pos e]; exact hpu
 rw [if_neg e]
 refine En.le_trans hpu ?_
 have := H.a j j0 jl e (by omega)
 rwa [pj] at this
theorem PW {M : List En} {i c : Nat} (H : Hx M i) (hi : i < M.length) (c0 : 0 < c) (hc : c < M.length) (pc : par c = i) (mn : ∀ j, 0 < j → j < M.length → par j = i → En.le (at_ M c) (at_ M j)) (le : En.le (at_ M c) (at_ M i)) :
  Hx (sw M i c) c ∧ En.le (at_ (sw M i c) (par c)) (at_ (sw M i c) c) := by
 have A := yb hi hc
 have hic : i < c := by have := fN c0; omega
 refine ⟨⟨fun j j0 jl n1 n2 => ?_, fun j _ jl j0 pj => ?_⟩, ?_⟩
 ·rw [jR] at jl
  rw [A, A, if_neg n2, if_neg n1]
  by_cases e : j = i
  ·have := fN j0
   rw [if_neg (by omega), if_pos e, e]
   exact H.b c (by omega) hc c0 pc
  rw [if_neg e]
  by_cases e2 : par j = i
  ·rw [if_pos e2]; exact mn j j0 jl e2
  rw [if_neg e2]; exact H.a j j0 jl e e2
 ·rw [jR] at jl
  have := fN j0
  rw [A, A, pc, if_neg (by omega), if_pos rfl, if_neg (by omega), if_neg (by omega)]
  have := H.a j j0 jl (by omega) (by omega)
  rwa [pj] at this
 rw [A, A, pc, if_neg (by omega), if_pos rfl, if_pos rfl]; exact le
theorem PX {M : List En} {i : Nat} (H : Hx M i) (u : 0 < i → En.le (at_ M (par i)) (at_ M i)) (d : ∀ j, 0 < j → j < M.length → par j = i → En.le (at_ M i) (at_ M j)) : uq M := fun j j0 jl => by
 by_cases e : j = i
 ·subst e; exact u j0
 by_cases e2 : par j = i
 ·rw [e2]; exact d j j0 jl e2
 exact H.a j j0 jl e e2
theorem PY {M : List En} (H : uq M) (i : Nat) : Hx M i := ⟨fun j j0 jl _ _ => H j j0 jl, fun j i0 jl j0 e => by
 have h1 := H j j0 jl
 have hi : par j < M.length := by have := fN j0; omega
 rw [e] at h1 hi
 exact En.le_trans (H i i0 hi) h1⟩
theorem PV {M : List En} (H : uq M) (x : En) : Hx (M ++ [x]) M.length := by
 have a : ∀ j, j < M.length → at_ (M ++ [x]) j = at_ M j := fun j h => by
  unfold at_
  rw [List.getD_eq_getElem?_getD, List.getD_eq_getElem?_getD, List.getElem?_append_left h]
 refine ⟨fun j j0 jl n1 _ => ?_, fun j _ jl j0 e => ?_⟩
 ·rw [List.length_append, List.length_singleton] at jl
  have := fN j0
  rw [a _ (by omega), a _ (by omega)]
  exact H j j0 (by omega)
 rw [List.length_append, List.length_singleton] at jl
 have := fN j0
 omega
theorem vE {M : List En} (H : uq M) : uq M.dropLast := fun j j0 jl => by
 have a : ∀ j, j < M.dropLast.length → at_ M.dropLast j = at_ M j := fun j h => by
  unfold at_
  rw [List.getD_eq_getElem?_getD, List.getD_eq_getElem?_getD, List.getElem?_dropLast, if_pos (by simpa using h)]
 have := fN j0
 rw [a _ (by omega), a _ jl]
 exact H j j0 (by rw [List.length_dropLast] at jl; omega)
theorem UT {M : List En} (H : uq M) {i : Nat} (hi : i < M.length) (x : En) : Hx (M.set i x) i := by
 have A := jU hi x
 have Z := PY H i
 refine ⟨fun j j0 jl n1 n2 => ?_, fun j i0 jl j0 e => ?_⟩
 ·rw [List.length_set] at jl
  rw [A, A, if_neg n2, if_neg n1]; exact H j j0 jl
 rw [List.length_set] at jl
 have := fN i0
 have := fN j0
 rw [A, A, if_neg (by omega), if_neg (by omega)]; exact Z.b j i0 jl j0 e
end Wh
open Go Go.cQ
theorem eT (e : Value × Value) (es : List (Value × Value)) (k : Value) [Decidable (e.1 = k)] : pA (e :: es) k = if e.1 = k then some e.2 else pA es k := by
 unfold pA
 rw [List.find?_cons]
 by_cases h : e.1 = k
 ·rw [if_pos h]; simp [h]
 rw [if_neg h]; simp [h]
theorem xd (k : Value) : pA [] k = none := rfl
theorem PB (es : List (Value × Value)) (k v k' : Value) (hn : ∀ e ∈ es, e.1 ≠ k) : pA (es ++ [(k, v)]) k' = (by classical exact if k' = k then some v else pA es k') := by
 classical
 induction es with
 | nil =>
  rw [List.nil_append, eT, xd]
  by_cases h : k' = k
  ·rw [if_pos h.symm, if_pos h]
  rw [if_neg (fun g => h g.symm), if_neg h]
 | cons e es ih =>
  rw [List.cons_append, eT, eT, ih (fun x hx => hn x (List.mem_cons_of_mem _ hx))]
  by_cases h : e.1 = k'
  ·rw [if_pos h, if_pos h, if_neg (fun g => hn e List.mem_cons_self (h.trans g))]
  rw [if_neg h, if_neg h]
theorem Pz (es : List (Value × Value)) (k v k' : Value) : pA (zW es k v) k' = (by classical exact if k' = k then some v else pA es k') := by
 classical
 by_cases hx : ∃ e ∈ es, e.1 = k
 ·rw [CM hx]
  have hk : pA es k ≠ none := by
   obtain ⟨e, he, hk⟩ := hx
   intro g
   simp only [pA, Option.map_eq_none_iff, List.find?_eq_none] at g
   have := g e he
   simp [hk] at this
  clear hx
  induction es with
  | nil => exact absurd (xd k) hk
  | cons e es ih =>
   rw [List.map_cons, eT, eT]
   rw [eT] at hk
   by_cases h : e.1 = k
   ·rw [if_pos h]
    by_cases g : k' = k
    ·rw [if_pos g, if_pos g.symm]
    rw [if_neg g, if_neg (fun z => g z.symm), if_neg (fun z => g (z.symm.trans h))]
    clear ih hk
    induction es with
    | nil => rfl
    | cons x es ih =>
     rw [List.map_cons, eT, eT, ih]
     by_cases hx : x.1 = k
     ·rw [if_pos hx, if_neg (fun z => g z.symm), if_neg (fun z => g (z.symm.trans hx))]
     rw [if_neg hx]
   rw [if_neg h] at hk ⊢
   rw [ih hk]
   by_cases g : k' = k
   ·rw [if_pos g, if_pos g, if_neg (fun z => h (z.trans g))]
   rw [if_neg g, if_neg g]
 rw [CN (fun e he g => hx ⟨e, he, g⟩)]
 exact PB es k v k' (fun e he g => hx ⟨e, he, g⟩)
theorem PA (es : List (Value × Value)) (k k' : Value) : pA (Ch es k) k' = (by classical exact if k' = k then none else pA es k') := by
 classical
 unfold Ch
 induction es with
 | nil => by_cases h : k' = k <;> simp [h, xd]
 | cons e es ih =>
  rw [List.filter_cons]
  by_cases h : e.1 = k
  ·rw [if_neg (by simp [h]), ih, eT]
   by_cases g : k' = k
   ·rw [if_pos g, if_pos g]
   rw [if_neg g, if_neg g, if_neg (fun z => g (z.symm.trans h))]
  rw [if_pos (by simp [h]), eT, ih, eT]
  by_cases g : k' = k
  ·rw [if_pos g, if_pos g, if_neg (fun z => h (z.trans g))]
  rw [if_neg g, if_neg g]
def um (a b : Int) : Int := if a < b then -1 else if b < a then 1 else 0
theorem vA (a : Int) : aL Tryz.prog 252 [.int .i64 a] (fun _ => True) [] (fun v H => v = .bool false ∧ H = []) := by
 refine ag Tryz.func252 rfl Tryz.ntmps252 rfl ?_
 intro F _
 refine bx ?_
 refine Rt [] Tryz.results252 ?_
 exact ⟨by rw [decide_eq_true rfl]; rfl, rfl⟩
theorem zP (a b : Int) : aL Tryz.prog 208 [.int .i64 a, .int .i64 b] (fun _ => True) [] (fun v H => v = .int .i64 (um a b) ∧ H = []) := by
 unfold um
 refine ag Tryz.func208 rfl Tryz.ntmps208 rfl ?_
 intro F _
 refine bq ?_
 refine zl T.Jc (vA a) .nil (fun _ _ _ => trivial) ?_
 refine bb ?_
 refine zl T.Jc (vA b) .nil (fun _ _ _ => trivial) ?_
 refine ca ?_
 refine bw ?_
 refine au rfl ?_ ?_
 ·intro h1
  replace h1 := aF h1
  refine bq ?_
  refine Rt [] Tryz.results208 ?_
  exact ⟨by rw [if_pos (by omega)], rfl⟩
 intro h1
 replace h1 := aF h1
 refine cX ?_
 refine au rfl ?_ ?_
 ·intro h2
  replace h2 := aF h2
  refine bq ?_
  refine Rt [] Tryz.results208 ?_
  exact ⟨by rw [if_neg (by omega), if_pos (by omega)], rfl⟩
 intro h2
 replace h2 := aF h2
 refine bE ?_
 refine Rt [] Tryz.results208 ?_
 exact ⟨by rw [if_neg (by omega), if_neg (by omega)], rfl⟩
theorem o7 (a : Int) : aL Tryz.prog 253 [.int .u64 a] (fun _ => True) [] (fun v H => v = .bool false ∧ H = []) := by
 refine ag Tryz.func253 rfl Tryz.ntmps253 rfl ?_
 intro F _
 refine bx ?_
 refine Rt [] Tryz.results253 ?_
 exact ⟨by rw [decide_eq_true rfl]; rfl, rfl⟩
theorem tU (a b : Int) : aL Tryz.prog 209 [.int .u64 a, .int .u64 b] (fun _ => True) [] (fun v H => v = .int .i64 (um a b) ∧ H = []) := by
 unfold um
 refine ag Tryz.func209 rfl Tryz.ntmps209 rfl ?_
 intro F _
 refine bq ?_
 refine zl T.Jb (o7 a) .nil (fun _ _ _ => trivial) ?_
 refine bb ?_
 refine zl T.Jb (o7 b) .nil (fun _ _ _ => trivial) ?_
 refine ca ?_
 refine bw ?_
 refine au rfl ?_ ?_
 ·intro h1
  replace h1 := aF h1
  refine bq ?_
  refine Rt [] Tryz.results209 ?_
  exact ⟨by rw [if_pos (by omega)], rfl⟩
 intro h1
 replace h1 := aF h1
 refine cX ?_
 refine au rfl ?_ ?_
 ·intro h2
  replace h2 := aF h2
  refine bq ?_
  refine Rt [] Tryz.results209 ?_
  exact ⟨by rw [if_neg (by omega), if_pos (by omega)], rfl⟩
 intro h2
 replace h2 := aF h2
 refine bE ?_
 refine Rt [] Tryz.results209 ?_
 exact ⟨by rw [if_neg (by omega), if_neg (by omega)], rfl⟩
theorem Uz (s x y : Int) (a : Nat) : aL Tryz.prog 207 [.slice (some ⟨a, 0, none⟩) 2 2] (In (af a 3 [.int .i64 x, .int .i64 y])) [] (fun v H => v = .int .i64 (if x = 0 then y else x) ∧ H = []) := by
 refine ag Tryz.func207 rfl Tryz.ntmps207 rfl ?_
 intro F av
 refine gh ?_
 refine Lo (ι := Nat) [9, 10, 11, 5, 12, 13, 14, 15, 2, 16, 8] (fun i => i ≤ 2 ∧ (1 ≤ i → x = 0) ∧ (2 ≤ i → y = 0)) (fun i => [(8, .int .i64 (i : Int))]) (fun i => []) (fun i => 2 - i) (0) ⟨by omega, by omega, by omega⟩ ?_
 rintro i hI
 obtain ⟨g1, g2, g3⟩ := hI
 refine bL ?_
 refine ay ?_
 by_cases h0 : i = 0
 ·subst h0
  refine bE ?_
  refine Li (Ix T.nm) ?_
  refine cX ?_
  refine au rfl ?_ ?_
  ·intro h2
   replace h2 := aF h2
   refine bx ?_
   refine Rt [] Tryz.results207 ?_
   exact ⟨by rw [if_neg (by omega)], rfl⟩
  intro h2
  replace h2 := aF h2
  refine bE ?_
  refine aB ?_
  refine Ro (1) (⟨by omega, fun _ => by omega, by omega⟩) (by omega)
 by_cases h1 : i = 1
 ·subst h1
  refine bE ?_
  refine Li (Ix T.nm) ?_
  refine cX ?_
  refine au rfl ?_ ?_
  ·intro h2
   replace h2 := aF h2
   refine bx ?_
   refine Rt [] Tryz.results207 ?_
   exact ⟨by rw [if_pos (g2 (by omega))], rfl⟩
  intro h2
  replace h2 := aF h2
  refine bE ?_
  refine aB ?_
  refine Ro (2) (⟨by omega, by omega, fun _ => by omega⟩) (by omega)
 refine dq ?_
 refine bx ?_
 refine Rt [] Tryz.results207 ?_
 exact ⟨by rw [if_pos (g2 (by omega)), g3 (by omega)], rfl⟩
def eN (e : En) : List Value := [.int .u64 (e.h : Int), .int .i64 (e.ex : Int), .int .u64 (e.tu : Int)]
def XB (e : En) : Value := .agg (eN e).toArray
def An (a b : En) : Int := if um (a.ex : Int) (b.ex : Int) = 0 then um (a.tu : Int) (b.tu : Int) else um (a.ex : Int) (b.ex : Int)
theorem kZ (a b : En) : An a b < 0 ↔ En.lt a b := by
 unfold An um En.lt
 split <;> (repeat' split) <;> (try split at *) <;> omega
theorem oW (a b : En) : aL Tryz.prog 143 [XB a, XB b] (fun _ => True) [] (fun v H => v = .int .i64 (An a b) ∧ H = []) := by
 unfold XB eN
 refine ag Tryz.func143 rfl Tryz.ntmps143 rfl ?_
 intro F _
 refine aD ?_
 refine Lp (oB fun b1 => ?_)
 refine Lp (oB fun b2 => ?_)
 refine bw ?_
 refine ay ?_
 refine jC 13 T.mix (.cons .here (.cons .here .nil)) fun F1 kN cT aU => ?_
 obtain ⟨q1, q2, _⟩ := cT
 refine bb ?_
 refine Tp (oC T.Vf rfl rfl (zP (a.ex : Int) (b.ex : Int)) .nil (fun _ _ _ => trivial) ?_)
 rintro v H' ⟨rfl, rfl⟩
 refine bo ?_
 refine bb ?_
 refine Tp (oC T.Ve rfl rfl (tU (a.tu : Int) (b.tu : Int)) .nil (fun _ _ _ => trivial) ?_)
 rintro v H' ⟨rfl, rfl⟩
 refine bo ?_
 refine Tp (oT T.dZ fun b3 => ?_)
 refine Tp (oC T.Vg rfl rfl (Uz 0 (um (a.ex : Int) (b.ex : Int)) (um (a.tu : Int) (b.tu : Int)) _) .nil (fun _ le av => av.1) ?_)
 rintro v H' ⟨rfl, rfl⟩
 refine bo ?_
 refine aD ?_
 refine iC aU ?_
 refine bw ?_
 refine Rt [] Tryz.results143 ?_
 exact ⟨rfl, rfl⟩
def Hc (a : Option Addr) (n c mb tn : Nat) : List Value := [.slice a n c, .map (some mb), .int .u64 (tn : Int)]
def hv (h : Nat) : Value := .int .u64 (h : Int)
def iv (i : Nat) : Value := .int .i64 (i : Int)
theorem q7 (w n c mb tn i : Nat) (a : Option Addr) (x : En) (cs : List Value) (es : List (Value × Value)) (hi : i < n) (hc : n * 3 ≤ cs.length) (ha : a.isSome = true) :
  aL Tryz.prog 168 [.pointer (some ⟨w, 0, none⟩), .int .i64 (i : Int), XB x] (In (af w 197 (Hc a n c mb tn))) [own a c 243 3 cs, mq (.int .u64) mb es]
   (fun v H => v = .tuple #[] ∧ H = [own a c 243 3 (db cs (i * 3) (eN x)), mq (.int .u64) mb (zW es (hv x.h) (iv i))]) := by
 unfold XB
 refine ag Tryz.func168 rfl Tryz.ntmps168 rfl ?_
 rintro F hw
 unfold Hc at hw
 refine aD ?_
 refine Lp (oB fun b1 => ?_)
 refine aD ?_
 refine ay ?_
 refine gT false T.mix ?_
 refine bE ?_
 refine Ti (Ix T.fL) ?_
 refine Tp (oSON T.sK ?_ (vs := eN x) (h1 := by simp [eN, Value.oneCell']) (hj := by show _ + 3 ≤ _; omega) (h0 := by show 0 < 3; omega))
 unfold eN
 refine aD ?_
 refine jC 8 T.mix (.cons .here .nil) fun F1 kN cT aU => ?_
 obtain ⟨q1, _⟩ := cT
 replace hw := In.mono hw kN
 refine bO ?_
 refine Tp (oQi T.wz ?_)
 refine iC aU ?_
 refine Tn ?_
 refine jN [own a c 243 3 (db cs (i * 3) (eN x)), mq (.int .u64) mb (zW es (hv x.h) (iv i))] Tryz.results168 ?_
 exact ⟨rfl, rfl⟩
namespace Wh
def Nd (M : List En) : Prop := (M.map En.h).Nodup
def Nj (es : List (Value × Value)) (pl : Nat → Option Nat) : Prop := ∀ h, pA es (hv h) = (pl h).map iv
def dK (pl : Nat → Option Nat) (h j : Nat) : Nat → Option Nat := fun x => if x = h then some j else pl x
def del (pl : Nat → Option Nat) (h : Nat) : Nat → Option Nat := fun x => if x = h then none else pl x
theorem wD {a b : Nat} : hv a = hv b ↔ a = b := by
 unfold hv
 constructor
 ·intro h; injection h with _ h; omega
 intro h; rw [h]
theorem Nj.dK {es : List (Value × Value)} {pl : Nat → Option Nat} (R : Nj es pl) (h j : Nat) : Nj (zW es (hv h) (iv j)) (dK pl h j) := fun x => by
 rw [Pz]
 unfold Wh.dK
 by_cases e : x = h
 ·rw [if_pos (wD.2 e), if_pos e]; rfl
 rw [if_neg (fun g => e (wD.1 g)), if_neg e]; exact R x
theorem Nj.del {es : List (Value × Value)} {pl : Nat → Option Nat} (R : Nj es pl) (h : Nat) : Nj (Ch es (hv h)) (del pl h) := fun x => by
 rw [PA]
 unfold Wh.del
 by_cases e : x = h
 ·rw [if_pos (wD.2 e), if_pos e]; rfl
 rw [if_neg (fun g => e (wD.1 g)), if_neg e]; exact R x
theorem yh {M : List En} (N : Nd M) {j k : Nat} (hj : j < M.length) (hk : k < M.length) (e : (at_ M j).h = (at_ M k).h) : j = k := by
 have h1 := gx hj
 have h2 := gx hk
 exact fm N (x := (at_ M j).h) (by rw [List.getElem?_map, h1]; rfl) (by rw [List.getElem?_map, h2, e]; rfl)
theorem jJ {M L : List En} (p : L.Perm M) (N : Nd M) : Nd L := (p.map En.h).nodup_iff.2 N
structure NH (M : List En) (i : Nat) (pl : Nat → Option Nat) : Prop where
 a : ∀ j, j < M.length → j ≠ i → pl (at_ M j).h = some j
 b : ∀ h, pl h ≠ none → ∃ k, k < M.length ∧ (at_ M k).h = h
structure r6 (M : List En) (pl : Nat → Option Nat) : Prop where
 a : ∀ j, j < M.length → pl (at_ M j).h = some j
 b : ∀ h, pl h ≠ none → ∃ k, k < M.length ∧ (at_ M k).h = h
theorem NH.sw {M : List En} {i c : Nat} {pl : Nat → Option Nat} (P : NH M i pl) (N : Nd M) (hi : i < M.length) (hc : c < M.length) (ne : i ≠ c) : NH (sw M i c) c (dK pl (at_ M c).h i) := by
 have A := yb hi hc
 refine ⟨fun j jl n => ?_, fun h g => ?_⟩
 ·rw [jR] at jl
  rw [A, if_neg n]
  unfold dK
  by_cases e : j = i
  ·rw [if_pos e, if_pos rfl, e]
  rw [if_neg e, if_neg (fun z => n (yh N jl hc z))]
  exact P.a j jl e
 unfold dK at g
 rw [jR]
 by_cases e : h = (at_ M c).h
 ·exact ⟨i, hi, by rw [A, if_neg ne, if_pos rfl, e]⟩
 rw [if_neg e] at g
 obtain ⟨k, k1, k2⟩ := P.b h g
 by_cases e1 : k = i
 ·exact ⟨c, hc, by rw [A, if_pos rfl, ← e1, k2]⟩
 have e2 : k ≠ c := fun z => e (by rw [← k2, z])
 exact ⟨k, k1, by rw [A, if_neg e2, if_neg e1, k2]⟩
theorem NH.done {M : List En} {i : Nat} {pl : Nat → Option Nat} (P : NH M i pl) (N : Nd M) (hi : i < M.length) : r6 M (dK pl (at_ M i).h i) := by
 refine ⟨fun j jl => ?_, fun h g => ?_⟩
 ·unfold dK
  by_cases e : j = i
  ·rw [if_pos (by rw [e]), e]
  rw [if_neg (fun z => e (yh N jl hi z))]; exact P.a j jl e
 unfold dK at g
 by_cases e : h = (at_ M i).h
 ·exact ⟨i, hi, e.symm⟩
 rw [if_neg e] at g; exact P.b h g
theorem r6.none {M : List En} {pl : Nat → Option Nat} (P : r6 M pl) {h : Nat} (n : ∀ x ∈ M, x.h ≠ h) : pl h = none := by
 cases e : pl h with
 | none => rfl
 | some j =>
  obtain ⟨k, k1, k2⟩ := P.b h (by rw [e]; simp)
  exact absurd k2 (n _ (List.mem_of_getElem? (gx k1)))
theorem r6.at {M : List En} {pl : Nat → Option Nat} (P : r6 M pl) {x : En} (hx : x ∈ M) : ∃ k, k < M.length ∧ at_ M k = x ∧ pl x.h = some k := by
 obtain ⟨k, hk, e⟩ := List.getElem_of_mem hx
 have : at_ M k = x := by
  have := gx hk
  rw [List.getElem?_eq_getElem hk, e] at this
  exact (Option.some.inj this).symm
 exact ⟨k, hk, this, by rw [← this]; exact P.a k hk⟩
def cells (M : List En) (sp : List Value) : List Value := M.flatMap eN ++ sp
theorem jh : ∀ x, (eN x).length = 3 := fun _ => rfl
theorem G4 (M : List En) (sp : List Value) : (cells M sp).length = M.length * 3 + sp.length := by
 unfold cells
 rw [List.length_append]
 congr 1
 induction M with
 | nil => rfl
 | cons a l ih => rw [List.flatMap_cons, List.length_append, ih, jh, List.length_cons]; omega
theorem c8 (M : List En) : (M.flatMap eN).length = M.length * 3 := by
 have := G4 M []
 unfold cells at this
 simpa using this
theorem gE : ∀ {M : List En} {j : Nat} (x : En), j < M.length → db (M.flatMap eN) (j * 3) (eN x) = (M.set j x).flatMap eN
 | a :: M, 0, x, _ => by
  rw [List.flatMap_cons, jH (by rw [List.length_append, jh, jh]; omega), List.set_cons_zero, List.flatMap_cons]
  rfl
 | a :: M, j + 1, x, h => by
  have ih := gE (M := M) (j := j) x (by simpa using h)
  have hl := c8 M
  have h2 : j < M.length := by simpa using h
  rw [jH (by rw [hl, jh]; omega)] at ih
  rw [List.flatMap_cons, jH (by rw [List.length_append, jh, jh, hl]; omega), List.set_cons_succ, List.flatMap_cons, ← ih]
  rw [show (j + 1) * 3 = j * 3 + 3 by omega, show j * 3 + 3 + (eN x).length = j * 3 + (eN x).length + 3 by omega]
  rfl
theorem gd {M : List En} {j : Nat} (h : j < M.length) : ((M.flatMap eN).drop (j * 3)).take 3 = eN (at_ M j) := by
 have hl := c8 M
 apply List.ext_getElem?
 intro k
 rw [List.getElem?_take]
 split
 ·next hk =>
  rw [List.getElem?_drop]
  have h3 : k < (eN (at_ M j)).length := hk
  rw [bc jh (gx h) (List.getElem?_eq_getElem h3)]
  exact (List.getElem?_eq_getElem h3).symm
 next hk => exact (List.getElem?_eq_none (by rw [jh]; omega)).symm
theorem IG {M : List En} {i c : Nat} (y : En) (hi : i < M.length) (hc : c < M.length) (ne : i ≠ c) : (M.set i y).set i (at_ M c) = (sw M i c).set c (at_ M c) := by
 unfold sw
 rw [List.set_set, List.set_set]
 have h : (M.set i (at_ M c))[c]? = some (at_ M c) := by rw [List.getElem?_set, if_neg ne]; exact gx hc
 exact (fC h).symm
end Wh
open Go Go.cQ Go.Proofs.YtpgbeapapmdkcaaGreatDoor.Wh
theorem Qh {P : Program} {n : Nat} {ds : List Deferred} {F : c9} {σ : aS} {o : Oper} {t yt : TypeId} {x y : Operand} {i : Nat} (hi : i < 4611686018427387904) (ho : o.op = .binOp .quo t x y yt := by exact rfl) (hx : bd σ x = some (.int .i64 ((i : Int) - 1)) := by exact rfl) (hy : bd σ y = some (.int .i64 2) := by exact rfl) : Yv P n ds F σ o (.int .i64 (par i : Int)) :=
 uI ho hx hy (by
  show (if (2 : Int) = 0 then none else some (IntKind.i64.wrap (((i : Int) - 1).tdiv 2))) = _
  rw [if_neg (by decide)]
  have : ((i : Int) - 1).tdiv 2 = (par i : Int) := by
   unfold par
   rcases i with _ | i
   ·rfl
   rw [show (((i + 1 : Nat) : Int) - 1) = (i : Int) by omega, Nat.add_sub_cancel, Int.tdiv_eq_ediv_of_nonneg (by omega)]
   omega
  rw [this, wrap_i64 (by unfold par; omega)])
structure SI (L M : List En) (i : Nat) (e : En) (es : List (Value × Value)) (pl : Nat → Option Nat) : Prop where
 hx : Hx M i
 pm : M.Perm L
 px : NH M i pl
 pr : Nj es pl
 ln : M.length = L.length
 lt : i < M.length
 e : at_ M i = e
structure Z8 (L M : List En) (es : List (Value × Value)) : Prop where
 hp : uq M
 pm : M.Perm L
 ok : ∃ pl, Nj es pl ∧ r6 M pl
theorem tB (w c mb tn i : Nat) (a : Option Addr) (L : List En) (es : List (Value × Value)) (pl : Nat → Option Nat) (hi : i < L.length) (hx : Hx L i) (N : Nd L) (hp : NH L i pl) (R : Nj es pl) (hm : L.length < 4611686018427387904) (ha : a.isSome = true) :
  aL Tryz.prog 213 [.pointer (some ⟨w, 0, none⟩), .int .i64 (i : Int)] (fun _ => True) [af w 197 (Hc a L.length c mb tn), own a c 243 3 (L.flatMap eN), mq (.int .u64) mb es]
   (fun v H => v = .tuple #[] ∧ ∃ M es', H = [af w 197 (Hc a L.length c mb tn), own a c 243 3 (M.flatMap eN), mq (.int .u64) mb es'] ∧ Z8 L M es') := by
 have uD := c8 L
 have Sk := gd hi
 unfold Hc
 have Rg : L.set i (at_ L i) = L := fC (gx hi)
 obtain ⟨e, he⟩ : ∃ e, e = at_ L i := ⟨_, rfl⟩
 rw [← he] at Sk Rg
 refine ag Tryz.func213 rfl Tryz.ntmps213 rfl ?_
 intro F _
 refine bE ?_
 refine Li (Ix T.fL) ?_
 refine aD ?_
 refine Lp (oA T.wj fun b1 => ?_)
 refine Lp (j5 T.sK ?_ (h1 := by simp [eN, Value.oneCell']))
 refine bq ?_
 refine Li ((Qh (i := i) (by omega))) ?_
 refine bw ?_
 refine cR (ι := List En × Nat × List En × List (Value × Value) × (Nat → Option Nat)) [17, 18, 19, 20, 21, 22, 23, 24, 25, 26, 27, 28, 29, 30, 34, 35, 36, 37, 38, 39, 40, 41, 42, 43, 44, 1, 31, 32, 33, 5] (fun s => SI L s.1 s.2.1 e s.2.2.2.1 s.2.2.2.2 ∧ (∃ z, s.2.2.1 = s.1.set s.2.1 z) ∧ (0 < s.2.1 → En.le (at_ s.1 (par s.2.1)) (at_ s.1 s.2.1))) (fun s => [(1, .int .i64 (s.2.1 : Int))]) (fun s => [af b1 243 (eN e), af w 197 [.slice a L.length c, .map (some mb), .int .u64 (tn : Int)], own a c 243 3 (s.2.2.1.flatMap eN), mq (.int .u64) mb s.2.2.2.1]) ?_ ?_
 ·refine mI ?_
  refine Lo (ι := List En × Nat × List En × List (Value × Value) × (Nat → Option Nat)) [17, 18, 19, 20, 21, 22, 23, 24, 25, 26, 27, 28, 29, 30, 34, 35, 36, 37, 38, 39, 40, 41, 42, 43, 44, 1, 31, 32, 33, 5] (fun s => SI L s.1 s.2.1 e s.2.2.2.1 s.2.2.2.2 ∧ ∃ z, s.2.2.1 = s.1.set s.2.1 z) (fun s => [(1, .int .i64 (s.2.1 : Int)), (5, .int .i64 (par s.2.1 : Int))]) (fun s => [af b1 243 (eN e), af w 197 [.slice a L.length c, .map (some mb), .int .u64 (tn : Int)], own a c 243 3 (s.2.2.1.flatMap eN), mq (.int .u64) mb s.2.2.2.1]) (fun s => s.2.1) ((L, i, L, es, pl)) ⟨⟨hx, List.Perm.refl _, hp, R, rfl, hi, he.symm⟩, e, Rg.symm⟩ ?_
  rintro ⟨M, k, P, Ai, p1⟩ hI
  dsimp only at hI ⊢
  obtain ⟨S, z, hP⟩ := hI
  have hk := S.lt
  have Hi := S.ln
  have hPl : P.length = M.length := by rw [hP, List.length_set]
  have hfp := c8 P
  have NM := jJ S.pm N
  by_cases h0 : 0 < k
  ·have Xg := fN h0
   have hft2 := gd (M := P) (j := par k) (by omega)
   have Hk : at_ P (par k) = at_ M (par k) := by rw [hP, jU hk, if_neg (by omega)]
   rw [Hk] at hft2
   have QK := kZ e (at_ M (par k))
   refine aD ?_
   refine ay ?_
   refine jC 13 T.mix (.cons .here (.cons .here (.cons .here .nil))) fun F1 kN cT aU => ?_
   obtain ⟨q1, q2, q3, _⟩ := cT
   have r3 := bY q3
   refine bL ?_
   refine zt 19 ?_
   refine bE ?_
   refine Ti (Ix T.fL) ?_
   refine aD ?_
   refine Tp (oC T.A8 rfl rfl (oW e (at_ M (par k))) .nil (fun _ _ _ => trivial) ?_)
   rintro v H' ⟨rfl, rfl⟩
   refine bo ?_
   refine aD ?_
   refine iC aU ?_
   refine bw ?_
   by_cases cJ : En.lt e (at_ M (par k))
   ·refine gK ?_ (e := by exact decide_eq_true (QK.2 cJ))
    refine ed ?_
    refine Li (Ix T.fL) ?_
    refine aD ?_
    refine zl T.wI (q7 w L.length c mb tn k a (at_ M (par k)) (P.flatMap eN) Ai (by omega) (by omega) ha) (.cons (.there (.there .here)) (.cons (.there (.there .here)) .nil)) (fun _ le av => av.nth 1 rfl) ?_
    rw [Wh.gE _ (by omega)]
    refine bx ?_
    refine Li ((Qh (i := par k) (by omega))) ?_
    refine aD ?_
    refine aB ?_
    refine Ro ((sw M k (par k), par k, P.set k (at_ M (par k)), zW Ai (hv (at_ M (par k)).h) (iv k), dK p1 (at_ M (par k)).h k)) (⟨⟨Zf S.hx h0 hk (by rw [S.e]; exact cJ), (CT hk (by omega) (by omega)).trans S.pm, S.px.sw NM hk (by omega) (by omega), S.pr.dK _ _, (by rw [jR]; exact Hi), (show par k < (sw M k (par k)).length by rw [jR]; omega), (by rw [yb hk (by omega), if_pos rfl]; exact S.e)⟩, at_ M (par k), (by rw [hP]; exact IG z hk (by omega) (by omega))⟩) ((by dsimp only; omega))
   refine dq ?_ (e := by exact decide_eq_false (fun g => cJ (QK.1 g)))
   refine bb ?_
   refine Me ((M, k, P, Ai, p1)) (⟨S, ⟨z, hP⟩, fun _ => (by rw [S.e]; exact En.qc cJ)⟩)
  obtain rfl : k = 0 := by omega
  refine aD ?_
  refine ay ?_
  refine jC 13 T.mix (.cons .here (.cons .here (.cons .here .nil))) fun F2 D1 eO eP => ?_
  obtain ⟨q1, q2, q3, _⟩ := eO
  refine bL ?_
  refine zf 19 ?_ (e := by rfl)
  refine bx ?_
  refine iC eP ?_
  refine bO ?_
  refine Me ((M, 0, P, Ai, p1)) (⟨S, ⟨z, hP⟩, fun h => absurd h (Nat.lt_irrefl 0)⟩)
 rintro s hI
 obtain ⟨M0, k0, P0, es0, p0⟩ := s
 dsimp only at hI ⊢
 obtain ⟨S0, z0, hu0⟩ := hI
 refine ay ?_
 refine cR (ι := List En × Nat × List En × List (Value × Value) × (Nat → Option Nat)) [45, 46, 47, 6, 48, 49, 50, 51, 52, 53, 54, 55, 56, 57, 58, 59, 60, 61, 62, 63, 64, 65, 66, 67, 68, 69, 70, 71, 72, 73, 74, 75, 76, 77, 78, 79, 80, 81, 82, 83, 84, 85, 86, 87, 88, 89, 90, 91, 92, 93, 94, 95, 96, 97, 98, 99, 100, 101, 102, 103, 104, 105, 106, 1] (fun s => (SI L s.1 s.2.1 e s.2.2.2.1 s.2.2.2.2 ∧ (∃ z, s.2.2.1 = s.1.set s.2.1 z) ∧ (0 < s.2.1 → En.le (at_ s.1 (par s.2.1)) (at_ s.1 s.2.1))) ∧ ∀ j, 0 < j → j < s.1.length → par j = s.2.1 → En.le e (at_ s.1 j)) (fun s => [(1, .int .i64 (s.2.1 : Int))]) (fun s => [af b1 243 (eN e), af w 197 [.slice a L.length c, .map (some mb), .int .u64 (tn : Int)], own a c 243 3 (s.2.2.1.flatMap eN), mq (.int .u64) mb s.2.2.2.1]) ?_ ?_
 ·refine mI ?_
  refine Lo (ι := List En × Nat × List En × List (Value × Value) × (Nat → Option Nat)) [45, 46, 47, 6, 48, 49, 50, 51, 52, 53, 54, 55, 56, 57, 58, 59, 60, 61, 62, 63, 64, 65, 66, 67, 68, 69, 70, 71, 72, 73, 74, 75, 76, 77, 78, 79, 80, 81, 82, 83, 84, 85, 86, 87, 88, 89, 90, 91, 92, 93, 94, 95, 96, 97, 98, 99, 100, 101, 102, 103, 104, 105, 106, 1] (fun s => SI L s.1 s.2.1 e s.2.2.2.1 s.2.2.2.2 ∧ (∃ z, s.2.2.1 = s.1.set s.2.1 z) ∧ (0 < s.2.1 → En.le (at_ s.1 (par s.2.1)) (at_ s.1 s.2.1))) (fun s => [(1, .int .i64 (s.2.1 : Int))]) (fun s => [af b1 243 (eN e), af w 197 [.slice a L.length c, .map (some mb), .int .u64 (tn : Int)], own a c 243 3 (s.2.2.1.flatMap eN), mq (.int .u64) mb s.2.2.2.1]) (fun s => L.length - s.2.1) ((M0, k0, P0, es0, p0)) ⟨S0, z0, hu0⟩ ?_
  rintro ⟨M, k, P, Ai, p1⟩ hI
  dsimp only at hI ⊢
  obtain ⟨S, ⟨z, hP⟩, hu⟩ := hI
  have hk := S.lt
  have Hi := S.ln
  have hPl : P.length = M.length := by rw [hP, List.length_set]
  have hfp := c8 P
  have NM := jJ S.pm N
  refine cX ?_
  refine ay ?_
  refine aw (t := 6) (v' := (.int .i64 ((2 * k + 1 : Nat) : Int))) rfl (by rfl) ?_
  refine cR (ι := Bool) [48, 49, 50, 51, 52, 53, 54, 55, 56, 57, 58, 59, 60, 61, 62, 63, 64, 65, 66, 67, 68, 69, 70, 71, 72, 73, 74] (fun t => t = decide (2 * k + 2 < L.length ∧ En.lt (at_ M (2 * k + 2)) (at_ M (2 * k + 1)))) (fun t => [(74, .bool t)]) (fun t => [af b1 243 (eN e), af w 197 [.slice a L.length c, .map (some mb), .int .u64 (tn : Int)], own a c 243 3 (P.flatMap eN), mq (.int .u64) mb Ai]) ?_ ?_
  ·by_cases h2 : 2 * k + 2 < L.length
   ·have f1 := gd (M := P) (j := 2 * k + 2) (by omega)
    have f2 := gd (M := P) (j := 2 * k + 1) (by omega)
    rw [show at_ P (2 * k + 2) = at_ M (2 * k + 2) by rw [hP, jU hk, if_neg (by omega)]] at f1
    rw [show at_ P (2 * k + 1) = at_ M (2 * k + 1) by rw [hP, jU hk, if_neg (by omega)]] at f2
    have QK := kZ (at_ M (2 * k + 2)) (at_ M (2 * k + 1))
    refine jC 26 T.mix (.cons .here (.cons .here (.cons .here .nil))) fun F3 R7 rX fW => ?_
    obtain ⟨q1, q2, q3, _⟩ := rX
    have r3 := bY q3
    refine cY ?_
    refine zt 56 ?_
    refine bE ?_
    refine Ti (Ix T.fL (j := 2 * k + 2) (hj := by omega)) ?_
    refine bE ?_
    refine Ti (Ix T.fL (j := 2 * k + 1) (hj := by omega)) ?_
    refine aD ?_
    refine Tp (oC T.A8 rfl rfl (oW (at_ M (2 * k + 2)) (at_ M (2 * k + 1))) .nil (fun _ _ _ => trivial) ?_)
    rintro v H' ⟨rfl, rfl⟩
    refine bo ?_
    refine aD ?_
    refine iC fW ?_
    refine aD ?_
    refine Tn ?_
    refine Me ((decide (An (at_ M (2 * k + 2)) (at_ M (2 * k + 1)) < 0))) ((decide_eq_decide.2 ⟨fun g => ⟨h2, QK.1 g⟩, fun g => QK.2 g.2⟩))
   refine jC 26 T.mix (.cons .here (.cons .here (.cons .here .nil))) fun F4 le4 SO Il => ?_
   obtain ⟨q1, q2, q3, _⟩ := SO
   refine cY ?_
   refine zf 56 ?_
   refine mV ?_
   refine iC Il ?_
   refine aD ?_
   refine Tn ?_
   refine Me (false) ((by rw [decide_eq_false (fun g => h2 g.1)]))
  rintro t ht
  refine cR (ι := Nat) [75, 76, 6] (fun d => (2 * k + 1 ≤ d ∧ d ≤ 2 * k + 2) ∧ ∀ j, 0 < j → j < M.length → par j = k → d < M.length ∧ En.le (at_ M d) (at_ M j)) (fun d => [(6, .int .i64 (d : Int))]) (fun d => [af b1 243 (eN e), af w 197 [.slice a L.length c, .map (some mb), .int .u64 (tn : Int)], own a c 243 3 (P.flatMap eN), mq (.int .u64) mb Ai]) ?_ ?_
  ·refine au rfl ?_ ?_
   ·intro hc
    replace hc := aF hc
    rw [hc] at ht
    have oc := of_decide_eq_true ht.symm
    refine bb ?_
    refine aB ?_
    refine Me ((2 * k + 2)) (⟨⟨(by omega), (by omega)⟩, fun j j0 jl pj => ⟨(by omega), (by have hj : j = 2 * k + 1 ∨ j = 2 * k + 2 := (by unfold par at pj; omega); rcases hj with rfl | rfl; exact En.le_of_lt oc.2; exact En.le_refl _)⟩⟩)
   intro hc
   replace hc := aF hc
   rw [hc] at ht
   have oc := of_decide_eq_false ht.symm
   refine aD ?_
   refine Me ((2 * k + 1)) (⟨⟨(by omega), (by omega)⟩, fun j j0 jl pj => ⟨(by unfold par at pj; omega), (by have hj : j = 2 * k + 1 ∨ j = 2 * k + 2 := (by unfold par at pj; omega); rcases hj with rfl | rfl; exact En.le_refl _; exact En.qc fun g => oc ⟨(by omega), g⟩)⟩⟩)
  rintro d hd
  refine aD ?_
  refine ay ?_
  by_cases hdn : d < L.length
  ·have f1 := gd (M := P) (j := d) (by omega)
   rw [show at_ P d = at_ M d by rw [hP, jU hk, if_neg (by omega)]] at f1
   have QK := kZ e (at_ M d)
   refine jC 19 T.mix (.cons .here (.cons .here (.cons .here .nil))) fun F5 le5 hin5 Z2 => ?_
   obtain ⟨q1, q2, q3, _⟩ := hin5
   have r3 := bY q3
   refine cX ?_
   refine zf 84 ?_
   refine bE ?_
   refine Ti (Ix T.fL) ?_
   refine aD ?_
   refine Tp (oC T.A8 rfl rfl (oW e (at_ M d)) .nil (fun _ _ _ => trivial) ?_)
   rintro v H' ⟨rfl, rfl⟩
   refine bo ?_
   refine bw ?_
   refine iC Z2 ?_
   refine aD ?_
   by_cases cJ : En.lt e (at_ M d)
   ·refine gK ?_ (e := by exact decide_eq_true (QK.2 cJ))
    refine bq ?_
    refine Me ((M, k, P, Ai, p1)) (⟨⟨S, ⟨z, hP⟩, hu⟩, fun j j0 jl pj => En.le_trans (En.le_of_lt cJ) (hd.2 j j0 jl pj).2⟩)
   refine dq ?_ (e := by exact decide_eq_false (fun g => cJ (QK.1 g)))
   have hle := En.qc cJ
   have hpd : par d = k := by unfold par; omega
   have hdw := PW S.hx hk (c := d) (by omega) (by omega) hpd (fun j j0 jl pj => (hd.2 j j0 jl pj).2) (by rw [S.e]; exact hle)
   refine bx ?_
   refine Li (Ix T.fL) ?_
   refine aD ?_
   refine zl T.wI (q7 w L.length c mb tn k a (at_ M d) (P.flatMap eN) Ai (by omega) (by omega) ha) (.cons (.there (.there .here)) (.cons (.there (.there .here)) .nil)) (fun _ le av => av.nth 1 rfl) ?_
   rw [Wh.gE _ (by omega)]
   refine bE ?_
   refine Ro ((sw M k d, d, P.set k (at_ M d), zW Ai (hv (at_ M d).h) (iv k), dK p1 (at_ M d).h k)) (⟨⟨hdw.1, (CT hk (by omega) (by omega)).trans S.pm, S.px.sw NM hk (by omega) (by omega), S.pr.dK _ _, (by rw [jR]; exact Hi), (show d < (sw M k d).length by rw [jR]; omega), (by rw [yb hk (by omega), if_pos rfl]; exact S.e)⟩, ⟨at_ M d, (by rw [hP]; exact IG z hk (by omega) (by omega))⟩, fun _ => hdw.2⟩) ((by dsimp only; omega))
  refine jC 19 T.mix (.cons .here (.cons .here (.cons .here .nil))) fun F6 le6 hin6 Z1 => ?_
  obtain ⟨q1, q2, q3, _⟩ := hin6
  refine cX ?_
  refine zt 84 ?_
  refine bP ?_
  refine iC Z1 ?_
  refine bO ?_
  refine Me ((M, k, P, Ai, p1)) (⟨⟨S, ⟨z, hP⟩, hu⟩, fun j j0 jl pj => absurd (hd.2 j j0 jl pj).1 (by omega)⟩)
 rintro s hI
 obtain ⟨M, k, P, Ai, p1⟩ := s
 dsimp only at hI ⊢
 obtain ⟨⟨S, ⟨z, hP⟩, hu⟩, hch⟩ := hI
 have hk := S.lt
 have Hi := S.ln
 have hPl : P.length = M.length := by rw [hP, List.length_set]
 have hfp := c8 P
 have NM := jJ S.pm N
 refine bb ?_
 refine zl T.wI (q7 w L.length c mb tn k a e (P.flatMap eN) Ai (by omega) (by omega) ha) (.cons (.there (.there .here)) (.cons (.there (.there .here)) .nil)) (fun _ le av => av.nth 1 rfl) ?_
 rw [Wh.gE _ (by omega)]
 have hPM : P.set k e = M := by
  rw [hP, List.set_set]
  exact fC (by rw [gx hk, S.e])
 rw [hPM]
 refine aB ?_
 refine jN [af w 197 [.slice a L.length c, .map (some mb), .int .u64 (tn : Int)], own a c 243 3 (M.flatMap eN), mq (.int .u64) mb (zW Ai (hv e.h) (iv k))] Tryz.results213 ?_
 refine ⟨rfl, M, zW Ai (hv e.h) (iv k), rfl, PX S.hx hu (by rw [S.e]; exact hch), S.pm, dK p1 e.h k, S.pr.dK _ _, ?_⟩
 have := S.px.done NM hk
 rwa [S.e] at this
structure NG where
 a : Option Addr
 c : Nat
 mb : Nat
 es : List (Value × Value)
structure rY (M : List En) (y : NG) (tn : Nat) : Prop where
 hp : uq M
 nd : Nd M
 pl : ∃ pl, Nj y.es pl ∧ r6 M pl
 tu : ∀ x ∈ M, x.tu ≤ tn
 td : (M.map En.tu).Nodup
 sm : M ≠ [] → y.a.isSome = true
 ln : M.length < 2147483648
 cp : M.length ≤ y.c
 ex : ∀ x ∈ M, 0 < x.ex
def xA (w : Nat) (y : NG) (M : List En) (tn : Nat) : List aa := [af w 197 (Hc y.a M.length y.c y.mb tn), own y.a y.c 243 3 (M.flatMap eN), mq (.int .u64) y.mb y.es]
def Wl (w : Nat) (E : List En) (tn : Nat) : aa := fun h => ∃ y M, M.Perm E ∧ rY M y tn ∧ aE (xA w y M tn) h
def dJ (E : List En) (h : Nat) : List En := E.filter fun x => decide (x.h ≠ h)
def lS (E : List En) (h ex tn : Nat) : List En := if 0 < ex then ⟨h, ex, tn + 1⟩ :: dJ E h else dJ E h
theorem tA {x : En} {M L : List En} (p : (x :: L).Perm M) (N : Nd M) : L.Perm (dJ M x.h) := by
 have n2 : Nd (x :: L) := jJ p N
 unfold Nd at n2
 rw [List.map_cons, List.nodup_cons] at n2
 have e : (x :: L).filter (fun z => decide (z.h ≠ x.h)) = L := by
  rw [List.filter_cons, if_neg (by simp), List.filter_eq_self]
  intro z hz
  simp only [decide_eq_true_eq]
  intro g
  exact n2.1 (List.mem_map.2 ⟨z, hz, g⟩)
 have := p.filter (fun z => decide (z.h ≠ x.h))
 rw [e] at this
 exact this
theorem Kg {M : List En} {h : Nat} (n : ∀ x ∈ M, x.h ≠ h) : dJ M h = M := by
 unfold dJ
 rw [List.filter_eq_self]
 intro x hx
 simpa using n x hx
theorem nV {M L : List En} (p : M.Perm L) (h : Nat) : (dJ M h).Perm (dJ L h) := p.filter _
theorem Eu {M : List En} {h : Nat} : ∀ x ∈ dJ M h, x ∈ M ∧ x.h ≠ h := fun x hx => by
 have := List.mem_filter.1 hx
 exact ⟨this.1, by simpa using this.2⟩
theorem IC {M L : List En} {tn : Nat} {x : En} (p : (x :: L).Perm M) (t : ∀ z ∈ M, z.tu ≤ tn) (d : (M.map En.tu).Nodup) : (∀ z ∈ L, z.tu ≤ tn) ∧ (L.map En.tu).Nodup := by
 refine ⟨fun z hz => t z (p.mem_iff.1 (List.mem_cons_of_mem _ hz)), ?_⟩
 have := (p.map En.tu).nodup_iff.2 d
 rw [List.map_cons, List.nodup_cons] at this
 exact this.2
theorem xf {M : List En} (h : 0 < M.length) : M = M.dropLast ++ [at_ M (M.length - 1)] := by
 have h1 := List.dropLast_concat_getLast (l := M) (by intro e; rw [e] at h; cases h)
 have h2 : M.getLast (by intro e; rw [e] at h; cases h) = at_ M (M.length - 1) := by
  have := gx (M := M) (j := M.length - 1) (by omega)
  rw [List.getLast_eq_getElem, ← Option.some_inj, ← this, List.getElem?_eq_getElem]
 rw [← h2]
 exact h1.symm
theorem yu {M : List En} {j : Nat} (h : j < M.length - 1) : at_ M.dropLast j = at_ M j := by
 unfold at_
 rw [List.getD_eq_getElem?_getD, List.getD_eq_getElem?_getD, List.getElem?_dropLast, if_pos h]
theorem EB {M : List En} {pl : Nat → Option Nat} (h : 0 < M.length) (N : Nd M) (P : r6 M pl) : (at_ M (M.length - 1) :: M.dropLast).Perm M ∧ r6 M.dropLast (del pl (at_ M (M.length - 1)).h) := by
 have hl := xf h
 refine ⟨?_, fun j jl => ?_, fun k g => ?_⟩
 ·exact (List.perm_append_comm (l₁ := [at_ M (M.length - 1)])).trans (by rw [← hl])
 ·rw [List.length_dropLast] at jl
  rw [yu jl]
  unfold del
  rw [if_neg (fun e => by have := yh N (by omega) (by omega) e; omega)]
  exact P.a j (by omega)
 unfold del at g
 by_cases e : k = (at_ M (M.length - 1)).h
 ·rw [if_pos e] at g; exact absurd rfl g
 rw [if_neg e] at g
 obtain ⟨u, u1, u2⟩ := P.b k g
 have ne : u ≠ M.length - 1 := fun z => e (by rw [← u2, z])
 exact ⟨u, by rw [List.length_dropLast]; omega, by rw [yu (by omega)]; exact u2⟩
theorem Kp {M : List En} {pl : Nat → Option Nat} {i : Nat} (hi : i < M.length - 1) (H : uq M) (N : Nd M) (P : r6 M pl) :
  (at_ M i :: M.dropLast.set i (at_ M (M.length - 1))).Perm M ∧ Hx (M.dropLast.set i (at_ M (M.length - 1))) i ∧ NH (M.dropLast.set i (at_ M (M.length - 1))) i (dK (del pl (at_ M i).h) (at_ M (M.length - 1)).h i) := by
 have hl := xf (M := M) (by omega)
 have hd : i < M.dropLast.length := by rw [List.length_dropLast]; exact hi
 refine ⟨?_, UT (vE H) hd _, fun j jl n => ?_, fun k g => ?_⟩
 ·have h0 := ia (gx hd) (at_ M.dropLast i)
  rw [fC (gx hd), yu hi] at h0
  have h1 := ia (gx hd) (at_ M (M.length - 1))
  refine (List.Perm.cons _ h1).trans ((List.Perm.swap _ _ _).trans ((List.Perm.cons _ h0.symm).trans ?_))
  exact (List.perm_append_comm (l₁ := [at_ M (M.length - 1)])).trans (by rw [← hl])
 ·rw [List.length_set, List.length_dropLast] at jl
  rw [jU hd, if_neg n, yu jl]
  unfold dK del
  rw [if_neg (fun e => by have := yh N (by omega) (by omega) e; omega), if_neg (fun e => n (yh N (by omega) (by omega) e))]
  exact P.a j (by omega)
 rw [List.length_set, List.length_dropLast]
 unfold dK del at g
 by_cases e : k = (at_ M (M.length - 1)).h
 ·exact ⟨i, hi, by rw [jU hd, if_pos rfl, e]⟩
 rw [if_neg e] at g
 by_cases e2 : k = (at_ M i).h
 ·rw [if_pos e2] at g; exact absurd rfl g
 rw [if_neg e2] at g
 obtain ⟨u, u1, u2⟩ := P.b k g
 have n1 : u ≠ M.length - 1 := fun z => e (by rw [← u2, z])
 have n2 : u ≠ i := fun z => e2 (by rw [← u2, z])
 exact ⟨u, by omega, by rw [jU hd, if_neg n2, yu (by omega)]; exact u2⟩
theorem Qd {M : List En} (h : 0 < M.length) : (M.flatMap eN).take ((M.length - 1) * 3) = M.dropLast.flatMap eN := by
 have hl := xf h
 have h2 : M.flatMap eN = M.dropLast.flatMap eN ++ eN (at_ M (M.length - 1)) := by
  have : M.flatMap eN = (M.dropLast ++ [at_ M (M.length - 1)]).flatMap eN := by rw [← hl]
  rw [this, List.flatMap_append]; simp
 have h3 := Wh.c8 M.dropLast
 rw [List.length_dropLast] at h3
 rw [h2, List.take_append_of_le_length (by omega), List.take_of_length_le (by omega)]
theorem Ot {M : List En} {pl : Nat → Option Nat} (P : r6 M pl) (x : En) : NH (M ++ [x]) M.length pl := by
 have a : ∀ j, j < M.length → at_ (M ++ [x]) j = at_ M j := fun j h => by
  unfold at_
  rw [List.getD_eq_getElem?_getD, List.getD_eq_getElem?_getD, List.getElem?_append_left h]
 refine ⟨fun j jl n => ?_, fun h g => ?_⟩
 ·rw [List.length_append, List.length_singleton] at jl
  rw [a j (by omega)]; exact P.a j (by omega)
 obtain ⟨k, k1, k2⟩ := P.b h g
 exact ⟨k, by rw [List.length_append]; omega, by rw [a k k1]; exact k2⟩
structure TkOk (M : List En) (h tn : Nat) (y' : NG) (M' : List En) : Prop where
 ok : rY M' y' tn
 pm : M'.Perm (dJ M h)
theorem JO (a : Option Addr) (m k : Nat) : wg a 0 m (0 * k) = a := by
 unfold wg
 split
 ·rfl
 ·rw [Nat.zero_mul]; cases a <;> simp [add_zero']
theorem E6 {M : List En} (h : 0 < M.length) : M ≠ [] := fun e => by rw [e] at h; cases h
theorem sN (w : Nat) (y : NG) (M : List En) (tn h : Nat) (W : rY M y tn) :
  aL Tryz.prog 154 [.pointer (some ⟨w, 0, none⟩), .int .u64 (h : Int)] (fun _ => True) (xA w y M tn)
   (fun v H => ∃ y' M', v = .bool (decide (h ∈ M.map En.h)) ∧ H = xA w y' M' tn ∧ TkOk M h tn y' M') := by
 obtain ⟨pl, R, P⟩ := W.pl
 have hR := R h
 unfold hv at hR
 by_cases hx : ∃ x ∈ M, x.h = h
 ·obtain ⟨x, WB, hxh⟩ := hx
  obtain ⟨i, hi, Hk, hpl⟩ := P.at WB
  rw [hxh] at hpl
  rw [hpl, Option.map_some] at hR
  have av : h ∈ M.map En.h := List.mem_map.2 ⟨x, WB, hxh⟩
  have ha := W.sm (fun e => by rw [e] at WB; cases WB)
  have uD := Wh.c8 M
  have Hi := W.ln
  have hcp := W.cp
  have Sk := Wh.gd (M := M) (j := M.length - 1) (by omega)
  rw [decide_eq_true av]
  unfold xA Hc
  generalize WK : y.es = es at *
  refine ag Tryz.func154 rfl Tryz.ntmps154 rfl ?_
  intro F _
  refine cY ?_
  refine Lp (XW T.wz ?_)
  refine bP ?_
  rw [hR, Option.getD_some, Option.isSome_some]
  unfold iv
  refine cY ?_
  refine Lp (oQd T.wz ?_)
  refine bx ?_
  refine ay ?_
  refine aw (t := 7) (v' := (.int .i64 ((M.length - 1 : Nat) : Int))) rfl (by (congr 1; omega)) ?_
  refine bE ?_
  refine Li (Ix T.fL) ?_
  refine aD ?_
  refine Lp (oA T.wj fun b1 => ?_)
  refine Lp (j5 T.sK ?_ (h1 := by simp [eN, Value.oneCell']))
  refine cX ?_
  refine Li (Sl 0 _ _ T.fL) ?_
  refine bx ?_
  rw [JO, Nat.sub_zero, Nat.sub_zero]
  refine Hh (H' := [af b1 243 (eN (at_ M (M.length - 1))), af w 197 [.slice y.a (M.length - 1) y.c, .map (some y.mb), .int .u64 (tn : Int)], own y.a y.c 243 3 (M.flatMap eN), mq (.int .u64) y.mb (Ch es (.int .u64 (h : Int)))]) ?_
  refine az (fun _ s => aK (fun _ s => aK (fun _ s => aY (fun _ p => sX p ((M.length - 1) * 3)) s) s) s) ?_
  rw [Qd (by omega)]
  have QN : M.dropLast.length = M.length - 1 := List.length_dropLast
  have hfd := Wh.c8 M.dropLast
  have R1 := R.del h
  unfold hv at R1
  have hnh : (at_ M i).h = h := by rw [Hk, hxh]
  by_cases hl : i < M.length - 1
  ·obtain ⟨t1, t2, t3⟩ := Kp hl W.hp W.nd P
   rw [hnh] at t3
   have N2 : Nd (M.dropLast.set i (at_ M (M.length - 1))) := by
    have := jJ t1 W.nd
    unfold Nd at this
    rw [List.map_cons, List.nodup_cons] at this
    exact this.2
   have S := IC t1 W.tu W.td
   have pm := tA t1 W.nd
   rw [hnh] at pm
   have Rj : (M.dropLast.set i (at_ M (M.length - 1))).length = M.length - 1 := by rw [List.length_set, QN]
   have st := tB w y.c y.mb tn i y.a (M.dropLast.set i (at_ M (M.length - 1))) (zW (Ch es (.int .u64 (h : Int))) (hv (at_ M (M.length - 1)).h) (iv i)) _ (by omega) t2 N2 t3 (R1.dK _ _) (by omega) ha
   rw [Rj] at st
   have hex : ∀ z ∈ M.dropLast.set i (at_ M (M.length - 1)), 0 < z.ex := fun z hz => W.ex z (t1.mem_iff.1 (List.mem_cons_of_mem _ hz))
   generalize hM2 : M.dropLast.set i (at_ M (M.length - 1)) = M2 at *
   refine gK ?_
   refine bb ?_
   refine zl T.wI (q7 w (M.length - 1) y.c y.mb tn i y.a (at_ M (M.length - 1)) (M.dropLast.flatMap eN) (Ch es (.int .u64 (h : Int))) (by omega) (by omega) ha) (.cons (.there (.there .here)) (.cons (.there (.there .here)) .nil)) (fun _ le av => av.nth 1 rfl) ?_
   rw [Wh.gE _ (by omega), hM2]
   refine bb ?_
   refine Lp (oC T.Jm rfl rfl (st) (.cons (.there (.there (.there .here))) (.cons .here (.cons .here .nil))) (fun _ _ _ => trivial) ?_)
   rintro v H' ⟨rfl, M3, XA, rfl, S3⟩
   refine bo ?_
   have l3 : M3.length = M.length - 1 := by rw [S3.pm.length_eq, Rj]
   rw [← l3]
   refine bq ?_
   refine Rt [af w 197 [.slice y.a M3.length y.c, .map (some y.mb), .int .u64 (tn : Int)], own y.a y.c 243 3 (M3.flatMap eN), mq (.int .u64) y.mb XA] Tryz.results154 ?_
   refine ⟨⟨y.a, y.c, y.mb, XA⟩, M3, rfl, rfl, ⟨S3.hp, jJ S3.pm N2, S3.ok, fun z hz => S.1 z (S3.pm.mem_iff.1 hz), (S3.pm.map En.tu).nodup_iff.2 S.2, fun _ => ha, by omega, by show _ ≤ y.c; omega, fun z hz => hex z (S3.pm.mem_iff.1 hz)⟩, S3.pm.trans pm⟩
  obtain rfl : i = M.length - 1 := by omega
  obtain ⟨t1, t2⟩ := EB (by omega) W.nd P
  rw [hnh] at t2
  have S := IC t1 W.tu W.td
  have pm := tA t1 W.nd
  rw [hnh] at pm
  have N2 : Nd M.dropLast := by
   have := jJ t1 W.nd
   unfold Nd at this
   rw [List.map_cons, List.nodup_cons] at this
   exact this.2
  rw [← QN]
  refine dq ?_
  refine bE ?_
  refine Rt [af w 197 [.slice y.a M.dropLast.length y.c, .map (some y.mb), .int .u64 (tn : Int)], own y.a y.c 243 3 (M.dropLast.flatMap eN), mq (.int .u64) y.mb (Ch es (.int .u64 (h : Int)))] Tryz.results154 ?_
  exact ⟨⟨y.a, y.c, y.mb, Ch es (.int .u64 (h : Int))⟩, M.dropLast, rfl, rfl, ⟨vE W.hp, N2, ⟨_, R1, t2⟩, S.1, S.2, fun _ => ha, by omega, by show _ ≤ y.c; omega, fun z hz => W.ex z (t1.mem_iff.1 (List.mem_cons_of_mem _ hz))⟩, pm⟩
 have nC : ∀ x ∈ M, x.h ≠ h := fun x h1 h2 => hx ⟨x, h1, h2⟩
 have av : ¬ h ∈ M.map En.h := fun g => by
  obtain ⟨x, h1, h2⟩ := List.mem_map.1 g
  exact hx ⟨x, h1, h2⟩
 rw [P.none nC, Option.map_none] at hR
 rw [decide_eq_false av]
 unfold xA Hc
 generalize WK : y.es = es at *
 refine ag Tryz.func154 rfl Tryz.ntmps154 rfl ?_
 intro F _
 refine cY ?_
 refine Lp (XW T.wz ?_)
 refine bP ?_
 rw [hR, Option.getD_none, Option.isSome_none]
 refine bE ?_
 refine Rt [af w 197 [.slice y.a M.length y.c, .map (some y.mb), .int .u64 (tn : Int)], own y.a y.c 243 3 (M.flatMap eN), mq (.int .u64) y.mb es] Tryz.results154 ?_
 exact ⟨y, M, rfl, by rw [WK], W, by rw [Kg nC]⟩
structure RU (M : List En) (h ex tn : Nat) (y' : NG) (M' : List En) : Prop where
 ok : rY M' y' (if 0 < ex then tn + 1 else tn)
 pm : M'.Perm (lS M h ex tn)
theorem Kh (w : Nat) (y : NG) (M : List En) (tn h : Nat) (ex : Int) (W : rY M y tn) (he : ex ≤ 0) :
  aL Tryz.prog 170 [.pointer (some ⟨w, 0, none⟩), .int .u64 (h : Int), .int .i64 ex] (fun _ => True) (xA w y M tn)
   (fun v H => ∃ y' M', v = .tuple #[] ∧ H = xA w y' M' tn ∧ RU M h 0 tn y' M') := by
 unfold xA
 refine ag Tryz.func170 rfl Tryz.ntmps170 rfl ?_
 intro F _
 refine bL ?_
 refine Lp (oC T.A5 rfl rfl (sN w y M tn h W) (.cons .here (.cons .here (.cons .here .nil))) (fun _ _ _ => trivial) ?_)
 rintro v H' ⟨y1, M1, rfl, rfl, T1⟩
 refine bo ?_
 refine bE ?_
 refine gK ?_ (e := by exact decide_eq_true he)
 refine bw ?_
 refine Rt0 [af w 197 (Hc y1.a M1.length y1.c y1.mb tn), own y1.a y1.c 243 3 (M1.flatMap eN), mq (.int .u64) y1.mb y1.es] Tryz.results170 ?_
 exact ⟨y1, M1, rfl, rfl, T1.ok, T1.pm⟩
theorem Ob (w : Nat) (y : NG) (M : List En) (tn h ex : Nat) (W : rY M y tn) (he : 0 < ex) (ht : tn < 18446744073709551615) (hm : M.length < 2147483647) :
  aL Tryz.prog 170 [.pointer (some ⟨w, 0, none⟩), .int .u64 (h : Int), .int .i64 (ex : Int)] (fun _ => True) (xA w y M tn)
   (fun v H => ∃ y' M', v = .tuple #[] ∧ H = xA w y' M' (tn + 1) ∧ RU M h ex tn y' M') := by
 unfold xA
 refine ag Tryz.func170 rfl Tryz.ntmps170 rfl ?_
 intro F _
 refine bL ?_
 refine Lp (oC T.A5 rfl rfl (sN w y M tn h W) (.cons .here (.cons .here (.cons .here .nil))) (fun _ _ _ => trivial) ?_)
 rintro v H' ⟨y1, M1, rfl, rfl, T1⟩
 refine bo ?_
 have W1 := T1.ok
 have hl1 : M1.length ≤ M.length := by rw [T1.pm.length_eq]; exact List.length_filter_le _ _
 have uD := Wh.c8 M1
 refine Hh (H' := [af w 197 [.slice y1.a M1.length y1.c, .map (some y1.mb), .int .u64 (tn : Int)], own y1.a y1.c 243 3 (M1.flatMap eN), mq (.int .u64) y1.mb y1.es]) ?_
 refine bE ?_
 refine dq ?_
 refine ed ?_
 refine ay ?_
 refine jC 14 T.mix (.cons .here .nil) fun F1 kN cT aU => ?_
 obtain ⟨q1, _⟩ := cT
 refine ed ?_
 refine Tp (oT1 T.wO fun b1 => ?_)
 refine Tp (bf T.wO T.IN rfl rfl rfl rfl .here (by omega) (rfl) (by simp [db, Value.cells, Value.oneCell']) (by omega) (by omega) rfl fun a2 c2 vV => ?_)
 refine iC aU ?_
 obtain ⟨x, hx⟩ : ∃ x : En, x = ⟨h, ex, tn + 1⟩ := ⟨_, rfl⟩
 have HC : (M1 ++ [x]).flatMap eN = M1.flatMap eN ++ [.int .u64 (h : Int), .int .i64 (ex : Int), .int .u64 ((tn : Int) + 1)] := by
  rw [List.flatMap_append, hx]; rfl
 have hlen : (M1 ++ [x]).length = M1.length + 1 := by simp
 have hnot : ∀ z ∈ M1, z.h ≠ h := fun z hz => (Eu z (T1.pm.mem_iff.1 hz)).2
 have htu := W1.tu
 obtain ⟨pl, R, P⟩ := W1.pl
 have N2 : Nd (M1 ++ [x]) := by
  unfold Nd
  rw [List.map_append, List.nodup_append]
  refine ⟨W1.nd, by simp, fun u hu v hv e => ?_⟩
  obtain ⟨z, hz, rfl⟩ := List.mem_map.1 hu
  simp only [List.map_cons, List.map_nil, List.mem_singleton] at hv
  rw [hv, hx] at e
  exact hnot z hz e
 refine ed ?_
 refine aw (t := 40) (v' := (.int .i64 (M1.length : Int))) rfl (by (congr 1; omega)) ?_
 refine Hh (H' := [af w 197 [.slice a2 (M1.length + 1) c2, .map (some y1.mb), .int .u64 ((tn : Int) + 1)], own a2 c2 243 3 (M1.flatMap eN ++ [.int .u64 (h : Int), .int .i64 (ex : Int), .int .u64 ((tn : Int) + 1)]), mq (.int .u64) y1.mb y1.es]) ?_
 rw [← HC, ← hlen]
 refine jf (eS (.there .here) (fun k o => hJ o (by rw [Wh.c8, hlen]; omega))) fun ha => ?_
 refine Lp (oC T.Jm rfl rfl (tB w c2 y1.mb (tn + 1) M1.length a2 (M1 ++ [x]) y1.es pl (by omega) (PV W1.hp x) N2 (Ot P x) R (by omega) ha) (.cons .here (.cons .here (.cons .here .nil))) (fun _ _ _ => trivial) ?_)
 rintro v H' ⟨rfl, M3, XA, rfl, S3⟩
 refine bo ?_
 have l3 : M3.length = (M1 ++ [x]).length := S3.pm.length_eq
 rw [← l3]
 refine aB ?_
 refine jN [af w 197 (Hc a2 M3.length c2 y1.mb (tn + 1)), own a2 c2 243 3 (M3.flatMap eN), mq (.int .u64) y1.mb XA] Tryz.results170 ?_
 have mem : ∀ z, z ∈ M3 → z ∈ M1 ∨ z = x := fun z hz => by simpa using S3.pm.mem_iff.1 hz
 refine ⟨⟨a2, c2, y1.mb, XA⟩, M3, rfl, rfl, ⟨S3.hp, jJ S3.pm N2, S3.ok, fun z hz => ?_, (S3.pm.map En.tu).nodup_iff.2 ?_, fun _ => ha, by omega, by show _ ≤ c2; omega, fun z hz => ?_⟩, ?_⟩
 ·rw [if_pos he]
  rcases mem z hz with g | g
  ·have := htu z g; omega
  rw [g, hx]; exact Nat.le_refl _
 ·rw [List.map_append, List.nodup_append]
  refine ⟨W1.td, by simp, fun u hu v hv e => ?_⟩
  obtain ⟨z, hz, rfl⟩ := List.mem_map.1 hu
  simp only [List.map_cons, List.map_nil, List.mem_singleton] at hv
  rw [hv, hx] at e
  have := htu z hz
  change z.tu = tn + 1 at e
  omega
 ·rcases mem z hz with g | g
  ·exact W1.ex z g
  rw [g, hx]; exact he
 unfold lS
 rw [if_pos he, ← hx]
 exact S3.pm.trans ((List.perm_append_comm (l₂ := [x])).trans (List.Perm.cons x T1.pm))
theorem IK {P : Program} {f : FuncId} {args : List Value} {pre : Hp → Prop} {H : List aa} {R : Value → List aa → Prop} {w tn : Nat} {E : List En} (h : ∀ y M, M.Perm E → rY M y tn → aL P f args pre (xA w y M tn ++ H) R) : aL P f args pre (Wl w E tn :: H) R :=
 aL.WO fun y => aL.WO fun M => aL.ye fun p => aL.ye fun W => aL.AG (h y M p W)
theorem rJ {w tn : Nat} {E M : List En} {y : NG} {H : List aa} {h : Hp} (p : M.Perm E) (W : rY M y tn) (st : aj (xA w y M tn ++ H) h) : aj (Wl w E tn :: H) h :=
 aY (fun _ s => ⟨y, M, p, W, s⟩) (eR st)
theorem S6 {w tn : Nat} {E : List En} {h : Hp} (o : In (Wl w E tn) h) : ∃ y M, M.Perm E ∧ rY M y tn ∧ fF (xA w y M tn) h := by
 obtain ⟨k, ⟨y, M, p, W, st⟩, le⟩ := o
 exact ⟨y, M, p, W, bU st le⟩
theorem Pu {M E : List En} (p : M.Perm E) (h : Nat) : decide (h ∈ M.map En.h) = decide (h ∈ E.map En.h) := decide_eq_decide.2 (p.map En.h).mem_iff
theorem MN (w : Nat) (E : List En) (tn h : Nat) :
  aL Tryz.prog 154 [.pointer (some ⟨w, 0, none⟩), .int .u64 (h : Int)] (fun _ => True) [Wl w E tn]
   (fun v H => v = .bool (decide (h ∈ E.map En.h)) ∧ H = [Wl w (dJ E h) tn]) := by
 refine IK fun y M p W => (sN w y M tn h W).out fun v H' hr => ?_
 obtain ⟨y1, M1, rfl, rfl, T⟩ := hr
 exact ⟨_, ⟨by rw [Pu p], rfl⟩, fun k s => rJ (T.pm.trans (nV p h)) T.ok (by simpa using s)⟩
theorem uZ {M E : List En} (p : M.Perm E) (h ex tn : Nat) : (lS M h ex tn).Perm (lS E h ex tn) := by
 unfold lS
 split
 ·exact List.Perm.cons _ (nV p h)
 exact nV p h
theorem QD (w : Nat) (E : List En) (tn h : Nat) (ex : Nat) (ht : tn < 18446744073709551615) (hm : E.length < 2147483647) :
  aL Tryz.prog 170 [.pointer (some ⟨w, 0, none⟩), .int .u64 (h : Int), .int .i64 (ex : Int)] (fun _ => True) [Wl w E tn]
   (fun v H => v = .tuple #[] ∧ H = [Wl w (lS E h ex tn) (if 0 < ex then tn + 1 else tn)]) := by
 refine IK fun y M p W => ?_
 by_cases he : 0 < ex
 ·refine (Ob w y M tn h ex W he ht (by rw [p.length_eq]; exact hm)).out fun v H' hr => ?_
  obtain ⟨y1, M1, rfl, rfl, T⟩ := hr
  have ok := T.ok
  rw [if_pos he] at ok ⊢
  exact ⟨_, ⟨rfl, rfl⟩, fun k s => rJ (T.pm.trans (uZ p h ex tn)) ok (by simpa using s)⟩
 obtain rfl : ex = 0 := by omega
 refine (Kh w y M tn h 0 W (by omega)).out fun v H' hr => ?_
 obtain ⟨y1, M1, rfl, rfl, T⟩ := hr
 have ok := T.ok
 rw [if_neg he] at ok ⊢
 exact ⟨_, ⟨rfl, rfl⟩, fun k s => rJ (T.pm.trans (uZ p h 0 tn)) ok (by simpa using s)⟩
theorem QE : aL Tryz.prog 64 [] (fun _ => True) [] (fun v H => ∃ w, v = .pointer (some ⟨w, 0, none⟩) ∧ H = [Wl w [] 0]) := by
 have h : aL Tryz.prog 64 [] (fun _ => True) [] (fun v H => ∃ w mb, v = .pointer (some ⟨w, 0, none⟩) ∧ H = xA w ⟨none, 0, mb, []⟩ [] 0) := by
  unfold xA Hc
  refine ag Tryz.func64 rfl Tryz.ntmps64 rfl ?_
  intro F _
  refine bb ?_
  refine Lp (oQm (.int .u64) fun m1 => ?_)
  refine aD ?_
  refine Lp (oB fun b1 => ?_)
  refine bL ?_
  refine cE 243 3 ?_
  refine Rt [af b1 197 [.slice none 0 0, .map (some m1), .int .u64 0], own none 0 243 3 [], mq (.int .u64) m1 []] Tryz.results64 ?_
  exact ⟨b1, m1, rfl, rfl⟩
 refine h.out fun v H' hr => ?_
 obtain ⟨w, mb, rfl, rfl⟩ := hr
 refine ⟨_, ⟨w, rfl, rfl⟩, fun k s => rJ (H := []) (y := ⟨none, 0, mb, []⟩) (List.Perm.refl []) ⟨fun j h1 h2 => absurd h2 (Nat.not_lt_zero _), List.nodup_nil, ⟨fun _ => none, fun h => rfl, fun j h => absurd h (Nat.not_lt_zero _), fun h g => absurd rfl g⟩, (fun x h => by cases h), List.nodup_nil, fun h => absurd rfl h, by decide, Nat.le_refl 0, (fun x h => by cases h)⟩ (by simpa using s)⟩
def nH (M : List En) (now : Int) (i : Nat) : Bool := decide (i < M.length) && decide (((at_ M i).ex : Int) ≤ now)
def Hn (D : List Nat) : List Nat := D.flatMap fun i => [2 * i + 1, 2 * i + 2]
theorem DQ {D : List Nat} {j : Nat} : j ∈ Hn D ↔ 0 < j ∧ par j ∈ D := by
 unfold Hn
 rw [List.mem_flatMap]
 constructor
 ·rintro ⟨i, hi, h⟩
  simp only [List.mem_cons, List.not_mem_nil, or_false] at h
  have : 0 < j ∧ par j = i := by unfold par; omega
  exact ⟨this.1, by rw [this.2]; exact hi⟩
 rintro ⟨h0, hp⟩
 exact ⟨par j, hp, by simp only [List.mem_cons, List.not_mem_nil, or_false]; unfold par; omega⟩
theorem Mz (D : List Nat) (i : Nat) : Hn (D ++ [i]) = Hn D ++ [2 * i + 1, 2 * i + 2] := by unfold Hn; rw [List.flatMap_append]; simp
structure zV (M : List En) (now : Int) (k : Nat) (look D : List Nat) : Prop where
 lk : look = 0 :: Hn D
 dk : D = (look.take k).filter (nH M now)
 nd : look.Nodup
 kl : k ≤ look.length
theorem zV.start (M : List En) (now : Int) : zV M now 0 [0] [] := ⟨rfl, rfl, by simp, by simp⟩
theorem zV.dN {M : List En} {now : Int} {k : Nat} {look D : List Nat} (B : zV M now k look D) : D.Nodup ∧ (∀ i ∈ D, i < M.length) ∧ D.length ≤ M.length := by
 have h1 : D.Nodup := by rw [B.dk]; exact (B.nd.sublist (List.take_sublist _ _)).sublist List.filter_sublist
 have h2 : ∀ i ∈ D, i < M.length := fun i hi => by
  rw [B.dk] at hi
  have := (List.mem_filter.1 hi).2
  unfold nH at this
  simp only [Bool.and_eq_true, decide_eq_true_eq] at this
  exact this.1
 exact ⟨h1, h2, kH _ _ h1 h2⟩
theorem Qw (D : List Nat) : (Hn D).length = D.length * 2 := by
 induction D with
 | nil => rfl
 | cons a l ih =>
  have : Hn (a :: l) = [2 * a + 1, 2 * a + 2] ++ Hn l := rfl
  rw [this, List.length_append, ih]; simp; omega
theorem zV.len {M : List En} {now : Int} {k : Nat} {look D : List Nat} (B : zV M now k look D) : look.length = D.length * 2 + 1 ∧ look.length ≤ 2 * M.length + 1 := by
 have := B.dN.2.2
 have h : look.length = D.length * 2 + 1 := by rw [B.lk, List.length_cons, Qw]
 exact ⟨h, by omega⟩
theorem zV.skip {M : List En} {now : Int} {k i : Nat} {look D : List Nat} (B : zV M now k look D) (hk : look[k]? = some i) (hg : nH M now i = false) : zV M now (k + 1) look D := by
 have cJ := (List.getElem?_eq_some_iff.1 hk).1
 refine ⟨B.lk, ?_, B.nd, cJ⟩
 rw [List.take_add_one, hk, List.filter_append, ← B.dk]
 simp [hg]
theorem zV.add {M : List En} {now : Int} {k i : Nat} {look D : List Nat} (B : zV M now k look D) (hk : look[k]? = some i) (hg : nH M now i = true) : zV M now (k + 1) (look ++ [2 * i + 1, 2 * i + 2]) (D ++ [i]) := by
 have cJ := (List.getElem?_eq_some_iff.1 hk).1
 have hiD : i ∉ D := fun h => by
  rw [B.dk] at h
  have h2 := (List.mem_filter.1 h).1
  obtain ⟨m, hm, e⟩ := List.getElem_of_mem h2
  rw [List.getElem_take] at e
  have hm2 := hm
  rw [List.length_take] at hm2
  have h3 : look[m]? = some i := List.getElem?_eq_some_iff.2 ⟨by omega, e⟩
  have := fm B.nd h3 hk
  rw [List.length_take] at hm
  omega
 have nC : ∀ j, 0 < j → par j = i → j ∉ look := fun j j0 pj h => by
  rw [B.lk] at h
  rcases List.mem_cons.1 h with e | e
  ·omega
  have := (DQ.1 e).2
  rw [pj] at this
  exact hiD this
 refine ⟨by rw [Mz, B.lk]; rfl, ?_, ?_, by rw [List.length_append]; omega⟩
 ·rw [List.take_append_of_le_length (by omega), List.take_add_one, hk, List.filter_append, ← B.dk]
  simp [hg]
 rw [List.nodup_append]
 refine ⟨B.nd, by simp, fun a ha b hb e => ?_⟩
 subst e
 simp only [List.mem_cons, List.not_mem_nil, or_false] at hb
 exact nC a (by omega) (by unfold par; omega) ha
theorem zV.done {M : List En} {now : Int} {k : Nat} {look D : List Nat} (H : uq M) (B : zV M now k look D) (hk : k = look.length) : (D.map (at_ M)).Perm (M.filter fun x => decide ((x.ex : Int) ≤ now)) := by
 have hD : D = look.filter (nH M now) := by
  have := B.dk
  rwa [hk, List.take_length] at this
 have all : ∀ i, nH M now i = true → i ∈ D := fun i => by
  induction i using Nat.strongRecOn with
  | ind i ih =>
   intro hg
   have av : i ∈ look := by
    rw [B.lk]
    rcases Nat.eq_zero_or_pos i with e | e
    ·rw [e]; exact List.mem_cons_self
    refine List.mem_cons_of_mem _ (DQ.2 ⟨e, ih (par i) (fN e) ?_⟩)
    unfold nH at hg ⊢
    simp only [Bool.and_eq_true, decide_eq_true_eq] at hg ⊢
    have hle := H i e hg.1
    have := fN e
    refine ⟨by omega, ?_⟩
    unfold En.le at hle
    omega
   rw [hD]
   exact List.mem_filter.2 ⟨av, hg⟩
 have hM : M = (List.range M.length).map (at_ M) := by
  apply List.ext_getElem?
  intro j
  rw [List.getElem?_map]
  by_cases h : j < M.length
  ·rw [gx h, List.getElem?_range h]; rfl
  rw [List.getElem?_eq_none (by omega), List.getElem?_eq_none (by rw [List.length_range]; omega)]; rfl
 have p1 : D.Perm ((List.range M.length).filter fun i => decide (((at_ M i).ex : Int) ≤ now)) := by
  refine (List.perm_ext_iff_of_nodup B.dN.1 (List.nodup_range.sublist List.filter_sublist)).2 fun i => ?_
  rw [List.mem_filter, List.mem_range]
  constructor
  ·intro h
   have h2 := (List.mem_filter.1 (hD ▸ h)).2
   unfold nH at h2
   simpa using h2
  intro h
  exact all i (by unfold nH; simpa using h)
 have p2 := p1.map (at_ M)
 have e : ((List.range M.length).filter fun i => decide (((at_ M i).ex : Int) ≤ now)).map (at_ M) = M.filter fun x => decide ((x.ex : Int) ≤ now) := by
  conv => rhs; rw [hM]
  rw [List.filter_map]; rfl
 rw [e] at p2
 exact p2
noncomputable def fg (L : List En) : List En := L.mergeSort fun x y => decide (¬ En.lt y x)
theorem eU (L : List En) : (fg L).Perm L := List.mergeSort_perm _ _
noncomputable def lV (E : List En) (now : Int) (aC : Int) : List Nat := ((fg (E.filter fun x => decide ((x.ex : Int) ≤ now))).take aC.toNat).map En.h
def xH (l : List Nat) : List Value := l.map fun (h : Nat) => Value.int .u64 (h : Int)
def oD : Prop := ∀ (a : Option Addr) (cap : Nat) (L : List En), L.length ≤ cap → (L.map En.tu).Nodup → L.length < 2147483648 → aL Tryz.prog 142 [.slice a L.length cap, .func (.func 143) #[] #[]] (fun _ => True) [own a cap 243 3 (L.flatMap eN)] (fun v H => v = .tuple #[] ∧ H = [own a cap 243 3 ((fg L).flatMap eN)])
theorem Oc (xM : oD) (w : Nat) (y : NG) (M : List En) (tn : Nat) (now aC : Int) (W : rY M y tn) :
  aL Tryz.prog 89 [.pointer (some ⟨w, 0, none⟩), .int .i64 now, .int .i64 aC] (fF (xA w y M tn)) []
   (fun v H => ∃ a c L, v = .slice a L.length c ∧ H = [own a c 117 1 (xH L)] ∧ ∃ D : List En, D.Perm (M.filter fun x => decide ((x.ex : Int) ≤ now)) ∧ L = ((fg D).take aC.toNat).map En.h) := by
 have Hi := W.ln
 unfold xA Hc
 refine ag Tryz.func89 rfl Tryz.ntmps89 rfl ?_
 rintro F ⟨hw, ho, _⟩
 have hr := bY ho
 have uD := Wh.c8 M
 refine bO ?_
 refine Lp (oT T.dZ fun b1 => ?_)
 refine bE ?_
 refine az (fun _ s => aY (fun _ p => lp p 1 1 rfl (by decide)) s) ?_
 refine cE 243 3 ?_
 refine cR (ι := List Nat × Option Addr × Nat) [15, 16, 17, 18, 21, 22, 23, 24, 10, 25, 26, 27, 28, 29, 30, 31, 32, 33, 34, 35, 36, 37, 38, 39, 40, 41, 42, 43, 44, 45, 46, 47, 48, 49, 50, 51, 52, 53, 7, 54, 55, 56, 57, 58, 59, 60, 61, 62, 8, 19, 20, 9] (fun s => (s.1.map (at_ M)).Perm (M.filter fun x => decide ((x.ex : Int) ≤ now)) ∧ s.1.length ≤ M.length ∧ s.1.length ≤ s.2.2) (fun s => [(7, .slice s.2.1 s.1.length s.2.2)]) (fun s => [own s.2.1 s.2.2 243 3 ((s.1.map (at_ M)).flatMap eN)]) ?_ ?_
 ·refine mI ?_
  refine Lo (ι := Nat × List Nat × List Nat × (Option Addr × Nat) × (Option Addr × Nat)) [15, 16, 17, 18, 21, 22, 23, 24, 10, 25, 26, 27, 28, 29, 30, 31, 32, 33, 34, 35, 36, 37, 38, 39, 40, 41, 42, 43, 44, 45, 46, 47, 48, 49, 50, 51, 52, 53, 7, 54, 55, 56, 57, 58, 59, 60, 61, 62, 8, 19, 20, 9] (fun s => zV M now s.1 s.2.1 s.2.2.1 ∧ s.2.1.length ≤ s.2.2.2.1.2 ∧ s.2.2.1.length ≤ s.2.2.2.2.2) (fun s => [(9, .int .i64 (s.1 : Int)), (8, .slice s.2.2.2.1.1 s.2.1.length s.2.2.2.1.2), (7, .slice s.2.2.2.2.1 s.2.2.1.length s.2.2.2.2.2)]) (fun s => [own s.2.2.2.2.1 s.2.2.2.2.2 243 3 ((s.2.2.1.map (at_ M)).flatMap eN), own s.2.2.2.1.1 s.2.2.2.1.2 3 1 (aH s.2.1)]) (fun s => 2 * M.length + 1 - s.1) ((0, [0], [], (some ⟨b1, 0, none⟩, 1), (none, 0))) ⟨zV.start M now, Nat.le_refl 1, Nat.le_refl 0⟩ ?_
  rintro ⟨k, look, D, ⟨al, cl⟩, ⟨ad, cd⟩⟩ hI
  dsimp only at hI ⊢
  obtain ⟨B, dR, hcd⟩ := hI
  obtain ⟨q1, q2⟩ := B.len
  have q3 := B.dN.2.2
  have xF := B.kl
  refine bO ?_
  by_cases hk : k < look.length
  ·obtain ⟨i, hi⟩ : ∃ i, look[k]? = some i := ⟨look[k], List.getElem?_eq_getElem hk⟩
   have hic : (aH look)[k]? = some (.int .i64 (i : Int)) := by unfold aH; rw [List.getElem?_map, hi]; rfl
   have Sd : (aH look).length = look.length := iO look
   refine jf (eS (.there .here) (fun _ o => hJ o (by rw [Sd]; omega))) fun QO => ?_
   refine gK ?_
   refine bO ?_
   refine Li (Ix T.nm) ?_
   refine gh ?_
   by_cases av : i < M.length
   ·have Sk := Wh.gd av
    have hex : (M.flatMap eN)[i * 3 + 1]? = some (.int .i64 ((at_ M i).ex : Int)) := bc jh (gx av) rfl
    have ha := W.sm (E6 (by omega))
    refine zf 32 ?_
    refine bq ?_
    refine Li (Ix T.fL) ?_
    refine Li (Fam T.vJ) ?_
    refine bq ?_
    by_cases hx : ((at_ M i).ex : Int) ≤ now
    ·have hg : nH M now i = true := by unfold nH; rw [decide_eq_true av, decide_eq_true hx]; rfl
     have B2 := B.add hi hg
     have hfD : ((D.map (at_ M)).flatMap eN).length = D.length * 3 := by rw [Wh.c8, List.length_map]
     refine dq ?_
     refine cY ?_
     refine Li (Ix T.fL) ?_
     refine aD ?_
     refine Lp (oT1 T.wO fun b2 => ?_)
     refine Lp (bf T.wO T.IN rfl rfl rfl rfl .here (by omega) (rfl) (by simp [eN, db, Value.cells, Value.oneCell']) (by omega) (by omega) rfl fun a2 c2 vV => ?_)
     refine bx ?_
     refine Lp (oT T.dZ fun b3 => ?_)
     refine Lp (bf T.dZ T.lZ rfl rfl rfl rfl (.there .here) (by omega) (rfl) (by simp [db, Value.cells, Value.oneCell']) (by omega) (by omega) rfl fun a3 c3 hc3 => ?_)
     refine cX ?_
     refine aB ?_
     have e1 : ((D ++ [i]).map (at_ M)).flatMap eN = (D.map (at_ M)).flatMap eN ++ eN (at_ M i) := by rw [List.map_append, List.flatMap_append]; simp
     have e2 : aH (look ++ [2 * i + 1, 2 * i + 2]) = aH look ++ [.int .i64 (2 * (i : Int) + 1), .int .i64 (2 * (i : Int) + 2)] := by rw [fZ]; rfl
     have l1 : (D ++ [i]).length = D.length + 1 := by simp
     have l2 : (look ++ [2 * i + 1, 2 * i + 2]).length = look.length + 2 := by simp
     refine Hh (H' := [own a2 c2 243 3 ((D.map (at_ M)).flatMap eN ++ eN (at_ M i)), own a3 c3 3 1 (aH look ++ [.int .i64 (2 * (i : Int) + 1), .int .i64 (2 * (i : Int) + 2)])]) ?_
     rw [← e1, ← e2, ← l1, ← l2]
     refine Ro ((k + 1, look ++ [2 * i + 1, 2 * i + 2], D ++ [i], (a3, c3), (a2, c2))) (⟨B2, (by dsimp only; omega), (by dsimp only; omega)⟩) ((by dsimp only; omega))
    have hg : nH M now i = false := by unfold nH; rw [decide_eq_false hx, Bool.and_false]
    refine gK ?_
    refine cX ?_
    refine aB ?_
    refine Ro ((k + 1, look, D, (al, cl), (ad, cd))) (⟨B.skip hi hg, dR, hcd⟩) ((by dsimp only; omega))
   have hg : nH M now i = false := by unfold nH; rw [decide_eq_false av, Bool.false_and]
   refine zt 32 ?_
   refine ca ?_
   refine aD ?_
   refine aB ?_
   refine Ro ((k + 1, look, D, (al, cl), (ad, cd))) (⟨B.skip hi hg, dR, hcd⟩) ((by dsimp only; omega))
  refine dq ?_
  refine bb ?_
  refine Me ((D, ad, cd)) (⟨B.done W.hp (by omega), q3, hcd⟩)
 rintro s hI
 obtain ⟨D, ad, cd⟩ := s
 dsimp only at hI ⊢
 obtain ⟨hp, hDl, hDc⟩ := hI
 have hLl : (D.map (at_ M)).length = D.length := List.length_map ..
 have hLt : ((D.map (at_ M)).map En.tu).Nodup := (hp.map En.tu).nodup_iff.2 (W.td.sublist (List.filter_sublist.map _))
 rw [← hLl]
 rw [← hLl] at hDl hDc
 generalize D.map (at_ M) = L at *
 have QI : (fg L).length = L.length := (eU L).length_eq
 have hfS := Wh.c8 (fg L)
 obtain ⟨m, hm⟩ : ∃ m, m = min L.length aC.toNat := ⟨_, rfl⟩
 refine bw ?_
 refine zl T.VC (xM ad cd L hDc hLt (by omega)) (.cons .here .nil) (fun _ _ _ => trivial) ?_
 generalize hS : fg L = S at *
 refine bx ?_
 refine Li Ma ?_
 refine Li Mi ?_
 refine aw (t := 70) (v' := (.int .i64 (m : Int))) rfl (by (congr 1; omega)) ?_
 refine Li (Sl 0 _ _ T.fL) ?_
 rw [JO, Nat.sub_zero, Nat.sub_zero]
 refine bL ?_
 refine cE 117 1 ?_
 refine aD ?_
 refine Lo (ι := Nat × Option Addr × Nat) [74, 75, 76, 13, 77, 78, 79, 80, 81, 11, 82, 73] (fun s => s.1 ≤ m ∧ s.1 ≤ s.2.2) (fun s => [(73, .int .i64 (s.1 : Int)), (11, .slice s.2.1 s.1 s.2.2)]) (fun s => [own s.2.1 s.2.2 117 1 (xH ((S.take s.1).map En.h)), own ad cd 243 3 (S.flatMap eN)]) (fun s => m - s.1) ((0, none, 0)) ⟨Nat.zero_le _, Nat.le_refl 0⟩ ?_
 rintro ⟨j, a, c⟩ hI
 dsimp only at hI ⊢
 have hj := hI.1
 by_cases hjm : j < m
 ·have Sk := Wh.gd (M := S) (j := j) (by omega)
  have hx := gx (M := S) (j := j) (by omega)
  have hh : (xH ((S.take j).map En.h)).length = j := by unfold xH; rw [List.length_map, List.length_map, List.length_take]; omega
  have e1 : xH ((S.take (j + 1)).map En.h) = xH ((S.take j).map En.h) ++ [.int .u64 ((at_ S j).h : Int)] := by
   unfold xH
   rw [List.take_add_one, hx, List.map_append, List.map_append]; rfl
  refine jf (eS (.there .here) (fun _ o => hJ o (by omega))) fun QO => ?_
  refine bL ?_
  refine ay ?_
  refine gK ?_
  refine bq ?_
  refine Li (Ix T.fL) ?_
  refine aD ?_
  refine Lp (oA T.wj fun b4 => ?_)
  refine Lp (j5 T.sK ?_ (h1 := by simp [eN, Value.oneCell']))
  refine aD ?_
  rw [show eN (at_ S j) = [.int .u64 ((at_ S j).h : Int), .int .i64 ((at_ S j).ex : Int), .int .u64 ((at_ S j).tu : Int)] from rfl]
  refine bb ?_
  refine Lp (oT T.JT fun b5 => ?_)
  refine Lp (bf T.JT T.UE rfl rfl rfl rfl (.there .here) (by omega) (rfl) (by simp [db, Value.cells, Value.oneCell']) (by omega) (by omega) rfl fun a2 c2 vV => ?_)
  refine bO ?_
  refine aB ?_
  refine Hh (H' := [own a2 c2 117 1 (xH ((S.take j).map En.h) ++ [.int .u64 ((at_ S j).h : Int)]), own ad cd 243 3 (S.flatMap eN)]) ?_
  rw [← e1]
  refine Ro ((j + 1, a2, c2)) (⟨hjm, vV⟩) ((by dsimp only; omega))
 refine iS ?_
 refine bw ?_
 refine ay ?_
 refine dq ?_
 refine bx ?_
 obtain rfl : j = m := by omega
 have e1 : S.take j = S.take aC.toNat := by
  rw [List.take_eq_take_min, List.take_eq_take_min (i := aC.toNat), QI, hm]
  congr 1; omega
 have hl : ((S.take aC.toNat).map En.h).length = j := by rw [List.length_map, List.length_take]; omega
 rw [e1, ← hl]
 refine Rt [own a c 117 1 (xH ((S.take aC.toNat).map En.h))] Tryz.results89 ?_
 exact ⟨a, c, _, rfl, rfl, L, hp, by rw [hS]⟩
theorem Q4 {R : En → En → Prop} : ∀ {L M : List En}, L.Perm M → L.Pairwise R → M.Pairwise R → (∀ a ∈ L, ∀ b ∈ L, R a b → R b a → a = b) → L = M
 | [], M, p, _, _, _ => (List.nil_perm.1 p).symm
 | a :: L, [], p, _, _, _ => by have := p.length_eq; simp at this
 | a :: L, b :: M, p, hl, hm, an => by
  have e : a = b := by
   have hb : b ∈ a :: L := p.mem_iff.2 List.mem_cons_self
   have ha : a ∈ b :: M := p.mem_iff.1 List.mem_cons_self
   rcases List.mem_cons.1 hb with h | h
   ·exact h.symm
   rcases List.mem_cons.1 ha with g | g
   ·exact g
   exact an a List.mem_cons_self b hb ((List.pairwise_cons.1 hl).1 b h) ((List.pairwise_cons.1 hm).1 a g)
  subst e
  rw [Q4 (List.Perm.cons_inv p) (List.pairwise_cons.1 hl).2 (List.pairwise_cons.1 hm).2 (fun x hx y hy => an x (List.mem_cons_of_mem _ hx) y (List.mem_cons_of_mem _ hy))]
theorem Tz {L : List En} (d : (L.map En.tu).Nodup) {a b : En} (ha : a ∈ L) (hb : b ∈ L) (e : a.tu = b.tu) : a = b := by
 obtain ⟨i, hi, ea⟩ := List.getElem_of_mem ha
 obtain ⟨j, hj, eb⟩ := List.getElem_of_mem hb
 have h1 : (L.map En.tu)[i]? = some a.tu := by rw [List.getElem?_map, List.getElem?_eq_getElem hi, ea]; rfl
 have h2 : (L.map En.tu)[j]? = some a.tu := by rw [List.getElem?_map, List.getElem?_eq_getElem hj, eb, e]; rfl
 have := fm d h1 h2
 subst this
 rw [← ea, ← eb]
theorem yC (L : List En) : (fg L).Pairwise fun x y => ¬ En.lt y x := by
 have h := List.pairwise_mergeSort (le := fun x y : En => decide (¬ En.lt y x)) (fun a b c h1 h2 => by
  simp only [decide_eq_true_eq] at *
  unfold En.lt at *
  omega) (fun a b => by
  simp only [Bool.or_eq_true, decide_eq_true_eq]
  unfold En.lt
  omega) L
 refine h.imp fun {a b} g => ?_
 exact of_decide_eq_true g
theorem CX {L M : List En} (p : L.Perm M) (d : (M.map En.tu).Nodup) (hl : L.Pairwise fun x y => ¬ En.lt y x) : L = fg M := by
 have d2 : (L.map En.tu).Nodup := (p.map En.tu).nodup_iff.2 d
 refine Q4 (p.trans (eU M).symm) hl (yC M) fun a ha b hb h1 h2 => Tz d2 ha hb ?_
 unfold En.lt at h1 h2
 omega
theorem tE {L M : List En} (p : L.Perm M) (d : (M.map En.tu).Nodup) : fg L = fg M := CX ((eU L).trans p) d (yC L)
theorem QF (xM : oD) (w : Nat) (E : List En) (tn : Nat) (now aC : Int) :
  aL Tryz.prog 89 [.pointer (some ⟨w, 0, none⟩), .int .i64 now, .int .i64 aC] (In (Wl w E tn)) []
   (fun v H => ∃ a c, v = .slice a (lV E now aC).length c ∧ H = [own a c 117 1 (xH (lV E now aC))]) := by
 refine aL.UC (X := ∃ y M, M.Perm E ∧ rY M y tn) (fun k hk => ?_) ?_
 ·obtain ⟨y, M, p, W, _⟩ := S6 hk
  exact ⟨y, M, p, W⟩
 intro _
 intro F W0 hk s
 obtain ⟨y, M, p, W, av⟩ := S6 hk
 refine ((Oc xM w y M tn now aC W) F W0 av s).mono fun e w' hh => ?_
 obtain ⟨v, H', he, ⟨a, c, L, rfl, rfl, D, hD, rfl⟩, st⟩ := hh
 have hs : fg D = fg (E.filter fun x => decide ((x.ex : Int) ≤ now)) := by
  refine tE (hD.trans (p.filter _)) ?_
  exact ((p.map En.tu).nodup_iff.1 W.td).sublist (List.filter_sublist.map _)
 refine ⟨_, _, he, ⟨a, c, ?_, ?_⟩, st⟩
 ·unfold lV; rw [hs]
 unfold lV; rw [hs]
end Go.Proofs.YtpgbeapapmdkcaaGreatDoor
