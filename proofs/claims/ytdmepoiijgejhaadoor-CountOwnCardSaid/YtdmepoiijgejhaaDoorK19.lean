/- Counts, the reference: its small functions. -/
import Derived.Test.YtdmepoiijgejhaaDoorK16
import Derived.Test.YtdmepoiijgejhaaDoorP2
set_option maxRecDepth 100000
namespace Go.Proofs.YtdmepoiijgejhaaDoor
open Go Go.Eng

theorem flat_at {α : Type} (f : α → List Value) (n : Nat) (hn : ∀ x, (f x).length = n) (l : List α) (i : Nat) (x : α) (h : l[i]? = some x) (j : Nat) (hj : j < n) : (l.flatMap f)[i * n + j]? = (f x)[j]? := by
  have e := congrArg (·[j]?) (flatMap_at f n hn l i x h)
  simp only [List.getElem?_take, if_pos hj, List.getElem?_drop] at e
  exact e
theorem wrap_add (v n : Nat) (h1 : v ≤ 18446744073709551615) (h2 : n ≤ 18446744073709551615) : IntKind.u64.wrap ((v : Int) + n) = if v + n ≤ 18446744073709551615 then (v : Int) + n else (v : Int) + n - 18446744073709551616 := by
  unfold IntKind.wrap
  simp only [IntKind.bits, IntKind.signed, Bool.false_and, Bool.false_eq_true, if_false]
  split <;> omega
theorem icells_len (l : List Int) : (icells l).length = l.length := by simp [icells]
theorem icells_app (l m : List Int) : icells (l ++ m) = icells l ++ icells m := by simp [icells]
theorem icells_one (l : List Int) : ∀ v ∈ icells l, v.oneCell' = true := by
  intro v hv
  obtain ⟨n, _, rfl⟩ := List.mem_map.1 hv
  rfl
/-- lists that count alike -/
def EqN (L M : List Int) : Prop := ∀ j : Nat, tot (onesE L) j = tot (onesE M) j
theorem EqN.refl (L : List Int) : EqN L L := fun _ => rfl
theorem onesE_app (L M : List Int) : onesE (L ++ M) = onesE L ++ onesE M := by simp [onesE]
theorem EqN.app {L M L' M' : List Int} (a : EqN L M) (b : EqN L' M') : EqN (L ++ L') (M ++ M') := fun j => by rw [onesE_app, onesE_app, tot_append, tot_append, a j, b j]
theorem EqN.comm (L M : List Int) : EqN (L ++ M) (M ++ L) := fun j => by rw [onesE_app, onesE_app, tot_append, tot_append]; omega
theorem EqN.trans {L M N : List Int} (a : EqN L M) (b : EqN M N) : EqN L N := fun j => (a j).trans (b j)
theorem EqN.of_all {L M : List Int} (h : ∀ j, j < 32 → tot (onesE L) j = tot (onesE M) j) : EqN L M := fun j => by
  by_cases hj : j < 32
  · exact h j hj
  · rw [tot_ones, tot_ones, if_neg (by omega), if_neg (by omega)]
/-- a list of numbers that counts as M does, in a row of one's own -/
def RL (n : Nat) (M : List Int) (v : Value) (H : List HProp) : Prop := ∃ a c L, v = .slice a L.length c ∧ L.length ≤ n ∧ L.length ≤ c ∧ EqN L M ∧ H = [own a c 3 1 (icells L)]
theorem RL.nil {n : Nat} {M : List Int} (h : EqN [] M) : RL n M (.slice none 0 0) [own none 0 3 1 []] := ⟨none, 0, [], rfl, Nat.zero_le _, Nat.zero_le _, h, rfl⟩
theorem own_lit {b : Nat} {R : List HProp} (L : List Int) (hl : L.length ≤ 100) : ∀ h, starL (pts b 3 (icells L) :: R) h → starL (own (some ⟨b, 0, none⟩) L.length 3 1 (icells L) :: R) h := fun _ s =>
  starL_cons_mono (fun _ p => own_of_pts p L.length 1 (by rw [icells_len, Nat.mul_one]) (by unfold maxLen; omega)) s
theorem RL.lit {n : Nat} {M : List Int} {b : Nat} (L : List Int) (hl : L.length ≤ n) (h : EqN L M) : RL n M (.slice (some ⟨b, 0, none⟩) L.length L.length) [own (some ⟨b, 0, none⟩) L.length 3 1 (icells L)] := ⟨_, _, L, rfl, hl, Nat.le_refl _, h, rfl⟩

theorem is_fn (z : Int) : FnS Tryd.prog 58 [.int .i64 z] (fun _ => True) [] (fun v H => v = .bool (decide (1 ≤ z) && decide (z ≤ 31)) ∧ H = []) := by
  refine fn_body Tryd.func58 rfl Tryd.ntmps58 rfl ?_
  intro F hF
  refine g_sr ?_
  refine Li As ?_
  refine g_ne ?_
  refine g_sr ?_
  refine Li Mv ?_
  refine Li Cm ?_
  refine Li Mv ?_
  refine g_split (t := 5) rfl ?_ ?_
  · intro hb0
    replace hb0 := nrm hb0
    refine Li Mv ?_
    refine Li Cm ?_
    refine Li Pt ?_
    refine Li As ?_
    refine g_ne ?_
    refine g_ret ?_
    refine Rt [] Tryd.results58 ?_
    refine ⟨congrArg Value.bool ?_, rfl⟩
    rw [Bool.eq_iff_iff]; simp; omega
  · intro hb0
    replace hb0 := nrm hb0
    refine Lx ?_
    refine Lx ?_
    refine Li Pf ?_
    refine Li As ?_
    refine g_ne ?_
    refine g_ret ?_
    refine Rt [] Tryd.results58 ?_
    refine ⟨congrArg Value.bool ?_, rfl⟩
    rw [Bool.eq_iff_iff]; simp; omega
def rbC (l : List Nat) : List Value := l.map fun n : Nat => .int .u64 (n : Int)
theorem rbC_at (l : List Nat) (j : Nat) (h : j < l.length) : (rbC l)[j]? = some (.int .u64 ((l.getD j 0 : Nat) : Int)) := by simp [rbC, h]
theorem rbC_set (l : List Nat) (j n : Nat) : (rbC l).set j (.int .u64 (n : Int)) = rbC (l.set j n) := by simp [rbC, List.map_set]
theorem rbC_len (l : List Nat) : (rbC l).length = l.length := by simp [rbC]
theorem rNew_fn : FnS Tryd.prog 12 [] (fun _ => True) [] (fun v H => ∃ b, v = .pointer (some ⟨b, 0, none⟩) ∧ H = [pts b 91 (rbC (List.replicate 32 0))]) := by
  refine fn_body Tryd.func12 rfl Tryd.ntmps12 rfl ?_
  intro F hF
  refine g_sr ?_
  refine Li As ?_
  refine g_ne ?_
  refine g_sr ?_
  refine Li (Bd T.zc_91 T.st_91) ?_
  refine Lp (oB fun b1 => ?_)
  refine Li As ?_
  refine g_ne ?_
  refine g_ret ?_
  refine Rt [pts b1 91 (rbC (List.replicate 32 0))] Tryd.results12 ?_
  exact ⟨b1, rfl, rfl⟩
theorem rAdd_fn (b : Nat) (e : TypeId) (l : List Nat) (bd : Brd l) (z : Int) (n : Nat) (hn : n ≤ maxN) :
    FnS Tryd.prog 41 [.pointer (some ⟨b, 0, none⟩), .int .i64 z, .int .u64 (n : Int)] (fun _ => True) [pts b e (rbC l)] (fun v H => v = .tuple #[] ∧ H = [pts b e (rbC (addM l z n))]) := by
  have hlen := bd.len
  unfold maxN at hn
  refine fn_body Tryd.func41 rfl Tryd.ntmps41 rfl ?_
  intro F hF
  refine g_seq ?_
  refine g_sr ?_
  refine Li Mv ?_
  refine Lp (oC T.fn_58 rfl rfl (is_fn z) .nil (fun _ _ _ => trivial) ?_)
  rintro v H' ⟨rfl, rfl⟩
  try simp only [nap, cap]
  refine Li Nt ?_
  refine g_ne ?_
  refine g_cond rfl ?_ ?_
  · intro hz
    replace hz := nrm hz
    refine g_ret ?_
    refine e_then_ret ?_
    refine Rt0 [pts b e (rbC l)] Tryd.results41 ?_
    refine ⟨rfl, ?_⟩
    unfold addM
    rw [if_neg (by omega)]
  · intro hz
    replace hz := nrm hz
    obtain ⟨j, rfl⟩ : ∃ j : Nat, z = (j : Int) := ⟨z.toNat, by omega⟩
    have hj : j < l.length := by omega
    have hat : (rbC l)[0 + 0 + j]? = some (.int .u64 ((l.getD j 0 : Nat) : Int)) := by simp only [Nat.zero_add]; exact rbC_at l j hj
    have hrl := rbC_len l
    have htop := bd.top j
    unfold maxN at htop
    generalize hv : l.getD j 0 = v at hat htop
    have e1 : (rbC l).set (0 + 0 + j) (.int .u64 ((min (v + n) 18446744073709551615 : Nat) : Int)) = rbC (addM l j n) := by
      rw [show 0 + 0 + j = j from by omega, rbC_set]
      unfold addM maxN
      rw [if_pos (by omega), Int.toNat_natCast, hv]
    refine g_skip ?_
    refine e_then ?_
    refine g_sr ?_
    refine Li Mv ?_
    refine Li Mv ?_
    refine Li Nc ?_
    refine Li (Fa T.fld_91_0) ?_
    refine Li (Ia T.ar_87) ?_
    refine Lp (oL T.sc_30 ?_)
    refine Li Mv ?_
    refine Li (Im (z := if v + n ≤ 18446744073709551615 then (v : Int) + n else (v : Int) + n - 18446744073709551616) (hz := by exact congrArg some (wrap_add v n htop hn))) ?_
    refine Li As ?_
    refine g_ne ?_
    refine g_seq ?_
    refine g_sr ?_
    refine Li Mv ?_
    refine Li Mv ?_
    refine Li Cm ?_
    refine g_ne ?_
    refine g_cond rfl ?_ ?_
    · intro hs
      replace hs := nrm hs
      have e2 : min (v + n) 18446744073709551615 = 18446744073709551615 := by
        by_cases h5 : v + n ≤ 18446744073709551615
        · rw [if_pos h5] at hs; omega
        · omega
      rw [e2] at e1
      have e3 : (rbC l).set (0 + 0 + j) (.int .u64 18446744073709551615) = rbC (addM l j n) := e1
      refine g_region ?_
      refine Li As ?_
      refine g_ne ?_
      refine g_region ?_
      refine Li Mv ?_
      refine Li Mv ?_
      refine Li Mv ?_
      refine Li Nc ?_
      refine Li (Fa T.fld_91_0) ?_
      refine Li (Ia T.ar_87) ?_
      refine Lp (oS T.sc_30 ?_)
      refine g_nil ?_
      rw [e3]
      refine Rn0 [pts b e (rbC (addM l j n))] Tryd.results41 ?_
      exact ⟨rfl, rfl⟩
    · intro hs
      replace hs := nrm hs
      have h5 : v + n ≤ 18446744073709551615 := by
        by_cases h5 : v + n ≤ 18446744073709551615
        · exact h5
        · rw [if_neg h5] at hs; omega
      have e2 : ((min (v + n) 18446744073709551615 : Nat) : Int) = if v + n ≤ 18446744073709551615 then (v : Int) + n else (v : Int) + n - 18446744073709551616 := by rw [if_pos h5]; omega
      rw [e2] at e1
      refine g_skip ?_
      refine e_then ?_
      refine g_region ?_
      refine Li Mv ?_
      refine Li Mv ?_
      refine Li Mv ?_
      refine Li Nc ?_
      refine Li (Fa T.fld_91_0) ?_
      refine Li (Ia T.ar_87) ?_
      refine Lp (oS T.sc_30 ?_)
      refine g_nil ?_
      rw [e1]
      refine Rn0 [pts b e (rbC (addM l j n))] Tryd.results41 ?_
      exact ⟨rfl, rfl⟩
theorem asKey_fn (w : Int) : FnS Tryd.prog 67 [.int .i64 w] (fun _ => True) [] (RL 3 (keyL w)) := by
  refine fn_body Tryd.func67 rfl Tryd.ntmps67 rfl ?_
  intro F hF
  refine g_sr ?_
  refine Li As ?_
  refine g_ne ?_
  refine g_seq ?_
  refine g_sr ?_
  refine Li Mv ?_
  refine g_ne ?_
  refine g_block ?_
  refine g_sr ?_
  refine Li Cm ?_
  refine Li As ?_
  refine g_ne ?_
  refine g_cond rfl ?_ ?_
  · intro h0
    replace h0 := nrm h0
    subst h0
    refine g_sr ?_
    refine Lp (oT T.ap_39 fun b1 => ?_)
    refine Li As ?_
    refine g_ne ?_
    refine g_ret ?_
    refine e_block_ret ?_
    refine e_then_ret ?_
    refine g_heap (own_lit [1, 6] (by simp)) ?_
    refine Rt [own (some ⟨b1, 0, none⟩) 2 3 1 (icells [1, 6])] Tryd.results67 ?_
    exact .lit [1, 6] (by simp) (.of_all (by decide))
  · intro h0
    replace h0 := nrm h0
    refine g_sr ?_
    refine Li Cm ?_
    refine Li As ?_
    refine g_ne ?_
    refine g_cond rfl ?_ ?_
    · intro h1
      replace h1 := nrm h1
      subst h1
      refine g_sr ?_
      refine Lp (oT T.ap_39 fun b2 => ?_)
      refine Li As ?_
      refine g_ne ?_
      refine g_ret ?_
      refine e_block_ret ?_
      refine e_then_ret ?_
      refine g_heap (own_lit [1, 7] (by simp)) ?_
      refine Rt [own (some ⟨b2, 0, none⟩) 2 3 1 (icells [1, 7])] Tryd.results67 ?_
      exact .lit [1, 7] (by simp) (.of_all (by decide))
    · intro h1
      replace h1 := nrm h1
      refine g_sr ?_
      refine Li Cm ?_
      refine Li As ?_
      refine g_ne ?_
      refine g_cond rfl ?_ ?_
      · intro h2
        replace h2 := nrm h2
        subst h2
        refine g_sr ?_
        refine Lp (oT T.ap_39 fun b3 => ?_)
        refine Li As ?_
        refine g_ne ?_
        refine g_ret ?_
        refine e_block_ret ?_
        refine e_then_ret ?_
        refine g_heap (own_lit [1, 7, 8] (by simp)) ?_
        refine Rt [own (some ⟨b3, 0, none⟩) 3 3 1 (icells [1, 7, 8])] Tryd.results67 ?_
        exact .lit [1, 7, 8] (by simp) (.of_all (by decide))
      · intro h2
        replace h2 := nrm h2
        refine g_sr ?_
        refine Li Cm ?_
        refine Li As ?_
        refine g_ne ?_
        refine g_cond rfl ?_ ?_
        · intro h3
          replace h3 := nrm h3
          subst h3
          refine g_sr ?_
          refine Lp (oT T.ap_39 fun b4 => ?_)
          refine Li As ?_
          refine g_ne ?_
          refine g_ret ?_
          refine e_block_ret ?_
          refine e_then_ret ?_
          refine g_heap (own_lit [1, 7, 9] (by simp)) ?_
          refine Rt [own (some ⟨b4, 0, none⟩) 3 3 1 (icells [1, 7, 9])] Tryd.results67 ?_
          exact .lit [1, 7, 9] (by simp) (.of_all (by decide))
        · intro h3
          replace h3 := nrm h3
          refine g_nilrow 3 1 ?_
          refine g_skip ?_
          refine e_block ?_
          refine e_then ?_
          refine g_sr ?_
          refine Li As ?_
          refine g_ne ?_
          refine g_ret ?_
          refine Rt [own none 0 3 1 []] Tryd.results67 ?_
          refine RL.nil ?_
          have : keyL w = [] := by
            unfold keyL
            rw [toldL_no _ _ _ (by unfold isK; rw [Bool.eq_false_iff]; intro q; simp at q; omega), if_neg h2, if_neg h3]; rfl
          rw [this]; exact .refl _
theorem asTouch_fn (w : Int) : FnS Tryd.prog 70 [.int .i64 w] (fun _ => True) [] (RL 2 (toldL w 3 19 20)) := by
  refine fn_body Tryd.func70 rfl Tryd.ntmps70 rfl ?_
  intro F hF
  refine g_sr ?_
  refine Li As ?_
  refine g_ne ?_
  refine g_seq ?_
  refine g_sr ?_
  refine Li Mv ?_
  refine Li Cm ?_
  refine g_ne ?_
  refine g_cond rfl ?_ ?_
  · intro h0
    replace h0 := nrm h0
    subst h0
    refine g_sr ?_
    refine Lp (oT T.ap_39 fun b1 => ?_)
    refine Li As ?_
    refine g_ne ?_
    refine g_ret ?_
    refine e_then_ret ?_
    refine g_heap (own_lit [3, 19] (by simp)) ?_
    refine Rt [own (some ⟨b1, 0, none⟩) 2 3 1 (icells [3, 19])] Tryd.results70 ?_
    exact .lit [3, 19] (by simp) (.of_all (by decide))
  · intro h0
    replace h0 := nrm h0
    refine g_skip ?_
    refine e_then ?_
    refine g_seq ?_
    refine g_seq ?_
    refine g_mid (ι := Unit) [6, 7, 8, 9, 10, 11] (fun u => True) (fun u => [(11, .bool (decide (1 ≤ w) && decide (w ≤ 3)))]) (fun u => []) ?_ ?_
    · refine g_region ?_
      refine Li Mv ?_
      refine Li Cm ?_
      refine Li Mv ?_
      refine g_split (t := 8) rfl ?_ ?_
      · intro hb0
        replace hb0 := nrm hb0
        refine Li Mv ?_
        refine Li Cm ?_
        refine Li Pt ?_
        refine g_nil ?_
        refine Me (()) (trivial)
      · intro hb0
        replace hb0 := nrm hb0
        refine Lx ?_
        refine Lx ?_
        refine Li Pf ?_
        refine g_nil ?_
        refine Me (()) (trivial)
    rintro u hI
    refine g_cond rfl ?_ ?_
    · intro h1
      replace h1 := nrm h1
      refine g_sr ?_
      refine Lp (oT T.ap_39 fun b2 => ?_)
      refine Li As ?_
      refine g_ne ?_
      refine g_ret ?_
      refine e_then_ret ?_
      refine g_heap (own_lit [3, 20] (by simp)) ?_
      refine Rt [own (some ⟨b2, 0, none⟩) 2 3 1 (icells [3, 20])] Tryd.results70 ?_
      refine .lit [3, 20] (by simp) ?_
      unfold toldL
      rw [if_neg h0, if_pos (by omega)]; exact .refl _
    · intro h1
      replace h1 := nrm h1
      refine g_nilrow 3 1 ?_
      refine g_skip ?_
      refine e_then ?_
      refine g_sr ?_
      refine Li As ?_
      refine g_ne ?_
      refine g_ret ?_
      refine Rt [own none 0 3 1 []] Tryd.results70 ?_
      refine RL.nil ?_
      unfold toldL
      rw [if_neg h0, if_neg (by omega)]; exact .refl _
theorem either_fn (kind good hit miss : Int) : FnS Tryd.prog 71 [.int .i64 kind, .int .i64 good, .int .i64 hit, .int .i64 miss] (fun _ => True) [] (RL 1 [lkI [(good, hit), (4, miss)] kind]) := by
  refine fn_body Tryd.func71 rfl Tryd.ntmps71 rfl ?_
  intro F hF
  refine g_sr ?_
  refine Li As ?_
  refine g_ne ?_
  refine g_seq ?_
  refine g_sr ?_
  refine Li Mv ?_
  refine Li Mv ?_
  refine Li Cm ?_
  refine g_ne ?_
  refine g_cond rfl ?_ ?_
  · intro h0
    replace h0 := nrm h0
    have e : lkI [(good, hit), (4, miss)] kind = hit := by simp only [lkI]; rw [if_pos h0.symm]
    rw [e]
    refine g_sr ?_
    refine Li Mv ?_
    refine Lp (oT T.ap_39 fun b1 => ?_)
    refine Li As ?_
    refine g_ne ?_
    refine g_ret ?_
    refine e_then_ret ?_
    refine g_heap (own_lit [hit] (by simp)) ?_
    refine Rt [own (some ⟨b1, 0, none⟩) 1 3 1 (icells [hit])] Tryd.results71 ?_
    exact .lit [hit] (by simp) (.refl _)
  · intro h0
    replace h0 := nrm h0
    refine g_skip ?_
    refine e_then ?_
    refine g_seq ?_
    refine g_sr ?_
    refine Li Mv ?_
    refine Li Cm ?_
    refine g_ne ?_
    refine g_cond rfl ?_ ?_
    · intro h1
      replace h1 := nrm h1
      have e : lkI [(good, hit), (4, miss)] kind = miss := by simp only [lkI]; rw [if_neg (fun q => h0 q.symm), if_pos h1.symm]
      rw [e]
      refine g_sr ?_
      refine Li Mv ?_
      refine Lp (oT T.ap_39 fun b2 => ?_)
      refine Li As ?_
      refine g_ne ?_
      refine g_ret ?_
      refine e_then_ret ?_
      refine g_heap (own_lit [miss] (by simp)) ?_
      refine Rt [own (some ⟨b2, 0, none⟩) 1 3 1 (icells [miss])] Tryd.results71 ?_
      exact .lit [miss] (by simp) (.refl _)
    · intro h1
      replace h1 := nrm h1
      have e : lkI [(good, hit), (4, miss)] kind = 0 := by simp only [lkI]; rw [if_neg (fun q => h0 q.symm), if_neg (fun q => h1 q.symm)]
      rw [e]
      refine g_nilrow 3 1 ?_
      refine g_skip ?_
      refine e_then ?_
      refine g_sr ?_
      refine Li As ?_
      refine g_ne ?_
      refine g_ret ?_
      refine Rt [own none 0 3 1 []] Tryd.results71 ?_
      exact RL.nil (.of_all (by decide))
theorem zero_cons (L : List Int) : EqN L (0 :: L) := fun j => by
  have : onesE (0 :: L) = onesE [0] ++ onesE L := rfl
  rw [this, tot_append, tot_ones [0]]
  by_cases h : 1 ≤ j ∧ j < 32
  · rw [if_pos h, List.count_cons, List.count_nil, if_neg (by simp; omega)]; omega
  · rw [if_neg h]; omega
theorem by_fn (why : List Int) (a : Option Addr) (m c : Nat) (hm : m = why.length) (barred : Bool) (hit miss : Int) : FnS Tryd.prog 69 [.slice a m c, .bool barred, .int .i64 hit, .int .i64 miss] (fun h => Rdl h a (icells why)) [] (RL 1 (chL (whyM why) barred hit miss)) := by
  subst hm
  refine fn_body Tryd.func69 rfl Tryd.ntmps69 rfl ?_
  intro F hF
  refine g_sr ?_
  refine Li As ?_
  refine g_ne ?_
  refine g_seq ?_
  refine g_sr ?_
  refine Li Mv ?_
  refine Li (Ln T.sl_39) ?_
  refine Li Cm ?_
  refine g_ne ?_
  refine g_cond rfl ?_ ?_
  · intro h0
    replace h0 := nrm h0
    obtain rfl : why = [] := List.eq_nil_of_length_eq_zero (by omega)
    refine g_nilrow 3 1 ?_
    refine g_sr ?_
    refine Li As ?_
    refine g_ne ?_
    refine g_ret ?_
    refine e_then_ret ?_
    refine Rt [own none 0 3 1 []] Tryd.results69 ?_
    refine RL.nil ?_
    unfold chL
    rw [if_neg (by simp [whyM]), toldL_no _ _ _ (by decide)]; exact .refl _
  · intro h0
    replace h0 := nrm h0
    obtain ⟨w, r, rfl⟩ : ∃ w r, why = w :: r := List.exists_cons_of_length_pos (by omega)
    have k1 : (icells (w :: r))[0]? = some (.int .i64 w) := rfl
    have a0 : a.isSome = true := hF.some (by simp [icells])
    rw [show whyM (w :: r) = w from rfl]
    refine g_skip ?_
    refine e_then ?_
    refine g_seq ?_
    refine g_seq ?_
    refine g_mid (ι := Unit) [12, 13, 14, 15, 16, 17, 18, 19] (fun u => True) (fun u => [(19, .bool (decide (w = 0) && !barred))]) (fun u => []) ?_ ?_
    · refine g_region ?_
      refine Li Mv ?_
      refine Li (Ix (j := 0) T.sl_39) ?_
      refine Lp (oL T.sc_3 ?_)
      refine Li Cm ?_
      refine Li Mv ?_
      refine g_split (t := 16) rfl ?_ ?_
      · intro hb0
        replace hb0 := nrm hb0
        refine Li Mv ?_
        refine Li Nt ?_
        refine Li Pt ?_
        refine g_nil ?_
        refine Me (()) (trivial)
      · intro hb0
        replace hb0 := nrm hb0
        refine Lx ?_
        refine Lx ?_
        refine Li Pf ?_
        refine g_nil ?_
        refine Me (()) (trivial)
    rintro u hI
    refine g_cond rfl ?_ ?_
    · intro h1
      replace h1 := nrm h1
      refine g_sr ?_
      refine Li Mv ?_
      refine Lp (oT T.ap_39 fun b1 => ?_)
      refine Li As ?_
      refine g_ne ?_
      refine g_ret ?_
      refine e_then_ret ?_
      refine g_heap (own_lit [hit] (by simp)) ?_
      refine Rt [own (some ⟨b1, 0, none⟩) 1 3 1 (icells [hit])] Tryd.results69 ?_
      refine .lit [hit] (by simp) ?_
      unfold chL toldL
      rw [if_neg (by rintro ⟨q1, q2⟩; rw [q2] at h1; simp at h1), if_pos (by first | exact h1.1 | (simp at h1; exact h1.1))]
      exact zero_cons [hit]
    · intro h1
      replace h1 := nrm h1
      refine g_skip ?_
      refine e_then ?_
      refine g_seq ?_
      refine g_seq ?_
      refine g_mid (ι := Unit) [22, 23, 24, 25, 26, 27, 28, 29, 30, 31] (fun u => True) (fun u => [(31, .bool (decide (1 ≤ w) && decide (w ≤ 3)))]) (fun u => []) ?_ ?_
      · refine g_region ?_
        refine Li Mv ?_
        refine Li (Ix (j := 0) T.sl_39) ?_
        refine Lp (oL T.sc_3 ?_)
        refine Li Cm ?_
        refine Li Mv ?_
        refine g_split (t := 26) rfl ?_ ?_
        · intro hb0
          replace hb0 := nrm hb0
          refine Li Mv ?_
          refine Li (Ix (j := 0) T.sl_39) ?_
          refine Lp (oL T.sc_3 ?_)
          refine Li Cm ?_
          refine Li Pt ?_
          refine g_nil ?_
          refine Me (()) (trivial)
        · intro hb0
          replace hb0 := nrm hb0
          refine Lx ?_
          refine Lx ?_
          refine Lx ?_
          refine Lx ?_
          refine Li Pf ?_
          refine g_nil ?_
          refine Me (()) (trivial)
      rintro u hI
      refine g_cond rfl ?_ ?_
      · intro h2
        replace h2 := nrm h2
        refine g_sr ?_
        refine Li Mv ?_
        refine Lp (oT T.ap_39 fun b2 => ?_)
        refine Li As ?_
        refine g_ne ?_
        refine g_ret ?_
        refine e_then_ret ?_
        refine g_heap (own_lit [miss] (by simp)) ?_
        refine Rt [own (some ⟨b2, 0, none⟩) 1 3 1 (icells [miss])] Tryd.results69 ?_
        refine .lit [miss] (by simp) ?_
        unfold chL toldL
        rw [if_neg (by omega), if_neg (by omega), if_pos (by omega)]
        exact zero_cons [miss]
      · intro h2
        replace h2 := nrm h2
        refine g_nilrow 3 1 ?_
        refine g_skip ?_
        refine e_then ?_
        refine g_sr ?_
        refine Li As ?_
        refine g_ne ?_
        refine g_ret ?_
        refine Rt [own none 0 3 1 []] Tryd.results69 ?_
        refine RL.nil ?_
        unfold chL
        by_cases hw : w = 0
        · rw [if_pos ⟨hw, by subst hw; revert h1; cases barred <;> simp⟩]; exact .refl _
        · rw [if_neg (fun q => hw q.1), toldL_no _ _ _ (by unfold isK; rw [Bool.eq_false_iff]; intro q; simp at q; omega)]; exact .refl _
theorem has_fn (fl : List Flg) (a : Option Addr) (m c : Nat) (hm : m = fl.length) (hb : fl.length ≤ 9223372036854775807) (k : Nat) :
    FnS Tryd.prog 68 [.slice a m c, .int .u8 (k : Int)] (fun h => Rdl h a (flsC fl)) [] (fun v H => v = .tuple #[strv (argM fl k).1, .bool (argM fl k).2] ∧ H = []) := by
  subst hm
  refine fn_body Tryd.func68 rfl Tryd.ntmps68 rfl ?_
  intro F hF
  refine g_sr ?_
  refine Li As ?_
  refine Li As ?_
  refine g_ne ?_
  refine g_seq ?_
  refine g_sr ?_
  refine Li As ?_
  refine g_ne ?_
  refine g_block ?_
  refine Lo (ι := Nat) [7, 8, 9, 10, 13, 14, 15, 16, 17, 18, 19, 20, 21, 22, 23, 24, 4, 5, 11, 12, 6] (fun i => i ≤ fl.length ∧ argM (fl.drop i) k = argM fl k) (fun i => [(6, .int .i64 (i : Int))]) (fun i => []) (fun i => fl.length - i) (0) ⟨Nat.zero_le _, rfl⟩ ?_
  rintro i ⟨hi, he⟩
  refine g_seq ?_
  refine g_sr ?_
  refine Li Mv ?_
  refine Li Mv ?_
  refine Li (Ln T.sl_32) ?_
  refine Li Cm ?_
  refine g_ne ?_
  refine g_cond rfl ?_ ?_
  · intro h1
    replace h1 := nrm h1
    obtain ⟨x, e1⟩ : ∃ x, fl[i]? = some x := ⟨_, List.getElem?_eq_getElem (show i < fl.length by omega)⟩
    obtain ⟨xl, xa, xh⟩ := x
    have hq : flC ⟨xl, xa, xh⟩ = [.int .u8 (xl : Int), strv xa, .bool xh] := rfl
    have k1 := flat_at flC 3 (fun _ => rfl) fl i _ e1 0 (by omega)
    have k2 := flat_at flC 3 (fun _ => rfl) fl i _ e1 1 (by omega)
    have q1 : (flsC fl)[i * 3 + 0]? = some (.int .u8 (xl : Int)) := k1
    have q2 : (flsC fl)[i * 3 + 1]? = some (strv xa) := k2
    have hl := flsC_len fl
    have a0 : a.isSome = true := hF.some (by omega)
    have e2 := argM_drop fl i k _ e1
    rw [he] at e2
    refine g_skip ?_
    refine e_then ?_
    refine g_seq ?_
    refine g_block ?_
    refine g_sr ?_
    refine Li Mv ?_
    refine Li Mv ?_
    refine Li (Ix T.sl_32) ?_
    refine Li (Fam T.fld_63_0) ?_
    refine Lp (oL T.sc_5 ?_)
    refine Li Mv ?_
    refine Li Cm ?_
    refine g_ne ?_
    refine g_cond rfl ?_ ?_
    · intro h2
      replace h2 := nrm h2
      rw [if_pos (by dsimp only; omega)] at e2
      refine g_sr ?_
      refine Li Mv ?_
      refine Li Mv ?_
      refine Li (Ix T.sl_32) ?_
      refine Li (Fam T.fld_63_1) ?_
      refine Lp (oL T.sc_9 ?_)
      refine Li As ?_
      refine Li As ?_
      refine g_ne ?_
      refine g_ret ?_
      refine e_block_ret ?_
      refine e_then_ret ?_
      refine e_then_ret ?_
      refine e_block_ret ?_
      refine e_then_ret ?_
      refine Rt2 [] Tryd.results68 ?_
      rw [e2]
      exact ⟨rfl, rfl⟩
    · intro h2
      replace h2 := nrm h2
      rw [if_neg (by dsimp only; omega)] at e2
      refine g_skip ?_
      refine e_block ?_
      refine e_then ?_
      refine g_region ?_
      refine Li Mv ?_
      refine Li Im ?_
      refine Li As ?_
      refine g_nil ?_
      refine Ro (i + 1) (⟨by omega, e2.symm⟩) (by omega)
  · intro h1
    replace h1 := nrm h1
    refine g_exit ?_
    refine e_then_exit ?_
    refine e_then_exit ?_
    refine e_block_hit ?_
    refine e_then ?_
    refine g_sr ?_
    refine Li As ?_
    refine Li As ?_
    refine g_ne ?_
    refine g_ret ?_
    refine Rt2 [] Tryd.results68 ?_
    rw [List.drop_of_length_le (by omega)] at he
    rw [← he]
    exact ⟨rfl, rfl⟩
end Go.Proofs.YtdmepoiijgejhaaDoor

