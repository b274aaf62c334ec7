/- Counts: one number more; some names' numbers. -/
import Derived.Test.YtdmepoiijgejhaaDoorK1
set_option maxRecDepth 100000
namespace Go.Proofs.YtdmepoiijgejhaaDoor
open Go Go.Eng

def bdC (s : Int) (l : List Nat) : List Value := .int .i32 s :: .int .u32 0 :: l.map fun n : Nat => .int .u64 (n : Int)
theorem bdC_at (s : Int) (l : List Nat) (j : Nat) (h : j < l.length) : (bdC s l)[2 + j]? = some (.int .u64 ((l.getD j 0 : Nat) : Int)) := by
  simp [bdC, Nat.add_comm 2 j, h]
theorem bdC_set (s : Int) (l : List Nat) (j n : Nat) : (bdC s l).set (2 + j) (.int .u64 (n : Int)) = bdC s (l.set j n) := by
  simp [bdC, Nat.add_comm 2 j, List.map_set]
theorem bdC_len (s : Int) (l : List Nat) : (bdC s l).length = l.length + 2 := by simp [bdC]
def maxN : Nat := 18446744073709551615
/-- a number more -/
def addM (l : List Nat) (z : Int) (n : Nat) : List Nat := if 1 ≤ z ∧ z < 32 then l.set z.toNat (min (l.getD z.toNat 0 + n) maxN) else l
/-- a board that may be -/
structure Brd (l : List Nat) : Prop where
  len : l.length = 32
  top : ∀ j, l.getD j 0 ≤ maxN
theorem getD_set (l : List Nat) (i j n : Nat) : (l.set i n).getD j 0 = if i = j ∧ i < l.length then n else l.getD j 0 := by
  simp only [List.getD_eq_getElem?_getD, List.getElem?_set]
  by_cases h : i = j
  · subst h
    by_cases h2 : i < l.length
    · simp [h2]
    · simp [h2]
  · simp [h]
theorem Brd.set {l : List Nat} (b : Brd l) (j n : Nat) (h : n ≤ maxN) : Brd (l.set j n) := ⟨by simp [b.len], fun i => by
  rw [getD_set]; split
  · exact h
  · exact b.top i⟩
theorem Brd.add {l : List Nat} (b : Brd l) (z : Int) (n : Nat) : Brd (addM l z n) := by
  unfold addM; split
  · exact b.set _ _ (Nat.min_le_right _ _)
  · exact b

theorem add_fn (b : Nat) (e : TypeId) (s : Int) (l : List Nat) (bd : Brd l) (z : Int) (n : Nat) (hn : n ≤ maxN) :
    FnS Tryd.prog 55 [.pointer (some ⟨b, 0, none⟩), .int .i64 z, .int .u64 (n : Int)] (fun _ => True) [pts b e (bdC s l)] (fun v H => v = .tuple #[] ∧ H = [pts b e (bdC s (addM l z n))]) := by
  have hlen := bd.len
  unfold maxN at hn
  refine fn_body Tryd.func55 rfl Tryd.ntmps55 rfl ?_
  intro F hF
  refine g_seq ?_
  refine g_seq ?_
  refine g_mid (ι := Unit) [6, 7, 8, 9, 10, 11] (fun u => True) (fun u => [(11, .bool (decide (z < 1) || decide (32 ≤ z)))]) (fun u => [pts b e (bdC s l)]) ?_ ?_
  · refine g_region ?_
    refine Li Mv ?_
    refine Li Cm ?_
    refine Li Mv ?_
    refine g_split (t := 8) rfl ?_ ?_
    · intro hb0
      replace hb0 := nrm hb0
      refine Lx ?_
      refine Lx ?_
      refine Li Pt ?_
      refine g_nil ?_
      refine Me (()) (trivial)
    · intro hb0
      replace hb0 := nrm hb0
      refine Li Mv ?_
      refine Li Cm ?_
      refine Li Pf ?_
      refine g_nil ?_
      refine Me (()) (trivial)
  rintro u hI
  refine g_cond rfl ?_ ?_
  · intro hz
    replace hz := nrm hz
    refine g_ret ?_
    refine e_then_ret ?_
    refine Rt0 [pts b e (bdC s l)] Tryd.results55 ?_
    refine ⟨rfl, ?_⟩
    unfold addM
    rw [if_neg (by omega)]
  · intro hz
    replace hz := nrm hz
    obtain ⟨j, rfl⟩ : ∃ j : Nat, z = (j : Int) := ⟨z.toNat, by omega⟩
    have hj : j < l.length := by omega
    have hat := bdC_at s l j hj
    have htop := bd.top j
    unfold maxN at htop
    generalize hv : l.getD j 0 = v at hat htop
    refine g_skip ?_
    refine e_then ?_
    refine g_seq ?_
    refine g_sr ?_
    refine Li Mv ?_
    refine Li Mv ?_
    refine Li Mv ?_
    refine Li Nc ?_
    refine Li (Fa T.fld_89_1) ?_
    refine Li (Ia T.ar_87) ?_
    refine Lp (oL T.sc_30 ?_)
    refine Li Im ?_
    refine Li Cm ?_
    refine g_ne ?_
    refine g_mid (ι := Nat) [21, 22, 23, 24, 25, 26, 27, 2] (fun n1 => n1 = min n (18446744073709551615 - v)) (fun n1 => [(2, .int .u64 (n1 : Int))]) (fun n1 => [pts b e (bdC s l)]) ?_ ?_
    · refine g_cond rfl ?_ ?_
      · intro h1
        replace h1 := nrm h1
        refine g_region ?_
        refine Li Mv ?_
        refine Li Mv ?_
        refine Li Nc ?_
        refine Li (Fa T.fld_89_1) ?_
        refine Li (Ia T.ar_87) ?_
        refine Lp (oL T.sc_30 ?_)
        refine Li Im ?_
        refine Li As ?_
        refine g_nil ?_
        refine g_slot (t := 2) (v' := .int .u64 ((18446744073709551615 - v : Nat) : Int)) rfl (by refine congrArg (Value.int .u64) ?_; omega) ?_
        refine Me (18446744073709551615 - v) ((by omega))
      · intro h1
        replace h1 := nrm h1
        refine g_skip ?_
        refine Me (n) ((by omega))
    rintro n1 hn1
    have e1 : (bdC s l).set (0 + 2 + j) (.int .u64 ((v : Int) + (n1 : Int))) = bdC s (addM l j n) := by
      rw [show 0 + 2 + j = 2 + j from by omega, show (v : Int) + (n1 : Int) = ((v + n1 : Nat) : Int) from by omega, bdC_set]
      unfold addM maxN
      rw [if_pos (by omega), Int.toNat_natCast, hv]
      congr 2
      omega
    have hcl := bdC_len s l
    refine g_drw T.mix .nil fun F1 le1 hin1 back1 => ?_
    refine Dt 0 rfl Mv ?_
    refine Dt 1 rfl Mv ?_
    refine Dt 2 rfl Nc ?_
    refine Dt 3 rfl (Fa T.fld_89_1) ?_
    refine Dt 4 rfl (Ia T.ar_87) ?_
    refine Dt 6 rfl Mv ?_
    refine Dt 8 rfl Nc ?_
    refine Dt 9 rfl (Fa T.fld_89_1) ?_
    refine Dn 5 ?_
    refine Do rfl (oL T.sc_30 ?_)
    refine gh_next ?_
    refine Dt 7 rfl Im ?_
    refine Dt 10 rfl (Ia T.ar_87) ?_
    refine Dn 11 ?_
    refine Do rfl (oS T.sc_30 ?_)
    refine gh_next ?_
    refine gh_done (by kernel_rfl) back1 ?_
    rw [e1]
    refine Rn0 [pts b e (bdC s (addM l j n))] Tryd.results55 ?_
    exact ⟨rfl, rfl⟩

theorem new_fn : FnS Tryd.prog 11 [] (fun _ => True) [] (fun v H => ∃ b, v = .pointer (some ⟨b, 0, none⟩) ∧ H = [pts b 89 (bdC 0 (List.replicate 32 0))]) := by
  refine fn_body Tryd.func11 rfl Tryd.ntmps11 rfl ?_
  intro F hF
  refine g_sr ?_
  refine Li As ?_
  refine g_ne ?_
  refine g_sr ?_
  refine Li (Bd T.zc_89 T.st_89) ?_
  refine Lp (oB fun b1 => ?_)
  refine Li As ?_
  refine g_ne ?_
  refine g_ret ?_
  refine Rt [pts b1 89 (bdC 0 (List.replicate 32 0))] Tryd.results11 ?_
  exact ⟨b1, rfl, rfl⟩
theorem bd_zero : Brd (List.replicate 32 0) := ⟨rfl, fun j => by
  rw [List.getD_eq_getElem?_getD, List.getElem?_replicate]; split <;> simp⟩

def icells (l : List Int) : List Value := l.map fun n => .int .i64 n
/-- each of these names has one more -/
def onesM (l : List Nat) (names : List Int) : List Nat := names.foldl (fun l z => addM l z 1) l
theorem Brd.ones {l : List Nat} (b : Brd l) (names : List Int) : Brd (onesM l names) := by
  induction names generalizing l with
  | nil => exact b
  | cons z r ih => exact ih (b.add z 1)
theorem onesM_snoc (l : List Nat) (r : List Int) (z : Int) : onesM l (r ++ [z]) = addM (onesM l r) z 1 := by simp [onesM]
theorem one_fn (b : Nat) (e : TypeId) (s : Int) (l : List Nat) (bd : Brd l) (names : List Int) (a : Option Addr) (m c : Nat) (hm : m = names.length) (hl : names.length ≤ 1000000) :
    FnS Tryd.prog 36 [.pointer (some ⟨b, 0, none⟩), .slice a m c] (fun h => Rdl h a (icells names)) [pts b e (bdC s l)] (fun v H => v = .tuple #[] ∧ H = [pts b e (bdC s (onesM l names))]) := by
  subst hm
  refine fn_body Tryd.func36 rfl Tryd.ntmps36 rfl ?_
  intro F hF
  refine g_sr ?_
  refine Li Mv ?_
  refine Li (Ln T.sl_39) ?_
  refine Li Mv ?_
  refine g_ne ?_
  refine g_block ?_
  refine Lo (ι := Nat) [9, 10, 11, 5, 12, 13, 14, 15, 8] (fun i => i ≤ names.length) (fun i => [(8, .int .i64 (i : Int))]) (fun i => [pts b e (bdC s (onesM l (names.take i)))]) (fun i => names.length - i) (0) (Nat.zero_le _) ?_
  rintro i hi
  refine g_sr ?_
  refine Li Cm ?_
  refine g_ne ?_
  refine g_seq ?_
  refine g_cond rfl ?_ ?_
  · intro h1
    replace h1 := nrm h1
    obtain ⟨z, e1⟩ : ∃ z, names[i]? = some z := ⟨_, List.getElem?_eq_getElem (show i < names.length by omega)⟩
    have k1 : (icells names)[i]? = some (.int .i64 z) := by simp [icells, e1]
    have a0 : a.isSome = true := hF.some (by simp [icells]; omega)
    have bi := bd.ones (names.take i)
    have hs : onesM l (names.take (i + 1)) = addM (onesM l (names.take i)) z 1 := by rw [List.take_add_one, e1]; exact onesM_snoc _ _ _
    refine g_skip ?_
    refine e_then ?_
    refine g_seq ?_
    refine g_block ?_
    refine g_sr ?_
    refine Li (Ix T.sl_39) ?_
    refine Lp (oL T.sc_3 ?_)
    refine Li As ?_
    refine g_ne ?_
    refine g_region ?_
    refine Li Mv ?_
    refine Li Mv ?_
    refine Lp (oC T.fn_55 rfl rfl (add_fn b e s (onesM l (names.take i)) bi z 1 (by unfold maxN; omega)) (.cons .here .nil) (fun _ _ _ => trivial) ?_)
    rintro v H' ⟨rfl, rfl⟩
    try simp only [nap, cap]
    rw [← hs]
    refine g_nil ?_
    refine e_block ?_
    refine e_then ?_
    refine g_region ?_
    refine Li Im ?_
    refine Li Mv ?_
    refine g_nil ?_
    refine Ro (i + 1) ((by omega)) (by omega)
  · intro h1
    replace h1 := nrm h1
    have e1 : names.take i = names := List.take_of_length_le (by omega)
    rw [e1]
    refine g_exit ?_
    refine e_then_exit ?_
    refine e_then_exit ?_
    refine e_block_hit ?_
    refine Rn0 [pts b e (bdC s (onesM l names))] Tryd.results36 ?_
    exact ⟨rfl, rfl⟩
theorem work_fn (b : Nat) (e : TypeId) (s : Int) (l : List Nat) (bd : Brd l) (z n : Int) (h1 : -9223372036854775808 ≤ n) (h2 : n ≤ 9223372036854775807) :
    FnS Tryd.prog 35 [.pointer (some ⟨b, 0, none⟩), .int .i64 z, .int .i64 n] (fun _ => True) [pts b e (bdC s l)] (fun v H => v = .tuple #[] ∧ H = [pts b e (bdC s (addM l z n.toNat))]) := by
  refine fn_body Tryd.func35 rfl Tryd.ntmps35 rfl ?_
  intro F hF
  refine g_sr ?_
  refine Li Mv ?_
  refine Li Cm ?_
  refine g_ne ?_
  refine g_cond rfl ?_ ?_
  · intro hp
    replace hp := nrm hp
    obtain ⟨k, rfl⟩ : ∃ k : Nat, n = (k : Int) := ⟨n.toNat, by omega⟩
    refine g_region ?_
    refine Li Mv ?_
    refine Li Mv ?_
    refine Li Mv ?_
    refine Li (Cv T.u_30 T.us_3) ?_
    refine Lp (oC T.fn_55 rfl rfl (add_fn b e s l bd z k (by unfold maxN; omega)) (.cons .here .nil) (fun _ _ _ => trivial) ?_)
    rintro v H' ⟨rfl, rfl⟩
    try simp only [nap, cap]
    refine g_nil ?_
    refine Rn0 [pts b e (bdC s (addM l z k))] Tryd.results35 ?_
    exact ⟨rfl, rfl⟩
  · intro hp
    replace hp := nrm hp
    refine g_skip ?_
    refine Rn0 [pts b e (bdC s l)] Tryd.results35 ?_
    refine ⟨rfl, ?_⟩
    have : addM l z n.toNat = l := by
      rw [show n.toNat = 0 from by omega]
      unfold addM
      split
      · rw [Nat.add_zero, Nat.min_eq_left (bd.top _)]
        apply List.ext_getElem
        · simp
        · intro i h1 h2
          rw [List.getElem_set]
          split
          · rename_i he; subst he; simp [List.getD_eq_getElem?_getD, h2]
          · rfl
      · rfl
    rw [this]
/-- a key's why -/
def toldL (w all hit miss : Int) : List Int := if w = 0 then [all, hit] else if 0 < w ∧ w ≤ 3 then [all, miss] else []
theorem told_fn (b : Nat) (e : TypeId) (s : Int) (l : List Nat) (bd : Brd l) (w all hit miss : Int) :
    FnS Tryd.prog 38 [.pointer (some ⟨b, 0, none⟩), .int .i64 w, .int .i64 all, .int .i64 hit, .int .i64 miss] (fun _ => True) [pts b e (bdC s l)] (fun v H => v = .tuple #[] ∧ H = [pts b e (bdC s (onesM l (toldL w all hit miss)))]) := by
  refine fn_body Tryd.func38 rfl Tryd.ntmps38 rfl ?_
  intro F hF
  unfold toldL
  refine g_block ?_
  refine g_sr ?_
  refine Li Mv ?_
  refine Li Cm ?_
  refine Li As ?_
  refine g_ne ?_
  refine g_cond rfl ?_ ?_
  · intro h0
    replace h0 := nrm h0
    subst h0
    refine g_region ?_
    refine Li Mv ?_
    refine Li Mv ?_
    refine Li Mv ?_
    refine Lp (oT T.ap_39 fun b1 => ?_)
    refine Lp (oC T.fn_36 rfl rfl (one_fn b e s l bd [all, hit] (some ⟨b1, 0, none⟩) 2 2 rfl (by simp)) (.cons (.there .here) .nil) (fun _ _ hin => pts_in (hin.nth 0 rfl)) ?_)
    rintro v H' ⟨rfl, rfl⟩
    try simp only [nap, cap]
    refine g_nil ?_
    refine e_block ?_
    refine Rn0 [pts b e (bdC s (onesM l [all, hit]))] Tryd.results38 ?_
    exact ⟨rfl, rfl⟩
  · intro h0
    replace h0 := nrm h0
    refine g_sr ?_
    refine Li Mv ?_
    refine Li Cm ?_
    refine Li Mv ?_
    refine g_split (t := 21) rfl ?_ ?_
    · intro h1
      replace h1 := nrm h1
      refine Li Mv ?_
      refine Li Cm ?_
      refine Li Pt ?_
      refine Li As ?_
      refine g_ne ?_
      refine g_cond rfl ?_ ?_
      · intro h2
        replace h2 := nrm h2
        refine g_region ?_
        refine Li Mv ?_
        refine Li Mv ?_
        refine Li Mv ?_
        refine Lp (oT T.ap_39 fun b2 => ?_)
        refine Lp (oC T.fn_36 rfl rfl (one_fn b e s l bd [all, miss] (some ⟨b2, 0, none⟩) 2 2 rfl (by simp)) (.cons (.there .here) .nil) (fun _ _ hin => pts_in (hin.nth 0 rfl)) ?_)
        rintro v H' ⟨rfl, rfl⟩
        try simp only [nap, cap]
        refine g_nil ?_
        refine e_block ?_
        refine Rn0 [pts b e (bdC s (onesM l [all, miss]))] Tryd.results38 ?_
        refine ⟨rfl, ?_⟩
        rw [if_neg h0, if_pos ⟨h1, h2⟩]
      · intro h2
        replace h2 := nrm h2
        refine g_skip ?_
        refine e_block ?_
        refine Rn0 [pts b e (bdC s l)] Tryd.results38 ?_
        refine ⟨rfl, ?_⟩
        rw [if_neg h0, if_neg (by omega)]
        rfl
    · intro h1
      replace h1 := nrm h1
      refine Lx ?_
      refine Lx ?_
      refine Li Pf ?_
      refine Li As ?_
      refine g_ne ?_
      refine g_cond_f rfl rfl ?_
      refine g_skip ?_
      refine e_block ?_
      refine Rn0 [pts b e (bdC s l)] Tryd.results38 ?_
      refine ⟨rfl, ?_⟩
      rw [if_neg h0, if_neg (by omega)]
      rfl
def keyL (w : Int) : List Int := (if w = 2 then [8] else if w = 3 then [9] else []) ++ toldL w 1 6 7
theorem onesM_append (l : List Nat) (r t : List Int) : onesM l (r ++ t) = onesM (onesM l r) t := by simp [onesM]
theorem key_fn (b : Nat) (e : TypeId) (s : Int) (l : List Nat) (bd : Brd l) (w : Int) :
    FnS Tryd.prog 37 [.pointer (some ⟨b, 0, none⟩), .int .i64 w] (fun _ => True) [pts b e (bdC s l)] (fun v H => v = .tuple #[] ∧ H = [pts b e (bdC s (onesM l (keyL w)))]) := by
  unfold keyL
  refine fn_body Tryd.func37 rfl Tryd.ntmps37 rfl ?_
  intro F hF
  refine g_seq ?_
  refine g_sr ?_
  refine Li Mv ?_
  refine g_ne ?_
  refine g_block ?_
  refine g_sr ?_
  refine Li Cm ?_
  refine Li As ?_
  refine g_ne ?_
  refine g_cond rfl ?_ ?_
  · intro h2
    replace h2 := nrm h2
    subst h2
    refine g_region ?_
    refine Li Mv ?_
    refine Lp (oT T.ap_39 fun b1 => ?_)
    refine Lp (oC T.fn_36 rfl rfl (one_fn b e s l bd [8] (some ⟨b1, 0, none⟩) 1 1 rfl (by simp)) (.cons (.there .here) .nil) (fun _ _ hin => pts_in (hin.nth 0 rfl)) ?_)
    rintro v H' ⟨rfl, rfl⟩
    try simp only [nap, cap]
    refine g_nil ?_
    refine e_block ?_
    refine e_then ?_
    refine g_region ?_
    refine Li Mv ?_
    refine Li Mv ?_
    refine Lp (oC T.fn_38 rfl rfl (told_fn b e s (onesM l [8]) (bd.ones _) 2 1 6 7) (.cons .here .nil) (fun _ _ _ => trivial) ?_)
    rintro v H' ⟨rfl, rfl⟩
    try simp only [nap, cap]
    refine g_nil ?_
    refine Rn0 [pts b e (bdC s (onesM (onesM l [8]) (toldL 2 1 6 7)))] Tryd.results37 ?_
    exact ⟨rfl, by rw [if_pos trivial, onesM_append]⟩
  · intro h2
    replace h2 := nrm h2
    refine g_sr ?_
    refine Li Cm ?_
    refine Li As ?_
    refine g_ne ?_
    refine g_cond rfl ?_ ?_
    · intro h3
      replace h3 := nrm h3
      subst h3
      refine g_region ?_
      refine Li Mv ?_
      refine Lp (oT T.ap_39 fun b2 => ?_)
      refine Lp (oC T.fn_36 rfl rfl (one_fn b e s l bd [9] (some ⟨b2, 0, none⟩) 1 1 rfl (by simp)) (.cons (.there .here) .nil) (fun _ _ hin => pts_in (hin.nth 0 rfl)) ?_)
      rintro v H' ⟨rfl, rfl⟩
      try simp only [nap, cap]
      refine g_nil ?_
      refine e_block ?_
      refine e_then ?_
      refine g_region ?_
      refine Li Mv ?_
      refine Li Mv ?_
      refine Lp (oC T.fn_38 rfl rfl (told_fn b e s (onesM l [9]) (bd.ones _) 3 1 6 7) (.cons .here .nil) (fun _ _ _ => trivial) ?_)
      rintro v H' ⟨rfl, rfl⟩
      try simp only [nap, cap]
      refine g_nil ?_
      refine Rn0 [pts b e (bdC s (onesM (onesM l [9]) (toldL 3 1 6 7)))] Tryd.results37 ?_
      exact ⟨rfl, by rw [if_neg (by decide), if_pos trivial, onesM_append]⟩
    · intro h3
      replace h3 := nrm h3
      refine g_skip ?_
      refine e_block ?_
      refine e_then ?_
      refine g_region ?_
      refine Li Mv ?_
      refine Li Mv ?_
      refine Lp (oC T.fn_38 rfl rfl (told_fn b e s l bd w 1 6 7) (.cons .here .nil) (fun _ _ _ => trivial) ?_)
      rintro v H' ⟨rfl, rfl⟩
      try simp only [nap, cap]
      refine g_nil ?_
      refine Rn0 [pts b e (bdC s (onesM l (toldL w 1 6 7)))] Tryd.results37 ?_
      exact ⟨rfl, by rw [if_neg h2, if_neg h3]; rfl⟩
end Go.Proofs.YtdmepoiijgejhaaDoor

