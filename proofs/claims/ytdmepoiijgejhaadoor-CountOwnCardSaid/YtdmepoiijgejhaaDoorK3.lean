/- Counts: a text verb; a change. -/
import Derived.Test.YtdmepoiijgejhaaDoorK2
import Derived.Test.YtdmepoiijgejhaaDoorEngM
set_option maxRecDepth 100000
namespace Go.Proofs.YtdmepoiijgejhaaDoor
open Go Go.Eng

theorem mt112 : mapT Tryd.prog 112 = some (3, .int .i64, 3, .int .i64 0) := by kernel_rfl
def ies (es : List (Int × Int)) : List (Value × Value) := es.map fun p => (.int .i64 p.1, .int .i64 p.2)
def lkI : List (Int × Int) → Int → Int
  | [], _ => 0
  | (a, b) :: r, z => if a = z then b else lkI r z
theorem lk_ies : ∀ (es : List (Int × Int)) (z : Int), (lk (ies es) (.int .i64 z)).getD (.int .i64 0) = .int .i64 (lkI es z) := by
  intro es
  induction es with
  | nil => intro z; rfl
  | cons p r ih =>
    intro z
    obtain ⟨a, b⟩ := p
    simp only [ies, List.map_cons, lk, lk.sameK, lkI] at ih ⊢
    by_cases h : a = z
    · simp [h]
    · simp only [h, decide_false, if_false]
      exact ih z
theorem outcome_fn (b bm : Nat) (e : TypeId) (s : Int) (l : List Nat) (bd : Brd l) (z : Int) (es : List (Int × Int)) :
    FnS Tryd.prog 65 [.pointer (some ⟨b, 0, none⟩), .int .i64 z, .map (some bm)] (fun _ => True) [pts b e (bdC s l), mp (.int .i64) bm (ies es)] (fun v H => v = .tuple #[] ∧ H = [pts b e (bdC s (onesM l [lkI es z]))]) := by
  refine fn_body Tryd.func65 rfl Tryd.ntmps65 rfl ?_
  intro F hF
  refine g_region ?_
  refine Li Mv ?_
  refine Li Mv ?_
  refine Li Mv ?_
  refine Lp (oMl mt112 ?_)
  rw [lk_ies]
  refine Lp (oT T.ap_39 fun b1 => ?_)
  refine Lp (oC T.fn_36 rfl rfl (one_fn b e s l bd [lkI es z] (some ⟨b1, 0, none⟩) 1 1 rfl (by simp)) (.cons (.there .here) .nil) (fun _ _ hin => pts_in (hin.nth 0 rfl)) ?_)
  rintro v H' ⟨rfl, rfl⟩
  try simp only [nap, cap]
  refine g_nil ?_
  refine Rn0 [pts b e (bdC s (onesM l [lkI es z]))] Tryd.results65 ?_
  exact ⟨rfl, rfl⟩
theorem change_fn (b : Nat) (e : TypeId) (s : Int) (l : List Nat) (bd : Brd l) (w hit miss : Int) (barred : Bool) :
    FnS Tryd.prog 63 [.pointer (some ⟨b, 0, none⟩), .int .i64 w, .bool barred, .int .i64 hit, .int .i64 miss] (fun _ => True) [pts b e (bdC s l)]
      (fun v H => v = .tuple #[] ∧ H = [pts b e (bdC s (onesM l (if w = 0 ∧ barred = true then [] else toldL w 0 hit miss)))]) := by
  refine fn_body Tryd.func63 rfl Tryd.ntmps63 rfl ?_
  intro F hF
  refine g_seq ?_
  refine g_mid (ι := Unit) [10, 11, 12, 13, 14, 15] (fun u => True) (fun u => [(15, .bool (!decide (w = 0) || !barred))]) (fun u => [pts b e (bdC s l)]) ?_ ?_
  · refine g_region ?_
    refine Li Mv ?_
    refine Li Cm ?_
    refine Li Mv ?_
    refine g_split (t := 12) rfl ?_ ?_
    · intro hb0
      replace hb0 := nrm hb0
      refine Lx ?_
      refine Lx ?_
      refine Li Pt ?_
      refine g_nil ?_
      refine Me (()) (trivial)
    · intro hb0
      replace hb0 := nrm hb0
      refine Li Mv ?_
      refine Li Nt ?_
      refine Li Pf ?_
      refine g_nil ?_
      refine Me (()) (trivial)
  rintro u hI
  refine g_cond rfl ?_ ?_
  · intro hc
    replace hc := nrm hc
    refine g_region ?_
    refine Li Mv ?_
    refine Li Mv ?_
    refine Li Mv ?_
    refine Li Mv ?_
    refine Lp (oC T.fn_38 rfl rfl (told_fn b e s l bd w 0 hit miss) (.cons .here .nil) (fun _ _ _ => trivial) ?_)
    rintro v H' ⟨rfl, rfl⟩
    try simp only [nap, cap]
    refine g_nil ?_
    refine Rn0 [pts b e (bdC s (onesM l (toldL w 0 hit miss)))] Tryd.results63 ?_
    refine ⟨rfl, ?_⟩
    rw [if_neg (by rintro ⟨h1, h2⟩; subst h1; rw [h2] at hc; simp at hc)]
  · intro hc
    replace hc := nrm hc
    refine g_skip ?_
    refine Rn0 [pts b e (bdC s l)] Tryd.results63 ?_
    refine ⟨rfl, ?_⟩
    rw [if_pos (by simpa using hc)]; rfl

def textL (verb kind : Int) : List Int :=
  if 5 ≤ verb ∧ verb ≤ 10 then [2] ++ (if kind = 1 then [24] else []) ++ (if verb = 10 then [lkI [(1, 16), (3, 17), (4, 18)] kind] else [])
  else if verb = 11 then [lkI [(5, 10), (4, 11)] kind]
  else if verb = 12 then [lkI [(7, 12), (4, 13)] kind]
  else if verb = 13 then [lkI [(7, 14), (4, 15)] kind]
  else if verb = 14 then [3] ++ [lkI [(6, 19), (4, 20)] kind]
  else if verb = 15 then [4] else []
theorem text_fn (b : Nat) (e : TypeId) (s : Int) (l : List Nat) (bd : Brd l) (verb kind : Int) :
    FnS Tryd.prog 40 [.pointer (some ⟨b, 0, none⟩), .int .i64 verb, .int .i64 kind] (fun _ => True) [pts b e (bdC s l)] (fun v H => v = .tuple #[] ∧ H = [pts b e (bdC s (onesM l (textL verb kind)))]) := by
  refine fn_body Tryd.func40 rfl Tryd.ntmps40 rfl ?_
  intro F hF
  refine g_sr ?_
  refine Li Mv ?_
  refine g_ne ?_
  refine g_block ?_
  refine g_seq ?_
  refine g_sr ?_
  refine Li Cm ?_
  refine Li As ?_
  refine g_ne ?_
  refine g_mid (ι := Unit) [9, 7, 10, 11, 12, 13] (fun u => True) (fun u => [(7, .bool (decide (5 ≤ verb) && decide (verb ≤ 10)))]) (fun u => [pts b e (bdC s l)]) ?_ ?_
  · refine g_cond rfl ?_ ?_
    · intro hb0
      replace hb0 := nrm hb0
      refine g_skip ?_
      refine Me (()) (trivial)
    · intro hb0
      replace hb0 := nrm hb0
      refine g_sr ?_
      refine Li Cm ?_
      refine Li As ?_
      refine g_ne ?_
      refine g_cond rfl ?_ ?_
      · intro hb1
        replace hb1 := nrm hb1
        refine g_skip ?_
        refine Me (()) (trivial)
      · intro hb1
        replace hb1 := nrm hb1
        refine g_sr ?_
        refine Li Cm ?_
        refine Li As ?_
        refine g_ne ?_
        refine g_cond rfl ?_ ?_
        · intro hb2
          replace hb2 := nrm hb2
          refine g_skip ?_
          refine Me (()) (trivial)
        · intro hb2
          replace hb2 := nrm hb2
          refine g_sr ?_
          refine Li Cm ?_
          refine Li As ?_
          refine g_ne ?_
          refine g_cond rfl ?_ ?_
          · intro hb3
            replace hb3 := nrm hb3
            refine g_skip ?_
            refine Me (()) (trivial)
          · intro hb3
            replace hb3 := nrm hb3
            refine g_sr ?_
            refine Li Cm ?_
            refine Li As ?_
            refine g_ne ?_
            refine g_cond rfl ?_ ?_
            · intro hb4
              replace hb4 := nrm hb4
              refine g_skip ?_
              refine Me (()) (trivial)
            · intro hb4
              replace hb4 := nrm hb4
              refine g_region ?_
              refine Li Cm ?_
              refine Li As ?_
              refine g_nil ?_
              refine Me (()) (trivial)
  rintro u hI
  refine g_cond rfl ?_ ?_
  · intro hc
    replace hc := nrm hc
    have hlist : textL verb kind = [2] ++ (if kind = 1 then [24] else []) ++ (if verb = 10 then [lkI [(1, 16), (3, 17), (4, 18)] kind] else []) := by unfold textL; rw [if_pos hc]
    refine g_sr ?_
    refine Li Mv ?_
    refine Lp (oT T.ap_39 fun b1 => ?_)
    refine Lp (oC T.fn_36 rfl rfl (one_fn b e s l bd [2] (some ⟨b1, 0, none⟩) 1 1 rfl (by simp)) (.cons (.there .here) .nil) (fun _ _ hin => pts_in (hin.nth 0 rfl)) ?_)
    rintro v H' ⟨rfl, rfl⟩
    try simp only [nap, cap]
    refine g_ne ?_
    refine g_seq ?_
    refine g_sr ?_
    refine Li Mv ?_
    refine Li Cm ?_
    refine g_ne ?_
    refine g_mid (ι := Unit) [19, 20, 21] (fun u => True) (fun u => []) (fun u => [pts b e (bdC s (onesM l ([2] ++ (if kind = 1 then [24] else []))))]) ?_ ?_
    · refine g_cond rfl ?_ ?_
      · intro h1
        replace h1 := nrm h1
        refine g_region ?_
        refine Li Mv ?_
        refine Lp (oT T.ap_39 fun b2 => ?_)
        refine Lp (oC T.fn_36 rfl rfl (one_fn b e s (onesM l [2]) (bd.ones _) [24] (some ⟨b2, 0, none⟩) 1 1 rfl (by simp)) (.cons (.there .here) .nil) (fun _ _ hin => pts_in (hin.nth 0 rfl)) ?_)
        rintro v H' ⟨rfl, rfl⟩
        try simp only [nap, cap]
        rw [← onesM_append]
        rw [if_pos h1]
        refine g_nil ?_
        refine Me (()) (trivial)
      · intro h1
        replace h1 := nrm h1
        refine g_skip ?_
        rw [if_neg h1]
        refine Me (()) (trivial)
    rintro u hI
    generalize hL : ([2] ++ (if kind = 1 then [24] else []) : List Int) = L at *
    refine g_sr ?_
    refine Li Mv ?_
    refine Li Cm ?_
    refine g_ne ?_
    refine g_cond rfl ?_ ?_
    · intro h2
      replace h2 := nrm h2
      subst h2
      refine g_region ?_
      refine Li Mv ?_
      refine Li Mv ?_
      refine Lp (oMm (.int .i64) fun b3 => ?_)
      refine Lp (oMi mt112 ?_)
      refine Lp (oMi mt112 ?_)
      refine Lp (oMi mt112 ?_)
      refine Li Mv ?_
      refine Lp (oC T.fn_65 rfl rfl (outcome_fn b b3 e s (onesM l L) (bd.ones _) kind [(1, 16), (3, 17), (4, 18)]) (.cons (.there .here) (.cons .here .nil)) (fun _ _ _ => trivial) ?_)
      rintro v H' ⟨rfl, rfl⟩
      try simp only [nap, cap]
      refine g_nil ?_
      refine e_block ?_
      refine Rn0 [pts b e (bdC s (onesM (onesM l L) [lkI [(1, 16), (3, 17), (4, 18)] kind]))] Tryd.results40 ?_
      exact ⟨rfl, by rw [hlist, if_pos rfl, onesM_append]⟩
    · intro h2
      replace h2 := nrm h2
      refine g_skip ?_
      refine e_block ?_
      refine Rn0 [pts b e (bdC s (onesM l L))] Tryd.results40 ?_
      exact ⟨rfl, by rw [hlist, if_neg h2, List.append_nil]⟩
  · intro hc
    replace hc := nrm hc
    have hnot : ¬ (5 ≤ verb ∧ verb ≤ 10) := by omega
    refine g_sr ?_
    refine Li Cm ?_
    refine Li As ?_
    refine g_ne ?_
    refine g_cond rfl ?_ ?_
    · intro h11
      replace h11 := nrm h11
      subst h11
      refine g_region ?_
      refine Li Mv ?_
      refine Li Mv ?_
      refine Lp (oMm (.int .i64) fun b4 => ?_)
      refine Lp (oMi mt112 ?_)
      refine Lp (oMi mt112 ?_)
      refine Li Mv ?_
      refine Lp (oC T.fn_65 rfl rfl (outcome_fn b b4 e s l bd kind [(5, 10), (4, 11)]) (.cons (.there .here) (.cons .here .nil)) (fun _ _ _ => trivial) ?_)
      rintro v H' ⟨rfl, rfl⟩
      try simp only [nap, cap]
      refine g_nil ?_
      refine e_block ?_
      refine Rn0 [pts b e (bdC s (onesM l [lkI [(5, 10), (4, 11)] kind]))] Tryd.results40 ?_
      exact ⟨rfl, rfl⟩
    · intro h11
      replace h11 := nrm h11
      refine g_sr ?_
      refine Li Cm ?_
      refine Li As ?_
      refine g_ne ?_
      refine g_cond rfl ?_ ?_
      · intro h12
        replace h12 := nrm h12
        subst h12
        refine g_region ?_
        refine Li Mv ?_
        refine Li Mv ?_
        refine Lp (oMm (.int .i64) fun b5 => ?_)
        refine Lp (oMi mt112 ?_)
        refine Lp (oMi mt112 ?_)
        refine Li Mv ?_
        refine Lp (oC T.fn_65 rfl rfl (outcome_fn b b5 e s l bd kind [(7, 12), (4, 13)]) (.cons (.there .here) (.cons .here .nil)) (fun _ _ _ => trivial) ?_)
        rintro v H' ⟨rfl, rfl⟩
        try simp only [nap, cap]
        refine g_nil ?_
        refine e_block ?_
        refine Rn0 [pts b e (bdC s (onesM l [lkI [(7, 12), (4, 13)] kind]))] Tryd.results40 ?_
        exact ⟨rfl, rfl⟩
      · intro h12
        replace h12 := nrm h12
        refine g_sr ?_
        refine Li Cm ?_
        refine Li As ?_
        refine g_ne ?_
        refine g_cond rfl ?_ ?_
        · intro h13
          replace h13 := nrm h13
          subst h13
          refine g_region ?_
          refine Li Mv ?_
          refine Li Mv ?_
          refine Lp (oMm (.int .i64) fun b6 => ?_)
          refine Lp (oMi mt112 ?_)
          refine Lp (oMi mt112 ?_)
          refine Li Mv ?_
          refine Lp (oC T.fn_65 rfl rfl (outcome_fn b b6 e s l bd kind [(7, 14), (4, 15)]) (.cons (.there .here) (.cons .here .nil)) (fun _ _ _ => trivial) ?_)
          rintro v H' ⟨rfl, rfl⟩
          try simp only [nap, cap]
          refine g_nil ?_
          refine e_block ?_
          refine Rn0 [pts b e (bdC s (onesM l [lkI [(7, 14), (4, 15)] kind]))] Tryd.results40 ?_
          exact ⟨rfl, rfl⟩
        · intro h13
          replace h13 := nrm h13
          refine g_sr ?_
          refine Li Cm ?_
          refine Li As ?_
          refine g_ne ?_
          refine g_cond rfl ?_ ?_
          · intro h14
            replace h14 := nrm h14
            subst h14
            refine g_sr ?_
            refine Li Mv ?_
            refine Lp (oT T.ap_39 fun b7 => ?_)
            refine Lp (oC T.fn_36 rfl rfl (one_fn b e s l bd [3] (some ⟨b7, 0, none⟩) 1 1 rfl (by simp)) (.cons (.there .here) .nil) (fun _ _ hin => pts_in (hin.nth 0 rfl)) ?_)
            rintro v H' ⟨rfl, rfl⟩
            try simp only [nap, cap]
            refine g_ne ?_
            refine g_region ?_
            refine Li Mv ?_
            refine Li Mv ?_
            refine Lp (oMm (.int .i64) fun b8 => ?_)
            refine Lp (oMi mt112 ?_)
            refine Lp (oMi mt112 ?_)
            refine Li Mv ?_
            refine Lp (oC T.fn_65 rfl rfl (outcome_fn b b8 e s (onesM l [3]) (bd.ones _) kind [(6, 19), (4, 20)]) (.cons (.there .here) (.cons .here .nil)) (fun _ _ _ => trivial) ?_)
            rintro v H' ⟨rfl, rfl⟩
            try simp only [nap, cap]
            refine g_nil ?_
            refine e_block ?_
            refine Rn0 [pts b e (bdC s (onesM (onesM l [3]) [lkI [(6, 19), (4, 20)] kind]))] Tryd.results40 ?_
            exact ⟨rfl, rfl⟩
          · intro h14
            replace h14 := nrm h14
            refine g_sr ?_
            refine Li Cm ?_
            refine Li As ?_
            refine g_ne ?_
            refine g_cond rfl ?_ ?_
            · intro h15
              replace h15 := nrm h15
              subst h15
              refine g_region ?_
              refine Li Mv ?_
              refine Lp (oT T.ap_39 fun b9 => ?_)
              refine Lp (oC T.fn_36 rfl rfl (one_fn b e s l bd [4] (some ⟨b9, 0, none⟩) 1 1 rfl (by simp)) (.cons (.there .here) .nil) (fun _ _ hin => pts_in (hin.nth 0 rfl)) ?_)
              rintro v H' ⟨rfl, rfl⟩
              try simp only [nap, cap]
              refine g_nil ?_
              refine e_block ?_
              refine Rn0 [pts b e (bdC s (onesM l [4]))] Tryd.results40 ?_
              exact ⟨rfl, rfl⟩
            · intro h15
              replace h15 := nrm h15
              refine g_skip ?_
              refine e_block ?_
              refine Rn0 [pts b e (bdC s l)] Tryd.results40 ?_
              refine ⟨rfl, ?_⟩
              unfold textL
              rw [if_neg hnot, if_neg h11, if_neg h12, if_neg h13, if_neg h14, if_neg h15]
              rfl
end Go.Proofs.YtdmepoiijgejhaaDoor

