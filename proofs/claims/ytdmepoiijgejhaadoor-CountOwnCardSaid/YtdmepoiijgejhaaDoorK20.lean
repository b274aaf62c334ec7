/- Counts, the reference: a text verb. -/
import Derived.Test.YtdmepoiijgejhaaDoorK19
set_option maxRecDepth 100000
namespace Go.Proofs.YtdmepoiijgejhaaDoor
open Go Go.Eng

def textG (verb kind : Int) (why : List Int) : List Int := if 1 ≤ verb ∧ verb ≤ 4 then getL verb why else textL verb kind
theorem RL.more {n m : Nat} {M : List Int} {v : Value} {H : List HProp} (r : RL n M v H) (h : n ≤ m) : RL m M v H := by
  obtain ⟨a, c, L, h1, h2, h3, h4, h5⟩ := r
  exact ⟨a, c, L, h1, by omega, h3, h4, h5⟩
set_option maxHeartbeats 2000000 in
theorem rtext_fn (verb kind : Int) (why : List Int) (aw : Option Addr) (m cw : Nat) (hm : m = why.length) (hwb : why.length ≤ 10000) :
    FnS Tryd.prog 43 [.int .i64 verb, .int .i64 kind, .slice aw m cw] (fun h => Rdl h aw (icells why)) [] (RL 50000 (textG verb kind why)) := by
  subst hm
  refine fn_body Tryd.func43 rfl Tryd.ntmps43 rfl ?_
  intro F hF
  unfold textG
  refine g_sr ?_
  refine Li As ?_
  refine g_ne ?_
  refine g_sr ?_
  refine Li As ?_
  refine g_ne ?_
  refine g_seq ?_
  refine g_sr ?_
  refine Li Mv ?_
  refine g_ne ?_
  refine g_block ?_
  refine g_seq ?_
  refine g_sr ?_
  refine Li Cm ?_
  refine Li As ?_
  refine g_ne ?_
  refine g_mid (ι := Unit) [12, 10, 13, 14] (fun u => True) (fun u => [(10, .bool (decide (1 ≤ verb) && decide (verb ≤ 4)))]) (fun u => []) ?_ ?_
  · refine g_cond rfl ?_ ?_
    · intro hb0
      replace hb0 := nrm hb0
      refine g_skip ?_
      refine Me (()) (trivial)
    · intro hb0
      replace hb0 := nrm hb0
      refine g_sr ?_
      refine Li Cm ?_
      refine Li As ?_
      refine g_ne ?_
      refine g_cond rfl ?_ ?_
      · intro hb1
        replace hb1 := nrm hb1
        refine g_skip ?_
        refine Me (()) (trivial)
      · intro hb1
        replace hb1 := nrm hb1
        refine g_sr ?_
        refine Li Cm ?_
        refine Li As ?_
        refine g_ne ?_
        refine g_cond rfl ?_ ?_
        · intro hb2
          replace hb2 := nrm hb2
          refine g_skip ?_
          refine Me (()) (trivial)
        · intro hb2
          replace hb2 := nrm hb2
          refine g_region ?_
          refine Li Cm ?_
          refine Li As ?_
          refine g_nil ?_
          refine Me (()) (trivial)
  rintro u hI
  refine g_nilrow 3 1 ?_
  refine g_cond rfl ?_ ?_
  · intro hg
    replace hg := nrm hg
    rw [if_pos hg]
    refine g_sr ?_
    refine Li As ?_
    refine g_ne ?_
    refine g_block ?_
    refine Lo (ι := Nat × Option Addr × Nat × List Int) [15, 16, 17, 18, 21, 22, 23, 24, 25, 26, 27, 7, 28, 29, 30, 31, 32, 33, 34, 35, 36, 19, 20, 8] (fun (i, a, c, L) => i ≤ why.length ∧ L.length ≤ 5 * i ∧ L.length ≤ c ∧ EqN L (getL verb (why.take i))) (fun (i, a, c, L) => [(8, .int .i64 (i : Int)), (7, .slice a L.length c)]) (fun (i, a, c, L) => [own a c 3 1 (icells L)]) (fun (i, a, c, L) => why.length - i) ((0, none, 0, [])) ⟨Nat.zero_le _, Nat.zero_le _, Nat.zero_le _, .refl _⟩ ?_
    rintro ⟨i, a, c, L⟩ ⟨hi, hl5, hc, he⟩
    try dsimp only at hI ⊢
    try dsimp only at hi hl5 hc he ⊢
    refine g_seq ?_
    refine g_sr ?_
    refine Li Mv ?_
    refine Li Mv ?_
    refine Li (Ln T.sl_39) ?_
    refine Li Cm ?_
    refine g_ne ?_
    refine g_cond rfl ?_ ?_
    · intro h1
      replace h1 := nrm h1
      obtain ⟨z, e1⟩ : ∃ z, why[i]? = some z := ⟨_, List.getElem?_eq_getElem (show i < why.length by omega)⟩
      have k1 : (icells why)[i]? = some (.int .i64 z) := by simp [icells, e1]
      have a0 : aw.isSome = true := hF.some (by simp [icells]; omega)
      have hs : getL verb (why.take (i + 1)) = getL verb (why.take i) ++ (keyL z ++ if 3 ≤ verb then toldL z 3 19 20 else []) := by rw [List.take_add_one, e1]; exact getL_snoc _ _ _
      refine g_skip ?_
      refine e_then ?_
      refine g_seq ?_
      refine g_block ?_
      refine g_sr ?_
      refine Li Mv ?_
      refine Li Mv ?_
      refine Li Mv ?_
      refine Li (Ix T.sl_39) ?_
      refine Lp (oL T.sc_3 ?_)
      refine Lp (oC T.fn_67 rfl rfl (asKey_fn z) .nil (fun _ _ _ => trivial) ?_)
      rintro v H' ⟨a2, c2, L2, rfl, hl2, hc2, he2, rfl⟩
      try simp only [nap, cap]
      refine Lp (op_append T.ap_39 T.ni_39 rfl rfl rfl rfl (.there .here) (by simp [icells]) (src_slice (m := L2.length) (by simp [icells]) fun h le hin => own_in (hin.nth 0 rfl)) (icells_one L2) (by first | omega | (simp; omega)) (by first | omega | (simp; omega)) rfl fun a4 c4 hc4 => ?_)
      rw [← icells_app, ← List.length_append]
      have he4 := he.app he2
      have hl4 : (L ++ L2).length ≤ 5 * i + 3 := by rw [List.length_append]; omega
      rw [← List.length_append] at hc4
      refine Hh (H' := [own a4 c4 3 1 (icells (L ++ L2))]) ?_
      generalize L ++ L2 = M at *
      refine Li As ?_
      refine g_ne ?_
      refine g_sr ?_
      refine Li Mv ?_
      refine Li Cm ?_
      refine g_ne ?_
      refine g_cond rfl ?_ ?_
      · intro h3
        replace h3 := nrm h3
        refine g_region ?_
        refine Li Mv ?_
        refine Li Mv ?_
        refine Li Mv ?_
        refine Li (Ix T.sl_39) ?_
        refine Lp (oL T.sc_3 ?_)
        refine Lp (oC T.fn_70 rfl rfl (asTouch_fn z) .nil (fun _ _ _ => trivial) ?_)
        rintro v H' ⟨a5, c5, L5, rfl, hl5, hc5, he5, rfl⟩
        try simp only [nap, cap]
        refine Lp (op_append T.ap_39 T.ni_39 rfl rfl rfl rfl (.there .here) (by simp [icells]) (src_slice (m := L5.length) (by simp [icells]) fun h le hin => own_in (hin.nth 0 rfl)) (icells_one L5) (by first | omega | (simp; omega)) (by first | omega | (simp; omega)) rfl fun a6 c6 hc6 => ?_)
        rw [← icells_app, ← List.length_append]
        have he6 := he4.app he5
        rw [List.append_assoc] at he6
        rw [if_pos h3, ← hs] at *
        have hl6 : (M ++ L5).length ≤ 5 * (i + 1) := by rw [List.length_append]; omega
        rw [← List.length_append] at hc6
        refine Li As ?_
        refine g_nil ?_
        refine e_block ?_
        refine e_then ?_
        refine g_region ?_
        refine Li Mv ?_
        refine Li Im ?_
        refine Li As ?_
        refine g_nil ?_
        refine Ro ((i + 1, a6, c6, M ++ L5)) (⟨by omega, hl6, hc6, he6⟩) (by omega)
      · intro h3
        replace h3 := nrm h3
        rw [if_neg (by omega), List.append_nil] at hs
        rw [← hs] at he4
        refine g_skip ?_
        refine e_block ?_
        refine e_then ?_
        refine g_region ?_
        refine Li Mv ?_
        refine Li Im ?_
        refine Li As ?_
        refine g_nil ?_
        refine Ro ((i + 1, a4, c4, M)) (⟨by omega, by dsimp only; omega, hc4, he4⟩) (by omega)
    · intro h1
      replace h1 := nrm h1
      rw [show why.take i = why from List.take_of_length_le (by omega)] at he
      refine g_exit ?_
      refine e_then_exit ?_
      refine e_then_exit ?_
      refine e_block_hit ?_
      refine e_block ?_
      refine e_then ?_
      refine g_sr ?_
      refine Li Mv ?_
      refine Li As ?_
      refine g_ne ?_
      refine g_ret ?_
      refine Rt [own a c 3 1 (icells L)] Tryd.results43 ?_
      exact ⟨a, c, L, rfl, by omega, hc, he, rfl⟩
  · intro hg
    replace hg := nrm hg
    rw [if_neg (by omega)]
    refine g_seq ?_
    refine g_sr ?_
    refine Li Cm ?_
    refine Li As ?_
    refine g_ne ?_
    refine g_mid (ι := Unit) [39, 37, 40, 41, 42] (fun u => True) (fun u => [(37, .bool (decide (5 ≤ verb) && decide (verb ≤ 9)))]) (fun u => [own none 0 3 1 (icells [])]) ?_ ?_
    · refine g_cond rfl ?_ ?_
      · intro hb0
        replace hb0 := nrm hb0
        refine g_skip ?_
        refine Me (()) (trivial)
      · intro hb0
        replace hb0 := nrm hb0
        refine g_sr ?_
        refine Li Cm ?_
        refine Li As ?_
        refine g_ne ?_
        refine g_cond rfl ?_ ?_
        · intro hb1
          replace hb1 := nrm hb1
          refine g_skip ?_
          refine Me (()) (trivial)
        · intro hb1
          replace hb1 := nrm hb1
          refine g_sr ?_
          refine Li Cm ?_
          refine Li As ?_
          refine g_ne ?_
          refine g_cond rfl ?_ ?_
          · intro hb2
            replace hb2 := nrm hb2
            refine g_skip ?_
            refine Me (()) (trivial)
          · intro hb2
            replace hb2 := nrm hb2
            refine g_sr ?_
            refine Li Cm ?_
            refine Li As ?_
            refine g_ne ?_
            refine g_cond rfl ?_ ?_
            · intro hb3
              replace hb3 := nrm hb3
              refine g_skip ?_
              refine Me (()) (trivial)
            · intro hb3
              replace hb3 := nrm hb3
              refine g_region ?_
              refine Li Cm ?_
              refine Li As ?_
              refine g_nil ?_
              refine Me (()) (trivial)
    rintro u hI
    refine g_cond rfl ?_ ?_
    · intro h5
      replace h5 := nrm h5
      have hL : textL verb kind = [2] ++ (if kind = 1 then [24] else []) := by unfold textL; rw [if_pos (show 5 ≤ verb ∧ verb ≤ 10 by omega), if_neg (show ¬ verb = 10 by omega), List.append_nil]
      rw [hL]
      refine g_sr ?_
      refine Li Mv ?_
      refine Lp (oT T.ap_39 fun b1 => ?_)
      refine Lp (op_append_lit T.ap_39 T.ni_39 rfl rfl rfl rfl .here (by simp [icells]) (rfl) (by simp [Value.oneCell']) (by first | omega | (simp; omega)) (by first | omega | (simp; omega)) rfl fun a4 c4 hc4 => ?_)
      refine Hh (H' := [own a4 c4 3 1 (icells [2])]) ?_
      refine Li As ?_
      refine g_ne ?_
      refine g_sr ?_
      refine Li Mv ?_
      refine Li Cm ?_
      refine g_ne ?_
      refine g_cond rfl ?_ ?_
      · intro h6
        replace h6 := nrm h6
        rw [if_pos h6]
        refine g_region ?_
        refine Li Mv ?_
        refine Lp (oT T.ap_39 fun b2 => ?_)
        refine Lp (op_append_lit T.ap_39 T.ni_39 rfl rfl rfl rfl .here (by simp [icells]) (rfl) (by simp [Value.oneCell']) (by first | omega | (simp; omega)) (by first | omega | (simp; omega)) rfl fun a5 c5 hc5 => ?_)
        refine Li As ?_
        refine g_nil ?_
        refine e_block ?_
        refine e_then ?_
        refine g_sr ?_
        refine Li Mv ?_
        refine Li As ?_
        refine g_ne ?_
        refine g_ret ?_
        refine Rt [own a5 c5 3 1 (icells [2, 24])] Tryd.results43 ?_
        exact ⟨a5, c5, [2, 24], rfl, by simp, hc5, .refl _, rfl⟩
      · intro h6
        replace h6 := nrm h6
        rw [if_neg h6]
        refine g_skip ?_
        refine e_block ?_
        refine e_then ?_
        refine g_sr ?_
        refine Li Mv ?_
        refine Li As ?_
        refine g_ne ?_
        refine g_ret ?_
        refine Rt [own a4 c4 3 1 (icells [2])] Tryd.results43 ?_
        exact ⟨a4, c4, [2], rfl, by simp, hc4, .refl _, rfl⟩
    · intro h5
      replace h5 := nrm h5
      refine g_sr ?_
      refine Li Cm ?_
      refine Li As ?_
      refine g_ne ?_
      refine g_cond rfl ?_ ?_
      · intro h10
        replace h10 := nrm h10
        subst h10
        have hL : textL 10 kind = [2] ++ (if kind = 1 then [24] else []) ++ [lkI [(1, 16), (3, 17), (4, 18)] kind] := by unfold textL; rw [if_pos (by omega), if_pos rfl]
        rw [hL]
        refine g_sr ?_
        refine Li Mv ?_
        refine Lp (oT T.ap_39 fun b3 => ?_)
        refine Lp (op_append_lit T.ap_39 T.ni_39 rfl rfl rfl rfl .here (by simp [icells]) (rfl) (by simp [Value.oneCell']) (by first | omega | (simp; omega)) (by first | omega | (simp; omega)) rfl fun a4 c4 hc4 => ?_)
        refine Hh (H' := [own a4 c4 3 1 (icells [2])]) ?_
        refine Li As ?_
        refine g_ne ?_
        refine g_sr ?_
        refine Li Mv ?_
        refine g_ne ?_
        refine g_block ?_
        refine g_sr ?_
        refine Li Cm ?_
        refine Li As ?_
        refine g_ne ?_
        refine g_cond rfl ?_ ?_
        · intro k1
          replace k1 := nrm k1
          subst k1
          refine g_region ?_
          refine Li Mv ?_
          refine Lp (oT T.ap_39 fun b4 => ?_)
          refine Lp (op_append_lit T.ap_39 T.ni_39 rfl rfl rfl rfl .here (by simp [icells]) (rfl) (by simp [Value.oneCell']) (by first | omega | (simp; omega)) (by first | omega | (simp; omega)) rfl fun a5 c5 hc5 => ?_)
          refine Li As ?_
          refine g_nil ?_
          refine e_block ?_
          refine e_block ?_
          refine e_then ?_
          refine g_sr ?_
          refine Li Mv ?_
          refine Li As ?_
          refine g_ne ?_
          refine g_ret ?_
          refine Rt [own a5 c5 3 1 (icells [2, 24, 16])] Tryd.results43 ?_
          exact ⟨a5, c5, [2, 24, 16], rfl, by simp, hc5, .refl _, rfl⟩
        · intro k1
          replace k1 := nrm k1
          rw [if_neg k1]
          refine g_sr ?_
          refine Li Cm ?_
          refine Li As ?_
          refine g_ne ?_
          refine g_cond rfl ?_ ?_
          · intro k3
            replace k3 := nrm k3
            subst k3
            refine g_region ?_
            refine Li Mv ?_
            refine Lp (oT T.ap_39 fun b5 => ?_)
            refine Lp (op_append_lit T.ap_39 T.ni_39 rfl rfl rfl rfl .here (by simp [icells]) (rfl) (by simp [Value.oneCell']) (by first | omega | (simp; omega)) (by first | omega | (simp; omega)) rfl fun a5 c5 hc5 => ?_)
            refine Li As ?_
            refine g_nil ?_
            refine e_block ?_
            refine e_block ?_
            refine e_then ?_
            refine g_sr ?_
            refine Li Mv ?_
            refine Li As ?_
            refine g_ne ?_
            refine g_ret ?_
            refine Rt [own a5 c5 3 1 (icells [2, 17])] Tryd.results43 ?_
            exact ⟨a5, c5, [2, 17], rfl, by simp, hc5, .refl _, rfl⟩
          · intro k3
            replace k3 := nrm k3
            refine g_sr ?_
            refine Li Cm ?_
            refine Li As ?_
            refine g_ne ?_
            refine g_cond rfl ?_ ?_
            · intro k4
              replace k4 := nrm k4
              subst k4
              refine g_region ?_
              refine Li Mv ?_
              refine Lp (oT T.ap_39 fun b6 => ?_)
              refine Lp (op_append_lit T.ap_39 T.ni_39 rfl rfl rfl rfl .here (by simp [icells]) (rfl) (by simp [Value.oneCell']) (by first | omega | (simp; omega)) (by first | omega | (simp; omega)) rfl fun a5 c5 hc5 => ?_)
              refine Li As ?_
              refine g_nil ?_
              refine e_block ?_
              refine e_block ?_
              refine e_then ?_
              refine g_sr ?_
              refine Li Mv ?_
              refine Li As ?_
              refine g_ne ?_
              refine g_ret ?_
              refine Rt [own a5 c5 3 1 (icells [2, 18])] Tryd.results43 ?_
              exact ⟨a5, c5, [2, 18], rfl, by simp, hc5, .refl _, rfl⟩
            · intro k4
              replace k4 := nrm k4
              have hz : lkI [(1, 16), (3, 17), (4, 18)] kind = 0 := by simp only [lkI]; rw [if_neg (fun q => k1 q.symm), if_neg (fun q => k3 q.symm), if_neg (fun q => k4 q.symm)]
              rw [hz]
              refine g_skip ?_
              refine e_block ?_
              refine e_block ?_
              refine e_then ?_
              refine g_sr ?_
              refine Li Mv ?_
              refine Li As ?_
              refine g_ne ?_
              refine g_ret ?_
              refine Rt [own a4 c4 3 1 (icells [2])] Tryd.results43 ?_
              exact ⟨a4, c4, [2], rfl, by simp, hc4, .of_all (by decide), rfl⟩
      · intro h10
        replace h10 := nrm h10
        have hn5 : ¬ (5 ≤ verb ∧ verb ≤ 10) := by omega
        unfold textL
        rw [if_neg hn5]
        refine g_sr ?_
        refine Li Cm ?_
        refine Li As ?_
        refine g_ne ?_
        refine g_cond rfl ?_ ?_
        · intro h11
          replace h11 := nrm h11
          rw [if_pos h11]
          refine g_region ?_
          refine Li Mv ?_
          refine Lp (oC T.fn_71 rfl rfl (either_fn kind 5 10 11) .nil (fun _ _ _ => trivial) ?_)
          rintro v H' ⟨a2, c2, L2, rfl, hl2, hc2, he2, rfl⟩
          try simp only [nap, cap]
          refine Li As ?_
          refine g_nil ?_
          refine e_block ?_
          refine e_then ?_
          refine g_sr ?_
          refine Li Mv ?_
          refine Li As ?_
          refine g_ne ?_
          refine g_ret ?_
          refine Rt [own a2 c2 3 1 (icells L2)] Tryd.results43 ?_
          exact ⟨a2, c2, L2, rfl, by omega, hc2, he2, rfl⟩
        · intro h11
          replace h11 := nrm h11
          rw [if_neg h11]
          refine g_sr ?_
          refine Li Cm ?_
          refine Li As ?_
          refine g_ne ?_
          refine g_cond rfl ?_ ?_
          · intro h12
            replace h12 := nrm h12
            rw [if_pos h12]
            refine g_region ?_
            refine Li Mv ?_
            refine Lp (oC T.fn_71 rfl rfl (either_fn kind 7 12 13) .nil (fun _ _ _ => trivial) ?_)
            rintro v H' ⟨a2, c2, L2, rfl, hl2, hc2, he2, rfl⟩
            try simp only [nap, cap]
            refine Li As ?_
            refine g_nil ?_
            refine e_block ?_
            refine e_then ?_
            refine g_sr ?_
            refine Li Mv ?_
            refine Li As ?_
            refine g_ne ?_
            refine g_ret ?_
            refine Rt [own a2 c2 3 1 (icells L2)] Tryd.results43 ?_
            exact ⟨a2, c2, L2, rfl, by omega, hc2, he2, rfl⟩
          · intro h12
            replace h12 := nrm h12
            rw [if_neg h12]
            refine g_sr ?_
            refine Li Cm ?_
            refine Li As ?_
            refine g_ne ?_
            refine g_cond rfl ?_ ?_
            · intro h13
              replace h13 := nrm h13
              rw [if_pos h13]
              refine g_region ?_
              refine Li Mv ?_
              refine Lp (oC T.fn_71 rfl rfl (either_fn kind 7 14 15) .nil (fun _ _ _ => trivial) ?_)
              rintro v H' ⟨a2, c2, L2, rfl, hl2, hc2, he2, rfl⟩
              try simp only [nap, cap]
              refine Li As ?_
              refine g_nil ?_
              refine e_block ?_
              refine e_then ?_
              refine g_sr ?_
              refine Li Mv ?_
              refine Li As ?_
              refine g_ne ?_
              refine g_ret ?_
              refine Rt [own a2 c2 3 1 (icells L2)] Tryd.results43 ?_
              exact ⟨a2, c2, L2, rfl, by omega, hc2, he2, rfl⟩
            · intro h13
              replace h13 := nrm h13
              rw [if_neg h13]
              refine g_sr ?_
              refine Li Cm ?_
              refine Li As ?_
              refine g_ne ?_
              refine g_cond rfl ?_ ?_
              · intro h14
                replace h14 := nrm h14
                rw [if_pos h14]
                refine g_region ?_
                refine Li Mv ?_
                refine Lp (oC T.fn_71 rfl rfl (either_fn kind 6 19 20) .nil (fun _ _ _ => trivial) ?_)
                rintro v H' ⟨a2, c2, L2, rfl, hl2, hc2, he2, rfl⟩
                try simp only [nap, cap]
                refine Lp (oT T.ap_39 fun b7 => ?_)
                refine Lp (op_append_lit T.ap_39 T.ni_39 rfl rfl rfl rfl .here (by simp [icells]) (rfl) (by simp [Value.oneCell']) (by first | omega | (simp; omega)) (by first | omega | (simp; omega)) rfl fun a5 c5 hc5 => ?_)
                rw [show L2.length + 1 = (L2 ++ [(3 : Int)]).length from by simp] at hc5 ⊢
                rw [show icells L2 ++ [Value.int .i64 3] = icells (L2 ++ [3]) from by rw [icells_app]; rfl]
                refine Li As ?_
                refine g_nil ?_
                refine e_block ?_
                refine e_then ?_
                refine g_sr ?_
                refine Li Mv ?_
                refine Li As ?_
                refine g_ne ?_
                refine g_ret ?_
                refine Rt [own a5 c5 3 1 (icells (L2 ++ [3]))] Tryd.results43 ?_
                exact ⟨a5, c5, L2 ++ [3], rfl, by simp only [List.length_append, List.length_cons, List.length_nil]; omega, hc5, (he2.app (.refl [3])).trans (.comm _ _), rfl⟩
              · intro h14
                replace h14 := nrm h14
                rw [if_neg h14]
                refine g_sr ?_
                refine Li Cm ?_
                refine Li As ?_
                refine g_ne ?_
                refine g_cond rfl ?_ ?_
                · intro h15
                  replace h15 := nrm h15
                  rw [if_pos h15]
                  refine g_region ?_
                  refine Lp (oT T.ap_39 fun b8 => ?_)
                  refine Li As ?_
                  refine g_nil ?_
                  refine e_block ?_
                  refine e_then ?_
                  refine g_sr ?_
                  refine Li Mv ?_
                  refine Li As ?_
                  refine g_ne ?_
                  refine g_ret ?_
                  refine g_heap (own_lit [4] (by simp)) ?_
                  refine Rt [own (some ⟨b8, 0, none⟩) 1 3 1 (icells [4])] Tryd.results43 ?_
                  exact .lit [4] (by simp) (.refl _)
                · intro h15
                  replace h15 := nrm h15
                  rw [if_neg h15]
                  refine g_skip ?_
                  refine e_block ?_
                  refine e_then ?_
                  refine g_sr ?_
                  refine Li Mv ?_
                  refine Li As ?_
                  refine g_ne ?_
                  refine g_ret ?_
                  refine Rt [own none 0 3 1 (icells [])] Tryd.results43 ?_
                  exact RL.nil (.refl _)
end Go.Proofs.YtdmepoiijgejhaaDoor

