/- The document's disk: what is looked up. -/
import Derived.Test.YtncmmhfgcgnojaaR1
set_option maxRecDepth 100000
namespace Go.Proofs.Ytncmmhfgcgnojaa
open Go Go.Eng

theorem without_take {l : List (Nm × Nat)} {i : Nat} {p : Nm × Nat} (h : l[i]? = some p) (x : Nm) : without (l.take (i + 1)) x = without (l.take i) x ++ (if p.1 = x then [] else [p]) := by
  have e : l.take (i + 1) = l.take i ++ [p] := by rw [List.take_add_one, h]; rfl
  rw [e]
  unfold without
  rw [List.filter_append]
  congr 1
  by_cases hp : p.1 = x
  · rw [if_pos hp, List.filter_cons_of_neg (by simpa using hp)]; rfl
  · rw [if_neg hp, List.filter_cons_of_pos (by simpa using hp)]; rfl
theorem without_fn (a : Option Addr) (n c : Nat) (l : List (Nm × Nat)) (x : Nm) (hn : n = l.length) (hl : l.length ≤ 100000) :
    FnS Try.prog 63 [.slice a n c, strv x] (fun h => Rdl h a (nmCs l)) [] (fun v H => ∃ a' c', v = .slice a' (without l x).length c' ∧ H = [own a' c' 113 2 (nmCs (without l x))]) := by
  subst hn
  refine fn_body Try.func63 rfl Try.ntmps63 rfl ?_
  intro F hR
  refine g_sr ?_
  refine Li As ?_
  refine g_ne ?_
  refine g_sr ?_
  refine Li As ?_
  refine g_ne ?_
  refine g_seq ?_
  refine g_sr ?_
  refine Li As ?_
  refine g_ne ?_
  refine g_block ?_
  refine g_nilrow 113 2 ?_
  refine Lo (ι := Nat × Option Addr × Nat) [7, 8, 9, 10, 13, 14, 15, 16, 17, 18, 19, 20, 21, 22, 23, 24, 25, 26, 5, 11, 12, 6] (fun (i, a', c') => i ≤ l.length) (fun (i, a', c') => [(5, .slice a' (without (l.take i) x).length c'), (6, .int .i64 (i : Int))]) (fun (i, a', c') => [own a' c' 113 2 (nmCs (without (l.take i) x))]) (fun (i, a', c') => l.length - i) ((0, none, 0)) (Nat.zero_le _) ?_
  rintro ⟨i, a', c'⟩ hi
  try dsimp only at hI ⊢
  dsimp only at hi ⊢
  refine g_seq ?_
  refine g_sr ?_
  refine Li Mv ?_
  refine Li Mv ?_
  refine Li (Ln T.sl_67) ?_
  refine Li Cm ?_
  refine g_ne ?_
  refine g_cond rfl ?_ ?_
  · intro hlt
    replace hlt := nrm hlt
    have hlt' : i < l.length := by omega
    have e1 : l[i]? = some l[i] := List.getElem?_eq_getElem hlt'
    generalize l[i] = p at e1
    have k0 : (nmCs l)[i * 2 + 0]? = some (strv p.1) := rows_cell nmC_len e1 rfl
    have k1 : ((nmCs l).drop (i * 2)).take 2 = nmC p := rows_at nmC_len e1
    have sa : a.isSome = true := hR.some (by rw [nmCs_len]; omega)
    have hw := without_take e1 x
    have hwl : (without (l.take i) x).length ≤ l.length := by
      have h1 : (without (l.take i) x).length ≤ (l.take i).length := List.length_filter_le _ _
      rw [List.length_take] at h1; omega
    refine g_skip ?_
    refine e_then ?_
    refine g_seq ?_
    refine g_block ?_
    refine g_sr ?_
    refine Li Mv ?_
    refine Li Mv ?_
    refine Li (Ix T.sl_67) ?_
    refine Li (Fam T.fld_113_0) ?_
    refine Lp (oL T.sc_9 ?_)
    refine Li Mv ?_
    refine Li Sq ?_
    refine g_ne ?_
    refine g_cond rfl ?_ ?_
    · intro hq
      replace hq := nrm hq
      have hq2 : ¬ p.1 = x := hq
      rw [if_neg hq2] at hw
      unfold nmC at k1
      refine g_region ?_
      refine Li Mv ?_
      refine Li Mv ?_
      refine Li Mv ?_
      refine Li (Ix T.sl_67) ?_
      refine Lp (oLN T.ag_113 ?_)
      refine Lp (oT1 T.ap_67 fun b1 => ?_)
      refine Lp (op_append_lit T.ap_67 T.ni_67 rfl rfl rfl rfl .here (nmCs_len _) (rfl) (by simp [Value.oneCell', strv]) (by first | omega | (simp; omega)) (by first | omega | (simp; omega)) rfl fun a5 c5 hc5 => ?_)
      refine Li As ?_
      refine g_nil ?_
      refine e_block ?_
      refine e_then ?_
      refine g_region ?_
      refine Li Mv ?_
      refine Li Im ?_
      refine Li As ?_
      refine g_nil ?_
      refine Hh (H' := [own a5 c5 113 2 (nmCs (without (l.take i) x) ++ nmC p)]) ?_
      rw [← nmCs_snoc, ← hw, show (without (l.take i) x).length + 1 = (without (l.take (i + 1)) x).length from by rw [hw]; simp]
      refine Ro ((i + 1, a5, c5)) ((by dsimp only; omega)) ((by dsimp only; omega))
    · intro hq
      replace hq := nrm hq
      have hq2 : p.1 = x := hq
      rw [if_pos hq2, List.append_nil] at hw
      rw [← hw]
      refine g_skip ?_
      refine e_block ?_
      refine e_then ?_
      refine g_region ?_
      refine Li Mv ?_
      refine Li Im ?_
      refine Li As ?_
      refine g_nil ?_
      refine Ro ((i + 1, a', c')) ((by dsimp only; omega)) ((by dsimp only; omega))
  · intro hlt
    replace hlt := nrm hlt
    obtain rfl : i = l.length := by omega
    rw [List.take_length]
    refine g_exit ?_
    refine e_then_exit ?_
    refine e_then_exit ?_
    refine e_block_hit ?_
    refine e_then ?_
    refine g_sr ?_
    refine Li Mv ?_
    refine Li As ?_
    refine g_ne ?_
    refine g_ret ?_
    refine Rt [own a' c' 113 2 (nmCs (without l x))] Try.results63 ?_
    exact ⟨a', c', rfl, rfl⟩
theorem racts_fn (b : Nat) (s : Ds) (y : RLay) : FnS Try.prog 37 [.pointer (some ⟨b, 0, none⟩)] (InL (rkL b s y)) [] (fun v H => v = .int .i64 (s.acts : Int) ∧ H = []) := by
  refine fn_body Try.func37 rfl Try.ntmps37 rfl ?_
  rintro F ⟨h0, _⟩
  unfold rkC at h0
  refine g_sr ?_
  refine Li As ?_
  refine g_ne ?_
  refine g_sr ?_
  refine Li Mv ?_
  refine Li Nc ?_
  refine Li (Fa T.fld_70_4) ?_
  refine Lp (oL T.sc_3 ?_)
  refine Li As ?_
  refine g_ne ?_
  refine g_ret ?_
  refine Rt [] Try.results37 ?_
  exact ⟨rfl, rfl⟩
theorem rpower_fn (b : Nat) (s : Ds) (y : RLay) : FnS Try.prog 38 [.pointer (some ⟨b, 0, none⟩)] (InL (rkL b s y)) [] (fun v H => v = .bool (!s.dark) ∧ H = []) := by
  refine fn_body Try.func38 rfl Try.ntmps38 rfl ?_
  rintro F ⟨h0, _⟩
  unfold rkC at h0
  refine g_sr ?_
  refine Li As ?_
  refine g_ne ?_
  refine g_sr ?_
  refine Li Mv ?_
  refine Li Nc ?_
  refine Li (Fa T.fld_70_6) ?_
  refine Lp (oL T.sc_4 ?_)
  refine Li Nt ?_
  refine Li As ?_
  refine g_ne ?_
  refine g_ret ?_
  refine Rt [] Try.results38 ?_
  exact ⟨rfl, rfl⟩
end Go.Proofs.Ytncmmhfgcgnojaa

