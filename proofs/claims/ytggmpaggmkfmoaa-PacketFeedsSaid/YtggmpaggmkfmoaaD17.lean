/- Packets, the law's own: chunks cut to what is fed. -/
import Derived.Test.YtggmpaggmkfmoaaD16
set_option maxRecDepth 100000
namespace Go.Proofs.Ytggmpaggmkfmoaa
open Go Go.Eng

theorem flat_snoc (k : List Ch) (y : Ch) : flat (k ++ [y]) = flat k ++ y.b := by simp [flat]
structure CtI (a : Option Addr) (l : List Ch) (i : Nat) (k : List Ch) : Prop where
  i4 : i ≤ 400
  il : i ≤ l.length
  kl : k.length = i
  top : (flat k).length ≤ 12000
  caps : ∀ x ∈ k, x.b.length ≤ x.c
  rds : ∀ h, ChsAt h a l → ∀ x ∈ k, Rdl h x.a (bcells x.b)
set_option maxHeartbeats 2000000 in
theorem cut_fn (l : List Ch) (a : Option Addr) (m c : Nat) (hm : m = l.length) :
    FnS Try.prog 30 [.slice a m c] (fun h => ChsAt h a l) [] (fun v H => ∃ ao co k, v = .slice ao k.length co ∧ k.length ≤ 400 ∧ (flat k).length ≤ 12000 ∧ (∀ x ∈ k, x.b.length ≤ x.c) ∧ (∀ h, ChsAt h a l → ∀ x ∈ k, Rdl h x.a (bcells x.b)) ∧
      H = [own ao co 37 1 (chCells k)]) := by
  subst hm
  refine fn_body Try.func30 rfl Try.ntmps30 rfl ?_
  intro F hF
  have hC := hF.cells
  refine g_sr ?_
  refine Li As ?_
  refine g_ne ?_
  refine g_sr ?_
  refine Li As ?_
  refine g_ne ?_
  refine g_sr ?_
  refine Li As ?_
  refine g_ne ?_
  refine g_seq ?_
  refine g_sr ?_
  refine Li As ?_
  refine g_ne ?_
  refine g_block ?_
  refine g_nilrow 37 1 ?_
  refine Lo (ι := Nat × Option Addr × Nat × List Ch) [7, 8, 9, 10, 11, 12, 13, 14, 17, 18, 19, 20, 6, 21, 22, 23, 24, 25, 26, 27, 28, 29, 30, 31, 32, 33, 4, 34, 35, 36, 37, 3, 15, 16, 5] (fun (i, ao, co, k) => CtI a l i k) (fun (i, ao, co, k) => [(3, .slice ao k.length co), (4, .int .i64 ((flat k).length : Int)), (5, .int .i64 (i : Int))]) (fun (i, ao, co, k) => [own ao co 37 1 (chCells k)]) (fun (i, ao, co, k) => l.length - i) ((0, none, 0, [])) ⟨Nat.zero_le _, Nat.zero_le _, rfl, Nat.zero_le _, by simp, by simp⟩ ?_
  rintro ⟨i, ao, co, k⟩ ⟨i4, il, kl, top, caps, rds⟩
  try dsimp only at hI ⊢
  try dsimp only at i4 il kl top caps rds ⊢
  refine g_seq ?_
  refine g_seq ?_
  refine g_mid (ι := Unit) [7, 8, 9, 10, 11, 12, 13, 14] (fun u => True) (fun u => [(14, .bool (decide ((i : Int) < l.length) && decide ((i : Int) < 400)))]) (fun u => [own ao co 37 1 (chCells k)]) ?_ ?_
  · refine g_region ?_
    refine Li Mv ?_
    refine Li Mv ?_
    refine Li (Ln T.sl_24) ?_
    refine Li Cm ?_
    refine Li Mv ?_
    refine g_split (t := 11) rfl ?_ ?_
    · intro hb0
      replace hb0 := nrm hb0
      refine Li Mv ?_
      refine Li Cm ?_
      refine Li Pt ?_
      refine g_nil ?_
      refine Me (()) (trivial)
    · intro hb0
      replace hb0 := nrm hb0
      refine Lx ?_
      refine Lx ?_
      refine Li Pf ?_
      refine g_nil ?_
      refine Me (()) (trivial)
  rintro u hI
  refine g_cond rfl ?_ ?_
  · intro h1
    replace h1 := nrm h1
    obtain ⟨x, e1⟩ : ∃ x, l[i]? = some x := ⟨_, List.getElem?_eq_getElem (show i < l.length by omega)⟩
    have k1 : (chCells l)[i]? = some (.slice x.a x.b.length x.c) := by simp [chCells, e1]
    have sa0 : a.isSome = true := hC.some (by simp; omega)
    have hxm := List.mem_of_getElem? e1
    have hxc := hF.caps x hxm
    generalize hT : (flat k).length = tt at *
    refine g_skip ?_
    refine e_then ?_
    refine g_seq ?_
    refine g_block ?_
    refine g_sr ?_
    refine Li Mv ?_
    refine Li Mv ?_
    refine Li (Ix T.sl_24) ?_
    refine Lp (oL T.sc_37 ?_)
    refine Li As ?_
    refine g_ne ?_
    refine g_seq ?_
    refine g_sr ?_
    refine Li Mv ?_
    refine Li (Ln T.sl_37) ?_
    refine Li Mv ?_
    refine Li Im ?_
    refine Li Cm ?_
    refine g_ne ?_
    refine g_mid (ι := Ch) [26, 27, 28, 29, 6] (fun y => y.b = x.b.take (12000 - tt) ∧ y.b.length ≤ y.c ∧ ∀ h, Rdl h x.a (bcells x.b) → Rdl h y.a (bcells y.b)) (fun y => [(6, .slice y.a y.b.length y.c)]) (fun y => [own ao co 37 1 (chCells k)]) ?_ ?_
    · refine g_cond rfl ?_ ?_
      · intro h2
        replace h2 := nrm h2
        refine g_region ?_
        refine Li Mv ?_
        refine Li Mv ?_
        refine Li Im ?_
        refine g_slot (t := 28) (v' := .int .i64 ((12000 - tt : Nat) : Int)) rfl (by refine congrArg (Value.int .i64) ?_; omega) ?_
        refine Li (Sl 0 _ _ T.sl_37) ?_
        refine Li As ?_
        refine g_nil ?_
        rw [show 12000 - tt - 0 = (x.b.take (12000 - tt)).length from by simp; omega]
        refine Me (⟨x.b.take (12000 - tt), cutA x.a 0 x.c (0 * 1), x.c - 0⟩) (⟨rfl, by simp; omega, fun h r => by have := cut2 r 0 x.c (12000 - tt) (by omega); simpa using this⟩)
      · intro h2
        replace h2 := nrm h2
        refine g_skip ?_
        refine Me (x) (⟨by rw [List.take_of_length_le (by omega)], hxc, fun h r => r⟩)
    rintro y ⟨hy1, hy2, hy3⟩
    have hyl : y.b.length ≤ 12000 - tt := by rw [hy1]; simp; omega
    refine g_sr ?_
    refine Li Mv ?_
    refine Li Mv ?_
    refine Li (Ln T.sl_37) ?_
    refine Li Im ?_
    refine Li As ?_
    refine g_ne ?_
    refine g_region ?_
    refine Li Mv ?_
    refine Li Mv ?_
    refine Lp (oT T.ap_24 fun b1 => ?_)
    refine Lp (op_append_lit T.ap_24 T.ni_24 rfl rfl rfl rfl .here (by simp) (rfl) (by simp [Value.oneCell']) (by first | omega | (simp; omega)) (by first | omega | (simp; omega)) rfl fun a4 c4 hc4 => ?_)
    refine Li As ?_
    refine g_nil ?_
    refine e_block ?_
    refine e_then ?_
    refine g_region ?_
    refine Li Mv ?_
    refine Li Im ?_
    refine Li As ?_
    refine g_nil ?_
    have hch : chCells k ++ [.slice y.a y.b.length y.c] = chCells (k ++ [y]) := by simp [chCells]
    have hfl : (flat (k ++ [y])).length = tt + y.b.length := by rw [flat_snoc, List.length_append, hT]
    rw [hch, show k.length + 1 = (k ++ [y]).length from by simp]
    refine g_slot (t := 4) (v' := .int .i64 ((flat (k ++ [y])).length : Int)) rfl (by refine congrArg (Value.int .i64) ?_; omega) ?_
    refine Ro ((i + 1, a4, c4, k ++ [y])) (?_) ((by dsimp only; omega))
    refine ⟨by dsimp only; omega, by dsimp only; omega, by simp [kl], by dsimp only; omega, ?_, ?_⟩
    · intro z hz
      rcases List.mem_append.1 hz with hz | hz
      · exact caps z hz
      · rw [List.mem_singleton.1 hz]; exact hy2
    · intro h r z hz
      rcases List.mem_append.1 hz with hz | hz
      · exact rds h r z hz
      · rw [List.mem_singleton.1 hz]; exact hy3 h (r.bytes x hxm)
  · intro h1
    replace h1 := nrm h1
    refine g_exit ?_
    refine e_then_exit ?_
    refine e_then_exit ?_
    refine e_block_hit ?_
    refine e_then ?_
    refine g_sr ?_
    refine Li Mv ?_
    refine Li As ?_
    refine g_ne ?_
    refine g_ret ?_
    refine Rt [own ao co 37 1 (chCells k)] Try.results30 ?_
    exact ⟨ao, co, k, rfl, by omega, top, caps, rds, rfl⟩
end Go.Proofs.Ytggmpaggmkfmoaa

