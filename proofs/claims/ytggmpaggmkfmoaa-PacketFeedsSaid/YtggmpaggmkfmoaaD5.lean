/- The book of lists, of bytes: closed. -/
import Derived.Test.YtggmpaggmkfmoaaD4
set_option maxRecDepth 100000
namespace Go.Proofs.Ytggmpaggmkfmoaa
open Go Go.Eng

theorem pts_mono {b : Nat} {e : TypeId} {cs : List Value} {h k : Hp} (p : pts b e cs h) (le : Le h k) : pts b e cs k := by
  obtain ⟨lo, hi, hf, hb⟩ := p
  exact ⟨lo, hi, hf, le _ _ hb⟩
theorem own_mono {a : Option Addr} {cap e sz : Nat} {xs : List Value} {h k : Hp} (o : own a cap e sz xs h) (le : Le h k) : own a cap e sz xs k := by
  obtain ⟨h1, h2, h3 | ⟨b, sp, h4, h5, h6⟩⟩ := o
  · exact ⟨h1, h2, .inl h3⟩
  · exact ⟨h1, h2, .inr ⟨b, sp, h4, h5, pts_mono h6 le⟩⟩
theorem stars_mono {α : Type} {f g : α → HProp} (hx : ∀ a k, f a k → g a k) : ∀ (L : List α) (h : Hp), starL (L.map f) h → starL (L.map g) h := by
  intro L
  induction L with
  | nil => intros; trivial
  | cons b r ih =>
    intro h s
    obtain ⟨h1, h2, d, l1, l2, p, s2⟩ := s
    exact ⟨h1, h2, d, l1, l2, hx _ _ p, ih _ s2⟩
theorem Qb_P0 (x : Bi) (h : Hp) (q : Qb x h) : P0 x.r h := by
  obtain ⟨⟨n1, _⟩, h1, h2, d, l1, l2, o1, _⟩ := q
  exact ⟨bcells x.L, by rw [bcells_length]; exact n1.symm, own_mono o1 l1⟩
set_option maxHeartbeats 1000000 in
theorem close_fn (b : Nat) (ai : Option Addr) (ci : Nat) (aw : Option Addr) (cw : Nat) (xs : List Bi) (n : Int) (ok : BkOk xs ci cw n) (hn : n ≤ 300000) :
    FnS Try.prog 20 [.pointer (some ⟨b, 0, none⟩)] (fun _ => True) (bkH b ai ci aw cw xs n) (fun v H => v = .bool true ∧ H = []) := by
  obtain ⟨c1, c2, idx, n0, ln, top⟩ := ok
  have hx : xs.length ≤ 1000000 := by omega
  have hrl : (xs.map (·.r)).length = xs.length := by simp
  have hidx : ∀ (i : Nat) (r : Rw), (xs.map (·.r))[i]? = some r → r.k = i := fun i r h => by
    rw [List.getElem?_map] at h
    obtain ⟨x, h1, rfl⟩ := Option.map_eq_some_iff.1 h
    exact idx i x h1
  refine FnS.of_pre (X := True) (fun _ _ => trivial) fun _ => ?_
  refine fn_body Try.func20 rfl Try.ntmps20 rfl ?_
  intro F hF
  refine g_fact (X := ∀ x ∈ xs, x.r.n = x.L.length) (fun h hin => by
    obtain ⟨k, s, le⟩ := hin.nth 3 rfl
    exact stars_all (f := Qb) (X := fun x _ => x.r.n = x.L.length) (fun x k q => q.1.1) (fun x k l q _ => q) _ _ s) fun hrn => ?_
  have hrn2 : ∀ r ∈ xs.map (·.r), r.n ≤ 20000 := fun r hr => by
    obtain ⟨x, h1, rfl⟩ := List.mem_map.1 hr
    rw [hrn x h1]; exact top x h1
  refine g_sr ?_
  refine Li As ?_
  refine g_ne ?_
  refine g_sr ?_
  refine Li Mv ?_
  refine Lp (oC T.fn_47 rfl rfl (stands_fn b ai ci aw cw xs n hx) .nil (fun _ _ hin => StI.of hin) ?_)
  rintro v H' ⟨rfl, rfl⟩
  try simp only [nap, cap]
  refine Li Mv ?_
  refine g_slot (t := 5) (v' := .bool true) rfl (congrArg Value.bool (by rfl)) ?_
  refine g_heap (H' := [pts b 32 (bkC (.slice ai (xs.map (·.r)).length ci) (.slice aw xs.length cw) nilS nilS n), own ai ci 37 1 ((xs.map (·.r)).map slv), stars ((xs.map (·.r)).map P0)]) (fun h q => ?_) ?_
  · have q1 : starL [pts b 32 (bkC (.slice ai xs.length ci) (.slice aw xs.length cw) nilS nilS n), own ai ci 37 1 (xs.map bir), stars (xs.map Qb)] h := ents (As := [_, _, _]) (.cons .here (.cons .here (.cons (.there .here) .nil))) h q
    rw [hrl, List.map_map, List.map_map, show slv ∘ (fun x : Bi => x.r) = bir from rfl]
    refine starL_tail (fun k s => starL_tail (fun l t => starL_cons_mono (fun m u => ?_) t) s) q1
    exact stars_mono (f := Qb) (g := P0 ∘ fun x : Bi => x.r) (fun x k p => Qb_P0 x k p) _ _ u
  refine Li Mv ?_
  refine Lp (oC T.fn_48 rfl rfl (closeI_fn b ai ci (.slice aw xs.length cw) n (xs.map (·.r)) (by omega) hidx hrn2) (.cons .here (.cons .here (.cons .here .nil))) (fun _ _ _ => trivial) ?_)
  rintro v H' ⟨rfl, v6, v7, rfl⟩
  try simp only [nap, cap]
  refine Li Pt ?_
  refine Li Mv ?_
  refine g_slot (t := 9) (v' := .bool true) rfl (congrArg Value.bool (by rfl)) ?_
  refine Li Mv ?_
  refine Lp (oC T.fn_49 rfl rfl (close49_nil b _ _ _ _ n) .nil (fun _ _ hin => hin.nth 0 rfl) ?_)
  rintro v H' ⟨rfl, rfl⟩
  try simp only [nap, cap]
  refine Li Pt ?_
  refine Li Mv ?_
  refine g_slot (t := 13) (v' := .bool true) rfl (congrArg Value.bool (by rfl)) ?_
  refine Li Mv ?_
  refine Lp (oC T.fn_50 rfl rfl (close50_nil b _ _ _ _ n) .nil (fun _ _ hin => hin.nth 0 rfl) ?_)
  rintro v H' ⟨rfl, rfl⟩
  try simp only [nap, cap]
  refine Li Pt ?_
  refine Li Mv ?_
  refine g_slot (t := 17) (v' := .bool true) rfl (congrArg Value.bool (by rfl)) ?_
  refine Li Mv ?_
  refine Lp (oC T.fn_51 rfl rfl (close51_nil b _ _ _ _ n) .nil (fun _ _ hin => hin.nth 0 rfl) ?_)
  rintro v H' ⟨rfl, rfl⟩
  try simp only [nap, cap]
  refine Li Pt ?_
  refine Li Mv ?_
  refine g_slot (t := 21) (v' := .bool true) rfl (congrArg Value.bool (by rfl)) ?_
  refine Li Mv ?_
  refine Lp (oC T.fn_52 rfl rfl (close52_nil b _ _ _ _ n) .nil (fun _ _ hin => hin.nth 0 rfl) ?_)
  rintro v H' ⟨rfl, rfl⟩
  try simp only [nap, cap]
  refine Li Pt ?_
  refine Li Mv ?_
  refine g_slot (t := 25) (v' := .bool true) rfl (congrArg Value.bool (by rfl)) ?_
  refine Li Mv ?_
  refine Lp (oC T.fn_53 rfl rfl (close53_nil b _ _ _ _ n) .nil (fun _ _ hin => hin.nth 0 rfl) ?_)
  rintro v H' ⟨rfl, rfl⟩
  try simp only [nap, cap]
  refine Li Pt ?_
  refine Li Mv ?_
  refine g_slot (t := 29) (v' := .bool true) rfl (congrArg Value.bool (by rfl)) ?_
  refine Li Mv ?_
  refine Lp (oC T.fn_54 rfl rfl (close54_nil b _ _ _ _ n) .nil (fun _ _ hin => hin.nth 0 rfl) ?_)
  rintro v H' ⟨rfl, rfl⟩
  try simp only [nap, cap]
  refine Li Pt ?_
  refine Li As ?_
  refine g_ne ?_
  refine g_ret ?_
  refine Rt [] Try.results20 ?_
  exact ⟨rfl, rfl⟩
end Go.Proofs.Ytggmpaggmkfmoaa

