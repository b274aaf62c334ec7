/- Counts: flags that are the same; the book closed. -/
import Derived.Test.YtdmepoiijgejhaaDoorK30
set_option maxRecDepth 100000
namespace Go.Eng
open Go
section
variable {P : Program} {n : Nat} {ds : List Deferred} {F : Frm} {Q : Exit → Act → World → Prop} {K : Act → World → Prop} {σ : Slots} {H : List HProp} {o : Oper} {d : Nat}
/-- a struct of a byte, a word and a truth, with itself -/
theorem eq_flag {t ts tu tv : TypeId} {m : Int} {i : List UInt8} {b : Bool} (ht : P.underlying t = some (.struct (P.fieldsOf t))) (hp : P.stoodInHeld t = false)
    (hf : (P.fieldsOf t).toList.map (fun f => (decide (f.name = "_"), f.type, f.offset)) = [(false, ts, 0), (false, tu, 1), (false, tv, 2)])
    (s1 : scal P ts = true) (s2 : scal P tu = true) (s3 : scal P tv = true) (u1 : P.underlying ts = some (.int .u8)) (u2 : P.underlying tu = some .string) (u3 : P.underlying tv = some .bool) (w : World) :
    (Op.equalIn 10000 t (.agg #[.int .u8 m, strv i, .bool b]) (.agg #[.int .u8 m, strv i, .bool b])).run P w = .ok true w := by
  rw [run_equalIn_struct w 9999 t _ _ ht hp]
  generalize (P.fieldsOf t).toList = fs at hf
  obtain ⟨f, g, e, rfl⟩ : ∃ f g e, fs = [f, g, e] := by
    rcases fs with _ | ⟨f, _ | ⟨g, _ | ⟨e, _ | ⟨_, _⟩⟩⟩⟩ <;> simp at hf ⊢
  simp only [List.map_cons, List.map_nil, List.cons.injEq, Prod.mk.injEq, decide_eq_false_iff_not, and_true] at hf
  obtain ⟨⟨f1, f2, f3⟩, ⟨g1, g2, g3⟩, e1, e2, e3⟩ := hf
  subst f2 g2 e2
  have q1 : (Op.equalIn 9999 f.type (.int .u8 m) (.int .u8 m)).run P w = .ok true w := by
    rw [run_equalIn_int w 9998 f.type .u8 .u8 _ _ u1]; simp
  have q2 : (Op.equalIn 9999 g.type (strv i) (strv i)).run P w = .ok true w := by
    unfold strv
    rw [run_equalIn_string w 9998 g.type _ _ u2]; simp
  have q3 : (Op.equalIn 9999 e.type (.bool b) (.bool b)).run P w = .ok true w := by
    rw [run_equalIn_bool w 9998 e.type _ _ u3]; simp
  have p1 : (part f.type #[.int .u8 m, strv i, .bool b] f.offset).run P w = .ok (.int .u8 m) w := part_scal s1 (by rw [f3]; rfl)
  have p2 : (part g.type #[.int .u8 m, strv i, .bool b] g.offset).run P w = .ok (strv i) w := part_scal s2 (by rw [g3]; rfl)
  have p3 : (part e.type #[.int .u8 m, strv i, .bool b] e.offset).run P w = .ok (.bool b) w := part_scal s3 (by rw [e3]; rfl)
  simp [Op.eqFields, f1, g1, e1, Sem.run_bind, p1, p2, p3, q1, q2, q3, Result.andThen_ok]
theorem Fq {t yt ts tu tv : TypeId} {x y : Operand} {m : Int} {i : List UInt8} {c : Bool} (ht : P.underlying t = some (.struct (P.fieldsOf t))) (hp : P.stoodInHeld t = false) (hm : P.eqGuardType P.depth t = false)
    (hf : (P.fieldsOf t).toList.map (fun f => (decide (f.name = "_"), f.type, f.offset)) = [(false, ts, 0), (false, tu, 1), (false, tv, 2)])
    (s1 : scal P ts = true) (s2 : scal P tu = true) (s3 : scal P tv = true) (u1 : P.underlying ts = some (.int .u8)) (u2 : P.underlying tu = some .string) (u3 : P.underlying tv = some .bool)
    (ho : o.op = .binOp .neq t x y yt := by exact rfl) (hx : evo σ x = some (.agg #[.int .u8 m, strv i, .bool c]) := by exact rfl) (hy : evo σ y = some (.agg #[.int .u8 m, strv i, .bool c]) := by exact rfl) : Yv P n ds F σ o (.bool false) := by
  intro a w e _
  have q := fun w => eq_flag (m := m) (i := i) (b := c) ht hp hf s1 s2 s3 u1 u2 u3 w
  simp [execOp, ho, e.eval hx, e.eval hy, run_eqGuard_agg w _ _ _ _ _ _ hm, run_neq_struct, q]
end
end Go.Eng
namespace Go.Proofs.YtdmepoiijgejhaaDoor
open Go Go.Eng
theorem lu63 : Tryd.prog.underlying 63 = some (.struct (Tryd.prog.fieldsOf 63)) := by kernel_rfl
theorem lp63 : Tryd.prog.stoodInHeld 63 = false := by kernel_rfl
theorem lm63 : Tryd.prog.eqGuardType Tryd.prog.depth 63 = false := by kernel_rfl
theorem lf63 : (Tryd.prog.fieldsOf 63).toList.map (fun f => (decide (f.name = "_"), f.type, f.offset)) = [(false, 5, 0), (false, 9, 1), (false, 4, 2)] := by kernel_rfl
def mark1 : Flg := ⟨33, [], false⟩
def mark2 : Flg := ⟨63, [], false⟩
set_option maxHeartbeats 1000000 in
theorem sameFlags_fn (fl : List Flg) (a a' : Option Addr) (m m' c c' : Nat) (hm : m = fl.length + 2) (hm' : m' = fl.length) (hb : fl.length ≤ 1000000) :
    FnS Tryd.prog 24 [.slice a m c, .slice a' m' c'] (fun h => Rdl h a (flsC (fl ++ [mark1, mark2])) ∧ Rdl h a' (flsC fl)) [] (fun v H => v = .bool true ∧ H = []) := by
  subst hm hm'
  refine fn_body Tryd.func24 rfl Tryd.ntmps24 rfl ?_
  intro F hF
  have r1 := hF.1
  have r2 := hF.2
  have n1 := flsC_len (fl ++ [mark1, mark2])
  have n2 := flsC_len fl
  rw [List.length_append] at n1
  simp only [List.length_cons, List.length_nil] at n1
  have sa : a.isSome = true := r1.some (by omega)
  refine g_sr ?_
  refine Li As ?_
  refine g_ne ?_
  refine g_seq ?_
  refine g_sr ?_
  refine Li As ?_
  refine g_ne ?_
  refine g_block ?_
  refine Lo (ι := Nat) [6, 7, 8, 9, 12, 13, 14, 15, 16, 17, 18, 19, 20, 4, 10, 11, 5] (fun i => i ≤ fl.length) (fun i => [(5, .int .i64 (i : Int))]) (fun i => []) (fun i => fl.length - i) (0) (Nat.zero_le _) ?_
  rintro i hi
  refine g_seq ?_
  refine g_sr ?_
  refine Li Mv ?_
  refine Li Mv ?_
  refine Li (Ln T.sl_32) ?_
  refine Li Cm ?_
  refine g_ne ?_
  refine g_cond rfl ?_ ?_
  · intro h1
    replace h1 := nrm h1
    obtain ⟨⟨xl, xa, xh⟩, e1⟩ : ∃ x, fl[i]? = some x := ⟨_, List.getElem?_eq_getElem (show i < fl.length by omega)⟩
    have e2 : (fl ++ [mark1, mark2])[i]? = some ⟨xl, xa, xh⟩ := by rw [List.getElem?_append_left (by omega)]; exact e1
    have k1 : ((flsC (fl ++ [mark1, mark2])).drop (i * 3)).take 3 = [.int .u8 (xl : Int), strv xa, .bool xh] := flsC_at _ i _ e2
    have k2 : ((flsC fl).drop (i * 3)).take 3 = [.int .u8 (xl : Int), strv xa, .bool xh] := flsC_at _ i _ e1
    have sb : a'.isSome = true := r2.some (by omega)
    refine g_skip ?_
    refine e_then ?_
    refine g_seq ?_
    refine g_block ?_
    refine g_seq ?_
    refine g_drw T.mix .nil fun F1 le1 hin1 back1 => ?_
    have r3 := r1.mono le1
    have r4 := r2.mono le1
    refine Dt 0 rfl Mv ?_
    refine Dt 1 rfl Mv ?_
    refine Dt 2 rfl (Ix T.sl_32) ?_
    refine Dt 3 rfl (LfN T.ag_63) ?_
    refine Dt 4 rfl Mv ?_
    refine Dt 5 rfl Mv ?_
    refine Dt 6 rfl (Ix T.sl_32) ?_
    refine Dt 7 rfl (LfN T.ag_63) ?_
    refine Dt 8 rfl (Fq lu63 lp63 lm63 lf63 T.sc_5 T.sc_9 T.sc_4 T.u_5 T.u_9 T.u_4) ?_
    refine gh_done (by kernel_rfl) back1 ?_
    refine e_then ?_
    refine g_cond_f rfl (by rfl) ?_
    refine g_skip ?_
    refine e_block ?_
    refine e_then ?_
    refine g_region ?_
    refine Li Mv ?_
    refine Li Im ?_
    refine Li As ?_
    refine g_nil ?_
    refine Ro (i + 1) ((by omega)) (by omega)
  · intro h1
    replace h1 := nrm h1
    have e1 : (fl ++ [mark1, mark2])[fl.length]? = some mark1 := by simp
    have e2 : (fl ++ [mark1, mark2])[fl.length + 1]? = some mark2 := by simp
    have k1 : (flsC (fl ++ [mark1, mark2]))[fl.length * 3 + 0]? = some (.int .u8 33) := flat_at flC 3 (fun _ => rfl) _ _ _ e1 0 (by omega)
    have k2 : (flsC (fl ++ [mark1, mark2]))[(fl.length + 1) * 3 + 0]? = some (.int .u8 63) := flat_at flC 3 (fun _ => rfl) _ _ _ e2 0 (by omega)
    refine g_exit ?_
    refine e_then_exit ?_
    refine e_then_exit ?_
    refine e_block_hit ?_
    refine e_then ?_
    refine g_sr ?_
    refine Li Mv ?_
    refine Li (Ln T.sl_32) ?_
    refine Li Mv ?_
    refine Li (Ln T.sl_32) ?_
    refine Li Im ?_
    refine Li Cm ?_
    refine Li Mv ?_
    refine g_slot (t := 27) (v' := .bool true) rfl (congrArg Value.bool (by (rw [decide_eq_true_eq]; omega))) ?_
    refine Li Mv ?_
    refine Li Mv ?_
    refine Li (Ln T.sl_32) ?_
    refine Li (Ix T.sl_32) ?_
    refine Li (Fam T.fld_63_0) ?_
    refine Lp (oL T.sc_5 ?_)
    refine Li Cm ?_
    refine Li Pt ?_
    refine Li Mv ?_
    refine g_slot (t := 36) (v' := .bool true) rfl (congrArg Value.bool (by rfl)) ?_
    refine Li Mv ?_
    refine Li Mv ?_
    refine Li (Ln T.sl_32) ?_
    refine Li Im ?_
    refine Li (Ix T.sl_32 (j := fl.length + 1) (hj := by omega)) ?_
    refine Li (Fam T.fld_63_0) ?_
    refine Lp (oL T.sc_5 ?_)
    refine Li Cm ?_
    refine Li Pt ?_
    refine Li As ?_
    refine g_ne ?_
    refine g_ret ?_
    refine Rt [] Tryd.results24 ?_
    exact ⟨rfl, rfl⟩
theorem pts_mono {b : Nat} {e : TypeId} {cs : List Value} {h k : Hp} (p : pts b e cs h) (le : Le h k) : pts b e cs k := by
  obtain ⟨lo, hi, hf, hb⟩ := p
  exact ⟨lo, hi, hf, le _ _ hb⟩
theorem own_mono {a : Option Addr} {cap e sz : Nat} {xs : List Value} {h k : Hp} (o : own a cap e sz xs h) (le : Le h k) : own a cap e sz xs k := by
  obtain ⟨h1, h2, h3 | ⟨b, sp, h4, h5, h6⟩⟩ := o
  · exact ⟨h1, h2, .inl h3⟩
  · exact ⟨h1, h2, .inr ⟨b, sp, h4, h5, pts_mono h6 le⟩⟩
theorem stars_mono {α : Type} {f g : α → HProp} (hx : ∀ a k, f a k → g a k) : ∀ (L : List α) (h : Hp), starL (L.map f) h → starL (L.map g) h := by
  intro L
  induction L with
  | nil => intros; trivial
  | cons b r ih =>
    intro h s
    obtain ⟨h1, h2, d, l1, l2, p, s2⟩ := s
    exact ⟨h1, h2, d, l1, l2, hx _ _ p, ih _ s2⟩
theorem Qb_P0 (x : Bi) (h : Hp) (q : Qb x h) : P0 x.r h := by
  obtain ⟨⟨n1, _⟩, h1, h2, d, l1, l2, o1, _⟩ := q
  exact ⟨x.L, n1.symm, own_mono o1 l1⟩
set_option maxHeartbeats 1000000 in
theorem close_fn (b : Nat) (ai : Option Addr) (ci : Nat) (aw : Option Addr) (cw : Nat) (xs : List Bi) (n : Int) (ok : BkOk xs ci cw n) (hn : n ≤ 300000) :
    FnS Tryd.prog 27 [.pointer (some ⟨b, 0, none⟩)] (fun _ => True) (bkH b ai ci aw cw xs n) (fun v H => v = .bool true ∧ H = []) := by
  obtain ⟨c1, c2, idx, n0, ln, top⟩ := ok
  have hx : xs.length ≤ 1000000 := by omega
  have hrl : (xs.map (·.r)).length = xs.length := by simp
  have hidx : ∀ (i : Nat) (r : Rw), (xs.map (·.r))[i]? = some r → r.k = i := fun i r h => by
    rw [List.getElem?_map] at h
    obtain ⟨x, h1, rfl⟩ := Option.map_eq_some_iff.1 h
    exact idx i x h1
  refine FnS.of_pre (X := True) (fun _ _ => trivial) fun _ => ?_
  refine fn_body Tryd.func27 rfl Tryd.ntmps27 rfl ?_
  intro F hF
  refine g_fact (X := ∀ x ∈ xs, x.r.n = x.L.length) (fun h hin => by
    obtain ⟨k, s, le⟩ := hin.nth 3 rfl
    exact stars_all (f := Qb) (X := fun x _ => x.r.n = x.L.length) (fun x k q => q.1.1) (fun x k l q _ => q) _ _ s) fun hrn => ?_
  have hrn2 : ∀ r ∈ xs.map (·.r), r.n ≤ 20000 := fun r hr => by
    obtain ⟨x, h1, rfl⟩ := List.mem_map.1 hr
    rw [hrn x h1]; exact top x h1
  refine g_sr ?_
  refine Li As ?_
  refine g_ne ?_
  refine g_sr ?_
  refine Li Mv ?_
  refine Lp (oC T.fn_47 rfl rfl (stands_fn b ai ci aw cw xs n hx top) .nil (fun _ _ hin => StI.of hin) ?_)
  rintro v H' ⟨rfl, rfl⟩
  try simp only [nap, cap]
  refine Li Mv ?_
  refine g_slot (t := 5) (v' := .bool true) rfl (congrArg Value.bool (by rfl)) ?_
  refine g_heap (H' := [pts b 60 (bkC nilS nilS nilS nilS (.slice ai (xs.map (·.r)).length ci) (.slice aw xs.length cw) nilS nilS n), own ai ci 39 1 ((xs.map (·.r)).map slv), stars ((xs.map (·.r)).map P0)]) (fun h q => ?_) ?_
  · have q1 : starL [pts b 60 (bkC nilS nilS nilS nilS (.slice ai xs.length ci) (.slice aw xs.length cw) nilS nilS n), own ai ci 39 1 (xs.map bir), stars (xs.map Qb)] h := ents (As := [_, _, _]) (.cons .here (.cons .here (.cons (.there .here) .nil))) h q
    rw [hrl, List.map_map, List.map_map, show slv ∘ (fun x : Bi => x.r) = bir from rfl]
    refine starL_tail (fun k s => starL_tail (fun l t => starL_cons_mono (fun m u => ?_) t) s) q1
    exact stars_mono (f := Qb) (g := P0 ∘ fun x : Bi => x.r) (fun x k p => Qb_P0 x k p) _ _ u
  refine Li Mv ?_
  refine Lp (oC T.fn_48 rfl rfl (close48_nil b _ _ _ _ n) .nil (fun _ _ hin => hin.nth 0 rfl) ?_)
  rintro v H' ⟨rfl, rfl⟩
  try simp only [nap, cap]
  refine Li Pt ?_
  refine Li Mv ?_
  refine g_slot (t := 9) (v' := .bool true) rfl (congrArg Value.bool (by rfl)) ?_
  refine Li Mv ?_
  refine Lp (oC T.fn_49 rfl rfl (closeI_fn b ai ci (.slice aw xs.length cw) n (xs.map (·.r)) (by omega) hidx hrn2) (.cons .here (.cons .here (.cons .here .nil))) (fun _ _ _ => trivial) ?_)
  rintro v H' ⟨rfl, v6, v7, rfl⟩
  try simp only [nap, cap]
  refine Li Pt ?_
  refine Li Mv ?_
  refine g_slot (t := 13) (v' := .bool true) rfl (congrArg Value.bool (by rfl)) ?_
  refine Li Mv ?_
  refine Lp (oC T.fn_50 rfl rfl (close50_nil b _ _ _ _ n) .nil (fun _ _ hin => hin.nth 0 rfl) ?_)
  rintro v H' ⟨rfl, rfl⟩
  try simp only [nap, cap]
  refine Li Pt ?_
  refine Li Mv ?_
  refine g_slot (t := 17) (v' := .bool true) rfl (congrArg Value.bool (by rfl)) ?_
  refine Li Mv ?_
  refine Lp (oC T.fn_51 rfl rfl (close51_nil b _ _ _ _ n) .nil (fun _ _ hin => hin.nth 0 rfl) ?_)
  rintro v H' ⟨rfl, rfl⟩
  try simp only [nap, cap]
  refine Li Pt ?_
  refine Li Mv ?_
  refine g_slot (t := 21) (v' := .bool true) rfl (congrArg Value.bool (by rfl)) ?_
  refine Li Mv ?_
  refine Lp (oC T.fn_52 rfl rfl (close52_nil b _ _ _ _ n) .nil (fun _ _ hin => hin.nth 0 rfl) ?_)
  rintro v H' ⟨rfl, rfl⟩
  try simp only [nap, cap]
  refine Li Pt ?_
  refine Li Mv ?_
  refine g_slot (t := 25) (v' := .bool true) rfl (congrArg Value.bool (by rfl)) ?_
  refine Li Mv ?_
  refine Lp (oC T.fn_53 rfl rfl (close53_nil b _ _ _ _ n) .nil (fun _ _ hin => hin.nth 0 rfl) ?_)
  rintro v H' ⟨rfl, rfl⟩
  try simp only [nap, cap]
  refine Li Pt ?_
  refine Li Mv ?_
  refine g_slot (t := 29) (v' := .bool true) rfl (congrArg Value.bool (by rfl)) ?_
  refine Li Mv ?_
  refine Lp (oC T.fn_54 rfl rfl (close54_nil b _ _ _ _ n) .nil (fun _ _ hin => hin.nth 0 rfl) ?_)
  rintro v H' ⟨rfl, rfl⟩
  try simp only [nap, cap]
  refine Li Pt ?_
  refine Li As ?_
  refine g_ne ?_
  refine g_ret ?_
  refine Rt [] Tryd.results27 ?_
  exact ⟨rfl, rfl⟩
end Go.Proofs.YtdmepoiijgejhaaDoor

