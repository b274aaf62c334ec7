/- Counts: a text's first word; flags. -/
import Derived.Test.YtdmepoiijgejhaaDoorK3
import Derived.Laws.StandIn
set_option maxRecDepth 100000
namespace Go.Proofs.YtdmepoiijgejhaaDoor
open Go Go.Eng

/-- where a byte stands first; -1: nowhere -/
def idxB (l : List UInt8) (c : UInt8) : Int := match (List.range l.length).find? fun i => (ByteArray.mk l.toArray)[i]! == c with | some i => (i : Int) | none => -1
theorem ba_get (l : List UInt8) (i : Nat) (h : i < l.length) : (ByteArray.mk l.toArray)[i]! = l[i] := by
  have hs : i < (ByteArray.mk l.toArray).size := by show i < l.toArray.size; simpa using h
  rw [getElem!_pos (ByteArray.mk l.toArray) i hs]
  simp [ByteArray.getElem_eq_getElem_data]
theorem idxB_spec (l : List UInt8) (c : UInt8) : (idxB l c = -1 ∧ ∀ i (h : i < l.length), l[i] ≠ c) ∨ ∃ i : Nat, idxB l c = (i : Int) ∧ ∃ h : i < l.length, l[i] = c ∧ ∀ j (hj : j < i), l[j] ≠ c := by
  unfold idxB
  cases hf : (List.range l.length).find? fun i => (ByteArray.mk l.toArray)[i]! == c with
  | none =>
    refine .inl ⟨rfl, fun i h => ?_⟩
    have := List.find?_eq_none.1 hf i (by simpa using h)
    rw [ba_get l i h] at this
    simpa using this
  | some i =>
    obtain ⟨h1, h2, h3⟩ := List.find?_range_eq_some.1 hf
    have hi : i < l.length := by simpa using h2
    refine .inr ⟨i, rfl, hi, ?_, fun j hj => ?_⟩
    · rw [ba_get l i hi] at h1; simpa using h1
    · have := h3 j hj
      rw [ba_get l j (by omega)] at this
      simpa using this
def wordM (l : List UInt8) : List UInt8 := l.takeWhile fun c => !(c == 32)
theorem takeWhile_at (l : List UInt8) (c : UInt8) (i : Nat) (h : i < l.length) (h1 : l[i] = c) (h2 : ∀ j (hj : j < i), l[j] ≠ c) : (l.takeWhile fun x => !(x == c)) = l.take i := by
  induction l generalizing i with
  | nil => simp at h
  | cons x r ih =>
    cases i with
    | zero =>
      simp at h1
      subst h1
      simp
    | succ i =>
      have hx : x ≠ c := by have := h2 0 (by omega); simpa using this
      simp only [List.takeWhile_cons, List.take_succ_cons]
      have : (!(x == c)) = true := by simpa using hx
      rw [this]
      simp only [if_true]
      rw [ih i (by simpa using h) (by simpa using h1) fun j hj => by have := h2 (j + 1) (by omega); simpa using this]
theorem takeWhile_no (l : List UInt8) (c : UInt8) (h : ∀ i (h : i < l.length), l[i] ≠ c) : (l.takeWhile fun x => !(x == c)) = l := by
  induction l with
  | nil => rfl
  | cons x r ih =>
    have hx : x ≠ c := by have := h 0 (by simp); simpa using this
    have : (!(x == c)) = true := by simpa using hx
    rw [List.takeWhile_cons, this]
    simp only [if_true]
    rw [ih fun i hi => by have := h (i + 1) (by simpa using hi); simpa using this]

section
variable {P : Program} {n : Nat} {ds : List Deferred} {F : Frm} {Q : Exit → Act → World → Prop} {K : Act → World → Prop} {σ : Slots} {H : List HProp} {o : Oper} {d : Nat}
theorem oXi {f : FuncId} {ats : Array TypeId} {x y : Operand} {l : List UInt8} {c : Nat} (he : isEx P f Extern.BytealgIndexByte.indexByte) (h : G n ds F K ((d, .int .i64 (idxB l (UInt8.ofNat c))) :: σ) H) (ho : o.op = .call { callee := .value (.func f), args := #[x, y], argTypes := ats } := by exact rfl) (hd : o.dst = some d := by exact rfl)
    (hx : evo σ x = some (strv l) := by exact rfl) (hy : evo σ y = some (.int .u8 (c : Int)) := by exact rfl) (hdn : Nat.blt d n = true := by exact rfl) : G n ds F (fun a w => o.wp P a w K Q) σ H := by
  obtain ⟨fn, h1, h2, h3, h4, h5⟩ := he
  refine op_run hd hdn (fun a w en s => ?_) h
  rw [run_ex (xs := [x, y]) ho rfl]
  simp only [List.map_cons, List.map_nil, en.eval hx, en.eval hy]
  rw [run_callFunc_indexByte h1 h2 h3 h4 h5]
  have hsz : (ByteArray.mk l.toArray).size = l.length := by show l.toArray.size = l.length; simp
  unfold strv idxB
  change (Sem.run P (do
    let b ← Extern.Bytes.bytesOf (.string ⟨l.toArray⟩)
    let c' ← Extern.Bytes.asByte (.int .u8 (c : Int))
    match (List.range b.size).find? fun i => b[i]! == c' with
    | some i => pure (goInt i)
    | none => pure (goInt (-1))) w).andThen _ = _
  simp only [Extern.Bytes.bytesOf, Extern.Bytes.asByte, Sem.run_bind, Sem.run_pure, Result.andThen_ok, hsz, Int.toNat_natCast]
  have e : c.toUInt8 = UInt8.ofNat c := rfl
  rw [e]
  cases (List.range l.length).find? fun i => (ByteArray.mk l.toArray)[i]! == UInt8.ofNat c <;> rfl
end
theorem ex111 : isEx Tryd.prog 111 Extern.BytealgIndexByte.indexByte := ⟨Tryd.f111, Tryd.func111, by kernel_rfl, by kernel_rfl, by kernel_rfl, by kernel_rfl⟩
theorem indexByte_fn (l : List UInt8) (c : Nat) : FnS Tryd.prog 107 [strv l, .int .u8 (c : Int)] (fun _ => True) [] (fun v H => v = .int .i64 (idxB l (UInt8.ofNat c)) ∧ H = []) := by
  refine fn_body Tryd.func107 rfl Tryd.ntmps107 rfl ?_
  intro F hF
  refine g_sr ?_
  refine Li As ?_
  refine g_ne ?_
  refine g_sr ?_
  refine Li Mv ?_
  refine Li Mv ?_
  refine Lp (oXi ex111 ?_)
  refine Li As ?_
  refine g_ne ?_
  refine g_ret ?_
  refine Rt [] Tryd.results107 ?_
  exact ⟨rfl, rfl⟩
theorem index_fn (l : List UInt8) : FnS Tryd.prog 104 [strv l, strv [32]] (fun _ => True) [] (fun v H => v = .int .i64 (idxB l 32) ∧ H = []) := by
  refine fn_body Tryd.func104 rfl Tryd.ntmps104 rfl ?_
  intro F hF
  have h0 : ([32] : List UInt8)[0]? = some 32 := rfl
  refine g_sr ?_
  refine Li As ?_
  refine g_ne ?_
  refine g_sr ?_
  refine Li Mv ?_
  refine Li (Ls T.u_9) ?_
  refine Li As ?_
  refine g_ne ?_
  refine g_seq ?_
  refine g_block ?_
  refine g_sr ?_
  refine Li Mv ?_
  refine Li Cm ?_
  refine Li Mv ?_
  refine g_slot (t := 19) (v' := .bool false) rfl (congrArg Value.bool (by rfl)) ?_
  refine Li Mv ?_
  refine Li Mv ?_
  refine Li Sq ?_
  refine Li Pf ?_
  refine Li As ?_
  refine g_ne ?_
  refine g_cond rfl ?_ ?_
  · intro h1
    replace h1 := nrm h1
    refine g_sr ?_
    refine Li As ?_
    refine g_ne ?_
    refine g_ret ?_
    refine e_block_ret ?_
    refine e_then_ret ?_
    refine Rt [] Tryd.results104 ?_
    refine ⟨?_, rfl⟩
    subst h1
    rfl
  · intro h1
    replace h1 := nrm h1
    refine g_sr ?_
    refine Li Mv ?_
    refine Li Cm ?_
    refine Li As ?_
    refine g_ne ?_
    refine g_cond_t rfl (by rfl) ?_
    refine g_sr ?_
    refine Li Mv ?_
    refine Li Mv ?_
    refine Li (Is (j := 0) T.u_9) ?_
    refine Lp (oC T.fn_107 rfl rfl (indexByte_fn l 32) .nil (fun _ _ _ => trivial) ?_)
    rintro v H' ⟨rfl, rfl⟩
    try simp only [nap, cap]
    refine Li As ?_
    refine g_ne ?_
    refine g_ret ?_
    refine e_block_ret ?_
    refine e_then_ret ?_
    refine Rt [] Tryd.results104 ?_
    exact ⟨rfl, rfl⟩
def afterM (l : List UInt8) : List UInt8 := l.drop ((wordM l).length + 1)
theorem cut93_fn (l : List UInt8) (hl : l.length ≤ 9223372036854775807) : FnS Tryd.prog 93 [strv l, strv [32]] (fun _ => True) [] (fun v H => (∃ r f, v = .tuple #[strv (wordM l), strv r, .bool f]) ∧ H = []) := by
  refine fn_body Tryd.func93 rfl Tryd.ntmps93 rfl ?_
  intro F hF
  refine g_sr ?_
  refine Li As ?_
  refine Li As ?_
  refine Li As ?_
  refine g_ne ?_
  refine g_seq ?_
  refine g_sr ?_
  refine Li Mv ?_
  refine Li Mv ?_
  refine Lp (oC T.fn_104 rfl rfl (index_fn l) .nil (fun _ _ _ => trivial) ?_)
  rintro v H' ⟨rfl, rfl⟩
  try simp only [nap, cap]
  rcases idxB_spec l 32 with ⟨h1, h2⟩ | ⟨i, h1, hi, h2, h3⟩
  · rw [h1]
    have hw : wordM l = l := takeWhile_no l 32 h2
    refine Li As ?_
    refine g_ne ?_
    refine g_sr ?_
    refine Li Mv ?_
    refine Li Cm ?_
    refine g_ne ?_
    refine g_cond_f rfl (by rfl) ?_
    refine g_skip ?_
    refine e_then ?_
    refine g_sr ?_
    refine Li Mv ?_
    refine Li As ?_
    refine Li As ?_
    refine Li As ?_
    refine g_ne ?_
    refine g_ret ?_
    refine Rt3 [] Tryd.results93 ?_
    exact ⟨⟨[], false, by rw [hw]; rfl⟩, rfl⟩
  · rw [h1]
    have hw : wordM l = l.take i := takeWhile_at l 32 i hi h2 h3
    have h1 : ([32] : List UInt8).length = 1 := rfl
    refine Li As ?_
    refine g_ne ?_
    refine g_sr ?_
    refine Li Mv ?_
    refine Li Cm ?_
    refine g_ne ?_
    refine g_cond_t rfl (by simp) ?_
    refine g_seq ?_
    refine g_drw T.mix .nil fun F1 le1 hin1 back1 => ?_
    refine Dt 0 rfl Mv ?_
    refine Dt 1 rfl Mv ?_
    refine Dt 2 rfl (Ss 0 _ T.u_9) ?_
    refine Dt 3 rfl Mv ?_
    refine Dt 4 rfl Mv ?_
    refine Dt 5 rfl Mv ?_
    refine Dt 6 rfl (Ls T.u_9) ?_
    refine Dt 7 rfl Im ?_
    refine Dt 8 rfl (Ss _ _ T.u_9) ?_
    refine Dt 9 rfl As ?_
    refine Dt 10 rfl As ?_
    refine Dt 11 rfl As ?_
    refine gh_done (by kernel_rfl) back1 ?_
    refine e_then ?_
    refine g_ret ?_
    refine e_then_ret ?_
    refine Rt3 [] Tryd.results93 ?_
    rw [hw]
    exact ⟨⟨List.take (l.length - (i + [32].length)) (List.drop (i + [32].length) l), true, rfl⟩, rfl⟩
theorem cut61_fn (l : List UInt8) (hl : l.length ≤ 9223372036854775807) : FnS Tryd.prog 61 [strv l, strv [32]] (fun _ => True) [] (fun v H => (∃ r f, v = .tuple #[strv (wordM l), strv r, .bool f]) ∧ H = []) := by
  refine fn_body Tryd.func61 rfl Tryd.ntmps61 rfl ?_
  intro F hF
  refine g_sr ?_
  refine Li As ?_
  refine Li As ?_
  refine Li As ?_
  refine g_ne ?_
  refine g_sr ?_
  refine Li Mv ?_
  refine Li Mv ?_
  refine Lp (oC T.fn_93 rfl rfl (cut93_fn l hl) .nil (fun _ _ _ => trivial) ?_)
  rintro v H' ⟨⟨r, f, rfl⟩, rfl⟩
  try simp only [nap, cap]
  refine Li Ex ?_
  refine Li Ex ?_
  refine Li Ex ?_
  refine Li As ?_
  refine Li As ?_
  refine Li As ?_
  refine g_ne ?_
  refine g_ret ?_
  refine Rt3 [] Tryd.results61 ?_
  exact ⟨⟨r, f, rfl⟩, rfl⟩
theorem hasPrefix_fn (l p : List UInt8) (hp : p.length ≤ 1000) : FnS Tryd.prog 94 [strv l, strv p] (fun _ => True) [] (fun v H => v = .bool (decide (l.take p.length = p)) ∧ H = []) := by
  refine fn_body Tryd.func94 rfl Tryd.ntmps94 rfl ?_
  intro F hF
  refine g_sr ?_
  refine Li As ?_
  refine g_ne ?_
  refine g_sr ?_
  refine Li Mv ?_
  refine Li (Ls T.u_9) ?_
  refine Li Mv ?_
  refine Li (Ls T.u_9) ?_
  refine Li Cm ?_
  refine Li Mv ?_
  refine g_split (t := 10) rfl ?_ ?_
  · intro h1
    replace h1 := nrm h1
    refine Li Mv ?_
    refine Li Mv ?_
    refine Li (Ls T.u_9) ?_
    refine Li (Ss 0 _ T.u_9) ?_
    refine Li Mv ?_
    refine Li Sq ?_
    refine Li Pt ?_
    refine Li As ?_
    refine g_ne ?_
    refine g_ret ?_
    refine Rt [] Tryd.results94 ?_
    refine ⟨?_, rfl⟩
    simp
  · intro h1
    replace h1 := nrm h1
    refine Lx ?_
    refine Lx ?_
    refine Lx ?_
    refine Lx ?_
    refine Lx ?_
    refine Lx ?_
    refine Li Pf ?_
    refine Li As ?_
    refine g_ne ?_
    refine g_ret ?_
    refine Rt [] Tryd.results94 ?_
    refine ⟨congrArg Value.bool (decide_eq_false fun q => ?_).symm, rfl⟩
    have := congrArg List.length q
    simp at this
    omega
theorem hasPrefix_fn' (l p : List UInt8) (hp : p.length ≤ 1000) : FnS Tryd.prog 64 [strv l, strv p] (fun _ => True) [] (fun v H => v = .bool (decide (l.take p.length = p)) ∧ H = []) := by
  refine fn_body Tryd.func64 rfl Tryd.ntmps64 rfl ?_
  intro F hF
  refine g_sr ?_
  refine Li As ?_
  refine g_ne ?_
  refine g_sr ?_
  refine Li Mv ?_
  refine Li Mv ?_
  refine Lp (oC T.fn_94 rfl rfl (hasPrefix_fn l p hp) .nil (fun _ _ _ => trivial) ?_)
  rintro v H' ⟨rfl, rfl⟩
  try simp only [nap, cap]
  refine Li As ?_
  refine g_ne ?_
  refine g_ret ?_
  refine Rt [] Tryd.results64 ?_
  exact ⟨rfl, rfl⟩
end Go.Proofs.YtdmepoiijgejhaaDoor

