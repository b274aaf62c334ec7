/- The book of lists, of bytes: does each list stand; the others, empty. -/
import Derived.Test.YtggmpaggmkfmoaaD1
set_option maxRecDepth 100000
namespace Go.Proofs.Ytggmpaggmkfmoaa
open Go Go.Eng

/-- what is read of the book -/
structure StI (h : Hp) (b : Nat) (ai : Option Addr) (ci : Nat) (aw : Option Addr) (cw : Nat) (xs : List Bi) (n : Int) : Prop where
  bk : ∃ k, pts b 32 (bkC (.slice ai xs.length ci) (.slice aw xs.length cw) nilS nilS n) k ∧ Le k h
  ri : Rdl h ai (xs.map bir)
  rw : Rdl h aw (xs.map biw)
  row : ∀ x ∈ xs, (x.r.n = x.L.length ∧ x.w.n = x.L.length) ∧ Rdl h x.r.a (bcells x.L) ∧ Rdl h x.w.a (bcells x.L)
theorem StI.of {h : Hp} {b : Nat} {ai : Option Addr} {ci : Nat} {aw : Option Addr} {cw : Nat} {xs : List Bi} {n : Int} (hin : InL (bkH b ai ci aw cw xs n) h) : StI h b ai ci aw cw xs n :=
  ⟨hin.nth 0 rfl, own_in (hin.nth 1 rfl), own_in (hin.nth 2 rfl), fun x hx => by
    obtain ⟨k, s, le⟩ := hin.nth 3 rfl
    have := stars_all (f := Qb) (X := fun x h => (x.r.n = x.L.length ∧ x.w.n = x.L.length) ∧ Rdl h x.r.a (bcells x.L) ∧ Rdl h x.w.a (bcells x.L)) (fun x k q => by
      obtain ⟨q1, h1, h2, d, l1, l2, o1, h3, h4, d', l3, l4, o2, _⟩ := q
      exact ⟨q1, (own_rdl o1).mono l1, (own_rdl o2).mono (l3.trans l2)⟩) (fun x k l q le => ⟨q.1, q.2.1.mono le, q.2.2.mono le⟩) _ _ s x hx
    exact ⟨this.1, this.2.1.mono le, this.2.2.mono le⟩⟩
set_option maxHeartbeats 2000000 in
theorem stands_fn (b : Nat) (ai : Option Addr) (ci : Nat) (aw : Option Addr) (cw : Nat) (xs : List Bi) (n : Int) (hx : xs.length ≤ 1000000) :
    FnS Try.prog 47 [.pointer (some ⟨b, 0, none⟩)] (fun h => StI h b ai ci aw cw xs n) [] (fun v H => v = .bool true ∧ H = []) := by
  refine fn_body Try.func47 rfl Try.ntmps47 rfl ?_
  intro F hF
  obtain ⟨hb, hri, hrw, hrow⟩ := hF
  have hbl := bir_len xs
  have hwl := biw_len xs
  refine g_sr ?_
  refine Li As ?_
  refine g_ne ?_
  refine g_seq ?_
  refine g_sr ?_
  refine Li As ?_
  refine g_ne ?_
  refine g_block ?_
  refine Lo (ι := Nat) [8, 9, 10, 11, 12, 13, 14, 17, 18, 19, 20, 21, 22, 23, 24, 25, 26, 27, 28, 29, 30, 31, 32, 33, 2, 15, 16, 3] (fun i => i ≤ xs.length) (fun i => [(3, .int .i64 (i : Int))]) (fun i => []) (fun i => xs.length - i) (0) (Nat.zero_le _) ?_
  rintro i hi
  refine g_seq ?_
  refine g_sr ?_
  refine Li Mv ?_
  refine Li Mv ?_
  refine Li Nc ?_
  refine Li (Fa T.fld_32_0) ?_
  refine Lp (oL T.sc_24 ?_)
  refine Li (Ln T.sl_24) ?_
  refine Li Cm ?_
  refine g_ne ?_
  refine g_cond rfl ?_ ?_
  · intro h1
    replace h1 := nrm h1
    obtain ⟨x, e1⟩ : ∃ x, xs[i]? = some x := ⟨_, List.getElem?_eq_getElem (show i < xs.length by omega)⟩
    have hmem := List.mem_of_getElem? e1
    obtain ⟨⟨n1, n2⟩, r1, r2⟩ := hrow x hmem
    have s1 : (xs.map bir)[i]? = some (.slice x.r.a x.r.n x.r.c) := by simp [e1, bir, slv]
    have s2 : (xs.map biw)[i]? = some (.slice x.w.a x.w.n x.w.c) := by simp [e1, biw, slv]
    have a1 : ai.isSome = true := hri.some (by omega)
    have a2 : aw.isSome = true := hrw.some (by omega)
    refine g_skip ?_
    refine e_then ?_
    refine g_seq ?_
    refine g_block ?_
    refine g_seq ?_
    refine g_drw T.mix .nil fun F1 le1 hin1 back1 => ?_
    have hb1 := in_mono hb le1
    have hri1 := hri.mono le1
    have hrw1 := hrw.mono le1
    have r3 := r1.mono le1
    have r4 := r2.mono le1
    refine Dt 0 rfl Mv ?_
    refine Dt 1 rfl Nc ?_
    refine Dt 2 rfl (Fa T.fld_32_0) ?_
    refine Dt 3 rfl (Lf T.sc_24) ?_
    refine Dt 4 rfl Mv ?_
    refine Dt 5 rfl (Ix T.sl_24) ?_
    refine Dt 6 rfl (Lf T.sc_37) ?_
    refine Dt 7 rfl (Ts T.sl_37 T.u_5 T.u_9) ?_
    refine Dt 8 rfl Mv ?_
    refine Dt 9 rfl Nc ?_
    refine Dt 10 rfl (Fa T.fld_32_1) ?_
    refine Dt 11 rfl (Lf T.sc_24) ?_
    refine Dt 12 rfl Mv ?_
    refine Dt 13 rfl (Ix T.sl_24) ?_
    refine Dt 14 rfl (Lf T.sc_37) ?_
    refine Dt 15 rfl (Ts T.sl_37 T.u_5 T.u_9) ?_
    refine Dt 16 rfl Sq ?_
    refine gh_done (by kernel_rfl) back1 ?_
    refine e_then ?_
    refine g_cond_f rfl (by simp) ?_
    refine g_skip ?_
    refine e_block ?_
    refine e_then ?_
    refine g_region ?_
    refine Li Mv ?_
    refine Li Im ?_
    refine Li As ?_
    refine g_nil ?_
    refine Ro (i + 1) ((by omega)) (by omega)
  · intro h1
    replace h1 := nrm h1
    refine g_exit ?_
    refine e_then_exit ?_
    refine e_then_exit ?_
    refine e_block_hit ?_
    refine e_then ?_
    refine g_seq ?_
    refine g_sr ?_
    refine Li As ?_
    refine g_ne ?_
    refine g_block ?_
    refine Lo (ι := Unit) [34, 35, 36, 37, 38, 39, 40, 43, 44, 45, 46, 47, 48, 49, 50, 51, 52, 53, 54, 55, 56, 57, 58, 2, 41, 42, 4] (fun u => True) (fun u => [(4, .int .i64 0)]) (fun u => []) (fun u => 0) (()) trivial ?_
    rintro u hI
    refine g_seq ?_
    refine g_sr ?_
    refine Li Mv ?_
    refine Li Mv ?_
    refine Li Nc ?_
    refine Li (Fa T.fld_32_4) ?_
    refine Lp (oL T.sc_25 ?_)
    refine Li (Ln T.sl_25) ?_
    refine Li Cm ?_
    refine g_ne ?_
    refine g_cond_f rfl (by rfl) ?_
    refine g_exit ?_
    refine e_then_exit ?_
    refine e_then_exit ?_
    refine e_block_hit ?_
    refine e_then ?_
    refine g_seq ?_
    refine g_sr ?_
    refine Li As ?_
    refine g_ne ?_
    refine g_block ?_
    refine Lo (ι := Unit) [59, 60, 61, 62, 63, 64, 65, 68, 69, 70, 71, 72, 73, 74, 75, 76, 77, 78, 79, 80, 81, 82, 83, 2, 66, 67, 5] (fun u => True) (fun u => [(5, .int .i64 0)]) (fun u => []) (fun u => 0) (()) trivial ?_
    rintro u hI
    refine g_seq ?_
    refine g_sr ?_
    refine Li Mv ?_
    refine Li Mv ?_
    refine Li Nc ?_
    refine Li (Fa T.fld_32_8) ?_
    refine Lp (oL T.sc_26 ?_)
    refine Li (Ln T.sl_26) ?_
    refine Li Cm ?_
    refine g_ne ?_
    refine g_cond_f rfl (by rfl) ?_
    refine g_exit ?_
    refine e_then_exit ?_
    refine e_then_exit ?_
    refine e_block_hit ?_
    refine e_then ?_
    refine g_seq ?_
    refine g_sr ?_
    refine Li As ?_
    refine g_ne ?_
    refine g_block ?_
    refine Lo (ι := Unit) [84, 85, 86, 87, 88, 89, 90, 93, 94, 95, 96, 97, 98, 99, 100, 101, 102, 103, 104, 105, 106, 107, 108, 2, 91, 92, 6] (fun u => True) (fun u => [(6, .int .i64 0)]) (fun u => []) (fun u => 0) (()) trivial ?_
    rintro u hI
    refine g_seq ?_
    refine g_sr ?_
    refine Li Mv ?_
    refine Li Mv ?_
    refine Li Nc ?_
    refine Li (Fa T.fld_32_12) ?_
    refine Lp (oL T.sc_27 ?_)
    refine Li (Ln T.sl_27) ?_
    refine Li Cm ?_
    refine g_ne ?_
    refine g_cond_f rfl (by rfl) ?_
    refine g_exit ?_
    refine e_then_exit ?_
    refine e_then_exit ?_
    refine e_block_hit ?_
    refine e_then ?_
    refine g_seq ?_
    refine g_sr ?_
    refine Li As ?_
    refine g_ne ?_
    refine g_block ?_
    refine Lo (ι := Unit) [109, 110, 111, 112, 113, 114, 115, 118, 119, 120, 121, 122, 123, 124, 125, 126, 127, 128, 129, 130, 131, 132, 133, 2, 116, 117, 7] (fun u => True) (fun u => [(7, .int .i64 0)]) (fun u => []) (fun u => 0) (()) trivial ?_
    rintro u hI
    refine g_seq ?_
    refine g_sr ?_
    refine Li Mv ?_
    refine Li Mv ?_
    refine Li Nc ?_
    refine Li (Fa T.fld_32_16) ?_
    refine Lp (oL T.sc_28 ?_)
    refine Li (Ln T.sl_28) ?_
    refine Li Cm ?_
    refine g_ne ?_
    refine g_cond_f rfl (by rfl) ?_
    refine g_exit ?_
    refine e_then_exit ?_
    refine e_then_exit ?_
    refine e_block_hit ?_
    refine e_then ?_
    refine g_sr ?_
    refine Li As ?_
    refine g_ne ?_
    refine g_ret ?_
    refine Rt [] Try.results47 ?_
    exact ⟨rfl, rfl⟩
theorem look72_nil (b : Nat) (c : Nat) : FnS Try.prog 72 [.pointer (some ⟨b, 0, none⟩), .slice none 0 0] (fun _ => True) [] (fun v H => v = .bool true ∧ H = []) := by
  refine fn_body Try.func72 rfl Try.ntmps72 rfl ?_
  intro F hF
  refine g_sr ?_
  refine Li As ?_
  refine g_ne ?_
  refine g_seq ?_
  refine g_sr ?_
  refine Li As ?_
  refine g_ne ?_
  refine g_block ?_
  refine Lo (ι := Unit) [8, 9, 10, 11, 14, 15, 16, 17, 18, 19, 20, 21, 6, 7, 22, 23, 24, 25, 26, 27, 28, 31, 32, 33, 34, 35, 36, 37, 38, 39, 40, 41, 42, 43, 44, 45, 46, 47, 48, 49, 50, 51, 52, 53, 54, 55, 56, 57, 58, 59, 60, 61, 62, 63, 64, 65, 66, 67, 68, 69, 70, 71, 72, 73, 74, 75, 76, 77, 4, 29, 30, 12, 13, 5] (fun u => True) (fun u => [(5, .int .i64 0)]) (fun u => []) (fun u => 0) (()) trivial ?_
  rintro u hI
  refine g_seq ?_
  refine g_sr ?_
  refine Li Mv ?_
  refine Li Mv ?_
  refine Li (Ln T.sl_25) ?_
  refine Li Cm ?_
  refine g_ne ?_
  refine g_cond_f rfl (by rfl) ?_
  refine g_exit ?_
  refine e_then_exit ?_
  refine e_then_exit ?_
  refine e_block_hit ?_
  refine e_then ?_
  refine g_sr ?_
  refine Li As ?_
  refine g_ne ?_
  refine g_ret ?_
  refine Rt [] Try.results72 ?_
  exact ⟨rfl, rfl⟩
theorem close49_nil (b : Nat) (v0 v1 v2 v3 : Value) (n : Int) : FnS Try.prog 49 [.pointer (some ⟨b, 0, none⟩)] (fun h => ∃ k, pts b 32 (bkC v0 v1 v2 v3 n) k ∧ Le k h) [] (fun v H => v = .bool true ∧ H = []) := by
  refine fn_body Try.func49 rfl Try.ntmps49 rfl ?_
  intro F hF
  refine g_sr ?_
  refine Li As ?_
  refine g_ne ?_
  refine g_seq ?_
  refine g_sr ?_
  refine Li As ?_
  refine g_ne ?_
  refine g_block ?_
  refine Lo (ι := Unit) [11, 12, 13, 14, 15, 16, 17, 4, 20, 21, 22, 23, 24, 25, 26, 27, 28, 29, 32, 33, 34, 35, 36, 37, 38, 39, 40, 41, 42, 30, 31, 18, 19, 3] (fun u => True) (fun u => [(3, .int .i64 0)]) (fun u => []) (fun u => 0) (()) trivial ?_
  rintro u hI
  refine g_seq ?_
  refine g_sr ?_
  refine Li Mv ?_
  refine Li Mv ?_
  refine Li Nc ?_
  refine Li (Fa T.fld_32_4) ?_
  refine Lp (oL T.sc_25 ?_)
  refine Li (Ln T.sl_25) ?_
  refine Li Cm ?_
  refine g_ne ?_
  refine g_cond_f rfl (by rfl) ?_
  refine g_exit ?_
  refine e_then_exit ?_
  refine e_then_exit ?_
  refine e_block_hit ?_
  refine e_then ?_
  refine g_seq ?_
  refine g_sr ?_
  refine Li As ?_
  refine g_ne ?_
  refine g_block ?_
  refine Lo (ι := Unit) [43, 44, 45, 46, 47, 48, 49, 52, 53, 54, 55, 56, 57, 58, 6, 7, 59, 60, 63, 64, 65, 66, 67, 61, 62, 68, 69, 70, 71, 72, 73, 74, 75, 76, 77, 50, 51, 5] (fun u => True) (fun u => [(5, .int .i64 0)]) (fun u => []) (fun u => 0) (()) trivial ?_
  rintro u hI
  refine g_seq ?_
  refine g_sr ?_
  refine Li Mv ?_
  refine Li Mv ?_
  refine Li Nc ?_
  refine Li (Fa T.fld_32_4) ?_
  refine Lp (oL T.sc_25 ?_)
  refine Li (Ln T.sl_25) ?_
  refine Li Cm ?_
  refine g_ne ?_
  refine g_cond_f rfl (by rfl) ?_
  refine g_exit ?_
  refine e_then_exit ?_
  refine e_then_exit ?_
  refine e_block_hit ?_
  refine e_then ?_
  refine g_seq ?_
  refine g_sr ?_
  refine Li Mv ?_
  refine Li Mv ?_
  refine Li Nc ?_
  refine Li (Fa T.fld_32_6) ?_
  refine Lp (oL T.sc_25 ?_)
  refine Lp (oC T.fn_72 rfl rfl (look72_nil b 0) .nil (fun _ _ _ => trivial) ?_)
  rintro v H' ⟨rfl, rfl⟩
  try simp only [nap, cap]
  refine Li Nt ?_
  refine g_ne ?_
  refine g_cond_f rfl (by rfl) ?_
  refine g_skip ?_
  refine e_then ?_
  refine g_seq ?_
  refine g_sr ?_
  refine Li As ?_
  refine g_ne ?_
  refine g_block ?_
  refine Lo (ι := Unit) [85, 86, 87, 88, 89, 90, 91, 9, 10, 94, 95, 98, 99, 100, 101, 102, 96, 97, 103, 104, 105, 106, 107, 108, 109, 110, 111, 112, 113, 114, 115, 116, 117, 118, 119, 120, 92, 93, 8] (fun u => True) (fun u => [(8, .int .i64 0)]) (fun u => []) (fun u => 0) (()) trivial ?_
  rintro u hI
  refine g_seq ?_
  refine g_sr ?_
  refine Li Mv ?_
  refine Li Mv ?_
  refine Li Nc ?_
  refine Li (Fa T.fld_32_4) ?_
  refine Lp (oL T.sc_25 ?_)
  refine Li (Ln T.sl_25) ?_
  refine Li Cm ?_
  refine g_ne ?_
  refine g_cond_f rfl (by rfl) ?_
  refine g_exit ?_
  refine e_then_exit ?_
  refine e_then_exit ?_
  refine e_block_hit ?_
  refine e_then ?_
  refine g_sr ?_
  refine Li Mv ?_
  refine Li Mv ?_
  refine Li Nc ?_
  refine Li (Fa T.fld_32_7) ?_
  refine Lp (oL T.sc_25 ?_)
  refine Lp (oC T.fn_72 rfl rfl (look72_nil b 0) .nil (fun _ _ _ => trivial) ?_)
  rintro v H' ⟨rfl, rfl⟩
  try simp only [nap, cap]
  refine Li Mv ?_
  refine g_slot (t := 127) (v' := .bool true) rfl (congrArg Value.bool (by rfl)) ?_
  refine Li Mv ?_
  refine Li Mv ?_
  refine Li Nc ?_
  refine Li (Fa T.fld_32_6) ?_
  refine Lp (oL T.sc_25 ?_)
  refine Lp (oC T.fn_72 rfl rfl (look72_nil b 0) .nil (fun _ _ _ => trivial) ?_)
  rintro v H' ⟨rfl, rfl⟩
  try simp only [nap, cap]
  refine Li Pt ?_
  refine Li As ?_
  refine g_ne ?_
  refine g_ret ?_
  refine Rt [] Try.results49 ?_
  exact ⟨rfl, rfl⟩
theorem look74_nil (b : Nat) (c : Nat) : FnS Try.prog 74 [.pointer (some ⟨b, 0, none⟩), .slice none 0 0] (fun _ => True) [] (fun v H => v = .bool true ∧ H = []) := by
  refine fn_body Try.func74 rfl Try.ntmps74 rfl ?_
  intro F hF
  refine g_sr ?_
  refine Li As ?_
  refine g_ne ?_
  refine g_seq ?_
  refine g_sr ?_
  refine Li As ?_
  refine g_ne ?_
  refine g_block ?_
  refine Lo (ι := Unit) [8, 9, 10, 11, 14, 15, 16, 17, 18, 19, 20, 21, 6, 7, 22, 23, 24, 25, 26, 27, 28, 31, 32, 33, 34, 35, 36, 37, 38, 39, 40, 41, 42, 43, 44, 45, 46, 47, 48, 49, 50, 51, 52, 53, 54, 55, 56, 57, 58, 59, 60, 61, 62, 63, 64, 65, 66, 67, 68, 69, 70, 71, 72, 73, 74, 75, 76, 77, 78, 4, 29, 30, 12, 13, 5] (fun u => True) (fun u => [(5, .int .i64 0)]) (fun u => []) (fun u => 0) (()) trivial ?_
  rintro u hI
  refine g_seq ?_
  refine g_sr ?_
  refine Li Mv ?_
  refine Li Mv ?_
  refine Li (Ln T.sl_26) ?_
  refine Li Cm ?_
  refine g_ne ?_
  refine g_cond_f rfl (by rfl) ?_
  refine g_exit ?_
  refine e_then_exit ?_
  refine e_then_exit ?_
  refine e_block_hit ?_
  refine e_then ?_
  refine g_sr ?_
  refine Li As ?_
  refine g_ne ?_
  refine g_ret ?_
  refine Rt [] Try.results74 ?_
  exact ⟨rfl, rfl⟩
theorem close50_nil (b : Nat) (v0 v1 v2 v3 : Value) (n : Int) : FnS Try.prog 50 [.pointer (some ⟨b, 0, none⟩)] (fun h => ∃ k, pts b 32 (bkC v0 v1 v2 v3 n) k ∧ Le k h) [] (fun v H => v = .bool true ∧ H = []) := by
  refine fn_body Try.func50 rfl Try.ntmps50 rfl ?_
  intro F hF
  refine g_sr ?_
  refine Li As ?_
  refine g_ne ?_
  refine g_seq ?_
  refine g_sr ?_
  refine Li As ?_
  refine g_ne ?_
  refine g_block ?_
  refine Lo (ι := Unit) [11, 12, 13, 14, 15, 16, 17, 4, 20, 21, 22, 23, 24, 25, 26, 27, 28, 29, 32, 33, 34, 35, 36, 37, 38, 39, 40, 41, 42, 30, 31, 18, 19, 3] (fun u => True) (fun u => [(3, .int .i64 0)]) (fun u => []) (fun u => 0) (()) trivial ?_
  rintro u hI
  refine g_seq ?_
  refine g_sr ?_
  refine Li Mv ?_
  refine Li Mv ?_
  refine Li Nc ?_
  refine Li (Fa T.fld_32_8) ?_
  refine Lp (oL T.sc_26 ?_)
  refine Li (Ln T.sl_26) ?_
  refine Li Cm ?_
  refine g_ne ?_
  refine g_cond_f rfl (by rfl) ?_
  refine g_exit ?_
  refine e_then_exit ?_
  refine e_then_exit ?_
  refine e_block_hit ?_
  refine e_then ?_
  refine g_seq ?_
  refine g_sr ?_
  refine Li As ?_
  refine g_ne ?_
  refine g_block ?_
  refine Lo (ι := Unit) [43, 44, 45, 46, 47, 48, 49, 52, 53, 54, 55, 56, 57, 58, 6, 7, 59, 60, 63, 64, 65, 66, 67, 68, 61, 62, 69, 70, 71, 72, 73, 74, 75, 76, 77, 78, 50, 51, 5] (fun u => True) (fun u => [(5, .int .i64 0)]) (fun u => []) (fun u => 0) (()) trivial ?_
  rintro u hI
  refine g_seq ?_
  refine g_sr ?_
  refine Li Mv ?_
  refine Li Mv ?_
  refine Li Nc ?_
  refine Li (Fa T.fld_32_8) ?_
  refine Lp (oL T.sc_26 ?_)
  refine Li (Ln T.sl_26) ?_
  refine Li Cm ?_
  refine g_ne ?_
  refine g_cond_f rfl (by rfl) ?_
  refine g_exit ?_
  refine e_then_exit ?_
  refine e_then_exit ?_
  refine e_block_hit ?_
  refine e_then ?_
  refine g_seq ?_
  refine g_sr ?_
  refine Li Mv ?_
  refine Li Mv ?_
  refine Li Nc ?_
  refine Li (Fa T.fld_32_10) ?_
  refine Lp (oL T.sc_26 ?_)
  refine Lp (oC T.fn_74 rfl rfl (look74_nil b 0) .nil (fun _ _ _ => trivial) ?_)
  rintro v H' ⟨rfl, rfl⟩
  try simp only [nap, cap]
  refine Li Nt ?_
  refine g_ne ?_
  refine g_cond_f rfl (by rfl) ?_
  refine g_skip ?_
  refine e_then ?_
  refine g_seq ?_
  refine g_sr ?_
  refine Li As ?_
  refine g_ne ?_
  refine g_block ?_
  refine Lo (ι := Unit) [86, 87, 88, 89, 90, 91, 92, 9, 10, 95, 96, 99, 100, 101, 102, 103, 104, 97, 98, 105, 106, 107, 108, 109, 110, 111, 112, 113, 114, 115, 116, 117, 118, 119, 120, 121, 122, 93, 94, 8] (fun u => True) (fun u => [(8, .int .i64 0)]) (fun u => []) (fun u => 0) (()) trivial ?_
  rintro u hI
  refine g_seq ?_
  refine g_sr ?_
  refine Li Mv ?_
  refine Li Mv ?_
  refine Li Nc ?_
  refine Li (Fa T.fld_32_8) ?_
  refine Lp (oL T.sc_26 ?_)
  refine Li (Ln T.sl_26) ?_
  refine Li Cm ?_
  refine g_ne ?_
  refine g_cond_f rfl (by rfl) ?_
  refine g_exit ?_
  refine e_then_exit ?_
  refine e_then_exit ?_
  refine e_block_hit ?_
  refine e_then ?_
  refine g_sr ?_
  refine Li Mv ?_
  refine Li Mv ?_
  refine Li Nc ?_
  refine Li (Fa T.fld_32_11) ?_
  refine Lp (oL T.sc_26 ?_)
  refine Lp (oC T.fn_74 rfl rfl (look74_nil b 0) .nil (fun _ _ _ => trivial) ?_)
  rintro v H' ⟨rfl, rfl⟩
  try simp only [nap, cap]
  refine Li Mv ?_
  refine g_slot (t := 129) (v' := .bool true) rfl (congrArg Value.bool (by rfl)) ?_
  refine Li Mv ?_
  refine Li Mv ?_
  refine Li Nc ?_
  refine Li (Fa T.fld_32_10) ?_
  refine Lp (oL T.sc_26 ?_)
  refine Lp (oC T.fn_74 rfl rfl (look74_nil b 0) .nil (fun _ _ _ => trivial) ?_)
  rintro v H' ⟨rfl, rfl⟩
  try simp only [nap, cap]
  refine Li Pt ?_
  refine Li As ?_
  refine g_ne ?_
  refine g_ret ?_
  refine Rt [] Try.results50 ?_
  exact ⟨rfl, rfl⟩
theorem look75_nil (b : Nat) (c : Nat) : FnS Try.prog 75 [.pointer (some ⟨b, 0, none⟩), .slice none 0 0] (fun _ => True) [] (fun v H => v = .bool true ∧ H = []) := by
  refine fn_body Try.func75 rfl Try.ntmps75 rfl ?_
  intro F hF
  refine g_sr ?_
  refine Li As ?_
  refine g_ne ?_
  refine g_seq ?_
  refine g_sr ?_
  refine Li As ?_
  refine g_ne ?_
  refine g_block ?_
  refine Lo (ι := Unit) [8, 9, 10, 11, 14, 15, 16, 17, 18, 19, 20, 21, 6, 7, 22, 23, 24, 25, 26, 27, 28, 31, 32, 33, 34, 35, 36, 37, 38, 39, 40, 41, 42, 43, 44, 45, 46, 47, 48, 49, 50, 51, 52, 53, 54, 55, 56, 57, 58, 59, 60, 61, 62, 63, 64, 65, 66, 67, 68, 69, 70, 71, 72, 73, 74, 75, 76, 77, 78, 79, 80, 4, 29, 30, 12, 13, 5] (fun u => True) (fun u => [(5, .int .i64 0)]) (fun u => []) (fun u => 0) (()) trivial ?_
  rintro u hI
  refine g_seq ?_
  refine g_sr ?_
  refine Li Mv ?_
  refine Li Mv ?_
  refine Li (Ln T.sl_27) ?_
  refine Li Cm ?_
  refine g_ne ?_
  refine g_cond_f rfl (by rfl) ?_
  refine g_exit ?_
  refine e_then_exit ?_
  refine e_then_exit ?_
  refine e_block_hit ?_
  refine e_then ?_
  refine g_sr ?_
  refine Li As ?_
  refine g_ne ?_
  refine g_ret ?_
  refine Rt [] Try.results75 ?_
  exact ⟨rfl, rfl⟩
theorem close51_nil (b : Nat) (v0 v1 v2 v3 : Value) (n : Int) : FnS Try.prog 51 [.pointer (some ⟨b, 0, none⟩)] (fun h => ∃ k, pts b 32 (bkC v0 v1 v2 v3 n) k ∧ Le k h) [] (fun v H => v = .bool true ∧ H = []) := by
  refine fn_body Try.func51 rfl Try.ntmps51 rfl ?_
  intro F hF
  refine g_sr ?_
  refine Li As ?_
  refine g_ne ?_
  refine g_seq ?_
  refine g_sr ?_
  refine Li As ?_
  refine g_ne ?_
  refine g_block ?_
  refine Lo (ι := Unit) [11, 12, 13, 14, 15, 16, 17, 4, 20, 21, 22, 23, 24, 25, 26, 27, 28, 29, 32, 33, 34, 35, 36, 37, 38, 39, 40, 41, 42, 43, 30, 31, 18, 19, 3] (fun u => True) (fun u => [(3, .int .i64 0)]) (fun u => []) (fun u => 0) (()) trivial ?_
  rintro u hI
  refine g_seq ?_
  refine g_sr ?_
  refine Li Mv ?_
  refine Li Mv ?_
  refine Li Nc ?_
  refine Li (Fa T.fld_32_12) ?_
  refine Lp (oL T.sc_27 ?_)
  refine Li (Ln T.sl_27) ?_
  refine Li Cm ?_
  refine g_ne ?_
  refine g_cond_f rfl (by rfl) ?_
  refine g_exit ?_
  refine e_then_exit ?_
  refine e_then_exit ?_
  refine e_block_hit ?_
  refine e_then ?_
  refine g_seq ?_
  refine g_sr ?_
  refine Li As ?_
  refine g_ne ?_
  refine g_block ?_
  refine Lo (ι := Unit) [44, 45, 46, 47, 48, 49, 50, 53, 54, 55, 56, 57, 58, 59, 6, 7, 60, 61, 64, 65, 66, 67, 68, 69, 62, 63, 70, 71, 72, 73, 74, 75, 76, 77, 78, 79, 51, 52, 5] (fun u => True) (fun u => [(5, .int .i64 0)]) (fun u => []) (fun u => 0) (()) trivial ?_
  rintro u hI
  refine g_seq ?_
  refine g_sr ?_
  refine Li Mv ?_
  refine Li Mv ?_
  refine Li Nc ?_
  refine Li (Fa T.fld_32_12) ?_
  refine Lp (oL T.sc_27 ?_)
  refine Li (Ln T.sl_27) ?_
  refine Li Cm ?_
  refine g_ne ?_
  refine g_cond_f rfl (by rfl) ?_
  refine g_exit ?_
  refine e_then_exit ?_
  refine e_then_exit ?_
  refine e_block_hit ?_
  refine e_then ?_
  refine g_seq ?_
  refine g_sr ?_
  refine Li Mv ?_
  refine Li Mv ?_
  refine Li Nc ?_
  refine Li (Fa T.fld_32_14) ?_
  refine Lp (oL T.sc_27 ?_)
  refine Lp (oC T.fn_75 rfl rfl (look75_nil b 0) .nil (fun _ _ _ => trivial) ?_)
  rintro v H' ⟨rfl, rfl⟩
  try simp only [nap, cap]
  refine Li Nt ?_
  refine g_ne ?_
  refine g_cond_f rfl (by rfl) ?_
  refine g_skip ?_
  refine e_then ?_
  refine g_seq ?_
  refine g_sr ?_
  refine Li As ?_
  refine g_ne ?_
  refine g_block ?_
  refine Lo (ι := Unit) [87, 88, 89, 90, 91, 92, 93, 9, 10, 96, 97, 100, 101, 102, 103, 104, 105, 98, 99, 106, 107, 108, 109, 110, 111, 112, 113, 114, 115, 116, 117, 118, 119, 120, 121, 122, 123, 94, 95, 8] (fun u => True) (fun u => [(8, .int .i64 0)]) (fun u => []) (fun u => 0) (()) trivial ?_
  rintro u hI
  refine g_seq ?_
  refine g_sr ?_
  refine Li Mv ?_
  refine Li Mv ?_
  refine Li Nc ?_
  refine Li (Fa T.fld_32_12) ?_
  refine Lp (oL T.sc_27 ?_)
  refine Li (Ln T.sl_27) ?_
  refine Li Cm ?_
  refine g_ne ?_
  refine g_cond_f rfl (by rfl) ?_
  refine g_exit ?_
  refine e_then_exit ?_
  refine e_then_exit ?_
  refine e_block_hit ?_
  refine e_then ?_
  refine g_sr ?_
  refine Li Mv ?_
  refine Li Mv ?_
  refine Li Nc ?_
  refine Li (Fa T.fld_32_15) ?_
  refine Lp (oL T.sc_27 ?_)
  refine Lp (oC T.fn_75 rfl rfl (look75_nil b 0) .nil (fun _ _ _ => trivial) ?_)
  rintro v H' ⟨rfl, rfl⟩
  try simp only [nap, cap]
  refine Li Mv ?_
  refine g_slot (t := 130) (v' := .bool true) rfl (congrArg Value.bool (by rfl)) ?_
  refine Li Mv ?_
  refine Li Mv ?_
  refine Li Nc ?_
  refine Li (Fa T.fld_32_14) ?_
  refine Lp (oL T.sc_27 ?_)
  refine Lp (oC T.fn_75 rfl rfl (look75_nil b 0) .nil (fun _ _ _ => trivial) ?_)
  rintro v H' ⟨rfl, rfl⟩
  try simp only [nap, cap]
  refine Li Pt ?_
  refine Li As ?_
  refine g_ne ?_
  refine g_ret ?_
  refine Rt [] Try.results51 ?_
  exact ⟨rfl, rfl⟩
theorem look76_nil (b : Nat) (c : Nat) : FnS Try.prog 76 [.pointer (some ⟨b, 0, none⟩), .slice none 0 0] (fun _ => True) [] (fun v H => v = .bool true ∧ H = []) := by
  refine fn_body Try.func76 rfl Try.ntmps76 rfl ?_
  intro F hF
  refine g_sr ?_
  refine Li As ?_
  refine g_ne ?_
  refine g_seq ?_
  refine g_sr ?_
  refine Li As ?_
  refine g_ne ?_
  refine g_block ?_
  refine Lo (ι := Unit) [8, 9, 10, 11, 14, 15, 16, 17, 18, 19, 20, 21, 6, 7, 22, 23, 24, 25, 26, 27, 28, 31, 32, 33, 34, 35, 36, 37, 38, 39, 40, 41, 42, 43, 44, 45, 46, 47, 48, 49, 50, 51, 52, 53, 54, 55, 56, 57, 58, 59, 60, 61, 62, 63, 64, 65, 66, 67, 68, 69, 70, 71, 72, 73, 74, 75, 76, 77, 78, 79, 80, 81, 4, 29, 30, 12, 13, 5] (fun u => True) (fun u => [(5, .int .i64 0)]) (fun u => []) (fun u => 0) (()) trivial ?_
  rintro u hI
  refine g_seq ?_
  refine g_sr ?_
  refine Li Mv ?_
  refine Li Mv ?_
  refine Li (Ln T.sl_28) ?_
  refine Li Cm ?_
  refine g_ne ?_
  refine g_cond_f rfl (by rfl) ?_
  refine g_exit ?_
  refine e_then_exit ?_
  refine e_then_exit ?_
  refine e_block_hit ?_
  refine e_then ?_
  refine g_sr ?_
  refine Li As ?_
  refine g_ne ?_
  refine g_ret ?_
  refine Rt [] Try.results76 ?_
  exact ⟨rfl, rfl⟩
theorem close52_nil (b : Nat) (v0 v1 v2 v3 : Value) (n : Int) : FnS Try.prog 52 [.pointer (some ⟨b, 0, none⟩)] (fun h => ∃ k, pts b 32 (bkC v0 v1 v2 v3 n) k ∧ Le k h) [] (fun v H => v = .bool true ∧ H = []) := by
  refine fn_body Try.func52 rfl Try.ntmps52 rfl ?_
  intro F hF
  refine g_sr ?_
  refine Li As ?_
  refine g_ne ?_
  refine g_seq ?_
  refine g_sr ?_
  refine Li As ?_
  refine g_ne ?_
  refine g_block ?_
  refine Lo (ι := Unit) [11, 12, 13, 14, 15, 16, 17, 4, 20, 21, 22, 23, 24, 25, 26, 27, 28, 29, 32, 33, 34, 35, 36, 37, 38, 39, 40, 41, 42, 43, 30, 31, 18, 19, 3] (fun u => True) (fun u => [(3, .int .i64 0)]) (fun u => []) (fun u => 0) (()) trivial ?_
  rintro u hI
  refine g_seq ?_
  refine g_sr ?_
  refine Li Mv ?_
  refine Li Mv ?_
  refine Li Nc ?_
  refine Li (Fa T.fld_32_16) ?_
  refine Lp (oL T.sc_28 ?_)
  refine Li (Ln T.sl_28) ?_
  refine Li Cm ?_
  refine g_ne ?_
  refine g_cond_f rfl (by rfl) ?_
  refine g_exit ?_
  refine e_then_exit ?_
  refine e_then_exit ?_
  refine e_block_hit ?_
  refine e_then ?_
  refine g_seq ?_
  refine g_sr ?_
  refine Li As ?_
  refine g_ne ?_
  refine g_block ?_
  refine Lo (ι := Unit) [44, 45, 46, 47, 48, 49, 50, 53, 54, 55, 56, 57, 58, 59, 6, 7, 60, 61, 64, 65, 66, 67, 68, 69, 70, 62, 63, 71, 72, 73, 74, 75, 76, 77, 78, 79, 80, 51, 52, 5] (fun u => True) (fun u => [(5, .int .i64 0)]) (fun u => []) (fun u => 0) (()) trivial ?_
  rintro u hI
  refine g_seq ?_
  refine g_sr ?_
  refine Li Mv ?_
  refine Li Mv ?_
  refine Li Nc ?_
  refine Li (Fa T.fld_32_16) ?_
  refine Lp (oL T.sc_28 ?_)
  refine Li (Ln T.sl_28) ?_
  refine Li Cm ?_
  refine g_ne ?_
  refine g_cond_f rfl (by rfl) ?_
  refine g_exit ?_
  refine e_then_exit ?_
  refine e_then_exit ?_
  refine e_block_hit ?_
  refine e_then ?_
  refine g_seq ?_
  refine g_sr ?_
  refine Li Mv ?_
  refine Li Mv ?_
  refine Li Nc ?_
  refine Li (Fa T.fld_32_17) ?_
  refine Lp (oL T.sc_28 ?_)
  refine Lp (oC T.fn_76 rfl rfl (look76_nil b 0) .nil (fun _ _ _ => trivial) ?_)
  rintro v H' ⟨rfl, rfl⟩
  try simp only [nap, cap]
  refine Li Nt ?_
  refine g_ne ?_
  refine g_cond_f rfl (by rfl) ?_
  refine g_skip ?_
  refine e_then ?_
  refine g_seq ?_
  refine g_sr ?_
  refine Li As ?_
  refine g_ne ?_
  refine g_block ?_
  refine Lo (ι := Unit) [88, 89, 90, 91, 92, 93, 94, 9, 10, 97, 98, 101, 102, 103, 104, 105, 106, 107, 99, 100, 108, 109, 110, 111, 112, 113, 114, 115, 116, 117, 118, 119, 120, 121, 122, 123, 124, 125, 95, 96, 8] (fun u => True) (fun u => [(8, .int .i64 0)]) (fun u => []) (fun u => 0) (()) trivial ?_
  rintro u hI
  refine g_seq ?_
  refine g_sr ?_
  refine Li Mv ?_
  refine Li Mv ?_
  refine Li Nc ?_
  refine Li (Fa T.fld_32_16) ?_
  refine Lp (oL T.sc_28 ?_)
  refine Li (Ln T.sl_28) ?_
  refine Li Cm ?_
  refine g_ne ?_
  refine g_cond_f rfl (by rfl) ?_
  refine g_exit ?_
  refine e_then_exit ?_
  refine e_then_exit ?_
  refine e_block_hit ?_
  refine e_then ?_
  refine g_sr ?_
  refine Li Mv ?_
  refine Li Mv ?_
  refine Li Nc ?_
  refine Li (Fa T.fld_32_18) ?_
  refine Lp (oL T.sc_28 ?_)
  refine Lp (oC T.fn_76 rfl rfl (look76_nil b 0) .nil (fun _ _ _ => trivial) ?_)
  rintro v H' ⟨rfl, rfl⟩
  try simp only [nap, cap]
  refine Li Mv ?_
  refine g_slot (t := 132) (v' := .bool true) rfl (congrArg Value.bool (by rfl)) ?_
  refine Li Mv ?_
  refine Li Mv ?_
  refine Li Nc ?_
  refine Li (Fa T.fld_32_17) ?_
  refine Lp (oL T.sc_28 ?_)
  refine Lp (oC T.fn_76 rfl rfl (look76_nil b 0) .nil (fun _ _ _ => trivial) ?_)
  rintro v H' ⟨rfl, rfl⟩
  try simp only [nap, cap]
  refine Li Pt ?_
  refine Li As ?_
  refine g_ne ?_
  refine g_ret ?_
  refine Rt [] Try.results52 ?_
  exact ⟨rfl, rfl⟩
theorem look77_nil (b : Nat) (c : Nat) : FnS Try.prog 77 [.pointer (some ⟨b, 0, none⟩), .slice none 0 0] (fun _ => True) [] (fun v H => v = .bool true ∧ H = []) := by
  refine fn_body Try.func77 rfl Try.ntmps77 rfl ?_
  intro F hF
  refine g_sr ?_
  refine Li As ?_
  refine g_ne ?_
  refine g_seq ?_
  refine g_sr ?_
  refine Li As ?_
  refine g_ne ?_
  refine g_block ?_
  refine Lo (ι := Unit) [8, 9, 10, 11, 14, 15, 16, 17, 18, 19, 20, 21, 6, 7, 22, 23, 24, 25, 26, 27, 28, 31, 32, 33, 34, 35, 36, 37, 38, 39, 40, 41, 42, 43, 44, 45, 46, 47, 48, 49, 50, 51, 52, 53, 54, 55, 56, 57, 58, 59, 60, 61, 62, 63, 64, 65, 66, 67, 68, 69, 70, 71, 72, 73, 74, 75, 76, 77, 78, 79, 80, 81, 4, 29, 30, 12, 13, 5] (fun u => True) (fun u => [(5, .int .i64 0)]) (fun u => []) (fun u => 0) (()) trivial ?_
  rintro u hI
  refine g_seq ?_
  refine g_sr ?_
  refine Li Mv ?_
  refine Li Mv ?_
  refine Li (Ln T.sl_29) ?_
  refine Li Cm ?_
  refine g_ne ?_
  refine g_cond_f rfl (by rfl) ?_
  refine g_exit ?_
  refine e_then_exit ?_
  refine e_then_exit ?_
  refine e_block_hit ?_
  refine e_then ?_
  refine g_sr ?_
  refine Li As ?_
  refine g_ne ?_
  refine g_ret ?_
  refine Rt [] Try.results77 ?_
  exact ⟨rfl, rfl⟩
theorem close53_nil (b : Nat) (v0 v1 v2 v3 : Value) (n : Int) : FnS Try.prog 53 [.pointer (some ⟨b, 0, none⟩)] (fun h => ∃ k, pts b 32 (bkC v0 v1 v2 v3 n) k ∧ Le k h) [] (fun v H => v = .bool true ∧ H = []) := by
  refine fn_body Try.func53 rfl Try.ntmps53 rfl ?_
  intro F hF
  refine g_sr ?_
  refine Li As ?_
  refine g_ne ?_
  refine g_seq ?_
  refine g_sr ?_
  refine Li As ?_
  refine g_ne ?_
  refine g_block ?_
  refine Lo (ι := Unit) [11, 12, 13, 14, 15, 16, 17, 4, 20, 21, 22, 23, 24, 25, 26, 27, 28, 29, 32, 33, 34, 35, 36, 37, 38, 39, 40, 41, 42, 43, 30, 31, 18, 19, 3] (fun u => True) (fun u => [(3, .int .i64 0)]) (fun u => []) (fun u => 0) (()) trivial ?_
  rintro u hI
  refine g_seq ?_
  refine g_sr ?_
  refine Li Mv ?_
  refine Li Mv ?_
  refine Li Nc ?_
  refine Li (Fa T.fld_32_19) ?_
  refine Lp (oL T.sc_29 ?_)
  refine Li (Ln T.sl_29) ?_
  refine Li Cm ?_
  refine g_ne ?_
  refine g_cond_f rfl (by rfl) ?_
  refine g_exit ?_
  refine e_then_exit ?_
  refine e_then_exit ?_
  refine e_block_hit ?_
  refine e_then ?_
  refine g_seq ?_
  refine g_sr ?_
  refine Li As ?_
  refine g_ne ?_
  refine g_block ?_
  refine Lo (ι := Unit) [44, 45, 46, 47, 48, 49, 50, 53, 54, 55, 56, 57, 58, 59, 6, 7, 60, 61, 64, 65, 66, 67, 68, 69, 70, 62, 63, 71, 72, 73, 74, 75, 76, 77, 78, 79, 80, 51, 52, 5] (fun u => True) (fun u => [(5, .int .i64 0)]) (fun u => []) (fun u => 0) (()) trivial ?_
  rintro u hI
  refine g_seq ?_
  refine g_sr ?_
  refine Li Mv ?_
  refine Li Mv ?_
  refine Li Nc ?_
  refine Li (Fa T.fld_32_19) ?_
  refine Lp (oL T.sc_29 ?_)
  refine Li (Ln T.sl_29) ?_
  refine Li Cm ?_
  refine g_ne ?_
  refine g_cond_f rfl (by rfl) ?_
  refine g_exit ?_
  refine e_then_exit ?_
  refine e_then_exit ?_
  refine e_block_hit ?_
  refine e_then ?_
  refine g_seq ?_
  refine g_sr ?_
  refine Li Mv ?_
  refine Li Mv ?_
  refine Li Nc ?_
  refine Li (Fa T.fld_32_20) ?_
  refine Lp (oL T.sc_29 ?_)
  refine Lp (oC T.fn_77 rfl rfl (look77_nil b 0) .nil (fun _ _ _ => trivial) ?_)
  rintro v H' ⟨rfl, rfl⟩
  try simp only [nap, cap]
  refine Li Nt ?_
  refine g_ne ?_
  refine g_cond_f rfl (by rfl) ?_
  refine g_skip ?_
  refine e_then ?_
  refine g_seq ?_
  refine g_sr ?_
  refine Li As ?_
  refine g_ne ?_
  refine g_block ?_
  refine Lo (ι := Unit) [88, 89, 90, 91, 92, 93, 94, 9, 10, 97, 98, 101, 102, 103, 104, 105, 106, 107, 99, 100, 108, 109, 110, 111, 112, 113, 114, 115, 116, 117, 118, 119, 120, 121, 122, 123, 124, 125, 95, 96, 8] (fun u => True) (fun u => [(8, .int .i64 0)]) (fun u => []) (fun u => 0) (()) trivial ?_
  rintro u hI
  refine g_seq ?_
  refine g_sr ?_
  refine Li Mv ?_
  refine Li Mv ?_
  refine Li Nc ?_
  refine Li (Fa T.fld_32_19) ?_
  refine Lp (oL T.sc_29 ?_)
  refine Li (Ln T.sl_29) ?_
  refine Li Cm ?_
  refine g_ne ?_
  refine g_cond_f rfl (by rfl) ?_
  refine g_exit ?_
  refine e_then_exit ?_
  refine e_then_exit ?_
  refine e_block_hit ?_
  refine e_then ?_
  refine g_sr ?_
  refine Li Mv ?_
  refine Li Mv ?_
  refine Li Nc ?_
  refine Li (Fa T.fld_32_21) ?_
  refine Lp (oL T.sc_29 ?_)
  refine Lp (oC T.fn_77 rfl rfl (look77_nil b 0) .nil (fun _ _ _ => trivial) ?_)
  rintro v H' ⟨rfl, rfl⟩
  try simp only [nap, cap]
  refine Li Mv ?_
  refine g_slot (t := 132) (v' := .bool true) rfl (congrArg Value.bool (by rfl)) ?_
  refine Li Mv ?_
  refine Li Mv ?_
  refine Li Nc ?_
  refine Li (Fa T.fld_32_20) ?_
  refine Lp (oL T.sc_29 ?_)
  refine Lp (oC T.fn_77 rfl rfl (look77_nil b 0) .nil (fun _ _ _ => trivial) ?_)
  rintro v H' ⟨rfl, rfl⟩
  try simp only [nap, cap]
  refine Li Pt ?_
  refine Li As ?_
  refine g_ne ?_
  refine g_ret ?_
  refine Rt [] Try.results53 ?_
  exact ⟨rfl, rfl⟩
theorem look78_nil (b : Nat) (c : Nat) : FnS Try.prog 78 [.pointer (some ⟨b, 0, none⟩), .slice none 0 0] (fun _ => True) [] (fun v H => v = .bool true ∧ H = []) := by
  refine fn_body Try.func78 rfl Try.ntmps78 rfl ?_
  intro F hF
  refine g_sr ?_
  refine Li As ?_
  refine g_ne ?_
  refine g_seq ?_
  refine g_sr ?_
  refine Li As ?_
  refine g_ne ?_
  refine g_block ?_
  refine Lo (ι := Unit) [8, 9, 10, 11, 14, 15, 16, 17, 18, 19, 20, 21, 6, 7, 22, 23, 24, 25, 26, 27, 28, 31, 32, 33, 34, 35, 36, 37, 38, 39, 40, 41, 42, 43, 44, 45, 46, 47, 48, 49, 50, 51, 52, 53, 54, 55, 56, 57, 58, 59, 60, 61, 62, 63, 64, 65, 66, 67, 68, 69, 70, 71, 72, 73, 74, 75, 76, 77, 78, 79, 80, 4, 29, 30, 12, 13, 5] (fun u => True) (fun u => [(5, .int .i64 0)]) (fun u => []) (fun u => 0) (()) trivial ?_
  rintro u hI
  refine g_seq ?_
  refine g_sr ?_
  refine Li Mv ?_
  refine Li Mv ?_
  refine Li (Ln T.sl_30) ?_
  refine Li Cm ?_
  refine g_ne ?_
  refine g_cond_f rfl (by rfl) ?_
  refine g_exit ?_
  refine e_then_exit ?_
  refine e_then_exit ?_
  refine e_block_hit ?_
  refine e_then ?_
  refine g_sr ?_
  refine Li As ?_
  refine g_ne ?_
  refine g_ret ?_
  refine Rt [] Try.results78 ?_
  exact ⟨rfl, rfl⟩
theorem close54_nil (b : Nat) (v0 v1 v2 v3 : Value) (n : Int) : FnS Try.prog 54 [.pointer (some ⟨b, 0, none⟩)] (fun h => ∃ k, pts b 32 (bkC v0 v1 v2 v3 n) k ∧ Le k h) [] (fun v H => v = .bool true ∧ H = []) := by
  refine fn_body Try.func54 rfl Try.ntmps54 rfl ?_
  intro F hF
  refine g_sr ?_
  refine Li As ?_
  refine g_ne ?_
  refine g_seq ?_
  refine g_sr ?_
  refine Li As ?_
  refine g_ne ?_
  refine g_block ?_
  refine Lo (ι := Unit) [11, 12, 13, 14, 15, 16, 17, 4, 20, 21, 22, 23, 24, 25, 26, 27, 28, 29, 32, 33, 34, 35, 36, 37, 38, 39, 40, 41, 42, 43, 30, 31, 18, 19, 3] (fun u => True) (fun u => [(3, .int .i64 0)]) (fun u => []) (fun u => 0) (()) trivial ?_
  rintro u hI
  refine g_seq ?_
  refine g_sr ?_
  refine Li Mv ?_
  refine Li Mv ?_
  refine Li Nc ?_
  refine Li (Fa T.fld_32_22) ?_
  refine Lp (oL T.sc_30 ?_)
  refine Li (Ln T.sl_30) ?_
  refine Li Cm ?_
  refine g_ne ?_
  refine g_cond_f rfl (by rfl) ?_
  refine g_exit ?_
  refine e_then_exit ?_
  refine e_then_exit ?_
  refine e_block_hit ?_
  refine e_then ?_
  refine g_seq ?_
  refine g_sr ?_
  refine Li As ?_
  refine g_ne ?_
  refine g_block ?_
  refine Lo (ι := Unit) [44, 45, 46, 47, 48, 49, 50, 53, 54, 55, 56, 57, 58, 59, 6, 7, 60, 61, 64, 65, 66, 67, 68, 69, 62, 63, 70, 71, 72, 73, 74, 75, 76, 77, 78, 79, 51, 52, 5] (fun u => True) (fun u => [(5, .int .i64 0)]) (fun u => []) (fun u => 0) (()) trivial ?_
  rintro u hI
  refine g_seq ?_
  refine g_sr ?_
  refine Li Mv ?_
  refine Li Mv ?_
  refine Li Nc ?_
  refine Li (Fa T.fld_32_22) ?_
  refine Lp (oL T.sc_30 ?_)
  refine Li (Ln T.sl_30) ?_
  refine Li Cm ?_
  refine g_ne ?_
  refine g_cond_f rfl (by rfl) ?_
  refine g_exit ?_
  refine e_then_exit ?_
  refine e_then_exit ?_
  refine e_block_hit ?_
  refine e_then ?_
  refine g_seq ?_
  refine g_sr ?_
  refine Li Mv ?_
  refine Li Mv ?_
  refine Li Nc ?_
  refine Li (Fa T.fld_32_23) ?_
  refine Lp (oL T.sc_30 ?_)
  refine Lp (oC T.fn_78 rfl rfl (look78_nil b 0) .nil (fun _ _ _ => trivial) ?_)
  rintro v H' ⟨rfl, rfl⟩
  try simp only [nap, cap]
  refine Li Nt ?_
  refine g_ne ?_
  refine g_cond_f rfl (by rfl) ?_
  refine g_skip ?_
  refine e_then ?_
  refine g_seq ?_
  refine g_sr ?_
  refine Li As ?_
  refine g_ne ?_
  refine g_block ?_
  refine Lo (ι := Unit) [87, 88, 89, 90, 91, 92, 93, 9, 10, 96, 97, 100, 101, 102, 103, 104, 105, 98, 99, 106, 107, 108, 109, 110, 111, 112, 113, 114, 115, 116, 117, 118, 119, 120, 121, 122, 123, 94, 95, 8] (fun u => True) (fun u => [(8, .int .i64 0)]) (fun u => []) (fun u => 0) (()) trivial ?_
  rintro u hI
  refine g_seq ?_
  refine g_sr ?_
  refine Li Mv ?_
  refine Li Mv ?_
  refine Li Nc ?_
  refine Li (Fa T.fld_32_22) ?_
  refine Lp (oL T.sc_30 ?_)
  refine Li (Ln T.sl_30) ?_
  refine Li Cm ?_
  refine g_ne ?_
  refine g_cond_f rfl (by rfl) ?_
  refine g_exit ?_
  refine e_then_exit ?_
  refine e_then_exit ?_
  refine e_block_hit ?_
  refine e_then ?_
  refine g_sr ?_
  refine Li Mv ?_
  refine Li Mv ?_
  refine Li Nc ?_
  refine Li (Fa T.fld_32_24) ?_
  refine Lp (oL T.sc_30 ?_)
  refine Lp (oC T.fn_78 rfl rfl (look78_nil b 0) .nil (fun _ _ _ => trivial) ?_)
  rintro v H' ⟨rfl, rfl⟩
  try simp only [nap, cap]
  refine Li Mv ?_
  refine g_slot (t := 130) (v' := .bool true) rfl (congrArg Value.bool (by rfl)) ?_
  refine Li Mv ?_
  refine Li Mv ?_
  refine Li Nc ?_
  refine Li (Fa T.fld_32_23) ?_
  refine Lp (oL T.sc_30 ?_)
  refine Lp (oC T.fn_78 rfl rfl (look78_nil b 0) .nil (fun _ _ _ => trivial) ?_)
  rintro v H' ⟨rfl, rfl⟩
  try simp only [nap, cap]
  refine Li Pt ?_
  refine Li As ?_
  refine g_ne ?_
  refine g_ret ?_
  refine Rt [] Try.results54 ?_
  exact ⟨rfl, rfl⟩
end Go.Proofs.Ytggmpaggmkfmoaa

