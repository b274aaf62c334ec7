/- Packets: the limits, the walk. -/
import Derived.Test.YtggmpaggmkfmoaaA13
set_option maxRecDepth 100000
namespace Go.Proofs.Ytggmpaggmkfmoaa
open Go Go.Eng

theorem lim_zrep : zrep [.int .u8 0] (256 * 1) = bcells limZ := by rfl
theorem lim_bytes (ae av : Option Addr) (ce cv : Nat) : FnS Try.prog 15 [.agg #[.bool true, .int .i64 255, .int .i64 65535, .int .u64 4294967295, .int .u64 18446744073709551615, .slice ae 255 ce, strv (limZ.take 250), .slice av 0 cv, .bool false]]
    (fun h => Rdl h ae (bcells (limZ.take 255)) ∧ Rdl h av (bcells [])) [] (fun v H => ∃ a c, v = .tuple #[.slice a 529 c, .int .i64 0] ∧ H = [own a c 5 1 (bcells (enc limG))]) :=
  (bytes_fn limG ae ce av cv (by decide +kernel) (by decide +kernel)).imp (fun _ p => p) fun v H r => by
    rcases r with ⟨_, a, c, rfl, rfl⟩ | ⟨q, _⟩
    · rw [lim_len]; exact ⟨a, c, rfl, rfl⟩
    · rw [lim_ok] at q; cases q
theorem lim_readc (a : Option Addr) (c : Nat) (hc : 529 ≤ c) : FnS Try.prog 23 [.slice a 529 c, .int .i64 (-5)] (fun h => Rdl h a (bcells (enc limG))) []
    (fun v H => ∃ ae ce av cv, v = .tuple #[.agg #[.bool true, .int .i64 255, .int .i64 65535, .int .u64 4294967295, .int .u64 18446744073709551615, .slice ae 255 ce, strv (limZ.take 250), .slice av 0 cv, .bool false], .int .i64 529, .int .i64 0] ∧
      H = [own ae ce 5 1 (bcells (limZ.take 255)), own av cv 5 1 (bcells [])]) :=
  (read_fn (enc limG) a 529 c (-5) lim_len.symm hc (by rw [lim_len]; decide) (by decide) (by decide)).imp (fun _ p => p) fun v H r => by
    rw [lim_read] at r; exact r
theorem lim_same (ae av be bv : Option Addr) (ce cv de dv : Nat) : FnS Try.prog 25 [.agg #[.bool true, .int .i64 255, .int .i64 65535, .int .u64 4294967295, .int .u64 18446744073709551615, .slice ae 255 ce, strv (limZ.take 250), .slice av 0 cv, .bool false],
      .agg #[.bool true, .int .i64 255, .int .i64 65535, .int .u64 4294967295, .int .u64 18446744073709551615, .slice be 255 de, strv (limZ.take 250), .slice bv 0 dv, .bool false]]
    (fun h => (Rdl h ae (bcells (limZ.take 255)) ∧ Rdl h av (bcells [])) ∧ (Rdl h be (bcells (limZ.take 255)) ∧ Rdl h bv (bcells []))) [] (fun v H => v = .bool true ∧ H = []) :=
  (same_fn limG limG ae av be bv ce cv de dv).imp (fun _ p => p) fun v H r => by
    rw [sameB_refl] at r; exact r
theorem lim_lz1 : 251 - 0 = (limZ.take 251).length := by decide +kernel
theorem lim_lz : 250 - 0 = (limZ.take 250).length := by decide +kernel

set_option maxHeartbeats 8000000 in
theorem limits_fn : FnS Try.prog 12 [] (fun _ => True) [] (fun v H => v = .bool true ∧ H = []) := by
  refine fn_body Try.func12 rfl Try.ntmps12 rfl ?_
  intro F hF
  refine g_sr ?_
  refine Li As ?_
  refine g_ne ?_
  refine g_seq ?_
  refine g_sr ?_
  refine Lp (oC T.fn_21 rfl rfl (wakes_fn) .nil (fun _ _ _ => trivial) ?_)
  rintro v H' ⟨rfl, rfl⟩
  try simp only [nap, cap]
  refine Li Nt ?_
  refine Li Mv ?_
  refine g_slot (t := 29) (v' := .bool false) rfl (congrArg Value.bool (by first | rfl | decide | (simp; done))) ?_
  refine Li Pf ?_
  refine Li Mv ?_
  refine Li Pf ?_
  refine Li Mv ?_
  refine Li Pf ?_
  refine g_ne ?_
  refine g_cond_f rfl rfl ?_
  refine g_skip ?_
  refine e_then ?_
  refine g_sr ?_
  refine Lp (oM (256) (256) T.ap_37 fun b1 => ?_)
  rw [lim_zrep]
  refine Li As ?_
  refine g_ne ?_
  refine g_seq ?_
  refine g_drw T.mix (.cons .here .nil) fun F1 le1 hin1 back1 => ?_
  obtain ⟨hz, _⟩ := hin1
  have hr2 : Rdl F1.h (cutA (some ⟨b1, 0, none⟩) 0 256 (0 * 1)) (bcells (limZ.take 250)) := cut2 (l := limZ) (pts_in hz) 0 256 250 (by omega)
  have hlz := lim_lz
  refine Dt 0 rfl Mv ?_
  refine Dt 1 rfl (Sl 0 255 _ T.sl_37) ?_
  refine Dt 2 rfl Mv ?_
  refine Dt 3 rfl (Sl 0 250 _ T.sl_37) ?_
  refine Dt 4 rfl (Ts T.sl_37 T.u_5 T.u_9) ?_
  refine Dt 5 rfl (Bd T.zc_39 T.st_39) ?_
  refine Dn 6 ?_
  refine Do rfl (oA T.zc_39 fun b2 => ?_)
  refine gh_next ?_
  refine Dn 7 ?_
  refine Do rfl (oSN T.ag_39 ?_)
  refine gh_next ?_
  refine gh_done (by kernel_rfl) back1 ?_
  refine e_then ?_
  refine g_sr ?_
  refine Lp (oLN T.ag_39 ?_)
  refine Lp (oC T.fn_15 rfl rfl (lim_bytes (cutA (some ⟨b1, 0, none⟩) 0 256 (0 * 1)) none 256 0) .nil (fun _ le hin => ⟨cut2 (l := limZ) (pts_in (hin.nth 0 rfl)) 0 256 255 (by omega), Rdl.nil⟩) ?_)
  rintro v H' ⟨a3, c3, rfl, rfl⟩
  try simp only [nap, cap]
  refine Li Mv ?_
  refine Li Ex ?_
  refine Li Ex ?_
  refine Li As ?_
  refine Li As ?_
  refine g_ne ?_
  refine g_sr ?_
  refine Li Mv ?_
  refine g_fact (X := 529 ≤ c3) (fun h hin => by have := own_capb (hin.nth 0 rfl); rw [bcells_length, lim_len] at this; exact this) fun hc3 => ?_
  refine Lp (oC T.fn_23 rfl rfl (lim_readc a3 c3 hc3) .nil (fun _ le hin => own_in (hin.nth 0 rfl)) ?_)
  rintro v H' ⟨ae4, ce4, av4, cv4, rfl, rfl⟩
  try simp only [nap, cap]
  refine Li Mv ?_
  refine Li Ex ?_
  refine Li Ex ?_
  refine Li Ex ?_
  refine Lp (oA T.zc_39 fun b3 => ?_)
  refine Lp (oSN T.ag_39 ?_)
  refine Li As ?_
  refine Li As ?_
  refine g_ne ?_
  refine g_seq ?_
  refine g_sr ?_
  refine Li Mv ?_
  refine Lp (oC T.fn_17 rfl rfl (num_fn _) .nil (fun _ _ _ => trivial) ?_)
  rintro v H' ⟨rfl, rfl⟩
  try simp only [nap, cap]
  refine Li Cm ?_
  refine Li Mv ?_
  refine g_slot (t := 56) (v' := .bool false) rfl (congrArg Value.bool (by first | rfl | decide | (simp; done))) ?_
  refine Li Mv ?_
  refine Lp (oC T.fn_17 rfl rfl (num_fn _) .nil (fun _ _ _ => trivial) ?_)
  rintro v H' ⟨rfl, rfl⟩
  try simp only [nap, cap]
  refine Li Cm ?_
  refine Li Pf ?_
  refine Li Mv ?_
  refine g_slot (t := 61) (v' := .bool false) rfl (congrArg Value.bool (by first | rfl | decide | (simp; done))) ?_
  refine Li Mv ?_
  refine Li Cm ?_
  refine Li Pf ?_
  refine Li Mv ?_
  refine g_slot (t := 65) (v' := .bool false) rfl (congrArg Value.bool (by first | rfl | decide | (simp; done))) ?_
  refine Lp (oLN T.ag_39 ?_)
  refine Lp (oLN T.ag_39 ?_)
  refine Lp (oC T.fn_25 rfl rfl (lim_same ae4 av4 (cutA (some ⟨b1, 0, none⟩) 0 256 (0 * 1)) none ce4 cv4 256 0) .nil (fun _ le hin => ⟨⟨own_in (hin.nth 1 rfl), own_in (hin.nth 2 rfl)⟩, ⟨cut2 (l := limZ) (pts_in (hin.nth 4 rfl)) 0 256 255 (by omega), Rdl.nil⟩⟩) ?_)
  rintro v H' ⟨rfl, rfl⟩
  try simp only [nap, cap]
  refine Li Nt ?_
  refine Li Pf ?_
  refine g_ne ?_
  refine g_cond_f rfl (by first | rfl | decide) ?_
  refine g_skip ?_
  refine e_then ?_
  refine g_sr ?_
  refine Li (Bd T.zc_39 T.st_39) ?_
  refine Li (Bd T.zc_39 T.st_39) ?_
  refine Li (Bd T.zc_39 T.st_39) ?_
  refine Li (Bd T.zc_39 T.st_39) ?_
  refine Li (Bd T.zc_39 T.st_39) ?_
  refine Li (Bd T.zc_39 T.st_39) ?_
  refine Li Mv ?_
  refine Li (Bd T.zc_39 T.st_39) ?_
  refine Li Mv ?_
  refine Li (Sl 0 251 _ T.sl_37) ?_
  refine Lp (op_yH rfl rfl (fun h hin le => y_toString T.sl_37 T.u_5 T.u_9 rfl rfl lim_lz1 (cut2 (l := limZ) (pts_in (hin.nth 4 rfl)) 0 256 251 (by omega))) ?_)
  refine Li (Bd T.zc_39 T.st_39) ?_
  refine Li (Bd T.zc_39 T.st_39) ?_
  refine Lp (op_litK (cs := pktsCells (limL b1)) T.ap_22 rfl rfl rfl rfl rfl rfl (by kernel_rfl) (by kernel_rfl) rfl fun b4 => ?_)
  refine Hh (H' := [pts b4 39 (pktsCells (limL b1)), pts b1 5 (bcells limZ)]) ?_
  refine Li As ?_
  refine g_ne ?_
  refine g_seq ?_
  refine g_sr ?_
  refine Li As ?_
  refine g_ne ?_
  refine g_block ?_
  refine Lo (ι := Nat) [85, 86, 87, 88, 92, 93, 94, 95, 96, 91, 97, 98, 10, 11, 99, 100, 101, 102, 103, 104, 105, 106, 0, 89, 90, 9] (fun i => i ≤ 9) (fun i => [(9, .int .i64 (i : Int))]) (fun i => [pts b4 39 (pktsCells (limL b1)), pts b1 5 (bcells limZ)]) (fun i => 9 - i) (0) (Nat.zero_le _) ?_
  rintro i hi
  refine g_seq ?_
  refine g_sr ?_
  refine Li Mv ?_
  refine Li Mv ?_
  refine Li (Ln T.sl_22) ?_
  refine Li Cm ?_
  refine g_ne ?_
  refine g_cond rfl ?_ ?_
  · intro hlt
    replace hlt := nrm hlt
    obtain ⟨p, e1⟩ : ∃ p, (limL b1)[i]? = some p := ⟨_, List.getElem?_eq_getElem (show i < (limL b1).length by show i < 9; omega)⟩
    have k1 := pktsCells_at (limL b1) i p e1
    have hp := List.mem_of_getElem? e1
    refine g_skip ?_
    refine e_then ?_
    refine g_seq ?_
    refine g_block ?_
    refine g_sr ?_
    refine Li Mv ?_
    refine Li Mv ?_
    refine Li (Ix T.sl_22) ?_
    refine Lp (op_yH rfl rfl (fun h hin le => y_loadRN _ T.ag_39 rfl rfl (pts_in (hin.nth 0 rfl)) k1 rfl rfl) ?_)
    refine Lp (oC T.fn_15 rfl rfl (lim_badc b1 p hp) .nil (fun _ le hin => limL_rdl b1 _ (pts_in (hin.nth 1 rfl)) p hp) ?_)
    rintro v H' ⟨rfl, rfl⟩
    try simp only [nap, cap]
    refine Li Mv ?_
    refine Li Ex ?_
    refine Li Ex ?_
    refine Li As ?_
    refine Li As ?_
    refine g_ne ?_
    refine g_sr ?_
    refine Li Mv ?_
    refine Lp (oC T.fn_17 rfl rfl (num_fn _) .nil (fun _ _ _ => trivial) ?_)
    rintro v H' ⟨rfl, rfl⟩
    try simp only [nap, cap]
    refine Li Cm ?_
    refine Li Mv ?_
    refine g_slot (t := 102) (v' := .bool false) rfl (congrArg Value.bool (by first | rfl | decide | (simp; done))) ?_
    refine Li Mv ?_
    refine Li (Ln T.sl_37) ?_
    refine Li Cm ?_
    refine Li Pf ?_
    refine g_ne ?_
    refine g_cond_f rfl (by first | rfl | decide | (simp; done)) ?_
    refine g_skip ?_
    refine e_block ?_
    refine e_then ?_
    refine g_region ?_
    refine Li Mv ?_
    refine Li Im ?_
    refine Li As ?_
    refine g_nil ?_
    refine Ro (i + 1) ((by omega)) (by omega)
  · intro hlt
    replace hlt := nrm hlt
    refine g_heap (H' := []) (fun _ _ => trivial) ?_
    refine g_exit ?_
    refine e_then_exit ?_
    refine e_then_exit ?_
    refine e_block_hit ?_
    refine e_then ?_
    refine g_sr ?_
    refine Lp (oT T.ap_37 fun b4 => ?_)
    refine Lp (oT T.ap_37 fun b5 => ?_)
    refine Lp (oT T.ap_37 fun b6 => ?_)
    refine Lp (oT T.ap_37 fun b7 => ?_)
    refine Lp (oT T.ap_37 fun b8 => ?_)
    refine Lp (oT T.ap_37 fun b9 => ?_)
    refine Lp (oT T.ap_37 fun b10 => ?_)
    refine Lp (oT T.ap_37 fun b11 => ?_)
    refine Lp (oT T.ap_37 fun b12 => ?_)
    refine Lp (oT T.ap_37 fun b13 => ?_)
    refine Lp (oT T.ap_24 fun b14 => ?_)
    refine Li As ?_
    refine g_ne ?_
    refine g_seq ?_
    refine g_sr ?_
    refine Li As ?_
    refine g_ne ?_
    refine g_block ?_
    refine Hh (H' := [pts b14 37 (limHc [b4, b5, b6, b7, b8, b9, b10, b11, b12, b13]), pts b4 5 (bcells [0x82]), pts b5 5 (bcells [0]), pts b6 5 (bcells [0x80, 0, 0, 0xfb]), pts b7 5 (bcells [0x81, 0, 1, 0]), pts b8 5 (bcells [0x80, 0, 0, 0, 0, 1]), pts b9 5 (bcells [0x80, 0, 0, 0, 0, 0, 1]), pts b10 5 (bcells [0x80, 0, 0, 0, 0, 0, 0, 1]), pts b11 5 (bcells [0x80, 0, 0, 1, 0, 0, 0, 0, 0, 0, 0, 0]), pts b12 5 (bcells [0x81, 0, 0, 0, 1, 0, 0, 0, 0, 0, 0, 0]), pts b13 5 (bcells [0x81, 0, 0, 0, 0, 0, 9, 9, 0x80, 0, 0, 0])]) ?_
    refine g_heap (H' := [pts b14 37 (limHc [b4, b5, b6, b7, b8, b9, b10, b11, b12, b13]), stars (limHo [b4, b5, b6, b7, b8, b9, b10, b11, b12, b13])]) (fun _ s => starL_tail (fun _ s => stars_of (L := limHo [b4, b5, b6, b7, b8, b9, b10, b11, b12, b13]) (H := []) s) s) ?_
    have hbs : (limH.zip [b4, b5, b6, b7, b8, b9, b10, b11, b12, b13]).length = 10 := rfl
    generalize [b4, b5, b6, b7, b8, b9, b10, b11, b12, b13] = bs at hbs ⊢
    refine Lo (ι := Nat) [118, 119, 120, 121, 124, 125, 126, 127, 14, 129, 130, 128, 131, 132, 133, 15, 16, 17, 135, 136, 137, 138, 139, 140, 134, 141, 142, 143, 18, 19, 20, 144, 21, 145, 146, 147, 148, 149, 150, 151, 152, 153, 154, 155, 156, 157, 158, 159, 160, 161, 162, 163, 164, 0, 165, 166, 167, 168, 169, 170, 171, 172, 173, 22, 174, 175, 176, 177, 178, 179, 180, 181, 182, 183, 184, 185, 186, 187, 188, 189, 190, 191, 122, 123, 13] (fun i => i ≤ 10) (fun i => [(13, .int .i64 (i : Int))]) (fun i => [pts b14 37 (limHc bs), stars (limHo bs)]) (fun i => 10 - i) (0) (Nat.zero_le _) ?_
    rintro i hi
    refine g_seq ?_
    refine g_sr ?_
    refine Li Mv ?_
    refine Li Mv ?_
    refine Li (Ln T.sl_24) ?_
    refine Li Cm ?_
    refine g_ne ?_
    refine g_cond rfl ?_ ?_
    · intro hlt
      replace hlt := nrm hlt
      obtain ⟨p, e1⟩ : ∃ p, (limH.zip bs)[i]? = some p := ⟨_, List.getElem?_eq_getElem (show i < (limH.zip bs).length by omega)⟩
      obtain ⟨h, b⟩ := p
      have hh : h ∈ limH := (List.of_mem_zip (List.mem_of_getElem? e1)).1
      have k1 : (limHc bs)[i]? = some (.slice (some ⟨b, 0, none⟩) h.length h.length) := by simp [limHc, e1]
      have k2 : (limHo bs)[i]? = some (pts b 5 (bcells h)) := by simp only [limHo, List.getElem?_map, e1, Option.map_some]
      obtain ⟨l1, l2, _, _⟩ := limH_1 h hh
      refine g_skip ?_
      refine e_then ?_
      refine g_seq ?_
      refine g_block ?_
      refine g_sr ?_
      refine Li Mv ?_
      refine Li Mv ?_
      refine Li (Ix T.sl_24) ?_
      refine Lp (op_yH rfl rfl (fun h hin le => y_loadR T.sc_37 rfl rfl (pts_in (hin.nth 0 rfl)) k1) ?_)
      refine Li As ?_
      refine g_ne ?_
      refine g_sr ?_
      refine Li Mv ?_
      refine Lp (oC T.fn_23 rfl rfl (lim_r1 h hh (some ⟨b, 0, none⟩) h.length (Nat.le_refl _)) .nil (fun _ le hin => pts_in ((stars_in (hin.nth 1 rfl)).nth i k2)) ?_)
      rintro v H' ⟨ae1, ce1, av1, cv1, rfl, rfl⟩
      try simp only [nap, cap]
      dsimp only [pktCells, zeroP]
      refine Li Mv ?_
      refine Li Ex ?_
      refine Li Ex ?_
      refine Li Ex ?_
      refine Lp (oA T.zc_39 fun b15 => ?_)
      refine Lp (oSN T.ag_39 ?_)
      refine Li As ?_
      refine Li As ?_
      refine g_ne ?_
      refine g_sr ?_
      refine Li Mv ?_
      refine Li Mv ?_
      refine Li (Ln T.sl_37) ?_
      refine Li Im ?_
      refine Li (Sl 0 (h.length - 1) h.length T.sl_37) ?_
      refine Lp (oC T.fn_23 rfl rfl (lim_r2 h hh (cutA (some ⟨b, 0, none⟩) 0 h.length (0 * 1)) (h.length - 0) (by omega)) .nil (fun _ le hin => cut2 (l := h) (pts_in ((stars_in (hin.nth 4 rfl)).nth i k2)) 0 h.length (h.length - 1) (by omega)) ?_)
      rintro v H' ⟨ae2, ce2, av2, cv2, rfl, rfl⟩
      try simp only [nap, cap]
      dsimp only [pktCells, zeroP]
      refine Li Mv ?_
      refine Li Ex ?_
      refine Li Ex ?_
      refine Li Ex ?_
      refine Lp (oA T.zc_39 fun b16 => ?_)
      refine Lp (oSN T.ag_39 ?_)
      refine Li As ?_
      refine Li As ?_
      refine g_ne ?_
      refine g_sr ?_
      refine Lp (oC T.fn_27 rfl rfl (new_fn 9 (by decide) (by decide)) .nil (fun _ _ _ => trivial) ?_)
      rintro v H' ⟨bf, rfl, rfl⟩
      try simp only [nap, cap]
      refine Li As ?_
      refine g_ne ?_
      refine g_seq ?_
      refine g_sr ?_
      refine Li Mv ?_
      refine Li (Pn T.u_58) ?_
      refine Li Mv ?_
      refine g_slot (t := 147) (v' := .bool false) rfl (congrArg Value.bool (by first | rfl | decide | (simp; done))) ?_
      refine Li Mv ?_
      refine Lp (oC T.fn_17 rfl rfl (num_fn _) .nil (fun _ _ _ => trivial) ?_)
      rintro v H' ⟨rfl, rfl⟩
      try simp only [nap, cap]
      refine Li Cm ?_
      refine Li Pf ?_
      refine Li Mv ?_
      refine g_slot (t := 152) (v' := .bool false) rfl (congrArg Value.bool (by first | rfl | decide | (simp; done))) ?_
      refine Li Mv ?_
      refine Li Cm ?_
      refine Li Pf ?_
      refine Li Mv ?_
      refine g_slot (t := 156) (v' := .bool false) rfl (congrArg Value.bool (by first | rfl | decide | (simp; done))) ?_
      refine Li Mv ?_
      refine Lp (oC T.fn_17 rfl rfl (num_fn _) .nil (fun _ _ _ => trivial) ?_)
      rintro v H' ⟨rfl, rfl⟩
      try simp only [nap, cap]
      refine Li Cm ?_
      refine Li Pf ?_
      refine Li Mv ?_
      refine g_slot (t := 161) (v' := .bool false) rfl (congrArg Value.bool (by first | rfl | decide | (simp; done))) ?_
      refine Li Mv ?_
      refine Li Cm ?_
      refine Li Pf ?_
      refine g_ne ?_
      refine g_cond_f rfl (by rfl) ?_
      refine g_skip ?_
      refine e_then ?_
      refine g_sr ?_
      refine Li Mv ?_
      refine Li Mv ?_
      refine Li Mv ?_
      refine Li (Ln T.sl_37) ?_
      refine Li Im ?_
      refine Li (Sl 0 (h.length - 1) h.length T.sl_37) ?_
      refine g_nilrow 5 1 ?_
      refine Lp (oC T.fn_31 rfl rfl (lim_f1 h hh bf (cutA (some ⟨b, 0, none⟩) 0 h.length (0 * 1)) (h.length - 0) (by omega)) (.cons (.there .here) (.cons .here .nil)) (fun _ le hin => cut2 (l := h) (pts_in ((stars_in (hin.nth 7 rfl)).nth i k2)) 0 h.length (h.length - 1) (by omega)) ?_)
      rintro v H' ⟨ak7, ck7, ao7, co7, rfl, hk7, rfl⟩
      try simp only [nap, cap]
      refine g_ne ?_
      refine g_sr ?_
      refine Li Mv ?_
      refine Lp (oC T.fn_38 rfl rfl (broken_fn bf 9 (h.length - 1) ck7 0 (h.length - 1) false ak7) .nil (fun _ le hin => hin.nth 0 rfl) ?_)
      rintro v H' ⟨rfl, rfl⟩
      try simp only [nap, cap]
      refine Li As ?_
      refine g_ne ?_
      refine g_sr ?_
      refine Li Mv ?_
      refine Li Mv ?_
      refine Li Mv ?_
      refine Li (Ln T.sl_37) ?_
      refine Li Im ?_
      refine Li (Sl (h.length - 1) h.length h.length T.sl_37) ?_
      rw [show h.length - (h.length - 1) = 1 from by omega]
      refine Lp (oC T.fn_31 rfl rfl (lim_f2 h hh bf (cutA (some ⟨b, 0, none⟩) (h.length - 1) h.length ((h.length - 1) * 1)) ak7 1 ck7 (Nat.le_refl _) hk7) (.cons .here (.cons .here .nil)) (fun _ le hin => cutT (l := h) (pts_in ((stars_in (hin.nth 9 rfl)).nth i k2)) (h.length - 1) h.length (by omega)) ?_)
      rintro v H' ⟨ak8, ck8, ao8, co8, rfl, rfl⟩
      try simp only [nap, cap]
      refine g_ne ?_
      refine g_sr ?_
      refine Li Mv ?_
      refine Li Mv ?_
      refine g_slot (t := 182) (v' := .bool false) rfl (congrArg Value.bool (by first | rfl | decide | (simp; done))) ?_
      refine Li Mv ?_
      refine Lp (oC T.fn_38 rfl rfl (broken_fn bf 9 0 ck8 0 h.length true ak8) .nil (fun _ le hin => hin.nth 0 rfl) ?_)
      rintro v H' ⟨rfl, rfl⟩
      try simp only [nap, cap]
      refine Li Nt ?_
      refine Li Pf ?_
      refine Li Mv ?_
      refine g_slot (t := 187) (v' := .bool false) rfl (congrArg Value.bool (by first | rfl | decide | (simp; done))) ?_
      refine Li Mv ?_
      refine Lp (oC T.fn_37 rfl rfl (held_fn bf 9 0 ck8 0 h.length true ak8) .nil (fun _ le hin => hin.nth 0 rfl) ?_)
      rintro v H' ⟨rfl, rfl⟩
      try simp only [nap, cap]
      refine Li Cm ?_
      refine Li Pf ?_
      refine g_ne ?_
      refine g_cond_f rfl (by first | rfl | decide | (simp; done)) ?_
      refine g_skip ?_
      refine e_block ?_
      refine e_then ?_
      refine g_region ?_
      refine Li Mv ?_
      refine Li Im ?_
      refine Li As ?_
      refine g_nil ?_
      refine Ro (i + 1) ((by omega)) (by omega)
    · intro hlt
      replace hlt := nrm hlt
      refine g_exit ?_
      refine e_then_exit ?_
      refine e_then_exit ?_
      refine e_block_hit ?_
      refine e_then ?_
      refine g_sr ?_
      refine Lp (oT T.ap_37 fun b17 => ?_)
      refine Li As ?_
      refine g_ne ?_
      refine g_sr ?_
      refine Li Mv ?_
      refine Lp (oC T.fn_23 rfl rfl (lim_m (some ⟨b17, 0, none⟩)) .nil (fun _ le hin => pts_in (hin.nth 0 rfl)) ?_)
      rintro v H' ⟨ae1, ce1, av1, cv1, rfl, rfl⟩
      try simp only [nap, cap]
      dsimp only [pktCells, zeroP]
      refine Li Mv ?_
      refine Li Ex ?_
      refine Li Ex ?_
      refine Li Ex ?_
      refine Lp (oA T.zc_39 fun b18 => ?_)
      refine Lp (oSN T.ag_39 ?_)
      refine Li As ?_
      refine Li As ?_
      refine g_ne ?_
      refine g_sr ?_
      refine Li Mv ?_
      refine Lp (oC T.fn_17 rfl rfl (num_fn _) .nil (fun _ _ _ => trivial) ?_)
      rintro v H' ⟨rfl, rfl⟩
      try simp only [nap, cap]
      refine Li Cm ?_
      refine Li Mv ?_
      refine g_slot (t := 202) (v' := .bool true) rfl (congrArg Value.bool (by first | rfl | decide | (simp; done))) ?_
      refine Li Mv ?_
      refine Li Cm ?_
      refine Li Pt ?_
      refine Li As ?_
      refine g_ne ?_
      refine g_ret ?_
      refine Rt [] Try.results12 ?_
      exact ⟨rfl, rfl⟩
end Go.Proofs.Ytggmpaggmkfmoaa

