/- Packets: the law of Bytes. -/
import Derived.Test.YtggmpaggmkfmoaaD9
import Derived.Test.YtggmpaggmkfmoaaD7
import Derived.Test.YtggmpaggmkfmoaaA12
set_option maxRecDepth 100000
namespace Go.Proofs.Ytggmpaggmkfmoaa
open Go Go.Eng

/-- what Bytes tells: the bytes, the error's number -/
def resB (p : Pkt) : List UInt8 := if okP p then enc p else []
def errB (p : Pkt) : Int := if okP p then 0 else 7
theorem out_bytes {f : FuncId} {p : Pkt} {args : List Value} {pre : Hp → Prop} (h : FnS Try.prog f args pre [] (fun v H => (okP p = true ∧ ∃ a c, v = .tuple #[.slice a (enc p).length c, .int .i64 0] ∧ H = [own a c 5 1 (bcells (enc p))]) ∨
        (okP p = false ∧ v = .tuple #[.slice none 0 0, .int .i64 7] ∧ H = []))) :
    FnS Try.prog f args pre [] (fun v H => ∃ a c, v = .tuple #[.slice a (resB p).length c, .int .i64 (errB p)] ∧ H = [own a c 5 1 (bcells (resB p))]) :=
  h.out fun v H' => by
    rintro (⟨ho, a, c, rfl, rfl⟩ | ⟨ho, rfl, rfl⟩)
    · exact ⟨[own a c 5 1 (bcells (resB p))], ⟨a, c, by unfold resB errB; rw [if_pos ho, if_pos ho], rfl⟩, fun k s => by unfold resB; rw [if_pos ho]; exact s⟩
    · exact ⟨[own none 0 5 1 (bcells (resB p))], ⟨none, 0, by unfold resB errB; rw [if_neg (by rw [ho]; decide), if_neg (by rw [ho]; decide)]; rfl, rfl⟩, fun k s => by unfold resB; rw [if_neg (by rw [ho]; decide)]; exact starL_own_nil 5 1 s⟩
theorem enc_len (p : Pkt) : (enc p).length = 24 + p.body := by simp [enc, Pkt.body]; omega
theorem resB_len (p : Pkt) (h : (fitP p).val.length ≤ 12000) : (resB (fitP p)).length ≤ 20000 := by
  unfold resB
  split
  · rename_i ho
    rw [enc_len]
    generalize fitP p = q at *
    have := ho
    simp only [okP, Bool.not_eq_true', Bool.or_eq_false_iff, decide_eq_false_iff_not] at this
    unfold Pkt.body
    omega
  · simp
theorem cutB {h : Hp} {a : Option Addr} {c : Nat} {L M : List UInt8} (r : Rdl h a (bcells (L ++ M))) (hc : L.length ≤ c) : Rdl h (cutA a 0 c (0 * 1)) (bcells L) := by
  have := r.cut 0 c (0 * 1) L.length (by omega)
  have e : ((bcells (L ++ M)).drop (0 * 1)).take L.length = bcells L := by
    rw [Nat.zero_mul, List.drop_zero, bcells_append, ← bcells_length L, List.take_left]
  rwa [e] at this
theorem pktCells_set5 (p : Pkt) (ae av : Option Addr) (ce cv : Nat) (a : Option Addr) (c : Nat) : (pktCells p ae ce av cv).set (0 + 5) (.slice a p.ex.length c) = pktCells p a c av cv := rfl
theorem pktCells_set7 (p : Pkt) (ae av : Option Addr) (ce cv : Nat) (a : Option Addr) (c : Nat) : (pktCells p ae ce av cv).set (0 + 7) (.slice a p.val.length c) = pktCells p ae ce a c := rfl
theorem pktCells_one (p : Pkt) (ae av : Option Addr) (ce cv : Nat) : ∀ v ∈ pktCells p ae ce av cv, v.oneCell' = true := by
  unfold pktCells
  simp [Value.oneCell', strv]
@[simp] theorem pktCells_len (p : Pkt) (ae av : Option Addr) (ce cv : Nat) : (pktCells p ae ce av cv).length = 9 := rfl
theorem ln_zero {b : Nat} {R : List HProp} : ∀ h, starL (pts b 35 (lnC nilS nilS) :: R) h → starL (pts b 35 (lnC (.slice none ([] : List Bi).length 0) (.slice none ([] : List Bi).length 0)) :: own none 0 37 1 (([] : List Bi).map bir) :: own none 0 37 1 (([] : List Bi).map biw) :: stars (([] : List Bi).map Qb) :: R) h := fun h s =>
  starL_tail (fun _ t => starL_own_nil 37 1 (starL_own_nil 37 1 (starL_nil_stars t))) s
/-- a list of packets that came in -/
structure Pk where
  p : Pkt
  ae : Option Addr
  ce : Nat
  av : Option Addr
  cv : Nat
def pkC (x : Pk) : List Value := pktCells x.p x.ae x.ce x.av x.cv
structure PkOk (h : Hp) (x : Pk) : Prop where
  he : x.p.ex.length ≤ x.ce
  hv : x.p.val.length ≤ x.cv
  re : Rdl h x.ae (bcells x.p.ex)
  rv : Rdl h x.av (bcells x.p.val)
  tok : x.p.token < 18446744073709551616
def pksC (l : List Pk) : List Value := l.flatMap pkC
theorem flatB_at {α : Type} (f : α → List Value) (n : Nat) (hn : ∀ x, (f x).length = n) (l : List α) (i : Nat) (x : α) (h : l[i]? = some x) : ((l.flatMap f).drop (i * n)).take n = f x := by
  induction l generalizing i with
  | nil => simp at h
  | cons q r ih =>
    have hq := hn q
    rw [List.flatMap_cons]
    cases i with
    | zero =>
      simp only [List.getElem?_cons_zero, Option.some.injEq] at h
      subst h
      rw [Nat.zero_mul, List.drop_zero, List.take_append_of_le_length (by omega), List.take_of_length_le (by omega)]
    | succ i =>
      rw [List.getElem?_cons_succ] at h
      rw [List.drop_append, List.drop_of_length_le (by rw [hq, Nat.succ_mul]; omega), List.nil_append, hq, show (i + 1) * n - n = i * n from by rw [Nat.succ_mul]; omega]
      exact ih i h
theorem flatB_len {α : Type} (f : α → List Value) (n : Nat) (hn : ∀ x, (f x).length = n) (l : List α) : (l.flatMap f).length = l.length * n := by
  induction l with
  | nil => simp
  | cons q r ih => rw [List.flatMap_cons, List.length_append, hn, ih, List.length_cons, Nat.succ_mul]; omega
set_option maxHeartbeats 8000000 in
theorem pbytesLaw_fn (l : List Pk) (hb : l.length ≤ 9223372036854775807) (a : Option Addr) (m c : Nat) (hm : m = l.length) :
    FnS Try.prog 3 [.slice a m c] (fun h => Rdl h a (pksC l) ∧ ∀ x ∈ l, PkOk h x) [] (fun v H => v = .bool true ∧ H = []) := by
  subst hm
  refine fn_body Try.func3 rfl Try.ntmps3 rfl ?_
  intro F hF
  refine g_sr ?_
  refine Li As ?_
  refine g_ne ?_
  refine g_sr ?_
  refine Li (Bd T.zc_32 T.st_32) ?_
  refine Lp (oB fun b1 => ?_)
  refine Li As ?_
  refine g_ne ?_
  refine g_sr ?_
  refine Li (Bd T.zc_35 T.st_35) ?_
  refine Lp (oB fun b2 => ?_)
  refine Li As ?_
  refine g_ne ?_
  refine g_seq ?_
  generalize hbk : b1 = bk
  generalize hlo : b2 = lo


  refine g_nilrow 37 1 ?_
  refine g_nilrow 37 1 ?_
  refine g_heap (fun _ s => starL_nil_stars s) ?_
  refine Hh (H' := [pts lo 35 (lnC nilS nilS), pts bk 32 (bkC nilS nilS nilS nilS 0), own none 0 37 1 (([] : List Bi).map bir), own none 0 37 1 (([] : List Bi).map biw), stars (([] : List Bi).map Qb)]) ?_
  refine g_sr ?_
  refine Li As ?_
  refine g_ne ?_
  refine g_block ?_
  refine Lo (ι := Nat × Option Addr × Nat × Option Addr × Nat × List Bi × Int) [18, 19, 20, 21, 22, 23, 24, 25, 28, 29, 30, 31, 32, 6, 33, 7, 34, 35, 36, 37, 38, 39, 40, 41, 42, 43, 45, 46, 44, 47, 48, 8, 9, 50, 51, 49, 52, 53, 10, 11, 55, 56, 54, 57, 58, 12, 13, 59, 60, 61, 62, 63, 64, 65, 66, 67, 68, 69, 70, 71, 72, 73, 74, 75, 76, 77, 78, 79, 80, 2, 81, 82, 83, 84, 85, 86, 87, 88, 89, 90, 91, 26, 27, 5] (fun (i, ai, ci, aw, cw, xs, n) => i ≤ l.length ∧ i ≤ 60 ∧ BkOk xs ci cw n ∧ n ≤ 300000) (fun (i, ai, ci, aw, cw, xs, n) => [(5, .int .i64 (i : Int))]) (fun (i, ai, ci, aw, cw, xs, n) => [pts lo 35 (lnC nilS nilS), pts bk 32 (bkC (.slice ai xs.length ci) (.slice aw xs.length cw) nilS nilS n), own ai ci 37 1 (xs.map bir), own aw cw 37 1 (xs.map biw), stars (xs.map Qb)]) (fun (i, ai, ci, aw, cw, xs, n) => l.length - i) ((0, none, 0, none, 0, [], 0)) ⟨Nat.zero_le _, Nat.zero_le _, ⟨Nat.zero_le _, Nat.zero_le _, fun i x h => by simp at h, Int.le_refl _, by simp, by simp⟩, by omega⟩ ?_
  rintro ⟨i, ai, ci, aw, cw, xs, n⟩ ⟨hi, hi2, ok, hn⟩
  try dsimp only at hI ⊢
  try dsimp only at hi hi2 ok hn ⊢
  refine g_seq ?_
  refine g_seq ?_
  refine g_mid (ι := Unit) [18, 19, 20, 21, 22, 23, 24, 25] (fun u => True) (fun u => [(25, .bool (decide ((i : Int) < l.length) && decide ((i : Int) < 60)))]) (fun u => [pts lo 35 (lnC nilS nilS), pts bk 32 (bkC (.slice ai xs.length ci) (.slice aw xs.length cw) nilS nilS n), own ai ci 37 1 (xs.map bir), own aw cw 37 1 (xs.map biw), stars (xs.map Qb)]) ?_ ?_
  · refine g_region ?_
    refine Li Mv ?_
    refine Li Mv ?_
    refine Li (Ln T.sl_22) ?_
    refine Li Cm ?_
    refine Li Mv ?_
    refine g_split (t := 22) rfl ?_ ?_
    · intro hb0
      replace hb0 := nrm hb0
      refine Li Mv ?_
      refine Li Cm ?_
      refine Li Pt ?_
      refine g_nil ?_
      refine Me (()) (trivial)
    · intro hb0
      replace hb0 := nrm hb0
      refine Lx ?_
      refine Lx ?_
      refine Li Pf ?_
      refine g_nil ?_
      refine Me (()) (trivial)
  rintro u hI
  refine g_cond rfl ?_ ?_
  · intro h1
    replace h1 := nrm h1
    obtain ⟨x, e1⟩ : ∃ x, l[i]? = some x := ⟨_, List.getElem?_eq_getElem (show i < l.length by omega)⟩
    have hll : (pksC l).length = l.length * 9 := flatB_len pkC 9 (fun _ => rfl) l
    have hF1 := hF.1
    have ox := hF.2 x (List.mem_of_getElem? e1)
    have a0 : a.isSome = true := hF1.some (by omega)
    have k1 : ((pksC l).drop (i * 9)).take 9 = pktCells x.p x.ae x.ce x.av x.cv := flatB_at pkC 9 (fun _ => rfl) l i x e1
    refine g_skip ?_
    refine e_then ?_
    refine g_seq ?_
    refine g_block ?_
    refine g_sr ?_
    refine Li Mv ?_
    refine Li Mv ?_
    refine Li (Ix T.sl_22) ?_
    refine Lp (oLN T.ag_39 ?_)
    refine Lp (oC T.fn_13 rfl rfl (fit_fn x.p x.ae x.av x.ce x.cv ox.he ox.hv) .nil (fun _ _ _ => trivial) ?_)
    rintro v H' ⟨fe, ke, fv, kv, rfl, hke, hkv, hre, hrv, rfl⟩
    try simp only [nap, cap]
    have rE := hre _ ox.re
    have rV := hrv _ ox.rv
    have hvl : (fitP x.p).val.length ≤ 12000 := by simp [fitP, cap12]; omega
    have hel : (fitP x.p).ex.length ≤ 12000 := by simp [fitP, cap12]; omega
    have hkl : (fitP x.p).key.length ≤ 12000 := by simp [fitP, cap12]; omega
    have htok : (fitP x.p).token < 18446744073709551616 := ox.tok
    have hbody : (fitP x.p).body ≤ 1099511627776 := by unfold Pkt.body; omega
    have hrl := resB_len x.p hvl
    generalize hq : fitP x.p = q at *
    refine Lp (oA T.zc_39 fun b3 => ?_)
    refine Lp (oSW T.ag_39 ?_ (h1 := by first | exact pktCells_one _ _ _ _ _ | (simp [setL, Value.cells, Value.oneCell', strv])))
    refine g_ne ?_
    refine g_sr ?_
    refine Lp (oLN T.ag_39 ?_)
    refine Lp (oA T.zc_39 fun b4 => ?_)
    refine Lp (oSW T.ag_39 ?_ (h1 := by first | exact pktCells_one _ _ _ _ _ | (simp [setL, Value.cells, Value.oneCell', strv])))
    refine g_ne ?_
    refine g_sr ?_
    refine Li Mv ?_
    refine Li (Fa T.fld_39_5) ?_
    refine Lp (oL T.sc_37 ?_)
    refine g_heap (H' := [pts lo 35 (lnC nilS nilS), pts b4 39 (pktCells q fe ke fv kv), pts b3 39 (pktCells q fe ke fv kv), pts bk 32 (bkC (.slice ai xs.length ci) (.slice aw xs.length cw) nilS nilS n), own ai ci 37 1 (xs.map bir), own aw cw 37 1 (xs.map biw), stars (xs.map Qb)]) (by exact Eh) ?_
    generalize ht7 : b4 = t7
    generalize ht6 : b3 = t6
    refine g_heap ln_zero ?_
    refine Lp (oC T.fn_14 rfl rfl (lBytes_fn lo none 0 none 0 [] (Nat.zero_le _) (Nat.zero_le _) (Nat.zero_le _) fe ke q.ex (by omega) q.ex.length rfl) (.cons .here (.cons .here (.cons .here (.cons .here .nil)))) (fun _ le _ => rE.mono le) ?_)
    rintro v H' ⟨la, lc, lw, ld, X, rfl, hX, hXc, lc1, lc2, rfl⟩
    try simp only [nap, cap]
    simp only [lnH, nap, cap, List.nil_append]
    simp only [List.length_nil, Nat.zero_add] at lc1 lc2
    refine Li (Fa T.fld_39_5) ?_
    refine Lp (oS T.sc_37 ?_)
    refine g_ne ?_
    refine g_sr ?_
    refine Li Mv ?_
    refine Li (Fa T.fld_39_7) ?_
    refine Lp (oL T.sc_37 ?_)
    rw [pktCells_set5]
    refine Lp (oC T.fn_14 rfl rfl (lBytes_fn lo la lc lw ld [X] lc1 lc2 (by simp) fv kv q.val (by omega) q.val.length rfl) (.cons .here (.cons .here (.cons .here (.cons .here .nil)))) (fun _ le _ => rV.mono le) ?_)
    rintro v H' ⟨ma, mc, mw, md, Y, rfl, hY, hYc, mc1, mc2, rfl⟩
    try simp only [nap, cap]
    simp only [lnH, nap, cap]
    refine Li (Fa T.fld_39_7) ?_
    refine Lp (oS T.sc_37 ?_)
    refine g_ne ?_
    refine g_sr ?_
    refine Lp (oLN T.ag_39 ?_)
    rw [pktCells_set7]
    refine Lp (oC T.fn_15 rfl rfl (out_bytes (bytes_fn q (cutA X.r.a 0 X.r.c (0 * 1)) (X.r.c - 0) (cutA Y.r.a 0 Y.r.c (0 * 1)) (Y.r.c - 0) hbody htok)) .nil (fun _ _ hin => ⟨cutB (by have := (ln_rows (hin.nth 3 rfl) X (by simp)).2.1; rw [hX] at this; exact this) (by omega), cutB (by have := (ln_rows (hin.nth 3 rfl) Y (by simp)).2.1; rw [hY] at this; exact this) (by omega)⟩) ?_)
    rintro v H' ⟨a1, c1, rfl, rfl⟩
    try simp only [nap, cap]
    refine Li Mv ?_
    refine Li Ex ?_
    refine Li Ex ?_
    refine Li As ?_
    refine Li As ?_
    refine g_ne ?_
    refine g_sr ?_
    refine Lp (oLN T.ag_39 ?_)
    refine Lp (oC T.fn_15 rfl rfl (out_bytes (bytes_fn q (cutA X.r.a 0 X.r.c (0 * 1)) (X.r.c - 0) (cutA Y.r.a 0 Y.r.c (0 * 1)) (Y.r.c - 0) hbody htok)) .nil (fun _ _ hin => ⟨cutB (by have := (ln_rows (hin.nth 4 rfl) X (by simp)).2.1; rw [hX] at this; exact this) (by omega), cutB (by have := (ln_rows (hin.nth 4 rfl) Y (by simp)).2.1; rw [hY] at this; exact this) (by omega)⟩) ?_)
    rintro v H' ⟨a2, c2, rfl, rfl⟩
    try simp only [nap, cap]
    refine Li Mv ?_
    refine Li Ex ?_
    refine Li Ex ?_
    refine Li As ?_
    refine Li As ?_
    refine g_ne ?_
    refine g_sr ?_
    refine Lp (oLN T.ag_39 ?_)
    refine Lp (oC T.fn_16 rfl rfl (out_bytes (rbytes_fn q fe ke fv kv hbody htok)) .nil (fun _ le _ => ⟨rE.mono le, rV.mono le⟩) ?_)
    rintro v H' ⟨a3, c3, rfl, rfl⟩
    try simp only [nap, cap]
    generalize hR : resB q = R at *
    generalize errB q = er at *
    refine Li Mv ?_
    refine Li Ex ?_
    refine Li Ex ?_
    refine Li As ?_
    refine Li As ?_
    refine g_ne ?_
    refine g_seq ?_
    refine g_sr ?_
    refine Li Mv ?_
    refine Lp (oC T.fn_17 rfl rfl (num_fn er) .nil (fun _ _ _ => trivial) ?_)
    rintro v H' ⟨rfl, rfl⟩
    try simp only [nap, cap]
    refine Li Mv ?_
    refine Li Cm ?_
    refine Li Mv ?_
    refine g_slot (t := 63) (v' := .bool false) rfl (congrArg Value.bool (by simp)) ?_
    refine Li Mv ?_
    refine Lp (oC T.fn_17 rfl rfl (num_fn er) .nil (fun _ _ _ => trivial) ?_)
    rintro v H' ⟨rfl, rfl⟩
    try simp only [nap, cap]
    refine Li Mv ?_
    refine Li Cm ?_
    refine Li Pf ?_
    refine Li Mv ?_
    refine g_slot (t := 69) (v' := .bool false) rfl (congrArg Value.bool (by simp)) ?_
    refine Li Mv ?_
    refine Lp (op_toString T.sl_37 T.u_5 T.u_9 rfl rfl rfl rfl (fun h le hin => own_in (hin.nth 2 rfl)) rfl ?_)
    refine Li Mv ?_
    refine Lp (op_toString T.sl_37 T.u_5 T.u_9 rfl rfl rfl rfl (fun h le hin => own_in (hin.nth 0 rfl)) rfl ?_)
    refine Li Sq ?_
    refine Li Pf ?_
    refine Li Mv ?_
    refine g_slot (t := 76) (v' := .bool false) rfl (congrArg Value.bool (by simp)) ?_
    refine Li Mv ?_
    have hpl : padL.length = 40 := by simp [padL]
    have hXL : X.L.length ≤ 200000 := by rw [hX, List.length_append, hpl]; omega
    have hYL : Y.L.length ≤ 200000 := by rw [hY, List.length_append, hpl]; omega
    refine Lp (oC T.fn_18 rfl rfl (lBack_fn lo ma mc mw md [X, Y] (by simp) (by intro z hz; simp at hz; rcases hz with rfl | rfl <;> assumption)) (.cons (.there (.there (.there .here))) (.cons (.there (.there (.there .here))) (.cons (.there (.there (.there .here))) (.cons (.there (.there (.there .here))) .nil)))) (fun _ _ _ => trivial) ?_)
    rintro v H' ⟨rfl, rfl⟩
    try simp only [nap, cap]
    refine Li Nt ?_
    refine Li Pf ?_
    refine g_ne ?_
    refine g_cond_f rfl (by rfl) ?_
    refine g_skip ?_
    refine e_then ?_
    refine g_sr ?_
    refine Li Mv ?_
    refine Li Mv ?_
    refine Lp (oC T.fn_19 rfl rfl (bBytes_fn bk ai ci aw cw xs n ok hn a1 c1 R hrl R.length rfl) (.cons (.there (.there (.there .here))) (.cons (.there (.there (.there (.there (.there .here))))) (.cons (.there (.there (.there (.there (.there .here))))) (.cons (.there (.there (.there (.there (.there .here))))) (.cons (.there (.there (.there (.there (.there .here))))) .nil))))) (fun _ _ _ => trivial) ?_)
    rintro v H' ⟨rfl, bi2, ci2, bw2, cw2, xs2, n2, rfl, ok2, hn2⟩
    try simp only [nap, cap]
    simp only [bkH, nap, cap]
    refine g_ne ?_
    refine g_seq ?_
    refine g_sr ?_
    refine Li Mv ?_
    refine Lp (op_toString T.sl_37 T.u_5 T.u_9 rfl rfl rfl rfl (fun h le hin => own_in (hin.nth 6 rfl)) rfl ?_)
    refine Li Mv ?_
    refine Lp (op_toString T.sl_37 T.u_5 T.u_9 rfl rfl rfl rfl (fun h le hin => own_in (hin.nth 5 rfl)) rfl ?_)
    refine Li Sq ?_
    refine g_ne ?_
    refine g_cond_f rfl (by simp) ?_
    refine g_skip ?_
    refine e_then ?_
    refine g_region ?_
    refine Li Mv ?_
    refine Li Mv ?_
    refine Lp (oC T.fn_19 rfl rfl (bBytes_fn bk bi2 ci2 bw2 cw2 xs2 n2 ok2 hn2 a2 c2 R hrl R.length rfl) (.cons (.there (.there (.there (.there (.there (.there .here)))))) (.cons .here (.cons .here (.cons .here (.cons .here .nil))))) (fun _ _ _ => trivial) ?_)
    rintro v H' ⟨rfl, bi3, ci3, bw3, cw3, xs3, n3, rfl, ok3, hn3⟩
    try simp only [nap, cap]
    simp only [bkH, nap, cap]
    refine g_nil ?_
    refine e_block ?_
    refine e_then ?_
    refine g_region ?_
    refine Li Mv ?_
    refine Li Im ?_
    refine Li As ?_
    refine g_nil ?_
    refine Ro ((i + 1, bi3, ci3, bw3, cw3, xs3, n3)) (⟨by omega, by omega, ok3, hn3⟩) (by omega)
  · intro h1
    replace h1 := nrm h1
    refine g_exit ?_
    refine e_then_exit ?_
    refine e_then_exit ?_
    refine e_block_hit ?_
    refine e_then ?_
    refine g_sr ?_
    refine Li Mv ?_
    refine Lp (oC T.fn_20 rfl rfl (close_fn bk ai ci aw cw xs n ok hn) (.cons (.there .here) (.cons (.there .here) (.cons (.there .here) (.cons (.there .here) .nil)))) (fun _ _ _ => trivial) ?_)
    rintro v H' ⟨rfl, rfl⟩
    try simp only [nap, cap]
    refine Li Mv ?_
    refine g_slot (t := 94) (v' := .bool true) rfl (congrArg Value.bool (by rfl)) ?_
    refine Lp (oC T.fn_21 rfl rfl (wakes_fn) .nil (fun _ _ _ => trivial) ?_)
    rintro v H' ⟨rfl, rfl⟩
    try simp only [nap, cap]
    refine Li Pt ?_
    refine Li As ?_
    refine g_ne ?_
    refine g_ret ?_
    refine Rt [] Try.results3 ?_
    exact ⟨rfl, rfl⟩
end Go.Proofs.Ytggmpaggmkfmoaa

