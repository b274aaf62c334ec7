/- Packets: two Feeders in turns. -/
import Derived.Test.YtggmpaggmkfmoaaA17
set_option maxRecDepth 100000
namespace Go.Proofs.Ytggmpaggmkfmoaa
open Go Go.Eng

theorem chCells_one (l : List Ch) (i : Nat) (x : Ch) (h : l[i]? = some x) : ((chCells l).drop (i * 1)).take 1 = chCells [x] := by
  rw [Nat.mul_one]
  induction l generalizing i with
  | nil => simp at h
  | cons y r ih =>
    cases i with
    | zero => simp at h; subst h; simp [chCells]
    | succ i => rw [List.getElem?_cons_succ] at h; simpa [chCells] using ih i h

def PktsAt2 (_a : Option Addr) (c : Nat) (l : List (Pkt × Ad)) : Prop := l.length ≤ c
theorem PktsAt2_in {ao : Option Addr} {co : Nat} {l : List (Pkt × Ad)} {h : Hp} (o : ∃ k, own ao co 39 9 (pktsCells l) k ∧ Le k h) : PktsAt2 ao co l := by
  obtain ⟨k, p, _⟩ := o
  have := p.1
  rw [pktsCells_length] at this
  unfold PktsAt2
  omega
theorem Pk2_at {ao : Option Addr} {co : Nat} {l : List (Pkt × Ad)} {h : Hp} (o : ∃ k, own ao co 39 9 (pktsCells l) k ∧ Le k h) (o2 : ∃ k, stars (pktOwns l) k ∧ Le k h) : PktsAt h ao l := by
  have h2 := stars_in o2
  refine ⟨own_in o, fun p hp => ?_⟩
  have e1 : own p.2.ae p.2.ce 5 1 (bcells p.1.ex) ∈ pktOwns l := List.mem_flatMap.2 ⟨p, hp, by simp⟩
  have e2 : own p.2.av p.2.cv 5 1 (bcells p.1.val) ∈ pktOwns l := List.mem_flatMap.2 ⟨p, hp, by simp⟩
  exact ⟨own_in (InLmem h2 e1), own_in (InLmem h2 e2)⟩

set_option maxHeartbeats 8000000 in
theorem apart_fn (raw : List UInt8) (ar : Option Addr) (cr : Nat) (one : List Int) (a1 : Option Addr) (c1 : Nat) (two : List Int) (a2 : Option Addr) (c2 : Nat) (lx : Int) (hr : raw.length ≤ cr)
    (q1 : -9223372036854775808 ≤ lx) (q2 : lx ≤ 9223372036854775807)
    (sraw : List UInt8) (sar : Option Addr) (scr : Nat) (sone : List Int) (sa1 : Option Addr) (sc1 : Nat) (stwo : List Int) (sa2 : Option Addr) (sc2 : Nat) (ly : Int) (shr : sraw.length ≤ scr)
    (sq1 : -9223372036854775808 ≤ ly) (sq2 : ly ≤ 9223372036854775807) :
    FnS Try.prog 11 [.agg (rowCells raw ar cr one a1 c1 two a2 c2 lx).toArray, .agg (rowCells sraw sar scr sone sa1 sc1 stwo sa2 sc2 ly).toArray]
      (fun h => (Rdl h ar (bcells raw) ∧ Rdl h a1 (icells one) ∧ Rdl h a2 (icells two)) ∧ (Rdl h sar (bcells sraw) ∧ Rdl h sa1 (icells sone) ∧ Rdl h sa2 (icells stwo))) [] (fun v H => v = .bool true ∧ H = []) := by
  dsimp only [rowCells]
  refine fn_body Try.func11 rfl Try.ntmps11 rfl ?_
  rintro F ⟨⟨hR, hO, hT⟩, ⟨sR, sO, sT⟩⟩
  have hcl := cap12_len raw
  have scl := cap12_len sraw
  refine g_sr ?_
  refine Lp (oB fun b1 => ?_)
  refine Lp (oB fun b2 => ?_)
  refine Li As ?_
  refine g_ne ?_
  refine g_sr ?_
  refine Li (Fa T.fld_75_3) ?_
  refine Lp (oL T.sc_3 ?_)
  refine Lp (oC T.fn_27 rfl rfl (newF lx q1 q2) .nil (fun _ _ _ => trivial) ?_)
  rintro v H' ⟨bf, rfl, rfl⟩
  try simp only [nap, cap]
  refine Li As ?_
  refine g_ne ?_
  refine g_sr ?_
  refine Li (Fa T.fld_75_3) ?_
  refine Lp (oL T.sc_3 ?_)
  refine Lp (oC T.fn_27 rfl rfl (newF ly sq1 sq2) .nil (fun _ _ _ => trivial) ?_)
  rintro v H' ⟨bg, rfl, rfl⟩
  try simp only [nap, cap]
  refine Li As ?_
  refine g_ne ?_
  refine g_sr ?_
  refine Li (Fa T.fld_75_3) ?_
  refine Lp (oL T.sc_3 ?_)
  refine Lp (oC T.fn_27 rfl rfl (newF lx q1 q2) .nil (fun _ _ _ => trivial) ?_)
  rintro v H' ⟨ba, rfl, rfl⟩
  try simp only [nap, cap]
  refine Li As ?_
  refine g_ne ?_
  refine g_sr ?_
  refine Li (Fa T.fld_75_3) ?_
  refine Lp (oL T.sc_3 ?_)
  refine Lp (oC T.fn_27 rfl rfl (newF ly sq1 sq2) .nil (fun _ _ _ => trivial) ?_)
  rintro v H' ⟨bb, rfl, rfl⟩
  try simp only [nap, cap]
  refine Li As ?_
  refine g_ne ?_
  refine g_seq ?_
  refine g_sr ?_
  refine Li Mv ?_
  refine Li (Pn T.u_58) ?_
  refine Li Mv ?_
  refine g_slot (t := 28) (v' := .bool false) rfl (congrArg Value.bool (by first | rfl | decide | (simp; done))) ?_
  refine Li Mv ?_
  refine Li (Pn T.u_58) ?_
  refine Li Pf ?_
  refine Li Mv ?_
  refine g_slot (t := 32) (v' := .bool false) rfl (congrArg Value.bool (by first | rfl | decide | (simp; done))) ?_
  refine Li Mv ?_
  refine Li (Pn T.u_58) ?_
  refine Li Pf ?_
  refine Li Mv ?_
  refine g_slot (t := 36) (v' := .bool false) rfl (congrArg Value.bool (by first | rfl | decide | (simp; done))) ?_
  refine Li Mv ?_
  refine Li (Pn T.u_58) ?_
  refine Li Pf ?_
  refine g_ne ?_
  refine g_cond_f rfl (by first | rfl | decide | (simp; done)) ?_
  refine g_skip ?_
  refine e_then ?_
  refine g_seq ?_
  refine g_drw T.mix (.cons (.there (.there (.there (.there (.there .here))))) .nil) fun F1 le1 hin1 back1 => ?_
  obtain ⟨hb1, _⟩ := hin1
  have hR1 := hR.mono le1
  have hO1 := hO.mono le1
  refine Dt 0 rfl (Fa T.fld_75_0) ?_
  refine Dt 1 rfl (Lf T.sc_37) ?_
  refine Dt 3 rfl (Fa T.fld_75_1) ?_
  refine Dt 4 rfl (Lf T.sc_73) ?_
  refine Dn 2 ?_
  refine Do rfl (oC T.fn_22 rfl rfl (bytes22_fn raw ar raw.length cr rfl hr) .nil (fun _ _ _ => trivial) ?_)
  rintro v H' ⟨ax, cx, rfl, hcx, hrx, rfl⟩
  try simp only [nap, cap]
  refine gh_next ?_
  refine Dn 5 ?_
  refine Do rfl (oC T.fn_36 rfl rfl (pieces_fn (cap12 raw) ax (cap12 raw).length cx one a1 one.length c1 rfl hcx rfl) .nil (fun _ le _ => hO1.mono le) ?_)
  rintro v H' ⟨ak, ck, k, rfl, hkl, hk, hkc, hkr, rfl⟩
  try simp only [nap, cap]
  refine gh_next ?_
  refine Dt 6 rfl As ?_
  refine gh_done (by kernel_rfl) back1 ?_
  refine e_then ?_
  refine g_seq ?_
  refine g_drw T.mix (.cons (.there (.there (.there (.there (.there (.there .here)))))) .nil) fun F2 le2 hin2 back2 => ?_
  obtain ⟨hb2, _⟩ := hin2
  have sR1 := sR.mono le2
  have sO1 := sO.mono le2
  refine Dt 0 rfl (Fa T.fld_75_0) ?_
  refine Dt 1 rfl (Lf T.sc_37) ?_
  refine Dt 3 rfl (Fa T.fld_75_1) ?_
  refine Dt 4 rfl (Lf T.sc_73) ?_
  refine Dn 2 ?_
  refine Do rfl (oC T.fn_22 rfl rfl (bytes22_fn sraw sar sraw.length scr rfl shr) .nil (fun _ _ _ => trivial) ?_)
  rintro v H' ⟨ay, cy, rfl, hcy, hry, rfl⟩
  try simp only [nap, cap]
  refine gh_next ?_
  refine Dn 5 ?_
  refine Do rfl (oC T.fn_36 rfl rfl (pieces_fn (cap12 sraw) ay (cap12 sraw).length cy sone sa1 sone.length sc1 rfl hcy rfl) .nil (fun _ le _ => sO1.mono le) ?_)
  rintro v H' ⟨al, cl, l, rfl, hll, hl, hlc, hlr, rfl⟩
  try simp only [nap, cap]
  refine gh_next ?_
  refine Dt 6 rfl As ?_
  refine gh_done (by kernel_rfl) back2 ?_
  refine e_then ?_
  refine g_seq ?_
  have hXk : ∀ x ∈ k, Rdl F.h x.a (bcells x.b) ∧ x.b.length ≤ x.c := fun x hx => ⟨hkr _ (hrx _ hR) x hx, hkc x hx⟩
  have hXl : ∀ x ∈ l, Rdl F.h x.a (bcells x.b) ∧ x.b.length ≤ x.c := fun x hx => ⟨hlr _ (hry _ sR) x hx, hlc x hx⟩
  have hflk := flat_pieces hk
  have hfll := flat_pieces hl
  clear hkr hlr hrx hry hkc hlc
  refine g_fact (X := k.length ≤ ck) (fun h hin => by have := own_capb (InLmem hin (by simp) : ∃ k', own ak ck 37 1 (chCells k) k' ∧ Le k' _); simpa using this) fun hck => ?_
  refine g_fact (X := l.length ≤ cl) (fun h hin => by have := own_capb (InLmem hin (by simp) : ∃ k', own al cl 37 1 (chCells l) k' ∧ Le k' _); simpa using this) fun hcl' => ?_
  refine g_region ?_
  refine Li As ?_
  refine Li As ?_
  refine g_ne ?_
  refine g_seq ?_
  refine g_sr ?_
  refine Li As ?_
  refine g_ne ?_
  refine g_block ?_
  refine g_nilrow 39 9 ?_
  refine g_heap (fun _ s => starL_swap (starL_nil_stars s)) ?_
  refine g_nilrow 39 9 ?_
  refine g_heap (fun _ s => starL_swap (starL_nil_stars s)) ?_
  refine Hh (H' := [own none 0 39 9 (pktsCells []), stars (pktOwns []), Fd bf lx.toNat (flat (k.take 0)), own none 0 39 9 (pktsCells []), stars (pktOwns []), Fd bg ly.toNat (flat (l.take 0)), own ak ck 37 1 (chCells k), own al cl 37 1 (chCells l), Fd ba lx.toNat [], Fd bb ly.toNat []]) ?_
  refine Lo (ι := Nat × Option Addr × Nat × List (Pkt × Ad) × Option Addr × Nat × List (Pkt × Ad)) [52, 53, 54, 55, 56, 57, 58, 59, 60, 61, 64, 65, 66, 67, 68, 69, 70, 71, 72, 73, 74, 75, 76, 11, 77, 78, 79, 80, 81, 82, 83, 84, 85, 86, 87, 88, 89, 12, 62, 63, 13] (fun (i, ao1, co1, o1, ao2, co2, o2) => i ≤ 400 ∧ (PS lx.toNat []).1 ++ o1.map Prod.fst = (PS lx.toNat (flat (k.take i))).1 ∧ (PS ly.toNat []).1 ++ o2.map Prod.fst = (PS ly.toNat (flat (l.take i))).1) (fun (i, ao1, co1, o1, ao2, co2, o2) => [(11, .slice ao1 o1.length co1), (12, .slice ao2 o2.length co2), (13, .int .i64 (i : Int))]) (fun (i, ao1, co1, o1, ao2, co2, o2) => [own ao1 co1 39 9 (pktsCells o1), stars (pktOwns o1), Fd bf lx.toNat (flat (k.take i)), own ao2 co2 39 9 (pktsCells o2), stars (pktOwns o2), Fd bg ly.toNat (flat (l.take i)), own ak ck 37 1 (chCells k), own al cl 37 1 (chCells l), Fd ba lx.toNat [], Fd bb ly.toNat []]) (fun (i, ao1, co1, o1, ao2, co2, o2) => 400 - i) ((0, none, 0, [], none, 0, [])) ⟨Nat.zero_le _, by simp [flat], by simp [flat]⟩ ?_
  rintro ⟨i, ao1, co1, o1, ao2, co2, o2⟩ ⟨hi, hs1, hs2⟩
  try dsimp only at hI ⊢
  try dsimp only at hi hs1 hs2 ⊢
  refine g_seq ?_
  refine g_seq ?_
  refine g_mid (ι := Unit) [52, 53, 54, 55, 56, 57, 58, 59, 60, 61] (fun u => True) (fun u => [(61, .bool (decide ((i : Int) < k.length) || decide ((i : Int) < l.length)))]) (fun u => [own ao1 co1 39 9 (pktsCells o1), stars (pktOwns o1), Fd bf lx.toNat (flat (k.take i)), own ao2 co2 39 9 (pktsCells o2), stars (pktOwns o2), Fd bg ly.toNat (flat (l.take i)), own ak ck 37 1 (chCells k), own al cl 37 1 (chCells l), Fd ba lx.toNat [], Fd bb ly.toNat []]) ?_ ?_
  · refine g_region ?_
    refine Li Mv ?_
    refine Li Mv ?_
    refine Li (Ln T.sl_24) ?_
    refine Li Cm ?_
    refine Li Mv ?_
    refine g_split (t := 56) rfl ?_ ?_
    · intro hc
      replace hc := nrm hc
      refine Lx ?_
      refine Lx ?_
      refine Lx ?_
      refine Lx ?_
      refine Li Pt ?_
      refine g_nil ?_
      refine Me (()) (trivial)
    · intro hc
      replace hc := nrm hc
      refine Li Mv ?_
      refine Li Mv ?_
      refine Li (Ln T.sl_24) ?_
      refine Li Cm ?_
      refine Li Pf ?_
      refine g_nil ?_
      refine Me (()) (trivial)
  rintro u hI
  refine g_cond rfl ?_ ?_
  · intro hor
    replace hor := nrm hor
    refine g_skip ?_
    refine e_then ?_
    refine g_seq ?_
    refine g_block ?_
    refine g_seq ?_
    refine g_sr ?_
    refine Li Mv ?_
    refine Li Mv ?_
    refine Li (Ln T.sl_24) ?_
    refine Li Cm ?_
    refine g_ne ?_
    refine g_mid (ι := Option Addr × Nat × List (Pkt × Ad)) [68, 69, 70, 71, 72, 73, 74, 75, 76, 11] (fun (a9, c9, o9) => (PS lx.toNat []).1 ++ o9.map Prod.fst = (PS lx.toNat (flat (k.take (i + 1)))).1) (fun (a9, c9, o9) => [(11, .slice a9 o9.length c9)]) (fun (a9, c9, o9) => [own a9 c9 39 9 (pktsCells o9), stars (pktOwns o9), Fd bf lx.toNat (flat (k.take (i + 1))), own ao2 co2 39 9 (pktsCells o2), stars (pktOwns o2), Fd bg ly.toNat (flat (l.take i)), own ak ck 37 1 (chCells k), own al cl 37 1 (chCells l), Fd ba lx.toNat [], Fd bb ly.toNat []]) ?_ ?_
    · refine g_cond rfl ?_ ?_
      · intro hc
        replace hc := nrm hc
        obtain ⟨x, e1⟩ : ∃ x, k[i]? = some x := ⟨_, List.getElem?_eq_getElem (show i < k.length by omega)⟩
        have rx := hXk x (List.mem_of_getElem? e1)
        have hfx := flat_take k i x e1
        have hle1 := flat_len k (i + 1)
        rw [hflk] at hle1
        have hfl2 : (flat (k.take (i + 1))).length = (flat (k.take i)).length + x.b.length := by rw [hfx]; simp
        have hx1 : flat [x] = x.b := by simp [flat]
        have hdt := chCells_one k i x e1
        refine g_region ?_
        refine Li Mv ?_
        refine Li Mv ?_
        refine Li Mv ?_
        refine Li Mv ?_
        refine Li Mv ?_
        refine Li Im ?_
        refine Li (Sl i (i + 1) ck T.sl_24) ?_
        refine Lp (oC T.fn_35 rfl rfl (fed_fn bf lx.toNat (flat (k.take i)) [x] (cutA ak i ck (i * 1)) (i + 1 - i) (ck - i) (by simp) (by simp) (by omega) (by rw [hx1]; omega)) (.cons (.there (.there .here)) .nil) (fun _ le hin => ⟨hdt ▸ (own_in (InLmem hin (by simp) : ∃ k', own ak ck 37 1 (chCells k) k' ∧ Le k' _)).cut i ck (i * 1) 1 (by omega), fun y hy => by rw [List.mem_singleton.1 hy]; exact rx.1.mono le, fun y hy => by rw [List.mem_singleton.1 hy]; exact rx.2⟩) ?_)
        rintro v H' ⟨a3, c3, o3, rfl, hs3, rfl⟩
        try simp only [nap, cap]
        rw [hx1, ← hfx] at hs3
        rw [hx1, ← hfx]
        refine Hh (H' := [Pks a3 c3 o3, own ao1 co1 39 9 (pktsCells o1), stars (pktOwns o1), Fd bf lx.toNat (flat (k.take (i + 1))), own ao2 co2 39 9 (pktsCells o2), stars (pktOwns o2), Fd bg ly.toNat (flat (l.take i)), own ak ck 37 1 (chCells k), own al cl 37 1 (chCells l), Fd ba lx.toNat [], Fd bb ly.toNat []]) ?_
        refine g_stars ?_
        refine Hh (H' := [own a3 c3 39 9 (pktsCells o3), stars (pktOwns o3), own ao1 co1 39 9 (pktsCells o1), stars (pktOwns o1), Fd bf lx.toNat (flat (k.take (i + 1))), own ao2 co2 39 9 (pktsCells o2), stars (pktOwns o2), Fd bg ly.toNat (flat (l.take i)), own ak ck 37 1 (chCells k), own al cl 37 1 (chCells l), Fd ba lx.toNat [], Fd bb ly.toNat []]) ?_
        have hcnt : o1.length + o3.length ≤ 1099511627776 := by
          have h1 := PS_count lx.toNat (flat (k.take (i + 1)))
          rw [← hs3, ← hs1] at h1
          simp only [List.length_append, List.length_map] at h1
          omega
        refine Lp (op_append T.ap_22 T.ni_22 rfl rfl rfl rfl (.there (.there .here)) (pktsCells_length o1) (src_slice (m := o3.length) (pktsCells_length o3) fun h le hin => own_in (hin.nth 0 rfl)) (pktsCells_one o3) (by first | omega | (simp; omega)) (by first | omega | (simp; omega)) rfl fun a5 c5 hc5 => ?_)
        refine Li As ?_
        refine g_nil ?_
        rw [← pktsCells_append, show o1.length + o3.length = (o1 ++ o3).length from by simp]
        refine Hh (H' := [stars (pktOwns o3), stars (pktOwns o1), own a5 c5 39 9 (pktsCells (o1 ++ o3)), Fd bf lx.toNat (flat (k.take (i + 1))), own ao2 co2 39 9 (pktsCells o2), stars (pktOwns o2), Fd bg ly.toNat (flat (l.take i)), own ak ck 37 1 (chCells k), own al cl 37 1 (chCells l), Fd ba lx.toNat [], Fd bb ly.toNat []]) ?_
        refine g_heap (fun _ s => stars_join s) ?_
        rw [← pktOwns_append]
        refine Me ((a5, c5, o1 ++ o3)) ((by dsimp only; rw [List.map_append, ← List.append_assoc, hs1]; exact hs3))
      · intro hc
        replace hc := nrm hc
        have e1 : k.take (i + 1) = k.take i := by rw [List.take_of_length_le (by omega), List.take_of_length_le (by omega)]
        refine g_skip ?_
        rw [← e1] at hs1 ⊢
        refine Me ((ao1, co1, o1)) (hs1)
    rintro ⟨a9, c9, o9⟩ hs9
    try dsimp only at hI ⊢
    replace hs9 : (PS lx.toNat []).1 ++ o9.map Prod.fst = (PS lx.toNat (flat (k.take (i + 1)))).1 := hs9
    refine g_sr ?_
    refine Li Mv ?_
    refine Li Mv ?_
    refine Li (Ln T.sl_24) ?_
    refine Li Cm ?_
    refine g_ne ?_
    refine g_cond rfl ?_ ?_
    · intro hc
      replace hc := nrm hc
      obtain ⟨x, e1⟩ : ∃ x, l[i]? = some x := ⟨_, List.getElem?_eq_getElem (show i < l.length by omega)⟩
      have rx := hXl x (List.mem_of_getElem? e1)
      have hfx := flat_take l i x e1
      have hle1 := flat_len l (i + 1)
      rw [hfll] at hle1
      have hfl2 : (flat (l.take (i + 1))).length = (flat (l.take i)).length + x.b.length := by rw [hfx]; simp
      have hx1 : flat [x] = x.b := by simp [flat]
      have hdt := chCells_one l i x e1
      refine g_region ?_
      refine Li Mv ?_
      refine Li Mv ?_
      refine Li Mv ?_
      refine Li Mv ?_
      refine Li Mv ?_
      refine Li Im ?_
      refine Li (Sl i (i + 1) cl T.sl_24) ?_
      refine Lp (oC T.fn_35 rfl rfl (fed_fn bg ly.toNat (flat (l.take i)) [x] (cutA al i cl (i * 1)) (i + 1 - i) (cl - i) (by simp) (by simp) (by omega) (by rw [hx1]; omega)) (.cons (.there (.there (.there (.there (.there .here))))) .nil) (fun _ le hin => ⟨hdt ▸ (own_in (InLmem hin (by simp) : ∃ k', own al cl 37 1 (chCells l) k' ∧ Le k' _)).cut i cl (i * 1) 1 (by omega), fun y hy => by rw [List.mem_singleton.1 hy]; exact rx.1.mono le, fun y hy => by rw [List.mem_singleton.1 hy]; exact rx.2⟩) ?_)
      rintro v H' ⟨a3, c3, o3, rfl, hs3, rfl⟩
      try simp only [nap, cap]
      rw [hx1, ← hfx] at hs3
      rw [hx1, ← hfx]
      refine Hh (H' := [Pks a3 c3 o3, own ao2 co2 39 9 (pktsCells o2), stars (pktOwns o2), Fd bg ly.toNat (flat (l.take (i + 1))), own a9 c9 39 9 (pktsCells o9), stars (pktOwns o9), Fd bf lx.toNat (flat (k.take (i + 1))), own ak ck 37 1 (chCells k), own al cl 37 1 (chCells l), Fd ba lx.toNat [], Fd bb ly.toNat []]) ?_
      refine g_stars ?_
      refine Hh (H' := [own a3 c3 39 9 (pktsCells o3), stars (pktOwns o3), own ao2 co2 39 9 (pktsCells o2), stars (pktOwns o2), Fd bg ly.toNat (flat (l.take (i + 1))), own a9 c9 39 9 (pktsCells o9), stars (pktOwns o9), Fd bf lx.toNat (flat (k.take (i + 1))), own ak ck 37 1 (chCells k), own al cl 37 1 (chCells l), Fd ba lx.toNat [], Fd bb ly.toNat []]) ?_
      have hcnt : o2.length + o3.length ≤ 1099511627776 := by
        have h1 := PS_count ly.toNat (flat (l.take (i + 1)))
        rw [← hs3, ← hs2] at h1
        simp only [List.length_append, List.length_map] at h1
        omega
      refine Lp (op_append T.ap_22 T.ni_22 rfl rfl rfl rfl (.there (.there .here)) (pktsCells_length o2) (src_slice (m := o3.length) (pktsCells_length o3) fun h le hin => own_in (hin.nth 0 rfl)) (pktsCells_one o3) (by first | omega | (simp; omega)) (by first | omega | (simp; omega)) rfl fun a5 c5 hc5 => ?_)
      refine Li As ?_
      refine g_nil ?_
      refine e_block ?_
      refine e_then ?_
      refine g_region ?_
      refine Li Mv ?_
      refine Li Im ?_
      refine Li As ?_
      refine g_nil ?_
      rw [← pktsCells_append, show o2.length + o3.length = (o2 ++ o3).length from by simp]
      refine Hh (H' := [stars (pktOwns o3), stars (pktOwns o2), own a5 c5 39 9 (pktsCells (o2 ++ o3)), Fd bg ly.toNat (flat (l.take (i + 1))), own a9 c9 39 9 (pktsCells o9), stars (pktOwns o9), Fd bf lx.toNat (flat (k.take (i + 1))), own ak ck 37 1 (chCells k), own al cl 37 1 (chCells l), Fd ba lx.toNat [], Fd bb ly.toNat []]) ?_
      refine g_heap (fun _ s => stars_join s) ?_
      rw [← pktOwns_append]
      refine Ro ((i + 1, a9, c9, o9, a5, c5, o2 ++ o3)) (⟨by omega, hs9, by dsimp only; rw [List.map_append, ← List.append_assoc, hs2]; exact hs3⟩) ((by dsimp only; omega))
    · intro hc
      replace hc := nrm hc
      have e1 : l.take (i + 1) = l.take i := by rw [List.take_of_length_le (by omega), List.take_of_length_le (by omega)]
      refine g_skip ?_
      refine e_block ?_
      refine e_then ?_
      refine g_region ?_
      refine Li Mv ?_
      refine Li Im ?_
      refine Li As ?_
      refine g_nil ?_
      rw [← e1] at hs2 ⊢
      refine Ro ((i + 1, a9, c9, o9, ao2, co2, o2)) (⟨by omega, hs9, hs2⟩) ((by dsimp only; omega))

  · intro hor
    replace hor := nrm hor
    have e1 : k.take i = k := List.take_of_length_le (by omega)
    have e2 : l.take i = l := List.take_of_length_le (by omega)
    rw [e1] at hs1
    rw [e2] at hs2
    rw [e1, e2]
    refine g_exit ?_
    refine e_then_exit ?_
    refine e_then_exit ?_
    refine e_block_hit ?_
    refine e_then ?_
    refine g_sr ?_
    refine Li Mv ?_
    refine Li Mv ?_
    refine Li Mv ?_
    refine Lp (oC T.fn_35 rfl rfl (fed_fn ba lx.toNat [] k ak k.length ck rfl (by omega) (by omega) (by rw [hflk]; simp; omega)) (.cons (.there (.there (.there (.there (.there (.there (.there (.there .here)))))))) .nil) (fun _ le hin => ⟨own_in (hin.nth 6 rfl), fun x hx => (hXk x hx).1.mono le, fun x hx => (hXk x hx).2⟩) ?_)
    rintro v H' ⟨au, cu, u, rfl, hu, rfl⟩
    try simp only [nap, cap]
    try rw [List.nil_append] at hu ⊢
    have hou : o1.map Prod.fst = u.map Prod.fst := List.append_cancel_left (hs1.trans hu.symm)
    have hc1 := PS_count lx.toNat (flat k)
    rw [← hs1, hflk] at hc1
    simp only [List.length_append, List.length_map] at hc1
    refine g_fact (sel_fact (.there .here) Pks_len) fun hcu => ?_
    refine g_fact (X := PktsAt2 ao1 co1 o1) (fun h hin => PktsAt2_in (hin.nth 2 rfl)) fun hco => ?_
    refine Lp (oC T.fn_33 rfl rfl (sames_fn o1 u ao1 au o1.length u.length co1 cu rfl rfl hco hcu (by omega)) .nil (fun _ le hin => ⟨Pk2_at (hin.nth 2 rfl) (hin.nth 3 rfl), Pks_at (hin.nth 1 rfl)⟩) ?_)
    rintro v H' ⟨rfl, rfl⟩
    try simp only [nap, cap]
    rw [hou, decide_eq_true rfl]
    refine Li Mv ?_
    refine g_slot (t := 95) (v' := .bool true) rfl (congrArg Value.bool (by rfl)) ?_
    refine Li Mv ?_
    refine Li Mv ?_
    refine Li Mv ?_
    refine Lp (oC T.fn_35 rfl rfl (fed_fn bb ly.toNat [] l al l.length cl rfl (by omega) (by omega) (by rw [hfll]; simp; omega)) (.cons (.there (.there (.there (.there (.there (.there (.there (.there (.there (.there .here)))))))))) .nil) (fun _ le hin => ⟨own_in (hin.nth 9 rfl), fun x hx => (hXl x hx).1.mono le, fun x hx => (hXl x hx).2⟩) ?_)
    rintro v H' ⟨av, cv, v2, rfl, hv, rfl⟩
    try simp only [nap, cap]
    try rw [List.nil_append] at hv ⊢
    have hov : o2.map Prod.fst = v2.map Prod.fst := List.append_cancel_left (hs2.trans hv.symm)
    have hc2 := PS_count ly.toNat (flat l)
    rw [← hs2, hfll] at hc2
    simp only [List.length_append, List.length_map] at hc2
    refine g_fact (sel_fact (.there .here) Pks_len) fun hcv => ?_
    refine g_fact (X := PktsAt2 ao2 co2 o2) (fun h hin => PktsAt2_in (hin.nth 7 rfl)) fun hco2 => ?_
    refine Lp (oC T.fn_33 rfl rfl (sames_fn o2 v2 ao2 av o2.length v2.length co2 cv rfl rfl hco2 hcv (by omega)) .nil (fun _ le hin => ⟨Pk2_at (hin.nth 7 rfl) (hin.nth 8 rfl), Pks_at (hin.nth 1 rfl)⟩) ?_)
    rintro v H' ⟨rfl, rfl⟩
    try simp only [nap, cap]
    rw [hov, decide_eq_true rfl]
    refine Li Pt ?_
    refine Li Mv ?_
    refine g_slot (t := 102) (v' := .bool true) rfl (congrArg Value.bool (by rfl)) ?_
    refine Li Mv ?_
    refine Lp (oC T.fn_37 rfl rfl (heldF bg ly.toNat (flat l)) .nil (fun _ le hin => hin.nth 9 rfl) ?_)
    rintro v H' ⟨rfl, rfl⟩
    try simp only [nap, cap]
    refine Li Mv ?_
    refine Lp (oC T.fn_37 rfl rfl (heldF bb ly.toNat (flat l)) .nil (fun _ le hin => hin.nth 0 rfl) ?_)
    rintro v H' ⟨rfl, rfl⟩
    try simp only [nap, cap]
    refine Li Cm ?_
    refine Li Pt ?_
    refine Li Mv ?_
    refine g_slot (t := 109) (v' := .bool true) rfl (congrArg Value.bool (by simp)) ?_
    refine Li Mv ?_
    refine Lp (oC T.fn_38 rfl rfl (brokenF bg ly.toNat (flat l)) .nil (fun _ le hin => hin.nth 9 rfl) ?_)
    rintro v H' ⟨rfl, rfl⟩
    try simp only [nap, cap]
    refine Li Mv ?_
    refine Lp (oC T.fn_38 rfl rfl (brokenF bb ly.toNat (flat l)) .nil (fun _ le hin => hin.nth 0 rfl) ?_)
    rintro v H' ⟨rfl, rfl⟩
    try simp only [nap, cap]
    refine Li (Bq T.u_4) ?_
    refine Li Pt ?_
    refine Li Mv ?_
    refine g_slot (t := 116) (v' := .bool true) rfl (congrArg Value.bool (by simp)) ?_
    refine Li Mv ?_
    refine Lp (oC T.fn_37 rfl rfl (heldF bf lx.toNat (flat k)) .nil (fun _ le hin => hin.nth 6 rfl) ?_)
    rintro v H' ⟨rfl, rfl⟩
    try simp only [nap, cap]
    refine Li Mv ?_
    refine Lp (oC T.fn_37 rfl rfl (heldF ba lx.toNat (flat k)) .nil (fun _ le hin => hin.nth 2 rfl) ?_)
    rintro v H' ⟨rfl, rfl⟩
    try simp only [nap, cap]
    refine Li Cm ?_
    refine Li Pt ?_
    refine Li Mv ?_
    refine g_slot (t := 123) (v' := .bool true) rfl (congrArg Value.bool (by simp)) ?_
    refine Li Mv ?_
    refine Lp (oC T.fn_38 rfl rfl (brokenF bf lx.toNat (flat k)) .nil (fun _ le hin => hin.nth 6 rfl) ?_)
    rintro v H' ⟨rfl, rfl⟩
    try simp only [nap, cap]
    refine Li Mv ?_
    refine Lp (oC T.fn_38 rfl rfl (brokenF ba lx.toNat (flat k)) .nil (fun _ le hin => hin.nth 2 rfl) ?_)
    rintro v H' ⟨rfl, rfl⟩
    try simp only [nap, cap]
    refine Li (Bq T.u_4) ?_
    refine Li Pt ?_
    refine Li Mv ?_
    refine g_slot (t := 130) (v' := .bool true) rfl (congrArg Value.bool (by simp)) ?_
    refine Lp (oC T.fn_21 rfl rfl (wakes_fn) .nil (fun _ _ _ => trivial) ?_)
    rintro v H' ⟨rfl, rfl⟩
    try simp only [nap, cap]
    refine Li Pt ?_
    refine Li As ?_
    refine g_ne ?_
    refine g_ret ?_
    refine Rt [] Try.results11 ?_
    exact ⟨rfl, rfl⟩
end Go.Proofs.Ytggmpaggmkfmoaa

