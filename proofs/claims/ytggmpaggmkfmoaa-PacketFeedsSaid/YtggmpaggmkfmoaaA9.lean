/- Packets: Feed. -/
import Derived.Test.YtggmpaggmkfmoaaA8
set_option maxRecDepth 100000
namespace Go.Proofs.Ytggmpaggmkfmoaa
open Go Go.Eng

structure Ad where
  ae : Option Addr
  ce : Nat
  av : Option Addr
  cv : Nat
def pktsCells (l : List (Pkt × Ad)) : List Value := l.flatMap fun p => pktCells p.1 p.2.ae p.2.ce p.2.av p.2.cv
def pktOwns (l : List (Pkt × Ad)) : List HProp := l.flatMap fun p => [own p.2.ae p.2.ce 5 1 (bcells p.1.ex), own p.2.av p.2.cv 5 1 (bcells p.1.val)]
theorem pktsCells_length (l : List (Pkt × Ad)) : (pktsCells l).length = l.length * 9 := by
  induction l with
  | nil => rfl
  | cons p r ih => simp only [pktsCells, List.flatMap_cons, List.length_append, List.length_cons] at *; rw [ih]; simp [pktCells]; omega
theorem pktsCells_snoc (l : List (Pkt × Ad)) (p : Pkt) (d : Ad) : pktsCells (l ++ [(p, d)]) = pktsCells l ++ pktCells p d.ae d.ce d.av d.cv := by simp [pktsCells]
theorem pktOwns_snoc (l : List (Pkt × Ad)) (p : Pkt) (d : Ad) : pktOwns (l ++ [(p, d)]) = pktOwns l ++ [own d.ae d.ce 5 1 (bcells p.ex), own d.av d.cv 5 1 (bcells p.val)] := by simp [pktOwns]

/-- what Feed makes of a beginning, the number passed over and a chunk -/
def feedM (limit : Nat) : Nat → List UInt8 → Nat → List UInt8 → List Pkt × List UInt8 × Nat × Bool
  | 0, kept, passed, _ => ([], kept, passed, false)
  | fuel + 1, kept, passed, chunk =>
    let kp := wantsM limit kept
    let n := min (kp.1 - kept.length) chunk.length
    let kept1 := kept ++ chunk.take n
    let chunk1 := chunk.drop n
    if badB kept1 then ([], [], 0, true)
    else if kept1.length < kp.1 then ([], kept1, passed, false)
    else if wantsM limit kept1 ≠ kp then feedM limit fuel kept1 passed chunk1
    else
      let n2 := min (kp.2 - passed) chunk1.length
      let chunk2 := chunk1.drop n2
      if passed + n2 < kp.2 then ([], kept1, passed + n2, false)
      else if chunk2 = [] then ([decP kept1 (decide (0 < kp.2))], [], 0, false)
      else (decP kept1 (decide (0 < kp.2)) :: (feedM limit fuel [] 0 chunk2).1, (feedM limit fuel [] 0 chunk2).2)

structure FInv (limit : Nat) (kept : List UInt8) (passed : Nat) : Prop where
  good : badB kept = false
  le : kept.length ≤ (wantsM limit kept).1
  early : kept.length < (wantsM limit kept).1 → passed = 0
  late : kept.length = (wantsM limit kept).1 → passed < (wantsM limit kept).2
theorem FInv.nil (limit : Nat) : FInv limit [] 0 := ⟨by decide, by simp, fun _ => rfl, fun h => by simp [wantsM] at h⟩

theorem wants_ge (limit : Nat) (l : List UInt8) : 24 ≤ (wantsM limit l).1 ∧ (wantsM limit l).1 ≤ 4294967400 ∧ (wantsM limit l).2 ≤ 4294967400 := by
  have q2 := n2_lt l 2
  have q4 := n4_lt l 8
  have p4 := byt_lt l 4
  have hfr : frontN l = 24 + byt l 4 + n2 l 2 := rfl
  have hwh : wholeN l = 24 + n4 l 8 := rfl
  unfold wantsM
  split
  · simp
  · split <;> simp only <;> omega
/-- the head stands: what is laid behind it changes nothing -/
theorem wants_append (limit : Nat) (l m : List UInt8) (h : 24 ≤ l.length) : wantsM limit (l ++ m) = wantsM limit l := by
  have ht : (l ++ m).take l.length = l := by simp
  have e1 := frontN_take (l ++ m) l.length h
  have e2 := wholeN_take (l ++ m) l.length h
  rw [ht] at e1 e2
  unfold wantsM
  rw [if_neg (show ¬ (l ++ m).length < 24 by simp; omega), if_neg (show ¬ l.length < 24 by omega), e1, e2]
theorem wants_full {limit : Nat} {l : List UInt8} (h : 24 ≤ l.length) (hb : badB l = false) :
    ((wantsM limit l) = (frontN l, wholeN l - frontN l) ∧ 0 < wholeN l - frontN l ∧ (limit : Int) < (wholeN l : Int) - frontN l) ∨ ((wantsM limit l) = (wholeN l, 0) ∧ frontN l ≤ wholeN l ∧ (wholeN l : Int) - frontN l ≤ limit) := by
  obtain ⟨r1, _, _⟩ := badB_room hb (by omega)
  unfold wantsM
  rw [if_neg (by omega)]
  split
  · exact .inl ⟨rfl, by omega, by omega⟩
  · exact .inr ⟨rfl, r1, by omega⟩

theorem cont_inv {limit : Nat} {l : List UInt8} (hb : badB l = false) (hl : l.length = 24) (hne : wantsM limit l ≠ (24, 0)) : FInv limit l 0 := by
  have hfr : frontN l = 24 + byt l 4 + n2 l 2 := rfl
  rcases wants_full (limit := limit) (by omega) hb with ⟨e, h1, h2⟩ | ⟨e, h1, h2⟩
  · exact ⟨hb, by rw [e]; simp only; omega, fun _ => rfl, fun _ => by rw [e]; exact h1⟩
  · have : wholeN l ≠ 24 := fun q => hne (by rw [e, q])
    exact ⟨hb, by rw [e]; simp only; omega, fun _ => rfl, fun q => by rw [e] at q; simp only at q; omega⟩

structure FG where
  ak : Option Addr
  ck : Nat
  kept : List UInt8
  passed : Nat
  ac : Option Addr
  cc : Nat
  chunk : List UInt8
  ao : Option Addr
  co : Nat
  out : List (Pkt × Ad)
  fuel : Nat

structure FGI (F : Frm) (limit B N : Nat) (fin : List Pkt × List UInt8 × Nat × Bool) (g : FG) : Prop where
  inv : FInv limit g.kept g.passed
  rd : Rdl F.h g.ac (bcells g.chunk)
  cc : g.chunk.length ≤ g.cc
  ck : g.kept.length ≤ g.ck
  bound : g.kept.length + g.chunk.length ≤ B
  outs : g.out.length + g.chunk.length ≤ N
  fuel : g.chunk.length < g.fuel
  same : (g.out.map Prod.fst ++ (feedM limit g.fuel g.kept g.passed g.chunk).1, (feedM limit g.fuel g.kept g.passed g.chunk).2) = fin

set_option maxHeartbeats 8000000 in
theorem feed_fn (bf limit passed taken : Nat) (ak : Option Addr) (ck : Nat) (kept : List UInt8) (a : Option Addr) (m c : Nat) (chunk : List UInt8) (hm : m = chunk.length) (hc : m ≤ c) (hck : kept.length ≤ ck)
    (inv : FInv limit kept passed) (hlim : limit ≤ 9223372036854775807) (hB : kept.length + chunk.length ≤ 1099511627776) (hT : taken ≤ 1099511627776) :
    FnS Try.prog 31 [.pointer (some ⟨bf, 0, none⟩), .slice a m c] (fun h => Rdl h a (bcells chunk)) [pts bf 95 (fdCells limit ak kept.length ck passed false taken), own ak ck 5 1 (bcells kept)]
      (fun v H => ∃ ak' ck' ao co l, v = .slice ao l.length co ∧ l.map Prod.fst = (feedM limit (chunk.length + 1) kept passed chunk).1 ∧ (feedM limit (chunk.length + 1) kept passed chunk).2.1.length ≤ ck' ∧
        H = [pts bf 95 (fdCells limit ak' (feedM limit (chunk.length + 1) kept passed chunk).2.1.length ck' (feedM limit (chunk.length + 1) kept passed chunk).2.2.1 (feedM limit (chunk.length + 1) kept passed chunk).2.2.2 (taken + chunk.length)),
          own ak' ck' 5 1 (bcells (feedM limit (chunk.length + 1) kept passed chunk).2.1), own ao co 39 9 (pktsCells l), stars (pktOwns l)]) := by
  subst hm
  refine fn_body Try.func31 rfl Try.ntmps31 rfl ?_
  intro F hF
  simp only [fdCells]
  generalize hfin : feedM limit (chunk.length + 1) kept passed chunk = fin
  refine g_sr ?_
  refine Li As ?_
  refine g_ne ?_
  refine g_sr ?_
  refine Li As ?_
  refine g_ne ?_
  refine g_sr ?_
  refine Li Mv ?_
  refine Li Nc ?_
  refine Li (Fa T.fld_95_4) ?_
  refine Lp (oL T.sc_3 ?_)
  refine Li Mv ?_
  refine Li (Ln T.sl_37) ?_
  refine Li Im ?_
  refine Li Nc ?_
  refine Li (Fa T.fld_95_4) ?_
  refine Lp (oS T.sc_3 ?_)
  refine g_ne ?_
  refine g_seq ?_
  refine g_block ?_
  rw [show (taken : Int) + (chunk.length : Int) = ((taken + chunk.length : Nat) : Int) from by omega]
  refine g_heap (fun _ s => starL_nil_stars s) ?_
  refine g_nilrow 39 9 ?_
  refine Lo (ι := FG) [21, 22, 23, 24, 25, 27, 28, 26, 29, 30, 6, 7, 31, 32, 33, 34, 35, 36, 37, 38, 39, 40, 8, 41, 42, 43, 44, 45, 46, 47, 48, 49, 50, 51, 52, 53, 54, 55, 56, 57, 1, 58, 59, 60, 61, 62, 63, 64, 65, 66, 67, 68, 69, 70, 71, 72, 73, 74, 75, 76, 77, 78, 80, 81, 79, 82, 83, 9, 10, 84, 85, 86, 87, 88, 89, 90, 91, 92, 93, 94, 95, 96, 97, 98, 99, 100, 11, 101, 102, 103, 104, 105, 106, 107, 108, 109, 110, 111, 112, 113, 114, 115, 116, 117, 118, 119, 120, 121, 122, 123, 124, 125, 126, 127, 5, 128, 129, 130, 131, 132, 133, 134, 135, 136] (fun g => FGI F limit 1099511627776 chunk.length fin g) (fun g => [(1, .slice g.ac g.chunk.length g.cc), (5, .slice g.ao g.out.length g.co)]) (fun g => [pts bf 95 [.int .i64 (limit : Int), .slice g.ak g.kept.length g.ck, .int .i64 (g.passed : Int), .bool false, .int .i64 ((taken + chunk.length : Nat) : Int)], own g.ak g.ck 5 1 (bcells g.kept), own g.ao g.co 39 9 (pktsCells g.out), stars (pktOwns g.out)]) (fun g => g.chunk.length) (⟨ak, ck, kept, passed, a, c, chunk, none, 0, [], chunk.length + 1⟩) ⟨inv, hF, hc, hck, hB, by simp, by simp, by simp [hfin]⟩ ?_
  rintro ⟨ak1, ck1, kept1, pas1, ac1, cc1, chunk1, ao1, co1, out1, fuel1⟩ ⟨inv1, hrd, hcc, hck1, hB1, houts, hfuel, hsame⟩
  try dsimp only at inv1 hrd hcc hck1 hB1 houts hfuel hsame ⊢
  have hwg := wants_ge limit kept1
  obtain ⟨wg1, wg2, wg3⟩ := hwg
  refine g_seq ?_
  refine g_sr ?_
  refine Li Mv ?_
  refine Li Nc ?_
  refine Li (Fa T.fld_95_3) ?_
  refine Lp (oL T.sc_4 ?_)
  refine Li Nt ?_
  refine g_ne ?_
  refine g_cond_t rfl (by rfl) ?_
  refine g_skip ?_
  refine e_then ?_
  refine g_block ?_
  refine g_sr ?_
  refine Li Mv ?_
  refine Lp (oC T.fn_67 rfl rfl (wants_fn bf limit kept1.length ck1 pas1 (taken + chunk.length) false ak1 kept1 rfl hck1) .nil (fun _ _ hin => ⟨hin.1, own_in hin.2.1⟩) ?_)
  rintro v H' ⟨rfl, rfl⟩
  try simp only [nap, cap]
  refine Li Mv ?_
  refine Li Ex ?_
  refine Li Ex ?_
  refine Li As ?_
  refine Li As ?_
  refine g_ne ?_
  refine g_seq ?_
  refine g_sr ?_
  refine Li Mv ?_
  refine Li Mv ?_
  refine Li Nc ?_
  refine Li (Fa T.fld_95_1) ?_
  refine Lp (oL T.sc_37 ?_)
  refine Li (Ln T.sl_37) ?_
  refine Li Im ?_
  refine Li Mv ?_
  refine Li (Ln T.sl_37) ?_
  refine Li Mi ?_
  refine Li As ?_
  refine g_ne ?_
  refine g_sr ?_
  refine Li Mv ?_
  refine Li Cm ?_
  refine g_ne ?_
  have hle := inv1.le
  rw [show min (((wantsM limit kept1).1 : Int) - (kept1.length : Int)) (chunk1.length : Int) = ((min ((wantsM limit kept1).1 - kept1.length) chunk1.length : Nat) : Int) from by omega]
  generalize hn : min ((wantsM limit kept1).1 - kept1.length) chunk1.length = n
  generalize hk1 : kept1 ++ chunk1.take n = kept2
  generalize hc1 : chunk1.drop n = chunk2
  have lk2 : kept2.length = kept1.length + n := by rw [← hk1]; simp; omega
  have lc2 : chunk2.length = chunk1.length - n := by rw [← hc1]; simp
  refine g_mid (ι := Option Addr × Nat × Option Addr × Nat) [43, 44, 45, 46, 47, 48, 49, 50, 51, 52, 53, 54, 55, 56, 57, 1] (fun (ak2, ck2, ac2, cc2) => kept2.length ≤ ck2 ∧ Rdl F.h ac2 (bcells chunk2) ∧ chunk2.length ≤ cc2) (fun (ak2, ck2, ac2, cc2) => [(1, .slice ac2 chunk2.length cc2)]) (fun (ak2, ck2, ac2, cc2) => [pts bf 95 [.int .i64 (limit : Int), .slice ak2 kept2.length ck2, .int .i64 (pas1 : Int), .bool false, .int .i64 ((taken + chunk.length : Nat) : Int)], own ak2 ck2 5 1 (bcells kept2), own ao1 co1 39 9 (pktsCells out1), stars (pktOwns out1)]) ?_ ?_
  · refine g_cond rfl ?_ ?_
    · intro hpos
      replace hpos := nrm hpos
      have hs1 : Rdl F.h (cutA ac1 0 n (0 * 1)) (bcells (chunk1.take n)) := by
        have := cut2 hrd 0 n n (by omega)
        simpa using this
      have hs2 : Rdl F.h (cutA ac1 n cc1 (n * 1)) (bcells chunk2) := by
        have := cut2 hrd n cc1 (chunk1.length - n) (by omega)
        rw [List.take_of_length_le (by simp)] at this
        rw [← hc1]; exact this
      refine g_seq ?_
      refine g_drw T.mix .nil fun F1 le1 hin1 back1 => ?_
      refine Dt 0 rfl Mv ?_
      refine Dt 1 rfl Mv ?_
      refine Dt 2 rfl Nc ?_
      refine Dt 3 rfl (Fa T.fld_95_1) ?_
      refine Dt 5 rfl Mv ?_
      refine Dt 6 rfl Mv ?_
      refine Dt 7 rfl Mv ?_
      refine Dt 8 rfl (Sl 0 _ _ T.sl_37) ?_
      refine Dn 4 ?_
      refine Do rfl (oL T.sc_37 ?_)
      refine gh_next ?_
      refine Dn 9 ?_
      refine Do rfl (op_append T.ap_37 T.ni_37 rfl rfl rfl rfl (.there .here) (by first | rfl | (simp; done) | (simp; omega) | omega) (src_slice (m := n - 0) (by simp; omega) fun h le _ => hs1.mono (le1.trans le)) (by first | exact bcells_one | (simp [Value.oneCell', strv])) (by first | omega | (simp; omega)) (by first | omega | (simp; omega)) rfl fun a3 c3 hc3 => ?_)
      refine gh_next ?_
      refine Dt 10 rfl Nc ?_
      refine Dt 11 rfl (Fa T.fld_95_1) ?_
      refine Dn 12 ?_
      refine Do rfl (oS T.sc_37 ?_)
      refine gh_next ?_
      refine gh_done (by kernel_rfl) back1 ?_
      refine e_then ?_
      refine g_region ?_
      refine Li Mv ?_
      refine Li Mv ?_
      refine Li (Sl _ _ _ T.sl_37) ?_
      refine Li As ?_
      refine g_nil ?_
      rw [← bcells_append, hk1, show kept1.length + (n - 0) = kept2.length from by omega]
      refine Hh (H' := [pts bf 95 [.int .i64 (limit : Int), .slice a3 kept2.length c3, .int .i64 (pas1 : Int), .bool false, .int .i64 ((taken + chunk.length : Nat) : Int)], own a3 c3 5 1 (bcells kept2), own ao1 co1 39 9 (pktsCells out1), stars (pktOwns out1)]) ?_
      rw [show chunk1.length - n = chunk2.length from lc2.symm]
      refine Me ((a3, c3, cutA ac1 n cc1 (n * 1), cc1 - n)) (⟨by omega, hs2, by omega⟩)
    · intro hpos
      replace hpos := nrm hpos
      have hn0 : n = 0 := by omega
      have e1 : kept2 = kept1 := by rw [← hk1, hn0]; simp
      have e2 : chunk2 = chunk1 := by rw [← hc1, hn0]; simp
      subst e1
      subst e2
      refine g_skip ?_
      refine Me ((ak1, ck1, ac1, cc1)) (⟨hck1, hrd, hcc⟩)
  rintro ⟨ak2, ck2, ac2, cc2⟩ ⟨hck2, hrd2, hcc2⟩
  try dsimp only at hI ⊢
  obtain ⟨k, rfl⟩ : ∃ k, fuel1 = k + 1 := ⟨fuel1 - 1, by omega⟩
  simp only [feedM, hn, hk1, hc1] at hsame
  refine g_seq ?_
  refine g_sr ?_
  refine Li Mv ?_
  refine Li Nc ?_
  refine Li (Fa T.fld_95_1) ?_
  refine Lp (oL T.sc_37 ?_)
  refine Lp (oC T.fn_55 rfl rfl (bad_fn kept2 ak2 kept2.length ck2 rfl hck2 (by omega)) .nil (fun _ _ hin => own_in hin.2.1) ?_)
  rintro v H' ⟨rfl, rfl⟩
  try simp only [nap, cap]
  refine g_ne ?_
  refine g_cond rfl ?_ ?_
  · intro hbad
    replace hbad := nrm hbad
    simp only [hbad, if_true, List.append_nil] at hsame
    subst hsame
    refine g_sr ?_
    refine Li Mv ?_
    refine Li Mv ?_
    refine Li Mv ?_
    refine Li Nc ?_
    refine Li (Fa T.fld_95_3) ?_
    refine Lp (oS T.sc_4 ?_)
    refine Li Nc ?_
    refine Li (Fa T.fld_95_1) ?_
    refine Lp (oS T.sc_37 ?_)
    refine Li Nc ?_
    refine Li (Fa T.fld_95_2) ?_
    refine Lp (oS T.sc_3 ?_)
    refine g_ne ?_
    refine g_exit ?_
    refine e_then_exit ?_
    refine e_block_miss rfl ?_
    refine e_then_exit ?_
    refine e_block_hit ?_
    refine e_then ?_
    refine g_sr ?_
    refine Li Mv ?_
    refine Li As ?_
    refine g_ne ?_
    refine g_ret ?_
    refine g_nilrow 5 1 ?_
    refine Rt [pts bf 95 [.int .i64 (limit : Int), .slice none 0 0, .int .i64 0, .bool true, .int .i64 ((taken + chunk.length : Nat) : Int)], own none 0 5 1 [], own ao1 co1 39 9 (pktsCells out1), stars (pktOwns out1)] Try.results31 ?_
    exact ⟨none, 0, ao1, co1, out1, rfl, rfl, Nat.le_refl _, rfl⟩
  · intro hbad
    replace hbad := nrm hbad
    simp only [hbad, Bool.false_eq_true, if_false] at hsame
    refine g_skip ?_
    refine e_then ?_
    refine g_seq ?_
    refine g_sr ?_
    refine Li Mv ?_
    refine Li Nc ?_
    refine Li (Fa T.fld_95_1) ?_
    refine Lp (oL T.sc_37 ?_)
    refine Li (Ln T.sl_37) ?_
    refine Li Mv ?_
    refine Li Cm ?_
    refine g_ne ?_
    refine g_cond rfl ?_ ?_
    · intro hsh
      replace hsh := nrm hsh
      rw [if_pos (by omega)] at hsame
      simp only [List.append_nil] at hsame
      subst hsame
      refine g_exit ?_
      refine e_then_exit ?_
      refine e_block_miss rfl ?_
      refine e_then_exit ?_
      refine e_block_hit ?_
      refine e_then ?_
      refine g_sr ?_
      refine Li Mv ?_
      refine Li As ?_
      refine g_ne ?_
      refine g_ret ?_
      refine Rt [pts bf 95 [.int .i64 (limit : Int), .slice ak2 kept2.length ck2, .int .i64 (pas1 : Int), .bool false, .int .i64 ((taken + chunk.length : Nat) : Int)], own ak2 ck2 5 1 (bcells kept2), own ao1 co1 39 9 (pktsCells out1), stars (pktOwns out1)] Try.results31 ?_
      exact ⟨ak2, ck2, ao1, co1, out1, rfl, rfl, hck2, rfl⟩
    · intro hsh
      replace hsh := nrm hsh
      rw [if_neg (by omega)] at hsame
      refine g_skip ?_
      refine e_then ?_
      refine g_seq ?_
      refine g_sr ?_
      refine Li Mv ?_
      refine Lp (oC T.fn_67 rfl rfl (wants_fn bf limit kept2.length ck2 pas1 (taken + chunk.length) false ak2 kept2 rfl hck2) .nil (fun _ _ hin => ⟨hin.1, own_in hin.2.1⟩) ?_)
      rintro v H' ⟨rfl, rfl⟩
      try simp only [nap, cap]
      refine Li Mv ?_
      refine Li Ex ?_
      refine Li Ex ?_
      refine Li As ?_
      refine Li As ?_
      refine g_ne ?_
      refine g_sr ?_
      refine Li Mv ?_
      refine Li Mv ?_
      refine Li Cm ?_
      refine Li Mv ?_
      have hc24 : kept1.length < 24 ∨ wantsM limit kept2 = wantsM limit kept1 := by
        by_cases h : kept1.length < 24
        · exact .inl h
        · exact .inr (by rw [← hk1]; exact wants_append limit kept1 _ (by omega))
      have hcont : wantsM limit kept2 ≠ wantsM limit kept1 → FInv limit kept2 pas1 ∧ chunk2.length < chunk1.length := by
        intro hne
        have h24 : kept1.length < 24 := hc24.resolve_right hne
        have hw : wantsM limit kept1 = (24, 0) := by unfold wantsM; rw [if_pos h24]
        have hp0 : pas1 = 0 := inv1.early (by rw [hw]; exact h24)
        subst hp0
        rw [hw] at hn hne hsh
        simp only at hn hne hsh
        exact ⟨cont_inv hbad (by omega) hne, by omega⟩
      refine g_split (t := 87) rfl ?_ ?_
      · intro h1
        replace h1 := nrm h1
        have hne : wantsM limit kept2 ≠ wantsM limit kept1 := fun q => h1 (by rw [q])
        obtain ⟨i2, i3⟩ := hcont hne
        have hb2 : kept2.length + chunk2.length ≤ 1099511627776 := by omega
        have ho2 : out1.length + chunk2.length ≤ chunk.length := by omega
        have hf2 : chunk2.length < k := by omega
        rw [if_pos hne] at hsame
        refine Lx ?_
        refine Lx ?_
        refine Lx ?_
        refine Li Pt ?_
        refine g_ne ?_
        refine g_cond_t rfl rfl ?_
        refine g_exit ?_
        refine e_then_exit ?_
        refine e_block_hit ?_
        refine Ro (⟨ak2, ck2, kept2, pas1, ac2, cc2, chunk2, ao1, co1, out1, k⟩) (⟨i2, hrd2, hcc2, hck2, hb2, ho2, hf2, hsame⟩) (i3)
      · intro h1
        replace h1 := nrm h1
        refine Li Mv ?_
        refine Li Mv ?_
        refine Li Cm ?_
        refine Li Pf ?_
        refine g_ne ?_
        refine g_cond rfl ?_ ?_
        · intro h2
          replace h2 := nrm h2
          have hne : wantsM limit kept2 ≠ wantsM limit kept1 := fun q => h2 (by rw [q])
          obtain ⟨i2, i3⟩ := hcont hne
          have hb2 : kept2.length + chunk2.length ≤ 1099511627776 := by omega
          have ho2 : out1.length + chunk2.length ≤ chunk.length := by omega
          have hf2 : chunk2.length < k := by omega
          rw [if_pos hne] at hsame
          refine g_exit ?_
          refine e_then_exit ?_
          refine e_block_hit ?_
          refine Ro (⟨ak2, ck2, kept2, pas1, ac2, cc2, chunk2, ao1, co1, out1, k⟩) (⟨i2, hrd2, hcc2, hck2, hb2, ho2, hf2, hsame⟩) (i3)
        · intro h2
          replace h2 := nrm h2
          have heq : wantsM limit kept2 = wantsM limit kept1 := Prod.ext (by omega) (by omega)
          rw [if_neg (fun q => q heq)] at hsame
          have hpas : pas1 ≤ (wantsM limit kept1).2 := by
            rcases Nat.lt_or_ge kept1.length (wantsM limit kept1).1 with q | q
            · rw [inv1.early q]; omega
            · exact Nat.le_of_lt (inv1.late (by omega))
          generalize hn2 : min ((wantsM limit kept1).2 - pas1) chunk2.length = n2 at hsame
          generalize hc3 : chunk2.drop n2 = chunk3 at hsame
          have lc3 : chunk3.length = chunk2.length - n2 := by rw [← hc3]; simp
          have hrd3 : Rdl F.h (cutA ac2 n2 cc2 (n2 * 1)) (bcells chunk3) := by
            have := cut2 hrd2 n2 cc2 (chunk2.length - n2) (by omega)
            rw [List.take_of_length_le (by simp)] at this
            rw [← hc3]; exact this
          refine g_skip ?_
          refine e_then ?_
          refine g_sr ?_
          refine Li Mv ?_
          refine Li Mv ?_
          refine Li Nc ?_
          refine Li (Fa T.fld_95_2) ?_
          refine Lp (oL T.sc_3 ?_)
          refine Li Im ?_
          refine Li Mv ?_
          refine Li (Ln T.sl_37) ?_
          refine Li Mi ?_
          refine Li As ?_
          refine g_ne ?_
          refine g_seq ?_
          rw [show min (((wantsM limit kept1).2 : Int) - (pas1 : Int)) (chunk2.length : Int) = (n2 : Int) from by omega]
          refine g_region ?_
          refine Li Mv ?_
          refine Li Nc ?_
          refine Li (Fa T.fld_95_2) ?_
          refine Lp (oL T.sc_3 ?_)
          refine Li Mv ?_
          refine Li Im ?_
          refine Li Nc ?_
          refine Li (Fa T.fld_95_2) ?_
          refine Lp (oS T.sc_3 ?_)
          refine g_ne ?_
          refine g_sr ?_
          refine Li Mv ?_
          refine Li Mv ?_
          refine Li (Sl _ _ _ T.sl_37) ?_
          refine Li As ?_
          refine g_ne ?_
          refine g_seq ?_
          refine g_sr ?_
          refine Li Mv ?_
          refine Li Nc ?_
          refine Li (Fa T.fld_95_2) ?_
          refine Lp (oL T.sc_3 ?_)
          refine Li Mv ?_
          refine Li Cm ?_
          refine g_ne ?_
          rw [show (pas1 : Int) + (n2 : Int) = ((pas1 + n2 : Nat) : Int) from by omega, show chunk2.length - n2 = chunk3.length from lc3.symm]
          refine g_cond rfl ?_ ?_
          · intro hps
            replace hps := nrm hps
            rw [if_pos (by omega)] at hsame
            simp only [List.append_nil] at hsame
            subst hsame
            refine g_exit ?_
            refine e_then_exit ?_
            refine e_block_miss rfl ?_
            refine e_then_exit ?_
            refine e_block_hit ?_
            refine e_then ?_
            refine g_sr ?_
            refine Li Mv ?_
            refine Li As ?_
            refine g_ne ?_
            refine g_ret ?_
            refine Rt [pts bf 95 [.int .i64 (limit : Int), .slice ak2 kept2.length ck2, .int .i64 ((pas1 + n2 : Nat) : Int), .bool false, .int .i64 ((taken + chunk.length : Nat) : Int)], own ak2 ck2 5 1 (bcells kept2), own ao1 co1 39 9 (pktsCells out1), stars (pktOwns out1)] Try.results31 ?_
            exact ⟨ak2, ck2, ao1, co1, out1, rfl, rfl, hck2, rfl⟩
          · intro hps
            replace hps := nrm hps
            rw [if_neg (by omega)] at hsame
            have hcons : 1 ≤ n + n2 := by
              rcases Nat.lt_or_ge kept1.length (wantsM limit kept1).1 with q | q
              · omega
              · have := inv1.late (by omega)
                omega
            have h24 : 24 ≤ kept2.length := by omega
            have hk3 : kept2.length = (wantsM limit kept2).1 := by rw [heq]; omega
            have hful := wants_full (limit := limit) h24 hbad
            have hlg : decide ((0 : Int) < ((wantsM limit kept1).2 : Int)) = decide (0 < (wantsM limit kept1).2) := by rw [Bool.eq_iff_iff]; simp
            generalize hp : decP kept2 (decide (0 < (wantsM limit kept1).2)) = p at hsame
            refine g_skip ?_
            refine e_then ?_
            refine g_sr ?_
            refine Li Mv ?_
            refine Li Mv ?_
            refine Li Nc ?_
            refine Li (Fa T.fld_95_1) ?_
            refine Lp (oL T.sc_37 ?_)
            refine Li Mv ?_
            refine Li Cm ?_
            refine Lp (oC T.fn_57 rfl rfl (parsed_fn kept2 ak2 kept2.length ck2 (decide ((0 : Int) < ((wantsM limit kept1).2 : Int))) rfl hck2 (by omega) h24 (by rcases hful with ⟨e, _, _⟩ | ⟨e, _, _⟩ <;> rw [e] at hk3 <;> simp only at hk3 <;> omega) (fun hz => by rcases hful with ⟨e, _, _⟩ | ⟨e, _, _⟩ <;> rw [e] at hk3 heq <;> rw [← heq] at hz <;> simp only [decide_eq_false_iff_not] at hz hk3 <;> omega)) .nil (fun _ _ hin => own_in hin.2.1) ?_)
            rintro v H' ⟨ae, ce, av, cv, rfl, rfl⟩
            try simp only [nap, cap]
            rw [hlg, hp]
            refine Lp (oT1 T.ap_22 fun b1 => ?_)
            refine Lp (op_append_lit T.ap_22 T.ni_22 rfl rfl rfl rfl (.there (.there (.there (.there .here)))) (pktsCells_length out1) (rfl) (by simp [pktCells, Value.oneCell', strv]) (by first | omega | (simp; omega)) (by first | omega | (simp; omega)) rfl fun a4 c4 hc4 => ?_)
            refine Hh (H' := [stars (pktOwns out1), own ae ce 5 1 (bcells p.ex), own av cv 5 1 (bcells p.val), pts bf 95 [.int .i64 (limit : Int), .slice ak2 kept2.length ck2, .int .i64 ((pas1 + n2 : Nat) : Int), .bool false, .int .i64 ((taken + chunk.length : Nat) : Int)], own a4 c4 39 9 (pktsCells out1 ++ pktCells p ae ce av cv)]) ?_
            refine g_heap (fun _ s => stars_fold (M := [own ae ce 5 1 (bcells p.ex), own av cv 5 1 (bcells p.val)]) s) ?_
            rw [← pktOwns_snoc out1 p ⟨ae, ce, av, cv⟩, ← pktsCells_snoc out1 p ⟨ae, ce, av, cv⟩]
            have hlo : out1.length + 1 = (out1 ++ [(p, (⟨ae, ce, av, cv⟩ : Ad))]).length := by simp
            rw [hlo]
            refine Li As ?_
            refine g_ne ?_
            refine g_sr ?_
            refine Li Mv ?_
            refine Li Mv ?_
            refine Li Nc ?_
            refine Li (Fa T.fld_95_1) ?_
            refine Lp (oS T.sc_37 ?_)
            refine Li Nc ?_
            refine Li (Fa T.fld_95_2) ?_
            refine Lp (oS T.sc_3 ?_)
            refine g_ne ?_
            refine g_sr ?_
            refine Li Mv ?_
            refine Li (Ln T.sl_37) ?_
            refine Li Cm ?_
            refine g_ne ?_
            refine g_nilrow 5 1 ?_
            refine g_cond rfl ?_ ?_
            · intro he
              replace he := nrm he
              have hc30 : chunk3 = [] := List.eq_nil_of_length_eq_zero (by omega)
              rw [if_pos hc30] at hsame
              subst hsame
              refine g_exit ?_
              refine e_block_miss rfl ?_
              refine e_then_exit ?_
              refine e_block_hit ?_
              refine e_then ?_
              refine g_sr ?_
              refine Li Mv ?_
              refine Li As ?_
              refine g_ne ?_
              refine g_ret ?_
              refine Rt [pts bf 95 [.int .i64 (limit : Int), .slice none 0 0, .int .i64 0, .bool false, .int .i64 ((taken + chunk.length : Nat) : Int)], own none 0 5 1 [], own a4 c4 39 9 (pktsCells (out1 ++ [(p, ⟨ae, ce, av, cv⟩)])), stars (pktOwns (out1 ++ [(p, ⟨ae, ce, av, cv⟩)]))] Try.results31 ?_
              exact ⟨none, 0, a4, c4, out1 ++ [(p, ⟨ae, ce, av, cv⟩)], rfl, by simp, Nat.le_refl _, rfl⟩
            · intro he
              replace he := nrm he
              have hc30 : chunk3 ≠ [] := fun q => he (by rw [q]; rfl)
              rw [if_neg hc30] at hsame
              have hb3 : 0 + chunk3.length ≤ 1099511627776 := by omega
              have ho3 : (out1 ++ [(p, (⟨ae, ce, av, cv⟩ : Ad))]).length + chunk3.length ≤ chunk.length := by simp; omega
              have hf3 : chunk3.length < k := by omega
              have hcc3 : chunk3.length ≤ cc2 - n2 := by omega
              have hlt3 : chunk3.length < chunk1.length := by omega
              refine g_skip ?_
              refine e_block ?_
              refine Ro (⟨none, 0, [], 0, cutA ac2 n2 cc2 (n2 * 1), cc2 - n2, chunk3, a4, c4, out1 ++ [(p, ⟨ae, ce, av, cv⟩)], k⟩) (⟨FInv.nil limit, hrd3, hcc3, Nat.le_refl _, hb3, ho3, hf3, by simpa using hsame⟩) (hlt3)
end Go.Proofs.Ytggmpaggmkfmoaa

