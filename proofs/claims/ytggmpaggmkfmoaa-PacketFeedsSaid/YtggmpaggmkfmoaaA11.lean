/- Packets: lists of packets; Feed in any state; fitting. -/
import Derived.Test.YtggmpaggmkfmoaaA10
import Derived.Test.YtggmpaggmkfmoaaEng6
set_option maxRecDepth 100000
namespace Go.Proofs.Ytggmpaggmkfmoaa
open Go Go.Eng

/-- a list of packets may be read in whole -/
structure PktsAt (h : Hp) (a : Option Addr) (l : List (Pkt × Ad)) : Prop where
  cells : Rdl h a (pktsCells l)
  bytes : ∀ p ∈ l, Rdl h p.2.ae (bcells p.1.ex) ∧ Rdl h p.2.av (bcells p.1.val)
theorem PktsAt.mono {h k : Hp} {a : Option Addr} {l : List (Pkt × Ad)} (p : PktsAt h a l) (le : Le h k) : PktsAt k a l :=
  ⟨p.cells.mono le, fun q hq => ⟨(p.bytes q hq).1.mono le, (p.bytes q hq).2.mono le⟩⟩
theorem pktsCells_at (l : List (Pkt × Ad)) (i : Nat) (p : Pkt × Ad) (h : l[i]? = some p) : ((pktsCells l).drop (i * 9)).take 9 = pktCells p.1 p.2.ae p.2.ce p.2.av p.2.cv := by
  induction l generalizing i with
  | nil => simp at h
  | cons q r ih =>
    have hq : (pktCells q.1 q.2.ae q.2.ce q.2.av q.2.cv).length = 9 := by simp [pktCells]
    have e : pktsCells (q :: r) = pktCells q.1 q.2.ae q.2.ce q.2.av q.2.cv ++ pktsCells r := by simp [pktsCells]
    rw [e]
    cases i with
    | zero =>
      simp only [List.getElem?_cons_zero, Option.some.injEq] at h
      subst h
      rw [Nat.zero_mul, List.drop_zero, List.take_append_of_le_length (by omega), List.take_of_length_le (by omega)]
    | succ i =>
      rw [List.getElem?_cons_succ] at h
      rw [List.drop_append, List.drop_of_length_le (by omega), List.nil_append, hq, show (i + 1) * 9 - 9 = i * 9 from by omega]
      exact ih i h

instance : DecidableEq Pkt := fun p q => decidable_of_iff _ (sameB_iff p q)
/-- what a fit list of bytes is -/
def cap12 (l : List UInt8) : List UInt8 := l.take 12000
theorem bytes22_fn (l : List UInt8) (a : Option Addr) (m c : Nat) (hm : m = l.length) (hc : m ≤ c) :
    FnS Try.prog 22 [.slice a m c] (fun _ => True) [] (fun v H => ∃ a' c', v = .slice a' (cap12 l).length c' ∧ (cap12 l).length ≤ c' ∧ (∀ h, Rdl h a (bcells l) → Rdl h a' (bcells (cap12 l))) ∧ H = []) := by
  refine fn_body Try.func22 rfl Try.ntmps22 rfl ?_
  intro F hF
  unfold cap12
  refine g_sr ?_
  refine Li As ?_
  refine g_ne ?_
  refine g_seq ?_
  refine g_sr ?_
  refine Li Mv ?_
  refine Li (Ln T.sl_37) ?_
  refine Li Cm ?_
  refine g_ne ?_
  refine g_cond rfl ?_ ?_
  · intro hb
    replace hb := nrm hb
    refine g_sr ?_
    refine Li Mv ?_
    refine Li (Sl 0 12000 _ T.sl_37) ?_
    refine Li As ?_
    refine g_ne ?_
    refine g_ret ?_
    refine e_then_ret ?_
    refine Rt [] Try.results22 ?_
    have hl : (l.take 12000).length = 12000 := by simp; omega
    refine ⟨cutA a 0 c (0 * 1), c - 0, by rw [hl], by rw [hl]; omega, fun h r => ?_, rfl⟩
    have := cut2 r 0 c 12000 (by omega)
    simpa using this
  · intro hb
    replace hb := nrm hb
    refine g_skip ?_
    refine e_then ?_
    refine g_sr ?_
    refine Li Mv ?_
    refine Li As ?_
    refine g_ne ?_
    refine g_ret ?_
    refine Rt [] Try.results22 ?_
    refine ⟨a, c, by rw [List.take_of_length_le (by omega), hm], by rw [List.take_of_length_le (by omega)]; omega, fun h r => by rw [List.take_of_length_le (by omega)]; exact r, rfl⟩

def fitP (p : Pkt) : Pkt := { p with ex := cap12 p.ex, key := cap12 p.key, val := cap12 p.val }
theorem fit_fn (p : Pkt) (ae av : Option Addr) (ce cv : Nat) (he : p.ex.length ≤ ce) (hv : p.val.length ≤ cv) :
    FnS Try.prog 13 [.agg (pktCells p ae ce av cv).toArray] (fun _ => True) [] (fun v H => ∃ ae' ce' av' cv', v = .agg (pktCells (fitP p) ae' ce' av' cv').toArray ∧ (fitP p).ex.length ≤ ce' ∧ (fitP p).val.length ≤ cv' ∧
      (∀ h, Rdl h ae (bcells p.ex) → Rdl h ae' (bcells (fitP p).ex)) ∧ (∀ h, Rdl h av (bcells p.val) → Rdl h av' (bcells (fitP p).val)) ∧ H = []) := by
  obtain ⟨reply, op, status, opq, token, ex, key, val, large⟩ := p
  dsimp only [pktCells, fitP] at he hv ⊢
  refine fn_body Try.func13 rfl Try.ntmps13 rfl ?_
  intro F hF
  refine g_sr ?_
  refine Lp (oB fun b1 => ?_)
  refine Lp (oA T.zc_39 fun b2 => ?_)
  refine g_ne ?_
  refine g_sr ?_
  refine Li (Fa T.fld_39_5) ?_
  refine Lp (oL T.sc_37 ?_)
  refine Lp (oC T.fn_22 rfl rfl (bytes22_fn ex ae ex.length ce rfl he) .nil (fun _ _ _ => trivial) ?_)
  rintro v H' ⟨ae', ce', rfl, he', hre, rfl⟩
  try simp only [nap, cap]
  refine Li (Fa T.fld_39_5) ?_
  refine Lp (oS T.sc_37 ?_)
  refine g_ne ?_
  refine g_sr ?_
  refine Li (Fa T.fld_39_7) ?_
  refine Lp (oL T.sc_37 ?_)
  refine Lp (oC T.fn_22 rfl rfl (bytes22_fn val av val.length cv rfl hv) .nil (fun _ _ _ => trivial) ?_)
  rintro v H' ⟨av', cv', rfl, hv', hrv, rfl⟩
  try simp only [nap, cap]
  refine Li (Fa T.fld_39_7) ?_
  refine Lp (oS T.sc_37 ?_)
  refine g_ne ?_
  refine g_seq ?_
  refine g_sr ?_
  refine Li (Fa T.fld_39_6) ?_
  refine Lp (oL T.sc_9 ?_)
  refine Li (Ls T.u_9) ?_
  refine Li Cm ?_
  refine g_ne ?_
  refine g_cond rfl ?_ ?_
  · intro hk
    replace hk := nrm hk
    refine g_region ?_
    refine Li (Fa T.fld_39_6) ?_
    refine Lp (oL T.sc_9 ?_)
    refine Li (Ss 0 12000 T.u_9) ?_
    refine Li (Fa T.fld_39_6) ?_
    refine Lp (oS T.sc_9 ?_)
    refine g_ne ?_
    refine g_sr ?_
    refine Lp (oLN T.ag_39 ?_)
    refine Lp (oSW T.ag_39 ?_)
    refine g_ne ?_
    refine g_ret ?_
    refine RtC [] T.ag_39 Try.results13 ?_
    exact ⟨ae', ce', av', cv', rfl, he', hv', hre, hrv, rfl⟩
  · intro hk
    replace hk := nrm hk
    refine g_skip ?_
    refine e_then ?_
    refine g_sr ?_
    refine Lp (oLN T.ag_39 ?_)
    refine Lp (oSW T.ag_39 ?_)
    refine g_ne ?_
    refine g_ret ?_
    refine RtC [] T.ag_39 Try.results13 ?_
    refine ⟨ae', ce', av', cv', ?_, he', hv', hre, hrv, rfl⟩
    rw [show cap12 key = key from List.take_of_length_le (by omega)]
    rfl

set_option maxHeartbeats 1000000 in
theorem sames_fn (l m : List (Pkt × Ad)) (a b : Option Addr) (n1 n2 c1 c2 : Nat) (h1 : n1 = l.length) (h2 : n2 = m.length) (hc1 : n1 ≤ c1) (hc2 : n2 ≤ c2) (hl : l.length < 4611686018427387904) :
    FnS Try.prog 33 [.slice a n1 c1, .slice b n2 c2] (fun h => PktsAt h a l ∧ PktsAt h b m) [] (fun v H => v = .bool (decide (l.map Prod.fst = m.map Prod.fst)) ∧ H = []) := by
  subst h1 h2
  refine fn_body Try.func33 rfl Try.ntmps33 rfl ?_
  rintro F ⟨hA, hB⟩
  refine g_sr ?_
  refine Li As ?_
  refine g_ne ?_
  refine g_seq ?_
  refine g_sr ?_
  refine Li Mv ?_
  refine Li (Ln T.sl_22) ?_
  refine Li Mv ?_
  refine Li (Ln T.sl_22) ?_
  refine Li Cm ?_
  refine g_ne ?_
  refine g_cond rfl ?_ ?_
  · intro hne
    replace hne := nrm hne
    refine g_sr ?_
    refine Li As ?_
    refine g_ne ?_
    refine g_ret ?_
    refine e_then_ret ?_
    refine Rt [] Try.results33 ?_
    refine ⟨congrArg Value.bool (decide_eq_false fun q => ?_).symm, rfl⟩
    have := congrArg List.length q
    simp at this
    omega
  · intro hne
    replace hne := nrm hne
    have hlen : m.length = l.length := by omega
    refine g_skip ?_
    refine e_then ?_
    refine g_seq ?_
    refine g_sr ?_
    refine Li As ?_
    refine g_ne ?_
    refine g_block ?_
    refine Lo (ι := Nat) [11, 12, 13, 14, 17, 18, 19, 20, 21, 22, 23, 24, 25, 26, 4, 15, 16, 5] (fun i => i ≤ l.length ∧ ∀ j, j < i → (l.map Prod.fst)[j]? = (m.map Prod.fst)[j]?) (fun i => [(5, .int .i64 (i : Int))]) (fun i => []) (fun i => l.length - i) (0) ⟨Nat.zero_le _, fun j hj => absurd hj (Nat.not_lt_zero j)⟩ ?_
    rintro i ⟨hi, hall⟩
    refine g_seq ?_
    refine g_sr ?_
    refine Li Mv ?_
    refine Li Mv ?_
    refine Li (Ln T.sl_22) ?_
    refine Li Cm ?_
    refine g_ne ?_
    refine g_cond rfl ?_ ?_
    · intro hlt
      replace hlt := nrm hlt
      have hlt' : i < l.length := by omega
      have e1 : l[i]? = some l[i] := List.getElem?_eq_getElem hlt'
      have e2 : m[i]? = some (m[i]'(by omega)) := List.getElem?_eq_getElem (by omega)
      generalize l[i] = p at e1
      generalize m[i]'(by omega) = q at e2
      have k1 := pktsCells_at l i p e1
      have k2 := pktsCells_at m i q e2
      have r1 := hA.cells
      have r2 := hB.cells
      have rp := hA.bytes p (List.mem_of_getElem? e1)
      have rq := hB.bytes q (List.mem_of_getElem? e2)
      have sa : a.isSome = true := r1.some (by rw [pktsCells_length]; omega)
      have sb : b.isSome = true := r2.some (by rw [pktsCells_length]; omega)
      have t1 := pktsCells_length l
      have t2 := pktsCells_length m
      refine g_skip ?_
      refine e_then ?_
      refine g_seq ?_
      refine g_block ?_
      refine g_seq ?_
      refine g_drw T.mix .nil fun F1 le1 hin1 back1 => ?_
      replace r1 := r1.mono le1
      replace r2 := r2.mono le1
      refine Dt 0 rfl Mv ?_
      refine Dt 1 rfl Mv ?_
      refine Dt 2 rfl (Ix T.sl_22) ?_
      refine Dt 3 rfl (LfN T.ag_39) ?_
      refine Dt 4 rfl Mv ?_
      refine Dt 5 rfl Mv ?_
      refine Dt 6 rfl (Ix T.sl_22) ?_
      refine Dt 7 rfl (LfN T.ag_39) ?_
      refine Dn 8 ?_
      refine Do rfl (oC T.fn_25 rfl rfl (same_fn p.1 q.1 p.2.ae p.2.av q.2.ae q.2.av p.2.ce p.2.cv q.2.ce q.2.cv) .nil (fun _ le _ => ⟨⟨rp.1.mono (le1.trans le), rp.2.mono (le1.trans le)⟩, ⟨rq.1.mono (le1.trans le), rq.2.mono (le1.trans le)⟩⟩) ?_)
      rintro v H' ⟨rfl, rfl⟩
      try simp only [nap, cap]
      refine gh_next ?_
      refine Dt 9 rfl Nt ?_
      refine gh_done (by kernel_rfl) back1 ?_
      refine e_then ?_
      refine g_cond rfl ?_ ?_
      · intro hd
        replace hd := nrm hd
        refine g_sr ?_
        refine Li As ?_
        refine g_ne ?_
        refine g_ret ?_
        refine e_block_ret ?_
        refine e_then_ret ?_
        refine e_then_ret ?_
        refine e_block_ret ?_
        refine e_then_ret ?_
        refine Rt [] Try.results33 ?_
        refine ⟨congrArg Value.bool (decide_eq_false fun hq => ?_).symm, rfl⟩
        have := congrArg (fun z => z[i]?) hq
        simp only [List.getElem?_map, e1, e2, Option.map_some, Option.some.injEq] at this
        rw [this, sameB_refl] at hd
        simp at hd
      · intro hd
        replace hd := nrm hd
        refine g_skip ?_
        refine e_block ?_
        refine e_then ?_
        refine g_region ?_
        refine Li Mv ?_
        refine Li Im ?_
        refine Li As ?_
        refine g_nil ?_
        refine Ro (i + 1) (⟨by omega, fun j hj => ?_⟩) (by omega)
        by_cases hji : j = i
        · subst hji; rw [List.getElem?_map, List.getElem?_map, e1, e2]; exact congrArg some ((sameB_iff _ _).1 hd)
        · exact hall j (by omega)
    · intro hlt
      replace hlt := nrm hlt
      refine g_exit ?_
      refine e_then_exit ?_
      refine e_then_exit ?_
      refine e_block_hit ?_
      refine e_then ?_
      refine g_sr ?_
      refine Li As ?_
      refine g_ne ?_
      refine g_ret ?_
      refine Rt [] Try.results33 ?_
      refine ⟨congrArg Value.bool (decide_eq_true (List.ext_getElem? fun j => ?_)).symm, rfl⟩
      by_cases hj : j < i
      · exact hall j hj
      · rw [List.getElem?_eq_none (by simp; omega), List.getElem?_eq_none (by simp; omega)]

/-- what a Feeder holds -/
structure FSt where
  kept : List UInt8
  passed : Nat
  broken : Bool
def FSt.start : FSt := ⟨[], 0, false⟩
def stepM (limit : Nat) (s : FSt) (chunk : List UInt8) : List Pkt × FSt :=
  match s.broken with
  | true => ([], s)
  | false => ((feedM limit (chunk.length + 1) s.kept s.passed chunk).1, ⟨(feedM limit (chunk.length + 1) s.kept s.passed chunk).2.1, (feedM limit (chunk.length + 1) s.kept s.passed chunk).2.2.1, (feedM limit (chunk.length + 1) s.kept s.passed chunk).2.2.2⟩)
def FSt.Ok (limit : Nat) (s : FSt) : Prop := match s.broken with
  | true => s.kept = [] ∧ s.passed = 0
  | false => FInv limit s.kept s.passed
theorem FSt.ok_start (limit : Nat) : FSt.start.Ok limit := FInv.nil limit

theorem feed_broken (bf limit passed taken nk ck : Nat) (ak : Option Addr) (a : Option Addr) (m c : Nat) (X : HProp) (hB : m ≤ 1099511627776) (hT : taken ≤ 1099511627776) :
    FnS Try.prog 31 [.pointer (some ⟨bf, 0, none⟩), .slice a m c] (fun _ => True) [pts bf 95 (fdCells limit ak nk ck passed true taken), X]
      (fun v H => v = .slice none 0 0 ∧ H = [pts bf 95 (fdCells limit ak nk ck passed true (taken + m)), X, own none 0 39 9 [], stars []]) := by
  refine fn_body Try.func31 rfl Try.ntmps31 rfl ?_
  intro F hF
  simp only [fdCells]
  refine g_sr ?_
  refine Li As ?_
  refine g_ne ?_
  refine g_sr ?_
  refine Li As ?_
  refine g_ne ?_
  refine g_sr ?_
  refine Li Mv ?_
  refine Li Nc ?_
  refine Li (Fa T.fld_95_4) ?_
  refine Lp (oL T.sc_3 ?_)
  refine Li Mv ?_
  refine Li (Ln T.sl_37) ?_
  refine Li Im ?_
  refine Li Nc ?_
  refine Li (Fa T.fld_95_4) ?_
  refine Lp (oS T.sc_3 ?_)
  refine g_ne ?_
  refine g_seq ?_
  refine g_block ?_
  rw [show (taken : Int) + (m : Int) = ((taken + m : Nat) : Int) from by omega]
  refine g_heap (fun _ s => starL_nil_stars s) ?_
  refine g_nilrow 39 9 ?_
  refine Lo (ι := Nat) [21, 22, 23, 24, 25, 27, 28, 26, 29, 30, 6, 7, 31, 32, 33, 34, 35, 36, 37, 38, 39, 40, 8, 41, 42, 43, 44, 45, 46, 47, 48, 49, 50, 51, 52, 53, 54, 55, 56, 57, 1, 58, 59, 60, 61, 62, 63, 64, 65, 66, 67, 68, 69, 70, 71, 72, 73, 74, 75, 76, 77, 78, 80, 81, 79, 82, 83, 9, 10, 84, 85, 86, 87, 88, 89, 90, 91, 92, 93, 94, 95, 96, 97, 98, 99, 100, 11, 101, 102, 103, 104, 105, 106, 107, 108, 109, 110, 111, 112, 113, 114, 115, 116, 117, 118, 119, 120, 121, 122, 123, 124, 125, 126, 127, 5, 128, 129, 130, 131, 132, 133, 134, 135, 136] (fun u => u ≤ 0) (fun u => [(5, .slice none 0 0)]) (fun u => [pts bf 95 [.int .i64 (limit : Int), .slice ak nk ck, .int .i64 (passed : Int), .bool true, .int .i64 ((taken + m : Nat) : Int)], X, own none 0 39 9 [], stars []]) (fun u => 0) (0) (Nat.le_refl _) ?_
  rintro u hu
  refine g_seq ?_
  refine g_sr ?_
  refine Li Mv ?_
  refine Li Nc ?_
  refine Li (Fa T.fld_95_3) ?_
  refine Lp (oL T.sc_4 ?_)
  refine Li Nt ?_
  refine g_ne ?_
  refine g_cond_f rfl (by rfl) ?_
  refine g_exit ?_
  refine e_then_exit ?_
  refine e_then_exit ?_
  refine e_block_hit ?_
  refine e_then ?_
  refine g_sr ?_
  refine Li Mv ?_
  refine Li As ?_
  refine g_ne ?_
  refine g_ret ?_
  refine Rt [pts bf 95 [.int .i64 (limit : Int), .slice ak nk ck, .int .i64 (passed : Int), .bool true, .int .i64 ((taken + m : Nat) : Int)], X, own none 0 39 9 [], stars []] Try.results31 ?_
  exact ⟨rfl, rfl⟩

/-- Feed, in any state -/
theorem feed_any (bf limit taken ck : Nat) (s : FSt) (ak : Option Addr) (a : Option Addr) (m c : Nat) (chunk : List UInt8) (hm : m = chunk.length) (hc : m ≤ c) (hck : s.kept.length ≤ ck)
    (ok : s.Ok limit) (hlim : limit ≤ 9223372036854775807) (hB : s.kept.length + chunk.length ≤ 1099511627776) (hT : taken ≤ 1099511627776) :
    FnS Try.prog 31 [.pointer (some ⟨bf, 0, none⟩), .slice a m c] (fun h => Rdl h a (bcells chunk)) [pts bf 95 (fdCells limit ak s.kept.length ck s.passed s.broken taken), own ak ck 5 1 (bcells s.kept)]
      (fun v H => ∃ ak' ck' ao co l, v = .slice ao l.length co ∧ l.map Prod.fst = (stepM limit s chunk).1 ∧ (stepM limit s chunk).2.kept.length ≤ ck' ∧
        H = [pts bf 95 (fdCells limit ak' (stepM limit s chunk).2.kept.length ck' (stepM limit s chunk).2.passed (stepM limit s chunk).2.broken (taken + m)),
          own ak' ck' 5 1 (bcells (stepM limit s chunk).2.kept), own ao co 39 9 (pktsCells l), stars (pktOwns l)]) := by
  obtain ⟨kept, passed, broken⟩ := s
  cases broken with
  | false =>
    have h := feed_fn bf limit passed taken ak ck kept a m c chunk hm hc hck ok hlim hB hT
    subst hm
    exact h
  | true =>
    obtain ⟨k0, p0⟩ := ok
    dsimp only at k0 p0 hck hB
    subst k0 p0 hm
    have h := feed_broken bf limit 0 taken 0 ck ak a chunk.length c (own ak ck 5 1 (bcells [])) (by omega) hT
    intro F w hp hs
    refine (h F w trivial hs).mono fun e w' hh => ?_
    obtain ⟨v, H', he, ⟨rfl, rfl⟩, st⟩ := hh
    exact ⟨_, _, he, ⟨ak, ck, none, 0, [], rfl, rfl, Nat.zero_le _, rfl⟩, st⟩
end Go.Proofs.Ytggmpaggmkfmoaa

