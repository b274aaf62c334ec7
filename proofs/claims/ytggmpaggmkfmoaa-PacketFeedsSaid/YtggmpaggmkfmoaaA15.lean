/- Packets: a Feeder as one part; chunks; pieces; what is fed. -/
import Derived.Test.YtggmpaggmkfmoaaB1
import Derived.Test.YtggmpaggmkfmoaaEng8
set_option maxRecDepth 100000
namespace Go.Proofs.Ytggmpaggmkfmoaa
open Go Go.Eng

/-- a Feeder that was fed so much -/
def Fd (bf limit : Nat) (S : List UInt8) : HProp := fun k => ∃ p : Option Addr × Nat, (PS limit S).2.kept.length ≤ p.2 ∧
  stars [pts bf 95 (fdCells limit p.1 (PS limit S).2.kept.length p.2 (PS limit S).2.passed (PS limit S).2.broken S.length), own p.1 p.2 5 1 (bcells (PS limit S).2.kept)] k
theorem Fd_of {bf limit : Nat} {S : List UInt8} {ak : Option Addr} {ck : Nat} {H : List HProp} (hc : (PS limit S).2.kept.length ≤ ck) (k : Hp)
    (s : starL (pts bf 95 (fdCells limit ak (PS limit S).2.kept.length ck (PS limit S).2.passed (PS limit S).2.broken S.length) :: own ak ck 5 1 (bcells (PS limit S).2.kept) :: H) k) : starL (Fd bf limit S :: H) k :=
  ex_of (A := fun p : Option Addr × Nat => fun k => (PS limit S).2.kept.length ≤ p.2 ∧
    stars [pts bf 95 (fdCells limit p.1 (PS limit S).2.kept.length p.2 (PS limit S).2.passed (PS limit S).2.broken S.length), own p.1 p.2 5 1 (bcells (PS limit S).2.kept)] k) (ak, ck) (starL_pure hc (stars_of (L := [_, _]) s))
theorem Fd_in {bf limit : Nat} {S : List UInt8} {h : Hp} (hf : ∃ k, Fd bf limit S k ∧ Le k h) : ∃ ak ck, ∃ k, pts bf 95 (fdCells limit ak (PS limit S).2.kept.length ck (PS limit S).2.passed (PS limit S).2.broken S.length) k ∧ Le k h := by
  obtain ⟨k, ⟨⟨ak, ck⟩, _, hs⟩, l⟩ := hf
  exact ⟨ak, ck, in_mono (starL_InL hs (Le.refl _)).1 l⟩
theorem newF (limit : Int) (h1 : -9223372036854775808 ≤ limit) (h2 : limit ≤ 9223372036854775807) :
    FnS Try.prog 27 [.int .i64 limit] (fun _ => True) [] (fun v H => ∃ b, v = .pointer (some ⟨b, 0, none⟩) ∧ H = [Fd b limit.toNat []]) :=
  (new_fn limit h1 h2).out fun v H' r => by
    obtain ⟨b, rfl, rfl⟩ := r
    refine ⟨_, ⟨b, rfl, rfl⟩, fun k s => Fd_of (ak := none) (ck := 0) (by rw [PS_nil]; exact Nat.le_refl _) k ?_⟩
    rw [PS_nil]
    refine starL_swap (starL_own_nil 5 1 ?_)
    exact s
theorem heldF (bf limit : Nat) (S : List UInt8) : FnS Try.prog 37 [.pointer (some ⟨bf, 0, none⟩)] (fun h => ∃ k, Fd bf limit S k ∧ Le k h) [] (fun v H => v = .int .i64 ((PS limit S).2.kept.length : Int) ∧ H = []) := fun F w hp s => by
  obtain ⟨ak, ck, hp⟩ := Fd_in hp
  exact held_fn bf limit _ ck _ _ _ ak F w hp s
theorem brokenF (bf limit : Nat) (S : List UInt8) : FnS Try.prog 38 [.pointer (some ⟨bf, 0, none⟩)] (fun h => ∃ k, Fd bf limit S k ∧ Le k h) [] (fun v H => v = .bool (PS limit S).2.broken ∧ H = []) := fun F w hp s => by
  obtain ⟨ak, ck, hp⟩ := Fd_in hp
  exact broken_fn bf limit _ ck _ _ _ ak F w hp s
theorem takenF (bf limit : Nat) (S : List UInt8) : FnS Try.prog 39 [.pointer (some ⟨bf, 0, none⟩)] (fun h => ∃ k, Fd bf limit S k ∧ Le k h) [] (fun v H => v = .int .i64 (S.length : Int) ∧ H = []) := fun F w hp s => by
  obtain ⟨ak, ck, hp⟩ := Fd_in hp
  exact taken_fn bf limit _ ck _ _ _ ak F w hp s
/-- a list of packets of one's own, and their bytes -/
def Pks (ao : Option Addr) (co : Nat) (l : List (Pkt × Ad)) : HProp := stars [own ao co 39 9 (pktsCells l), stars (pktOwns l)]
theorem feedF (bf limit : Nat) (S : List UInt8) (a : Option Addr) (m c : Nat) (chunk : List UInt8) (hm : m = chunk.length) (hc : m ≤ c) (hlim : limit ≤ 9223372036854775807) (hB : S.length + chunk.length ≤ 1099511627776) :
    FnS Try.prog 31 [.pointer (some ⟨bf, 0, none⟩), .slice a m c] (fun h => Rdl h a (bcells chunk)) [Fd bf limit S]
      (fun v H => ∃ ao co l, v = .slice ao l.length co ∧ (PS limit S).1 ++ l.map Prod.fst = (PS limit (S ++ chunk)).1 ∧ H = [Fd bf limit (S ++ chunk), Pks ao co l]) := by
  refine FnS.exL fun p => FnS.pureL fun hk => FnS.starsL ?_
  have hkl := PS_kept_le limit S
  refine (feed_any bf limit S.length p.2 (PS limit S).2 p.1 a m c chunk hm hc hk (PS_ok limit S) hlim (by omega) (by omega)).out fun v H' r => ?_
  obtain ⟨e1, e2⟩ := step_ps limit S chunk
  rw [e1] at r
  obtain ⟨ak, ck, ao, co, l, rfl, hl, hck, rfl⟩ := r
  refine ⟨_, ⟨ao, co, l, rfl, by rw [hl]; exact e2, rfl⟩, fun k s => Fd_of (ak := ak) (ck := ck) hck k ?_⟩
  rw [List.length_append, ← hm]
  refine starL_tail (fun _ s => starL_tail (fun _ s => stars_of (L := [_, _]) (H := []) s) s) s

structure Ch where
  b : List UInt8
  a : Option Addr
  c : Nat
def chCells (l : List Ch) : List Value := l.map fun x => .slice x.a x.b.length x.c
@[simp] theorem chCells_length (l : List Ch) : (chCells l).length = l.length := by simp [chCells]
def icells (l : List Int) : List Value := l.map fun n => .int .i64 n
def piecesM : Nat → List UInt8 → List Int → List (List UInt8)
  | 0, b, _ => [b]
  | _ + 1, b, [] => [b]
  | k + 1, b, n :: r => b.take n.toNat :: piecesM k (b.drop n.toNat) r
theorem piecesM_flat : ∀ (k : Nat) (b : List UInt8) (r : List Int), (piecesM k b r).flatten = b := by
  intro k
  induction k with
  | zero => intro b r; simp [piecesM]
  | succ k ih =>
    intro b r
    cases r with
    | nil => simp [piecesM]
    | cons n r => simp [piecesM, ih]
theorem piecesM_len : ∀ (k : Nat) (b : List UInt8) (r : List Int), (piecesM k b r).length ≤ k + 1 := by
  intro k
  induction k with
  | zero => intro b r; simp [piecesM]
  | succ k ih =>
    intro b r
    cases r with
    | nil => simp [piecesM]
    | cons n r => have := ih (b.drop n.toNat) r; simp [piecesM]; omega

structure PcG where
  i : Nat
  b : List UInt8
  a : Option Addr
  c : Nat
  l : List Ch
  ao : Option Addr
  co : Nat
structure PcI (a0 : Option Addr) (b0 : List UInt8) (sizes : List Int) (g : PcG) : Prop where
  hi : g.i ≤ sizes.length
  h399 : g.i ≤ 399
  len : g.l.length = g.i
  le : g.b.length ≤ g.c
  caps : ∀ x ∈ g.l, x.b.length ≤ x.c
  rds : ∀ h, Rdl h a0 (bcells b0) → Rdl h g.a (bcells g.b) ∧ ∀ x ∈ g.l, Rdl h x.a (bcells x.b)
  same : g.l.map Ch.b ++ piecesM (399 - g.i) g.b (sizes.drop g.i) = piecesM 399 b0 sizes

set_option maxHeartbeats 1000000 in
theorem pieces_fn (b : List UInt8) (a : Option Addr) (m c : Nat) (sizes : List Int) (sa : Option Addr) (sn sc : Nat) (hm : m = b.length) (hc : m ≤ c) (hs : sn = sizes.length) :
    FnS Try.prog 36 [.slice a m c, .slice sa sn sc] (fun h => Rdl h sa (icells sizes)) []
      (fun v H => ∃ ao co l, v = .slice ao l.length co ∧ l.length ≤ 400 ∧ l.map Ch.b = piecesM 399 b sizes ∧ (∀ x ∈ l, x.b.length ≤ x.c) ∧ (∀ h, Rdl h a (bcells b) → ∀ x ∈ l, Rdl h x.a (bcells x.b)) ∧ H = [own ao co 37 1 (chCells l)]) := by
  subst hm hs
  refine fn_body Try.func36 rfl Try.ntmps36 rfl ?_
  intro F hF
  refine g_sr ?_
  refine Li As ?_
  refine g_ne ?_
  refine g_sr ?_
  refine Li As ?_
  refine g_ne ?_
  refine g_seq ?_
  refine g_sr ?_
  refine Li As ?_
  refine g_ne ?_
  refine g_block ?_
  refine g_nilrow 37 1 ?_
  refine Lo (ι := PcG) [8, 9, 10, 11, 12, 13, 14, 15, 18, 19, 20, 21, 7, 22, 23, 24, 25, 26, 27, 28, 29, 30, 31, 32, 33, 34, 35, 36, 5, 37, 38, 39, 0, 16, 17, 6] (fun g => PcI a b sizes g) (fun g => [(0, .slice g.a g.b.length g.c), (5, .slice g.ao g.l.length g.co), (6, .int .i64 (g.i : Int))]) (fun g => [own g.ao g.co 37 1 (chCells g.l)]) (fun g => sizes.length - g.i) (⟨0, b, a, c, [], none, 0⟩) ⟨Nat.zero_le _, Nat.zero_le _, rfl, hc, by simp, fun h r => ⟨r, by simp⟩, rfl⟩ ?_
  rintro ⟨i, w1, a1, c1, l1, ao1, co1⟩ ⟨hi, h399, hlen, hle, hcaps, hrds, hsame⟩
  try dsimp only at hi h399 hlen hle hcaps hrds hsame ⊢
  refine g_seq ?_
  refine g_sr ?_
  refine Li Mv ?_
  refine Li Mv ?_
  refine Li (Ln T.sl_73) ?_
  refine Li Cm ?_
  refine Li Mv ?_
  refine g_split (t := 12) rfl ?_ ?_
  · intro h1
    replace h1 := nrm h1
    refine Li Mv ?_
    refine Li Cm ?_
    refine Li Pt ?_
    refine g_ne ?_
    refine g_cond rfl ?_ ?_
    · intro h2
      replace h2 := nrm h2
      obtain ⟨n, e1⟩ : ∃ n, sizes[i]? = some n := ⟨_, List.getElem?_eq_getElem (show i < sizes.length by omega)⟩
      have k1 : (icells sizes)[i]? = some (.int .i64 n) := by simp [icells, e1]
      have sa0 : sa.isSome = true := hF.some (by simp [icells]; omega)
      have hdrop : sizes.drop i = n :: sizes.drop (i + 1) := by
        rw [List.drop_eq_getElem_cons (show i < sizes.length by omega)]
        congr 1
        rw [List.getElem?_eq_getElem (show i < sizes.length by omega)] at e1
        exact Option.some.inj e1
      refine g_skip ?_
      refine e_then ?_
      refine g_seq ?_
      refine g_block ?_
      refine g_sr ?_
      refine Li Mv ?_
      refine Li Mv ?_
      refine Li (Ix T.sl_73) ?_
      refine Lp (oL T.sc_3 ?_)
      refine Li As ?_
      refine g_ne ?_
      refine g_seq ?_
      refine g_sr ?_
      refine Li Mv ?_
      refine Li Cm ?_
      refine g_ne ?_
      refine g_mid (ι := Nat) [7] (fun n1 => (n1 : Int) = max n 0) (fun n1 => [(7, .int .i64 (n1 : Int))]) (fun n1 => [own ao1 co1 37 1 (chCells l1)]) ?_ ?_
      · refine g_cond rfl ?_ ?_
        · intro h3
          replace h3 := nrm h3
          refine g_region ?_
          refine Li As ?_
          refine g_nil ?_
          refine Me (0) (by omega)
        · intro h3
          replace h3 := nrm h3
          refine g_skip ?_
          refine Me (n.toNat) (by omega)
      rintro n1 hn1
      refine g_seq ?_
      refine g_sr ?_
      refine Li Mv ?_
      refine Li Mv ?_
      refine Li (Ln T.sl_37) ?_
      refine Li Cm ?_
      refine g_ne ?_
      refine g_mid (ι := Nat) [28, 29, 7] (fun n2 => n2 = min n1 w1.length) (fun n2 => [(7, .int .i64 (n2 : Int))]) (fun n2 => [own ao1 co1 37 1 (chCells l1)]) ?_ ?_
      · refine g_cond rfl ?_ ?_
        · intro h3
          replace h3 := nrm h3
          refine g_region ?_
          refine Li Mv ?_
          refine Li (Ln T.sl_37) ?_
          refine Li As ?_
          refine g_nil ?_
          refine Me (w1.length) (by omega)
        · intro h3
          replace h3 := nrm h3
          refine g_skip ?_
          refine Me (n1) (by omega)
      rintro n2 hn2
      refine g_sr ?_
      refine Li Mv ?_
      refine Li Mv ?_
      refine Li Mv ?_
      refine Li Mv ?_
      refine Li (Sl 0 _ _ T.sl_37) ?_
      refine Lp (oT T.ap_24 fun b1 => ?_)
      refine Lp (op_append_lit T.ap_24 T.ni_24 rfl rfl rfl rfl .here (by simp) (rfl) (by simp [Value.oneCell']) (by first | omega | (simp; omega)) (by first | omega | (simp; omega)) rfl fun a4 c4 hc4 => ?_)
      refine Li As ?_
      refine g_ne ?_
      refine g_region ?_
      refine Li Mv ?_
      refine Li Mv ?_
      refine Li (Sl _ _ _ T.sl_37) ?_
      refine Li As ?_
      refine g_nil ?_
      refine e_block ?_
      refine e_then ?_
      refine g_region ?_
      refine Li Mv ?_
      refine Li Im ?_
      refine Li As ?_
      refine g_nil ?_
      have hle2 : n2 ≤ w1.length := by omega
      have hch : chCells l1 ++ [.slice (cutA a1 0 n2 (0 * 1)) (n2 - 0) (n2 - 0)] = chCells (l1 ++ [⟨w1.take n2, cutA a1 0 n2 (0 * 1), n2⟩]) := by
        simp [chCells]; omega
      rw [hch, show w1.length - n2 = (w1.drop n2).length from by simp, show l1.length + 1 = (l1 ++ [(⟨w1.take n2, cutA a1 0 n2 (0 * 1), n2⟩ : Ch)]).length from by simp]
      have hnt : w1.take n.toNat = w1.take n2 ∧ w1.drop n.toNat = w1.drop n2 := by
        rcases Nat.le_total n.toNat w1.length with q | q
        · rw [show n2 = n.toNat from by omega]; exact ⟨rfl, rfl⟩
        · rw [show n2 = w1.length from by omega, List.take_of_length_le q, List.drop_of_length_le q, List.take_length, List.drop_length]; exact ⟨rfl, rfl⟩
      refine Ro (⟨i + 1, w1.drop n2, cutA a1 n2 c1 (n2 * 1), c1 - n2, l1 ++ [⟨w1.take n2, cutA a1 0 n2 (0 * 1), n2⟩], a4, c4⟩) (?_) ((by dsimp only; omega))
      refine ⟨by dsimp only; omega, by dsimp only; omega, by simp [hlen], by simp; omega, ?_, ?_, ?_⟩
      · intro x hx
        rcases List.mem_append.1 hx with hx | hx
        · exact hcaps x hx
        · rw [List.mem_singleton.1 hx]; simp; omega
      · intro h r
        obtain ⟨r1, r2⟩ := hrds h r
        refine ⟨?_, ?_⟩
        · have := cut2 r1 n2 c1 (w1.length - n2) (by omega)
          rwa [List.take_of_length_le (by simp)] at this
        · intro x hx
          rcases List.mem_append.1 hx with hx | hx
          · exact r2 x hx
          · rw [List.mem_singleton.1 hx]
            have := cut2 r1 0 n2 n2 (by omega)
            simpa using this
      · dsimp only
        rw [← hsame, hdrop, show 399 - i = (399 - (i + 1)) + 1 from by omega]
        simp [piecesM, hnt]
    · intro h2
      replace h2 := nrm h2
      have hlast : piecesM (399 - i) w1 (sizes.drop i) = [w1] := by rw [show 399 - i = 0 from by omega]; rfl
      refine g_exit ?_
      refine e_then_exit ?_
      refine e_then_exit ?_
      refine e_block_hit ?_
      refine e_then ?_
      refine g_sr ?_
      refine Li Mv ?_
      refine Li Mv ?_
      refine Lp (oT T.ap_24 fun b2 => ?_)
      refine Lp (op_append_lit T.ap_24 T.ni_24 rfl rfl rfl rfl .here (by simp) (rfl) (by simp [Value.oneCell']) (by first | omega | (simp; omega)) (by first | omega | (simp; omega)) rfl fun a4 c4 hc4 => ?_)
      refine Li As ?_
      refine g_ne ?_
      refine g_ret ?_
      have hch : chCells l1 ++ [.slice a1 w1.length c1] = chCells (l1 ++ [⟨w1, a1, c1⟩]) := by simp [chCells]
      rw [hch, show l1.length + 1 = (l1 ++ [(⟨w1, a1, c1⟩ : Ch)]).length from by simp]
      refine Rt [own a4 c4 37 1 (chCells (l1 ++ [⟨w1, a1, c1⟩]))] Try.results36 ?_
      refine ⟨a4, c4, l1 ++ [⟨w1, a1, c1⟩], rfl, by simp; omega, by rw [← hsame, hlast]; simp, ?_, ?_, rfl⟩
      · intro x hx
        rcases List.mem_append.1 hx with hx | hx
        · exact hcaps x hx
        · rw [List.mem_singleton.1 hx]; exact hle
      · intro h r x hx
        rcases List.mem_append.1 hx with hx | hx
        · exact (hrds h r).2 x hx
        · rw [List.mem_singleton.1 hx]; exact (hrds h r).1
  · intro h1
    replace h1 := nrm h1
    have hlast : piecesM (399 - i) w1 (sizes.drop i) = [w1] := by
      rw [List.drop_of_length_le (by omega)]
      cases 399 - i <;> rfl
    refine Lx ?_
    refine Lx ?_
    refine Li Pf ?_
    refine g_ne ?_
    refine g_cond_f rfl rfl ?_
    refine g_exit ?_
    refine e_then_exit ?_
    refine e_then_exit ?_
    refine e_block_hit ?_
    refine e_then ?_
    refine g_sr ?_
    refine Li Mv ?_
    refine Li Mv ?_
    refine Lp (oT T.ap_24 fun b3 => ?_)
    refine Lp (op_append_lit T.ap_24 T.ni_24 rfl rfl rfl rfl .here (by simp) (rfl) (by simp [Value.oneCell']) (by first | omega | (simp; omega)) (by first | omega | (simp; omega)) rfl fun a4 c4 hc4 => ?_)
    refine Li As ?_
    refine g_ne ?_
    refine g_ret ?_
    have hch : chCells l1 ++ [.slice a1 w1.length c1] = chCells (l1 ++ [⟨w1, a1, c1⟩]) := by simp [chCells]
    rw [hch, show l1.length + 1 = (l1 ++ [(⟨w1, a1, c1⟩ : Ch)]).length from by simp]
    refine Rt [own a4 c4 37 1 (chCells (l1 ++ [⟨w1, a1, c1⟩]))] Try.results36 ?_
    refine ⟨a4, c4, l1 ++ [⟨w1, a1, c1⟩], rfl, by simp; omega, by rw [← hsame, hlast]; simp, ?_, ?_, rfl⟩
    · intro x hx
      rcases List.mem_append.1 hx with hx | hx
      · exact hcaps x hx
      · rw [List.mem_singleton.1 hx]; exact hle
    · intro h r x hx
      rcases List.mem_append.1 hx with hx | hx
      · exact (hrds h r).2 x hx
      · rw [List.mem_singleton.1 hx]; exact (hrds h r).1

/-- what stands in a list of chunks -/
structure ChsAt (h : Hp) (a : Option Addr) (l : List Ch) : Prop where
  cells : Rdl h a (chCells l)
  bytes : ∀ x ∈ l, Rdl h x.a (bcells x.b)
  caps : ∀ x ∈ l, x.b.length ≤ x.c
theorem ChsAt.mono {h k : Hp} {a : Option Addr} {l : List Ch} (p : ChsAt h a l) (le : Le h k) : ChsAt k a l := ⟨p.cells.mono le, fun x hx => (p.bytes x hx).mono le, p.caps⟩
def flat (l : List Ch) : List UInt8 := (l.map Ch.b).flatten
theorem flat_take (l : List Ch) (i : Nat) (x : Ch) (h : l[i]? = some x) : flat (l.take (i + 1)) = flat (l.take i) ++ x.b := by
  rw [List.take_add_one, h]; simp [flat]

theorem PS_count (limit : Nat) (S : List UInt8) : (PS limit S).1.length ≤ S.length := by
  have key : ∀ n (S : List UInt8), S.length = n → (PS limit S).1.length ≤ S.length := by
    intro n
    induction n using Nat.strongRecOn with
    | _ n ih =>
      intro S hn
      rw [PS_eq]
      split
      · simp
      · split
        · simp
        · rename_i hs
          unfold Short at hs
          have hge := wholeN_ge S
          have := ih (S.drop (wholeN S)).length (by simp; omega) _ rfl
          simp only [List.length_cons]
          rw [List.length_drop] at this
          omega
  exact key _ S rfl
theorem pktsCells_one (l : List (Pkt × Ad)) : ∀ v ∈ pktsCells l, v.oneCell' = true := by
  intro v hv
  simp only [pktsCells, List.mem_flatMap] at hv
  obtain ⟨p, _, hv⟩ := hv
  simp only [pktCells, List.mem_cons, List.not_mem_nil, or_false] at hv
  rcases hv with rfl | rfl | rfl | rfl | rfl | rfl | rfl | rfl | rfl <;> rfl
theorem pktsCells_append (l m : List (Pkt × Ad)) : pktsCells (l ++ m) = pktsCells l ++ pktsCells m := by simp [pktsCells]
theorem pktOwns_append (l m : List (Pkt × Ad)) : pktOwns (l ++ m) = pktOwns l ++ pktOwns m := by simp [pktOwns]
theorem stars_join {L M R : List HProp} {h : Hp} (s : starL (stars M :: stars L :: R) h) : starL (stars (L ++ M) :: R) h := by
  refine stars_fold (L := L) (M := M) (R := R) ?_
  obtain ⟨h1, h2, d, l1, l2, s1, s2⟩ := starL_swap s
  refine ⟨h1, h2, d, l1, l2, s1, ?_⟩
  obtain ⟨h3, h4, d', l3, l4, s3, s4⟩ := s2
  exact starL_mono (append_starL s3 s4 d') (uni_le l3 l4)

set_option maxHeartbeats 1000000 in
theorem fed_fn (bf limit : Nat) (S : List UInt8) (l : List Ch) (a : Option Addr) (m c : Nat) (hm : m = l.length) (hll : l.length ≤ 1000000) (hlim : limit ≤ 9223372036854775807) (hB : S.length + (flat l).length ≤ 1099511627776) :
    FnS Try.prog 35 [.pointer (some ⟨bf, 0, none⟩), .slice a m c] (fun h => ChsAt h a l) [Fd bf limit S]
      (fun v H => ∃ ao co o, v = .slice ao o.length co ∧ (PS limit S).1 ++ o.map Prod.fst = (PS limit (S ++ flat l)).1 ∧ H = [Fd bf limit (S ++ flat l), Pks ao co o]) := by
  subst hm
  refine fn_body Try.func35 rfl Try.ntmps35 rfl ?_
  intro F hF
  refine g_sr ?_
  refine Li As ?_
  refine g_ne ?_
  refine g_sr ?_
  refine Li As ?_
  refine g_ne ?_
  refine g_seq ?_
  refine g_sr ?_
  refine Li As ?_
  refine g_ne ?_
  refine g_block ?_
  refine g_nilrow 39 9 ?_
  refine g_heap (fun _ s => starL_swap (starL_nil_stars s)) ?_
  have e0 : S ++ flat (l.take 0) = S := by simp [flat]
  refine g_heap (H' := [own none 0 39 9 (pktsCells []), stars (pktOwns []), Fd bf limit (S ++ flat (l.take 0))]) (by rw [e0]; exact fun _ x => x) ?_
  refine Lo (ι := Nat × Option Addr × Nat × List (Pkt × Ad)) [7, 8, 9, 10, 13, 14, 15, 16, 17, 18, 19, 20, 21, 22, 5, 11, 12, 6] (fun (i, ao, co, o) => i ≤ l.length ∧ (PS limit S).1 ++ o.map Prod.fst = (PS limit (S ++ flat (l.take i))).1) (fun (i, ao, co, o) => [(5, .slice ao o.length co), (6, .int .i64 (i : Int))]) (fun (i, ao, co, o) => [own ao co 39 9 (pktsCells o), stars (pktOwns o), Fd bf limit (S ++ flat (l.take i))]) (fun (i, ao, co, o) => l.length - i) ((0, none, 0, [])) ⟨Nat.zero_le _, by simp [flat]⟩ ?_
  rintro ⟨i, ao1, co1, o1⟩ ⟨hi, hsame⟩
  try dsimp only at hI ⊢
  try dsimp only at hi hsame ⊢
  refine g_seq ?_
  refine g_sr ?_
  refine Li Mv ?_
  refine Li Mv ?_
  refine Li (Ln T.sl_24) ?_
  refine Li Cm ?_
  refine g_ne ?_
  refine g_cond rfl ?_ ?_
  · intro h1
    replace h1 := nrm h1
    obtain ⟨x, e1⟩ : ∃ x, l[i]? = some x := ⟨_, List.getElem?_eq_getElem (show i < l.length by omega)⟩
    have k1 : (chCells l)[i]? = some (.slice x.a x.b.length x.c) := by simp [chCells, e1]
    have rx := hF.bytes x (List.mem_of_getElem? e1)
    have r1 := hF.cells
    have a0 : a.isSome = true := r1.some (by simp; omega)
    refine g_skip ?_
    refine e_then ?_
    refine g_seq ?_
    refine g_block ?_
    refine g_region ?_
    refine Li Mv ?_
    refine Li Mv ?_
    refine Lp (oT T.ap_37 fun b1 => ?_)
    refine Li Mv ?_
    refine Li Mv ?_
    refine Li (Ix T.sl_24) ?_
    refine Lp (oL T.sc_37 ?_)
    refine g_heap (fun _ s => starL_cons_mono (fun _ p => own_of_pts p 0 1 (by simp) (by simp [maxLen])) s) ?_
    have hfl : (flat (l.take (i + 1))).length ≤ (flat l).length := by
      have : flat l = flat (l.take (i + 1)) ++ flat (l.drop (i + 1)) := by simp [flat, ← List.flatten_append, ← List.map_append]
      rw [this]; simp
    have hfx := flat_take l i x e1
    have hfl2 : (flat (l.take (i + 1))).length = (flat (l.take i)).length + x.b.length := by rw [hfx]; simp
    refine Lp (op_append T.ap_37 T.ni_37 rfl rfl rfl rfl .here (rfl) (src_slice (m := x.b.length) (by simp) fun h le _ => rx.mono le) (by first | exact bcells_one | (simp [Value.oneCell', strv])) (by first | omega | (simp; omega)) (by first | omega | (simp; omega)) rfl fun a4 c4 hc4 => ?_)
    refine Lp (oC T.fn_31 rfl rfl (feedF bf limit (S ++ flat (l.take i)) a4 (0 + x.b.length) c4 x.b (Nat.zero_add _) hc4 hlim (by simp; omega)) (.cons (.there (.there (.there .here))) .nil) (fun _ le hin => own_in (hin.nth 0 rfl)) ?_)
    rintro v H' ⟨ao2, co2, o2, rfl, hs2, rfl⟩
    try simp only [nap, cap]
    rw [List.append_assoc, ← hfx] at hs2
    rw [List.append_assoc, ← hfx]
    refine Hh (H' := [Pks ao2 co2 o2, own ao1 co1 39 9 (pktsCells o1), stars (pktOwns o1), Fd bf limit (S ++ flat (l.take (i + 1)))]) ?_
    refine g_stars ?_
    refine Hh (H' := [own ao2 co2 39 9 (pktsCells o2), stars (pktOwns o2), own ao1 co1 39 9 (pktsCells o1), stars (pktOwns o1), Fd bf limit (S ++ flat (l.take (i + 1)))]) ?_
    have hcnt : o1.length + o2.length ≤ 1099511627776 := by
      have h1 := PS_count limit (S ++ flat (l.take (i + 1)))
      rw [← hs2, ← hsame] at h1
      simp only [List.length_append, List.length_map] at h1
      omega
    refine Lp (op_append T.ap_22 T.ni_22 rfl rfl rfl rfl (.there (.there .here)) (pktsCells_length o1) (src_slice (m := o2.length) (pktsCells_length o2) fun h le hin => own_in (hin.nth 0 rfl)) (pktsCells_one o2) (by first | omega | (simp; omega)) (by first | omega | (simp; omega)) rfl fun a5 c5 hc5 => ?_)
    refine Li As ?_
    refine g_nil ?_
    refine e_block ?_
    refine e_then ?_
    refine g_region ?_
    refine Li Mv ?_
    refine Li Im ?_
    refine Li As ?_
    refine g_nil ?_
    rw [← pktsCells_append, show o1.length + o2.length = (o1 ++ o2).length from by simp]
    refine Hh (H' := [stars (pktOwns o2), stars (pktOwns o1), own a5 c5 39 9 (pktsCells (o1 ++ o2)), Fd bf limit (S ++ flat (l.take (i + 1)))]) ?_
    refine g_heap (fun _ s => stars_join s) ?_
    rw [← pktOwns_append]
    refine Ro ((i + 1, a5, c5, o1 ++ o2)) (⟨by omega, by dsimp only; rw [List.map_append, ← List.append_assoc, hsame]; exact hs2⟩) ((by dsimp only; omega))
  · intro h1
    replace h1 := nrm h1
    have e1 : l.take i = l := List.take_of_length_le (by omega)
    rw [e1] at hsame
    rw [e1]
    refine g_exit ?_
    refine e_then_exit ?_
    refine e_then_exit ?_
    refine e_block_hit ?_
    refine e_then ?_
    refine g_sr ?_
    refine Li Mv ?_
    refine Li As ?_
    refine g_ne ?_
    refine g_ret ?_
    refine Hh (H' := [Fd bf limit (S ++ flat l), own ao1 co1 39 9 (pktsCells o1), stars (pktOwns o1)]) ?_
    refine g_heap (H' := [Fd bf limit (S ++ flat l), Pks ao1 co1 o1]) (fun _ s => starL_tail (fun _ s => stars_of (L := [_, _]) (H := []) s) s) ?_
    refine Rt [Fd bf limit (S ++ flat l), Pks ao1 co1 o1] Try.results35 ?_
    exact ⟨ao1, co1, o1, rfl, hsame, rfl⟩
end Go.Proofs.Ytggmpaggmkfmoaa

