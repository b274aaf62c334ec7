/- Packets: the limits. -/
import Derived.Test.YtggmpaggmkfmoaaA12
set_option maxRecDepth 100000
namespace Go.Proofs.Ytggmpaggmkfmoaa
open Go Go.Eng

def limZ : List UInt8 := List.replicate 256 0
def limG : Pkt := ⟨true, 255, 65535, 4294967295, 18446744073709551615, limZ.take 255, limZ.take 250, [], false⟩
theorem lim_ok : okP limG = true := by decide +kernel
theorem lim_len : (enc limG).length = 529 := by decide +kernel
theorem lim_read : readP (enc limG) (-5) = (limG, 529, 0) := by decide +kernel
/-- what Bytes refuses -/
def limB : List Pkt := [{ zeroP with op := 256 }, { zeroP with op := -1 }, { zeroP with status := 1 }, { zeroP with reply := true, status := 65536 }, { zeroP with reply := true, status := -1 }, { zeroP with opq := 4294967296 },
  { zeroP with ex := limZ }, { zeroP with key := limZ.take 251 }, { zeroP with large := true }]
theorem limB_bad : ∀ p ∈ limB, okP p = false := by decide +kernel
theorem limB_small : ∀ p ∈ limB, p.body ≤ 1099511627776 ∧ p.token < 18446744073709551616 := by decide +kernel
def limH : List (List UInt8) := [[0x82], [0], [0x80, 0, 0, 0xfb], [0x81, 0, 1, 0], [0x80, 0, 0, 0, 0, 1], [0x80, 0, 0, 0, 0, 0, 1], [0x80, 0, 0, 0, 0, 0, 0, 1], [0x80, 0, 0, 1, 0, 0, 0, 0, 0, 0, 0, 0], [0x81, 0, 0, 0, 1, 0, 0, 0, 0, 0, 0, 0], [0x81, 0, 0, 0, 0, 0, 9, 9, 0x80, 0, 0, 0]]
theorem limH_1 : ∀ h ∈ limH, 0 < h.length ∧ h.length ≤ 12 ∧ readP h 9 = (zeroP, 0, 7) ∧ readP (h.take (h.length - 1)) 9 = (zeroP, 0, 0) := by decide +kernel
instance : DecidableEq FSt := fun a b => decidable_of_iff (a.kept = b.kept ∧ a.passed = b.passed ∧ a.broken = b.broken) ⟨fun ⟨h1, h2, h3⟩ => by cases a; cases b; simp_all, fun h => by subst h; exact ⟨rfl, rfl, rfl⟩⟩
theorem limH_2 : ∀ h ∈ limH, stepM 9 FSt.start (h.take (h.length - 1)) = ([], ⟨h.take (h.length - 1), 0, false⟩) ∧ stepM 9 ⟨h.take (h.length - 1), 0, false⟩ (h.drop (h.length - 1)) = ([], ⟨[], 0, true⟩) := by decide +kernel
theorem limH_3 : ∀ h ∈ limH, FSt.Ok 9 ⟨h.take (h.length - 1), 0, false⟩ := by
  intro h hh
  have h1 := (limH_1 h hh).2.2.2
  have hl := (limH_1 h hh).2.1
  have hb : badB (h.take (h.length - 1)) = false := by
    cases q : badB (h.take (h.length - 1)) with
    | false => rfl
    | true => unfold readP at h1; rw [q] at h1; simp at h1
  show FInv 9 (h.take (h.length - 1)) 0
  have hw : wantsM 9 (h.take (h.length - 1)) = (24, 0) := by unfold wantsM; rw [if_pos (by simp; omega)]
  exact ⟨hb, by rw [hw]; simp; omega, fun _ => rfl, fun q => by rw [hw] at q; simp at q; omega⟩
def limHc (bs : List Nat) : List Value := (limH.zip bs).map fun p => .slice (some ⟨p.2, 0, none⟩) p.1.length p.1.length
def limHo (bs : List Nat) : List HProp := (limH.zip bs).map fun p => pts p.2 5 (bcells p.1)
def ad0 : Ad := ⟨none, 0, none, 0⟩
def limL (b : Nat) : List (Pkt × Ad) := [({ zeroP with op := 256 }, ad0), ({ zeroP with op := -1 }, ad0), ({ zeroP with status := 1 }, ad0), ({ zeroP with reply := true, status := 65536 }, ad0), ({ zeroP with reply := true, status := -1 }, ad0), ({ zeroP with opq := 4294967296 }, ad0),
  ({ zeroP with ex := limZ }, ⟨some ⟨b, 0, none⟩, 256, none, 0⟩), ({ zeroP with key := limZ.take 251 }, ad0), ({ zeroP with large := true }, ad0)]
theorem limL_in (b : Nat) : ∀ p ∈ limL b, p.1 ∈ limB := by
  intro p hp
  have : p.1 ∈ (limL b).map Prod.fst := List.mem_map_of_mem hp
  exact this
theorem limL_rdl (b : Nat) (h : Hp) (r : Rdl h (some ⟨b, 0, none⟩) (bcells limZ)) : ∀ p ∈ limL b, Rdl h p.2.ae (bcells p.1.ex) ∧ Rdl h p.2.av (bcells p.1.val) := by
  intro p hp
  simp only [limL, List.mem_cons, List.not_mem_nil, or_false] at hp
  rcases hp with rfl | rfl | rfl | rfl | rfl | rfl | rfl | rfl | rfl
  all_goals first | exact ⟨Rdl.nil, Rdl.nil⟩ | exact ⟨r, Rdl.nil⟩
theorem lim_badc (b : Nat) (p : Pkt × Ad) (hp : p ∈ limL b) : FnS Try.prog 15 [.agg (pktCells p.1 p.2.ae p.2.ce p.2.av p.2.cv).toArray] (fun h => Rdl h p.2.ae (bcells p.1.ex) ∧ Rdl h p.2.av (bcells p.1.val)) []
    (fun v H => v = .tuple #[.slice none 0 0, .int .i64 7] ∧ H = []) :=
  (bytes_fn p.1 _ _ _ _ (limB_small _ (limL_in b p hp)).1 (limB_small _ (limL_in b p hp)).2).imp (fun _ q => q) fun v H r => by
    rcases r with ⟨q, _⟩ | ⟨_, rfl, rfl⟩
    · rw [limB_bad _ (limL_in b p hp)] at q; cases q
    · exact ⟨rfl, rfl⟩
theorem lim_r1 (l : List UInt8) (hl : l ∈ limH) (a : Option Addr) (c : Nat) (hc : l.length ≤ c) : FnS Try.prog 23 [.slice a l.length c, .int .i64 9] (fun h => Rdl h a (bcells l)) []
    (fun v H => ∃ ae ce av cv, v = .tuple #[.agg (pktCells zeroP ae ce av cv).toArray, .int .i64 0, .int .i64 7] ∧ H = [own ae ce 5 1 (bcells []), own av cv 5 1 (bcells [])]) :=
  (read_fn l a l.length c 9 rfl hc (by have := (limH_1 l hl).2.1; omega) (by decide) (by decide)).imp (fun _ p => p) fun v H r => by
    rw [(limH_1 l hl).2.2.1] at r; exact r
theorem lim_r2 (l : List UInt8) (hl : l ∈ limH) (a : Option Addr) (c : Nat) (hc : l.length - 1 ≤ c) : FnS Try.prog 23 [.slice a (l.length - 1) c, .int .i64 9] (fun h => Rdl h a (bcells (l.take (l.length - 1)))) []
    (fun v H => ∃ ae ce av cv, v = .tuple #[.agg (pktCells zeroP ae ce av cv).toArray, .int .i64 0, .int .i64 0] ∧ H = [own ae ce 5 1 (bcells []), own av cv 5 1 (bcells [])]) :=
  (read_fn (l.take (l.length - 1)) a (l.length - 1) c 9 (by simp) hc (by have := (limH_1 l hl).2.1; simp; omega) (by decide) (by decide)).imp (fun _ p => p) fun v H r => by
    rw [(limH_1 l hl).2.2.2] at r; exact r
theorem lim_f1 (l : List UInt8) (hl : l ∈ limH) (bf : Nat) (a : Option Addr) (c : Nat) (hc : l.length - 1 ≤ c) : FnS Try.prog 31 [.pointer (some ⟨bf, 0, none⟩), .slice a (l.length - 1) c] (fun h => Rdl h a (bcells (l.take (l.length - 1))))
    [pts bf 95 (fdCells 9 none 0 0 0 false 0), own none 0 5 1 (bcells [])]
    (fun v H => ∃ ak ck ao co, v = .slice ao 0 co ∧ l.length - 1 ≤ ck ∧ H = [pts bf 95 (fdCells 9 ak (l.length - 1) ck 0 false (l.length - 1)), own ak ck 5 1 (bcells (l.take (l.length - 1))), own ao co 39 9 [], stars []]) :=
  (feed_any bf 9 0 0 FSt.start none a (l.length - 1) c (l.take (l.length - 1)) (by simp) hc (Nat.le_refl _) (FSt.ok_start 9) (by decide) (by have := (limH_1 l hl).2.1; simp [FSt.start]; omega) (by decide)).imp (fun _ p => p) fun v H r => by
    rw [(limH_2 l hl).1] at r
    obtain ⟨ak, ck, ao, co, l', rfl, h1, h2, rfl⟩ := r
    obtain rfl := List.map_eq_nil_iff.1 h1
    have e : (l.take (l.length - 1)).length = l.length - 1 := by simp
    simp only [e] at h2 ⊢
    exact ⟨ak, ck, ao, co, rfl, h2, by rw [Nat.zero_add]; rfl⟩
theorem lim_f2 (l : List UInt8) (hl : l ∈ limH) (bf : Nat) (a ak : Option Addr) (c ck : Nat) (hc : 1 ≤ c) (hk : l.length - 1 ≤ ck) : FnS Try.prog 31 [.pointer (some ⟨bf, 0, none⟩), .slice a 1 c] (fun h => Rdl h a (bcells (l.drop (l.length - 1))))
    [pts bf 95 (fdCells 9 ak (l.length - 1) ck 0 false (l.length - 1)), own ak ck 5 1 (bcells (l.take (l.length - 1)))]
    (fun v H => ∃ ak ck ao co, v = .slice ao 0 co ∧ H = [pts bf 95 (fdCells 9 ak 0 ck 0 true l.length), own ak ck 5 1 (bcells []), own ao co 39 9 [], stars []]) := by
  obtain ⟨q1, q2, q3, q4⟩ := limH_1 l hl
  have e : (l.take (l.length - 1)).length = l.length - 1 := by simp
  have ok : FSt.Ok 9 ⟨l.take (l.length - 1), 0, false⟩ := limH_3 l hl
  have h := feed_any bf 9 (l.length - 1) ck ⟨l.take (l.length - 1), 0, false⟩ ak a 1 c (l.drop (l.length - 1)) (by simp; omega) hc (by rw [e]; exact hk) ok (by decide) (by simp; omega) (by omega)
  simp only [e] at h
  refine h.imp (fun _ p => p) fun v H r => ?_
  rw [(limH_2 l hl).2] at r
  obtain ⟨ak, ck, ao, co, l', rfl, h1, h2, rfl⟩ := r
  obtain rfl := List.map_eq_nil_iff.1 h1
  exact ⟨ak, ck, ao, co, rfl, by rw [show l.length - 1 + 1 = l.length from by omega]; rfl⟩
theorem cutT {h : Hp} {a : Option Addr} {l : List UInt8} (r : Rdl h a (bcells l)) (i m : Nat) (hm : m = i → l.length ≤ i) : Rdl h (cutA a i m (i * 1)) (bcells (l.drop i)) := by
  have := cut2 r i m (l.length - i) (fun e => by have := hm e; omega)
  rwa [List.take_of_length_le (by simp)] at this
def limMost : List UInt8 := [0x81, 0, 0, 0, 0, 0, 0, 0, 0x7f, 0xff, 0xff, 0xff]
theorem limMost_read : readP limMost 9 = (zeroP, 0, 0) := by decide +kernel
theorem lim_m (a : Option Addr) : FnS Try.prog 23 [.slice a 12 12, .int .i64 9] (fun h => Rdl h a (bcells limMost)) []
    (fun v H => ∃ ae ce av cv, v = .tuple #[.agg (pktCells zeroP ae ce av cv).toArray, .int .i64 0, .int .i64 0] ∧ H = [own ae ce 5 1 (bcells []), own av cv 5 1 (bcells [])]) :=
  (read_fn limMost a 12 12 9 rfl (Nat.le_refl _) (by decide) (by decide) (by decide)).imp (fun _ p => p) fun v H r => by
    rw [limMost_read] at r; exact r
end Go.Proofs.Ytggmpaggmkfmoaa

