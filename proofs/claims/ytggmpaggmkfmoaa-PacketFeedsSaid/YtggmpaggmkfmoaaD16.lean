/- Packets, the reference: a Feeder that was fed so much; alike. -/
import Derived.Test.YtggmpaggmkfmoaaD15
set_option maxRecDepth 100000
namespace Go.Proofs.Ytggmpaggmkfmoaa
open Go Go.Eng

def RfI (limit : Nat) (S V : List UInt8) : Bool → Prop
  | true => V = [] ∧ (PS limit S).2 = ⟨[], 0, true⟩ ∧ ∀ c, PS limit (S ++ c) = PS limit S
  | false => badB V = false ∧ Short V ∧ V.length ≤ S.length ∧ (PS limit S).2 = restS limit V ∧ ∀ c, PS limit (S ++ c) = ((PS limit S).1 ++ (PS limit (V ++ c)).1, (PS limit (V ++ c)).2)
theorem RfI.start (limit : Nat) : RfI limit [] [] false := by
  refine ⟨by decide, .inl (by simp), Nat.le_refl _, by rw [PS_nil, restS_nil], fun c => ?_⟩
  rw [PS_nil]; simp
theorem RfI.len {limit : Nat} {S V : List UInt8} {br : Bool} (r : RfI limit S V br) : V.length ≤ S.length := by
  cases br with
  | true => rw [r.1]; simp
  | false => exact r.2.2.1
theorem RfI.broken {limit : Nat} {S V : List UInt8} {br : Bool} (r : RfI limit S V br) : (PS limit S).2.broken = br := by
  cases br with
  | true => rw [r.2.1]
  | false => rw [r.2.2.2.1]; rfl
theorem RfI.held {limit : Nat} {S V : List UInt8} {br : Bool} (r : RfI limit S V br) : (PS limit S).2.kept.length = heldN limit V := by
  cases br with
  | true => rw [r.2.1, r.1]; simp [heldN]
  | false =>
    obtain ⟨hb, hs, _, h4, _⟩ := r
    rw [h4]
    simp only [restS, List.length_take]
    unfold Short at hs
    unfold heldN wantsM
    by_cases h24 : V.length < 24
    · rw [if_pos h24, if_neg (by omega)]
      simp only; omega
    · rw [if_neg h24]
      by_cases hl : (limit : Int) < (wholeN V : Int) - frontN V
      · rw [if_pos hl]
        simp only
        split <;> omega
      · rw [if_neg hl, if_neg (by omega)]
        simp only; omega
theorem RfI.bad {limit : Nat} {S V U chunk : List UInt8} {o : List Pkt} (r : RfI limit S V false) (q : Rel limit (V ++ chunk) U o) (hb : badB U = true) : RfI limit (S ++ chunk) [] true ∧ (PS limit S).1 ++ o = (PS limit (S ++ chunk)).1 := by
  obtain ⟨_, _, _, _, h5⟩ := r
  have hu : ∀ c, PS limit (S ++ chunk ++ c) = ((PS limit S).1 ++ o, ⟨[], 0, true⟩) := fun c => by
    rw [List.append_assoc, h5, ← List.append_assoc, q.2 c, PS_bad (badB_pre hb)]; simp
  have h0 := hu []
  rw [List.append_nil] at h0
  refine ⟨⟨rfl, by rw [h0], fun c => by rw [hu, h0]⟩, by rw [h0]⟩
theorem RfI.on {limit : Nat} {S V U chunk : List UInt8} {o : List Pkt} (r : RfI limit S V false) (q : Rel limit (V ++ chunk) U o) (hb : badB U = false) (hs : Short U) : RfI limit (S ++ chunk) U false ∧ (PS limit S).1 ++ o = (PS limit (S ++ chunk)).1 := by
  obtain ⟨_, _, h3, _, h5⟩ := r
  have hu : ∀ c, PS limit (S ++ chunk ++ c) = ((PS limit S).1 ++ (o ++ (PS limit (U ++ c)).1), (PS limit (U ++ c)).2) := fun c => by
    rw [List.append_assoc, h5, ← List.append_assoc, q.2 c]
  have h0 := hu []
  rw [List.append_nil, List.append_nil, PS_short hb hs] at h0
  simp only [List.append_nil] at h0
  have hl := q.1
  refine ⟨⟨hb, hs, by simp at hl ⊢; omega, by rw [h0], fun c => by rw [hu, h0]; simp⟩, by rw [h0]⟩
theorem rfeed_broken (b : Nat) (limit : Int) (a : Option Addr) (n c taken : Nat) (x : Option Addr) (m xc : Nat) (X : HProp) (hB : m ≤ 1099511627776) (hT : taken ≤ 1099511627776) :
    FnS Try.prog 32 [.pointer (some ⟨b, 0, none⟩), .slice x m xc] (fun _ => True) [pts b 97 (rfC limit a n c taken true), X]
      (fun v H => v = .slice none 0 0 ∧ H = [pts b 97 (rfC limit a n c (taken + m) true), X, own none 0 39 9 [], stars []]) := by
  refine fn_body Try.func32 rfl Try.ntmps32 rfl ?_
  intro F hF
  simp only [rfC]
  refine g_sr ?_
  refine Li As ?_
  refine g_ne ?_
  refine g_sr ?_
  refine Li Mv ?_
  refine Li Mv ?_
  refine Li Nc ?_
  refine Li (Fa T.fld_97_2) ?_
  refine Lp (oL T.sc_3 ?_)
  refine Li Mv ?_
  refine Li (Ln T.sl_37) ?_
  refine Li Im ?_
  refine Li Nc ?_
  refine Li (Fa T.fld_97_2) ?_
  refine Lp (oS T.sc_3 ?_)
  refine g_ne ?_
  refine g_seq ?_
  refine g_sr ?_
  refine Li Mv ?_
  refine Li Nc ?_
  refine Li (Fa T.fld_97_3) ?_
  refine Lp (oL T.sc_4 ?_)
  refine g_ne ?_
  rw [show (taken : Int) + (m : Int) = ((taken + m : Nat) : Int) from by omega]
  refine g_heap (fun _ s => starL_nil_stars s) ?_
  refine g_nilrow 39 9 ?_
  refine g_cond_t rfl (by rfl) ?_
  refine g_sr ?_
  refine Li As ?_
  refine g_ne ?_
  refine g_ret ?_
  refine e_then_ret ?_
  refine Rt [pts b 97 [.int .i64 limit, .slice a n c, .int .i64 ((taken + m : Nat) : Int), .bool true], X, own none 0 39 9 [], stars []] Try.results32 ?_
  exact ⟨rfl, rfl⟩
theorem rfeedF (b : Nat) (limit : Int) (a : Option Addr) (c : Nat) (S V : List UInt8) (br : Bool) (x : Option Addr) (m xc : Nat) (chunk : List UInt8) (hm : m = chunk.length) (hc : V.length ≤ c) (hI : RfI limit.toNat S V br) (hB : S.length + chunk.length ≤ 1099511627776)
    (q1 : -9223372036854775808 ≤ limit) (q2 : limit ≤ 9223372036854775807) :
    FnS Try.prog 32 [.pointer (some ⟨b, 0, none⟩), .slice x m xc] (fun h => Rdl h x (bcells chunk)) [pts b 97 (rfC limit a V.length c S.length br), rdB a V]
      (fun v H => ∃ ao co l a' c' V' br', v = .slice ao l.length co ∧ V'.length ≤ c' ∧ RfI limit.toNat (S ++ chunk) V' br' ∧ (PS limit.toNat S).1 ++ l.map Prod.fst = (PS limit.toNat (S ++ chunk)).1 ∧
        H = [pts b 97 (rfC limit a' V'.length c' (S ++ chunk).length br'), rdB a' V', own ao co 39 9 (pktsCells l), stars (pktOwns l)]) := by
  have hl := hI.len
  subst hm
  cases br with
  | true =>
    refine ((rfeed_broken b limit a V.length c S.length x chunk.length xc (rdB a V) (by omega) (by omega)).imp (fun _ _ => trivial) fun v H r => r).out fun v H' r => ?_
    obtain ⟨rfl, rfl⟩ := r
    refine ⟨_, ⟨none, 0, [], a, c, V, true, rfl, hc, ⟨hI.1, by rw [hI.2.2]; exact hI.2.1, fun d => by rw [List.append_assoc, hI.2.2, hI.2.2]⟩, by rw [hI.2.2]; simp, rfl⟩, fun k s => ?_⟩
    rw [List.length_append]
    exact s
  | false =>
    refine (rfeed_fn b limit a c S.length V x chunk.length xc chunk rfl hc (by omega) (by omega) q1 q2).out fun v H' r => ?_
    obtain ⟨ao, co, l, a', c', U, rfl, huc, hrel, ⟨hb, rfl⟩ | ⟨⟨hb, hs⟩, rfl⟩⟩ := r
    · obtain ⟨i1, i2⟩ := hI.bad hrel hb
      refine ⟨_, ⟨ao, co, l, none, 0, [], true, rfl, Nat.le_refl _, i1, i2, rfl⟩, fun k s => ?_⟩
      rw [List.length_append]
      exact starL_tail (fun _ s => starL_cons_mono (fun k p => rdB_of (c := 0) k p) (starL_own_nil 5 1 s)) s
    · obtain ⟨i1, i2⟩ := hI.on hrel hb hs
      refine ⟨_, ⟨ao, co, l, a', c', U, false, rfl, huc, i1, i2, rfl⟩, fun k s => ?_⟩
      rw [List.length_append]
      exact s
theorem alike_fn (bf b : Nat) (limit : Int) (a : Option Addr) (c : Nat) (S V : List UInt8) (br : Bool) (hc : V.length ≤ c) (hI : RfI limit.toNat S V br) (hB : S.length ≤ 1099511627776) (q1 : -9223372036854775808 ≤ limit) (q2 : limit ≤ 9223372036854775807) :
    FnS Try.prog 29 [.pointer (some ⟨bf, 0, none⟩), .pointer (some ⟨b, 0, none⟩)] (fun h => (∃ k, Fd bf limit.toNat S k ∧ Le k h) ∧ (∃ k, pts b 97 (rfC limit a V.length c S.length br) k ∧ Le k h) ∧ Rdl h a (bcells V)) []
      (fun v H => v = .bool true ∧ H = []) := by
  refine fn_body Try.func29 rfl Try.ntmps29 rfl ?_
  rintro F ⟨hF, hP, hR⟩
  have hl := hI.len
  have e1 := hI.held
  have e2 := hI.broken
  refine g_sr ?_
  refine Li As ?_
  refine g_ne ?_
  refine g_sr ?_
  refine Li Mv ?_
  refine Lp (oC T.fn_37 rfl rfl (heldF bf limit.toNat S) .nil (fun _ le _ => in_mono hF le) ?_)
  rintro v H' ⟨rfl, rfl⟩
  try simp only [nap, cap]
  rw [e1]
  refine Li Mv ?_
  refine Lp (oC T.fn_64 rfl rfl (rheld_fn b limit a c S.length br V hc (by omega) q1 q2) .nil (fun _ le _ => ⟨in_mono hP le, hR.mono le⟩) ?_)
  rintro v H' ⟨rfl, rfl⟩
  try simp only [nap, cap]
  refine Li Cm ?_
  refine Li Mv ?_
  refine g_slot (t := 10) (v' := .bool true) rfl (congrArg Value.bool (by simp)) ?_
  refine Li Mv ?_
  refine Lp (oC T.fn_38 rfl rfl (brokenF bf limit.toNat S) .nil (fun _ le _ => in_mono hF le) ?_)
  rintro v H' ⟨rfl, rfl⟩
  try simp only [nap, cap]
  rw [e2]
  refine Li Mv ?_
  refine Lp (oC T.fn_65 rfl rfl (rbroken_fn b limit a V.length c S.length br) .nil (fun _ le _ => in_mono hP le) ?_)
  rintro v H' ⟨rfl, rfl⟩
  try simp only [nap, cap]
  refine Li (Bq T.u_4) ?_
  refine Li Pt ?_
  refine Li Mv ?_
  refine g_slot (t := 17) (v' := .bool true) rfl (congrArg Value.bool (by simp)) ?_
  refine Li Mv ?_
  refine Lp (oC T.fn_39 rfl rfl (takenF bf limit.toNat S) .nil (fun _ le _ => in_mono hF le) ?_)
  rintro v H' ⟨rfl, rfl⟩
  try simp only [nap, cap]
  refine Li Mv ?_
  refine Lp (oC T.fn_66 rfl rfl (rtaken_fn b limit a V.length c S.length br) .nil (fun _ le _ => in_mono hP le) ?_)
  rintro v H' ⟨rfl, rfl⟩
  try simp only [nap, cap]
  refine Li Cm ?_
  refine Li Pt ?_
  refine Li As ?_
  refine g_ne ?_
  refine g_ret ?_
  refine Rt [] Try.results29 ?_
  exact ⟨by simp, rfl⟩
end Go.Proofs.Ytggmpaggmkfmoaa

