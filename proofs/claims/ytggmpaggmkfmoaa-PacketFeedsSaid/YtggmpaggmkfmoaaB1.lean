/- Packets, plainly: what a stream of bytes is, however it is cut. -/
import Derived.Test.YtggmpaggmkfmoaaA11
set_option maxRecDepth 100000
namespace Go.Proofs.Ytggmpaggmkfmoaa
open Go Go.Eng

theorem badB_take (l : List UInt8) (n : Nat) (h : 12 ≤ n) : badB (l.take n) = badB l := by
  have hl : ∀ k, k < 12 → (decide (k < (l.take n).length) = decide (k < l.length)) := by
    intro k hk; rw [Bool.eq_iff_iff]; simp; omega
  unfold badB
  rw [hl 0 (by omega), hl 3 (by omega), hl 5 (by omega), hl 6 (by omega), hl 7 (by omega), hl 11 (by omega), byt_take l n 0 (by omega), byt_take l n 4 (by omega), byt_take l n 5 (by omega),
    byt_take l n 6 (by omega), byt_take l n 7 (by omega), n2_take l n 2 (by omega), n4_take l n 8 (by omega)]
theorem badB_mono (l : List UInt8) (n : Nat) (h : badB (l.take n) = true) : badB l = true := by
  have e0 : 0 < n → byt (l.take n) 0 = byt l 0 := fun h => byt_take l n 0 h
  have e4 : 4 < n → byt (l.take n) 4 = byt l 4 := fun h => byt_take l n 4 h
  have e5 : 5 < n → byt (l.take n) 5 = byt l 5 := fun h => byt_take l n 5 h
  have e6 : 6 < n → byt (l.take n) 6 = byt l 6 := fun h => byt_take l n 6 h
  have e7 : 7 < n → byt (l.take n) 7 = byt l 7 := fun h => byt_take l n 7 h
  have e2 : 4 ≤ n → n2 (l.take n) 2 = n2 l 2 := fun h => n2_take l n 2 h
  have e8 : 12 ≤ n → n4 (l.take n) 8 = n4 l 8 := fun h => n4_take l n 8 h
  simp only [badB, Bool.or_eq_true, Bool.and_eq_true, decide_eq_true_eq, Bool.not_eq_true', decide_eq_false_iff_not, List.length_take] at h ⊢
  generalize byt (l.take n) 0 = x0 at *
  generalize byt (l.take n) 4 = x4 at *
  generalize byt (l.take n) 5 = x5 at *
  generalize byt (l.take n) 6 = x6 at *
  generalize byt (l.take n) 7 = x7 at *
  generalize n2 (l.take n) 2 = x2 at *
  generalize n4 (l.take n) 8 = x8 at *
  rcases h with ((((h | h) | h) | h) | h) | h
  · have := e0 (by omega); exact .inl (.inl (.inl (.inl (.inl (by omega)))))
  · have := e2 (by omega); exact .inl (.inl (.inl (.inl (.inr (by omega)))))
  · have := e5 (by omega); exact .inl (.inl (.inl (.inr (by omega))))
  · have := e6 (by omega); have := e0 (by omega); exact .inl (.inl (.inr (by omega)))
  · have := e7 (by omega); have := e0 (by omega); exact .inl (.inr (by omega))
  · have := e8 (by omega); have := e4 (by omega); have := e2 (by omega); exact .inr (by omega)
theorem badB_pre {l m : List UInt8} (h : badB l = true) : badB (l ++ m) = true := by
  refine badB_mono (l ++ m) l.length ?_
  simpa using h
theorem good_pre {l m : List UInt8} (h : badB (l ++ m) = false) : badB l = false := by
  cases hb : badB l with
  | false => rfl
  | true => rw [badB_pre hb] at h; cases h
theorem wholeN_ge (l : List UInt8) : 24 ≤ wholeN l := by unfold wholeN; omega
theorem wants_take (limit : Nat) (l : List UInt8) (n : Nat) (h : 24 ≤ n) : wantsM limit (l.take n) = wantsM limit l := by
  unfold wantsM
  rw [frontN_take l n h, wholeN_take l n h]
  by_cases hl : l.length < 24
  · rw [if_pos (by simp; omega), if_pos hl]
  · rw [if_neg (by simp; omega), if_neg hl]

def restS (limit : Nat) (V : List UInt8) : FSt := ⟨V.take (wantsM limit V).1, V.length - (wantsM limit V).1, false⟩
def Short (V : List UInt8) : Prop := V.length < 24 ∨ V.length < wholeN V
instance (V : List UInt8) : Decidable (Short V) := inferInstanceAs (Decidable (_ ∨ _))
def parse (limit : Nat) : Nat → List UInt8 → List Pkt × FSt
  | 0, V => ([], restS limit V)
  | fuel + 1, V =>
    if badB V then ([], ⟨[], 0, true⟩)
    else if Short V then ([], restS limit V)
    else ((readP V limit).1 :: (parse limit fuel (V.drop (wholeN V))).1, (parse limit fuel (V.drop (wholeN V))).2)
theorem parse_fuel (limit : Nat) : ∀ (f g : Nat) (V : List UInt8), V.length < f → V.length < g → parse limit f V = parse limit g V := by
  intro f
  induction f with
  | zero => intro g V h; omega
  | succ f ih =>
    intro g V h1 h2
    cases g with
    | zero => omega
    | succ g =>
      simp only [parse]
      split
      · rfl
      · split
        · rfl
        · rename_i hb hs
          have := wholeN_ge V
          have hs' : 24 ≤ V.length := by unfold Short at hs; omega
          rw [ih g (V.drop (wholeN V)) (by simp; omega) (by simp; omega)]
def PS (limit : Nat) (V : List UInt8) : List Pkt × FSt := parse limit (V.length + 1) V
theorem PS_eq (limit : Nat) (V : List UInt8) : PS limit V = if badB V then ([], ⟨[], 0, true⟩) else if Short V then ([], restS limit V)
    else ((readP V limit).1 :: (PS limit (V.drop (wholeN V))).1, (PS limit (V.drop (wholeN V))).2) := by
  unfold PS
  rw [parse]
  split
  · rfl
  · split
    · rfl
    · rename_i hb hs
      have := wholeN_ge V
      have hs' : 24 ≤ V.length := by unfold Short at hs; omega
      rw [parse_fuel limit V.length ((V.drop (wholeN V)).length + 1) (V.drop (wholeN V)) (by simp; omega) (by omega)]
theorem PS_bad {limit : Nat} {V : List UInt8} (h : badB V = true) : PS limit V = ([], ⟨[], 0, true⟩) := by rw [PS_eq, if_pos h]
theorem PS_short {limit : Nat} {V : List UInt8} (h : badB V = false) (hs : Short V) : PS limit V = ([], restS limit V) := by rw [PS_eq, if_neg (by simp [h]), if_pos hs]
theorem PS_more {limit : Nat} {V : List UInt8} (h : badB V = false) (hs : ¬ Short V) : PS limit V = ((readP V limit).1 :: (PS limit (V.drop (wholeN V))).1, (PS limit (V.drop (wholeN V))).2) := by
  rw [PS_eq, if_neg (by simp [h]), if_neg hs]
theorem restS_nil (limit : Nat) : restS limit [] = FSt.start := by simp [restS, wantsM, FSt.start]
theorem PS_nil (limit : Nat) : PS limit [] = ([], FSt.start) := by
  rw [PS_short (by decide) (.inl (by simp)), restS_nil]
def out4 (r : List Pkt × FSt) : List Pkt × List UInt8 × Nat × Bool := (r.1, r.2.kept, r.2.passed, r.2.broken)

theorem ps_tail (limit fuel : Nat) (S : List UInt8) (p : Nat) (h24 : 24 ≤ S.length) (hb : badB S = false) (hp : p ≤ (wantsM limit S).2) (hpl : (wantsM limit S).1 + p ≤ S.length)
    (hf : wholeN S ≤ S.length → S.length - wholeN S < fuel) (ih : ∀ c : List UInt8, c.length < fuel → feedM limit fuel [] 0 c = out4 (PS limit c)) :
    (if p + min ((wantsM limit S).2 - p) (S.drop ((wantsM limit S).1 + p)).length < (wantsM limit S).2 then (([], S.take (wantsM limit S).1, p + min ((wantsM limit S).2 - p) (S.drop ((wantsM limit S).1 + p)).length, false) : List Pkt × List UInt8 × Nat × Bool)
     else if (S.drop ((wantsM limit S).1 + p)).drop (min ((wantsM limit S).2 - p) (S.drop ((wantsM limit S).1 + p)).length) = [] then ([decP (S.take (wantsM limit S).1) (decide (0 < (wantsM limit S).2))], [], 0, false)
     else (decP (S.take (wantsM limit S).1) (decide (0 < (wantsM limit S).2)) :: (feedM limit fuel [] 0 ((S.drop ((wantsM limit S).1 + p)).drop (min ((wantsM limit S).2 - p) (S.drop ((wantsM limit S).1 + p)).length))).1,
       (feedM limit fuel [] 0 ((S.drop ((wantsM limit S).1 + p)).drop (min ((wantsM limit S).2 - p) (S.drop ((wantsM limit S).1 + p)).length))).2)) = out4 (PS limit S) := by
  have hW : (wantsM limit S).1 + (wantsM limit S).2 = wholeN S ∧ 24 ≤ (wantsM limit S).1 ∧ (wholeN S ≤ S.length → decP (S.take (wantsM limit S).1) (decide (0 < (wantsM limit S).2)) = (readP S limit).1) := by
    have hfr : frontN S = 24 + byt S 4 + n2 S 2 := rfl
    have hr : wholeN S ≤ S.length → readP S limit = (decP S (decide (max (limit : Int) 0 < (wholeN S : Int) - frontN S)), wholeN S, 0) := fun hw => by
      unfold readP; rw [hb, if_neg (by simp), if_neg (by omega)]
    rcases wants_full (limit := limit) h24 hb with ⟨e, h1, h2⟩ | ⟨e, h1, h2⟩
    · rw [e]
      refine ⟨by simp only; omega, by simp only; omega, fun hw => ?_⟩
      rw [hr hw]
      simp only
      rw [show decide (0 < wholeN S - frontN S) = true from by simpa using h1, show decide (max (limit : Int) 0 < (wholeN S : Int) - frontN S) = true from by simp; omega]
      exact decP_take S _ true (by omega) (by omega) (by simp)
    · rw [e]
      refine ⟨by simp only; omega, by simp only; exact wholeN_ge S, fun hw => ?_⟩
      rw [hr hw]
      simp only
      rw [show decide (0 < 0) = false from rfl, show decide (max (limit : Int) 0 < (wholeN S : Int) - frontN S) = false from by simp; omega]
      exact decP_take S _ false (wholeN_ge S) (by omega) (fun _ => Nat.le_refl _)
  obtain ⟨w1, w2, w3⟩ := hW
  generalize hkp : wantsM limit S = kp at *
  by_cases hw : S.length < wholeN S
  · have hn : min (kp.2 - p) (S.drop (kp.1 + p)).length = S.length - kp.1 - p := by rw [List.length_drop]; omega
    rw [hn, if_pos (by omega), PS_short hb (.inr hw), show p + (S.length - kp.1 - p) = S.length - kp.1 from by omega]
    simp [out4, restS, hkp]
  · have hn : min (kp.2 - p) (S.drop (kp.1 + p)).length = kp.2 - p := by rw [List.length_drop]; omega
    rw [hn, if_neg (by omega), w3 (by omega), PS_more hb (by unfold Short; omega), List.drop_drop, show kp.1 + p + (kp.2 - p) = wholeN S from by omega]
    split
    · rename_i he; rw [he, PS_nil]; rfl
    · rw [ih _ (by have := hf (by omega); simp; omega)]; rfl

theorem feedM_ps (limit : Nat) : ∀ (fuel : Nat) (V chunk : List UInt8), badB V = false → Short V → chunk.length < fuel →
    feedM limit fuel (restS limit V).kept (restS limit V).passed chunk = out4 (PS limit (V ++ chunk)) := by
  intro fuel
  induction fuel with
  | zero => intro V chunk _ _ h; omega
  | succ fuel ih =>
    intro V chunk hbV hsV hf
    have ih0 : ∀ c : List UInt8, c.length < fuel → feedM limit fuel [] 0 c = out4 (PS limit c) := fun c hc => by
      have := ih [] c (by decide) (.inl (by simp)) hc
      rw [restS_nil] at this
      exact this
    by_cases h24 : V.length < 24
    · have hwV : wantsM limit V = (24, 0) := by unfold wantsM; rw [if_pos h24]
      have hrest : restS limit V = ⟨V, 0, false⟩ := by
        simp only [restS, hwV]
        rw [List.take_of_length_le (by omega), show V.length - 24 = 0 from by omega]
      rw [hrest]
      simp only [feedM, hwV]
      have hk1 : V ++ chunk.take (min (24 - V.length) chunk.length) = (V ++ chunk).take 24 := by
        rw [List.take_append, List.take_of_length_le (show V.length ≤ _ by omega)]
        congr 1
        rw [← List.take_take]; simp
      have hc1 : chunk.drop (min (24 - V.length) chunk.length) = (V ++ chunk).drop 24 := by
        rw [List.drop_append, List.drop_of_length_le (show V.length ≤ _ by omega), List.nil_append]
        rcases Nat.le_total (24 - V.length) chunk.length with q | q
        · rw [Nat.min_eq_left q]
        · rw [Nat.min_eq_right q, List.drop_of_length_le (by omega), List.drop_of_length_le (by omega)]
      rw [hk1, hc1]
      have hlS : (V ++ chunk).length = V.length + chunk.length := by simp
      generalize hS : V ++ chunk = S at *
      rw [badB_take S 24 (by omega)]
      cases hb : badB S with
      | true => rw [PS_bad hb]; simp [out4]
      | false =>
        simp only [Bool.false_eq_true, if_false]
        by_cases hl : S.length < 24
        · rw [if_pos (by simp; omega), PS_short hb (.inl hl)]
          simp only [out4, restS]
          rw [show wantsM limit S = (24, 0) from by unfold wantsM; rw [if_pos hl]]
          simp only [Prod.mk.injEq, true_and, and_true]; omega
        · rw [if_neg (by simp; omega), wants_take limit S 24 (by omega)]
          have hfr : frontN S = 24 + byt S 4 + n2 S 2 := rfl
          have hwf := wants_full (limit := limit) (l := S) (by omega) hb
          by_cases hne : wantsM limit S = (24, 0)
          · rw [if_neg (by simp [hne])]
            have := ps_tail limit fuel S 0 (by omega) hb (Nat.zero_le _) (by rw [hne]; simp only; omega) (fun _ => by have := wholeN_ge S; omega) ih0
            rw [hne] at this
            simpa using this
          · rw [if_pos hne]
            have hw24 : 24 < wholeN S := by
              rcases hwf with ⟨e, h1, h2⟩ | ⟨e, h1, h2⟩
              · omega
              · have := wholeN_ge S
                rcases Nat.lt_or_ge 24 (wholeN S) with q | q
                · exact q
                · exact absurd (by rw [e, show wholeN S = 24 from by omega]) hne
            have hge : 24 ≤ (wantsM limit S).1 := (wants_ge limit S).1
            have hlt : (S.take 24).length = 24 := by simp; omega
            have h := ih (S.take 24) (S.drop 24) (by rw [badB_take S 24 (by omega)]; exact hb) (.inr (by rw [wholeN_take S 24 (by omega), hlt]; exact hw24)) (by simp; omega)
            rw [List.take_append_drop] at h
            rw [← h]
            have hr : restS limit (S.take 24) = ⟨S.take 24, 0, false⟩ := by
              simp only [restS]
              rw [wants_take limit S 24 (by omega), List.take_of_length_le (by omega), hlt, show 24 - (wantsM limit S).1 = 0 from by omega]
            rw [hr]
    · have hVl : V.length < wholeN V := by unfold Short at hsV; omega
      have hwS : wantsM limit (V ++ chunk) = wantsM limit V := wants_append limit V chunk (by omega)
      have hge := (wants_ge limit V).1
      have hwk : wantsM limit (restS limit V).kept = wantsM limit V := wants_take limit V _ hge
      have hbS : badB (V ++ chunk) = false := by
        rw [← badB_take (V ++ chunk) V.length (by omega)]; simpa using hbV
      have hwf := wants_full (limit := limit) (l := V) (by omega) hbV
      have hlS : (V ++ chunk).length = V.length + chunk.length := by simp
      have hwhole : wholeN (V ++ chunk) = wholeN V := by
        have := wholeN_take (V ++ chunk) V.length (by omega)
        rw [← this]; simp
      have hsum : (wantsM limit V).1 + (wantsM limit V).2 = wholeN V := by
        rcases hwf with ⟨e, h1, h2⟩ | ⟨e, h1, h2⟩ <;> rw [e] <;> simp only <;> omega
      have hwk' : wantsM limit (V.take (wantsM limit V).1) = wantsM limit V := hwk
      show feedM limit (fuel + 1) (V.take (wantsM limit V).1) (V.length - (wantsM limit V).1) chunk = _
      rw [feedM]
      have hk1 : V.take (wantsM limit V).1 ++ chunk.take (min ((wantsM limit V).1 - (V.take (wantsM limit V).1).length) chunk.length) = (V ++ chunk).take (wantsM limit V).1 := by
        rw [List.take_append]
        congr 1
        rw [← List.take_take]
        rcases Nat.le_total V.length (wantsM limit V).1 with q | q
        · rw [List.length_take, Nat.min_eq_right q]; simp
        · rw [List.length_take, Nat.min_eq_left q]; simp [Nat.sub_eq_zero_of_le q]
      have hc1 : chunk.drop (min ((wantsM limit V).1 - (V.take (wantsM limit V).1).length) chunk.length) = (V ++ chunk).drop ((wantsM limit V).1 + (V.length - (wantsM limit V).1)) := by
        rw [List.drop_append, List.drop_of_length_le (show V.length ≤ _ by omega), List.nil_append, List.length_take]
        rcases Nat.le_total V.length (wantsM limit V).1 with q | q
        · rw [Nat.min_eq_right q]
          rcases Nat.le_total ((wantsM limit V).1 - V.length) chunk.length with q' | q'
          · rw [Nat.min_eq_left q']; congr 1; omega
          · rw [Nat.min_eq_right q', List.drop_of_length_le (by omega), List.drop_of_length_le (by omega)]
        · rw [Nat.min_eq_left q, Nat.sub_self, Nat.zero_min]; congr 1; omega
      simp only [hwk', hk1, hc1]
      generalize hS : V ++ chunk = S at *
      rw [badB_take S (wantsM limit V).1 (by omega), hbS]
      simp only [Bool.false_eq_true, if_false]
      by_cases hsh : S.length < (wantsM limit V).1
      · rw [if_pos (by simp; omega), PS_short hbS (.inr (by omega))]
        simp only [out4, restS, hwS, Prod.mk.injEq, true_and, and_true]
        omega
      · rw [if_neg (by simp; omega), wants_take limit S (wantsM limit V).1 hge, hwS, if_neg (by simp)]
        have := ps_tail limit fuel S (V.length - (wantsM limit V).1) (by omega) hbS (by rw [hwS]; omega) (by rw [hwS]; omega) (fun _ => by omega) ih0
        rw [hwS] at this
        exact this

/-- a stream's state, fed on -/
theorem PS_cases (limit : Nat) (S : List UInt8) : ((PS limit S).2 = ⟨[], 0, true⟩ ∧ ∀ c, PS limit (S ++ c) = PS limit S) ∨
    (∃ V, badB V = false ∧ Short V ∧ V.length ≤ S.length ∧ (PS limit S).2 = restS limit V ∧ ∀ c, PS limit (S ++ c) = ((PS limit S).1 ++ (PS limit (V ++ c)).1, (PS limit (V ++ c)).2)) := by
  have key : ∀ n (S : List UInt8), S.length = n → ((PS limit S).2 = ⟨[], 0, true⟩ ∧ ∀ c, PS limit (S ++ c) = PS limit S) ∨
    (∃ V, badB V = false ∧ Short V ∧ V.length ≤ S.length ∧ (PS limit S).2 = restS limit V ∧ ∀ c, PS limit (S ++ c) = ((PS limit S).1 ++ (PS limit (V ++ c)).1, (PS limit (V ++ c)).2)) := by
    intro n
    induction n using Nat.strongRecOn with
    | _ n ih =>
      intro S hn
      cases hb : badB S with
      | true => exact .inl ⟨by rw [PS_bad hb], fun c => by rw [PS_bad hb, PS_bad (badB_pre hb)]⟩
      | false =>
        by_cases hs : Short S
        · exact .inr ⟨S, hb, hs, Nat.le_refl _, by rw [PS_short hb hs], fun c => by rw [PS_short hb hs]; simp⟩
        · have hs' := hs
          unfold Short at hs'
          have hge := wholeN_ge S
          have hcom : ∀ c, PS limit (S ++ c) = ((readP S limit).1 :: (PS limit (S.drop (wholeN S) ++ c)).1, (PS limit (S.drop (wholeN S) ++ c)).2) := fun c => by
            have hb' : badB (S ++ c) = false := by
              rw [← badB_take (S ++ c) S.length (by omega)]; simpa using hb
            have hw' : wholeN (S ++ c) = wholeN S := by
              rw [← wholeN_take (S ++ c) S.length (by omega)]; simp
            have hf' : frontN (S ++ c) = frontN S := by
              rw [← frontN_take (S ++ c) S.length (by omega)]; simp
            have hroom := badB_room hb (by omega)
            rw [PS_more hb' (by unfold Short; rw [hw', List.length_append]; omega), hw', List.drop_append_of_le_length (by omega)]
            have : (readP (S ++ c) limit).1 = (readP S limit).1 := by
              unfold readP
              rw [hb', hb, if_neg (by simp), if_neg (by rw [hw', List.length_append]; omega), if_neg (by simp), if_neg (by omega), hw', hf']
              simp only
              rw [← decP_take (S ++ c) S.length _ (by omega) (by omega) (fun _ => by omega)]
              simp
            rw [this]
          rcases ih (S.drop (wholeN S)).length (by simp; omega) (S.drop (wholeN S)) rfl with ⟨h1, h2⟩ | ⟨V, h1, h2, h3, h4, h5⟩
          · exact .inl ⟨by rw [PS_more hb hs]; exact h1, fun c => by rw [hcom, h2, PS_more hb hs]⟩
          · refine .inr ⟨V, h1, h2, by rw [List.length_drop] at h3; omega, by rw [PS_more hb hs]; exact h4, fun c => by rw [hcom, h5, PS_more hb hs]; rfl⟩
  exact key _ S rfl
theorem restS_ok {limit : Nat} {V : List UInt8} (hb : badB V = false) (hs : Short V) : (restS limit V).Ok limit := by
  show FInv limit (V.take (wantsM limit V).1) (V.length - (wantsM limit V).1)
  have hge := (wants_ge limit V).1
  have hw := wants_take limit V _ hge
  refine ⟨by rw [badB_take V _ (by omega)]; exact hb, by rw [hw]; simp; omega, fun h => ?_, fun h => ?_⟩
  · rw [hw] at h; simp at h; omega
  · rw [hw] at h ⊢
    simp at h
    have h24 : 24 ≤ V.length := by omega
    rcases wants_full (limit := limit) h24 hb with ⟨e, h1, h2⟩ | ⟨e, h1, h2⟩ <;> rw [e] at h ⊢ <;> simp only at h ⊢ <;> unfold Short at hs <;> omega
theorem PS_ok (limit : Nat) (S : List UInt8) : (PS limit S).2.Ok limit := by
  rcases PS_cases limit S with ⟨h, _⟩ | ⟨V, h1, h2, _, h4, _⟩
  · rw [h]; exact ⟨rfl, rfl⟩
  · rw [h4]; exact restS_ok h1 h2
theorem PS_kept_le (limit : Nat) (S : List UInt8) : (PS limit S).2.kept.length ≤ S.length := by
  rcases PS_cases limit S with ⟨h, _⟩ | ⟨V, h1, h2, h3, h4, _⟩
  · rw [h]; simp
  · rw [h4]; simp [restS]; omega
theorem PS_held (limit : Nat) (S : List UInt8) : (PS limit S).2.kept.length ≤ limit + 529 := by
  rcases PS_cases limit S with ⟨h, _⟩ | ⟨V, h1, h2, h3, h4, _⟩
  · rw [h]; simp
  · rw [h4]
    simp only [restS, List.length_take]
    by_cases h24 : V.length < 24
    · omega
    · have hp := byt_lt V 4
      obtain ⟨_, _, r3⟩ := badB_room h1 (by omega)
      have hfr : frontN V = 24 + byt V 4 + n2 V 2 := rfl
      rcases wants_full (limit := limit) (by omega) h1 with ⟨e, q1, q2⟩ | ⟨e, q1, q2⟩ <;> rw [e] <;> simp only <;> omega
theorem PS_broken_kept (limit : Nat) (S : List UInt8) (h : (PS limit S).2.broken = true) : (PS limit S).2.kept = [] := by
  rcases PS_cases limit S with ⟨e, _⟩ | ⟨V, h1, h2, h3, h4, _⟩
  · rw [e]
  · rw [h4] at h; simp [restS] at h
/-- fed on: what is told, what it is then -/
theorem step_ps (limit : Nat) (S chunk : List UInt8) : (stepM limit (PS limit S).2 chunk).2 = (PS limit (S ++ chunk)).2 ∧ (PS limit S).1 ++ (stepM limit (PS limit S).2 chunk).1 = (PS limit (S ++ chunk)).1 := by
  rcases PS_cases limit S with ⟨h, h2⟩ | ⟨V, h1, h2, h3, h4, h5⟩
  · rw [h2, h]; simp [stepM]
  · rw [h5, h4]
    have hf := feedM_ps limit (chunk.length + 1) V chunk h1 h2 (by omega)
    have hb : (restS limit V).broken = false := rfl
    unfold stepM
    rw [hb]
    simp only [hf, out4]
    exact ⟨trivial, trivial⟩
/-- fed in pieces -/
def fedM (limit : Nat) : FSt → List (List UInt8) → List Pkt × FSt
  | s, [] => ([], s)
  | s, c :: r => ((stepM limit s c).1 ++ (fedM limit (stepM limit s c).2 r).1, (fedM limit (stepM limit s c).2 r).2)
theorem fedM_ps (limit : Nat) : ∀ (l : List (List UInt8)) (S : List UInt8), (fedM limit (PS limit S).2 l).2 = (PS limit (S ++ l.flatten)).2 ∧ (PS limit S).1 ++ (fedM limit (PS limit S).2 l).1 = (PS limit (S ++ l.flatten)).1 := by
  intro l
  induction l with
  | nil => intro S; simp [fedM]
  | cons c r ih =>
    intro S
    obtain ⟨s1, s2⟩ := step_ps limit S c
    obtain ⟨i1, i2⟩ := ih (S ++ c)
    simp only [fedM, s1, List.flatten_cons, ← List.append_assoc, s2, i1, i2]
    exact ⟨trivial, trivial⟩
theorem fedM_start (limit : Nat) (l : List (List UInt8)) : fedM limit FSt.start l = PS limit l.flatten := by
  have h := fedM_ps limit l []
  rw [PS_nil] at h
  simp only [List.nil_append] at h
  exact Prod.ext h.2 h.1
end Go.Proofs.Ytggmpaggmkfmoaa
