/- The disk: a table of names as a map holds it, against the document's. -/
import Derived.Test.YtncmmhfgcgnojaaW0
set_option maxRecDepth 100000
namespace Go.Proofs.Ytncmmhfgcgnojaa
open Go Go.Eng

theorem strv_inj {a b : List UInt8} (h : strv a = strv b) : a = b := by
  unfold strv at h
  simpa using h
def ent (p : Nm × Nat) : Value × Value := (strv p.1, .int .i64 (p.2 : Int))
def mes (l : List (Nm × Nat)) : List (Value × Value) := l.map ent
/-- a name is laid, new or not -/
def updL (l : List (Nm × Nat)) (n : Nm) (i : Nat) : List (Nm × Nat) := if n ∈ l.map (·.1) then l.map (fun p => if p.1 = n then (n, i) else p) else l ++ [(n, i)]
def doE (l : List (Nm × Nat)) (c : Ch) : List (Nm × Nat) :=
  let e1 := if c.fr = [] then l else without l c.fr
  if c.to = [] then e1 else updL e1 c.to c.fi
theorem mes_deq (l : List (Nm × Nat)) (n : Nm) : deq (mes l) (strv n) = mes (without l n) := by
  unfold deq mes without
  rw [List.filter_map]
  congr 1
  apply List.filter_congr
  intro p _
  have : strv p.1 = strv n ↔ p.1 = n := ⟨strv_inj, fun e => by rw [e]⟩
  simp [ent, this]
theorem mes_mem {l : List (Nm × Nat)} {n : Nm} : (∃ e ∈ mes l, e.1 = strv n) ↔ n ∈ l.map (·.1) := by
  constructor
  · rintro ⟨e, he, h⟩
    obtain ⟨p, hp, rfl⟩ := List.mem_map.1 he
    exact List.mem_map.2 ⟨p, hp, strv_inj h⟩
  · intro h
    obtain ⟨p, hp, rfl⟩ := List.mem_map.1 h
    exact ⟨_, List.mem_map.2 ⟨p, hp, rfl⟩, rfl⟩
theorem mes_upq (l : List (Nm × Nat)) (n : Nm) (i : Nat) : upq (mes l) (strv n) (.int .i64 (i : Int)) = mes (updL l n i) := by
  classical
  unfold updL
  by_cases h : n ∈ l.map (·.1)
  · rw [upq_old (mes_mem.2 h), if_pos h]
    unfold mes
    rw [List.map_map, List.map_map]
    apply List.map_congr_left
    intro p _
    simp only [Function.comp]
    by_cases hp : p.1 = n
    · rw [if_pos hp, if_pos (show (ent p).1 = strv n by rw [← hp]; rfl)]; rfl
    · rw [if_neg hp, if_neg (show ¬ (ent p).1 = strv n from fun e => hp (strv_inj e))]
  · rw [upq_new (fun e he q => h (mes_mem.1 ⟨e, he, q⟩)), if_neg h]
    simp [mes, ent]
theorem updL_perm {l : List (Nm × Nat)} {n : Nm} {i : Nat} (hn : (l.map (·.1)).Nodup) : (updL l n i).Perm (without l n ++ [(n, i)]) := by
  unfold updL
  split
  · rename_i h
    induction l with
    | nil => simp at h
    | cons p l ih =>
      simp only [List.map_cons, List.nodup_cons] at hn
      by_cases hp : p.1 = n
      · have h1 : ∀ q ∈ l, q.1 ≠ n := fun q hq e => hn.1 (List.mem_map.2 ⟨q, hq, by rw [e, hp]⟩)
        have h2 : l.map (fun q => if q.1 = n then (n, i) else q) = l := by
          conv => rhs; rw [← List.map_id l]
          apply List.map_congr_left
          intro q hq
          rw [if_neg (h1 q hq)]; rfl
        have h3 : without l n = l := List.filter_eq_self.2 fun q hq => by simpa using h1 q hq
        have h4 : without (p :: l) n = without l n := by unfold without; rw [List.filter_cons_of_neg (by simpa using hp)]
        rw [List.map_cons, if_pos hp, h2, h4, h3]
        exact (List.perm_append_singleton _ _).symm
      · have hin : n ∈ l.map (·.1) := by
          simp only [List.map_cons, List.mem_cons] at h
          exact h.resolve_left fun e => hp e.symm
        have h4 : without (p :: l) n = p :: without l n := by unfold without; rw [List.filter_cons_of_pos (by simpa using hp)]
        rw [List.map_cons, if_neg hp, h4, List.cons_append]
        exact (ih hn.2 hin).cons _
  · rename_i h
    have h3 : without l n = l := List.filter_eq_self.2 fun q hq => by
      have : q.1 ≠ n := fun e => h (List.mem_map.2 ⟨q, hq, e⟩)
      simpa using this
    rw [h3]
theorem without_perm {l m : List (Nm × Nat)} (p : l.Perm m) (n : Nm) : (without l n).Perm (without m n) := p.filter _
theorem without_nil {l : List (Nm × Nat)} (h : ∀ p ∈ l, p.1 ≠ []) : without l [] = l := List.filter_eq_self.2 fun q hq => by simpa using h q hq
theorem keys_nd {l m : List (Nm × Nat)} (p : l.Perm m) (h : (m.map (·.1)).Nodup) : (l.map (·.1)).Nodup := (p.map _).nodup_iff.2 h
theorem app1_perm {es l : List (Nm × Nat)} (p : es.Perm l) (hn : (l.map (·.1)).Nodup) (hne : ∀ p ∈ l, p.1 ≠ []) (c : Ch) : (doE es c).Perm (app1 l c) := by
  have h1 : (if c.fr = [] then es else without es c.fr).Perm (without l c.fr) := by
    split
    · rename_i h
      rw [h, without_nil hne]; exact p
    · exact without_perm p _
  unfold doE app1
  dsimp only
  split
  · exact h1
  · refine (updL_perm (keys_nd h1 ?_)).trans ((without_perm h1 _).append_right _)
    exact (List.Sublist.map _ List.filter_sublist).nodup hn
theorem atM_perm {l m : List (Nm × Nat)} (p : l.Perm m) (hn : (m.map (·.1)).Nodup) (n : Nm) : atM l n = atM m n := by
  cases h : atM m n with
  | none =>
    cases h2 : atM l n with
    | none => rfl
    | some i => exact absurd rfl (atM_none h _ (p.mem_iff.1 (atM_mem h2)))
  | some i => exact atM_some (keys_nd p hn) (p.mem_iff.2 (atM_mem h))
theorem mes_lkq {l : List (Nm × Nat)} (hn : (l.map (·.1)).Nodup) (n : Nm) : lkq (mes l) (strv n) = (atM l n).map fun (i : Nat) => Value.int .i64 (i : Int) := by
  have hk : ((mes l).map (·.1)).Nodup := by
    have : (mes l).map (·.1) = (l.map (·.1)).map strv := by simp [mes, ent, Function.comp_def]
    rw [this]
    rw [List.Nodup, List.pairwise_map]
    exact hn.imp fun h e => h (strv_inj e)
  cases h : atM l n with
  | none =>
    rw [lkq_none]; rfl
    intro e he q
    obtain ⟨p, hp, rfl⟩ := List.mem_map.1 he
    exact atM_none h p hp (strv_inj q)
  | some i => exact lkq_some hk (List.mem_map.2 ⟨_, atM_mem h, rfl⟩)
theorem used_perm {s : Ds} {l m : List (Nm × Nat)} (p : l.Perm m) : usedM s l = usedM s m := (p.map _).sum_nat
theorem used_le {s : Ds} {l : List (Nm × Nat)} {n m B : Nat} (h : Tbl l n m) (hn : n = s.files.length) (hf : ∀ f ∈ s.files, f.bs.length ≤ B) : usedM s l ≤ l.length * B := by
  have hk : ∀ p ∈ l, (fileM s p.2).bs.length ≤ B := fun p hp => hf _ (fileM_mem (by have := (h.sk p hp).2; omega))
  clear h
  unfold usedM
  induction l with
  | nil => simp
  | cons p l ih =>
    have h1 := hk p (List.mem_cons_self ..)
    have h2 := ih fun q hq => hk q (List.mem_cons_of_mem _ hq)
    simp only [List.map_cons, List.sum_cons, List.length_cons]
    rw [Nat.add_mul]
    omega
/-- an entry of a map that was gone through -/
theorem mes_split {l : List (Nm × Nat)} {l1 l2 : List (Value × Value)} {k v : Value} (h : mes l = l1 ++ (k, v) :: l2) : ∃ (m1 : List (Nm × Nat)) (n : Nm) (i : Nat) (m2 : List (Nm × Nat)), l = m1 ++ (n, i) :: m2 ∧ l1 = mes m1 ∧ k = strv n ∧ v = .int .i64 (i : Int) ∧ l2 = mes m2 := by
  unfold mes at h
  rw [List.map_eq_append_iff] at h
  obtain ⟨m1, r, rfl, h1, h2⟩ := h
  rw [List.map_eq_cons_iff] at h2
  obtain ⟨p, m2, rfl, h3, h4⟩ := h2
  obtain ⟨h5, h6⟩ := Prod.mk.inj h3
  exact ⟨m1, p.1, p.2, m2, rfl, h1.symm, h5.symm, h6.symm, h4.symm⟩
end Go.Proofs.Ytncmmhfgcgnojaa
