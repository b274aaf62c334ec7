/- The disk, as the document tells it: names, changes, files; what an act does; what stays true of it. -/
import Derived.Test.YtncmmhfgcgnojaaEngS
import Derived.Test.YtncmmhfgcgnojaaEngV
set_option maxRecDepth 100000
namespace Go.Proofs.Ytncmmhfgcgnojaa
open Go Go.Eng

abbrev Nm := List UInt8
structure Ch where
  fr : Nm
  to : Nm
  fi : Nat
structure Fi where
  bs : List UInt8
  sf : Nat
structure Flt where
  st : Int
  kd : Int
  pt : Int
structure Ds where
  space : Nat
  acts : Nat
  files : List Fi
  safe : List (Nm × Nat)
  chg : List Ch
  plan : List Flt
  dark : Bool
def without (l : List (Nm × Nat)) (n : Nm) : List (Nm × Nat) := l.filter fun p => decide (p.1 ≠ n)
def app1 (l : List (Nm × Nat)) (c : Ch) : List (Nm × Nat) := if c.to = [] then without l c.fr else without (without l c.fr) c.to ++ [(c.to, c.fi)]
def afterL (l : List (Nm × Nat)) (cs : List Ch) : List (Nm × Nat) := cs.foldl app1 l
def namesL (s : Ds) : List (Nm × Nat) := afterL s.safe s.chg
def atM (l : List (Nm × Nat)) (n : Nm) : Option Nat := (l.find? fun p => decide (p.1 = n)).map (·.2)
def legalM (n : Nm) : Bool := decide (1 ≤ n.length) && decide (n.length ≤ 32)
def fileM (s : Ds) (i : Nat) : Fi := s.files.getD i ⟨[], 0⟩
def usedM (s : Ds) (l : List (Nm × Nat)) : Nat := (l.map fun p => (fileM s p.2).bs.length).sum
def roomM (s : Ds) : Nat := s.space - usedM s (namesL s)
/-- an act's kind: 0 create, 1 append, 2 sync, 3 rename, 4 remove, 5 syncnames -/
def doM (s : Ds) (k : Nat) (name to : Nm) (p : List UInt8) : Ds × Nat :=
  if k = 5 then ({ s with safe := namesL s, chg := [] }, 0)
  else if legalM name = false ∨ (k = 3 ∧ legalM to = false) then (s, 186)
  else match atM (namesL s) name with
    | none => if k = 0 then ({ s with files := s.files ++ [⟨[], 0⟩], chg := s.chg ++ [⟨[], name, s.files.length⟩] }, 0) else (s, 182)
    | some i =>
      if k = 0 then (s, 183)
      else if k = 1 then ({ s with files := s.files.set i ⟨(fileM s i).bs ++ p.take (roomM s), (fileM s i).sf⟩ }, if roomM s < p.length then 181 else 0)
      else if k = 2 then ({ s with files := s.files.set i ⟨(fileM s i).bs, (fileM s i).bs.length⟩ }, 0)
      else if k = 3 then (if name = to then (s, 0) else ({ s with chg := s.chg ++ [⟨name, to, i⟩] }, 0))
      else ({ s with chg := s.chg ++ [⟨name, [], 0⟩] }, 0)
def planM (l : List Flt) (n : Nat) : Flt := (l.find? fun f => decide (f.st = (n : Int))).getD ⟨0, 0, 0⟩
def beh (e : Nat) : Nat := if e = 0 then 180 else e
def cutP (p : List UInt8) (m : Int) : List UInt8 := if m = -1 then p else p.take m.toNat
def begun (s : Ds) : Ds := { s with acts := s.acts + 1 }
def shut (s : Ds) : Ds := { s with dark := true }
def actG (s : Ds) (tears : Bool) (D : Ds → Int → Ds × Nat) : Ds × Nat :=
  let s1 : Ds := begun s
  if s.dark = true then (s1, 184) else
  let f := planM s.plan (s.acts + 1)
  if f.kd = 1 then (s1, 180)
  else if f.kd = 4 then (s1, 181)
  else if f.kd = 5 then (shut s1, 184)
  else if f.kd = 6 then (shut (D s1 (-1)).1, 184)
  else if f.kd = 2 then ((D s1 (-1)).1, beh (D s1 (-1)).2)
  else if f.kd = 3 then (if tears = true then ((D s1 (max 0 f.pt)).1, beh (D s1 (max 0 f.pt)).2) else (s1, 180))
  else D s1 (-1)
def doD (k : Nat) (name to : Nm) (p : List UInt8) : Ds → Int → Ds × Nat := fun s m => doM s k name to (cutP p m)
def actM (s : Ds) (k : Nat) (name to : Nm) (p : List UInt8) : Ds × Nat := actG s (decide (k = 1)) (doD k name to p)
def keepF (cut : List Int) (i : Nat) (f : Fi) : Fi :=
  let n := f.sf + min (cut.getD i 0).toNat (f.bs.length - f.sf)
  ⟨f.bs.take n, n⟩
def restF (cut : List Int) (n : Nat) (l : List Fi) : List Fi := l.mapIdx fun j f => if j < n then keepF cut j f else f
def restM (s : Ds) (cut : List Int) (n : Int) : Ds :=
  { s with safe := afterL s.safe (s.chg.take n.toNat), chg := [], files := restF cut s.files.length s.files, plan := [], dark := false }
def readM (s : Ds) (name : Nm) : Nat × List UInt8 :=
  if s.dark then (184, [])
  else if legalM name = false then (186, [])
  else match atM (namesL s) name with
    | none => (182, [])
    | some i => (0, (fileM s i).bs)
def looseM (s : Ds) : Bool := ((namesL s).any fun p => decide ((fileM s p.2).sf < (fileM s p.2).bs.length)) || decide (0 < s.chg.length)
def startM (space : Nat) : Ds := ⟨space, 0, [], [], [], [], false⟩

/-- what stays true -/
structure Inv (s : Ds) : Prop where
  space : s.space ≤ 1099511627776
  nf : s.files.length ≤ s.acts
  nn : s.safe.length + s.chg.length ≤ s.acts
  fb : ∀ f ∈ s.files, f.bs.length ≤ s.acts * 2097152 ∧ f.sf ≤ f.bs.length
  nd : (s.safe.map (·.1)).Nodup
  sk : ∀ p ∈ s.safe, p.1 ≠ [] ∧ p.2 < s.files.length
  ck : ∀ c ∈ s.chg, c.fi < s.files.length
  np : s.plan.length ≤ 1000
theorem inv_start (n : Nat) (h : n ≤ 1099511627776) : Inv (startM n) := ⟨h, by simp [startM], by simp [startM], by simp [startM], by simp [startM], by simp [startM], by simp [startM], by simp [startM]⟩
/-- a table of names -/
structure Tbl (l : List (Nm × Nat)) (n m : Nat) : Prop where
  len : l.length ≤ m
  nd : (l.map (·.1)).Nodup
  sk : ∀ p ∈ l, p.1 ≠ [] ∧ p.2 < n
theorem Tbl.without {l : List (Nm × Nat)} {n m : Nat} (h : Tbl l n m) (x : Nm) : Tbl (without l x) n m :=
  ⟨Nat.le_trans (List.length_filter_le _ _) h.len, (List.Sublist.map _ List.filter_sublist).nodup h.nd, fun p hp => h.sk p ((List.mem_filter.1 hp).1)⟩
theorem without_no {l : List (Nm × Nat)} {x : Nm} : x ∉ (without l x).map (·.1) := by
  intro h
  obtain ⟨p, hp, rfl⟩ := List.mem_map.1 h
  have := (List.mem_filter.1 hp).2
  simp at this
theorem Tbl.app1 {l : List (Nm × Nat)} {n m : Nat} (h : Tbl l n m) (c : Ch) (hc : c.fi < n) : Tbl (app1 l c) n (m + 1) := by
  unfold Go.Proofs.Ytncmmhfgcgnojaa.app1
  split
  · have := h.without c.fr
    exact ⟨by have := this.len; omega, this.nd, this.sk⟩
  · rename_i hto
    have h1 := (h.without c.fr).without c.to
    refine ⟨by have := h1.len; simp; omega, ?_, ?_⟩
    · rw [List.map_append, List.nodup_append]
      refine ⟨h1.nd, by simp, ?_⟩
      intro a ha b hb
      simp only [List.map_cons, List.map_nil, List.mem_singleton] at hb
      subst hb
      intro e
      subst e
      exact without_no ha
    · intro p hp
      rw [List.mem_append, List.mem_singleton] at hp
      rcases hp with hp | rfl
      · exact h1.sk p hp
      · exact ⟨hto, hc⟩
theorem Tbl.afterL {n : Nat} : ∀ {cs : List Ch} {l : List (Nm × Nat)} {m : Nat}, Tbl l n m → (∀ c ∈ cs, c.fi < n) → Tbl (afterL l cs) n (m + cs.length) := by
  intro cs
  induction cs with
  | nil => intro l m h _; exact h
  | cons c cs ih =>
    intro l m h hc
    have := ih (h.app1 c (hc c (List.mem_cons_self ..))) fun x hx => hc x (List.mem_cons_of_mem _ hx)
    simp only [List.length_cons]
    rw [show m + (cs.length + 1) = m + 1 + cs.length from by omega]
    exact this
theorem Inv.tn {s : Ds} (h : Inv s) : Tbl s.safe s.files.length s.safe.length := ⟨Nat.le_refl _, h.nd, h.sk⟩
theorem Inv.names {s : Ds} (h : Inv s) : Tbl (namesL s) s.files.length s.acts := by
  have := h.tn.afterL h.ck
  exact ⟨by have := this.len; have := h.nn; unfold namesL; omega, this.nd, this.sk⟩
theorem atM_mem {l : List (Nm × Nat)} {n : Nm} {i : Nat} (h : atM l n = some i) : (n, i) ∈ l := by
  unfold atM at h
  rw [Option.map_eq_some_iff] at h
  obtain ⟨p, h1, rfl⟩ := h
  have h2 := List.find?_some h1
  have h3 := List.mem_of_find?_eq_some h1
  simp only [decide_eq_true_eq] at h2
  subst h2
  exact h3
theorem atM_none {l : List (Nm × Nat)} {n : Nm} (h : atM l n = none) : ∀ p ∈ l, p.1 ≠ n := by
  unfold atM at h
  rw [Option.map_eq_none_iff, List.find?_eq_none] at h
  intro p hp e
  exact h p hp (by simpa using e)
theorem atM_some {l : List (Nm × Nat)} {n : Nm} {i : Nat} (hn : (l.map (·.1)).Nodup) (h : (n, i) ∈ l) : atM l n = some i := by
  induction l with
  | nil => cases h
  | cons p l ih =>
    simp only [List.map_cons, List.nodup_cons] at hn
    rcases List.mem_cons.1 h with rfl | h
    · simp [atM]
    · have hne : p.1 ≠ n := fun e => hn.1 (List.mem_map.2 ⟨(n, i), h, e.symm⟩)
      have := ih hn.2 h
      unfold atM at this ⊢
      rw [List.find?_cons_of_neg (by simpa using hne)]
      exact this
theorem fileM_mem {s : Ds} {i : Nat} (h : i < s.files.length) : fileM s i ∈ s.files := by
  unfold fileM
  rw [List.getD_eq_getElem?_getD, List.getElem?_eq_getElem h]
  exact List.getElem_mem h
theorem fileM_at {s : Ds} {i : Nat} (h : i < s.files.length) : s.files[i]? = some (fileM s i) := by
  unfold fileM
  rw [List.getD_eq_getElem?_getD, List.getElem?_eq_getElem h]
  rfl
/-- what an act leaves -/
theorem inv_do {s : Ds} {N : Nat} (h : Inv s) (k : Nat) (name to : Nm) (p : List UInt8) (hp : p.length ≤ 2097152) (hN : s.acts = N + 1) (h1 : s.files.length ≤ N) (h2 : s.safe.length + s.chg.length ≤ N) (h3 : ∀ f ∈ s.files, f.bs.length ≤ N * 2097152) :
    Inv (doM s k name to p).1 ∧ (doM s k name to p).1.acts = s.acts := by
  have hnm := h.names
  unfold doM
  split
  · refine ⟨⟨h.space, h.nf, ?_, h.fb, hnm.nd, hnm.sk, by simp, h.np⟩, rfl⟩
    have := (h.tn.afterL h.ck).len
    simp only [List.length_nil, Nat.add_zero]
    unfold namesL
    have := h.nn
    omega
  · split
    · exact ⟨h, rfl⟩
    · rename_i hlg
      have hne : name ≠ [] := by
        rintro rfl
        exact hlg (.inl (by decide))
      cases hat : atM (namesL s) name with
      | none =>
        dsimp only
        split
        · refine ⟨⟨h.space, by simp; omega, by simp; omega, ?_, h.nd, ?_, ?_, h.np⟩, rfl⟩
          · intro f hf
            rw [List.mem_append, List.mem_singleton] at hf
            rcases hf with hf | rfl
            · exact h.fb f hf
            · simp
          · intro q hq
            have := h.sk q hq
            exact ⟨this.1, by simp; omega⟩
          · intro c hc
            rw [List.mem_append, List.mem_singleton] at hc
            rcases hc with hc | rfl
            · have := h.ck c hc; simp; omega
            · simp
        · exact ⟨h, rfl⟩
      | some i =>
        have hi : i < s.files.length := (hnm.sk _ (atM_mem hat)).2
        have hif := fileM_mem hi
        have hfb := h.fb _ hif
        dsimp only
        split
        · exact ⟨h, rfl⟩
        · split
          · refine ⟨⟨h.space, by simpa using h.nf, h.nn, ?_, h.nd, by simpa using h.sk, by simpa using h.ck, h.np⟩, rfl⟩
            intro f hf
            rcases List.mem_or_eq_of_mem_set hf with hf | rfl
            · exact h.fb f hf
            · have := h3 _ hif
              have : (p.take (roomM s)).length ≤ p.length := by rw [List.length_take]; omega
              simp only [List.length_append]
              refine ⟨?_, by omega⟩
              rw [hN, Nat.add_mul]; omega
          · split
            · refine ⟨⟨h.space, by simpa using h.nf, h.nn, ?_, h.nd, by simpa using h.sk, by simpa using h.ck, h.np⟩, rfl⟩
              intro f hf
              rcases List.mem_or_eq_of_mem_set hf with hf | rfl
              · exact h.fb f hf
              · exact ⟨hfb.1, Nat.le_refl _⟩
            · have hch : ∀ c : Ch, c.fi < s.files.length → ∀ x ∈ s.chg ++ [c], x.fi < s.files.length := by
                intro c hc x hx
                rw [List.mem_append, List.mem_singleton] at hx
                rcases hx with hx | rfl
                · exact h.ck x hx
                · exact hc
              split
              · split
                · exact ⟨h, rfl⟩
                · exact ⟨⟨h.space, h.nf, by simp; omega, h.fb, h.nd, h.sk, hch _ hi, h.np⟩, rfl⟩
              · exact ⟨⟨h.space, h.nf, by simp; omega, h.fb, h.nd, h.sk, hch _ (Nat.lt_of_le_of_lt (Nat.zero_le i) hi), h.np⟩, rfl⟩
theorem grow2 {a n : Nat} (h : a ≤ n * 2097152) : a ≤ (n + 1) * 2097152 := Nat.le_trans h (Nat.mul_le_mul_right _ (Nat.le_succ n))
theorem inv_begun {s : Ds} (h : Inv s) : Inv (begun s) :=
  ⟨h.space, by show s.files.length ≤ s.acts + 1; have := h.nf; omega, by show s.safe.length + s.chg.length ≤ s.acts + 1; have := h.nn; omega,
    fun f hf => ⟨grow2 (h.fb f hf).1, (h.fb f hf).2⟩, h.nd, h.sk, h.ck, h.np⟩
theorem inv_dark {s : Ds} (h : Inv s) : Inv (shut s) := ⟨h.space, h.nf, h.nn, h.fb, h.nd, h.sk, h.ck, h.np⟩
theorem inv_doD {s : Ds} (h : Inv s) (k : Nat) (name to : Nm) (p : List UInt8) (hp : p.length ≤ 2097152) (m : Int) :
    Inv (doD k name to p (begun s) m).1 ∧ (doD k name to p (begun s) m).1.acts = s.acts + 1 := by
  refine inv_do (N := s.acts) (inv_begun h) k name to (cutP p m) ?_ rfl h.nf h.nn (fun f hf => (h.fb f hf).1)
  unfold cutP
  split
  · exact hp
  · rw [List.length_take]; omega
theorem inv_act {s : Ds} (h : Inv s) (k : Nat) (name to : Nm) (p : List UInt8) (hp : p.length ≤ 2097152) : Inv (actM s k name to p).1 ∧ (actM s k name to p).1.acts = s.acts + 1 := by
  have hb := inv_begun h
  have hd := fun m => inv_doD h k name to p hp m
  unfold actM actG
  dsimp only
  repeat' split
  all_goals first
    | exact ⟨hb, rfl⟩
    | exact hd _
    | exact ⟨inv_dark hb, rfl⟩
    | exact ⟨inv_dark (hd _).1, (hd _).2⟩
theorem restF_len (cut : List Int) (n : Nat) (l : List Fi) : (restF cut n l).length = l.length := by simp [restF]
theorem inv_rest {s : Ds} (h : Inv s) (cut : List Int) (n : Int) : Inv (restM s cut n) := by
  have ht := h.tn.afterL (cs := s.chg.take n.toNat) fun c hc => h.ck c (List.mem_of_mem_take hc)
  have hl : (restM s cut n).files.length = s.files.length := restF_len _ _ _
  refine ⟨h.space, by rw [hl]; exact h.nf, ?_, ?_, ht.nd, by rw [hl]; exact ht.sk, by simp [restM], by simp [restM]⟩
  · have := ht.len
    have := h.nn
    rw [List.length_take] at *
    simp only [restM, List.length_nil]
    omega
  · intro f hf
    obtain ⟨i, hi⟩ := List.getElem?_of_mem hf
    simp only [restM, restF, List.getElem?_mapIdx, Option.map_eq_some_iff] at hi
    obtain ⟨g, hg, rfl⟩ := hi
    have hgf := h.fb g (List.mem_of_getElem? hg)
    have hlt := (List.getElem?_eq_some_iff.1 hg).1
    rw [if_pos hlt]
    simp only [keepF, List.length_take, restM]
    omega
end Go.Proofs.Ytncmmhfgcgnojaa
