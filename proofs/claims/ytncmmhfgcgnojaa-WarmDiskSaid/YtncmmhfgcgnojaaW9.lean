/- The disk: what its acts do: Create, Remove, Rename, SyncNames, Sync. -/
import Derived.Test.YtncmmhfgcgnojaaW8
set_option maxRecDepth 100000
namespace Go.Proofs.Ytncmmhfgcgnojaa
open Go Go.Eng

def findE (s : Ds) (name : Nm) : Nat := if legalM name = false then 186 else match atM (namesL s) name with | none => 182 | some _ => 0
theorem findc_fn (b : Nat) (s : Ds) (hI : Inv s) (name : Nm) : FnS Try.prog 47 [.pointer (some ⟨b, 0, none⟩), strv name] (fun h => ∃ k, Dk b s k ∧ Le k h) [] (fun v H => ∃ p, v = .tuple #[.pointer p, .int .i64 (findE s name : Int)] ∧ H = []) := by
  intro F w hp st
  obtain ⟨y, hy, hin⟩ := dk_in hp
  refine (find_fn b s y hI hy name F w hin st).mono ?_
  rintro e w' ⟨v, H', rfl, ⟨hf, rfl⟩, st'⟩
  unfold findE
  rcases hf with ⟨h, rfl⟩ | ⟨h, h2, rfl⟩ | ⟨h, i, x, h2, h3, h4, h5, rfl⟩
  · exact ⟨_, _, rfl, ⟨_, by rw [if_pos h]; rfl, rfl⟩, st'⟩
  · exact ⟨_, _, rfl, ⟨_, by rw [if_neg (by rw [h]; simp), h2]; rfl, rfl⟩, st'⟩
  · exact ⟨_, _, rfl, ⟨_, by rw [if_neg (by rw [h]; simp), h2]; rfl, rfl⟩, st'⟩
/-- what a closure has by it: the disk and a name -/
def capD (bd bn b : Nat) (name : Nm) (h : Hp) : Prop := (∃ k, pts bd 25 [.pointer (some ⟨b, 0, none⟩)] k ∧ Le k h) ∧ ∃ k, pts bn 9 [strv name] k ∧ Le k h
theorem capD_mono {bd bn b : Nat} {name : Nm} (h k : Hp) (c : capD bd bn b name h) (l : Le h k) : capD bd bn b name k := ⟨in_mono c.1 l, in_mono c.2 l⟩
theorem turn_open (b : Nat) (s : Ds) (y : Lay) (hy : LayOk s y) (c : Ch) (hI : Inv s) (hn : s.acts ≤ 10000) :
    FnS Try.prog 48 [.pointer (some ⟨b, 0, none⟩), .agg (chC c).toArray] (fun _ => True) (dkL b s y) (fun v H => v = .tuple #[] ∧ H = [Dk b { s with chg := s.chg ++ [c] }]) :=
  FnS.ent (turn_fn b s c hI hn) fun k x => close_dk (H := []) hy (by rw [List.append_nil]; exact x)
theorem do_bad {s : Ds} {k : Nat} {name to : Nm} {p : List UInt8} (hk : k ≠ 5) (h : legalM name = false) : doM s k name to p = (s, 186) := by
  unfold doM
  rw [if_neg hk, if_pos (.inl h)]
theorem do_ok {s : Ds} {k : Nat} {name to : Nm} {p : List UInt8} (hk : k ≠ 5) (h : legalM name = true) (h3 : k = 3 → legalM to = true) : doM s k name to p = match atM (namesL s) name with
    | none => if k = 0 then ({ s with files := s.files ++ [⟨[], 0⟩], chg := s.chg ++ [⟨[], name, s.files.length⟩] }, 0) else (s, 182)
    | some i =>
      if k = 0 then (s, 183)
      else if k = 1 then ({ s with files := s.files.set i ⟨(fileM s i).bs ++ p.take (roomM s), (fileM s i).sf⟩ }, if roomM s < p.length then 181 else 0)
      else if k = 2 then ({ s with files := s.files.set i ⟨(fileM s i).bs, (fileM s i).bs.length⟩ }, 0)
      else if k = 3 then (if name = to then (s, 0) else ({ s with chg := s.chg ++ [⟨name, to, i⟩] }, 0))
      else ({ s with chg := s.chg ++ [⟨name, [], 0⟩] }, 0) := by
  unfold doM
  rw [if_neg hk, if_neg (by
    rintro (h1 | ⟨h1, h2⟩)
    · rw [h] at h1; cases h1
    · rw [h3 h1] at h2; cases h2)]
  rfl
def addC (s : Ds) (c : Ch) : Ds := { s with chg := s.chg ++ [c] }
theorem do_remove (s : Ds) (name : Nm) (m : Int) : doD 4 name [] [] s m = if findE s name = 0 then (addC s ⟨name, [], 0⟩, 0) else (s, findE s name) := by
  unfold doD findE addC
  cases hl : legalM name with
  | false => rw [do_bad (by decide) hl]; rfl
  | true =>
    rw [do_ok (by decide) hl (by decide)]
    cases atM (namesL s) name <;> rfl
theorem do_rename (s : Ds) (name to : Nm) (m : Int) : doD 3 name to [] s m = if legalM to = false then (s, 186) else if findE s name = 0 then (if name = to then (s, 0) else (addC s ⟨name, to, (atM (namesL s) name).getD 0⟩, 0)) else (s, findE s name) := by
  unfold doD findE addC
  cases hl : legalM name with
  | false => rw [do_bad (by decide) hl]; split <;> rfl
  | true =>
    cases ht : legalM to with
    | false => unfold doM; rw [if_neg (by decide), if_pos (.inr ⟨rfl, ht⟩)]; rfl
    | true =>
      rw [do_ok (by decide) hl (fun _ => ht)]
      cases atM (namesL s) name <;> rfl
def addF (s : Ds) (name : Nm) : Ds := { s with files := s.files ++ [⟨[], 0⟩], chg := s.chg ++ [⟨[], name, s.files.length⟩] }
theorem do_create (s : Ds) (name : Nm) (m : Int) : doD 0 name [] [] s m = if findE s name = 0 then (s, 183) else if findE s name = 186 then (s, 186) else (addF s name, 0) := by
  unfold doD findE addF
  cases hl : legalM name with
  | false => rw [do_bad (by decide) hl]; rfl
  | true =>
    rw [do_ok (by decide) hl (by decide)]
    cases atM (namesL s) name <;> rfl
theorem remove_clo (b : Nat) (s : Ds) (hI : Inv s) (hn : s.acts ≤ 10000) (bd bn : Nat) (name : Nm) (A : HProp) : ∀ m : Int, FnS Try.prog 58 [.int .i64 m, .pointer (some ⟨bd, 0, none⟩), .pointer (some ⟨bn, 0, none⟩)] (capD bd bn b name) [Dk b s, A] (fun v H => v = .int .i64 ((doD 4 name [] [] s m).2 : Int) ∧ H = [Dk b (doD 4 name [] [] s m).1]) := by
  intro m
  rw [do_remove]
  generalize he : findE s name = e
  refine fn_body Try.func58 rfl Try.ntmps58 rfl ?_
  rintro F ⟨hF1, hF2⟩
  refine g_sr ?_
  refine Li As ?_
  refine g_ne ?_
  refine g_sr ?_
  refine Lp (oL T.sc_25 ?_)
  refine Lp (oL T.sc_9 ?_)
  refine Lp (oC T.fn_47 rfl rfl (findc_fn b s hI name) .nil (fun _ _ hin => hin.nth 0 rfl) ?_)
  rintro v H' ⟨p, rfl, rfl⟩
  try simp only [nap, cap]
  rw [he]
  refine Li Mv ?_
  refine Li Ex ?_
  refine Li Ex ?_
  refine Li As ?_
  refine Li As ?_
  refine g_ne ?_
  refine g_seq ?_
  refine g_sr ?_
  refine Li Mv ?_
  refine Li Cm ?_
  refine g_ne ?_
  refine g_cond rfl ?_ ?_
  · intro h0
    replace h0 := nrm h0
    obtain rfl : e = 0 := by omega
    rw [if_pos rfl]
    refine g_region ?_
    refine Lp (oL T.sc_25 ?_)
    refine Lp (oL T.sc_9 ?_)
    refine Li (Bd T.zc_84 T.st_84) ?_
    refine Lp (oC T.fn_48 rfl rfl (turn_fn b s ⟨name, [], 0⟩ hI hn) (.cons .here .nil) (fun _ _ _ => trivial) ?_)
    rintro v H' ⟨rfl, rfl⟩
    try simp only [nap, cap]
    refine g_ne ?_
    refine g_sr ?_
    refine Li Mv ?_
    refine Li As ?_
    refine g_ne ?_
    refine g_ret ?_
    refine Rt [Dk b (addC s ⟨name, [], 0⟩)] Try.results58 ?_
    exact ⟨rfl, rfl⟩
  · intro h0
    replace h0 := nrm h0
    rw [if_neg (by omega)]
    refine g_skip ?_
    refine e_then ?_
    refine g_sr ?_
    refine Li Mv ?_
    refine Li As ?_
    refine g_ne ?_
    refine g_ret ?_
    refine Rt [Dk b s] Try.results58 ?_
    exact ⟨rfl, rfl⟩
/-- what Rename's closure has by it -/
def capR (bt bd bf b : Nat) (name to : Nm) (h : Hp) : Prop := (∃ k, pts bt 9 [strv to] k ∧ Le k h) ∧ (∃ k, pts bd 25 [.pointer (some ⟨b, 0, none⟩)] k ∧ Le k h) ∧ ∃ k, pts bf 9 [strv name] k ∧ Le k h
theorem capR_mono {bt bd bf b : Nat} {name to : Nm} (h k : Hp) (c : capR bt bd bf b name to h) (l : Le h k) : capR bt bd bf b name to k := ⟨in_mono c.1 l, in_mono c.2.1 l, in_mono c.2.2 l⟩
theorem rename_clo (b : Nat) (s : Ds) (hI : Inv s) (hn : s.acts ≤ 10000) (bt bd bf : Nat) (name to : Nm) (A : HProp) : ∀ m : Int, FnS Try.prog 56 [.int .i64 m, .pointer (some ⟨bt, 0, none⟩), .pointer (some ⟨bd, 0, none⟩), .pointer (some ⟨bf, 0, none⟩)] (capR bt bd bf b name to) [Dk b s, A] (fun v H => v = .int .i64 ((doD 3 name to [] s m).2 : Int) ∧ H = [Dk b (doD 3 name to [] s m).1]) := by
  intro m
  rw [do_rename]
  have hnm := hI.names
  generalize he : findE s name = e
  refine fn_body Try.func56 rfl Try.ntmps56 rfl ?_
  rintro F ⟨hF0, hF1, hF2⟩
  refine g_sr ?_
  refine Li As ?_
  refine g_ne ?_
  refine g_seq ?_
  refine g_sr ?_
  refine Lp (oL T.sc_9 ?_)
  refine Lp (oC T.fn_57 rfl rfl (named_fn to) .nil (fun _ _ _ => trivial) ?_)
  rintro v H' ⟨rfl, rfl⟩
  try simp only [nap, cap]
  refine Li Nt ?_
  refine g_ne ?_
  refine g_cond rfl ?_ ?_
  · intro hl
    replace hl := nrm hl
    rw [if_pos hl]
    refine g_sr ?_
    refine Li As ?_
    refine g_ne ?_
    refine g_ret ?_
    refine e_then_ret ?_
    refine Rt [Dk b s] Try.results56 ?_
    exact ⟨rfl, rfl⟩
  · intro hl
    replace hl := nrm hl
    rw [if_neg (by rw [hl]; simp)]
    refine g_skip ?_
    refine e_then ?_
    refine g_sr ?_
    refine Lp (oL T.sc_25 ?_)
    refine Lp (oL T.sc_9 ?_)
    refine Lp (oC T.fn_47 rfl rfl (findc_fn b s hI name) .nil (fun _ _ hin => hin.nth 0 rfl) ?_)
    rintro v H' ⟨p, rfl, rfl⟩
    try simp only [nap, cap]
    rw [he]
    refine Li Mv ?_
    refine Li Ex ?_
    refine Li Ex ?_
    refine Li As ?_
    refine Li As ?_
    refine g_ne ?_
    refine g_seq ?_
    refine g_sr ?_
    refine Li Mv ?_
    refine Li Cm ?_
    refine Li Mv ?_
    refine g_split (t := 19) rfl ?_ ?_
    · intro h0
      replace h0 := nrm h0
      obtain rfl : e = 0 := by omega
      rw [if_pos rfl]
      refine Lp (oL T.sc_9 ?_)
      refine Lp (oL T.sc_9 ?_)
      refine Li Sq ?_
      refine Li Pt ?_
      refine g_ne ?_
      refine g_cond rfl ?_ ?_
      · intro hne
        replace hne := nrm hne
        rw [if_neg hne]
        obtain ⟨i, hat⟩ : ∃ i, atM (namesL s) name = some i := by
          unfold findE at he
          cases hq : atM (namesL s) name with
          | some i => exact ⟨i, rfl⟩
          | none => rw [hq] at he; split at he <;> cases he
        refine g_opendk fun y hy => ?_
        have hlk : lkq (mes y.es) (strv name) = (atM (namesL s) name).map fun (i : Nat) => Value.int .i64 (i : Int) := by
          rw [mes_lkq (keys_nd hy.es hnm.nd), atM_perm hy.es hnm.nd]
        rw [hat] at hlk ⊢
        unfold dkL dkC
        simp only [nap, cap]
        refine gTB 10 T.mix (.cons .here (.cons (.there (.there .here)) .nil)) fun F1 le1 hin1 back1 => ?_
        obtain ⟨hb1, hb2, _⟩ := hin1
        have g0 := in_mono hF0 le1
        have g1 := in_mono hF1 le1
        have g2 := in_mono hF2 le1
        refine Ti (Lf T.sc_25) ?_
        refine Ti (Lf T.sc_9) ?_
        refine Ti (Lf T.sc_9) ?_
        refine Ti (Lf T.sc_25) ?_
        refine Ti Nc ?_
        refine Ti (Fa T.fld_65_3) ?_
        refine Ti (Lf T.sc_61) ?_
        refine Ti (Lf T.sc_9) ?_
        refine Tp (oQlF T.mt_61 hb2 ?_)
        rw [hlk]
        dsimp only [Option.map_some, Option.getD_some]
        refine Ti (Bd T.zc_84 T.st_84) ?_
        refine TnB back1 ?_
        refine Tp (oC T.fn_48 rfl rfl (turn_open b s y hy ⟨name, to, i⟩ hI hn) (.cons .here (.cons (.there .here) (.cons (.there .here) (.cons .here (.cons .here (.cons .here (.cons .here .nil))))))) (fun _ _ _ => trivial) ?_)
        rintro v H' ⟨rfl, rfl⟩
        try simp only [nap, cap]
        refine Tne ?_
        refine g_sr ?_
        refine Li Mv ?_
        refine Li As ?_
        refine g_ne ?_
        refine g_ret ?_
        refine Rt [Dk b (addC s ⟨name, to, i⟩)] Try.results56 ?_
        exact ⟨rfl, rfl⟩
      · intro hne
        replace hne := nrm hne
        rw [if_pos hne]
        refine g_skip ?_
        refine e_then ?_
        refine g_sr ?_
        refine Li Mv ?_
        refine Li As ?_
        refine g_ne ?_
        refine g_ret ?_
        refine Rt [Dk b s] Try.results56 ?_
        exact ⟨rfl, rfl⟩
    · intro h0
      replace h0 := nrm h0
      rw [if_neg (by omega)]
      refine Lx ?_
      refine Lx ?_
      refine Lx ?_
      refine Li Pf ?_
      refine g_ne ?_
      refine g_cond_f rfl rfl ?_
      refine g_skip ?_
      refine e_then ?_
      refine g_sr ?_
      refine Li Mv ?_
      refine Li As ?_
      refine g_ne ?_
      refine g_ret ?_
      refine Rt [Dk b s] Try.results56 ?_
      exact ⟨rfl, rfl⟩
end Go.Proofs.Ytncmmhfgcgnojaa

