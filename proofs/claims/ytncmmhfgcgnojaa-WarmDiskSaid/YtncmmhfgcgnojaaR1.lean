/- The document's disk: how it lies in memory. -/
import Derived.Test.YtncmmhfgcgnojaaW15
set_option maxRecDepth 100000
namespace Go.Proofs.Ytncmmhfgcgnojaa
open Go Go.Eng

def nmC (p : Nm × Nat) : List Value := [strv p.1, .int .i64 (p.2 : Int)]
def nmCs (l : List (Nm × Nat)) : List Value := l.flatMap nmC
theorem nmC_len : ∀ c, (nmC c).length = 2 := fun _ => rfl
theorem nmCs_len (l : List (Nm × Nat)) : (nmCs l).length = l.length * 2 := rows_len nmC_len l
theorem nmCs_one (l : List (Nm × Nat)) : ∀ v ∈ nmCs l, v.oneCell' = true := by
  intro v hv
  obtain ⟨f, _, hf⟩ := List.mem_flatMap.1 hv
  simp only [nmC, List.mem_cons, List.not_mem_nil, or_false] at hf
  rcases hf with rfl | rfl <;> rfl
theorem nmCs_snoc (l : List (Nm × Nat)) (p : Nm × Nat) : nmCs (l ++ [p]) = nmCs l ++ nmC p := rows_snoc l p
theorem nmCs_append (l m : List (Nm × Nat)) : nmCs (l ++ m) = nmCs l ++ nmCs m := by unfold nmCs; rw [List.flatMap_append]
structure RFi where
  a : Option Addr
  c : Nat
  f : Fi
def rfC (x : RFi) : List Value := [.slice x.a x.f.bs.length x.c, .int .i64 (x.f.sf : Int)]
def rfCs (l : List RFi) : List Value := l.flatMap rfC
theorem rfC_len : ∀ c, (rfC c).length = 2 := fun _ => rfl
theorem rfCs_len (l : List RFi) : (rfCs l).length = l.length * 2 := rows_len rfC_len l
def rfH (x : RFi) : HProp := own x.a x.c 5 1 (bcells x.f.bs)
structure RLay where
  fa : Option Addr
  fc : Nat
  sa : Option Addr
  sc : Nat
  ca : Option Addr
  cc : Nat
  pa : Option Addr
  pc : Nat
  fl : List RFi
  rc : List Ch
def rkC (s : Ds) (y : RLay) : List Value :=
  [.int .i64 (s.space : Int), .slice y.fa s.files.length y.fc, .slice y.sa s.safe.length y.sc, .slice y.ca s.chg.length y.cc, .int .i64 (s.acts : Int), .slice y.pa s.plan.length y.pc, .bool s.dark]
def rkL (b : Nat) (s : Ds) (y : RLay) : List HProp :=
  [pts b 70 (rkC s y), own y.fa y.fc 93 2 (rfCs y.fl), stars (y.fl.map rfH), own y.sa y.sc 113 2 (nmCs s.safe), own y.ca y.cc 116 3 (chCs y.rc), own y.pa y.pc 119 3 (ftCs s.plan)]
/-- a change that takes a name away names no file that counts -/
def norm (c : Ch) : Ch := if c.to = [] then ⟨c.fr, [], 0⟩ else c
structure RLayOk (s : Ds) (y : RLay) : Prop where
  fl : y.fl.map (·.f) = s.files
  rc : y.rc.map norm = s.chg
def Rk (b : Nat) (s : Ds) : HProp := fun h => ∃ y, RLayOk s y ∧ stars (rkL b s y) h
theorem open_rk {P : Program} {f : FuncId} {args : List Value} {pre : Hp → Prop} {H : List HProp} {R : Value → List HProp → Prop} {b : Nat} {s : Ds} (h : ∀ y, RLayOk s y → FnS P f args pre (rkL b s y ++ H) R) : FnS P f args pre (Rk b s :: H) R :=
  FnS.exL fun y => FnS.pureL fun hy => FnS.starsL (h y hy)
theorem g_openrk {n : Nat} {ds : List Deferred} {F : Frm} {K : Act → World → Prop} {σ : Slots} {H : List HProp} {b : Nat} {s : Ds} (h : ∀ y, RLayOk s y → G n ds F K σ (rkL b s y ++ H)) : G n ds F K σ (Rk b s :: H) :=
  g_ex fun y => g_pure fun hy => g_stars (h y hy)
theorem close_rk {b : Nat} {s : Ds} {y : RLay} {H : List HProp} {h : Hp} (hy : RLayOk s y) (st : starL (rkL b s y ++ H) h) : starL (Rk b s :: H) h :=
  starL_cons_mono (fun _ p => ⟨y, hy, p⟩) (stars_of st)
theorem rk_in {b : Nat} {s : Ds} {h : Hp} (o : ∃ k, Rk b s k ∧ Le k h) : ∃ y, RLayOk s y ∧ InL (rkL b s y) h := by
  obtain ⟨k, ⟨y, hy, p⟩, l⟩ := o
  exact ⟨y, hy, starL_InL p l⟩
theorem rlay_len {s : Ds} {y : RLay} (hy : RLayOk s y) : y.fl.length = s.files.length := by rw [← hy.fl]; simp
theorem rrc_len {s : Ds} {y : RLay} (hy : RLayOk s y) : y.rc.length = s.chg.length := by rw [← hy.rc]; simp
theorem rlay_at {s : Ds} {y : RLay} (hy : RLayOk s y) {i : Nat} (hi : i < s.files.length) : ∃ x, y.fl[i]? = some x ∧ x.f = fileM s i := by
  have h1 := fileM_at hi
  rw [← hy.fl, List.getElem?_map, Option.map_eq_some_iff] at h1
  exact h1
theorem app1_norm (l : List (Nm × Nat)) (c : Ch) : app1 l (norm c) = app1 l c := by
  unfold norm app1
  by_cases h : c.to = []
  · rw [if_pos h, if_pos h]; simp
  · rw [if_neg h]
theorem afterL_norm (l : List (Nm × Nat)) (cs : List Ch) : afterL l (cs.map norm) = afterL l cs := by
  induction cs generalizing l with
  | nil => rfl
  | cons c cs ih =>
    simp only [List.map_cons, afterL, List.foldl_cons] at ih ⊢
    rw [app1_norm]
    exact ih _
theorem own_emp {b : Nat} {e : TypeId} {cs : List Value} (sz : Nat) {k : Hp} (p : pts b e cs k) (hc : cs = []) : own (some ⟨b, 0, none⟩) 0 e sz [] k := by
  subst hc
  exact own_of_pts p 0 sz (by simp) (by simp [maxLen])
/-- one row of all -/
theorem rf_perm0 {fl : List RFi} {i : Nat} {x : RFi} (h : fl[i]? = some x) : List.Perm fl (x :: fl.eraseIdx i) := by
  obtain ⟨hi, hg⟩ := List.getElem?_eq_some_iff.1 h
  have := List.perm_middle (a := x) (l₁ := fl.take i) (l₂ := fl.drop (i + 1))
  rw [List.eraseIdx_eq_take_drop_succ]
  refine List.Perm.trans ?_ this
  rw [← hg, ← List.drop_eq_getElem_cons hi, List.take_append_drop]
theorem rf_perm {fl : List RFi} {i : Nat} {x : RFi} (h : fl[i]? = some x) (x' : RFi) : List.Perm (fl.set i x') (x' :: fl.eraseIdx i) := by
  obtain ⟨hi, hg⟩ := List.getElem?_eq_some_iff.1 h
  rw [List.set_eq_take_append_cons_drop, if_pos hi, List.eraseIdx_eq_take_drop_succ]
  exact List.perm_middle
theorem g_rfile {n : Nat} {ds : List Deferred} {F : Frm} {K : Act → World → Prop} {σ : Slots} {H : List HProp} {fl : List RFi} {i : Nat} {x : RFi} (h : fl[i]? = some x)
    (hg : G n ds F K σ (own x.a x.c 5 1 (bcells x.f.bs) :: stars ((fl.eraseIdx i).map rfH) :: H)) : G n ds F K σ (stars (fl.map rfH) :: H) :=
  g_heap (fun _ s => stars_perm ((rf_perm0 h).map rfH) s) (g_heap (fun _ s => stars_cons s) hg)
theorem rfile_back {H : List HProp} {fl : List RFi} {i : Nat} {x : RFi} (h : fl[i]? = some x) (x' : RFi) {k : Hp} (s : starL (own x'.a x'.c 5 1 (bcells x'.f.bs) :: stars ((fl.eraseIdx i).map rfH) :: H) k) : starL (stars ((fl.set i x').map rfH) :: H) k := by
  have s2 := stars_push s
  refine stars_perm ?_ s2
  have p := ((rf_perm h x').map rfH).symm
  rw [List.map_cons] at p
  exact (List.perm_append_singleton _ _).trans p
def atI (l : List (Nm × Nat)) (n : Nm) : Int := match atM l n with | none => -1 | some i => (i : Int)
end Go.Proofs.Ytncmmhfgcgnojaa
