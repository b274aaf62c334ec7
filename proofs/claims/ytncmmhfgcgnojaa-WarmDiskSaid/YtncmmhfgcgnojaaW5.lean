/- The disk: how it lies in memory. -/
import Derived.Test.YtncmmhfgcgnojaaW4
set_option maxRecDepth 100000
namespace Go.Proofs.Ytncmmhfgcgnojaa
open Go Go.Eng

def chC (c : Ch) : List Value := [strv c.fr, strv c.to, .int .i64 (c.fi : Int)]
def chCs (l : List Ch) : List Value := l.flatMap chC
theorem chC_len : ∀ c, (chC c).length = 3 := fun _ => rfl
def ftC (f : Flt) : List Value := [.int .i64 f.st, .int .i64 f.kd, .int .i64 f.pt]
def ftCs (l : List Flt) : List Value := l.flatMap ftC
theorem ftC_len : ∀ c, (ftC c).length = 3 := fun _ => rfl
/-- a file, and where it lies -/
structure FiL where
  b : Nat
  a : Option Addr
  c : Nat
  f : Fi
def fiC (x : FiL) : List Value := [.slice x.a x.f.bs.length x.c, .int .i64 (x.f.sf : Int)]
def fiP (x : FiL) : Value := .pointer (some ⟨x.b, 0, none⟩)
def fiH (x : FiL) : HProp := stars [pts x.b 89 (fiC x), own x.a x.c 5 1 (bcells x.f.bs)]
structure Lay where
  fa : Option Addr
  fc : Nat
  nm : Nat
  sm : Nat
  ca : Option Addr
  cc : Nat
  pa : Option Addr
  pc : Nat
  fl : List FiL
  es : List (Nm × Nat)
  ss : List (Nm × Nat)
def dkC (s : Ds) (y : Lay) : List Value :=
  [.int .i64 (s.space : Int), .int .i64 (s.acts : Int), .slice y.fa s.files.length y.fc, .map (some y.nm), .map (some y.sm), .slice y.ca s.chg.length y.cc, .slice y.pa s.plan.length y.pc, .bool s.dark]
def dkL (b : Nat) (s : Ds) (y : Lay) : List HProp :=
  [pts b 65 (dkC s y), own y.fa y.fc 87 1 (y.fl.map fiP), stars (y.fl.map fiH), mq .string y.nm (mes y.es), mq .string y.sm (mes y.ss), own y.ca y.cc 84 3 (chCs s.chg), own y.pa y.pc 119 3 (ftCs s.plan)]
structure LayOk (s : Ds) (y : Lay) : Prop where
  fl : y.fl.map (·.f) = s.files
  es : y.es.Perm (namesL s)
  ss : y.ss.Perm s.safe
/-- a disk -/
def Dk (b : Nat) (s : Ds) : HProp := fun h => ∃ y, LayOk s y ∧ stars (dkL b s y) h
theorem open_dk {P : Program} {f : FuncId} {args : List Value} {pre : Hp → Prop} {H : List HProp} {R : Value → List HProp → Prop} {b : Nat} {s : Ds} (h : ∀ y, LayOk s y → FnS P f args pre (dkL b s y ++ H) R) : FnS P f args pre (Dk b s :: H) R :=
  FnS.exL fun y => FnS.pureL fun hy => FnS.starsL (h y hy)
theorem g_opendk {n : Nat} {ds : List Deferred} {F : Frm} {K : Act → World → Prop} {σ : Slots} {H : List HProp} {b : Nat} {s : Ds} (h : ∀ y, LayOk s y → G n ds F K σ (dkL b s y ++ H)) : G n ds F K σ (Dk b s :: H) :=
  g_ex fun y => g_pure fun hy => g_stars (h y hy)
theorem close_dk {b : Nat} {s : Ds} {y : Lay} {H : List HProp} {h : Hp} (hy : LayOk s y) (st : starL (dkL b s y ++ H) h) : starL (Dk b s :: H) h :=
  starL_cons_mono (fun _ p => ⟨y, hy, p⟩) (stars_of st)
theorem dk_in {b : Nat} {s : Ds} {h : Hp} (o : ∃ k, Dk b s k ∧ Le k h) : ∃ y, LayOk s y ∧ InL (dkL b s y) h := by
  obtain ⟨k, ⟨y, hy, p⟩, l⟩ := o
  exact ⟨y, hy, starL_InL p l⟩
theorem inl_mono {L : List HProp} {h k : Hp} (i : InL L h) (l : Le h k) : InL L k := by
  induction L with
  | nil => trivial
  | cons A L ih => exact ⟨in_mono i.1 l, ih i.2⟩
theorem fi_in {fl : List FiL} {h : Hp} (o : ∃ k, stars (fl.map fiH) k ∧ Le k h) {x : FiL} (hx : x ∈ fl) : (∃ k, pts x.b 89 (fiC x) k ∧ Le k h) ∧ Rdl h x.a (bcells x.f.bs) := by
  have h1 := stars_at o hx
  have h2 := stars_in h1
  exact ⟨h2.1, own_in h2.2.1⟩
theorem lay_at {s : Ds} {y : Lay} (hy : LayOk s y) {i : Nat} (hi : i < s.files.length) : ∃ x, y.fl[i]? = some x ∧ x.f = fileM s i := by
  have h1 := fileM_at hi
  rw [← hy.fl, List.getElem?_map, Option.map_eq_some_iff] at h1
  exact h1
theorem lay_len {s : Ds} {y : Lay} (hy : LayOk s y) : y.fl.length = s.files.length := by rw [← hy.fl]; simp
theorem FnS.ent {P : Program} {f : FuncId} {args : List Value} {pre : Hp → Prop} {A B : List HProp} {R : Value → List HProp → Prop} (h : FnS P f args pre B R) (e : ∀ k, starL A k → starL B k) : FnS P f args pre A R := fun F w hp s => h F w hp (s.sub e)
/-- one file of all -/
theorem fl_perm {fl : List FiL} {i : Nat} {x : FiL} (h : fl[i]? = some x) (x' : FiL) : List.Perm (fl.set i x') (x' :: fl.eraseIdx i) := by
  obtain ⟨hi, hg⟩ := List.getElem?_eq_some_iff.1 h
  rw [List.set_eq_take_append_cons_drop, if_pos hi, List.eraseIdx_eq_take_drop_succ]
  exact List.perm_middle
theorem fl_perm0 {fl : List FiL} {i : Nat} {x : FiL} (h : fl[i]? = some x) : List.Perm fl (x :: fl.eraseIdx i) := by
  have := fl_perm h x
  obtain ⟨hi, hg⟩ := List.getElem?_eq_some_iff.1 h
  rwa [show fl.set i x = fl from by rw [← hg]; simp] at this
theorem g_file {n : Nat} {ds : List Deferred} {F : Frm} {K : Act → World → Prop} {σ : Slots} {H : List HProp} {fl : List FiL} {i : Nat} {x : FiL} (h : fl[i]? = some x)
    (hg : G n ds F K σ (pts x.b 89 (fiC x) :: own x.a x.c 5 1 (bcells x.f.bs) :: stars ((fl.eraseIdx i).map fiH) :: H)) : G n ds F K σ (stars (fl.map fiH) :: H) :=
  g_heap (fun _ s => stars_perm ((fl_perm0 h).map fiH) s) (g_heap (fun _ s => stars_cons s) (g_stars hg))
theorem file_back {H : List HProp} {fl : List FiL} {i : Nat} {x : FiL} (h : fl[i]? = some x) (x' : FiL) {k : Hp} (s : starL (pts x'.b 89 (fiC x') :: own x'.a x'.c 5 1 (bcells x'.f.bs) :: stars ((fl.eraseIdx i).map fiH) :: H) k) : starL (stars ((fl.set i x').map fiH) :: H) k := by
  have s1 : starL (stars [pts x'.b 89 (fiC x'), own x'.a x'.c 5 1 (bcells x'.f.bs)] :: stars ((fl.eraseIdx i).map fiH) :: H) k := stars_of (L := [_, _]) s
  have s2 := stars_push s1
  refine stars_perm ?_ s2
  have p := ((fl_perm h x').map fiH).symm
  rw [List.map_cons] at p
  exact (List.perm_append_singleton _ _).trans p
theorem kn_fi {F : Frm} {H R : List HProp} {fl : List FiL} {x : FiL} {j : Nat} {v : Value} (hx : x ∈ fl) (hv : (fiC x)[j]? = some v) (s : Sel H (stars (fl.map fiH)) R) : PKn F H (some ⟨x.b, j, none⟩) v :=
  ⟨_, rfl, fun h _ hin => by
    obtain ⟨⟨k, p, l⟩, _⟩ := fi_in (sel_in s h hin) hx
    exact hcell_mono l (pts_cell p hv)⟩
theorem lay_set {s : Ds} {y : Lay} (hy : LayOk s y) {i : Nat} {x' : FiL} {f' : Fi} (hf : x'.f = f') : (y.fl.set i x').map (·.f) = s.files.set i f' := by
  rw [List.map_set, hy.fl, hf]
theorem lay_ptr {fl : List FiL} {i : Nat} {x x' : FiL} (h : fl[i]? = some x) (hb : x'.b = x.b) : (fl.set i x').map fiP = fl.map fiP := by
  obtain ⟨hi, hg⟩ := List.getElem?_eq_some_iff.1 h
  rw [List.map_set]
  have : fiP x' = (fl.map fiP)[i]'(by simpa using hi) := by rw [List.getElem_map, hg]; unfold fiP; rw [hb]
  rw [this]; exact List.set_getElem_self _
end Go.Proofs.Ytncmmhfgcgnojaa
