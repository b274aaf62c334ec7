/- Counts: the names' words. -/
import Derived.Test.YtdmepoiijgejhaaDoorK7
import Derived.Test.YtdmepoiijgejhaaDoorShf
set_option maxRecDepth 100000
namespace Go.Proofs.YtdmepoiijgejhaaDoor
open Go Go.Eng

def txt : List UInt8 := ((([99, 109, 100, 95, 103, 101, 116, 32, 99, 109, 100, 95, 115, 101, 116, 32, 99, 109, 100, 95, 116, 111, 117, 99, 104, 32, 99, 109, 100, 95, 102, 108, 117, 115, 104, 32, 99, 109, 100, 95, 109].append [101, 116, 97, 32, 103, 101, 116, 95, 104, 105, 116, 115, 32, 103, 101, 116, 95, 109, 105, 115, 115, 101, 115, 32, 103, 101, 116, 95, 101, 120, 112, 105, 114, 101, 100, 32, 103, 101, 116, 95, 102]).append ([108, 117, 115, 104, 101, 100, 32, 100, 101, 108, 101, 116, 101, 95, 104, 105, 116, 115, 32, 100, 101, 108, 101, 116, 101, 95, 109, 105, 115, 115, 101, 115, 32, 105, 110, 99, 114, 95, 104, 105, 116].append [115, 32, 105, 110, 99, 114, 95, 109, 105, 115, 115, 101, 115, 32, 100, 101, 99, 114, 95, 104, 105, 116, 115, 32, 100, 101, 99, 114, 95, 109, 105, 115, 115, 101, 115, 32, 99, 97, 115, 95, 104])).append (([105, 116, 115, 32, 99, 97, 115, 95, 98, 97, 100, 118, 97, 108, 32, 99, 97, 115, 95, 109, 105, 115, 115, 101, 115, 32, 116, 111, 117, 99, 104, 95, 104, 105, 116, 115, 32, 116, 111, 117, 99].append [104, 95, 109, 105, 115, 115, 101, 115, 32, 101, 118, 105, 99, 116, 105, 111, 110, 115, 32, 114, 101, 99, 108, 97, 105, 109, 101, 100, 32, 114, 101, 102, 117, 115, 101, 100, 32, 116, 111, 116, 97]).append ([108, 95, 105, 116, 101, 109, 115, 32, 99, 117, 114, 114, 95, 105, 116, 101, 109, 115, 32, 98, 121, 116, 101, 115, 32, 116, 111, 116, 97, 108, 95, 99, 111, 110, 110, 101, 99, 116, 105, 111, 110].append [115, 32, 99, 117, 114, 114, 95, 99, 111, 110, 110, 101, 99, 116, 105, 111, 110, 115, 32, 99, 114, 97, 119, 108, 101, 100, 32, 98, 97, 100, 95, 108, 105, 110, 101, 115, 32, 109, 111, 118, 101, 100])))
/-- the words in their order -/
def words : List (List UInt8) := [[99, 109, 100, 95, 103, 101, 116], [99, 109, 100, 95, 115, 101, 116], [99, 109, 100, 95, 116, 111, 117, 99, 104], [99, 109, 100, 95, 102, 108, 117, 115, 104], [99, 109, 100, 95, 109, 101, 116, 97], [103, 101, 116, 95, 104, 105, 116, 115], [103, 101, 116, 95, 109, 105, 115, 115, 101, 115], [103, 101, 116, 95, 101, 120, 112, 105, 114, 101, 100], [103, 101, 116, 95, 102, 108, 117, 115, 104, 101, 100], [100, 101, 108, 101, 116, 101, 95, 104, 105, 116, 115], [100, 101, 108, 101, 116, 101, 95, 109, 105, 115, 115, 101, 115], [105, 110, 99, 114, 95, 104, 105, 116, 115], [105, 110, 99, 114, 95, 109, 105, 115, 115, 101, 115], [100, 101, 99, 114, 95, 104, 105, 116, 115], [100, 101, 99, 114, 95, 109, 105, 115, 115, 101, 115], [99, 97, 115, 95, 104, 105, 116, 115], [99, 97, 115, 95, 98, 97, 100, 118, 97, 108], [99, 97, 115, 95, 109, 105, 115, 115, 101, 115], [116, 111, 117, 99, 104, 95, 104, 105, 116, 115], [116, 111, 117, 99, 104, 95, 109, 105, 115, 115, 101, 115], [101, 118, 105, 99, 116, 105, 111, 110, 115], [114, 101, 99, 108, 97, 105, 109, 101, 100], [114, 101, 102, 117, 115, 101, 100], [116, 111, 116, 97, 108, 95, 105, 116, 101, 109, 115], [99, 117, 114, 114, 95, 105, 116, 101, 109, 115], [98, 121, 116, 101, 115], [116, 111, 116, 97, 108, 95, 99, 111, 110, 110, 101, 99, 116, 105, 111, 110, 115], [99, 117, 114, 114, 95, 99, 111, 110, 110, 101, 99, 116, 105, 111, 110, 115], [99, 114, 97, 119, 108, 101, 100], [98, 97, 100, 95, 108, 105, 110, 101, 115], [109, 111, 118, 101, 100]]
theorem fields_txt : Lib.fields txt = words := by kernel_rfl
theorem txt_len : txt.length = 329 := by kernel_rfl
theorem txt_ascii : (txt.all fun c => decide (c.toNat < 128)) = true := by kernel_rfl
theorem words_len : words.length = 31 := by kernel_rfl
/-- the library's table of white space -/
def tabC : List Value := (List.range 256).map fun c => .int .u8 (if Lib.isSp (UInt8.ofNat c) then 1 else 0)
def Tab (h : Hp) : Prop := Rdl h (some ⟨0, 0, none⟩) tabC
theorem Tab.mono {h k : Hp} (t : Tab h) (le : Le h k) : Tab k := Rdl.mono t le
def scells (l : List (List UInt8)) : List Value := l.map strv
theorem fields_fn (l : List UInt8) (hs : l.length < 4294967281) (ha : ∀ c ∈ l, c.toNat < 128) :
    FnS Tryd.prog 44 [strv l] Tab [] (fun v H => ∃ b, v = .slice (some ⟨b, 0, none⟩) (Lib.fields l).length (Lib.fields l).length ∧ H = [pts b 9 (scells (Lib.fields l))]) := by
  intro F w hp s
  have hsz : (ByteArray.mk l.toArray).size = l.length := by show l.toArray.size = l.length; simp
  have c := Any.strings_Fields_core Tryd.lays157 (by kernel_rfl) ⟨l.toArray⟩ w (by rw [hsz]; exact hs) (fun j b hj => ha b (by
      have : (ByteArray.mk l.toArray).data.toList = l := rfl
      rw [this] at hj; exact List.mem_of_getElem? hj)) (fun c hc => by
      obtain ⟨ad, h1, h2⟩ := hp c (.int .u8 (if Lib.isSp (UInt8.ofNat c) then 1 else 0)) (by simp [tabC, hc])
      cases h1
      have := hcell_at s.frame h2
      have e : (⟨0, 0, none⟩ : Addr).add c = ⟨0, c, none⟩ := by unfold Addr.add; split <;> simp [*]
      rw [e] at this
      exact this)
  refine c.mono ?_
  rintro e w' ⟨rfl, rfl⟩
  exact ⟨_, _, rfl, ⟨_, rfl, rfl⟩, s.new 9 _⟩
def nameM (z : Int) : List UInt8 := if 1 ≤ z ∧ z ≤ 31 then words.getD (z.toNat - 1) [] else []
theorem Name_fn (z : Int) (hz1 : -9223372036854775808 ≤ z) (hz2 : z ≤ 9223372036854775807) : FnS Tryd.prog 21 [.int .i64 z] Tab [] (fun v H => v = strv (nameM z) ∧ H = []) := by
  unfold nameM
  refine fn_body Tryd.func21 rfl Tryd.ntmps21 rfl ?_
  intro F hF
  refine g_sr ?_
  refine Li As ?_
  refine g_ne ?_
  refine g_sr ?_
  refine Lp (oC T.fn_44 rfl rfl (fields_fn txt (by rw [txt_len]; omega) (fun c hc => by have := List.all_eq_true.1 txt_ascii c hc; simpa using this)) .nil (fun _ le _ => hF.mono le) ?_)
  rintro v H' ⟨bw, rfl, rfl⟩
  try simp only [nap, cap]
  rw [fields_txt, words_len]
  refine g_heap (fun _ s => starL_cons_mono (fun _ p => own_of_pts p 31 1 (by simp [scells, words_len]) (by simp [maxLen])) s) ?_
  generalize hw : (some (⟨bw, 0, none⟩ : Addr)) = aw
  have a0 : aw.isSome = true := by rw [← hw]; rfl
  refine Li As ?_
  refine g_ne ?_
  refine g_seq ?_
  refine g_seq ?_
  refine g_mid (ι := Unit) [5, 6, 7, 8, 9, 10, 11, 12] (fun u => True) (fun u => [(12, .bool (decide (z < 1) || decide (31 < z)))]) (fun u => [own aw 31 9 1 (scells words)]) ?_ ?_
  · refine g_region ?_
    refine Li Mv ?_
    refine Li Cm ?_
    refine Li Mv ?_
    refine g_split (t := 7) rfl ?_ ?_
    · intro hb0
      replace hb0 := nrm hb0
      refine Lx ?_
      refine Lx ?_
      refine Lx ?_
      refine Lx ?_
      refine Li Pt ?_
      refine g_nil ?_
      refine Me (()) (trivial)
    · intro hb0
      replace hb0 := nrm hb0
      refine Li Mv ?_
      refine Li Mv ?_
      refine Li (Ln T.sl_29) ?_
      refine Li Cm ?_
      refine Li Pf ?_
      refine g_nil ?_
      refine Me (()) (trivial)
  rintro u hI
  refine g_cond rfl ?_ ?_
  · intro hz
    replace hz := nrm hz
    rw [if_neg (by omega)]
    refine g_sr ?_
    refine Li As ?_
    refine g_ne ?_
    refine g_ret ?_
    refine e_then_ret ?_
    refine Rt [] Tryd.results21 ?_
    exact ⟨rfl, rfl⟩
  · intro hz
    replace hz := nrm hz
    rw [if_pos (by omega)]
    obtain ⟨j, rfl⟩ : ∃ j : Nat, z = ((j + 1 : Nat) : Int) := ⟨z.toNat - 1, by omega⟩
    have hj : j < words.length := by rw [words_len]; omega
    have e1 : (scells words)[j]? = some (strv (words.getD j [])) := by simp [scells, List.getD_eq_getElem?_getD, hj]
    refine g_skip ?_
    refine e_then ?_
    refine g_sr ?_
    refine Li Mv ?_
    refine Li Mv ?_
    refine Li Im ?_
    refine g_slot (t := 15) (v' := .int .i64 (j : Int)) rfl (by refine congrArg (Value.int .i64) ?_; omega) ?_
    refine Li (Ix T.sl_29) ?_
    refine Lp (oL T.sc_9 ?_)
    refine Li As ?_
    refine g_ne ?_
    refine g_ret ?_
    refine Rt [] Tryd.results21 ?_
    exact ⟨rfl, rfl⟩
end Go.Proofs.YtdmepoiijgejhaaDoor

