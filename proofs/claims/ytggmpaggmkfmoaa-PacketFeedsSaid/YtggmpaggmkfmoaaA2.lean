/- Packets: what may begin a packet, and how long its parts are. -/
import Derived.Test.YtggmpaggmkfmoaaA1
set_option maxRecDepth 100000
namespace Go.Proofs.Ytggmpaggmkfmoaa
open Go Go.Eng

def n2 (l : List UInt8) (i : Nat) : Nat := num ((l.drop i).take 2)
def n4 (l : List UInt8) (i : Nat) : Nat := num ((l.drop i).take 4)
theorem n2_lt (l : List UInt8) (i : Nat) : n2 l i < 65536 := by
  have h := num_lt ((l.drop i).take 2)
  have h2 : ((l.drop i).take 2).length ≤ 2 := List.length_take_le _ _
  have : 256 ^ ((l.drop i).take 2).length ≤ 256 ^ 2 := Nat.pow_le_pow_right (by decide) h2
  unfold n2; omega
theorem n4_lt (l : List UInt8) (i : Nat) : n4 l i < 4294967296 := by
  have h := num_lt ((l.drop i).take 4)
  have h2 : ((l.drop i).take 4).length ≤ 4 := List.length_take_le _ _
  have : 256 ^ ((l.drop i).take 4).length ≤ 256 ^ 4 := Nat.pow_le_pow_right (by decide) h2
  unfold n4; omega
/-- how many bytes head, extras and key have; how many the packet has -/
def frontN (l : List UInt8) : Nat := 24 + byt l 4 + n2 l 2
def wholeN (l : List UInt8) : Nat := 24 + n4 l 8

theorem cut2 {h : Hp} {a : Option Addr} {l : List UInt8} (r : Rdl h a (bcells l)) (i m k : Nat) (hm : m = i → k = 0) : Rdl h (cutA a i m (i * 1)) (bcells ((l.drop i).take k)) := by
  have := r.cut i m (i * 1) k hm
  rw [bcells_take, bcells_drop]; simpa using this
theorem told16_at (l : List UInt8) (a : Option Addr) (i m c : Nat) (h2 : i + 2 ≤ l.length) (hm : m ≠ i) :
    FnS Try.prog 79 [.slice (cutA a i m (i * 1)) ((i + 2) - i) c] (fun h => Rdl h a (bcells l)) [] (fun v H => v = .int .u16 (n2 l i : Int) ∧ H = []) := by
  have hlen : (i + 2) - i = ((l.drop i).take 2).length := by simp; omega
  have h := told16 ((l.drop i).take 2) (cutA a i m (i * 1)) ((i + 2) - i) c hlen (by simp; omega)
  intro F w hp hs
  refine (h F w (cut2 hp i m 2 (fun e => absurd e hm)) hs).mono ?_
  rintro e w' ⟨v, H', rfl, ⟨rfl, rfl⟩, st⟩
  refine ⟨_, _, rfl, ⟨?_, rfl⟩, st⟩
  have := n2_lt l i
  rw [Nat.mod_eq_of_lt (show num ((l.drop i).take 2) < 65536 from this)]; rfl
theorem told32_at (l : List UInt8) (a : Option Addr) (i m c : Nat) (h2 : i + 4 ≤ l.length) (hm : m ≠ i) :
    FnS Try.prog 80 [.slice (cutA a i m (i * 1)) ((i + 4) - i) c] (fun h => Rdl h a (bcells l)) [] (fun v H => v = .int .u32 (n4 l i : Int) ∧ H = []) := by
  have hlen : (i + 4) - i = ((l.drop i).take 4).length := by simp; omega
  have h := told32 ((l.drop i).take 4) (cutA a i m (i * 1)) ((i + 4) - i) c hlen (by simp; omega)
  intro F w hp hs
  refine (h F w (cut2 hp i m 4 (fun e => absurd e hm)) hs).mono ?_
  rintro e w' ⟨v, H', rfl, ⟨rfl, rfl⟩, st⟩
  refine ⟨_, _, rfl, ⟨?_, rfl⟩, st⟩
  have := n4_lt l i
  rw [Nat.mod_eq_of_lt (show num ((l.drop i).take 4) < 4294967296 from this)]; rfl

theorem whole_fn (l : List UInt8) (a : Option Addr) (m c : Nat) (hm : m = l.length) (hc : m ≤ c) (h12 : 12 ≤ l.length) :
    FnS Try.prog 56 [.slice a m c] (fun h => Rdl h a (bcells l)) [] (fun v H => v = .int .i64 (wholeN l : Int) ∧ H = []) := by
  refine fn_body Try.func56 rfl Try.ntmps56 rfl ?_
  intro F hF
  have hn := n4_lt l 8
  refine g_sr ?_
  refine Li As ?_
  refine g_ne ?_
  refine g_sr ?_
  refine Li Mv ?_
  refine Li (Sl 8 12 12 T.sl_37) ?_
  refine Lp (oC T.fn_80 rfl rfl (told32_at l a 8 12 (12 - 8) (by omega) (by omega)) .nil (fun _ le _ => hF.mono le) ?_)
  rintro v H' ⟨rfl, rfl⟩
  try simp only [nap, cap]
  refine Li (Cv T.u_3 T.us_85) ?_
  refine Li Im ?_
  refine Li As ?_
  refine g_ne ?_
  refine g_ret ?_
  refine Rt [] Try.results56 ?_
  exact ⟨rfl, rfl⟩
theorem front_fn (l : List UInt8) (a : Option Addr) (m c : Nat) (hm : m = l.length) (hc : m ≤ c) (h5 : 5 ≤ l.length) :
    FnS Try.prog 58 [.slice a m c] (fun h => Rdl h a (bcells l)) [] (fun v H => v = .int .i64 (frontN l : Int) ∧ H = []) := by
  refine fn_body Try.func58 rfl Try.ntmps58 rfl ?_
  intro F hF
  have hn := n2_lt l 2
  have hb := byt_lt l 4
  refine g_sr ?_
  refine Li As ?_
  refine g_ne ?_
  refine g_seq ?_
  refine g_drw T.mix .nil fun F1 le1 hin1 back1 => ?_
  have hF := hF.mono le1
  refine Dt 0 rfl Mv ?_
  refine Dt 1 rfl (Ix (j := 4) T.sl_37) ?_
  refine Dt 2 rfl (Lf T.sc_5) ?_
  refine Dt 3 rfl (Cv T.u_3 T.us_5) ?_
  refine Dt 4 rfl Im ?_
  refine Dt 5 rfl Mv ?_
  refine Dt 6 rfl (Sl 2 4 4 T.sl_37) ?_
  refine Dn 7 ?_
  refine Do rfl (oC T.fn_79 rfl rfl (told16_at l a 2 4 (4 - 2) (by omega) (by omega)) .nil (fun _ le _ => hF.mono le) ?_)
  rintro v H' ⟨rfl, rfl⟩
  try simp only [nap, cap]
  refine gh_next ?_
  refine Dt 8 rfl (Cv T.u_3 T.us_83) ?_
  refine Dt 9 rfl Im ?_
  refine Dt 10 rfl As ?_
  refine gh_done (by kernel_rfl) back1 ?_
  refine e_then ?_
  refine g_ret ?_
  refine Rt [] Try.results58 ?_
  exact ⟨rfl, rfl⟩
theorem copied_fn (l : List UInt8) (a : Option Addr) (m c : Nat) (hm : m = l.length) (hl : l.length < 4611686018427387904) (hbig : l.length ≤ 281474976710656) :
    FnS Try.prog 82 [.slice a m c] (fun h => Rdl h a (bcells l)) [] (fun v H => ∃ b k, v = .slice b l.length k ∧ H = [own b k 5 1 (bcells l)]) := by
  refine fn_body Try.func82 rfl Try.ntmps82 rfl ?_
  intro F hF
  refine g_sr ?_
  refine Li As ?_
  refine g_ne ?_
  refine g_seq ?_
  refine g_sr ?_
  refine Li Mv ?_
  refine Li (Ln T.sl_37) ?_
  refine Li Cm ?_
  refine g_ne ?_
  refine g_cond rfl ?_ ?_
  · intro h0
    replace h0 := nrm h0
    refine g_sr ?_
    refine Li As ?_
    refine g_ne ?_
    refine g_ret ?_
    refine e_then_ret ?_
    refine g_nilrow 5 1 ?_
    refine Rt [own none 0 5 1 []] Try.results82 ?_
    have : l = [] := List.eq_nil_of_length_eq_zero (by omega)
    subst this
    exact ⟨none, 0, rfl, rfl⟩
  · intro h0
    replace h0 := nrm h0
    refine g_skip ?_
    refine e_then ?_
    refine g_sr ?_
    refine Li Mv ?_
    refine Li (Ln T.sl_37) ?_
    refine Lp (oM (m) (m) T.ap_37 fun b1 => ?_)
    refine Li As ?_
    refine g_ne ?_
    refine g_sr ?_
    refine Li Mv ?_
    refine Li Mv ?_
    have hr := (zrep_one (.int .u8 0) (m * 1)).symm
    refine Lp (op_copy T.ap_37 rfl rfl rfl rfl .here (src_slice (news := bcells l) (by simp [hm]) fun h le _ => hF.mono le) bcells_one (by rw [zrep_length]; omega) rfl ?_)
    have hz : setL (zrep [.int .u8 0] (m * 1)) 0 ((bcells l).take (min m m * 1)) = bcells l := by
      rw [Nat.min_self, List.take_of_length_le (by simp [hm]), setL_eq (by rw [zrep_length]; simp [hm])]
      simp [hm, zrep_length]
    rw [hz]
    refine g_heap (fun _ s => starL_cons_mono (fun _ p => own_of_pts p m 1 (by simp [hm]) (by simp only [maxLen]; omega)) s) ?_
    refine g_ne ?_
    refine g_sr ?_
    refine Li Mv ?_
    refine Li As ?_
    refine g_ne ?_
    refine g_ret ?_
    refine Rt [own (some ⟨b1, 0, none⟩) m 5 1 (bcells l)] Try.results82 ?_
    subst hm
    exact ⟨_, _, rfl, rfl⟩

end Go.Proofs.Ytggmpaggmkfmoaa

