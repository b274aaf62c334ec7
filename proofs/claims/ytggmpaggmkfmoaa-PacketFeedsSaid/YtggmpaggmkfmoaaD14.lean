/- Packets, the reference: its Feeder. -/
import Derived.Test.YtggmpaggmkfmoaaA15
import Derived.Test.YtggmpaggmkfmoaaD12
set_option maxRecDepth 100000
namespace Go.Proofs.Ytggmpaggmkfmoaa
open Go Go.Eng

/-- bytes that may be read -/
def rdB (a : Option Addr) (l : List UInt8) : HProp := fun h => Rdl h a (bcells l)
theorem rdB_in {a : Option Addr} {l : List UInt8} {h : Hp} (o : ∃ k, rdB a l k ∧ Le k h) : Rdl h a (bcells l) := by
  obtain ⟨k, p, l⟩ := o
  exact p.mono l
theorem rdB_of {a : Option Addr} {c : Nat} {l : List UInt8} (k : Hp) (p : own a c 5 1 (bcells l) k) : rdB a l k := own_rdl p
def rfC (limit : Int) (a : Option Addr) (n c : Nat) (taken : Nat) (br : Bool) : List Value := [.int .i64 limit, .slice a n c, .int .i64 (taken : Int), .bool br]
theorem rnew_fn (limit : Int) : FnS Try.prog 28 [.int .i64 limit] (fun _ => True) [] (fun v H => ∃ b, v = .pointer (some ⟨b, 0, none⟩) ∧ H = [pts b 97 (rfC limit none 0 0 0 false)]) := by
  refine fn_body Try.func28 rfl Try.ntmps28 rfl ?_
  intro F hF
  refine g_sr ?_
  refine Li As ?_
  refine g_ne ?_
  refine g_sr ?_
  refine Li Mv ?_
  refine Li (Bd T.zc_97 T.st_97) ?_
  refine Lp (oB fun b1 => ?_)
  refine Li As ?_
  refine g_ne ?_
  refine g_ret ?_
  refine Rt [pts b1 97 (rfC limit none 0 0 0 false)] Try.results28 ?_
  exact ⟨b1, rfl, rfl⟩
theorem rbroken_fn (b : Nat) (limit : Int) (a : Option Addr) (n c taken : Nat) (br : Bool) :
    FnS Try.prog 65 [.pointer (some ⟨b, 0, none⟩)] (fun h => ∃ k, pts b 97 (rfC limit a n c taken br) k ∧ Le k h) [] (fun v H => v = .bool br ∧ H = []) := by
  refine fn_body Try.func65 rfl Try.ntmps65 rfl ?_
  intro F hF
  refine g_sr ?_
  refine Li As ?_
  refine g_ne ?_
  refine g_sr ?_
  refine Li Mv ?_
  refine Li Nc ?_
  refine Li (Fa T.fld_97_3) ?_
  refine Lp (oL T.sc_4 ?_)
  refine Li As ?_
  refine g_ne ?_
  refine g_ret ?_
  refine Rt [] Try.results65 ?_
  exact ⟨rfl, rfl⟩
theorem rtaken_fn (b : Nat) (limit : Int) (a : Option Addr) (n c taken : Nat) (br : Bool) :
    FnS Try.prog 66 [.pointer (some ⟨b, 0, none⟩)] (fun h => ∃ k, pts b 97 (rfC limit a n c taken br) k ∧ Le k h) [] (fun v H => v = .int .i64 (taken : Int) ∧ H = []) := by
  refine fn_body Try.func66 rfl Try.ntmps66 rfl ?_
  intro F hF
  refine g_sr ?_
  refine Li As ?_
  refine g_ne ?_
  refine g_sr ?_
  refine Li Mv ?_
  refine Li Nc ?_
  refine Li (Fa T.fld_97_2) ?_
  refine Lp (oL T.sc_3 ?_)
  refine Li As ?_
  refine g_ne ?_
  refine g_ret ?_
  refine Rt [] Try.results66 ?_
  exact ⟨rfl, rfl⟩
/-- how much a Feeder holds of what it has not told -/
def heldN (limit : Nat) (V : List UInt8) : Nat := if 24 ≤ V.length ∧ (limit : Int) < (wholeN V : Int) - frontN V ∧ frontN V < V.length then frontN V else V.length
theorem rheld_fn (b : Nat) (limit : Int) (a : Option Addr) (c taken : Nat) (br : Bool) (V : List UInt8) (hc : V.length ≤ c) (hl : V.length ≤ 1099511627776) (h1 : -9223372036854775808 ≤ limit) (h2 : limit ≤ 9223372036854775807) :
    FnS Try.prog 64 [.pointer (some ⟨b, 0, none⟩)] (fun h => (∃ k, pts b 97 (rfC limit a V.length c taken br) k ∧ Le k h) ∧ Rdl h a (bcells V)) [] (fun v H => v = .int .i64 (heldN limit.toNat V : Int) ∧ H = []) := by
  refine fn_body Try.func64 rfl Try.ntmps64 rfl ?_
  rintro F ⟨hF, hR⟩
  have q2 := n2_lt V 2
  have q4 := n4_lt V 8
  have p4 := byt_lt V 4
  have hfr : frontN V = 24 + byt V 4 + n2 V 2 := rfl
  have hwh : wholeN V = 24 + n4 V 8 := rfl
  refine g_sr ?_
  refine Li As ?_
  refine g_ne ?_
  refine g_sr ?_
  refine Li Mv ?_
  refine Li Nc ?_
  refine Li (Fa T.fld_97_0) ?_
  refine Lp (oL T.sc_3 ?_)
  refine Li As ?_
  refine g_ne ?_
  refine g_seq ?_
  refine g_sr ?_
  refine Li Mv ?_
  refine Li Cm ?_
  refine g_ne ?_
  refine g_mid (ι := Unit) [3] (fun u => True) (fun u => [(3, .int .i64 (limit.toNat : Int))]) (fun u => []) ?_ ?_
  · refine g_cond rfl ?_ ?_
    · intro h0
      replace h0 := nrm h0
      refine g_region ?_
      refine Li As ?_
      refine g_nil ?_
      refine g_slot (t := 3) (v' := .int .i64 (limit.toNat : Int)) rfl (by refine congrArg (Value.int .i64) ?_; omega) ?_
      refine Me (()) (trivial)
    · intro h0
      replace h0 := nrm h0
      refine g_skip ?_
      refine g_slot (t := 3) (v' := .int .i64 (limit.toNat : Int)) rfl (by refine congrArg (Value.int .i64) ?_; omega) ?_
      refine Me (()) (trivial)
  rintro u hI
  refine g_sr ?_
  refine Li Mv ?_
  refine Li Nc ?_
  refine Li (Fa T.fld_97_1) ?_
  refine Lp (oL T.sc_37 ?_)
  refine Li As ?_
  refine g_ne ?_
  refine g_seq ?_
  refine g_seq ?_
  refine g_mid (ι := Unit) [15, 16, 17, 18, 19, 20, 21, 22, 23, 24, 25, 26, 27, 28, 29, 30, 31, 32, 33] (fun u => True) (fun u => [(33, .bool (decide (24 ≤ V.length) && decide ((limit.toNat : Int) < (wholeN V : Int) - frontN V) && decide (frontN V < V.length)))]) (fun u => []) ?_ ?_
  · have wh := fun (h : 12 ≤ V.length) => rwhole_fn V a _ c rfl hc h
    have fr := fun (h : 5 ≤ V.length) => rfront_fn V a _ c rfl hc h
    refine g_region ?_
    refine Li Mv ?_
    refine Li (Ln T.sl_37) ?_
    refine Li Cm ?_
    refine Li Mv ?_
    refine g_split (t := 18) rfl ?_ ?_
    · intro hb0
      replace hb0 := nrm hb0
      refine Li Mv ?_
      refine Lp (oC T.fn_60 rfl rfl (wh (by omega)) .nil (fun _ le _ => hR.mono le) ?_)
      rintro v H' ⟨rfl, rfl⟩
      try simp only [nap, cap]
      refine Li Mv ?_
      refine Lp (oC T.fn_61 rfl rfl (fr (by omega)) .nil (fun _ le _ => hR.mono le) ?_)
      rintro v H' ⟨rfl, rfl⟩
      try simp only [nap, cap]
      refine Li Im ?_
      refine Li Mv ?_
      refine Li Cm ?_
      refine Li Pt ?_
      refine Li Mv ?_
      refine g_split (t := 27) rfl ?_ ?_
      · intro hb1
        replace hb1 := nrm hb1
        refine Li Mv ?_
        refine Li (Ln T.sl_37) ?_
        refine Li Mv ?_
        refine Lp (oC T.fn_61 rfl rfl (fr (by omega)) .nil (fun _ le _ => hR.mono le) ?_)
        rintro v H' ⟨rfl, rfl⟩
        try simp only [nap, cap]
        refine Li Cm ?_
        refine Li Pt ?_
        refine g_nil ?_
        refine Me (()) (trivial)
      · intro hb1
        replace hb1 := nrm hb1
        refine Lx ?_
        refine Lx ?_
        refine Lx ?_
        refine Lx ?_
        refine Lx ?_
        refine Li Pf ?_
        refine g_nil ?_
        refine Me (()) (trivial)
    · intro hb0
      replace hb0 := nrm hb0
      refine Lx ?_
      refine Lx ?_
      refine Lx ?_
      refine Lx ?_
      refine Lx ?_
      refine Lx ?_
      refine Lx ?_
      refine Li Pf ?_
      refine Li Mv ?_
      refine Lx ?_
      refine Lx ?_
      refine Lx ?_
      refine Lx ?_
      refine Lx ?_
      refine Li Pf ?_
      refine g_nil ?_
      refine Me (()) (trivial)
  rintro u hI
  refine g_cond rfl ?_ ?_
  · intro hx
    replace hx := nrm hx
    refine g_sr ?_
    refine Li Mv ?_
    refine Lp (oC T.fn_61 rfl rfl (rfront_fn V a _ c rfl hc (by omega)) .nil (fun _ le _ => hR.mono le) ?_)
    rintro v H' ⟨rfl, rfl⟩
    try simp only [nap, cap]
    refine Li As ?_
    refine g_ne ?_
    refine g_ret ?_
    refine e_then_ret ?_
    refine Rt [] Try.results64 ?_
    refine ⟨?_, rfl⟩
    unfold heldN
    rw [if_pos (by omega)]
  · intro hx
    replace hx := nrm hx
    refine g_skip ?_
    refine e_then ?_
    refine g_sr ?_
    refine Li Mv ?_
    refine Li (Ln T.sl_37) ?_
    refine Li As ?_
    refine g_ne ?_
    refine g_ret ?_
    refine Rt [] Try.results64 ?_
    refine ⟨?_, rfl⟩
    unfold heldN
    rw [if_neg (by omega)]
end Go.Proofs.Ytggmpaggmkfmoaa

