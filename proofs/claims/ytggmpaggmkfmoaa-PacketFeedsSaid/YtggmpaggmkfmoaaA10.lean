/- Packets: the same packet? -/
import Derived.Test.YtggmpaggmkfmoaaA9
set_option maxRecDepth 100000
namespace Go.Proofs.Ytggmpaggmkfmoaa
open Go Go.Eng

def sameB (p q : Pkt) : Bool :=
  (p.reply == q.reply) && decide (p.op = q.op) && decide (p.status = q.status) && decide (p.opq = q.opq) && decide (p.token = q.token) && (p.large == q.large) && decide (p.key = q.key) && decide (p.ex = q.ex) && decide (p.val = q.val)
theorem sameB_iff (p q : Pkt) : sameB p q = true ↔ p = q := by
  obtain ⟨a1, a2, a3, a4, a5, a6, a7, a8, a9⟩ := p
  obtain ⟨b1, b2, b3, b4, b5, b6, b7, b8, b9⟩ := q
  simp only [sameB, Bool.and_eq_true, decide_eq_true_eq, beq_iff_eq, Pkt.mk.injEq]
  constructor
  · rintro ⟨⟨⟨⟨⟨⟨⟨⟨h1, h2⟩, h3⟩, h4⟩, h5⟩, h6⟩, h7⟩, h8⟩, h9⟩
    exact ⟨h1, h2, h3, h4, h5, h8, h7, h9, h6⟩
  · rintro ⟨h1, h2, h3, h4, h5, h8, h7, h9, h6⟩
    exact ⟨⟨⟨⟨⟨⟨⟨⟨h1, h2⟩, h3⟩, h4⟩, h5⟩, h6⟩, h7⟩, h8⟩, h9⟩
theorem sameB_refl (p : Pkt) : sameB p p = true := (sameB_iff p p).2 rfl

theorem num_fn (n : Int) : FnS Try.prog 17 [.int .i64 n] (fun _ => True) [] (fun v H => v = .int .i64 n ∧ H = []) := by
  refine fn_body Try.func17 rfl Try.ntmps17 rfl ?_
  intro F hF
  refine g_sr ?_
  refine Li As ?_
  refine g_ne ?_
  refine g_sr ?_
  refine Li Mv ?_
  refine Li As ?_
  refine g_ne ?_
  refine g_ret ?_
  refine Rt [] Try.results17 ?_
  exact ⟨rfl, rfl⟩

set_option maxHeartbeats 4000000 in
theorem same_fn (p q : Pkt) (ae av be bv : Option Addr) (ce cv de dv : Nat) :
    FnS Try.prog 25 [.agg (pktCells p ae ce av cv).toArray, .agg (pktCells q be de bv dv).toArray] (fun h => (Rdl h ae (bcells p.ex) ∧ Rdl h av (bcells p.val)) ∧ (Rdl h be (bcells q.ex) ∧ Rdl h bv (bcells q.val))) []
      (fun v H => v = .bool (sameB p q) ∧ H = []) := by
  obtain ⟨reply1, op1, status1, opq1, token1, ex1, key1, val1, large1⟩ := p
  obtain ⟨reply2, op2, status2, opq2, token2, ex2, key2, val2, large2⟩ := q
  dsimp only [pktCells]
  refine fn_body Try.func25 rfl Try.ntmps25 rfl ?_
  rintro F ⟨⟨hE1, hV1⟩, ⟨hE2, hV2⟩⟩
  unfold sameB
  refine g_sr ?_
  refine Lp (oB fun b1 => ?_)
  refine Lp (oB fun b2 => ?_)
  refine Li As ?_
  refine g_ne ?_
  refine g_sr ?_
  refine Li (Fa T.fld_39_0) ?_
  refine Lp (oL T.sc_4 ?_)
  refine Li (Fa T.fld_39_0) ?_
  refine Lp (oL T.sc_4 ?_)
  refine Li (Bq T.u_4) ?_
  refine Li Mv ?_
  refine g_split (t := 10) rfl ?_ ?_
  · intro hb0
    replace hb0 := nrm hb0
    refine Li (Fa T.fld_39_1) ?_
    refine Lp (oL T.sc_3 ?_)
    refine Li (Fa T.fld_39_1) ?_
    refine Lp (oL T.sc_3 ?_)
    refine Li Cm ?_
    refine Li Pt ?_
    refine Li Mv ?_
    refine g_split (t := 17) rfl ?_ ?_
    · intro hb1
      replace hb1 := nrm hb1
      refine Li (Fa T.fld_39_2) ?_
      refine Lp (oL T.sc_3 ?_)
      refine Li (Fa T.fld_39_2) ?_
      refine Lp (oL T.sc_3 ?_)
      refine Li Cm ?_
      refine Li Pt ?_
      refine Li Mv ?_
      refine g_split (t := 24) rfl ?_ ?_
      · intro hb2
        replace hb2 := nrm hb2
        refine Li (Fa T.fld_39_3) ?_
        refine Lp (oL T.sc_36 ?_)
        refine Li (Fa T.fld_39_3) ?_
        refine Lp (oL T.sc_36 ?_)
        refine Li Cm ?_
        refine Li Pt ?_
        refine Li Mv ?_
        refine g_split (t := 31) rfl ?_ ?_
        · intro hb3
          replace hb3 := nrm hb3
          refine Li (Fa T.fld_39_4) ?_
          refine Lp (oL T.sc_36 ?_)
          refine Li (Fa T.fld_39_4) ?_
          refine Lp (oL T.sc_36 ?_)
          refine Li Cm ?_
          refine Li Pt ?_
          refine Li Mv ?_
          refine g_split (t := 38) rfl ?_ ?_
          · intro hb4
            replace hb4 := nrm hb4
            refine Li (Fa T.fld_39_8) ?_
            refine Lp (oL T.sc_4 ?_)
            refine Li (Fa T.fld_39_8) ?_
            refine Lp (oL T.sc_4 ?_)
            refine Li (Bq T.u_4) ?_
            refine Li Pt ?_
            refine Li Mv ?_
            refine g_split (t := 45) rfl ?_ ?_
            · intro hb5
              replace hb5 := nrm hb5
              refine Li (Fa T.fld_39_6) ?_
              refine Lp (oL T.sc_9 ?_)
              refine Li (Fa T.fld_39_6) ?_
              refine Lp (oL T.sc_9 ?_)
              refine Li Sq ?_
              refine Li Pt ?_
              refine Li Mv ?_
              refine g_split (t := 52) rfl ?_ ?_
              · intro hb6
                replace hb6 := nrm hb6
                refine Li (Fa T.fld_39_5) ?_
                refine Lp (oL T.sc_37 ?_)
                refine Li (Ts T.sl_37 T.u_5 T.u_9) ?_
                refine Li (Fa T.fld_39_5) ?_
                refine Lp (oL T.sc_37 ?_)
                refine Li (Ts T.sl_37 T.u_5 T.u_9) ?_
                refine Li Sq ?_
                refine Li Pt ?_
                refine Li Mv ?_
                refine g_split (t := 61) rfl ?_ ?_
                · intro hb7
                  replace hb7 := nrm hb7
                  refine Li (Fa T.fld_39_7) ?_
                  refine Lp (oL T.sc_37 ?_)
                  refine Li (Ts T.sl_37 T.u_5 T.u_9) ?_
                  refine Li (Fa T.fld_39_7) ?_
                  refine Lp (oL T.sc_37 ?_)
                  refine Li (Ts T.sl_37 T.u_5 T.u_9) ?_
                  refine Li Sq ?_
                  refine Li Pt ?_
                  refine Li As ?_
                  refine g_ne ?_
                  refine g_ret ?_
                  refine Rt [] Try.results25 ?_
                  refine ⟨congrArg Value.bool ?_, rfl⟩
                  try simp only [Int.natCast_inj] at *
                  simp [*]
                · intro hb7
                  replace hb7 := nrm hb7
                  refine Lx ?_
                  refine Lx ?_
                  refine Lx ?_
                  refine Lx ?_
                  refine Lx ?_
                  refine Lx ?_
                  refine Lx ?_
                  refine Li Pf ?_
                  refine Li As ?_
                  refine g_ne ?_
                  refine g_ret ?_
                  refine Rt [] Try.results25 ?_
                  refine ⟨congrArg Value.bool ?_, rfl⟩
                  try simp only [Int.natCast_inj] at *
                  simp [*]
              · intro hb6
                replace hb6 := nrm hb6
                refine Lx ?_
                refine Lx ?_
                refine Lx ?_
                refine Lx ?_
                refine Lx ?_
                refine Lx ?_
                refine Lx ?_
                refine Li Pf ?_
                refine Li Mv ?_
                refine Lx ?_
                refine Lx ?_
                refine Lx ?_
                refine Lx ?_
                refine Lx ?_
                refine Lx ?_
                refine Lx ?_
                refine Li Pf ?_
                refine Li As ?_
                refine g_ne ?_
                refine g_ret ?_
                refine Rt [] Try.results25 ?_
                refine ⟨congrArg Value.bool ?_, rfl⟩
                try simp only [Int.natCast_inj] at *
                simp [*]
            · intro hb5
              replace hb5 := nrm hb5
              refine Lx ?_
              refine Lx ?_
              refine Lx ?_
              refine Lx ?_
              refine Lx ?_
              refine Li Pf ?_
              refine Li Mv ?_
              refine Lx ?_
              refine Lx ?_
              refine Lx ?_
              refine Lx ?_
              refine Lx ?_
              refine Lx ?_
              refine Lx ?_
              refine Li Pf ?_
              refine Li Mv ?_
              refine Lx ?_
              refine Lx ?_
              refine Lx ?_
              refine Lx ?_
              refine Lx ?_
              refine Lx ?_
              refine Lx ?_
              refine Li Pf ?_
              refine Li As ?_
              refine g_ne ?_
              refine g_ret ?_
              refine Rt [] Try.results25 ?_
              refine ⟨congrArg Value.bool ?_, rfl⟩
              try simp only [Int.natCast_inj] at *
              simp [*]
          · intro hb4
            replace hb4 := nrm hb4
            refine Lx ?_
            refine Lx ?_
            refine Lx ?_
            refine Lx ?_
            refine Lx ?_
            refine Li Pf ?_
            refine Li Mv ?_
            refine Lx ?_
            refine Lx ?_
            refine Lx ?_
            refine Lx ?_
            refine Lx ?_
            refine Li Pf ?_
            refine Li Mv ?_
            refine Lx ?_
            refine Lx ?_
            refine Lx ?_
            refine Lx ?_
            refine Lx ?_
            refine Lx ?_
            refine Lx ?_
            refine Li Pf ?_
            refine Li Mv ?_
            refine Lx ?_
            refine Lx ?_
            refine Lx ?_
            refine Lx ?_
            refine Lx ?_
            refine Lx ?_
            refine Lx ?_
            refine Li Pf ?_
            refine Li As ?_
            refine g_ne ?_
            refine g_ret ?_
            refine Rt [] Try.results25 ?_
            refine ⟨congrArg Value.bool ?_, rfl⟩
            try simp only [Int.natCast_inj] at *
            simp [*]
        · intro hb3
          replace hb3 := nrm hb3
          refine Lx ?_
          refine Lx ?_
          refine Lx ?_
          refine Lx ?_
          refine Lx ?_
          refine Li Pf ?_
          refine Li Mv ?_
          refine Lx ?_
          refine Lx ?_
          refine Lx ?_
          refine Lx ?_
          refine Lx ?_
          refine Li Pf ?_
          refine Li Mv ?_
          refine Lx ?_
          refine Lx ?_
          refine Lx ?_
          refine Lx ?_
          refine Lx ?_
          refine Li Pf ?_
          refine Li Mv ?_
          refine Lx ?_
          refine Lx ?_
          refine Lx ?_
          refine Lx ?_
          refine Lx ?_
          refine Lx ?_
          refine Lx ?_
          refine Li Pf ?_
          refine Li Mv ?_
          refine Lx ?_
          refine Lx ?_
          refine Lx ?_
          refine Lx ?_
          refine Lx ?_
          refine Lx ?_
          refine Lx ?_
          refine Li Pf ?_
          refine Li As ?_
          refine g_ne ?_
          refine g_ret ?_
          refine Rt [] Try.results25 ?_
          refine ⟨congrArg Value.bool ?_, rfl⟩
          try simp only [Int.natCast_inj] at *
          simp [*]
      · intro hb2
        replace hb2 := nrm hb2
        refine Lx ?_
        refine Lx ?_
        refine Lx ?_
        refine Lx ?_
        refine Lx ?_
        refine Li Pf ?_
        refine Li Mv ?_
        refine Lx ?_
        refine Lx ?_
        refine Lx ?_
        refine Lx ?_
        refine Lx ?_
        refine Li Pf ?_
        refine Li Mv ?_
        refine Lx ?_
        refine Lx ?_
        refine Lx ?_
        refine Lx ?_
        refine Lx ?_
        refine Li Pf ?_
        refine Li Mv ?_
        refine Lx ?_
        refine Lx ?_
        refine Lx ?_
        refine Lx ?_
        refine Lx ?_
        refine Li Pf ?_
        refine Li Mv ?_
        refine Lx ?_
        refine Lx ?_
        refine Lx ?_
        refine Lx ?_
        refine Lx ?_
        refine Lx ?_
        refine Lx ?_
        refine Li Pf ?_
        refine Li Mv ?_
        refine Lx ?_
        refine Lx ?_
        refine Lx ?_
        refine Lx ?_
        refine Lx ?_
        refine Lx ?_
        refine Lx ?_
        refine Li Pf ?_
        refine Li As ?_
        refine g_ne ?_
        refine g_ret ?_
        refine Rt [] Try.results25 ?_
        refine ⟨congrArg Value.bool ?_, rfl⟩
        try simp only [Int.natCast_inj] at *
        simp [*]
    · intro hb1
      replace hb1 := nrm hb1
      refine Lx ?_
      refine Lx ?_
      refine Lx ?_
      refine Lx ?_
      refine Lx ?_
      refine Li Pf ?_
      refine Li Mv ?_
      refine Lx ?_
      refine Lx ?_
      refine Lx ?_
      refine Lx ?_
      refine Lx ?_
      refine Li Pf ?_
      refine Li Mv ?_
      refine Lx ?_
      refine Lx ?_
      refine Lx ?_
      refine Lx ?_
      refine Lx ?_
      refine Li Pf ?_
      refine Li Mv ?_
      refine Lx ?_
      refine Lx ?_
      refine Lx ?_
      refine Lx ?_
      refine Lx ?_
      refine Li Pf ?_
      refine Li Mv ?_
      refine Lx ?_
      refine Lx ?_
      refine Lx ?_
      refine Lx ?_
      refine Lx ?_
      refine Li Pf ?_
      refine Li Mv ?_
      refine Lx ?_
      refine Lx ?_
      refine Lx ?_
      refine Lx ?_
      refine Lx ?_
      refine Lx ?_
      refine Lx ?_
      refine Li Pf ?_
      refine Li Mv ?_
      refine Lx ?_
      refine Lx ?_
      refine Lx ?_
      refine Lx ?_
      refine Lx ?_
      refine Lx ?_
      refine Lx ?_
      refine Li Pf ?_
      refine Li As ?_
      refine g_ne ?_
      refine g_ret ?_
      refine Rt [] Try.results25 ?_
      refine ⟨congrArg Value.bool ?_, rfl⟩
      try simp only [Int.natCast_inj] at *
      simp [*]
  · intro hb0
    replace hb0 := nrm hb0
    refine Lx ?_
    refine Lx ?_
    refine Lx ?_
    refine Lx ?_
    refine Lx ?_
    refine Li Pf ?_
    refine Li Mv ?_
    refine Lx ?_
    refine Lx ?_
    refine Lx ?_
    refine Lx ?_
    refine Lx ?_
    refine Li Pf ?_
    refine Li Mv ?_
    refine Lx ?_
    refine Lx ?_
    refine Lx ?_
    refine Lx ?_
    refine Lx ?_
    refine Li Pf ?_
    refine Li Mv ?_
    refine Lx ?_
    refine Lx ?_
    refine Lx ?_
    refine Lx ?_
    refine Lx ?_
    refine Li Pf ?_
    refine Li Mv ?_
    refine Lx ?_
    refine Lx ?_
    refine Lx ?_
    refine Lx ?_
    refine Lx ?_
    refine Li Pf ?_
    refine Li Mv ?_
    refine Lx ?_
    refine Lx ?_
    refine Lx ?_
    refine Lx ?_
    refine Lx ?_
    refine Li Pf ?_
    refine Li Mv ?_
    refine Lx ?_
    refine Lx ?_
    refine Lx ?_
    refine Lx ?_
    refine Lx ?_
    refine Lx ?_
    refine Lx ?_
    refine Li Pf ?_
    refine Li Mv ?_
    refine Lx ?_
    refine Lx ?_
    refine Lx ?_
    refine Lx ?_
    refine Lx ?_
    refine Lx ?_
    refine Lx ?_
    refine Li Pf ?_
    refine Li As ?_
    refine g_ne ?_
    refine g_ret ?_
    refine Rt [] Try.results25 ?_
    refine ⟨congrArg Value.bool ?_, rfl⟩
    try simp only [Int.natCast_inj] at *
    simp [*]
end Go.Proofs.Ytggmpaggmkfmoaa

