/- Packets, the reference: Feed. -/
import Derived.Test.YtggmpaggmkfmoaaD14
set_option maxRecDepth 100000
namespace Go.Proofs.Ytggmpaggmkfmoaa
open Go Go.Eng

theorem PS_com {limit : Nat} {S : List UInt8} (hb : badB S = false) (hs : ¬ Short S) (c : List UInt8) : PS limit (S ++ c) = ((readP S limit).1 :: (PS limit (S.drop (wholeN S) ++ c)).1, (PS limit (S.drop (wholeN S) ++ c)).2) := by
  have hs' := hs
  unfold Short at hs'
  have hge := wholeN_ge S
  have hb' : badB (S ++ c) = false := by
    rw [← badB_take (S ++ c) S.length (by omega)]; simpa using hb
  have hw' : wholeN (S ++ c) = wholeN S := by
    rw [← wholeN_take (S ++ c) S.length (by omega)]; simp
  have hf' : frontN (S ++ c) = frontN S := by
    rw [← frontN_take (S ++ c) S.length (by omega)]; simp
  have hroom := badB_room hb (by omega)
  rw [PS_more hb' (by unfold Short; rw [hw', List.length_append]; omega), hw', List.drop_append_of_le_length (by omega)]
  have : (readP (S ++ c) limit).1 = (readP S limit).1 := by
    unfold readP
    rw [hb', hb, if_neg (by simp), if_neg (by rw [hw', List.length_append]; omega), if_neg (by simp), if_neg (by omega), hw', hf']
    simp only
    rw [← decP_take (S ++ c) S.length _ (by omega) (by omega) (fun _ => by omega)]
    simp
  rw [this]
/-- what is told of W is `o`, then what is told of U -/
def Rel (limit : Nat) (W U : List UInt8) (o : List Pkt) : Prop := U.length + o.length ≤ W.length ∧ ∀ c, PS limit (W ++ c) = (o ++ (PS limit (U ++ c)).1, (PS limit (U ++ c)).2)
theorem Rel.start (limit : Nat) (W : List UInt8) : Rel limit W W [] := ⟨by simp, fun c => by simp⟩
theorem Rel.step {limit : Nat} {W U : List UInt8} {o : List Pkt} (r : Rel limit W U o) (hb : badB U = false) (hs : ¬ Short U) : Rel limit W (U.drop (wholeN U)) (o ++ [(readP U limit).1]) := by
  have hs' := hs
  unfold Short at hs'
  have hge := wholeN_ge U
  refine ⟨by have := r.1; simp; omega, fun c => ?_⟩
  rw [r.2 c, PS_com hb hs c]
  simp
theorem readZ (U : List UInt8) (limit : Int) : readP U limit = readP U (limit.toNat : Int) := by
  unfold readP
  rw [show max (limit.toNat : Int) 0 = max limit 0 from by omega]
theorem readP_kind (U : List UInt8) (limit : Int) (p : Pkt) (n e : Nat) (h : readP U limit = (p, n, e)) : (badB U = true ∧ e ≠ 0) ∨ (badB U = false ∧ Short U ∧ n = 0 ∧ e = 0) ∨ (badB U = false ∧ ¬ Short U ∧ n = wholeN U ∧ e = 0) := by
  cases hb : badB U with
  | true =>
    unfold readP at h
    rw [hb, if_pos rfl] at h
    cases h
    exact .inl ⟨rfl, by decide⟩
  | false =>
    by_cases hs : Short U
    · have hs' := hs
      unfold Short at hs'
      unfold readP at h
      rw [hb, if_neg (by simp), if_pos hs'] at h
      cases h
      exact .inr (.inl ⟨rfl, hs, rfl, rfl⟩)
    · have hs' := hs
      unfold Short at hs'
      unfold readP at h
      rw [hb, if_neg (by simp), if_neg hs'] at h
      cases h
      exact .inr (.inr ⟨rfl, hs, rfl, rfl⟩)
theorem pktCells_one' (p : Pkt) (ae av : Option Addr) (ce cv : Nat) : ∀ v ∈ pktCells p ae ce av cv, v.oneCell' = true := by
  unfold pktCells
  simp [Value.oneCell', strv]
theorem rdB_cut {a : Option Addr} {U : List UInt8} {c : Nat} (n : Nat) (hc : U.length ≤ c) (k : Hp) (r : rdB a U k) : rdB (cutA a n c (n * 1)) (U.drop n) k := by
  have := cut2 r n c (U.length - n) (by omega)
  rw [List.take_of_length_le (by simp)] at this
  exact this
set_option maxHeartbeats 8000000 in
theorem rfeed_fn (b : Nat) (limit : Int) (a : Option Addr) (c taken : Nat) (V : List UInt8) (x : Option Addr) (m xc : Nat) (chunk : List UInt8) (hm : m = chunk.length) (hc : V.length ≤ c) (hB : V.length + chunk.length ≤ 1099511627776) (hT : taken ≤ 1099511627776)
    (q1 : -9223372036854775808 ≤ limit) (q2 : limit ≤ 9223372036854775807) :
    FnS Try.prog 32 [.pointer (some ⟨b, 0, none⟩), .slice x m xc] (fun h => Rdl h x (bcells chunk)) [pts b 97 (rfC limit a V.length c taken false), rdB a V]
      (fun v H => ∃ ao co l a' c' U, v = .slice ao l.length co ∧ U.length ≤ c' ∧ Rel limit.toNat (V ++ chunk) U (l.map Prod.fst) ∧
        ((badB U = true ∧ H = [pts b 97 (rfC limit none 0 0 (taken + m) true), own ao co 39 9 (pktsCells l), stars (pktOwns l)]) ∨
         ((badB U = false ∧ Short U) ∧ H = [pts b 97 (rfC limit a' U.length c' (taken + m) false), rdB a' U, own ao co 39 9 (pktsCells l), stars (pktOwns l)]))) := by
  subst hm
  refine fn_body Try.func32 rfl Try.ntmps32 rfl ?_
  intro F hF
  simp only [rfC]
  refine g_sr ?_
  refine Li As ?_
  refine g_ne ?_
  refine g_sr ?_
  refine Li Mv ?_
  refine Li Mv ?_
  refine Li Nc ?_
  refine Li (Fa T.fld_97_2) ?_
  refine Lp (oL T.sc_3 ?_)
  refine Li Mv ?_
  refine Li (Ln T.sl_37) ?_
  refine Li Im ?_
  refine Li Nc ?_
  refine Li (Fa T.fld_97_2) ?_
  refine Lp (oS T.sc_3 ?_)
  refine g_ne ?_
  refine g_seq ?_
  refine g_sr ?_
  refine Li Mv ?_
  refine Li Nc ?_
  refine Li (Fa T.fld_97_3) ?_
  refine Lp (oL T.sc_4 ?_)
  refine g_ne ?_
  rw [show (taken : Int) + (chunk.length : Int) = ((taken + chunk.length : Nat) : Int) from by omega]
  refine g_cond_f rfl (by rfl) ?_
  refine g_skip ?_
  refine e_then ?_
  refine g_sr ?_
  refine Li Mv ?_
  refine Li Mv ?_
  refine Li Nc ?_
  refine Li (Fa T.fld_97_1) ?_
  refine Lp (oL T.sc_37 ?_)
  refine Lp (oC T.fn_63 rfl rfl (rcopied_fn V a V.length c rfl (by omega)) .nil (fun _ _ hin => rdB_in (hin.nth 1 rfl)) ?_)
  rintro v H' ⟨a4, c4, rfl, rfl⟩
  try simp only [nap, cap]
  refine Li Mv ?_
  refine Lp (op_append T.ap_37 T.ni_37 rfl rfl rfl rfl .here (by simp) (src_slice (m := chunk.length) (by simp) fun h le _ => hF.mono le) (by first | exact bcells_one | (simp [Value.oneCell', strv])) (by first | omega | (simp; omega)) (by first | omega | (simp; omega)) rfl fun a5 c5 hc5 => ?_)
  rw [← bcells_append]
  have hWl : (V ++ chunk).length = V.length + chunk.length := by simp
  rw [← hWl]
  rw [← hWl] at hc5
  generalize hW : V ++ chunk = W at *
  refine Li Nc ?_
  refine Li (Fa T.fld_97_1) ?_
  refine Lp (oS T.sc_37 ?_)
  refine g_ne ?_
  refine g_sr ?_
  refine Li As ?_
  refine g_ne ?_
  refine g_block ?_
  refine g_heap (fun _ s => starL_cons_mono (fun k p => rdB_of k p) s) ?_
  refine g_heap (fun _ s => starL_nil_stars s) ?_
  refine g_nilrow 39 9 ?_


  refine Lo (ι := Option Addr × Nat × List UInt8 × Option Addr × Nat × List (Pkt × Ad)) [34, 35, 36, 37, 38, 39, 40, 41, 42, 33, 43, 44, 45, 6, 7, 8, 46, 47, 48, 49, 50, 51, 52, 53, 54, 4, 55, 56, 57, 58, 59, 60, 61, 5, 62, 63, 64, 65, 66, 67, 68, 69, 70] (fun (ua, uc, U, ao, co, o) => U.length ≤ uc ∧ Rel limit.toNat W U (o.map Prod.fst)) (fun (ua, uc, U, ao, co, o) => [(5, .slice ao o.length co)]) (fun (ua, uc, U, ao, co, o) => [pts b 97 [.int .i64 limit, .slice ua U.length uc, .int .i64 ((taken + chunk.length : Nat) : Int), .bool false], rdB ua U, own ao co 39 9 (pktsCells o), stars (pktOwns o)]) (fun (ua, uc, U, ao, co, o) => U.length) ((a5, c5, W, none, 0, [])) ⟨hc5, Rel.start _ W⟩ ?_
  rintro ⟨ua, uc, U, ao, co, o⟩ ⟨huc, hrel⟩
  try dsimp only at hI ⊢
  try dsimp only at huc hrel ⊢
  refine g_block ?_
  refine g_seq ?_
  have hUl : U.length + o.length ≤ W.length := by simpa using hrel.1
  obtain ⟨p, pn, pe, hrp⟩ : ∃ p n e, readP U limit = (p, n, e) := ⟨_, _, _, rfl⟩
  have hk := readP_kind U limit p pn pe hrp
  have hrd := rread_fn U ua U.length uc limit rfl huc (by omega) q1 q2
  rw [hrp] at hrd
  dsimp only at hrd
  have hwg := wholeN_ge U
  refine g_mid (ι := Nat × Option Addr × Nat × Option Addr × Nat) [34, 35, 36, 37, 38, 39, 40, 41, 42, 33, 43, 44, 45, 6, 7, 8] (fun (bx, be, de, bv, dv) => True) (fun (bx, be, de, bv, dv) => [(7, .int .i64 (pn : Int)), (8, .int .i64 (pe : Int)), (6, .pointer (some ⟨bx, 0, none⟩))]) (fun (bx, be, de, bv, dv) => [pts bx 39 (pktCells p be de bv dv), own be de 5 1 (bcells p.ex), own bv dv 5 1 (bcells p.val), pts b 97 [.int .i64 limit, .slice ua U.length uc, .int .i64 ((taken + chunk.length : Nat) : Int), .bool false], rdB ua U, own ao co 39 9 (pktsCells o), stars (pktOwns o)]) ?_ ?_
  · refine g_drw T.mix (.cons .here (.cons .here .nil)) fun F1 le1 hin1 back1 => ?_
    obtain ⟨hb, hu, _⟩ := hin1
    have rU := rdB_in hu
    refine Dt 0 rfl Mv ?_
    refine Dt 1 rfl Nc ?_
    refine Dt 2 rfl (Fa T.fld_97_1) ?_
    refine Dt 3 rfl (Lf T.sc_37) ?_
    refine Dt 4 rfl Mv ?_
    refine Dt 5 rfl Nc ?_
    refine Dt 6 rfl (Fa T.fld_97_0) ?_
    refine Dt 7 rfl (Lf T.sc_3) ?_
    refine D2 8 13 ?_ ?_
    · refine Do rfl (oC T.fn_24 rfl rfl (hrd) .nil (fun _ le _ => rU.mono le) ?_)
      rintro v H' ⟨be, de, bv, dv, rfl, rfl⟩
      try simp only [nap, cap]
      refine gh_next ?_
      refine Dt 9 rfl Mv ?_
      refine Dt 10 rfl Ex ?_
      refine Dt 11 rfl Ex ?_
      refine Dt 12 rfl Ex ?_
      refine Dn 13 ?_
      refine Do rfl (oA T.zc_39 fun b1 => ?_)
      refine gh_next ?_
      refine Dn 14 ?_
      refine Do rfl (oSW T.ag_39 ?_ (h1 := by first | exact pktCells_one' _ _ _ _ _ | (simp [setL, Value.cells, Value.oneCell', strv])))
      refine gh_next ?_
      refine Dt 15 rfl As ?_
      refine Dt 16 rfl As ?_
      refine gh_done (by kernel_rfl) back1 ?_
      refine Me ((b1, be, de, bv, dv)) (trivial)
    · refine Do rfl (oA T.zc_39 fun b2 => ?_)
      refine gh_next ?_
      refine Dn 8 ?_
      refine Do rfl (oC T.fn_24 rfl rfl (hrd) .nil (fun _ le _ => rU.mono le) ?_)
      rintro v H' ⟨be, de, bv, dv, rfl, rfl⟩
      try simp only [nap, cap]
      refine gh_next ?_
      refine Dt 9 rfl Mv ?_
      refine Dt 10 rfl Ex ?_
      refine Dt 11 rfl Ex ?_
      refine Dt 12 rfl Ex ?_
      refine Dn 14 ?_
      refine Do rfl (oSW T.ag_39 ?_ (h1 := by first | exact pktCells_one' _ _ _ _ _ | (simp [setL, Value.cells, Value.oneCell', strv])))
      refine gh_next ?_
      refine Dt 15 rfl As ?_
      refine Dt 16 rfl As ?_
      refine gh_done (by kernel_rfl) back1 ?_
      refine Me ((b2, be, de, bv, dv)) (trivial)
  rintro ⟨bx, be, de, bv, dv⟩ hI
  try dsimp only at hI ⊢
  refine g_seq ?_
  refine g_sr ?_
  refine Li Mv ?_
  refine Li Cm ?_
  refine g_ne ?_
  refine g_cond rfl ?_ ?_
  · intro he
    replace he := nrm he
    have hbad : badB U = true := by
      rcases hk with ⟨h, _⟩ | ⟨_, _, _, h⟩ | ⟨_, _, _, h⟩
      · exact h
      · omega
      · omega
    refine g_sr ?_
    refine Li Mv ?_
    refine Li Nc ?_
    refine Li (Fa T.fld_97_3) ?_
    refine Lp (oS T.sc_4 ?_)
    refine g_ne ?_
    refine g_sr ?_
    refine Li Mv ?_
    refine Li Nc ?_
    refine Li (Fa T.fld_97_1) ?_
    refine Lp (oS T.sc_37 ?_)
    refine g_ne ?_
    refine g_sr ?_
    refine Li Mv ?_
    refine Li As ?_
    refine g_ne ?_
    refine g_ret ?_
    refine e_then_ret ?_
    refine e_block_ret ?_
    refine e_then_ret ?_
    refine e_block_ret ?_
    refine Rt [pts b 97 [.int .i64 limit, .slice none 0 0, .int .i64 ((taken + chunk.length : Nat) : Int), .bool true], own ao co 39 9 (pktsCells o), stars (pktOwns o)] Try.results32 ?_
    exact ⟨ao, co, o, none, U.length, U, rfl, Nat.le_refl _, hrel, .inl ⟨hbad, rfl⟩⟩
  · intro he
    replace he := nrm he
    refine g_skip ?_
    refine e_then ?_
    refine g_seq ?_
    refine g_sr ?_
    refine Li Mv ?_
    refine Li Cm ?_
    refine g_ne ?_
    refine g_cond rfl ?_ ?_
    · intro hn
      replace hn := nrm hn
      have hsh : badB U = false ∧ Short U := by
        rcases hk with ⟨_, h⟩ | ⟨h1, h2, _⟩ | ⟨_, _, h, _⟩
        · omega
        · exact ⟨h1, h2⟩
        · omega
      refine g_sr ?_
      refine Li Mv ?_
      refine Li As ?_
      refine g_ne ?_
      refine g_ret ?_
      refine e_then_ret ?_
      refine e_block_ret ?_
      refine e_then_ret ?_
      refine e_block_ret ?_
      refine Rt [pts b 97 [.int .i64 limit, .slice ua U.length uc, .int .i64 ((taken + chunk.length : Nat) : Int), .bool false], rdB ua U, own ao co 39 9 (pktsCells o), stars (pktOwns o)] Try.results32 ?_
      exact ⟨ao, co, o, ua, uc, U, rfl, huc, hrel, .inr ⟨hsh, rfl⟩⟩
    · intro hn
      replace hn := nrm hn
      have hmore : badB U = false ∧ ¬ Short U ∧ pn = wholeN U := by
        rcases hk with ⟨_, h⟩ | ⟨_, _, h, _⟩ | ⟨h1, h2, h3, _⟩
        · omega
        · omega
        · exact ⟨h1, h2, h3⟩
      obtain ⟨hm1, hm2, hm3⟩ := hmore
      have hm4 := hm2
      unfold Short at hm4
      refine g_skip ?_
      refine e_then ?_
      refine g_sr ?_
      refine Li Mv ?_
      refine Lp (oLN T.ag_39 ?_)
      refine Lp (oT1 T.ap_22 fun b3 => ?_)
      refine Lp (op_append_lit T.ap_22 T.ni_22 rfl rfl rfl rfl (.there (.there (.there (.there (.there .here))))) (pktsCells_length o) (rfl) (by simp [pktCells, Value.oneCell', strv]) (by first | omega | (simp; omega)) (by first | omega | (simp; omega)) rfl fun a6 c6 hc6 => ?_)
      refine Hh (H' := [stars (pktOwns o), own be de 5 1 (bcells p.ex), own bv dv 5 1 (bcells p.val), pts b 97 [.int .i64 limit, .slice ua U.length uc, .int .i64 ((taken + chunk.length : Nat) : Int), .bool false], rdB ua U, own a6 c6 39 9 (pktsCells o ++ pktCells p be de bv dv)]) ?_
      refine g_heap (fun _ s => stars_fold (M := [own be de 5 1 (bcells p.ex), own bv dv 5 1 (bcells p.val)]) s) ?_
      rw [← pktOwns_snoc o p ⟨be, de, bv, dv⟩, ← pktsCells_snoc o p ⟨be, de, bv, dv⟩]
      have hlo : o.length + 1 = (o ++ [(p, (⟨be, de, bv, dv⟩ : Ad))]).length := by simp
      rw [hlo]
      refine Li As ?_
      refine g_ne ?_
      refine g_region ?_
      refine Li Mv ?_
      refine Li Mv ?_
      refine Li Nc ?_
      refine Li (Fa T.fld_97_1) ?_
      refine Lp (oL T.sc_37 ?_)
      refine Li Mv ?_
      refine Li (Sl _ _ _ T.sl_37) ?_
      refine Li Nc ?_
      refine Li (Fa T.fld_97_1) ?_
      refine Lp (oS T.sc_37 ?_)
      refine g_nil ?_
      refine e_block ?_
      have hdl : U.length - pn = (U.drop pn).length := by simp
      rw [hdl]
      refine Hh (H' := [rdB ua U, pts b 97 [.int .i64 limit, .slice (cutA ua pn uc (pn * 1)) (U.drop pn).length (uc - pn), .int .i64 ((taken + chunk.length : Nat) : Int), .bool false], own a6 c6 39 9 (pktsCells (o ++ [(p, ⟨be, de, bv, dv⟩)])), stars (pktOwns (o ++ [(p, ⟨be, de, bv, dv⟩)]))]) ?_
      refine g_heap (fun _ s => starL_cons_mono (fun k q => rdB_cut pn huc k q) s) ?_
      have hst : Rel limit.toNat W (U.drop pn) ((o ++ [(p, (⟨be, de, bv, dv⟩ : Ad))]).map Prod.fst) := by
        have := hrel.step hm1 hm2
        rw [← readZ, hrp, ← hm3] at this
        simpa using this
      refine Ro ((cutA ua pn uc (pn * 1), uc - pn, U.drop pn, a6, c6, o ++ [(p, ⟨be, de, bv, dv⟩)])) (⟨by dsimp only; omega, hst⟩) ((by dsimp only; omega))
end Go.Proofs.Ytggmpaggmkfmoaa

