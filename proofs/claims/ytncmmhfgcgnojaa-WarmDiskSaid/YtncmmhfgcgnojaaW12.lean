/- The disk's calls: the acts. -/
import Derived.Test.YtncmmhfgcgnojaaW11
set_option maxRecDepth 100000
namespace Go.Proofs.Ytncmmhfgcgnojaa
open Go Go.Eng

theorem create_m (b : Nat) (s : Ds) (hI : Inv s) (hn : s.acts ≤ 9999) (name : Nm) : FnS Try.prog 13 [.pointer (some ⟨b, 0, none⟩), strv name] (fun _ => True) [Dk b s] (fun v H => ∃ E, Er (kindT 0) name (actM s 0 name [] []).2 v E ∧ H = [Dk b (actM s 0 name [] []).1, E]) := by
  refine fn_body Try.func13 rfl Try.ntmps13 rfl ?_
  intro F hF
  refine g_sr ?_
  refine Lp (oB fun b1 => ?_)
  refine Lp (oB fun b2 => ?_)
  refine Li As ?_
  refine g_ne ?_
  refine g_sr ?_
  refine Lp (oL T.sc_25 ?_)
  refine Lp (oL T.sc_9 ?_)
  refine Li Mf ?_
  refine g_heap (fun _ s => starL_emp (A := empt) (fun _ => trivial) s) ?_
  refine Lp (oC T.fn_45 rfl rfl (act_fn b s hI (by omega) (kindT 0) name false 46 T.fn_46 [.pointer (some ⟨b1, 0, none⟩), .pointer (some ⟨b2, 0, none⟩)] (capD b1 b2 b name) capD_mono empt (doD 0 name [] []) (fun m _ => create_clo b (begun s) (inv_begun hI) (Nat.succ_le_succ hn) (Nat.succ_le_succ hI.nf) b1 b2 name empt m)) (.cons (.there (.there (.there .here))) (.cons .here .nil)) (fun _ _ hin => ⟨hin.nth 1 rfl, hin.nth 0 rfl⟩) ?_)
  rintro v H' ⟨E, hE, rfl⟩
  try simp only [nap, cap]
  refine Li As ?_
  refine g_ne ?_
  refine g_ret ?_
  refine Rt [Dk b (actM s 0 name [] []).1, E] Try.results13 ?_
  exact ⟨E, hE, rfl⟩
theorem remove_m (b : Nat) (s : Ds) (hI : Inv s) (hn : s.acts ≤ 9999) (name : Nm) : FnS Try.prog 30 [.pointer (some ⟨b, 0, none⟩), strv name] (fun _ => True) [Dk b s] (fun v H => ∃ E, Er (kindT 4) name (actM s 4 name [] []).2 v E ∧ H = [Dk b (actM s 4 name [] []).1, E]) := by
  refine fn_body Try.func30 rfl Try.ntmps30 rfl ?_
  intro F hF
  refine g_sr ?_
  refine Lp (oB fun b1 => ?_)
  refine Lp (oB fun b2 => ?_)
  refine Li As ?_
  refine g_ne ?_
  refine g_sr ?_
  refine Lp (oL T.sc_25 ?_)
  refine Lp (oL T.sc_9 ?_)
  refine Li Mf ?_
  refine g_heap (fun _ s => starL_emp (A := empt) (fun _ => trivial) s) ?_
  refine Lp (oC T.fn_45 rfl rfl (act_fn b s hI (by omega) (kindT 4) name false 58 T.fn_58 [.pointer (some ⟨b1, 0, none⟩), .pointer (some ⟨b2, 0, none⟩)] (capD b1 b2 b name) capD_mono empt (doD 4 name [] []) (fun m _ => remove_clo b (begun s) (inv_begun hI) (Nat.succ_le_succ hn) b1 b2 name empt m)) (.cons (.there (.there (.there .here))) (.cons .here .nil)) (fun _ _ hin => ⟨hin.nth 1 rfl, hin.nth 0 rfl⟩) ?_)
  rintro v H' ⟨E, hE, rfl⟩
  try simp only [nap, cap]
  refine Li As ?_
  refine g_ne ?_
  refine g_ret ?_
  refine Rt [Dk b (actM s 4 name [] []).1, E] Try.results30 ?_
  exact ⟨E, hE, rfl⟩
theorem sync_m (b : Nat) (s : Ds) (hI : Inv s) (hn : s.acts ≤ 9999) (name : Nm) : FnS Try.prog 26 [.pointer (some ⟨b, 0, none⟩), strv name] (fun _ => True) [Dk b s] (fun v H => ∃ E, Er (kindT 2) name (actM s 2 name [] []).2 v E ∧ H = [Dk b (actM s 2 name [] []).1, E]) := by
  refine fn_body Try.func26 rfl Try.ntmps26 rfl ?_
  intro F hF
  refine g_sr ?_
  refine Lp (oB fun b1 => ?_)
  refine Lp (oB fun b2 => ?_)
  refine Li As ?_
  refine g_ne ?_
  refine g_sr ?_
  refine Lp (oL T.sc_25 ?_)
  refine Lp (oL T.sc_9 ?_)
  refine Li Mf ?_
  refine g_heap (fun _ s => starL_emp (A := empt) (fun _ => trivial) s) ?_
  refine Lp (oC T.fn_45 rfl rfl (act_fn b s hI (by omega) (kindT 2) name false 55 T.fn_55 [.pointer (some ⟨b1, 0, none⟩), .pointer (some ⟨b2, 0, none⟩)] (capD b1 b2 b name) capD_mono empt (doD 2 name [] []) (fun m _ => sync_clo b (begun s) (inv_begun hI) b1 b2 name empt m)) (.cons (.there (.there (.there .here))) (.cons .here .nil)) (fun _ _ hin => ⟨hin.nth 1 rfl, hin.nth 0 rfl⟩) ?_)
  rintro v H' ⟨E, hE, rfl⟩
  try simp only [nap, cap]
  refine Li As ?_
  refine g_ne ?_
  refine g_ret ?_
  refine Rt [Dk b (actM s 2 name [] []).1, E] Try.results26 ?_
  exact ⟨E, hE, rfl⟩
theorem append_m (b : Nat) (s : Ds) (hI : Inv s) (hn : s.acts ≤ 9999) (name : Nm) (pa : Option Addr) (n pc : Nat) (p : List UInt8) (hpn : n = p.length) (hp : p.length ≤ 2097152) (hpc : p.length ≤ pc) :
    FnS Try.prog 17 [.pointer (some ⟨b, 0, none⟩), strv name, .slice pa n pc] (fun h => Rdl h pa (bcells p)) [Dk b s] (fun v H => ∃ E, Er (kindT 1) name (actM s 1 name [] p).2 v E ∧ H = [Dk b (actM s 1 name [] p).1, E]) := by
  subst hpn
  refine fn_body Try.func17 rfl Try.ntmps17 rfl ?_
  intro F hF
  refine g_sr ?_
  refine Lp (oB fun b1 => ?_)
  refine Lp (oB fun b2 => ?_)
  refine Lp (oB fun b3 => ?_)
  refine Li As ?_
  refine g_ne ?_
  refine g_sr ?_
  refine Lp (oL T.sc_25 ?_)
  refine Lp (oL T.sc_9 ?_)
  refine Li Mf ?_
  refine Lp (oC T.fn_45 rfl rfl (act_fn b s hI (by omega) (kindT 1) name true 50 T.fn_50 [.pointer (some ⟨b1, 0, none⟩), .pointer (some ⟨b2, 0, none⟩), .pointer (some ⟨b3, 0, none⟩)] (capA b1 b2 b name pa p) capA_mono (pts b3 38 [.slice pa p.length pc]) (doD 1 name [] p) (fun m hm => append_clo b (begun s) (inv_begun hI) (Nat.succ_le_succ hn) b1 b2 b3 name pa pc p hp hpc m hm)) (.cons (.there (.there (.there .here))) (.cons .here .nil)) (fun _ le hin => ⟨⟨hin.nth 1 rfl, hin.nth 0 rfl⟩, hF.mono le⟩) ?_)
  rintro v H' ⟨E, hE, rfl⟩
  try simp only [nap, cap]
  refine Li As ?_
  refine g_ne ?_
  refine g_ret ?_
  refine Rt [Dk b (actM s 1 name [] p).1, E] Try.results17 ?_
  exact ⟨E, hE, rfl⟩
theorem rename_m (b : Nat) (s : Ds) (hI : Inv s) (hn : s.acts ≤ 9999) (name to : Nm) :
    FnS Try.prog 28 [.pointer (some ⟨b, 0, none⟩), strv name, strv to] (fun _ => True) [Dk b s] (fun v H => ∃ E, Er (kindT 3) name (actM s 3 name to []).2 v E ∧ H = [Dk b (actM s 3 name to []).1, E]) := by
  refine fn_body Try.func28 rfl Try.ntmps28 rfl ?_
  intro F hF
  refine g_sr ?_
  refine Lp (oB fun b1 => ?_)
  refine Lp (oB fun b2 => ?_)
  refine Lp (oB fun b3 => ?_)
  refine Li As ?_
  refine g_ne ?_
  refine g_sr ?_
  refine Lp (oL T.sc_25 ?_)
  refine Lp (oL T.sc_9 ?_)
  refine Li Mf ?_
  refine g_heap (fun _ s => starL_emp (A := empt) (fun _ => trivial) s) ?_
  refine Lp (oC T.fn_45 rfl rfl (act_fn b s hI (by omega) (kindT 3) name false 56 T.fn_56 [.pointer (some ⟨b3, 0, none⟩), .pointer (some ⟨b1, 0, none⟩), .pointer (some ⟨b2, 0, none⟩)] (capR b3 b1 b2 b name to) capR_mono empt (doD 3 name to []) (fun m _ => rename_clo b (begun s) (inv_begun hI) (Nat.succ_le_succ hn) b3 b1 b2 name to empt m)) (.cons (.there (.there (.there (.there .here)))) (.cons .here .nil)) (fun _ _ hin => ⟨hin.nth 0 rfl, hin.nth 2 rfl, hin.nth 1 rfl⟩) ?_)
  rintro v H' ⟨E, hE, rfl⟩
  try simp only [nap, cap]
  refine Li As ?_
  refine g_ne ?_
  refine g_ret ?_
  refine Rt [Dk b (actM s 3 name to []).1, E] Try.results28 ?_
  exact ⟨E, hE, rfl⟩
theorem syncn_m (b : Nat) (s : Ds) (hI : Inv s) (hn : s.acts ≤ 9999) :
    FnS Try.prog 15 [.pointer (some ⟨b, 0, none⟩)] (fun _ => True) [Dk b s] (fun v H => ∃ E, Er (kindT 5) [] (actM s 5 [] [] []).2 v E ∧ H = [Dk b (actM s 5 [] [] []).1, E]) := by
  refine fn_body Try.func15 rfl Try.ntmps15 rfl ?_
  intro F hF
  refine g_sr ?_
  refine Lp (oB fun b1 => ?_)
  refine Li As ?_
  refine g_ne ?_
  refine g_sr ?_
  refine Lp (oL T.sc_25 ?_)
  refine Li Mf ?_
  refine g_heap (fun _ s => starL_emp (A := empt) (fun _ => trivial) s) ?_
  refine Lp (oC T.fn_45 rfl rfl (act_fn b s hI (by omega) (kindT 5) [] false 49 T.fn_49 [.pointer (some ⟨b1, 0, none⟩)] (fun h => ∃ k, pts b1 25 [.pointer (some ⟨b, 0, none⟩)] k ∧ Le k h) (fun _ _ c l => in_mono c l) empt (doD 5 [] [] []) (fun m _ => syncn_clo b (begun s) b1 empt m)) (.cons (.there (.there .here)) (.cons .here .nil)) (fun _ _ hin => hin.nth 0 rfl) ?_)
  rintro v H' ⟨E, hE, rfl⟩
  try simp only [nap, cap]
  refine Li As ?_
  refine g_ne ?_
  refine g_ret ?_
  refine Rt [Dk b (actM s 5 [] [] []).1, E] Try.results15 ?_
  exact ⟨E, hE, rfl⟩
end Go.Proofs.Ytncmmhfgcgnojaa

