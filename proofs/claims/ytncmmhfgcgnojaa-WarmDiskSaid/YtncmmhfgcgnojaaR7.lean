/- The document's disk's calls: the acts. -/
import Derived.Test.YtncmmhfgcgnojaaR6
set_option maxRecDepth 100000
namespace Go.Proofs.Ytncmmhfgcgnojaa
open Go Go.Eng

theorem rcreate_m (b : Nat) (s : Ds) (hS : Inv s) (hn : s.acts ≤ 9999) (name : Nm) : FnS Try.prog 24 [.pointer (some ⟨b, 0, none⟩), strv name] (fun _ => True) [Rk b s] (fun v H => v = faultV (kindT 0) name (actM s 0 name [] []).2 ∧ H = [Rk b (actM s 0 name [] []).1]) := by
  refine fn_body Try.func24 rfl Try.ntmps24 rfl ?_
  intro F hF
  refine g_sr ?_
  refine Lp (oA T.zc_34 fun b1 => ?_)
  refine g_ne ?_
  refine g_sr ?_
  refine Li Mv ?_
  refine Li Mv ?_
  refine Lp (oC T.fn_54 rfl rfl (ract_fn b s hS hn 0 (by omega) name [] none 0 0 [] rfl (by simp) (by simp)) (.cons (.there .here) .nil) (fun _ _ _ => Rdl.nil) ?_)
  rintro v H' ⟨rfl, rfl⟩
  try simp only [nap, cap]
  unfold faultV
  refine Lp (oSW T.ag_34 ?_)
  refine g_ne ?_
  refine g_ret ?_
  refine RtC [Rk b (actM s 0 name [] []).1] T.ag_34 Try.results24 ?_
  exact ⟨rfl, rfl⟩
theorem rremove_m (b : Nat) (s : Ds) (hS : Inv s) (hn : s.acts ≤ 9999) (name : Nm) : FnS Try.prog 31 [.pointer (some ⟨b, 0, none⟩), strv name] (fun _ => True) [Rk b s] (fun v H => v = faultV (kindT 4) name (actM s 4 name [] []).2 ∧ H = [Rk b (actM s 4 name [] []).1]) := by
  refine fn_body Try.func31 rfl Try.ntmps31 rfl ?_
  intro F hF
  refine g_sr ?_
  refine Lp (oA T.zc_34 fun b1 => ?_)
  refine g_ne ?_
  refine g_sr ?_
  refine Li Mv ?_
  refine Li Mv ?_
  refine Lp (oC T.fn_54 rfl rfl (ract_fn b s hS hn 4 (by omega) name [] none 0 0 [] rfl (by simp) (by simp)) (.cons (.there .here) .nil) (fun _ _ _ => Rdl.nil) ?_)
  rintro v H' ⟨rfl, rfl⟩
  try simp only [nap, cap]
  unfold faultV
  refine Lp (oSW T.ag_34 ?_)
  refine g_ne ?_
  refine g_ret ?_
  refine RtC [Rk b (actM s 4 name [] []).1] T.ag_34 Try.results31 ?_
  exact ⟨rfl, rfl⟩
theorem rsync_m (b : Nat) (s : Ds) (hS : Inv s) (hn : s.acts ≤ 9999) (name : Nm) : FnS Try.prog 27 [.pointer (some ⟨b, 0, none⟩), strv name] (fun _ => True) [Rk b s] (fun v H => v = faultV (kindT 2) name (actM s 2 name [] []).2 ∧ H = [Rk b (actM s 2 name [] []).1]) := by
  refine fn_body Try.func27 rfl Try.ntmps27 rfl ?_
  intro F hF
  refine g_sr ?_
  refine Lp (oA T.zc_34 fun b1 => ?_)
  refine g_ne ?_
  refine g_sr ?_
  refine Li Mv ?_
  refine Li Mv ?_
  refine Lp (oC T.fn_54 rfl rfl (ract_fn b s hS hn 2 (by omega) name [] none 0 0 [] rfl (by simp) (by simp)) (.cons (.there .here) .nil) (fun _ _ _ => Rdl.nil) ?_)
  rintro v H' ⟨rfl, rfl⟩
  try simp only [nap, cap]
  unfold faultV
  refine Lp (oSW T.ag_34 ?_)
  refine g_ne ?_
  refine g_ret ?_
  refine RtC [Rk b (actM s 2 name [] []).1] T.ag_34 Try.results27 ?_
  exact ⟨rfl, rfl⟩
theorem rappend_m (b : Nat) (s : Ds) (hS : Inv s) (hn : s.acts ≤ 9999) (name : Nm) (pa : Option Addr) (n pc : Nat) (p : List UInt8) (hpn : n = p.length) (hp : p.length ≤ 2097152) (hpc : p.length ≤ pc) :
    FnS Try.prog 25 [.pointer (some ⟨b, 0, none⟩), strv name, .slice pa n pc] (fun h => Rdl h pa (bcells p)) [Rk b s] (fun v H => v = faultV (kindT 1) name (actM s 1 name [] p).2 ∧ H = [Rk b (actM s 1 name [] p).1]) := by
  refine fn_body Try.func25 rfl Try.ntmps25 rfl ?_
  intro F hF
  refine g_sr ?_
  refine Lp (oA T.zc_34 fun b1 => ?_)
  refine g_ne ?_
  refine g_sr ?_
  refine Li Mv ?_
  refine Li Mv ?_
  refine Li Mv ?_
  refine Lp (oC T.fn_54 rfl rfl (ract_fn b s hS hn 1 (by omega) name [] pa n pc p hpn hp hpc) (.cons (.there .here) .nil) (fun _ le _ => hF.mono le) ?_)
  rintro v H' ⟨rfl, rfl⟩
  try simp only [nap, cap]
  unfold faultV
  refine Lp (oSW T.ag_34 ?_)
  refine g_ne ?_
  refine g_ret ?_
  refine RtC [Rk b (actM s 1 name [] p).1] T.ag_34 Try.results25 ?_
  exact ⟨rfl, rfl⟩
theorem rrename_m (b : Nat) (s : Ds) (hS : Inv s) (hn : s.acts ≤ 9999) (name to : Nm) : FnS Try.prog 29 [.pointer (some ⟨b, 0, none⟩), strv name, strv to] (fun _ => True) [Rk b s] (fun v H => v = faultV (kindT 3) name (actM s 3 name to []).2 ∧ H = [Rk b (actM s 3 name to []).1]) := by
  refine fn_body Try.func29 rfl Try.ntmps29 rfl ?_
  intro F hF
  refine g_sr ?_
  refine Lp (oA T.zc_34 fun b1 => ?_)
  refine g_ne ?_
  refine g_sr ?_
  refine Li Mv ?_
  refine Li Mv ?_
  refine Li Mv ?_
  refine Lp (oC T.fn_54 rfl rfl (ract_fn b s hS hn 3 (by omega) name to none 0 0 [] rfl (by simp) (by simp)) (.cons (.there .here) .nil) (fun _ _ _ => Rdl.nil) ?_)
  rintro v H' ⟨rfl, rfl⟩
  try simp only [nap, cap]
  unfold faultV
  refine Lp (oSW T.ag_34 ?_)
  refine g_ne ?_
  refine g_ret ?_
  refine RtC [Rk b (actM s 3 name to []).1] T.ag_34 Try.results29 ?_
  exact ⟨rfl, rfl⟩
theorem rsyncn_m (b : Nat) (s : Ds) (hS : Inv s) (hn : s.acts ≤ 9999) : FnS Try.prog 32 [.pointer (some ⟨b, 0, none⟩)] (fun _ => True) [Rk b s] (fun v H => v = faultV (kindT 5) [] (actM s 5 [] [] []).2 ∧ H = [Rk b (actM s 5 [] [] []).1]) := by
  refine fn_body Try.func32 rfl Try.ntmps32 rfl ?_
  intro F hF
  refine g_sr ?_
  refine Lp (oA T.zc_34 fun b1 => ?_)
  refine g_ne ?_
  refine g_sr ?_
  refine Li Mv ?_
  refine Lp (oC T.fn_54 rfl rfl (ract_fn b s hS hn 5 (by omega) [] [] none 0 0 [] rfl (by simp) (by simp)) (.cons (.there .here) .nil) (fun _ _ _ => Rdl.nil) ?_)
  rintro v H' ⟨rfl, rfl⟩
  try simp only [nap, cap]
  unfold faultV
  refine Lp (oSW T.ag_34 ?_)
  refine g_ne ?_
  refine g_ret ?_
  refine RtC [Rk b (actM s 5 [] [] []).1] T.ag_34 Try.results32 ?_
  exact ⟨rfl, rfl⟩
end Go.Proofs.Ytncmmhfgcgnojaa

