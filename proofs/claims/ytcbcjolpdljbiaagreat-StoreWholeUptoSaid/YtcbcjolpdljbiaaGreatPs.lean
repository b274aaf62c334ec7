/- StoreWhole: residents within the pages' chunks, quotas, pages, Len and Bytes behind every step: the call returns true. Condition: the input is of bulk at most 1048576. -/
import Derived.Test.YtcbcjolpdljbiaaGreatPq1
import Derived.Test.YtcbcjolpdljbiaaGreatPr
set_option maxRecDepth 100000
namespace Go.Proofs.YtcbcjolpdljbiaaGreat
open Go Go.dG Go.ChangeShapes Go.WideShapes Go.ChangeAt Go.RowKit
theorem ue (os:Os)(started:os.Started)(H:Type)(enc:TypeId×Value->H)(F:Stop.Interp):
  ReturnsInHanded {} Tryz.checked os 6 .any ((Rows.OpenSpec.upto Rows.storeWholeSpec).pre6 enc Tryz.prog Tryz.f6 Rows.storeWholeUptoRow.domain false) (((Rows.OpenSpec.upto Rows.storeWholeSpec).at F).post enc Tryz.prog Tryz.f6 false true false false):=by
 refine returnsInHanded_of_cond (C:=Tryz.checked) (s:=Rows.OpenSpec.upto Rows.storeWholeSpec) (k:=Rows.uptoSmall) rfl Tryz.own started (by kernel_rfl) Tryz.func6
  (OpenSpec.witness (enc:=enc) (C:=Tryz.checked) (s:=Rows.OpenSpec.upto Rows.storeWholeSpec) (k:=Rows.uptoSmall) rfl false ⟨#[], #[witT],[]⟩ 8 (by kernel_rfl) (by kernel_rfl) (by kernel_rfl)
   (x:=(witD,[],[])) (by kernel_rfl) rfl (by kernel_rfl)) ?_
 intro W base args ds gs before ah5 hW _ hk _;have Ws:∀(j:Nat) t v,Tryz.f6.params[j]?=some t->args[j]?=some v->Value.okWide Tryz.prog W .any base t v:=ah5;have hW':=hW;obtain⟨p,q,hA0,hV,rfl,hfz,yR⟩:=hW;have hA:DataW.TrodAll enc Tryz.prog W 0 (λ_=>true) true Tryz.f6.params.toList args.toList ds p:=hA0;rw[Tryz.params6]at hA Ws;obtain⟨v0,vs1,d0,ds1,p0,q0,ea,rfl,rfl,⟨_,h0⟩,hA⟩:=trodAll_cons hA;obtain⟨rfl,rfl,rfl⟩:=trodAll_nil hA;obtain rfl:args= #[v0]:=Array.toList_inj.1 ea;obtain⟨rfl,rfl⟩:=trodVars_none hV;have hb:Rows.uptoBulk d0<=1048576:=by
  have h:Rows.uptoBulkAll [d0]<=1048576:=of_decide_eq_true hk;exact Nat.le_trans (ye (by simp)) h
 have w0:=Sf ag3 (Ws 0 26 v0 rfl rfl);obtain⟨t,c,a,l,cap,e0,hn,hr,nj⟩:=acQ h0 hb;rw[e0]at w0;have hc:=TV (zA t c l a cap (by omega)) W ⟨hr,nj⟩;rw[<-w0]at hc;refine hc.mono λe W' ⟨he,hb⟩=> ?_;subst he;exact⟨_,rfl,TU hW' rfl (by kernel_rfl) Tryz.underlying4 rfl Tryz.laidOut (by rw[Tryz.params6];decide+kernel) hb⟩
theorem storeWhole_holds:Rows.StoreWholeUptoSaid:=
 OpenClaim.holds_of_cond 6 Tryz.f6 rfl rfl rfl rfl rfl rfl rfl ⟨rfl,rfl,rfl,rfl,rfl⟩ rfl rfl rfl rfl rfl (by kernel_rfl) Tryz.func6 (by kernel_rfl)
  (of_decide_eq_true (by kernel_rfl)) (by unfold Func.isWrapper;first|(rw[if_pos (by decide+kernel)];kernel_rfl)|(rw[if_neg (by decide+kernel)];exact⟨rfl,rfl⟩))
  (λos started H enc _ F=>ue os started H enc F)
end Go.Proofs.YtcbcjolpdljbiaaGreat
