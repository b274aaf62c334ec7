/- Part Ps of the proof. -/
import Derived.Test.YtcbcjolpdljbiaaGreatPq2
import Derived.Test.YtcbcjolpdljbiaaGreatPr
set_option maxRecDepth 100000
namespace Go.Proofs.YtcbcjolpdljbiaaGreat
open Go Go.dQ Go.ChangeShapes Go.WideShapes Go.ChangeAt Go.RowKit
theorem v8 (os:Os)(started:os.Started)(H:Type)(enc:TypeId×Value->H)(F:Stop.Interp):
  ReturnsInHanded {} Tryz.checked os 5 .any ((Rows.OpenSpec.upto Rows.storeRoomSpec).pre6 enc Tryz.prog Tryz.f5 Rows.storeRoomUptoRow.domain false) (((Rows.OpenSpec.upto Rows.storeRoomSpec).at F).post enc Tryz.prog Tryz.f5 false true false false):=by
 refine returnsInHanded_of_cond (C:=Tryz.checked) (s:=Rows.OpenSpec.upto Rows.storeRoomSpec) (k:=Rows.uptoSmall) rfl Tryz.own started (by kernel_rfl) Tryz.func5
  (OpenSpec.witness (enc:=enc) (C:=Tryz.checked) (s:=Rows.OpenSpec.upto Rows.storeRoomSpec) (k:=Rows.uptoSmall) rfl false ⟨#[], #[witT],[]⟩ 8 (by kernel_rfl) (by kernel_rfl) (by kernel_rfl)
   (x:=(witD,[],[])) (by kernel_rfl) rfl (by kernel_rfl)) ?_
 intro W base args ds gs before aka hW _ hk _;have Yf:∀(j:Nat) t v,Tryz.f5.params[j]?=some t->args[j]?=some v->Value.okWide Tryz.prog W .any base t v:=aka;have hW':=hW;obtain⟨p,q,hA0,hV,rfl,hfz,zQ⟩:=hW;have hA:DataW.TrodAll enc Tryz.prog W 0 (λ_=>true) true Tryz.f5.params.toList args.toList ds p:=hA0;rw[Tryz.params5]at hA Yf;obtain⟨v0,vs1,d0,ds1,p0,q0,ea,rfl,rfl,⟨_,h0⟩,hA⟩:=trodAll_cons hA;obtain⟨rfl,rfl,rfl⟩:=trodAll_nil hA;obtain rfl:args= #[v0]:=Array.toList_inj.1 ea;obtain⟨rfl,rfl⟩:=trodVars_none hV;have hb:Rows.uptoBulk d0<=1048576:=by
  have h:Rows.uptoBulkAll [d0]<=1048576:=of_decide_eq_true hk;exact Nat.le_trans (y5 (by simp)) h
 have w0:=Ud ajc (Yf 0 26 v0 rfl rfl);obtain⟨t,c,a,l,cap,e0,hn,hr,lS⟩:=aeO h0 hb;rw[e0]at w0;have hc:=Vr (jB t c l a cap (by omega)) W ⟨hr,lS⟩;rw[<-w0]at hc;refine hc.mono λe W' ⟨he,hb⟩=> ?_;subst he;exact⟨_,rfl,Vq hW' rfl (by kernel_rfl) Tryz.underlying4 rfl Tryz.laidOut (by rw[Tryz.params5];decide+kernel) hb⟩
theorem storeRoom_holds:Rows.StoreRoomUptoSaid:=
 OpenClaim.holds_of_cond 5 Tryz.f5 rfl rfl rfl rfl rfl rfl rfl ⟨rfl,rfl,rfl,rfl,rfl⟩ rfl rfl rfl rfl rfl (by kernel_rfl) Tryz.func5 (by kernel_rfl)
  (of_decide_eq_true (by kernel_rfl)) (by unfold Func.isWrapper;first|(rw[if_pos (by decide+kernel)];kernel_rfl)|(rw[if_neg (by decide+kernel)];exact⟨rfl,rfl⟩))
  (λos started H enc _ F=>v8 os started H enc F)
end Go.Proofs.YtcbcjolpdljbiaaGreat
