/- StoreThaws: a class that starves gets the pages of one whose items have gone; what is kept is moved, not lost: the call returns true for every input. No condition. -/
import Derived.Test.YtcbcjolpdljbiaaGreatPq2
import Derived.Test.YtcbcjolpdljbiaaGreatPr
set_option maxRecDepth 100000
open Go.Value renaming int -> Dm
open Go.IntKind renaming i64 -> Dl
open Go.Proofs.Tryz renaming prog -> FM
namespace Go.Proofs.YtcbcjolpdljbiaaGreat
open Go Go.dC Go.ChangeShapes Go.WideShapes Go.ChangeAt Go.RowKit
theorem ahP:kK FM 69=some [(0,3,1),(1,3,1),(2,4,1),(3,23,4)]:=by kernel_rfl
theorem Yb{H:Type}{enc:TypeId×Value->H}{w:World}{spare:Nat->Bool}{held:Bool}{fuel:Nat}{cs:FJ}{x:DataW H×List MemPlace}(h:DataW.trod enc FM w 0 spare held fuel 69 cs=some x):
  ∃(n k:Int) (b:Bool) (p:pD),cs= [Dm Dl n,Dm Dl k, .bool b,Dm Dl p.b,Dm Dl p.l,Dm Dl p.c,Dm Dl p.m]:=by
 obtain⟨hl,hf⟩:=JO ahP h;rw[show FM.cellsOf 69=7 by kernel_rfl]at hl
 match cs,hl with
 | [c0,c1,c2,c3,c4,c5,c6],_=>
  obtain⟨_,_,h0⟩:=hf 0 _ _ _ rfl;obtain⟨_,_,h1⟩:=hf 1 _ _ _ rfl;obtain⟨_,_,h2⟩:=hf 2 _ _ _ rfl;obtain⟨_,_,h3⟩:=hf 3 _ _ _ rfl;obtain⟨z0,e0,_⟩:=uN Tryz.underlying3 h0;obtain⟨z1,e1,_⟩:=uN Tryz.underlying3 h1;obtain⟨z2,e2⟩:=Yd Tryz.underlying4 h2;obtain⟨p,e3⟩:=Yc h3;unfold zR at e3;simp only[List.drop_zero,List.take_succ_cons,List.take_zero,List.drop_succ_cons,List.cons.injEq,and_true]at e0 e1 e2 e3;obtain⟨rfl,rfl,rfl,rfl⟩:=e3;subst e0 e1 e2;exact⟨z0,z1,z2,p,rfl⟩
theorem uk (os:Os)(started:os.Started)(H:Type)(enc:TypeId×Value->H):
  ReturnsInHanded {} Tryz.checked os 4 .any (Rows.storeThawsSpec.pre6 enc FM Tryz.f4 Rows.storeThawsRow.domain false) (Rows.storeThawsSpec.post enc FM Tryz.f4 false true false false):=by
 refine returnsInHanded_of_change (C:=Tryz.checked) Tryz.own started (by kernel_rfl) Tryz.func4
  (ChangeSpec.witness6 (enc:=enc) (C:=Tryz.checked) false ⟨#[], #[.agg #[Dm Dl 0,Dm Dl 0, .bool false,Dm Dl 0,Dm Dl 0,Dm Dl 0,Dm Dl 0]],[]⟩ 12 (by kernel_rfl) (by kernel_rfl) (by kernel_rfl) (by kernel_rfl)) ?_
 intro W base args ds gs before aiQ hW hcnd _;have Xg:∀(j:Nat) t v,Tryz.f4.params[j]?=some t->args[j]?=some v->Value.okWide FM W .any base t v:=aiQ;have hW':=hW;obtain⟨p,q,hA0,hV,rfl,hfz,zE⟩:=hW;have hA:DataW.TrodAll enc FM W 0 (λ_=>true) true Tryz.f4.params.toList args.toList ds p:=hA0;rw[Tryz.params4]at hA Xg;obtain⟨v0,d0,rfl,rfl,h0⟩:=trodAll_one hA;obtain⟨rfl,rfl⟩:=trodVars_none hV;have e0:=Tt ahP (Xg 0 69 v0 rfl rfl);obtain⟨_,h0⟩:=h0;obtain⟨n,k,b,pc,ec⟩:=Yb h0;rw[ec]at e0;have hc:=UM (ak2 n k b pc) W trivial;rw[<-e0]at hc;refine hc.mono λe W' ⟨he,hb⟩=> ?_;subst he;exact⟨_,rfl,UL hW' rfl (by kernel_rfl) Tryz.underlying4 rfl Tryz.laidOut (by rw[Tryz.params4];decide+kernel) hb⟩
theorem storeThaws_holds:Rows.StoreThawsSaid:=
 OpenClaim.holds_of_wide 4 Tryz.f4 rfl rfl rfl rfl rfl rfl rfl ⟨rfl,rfl,rfl,rfl,rfl⟩ rfl rfl rfl rfl rfl (by kernel_rfl) Tryz.func4 (by kernel_rfl)
  (of_decide_eq_true (by kernel_rfl)) (by unfold Func.isWrapper;first|(rw[if_pos (by decide+kernel)];kernel_rfl)|(rw[if_neg (by decide+kernel)];exact⟨rfl,rfl⟩))
  (λos started H enc _=>uk os started H enc)
end Go.Proofs.YtcbcjolpdljbiaaGreat
