/- StorePace: two stores of unlike paces, with room for all, answer one script alike: the call returns true for all paces and every script. Condition: the input is of bulk at most 1048576 (the second form). -/
import Derived.Test.YtdolmecackmjdaaGreatDoorPq1
import Derived.Test.YtdolmecackmjdaaGreatDoorPr
import Derived.Deep.DeepHandedRow
import Derived.SevenTiedAt
import Derived.Test.YtdolmecackmjdaaGreatDoorCards
set_option maxRecDepth 100000
open Go.Proofs.Tryz renaming prog → aaa
namespace Go.Proofs.YtdolmecackmjdaaGreatDoor
open Go Go.cV Go.ChangeShapes Go.WideShapes Go.ChangeAt Go.RowKit
theorem sY (os:Os){H:Type}(enc:TypeId×Value→H):∃places,DataW.whole enc aaa ((World.doorLaid aaa 400 os).forCall (λ_ _=>0) ⟨#[], #[.agg #[.int .i64 0, .int .i64 0, .int .i64 0, .int .i64 0], .agg #[.int .i64 0, .int .i64 0, .int .i64 0, .int .i64 0], .slice none 0 0],[]⟩).memory Tryz.f5.params.toList Rows.storePaceSpec.vars false (#[.agg #[.int .i64 0, .int .i64 0, .int .i64 0, .int .i64 0], .agg #[.int .i64 0, .int .i64 0, .int .i64 0, .int .i64 0], .slice none 0 0]:Array Value).toList 8
  =some ([.agg [.lit (.int .i64 0), .lit (.int .i64 0), .lit (.int .i64 0), .lit (.int .i64 0)], .agg [.lit (.int .i64 0), .lit (.int .i64 0), .lit (.int .i64 0), .lit (.int .i64 0)], .nil],[],places):=
 ⟨[],by kernel_rfl⟩
theorem rX (os:Os)(started:os.Started)(H:Type)(enc:TypeId×Value→H)(F:Stop.Interp):
  ReturnsInHanded {} Tryz.checked os 5 .any ((Rows.OpenSpec.upto Rows.storePaceSpec).preRow enc aaa Tryz.f5 Rows.storePaceUptoRow.domain false Rows.storePaceUptoRow.laid) (((Rows.OpenSpec.upto Rows.storePaceSpec).at F).post enc aaa Tryz.f5 false true false false):=by
 obtain⟨places,hx⟩:=sY os enc
 refine returnsInHanded_of_row (C:=Tryz.checked) (s:=Rows.OpenSpec.upto Rows.storePaceSpec) Tryz.own started (by kernel_rfl) Tryz.func5
  (witness_row_at (enc:=enc) (C:=Tryz.checked) false (World.doorLaid aaa 400 os) #[.agg #[.int .i64 0, .int .i64 0, .int .i64 0, .int .i64 0], .agg #[.int .i64 0, .int .i64 0, .int .i64 0, .int .i64 0], .slice none 0 0] rfl (by kernel_rfl) (by kernel_rfl) (by kernel_rfl)
   (OpenSpec.preRow_of_cond 8 hx (by kernel_rfl) (λk hk=>by cases hk;kernel_rfl) (by kernel_rfl) (PT os _))) ?_
 intro W base args ds gs before acb hW _ hk _ hL _ _
 have GP:∀(j:Nat) t v,Tryz.f5.params[j]?=some t→args[j]?=some v→Value.okWide aaa W .any base t v:=acb
 have hW':=hW
 obtain⟨p,q,hA0,hV,rfl,hfz,wT⟩:=hW
 have hA:DataW.TrodAll enc aaa W 0 (λ_=>true) true Tryz.f5.params.toList args.toList ds p:=hA0
 rw[Tryz.params5]at hA GP
 obtain⟨v0,vs1,d0,ds1,p0,q0,ea,rfl,rfl,⟨_,h0⟩,hA⟩:=trodAll_cons hA
 obtain⟨v1,vs2,d1,ds2,p1,q1,rfl,rfl,rfl,⟨_,h1⟩,hA⟩:=trodAll_cons hA
 obtain⟨v2,vs3,d2,ds3,p2,q2,rfl,rfl,rfl,⟨_,h2⟩,hA⟩:=trodAll_cons hA
 obtain⟨rfl,rfl,rfl⟩:=trodAll_nil hA
 obtain rfl:args= #[v0,v1,v2]:=Array.toList_inj.1 ea
 obtain⟨rfl,rfl⟩:=trodVars_none hV
 have hb:Rows.uptoBulk d2≤1048576:=by
  have h:Rows.uptoBulkAll [d0,d1,d2]≤1048576:=of_decide_eq_true (hk _ rfl)
  exact Nat.le_trans (vI (by simp)) h
 have w0:=Aw Wn (GP 0 25 v0 rfl rfl)
 have w1:=Aw Wn (GP 1 25 v1 rfl rfl)
 obtain⟨c,e0⟩:=Fu h0
 obtain⟨k,e1⟩:=Fu h1
 obtain⟨a,cap,l,e2,hn,hr,nF⟩:=rH (en:=z8) (Q:=Ar (jv W)) Tryz.underlying53 (by rw[show aaa.cellsOf 63=12 by kernel_rfl];omega) (λ_ _ _ hx hb=>XB hx hb) h2 hb
 have w2:=G6 Tryz.underlying53 (GP 2 53 v2 rfl rfl) e2
 rw[e0]at w0
 rw[e1]at w1
 have hc:=OC (zn c k l a cap (by omega)) W ⟨wQ hL,hr,nF⟩
 rw[←w0,←w1,←w2]at hc
 refine hc.mono λe W' ⟨he,hb⟩=> ?_
 subst he
 exact⟨_,rfl,OB hW' rfl (by kernel_rfl) Tryz.underlying4 rfl Tryz.laidOut (by rw[Tryz.params5];decide+kernel) hb⟩
theorem wN:Rows.StorePaceUptoSaid:=
 OpenClaim.holds_of_cond 5 Tryz.f5 rfl rfl rfl rfl rfl rfl rfl ⟨rfl,rfl,rfl,rfl,rfl⟩ rfl rfl rfl rfl rfl (by kernel_rfl) Tryz.func5 (by kernel_rfl)
  (of_decide_eq_true (by kernel_rfl)) (by unfold Func.isWrapper;first|(rw[if_pos (by decide+kernel)];kernel_rfl)|(rw[if_neg (by decide+kernel)];exact⟨rfl,rfl⟩))
  (λos started H enc _ F=>by rw[OpenClaim.pre_eq_preRow];exact rX os started H enc F)
theorem storePace_holds:Rows.StorePaceUptoCardSaid:=
 Claim7.holds_tied_plain_at .later [] _ _ _ _ wN (λ_ h=>by cases h) (by kernel_rfl) (λ_ h=>by cases h) storePaceUpto_row_tie rfl ⟨rfl,rfl⟩ (by kernel_rfl) rfl
  (λf fn hf j5=>by
   obtain rfl:f=5:=Option.some.inj ((show aaa.funcNamed "granary/granarylaw10.StorePace" =some 5 by kernel_rfl).symm.trans hf) |>.symm
   obtain rfl:fn=Tryz.f5:=(Option.some.inj (Tryz.func5.symm.trans j5)).symm
   exact⟨by kernel_rfl,λj t ht=>by
    rw[Tryz.params5]at ht
    have hm:t∈ [25,25,53]:=by simpa using Array.mem_of_getElem? ht
    have pZ:([25,25,53].all λu=> !Tryz.prog.wantsStandIn u)=true:=by kernel_rfl
    exact(show aaa.wantsStandIn t=false by simpa using List.all_eq_true.1 pZ t hm)⟩)
  (by kernel_rfl)
end Go.Proofs.YtdolmecackmjdaaGreatDoor
