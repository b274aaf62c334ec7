/- StoreMap: where there is room for all, the store is the plain map that the statement keeps: the call returns true for every pace and every script. Condition: the input is of bulk at most 1048576 (the second form). -/
import Derived.Test.YtdolmecackmjdaaGreatDoorPq2
import Derived.Test.YtdolmecackmjdaaGreatDoorPr
import Derived.Deep.DeepHandedRow
import Derived.SevenTiedAt
import Derived.Test.YtdolmecackmjdaaGreatDoorCards
set_option maxRecDepth 100000
open Go.Proofs.Tryz renaming prog → acw
namespace Go.Proofs.YtdolmecackmjdaaGreatDoor
open Go Go.dL Go.ChangeShapes Go.WideShapes Go.ChangeAt Go.RowKit
theorem ya (os:Os){H:Type}(enc:TypeId×Value→H):∃places,DataW.whole enc acw ((World.doorLaid acw 400 os).forCall (λ_ _=>0) ⟨#[], #[.agg #[.int .i64 0, .int .i64 0, .int .i64 0, .int .i64 0], .slice none 0 0],[]⟩).memory Tryz.f4.params.toList Rows.storeMapSpec.vars false (#[.agg #[.int .i64 0, .int .i64 0, .int .i64 0, .int .i64 0], .slice none 0 0]:Array Value).toList 8
  =some ([.agg [.lit (.int .i64 0), .lit (.int .i64 0), .lit (.int .i64 0), .lit (.int .i64 0)], .nil],[],places):=
 ⟨[],by kernel_rfl⟩
theorem uN (os:Os)(started:os.Started)(H:Type)(enc:TypeId×Value→H)(F:Stop.Interp):
  ReturnsInHanded {} Tryz.checked os 4 .any ((Rows.OpenSpec.upto Rows.storeMapSpec).preRow enc acw Tryz.f4 Rows.storeMapUptoRow.domain false Rows.storeMapUptoRow.laid) (((Rows.OpenSpec.upto Rows.storeMapSpec).at F).post enc acw Tryz.f4 false true false false):=by
 obtain⟨places,hx⟩:=ya os enc;refine returnsInHanded_of_row (C:=Tryz.checked) (s:=Rows.OpenSpec.upto Rows.storeMapSpec) Tryz.own started (by kernel_rfl) Tryz.func4
  (witness_row_at (enc:=enc) (C:=Tryz.checked) false (World.doorLaid acw 400 os) #[.agg #[.int .i64 0, .int .i64 0, .int .i64 0, .int .i64 0], .slice none 0 0] rfl (by kernel_rfl) (by kernel_rfl) (by kernel_rfl)
   (OpenSpec.preRow_of_cond 8 hx (by kernel_rfl) (λk hk=>by cases hk;kernel_rfl) (by kernel_rfl) (SS os _))) ?_
 intro W base args ds gs before afd hW _ hk _ hL _ _;have Na:∀(j:Nat) t v,Tryz.f4.params[j]?=some t→args[j]?=some v→Value.okWide acw W .any base t v:=afd;have hW':=hW;obtain⟨p,q,hA0,hV,rfl,hfz,yF⟩:=hW;have hA:DataW.TrodAll enc acw W 0 (λ_=>true) true Tryz.f4.params.toList args.toList ds p:=hA0;rw[Tryz.params4]at hA Na;obtain⟨v0,vs1,d0,ds1,p0,q0,ea,rfl,rfl,⟨_,h0⟩,hA⟩:=trodAll_cons hA;obtain⟨v2,vs3,d2,ds3,p2,q2,rfl,rfl,rfl,⟨_,h2⟩,hA⟩:=trodAll_cons hA;obtain⟨rfl,rfl,rfl⟩:=trodAll_nil hA;obtain rfl:args= #[v0,v2]:=Array.toList_inj.1 ea;obtain⟨rfl,rfl⟩:=trodVars_none hV;have hb:Rows.uptoBulk d2≤1048576:=by
  have h:Rows.uptoBulkAll [d0,d2]≤1048576:=of_decide_eq_true (hk _ rfl);exact Nat.le_trans (xD (by simp)) h
 have w0:=Qo aeg (Na 0 25 v0 rfl rfl);obtain⟨c,e0⟩:=Vx h0;obtain⟨a,cap,l,e2,hn,hr,pA⟩:=tG (en:=B5) (Q:=λd=>Ct (kh W) d∧d.c.data.length≤1048576) Tryz.underlying53 (by rw[show acw.cellsOf 63=12 by kernel_rfl];omega) (λ_ _ _ hx hb=>aak hx hb) h2 hb;have w2:=Jj Tryz.underlying53 (Na 1 53 v2 rfl rfl) e2;rw[e0]at w0;have hc:=RA (DA c l a cap (by omega)) W ⟨yC hL,hr,pA⟩;rw[←w0,←w2]at hc;refine hc.mono λe W' ⟨he,hb⟩=> ?_;subst he;exact⟨_,rfl,Rz hW' rfl (by kernel_rfl) Tryz.underlying4 rfl Tryz.laidOut (by rw[Tryz.params4];decide+kernel) hb⟩
theorem Bo:Rows.StoreMapUptoSaid:=
 OpenClaim.holds_of_cond 4 Tryz.f4 rfl rfl rfl rfl rfl rfl rfl ⟨rfl,rfl,rfl,rfl,rfl⟩ rfl rfl rfl rfl rfl (by kernel_rfl) Tryz.func4 (by kernel_rfl)
  (of_decide_eq_true (by kernel_rfl)) (by unfold Func.isWrapper;first|(rw[if_pos (by decide+kernel)];kernel_rfl)|(rw[if_neg (by decide+kernel)];exact⟨rfl,rfl⟩))
  (λos started H enc _ F=>by rw[OpenClaim.pre_eq_preRow];exact uN os started H enc F)
theorem storeMap_holds:Rows.StoreMapUptoCardSaid:=
 Claim7.holds_tied_plain_at .later [] _ _ _ _ Bo (λ_ h=>by cases h) (by kernel_rfl) (λ_ h=>by cases h) storeMapUpto_row_tie rfl ⟨rfl,rfl⟩ (by kernel_rfl) rfl
  (λf fn hf lj=>by
   obtain rfl:f=4:=Option.some.inj ((show acw.funcNamed "granary/granarylaw10.StoreMap" =some 4 by kernel_rfl).symm.trans hf) |>.symm;obtain rfl:fn=Tryz.f4:=(Option.some.inj (Tryz.func4.symm.trans lj)).symm;exact⟨by kernel_rfl,λj t ht=>by
    rw[Tryz.params4]at ht;have hm:t∈ [25,53]:=by simpa using Array.mem_of_getElem? ht
    have rH:([25,53].all λu=> !Tryz.prog.wantsStandIn u)=true:=by kernel_rfl
    exact(show acw.wantsStandIn t=false by simpa using List.all_eq_true.1 rH t hm)⟩)
  (by kernel_rfl)
end Go.Proofs.YtdolmecackmjdaaGreatDoor
