/- Part Pr of the proof. -/
import Derived.Test.YtcbcjolpdljbiaaGreatPo
import Derived.Below
import Derived.Carry
import Derived.ChangeArms
import Derived.DataReads
import Derived.LaidMore
import Derived.Lib.LaidTab
import Derived.OpenShut
import Derived.ProofKit
import Derived.Stop.Joined
import Derived.Test.YtcbcjolpdljbiaaGreatRows
import Derived.WideShapes
set_option maxRecDepth 100000
open Array renaming getElem?_eq_getElem -> aha, getElem?_eq_some_iff -> agv
open List renaming mem_append_right -> agP, mem_cons_self -> aag, mem_append_left -> agW
namespace Go.dC
open Go Go.RowKit Go.WideShapes Go.ChangeShapes
section
variable {H:Type} {enc:TypeId×Value->H} {P:Program}
def frm (W:World):dG:=⟨W.os,W.tape,W.output,lr W,W.drawn⟩
theorem acV (W:World):St (frm W) [] W:=⟨rfl,⟨rfl,Nat.le_refl _⟩,rfl,Le.refl _,λ_=>none,trivial,(λ_ _ e=>by cases e),(λ_=> .inl rfl)⟩
theorem Gd{W W':World}{L:F8}(s:St (frm W) L W'):Below W.heap.size W W':=by
 have hk:∀k,k<W.heap.size->W'.heap[k]?=W.heap[k]?:=λk hk=>by
  have h1:W.heap[k]?=some W.heap[k]:=aha hk;rw[h1];exact s.frame k _ h1
 refine⟨s.os,s.tape.1,s.output, ?_,hk⟩;rcases Nat.eq_zero_or_pos W.heap.size with h0|h0
 ·omega
 have h1:=hk (W.heap.size-1) (by omega);rw[aha (show W.heap.size-1<W.heap.size by omega)]at h1;have:=(agv.1 h1).1;omega
theorem UM{f:FuncId}{args:FJ}{pre:Hp->Prop}(h:aG P f args pre [] (λv H=>v= .bool true/\H= []))(W:World)(hp:pre (lr W)):
  Calls P f args.toArray W λe W'=>e= .returned (.bool true)/\Below W.heap.size W W':=by
 refine(h (frm W) W hp (acV W)).mono λe W' hh=> ?_;obtain⟨v,H',he,⟨rfl,rfl⟩,st⟩:=hh;exact⟨he,Gd st⟩
theorem z8 (hl:laidOutB P=true){W W':World}{sp:Nat->Bool}:∀{ts:List TypeId} {vs:FJ} {ds:List (DataW H)} {ps:List MemPlace},(∀t∈ts,P.readableRec t=true/\t<P.types.size)->
  DataW.TrodAll enc P W 0 (λ_=>true) true ts vs ds ps->(∀p∈ps,W.sameAt W' p)->(∀p∈ps,sp p.block=true)->DataW.TrodAll enc P W' 0 sp true ts vs ds ps:=by
 intro ts;induction ts with
 |nil=>
  intro vs ds ps _ h _ _;obtain⟨rfl,rfl,rfl⟩:=trodAll_nil h;exact rfl
 |cons t ts ih=>
  intro vs ds ps hr h hs hp;obtain⟨v,vs',d,ds',p,q,rfl,rfl,rfl,h1,h2⟩:=trodAll_cons h;refine⟨p,q, ?_,ih (λx hx=>hr x (List.mem_cons_of_mem _ hx)) h2 (λx hx=>hs x (agP _ hx)) (λx hx=>hp x (agP _ hx)),rfl⟩;exact WideElems.Trod_stays hl (hr t (aag ..)).1 (hr t (aag ..)).2 h1 (λx hx=>hs x (agW _ hx)) (λx hx=>hp x (agW _ hx))
theorem UL{f:Func}{s:ChangeSpec}{apart fresh handsOn again:Bool}{W W':World}{args:Array Value}{ds gs:List (DataW H)}{before:List MemPlace}
  (hW:DataW.Whole enc P f.params.toList s.vars apart W args.toList ds gs before) (hv:s.vars= []) (hrt:f.resultTypes= #[4]) (eH:P.underlying 4=some .bool)
  (kH:s.fn H (ds++gs)={results:= [.lit (.bool true)],args:=ds}) (hl:laidOutB P=true) (hr:∀t∈f.params.toList,P.readableRec t=true/\t<P.types.size) (hb:Below W.heap.size W W'):
  s.post enc P f apart fresh handsOn again W args (.bool true) W':=by
 have hW0:=hW;obtain⟨p,q,hA,hV,rfl,hz,hn⟩:=hW;rw[hv]at hV;obtain⟨rfl,rfl⟩:=trodVars_none hV;have cJ:∀x∈p++ [],x.block<W.heap.size:=λx hx=>hW0.lt x hx;have aaT:∀sp:Nat->Bool,(∀x∈p++ [],sp x.block=true)->DataW.TrodAll enc P W' 0 sp true f.params.toList args.toList ds p:=λsp Gj=>
  z8 hl hr hA (λx hx=>hb.same (cJ x (by simpa using hx))) (λx hx=>Gj x (by simpa using hx))
 have ahy:∀(b:Nat) (sp:Nat->Bool) (hd:Bool),DataW.TrodAll enc P W' b sp hd f.resultTypes.toList ((Value.bool true).resultList f.resultTypes.size) [.lit (.bool true)] []:=by
  intro b sp hd;rw[hrt];exact⟨[],[],shut_bool eH true,rfl,rfl⟩
 have pC:∀(j:Nat) (t:TypeId) (r:Value),f.resultTypes[j]?=some t->((Value.bool true).resultList f.resultTypes.size)[j]?=some r->Value.okWide P W' .any 0 t r:=by
  rw[hrt];exact ok_one (f:=f) hrt rfl (okWide_bool_mk eH true) |>λh=>by rw[hrt]at h;exact h
 refine⟨ds,[],p++ [],[],p,[],hW0, ?_, ?_, ?_, ?_,λ_=> ?_⟩
 ·rw[kH];exact ahy _ _ _
 ·rw[kH];exact aaT _ (λx hx=>by simpa using cJ x hx)
 ·rw[hv];rw[kH];exact rfl
 ·exact World.keptBut_mono (λx hx=>⟨hx,Or.inr (by simpa using hx)⟩) (hb.frame (·∈p++ []))
 rw[hv];refine⟨pC,_,[],([]++p)++ [],⟨[]++p,[],trodAll_append (aaT _ (λ_ _=>rfl)) (ahy _ _ _),rfl,rfl, ?_, ?_⟩, ?_⟩
 ·intro b off hp
  have ak:MemPlace.cell b off∈p++ []:=by simpa using hp
  rw[hb.frozen (cJ _ ak)];exact hz b off ak
 ·intro ha
  have:=hn ha;simpa using this
 intro x hx _;simpa using hx
end
end Go.dC
namespace Go.dC
open Go Go.RowKit Go.WideShapes Go.ChangeShapes
section
variable {H:Type} {enc:TypeId×Value->H} {P:Program} {w:World} {spare:Nat->Bool} {held:Bool} {base:Nat}
theorem uN{t:TypeId}{k:IntKind}{fuel:Nat}{cs:FJ}{x:DataW H×List MemPlace}(ht:P.underlying t=some (.int k))(h:DataW.trod enc P w base spare held fuel t cs=some x):∃n,cs= [.int k n]/\k.min<=n/\n<=k.max:=by
 obtain⟨n,h1,_,h2⟩:=DataW.trod_int ht h;exact⟨n,h1,by simpa[Lit.wf]using h2⟩
theorem Yd{t:TypeId}{fuel:Nat}{cs:FJ}{x:DataW H×List MemPlace}(ht:P.underlying t=some .bool)(h:DataW.trod enc P w base spare held fuel t cs=some x):∃b,cs= [.bool b]:=by
 obtain⟨n,h1,_⟩:=DataW.trod_bool ht h;exact⟨n,h1⟩
theorem Mu{t:TypeId}{fs:Array Field}{fuel:Nat}{cs:FJ}{x:DataW H×List MemPlace}(ht:P.underlying t=some (.struct fs))(h:DataW.trod enc P w base spare held fuel t cs=some x):
  cs.length=P.cellsOf t/\∀(i:Nat) (f:Field),fs[i]?=some f->∃n x',DataW.trod enc P w base spare held n f.type ((cs.drop f.offset).take (P.cellsOf f.type))=some x':=by
 obtain⟨xs,n,_,_,h1,h2,h3⟩:=DataW.trod_struct ht h;refine⟨h1,λi f hf=>⟨n,xs[i]'(by rw[h2];exact(agv.1 hf).1), ?_⟩⟩;rw[h3 i f hf,List.getElem?_eq_getElem]
def kK (P:Program)(t:TypeId):Option (List (Nat×TypeId×Nat)):=
 match P.underlying t with
 |some (.struct fs)=>some (fs.toList.map λf=>(f.offset,f.type,P.cellsOf f.type))
 |_=>none
theorem JO{t:TypeId}{L:List (Nat×TypeId×Nat)}{fuel:Nat}{cs:FJ}{x:DataW H×List MemPlace}(ht:kK P t=some L)(h:DataW.trod enc P w base spare held fuel t cs=some x):
  cs.length=P.cellsOf t/\∀(i:Nat) (o ty k:Nat),L[i]?=some (o,ty,k)->∃n x',DataW.trod enc P w base spare held n ty ((cs.drop o).take k)=some x':=by
 unfold kK at ht;cases hu:P.underlying t with
 |none=>simp[hu]at ht
 |some d=>
  cases d<;>simp[hu]at ht;rename_i fs;subst ht;obtain⟨h1,h2⟩:=Mu hu h;refine⟨h1,λi o ty k hi=> ?_⟩;simp only[List.getElem?_map,Option.map_eq_some_iff,Prod.mk.injEq]at hi;obtain⟨f,hf,rfl,rfl,rfl⟩:=hi;exact h2 i f (by simpa using hf)
theorem Tt{t:TypeId}{L:List (Nat×TypeId×Nat)}{v:Value}{r:Reach}{b0:Nat}(ht:kK P t=some L)(h:Value.okWide P w r b0 t v):v= .agg v.cells.toList.toArray:=by
 unfold kK at ht;cases hu:P.underlying t with
 |none=>simp[hu]at ht
 |some d=>
  cases d<;>simp[hu]at ht;simp only[Value.okWide,hu]at h;obtain⟨cs,rfl,_⟩:=h;simp[Value.cells]
end
end Go.dC
namespace Go.Proofs.YtcbcjolpdljbiaaGreat
open Go Go.dC Go.ChangeShapes Go.WideShapes Go.ChangeAt Go.RowKit
theorem Tryz.own:ownKnob Tryz.prog.godebug=none:=by kernel_rfl
theorem Tryz.laidOut:laidOutB Tryz.prog=true:=by kernel_rfl
theorem flPc:kK Tryz.prog 23=some [(0,3,1),(1,3,1),(2,3,1),(3,3,1)]:=by kernel_rfl
section
variable {H:Type} {enc:TypeId×Value->H} {w:World} {spare:Nat->Bool} {held:Bool} {base:Nat}
theorem Yc{fuel:Nat}{cs:FJ}{x:DataW H×List MemPlace}(h:DataW.trod enc Tryz.prog w base spare held fuel 23 cs=some x):∃p:pD,cs=zR p:=by
 obtain⟨hl,hf⟩:=JO flPc h;rw[show Tryz.prog.cellsOf 23=4 by kernel_rfl]at hl
 match cs,hl with
 | [c0,c1,c2,c3],_=>
  obtain⟨_,_,h0⟩:=hf 0 _ _ _ rfl;obtain⟨_,_,h1⟩:=hf 1 _ _ _ rfl;obtain⟨_,_,h2⟩:=hf 2 _ _ _ rfl;obtain⟨_,_,h3⟩:=hf 3 _ _ _ rfl;obtain⟨z0,e0,_,_⟩:=uN Tryz.underlying3 h0;obtain⟨z1,e1,_,_⟩:=uN Tryz.underlying3 h1;obtain⟨z2,e2,_,_⟩:=uN Tryz.underlying3 h2;obtain⟨z3,e3,_,_⟩:=uN Tryz.underlying3 h3;simp only[List.drop_zero,List.take_succ_cons,List.take_zero,List.drop_succ_cons,List.cons.injEq,and_true]at e0 e1 e2 e3;subst e0 e1 e2 e3;exact⟨⟨z0,z1,z2,z3⟩,rfl⟩
end
end Go.Proofs.YtcbcjolpdljbiaaGreat
