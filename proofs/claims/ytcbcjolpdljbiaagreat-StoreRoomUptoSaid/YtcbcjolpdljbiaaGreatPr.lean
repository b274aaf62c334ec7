/- Part Pr of the proof. -/
import Derived.Test.YtcbcjolpdljbiaaGreatPq1
import Derived.Below
import Derived.Carry
import Derived.ChangeArms
import Derived.DataReads
import Derived.Deep.DeepHandedRow
import Derived.JoinedCond
import Derived.LaidMore
import Derived.Lib.LaidTab
import Derived.OpenShut
import Derived.ProofKit
import Derived.Stop.Joined
import Derived.Test.YtcbcjolpdljbiaaGreatRows
import Derived.WideShapes
set_option maxRecDepth 100000
open Array renaming getElem?_eq_getElem -> aie, getElem?_eq_some_iff -> ahq
open List renaming mem_cons_of_mem -> aa6, mem_append_right -> ahT, mem_cons_self -> aa5, mem_append_left -> ah0, flatMap_cons -> ahw, getElem?_eq_getElem -> aa0, getElem?_map -> abf, drop_zero -> aiq, take_succ_cons -> aiu, take_zero -> alo, drop_succ_cons -> aiw, cons -> al0, mem_map_of_mem -> alJ
open UInt8 renaming ofNat -> acU
open Int renaming eq_ofNat_of_zero_le -> aif
open Go.Proofs.Tryz renaming prog -> aaY
open Go.Value renaming int -> DE
open Go.IntKind renaming i64 -> DD, u8 -> amn
namespace Go.dQ
open Go Go.RowKit Go.WideShapes Go.ChangeShapes
section
variable {H:Type} {enc:TypeId×Value->H} {P:Program}
def frm (W:World):dM:=⟨W.os,W.tape,W.output,ki W,W.drawn⟩
theorem ad8 (W:World):St (frm W) [] W:=⟨rfl,⟨rfl,Nat.le_refl _⟩,rfl,Le.refl _,λ_=>none,trivial,(λ_ _ e=>by cases e),(λ_=> .inl rfl)⟩
theorem Gs{W W':World}{L:Dz}(s:St (frm W) L W'):Below W.heap.size W W':=by
 have hk:∀k,k<W.heap.size->W'.heap[k]?=W.heap[k]?:=λk hk=>by
  have h1:W.heap[k]?=some W.heap[k]:=aie hk;rw[h1];exact s.frame k _ h1
 refine⟨s.os,s.tape.1,s.output, ?_,hk⟩;rcases Nat.eq_zero_or_pos W.heap.size with h0|h0
 ·omega
 have h1:=hk (W.heap.size-1) (by omega);rw[aie (show W.heap.size-1<W.heap.size by omega)]at h1;have:=(ahq.1 h1).1;omega
theorem Vr{f:FuncId}{args:FV}{pre:Hp->Prop}(h:aK P f args pre [] (λv H=>v= .bool true/\H= []))(W:World)(hp:pre (ki W)):
  Calls P f args.toArray W λe W'=>e= .returned (.bool true)/\Below W.heap.size W W':=by
 refine(h (frm W) W hp (ad8 W)).mono λe W' hh=> ?_;obtain⟨v,H',he,⟨rfl,rfl⟩,st⟩:=hh;exact⟨he,Gs st⟩
theorem amf (hl:laidOutB P=true){W W':World}{sp:Nat->Bool}:∀{ts:List TypeId} {vs:FV} {ds:List (DataW H)} {ps:List MemPlace},(∀t∈ts,P.readableRec t=true/\t<P.types.size)->
  DataW.TrodAll enc P W 0 (λ_=>true) true ts vs ds ps->(∀p∈ps,W.sameAt W' p)->(∀p∈ps,sp p.block=true)->DataW.TrodAll enc P W' 0 sp true ts vs ds ps:=by
 intro ts;induction ts with
 |nil=>
  intro vs ds ps _ h _ _;obtain⟨rfl,rfl,rfl⟩:=trodAll_nil h;exact rfl
 |cons t ts ih=>
  intro vs ds ps hr h hs hp;obtain⟨v,vs',d,ds',p,q,rfl,rfl,rfl,h1,h2⟩:=trodAll_cons h;refine⟨p,q, ?_,ih (λx hx=>hr x (aa6 _ hx)) h2 (λx hx=>hs x (ahT _ hx)) (λx hx=>hp x (ahT _ hx)),rfl⟩;exact WideElems.Trod_stays hl (hr t (aa5 ..)).1 (hr t (aa5 ..)).2 h1 (λx hx=>hs x (ah0 _ hx)) (λx hx=>hp x (ah0 _ hx))
theorem Vq{f:Func}{s:ChangeSpec}{apart fresh handsOn again:Bool}{W W':World}{args:Array Value}{ds gs:List (DataW H)}{before:List MemPlace}
  (hW:DataW.Whole enc P f.params.toList s.vars apart W args.toList ds gs before) (hv:s.vars= []) (hrt:f.resultTypes= #[4]) (cZ:P.underlying 4=some .bool)
  (kR:s.fn H (ds++gs)={results:= [.lit (.bool true)],args:=ds}) (hl:laidOutB P=true) (hr:∀t∈f.params.toList,P.readableRec t=true/\t<P.types.size) (hb:Below W.heap.size W W'):
  s.post enc P f apart fresh handsOn again W args (.bool true) W':=by
 have hW0:=hW;obtain⟨p,q,hA,hV,rfl,hz,hn⟩:=hW;rw[hv]at hV;obtain⟨rfl,rfl⟩:=trodVars_none hV;have ct:∀x∈p++ [],x.block<W.heap.size:=λx hx=>hW0.lt x hx;have ab4:∀sp:Nat->Bool,(∀x∈p++ [],sp x.block=true)->DataW.TrodAll enc P W' 0 sp true f.params.toList args.toList ds p:=λsp PU=>
  amf hl hr hA (λx hx=>hb.same (ct x (by simpa using hx))) (λx hx=>PU x (by simpa using hx))
 have aiV:∀(b:Nat) (sp:Nat->Bool) (hd:Bool),DataW.TrodAll enc P W' b sp hd f.resultTypes.toList ((Value.bool true).resultList f.resultTypes.size) [.lit (.bool true)] []:=by
  intro b sp hd;rw[hrt];exact⟨[],[],shut_bool cZ true,rfl,rfl⟩
 have lS:∀(j:Nat) (t:TypeId) (r:Value),f.resultTypes[j]?=some t->((Value.bool true).resultList f.resultTypes.size)[j]?=some r->Value.okWide P W' .any 0 t r:=by
  rw[hrt];exact ok_one (f:=f) hrt rfl (okWide_bool_mk cZ true) |>λh=>by rw[hrt]at h;exact h
 refine⟨ds,[],p++ [],[],p,[],hW0, ?_, ?_, ?_, ?_,λ_=> ?_⟩
 ·rw[kR];exact aiV _ _ _
 ·rw[kR];exact ab4 _ (λx hx=>by simpa using ct x hx)
 ·rw[hv];rw[kR];exact rfl
 ·exact World.keptBut_mono (λx hx=>⟨hx,Or.inr (by simpa using hx)⟩) (hb.frame (·∈p++ []))
 rw[hv];refine⟨lS,_,[],([]++p)++ [],⟨[]++p,[],trodAll_append (ab4 _ (λ_ _=>rfl)) (aiV _ _ _),rfl,rfl, ?_, ?_⟩, ?_⟩
 ·intro b off hp
  have au:MemPlace.cell b off∈p++ []:=by simpa using hp
  rw[hb.frozen (ct _ au)];exact hz b off au
 ·intro ha
  have:=hn ha;simpa using this
 intro x hx _;simpa using hx
end
end Go.dQ
namespace Go.dQ
open Go Go.RowKit Go.WideShapes Go.ChangeShapes
theorem Wu{sz:Nat}(tM:0<sz):∀(L:List FV),(∀c∈L,c.length=sz)->∀k v,L.flatten[k]?=some v->∃i c,L[i]?=some c/\c[k-i*sz]?=some v/\i*sz<=k/\k-i*sz<sz:=by
 intro L;induction L with
 |nil=>intro _ k v h;simp at h
 |cons c r ih=>
  intro hl k v h;have hc:=hl c (aa5 ..);rw[List.flatten_cons]at h;by_cases hk:k<c.length
  ·rw[List.getElem?_append_left hk]at h
   exact⟨0,c,rfl,by simpa using h,by omega,by omega⟩
  rw[List.getElem?_append_right (by omega)]at h;obtain⟨i,c',h1,h2,h3,h4⟩:=ih (λx hx=>hl x (aa6 _ hx)) _ v h;rw[hc]at h2 h3 h4;refine⟨i+1,c',by simpa using h1, ?_, ?_, ?_⟩<;>rw[Nat.add_mul]<;>try omega
  rw[show k-(i*sz+1*sz)=k-sz-i*sz from by omega];exact h2
theorem ZU{α:Type}{enc:α->FV}{Q:α->Prop}:∀(L:List FV),(∀c∈L,∃y,c=enc y/\Q y)->∃ys:List α,L=ys.map enc/\∀y∈ys,Q y:=by
 intro L;induction L with
 |nil=>intro _;exact⟨[],rfl,by simp⟩
 |cons c r ih=>
  intro h;obtain⟨y,rfl,hy⟩:=h c (aa5 ..);obtain⟨ys,rfl,hys⟩:=ih λx hx=>h x (aa6 _ hx);exact⟨y::ys,rfl,by simpa using⟨hy,hys⟩⟩
section
variable {H:Type} {enc:TypeId×Value->H} {P:Program} {w:World} {spare:Nat->Bool} {held:Bool} {base:Nat}
theorem hG{t:TypeId}{k:IntKind}{fuel:Nat}{cs:FV}{x:DataW H×List MemPlace}(ht:P.underlying t=some (.int k))(h:DataW.trod enc P w base spare held fuel t cs=some x):∃n,cs= [.int k n]/\k.min<=n/\n<=k.max:=by
 obtain⟨n,h1,_,h2⟩:=DataW.trod_int ht h;exact⟨n,h1,by simpa[Lit.wf]using h2⟩
theorem Ke{t:TypeId}{fuel:Nat}{cs:FV}{x:DataW H×List MemPlace}(ht:P.underlying t=some .bool)(h:DataW.trod enc P w base spare held fuel t cs=some x):∃b,cs= [.bool b]:=by
 obtain⟨n,h1,_⟩:=DataW.trod_bool ht h;exact⟨n,h1⟩
theorem zL:∀(l:F9),(l.flatMap λc:UInt8=> [Value.int .u8 (c.toNat:Int)])=ak l:=by
 intro l;induction l with
 |nil=>rfl
 |cons c r ih=>simp only[ahw,ih];rfl
theorem MU{t:TypeId}{fs:Array Field}{fuel:Nat}{cs:FV}{x:DataW H×List MemPlace}(ht:P.underlying t=some (.struct fs))(h:DataW.trod enc P w base spare held fuel t cs=some x):
  cs.length=P.cellsOf t/\∀(i:Nat) (f:Field),fs[i]?=some f->∃n x',DataW.trod enc P w base spare held n f.type ((cs.drop f.offset).take (P.cellsOf f.type))=some x':=by
 obtain⟨xs,n,_,_,h1,h2,h3⟩:=DataW.trod_struct ht h;refine⟨h1,λi f hf=>⟨n,xs[i]'(by rw[h2];exact(ahq.1 hf).1), ?_⟩⟩;rw[h3 i f hf,aa0]
def jx (P:Program)(t:TypeId):Option (List (Nat×TypeId×Nat)):=
 match P.underlying t with
 |some (.struct fs)=>some (fs.toList.map λf=>(f.offset,f.type,P.cellsOf f.type))
 |_=>none
theorem Za{t:TypeId}{L:List (Nat×TypeId×Nat)}{fuel:Nat}{cs:FV}{x:DataW H×List MemPlace}(ht:jx P t=some L)(h:DataW.trod enc P w base spare held fuel t cs=some x):
  cs.length=P.cellsOf t/\∀(i:Nat) (o ty k:Nat),L[i]?=some (o,ty,k)->∃n x',DataW.trod enc P w base spare held n ty ((cs.drop o).take k)=some x':=by
 unfold jx at ht;cases hu:P.underlying t with
 |none=>simp[hu]at ht
 |some d=>
  cases d<;>simp[hu]at ht;rename_i fs;subst ht;obtain⟨h1,h2⟩:=MU hu h;refine⟨h1,λi o ty k hi=> ?_⟩;simp only[abf,Option.map_eq_some_iff,Prod.mk.injEq]at hi;obtain⟨f,hf,rfl,rfl,rfl⟩:=hi;exact h2 i f (by simpa using hf)
theorem Ud{t:TypeId}{L:List (Nat×TypeId×Nat)}{v:Value}{r:Reach}{b0:Nat}(ht:jx P t=some L)(h:Value.okWide P w r b0 t v):v= .agg v.cells.toList.toArray:=by
 unfold jx at ht;cases hu:P.underlying t with
 |none=>simp[hu]at ht
 |some d=>
  cases d<;>simp[hu]at ht;simp only[Value.okWide,hu]at h;obtain⟨cs,rfl,_⟩:=h;simp[Value.cells]
end
end Go.dQ
namespace Go.Proofs.YtcbcjolpdljbiaaGreat
open Go Go.dQ Go.ChangeShapes Go.WideShapes Go.ChangeAt Go.RowKit
theorem Tryz.own:ownKnob aaY.godebug=none:=by kernel_rfl
theorem Tryz.laidOut:laidOutB aaY=true:=by kernel_rfl
theorem flPc:jx aaY 23=some [(0,3,1),(1,3,1),(2,3,1),(3,3,1)]:=by kernel_rfl
section
variable {H:Type} {enc:TypeId×Value->H} {w:World} {spare:Nat->Bool} {held:Bool} {base:Nat}
theorem Y9{fuel:Nat}{cs:FV}{x:DataW H×List MemPlace}(h:DataW.trod enc aaY w base spare held fuel 23 cs=some x):∃p:tO,cs=Ab p:=by
 obtain⟨hl,hf⟩:=Za flPc h;rw[show aaY.cellsOf 23=4 by kernel_rfl]at hl
 match cs,hl with
 | [c0,c1,c2,c3],_=>
  obtain⟨_,_,h0⟩:=hf 0 _ _ _ rfl;obtain⟨_,_,h1⟩:=hf 1 _ _ _ rfl;obtain⟨_,_,h2⟩:=hf 2 _ _ _ rfl;obtain⟨_,_,h3⟩:=hf 3 _ _ _ rfl;obtain⟨z0,e0,_,_⟩:=hG Tryz.underlying3 h0;obtain⟨z1,e1,_,_⟩:=hG Tryz.underlying3 h1;obtain⟨z2,e2,_,_⟩:=hG Tryz.underlying3 h2;obtain⟨z3,e3,_,_⟩:=hG Tryz.underlying3 h3;simp only[aiq,aiu,alo,aiw,al0.injEq,and_true]at e0 e1 e2 e3;subst e0 e1 e2 e3;exact⟨⟨z0,z1,z2,z3⟩,rfl⟩
end
end Go.Proofs.YtcbcjolpdljbiaaGreat
namespace Go.Proofs.YtcbcjolpdljbiaaGreat
open Go Go.dQ Go.ChangeShapes Go.WideShapes Go.ChangeAt Go.RowKit Rows
theorem WS{H:Type}(d:DataW H):1<=uptoBulk d:=by
 cases d with
 |lit l=>cases l<;>simp[uptoBulk]
 |_=>simp[uptoBulk]
theorem y5{H:Type}{d:DataW H}{l:List (DataW H)}(h:d∈l):uptoBulk d<=uptoBulkAll l:=by
 induction l with
 |nil=>cases h
 |cons x r ih=>
  simp only[uptoBulkAll];rcases List.mem_cons.1 h with e|e
  ·subst e;omega
  have:=ih e;omega
theorem WT{H:Type}(l:List (DataW H)):l.length<=uptoBulkAll l:=by
 induction l with
 |nil=>simp
 |cons x r ih=>have:=WS x;simp only[uptoBulkAll,List.length_cons];omega
section
variable {H:Type} {enc:TypeId×Value->H} {P:Program} {w:World} {spare:Nat->Bool} {held:Bool} {base:Nat} {K:Nat}
theorem vN{α:Type}{en:α->FV}{Q:α->Prop}{t e:TypeId}{fuel:Nat}{cs:FV}{x:DataW H×List MemPlace}(ht:P.underlying t=some (.slice e))(tM:0<P.cellsOf e)
  (he:∀n cs x,DataW.trod enc P w base spare held n e cs=some x->uptoBulk x.1<=K->∃y,cs=en y/\Q y) (h:DataW.trod enc P w base spare held fuel t cs=some x) (hB:uptoBulk x.1<=K):
  ∃(a:FX) (cap:Nat) (ys:List α),cs= [.slice a ys.length cap]/\ys.length<=K/\fD (ki w) a (ys.flatMap en)/\∀y∈ys,Q y:=by
 rcases DataW.trod_slice ht h with⟨h0,_⟩|⟨a,len,cap,elems,rest,n,_,rfl,hx,hb,hl,hm,hlen,hel,_,_⟩
 ·exact⟨none,0,[],h0,Nat.zero_le _,fD.nil,by simp⟩
 rw[hx]at hB;simp only[uptoBulk]at hB;have hBe:∀d∈elems,uptoBulk d.1<=K:=λd hd=>by
  have:=y5 (alJ (f:=λx:DataW H×List MemPlace=>x.1) hd);omega
 have hLe:len<=K:=by
  have:=WT (elems.map λx=>x.1);rw[List.length_map]at this;omega
 have hc:∀i,i<len->∃c,w.cells? base (a.add (i*P.cellsOf e)) (P.cellsOf e)=some c/\∃y,c=en y/\Q y:=λi hi=>by
  have h1:=hel i hi;have hg:elems[i]?=some (elems[i]'(by omega)):=aa0 (by omega);rw[hg]at h1;obtain⟨c,h2,h3⟩:=Option.bind_eq_some_iff.1 h1;exact⟨c,h2,he _ _ _ h3 (hBe _ (List.mem_of_getElem? hg))⟩
 let L:List FV:=(List.range len).map λi=>(w.cells? base (a.add (i*P.cellsOf e)) (P.cellsOf e)).getD []
 have hL:∀c∈L,c.length=P.cellsOf e/\∃y,c=en y/\Q y:=by
  intro c mJ;simp only[L,List.mem_map,List.mem_range]at mJ;obtain⟨i,hi,rfl⟩:=mJ;obtain⟨c,h2,h3⟩:=hc i hi;rw[h2];exact⟨(World.cells?_some h2).2.1,h3⟩
 obtain⟨ys,e1,e2⟩:=ZU L λc mJ=>(hL c mJ).2;have akf:ys.length=len:=by
  have:=congrArg List.length e1;simpa[L]using this.symm
 refine⟨some a,cap,ys,by rw[akf],by omega,λk v hv=> ?_,e2⟩;rw[List.flatMap_def,<-e1]at hv;obtain⟨i,c,h1,h2,h3,h4⟩:=Wu tM L (λc mJ=>(hL c mJ).1) k v hv;refine⟨a,rfl, ?_⟩;have hi:i<len:=by
  have:=(List.getElem?_eq_some_iff.1 h1).1;simpa[L]using this
 obtain⟨c',h5,_⟩:=hc i hi;have h6:L[i]?=some c':=by simp[L,hi,h5]
 rw[h1]at h6;cases h6;have h7:=(World.cells?_some h5).2.2 (k-i*P.cellsOf e) h4;rw[add_add,show i*P.cellsOf e+(k-i*P.cellsOf e)=k from by omega,h2]at h7;exact h7
theorem yK{t:TypeId}{L:List (Nat×TypeId×Nat)}{fuel:Nat}{cs:FV}{x:DataW H×List MemPlace}(ht:jx P t=some L)(h:DataW.trod enc P w base spare held fuel t cs=some x)(hB:uptoBulk x.1<=K):
  cs.length=P.cellsOf t/\∀(i:Nat) (o ty k:Nat),L[i]?=some (o,ty,k)->∃n x',DataW.trod enc P w base spare held n ty ((cs.drop o).take k)=some x'/\uptoBulk x'.1<=K:=by
 unfold jx at ht;cases hu:P.underlying t with
 |none=>simp[hu]at ht
 |some d=>
  cases d<;>simp[hu]at ht;rename_i fs;subst ht;obtain⟨xs,n,_,hx,h1,h2,h3⟩:=DataW.trod_struct hu h;refine⟨h1,λi o ty k hi=> ?_⟩;simp only[abf,Option.map_eq_some_iff,Prod.mk.injEq]at hi;obtain⟨f,hf,rfl,rfl,rfl⟩:=hi;have hf':fs[i]?=some f:=by simpa using hf
  have hi:i<xs.length:=by rw[h2];exact(ahq.1 hf').1
  refine⟨n,xs[i],by rw[h3 i f hf',aa0], ?_⟩;rw[hx]at hB;simp only[uptoBulk]at hB;have:=y5 (alJ (f:=λx:DataW H×List MemPlace=>x.1) (List.getElem_mem hi));omega
theorem Kc{t:TypeId}{fuel:Nat}{cs:FV}{x:DataW H×List MemPlace}(ht:P.underlying t=some .string)(h:DataW.trod enc P w base spare held fuel t cs=some x)(hB:uptoBulk x.1<=K):∃l:F9,cs= [aW l]/\l.length<=K:=by
 obtain⟨s,h1,hx,h2⟩:=DataW.trod_string ht h;refine⟨s.data.toList,by rw[h1];unfold aW;rw[Array.toArray_toList], ?_⟩;rw[hx]at hB;simp only[uptoBulk]at hB;omega
theorem ajW{t e:TypeId}{fuel:Nat}{cs:FV}{x:DataW H×List MemPlace}(ht:P.underlying t=some (.slice e))(h:DataW.trod enc P w base spare held fuel t cs=some x):∃a m c,cs= [.slice a m c]:=by
 rcases DataW.trod_slice ht h with⟨h0,_⟩|⟨a,len,cap,elems,rest,n,_,rfl,_⟩
 ·exact⟨none,0,0,h0⟩
 exact⟨_,_,_,rfl⟩
end
theorem flCm:jx aaY 42=some [(0,3,1),(1,38,1),(2,35,1),(3,3,1),(4,35,1),(5,35,1),(6,39,1),(7,4,1),(8,4,1),(9,40,1),(10,9,1)]:=by kernel_rfl
theorem flDy:jx aaY 44=some [(0,42,11),(11,3,1)]:=by kernel_rfl
theorem Bz:∀l:List F9,(l.flatMap λk=> [aW k])=fk l
 | []=>rfl
 |k::l=>by rw[ahw,Bz l];rfl
section
variable {H:Type} {enc:TypeId×Value->H} {w:World} {spare:Nat->Bool} {held:Bool}
theorem Zb{fuel:Nat}{cs:FV}{x:DataW H×List MemPlace}(h:DataW.trod enc aaY w 0 spare held fuel 42 cs=some x)(hB:uptoBulk x.1<=1048576)(t:Int):
  ∃d:rZ,cs=dB d.c d.ka d.kc d.da d.dc d.mv/\d.tick=t/\yi (ki w) d/\d.c.data.length<=1048576:=by
 obtain⟨hl,hf⟩:=yK flCm h hB;rw[show aaY.cellsOf 42=11 by kernel_rfl]at hl
 match cs,hl with
 | [c0,c1,c2,c3,c4,c5,c6,c7,c8,c9,c10],_=>
  obtain⟨_,_,h0,_⟩:=hf 0 _ _ _ rfl;obtain⟨_,_,h1,b1⟩:=hf 1 _ _ _ rfl;obtain⟨_,_,h2,_⟩:=hf 2 _ _ _ rfl;obtain⟨_,_,h3,_⟩:=hf 3 _ _ _ rfl;obtain⟨_,_,h4,_⟩:=hf 4 _ _ _ rfl;obtain⟨_,_,h5,_⟩:=hf 5 _ _ _ rfl;obtain⟨_,_,h6,b6⟩:=hf 6 _ _ _ rfl;obtain⟨_,_,h7,_⟩:=hf 7 _ _ _ rfl;obtain⟨_,_,h8,_⟩:=hf 8 _ _ _ rfl;obtain⟨_,_,h9,_⟩:=hf 9 _ _ _ rfl;obtain⟨_,_,XQ,Qz⟩:=hf 10 _ _ _ rfl;obtain⟨z0,e0,_⟩:=hG Tryz.underlying3 h0;obtain⟨a1,k1,ks,e1,n1,r1,q1⟩:=vN (en:=λk=> [aW k]) (Q:=λk:F9=>k.length<=1048576) Tryz.underlying38 (by rw[show aaY.cellsOf 9=1 by kernel_rfl];omega) (λ_ _ _ hx hb=>Kc Tryz.underlying9 hx hb) h1 b1;obtain⟨z2,e2,l2,_⟩:=hG Tryz.underlying35 h2;obtain⟨z3,e3,_,g3⟩:=hG Tryz.underlying3 h3;obtain⟨z4,e4,l4,_⟩:=hG Tryz.underlying35 h4;obtain⟨z5,e5,l5,g5⟩:=hG Tryz.underlying35 h5;obtain⟨a6,k6,bs,e6,n6,r6,_⟩:=vN (en:=λc:UInt8=> [DE amn c.toNat]) (Q:=λ_=>True) Tryz.underlying39 (by rw[show aaY.cellsOf 5=1 by kernel_rfl];omega) (λn cs x hx _=>by
   obtain⟨n,rfl,q1,q2⟩:=hG Tryz.underlying5 hx;simp only[IntKind.min,IntKind.max,IntKind.signed,IntKind.bits]at q1 q2;refine⟨acU n.toNat, ?_,trivial⟩;have:(acU n.toNat).toNat=n.toNat:=by simp;omega
   rw[this]
   congr 2
   simp at q1;omega) h6 b6
  obtain⟨b7,e7⟩:=Ke Tryz.underlying4 h7;obtain⟨b8,e8⟩:=Ke Tryz.underlying4 h8;obtain⟨a9,m9,k9,e9⟩:=ajW Tryz.underlying40 h9;obtain⟨l10,e10,_⟩:=Kc Tryz.underlying9 XQ Qz;simp only[aiq,aiu,alo,aiw,al0.injEq,and_true]at e0 e1 e2 e3 e4 e5 e6 e7 e8 e9 e10;subst e0 e1 e2 e3 e4 e5 e6 e7 e8 e9 e10;obtain⟨m2,rfl⟩:=aif (show 0<=z2 from l2);obtain⟨m4,rfl⟩:=aif (show 0<=z4 from l4);obtain⟨m5,rfl⟩:=aif (show 0<=z5 from l5);rw[Bz]at r1;rw[zL]at r6;simp only[IntKind.max,IntKind.signed,IntKind.bits]at g3 g5;refine⟨⟨⟨z0,ks,m2,z3,m4,m5,bs,b7,b8,l10⟩,a1,k1,a6,k6, .slice a9 m9 k9,t⟩,rfl,rfl,⟨rfl,r1,r6,n1,λk hk=> ?_, ?_, ?_, ?_⟩,n6⟩
  ·have:=q1 k hk
   omega
  ·simp at g3
   dsimp only;omega
  ·dsimp only
   omega
  simp at g5;dsimp only;omega
theorem aeP{fuel:Nat}{cs:FV}{x:DataW H×List MemPlace}(h:DataW.trod enc aaY w 0 spare held fuel 44 cs=some x)(hB:uptoBulk x.1<=1048576):∃d:rZ,cs=D8 d/\yi (ki w) d/\d.c.data.length<=1048576:=by
 obtain⟨hl,hf⟩:=yK flDy h hB;rw[show aaY.cellsOf 44=12 by kernel_rfl]at hl;obtain⟨_,_,h0,b0⟩:=hf 0 _ _ _ rfl;obtain⟨_,_,h1,_⟩:=hf 1 _ _ _ rfl;obtain⟨z,e1,_⟩:=hG Tryz.underlying3 h1;obtain⟨d,e0,rfl,ok⟩:=Zb h0 b0 z;refine⟨d, ?_,ok⟩;rw[List.take_of_length_le (by rw[List.length_drop];omega)]at e1;rw[aiq]at e0;unfold D8;rw[<-e0,<-e1,List.take_append_drop]
end
end Go.Proofs.YtcbcjolpdljbiaaGreat
namespace Go.Proofs.YtcbcjolpdljbiaaGreat
open Go Go.dQ Go.ChangeShapes Go.WideShapes Go.ChangeAt Go.RowKit Rows
theorem ajc:jx aaY 26=some [(0,3,1),(1,3,1),(2,3,1),(3,3,1),(4,3,1),(5,3,1),(6,23,4),(10,24,1)]:=by kernel_rfl
def witT:Value:= .agg #[DE DD 0,DE DD 0,DE DD 0,DE DD 0,DE DD 0,DE DD 0,DE DD 0,DE DD 0,DE DD 0,DE DD 0, .slice none 0 0]
def witD{H:Type}:List (DataW H):= [.agg [.lit (Lit.int .i64 0), .lit (Lit.int .i64 0), .lit (Lit.int .i64 0), .lit (Lit.int .i64 0), .lit (Lit.int .i64 0), .lit (Lit.int .i64 0), .agg [.lit (Lit.int .i64 0), .lit (Lit.int .i64 0), .lit (Lit.int .i64 0), .lit (Lit.int .i64 0)], .nil]]
section
variable {H:Type} {enc:TypeId×Value->H} {w:World} {spare:Nat->Bool} {held:Bool}
theorem aeO{fuel:Nat}{cs:FV}{x:DataW H×List MemPlace}(h:DataW.trod enc aaY w 0 spare held fuel 26 cs=some x)(hB:uptoBulk x.1<=1048576):
  ∃(t:q9) (p:tO) (a:FX) (l:List rZ) (cap:Nat),cs=GY t p a l.length cap/\l.length<=1048576/\fD (ki w) a (su l)/\∀d∈l,yi (ki w) d:=by
 obtain⟨hl,hf⟩:=yK ajc h hB;rw[show aaY.cellsOf 26=11 by kernel_rfl]at hl
 match cs,hl with
 | [c0,c1,c2,c3,c4,c5,c6,c7,c8,c9,c10],_=>
  obtain⟨_,_,h0,_⟩:=hf 0 _ _ _ rfl;obtain⟨_,_,h1,_⟩:=hf 1 _ _ _ rfl;obtain⟨_,_,h2,_⟩:=hf 2 _ _ _ rfl;obtain⟨_,_,h3,_⟩:=hf 3 _ _ _ rfl;obtain⟨_,_,h4,_⟩:=hf 4 _ _ _ rfl;obtain⟨_,_,h5,_⟩:=hf 5 _ _ _ rfl;obtain⟨_,_,h6,_⟩:=hf 6 _ _ _ rfl;obtain⟨_,_,h7,b7⟩:=hf 7 _ _ _ rfl;obtain⟨z0,e0,_⟩:=hG Tryz.underlying3 h0;obtain⟨z1,e1,_⟩:=hG Tryz.underlying3 h1;obtain⟨z2,e2,_⟩:=hG Tryz.underlying3 h2;obtain⟨z3,e3,_⟩:=hG Tryz.underlying3 h3;obtain⟨z4,e4,_⟩:=hG Tryz.underlying3 h4;obtain⟨z5,e5,_⟩:=hG Tryz.underlying3 h5;obtain⟨p,e6⟩:=Y9 h6;obtain⟨a,cap,l,e7,hn,hr,lS⟩:=vN (en:=D8) (Q:=yi (ki w)) Tryz.underlying24 (by rw[show aaY.cellsOf 44=12 by kernel_rfl];omega) (λ_ _ _ hx hb=>let ⟨d,e,o,_⟩:=aeP hx hb;⟨d,e,o⟩) h7 b7;unfold Ab at e6;simp only[aiq,aiu,alo,aiw,al0.injEq,and_true]at e0 e1 e2 e3 e4 e5 e6 e7;obtain⟨rfl,rfl,rfl,rfl⟩:=e6;subst e0 e1 e2 e3 e4 e5 e7;exact⟨⟨z0,z1,z2,z3,z4,z5⟩,p,a,l,cap,rfl,hn,hr,lS⟩
end
end Go.Proofs.YtcbcjolpdljbiaaGreat
