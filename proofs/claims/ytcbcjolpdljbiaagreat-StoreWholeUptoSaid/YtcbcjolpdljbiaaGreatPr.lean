/- Part Pr of the proof. -/
import Derived.Test.YtcbcjolpdljbiaaGreatPa
import Derived.Test.YtcbcjolpdljbiaaGreatPo
import Derived.Test.YtcbcjolpdljbiaaGreatPo1
import Derived.Test.YtcbcjolpdljbiaaGreatPq1
import Derived.Below
import Derived.Carry
import Derived.ChangeArms
import Derived.DataReads
import Derived.Deep.DeepHandedRow
import Derived.JoinedCond
import Derived.LaidMore
import Derived.Lib.LaidTab
import Derived.OpenShut
import Derived.ProofKit
import Derived.Stop.Joined
import Derived.Test.YtcbcjolpdljbiaaGreatRows
import Derived.WideShapes
set_option maxRecDepth 100000
open Array renaming getElem?_eq_getElem -> ai9, getElem?_eq_some_iff -> afW
open List renaming mem_cons_of_mem -> aaW, mem_append_right -> agr, mem_cons_self -> aaV, mem_append_left -> agy, flatMap_cons -> af2, getElem?_eq_getElem -> aaQ, getElem?_map -> aa6, drop_zero -> ajk, take_succ_cons -> ajo, take_zero -> ajP, drop_succ_cons -> ajp, cons -> ako, mem_map_of_mem -> aj9
open UInt8 renaming ofNat -> afw
open Int renaming eq_ofNat_of_zero_le -> aja
open Go.Proofs.Tryz renaming prog -> aaO
open Go.Value renaming int -> CO
open Go.IntKind renaming i64 -> CN, u8 -> akN
namespace Go.dG
open Go Go.RowKit Go.WideShapes Go.ChangeShapes
section
variable {H:Type} {enc:TypeId×Value->H} {P:Program}
def frm (W:World):dC:=⟨W.os,W.tape,W.output,j7 W,W.drawn⟩
theorem ab5 (W:World):St (frm W) [] W:=⟨rfl,⟨rfl,Nat.le_refl _⟩,rfl,Le.refl _,λ_=>none,trivial,(λ_ _ e=>by cases e),(λ_=> .inl rfl)⟩
theorem Ft{W W':World}{L:List aa}(s:St (frm W) L W'):Below W.heap.size W W':=by
 have hk:∀k,k<W.heap.size->W'.heap[k]?=W.heap[k]?:=λk hk=>by
  have h1:W.heap[k]?=some W.heap[k]:=ai9 hk;rw[h1];exact s.frame k _ h1
 refine⟨s.os,s.tape.1,s.output, ?_,hk⟩;rcases Nat.eq_zero_or_pos W.heap.size with h0|h0
 ·omega
 have h1:=hk (W.heap.size-1) (by omega);rw[ai9 (show W.heap.size-1<W.heap.size by omega)]at h1;have:=(afW.1 h1).1;omega
theorem TV{f:FuncId}{args:List Value}{pre:Hp->Prop}(h:aO P f args pre [] (λv H=>v= .bool true/\H= []))(W:World)(hp:pre (j7 W)):
  Calls P f args.toArray W λe W'=>e= .returned (.bool true)/\Below W.heap.size W W':=by
 refine(h (frm W) W hp (ab5 W)).mono λe W' hh=> ?_;obtain⟨v,H',he,⟨rfl,rfl⟩,st⟩:=hh;exact⟨he,Ft st⟩
theorem zy (hl:laidOutB P=true){W W':World}{sp:Nat->Bool}:∀{ts:List TypeId} {vs:List Value} {ds:List (DataW H)} {ps:List MemPlace},(∀t∈ts,P.readableRec t=true/\t<P.types.size)->
  DataW.TrodAll enc P W 0 (λ_=>true) true ts vs ds ps->(∀p∈ps,W.sameAt W' p)->(∀p∈ps,sp p.block=true)->DataW.TrodAll enc P W' 0 sp true ts vs ds ps:=by
 intro ts
 induction ts with
 |nil=>
  intro vs ds ps _ h _ _;obtain⟨rfl,rfl,rfl⟩:=trodAll_nil h;exact rfl
 |cons t ts ih=>
  intro vs ds ps hr h hs hp;obtain⟨v,vs',d,ds',p,q,rfl,rfl,rfl,h1,h2⟩:=trodAll_cons h;refine⟨p,q, ?_,ih (λx hx=>hr x (aaW _ hx)) h2 (λx hx=>hs x (agr _ hx)) (λx hx=>hp x (agr _ hx)),rfl⟩;exact WideElems.Trod_stays hl (hr t (aaV ..)).1 (hr t (aaV ..)).2 h1 (λx hx=>hs x (agy _ hx)) (λx hx=>hp x (agy _ hx))
theorem TU{f:Func}{s:ChangeSpec}{apart fresh handsOn again:Bool}{W W':World}{args:Array Value}{ds gs:List (DataW H)}{before:List MemPlace}
  (hW:DataW.Whole enc P f.params.toList s.vars apart W args.toList ds gs before) (hv:s.vars= []) (hrt:f.resultTypes= #[4]) (dY:P.underlying 4=some .bool)
  (kW:s.fn H (ds++gs)={results:= [.lit (.bool true)],args:=ds}) (hl:laidOutB P=true) (hr:∀t∈f.params.toList,P.readableRec t=true/\t<P.types.size) (hb:Below W.heap.size W W'):
  s.post enc P f apart fresh handsOn again W args (.bool true) W':=by
 have hW0:=hW;obtain⟨p,q,hA,hV,rfl,hz,hn⟩:=hW;rw[hv]at hV;obtain⟨rfl,rfl⟩:=trodVars_none hV;have cL:∀x∈p++ [],x.block<W.heap.size:=λx hx=>hW0.lt x hx;have Z9:∀sp:Nat->Bool,(∀x∈p++ [],sp x.block=true)->DataW.TrodAll enc P W' 0 sp true f.params.toList args.toList ds p:=λsp VF=>
  zy hl hr hA (λx hx=>hb.same (cL x (by simpa using hx))) (λx hx=>VF x (by simpa using hx))
 have agO:∀(b:Nat) (sp:Nat->Bool) (hd:Bool),DataW.TrodAll enc P W' b sp hd f.resultTypes.toList ((Value.bool true).resultList f.resultTypes.size) [.lit (.bool true)] []:=by
  intro b sp hd;rw[hrt];exact⟨[],[],shut_bool dY true,rfl,rfl⟩
 have nj:∀(j:Nat) (t:TypeId) (r:Value),f.resultTypes[j]?=some t->((Value.bool true).resultList f.resultTypes.size)[j]?=some r->Value.okWide P W' .any 0 t r:=by
  rw[hrt];exact ok_one (f:=f) hrt rfl (okWide_bool_mk dY true) |>λh=>by rw[hrt]at h;exact h
 refine⟨ds,[],p++ [],[],p,[],hW0, ?_, ?_, ?_, ?_,λ_=> ?_⟩
 ·rw[kW];exact agO _ _ _
 ·rw[kW];exact Z9 _ (λx hx=>by simpa using cL x hx)
 ·rw[hv];rw[kW];exact rfl
 ·exact World.keptBut_mono (λx hx=>⟨hx,Or.inr (by simpa using hx)⟩) (hb.frame (·∈p++ []))
 rw[hv];refine⟨nj,_,[],([]++p)++ [],⟨[]++p,[],trodAll_append (Z9 _ (λ_ _=>rfl)) (agO _ _ _),rfl,rfl, ?_, ?_⟩, ?_⟩
 ·intro b off hp
  have ao:MemPlace.cell b off∈p++ []:=by simpa using hp
  rw[hb.frozen (cL _ ao)];exact hz b off ao
 ·intro ha
  have:=hn ha
  simpa using this
 intro x hx _
 simpa using hx
end
end Go.dG
namespace Go.dG
open Go Go.RowKit Go.WideShapes Go.ChangeShapes
theorem UZ{sz:Nat}(uo:0<sz):∀(L:List (List Value)),(∀c∈L,c.length=sz)->∀k v,L.flatten[k]?=some v->∃i c,L[i]?=some c/\c[k-i*sz]?=some v/\i*sz<=k/\k-i*sz<sz:=by
 intro L
 induction L with
 |nil=>intro _ k v h;simp at h
 |cons c r ih=>
  intro hl k v h;have hc:=hl c (aaV ..);rw[List.flatten_cons]at h;by_cases hk:k<c.length
  ·rw[List.getElem?_append_left hk]at h
   exact⟨0,c,rfl,by simpa using h,by omega,by omega⟩
  rw[List.getElem?_append_right (by omega)]at h;obtain⟨i,c',h1,h2,h3,h4⟩:=ih (λx hx=>hl x (aaW _ hx)) _ v h;rw[hc]at h2 h3 h4;refine⟨i+1,c',by simpa using h1, ?_, ?_, ?_⟩<;>rw[Nat.add_mul]<;>try omega
  rw[show k-(i*sz+1*sz)=k-sz-i*sz from by omega];exact h2
theorem Yb{α:Type}{enc:α->List Value}{Q:α->Prop}:∀(L:List (List Value)),(∀c∈L,∃y,c=enc y/\Q y)->∃ys:List α,L=ys.map enc/\∀y∈ys,Q y:=by
 intro L
 induction L with
 |nil=>intro _;exact⟨[],rfl,by simp⟩
 |cons c r ih=>
  intro h;obtain⟨y,rfl,hy⟩:=h c (aaV ..);obtain⟨ys,rfl,hys⟩:=ih λx hx=>h x (aaW _ hx);exact⟨y::ys,rfl,by simpa using⟨hy,hys⟩⟩
section
variable {H:Type} {enc:TypeId×Value->H} {P:Program} {w:World} {spare:Nat->Bool} {held:Bool} {base:Nat}
theorem gS{t:TypeId}{k:IntKind}{fuel:Nat}{cs:List Value}{x:DataW H×List MemPlace}(ht:P.underlying t=some (.int k))(h:DataW.trod enc P w base spare held fuel t cs=some x):∃n,cs= [.int k n]/\k.min<=n/\n<=k.max:=by
 obtain⟨n,h1,_,h2⟩:=DataW.trod_int ht h;exact⟨n,h1,by simpa[Lit.wf]using h2⟩
theorem Jl{t:TypeId}{fuel:Nat}{cs:List Value}{x:DataW H×List MemPlace}(ht:P.underlying t=some .bool)(h:DataW.trod enc P w base spare held fuel t cs=some x):∃b,cs= [.bool b]:=by
 obtain⟨n,h1,_⟩:=DataW.trod_bool ht h;exact⟨n,h1⟩
theorem yL:∀(l:List UInt8),(l.flatMap λc:UInt8=> [Value.int .u8 (c.toNat:Int)])=ax l:=by
 intro l;induction l with
 |nil=>rfl
 |cons c r ih=>simp only[af2,ih];rfl
theorem LF{t:TypeId}{fs:Array Field}{fuel:Nat}{cs:List Value}{x:DataW H×List MemPlace}(ht:P.underlying t=some (.struct fs))(h:DataW.trod enc P w base spare held fuel t cs=some x):
  cs.length=P.cellsOf t/\∀(i:Nat) (f:Field),fs[i]?=some f->∃n x',DataW.trod enc P w base spare held n f.type ((cs.drop f.offset).take (P.cellsOf f.type))=some x':=by
 obtain⟨xs,n,_,_,h1,h2,h3⟩:=DataW.trod_struct ht h;refine⟨h1,λi f hf=>⟨n,xs[i]'(by rw[h2];exact(afW.1 hf).1), ?_⟩⟩;rw[h3 i f hf,aaQ]
def jh (P:Program)(t:TypeId):Option (List (Nat×TypeId×Nat)):=
 match P.underlying t with
 |some (.struct fs)=>some (fs.toList.map λf=>(f.offset,f.type,P.cellsOf f.type))
 |_=>none
theorem Xm{t:TypeId}{L:List (Nat×TypeId×Nat)}{fuel:Nat}{cs:List Value}{x:DataW H×List MemPlace}(ht:jh P t=some L)(h:DataW.trod enc P w base spare held fuel t cs=some x):
  cs.length=P.cellsOf t/\∀(i:Nat) (o ty k:Nat),L[i]?=some (o,ty,k)->∃n x',DataW.trod enc P w base spare held n ty ((cs.drop o).take k)=some x':=by
 unfold jh at ht;cases hu:P.underlying t with
 |none=>simp[hu]at ht
 |some d=>
  cases d<;>simp[hu]at ht
  rename_i fs
  subst ht;obtain⟨h1,h2⟩:=LF hu h;refine⟨h1,λi o ty k hi=> ?_⟩;simp only[aa6,Option.map_eq_some_iff,Prod.mk.injEq]at hi;obtain⟨f,hf,rfl,rfl,rfl⟩:=hi;exact h2 i f (by simpa using hf)
theorem Sf{t:TypeId}{L:List (Nat×TypeId×Nat)}{v:Value}{r:Reach}{b0:Nat}(ht:jh P t=some L)(h:Value.okWide P w r b0 t v):v= .agg v.cells.toList.toArray:=by
 unfold jh at ht;cases hu:P.underlying t with
 |none=>simp[hu]at ht
 |some d=>
  cases d<;>simp[hu]at ht;simp only[Value.okWide,hu]at h;obtain⟨cs,rfl,_⟩:=h;simp[Value.cells]
end
end Go.dG
namespace Go.Proofs.YtcbcjolpdljbiaaGreat
open Go Go.dG Go.ChangeShapes Go.WideShapes Go.ChangeAt Go.RowKit
theorem Tryz.own:ownKnob aaO.godebug=none:=by kernel_rfl
theorem Tryz.laidOut:laidOutB aaO=true:=by kernel_rfl
theorem flPc:jh aaO 23=some [(0,3,1),(1,3,1),(2,3,1),(3,3,1)]:=by kernel_rfl
section
variable {H:Type} {enc:TypeId×Value->H} {w:World} {spare:Nat->Bool} {held:Bool} {base:Nat}
theorem Xl{fuel:Nat}{cs:List Value}{x:DataW H×List MemPlace}(h:DataW.trod enc aaO w base spare held fuel 23 cs=some x):∃p:um,cs=zd p:=by
 obtain⟨hl,hf⟩:=Xm flPc h;rw[show aaO.cellsOf 23=4 by kernel_rfl]at hl
 match cs,hl with
 | [c0,c1,c2,c3],_=>
  obtain⟨_,_,h0⟩:=hf 0 _ _ _ rfl;obtain⟨_,_,h1⟩:=hf 1 _ _ _ rfl;obtain⟨_,_,h2⟩:=hf 2 _ _ _ rfl;obtain⟨_,_,h3⟩:=hf 3 _ _ _ rfl;obtain⟨z0,e0,_,_⟩:=gS Tryz.underlying3 h0;obtain⟨z1,e1,_,_⟩:=gS Tryz.underlying3 h1;obtain⟨z2,e2,_,_⟩:=gS Tryz.underlying3 h2;obtain⟨z3,e3,_,_⟩:=gS Tryz.underlying3 h3;simp only[ajk,ajo,ajP,ajp,ako.injEq,and_true]at e0 e1 e2 e3;subst e0 e1 e2 e3;exact⟨⟨z0,z1,z2,z3⟩,rfl⟩
end
end Go.Proofs.YtcbcjolpdljbiaaGreat
namespace Go.Proofs.YtcbcjolpdljbiaaGreat
open Go Go.dG Go.ChangeShapes Go.WideShapes Go.ChangeAt Go.RowKit Rows
theorem Vj{H:Type}(d:DataW H):1<=uptoBulk d:=by
 cases d with
 |lit l=>cases l<;>simp[uptoBulk]
 |_=>simp[uptoBulk]
theorem ye{H:Type}{d:DataW H}{l:List (DataW H)}(h:d∈l):uptoBulk d<=uptoBulkAll l:=by
 induction l with
 |nil=>cases h
 |cons x r ih=>
  simp only[uptoBulkAll];rcases List.mem_cons.1 h with e|e
  ·subst e;omega
  have:=ih e;omega
theorem Vk{H:Type}(l:List (DataW H)):l.length<=uptoBulkAll l:=by
 induction l with
 |nil=>simp
 |cons x r ih=>have:=Vj x;simp only[uptoBulkAll,List.length_cons];omega
section
variable {H:Type} {enc:TypeId×Value->H} {P:Program} {w:World} {spare:Nat->Bool} {held:Bool} {base:Nat} {K:Nat}
theorem uX{α:Type}{en:α->List Value}{Q:α->Prop}{t e:TypeId}{fuel:Nat}{cs:List Value}{x:DataW H×List MemPlace}(ht:P.underlying t=some (.slice e))(uo:0<P.cellsOf e)
  (he:∀n cs x,DataW.trod enc P w base spare held n e cs=some x->uptoBulk x.1<=K->∃y,cs=en y/\Q y) (h:DataW.trod enc P w base spare held fuel t cs=some x) (hB:uptoBulk x.1<=K):
  ∃(a:Option Addr) (cap:Nat) (ys:List α),cs= [.slice a ys.length cap]/\ys.length<=K/\gg (j7 w) a (ys.flatMap en)/\∀y∈ys,Q y:=by
 rcases DataW.trod_slice ht h with⟨h0,_⟩|⟨a,len,cap,elems,rest,n,_,rfl,hx,hb,hl,hm,hlen,hel,_,_⟩
 ·exact⟨none,0,[],h0,Nat.zero_le _,gg.nil,by simp⟩
 rw[hx]at hB;simp only[uptoBulk]at hB;have hBe:∀d∈elems,uptoBulk d.1<=K:=λd hd=>by
  have:=ye (aj9 (f:=λx:DataW H×List MemPlace=>x.1) hd);omega
 have hLe:len<=K:=by
  have:=Vk (elems.map λx=>x.1);rw[List.length_map]at this;omega
 have hc:∀i,i<len->∃c,w.cells? base (a.add (i*P.cellsOf e)) (P.cellsOf e)=some c/\∃y,c=en y/\Q y:=λi hi=>by
  have h1:=hel i hi;have hg:elems[i]?=some (elems[i]'(by omega)):=aaQ (by omega);rw[hg]at h1;obtain⟨c,h2,h3⟩:=Option.bind_eq_some_iff.1 h1;exact⟨c,h2,he _ _ _ h3 (hBe _ (List.mem_of_getElem? hg))⟩
 let L:List (List Value):=(List.range len).map λi=>(w.cells? base (a.add (i*P.cellsOf e)) (P.cellsOf e)).getD []
 have hL:∀c∈L,c.length=P.cellsOf e/\∃y,c=en y/\Q y:=by
  intro c mE;simp only[L,List.mem_map,List.mem_range]at mE;obtain⟨i,hi,rfl⟩:=mE;obtain⟨c,h2,h3⟩:=hc i hi;rw[h2];exact⟨(World.cells?_some h2).2.1,h3⟩
 obtain⟨ys,e1,e2⟩:=Yb L λc mE=>(hL c mE).2;have aia:ys.length=len:=by
  have:=congrArg List.length e1
  simpa[L]using this.symm
 refine⟨some a,cap,ys,by rw[aia],by omega,λk v hv=> ?_,e2⟩;rw[List.flatMap_def,<-e1]at hv;obtain⟨i,c,h1,h2,h3,h4⟩:=UZ uo L (λc mE=>(hL c mE).1) k v hv;refine⟨a,rfl, ?_⟩;have hi:i<len:=by
  have:=(List.getElem?_eq_some_iff.1 h1).1
  simpa[L]using this
 obtain⟨c',h5,_⟩:=hc i hi;have h6:L[i]?=some c':=by simp[L,hi,h5]
 rw[h1]at h6;cases h6;have h7:=(World.cells?_some h5).2.2 (k-i*P.cellsOf e) h4;rw[add_add,show i*P.cellsOf e+(k-i*P.cellsOf e)=k from by omega,h2]at h7;exact h7
theorem xU{t:TypeId}{L:List (Nat×TypeId×Nat)}{fuel:Nat}{cs:List Value}{x:DataW H×List MemPlace}(ht:jh P t=some L)(h:DataW.trod enc P w base spare held fuel t cs=some x)(hB:uptoBulk x.1<=K):
  cs.length=P.cellsOf t/\∀(i:Nat) (o ty k:Nat),L[i]?=some (o,ty,k)->∃n x',DataW.trod enc P w base spare held n ty ((cs.drop o).take k)=some x'/\uptoBulk x'.1<=K:=by
 unfold jh at ht;cases hu:P.underlying t with
 |none=>simp[hu]at ht
 |some d=>
  cases d<;>simp[hu]at ht
  rename_i fs
  subst ht;obtain⟨xs,n,_,hx,h1,h2,h3⟩:=DataW.trod_struct hu h;refine⟨h1,λi o ty k hi=> ?_⟩;simp only[aa6,Option.map_eq_some_iff,Prod.mk.injEq]at hi;obtain⟨f,hf,rfl,rfl,rfl⟩:=hi;have hf':fs[i]?=some f:=by simpa using hf
  have hi:i<xs.length:=by rw[h2];exact(afW.1 hf').1
  refine⟨n,xs[i],by rw[h3 i f hf',aaQ], ?_⟩;rw[hx]at hB;simp only[uptoBulk]at hB;have:=ye (aj9 (f:=λx:DataW H×List MemPlace=>x.1) (List.getElem_mem hi));omega
theorem Jk{t:TypeId}{fuel:Nat}{cs:List Value}{x:DataW H×List MemPlace}(ht:P.underlying t=some .string)(h:DataW.trod enc P w base spare held fuel t cs=some x)(hB:uptoBulk x.1<=K):∃l:List UInt8,cs= [bD l]/\l.length<=K:=by
 obtain⟨s,h1,hx,h2⟩:=DataW.trod_string ht h;refine⟨s.data.toList,by rw[h1];unfold bD;rw[Array.toArray_toList], ?_⟩;rw[hx]at hB;simp only[uptoBulk]at hB;omega
theorem ahR{t e:TypeId}{fuel:Nat}{cs:List Value}{x:DataW H×List MemPlace}(ht:P.underlying t=some (.slice e))(h:DataW.trod enc P w base spare held fuel t cs=some x):∃a m c,cs= [.slice a m c]:=by
 rcases DataW.trod_slice ht h with⟨h0,_⟩|⟨a,len,cap,elems,rest,n,_,rfl,_⟩
 ·exact⟨none,0,0,h0⟩
 exact⟨_,_,_,rfl⟩
end
theorem flCm:jh aaO 42=some [(0,3,1),(1,38,1),(2,35,1),(3,3,1),(4,35,1),(5,35,1),(6,39,1),(7,4,1),(8,4,1),(9,40,1),(10,9,1)]:=by kernel_rfl
theorem flDy:jh aaO 44=some [(0,42,11),(11,3,1)]:=by kernel_rfl
theorem AI:∀l:List (List UInt8),(l.flatMap λk=> [bD k])=iK l
 | []=>rfl
 |k::l=>by rw[af2,AI l];rfl
section
variable {H:Type} {enc:TypeId×Value->H} {w:World} {spare:Nat->Bool} {held:Bool}
theorem Xn{fuel:Nat}{cs:List Value}{x:DataW H×List MemPlace}(h:DataW.trod enc aaO w 0 spare held fuel 42 cs=some x)(hB:uptoBulk x.1<=1048576)(t:Int):
  ∃d:ry,cs=fu d.c d.ka d.kc d.da d.dc d.mv/\d.tick=t/\xr (j7 w) d/\d.c.data.length<=1048576:=by
 obtain⟨hl,hf⟩:=xU flCm h hB;rw[show aaO.cellsOf 42=11 by kernel_rfl]at hl
 match cs,hl with
 | [c0,c1,c2,c3,c4,c5,c6,c7,c8,c9,c10],_=>
  obtain⟨_,_,h0,_⟩:=hf 0 _ _ _ rfl;obtain⟨_,_,h1,b1⟩:=hf 1 _ _ _ rfl;obtain⟨_,_,h2,_⟩:=hf 2 _ _ _ rfl;obtain⟨_,_,h3,_⟩:=hf 3 _ _ _ rfl;obtain⟨_,_,h4,_⟩:=hf 4 _ _ _ rfl;obtain⟨_,_,h5,_⟩:=hf 5 _ _ _ rfl;obtain⟨_,_,h6,b6⟩:=hf 6 _ _ _ rfl;obtain⟨_,_,h7,_⟩:=hf 7 _ _ _ rfl;obtain⟨_,_,h8,_⟩:=hf 8 _ _ _ rfl;obtain⟨_,_,h9,_⟩:=hf 9 _ _ _ rfl;obtain⟨_,_,V5,OJ⟩:=hf 10 _ _ _ rfl;obtain⟨z0,e0,_⟩:=gS Tryz.underlying3 h0;obtain⟨a1,k1,ks,e1,n1,r1,q1⟩:=uX (en:=λk=> [bD k]) (Q:=λk:List UInt8=>k.length<=1048576) Tryz.underlying38 (by rw[show aaO.cellsOf 9=1 by kernel_rfl];omega) (λ_ _ _ hx hb=>Jk Tryz.underlying9 hx hb) h1 b1;obtain⟨z2,e2,l2,_⟩:=gS Tryz.underlying35 h2;obtain⟨z3,e3,_,g3⟩:=gS Tryz.underlying3 h3;obtain⟨z4,e4,l4,_⟩:=gS Tryz.underlying35 h4;obtain⟨z5,e5,l5,g5⟩:=gS Tryz.underlying35 h5;obtain⟨a6,k6,bs,e6,n6,r6,_⟩:=uX (en:=λc:UInt8=> [CO akN c.toNat]) (Q:=λ_=>True) Tryz.underlying39 (by rw[show aaO.cellsOf 5=1 by kernel_rfl];omega) (λn cs x hx _=>by
   obtain⟨n,rfl,q1,q2⟩:=gS Tryz.underlying5 hx;simp only[IntKind.min,IntKind.max,IntKind.signed,IntKind.bits]at q1 q2;refine⟨afw n.toNat, ?_,trivial⟩;have:(afw n.toNat).toNat=n.toNat:=by simp;omega
   rw[this]
   congr 2
   simp at q1;omega) h6 b6
  obtain⟨b7,e7⟩:=Jl Tryz.underlying4 h7;obtain⟨b8,e8⟩:=Jl Tryz.underlying4 h8;obtain⟨a9,m9,k9,e9⟩:=ahR Tryz.underlying40 h9;obtain⟨l10,e10,_⟩:=Jk Tryz.underlying9 V5 OJ;simp only[ajk,ajo,ajP,ajp,ako.injEq,and_true]at e0 e1 e2 e3 e4 e5 e6 e7 e8 e9 e10;subst e0 e1 e2 e3 e4 e5 e6 e7 e8 e9 e10;obtain⟨m2,rfl⟩:=aja (show 0<=z2 from l2);obtain⟨m4,rfl⟩:=aja (show 0<=z4 from l4);obtain⟨m5,rfl⟩:=aja (show 0<=z5 from l5);rw[AI]at r1;rw[yL]at r6;simp only[IntKind.max,IntKind.signed,IntKind.bits]at g3 g5;refine⟨⟨⟨z0,ks,m2,z3,m4,m5,bs,b7,b8,l10⟩,a1,k1,a6,k6, .slice a9 m9 k9,t⟩,rfl,rfl,⟨rfl,r1,r6,n1,λk hk=> ?_, ?_, ?_, ?_⟩,n6⟩
  ·have:=q1 k hk
   omega
  ·simp at g3
   dsimp only;omega
  ·dsimp only
   omega
  simp at g5;dsimp only;omega
theorem acR{fuel:Nat}{cs:List Value}{x:DataW H×List MemPlace}(h:DataW.trod enc aaO w 0 spare held fuel 44 cs=some x)(hB:uptoBulk x.1<=1048576):∃d:ry,cs=Dj d/\xr (j7 w) d/\d.c.data.length<=1048576:=by
 obtain⟨hl,hf⟩:=xU flDy h hB;rw[show aaO.cellsOf 44=12 by kernel_rfl]at hl;obtain⟨_,_,h0,b0⟩:=hf 0 _ _ _ rfl;obtain⟨_,_,h1,_⟩:=hf 1 _ _ _ rfl;obtain⟨z,e1,_⟩:=gS Tryz.underlying3 h1;obtain⟨d,e0,rfl,ok⟩:=Xn h0 b0 z;refine⟨d, ?_,ok⟩;rw[List.take_of_length_le (by rw[List.length_drop];omega)]at e1;rw[ajk]at e0;unfold Dj;rw[<-e0,<-e1,List.take_append_drop]
end
end Go.Proofs.YtcbcjolpdljbiaaGreat
namespace Go.Proofs.YtcbcjolpdljbiaaGreat
open Go Go.dG Go.ChangeShapes Go.WideShapes Go.ChangeAt Go.RowKit Rows
theorem ag3:jh aaO 26=some [(0,3,1),(1,3,1),(2,3,1),(3,3,1),(4,3,1),(5,3,1),(6,23,4),(10,24,1)]:=by kernel_rfl
def witT:Value:= .agg #[CO CN 0,CO CN 0,CO CN 0,CO CN 0,CO CN 0,CO CN 0,CO CN 0,CO CN 0,CO CN 0,CO CN 0, .slice none 0 0]
def witD{H:Type}:List (DataW H):= [.agg [.lit (Lit.int .i64 0), .lit (Lit.int .i64 0), .lit (Lit.int .i64 0), .lit (Lit.int .i64 0), .lit (Lit.int .i64 0), .lit (Lit.int .i64 0), .agg [.lit (Lit.int .i64 0), .lit (Lit.int .i64 0), .lit (Lit.int .i64 0), .lit (Lit.int .i64 0)], .nil]]
section
variable {H:Type} {enc:TypeId×Value->H} {w:World} {spare:Nat->Bool} {held:Bool}
theorem acQ{fuel:Nat}{cs:List Value}{x:DataW H×List MemPlace}(h:DataW.trod enc aaO w 0 spare held fuel 26 cs=some x)(hB:uptoBulk x.1<=1048576):
  ∃(t:rU) (p:um) (a:Option Addr) (l:List ry) (cap:Nat),cs=FZ t p a l.length cap/\l.length<=1048576/\gg (j7 w) a (rL l)/\∀d∈l,xr (j7 w) d:=by
 obtain⟨hl,hf⟩:=xU ag3 h hB;rw[show aaO.cellsOf 26=11 by kernel_rfl]at hl
 match cs,hl with
 | [c0,c1,c2,c3,c4,c5,c6,c7,c8,c9,c10],_=>
  obtain⟨_,_,h0,_⟩:=hf 0 _ _ _ rfl;obtain⟨_,_,h1,_⟩:=hf 1 _ _ _ rfl;obtain⟨_,_,h2,_⟩:=hf 2 _ _ _ rfl;obtain⟨_,_,h3,_⟩:=hf 3 _ _ _ rfl;obtain⟨_,_,h4,_⟩:=hf 4 _ _ _ rfl;obtain⟨_,_,h5,_⟩:=hf 5 _ _ _ rfl;obtain⟨_,_,h6,_⟩:=hf 6 _ _ _ rfl;obtain⟨_,_,h7,b7⟩:=hf 7 _ _ _ rfl;obtain⟨z0,e0,_⟩:=gS Tryz.underlying3 h0;obtain⟨z1,e1,_⟩:=gS Tryz.underlying3 h1;obtain⟨z2,e2,_⟩:=gS Tryz.underlying3 h2;obtain⟨z3,e3,_⟩:=gS Tryz.underlying3 h3;obtain⟨z4,e4,_⟩:=gS Tryz.underlying3 h4;obtain⟨z5,e5,_⟩:=gS Tryz.underlying3 h5;obtain⟨p,e6⟩:=Xl h6;obtain⟨a,cap,l,e7,hn,hr,nj⟩:=uX (en:=Dj) (Q:=xr (j7 w)) Tryz.underlying24 (by rw[show aaO.cellsOf 44=12 by kernel_rfl];omega) (λ_ _ _ hx hb=>let ⟨d,e,o,_⟩:=acR hx hb;⟨d,e,o⟩) h7 b7;unfold zd at e6;simp only[ajk,ajo,ajP,ajp,ako.injEq,and_true]at e0 e1 e2 e3 e4 e5 e6 e7;obtain⟨rfl,rfl,rfl,rfl⟩:=e6;subst e0 e1 e2 e3 e4 e5 e7;exact⟨⟨z0,z1,z2,z3,z4,z5⟩,p,a,l,cap,rfl,hn,hr,nj⟩
end
end Go.Proofs.YtcbcjolpdljbiaaGreat
