/- Part Pr of the proof. -/
import Derived.Test.YtdolmecackmjdaaGreatDoorPa
import Derived.Test.YtdolmecackmjdaaGreatDoorPo
import Derived.Test.YtdolmecackmjdaaGreatDoorPo1
import Derived.Below
import Derived.Carry
import Derived.ChangeArms
import Derived.DataReads
import Derived.LaidMore
import Derived.Lib.LaidTab
import Derived.OpenShut
import Derived.ProofKit
import Derived.Stop.Joined
import Derived.Test.YtdolmecackmjdaaGreatDoorRows
import Derived.Test.YtdolmecackmjdaaGreatDoorTie
import Derived.WideShapes
set_option maxRecDepth 100000
open Array renaming getElem?_eq_getElem → agw, getElem?_eq_some_iff → adx
open List renaming mem_cons_of_mem → acC, mem_append_right → agK, mem_cons_self → acF, mem_append_left → ahS, flatMap_cons → adb, getElem?_eq_getElem → acx, getElem?_map → acL, length → ahr, getElem?_eq_none → acK, length_map → acU, drop_zero → ahD, take_succ_cons → ah0, take_zero → aip, drop_succ_cons → ah1, mem_map_of_mem → ah2
open UInt8 renaming ofNat → acZ
open Int renaming eq_ofNat_of_zero_le → ag1
open Go.Proofs.Tryz renaming prog → acw
namespace Go.dL
open Go Go.RowKit Go.WideShapes Go.ChangeShapes
section
variable {H:Type} {enc:TypeId×Value→H} {P:Program}
def frm (W:World):ee:=⟨W.os,W.tape,W.output,kh W,W.drawn⟩
theorem ZF (W:World):St (frm W) [] W:=⟨rfl,⟨rfl,Nat.le_refl _⟩,rfl,Le.refl _,λ_=>none,trivial,(λ_ _ e=>by cases e),(λ_=> .inl rfl)⟩
theorem DX{W W':World}{L:List aa}(s:St (frm W) L W'):Below W.heap.size W W':=by
 have hk:∀k,k<W.heap.size→W'.heap[k]?=W.heap[k]?:=λk hk=>by
  have h1:W.heap[k]?=some W.heap[k]:=agw hk;rw[h1];exact s.frame k _ h1
 refine⟨s.os,s.tape.1,s.output, ?_,hk⟩;rcases Nat.eq_zero_or_pos W.heap.size with h0|h0
 ·omega
 have h1:=hk (W.heap.size-1) (by omega);rw[agw (show W.heap.size-1<W.heap.size by omega)]at h1;have:=(adx.1 h1).1;omega
theorem RA{f:FuncId}{args:List Value}{pre:Hp→Prop}(h:aH P f args pre [] (λv H=>v= .bool true∧H= []))(W:World)(hp:pre (kh W)):
  Calls P f args.toArray W λe W'=>e= .returned (.bool true)∧Below W.heap.size W W':=by
 refine(h (frm W) W hp (ZF W)).mono λe W' hh=> ?_;obtain⟨v,H',he,⟨rfl,rfl⟩,st⟩:=hh;exact⟨he,DX st⟩
theorem yz (hl:laidOutB P=true){W W':World}{sp:Nat→Bool}:∀{ts:List TypeId} {vs:List Value} {ds:List (DataW H)} {ps:List MemPlace},(∀t∈ts,P.readableRec t=true∧t<P.types.size)→
  DataW.TrodAll enc P W 0 (λ_=>true) true ts vs ds ps→(∀p∈ps,W.sameAt W' p)→(∀p∈ps,sp p.block=true)→DataW.TrodAll enc P W' 0 sp true ts vs ds ps:=by
 intro ts
 induction ts with
 |nil=>
  intro vs ds ps _ h _ _;obtain⟨rfl,rfl,rfl⟩:=trodAll_nil h;exact rfl
 |cons t ts ih=>
  intro vs ds ps hr h hs hp;obtain⟨v,vs',d,ds',p,q,rfl,rfl,rfl,h1,h2⟩:=trodAll_cons h;refine⟨p,q, ?_,ih (λx hx=>hr x (acC _ hx)) h2 (λx hx=>hs x (agK _ hx)) (λx hx=>hp x (agK _ hx)),rfl⟩;exact WideElems.Trod_stays hl (hr t (acF ..)).1 (hr t (acF ..)).2 h1 (λx hx=>hs x (ahS _ hx)) (λx hx=>hp x (ahS _ hx))
theorem Rz{f:Func}{s:ChangeSpec}{apart fresh handsOn again:Bool}{W W':World}{args:Array Value}{ds gs:List (DataW H)}{before:List MemPlace}
  (hW:DataW.Whole enc P f.params.toList s.vars apart W args.toList ds gs before) (hv:s.vars= []) (hrt:f.resultTypes= #[4]) (cG:P.underlying 4=some .bool)
  (lj:s.fn H (ds++gs)={results:= [.lit (.bool true)],args:=ds}) (hl:laidOutB P=true) (hr:∀t∈f.params.toList,P.readableRec t=true∧t<P.types.size) (hb:Below W.heap.size W W'):
  s.post enc P f apart fresh handsOn again W args (.bool true) W':=by
 have hW0:=hW;obtain⟨p,q,hA,hV,rfl,hz,hn⟩:=hW;rw[hv]at hV;obtain⟨rfl,rfl⟩:=trodVars_none hV;have bX:∀x∈p++ [],x.block<W.heap.size:=λx hx=>hW0.lt x hx;have X8:∀sp:Nat→Bool,(∀x∈p++ [],sp x.block=true)→DataW.TrodAll enc P W' 0 sp true f.params.toList args.toList ds p:=λsp Mu=>
  yz hl hr hA (λx hx=>hb.same (bX x (by simpa using hx))) (λx hx=>Mu x (by simpa using hx))
 have ad2:∀(b:Nat) (sp:Nat→Bool) (hd:Bool),DataW.TrodAll enc P W' b sp hd f.resultTypes.toList ((Value.bool true).resultList f.resultTypes.size) [.lit (.bool true)] []:=by
  intro b sp hd;rw[hrt];exact⟨[],[],shut_bool cG true,rfl,rfl⟩
 have pA:∀(j:Nat) (t:TypeId) (r:Value),f.resultTypes[j]?=some t→((Value.bool true).resultList f.resultTypes.size)[j]?=some r→Value.okWide P W' .any 0 t r:=by
  rw[hrt];exact ok_one (f:=f) hrt rfl (okWide_bool_mk cG true) |>λh=>by rw[hrt]at h;exact h
 refine⟨ds,[],p++ [],[],p,[],hW0, ?_, ?_, ?_, ?_,λ_=> ?_⟩
 ·rw[lj];exact ad2 _ _ _
 ·rw[lj];exact X8 _ (λx hx=>by simpa using bX x hx)
 ·rw[hv];rw[lj];exact rfl
 ·exact World.keptBut_mono (λx hx=>⟨hx,Or.inr (by simpa using hx)⟩) (hb.frame (·∈p++ []))
 rw[hv];refine⟨pA,_,[],([]++p)++ [],⟨[]++p,[],trodAll_append (X8 _ (λ_ _=>rfl)) (ad2 _ _ _),rfl,rfl, ?_, ?_⟩, ?_⟩
 ·intro b off hp
  have aw:MemPlace.cell b off∈p++ []:=by simpa using hp
  rw[hb.frozen (bX _ aw)];exact hz b off aw
 ·intro ha
  have:=hn ha
  simpa using this
 intro x hx _
 simpa using hx
end
end Go.dL
namespace Go.dL
open Go Go.RowKit Go.WideShapes Go.ChangeShapes
theorem SD{sz:Nat}(sT:0<sz):∀(L:List (List Value)),(∀c∈L,c.length=sz)→∀k v,L.flatten[k]?=some v→∃i c,L[i]?=some c∧c[k-i*sz]?=some v∧i*sz≤k∧k-i*sz<sz:=by
 intro L
 induction L with
 |nil=>intro _ k v h;simp at h
 |cons c r ih=>
  intro hl k v h;have hc:=hl c (acF ..);rw[List.flatten_cons]at h;by_cases hk:k<c.length
  ·rw[List.getElem?_append_left hk]at h
   exact⟨0,c,rfl,by simpa using h,by omega,by omega⟩
  rw[List.getElem?_append_right (by omega)]at h;obtain⟨i,c',h1,h2,h3,h4⟩:=ih (λx hx=>hl x (acC _ hx)) _ v h;rw[hc]at h2 h3 h4;refine⟨i+1,c',by simpa using h1, ?_, ?_, ?_⟩<;>rw[Nat.add_mul]<;>try omega
  rw[show k-(i*sz+1*sz)=k-sz-i*sz from by omega];exact h2
theorem Wb{α:Type}{enc:α→List Value}{Q:α→Prop}:∀(L:List (List Value)),(∀c∈L,∃y,c=enc y∧Q y)→∃ys:List α,L=ys.map enc∧∀y∈ys,Q y:=by
 intro L
 induction L with
 |nil=>intro _;exact⟨[],rfl,by simp⟩
 |cons c r ih=>
  intro h;obtain⟨y,rfl,hy⟩:=h c (acF ..);obtain⟨ys,rfl,hys⟩:=ih λx hx=>h x (acC _ hx);exact⟨y::ys,rfl,by simpa using⟨hy,hys⟩⟩
section
variable {H:Type} {enc:TypeId×Value→H} {P:Program} {w:World} {spare:Nat→Bool} {held:Bool} {base:Nat}
theorem kI{t:TypeId}{k:IntKind}{fuel:Nat}{cs:List Value}{x:DataW H×List MemPlace}(ht:P.underlying t=some (.int k))(h:DataW.trod enc P w base spare held fuel t cs=some x):∃n,cs= [.int k n]∧k.min≤n∧n≤k.max:=by
 obtain⟨n,h1,_,h2⟩:=DataW.trod_int ht h;exact⟨n,h1,by simpa[Lit.wf]using h2⟩
theorem HF{t:TypeId}{fuel:Nat}{cs:List Value}{x:DataW H×List MemPlace}(ht:P.underlying t=some .bool)(h:DataW.trod enc P w base spare held fuel t cs=some x):∃b,cs= [.bool b]:=by
 obtain⟨n,h1,_⟩:=DataW.trod_bool ht h;exact⟨n,h1⟩
theorem yd:∀(l:List UInt8),(l.flatMap λc:UInt8=> [Value.int .u8 (c.toNat:Int)])=ai l:=by
 intro l;induction l with
 |nil=>rfl
 |cons c r ih=>simp only[adb,ih];rfl
theorem JO{t:TypeId}{fs:Array Field}{fuel:Nat}{cs:List Value}{x:DataW H×List MemPlace}(ht:P.underlying t=some (.struct fs))(h:DataW.trod enc P w base spare held fuel t cs=some x):
  cs.length=P.cellsOf t∧∀(i:Nat) (f:Field),fs[i]?=some f→∃n x',DataW.trod enc P w base spare held n f.type ((cs.drop f.offset).take (P.cellsOf f.type))=some x':=by
 obtain⟨xs,n,_,_,h1,h2,h3⟩:=DataW.trod_struct ht h;refine⟨h1,λi f hf=>⟨n,xs[i]'(by rw[h2];exact(adx.1 hf).1), ?_⟩⟩;rw[h3 i f hf,acx]
def je (P:Program)(t:TypeId):Option (List (Nat×TypeId×Nat)):=
 match P.underlying t with
 |some (.struct fs)=>some (fs.toList.map λf=>(f.offset,f.type,P.cellsOf f.type))
 |_=>none
theorem Vy{t:TypeId}{L:List (Nat×TypeId×Nat)}{fuel:Nat}{cs:List Value}{x:DataW H×List MemPlace}(ht:je P t=some L)(h:DataW.trod enc P w base spare held fuel t cs=some x):
  cs.length=P.cellsOf t∧∀(i:Nat) (o ty k:Nat),L[i]?=some (o,ty,k)→∃n x',DataW.trod enc P w base spare held n ty ((cs.drop o).take k)=some x':=by
 unfold je at ht;cases hu:P.underlying t with
 |none=>simp[hu]at ht
 |some d=>
  cases d<;>simp[hu]at ht
  rename_i fs
  subst ht;obtain⟨h1,h2⟩:=JO hu h;refine⟨h1,λi o ty k hi=> ?_⟩;simp only[acL,Option.map_eq_some_iff,Prod.mk.injEq]at hi;obtain⟨f,hf,rfl,rfl,rfl⟩:=hi;exact h2 i f (by simpa using hf)
theorem Qo{t:TypeId}{L:List (Nat×TypeId×Nat)}{v:Value}{r:Reach}{b0:Nat}(ht:je P t=some L)(h:Value.okWide P w r b0 t v):v= .agg v.cells.toList.toArray:=by
 unfold je at ht;cases hu:P.underlying t with
 |none=>simp[hu]at ht
 |some d=>
  cases d<;>simp[hu]at ht;simp only[Value.okWide,hu]at h;obtain⟨cs,rfl,_⟩:=h;simp[Value.cells]
theorem Jj{t e:TypeId}{v:Value}{r:Reach}{b0:Nat}(ht:P.underlying t=some (.slice e))(h:Value.okWide P w r b0 t v){u:Value}(hu:v.cells.toList= [u]):v=u:=by
 obtain⟨a,l,c,rfl⟩:=okWide_slice ht h
 simpa[Value.cells]using hu
end
end Go.dL
namespace Go.Proofs.YtdolmecackmjdaaGreatDoor
open Go Go.dL Go.ChangeShapes Go.WideShapes Go.ChangeAt Go.RowKit
theorem Wt{H:Type}{enc:TypeId×Value→H}{P:Program}{w:World}{base:Nat}{spare:Nat→Bool}{held:Bool}{t:TypeId}{fs:Array Field}{fuel:Nat}{cs:List Value}{zs:List Int}{p:List MemPlace}(ht:P.underlying t=some (.struct fs))
  (hf:∀(i:Nat) (f:Field),fs[i]?=some f→f.offset=i∧P.underlying f.type=some (.int .i64)∧P.cellsOf f.type=1) (hn:P.cellsOf t=fs.size)
  (h:DataW.trod enc P w base spare held fuel t cs=some (.agg (zs.map λz=> .lit (.int .i64 z)),p)):cs=zs.map (Value.int .i64):=by
 obtain⟨xs,n,_,hx,h1,h2,h3⟩:=DataW.trod_struct ht h;simp only[Prod.mk.injEq,DataW.agg.injEq]at hx;have hxs:xs.map (·.1)=zs.map λz=>(DataW.lit (.int .i64 z):DataW H):=hx.1.symm;have YL:zs.length=xs.length:=by
  have:=congrArg ahr hxs
  simpa using this.symm
 apply List.ext_getElem?;intro i;by_cases hi:i<fs.size
 ·have hfi:=agw hi
  obtain⟨f1,f2,f3⟩:=hf i _ hfi;have hxi:i<xs.length:=by omega
  have h4:=h3 i _ hfi;rw[f1,f3,acx hxi]at h4;obtain⟨z,hc,hz,_⟩:=DataW.trod_int f2 h4;have e1:cs[i]?=some (.int .i64 z):=by
   have:=congrArg (·[0]?) hc
   simpa[List.getElem?_take,List.getElem?_drop]using this
  have e2:(xs.map (·.1))[i]?=some (DataW.lit (.int .i64 z):DataW H):=by
   rw[acL,acx hxi,Option.map_some,hz]
  rw[hxs]at e2;simp only[acL,Option.map_eq_some_iff,DataW.lit.injEq,Lit.int.injEq,true_and]at e2;obtain⟨z',hz',rfl⟩:=e2;simp[e1,hz']
 rw[acK (by omega),acK (by rw[acU];omega)]
def XV:List (String×DataW Unit):= [("granary/granarylaw10.ample",Rows.laid_granary_granarylaw10_ample)]
theorem Tryz.own:ownKnob acw.godebug=none:=by kernel_rfl
theorem Tryz.laidOut:laidOutB acw=true:=by kernel_rfl
theorem g0A:acw.globalNamed "granary/granarylaw10.ample" =some 0:=by kernel_rfl
theorem ty0A:(acw.globals[0]?).map (·.type)=some 23:=by kernel_rfl
theorem aeg:je acw 25=some [(0,3,1),(1,3,1),(2,3,1),(3,3,1)]:=by kernel_rfl
theorem yC{W:World}(h:laidMetH acw XV W):dU (kh W) (some ⟨0,0,none⟩) (jZ cA):=by
 rw[MakeChecks.laidMetH_plain _ _ _ (by kernel_rfl)]at h;obtain⟨ps,⟨g0,t0,cs0,f0,p0,q0,hg0,ht0,Xm,qB,_,_⟩,_,_⟩:=h;obtain rfl:=Option.some.inj (g0A.symm.trans hg0);obtain rfl:=Option.some.inj (ty0A.symm.trans ht0);have jw:=Wt (zs:= [4096,64,200,64,512,30,30]) Tryz.underlying23 (λi f hf=>by
  rcases i with _|_|_|_|_|_|_|i<;>first|(cases hf;exact⟨rfl,Tryz.underlying3,by kernel_rfl⟩)|(simp at hf)) (by kernel_rfl) qB
 intro k v hk;have e:(⟨0,0,none⟩:Addr).add k=⟨0,k,none⟩:=by unfold Addr.add;split<;>simp[*]
 refine⟨_,rfl, ?_⟩;rw[e,←S6];have:=World.var?_cell g0A Xm k;rw[this];rw[show jZ cA= [4096,64,200,64,512,30,30].map (Value.int .i64)from rfl,←jw]at hk
 simpa using hk
theorem SS (os:Os)(args:Array Value):laidMetH acw XV ((World.doorLaid acw 400 os).forCall (λ_ _=>0) ⟨#[],args,[]⟩).memory:=
 laidMetH_of_parts3 (fuel:=8) (laidMet_of_run' 8 (by kernel_rfl) (by kernel_rfl)) (by kernel_rfl) (by kernel_rfl)
section
variable {H:Type} {enc:TypeId×Value→H} {w:World} {spare:Nat→Bool} {held:Bool} {base:Nat}
theorem Vx{fuel:Nat}{cs:List Value}{x:DataW H×List MemPlace}(h:DataW.trod enc acw w base spare held fuel 25 cs=some x):∃p:ua,cs=yl p:=by
 obtain⟨hl,hf⟩:=Vy aeg h;rw[show acw.cellsOf 25=4 by kernel_rfl]at hl
 match cs,hl with
 | [c0,c1,c2,c3],_=>
  obtain⟨_,_,h0⟩:=hf 0 _ _ _ rfl;obtain⟨_,_,h1⟩:=hf 1 _ _ _ rfl;obtain⟨_,_,h2⟩:=hf 2 _ _ _ rfl;obtain⟨_,_,h3⟩:=hf 3 _ _ _ rfl;obtain⟨z0,e0,_,_⟩:=kI Tryz.underlying3 h0;obtain⟨z1,e1,_,_⟩:=kI Tryz.underlying3 h1;obtain⟨z2,e2,_,_⟩:=kI Tryz.underlying3 h2;obtain⟨z3,e3,_,_⟩:=kI Tryz.underlying3 h3;simp only[ahD,ah0,aip,ah1,List.cons.injEq,and_true]at e0 e1 e2 e3;subst e0 e1 e2 e3;exact⟨⟨z0,z1,z2,z3⟩,rfl⟩
end
end Go.Proofs.YtdolmecackmjdaaGreatDoor
namespace Go.Proofs.YtdolmecackmjdaaGreatDoor
open Go Go.dL Go.ChangeShapes Go.WideShapes Go.ChangeAt Go.RowKit Rows
theorem S9{H:Type}(d:DataW H):1≤uptoBulk d:=by
 cases d with
 |lit l=>cases l<;>simp[uptoBulk]
 |_=>simp[uptoBulk]
theorem xD{H:Type}{d:DataW H}{l:List (DataW H)}(h:d∈l):uptoBulk d≤uptoBulkAll l:=by
 induction l with
 |nil=>cases h
 |cons x r ih=>
  simp only[uptoBulkAll];rcases List.mem_cons.1 h with e|e
  ·subst e;omega
  have:=ih e;omega
theorem Ta{H:Type}(l:List (DataW H)):l.length≤uptoBulkAll l:=by
 induction l with
 |nil=>simp
 |cons x r ih=>have:=S9 x;simp only[uptoBulkAll,List.length_cons];omega
section
variable {H:Type} {enc:TypeId×Value→H} {P:Program} {w:World} {spare:Nat→Bool} {held:Bool} {base:Nat} {K:Nat}
theorem tG{α:Type}{en:α→List Value}{Q:α→Prop}{t e:TypeId}{fuel:Nat}{cs:List Value}{x:DataW H×List MemPlace}(ht:P.underlying t=some (.slice e))(sT:0<P.cellsOf e)
  (he:∀n cs x,DataW.trod enc P w base spare held n e cs=some x→uptoBulk x.1≤K→∃y,cs=en y∧Q y) (h:DataW.trod enc P w base spare held fuel t cs=some x) (hB:uptoBulk x.1≤K):
  ∃(a:Option Addr) (cap:Nat) (ys:List α),cs= [.slice a ys.length cap]∧ys.length≤K∧dU (kh w) a (ys.flatMap en)∧∀y∈ys,Q y:=by
 rcases DataW.trod_slice ht h with⟨h0,_⟩|⟨a,len,cap,elems,rest,n,_,rfl,hx,hb,hl,hm,hlen,hel,_,_⟩
 ·exact⟨none,0,[],h0,Nat.zero_le _,dU.nil,by simp⟩
 rw[hx]at hB;simp only[uptoBulk]at hB;have hBe:∀d∈elems,uptoBulk d.1≤K:=λd hd=>by
  have:=xD (ah2 (f:=λx:DataW H×List MemPlace=>x.1) hd);omega
 have hLe:len≤K:=by
  have:=Ta (elems.map λx=>x.1);rw[acU]at this;omega
 have hc:∀i,i<len→∃c,w.cells? base (a.add (i*P.cellsOf e)) (P.cellsOf e)=some c∧∃y,c=en y∧Q y:=λi hi=>by
  have h1:=hel i hi;have hg:elems[i]?=some (elems[i]'(by omega)):=acx (by omega);rw[hg]at h1;obtain⟨c,h2,h3⟩:=Option.bind_eq_some_iff.1 h1;exact⟨c,h2,he _ _ _ h3 (hBe _ (List.mem_of_getElem? hg))⟩
 let L:List (List Value):=(List.range len).map λi=>(w.cells? base (a.add (i*P.cellsOf e)) (P.cellsOf e)).getD []
 have hL:∀c∈L,c.length=P.cellsOf e∧∃y,c=en y∧Q y:=by
  intro c BF;simp only[L,List.mem_map,List.mem_range]at BF;obtain⟨i,hi,rfl⟩:=BF;obtain⟨c,h2,h3⟩:=hc i hi;rw[h2];exact⟨(World.cells?_some h2).2.1,h3⟩
 obtain⟨ys,e1,e2⟩:=Wb L λc BF=>(hL c BF).2;have afi:ys.length=len:=by
  have:=congrArg ahr e1
  simpa[L]using this.symm
 refine⟨some a,cap,ys,by rw[afi],by omega,λk v hv=> ?_,e2⟩;rw[List.flatMap_def,←e1]at hv;obtain⟨i,c,h1,h2,h3,h4⟩:=SD sT L (λc BF=>(hL c BF).1) k v hv;refine⟨a,rfl, ?_⟩;have hi:i<len:=by
  have:=(List.getElem?_eq_some_iff.1 h1).1
  simpa[L]using this
 obtain⟨c',h5,_⟩:=hc i hi;have h6:L[i]?=some c':=by simp[L,hi,h5]
 rw[h1]at h6;cases h6;have h7:=(World.cells?_some h5).2.2 (k-i*P.cellsOf e) h4;rw[add_add,show i*P.cellsOf e+(k-i*P.cellsOf e)=k from by omega,h2]at h7;exact h7
theorem CN{t:TypeId}{L:List (Nat×TypeId×Nat)}{fuel:Nat}{cs:List Value}{x:DataW H×List MemPlace}(ht:je P t=some L)(h:DataW.trod enc P w base spare held fuel t cs=some x)(hB:uptoBulk x.1≤K):
  cs.length=P.cellsOf t∧∀(i:Nat) (o ty k:Nat),L[i]?=some (o,ty,k)→∃n x',DataW.trod enc P w base spare held n ty ((cs.drop o).take k)=some x'∧uptoBulk x'.1≤K:=by
 unfold je at ht;cases hu:P.underlying t with
 |none=>simp[hu]at ht
 |some d=>
  cases d<;>simp[hu]at ht
  rename_i fs
  subst ht;obtain⟨xs,n,_,hx,h1,h2,h3⟩:=DataW.trod_struct hu h;refine⟨h1,λi o ty k hi=> ?_⟩;simp only[acL,Option.map_eq_some_iff,Prod.mk.injEq]at hi;obtain⟨f,hf,rfl,rfl,rfl⟩:=hi;have hf':fs[i]?=some f:=by simpa using hf
  have hi:i<xs.length:=by rw[h2];exact(adx.1 hf').1
  refine⟨n,xs[i],by rw[h3 i f hf',acx], ?_⟩;rw[hx]at hB;simp only[uptoBulk]at hB;have:=xD (ah2 (f:=λx:DataW H×List MemPlace=>x.1) (List.getElem_mem hi));omega
theorem HE{t:TypeId}{fuel:Nat}{cs:List Value}{x:DataW H×List MemPlace}(ht:P.underlying t=some .string)(h:DataW.trod enc P w base spare held fuel t cs=some x)(hB:uptoBulk x.1≤K):∃l:List UInt8,cs= [aB l]∧l.length≤K:=by
 obtain⟨s,h1,hx,h2⟩:=DataW.trod_string ht h;refine⟨s.data.toList,by rw[h1];unfold aB;rw[Array.toArray_toList], ?_⟩;rw[hx]at hB;simp only[uptoBulk]at hB;omega
theorem ae1{t e:TypeId}{fuel:Nat}{cs:List Value}{x:DataW H×List MemPlace}(ht:P.underlying t=some (.slice e))(h:DataW.trod enc P w base spare held fuel t cs=some x):∃a m c,cs= [.slice a m c]:=by
 rcases DataW.trod_slice ht h with⟨h0,_⟩|⟨a,len,cap,elems,rest,n,_,rfl,_⟩
 ·exact⟨none,0,0,h0⟩
 exact⟨_,_,_,rfl⟩
end
theorem flCm:je acw 47=some [(0,3,1),(1,43,1),(2,38,1),(3,3,1),(4,38,1),(5,38,1),(6,44,1),(7,4,1),(8,4,1),(9,45,1),(10,9,1)]:=by kernel_rfl
theorem flDy:je acw 63=some [(0,47,11),(11,3,1)]:=by kernel_rfl
theorem zJ:∀l:List (List UInt8),(l.flatMap λk=> [aB k])=eR l
 | []=>rfl
 |k::l=>by rw[adb,zJ l];rfl
section
variable {H:Type} {enc:TypeId×Value→H} {w:World} {spare:Nat→Bool} {held:Bool}
theorem Vz{fuel:Nat}{cs:List Value}{x:DataW H×List MemPlace}(h:DataW.trod enc acw w 0 spare held fuel 47 cs=some x)(hB:uptoBulk x.1≤1048576)(t:Int):
  ∃d:qL,cs=cy d.c d.ka d.kc d.da d.dc d.mv∧d.tick=t∧Ct (kh w) d∧d.c.data.length≤1048576:=by
 obtain⟨hl,hf⟩:=CN flCm h hB;rw[show acw.cellsOf 47=11 by kernel_rfl]at hl
 match cs,hl with
 | [c0,c1,c2,c3,c4,c5,c6,c7,c8,c9,c10],_=>
  obtain⟨_,_,h0,_⟩:=hf 0 _ _ _ rfl;obtain⟨_,_,h1,b1⟩:=hf 1 _ _ _ rfl;obtain⟨_,_,h2,_⟩:=hf 2 _ _ _ rfl;obtain⟨_,_,h3,_⟩:=hf 3 _ _ _ rfl;obtain⟨_,_,h4,_⟩:=hf 4 _ _ _ rfl;obtain⟨_,_,h5,_⟩:=hf 5 _ _ _ rfl;obtain⟨_,_,h6,b6⟩:=hf 6 _ _ _ rfl;obtain⟨_,_,h7,_⟩:=hf 7 _ _ _ rfl;obtain⟨_,_,h8,_⟩:=hf 8 _ _ _ rfl;obtain⟨_,_,h9,_⟩:=hf 9 _ _ _ rfl;obtain⟨_,_,Uo,b10⟩:=hf 10 _ _ _ rfl;obtain⟨z0,e0,_⟩:=kI Tryz.underlying3 h0;obtain⟨a1,k1,ks,e1,n1,r1,q1⟩:=tG (en:=λk=> [aB k]) (Q:=λk:List UInt8=>k.length≤1048576) Tryz.underlying43 (by rw[show acw.cellsOf 9=1 by kernel_rfl];omega) (λ_ _ _ hx hb=>HE Tryz.underlying9 hx hb) h1 b1;obtain⟨z2,e2,l2,_⟩:=kI Tryz.underlying38 h2;obtain⟨z3,e3,_,g3⟩:=kI Tryz.underlying3 h3;obtain⟨z4,e4,l4,_⟩:=kI Tryz.underlying38 h4;obtain⟨z5,e5,l5,g5⟩:=kI Tryz.underlying38 h5;obtain⟨a6,k6,bs,e6,n6,r6,_⟩:=tG (en:=λc:UInt8=> [.int .u8 (c.toNat:Int)]) (Q:=λ_=>True) Tryz.underlying44 (by rw[show acw.cellsOf 5=1 by kernel_rfl];omega) (λn cs x hx _=>by
   obtain⟨n,rfl,q1,q2⟩:=kI Tryz.underlying5 hx;simp only[IntKind.min,IntKind.max,IntKind.signed,IntKind.bits]at q1 q2;refine⟨acZ n.toNat, ?_,trivial⟩;have:(acZ n.toNat).toNat=n.toNat:=by simp;omega
   rw[this]
   congr 2
   simp at q1;omega) h6 b6
  obtain⟨b7,e7⟩:=HF Tryz.underlying4 h7;obtain⟨b8,e8⟩:=HF Tryz.underlying4 h8;obtain⟨a9,m9,k9,e9⟩:=ae1 Tryz.underlying45 h9;obtain⟨l10,e10,_⟩:=HE Tryz.underlying9 Uo b10;simp only[ahD,ah0,aip,ah1,List.cons.injEq,and_true]at e0 e1 e2 e3 e4 e5 e6 e7 e8 e9 e10;subst e0 e1 e2 e3 e4 e5 e6 e7 e8 e9 e10;obtain⟨m2,rfl⟩:=ag1 (show 0≤z2 from l2);obtain⟨m4,rfl⟩:=ag1 (show 0≤z4 from l4);obtain⟨m5,rfl⟩:=ag1 (show 0≤z5 from l5);rw[zJ]at r1;rw[yd]at r6;simp only[IntKind.max,IntKind.signed,IntKind.bits]at g3 g5;refine⟨⟨⟨z0,ks,m2,z3,m4,m5,bs,b7,b8,l10⟩,a1,k1,a6,k6, .slice a9 m9 k9,t⟩,rfl,rfl,⟨rfl,r1,r6,n1,λk hk=> ?_, ?_, ?_, ?_⟩,n6⟩
  ·have:=q1 k hk
   omega
  ·simp at g3
   dsimp only;omega
  ·dsimp only
   omega
  simp at g5;dsimp only;omega
theorem aak{fuel:Nat}{cs:List Value}{x:DataW H×List MemPlace}(h:DataW.trod enc acw w 0 spare held fuel 63 cs=some x)(hB:uptoBulk x.1≤1048576):∃d:qL,cs=B5 d∧Ct (kh w) d∧d.c.data.length≤1048576:=by
 obtain⟨hl,hf⟩:=CN flDy h hB;rw[show acw.cellsOf 63=12 by kernel_rfl]at hl;obtain⟨_,_,h0,b0⟩:=hf 0 _ _ _ rfl;obtain⟨_,_,h1,_⟩:=hf 1 _ _ _ rfl;obtain⟨z,e1,_⟩:=kI Tryz.underlying3 h1;obtain⟨d,e0,rfl,ok⟩:=Vz h0 b0 z;refine⟨d, ?_,ok⟩;rw[List.take_of_length_le (by rw[List.length_drop];omega)]at e1;rw[ahD]at e0;unfold B5;rw[←e0,←e1,List.take_append_drop]
end
end Go.Proofs.YtdolmecackmjdaaGreatDoor
