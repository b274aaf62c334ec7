/- Part Po2 of the proof. -/
import Derived.Test.YtcbcjolpdljbiaaGreatPq1
set_option maxRecDepth 100000
open Go.Proofs.YtcbcjolpdljbiaaGreat.T
open List renaming mem_cons_self -> aag, foldl_cons -> agn, mem_cons_of_mem -> aai, findIdx?_cons -> agB, all_cons -> aj9, all_append -> akJ, replicate -> aae, length_nil -> akG, mem_map -> abF, mem_filter -> abG
open Nat renaming add_zero -> ajV, le_add_left -> aj2, le_refl -> aam, le_trans -> ahb
open UInt8 renaming ofNat -> abP
open Int renaming toNat -> akN
namespace Go.Proofs.YtcbcjolpdljbiaaGreat
open Go Go.dC Go.Proofs.YtcbcjolpdljbiaaGreat.Cs
structure MtE (M N:Mo):Prop where
 dr:N.v.mt.dr=M.v.mt.dr
 re:N.v.mt.re=M.v.mt.re
 lo:N.v.mt.lo=M.v.mt.lo
theorem OK (M:Mo):MtE M M.beside:=by
 unfold Mo.beside Mo.kM Mo.gA Mo.cy Mo.aN;exact⟨rfl,rfl,rfl⟩
theorem ON (hot warm:Nat)(M:Mo)(k:FI):MtE M (M.behind hot warm k):=by
 unfold Mo.behind;have h:=OK (M.lE hot warm k);refine⟨h.dr.trans ?_,h.re.trans ?_,h.lo.trans ?_⟩<;>(unfold Mo.lE;split<;>rfl)
theorem MtE.z{M N:Mo}(h:MtE M N)(z:Mt0 M):Mt0 N:=⟨h.dr.trans z.dr,h.re.trans z.re,h.lo.trans z.lo⟩
end Go.Proofs.YtcbcjolpdljbiaaGreat
namespace Go.Proofs.YtcbcjolpdljbiaaGreat
open Go Go.dC Go.Proofs.YtcbcjolpdljbiaaGreat.Cs
theorem EX:∀(l:FH) {M:Mo},(∀p,M.has p->M.bF p=0)->(∀p∈l,M.has p)->l.foldl Mo.look M=M
 | [],_,_,_=>rfl
 |p::l,M,al,h=>by
  have e:M.look p=M:=if_neg (by rw[al p (h p aag)];decide);rw[agn,e];exact EX l al λq hq=>h q (aai _ hq)
theorem vB:∀(f:Nat) {M:Mo},Mi M->(∀p,M.has p->M.bF p=0)->∃x,(M.bY f).2={M with x:=x}
 |0,M,_,_=>⟨M.x,rfl⟩
 |f+1,M,K,al=>by
  have X:=Kx K.n1 K.ln K.x;unfold Mo.bY;split
  ·next x h=>
   rw[h]at X;split
   ·next p hp=>
    have hl:({M with x:=x.pass M.Q}:Mo).look p={M with x:=x.pass M.Q}:=if_neg (by
     have:=al p ⟨_,(X.nx p hp).1⟩;show¬M.bF p≠0;rw[this];decide)
    obtain⟨y,hy⟩:=vB f (K.cw X.pass) al;refine⟨y, ?_⟩;dsimp only;rw[hl,hy]
   exact⟨x,rfl⟩
  exact⟨_,rfl⟩
theorem Fv{M:Mo}(K:Mi M)(al:∀p,M.has p->M.bF p=0)(now most:Int):∃x,(M.cb now most).2={M with x:=x}:=by
 unfold Mo.cb;split
 ·exact⟨M.x,rfl⟩
 unfold Mo.oc;dsimp only;rw[EX _ al (K.due _ _).2];exact vB _ K al
variable {n e:Nat} {M N:Mo}
theorem Th.pre (T:Th n e M)(hot warm:Nat)(k:FI):∃X t,M.behind hot warm k=(X.eG X.v.p.m).2.aN t/\Th n e X/\la M X/\X.C=M.C/\X.m=M.m/\X.v.p=M.v.p:=by
 have g:=T.i.bal hot warm k;obtain⟨b1,b2,b3⟩:=Dh hot warm M k;have bC:(M.lE hot warm k).C=M.C:=by unfold Mo.lE;split<;>rfl
 have T1:=T.go g (b1.trans T.h) bC b2;unfold Mo.behind;generalize M.lE hot warm k=A at*;have T2:Th n e A.cy:=T1.go T1.i.cy T1.h rfl rfl;obtain⟨x,hx⟩:=Fv T2.i (λp=>T2.al) A.cy.k.now A.cy.v.p.c;have eC:A.cy.gA.C=A.cy.C:=by
  show(A.cy.cb A.cy.k.now A.cy.v.p.c).2.C=_;rw[hx]
 have em:A.cy.gA.m=A.cy.m:=by
  show(A.cy.cb A.cy.k.now A.cy.v.p.c).2.m=_;rw[hx]
 have eh:A.cy.gA.hole=A.cy.hole:=by
  show(A.cy.cb A.cy.k.now A.cy.v.p.c).2.hole=_;rw[hx]
 have ep:A.cy.gA.v.p=A.cy.v.p:=by
  show(A.cy.cb A.cy.k.now A.cy.v.p.c).2.v.p=_;rw[hx]
 exact⟨A.cy.gA,_,rfl,T2.go T2.i.gA (eh.trans T2.h) eC em,(g.trans T1.i.cy).trans T2.i.gA,eC.trans bC,em.trans b2,ep.trans b3⟩
theorem Th.ahX (T:Th n e M)(eo:M.m.on=false)(hu:M.m.un= [0,0])(hot warm:Nat)(k:FI):Th n e (M.behind hot warm k)/\la M (M.behind hot warm k)/\(M.behind hot warm k).C=M.C/\(M.behind hot warm k).m.on=false/\(M.behind hot warm k).m.un= [0,0]:=by
 obtain⟨X,t,e1,TX,G,eC,em,ep⟩:=T.pre hot warm k;rw[e1];obtain⟨s,hs⟩:=TX.aiM (by rw[em];exact eo) (by rw[em];exact hu) X.v.p.m;rw[hs];have ahC:X.m.on=false:=by rw[em];exact eo
 have G2:la X (({X with m:={X.m with st:=s}}:Mo).aN t):=⟨TX.i.rf TX.i.x rfl rfl rfl rfl rfl rfl rfl rfl,eA TX.i.p rfl rfl rfl⟩;refine⟨TX.of G2 TX.h ⟨rfl,rfl,rfl⟩ rfl λh=> ?_,G.trans G2,eC,ahC,by show X.m.un=_;rw[em];exact hu⟩;have h2:X.m.on=true:=h;rw[ahC]at h2;cases h2
theorem Th.ahW (T:Th n e M)(ht:(M.C.rw 0).ct<=56)(hp:1<=M.v.p.m){u:Nat}(hu:M.m.un= [0,u])(hot warm:Nat)(k:FI):Lt n e M (M.behind hot warm k)/\(M.m.on=true\/M.C.spare=0/\M.m.st+1<u/\2<=(M.C.rw 0).bA->nQ n (M.behind hot warm k)+1<=nQ n M):=by
 obtain⟨X,t,e1,TX,G,eC,em,ep⟩:=T.pre hot warm k;have ph:nQ n X=nQ n M:=by unfold nQ;rw[eC,em]
 obtain⟨V,h⟩:=TX.eG (by rw[eC];exact ht) (most:=X.v.p.m) (by rw[ep];exact hp) (by rw[em];exact hu);rw[e1];generalize (X.eG X.v.p.m).2=Y at*;have V1:Lt n e M X:=⟨TX,G,by rw[eC],by rw[eC],λh=>by rw[eC];exact h,by rw[em],by rw[ph];exact Int.le_refl _⟩;have V2:Lt n e Y (Y.aN t):=⟨V.t.go (V.t.i.vM t) V.t.h rfl rfl,V.t.i.vM t,rfl,rfl,id,rfl,Int.le_refl _⟩;rw[eC,em,ph]at h;exact⟨(V1.trans V).trans V2,h⟩
theorem afv{x:I3}{c:Nat}(h:Cq e (x.vw,c))(e0:e=0\/1<e):BB ⟨1,0,0⟩ x=0:=by
 obtain⟨h1,h2⟩:=h;have h1:x.exp=(if c=0 then e else 0):=h1;have h2:1<=x.tok:=h2;have hx:¬(0<x.exp/\x.exp<=1):=by rw[h1];split<;>omega
 unfold BB;dsimp only;rw[if_neg hx,if_neg (by omega)]
theorem YZ (K:Mi M){r:Nat}(hr:M.hole=some r)(x:I3){q:Nat}(h:(M.iz r x).has q):(M.iz r x).vw q=(x.vw,M.C.cl r)\/M.has q/\(M.iz r x).vw q=M.vw q:=by
 have L:=(K.lv r).2 (.inr hr);have hi:qi (M.C.cl r) 1<M.Q.length:=by
  have h1:=(L.toAt.ba K.k).1;have h2:=K.q.len;unfold Mo.fG at h2;unfold qi;omega
 obtain⟨j,h⟩:=h;rcases(iL hi).1 h with⟨_,rfl⟩|g
 ·refine .inl (Prod.ext ?_ rfl)
  show((if q=q then{x with eP:=mkSet x.eP false}else M.it q):I3).vw=x.vw;rw[if_pos rfl,Qj]
 have ne:q≠r:=λe=>K.ho r hr ⟨j,e▸g⟩;refine .inr ⟨⟨j,g⟩,Prod.ext ?_ rfl⟩;show((if q=r then{x with eP:=mkSet x.eP false}else M.it q):I3).vw=_;rw[if_neg ne];rfl
theorem Th.Hi (T:Th n e M){c r:Nat}{D:Cs}(hc:c<2)(hD:M.C.ca c=some (r,D))(eo:M.m.on=true)(h1:c=1):D.pg M.m.pg=M.C.pg M.m.pg/\D.rw 0=M.C.rw 0/\D.spare=M.C.spare:=by
 obtain⟨o1,o2,o3,o4⟩:=T.on eo;obtain⟨a,b,c',d⟩:=T.i.on eo;obtain⟨n1,n2,n3⟩:=qd T.i.k (by rw[T.DA.2.2];exact hc) hD;rcases n3 with⟨_,n3,n4,n5,F⟩|⟨_,_,g⟩
 ·refine⟨?_,n2 0 (by omega),n4⟩
  rw[n5];refine AD T.i.k F λe2=> ?_;have h2:=F.cl;unfold Cs.cl at h2;rw[<-e2,d,o1]at h2;omega
 omega
theorem Th.had (T:Th n e M){c r:Nat}{D:Cs}(hc:c<2)(hD:M.C.ca c=some (r,D))(eo:M.m.on=true->c=1)(x:I3)(hx:Cq e (x.vw,c))(hn:∀q,M.has q->(M.it q).key≠x.key):
  Th n e (({M with C:=D,hole:=some r}:Mo).dE r none x)/\DO M (({M with C:=D,hole:=some r}:Mo).dE r none x) x.key (some (x.vw,c)):=by
 have ht:M.take c=some (r,{M with C:=D,hole:=some r}):=by unfold Mo.take;rw[hD]
 obtain⟨G,h1,h2,h3,h4,h5,h6⟩:=T.i.take T.h (by show c<M.C.ae.length;rw[T.DA.2.2];exact hc) ht;have TK:=nz T.i.k (by rw[T.DA.2.2];exact hc) hD;obtain⟨U,u1,u2⟩:=G.i.dE h1 none x (λ_=>hn) (λp e=>by cases e);have w0:BB M.k x=0:=by rw[T.k];exact afv hx T.e0
 have h4:D.cl r=c:=h4;rw[show BB ({M with C:=D,hole:=some r}:Mo).k x=0 from w0,if_pos rfl,show({M with C:=D,hole:=some r}:Mo).C.cl r=c from h4]at U;refine⟨⟨U.i,rfl,TK.sz.trans T.z,TK.ps.trans T.ps,TK.n.trans T.nn,T.k,T.e0,λq hq=> ?_,T.un,λho=> ?_⟩,G.iE T.i.p U⟩
 ·have g:=G.i.Kp (M.v.aQ+1)
  rcases YZ g.i h1 x hq with v|⟨v,w⟩
  ·have v:(({M with C:=D,hole:=some r}:Mo).dE r none x).vw q=(x.vw,D.cl r):=v
   rw[v,h4];exact hx
  obtain⟨p,a,b⟩:=(G.trans g).s.d q v;have w:(({M with C:=D,hole:=some r}:Mo).dE r none x).vw q=_:=w;rw[w,b];exact T.it p a
 obtain⟨o1,o2,o3,o4⟩:=T.on ho;obtain⟨e1,e2,e3⟩:=T.Hi hc hD ho (eo ho);refine⟨o1, ?_, ?_, ?_⟩
 ·show(D.pg M.m.pg).held<=28
  rw[e1];exact o2
 ·show 2<=(D.rw 0).bA
  rw[e2];exact o3
 show D.spare=0;rw[e3];exact o4
theorem Th.bw (T:Th n e M){p:Nat}(hp:M.has p):Th n e (M.bw p):=by
 have L:=(T.i.lv p).2 (.inl hp);obtain⟨g1,g2,g3,g4,g5,_⟩:=qn T.i.k L;refine⟨T.i.bw hp,T.h,T.z,T.ps,T.nn,T.k,T.e0,λq hq=> ?_,T.un,λho=> ?_⟩
 ·have v:(M.bw p).vw q=M.vw q:=congrArg (Prod.mk _) (oz M.C p q)
  rw[v];exact T.it q ((iY T.i.p).1 hq).1
 obtain⟨o1,o2,o3,o4⟩:=T.on ho;refine⟨o1, ?_, ?_,o4⟩
 ·show((M.C.aL p).pg M.m.pg).held<=28
  by_cases h:M.m.pg=M.C.pn p
  ·rw[h]at o2⊢
   omega
  rw[g5 _ h];exact o2
 show 2<=((M.C.aL p).rw 0).bA;rw[g3];exact o3
end Go.Proofs.YtcbcjolpdljbiaaGreat
namespace Go.Proofs.YtcbcjolpdljbiaaGreat
open Go Go.dC Go.Proofs.YtcbcjolpdljbiaaGreat.Cs
def BE (k d:FI)(fl:Nat)(ex:Int):fi:=⟨5,[k],fl,ex,0,0,d,false,false,[]⟩
def Qa (k:FI):fi:=⟨11,[k],0,0,0,0,[],false,false,[]⟩
theorem vw0{x:I3}(h:x.eP=0):x.vw=x:=by
 cases x;cases h;simp[I3.vw]
theorem ahY{v:Int}{k d:FI}{fl:Nat}{ex:Int}(hv:v=5\/v=11)(hk:du k=true)(mP:fl<=4294967295):xM ⟨v,[k],fl,ex,0,0,d,false,false,[]⟩=false:=by
 have e:bW v=1:=by rcases hv with rfl|rfl<;>rfl
 unfold xM;dsimp only;rw[e];simp[hk];omega
theorem HO{hot warm:Nat}{M N:Mo}{k d:FI}{fl r:Nat}{ex:Int}(hk:du k=true)(mP:fl<=4294967295)(wI:((58+k.length+d.length:Nat):Int)<=M.v.c.lim)(hf:M.find k=none)(hr:(M.reset.bI 1).room (58+k.length+d.length) none=(some r,N)):
  M.dO hot warm (BE k d fl ex)=(.k 1,(N.dE r none ⟨k,d,fl,dq M.k.now ex,N.k.now,N.v.aQ+1,0⟩).behind hot warm k):=by
 have hm:M.reset.meet k=(none,M.reset.bI 1):=by
  unfold Mo.meet;rw[show M.reset.find k=none from hf]
 have hd:M.reset.fC (BE k d fl ex)=(.k 1,N.dE r none ⟨k,d,fl,dq M.k.now ex,N.k.now,N.v.aQ+1,0⟩):=by
  unfold Mo.fC;rw[if_neg (by show¬((1:Int)<=5/\(5:Int)<=4);decide),if_neg (by show¬((5:Int)=12\/(5:Int)=13);decide),if_neg (by show¬(5:Int)=14;decide),if_neg (by show¬(5:Int)=11;decide),if_neg (by show¬(5:Int)=15;decide),if_neg (by show¬(5:Int)=16;decide),if_neg (by show¬(5:Int)=17;decide),if_neg (by show¬(5:Int)=18;decide)];show M.reset.dx (BE k d fl ex) k=_;unfold Mo.dx;rw[hm];dsimp only;unfold Mo.jc;rw[if_neg (by
   rintro(h|h)
   ·cases h
   have h:M.v.c.lim<((58:Nat):Int)+(k.length:Int)+(d.length:Int):=h;omega),if_neg (λh=>h rfl)]
  show(M.reset.bI 1).lays k none true (d,fl,dq M.k.now ex)=_;unfold Mo.lays;dsimp only;rw[hr]
 unfold Mo.dO;rw[if_neg (by rw[show BE k d fl ex=⟨5,[k],fl,ex,0,0,d,false,false,[]⟩from rfl,ahY (.inl rfl) hk mP];decide),if_neg (by show¬bW 5=0;decide),hd];rfl
variable {n e:Nat} {M N:Mo}
theorem Th.cls (T:Th n e M){s c:Nat}(h:c=0/\s<=64\/c=1/\64<s/\s<=128)(own:FK):M.room s own=M.lG c own:=by
 unfold Mo.room;rw[T.z];rcases h with⟨rfl,h⟩|⟨rfl,h1,h2⟩
 ·rw[show [64,128].findIdx? (λz=>decide (s<=z))=some 0 by rw[agB,decide_eq_true h];rfl]
 rw[show [64,128].findIdx? (λz=>decide (s<=z))=some 1 by rw[agB,Ab,agB,decide_eq_true h2];rfl]
theorem Th.m1 (T:Th n e M)(w:Nat):Th n e (M.reset.bI w)/\la M (M.reset.bI w):=by
 have g:=T.i.yI;have g2:=g.i.tV w;exact⟨T.go (g.trans g2) T.h rfl rfl,g.trans g2⟩
theorem Th.ahl (T:Th n e M)(eo:M.m.on=false)(hu:M.m.un= [0,0]){k d:FI}{fl c:Nat}{ex:Int}(hc:c=0/\58+k.length+d.length<=64\/c=1/\64<58+k.length+d.length/\58+k.length+d.length<=128)(hk:du k=true)(mP:fl<=4294967295)
  (wI:((58+k.length+d.length:Nat):Int)<=M.v.c.lim) (hx:dq 1 ex=if c=0 then e else 0) (hf:M.find k=none) (hrm:0<M.C.spare\/(M.C.rw c).ct<(M.C.rw c).bA*(M.C.ao/M.C.sz c)) (hot warm:Nat):
  ∃N,M.dO hot warm (BE k d fl ex)=(.k 1,N)/\Th n e N/\(N.m.on=false/\N.m.un= [0,0])/\Mt0 N/\(N.v.aQ=M.v.aQ+1/\N.v.p=M.v.p/\N.v.c=M.v.c)/\(∀z,N.gd z=if z=k then some (⟨k,d,fl,dq 1 ex,1,M.v.aQ+1,0⟩,c)else M.gd z)/\
   (N.C.rw c).ct=(M.C.rw c).ct+1/\(∀d,d≠c->N.C.rw d=M.C.rw d)/\((N.C.rw c).bA=(M.C.rw c).bA/\N.C.spare=M.C.spare\/(M.C.rw c).bA*(M.C.ao/M.C.sz c)<=(M.C.rw c).ct/\(N.C.rw c).bA=(M.C.rw c).bA+1/\N.C.spare+1=M.C.spare):=by
 have qx:c<2:=by omega
 have cQ:c<M.C.ae.length:=by rw[T.DA.2.2];exact qx
 have fA:=T.stay qx;rw[if_neg (λh=>by rw[eo]at h;cases h.1),ajV]at fA;obtain⟨T1,G1⟩:=T.m1 1;cases hD:M.C.ca c with
 |none=>
  obtain⟨h1,h2⟩:=AE T.i.k cQ hD;rw[<-fA]at h1;omega
 |some x=>
  obtain⟨r,D⟩:=x;have e1:M.k.now=1:=by rw[T.k]
  have hr:(M.reset.bI 1).room (58+k.length+d.length) none=(some r,{M.reset.bI 1 with C:=D,hole:=some r}):=by
   rw[T1.cls hc];unfold Mo.lG Mo.take;rw[show(M.reset.bI 1).C.ca c=some (r,D)from hD]
  have jE:=HO (hot:=hot) (warm:=warm) (ex:=ex) hk mP wI hf hr;have hnk:∀q,(M.reset.bI 1).has q->((M.reset.bI 1).it q).key≠k:=p7 T.i.p hf;obtain⟨TL,U⟩:=T1.had qx hD (λh=>by have h:M.m.on=true:=h;rw[eo]at h;cases h) ⟨k,d,fl,dq M.k.now ex,M.k.now,M.v.aQ+1,0⟩ (by rw[e1];exact⟨hx,aj2 _ _⟩) hnk;rw[e1]at jE U TL;obtain⟨TN,GN,eC,n1,n2⟩:=TL.ahX eo hu hot warm k;have bk:=jP hot warm (({M.reset.bI 1 with C:=D,hole:=some r}:Mo).dE r none ⟨k,d,fl,dq 1 ex,1,M.v.aQ+1,0⟩) k;have mt:=ON hot warm (({M.reset.bI 1 with C:=D,hole:=some r}:Mo).dE r none ⟨k,d,fl,dq 1 ex,1,M.v.aQ+1,0⟩) k;have z0:Mt0 (({M.reset.bI 1 with C:=D,hole:=some r}:Mo).dE r none ⟨k,d,fl,dq 1 ex,1,M.v.aQ+1,0⟩):=⟨rfl,rfl,rfl⟩;obtain⟨t1,t2,t3⟩:=qd T.i.k cQ hD;have eC:_=D:=eC;refine⟨_,by rw[jE,show({M.reset.bI 1 with C:=D,hole:=some r}:Mo).k.now=1 from e1];rfl,TN,⟨n1,n2⟩,mt.z z0,⟨bk.aQ,bk.p,bk.c⟩,λz=> ?_,by rw[eC];exact t1,λd hd=>by rw[eC];exact t2 d hd, ?_⟩
  ·rw[GN.s.s TL.i.p z,U.s z,G1.s.s T.i.p z]
   rw[vw0 rfl]
  rw[eC];rcases t3 with⟨_,a,b,_⟩|⟨a,b,d⟩
  ·exact .inl ⟨a,b⟩
  have:=vt T.i.k cQ a;rw[<-fA]at this;exact .inr ⟨this,b,d⟩
theorem Th.delB (T:Th n e M)(eo:M.m.on=false)(hu:M.m.un= [0,0]){k:FI}{w:I3}{c:Nat}(hk:du k=true)(hs:M.gd k=some (w,c))(hot warm:Nat):
  ∃N,M.dO hot warm (Qa k)=(.k 5,N)/\Th n e N/\(N.m.on=false/\N.m.un= [0,0])/\(N.v.aQ=M.v.aQ/\N.v.p=M.v.p/\N.v.c=M.v.c)/\(∀z,N.gd z=if z=k then none else M.gd z)/\(N.C.rw c).ct+1=(M.C.rw c).ct/\(∀d,d≠c->N.C.rw d=M.C.rw d)/\(∀d,(N.C.rw d).bA=(M.C.rw d).bA)/\N.C.spare=M.C.spare:=by
 obtain⟨p,hp,WH,hw,hv⟩:=(ni T.i.p).1 hs;have cQ:M.C.cl p=c:=congrArg Prod.snd hv;have hf:M.find k=some p:=(iQ T.i.p).2 ⟨hp,WH⟩;obtain⟨T1,G1⟩:=T.m1 0;have hm:M.reset.meet k=(some p,M.reset.bI 0):=by
  unfold Mo.meet;rw[show M.reset.find k=some p from hf];dsimp only;rw[if_neg (by show¬M.bF p≠0;rw[hw];decide)]
 have hd:M.reset.fC (Qa k)=(.k 5,(M.reset.bI 0).bw p):=by
  unfold Mo.fC;rw[if_neg (by show¬((1:Int)<=11/\(11:Int)<=4);decide),if_neg (by show¬((11:Int)=12\/(11:Int)=13);decide),if_neg (by show¬(11:Int)=14;decide),if_pos (show(Qa k).aC=11 from rfl)];show M.reset.delete k=_;unfold Mo.delete;rw[hm]
 have ux:(M.reset.bI 0).has p:=hp;have TL:=T1.bw ux;have U:=T1.i.tI ux;rw[show((M.reset.bI 0).it p).key=k from WH]at U;obtain⟨TN,GN,eC,n1,n2⟩:=TL.ahX eo hu hot warm k;have bk:=jP hot warm ((M.reset.bI 0).bw p) k;have eC:_=M.C.aL p:=eC;obtain⟨g1,g2,g3,_⟩:=qn T.i.k ((T.i.lv p).2 (.inl hp));rw[cQ]at g1 g2;refine⟨_, ?_,TN,⟨n1,n2⟩,⟨bk.aQ,bk.p,bk.c⟩,λz=> ?_,by rw[eC];exact g1,λd hd=>by rw[eC];exact g2 d hd,λd=>by rw[eC];exact g3 d,by rw[eC];rfl⟩
 ·unfold Mo.dO
  rw[if_neg (by rw[show Qa k=⟨11,[k],0,0,0,0,[],false,false,[]⟩from rfl,ahY (.inr rfl) hk (by decide)];decide),if_neg (by show¬bW 11=0;decide),hd];rfl
 rw[GN.s.s TL.i.p z,U.s z,G1.s.s T.i.p z]
theorem Th.drop (T:Th n e M)(Rw:LJ M)(Wj:1<=(M.C.rw 1).ct)(hD:M.C.ca 1=none):∃Z r D p,M.lG 1 none=(some r,{Z with C:=D,hole:=some r})/\Z.C.ca 1=some (r,D)/\Th n e Z/\M.has p/\M.C.cl p=1/\(∀z,Z.gd z=if z=(M.it p).key then none else M.gd z)/\
  (Z.m.on=M.m.on/\Z.m.pg=M.m.pg/\Z.m.st=M.m.st/\Z.m.un= [0,M.m.st+64])/\(Z.v.aQ=M.v.aQ/\Z.v.p=M.v.p/\Z.v.c=M.v.c/\Z.k=M.k)/\(∀q,Z.has q->M.has q/\(Z.it q).key=(M.it q).key)/\D.rw 0=M.C.rw 0/\(D.rw 1).ct=(M.C.rw 1).ct/\D.spare=M.C.spare/\(M.m.on=true->D.pg M.m.pg=M.C.pg M.m.pg):=by
 have cQ:1<M.C.ae.length:=by rw[T.DA.2.2];decide
 obtain⟨q0,q1,ql⟩:=T.DA;obtain⟨u,hu⟩:=T.un;obtain⟨⟨v,dd,kk⟩,WH⟩:∃x,M.pick 1 none=x:=⟨_,rfl⟩;cases v with
 |none=>
  obtain⟨_,h3,_⟩:=Uf WH;rcases XF T.i Rw T.h cQ (h3 rfl).2 with g|⟨_,p,g,_⟩
  ·omega
  cases g
 |some p=>
  obtain⟨m1,_,m3⟩:=Ug WH;obtain⟨xw,K8⟩:=(Rw 1 p).1 m1;have hdd:dd=false:=by
   rw[<-m3];exact decide_eq_false (by rw[T.al xw];decide)
  subst hdd;obtain⟨X,hX⟩:∃X,X=M.aN {M.v.mt with lo:=cM (M.v.mt.lo+(kk:Int))}:=⟨_,rfl⟩;obtain⟨Y,hY⟩:∃Y,Y=(X.cF 1).aN {(X.cF 1).v.mt with dr:=cM ((X.cF 1).v.mt.dr+1)}:=⟨_,rfl⟩;have GX:la M X:=by rw[hX];exact T.i.vM _
  have GY:la M Y:=by
   rw[hY];have b:=GX.i.MQ 1;exact(GX.trans b).trans (b.i.vM _)
  have hdr:M.iy 1 none=Y.last 1 p:=by
   unfold Mo.iy;rw[WH];dsimp only;rw[<-hX];unfold Mo.Aw;rw[<-hY]
  have yC:Y.C=M.C:=by rw[hY,hX];rfl
  have yh:Y.hole=none:=by rw[hY,hX];exact T.h
  have ym:Y.m=M.m.jr 1:=by rw[hY,hX];rfl
  have yv:Y.v.aQ=M.v.aQ/\Y.v.p=M.v.p/\Y.v.c=M.v.c/\Y.k=M.k/\Y.it=M.it/\Y.Q=M.Q:=by rw[hY,hX];exact⟨rfl,rfl,rfl,rfl,rfl,rfl⟩
  have yu:Y.m.un= [0,M.m.st+64]:=by
   rw[ym];show M.m.un.set 1 (M.m.st+64)=_;rw[hu];rfl
  have ho:Y.m.on=true->Y.m.fr=0/\(Y.C.pg Y.m.pg).held<=28/\2<=(Y.C.rw 0).bA/\Y.C.spare=0:=by rw[ym,yC];exact T.on
  clear hX hY GX
  have TY:Th n e Y:=⟨GY.i,yh,by rw[yC];exact T.z,by rw[yC];exact T.ps,by rw[yC];exact T.nn,yv.2.2.2.1.trans T.k,T.e0,λq hq=>by obtain⟨p,a,b⟩:=GY.s.d q hq;rw[b];exact T.it p a,⟨_,yu⟩,ho⟩;have hpY:Y.has p:=by unfold Mo.has;rw[yv.2.2.2.2.2];exact xw
  have TZ:=TY.bw hpY;have U0:=TY.i.tI hpY;have L:=(T.i.lv p).2 (.inl xw);have jC:(M.C.pg (M.C.pn p)).lv=false:=by
   cases g:(M.C.pg (M.C.pn p)).lv with
   |false=>rfl
   |true=>
    obtain⟨g1,g2⟩:=T.i.go _ g;have h3:=(T.i.on g1).2.2.2;rw[(T.on g1).1,<-g2]at h3;unfold Cs.cl at K8;rw[h3]at K8;cases K8
  obtain⟨g1,g2,g3,g4,g5,g6⟩:=qn T.i.k L;have gt:=MR T.i.k L jC;have g6:=g6 jC;rw[K8]at g1 g2 g6 gt;have zC:(Y.bw p).C=M.C.aL p:=by show Y.C.aL p=_;rw[yC]
  have zm:(Y.bw p).m=Y.m:=rfl;have zv:(Y.bw p).v.aQ=Y.v.aQ/\(Y.bw p).v.p=Y.v.p/\(Y.bw p).v.c=Y.v.c/\(Y.bw p).k=Y.k:=⟨rfl,rfl,rfl,rfl⟩;have zh:∀q,(Y.bw p).has q->M.has q/\((Y.bw p).it q).key=(M.it q).key:=λq hq=>by
   have h3:=((iY TY.i.p).1 hq).1;unfold Mo.has at h3;rw[yv.2.2.2.2.2]at h3;refine⟨h3, ?_⟩;show(Y.it q).key=_;rw[yv.2.2.2.2.1]
  have zs:∀z,(Y.bw p).gd z=if z=(M.it p).key then none else M.gd z:=λz=>by
   rw[U0.s z,GY.s.s T.i.p z,yv.2.2.2.2.1]
  have vK:Y.last 1 p=match(Y.bw p).take 1 with|some (r,N)=>(some r,N)|none=>(none,Y.bw p):=rfl
  generalize Y.bw p=Z at*;cases hE:(M.C.aL p).ca 1 with
  |none=>exact absurd hE gt
  |some x=>
   obtain⟨r,D⟩:=x;have hD2:Z.C.ca 1=some (r,D):=by rw[zC];exact hE
   obtain⟨t1,t2,t3⟩:=qd TZ.i.k (by rw[TZ.DA.2.2];decide) hD2;rw[zC]at t1 t2 t3;refine⟨Z,r,D,p, ?_,hD2,TZ,xw,K8,zs,⟨by rw[zm,ym];rfl,by rw[zm,ym];rfl,by rw[zm,ym];rfl,by rw[zm];exact yu⟩,⟨zv.1.trans yv.1,zv.2.1.trans yv.2.1,zv.2.2.1.trans yv.2.2.1,zv.2.2.2.trans yv.2.2.2.1⟩,zh,(t2 0 (by decide)).trans (g2 0 (by decide)),by omega, ?_,λeo=> ?_⟩
   ·unfold Mo.lG
    rw[show M.take 1=none by unfold Mo.take;rw[hD]];dsimp only;rw[if_neg (λh=>by
     have h3:=(T.on h.1).1;have h4:=h.2;omega),hdr,vK]
    unfold Mo.take;rw[hD2]
   ·rcases t3 with⟨_,_,a,_⟩|⟨a,_⟩
    ·exact a
    exact absurd a g6
   have h3:=(TZ.Hi (by decide) hD2 (by rw[zm,ym];exact eo) rfl).1;rw[zm,ym,zC]at h3;refine h3.trans (g5 _ λh4=> ?_);have h5:=(T.i.on eo).2.2.1;rw[show M.m.pg=M.C.pn p from h4,jC]at h5;cases h5
theorem Th.setD (T:Th n e M)(Rw:LJ M)(ht:(M.C.rw 0).ct<=56)(WI:1<=(M.C.rw 0).bA)(Wj:1<=(M.C.rw 1).ct)(hp:1<=M.v.p.m){k d:FI}{fl:Nat}(hc:64<58+k.length+d.length/\58+k.length+d.length<=128)(hk:du k=true)(mP:fl<=4294967295)
  (wI:((58+k.length+d.length:Nat):Int)<=M.v.c.lim) (hf:M.find k=none) (hot warm:Nat):
  ∃N,M.dO hot warm (BE k d fl 0)=(.k 1,N)/\Th n e N/\(N.C.rw 0).ct=(M.C.rw 0).ct/\1<=(N.C.rw 0).bA/\1<=(N.C.rw 1).ct/\(nQ n N+1<=nQ n M\/nQ n N<=0)/\(N.v.p=M.v.p/\N.v.c=M.v.c)/\
   ∃v:Option FI,(∀y,v=some y->∃w,M.gd y=some (w,1))/\∀z,N.gd z=if z=k then some (⟨k,d,fl,0,1,M.v.aQ+1,0⟩,1)else if v=some z then none else M.gd z:=by
 have cQ:1<M.C.ae.length:=by rw[T.DA.2.2];decide
 obtain⟨q0,q1,ql⟩:=T.DA;have fA:=T.stay (c:=1) (by decide);rw[if_neg (λh=>by cases h.2),ajV]at fA;obtain⟨T1,G1⟩:=T.m1 1;have e1:M.k.now=1:=by rw[T.k]
 have ex0:dq 1 0=0:=rfl;have hnk:∀q,(M.reset.bI 1).has q->((M.reset.bI 1).it q).key≠k:=p7 T.i.p hf;obtain⟨u,hu⟩:=T.un;have hsum:=T.sum;have sQ:=T.fit;have ahA:∀L:Mo,L.C.rw 0=M.C.rw 0->(M.m.on=true->L.C.pg M.m.pg=M.C.pg M.m.pg)->L.m.on=M.m.on->L.m.pg=M.m.pg->nQ n L+((L.C.rw 1).ct:Int)=nQ n M+((M.C.rw 1).ct:Int):=λL h1 h2 h3 h4=>by
  have e2:(if M.m.on=true then 29-((L.C.pg M.m.pg).held:Int)else 0)=(if M.m.on=true then 29-((M.C.pg M.m.pg).held:Int)else 0):=by
   split
   ·next ho=>rw[h2 ho]
   rfl
  unfold nQ;rw[h1,h3,h4,e2];omega
 cases hD:M.C.ca 1 with
 |some x=>
  obtain⟨r,D⟩:=x;have hr:(M.reset.bI 1).room (58+k.length+d.length) none=(some r,{M.reset.bI 1 with C:=D,hole:=some r}):=by
   rw[T1.cls (.inr ⟨rfl,hc⟩)];unfold Mo.lG Mo.take;rw[show(M.reset.bI 1).C.ca 1=some (r,D)from hD]
  have jE:=HO (hot:=hot) (warm:=warm) (ex:=0) hk mP wI hf hr;obtain⟨TL,U⟩:=T1.had (by decide) hD (λ_=>rfl) ⟨k,d,fl,dq M.k.now 0,M.k.now,M.v.aQ+1,0⟩ (by rw[e1];exact⟨ex0,aj2 _ _⟩) hnk;rw[show({M.reset.bI 1 with C:=D,hole:=some r}:Mo).k.now=M.k.now from rfl,show({M.reset.bI 1 with C:=D,hole:=some r}:Mo).v.aQ=M.v.aQ from rfl]at jE;obtain⟨t1,t2,t3⟩:=qd T.i.k cQ hD;have t20:=t2 0 (by decide);have lC:(({M.reset.bI 1 with C:=D,hole:=some r}:Mo).dE r none ⟨k,d,fl,dq M.k.now 0,M.k.now,M.v.aQ+1,0⟩).C=D:=rfl;have lm:(({M.reset.bI 1 with C:=D,hole:=some r}:Mo).dE r none ⟨k,d,fl,dq M.k.now 0,M.k.now,M.v.aQ+1,0⟩).m=M.m:=rfl;have lv:(({M.reset.bI 1 with C:=D,hole:=some r}:Mo).dE r none ⟨k,d,fl,dq M.k.now 0,M.k.now,M.v.aQ+1,0⟩).v.p=M.v.p/\(({M.reset.bI 1 with C:=D,hole:=some r}:Mo).dE r none ⟨k,d,fl,dq M.k.now 0,M.k.now,M.v.aQ+1,0⟩).v.c=M.v.c:=⟨rfl,rfl⟩;generalize ({M.reset.bI 1 with C:=D,hole:=some r}:Mo).dE r none ⟨k,d,fl,dq M.k.now 0,M.k.now,M.v.aQ+1,0⟩=L at*;rw[e1,ex0,vw0 rfl]at U;have hph:=ahA L (by rw[lC];exact t20) (λho=>by rw[lC];exact(T.Hi (by decide) hD ho rfl).1) (by rw[lm]) (by rw[lm]);rw[lC]at hph;obtain⟨V,_⟩:=TL.ahW (by rw[lC,t20];exact ht) (by rw[lv.1];exact hp) (u:=u) (by rw[lm];exact hu) hot warm k;have bk:=jP hot warm L k;have v3:=V.t0;have v4:=V.t1;have v2:=V.ph;rw[lC]at v3 v4;refine⟨_,jE,V.t,by rw[v3,t20],V.p0 (by rw[lC,t20];exact WI),by omega, .inl (by omega),⟨bk.p.trans lv.1,bk.c.trans lv.2⟩,none,(λy h=>by cases h),λz=> ?_⟩;rw[V.g.s.s TL.i.p z,U.s z,G1.s.s T.i.p z,if_neg (c:=none=some z) (by simp)]
 |none=>
  obtain⟨h1,h2⟩:=AE T.i.k cQ hD;rw[<-fA,q1]at h1;obtain⟨Z,r,D,p,o8,hD2,TZ,xw,K8,zs,⟨m1,m2,m3,m4⟩,⟨w1,w2,w3,w4⟩,zh,d0,d1,dsp,dpg⟩:=T1.drop Rw Wj hD;have hr:(M.reset.bI 1).room (58+k.length+d.length) none=(some r,{Z with C:=D,hole:=some r}):=by
   rw[T1.cls (.inr ⟨rfl,hc⟩),o8]
  have jE:=HO (hot:=hot) (warm:=warm) (ex:=0) hk mP wI hf hr;have w4:Z.k=M.k:=w4;have w1:Z.v.aQ=M.v.aQ:=w1;obtain⟨TL,U⟩:=TZ.had (by decide) hD2 (λ_=>rfl) ⟨k,d,fl,dq M.k.now 0,Z.k.now,Z.v.aQ+1,0⟩ (by rw[e1];exact⟨ex0,aj2 _ _⟩) (λq hq=>by rw[(zh q hq).2];exact hnk q (zh q hq).1);rw[show({Z with C:=D,hole:=some r}:Mo).k.now=Z.k.now from rfl,show({Z with C:=D,hole:=some r}:Mo).v.aQ=Z.v.aQ from rfl]at jE;have lC:(({Z with C:=D,hole:=some r}:Mo).dE r none ⟨k,d,fl,dq M.k.now 0,Z.k.now,Z.v.aQ+1,0⟩).C=D:=rfl;have lm:(({Z with C:=D,hole:=some r}:Mo).dE r none ⟨k,d,fl,dq M.k.now 0,Z.k.now,Z.v.aQ+1,0⟩).m=Z.m:=rfl;have lv:(({Z with C:=D,hole:=some r}:Mo).dE r none ⟨k,d,fl,dq M.k.now 0,Z.k.now,Z.v.aQ+1,0⟩).v.p=Z.v.p/\(({Z with C:=D,hole:=some r}:Mo).dE r none ⟨k,d,fl,dq M.k.now 0,Z.k.now,Z.v.aQ+1,0⟩).v.c=Z.v.c:=⟨rfl,rfl⟩;generalize ({Z with C:=D,hole:=some r}:Mo).dE r none ⟨k,d,fl,dq M.k.now 0,Z.k.now,Z.v.aQ+1,0⟩=L at*;rw[w4,w1,e1,ex0,vw0 rfl]at U;have w2:Z.v.p=M.v.p:=w2;have w3:Z.v.c=M.v.c:=w3;have m1:Z.m.on=M.m.on:=m1;have m2:Z.m.pg=M.m.pg:=m2;have m3:Z.m.st=M.m.st:=m3;have m4:Z.m.un= [0,M.m.st+64]:=m4;have d0:D.rw 0=M.C.rw 0:=d0;have d1:(D.rw 1).ct=(M.C.rw 1).ct:=d1;have dsp:D.spare=M.C.spare:=dsp;have hph:=ahA L (by rw[lC];exact d0) (by rw[lC];exact dpg) (by rw[lm,m1]) (by rw[lm,m2]);rw[lC]at hph;obtain⟨V,hV⟩:=TL.ahW (by rw[lC,d0];exact ht) (by rw[lv.1,w2];exact hp) (u:=M.m.st+64) (by rw[lm];exact m4) hot warm k;have bk:=jP hot warm L k;have v3:=V.t0;have v4:=V.t1;have v2:=V.ph;rw[lC]at v3 v4;refine⟨_,jE,V.t,by rw[v3,d0],V.p0 (by rw[lC,d0];exact WI),by omega, ?_,⟨(bk.p.trans lv.1).trans w2,(bk.c.trans lv.2).trans w3⟩,some (M.it p).key,λy h=> ?_,λz=> ?_⟩
  ·rcases Nat.lt_or_ge (M.C.rw 0).bA 2 with g|g
   ·refine .inr ?_
    have eo:¬M.m.on=true:=λho=>by have:=(T.on ho).2.2.1;omega
    have ep2:nQ n M=32*((n:Int)-1)+30*(((M.C.rw 0).bA:Int)-1)-((M.C.rw 1).ct:Int)-0:=by unfold nQ;rw[if_neg eo]
    omega
   refine .inl ?_;have:=hV (.inr ⟨by rw[lC];omega,by rw[lm,m3];omega,by rw[lC,d0];exact g⟩);omega
  ·cases h
   have xw:M.has p:=xw;refine⟨(M.it p).vw, ?_⟩;rw[tq T.i.p xw,if_pos (T.al xw)];exact congrArg some (Prod.ext rfl K8)
  rw[V.g.s.s TL.i.p z,U.s z,zs z,G1.s.s T.i.p z];simp only[Option.some.injEq,eq_comm (a:=z)];rfl
end Go.Proofs.YtcbcjolpdljbiaaGreat
namespace Go.Proofs.YtcbcjolpdljbiaaGreat
open Go Go.dC Go.Proofs.YtcbcjolpdljbiaaGreat.Cs
def dR (w:FI)(i:Nat):FI:=w++dH i
def ahu (l:FI):Nat:=l.foldl (λa c=>a*10+(c.toNat-48)) 0
theorem tR (n:Nat):ahu (dH n)=n/\(dH n).all okB=true/\1<=(dH n).length:=by
 have dg:∀d,d<10->(abP (48+d)).toNat=48+d:=λd h=>by simp;omega
 have ok:∀d,d<10->okB (abP (48+d))=true:=λd h=>by
  unfold okB;rw[dg d h];exact decide_eq_true ⟨by omega,by omega⟩
 induction n using Nat.strongRecOn with
 |_ n ih=>
  by_cases g:n<10
  ·rw[tE g]
   refine⟨?_, ?_,aam _⟩
   ·show 0*10+((abP (48+n)).toNat-48)=n
    rw[dg n g];omega
   rw[aj9,ok n g];rfl
  obtain⟨h1,h2,h3⟩:=ih (n/10) (by omega);rw[xl g];refine⟨?_, ?_, ?_⟩
  ·unfold ahu at*
   rw[List.foldl_append,h1];show n/10*10+((abP (48+n % 10)).toNat-48)=n;rw[dg _ (by omega)];omega
  ·rw[akJ,h2,aj9,ok _ (by omega)];rfl
  rw[List.length_append];omega
theorem VM{i j:Nat}(h:dH i=dH j):i=j:=by rw[<-(tR i).1,h,(tR j).1]
theorem ot{c:UInt8}(hc:okB c=true){i:Nat}(hi:i<1000):du (dR [c] i)=true/\2<=(dR [c] i).length/\(dR [c] i).length<=4:=by
 obtain⟨_,h2,h3⟩:=tR i;have h4:=tX 3 i (by omega);have hl:(dR [c] i).length=(dH i).length+1:=by unfold dR;simp
 refine⟨?_,by omega,by omega⟩;unfold du;rw[decide_eq_true (show 1<=(dR [c] i).length/\(dR [c] i).length<=250 by omega)];rw[Bool.true_and];unfold dR;rw[akJ,h2,aj9,hc];rfl
theorem qk{c:UInt8}{i j:Nat}:dR [c] i=dR [c] j↔i=j:=⟨λh=>VM (List.append_cancel_left h),λh=>by rw[h]⟩
theorem CU{i j:Nat}:dR [97] i≠dR [98] j:=λh=>by
 have h2:(97:UInt8)::dH i=98::dH j:=h;simp at h2
theorem Rh{c:UInt8}{i:Nat}:dR [c] i≠ [98]:=λh=>by
 have h3:=(tR i).2.2;have h2:=congrArg List.length h;unfold dR at h2;simp at h2;rw[h2]at h3;cases h3
def cT (n:Nat):ra:=⟨4096,n,200,64,128,30,30⟩
theorem tZ (n:Nat):fk (cT n)= [64,128]:=by
 show xr (akN 200) ((akN 128+7)/8*8) 62 (akN 64)= [64,128];decide+kernel
theorem SG{n:Nat}(h:2<=n)(h9:n<=9):pB (cT n)=0:=by
 have r:pY (cT n)=true:=by
  unfold pY cT;dsimp only;exact decide_eq_true ⟨by decide,by decide,by decide,by omega,by omega,by decide,by decide,by decide,by decide,by decide,by decide,by decide⟩
 unfold pB;rw[if_pos r,tZ,if_neg (by decide),if_neg (by show¬(n:Int)<2;omega)]
def jk (p:pD):pD:=if(DR p).m=0 then{DR p with m:=1}else DR p
theorem CO (p:pD):xO (jk p)/\1<=(jk p).m:=by
 have h:=Yp p;unfold jk;split
 ·exact⟨⟨h.b,h.l,h.c,show(0:Int)<=1/\(1:Int)<=1048576 by decide⟩,show(1:Int)<=1 by decide⟩
 next g=>exact⟨h,by have:=h.m;omega⟩
theorem afB{n:Nat}(h:2<=n)(h9:n<=9)(p:pD):rQ (cT n) (jk p)=0:=by
 have P:=(CO p).1;unfold rQ;rw[if_pos (SG h h9),if_pos (show 1<=(cT n).hot/\1<=(cT n).warm/\(cT n).hot+(cT n).warm<=90 from(by decide:(1:Int)<=30/\(1:Int)<=30/\(30:Int)+30<=90)),if_pos];exact decide_eq_true ⟨P.b,P.l,P.c,P.m⟩
def BI (b:Bool):Nat:=if b=true then 100 else 0
def PW (b:Bool):Nat:=if b=true then 101 else 0
variable {n:Nat} {b:Bool} {pc:pD} {M N:Mo}
theorem Th.p7{e:Nat}(T:Th n e M){k:FI}(h:M.gd k=none):M.find k=none:=by
 cases hf:M.find k with
 |none=>rfl
 |some p=>
  obtain⟨h1,h2⟩:=(iQ T.i.p).1 hf;rw[<-h2,tq T.i.p h1,if_pos (T.al h1)]at h;cases h
theorem ED (h:2<=n)(h9:n<=9)(p:pD):Th n (PW b) (dU (cT n) (jk p) ⟨1,0,0⟩):=by
 have O:=CR (SG h h9) (jk p) ⟨1,0,0⟩ ⟨aam _,by decide,by decide,λh=>absurd rfl h,by decide⟩ 0;refine⟨O.mi,rfl,tZ n,rfl,rfl,rfl,by cases b<;>decide,λp hp=>(w8 hp).elim,⟨0, ?_⟩,(λh=>by cases h)⟩;show aae (fk (cT n)).length 0=_;rw[tZ];rfl
structure PhB (n:Nat)(b:Bool)(pc:pD)(i:Nat)(M:Mo):Prop where
 t:Th n (PW b) M
 p:M.v.p=pc
 c:M.v.c=cT n
 on:M.m.on=false/\M.m.un= [0,0]
 t0:(M.C.rw 0).ct=i
 p0:64*(M.C.rw 0).bA<i+64
 r1:(M.C.rw 1).ct=1/\(M.C.rw 1).bA=1
 aQ:M.v.aQ=i+1
 ka:∀j,M.gd (dR [97] j)=if j<i then some (⟨dR [97] j,[],j,PW b,1,j+2,0⟩,0)else none
 kb:∀j,M.gd (dR [98] j)=none
theorem KA (b:Bool):dq 1 (BI b:Int)=PW b:=by cases b<;>rfl
theorem Mz (h:2<=n)(h9:n<=9)(p:pD)(hot warm:Nat):∃N,(dU (cT n) (jk p) ⟨1,0,0⟩).dO hot warm (BE [98] (aae 40 0) 0 0)=(.k 1,N)/\PhB n b (jk p) 0 N:=by
 have T:=ED (b:=b) h h9 p;have hs:∀k,(dU (cT n) (jk p) ⟨1,0,0⟩).gd k=none:=λk=>wW λq hq=>(w8 hq).elim;have Gj:(dU (cT n) (jk p) ⟨1,0,0⟩).C.spare=n:=rfl;have hrw:∀c,(dU (cT n) (jk p) ⟨1,0,0⟩).C.rw c=⟨[],0,0,0⟩:=λc=>by
  show(aae (fk (cT n)).length (⟨[],0,0,0⟩:Rw)).getD c ⟨[],0,0,0⟩=_;rw[List.getD_eq_getElem?_getD,List.getElem?_replicate];split<;>rfl
 have hl:(dU (cT n) (jk p) ⟨1,0,0⟩).v.c.lim=128:=rfl;have Z3:(dU (cT n) (jk p) ⟨1,0,0⟩).m.un= [0,0]:=by
  show aae (fk (cT n)).length 0=_;rw[tZ];rfl
 have hv:(dU (cT n) (jk p) ⟨1,0,0⟩).v.p=jk p/\(dU (cT n) (jk p) ⟨1,0,0⟩).v.c=cT n/\(dU (cT n) (jk p) ⟨1,0,0⟩).v.aQ=0:=⟨rfl,rfl,rfl⟩;have eo:(dU (cT n) (jk p) ⟨1,0,0⟩).m.on=false:=rfl;generalize dU (cT n) (jk p) ⟨1,0,0⟩=M at*;obtain⟨N,h1,TN,h2,_,h3,h4,h5,h6,h7⟩:=T.ahl eo Z3 (k:= [98]) (d:=aae 40 0) (fl:=0) (c:=1) (ex:=0) (.inr (by simp)) (by decide) (by decide) (by rw[hl];simp) (by rfl) (T.p7 (hs _)) (.inl (by omega)) hot warm;have r1:=TN.fit.2;rw[hrw]at h5 h7;have r0:=h6 0 (by decide);rw[hrw]at r0;refine⟨N,h1,TN,h3.2.1.trans hv.1,h3.2.2.trans hv.2.1,h2,by rw[r0],by rw[r0];decide,⟨h5, ?_⟩,by rw[h3.1,hv.2.2],λj=> ?_,λj=> ?_⟩
 ·rcases h7 with⟨a,_⟩|⟨_,a,_⟩
  ·have a:(N.C.rw 1).bA=0:=a
   have h5:(N.C.rw 1).ct=0+1:=h5;omega
  exact a
 ·rw[h4,if_neg Rh,hs,if_neg (Nat.not_lt_zero _)]
 rw[h4,if_neg Rh,hs]
theorem PhB.step{i:Nat}(P:PhB n b pc i M)(h:2<=n)(h9:n<=9)(hi:i<64*(n-1))(hot warm:Nat):∃N,M.dO hot warm (BE (dR [97] i) [] i (BI b))=(.k 1,N)/\PhB n b pc (i+1) N/\Mt0 N:=by
 obtain⟨k1,k2,k3⟩:=ot (c:=97) (by decide) (show i<1000 by omega);obtain⟨q0,q1,ql⟩:=P.t.DA;have hs:=P.t.sum;have hf:=P.t.fit;have WI:=P.p0;have r11:=P.r1.1;have r12:=P.r1.2;have t0:=P.t0;obtain⟨N,h1,TN,h2,mt,h3,h4,h5,h6,h7⟩:=P.t.ahl P.on.1 P.on.2 (k:=dR [97] i) (d:= []) (fl:=i) (c:=0) (ex:=(BI b:Int)) (.inl ⟨rfl,by rw[akG];omega⟩) k1 (by omega) (by rw[P.c];show((58+(dR [97] i).length+([]:FI).length:Nat):Int)<=128;rw[akG];omega) (KA b) (P.t.p7 (by rw[P.ka,if_neg (Nat.lt_irrefl _)])) (by rw[q0];omega) hot warm;rw[q0]at h7;have r1:=h6 1 (by decide);refine⟨N,h1,⟨TN,h3.2.1.trans P.p,h3.2.2.trans P.c,h2,by omega,by rcases h7 with⟨a,_⟩|⟨a,b,_⟩<;>omega,⟨by rw[r1];exact r11,by rw[r1];exact r12⟩,by rw[h3.1,P.aQ],λj=> ?_,λj=> ?_⟩,mt⟩
 ·rw[h4]
  by_cases e:j=i
  ·rw[if_pos (qk.2 e),if_pos (by omega),e,P.aQ,KA]
  rw[if_neg λg=>e (qk.1 g),P.ka];by_cases g:j<i
  ·rw[if_pos g,if_pos (by omega)]
  rw[if_neg g,if_neg (by omega)]
 rw[h4,if_neg λg=>CU g.symm,P.kb]
def DZ (kept:Nat):Nat->Nat
 |0=>0
 |i+1=>DZ kept i+if kept<=i % 64 then 1 else 0
theorem Fu{kept:Nat}(hk:kept<=64):∀m:Nat,DZ kept (64*m)+kept*m=64*m
 |0=>rfl
 |m+1=>by
  have ih:=Fu hk m;have h:∀r,r<=64->DZ kept (64*m+r)=DZ kept (64*m)+(r-kept):=λr=>by
   induction r with
   |zero=>intro _;rw[ajV,Nat.zero_sub,ajV]
   |succ r ih=>
    intro h;rw[<-Nat.add_assoc,DZ,ih (by omega)];split<;>omega
  have h2:=h 64 (aam _);rw[show 64*(m+1)=64*m+64 by omega,h2,Nat.mul_succ];omega
structure Wv (n:Nat)(b:Bool)(pc:pD)(kept i:Nat)(M:Mo):Prop where
 t:Th n (PW b) M
 p:M.v.p=pc
 c:M.v.c=cT n
 on:M.m.on=false/\M.m.un= [0,0]
 t0:(M.C.rw 0).ct+DZ kept i=64*(n-1)
 p0:(M.C.rw 0).bA=n-1
 r1:(M.C.rw 1).ct=1/\(M.C.rw 1).bA=1
 ka:∀j,j<64*(n-1)->M.gd (dR [97] j)=if j<i/\kept<=j % 64 then none else some (⟨dR [97] j,[],j,PW b,1,j+2,0⟩,0)
 kb:∀j,M.gd (dR [98] j)=none
theorem PhB.done (P:PhB n b pc (64*(n-1)) M)(kept:Nat):Wv n b pc kept 0 M:=by
 have hf:=P.t.fit;have WI:=P.p0;have t0:=P.t0;refine⟨P.t,P.p,P.c,P.on,by rw[t0];rfl,by omega,P.r1,λj hj=> ?_,P.kb⟩;rw[P.ka,if_pos hj,if_neg (by omega)]
theorem Wv.skip{kept i:Nat}(P:Wv n b pc kept i M)(h:i % 64<kept):Wv n b pc kept (i+1) M:=by
 refine⟨P.t,P.p,P.c,P.on, ?_,P.p0,P.r1,λj hj=> ?_,P.kb⟩
 ·rw[DZ,if_neg (by omega)];exact P.t0
 rw[P.ka j hj];by_cases g:j<i/\kept<=j % 64
 ·rw[if_pos g,if_pos ⟨by omega,g.2⟩]
 rw[if_neg g,if_neg λq=>g ⟨?_,q.2⟩];refine Decidable.byContradiction λu=> ?_;have:j=i:=by omega
 subst this;omega
theorem Wv.step{kept i:Nat}(P:Wv n b pc kept i M)(hi:i<64*(n-1))(h9:n<=9)(h:kept<=i % 64)(hot warm:Nat):∃N,M.dO hot warm (Qa (dR [97] i))=(.k 5,N)/\Wv n b pc kept (i+1) N:=by
 obtain⟨k1,k2,k3⟩:=ot (c:=97) (by decide) (show i<1000 by omega);have hs:=P.ka i hi;rw[if_neg (by omega)]at hs;have t0:=P.t0;obtain⟨N,h1,TN,h2,h3,h4,h5,h6,h7,h8⟩:=P.t.delB P.on.1 P.on.2 k1 hs hot warm;have r1:=h6 1 (by decide);refine⟨N,h1,TN,h3.2.1.trans P.p,h3.2.2.trans P.c,h2, ?_,by rw[h7];exact P.p0,by rw[r1];exact P.r1,λj hj=> ?_,λj=> ?_⟩
 ·rw[DZ,if_pos h]
  omega
 ·rw[h4]
  by_cases e:j=i
  ·rw[if_pos (qk.2 e),if_pos ⟨by omega,by rw[e];exact h⟩]
  rw[if_neg λg=>e (qk.1 g),P.ka j hj];by_cases g:j<i/\kept<=j % 64
  ·rw[if_pos g,if_pos ⟨by omega,g.2⟩]
  rw[if_neg g,if_neg λq=>g ⟨by omega,q.2⟩]
 rw[h4,if_neg λg=>CU g.symm,P.kb]
structure W2 (n:Nat)(b:Bool)(pc:pD)(kept i:Nat)(M:Mo):Prop where
 t:Th n (PW b) M
 p:M.v.p=pc
 c:M.v.c=cT n
 t0:(M.C.rw 0).ct=kept*(n-1)
 p0:1<=(M.C.rw 0).bA
 t1:1<=(M.C.rw 1).ct
 ph:nQ n M<=0\/nQ n M+i<=62*(n:Int)-93
 ka:∀j,j<64*(n-1)->M.gd (dR [97] j)=if kept<=j % 64 then none else some (⟨dR [97] j,[],j,PW b,1,j+2,0⟩,0)
 kb:∀j,i<=j->M.gd (dR [98] j)=none
theorem Wv.done{kept:Nat}(P:Wv n b pc kept (64*(n-1)) M)(h:2<=n)(hk:kept<=7):W2 n b pc kept 0 M:=by
 have hd:=Fu (show kept<=64 by omega) (n-1);have t0:=P.t0;have p0:=P.p0;have t1:=P.r1.1;refine⟨P.t,P.p,P.c,by omega,by omega,by omega, .inr ?_,λj hj=> ?_,λj _=>P.kb j⟩
 ·unfold nQ
  rw[if_neg (by rw[P.on.1];decide),p0,t1];omega
 rw[P.ka j hj];by_cases g:kept<=j % 64
 ·rw[if_pos ⟨hj,g⟩,if_pos g]
 rw[if_neg λq=>g q.2,if_neg g]
theorem C6{kept:Nat}(h:2<=n)(h9:n<=9)(hk:kept<=7):kept*(n-1)<=56:=Nat.mul_le_mul hk (show n-1<=8 by omega)
theorem W2.step{kept i:Nat}(P:W2 n b pc kept i M)(Rw:LJ M)(h:2<=n)(h9:n<=9)(hk:kept<=7)(hi:i<1000)(hp:1<=pc.m)(hot warm:Nat):∃N,M.dO hot warm (BE (dR [98] i) (aae 40 0) 0 0)=(.k 1,N)/\W2 n b pc kept (i+1) N:=by
 obtain⟨k1,k2,k3⟩:=ot (c:=98) (by decide) hi;have hl:(aae 40 (0:UInt8)).length=40:=List.length_replicate;obtain⟨N,h1,TN,h2,h3,h4,h5,h6,v,hv,hs⟩:=P.t.setD Rw (by rw[P.t0];exact C6 h h9 hk) P.p0 P.t1 (by rw[P.p];exact hp) (k:=dR [98] i) (d:=aae 40 0) (fl:=0) (by rw[hl];omega) k1 (by decide) (by rw[P.c,hl];show _<=(128:Int);omega) (P.t.p7 (P.kb i (aam _))) hot warm;have hph:=P.ph;refine⟨N,h1,TN,h6.1.trans P.p,h6.2.trans P.c,h2.trans P.t0,h3,h4,by omega,λj hj=> ?_,λj hj=> ?_⟩
 ·rw[hs,if_neg CU,if_neg,P.ka j hj]
  intro e;obtain⟨w,hw⟩:=hv _ e;rw[P.ka j hj]at hw;split at hw<;>cases hw
 rw[hs,if_neg λg=>by have:=qk.1 g;omega];split
 ·rfl
 exact P.kb j (by omega)
theorem W2.end_{kept:Nat}(P:W2 n b pc kept (60*n+40) M)(h:2<=n)(h9:n<=9):(M.C.rw 0).bA=1/\(M.C.rw 1).bA=n-1/\(M.C.rw 1).ct=32*(n-1)/\M.m.on=false:=by
 have hs:=P.t.sum;have hf:=P.t.fit;have p0:=P.p0;have h0:nQ n M<=0:=by
  rcases P.ph with g|g
  ·exact g
  omega
 unfold nQ at h0;cases eo:M.m.on with
 |true=>
  have:=P.t.on eo;rw[if_pos eo]at h0;omega
 |false=>
  rw[if_neg (by rw[eo];decide)]at h0;exact⟨by omega,by omega,by omega,rfl⟩
end Go.Proofs.YtcbcjolpdljbiaaGreat
namespace Go.Proofs.YtcbcjolpdljbiaaGreat
open Go Go.dC Go.Proofs.YtcbcjolpdljbiaaGreat.Cs
theorem zj:∀(l:FH) {X:Mo},Mi X->X.hole=none->l.Nodup->(∀p∈l,X.has p/\X.bF p≠0/\X.C.cl p≠1)->
  Mi (l.foldl Mo.look X)/\(l.foldl Mo.look X).hole=none/\(l.foldl Mo.look X).k=X.k/\(∀q,(l.foldl Mo.look X).has q->X.has q/\q∉l)/\(∀q,(l.foldl Mo.look X).vw q=X.vw q)/\((l.foldl Mo.look X).C.rw 1).ct=(X.C.rw 1).ct/\(l.foldl Mo.look X).C.ae=X.C.ae
 | [],_,K,hh,_,_=>⟨K,hh,rfl,λq h=>⟨h,List.not_mem_nil⟩,λ_=>rfl,rfl,rfl⟩
 |p::l,X,K,hh,nd,h=>by
  obtain⟨n1,n2⟩:=List.nodup_cons.1 nd;obtain⟨a,b,c⟩:=h p aag;have e:X.look p=X.bw p:=if_pos b;have hs:∀q,(X.bw p).has q↔X.has q/\q≠p:=λq=>iY K.p;have ecl:∀q,(X.bw p).C.cl q=X.C.cl q:=λq=>oz X.C p q;rw[agn,e];obtain⟨i1,i2,i3,i4,i5,i6,i7⟩:=zj l (K.bw a) hh n2 λq hq=>by
   obtain⟨a2,b2,c2⟩:=h q (aai _ hq);exact⟨(hs q).2 ⟨a2,λg=>n1 (g▸hq)⟩,b2,by rw[ecl];exact c2⟩
  have g:=(qn K.k ((K.lv p).2 (.inl a))).2.1 1 (λg=>c g.symm);refine⟨i1,i2,i3,λq hq=> ?_,λq=>(i5 q).trans (congrArg (Prod.mk _) (ecl q)),i6.trans (congrArg Rw.ct g),i7⟩;obtain⟨j1,j2⟩:=i4 q hq;obtain⟨j3,j4⟩:=(hs q).1 j1;exact⟨j3,λg=>(List.mem_cons.1 g).elim j4 j2⟩
theorem Zx{X:Mo}(K:Mi X){now m:Int}{p:Nat}(h:p∈X.iI now m):X.has p/\0<(X.it p).exp:=by
 unfold Mo.iI nY at h;obtain⟨x,hx,rfl⟩:=abF.1 h;obtain⟨y,hy,rfl⟩:=abF.1 hx;have h2:=(abG.1 ((eW _).mem_iff.1 (List.mem_of_mem_take hy))).1;unfold gU at h2;obtain⟨q,hq,rfl⟩:=abF.1 h2;obtain⟨h3,h4⟩:=abG.1 hq;have hs:X.has q:=eR.1 h3;dsimp only;rw[CN K.k ((K.lv q).2 (.inl hs)).toAt];exact⟨hs,of_decide_eq_true h4⟩
theorem Zy{X:Mo}(K:Mi X){now m:Int}(h0:0<X.C.ae.length)(hc:∀p,X.has p->0<(X.it p).exp->X.C.cl p=0)(hl:(X.C.rw 0).ct<=m.toNat){p:Nat}(hp:X.has p)(h1:0<(X.it p).exp)(h2:((X.it p).exp:Int)<=now):p∈X.iI now m:=by
 have nd:(X.Q.flatten.filter λp=>decide (0<(X.it p).exp)).Nodup:=(tD K.q.nd λi j p h g=>K.q.one i j p h g).sublist List.filter_sublist;have le:=CE nd (m:=KX X.C 0) λq hq=>by
  obtain⟨a,b⟩:=abG.1 hq;have hs:X.has q:=eR.1 a;exact(th K.k).2 ⟨(K.lv q).2 (.inl hs),hc q hs (of_decide_eq_true b)⟩
 rw[ti K.k h0]at le;have hE:(gU X.C X X.Q.flatten).length<=m.toNat:=by
  unfold gU;rw[List.length_map];omega
 unfold Mo.iI nY;rw[List.take_of_length_le (by
  rw[(eW _).length_eq];exact ahb (List.length_filter_le _ _) hE)]
 refine abF.2 ⟨X.C.hd p,abF.2 ⟨⟨X.C.hd p,(X.it p).exp,X.ord p⟩,(eW _).mem_iff.2 (abG.2 ⟨?_,decide_eq_true h2⟩),rfl⟩,CN K.k ((K.lv p).2 (.inl hp)).toAt⟩;unfold gU;exact abF.2 ⟨p,abG.2 ⟨eR.2 hp,decide_eq_true h1⟩,rfl⟩
variable {n:Nat} {b:Bool} {pc:pD} {M:Mo}
theorem W2.tick{kept:Nat}(P:W2 n b pc kept (60*n+40) M)(h:2<=n)(h9:n<=9)(hk:kept<=7):M.k.Lj 100=0/\((M.tick 100).C.rw 0).ct=(if b=true then 0 else kept*(n-1))/\((M.tick 100).C.rw 1).ct=32*(n-1)/\(M.tick 100).C.ae= [64,128]:=by
 have T:=P.t;obtain⟨e1,e2,e3,e4⟩:=P.end_ h h9;have ea:M.k.Lj 100=0:=by rw[T.k];rfl
 refine⟨ea, ?_⟩;unfold Mo.tick;rw[if_pos ea];obtain⟨X,hX⟩:∃X,X=(M.fq 100).reset:=⟨_,rfl⟩;rw[<-hX];have hv:(M.fq 100).k=⟨101,0,0⟩:=by
  show M.k.move 100 M.v.aQ=_;rw[T.k];rfl
 have xk:X.k=⟨101,0,0⟩:=by rw[hX];exact hv
 rw[hv];have K:Mi X:=by rw[hX];exact⟨T.i.k,⟨T.i.p.nd,T.i.p.kd⟩,T.i.q,T.i.x,T.i.lv,T.i.ho,T.i.on,T.i.go⟩
 have xC:X.C=M.C:=by rw[hX];rfl
 have xh:X.hole=none:=by rw[hX];exact T.h
 have xi:∀p,X.has p->(X.it p).exp=(if X.C.cl p=0 then PW b else 0)/\1<=(X.it p).tok:=by rw[hX];exact T.it
 show((X.cb 101 64).2.C.rw 0).ct=_/\((X.cb 101 64).2.C.rw 1).ct=_/\(X.cb 101 64).2.C.ae=_;have t0:=P.t0;have z:=T.z;rw[<-xC]at t0 e3 z
 clear hX hv
 have ok:∀p,(X.it p).exp=0->1<=(X.it p).tok->X.bF p=0:=λp h1 h2=>by
  unfold Mo.bF;rw[h1,xk,if_neg (by omega),if_neg (by dsimp only;omega)]
 cases b with
 |false=>
  obtain⟨x,hx⟩:=Fv K (λp hp=>ok p (by rw[(xi p hp).1];split<;>rfl) (xi p hp).2) 101 64;rw[hx];exact⟨by rw[if_neg (by decide)];exact t0,e3,z⟩
 |true=>
  have h1:∀p,X.has p->0<(X.it p).exp->X.C.cl p=0:=λp hp g=>by
   rw[(xi p hp).1]at g;split at g
   ·next e=>exact e
   omega
  unfold Mo.cb;rw[if_neg (by decide)];unfold Mo.oc;dsimp only;obtain⟨d1,_⟩:=K.due 101 (min 64 1048576);obtain⟨i1,i2,i3,i4,i5,i6,i7⟩:=zj _ K xh d1 λp hp=>by
   obtain⟨a,c⟩:=Zx K hp;have e:=h1 p a c;refine⟨a, ?_,by rw[e];decide⟩;unfold Mo.bF;have g:=(xi p a).1;rw[if_pos e]at g;rw[g,xk,if_pos ⟨by decide,by decide⟩];decide
  have gone:∀q,((X.iI 101 (min 64 1048576)).foldl Mo.look X).has q->X.has q/\X.C.cl q≠0:=λq hq=>by
   obtain⟨a,c⟩:=i4 q hq;refine⟨a,λe=>c ?_⟩;have g:=(xi q a).1;rw[if_pos e]at g;exact Zy K (by rw[z];decide) h1 (by have:=C6 h h9 hk;rw[t0];exact ahb this (by decide)) a (by rw[g];decide) (by rw[g];decide)
  generalize (X.iI 101 (min 64 1048576)).foldl Mo.look X=Z at*;have vz:∀q,(Z.it q).vw=(X.it q).vw/\Z.C.cl q=X.C.cl q:=λq=>⟨congrArg Prod.fst (i5 q),congrArg Prod.snd (i5 q)⟩;have al:∀q,Z.has q->Z.bF q=0:=λq hq=>by
   obtain⟨a,c⟩:=gone q hq;have g:=(xi q a).1;rw[if_neg c]at g;rw[uK (M:=X) (N:=Z) i3 (i5 q)];exact ok q g (xi q a).2
  obtain⟨x,hx⟩:=vB ((min 64 1048576:Int).toNat-(X.iI 101 (min 64 1048576)).length) i1 al;rw[hx];refine⟨?_,by rw[<-e3];exact i6,i7.trans z⟩;rw[if_pos rfl];show(Z.C.rw 0).ct=0;rw[<-ti i1.k (by rw[i7,z];decide)];cases hl:KX Z.C 0 with
  |nil=>rfl
  |cons q l=>
   exfalso;obtain⟨L,hc⟩:=(th i1.k).1 (show q∈KX Z.C 0 by rw[hl];exact aag);have hq:=((i1.lv q).1 L).resolve_right (by rw[i2];simp);exact(gone q hq).2 ((vz q).2.symm.trans hc)
end Go.Proofs.YtcbcjolpdljbiaaGreat
