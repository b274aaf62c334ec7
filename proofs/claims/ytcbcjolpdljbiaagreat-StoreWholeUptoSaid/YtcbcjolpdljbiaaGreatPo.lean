/- Part Po of the proof. -/
import Derived.Test.YtcbcjolpdljbiaaGreatPl
import Derived.Test.YtcbcjolpdljbiaaGreatPm
set_option maxRecDepth 100000
open Go.Proofs.YtcbcjolpdljbiaaGreat.T
open List renaming mem_of_find?_eq_some -> afH, find?_some -> aj4, find?_eq_none -> agj, getD_eq_getElem?_getD -> aaP, getElem?_set -> agi, getElem?_eq_none -> aa7, mem_map -> acA, length_map -> adr, mem_of_mem_erase -> agq, mem_of_getElem? -> aaT, getElem?_eq_getElem -> aaQ, length_set -> aaY, nodup_cons -> aa3, getLast?_eq_getElem? -> af5, mem_of_getLast? -> afU, mem_cons_self -> aaV, mem_cons_of_mem -> aaW, mem_filter -> aba, filter_sublist -> afY, map_map -> ajr, findIdx?_eq_some_iff_getElem -> abc, findIdx?_eq_none_iff -> af4, length_append -> aaZ, foldl_cons -> af8, length_cons -> afn, length_singleton -> afV
open Decidable renaming byContradiction -> aa2
open Nat renaming zero_le -> afk, succ_le_succ -> aga, le_refl -> aa0, le_trans -> ai5, le_max_right -> ajJ
open Int renaming tmod_lt_of_pos -> ajw
namespace Go.Proofs.YtcbcjolpdljbiaaGreat
open Go Go.dG Go.Proofs.YtcbcjolpdljbiaaGreat.Cs
def I3.vw (n:I3):I3:={n with ff:=n.ff/2*2}
structure Pl (M:Mo):Prop where
 nd:∀i,(ql M.Q i).Nodup
 kd:∀p q,M.has p->M.has q->(M.it p).key=(M.it q).key->p=q
def Mo.vw (M:Mo)(p:Nat):I3×Nat:=((M.it p).vw,M.C.cl p)
def ON (k:Ck)(x:I3):Nat:=if 0<x.exp/\x.exp<=k.now then 2 else if x.tok<=k.cut then 3 else 0
theorem R9 (M:Mo)(p:Nat):M.cn p=ON M.k (M.it p):=rfl
theorem xw{M N:Mo}(hk:N.k=M.k){p q:Nat}(h:N.vw q=M.vw p):N.cn q=M.cn p:=by
 have h1:(N.it q).exp=(M.it p).exp:=congrArg (λx:I3×Nat=>x.1.exp) h;have h2:(N.it q).tok=(M.it p).tok:=congrArg (λx:I3×Nat=>x.1.tok) h;unfold Mo.cn;rw[h1,h2,hk]
theorem pQ{M N:Mo}{p q:Nat}(h:N.vw q=M.vw p):(N.it q).key=(M.it p).key:=congrArg (λx:I3×Nat=>x.1.key) h
def Mo.ph (M:Mo)(k:List UInt8):Option (I3×Nat):=(M.live k).map M.vw
theorem bL.pl{B:Bx}{M:Mo}(O:bL B M):Pl M:=⟨O.o.nd,λ_ _ hp hq e=>O.kdM hp hq e⟩
theorem kG{M:Mo}(P:Pl M){k:List UInt8}{p:Nat}:M.find k=some p↔M.has p/\(M.it p).key=k:=by
 unfold Mo.find
 constructor
 ·intro h
  exact⟨gw.1 (afH h),by simpa using aj4 h⟩
 rintro⟨hp,hk⟩;cases hf:M.Q.flatten.find? λp=>decide ((M.it p).key=k)with
 |none=>exact absurd (decide_eq_true hk) (agj.1 hf p (gw.2 hp))
 |some q=>
  have h1:M.has q:=gw.1 (afH hf);have h2:(M.it q).key=k:=by simpa using aj4 hf
  rw[P.kd q p h1 hp (h2.trans hk.symm)]
theorem qd{M:Mo}(P:Pl M){k:List UInt8}{i:I3×Nat}:M.ph k=some i↔∃p,M.has p/\(M.it p).key=k/\M.cn p=0/\M.vw p=i:=by
 unfold Mo.ph Mo.live
 constructor
 ·intro h
  cases hf:M.find k with
  |none=>rw[hf]at h;cases h
  |some p=>
   rw[hf]at h;obtain⟨h1,h2⟩:=(kG P).1 hf;by_cases hw:M.cn p=0
   ·simp only[hw,if_true,Option.map_some,Option.some.injEq]at h
    exact⟨p,h1,h2,hw,h⟩
   simp only[hw,if_false]at h;cases h
 rintro⟨p,h1,h2,hw,rfl⟩;rw[(kG P).2 ⟨h1,h2⟩];simp[hw]
structure lQ (M N:Mo):Prop where
 p:Pl N
 k:N.k=M.k
 d:∀q,N.has q->∃p,M.has p/\N.vw q=M.vw p
 u:∀p,M.has p->M.cn p=0->∃q,N.has q/\N.vw q=M.vw p
 z:N.C.ae=M.C.ae
theorem lQ.s{M N:Mo}(S:lQ M N)(P:Pl M)(k:List UInt8):N.ph k=M.ph k:=by
 refine Option.ext λi=> ?_;rw[qd S.p,qd P]
 constructor
 ·rintro⟨q,a,b,c,d⟩
  obtain⟨p,e,f⟩:=S.d q a;exact⟨p,e,(pQ f).symm.trans b,(xw S.k f).symm.trans c,f.symm.trans d⟩
 rintro⟨p,a,b,c,d⟩;obtain⟨q,e,f⟩:=S.u p a c;exact⟨q,e,(pQ f).trans b,(xw S.k f).trans c,f.trans d⟩
theorem lQ.refl{M:Mo}(P:Pl M):lQ M M:=⟨P,rfl,λq h=>⟨q,h,rfl⟩,λq h _=>⟨q,h,rfl⟩,rfl⟩
theorem lQ.trans{M N O:Mo}(a:lQ M N)(b:lQ N O):lQ M O:=by
 refine⟨b.p,b.k.trans a.k,λq h=> ?_,λp h w=> ?_,b.z.trans a.z⟩
 ·obtain⟨r,h1,e1⟩:=b.d q h
  obtain⟨p,h2,e2⟩:=a.d r h1;exact⟨p,h2,e1.trans e2⟩
 obtain⟨r,h1,e1⟩:=a.u p h w;obtain⟨q,h2,e2⟩:=b.u r h1 ((xw a.k e1).trans w);exact⟨q,h2,e2.trans e1⟩
theorem lE{M:Mo}(P:Pl M){p q:Nat}:(∃i,q∈ql (iG M.Q p) i)↔M.has q/\q≠p:=by
 constructor
 ·rintro⟨i,hi⟩
  rw[jq,(P.nd i).mem_erase_iff]at hi;exact⟨⟨i,hi.2⟩,hi.1⟩
 rintro⟨⟨i,hi⟩,h⟩;exact⟨i,by rw[jq,(P.nd i).mem_erase_iff];exact⟨h,hi⟩⟩
theorem Ql{M N:Mo}(P:Pl M){p:Nat}(hQ:N.Q=iG M.Q p)(hi:N.it=M.it):Pl N:=by
 refine⟨λi=> ?_,λa b ha hb e=> ?_⟩
 ·rw[hQ,jq];exact(P.nd i).erase p
 unfold Mo.has at ha hb;rw[hQ]at ha hb;rw[hi]at e;exact P.kd a b ((lE P).1 ha).1 ((lE P).1 hb).1 e
theorem aeR (C:Cs){i c sp:Nat}{x:Pg}{r:Rw}{A:By}(h:x.cl=(C.pg i).cl)(q:Nat):(C.put i x c r sp A).cl q=C.cl q:=by
 unfold Cs.cl Cs.pn;show((C.put i x c r sp A).pg (q/C.aj)).cl=_;unfold Cs.pg Cs.put;dsimp only;rw[aaP,agi,aaP]
 split
 ·next e=>
  split
  ·rw[<-e]
   show x.cl=_;rw[h];unfold Cs.pg;rw[aaP]
  next g=>rw[<-e,aa7 (by omega)]
 rfl
theorem tG (C:Cs)(p q:Nat):(C.bq p).cl q=C.cl q:=by
 unfold Cs.bq;refine aeR C ?_ q;rfl
theorem AR{M:Mo}(P:Pl M){p:Nat}(hd:M.cn p≠0):lQ M (M.ca p):=by
 have e:∀q,(M.ca p).vw q=M.vw q:=λq=>congrArg (Prod.mk _) (tG M.C p q);exact⟨Ql P rfl rfl,rfl,λq h=>⟨q,((lE P).1 h).1,e q⟩,λq h w=>⟨q,(lE P).2 ⟨h,λg=>hd (g▸w)⟩,e q⟩,rfl⟩
theorem u7{M:Mo}(P:Pl M)(p:Nat):lQ M (M.look p):=by
 unfold Mo.look
 split
 ·next h=>exact AR P h
 exact .refl P
theorem eQ{M N:Mo}(P:Pl M)(hQ:N.Q=M.Q)(hi:N.it=M.it)(hk:N.k=M.k)(hc:∀p,M.has p->N.C.cl p=M.C.cl p:=by exact λ_ _=>rfl)(hz:N.C.ae=M.C.ae:=by exact rfl):lQ M N:=by
 have hh:∀p,N.has p↔M.has p:=λp=>by unfold Mo.has;rw[hQ]
 have e:∀q,M.has q->N.vw q=M.vw q:=λq h=>by unfold Mo.vw;rw[hi,hc q h]
 exact⟨⟨λi=>by rw[hQ];exact P.nd i,λa b ha hb e=>by rw[hi]at e;exact P.kd a b ((hh a).1 ha) ((hh b).1 hb) e⟩,hk,λq h=>⟨q,(hh q).1 h,e q ((hh q).1 h)⟩,λq h _=>⟨q,(hh q).2 h,e q h⟩,hz⟩
theorem sJ:∀(l:List Nat) {M:Mo},Pl M->lQ M (l.foldl Mo.look M)
 | [],_,P=> .refl P
 |p::l,M,P=>(u7 P p).trans (sJ l (u7 P p).p)
theorem vU:∀(f:Nat) {M:Mo},Pl M->lQ M (M.cu f).2
 |0,_,P=> .refl P
 |f+1,M,P=>by
  unfold Mo.cu
  split
  ·next x h=>
   split
   ·next p hp=>
    have a:lQ M {M with x:=x.pass M.Q}:=eQ P rfl rfl rfl;have b:=u7 a.p p;exact(a.trans b).trans (vU f b.p)
   exact eQ P rfl rfl rfl
  exact eQ P rfl rfl rfl
theorem Io{M:Mo}(P:Pl M)(now aI:Int):lQ M (M.cN now aI).2:=by
 unfold Mo.cN
 split
 ·exact .refl P
 unfold Mo.so;exact(sJ _ P).trans (vU _ (sJ _ P).p)
theorem JT{M:Mo}{p r:Nat}(hp:M.has p){q:Nat}:(∃i,q∈ql (og M.Q p r) i)↔q=r\/(M.has q/\q≠p):=by
 constructor
 ·rintro⟨i,hi⟩
  rw[lZ,acA]at hi;obtain⟨a,ha,e⟩:=hi;unfold AS at e
  split at e
  ·exact .inl e.symm
  next h=>subst e;exact .inr ⟨⟨i,ha⟩,h⟩
 rintro(rfl|⟨⟨i,hi⟩,h⟩)
 ·obtain⟨i,hi⟩:=hp
  exact⟨i,by rw[lZ,acA];exact⟨p,hi,by unfold AS;rw[if_pos rfl]⟩⟩
 exact⟨i,by rw[lZ,acA];exact⟨q,hi,by unfold AS;rw[if_neg h]⟩⟩
theorem Lb{M:Mo}(P:Pl M){p r:Nat}(hp:M.has p)(hr:¬M.has r)(cR:M.C.cl r=M.C.cl p):lQ M (M.swap p r):=by
 have ne:p≠r:=λe=>hr (e▸hp);have ir:(M.swap p r).it r=M.it p:=if_pos rfl;have io:∀q,q≠r->(M.swap p r).it q=M.it q:=λq h=>if_neg h;have vr:(M.swap p r).vw r=M.vw p:=by unfold Mo.vw;rw[ir];exact congrArg (Prod.mk _) cR
 have vo:∀q,q≠r->(M.swap p r).vw q=M.vw q:=λq h=>by unfold Mo.vw;rw[io q h];rfl
 have hs:∀q,(M.swap p r).has q↔q=r\/(M.has q/\q≠p):=λq=>JT hp;have nr:∀q,M.has q->q≠r:=λq h e=>hr (e▸h);refine⟨⟨λi=> ?_,λa b ha hb e=> ?_⟩,rfl,λq hq=> ?_,λq hq hw=> ?_,rfl⟩
 ·show(ql (og M.Q p r) i).Nodup
  rw[lZ];unfold List.Nodup;rw[List.pairwise_map];refine List.Pairwise.imp_of_mem (λ{x y} hx hy h e=>h ?_) (P.nd i);have Zc:=nr x ⟨i,hx⟩;have yV:=nr y ⟨i,hy⟩;unfold AS at e
  split at e<;>split at e
  ·next h1 h2=>rw[h1,h2]
  ·exact absurd e.symm yV
  ·exact absurd e Zc
  exact e
 ·rcases(hs a).1 ha with rfl|⟨a1,a2⟩<;>rcases(hs b).1 hb with rfl|⟨b1,b2⟩
  ·rfl
  ·rw[ir,io b (nr b b1)]at e
   exact absurd (P.kd p b hp b1 e).symm b2
  ·rw[ir,io a (nr a a1)]at e
   exact absurd (P.kd a p a1 hp e) a2
  rw[io a (nr a a1),io b (nr b b1)]at e;exact P.kd a b a1 b1 e
 ·rcases(hs q).1 hq with rfl|⟨a1,a2⟩
  ·exact⟨p,hp,vr⟩
  exact⟨q,a1,vo q (nr q a1)⟩
 by_cases e:q=p
 ·subst e;exact⟨r,(hs r).2 (.inl rfl),vr⟩
 exact⟨q,(hs q).2 (.inr ⟨hq,e⟩),vo q (nr q hq)⟩
structure Qp (n:Nat)(Q:List (List Nat)):Prop where
 len:Q.length=n*3
 nd:∀i,(ql Q i).Nodup
 one:∀i j p,p∈ql Q i->p∈ql Q j->i=j
theorem Qp.rem{n:Nat}{Q:List (List Nat)}(K:Qp n Q)(p:Nat):Qp n (iG Q p):=by
 refine⟨by unfold iG;rw[adr];exact K.len,λi=>by rw[jq];exact(K.nd i).erase p,λi j q h g=> ?_⟩;rw[jq]at h g;exact K.one i j q (agq h) (agq g)
theorem Qp.acP{n:Nat}{Q:List (List Nat)}(K:Qp n Q){i k p:Nat}(h:(ql Q i)[k]?=some p):Q.set i ((ql Q i).eraseIdx k)=iG Q p:=by
 have hp:p∈ql Q i:=aaT h;have hi:i<Q.length:=by
  refine aa2 λg=> ?_;unfold ql at hp;rw[aaP,aa7 (by omega)]at hp;cases hp
 apply List.ext_getElem?;intro j;by_cases hj:j<Q.length
 ·have e1:Q[j]?=some (ql Q j):=by
   unfold ql;rw[aaP,aaQ hj];rfl
  unfold iG;rw[List.getElem?_map,e1,Option.map_some,agi];by_cases e:i=j
  ·subst e
   rw[if_pos rfl,if_pos hi,Hg (K.nd i) h]
  rw[if_neg e,e1]
  congr 1
  exact(List.erase_of_not_mem λg=>e (K.one i j p hp g)).symm
 rw[aa7 (by rw[aaY];omega),aa7 (by unfold iG;rw[adr];omega)]
structure Mi (M:Mo):Prop where
 k:Ok M.C
 p:Pl M
 q:Qp M.eR M.Q
 x:dh M.eR M.Q M.x
 lv:∀p,Live M.C p↔M.has p\/M.hole=some p
 ho:∀p,M.hole=some p->¬M.has p
 on:M.m.on=true->M.m.pg<M.C.n/\(M.C.pg M.m.pg).own=true/\(M.C.pg M.m.pg).lv=true/\(M.C.pg M.m.pg).cl=M.m.fr
 go:∀i,(M.C.pg i).lv=true->M.m.on=true/\i=M.m.pg
theorem bL.mi{B:Bx}{M:Mo}(O:bL B M):Mi M:=by
 refine⟨O.mc0,O.pl,⟨?_,O.o.nd,λ_ _ _ h g=>Du O.o h g⟩, ?_,λp=> ?_,λp h g=>O.ho p h ((O.al p).2 g),O.Kq.on,λi hi=>O.go i ?_⟩
 ·have:=O.o.len
  rw[O.eR]at this;exact this
 ·have:=O.x
  rw[O.eR]at this;exact this
 ·have h:=O.lv p
  rw[O.al p,O.c]at h;refine Iff.trans ⟨λL=> ?_,λL=> ?_⟩ h
  ·exact L.wA _
  exact⟨⟨L.i,L.own,L.al,L.k⟩,L.tk⟩
 rw[O.c];exact hi
theorem Mi.co{M:Mo}(K:Mi M):rh M:=⟨K.k,K.p.nd,λp hp=>(K.lv p).2 (.inl hp),K.on⟩
theorem Mi.ca{M:Mo}(K:Mi M){p:Nat}(hp:M.has p):Mi (M.ca p):=by
 have L:=(K.lv p).2 (.inl hp);have g:=oH K.k L;have hh:∀q,(M.ca p).has q↔M.has q/\q≠p:=λq=>lE K.p;refine⟨(gY K.k L).1,Ql K.p rfl rfl, ?_, ?_,λq=> ?_,λq h h2=>K.ho q h ((hh q).1 h2).1,λh=> ?_,λi hi=>K.go i ?_⟩
 ·show Qp (M.C.bq p).ae.length (iG M.Q p)
  rw[(gY K.k L).2.ae];exact K.q.rem p
 ·show dh (M.C.bq p).ae.length (iG M.Q p) (M.x.left M.Q p)
  rw[(gY K.k L).2.ae];obtain⟨i,hi⟩:=hp;obtain⟨j,hj,e⟩:=List.getElem_of_mem hi;have hk:(ql M.Q i)[j]?=some p:=by rw[aaQ hj,e]
  have hil:i<M.Q.length:=by
   refine aa2 λg=> ?_;unfold ql at hi;rw[aaP,aa7 (by omega)]at hi;cases hi
  rw[<-K.q.acP hk];exact Cj K.x K.q.nd hil hk
 ·refine(nV K.k L q).trans ?_
  rw[K.lv q,hh q]
  constructor
  ·rintro⟨a|a,b⟩
   ·exact .inl ⟨a,b⟩
   exact .inr a
  rintro(⟨a,b⟩|a)
  ·exact⟨.inl a,b⟩
  exact⟨.inr a,λe=>K.ho q a (e▸hp)⟩
 ·obtain⟨a,b,c,d⟩:=K.on h
  obtain⟨e1,e2,e3⟩:=g M.m.pg;have en:(M.C.bq p).n=M.C.n:=(gY K.k L).2.n;exact⟨by show _<(M.C.bq p).n;rw[en];exact a,e1.trans b,e2.trans c,e3.trans d⟩
 rw[<-(g i).2.1];exact hi
theorem Mi.rf{M N:Mo}(K:Mi M)(hx:dh M.eR M.Q N.x)(hC:N.C=M.C)(hQ:N.Q=M.Q)(hi:N.it=M.it)(hh:N.hole=M.hole)(hk:N.k=M.k)(on:N.m.on=M.m.on)(pg:N.m.pg=M.m.pg)(fr:N.m.fr=M.m.fr):Mi N:=by
 have e:∀p,N.has p↔M.has p:=λp=>by unfold Mo.has;rw[hQ]
 refine⟨by rw[hC];exact K.k,(eQ K.p hQ hi hk (by rw[hC];exact λ_ _=>rfl) (by rw[hC])).p,by unfold Mo.eR;rw[hC,hQ];exact K.q,by unfold Mo.eR;rw[hC,hQ];exact hx,λp=>by rw[hC,hh,e];exact K.lv p,λp h=>by rw[hh]at h;rw[e];exact K.ho p h,by rw[on,pg,fr,hC];exact K.on,by rw[on,pg,hC];exact K.go⟩
theorem Mi.look{M:Mo}(K:Mi M){p:Nat}(hp:M.has p):Mi (M.look p):=by
 unfold Mo.look
 split
 ·exact K.ca hp
 exact K
theorem Qp.mv{n:Nat}{Q:List (List Nat)}(K:Qp n Q){i j k p:Nat}(hi:i<Q.length)(hj:j<Q.length)(hk:(ql Q i)[k]?=some p):Qp n (wZ Q i k j p)/\∀q,(∃m,q∈ql (wZ Q i k j p) m)↔∃m,q∈ql Q m:=by
 have hp:p∈ql Q i:=aaT hk;obtain⟨R,hR⟩:∃R,R=Q.set i ((ql Q i).eraseIdx k):=⟨_,rfl⟩;have lR:R.length=Q.length:=by rw[hR,aaY]
 have er:=Hg (K.nd i) hk;have qR:∀m,ql R m=if m=i then(ql Q i).erase p else ql Q m:=λm=>by rw[hR,fG hi,er]
 have noR:∀m,p∉ql R m:=λm h=>by
  rw[qR]at h
  split at h
  ·exact(K.nd i).not_mem_erase h
  next e=>exact e (K.one m i p h hp)
 have inR:∀m q,q∈ql R m↔q∈ql Q m/\q≠p:=λm q=>by
  rw[qR]
  split
  ·next e=>subst e;rw[(K.nd m).mem_erase_iff,and_comm]
  next e=>exact⟨λh=>⟨h,λg=>e (K.one m i p (g▸h) hp)⟩,λh=>h.1⟩
 have ndR:∀m,(ql R m).Nodup:=λm=>by
  rw[qR]
  split
  ·exact(K.nd i).erase p
  exact K.nd m
 have e:wZ Q i k j p=R.set j (p::ql R j):=by unfold wZ;rw[hR]
 have qV:∀m,ql (wZ Q i k j p) m=if m=j then p::ql R j else ql R m:=λm=>by rw[e,fG (by rw[lR];exact hj)]
 have vY:∀m q,q∈ql (wZ Q i k j p) m↔(q=p/\m=j)\/(q∈ql Q m/\q≠p):=λm q=>by
  rw[qV]
  split
  ·next g=>subst g;rw[List.mem_cons,inR];exact⟨λh=>h.imp (λh=>⟨h,rfl⟩) id,λh=>h.imp (λh=>h.1) id⟩
  next g=>rw[inR];exact⟨.inr,λh=>h.resolve_left λh=>g h.2⟩
 refine⟨⟨by rw[e,aaY,lR];exact K.len,λm=> ?_,λa b q ha hb=> ?_⟩,λq=>⟨?_, ?_⟩⟩
 ·rw[qV]
  split
  ·exact aa3.2 ⟨noR j,ndR j⟩
  exact ndR m
 ·rcases(vY a q).1 ha with⟨h1,h2⟩|⟨h1,h2⟩<;>rcases(vY b q).1 hb with⟨h3,h4⟩|⟨h3,h4⟩
  ·rw[h2,h4]
  ·exact absurd h1 h4
  ·exact absurd h3 h2
  exact K.one a b q h1 h3
 ·rintro⟨m,h⟩
  rcases(vY m q).1 h with⟨h1,_⟩|⟨h1,_⟩
  ·exact⟨i,h1▸hp⟩
  exact⟨m,h1⟩
 rintro⟨m,h⟩;by_cases g:q=p
 ·exact⟨j,(vY j q).2 (.inl ⟨g,rfl⟩)⟩
 exact⟨m,(vY m q).2 (.inr ⟨h,g⟩)⟩
theorem DU{n c hot warm:Nat}{s t:nw}(hc:c<n)(K:Qp n s.Q)(h:rF c hot warm s=some t):Qp n t.Q/\∀q,(∃m,q∈ql t.Q m)↔∃m,q∈ql s.Q m:=by
 unfold rF at h
 split at h
 ·cases h
 next k hk=>
 have hk3:1<=k/\k<=3:=by
  unfold Gg at hk
  repeat' split at hk
  all_goals first|cases hk|(simp only[Option.some.injEq]at hk;omega)
  all_goals omega
 split at h
 ·cases h
 next p hp=>
 simp only[Option.some.injEq]at h;subst h;have hl:=K.len;refine K.mv (by unfold qi;omega) (by unfold qi;split<;>omega) ?_;rw[<-af5];exact hp
theorem Kj{n c hot warm:Nat}(hc:c<n):∀(k:Nat) {s:nw},Qp n s.Q->Qp n (lP c hot warm k s).2.Q/\∀q,(∃m,q∈ql (lP c hot warm k s).2.Q m)↔∃m,q∈ql s.Q m
 |0,_,K=>⟨K,λ_=>Iff.rfl⟩
 |k+1,s,K=>by
  unfold lP
  split
  ·exact⟨K,λ_=>Iff.rfl⟩
  next t ht=>
  obtain⟨K2,e⟩:=DU hc K ht;obtain⟨K3,e3⟩:=Kj hc k K2;exact⟨K3,λq=>(e3 q).trans (e q)⟩
theorem ZB (n:I3)(b:Bool):({n with ff:=mkSet n.ff b}:I3).vw=n.vw:=by
 unfold I3.vw mkSet
 congr 1
 cases b<;>simp<;>omega
theorem LQ{M:Mo}(P:Pl M){t:nw}(nd:∀i,(ql t.Q i).Nodup)(mem:∀q,(∃m,q∈ql t.Q m)↔M.has q):lQ M (M.Bc t):=by
 have e:∀q,(M.Bc t).vw q=M.vw q:=λq=>congrArg (λx=>(x,M.C.cl q)) (ZB (M.it q) (t.ac q));exact⟨⟨nd,λa b ha hb e=>P.kd a b ((mem a).1 ha) ((mem b).1 hb) e⟩,rfl,λa h=>⟨a,(mem a).1 h,e a⟩,λa h _=>⟨a,(mem a).2 h,e a⟩,rfl⟩
theorem Mi.ln{M:Mo}(K:Mi M)(i:Nat):(ql M.Q i).length<=1073741824:=
 nQ _ _ (K.q.nd i) λp hp=>by
  have h:=((K.lv p).2 (.inl ⟨i,hp⟩)).toAt.bn K.k;have:=fO K.k.toFix;omega
theorem CE{n:Nat}{Q:List (List Nat)}(ln:∀i,(ql Q i).length<=1073741824){x:Cw}{c k:Nat}(hc:c<n)(hk:1<=k/\k<=3):dh n Q (x.kR Q c k):=
 ⟨λ_=>⟨hc,hk⟩,(λh=>by cases h),(λ_ hp=>⟨afU hp,List.length_pos_of_mem (afU hp)⟩),ln _⟩
theorem BA{n:Nat}{Q:List (List Nat)}(ln:∀i,(ql Q i).length<=1073741824):∀(f:Nat) {x:Cw},dh n Q x->x.bg=true->dh n Q (Cw.Oi n Q f x).2
 |0,_,X,_=>X
 |f+1,x,X,hb=>by
  obtain⟨g1,g2,g3⟩:=X.go hb;unfold Cw.Oi
  split
  ·exact X
  split
  ·exact BA ln f (CE ln g1 ⟨by omega,by omega⟩) rfl
  split
  ·next h=>exact BA ln f (CE ln h ⟨by omega,by omega⟩) rfl
  exact⟨(λh=>by cases h),λ_=>⟨rfl,rfl,rfl,rfl⟩,(λp h=>by cases h),afk _⟩
theorem YG{n:Nat}{Q:List (List Nat)}(hn:1<=n)(ln:∀i,(ql Q i).length<=1073741824){x:Cw}(X:dh n Q x):dh n Q (x.find n Q).2:=by
 unfold Cw.find Cw.start;cases hb:x.bg with
 |true=>simp only[if_true];exact BA ln _ X hb
 |false=>
  simp only[Bool.false_eq_true,if_false];exact BA ln _ (CE ln (by omega) ⟨by omega,by omega⟩) rfl
theorem Mi.cw{M:Mo}(K:Mi M){x:Cw}(X:dh M.eR M.Q x):Mi {M with x:=x}:=K.rf X rfl rfl rfl rfl rfl rfl rfl rfl
theorem Mi.n1{M:Mo}(K:Mi M):1<=M.eR:=K.k.l0
theorem Mi.cu:∀(f:Nat) {M:Mo},Mi M->Mi (M.cu f).2
 |0,_,K=>K
 |f+1,M,K=>by
  have X:=YG K.n1 K.ln K.x;unfold Mo.cu
  split
  ·next x h=>
   rw[h]at X
   split
   ·next p hp=>
    have hm:=(X.nx p hp).1;exact Mi.cu f ((K.cw X.pass).look ⟨_,hm⟩)
   exact K.cw X
  next x h=>
  rw[h]at X;exact K.cw X
theorem Mi.looks:∀(l:List Nat) {M:Mo},Mi M->l.Nodup->(∀p∈l,M.has p)->Mi (l.foldl Mo.look M)
 | [],_,K,_,_=>K
 |p::l,M,K,nd,h=>by
  obtain⟨n1,n2⟩:=aa3.1 nd;refine Mi.looks l (K.look (h p aaV)) n2 λq hq=> ?_;have hM:=h q (aaW _ hq);unfold Mo.look
  split
  ·exact(lE K.p).2 ⟨hM,λe=>n1 (e▸hq)⟩
  exact hM
theorem Xw{C:Cs}(K:Ok C){p:Nat}(L:At C p):sU (C.hd p)=p:=by
 obtain⟨m1,m2,m3,m4,m5,m6⟩:=bV K L;unfold sU;generalize C.hd p=h at*;omega
theorem Mi.due{M:Mo}(K:Mi M)(now aI:Int):(M.kQ now aI).Nodup/\∀p∈M.kQ now aI,M.has p:=by
 obtain⟨L,hL⟩:∃L,L=M.Q.flatten.filter λp=>decide (0<(M.it p).exp):=⟨_,rfl⟩;have hh:∀p∈L,M.has p:=λp hp=>by rw[hL]at hp;exact gw.1 (aba.1 hp).1
 have nd:L.Nodup:=by rw[hL];exact(wR K.q.nd λi j p h g=>K.q.one i j p h g).sublist afY
 have eE:iE M.C M M.Q.flatten=L.map λp=>⟨M.C.hd p,(M.it p).exp,M.ord p⟩:=by rw[hL];rfl
 have eg:(iE M.C M M.Q.flatten).map (λe=>sU e.h)=L:=by
  rw[eE,ajr]
  conv=>rhs;rw[<-List.map_id L]
  refine List.map_congr_left λp hp=> ?_;have:=Xw K.k ((K.lv p).2 (.inl (hh p hp))).toAt;rw[Function.comp_apply,id];exact this
 have e:M.kQ now aI=((iw ((iE M.C M M.Q.flatten).filter λx=>decide ((x.ex:Int)<=now))).take aI.toNat).map λe=>sU e.h:=by
  unfold Mo.kQ pF;rw[ajr];rfl
 have sub:((iE M.C M M.Q.flatten).filter λx=>decide ((x.ex:Int)<=now)).map (λe=>sU e.h) |>.Sublist L:=by
  have:=(afY (p:=λx:En=>decide ((x.ex:Int)<=now)) (l:=iE M.C M M.Q.flatten)).map (λe=>sU e.h);rw[eg]at this;exact this
 have pm:=(gZ ((iE M.C M M.Q.flatten).filter λx=>decide ((x.ex:Int)<=now))).map (λe=>sU e.h);have n2:=pm.nodup_iff.2 (nd.sublist sub);have tk:=(List.take_sublist aI.toNat (iw ((iE M.C M M.Q.flatten).filter λx=>decide ((x.ex:Int)<=now)))).map (λe=>sU e.h);rw[e];exact⟨n2.sublist tk,λp hp=>hh p (sub.subset (pm.mem_iff.1 (tk.subset hp)))⟩
theorem Mi.cN{M:Mo}(K:Mi M)(now aI:Int):Mi (M.cN now aI).2:=by
 unfold Mo.cN
 split
 ·exact K
 unfold Mo.so;obtain⟨d1,d2⟩:=K.due now (min aI 1048576);exact Mi.cu _ (K.looks _ d1 d2)
structure nY (M N:Mo):Prop where
 i:Mi N
 s:lQ M N
theorem nY.trans{M N O:Mo}(a:nY M N)(b:nY N O):nY M O:=⟨b.i,a.s.trans b.s⟩
theorem Mi.xn{M:Mo}(K:Mi M)(t:Mt):nY M (M.aU t):=⟨K.rf K.x rfl rfl rfl rfl rfl rfl rfl rfl,eQ K.p rfl rfl rfl⟩
theorem Mi.aaa{M:Mo}(K:Mi M)(k:Nat):nY M (M.zK k):=⟨K.rf K.x rfl rfl rfl rfl rfl rfl rfl rfl,eQ K.p rfl rfl rfl⟩
theorem Mi.Et{M:Mo}(K:Mi M)(now aI:Int):nY M (M.cN now aI).2:=⟨K.cN now aI,Io K.p now aI⟩
theorem Mi.fw{M:Mo}(K:Mi M):nY M M.fw:=by
 unfold Mo.fw;exact(K.aaa _).trans ((K.aaa _).i.xn _)
theorem Mi.jG{M:Mo}(K:Mi M):nY M M.jG:=by
 unfold Mo.jG;exact(K.Et _ _).trans ((K.Et _ _).i.xn _)
theorem Mi.take{M N:Mo}(K:Mi M)(hh:M.hole=none){c r:Nat}(hc:c<M.eR)(h:M.take c=some (r,N)):nY M N/\N.hole=some r/\¬M.has r/\N={M with C:=N.C,hole:=some r}/\N.C.cl r=c/\N.C.ae=M.C.ae/\∀q,M.has q->N.C.cl q=M.C.cl q:=by
 unfold Mo.take at h
 split at h
 ·next p D hD=>
  simp only[Option.some.injEq,Prod.mk.injEq]at h;obtain⟨rfl,rfl⟩:=h;have T:=uP K.k hc hD;have no:¬M.has p:=λg=>T.no ((K.lv p).2 (.inl g));have hq:∀q,M.has q->D.cl q=M.C.cl q:=λq g=>(T.hd q ((K.lv q).2 (.inl g))).2;have S:lQ M ({M with C:=D,hole:=some p}:Mo):=eQ K.p rfl rfl rfl hq T.sz;refine⟨⟨⟨T.k,S.p, ?_, ?_,λq=> ?_,λq g=> ?_,λg=> ?_,λi g=> ?_⟩,S⟩,rfl,no,rfl,T.cl,T.sz,hq⟩
  ·show Qp D.ae.length M.Q
   rw[T.sz];exact K.q
  ·show dh D.ae.length M.Q M.x
   rw[T.sz];exact K.x
  ·refine(T.lv q).trans ?_
   rw[K.lv q,hh];show(M.has q\/none=some q)\/q=p↔M.has q\/some p=some q;simp only[reduceCtorEq,or_false,Option.some.injEq];exact⟨λh=>h.imp id Eq.symm,λh=>h.imp id Eq.symm⟩
  ·cases g;exact no
  ·obtain⟨a,b,d,e⟩:=K.on g
   obtain⟨p1,p2⟩:=T.pg M.m.pg b;exact⟨by show _<D.n;rw[T.n];exact a,p1,(T.lf M.m.pg).trans d,p2.trans e⟩
  refine K.go i ?_;rw[<-T.lf i];exact g
 cases h
theorem TB{n:Nat}{Q:List (List Nat)}{x:Cw}(X:dh n Q x)(p r:Nat):dh n (og Q p r) (x.cY p r):=by
 by_cases g:x.nx=some p
 ·have e:x.cY p r={x with nx:=some r}:=by unfold Cw.cY;rw[if_pos g]
  rw[e];obtain⟨h1,h2⟩:=X.nx p g;refine⟨X.go,λh=> ?_,λq hq=> ?_,X.lf⟩
  ·rw[(X.no h).1]at g;cases g
  simp only[Option.some.injEq]at hq;subst hq;exact⟨by rw[lZ,acA];exact⟨p,h1,by unfold AS;rw[if_pos rfl]⟩,h2⟩
 have e:x.cY p r=x:=by unfold Cw.cY;rw[if_neg g]
 rw[e];refine⟨X.go,X.no,λq hq=> ?_,X.lf⟩;obtain⟨h1,h2⟩:=X.nx q hq;exact⟨by rw[lZ,acA];exact⟨q,h1,by unfold AS;exact if_neg λe:q=p=>g (e▸hq)⟩,h2⟩
theorem Qp.sub{n:Nat}{Q:List (List Nat)}(K:Qp n Q){p r:Nat}(nd:∀i,(ql (og Q p r) i).Nodup)(hr:∀i,r∉ql Q i):Qp n (og Q p r):=by
 refine⟨by unfold og;rw[adr];exact K.len,nd,λi j q h g=> ?_⟩;rw[lZ,acA]at h g;obtain⟨a,ha,ea⟩:=h;obtain⟨b,hb,eb⟩:=g;unfold AS at ea eb
 split at ea<;>split at eb
 ·next h1 h2=>subst h1;subst h2;exact K.one i j _ ha hb
 ·exact absurd (by rw[ea,<-eb];exact hb) (hr j)
 ·exact absurd (by rw[eb,<-ea];exact ha) (hr i)
 subst ea;subst eb;exact K.one i j _ ha hb
theorem Mi.swap{M:Mo}(K:Mi M){p r:Nat}(hh:M.hole=some r)(hp:M.has p)(cR:M.C.cl r=M.C.cl p):nY M (M.swap p r)/\(M.swap p r).hole=some p:=by
 have hr:¬M.has r:=K.ho r hh;have S:=Lb K.p hp hr cR;have hs:∀q,(M.swap p r).has q↔q=r\/(M.has q/\q≠p):=λq=>JT hp;refine⟨⟨⟨K.k,S.p,K.q.sub S.p.nd λi h=>hr ⟨i,h⟩,TB K.x p r,λq=> ?_,λq g=> ?_,K.on,K.go⟩,S⟩,rfl⟩
 ·refine(K.lv q).trans ?_
  rw[hs q,hh];show M.has q\/some r=some q↔(q=r\/M.has q/\q≠p)\/some p=some q;simp only[Option.some.injEq]
  constructor
  ·rintro(h|h)
   ·by_cases e:q=p
    ·exact .inr e.symm
    exact .inl (.inr ⟨h,e⟩)
   exact .inl (.inl h.symm)
  rintro((h|h)|h)
  ·exact .inr h.symm
  ·exact .inl h.1
  exact .inl (h▸hp)
 cases g;intro h;rcases(hs p).1 h with h|h
 ·exact hr (h▸hp)
 exact h.2 rfl
theorem Mi.rK{M:Mo}(K:Mi M){p:Nat}(hh:M.hole=some p):nY M (M.rK p)/\(M.rK p).hole=none:=by
 have L:=(K.lv p).2 (.inr hh);have no:=K.ho p hh;have g:=oH K.k L;have G:=gY K.k L;have S:lQ M (M.rK p):=eQ K.p rfl rfl rfl λq _=>tG M.C p q;refine⟨⟨⟨G.1,S.p, ?_, ?_,λq=> ?_,(λq h=>by cases h),λh=> ?_,λi hi=>K.go i ?_⟩,S⟩,rfl⟩
 ·show Qp (M.C.bq p).ae.length M.Q
  rw[G.2.ae];exact K.q
 ·show dh (M.C.bq p).ae.length M.Q M.x
  rw[G.2.ae];exact K.x
 ·refine(nV K.k L q).trans ?_
  rw[K.lv q,hh];show(M.has q\/some p=some q)/\q≠p↔M.has q\/none=some q;simp only[Option.some.injEq,reduceCtorEq,or_false];exact⟨λh=>h.1.resolve_right λe=>h.2 e.symm,λh=>⟨.inl h,λe=>no (e▸h)⟩⟩
 ·obtain⟨a,b,c,d⟩:=K.on h
  obtain⟨e1,e2,e3⟩:=g M.m.pg;exact⟨by show _<(M.C.bq p).n;rw[G.2.n];exact a,e1.trans b,e2.trans c,e3.trans d⟩
 rw[<-(g i).2.1];exact hi
theorem Mi.shift{M N:Mo}(K:Mi M)(hh:M.hole=none){p:Nat}(hp:M.has p)(h:M.shift p=some N):nY M N/\N.hole=none:=by
 have hc:M.C.cl p<M.eR:=(((K.lv p).2 (.inl hp)).toAt.bn K.k).1;unfold Mo.shift at h
 split at h
 ·next r O hO=>
  simp only[Option.some.injEq]at h;subst h;obtain⟨A,h1,h2,h3,h6,_,h7⟩:=K.take hh hc hO;have dE:O.has p:=by rw[h3];exact hp
  obtain⟨B,h4⟩:=A.i.swap h1 dE (h6.trans (h7 p hp).symm);obtain⟨D,h5⟩:=B.i.rK h4;exact⟨(A.trans B).trans D,h5⟩
 cases h
theorem Mi.Ct{M:Mo}(K:Mi M){p:Nat}(hp:M.has p)(hd:M.cn p≠0):nY M (M.ca p):=⟨K.ca hp,AR K.p hd⟩
theorem Mi.mstop{M:Mo}(K:Mi M)(jF:M.m.on=true):nY M M.mstop/\M.mstop.hole=M.hole:=by
 obtain⟨a,b,c,d⟩:=K.on jF;obtain⟨K2,S⟩:=xQ K.k a b c;have iD:=B0 K.k a;have sm:=tB S λj=>by
  rw[iD];by_cases e:j=M.m.pg
  ·exact⟨false,by rw[if_pos e,e]⟩
  exact⟨(M.C.pg j).lv,by rw[if_neg e]⟩
 have sa:lQ M M.mstop:=eQ K.p rfl rfl rfl λq _=>S.cl q;refine⟨⟨⟨K2,sa.p, ?_, ?_,λq=>(sm q).1.trans (K.lv q),K.ho,(λe=>by cases e),λi e=> ?_⟩,sa⟩,rfl⟩
 ·show Qp (M.C.iu M.m.pg).ae.length M.Q
  rw[S.ae];exact K.q
 ·show dh (M.C.iu M.m.pg).ae.length M.Q M.x
  rw[S.ae];exact K.x
 change((M.C.iu M.m.pg).pg i).lv=true at e;rw[iD]at e;by_cases g:i=M.m.pg
 ·rw[if_pos g]at e;cases e
 rw[if_neg g]at e;exact absurd (K.go i e).2 g
theorem Mi.release{M:Mo}(K:Mi M)(jF:M.m.on=true)(h:(M.C.pg M.m.pg).tk.findIdx? id=none):nY M {M with C:=M.C.bw M.m.pg,m:=M.m.off}:=by
 obtain⟨a,b,c,d⟩:=K.on jF;obtain⟨h0,mD⟩:=Z6 K.k a h;have K2:=vO K.k a b c h0;have iD:=yx K.k a;have zg:∀q,Live M.C q->M.C.pn q≠M.m.pg:=λq L e=>mD _ (e▸L.tk);have same:∀q,M.C.pn q≠M.m.pg->(M.C.bw M.m.pg).pg ((M.C.bw M.m.pg).pn q)=M.C.pg (M.C.pn q):=λq e=>by
  rw[show(M.C.bw M.m.pg).pn q=M.C.pn q from rfl,iD,if_neg e]
 have Iv:∀q,M.C.pn q≠M.m.pg->(M.C.bw M.m.pg).cl q=M.C.cl q:=λq e=>by unfold Cs.cl;rw[same q e]
 have Fw:∀q,M.C.pn q≠M.m.pg->(M.C.bw M.m.pg).ix q=M.C.ix q:=λq e=>by unfold Cs.ix;rw[Iv q e];rfl
 have wl:∀q,Live (M.C.bw M.m.pg) q↔Live M.C q:=λq=>by
  constructor
  ·intro L
   have e:M.C.pn q≠M.m.pg:=λe=>by
    have t:=L.own;rw[show(M.C.bw M.m.pg).pn q=M.C.pn q from rfl,iD,if_pos e]at t;cases t
   refine⟨⟨L.i,by have:=L.own;rw[same q e]at this;exact this,by have:=L.al;rw[Iv q e]at this;exact this,by have:=L.k;rw[same q e,Fw q e]at this;exact this⟩,by have:=L.tk;rw[same q e,Fw q e]at this;exact this⟩
  intro L;have e:=zg q L;exact⟨⟨L.i,by rw[same q e];exact L.own,by rw[Iv q e];exact L.al,by rw[same q e,Fw q e];exact L.k⟩,by rw[same q e,Fw q e];exact L.tk⟩
 have sa:lQ M {M with C:=M.C.bw M.m.pg,m:=M.m.off}:=eQ K.p rfl rfl rfl λq h=>Iv q (zg q ((K.lv q).2 (.inl h)));refine⟨⟨K2,sa.p,K.q,K.x,λq=>(wl q).trans (K.lv q),K.ho,(λe=>by cases e),λi e=> ?_⟩,sa⟩;change((M.C.bw M.m.pg).pg i).lv=true at e;rw[iD]at e;by_cases g:i=M.m.pg
 ·rw[if_pos g]at e;cases e
 rw[if_neg g]at e;exact absurd (K.go i e).2 g
theorem Mi.leave{M:Mo}(K:Mi M)(jF:M.m.on=false){i f t:Nat}(hi:i<M.C.n)(ho:(M.C.pg i).own=true)(hf:(M.C.pg i).cl=f):nY M {M with C:=M.C.eJ i,m:={M.m with pg:=i,fr:=f,tt:=t,on:=true}}:=by
 have jV:(M.C.pg i).lv=false:=by
  rcases h:(M.C.pg i).lv with _|_
  ·rfl
  have:=(K.go i h).1;rw[jF]at this;cases this
 obtain⟨K2,S⟩:=Aw K.k hi ho jV;have iD:=Ek K.k hi;have sm:=tB S λj=>by
  rw[iD];by_cases e:j=i
  ·exact⟨true,by rw[if_pos e,e]⟩
  exact⟨(M.C.pg j).lv,by rw[if_neg e]⟩
 have sa:lQ M {M with C:=M.C.eJ i,m:={M.m with pg:=i,fr:=f,tt:=t,on:=true}}:=eQ K.p rfl rfl rfl λq _=>S.cl q;refine⟨⟨K2,sa.p, ?_, ?_,λq=>(sm q).1.trans (K.lv q),K.ho,λ_=> ?_,λj e=> ?_⟩,sa⟩
 ·show Qp (M.C.eJ i).ae.length M.Q
  rw[S.ae];exact K.q
 ·show dh (M.C.eJ i).ae.length M.Q M.x
  rw[S.ae];exact K.x
 ·refine⟨hi, ?_, ?_, ?_⟩<;>(show _=_)<;>dsimp only<;>rw[iD,if_pos rfl]
  ·exact ho
  exact hf
 change((M.C.eJ i).pg j).lv=true at e;rw[iD]at e;by_cases g:j=i
 ·exact⟨rfl,g⟩
 rw[if_neg g]at e;have:=(K.go j e).1;rw[jF]at this;cases this
theorem Mi.Gq{M:Mo}(K:Mi M)(hh:M.hole=none){i k:Nat}(hi:i<M.C.n)(ho:(M.C.pg i).own=true)(hk:(M.C.pg i).tk.findIdx? id=some k):M.has (M.C.pA i k):=by
 have P:lA M.C (M.C.pg i):=K.k.pg _ (ey (by rw[K.k.pl];exact hi));rw[abc]at hk;obtain⟨h1,h2,_⟩:=hk;obtain⟨e1,e2,a⟩:=mh K.k hi ho (k:=k) (by rw[<-P.tl];exact h1);have L:Live M.C (M.C.pA i k):=⟨a,by rw[e1,e2,aaQ h1];exact congrArg some h2⟩;exact((K.lv _).1 L).resolve_right (by rw[hh];simp)
theorem Mi.eh{M:Mo}(K:Mi M)(hh:M.hole=none)(jF:M.m.on=true):nY M M.eh.2/\M.eh.2.hole=none:=by
 unfold Mo.eh
 split
 ·next h=>exact⟨K.release jF h,hh⟩
 next k hk=>
 obtain⟨a,b,c,d⟩:=K.on jF;have hp:=K.Gq hh a b hk
 split
 ·next hd=>exact⟨K.Ct hp hd,hh⟩
 split
 ·next N hN=>exact K.shift hh hp hN
 obtain⟨g1,g2⟩:=K.mstop jF;exact⟨g1,g2.trans hh⟩
theorem TC{M:Mo}(h:M.eh.1=true):M.eh.2.m.on=M.m.on:=by
 unfold Mo.eh at h⊢
 split at h
 ·cases h
 next k hk=>
 split
 ·rfl
 next hd=>
 rw[if_neg hd]at h
 split at h
 ·next N hN=>
  unfold Mo.shift Mo.take at hN
  split at hN
  ·next r O hO=>
   simp only[Option.some.injEq]at hN;subst hN
   split at hO
   ·simp only[Option.some.injEq,Prod.mk.injEq]at hO
    obtain⟨rfl,rfl⟩:=hO;rfl
   cases hO
  cases hN
 cases h
theorem Mi.du:∀(f:Nat) {M:Mo},Mi M->M.hole=none->M.m.on=true->nY M (M.du f).2/\(M.du f).2.hole=none
 |0,_,K,hh,_=>⟨⟨K, .refl K.p⟩,hh⟩
 |f+1,M,K,hh,jF=>by
  obtain⟨g1,g2⟩:=K.eh hh jF;unfold Mo.du
  split
  ·next h=>
   obtain⟨g3,g4⟩:=Mi.du f g1.i g2 (by rw[TC h];exact jF);exact⟨g1.trans g3,g4⟩
  exact⟨g1,g2⟩
theorem Mi.gF{M:Mo}(K:Mi M)(hh:M.hole=none)(aI:Int):nY M (M.gF aI).2/\(M.gF aI).2.hole=none:=by
 have T:nY M M.fB:=⟨K.rf K.x rfl rfl rfl rfl rfl rfl rfl rfl,eQ K.p rfl rfl rfl⟩;unfold Mo.gF
 split
 ·exact⟨⟨K, .refl K.p⟩,hh⟩
 split
 ·next jF=>
  obtain⟨g1,g2⟩:=T.i.du _ hh jF;exact⟨T.trans g1,g2⟩
 next jF=>
 have B:nY M.fB M.fB.fH/\M.fB.fH.hole=none:=by
  unfold Mo.fH
  split
  ·exact⟨⟨T.i, .refl T.i.p⟩,hh⟩
  split
  ·exact⟨⟨T.i, .refl T.i.p⟩,hh⟩
  split
  ·exact⟨⟨T.i, .refl T.i.p⟩,hh⟩
  next o ho=>
  obtain⟨b1,b2,b3,_⟩:=qX ho;exact⟨T.i.leave (show M.m.on=false by simpa using jF) b1 b2 b3,hh⟩
 exact⟨T.trans B.1,B.2⟩
theorem Mi.beside{M:Mo}(K:Mi M)(hh:M.hole=none):nY M M.beside/\M.beside.hole=none:=by
 have g1:=K.fw;have h1:M.fw.hole=none:=hh;have g2:=g1.i.jG;have h2:M.fw.jG.hole=none:=by
  obtain⟨a1,_⟩:=nM M.fw M.fw.k.now M.fw.v.p.c;exact a1.trans h1
 obtain⟨g3,h3⟩:=g2.i.gF h2 M.fw.jG.v.p.m;unfold Mo.beside Mo.lz;exact⟨((g1.trans g2).trans g3).trans (g3.i.xn _),h3⟩
theorem aiM{n:Nat}{Q:List (List Nat)}(K:Qp n Q){x:Cw}(X:dh n Q x){i j k p:Nat}(hi:i<Q.length)(hj:j<Q.length)(hk:(ql Q i)[k]?=some p):dh n (wZ Q i k j p) (x.left Q p):=by
 have L:=Cj X K.nd hi hk;refine⟨L.go,L.no,λq hq=>⟨?_,(L.nx q hq).2⟩,L.lf⟩;have h:=(L.nx q hq).1;unfold wZ;rw[fG (by rw[aaY];exact hj)]
 split
 ·next e=>rw[<-e];exact aaW _ h
 exact h
theorem SD{n c hot warm:Nat}{s t:nw}(hc:c<n)(K:Qp n s.Q)(X:dh n s.Q s.x)(h:rF c hot warm s=some t):dh n t.Q t.x:=by
 unfold rF at h
 split at h
 ·cases h
 next k hk=>
 have hk3:1<=k/\k<=3:=by
  unfold Gg at hk
  repeat' split at hk
  all_goals first|cases hk|(simp only[Option.some.injEq]at hk;omega)
  all_goals omega
 split at h
 ·cases h
 next p hp=>
 simp only[Option.some.injEq]at h;subst h;have hl:=K.len;refine aiM K X (by unfold qi;omega) (by unfold qi;split<;>omega) ?_;rw[<-af5];exact hp
theorem Kk{n c hot warm:Nat}(hc:c<n):∀(k:Nat) {s:nw},Qp n s.Q->dh n s.Q s.x->dh n (lP c hot warm k s).2.Q (lP c hot warm k s).2.x
 |0,_,_,X=>X
 |k+1,s,K,X=>by
  unfold lP
  split
  ·exact X
  next t ht=>exact Kk hc k (DU hc K ht).1 (SD hc K X ht)
theorem Mi.bal{M:Mo}(K:Mi M)(hot warm:Nat)(k:List UInt8):nY M (M.py hot warm k):=by
 unfold Mo.py
 split
 ·exact⟨K, .refl K.p⟩
 next p hp=>
 have hc:M.C.cl p<M.eR:=(((K.lv p).2 (.inl ((kG K.p).1 hp).1)).toAt.bn K.k).1;obtain⟨q1,q2⟩:=Kj (hot:=hot) (warm:=warm) hc M.v.p.l.toNat (s:=M.lru) K.q;have x1:=Kk (hot:=hot) (warm:=warm) hc M.v.p.l.toNat (s:=M.lru) K.q K.x;have S:=LQ K.p q1.nd q2;have G:nY M (M.Bc (lP (M.C.cl p) hot warm M.v.p.l.toNat M.lru).2):=⟨⟨K.k,S.p,q1,x1,λr=>(K.lv r).trans (or_congr (q2 r).symm Iff.rfl),λr h g=>K.ho r h ((q2 r).1 g),K.on,K.go⟩,S⟩;exact G.trans (G.i.xn _)
theorem Mi.behind{M:Mo}(K:Mi M)(hh:M.hole=none)(hot warm:Nat)(k:List UInt8):nY M (M.behind hot warm k)/\(M.behind hot warm k).hole=none:=by
 have g:=K.bal hot warm k;obtain⟨g2,h2⟩:=g.i.beside ((Kl hot warm M k).1.trans hh);exact⟨g.trans g2,h2⟩
theorem Mi.x5{M:Mo}(K:Mi M)(w:Nat):nY M (M.fE w):=⟨K.rf K.x rfl rfl rfl rfl rfl rfl rfl rfl,eQ K.p rfl rfl rfl⟩
theorem Mi.T8{M:Mo}(K:Mi M):nY M M.reset:=⟨K.rf K.x rfl rfl rfl rfl rfl rfl rfl rfl,eQ K.p rfl rfl rfl⟩
theorem Mi.meet{M:Mo}(K:Mi M)(k:List UInt8):nY M (M.meet k).2/\(M.meet k).1=M.live k/\(M.meet k).2.hole=M.hole:=by
 unfold Mo.meet Mo.live;cases hf:M.find k with
 |none=>exact⟨K.x5 1,rfl,rfl⟩
 |some p=>
  have hp:=((kG K.p).1 hf).1;dsimp only;by_cases hw:M.cn p=0
  ·rw[if_neg (by simpa using hw),if_pos hw]
   exact⟨K.x5 0,rfl,rfl⟩
  rw[if_pos hw,if_neg hw];have g:=K.x5 (M.cn p);exact⟨g.trans (g.i.Ct hp hw),rfl,rfl⟩
structure FH (M N:Mo)(y:List UInt8)(o:Option (I3×Nat)):Prop where
 i:Mi N
 k:N.k=M.k
 s:∀z,N.ph z=if z=y then o else M.ph z
 d:∀q,N.has q->(N.it q).key=y\/∃p,M.has p/\(M.it p).key=(N.it q).key
 z:N.C.ae=M.C.ae
theorem nY.iP{M N O:Mo}{y:List UInt8}{o:Option (I3×Nat)}(a:nY M N)(P:Pl M)(b:FH N O y o):FH M O y o:=
 ⟨b.i,b.k.trans a.s.k,λz=>(b.s z).trans (by rw[a.s.s P]),λq h=>(b.d q h).imp id λ⟨p,h1,e⟩=>by
  obtain⟨r,h2,e2⟩:=a.s.d p h1;exact⟨r,h2,(pQ e2).symm.trans e⟩,b.z.trans a.s.z⟩
theorem FH.go{M N O:Mo}{y:List UInt8}{o:Option (I3×Nat)}(a:FH M N y o)(b:nY N O):FH M O y o:=
 ⟨b.i,b.s.k.trans a.k,λz=>(b.s.s a.i.p z).trans (a.s z),λq h=>by
  obtain⟨r,h2,e2⟩:=b.s.d q h;rw[pQ e2];exact a.d r h2,b.s.z.trans a.z⟩
theorem FH.iP{M N O:Mo}{y:List UInt8}{o o2:Option (I3×Nat)}(a:FH M N y o)(b:FH N O y o2):FH M O y o2:=
 ⟨b.i,b.k.trans a.k,λz=>by
  rw[b.s,a.s];by_cases h:z=y<;>simp[h],λq h=>(b.d q h).elim .inl λ⟨p,h1,e⟩=>by rw[<-e];exact a.d p h1,b.z.trans a.z⟩
theorem wG{M:Mo}(P:Pl M){p:Nat}(h:M.has p):M.ph (M.it p).key=if M.cn p=0 then some (M.vw p)else none:=by
 unfold Mo.ph Mo.live;rw[(kG P).2 ⟨h,rfl⟩];dsimp only
 split<;>rfl
theorem aeB{M:Mo}{y:List UInt8}(h:∀q,M.has q->(M.it q).key≠y):M.find y=none:=by
 unfold Mo.find;rw[agj];intro q hq
 simpa using h q (gw.1 hq)
theorem Qq{M:Mo}(P:Pl M){y:List UInt8}(h:M.find y=none):∀q,M.has q->(M.it q).key≠y:=λq hq e=>by
 rw[(kG P).2 ⟨hq,e⟩]at h;cases h
theorem B8{M:Mo}{y:List UInt8}(h:∀q,M.has q->(M.it q).key≠y):M.ph y=none:=by
 unfold Mo.ph Mo.live;rw[aeB h];rfl
theorem P7{M N:Mo}(P:Pl M)(K:Mi N)(hk:N.k=M.k)(hz:N.C.ae=M.C.ae){y:List UInt8}{o:Option (I3×Nat)}(h1:∀q,N.has q->(N.it q).key≠y->∃p,M.has p/\N.vw q=M.vw p)
  (h2:∀p,M.has p->M.cn p=0->(M.it p).key≠y->∃q,N.has q/\N.vw q=M.vw p) (h3:N.ph y=o):FH M N y o:=by
 refine⟨K,hk,λz=> ?_,λq h=> ?_,hz⟩
 ·by_cases e:z=y
  ·rw[if_pos e,e];exact h3
  rw[if_neg e];refine Option.ext λi=> ?_;rw[qd K.p,qd P]
  constructor
  ·rintro⟨q,a,b,c,d⟩
   obtain⟨p,f,g⟩:=h1 q a (by rw[b];exact e);exact⟨p,f,(pQ g).symm.trans b,(xw hk g).symm.trans c,g.symm.trans d⟩
  rintro⟨p,a,b,c,d⟩;obtain⟨q,f,g⟩:=h2 p a c (by rw[b];exact e);exact⟨q,f,(pQ g).trans b,(xw hk g).trans c,g.trans d⟩
 by_cases e:(N.it q).key=y
 ·exact .inl e
 obtain⟨p,f,g⟩:=h1 q h e;exact .inr ⟨p,f,(pQ g).symm⟩
theorem Mi.xM{M:Mo}(K:Mi M){p:Nat}(hp:M.has p):FH M (M.ca p) (M.it p).key none:=by
 have e:∀q,(M.ca p).vw q=M.vw q:=λq=>congrArg (Prod.mk _) (tG M.C p q);have hs:∀q,(M.ca p).has q↔M.has q/\q≠p:=λq=>lE K.p;refine P7 K.p (K.ca hp) rfl rfl (λq h _=>⟨q,((hs q).1 h).1,e q⟩) (λq h _ g=>⟨q,(hs q).2 ⟨h,λa=>g (by rw[a])⟩,e q⟩) (B8 λq h g=> ?_);obtain⟨h1,h2⟩:=(hs q).1 h;exact h2 (K.p.kd q p h1 hp g)
theorem Mi.jd{M:Mo}(K:Mi M){r:Nat}(hr:M.hole=some r)(n:I3)(hn:∀q,M.has q->(M.it q).key≠n.key):FH M (M.jd r n) n.key (if ON M.k n=0 then some (n.vw,M.C.cl r)else none):=by
 have L:=(K.lv r).2 (.inr hr);have no:∀i,r∉ql M.Q i:=λi h=>K.ho r hr ⟨i,h⟩;have hi:qi (M.C.cl r) 1<M.Q.length:=by
  have h1:=(L.toAt.bn K.k).1;have h2:=K.q.len;unfold Mo.eR at h2;unfold qi;omega
 have pm:∀q j,q∈ql (M.jd r n).Q j↔(j=qi (M.C.cl r) 1/\q=r)\/q∈ql M.Q j:=λq j=>jA hi;have hs:∀q,(M.jd r n).has q↔q=r\/M.has q:=λq=>by
  constructor
  ·rintro⟨j,h⟩
   exact((pm q j).1 h).imp (λh=>h.2) λh=>⟨j,h⟩
  rintro(h|⟨j,h⟩)
  ·exact⟨_,(pm q _).2 (.inl ⟨rfl,h⟩)⟩
  exact⟨j,(pm q j).2 (.inr h)⟩
 have nr:∀q,M.has q->q≠r:=λq ⟨i,h⟩ e=>no i (e▸h);have ir:(M.jd r n).it r={n with ff:=mkSet n.ff false}:=if_pos rfl;have io:∀q,q≠r->(M.jd r n).it q=M.it q:=λq h=>if_neg h;have vo:∀q,q≠r->(M.jd r n).vw q=M.vw q:=λq h=>by unfold Mo.vw;rw[io q h];rfl
 have qe:∀j,ql (M.jd r n).Q j=if j=qi (M.C.cl r) 1 then r::ql M.Q (qi (M.C.cl r) 1)else ql M.Q j:=λj=>fG hi _ j
 have nd:∀j,(ql (M.jd r n).Q j).Nodup:=λj=>by
  rw[qe]
  split
  ·exact aa3.2 ⟨no _,K.p.nd _⟩
  exact K.p.nd j
 have P:Pl (M.jd r n):=by
  refine⟨nd,λa b ha hb e=> ?_⟩;rcases(hs a).1 ha with rfl|a1<;>rcases(hs b).1 hb with rfl|b1
  ·rfl
  ·rw[ir,io b (nr b b1)]at e
   exact absurd e.symm (hn b b1)
  ·rw[ir,io a (nr a a1)]at e
   exact absurd e (hn a a1)
  rw[io a (nr a a1),io b (nr b b1)]at e;exact K.p.kd a b a1 b1 e
 have KN:Mi (M.jd r n):=by
  refine⟨K.k,P,⟨?_,nd,λi j q h g=> ?_⟩,⟨K.x.go,K.x.no,λq hq=>⟨(pm q _).2 (.inr (K.x.nx q hq).1),(K.x.nx q hq).2⟩,K.x.lf⟩,λq=> ?_,(λq h=>by cases h),K.on,K.go⟩
  ·exact aaY.trans K.q.len
  ·rcases(pm q i).1 h with⟨h1,h2⟩|h1<;>rcases(pm q j).1 g with⟨g1,g2⟩|g1
   ·rw[h1,g1]
   ·exact absurd (h2▸g1) (no j)
   ·exact absurd (g2▸h1) (no i)
   exact K.q.one i j q h1 g1
  refine(K.lv q).trans ?_;rw[hr,hs q];show M.has q\/some r=some q↔(q=r\/M.has q)\/none=some q;simp only[Option.some.injEq,reduceCtorEq,or_false];exact⟨λh=>h.elim .inr λh=> .inl h.symm,λh=>h.elim (λh=> .inr h.symm) .inl⟩
 refine P7 K.p KN rfl rfl (λq h g=> ?_) (λq h _ _=>⟨q,(hs q).2 (.inr h),vo q (nr q h)⟩) ?_
 ·rcases(hs q).1 h with rfl|h
  ·rw[ir]at g;exact absurd rfl g
  exact⟨q,h,vo q (nr q h)⟩
 have h:=wG P ((hs r).2 (.inl rfl));rw[R9,ir]at h;refine h.trans ?_;have e:(M.jd r n).vw r=(n.vw,M.C.cl r):=by
  unfold Mo.vw;rw[ir,ZB];rfl
 rw[e];rfl
theorem Mi.om{M:Mo}(K:Mi M){r:Nat}(hr:M.hole=some r){p:Nat}(hp:M.has p)(n:I3)(hn:(M.it p).key=n.key):FH M (M.om p r n) n.key (if ON M.k n=0 then some (n.vw,M.C.cl r)else none):=by
 have A:=K.xM hp;rw[hn]at A;have U:=A.i.jd (r:=r) hr n λq h g=>by
  obtain⟨h1,h2⟩:=(lE K.p).1 h;exact h2 (K.p.kd q p h1 hp (g.trans hn.symm))
 have hQ:(M.om p r n).Q=((M.ca p).jd r n).Q:=by
  show kY (iG M.Q p) (qi (M.C.cl r) 1) r=kY (iG M.Q p) (qi ((M.C.bq p).cl r) 1) r;rw[tG]
 have G:nY ((M.ca p).jd r n) (M.om p r n):=⟨U.i.rf U.i.x rfl hQ rfl rfl rfl rfl rfl rfl,eQ U.i.p hQ rfl rfl⟩;have V:=A.iP (U.go G);rw[show(M.ca p).C.cl r=M.C.cl r from tG M.C p r,show(M.ca p).k=M.k from rfl]at V;exact V
theorem Mi.Yw{M:Mo}(K:Mi M)(i:Nat):nY M (M.rk i):=⟨K.rf K.x rfl rfl rfl rfl rfl rfl rfl rfl,eQ K.p rfl rfl rfl⟩
theorem Mi.gk{M:Mo}(K:Mi M){r:Nat}(hr:M.hole=some r)(old:Option Nat)(n:I3)(h0:old=none->∀q,M.has q->(M.it q).key≠n.key)(h1:∀p,old=some p->M.has p/\(M.it p).key=n.key):
  FH M (M.gk r old n) n.key (if ON M.k n=0 then some (n.vw,M.C.cl r)else none)/\(M.gk r old n).hole=none/\(M.gk r old n).v.bh=M.v.bh+1:=by
 have g:=K.Yw (M.v.bh+1);cases old with
 |none=>exact⟨g.iP K.p (g.i.jd hr n (h0 rfl)),rfl,rfl⟩
 |some p=>exact⟨g.iP K.p (g.i.om hr (h1 p rfl).1 n (h1 p rfl).2),rfl,rfl⟩
theorem Mi.room{M:Mo}(K:Mi M)(hh:M.hole=none){j:Nat}(A:lH M (j+1)){n c:Nat}(hc:M.C.ae.findIdx? (λz=>decide (n<=z))=some c)(own:Option Nat):
  ∃r N,M.room n own=(some r,N)/\nY M N/\N.hole=some r/\¬M.has r/\N={M with C:=N.C,hole:=some r}/\N.C.cl r=c/\lH N j/\M.take c=some (r,N):=by
 have cL:c<M.eR:=(abc.1 hc).1;obtain⟨p,D,hD,hs⟩:=E2 K.k cL (by have:=A.sp;omega);have ht:M.take c=some (p,{M with C:=D,hole:=some p}):=by unfold Mo.take;rw[hD]
 obtain⟨G,h1,h2,h3,h4,_,_⟩:=K.take hh cL ht;refine⟨p,_, ?_,G,h1,h2,h3,h4,⟨A.on, ?_⟩,ht⟩
 ·unfold Mo.room
  rw[hc];dsimp only;unfold Mo.pI;rw[ht]
 have:=A.sp;show j<=D.spare;omega
structure eG where
 f:List UInt8->Option (I3×Nat)
 k:Ck
 i:Nat
 c:nZ
 z:List Nat
def Mo.ps (M:Mo):eG:=⟨M.ph,M.k,M.v.bh,M.v.c,M.C.ae⟩
def eG.set (P:eG)(y:List UInt8)(o:Option (I3×Nat)):eG:={P with f:=λz=>if z=y then o else P.f z}
def eG.num (P:eG)(i:Nat):eG:={P with i:=i}
def eG.put (P:eG)(x:I3)(c:Nat):eG:=P.set x.key (if ON P.k x=0 then some (x,c)else none)
structure cy (T:List UInt8->Prop)(N:Mo)(P:eG):Prop where
 i:Mi N
 h:N.hole=none
 p:N.ps=P
 t:∀q,N.has q->T (N.it q).key
theorem o3{M N:Mo}(P:Pl M)(G:nY M N)(e:N.v.bh=M.v.bh)(e2:N.v.c=M.v.c):N.ps=M.ps:=by
 unfold Mo.ps;rw[e,e2,G.s.z,G.s.k,show N.ph=M.ph from funext (G.s.s P)]
theorem Gp{M N:Mo}{y:List UInt8}{o:Option (I3×Nat)}(U:FH M N y o)(e2:N.v.c=M.v.c):N.ps=(M.ps.set y o).num N.v.bh:=by
 unfold Mo.ps eG.set eG.num;rw[U.k,e2,U.z,show N.ph=_ from funext U.s]
theorem cy.go{M N:Mo}{P:eG}{T:List UInt8->Prop}(S:cy T M P)(G:nY M N)(h:N.hole=none)(e:N.v.bh=M.v.bh)(e2:N.v.c=M.v.c):cy T N P:=⟨G.i,h,(o3 S.i.p G e e2).trans S.p,λq hq=>by
  obtain⟨r,h2,e2⟩:=G.s.d q hq;rw[pQ e2];exact S.t r h2⟩
theorem cy.iP{M N:Mo}{P:eG}{T:List UInt8->Prop}(S:cy T M P){y:List UInt8}{o:Option (I3×Nat)}(U:FH M N y o)(hy:T y)(h:N.hole=none){i:Nat}(e:N.v.bh=i)(e2:N.v.c=M.v.c):cy T N ((P.set y o).num i):=⟨U.i,h,by rw[Gp U e2,S.p,e],λq hq=>by
  rcases U.d q hq with g|⟨r,h2,e2⟩
  ·rw[g];exact hy
  rw[<-e2];exact S.t r h2⟩
theorem cy.bh{M:Mo}{P:eG}{T:List UInt8->Prop}(S:cy T M P):P.i=M.v.bh:=by rw[<-S.p];rfl
theorem cy.v8{M:Mo}{P:eG}{T:List UInt8->Prop}(S:cy T M P):P.k=M.k:=by rw[<-S.p];rfl
theorem cy.f{M:Mo}{P:eG}{T:List UInt8->Prop}(S:cy T M P):P.f=M.ph:=by rw[<-S.p];rfl
theorem cy.cfg{M:Mo}{P:eG}{T:List UInt8->Prop}(S:cy T M P):P.c=M.v.c:=by rw[<-S.p];rfl
theorem cy.mC{M:Mo}{P:eG}{T:List UInt8->Prop}(S:cy T M P):P.z=M.C.ae:=by rw[<-S.p];rfl
theorem cy.meet{M:Mo}{P:eG}{T:List UInt8->Prop}(S:cy T M P)(y:List UInt8):cy T (M.meet y).2 P/\(∀p,(M.meet y).1=some p->(M.meet y).2.has p/\((M.meet y).2.it p).key=y/\(M.meet y).2.cn p=0/\P.f y=some ((M.meet y).2.vw p))/\
  ((M.meet y).1=none->P.f y=none/\∀q,(M.meet y).2.has q->((M.meet y).2.it q).key≠y):=by
 obtain⟨G,_,hh⟩:=S.i.meet y;refine⟨S.go G (hh.trans S.h) (wM M y).2.2.2.2.1 (wM M y).2.2.2.1,λp hp=> ?_,λhn=> ?_⟩
 ·rw[S.f]
  unfold Mo.meet at hp⊢;cases hf:M.find y with
  |none=>rw[hf]at hp;cases hp
  |some r=>
   rw[hf]at hp;dsimp only at hp⊢;obtain⟨h1,h2⟩:=(kG S.i.p).1 hf;by_cases hw:M.cn r≠0
   ·rw[if_pos hw]at hp;cases hp
   rw[if_neg hw]at hp⊢;cases hp;have hw:M.cn p=0:=Decidable.of_not_not hw;exact⟨h1,h2,hw,by rw[<-h2,wG S.i.p h1,if_pos hw];rfl⟩
 rw[S.f];unfold Mo.meet at hn⊢;cases hf:M.find y with
 |none=>exact⟨B8 (Qq S.i.p hf),Qq S.i.p hf⟩
 |some r=>
  rw[hf]at hn;dsimp only at hn⊢;obtain⟨h1,h2⟩:=(kG S.i.p).1 hf;by_cases hw:M.cn r≠0
  ·rw[if_pos hw]
   refine⟨by rw[<-h2,wG S.i.p h1,if_neg hw],λq hq e=> ?_⟩;obtain⟨a,b⟩:=(lE S.i.p).1 hq;exact b (S.i.p.kd q r a h1 (e.trans h2.symm))
  rw[if_neg hw]at hn;cases hn
def iA.vw (a:iA):iA:={a with eA:=a.eA.map I3.vw}
structure Rm where
 ok:Bool
 v:Option (List UInt8)
def eG.rm (P:eG)(m:Rm):eG:=match m.v with
 |none=>P
 |some y=>P.set y none
structure ahc (M N:Mo)(P:eG)(own o:Option Nat)(c:Nat)(m:Rm):Prop where
 i:Mi N
 p:N.ps=P.rm m
 ok:m.ok=o.isSome
 no:o=none->N.hole=none
 r:∀r,o=some r->N.hole=some r/\N.C.cl r=c
 own:∀y,m.v=some y->∀p,own=some p->M.has p->y≠(M.it p).key
 v:∀y,m.v=some y->P.f y≠none
 dr:N.v.mt.dr=if m.v.isSome=true then cE (M.v.mt.dr+1)else M.v.mt.dr
theorem acM{Q:List (List Nat)}{c p:Nat}(h:p∈lM Q c):∃i,p∈ql Q i:=by
 unfold lM at h;simp only[List.mem_append,List.mem_reverse]at h;rcases h with(h|h)|h
 ·exact⟨_,h⟩
 ·exact⟨_,h⟩
 exact⟨_,h⟩
theorem Ta{dd act:Nat->Bool}{own:Option Nat}{n:Nat}{l:List Nat}{p:Nat}{d:Bool}{k:Nat}(h:mL dd act own n l=(some p,d,k)):p∈l/\some p≠own/\dd p=d:=by
 have sub:∀q∈(dg own l).take n,q∈l/\some q≠own:=λq hq=>by
  have:=List.mem_of_mem_take hq;unfold dg at this;rw[aba]at this;exact⟨this.1,by simpa using this.2⟩
 unfold mL zP at h;cases hf:((dg own l).take n).findIdx? dd with
 |some i=>
  rw[hf]at h;simp only[Prod.mk.injEq]at h;obtain⟨h1,h2,h3⟩:=h;obtain⟨a,b,_⟩:=abc.1 hf;rw[aaQ a,Option.some.injEq]at h1;have:=sub p (h1▸List.getElem_mem a);exact⟨this.1,this.2,by rw[<-h2,<-h1];exact b⟩
 |none=>
  rw[hf]at h;simp only[Prod.mk.injEq]at h;obtain⟨h1,h2,h3⟩:=h;have hm:p∈(dg own l).take n:=by
   split at h1
   ·next q hq=>cases h1;exact afH hq
   exact List.mem_of_mem_head? h1
  have:=sub p hm;refine⟨this.1,this.2, ?_⟩;rw[<-h2];have:=af4.1 hf p hm
  simpa using this
theorem Mi.AD{M:Mo}(K:Mi M)(c:Nat):nY M (M.cP c):=⟨K.rf K.x rfl rfl rfl rfl rfl rfl rfl rfl,eQ K.p rfl rfl rfl⟩
theorem QH{M N:Mo}(K:Mi M)(hh:M.hole=none){c p:Nat}(hc:c<M.eR)(hp:M.has p){o:Option Nat}(h:M.last c p=(o,N)):
  nY (M.ca p) N/\(o=none->N.hole=none)/\(∀r,o=some r->N.hole=some r/\N.C.cl r=c)/\N.v.bh=M.v.bh/\N.v.mt=M.v.mt/\N.v.c=M.v.c:=by
 have A:=K.ca hp;unfold Mo.last at h;cases ht:(M.ca p).take c with
 |none=>
  rw[ht]at h;cases h;exact⟨⟨A, .refl A.p⟩,λ_=>hh,(λr e=>by cases e),rfl,rfl,rfl⟩
 |some x=>
  obtain⟨r,D⟩:=x;rw[ht]at h;cases h;obtain⟨G,h1,h2,h3,h4,_,_⟩:=A.take (show(M.ca p).hole=none from hh) (show c<(M.ca p).eR from hc) ht;exact⟨G,(λe=>by cases e),λq e=>by cases e;exact⟨h1,h4⟩,by rw[h3];rfl,by rw[h3];rfl,by rw[h3];rfl⟩
theorem EI{M N:Mo}{P:eG}{T:List UInt8->Prop}(S:cy T M P){c:Nat}(hc:c<M.eR)(own:Option Nat){o:Option Nat}(h:M.iy c own=(o,N)):∃m,ahc M N P own o c m:=by
 have KM:=S.i;have hh:=S.h;unfold Mo.iy at h;rcases hpk:M.pick c own with⟨v,d,k⟩
 rw[hpk]at h;dsimp only at h;have G0:=KM.xn {M.v.mt with lo:=cE (M.v.mt.lo+(k:Int))};have p0:=o3 KM.p G0 rfl rfl;rcases v with _|p
 ·cases d with
  |true=>
   cases h;exact⟨⟨false,none⟩,G0.i,p0.trans S.p,rfl,λ_=>hh,(λr e=>by cases e),(λy e=>by cases e),(λy e=>by cases e),rfl⟩
  |false=>
   have G1:=G0.i.AD c;have p1:=o3 G0.i.p G1 rfl rfl;cases h;exact⟨⟨false,none⟩,G1.i,p1.trans (p0.trans S.p),rfl,λ_=>hh,(λr e=>by cases e),(λy e=>by cases e),(λy e=>by cases e),rfl⟩
 obtain⟨m1,m2,m3⟩:=Ta hpk;have hp:M.has p:=acM m1;cases d with
 |true=>
  have hw:M.cn p≠0:=by simpa using m3
  have G1:=G0.i.xn {(M.aU {M.v.mt with lo:=cE (M.v.mt.lo+(k:Int))}).v.mt with re:=cE ((M.aU {M.v.mt with lo:=cE (M.v.mt.lo+(k:Int))}).v.mt.re+1)};have p1:=o3 G0.i.p G1 rfl rfl;obtain⟨G2,n1,n2,n3,n4,n5⟩:=QH G1.i hh hc (p:=p) hp h;have A:nY _ _:=G1.i.Ct (p:=p) hp hw;have p2:=o3 G1.i.p A rfl rfl;have p3:=o3 A.i.p G2 n3 n5;refine⟨⟨o.isSome,none⟩,G2.i, ?_,rfl,n1,n2,(λy e=>by cases e),(λy e=>by cases e),by rw[n4];rfl⟩;exact p3.trans (p2.trans (p1.trans (p0.trans S.p)))
 |false=>
  have hw:M.cn p=0:=by simpa using m3
  have G1:=G0.i.AD c;have p1:=o3 G0.i.p G1 rfl rfl;have G1b:=G1.i.xn {((M.aU {M.v.mt with lo:=cE (M.v.mt.lo+(k:Int))}).cP c).v.mt with dr:=cE (((M.aU {M.v.mt with lo:=cE (M.v.mt.lo+(k:Int))}).cP c).v.mt.dr+1)};have p1b:=o3 G1.i.p G1b rfl rfl;obtain⟨G2,n1,n2,n3,n4,n5⟩:=QH G1b.i hh hc (p:=p) hp h;have U:=G1b.i.xM (p:=p) hp;have p2:=Gp U rfl;have p3:=o3 U.i.p G2 n3 n5;refine⟨⟨o.isSome,some (M.it p).key⟩,G2.i, ?_,rfl,n1,n2,λy e q eq hq=> ?_,λy e=> ?_,by rw[n4];rfl⟩
  ·rw[p3,p2,p1b,p1,p0,S.p]
   show(P.set (M.it p).key none).num M.v.bh=P.set (M.it p).key none;rw[<-S.bh];rfl
  ·cases e
   exact λe=>m2 (by rw[eq,KM.p.kd p q hp hq e])
  cases e;rw[S.f,wG KM.p hp,if_pos hw];simp
theorem cy.room{M N:Mo}{P:eG}{T:List UInt8->Prop}(S:cy T M P){n c:Nat}(hc:M.C.ae.findIdx? (λz=>decide (n<=z))=some c)(own:Option Nat){o:Option Nat}(h:M.room n own=(o,N)):∃m,ahc M N P own o c m/\(lH M 1->m=⟨true,none⟩):=by
 have cL:c<M.eR:=(abc.1 hc).1;by_cases A:lH M 1
 ·obtain⟨r,D,e,G,h1,h2,h3,h4,_,_⟩:=S.i.room S.h (j:=0) A hc own
  rw[e]at h;cases h;exact⟨⟨true,none⟩,⟨G.i,(o3 S.i.p G (by rw[h3]) (by rw[h3])).trans S.p,rfl,(λe=>by cases e),λq e=>by cases e;exact⟨h1,h4⟩,(λy e=>by cases e),(λy e=>by cases e),by rw[h3];rfl⟩,λ_=>rfl⟩
 unfold Mo.room at h;rw[hc]at h;dsimp only at h;unfold Mo.pI at h;cases ht:M.take c with
 |some x=>
  obtain⟨r,D⟩:=x;rw[ht]at h;cases h;obtain⟨G,h1,h2,h3,h4,_,_⟩:=S.i.take S.h cL ht;exact⟨⟨true,none⟩,⟨G.i,(o3 S.i.p G (by rw[h3]) (by rw[h3])).trans S.p,rfl,(λe=>by cases e),λq e=>by cases e;exact⟨h1,h4⟩,(λy e=>by cases e),(λy e=>by cases e),by rw[h3];rfl⟩,λa=>absurd a A⟩
 |none=>
  rw[ht]at h;dsimp only at h
  split at h
  ·next g=>
   obtain⟨G,hh⟩:=S.i.mstop g.1;have S1:cy T M.mstop P:=S.go G (hh.trans S.h) rfl rfl;cases qq:M.mstop.take c with
   |some x=>
    obtain⟨r,D⟩:=x;rw[qq]at h;cases h;obtain⟨G2,h1,h2,h3,h4,_,_⟩:=S1.i.take S1.h (show c<M.mstop.eR from cL) qq;exact⟨⟨true,none⟩,⟨G2.i,(o3 S1.i.p G2 (by rw[h3]) (by rw[h3])).trans S1.p,rfl,(λe=>by cases e),λq e=>by cases e;exact⟨h1,h4⟩,(λy e=>by cases e),(λy e=>by cases e),by rw[h3];rfl⟩,λa=>absurd a A⟩
   |none=>
    rw[qq]at h;obtain⟨m,R⟩:=EI S1 (show c<M.mstop.eR from cL) own h;exact⟨m,⟨R.i,R.p,R.ok,R.no,R.r,R.own,R.v,R.dr⟩,λa=>absurd a A⟩
  obtain⟨m,R⟩:=EI S cL own h;exact⟨m,R,λa=>absurd a A⟩
def IX (aH:Int)(KL:Nat)(o:Option (I3×Nat)):Nat:=bb aH KL (o.map λx=>x.1.tok) id
theorem Y2 (M:Mo)(aH:Int)(KL:Nat)(old:Option Nat):bb aH KL old (λp=>(M.it p).tok)=IX aH KL (old.map M.vw):=by cases old<;>rfl
def eG.sV (P:eG)(c:fe)(k:List UInt8)(o:Option (I3×Nat)):Option (List UInt8×Nat×Nat):=
 if FK c.aH=true then some (c.data,c.fl,gL P.k.now c.ex)else match o with
 |none=>none
 |some x=>if P.c.lim<58+k.length+c.data.length+x.1.val.length then none else some (if c.aH=8 then x.1.val++c.data else c.data++x.1.val,x.1.fl,x.1.exp)
def eG.over (P:eG)(k:List UInt8)(ov:Bool):eG:=if ov=true then P.set k none else P
def PW (mC:List Nat)(n:Nat):Nat:=(mC.findIdx? λz=>decide (n<=z)).getD 0
def eG.lays (m:Rm)(P:eG)(k:List UInt8)(ov:Bool)(x:List UInt8×Nat×Nat):iA×eG:=
 if m.ok=true then(.k 1,((P.rm m).put ⟨k,x.1,x.2.1,x.2.2,P.k.now,P.i+1,0⟩ (PW P.z (58+k.length+x.1.length))).num (P.i+1))else(.t js,(P.rm m).over k ov)
def eG.dJ (m:Rm)(P:eG)(c:fe)(k:List UInt8):iA×eG:=
 if c.lg=true\/P.c.lim<58+k.length+c.data.length then(.t dS,P.over k (FK c.aH))
 else if IX c.aH c.tok (P.f k)≠0 then(.k (IX c.aH c.tok (P.f k)),P)
 else match P.sV c k (P.f k)with
  |none=>(.t dS,P)
  |some x=>P.lays m k (FK c.aH) x
def eG.fW (m:Rm)(P:eG)(c:fe):iA×eG:=P.dJ m c (c.keys.headD [])
structure VP (M N:Mo)(P:eG)(k:List UInt8)(m:Rm):Prop where
 v:∀y,m.v=some y->P.f y≠none/\y≠k
 dr:N.v.mt.dr=if m.v.isSome=true then cE (M.v.mt.dr+1)else M.v.mt.dr
 am:lH M 1->m=⟨true,none⟩
theorem VP.none{M N:Mo}{P:eG}{k:List UInt8}(h:N.v.mt.dr=M.v.mt.dr):VP M N P k ⟨true,none⟩:=⟨(λy e=>by cases e),h,λ_=>rfl⟩
theorem VP.of{M N O:Mo}{P:eG}{k:List UInt8}{m:Rm}(R:VP N O P k m)(h:N.v.mt.dr=M.v.mt.dr)(a:lH M 1->lH N 1):VP M O P k m:=⟨R.v,by rw[<-h];exact R.dr,λg=>R.am (a g)⟩
def eG.Fits (P:eG):Prop:=∀n:Nat,(n:Int)<=P.c.lim->∃c,P.z.findIdx? (λz=>decide (n<=z))=some c
theorem acu{P:eG}{k:List UInt8}(h:P.f k=none):P.set k none=P:=by
 unfold eG.set;have e:(λz=>if z=k then none else P.f z)=P.f:=funext λz=>by
  by_cases g:z=k
  ·rw[if_pos g,g,h]
  rw[if_neg g]
 rw[e]
theorem rm_f{P:eG}{m:Rm}{k:List UInt8}(h:∀y,m.v=some y->y≠k):(P.rm m).f k=P.f k:=by
 unfold eG.rm
 split
 ·rfl
 next y e=>exact if_neg λg=>h y e g.symm
theorem ahP (P:eG)(m:Rm):(P.rm m).k=P.k/\(P.rm m).i=P.i:=by
 unfold eG.rm
 split<;>exact⟨rfl,rfl⟩
theorem cy.over{M:Mo}{P:eG}{T:List UInt8->Prop}(S:cy T M P){k:List UInt8}{old:Option Nat}(h0:old=none->P.f k=none)(h1:∀p,old=some p->M.has p/\(M.it p).key=k)(ov:Bool):cy T (M.over old ov) (P.over k ov):=by
 unfold Mo.over eG.over;cases old with
 |none=>
  rw[acu (h0 rfl)]
  simpa using S
 |some p=>
  obtain⟨a,b⟩:=h1 p rfl;cases ov with
  |false=>simpa using S
  |true=>
   simp only[if_true];have U:=S.i.xM a;rw[b]at U;exact S.iP U (by rw[<-b];exact S.t p a) S.h (i:=P.i) S.bh.symm rfl
theorem Jr (M:Mo)(old:Option Nat)(ov:Bool):(M.over old ov).v.mt=M.v.mt:=by
 unfold Mo.over;cases old with
 |none=>rfl
 |some p=>cases ov<;>rfl
theorem Yh (M:Mo)(r:Nat)(old:Option Nat)(n:I3):(M.gk r old n).v.mt=M.v.mt:=by
 unfold Mo.gk;cases old<;>rfl
theorem XZ (M:Mo)(k:List UInt8):(M.meet k).2.v.mt=M.v.mt:=by
 unfold Mo.meet
 split
 ·rfl
 ·split<;>rfl
theorem adk (M:Mo)(r:Nat)(old:Option Nat)(n:I3):(M.gk r old n).v.c=M.v.c:=by
 unfold Mo.gk;cases old<;>rfl
theorem WK (k v:List UInt8)(fl ex t n:Nat):(⟨k,v,fl,ex,t,n,0⟩:I3).vw=⟨k,v,fl,ex,t,n,0⟩:=by
 unfold I3.vw;simp only[Nat.zero_div,Nat.zero_mul]
theorem cy.laid{M:Mo}{P:eG}{T:List UInt8->Prop}(S:cy T M P){k:List UInt8}(hT:T k){n c:Nat}(hc:M.C.ae.findIdx? (λz=>decide (n<=z))=some c)(old:Option Nat)(h0:old=none->P.f k=none/\∀q,M.has q->(M.it q).key≠k)(h1:∀p,old=some p->M.has p/\(M.it p).key=k/\P.f k≠none){o:Option Nat}{N:Mo}(hr:M.room n old=(o,N)):
  ∃m,m.ok=o.isSome/\VP M N P k m/\(o=none->cy T N (P.rm m))/\(∀p,old=some p->N.has p/\(N.it p).key=k)/\(∀r,o=some r->∀v fl ex,cy T (N.gk r old ⟨k,v,fl,ex,N.k.now,N.v.bh+1,0⟩) (((P.rm m).put ⟨k,v,fl,ex,P.k.now,P.i+1,0⟩ c).num (P.i+1))):=by
 obtain⟨m,R,ha⟩:=S.room hc old hr;have Y:=wH S.i.co hr;have ne:∀y,m.v=some y->y≠k:=λy e g=>by
  cases old with
  |none=>exact R.v y e (by rw[g];exact(h0 rfl).1)
  |some p=>exact R.own y e p rfl (h1 p rfl).1 (by rw[g,(h1 p rfl).2.1])
 have ht:∀q,N.has q->T (N.it q).key:=λq hq=>by rw[Y.s.it];exact S.t q (Y.s.has q hq)
 have hold:∀p,old=some p->N.has p/\(N.it p).key=k:=λp e=>⟨(Y.s.own p e (h1 p e).1).1,by rw[Y.s.it];exact(h1 p e).2.1⟩;refine⟨m,R.ok,⟨λy e=>⟨R.v y e,ne y e⟩,R.dr,ha⟩,λe=>⟨R.i,R.no e,R.p,ht⟩,hold,λr e v fl ex=> ?_⟩;obtain⟨r1,r2⟩:=R.r r e;obtain⟨U,u1,u2⟩:=R.i.gk r1 old ⟨k,v,fl,ex,N.k.now,N.v.bh+1,0⟩ (λe q hq=>by rw[Y.s.it];exact(h0 e).2 q (Y.s.has q hq)) hold;have q1:P.k=N.k:=by rw[S.v8,Y.s.k]
 have q2:P.i=N.v.bh:=by rw[S.bh,Y.s.bh]
 refine⟨U.i,u1, ?_,λq hq=>by
  rcases U.d q hq with g|⟨w,h2,e2⟩
  ·rw[g];exact hT
  rw[<-e2];exact ht w h2⟩
 rw[Gp U (adk _ _ _ _),R.p,u2,r2];unfold eG.put;rw[(ahP P m).1,q1,q2,WK]
theorem cy.lays{M:Mo}{P:eG}{T:List UInt8->Prop}(S:cy T M P)(F:P.Fits){old:Option Nat}{k:List UInt8}(hT:T k)(h0:old=none->P.f k=none/\∀q,M.has q->(M.it q).key≠k)(h1:∀p,old=some p->M.has p/\(M.it p).key=k/\P.f k≠none)(ov:Bool)(x:List UInt8×Nat×Nat)(hx:(58+k.length+x.1.length:Nat)<=P.c.lim):
  ∃m,cy T (M.lays k old ov x).2 (P.lays m k ov x).2/\(M.lays k old ov x).1.vw=(P.lays m k ov x).1/\VP M (M.lays k old ov x).2 P k m:=by
 obtain⟨c,hc⟩:=F _ hx;have cR:PW P.z (58+k.length+x.1.length)=c:=by unfold PW;rw[hc];rfl
 rw[S.mC]at hc;rcases hr:M.room (58+k.length+x.1.length) old with⟨o,N⟩
 obtain⟨m,m1,m2,m3,m4,m5⟩:=S.laid hT hc old h0 h1 hr;refine⟨m, ?_⟩;unfold Mo.lays eG.lays;rw[hr,cR];cases o with
 |none=>
  dsimp only;rw[m1,if_neg (by decide)];refine⟨(m3 rfl).over (λe=>by rw[rm_f λy e=>(m2.v y e).2];exact(h0 e).1) m4 ov,rfl,m2.v, ?_,m2.am⟩;rw[Jr];exact m2.dr
 |some r=>
  dsimp only;rw[m1,if_pos (by rfl)];refine⟨m5 r rfl x.1 x.2.1 x.2.2,rfl,m2.v, ?_,m2.am⟩;rw[Yh];exact m2.dr
theorem cy.jo{M:Mo}{P:eG}{T:List UInt8->Prop}(S:cy T M P)(F:P.Fits){old:Option Nat}{k:List UInt8}(hT:T k)(h0:old=none->P.f k=none/\∀q,M.has q->(M.it q).key≠k)(h1:∀p,old=some p->M.has p/\(M.it p).key=k/\P.f k=some (M.vw p))(c:fe):
  ∃m,cy T (M.jo c k old).2 (P.dJ m c k).2/\(M.jo c k old).1.vw=(P.dJ m c k).1/\VP M (M.jo c k old).2 P k m:=by
 have y7:∀p,old=some p->M.has p/\(M.it p).key=k/\P.f k≠none:=λp e=>⟨(h1 p e).1,(h1 p e).2.1,by rw[(h1 p e).2.2];simp⟩;have ef:P.f k=old.map M.vw:=by
  cases old with
  |none=>exact(h0 rfl).1
  |some p=>exact(h1 p rfl).2.2
 have en:M.sV c k old=P.sV c k (P.f k):=by
  rw[ef];unfold Mo.sV eG.sV;rw[S.v8,S.cfg];cases old<;>rfl
 unfold Mo.jo eG.dJ;rw[Y2,<-ef,en,S.cfg];by_cases g1:c.lg=true\/M.v.c.lim<58+k.length+c.data.length
 ·rw[if_pos g1]
  simp only[if_pos g1];exact⟨⟨true,none⟩,S.over (λe=>(h0 e).1) (λp e=>⟨(h1 p e).1,(h1 p e).2.1⟩) _,rfl, .none (by rw[Jr])⟩
 rw[if_neg g1];simp only[if_neg g1];by_cases g2:IX c.aH c.tok (P.f k)≠0
 ·rw[if_pos g2]
  simp only[if_pos g2];exact⟨⟨true,none⟩,S,rfl, .none rfl⟩
 rw[if_neg g2];simp only[if_neg g2];cases hx:P.sV c k (P.f k)with
 |none=>exact⟨⟨true,none⟩,S,rfl, .none rfl⟩
 |some x=>
  refine S.lays F hT h0 y7 (FK c.aH) x ?_;unfold eG.sV at hx;rw[S.cfg]at hx⊢;have g3:¬M.v.c.lim<58+k.length+c.data.length:=λh=>g1 (.inr h)
  split at hx
  ·cases hx
   simp only;omega
  split at hx
  ·cases hx
  next y hy=>
  split at hx
  ·cases hx
  cases hx;simp only
  split<;>rw[aaZ]<;>omega
theorem cy.dJ{M:Mo}{P:eG}{T:List UInt8->Prop}(S:cy T M P)(F:P.Fits)(c:fe)(k:List UInt8)(hT:T k):
  ∃m,cy T (M.dJ c k).2 (P.dJ m c k).2/\(M.dJ c k).1.vw=(P.dJ m c k).1/\VP M (M.dJ c k).2 P k m:=by
 obtain⟨S1,h1,h2⟩:=S.meet k;obtain⟨m,a,b,d⟩:=S1.jo (old:=(M.meet k).1) (k:=k) F hT h2 (λp e=>⟨(h1 p e).1,(h1 p e).2.1,(h1 p e).2.2.2⟩) c;exact⟨m,a,b,d.of (by rw[XZ]) λA=>A.meet k⟩
theorem cy.fW{M:Mo}{P:eG}{T:List UInt8->Prop}(S:cy T M P)(F:P.Fits)(c:fe)(hv:5<=c.aH/\c.aH<=10)(hT:T (c.keys.headD [])):
  ∃m,cy T (M.fW c).2 (P.fW m c).2/\(M.fW c).1.vw=(P.fW m c).1/\VP M (M.fW c).2 P (c.keys.headD []) m:=by
 unfold Mo.fW eG.fW;rw[if_neg (by omega),if_neg (by omega),if_neg (by omega),if_neg (by omega),if_neg (by omega),if_neg (by omega),if_neg (by omega),if_neg (by omega)];exact S.dJ F c _ hT
def eG.dO (m:Rm)(P:eG)(c:fe):iA×eG:=if Bg c=true then(.t Bi,P)else P.fW m c
theorem AQ (M:Mo):M.beside.v.mt.dr=M.v.mt.dr:=by
 unfold Mo.beside Mo.lz Mo.jG Mo.fw Mo.aU;rfl
theorem N3 (hot warm:Nat)(M:Mo)(k:List UInt8):(M.behind hot warm k).v.mt.dr=M.v.mt.dr:=by
 unfold Mo.behind;rw[AQ];unfold Mo.py
 split<;>rfl
theorem cy.beside{M:Mo}{P:eG}{T:List UInt8->Prop}(S:cy T M P):cy T M.beside P:=S.go (S.i.beside S.h).1 (S.i.beside S.h).2 (nX M).bh (nX M).c
theorem cy.behind{M:Mo}{P:eG}{T:List UInt8->Prop}(S:cy T M P)(hot warm:Nat)(k:List UInt8):cy T (M.behind hot warm k) P:=S.go (S.i.behind S.h hot warm k).1 (S.i.behind S.h hot warm k).2 (vp hot warm M k).bh (vp hot warm M k).c
theorem cy.mQ{P:eG}{T:List UInt8->Prop}(hot warm:Nat):∀(l:List (List UInt8)) {M:Mo},cy T M P->cy T (l.foldl (Mo.behind hot warm) M) P
 | [],_,S=>S
 |k::l,_,S=>cy.mQ hot warm l (S.behind hot warm k)
theorem yG (hot warm:Nat):∀(l:List (List UInt8)) (M:Mo),(l.foldl (Mo.behind hot warm) M).v.mt.dr=M.v.mt.dr
 | [],_=>rfl
 |k::l,M=>by rw[af8,yG hot warm l,N3]
theorem cy.reset{M:Mo}{P:eG}{T:List UInt8->Prop}(S:cy T M P):cy T M.reset P:=S.go S.i.T8 S.h rfl rfl
theorem lH.of{M N:Mo}{j:Nat}(A:lH M j)(h1:N.m.on=M.m.on)(h2:N.C=M.C):lH N j:=A.ev (.rf h1 h2)
theorem cy.dO{M:Mo}{P:eG}{T:List UInt8->Prop}(S:cy T M P)(F:P.Fits)(hot warm:Nat)(c:fe)(hv:5<=c.aH/\c.aH<=10)(hT:T (c.keys.headD [])):
  ∃m,cy T (M.dO hot warm c).2 (P.dO m c).2/\(M.dO hot warm c).1.vw=(P.dO m c).1/\(∀y,m.v=some y->P.f y≠none/\y≠c.keys.headD [])/\(M.dO hot warm c).2.v.mt.dr=(if m.v.isSome=true then 1 else 0)/\(lH M 1->m=⟨true,none⟩):=by
 unfold Mo.dO eG.dO
 split
 ·exact⟨⟨true,none⟩,S.reset,rfl,(λy e=>by cases e),rfl,λ_=>rfl⟩
 obtain⟨m,a,b,d⟩:=S.reset.fW F c hv hT;have hd:(M.reset.fW c).2.v.mt.dr=(if m.v.isSome=true then 1 else 0):=by
  rw[d.dr]
  split<;>rfl
 split
 ·exact⟨m,a.beside,b,d.v,by rw[AQ];exact hd,λA=>d.am (A.of rfl rfl)⟩
 exact⟨m,a.mQ hot warm _,b,d.v,by rw[yG];exact hd,λA=>d.am (A.of rfl rfl)⟩
def OM (M N:Mo):Prop:=∃A B,Ev M A/\(B=A\/∃c r,Mi A/\c<A.C.ae.length/\A.take c=some (r,B))/\Ev B N
theorem Ev.one{M N:Mo}(E:Ev M N):OM M N:=⟨N,N,E, .inl rfl, .rf rfl rfl⟩
theorem Ev.then{M N O:Mo}(E:Ev M N)(F:OM N O):OM M O:=by
 obtain⟨A,B,h1,h2,h3⟩:=F;exact⟨A,B,E.trans h1,h2,h3⟩
theorem OM.then{M N O:Mo}(F:OM M N)(E:Ev N O):OM M O:=by
 obtain⟨A,B,h1,h2,h3⟩:=F;exact⟨A,B,h1,h2,h3.trans E⟩
theorem Ev.over (M:Mo)(old:Option Nat)(ov:Bool):Ev M (M.over old ov):=by
 unfold Mo.over
 split
 ·split
  ·exact Ev.ca M _
  exact .rf rfl rfl
 exact .rf rfl rfl
theorem wI{M:Mo}(K:Mi M)(hh:M.hole=none)(A:lH M 1)(n:Nat)(own:Option Nat){o:Option Nat}{N:Mo}(h:M.room n own=(o,N)):N=M\/∃c r,Mi M/\c<M.C.ae.length/\M.take c=some (r,N):=by
 cases hc:M.C.ae.findIdx? (λz=>decide (n<=z))with
 |none=>
  unfold Mo.room at h;rw[hc]at h;cases h;exact .inl rfl
 |some c=>
  obtain⟨r,D,e,_,_,_,_,_,_,t⟩:=K.room hh (j:=0) A hc own;rw[e]at h;cases h;exact .inr ⟨c,r,K,(abc.1 hc).1,t⟩
theorem Ye{M:Mo}(K:Mi M)(hh:M.hole=none)(A:lH M 1)(k:List UInt8)(old:Option Nat)(ov:Bool)(x:List UInt8×Nat×Nat):OM M (M.lays k old ov x).2:=by
 unfold Mo.lays;rcases hr:M.room (58+k.length+x.1.length) old with⟨_|r,N⟩
 ·exact⟨M,N, .rf rfl rfl,wI K hh A _ _ hr,Ev.over _ _ _⟩
 exact⟨M,N, .rf rfl rfl,wI K hh A _ _ hr,Ev.gk _ _ _ _⟩
theorem Ev.kh (iP:Bool)(ex:Int)(s:List I3×Mo)(y:List UInt8):Ev s.2 (Mo.kh iP ex s y).2:=by
 have e:=Ev.meet s.2 y;unfold Mo.kh;rcases hm:s.2.meet y with⟨_|p,N⟩<;>rw[hm]at e
 ·exact e
 cases iP
 ·exact e.trans (.rf rfl rfl)
 exact e.trans (.rf rfl rfl)
theorem Ev.zi (iP:Bool)(ex:Int):∀(l:List (List UInt8)) (s:List I3×Mo),Ev s.2 (l.foldl (Mo.kh iP ex) s).2
 | [],_=> .rf rfl rfl
 |y::l,s=>by rw[af8];exact(Ev.kh iP ex s y).trans (Ev.zi iP ex l _)
theorem J6{M:Mo}{P:eG}{T:List UInt8->Prop}(S:cy T M P)(A:lH M 1)(c:fe):OM M (M.fW c).2:=by
 unfold Mo.fW
 split
 ·exact(Ev.zi _ _ c.keys ([],M)).one
 split
 ·have e:=Ev.meet M (c.keys.headD [])
  have S1:=(S.meet (c.keys.headD [])).1;have A1:=A.meet (c.keys.headD []);unfold Mo.counts;rcases hm:M.meet (c.keys.headD [])with⟨_|p,N⟩<;>rw[hm]at e S1 A1
  ·exact e.one
  dsimp only at S1 A1⊢;cases uy (N.it p).val with
  |none=>exact e.one
  |some n=>
   refine e.then ?_;dsimp only;unfold Mo.sq
   split
   ·exact Ev.one (by exact .rf rfl rfl)
   split
   ·exact Ev.one (by exact .rf rfl rfl)
   rcases hr:N.room (58+(N.it p).key.length+(gQ (pq c n)).length) (some p)with⟨_|r,R⟩
   ·exact⟨N,R, .rf rfl rfl,wI S1.i S1.h A1 _ _ hr, .rf rfl rfl⟩
   exact⟨N,R, .rf rfl rfl,wI S1.i S1.h A1 _ _ hr,by dsimp only;exact Ev.gk _ _ _ _⟩
 split
 ·have e:=Ev.meet M (c.keys.headD [])
  unfold Mo.ic;rcases hm:M.meet (c.keys.headD [])with⟨_|p,N⟩<;>rw[hm]at e
  ·exact e.one
  exact Ev.one (e.trans (by exact .rf rfl rfl))
 split
 ·have e:=Ev.meet M (c.keys.headD [])
  unfold Mo.delete;rcases hm:M.meet (c.keys.headD [])with⟨_|p,N⟩<;>rw[hm]at e
  ·exact e.one
  exact Ev.one (e.trans (by exact Ev.ca _ _))
 split
 ·exact Ev.one (by exact .rf rfl rfl)
 split
 ·exact Ev.one (by exact .rf rfl rfl)
 split
 ·exact Ev.one (by exact .rf rfl rfl)
 split
 ·exact Ev.one (by exact .rf rfl rfl)
 have e:=Ev.meet M (c.keys.headD []);have S1:=(S.meet (c.keys.headD [])).1;have A1:=A.meet (c.keys.headD []);unfold Mo.dJ;refine e.then ?_;unfold Mo.jo
 split
 ·exact(Ev.over _ _ _).one
 split
 ·exact Ev.one (by exact .rf rfl rfl)
 split
 ·exact Ev.one (by exact .rf rfl rfl)
 exact Ye S1.i S1.h A1 _ _ _ _
theorem WT{M N:Mo}{c r:Nat}(h:M.take c=some (r,N)):M.C.spare<=N.C.spare+1/\N.m=M.m:=by
 unfold Mo.take at h
 split at h
 ·next p D hD=>
  cases h;refine⟨?_,rfl⟩;unfold Cs.eD at hD
  split at hD
  ·cases hD;exact Nat.le_succ _
  split at hD
  ·cases hD
  next i _=>
  split at hD
  ·cases hD
   show M.C.spare<=M.C.spare-1+1;omega
  cases hD
 cases h
theorem OM.amp{M N:Mo}{j:Nat}(A:lH M (j+1))(E:OM M N):lH N j:=by
 obtain⟨B,D,h1,h2,h3⟩:=E;have A1:=A.ev h1;have A2:lH D j:=by
  rcases h2 with rfl|⟨c,r,_,_,h⟩
  ·exact A1.le (Nat.le_succ j)
  obtain⟨g1,g2⟩:=WT h;exact⟨by rw[g2];exact A1.on,by have:=A1.sp;omega⟩
 exact A2.ev h3
theorem aiK{M:Mo}{P:eG}{T:List UInt8->Prop}(S:cy T M P){j:Nat}(A:lH M (j+2))(hot warm:Nat)(c:fe):OM M (M.dO hot warm c).2:=by
 have E0:Ev M M.reset:= .rf rfl rfl;unfold Mo.dO
 split
 ·exact E0.one
 have A0:lH M.reset (j+1+1):=A.ev E0;have E:=J6 S.reset (A0.le (aga (afk _))) c;have A1:=E.amp A0
 split
 ·exact E0.then (E.then (A1.le (aga (afk _))).beside)
 exact E0.then (E.then (lH.mQ hot warm _ A1))
theorem aeQ{M:Mo}{P:eG}{T:List UInt8->Prop}(S:cy T M P){j:Nat}(A:lH M (j+2))(hot warm:Nat)(c:fe):lH (M.dO hot warm c).2 (j+1):=(aiK S A hot warm c).amp A
structure VQ (M:Mo)(s:Nat):Prop where
 st:M.m.st<=s
 tn:M.tn<=s
 bh:M.v.bh<=s
theorem aeP{M:Mo}{P:eG}{T:List UInt8->Prop}(S:cy T M P){s:Nat}(R:VQ M s)(hot warm:Nat)(c:fe):VQ (M.dO hot warm c).2 (s+c.keys.length+1)/\(M.dO hot warm c).2.v.p=M.v.p/\(M.dO hot warm c).2.v.c=M.v.c:=by
 have r1:=R.st;have r2:=R.tn;have r3:=R.bh;unfold Mo.dO
 split
 ·exact⟨⟨by show M.m.st<=_;omega,by show M.tn<=_;omega,by show M.v.bh<=_;omega⟩,rfl,rfl⟩
 have KD:=CB S.reset.i.co S.h c;have k1:_=M.m.st:=KD.st;have k2:_<=M.v.bh+1:=KD.bh;have k3:_<=M.tn+max c.keys.length 1:=KD.tn;have k4:_=M.v.p:=KD.p;have k5:_=M.v.c:=KD.c;generalize (M.reset.fW c).2=N at*
 split
 ·have B:=nX N
  have b1:=B.st;have b2:=B.bh;have b3:=B.tn;exact⟨⟨by dsimp only;omega,by dsimp only;omega,by dsimp only;omega⟩,B.p.trans k4,B.c.trans k5⟩
 have B:=oV hot warm c.keys N;have b1:=B.st;have b2:=B.bh;have b3:=B.tn;exact⟨⟨by dsimp only;omega,by dsimp only;omega,by dsimp only;omega⟩,B.p.trans k4,B.c.trans k5⟩
theorem PB (P:eG)(m:Rm):(P.rm m).c=P.c/\(P.rm m).z=P.z:=by
 unfold eG.rm
 split<;>exact⟨rfl,rfl⟩
theorem Cd (P:eG)(k:List UInt8)(ov:Bool):(P.over k ov).c=P.c/\(P.over k ov).z=P.z:=by
 unfold eG.over
 split<;>exact⟨rfl,rfl⟩
theorem aiL (m:Rm)(P:eG)(c:fe):(P.dO m c).2.c=P.c/\(P.dO m c).2.z=P.z:=by
 unfold eG.dO
 split
 ·exact⟨rfl,rfl⟩
 unfold eG.fW eG.dJ
 split
 ·exact Cd _ _ _
 split
 ·exact⟨rfl,rfl⟩
 split
 ·exact⟨rfl,rfl⟩
 unfold eG.lays
 split
 ·exact PB P m
 exact⟨(Cd _ _ _).1.trans (PB P m).1,(Cd _ _ _).2.trans (PB P m).2⟩
theorem CD{m:Rm}{P:eG}{c:fe}(F:P.Fits):(P.dO m c).2.Fits:=by
 obtain⟨a,b⟩:=aiL m P c;unfold eG.Fits;rw[a,b];exact F
theorem LM{l:List Nat}{p:Nat}(nd:l.Nodup)(h:p∈l)(g:∀q∈l,q=p):l.length=1:=by
 cases l with
 |nil=>cases h
 |cons a r=>
  cases r with
  |nil=>rfl
  |cons b r=>
   have h1:=g a aaV;have h2:=g b (aaW _ aaV);rw[h1,h2]at nd;exact absurd aaV (aa3.1 nd).1
theorem Yc{B:Bx}{M:Mo}{P:eG}{k:List UInt8}(O:bL B M)(S:cy (λy=>y=k) M P)(h:P.f k≠none):M.n=1:=by
 cases hx:P.f k with
 |none=>exact absurd hx h
 |some x=>
  rw[S.f]at hx;obtain⟨p,h1,h2,_,_⟩:=(qd S.i.p).1 hx;rw[<-O.n,O.t.n];refine LM O.t.nd ((O.al p).2 h1) λq hq=> ?_;have g:=(O.al q).1 hq;exact S.i.p.kd q p g h1 ((S.t q g).trans h2.symm)
theorem Jw{c:nZ}{pc:um}{k:Ck}{q:Nat}(h:(fP c pc k).has q):False:=by
 obtain⟨i,hi⟩:=h;rw[show(fP c pc k).Q=List.replicate ((dp c).ae.length*3) []from rfl,Gy]at hi;cases hi
def Dd (c:nZ):eG:=⟨λ_=>none,⟨1,0,0⟩,0,c,bH c⟩
theorem Tq{c:nZ}(h:lx c=0)(pc:um)(T:List UInt8->Prop):cy T (fP c pc ⟨1,0,0⟩) (Dd c):=by
 have O:=Jx h pc ⟨1,0,0⟩ ⟨aa0 _,by decide,by decide,λh=>absurd rfl h,by decide⟩ 0;refine⟨O.mi,rfl, ?_,λq hq=>(Jw hq).elim⟩;unfold Mo.ps Dd;rw[show(fP c pc ⟨1,0,0⟩).ph=λ_=>none from funext λz=>B8 λq hq=>(Jw hq).elim];rfl
theorem XT (c:nZ)(pc:um)(k:Ck):lH (fP c pc k) c.pgs.toNat:=⟨rfl,aa0 _⟩
theorem Jv (c:nZ)(pc:um)(k:Ck):VQ (fP c pc k) 0:=⟨aa0 _,aa0 _,aa0 _⟩
theorem YE{P:eG}{z:Nat}(h:z∈P.z)(hl:P.c.lim<=z):P.Fits:=λn hn=>by
 cases hf:P.z.findIdx? (λz=>decide (n<=z))with
 |some c=>exact⟨c,rfl⟩
 |none=>
  have:=af4.1 hf z h;simp only[decide_eq_false_iff_not]at this;omega
theorem Ya{M:Mo}{P:eG}{T:List UInt8->Prop}(S:cy T M P){k:List UInt8}{x:I3}{c:Nat}(h:P.f k=some (x,c)):∃p,M.live k=some p/\(M.it p).vw=x:=by
 rw[S.f]at h;unfold Mo.ph at h;cases hl:M.live k with
 |none=>rw[hl]at h;cases h
 |some p=>
  rw[hl]at h;simp only[Option.map_some,Option.some.injEq]at h;exact⟨p,rfl,congrArg Prod.fst h⟩
def Ot:Rm:=⟨true,none⟩
theorem xT{M:Mo}{P:eG}{T:List UInt8->Prop}(S:cy T M P)(F:P.Fits){j s:Nat}(A:lH M (j+2))(R:VQ M s)(hot warm:Nat)(c:fe)(hv:5<=c.aH/\c.aH<=10)(hT:T (c.keys.headD [])):
  (cy T (M.dO hot warm c).2 (P.dO Ot c).2/\(M.dO hot warm c).1.vw=(P.dO Ot c).1/\lH (M.dO hot warm c).2 (j+1)/\VQ (M.dO hot warm c).2 (s+c.keys.length+1))/\(M.dO hot warm c).2.v.p=M.v.p/\(M.dO hot warm c).2.v.c=M.v.c:=by
 obtain⟨m,a,b,_,_,h⟩:=S.dO F hot warm c hv hT;obtain rfl:=h (A.le (aga (afk _)));obtain⟨r1,r2,r3⟩:=aeP S R hot warm c;exact⟨⟨a,b,aeQ S A hot warm c,r1⟩,r2,r3⟩
structure Rdy (M:Mo):Prop where
 h:M.hole=none
 st:M.m.st<=1000
 tn:M.tn<=1000
 bh:M.v.bh<=1000
 p:zr M.v.p
 lim:M.v.c.lim<=1048576
structure Rdo (M:Mo)(c:fe):Prop where
 r:Rdy M
 a:lH M 1
 b:lH (M.reset.fW c).2 1
theorem Gw{M:Mo}{P:eG}{T:List UInt8->Prop}(S:cy T M P){s:Nat}(R:VQ M s)(hs:s<=1000)(hp:zr M.v.p)(hl:M.v.c.lim<=1048576):Rdy M:=⟨S.h,ai5 R.st hs,ai5 R.tn hs,ai5 R.bh hs,hp,hl⟩
theorem Gx{M:Mo}{P:eG}{T:List UInt8->Prop}(S:cy T M P){j:Nat}(A:lH M (j+2))(R:Rdy M)(c:fe):Rdo M c:=⟨R,A.le (aga (afk _)),((J6 S.reset ((A.le (aga (afk _))).of rfl rfl) c).amp (A.of rfl rfl:lH M.reset (j+1+1))).le (aga (afk _))⟩
theorem xY:zr ku:=⟨by decide,by decide,by decide,by decide⟩
def cW:nZ:=⟨4096,4,200,64,256,30,30⟩
def uw (v:Int)(fl tok:Nat)(b:UInt8):fe:=⟨v,[[97]],fl,0,tok,0,[b],false,false,[]⟩
theorem aeV:lx cW=0:=by decide+kernel
theorem aeU:rY cW ku=0:=by decide+kernel
theorem pW1:((Dd cW).dO Ot (uw 5 5 0 120)).1.kind=1:=by kernel_rfl
theorem pW2:(((Dd cW).dO Ot (uw 5 5 0 120)).2.dO Ot (uw 10 0 1 121)).1.kind=1:=by kernel_rfl
theorem pW3:((((Dd cW).dO Ot (uw 5 5 0 120)).2.dO Ot (uw 10 0 1 121)).2.dO Ot (uw 10 0 1 122)).1.kind=3:=by kernel_rfl
theorem pWf:((((Dd cW).dO Ot (uw 5 5 0 120)).2.dO Ot (uw 10 0 1 121)).2.dO Ot (uw 10 0 1 122)).2.f [97]=some (⟨[97],[121],0,0,1,2,0⟩,0):=by kernel_rfl
theorem EY (hot warm:Nat):∀r1 r2 r3,(fP cW ku ⟨1,0,0⟩).dO hot warm (uw 5 5 0 120)=r1->r1.2.dO hot warm (uw 10 0 1 121)=r2->r2.2.dO hot warm (uw 10 0 1 122)=r3->
  ((Rdo (fP cW ku ⟨1,0,0⟩) (uw 5 5 0 120)/\Rdo r1.2 (uw 10 0 1 121)/\Rdo r2.2 (uw 10 0 1 122))/\r1.1.kind=1/\r2.1.kind=1/\r3.1.kind=3)/\∃P,cy (λy=>y= [97]) r3.2 P/\P.f [97]=some (⟨[97],[121],0,0,1,2,0⟩,0):=by
 intro r1 r2 r3 e1 e2 e3;have w0:(fP cW ku ⟨1,0,0⟩).v.c.lim<=1048576:=show(256:Int)<=1048576 by decide
 have F0:(Dd cW).Fits:=YE (z:=256) (show 256∈bH cW by decide+kernel) (by decide);have S0:cy (λy=>y= [97]) (fP cW ku ⟨1,0,0⟩) (Dd cW):=Tq aeV ku _;have A0:lH (fP cW ku ⟨1,0,0⟩) (2+2):=XT cW ku _;have R0:=Jv cW ku ⟨1,0,0⟩;obtain⟨⟨S1,k1,A1,R1⟩,p1,c1⟩:=xT S0 F0 A0 R0 hot warm (uw 5 5 0 120) (by decide) rfl;rw[e1]at S1 k1 A1 R1 p1 c1;obtain⟨⟨S2,k2,A2,R2⟩,p2,c2⟩:=xT S1 (CD F0) A1 R1 hot warm (uw 10 0 1 121) (by decide) rfl;rw[e2]at S2 k2 A2 R2 p2 c2;obtain⟨⟨S3,k3,A3,R3⟩,p3,c3⟩:=xT S2 (CD (CD F0)) (j:=0) A2 R2 hot warm (uw 10 0 1 122) (by decide) rfl;rw[e3]at S3 k3 A3 R3;exact⟨⟨⟨Gx S0 A0 (Gw S0 R0 (by decide) xY w0) _,Gx S1 A1 (Gw S1 R1 (by decide) (p1.symm▸xY) (c1.symm▸w0)) _,Gx S2 (j:=0) A2 (Gw S2 R2 (by decide) (p2.symm▸p1.symm▸xY) (c2.symm▸c1.symm▸w0)) _⟩,(congrArg iA.kind k1).trans pW1,(congrArg iA.kind k2).trans pW2,(congrArg iA.kind k3).trans pW3⟩,_,S3,pWf⟩
theorem cy.aQ{M:Mo}{P:eG}{T:List UInt8->Prop}(S:cy T M P)(a:Option Addr)(c:Nat):cy T (M.aQ a c) P:=S.go ⟨S.i.rf S.i.x rfl rfl rfl rfl rfl rfl rfl rfl,eQ S.i.p rfl rfl rfl⟩ S.h rfl rfl
def A6 (n:Int):Int:=((n.tmod 1048577).natAbs:Int)
def xb (p:um):um:=⟨A6 p.b,A6 p.l,A6 p.c,A6 p.m⟩
theorem lC (n:Int):0<=A6 n/\A6 n<=1048576:=by
 unfold A6;have h:=ajw n (b:=1048577) (by decide);have h2: -(1048577:Int)<n.tmod 1048577:=by
  have:=ajw (-n) (b:=1048577) (by decide);rw[Int.neg_tmod]at this;omega
 omega
theorem XD (p:um):zr (xb p):=by
 have h1:=lC p.b;have h2:=lC p.l;have h3:=lC p.c;have h4:=lC p.m
 constructor<;>(unfold xb;dsimp only;omega)
theorem yk (M:Mo)(n:Int):(M.tick n).m=M.m/\(M.tick n).tn=M.tn/\(M.tick n).v.bh=M.v.bh/\(M.tick n).v.p=M.v.p/\(M.tick n).v.c=M.v.c:=by
 unfold Mo.tick
 split
 ·obtain⟨_,a2,a3,_,a5,a6,a7⟩:=nM (M.eC n).reset (M.eC n).k.now 64
  exact⟨a2,a7,a6,a3,a5⟩
 exact⟨rfl,rfl,rfl,rfl,rfl⟩
theorem VQ.tick{M:Mo}{s:Nat}(R:VQ M s)(n:Int):VQ (M.tick n) s:=by
 obtain⟨a,b,c,_,_⟩:=yk M n;exact⟨by rw[a];exact R.st,by rw[b];exact R.tn,by rw[c];exact R.bh⟩
def AT (fac n:Nat):Nat:=max (((n*fac+99)/100+7)/8*8) (n+8)
def mV (fac last:Nat):Nat->Nat->List Nat
 |0,_=> []
 |k+1,n=>if last<=n then []else n::mV fac last k (AT fac n)
theorem mf (fac last k n:Nat)(h:last<=n):mV fac last k n= []:=by
 cases k with
 |zero=>rfl
 |succ k=>unfold mV;rw[if_pos h]
theorem Am (fac last:Nat):∀(k j n:Nat),last-n<=k->last-n<=j->mV fac last k n=mV fac last j n
 |0,j,n,h,_=>by rw[mf fac last j n (by omega)];rfl
 |k+1,0,n,_,h=>by rw[mf fac last (k+1) n (by omega)];rfl
 |k+1,j+1,n,h1,h2=>by
  unfold mV
  split
  ·rfl
  have:n+8<=AT fac n:=ajJ _ _;rw[Am fac last k j (AT fac n) (by omega) (by omega)]
theorem uW (fac last n:Nat)(h:n<last):mV fac last (last-n) n=n::mV fac last (last-AT fac n) (AT fac n):=by
 obtain⟨k,hk⟩:∃k,last-n=k+1:=⟨last-n-1,by omega⟩;have:n+8<=AT fac n:=ajJ _ _;rw[hk]
 conv=>lhs;unfold mV
 rw[if_neg (by omega),Am fac last k (last-AT fac n) _ (by omega) (by omega)]
theorem ac4{fac n:Nat}(h1:105<=fac)(h2:64<=n)(h3:n % 8=0):AT fac n=(n*fac+799)/800*8:=by
 unfold AT;have:n*105<=n*fac:=Nat.mul_le_mul_left n h1;generalize n*fac=x at*;omega
theorem I9{fac last:Nat}(hf:105<=fac)(hl:last % 8=0):∀(k n:Nat),64<=n->n % 8=0->n<=last->
  ((mV fac last (last-n) n).length<=k->mC fac last k n=mV fac last (last-n) n++ [last])/\(k<(mV fac last (last-n) n).length->(mC fac last k n).length=k+1)
 |0,n,h1,h2,h3=>by
  refine⟨λh=> ?_,λ_=>rfl⟩;by_cases e:n=last
  ·rw[mf _ _ _ _ (by omega),e];rfl
  rw[uW fac last n (by omega),afn]at h;omega
 |k+1,n,h1,h2,h3=>by
  by_cases e:n=last
  ·rw[mf _ _ _ _ (by omega)]
   refine⟨λ_=> ?_,λh=>by simp at h⟩;unfold mC;rw[if_pos (by omega),e];rfl
  have st:=uW fac last n (by omega);have nx:=ac4 hf h1 h2;have ge:n+8<=AT fac n:=ajJ _ _;have e2:mC fac last (k+1) n=n::mC fac last k (min last (AT fac n)):=by
   conv=>lhs;unfold mC
   rw[if_neg (by omega),nx]
  have e3:mV fac last (last-min last (AT fac n)) (min last (AT fac n))=mV fac last (last-AT fac n) (AT fac n):=by
   by_cases g:last<=AT fac n
   ·rw[Nat.min_eq_left g,mf _ _ _ _ g,mf _ _ _ _ (aa0 _)]
   rw[Nat.min_eq_right (by omega)]
  obtain⟨a,b⟩:=I9 hf hl k (min last (AT fac n)) (by omega) (by rw[nx];omega) (by omega);rw[e3]at a b;rw[st,e2,afn];refine⟨λh=> ?_,λh=> ?_⟩
  ·rw[a (by omega)];rfl
  rw[afn,b (by omega)]
def KE (c:nZ):List Nat:=mV c.fac.toNat (gm c) (gm c-c.bj.toNat) c.bj.toNat++ [gm c]
theorem Xk{c:nZ}(h:jQ c=true):(62<(KE c).length↔62<(bH c).length)/\(¬62<(KE c).length->KE c=bH c):=by
 obtain⟨h1,h2,h3,h4,h5,h6,h7,h8,h9,V5,h11,AW⟩:=of_decide_eq_true h;have hl:gm c % 8=0:=by unfold gm;omega
 have hm:c.bj.toNat<=gm c:=by unfold gm;omega
 obtain⟨a,b⟩:=I9 (fac:=c.fac.toNat) (by omega) hl 62 c.bj.toNat (by omega) (by omega) hm;unfold KE bH;rw[aaZ,afV];by_cases g:(mV c.fac.toNat (gm c) (gm c-c.bj.toNat) c.bj.toNat).length<=62
 ·rw[a g,aaZ,afV]
  exact⟨Iff.rfl,λ_=>rfl⟩
 rw[b (by omega)];exact⟨⟨λ_=>by omega,λ_=>by omega⟩,λh=>absurd (by omega) h⟩
end Go.Proofs.YtcbcjolpdljbiaaGreat
