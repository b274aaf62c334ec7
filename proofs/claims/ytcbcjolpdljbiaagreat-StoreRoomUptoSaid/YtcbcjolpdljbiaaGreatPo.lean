/- Part Po of the proof. -/
import Derived.Test.YtcbcjolpdljbiaaGreatPm
set_option maxRecDepth 100000
open Go.Proofs.YtcbcjolpdljbiaaGreat.T
open List renaming mem_of_find?_eq_some -> ac4, find?_some -> alD, find?_eq_none -> ahL, getD_eq_getElem?_getD -> aaZ, getElem?_set -> ahG, getElem?_eq_none -> abb, mem_map -> abk, length_map -> abo, mem_of_mem_erase -> ahS, mem_of_getElem? -> aa3, getElem?_eq_getElem -> aa0, length_set -> aa8, nodup_cons -> abg, getLast?_eq_getElem? -> ahA, mem_of_getLast? -> aho, mem_cons_self -> aa5, mem_cons_of_mem -> aa6, mem_filter -> abm, filter_sublist -> ahs, map_map -> aiy, findIdx?_eq_some_iff_getElem -> abl, findIdx?_eq_none_iff -> ahz, length_append -> aa9, foldl_cons -> ahC, length_cons -> abu, length_singleton -> ahp
open Decidable renaming byContradiction -> aba
open Nat renaming zero_le -> abn, succ_le_succ -> ahx, le_refl -> abc, le_trans -> ahO, le_max_right -> alg
open Int renaming tmod_lt_of_pos -> aiD
namespace Go.Proofs.YtcbcjolpdljbiaaGreat
open Go Go.dQ Go.Proofs.YtcbcjolpdljbiaaGreat.Cs
def I3.vw (n:I3):I3:={n with fe:=n.fe/2*2}
structure Pl (M:Mo):Prop where
 nd:∀i,(ql M.Q i).Nodup
 kd:∀p q,M.has p->M.has q->(M.it p).key=(M.it q).key->p=q
def Mo.vw (M:Mo)(p:Nat):I3×Nat:=((M.it p).vw,M.C.cl p)
def QD (k:Ck)(x:I3):Nat:=if 0<x.exp/\x.exp<=k.now then 2 else if x.tok<=k.cut then 3 else 0
theorem T6 (M:Mo)(p:Nat):M.cE p=QD M.k (M.it p):=rfl
theorem yl{M N:Mo}(hk:N.k=M.k){p q:Nat}(h:N.vw q=M.vw p):N.cE q=M.cE p:=by
 have h1:(N.it q).exp=(M.it p).exp:=congrArg (λx:I3×Nat=>x.1.exp) h;have h2:(N.it q).tok=(M.it p).tok:=congrArg (λx:I3×Nat=>x.1.tok) h;unfold Mo.cE;rw[h1,h2,hk]
theorem qE{M N:Mo}{p q:Nat}(h:N.vw q=M.vw p):(N.it q).key=(M.it p).key:=congrArg (λx:I3×Nat=>x.1.key) h
def Mo.kU (M:Mo)(k:F9):Option (I3×Nat):=(M.live k).map M.vw
theorem bM.pl{B:Bx}{M:Mo}(O:bM B M):Pl M:=⟨O.o.nd,λ_ _ hp hq e=>O.kdM hp hq e⟩
theorem iY{M:Mo}(P:Pl M){k:F9}{p:Nat}:M.find k=some p↔M.has p/\(M.it p).key=k:=by
 unfold Mo.find;constructor
 ·intro h
  exact⟨gz.1 (ac4 h),by simpa using alD h⟩
 rintro⟨hp,hk⟩;cases hf:M.Q.flatten.find? λp=>decide ((M.it p).key=k)with
 |none=>exact absurd (decide_eq_true hk) (ahL.1 hf p (gz.2 hp))
 |some q=>
  have h1:M.has q:=gz.1 (ac4 hf);have h2:(M.it q).key=k:=by simpa using alD hf
  rw[P.kd q p h1 hp (h2.trans hk.symm)]
theorem qO{M:Mo}(P:Pl M){k:F9}{i:I3×Nat}:M.kU k=some i↔∃p,M.has p/\(M.it p).key=k/\M.cE p=0/\M.vw p=i:=by
 unfold Mo.kU Mo.live;constructor
 ·intro h
  cases hf:M.find k with
  |none=>rw[hf]at h;cases h
  |some p=>
   rw[hf]at h;obtain⟨h1,h2⟩:=(iY P).1 hf;by_cases hw:M.cE p=0
   ·simp only[hw,if_true,Option.map_some,Option.some.injEq]at h
    exact⟨p,h1,h2,hw,h⟩
   simp only[hw,if_false]at h;cases h
 rintro⟨p,h1,h2,hw,rfl⟩;rw[(iY P).2 ⟨h1,h2⟩];simp[hw]
structure lZ (M N:Mo):Prop where
 p:Pl N
 k:N.k=M.k
 d:∀q,N.has q->∃p,M.has p/\N.vw q=M.vw p
 u:∀p,M.has p->M.cE p=0->∃q,N.has q/\N.vw q=M.vw p
 z:N.C.ae=M.C.ae
theorem lZ.s{M N:Mo}(S:lZ M N)(P:Pl M)(k:F9):N.kU k=M.kU k:=by
 refine Option.ext λi=> ?_;rw[qO S.p,qO P];constructor
 ·rintro⟨q,a,b,c,d⟩
  obtain⟨p,e,f⟩:=S.d q a;exact⟨p,e,(qE f).symm.trans b,(yl S.k f).symm.trans c,f.symm.trans d⟩
 rintro⟨p,a,b,c,d⟩;obtain⟨q,e,f⟩:=S.u p a c;exact⟨q,e,(qE f).trans b,(yl S.k f).trans c,f.trans d⟩
theorem lZ.refl{M:Mo}(P:Pl M):lZ M M:=⟨P,rfl,λq h=>⟨q,h,rfl⟩,λq h _=>⟨q,h,rfl⟩,rfl⟩
theorem lZ.trans{M N O:Mo}(a:lZ M N)(b:lZ N O):lZ M O:=by
 refine⟨b.p,b.k.trans a.k,λq h=> ?_,λp h w=> ?_,b.z.trans a.z⟩
 ·obtain⟨r,h1,e1⟩:=b.d q h
  obtain⟨p,h2,e2⟩:=a.d r h1;exact⟨p,h2,e1.trans e2⟩
 obtain⟨r,h1,e1⟩:=a.u p h w;obtain⟨q,h2,e2⟩:=b.u r h1 ((yl a.k e1).trans w);exact⟨q,h2,e2.trans e1⟩
theorem jf{M:Mo}(P:Pl M){p q:Nat}:(∃i,q∈ql (ik M.Q p) i)↔M.has q/\q≠p:=by
 constructor
 ·rintro⟨i,hi⟩
  rw[iO,(P.nd i).mem_erase_iff]at hi;exact⟨⟨i,hi.2⟩,hi.1⟩
 rintro⟨⟨i,hi⟩,h⟩;exact⟨i,by rw[iO,(P.nd i).mem_erase_iff];exact⟨h,hi⟩⟩
theorem RI{M N:Mo}(P:Pl M){p:Nat}(hQ:N.Q=ik M.Q p)(hi:N.it=M.it):Pl N:=by
 refine⟨λi=> ?_,λa b ha hb e=> ?_⟩
 ·rw[hQ,iO];exact(P.nd i).erase p
 unfold Mo.has at ha hb;rw[hQ]at ha hb;rw[hi]at e;exact P.kd a b ((jf P).1 ha).1 ((jf P).1 hb).1 e
theorem agQ (C:Cs){i c sp:Nat}{x:Pg}{r:Rw}{A:By}(h:x.cl=(C.pg i).cl)(q:Nat):(C.put i x c r sp A).cl q=C.cl q:=by
 unfold Cs.cl Cs.pn;show((C.put i x c r sp A).pg (q/C.aj)).cl=_;unfold Cs.pg Cs.put;dsimp only;rw[aaZ,ahG,aaZ];split
 ·next e=>
  split
  ·rw[<-e]
   show x.cl=_;rw[h];unfold Cs.pg;rw[aaZ]
  next g=>rw[<-e,abb (by omega)]
 rfl
theorem uo (C:Cs)(p q:Nat):(C.bh p).cl q=C.cl q:=by
 unfold Cs.bh;refine agQ C ?_ q;rfl
theorem BI{M:Mo}(P:Pl M){p:Nat}(hd:M.cE p≠0):lZ M (M.bY p):=by
 have e:∀q,(M.bY p).vw q=M.vw q:=λq=>congrArg (Prod.mk _) (uo M.C p q);exact⟨RI P rfl rfl,rfl,λq h=>⟨q,((jf P).1 h).1,e q⟩,λq h w=>⟨q,(jf P).2 ⟨h,λg=>hd (g▸w)⟩,e q⟩,rfl⟩
theorem vQ{M:Mo}(P:Pl M)(p:Nat):lZ M (M.look p):=by
 unfold Mo.look;split
 ·next h=>exact BI P h
 exact .refl P
theorem fb{M N:Mo}(P:Pl M)(hQ:N.Q=M.Q)(hi:N.it=M.it)(hk:N.k=M.k)(hc:∀p,M.has p->N.C.cl p=M.C.cl p:=by exact λ_ _=>rfl)(hz:N.C.ae=M.C.ae:=by exact rfl):lZ M N:=by
 have hh:∀p,N.has p↔M.has p:=λp=>by unfold Mo.has;rw[hQ]
 have e:∀q,M.has q->N.vw q=M.vw q:=λq h=>by unfold Mo.vw;rw[hi,hc q h]
 exact⟨⟨λi=>by rw[hQ];exact P.nd i,λa b ha hb e=>by rw[hi]at e;exact P.kd a b ((hh a).1 ha) ((hh b).1 hb) e⟩,hk,λq h=>⟨q,(hh q).1 h,e q ((hh q).1 h)⟩,λq h _=>⟨q,(hh q).2 h,e q h⟩,hz⟩
theorem tA:∀(l:F8) {M:Mo},Pl M->lZ M (l.foldl Mo.look M)
 | [],_,P=> .refl P
 |p::l,M,P=>(vQ P p).trans (tA l (vQ P p).p)
theorem wS:∀(f:Nat) {M:Mo},Pl M->lZ M (M.cA f).2
 |0,_,P=> .refl P
 |f+1,M,P=>by
  unfold Mo.cA;split
  ·next x h=>
   split
   ·next p hp=>
    have a:lZ M {M with x:=x.pass M.Q}:=fb P rfl rfl rfl;have b:=vQ a.p p;exact(a.trans b).trans (wS f b.p)
   exact fb P rfl rfl rfl
  exact fb P rfl rfl rfl
theorem Ji{M:Mo}(P:Pl M)(now aH:Int):lZ M (M.cV now aH).2:=by
 unfold Mo.cV;split
 ·exact .refl P
 unfold Mo.s8;exact(tA _ P).trans (wS _ (tA _ P).p)
theorem KS{M:Mo}{p r:Nat}(hp:M.has p){q:Nat}:(∃i,q∈ql (oz M.Q p r) i)↔q=r\/(M.has q/\q≠p):=by
 constructor
 ·rintro⟨i,hi⟩
  rw[me,abk]at hi;obtain⟨a,ha,e⟩:=hi;unfold BJ at e;split at e
  ·exact .inl e.symm
  next h=>subst e;exact .inr ⟨⟨i,ha⟩,h⟩
 rintro(rfl|⟨⟨i,hi⟩,h⟩)
 ·obtain⟨i,hi⟩:=hp
  exact⟨i,by rw[me,abk];exact⟨p,hi,by unfold BJ;rw[if_pos rfl]⟩⟩
 exact⟨i,by rw[me,abk];exact⟨q,hi,by unfold BJ;rw[if_neg h]⟩⟩
theorem ME{M:Mo}(P:Pl M){p r:Nat}(hp:M.has p)(hr:¬M.has r)(dx:M.C.cl r=M.C.cl p):lZ M (M.swap p r):=by
 have ne:p≠r:=λe=>hr (e▸hp);have ir:(M.swap p r).it r=M.it p:=if_pos rfl;have io:∀q,q≠r->(M.swap p r).it q=M.it q:=λq h=>if_neg h;have vr:(M.swap p r).vw r=M.vw p:=by unfold Mo.vw;rw[ir];exact congrArg (Prod.mk _) dx
 have vo:∀q,q≠r->(M.swap p r).vw q=M.vw q:=λq h=>by unfold Mo.vw;rw[io q h];rfl
 have hs:∀q,(M.swap p r).has q↔q=r\/(M.has q/\q≠p):=λq=>KS hp;have nr:∀q,M.has q->q≠r:=λq h e=>hr (e▸h);refine⟨⟨λi=> ?_,λa b ha hb e=> ?_⟩,rfl,λq hq=> ?_,λq hq hw=> ?_,rfl⟩
 ·show(ql (oz M.Q p r) i).Nodup
  rw[me];unfold List.Nodup;rw[List.pairwise_map];refine List.Pairwise.imp_of_mem (λ{x y} hx hy h e=>h ?_) (P.nd i);have hx2:=nr x ⟨i,hx⟩;have zV:=nr y ⟨i,hy⟩;unfold BJ at e;split at e<;>split at e
  ·next h1 h2=>rw[h1,h2]
  ·exact absurd e.symm zV
  ·exact absurd e hx2
  exact e
 ·rcases(hs a).1 ha with rfl|⟨a1,a2⟩<;>rcases(hs b).1 hb with rfl|⟨b1,b2⟩
  ·rfl
  ·rw[ir,io b (nr b b1)]at e
   exact absurd (P.kd p b hp b1 e).symm b2
  ·rw[ir,io a (nr a a1)]at e
   exact absurd (P.kd a p a1 hp e) a2
  rw[io a (nr a a1),io b (nr b b1)]at e;exact P.kd a b a1 b1 e
 ·rcases(hs q).1 hq with rfl|⟨a1,a2⟩
  ·exact⟨p,hp,vr⟩
  exact⟨q,a1,vo q (nr q a1)⟩
 by_cases e:q=p
 ·subst e;exact⟨r,(hs r).2 (.inl rfl),vr⟩
 exact⟨q,(hs q).2 (.inr ⟨hq,e⟩),vo q (nr q hq)⟩
structure Qp (n:Nat)(Q:Dy):Prop where
 len:Q.length=n*3
 nd:∀i,(ql Q i).Nodup
 one:∀i j p,p∈ql Q i->p∈ql Q j->i=j
theorem Qp.rem{n:Nat}{Q:Dy}(K:Qp n Q)(p:Nat):Qp n (ik Q p):=by
 refine⟨by unfold ik;rw[abo];exact K.len,λi=>by rw[iO];exact(K.nd i).erase p,λi j q h g=> ?_⟩;rw[iO]at h g;exact K.one i j q (ahS h) (ahS g)
theorem Qp.aeN{n:Nat}{Q:Dy}(K:Qp n Q){i k p:Nat}(h:(ql Q i)[k]?=some p):Q.set i ((ql Q i).eraseIdx k)=ik Q p:=by
 have hp:p∈ql Q i:=aa3 h;have hi:i<Q.length:=by
  refine aba λg=> ?_;unfold ql at hp;rw[aaZ,abb (by omega)]at hp;cases hp
 apply List.ext_getElem?;intro j;by_cases hj:j<Q.length
 ·have e1:Q[j]?=some (ql Q j):=by
   unfold ql;rw[aaZ,aa0 hj];rfl
  unfold ik;rw[List.getElem?_map,e1,Option.map_some,ahG];by_cases e:i=j
  ·subst e
   rw[if_pos rfl,if_pos hi,H6 (K.nd i) h]
  rw[if_neg e,e1]
  congr 1
  exact(List.erase_of_not_mem λg=>e (K.one i j p hp g)).symm
 rw[abb (by rw[aa8];omega),abb (by unfold ik;rw[abo];omega)]
structure Mi (M:Mo):Prop where
 k:Ok M.C
 p:Pl M
 q:Qp M.fP M.Q
 x:dt M.fP M.Q M.x
 lv:∀p,Live M.C p↔M.has p\/M.hole=some p
 ho:∀p,M.hole=some p->¬M.has p
 on:M.m.on=true->M.m.pg<M.C.n/\(M.C.pg M.m.pg).own=true/\(M.C.pg M.m.pg).lv=true/\(M.C.pg M.m.pg).cl=M.m.fr
 go:∀i,(M.C.pg i).lv=true->M.m.on=true/\i=M.m.pg
theorem bM.mi{B:Bx}{M:Mo}(O:bM B M):Mi M:=by
 refine⟨O.Qi,O.pl,⟨?_,O.o.nd,λ_ _ _ h g=>Ef O.o h g⟩, ?_,λp=> ?_,λp h g=>O.ho p h ((O.al p).2 g),O.LJ.on,λi hi=>O.go i ?_⟩
 ·have:=O.o.len
  rw[O.fP]at this;exact this
 ·have:=O.x
  rw[O.fP]at this;exact this
 ·have h:=O.lv p
  rw[O.al p,O.c]at h;refine Iff.trans ⟨λL=> ?_,λL=> ?_⟩ h
  ·exact L.wA _
  exact⟨⟨L.i,L.own,L.al,L.k⟩,L.tk⟩
 rw[O.c];exact hi
theorem Mi.co{M:Mo}(K:Mi M):rR M:=⟨K.k,K.p.nd,λp hp=>(K.lv p).2 (.inl hp),K.on⟩
theorem Mi.bY{M:Mo}(K:Mi M){p:Nat}(hp:M.has p):Mi (M.bY p):=by
 have L:=(K.lv p).2 (.inl hp);have g:=oV K.k L;have hh:∀q,(M.bY p).has q↔M.has q/\q≠p:=λq=>jf K.p;refine⟨(gA K.k L).1,RI K.p rfl rfl, ?_, ?_,λq=> ?_,λq h h2=>K.ho q h ((hh q).1 h2).1,λh=> ?_,λi hi=>K.go i ?_⟩
 ·show Qp (M.C.bh p).ae.length (ik M.Q p)
  rw[(gA K.k L).2.ae];exact K.q.rem p
 ·show dt (M.C.bh p).ae.length (ik M.Q p) (M.x.left M.Q p)
  rw[(gA K.k L).2.ae];obtain⟨i,hi⟩:=hp;obtain⟨j,hj,e⟩:=List.getElem_of_mem hi;have hk:(ql M.Q i)[j]?=some p:=by rw[aa0 hj,e]
  have hil:i<M.Q.length:=by
   refine aba λg=> ?_;unfold ql at hi;rw[aaZ,abb (by omega)]at hi;cases hi
  rw[<-K.q.aeN hk];exact Df K.x K.q.nd hil hk
 ·refine(nZ K.k L q).trans ?_
  rw[K.lv q,hh q];constructor
  ·rintro⟨a|a,b⟩
   ·exact .inl ⟨a,b⟩
   exact .inr a
  rintro(⟨a,b⟩|a)
  ·exact⟨.inl a,b⟩
  exact⟨.inr a,λe=>K.ho q a (e▸hp)⟩
 ·obtain⟨a,b,c,d⟩:=K.on h
  obtain⟨e1,e2,e3⟩:=g M.m.pg;have en:(M.C.bh p).n=M.C.n:=(gA K.k L).2.n;exact⟨by show _<(M.C.bh p).n;rw[en];exact a,e1.trans b,e2.trans c,e3.trans d⟩
 rw[<-(g i).2.1];exact hi
theorem Mi.rf{M N:Mo}(K:Mi M)(hx:dt M.fP M.Q N.x)(hC:N.C=M.C)(hQ:N.Q=M.Q)(hi:N.it=M.it)(hh:N.hole=M.hole)(hk:N.k=M.k)(on:N.m.on=M.m.on)(pg:N.m.pg=M.m.pg)(fr:N.m.fr=M.m.fr):Mi N:=by
 have e:∀p,N.has p↔M.has p:=λp=>by unfold Mo.has;rw[hQ]
 refine⟨by rw[hC];exact K.k,(fb K.p hQ hi hk (by rw[hC];exact λ_ _=>rfl) (by rw[hC])).p,by unfold Mo.fP;rw[hC,hQ];exact K.q,by unfold Mo.fP;rw[hC,hQ];exact hx,λp=>by rw[hC,hh,e];exact K.lv p,λp h=>by rw[hh]at h;rw[e];exact K.ho p h,by rw[on,pg,fr,hC];exact K.on,by rw[on,pg,hC];exact K.go⟩
theorem Mi.look{M:Mo}(K:Mi M){p:Nat}(hp:M.has p):Mi (M.look p):=by
 unfold Mo.look;split
 ·exact K.bY hp
 exact K
theorem Qp.mv{n:Nat}{Q:Dy}(K:Qp n Q){i j k p:Nat}(hi:i<Q.length)(hj:j<Q.length)(hk:(ql Q i)[k]?=some p):Qp n (xL Q i k j p)/\∀q,(∃m,q∈ql (xL Q i k j p) m)↔∃m,q∈ql Q m:=by
 have hp:p∈ql Q i:=aa3 hk;obtain⟨R,hR⟩:∃R,R=Q.set i ((ql Q i).eraseIdx k):=⟨_,rfl⟩;have lR:R.length=Q.length:=by rw[hR,aa8]
 have er:=H6 (K.nd i) hk;have qR:∀m,ql R m=if m=i then(ql Q i).erase p else ql Q m:=λm=>by rw[hR,fS hi,er]
 have noR:∀m,p∉ql R m:=λm h=>by
  rw[qR]at h;split at h
  ·exact(K.nd i).not_mem_erase h
  next e=>exact e (K.one m i p h hp)
 have inR:∀m q,q∈ql R m↔q∈ql Q m/\q≠p:=λm q=>by
  rw[qR];split
  ·next e=>subst e;rw[(K.nd m).mem_erase_iff,and_comm]
  next e=>exact⟨λh=>⟨h,λg=>e (K.one m i p (g▸h) hp)⟩,λh=>h.1⟩
 have ndR:∀m,(ql R m).Nodup:=λm=>by
  rw[qR];split
  ·exact(K.nd i).erase p
  exact K.nd m
 have e:xL Q i k j p=R.set j (p::ql R j):=by unfold xL;rw[hR]
 have qV:∀m,ql (xL Q i k j p) m=if m=j then p::ql R j else ql R m:=λm=>by rw[e,fS (by rw[lR];exact hj)]
 have wW:∀m q,q∈ql (xL Q i k j p) m↔(q=p/\m=j)\/(q∈ql Q m/\q≠p):=λm q=>by
  rw[qV];split
  ·next g=>subst g;rw[List.mem_cons,inR];exact⟨λh=>h.imp (λh=>⟨h,rfl⟩) id,λh=>h.imp (λh=>h.1) id⟩
  next g=>rw[inR];exact⟨.inr,λh=>h.resolve_left λh=>g h.2⟩
 refine⟨⟨by rw[e,aa8,lR];exact K.len,λm=> ?_,λa b q ha hb=> ?_⟩,λq=>⟨?_, ?_⟩⟩
 ·rw[qV]
  split
  ·exact abg.2 ⟨noR j,ndR j⟩
  exact ndR m
 ·rcases(wW a q).1 ha with⟨h1,h2⟩|⟨h1,h2⟩<;>rcases(wW b q).1 hb with⟨h3,h4⟩|⟨h3,h4⟩
  ·rw[h2,h4]
  ·exact absurd h1 h4
  ·exact absurd h3 h2
  exact K.one a b q h1 h3
 ·rintro⟨m,h⟩
  rcases(wW m q).1 h with⟨h1,_⟩|⟨h1,_⟩
  ·exact⟨i,h1▸hp⟩
  exact⟨m,h1⟩
 rintro⟨m,h⟩;by_cases g:q=p
 ·exact⟨j,(wW j q).2 (.inl ⟨g,rfl⟩)⟩
 exact⟨m,(wW m q).2 (.inr ⟨h,g⟩)⟩
theorem ER{n c hot warm:Nat}{s t:ny}(hc:c<n)(K:Qp n s.Q)(h:sg c hot warm s=some t):Qp n t.Q/\∀q,(∃m,q∈ql t.Q m)↔∃m,q∈ql s.Q m:=by
 unfold sg at h;split at h
 ·cases h
 next k hk=>
 have hk3:1<=k/\k<=3:=by
  unfold G8 at hk
  repeat' split at hk
  all_goals first|cases hk|(simp only[Option.some.injEq]at hk;omega)
  all_goals omega
 split at h
 ·cases h
 next p hp=>
 simp only[Option.some.injEq]at h;subst h;have hl:=K.len;refine K.mv (by unfold qi;omega) (by unfold qi;split<;>omega) ?_;rw[<-ahA];exact hp
theorem LC{n c hot warm:Nat}(hc:c<n):∀(k:Nat) {s:ny},Qp n s.Q->Qp n (lX c hot warm k s).2.Q/\∀q,(∃m,q∈ql (lX c hot warm k s).2.Q m)↔∃m,q∈ql s.Q m
 |0,_,K=>⟨K,λ_=>Iff.rfl⟩
 |k+1,s,K=>by
  unfold lX;split
  ·exact⟨K,λ_=>Iff.rfl⟩
  next t ht=>
  obtain⟨K2,e⟩:=ER hc K ht;obtain⟨K3,e3⟩:=LC hc k K2;exact⟨K3,λq=>(e3 q).trans (e q)⟩
theorem abz (n:I3)(b:Bool):({n with fe:=mkSet n.fe b}:I3).vw=n.vw:=by
 unfold I3.vw mkSet
 congr 1
 cases b<;>simp<;>omega
theorem Nf{M:Mo}(P:Pl M){t:ny}(nd:∀i,(ql t.Q i).Nodup)(mem:∀q,(∃m,q∈ql t.Q m)↔M.has q):lZ M (M.B5 t):=by
 have e:∀q,(M.B5 t).vw q=M.vw q:=λq=>congrArg (λx=>(x,M.C.cl q)) (abz (M.it q) (t.ac q));exact⟨⟨nd,λa b ha hb e=>P.kd a b ((mem a).1 ha) ((mem b).1 hb) e⟩,rfl,λa h=>⟨a,(mem a).1 h,e a⟩,λa h _=>⟨a,(mem a).2 h,e a⟩,rfl⟩
theorem Mi.ln{M:Mo}(K:Mi M)(i:Nat):(ql M.Q i).length<=1073741824:=
 nT _ _ (K.q.nd i) λp hp=>by
  have h:=((K.lv p).2 (.inl ⟨i,hp⟩)).toAt.br K.k;have:=gg K.k.toFix;omega
theorem Dw{n:Nat}{Q:Dy}(ln:∀i,(ql Q i).length<=1073741824){x:Cw}{c k:Nat}(hc:c<n)(hk:1<=k/\k<=3):dt n Q (x.kX Q c k):=
 ⟨λ_=>⟨hc,hk⟩,(λh=>by cases h),(λ_ hp=>⟨aho hp,List.length_pos_of_mem (aho hp)⟩),ln _⟩
theorem Cx{n:Nat}{Q:Dy}(ln:∀i,(ql Q i).length<=1073741824):∀(f:Nat) {x:Cw},dt n Q x->x.bg=true->dt n Q (Cw.P5 n Q f x).2
 |0,_,X,_=>X
 |f+1,x,X,hb=>by
  obtain⟨g1,g2,g3⟩:=X.go hb;unfold Cw.P5;split
  ·exact X
  split
  ·exact Cx ln f (Dw ln g1 ⟨by omega,by omega⟩) rfl
  split
  ·next h=>exact Cx ln f (Dw ln h ⟨by omega,by omega⟩) rfl
  exact⟨(λh=>by cases h),λ_=>⟨rfl,rfl,rfl,rfl⟩,(λp h=>by cases h),abn _⟩
theorem aaq{n:Nat}{Q:Dy}(hn:1<=n)(ln:∀i,(ql Q i).length<=1073741824){x:Cw}(X:dt n Q x):dt n Q (x.find n Q).2:=by
 unfold Cw.find Cw.start;cases hb:x.bg with
 |true=>simp only[if_true];exact Cx ln _ X hb
 |false=>
  simp only[Bool.false_eq_true,if_false];exact Cx ln _ (Dw ln (by omega) ⟨by omega,by omega⟩) rfl
theorem Mi.cw{M:Mo}(K:Mi M){x:Cw}(X:dt M.fP M.Q x):Mi {M with x:=x}:=K.rf X rfl rfl rfl rfl rfl rfl rfl rfl
theorem Mi.n1{M:Mo}(K:Mi M):1<=M.fP:=K.k.l0
theorem Mi.cA:∀(f:Nat) {M:Mo},Mi M->Mi (M.cA f).2
 |0,_,K=>K
 |f+1,M,K=>by
  have X:=aaq K.n1 K.ln K.x;unfold Mo.cA;split
  ·next x h=>
   rw[h]at X;split
   ·next p hp=>
    have hm:=(X.nx p hp).1;exact Mi.cA f ((K.cw X.pass).look ⟨_,hm⟩)
   exact K.cw X
  next x h=>
  rw[h]at X;exact K.cw X
theorem Mi.looks:∀(l:F8) {M:Mo},Mi M->l.Nodup->(∀p∈l,M.has p)->Mi (l.foldl Mo.look M)
 | [],_,K,_,_=>K
 |p::l,M,K,nd,h=>by
  obtain⟨n1,n2⟩:=abg.1 nd;refine Mi.looks l (K.look (h p aa5)) n2 λq hq=> ?_;have hM:=h q (aa6 _ hq);unfold Mo.look;split
  ·exact(jf K.p).2 ⟨hM,λe=>n1 (e▸hq)⟩
  exact hM
theorem Zi{C:Cs}(K:Ok C){p:Nat}(L:At C p):tP (C.hd p)=p:=by
 obtain⟨m1,m2,m3,m4,m5,m6⟩:=bU K L;unfold tP;generalize C.hd p=h at*;omega
theorem Mi.due{M:Mo}(K:Mi M)(now aH:Int):(M.kW now aH).Nodup/\∀p∈M.kW now aH,M.has p:=by
 obtain⟨L,hL⟩:∃L,L=M.Q.flatten.filter λp=>decide (0<(M.it p).exp):=⟨_,rfl⟩;have hh:∀p∈L,M.has p:=λp hp=>by rw[hL]at hp;exact gz.1 (abm.1 hp).1
 have nd:L.Nodup:=by rw[hL];exact(xC K.q.nd λi j p h g=>K.q.one i j p h g).sublist ahs
 have eE:iQ M.C M M.Q.flatten=L.map λp=>⟨M.C.hd p,(M.it p).exp,M.ord p⟩:=by rw[hL];rfl
 have eg:(iQ M.C M M.Q.flatten).map (λe=>tP e.h)=L:=by
  rw[eE,aiy]
  conv=>rhs;rw[<-List.map_id L]
  refine List.map_congr_left λp hp=> ?_;have:=Zi K.k ((K.lv p).2 (.inl (hh p hp))).toAt;rw[Function.comp_apply,id];exact this
 have e:M.kW now aH=((iJ ((iQ M.C M M.Q.flatten).filter λx=>decide ((x.ex:Int)<=now))).take aH.toNat).map λe=>tP e.h:=by
  unfold Mo.kW qn;rw[aiy];rfl
 have sub:((iQ M.C M M.Q.flatten).filter λx=>decide ((x.ex:Int)<=now)).map (λe=>tP e.h) |>.Sublist L:=by
  have:=(ahs (p:=λx:En=>decide ((x.ex:Int)<=now)) (l:=iQ M.C M M.Q.flatten)).map (λe=>tP e.h);rw[eg]at this;exact this
 have pm:=(ic ((iQ M.C M M.Q.flatten).filter λx=>decide ((x.ex:Int)<=now))).map (λe=>tP e.h);have n2:=pm.nodup_iff.2 (nd.sublist sub);have tk:=(List.take_sublist aH.toNat (iJ ((iQ M.C M M.Q.flatten).filter λx=>decide ((x.ex:Int)<=now)))).map (λe=>tP e.h);rw[e];exact⟨n2.sublist tk,λp hp=>hh p (sub.subset (pm.mem_iff.1 (tk.subset hp)))⟩
theorem Mi.cV{M:Mo}(K:Mi M)(now aH:Int):Mi (M.cV now aH).2:=by
 unfold Mo.cV;split
 ·exact K
 unfold Mo.s8;obtain⟨d1,d2⟩:=K.due now (min aH 1048576);exact Mi.cA _ (K.looks _ d1 d2)
structure om (M N:Mo):Prop where
 i:Mi N
 s:lZ M N
theorem om.trans{M N O:Mo}(a:om M N)(b:om N O):om M O:=⟨b.i,a.s.trans b.s⟩
theorem Mi.qA{M:Mo}(K:Mi M)(t:Mt):om M (M.aR t):=⟨K.rf K.x rfl rfl rfl rfl rfl rfl rfl rfl,fb K.p rfl rfl rfl⟩
theorem Mi.ab5{M:Mo}(K:Mi M)(k:Nat):om M (M.AF k):=⟨K.rf K.x rfl rfl rfl rfl rfl rfl rfl rfl,fb K.p rfl rfl rfl⟩
theorem Mi.Ft{M:Mo}(K:Mi M)(now aH:Int):om M (M.cV now aH).2:=⟨K.cV now aH,Ji K.p now aH⟩
theorem Mi.fw{M:Mo}(K:Mi M):om M M.fw:=by
 unfold Mo.fw;exact(K.ab5 _).trans ((K.ab5 _).i.qA _)
theorem Mi.jy{M:Mo}(K:Mi M):om M M.jy:=by
 unfold Mo.jy;exact(K.Ft _ _).trans ((K.Ft _ _).i.qA _)
theorem Mi.take{M N:Mo}(K:Mi M)(hh:M.hole=none){c r:Nat}(hc:c<M.fP)(h:M.take c=some (r,N)):om M N/\N.hole=some r/\¬M.has r/\N={M with C:=N.C,hole:=some r}/\N.C.cl r=c/\N.C.ae=M.C.ae/\∀q,M.has q->N.C.cl q=M.C.cl q:=by
 unfold Mo.take at h;split at h
 ·next p D hD=>
  simp only[Option.some.injEq,Prod.mk.injEq]at h;obtain⟨rfl,rfl⟩:=h;have T:=vF K.k hc hD;have no:¬M.has p:=λg=>T.no ((K.lv p).2 (.inl g));have hq:∀q,M.has q->D.cl q=M.C.cl q:=λq g=>(T.hd q ((K.lv q).2 (.inl g))).2;have S:lZ M ({M with C:=D,hole:=some p}:Mo):=fb K.p rfl rfl rfl hq T.sz;refine⟨⟨⟨T.k,S.p, ?_, ?_,λq=> ?_,λq g=> ?_,λg=> ?_,λi g=> ?_⟩,S⟩,rfl,no,rfl,T.cl,T.sz,hq⟩
  ·show Qp D.ae.length M.Q
   rw[T.sz];exact K.q
  ·show dt D.ae.length M.Q M.x
   rw[T.sz];exact K.x
  ·refine(T.lv q).trans ?_
   rw[K.lv q,hh];show(M.has q\/none=some q)\/q=p↔M.has q\/some p=some q;simp only[reduceCtorEq,or_false,Option.some.injEq];exact⟨λh=>h.imp id Eq.symm,λh=>h.imp id Eq.symm⟩
  ·cases g;exact no
  ·obtain⟨a,b,d,e⟩:=K.on g
   obtain⟨p1,p2⟩:=T.pg M.m.pg b;exact⟨by show _<D.n;rw[T.n];exact a,p1,(T.lf M.m.pg).trans d,p2.trans e⟩
  refine K.go i ?_;rw[<-T.lf i];exact g
 cases h
theorem Vb{n:Nat}{Q:Dy}{x:Cw}(X:dt n Q x)(p r:Nat):dt n (oz Q p r) (x.dp p r):=by
 by_cases g:x.nx=some p
 ·have e:x.dp p r={x with nx:=some r}:=by unfold Cw.dp;rw[if_pos g]
  rw[e];obtain⟨h1,h2⟩:=X.nx p g;refine⟨X.go,λh=> ?_,λq hq=> ?_,X.lf⟩
  ·rw[(X.no h).1]at g;cases g
  simp only[Option.some.injEq]at hq;subst hq;exact⟨by rw[me,abk];exact⟨p,h1,by unfold BJ;rw[if_pos rfl]⟩,h2⟩
 have e:x.dp p r=x:=by unfold Cw.dp;rw[if_neg g]
 rw[e];refine⟨X.go,X.no,λq hq=> ?_,X.lf⟩;obtain⟨h1,h2⟩:=X.nx q hq;exact⟨by rw[me,abk];exact⟨q,h1,by unfold BJ;exact if_neg λe:q=p=>g (e▸hq)⟩,h2⟩
theorem Qp.sub{n:Nat}{Q:Dy}(K:Qp n Q){p r:Nat}(nd:∀i,(ql (oz Q p r) i).Nodup)(hr:∀i,r∉ql Q i):Qp n (oz Q p r):=by
 refine⟨by unfold oz;rw[abo];exact K.len,nd,λi j q h g=> ?_⟩;rw[me,abk]at h g;obtain⟨a,ha,ea⟩:=h;obtain⟨b,hb,eb⟩:=g;unfold BJ at ea eb;split at ea<;>split at eb
 ·next h1 h2=>subst h1;subst h2;exact K.one i j _ ha hb
 ·exact absurd (by rw[ea,<-eb];exact hb) (hr j)
 ·exact absurd (by rw[eb,<-ea];exact ha) (hr i)
 subst ea;subst eb;exact K.one i j _ ha hb
theorem Mi.swap{M:Mo}(K:Mi M){p r:Nat}(hh:M.hole=some r)(hp:M.has p)(dx:M.C.cl r=M.C.cl p):om M (M.swap p r)/\(M.swap p r).hole=some p:=by
 have hr:¬M.has r:=K.ho r hh;have S:=ME K.p hp hr dx;have hs:∀q,(M.swap p r).has q↔q=r\/(M.has q/\q≠p):=λq=>KS hp;refine⟨⟨⟨K.k,S.p,K.q.sub S.p.nd λi h=>hr ⟨i,h⟩,Vb K.x p r,λq=> ?_,λq g=> ?_,K.on,K.go⟩,S⟩,rfl⟩
 ·refine(K.lv q).trans ?_
  rw[hs q,hh];show M.has q\/some r=some q↔(q=r\/M.has q/\q≠p)\/some p=some q;simp only[Option.some.injEq];constructor
  ·rintro(h|h)
   ·by_cases e:q=p
    ·exact .inr e.symm
    exact .inl (.inr ⟨h,e⟩)
   exact .inl (.inl h.symm)
  rintro((h|h)|h)
  ·exact .inr h.symm
  ·exact .inl h.1
  exact .inl (h▸hp)
 cases g;intro h;rcases(hs p).1 h with h|h
 ·exact hr (h▸hp)
 exact h.2 rfl
theorem Mi.sq{M:Mo}(K:Mi M){p:Nat}(hh:M.hole=some p):om M (M.sq p)/\(M.sq p).hole=none:=by
 have L:=(K.lv p).2 (.inr hh);have no:=K.ho p hh;have g:=oV K.k L;have G:=gA K.k L;have S:lZ M (M.sq p):=fb K.p rfl rfl rfl λq _=>uo M.C p q;refine⟨⟨⟨G.1,S.p, ?_, ?_,λq=> ?_,(λq h=>by cases h),λh=> ?_,λi hi=>K.go i ?_⟩,S⟩,rfl⟩
 ·show Qp (M.C.bh p).ae.length M.Q
  rw[G.2.ae];exact K.q
 ·show dt (M.C.bh p).ae.length M.Q M.x
  rw[G.2.ae];exact K.x
 ·refine(nZ K.k L q).trans ?_
  rw[K.lv q,hh];show(M.has q\/some p=some q)/\q≠p↔M.has q\/none=some q;simp only[Option.some.injEq,reduceCtorEq,or_false];exact⟨λh=>h.1.resolve_right λe=>h.2 e.symm,λh=>⟨.inl h,λe=>no (e▸h)⟩⟩
 ·obtain⟨a,b,c,d⟩:=K.on h
  obtain⟨e1,e2,e3⟩:=g M.m.pg;exact⟨by show _<(M.C.bh p).n;rw[G.2.n];exact a,e1.trans b,e2.trans c,e3.trans d⟩
 rw[<-(g i).2.1];exact hi
theorem Mi.shift{M N:Mo}(K:Mi M)(hh:M.hole=none){p:Nat}(hp:M.has p)(h:M.shift p=some N):om M N/\N.hole=none:=by
 have hc:M.C.cl p<M.fP:=(((K.lv p).2 (.inl hp)).toAt.br K.k).1;unfold Mo.shift at h;split at h
 ·next r O hO=>
  simp only[Option.some.injEq]at h;subst h;obtain⟨A,h1,h2,h3,h6,_,h7⟩:=K.take hh hc hO;have dL:O.has p:=by rw[h3];exact hp
  obtain⟨B,h4⟩:=A.i.swap h1 dL (h6.trans (h7 p hp).symm);obtain⟨D,h5⟩:=B.i.sq h4;exact⟨(A.trans B).trans D,h5⟩
 cases h
theorem Mi.KU{M:Mo}(K:Mi M){p:Nat}(hp:M.has p)(hd:M.cE p≠0):om M (M.bY p):=⟨K.bY hp,BI K.p hd⟩
theorem Mi.mstop{M:Mo}(K:Mi M)(kQ:M.m.on=true):om M M.mstop/\M.mstop.hole=M.hole:=by
 obtain⟨a,b,c,d⟩:=K.on kQ;obtain⟨K2,S⟩:=uu K.k a b c;have jg:=CW K.k a;have sm:=uh S λj=>by
  rw[jg];by_cases e:j=M.m.pg
  ·exact⟨false,by rw[if_pos e,e]⟩
  exact⟨(M.C.pg j).lv,by rw[if_neg e]⟩
 have sa:lZ M M.mstop:=fb K.p rfl rfl rfl λq _=>S.cl q;refine⟨⟨⟨K2,sa.p, ?_, ?_,λq=>(sm q).1.trans (K.lv q),K.ho,(λe=>by cases e),λi e=> ?_⟩,sa⟩,rfl⟩
 ·show Qp (M.C.gr M.m.pg).ae.length M.Q
  rw[S.ae];exact K.q
 ·show dt (M.C.gr M.m.pg).ae.length M.Q M.x
  rw[S.ae];exact K.x
 change((M.C.gr M.m.pg).pg i).lv=true at e;rw[jg]at e;by_cases g:i=M.m.pg
 ·rw[if_pos g]at e;cases e
 rw[if_neg g]at e;exact absurd (K.go i e).2 g
theorem Mi.release{M:Mo}(K:Mi M)(kQ:M.m.on=true)(h:(M.C.pg M.m.pg).tk.findIdx? id=none):om M {M with C:=M.C.bw M.m.pg,m:=M.m.off}:=by
 obtain⟨a,b,c,d⟩:=K.on kQ;obtain⟨h0,lP⟩:=ab1 K.k a h;have K2:=wM K.k a b c h0;have jg:=zr K.k a;have Ad:∀q,Live M.C q->M.C.pn q≠M.m.pg:=λq L e=>lP _ (e▸L.tk);have same:∀q,M.C.pn q≠M.m.pg->(M.C.bw M.m.pg).pg ((M.C.bw M.m.pg).pn q)=M.C.pg (M.C.pn q):=λq e=>by
  rw[show(M.C.bw M.m.pg).pn q=M.C.pn q from rfl,jg,if_neg e]
 have Jo:∀q,M.C.pn q≠M.m.pg->(M.C.bw M.m.pg).cl q=M.C.cl q:=λq e=>by unfold Cs.cl;rw[same q e]
 have Gw:∀q,M.C.pn q≠M.m.pg->(M.C.bw M.m.pg).ix q=M.C.ix q:=λq e=>by unfold Cs.ix;rw[Jo q e];rfl
 have wl:∀q,Live (M.C.bw M.m.pg) q↔Live M.C q:=λq=>by
  constructor
  ·intro L
   have e:M.C.pn q≠M.m.pg:=λe=>by
    have t:=L.own;rw[show(M.C.bw M.m.pg).pn q=M.C.pn q from rfl,jg,if_pos e]at t;cases t
   refine⟨⟨L.i,by have:=L.own;rw[same q e]at this;exact this,by have:=L.al;rw[Jo q e]at this;exact this,by have:=L.k;rw[same q e,Gw q e]at this;exact this⟩,by have:=L.tk;rw[same q e,Gw q e]at this;exact this⟩
  intro L;have e:=Ad q L;exact⟨⟨L.i,by rw[same q e];exact L.own,by rw[Jo q e];exact L.al,by rw[same q e,Gw q e];exact L.k⟩,by rw[same q e,Gw q e];exact L.tk⟩
 have sa:lZ M {M with C:=M.C.bw M.m.pg,m:=M.m.off}:=fb K.p rfl rfl rfl λq h=>Jo q (Ad q ((K.lv q).2 (.inl h)));refine⟨⟨K2,sa.p,K.q,K.x,λq=>(wl q).trans (K.lv q),K.ho,(λe=>by cases e),λi e=> ?_⟩,sa⟩;change((M.C.bw M.m.pg).pg i).lv=true at e;rw[jg]at e;by_cases g:i=M.m.pg
 ·rw[if_pos g]at e;cases e
 rw[if_neg g]at e;exact absurd (K.go i e).2 g
theorem Mi.leave{M:Mo}(K:Mi M)(kQ:M.m.on=false){i f t:Nat}(hi:i<M.C.n)(ho:(M.C.pg i).own=true)(hf:(M.C.pg i).cl=f):om M {M with C:=M.C.eT i,m:={M.m with pg:=i,fr:=f,tt:=t,on:=true}}:=by
 have iG:(M.C.pg i).lv=false:=by
  rcases h:(M.C.pg i).lv with _|_
  ·rfl
  have:=(K.go i h).1;rw[kQ]at this;cases this
 obtain⟨K2,S⟩:=Bl K.k hi ho iG;have jg:=Fi K.k hi;have sm:=uh S λj=>by
  rw[jg];by_cases e:j=i
  ·exact⟨true,by rw[if_pos e,e]⟩
  exact⟨(M.C.pg j).lv,by rw[if_neg e]⟩
 have sa:lZ M {M with C:=M.C.eT i,m:={M.m with pg:=i,fr:=f,tt:=t,on:=true}}:=fb K.p rfl rfl rfl λq _=>S.cl q;refine⟨⟨K2,sa.p, ?_, ?_,λq=>(sm q).1.trans (K.lv q),K.ho,λ_=> ?_,λj e=> ?_⟩,sa⟩
 ·show Qp (M.C.eT i).ae.length M.Q
  rw[S.ae];exact K.q
 ·show dt (M.C.eT i).ae.length M.Q M.x
  rw[S.ae];exact K.x
 ·refine⟨hi, ?_, ?_, ?_⟩<;>(show _=_)<;>dsimp only<;>rw[jg,if_pos rfl]
  ·exact ho
  exact hf
 change((M.C.eT i).pg j).lv=true at e;rw[jg]at e;by_cases g:j=i
 ·exact⟨rfl,g⟩
 rw[if_neg g]at e;have:=(K.go j e).1;rw[kQ]at this;cases this
theorem Mi.Hg{M:Mo}(K:Mi M)(hh:M.hole=none){i k:Nat}(hi:i<M.C.n)(ho:(M.C.pg i).own=true)(hk:(M.C.pg i).tk.findIdx? id=some k):M.has (M.C.pS i k):=by
 have P:lI M.C (M.C.pg i):=K.k.pg _ (eA (by rw[K.k.pl];exact hi));rw[abl]at hk;obtain⟨h1,h2,_⟩:=hk;obtain⟨e1,e2,a⟩:=kH K.k hi ho (k:=k) (by rw[<-P.tl];exact h1);have L:Live M.C (M.C.pS i k):=⟨a,by rw[e1,e2,aa0 h1];exact congrArg some h2⟩;exact((K.lv _).1 L).resolve_right (by rw[hh];simp)
theorem Mi.eI{M:Mo}(K:Mi M)(hh:M.hole=none)(kQ:M.m.on=true):om M M.eI.2/\M.eI.2.hole=none:=by
 unfold Mo.eI;split
 ·next h=>exact⟨K.release kQ h,hh⟩
 next k hk=>
 obtain⟨a,b,c,d⟩:=K.on kQ;have hp:=K.Hg hh a b hk;split
 ·next hd=>exact⟨K.KU hp hd,hh⟩
 split
 ·next N hN=>exact K.shift hh hp hN
 obtain⟨g1,g2⟩:=K.mstop kQ;exact⟨g1,g2.trans hh⟩
theorem Vc{M:Mo}(h:M.eI.1=true):M.eI.2.m.on=M.m.on:=by
 unfold Mo.eI at h⊢;split at h
 ·cases h
 next k hk=>
 split
 ·rfl
 next hd=>
 rw[if_neg hd]at h;split at h
 ·next N hN=>
  unfold Mo.shift Mo.take at hN;split at hN
  ·next r O hO=>
   simp only[Option.some.injEq]at hN;subst hN;split at hO
   ·simp only[Option.some.injEq,Prod.mk.injEq]at hO
    obtain⟨rfl,rfl⟩:=hO;rfl
   cases hO
  cases hN
 cases h
theorem Mi.dG:∀(f:Nat) {M:Mo},Mi M->M.hole=none->M.m.on=true->om M (M.dG f).2/\(M.dG f).2.hole=none
 |0,_,K,hh,_=>⟨⟨K, .refl K.p⟩,hh⟩
 |f+1,M,K,hh,kQ=>by
  obtain⟨g1,g2⟩:=K.eI hh kQ;unfold Mo.dG;split
  ·next h=>
   obtain⟨g3,g4⟩:=Mi.dG f g1.i g2 (by rw[Vc h];exact kQ);exact⟨g1.trans g3,g4⟩
  exact⟨g1,g2⟩
theorem Mi.gK{M:Mo}(K:Mi M)(hh:M.hole=none)(aH:Int):om M (M.gK aH).2/\(M.gK aH).2.hole=none:=by
 have T:om M M.fI:=⟨K.rf K.x rfl rfl rfl rfl rfl rfl rfl rfl,fb K.p rfl rfl rfl⟩;unfold Mo.gK;split
 ·exact⟨⟨K, .refl K.p⟩,hh⟩
 split
 ·next kQ=>
  obtain⟨g1,g2⟩:=T.i.dG _ hh kQ;exact⟨T.trans g1,g2⟩
 next kQ=>
 have B:om M.fI M.fI.fU/\M.fI.fU.hole=none:=by
  unfold Mo.fU;split
  ·exact⟨⟨T.i, .refl T.i.p⟩,hh⟩
  split
  ·exact⟨⟨T.i, .refl T.i.p⟩,hh⟩
  split
  ·exact⟨⟨T.i, .refl T.i.p⟩,hh⟩
  next o ho=>
  obtain⟨b1,b2,b3,_⟩:=rK ho;exact⟨T.i.leave (show M.m.on=false by simpa using kQ) b1 b2 b3,hh⟩
 exact⟨T.trans B.1,B.2⟩
theorem Mi.beside{M:Mo}(K:Mi M)(hh:M.hole=none):om M M.beside/\M.beside.hole=none:=by
 have g1:=K.fw;have h1:M.fw.hole=none:=hh;have g2:=g1.i.jy;have h2:M.fw.jy.hole=none:=by
  obtain⟨a1,_⟩:=nQ M.fw M.fw.k.now M.fw.v.p.c;exact a1.trans h1
 obtain⟨g3,h3⟩:=g2.i.gK h2 M.fw.jy.v.p.m;unfold Mo.beside Mo.kY;exact⟨((g1.trans g2).trans g3).trans (g3.i.qA _),h3⟩
theorem akW{n:Nat}{Q:Dy}(K:Qp n Q){x:Cw}(X:dt n Q x){i j k p:Nat}(hi:i<Q.length)(hj:j<Q.length)(hk:(ql Q i)[k]?=some p):dt n (xL Q i k j p) (x.left Q p):=by
 have L:=Df X K.nd hi hk;refine⟨L.go,L.no,λq hq=>⟨?_,(L.nx q hq).2⟩,L.lf⟩;have h:=(L.nx q hq).1;unfold xL;rw[fS (by rw[aa8];exact hj)];split
 ·next e=>rw[<-e];exact aa6 _ h
 exact h
theorem Us{n c hot warm:Nat}{s t:ny}(hc:c<n)(K:Qp n s.Q)(X:dt n s.Q s.x)(h:sg c hot warm s=some t):dt n t.Q t.x:=by
 unfold sg at h;split at h
 ·cases h
 next k hk=>
 have hk3:1<=k/\k<=3:=by
  unfold G8 at hk
  repeat' split at hk
  all_goals first|cases hk|(simp only[Option.some.injEq]at hk;omega)
  all_goals omega
 split at h
 ·cases h
 next p hp=>
 simp only[Option.some.injEq]at h;subst h;have hl:=K.len;refine akW K X (by unfold qi;omega) (by unfold qi;split<;>omega) ?_;rw[<-ahA];exact hp
theorem LD{n c hot warm:Nat}(hc:c<n):∀(k:Nat) {s:ny},Qp n s.Q->dt n s.Q s.x->dt n (lX c hot warm k s).2.Q (lX c hot warm k s).2.x
 |0,_,_,X=>X
 |k+1,s,K,X=>by
  unfold lX;split
  ·exact X
  next t ht=>exact LD hc k (ER hc K ht).1 (Us hc K X ht)
theorem Mi.bal{M:Mo}(K:Mi M)(hot warm:Nat)(k:F9):om M (M.nw hot warm k):=by
 unfold Mo.nw;split
 ·exact⟨K, .refl K.p⟩
 next p hp=>
 have hc:M.C.cl p<M.fP:=(((K.lv p).2 (.inl ((iY K.p).1 hp).1)).toAt.br K.k).1;obtain⟨q1,q2⟩:=LC (hot:=hot) (warm:=warm) hc M.v.p.l.toNat (s:=M.lru) K.q;have x1:=LD (hot:=hot) (warm:=warm) hc M.v.p.l.toNat (s:=M.lru) K.q K.x;have S:=Nf K.p q1.nd q2;have G:om M (M.B5 (lX (M.C.cl p) hot warm M.v.p.l.toNat M.lru).2):=⟨⟨K.k,S.p,q1,x1,λr=>(K.lv r).trans (or_congr (q2 r).symm Iff.rfl),λr h g=>K.ho r h ((q2 r).1 g),K.on,K.go⟩,S⟩;exact G.trans (G.i.qA _)
theorem Mi.behind{M:Mo}(K:Mi M)(hh:M.hole=none)(hot warm:Nat)(k:F9):om M (M.behind hot warm k)/\(M.behind hot warm k).hole=none:=by
 have g:=K.bal hot warm k;obtain⟨g2,h2⟩:=g.i.beside ((LF hot warm M k).1.trans hh);exact⟨g.trans g2,h2⟩
theorem Mi.uF{M:Mo}(K:Mi M)(w:Nat):om M (M.fJ w):=⟨K.rf K.x rfl rfl rfl rfl rfl rfl rfl rfl,fb K.p rfl rfl rfl⟩
theorem Mi.Fs{M:Mo}(K:Mi M):om M M.reset:=⟨K.rf K.x rfl rfl rfl rfl rfl rfl rfl rfl,fb K.p rfl rfl rfl⟩
theorem Mi.meet{M:Mo}(K:Mi M)(k:F9):om M (M.meet k).2/\(M.meet k).1=M.live k/\(M.meet k).2.hole=M.hole:=by
 unfold Mo.meet Mo.live;cases hf:M.find k with
 |none=>exact⟨K.uF 1,rfl,rfl⟩
 |some p=>
  have hp:=((iY K.p).1 hf).1;dsimp only;by_cases hw:M.cE p=0
  ·rw[if_neg (by simpa using hw),if_pos hw]
   exact⟨K.uF 0,rfl,rfl⟩
  rw[if_pos hw,if_neg hw];have g:=K.uF (M.cE p);exact⟨g.trans (g.i.KU hp hw),rfl,rfl⟩
structure GD (M N:Mo)(y:F9)(o:Option (I3×Nat)):Prop where
 i:Mi N
 k:N.k=M.k
 s:∀z,N.kU z=if z=y then o else M.kU z
 d:∀q,N.has q->(N.it q).key=y\/∃p,M.has p/\(M.it p).key=(N.it q).key
 z:N.C.ae=M.C.ae
theorem om.ie{M N O:Mo}{y:F9}{o:Option (I3×Nat)}(a:om M N)(P:Pl M)(b:GD N O y o):GD M O y o:=
 ⟨b.i,b.k.trans a.s.k,λz=>(b.s z).trans (by rw[a.s.s P]),λq h=>(b.d q h).imp id λ⟨p,h1,e⟩=>by
  obtain⟨r,h2,e2⟩:=a.s.d p h1;exact⟨r,h2,(qE e2).symm.trans e⟩,b.z.trans a.s.z⟩
theorem GD.go{M N O:Mo}{y:F9}{o:Option (I3×Nat)}(a:GD M N y o)(b:om N O):GD M O y o:=
 ⟨b.i,b.s.k.trans a.k,λz=>(b.s.s a.i.p z).trans (a.s z),λq h=>by
  obtain⟨r,h2,e2⟩:=b.s.d q h;rw[qE e2];exact a.d r h2,b.s.z.trans a.z⟩
theorem GD.ie{M N O:Mo}{y:F9}{o o2:Option (I3×Nat)}(a:GD M N y o)(b:GD N O y o2):GD M O y o2:=
 ⟨b.i,b.k.trans a.k,λz=>by
  rw[b.s,a.s];by_cases h:z=y<;>simp[h],λq h=>(b.d q h).elim .inl λ⟨p,h1,e⟩=>by rw[<-e];exact a.d p h1,b.z.trans a.z⟩
theorem CZ{M:Mo}(P:Pl M){p:Nat}(h:M.has p):M.kU (M.it p).key=if M.cE p=0 then some (M.vw p)else none:=by
 unfold Mo.kU Mo.live;rw[(iY P).2 ⟨h,rfl⟩];dsimp only;split<;>rfl
theorem agA{M:Mo}{y:F9}(h:∀q,M.has q->(M.it q).key≠y):M.find y=none:=by
 unfold Mo.find;rw[ahL];intro q hq;simpa using h q (gz.1 hq)
theorem RM{M:Mo}(P:Pl M){y:F9}(h:M.find y=none):∀q,M.has q->(M.it q).key≠y:=λq hq e=>by
 rw[(iY P).2 ⟨hq,e⟩]at h;cases h
theorem CY{M:Mo}{y:F9}(h:∀q,M.has q->(M.it q).key≠y):M.kU y=none:=by
 unfold Mo.kU Mo.live;rw[agA h];rfl
theorem Rs{M N:Mo}(P:Pl M)(K:Mi N)(hk:N.k=M.k)(hz:N.C.ae=M.C.ae){y:F9}{o:Option (I3×Nat)}(h1:∀q,N.has q->(N.it q).key≠y->∃p,M.has p/\N.vw q=M.vw p)
  (h2:∀p,M.has p->M.cE p=0->(M.it p).key≠y->∃q,N.has q/\N.vw q=M.vw p) (h3:N.kU y=o):GD M N y o:=by
 refine⟨K,hk,λz=> ?_,λq h=> ?_,hz⟩
 ·by_cases e:z=y
  ·rw[if_pos e,e];exact h3
  rw[if_neg e];refine Option.ext λi=> ?_;rw[qO K.p,qO P];constructor
  ·rintro⟨q,a,b,c,d⟩
   obtain⟨p,f,g⟩:=h1 q a (by rw[b];exact e);exact⟨p,f,(qE g).symm.trans b,(yl hk g).symm.trans c,g.symm.trans d⟩
  rintro⟨p,a,b,c,d⟩;obtain⟨q,f,g⟩:=h2 p a c (by rw[b];exact e);exact⟨q,f,(qE g).trans b,(yl hk g).trans c,g.trans d⟩
 by_cases e:(N.it q).key=y
 ·exact .inl e
 obtain⟨p,f,g⟩:=h1 q h e;exact .inr ⟨p,f,(qE g).symm⟩
theorem Mi.yD{M:Mo}(K:Mi M){p:Nat}(hp:M.has p):GD M (M.bY p) (M.it p).key none:=by
 have e:∀q,(M.bY p).vw q=M.vw q:=λq=>congrArg (Prod.mk _) (uo M.C p q);have hs:∀q,(M.bY p).has q↔M.has q/\q≠p:=λq=>jf K.p;refine Rs K.p (K.bY hp) rfl rfl (λq h _=>⟨q,((hs q).1 h).1,e q⟩) (λq h _ g=>⟨q,(hs q).2 ⟨h,λa=>g (by rw[a])⟩,e q⟩) (CY λq h g=> ?_);obtain⟨h1,h2⟩:=(hs q).1 h;exact h2 (K.p.kd q p h1 hp g)
theorem Mi.jv{M:Mo}(K:Mi M){r:Nat}(hr:M.hole=some r)(n:I3)(hn:∀q,M.has q->(M.it q).key≠n.key):GD M (M.jv r n) n.key (if QD M.k n=0 then some (n.vw,M.C.cl r)else none):=by
 have L:=(K.lv r).2 (.inr hr);have no:∀i,r∉ql M.Q i:=λi h=>K.ho r hr ⟨i,h⟩;have hi:qi (M.C.cl r) 1<M.Q.length:=by
  have h1:=(L.toAt.br K.k).1;have h2:=K.q.len;unfold Mo.fP at h2;unfold qi;omega
 have pm:∀q j,q∈ql (M.jv r n).Q j↔(j=qi (M.C.cl r) 1/\q=r)\/q∈ql M.Q j:=λq j=>jJ hi;have hs:∀q,(M.jv r n).has q↔q=r\/M.has q:=λq=>by
  constructor
  ·rintro⟨j,h⟩
   exact((pm q j).1 h).imp (λh=>h.2) λh=>⟨j,h⟩
  rintro(h|⟨j,h⟩)
  ·exact⟨_,(pm q _).2 (.inl ⟨rfl,h⟩)⟩
  exact⟨j,(pm q j).2 (.inr h)⟩
 have nr:∀q,M.has q->q≠r:=λq ⟨i,h⟩ e=>no i (e▸h);have ir:(M.jv r n).it r={n with fe:=mkSet n.fe false}:=if_pos rfl;have io:∀q,q≠r->(M.jv r n).it q=M.it q:=λq h=>if_neg h;have vo:∀q,q≠r->(M.jv r n).vw q=M.vw q:=λq h=>by unfold Mo.vw;rw[io q h];rfl
 have qe:∀j,ql (M.jv r n).Q j=if j=qi (M.C.cl r) 1 then r::ql M.Q (qi (M.C.cl r) 1)else ql M.Q j:=λj=>fS hi _ j
 have nd:∀j,(ql (M.jv r n).Q j).Nodup:=λj=>by
  rw[qe];split
  ·exact abg.2 ⟨no _,K.p.nd _⟩
  exact K.p.nd j
 have P:Pl (M.jv r n):=by
  refine⟨nd,λa b ha hb e=> ?_⟩;rcases(hs a).1 ha with rfl|a1<;>rcases(hs b).1 hb with rfl|b1
  ·rfl
  ·rw[ir,io b (nr b b1)]at e
   exact absurd e.symm (hn b b1)
  ·rw[ir,io a (nr a a1)]at e
   exact absurd e (hn a a1)
  rw[io a (nr a a1),io b (nr b b1)]at e;exact K.p.kd a b a1 b1 e
 have KN:Mi (M.jv r n):=by
  refine⟨K.k,P,⟨?_,nd,λi j q h g=> ?_⟩,⟨K.x.go,K.x.no,λq hq=>⟨(pm q _).2 (.inr (K.x.nx q hq).1),(K.x.nx q hq).2⟩,K.x.lf⟩,λq=> ?_,(λq h=>by cases h),K.on,K.go⟩
  ·exact aa8.trans K.q.len
  ·rcases(pm q i).1 h with⟨h1,h2⟩|h1<;>rcases(pm q j).1 g with⟨g1,g2⟩|g1
   ·rw[h1,g1]
   ·exact absurd (h2▸g1) (no j)
   ·exact absurd (g2▸h1) (no i)
   exact K.q.one i j q h1 g1
  refine(K.lv q).trans ?_;rw[hr,hs q];show M.has q\/some r=some q↔(q=r\/M.has q)\/none=some q;simp only[Option.some.injEq,reduceCtorEq,or_false];exact⟨λh=>h.elim .inr λh=> .inl h.symm,λh=>h.elim (λh=> .inr h.symm) .inl⟩
 refine Rs K.p KN rfl rfl (λq h g=> ?_) (λq h _ _=>⟨q,(hs q).2 (.inr h),vo q (nr q h)⟩) ?_
 ·rcases(hs q).1 h with rfl|h
  ·rw[ir]at g;exact absurd rfl g
  exact⟨q,h,vo q (nr q h)⟩
 have h:=CZ P ((hs r).2 (.inl rfl));rw[T6,ir]at h;refine h.trans ?_;have e:(M.jv r n).vw r=(n.vw,M.C.cl r):=by
  unfold Mo.vw;rw[ir,abz];rfl
 rw[e];rfl
theorem Mi.oE{M:Mo}(K:Mi M){r:Nat}(hr:M.hole=some r){p:Nat}(hp:M.has p)(n:I3)(hn:(M.it p).key=n.key):GD M (M.oE p r n) n.key (if QD M.k n=0 then some (n.vw,M.C.cl r)else none):=by
 have A:=K.yD hp;rw[hn]at A;have U:=A.i.jv (r:=r) hr n λq h g=>by
  obtain⟨h1,h2⟩:=(jf K.p).1 h;exact h2 (K.p.kd q p h1 hp (g.trans hn.symm))
 have hQ:(M.oE p r n).Q=((M.bY p).jv r n).Q:=by
  show lx (ik M.Q p) (qi (M.C.cl r) 1) r=lx (ik M.Q p) (qi ((M.C.bh p).cl r) 1) r;rw[uo]
 have G:om ((M.bY p).jv r n) (M.oE p r n):=⟨U.i.rf U.i.x rfl hQ rfl rfl rfl rfl rfl rfl,fb U.i.p hQ rfl rfl⟩;have V:=A.ie (U.go G);rw[show(M.bY p).C.cl r=M.C.cl r from uo M.C p r,show(M.bY p).k=M.k from rfl]at V;exact V
theorem Mi.aaf{M:Mo}(K:Mi M)(i:Nat):om M (M.rT i):=⟨K.rf K.x rfl rfl rfl rfl rfl rfl rfl rfl,fb K.p rfl rfl rfl⟩
theorem Mi.fZ{M:Mo}(K:Mi M){r:Nat}(hr:M.hole=some r)(old:FW)(n:I3)(h0:old=none->∀q,M.has q->(M.it q).key≠n.key)(h1:∀p,old=some p->M.has p/\(M.it p).key=n.key):
  GD M (M.fZ r old n) n.key (if QD M.k n=0 then some (n.vw,M.C.cl r)else none)/\(M.fZ r old n).hole=none/\(M.fZ r old n).v.bc=M.v.bc+1:=by
 have g:=K.aaf (M.v.bc+1);cases old with
 |none=>exact⟨g.ie K.p (g.i.jv hr n (h0 rfl)),rfl,rfl⟩
 |some p=>exact⟨g.ie K.p (g.i.oE hr (h1 p rfl).1 n (h1 p rfl).2),rfl,rfl⟩
theorem Mi.room{M:Mo}(K:Mi M)(hh:M.hole=none){j:Nat}(A:j6 M (j+1)){n c:Nat}(hc:M.C.ae.findIdx? (λz=>decide (n<=z))=some c)(own:FW):
  ∃r N,M.room n own=(some r,N)/\om M N/\N.hole=some r/\¬M.has r/\N={M with C:=N.C,hole:=some r}/\N.C.cl r=c/\j6 N j/\M.take c=some (r,N):=by
 have ct:c<M.fP:=(abl.1 hc).1;obtain⟨p,D,hD,hs⟩:=wH K.k ct (by have:=A.sp;omega);have ht:M.take c=some (p,{M with C:=D,hole:=some p}):=by unfold Mo.take;rw[hD]
 obtain⟨G,h1,h2,h3,h4,_,_⟩:=K.take hh ct ht;refine⟨p,_, ?_,G,h1,h2,h3,h4,⟨A.on, ?_⟩,ht⟩
 ·unfold Mo.room
  rw[hc];dsimp only;unfold Mo.pJ;rw[ht]
 have:=A.sp;show j<=D.spare;omega
structure eR where
 f:F9->Option (I3×Nat)
 k:Ck
 i:Nat
 c:oo
 z:F8
def Mo.ps (M:Mo):eR:=⟨M.kU,M.k,M.v.bc,M.v.c,M.C.ae⟩
def eR.set (P:eR)(y:F9)(o:Option (I3×Nat)):eR:={P with f:=λz=>if z=y then o else P.f z}
def eR.num (P:eR)(i:Nat):eR:={P with i:=i}
def eR.put (P:eR)(x:I3)(c:Nat):eR:=P.set x.key (if QD P.k x=0 then some (x,c)else none)
structure cH (T:F9->Prop)(N:Mo)(P:eR):Prop where
 i:Mi N
 h:N.hole=none
 p:N.ps=P
 t:∀q,N.has q->T (N.it q).key
theorem ab6{M N:Mo}(P:Pl M)(G:om M N)(e:N.v.bc=M.v.bc)(e2:N.v.c=M.v.c):N.ps=M.ps:=by
 unfold Mo.ps;rw[e,e2,G.s.z,G.s.k,show N.kU=M.kU from funext (G.s.s P)]
theorem Rr{M N:Mo}{y:F9}{o:Option (I3×Nat)}(U:GD M N y o)(e2:N.v.c=M.v.c):N.ps=(M.ps.set y o).num N.v.bc:=by
 unfold Mo.ps eR.set eR.num;rw[U.k,e2,U.z,show N.kU=_ from funext U.s]
theorem cH.go{M N:Mo}{P:eR}{T:F9->Prop}(S:cH T M P)(G:om M N)(h:N.hole=none)(e:N.v.bc=M.v.bc)(e2:N.v.c=M.v.c):cH T N P:=⟨G.i,h,(ab6 S.i.p G e e2).trans S.p,λq hq=>by
  obtain⟨r,h2,e2⟩:=G.s.d q hq;rw[qE e2];exact S.t r h2⟩
theorem cH.ie{M N:Mo}{P:eR}{T:F9->Prop}(S:cH T M P){y:F9}{o:Option (I3×Nat)}(U:GD M N y o)(hy:T y)(h:N.hole=none){i:Nat}(e:N.v.bc=i)(e2:N.v.c=M.v.c):cH T N ((P.set y o).num i):=⟨U.i,h,by rw[Rr U e2,S.p,e],λq hq=>by
  rcases U.d q hq with g|⟨r,h2,e2⟩
  ·rw[g];exact hy
  rw[<-e2];exact S.t r h2⟩
theorem cH.bc{M:Mo}{P:eR}{T:F9->Prop}(S:cH T M P):P.i=M.v.bc:=by rw[<-S.p];rfl
theorem cH.wX{M:Mo}{P:eR}{T:F9->Prop}(S:cH T M P):P.k=M.k:=by rw[<-S.p];rfl
theorem cH.f{M:Mo}{P:eR}{T:F9->Prop}(S:cH T M P):P.f=M.kU:=by rw[<-S.p];rfl
theorem cH.cfg{M:Mo}{P:eR}{T:F9->Prop}(S:cH T M P):P.c=M.v.c:=by rw[<-S.p];rfl
theorem cH.lE{M:Mo}{P:eR}{T:F9->Prop}(S:cH T M P):P.z=M.C.ae:=by rw[<-S.p];rfl
theorem cH.meet{M:Mo}{P:eR}{T:F9->Prop}(S:cH T M P)(y:F9):cH T (M.meet y).2 P/\(∀p,(M.meet y).1=some p->(M.meet y).2.has p/\((M.meet y).2.it p).key=y/\(M.meet y).2.cE p=0/\P.f y=some ((M.meet y).2.vw p))/\
  ((M.meet y).1=none->P.f y=none/\∀q,(M.meet y).2.has q->((M.meet y).2.it q).key≠y):=by
 obtain⟨G,_,hh⟩:=S.i.meet y;refine⟨S.go G (hh.trans S.h) (xx M y).2.2.2.2.1 (xx M y).2.2.2.1,λp hp=> ?_,λhn=> ?_⟩
 ·rw[S.f]
  unfold Mo.meet at hp⊢;cases hf:M.find y with
  |none=>rw[hf]at hp;cases hp
  |some r=>
   rw[hf]at hp
   try dsimp only at hp⊢
   obtain⟨h1,h2⟩:=(iY S.i.p).1 hf;by_cases hw:M.cE r≠0
   ·rw[if_pos hw]at hp;cases hp
   rw[if_neg hw]at hp⊢;cases hp;have hw:M.cE p=0:=Decidable.of_not_not hw;exact⟨h1,h2,hw,by rw[<-h2,CZ S.i.p h1,if_pos hw];rfl⟩
 rw[S.f];unfold Mo.meet at hn⊢;cases hf:M.find y with
 |none=>exact⟨CY (RM S.i.p hf),RM S.i.p hf⟩
 |some r=>
  rw[hf]at hn
  try dsimp only at hn⊢
  obtain⟨h1,h2⟩:=(iY S.i.p).1 hf;by_cases hw:M.cE r≠0
  ·rw[if_pos hw]
   refine⟨by rw[<-h2,CZ S.i.p h1,if_neg hw],λq hq e=> ?_⟩;obtain⟨a,b⟩:=(jf S.i.p).1 hq;exact b (S.i.p.kd q r a h1 (e.trans h2.symm))
  rw[if_neg hw]at hn;cases hn
def fh.vw (a:fh):fh:={a with eK:=a.eK.map I3.vw}
structure Rm where
 ok:Bool
 v:Option F9
def eR.rm (P:eR)(m:Rm):eR:=match m.v with
 |none=>P
 |some y=>P.set y none
structure RmOk (M N:Mo)(P:eR)(own o:FW)(c:Nat)(m:Rm):Prop where
 i:Mi N
 p:N.ps=P.rm m
 ok:m.ok=o.isSome
 no:o=none->N.hole=none
 r:∀r,o=some r->N.hole=some r/\N.C.cl r=c
 own:∀y,m.v=some y->∀p,own=some p->M.has p->y≠(M.it p).key
 v:∀y,m.v=some y->P.f y≠none
 dr:N.v.mt.dr=if m.v.isSome=true then cm (M.v.mt.dr+1)else M.v.mt.dr
theorem UQ{dd act:Nat->Bool}{own:FW}{n:Nat}{l:F8}{p:Nat}{d:Bool}{k:Nat}(h:lz dd act own n l=(some p,d,k)):p∈l/\some p≠own/\dd p=d:=by
 have sub:∀q∈(cJ own l).take n,q∈l/\some q≠own:=λq hq=>by
  have:=List.mem_of_mem_take hq;unfold cJ at this;rw[abm]at this;exact⟨this.1,by simpa using this.2⟩
 unfold lz yb at h;cases hf:((cJ own l).take n).findIdx? dd with
 |some i=>
  rw[hf]at h;simp only[Prod.mk.injEq]at h;obtain⟨h1,h2,h3⟩:=h;obtain⟨a,b,_⟩:=abl.1 hf;rw[aa0 a,Option.some.injEq]at h1;have:=sub p (h1▸List.getElem_mem a);exact⟨this.1,this.2,by rw[<-h2,<-h1];exact b⟩
 |none=>
  rw[hf]at h;simp only[Prod.mk.injEq]at h;obtain⟨h1,h2,h3⟩:=h;have hm:p∈(cJ own l).take n:=by
   split at h1
   ·next q hq=>cases h1;exact ac4 hq
   exact List.mem_of_mem_head? h1
  have:=sub p hm;refine⟨this.1,this.2, ?_⟩;rw[<-h2];have:=ahz.1 hf p hm;simpa using this
theorem Mi.Bs{M:Mo}(K:Mi M)(c:Nat):om M (M.cR c):=⟨K.rf K.x rfl rfl rfl rfl rfl rfl rfl rfl,fb K.p rfl rfl rfl⟩
theorem cH.room{M N:Mo}{P:eR}{T:F9->Prop}(S:cH T M P){n c:Nat}(hc:M.C.ae.findIdx? (λz=>decide (n<=z))=some c)(own:FW)(A:j6 M 1){o:FW}(h:M.room n own=(o,N)):∃m,RmOk M N P own o c m/\(j6 M 1->m=⟨true,none⟩):=by
 obtain⟨r,D,e,G,h1,h2,h3,h4,_,_⟩:=S.i.room S.h (j:=0) A hc own;rw[e]at h;cases h;exact⟨⟨true,none⟩,⟨G.i,(ab6 S.i.p G (by rw[h3]) (by rw[h3])).trans S.p,rfl,(λe=>by cases e),λq e=>by cases e;exact⟨h1,h4⟩,(λy e=>by cases e),(λy e=>by cases e),by rw[h3];rfl⟩,λ_=>rfl⟩
def JQ (ax:Int)(Mh:Nat)(o:Option (I3×Nat)):Nat:=cn ax Mh (o.map λx=>x.1.tok) id
theorem aaT (M:Mo)(ax:Int)(Mh:Nat)(old:FW):cn ax Mh old (λp=>(M.it p).tok)=JQ ax Mh (old.map M.vw):=by cases old<;>rfl
def eR.rW (P:eR)(c:dy)(k:F9)(o:Option (I3×Nat)):Option (F9×Nat×Nat):=
 if DG c.ax=true then some (c.data,c.fl,gR P.k.now c.ex)else match o with
 |none=>none
 |some x=>if P.c.lim<58+k.length+c.data.length+x.1.val.length then none else some (if c.ax=8 then x.1.val++c.data else c.data++x.1.val,x.1.fl,x.1.exp)
def eR.over (P:eR)(k:F9)(ov:Bool):eR:=if ov=true then P.set k none else P
def Rh (lE:F8)(n:Nat):Nat:=(lE.findIdx? λz=>decide (n<=z)).getD 0
def eR.lays (m:Rm)(P:eR)(k:F9)(ov:Bool)(x:F9×Nat×Nat):fh×eR:=
 if m.ok=true then(.k 1,((P.rm m).put ⟨k,x.1,x.2.1,x.2.2,P.k.now,P.i+1,0⟩ (Rh P.z (58+k.length+x.1.length))).num (P.i+1))else(.t gM,(P.rm m).over k ov)
def eR.dS (m:Rm)(P:eR)(c:dy)(k:F9):fh×eR:=
 if c.lg=true\/P.c.lim<58+k.length+c.data.length then(.t dX,P.over k (DG c.ax))
 else if JQ c.ax c.tok (P.f k)≠0 then(.k (JQ c.ax c.tok (P.f k)),P)
 else match P.rW c k (P.f k)with
  |none=>(.t dX,P)
  |some x=>P.lays m k (DG c.ax) x
def eR.dK (m:Rm)(P:eR)(c:dy):fh×eR:=P.dS m c (c.keys.headD [])
structure Xz (M N:Mo)(P:eR)(k:F9)(m:Rm):Prop where
 v:∀y,m.v=some y->P.f y≠none/\y≠k
 dr:N.v.mt.dr=if m.v.isSome=true then cm (M.v.mt.dr+1)else M.v.mt.dr
 am:j6 M 1->m=⟨true,none⟩
theorem Xz.none{M N:Mo}{P:eR}{k:F9}(h:N.v.mt.dr=M.v.mt.dr):Xz M N P k ⟨true,none⟩:=⟨(λy e=>by cases e),h,λ_=>rfl⟩
theorem Xz.of{M N O:Mo}{P:eR}{k:F9}{m:Rm}(R:Xz N O P k m)(h:N.v.mt.dr=M.v.mt.dr)(a:j6 M 1->j6 N 1):Xz M O P k m:=⟨R.v,by rw[<-h];exact R.dr,λg=>R.am (a g)⟩
def eR.Fits (P:eR):Prop:=∀n:Nat,(n:Int)<=P.c.lim->∃c,P.z.findIdx? (λz=>decide (n<=z))=some c
theorem aeu{P:eR}{k:F9}(h:P.f k=none):P.set k none=P:=by
 unfold eR.set;have e:(λz=>if z=k then none else P.f z)=P.f:=funext λz=>by
  by_cases g:z=k
  ·rw[if_pos g,g,h]
  rw[if_neg g]
 rw[e]
theorem rm_f{P:eR}{m:Rm}{k:F9}(h:∀y,m.v=some y->y≠k):(P.rm m).f k=P.f k:=by
 unfold eR.rm;split
 ·rfl
 next y e=>exact if_neg λg=>h y e g.symm
theorem ajU (P:eR)(m:Rm):(P.rm m).k=P.k/\(P.rm m).i=P.i:=by
 unfold eR.rm;split<;>exact⟨rfl,rfl⟩
theorem cH.over{M:Mo}{P:eR}{T:F9->Prop}(S:cH T M P){k:F9}{old:FW}(h0:old=none->P.f k=none)(h1:∀p,old=some p->M.has p/\(M.it p).key=k)(ov:Bool):cH T (M.over old ov) (P.over k ov):=by
 unfold Mo.over eR.over;cases old with
 |none=>
  rw[aeu (h0 rfl)];simpa using S
 |some p=>
  obtain⟨a,b⟩:=h1 p rfl;cases ov with
  |false=>simpa using S
  |true=>
   simp only[if_true];have U:=S.i.yD a;rw[b]at U;exact S.ie U (by rw[<-b];exact S.t p a) S.h (i:=P.i) S.bc.symm rfl
theorem Km (M:Mo)(old:FW)(ov:Bool):(M.over old ov).v.mt=M.v.mt:=by
 unfold Mo.over;cases old with
 |none=>rfl
 |some p=>cases ov<;>rfl
theorem Z1 (M:Mo)(r:Nat)(old:FW)(n:I3):(M.fZ r old n).v.mt=M.v.mt:=by
 unfold Mo.fZ;cases old<;>rfl
theorem ZL (M:Mo)(k:F9):(M.meet k).2.v.mt=M.v.mt:=by
 unfold Mo.meet;split
 ·rfl
 ·split<;>rfl
theorem afh (M:Mo)(r:Nat)(old:FW)(n:I3):(M.fZ r old n).v.c=M.v.c:=by
 unfold Mo.fZ;cases old<;>rfl
theorem Yz (k v:F9)(fl ex t n:Nat):(⟨k,v,fl,ex,t,n,0⟩:I3).vw=⟨k,v,fl,ex,t,n,0⟩:=by
 unfold I3.vw;simp only[Nat.zero_div,Nat.zero_mul]
theorem cH.laid{M:Mo}{P:eR}{T:F9->Prop}(S:cH T M P){k:F9}(hT:T k){n c:Nat}(hc:M.C.ae.findIdx? (λz=>decide (n<=z))=some c)(old:FW)(A:j6 M 1)(h0:old=none->P.f k=none/\∀q,M.has q->(M.it q).key≠k)(h1:∀p,old=some p->M.has p/\(M.it p).key=k/\P.f k≠none){o:FW}{N:Mo}(hr:M.room n old=(o,N)):
  ∃m,m.ok=o.isSome/\Xz M N P k m/\(o=none->cH T N (P.rm m))/\(∀p,old=some p->N.has p/\(N.it p).key=k)/\(∀r,o=some r->∀v fl ex,cH T (N.fZ r old ⟨k,v,fl,ex,N.k.now,N.v.bc+1,0⟩) (((P.rm m).put ⟨k,v,fl,ex,P.k.now,P.i+1,0⟩ c).num (P.i+1))):=by
 obtain⟨m,R,ha⟩:=S.room hc old A hr;have Y:=xp S.i.co hr;have ne:∀y,m.v=some y->y≠k:=λy e g=>by
  cases old with
  |none=>exact R.v y e (by rw[g];exact(h0 rfl).1)
  |some p=>exact R.own y e p rfl (h1 p rfl).1 (by rw[g,(h1 p rfl).2.1])
 have ht:∀q,N.has q->T (N.it q).key:=λq hq=>by rw[Y.s.it];exact S.t q (Y.s.has q hq)
 have hold:∀p,old=some p->N.has p/\(N.it p).key=k:=λp e=>⟨(Y.s.own p e (h1 p e).1).1,by rw[Y.s.it];exact(h1 p e).2.1⟩;refine⟨m,R.ok,⟨λy e=>⟨R.v y e,ne y e⟩,R.dr,ha⟩,λe=>⟨R.i,R.no e,R.p,ht⟩,hold,λr e v fl ex=> ?_⟩;obtain⟨r1,r2⟩:=R.r r e;obtain⟨U,u1,u2⟩:=R.i.fZ r1 old ⟨k,v,fl,ex,N.k.now,N.v.bc+1,0⟩ (λe q hq=>by rw[Y.s.it];exact(h0 e).2 q (Y.s.has q hq)) hold;have q1:P.k=N.k:=by rw[S.wX,Y.s.k]
 have q2:P.i=N.v.bc:=by rw[S.bc,Y.s.bc]
 refine⟨U.i,u1, ?_,λq hq=>by
  rcases U.d q hq with g|⟨w,h2,e2⟩
  ·rw[g];exact hT
  rw[<-e2];exact ht w h2⟩
 rw[Rr U (afh _ _ _ _),R.p,u2,r2];unfold eR.put;rw[(ajU P m).1,q1,q2,Yz]
theorem cH.lays{M:Mo}{P:eR}{T:F9->Prop}(S:cH T M P)(F:P.Fits){old:FW}{k:F9}(A:j6 M 1)(hT:T k)(h0:old=none->P.f k=none/\∀q,M.has q->(M.it q).key≠k)(h1:∀p,old=some p->M.has p/\(M.it p).key=k/\P.f k≠none)(ov:Bool)(x:F9×Nat×Nat)(hx:(58+k.length+x.1.length:Nat)<=P.c.lim):
  ∃m,cH T (M.lays k old ov x).2 (P.lays m k ov x).2/\(M.lays k old ov x).1.vw=(P.lays m k ov x).1/\Xz M (M.lays k old ov x).2 P k m:=by
 obtain⟨c,hc⟩:=F _ hx;have dx:Rh P.z (58+k.length+x.1.length)=c:=by unfold Rh;rw[hc];rfl
 rw[S.lE]at hc;rcases hr:M.room (58+k.length+x.1.length) old with⟨o,N⟩
 obtain⟨m,m1,m2,m3,m4,m5⟩:=S.laid hT hc old A h0 h1 hr;refine⟨m, ?_⟩;unfold Mo.lays eR.lays;rw[hr,dx];cases o with
 |none=>
  dsimp only;rw[m1,if_neg (by decide)];refine⟨(m3 rfl).over (λe=>by rw[rm_f λy e=>(m2.v y e).2];exact(h0 e).1) m4 ov,rfl,m2.v, ?_,m2.am⟩;rw[Km];exact m2.dr
 |some r=>
  dsimp only;rw[m1,if_pos (by rfl)];refine⟨m5 r rfl x.1 x.2.1 x.2.2,rfl,m2.v, ?_,m2.am⟩;rw[Z1];exact m2.dr
theorem cH.jj{M:Mo}{P:eR}{T:F9->Prop}(S:cH T M P)(F:P.Fits){old:FW}{k:F9}(A:j6 M 1)(hT:T k)(h0:old=none->P.f k=none/\∀q,M.has q->(M.it q).key≠k)(h1:∀p,old=some p->M.has p/\(M.it p).key=k/\P.f k=some (M.vw p))(c:dy):
  ∃m,cH T (M.jj c k old).2 (P.dS m c k).2/\(M.jj c k old).1.vw=(P.dS m c k).1/\Xz M (M.jj c k old).2 P k m:=by
 have xO:∀p,old=some p->M.has p/\(M.it p).key=k/\P.f k≠none:=λp e=>⟨(h1 p e).1,(h1 p e).2.1,by rw[(h1 p e).2.2];simp⟩;have ef:P.f k=old.map M.vw:=by
  cases old with
  |none=>exact(h0 rfl).1
  |some p=>exact(h1 p rfl).2.2
 have en:M.rW c k old=P.rW c k (P.f k):=by
  rw[ef];unfold Mo.rW eR.rW;rw[S.wX,S.cfg];cases old<;>rfl
 unfold Mo.jj eR.dS;rw[aaT,<-ef,en,S.cfg];by_cases g1:c.lg=true\/M.v.c.lim<58+k.length+c.data.length
 ·rw[if_pos g1]
  simp only[if_pos g1];exact⟨⟨true,none⟩,S.over (λe=>(h0 e).1) (λp e=>⟨(h1 p e).1,(h1 p e).2.1⟩) _,rfl, .none (by rw[Km])⟩
 rw[if_neg g1];simp only[if_neg g1];by_cases g2:JQ c.ax c.tok (P.f k)≠0
 ·rw[if_pos g2]
  simp only[if_pos g2];exact⟨⟨true,none⟩,S,rfl, .none rfl⟩
 rw[if_neg g2];simp only[if_neg g2];cases hx:P.rW c k (P.f k)with
 |none=>exact⟨⟨true,none⟩,S,rfl, .none rfl⟩
 |some x=>
  refine S.lays F A hT h0 xO (DG c.ax) x ?_;unfold eR.rW at hx;rw[S.cfg]at hx⊢;have g3:¬M.v.c.lim<58+k.length+c.data.length:=λh=>g1 (.inr h);split at hx
  ·cases hx
   simp only;omega
  split at hx
  ·cases hx
  next y hy=>
  split at hx
  ·cases hx
  cases hx;simp only;split<;>rw[aa9]<;>omega
theorem cH.dS{M:Mo}{P:eR}{T:F9->Prop}(S:cH T M P)(F:P.Fits)(c:dy)(k:F9)(A:j6 M 1)(hT:T k):
  ∃m,cH T (M.dS c k).2 (P.dS m c k).2/\(M.dS c k).1.vw=(P.dS m c k).1/\Xz M (M.dS c k).2 P k m:=by
 obtain⟨S1,h1,h2⟩:=S.meet k;obtain⟨m,a,b,d⟩:=S1.jj (old:=(M.meet k).1) (k:=k) F (A.meet k) hT h2 (λp e=>⟨(h1 p e).1,(h1 p e).2.1,(h1 p e).2.2.2⟩) c;exact⟨m,a,b,d.of (by rw[ZL]) λA=>A.meet k⟩
theorem cH.dK{M:Mo}{P:eR}{T:F9->Prop}(S:cH T M P)(F:P.Fits)(c:dy)(hv:5<=c.ax/\c.ax<=10)(A:j6 M 1)(hT:T (c.keys.headD [])):
  ∃m,cH T (M.dK c).2 (P.dK m c).2/\(M.dK c).1.vw=(P.dK m c).1/\Xz M (M.dK c).2 P (c.keys.headD []) m:=by
 unfold Mo.dK eR.dK;rw[if_neg (by omega),if_neg (by omega),if_neg (by omega),if_neg (by omega),if_neg (by omega),if_neg (by omega),if_neg (by omega),if_neg (by omega)];exact S.dS F c _ A hT
def eR.dO (m:Rm)(P:eR)(c:dy):fh×eR:=if lY c=true then(.t Cb,P)else P.dK m c
theorem BH (M:Mo):M.beside.v.mt.dr=M.v.mt.dr:=by
 unfold Mo.beside Mo.kY Mo.jy Mo.fw Mo.aR;rfl
theorem PM (hot warm:Nat)(M:Mo)(k:F9):(M.behind hot warm k).v.mt.dr=M.v.mt.dr:=by
 unfold Mo.behind;rw[BH];unfold Mo.nw;split<;>rfl
theorem cH.beside{M:Mo}{P:eR}{T:F9->Prop}(S:cH T M P):cH T M.beside P:=S.go (S.i.beside S.h).1 (S.i.beside S.h).2 (oa M).bc (oa M).c
theorem cH.behind{M:Mo}{P:eR}{T:F9->Prop}(S:cH T M P)(hot warm:Nat)(k:F9):cH T (M.behind hot warm k) P:=S.go (S.i.behind S.h hot warm k).1 (S.i.behind S.h hot warm k).2 (v7 hot warm M k).bc (v7 hot warm M k).c
theorem cH.jG{P:eR}{T:F9->Prop}(hot warm:Nat):∀(l:List F9) {M:Mo},cH T M P->cH T (l.foldl (Mo.behind hot warm) M) P
 | [],_,S=>S
 |k::l,_,S=>cH.jG hot warm l (S.behind hot warm k)
theorem zG (hot warm:Nat):∀(l:List F9) (M:Mo),(l.foldl (Mo.behind hot warm) M).v.mt.dr=M.v.mt.dr
 | [],_=>rfl
 |k::l,M=>by rw[ahC,zG hot warm l,PM]
theorem cH.reset{M:Mo}{P:eR}{T:F9->Prop}(S:cH T M P):cH T M.reset P:=S.go S.i.Fs S.h rfl rfl
theorem j6.of{M N:Mo}{j:Nat}(A:j6 M j)(h1:N.m.on=M.m.on)(h2:N.C=M.C):j6 N j:=A.ev (.rf h1 h2)
theorem cH.dO{M:Mo}{P:eR}{T:F9->Prop}(S:cH T M P)(F:P.Fits)(hot warm:Nat)(c:dy)(hv:5<=c.ax/\c.ax<=10)(A:j6 M 1)(hT:T (c.keys.headD [])):
  ∃m,cH T (M.dO hot warm c).2 (P.dO m c).2/\(M.dO hot warm c).1.vw=(P.dO m c).1/\(∀y,m.v=some y->P.f y≠none/\y≠c.keys.headD [])/\(M.dO hot warm c).2.v.mt.dr=(if m.v.isSome=true then 1 else 0)/\(j6 M 1->m=⟨true,none⟩):=by
 unfold Mo.dO eR.dO;split
 ·exact⟨⟨true,none⟩,S.reset,rfl,(λy e=>by cases e),rfl,λ_=>rfl⟩
 obtain⟨m,a,b,d⟩:=S.reset.dK F c hv (A.ev (.rf rfl rfl)) hT;have hd:(M.reset.dK c).2.v.mt.dr=(if m.v.isSome=true then 1 else 0):=by
  rw[d.dr];split<;>rfl
 split
 ·exact⟨m,a.beside,b,d.v,by rw[BH];exact hd,λA=>d.am (A.of rfl rfl)⟩
 exact⟨m,a.jG hot warm _,b,d.v,by rw[zG];exact hd,λA=>d.am (A.of rfl rfl)⟩
def QC (M N:Mo):Prop:=∃A B,Ev M A/\(B=A\/∃c r,Mi A/\c<A.C.ae.length/\A.take c=some (r,B))/\Ev B N
theorem Ev.one{M N:Mo}(E:Ev M N):QC M N:=⟨N,N,E, .inl rfl, .rf rfl rfl⟩
theorem Ev.then{M N O:Mo}(E:Ev M N)(F:QC N O):QC M O:=by
 obtain⟨A,B,h1,h2,h3⟩:=F;exact⟨A,B,E.trans h1,h2,h3⟩
theorem QC.then{M N O:Mo}(F:QC M N)(E:Ev N O):QC M O:=by
 obtain⟨A,B,h1,h2,h3⟩:=F;exact⟨A,B,h1,h2,h3.trans E⟩
theorem Ev.over (M:Mo)(old:FW)(ov:Bool):Ev M (M.over old ov):=by
 unfold Mo.over;split
 ·split
  ·exact Ev.bY M _
  exact .rf rfl rfl
 exact .rf rfl rfl
theorem xq{M:Mo}(K:Mi M)(hh:M.hole=none)(A:j6 M 1)(n:Nat)(own:FW){o:FW}{N:Mo}(h:M.room n own=(o,N)):N=M\/∃c r,Mi M/\c<M.C.ae.length/\M.take c=some (r,N):=by
 cases hc:M.C.ae.findIdx? (λz=>decide (n<=z))with
 |none=>
  unfold Mo.room at h;rw[hc]at h;cases h;exact .inl rfl
 |some c=>
  obtain⟨r,D,e,_,_,_,_,_,_,t⟩:=K.room hh (j:=0) A hc own;rw[e]at h;cases h;exact .inr ⟨c,r,K,(abl.1 hc).1,t⟩
theorem ZY{M:Mo}(K:Mi M)(hh:M.hole=none)(A:j6 M 1)(k:F9)(old:FW)(ov:Bool)(x:F9×Nat×Nat):QC M (M.lays k old ov x).2:=by
 unfold Mo.lays;rcases hr:M.room (58+k.length+x.1.length) old with⟨_|r,N⟩
 ·exact⟨M,N, .rf rfl rfl,xq K hh A _ _ hr,Ev.over _ _ _⟩
 exact⟨M,N, .rf rfl rfl,xq K hh A _ _ hr,Ev.fZ _ _ _ _⟩
theorem Ev.jw (ie:Bool)(ex:Int)(s:List I3×Mo)(y:F9):Ev s.2 (Mo.jw ie ex s y).2:=by
 have e:=Ev.meet s.2 y;unfold Mo.jw;rcases hm:s.2.meet y with⟨_|p,N⟩<;>rw[hm]at e
 ·exact e
 cases ie
 ·exact e.trans (.rf rfl rfl)
 exact e.trans (.rf rfl rfl)
theorem Ev.xY (ie:Bool)(ex:Int):∀(l:List F9) (s:List I3×Mo),Ev s.2 (l.foldl (Mo.jw ie ex) s).2
 | [],_=> .rf rfl rfl
 |y::l,s=>by rw[ahC];exact(Ev.jw ie ex s y).trans (Ev.xY ie ex l _)
theorem Lh{M:Mo}{P:eR}{T:F9->Prop}(S:cH T M P)(A:j6 M 1)(c:dy):QC M (M.dK c).2:=by
 unfold Mo.dK;split
 ·exact(Ev.xY _ _ c.keys ([],M)).one
 split
 ·have e:=Ev.meet M (c.keys.headD [])
  have S1:=(S.meet (c.keys.headD [])).1;have A1:=A.meet (c.keys.headD []);unfold Mo.counts;rcases hm:M.meet (c.keys.headD [])with⟨_|p,N⟩<;>rw[hm]at e S1 A1
  ·exact e.one
  dsimp only at S1 A1⊢;cases kV (N.it p).val with
  |none=>exact e.one
  |some n=>
   refine e.then ?_;dsimp only;unfold Mo.qL;split
   ·exact Ev.one (by exact .rf rfl rfl)
   split
   ·exact Ev.one (by exact .rf rfl rfl)
   rcases hr:N.room (58+(N.it p).key.length+(dZ (gX c n)).length) (some p)with⟨_|r,R⟩
   ·exact⟨N,R, .rf rfl rfl,xq S1.i S1.h A1 _ _ hr, .rf rfl rfl⟩
   exact⟨N,R, .rf rfl rfl,xq S1.i S1.h A1 _ _ hr,by dsimp only;exact Ev.fZ _ _ _ _⟩
 split
 ·have e:=Ev.meet M (c.keys.headD [])
  unfold Mo.gN;rcases hm:M.meet (c.keys.headD [])with⟨_|p,N⟩<;>rw[hm]at e
  ·exact e.one
  exact Ev.one (e.trans (by exact .rf rfl rfl))
 split
 ·have e:=Ev.meet M (c.keys.headD [])
  unfold Mo.delete;rcases hm:M.meet (c.keys.headD [])with⟨_|p,N⟩<;>rw[hm]at e
  ·exact e.one
  exact Ev.one (e.trans (by exact Ev.bY _ _))
 split
 ·exact Ev.one (by exact .rf rfl rfl)
 split
 ·exact Ev.one (by exact .rf rfl rfl)
 split
 ·exact Ev.one (by exact .rf rfl rfl)
 split
 ·exact Ev.one (by exact .rf rfl rfl)
 have e:=Ev.meet M (c.keys.headD []);have S1:=(S.meet (c.keys.headD [])).1;have A1:=A.meet (c.keys.headD []);unfold Mo.dS;refine e.then ?_;unfold Mo.jj;split
 ·exact(Ev.over _ _ _).one
 split
 ·exact Ev.one (by exact .rf rfl rfl)
 split
 ·exact Ev.one (by exact .rf rfl rfl)
 exact ZY S1.i S1.h A1 _ _ _ _
theorem YH{M N:Mo}{c r:Nat}(h:M.take c=some (r,N)):M.C.spare<=N.C.spare+1/\N.m=M.m:=by
 unfold Mo.take at h;split at h
 ·next p D hD=>
  cases h;refine⟨?_,rfl⟩;unfold Cs.dD at hD;split at hD
  ·cases hD;exact Nat.le_succ _
  split at hD
  ·cases hD
  next i _=>
  split at hD
  ·cases hD
   show M.C.spare<=M.C.spare-1+1;omega
  cases hD
 cases h
theorem QC.amp{M N:Mo}{j:Nat}(A:j6 M (j+1))(E:QC M N):j6 N j:=by
 obtain⟨B,D,h1,h2,h3⟩:=E;have A1:=A.ev h1;have A2:j6 D j:=by
  rcases h2 with rfl|⟨c,r,_,_,h⟩
  ·exact A1.le (Nat.le_succ j)
  obtain⟨g1,g2⟩:=YH h;exact⟨by rw[g2];exact A1.on,by have:=A1.sp;omega⟩
 exact A2.ev h3
theorem akU{M:Mo}{P:eR}{T:F9->Prop}(S:cH T M P){j:Nat}(A:j6 M (j+2))(hot warm:Nat)(c:dy):QC M (M.dO hot warm c).2:=by
 have E0:Ev M M.reset:= .rf rfl rfl;unfold Mo.dO;split
 ·exact E0.one
 have A0:j6 M.reset (j+1+1):=A.ev E0;have E:=Lh S.reset (A0.le (ahx (abn _))) c;have A1:=E.amp A0;split
 ·exact E0.then (E.then (A1.le (ahx (abn _))).beside)
 exact E0.then (E.then (j6.jG hot warm _ A1))
theorem agP{M:Mo}{P:eR}{T:F9->Prop}(S:cH T M P){j:Nat}(A:j6 M (j+2))(hot warm:Nat)(c:dy):j6 (M.dO hot warm c).2 (j+1):=(akU S A hot warm c).amp A
structure XA (M:Mo)(s:Nat):Prop where
 st:M.m.st<=s
 tn:M.tn<=s
 bc:M.v.bc<=s
theorem agO{M:Mo}{P:eR}{T:F9->Prop}(S:cH T M P){s:Nat}(R:XA M s)(hot warm:Nat)(c:dy):XA (M.dO hot warm c).2 (s+c.keys.length+1)/\(M.dO hot warm c).2.v.p=M.v.p/\(M.dO hot warm c).2.v.c=M.v.c:=by
 have r1:=R.st;have r2:=R.tn;have r3:=R.bc;unfold Mo.dO;split
 ·exact⟨⟨by show M.m.st<=_;omega,by show M.tn<=_;omega,by show M.v.bc<=_;omega⟩,rfl,rfl⟩
 have KD:=Dr S.reset.i.co S.h c;have k1:_=M.m.st:=KD.st;have k2:_<=M.v.bc+1:=KD.bc;have k3:_<=M.tn+max c.keys.length 1:=KD.tn;have k4:_=M.v.p:=KD.p;have k5:_=M.v.c:=KD.c;generalize (M.reset.dK c).2=N at*;split
 ·have B:=oa N
  have b1:=B.st;have b2:=B.bc;have b3:=B.tn;exact⟨⟨by dsimp only;omega,by dsimp only;omega,by dsimp only;omega⟩,B.p.trans k4,B.c.trans k5⟩
 have B:=pD hot warm c.keys N;have b1:=B.st;have b2:=B.bc;have b3:=B.tn;exact⟨⟨by dsimp only;omega,by dsimp only;omega,by dsimp only;omega⟩,B.p.trans k4,B.c.trans k5⟩
theorem QY (P:eR)(m:Rm):(P.rm m).c=P.c/\(P.rm m).z=P.z:=by
 unfold eR.rm;split<;>exact⟨rfl,rfl⟩
theorem C8 (P:eR)(k:F9)(ov:Bool):(P.over k ov).c=P.c/\(P.over k ov).z=P.z:=by
 unfold eR.over;split<;>exact⟨rfl,rfl⟩
theorem akV (m:Rm)(P:eR)(c:dy):(P.dO m c).2.c=P.c/\(P.dO m c).2.z=P.z:=by
 unfold eR.dO;split
 ·exact⟨rfl,rfl⟩
 unfold eR.dK eR.dS;split
 ·exact C8 _ _ _
 split
 ·exact⟨rfl,rfl⟩
 split
 ·exact⟨rfl,rfl⟩
 unfold eR.lays;split
 ·exact QY P m
 exact⟨(C8 _ _ _).1.trans (QY P m).1,(C8 _ _ _).2.trans (QY P m).2⟩
theorem Dv{m:Rm}{P:eR}{c:dy}(F:P.Fits):(P.dO m c).2.Fits:=by
 obtain⟨a,b⟩:=akV m P c;unfold eR.Fits;rw[a,b];exact F
theorem M9{l:F8}{p:Nat}(nd:l.Nodup)(h:p∈l)(g:∀q∈l,q=p):l.length=1:=by
 cases l with
 |nil=>cases h
 |cons a r=>
  cases r with
  |nil=>rfl
  |cons b r=>
   have h1:=g a aa5;have h2:=g b (aa6 _ aa5);rw[h1,h2]at nd;exact absurd aa5 (abg.1 nd).1
theorem ZV{B:Bx}{M:Mo}{P:eR}{k:F9}(O:bM B M)(S:cH (λy=>y=k) M P)(h:P.f k≠none):M.n=1:=by
 cases hx:P.f k with
 |none=>exact absurd hx h
 |some x=>
  rw[S.f]at hx;obtain⟨p,h1,h2,_,_⟩:=(qO S.i.p).1 hx;rw[<-O.n,O.t.n];refine M9 O.t.nd ((O.al p).2 h1) λq hq=> ?_;have g:=(O.al q).1 hq;exact S.i.p.kd q p g h1 ((S.t q g).trans h2.symm)
theorem Kr{c:oo}{pc:tO}{k:Ck}{q:Nat}(h:(gu c pc k).has q):False:=by
 obtain⟨i,hi⟩:=h;rw[show(gu c pc k).Q=List.replicate ((dz c).ae.length*3) []from rfl,Hq]at hi;cases hi
def D1 (c:oo):eR:=⟨λ_=>none,⟨1,0,0⟩,0,c,bF c⟩
theorem U3{c:oo}(h:lH c=0)(pc:tO)(T:F9->Prop):cH T (gu c pc ⟨1,0,0⟩) (D1 c):=by
 have O:=Ks h pc ⟨1,0,0⟩ ⟨abc _,by decide,by decide,λh=>absurd rfl h,by decide⟩ 0;refine⟨O.mi,rfl, ?_,λq hq=>(Kr hq).elim⟩;unfold Mo.ps D1;rw[show(gu c pc ⟨1,0,0⟩).kU=λ_=>none from funext λz=>CY λq hq=>(Kr hq).elim];rfl
theorem ZF (c:oo)(pc:tO)(k:Ck):j6 (gu c pc k) c.pgs.toNat:=⟨rfl,abc _⟩
theorem Kq (c:oo)(pc:tO)(k:Ck):XA (gu c pc k) 0:=⟨abc _,abc _,abc _⟩
theorem aao{P:eR}{z:Nat}(h:z∈P.z)(hl:P.c.lim<=z):P.Fits:=λn hn=>by
 cases hf:P.z.findIdx? (λz=>decide (n<=z))with
 |some c=>exact⟨c,rfl⟩
 |none=>
  have:=ahz.1 hf z h;simp only[decide_eq_false_iff_not]at this;omega
theorem ZT{M:Mo}{P:eR}{T:F9->Prop}(S:cH T M P){k:F9}{x:I3}{c:Nat}(h:P.f k=some (x,c)):∃p,M.live k=some p/\(M.it p).vw=x:=by
 rw[S.f]at h;unfold Mo.kU at h;cases hl:M.live k with
 |none=>rw[hl]at h;cases h
 |some p=>
  rw[hl]at h;simp only[Option.map_some,Option.some.injEq]at h;exact⟨p,rfl,congrArg Prod.fst h⟩
def Qd:Rm:=⟨true,none⟩
theorem yJ{M:Mo}{P:eR}{T:F9->Prop}(S:cH T M P)(F:P.Fits){j s:Nat}(A:j6 M (j+2))(R:XA M s)(hot warm:Nat)(c:dy)(hv:5<=c.ax/\c.ax<=10)(hT:T (c.keys.headD [])):
  (cH T (M.dO hot warm c).2 (P.dO Qd c).2/\(M.dO hot warm c).1.vw=(P.dO Qd c).1/\j6 (M.dO hot warm c).2 (j+1)/\XA (M.dO hot warm c).2 (s+c.keys.length+1))/\(M.dO hot warm c).2.v.p=M.v.p/\(M.dO hot warm c).2.v.c=M.v.c:=by
 obtain⟨m,a,b,_,_,h⟩:=S.dO F hot warm c hv (A.le (ahx (abn _))) hT;obtain rfl:=h (A.le (ahx (abn _)));obtain⟨r1,r2,r3⟩:=agO S R hot warm c;exact⟨⟨a,b,agP S A hot warm c,r1⟩,r2,r3⟩
structure Rdy (M:Mo):Prop where
 h:M.hole=none
 st:M.m.st<=1000
 tn:M.tn<=1000
 bc:M.v.bc<=1000
 p:An M.v.p
 lim:M.v.c.lim<=1048576
structure Rdo (M:Mo)(c:dy):Prop where
 r:Rdy M
 a:j6 M 1
 b:j6 (M.reset.dK c).2 1
theorem Hn{M:Mo}{P:eR}{T:F9->Prop}(S:cH T M P){s:Nat}(R:XA M s)(hs:s<=1000)(hp:An M.v.p)(hl:M.v.c.lim<=1048576):Rdy M:=⟨S.h,ahO R.st hs,ahO R.tn hs,ahO R.bc hs,hp,hl⟩
theorem Ho{M:Mo}{P:eR}{T:F9->Prop}(S:cH T M P){j:Nat}(A:j6 M (j+2))(R:Rdy M)(c:dy):Rdo M c:=⟨R,A.le (ahx (abn _)),((Lh S.reset ((A.le (ahx (abn _))).of rfl rfl) c).amp (A.of rfl rfl:j6 M.reset (j+1+1))).le (ahx (abn _))⟩
theorem yN:An kC:=⟨by decide,by decide,by decide,by decide⟩
def cW:oo:=⟨4096,4,200,64,256,30,30⟩
def vf (v:Int)(fl tok:Nat)(b:UInt8):dy:=⟨v,[[97]],fl,0,tok,0,[b],false,false,[]⟩
theorem agV:lH cW=0:=by decide+kernel
theorem agU:sM cW kC=0:=by decide+kernel
theorem pW1:((D1 cW).dO Qd (vf 5 5 0 120)).1.kind=1:=by kernel_rfl
theorem pW2:(((D1 cW).dO Qd (vf 5 5 0 120)).2.dO Qd (vf 10 0 1 121)).1.kind=1:=by kernel_rfl
theorem pW3:((((D1 cW).dO Qd (vf 5 5 0 120)).2.dO Qd (vf 10 0 1 121)).2.dO Qd (vf 10 0 1 122)).1.kind=3:=by kernel_rfl
theorem pWf:((((D1 cW).dO Qd (vf 5 5 0 120)).2.dO Qd (vf 10 0 1 121)).2.dO Qd (vf 10 0 1 122)).2.f [97]=some (⟨[97],[121],0,0,1,2,0⟩,0):=by kernel_rfl
theorem s7 (hot warm:Nat):∀r1 r2 r3,(gu cW kC ⟨1,0,0⟩).dO hot warm (vf 5 5 0 120)=r1->r1.2.dO hot warm (vf 10 0 1 121)=r2->r2.2.dO hot warm (vf 10 0 1 122)=r3->
  ((Rdo (gu cW kC ⟨1,0,0⟩) (vf 5 5 0 120)/\Rdo r1.2 (vf 10 0 1 121)/\Rdo r2.2 (vf 10 0 1 122))/\r1.1.kind=1/\r2.1.kind=1/\r3.1.kind=3)/\∃P,cH (λy=>y= [97]) r3.2 P/\P.f [97]=some (⟨[97],[121],0,0,1,2,0⟩,0):=by
 intro r1 r2 r3 e1 e2 e3;have w0:(gu cW kC ⟨1,0,0⟩).v.c.lim<=1048576:=show(256:Int)<=1048576 by decide
 have F0:(D1 cW).Fits:=aao (z:=256) (show 256∈bF cW by decide+kernel) (by decide);have S0:cH (λy=>y= [97]) (gu cW kC ⟨1,0,0⟩) (D1 cW):=U3 agV kC _;have A0:j6 (gu cW kC ⟨1,0,0⟩) (2+2):=ZF cW kC _;have R0:=Kq cW kC ⟨1,0,0⟩;obtain⟨⟨S1,k1,A1,R1⟩,p1,c1⟩:=yJ S0 F0 A0 R0 hot warm (vf 5 5 0 120) (by decide) rfl;rw[e1]at S1 k1 A1 R1 p1 c1;obtain⟨⟨S2,k2,A2,R2⟩,p2,c2⟩:=yJ S1 (Dv F0) A1 R1 hot warm (vf 10 0 1 121) (by decide) rfl;rw[e2]at S2 k2 A2 R2 p2 c2;obtain⟨⟨S3,k3,A3,R3⟩,p3,c3⟩:=yJ S2 (Dv (Dv F0)) (j:=0) A2 R2 hot warm (vf 10 0 1 122) (by decide) rfl;rw[e3]at S3 k3 A3 R3;exact⟨⟨⟨Ho S0 A0 (Hn S0 R0 (by decide) yN w0) _,Ho S1 A1 (Hn S1 R1 (by decide) (p1.symm▸yN) (c1.symm▸w0)) _,Ho S2 (j:=0) A2 (Hn S2 R2 (by decide) (p2.symm▸p1.symm▸yN) (c2.symm▸c1.symm▸w0)) _⟩,(congrArg fh.kind k1).trans pW1,(congrArg fh.kind k2).trans pW2,(congrArg fh.kind k3).trans pW3⟩,_,S3,pWf⟩
theorem cH.aN{M:Mo}{P:eR}{T:F9->Prop}(S:cH T M P)(a:FX)(c:Nat):cH T (M.aN a c) P:=S.go ⟨S.i.rf S.i.x rfl rfl rfl rfl rfl rfl rfl rfl,fb S.i.p rfl rfl rfl⟩ S.h rfl rfl
def BW (n:Int):Int:=((n.tmod 1048577).natAbs:Int)
def Ac (p:tO):tO:=⟨BW p.b,BW p.l,BW p.c,BW p.m⟩
theorem lK (n:Int):0<=BW n/\BW n<=1048576:=by
 unfold BW;have h:=aiD n (b:=1048577) (by decide);have h2: -(1048577:Int)<n.tmod 1048577:=by
  have:=aiD (-n) (b:=1048577) (by decide);rw[Int.neg_tmod]at this;omega
 omega
theorem Zn (p:tO):An (Ac p):=by
 have h1:=lK p.b;have h2:=lK p.l;have h3:=lK p.c;have h4:=lK p.m;constructor<;>(unfold Ac;dsimp only;omega)
theorem zc (M:Mo)(n:Int):(M.tick n).m=M.m/\(M.tick n).tn=M.tn/\(M.tick n).v.bc=M.v.bc/\(M.tick n).v.p=M.v.p/\(M.tick n).v.c=M.v.c:=by
 unfold Mo.tick;split
 ·obtain⟨_,a2,a3,_,a5,a6,a7⟩:=nQ (M.eM n).reset (M.eM n).k.now 64
  exact⟨a2,a7,a6,a3,a5⟩
 exact⟨rfl,rfl,rfl,rfl,rfl⟩
theorem XA.tick{M:Mo}{s:Nat}(R:XA M s)(n:Int):XA (M.tick n) s:=by
 obtain⟨a,b,c,_,_⟩:=zc M n;exact⟨by rw[a];exact R.st,by rw[b];exact R.tn,by rw[c];exact R.bc⟩
def BK (fac n:Nat):Nat:=max (((n*fac+99)/100+7)/8*8) (n+8)
def mV (fac last:Nat):Nat->Nat->F8
 |0,_=> []
 |k+1,n=>if last<=n then []else n::mV fac last k (BK fac n)
theorem mz (fac last k n:Nat)(h:last<=n):mV fac last k n= []:=by
 cases k with
 |zero=>rfl
 |succ k=>unfold mV;rw[if_pos h]
theorem Bb (fac last:Nat):∀(k j n:Nat),last-n<=k->last-n<=j->mV fac last k n=mV fac last j n
 |0,j,n,h,_=>by rw[mz fac last j n (by omega)];rfl
 |k+1,0,n,_,h=>by rw[mz fac last (k+1) n (by omega)];rfl
 |k+1,j+1,n,h1,h2=>by
  unfold mV;split
  ·rfl
  have:n+8<=BK fac n:=alg _ _;rw[Bb fac last k j (BK fac n) (by omega) (by omega)]
theorem vM (fac last n:Nat)(h:n<last):mV fac last (last-n) n=n::mV fac last (last-BK fac n) (BK fac n):=by
 obtain⟨k,hk⟩:∃k,last-n=k+1:=⟨last-n-1,by omega⟩;have:n+8<=BK fac n:=alg _ _;rw[hk]
 conv=>lhs;unfold mV
 rw[if_neg (by omega),Bb fac last k (last-BK fac n) _ (by omega) (by omega)]
theorem ae3{fac n:Nat}(h1:105<=fac)(h2:64<=n)(h3:n % 8=0):BK fac n=(n*fac+799)/800*8:=by
 unfold BK;have:n*105<=n*fac:=Nat.mul_le_mul_left n h1;generalize n*fac=x at*;omega
theorem J1{fac last:Nat}(hf:105<=fac)(hl:last % 8=0):∀(k n:Nat),64<=n->n % 8=0->n<=last->
  ((mV fac last (last-n) n).length<=k->lE fac last k n=mV fac last (last-n) n++ [last])/\(k<(mV fac last (last-n) n).length->(lE fac last k n).length=k+1)
 |0,n,h1,h2,h3=>by
  refine⟨λh=> ?_,λ_=>rfl⟩;by_cases e:n=last
  ·rw[mz _ _ _ _ (by omega),e];rfl
  rw[vM fac last n (by omega),abu]at h;omega
 |k+1,n,h1,h2,h3=>by
  by_cases e:n=last
  ·rw[mz _ _ _ _ (by omega)]
   refine⟨λ_=> ?_,λh=>by simp at h⟩;unfold lE;rw[if_pos (by omega),e];rfl
  have st:=vM fac last n (by omega);have nx:=ae3 hf h1 h2;have ge:n+8<=BK fac n:=alg _ _;have e2:lE fac last (k+1) n=n::lE fac last k (min last (BK fac n)):=by
   conv=>lhs;unfold lE
   rw[if_neg (by omega),nx]
  have e3:mV fac last (last-min last (BK fac n)) (min last (BK fac n))=mV fac last (last-BK fac n) (BK fac n):=by
   by_cases g:last<=BK fac n
   ·rw[Nat.min_eq_left g,mz _ _ _ _ g,mz _ _ _ _ (abc _)]
   rw[Nat.min_eq_right (by omega)]
  obtain⟨a,b⟩:=J1 hf hl k (min last (BK fac n)) (by omega) (by rw[nx];omega) (by omega);rw[e3]at a b;rw[st,e2,abu];refine⟨λh=> ?_,λh=> ?_⟩
  ·rw[a (by omega)];rfl
  rw[abu,b (by omega)]
def L6 (c:oo):F8:=mV c.fac.toNat (fQ c) (fQ c-c.bE.toNat) c.bE.toNat++ [fQ c]
theorem Y8{c:oo}(h:jV c=true):(62<(L6 c).length↔62<(bF c).length)/\(¬62<(L6 c).length->L6 c=bF c):=by
 obtain⟨h1,h2,h3,h4,h5,h6,h7,h8,h9,XQ,Qv,vd⟩:=of_decide_eq_true h;have hl:fQ c % 8=0:=by unfold fQ;omega
 have hm:c.bE.toNat<=fQ c:=by unfold fQ;omega
 obtain⟨a,b⟩:=J1 (fac:=c.fac.toNat) (by omega) hl 62 c.bE.toNat (by omega) (by omega) hm;unfold L6 bF;rw[aa9,ahp];by_cases g:(mV c.fac.toNat (fQ c) (fQ c-c.bE.toNat) c.bE.toNat).length<=62
 ·rw[a g,aa9,ahp]
  exact⟨Iff.rfl,λ_=>rfl⟩
 rw[b (by omega)];exact⟨⟨λ_=>by omega,λ_=>by omega⟩,λh=>absurd (by omega) h⟩
end Go.Proofs.YtcbcjolpdljbiaaGreat
