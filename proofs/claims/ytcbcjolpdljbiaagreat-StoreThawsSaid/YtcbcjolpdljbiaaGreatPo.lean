/- Part Po of the proof. -/
import Derived.Test.YtcbcjolpdljbiaaGreatPm
set_option maxRecDepth 100000
open Go.Proofs.YtcbcjolpdljbiaaGreat.T
open List renaming mem_of_find?_eq_some -> af0, find?_some -> akj, find?_eq_none -> agE, getD_eq_getElem?_getD -> aab, getElem?_set -> agy, getElem?_eq_none -> aal, mem_map -> abF, pairwise_map -> akt, Pairwise -> agG, length_map -> abI, mem_of_mem_erase -> agO, mem_of_getElem? -> aaf, ext_getElem? -> agJ, getElem?_eq_getElem -> aac, getElem?_map -> abD, length_set -> aak, nodup_cons -> abB, getLast?_eq_getElem? -> agp, mem_of_getLast? -> age, mem_cons_self -> aag, mem_cons_of_mem -> aai, mem_filter -> abG, filter_sublist -> agi, map_map -> agN, map_congr_left -> acA, findIdx?_eq_some_iff_getElem -> abK, findIdx?_eq_none_iff -> ago, foldl_cons -> agn, range -> abM, length_cons -> abU, filter_cons -> agd, map_cons -> aaj, sum_cons -> abJ, getD_cons_zero -> ako, mem_range -> ab0, nodup_range -> akA, range_succ -> ag3, map_append -> af1, sum_append -> ajD
open Decidable renaming byContradiction -> abz
open Nat renaming zero_le -> abL, zero_mul -> akR, succ_le_succ -> agl, le_refl -> aam, le_trans -> ahb, add_comm -> akW
open Bool renaming false_eq_true -> aj1
open Int renaming tmod_lt_of_pos -> agI, neg_tmod -> akZ
namespace Go.Proofs.YtcbcjolpdljbiaaGreat
open Go Go.dC Go.Proofs.YtcbcjolpdljbiaaGreat.Cs
def I3.vw (n:I3):I3:={n with eP:=n.eP/2*2}
structure Pl (M:Mo):Prop where
 nd:∀i,(ql M.Q i).Nodup
 kd:∀p q,M.has p->M.has q->(M.it p).key=(M.it q).key->p=q
def Mo.vw (M:Mo)(p:Nat):I3×Nat:=((M.it p).vw,M.C.cl p)
def BB (k:Ck)(x:I3):Nat:=if 0<x.exp/\x.exp<=k.now then 2 else if x.tok<=k.cut then 3 else 0
theorem Tj (M:Mo)(p:Nat):M.bF p=BB M.k (M.it p):=rfl
theorem uK{M N:Mo}(hk:N.k=M.k){p q:Nat}(h:N.vw q=M.vw p):N.bF q=M.bF p:=by
 have h1:(N.it q).exp=(M.it p).exp:=congrArg (λx:I3×Nat=>x.1.exp) h;have h2:(N.it q).tok=(M.it p).tok:=congrArg (λx:I3×Nat=>x.1.tok) h;unfold Mo.bF;rw[h1,h2,hk]
theorem pU{M N:Mo}{p q:Nat}(h:N.vw q=M.vw p):(N.it q).key=(M.it p).key:=congrArg (λx:I3×Nat=>x.1.key) h
def Mo.gd (M:Mo)(k:FI):Option (I3×Nat):=(M.live k).map M.vw
theorem bH.pl{B:Bx}{M:Mo}(O:bH B M):Pl M:=⟨O.o.nd,λ_ _ hp hq e=>O.kdM hp hq e⟩
theorem iQ{M:Mo}(P:Pl M){k:FI}{p:Nat}:M.find k=some p↔M.has p/\(M.it p).key=k:=by
 unfold Mo.find;constructor
 ·intro h
  exact⟨eR.1 (af0 h),by simpa using akj h⟩
 rintro⟨hp,hk⟩;cases hf:M.Q.flatten.find? λp=>decide ((M.it p).key=k)with
 |none=>exact absurd (decide_eq_true hk) (agE.1 hf p (eR.2 hp))
 |some q=>
  have h1:M.has q:=eR.1 (af0 hf);have h2:(M.it q).key=k:=by simpa using akj hf
  rw[P.kd q p h1 hp (h2.trans hk.symm)]
theorem ni{M:Mo}(P:Pl M){k:FI}{i:I3×Nat}:M.gd k=some i↔∃p,M.has p/\(M.it p).key=k/\M.bF p=0/\M.vw p=i:=by
 unfold Mo.gd Mo.live;constructor
 ·intro h
  cases hf:M.find k with
  |none=>rw[hf]at h;cases h
  |some p=>
   rw[hf]at h;obtain⟨h1,h2⟩:=(iQ P).1 hf;by_cases hw:M.bF p=0
   ·simp only[hw,if_true,Option.map_some,Option.some.injEq]at h
    exact⟨p,h1,h2,hw,h⟩
   simp only[hw,if_false]at h;cases h
 rintro⟨p,h1,h2,hw,rfl⟩;rw[(iQ P).2 ⟨h1,h2⟩];simp[hw]
structure lF (M N:Mo):Prop where
 p:Pl N
 k:N.k=M.k
 d:∀q,N.has q->∃p,M.has p/\N.vw q=M.vw p
 u:∀p,M.has p->M.bF p=0->∃q,N.has q/\N.vw q=M.vw p
 z:N.C.ae=M.C.ae
theorem lF.s{M N:Mo}(S:lF M N)(P:Pl M)(k:FI):N.gd k=M.gd k:=by
 refine Option.ext λi=> ?_;rw[ni S.p,ni P];constructor
 ·rintro⟨q,a,b,c,d⟩
  obtain⟨p,e,f⟩:=S.d q a;exact⟨p,e,(pU f).symm.trans b,(uK S.k f).symm.trans c,f.symm.trans d⟩
 rintro⟨p,a,b,c,d⟩;obtain⟨q,e,f⟩:=S.u p a c;exact⟨q,e,(pU f).trans b,(uK S.k f).trans c,f.trans d⟩
theorem lF.refl{M:Mo}(P:Pl M):lF M M:=⟨P,rfl,λq h=>⟨q,h,rfl⟩,λq h _=>⟨q,h,rfl⟩,rfl⟩
theorem lF.trans{M N O:Mo}(a:lF M N)(b:lF N O):lF M O:=by
 refine⟨b.p,b.k.trans a.k,λq h=> ?_,λp h w=> ?_,b.z.trans a.z⟩
 ·obtain⟨r,h1,e1⟩:=b.d q h
  obtain⟨p,h2,e2⟩:=a.d r h1;exact⟨p,h2,e1.trans e2⟩
 obtain⟨r,h1,e1⟩:=a.u p h w;obtain⟨q,h2,e2⟩:=b.u r h1 ((uK a.k e1).trans w);exact⟨q,h2,e2.trans e1⟩
theorem iY{M:Mo}(P:Pl M){p q:Nat}:(∃i,q∈ql (iH M.Q p) i)↔M.has q/\q≠p:=by
 constructor
 ·rintro⟨i,hi⟩
  rw[js,(P.nd i).mem_erase_iff]at hi;exact⟨⟨i,hi.2⟩,hi.1⟩
 rintro⟨⟨i,hi⟩,h⟩;exact⟨i,by rw[js,(P.nd i).mem_erase_iff];exact⟨h,hi⟩⟩
theorem Q8{M N:Mo}(P:Pl M){p:Nat}(hQ:N.Q=iH M.Q p)(hi:N.it=M.it):Pl N:=by
 refine⟨λi=> ?_,λa b ha hb e=> ?_⟩
 ·rw[hQ,js];exact(P.nd i).erase p
 unfold Mo.has at ha hb;rw[hQ]at ha hb;rw[hi]at e;exact P.kd a b ((iY P).1 ha).1 ((iY P).1 hb).1 e
theorem afw (C:Cs){i c sp:Nat}{x:Pg}{r:Rw}{A:By}(h:x.cl=(C.pg i).cl)(q:Nat):(C.put i x c r sp A).cl q=C.cl q:=by
 unfold Cs.cl Cs.pn;show((C.put i x c r sp A).pg (q/C.ao)).cl=_;unfold Cs.pg Cs.put;dsimp only;rw[aab,agy,aab];split
 ·next e=>
  split
  ·rw[<-e]
   show x.cl=_;rw[h];unfold Cs.pg;rw[aab]
  next g=>rw[<-e,aal (by omega)]
 rfl
theorem oz (C:Cs)(p q:Nat):(C.aL p).cl q=C.cl q:=by
 unfold Cs.aL;refine afw C ?_ q;rfl
theorem Bo{M:Mo}(P:Pl M){p:Nat}(hd:M.bF p≠0):lF M (M.bw p):=by
 have e:∀q,(M.bw p).vw q=M.vw q:=λq=>congrArg (Prod.mk _) (oz M.C p q);exact⟨Q8 P rfl rfl,rfl,λq h=>⟨q,((iY P).1 h).1,e q⟩,λq h w=>⟨q,(iY P).2 ⟨h,λg=>hd (g▸w)⟩,e q⟩,rfl⟩
theorem vh{M:Mo}(P:Pl M)(p:Nat):lF M (M.look p):=by
 unfold Mo.look;split
 ·next h=>exact Bo P h
 exact .refl P
theorem eA{M N:Mo}(P:Pl M)(hQ:N.Q=M.Q)(hi:N.it=M.it)(hk:N.k=M.k)(hc:∀p,M.has p->N.C.cl p=M.C.cl p:=by exact λ_ _=>rfl)(hz:N.C.ae=M.C.ae:=by exact rfl):lF M N:=by
 have hh:∀p,N.has p↔M.has p:=λp=>by unfold Mo.has;rw[hQ]
 have e:∀q,M.has q->N.vw q=M.vw q:=λq h=>by unfold Mo.vw;rw[hi,hc q h]
 exact⟨⟨λi=>by rw[hQ];exact P.nd i,λa b ha hb e=>by rw[hi]at e;exact P.kd a b ((hh a).1 ha) ((hh b).1 hb) e⟩,hk,λq h=>⟨q,(hh q).1 h,e q ((hh q).1 h)⟩,λq h _=>⟨q,(hh q).2 h,e q h⟩,hz⟩
theorem sx:∀(l:FH) {M:Mo},Pl M->lF M (l.foldl Mo.look M)
 | [],_,P=> .refl P
 |p::l,M,P=>(vh P p).trans (sx l (vh P p).p)
theorem wk:∀(f:Nat) {M:Mo},Pl M->lF M (M.bY f).2
 |0,_,P=> .refl P
 |f+1,M,P=>by
  unfold Mo.bY;split
  ·next x h=>
   split
   ·next p hp=>
    have a:lF M {M with x:=x.pass M.Q}:=eA P rfl rfl rfl;have b:=vh a.p p;exact(a.trans b).trans (wk f b.p)
   exact eA P rfl rfl rfl
  exact eA P rfl rfl rfl
theorem IU{M:Mo}(P:Pl M)(now most:Int):lF M (M.cb now most).2:=by
 unfold Mo.cb;split
 ·exact .refl P
 unfold Mo.oc;exact(sx _ P).trans (wk _ (sx _ P).p)
theorem Kn{M:Mo}{p r:Nat}(hp:M.has p){q:Nat}:(∃i,q∈ql (nT M.Q p r) i)↔q=r\/(M.has q/\q≠p):=by
 constructor
 ·rintro⟨i,hi⟩
  rw[lL,abF]at hi;obtain⟨a,ha,e⟩:=hi;unfold Bp at e;split at e
  ·exact .inl e.symm
  next h=>subst e;exact .inr ⟨⟨i,ha⟩,h⟩
 rintro(rfl|⟨⟨i,hi⟩,h⟩)
 ·obtain⟨i,hi⟩:=hp
  exact⟨i,by rw[lL,abF];exact⟨p,hi,by unfold Bp;rw[if_pos rfl]⟩⟩
 exact⟨i,by rw[lL,abF];exact⟨q,hi,by unfold Bp;rw[if_neg h]⟩⟩
theorem L7{M:Mo}(P:Pl M){p r:Nat}(hp:M.has p)(hr:¬M.has r)(cQ:M.C.cl r=M.C.cl p):lF M (M.swap p r):=by
 have ne:p≠r:=λe=>hr (e▸hp);have ir:(M.swap p r).it r=M.it p:=if_pos rfl;have io:∀q,q≠r->(M.swap p r).it q=M.it q:=λq h=>if_neg h;have vr:(M.swap p r).vw r=M.vw p:=by unfold Mo.vw;rw[ir];exact congrArg (Prod.mk _) cQ
 have vo:∀q,q≠r->(M.swap p r).vw q=M.vw q:=λq h=>by unfold Mo.vw;rw[io q h];rfl
 have hs:∀q,(M.swap p r).has q↔q=r\/(M.has q/\q≠p):=λq=>Kn hp;have nr:∀q,M.has q->q≠r:=λq h e=>hr (e▸h);refine⟨⟨λi=> ?_,λa b ha hb e=> ?_⟩,rfl,λq hq=> ?_,λq hq hw=> ?_,rfl⟩
 ·show(ql (nT M.Q p r) i).Nodup
  rw[lL];unfold List.Nodup;rw[akt];refine agG.imp_of_mem (λ{x y} hx hy h e=>h ?_) (P.nd i);have Z1:=nr x ⟨i,hx⟩;have zI:=nr y ⟨i,hy⟩;unfold Bp at e;split at e<;>split at e
  ·next h1 h2=>rw[h1,h2]
  ·exact absurd e.symm zI
  ·exact absurd e Z1
  exact e
 ·rcases(hs a).1 ha with rfl|⟨a1,a2⟩<;>rcases(hs b).1 hb with rfl|⟨b1,b2⟩
  ·rfl
  ·rw[ir,io b (nr b b1)]at e
   exact absurd (P.kd p b hp b1 e).symm b2
  ·rw[ir,io a (nr a a1)]at e
   exact absurd (P.kd a p a1 hp e) a2
  rw[io a (nr a a1),io b (nr b b1)]at e;exact P.kd a b a1 b1 e
 ·rcases(hs q).1 hq with rfl|⟨a1,a2⟩
  ·exact⟨p,hp,vr⟩
  exact⟨q,a1,vo q (nr q a1)⟩
 by_cases e:q=p
 ·subst e;exact⟨r,(hs r).2 (.inl rfl),vr⟩
 exact⟨q,(hs q).2 (.inr ⟨hq,e⟩),vo q (nr q hq)⟩
structure Qp (n:Nat)(Q:F7):Prop where
 len:Q.length=n*3
 nd:∀i,(ql Q i).Nodup
 one:∀i j p,p∈ql Q i->p∈ql Q j->i=j
theorem Qp.rem{n:Nat}{Q:F7}(K:Qp n Q)(p:Nat):Qp n (iH Q p):=by
 refine⟨by unfold iH;rw[abI];exact K.len,λi=>by rw[js];exact(K.nd i).erase p,λi j q h g=> ?_⟩;rw[js]at h g;exact K.one i j q (agO h) (agO g)
theorem Qp.adC{n:Nat}{Q:F7}(K:Qp n Q){i k p:Nat}(h:(ql Q i)[k]?=some p):Q.set i ((ql Q i).eraseIdx k)=iH Q p:=by
 have hp:p∈ql Q i:=aaf h;have hi:i<Q.length:=by
  refine abz λg=> ?_;unfold ql at hp;rw[aab,aal (by omega)]at hp;cases hp
 apply agJ;intro j;by_cases hj:j<Q.length
 ·have e1:Q[j]?=some (ql Q j):=by
   unfold ql;rw[aab,aac hj];rfl
  unfold iH;rw[abD,e1,Option.map_some,agy];by_cases e:i=j
  ·subst e
   rw[if_pos rfl,if_pos hi,HM (K.nd i) h]
  rw[if_neg e,e1]
  congr 1
  exact(List.erase_of_not_mem λg=>e (K.one i j p hp g)).symm
 rw[aal (by rw[aak];omega),aal (by unfold iH;rw[abI];omega)]
structure Mi (M:Mo):Prop where
 k:Ok M.C
 p:Pl M
 q:Qp M.fG M.Q
 x:db M.fG M.Q M.x
 lv:∀p,Live M.C p↔M.has p\/M.hole=some p
 ho:∀p,M.hole=some p->¬M.has p
 on:M.m.on=true->M.m.pg<M.C.n/\(M.C.pg M.m.pg).own=true/\(M.C.pg M.m.pg).lv=true/\(M.C.pg M.m.pg).cl=M.m.fr
 go:∀i,(M.C.pg i).lv=true->M.m.on=true/\i=M.m.pg
theorem bH.mi{B:Bx}{M:Mo}(O:bH B M):Mi M:=by
 refine⟨O.mc0,O.pl,⟨?_,O.o.nd,λ_ _ _ h g=>D7 O.o h g⟩, ?_,λp=> ?_,λp h g=>O.ho p h ((O.al p).2 g),O.We.on,λi hi=>O.go i ?_⟩
 ·have:=O.o.len
  rw[O.fG]at this;exact this
 ·have:=O.x
  rw[O.fG]at this;exact this
 ·have h:=O.lv p
  rw[O.al p,O.c]at h;refine Iff.trans ⟨λL=> ?_,λL=> ?_⟩ h
  ·exact L.wA _
  exact⟨⟨L.i,L.own,L.al,L.k⟩,L.tk⟩
 rw[O.c];exact hi
theorem Mi.co{M:Mo}(K:Mi M):q9 M:=⟨K.k,K.p.nd,λp hp=>(K.lv p).2 (.inl hp),K.on⟩
theorem Mi.bw{M:Mo}(K:Mi M){p:Nat}(hp:M.has p):Mi (M.bw p):=by
 have L:=(K.lv p).2 (.inl hp);have g:=oy K.k L;have hh:∀q,(M.bw p).has q↔M.has q/\q≠p:=λq=>iY K.p;refine⟨(gR K.k L).1,Q8 K.p rfl rfl, ?_, ?_,λq=> ?_,λq h h2=>K.ho q h ((hh q).1 h2).1,λh=> ?_,λi hi=>K.go i ?_⟩
 ·show Qp (M.C.aL p).ae.length (iH M.Q p)
  rw[(gR K.k L).2.ae];exact K.q.rem p
 ·show db (M.C.aL p).ae.length (iH M.Q p) (M.x.left M.Q p)
  rw[(gR K.k L).2.ae];obtain⟨i,hi⟩:=hp;obtain⟨j,hj,e⟩:=List.getElem_of_mem hi;have hk:(ql M.Q i)[j]?=some p:=by rw[aac hj,e]
  have hil:i<M.Q.length:=by
   refine abz λg=> ?_;unfold ql at hi;rw[aab,aal (by omega)]at hi;cases hi
  rw[<-K.q.adC hk];exact CZ K.x K.q.nd hil hk
 ·refine(nH K.k L q).trans ?_
  rw[K.lv q,hh q];constructor
  ·rintro⟨a|a,b⟩
   ·exact .inl ⟨a,b⟩
   exact .inr a
  rintro(⟨a,b⟩|a)
  ·exact⟨.inl a,b⟩
  exact⟨.inr a,λe=>K.ho q a (e▸hp)⟩
 ·obtain⟨a,b,c,d⟩:=K.on h
  obtain⟨e1,e2,e3⟩:=g M.m.pg;have en:(M.C.aL p).n=M.C.n:=(gR K.k L).2.n;exact⟨by show _<(M.C.aL p).n;rw[en];exact a,e1.trans b,e2.trans c,e3.trans d⟩
 rw[<-(g i).2.1];exact hi
theorem Mi.rf{M N:Mo}(K:Mi M)(hx:db M.fG M.Q N.x)(hC:N.C=M.C)(hQ:N.Q=M.Q)(hi:N.it=M.it)(hh:N.hole=M.hole)(hk:N.k=M.k)(on:N.m.on=M.m.on)(pg:N.m.pg=M.m.pg)(fr:N.m.fr=M.m.fr):Mi N:=by
 have e:∀p,N.has p↔M.has p:=λp=>by unfold Mo.has;rw[hQ]
 refine⟨by rw[hC];exact K.k,(eA K.p hQ hi hk (by rw[hC];exact λ_ _=>rfl) (by rw[hC])).p,by unfold Mo.fG;rw[hC,hQ];exact K.q,by unfold Mo.fG;rw[hC,hQ];exact hx,λp=>by rw[hC,hh,e];exact K.lv p,λp h=>by rw[hh]at h;rw[e];exact K.ho p h,by rw[on,pg,fr,hC];exact K.on,by rw[on,pg,hC];exact K.go⟩
theorem Mi.look{M:Mo}(K:Mi M){p:Nat}(hp:M.has p):Mi (M.look p):=by
 unfold Mo.look;split
 ·exact K.bw hp
 exact K
theorem Qp.mv{n:Nat}{Q:F7}(K:Qp n Q){i j k p:Nat}(hi:i<Q.length)(hj:j<Q.length)(hk:(ql Q i)[k]?=some p):Qp n (xv Q i k j p)/\∀q,(∃m,q∈ql (xv Q i k j p) m)↔∃m,q∈ql Q m:=by
 have hp:p∈ql Q i:=aaf hk;obtain⟨R,hR⟩:∃R,R=Q.set i ((ql Q i).eraseIdx k):=⟨_,rfl⟩;have lR:R.length=Q.length:=by rw[hR,aak]
 have er:=HM (K.nd i) hk;have qR:∀m,ql R m=if m=i then(ql Q i).erase p else ql Q m:=λm=>by rw[hR,fL hi,er]
 have noR:∀m,p∉ql R m:=λm h=>by
  rw[qR]at h;split at h
  ·exact(K.nd i).not_mem_erase h
  next e=>exact e (K.one m i p h hp)
 have inR:∀m q,q∈ql R m↔q∈ql Q m/\q≠p:=λm q=>by
  rw[qR];split
  ·next e=>subst e;rw[(K.nd m).mem_erase_iff,and_comm]
  next e=>exact⟨λh=>⟨h,λg=>e (K.one m i p (g▸h) hp)⟩,λh=>h.1⟩
 have ndR:∀m,(ql R m).Nodup:=λm=>by
  rw[qR];split
  ·exact(K.nd i).erase p
  exact K.nd m
 have e:xv Q i k j p=R.set j (p::ql R j):=by unfold xv;rw[hR]
 have qV:∀m,ql (xv Q i k j p) m=if m=j then p::ql R j else ql R m:=λm=>by rw[e,fL (by rw[lR];exact hj)]
 have wx:∀m q,q∈ql (xv Q i k j p) m↔(q=p/\m=j)\/(q∈ql Q m/\q≠p):=λm q=>by
  rw[qV];split
  ·next g=>subst g;rw[List.mem_cons,inR];exact⟨λh=>h.imp (λh=>⟨h,rfl⟩) id,λh=>h.imp (λh=>h.1) id⟩
  next g=>rw[inR];exact⟨.inr,λh=>h.resolve_left λh=>g h.2⟩
 refine⟨⟨by rw[e,aak,lR];exact K.len,λm=> ?_,λa b q ha hb=> ?_⟩,λq=>⟨?_, ?_⟩⟩
 ·rw[qV]
  split
  ·exact abB.2 ⟨noR j,ndR j⟩
  exact ndR m
 ·rcases(wx a q).1 ha with⟨h1,h2⟩|⟨h1,h2⟩<;>rcases(wx b q).1 hb with⟨h3,h4⟩|⟨h3,h4⟩
  ·rw[h2,h4]
  ·exact absurd h1 h4
  ·exact absurd h3 h2
  exact K.one a b q h1 h3
 ·rintro⟨m,h⟩
  rcases(wx m q).1 h with⟨h1,_⟩|⟨h1,_⟩
  ·exact⟨i,h1▸hp⟩
  exact⟨m,h1⟩
 rintro⟨m,h⟩;by_cases g:q=p
 ·exact⟨j,(wx j q).2 (.inl ⟨g,rfl⟩)⟩
 exact⟨m,(wx m q).2 (.inr ⟨h,g⟩)⟩
theorem EC{n c hot warm:Nat}{s t:mU}(hc:c<n)(K:Qp n s.Q)(h:rz c hot warm s=some t):Qp n t.Q/\∀q,(∃m,q∈ql t.Q m)↔∃m,q∈ql s.Q m:=by
 unfold rz at h;split at h
 ·cases h
 next k hk=>
 have hk3:1<=k/\k<=3:=by
  unfold GM at hk
  repeat' split at hk
  all_goals first|cases hk|(simp only[Option.some.injEq]at hk;omega)
  all_goals omega
 split at h
 ·cases h
 next p hp=>
 simp only[Option.some.injEq]at h;subst h;have hl:=K.len;refine K.mv (by unfold qi;omega) (by unfold qi;split<;>omega) ?_;rw[<-agp];exact hp
theorem KS{n c hot warm:Nat}(hc:c<n):∀(k:Nat) {s:mU},Qp n s.Q->Qp n (lD c hot warm k s).2.Q/\∀q,(∃m,q∈ql (lD c hot warm k s).2.Q m)↔∃m,q∈ql s.Q m
 |0,_,K=>⟨K,λ_=>Iff.rfl⟩
 |k+1,s,K=>by
  unfold lD;split
  ·exact⟨K,λ_=>Iff.rfl⟩
  next t ht=>
  obtain⟨K2,e⟩:=EC hc K ht;obtain⟨K3,e3⟩:=KS hc k K2;exact⟨K3,λq=>(e3 q).trans (e q)⟩
theorem Qj (n:I3)(b:Bool):({n with eP:=mkSet n.eP b}:I3).vw=n.vw:=by
 unfold I3.vw mkSet
 congr 1
 cases b<;>simp<;>omega
theorem MH{M:Mo}(P:Pl M){t:mU}(nd:∀i,(ql t.Q i).Nodup)(mem:∀q,(∃m,q∈ql t.Q m)↔M.has q):lF M (M.BG t):=by
 have e:∀q,(M.BG t).vw q=M.vw q:=λq=>congrArg (λx=>(x,M.C.cl q)) (Qj (M.it q) (t.ac q));exact⟨⟨nd,λa b ha hb e=>P.kd a b ((mem a).1 ha) ((mem b).1 hb) e⟩,rfl,λa h=>⟨a,(mem a).1 h,e a⟩,λa h _=>⟨a,(mem a).2 h,e a⟩,rfl⟩
theorem Mi.ln{M:Mo}(K:Mi M)(i:Nat):(ql M.Q i).length<=1073741824:=
 nC _ _ (K.q.nd i) λp hp=>by
  have h:=((K.lv p).2 (.inl ⟨i,hp⟩)).toAt.ba K.k;have:=fU K.k.toFix;omega
theorem Dg{n:Nat}{Q:F7}(ln:∀i,(ql Q i).length<=1073741824){x:Cw}{c k:Nat}(hc:c<n)(hk:1<=k/\k<=3):db n Q (x.kL Q c k):=
 ⟨λ_=>⟨hc,hk⟩,(λh=>by cases h),(λ_ hp=>⟨age hp,List.length_pos_of_mem (age hp)⟩),ln _⟩
theorem B9{n:Nat}{Q:F7}(ln:∀i,(ql Q i).length<=1073741824):∀(f:Nat) {x:Cw},db n Q x->x.bg=true->db n Q (Cw.Px n Q f x).2
 |0,_,X,_=>X
 |f+1,x,X,hb=>by
  obtain⟨g1,g2,g3⟩:=X.go hb;unfold Cw.Px;split
  ·exact X
  split
  ·exact B9 ln f (Dg ln g1 ⟨by omega,by omega⟩) rfl
  split
  ·next h=>exact B9 ln f (Dg ln h ⟨by omega,by omega⟩) rfl
  exact⟨(λh=>by cases h),λ_=>⟨rfl,rfl,rfl,rfl⟩,(λp h=>by cases h),abL _⟩
theorem Kx{n:Nat}{Q:F7}(hn:1<=n)(ln:∀i,(ql Q i).length<=1073741824){x:Cw}(X:db n Q x):db n Q (x.find n Q).2:=by
 unfold Cw.find Cw.start;cases hb:x.bg with
 |true=>simp only[if_true];exact B9 ln _ X hb
 |false=>
  simp only[aj1,if_false];exact B9 ln _ (Dg ln (by omega) ⟨by omega,by omega⟩) rfl
theorem Mi.cw{M:Mo}(K:Mi M){x:Cw}(X:db M.fG M.Q x):Mi {M with x:=x}:=K.rf X rfl rfl rfl rfl rfl rfl rfl rfl
theorem Mi.n1{M:Mo}(K:Mi M):1<=M.fG:=K.k.l0
theorem Mi.bY:∀(f:Nat) {M:Mo},Mi M->Mi (M.bY f).2
 |0,_,K=>K
 |f+1,M,K=>by
  have X:=Kx K.n1 K.ln K.x;unfold Mo.bY;split
  ·next x h=>
   rw[h]at X;split
   ·next p hp=>
    have hm:=(X.nx p hp).1;exact Mi.bY f ((K.cw X.pass).look ⟨_,hm⟩)
   exact K.cw X
  next x h=>
  rw[h]at X;exact K.cw X
theorem Mi.looks:∀(l:FH) {M:Mo},Mi M->l.Nodup->(∀p∈l,M.has p)->Mi (l.foldl Mo.look M)
 | [],_,K,_,_=>K
 |p::l,M,K,nd,h=>by
  obtain⟨n1,n2⟩:=abB.1 nd;refine Mi.looks l (K.look (h p aag)) n2 λq hq=> ?_;have hM:=h q (aai _ hq);unfold Mo.look;split
  ·exact(iY K.p).2 ⟨hM,λe=>n1 (e▸hq)⟩
  exact hM
theorem CN{C:Cs}(K:Ok C){p:Nat}(L:At C p):sM (C.hd p)=p:=by
 obtain⟨m1,m2,m3,m4,m5,m6⟩:=bM K L;unfold sM;generalize C.hd p=h at*;omega
theorem Mi.due{M:Mo}(K:Mi M)(now most:Int):(M.iI now most).Nodup/\∀p∈M.iI now most,M.has p:=by
 obtain⟨L,hL⟩:∃L,L=M.Q.flatten.filter λp=>decide (0<(M.it p).exp):=⟨_,rfl⟩;have hh:∀p∈L,M.has p:=λp hp=>by rw[hL]at hp;exact eR.1 (abG.1 hp).1
 have nd:L.Nodup:=by rw[hL];exact(tD K.q.nd λi j p h g=>K.q.one i j p h g).sublist agi
 have eE:gU M.C M M.Q.flatten=L.map λp=>⟨M.C.hd p,(M.it p).exp,M.ord p⟩:=by rw[hL];rfl
 have eg:(gU M.C M M.Q.flatten).map (λe=>sM e.h)=L:=by
  rw[eE,agN]
  conv=>rhs;rw[<-List.map_id L]
  refine acA λp hp=> ?_;have:=CN K.k ((K.lv p).2 (.inl (hh p hp))).toAt;rw[Function.comp_apply,id];exact this
 have e:M.iI now most=((iw ((gU M.C M M.Q.flatten).filter λx=>decide ((x.ex:Int)<=now))).take most.toNat).map λe=>sM e.h:=by
  unfold Mo.iI nY;rw[agN];rfl
 have sub:((gU M.C M M.Q.flatten).filter λx=>decide ((x.ex:Int)<=now)).map (λe=>sM e.h) |>.Sublist L:=by
  have:=(agi (p:=λx:En=>decide ((x.ex:Int)<=now)) (l:=gU M.C M M.Q.flatten)).map (λe=>sM e.h);rw[eg]at this;exact this
 have pm:=(eW ((gU M.C M M.Q.flatten).filter λx=>decide ((x.ex:Int)<=now))).map (λe=>sM e.h);have n2:=pm.nodup_iff.2 (nd.sublist sub);have tk:=(List.take_sublist most.toNat (iw ((gU M.C M M.Q.flatten).filter λx=>decide ((x.ex:Int)<=now)))).map (λe=>sM e.h);rw[e];exact⟨n2.sublist tk,λp hp=>hh p (sub.subset (pm.mem_iff.1 (tk.subset hp)))⟩
theorem Mi.cb{M:Mo}(K:Mi M)(now most:Int):Mi (M.cb now most).2:=by
 unfold Mo.cb;split
 ·exact K
 unfold Mo.oc;obtain⟨d1,d2⟩:=K.due now (min most 1048576);exact Mi.bY _ (K.looks _ d1 d2)
structure la (M N:Mo):Prop where
 i:Mi N
 s:lF M N
theorem la.trans{M N O:Mo}(a:la M N)(b:la N O):la M O:=⟨b.i,a.s.trans b.s⟩
theorem Mi.vM{M:Mo}(K:Mi M)(t:Mt):la M (M.aN t):=⟨K.rf K.x rfl rfl rfl rfl rfl rfl rfl rfl,eA K.p rfl rfl rfl⟩
theorem Mi.aaU{M:Mo}(K:Mi M)(k:Nat):la M (M.Ak k):=⟨K.rf K.x rfl rfl rfl rfl rfl rfl rfl rfl,eA K.p rfl rfl rfl⟩
theorem Mi.E9{M:Mo}(K:Mi M)(now most:Int):la M (M.cb now most).2:=⟨K.cb now most,IU K.p now most⟩
theorem Mi.cy{M:Mo}(K:Mi M):la M M.cy:=by
 unfold Mo.cy;exact(K.aaU _).trans ((K.aaU _).i.vM _)
theorem Mi.gA{M:Mo}(K:Mi M):la M M.gA:=by
 unfold Mo.gA;exact(K.E9 _ _).trans ((K.E9 _ _).i.vM _)
theorem Mi.take{M N:Mo}(K:Mi M)(hh:M.hole=none){c r:Nat}(hc:c<M.fG)(h:M.take c=some (r,N)):la M N/\N.hole=some r/\¬M.has r/\N={M with C:=N.C,hole:=some r}/\N.C.cl r=c/\N.C.ae=M.C.ae/\∀q,M.has q->N.C.cl q=M.C.cl q:=by
 unfold Mo.take at h;split at h
 ·next p D hD=>
  simp only[Option.some.injEq,Prod.mk.injEq]at h;obtain⟨rfl,rfl⟩:=h;have T:=nz K.k hc hD;have no:¬M.has p:=λg=>T.no ((K.lv p).2 (.inl g));have hq:∀q,M.has q->D.cl q=M.C.cl q:=λq g=>(T.hd q ((K.lv q).2 (.inl g))).2;have S:lF M ({M with C:=D,hole:=some p}:Mo):=eA K.p rfl rfl rfl hq T.sz;refine⟨⟨⟨T.k,S.p, ?_, ?_,λq=> ?_,λq g=> ?_,λg=> ?_,λi g=> ?_⟩,S⟩,rfl,no,rfl,T.cl,T.sz,hq⟩
  ·show Qp D.ae.length M.Q
   rw[T.sz];exact K.q
  ·show db D.ae.length M.Q M.x
   rw[T.sz];exact K.x
  ·refine(T.lv q).trans ?_
   rw[K.lv q,hh];show(M.has q\/none=some q)\/q=p↔M.has q\/some p=some q;simp only[reduceCtorEq,or_false,Option.some.injEq];exact⟨λh=>h.imp id Eq.symm,λh=>h.imp id Eq.symm⟩
  ·cases g;exact no
  ·obtain⟨a,b,d,e⟩:=K.on g
   obtain⟨p1,p2⟩:=T.pg M.m.pg b;exact⟨by show _<D.n;rw[T.n];exact a,p1,(T.lf M.m.pg).trans d,p2.trans e⟩
  refine K.go i ?_;rw[<-T.lf i];exact g
 cases h
theorem Uy{n:Nat}{Q:F7}{x:Cw}(X:db n Q x)(p r:Nat):db n (nT Q p r) (x.cO p r):=by
 by_cases g:x.nx=some p
 ·have e:x.cO p r={x with nx:=some r}:=by unfold Cw.cO;rw[if_pos g]
  rw[e];obtain⟨h1,h2⟩:=X.nx p g;refine⟨X.go,λh=> ?_,λq hq=> ?_,X.lf⟩
  ·rw[(X.no h).1]at g;cases g
  simp only[Option.some.injEq]at hq;subst hq;exact⟨by rw[lL,abF];exact⟨p,h1,by unfold Bp;rw[if_pos rfl]⟩,h2⟩
 have e:x.cO p r=x:=by unfold Cw.cO;rw[if_neg g]
 rw[e];refine⟨X.go,X.no,λq hq=> ?_,X.lf⟩;obtain⟨h1,h2⟩:=X.nx q hq;exact⟨by rw[lL,abF];exact⟨q,h1,by unfold Bp;exact if_neg λe:q=p=>g (e▸hq)⟩,h2⟩
theorem Qp.sub{n:Nat}{Q:F7}(K:Qp n Q){p r:Nat}(nd:∀i,(ql (nT Q p r) i).Nodup)(hr:∀i,r∉ql Q i):Qp n (nT Q p r):=by
 refine⟨by unfold nT;rw[abI];exact K.len,nd,λi j q h g=> ?_⟩;rw[lL,abF]at h g;obtain⟨a,ha,ea⟩:=h;obtain⟨b,hb,eb⟩:=g;unfold Bp at ea eb;split at ea<;>split at eb
 ·next h1 h2=>subst h1;subst h2;exact K.one i j _ ha hb
 ·exact absurd (by rw[ea,<-eb];exact hb) (hr j)
 ·exact absurd (by rw[eb,<-ea];exact ha) (hr i)
 subst ea;subst eb;exact K.one i j _ ha hb
theorem Mi.swap{M:Mo}(K:Mi M){p r:Nat}(hh:M.hole=some r)(hp:M.has p)(cQ:M.C.cl r=M.C.cl p):la M (M.swap p r)/\(M.swap p r).hole=some p:=by
 have hr:¬M.has r:=K.ho r hh;have S:=L7 K.p hp hr cQ;have hs:∀q,(M.swap p r).has q↔q=r\/(M.has q/\q≠p):=λq=>Kn hp;refine⟨⟨⟨K.k,S.p,K.q.sub S.p.nd λi h=>hr ⟨i,h⟩,Uy K.x p r,λq=> ?_,λq g=> ?_,K.on,K.go⟩,S⟩,rfl⟩
 ·refine(K.lv q).trans ?_
  rw[hs q,hh];show M.has q\/some r=some q↔(q=r\/M.has q/\q≠p)\/some p=some q;simp only[Option.some.injEq];constructor
  ·rintro(h|h)
   ·by_cases e:q=p
    ·exact .inr e.symm
    exact .inl (.inr ⟨h,e⟩)
   exact .inl (.inl h.symm)
  rintro((h|h)|h)
  ·exact .inr h.symm
  ·exact .inl h.1
  exact .inl (h▸hp)
 cases g;intro h;rcases(hs p).1 h with h|h
 ·exact hr (h▸hp)
 exact h.2 rfl
theorem Mi.pO{M:Mo}(K:Mi M){p:Nat}(hh:M.hole=some p):la M (M.pO p)/\(M.pO p).hole=none:=by
 have L:=(K.lv p).2 (.inr hh);have no:=K.ho p hh;have g:=oy K.k L;have G:=gR K.k L;have S:lF M (M.pO p):=eA K.p rfl rfl rfl λq _=>oz M.C p q;refine⟨⟨⟨G.1,S.p, ?_, ?_,λq=> ?_,(λq h=>by cases h),λh=> ?_,λi hi=>K.go i ?_⟩,S⟩,rfl⟩
 ·show Qp (M.C.aL p).ae.length M.Q
  rw[G.2.ae];exact K.q
 ·show db (M.C.aL p).ae.length M.Q M.x
  rw[G.2.ae];exact K.x
 ·refine(nH K.k L q).trans ?_
  rw[K.lv q,hh];show(M.has q\/some p=some q)/\q≠p↔M.has q\/none=some q;simp only[Option.some.injEq,reduceCtorEq,or_false];exact⟨λh=>h.1.resolve_right λe=>h.2 e.symm,λh=>⟨.inl h,λe=>no (e▸h)⟩⟩
 ·obtain⟨a,b,c,d⟩:=K.on h
  obtain⟨e1,e2,e3⟩:=g M.m.pg;exact⟨by show _<(M.C.aL p).n;rw[G.2.n];exact a,e1.trans b,e2.trans c,e3.trans d⟩
 rw[<-(g i).2.1];exact hi
theorem Mi.shift{M N:Mo}(K:Mi M)(hh:M.hole=none){p:Nat}(hp:M.has p)(h:M.shift p=some N):la M N/\N.hole=none:=by
 have hc:M.C.cl p<M.fG:=(((K.lv p).2 (.inl hp)).toAt.ba K.k).1;unfold Mo.shift at h;split at h
 ·next r O hO=>
  simp only[Option.some.injEq]at h;subst h;obtain⟨A,h1,h2,h3,h6,_,h7⟩:=K.take hh hc hO;have dD:O.has p:=by rw[h3];exact hp
  obtain⟨B,h4⟩:=A.i.swap h1 dD (h6.trans (h7 p hp).symm);obtain⟨D,h5⟩:=B.i.pO h4;exact⟨(A.trans B).trans D,h5⟩
 cases h
theorem Mi.Kq{M:Mo}(K:Mi M){p:Nat}(hp:M.has p)(hd:M.bF p≠0):la M (M.bw p):=⟨K.bw hp,Bo K.p hd⟩
theorem Mi.mstop{M:Mo}(K:Mi M)(eo:M.m.on=true):la M M.mstop/\M.mstop.hole=M.hole:=by
 obtain⟨a,b,c,d⟩:=K.on eo;obtain⟨K2,S⟩:=yq K.k a b c;have iF:=CG K.k a;have sm:=tA S λj=>by
  rw[iF];by_cases e:j=M.m.pg
  ·exact⟨false,by rw[if_pos e,e]⟩
  exact⟨(M.C.pg j).lv,by rw[if_neg e]⟩
 have sa:lF M M.mstop:=eA K.p rfl rfl rfl λq _=>S.cl q;refine⟨⟨⟨K2,sa.p, ?_, ?_,λq=>(sm q).1.trans (K.lv q),K.ho,(λe=>by cases e),λi e=> ?_⟩,sa⟩,rfl⟩
 ·show Qp (M.C.iu M.m.pg).ae.length M.Q
  rw[S.ae];exact K.q
 ·show db (M.C.iu M.m.pg).ae.length M.Q M.x
  rw[S.ae];exact K.x
 change((M.C.iu M.m.pg).pg i).lv=true at e;rw[iF]at e;by_cases g:i=M.m.pg
 ·rw[if_pos g]at e;cases e
 rw[if_neg g]at e;exact absurd (K.go i e).2 g
theorem Mi.release{M:Mo}(K:Mi M)(eo:M.m.on=true)(h:(M.C.pg M.m.pg).tk.findIdx? id=none):la M {M with C:=M.C.aU M.m.pg,m:=M.m.off}:=by
 obtain⟨a,b,c,d⟩:=K.on eo;obtain⟨h0,mc⟩:=QB K.k a h;have K2:=v8 K.k a b c h0;have iF:=zc K.k a;have zS:∀q,Live M.C q->M.C.pn q≠M.m.pg:=λq L e=>mc _ (e▸L.tk);have same:∀q,M.C.pn q≠M.m.pg->(M.C.aU M.m.pg).pg ((M.C.aU M.m.pg).pn q)=M.C.pg (M.C.pn q):=λq e=>by
  rw[show(M.C.aU M.m.pg).pn q=M.C.pn q from rfl,iF,if_neg e]
 have I0:∀q,M.C.pn q≠M.m.pg->(M.C.aU M.m.pg).cl q=M.C.cl q:=λq e=>by unfold Cs.cl;rw[same q e]
 have Gg:∀q,M.C.pn q≠M.m.pg->(M.C.aU M.m.pg).ix q=M.C.ix q:=λq e=>by unfold Cs.ix;rw[I0 q e];rfl
 have wl:∀q,Live (M.C.aU M.m.pg) q↔Live M.C q:=λq=>by
  constructor
  ·intro L
   have e:M.C.pn q≠M.m.pg:=λe=>by
    have t:=L.own;rw[show(M.C.aU M.m.pg).pn q=M.C.pn q from rfl,iF,if_pos e]at t;cases t
   refine⟨⟨L.i,by have:=L.own;rw[same q e]at this;exact this,by have:=L.al;rw[I0 q e]at this;exact this,by have:=L.k;rw[same q e,Gg q e]at this;exact this⟩,by have:=L.tk;rw[same q e,Gg q e]at this;exact this⟩
  intro L;have e:=zS q L;exact⟨⟨L.i,by rw[same q e];exact L.own,by rw[I0 q e];exact L.al,by rw[same q e,Gg q e];exact L.k⟩,by rw[same q e,Gg q e];exact L.tk⟩
 have sa:lF M {M with C:=M.C.aU M.m.pg,m:=M.m.off}:=eA K.p rfl rfl rfl λq h=>I0 q (zS q ((K.lv q).2 (.inl h)));refine⟨⟨K2,sa.p,K.q,K.x,λq=>(wl q).trans (K.lv q),K.ho,(λe=>by cases e),λi e=> ?_⟩,sa⟩;change((M.C.aU M.m.pg).pg i).lv=true at e;rw[iF]at e;by_cases g:i=M.m.pg
 ·rw[if_pos g]at e;cases e
 rw[if_neg g]at e;exact absurd (K.go i e).2 g
theorem Mi.leave{M:Mo}(K:Mi M)(eo:M.m.on=false){i f t:Nat}(hi:i<M.C.n)(ho:(M.C.pg i).own=true)(hf:(M.C.pg i).cl=f):la M {M with C:=M.C.cS i,m:={M.m with pg:=i,fr:=f,tt:=t,on:=true}}:=by
 have jC:(M.C.pg i).lv=false:=by
  rcases h:(M.C.pg i).lv with _|_
  ·rfl
  have:=(K.go i h).1;rw[eo]at this;cases this
 obtain⟨K2,S⟩:=AY K.k hi ho jC;have iF:=yF K.k hi;have sm:=tA S λj=>by
  rw[iF];by_cases e:j=i
  ·exact⟨true,by rw[if_pos e,e]⟩
  exact⟨(M.C.pg j).lv,by rw[if_neg e]⟩
 have sa:lF M {M with C:=M.C.cS i,m:={M.m with pg:=i,fr:=f,tt:=t,on:=true}}:=eA K.p rfl rfl rfl λq _=>S.cl q;refine⟨⟨K2,sa.p, ?_, ?_,λq=>(sm q).1.trans (K.lv q),K.ho,λ_=> ?_,λj e=> ?_⟩,sa⟩
 ·show Qp (M.C.cS i).ae.length M.Q
  rw[S.ae];exact K.q
 ·show db (M.C.cS i).ae.length M.Q M.x
  rw[S.ae];exact K.x
 ·refine⟨hi, ?_, ?_, ?_⟩<;>(show _=_)<;>dsimp only<;>rw[iF,if_pos rfl]
  ·exact ho
  exact hf
 change((M.C.cS i).pg j).lv=true at e;rw[iF]at e;by_cases g:j=i
 ·exact⟨rfl,g⟩
 rw[if_neg g]at e;have:=(K.go j e).1;rw[eo]at this;cases this
theorem Mi.BN{M:Mo}(K:Mi M)(hh:M.hole=none){i k:Nat}(hi:i<M.C.n)(ho:(M.C.pg i).own=true)(hk:(M.C.pg i).tk.findIdx? id=some k):M.has (M.C.mB i k):=by
 have P:kN M.C (M.C.pg i):=K.k.pg _ (dh (by rw[K.k.pl];exact hi));rw[abK]at hk;obtain⟨h1,h2,_⟩:=hk;obtain⟨e1,e2,a⟩:=iM K.k hi ho (k:=k) (by rw[<-P.tl];exact h1);have L:Live M.C (M.C.mB i k):=⟨a,by rw[e1,e2,aac h1];exact congrArg some h2⟩;exact((K.lv _).1 L).resolve_right (by rw[hh];simp)
theorem Mi.c8{M:Mo}(K:Mi M)(hh:M.hole=none)(eo:M.m.on=true):la M M.c8.2/\M.c8.2.hole=none:=by
 unfold Mo.c8;split
 ·next h=>exact⟨K.release eo h,hh⟩
 next k hk=>
 obtain⟨a,b,c,d⟩:=K.on eo;have hp:=K.BN hh a b hk;split
 ·next hd=>exact⟨K.Kq hp hd,hh⟩
 split
 ·next N hN=>exact K.shift hh hp hN
 obtain⟨g1,g2⟩:=K.mstop eo;exact⟨g1,g2.trans hh⟩
theorem Uz{M:Mo}(h:M.c8.1=true):M.c8.2.m.on=M.m.on:=by
 unfold Mo.c8 at h⊢;split at h
 ·cases h
 next k hk=>
 split
 ·rfl
 next hd=>
 rw[if_neg hd]at h;split at h
 ·next N hN=>
  unfold Mo.shift Mo.take at hN;split at hN
  ·next r O hO=>
   simp only[Option.some.injEq]at hN;subst hN;split at hO
   ·simp only[Option.some.injEq,Prod.mk.injEq]at hO
    obtain⟨rfl,rfl⟩:=hO;rfl
   cases hO
  cases hN
 cases h
theorem Mi.cx:∀(f:Nat) {M:Mo},Mi M->M.hole=none->M.m.on=true->la M (M.cx f).2/\(M.cx f).2.hole=none
 |0,_,K,hh,_=>⟨⟨K, .refl K.p⟩,hh⟩
 |f+1,M,K,hh,eo=>by
  obtain⟨g1,g2⟩:=K.c8 hh eo;unfold Mo.cx;split
  ·next h=>
   obtain⟨g3,g4⟩:=Mi.cx f g1.i g2 (by rw[Uz h];exact eo);exact⟨g1.trans g3,g4⟩
  exact⟨g1,g2⟩
theorem Mi.eG{M:Mo}(K:Mi M)(hh:M.hole=none)(most:Int):la M (M.eG most).2/\(M.eG most).2.hole=none:=by
 have T:la M M.dQ:=⟨K.rf K.x rfl rfl rfl rfl rfl rfl rfl rfl,eA K.p rfl rfl rfl⟩;unfold Mo.eG;split
 ·exact⟨⟨K, .refl K.p⟩,hh⟩
 split
 ·next eo=>
  obtain⟨g1,g2⟩:=T.i.cx _ hh eo;exact⟨T.trans g1,g2⟩
 next eo=>
 have B:la M.dQ M.dQ.dM/\M.dQ.dM.hole=none:=by
  unfold Mo.dM;split
  ·exact⟨⟨T.i, .refl T.i.p⟩,hh⟩
  split
  ·exact⟨⟨T.i, .refl T.i.p⟩,hh⟩
  split
  ·exact⟨⟨T.i, .refl T.i.p⟩,hh⟩
  next o ho=>
  obtain⟨b1,b2,b3,_⟩:=qX ho;exact⟨T.i.leave (show M.m.on=false by simpa using eo) b1 b2 b3,hh⟩
 exact⟨T.trans B.1,B.2⟩
theorem Mi.beside{M:Mo}(K:Mi M)(hh:M.hole=none):la M M.beside/\M.beside.hole=none:=by
 have g1:=K.cy;have h1:M.cy.hole=none:=hh;have g2:=g1.i.gA;have h2:M.cy.gA.hole=none:=by
  obtain⟨a1,_⟩:=tY M.cy M.cy.k.now M.cy.v.p.c;exact a1.trans h1
 obtain⟨g3,h3⟩:=g2.i.eG h2 M.cy.gA.v.p.m;unfold Mo.beside Mo.kM;exact⟨((g1.trans g2).trans g3).trans (g3.i.vM _),h3⟩
theorem ajs{n:Nat}{Q:F7}(K:Qp n Q){x:Cw}(X:db n Q x){i j k p:Nat}(hi:i<Q.length)(hj:j<Q.length)(hk:(ql Q i)[k]?=some p):db n (xv Q i k j p) (x.left Q p):=by
 have L:=CZ X K.nd hi hk;refine⟨L.go,L.no,λq hq=>⟨?_,(L.nx q hq).2⟩,L.lf⟩;have h:=(L.nx q hq).1;unfold xv;rw[fL (by rw[aak];exact hj)];split
 ·next e=>rw[<-e];exact aai _ h
 exact h
theorem TG{n c hot warm:Nat}{s t:mU}(hc:c<n)(K:Qp n s.Q)(X:db n s.Q s.x)(h:rz c hot warm s=some t):db n t.Q t.x:=by
 unfold rz at h;split at h
 ·cases h
 next k hk=>
 have hk3:1<=k/\k<=3:=by
  unfold GM at hk
  repeat' split at hk
  all_goals first|cases hk|(simp only[Option.some.injEq]at hk;omega)
  all_goals omega
 split at h
 ·cases h
 next p hp=>
 simp only[Option.some.injEq]at h;subst h;have hl:=K.len;refine ajs K X (by unfold qi;omega) (by unfold qi;split<;>omega) ?_;rw[<-agp];exact hp
theorem KT{n c hot warm:Nat}(hc:c<n):∀(k:Nat) {s:mU},Qp n s.Q->db n s.Q s.x->db n (lD c hot warm k s).2.Q (lD c hot warm k s).2.x
 |0,_,_,X=>X
 |k+1,s,K,X=>by
  unfold lD;split
  ·exact X
  next t ht=>exact KT hc k (EC hc K ht).1 (TG hc K X ht)
theorem Mi.bal{M:Mo}(K:Mi M)(hot warm:Nat)(k:FI):la M (M.lE hot warm k):=by
 unfold Mo.lE;split
 ·exact⟨K, .refl K.p⟩
 next p hp=>
 have hc:M.C.cl p<M.fG:=(((K.lv p).2 (.inl ((iQ K.p).1 hp).1)).toAt.ba K.k).1;obtain⟨q1,q2⟩:=KS (hot:=hot) (warm:=warm) hc M.v.p.l.toNat (s:=M.lru) K.q;have x1:=KT (hot:=hot) (warm:=warm) hc M.v.p.l.toNat (s:=M.lru) K.q K.x;have S:=MH K.p q1.nd q2;have G:la M (M.BG (lD (M.C.cl p) hot warm M.v.p.l.toNat M.lru).2):=⟨⟨K.k,S.p,q1,x1,λr=>(K.lv r).trans (or_congr (q2 r).symm Iff.rfl),λr h g=>K.ho r h ((q2 r).1 g),K.on,K.go⟩,S⟩;exact G.trans (G.i.vM _)
theorem Mi.behind{M:Mo}(K:Mi M)(hh:M.hole=none)(hot warm:Nat)(k:FI):la M (M.behind hot warm k)/\(M.behind hot warm k).hole=none:=by
 have g:=K.bal hot warm k;obtain⟨g2,h2⟩:=g.i.beside ((Dh hot warm M k).1.trans hh);exact⟨g.trans g2,h2⟩
theorem Mi.tV{M:Mo}(K:Mi M)(w:Nat):la M (M.bI w):=⟨K.rf K.x rfl rfl rfl rfl rfl rfl rfl rfl,eA K.p rfl rfl rfl⟩
theorem Mi.yI{M:Mo}(K:Mi M):la M M.reset:=⟨K.rf K.x rfl rfl rfl rfl rfl rfl rfl rfl,eA K.p rfl rfl rfl⟩
theorem Mi.meet{M:Mo}(K:Mi M)(k:FI):la M (M.meet k).2/\(M.meet k).1=M.live k/\(M.meet k).2.hole=M.hole:=by
 unfold Mo.meet Mo.live;cases hf:M.find k with
 |none=>exact⟨K.tV 1,rfl,rfl⟩
 |some p=>
  have hp:=((iQ K.p).1 hf).1;dsimp only;by_cases hw:M.bF p=0
  ·rw[if_neg (by simpa using hw),if_pos hw]
   exact⟨K.tV 0,rfl,rfl⟩
  rw[if_pos hw,if_neg hw];have g:=K.tV (M.bF p);exact⟨g.trans (g.i.Kq hp hw),rfl,rfl⟩
structure DO (M N:Mo)(y:FI)(o:Option (I3×Nat)):Prop where
 i:Mi N
 k:N.k=M.k
 s:∀z,N.gd z=if z=y then o else M.gd z
 d:∀q,N.has q->(N.it q).key=y\/∃p,M.has p/\(M.it p).key=(N.it q).key
 z:N.C.ae=M.C.ae
theorem la.iE{M N O:Mo}{y:FI}{o:Option (I3×Nat)}(a:la M N)(P:Pl M)(b:DO N O y o):DO M O y o:=
 ⟨b.i,b.k.trans a.s.k,λz=>(b.s z).trans (by rw[a.s.s P]),λq h=>(b.d q h).imp id λ⟨p,h1,e⟩=>by
  obtain⟨r,h2,e2⟩:=a.s.d p h1;exact⟨r,h2,(pU e2).symm.trans e⟩,b.z.trans a.s.z⟩
theorem DO.go{M N O:Mo}{y:FI}{o:Option (I3×Nat)}(a:DO M N y o)(b:la N O):DO M O y o:=
 ⟨b.i,b.s.k.trans a.k,λz=>(b.s.s a.i.p z).trans (a.s z),λq h=>by
  obtain⟨r,h2,e2⟩:=b.s.d q h;rw[pU e2];exact a.d r h2,b.s.z.trans a.z⟩
theorem DO.iE{M N O:Mo}{y:FI}{o o2:Option (I3×Nat)}(a:DO M N y o)(b:DO N O y o2):DO M O y o2:=
 ⟨b.i,b.k.trans a.k,λz=>by
  rw[b.s,a.s];by_cases h:z=y<;>simp[h],λq h=>(b.d q h).elim .inl λ⟨p,h1,e⟩=>by rw[<-e];exact a.d p h1,b.z.trans a.z⟩
theorem tq{M:Mo}(P:Pl M){p:Nat}(h:M.has p):M.gd (M.it p).key=if M.bF p=0 then some (M.vw p)else none:=by
 unfold Mo.gd Mo.live;rw[(iQ P).2 ⟨h,rfl⟩];dsimp only;split<;>rfl
theorem afg{M:Mo}{y:FI}(h:∀q,M.has q->(M.it q).key≠y):M.find y=none:=by
 unfold Mo.find;rw[agE];intro q hq;simpa using h q (eR.1 hq)
theorem p7{M:Mo}(P:Pl M){y:FI}(h:M.find y=none):∀q,M.has q->(M.it q).key≠y:=λq hq e=>by
 rw[(iQ P).2 ⟨hq,e⟩]at h;cases h
theorem wW{M:Mo}{y:FI}(h:∀q,M.has q->(M.it q).key≠y):M.gd y=none:=by
 unfold Mo.gd Mo.live;rw[afg h];rfl
theorem QU{M N:Mo}(P:Pl M)(K:Mi N)(hk:N.k=M.k)(hz:N.C.ae=M.C.ae){y:FI}{o:Option (I3×Nat)}(h1:∀q,N.has q->(N.it q).key≠y->∃p,M.has p/\N.vw q=M.vw p)
  (h2:∀p,M.has p->M.bF p=0->(M.it p).key≠y->∃q,N.has q/\N.vw q=M.vw p) (h3:N.gd y=o):DO M N y o:=by
 refine⟨K,hk,λz=> ?_,λq h=> ?_,hz⟩
 ·by_cases e:z=y
  ·rw[if_pos e,e];exact h3
  rw[if_neg e];refine Option.ext λi=> ?_;rw[ni K.p,ni P];constructor
  ·rintro⟨q,a,b,c,d⟩
   obtain⟨p,f,g⟩:=h1 q a (by rw[b];exact e);exact⟨p,f,(pU g).symm.trans b,(uK hk g).symm.trans c,g.symm.trans d⟩
  rintro⟨p,a,b,c,d⟩;obtain⟨q,f,g⟩:=h2 p a c (by rw[b];exact e);exact⟨q,f,(pU g).trans b,(uK hk g).trans c,g.trans d⟩
 by_cases e:(N.it q).key=y
 ·exact .inl e
 obtain⟨p,f,g⟩:=h1 q h e;exact .inr ⟨p,f,(pU g).symm⟩
theorem Mi.tI{M:Mo}(K:Mi M){p:Nat}(hp:M.has p):DO M (M.bw p) (M.it p).key none:=by
 have e:∀q,(M.bw p).vw q=M.vw q:=λq=>congrArg (Prod.mk _) (oz M.C p q);have hs:∀q,(M.bw p).has q↔M.has q/\q≠p:=λq=>iY K.p;refine QU K.p (K.bw hp) rfl rfl (λq h _=>⟨q,((hs q).1 h).1,e q⟩) (λq h _ g=>⟨q,(hs q).2 ⟨h,λa=>g (by rw[a])⟩,e q⟩) (wW λq h g=> ?_);obtain⟨h1,h2⟩:=(hs q).1 h;exact h2 (K.p.kd q p h1 hp g)
theorem Mi.iz{M:Mo}(K:Mi M){r:Nat}(hr:M.hole=some r)(n:I3)(hn:∀q,M.has q->(M.it q).key≠n.key):DO M (M.iz r n) n.key (if BB M.k n=0 then some (n.vw,M.C.cl r)else none):=by
 have L:=(K.lv r).2 (.inr hr);have no:∀i,r∉ql M.Q i:=λi h=>K.ho r hr ⟨i,h⟩;have hi:qi (M.C.cl r) 1<M.Q.length:=by
  have h1:=(L.toAt.ba K.k).1;have h2:=K.q.len;unfold Mo.fG at h2;unfold qi;omega
 have pm:∀q j,q∈ql (M.iz r n).Q j↔(j=qi (M.C.cl r) 1/\q=r)\/q∈ql M.Q j:=λq j=>iL hi;have hs:∀q,(M.iz r n).has q↔q=r\/M.has q:=λq=>by
  constructor
  ·rintro⟨j,h⟩
   exact((pm q j).1 h).imp (λh=>h.2) λh=>⟨j,h⟩
  rintro(h|⟨j,h⟩)
  ·exact⟨_,(pm q _).2 (.inl ⟨rfl,h⟩)⟩
  exact⟨j,(pm q j).2 (.inr h)⟩
 have nr:∀q,M.has q->q≠r:=λq ⟨i,h⟩ e=>no i (e▸h);have ir:(M.iz r n).it r={n with eP:=mkSet n.eP false}:=if_pos rfl;have io:∀q,q≠r->(M.iz r n).it q=M.it q:=λq h=>if_neg h;have vo:∀q,q≠r->(M.iz r n).vw q=M.vw q:=λq h=>by unfold Mo.vw;rw[io q h];rfl
 have qe:∀j,ql (M.iz r n).Q j=if j=qi (M.C.cl r) 1 then r::ql M.Q (qi (M.C.cl r) 1)else ql M.Q j:=λj=>fL hi _ j
 have nd:∀j,(ql (M.iz r n).Q j).Nodup:=λj=>by
  rw[qe];split
  ·exact abB.2 ⟨no _,K.p.nd _⟩
  exact K.p.nd j
 have P:Pl (M.iz r n):=by
  refine⟨nd,λa b ha hb e=> ?_⟩;rcases(hs a).1 ha with rfl|a1<;>rcases(hs b).1 hb with rfl|b1
  ·rfl
  ·rw[ir,io b (nr b b1)]at e
   exact absurd e.symm (hn b b1)
  ·rw[ir,io a (nr a a1)]at e
   exact absurd e (hn a a1)
  rw[io a (nr a a1),io b (nr b b1)]at e;exact K.p.kd a b a1 b1 e
 have KN:Mi (M.iz r n):=by
  refine⟨K.k,P,⟨?_,nd,λi j q h g=> ?_⟩,⟨K.x.go,K.x.no,λq hq=>⟨(pm q _).2 (.inr (K.x.nx q hq).1),(K.x.nx q hq).2⟩,K.x.lf⟩,λq=> ?_,(λq h=>by cases h),K.on,K.go⟩
  ·exact aak.trans K.q.len
  ·rcases(pm q i).1 h with⟨h1,h2⟩|h1<;>rcases(pm q j).1 g with⟨g1,g2⟩|g1
   ·rw[h1,g1]
   ·exact absurd (h2▸g1) (no j)
   ·exact absurd (g2▸h1) (no i)
   exact K.q.one i j q h1 g1
  refine(K.lv q).trans ?_;rw[hr,hs q];show M.has q\/some r=some q↔(q=r\/M.has q)\/none=some q;simp only[Option.some.injEq,reduceCtorEq,or_false];exact⟨λh=>h.elim .inr λh=> .inl h.symm,λh=>h.elim (λh=> .inr h.symm) .inl⟩
 refine QU K.p KN rfl rfl (λq h g=> ?_) (λq h _ _=>⟨q,(hs q).2 (.inr h),vo q (nr q h)⟩) ?_
 ·rcases(hs q).1 h with rfl|h
  ·rw[ir]at g;exact absurd rfl g
  exact⟨q,h,vo q (nr q h)⟩
 have h:=tq P ((hs r).2 (.inl rfl));rw[Tj,ir]at h;refine h.trans ?_;have e:(M.iz r n).vw r=(n.vw,M.C.cl r):=by
  unfold Mo.vw;rw[ir,Qj];rfl
 rw[e];rfl
theorem Mi.nV{M:Mo}(K:Mi M){r:Nat}(hr:M.hole=some r){p:Nat}(hp:M.has p)(n:I3)(hn:(M.it p).key=n.key):DO M (M.nV p r n) n.key (if BB M.k n=0 then some (n.vw,M.C.cl r)else none):=by
 have A:=K.tI hp;rw[hn]at A;have U:=A.i.iz (r:=r) hr n λq h g=>by
  obtain⟨h1,h2⟩:=(iY K.p).1 h;exact h2 (K.p.kd q p h1 hp (g.trans hn.symm))
 have hQ:(M.nV p r n).Q=((M.bw p).iz r n).Q:=by
  show kS (iH M.Q p) (qi (M.C.cl r) 1) r=kS (iH M.Q p) (qi ((M.C.aL p).cl r) 1) r;rw[oz]
 have G:la ((M.bw p).iz r n) (M.nV p r n):=⟨U.i.rf U.i.x rfl hQ rfl rfl rfl rfl rfl rfl,eA U.i.p hQ rfl rfl⟩;have V:=A.iE (U.go G);rw[show(M.bw p).C.cl r=M.C.cl r from oz M.C p r,show(M.bw p).k=M.k from rfl]at V;exact V
theorem Mi.Kp{M:Mo}(K:Mi M)(i:Nat):la M (M.rj i):=⟨K.rf K.x rfl rfl rfl rfl rfl rfl rfl rfl,eA K.p rfl rfl rfl⟩
theorem Mi.dE{M:Mo}(K:Mi M){r:Nat}(hr:M.hole=some r)(old:FK)(n:I3)(h0:old=none->∀q,M.has q->(M.it q).key≠n.key)(h1:∀p,old=some p->M.has p/\(M.it p).key=n.key):
  DO M (M.dE r old n) n.key (if BB M.k n=0 then some (n.vw,M.C.cl r)else none)/\(M.dE r old n).hole=none/\(M.dE r old n).v.aQ=M.v.aQ+1:=by
 have g:=K.Kp (M.v.aQ+1);cases old with
 |none=>exact⟨g.iE K.p (g.i.iz hr n (h0 rfl)),rfl,rfl⟩
 |some p=>exact⟨g.iE K.p (g.i.nV hr (h1 p rfl).1 n (h1 p rfl).2),rfl,rfl⟩
theorem Mi.room{M:Mo}(K:Mi M)(hh:M.hole=none){j:Nat}(A:jV M (j+1)){n c:Nat}(hc:M.C.ae.findIdx? (λz=>decide (n<=z))=some c)(own:FK):
  ∃r N,M.room n own=(some r,N)/\la M N/\N.hole=some r/\¬M.has r/\N={M with C:=N.C,hole:=some r}/\N.C.cl r=c/\jV N j/\M.take c=some (r,N):=by
 have cJ:c<M.fG:=(abK.1 hc).1;obtain⟨p,D,hD,hs⟩:=vW K.k cJ (by have:=A.sp;omega);have ht:M.take c=some (p,{M with C:=D,hole:=some p}):=by unfold Mo.take;rw[hD]
 obtain⟨G,h1,h2,h3,h4,_,_⟩:=K.take hh cJ ht;refine⟨p,_, ?_,G,h1,h2,h3,h4,⟨A.on, ?_⟩,ht⟩
 ·unfold Mo.room
  rw[hc];dsimp only;unfold Mo.lG;rw[ht]
 have:=A.sp;show j<=D.spare;omega
structure eO where
 f:FI->Option (I3×Nat)
 k:Ck
 i:Nat
 c:ra
 z:FH
def Mo.ps (M:Mo):eO:=⟨M.gd,M.k,M.v.aQ,M.v.c,M.C.ae⟩
def eO.set (P:eO)(y:FI)(o:Option (I3×Nat)):eO:={P with f:=λz=>if z=y then o else P.f z}
def eO.num (P:eO)(i:Nat):eO:={P with i:=i}
def eO.put (P:eO)(x:I3)(c:Nat):eO:=P.set x.key (if BB P.k x=0 then some (x,c)else none)
structure cu (T:FI->Prop)(N:Mo)(P:eO):Prop where
 i:Mi N
 h:N.hole=none
 p:N.ps=P
 t:∀q,N.has q->T (N.it q).key
theorem aaV{M N:Mo}(P:Pl M)(G:la M N)(e:N.v.aQ=M.v.aQ)(e2:N.v.c=M.v.c):N.ps=M.ps:=by
 unfold Mo.ps;rw[e,e2,G.s.z,G.s.k,show N.gd=M.gd from funext (G.s.s P)]
theorem QT{M N:Mo}{y:FI}{o:Option (I3×Nat)}(U:DO M N y o)(e2:N.v.c=M.v.c):N.ps=(M.ps.set y o).num N.v.aQ:=by
 unfold Mo.ps eO.set eO.num;rw[U.k,e2,U.z,show N.gd=_ from funext U.s]
theorem cu.go{M N:Mo}{P:eO}{T:FI->Prop}(S:cu T M P)(G:la M N)(h:N.hole=none)(e:N.v.aQ=M.v.aQ)(e2:N.v.c=M.v.c):cu T N P:=⟨G.i,h,(aaV S.i.p G e e2).trans S.p,λq hq=>by
  obtain⟨r,h2,e2⟩:=G.s.d q hq;rw[pU e2];exact S.t r h2⟩
theorem cu.iE{M N:Mo}{P:eO}{T:FI->Prop}(S:cu T M P){y:FI}{o:Option (I3×Nat)}(U:DO M N y o)(hy:T y)(h:N.hole=none){i:Nat}(e:N.v.aQ=i)(e2:N.v.c=M.v.c):cu T N ((P.set y o).num i):=⟨U.i,h,by rw[QT U e2,S.p,e],λq hq=>by
  rcases U.d q hq with g|⟨r,h2,e2⟩
  ·rw[g];exact hy
  rw[<-e2];exact S.t r h2⟩
theorem cu.aQ{M:Mo}{P:eO}{T:FI->Prop}(S:cu T M P):P.i=M.v.aQ:=by rw[<-S.p];rfl
theorem cu.wB{M:Mo}{P:eO}{T:FI->Prop}(S:cu T M P):P.k=M.k:=by rw[<-S.p];rfl
theorem cu.f{M:Mo}{P:eO}{T:FI->Prop}(S:cu T M P):P.f=M.gd:=by rw[<-S.p];rfl
theorem cu.cfg{M:Mo}{P:eO}{T:FI->Prop}(S:cu T M P):P.c=M.v.c:=by rw[<-S.p];rfl
theorem cu.xr{M:Mo}{P:eO}{T:FI->Prop}(S:cu T M P):P.z=M.C.ae:=by rw[<-S.p];rfl
theorem cu.meet{M:Mo}{P:eO}{T:FI->Prop}(S:cu T M P)(y:FI):cu T (M.meet y).2 P/\(∀p,(M.meet y).1=some p->(M.meet y).2.has p/\((M.meet y).2.it p).key=y/\(M.meet y).2.bF p=0/\P.f y=some ((M.meet y).2.vw p))/\
  ((M.meet y).1=none->P.f y=none/\∀q,(M.meet y).2.has q->((M.meet y).2.it q).key≠y):=by
 obtain⟨G,_,hh⟩:=S.i.meet y;refine⟨S.go G (hh.trans S.h) (xa M y).2.2.2.2.1 (xa M y).2.2.2.1,λp hp=> ?_,λhn=> ?_⟩
 ·rw[S.f]
  unfold Mo.meet at hp⊢;cases hf:M.find y with
  |none=>rw[hf]at hp;cases hp
  |some r=>
   rw[hf]at hp
   try dsimp only at hp⊢
   obtain⟨h1,h2⟩:=(iQ S.i.p).1 hf;by_cases hw:M.bF r≠0
   ·rw[if_pos hw]at hp;cases hp
   rw[if_neg hw]at hp⊢;cases hp;have hw:M.bF p=0:=Decidable.of_not_not hw;exact⟨h1,h2,hw,by rw[<-h2,tq S.i.p h1,if_pos hw];rfl⟩
 rw[S.f];unfold Mo.meet at hn⊢;cases hf:M.find y with
 |none=>exact⟨wW (p7 S.i.p hf),p7 S.i.p hf⟩
 |some r=>
  rw[hf]at hn
  try dsimp only at hn⊢
  obtain⟨h1,h2⟩:=(iQ S.i.p).1 hf;by_cases hw:M.bF r≠0
  ·rw[if_pos hw]
   refine⟨by rw[<-h2,tq S.i.p h1,if_neg hw],λq hq e=> ?_⟩;obtain⟨a,b⟩:=(iY S.i.p).1 hq;exact b (S.i.p.kd q r a h1 (e.trans h2.symm))
  rw[if_neg hw]at hn;cases hn
def hG.vw (a:hG):hG:={a with eF:=a.eF.map I3.vw}
structure Rm where
 ok:Bool
 v:Option FI
def eO.rm (P:eO)(m:Rm):eO:=match m.v with
 |none=>P
 |some y=>P.set y none
structure RmOk (M N:Mo)(P:eO)(own o:FK)(c:Nat)(m:Rm):Prop where
 i:Mi N
 p:N.ps=P.rm m
 ok:m.ok=o.isSome
 no:o=none->N.hole=none
 r:∀r,o=some r->N.hole=some r/\N.C.cl r=c
 own:∀y,m.v=some y->∀p,own=some p->M.has p->y≠(M.it p).key
 v:∀y,m.v=some y->P.f y≠none
 dr:N.v.mt.dr=if m.v.isSome=true then cM (M.v.mt.dr+1)else M.v.mt.dr
theorem Ug{dd act:Nat->Bool}{own:FK}{n:Nat}{l:FH}{p:Nat}{d:Bool}{k:Nat}(h:kT dd act own n l=(some p,d,k)):p∈l/\some p≠own/\dd p=d:=by
 have sub:∀q∈(cz own l).take n,q∈l/\some q≠own:=λq hq=>by
  have:=List.mem_of_mem_take hq;unfold cz at this;rw[abG]at this;exact⟨this.1,by simpa using this.2⟩
 unfold kT xR at h;cases hf:((cz own l).take n).findIdx? dd with
 |some i=>
  rw[hf]at h;simp only[Prod.mk.injEq]at h;obtain⟨h1,h2,h3⟩:=h;obtain⟨a,b,_⟩:=abK.1 hf;rw[aac a,Option.some.injEq]at h1;have:=sub p (h1▸List.getElem_mem a);exact⟨this.1,this.2,by rw[<-h2,<-h1];exact b⟩
 |none=>
  rw[hf]at h;simp only[Prod.mk.injEq]at h;obtain⟨h1,h2,h3⟩:=h;have hm:p∈(cz own l).take n:=by
   split at h1
   ·next q hq=>cases h1;exact af0 hq
   exact List.mem_of_mem_head? h1
  have:=sub p hm;refine⟨this.1,this.2, ?_⟩;rw[<-h2];have:=ago.1 hf p hm;simpa using this
theorem Mi.MQ{M:Mo}(K:Mi M)(c:Nat):la M (M.cF c):=⟨K.rf K.x rfl rfl rfl rfl rfl rfl rfl rfl,eA K.p rfl rfl rfl⟩
theorem cu.room{M N:Mo}{P:eO}{T:FI->Prop}(S:cu T M P){n c:Nat}(hc:M.C.ae.findIdx? (λz=>decide (n<=z))=some c)(own:FK)(A:jV M 1){o:FK}(h:M.room n own=(o,N)):∃m,RmOk M N P own o c m/\(jV M 1->m=⟨true,none⟩):=by
 obtain⟨r,D,e,G,h1,h2,h3,h4,_,_⟩:=S.i.room S.h (j:=0) A hc own;rw[e]at h;cases h;exact⟨⟨true,none⟩,⟨G.i,(aaV S.i.p G (by rw[h3]) (by rw[h3])).trans S.p,rfl,(λe=>by cases e),λq e=>by cases e;exact⟨h1,h4⟩,(λy e=>by cases e),(λy e=>by cases e),by rw[h3];rfl⟩,λ_=>rfl⟩
def Jw (aC:Int)(LH:Nat)(o:Option (I3×Nat)):Nat:=cg aC LH (o.map λx=>x.1.tok) id
theorem ZN (M:Mo)(aC:Int)(LH:Nat)(old:FK):cg aC LH old (λp=>(M.it p).tok)=Jw aC LH (old.map M.vw):=by cases old<;>rfl
def eO.sN (P:eO)(c:fi)(k:FI)(o:Option (I3×Nat)):Option (FI×Nat×Nat):=
 if Gp c.aC=true then some (c.data,c.fl,dq P.k.now c.ex)else match o with
 |none=>none
 |some x=>if P.c.lim<58+k.length+c.data.length+x.1.val.length then none else some (if c.aC=8 then x.1.val++c.data else c.data++x.1.val,x.1.fl,x.1.exp)
def eO.over (P:eO)(k:FI)(ov:Bool):eO:=if ov=true then P.set k none else P
def QL (xr:FH)(n:Nat):Nat:=(xr.findIdx? λz=>decide (n<=z)).getD 0
def eO.lays (m:Rm)(P:eO)(k:FI)(ov:Bool)(x:FI×Nat×Nat):hG×eO:=
 if m.ok=true then(.k 1,((P.rm m).put ⟨k,x.1,x.2.1,x.2.2,P.k.now,P.i+1,0⟩ (QL P.z (58+k.length+x.1.length))).num (P.i+1))else(.t jt,(P.rm m).over k ov)
def eO.dx (m:Rm)(P:eO)(c:fi)(k:FI):hG×eO:=
 if c.lg=true\/P.c.lim<58+k.length+c.data.length then(.t dY,P.over k (Gp c.aC))
 else if Jw c.aC c.tok (P.f k)≠0 then(.k (Jw c.aC c.tok (P.f k)),P)
 else match P.sN c k (P.f k)with
  |none=>(.t dY,P)
  |some x=>P.lays m k (Gp c.aC) x
def eO.fC (m:Rm)(P:eO)(c:fi):hG×eO:=P.dx m c (c.keys.headD [])
structure Wu (M N:Mo)(P:eO)(k:FI)(m:Rm):Prop where
 v:∀y,m.v=some y->P.f y≠none/\y≠k
 dr:N.v.mt.dr=if m.v.isSome=true then cM (M.v.mt.dr+1)else M.v.mt.dr
 am:jV M 1->m=⟨true,none⟩
theorem Wu.none{M N:Mo}{P:eO}{k:FI}(h:N.v.mt.dr=M.v.mt.dr):Wu M N P k ⟨true,none⟩:=⟨(λy e=>by cases e),h,λ_=>rfl⟩
theorem Wu.of{M N O:Mo}{P:eO}{k:FI}{m:Rm}(R:Wu N O P k m)(h:N.v.mt.dr=M.v.mt.dr)(a:jV M 1->jV N 1):Wu M O P k m:=⟨R.v,by rw[<-h];exact R.dr,λg=>R.am (a g)⟩
def eO.Fits (P:eO):Prop:=∀n:Nat,(n:Int)<=P.c.lim->∃c,P.z.findIdx? (λz=>decide (n<=z))=some c
theorem adj{P:eO}{k:FI}(h:P.f k=none):P.set k none=P:=by
 unfold eO.set;have e:(λz=>if z=k then none else P.f z)=P.f:=funext λz=>by
  by_cases g:z=k
  ·rw[if_pos g,g,h]
  rw[if_neg g]
 rw[e]
theorem rm_f{P:eO}{m:Rm}{k:FI}(h:∀y,m.v=some y->y≠k):(P.rm m).f k=P.f k:=by
 unfold eO.rm;split
 ·rfl
 next y e=>exact if_neg λg=>h y e g.symm
theorem aiD (P:eO)(m:Rm):(P.rm m).k=P.k/\(P.rm m).i=P.i:=by
 unfold eO.rm;split<;>exact⟨rfl,rfl⟩
theorem cu.over{M:Mo}{P:eO}{T:FI->Prop}(S:cu T M P){k:FI}{old:FK}(h0:old=none->P.f k=none)(h1:∀p,old=some p->M.has p/\(M.it p).key=k)(ov:Bool):cu T (M.over old ov) (P.over k ov):=by
 unfold Mo.over eO.over;cases old with
 |none=>
  rw[adj (h0 rfl)];simpa using S
 |some p=>
  obtain⟨a,b⟩:=h1 p rfl;cases ov with
  |false=>simpa using S
  |true=>
   simp only[if_true];have U:=S.i.tI a;rw[b]at U;exact S.iE U (by rw[<-b];exact S.t p a) S.h (i:=P.i) S.aQ.symm rfl
theorem JX (M:Mo)(old:FK)(ov:Bool):(M.over old ov).v.mt=M.v.mt:=by
 unfold Mo.over;cases old with
 |none=>rfl
 |some p=>cases ov<;>rfl
theorem Y1 (M:Mo)(r:Nat)(old:FK)(n:I3):(M.dE r old n).v.mt=M.v.mt:=by
 unfold Mo.dE;cases old<;>rfl
theorem YM (M:Mo)(k:FI):(M.meet k).2.v.mt=M.v.mt:=by
 unfold Mo.meet;split
 ·rfl
 ·split<;>rfl
theorem ad0 (M:Mo)(r:Nat)(old:FK)(n:I3):(M.dE r old n).v.c=M.v.c:=by
 unfold Mo.dE;cases old<;>rfl
theorem XC (k v:FI)(fl ex t n:Nat):(⟨k,v,fl,ex,t,n,0⟩:I3).vw=⟨k,v,fl,ex,t,n,0⟩:=by
 unfold I3.vw;simp only[Nat.zero_div,akR]
theorem cu.laid{M:Mo}{P:eO}{T:FI->Prop}(S:cu T M P){k:FI}(hT:T k){n c:Nat}(hc:M.C.ae.findIdx? (λz=>decide (n<=z))=some c)(old:FK)(A:jV M 1)(h0:old=none->P.f k=none/\∀q,M.has q->(M.it q).key≠k)(h1:∀p,old=some p->M.has p/\(M.it p).key=k/\P.f k≠none){o:FK}{N:Mo}(hr:M.room n old=(o,N)):
  ∃m,m.ok=o.isSome/\Wu M N P k m/\(o=none->cu T N (P.rm m))/\(∀p,old=some p->N.has p/\(N.it p).key=k)/\(∀r,o=some r->∀v fl ex,cu T (N.dE r old ⟨k,v,fl,ex,N.k.now,N.v.aQ+1,0⟩) (((P.rm m).put ⟨k,v,fl,ex,P.k.now,P.i+1,0⟩ c).num (P.i+1))):=by
 obtain⟨m,R,ha⟩:=S.room hc old A hr;have Y:=wX S.i.co hr;have ne:∀y,m.v=some y->y≠k:=λy e g=>by
  cases old with
  |none=>exact R.v y e (by rw[g];exact(h0 rfl).1)
  |some p=>exact R.own y e p rfl (h1 p rfl).1 (by rw[g,(h1 p rfl).2.1])
 have ht:∀q,N.has q->T (N.it q).key:=λq hq=>by rw[Y.s.it];exact S.t q (Y.s.has q hq)
 have hold:∀p,old=some p->N.has p/\(N.it p).key=k:=λp e=>⟨(Y.s.own p e (h1 p e).1).1,by rw[Y.s.it];exact(h1 p e).2.1⟩;refine⟨m,R.ok,⟨λy e=>⟨R.v y e,ne y e⟩,R.dr,ha⟩,λe=>⟨R.i,R.no e,R.p,ht⟩,hold,λr e v fl ex=> ?_⟩;obtain⟨r1,r2⟩:=R.r r e;obtain⟨U,u1,u2⟩:=R.i.dE r1 old ⟨k,v,fl,ex,N.k.now,N.v.aQ+1,0⟩ (λe q hq=>by rw[Y.s.it];exact(h0 e).2 q (Y.s.has q hq)) hold;have q1:P.k=N.k:=by rw[S.wB,Y.s.k]
 have q2:P.i=N.v.aQ:=by rw[S.aQ,Y.s.aQ]
 refine⟨U.i,u1, ?_,λq hq=>by
  rcases U.d q hq with g|⟨w,h2,e2⟩
  ·rw[g];exact hT
  rw[<-e2];exact ht w h2⟩
 rw[QT U (ad0 _ _ _ _),R.p,u2,r2];unfold eO.put;rw[(aiD P m).1,q1,q2,XC]
theorem cu.lays{M:Mo}{P:eO}{T:FI->Prop}(S:cu T M P)(F:P.Fits){old:FK}{k:FI}(A:jV M 1)(hT:T k)(h0:old=none->P.f k=none/\∀q,M.has q->(M.it q).key≠k)(h1:∀p,old=some p->M.has p/\(M.it p).key=k/\P.f k≠none)(ov:Bool)(x:FI×Nat×Nat)(hx:(58+k.length+x.1.length:Nat)<=P.c.lim):
  ∃m,cu T (M.lays k old ov x).2 (P.lays m k ov x).2/\(M.lays k old ov x).1.vw=(P.lays m k ov x).1/\Wu M (M.lays k old ov x).2 P k m:=by
 obtain⟨c,hc⟩:=F _ hx;have cQ:QL P.z (58+k.length+x.1.length)=c:=by unfold QL;rw[hc];rfl
 rw[S.xr]at hc;rcases hr:M.room (58+k.length+x.1.length) old with⟨o,N⟩
 obtain⟨m,m1,m2,m3,m4,m5⟩:=S.laid hT hc old A h0 h1 hr;refine⟨m, ?_⟩;unfold Mo.lays eO.lays;rw[hr,cQ];cases o with
 |none=>
  dsimp only;rw[m1,if_neg (by decide)];refine⟨(m3 rfl).over (λe=>by rw[rm_f λy e=>(m2.v y e).2];exact(h0 e).1) m4 ov,rfl,m2.v, ?_,m2.am⟩;rw[JX];exact m2.dr
 |some r=>
  dsimp only;rw[m1,if_pos (by rfl)];refine⟨m5 r rfl x.1 x.2.1 x.2.2,rfl,m2.v, ?_,m2.am⟩;rw[Y1];exact m2.dr
theorem cu.jc{M:Mo}{P:eO}{T:FI->Prop}(S:cu T M P)(F:P.Fits){old:FK}{k:FI}(A:jV M 1)(hT:T k)(h0:old=none->P.f k=none/\∀q,M.has q->(M.it q).key≠k)(h1:∀p,old=some p->M.has p/\(M.it p).key=k/\P.f k=some (M.vw p))(c:fi):
  ∃m,cu T (M.jc c k old).2 (P.dx m c k).2/\(M.jc c k old).1.vw=(P.dx m c k).1/\Wu M (M.jc c k old).2 P k m:=by
 have xB:∀p,old=some p->M.has p/\(M.it p).key=k/\P.f k≠none:=λp e=>⟨(h1 p e).1,(h1 p e).2.1,by rw[(h1 p e).2.2];simp⟩;have ef:P.f k=old.map M.vw:=by
  cases old with
  |none=>exact(h0 rfl).1
  |some p=>exact(h1 p rfl).2.2
 have en:M.sN c k old=P.sN c k (P.f k):=by
  rw[ef];unfold Mo.sN eO.sN;rw[S.wB,S.cfg];cases old<;>rfl
 unfold Mo.jc eO.dx;rw[ZN,<-ef,en,S.cfg];by_cases g1:c.lg=true\/M.v.c.lim<58+k.length+c.data.length
 ·rw[if_pos g1]
  simp only[if_pos g1];exact⟨⟨true,none⟩,S.over (λe=>(h0 e).1) (λp e=>⟨(h1 p e).1,(h1 p e).2.1⟩) _,rfl, .none (by rw[JX])⟩
 rw[if_neg g1];simp only[if_neg g1];by_cases g2:Jw c.aC c.tok (P.f k)≠0
 ·rw[if_pos g2]
  simp only[if_pos g2];exact⟨⟨true,none⟩,S,rfl, .none rfl⟩
 rw[if_neg g2];simp only[if_neg g2];cases hx:P.sN c k (P.f k)with
 |none=>exact⟨⟨true,none⟩,S,rfl, .none rfl⟩
 |some x=>
  refine S.lays F A hT h0 xB (Gp c.aC) x ?_;unfold eO.sN at hx;rw[S.cfg]at hx⊢;have g3:¬M.v.c.lim<58+k.length+c.data.length:=λh=>g1 (.inr h);split at hx
  ·cases hx
   simp only;omega
  split at hx
  ·cases hx
  next y hy=>
  split at hx
  ·cases hx
  cases hx;simp only;split<;>rw[List.length_append]<;>omega
theorem cu.dx{M:Mo}{P:eO}{T:FI->Prop}(S:cu T M P)(F:P.Fits)(c:fi)(k:FI)(A:jV M 1)(hT:T k):
  ∃m,cu T (M.dx c k).2 (P.dx m c k).2/\(M.dx c k).1.vw=(P.dx m c k).1/\Wu M (M.dx c k).2 P k m:=by
 obtain⟨S1,h1,h2⟩:=S.meet k;obtain⟨m,a,b,d⟩:=S1.jc (old:=(M.meet k).1) (k:=k) F (A.meet k) hT h2 (λp e=>⟨(h1 p e).1,(h1 p e).2.1,(h1 p e).2.2.2⟩) c;exact⟨m,a,b,d.of (by rw[YM]) λA=>A.meet k⟩
theorem cu.fC{M:Mo}{P:eO}{T:FI->Prop}(S:cu T M P)(F:P.Fits)(c:fi)(hv:5<=c.aC/\c.aC<=10)(A:jV M 1)(hT:T (c.keys.headD [])):
  ∃m,cu T (M.fC c).2 (P.fC m c).2/\(M.fC c).1.vw=(P.fC m c).1/\Wu M (M.fC c).2 P (c.keys.headD []) m:=by
 unfold Mo.fC eO.fC;rw[if_neg (by omega),if_neg (by omega),if_neg (by omega),if_neg (by omega),if_neg (by omega),if_neg (by omega),if_neg (by omega),if_neg (by omega)];exact S.dx F c _ A hT
def eO.dO (m:Rm)(P:eO)(c:fi):hG×eO:=if xM c=true then(.t BM,P)else P.fC m c
theorem Bn (M:Mo):M.beside.v.mt.dr=M.v.mt.dr:=by
 unfold Mo.beside Mo.kM Mo.gA Mo.cy Mo.aN;rfl
theorem OO (hot warm:Nat)(M:Mo)(k:FI):(M.behind hot warm k).v.mt.dr=M.v.mt.dr:=by
 unfold Mo.behind;rw[Bn];unfold Mo.lE;split<;>rfl
theorem cu.beside{M:Mo}{P:eO}{T:FI->Prop}(S:cu T M P):cu T M.beside P:=S.go (S.i.beside S.h).1 (S.i.beside S.h).2 (nJ M).aQ (nJ M).c
theorem cu.behind{M:Mo}{P:eO}{T:FI->Prop}(S:cu T M P)(hot warm:Nat)(k:FI):cu T (M.behind hot warm k) P:=S.go (S.i.behind S.h hot warm k).1 (S.i.behind S.h hot warm k).2 (jP hot warm M k).aQ (jP hot warm M k).c
theorem cu.mw{P:eO}{T:FI->Prop}(hot warm:Nat):∀(l:List FI) {M:Mo},cu T M P->cu T (l.foldl (Mo.behind hot warm) M) P
 | [],_,S=>S
 |k::l,_,S=>cu.mw hot warm l (S.behind hot warm k)
theorem zq (hot warm:Nat):∀(l:List FI) (M:Mo),(l.foldl (Mo.behind hot warm) M).v.mt.dr=M.v.mt.dr
 | [],_=>rfl
 |k::l,M=>by rw[agn,zq hot warm l,OO]
theorem cu.reset{M:Mo}{P:eO}{T:FI->Prop}(S:cu T M P):cu T M.reset P:=S.go S.i.yI S.h rfl rfl
theorem jV.of{M N:Mo}{j:Nat}(A:jV M j)(h1:N.m.on=M.m.on)(h2:N.C=M.C):jV N j:=A.ev (.rf h1 h2)
theorem cu.dO{M:Mo}{P:eO}{T:FI->Prop}(S:cu T M P)(F:P.Fits)(hot warm:Nat)(c:fi)(hv:5<=c.aC/\c.aC<=10)(A:jV M 1)(hT:T (c.keys.headD [])):
  ∃m,cu T (M.dO hot warm c).2 (P.dO m c).2/\(M.dO hot warm c).1.vw=(P.dO m c).1/\(∀y,m.v=some y->P.f y≠none/\y≠c.keys.headD [])/\(M.dO hot warm c).2.v.mt.dr=(if m.v.isSome=true then 1 else 0)/\(jV M 1->m=⟨true,none⟩):=by
 unfold Mo.dO eO.dO;split
 ·exact⟨⟨true,none⟩,S.reset,rfl,(λy e=>by cases e),rfl,λ_=>rfl⟩
 obtain⟨m,a,b,d⟩:=S.reset.fC F c hv (A.ev (.rf rfl rfl)) hT;have hd:(M.reset.fC c).2.v.mt.dr=(if m.v.isSome=true then 1 else 0):=by
  rw[d.dr];split<;>rfl
 split
 ·exact⟨m,a.beside,b,d.v,by rw[Bn];exact hd,λA=>d.am (A.of rfl rfl)⟩
 exact⟨m,a.mw hot warm _,b,d.v,by rw[zq];exact hd,λA=>d.am (A.of rfl rfl)⟩
def P3 (M N:Mo):Prop:=∃A B,Ev M A/\(B=A\/∃c r,Mi A/\c<A.C.ae.length/\A.take c=some (r,B))/\Ev B N
theorem Ev.one{M N:Mo}(E:Ev M N):P3 M N:=⟨N,N,E, .inl rfl, .rf rfl rfl⟩
theorem Ev.then{M N O:Mo}(E:Ev M N)(F:P3 N O):P3 M O:=by
 obtain⟨A,B,h1,h2,h3⟩:=F;exact⟨A,B,E.trans h1,h2,h3⟩
theorem P3.then{M N O:Mo}(F:P3 M N)(E:Ev N O):P3 M O:=by
 obtain⟨A,B,h1,h2,h3⟩:=F;exact⟨A,B,h1,h2,h3.trans E⟩
theorem Ev.over (M:Mo)(old:FK)(ov:Bool):Ev M (M.over old ov):=by
 unfold Mo.over;split
 ·split
  ·exact Ev.bw M _
  exact .rf rfl rfl
 exact .rf rfl rfl
theorem wY{M:Mo}(K:Mi M)(hh:M.hole=none)(A:jV M 1)(n:Nat)(own:FK){o:FK}{N:Mo}(h:M.room n own=(o,N)):N=M\/∃c r,Mi M/\c<M.C.ae.length/\M.take c=some (r,N):=by
 cases hc:M.C.ae.findIdx? (λz=>decide (n<=z))with
 |none=>
  unfold Mo.room at h;rw[hc]at h;cases h;exact .inl rfl
 |some c=>
  obtain⟨r,D,e,_,_,_,_,_,_,t⟩:=K.room hh (j:=0) A hc own;rw[e]at h;cases h;exact .inr ⟨c,r,K,(abK.1 hc).1,t⟩
theorem YX{M:Mo}(K:Mi M)(hh:M.hole=none)(A:jV M 1)(k:FI)(old:FK)(ov:Bool)(x:FI×Nat×Nat):P3 M (M.lays k old ov x).2:=by
 unfold Mo.lays;rcases hr:M.room (58+k.length+x.1.length) old with⟨_|r,N⟩
 ·exact⟨M,N, .rf rfl rfl,wY K hh A _ _ hr,Ev.over _ _ _⟩
 exact⟨M,N, .rf rfl rfl,wY K hh A _ _ hr,Ev.dE _ _ _ _⟩
theorem Ev.kf (iE:Bool)(ex:Int)(s:List I3×Mo)(y:FI):Ev s.2 (Mo.kf iE ex s y).2:=by
 have e:=Ev.meet s.2 y;unfold Mo.kf;rcases hm:s.2.meet y with⟨_|p,N⟩<;>rw[hm]at e
 ·exact e
 cases iE
 ·exact e.trans (.rf rfl rfl)
 exact e.trans (.rf rfl rfl)
theorem Ev.xK (iE:Bool)(ex:Int):∀(l:List FI) (s:List I3×Mo),Ev s.2 (l.foldl (Mo.kf iE ex) s).2
 | [],_=> .rf rfl rfl
 |y::l,s=>by rw[agn];exact(Ev.kf iE ex s y).trans (Ev.xK iE ex l _)
theorem KF{M:Mo}{P:eO}{T:FI->Prop}(S:cu T M P)(A:jV M 1)(c:fi):P3 M (M.fC c).2:=by
 unfold Mo.fC;split
 ·exact(Ev.xK _ _ c.keys ([],M)).one
 split
 ·have e:=Ev.meet M (c.keys.headD [])
  have S1:=(S.meet (c.keys.headD [])).1;have A1:=A.meet (c.keys.headD []);unfold Mo.counts;rcases hm:M.meet (c.keys.headD [])with⟨_|p,N⟩<;>rw[hm]at e S1 A1
  ·exact e.one
  dsimp only at S1 A1⊢;cases uG (N.it p).val with
  |none=>exact e.one
  |some n=>
   refine e.then ?_;dsimp only;unfold Mo.r8;split
   ·exact Ev.one (by exact .rf rfl rfl)
   split
   ·exact Ev.one (by exact .rf rfl rfl)
   rcases hr:N.room (58+(N.it p).key.length+(dH (pA c n)).length) (some p)with⟨_|r,R⟩
   ·exact⟨N,R, .rf rfl rfl,wY S1.i S1.h A1 _ _ hr, .rf rfl rfl⟩
   exact⟨N,R, .rf rfl rfl,wY S1.i S1.h A1 _ _ hr,by dsimp only;exact Ev.dE _ _ _ _⟩
 split
 ·have e:=Ev.meet M (c.keys.headD [])
  unfold Mo.hJ;rcases hm:M.meet (c.keys.headD [])with⟨_|p,N⟩<;>rw[hm]at e
  ·exact e.one
  exact Ev.one (e.trans (by exact .rf rfl rfl))
 split
 ·have e:=Ev.meet M (c.keys.headD [])
  unfold Mo.delete;rcases hm:M.meet (c.keys.headD [])with⟨_|p,N⟩<;>rw[hm]at e
  ·exact e.one
  exact Ev.one (e.trans (by exact Ev.bw _ _))
 split
 ·exact Ev.one (by exact .rf rfl rfl)
 split
 ·exact Ev.one (by exact .rf rfl rfl)
 split
 ·exact Ev.one (by exact .rf rfl rfl)
 split
 ·exact Ev.one (by exact .rf rfl rfl)
 have e:=Ev.meet M (c.keys.headD []);have S1:=(S.meet (c.keys.headD [])).1;have A1:=A.meet (c.keys.headD []);unfold Mo.dx;refine e.then ?_;unfold Mo.jc;split
 ·exact(Ev.over _ _ _).one
 split
 ·exact Ev.one (by exact .rf rfl rfl)
 split
 ·exact Ev.one (by exact .rf rfl rfl)
 exact YX S1.i S1.h A1 _ _ _ _
theorem XH{M N:Mo}{c r:Nat}(h:M.take c=some (r,N)):M.C.spare<=N.C.spare+1/\N.m=M.m:=by
 unfold Mo.take at h;split at h
 ·next p D hD=>
  cases h;refine⟨?_,rfl⟩;unfold Cs.ca at hD;split at hD
  ·cases hD;exact Nat.le_succ _
  split at hD
  ·cases hD
  next i _=>
  split at hD
  ·cases hD
   show M.C.spare<=M.C.spare-1+1;omega
  cases hD
 cases h
theorem P3.amp{M N:Mo}{j:Nat}(A:jV M (j+1))(E:P3 M N):jV N j:=by
 obtain⟨B,D,h1,h2,h3⟩:=E;have A1:=A.ev h1;have A2:jV D j:=by
  rcases h2 with rfl|⟨c,r,_,_,h⟩
  ·exact A1.le (Nat.le_succ j)
  obtain⟨g1,g2⟩:=XH h;exact⟨by rw[g2];exact A1.on,by have:=A1.sp;omega⟩
 exact A2.ev h3
theorem ajq{M:Mo}{P:eO}{T:FI->Prop}(S:cu T M P){j:Nat}(A:jV M (j+2))(hot warm:Nat)(c:fi):P3 M (M.dO hot warm c).2:=by
 have E0:Ev M M.reset:= .rf rfl rfl;unfold Mo.dO;split
 ·exact E0.one
 have A0:jV M.reset (j+1+1):=A.ev E0;have E:=KF S.reset (A0.le (agl (abL _))) c;have A1:=E.amp A0;split
 ·exact E0.then (E.then (A1.le (agl (abL _))).beside)
 exact E0.then (E.then (jV.mw hot warm _ A1))
theorem afu{M:Mo}{P:eO}{T:FI->Prop}(S:cu T M P){j:Nat}(A:jV M (j+2))(hot warm:Nat)(c:fi):jV (M.dO hot warm c).2 (j+1):=(ajq S A hot warm c).amp A
structure Ran (M:Mo)(s:Nat):Prop where
 st:M.m.st<=s
 tn:M.tn<=s
 aQ:M.v.aQ<=s
theorem aft{M:Mo}{P:eO}{T:FI->Prop}(S:cu T M P){s:Nat}(R:Ran M s)(hot warm:Nat)(c:fi):Ran (M.dO hot warm c).2 (s+c.keys.length+1)/\(M.dO hot warm c).2.v.p=M.v.p/\(M.dO hot warm c).2.v.c=M.v.c:=by
 have r1:=R.st;have r2:=R.tn;have r3:=R.aQ;unfold Mo.dO;split
 ·exact⟨⟨by show M.m.st<=_;omega,by show M.tn<=_;omega,by show M.v.aQ<=_;omega⟩,rfl,rfl⟩
 have KD:=De S.reset.i.co S.h c;have k1:_=M.m.st:=KD.st;have k2:_<=M.v.aQ+1:=KD.aQ;have k3:_<=M.tn+max c.keys.length 1:=KD.tn;have k4:_=M.v.p:=KD.p;have k5:_=M.v.c:=KD.c;generalize (M.reset.fC c).2=N at*;split
 ·have B:=nJ N
  have b1:=B.st;have b2:=B.aQ;have b3:=B.tn;exact⟨⟨by dsimp only;omega,by dsimp only;omega,by dsimp only;omega⟩,B.p.trans k4,B.c.trans k5⟩
 have B:=oP hot warm c.keys N;have b1:=B.st;have b2:=B.aQ;have b3:=B.tn;exact⟨⟨by dsimp only;omega,by dsimp only;omega,by dsimp only;omega⟩,B.p.trans k4,B.c.trans k5⟩
theorem Qs (P:eO)(m:Rm):(P.rm m).c=P.c/\(P.rm m).z=P.z:=by
 unfold eO.rm;split<;>exact⟨rfl,rfl⟩
theorem CQ (P:eO)(k:FI)(ov:Bool):(P.over k ov).c=P.c/\(P.over k ov).z=P.z:=by
 unfold eO.over;split<;>exact⟨rfl,rfl⟩
theorem ajr (m:Rm)(P:eO)(c:fi):(P.dO m c).2.c=P.c/\(P.dO m c).2.z=P.z:=by
 unfold eO.dO;split
 ·exact⟨rfl,rfl⟩
 unfold eO.fC eO.dx;split
 ·exact CQ _ _ _
 split
 ·exact⟨rfl,rfl⟩
 split
 ·exact⟨rfl,rfl⟩
 unfold eO.lays;split
 ·exact Qs P m
 exact⟨(CQ _ _ _).1.trans (Qs P m).1,(CQ _ _ _).2.trans (Qs P m).2⟩
theorem Df{m:Rm}{P:eO}{c:fi}(F:P.Fits):(P.dO m c).2.Fits:=by
 obtain⟨a,b⟩:=ajr m P c;unfold eO.Fits;rw[a,b];exact F
theorem ME{l:FH}{p:Nat}(nd:l.Nodup)(h:p∈l)(g:∀q∈l,q=p):l.length=1:=by
 cases l with
 |nil=>cases h
 |cons a r=>
  cases r with
  |nil=>rfl
  |cons b r=>
   have h1:=g a aag;have h2:=g b (aai _ aag);rw[h1,h2]at nd;exact absurd aag (abB.1 nd).1
theorem YV{B:Bx}{M:Mo}{P:eO}{k:FI}(O:bH B M)(S:cu (λy=>y=k) M P)(h:P.f k≠none):M.n=1:=by
 cases hx:P.f k with
 |none=>exact absurd hx h
 |some x=>
  rw[S.f]at hx;obtain⟨p,h1,h2,_,_⟩:=(ni S.i.p).1 hx;rw[<-O.n,O.t.n];refine ME O.t.nd ((O.al p).2 h1) λq hq=> ?_;have g:=(O.al q).1 hq;exact S.i.p.kd q p g h1 ((S.t q g).trans h2.symm)
theorem w8{c:ra}{pc:pD}{k:Ck}{q:Nat}(h:(dU c pc k).has q):False:=by
 obtain⟨i,hi⟩:=h;rw[show(dU c pc k).Q=List.replicate ((dp c).ae.length*3) []from rfl,G6]at hi;cases hi
def DV (c:ra):eO:=⟨λ_=>none,⟨1,0,0⟩,0,c,fk c⟩
theorem Uq{c:ra}(h:pB c=0)(pc:pD)(T:FI->Prop):cu T (dU c pc ⟨1,0,0⟩) (DV c):=by
 have O:=CR h pc ⟨1,0,0⟩ ⟨aam _,by decide,by decide,λh=>absurd rfl h,by decide⟩ 0;refine⟨O.mi,rfl, ?_,λq hq=>(w8 hq).elim⟩;unfold Mo.ps DV;rw[show(dU c pc ⟨1,0,0⟩).gd=λ_=>none from funext λz=>wW λq hq=>(w8 hq).elim];rfl
theorem YG (c:ra)(pc:pD)(k:Ck):jV (dU c pc k) c.bA.toNat:=⟨rfl,aam _⟩
theorem J1 (c:ra)(pc:pD)(k:Ck):Ran (dU c pc k) 0:=⟨aam _,aam _,aam _⟩
theorem Zm{P:eO}{z:Nat}(h:z∈P.z)(hl:P.c.lim<=z):P.Fits:=λn hn=>by
 cases hf:P.z.findIdx? (λz=>decide (n<=z))with
 |some c=>exact⟨c,rfl⟩
 |none=>
  have:=ago.1 hf z h;simp only[decide_eq_false_iff_not]at this;omega
theorem YU{M:Mo}{P:eO}{T:FI->Prop}(S:cu T M P){k:FI}{x:I3}{c:Nat}(h:P.f k=some (x,c)):∃p,M.live k=some p/\(M.it p).vw=x:=by
 rw[S.f]at h;unfold Mo.gd at h;cases hl:M.live k with
 |none=>rw[hl]at h;cases h
 |some p=>
  rw[hl]at h;simp only[Option.map_some,Option.some.injEq]at h;exact⟨p,rfl,congrArg Prod.fst h⟩
def PH:Rm:=⟨true,none⟩
theorem yy{M:Mo}{P:eO}{T:FI->Prop}(S:cu T M P)(F:P.Fits){j s:Nat}(A:jV M (j+2))(R:Ran M s)(hot warm:Nat)(c:fi)(hv:5<=c.aC/\c.aC<=10)(hT:T (c.keys.headD [])):
  (cu T (M.dO hot warm c).2 (P.dO PH c).2/\(M.dO hot warm c).1.vw=(P.dO PH c).1/\jV (M.dO hot warm c).2 (j+1)/\Ran (M.dO hot warm c).2 (s+c.keys.length+1))/\(M.dO hot warm c).2.v.p=M.v.p/\(M.dO hot warm c).2.v.c=M.v.c:=by
 obtain⟨m,a,b,_,_,h⟩:=S.dO F hot warm c hv (A.le (agl (abL _))) hT;obtain rfl:=h (A.le (agl (abL _)));obtain⟨r1,r2,r3⟩:=aft S R hot warm c;exact⟨⟨a,b,afu S A hot warm c,r1⟩,r2,r3⟩
structure Rdy (M:Mo):Prop where
 h:M.hole=none
 st:M.m.st<=1000
 tn:M.tn<=1000
 aQ:M.v.aQ<=1000
 p:xO M.v.p
 lim:M.v.c.lim<=1048576
structure Rdo (M:Mo)(c:fi):Prop where
 r:Rdy M
 a:jV M 1
 b:jV (M.reset.fC c).2 1
theorem G4{M:Mo}{P:eO}{T:FI->Prop}(S:cu T M P){s:Nat}(R:Ran M s)(hs:s<=1000)(hp:xO M.v.p)(hl:M.v.c.lim<=1048576):Rdy M:=⟨S.h,ahb R.st hs,ahb R.tn hs,ahb R.aQ hs,hp,hl⟩
theorem G5{M:Mo}{P:eO}{T:FI->Prop}(S:cu T M P){j:Nat}(A:jV M (j+2))(R:Rdy M)(c:fi):Rdo M c:=⟨R,A.le (agl (abL _)),((KF S.reset ((A.le (agl (abL _))).of rfl rfl) c).amp (A.of rfl rfl:jV M.reset (j+1+1))).le (agl (abL _))⟩
theorem yD:xO kj:=⟨by decide,by decide,by decide,by decide⟩
def cW:ra:=⟨4096,4,200,64,256,30,30⟩
def uE (v:Int)(fl tok:Nat)(b:UInt8):fi:=⟨v,[[97]],fl,0,tok,0,[b],false,false,[]⟩
theorem afA:pB cW=0:=by decide+kernel
theorem afz:rQ cW kj=0:=by decide+kernel
theorem pW1:((DV cW).dO PH (uE 5 5 0 120)).1.kind=1:=by kernel_rfl
theorem pW2:(((DV cW).dO PH (uE 5 5 0 120)).2.dO PH (uE 10 0 1 121)).1.kind=1:=by kernel_rfl
theorem pW3:((((DV cW).dO PH (uE 5 5 0 120)).2.dO PH (uE 10 0 1 121)).2.dO PH (uE 10 0 1 122)).1.kind=3:=by kernel_rfl
theorem pWf:((((DV cW).dO PH (uE 5 5 0 120)).2.dO PH (uE 10 0 1 121)).2.dO PH (uE 10 0 1 122)).2.f [97]=some (⟨[97],[121],0,0,1,2,0⟩,0):=by kernel_rfl
theorem r6 (hot warm:Nat):∀r1 r2 r3,(dU cW kj ⟨1,0,0⟩).dO hot warm (uE 5 5 0 120)=r1->r1.2.dO hot warm (uE 10 0 1 121)=r2->r2.2.dO hot warm (uE 10 0 1 122)=r3->
  ((Rdo (dU cW kj ⟨1,0,0⟩) (uE 5 5 0 120)/\Rdo r1.2 (uE 10 0 1 121)/\Rdo r2.2 (uE 10 0 1 122))/\r1.1.kind=1/\r2.1.kind=1/\r3.1.kind=3)/\∃P,cu (λy=>y= [97]) r3.2 P/\P.f [97]=some (⟨[97],[121],0,0,1,2,0⟩,0):=by
 intro r1 r2 r3 e1 e2 e3;have w0:(dU cW kj ⟨1,0,0⟩).v.c.lim<=1048576:=show(256:Int)<=1048576 by decide
 have F0:(DV cW).Fits:=Zm (z:=256) (show 256∈fk cW by decide+kernel) (by decide);have S0:cu (λy=>y= [97]) (dU cW kj ⟨1,0,0⟩) (DV cW):=Uq afA kj _;have A0:jV (dU cW kj ⟨1,0,0⟩) (2+2):=YG cW kj _;have R0:=J1 cW kj ⟨1,0,0⟩;obtain⟨⟨S1,k1,A1,R1⟩,p1,c1⟩:=yy S0 F0 A0 R0 hot warm (uE 5 5 0 120) (by decide) rfl;rw[e1]at S1 k1 A1 R1 p1 c1;obtain⟨⟨S2,k2,A2,R2⟩,p2,c2⟩:=yy S1 (Df F0) A1 R1 hot warm (uE 10 0 1 121) (by decide) rfl;rw[e2]at S2 k2 A2 R2 p2 c2;obtain⟨⟨S3,k3,A3,R3⟩,p3,c3⟩:=yy S2 (Df (Df F0)) (j:=0) A2 R2 hot warm (uE 10 0 1 122) (by decide) rfl;rw[e3]at S3 k3 A3 R3;exact⟨⟨⟨G5 S0 A0 (G4 S0 R0 (by decide) yD w0) _,G5 S1 A1 (G4 S1 R1 (by decide) (p1.symm▸yD) (c1.symm▸w0)) _,G5 S2 (j:=0) A2 (G4 S2 R2 (by decide) (p2.symm▸p1.symm▸yD) (c2.symm▸c1.symm▸w0)) _⟩,(congrArg hG.kind k1).trans pW1,(congrArg hG.kind k2).trans pW2,(congrArg hG.kind k3).trans pW3⟩,_,S3,pWf⟩
theorem cu.aK{M:Mo}{P:eO}{T:FI->Prop}(S:cu T M P)(a:FL)(c:Nat):cu T (M.aK a c) P:=S.go ⟨S.i.rf S.i.x rfl rfl rfl rfl rfl rfl rfl rfl,eA S.i.p rfl rfl rfl⟩ S.h rfl rfl
def BA (n:Int):Int:=((n.tmod 1048577).natAbs:Int)
def DR (p:pD):pD:=⟨BA p.b,BA p.l,BA p.c,BA p.m⟩
theorem te (n:Int):0<=BA n/\BA n<=1048576:=by
 unfold BA;have h:=agI n (b:=1048577) (by decide);have h2: -(1048577:Int)<n.tmod 1048577:=by
  have:=agI (-n) (b:=1048577) (by decide);rw[akZ]at this;omega
 omega
theorem Yp (p:pD):xO (DR p):=by
 have h1:=te p.b;have h2:=te p.l;have h3:=te p.c;have h4:=te p.m;constructor<;>(unfold DR;dsimp only;omega)
theorem zd:∀l:List Bool,((abM l.length).filter λk=>l.getD k false).length=(l.map bN).sum
 | []=>rfl
 |b::l=>by
  have ih:=zd l;rw[abU,List.range_succ_eq_map,agd,aaj,abJ];have e:((abM l.length).map Nat.succ).filter (λk=>(b::l).getD k false)=((abM l.length).filter λk=>l.getD k false).map Nat.succ:=by
   rw[List.filter_map];rfl
  rw[e];cases b
  ·simp only[ako,aj1,if_false,abI,ih,bN]
   omega
  simp only[ako,if_true,abU,abI,ih,bN];omega
theorem qv{C:Cs}(K:Ok C):C.bm=(abM C.n).map C.pg:=by
 apply agJ;intro i;by_cases hi:i<C.n
 ·rw[abD,List.getElem?_range hi,ki (by rw[K.pl];exact hi)]
  rfl
 rw[aal (by rw[K.pl];omega),aal (by rw[abI,List.length_range];omega)]
def KX (C:Cs)(c:Nat):FH:=(abM C.n).flatMap λi=>if(C.pg i).own=true/\(C.pg i).cl=c then((abM (C.pg i).tk.length).filter λk=>(C.pg i).tk.getD k false).map (C.mB i)else []
theorem th{C:Cs}(K:Ok C){c p:Nat}:p∈KX C c↔Live C p/\C.cl p=c:=by
 unfold KX;rw[List.mem_flatMap];constructor
 ·rintro⟨i,hi,hp⟩
  rw[ab0]at hi;split at hp
  ·next ho=>
   obtain⟨k,hk,rfl⟩:=abF.1 hp;rw[abG,ab0]at hk;have P:=K.pg _ (dh (by rw[K.pl];exact hi));obtain⟨e1,e2,a⟩:=iM K hi ho.1 (k:=k) (by rw[<-P.tl];exact hk.1);refine⟨⟨a, ?_⟩,by unfold Cs.cl;rw[e1];exact ho.2⟩;rw[e1,e2,aac hk.1];have:=hk.2;rw[aab,aac hk.1]at this;exact congrArg some this
  cases hp
 rintro⟨L,hc⟩;refine⟨C.pn p,ab0.2 L.i, ?_⟩;rw[if_pos ⟨L.own,hc⟩];refine abF.2 ⟨C.ix p, ?_,G7 K L.toAt⟩;have ht:=L.tk;obtain⟨hk,e⟩:=List.getElem?_eq_some_iff.1 ht;rw[abG,ab0];exact⟨hk,by rw[aab,ht];rfl⟩
theorem LW{C:Cs}(K:Ok C)(c:Nat):(KX C c).Nodup:=by
 have ak:∀i,i<C.n->∀p,p∈(if(C.pg i).own=true/\(C.pg i).cl=c then((abM (C.pg i).tk.length).filter λk=>(C.pg i).tk.getD k false).map (C.mB i)else [])->C.pn p=i:=by
  intro i hi p hp;split at hp
  ·next ho=>
   obtain⟨k,hk,rfl⟩:=abF.1 hp;rw[abG,ab0]at hk;have P:=K.pg _ (dh (by rw[K.pl];exact hi));exact(iM K hi ho.1 (k:=k) (by rw[<-P.tl];exact hk.1)).1
  cases hp
 unfold KX;unfold List.Nodup;rw[List.pairwise_flatMap];refine⟨λi hi=> ?_, ?_⟩
 ·rw[ab0]at hi
  split
  ·next ho=>
   have P:=K.pg _ (dh (by rw[K.pl];exact hi));rw[akt];have zE:((abM (C.pg i).tk.length).filter λk=>(C.pg i).tk.getD k false).Pairwise (·≠·):=agG.filter _ akA;refine agG.imp_of_mem ?_ zE;intro a b ha hb fQ e;rw[abG,ab0]at ha hb;have e1:=(iM K hi ho.1 (k:=a) (by rw[<-P.tl];exact ha.1)).2.1;have e2:=(iM K hi ho.1 (k:=b) (by rw[<-P.tl];exact hb.1)).2.1;rw[e,e2]at e1;exact fQ e1.symm
  exact agG.nil
 refine agG.imp_of_mem ?_ (akA (n:=C.n));intro i j hi hj fQ p hp q hq e;rw[ab0]at hi hj;have e1:=ak i hi p hp;have e2:=ak j hj q hq;rw[e,e2]at e1;exact fQ e1.symm
theorem ti{C:Cs}(K:Ok C){c:Nat}(hc:c<C.ae.length):(KX C c).length=(C.rw c).ct:=by
 rw[K.ft c hc];unfold Cs.wR KX;rw[qv K,List.length_flatMap,agN];refine congrArg List.sum (acA λi hi=> ?_);rw[ab0]at hi;have P:=K.pg _ (dh (by rw[K.pl];exact hi));show _=uC c (C.pg i);unfold uC;split
 ·rw[abI,zd,P.held]
 rfl
theorem AH{α:Type}(f:α->Nat)(g:α->Nat):∀(L:List α) (n:Nat),(∀x∈L,g x<n)->((abM n).map λc=>((L.filter λx=>decide (g x=c)).map f).sum).sum=(L.map f).sum
 | [],n,_=>by
  have:∀m:FH,(m.map λ_=>0).sum=0:=λm=>by induction m with
   |nil=>rfl
   |cons a m ih=>simpa using ih
  simpa using this (abM n)
 |x::L,n,h=>by
  have ih:=AH f g L n λy hy=>h y (aai _ hy);have hx:=h x aag;rw[aaj,abJ,<-ih];have e:∀c,(((x::L).filter λy=>decide (g y=c)).map f).sum=(if g x=c then f x else 0)+((L.filter λy=>decide (g y=c)).map f).sum:=λc=>by
   rw[agd];by_cases hc:g x=c
   ·rw[if_pos (decide_eq_true hc),if_pos hc,aaj,abJ]
   rw[if_neg (by simpa using hc),if_neg hc,Nat.zero_add]
  rw[acA (g:=λc=>(if g x=c then f x else 0)+((L.filter λy=>decide (g y=c)).map f).sum) λc _=>e c];have s:∀(m:FH) (u v:Nat->Nat),(m.map λc=>u c+v c).sum=(m.map u).sum+(m.map v).sum:=λm u v=>by
   induction m with
   |nil=>rfl
   |cons a m ih=>simp only[aaj,abJ,ih];omega
  rw[s]
  congr 1
  have o:∀n k:Nat,k<n->((abM n).map λc=>if k=c then f x else 0).sum=f x:=λn k hk=>by
   induction n with
   |zero=>omega
   |succ n ih=>
    rw[ag3,af1,ajD];by_cases DG:k<n
    ·rw[ih DG]
     simp[show k≠n by omega]
    have:k=n:=by omega
    subst this;have z:∀m,m<=k->((abM m).map λc=>if k=c then f x else 0).sum=0:=λm hm=>by
     induction m with
     |zero=>rfl
     |succ m ihm=>
      rw[ag3,af1,ajD,ihm (by omega)];simp[show k≠m by omega]
    rw[z k (aam _)];simp
  exact o n (g x) hx
theorem bH.clM{B:Bx}{M:Mo}(O:bH B M)(p:Nat):B.C.cl p=M.C.cl p:=by rw[O.c];rfl
theorem yp{α:Type}:∀L:List α,(L.map λ_=>1).sum=L.length
 | []=>rfl
 |x::L=>by rw[aaj,abJ,yp L,abU,akW]
theorem Ok.Yn{C:Cs}(K:Ok C):((abM C.ae.length).map λc=>(C.rw c).bA).sum+C.spare=C.n:=by
 have e1:∀c∈abM C.ae.length,(C.rw c).bA=(((C.bm.filter λx=>x.own).filter λx=>decide (x.cl=c)).map λ_=>1).sum:=λc hc=>by
  rw[K.fp c (ab0.1 hc),yp];unfold Cs.wR;generalize C.bm=L;induction L with
  |nil=>rfl
  |cons x L ih=>
   rw[aaj,abJ,ih,agd];unfold sJ;cases ho:x.own
   ·simp[ho]
   by_cases hx:x.cl=c
   ·simp[ho,hx,akW]
   simp[ho,hx]
 rw[acA e1,AH (λ_=>1) (λx:Pg=>x.cl) (C.bm.filter λx=>x.own) C.ae.length λx hx=>by
  rw[abG]at hx;exact(K.pg x hx.1).cl hx.2,yp,K.sp,<-K.pl]
 unfold Cs.wR;generalize C.bm=L;induction L with
 |nil=>rfl
 |cons x L ih=>
  rw[aaj,abJ,agd,abU];unfold wQ at*;cases ho:x.own
  ·simp[ho];omega
  simp[ho];omega
theorem Ok.x5{C:Cs}(K:Ok C){c:Nat}(hc:c<C.ae.length):(C.rw c).ct<=(C.rw c).bA*(C.ao/C.sz c):=by
 rw[K.ft c hc,K.fp c hc];unfold Cs.wR;have h:∀x∈C.bm,uC c x<=sJ c x*(C.ao/C.sz c):=λx hx=>by
  have P:=K.pg x hx;unfold uC sJ;by_cases ho:x.own=true/\x.cl=c
  ·rw[if_pos ho,if_pos ho,Nat.one_mul,P.held,<-ho.2,<-P.gl ho.1,<-P.tl]
   have:∀l:List Bool,(l.map bN).sum<=l.length:=λl=>by
    induction l with
    |nil=>exact aam _
    |cons b l ih=>
     rw[aaj,abJ,abU];have:bN b<=1:=by unfold bN;split<;>omega
     omega
   exact this _
  rw[if_neg ho,if_neg ho,akR];exact aam _
 generalize C.bm=L at h;induction L with
 |nil=>simp
 |cons x L ih=>
  rw[aaj,abJ,aaj,abJ,Nat.add_mul];exact Nat.add_le_add (h x aag) (ih λy hy=>h y (aai _ hy))
theorem Ok.leaves{C:Cs}(K:Ok C){j:Nat}(h1:∀i,(C.pg i).lv=true->i=j){c:Nat}(hc:c<C.ae.length):(C.rw c).bA=(C.rw c).ig+(if(C.pg j).lv=true/\(C.pg j).own=true/\(C.pg j).cl=c then 1 else 0):=by
 rw[K.fp c hc,K.fs c hc];unfold Cs.wR;rw[qv K,agN,agN];have e:∀n,((abM n).map (sJ c∘C.pg)).sum=((abM n).map (xD c∘C.pg)).sum+(if j<n/\(C.pg j).lv=true/\(C.pg j).own=true/\(C.pg j).cl=c then 1 else 0):=λn=>by
  induction n with
  |zero=>simp
  |succ n ih=>
   rw[ag3,af1,af1,ajD,ajD,ih];simp only[aaj,List.map_nil,abJ,List.sum_nil,Function.comp_apply,Nat.add_zero];unfold sJ xD;by_cases hj:j=n
   ·subst hj
    rw[if_neg (c:=j<j/\_) (by omega)];cases hl:(C.pg j).lv<;>cases ho:(C.pg j).own<;>by_cases cQ:(C.pg j).cl=c<;>simp[hl,ho,cQ]
   have hl:(C.pg n).lv=false:=by
    cases h:(C.pg n).lv
    ·rfl
    exact absurd (h1 n h).symm hj
   have e2:(j<n+1/\(C.pg j).lv=true/\(C.pg j).own=true/\(C.pg j).cl=c)↔(j<n/\(C.pg j).lv=true/\(C.pg j).own=true/\(C.pg j).cl=c):=by
    constructor<;>rintro⟨a,b⟩<;>exact⟨by omega,b⟩
   simp only[e2];cases ho:(C.pg n).own<;>by_cases cQ:(C.pg n).cl=c<;>simp[hl,ho,cQ]<;>omega
 rw[e]
 congr 1
 by_cases hj:j<C.n
 ·simp[hj]
 have mc:(C.pg j).own=false:=by
  unfold Cs.pg;rw[aab,aal (by rw[K.pl];omega)];rfl
 simp[hj,mc]
end Go.Proofs.YtcbcjolpdljbiaaGreat
namespace Go.Proofs.YtcbcjolpdljbiaaGreat
open Go Go.dC Go.Proofs.YtcbcjolpdljbiaaGreat.Cs
structure Shq (C D:Cs):Prop where
 sz:D.ae=C.ae
 n:D.n=C.n
 ps:D.ao=C.ao
theorem Shq.trans{C D E:Cs}(a:Shq C D)(b:Shq D E):Shq C E:=⟨b.sz.trans a.sz,b.n.trans a.n,b.ps.trans a.ps⟩
structure Oz (R:Cs)(M:Mo):Prop where
 z:M.m.on=true->M.C.spare=0
 q:Shq R M.C
variable {R:Cs}
theorem Oz.ev{M N:Mo}(h:Oz R M)(E:Ev M N):Oz R N:=⟨λo=>by rw[E.g.sp];exact h.z (by rw[<-E.on];exact o),h.q.trans ⟨E.g.sz,E.g.n,E.g.ps⟩⟩
theorem Oz.of{M N:Mo}(h:Oz R M)(h1:N.m.on=M.m.on)(h2:N.C.spare=M.C.spare)(h3:Shq M.C N.C:=by exact⟨rfl,rfl,rfl⟩):Oz R N:=⟨λo=>by rw[h2];exact h.z (by rw[<-h1];exact o),h.q.trans h3⟩
theorem Oz.off{M N:Mo}(h0:Oz R M)(h:N.m.on=false)(h3:Shq M.C N.C:=by exact⟨rfl,rfl,rfl⟩):Oz R N:=⟨λo=>(by rw[h]at o;cases o),h0.q.trans h3⟩
theorem Oz.take{M N:Mo}{c r:Nat}(h:Oz R M)(e:M.take c=some (r,N)):Oz R N:=by
 unfold Mo.take at e;split at e
 ·next p D hD=>
  cases e;unfold Cs.ca at hD;split at hD
  ·cases hD;exact⟨h.z,h.q.trans ⟨rfl,rfl,rfl⟩⟩
  split at hD
  ·cases hD
  split at hD
  ·cases hD
   refine⟨λo=> ?_,h.q.trans ⟨rfl,rfl,rfl⟩⟩;have h0:=h.z o;show M.C.spare-1=0;omega
  cases hD
 cases e
theorem Oz.shift{M N:Mo}{p:Nat}(h:Oz R M)(e:M.shift p=some N):Oz R N:=by
 unfold Mo.shift at e;split at e
 ·next r D hD=>
  cases e;exact(h.take hD).of rfl rfl
 cases e
theorem Oz.c8{M:Mo}(h:Oz R M):Oz R M.c8.2:=by
 unfold Mo.c8;split
 ·exact h.off rfl
 split
 ·exact h.ev (Ev.bw _ _)
 split
 ·next N hN=>exact h.shift hN
 exact h.off rfl
theorem Oz.cx:∀(f:Nat) {M:Mo},Oz R M->Oz R (M.cx f).2
 |0,_,h=>h
 |f+1,M,h=>by
  unfold Mo.cx;split
  ·exact Oz.cx f h.c8
  exact h.c8
theorem Oz.eG{M:Mo}(h:Oz R M)(most:Int):Oz R (M.eG most).2:=by
 have ht:Oz R M.dQ:=h.of rfl rfl;unfold Mo.eG;split
 ·exact h
 split
 ·exact Oz.cx _ ht
 show Oz R M.dQ.dM;unfold Mo.dM;split
 ·exact ht
 next hs=>
 split
 ·exact ht
 split
 ·exact ht
 exact⟨λ_=>by
  show M.dQ.C.spare=0;omega,ht.q.trans ⟨rfl,rfl,rfl⟩⟩
theorem Oz.beside{M:Mo}(h:Oz R M):Oz R M.beside:=by
 have h1:Ev M M.cy:= .rf rfl rfl;have h2:Ev M M.cy.gA:=(h1.trans (Ev.cb M.cy M.cy.k.now M.cy.v.p.c)).trans (.rf rfl rfl);exact((h.ev h2).eG M.cy.gA.v.p.m).of rfl rfl
theorem Oz.behind{M:Mo}(h:Oz R M)(hot warm:Nat)(k:FI):Oz R (M.behind hot warm k):=(h.ev (KU hot warm M k)).beside
theorem Oz.mw (hot warm:Nat):∀(l:List FI) {M:Mo},Oz R M->Oz R (l.foldl (Mo.behind hot warm) M)
 | [],_,h=>h
 |k::l,_,h=>Oz.mw hot warm l (h.behind hot warm k)
theorem Oz.last{M:Mo}(h:Oz R M)(c p:Nat):Oz R (M.last c p).2:=by
 unfold Mo.last;split
 ·next r N hN=>exact(h.ev (Ev.bw _ _)).take hN
 exact h.ev (Ev.bw _ _)
theorem Oz.iy{M:Mo}(h:Oz R M)(c:Nat)(own:FK):Oz R (M.iy c own).2:=by
 unfold Mo.iy;have h1:Oz R (M.aN {M.v.mt with lo:=cM (M.v.mt.lo+((M.pick c own).2.2:Int))}):=h.of rfl rfl;generalize M.aN _=X at*;generalize (M.pick c own).1=o;generalize (M.pick c own).2.1=d;have fA:Oz R (X.cF c):=h1.of rfl rfl;cases o<;>cases d
 ·exact fA
 ·exact h1
 ·refine Oz.last ?_ c _
  exact Oz.of (M:=X.cF c) fA rfl rfl
 refine Oz.last ?_ c _;exact Oz.of (M:=X) h1 rfl rfl
theorem Oz.room{M:Mo}(h:Oz R M)(n:Nat)(own:FK):Oz R (M.room n own).2:=by
 unfold Mo.room;split
 ·exact h
 unfold Mo.lG;split
 ·next r N hN=>exact h.take hN
 split
 ·have hs:Oz R M.mstop:=h.off rfl
  split
  ·next r N hN=>exact hs.take hN
  exact hs.iy _ _
 exact h.iy _ _
theorem Oz.lays{M:Mo}(h:Oz R M)(k:FI)(old:FK)(ov:Bool)(x:FI×Nat×Nat):Oz R (M.lays k old ov x).2:=by
 have I7:=h.room (58+k.length+x.1.length) old;unfold Mo.lays;rcases hr:M.room (58+k.length+x.1.length) old with⟨_|r,N⟩<;>rw[hr]at I7
 ·exact I7.ev (Ev.over _ _ _)
 exact I7.ev (Ev.dE _ _ _ _)
theorem Oz.fC{M:Mo}(h:Oz R M)(c:fi):Oz R (M.fC c).2:=by
 unfold Mo.fC;split
 ·exact h.ev (Ev.xK _ _ c.keys ([],M))
 split
 ·have e:=h.ev (Ev.meet M (c.keys.headD []))
  unfold Mo.counts;rcases hm:M.meet (c.keys.headD [])with⟨_|p,N⟩<;>rw[hm]at e
  ·exact e
  try dsimp only at e⊢
  cases uG (N.it p).val with
  |none=>exact e
  |some n=>
   dsimp only;unfold Mo.r8;split
   ·exact e.of rfl rfl
   split
   ·exact e
   have I7:=e.room (58+(N.it p).key.length+(dH (pA c n)).length) (some p);rcases hr:N.room (58+(N.it p).key.length+(dH (pA c n)).length) (some p)with⟨_|r,R⟩<;>rw[hr]at I7
   ·exact I7
   refine Oz.ev (M:=R) I7 ?_;dsimp only;exact Ev.dE _ _ _ _
 split
 ·have e:=h.ev (Ev.meet M (c.keys.headD []))
  unfold Mo.hJ;rcases hm:M.meet (c.keys.headD [])with⟨_|p,N⟩<;>rw[hm]at e
  ·exact e
  exact Oz.of (M:=N) e rfl rfl
 split
 ·have e:=h.ev (Ev.meet M (c.keys.headD []))
  unfold Mo.delete;rcases hm:M.meet (c.keys.headD [])with⟨_|p,N⟩<;>rw[hm]at e
  ·exact e
  exact Oz.ev (M:=N) e (Ev.bw _ _)
 split
 ·exact h.of rfl rfl
 split
 ·exact h
 split
 ·exact h
 split
 ·exact h
 have e:=h.ev (Ev.meet M (c.keys.headD []));unfold Mo.dx Mo.jc;split
 ·exact e.ev (Ev.over _ _ _)
 split
 ·exact e
 split
 ·exact e
 exact e.lays _ _ _ _
theorem Oz.dO{M:Mo}(h:Oz R M)(hot warm:Nat)(c:fi):Oz R (M.dO hot warm c).2:=by
 have h0:Oz R M.reset:=h.of rfl rfl;unfold Mo.dO;split
 ·exact h0
 have h1:=h0.fC c;split
 ·exact h1.beside
 exact Oz.mw hot warm _ h1
end Go.Proofs.YtcbcjolpdljbiaaGreat
namespace Go.Proofs.YtcbcjolpdljbiaaGreat
open Go Go.dC Go.Proofs.YtcbcjolpdljbiaaGreat.Cs
def vH (n lo hi:Int):Int:=lo+(if n.tmod (hi-lo+1)<0 then n.tmod (hi-lo+1)+(hi-lo+1)else n.tmod (hi-lo+1))
theorem yB{n lo hi:Int}(h:lo<=hi):lo<=vH n lo hi/\vH n lo hi<=hi:=by
 unfold vH;have h1:=agI n (b:=hi-lo+1) (by omega);have h2: -(hi-lo+1)<n.tmod (hi-lo+1):=by
  have:=agI (-n) (b:=hi-lo+1) (by omega);rw[akZ]at this;omega
 split<;>omega
structure Tgt where
 bm:Int
 iG:Int
 eI:Int
 lim:Int
 hot:Int
 warm:Int
end Go.Proofs.YtcbcjolpdljbiaaGreat
