/- Part Po of the proof. -/
import Derived.Test.YtdolmecackmjdaaGreatDoorPl
import Derived.Test.YtdolmecackmjdaaGreatDoorPm
set_option maxRecDepth 100000
open List renaming mem_of_find?_eq_some → adA, find?_some → ahU, find?_eq_none → agZ, getD_eq_getElem?_getD → acy, getElem?_set → ac4, getElem?_eq_none → acK, mem_map → adi, length_map → acU, mem_of_mem_erase → agJ, mem_of_getElem? → acB, getElem?_eq_getElem → acx, length_set → acE, getElem_of_mem → acR, nodup_cons → acP, getLast?_eq_getElem? → agF, mem_of_getLast? → adu, mem_cons_self → acF, mem_cons_of_mem → acC, mem_filter → adf, filter_sublist → adz, map_map → ahJ, findIdx?_eq_some_iff_getElem → acV, map_cons → acM, foldl_cons → adm, findIdx?_eq_none_iff → agE, length_append → acI, replicate → acA, sum_cons → ac0, length_cons → ac7, length_singleton → adv
open Decidable renaming byContradiction → acH
open Nat renaming zero_le → acS, le_refl → acG, zero_mul → aiq, le_succ → ahz, succ_le_succ → adt, le_trans → agC, div_le_div_right → ahZ, le_of_lt → ahO, le_max_right → aht
open Int renaming tmod_lt_of_pos → ah8
namespace Go.Proofs.YtdolmecackmjdaaGreatDoor
open Go Go.dL Go.Proofs.YtdolmecackmjdaaGreatDoor.Cs
def I3.vw (n:I3):I3:={n with dB:=n.dB/2*2}
structure Pl (M:Mo):Prop where
 nd:∀i,(ql M.Q i).Nodup
 kd:∀p q,M.has p→M.has q→(M.it p).key=(M.it q).key→p=q
def Mo.vw (M:Mo)(p:Nat):I3×Nat:=((M.it p).vw,M.C.cl p)
def lP (k:Ck)(x:I3):Nat:=if 0<x.exp∧x.exp≤k.now then 2 else if x.tok≤k.cut then 3 else 0
theorem Cx (M:Mo)(p:Nat):M.bV p=lP M.k (M.it p):=rfl
theorem wE{M N:Mo}(hk:N.k=M.k){p q:Nat}(h:N.vw q=M.vw p):N.bV q=M.bV p:=by
 have h1:(N.it q).exp=(M.it p).exp:=congrArg (λx:I3×Nat=>x.1.exp) h;have h2:(N.it q).tok=(M.it p).tok:=congrArg (λx:I3×Nat=>x.1.tok) h;unfold Mo.bV;rw[h1,h2,hk]
theorem oV{M N:Mo}{p q:Nat}(h:N.vw q=M.vw p):(N.it q).key=(M.it p).key:=congrArg (λx:I3×Nat=>x.1.key) h
def Mo.lp (M:Mo)(k:List UInt8):Option (I3×Nat):=(M.live k).map M.vw
theorem bY.pl{B:Bx}{M:Mo}(O:bY B M):Pl M:=⟨O.o.nd,λ_ _ hp hq e=>O.kdM hp hq e⟩
theorem iR{M:Mo}(P:Pl M){k:List UInt8}{p:Nat}:M.find k=some p↔M.has p∧(M.it p).key=k:=by
 unfold Mo.find
 constructor
 ·intro h
  exact⟨fO.1 (adA h),by simpa using ahU h⟩
 rintro⟨hp,hk⟩;cases hf:M.Q.flatten.find? λp=>decide ((M.it p).key=k)with
 |none=>exact absurd (decide_eq_true hk) (agZ.1 hf p (fO.2 hp))
 |some q=>
  have h1:M.has q:=fO.1 (adA hf);have h2:(M.it q).key=k:=by simpa using ahU hf
  rw[P.kd q p h1 hp (h2.trans hk.symm)]
theorem mG{M:Mo}(P:Pl M){k:List UInt8}{i:I3×Nat}:M.lp k=some i↔∃p,M.has p∧(M.it p).key=k∧M.bV p=0∧M.vw p=i:=by
 unfold Mo.lp Mo.live
 constructor
 ·intro h
  cases hf:M.find k with
  |none=>rw[hf]at h;cases h
  |some p=>
   rw[hf]at h;obtain⟨h1,h2⟩:=(iR P).1 hf;by_cases hw:M.bV p=0
   ·simp only[hw,if_true,Option.map_some,Option.some.injEq]at h
    exact⟨p,h1,h2,hw,h⟩
   simp only[hw,if_false]at h;cases h
 rintro⟨p,h1,h2,hw,rfl⟩;rw[(iR P).2 ⟨h1,h2⟩];simp[hw]
structure kC (M N:Mo):Prop where
 p:Pl N
 k:N.k=M.k
 d:∀q,N.has q→∃p,M.has p∧N.vw q=M.vw p
 u:∀p,M.has p→M.bV p=0→∃q,N.has q∧N.vw q=M.vw p
 z:N.C.af=M.C.af
theorem kC.s{M N:Mo}(S:kC M N)(P:Pl M)(k:List UInt8):N.lp k=M.lp k:=by
 refine Option.ext λi=> ?_;rw[mG S.p,mG P]
 constructor
 ·rintro⟨q,a,b,c,d⟩
  obtain⟨p,e,f⟩:=S.d q a;exact⟨p,e,(oV f).symm.trans b,(wE S.k f).symm.trans c,f.symm.trans d⟩
 rintro⟨p,a,b,c,d⟩;obtain⟨q,e,f⟩:=S.u p a c;exact⟨q,e,(oV f).trans b,(wE S.k f).trans c,f.trans d⟩
theorem kC.refl{M:Mo}(P:Pl M):kC M M:=⟨P,rfl,λq h=>⟨q,h,rfl⟩,λq h _=>⟨q,h,rfl⟩,rfl⟩
theorem kC.trans{M N O:Mo}(a:kC M N)(b:kC N O):kC M O:=by
 refine⟨b.p,b.k.trans a.k,λq h=> ?_,λp h w=> ?_,b.z.trans a.z⟩
 ·obtain⟨r,h1,e1⟩:=b.d q h
  obtain⟨p,h2,e2⟩:=a.d r h1;exact⟨p,h2,e1.trans e2⟩
 obtain⟨r,h1,e1⟩:=a.u p h w;obtain⟨q,h2,e2⟩:=b.u r h1 ((wE a.k e1).trans w);exact⟨q,h2,e2.trans e1⟩
theorem j9{M:Mo}(P:Pl M){p q:Nat}:(∃i,q∈ql (gS M.Q p) i)↔M.has q∧q≠p:=by
 constructor
 ·rintro⟨i,hi⟩
  rw[iL,(P.nd i).mem_erase_iff]at hi;exact⟨⟨i,hi.2⟩,hi.1⟩
 rintro⟨⟨i,hi⟩,h⟩;exact⟨i,by rw[iL,(P.nd i).mem_erase_iff];exact⟨h,hi⟩⟩
theorem Od{M N:Mo}(P:Pl M){p:Nat}(hQ:N.Q=gS M.Q p)(hi:N.it=M.it):Pl N:=by
 refine⟨λi=> ?_,λa b ha hb e=> ?_⟩
 ·rw[hQ,iL];exact(P.nd i).erase p
 unfold Mo.has at ha hb;rw[hQ]at ha hb;rw[hi]at e;exact P.kd a b ((j9 P).1 ha).1 ((j9 P).1 hb).1 e
theorem ab6 (C:Cs){i c sp:Nat}{x:Pg}{r:Rw}{A:By}(h:x.cl=(C.pg i).cl)(q:Nat):(C.put i x c r sp A).cl q=C.cl q:=by
 unfold Cs.cl Cs.pn;show((C.put i x c r sp A).pg (q/C.aq)).cl=_;unfold Cs.pg Cs.put;dsimp only;rw[acy,ac4,acy]
 split
 ·next e=>
  split
  ·rw[←e]
   show x.cl=_;rw[h];unfold Cs.pg;rw[acy]
  next g=>rw[←e,acK (by omega)]
 rfl
theorem rV (C:Cs)(p q:Nat):(C.bz p).cl q=C.cl q:=by
 unfold Cs.bz;refine ab6 C ?_ q;rfl
theorem zT{M:Mo}(P:Pl M){p:Nat}(hd:M.bV p≠0):kC M (M.cD p):=by
 have e:∀q,(M.cD p).vw q=M.vw q:=λq=>congrArg (Prod.mk _) (rV M.C p q);exact⟨Od P rfl rfl,rfl,λq h=>⟨q,((j9 P).1 h).1,e q⟩,λq h w=>⟨q,(j9 P).2 ⟨h,λg=>hd (g▸w)⟩,e q⟩,rfl⟩
theorem tK{M:Mo}(P:Pl M)(p:Nat):kC M (M.look p):=by
 unfold Mo.look
 split
 ·next h=>exact zT P h
 exact .refl P
theorem eI{M N:Mo}(P:Pl M)(hQ:N.Q=M.Q)(hi:N.it=M.it)(hk:N.k=M.k)(hc:∀p,M.has p→N.C.cl p=M.C.cl p:=by exact λ_ _=>rfl)(hz:N.C.af=M.C.af:=by exact rfl):kC M N:=by
 have hh:∀p,N.has p↔M.has p:=λp=>by unfold Mo.has;rw[hQ]
 have e:∀q,M.has q→N.vw q=M.vw q:=λq h=>by unfold Mo.vw;rw[hi,hc q h]
 exact⟨⟨λi=>by rw[hQ];exact P.nd i,λa b ha hb e=>by rw[hi]at e;exact P.kd a b ((hh a).1 ha) ((hh b).1 hb) e⟩,hk,λq h=>⟨q,(hh q).1 h,e q ((hh q).1 h)⟩,λq h _=>⟨q,(hh q).2 h,e q h⟩,hz⟩
theorem rj:∀(l:List Nat) {M:Mo},Pl M→kC M (l.foldl Mo.look M)
 | [],_,P=> .refl P
 |p::l,M,P=>(tK P p).trans (rj l (tK P p).p)
theorem uE:∀(f:Nat) {M:Mo},Pl M→kC M (M.ct f).2
 |0,_,P=> .refl P
 |f+1,M,P=>by
  unfold Mo.ct
  split
  ·next x h=>
   split
   ·next p hp=>
    have a:kC M {M with x:=x.pass M.Q}:=eI P rfl rfl rfl;have b:=tK a.p p;exact(a.trans b).trans (uE f b.p)
   exact eI P rfl rfl rfl
  exact eI P rfl rfl rfl
theorem Gy{M:Mo}(P:Pl M)(now aF:Int):kC M (M.cP now aF).2:=by
 unfold Mo.cP
 split
 ·exact .refl P
 unfold Mo.qW;exact(rj _ P).trans (uE _ (rj _ P).p)
theorem Ie{M:Mo}{p r:Nat}(hp:M.has p){q:Nat}:(∃i,q∈ql (Ae M.Q p r) i)↔q=r∨(M.has q∧q≠p):=by
 constructor
 ·rintro⟨i,hi⟩
  rw[qP,adi]at hi;obtain⟨a,ha,e⟩:=hi;unfold T9 at e
  split at e
  ·exact .inl e.symm
  next h=>subst e;exact .inr ⟨⟨i,ha⟩,h⟩
 rintro(rfl|⟨⟨i,hi⟩,h⟩)
 ·obtain⟨i,hi⟩:=hp
  exact⟨i,by rw[qP,adi];exact⟨p,hi,by unfold T9;rw[if_pos rfl]⟩⟩
 exact⟨i,by rw[qP,adi];exact⟨q,hi,by unfold T9;rw[if_neg h]⟩⟩
theorem Jv{M:Mo}(P:Pl M){p r:Nat}(hp:M.has p)(hr:¬M.has r)(fb:M.C.cl r=M.C.cl p):kC M (M.swap p r):=by
 have ne:p≠r:=λe=>hr (e▸hp);have ir:(M.swap p r).it r=M.it p:=if_pos rfl;have io:∀q,q≠r→(M.swap p r).it q=M.it q:=λq h=>if_neg h;have vr:(M.swap p r).vw r=M.vw p:=by unfold Mo.vw;rw[ir];exact congrArg (Prod.mk _) fb
 have vo:∀q,q≠r→(M.swap p r).vw q=M.vw q:=λq h=>by unfold Mo.vw;rw[io q h];rfl
 have hs:∀q,(M.swap p r).has q↔q=r∨(M.has q∧q≠p):=λq=>Ie hp;have nr:∀q,M.has q→q≠r:=λq h e=>hr (e▸h);refine⟨⟨λi=> ?_,λa b ha hb e=> ?_⟩,rfl,λq hq=> ?_,λq hq hw=> ?_,rfl⟩
 ·show(ql (Ae M.Q p r) i).Nodup
  rw[qP];unfold List.Nodup;rw[List.pairwise_map];refine List.Pairwise.imp_of_mem (λ{x y} hx hy h e=>h ?_) (P.nd i);have TJ:=nr x ⟨i,hx⟩;have IT:=nr y ⟨i,hy⟩;unfold T9 at e
  split at e<;>split at e
  ·next h1 h2=>rw[h1,h2]
  ·exact absurd e.symm IT
  ·exact absurd e TJ
  exact e
 ·rcases(hs a).1 ha with rfl|⟨a1,a2⟩<;>rcases(hs b).1 hb with rfl|⟨b1,b2⟩
  ·rfl
  ·rw[ir,io b (nr b b1)]at e
   exact absurd (P.kd p b hp b1 e).symm b2
  ·rw[ir,io a (nr a a1)]at e
   exact absurd (P.kd a p a1 hp e) a2
  rw[io a (nr a a1),io b (nr b b1)]at e;exact P.kd a b a1 b1 e
 ·rcases(hs q).1 hq with rfl|⟨a1,a2⟩
  ·exact⟨p,hp,vr⟩
  exact⟨q,a1,vo q (nr q a1)⟩
 by_cases e:q=p
 ·subst e;exact⟨r,(hs r).2 (.inl rfl),vr⟩
 exact⟨q,(hs q).2 (.inr ⟨hq,e⟩),vo q (nr q hq)⟩
structure Qp (n:Nat)(Q:List (List Nat)):Prop where
 len:Q.length=n*3
 nd:∀i,(ql Q i).Nodup
 one:∀i j p,p∈ql Q i→p∈ql Q j→i=j
theorem Qp.rem{n:Nat}{Q:List (List Nat)}(K:Qp n Q)(p:Nat):Qp n (gS Q p):=by
 refine⟨by unfold gS;rw[acU];exact K.len,λi=>by rw[iL];exact(K.nd i).erase p,λi j q h g=> ?_⟩;rw[iL]at h g;exact K.one i j q (agJ h) (agJ g)
theorem Qp.aaj{n:Nat}{Q:List (List Nat)}(K:Qp n Q){i k p:Nat}(h:(ql Q i)[k]?=some p):Q.set i ((ql Q i).eraseIdx k)=gS Q p:=by
 have hp:p∈ql Q i:=acB h;have hi:i<Q.length:=by
  refine acH λg=> ?_;unfold ql at hp;rw[acy,acK (by omega)]at hp;cases hp
 apply List.ext_getElem?;intro j;by_cases hj:j<Q.length
 ·have e1:Q[j]?=some (ql Q j):=by
   unfold ql;rw[acy,acx hj];rfl
  unfold gS;rw[List.getElem?_map,e1,Option.map_some,ac4];by_cases e:i=j
  ·subst e
   rw[if_pos rfl,if_pos hi,Fw (K.nd i) h]
  rw[if_neg e,e1]
  congr 1
  exact(List.erase_of_not_mem λg=>e (K.one i j p hp g)).symm
 rw[acK (by rw[acE];omega),acK (by unfold gS;rw[acU];omega)]
structure Mi (M:Mo):Prop where
 k:Ok M.C
 p:Pl M
 q:Qp M.iW M.Q
 x:cZ M.iW M.Q M.x
 lv:∀p,Live M.C p↔M.has p∨M.hole=some p
 ho:∀p,M.hole=some p→¬M.has p
 on:M.m.on=true→M.m.pg<M.C.n∧(M.C.pg M.m.pg).own=true∧(M.C.pg M.m.pg).lv=true∧(M.C.pg M.m.pg).cl=M.m.fr
 go:∀i,(M.C.pg i).lv=true→M.m.on=true∧i=M.m.pg
theorem bY.mi{B:Bx}{M:Mo}(O:bY B M):Mi M:=by
 refine⟨O.mc0,O.pl,⟨?_,O.o.nd,λ_ _ _ h g=>GZ O.o h g⟩, ?_,λp=> ?_,λp h g=>O.ho p h ((O.al p).2 g),O.TF.on,λi hi=>O.go i ?_⟩
 ·have:=O.o.len
  rw[O.iW]at this;exact this
 ·have:=O.x
  rw[O.iW]at this;exact this
 ·have h:=O.lv p
  rw[O.al p,O.c]at h;refine Iff.trans ⟨λL=> ?_,λL=> ?_⟩ h
  ·exact L.wA _
  exact⟨⟨L.i,L.own,L.al,L.k⟩,L.tk⟩
 rw[O.c];exact hi
theorem Mi.co{M:Mo}(K:Mi M):qg M:=⟨K.k,K.p.nd,λp hp=>(K.lv p).2 (.inl hp),K.on⟩
theorem Mi.cD{M:Mo}(K:Mi M){p:Nat}(hp:M.has p):Mi (M.cD p):=by
 have L:=(K.lv p).2 (.inl hp);have g:=rU K.k L;have hh:∀q,(M.cD p).has q↔M.has q∧q≠p:=λq=>j9 K.p;refine⟨(gX K.k L).1,Od K.p rfl rfl, ?_, ?_,λq=> ?_,λq h h2=>K.ho q h ((hh q).1 h2).1,λh=> ?_,λi hi=>K.go i ?_⟩
 ·show Qp (M.C.bz p).af.length (gS M.Q p)
  rw[(gX K.k L).2.af];exact K.q.rem p
 ·show cZ (M.C.bz p).af.length (gS M.Q p) (M.x.left M.Q p)
  rw[(gX K.k L).2.af];obtain⟨i,hi⟩:=hp;obtain⟨j,hj,e⟩:=acR hi;have hk:(ql M.Q i)[j]?=some p:=by rw[acx hj,e]
  have hil:i<M.Q.length:=by
   refine acH λg=> ?_;unfold ql at hi;rw[acy,acK (by omega)]at hi;cases hi
  rw[←K.q.aaj hk];exact Ba K.x K.q.nd hil hk
 ·refine(pS K.k L q).trans ?_
  rw[K.lv q,hh q]
  constructor
  ·rintro⟨a|a,b⟩
   ·exact .inl ⟨a,b⟩
   exact .inr a
  rintro(⟨a,b⟩|a)
  ·exact⟨.inl a,b⟩
  exact⟨.inr a,λe=>K.ho q a (e▸hp)⟩
 ·obtain⟨a,b,c,d⟩:=K.on h
  obtain⟨e1,e2,e3⟩:=g M.m.pg;have en:(M.C.bz p).n=M.C.n:=(gX K.k L).2.n;exact⟨by show _<(M.C.bz p).n;rw[en];exact a,e1.trans b,e2.trans c,e3.trans d⟩
 rw[←(g i).2.1];exact hi
theorem Mi.rf{M N:Mo}(K:Mi M)(hx:cZ M.iW M.Q N.x)(hC:N.C=M.C)(hQ:N.Q=M.Q)(hi:N.it=M.it)(hh:N.hole=M.hole)(hk:N.k=M.k)(on:N.m.on=M.m.on)(pg:N.m.pg=M.m.pg)(fr:N.m.fr=M.m.fr):Mi N:=by
 have e:∀p,N.has p↔M.has p:=λp=>by unfold Mo.has;rw[hQ]
 refine⟨by rw[hC];exact K.k,(eI K.p hQ hi hk (by rw[hC];exact λ_ _=>rfl) (by rw[hC])).p,by unfold Mo.iW;rw[hC,hQ];exact K.q,by unfold Mo.iW;rw[hC,hQ];exact hx,λp=>by rw[hC,hh,e];exact K.lv p,λp h=>by rw[hh]at h;rw[e];exact K.ho p h,by rw[on,pg,fr,hC];exact K.on,by rw[on,pg,hC];exact K.go⟩
theorem Mi.look{M:Mo}(K:Mi M){p:Nat}(hp:M.has p):Mi (M.look p):=by
 unfold Mo.look
 split
 ·exact K.cD hp
 exact K
theorem Qp.mv{n:Nat}{Q:List (List Nat)}(K:Qp n Q){i j k p:Nat}(hi:i<Q.length)(hj:j<Q.length)(hk:(ql Q i)[k]?=some p):Qp n (vL Q i k j p)∧∀q,(∃m,q∈ql (vL Q i k j p) m)↔∃m,q∈ql Q m:=by
 have hp:p∈ql Q i:=acB hk;obtain⟨R,hR⟩:∃R,R=Q.set i ((ql Q i).eraseIdx k):=⟨_,rfl⟩;have lR:R.length=Q.length:=by rw[hR,acE]
 have er:=Fw (K.nd i) hk;have qR:∀m,ql R m=if m=i then(ql Q i).erase p else ql Q m:=λm=>by rw[hR,fG hi,er]
 have noR:∀m,p∉ql R m:=λm h=>by
  rw[qR]at h
  split at h
  ·exact(K.nd i).not_mem_erase h
  next e=>exact e (K.one m i p h hp)
 have inR:∀m q,q∈ql R m↔q∈ql Q m∧q≠p:=λm q=>by
  rw[qR]
  split
  ·next e=>subst e;rw[(K.nd m).mem_erase_iff,and_comm]
  next e=>exact⟨λh=>⟨h,λg=>e (K.one m i p (g▸h) hp)⟩,λh=>h.1⟩
 have ndR:∀m,(ql R m).Nodup:=λm=>by
  rw[qR]
  split
  ·exact(K.nd i).erase p
  exact K.nd m
 have e:vL Q i k j p=R.set j (p::ql R j):=by unfold vL;rw[hR]
 have qV:∀m,ql (vL Q i k j p) m=if m=j then p::ql R j else ql R m:=λm=>by rw[e,fG (by rw[lR];exact hj)]
 have BB:∀m q,q∈ql (vL Q i k j p) m↔(q=p∧m=j)∨(q∈ql Q m∧q≠p):=λm q=>by
  rw[qV]
  split
  ·next g=>subst g;rw[List.mem_cons,inR];exact⟨λh=>h.imp (λh=>⟨h,rfl⟩) id,λh=>h.imp (λh=>h.1) id⟩
  next g=>rw[inR];exact⟨.inr,λh=>h.resolve_left λh=>g h.2⟩
 refine⟨⟨by rw[e,acE,lR];exact K.len,λm=> ?_,λa b q ha hb=> ?_⟩,λq=>⟨?_, ?_⟩⟩
 ·rw[qV]
  split
  ·exact acP.2 ⟨noR j,ndR j⟩
  exact ndR m
 ·rcases(BB a q).1 ha with⟨h1,h2⟩|⟨h1,h2⟩<;>rcases(BB b q).1 hb with⟨h3,h4⟩|⟨h3,h4⟩
  ·rw[h2,h4]
  ·exact absurd h1 h4
  ·exact absurd h3 h2
  exact K.one a b q h1 h3
 ·rintro⟨m,h⟩
  rcases(BB m q).1 h with⟨h1,_⟩|⟨h1,_⟩
  ·exact⟨i,h1▸hp⟩
  exact⟨m,h1⟩
 rintro⟨m,h⟩;by_cases g:q=p
 ·exact⟨j,(BB j q).2 (.inl ⟨g,rfl⟩)⟩
 exact⟨m,(BB m q).2 (.inr ⟨h,g⟩)⟩
theorem CG{n c hot warm:Nat}{s t:my}(hc:c<n)(K:Qp n s.Q)(h:qj c hot warm s=some t):Qp n t.Q∧∀q,(∃m,q∈ql t.Q m)↔∃m,q∈ql s.Q m:=by
 unfold qj at h
 split at h
 ·cases h
 next k hk=>
 have hk3:1≤k∧k≤3:=by
  unfold EI at hk
  repeat' split at hk
  all_goals first|cases hk|(simp only[Option.some.injEq]at hk;omega)
  all_goals omega
 split at h
 ·cases h
 next p hp=>
 simp only[Option.some.injEq]at h;subst h;have hl:=K.len;refine K.mv (by unfold qi;omega) (by unfold qi;split<;>omega) ?_;rw[←agF];exact hp
theorem IL{n c hot warm:Nat}(hc:c<n):∀(k:Nat) {s:my},Qp n s.Q→Qp n (kB c hot warm k s).2.Q∧∀q,(∃m,q∈ql (kB c hot warm k s).2.Q m)↔∃m,q∈ql s.Q m
 |0,_,K=>⟨K,λ_=>Iff.rfl⟩
 |k+1,s,K=>by
  unfold kB
  split
  ·exact⟨K,λ_=>Iff.rfl⟩
  next t ht=>
  obtain⟨K2,e⟩:=CG hc K ht;obtain⟨K3,e3⟩:=IL hc k K2;exact⟨K3,λq=>(e3 q).trans (e q)⟩
theorem XF (n:I3)(b:Bool):({n with dB:=mkSet n.dB b}:I3).vw=n.vw:=by
 unfold I3.vw mkSet
 congr 1
 cases b<;>simp<;>omega
theorem J1{M:Mo}(P:Pl M){t:my}(nd:∀i,(ql t.Q i).Nodup)(mem:∀q,(∃m,q∈ql t.Q m)↔M.has q):kC M (M.Ag t):=by
 have e:∀q,(M.Ag t).vw q=M.vw q:=λq=>congrArg (λx=>(x,M.C.cl q)) (XF (M.it q) (t.ac q));exact⟨⟨nd,λa b ha hb e=>P.kd a b ((mem a).1 ha) ((mem b).1 hb) e⟩,rfl,λa h=>⟨a,(mem a).1 h,e a⟩,λa h _=>⟨a,(mem a).2 h,e a⟩,rfl⟩
theorem Mi.ln{M:Mo}(K:Mi M)(i:Nat):(ql M.Q i).length≤1073741824:=
 mS _ _ (K.q.nd i) λp hp=>by
  have h:=((K.lv p).2 (.inl ⟨i,hp⟩)).toAt.bo K.k;have:=gh K.k.toFix;omega
theorem Bn{n:Nat}{Q:List (List Nat)}(ln:∀i,(ql Q i).length≤1073741824){x:Cw}{c k:Nat}(hc:c<n)(hk:1≤k∧k≤3):cZ n Q (x.jS Q c k):=
 ⟨λ_=>⟨hc,hk⟩,(λh=>by cases h),(λ_ hp=>⟨adu hp,List.length_pos_of_mem (adu hp)⟩),ln _⟩
theorem Az{n:Nat}{Q:List (List Nat)}(ln:∀i,(ql Q i).length≤1073741824):∀(f:Nat) {x:Cw},cZ n Q x→x.bg=true→cZ n Q (Cw.MC n Q f x).2
 |0,_,X,_=>X
 |f+1,x,X,hb=>by
  obtain⟨g1,g2,g3⟩:=X.go hb;unfold Cw.MC
  split
  ·exact X
  split
  ·exact Az ln f (Bn ln g1 ⟨by omega,by omega⟩) rfl
  split
  ·next h=>exact Az ln f (Bn ln h ⟨by omega,by omega⟩) rfl
  exact⟨(λh=>by cases h),λ_=>⟨rfl,rfl,rfl,rfl⟩,(λp h=>by cases h),acS _⟩
theorem WS{n:Nat}{Q:List (List Nat)}(hn:1≤n)(ln:∀i,(ql Q i).length≤1073741824){x:Cw}(X:cZ n Q x):cZ n Q (x.find n Q).2:=by
 unfold Cw.find Cw.start;cases hb:x.bg with
 |true=>simp only[if_true];exact Az ln _ X hb
 |false=>
  simp only[Bool.false_eq_true,if_false];exact Az ln _ (Bn ln (by omega) ⟨by omega,by omega⟩) rfl
theorem Mi.cw{M:Mo}(K:Mi M){x:Cw}(X:cZ M.iW M.Q x):Mi {M with x:=x}:=K.rf X rfl rfl rfl rfl rfl rfl rfl rfl
theorem Mi.n1{M:Mo}(K:Mi M):1≤M.iW:=K.k.l0
theorem Mi.ct:∀(f:Nat) {M:Mo},Mi M→Mi (M.ct f).2
 |0,_,K=>K
 |f+1,M,K=>by
  have X:=WS K.n1 K.ln K.x;unfold Mo.ct
  split
  ·next x h=>
   rw[h]at X
   split
   ·next p hp=>
    have hm:=(X.nx p hp).1;exact Mi.ct f ((K.cw X.pass).look ⟨_,hm⟩)
   exact K.cw X
  next x h=>
  rw[h]at X;exact K.cw X
theorem Mi.looks:∀(l:List Nat) {M:Mo},Mi M→l.Nodup→(∀p∈l,M.has p)→Mi (l.foldl Mo.look M)
 | [],_,K,_,_=>K
 |p::l,M,K,nd,h=>by
  obtain⟨n1,n2⟩:=acP.1 nd;refine Mi.looks l (K.look (h p acF)) n2 λq hq=> ?_;have hM:=h q (acC _ hq);unfold Mo.look
  split
  ·exact(j9 K.p).2 ⟨hM,λe=>n1 (e▸hq)⟩
  exact hM
theorem VF{C:Cs}(K:Ok C){p:Nat}(L:At C p):rE (C.hd p)=p:=by
 obtain⟨m1,m2,m3,m4,m5,m6⟩:=cB K L;unfold rE;generalize C.hd p=h at*;omega
theorem Mi.due{M:Mo}(K:Mi M)(now aF:Int):(M.jR now aF).Nodup∧∀p∈M.jR now aF,M.has p:=by
 obtain⟨L,hL⟩:∃L,L=M.Q.flatten.filter λp=>decide (0<(M.it p).exp):=⟨_,rfl⟩;have hh:∀p∈L,M.has p:=λp hp=>by rw[hL]at hp;exact fO.1 (adf.1 hp).1
 have nd:L.Nodup:=by rw[hL];exact(vx K.q.nd λi j p h g=>K.q.one i j p h g).sublist adz
 have eE:iU M.C M M.Q.flatten=L.map λp=>⟨M.C.hd p,(M.it p).exp,M.ord p⟩:=by rw[hL];rfl
 have eg:(iU M.C M M.Q.flatten).map (λe=>rE e.h)=L:=by
  rw[eE,ahJ]
  conv=>rhs;rw[←List.map_id L]
  refine List.map_congr_left λp hp=> ?_;have:=VF K.k ((K.lv p).2 (.inl (hh p hp))).toAt;rw[Function.comp_apply,id];exact this
 have e:M.jR now aF=((gE ((iU M.C M M.Q.flatten).filter λx=>decide ((x.ex:Int)≤now))).take aF.toNat).map λe=>rE e.h:=by
  unfold Mo.jR oG;rw[ahJ];rfl
 have sub:((iU M.C M M.Q.flatten).filter λx=>decide ((x.ex:Int)≤now)).map (λe=>rE e.h) |>.Sublist L:=by
  have:=(adz (p:=λx:En=>decide ((x.ex:Int)≤now)) (l:=iU M.C M M.Q.flatten)).map (λe=>rE e.h);rw[eg]at this;exact this
 have pm:=(gq ((iU M.C M M.Q.flatten).filter λx=>decide ((x.ex:Int)≤now))).map (λe=>rE e.h);have n2:=pm.nodup_iff.2 (nd.sublist sub);have tk:=(List.take_sublist aF.toNat (gE ((iU M.C M M.Q.flatten).filter λx=>decide ((x.ex:Int)≤now)))).map (λe=>rE e.h);rw[e];exact⟨n2.sublist tk,λp hp=>hh p (sub.subset (pm.mem_iff.1 (tk.subset hp)))⟩
theorem Mi.cP{M:Mo}(K:Mi M)(now aF:Int):Mi (M.cP now aF).2:=by
 unfold Mo.cP
 split
 ·exact K
 unfold Mo.qW;obtain⟨d1,d2⟩:=K.due now (min aF 1048576);exact Mi.ct _ (K.looks _ d1 d2)
structure nc (M N:Mo):Prop where
 i:Mi N
 s:kC M N
theorem nc.trans{M N O:Mo}(a:nc M N)(b:nc N O):nc M O:=⟨b.i,a.s.trans b.s⟩
theorem Mi.uj{M:Mo}(K:Mi M)(t:Mt):nc M (M.bj t):=⟨K.rf K.x rfl rfl rfl rfl rfl rfl rfl rfl,eI K.p rfl rfl rfl⟩
theorem Mi.X9{M:Mo}(K:Mi M)(k:Nat):nc M (M.yK k):=⟨K.rf K.x rfl rfl rfl rfl rfl rfl rfl rfl,eI K.p rfl rfl rfl⟩
theorem Mi.xh{M:Mo}(K:Mi M)(now aF:Int):nc M (M.cP now aF).2:=⟨K.cP now aF,Gy K.p now aF⟩
theorem Mi.fe{M:Mo}(K:Mi M):nc M M.fe:=by
 unfold Mo.fe;exact(K.X9 _).trans ((K.X9 _).i.uj _)
theorem Mi.jf{M:Mo}(K:Mi M):nc M M.jf:=by
 unfold Mo.jf;exact(K.xh _ _).trans ((K.xh _ _).i.uj _)
theorem Mi.take{M N:Mo}(K:Mi M)(hh:M.hole=none){c r:Nat}(hc:c<M.iW)(h:M.take c=some (r,N)):nc M N∧N.hole=some r∧¬M.has r∧N={M with C:=N.C,hole:=some r}∧N.C.cl r=c∧N.C.af=M.C.af∧∀q,M.has q→N.C.cl q=M.C.cl q:=by
 unfold Mo.take at h
 split at h
 ·next p D hD=>
  simp only[Option.some.injEq,Prod.mk.injEq]at h;obtain⟨rfl,rfl⟩:=h;have T:=tx K.k hc hD;have no:¬M.has p:=λg=>T.no ((K.lv p).2 (.inl g));have hq:∀q,M.has q→D.cl q=M.C.cl q:=λq g=>(T.hd q ((K.lv q).2 (.inl g))).2;have S:kC M ({M with C:=D,hole:=some p}:Mo):=eI K.p rfl rfl rfl hq T.sz;refine⟨⟨⟨T.k,S.p, ?_, ?_,λq=> ?_,λq g=> ?_,λg=> ?_,λi g=> ?_⟩,S⟩,rfl,no,rfl,T.cl,T.sz,hq⟩
  ·show Qp D.af.length M.Q
   rw[T.sz];exact K.q
  ·show cZ D.af.length M.Q M.x
   rw[T.sz];exact K.x
  ·refine(T.lv q).trans ?_
   rw[K.lv q,hh];show(M.has q∨none=some q)∨q=p↔M.has q∨some p=some q;simp only[reduceCtorEq,or_false,Option.some.injEq];exact⟨λh=>h.imp id Eq.symm,λh=>h.imp id Eq.symm⟩
  ·cases g;exact no
  ·obtain⟨a,b,d,e⟩:=K.on g
   obtain⟨p1,p2⟩:=T.pg M.m.pg b;exact⟨by show _<D.n;rw[T.n];exact a,p1,(T.lf M.m.pg).trans d,p2.trans e⟩
  refine K.go i ?_;rw[←T.lf i];exact g
 cases h
theorem Rj{n:Nat}{Q:List (List Nat)}{x:Cw}(X:cZ n Q x)(p r:Nat):cZ n (Ae Q p r) (x.yM p r):=by
 by_cases g:x.nx=some p
 ·have e:x.yM p r={x with nx:=some r}:=by unfold Cw.yM;rw[if_pos g]
  rw[e];obtain⟨h1,h2⟩:=X.nx p g;refine⟨X.go,λh=> ?_,λq hq=> ?_,X.lf⟩
  ·rw[(X.no h).1]at g;cases g
  simp only[Option.some.injEq]at hq;subst hq;exact⟨by rw[qP,adi];exact⟨p,h1,by unfold T9;rw[if_pos rfl]⟩,h2⟩
 have e:x.yM p r=x:=by unfold Cw.yM;rw[if_neg g]
 rw[e];refine⟨X.go,X.no,λq hq=> ?_,X.lf⟩;obtain⟨h1,h2⟩:=X.nx q hq;exact⟨by rw[qP,adi];exact⟨q,h1,by unfold T9;exact if_neg λe:q=p=>g (e▸hq)⟩,h2⟩
theorem Qp.sub{n:Nat}{Q:List (List Nat)}(K:Qp n Q){p r:Nat}(nd:∀i,(ql (Ae Q p r) i).Nodup)(hr:∀i,r∉ql Q i):Qp n (Ae Q p r):=by
 refine⟨by unfold Ae;rw[acU];exact K.len,nd,λi j q h g=> ?_⟩;rw[qP,adi]at h g;obtain⟨a,ha,ea⟩:=h;obtain⟨b,hb,eb⟩:=g;unfold T9 at ea eb
 split at ea<;>split at eb
 ·next h1 h2=>subst h1;subst h2;exact K.one i j _ ha hb
 ·exact absurd (by rw[ea,←eb];exact hb) (hr j)
 ·exact absurd (by rw[eb,←ea];exact ha) (hr i)
 subst ea;subst eb;exact K.one i j _ ha hb
theorem Mi.swap{M:Mo}(K:Mi M){p r:Nat}(hh:M.hole=some r)(hp:M.has p)(fb:M.C.cl r=M.C.cl p):nc M (M.swap p r)∧(M.swap p r).hole=some p:=by
 have hr:¬M.has r:=K.ho r hh;have S:=Jv K.p hp hr fb;have hs:∀q,(M.swap p r).has q↔q=r∨(M.has q∧q≠p):=λq=>Ie hp;refine⟨⟨⟨K.k,S.p,K.q.sub S.p.nd λi h=>hr ⟨i,h⟩,Rj K.x p r,λq=> ?_,λq g=> ?_,K.on,K.go⟩,S⟩,rfl⟩
 ·refine(K.lv q).trans ?_
  rw[hs q,hh];show M.has q∨some r=some q↔(q=r∨M.has q∧q≠p)∨some p=some q;simp only[Option.some.injEq]
  constructor
  ·rintro(h|h)
   ·by_cases e:q=p
    ·exact .inr e.symm
    exact .inl (.inr ⟨h,e⟩)
   exact .inl (.inl h.symm)
  rintro((h|h)|h)
  ·exact .inr h.symm
  ·exact .inl h.1
  exact .inl (h▸hp)
 cases g;intro h;rcases(hs p).1 h with h|h
 ·exact hr (h▸hp)
 exact h.2 rfl
theorem Mi.yO{M:Mo}(K:Mi M){p:Nat}(hh:M.hole=some p):nc M (M.yO p)∧(M.yO p).hole=none:=by
 have L:=(K.lv p).2 (.inr hh);have no:=K.ho p hh;have g:=rU K.k L;have G:=gX K.k L;have S:kC M (M.yO p):=eI K.p rfl rfl rfl λq _=>rV M.C p q;refine⟨⟨⟨G.1,S.p, ?_, ?_,λq=> ?_,(λq h=>by cases h),λh=> ?_,λi hi=>K.go i ?_⟩,S⟩,rfl⟩
 ·show Qp (M.C.bz p).af.length M.Q
  rw[G.2.af];exact K.q
 ·show cZ (M.C.bz p).af.length M.Q M.x
  rw[G.2.af];exact K.x
 ·refine(pS K.k L q).trans ?_
  rw[K.lv q,hh];show(M.has q∨some p=some q)∧q≠p↔M.has q∨none=some q;simp only[Option.some.injEq,reduceCtorEq,or_false];exact⟨λh=>h.1.resolve_right λe=>h.2 e.symm,λh=>⟨.inl h,λe=>no (e▸h)⟩⟩
 ·obtain⟨a,b,c,d⟩:=K.on h
  obtain⟨e1,e2,e3⟩:=g M.m.pg;exact⟨by show _<(M.C.bz p).n;rw[G.2.n];exact a,e1.trans b,e2.trans c,e3.trans d⟩
 rw[←(g i).2.1];exact hi
theorem Mi.shift{M N:Mo}(K:Mi M)(hh:M.hole=none){p:Nat}(hp:M.has p)(h:M.shift p=some N):nc M N∧N.hole=none:=by
 have hc:M.C.cl p<M.iW:=(((K.lv p).2 (.inl hp)).toAt.bo K.k).1;unfold Mo.shift at h
 split at h
 ·next r O hO=>
  simp only[Option.some.injEq]at h;subst h;obtain⟨A,h1,h2,h3,h6,_,h7⟩:=K.take hh hc hO;have eK:O.has p:=by rw[h3];exact hp
  obtain⟨B,h4⟩:=A.i.swap h1 eK (h6.trans (h7 p hp).symm);obtain⟨D,h5⟩:=B.i.yO h4;exact⟨(A.trans B).trans D,h5⟩
 cases h
theorem Mi.Bg{M:Mo}(K:Mi M){p:Nat}(hp:M.has p)(hd:M.bV p≠0):nc M (M.cD p):=⟨K.cD hp,zT K.p hd⟩
theorem Mi.mstop{M:Mo}(K:Mi M)(qA:M.m.on=true):nc M M.mstop∧M.mstop.hole=M.hole:=by
 obtain⟨a,b,c,d⟩:=K.on qA;obtain⟨K2,S⟩:=wZ K.k a b c;have jv:=AR K.k a;have sm:=vj S λj=>by
  rw[jv];by_cases e:j=M.m.pg
  ·exact⟨false,by rw[if_pos e,e]⟩
  exact⟨(M.C.pg j).lv,by rw[if_neg e]⟩
 have sa:kC M M.mstop:=eI K.p rfl rfl rfl λq _=>S.cl q;refine⟨⟨⟨K2,sa.p, ?_, ?_,λq=>(sm q).1.trans (K.lv q),K.ho,(λe=>by cases e),λi e=> ?_⟩,sa⟩,rfl⟩
 ·show Qp (M.C.lE M.m.pg).af.length M.Q
  rw[S.af];exact K.q
 ·show cZ (M.C.lE M.m.pg).af.length M.Q M.x
  rw[S.af];exact K.x
 change((M.C.lE M.m.pg).pg i).lv=true at e;rw[jv]at e;by_cases g:i=M.m.pg
 ·rw[if_pos g]at e;cases e
 rw[if_neg g]at e;exact absurd (K.go i e).2 g
theorem Mi.release{M:Mo}(K:Mi M)(qA:M.m.on=true)(h:(M.C.pg M.m.pg).tk.findIdx? id=none):nc M {M with C:=M.C.fx M.m.pg,m:=M.m.off}:=by
 obtain⟨a,b,c,d⟩:=K.on qA;obtain⟨h0,ou⟩:=afj K.k a h;have K2:=DF K.k a b c h0;have jv:=F9 K.k a;have M9:∀q,Live M.C q→M.C.pn q≠M.m.pg:=λq L e=>ou _ (e▸L.tk);have same:∀q,M.C.pn q≠M.m.pg→(M.C.fx M.m.pg).pg ((M.C.fx M.m.pg).pn q)=M.C.pg (M.C.pn q):=λq e=>by
  rw[show(M.C.fx M.m.pg).pn q=M.C.pn q from rfl,jv,if_neg e]
 have T8:∀q,M.C.pn q≠M.m.pg→(M.C.fx M.m.pg).cl q=M.C.cl q:=λq e=>by unfold Cs.cl;rw[same q e]
 have TA:∀q,M.C.pn q≠M.m.pg→(M.C.fx M.m.pg).ix q=M.C.ix q:=λq e=>by unfold Cs.ix;rw[T8 q e];rfl
 have wl:∀q,Live (M.C.fx M.m.pg) q↔Live M.C q:=λq=>by
  constructor
  ·intro L
   have e:M.C.pn q≠M.m.pg:=λe=>by
    have t:=L.own;rw[show(M.C.fx M.m.pg).pn q=M.C.pn q from rfl,jv,if_pos e]at t;cases t
   refine⟨⟨L.i,by have:=L.own;rw[same q e]at this;exact this,by have:=L.al;rw[T8 q e]at this;exact this,by have:=L.k;rw[same q e,TA q e]at this;exact this⟩,by have:=L.tk;rw[same q e,TA q e]at this;exact this⟩
  intro L;have e:=M9 q L;exact⟨⟨L.i,by rw[same q e];exact L.own,by rw[T8 q e];exact L.al,by rw[same q e,TA q e];exact L.k⟩,by rw[same q e,TA q e];exact L.tk⟩
 have sa:kC M {M with C:=M.C.fx M.m.pg,m:=M.m.off}:=eI K.p rfl rfl rfl λq h=>T8 q (M9 q ((K.lv q).2 (.inl h)));refine⟨⟨K2,sa.p,K.q,K.x,λq=>(wl q).trans (K.lv q),K.ho,(λe=>by cases e),λi e=> ?_⟩,sa⟩;change((M.C.fx M.m.pg).pg i).lv=true at e;rw[jv]at e;by_cases g:i=M.m.pg
 ·rw[if_pos g]at e;cases e
 rw[if_neg g]at e;exact absurd (K.go i e).2 g
theorem Mi.leave{M:Mo}(K:Mi M)(qA:M.m.on=false){i f t:Nat}(hi:i<M.C.n)(ho:(M.C.pg i).own=true)(hf:(M.C.pg i).cl=f):nc M {M with C:=M.C.nt i,m:={M.m with pg:=i,fr:=f,tt:=t,on:=true}}:=by
 have jO:(M.C.pg i).lv=false:=by
  rcases h:(M.C.pg i).lv with _|_
  ·rfl
  have:=(K.go i h).1;rw[qA]at this;cases this
 obtain⟨K2,S⟩:=J3 K.k hi ho jO;have jv:=Rs K.k hi;have sm:=vj S λj=>by
  rw[jv];by_cases e:j=i
  ·exact⟨true,by rw[if_pos e,e]⟩
  exact⟨(M.C.pg j).lv,by rw[if_neg e]⟩
 have sa:kC M {M with C:=M.C.nt i,m:={M.m with pg:=i,fr:=f,tt:=t,on:=true}}:=eI K.p rfl rfl rfl λq _=>S.cl q;refine⟨⟨K2,sa.p, ?_, ?_,λq=>(sm q).1.trans (K.lv q),K.ho,λ_=> ?_,λj e=> ?_⟩,sa⟩
 ·show Qp (M.C.nt i).af.length M.Q
  rw[S.af];exact K.q
 ·show cZ (M.C.nt i).af.length M.Q M.x
  rw[S.af];exact K.x
 ·refine⟨hi, ?_, ?_, ?_⟩<;>(show _=_)<;>dsimp only<;>rw[jv,if_pos rfl]
  ·exact ho
  exact hf
 change((M.C.nt i).pg j).lv=true at e;rw[jv]at e;by_cases g:j=i
 ·exact⟨rfl,g⟩
 rw[if_neg g]at e;have:=(K.go j e).1;rw[qA]at this;cases this
theorem Mi.ZB{M:Mo}(K:Mi M)(hh:M.hole=none){i k:Nat}(hi:i<M.C.n)(ho:(M.C.pg i).own=true)(hk:(M.C.pg i).tk.findIdx? id=some k):M.has (M.C.yh i k):=by
 have P:mw M.C (M.C.pg i):=K.k.pg _ (gM (by rw[K.k.pl];exact hi));rw[acV]at hk;obtain⟨h1,h2,_⟩:=hk;obtain⟨e1,e2,a⟩:=CR K.k hi ho (k:=k) (by rw[←P.tl];exact h1);have L:Live M.C (M.C.yh i k):=⟨a,by rw[e1,e2,acx h1];exact congrArg some h2⟩;exact((K.lv _).1 L).resolve_right (by rw[hh];simp)
theorem Mi.gF{M:Mo}(K:Mi M)(hh:M.hole=none)(qA:M.m.on=true):nc M M.gF.2∧M.gF.2.hole=none:=by
 unfold Mo.gF
 split
 ·next h=>exact⟨K.release qA h,hh⟩
 next k hk=>
 obtain⟨a,b,c,d⟩:=K.on qA;have hp:=K.ZB hh a b hk
 split
 ·next hd=>exact⟨K.Bg hp hd,hh⟩
 split
 ·next N hN=>exact K.shift hh hp hN
 obtain⟨g1,g2⟩:=K.mstop qA;exact⟨g1,g2.trans hh⟩
theorem Rk{M:Mo}(h:M.gF.1=true):M.gF.2.m.on=M.m.on:=by
 unfold Mo.gF at h⊢
 split at h
 ·cases h
 next k hk=>
 split
 ·rfl
 next hd=>
 rw[if_neg hd]at h
 split at h
 ·next N hN=>
  unfold Mo.shift Mo.take at hN
  split at hN
  ·next r O hO=>
   simp only[Option.some.injEq]at hN;subst hN
   split at hO
   ·simp only[Option.some.injEq,Prod.mk.injEq]at hO
    obtain⟨rfl,rfl⟩:=hO;rfl
   cases hO
  cases hN
 cases h
theorem Mi.eU:∀(f:Nat) {M:Mo},Mi M→M.hole=none→M.m.on=true→nc M (M.eU f).2∧(M.eU f).2.hole=none
 |0,_,K,hh,_=>⟨⟨K, .refl K.p⟩,hh⟩
 |f+1,M,K,hh,qA=>by
  obtain⟨g1,g2⟩:=K.gF hh qA;unfold Mo.eU
  split
  ·next h=>
   obtain⟨g3,g4⟩:=Mi.eU f g1.i g2 (by rw[Rk h];exact qA);exact⟨g1.trans g3,g4⟩
  exact⟨g1,g2⟩
theorem Mi.iy{M:Mo}(K:Mi M)(hh:M.hole=none)(aF:Int):nc M (M.iy aF).2∧(M.iy aF).2.hole=none:=by
 have T:nc M M.gD:=⟨K.rf K.x rfl rfl rfl rfl rfl rfl rfl rfl,eI K.p rfl rfl rfl⟩;unfold Mo.iy
 split
 ·exact⟨⟨K, .refl K.p⟩,hh⟩
 split
 ·next qA=>
  obtain⟨g1,g2⟩:=T.i.eU _ hh qA;exact⟨T.trans g1,g2⟩
 next qA=>
 have B:nc M.gD M.gD.gO∧M.gD.gO.hole=none:=by
  unfold Mo.gO
  split
  ·exact⟨⟨T.i, .refl T.i.p⟩,hh⟩
  split
  ·exact⟨⟨T.i, .refl T.i.p⟩,hh⟩
  split
  ·exact⟨⟨T.i, .refl T.i.p⟩,hh⟩
  next o ho=>
  obtain⟨b1,b2,b3,_⟩:=tV ho;exact⟨T.i.leave (show M.m.on=false by simpa using qA) b1 b2 b3,hh⟩
 exact⟨T.trans B.1,B.2⟩
theorem Mi.beside{M:Mo}(K:Mi M)(hh:M.hole=none):nc M M.beside∧M.beside.hole=none:=by
 have g1:=K.fe;have h1:M.fe.hole=none:=hh;have g2:=g1.i.jf;have h2:M.fe.jf.hole=none:=by
  obtain⟨a1,_⟩:=mO M.fe M.fe.k.now M.fe.v.p.c;exact a1.trans h1
 obtain⟨g3,h3⟩:=g2.i.iy h2 M.fe.jf.v.p.m;unfold Mo.beside Mo.j5;exact⟨((g1.trans g2).trans g3).trans (g3.i.uj _),h3⟩
theorem agf{n:Nat}{Q:List (List Nat)}(K:Qp n Q){x:Cw}(X:cZ n Q x){i j k p:Nat}(hi:i<Q.length)(hj:j<Q.length)(hk:(ql Q i)[k]?=some p):cZ n (vL Q i k j p) (x.left Q p):=by
 have L:=Ba X K.nd hi hk;refine⟨L.go,L.no,λq hq=>⟨?_,(L.nx q hq).2⟩,L.lf⟩;have h:=(L.nx q hq).1;unfold vL;rw[fG (by rw[acE];exact hj)]
 split
 ·next e=>rw[←e];exact acC _ h
 exact h
theorem QE{n c hot warm:Nat}{s t:my}(hc:c<n)(K:Qp n s.Q)(X:cZ n s.Q s.x)(h:qj c hot warm s=some t):cZ n t.Q t.x:=by
 unfold qj at h
 split at h
 ·cases h
 next k hk=>
 have hk3:1≤k∧k≤3:=by
  unfold EI at hk
  repeat' split at hk
  all_goals first|cases hk|(simp only[Option.some.injEq]at hk;omega)
  all_goals omega
 split at h
 ·cases h
 next p hp=>
 simp only[Option.some.injEq]at h;subst h;have hl:=K.len;refine agf K X (by unfold qi;omega) (by unfold qi;split<;>omega) ?_;rw[←agF];exact hp
theorem IM{n c hot warm:Nat}(hc:c<n):∀(k:Nat) {s:my},Qp n s.Q→cZ n s.Q s.x→cZ n (kB c hot warm k s).2.Q (kB c hot warm k s).2.x
 |0,_,_,X=>X
 |k+1,s,K,X=>by
  unfold kB
  split
  ·exact X
  next t ht=>exact IM hc k (CG hc K ht).1 (QE hc K X ht)
theorem Mi.bal{M:Mo}(K:Mi M)(hot warm:Nat)(k:List UInt8):nc M (M.oq hot warm k):=by
 unfold Mo.oq
 split
 ·exact⟨K, .refl K.p⟩
 next p hp=>
 have hc:M.C.cl p<M.iW:=(((K.lv p).2 (.inl ((iR K.p).1 hp).1)).toAt.bo K.k).1;obtain⟨q1,q2⟩:=IL (hot:=hot) (warm:=warm) hc M.v.p.l.toNat (s:=M.YK) K.q;have x1:=IM (hot:=hot) (warm:=warm) hc M.v.p.l.toNat (s:=M.YK) K.q K.x;have S:=J1 K.p q1.nd q2;have G:nc M (M.Ag (kB (M.C.cl p) hot warm M.v.p.l.toNat M.YK).2):=⟨⟨K.k,S.p,q1,x1,λr=>(K.lv r).trans (or_congr (q2 r).symm Iff.rfl),λr h g=>K.ho r h ((q2 r).1 g),K.on,K.go⟩,S⟩;exact G.trans (G.i.uj _)
theorem Mi.behind{M:Mo}(K:Mi M)(hh:M.hole=none)(hot warm:Nat)(k:List UInt8):nc M (M.behind hot warm k)∧(M.behind hot warm k).hole=none:=by
 have g:=K.bal hot warm k;obtain⟨g2,h2⟩:=g.i.beside ((IN hot warm M k).1.trans hh);exact⟨g.trans g2,h2⟩
theorem Mi.xg{M:Mo}(K:Mi M)(w:Nat):nc M (M.fj w):=⟨K.rf K.x rfl rfl rfl rfl rfl rfl rfl rfl,eI K.p rfl rfl rfl⟩
theorem Mi.RG{M:Mo}(K:Mi M):nc M M.reset:=⟨K.rf K.x rfl rfl rfl rfl rfl rfl rfl rfl,eI K.p rfl rfl rfl⟩
theorem Mi.meet{M:Mo}(K:Mi M)(k:List UInt8):nc M (M.meet k).2∧(M.meet k).1=M.live k∧(M.meet k).2.hole=M.hole:=by
 unfold Mo.meet Mo.live;cases hf:M.find k with
 |none=>exact⟨K.xg 1,rfl,rfl⟩
 |some p=>
  have hp:=((iR K.p).1 hf).1;dsimp only;by_cases hw:M.bV p=0
  ·rw[if_neg (by simpa using hw),if_pos hw]
   exact⟨K.xg 0,rfl,rfl⟩
  rw[if_pos hw,if_neg hw];have g:=K.xg (M.bV p);exact⟨g.trans (g.i.Bg hp hw),rfl,rfl⟩
structure BS (M N:Mo)(y:List UInt8)(o:Option (I3×Nat)):Prop where
 i:Mi N
 k:N.k=M.k
 s:∀z,N.lp z=if z=y then o else M.lp z
 d:∀q,N.has q→(N.it q).key=y∨∃p,M.has p∧(M.it p).key=(N.it q).key
 z:N.C.af=M.C.af
theorem nc.eP{M N O:Mo}{y:List UInt8}{o:Option (I3×Nat)}(a:nc M N)(P:Pl M)(b:BS N O y o):BS M O y o:=
 ⟨b.i,b.k.trans a.s.k,λz=>(b.s z).trans (by rw[a.s.s P]),λq h=>(b.d q h).imp id λ⟨p,h1,e⟩=>by
  obtain⟨r,h2,e2⟩:=a.s.d p h1;exact⟨r,h2,(oV e2).symm.trans e⟩,b.z.trans a.s.z⟩
theorem BS.go{M N O:Mo}{y:List UInt8}{o:Option (I3×Nat)}(a:BS M N y o)(b:nc N O):BS M O y o:=
 ⟨b.i,b.s.k.trans a.k,λz=>(b.s.s a.i.p z).trans (a.s z),λq h=>by
  obtain⟨r,h2,e2⟩:=b.s.d q h;rw[oV e2];exact a.d r h2,b.s.z.trans a.z⟩
theorem BS.eP{M N O:Mo}{y:List UInt8}{o o2:Option (I3×Nat)}(a:BS M N y o)(b:BS N O y o2):BS M O y o2:=
 ⟨b.i,b.k.trans a.k,λz=>by
  rw[b.s,a.s];by_cases h:z=y<;>simp[h],λq h=>(b.d q h).elim .inl λ⟨p,h1,e⟩=>by rw[←e];exact a.d p h1,b.z.trans a.z⟩
theorem rQ{M:Mo}(P:Pl M){p:Nat}(h:M.has p):M.lp (M.it p).key=if M.bV p=0 then some (M.vw p)else none:=by
 unfold Mo.lp Mo.live;rw[(iR P).2 ⟨h,rfl⟩];dsimp only
 split<;>rfl
theorem abQ{M:Mo}{y:List UInt8}(h:∀q,M.has q→(M.it q).key≠y):M.find y=none:=by
 unfold Mo.find;rw[agZ];intro q hq
 simpa using h q (fO.1 hq)
theorem Og{M:Mo}(P:Pl M){y:List UInt8}(h:M.find y=none):∀q,M.has q→(M.it q).key≠y:=λq hq e=>by
 rw[(iR P).2 ⟨hq,e⟩]at h;cases h
theorem AT{M:Mo}{y:List UInt8}(h:∀q,M.has q→(M.it q).key≠y):M.lp y=none:=by
 unfold Mo.lp Mo.live;rw[abQ h];rfl
theorem ET{M N:Mo}(P:Pl M)(K:Mi N)(hk:N.k=M.k)(hz:N.C.af=M.C.af){y:List UInt8}{o:Option (I3×Nat)}(h1:∀q,N.has q→(N.it q).key≠y→∃p,M.has p∧N.vw q=M.vw p)
  (h2:∀p,M.has p→M.bV p=0→(M.it p).key≠y→∃q,N.has q∧N.vw q=M.vw p) (h3:N.lp y=o):BS M N y o:=by
 refine⟨K,hk,λz=> ?_,λq h=> ?_,hz⟩
 ·by_cases e:z=y
  ·rw[if_pos e,e];exact h3
  rw[if_neg e];refine Option.ext λi=> ?_;rw[mG K.p,mG P]
  constructor
  ·rintro⟨q,a,b,c,d⟩
   obtain⟨p,f,g⟩:=h1 q a (by rw[b];exact e);exact⟨p,f,(oV g).symm.trans b,(wE hk g).symm.trans c,g.symm.trans d⟩
  rintro⟨p,a,b,c,d⟩;obtain⟨q,f,g⟩:=h2 p a c (by rw[b];exact e);exact⟨q,f,(oV g).trans b,(wE hk g).trans c,g.trans d⟩
 by_cases e:(N.it q).key=y
 ·exact .inl e
 obtain⟨p,f,g⟩:=h1 q h e;exact .inr ⟨p,f,(oV g).symm⟩
theorem Mi.put_{M N:Mo}(K:Mi M)(hC:N.C=M.C)(hQ:N.Q=M.Q)(hx:N.x=M.x)(hh:N.hole=M.hole)(hm:N.m=M.m)(hk:∀q,(N.it q).key=(M.it q).key):Mi N:=by
 have e:∀p,N.has p↔M.has p:=λp=>by unfold Mo.has;rw[hQ]
 exact⟨by rw[hC];exact K.k,⟨λi=>by rw[hQ];exact K.p.nd i,λa b ha hb g=>K.p.kd a b ((e a).1 ha) ((e b).1 hb) (by rw[←hk a,←hk b];exact g)⟩,by unfold Mo.iW;rw[hC,hQ];exact K.q,by unfold Mo.iW;rw[hC,hQ,hx];exact K.x,λp=>by rw[hC,hh,e];exact K.lv p,λp h=>by rw[hh]at h;rw[e];exact K.ho p h,by rw[hm,hC];exact K.on,by rw[hC,hm];exact K.go⟩
theorem Mi.U3{M N:Mo}(K:Mi M)(hC:N.C=M.C)(hQ:N.Q=M.Q)(hx:N.x=M.x)(hh:N.hole=M.hole)(hm:N.m=M.m)(hk:N.k=M.k){p:Nat}(hp:M.has p)(ho:∀q,q≠p→N.it q=M.it q)(hy:(N.it p).key=(M.it p).key):
  BS M N (M.it p).key (if N.bV p=0 then some (N.vw p)else none):=by
 have kq:∀q,(N.it q).key=(M.it q).key:=λq=>by
  by_cases e:q=p
  ·rw[e];exact hy
  rw[ho q e]
 have KN:=K.put_ hC hQ hx hh hm kq;have e:∀q,N.has q↔M.has q:=λq=>by unfold Mo.has;rw[hQ]
 have v:∀q,q≠p→N.vw q=M.vw q:=λq h=>by unfold Mo.vw;rw[ho q h,hC]
 refine ET K.p KN hk (by rw[hC]) (λq h g=>⟨q,(e q).1 h,v q λa=>g (by rw[a];exact hy)⟩) (λq h _ g=>⟨q,(e q).2 h,v q λa=>g (by rw[a])⟩) ?_;rw[←kq p];exact rQ KN.p ((e p).2 hp)
theorem Mi.rX{M:Mo}(K:Mi M){p:Nat}(hp:M.has p):BS M (M.cD p) (M.it p).key none:=by
 have e:∀q,(M.cD p).vw q=M.vw q:=λq=>congrArg (Prod.mk _) (rV M.C p q);have hs:∀q,(M.cD p).has q↔M.has q∧q≠p:=λq=>j9 K.p;refine ET K.p (K.cD hp) rfl rfl (λq h _=>⟨q,((hs q).1 h).1,e q⟩) (λq h _ g=>⟨q,(hs q).2 ⟨h,λa=>g (by rw[a])⟩,e q⟩) (AT λq h g=> ?_);obtain⟨h1,h2⟩:=(hs q).1 h;exact h2 (K.p.kd q p h1 hp g)
theorem Mi.iF{M:Mo}(K:Mi M){r:Nat}(hr:M.hole=some r)(n:I3)(hn:∀q,M.has q→(M.it q).key≠n.key):BS M (M.iF r n) n.key (if lP M.k n=0 then some (n.vw,M.C.cl r)else none):=by
 have L:=(K.lv r).2 (.inr hr);have no:∀i,r∉ql M.Q i:=λi h=>K.ho r hr ⟨i,h⟩;have hi:qi (M.C.cl r) 1<M.Q.length:=by
  have h1:=(L.toAt.bo K.k).1;have h2:=K.q.len;unfold Mo.iW at h2;unfold qi;omega
 have pm:∀q j,q∈ql (M.iF r n).Q j↔(j=qi (M.C.cl r) 1∧q=r)∨q∈ql M.Q j:=λq j=>iP hi;have hs:∀q,(M.iF r n).has q↔q=r∨M.has q:=λq=>by
  constructor
  ·rintro⟨j,h⟩
   exact((pm q j).1 h).imp (λh=>h.2) λh=>⟨j,h⟩
  rintro(h|⟨j,h⟩)
  ·exact⟨_,(pm q _).2 (.inl ⟨rfl,h⟩)⟩
  exact⟨j,(pm q j).2 (.inr h)⟩
 have nr:∀q,M.has q→q≠r:=λq ⟨i,h⟩ e=>no i (e▸h);have ir:(M.iF r n).it r={n with dB:=mkSet n.dB false}:=if_pos rfl;have io:∀q,q≠r→(M.iF r n).it q=M.it q:=λq h=>if_neg h;have vo:∀q,q≠r→(M.iF r n).vw q=M.vw q:=λq h=>by unfold Mo.vw;rw[io q h];rfl
 have qe:∀j,ql (M.iF r n).Q j=if j=qi (M.C.cl r) 1 then r::ql M.Q (qi (M.C.cl r) 1)else ql M.Q j:=λj=>fG hi _ j
 have nd:∀j,(ql (M.iF r n).Q j).Nodup:=λj=>by
  rw[qe]
  split
  ·exact acP.2 ⟨no _,K.p.nd _⟩
  exact K.p.nd j
 have P:Pl (M.iF r n):=by
  refine⟨nd,λa b ha hb e=> ?_⟩;rcases(hs a).1 ha with rfl|a1<;>rcases(hs b).1 hb with rfl|b1
  ·rfl
  ·rw[ir,io b (nr b b1)]at e
   exact absurd e.symm (hn b b1)
  ·rw[ir,io a (nr a a1)]at e
   exact absurd e (hn a a1)
  rw[io a (nr a a1),io b (nr b b1)]at e;exact K.p.kd a b a1 b1 e
 have KN:Mi (M.iF r n):=by
  refine⟨K.k,P,⟨?_,nd,λi j q h g=> ?_⟩,⟨K.x.go,K.x.no,λq hq=>⟨(pm q _).2 (.inr (K.x.nx q hq).1),(K.x.nx q hq).2⟩,K.x.lf⟩,λq=> ?_,(λq h=>by cases h),K.on,K.go⟩
  ·exact acE.trans K.q.len
  ·rcases(pm q i).1 h with⟨h1,h2⟩|h1<;>rcases(pm q j).1 g with⟨g1,g2⟩|g1
   ·rw[h1,g1]
   ·exact absurd (h2▸g1) (no j)
   ·exact absurd (g2▸h1) (no i)
   exact K.q.one i j q h1 g1
  refine(K.lv q).trans ?_;rw[hr,hs q];show M.has q∨some r=some q↔(q=r∨M.has q)∨none=some q;simp only[Option.some.injEq,reduceCtorEq,or_false];exact⟨λh=>h.elim .inr λh=> .inl h.symm,λh=>h.elim (λh=> .inr h.symm) .inl⟩
 refine ET K.p KN rfl rfl (λq h g=> ?_) (λq h _ _=>⟨q,(hs q).2 (.inr h),vo q (nr q h)⟩) ?_
 ·rcases(hs q).1 h with rfl|h
  ·rw[ir]at g;exact absurd rfl g
  exact⟨q,h,vo q (nr q h)⟩
 have h:=rQ P ((hs r).2 (.inl rfl));rw[Cx,ir]at h;refine h.trans ?_;have e:(M.iF r n).vw r=(n.vw,M.C.cl r):=by
  unfold Mo.vw;rw[ir,XF];rfl
 rw[e];rfl
theorem Mi.nq{M:Mo}(K:Mi M){r:Nat}(hr:M.hole=some r){p:Nat}(hp:M.has p)(n:I3)(hn:(M.it p).key=n.key):BS M (M.nq p r n) n.key (if lP M.k n=0 then some (n.vw,M.C.cl r)else none):=by
 have A:=K.rX hp;rw[hn]at A;have U:=A.i.iF (r:=r) hr n λq h g=>by
  obtain⟨h1,h2⟩:=(j9 K.p).1 h;exact h2 (K.p.kd q p h1 hp (g.trans hn.symm))
 have hQ:(M.nq p r n).Q=((M.cD p).iF r n).Q:=by
  show jW (gS M.Q p) (qi (M.C.cl r) 1) r=jW (gS M.Q p) (qi ((M.C.bz p).cl r) 1) r;rw[rV]
 have G:nc ((M.cD p).iF r n) (M.nq p r n):=⟨U.i.rf U.i.x rfl hQ rfl rfl rfl rfl rfl rfl,eI U.i.p hQ rfl rfl⟩;have V:=A.eP (U.go G);rw[show(M.cD p).C.cl r=M.C.cl r from rV M.C p r,show(M.cD p).k=M.k from rfl]at V;exact V
theorem Mi.WE{M:Mo}(K:Mi M)(i:Nat):nc M (M.lS i):=⟨K.rf K.x rfl rfl rfl rfl rfl rfl rfl rfl,eI K.p rfl rfl rfl⟩
theorem Mi.gf{M:Mo}(K:Mi M){r:Nat}(hr:M.hole=some r)(old:Option Nat)(n:I3)(h0:old=none→∀q,M.has q→(M.it q).key≠n.key)(h1:∀p,old=some p→M.has p∧(M.it p).key=n.key):
  BS M (M.gf r old n) n.key (if lP M.k n=0 then some (n.vw,M.C.cl r)else none)∧(M.gf r old n).hole=none∧(M.gf r old n).v.aM=M.v.aM+1:=by
 have g:=K.WE (M.v.aM+1);cases old with
 |none=>exact⟨g.eP K.p (g.i.iF hr n (h0 rfl)),rfl,rfl⟩
 |some p=>exact⟨g.eP K.p (g.i.nq hr (h1 p rfl).1 n (h1 p rfl).2),rfl,rfl⟩
theorem Mi.room{M:Mo}(K:Mi M)(hh:M.hole=none){j:Nat}(A:ib M (j+1)){n c:Nat}(hc:M.C.af.findIdx? (λz=>decide (n≤z))=some c)(own:Option Nat):
  ∃r N,M.room n own=(some r,N)∧nc M N∧N.hole=some r∧¬M.has r∧N={M with C:=N.C,hole:=some r}∧N.C.cl r=c∧ib N j∧M.take c=some (r,N):=by
 have bX:c<M.iW:=(acV.1 hc).1;obtain⟨p,D,hD,hs⟩:=uv K.k bX (by have:=A.sp;omega);have ht:M.take c=some (p,{M with C:=D,hole:=some p}):=by unfold Mo.take;rw[hD]
 obtain⟨G,h1,h2,h3,h4,_,_⟩:=K.take hh bX ht;refine⟨p,_, ?_,G,h1,h2,h3,h4,⟨A.on, ?_⟩,ht⟩
 ·unfold Mo.room
  rw[hc];dsimp only;unfold Mo.wj;rw[ht]
 have:=A.sp;show j≤D.spare;omega
structure bn where
 f:List UInt8→Option (I3×Nat)
 k:Ck
 i:Nat
 c:pB
 z:List Nat
def Mo.ps (M:Mo):bn:=⟨M.lp,M.k,M.v.aM,M.v.c,M.C.af⟩
def bn.set (P:bn)(y:List UInt8)(o:Option (I3×Nat)):bn:={P with f:=λz=>if z=y then o else P.f z}
def bn.num (P:bn)(i:Nat):bn:={P with i:=i}
def bn.put (P:bn)(x:I3)(c:Nat):bn:=P.set x.key (if lP P.k x=0 then some (x,c)else none)
structure bb (T:List UInt8→Prop)(N:Mo)(P:bn):Prop where
 i:Mi N
 h:N.hole=none
 p:N.ps=P
 t:∀q,N.has q→T (N.it q).key
theorem nV{M N:Mo}(P:Pl M)(G:nc M N)(e:N.v.aM=M.v.aM)(e2:N.v.c=M.v.c):N.ps=M.ps:=by
 unfold Mo.ps;rw[e,e2,G.s.z,G.s.k,show N.lp=M.lp from funext (G.s.s P)]
theorem ES{M N:Mo}{y:List UInt8}{o:Option (I3×Nat)}(U:BS M N y o)(e2:N.v.c=M.v.c):N.ps=(M.ps.set y o).num N.v.aM:=by
 unfold Mo.ps bn.set bn.num;rw[U.k,e2,U.z,show N.lp=_ from funext U.s]
theorem bb.go{M N:Mo}{P:bn}{T:List UInt8→Prop}(S:bb T M P)(G:nc M N)(h:N.hole=none)(e:N.v.aM=M.v.aM)(e2:N.v.c=M.v.c):bb T N P:=⟨G.i,h,(nV S.i.p G e e2).trans S.p,λq hq=>by
  obtain⟨r,h2,e2⟩:=G.s.d q hq;rw[oV e2];exact S.t r h2⟩
theorem bb.eP{M N:Mo}{P:bn}{T:List UInt8→Prop}(S:bb T M P){y:List UInt8}{o:Option (I3×Nat)}(U:BS M N y o)(hy:T y)(h:N.hole=none){i:Nat}(e:N.v.aM=i)(e2:N.v.c=M.v.c):bb T N ((P.set y o).num i):=⟨U.i,h,by rw[ES U e2,S.p,e],λq hq=>by
  rcases U.d q hq with g|⟨r,h2,e2⟩
  ·rw[g];exact hy
  rw[←e2];exact S.t r h2⟩
theorem bb.aM{M:Mo}{P:bn}{T:List UInt8→Prop}(S:bb T M P):P.i=M.v.aM:=by rw[←S.p];rfl
theorem bb.oy{M:Mo}{P:bn}{T:List UInt8→Prop}(S:bb T M P):P.k=M.k:=by rw[←S.p];rfl
theorem bb.f{M:Mo}{P:bn}{T:List UInt8→Prop}(S:bb T M P):P.f=M.lp:=by rw[←S.p];rfl
theorem bb.cfg{M:Mo}{P:bn}{T:List UInt8→Prop}(S:bb T M P):P.c=M.v.c:=by rw[←S.p];rfl
theorem bb.pZ{M:Mo}{P:bn}{T:List UInt8→Prop}(S:bb T M P):P.z=M.C.af:=by rw[←S.p];rfl
theorem bb.meet{M:Mo}{P:bn}{T:List UInt8→Prop}(S:bb T M P)(y:List UInt8):bb T (M.meet y).2 P∧(∀p,(M.meet y).1=some p→(M.meet y).2.has p∧((M.meet y).2.it p).key=y∧(M.meet y).2.bV p=0∧P.f y=some ((M.meet y).2.vw p))∧
  ((M.meet y).1=none→P.f y=none∧∀q,(M.meet y).2.has q→((M.meet y).2.it q).key≠y):=by
 obtain⟨G,_,hh⟩:=S.i.meet y;refine⟨S.go G (hh.trans S.h) (vh M y).2.2.2.2.1 (vh M y).2.2.2.1,λp hp=> ?_,λhn=> ?_⟩
 ·rw[S.f]
  unfold Mo.meet at hp⊢;cases hf:M.find y with
  |none=>rw[hf]at hp;cases hp
  |some r=>
   rw[hf]at hp;dsimp only at hp⊢;obtain⟨h1,h2⟩:=(iR S.i.p).1 hf;by_cases hw:M.bV r≠0
   ·rw[if_pos hw]at hp;cases hp
   rw[if_neg hw]at hp⊢;cases hp;have hw:M.bV p=0:=Decidable.of_not_not hw;exact⟨h1,h2,hw,by rw[←h2,rQ S.i.p h1,if_pos hw];rfl⟩
 rw[S.f];unfold Mo.meet at hn⊢;cases hf:M.find y with
 |none=>exact⟨AT (Og S.i.p hf),Og S.i.p hf⟩
 |some r=>
  rw[hf]at hn;dsimp only at hn⊢;obtain⟨h1,h2⟩:=(iR S.i.p).1 hf;by_cases hw:M.bV r≠0
  ·rw[if_pos hw]
   refine⟨by rw[←h2,rQ S.i.p h1,if_neg hw],λq hq e=> ?_⟩;obtain⟨a,b⟩:=(j9 S.i.p).1 hq;exact b (S.i.p.kd q r a h1 (e.trans h2.symm))
  rw[if_neg hw]at hn;cases hn
theorem bb.put{M N:Mo}{P:bn}{T:List UInt8→Prop}(S:bb T M P){p:Nat}(hp:M.has p)(hC:N.C=M.C)(hQ:N.Q=M.Q)(hx:N.x=M.x)(hh:N.hole=M.hole)(hm:N.m=M.m)(hk:N.k=M.k)(ho:∀q,q≠p→N.it q=M.it q){x:I3}(hv:(N.it p).vw=x)(hy:x.key=(M.it p).key){i:Nat}(hi:N.v.aM=i)(hc:N.v.c=M.v.c):
  bb T N ((P.put x (M.C.cl p)).num i):=by
 have U:=S.i.U3 hC hQ hx hh hm hk hp ho ((congrArg I3.key hv).trans hy);have e1:N.bV p=lP P.k x:=by rw[S.oy,←hk,←hv];rfl
 have e2:N.vw p=(x,M.C.cl p):=by unfold Mo.vw;rw[hv,hC]
 rw[e1,e2,←hy]at U;exact S.eP U (by rw[hy];exact S.t p hp) (hh.trans S.h) hi hc
def I3.qF (x:I3)(now:Nat):I3:={x with tch:=now,dB:=x.dB % 8+8}
theorem EO (x:I3)(now:Nat):({x with tch:=now,dB:=mkSet x.dB true % 8+8}:I3).vw=x.vw.qF now:=by
 unfold I3.vw I3.qF mkSet
 congr 1
 simp only[if_true];omega
def bn.cL (eP:Bool)(ex:Int)(s:List I3×bn)(y:List UInt8):List I3×bn:=match s.2.f y with
 |none=>s
 |some x=>let x2:I3:=if eP=true then{x.1 with exp:=cF s.2.k.now ex}else x.1
  (s.1++ [x2],s.2.put (x2.qF s.2.k.now) x.2)
def bn.jX (P:bn)(verb:Int)(keys:List (List UInt8))(ex:Int):ff×bn:=let r:=keys.foldl (bn.cL (decide (verb=3∨verb=4)) ex) ([],P);(⟨9,r.1,0,[]⟩,r.2)
def bn.cz (P:bn)(y:List UInt8)(ex:Int):ff×bn:=match P.f y with
 |none=>(.k 4,P)
 |some x=>(.k 6,P.put (({x.1 with exp:=cF P.k.now ex}:I3).qF P.k.now) x.2)
def bn.delete (P:bn)(y:List UInt8):ff×bn:=match P.f y with
 |none=>(.k 4,P)
 |some _=>(.k 5,P.set y none)
def ff.vw (a:ff):ff:={a with dM:=a.dM.map I3.vw}
theorem bb.hitp{M:Mo}{P:bn}{T:List UInt8→Prop}(S:bb T M P){p:Nat}(hp:M.has p):bb T (M.eO p) (P.put ((M.it p).vw.qF P.k.now) (M.C.cl p)):=by
 have h:=S.put (N:=M.eO p) hp rfl rfl rfl rfl rfl rfl (λq h=>if_neg h) (x:=(M.it p).vw.qF P.k.now) (by
  rw[S.oy,←EO];unfold Mo.eO Mo.put;dsimp only;rw[if_pos rfl]) rfl (i:=P.i) S.aM.symm rfl
 exact h
theorem bb.Hq{M:Mo}{P:bn}{T:List UInt8→Prop}(S:bb T M P){p:Nat}(hp:M.has p)(e:Nat):bb T ((M.time p e).eO p) (P.put (({(M.it p).vw with exp:=e}:I3).qF P.k.now) (M.C.cl p)):=by
 have h:=S.put (N:=(M.time p e).eO p) hp rfl rfl rfl rfl rfl rfl (λq h=>(if_neg h).trans (if_neg h)) (x:=({(M.it p).vw with exp:=e}:I3).qF P.k.now) (by
  rw[S.oy,show({(M.it p).vw with exp:=e}:I3)=({M.it p with exp:=e}:I3).vw from rfl,←EO];unfold Mo.eO Mo.time Mo.put;dsimp only;rw[if_pos rfl,if_pos rfl]) rfl (i:=P.i) S.aM.symm rfl
 exact h
theorem bb.cL{M:Mo}{P:bn}{T:List UInt8→Prop}(S:bb T M P)(eP:Bool)(ex:Int)(l:List I3)(y:List UInt8):
  bb T (Mo.cL eP ex (l,M) y).2 (bn.cL eP ex (l.map I3.vw,P) y).2∧(Mo.cL eP ex (l,M) y).1.map I3.vw=(bn.cL eP ex (l.map I3.vw,P) y).1:=by
 obtain⟨S1,h1,h2⟩:=S.meet y;unfold Mo.cL bn.cL;dsimp only;rcases hm:M.meet y with⟨_|p,N⟩<;>rw[hm]at S1 h1 h2<;>dsimp only at S1 h1 h2⊢
 ·rw[(h2 rfl).1]
  exact⟨S1,rfl⟩
 obtain⟨a,b,c,d⟩:=h1 p rfl;rw[d];dsimp only;rw[show N.vw p=((N.it p).vw,N.C.cl p)from rfl];dsimp only;cases eP with
 |false=>
  refine⟨S1.hitp a, ?_⟩;simp
 |true=>
  simp only[if_true];refine⟨?_, ?_⟩
  ·have:=S1.Hq a (cF N.k.now ex)
   rw[S1.oy]at this⊢;exact this
  rw[List.map_append,S1.oy]
  congr 1
  simp only[acM,List.map_nil]
  congr 1
  show((if p=p then _ else _:I3)).vw=_;rw[if_pos rfl];rfl
theorem bb.Ya (eP:Bool)(ex:Int):∀(keys:List (List UInt8)) {M:Mo} {P:bn} {T:List UInt8→Prop} (l:List I3),bb T M P→
  bb T (keys.foldl (Mo.cL eP ex) (l,M)).2 (keys.foldl (bn.cL eP ex) (l.map I3.vw,P)).2∧(keys.foldl (Mo.cL eP ex) (l,M)).1.map I3.vw=(keys.foldl (bn.cL eP ex) (l.map I3.vw,P)).1
 | [],_,_,_,_,S=>⟨S,rfl⟩
 |y::keys,M,P,_,l,S=>by
  obtain⟨a,b⟩:=S.cL eP ex l y;rw[adm,adm];have h:=bb.Ya eP ex keys (Mo.cL eP ex (l,M) y).1 a;rw[b]at h;exact h
theorem bb.jX{M:Mo}{P:bn}{T:List UInt8→Prop}(S:bb T M P)(verb:Int)(keys:List (List UInt8))(ex:Int):bb T (M.jX verb keys ex).2 (P.jX verb keys ex).2∧(M.jX verb keys ex).1.vw=(P.jX verb keys ex).1:=by
 obtain⟨a,b⟩:=bb.Ya (decide (verb=3∨verb=4)) ex keys [] S;refine⟨a, ?_⟩;unfold Mo.jX bn.jX ff.vw;dsimp only;rw[b];rfl
theorem bb.cz{M:Mo}{P:bn}{T:List UInt8→Prop}(S:bb T M P)(y:List UInt8)(ex:Int):bb T (M.cz y ex).2 (P.cz y ex).2∧(M.cz y ex).1.vw=(P.cz y ex).1:=by
 obtain⟨S1,h1,h2⟩:=S.meet y;unfold Mo.cz bn.cz;rcases hm:M.meet y with⟨_|p,N⟩<;>rw[hm]at S1 h1 h2<;>dsimp only at S1 h1 h2⊢
 ·rw[(h2 rfl).1]
  exact⟨S1,rfl⟩
 obtain⟨a,b,c,d⟩:=h1 p rfl;rw[d];dsimp only;refine⟨?_,rfl⟩;have:=S1.Hq a (cF N.k.now ex);rw[S1.oy]at this⊢;exact this
theorem bb.delete{M:Mo}{P:bn}{T:List UInt8→Prop}(S:bb T M P)(y:List UInt8):bb T (M.delete y).2 (P.delete y).2∧(M.delete y).1.vw=(P.delete y).1:=by
 obtain⟨S1,h1,h2⟩:=S.meet y;unfold Mo.delete bn.delete;rcases hm:M.meet y with⟨_|p,N⟩<;>rw[hm]at S1 h1 h2<;>dsimp only at S1 h1 h2⊢
 ·rw[(h2 rfl).1]
  exact⟨S1,rfl⟩
 obtain⟨a,b,c,d⟩:=h1 p rfl;rw[d];dsimp only;refine⟨?_,rfl⟩;have U:=S1.i.rX a;rw[b]at U;exact S1.eP U (by rw[←b];exact S1.t p a) S1.h (i:=P.i) S1.aM.symm rfl
def bn.clock (P:bn)(k:Ck):bn:={P with k:=k,f:=λz=>match P.f z with|some x=>if lP k x.1=0 then some x else none|none=>none}
theorem Qj{k k2:Ck}(h1:k.now≤k2.now)(h2:k.cut≤k2.cut){x:I3}(h:lP k x≠0):lP k2 x≠0:=by
 unfold lP at*
 split
 ·decide
 split
 ·decide
 next a b=>
 split at h
 ·omega
 ·split at h<;>omega
theorem bb.clock{M N:Mo}{P:bn}{T:List UInt8→Prop}(S:bb T M P){k:Ck}(hC:N.C=M.C)(hQ:N.Q=M.Q)(hx:cZ M.iW M.Q N.x)(hi:N.it=M.it)(hh:N.hole=M.hole)(hm:N.m=M.m)(hk:N.k=k)(hn:N.v.aM=M.v.aM)(hc:N.v.c=M.v.c)(h1:M.k.now≤k.now)(h2:M.k.cut≤k.cut):bb T N (P.clock k):=by
 have e:∀p,N.has p↔M.has p:=λp=>by unfold Mo.has;rw[hQ]
 have K:Mi N:=⟨by rw[hC];exact S.i.k,⟨λi=>by rw[hQ];exact S.i.p.nd i,λa b ha hb g=>S.i.p.kd a b ((e a).1 ha) ((e b).1 hb) (by rw[←hi];exact g)⟩,by unfold Mo.iW;rw[hC,hQ];exact S.i.q,by unfold Mo.iW;rw[hC,hQ];exact hx,λp=>by rw[hC,hh,e];exact S.i.lv p,λp h=>by rw[hh]at h;rw[e];exact S.i.ho p h,by rw[hm,hC];exact S.i.on,by rw[hC,hm];exact S.i.go⟩;refine⟨K,hh.trans S.h, ?_,λq hq=>by rw[hi];exact S.t q ((e q).1 hq)⟩;have es:N.lp=λz=>match M.lp z with|some x=>if lP k x.1=0 then some x else none|none=>none:=by
  funext z
  have ef:N.find z=M.find z:=by unfold Mo.find;rw[hQ,hi]
  unfold Mo.lp Mo.live;rw[ef];cases M.find z with
  |none=>rfl
  |some p=>
   dsimp only;have w:N.bV p=lP k (M.it p):=by rw[Cx,hk,hi]
   have v:N.vw p=M.vw p:=by unfold Mo.vw;rw[hi,hC]
   rw[w];by_cases g:M.bV p=0
   ·rw[if_pos g]
    simp only[Option.map_some];rw[show lP k (M.vw p).1=lP k (M.it p)from rfl]
    split
    ·rw[Option.map_some,v]
    rfl
   rw[if_neg g,if_neg (Qj h1 h2 g)];rfl
 unfold Mo.ps bn.clock;rw[es,hk,hn,S.aM,S.f,S.cfg,S.pZ,hc,hC]
theorem rn (k:Ck)(t:Int)(n:Nat):k.now≤(k.flush t n).now∧k.cut≤(k.flush t n).cut:=by
 unfold Ck.flush
 split<;>dsimp only<;>omega
theorem zn (k:Ck)(t:Int)(n:Nat):k.now≤(k.move t n).now∧k.cut≤(k.move t n).cut:=by
 unfold Ck.move Ck.tick
 split
 ·dsimp only
  split
  ·have:=rn {k with now:=k.now+t.toNat} 0 n
   dsimp only at this;omega
  dsimp only;omega
 exact⟨acG _,acG _⟩
theorem Tv{n:Nat}{Q:List (List Nat)}(x:Cw):cZ n Q x.again:=⟨(λh=>by cases h),λ_=>⟨rfl,rfl,rfl,rfl⟩,(λp h=>by cases h),acS _⟩
theorem bb.flush{M:Mo}{P:bn}{T:List UInt8→Prop}(S:bb T M P)(ex:Int):bb T {M with k:=M.k.flush ex M.v.aM,x:=M.x.again} (P.clock (P.k.flush ex P.i)):=by
 rw[S.oy,S.aM];exact S.clock rfl rfl (Tv _) rfl rfl rfl rfl rfl rfl (rn _ _ _).1 (rn _ _ _).2
structure Rm where
 ok:Bool
 v:Option (List UInt8)
def bn.rm (P:bn)(m:Rm):bn:=match m.v with
 |none=>P
 |some y=>P.set y none
structure aem (M N:Mo)(P:bn)(own o:Option Nat)(c:Nat)(m:Rm):Prop where
 i:Mi N
 p:N.ps=P.rm m
 ok:m.ok=o.isSome
 no:o=none→N.hole=none
 r:∀r,o=some r→N.hole=some r∧N.C.cl r=c
 own:∀y,m.v=some y→∀p,own=some p→M.has p→y≠(M.it p).key
 v:∀y,m.v=some y→P.f y≠none
 dr:N.v.mt.dr=if m.v.isSome=true then dy (M.v.mt.dr+1)else M.v.mt.dr
theorem aah{Q:List (List Nat)}{c p:Nat}(h:p∈M6 Q c):∃i,p∈ql Q i:=by
 unfold M6 at h;simp only[List.mem_append,List.mem_reverse]at h;rcases h with(h|h)|h
 ·exact⟨_,h⟩
 ·exact⟨_,h⟩
 exact⟨_,h⟩
theorem Q0{dd act:Nat→Bool}{own:Option Nat}{n:Nat}{l:List Nat}{p:Nat}{d:Bool}{k:Nat}(h:Cc dd act own n l=(some p,d,k)):p∈l∧some p≠own∧dd p=d:=by
 have sub:∀q∈(EG own l).take n,q∈l∧some q≠own:=λq hq=>by
  have:=List.mem_of_mem_take hq;unfold EG at this;rw[adf]at this;exact⟨this.1,by simpa using this.2⟩
 unfold Cc Nw at h;cases hf:((EG own l).take n).findIdx? dd with
 |some i=>
  rw[hf]at h;simp only[Prod.mk.injEq]at h;obtain⟨h1,h2,h3⟩:=h;obtain⟨a,b,_⟩:=acV.1 hf;rw[acx a,Option.some.injEq]at h1;have:=sub p (h1▸List.getElem_mem a);exact⟨this.1,this.2,by rw[←h2,←h1];exact b⟩
 |none=>
  rw[hf]at h;simp only[Prod.mk.injEq]at h;obtain⟨h1,h2,h3⟩:=h;have hm:p∈(EG own l).take n:=by
   split at h1
   ·next q hq=>cases h1;exact adA hq
   exact List.mem_of_mem_head? h1
  have:=sub p hm;refine⟨this.1,this.2, ?_⟩;rw[←h2];have:=agE.1 hf p hm
  simpa using this
theorem Mi.zB{M:Mo}(K:Mi M)(c:Nat):nc M (M.ia c):=⟨K.rf K.x rfl rfl rfl rfl rfl rfl rfl rfl,eI K.p rfl rfl rfl⟩
theorem Ox{M N:Mo}(K:Mi M)(hh:M.hole=none){c p:Nat}(hc:c<M.iW)(hp:M.has p){o:Option Nat}(h:M.last c p=(o,N)):
  nc (M.cD p) N∧(o=none→N.hole=none)∧(∀r,o=some r→N.hole=some r∧N.C.cl r=c)∧N.v.aM=M.v.aM∧N.v.mt=M.v.mt∧N.v.c=M.v.c:=by
 have A:=K.cD hp;unfold Mo.last at h;cases ht:(M.cD p).take c with
 |none=>
  rw[ht]at h;cases h;exact⟨⟨A, .refl A.p⟩,λ_=>hh,(λr e=>by cases e),rfl,rfl,rfl⟩
 |some x=>
  obtain⟨r,D⟩:=x;rw[ht]at h;cases h;obtain⟨G,h1,h2,h3,h4,_,_⟩:=A.take (show(M.cD p).hole=none from hh) (show c<(M.cD p).iW from hc) ht;exact⟨G,(λe=>by cases e),λq e=>by cases e;exact⟨h1,h4⟩,by rw[h3];rfl,by rw[h3];rfl,by rw[h3];rfl⟩
theorem Dg{M N:Mo}{P:bn}{T:List UInt8→Prop}(S:bb T M P){c:Nat}(hc:c<M.iW)(own:Option Nat){o:Option Nat}(h:M.qo c own=(o,N)):∃m,aem M N P own o c m:=by
 have KM:=S.i;have hh:=S.h;unfold Mo.qo at h;rcases hpk:M.pick c own with⟨v,d,k⟩
 rw[hpk]at h;dsimp only at h;have G0:=KM.uj {M.v.mt with lo:=dy (M.v.mt.lo+(k:Int))};have p0:=nV KM.p G0 rfl rfl;rcases v with _|p
 ·cases d with
  |true=>
   cases h;exact⟨⟨false,none⟩,G0.i,p0.trans S.p,rfl,λ_=>hh,(λr e=>by cases e),(λy e=>by cases e),(λy e=>by cases e),rfl⟩
  |false=>
   have G1:=G0.i.zB c;have p1:=nV G0.i.p G1 rfl rfl;cases h;exact⟨⟨false,none⟩,G1.i,p1.trans (p0.trans S.p),rfl,λ_=>hh,(λr e=>by cases e),(λy e=>by cases e),(λy e=>by cases e),rfl⟩
 obtain⟨m1,m2,m3⟩:=Q0 hpk;have hp:M.has p:=aah m1;cases d with
 |true=>
  have hw:M.bV p≠0:=by simpa using m3
  have G1:=G0.i.uj {(M.bj {M.v.mt with lo:=dy (M.v.mt.lo+(k:Int))}).v.mt with re:=dy ((M.bj {M.v.mt with lo:=dy (M.v.mt.lo+(k:Int))}).v.mt.re+1)};have p1:=nV G0.i.p G1 rfl rfl;obtain⟨G2,n1,n2,n3,n4,n5⟩:=Ox G1.i hh hc (p:=p) hp h;have A:nc _ _:=G1.i.Bg (p:=p) hp hw;have p2:=nV G1.i.p A rfl rfl;have p3:=nV A.i.p G2 n3 n5;refine⟨⟨o.isSome,none⟩,G2.i, ?_,rfl,n1,n2,(λy e=>by cases e),(λy e=>by cases e),by rw[n4];rfl⟩;exact p3.trans (p2.trans (p1.trans (p0.trans S.p)))
 |false=>
  have hw:M.bV p=0:=by simpa using m3
  have G1:=G0.i.zB c;have p1:=nV G0.i.p G1 rfl rfl;have G1b:=G1.i.uj {((M.bj {M.v.mt with lo:=dy (M.v.mt.lo+(k:Int))}).ia c).v.mt with dr:=dy (((M.bj {M.v.mt with lo:=dy (M.v.mt.lo+(k:Int))}).ia c).v.mt.dr+1)};have p1b:=nV G1.i.p G1b rfl rfl;obtain⟨G2,n1,n2,n3,n4,n5⟩:=Ox G1b.i hh hc (p:=p) hp h;have U:=G1b.i.rX (p:=p) hp;have p2:=ES U rfl;have p3:=nV U.i.p G2 n3 n5;refine⟨⟨o.isSome,some (M.it p).key⟩,G2.i, ?_,rfl,n1,n2,λy e q eq hq=> ?_,λy e=> ?_,by rw[n4];rfl⟩
  ·rw[p3,p2,p1b,p1,p0,S.p]
   show(P.set (M.it p).key none).num M.v.aM=P.set (M.it p).key none;rw[←S.aM];rfl
  ·cases e
   exact λe=>m2 (by rw[eq,KM.p.kd p q hp hq e])
  cases e;rw[S.f,rQ KM.p hp,if_pos hw];simp
theorem bb.room{M N:Mo}{P:bn}{T:List UInt8→Prop}(S:bb T M P){n c:Nat}(hc:M.C.af.findIdx? (λz=>decide (n≤z))=some c)(own:Option Nat){o:Option Nat}(h:M.room n own=(o,N)):∃m,aem M N P own o c m∧(ib M 1→m=⟨true,none⟩):=by
 have bX:c<M.iW:=(acV.1 hc).1;by_cases A:ib M 1
 ·obtain⟨r,D,e,G,h1,h2,h3,h4,_,_⟩:=S.i.room S.h (j:=0) A hc own
  rw[e]at h;cases h;exact⟨⟨true,none⟩,⟨G.i,(nV S.i.p G (by rw[h3]) (by rw[h3])).trans S.p,rfl,(λe=>by cases e),λq e=>by cases e;exact⟨h1,h4⟩,(λy e=>by cases e),(λy e=>by cases e),by rw[h3];rfl⟩,λ_=>rfl⟩
 unfold Mo.room at h;rw[hc]at h;dsimp only at h;unfold Mo.wj at h;cases ht:M.take c with
 |some x=>
  obtain⟨r,D⟩:=x;rw[ht]at h;cases h;obtain⟨G,h1,h2,h3,h4,_,_⟩:=S.i.take S.h bX ht;exact⟨⟨true,none⟩,⟨G.i,(nV S.i.p G (by rw[h3]) (by rw[h3])).trans S.p,rfl,(λe=>by cases e),λq e=>by cases e;exact⟨h1,h4⟩,(λy e=>by cases e),(λy e=>by cases e),by rw[h3];rfl⟩,λa=>absurd a A⟩
 |none=>
  rw[ht]at h;dsimp only at h
  split at h
  ·next g=>
   obtain⟨G,hh⟩:=S.i.mstop g.1;have S1:bb T M.mstop P:=S.go G (hh.trans S.h) rfl rfl;cases ry:M.mstop.take c with
   |some x=>
    obtain⟨r,D⟩:=x;rw[ry]at h;cases h;obtain⟨G2,h1,h2,h3,h4,_,_⟩:=S1.i.take S1.h (show c<M.mstop.iW from bX) ry;exact⟨⟨true,none⟩,⟨G2.i,(nV S1.i.p G2 (by rw[h3]) (by rw[h3])).trans S1.p,rfl,(λe=>by cases e),λq e=>by cases e;exact⟨h1,h4⟩,(λy e=>by cases e),(λy e=>by cases e),by rw[h3];rfl⟩,λa=>absurd a A⟩
   |none=>
    rw[ry]at h;obtain⟨m,R⟩:=Dg S1 (show c<M.mstop.iW from bX) own h;exact⟨m,⟨R.i,R.p,R.ok,R.no,R.r,R.own,R.v,R.dr⟩,λa=>absurd a A⟩
  obtain⟨m,R⟩:=Dg S bX own h;exact⟨m,R,λa=>absurd a A⟩
def qq (verb:Int)(vZ:Nat)(o:Option (I3×Nat)):Nat:=aX verb vZ (o.map λx=>x.1.tok) id
theorem Xd (M:Mo)(verb:Int)(vZ:Nat)(old:Option Nat):aX verb vZ old (λp=>(M.it p).tok)=qq verb vZ (old.map M.vw):=by cases old<;>rfl
def bn.mm (P:bn)(c:dI)(k:List UInt8)(o:Option (I3×Nat)):Option (List UInt8×Nat×Nat):=
 if tX c.verb=true then some (c.data,c.fl,cF P.k.now c.ex)else match o with
 |none=>none
 |some x=>if P.c.lim<58+k.length+c.data.length+x.1.val.length then none else some (if c.verb=8 then x.1.val++c.data else c.data++x.1.val,x.1.fl,x.1.exp)
def bn.over (P:bn)(k:List UInt8)(ov:Bool):bn:=if ov=true then P.set k none else P
def nX (pZ:List Nat)(n:Nat):Nat:=(pZ.findIdx? λz=>decide (n≤z)).getD 0
def bn.lays (m:Rm)(P:bn)(k:List UInt8)(ov:Bool)(x:List UInt8×Nat×Nat):ff×bn:=
 if m.ok=true then(.k 1,((P.rm m).put ⟨k,x.1,x.2.1,x.2.2,P.k.now,P.i+1,0⟩ (nX P.z (58+k.length+x.1.length))).num (P.i+1))else(.t hU,(P.rm m).over k ov)
def bn.cU (m:Rm)(P:bn)(c:dI)(k:List UInt8):ff×bn:=
 if c.lg=true∨P.c.lim<58+k.length+c.data.length then(.t bM,P.over k (tX c.verb))
 else if qq c.verb c.tok (P.f k)≠0 then(.k (qq c.verb c.tok (P.f k)),P)
 else match P.mm c k (P.f k)with
  |none=>(.t bM,P)
  |some x=>P.lays m k (tX c.verb) x
def bn.fH (m:Rm)(P:bn)(x:I3×Nat)(n:Nat):ff×bn:=
 if 58+x.1.key.length+(bL n).length≤P.z.getD x.2 0 then(⟨7,[],n,[]⟩,(P.put (({x.1 with val:=bL n,tok:=P.i+1,dB:=x.1.dB-x.1.dB/2 % 4*2}:I3).qF P.k.now) x.2).num (P.i+1))
 else if P.c.lim<58+x.1.key.length+(bL n).length then(.t bM,P)
 else if m.ok=true then(⟨7,[],n,[]⟩,((P.rm m).put ⟨x.1.key,bL n,x.1.fl,x.1.exp,P.k.now,P.i+1,0⟩ (nX P.z (58+x.1.key.length+(bL n).length))).num (P.i+1))else(.t hU,P.rm m)
def bn.counts (m:Rm)(P:bn)(c:dI)(k:List UInt8):ff×bn:=match P.f k with
 |none=>(.k 4,P)
 |some x=>match lq x.1.val with
  |none=>(.t lW,P)
  |some n=>P.fH m x (iI c n)
def bn.eQ (m:Rm)(P:bn)(c:dI):ff×bn:=
 if 1≤c.verb∧c.verb≤4 then P.jX c.verb c.keys c.ex
 else if c.verb=12∨c.verb=13 then P.counts m c (c.keys.headD [])
 else if c.verb=14 then P.cz (c.keys.headD []) c.ex
 else if c.verb=11 then P.delete (c.keys.headD [])
 else if c.verb=15 then(.k 8,P.clock (P.k.flush c.ex P.i))
 else if c.verb=16 then(⟨10,[],0,nB⟩,P)
 else if c.verb=17 then(.k 8,P)
 else if c.verb=18 then(.k 12,P)
 else P.cU m c (c.keys.headD [])
structure MG (M N:Mo)(P:bn)(k:List UInt8)(m:Rm):Prop where
 v:∀y,m.v=some y→P.f y≠none∧y≠k
 dr:N.v.mt.dr=if m.v.isSome=true then dy (M.v.mt.dr+1)else M.v.mt.dr
 am:ib M 1→m=⟨true,none⟩
theorem MG.none{M N:Mo}{P:bn}{k:List UInt8}(h:N.v.mt.dr=M.v.mt.dr):MG M N P k ⟨true,none⟩:=⟨(λy e=>by cases e),h,λ_=>rfl⟩
theorem MG.of{M N O:Mo}{P:bn}{k:List UInt8}{m:Rm}(R:MG N O P k m)(h:N.v.mt.dr=M.v.mt.dr)(a:ib M 1→ib N 1):MG M O P k m:=⟨R.v,by rw[←h];exact R.dr,λg=>R.am (a g)⟩
def bn.Fits (P:bn):Prop:=∀n:Nat,(n:Int)≤P.c.lim→∃c,P.z.findIdx? (λz=>decide (n≤z))=some c
theorem Z1{P:bn}{k:List UInt8}(h:P.f k=none):P.set k none=P:=by
 unfold bn.set;have e:(λz=>if z=k then none else P.f z)=P.f:=funext λz=>by
  by_cases g:z=k
  ·rw[if_pos g,g,h]
  rw[if_neg g]
 rw[e]
theorem rm_f{P:bn}{m:Rm}{k:List UInt8}(h:∀y,m.v=some y→y≠k):(P.rm m).f k=P.f k:=by
 unfold bn.rm
 split
 ·rfl
 next y e=>exact if_neg λg=>h y e g.symm
theorem ae0 (P:bn)(m:Rm):(P.rm m).k=P.k∧(P.rm m).i=P.i:=by
 unfold bn.rm
 split<;>exact⟨rfl,rfl⟩
theorem bb.over{M:Mo}{P:bn}{T:List UInt8→Prop}(S:bb T M P){k:List UInt8}{old:Option Nat}(h0:old=none→P.f k=none)(h1:∀p,old=some p→M.has p∧(M.it p).key=k)(ov:Bool):bb T (M.over old ov) (P.over k ov):=by
 unfold Mo.over bn.over;cases old with
 |none=>
  rw[Z1 (h0 rfl)]
  simpa using S
 |some p=>
  obtain⟨a,b⟩:=h1 p rfl;cases ov with
  |false=>simpa using S
  |true=>
   simp only[if_true];have U:=S.i.rX a;rw[b]at U;exact S.eP U (by rw[←b];exact S.t p a) S.h (i:=P.i) S.aM.symm rfl
theorem HM (M:Mo)(old:Option Nat)(ov:Bool):(M.over old ov).v.mt=M.v.mt:=by
 unfold Mo.over;cases old with
 |none=>rfl
 |some p=>cases ov<;>rfl
theorem H8 (M:Mo)(r:Nat)(old:Option Nat)(n:I3):(M.gf r old n).v.mt=M.v.mt:=by
 unfold Mo.gf;cases old<;>rfl
theorem vi (M:Mo)(k:List UInt8):(M.meet k).2.v.mt=M.v.mt:=by
 unfold Mo.meet
 split
 ·rfl
 ·split<;>rfl
theorem aaJ (M:Mo)(r:Nat)(old:Option Nat)(n:I3):(M.gf r old n).v.c=M.v.c:=by
 unfold Mo.gf;cases old<;>rfl
theorem U2 (k v:List UInt8)(fl ex t n:Nat):(⟨k,v,fl,ex,t,n,0⟩:I3).vw=⟨k,v,fl,ex,t,n,0⟩:=by
 unfold I3.vw;simp only[Nat.zero_div,aiq]
theorem bb.laid{M:Mo}{P:bn}{T:List UInt8→Prop}(S:bb T M P){k:List UInt8}(hT:T k){n c:Nat}(hc:M.C.af.findIdx? (λz=>decide (n≤z))=some c)(old:Option Nat)(h0:old=none→P.f k=none∧∀q,M.has q→(M.it q).key≠k)(h1:∀p,old=some p→M.has p∧(M.it p).key=k∧P.f k≠none){o:Option Nat}{N:Mo}(hr:M.room n old=(o,N)):
  ∃m,m.ok=o.isSome∧MG M N P k m∧(o=none→bb T N (P.rm m))∧(∀p,old=some p→N.has p∧(N.it p).key=k)∧(∀r,o=some r→∀v fl ex,bb T (N.gf r old ⟨k,v,fl,ex,N.k.now,N.v.aM+1,0⟩) (((P.rm m).put ⟨k,v,fl,ex,P.k.now,P.i+1,0⟩ c).num (P.i+1))):=by
 obtain⟨m,R,ha⟩:=S.room hc old hr;have Y:=u9 S.i.co hr;have ne:∀y,m.v=some y→y≠k:=λy e g=>by
  cases old with
  |none=>exact R.v y e (by rw[g];exact(h0 rfl).1)
  |some p=>exact R.own y e p rfl (h1 p rfl).1 (by rw[g,(h1 p rfl).2.1])
 have ht:∀q,N.has q→T (N.it q).key:=λq hq=>by rw[Y.s.it];exact S.t q (Y.s.has q hq)
 have hold:∀p,old=some p→N.has p∧(N.it p).key=k:=λp e=>⟨(Y.s.own p e (h1 p e).1).1,by rw[Y.s.it];exact(h1 p e).2.1⟩;refine⟨m,R.ok,⟨λy e=>⟨R.v y e,ne y e⟩,R.dr,ha⟩,λe=>⟨R.i,R.no e,R.p,ht⟩,hold,λr e v fl ex=> ?_⟩;obtain⟨r1,r2⟩:=R.r r e;obtain⟨U,u1,u2⟩:=R.i.gf r1 old ⟨k,v,fl,ex,N.k.now,N.v.aM+1,0⟩ (λe q hq=>by rw[Y.s.it];exact(h0 e).2 q (Y.s.has q hq)) hold;have q1:P.k=N.k:=by rw[S.oy,Y.s.k]
 have q2:P.i=N.v.aM:=by rw[S.aM,Y.s.aM]
 refine⟨U.i,u1, ?_,λq hq=>by
  rcases U.d q hq with g|⟨w,h2,e2⟩
  ·rw[g];exact hT
  rw[←e2];exact ht w h2⟩
 rw[ES U (aaJ _ _ _ _),R.p,u2,r2];unfold bn.put;rw[(ae0 P m).1,q1,q2,U2]
theorem bb.lays{M:Mo}{P:bn}{T:List UInt8→Prop}(S:bb T M P)(F:P.Fits){old:Option Nat}{k:List UInt8}(hT:T k)(h0:old=none→P.f k=none∧∀q,M.has q→(M.it q).key≠k)(h1:∀p,old=some p→M.has p∧(M.it p).key=k∧P.f k≠none)(ov:Bool)(x:List UInt8×Nat×Nat)(hx:(58+k.length+x.1.length:Nat)≤P.c.lim):
  ∃m,bb T (M.lays k old ov x).2 (P.lays m k ov x).2∧(M.lays k old ov x).1.vw=(P.lays m k ov x).1∧MG M (M.lays k old ov x).2 P k m:=by
 obtain⟨c,hc⟩:=F _ hx;have fb:nX P.z (58+k.length+x.1.length)=c:=by unfold nX;rw[hc];rfl
 rw[S.pZ]at hc;rcases hr:M.room (58+k.length+x.1.length) old with⟨o,N⟩
 obtain⟨m,m1,m2,m3,m4,m5⟩:=S.laid hT hc old h0 h1 hr;refine⟨m, ?_⟩;unfold Mo.lays bn.lays;rw[hr,fb];cases o with
 |none=>
  dsimp only;rw[m1,if_neg (by decide)];refine⟨(m3 rfl).over (λe=>by rw[rm_f λy e=>(m2.v y e).2];exact(h0 e).1) m4 ov,rfl,m2.v, ?_,m2.am⟩;rw[HM];exact m2.dr
 |some r=>
  dsimp only;rw[m1,if_pos (by rfl)];refine⟨m5 r rfl x.1 x.2.1 x.2.2,rfl,m2.v, ?_,m2.am⟩;rw[H8];exact m2.dr
theorem bb.jh{M:Mo}{P:bn}{T:List UInt8→Prop}(S:bb T M P)(F:P.Fits){old:Option Nat}{k:List UInt8}(hT:T k)(h0:old=none→P.f k=none∧∀q,M.has q→(M.it q).key≠k)(h1:∀p,old=some p→M.has p∧(M.it p).key=k∧P.f k=some (M.vw p))(c:dI):
  ∃m,bb T (M.jh c k old).2 (P.cU m c k).2∧(M.jh c k old).1.vw=(P.cU m c k).1∧MG M (M.jh c k old).2 P k m:=by
 have vQ:∀p,old=some p→M.has p∧(M.it p).key=k∧P.f k≠none:=λp e=>⟨(h1 p e).1,(h1 p e).2.1,by rw[(h1 p e).2.2];simp⟩;have ef:P.f k=old.map M.vw:=by
  cases old with
  |none=>exact(h0 rfl).1
  |some p=>exact(h1 p rfl).2.2
 have en:M.mm c k old=P.mm c k (P.f k):=by
  rw[ef];unfold Mo.mm bn.mm;rw[S.oy,S.cfg];cases old<;>rfl
 unfold Mo.jh bn.cU;rw[Xd,←ef,en,S.cfg];by_cases g1:c.lg=true∨M.v.c.lim<58+k.length+c.data.length
 ·rw[if_pos g1]
  simp only[if_pos g1];exact⟨⟨true,none⟩,S.over (λe=>(h0 e).1) (λp e=>⟨(h1 p e).1,(h1 p e).2.1⟩) _,rfl, .none (by rw[HM])⟩
 rw[if_neg g1];simp only[if_neg g1];by_cases g2:qq c.verb c.tok (P.f k)≠0
 ·rw[if_pos g2]
  simp only[if_pos g2];exact⟨⟨true,none⟩,S,rfl, .none rfl⟩
 rw[if_neg g2];simp only[if_neg g2];cases hx:P.mm c k (P.f k)with
 |none=>exact⟨⟨true,none⟩,S,rfl, .none rfl⟩
 |some x=>
  refine S.lays F hT h0 vQ (tX c.verb) x ?_;unfold bn.mm at hx;rw[S.cfg]at hx⊢;have g3:¬M.v.c.lim<58+k.length+c.data.length:=λh=>g1 (.inr h)
  split at hx
  ·cases hx
   simp only;omega
  split at hx
  ·cases hx
  next y hy=>
  split at hx
  ·cases hx
  cases hx;simp only
  split<;>rw[acI]<;>omega
theorem bb.cU{M:Mo}{P:bn}{T:List UInt8→Prop}(S:bb T M P)(F:P.Fits)(c:dI)(k:List UInt8)(hT:T k):
  ∃m,bb T (M.cU c k).2 (P.cU m c k).2∧(M.cU c k).1.vw=(P.cU m c k).1∧MG M (M.cU c k).2 P k m:=by
 obtain⟨S1,h1,h2⟩:=S.meet k;obtain⟨m,a,b,d⟩:=S1.jh (old:=(M.meet k).1) (k:=k) F hT h2 (λp e=>⟨(h1 p e).1,(h1 p e).2.1,(h1 p e).2.2.2⟩) c;exact⟨m,a,b,d.of (by rw[vi]) λA=>A.meet k⟩
theorem Qn (x:I3):({x with dB:=x.dB-x.dB/2 % 4*2+0*2}:I3).vw={x.vw with dB:=x.vw.dB-x.vw.dB/2 % 4*2}:=by
 unfold I3.vw
 congr 1
 dsimp only;omega
theorem bb.fH{M:Mo}{P:bn}{T:List UInt8→Prop}(S:bb T M P)(F:P.Fits){p:Nat}{k:List UInt8}(hp:M.has p)(hk:(M.it p).key=k)(hf:P.f k=some (M.vw p))(n:Nat):
  ∃m,bb T (M.fH p n).2 (P.fH m (M.vw p) n).2∧(M.fH p n).1.vw=(P.fH m (M.vw p) n).1∧MG M (M.fH p n).2 P k m:=by
 unfold Mo.fH bn.fH;rw[S.pZ,S.cfg,show M.C.sz (M.C.cl p)=M.C.af.getD (M.vw p).2 0 from rfl,show(M.vw p).1.key=(M.it p).key from rfl];by_cases g1:58+(M.it p).key.length+(bL n).length≤M.C.af.getD (M.vw p).2 0
 ·rw[if_pos g1]
  simp only[if_pos g1];refine⟨⟨true,none⟩, ?_,rfl, .none rfl⟩;refine S.put (N:=((((M.kA p (bL n)).lS (M.v.aM+1)).tok p (M.v.aM+1)).marks p 0).eO p) hp rfl rfl rfl rfl rfl rfl (λq h=> ?_) (x:=({(M.vw p).1 with val:=bL n,tok:=P.i+1,dB:=(M.vw p).1.dB-(M.vw p).1.dB/2 % 4*2}:I3).qF P.k.now) ?_ rfl (i:=P.i+1) (by rw[S.aM];rfl) rfl
  ·unfold Mo.eO Mo.marks Mo.tok Mo.lS Mo.kA Mo.put
   dsimp only;rw[if_neg h,if_neg h,if_neg h,if_neg h]
  rw[S.oy,S.aM];have e:((((M.kA p (bL n)).lS (M.v.aM+1)).tok p (M.v.aM+1)).marks p 0).it p={({M.it p with val:=bL n,tok:=M.v.aM+1}:I3)with dB:=(M.it p).dB-(M.it p).dB/2 % 4*2+0*2}:=by
   unfold Mo.marks Mo.tok Mo.lS Mo.kA Mo.put;dsimp only;rw[if_pos rfl,if_pos rfl,if_pos rfl]
  have e2:=EO (((((M.kA p (bL n)).lS (M.v.aM+1)).tok p (M.v.aM+1)).marks p 0).it p) M.k.now;rw[e,Qn {M.it p with val:=bL n,tok:=M.v.aM+1}]at e2;refine Eq.trans (congrArg I3.vw ?_) e2;rw[←e];exact if_pos rfl
 rw[if_neg g1];simp only[if_neg g1];by_cases g2:M.v.c.lim<58+(M.it p).key.length+(bL n).length
 ·rw[if_pos g2]
  simp only[if_pos g2];exact⟨⟨true,none⟩,S,rfl, .none rfl⟩
 rw[if_neg g2];simp only[if_neg g2];obtain⟨c,hc⟩:=F (58+(M.it p).key.length+(bL n).length) (by rw[S.cfg];omega);rw[S.pZ]at hc;have fb:nX M.C.af (58+(M.it p).key.length+(bL n).length)=c:=by unfold nX;rw[hc];rfl
 rcases hr:M.room (58+(M.it p).key.length+(bL n).length) (some p)with⟨o,N⟩
 obtain⟨m,m1,m2,m3,m4,m5⟩:=S.laid (k:=k) (by rw[←hk];exact S.t p hp) hc (some p) (λe=>by cases e) (λq e=>by cases e;exact⟨hp,hk,by rw[hf];simp⟩) hr;refine⟨m, ?_⟩;rw[fb];cases o with
 |none=>
  dsimp only;rw[m1,if_neg (by decide)];exact⟨m3 rfl,rfl,m2⟩
 |some r=>
  dsimp only;rw[m1,if_pos (by rfl)];have:=m5 r rfl (bL n) (M.it p).fl (M.it p).exp;rw[←hk]at this m2;refine⟨this,rfl,by rw[←hk];exact m2.v, ?_,m2.am⟩;rw[H8];exact m2.dr
theorem bb.counts{M:Mo}{P:bn}{T:List UInt8→Prop}(S:bb T M P)(F:P.Fits)(c:dI)(k:List UInt8):
  ∃m,bb T (M.counts c k).2 (P.counts m c k).2∧(M.counts c k).1.vw=(P.counts m c k).1∧MG M (M.counts c k).2 P k m:=by
 obtain⟨S1,h1,h2⟩:=S.meet k;have e3:=vi M k;have ea:ib M 1→ib (M.meet k).2 1:=λA=>A.meet k;unfold Mo.counts bn.counts;rcases hm:M.meet k with⟨_|p,N⟩<;>rw[hm]at S1 h1 h2 e3 ea<;>dsimp only at S1 h1 h2 e3 ea⊢
 ·rw[(h2 rfl).1]
  exact⟨⟨true,none⟩,S1,rfl, .none (by rw[e3])⟩
 obtain⟨a,b,d,e⟩:=h1 p rfl;rw[e];dsimp only;rw[show(N.vw p).1.val=(N.it p).val from rfl];cases lq (N.it p).val with
 |none=>exact⟨⟨true,none⟩,S1,rfl, .none (by rw[e3])⟩
 |some n=>
  dsimp only;obtain⟨m,x1,x2,x3⟩:=S1.fH F a b e (iI c n);exact⟨m,x1,x2,x3.of (by rw[e3]) ea⟩
theorem WK (eP:Bool)(ex:Int)(s:List I3×Mo)(y:List UInt8):(Mo.cL eP ex s y).2.v.mt=s.2.v.mt:=by
 have e3:(s.2.meet y).2.v.mt=s.2.v.mt:=by
  unfold Mo.meet
  split
  ·rfl
  ·split<;>rfl
 unfold Mo.cL;rcases hm:s.2.meet y with⟨_|p,N⟩<;>rw[hm]at e3
 ·exact e3
 ·cases eP<;>exact e3
theorem Ij (eP:Bool)(ex:Int):∀(l:List (List UInt8)) (s:List I3×Mo),(l.foldl (Mo.cL eP ex) s).2.v.mt=s.2.v.mt
 | [],_=>rfl
 |y::l,s=>by rw[adm,Ij eP ex l,WK]
theorem bb.eQ{M:Mo}{P:bn}{T:List UInt8→Prop}(S:bb T M P)(F:P.Fits)(c:dI)(hT:T (c.keys.headD [])):
  ∃m,bb T (M.eQ c).2 (P.eQ m c).2∧(M.eQ c).1.vw=(P.eQ m c).1∧MG M (M.eQ c).2 P (c.keys.headD []) m:=by
 unfold Mo.eQ bn.eQ
 split
 ·obtain⟨a,b⟩:=S.jX c.verb c.keys c.ex
  refine⟨⟨true,none⟩,a,b, .none ?_⟩;unfold Mo.jX;dsimp only;rw[Ij]
 split
 ·exact S.counts F c _
 split
 ·obtain⟨a,b⟩:=S.cz (c.keys.headD []) c.ex
  refine⟨⟨true,none⟩,a,b, .none ?_⟩;have:=vi M (c.keys.headD []);unfold Mo.cz;rcases hm:M.meet (c.keys.headD [])with⟨_|p,N⟩<;>rw[hm]at this<;>exact congrArg Mt.dr this
 split
 ·obtain⟨a,b⟩:=S.delete (c.keys.headD [])
  refine⟨⟨true,none⟩,a,b, .none ?_⟩;have:=vi M (c.keys.headD []);unfold Mo.delete;rcases hm:M.meet (c.keys.headD [])with⟨_|p,N⟩<;>rw[hm]at this<;>exact congrArg Mt.dr this
 split
 ·exact⟨⟨true,none⟩,S.flush c.ex,rfl, .none rfl⟩
 split
 ·exact⟨⟨true,none⟩,S,rfl, .none rfl⟩
 split
 ·exact⟨⟨true,none⟩,S,rfl, .none rfl⟩
 split
 ·exact⟨⟨true,none⟩,S,rfl, .none rfl⟩
 exact S.cU F c _ hT
def bn.dO (m:Rm)(P:bn)(c:dI):ff×bn:=if oH c=true then(.t qM,P)else P.eQ m c
theorem zR (M:Mo):M.beside.v.mt.dr=M.v.mt.dr:=by
 unfold Mo.beside Mo.j5 Mo.jf Mo.fe Mo.bj;rfl
theorem Mj (hot warm:Nat)(M:Mo)(k:List UInt8):(M.behind hot warm k).v.mt.dr=M.v.mt.dr:=by
 unfold Mo.behind;rw[zR];unfold Mo.oq
 split<;>rfl
theorem bb.beside{M:Mo}{P:bn}{T:List UInt8→Prop}(S:bb T M P):bb T M.beside P:=S.go (S.i.beside S.h).1 (S.i.beside S.h).2 (pY M).aM (pY M).c
theorem bb.behind{M:Mo}{P:bn}{T:List UInt8→Prop}(S:bb T M P)(hot warm:Nat)(k:List UInt8):bb T (M.behind hot warm k) P:=S.go (S.i.behind S.h hot warm k).1 (S.i.behind S.h hot warm k).2 (tW hot warm M k).aM (tW hot warm M k).c
theorem bb.nF{P:bn}{T:List UInt8→Prop}(hot warm:Nat):∀(l:List (List UInt8)) {M:Mo},bb T M P→bb T (l.foldl (Mo.behind hot warm) M) P
 | [],_,S=>S
 |k::l,_,S=>bb.nF hot warm l (S.behind hot warm k)
theorem x8 (hot warm:Nat):∀(l:List (List UInt8)) (M:Mo),(l.foldl (Mo.behind hot warm) M).v.mt.dr=M.v.mt.dr
 | [],_=>rfl
 |k::l,M=>by rw[adm,x8 hot warm l,Mj]
theorem bb.reset{M:Mo}{P:bn}{T:List UInt8→Prop}(S:bb T M P):bb T M.reset P:=S.go S.i.RG S.h rfl rfl
theorem ib.of{M N:Mo}{j:Nat}(A:ib M j)(h1:N.m.on=M.m.on)(h2:N.C=M.C):ib N j:=A.ev (.rf h1 h2)
theorem bb.dO{M:Mo}{P:bn}{T:List UInt8→Prop}(S:bb T M P)(F:P.Fits)(hot warm:Nat)(c:dI)(hT:T (c.keys.headD [])):
  ∃m,bb T (M.dO hot warm c).2 (P.dO m c).2∧(M.dO hot warm c).1.vw=(P.dO m c).1∧(∀y,m.v=some y→P.f y≠none∧y≠c.keys.headD [])∧(M.dO hot warm c).2.v.mt.dr=(if m.v.isSome=true then 1 else 0)∧(ib M 1→m=⟨true,none⟩):=by
 unfold Mo.dO bn.dO
 split
 ·exact⟨⟨true,none⟩,S.reset,rfl,(λy e=>by cases e),rfl,λ_=>rfl⟩
 obtain⟨m,a,b,d⟩:=S.reset.eQ F c hT;have hd:(M.reset.eQ c).2.v.mt.dr=(if m.v.isSome=true then 1 else 0):=by
  rw[d.dr]
  split<;>rfl
 split
 ·exact⟨m,a.beside,b,d.v,by rw[zR];exact hd,λA=>d.am (A.of rfl rfl)⟩
 exact⟨m,a.nF hot warm _,b,d.v,by rw[x8];exact hd,λA=>d.am (A.of rfl rfl)⟩
def MJ (M N:Mo):Prop:=∃A B,Ev M A∧(B=A∨∃c r,Mi A∧c<A.C.af.length∧A.take c=some (r,B))∧Ev B N
theorem Ev.one{M N:Mo}(E:Ev M N):MJ M N:=⟨N,N,E, .inl rfl, .rf rfl rfl⟩
theorem Ev.then{M N O:Mo}(E:Ev M N)(F:MJ N O):MJ M O:=by
 obtain⟨A,B,h1,h2,h3⟩:=F;exact⟨A,B,E.trans h1,h2,h3⟩
theorem MJ.then{M N O:Mo}(F:MJ M N)(E:Ev N O):MJ M O:=by
 obtain⟨A,B,h1,h2,h3⟩:=F;exact⟨A,B,h1,h2,h3.trans E⟩
theorem Ev.over (M:Mo)(old:Option Nat)(ov:Bool):Ev M (M.over old ov):=by
 unfold Mo.over
 split
 ·split
  ·exact Ev.cD M _
  exact .rf rfl rfl
 exact .rf rfl rfl
theorem vd{M:Mo}(K:Mi M)(hh:M.hole=none)(A:ib M 1)(n:Nat)(own:Option Nat){o:Option Nat}{N:Mo}(h:M.room n own=(o,N)):N=M∨∃c r,Mi M∧c<M.C.af.length∧M.take c=some (r,N):=by
 cases hc:M.C.af.findIdx? (λz=>decide (n≤z))with
 |none=>
  unfold Mo.room at h;rw[hc]at h;cases h;exact .inl rfl
 |some c=>
  obtain⟨r,D,e,_,_,_,_,_,_,t⟩:=K.room hh (j:=0) A hc own;rw[e]at h;cases h;exact .inr ⟨c,r,K,(acV.1 hc).1,t⟩
theorem We{M:Mo}(K:Mi M)(hh:M.hole=none)(A:ib M 1)(k:List UInt8)(old:Option Nat)(ov:Bool)(x:List UInt8×Nat×Nat):MJ M (M.lays k old ov x).2:=by
 unfold Mo.lays;rcases hr:M.room (58+k.length+x.1.length) old with⟨_|r,N⟩
 ·exact⟨M,N, .rf rfl rfl,vd K hh A _ _ hr,Ev.over _ _ _⟩
 exact⟨M,N, .rf rfl rfl,vd K hh A _ _ hr,Ev.gf _ _ _ _⟩
theorem Ev.cL (eP:Bool)(ex:Int)(s:List I3×Mo)(y:List UInt8):Ev s.2 (Mo.cL eP ex s y).2:=by
 have e:=Ev.meet s.2 y;unfold Mo.cL;rcases hm:s.2.meet y with⟨_|p,N⟩<;>rw[hm]at e
 ·exact e
 cases eP
 ·exact e.trans (.rf rfl rfl)
 exact e.trans (.rf rfl rfl)
theorem Ev.jX (eP:Bool)(ex:Int):∀(l:List (List UInt8)) (s:List I3×Mo),Ev s.2 (l.foldl (Mo.cL eP ex) s).2
 | [],_=> .rf rfl rfl
 |y::l,s=>by rw[adm];exact(Ev.cL eP ex s y).trans (Ev.jX eP ex l _)
theorem vA{M:Mo}{P:bn}{T:List UInt8→Prop}(S:bb T M P)(A:ib M 1)(c:dI):MJ M (M.eQ c).2:=by
 unfold Mo.eQ
 split
 ·exact(Ev.jX _ _ c.keys ([],M)).one
 split
 ·have e:=Ev.meet M (c.keys.headD [])
  have S1:=(S.meet (c.keys.headD [])).1;have A1:=A.meet (c.keys.headD []);unfold Mo.counts;rcases hm:M.meet (c.keys.headD [])with⟨_|p,N⟩<;>rw[hm]at e S1 A1
  ·exact e.one
  dsimp only at S1 A1⊢;cases lq (N.it p).val with
  |none=>exact e.one
  |some n=>
   refine e.then ?_;dsimp only;unfold Mo.fH
   split
   ·exact Ev.one (by exact .rf rfl rfl)
   split
   ·exact Ev.one (by exact .rf rfl rfl)
   rcases hr:N.room (58+(N.it p).key.length+(bL (iI c n)).length) (some p)with⟨_|r,R⟩
   ·exact⟨N,R, .rf rfl rfl,vd S1.i S1.h A1 _ _ hr, .rf rfl rfl⟩
   exact⟨N,R, .rf rfl rfl,vd S1.i S1.h A1 _ _ hr,by dsimp only;exact Ev.gf _ _ _ _⟩
 split
 ·have e:=Ev.meet M (c.keys.headD [])
  unfold Mo.cz;rcases hm:M.meet (c.keys.headD [])with⟨_|p,N⟩<;>rw[hm]at e
  ·exact e.one
  exact Ev.one (e.trans (by exact .rf rfl rfl))
 split
 ·have e:=Ev.meet M (c.keys.headD [])
  unfold Mo.delete;rcases hm:M.meet (c.keys.headD [])with⟨_|p,N⟩<;>rw[hm]at e
  ·exact e.one
  exact Ev.one (e.trans (by exact Ev.cD _ _))
 split
 ·exact Ev.one (by exact .rf rfl rfl)
 split
 ·exact Ev.one (by exact .rf rfl rfl)
 split
 ·exact Ev.one (by exact .rf rfl rfl)
 split
 ·exact Ev.one (by exact .rf rfl rfl)
 have e:=Ev.meet M (c.keys.headD []);have S1:=(S.meet (c.keys.headD [])).1;have A1:=A.meet (c.keys.headD []);unfold Mo.cU;refine e.then ?_;unfold Mo.jh
 split
 ·exact(Ev.over _ _ _).one
 split
 ·exact Ev.one (by exact .rf rfl rfl)
 split
 ·exact Ev.one (by exact .rf rfl rfl)
 exact We S1.i S1.h A1 _ _ _ _
theorem U8{M N:Mo}{c r:Nat}(h:M.take c=some (r,N)):M.C.spare≤N.C.spare+1∧N.m=M.m:=by
 unfold Mo.take at h
 split at h
 ·next p D hD=>
  cases h;refine⟨?_,rfl⟩;unfold Cs.eA at hD
  split at hD
  ·cases hD;exact ahz _
  split at hD
  ·cases hD
  next i _=>
  split at hD
  ·cases hD
   show M.C.spare≤M.C.spare-1+1;omega
  cases hD
 cases h
theorem MJ.T0{M N:Mo}{j:Nat}(A:ib M (j+1))(E:MJ M N):ib N j:=by
 obtain⟨B,D,h1,h2,h3⟩:=E;have A1:=A.ev h1;have A2:ib D j:=by
  rcases h2 with rfl|⟨c,r,_,_,h⟩
  ·exact A1.le (ahz j)
  obtain⟨g1,g2⟩:=U8 h;exact⟨by rw[g2];exact A1.on,by have:=A1.sp;omega⟩
 exact A2.ev h3
theorem agd{M:Mo}{P:bn}{T:List UInt8→Prop}(S:bb T M P){j:Nat}(A:ib M (j+2))(hot warm:Nat)(c:dI):MJ M (M.dO hot warm c).2:=by
 have E0:Ev M M.reset:= .rf rfl rfl;unfold Mo.dO
 split
 ·exact E0.one
 have A0:ib M.reset (j+1+1):=A.ev E0;have E:=vA S.reset (A0.le (adt (acS _))) c;have A1:=E.T0 A0
 split
 ·exact E0.then (E.then (A1.le (adt (acS _))).beside)
 exact E0.then (E.then (ib.nF hot warm _ A1))
theorem ab5{M:Mo}{P:bn}{T:List UInt8→Prop}(S:bb T M P){j:Nat}(A:ib M (j+2))(hot warm:Nat)(c:dI):ib (M.dO hot warm c).2 (j+1):=(agd S A hot warm c).T0 A
structure MH (M:Mo)(s:Nat):Prop where
 st:M.m.st≤s
 tn:M.tn≤s
 aM:M.v.aM≤s
theorem PJ{M:Mo}{P:bn}{T:List UInt8→Prop}(S:bb T M P){s:Nat}(R:MH M s)(hot warm:Nat)(c:dI):MH (M.dO hot warm c).2 (s+c.keys.length+1)∧(M.dO hot warm c).2.v.p=M.v.p∧(M.dO hot warm c).2.v.c=M.v.c:=by
 have r1:=R.st;have r2:=R.tn;have r3:=R.aM;unfold Mo.dO
 split
 ·exact⟨⟨by show M.m.st≤_;omega,by show M.tn≤_;omega,by show M.v.aM≤_;omega⟩,rfl,rfl⟩
 have KD:=IB S.reset.i.co S.h c;have k1:_=M.m.st:=KD.st;have k2:_≤M.v.aM+1:=KD.aM;have k3:_≤M.tn+max c.keys.length 1:=KD.tn;have k4:_=M.v.p:=KD.p;have k5:_=M.v.c:=KD.c;generalize (M.reset.eQ c).2=N at*
 split
 ·have B:=pY N
  have b1:=B.st;have b2:=B.aM;have b3:=B.tn;exact⟨⟨by dsimp only;omega,by dsimp only;omega,by dsimp only;omega⟩,B.p.trans k4,B.c.trans k5⟩
 have B:=ru hot warm c.keys N;have b1:=B.st;have b2:=B.aM;have b3:=B.tn;exact⟨⟨by dsimp only;omega,by dsimp only;omega,by dsimp only;omega⟩,B.p.trans k4,B.c.trans k5⟩
theorem Ca (P:bn)(m:Rm):(P.rm m).c=P.c∧(P.rm m).z=P.z:=by
 unfold bn.rm
 split<;>exact⟨rfl,rfl⟩
theorem AZ (P:bn)(k:List UInt8)(ov:Bool):(P.over k ov).c=P.c∧(P.over k ov).z=P.z:=by
 unfold bn.over
 split<;>exact⟨rfl,rfl⟩
theorem Il (eP:Bool)(ex:Int):∀(l:List (List UInt8)) (s:List I3×bn),(l.foldl (bn.cL eP ex) s).2.c=s.2.c∧(l.foldl (bn.cL eP ex) s).2.z=s.2.z
 | [],_=>⟨rfl,rfl⟩
 |y::l,s=>by
  obtain⟨a,b⟩:=Il eP ex l (bn.cL eP ex s y);have h:(bn.cL eP ex s y).2.c=s.2.c∧(bn.cL eP ex s y).2.z=s.2.z:=by
   unfold bn.cL
   split<;>exact⟨rfl,rfl⟩
  exact⟨a.trans h.1,b.trans h.2⟩
theorem age (m:Rm)(P:bn)(c:dI):(P.dO m c).2.c=P.c∧(P.dO m c).2.z=P.z:=by
 unfold bn.dO
 split
 ·exact⟨rfl,rfl⟩
 unfold bn.eQ
 split
 ·exact Il _ _ c.keys ([],P)
 split
 ·unfold bn.counts
  split
  ·exact⟨rfl,rfl⟩
  split
  ·exact⟨rfl,rfl⟩
  unfold bn.fH
  split
  ·exact⟨rfl,rfl⟩
  split
  ·exact⟨rfl,rfl⟩
  split
  ·exact Ca P m
  exact Ca P m
 split
 ·unfold bn.cz
  split<;>exact⟨rfl,rfl⟩
 split
 ·unfold bn.delete
  split<;>exact⟨rfl,rfl⟩
 split
 ·exact⟨rfl,rfl⟩
 split
 ·exact⟨rfl,rfl⟩
 split
 ·exact⟨rfl,rfl⟩
 split
 ·exact⟨rfl,rfl⟩
 unfold bn.cU
 split
 ·exact AZ _ _ _
 split
 ·exact⟨rfl,rfl⟩
 split
 ·exact⟨rfl,rfl⟩
 unfold bn.lays
 split
 ·exact Ca P m
 exact⟨(AZ _ _ _).1.trans (Ca P m).1,(AZ _ _ _).2.trans (Ca P m).2⟩
theorem vC{m:Rm}{P:bn}{c:dI}(F:P.Fits):(P.dO m c).2.Fits:=by
 obtain⟨a,b⟩:=age m P c;unfold bn.Fits;rw[a,b];exact F
def bn.tick (P:bn)(n:Int):bn:=if P.k.Ew n=0 then P.clock (P.k.move n P.i)else P
theorem bb.tick{M:Mo}{P:bn}{T:List UInt8→Prop}(S:bb T M P)(n:Int):bb T (M.tick n) (P.tick n):=by
 unfold Mo.tick bn.tick;rw[S.oy]
 split
 ·have S1:bb T (M.dV n) (P.clock (M.k.move n P.i)):=by
   rw[S.aM];exact S.clock rfl rfl S.i.x rfl rfl rfl rfl rfl rfl (zn _ _ _).1 (zn _ _ _).2
  have S2:=S1.reset;obtain⟨a1,a2,a3,a4,a5,a6,a7⟩:=mO (M.dV n).reset (M.dV n).k.now 64;have G:=S2.i.xh (M.dV n).k.now 64;have S3:=S2.go G (a1.trans S2.h) a6 a5;exact S3.go (S3.i.uj _) S3.h rfl rfl
 exact S
theorem JY{l:List Nat}{p:Nat}(nd:l.Nodup)(h:p∈l)(g:∀q∈l,q=p):l.length=1:=by
 cases l with
 |nil=>cases h
 |cons a r=>
  cases r with
  |nil=>rfl
  |cons b r=>
   have h1:=g a acF;have h2:=g b (acC _ acF);rw[h1,h2]at nd;exact absurd acF (acP.1 nd).1
theorem Wc{B:Bx}{M:Mo}{P:bn}{k:List UInt8}(O:bY B M)(S:bb (λy=>y=k) M P)(h:P.f k≠none):M.n=1:=by
 cases hx:P.f k with
 |none=>exact absurd hx h
 |some x=>
  rw[S.f]at hx;obtain⟨p,h1,h2,_,_⟩:=(mG S.i.p).1 hx;rw[←O.n,O.t.n];refine JY O.t.nd ((O.al p).2 h1) λq hq=> ?_;have g:=(O.al q).1 hq;exact S.i.p.kd q p g h1 ((S.t q g).trans h2.symm)
theorem HS{c:pB}{pc:ua}{k:Ck}{q:Nat}(h:(fk c pc k).has q):False:=by
 obtain⟨i,hi⟩:=h;rw[show(fk c pc k).Q=acA ((dw c).af.length*3) []from rfl,EY]at hi;cases hi
def rF (c:pB):bn:=⟨λ_=>none,⟨1,0,0⟩,0,c,cV c⟩
theorem sf{c:pB}(h:lz c=0)(pc:ua)(T:List UInt8→Prop):bb T (fk c pc ⟨1,0,0⟩) (rF c):=by
 have O:=HT h pc ⟨1,0,0⟩ ⟨acG _,by decide,by decide,λh=>absurd rfl h,by decide⟩ 0;refine⟨O.mi,rfl, ?_,λq hq=>(HS hq).elim⟩;unfold Mo.ps rF;rw[show(fk c pc ⟨1,0,0⟩).lp=λ_=>none from funext λz=>AT λq hq=>(HS hq).elim];rfl
theorem VX (c:pB)(pc:ua)(k:Ck):ib (fk c pc k) c.cH.toNat:=⟨rfl,acG _⟩
theorem A5 (c:pB)(pc:ua)(k:Ck):MH (fk c pc k) 0:=⟨acG _,acG _,acG _⟩
theorem Bh{P:bn}{z:Nat}(h:z∈P.z)(hl:P.c.lim≤z):P.Fits:=λn hn=>by
 cases hf:P.z.findIdx? (λz=>decide (n≤z))with
 |some c=>exact⟨c,rfl⟩
 |none=>
  have:=agE.1 hf z h;simp only[decide_eq_false_iff_not]at this;omega
theorem H5{M:Mo}{P:bn}{T:List UInt8→Prop}(S:bb T M P){k:List UInt8}{x:I3}{c:Nat}(h:P.f k=some (x,c)):∃p,M.live k=some p∧(M.it p).vw=x:=by
 rw[S.f]at h;unfold Mo.lp at h;cases hl:M.live k with
 |none=>rw[hl]at h;cases h
 |some p=>
  rw[hl]at h;simp only[Option.map_some,Option.some.injEq]at h;exact⟨p,rfl,congrArg Prod.fst h⟩
def lh:Rm:=⟨true,none⟩
theorem w8{M:Mo}{P:bn}{T:List UInt8→Prop}(S:bb T M P)(F:P.Fits){j s:Nat}(A:ib M (j+2))(R:MH M s)(hot warm:Nat)(c:dI)(hT:T (c.keys.headD [])):
  (bb T (M.dO hot warm c).2 (P.dO lh c).2∧(M.dO hot warm c).1.vw=(P.dO lh c).1∧ib (M.dO hot warm c).2 (j+1)∧MH (M.dO hot warm c).2 (s+c.keys.length+1))∧(M.dO hot warm c).2.v.p=M.v.p∧(M.dO hot warm c).2.v.c=M.v.c:=by
 obtain⟨m,a,b,_,_,h⟩:=S.dO F hot warm c hT;obtain rfl:=h (A.le (adt (acS _)));obtain⟨r1,r2,r3⟩:=PJ S R hot warm c;exact⟨⟨a,b,ab5 S A hot warm c,r1⟩,r2,r3⟩
structure Rdy (M:Mo):Prop where
 h:M.hole=none
 st:M.m.st≤1000
 tn:M.tn≤1000
 aM:M.v.aM≤1000
 p:uL M.v.p
 lim:M.v.c.lim≤1048576
structure Rdo (M:Mo)(c:dI):Prop where
 r:Rdy M
 a:ib M 1
 b:ib (M.reset.eQ c).2 1
theorem EW{M:Mo}{P:bn}{T:List UInt8→Prop}(S:bb T M P){s:Nat}(R:MH M s)(hs:s≤1000)(hp:uL M.v.p)(hl:M.v.c.lim≤1048576):Rdy M:=⟨S.h,agC R.st hs,agC R.tn hs,agC R.aM hs,hp,hl⟩
theorem EX{M:Mo}{P:bn}{T:List UInt8→Prop}(S:bb T M P){j:Nat}(A:ib M (j+2))(R:Rdy M)(c:dI):Rdo M c:=⟨R,A.le (adt (acS _)),((vA S.reset ((A.le (adt (acS _))).of rfl rfl) c).T0 (A.of rfl rfl:ib M.reset (j+1+1))).le (adt (acS _))⟩
theorem xb:uL jD:=⟨by decide,by decide,by decide,by decide⟩
def cW:pB:=⟨4096,4,200,64,256,30,30⟩
def sV (v:Int)(fl tok:Nat)(b:UInt8):dI:=⟨v,[[97]],fl,0,tok,0,[b],false,false,[]⟩
theorem aca:lz cW=0:=by decide+kernel
theorem ab9:qE cW jD=0:=by decide+kernel
theorem pW1:((rF cW).dO lh (sV 5 5 0 120)).1.kind=1:=by kernel_rfl
theorem pW2:(((rF cW).dO lh (sV 5 5 0 120)).2.dO lh (sV 10 0 1 121)).1.kind=1:=by kernel_rfl
theorem pW3:((((rF cW).dO lh (sV 5 5 0 120)).2.dO lh (sV 10 0 1 121)).2.dO lh (sV 10 0 1 122)).1.kind=3:=by kernel_rfl
theorem pWf:((((rF cW).dO lh (sV 5 5 0 120)).2.dO lh (sV 10 0 1 121)).2.dO lh (sV 10 0 1 122)).2.f [97]=some (⟨[97],[121],0,0,1,2,0⟩,0):=by kernel_rfl
theorem Dz (hot warm:Nat):∀r1 r2 r3,(fk cW jD ⟨1,0,0⟩).dO hot warm (sV 5 5 0 120)=r1→r1.2.dO hot warm (sV 10 0 1 121)=r2→r2.2.dO hot warm (sV 10 0 1 122)=r3→
  ((Rdo (fk cW jD ⟨1,0,0⟩) (sV 5 5 0 120)∧Rdo r1.2 (sV 10 0 1 121)∧Rdo r2.2 (sV 10 0 1 122))∧r1.1.kind=1∧r2.1.kind=1∧r3.1.kind=3)∧∃P,bb (λy=>y= [97]) r3.2 P∧P.f [97]=some (⟨[97],[121],0,0,1,2,0⟩,0):=by
 intro r1 r2 r3 e1 e2 e3;have w0:(fk cW jD ⟨1,0,0⟩).v.c.lim≤1048576:=show(256:Int)≤1048576 by decide
 have F0:(rF cW).Fits:=Bh (z:=256) (show 256∈cV cW by decide+kernel) (by decide);have S0:bb (λy=>y= [97]) (fk cW jD ⟨1,0,0⟩) (rF cW):=sf aca jD _;have A0:ib (fk cW jD ⟨1,0,0⟩) (2+2):=VX cW jD _;have R0:=A5 cW jD ⟨1,0,0⟩;obtain⟨⟨S1,k1,A1,R1⟩,p1,c1⟩:=w8 S0 F0 A0 R0 hot warm (sV 5 5 0 120) rfl;rw[e1]at S1 k1 A1 R1 p1 c1;obtain⟨⟨S2,k2,A2,R2⟩,p2,c2⟩:=w8 S1 (vC F0) A1 R1 hot warm (sV 10 0 1 121) rfl;rw[e2]at S2 k2 A2 R2 p2 c2;obtain⟨⟨S3,k3,A3,R3⟩,p3,c3⟩:=w8 S2 (vC (vC F0)) (j:=0) A2 R2 hot warm (sV 10 0 1 122) rfl;rw[e3]at S3 k3 A3 R3;exact⟨⟨⟨EX S0 A0 (EW S0 R0 (by decide) xb w0) _,EX S1 A1 (EW S1 R1 (by decide) (p1.symm▸xb) (c1.symm▸w0)) _,EX S2 (j:=0) A2 (EW S2 R2 (by decide) (p2.symm▸p1.symm▸xb) (c2.symm▸c1.symm▸w0)) _⟩,(congrArg ff.kind k1).trans pW1,(congrArg ff.kind k2).trans pW2,(congrArg ff.kind k3).trans pW3⟩,_,S3,pWf⟩
def cA:pB:=⟨4096,64,200,64,512,30,30⟩
theorem wP:lz cA=0:=by decide+kernel
theorem bb.aK{M:Mo}{P:bn}{T:List UInt8→Prop}(S:bb T M P)(a:Option Addr)(c:Nat):bb T (M.aK a c) P:=S.go ⟨S.i.rf S.i.x rfl rfl rfl rfl rfl rfl rfl rfl,eI S.i.p rfl rfl rfl⟩ S.h rfl rfl
theorem Vj{l:List Bool}(h:∀b∈l,b=true):(l.map bN).sum=l.length:=by
 induction l with
 |nil=>rfl
 |cons b l ih=>
  rw[acM,ac0,ih λc hc=>h c (acC _ hc),h b acF,ac7];show 1+l.length=_;omega
theorem y3{α:Type}(f g:α→Nat)(k:Nat):∀l:List α,(∀x∈l,f x=g x*k)→(l.map f).sum=(l.map g).sum*k
 | [],_=>by simp
 |x::l,h=>by
  rw[acM,ac0,acM,ac0,h x acF,y3 f g k l λy hy=>h y (acC _ hy),Nat.add_mul]
theorem Gn{C:Cs}(K:Ok C)(hl:∀i,(C.pg i).lv=false){c:Nat}(hc:c<C.af.length)(he:(C.rw c).free= []):(C.rw c).gQ=(C.rw c).cH*(C.aq/C.sz c):=by
 rw[K.ft c hc,K.fp c hc];unfold Cs.D9;refine y3 _ _ _ _ λx hx=> ?_;obtain⟨i,hi,rfl⟩:=acR hx;have aw:i<C.n:=by rw[←K.pl];exact hi
 have jv:C.pg i=C.cR[i]:=by
  have:=mA hi;rw[acx hi]at this;exact(Option.some.inj this).symm
 have P:mw C (C.pg i):=K.pg _ (gM hi);rw[←jv];unfold yf zX;by_cases ho:(C.pg i).own=true∧(C.pg i).cl=c
 ·rw[if_pos ho,if_pos ho,Nat.one_mul,P.held,Vj,P.tl,P.gl ho.1,ho.2]
  intro b hb;obtain⟨k,hk,rfl⟩:=acR hb;refine acH λhf=> ?_;have hf:(C.pg i).tk[k]=false:=by simpa using hf
  obtain⟨e1,e2,A⟩:=CR K aw ho.1 (k:=k) (by rw[←P.tl];exact hk);have F:zZ C c (C.yh i k):=⟨A,by unfold Cs.cl;rw[e1];exact ho.2,by rw[e1,e2,acx hk,hf],by rw[e1];exact hl i⟩;have:=K.fa c _ F hc;rw[he]at this;cases this
 rw[if_neg ho,if_neg ho,aiq]
theorem adR{α:Type}(f0 f1 f2 f3 f4:α→Nat):∀l:List α,(∀x∈l,f0 x+f1 x+f2 x+f3 x+f4 x=1)→(l.map f0).sum+(l.map f1).sum+(l.map f2).sum+(l.map f3).sum+(l.map f4).sum=l.length
 | [],_=>by simp
 |x::l,h=>by
  have a:=adR f0 f1 f2 f3 f4 l λy hy=>h y (acC _ hy);have b:=h x acF;simp only[acM,ac0,ac7];omega
theorem aap{C:Cs}(K:Ok C)(h4:C.af.length=4):(C.rw 0).cH+(C.rw 1).cH+(C.rw 2).cH+(C.rw 3).cH+C.spare=C.n:=by
 rw[K.fp 0 (by omega),K.fp 1 (by omega),K.fp 2 (by omega),K.fp 3 (by omega),K.sp,←K.pl];unfold Cs.D9;refine adR _ _ _ _ _ _ λx hx=> ?_;have P:=K.pg x hx;unfold zX yk;cases ho:x.own with
 |false=>simp
 |true=>
  have:=P.cl ho;have hx4:x.cl=0∨x.cl=1∨x.cl=2∨x.cl=3:=by omega
  rcases hx4 with e|e|e|e<;>simp[e]
structure Roo (M:Mo)(t:Nat):Prop where
 on:M.m.on=false
 n:M.C.n=64
 ps:M.C.aq=4096
 sz:M.C.af= [64,128,256,512]
 tk:∀c,(M.C.rw c).gQ≤t
 pg:∀c,c<4→(M.C.rw c).cH≤t/(4096/M.C.sz c)+1
theorem Roo.ev{M N:Mo}{t:Nat}(R:Roo M t)(E:Ev M N):Roo N t:=by
 have hs:∀c,N.C.sz c=M.C.sz c:=λc=>by unfold Cs.sz;rw[E.g.sz]
 exact⟨E.on.trans R.on,E.g.n.trans R.n,E.g.ps.trans R.ps,E.g.sz.trans R.sz,λc=>agC (E.g.tk c) (R.tk c),λc hc=>by rw[E.g.pg c,hs c];exact R.pg c hc⟩
theorem Roo.T0{M:Mo}{t:Nat}(R:Roo M t)(K:Ok M.C)(ht:t≤200):ib M 1:=by
 refine⟨R.on, ?_⟩;have h4:=aap K (by rw[R.sz];rfl);have p:=R.pg;unfold Cs.sz at p;rw[R.sz]at p;have p0:=p 0 (by decide);have p1:=p 1 (by decide);have p2:=p 2 (by decide);have p3:=p 3 (by decide);simp only[List.getD_cons_zero,List.getD_cons_succ]at p0 p1 p2 p3;rw[R.n]at h4;omega
theorem Roo.up{M:Mo}{t:Nat}(R:Roo M t):Roo M (t+1):=
 ⟨R.on,R.n,R.ps,R.sz,λc=>Nat.le_succ_of_le (R.tk c),λc hc=>agC (R.pg c hc) (Nat.add_le_add_right (ahZ (ahz t)) 1)⟩
theorem Roo.take{M N:Mo}{t c r:Nat}(R:Roo M t)(K:Mi M)(hc:c<M.C.af.length)(h:M.take c=some (r,N)):Roo N (t+1):=by
 have GR:c<M.C.rows.length:=by rw[K.k.rl];exact hc
 have Ul:c<4:=by rw[R.sz]at hc;exact hc
 have hl:∀i,(M.C.pg i).lv=false:=λi=>by
  refine Bool.eq_false_iff.2 λe=> ?_;have:=(K.go i e).1;rw[R.on]at this;cases this
 have hu:=R.up;unfold Mo.take at h
 split at h
 ·next p D hD=>
  cases h;unfold Cs.eA at hD
  split at hD
  ·cases hD
   have hw:∀d,(M.C.fi c r).rw d=if d=c then{M.C.rw c with free:=(M.C.rw c).free.dropLast,gQ:=(M.C.rw c).gQ+1}else M.C.rw d:=λd=>Aq GR d
   refine⟨R.on,R.n,R.ps,R.sz,λd=> ?_,λd hd=> ?_⟩
   ·show((M.C.fi c r).rw d).gQ≤_
    rw[hw]
    split
    ·exact adt (R.tk c)
    exact hu.tk d
   show((M.C.fi c r).rw d).cH≤_;rw[hw]
   split
   ·next e=>rw[e];exact hu.pg c Ul
   exact hu.pg d hd
  next he=>
  split at hD
  ·cases hD
  next i _=>
  split at hD
  ·next q _=>
   cases hD;have he:(M.C.rw c).free= []:=List.getLast?_eq_none_iff.1 he;have hf:=Gn K.k hl hc he;have hv:∀d,(M.C.bG i c).rw d=if d=c then{M.C.rw c with cH:=(M.C.rw c).cH+1,mc:=(M.C.rw c).mc+1,free:=(M.C.rw c).free++M.C.gP i c (acA (M.C.aq/M.C.sz c) false)}else M.C.rw d:=λd=>Aq GR d
   have hcr2:c<(M.C.bG i c).rows.length:=by
    show c<(M.C.rows.set c _).length;rw[acE];exact GR
   have hw:∀d,((M.C.bG i c).fi c r).rw d=if d=c then{(M.C.bG i c).rw c with free:=((M.C.bG i c).rw c).free.dropLast,gQ:=((M.C.bG i c).rw c).gQ+1}else(M.C.bG i c).rw d:=λd=>Aq hcr2 d
   refine⟨R.on,R.n,R.ps,R.sz,λd=> ?_,λd hd=> ?_⟩
   ·show(((M.C.bG i c).fi c r).rw d).gQ≤_
    rw[hw]
    split
    ·show((M.C.bG i c).rw c).gQ+1≤_
     rw[hv,if_pos rfl];exact adt (R.tk c)
    next e=>rw[hv,if_neg e];exact hu.tk d
   show(((M.C.bG i c).fi c r).rw d).cH≤_;rw[hw]
   split
   ·next e=>
    rw[e];show((M.C.bG i c).rw c).cH≤_;rw[hv,if_pos rfl];show(M.C.rw c).cH+1≤(t+1)/(4096/M.C.sz c)+1;have ht:=R.tk c;rw[hf,R.ps]at ht;have hp:0<4096/M.C.sz c:=by
     unfold Cs.sz;rw[R.sz];have h4:c=0∨c=1∨c=2∨c=3:=by omega
     rcases h4 with e|e|e|e<;>rw[e]<;>decide
    have:=(Nat.le_div_iff_mul_le hp).2 ht;have:t/(4096/M.C.sz c)≤(t+1)/(4096/M.C.sz c):=ahZ (ahz t);omega
   next e=>rw[hv,if_neg e];exact hu.pg d hd
  cases hD
 cases h
theorem Roo.one{M N:Mo}{t:Nat}(R:Roo M t)(E:MJ M N):Roo N (t+1):=by
 obtain⟨A,B,h1,h2,h3⟩:=E;refine Roo.ev ?_ h3;rcases h2 with rfl|⟨c,r,K,hc,h⟩
 ·exact(R.ev h1).up
 exact(R.ev h1).take K hc h
theorem Roo.dO{M:Mo}{P:bn}{T:List UInt8→Prop}(S:bb T M P)(F:P.Fits){t:Nat}(R:Roo M t)(ht:t<200)(hot warm:Nat)(c:dI)(hT:T (c.keys.headD [])):Roo (M.dO hot warm c).2 (t+1):=by
 have R1:Roo M.reset t:=R.ev (.rf rfl rfl);unfold Mo.dO
 split
 ·exact R1.up
 obtain⟨_,a,_⟩:=S.reset.eQ F c hT;have R2:=R1.one (vA S.reset (R1.T0 S.reset.i.k (ahO ht)) c);have A2:=R2.T0 a.i.k ht
 split
 ·exact R2.ev A2.beside
 exact R2.ev (ib.nF hot warm _ A2)
theorem Dv:cV cA= [64,128,256,512]:=by decide+kernel
theorem HR (pc:ua)(k:Ck):Roo (fk cA pc k) 0:=by
 have hr:∀c,(fk cA pc k).C.rw c=⟨[],0,0,0⟩:=λc=>by
  show(acA (cV cA).length (⟨[],0,0,0⟩:Rw)).getD c ⟨[],0,0,0⟩=_;rw[acy,List.getElem?_replicate]
  split<;>rfl
 refine⟨rfl,rfl,rfl,Dv,λc=> ?_,λc _=> ?_⟩
 ·rw[hr c];exact acS _
 rw[hr c];exact acS _
theorem Ev.tick (M:Mo)(n:Int):Ev M (M.tick n):=by
 unfold Mo.tick
 split
 ·exact(Ev.rf rfl rfl:Ev M (M.dV n).reset).trans ((Ev.cP _ _ _).trans (.rf rfl rfl))
 exact .rf rfl rfl
theorem Roo.tick{M:Mo}{t:Nat}(R:Roo M t)(n:Int):Roo (M.tick n) t:=R.ev (Ev.tick M n)
theorem QQ{M:Mo}{P:bn}{T:List UInt8→Prop}(S:bb T M P)(F:P.Fits){t:Nat}(R:Roo M t)(ht:t<200)(hot warm:Nat)(c:dI)(hT:T (c.keys.headD [])):
  bb T (M.dO hot warm c).2 (P.dO lh c).2∧(M.dO hot warm c).1.vw=(P.dO lh c).1∧Roo (M.dO hot warm c).2 (t+1):=by
 obtain⟨m,a,b,_,_,d⟩:=S.dO F hot warm c hT;obtain rfl:=d (R.T0 S.i.k (ahO ht));exact⟨a,b,R.dO S F ht hot warm c hT⟩
def z8 (n:Int):Int:=((n.tmod 1048577).natAbs:Int)
def ym (p:ua):ua:=⟨z8 p.b,z8 p.l,z8 p.c,z8 p.m⟩
theorem j6 (n:Int):0≤z8 n∧z8 n≤1048576:=by
 unfold z8;have h:=ah8 n (b:=1048577) (by decide);have h2: -(1048577:Int)<n.tmod 1048577:=by
  have:=ah8 (-n) (b:=1048577) (by decide);rw[Int.neg_tmod]at this;omega
 omega
theorem Q5 (p:ua):qE cA (ym p)=0:=by
 unfold qE;rw[if_pos wP,if_pos (by decide),if_pos];exact decide_eq_true ⟨j6 _,j6 _,j6 _,j6 _⟩
theorem HK (p:ua):uL (ym p):=by
 have h1:=j6 p.b;have h2:=j6 p.l;have h3:=j6 p.c;have h4:=j6 p.m
 constructor<;>(unfold ym;dsimp only;omega)
structure Duo (M N:Mo)(P:bn)(t s:Nat):Prop where
 a:bb (λ_=>True) M P
 b:bb (λ_=>True) N P
 ra:Roo M t
 rb:Roo N t
 na:MH M s
 nb:MH N s
 f:P.Fits
 pa:uL M.v.p
 pb:uL N.v.p
 ca:M.v.c=cA
 cb:N.v.c=cA
theorem Duo.start (p q:ua):Duo (fk cA (ym p) ⟨1,0,0⟩) (fk cA (ym q) ⟨1,0,0⟩) (rF cA) 0 0:=
 ⟨sf wP _ _,sf wP _ _,HR _ _,HR _ _,A5 _ _ _,A5 _ _ _,Bh (P:=rF cA) (z:=512) (show 512∈cV cA by decide+kernel) (by decide),HK p,HK q,rfl,rfl⟩
theorem xL (M:Mo)(n:Int):(M.tick n).m=M.m∧(M.tick n).tn=M.tn∧(M.tick n).v.aM=M.v.aM∧(M.tick n).v.p=M.v.p∧(M.tick n).v.c=M.v.c:=by
 unfold Mo.tick
 split
 ·obtain⟨_,a2,a3,_,a5,a6,a7⟩:=mO (M.dV n).reset (M.dV n).k.now 64
  exact⟨a2,a7,a6,a3,a5⟩
 exact⟨rfl,rfl,rfl,rfl,rfl⟩
theorem Jo{P:bn}(F:P.Fits)(n:Int):(P.tick n).Fits:=by
 unfold bn.tick
 split
 ·exact F
 exact F
theorem MH.tick{M:Mo}{s:Nat}(R:MH M s)(n:Int):MH (M.tick n) s:=by
 obtain⟨a,b,c,_,_⟩:=xL M n;exact⟨by rw[a];exact R.st,by rw[b];exact R.tn,by rw[c];exact R.aM⟩
def zU (fac n:Nat):Nat:=max (((n*fac+99)/100+7)/8*8) (n+8)
def lT (fac last:Nat):Nat→Nat→List Nat
 |0,_=> []
 |k+1,n=>if last≤n then []else n::lT fac last k (zU fac n)
theorem kO (fac last k n:Nat)(h:last≤n):lT fac last k n= []:=by
 cases k with
 |zero=>rfl
 |succ k=>unfold lT;rw[if_pos h]
theorem zj (fac last:Nat):∀(k j n:Nat),last-n≤k→last-n≤j→lT fac last k n=lT fac last j n
 |0,j,n,h,_=>by rw[kO fac last j n (by omega)];rfl
 |k+1,0,n,_,h=>by rw[kO fac last (k+1) n (by omega)];rfl
 |k+1,j+1,n,h1,h2=>by
  unfold lT
  split
  ·rfl
  have:n+8≤zU fac n:=aht _ _;rw[zj fac last k j (zU fac n) (by omega) (by omega)]
theorem tF (fac last n:Nat)(h:n<last):lT fac last (last-n) n=n::lT fac last (last-zU fac n) (zU fac n):=by
 obtain⟨k,hk⟩:∃k,last-n=k+1:=⟨last-n-1,by omega⟩;have:n+8≤zU fac n:=aht _ _;rw[hk]
 conv=>lhs;unfold lT
 rw[if_neg (by omega),zj fac last k (last-zU fac n) _ (by omega) (by omega)]
theorem aav{fac n:Nat}(h1:105≤fac)(h2:64≤n)(h3:n % 8=0):zU fac n=(n*fac+799)/800*8:=by
 unfold zU;have:n*105≤n*fac:=Nat.mul_le_mul_left n h1;generalize n*fac=x at*;omega
theorem Ht{fac last:Nat}(hf:105≤fac)(hl:last % 8=0):∀(k n:Nat),64≤n→n % 8=0→n≤last→
  ((lT fac last (last-n) n).length≤k→pZ fac last k n=lT fac last (last-n) n++ [last])∧(k<(lT fac last (last-n) n).length→(pZ fac last k n).length=k+1)
 |0,n,h1,h2,h3=>by
  refine⟨λh=> ?_,λ_=>rfl⟩;by_cases e:n=last
  ·rw[kO _ _ _ _ (by omega),e];rfl
  rw[tF fac last n (by omega),ac7]at h;omega
 |k+1,n,h1,h2,h3=>by
  by_cases e:n=last
  ·rw[kO _ _ _ _ (by omega)]
   refine⟨λ_=> ?_,λh=>by simp at h⟩;unfold pZ;rw[if_pos (by omega),e];rfl
  have st:=tF fac last n (by omega);have nx:=aav hf h1 h2;have ge:n+8≤zU fac n:=aht _ _;have e2:pZ fac last (k+1) n=n::pZ fac last k (min last (zU fac n)):=by
   conv=>lhs;unfold pZ
   rw[if_neg (by omega),nx]
  have e3:lT fac last (last-min last (zU fac n)) (min last (zU fac n))=lT fac last (last-zU fac n) (zU fac n):=by
   by_cases g:last≤zU fac n
   ·rw[Nat.min_eq_left g,kO _ _ _ _ g,kO _ _ _ _ (acG _)]
   rw[Nat.min_eq_right (by omega)]
  obtain⟨a,b⟩:=Ht hf hl k (min last (zU fac n)) (by omega) (by rw[nx];omega) (by omega);rw[e3]at a b;rw[st,e2,ac7];refine⟨λh=> ?_,λh=> ?_⟩
  ·rw[a (by omega)];rfl
  rw[ac7,b (by omega)]
def I7 (c:pB):List Nat:=lT c.fac.toNat (fJ c) (fJ c-c.bO.toNat) c.bO.toNat++ [fJ c]
theorem Vw{c:pB}(h:kH c=true):(62<(I7 c).length↔62<(cV c).length)∧(¬62<(I7 c).length→I7 c=cV c):=by
 obtain⟨h1,h2,h3,h4,h5,h6,h7,h8,h9,Uo,Un,uS⟩:=of_decide_eq_true h;have hl:fJ c % 8=0:=by unfold fJ;omega
 have hm:c.bO.toNat≤fJ c:=by unfold fJ;omega
 obtain⟨a,b⟩:=Ht (fac:=c.fac.toNat) (by omega) hl 62 c.bO.toNat (by omega) (by omega) hm;unfold I7 cV;rw[acI,adv];by_cases g:(lT c.fac.toNat (fJ c) (fJ c-c.bO.toNat) c.bO.toNat).length≤62
 ·rw[a g,acI,adv]
  exact⟨Iff.rfl,λ_=>rfl⟩
 rw[b (by omega)];exact⟨⟨λ_=>by omega,λ_=>by omega⟩,λh=>absurd (by omega) h⟩
end Go.Proofs.YtdolmecackmjdaaGreatDoor
