/- Part Po of the proof. -/
import Derived.Test.YtdolmecackmjdaaGreatDoorPl
import Derived.Test.YtdolmecackmjdaaGreatDoorPm
set_option maxRecDepth 100000
open List renaming mem_of_find?_eq_some → ady, find?_some → ae6, find?_eq_none → aef, getD_eq_getElem?_getD → aab, getElem?_set → aem, getElem?_eq_none → aat, mem_map → adi, length_map → aax, mem_of_mem_erase → ad1, mem_of_getElem? → aaf, getElem?_eq_getElem → aac, length_set → aaj, getElem_of_mem → aaz, nodup_cons → aar, getLast?_eq_getElem? → adW, mem_of_getLast? → ads, mem_cons_self → aai, mem_cons_of_mem → aag, mem_filter → acA, filter_sublist → adx, map_map → afB, findIdx?_eq_some_iff_getElem → aav, map_cons → aao, foldl_cons → adl, findIdx?_eq_none_iff → adV, replicate → aae, sum_cons → aaC, length_cons → adm
open Decidable renaming byContradiction → aak
open Nat renaming zero_le → aay, le_refl → aan, zero_mul → afH, le_succ → aeO, succ_le_succ → adr, le_trans → aei, div_le_div_right → afa, le_of_lt → ae0
open Int renaming tmod_lt_of_pos → afm
namespace Go.Proofs.YtdolmecackmjdaaGreatDoor
open Go Go.cV Go.Proofs.YtdolmecackmjdaaGreatDoor.Cs
def I3.vw (n:I3):I3:={n with cQ:=n.cQ/2*2}
structure Pl (M:Mo):Prop where
 nd:∀i,(ql M.Q i).Nodup
 kd:∀p q,M.has p→M.has q→(M.it p).key=(M.it q).key→p=q
def Mo.vw (M:Mo)(p:Nat):I3×Nat:=((M.it p).vw,M.C.cl p)
def pQ (k:Ck)(x:I3):Nat:=if 0<x.exp∧x.exp≤k.now then 2 else if x.tok≤k.cut then 3 else 0
theorem Au (M:Mo)(p:Nat):M.bC p=pQ M.k (M.it p):=rfl
theorem uI{M N:Mo}(hk:N.k=M.k){p q:Nat}(h:N.vw q=M.vw p):N.bC q=M.bC p:=by
 have h1:(N.it q).exp=(M.it p).exp:=congrArg (λx:I3×Nat=>x.1.exp) h
 have h2:(N.it q).tok=(M.it p).tok:=congrArg (λx:I3×Nat=>x.1.tok) h
 unfold Mo.bC
 rw[h1,h2,hk]
theorem mY{M N:Mo}{p q:Nat}(h:N.vw q=M.vw p):(N.it q).key=(M.it p).key:=congrArg (λx:I3×Nat=>x.1.key) h
def Mo.jh (M:Mo)(k:List UInt8):Option (I3×Nat):=(M.live k).map M.vw
theorem bF.pl{B:Bx}{M:Mo}(O:bF B M):Pl M:=⟨O.o.nd,λ_ _ hp hq e=>O.kdM hp hq e⟩
theorem iP{M:Mo}(P:Pl M){k:List UInt8}{p:Nat}:M.find k=some p↔M.has p∧(M.it p).key=k:=by
 unfold Mo.find
 constructor
 ·intro h
  exact⟨fh.1 (ady h),by simpa using ae6 h⟩
 rintro⟨hp,hk⟩
 cases hf:M.Q.flatten.find? λp=>decide ((M.it p).key=k)with
 |none=>exact absurd (decide_eq_true hk) (aef.1 hf p (fh.2 hp))
 |some q=>
  have h1:M.has q:=fh.1 (ady hf)
  have h2:(M.it q).key=k:=by simpa using ae6 hf
  rw[P.kd q p h1 hp (h2.trans hk.symm)]
theorem nq{M:Mo}(P:Pl M){k:List UInt8}{i:I3×Nat}:M.jh k=some i↔∃p,M.has p∧(M.it p).key=k∧M.bC p=0∧M.vw p=i:=by
 unfold Mo.jh Mo.live
 constructor
 ·intro h
  cases hf:M.find k with
  |none=>rw[hf]at h;cases h
  |some p=>
   rw[hf]at h
   obtain⟨h1,h2⟩:=(iP P).1 hf
   by_cases hw:M.bC p=0
   ·simp only[hw,if_true,Option.map_some,Option.some.injEq]at h
    exact⟨p,h1,h2,hw,h⟩
   simp only[hw,if_false]at h;cases h
 rintro⟨p,h1,h2,hw,rfl⟩
 rw[(iP P).2 ⟨h1,h2⟩]
 simp[hw]
structure jE (M N:Mo):Prop where
 p:Pl N
 k:N.k=M.k
 d:∀q,N.has q→∃p,M.has p∧N.vw q=M.vw p
 u:∀p,M.has p→M.bC p=0→∃q,N.has q∧N.vw q=M.vw p
 z:N.C.ae=M.C.ae
theorem jE.s{M N:Mo}(S:jE M N)(P:Pl M)(k:List UInt8):N.jh k=M.jh k:=by
 refine Option.ext λi=> ?_
 rw[nq S.p,nq P]
 constructor
 ·rintro⟨q,a,b,c,d⟩
  obtain⟨p,e,f⟩:=S.d q a
  exact⟨p,e,(mY f).symm.trans b,(uI S.k f).symm.trans c,f.symm.trans d⟩
 rintro⟨p,a,b,c,d⟩
 obtain⟨q,e,f⟩:=S.u p a c
 exact⟨q,e,(mY f).trans b,(uI S.k f).trans c,f.trans d⟩
theorem jE.refl{M:Mo}(P:Pl M):jE M M:=⟨P,rfl,λq h=>⟨q,h,rfl⟩,λq h _=>⟨q,h,rfl⟩,rfl⟩
theorem jE.trans{M N O:Mo}(a:jE M N)(b:jE N O):jE M O:=by
 refine⟨b.p,b.k.trans a.k,λq h=> ?_,λp h w=> ?_,b.z.trans a.z⟩
 ·obtain⟨r,h1,e1⟩:=b.d q h
  obtain⟨p,h2,e2⟩:=a.d r h1
  exact⟨p,h2,e1.trans e2⟩
 obtain⟨r,h1,e1⟩:=a.u p h w
 obtain⟨q,h2,e2⟩:=b.u r h1 ((uI a.k e1).trans w)
 exact⟨q,h2,e2.trans e1⟩
theorem jq{M:Mo}(P:Pl M){p q:Nat}:(∃i,q∈ql (gn M.Q p) i)↔M.has q∧q≠p:=by
 constructor
 ·rintro⟨i,hi⟩
  rw[gU,(P.nd i).mem_erase_iff]at hi
  exact⟨⟨i,hi.2⟩,hi.1⟩
 rintro⟨⟨i,hi⟩,h⟩
 exact⟨i,by rw[gU,(P.nd i).mem_erase_iff];exact⟨h,hi⟩⟩
theorem Lz{M N:Mo}(P:Pl M){p:Nat}(hQ:N.Q=gn M.Q p)(hi:N.it=M.it):Pl N:=by
 refine⟨λi=> ?_,λa b ha hb e=> ?_⟩
 ·rw[hQ,gU];exact(P.nd i).erase p
 unfold Mo.has at ha hb
 rw[hQ]at ha hb
 rw[hi]at e
 exact P.kd a b ((jq P).1 ha).1 ((jq P).1 hb).1 e
theorem Zj (C:Cs){i c sp:Nat}{x:Pg}{r:Rw}{A:By}(h:x.cl=(C.pg i).cl)(q:Nat):(C.put i x c r sp A).cl q=C.cl q:=by
 unfold Cs.cl Cs.pn
 show((C.put i x c r sp A).pg (q/C.ao)).cl=_
 unfold Cs.pg Cs.put
 dsimp only
 rw[aab,aem,aab]
 split
 ·next e=>
  split
  ·rw[←e]
   show x.cl=_
   rw[h]
   unfold Cs.pg
   rw[aab]
  next g=>rw[←e,aat (by omega)]
 rfl
theorem qo (C:Cs)(p q:Nat):(C.bb p).cl q=C.cl q:=by
 unfold Cs.bb
 refine Zj C ?_ q
 rfl
theorem xY{M:Mo}(P:Pl M){p:Nat}(hd:M.bC p≠0):jE M (M.bM p):=by
 have e:∀q,(M.bM p).vw q=M.vw q:=λq=>congrArg (Prod.mk _) (qo M.C p q)
 exact⟨Lz P rfl rfl,rfl,λq h=>⟨q,((jq P).1 h).1,e q⟩,λq h w=>⟨q,(jq P).2 ⟨h,λg=>hd (g▸w)⟩,e q⟩,rfl⟩
theorem rL{M:Mo}(P:Pl M)(p:Nat):jE M (M.look p):=by
 unfold Mo.look
 split
 ·next h=>exact xY P h
 exact .refl P
theorem dS{M N:Mo}(P:Pl M)(hQ:N.Q=M.Q)(hi:N.it=M.it)(hk:N.k=M.k)(hc:∀p,M.has p→N.C.cl p=M.C.cl p:=by exact λ_ _=>rfl)(hz:N.C.ae=M.C.ae:=by exact rfl):jE M N:=by
 have hh:∀p,N.has p↔M.has p:=λp=>by unfold Mo.has;rw[hQ]
 have e:∀q,M.has q→N.vw q=M.vw q:=λq h=>by unfold Mo.vw;rw[hi,hc q h]
 exact⟨⟨λi=>by rw[hQ];exact P.nd i,λa b ha hb e=>by rw[hi]at e;exact P.kd a b ((hh a).1 ha) ((hh b).1 hb) e⟩,hk,λq h=>⟨q,(hh q).1 h,e q ((hh q).1 h)⟩,λq h _=>⟨q,(hh q).2 h,e q h⟩,hz⟩
theorem pE:∀(l:List Nat) {M:Mo},Pl M→jE M (l.foldl Mo.look M)
 | [],_,P=> .refl P
 |p::l,M,P=>(rL P p).trans (pE l (rL P p).p)
theorem sI:∀(f:Nat) {M:Mo},Pl M→jE M (M.bH f).2
 |0,_,P=> .refl P
 |f+1,M,P=>by
  unfold Mo.bH
  split
  ·next x h=>
   split
   ·next p hp=>
    have a:jE M {M with x:=x.pass M.Q}:=dS P rfl rfl rfl
    have b:=rL a.p p
    exact(a.trans b).trans (sI f b.p)
   exact dS P rfl rfl rfl
  exact dS P rfl rfl rfl
theorem Ez{M:Mo}(P:Pl M)(now aB:Int):jE M (M.bX now aB).2:=by
 unfold Mo.bX
 split
 ·exact .refl P
 unfold Mo.o9
 exact(pE _ P).trans (sI _ (pE _ P).p)
theorem FZ{M:Mo}{p r:Nat}(hp:M.has p){q:Nat}:(∃i,q∈ql (yc M.Q p r) i)↔q=r∨(M.has q∧q≠p):=by
 constructor
 ·rintro⟨i,hi⟩
  rw[o4,adi]at hi
  obtain⟨a,ha,e⟩:=hi
  unfold QQ at e
  split at e
  ·exact .inl e.symm
  next h=>subst e;exact .inr ⟨⟨i,ha⟩,h⟩
 rintro(rfl|⟨⟨i,hi⟩,h⟩)
 ·obtain⟨i,hi⟩:=hp
  exact⟨i,by rw[o4,adi];exact⟨p,hi,by unfold QQ;rw[if_pos rfl]⟩⟩
 exact⟨i,by rw[o4,adi];exact⟨q,hi,by unfold QQ;rw[if_neg h]⟩⟩
theorem Hi{M:Mo}(P:Pl M){p r:Nat}(hp:M.has p)(hr:¬M.has r)(fx:M.C.cl r=M.C.cl p):jE M (M.swap p r):=by
 have ne:p≠r:=λe=>hr (e▸hp)
 have ir:(M.swap p r).it r=M.it p:=if_pos rfl
 have io:∀q,q≠r→(M.swap p r).it q=M.it q:=λq h=>if_neg h
 have vr:(M.swap p r).vw r=M.vw p:=by unfold Mo.vw;rw[ir];exact congrArg (Prod.mk _) fx
 have vo:∀q,q≠r→(M.swap p r).vw q=M.vw q:=λq h=>by unfold Mo.vw;rw[io q h];rfl
 have hs:∀q,(M.swap p r).has q↔q=r∨(M.has q∧q≠p):=λq=>FZ hp
 have nr:∀q,M.has q→q≠r:=λq h e=>hr (e▸h)
 refine⟨⟨λi=> ?_,λa b ha hb e=> ?_⟩,rfl,λq hq=> ?_,λq hq hw=> ?_,rfl⟩
 ·show(ql (yc M.Q p r) i).Nodup
  rw[o4]
  unfold List.Nodup
  rw[List.pairwise_map]
  refine List.Pairwise.imp_of_mem (λ{x y} hx hy h e=>h ?_) (P.nd i)
  have Uq:=nr x ⟨i,hx⟩
  have GG:=nr y ⟨i,hy⟩
  unfold QQ at e
  split at e<;>split at e
  ·next h1 h2=>rw[h1,h2]
  ·exact absurd e.symm GG
  ·exact absurd e Uq
  exact e
 ·rcases(hs a).1 ha with rfl|⟨a1,a2⟩<;>rcases(hs b).1 hb with rfl|⟨b1,b2⟩
  ·rfl
  ·rw[ir,io b (nr b b1)]at e
   exact absurd (P.kd p b hp b1 e).symm b2
  ·rw[ir,io a (nr a a1)]at e
   exact absurd (P.kd a p a1 hp e) a2
  rw[io a (nr a a1),io b (nr b b1)]at e
  exact P.kd a b a1 b1 e
 ·rcases(hs q).1 hq with rfl|⟨a1,a2⟩
  ·exact⟨p,hp,vr⟩
  exact⟨q,a1,vo q (nr q a1)⟩
 by_cases e:q=p
 ·subst e;exact⟨r,(hs r).2 (.inl rfl),vr⟩
 exact⟨q,(hs q).2 (.inr ⟨hq,e⟩),vo q (nr q hq)⟩
structure Qp (n:Nat)(Q:List (List Nat)):Prop where
 len:Q.length=n*3
 nd:∀i,(ql Q i).Nodup
 one:∀i j p,p∈ql Q i→p∈ql Q j→i=j
theorem Qp.rem{n:Nat}{Q:List (List Nat)}(K:Qp n Q)(p:Nat):Qp n (gn Q p):=by
 refine⟨by unfold gn;rw[aax];exact K.len,λi=>by rw[gU];exact(K.nd i).erase p,λi j q h g=> ?_⟩
 rw[gU]at h g
 exact K.one i j q (ad1 h) (ad1 g)
theorem Qp.XA{n:Nat}{Q:List (List Nat)}(K:Qp n Q){i k p:Nat}(h:(ql Q i)[k]?=some p):Q.set i ((ql Q i).eraseIdx k)=gn Q p:=by
 have hp:p∈ql Q i:=aaf h
 have hi:i<Q.length:=by
  refine aak λg=> ?_
  unfold ql at hp
  rw[aab,aat (by omega)]at hp
  cases hp
 apply List.ext_getElem?
 intro j
 by_cases hj:j<Q.length
 ·have e1:Q[j]?=some (ql Q j):=by
   unfold ql
   rw[aab,aac hj];rfl
  unfold gn
  rw[List.getElem?_map,e1,Option.map_some,aem]
  by_cases e:i=j
  ·subst e
   rw[if_pos rfl,if_pos hi,Dx (K.nd i) h]
  rw[if_neg e,e1]
  congr 1
  exact(List.erase_of_not_mem λg=>e (K.one i j p hp g)).symm
 rw[aat (by rw[aaj];omega),aat (by unfold gn;rw[aax];omega)]
structure Mi (M:Mo):Prop where
 k:Ok M.C
 p:Pl M
 q:Qp M.ia M.Q
 x:cn M.ia M.Q M.x
 lv:∀p,Live M.C p↔M.has p∨M.hole=some p
 ho:∀p,M.hole=some p→¬M.has p
 on:M.m.on=true→M.m.pg<M.C.n∧(M.C.pg M.m.pg).own=true∧(M.C.pg M.m.pg).lv=true∧(M.C.pg M.m.pg).cl=M.m.fr
 go:∀i,(M.C.pg i).lv=true→M.m.on=true∧i=M.m.pg
theorem bF.mi{B:Bx}{M:Mo}(O:bF B M):Mi M:=by
 refine⟨O.ZI,O.pl,⟨?_,O.o.nd,λ_ _ _ h g=>EP O.o h g⟩, ?_,λp=> ?_,λp h g=>O.ho p h ((O.al p).2 g),O.Qv.on,λi hi=>O.go i ?_⟩
 ·have:=O.o.len
  rw[O.ia]at this;exact this
 ·have:=O.x
  rw[O.ia]at this;exact this
 ·have h:=O.lv p
  rw[O.al p,O.c]at h
  refine Iff.trans ⟨λL=> ?_,λL=> ?_⟩ h
  ·exact L.wA _
  exact⟨⟨L.i,L.own,L.al,L.k⟩,L.tk⟩
 rw[O.c];exact hi
theorem Mi.co{M:Mo}(K:Mi M):og M:=⟨K.k,K.p.nd,λp hp=>(K.lv p).2 (.inl hp),K.on⟩
theorem Mi.bM{M:Mo}(K:Mi M){p:Nat}(hp:M.has p):Mi (M.bM p):=by
 have L:=(K.lv p).2 (.inl hp)
 have g:=qn K.k L
 have hh:∀q,(M.bM p).has q↔M.has q∧q≠p:=λq=>jq K.p
 refine⟨(gq K.k L).1,Lz K.p rfl rfl, ?_, ?_,λq=> ?_,λq h h2=>K.ho q h ((hh q).1 h2).1,λh=> ?_,λi hi=>K.go i ?_⟩
 ·show Qp (M.C.bb p).ae.length (gn M.Q p)
  rw[(gq K.k L).2.ae];exact K.q.rem p
 ·show cn (M.C.bb p).ae.length (gn M.Q p) (M.x.left M.Q p)
  rw[(gq K.k L).2.ae]
  obtain⟨i,hi⟩:=hp
  obtain⟨j,hj,e⟩:=aaz hi
  have hk:(ql M.Q i)[j]?=some p:=by rw[aac hj,e]
  have hil:i<M.Q.length:=by
   refine aak λg=> ?_
   unfold ql at hi
   rw[aab,aat (by omega)]at hi
   cases hi
  rw[←K.q.XA hk]
  exact y8 K.x K.q.nd hil hk
 ·refine(nU K.k L q).trans ?_
  rw[K.lv q,hh q]
  constructor
  ·rintro⟨a|a,b⟩
   ·exact .inl ⟨a,b⟩
   exact .inr a
  rintro(⟨a,b⟩|a)
  ·exact⟨.inl a,b⟩
  exact⟨.inr a,λe=>K.ho q a (e▸hp)⟩
 ·obtain⟨a,b,c,d⟩:=K.on h
  obtain⟨e1,e2,e3⟩:=g M.m.pg
  have en:(M.C.bb p).n=M.C.n:=(gq K.k L).2.n
  exact⟨by show _<(M.C.bb p).n;rw[en];exact a,e1.trans b,e2.trans c,e3.trans d⟩
 rw[←(g i).2.1];exact hi
theorem Mi.rf{M N:Mo}(K:Mi M)(hx:cn M.ia M.Q N.x)(hC:N.C=M.C)(hQ:N.Q=M.Q)(hi:N.it=M.it)(hh:N.hole=M.hole)(hk:N.k=M.k)(on:N.m.on=M.m.on)(pg:N.m.pg=M.m.pg)(fr:N.m.fr=M.m.fr):Mi N:=by
 have e:∀p,N.has p↔M.has p:=λp=>by unfold Mo.has;rw[hQ]
 refine⟨by rw[hC];exact K.k,(dS K.p hQ hi hk (by rw[hC];exact λ_ _=>rfl) (by rw[hC])).p,by unfold Mo.ia;rw[hC,hQ];exact K.q,by unfold Mo.ia;rw[hC,hQ];exact hx,λp=>by rw[hC,hh,e];exact K.lv p,λp h=>by rw[hh]at h;rw[e];exact K.ho p h,by rw[on,pg,fr,hC];exact K.on,by rw[on,pg,hC];exact K.go⟩
theorem Mi.look{M:Mo}(K:Mi M){p:Nat}(hp:M.has p):Mi (M.look p):=by
 unfold Mo.look
 split
 ·exact K.bM hp
 exact K
theorem Qp.mv{n:Nat}{Q:List (List Nat)}(K:Qp n Q){i j k p:Nat}(hi:i<Q.length)(hj:j<Q.length)(hk:(ql Q i)[k]?=some p):Qp n (tX Q i k j p)∧∀q,(∃m,q∈ql (tX Q i k j p) m)↔∃m,q∈ql Q m:=by
 have hp:p∈ql Q i:=aaf hk
 obtain⟨R,hR⟩:∃R,R=Q.set i ((ql Q i).eraseIdx k):=⟨_,rfl⟩
 have lR:R.length=Q.length:=by rw[hR,aaj]
 have er:=Dx (K.nd i) hk
 have qR:∀m,ql R m=if m=i then(ql Q i).erase p else ql Q m:=λm=>by rw[hR,eZ hi,er]
 have noR:∀m,p∉ql R m:=λm h=>by
  rw[qR]at h
  split at h
  ·exact(K.nd i).not_mem_erase h
  next e=>exact e (K.one m i p h hp)
 have inR:∀m q,q∈ql R m↔q∈ql Q m∧q≠p:=λm q=>by
  rw[qR]
  split
  ·next e=>subst e;rw[(K.nd m).mem_erase_iff,and_comm]
  next e=>exact⟨λh=>⟨h,λg=>e (K.one m i p (g▸h) hp)⟩,λh=>h.1⟩
 have ndR:∀m,(ql R m).Nodup:=λm=>by
  rw[qR]
  split
  ·exact(K.nd i).erase p
  exact K.nd m
 have e:tX Q i k j p=R.set j (p::ql R j):=by unfold tX;rw[hR]
 have qV:∀m,ql (tX Q i k j p) m=if m=j then p::ql R j else ql R m:=λm=>by rw[e,eZ (by rw[lR];exact hj)]
 have zB:∀m q,q∈ql (tX Q i k j p) m↔(q=p∧m=j)∨(q∈ql Q m∧q≠p):=λm q=>by
  rw[qV]
  split
  ·next g=>subst g;rw[List.mem_cons,inR];exact⟨λh=>h.imp (λh=>⟨h,rfl⟩) id,λh=>h.imp (λh=>h.1) id⟩
  next g=>rw[inR];exact⟨.inr,λh=>h.resolve_left λh=>g h.2⟩
 refine⟨⟨by rw[e,aaj,lR];exact K.len,λm=> ?_,λa b q ha hb=> ?_⟩,λq=>⟨?_, ?_⟩⟩
 ·rw[qV]
  split
  ·exact aar.2 ⟨noR j,ndR j⟩
  exact ndR m
 ·rcases(zB a q).1 ha with⟨h1,h2⟩|⟨h1,h2⟩<;>rcases(zB b q).1 hb with⟨h3,h4⟩|⟨h3,h4⟩
  ·rw[h2,h4]
  ·exact absurd h1 h4
  ·exact absurd h3 h2
  exact K.one a b q h1 h3
 ·rintro⟨m,h⟩
  rcases(zB m q).1 h with⟨h1,_⟩|⟨h1,_⟩
  ·exact⟨i,h1▸hp⟩
  exact⟨m,h1⟩
 rintro⟨m,h⟩
 by_cases g:q=p
 ·exact⟨j,(zB j q).2 (.inl ⟨g,rfl⟩)⟩
 exact⟨m,(zB m q).2 (.inr ⟨h,g⟩)⟩
theorem AD{n c hot warm:Nat}{s t:kZ}(hc:c<n)(K:Qp n s.Q)(h:oo c hot warm s=some t):Qp n t.Q∧∀q,(∃m,q∈ql t.Q m)↔∃m,q∈ql s.Q m:=by
 unfold oo at h
 split at h
 ·cases h
 next k hk=>
 have hk3:1≤k∧k≤3:=by
  unfold CM at hk
  repeat' split at hk
  all_goals first|cases hk|(simp only[Option.some.injEq]at hk;omega)
  all_goals omega
 split at h
 ·cases h
 next p hp=>
 simp only[Option.some.injEq]at h
 subst h
 have hl:=K.len
 refine K.mv (by unfold qi;omega) (by unfold qi;split<;>omega) ?_
 rw[←adW];exact hp
theorem Gy{n c hot warm:Nat}(hc:c<n):∀(k:Nat) {s:kZ},Qp n s.Q→Qp n (jD c hot warm k s).2.Q∧∀q,(∃m,q∈ql (jD c hot warm k s).2.Q m)↔∃m,q∈ql s.Q m
 |0,_,K=>⟨K,λ_=>Iff.rfl⟩
 |k+1,s,K=>by
  unfold jD
  split
  ·exact⟨K,λ_=>Iff.rfl⟩
  next t ht=>
  obtain⟨K2,e⟩:=AD hc K ht
  obtain⟨K3,e3⟩:=Gy hc k K2
  exact⟨K3,λq=>(e3 q).trans (e q)⟩
theorem UJ (n:I3)(b:Bool):({n with cQ:=mkSet n.cQ b}:I3).vw=n.vw:=by
 unfold I3.vw mkSet
 congr 1
 cases b<;>simp<;>omega
theorem HN{M:Mo}(P:Pl M){t:kZ}(nd:∀i,(ql t.Q i).Nodup)(mem:∀q,(∃m,q∈ql t.Q m)↔M.has q):jE M (M.ye t):=by
 have e:∀q,(M.ye t).vw q=M.vw q:=λq=>congrArg (λx=>(x,M.C.cl q)) (UJ (M.it q) (t.ac q))
 exact⟨⟨nd,λa b ha hb e=>P.kd a b ((mem a).1 ha) ((mem b).1 hb) e⟩,rfl,λa h=>⟨a,(mem a).1 h,e a⟩,λa h _=>⟨a,(mem a).2 h,e a⟩,rfl⟩
theorem Mi.ln{M:Mo}(K:Mi M)(i:Nat):(ql M.Q i).length≤1073741824:=
 lE _ _ (K.q.nd i) λp hp=>by
  have h:=((K.lv p).2 (.inl ⟨i,hp⟩)).toAt.aX K.k
  have:=fC K.k.toFix
  omega
theorem zm{n:Nat}{Q:List (List Nat)}(ln:∀i,(ql Q i).length≤1073741824){x:Cw}{c k:Nat}(hc:c<n)(hk:1≤k∧k≤3):cn n Q (x.ja Q c k):=
 ⟨λ_=>⟨hc,hk⟩,(λh=>by cases h),(λ_ hp=>⟨ads hp,List.length_pos_of_mem (ads hp)⟩),ln _⟩
theorem yA{n:Nat}{Q:List (List Nat)}(ln:∀i,(ql Q i).length≤1073741824):∀(f:Nat) {x:Cw},cn n Q x→x.bg=true→cn n Q (Cw.JW n Q f x).2
 |0,_,X,_=>X
 |f+1,x,X,hb=>by
  obtain⟨g1,g2,g3⟩:=X.go hb
  unfold Cw.JW
  split
  ·exact X
  split
  ·exact yA ln f (zm ln g1 ⟨by omega,by omega⟩) rfl
  split
  ·next h=>exact yA ln f (zm ln h ⟨by omega,by omega⟩) rfl
  exact⟨(λh=>by cases h),λ_=>⟨rfl,rfl,rfl,rfl⟩,(λp h=>by cases h),aay _⟩
theorem TX{n:Nat}{Q:List (List Nat)}(hn:1≤n)(ln:∀i,(ql Q i).length≤1073741824){x:Cw}(X:cn n Q x):cn n Q (x.find n Q).2:=by
 unfold Cw.find Cw.start
 cases hb:x.bg with
 |true=>simp only[if_true];exact yA ln _ X hb
 |false=>
  simp only[Bool.false_eq_true,if_false]
  exact yA ln _ (zm ln (by omega) ⟨by omega,by omega⟩) rfl
theorem Mi.cw{M:Mo}(K:Mi M){x:Cw}(X:cn M.ia M.Q x):Mi {M with x:=x}:=K.rf X rfl rfl rfl rfl rfl rfl rfl rfl
theorem Mi.n1{M:Mo}(K:Mi M):1≤M.ia:=K.k.l0
theorem Mi.bH:∀(f:Nat) {M:Mo},Mi M→Mi (M.bH f).2
 |0,_,K=>K
 |f+1,M,K=>by
  have X:=TX K.n1 K.ln K.x
  unfold Mo.bH
  split
  ·next x h=>
   rw[h]at X
   split
   ·next p hp=>
    have hm:=(X.nx p hp).1
    exact Mi.bH f ((K.cw X.pass).look ⟨_,hm⟩)
   exact K.cw X
  next x h=>
  rw[h]at X
  exact K.cw X
theorem Mi.looks:∀(l:List Nat) {M:Mo},Mi M→l.Nodup→(∀p∈l,M.has p)→Mi (l.foldl Mo.look M)
 | [],_,K,_,_=>K
 |p::l,M,K,nd,h=>by
  obtain⟨n1,n2⟩:=aar.1 nd
  refine Mi.looks l (K.look (h p aai)) n2 λq hq=> ?_
  have hM:=h q (aag _ hq)
  unfold Mo.look
  split
  ·exact(jq K.p).2 ⟨hM,λe=>n1 (e▸hq)⟩
  exact hM
theorem Sp{C:Cs}(K:Ok C){p:Nat}(L:At C p):pU (C.hd p)=p:=by
 obtain⟨m1,m2,m3,m4,m5,m6⟩:=bK K L
 unfold pU
 generalize C.hd p=h at*
 omega
theorem Mi.due{M:Mo}(K:Mi M)(now aB:Int):(M.iY now aB).Nodup∧∀p∈M.iY now aB,M.has p:=by
 obtain⟨L,hL⟩:∃L,L=M.Q.flatten.filter λp=>decide (0<(M.it p).exp):=⟨_,rfl⟩
 have hh:∀p∈L,M.has p:=λp hp=>by rw[hL]at hp;exact fh.1 (acA.1 hp).1
 have nd:L.Nodup:=by rw[hL];exact(tL K.q.nd λi j p h g=>K.q.one i j p h g).sublist adx
 have eE:hU M.C M M.Q.flatten=L.map λp=>⟨M.C.hd p,(M.it p).exp,M.ord p⟩:=by rw[hL];rfl
 have eg:(hU M.C M M.Q.flatten).map (λe=>pU e.h)=L:=by
  rw[eE,afB]
  conv=>rhs;rw[←List.map_id L]
  refine List.map_congr_left λp hp=> ?_
  have:=Sp K.k ((K.lv p).2 (.inl (hh p hp))).toAt
  rw[Function.comp_apply,id]
  exact this
 have e:M.iY now aB=((fV ((hU M.C M M.Q.flatten).filter λx=>decide ((x.ex:Int)≤now))).take aB.toNat).map λe=>pU e.h:=by
  unfold Mo.iY mR
  rw[afB];rfl
 have sub:((hU M.C M M.Q.flatten).filter λx=>decide ((x.ex:Int)≤now)).map (λe=>pU e.h) |>.Sublist L:=by
  have:=(adx (p:=λx:En=>decide ((x.ex:Int)≤now)) (l:=hU M.C M M.Q.flatten)).map (λe=>pU e.h)
  rw[eg]at this;exact this
 have pm:=(fH ((hU M.C M M.Q.flatten).filter λx=>decide ((x.ex:Int)≤now))).map (λe=>pU e.h)
 have n2:=pm.nodup_iff.2 (nd.sublist sub)
 have tk:=(List.take_sublist aB.toNat (fV ((hU M.C M M.Q.flatten).filter λx=>decide ((x.ex:Int)≤now)))).map (λe=>pU e.h)
 rw[e]
 exact⟨n2.sublist tk,λp hp=>hh p (sub.subset (pm.mem_iff.1 (tk.subset hp)))⟩
theorem Mi.bX{M:Mo}(K:Mi M)(now aB:Int):Mi (M.bX now aB).2:=by
 unfold Mo.bX
 split
 ·exact K
 unfold Mo.o9
 obtain⟨d1,d2⟩:=K.due now (min aB 1048576)
 exact Mi.bH _ (K.looks _ d1 d2)
structure lN (M N:Mo):Prop where
 i:Mi N
 s:jE M N
theorem lN.trans{M N O:Mo}(a:lN M N)(b:lN N O):lN M O:=⟨b.i,a.s.trans b.s⟩
theorem Mi.sj{M:Mo}(K:Mi M)(t:Mt):lN M (M.aV t):=⟨K.rf K.x rfl rfl rfl rfl rfl rfl rfl rfl,dS K.p rfl rfl rfl⟩
theorem Mi.Vc{M:Mo}(K:Mi M)(k:Nat):lN M (M.wX k):=⟨K.rf K.x rfl rfl rfl rfl rfl rfl rfl rfl,dS K.p rfl rfl rfl⟩
theorem Mi.vu{M:Mo}(K:Mi M)(now aB:Int):lN M (M.bX now aB).2:=⟨K.bX now aB,Ez K.p now aB⟩
theorem Mi.eD{M:Mo}(K:Mi M):lN M M.eD:=by
 unfold Mo.eD
 exact(K.Vc _).trans ((K.Vc _).i.sj _)
theorem Mi.iy{M:Mo}(K:Mi M):lN M M.iy:=by
 unfold Mo.iy
 exact(K.vu _ _).trans ((K.vu _ _).i.sj _)
theorem Mi.take{M N:Mo}(K:Mi M)(hh:M.hole=none){c r:Nat}(hc:c<M.ia)(h:M.take c=some (r,N)):lN M N∧N.hole=some r∧¬M.has r∧N={M with C:=N.C,hole:=some r}∧N.C.cl r=c∧N.C.ae=M.C.ae∧∀q,M.has q→N.C.cl q=M.C.cl q:=by
 unfold Mo.take at h
 split at h
 ·next p D hD=>
  simp only[Option.some.injEq,Prod.mk.injEq]at h
  obtain⟨rfl,rfl⟩:=h
  have T:=rA K.k hc hD
  have no:¬M.has p:=λg=>T.no ((K.lv p).2 (.inl g))
  have hq:∀q,M.has q→D.cl q=M.C.cl q:=λq g=>(T.hd q ((K.lv q).2 (.inl g))).2
  have S:jE M ({M with C:=D,hole:=some p}:Mo):=dS K.p rfl rfl rfl hq T.sz
  refine⟨⟨⟨T.k,S.p, ?_, ?_,λq=> ?_,λq g=> ?_,λg=> ?_,λi g=> ?_⟩,S⟩,rfl,no,rfl,T.cl,T.sz,hq⟩
  ·show Qp D.ae.length M.Q
   rw[T.sz];exact K.q
  ·show cn D.ae.length M.Q M.x
   rw[T.sz];exact K.x
  ·refine(T.lv q).trans ?_
   rw[K.lv q,hh]
   show(M.has q∨none=some q)∨q=p↔M.has q∨some p=some q
   simp only[reduceCtorEq,or_false,Option.some.injEq]
   exact⟨λh=>h.imp id Eq.symm,λh=>h.imp id Eq.symm⟩
  ·cases g;exact no
  ·obtain⟨a,b,d,e⟩:=K.on g
   obtain⟨p1,p2⟩:=T.pg M.m.pg b
   exact⟨by show _<D.n;rw[T.n];exact a,p1,(T.lf M.m.pg).trans d,p2.trans e⟩
  refine K.go i ?_
  rw[←T.lf i];exact g
 cases h
theorem Om{n:Nat}{Q:List (List Nat)}{x:Cw}(X:cn n Q x)(p r:Nat):cn n (yc Q p r) (x.w7 p r):=by
 by_cases g:x.nx=some p
 ·have e:x.w7 p r={x with nx:=some r}:=by unfold Cw.w7;rw[if_pos g]
  rw[e]
  obtain⟨h1,h2⟩:=X.nx p g
  refine⟨X.go,λh=> ?_,λq hq=> ?_,X.lf⟩
  ·rw[(X.no h).1]at g;cases g
  simp only[Option.some.injEq]at hq
  subst hq
  exact⟨by rw[o4,adi];exact⟨p,h1,by unfold QQ;rw[if_pos rfl]⟩,h2⟩
 have e:x.w7 p r=x:=by unfold Cw.w7;rw[if_neg g]
 rw[e]
 refine⟨X.go,X.no,λq hq=> ?_,X.lf⟩
 obtain⟨h1,h2⟩:=X.nx q hq
 exact⟨by rw[o4,adi];exact⟨q,h1,by unfold QQ;exact if_neg λe:q=p=>g (e▸hq)⟩,h2⟩
theorem Qp.sub{n:Nat}{Q:List (List Nat)}(K:Qp n Q){p r:Nat}(nd:∀i,(ql (yc Q p r) i).Nodup)(hr:∀i,r∉ql Q i):Qp n (yc Q p r):=by
 refine⟨by unfold yc;rw[aax];exact K.len,nd,λi j q h g=> ?_⟩
 rw[o4,adi]at h g
 obtain⟨a,ha,ea⟩:=h
 obtain⟨b,hb,eb⟩:=g
 unfold QQ at ea eb
 split at ea<;>split at eb
 ·next h1 h2=>subst h1;subst h2;exact K.one i j _ ha hb
 ·exact absurd (by rw[ea,←eb];exact hb) (hr j)
 ·exact absurd (by rw[eb,←ea];exact ha) (hr i)
 subst ea;subst eb;exact K.one i j _ ha hb
theorem Mi.swap{M:Mo}(K:Mi M){p r:Nat}(hh:M.hole=some r)(hp:M.has p)(fx:M.C.cl r=M.C.cl p):lN M (M.swap p r)∧(M.swap p r).hole=some p:=by
 have hr:¬M.has r:=K.ho r hh
 have S:=Hi K.p hp hr fx
 have hs:∀q,(M.swap p r).has q↔q=r∨(M.has q∧q≠p):=λq=>FZ hp
 refine⟨⟨⟨K.k,S.p,K.q.sub S.p.nd λi h=>hr ⟨i,h⟩,Om K.x p r,λq=> ?_,λq g=> ?_,K.on,K.go⟩,S⟩,rfl⟩
 ·refine(K.lv q).trans ?_
  rw[hs q,hh]
  show M.has q∨some r=some q↔(q=r∨M.has q∧q≠p)∨some p=some q
  simp only[Option.some.injEq]
  constructor
  ·rintro(h|h)
   ·by_cases e:q=p
    ·exact .inr e.symm
    exact .inl (.inr ⟨h,e⟩)
   exact .inl (.inl h.symm)
  rintro((h|h)|h)
  ·exact .inr h.symm
  ·exact .inl h.1
  exact .inl (h▸hp)
 cases g
 intro h
 rcases(hs p).1 h with h|h
 ·exact hr (h▸hp)
 exact h.2 rfl
theorem Mi.w9{M:Mo}(K:Mi M){p:Nat}(hh:M.hole=some p):lN M (M.w9 p)∧(M.w9 p).hole=none:=by
 have L:=(K.lv p).2 (.inr hh)
 have no:=K.ho p hh
 have g:=qn K.k L
 have G:=gq K.k L
 have S:jE M (M.w9 p):=dS K.p rfl rfl rfl λq _=>qo M.C p q
 refine⟨⟨⟨G.1,S.p, ?_, ?_,λq=> ?_,(λq h=>by cases h),λh=> ?_,λi hi=>K.go i ?_⟩,S⟩,rfl⟩
 ·show Qp (M.C.bb p).ae.length M.Q
  rw[G.2.ae];exact K.q
 ·show cn (M.C.bb p).ae.length M.Q M.x
  rw[G.2.ae];exact K.x
 ·refine(nU K.k L q).trans ?_
  rw[K.lv q,hh]
  show(M.has q∨some p=some q)∧q≠p↔M.has q∨none=some q
  simp only[Option.some.injEq,reduceCtorEq,or_false]
  exact⟨λh=>h.1.resolve_right λe=>h.2 e.symm,λh=>⟨.inl h,λe=>no (e▸h)⟩⟩
 ·obtain⟨a,b,c,d⟩:=K.on h
  obtain⟨e1,e2,e3⟩:=g M.m.pg
  exact⟨by show _<(M.C.bb p).n;rw[G.2.n];exact a,e1.trans b,e2.trans c,e3.trans d⟩
 rw[←(g i).2.1];exact hi
theorem Mi.shift{M N:Mo}(K:Mi M)(hh:M.hole=none){p:Nat}(hp:M.has p)(h:M.shift p=some N):lN M N∧N.hole=none:=by
 have hc:M.C.cl p<M.ia:=(((K.lv p).2 (.inl hp)).toAt.aX K.k).1
 unfold Mo.shift at h
 split at h
 ·next r O hO=>
  simp only[Option.some.injEq]at h
  subst h
  obtain⟨A,h1,h2,h3,h6,_,h7⟩:=K.take hh hc hO
  have dT:O.has p:=by rw[h3];exact hp
  obtain⟨B,h4⟩:=A.i.swap h1 dT (h6.trans (h7 p hp).symm)
  obtain⟨D,h5⟩:=B.i.w9 h4
  exact⟨(A.trans B).trans D,h5⟩
 cases h
theorem Mi.zg{M:Mo}(K:Mi M){p:Nat}(hp:M.has p)(hd:M.bC p≠0):lN M (M.bM p):=⟨K.bM hp,xY K.p hd⟩
theorem Mi.mstop{M:Mo}(K:Mi M)(oK:M.m.on=true):lN M M.mstop∧M.mstop.hole=M.hole:=by
 obtain⟨a,b,c,d⟩:=K.on oK
 obtain⟨K2,S⟩:=uZ K.k a b c
 have iD:=yS K.k a
 have sm:=tE S λj=>by
  rw[iD]
  by_cases e:j=M.m.pg
  ·exact⟨false,by rw[if_pos e,e]⟩
  exact⟨(M.C.pg j).lv,by rw[if_neg e]⟩
 have sa:jE M M.mstop:=dS K.p rfl rfl rfl λq _=>S.cl q
 refine⟨⟨⟨K2,sa.p, ?_, ?_,λq=>(sm q).1.trans (K.lv q),K.ho,(λe=>by cases e),λi e=> ?_⟩,sa⟩,rfl⟩
 ·show Qp (M.C.kk M.m.pg).ae.length M.Q
  rw[S.ae];exact K.q
 ·show cn (M.C.kk M.m.pg).ae.length M.Q M.x
  rw[S.ae];exact K.x
 change((M.C.kk M.m.pg).pg i).lv=true at e
 rw[iD]at e
 by_cases g:i=M.m.pg
 ·rw[if_pos g]at e;cases e
 rw[if_neg g]at e;exact absurd (K.go i e).2 g
theorem Mi.release{M:Mo}(K:Mi M)(oK:M.m.on=true)(h:(M.C.pg M.m.pg).tk.findIdx? id=none):lN M {M with C:=M.C.eQ M.m.pg,m:=M.m.off}:=by
 obtain⟨a,b,c,d⟩:=K.on oK
 obtain⟨h0,oN⟩:=aci K.k a h
 have K2:=BG K.k a b c h0
 have iD:=D8 K.k a
 have Kq:∀q,Live M.C q→M.C.pn q≠M.m.pg:=λq L e=>oN _ (e▸L.tk)
 have same:∀q,M.C.pn q≠M.m.pg→(M.C.eQ M.m.pg).pg ((M.C.eQ M.m.pg).pn q)=M.C.pg (M.C.pn q):=λq e=>by
  rw[show(M.C.eQ M.m.pg).pn q=M.C.pn q from rfl,iD,if_neg e]
 have QP:∀q,M.C.pn q≠M.m.pg→(M.C.eQ M.m.pg).cl q=M.C.cl q:=λq e=>by unfold Cs.cl;rw[same q e]
 have Qq:∀q,M.C.pn q≠M.m.pg→(M.C.eQ M.m.pg).ix q=M.C.ix q:=λq e=>by unfold Cs.ix;rw[QP q e];rfl
 have wl:∀q,Live (M.C.eQ M.m.pg) q↔Live M.C q:=λq=>by
  constructor
  ·intro L
   have e:M.C.pn q≠M.m.pg:=λe=>by
    have t:=L.own
    rw[show(M.C.eQ M.m.pg).pn q=M.C.pn q from rfl,iD,if_pos e]at t
    cases t
   refine⟨⟨L.i,by have:=L.own;rw[same q e]at this;exact this,by have:=L.al;rw[QP q e]at this;exact this,by have:=L.k;rw[same q e,Qq q e]at this;exact this⟩,by have:=L.tk;rw[same q e,Qq q e]at this;exact this⟩
  intro L
  have e:=Kq q L
  exact⟨⟨L.i,by rw[same q e];exact L.own,by rw[QP q e];exact L.al,by rw[same q e,Qq q e];exact L.k⟩,by rw[same q e,Qq q e];exact L.tk⟩
 have sa:jE M {M with C:=M.C.eQ M.m.pg,m:=M.m.off}:=dS K.p rfl rfl rfl λq h=>QP q (Kq q ((K.lv q).2 (.inl h)))
 refine⟨⟨K2,sa.p,K.q,K.x,λq=>(wl q).trans (K.lv q),K.ho,(λe=>by cases e),λi e=> ?_⟩,sa⟩
 change((M.C.eQ M.m.pg).pg i).lv=true at e
 rw[iD]at e
 by_cases g:i=M.m.pg
 ·rw[if_pos g]at e;cases e
 rw[if_neg g]at e;exact absurd (K.go i e).2 g
theorem Mi.leave{M:Mo}(K:Mi M)(oK:M.m.on=false){i f t:Nat}(hi:i<M.C.n)(ho:(M.C.pg i).own=true)(hf:(M.C.pg i).cl=f):lN M {M with C:=M.C.lV i,m:={M.m with pg:=i,fr:=f,tt:=t,on:=true}}:=by
 have lL:(M.C.pg i).lv=false:=by
  rcases h:(M.C.pg i).lv with _|_
  ·rfl
  have:=(K.go i h).1
  rw[oK]at this;cases this
 obtain⟨K2,S⟩:=HP K.k hi ho lL
 have iD:=Ow K.k hi
 have sm:=tE S λj=>by
  rw[iD]
  by_cases e:j=i
  ·exact⟨true,by rw[if_pos e,e]⟩
  exact⟨(M.C.pg j).lv,by rw[if_neg e]⟩
 have sa:jE M {M with C:=M.C.lV i,m:={M.m with pg:=i,fr:=f,tt:=t,on:=true}}:=dS K.p rfl rfl rfl λq _=>S.cl q
 refine⟨⟨K2,sa.p, ?_, ?_,λq=>(sm q).1.trans (K.lv q),K.ho,λ_=> ?_,λj e=> ?_⟩,sa⟩
 ·show Qp (M.C.lV i).ae.length M.Q
  rw[S.ae];exact K.q
 ·show cn (M.C.lV i).ae.length M.Q M.x
  rw[S.ae];exact K.x
 ·refine⟨hi, ?_, ?_, ?_⟩<;>(show _=_)<;>dsimp only<;>rw[iD,if_pos rfl]
  ·exact ho
  exact hf
 change((M.C.lV i).pg j).lv=true at e
 rw[iD]at e
 by_cases g:j=i
 ·exact⟨rfl,g⟩
 rw[if_neg g]at e
 have:=(K.go j e).1
 rw[oK]at this;cases this
theorem Mi.WR{M:Mo}(K:Mi M)(hh:M.hole=none){i k:Nat}(hi:i<M.C.n)(ho:(M.C.pg i).own=true)(hk:(M.C.pg i).tk.findIdx? id=some k):M.has (M.C.wv i k):=by
 have P:kY M.C (M.C.pg i):=K.k.pg _ (gg (by rw[K.k.pl];exact hi))
 rw[aav]at hk
 obtain⟨h1,h2,_⟩:=hk
 obtain⟨e1,e2,a⟩:=AN K.k hi ho (k:=k) (by rw[←P.tl];exact h1)
 have L:Live M.C (M.C.wv i k):=⟨a,by rw[e1,e2,aac h1];exact congrArg some h2⟩
 exact((K.lv _).1 L).resolve_right (by rw[hh];simp)
theorem Mi.fW{M:Mo}(K:Mi M)(hh:M.hole=none)(oK:M.m.on=true):lN M M.fW.2∧M.fW.2.hole=none:=by
 unfold Mo.fW
 split
 ·next h=>exact⟨K.release oK h,hh⟩
 next k hk=>
 obtain⟨a,b,c,d⟩:=K.on oK
 have hp:=K.WR hh a b hk
 split
 ·next hd=>exact⟨K.zg hp hd,hh⟩
 split
 ·next N hN=>exact K.shift hh hp hN
 obtain⟨g1,g2⟩:=K.mstop oK
 exact⟨g1,g2.trans hh⟩
theorem On{M:Mo}(h:M.fW.1=true):M.fW.2.m.on=M.m.on:=by
 unfold Mo.fW at h⊢
 split at h
 ·cases h
 next k hk=>
 split
 ·rfl
 next hd=>
 rw[if_neg hd]at h
 split at h
 ·next N hN=>
  unfold Mo.shift Mo.take at hN
  split at hN
  ·next r O hO=>
   simp only[Option.some.injEq]at hN
   subst hN
   split at hO
   ·simp only[Option.some.injEq,Prod.mk.injEq]at hO
    obtain⟨rfl,rfl⟩:=hO
    rfl
   cases hO
  cases hN
 cases h
theorem Mi.ee:∀(f:Nat) {M:Mo},Mi M→M.hole=none→M.m.on=true→lN M (M.ee f).2∧(M.ee f).2.hole=none
 |0,_,K,hh,_=>⟨⟨K, .refl K.p⟩,hh⟩
 |f+1,M,K,hh,oK=>by
  obtain⟨g1,g2⟩:=K.fW hh oK
  unfold Mo.ee
  split
  ·next h=>
   obtain⟨g3,g4⟩:=Mi.ee f g1.i g2 (by rw[On h];exact oK)
   exact⟨g1.trans g3,g4⟩
  exact⟨g1,g2⟩
theorem Mi.gH{M:Mo}(K:Mi M)(hh:M.hole=none)(aB:Int):lN M (M.gH aB).2∧(M.gH aB).2.hole=none:=by
 have T:lN M M.fS:=⟨K.rf K.x rfl rfl rfl rfl rfl rfl rfl rfl,dS K.p rfl rfl rfl⟩
 unfold Mo.gH
 split
 ·exact⟨⟨K, .refl K.p⟩,hh⟩
 split
 ·next oK=>
  obtain⟨g1,g2⟩:=T.i.ee _ hh oK
  exact⟨T.trans g1,g2⟩
 next oK=>
 have B:lN M.fS M.fS.gj∧M.fS.gj.hole=none:=by
  unfold Mo.gj
  split
  ·exact⟨⟨T.i, .refl T.i.p⟩,hh⟩
  split
  ·exact⟨⟨T.i, .refl T.i.p⟩,hh⟩
  split
  ·exact⟨⟨T.i, .refl T.i.p⟩,hh⟩
  next o ho=>
  obtain⟨b1,b2,b3,_⟩:=rV ho
  exact⟨T.i.leave (show M.m.on=false by simpa using oK) b1 b2 b3,hh⟩
 exact⟨T.trans B.1,B.2⟩
theorem Mi.beside{M:Mo}(K:Mi M)(hh:M.hole=none):lN M M.beside∧M.beside.hole=none:=by
 have g1:=K.eD
 have h1:M.eD.hole=none:=hh
 have g2:=g1.i.iy
 have h2:M.eD.iy.hole=none:=by
  obtain⟨a1,_⟩:=lB M.eD M.eD.k.now M.eD.v.p.c
  exact a1.trans h1
 obtain⟨g3,h3⟩:=g2.i.gH h2 M.eD.iy.v.p.m
 unfold Mo.beside Mo.jk
 exact⟨((g1.trans g2).trans g3).trans (g3.i.sj _),h3⟩
theorem ac0{n:Nat}{Q:List (List Nat)}(K:Qp n Q){x:Cw}(X:cn n Q x){i j k p:Nat}(hi:i<Q.length)(hj:j<Q.length)(hk:(ql Q i)[k]?=some p):cn n (tX Q i k j p) (x.left Q p):=by
 have L:=y8 X K.nd hi hk
 refine⟨L.go,L.no,λq hq=>⟨?_,(L.nx q hq).2⟩,L.lf⟩
 have h:=(L.nx q hq).1
 unfold tX
 rw[eZ (by rw[aaj];exact hj)]
 split
 ·next e=>rw[←e];exact aag _ h
 exact h
theorem NH{n c hot warm:Nat}{s t:kZ}(hc:c<n)(K:Qp n s.Q)(X:cn n s.Q s.x)(h:oo c hot warm s=some t):cn n t.Q t.x:=by
 unfold oo at h
 split at h
 ·cases h
 next k hk=>
 have hk3:1≤k∧k≤3:=by
  unfold CM at hk
  repeat' split at hk
  all_goals first|cases hk|(simp only[Option.some.injEq]at hk;omega)
  all_goals omega
 split at h
 ·cases h
 next p hp=>
 simp only[Option.some.injEq]at h
 subst h
 have hl:=K.len
 refine ac0 K X (by unfold qi;omega) (by unfold qi;split<;>omega) ?_
 rw[←adW];exact hp
theorem Gz{n c hot warm:Nat}(hc:c<n):∀(k:Nat) {s:kZ},Qp n s.Q→cn n s.Q s.x→cn n (jD c hot warm k s).2.Q (jD c hot warm k s).2.x
 |0,_,_,X=>X
 |k+1,s,K,X=>by
  unfold jD
  split
  ·exact X
  next t ht=>exact Gz hc k (AD hc K ht).1 (NH hc K X ht)
theorem Mi.bal{M:Mo}(K:Mi M)(hot warm:Nat)(k:List UInt8):lN M (M.mL hot warm k):=by
 unfold Mo.mL
 split
 ·exact⟨K, .refl K.p⟩
 next p hp=>
 have hc:M.C.cl p<M.ia:=(((K.lv p).2 (.inl ((iP K.p).1 hp).1)).toAt.aX K.k).1
 obtain⟨q1,q2⟩:=Gy (hot:=hot) (warm:=warm) hc M.v.p.l.toNat (s:=M.VP) K.q
 have x1:=Gz (hot:=hot) (warm:=warm) hc M.v.p.l.toNat (s:=M.VP) K.q K.x
 have S:=HN K.p q1.nd q2
 have G:lN M (M.ye (jD (M.C.cl p) hot warm M.v.p.l.toNat M.VP).2):=⟨⟨K.k,S.p,q1,x1,λr=>(K.lv r).trans (or_congr (q2 r).symm Iff.rfl),λr h g=>K.ho r h ((q2 r).1 g),K.on,K.go⟩,S⟩
 exact G.trans (G.i.sj _)
theorem Mi.behind{M:Mo}(K:Mi M)(hh:M.hole=none)(hot warm:Nat)(k:List UInt8):lN M (M.behind hot warm k)∧(M.behind hot warm k).hole=none:=by
 have g:=K.bal hot warm k
 obtain⟨g2,h2⟩:=g.i.beside ((GA hot warm M k).1.trans hh)
 exact⟨g.trans g2,h2⟩
theorem Mi.vt{M:Mo}(K:Mi M)(w:Nat):lN M (M.eJ w):=⟨K.rf K.x rfl rfl rfl rfl rfl rfl rfl rfl,dS K.p rfl rfl rfl⟩
theorem Mi.OJ{M:Mo}(K:Mi M):lN M M.reset:=⟨K.rf K.x rfl rfl rfl rfl rfl rfl rfl rfl,dS K.p rfl rfl rfl⟩
theorem Mi.meet{M:Mo}(K:Mi M)(k:List UInt8):lN M (M.meet k).2∧(M.meet k).1=M.live k∧(M.meet k).2.hole=M.hole:=by
 unfold Mo.meet Mo.live
 cases hf:M.find k with
 |none=>exact⟨K.vt 1,rfl,rfl⟩
 |some p=>
  have hp:=((iP K.p).1 hf).1
  dsimp only
  by_cases hw:M.bC p=0
  ·rw[if_neg (by simpa using hw),if_pos hw]
   exact⟨K.vt 0,rfl,rfl⟩
  rw[if_pos hw,if_neg hw]
  have g:=K.vt (M.bC p)
  exact⟨g.trans (g.i.zg hp hw),rfl,rfl⟩
structure zT (M N:Mo)(y:List UInt8)(o:Option (I3×Nat)):Prop where
 i:Mi N
 k:N.k=M.k
 s:∀z,N.jh z=if z=y then o else M.jh z
 d:∀q,N.has q→(N.it q).key=y∨∃p,M.has p∧(M.it p).key=(N.it q).key
 z:N.C.ae=M.C.ae
theorem lN.dX{M N O:Mo}{y:List UInt8}{o:Option (I3×Nat)}(a:lN M N)(P:Pl M)(b:zT N O y o):zT M O y o:=
 ⟨b.i,b.k.trans a.s.k,λz=>(b.s z).trans (by rw[a.s.s P]),λq h=>(b.d q h).imp id λ⟨p,h1,e⟩=>by
  obtain⟨r,h2,e2⟩:=a.s.d p h1
  exact⟨r,h2,(mY e2).symm.trans e⟩,b.z.trans a.s.z⟩
theorem zT.go{M N O:Mo}{y:List UInt8}{o:Option (I3×Nat)}(a:zT M N y o)(b:lN N O):zT M O y o:=
 ⟨b.i,b.s.k.trans a.k,λz=>(b.s.s a.i.p z).trans (a.s z),λq h=>by
  obtain⟨r,h2,e2⟩:=b.s.d q h
  rw[mY e2]
  exact a.d r h2,b.s.z.trans a.z⟩
theorem zT.dX{M N O:Mo}{y:List UInt8}{o o2:Option (I3×Nat)}(a:zT M N y o)(b:zT N O y o2):zT M O y o2:=
 ⟨b.i,b.k.trans a.k,λz=>by
  rw[b.s,a.s]
  by_cases h:z=y<;>simp[h],λq h=>(b.d q h).elim .inl λ⟨p,h1,e⟩=>by rw[←e];exact a.d p h1,b.z.trans a.z⟩
theorem qj{M:Mo}(P:Pl M){p:Nat}(h:M.has p):M.jh (M.it p).key=if M.bC p=0 then some (M.vw p)else none:=by
 unfold Mo.jh Mo.live
 rw[(iP P).2 ⟨h,rfl⟩]
 dsimp only
 split<;>rfl
theorem Y6{M:Mo}{y:List UInt8}(h:∀q,M.has q→(M.it q).key≠y):M.find y=none:=by
 unfold Mo.find
 rw[aef]
 intro q hq
 simpa using h q (fh.1 hq)
theorem LC{M:Mo}(P:Pl M){y:List UInt8}(h:M.find y=none):∀q,M.has q→(M.it q).key≠y:=λq hq e=>by
 rw[(iP P).2 ⟨hq,e⟩]at h;cases h
theorem yU{M:Mo}{y:List UInt8}(h:∀q,M.has q→(M.it q).key≠y):M.jh y=none:=by
 unfold Mo.jh Mo.live
 rw[Y6 h];rfl
theorem CV{M N:Mo}(P:Pl M)(K:Mi N)(hk:N.k=M.k)(hz:N.C.ae=M.C.ae){y:List UInt8}{o:Option (I3×Nat)}(h1:∀q,N.has q→(N.it q).key≠y→∃p,M.has p∧N.vw q=M.vw p)
  (h2:∀p,M.has p→M.bC p=0→(M.it p).key≠y→∃q,N.has q∧N.vw q=M.vw p) (h3:N.jh y=o):zT M N y o:=by
 refine⟨K,hk,λz=> ?_,λq h=> ?_,hz⟩
 ·by_cases e:z=y
  ·rw[if_pos e,e];exact h3
  rw[if_neg e]
  refine Option.ext λi=> ?_
  rw[nq K.p,nq P]
  constructor
  ·rintro⟨q,a,b,c,d⟩
   obtain⟨p,f,g⟩:=h1 q a (by rw[b];exact e)
   exact⟨p,f,(mY g).symm.trans b,(uI hk g).symm.trans c,g.symm.trans d⟩
  rintro⟨p,a,b,c,d⟩
  obtain⟨q,f,g⟩:=h2 p a c (by rw[b];exact e)
  exact⟨q,f,(mY g).trans b,(uI hk g).trans c,g.trans d⟩
 by_cases e:(N.it q).key=y
 ·exact .inl e
 obtain⟨p,f,g⟩:=h1 q h e
 exact .inr ⟨p,f,(mY g).symm⟩
theorem Mi.put_{M N:Mo}(K:Mi M)(hC:N.C=M.C)(hQ:N.Q=M.Q)(hx:N.x=M.x)(hh:N.hole=M.hole)(hm:N.m=M.m)(hk:∀q,(N.it q).key=(M.it q).key):Mi N:=by
 have e:∀p,N.has p↔M.has p:=λp=>by unfold Mo.has;rw[hQ]
 exact⟨by rw[hC];exact K.k,⟨λi=>by rw[hQ];exact K.p.nd i,λa b ha hb g=>K.p.kd a b ((e a).1 ha) ((e b).1 hb) (by rw[←hk a,←hk b];exact g)⟩,by unfold Mo.ia;rw[hC,hQ];exact K.q,by unfold Mo.ia;rw[hC,hQ,hx];exact K.x,λp=>by rw[hC,hh,e];exact K.lv p,λp h=>by rw[hh]at h;rw[e];exact K.ho p h,by rw[hm,hC];exact K.on,by rw[hC,hm];exact K.go⟩
theorem Mi.RH{M N:Mo}(K:Mi M)(hC:N.C=M.C)(hQ:N.Q=M.Q)(hx:N.x=M.x)(hh:N.hole=M.hole)(hm:N.m=M.m)(hk:N.k=M.k){p:Nat}(hp:M.has p)(ho:∀q,q≠p→N.it q=M.it q)(hy:(N.it p).key=(M.it p).key):
  zT M N (M.it p).key (if N.bC p=0 then some (N.vw p)else none):=by
 have kq:∀q,(N.it q).key=(M.it q).key:=λq=>by
  by_cases e:q=p
  ·rw[e];exact hy
  rw[ho q e]
 have KN:=K.put_ hC hQ hx hh hm kq
 have e:∀q,N.has q↔M.has q:=λq=>by unfold Mo.has;rw[hQ]
 have v:∀q,q≠p→N.vw q=M.vw q:=λq h=>by unfold Mo.vw;rw[ho q h,hC]
 refine CV K.p KN hk (by rw[hC]) (λq h g=>⟨q,(e q).1 h,v q λa=>g (by rw[a];exact hy)⟩) (λq h _ g=>⟨q,(e q).2 h,v q λa=>g (by rw[a])⟩) ?_
 rw[←kq p];exact qj KN.p ((e p).2 hp)
theorem Mi.qp{M:Mo}(K:Mi M){p:Nat}(hp:M.has p):zT M (M.bM p) (M.it p).key none:=by
 have e:∀q,(M.bM p).vw q=M.vw q:=λq=>congrArg (Prod.mk _) (qo M.C p q)
 have hs:∀q,(M.bM p).has q↔M.has q∧q≠p:=λq=>jq K.p
 refine CV K.p (K.bM hp) rfl rfl (λq h _=>⟨q,((hs q).1 h).1,e q⟩) (λq h _ g=>⟨q,(hs q).2 ⟨h,λa=>g (by rw[a])⟩,e q⟩) (yU λq h g=> ?_)
 obtain⟨h1,h2⟩:=(hs q).1 h
 exact h2 (K.p.kd q p h1 hp g)
theorem Mi.gN{M:Mo}(K:Mi M){r:Nat}(hr:M.hole=some r)(n:I3)(hn:∀q,M.has q→(M.it q).key≠n.key):zT M (M.gN r n) n.key (if pQ M.k n=0 then some (n.vw,M.C.cl r)else none):=by
 have L:=(K.lv r).2 (.inr hr)
 have no:∀i,r∉ql M.Q i:=λi h=>K.ho r hr ⟨i,h⟩
 have hi:qi (M.C.cl r) 1<M.Q.length:=by
  have h1:=(L.toAt.aX K.k).1
  have h2:=K.q.len
  unfold Mo.ia at h2
  unfold qi;omega
 have pm:∀q j,q∈ql (M.gN r n).Q j↔(j=qi (M.C.cl r) 1∧q=r)∨q∈ql M.Q j:=λq j=>gZ hi
 have hs:∀q,(M.gN r n).has q↔q=r∨M.has q:=λq=>by
  constructor
  ·rintro⟨j,h⟩
   exact((pm q j).1 h).imp (λh=>h.2) λh=>⟨j,h⟩
  rintro(h|⟨j,h⟩)
  ·exact⟨_,(pm q _).2 (.inl ⟨rfl,h⟩)⟩
  exact⟨j,(pm q j).2 (.inr h)⟩
 have nr:∀q,M.has q→q≠r:=λq ⟨i,h⟩ e=>no i (e▸h)
 have ir:(M.gN r n).it r={n with cQ:=mkSet n.cQ false}:=if_pos rfl
 have io:∀q,q≠r→(M.gN r n).it q=M.it q:=λq h=>if_neg h
 have vo:∀q,q≠r→(M.gN r n).vw q=M.vw q:=λq h=>by unfold Mo.vw;rw[io q h];rfl
 have qe:∀j,ql (M.gN r n).Q j=if j=qi (M.C.cl r) 1 then r::ql M.Q (qi (M.C.cl r) 1)else ql M.Q j:=λj=>eZ hi _ j
 have nd:∀j,(ql (M.gN r n).Q j).Nodup:=λj=>by
  rw[qe]
  split
  ·exact aar.2 ⟨no _,K.p.nd _⟩
  exact K.p.nd j
 have P:Pl (M.gN r n):=by
  refine⟨nd,λa b ha hb e=> ?_⟩
  rcases(hs a).1 ha with rfl|a1<;>rcases(hs b).1 hb with rfl|b1
  ·rfl
  ·rw[ir,io b (nr b b1)]at e
   exact absurd e.symm (hn b b1)
  ·rw[ir,io a (nr a a1)]at e
   exact absurd e (hn a a1)
  rw[io a (nr a a1),io b (nr b b1)]at e
  exact K.p.kd a b a1 b1 e
 have KN:Mi (M.gN r n):=by
  refine⟨K.k,P,⟨?_,nd,λi j q h g=> ?_⟩,⟨K.x.go,K.x.no,λq hq=>⟨(pm q _).2 (.inr (K.x.nx q hq).1),(K.x.nx q hq).2⟩,K.x.lf⟩,λq=> ?_,(λq h=>by cases h),K.on,K.go⟩
  ·exact aaj.trans K.q.len
  ·rcases(pm q i).1 h with⟨h1,h2⟩|h1<;>rcases(pm q j).1 g with⟨g1,g2⟩|g1
   ·rw[h1,g1]
   ·exact absurd (h2▸g1) (no j)
   ·exact absurd (g2▸h1) (no i)
   exact K.q.one i j q h1 g1
  refine(K.lv q).trans ?_
  rw[hr,hs q]
  show M.has q∨some r=some q↔(q=r∨M.has q)∨none=some q
  simp only[Option.some.injEq,reduceCtorEq,or_false]
  exact⟨λh=>h.elim .inr λh=> .inl h.symm,λh=>h.elim (λh=> .inr h.symm) .inl⟩
 refine CV K.p KN rfl rfl (λq h g=> ?_) (λq h _ _=>⟨q,(hs q).2 (.inr h),vo q (nr q h)⟩) ?_
 ·rcases(hs q).1 h with rfl|h
  ·rw[ir]at g;exact absurd rfl g
  exact⟨q,h,vo q (nr q h)⟩
 have h:=qj P ((hs r).2 (.inl rfl))
 rw[Au,ir]at h
 refine h.trans ?_
 have e:(M.gN r n).vw r=(n.vw,M.C.cl r):=by
  unfold Mo.vw
  rw[ir,UJ];rfl
 rw[e];rfl
theorem Mi.lS{M:Mo}(K:Mi M){r:Nat}(hr:M.hole=some r){p:Nat}(hp:M.has p)(n:I3)(hn:(M.it p).key=n.key):zT M (M.lS p r n) n.key (if pQ M.k n=0 then some (n.vw,M.C.cl r)else none):=by
 have A:=K.qp hp
 rw[hn]at A
 have U:=A.i.gN (r:=r) hr n λq h g=>by
  obtain⟨h1,h2⟩:=(jq K.p).1 h
  exact h2 (K.p.kd q p h1 hp (g.trans hn.symm))
 have hQ:(M.lS p r n).Q=((M.bM p).gN r n).Q:=by
  show jf (gn M.Q p) (qi (M.C.cl r) 1) r=jf (gn M.Q p) (qi ((M.C.bb p).cl r) 1) r
  rw[qo]
 have G:lN ((M.bM p).gN r n) (M.lS p r n):=⟨U.i.rf U.i.x rfl hQ rfl rfl rfl rfl rfl rfl,dS U.i.p hQ rfl rfl⟩
 have V:=A.dX (U.go G)
 rw[show(M.bM p).C.cl r=M.C.cl r from qo M.C p r,show(M.bM p).k=M.k from rfl]at V
 exact V
theorem Mi.TI{M:Mo}(K:Mi M)(i:Nat):lN M (M.kG i):=⟨K.rf K.x rfl rfl rfl rfl rfl rfl rfl rfl,dS K.p rfl rfl rfl⟩
theorem Mi.fA{M:Mo}(K:Mi M){r:Nat}(hr:M.hole=some r)(old:Option Nat)(n:I3)(h0:old=none→∀q,M.has q→(M.it q).key≠n.key)(h1:∀p,old=some p→M.has p∧(M.it p).key=n.key):
  zT M (M.fA r old n) n.key (if pQ M.k n=0 then some (n.vw,M.C.cl r)else none)∧(M.fA r old n).hole=none∧(M.fA r old n).v.aO=M.v.aO+1:=by
 have g:=K.TI (M.v.aO+1)
 cases old with
 |none=>exact⟨g.dX K.p (g.i.gN hr n (h0 rfl)),rfl,rfl⟩
 |some p=>exact⟨g.dX K.p (g.i.lS hr (h1 p rfl).1 n (h1 p rfl).2),rfl,rfl⟩
theorem Mi.room{M:Mo}(K:Mi M)(hh:M.hole=none){j:Nat}(A:gB M (j+1)){n c:Nat}(hc:M.C.ae.findIdx? (λz=>decide (n≤z))=some c)(own:Option Nat):
  ∃r N,M.room n own=(some r,N)∧lN M N∧N.hole=some r∧¬M.has r∧N={M with C:=N.C,hole:=some r}∧N.C.cl r=c∧gB N j∧M.take c=some (r,N):=by
 have cB:c<M.ia:=(aav.1 hc).1
 obtain⟨p,D,hD,hs⟩:=sx K.k cB (by have:=A.sp;omega)
 have ht:M.take c=some (p,{M with C:=D,hole:=some p}):=by unfold Mo.take;rw[hD]
 obtain⟨G,h1,h2,h3,h4,_,_⟩:=K.take hh cB ht
 refine⟨p,_, ?_,G,h1,h2,h3,h4,⟨A.on, ?_⟩,ht⟩
 ·unfold Mo.room
  rw[hc]
  dsimp only
  unfold Mo.ux
  rw[ht]
 have:=A.sp
 show j≤D.spare
 omega
structure bz where
 f:List UInt8→Option (I3×Nat)
 k:Ck
 i:Nat
 c:oU
 z:List Nat
def Mo.ps (M:Mo):bz:=⟨M.jh,M.k,M.v.aO,M.v.c,M.C.ae⟩
def bz.set (P:bz)(y:List UInt8)(o:Option (I3×Nat)):bz:={P with f:=λz=>if z=y then o else P.f z}
def bz.num (P:bz)(i:Nat):bz:={P with i:=i}
def bz.put (P:bz)(x:I3)(c:Nat):bz:=P.set x.key (if pQ P.k x=0 then some (x,c)else none)
structure aQ (T:List UInt8→Prop)(N:Mo)(P:bz):Prop where
 i:Mi N
 h:N.hole=none
 p:N.ps=P
 t:∀q,N.has q→T (N.it q).key
theorem mC{M N:Mo}(P:Pl M)(G:lN M N)(e:N.v.aO=M.v.aO)(e2:N.v.c=M.v.c):N.ps=M.ps:=by
 unfold Mo.ps
 rw[e,e2,G.s.z,G.s.k,show N.jh=M.jh from funext (G.s.s P)]
theorem CU{M N:Mo}{y:List UInt8}{o:Option (I3×Nat)}(U:zT M N y o)(e2:N.v.c=M.v.c):N.ps=(M.ps.set y o).num N.v.aO:=by
 unfold Mo.ps bz.set bz.num
 rw[U.k,e2,U.z,show N.jh=_ from funext U.s]
theorem aQ.go{M N:Mo}{P:bz}{T:List UInt8→Prop}(S:aQ T M P)(G:lN M N)(h:N.hole=none)(e:N.v.aO=M.v.aO)(e2:N.v.c=M.v.c):aQ T N P:=⟨G.i,h,(mC S.i.p G e e2).trans S.p,λq hq=>by
  obtain⟨r,h2,e2⟩:=G.s.d q hq
  rw[mY e2]
  exact S.t r h2⟩
theorem aQ.dX{M N:Mo}{P:bz}{T:List UInt8→Prop}(S:aQ T M P){y:List UInt8}{o:Option (I3×Nat)}(U:zT M N y o)(hy:T y)(h:N.hole=none){i:Nat}(e:N.v.aO=i)(e2:N.v.c=M.v.c):aQ T N ((P.set y o).num i):=⟨U.i,h,by rw[CU U e2,S.p,e],λq hq=>by
  rcases U.d q hq with g|⟨r,h2,e2⟩
  ·rw[g];exact hy
  rw[←e2];exact S.t r h2⟩
theorem aQ.aO{M:Mo}{P:bz}{T:List UInt8→Prop}(S:aQ T M P):P.i=M.v.aO:=by rw[←S.p];rfl
theorem aQ.mw{M:Mo}{P:bz}{T:List UInt8→Prop}(S:aQ T M P):P.k=M.k:=by rw[←S.p];rfl
theorem aQ.f{M:Mo}{P:bz}{T:List UInt8→Prop}(S:aQ T M P):P.f=M.jh:=by rw[←S.p];rfl
theorem aQ.cfg{M:Mo}{P:bz}{T:List UInt8→Prop}(S:aQ T M P):P.c=M.v.c:=by rw[←S.p];rfl
theorem aQ.sK{M:Mo}{P:bz}{T:List UInt8→Prop}(S:aQ T M P):P.z=M.C.ae:=by rw[←S.p];rfl
theorem aQ.meet{M:Mo}{P:bz}{T:List UInt8→Prop}(S:aQ T M P)(y:List UInt8):aQ T (M.meet y).2 P∧(∀p,(M.meet y).1=some p→(M.meet y).2.has p∧((M.meet y).2.it p).key=y∧(M.meet y).2.bC p=0∧P.f y=some ((M.meet y).2.vw p))∧
  ((M.meet y).1=none→P.f y=none∧∀q,(M.meet y).2.has q→((M.meet y).2.it q).key≠y):=by
 obtain⟨G,_,hh⟩:=S.i.meet y
 refine⟨S.go G (hh.trans S.h) (tC M y).2.2.2.2.1 (tC M y).2.2.2.1,λp hp=> ?_,λhn=> ?_⟩
 ·rw[S.f]
  unfold Mo.meet at hp⊢
  cases hf:M.find y with
  |none=>rw[hf]at hp;cases hp
  |some r=>
   rw[hf]at hp
   dsimp only at hp⊢
   obtain⟨h1,h2⟩:=(iP S.i.p).1 hf
   by_cases hw:M.bC r≠0
   ·rw[if_pos hw]at hp;cases hp
   rw[if_neg hw]at hp⊢
   cases hp
   have hw:M.bC p=0:=Decidable.of_not_not hw
   exact⟨h1,h2,hw,by rw[←h2,qj S.i.p h1,if_pos hw];rfl⟩
 rw[S.f]
 unfold Mo.meet at hn⊢
 cases hf:M.find y with
 |none=>exact⟨yU (LC S.i.p hf),LC S.i.p hf⟩
 |some r=>
  rw[hf]at hn
  dsimp only at hn⊢
  obtain⟨h1,h2⟩:=(iP S.i.p).1 hf
  by_cases hw:M.bC r≠0
  ·rw[if_pos hw]
   refine⟨by rw[←h2,qj S.i.p h1,if_neg hw],λq hq e=> ?_⟩
   obtain⟨a,b⟩:=(jq S.i.p).1 hq
   exact b (S.i.p.kd q r a h1 (e.trans h2.symm))
  rw[if_neg hw]at hn;cases hn
theorem aQ.put{M N:Mo}{P:bz}{T:List UInt8→Prop}(S:aQ T M P){p:Nat}(hp:M.has p)(hC:N.C=M.C)(hQ:N.Q=M.Q)(hx:N.x=M.x)(hh:N.hole=M.hole)(hm:N.m=M.m)(hk:N.k=M.k)(ho:∀q,q≠p→N.it q=M.it q){x:I3}(hv:(N.it p).vw=x)(hy:x.key=(M.it p).key){i:Nat}(hi:N.v.aO=i)(hc:N.v.c=M.v.c):
  aQ T N ((P.put x (M.C.cl p)).num i):=by
 have U:=S.i.RH hC hQ hx hh hm hk hp ho ((congrArg I3.key hv).trans hy)
 have e1:N.bC p=pQ P.k x:=by rw[S.mw,←hk,←hv];rfl
 have e2:N.vw p=(x,M.C.cl p):=by unfold Mo.vw;rw[hv,hC]
 rw[e1,e2,←hy]at U
 exact S.dX U (by rw[hy];exact S.t p hp) (hh.trans S.h) hi hc
def I3.wF (x:I3)(now:Nat):I3:={x with tch:=now,cQ:=x.cQ % 8+8}
theorem CR (x:I3)(now:Nat):({x with tch:=now,cQ:=mkSet x.cQ true % 8+8}:I3).vw=x.vw.wF now:=by
 unfold I3.vw I3.wF mkSet
 congr 1
 simp only[if_true]
 omega
def bz.dt (dX:Bool)(ex:Int)(s:List I3×bz)(y:List UInt8):List I3×bz:=match s.2.f y with
 |none=>s
 |some x=>let x2:I3:=if dX=true then{x.1 with exp:=eU s.2.k.now ex}else x.1
  (s.1++ [x2],s.2.put (x2.wF s.2.k.now) x.2)
def bz.kX (P:bz)(verb:Int)(keys:List (List UInt8))(ex:Int):eH×bz:=let r:=keys.foldl (bz.dt (decide (verb=3∨verb=4)) ex) ([],P);(⟨9,r.1,0,[]⟩,r.2)
def bz.ct (P:bz)(y:List UInt8)(ex:Int):eH×bz:=match P.f y with
 |none=>(.k 4,P)
 |some x=>(.k 6,P.put (({x.1 with exp:=eU P.k.now ex}:I3).wF P.k.now) x.2)
def bz.delete (P:bz)(y:List UInt8):eH×bz:=match P.f y with
 |none=>(.k 4,P)
 |some _=>(.k 5,P.set y none)
def eH.vw (a:eH):eH:={a with du:=a.du.map I3.vw}
theorem aQ.hitp{M:Mo}{P:bz}{T:List UInt8→Prop}(S:aQ T M P){p:Nat}(hp:M.has p):aQ T (M.jz p) (P.put ((M.it p).vw.wF P.k.now) (M.C.cl p)):=by
 have h:=S.put (N:=M.jz p) hp rfl rfl rfl rfl rfl rfl (λq h=>if_neg h) (x:=(M.it p).vw.wF P.k.now) (by
  rw[S.mw,←CR]
  unfold Mo.jz Mo.put
  dsimp only
  rw[if_pos rfl]) rfl (i:=P.i) S.aO.symm rfl
 exact h
theorem aQ.Fe{M:Mo}{P:bz}{T:List UInt8→Prop}(S:aQ T M P){p:Nat}(hp:M.has p)(e:Nat):aQ T ((M.time p e).jz p) (P.put (({(M.it p).vw with exp:=e}:I3).wF P.k.now) (M.C.cl p)):=by
 have h:=S.put (N:=(M.time p e).jz p) hp rfl rfl rfl rfl rfl rfl (λq h=>(if_neg h).trans (if_neg h)) (x:=({(M.it p).vw with exp:=e}:I3).wF P.k.now) (by
  rw[S.mw,show({(M.it p).vw with exp:=e}:I3)=({M.it p with exp:=e}:I3).vw from rfl,←CR]
  unfold Mo.jz Mo.time Mo.put
  dsimp only
  rw[if_pos rfl,if_pos rfl]) rfl (i:=P.i) S.aO.symm rfl
 exact h
theorem aQ.dt{M:Mo}{P:bz}{T:List UInt8→Prop}(S:aQ T M P)(dX:Bool)(ex:Int)(l:List I3)(y:List UInt8):
  aQ T (Mo.dt dX ex (l,M) y).2 (bz.dt dX ex (l.map I3.vw,P) y).2∧(Mo.dt dX ex (l,M) y).1.map I3.vw=(bz.dt dX ex (l.map I3.vw,P) y).1:=by
 obtain⟨S1,h1,h2⟩:=S.meet y
 unfold Mo.dt bz.dt
 dsimp only
 rcases hm:M.meet y with⟨_|p,N⟩<;>rw[hm]at S1 h1 h2<;>dsimp only at S1 h1 h2⊢
 ·rw[(h2 rfl).1]
  exact⟨S1,rfl⟩
 obtain⟨a,b,c,d⟩:=h1 p rfl
 rw[d]
 dsimp only
 rw[show N.vw p=((N.it p).vw,N.C.cl p)from rfl]
 dsimp only
 cases dX with
 |false=>
  refine⟨S1.hitp a, ?_⟩
  simp
 |true=>
  simp only[if_true]
  refine⟨?_, ?_⟩
  ·have:=S1.Fe a (eU N.k.now ex)
   rw[S1.mw]at this⊢
   exact this
  rw[List.map_append,S1.mw]
  congr 1
  simp only[aao,List.map_nil]
  congr 1
  show((if p=p then _ else _:I3)).vw=_
  rw[if_pos rfl];rfl
theorem aQ.Vd (dX:Bool)(ex:Int):∀(keys:List (List UInt8)) {M:Mo} {P:bz} {T:List UInt8→Prop} (l:List I3),aQ T M P→
  aQ T (keys.foldl (Mo.dt dX ex) (l,M)).2 (keys.foldl (bz.dt dX ex) (l.map I3.vw,P)).2∧(keys.foldl (Mo.dt dX ex) (l,M)).1.map I3.vw=(keys.foldl (bz.dt dX ex) (l.map I3.vw,P)).1
 | [],_,_,_,_,S=>⟨S,rfl⟩
 |y::keys,M,P,_,l,S=>by
  obtain⟨a,b⟩:=S.dt dX ex l y
  rw[adl,adl]
  have h:=aQ.Vd dX ex keys (Mo.dt dX ex (l,M) y).1 a
  rw[b]at h
  exact h
theorem aQ.kX{M:Mo}{P:bz}{T:List UInt8→Prop}(S:aQ T M P)(verb:Int)(keys:List (List UInt8))(ex:Int):aQ T (M.kX verb keys ex).2 (P.kX verb keys ex).2∧(M.kX verb keys ex).1.vw=(P.kX verb keys ex).1:=by
 obtain⟨a,b⟩:=aQ.Vd (decide (verb=3∨verb=4)) ex keys [] S
 refine⟨a, ?_⟩
 unfold Mo.kX bz.kX eH.vw
 dsimp only
 rw[b];rfl
theorem aQ.ct{M:Mo}{P:bz}{T:List UInt8→Prop}(S:aQ T M P)(y:List UInt8)(ex:Int):aQ T (M.ct y ex).2 (P.ct y ex).2∧(M.ct y ex).1.vw=(P.ct y ex).1:=by
 obtain⟨S1,h1,h2⟩:=S.meet y
 unfold Mo.ct bz.ct
 rcases hm:M.meet y with⟨_|p,N⟩<;>rw[hm]at S1 h1 h2<;>dsimp only at S1 h1 h2⊢
 ·rw[(h2 rfl).1]
  exact⟨S1,rfl⟩
 obtain⟨a,b,c,d⟩:=h1 p rfl
 rw[d]
 dsimp only
 refine⟨?_,rfl⟩
 have:=S1.Fe a (eU N.k.now ex)
 rw[S1.mw]at this⊢
 exact this
theorem aQ.delete{M:Mo}{P:bz}{T:List UInt8→Prop}(S:aQ T M P)(y:List UInt8):aQ T (M.delete y).2 (P.delete y).2∧(M.delete y).1.vw=(P.delete y).1:=by
 obtain⟨S1,h1,h2⟩:=S.meet y
 unfold Mo.delete bz.delete
 rcases hm:M.meet y with⟨_|p,N⟩<;>rw[hm]at S1 h1 h2<;>dsimp only at S1 h1 h2⊢
 ·rw[(h2 rfl).1]
  exact⟨S1,rfl⟩
 obtain⟨a,b,c,d⟩:=h1 p rfl
 rw[d]
 dsimp only
 refine⟨?_,rfl⟩
 have U:=S1.i.qp a
 rw[b]at U
 exact S1.dX U (by rw[←b];exact S1.t p a) S1.h (i:=P.i) S1.aO.symm rfl
def bz.clock (P:bz)(k:Ck):bz:={P with k:=k,f:=λz=>match P.f z with|some x=>if pQ k x.1=0 then some x else none|none=>none}
theorem No{k k2:Ck}(h1:k.now≤k2.now)(h2:k.cut≤k2.cut){x:I3}(h:pQ k x≠0):pQ k2 x≠0:=by
 unfold pQ at*
 split
 ·decide
 split
 ·decide
 next a b=>
 split at h
 ·omega
 ·split at h<;>omega
theorem aQ.clock{M N:Mo}{P:bz}{T:List UInt8→Prop}(S:aQ T M P){k:Ck}(hC:N.C=M.C)(hQ:N.Q=M.Q)(hx:cn M.ia M.Q N.x)(hi:N.it=M.it)(hh:N.hole=M.hole)(hm:N.m=M.m)(hk:N.k=k)(hn:N.v.aO=M.v.aO)(hc:N.v.c=M.v.c)(h1:M.k.now≤k.now)(h2:M.k.cut≤k.cut):aQ T N (P.clock k):=by
 have e:∀p,N.has p↔M.has p:=λp=>by unfold Mo.has;rw[hQ]
 have K:Mi N:=⟨by rw[hC];exact S.i.k,⟨λi=>by rw[hQ];exact S.i.p.nd i,λa b ha hb g=>S.i.p.kd a b ((e a).1 ha) ((e b).1 hb) (by rw[←hi];exact g)⟩,by unfold Mo.ia;rw[hC,hQ];exact S.i.q,by unfold Mo.ia;rw[hC,hQ];exact hx,λp=>by rw[hC,hh,e];exact S.i.lv p,λp h=>by rw[hh]at h;rw[e];exact S.i.ho p h,by rw[hm,hC];exact S.i.on,by rw[hC,hm];exact S.i.go⟩
 refine⟨K,hh.trans S.h, ?_,λq hq=>by rw[hi];exact S.t q ((e q).1 hq)⟩
 have es:N.jh=λz=>match M.jh z with|some x=>if pQ k x.1=0 then some x else none|none=>none:=by
  funext z
  have ef:N.find z=M.find z:=by unfold Mo.find;rw[hQ,hi]
  unfold Mo.jh Mo.live
  rw[ef]
  cases M.find z with
  |none=>rfl
  |some p=>
   dsimp only
   have w:N.bC p=pQ k (M.it p):=by rw[Au,hk,hi]
   have v:N.vw p=M.vw p:=by unfold Mo.vw;rw[hi,hC]
   rw[w]
   by_cases g:M.bC p=0
   ·rw[if_pos g]
    simp only[Option.map_some]
    rw[show pQ k (M.vw p).1=pQ k (M.it p)from rfl]
    split
    ·rw[Option.map_some,v]
    rfl
   rw[if_neg g,if_neg (No h1 h2 g)];rfl
 unfold Mo.ps bz.clock
 rw[es,hk,hn,S.aO,S.f,S.cfg,S.sK,hc,hC]
theorem pG (k:Ck)(t:Int)(n:Nat):k.now≤(k.flush t n).now∧k.cut≤(k.flush t n).cut:=by
 unfold Ck.flush
 split<;>dsimp only<;>omega
theorem xB (k:Ck)(t:Int)(n:Nat):k.now≤(k.move t n).now∧k.cut≤(k.move t n).cut:=by
 unfold Ck.move Ck.tick
 split
 ·dsimp only
  split
  ·have:=pG {k with now:=k.now+t.toNat} 0 n
   dsimp only at this
   omega
  dsimp only;omega
 exact⟨aan _,aan _⟩
theorem Qk{n:Nat}{Q:List (List Nat)}(x:Cw):cn n Q x.again:=⟨(λh=>by cases h),λ_=>⟨rfl,rfl,rfl,rfl⟩,(λp h=>by cases h),aay _⟩
theorem aQ.flush{M:Mo}{P:bz}{T:List UInt8→Prop}(S:aQ T M P)(ex:Int):aQ T {M with k:=M.k.flush ex M.v.aO,x:=M.x.again} (P.clock (P.k.flush ex P.i)):=by
 rw[S.mw,S.aO]
 exact S.clock rfl rfl (Qk _) rfl rfl rfl rfl rfl rfl (pG _ _ _).1 (pG _ _ _).2
structure Rm where
 ok:Bool
 v:Option (List UInt8)
def bz.rm (P:bz)(m:Rm):bz:=match m.v with
 |none=>P
 |some y=>P.set y none
structure abj (M N:Mo)(P:bz)(own o:Option Nat)(c:Nat)(m:Rm):Prop where
 i:Mi N
 p:N.ps=P.rm m
 ok:m.ok=o.isSome
 no:o=none→N.hole=none
 r:∀r,o=some r→N.hole=some r∧N.C.cl r=c
 own:∀y,m.v=some y→∀p,own=some p→M.has p→y≠(M.it p).key
 v:∀y,m.v=some y→P.f y≠none
 dr:N.v.mt.dr=if m.v.isSome=true then cJ (M.v.mt.dr+1)else M.v.mt.dr
theorem Xy{Q:List (List Nat)}{c p:Nat}(h:p∈Kn Q c):∃i,p∈ql Q i:=by
 unfold Kn at h
 simp only[List.mem_append,List.mem_reverse]at h
 rcases h with(h|h)|h
 ·exact⟨_,h⟩
 ·exact⟨_,h⟩
 exact⟨_,h⟩
theorem N5{dd act:Nat→Bool}{own:Option Nat}{n:Nat}{l:List Nat}{p:Nat}{d:Bool}{k:Nat}(h:Af dd act own n l=(some p,d,k)):p∈l∧some p≠own∧dd p=d:=by
 have sub:∀q∈(CJ own l).take n,q∈l∧some q≠own:=λq hq=>by
  have:=List.mem_of_mem_take hq
  unfold CJ at this
  rw[acA]at this
  exact⟨this.1,by simpa using this.2⟩
 unfold Af KF at h
 cases hf:((CJ own l).take n).findIdx? dd with
 |some i=>
  rw[hf]at h
  simp only[Prod.mk.injEq]at h
  obtain⟨h1,h2,h3⟩:=h
  obtain⟨a,b,_⟩:=aav.1 hf
  rw[aac a,Option.some.injEq]at h1
  have:=sub p (h1▸List.getElem_mem a)
  exact⟨this.1,this.2,by rw[←h2,←h1];exact b⟩
 |none=>
  rw[hf]at h
  simp only[Prod.mk.injEq]at h
  obtain⟨h1,h2,h3⟩:=h
  have hm:p∈(CJ own l).take n:=by
   split at h1
   ·next q hq=>cases h1;exact ady hq
   exact List.mem_of_mem_head? h1
  have:=sub p hm
  refine⟨this.1,this.2, ?_⟩
  rw[←h2]
  have:=adV.1 hf p hm
  simpa using this
theorem Mi.xK{M:Mo}(K:Mi M)(c:Nat):lN M (M.gz c):=⟨K.rf K.x rfl rfl rfl rfl rfl rfl rfl rfl,dS K.p rfl rfl rfl⟩
theorem LR{M N:Mo}(K:Mi M)(hh:M.hole=none){c p:Nat}(hc:c<M.ia)(hp:M.has p){o:Option Nat}(h:M.last c p=(o,N)):
  lN (M.bM p) N∧(o=none→N.hole=none)∧(∀r,o=some r→N.hole=some r∧N.C.cl r=c)∧N.v.aO=M.v.aO∧N.v.mt=M.v.mt∧N.v.c=M.v.c:=by
 have A:=K.bM hp
 unfold Mo.last at h
 cases ht:(M.bM p).take c with
 |none=>
  rw[ht]at h
  cases h
  exact⟨⟨A, .refl A.p⟩,λ_=>hh,(λr e=>by cases e),rfl,rfl,rfl⟩
 |some x=>
  obtain⟨r,D⟩:=x
  rw[ht]at h
  cases h
  obtain⟨G,h1,h2,h3,h4,_,_⟩:=A.take (show(M.bM p).hole=none from hh) (show c<(M.bM p).ia from hc) ht
  exact⟨G,(λe=>by cases e),λq e=>by cases e;exact⟨h1,h4⟩,by rw[h3];rfl,by rw[h3];rfl,by rw[h3];rfl⟩
theorem Bj{M N:Mo}{P:bz}{T:List UInt8→Prop}(S:aQ T M P){c:Nat}(hc:c<M.ia)(own:Option Nat){o:Option Nat}(h:M.oD c own=(o,N)):∃m,abj M N P own o c m:=by
 have KM:=S.i
 have hh:=S.h
 unfold Mo.oD at h
 rcases hpk:M.pick c own with⟨v,d,k⟩
 rw[hpk]at h
 dsimp only at h
 have G0:=KM.sj {M.v.mt with lo:=cJ (M.v.mt.lo+(k:Int))}
 have p0:=mC KM.p G0 rfl rfl
 rcases v with _|p
 ·cases d with
  |true=>
   cases h
   exact⟨⟨false,none⟩,G0.i,p0.trans S.p,rfl,λ_=>hh,(λr e=>by cases e),(λy e=>by cases e),(λy e=>by cases e),rfl⟩
  |false=>
   have G1:=G0.i.xK c
   have p1:=mC G0.i.p G1 rfl rfl
   cases h
   exact⟨⟨false,none⟩,G1.i,p1.trans (p0.trans S.p),rfl,λ_=>hh,(λr e=>by cases e),(λy e=>by cases e),(λy e=>by cases e),rfl⟩
 obtain⟨m1,m2,m3⟩:=N5 hpk
 have hp:M.has p:=Xy m1
 cases d with
 |true=>
  have hw:M.bC p≠0:=by simpa using m3
  have G1:=G0.i.sj {(M.aV {M.v.mt with lo:=cJ (M.v.mt.lo+(k:Int))}).v.mt with re:=cJ ((M.aV {M.v.mt with lo:=cJ (M.v.mt.lo+(k:Int))}).v.mt.re+1)}
  have p1:=mC G0.i.p G1 rfl rfl
  obtain⟨G2,n1,n2,n3,n4,n5⟩:=LR G1.i hh hc (p:=p) hp h
  have A:lN _ _:=G1.i.zg (p:=p) hp hw
  have p2:=mC G1.i.p A rfl rfl
  have p3:=mC A.i.p G2 n3 n5
  refine⟨⟨o.isSome,none⟩,G2.i, ?_,rfl,n1,n2,(λy e=>by cases e),(λy e=>by cases e),by rw[n4];rfl⟩
  exact p3.trans (p2.trans (p1.trans (p0.trans S.p)))
 |false=>
  have hw:M.bC p=0:=by simpa using m3
  have G1:=G0.i.xK c
  have p1:=mC G0.i.p G1 rfl rfl
  have G1b:=G1.i.sj {((M.aV {M.v.mt with lo:=cJ (M.v.mt.lo+(k:Int))}).gz c).v.mt with dr:=cJ (((M.aV {M.v.mt with lo:=cJ (M.v.mt.lo+(k:Int))}).gz c).v.mt.dr+1)}
  have p1b:=mC G1.i.p G1b rfl rfl
  obtain⟨G2,n1,n2,n3,n4,n5⟩:=LR G1b.i hh hc (p:=p) hp h
  have U:=G1b.i.qp (p:=p) hp
  have p2:=CU U rfl
  have p3:=mC U.i.p G2 n3 n5
  refine⟨⟨o.isSome,some (M.it p).key⟩,G2.i, ?_,rfl,n1,n2,λy e q eq hq=> ?_,λy e=> ?_,by rw[n4];rfl⟩
  ·rw[p3,p2,p1b,p1,p0,S.p]
   show(P.set (M.it p).key none).num M.v.aO=P.set (M.it p).key none
   rw[←S.aO];rfl
  ·cases e
   exact λe=>m2 (by rw[eq,KM.p.kd p q hp hq e])
  cases e
  rw[S.f,qj KM.p hp,if_pos hw]
  simp
theorem aQ.room{M N:Mo}{P:bz}{T:List UInt8→Prop}(S:aQ T M P){n c:Nat}(hc:M.C.ae.findIdx? (λz=>decide (n≤z))=some c)(own:Option Nat){o:Option Nat}(h:M.room n own=(o,N)):∃m,abj M N P own o c m∧(gB M 1→m=⟨true,none⟩):=by
 have cB:c<M.ia:=(aav.1 hc).1
 by_cases A:gB M 1
 ·obtain⟨r,D,e,G,h1,h2,h3,h4,_,_⟩:=S.i.room S.h (j:=0) A hc own
  rw[e]at h
  cases h
  exact⟨⟨true,none⟩,⟨G.i,(mC S.i.p G (by rw[h3]) (by rw[h3])).trans S.p,rfl,(λe=>by cases e),λq e=>by cases e;exact⟨h1,h4⟩,(λy e=>by cases e),(λy e=>by cases e),by rw[h3];rfl⟩,λ_=>rfl⟩
 unfold Mo.room at h
 rw[hc]at h
 dsimp only at h
 unfold Mo.ux at h
 cases ht:M.take c with
 |some x=>
  obtain⟨r,D⟩:=x
  rw[ht]at h
  cases h
  obtain⟨G,h1,h2,h3,h4,_,_⟩:=S.i.take S.h cB ht
  exact⟨⟨true,none⟩,⟨G.i,(mC S.i.p G (by rw[h3]) (by rw[h3])).trans S.p,rfl,(λe=>by cases e),λq e=>by cases e;exact⟨h1,h4⟩,(λy e=>by cases e),(λy e=>by cases e),by rw[h3];rfl⟩,λa=>absurd a A⟩
 |none=>
  rw[ht]at h
  dsimp only at h
  split at h
  ·next g=>
   obtain⟨G,hh⟩:=S.i.mstop g.1
   have S1:aQ T M.mstop P:=S.go G (hh.trans S.h) rfl rfl
   cases pJ:M.mstop.take c with
   |some x=>
    obtain⟨r,D⟩:=x
    rw[pJ]at h
    cases h
    obtain⟨G2,h1,h2,h3,h4,_,_⟩:=S1.i.take S1.h (show c<M.mstop.ia from cB) pJ
    exact⟨⟨true,none⟩,⟨G2.i,(mC S1.i.p G2 (by rw[h3]) (by rw[h3])).trans S1.p,rfl,(λe=>by cases e),λq e=>by cases e;exact⟨h1,h4⟩,(λy e=>by cases e),(λy e=>by cases e),by rw[h3];rfl⟩,λa=>absurd a A⟩
   |none=>
    rw[pJ]at h
    obtain⟨m,R⟩:=Bj S1 (show c<M.mstop.ia from cB) own h
    exact⟨m,⟨R.i,R.p,R.ok,R.no,R.r,R.own,R.v,R.dr⟩,λa=>absurd a A⟩
  obtain⟨m,R⟩:=Bj S cB own h
  exact⟨m,R,λa=>absurd a A⟩
def E4 (verb:Int)(GW:Nat)(o:Option (I3×Nat)):Nat:=aN verb GW (o.map λx=>x.1.tok) id
theorem Uj (M:Mo)(verb:Int)(GW:Nat)(old:Option Nat):aN verb GW old (λp=>(M.it p).tok)=E4 verb GW (old.map M.vw):=by cases old<;>rfl
def bz.pX (P:bz)(c:dB)(k:List UInt8)(o:Option (I3×Nat)):Option (List UInt8×Nat×Nat):=
 if Cg c.verb=true then some (c.data,c.fl,eU P.k.now c.ex)else match o with
 |none=>none
 |some x=>if P.c.lim<58+k.length+c.data.length+x.1.val.length then none else some (if c.verb=8 then x.1.val++c.data else c.data++x.1.val,x.1.fl,x.1.exp)
def bz.over (P:bz)(k:List UInt8)(ov:Bool):bz:=if ov=true then P.set k none else P
def xe (sK:List Nat)(n:Nat):Nat:=(sK.findIdx? λz=>decide (n≤z)).getD 0
def bz.lays (m:Rm)(P:bz)(k:List UInt8)(ov:Bool)(x:List UInt8×Nat×Nat):eH×bz:=
 if m.ok=true then(.k 1,((P.rm m).put ⟨k,x.1,x.2.1,x.2.2,P.k.now,P.i+1,0⟩ (xe P.z (58+k.length+x.1.length))).num (P.i+1))else(.t gx,(P.rm m).over k ov)
def bz.cS (m:Rm)(P:bz)(c:dB)(k:List UInt8):eH×bz:=
 if c.lg=true∨P.c.lim<58+k.length+c.data.length then(.t cO,P.over k (Cg c.verb))
 else if E4 c.verb c.tok (P.f k)≠0 then(.k (E4 c.verb c.tok (P.f k)),P)
 else match P.pX c k (P.f k)with
  |none=>(.t cO,P)
  |some x=>P.lays m k (Cg c.verb) x
def bz.fw (m:Rm)(P:bz)(x:I3×Nat)(n:Nat):eH×bz:=
 if 58+x.1.key.length+(dw n).length≤P.z.getD x.2 0 then(⟨7,[],n,[]⟩,(P.put (({x.1 with val:=dw n,tok:=P.i+1,cQ:=x.1.cQ-x.1.cQ/2 % 4*2}:I3).wF P.k.now) x.2).num (P.i+1))
 else if P.c.lim<58+x.1.key.length+(dw n).length then(.t cO,P)
 else if m.ok=true then(⟨7,[],n,[]⟩,((P.rm m).put ⟨x.1.key,dw n,x.1.fl,x.1.exp,P.k.now,P.i+1,0⟩ (xe P.z (58+x.1.key.length+(dw n).length))).num (P.i+1))else(.t gx,P.rm m)
def bz.counts (m:Rm)(P:bz)(c:dB)(k:List UInt8):eH×bz:=match P.f k with
 |none=>(.k 4,P)
 |some x=>match pW x.1.val with
  |none=>(.t oZ,P)
  |some n=>P.fw m x (mK c n)
def bz.fb (m:Rm)(P:bz)(c:dB):eH×bz:=
 if 1≤c.verb∧c.verb≤4 then P.kX c.verb c.keys c.ex
 else if c.verb=12∨c.verb=13 then P.counts m c (c.keys.headD [])
 else if c.verb=14 then P.ct (c.keys.headD []) c.ex
 else if c.verb=11 then P.delete (c.keys.headD [])
 else if c.verb=15 then(.k 8,P.clock (P.k.flush c.ex P.i))
 else if c.verb=16 then(⟨10,[],0,qh⟩,P)
 else if c.verb=17 then(.k 8,P)
 else if c.verb=18 then(.k 12,P)
 else P.cS m c (c.keys.headD [])
structure J0 (M N:Mo)(P:bz)(k:List UInt8)(m:Rm):Prop where
 v:∀y,m.v=some y→P.f y≠none∧y≠k
 dr:N.v.mt.dr=if m.v.isSome=true then cJ (M.v.mt.dr+1)else M.v.mt.dr
 am:gB M 1→m=⟨true,none⟩
theorem J0.none{M N:Mo}{P:bz}{k:List UInt8}(h:N.v.mt.dr=M.v.mt.dr):J0 M N P k ⟨true,none⟩:=⟨(λy e=>by cases e),h,λ_=>rfl⟩
theorem J0.of{M N O:Mo}{P:bz}{k:List UInt8}{m:Rm}(R:J0 N O P k m)(h:N.v.mt.dr=M.v.mt.dr)(a:gB M 1→gB N 1):J0 M O P k m:=⟨R.v,by rw[←h];exact R.dr,λg=>R.am (a g)⟩
def bz.Fits (P:bz):Prop:=∀n:Nat,(n:Int)≤P.c.lim→∃c,P.z.findIdx? (λz=>decide (n≤z))=some c
theorem Xi{P:bz}{k:List UInt8}(h:P.f k=none):P.set k none=P:=by
 unfold bz.set
 have e:(λz=>if z=k then none else P.f z)=P.f:=funext λz=>by
  by_cases g:z=k
  ·rw[if_pos g,g,h]
  rw[if_neg g]
 rw[e]
theorem rm_f{P:bz}{m:Rm}{k:List UInt8}(h:∀y,m.v=some y→y≠k):(P.rm m).f k=P.f k:=by
 unfold bz.rm
 split
 ·rfl
 next y e=>exact if_neg λg=>h y e g.symm
theorem abX (P:bz)(m:Rm):(P.rm m).k=P.k∧(P.rm m).i=P.i:=by
 unfold bz.rm
 split<;>exact⟨rfl,rfl⟩
theorem aQ.over{M:Mo}{P:bz}{T:List UInt8→Prop}(S:aQ T M P){k:List UInt8}{old:Option Nat}(h0:old=none→P.f k=none)(h1:∀p,old=some p→M.has p∧(M.it p).key=k)(ov:Bool):aQ T (M.over old ov) (P.over k ov):=by
 unfold Mo.over bz.over
 cases old with
 |none=>
  rw[Xi (h0 rfl)]
  simpa using S
 |some p=>
  obtain⟨a,b⟩:=h1 p rfl
  cases ov with
  |false=>simpa using S
  |true=>
   simp only[if_true]
   have U:=S.i.qp a
   rw[b]at U
   exact S.dX U (by rw[←b];exact S.t p a) S.h (i:=P.i) S.aO.symm rfl
theorem FB (M:Mo)(old:Option Nat)(ov:Bool):(M.over old ov).v.mt=M.v.mt:=by
 unfold Mo.over
 cases old with
 |none=>rfl
 |some p=>cases ov<;>rfl
theorem FV (M:Mo)(r:Nat)(old:Option Nat)(n:I3):(M.fA r old n).v.mt=M.v.mt:=by
 unfold Mo.fA
 cases old<;>rfl
theorem tD (M:Mo)(k:List UInt8):(M.meet k).2.v.mt=M.v.mt:=by
 unfold Mo.meet
 split
 ·rfl
 ·split<;>rfl
theorem XZ (M:Mo)(r:Nat)(old:Option Nat)(n:I3):(M.fA r old n).v.c=M.v.c:=by
 unfold Mo.fA
 cases old<;>rfl
theorem RG (k v:List UInt8)(fl ex t n:Nat):(⟨k,v,fl,ex,t,n,0⟩:I3).vw=⟨k,v,fl,ex,t,n,0⟩:=by
 unfold I3.vw
 simp only[Nat.zero_div,afH]
theorem aQ.laid{M:Mo}{P:bz}{T:List UInt8→Prop}(S:aQ T M P){k:List UInt8}(hT:T k){n c:Nat}(hc:M.C.ae.findIdx? (λz=>decide (n≤z))=some c)(old:Option Nat)(h0:old=none→P.f k=none∧∀q,M.has q→(M.it q).key≠k)(h1:∀p,old=some p→M.has p∧(M.it p).key=k∧P.f k≠none){o:Option Nat}{N:Mo}(hr:M.room n old=(o,N)):
  ∃m,m.ok=o.isSome∧J0 M N P k m∧(o=none→aQ T N (P.rm m))∧(∀p,old=some p→N.has p∧(N.it p).key=k)∧(∀r,o=some r→∀v fl ex,aQ T (N.fA r old ⟨k,v,fl,ex,N.k.now,N.v.aO+1,0⟩) (((P.rm m).put ⟨k,v,fl,ex,P.k.now,P.i+1,0⟩ c).num (P.i+1))):=by
 obtain⟨m,R,ha⟩:=S.room hc old hr
 have Y:=tq S.i.co hr
 have ne:∀y,m.v=some y→y≠k:=λy e g=>by
  cases old with
  |none=>exact R.v y e (by rw[g];exact(h0 rfl).1)
  |some p=>exact R.own y e p rfl (h1 p rfl).1 (by rw[g,(h1 p rfl).2.1])
 have ht:∀q,N.has q→T (N.it q).key:=λq hq=>by rw[Y.s.it];exact S.t q (Y.s.has q hq)
 have hold:∀p,old=some p→N.has p∧(N.it p).key=k:=λp e=>⟨(Y.s.own p e (h1 p e).1).1,by rw[Y.s.it];exact(h1 p e).2.1⟩
 refine⟨m,R.ok,⟨λy e=>⟨R.v y e,ne y e⟩,R.dr,ha⟩,λe=>⟨R.i,R.no e,R.p,ht⟩,hold,λr e v fl ex=> ?_⟩
 obtain⟨r1,r2⟩:=R.r r e
 obtain⟨U,u1,u2⟩:=R.i.fA r1 old ⟨k,v,fl,ex,N.k.now,N.v.aO+1,0⟩ (λe q hq=>by rw[Y.s.it];exact(h0 e).2 q (Y.s.has q hq)) hold
 have q1:P.k=N.k:=by rw[S.mw,Y.s.k]
 have q2:P.i=N.v.aO:=by rw[S.aO,Y.s.aO]
 refine⟨U.i,u1, ?_,λq hq=>by
  rcases U.d q hq with g|⟨w,h2,e2⟩
  ·rw[g];exact hT
  rw[←e2];exact ht w h2⟩
 rw[CU U (XZ _ _ _ _),R.p,u2,r2]
 unfold bz.put
 rw[(abX P m).1,q1,q2,RG]
theorem aQ.lays{M:Mo}{P:bz}{T:List UInt8→Prop}(S:aQ T M P)(F:P.Fits){old:Option Nat}{k:List UInt8}(hT:T k)(h0:old=none→P.f k=none∧∀q,M.has q→(M.it q).key≠k)(h1:∀p,old=some p→M.has p∧(M.it p).key=k∧P.f k≠none)(ov:Bool)(x:List UInt8×Nat×Nat)(hx:(58+k.length+x.1.length:Nat)≤P.c.lim):
  ∃m,aQ T (M.lays k old ov x).2 (P.lays m k ov x).2∧(M.lays k old ov x).1.vw=(P.lays m k ov x).1∧J0 M (M.lays k old ov x).2 P k m:=by
 obtain⟨c,hc⟩:=F _ hx
 have fx:xe P.z (58+k.length+x.1.length)=c:=by unfold xe;rw[hc];rfl
 rw[S.sK]at hc
 rcases hr:M.room (58+k.length+x.1.length) old with⟨o,N⟩
 obtain⟨m,m1,m2,m3,m4,m5⟩:=S.laid hT hc old h0 h1 hr
 refine⟨m, ?_⟩
 unfold Mo.lays bz.lays
 rw[hr,fx]
 cases o with
 |none=>
  dsimp only
  rw[m1,if_neg (by decide)]
  refine⟨(m3 rfl).over (λe=>by rw[rm_f λy e=>(m2.v y e).2];exact(h0 e).1) m4 ov,rfl,m2.v, ?_,m2.am⟩
  rw[FB];exact m2.dr
 |some r=>
  dsimp only
  rw[m1,if_pos (by rfl)]
  refine⟨m5 r rfl x.1 x.2.1 x.2.2,rfl,m2.v, ?_,m2.am⟩
  rw[FV];exact m2.dr
theorem aQ.iz{M:Mo}{P:bz}{T:List UInt8→Prop}(S:aQ T M P)(F:P.Fits){old:Option Nat}{k:List UInt8}(hT:T k)(h0:old=none→P.f k=none∧∀q,M.has q→(M.it q).key≠k)(h1:∀p,old=some p→M.has p∧(M.it p).key=k∧P.f k=some (M.vw p))(c:dB):
  ∃m,aQ T (M.iz c k old).2 (P.cS m c k).2∧(M.iz c k old).1.vw=(P.cS m c k).1∧J0 M (M.iz c k old).2 P k m:=by
 have wy:∀p,old=some p→M.has p∧(M.it p).key=k∧P.f k≠none:=λp e=>⟨(h1 p e).1,(h1 p e).2.1,by rw[(h1 p e).2.2];simp⟩
 have ef:P.f k=old.map M.vw:=by
  cases old with
  |none=>exact(h0 rfl).1
  |some p=>exact(h1 p rfl).2.2
 have en:M.pX c k old=P.pX c k (P.f k):=by
  rw[ef]
  unfold Mo.pX bz.pX
  rw[S.mw,S.cfg]
  cases old<;>rfl
 unfold Mo.iz bz.cS
 rw[Uj,←ef,en,S.cfg]
 by_cases g1:c.lg=true∨M.v.c.lim<58+k.length+c.data.length
 ·rw[if_pos g1]
  simp only[if_pos g1]
  exact⟨⟨true,none⟩,S.over (λe=>(h0 e).1) (λp e=>⟨(h1 p e).1,(h1 p e).2.1⟩) _,rfl, .none (by rw[FB])⟩
 rw[if_neg g1]
 simp only[if_neg g1]
 by_cases g2:E4 c.verb c.tok (P.f k)≠0
 ·rw[if_pos g2]
  simp only[if_pos g2]
  exact⟨⟨true,none⟩,S,rfl, .none rfl⟩
 rw[if_neg g2]
 simp only[if_neg g2]
 cases hx:P.pX c k (P.f k)with
 |none=>exact⟨⟨true,none⟩,S,rfl, .none rfl⟩
 |some x=>
  refine S.lays F hT h0 wy (Cg c.verb) x ?_
  unfold bz.pX at hx
  rw[S.cfg]at hx⊢
  have g3:¬M.v.c.lim<58+k.length+c.data.length:=λh=>g1 (.inr h)
  split at hx
  ·cases hx
   simp only;omega
  split at hx
  ·cases hx
  next y hy=>
  split at hx
  ·cases hx
  cases hx
  simp only
  split<;>rw[List.length_append]<;>omega
theorem aQ.cS{M:Mo}{P:bz}{T:List UInt8→Prop}(S:aQ T M P)(F:P.Fits)(c:dB)(k:List UInt8)(hT:T k):
  ∃m,aQ T (M.cS c k).2 (P.cS m c k).2∧(M.cS c k).1.vw=(P.cS m c k).1∧J0 M (M.cS c k).2 P k m:=by
 obtain⟨S1,h1,h2⟩:=S.meet k
 obtain⟨m,a,b,d⟩:=S1.iz (old:=(M.meet k).1) (k:=k) F hT h2 (λp e=>⟨(h1 p e).1,(h1 p e).2.1,(h1 p e).2.2.2⟩) c
 exact⟨m,a,b,d.of (by rw[tD]) λA=>A.meet k⟩
theorem Ns (x:I3):({x with cQ:=x.cQ-x.cQ/2 % 4*2+0*2}:I3).vw={x.vw with cQ:=x.vw.cQ-x.vw.cQ/2 % 4*2}:=by
 unfold I3.vw
 congr 1
 dsimp only
 omega
theorem aQ.fw{M:Mo}{P:bz}{T:List UInt8→Prop}(S:aQ T M P)(F:P.Fits){p:Nat}{k:List UInt8}(hp:M.has p)(hk:(M.it p).key=k)(hf:P.f k=some (M.vw p))(n:Nat):
  ∃m,aQ T (M.fw p n).2 (P.fw m (M.vw p) n).2∧(M.fw p n).1.vw=(P.fw m (M.vw p) n).1∧J0 M (M.fw p n).2 P k m:=by
 unfold Mo.fw bz.fw
 rw[S.sK,S.cfg,show M.C.sz (M.C.cl p)=M.C.ae.getD (M.vw p).2 0 from rfl,show(M.vw p).1.key=(M.it p).key from rfl]
 by_cases g1:58+(M.it p).key.length+(dw n).length≤M.C.ae.getD (M.vw p).2 0
 ·rw[if_pos g1]
  simp only[if_pos g1]
  refine⟨⟨true,none⟩, ?_,rfl, .none rfl⟩
  refine S.put (N:=((((M.jC p (dw n)).kG (M.v.aO+1)).tok p (M.v.aO+1)).marks p 0).jz p) hp rfl rfl rfl rfl rfl rfl (λq h=> ?_) (x:=({(M.vw p).1 with val:=dw n,tok:=P.i+1,cQ:=(M.vw p).1.cQ-(M.vw p).1.cQ/2 % 4*2}:I3).wF P.k.now) ?_ rfl (i:=P.i+1) (by rw[S.aO];rfl) rfl
  ·unfold Mo.jz Mo.marks Mo.tok Mo.kG Mo.jC Mo.put
   dsimp only
   rw[if_neg h,if_neg h,if_neg h,if_neg h]
  rw[S.mw,S.aO]
  have e:((((M.jC p (dw n)).kG (M.v.aO+1)).tok p (M.v.aO+1)).marks p 0).it p={({M.it p with val:=dw n,tok:=M.v.aO+1}:I3)with cQ:=(M.it p).cQ-(M.it p).cQ/2 % 4*2+0*2}:=by
   unfold Mo.marks Mo.tok Mo.kG Mo.jC Mo.put
   dsimp only
   rw[if_pos rfl,if_pos rfl,if_pos rfl]
  have e2:=CR (((((M.jC p (dw n)).kG (M.v.aO+1)).tok p (M.v.aO+1)).marks p 0).it p) M.k.now
  rw[e,Ns {M.it p with val:=dw n,tok:=M.v.aO+1}]at e2
  refine Eq.trans (congrArg I3.vw ?_) e2
  rw[←e]
  exact if_pos rfl
 rw[if_neg g1]
 simp only[if_neg g1]
 by_cases g2:M.v.c.lim<58+(M.it p).key.length+(dw n).length
 ·rw[if_pos g2]
  simp only[if_pos g2]
  exact⟨⟨true,none⟩,S,rfl, .none rfl⟩
 rw[if_neg g2]
 simp only[if_neg g2]
 obtain⟨c,hc⟩:=F (58+(M.it p).key.length+(dw n).length) (by rw[S.cfg];omega)
 rw[S.sK]at hc
 have fx:xe M.C.ae (58+(M.it p).key.length+(dw n).length)=c:=by unfold xe;rw[hc];rfl
 rcases hr:M.room (58+(M.it p).key.length+(dw n).length) (some p)with⟨o,N⟩
 obtain⟨m,m1,m2,m3,m4,m5⟩:=S.laid (k:=k) (by rw[←hk];exact S.t p hp) hc (some p) (λe=>by cases e) (λq e=>by cases e;exact⟨hp,hk,by rw[hf];simp⟩) hr
 refine⟨m, ?_⟩
 rw[fx]
 cases o with
 |none=>
  dsimp only
  rw[m1,if_neg (by decide)]
  exact⟨m3 rfl,rfl,m2⟩
 |some r=>
  dsimp only
  rw[m1,if_pos (by rfl)]
  have:=m5 r rfl (dw n) (M.it p).fl (M.it p).exp
  rw[←hk]at this m2
  refine⟨this,rfl,by rw[←hk];exact m2.v, ?_,m2.am⟩
  rw[FV];exact m2.dr
theorem aQ.counts{M:Mo}{P:bz}{T:List UInt8→Prop}(S:aQ T M P)(F:P.Fits)(c:dB)(k:List UInt8):
  ∃m,aQ T (M.counts c k).2 (P.counts m c k).2∧(M.counts c k).1.vw=(P.counts m c k).1∧J0 M (M.counts c k).2 P k m:=by
 obtain⟨S1,h1,h2⟩:=S.meet k
 have e3:=tD M k
 have ea:gB M 1→gB (M.meet k).2 1:=λA=>A.meet k
 unfold Mo.counts bz.counts
 rcases hm:M.meet k with⟨_|p,N⟩<;>rw[hm]at S1 h1 h2 e3 ea<;>dsimp only at S1 h1 h2 e3 ea⊢
 ·rw[(h2 rfl).1]
  exact⟨⟨true,none⟩,S1,rfl, .none (by rw[e3])⟩
 obtain⟨a,b,d,e⟩:=h1 p rfl
 rw[e]
 dsimp only
 rw[show(N.vw p).1.val=(N.it p).val from rfl]
 cases pW (N.it p).val with
 |none=>exact⟨⟨true,none⟩,S1,rfl, .none (by rw[e3])⟩
 |some n=>
  dsimp only
  obtain⟨m,x1,x2,x3⟩:=S1.fw F a b e (mK c n)
  exact⟨m,x1,x2,x3.of (by rw[e3]) ea⟩
theorem TQ (dX:Bool)(ex:Int)(s:List I3×Mo)(y:List UInt8):(Mo.dt dX ex s y).2.v.mt=s.2.v.mt:=by
 have e3:(s.2.meet y).2.v.mt=s.2.v.mt:=by
  unfold Mo.meet
  split
  ·rfl
  ·split<;>rfl
 unfold Mo.dt
 rcases hm:s.2.meet y with⟨_|p,N⟩<;>rw[hm]at e3
 ·exact e3
 ·cases dX<;>exact e3
theorem Ga (dX:Bool)(ex:Int):∀(l:List (List UInt8)) (s:List I3×Mo),(l.foldl (Mo.dt dX ex) s).2.v.mt=s.2.v.mt
 | [],_=>rfl
 |y::l,s=>by rw[adl,Ga dX ex l,TQ]
theorem aQ.fb{M:Mo}{P:bz}{T:List UInt8→Prop}(S:aQ T M P)(F:P.Fits)(c:dB)(hT:T (c.keys.headD [])):
  ∃m,aQ T (M.fb c).2 (P.fb m c).2∧(M.fb c).1.vw=(P.fb m c).1∧J0 M (M.fb c).2 P (c.keys.headD []) m:=by
 unfold Mo.fb bz.fb
 split
 ·obtain⟨a,b⟩:=S.kX c.verb c.keys c.ex
  refine⟨⟨true,none⟩,a,b, .none ?_⟩
  unfold Mo.kX
  dsimp only
  rw[Ga]
 split
 ·exact S.counts F c _
 split
 ·obtain⟨a,b⟩:=S.ct (c.keys.headD []) c.ex
  refine⟨⟨true,none⟩,a,b, .none ?_⟩
  have:=tD M (c.keys.headD [])
  unfold Mo.ct
  rcases hm:M.meet (c.keys.headD [])with⟨_|p,N⟩<;>rw[hm]at this<;>exact congrArg Mt.dr this
 split
 ·obtain⟨a,b⟩:=S.delete (c.keys.headD [])
  refine⟨⟨true,none⟩,a,b, .none ?_⟩
  have:=tD M (c.keys.headD [])
  unfold Mo.delete
  rcases hm:M.meet (c.keys.headD [])with⟨_|p,N⟩<;>rw[hm]at this<;>exact congrArg Mt.dr this
 split
 ·exact⟨⟨true,none⟩,S.flush c.ex,rfl, .none rfl⟩
 split
 ·exact⟨⟨true,none⟩,S,rfl, .none rfl⟩
 split
 ·exact⟨⟨true,none⟩,S,rfl, .none rfl⟩
 split
 ·exact⟨⟨true,none⟩,S,rfl, .none rfl⟩
 exact S.cS F c _ hT
def bz.dO (m:Rm)(P:bz)(c:dB):eH×bz:=if yi c=true then(.t yl,P)else P.fb m c
theorem xX (M:Mo):M.beside.v.mt.dr=M.v.mt.dr:=by
 unfold Mo.beside Mo.jk Mo.iy Mo.eD Mo.aV
 rfl
theorem JK (hot warm:Nat)(M:Mo)(k:List UInt8):(M.behind hot warm k).v.mt.dr=M.v.mt.dr:=by
 unfold Mo.behind
 rw[xX]
 unfold Mo.mL
 split<;>rfl
theorem aQ.beside{M:Mo}{P:bz}{T:List UInt8→Prop}(S:aQ T M P):aQ T M.beside P:=S.go (S.i.beside S.h).1 (S.i.beside S.h).2 (nY M).aO (nY M).c
theorem aQ.behind{M:Mo}{P:bz}{T:List UInt8→Prop}(S:aQ T M P)(hot warm:Nat)(k:List UInt8):aQ T (M.behind hot warm k) P:=S.go (S.i.behind S.h hot warm k).1 (S.i.behind S.h hot warm k).2 (rW hot warm M k).aO (rW hot warm M k).c
theorem aQ.l9{P:bz}{T:List UInt8→Prop}(hot warm:Nat):∀(l:List (List UInt8)) {M:Mo},aQ T M P→aQ T (l.foldl (Mo.behind hot warm) M) P
 | [],_,S=>S
 |k::l,_,S=>aQ.l9 hot warm l (S.behind hot warm k)
theorem wg (hot warm:Nat):∀(l:List (List UInt8)) (M:Mo),(l.foldl (Mo.behind hot warm) M).v.mt.dr=M.v.mt.dr
 | [],_=>rfl
 |k::l,M=>by rw[adl,wg hot warm l,JK]
theorem aQ.reset{M:Mo}{P:bz}{T:List UInt8→Prop}(S:aQ T M P):aQ T M.reset P:=S.go S.i.OJ S.h rfl rfl
theorem gB.of{M N:Mo}{j:Nat}(A:gB M j)(h1:N.m.on=M.m.on)(h2:N.C=M.C):gB N j:=A.ev (.rf h1 h2)
theorem aQ.dO{M:Mo}{P:bz}{T:List UInt8→Prop}(S:aQ T M P)(F:P.Fits)(hot warm:Nat)(c:dB)(hT:T (c.keys.headD [])):
  ∃m,aQ T (M.dO hot warm c).2 (P.dO m c).2∧(M.dO hot warm c).1.vw=(P.dO m c).1∧(∀y,m.v=some y→P.f y≠none∧y≠c.keys.headD [])∧(M.dO hot warm c).2.v.mt.dr=(if m.v.isSome=true then 1 else 0)∧(gB M 1→m=⟨true,none⟩):=by
 unfold Mo.dO bz.dO
 split
 ·exact⟨⟨true,none⟩,S.reset,rfl,(λy e=>by cases e),rfl,λ_=>rfl⟩
 obtain⟨m,a,b,d⟩:=S.reset.fb F c hT
 have hd:(M.reset.fb c).2.v.mt.dr=(if m.v.isSome=true then 1 else 0):=by
  rw[d.dr]
  split<;>rfl
 split
 ·exact⟨m,a.beside,b,d.v,by rw[xX];exact hd,λA=>d.am (A.of rfl rfl)⟩
 exact⟨m,a.l9 hot warm _,b,d.v,by rw[wg];exact hd,λA=>d.am (A.of rfl rfl)⟩
def J3 (M N:Mo):Prop:=∃A B,Ev M A∧(B=A∨∃c r,Mi A∧c<A.C.ae.length∧A.take c=some (r,B))∧Ev B N
theorem Ev.one{M N:Mo}(E:Ev M N):J3 M N:=⟨N,N,E, .inl rfl, .rf rfl rfl⟩
theorem Ev.then{M N O:Mo}(E:Ev M N)(F:J3 N O):J3 M O:=by
 obtain⟨A,B,h1,h2,h3⟩:=F
 exact⟨A,B,E.trans h1,h2,h3⟩
theorem J3.then{M N O:Mo}(F:J3 M N)(E:Ev N O):J3 M O:=by
 obtain⟨A,B,h1,h2,h3⟩:=F
 exact⟨A,B,h1,h2,h3.trans E⟩
theorem Ev.over (M:Mo)(old:Option Nat)(ov:Bool):Ev M (M.over old ov):=by
 unfold Mo.over
 split
 ·split
  ·exact Ev.bM M _
  exact .rf rfl rfl
 exact .rf rfl rfl
theorem tx{M:Mo}(K:Mi M)(hh:M.hole=none)(A:gB M 1)(n:Nat)(own:Option Nat){o:Option Nat}{N:Mo}(h:M.room n own=(o,N)):N=M∨∃c r,Mi M∧c<M.C.ae.length∧M.take c=some (r,N):=by
 cases hc:M.C.ae.findIdx? (λz=>decide (n≤z))with
 |none=>
  unfold Mo.room at h
  rw[hc]at h
  cases h
  exact .inl rfl
 |some c=>
  obtain⟨r,D,e,_,_,_,_,_,_,t⟩:=K.room hh (j:=0) A hc own
  rw[e]at h
  cases h
  exact .inr ⟨c,r,K,(aav.1 hc).1,t⟩
theorem Te{M:Mo}(K:Mi M)(hh:M.hole=none)(A:gB M 1)(k:List UInt8)(old:Option Nat)(ov:Bool)(x:List UInt8×Nat×Nat):J3 M (M.lays k old ov x).2:=by
 unfold Mo.lays
 rcases hr:M.room (58+k.length+x.1.length) old with⟨_|r,N⟩
 ·exact⟨M,N, .rf rfl rfl,tx K hh A _ _ hr,Ev.over _ _ _⟩
 exact⟨M,N, .rf rfl rfl,tx K hh A _ _ hr,Ev.fA _ _ _ _⟩
theorem Ev.dt (dX:Bool)(ex:Int)(s:List I3×Mo)(y:List UInt8):Ev s.2 (Mo.dt dX ex s y).2:=by
 have e:=Ev.meet s.2 y
 unfold Mo.dt
 rcases hm:s.2.meet y with⟨_|p,N⟩<;>rw[hm]at e
 ·exact e
 cases dX
 ·exact e.trans (.rf rfl rfl)
 exact e.trans (.rf rfl rfl)
theorem Ev.kX (dX:Bool)(ex:Int):∀(l:List (List UInt8)) (s:List I3×Mo),Ev s.2 (l.foldl (Mo.dt dX ex) s).2
 | [],_=> .rf rfl rfl
 |y::l,s=>by rw[adl];exact(Ev.dt dX ex s y).trans (Ev.kX dX ex l _)
theorem tO{M:Mo}{P:bz}{T:List UInt8→Prop}(S:aQ T M P)(A:gB M 1)(c:dB):J3 M (M.fb c).2:=by
 unfold Mo.fb
 split
 ·exact(Ev.kX _ _ c.keys ([],M)).one
 split
 ·have e:=Ev.meet M (c.keys.headD [])
  have S1:=(S.meet (c.keys.headD [])).1
  have A1:=A.meet (c.keys.headD [])
  unfold Mo.counts
  rcases hm:M.meet (c.keys.headD [])with⟨_|p,N⟩<;>rw[hm]at e S1 A1
  ·exact e.one
  dsimp only at S1 A1⊢
  cases pW (N.it p).val with
  |none=>exact e.one
  |some n=>
   refine e.then ?_
   dsimp only
   unfold Mo.fw
   split
   ·exact Ev.one (by exact .rf rfl rfl)
   split
   ·exact Ev.one (by exact .rf rfl rfl)
   rcases hr:N.room (58+(N.it p).key.length+(dw (mK c n)).length) (some p)with⟨_|r,R⟩
   ·exact⟨N,R, .rf rfl rfl,tx S1.i S1.h A1 _ _ hr, .rf rfl rfl⟩
   exact⟨N,R, .rf rfl rfl,tx S1.i S1.h A1 _ _ hr,by dsimp only;exact Ev.fA _ _ _ _⟩
 split
 ·have e:=Ev.meet M (c.keys.headD [])
  unfold Mo.ct
  rcases hm:M.meet (c.keys.headD [])with⟨_|p,N⟩<;>rw[hm]at e
  ·exact e.one
  exact Ev.one (e.trans (by exact .rf rfl rfl))
 split
 ·have e:=Ev.meet M (c.keys.headD [])
  unfold Mo.delete
  rcases hm:M.meet (c.keys.headD [])with⟨_|p,N⟩<;>rw[hm]at e
  ·exact e.one
  exact Ev.one (e.trans (by exact Ev.bM _ _))
 split
 ·exact Ev.one (by exact .rf rfl rfl)
 split
 ·exact Ev.one (by exact .rf rfl rfl)
 split
 ·exact Ev.one (by exact .rf rfl rfl)
 split
 ·exact Ev.one (by exact .rf rfl rfl)
 have e:=Ev.meet M (c.keys.headD [])
 have S1:=(S.meet (c.keys.headD [])).1
 have A1:=A.meet (c.keys.headD [])
 unfold Mo.cS
 refine e.then ?_
 unfold Mo.iz
 split
 ·exact(Ev.over _ _ _).one
 split
 ·exact Ev.one (by exact .rf rfl rfl)
 split
 ·exact Ev.one (by exact .rf rfl rfl)
 exact Te S1.i S1.h A1 _ _ _ _
theorem RL{M N:Mo}{c r:Nat}(h:M.take c=some (r,N)):M.C.spare≤N.C.spare+1∧N.m=M.m:=by
 unfold Mo.take at h
 split at h
 ·next p D hD=>
  cases h
  refine⟨?_,rfl⟩
  unfold Cs.dH at hD
  split at hD
  ·cases hD;exact aeO _
  split at hD
  ·cases hD
  next i _=>
  split at hD
  ·cases hD
   show M.C.spare≤M.C.spare-1+1
   omega
  cases hD
 cases h
theorem J3.QL{M N:Mo}{j:Nat}(A:gB M (j+1))(E:J3 M N):gB N j:=by
 obtain⟨B,D,h1,h2,h3⟩:=E
 have A1:=A.ev h1
 have A2:gB D j:=by
  rcases h2 with rfl|⟨c,r,_,_,h⟩
  ·exact A1.le (aeO j)
  obtain⟨g1,g2⟩:=RL h
  exact⟨by rw[g2];exact A1.on,by have:=A1.sp;omega⟩
 exact A2.ev h3
theorem acY{M:Mo}{P:bz}{T:List UInt8→Prop}(S:aQ T M P){j:Nat}(A:gB M (j+2))(hot warm:Nat)(c:dB):J3 M (M.dO hot warm c).2:=by
 have E0:Ev M M.reset:= .rf rfl rfl
 unfold Mo.dO
 split
 ·exact E0.one
 have A0:gB M.reset (j+1+1):=A.ev E0
 have E:=tO S.reset (A0.le (adr (aay _))) c
 have A1:=E.QL A0
 split
 ·exact E0.then (E.then (A1.le (adr (aay _))).beside)
 exact E0.then (E.then (gB.l9 hot warm _ A1))
theorem Zi{M:Mo}{P:bz}{T:List UInt8→Prop}(S:aQ T M P){j:Nat}(A:gB M (j+2))(hot warm:Nat)(c:dB):gB (M.dO hot warm c).2 (j+1):=(acY S A hot warm c).QL A
structure J1 (M:Mo)(s:Nat):Prop where
 st:M.m.st≤s
 tn:M.tn≤s
 aO:M.v.aO≤s
theorem Dz{M:Mo}{P:bz}{T:List UInt8→Prop}(S:aQ T M P){s:Nat}(R:J1 M s)(hot warm:Nat)(c:dB):J1 (M.dO hot warm c).2 (s+c.keys.length+1)∧(M.dO hot warm c).2.v.p=M.v.p∧(M.dO hot warm c).2.v.c=M.v.c:=by
 have r1:=R.st
 have r2:=R.tn
 have r3:=R.aO
 unfold Mo.dO
 split
 ·exact⟨⟨by show M.m.st≤_;omega,by show M.tn≤_;omega,by show M.v.aO≤_;omega⟩,rfl,rfl⟩
 have KD:=Gl S.reset.i.co S.h c
 have k1:_=M.m.st:=KD.st
 have k2:_≤M.v.aO+1:=KD.aO
 have k3:_≤M.tn+max c.keys.length 1:=KD.tn
 have k4:_=M.v.p:=KD.p
 have k5:_=M.v.c:=KD.c
 generalize (M.reset.fb c).2=N at*
 split
 ·have B:=nY N
  have b1:=B.st
  have b2:=B.aO
  have b3:=B.tn
  exact⟨⟨by dsimp only;omega,by dsimp only;omega,by dsimp only;omega⟩,B.p.trans k4,B.c.trans k5⟩
 have B:=pI hot warm c.keys N
 have b1:=B.st
 have b2:=B.aO
 have b3:=B.tn
 exact⟨⟨by dsimp only;omega,by dsimp only;omega,by dsimp only;omega⟩,B.p.trans k4,B.c.trans k5⟩
theorem Ad (P:bz)(m:Rm):(P.rm m).c=P.c∧(P.rm m).z=P.z:=by
 unfold bz.rm
 split<;>exact⟨rfl,rfl⟩
theorem yZ (P:bz)(k:List UInt8)(ov:Bool):(P.over k ov).c=P.c∧(P.over k ov).z=P.z:=by
 unfold bz.over
 split<;>exact⟨rfl,rfl⟩
theorem Gb (dX:Bool)(ex:Int):∀(l:List (List UInt8)) (s:List I3×bz),(l.foldl (bz.dt dX ex) s).2.c=s.2.c∧(l.foldl (bz.dt dX ex) s).2.z=s.2.z
 | [],_=>⟨rfl,rfl⟩
 |y::l,s=>by
  obtain⟨a,b⟩:=Gb dX ex l (bz.dt dX ex s y)
  have h:(bz.dt dX ex s y).2.c=s.2.c∧(bz.dt dX ex s y).2.z=s.2.z:=by
   unfold bz.dt
   split<;>exact⟨rfl,rfl⟩
  exact⟨a.trans h.1,b.trans h.2⟩
theorem acZ (m:Rm)(P:bz)(c:dB):(P.dO m c).2.c=P.c∧(P.dO m c).2.z=P.z:=by
 unfold bz.dO
 split
 ·exact⟨rfl,rfl⟩
 unfold bz.fb
 split
 ·exact Gb _ _ c.keys ([],P)
 split
 ·unfold bz.counts
  split
  ·exact⟨rfl,rfl⟩
  split
  ·exact⟨rfl,rfl⟩
  unfold bz.fw
  split
  ·exact⟨rfl,rfl⟩
  split
  ·exact⟨rfl,rfl⟩
  split
  ·exact Ad P m
  exact Ad P m
 split
 ·unfold bz.ct
  split<;>exact⟨rfl,rfl⟩
 split
 ·unfold bz.delete
  split<;>exact⟨rfl,rfl⟩
 split
 ·exact⟨rfl,rfl⟩
 split
 ·exact⟨rfl,rfl⟩
 split
 ·exact⟨rfl,rfl⟩
 split
 ·exact⟨rfl,rfl⟩
 unfold bz.cS
 split
 ·exact yZ _ _ _
 split
 ·exact⟨rfl,rfl⟩
 split
 ·exact⟨rfl,rfl⟩
 unfold bz.lays
 split
 ·exact Ad P m
 exact⟨(yZ _ _ _).1.trans (Ad P m).1,(yZ _ _ _).2.trans (Ad P m).2⟩
theorem tP{m:Rm}{P:bz}{c:dB}(F:P.Fits):(P.dO m c).2.Fits:=by
 obtain⟨a,b⟩:=acZ m P c
 unfold bz.Fits
 rw[a,b]
 exact F
def bz.tick (P:bz)(n:Int):bz:=if P.k.Cy n=0 then P.clock (P.k.move n P.i)else P
theorem aQ.tick{M:Mo}{P:bz}{T:List UInt8→Prop}(S:aQ T M P)(n:Int):aQ T (M.tick n) (P.tick n):=by
 unfold Mo.tick bz.tick
 rw[S.mw]
 split
 ·have S1:aQ T (M.dp n) (P.clock (M.k.move n P.i)):=by
   rw[S.aO]
   exact S.clock rfl rfl S.i.x rfl rfl rfl rfl rfl rfl (xB _ _ _).1 (xB _ _ _).2
  have S2:=S1.reset
  obtain⟨a1,a2,a3,a4,a5,a6,a7⟩:=lB (M.dp n).reset (M.dp n).k.now 64
  have G:=S2.i.vu (M.dp n).k.now 64
  have S3:=S2.go G (a1.trans S2.h) a6 a5
  exact S3.go (S3.i.sj _) S3.h rfl rfl
 exact S
theorem HK{l:List Nat}{p:Nat}(nd:l.Nodup)(h:p∈l)(g:∀q∈l,q=p):l.length=1:=by
 cases l with
 |nil=>cases h
 |cons a r=>
  cases r with
  |nil=>rfl
  |cons b r=>
   have h1:=g a aai
   have h2:=g b (aag _ aai)
   rw[h1,h2]at nd
   exact absurd aai (aar.1 nd).1
theorem Tc{B:Bx}{M:Mo}{P:bz}{k:List UInt8}(O:bF B M)(S:aQ (λy=>y=k) M P)(h:P.f k≠none):M.n=1:=by
 cases hx:P.f k with
 |none=>exact absurd hx h
 |some x=>
  rw[S.f]at hx
  obtain⟨p,h1,h2,_,_⟩:=(nq S.i.p).1 hx
  rw[←O.n,O.t.n]
  refine HK O.t.nd ((O.al p).2 h1) λq hq=> ?_
  have g:=(O.al q).1 hq
  exact S.i.p.kd q p g h1 ((S.t q g).trans h2.symm)
theorem FH{c:oU}{pc:sQ}{k:Ck}{q:Nat}(h:(eK c pc k).has q):False:=by
 obtain⟨i,hi⟩:=h
 rw[show(eK c pc k).Q=aae ((cH c).ae.length*3) []from rfl,C0]at hi
 cases hi
def wB (c:oU):bz:=⟨λ_=>none,⟨1,0,0⟩,0,c,eM c⟩
theorem vj{c:oU}(h:mS c=0)(pc:sQ)(T:List UInt8→Prop):aQ T (eK c pc ⟨1,0,0⟩) (wB c):=by
 have O:=FI h pc ⟨1,0,0⟩ ⟨aan _,by decide,by decide,λh=>absurd rfl h,by decide⟩ 0
 refine⟨O.mi,rfl, ?_,λq hq=>(FH hq).elim⟩
 unfold Mo.ps wB
 rw[show(eK c pc ⟨1,0,0⟩).jh=λ_=>none from funext λz=>yU λq hq=>(FH hq).elim]
 rfl
theorem SR (c:oU)(pc:sQ)(k:Ck):gB (eK c pc k) c.cP.toNat:=⟨rfl,aan _⟩
theorem y3 (c:oU)(pc:sQ)(k:Ck):J1 (eK c pc k) 0:=⟨aan _,aan _,aan _⟩
theorem Gf{P:bz}{z:Nat}(h:z∈P.z)(hl:P.c.lim≤z):P.Fits:=λn hn=>by
 cases hf:P.z.findIdx? (λz=>decide (n≤z))with
 |some c=>exact⟨c,rfl⟩
 |none=>
  have:=adV.1 hf z h
  simp only[decide_eq_false_iff_not]at this
  omega
theorem S9{M:Mo}{P:bz}{T:List UInt8→Prop}(S:aQ T M P){k:List UInt8}{x:I3}{c:Nat}(h:P.f k=some (x,c)):∃p,M.live k=some p∧(M.it p).vw=x:=by
 rw[S.f]at h
 unfold Mo.jh at h
 cases hl:M.live k with
 |none=>rw[hl]at h;cases h
 |some p=>
  rw[hl]at h
  simp only[Option.map_some,Option.some.injEq]at h
  exact⟨p,rfl,congrArg Prod.fst h⟩
def GD:Rm:=⟨true,none⟩
theorem u9{M:Mo}{P:bz}{T:List UInt8→Prop}(S:aQ T M P)(F:P.Fits){j s:Nat}(A:gB M (j+2))(R:J1 M s)(hot warm:Nat)(c:dB)(hT:T (c.keys.headD [])):
  (aQ T (M.dO hot warm c).2 (P.dO GD c).2∧(M.dO hot warm c).1.vw=(P.dO GD c).1∧gB (M.dO hot warm c).2 (j+1)∧J1 (M.dO hot warm c).2 (s+c.keys.length+1))∧(M.dO hot warm c).2.v.p=M.v.p∧(M.dO hot warm c).2.v.c=M.v.c:=by
 obtain⟨m,a,b,_,_,h⟩:=S.dO F hot warm c hT
 obtain rfl:=h (A.le (adr (aay _)))
 obtain⟨r1,r2,r3⟩:=Dz S R hot warm c
 exact⟨⟨a,b,Zi S A hot warm c,r1⟩,r2,r3⟩
structure Rdy (M:Mo):Prop where
 h:M.hole=none
 st:M.m.st≤1000
 tn:M.tn≤1000
 aO:M.v.aO≤1000
 p:sW M.v.p
 lim:M.v.c.lim≤1048576
structure Rdo (M:Mo)(c:dB):Prop where
 r:Rdy M
 a:gB M 1
 b:gB (M.reset.fb c).2 1
theorem CY{M:Mo}{P:bz}{T:List UInt8→Prop}(S:aQ T M P){s:Nat}(R:J1 M s)(hs:s≤1000)(hp:sW M.v.p)(hl:M.v.c.lim≤1048576):Rdy M:=⟨S.h,aei R.st hs,aei R.tn hs,aei R.aO hs,hp,hl⟩
theorem CZ{M:Mo}{P:bz}{T:List UInt8→Prop}(S:aQ T M P){j:Nat}(A:gB M (j+2))(R:Rdy M)(c:dB):Rdo M c:=⟨R,A.le (adr (aay _)),((tO S.reset ((A.le (adr (aay _))).of rfl rfl) c).QL (A.of rfl rfl:gB M.reset (j+1+1))).le (adr (aay _))⟩
theorem vh:sW iJ:=⟨by decide,by decide,by decide,by decide⟩
def cW:oU:=⟨4096,4,200,64,256,30,30⟩
def qU (v:Int)(fl tok:Nat)(b:UInt8):dB:=⟨v,[[97]],fl,0,tok,0,[b],false,false,[]⟩
theorem Zn:mS cW=0:=by decide+kernel
theorem Zm:oV cW iJ=0:=by decide+kernel
theorem pW1:((wB cW).dO GD (qU 5 5 0 120)).1.kind=1:=by kernel_rfl
theorem pW2:(((wB cW).dO GD (qU 5 5 0 120)).2.dO GD (qU 10 0 1 121)).1.kind=1:=by kernel_rfl
theorem pW3:((((wB cW).dO GD (qU 5 5 0 120)).2.dO GD (qU 10 0 1 121)).2.dO GD (qU 10 0 1 122)).1.kind=3:=by kernel_rfl
theorem pWf:((((wB cW).dO GD (qU 5 5 0 120)).2.dO GD (qU 10 0 1 121)).2.dO GD (qU 10 0 1 122)).2.f [97]=some (⟨[97],[121],0,0,1,2,0⟩,0):=by kernel_rfl
theorem BB (hot warm:Nat):∀r1 r2 r3,(eK cW iJ ⟨1,0,0⟩).dO hot warm (qU 5 5 0 120)=r1→r1.2.dO hot warm (qU 10 0 1 121)=r2→r2.2.dO hot warm (qU 10 0 1 122)=r3→
  ((Rdo (eK cW iJ ⟨1,0,0⟩) (qU 5 5 0 120)∧Rdo r1.2 (qU 10 0 1 121)∧Rdo r2.2 (qU 10 0 1 122))∧r1.1.kind=1∧r2.1.kind=1∧r3.1.kind=3)∧∃P,aQ (λy=>y= [97]) r3.2 P∧P.f [97]=some (⟨[97],[121],0,0,1,2,0⟩,0):=by
 intro r1 r2 r3 e1 e2 e3
 have w0:(eK cW iJ ⟨1,0,0⟩).v.c.lim≤1048576:=show(256:Int)≤1048576 by decide
 have F0:(wB cW).Fits:=Gf (z:=256) (show 256∈eM cW by decide+kernel) (by decide)
 have S0:aQ (λy=>y= [97]) (eK cW iJ ⟨1,0,0⟩) (wB cW):=vj Zn iJ _
 have A0:gB (eK cW iJ ⟨1,0,0⟩) (2+2):=SR cW iJ _
 have R0:=y3 cW iJ ⟨1,0,0⟩
 obtain⟨⟨S1,k1,A1,R1⟩,p1,c1⟩:=u9 S0 F0 A0 R0 hot warm (qU 5 5 0 120) rfl
 rw[e1]at S1 k1 A1 R1 p1 c1
 obtain⟨⟨S2,k2,A2,R2⟩,p2,c2⟩:=u9 S1 (tP F0) A1 R1 hot warm (qU 10 0 1 121) rfl
 rw[e2]at S2 k2 A2 R2 p2 c2
 obtain⟨⟨S3,k3,A3,R3⟩,p3,c3⟩:=u9 S2 (tP (tP F0)) (j:=0) A2 R2 hot warm (qU 10 0 1 122) rfl
 rw[e3]at S3 k3 A3 R3
 exact⟨⟨⟨CZ S0 A0 (CY S0 R0 (by decide) vh w0) _,CZ S1 A1 (CY S1 R1 (by decide) (p1.symm▸vh) (c1.symm▸w0)) _,CZ S2 (j:=0) A2 (CY S2 R2 (by decide) (p2.symm▸p1.symm▸vh) (c2.symm▸c1.symm▸w0)) _⟩,(congrArg eH.kind k1).trans pW1,(congrArg eH.kind k2).trans pW2,(congrArg eH.kind k3).trans pW3⟩,_,S3,pWf⟩
def cA:oU:=⟨4096,64,200,64,512,30,30⟩
theorem DB:mS cA=0:=by decide+kernel
theorem aQ.aD{M:Mo}{P:bz}{T:List UInt8→Prop}(S:aQ T M P)(a:Option Addr)(c:Nat):aQ T (M.aD a c) P:=S.go ⟨S.i.rf S.i.x rfl rfl rfl rfl rfl rfl rfl rfl,dS S.i.p rfl rfl rfl⟩ S.h rfl rfl
theorem RW{l:List Bool}(h:∀b∈l,b=true):(l.map bN).sum=l.length:=by
 induction l with
 |nil=>rfl
 |cons b l ih=>
  rw[aao,aaC,ih λc hc=>h c (aag _ hc),h b aai,adm]
  show 1+l.length=_
  omega
theorem xm{α:Type}(f g:α→Nat)(k:Nat):∀l:List α,(∀x∈l,f x=g x*k)→(l.map f).sum=(l.map g).sum*k
 | [],_=>by simp
 |x::l,h=>by
  rw[aao,aaC,aao,aaC,h x aai,xm f g k l λy hy=>h y (aag _ hy),Nat.add_mul]
theorem Eo{C:Cs}(K:Ok C)(hl:∀i,(C.pg i).lv=false){c:Nat}(hc:c<C.ae.length)(he:(C.rw c).free= []):(C.rw c).gm=(C.rw c).cP*(C.ao/C.sz c):=by
 rw[K.ft c hc,K.fp c hc]
 unfold Cs.Cb
 refine xm _ _ _ _ λx hx=> ?_
 obtain⟨i,hi,rfl⟩:=aaz hx
 have aq:i<C.n:=by rw[←K.pl];exact hi
 have iD:C.pg i=C.bZ[i]:=by
  have:=k8 hi
  rw[aac hi]at this
  exact(Option.some.inj this).symm
 have P:kY C (C.pg i):=K.pg _ (gg hi)
 rw[←iD]
 unfold wq x4
 by_cases ho:(C.pg i).own=true∧(C.pg i).cl=c
 ·rw[if_pos ho,if_pos ho,Nat.one_mul,P.held,RW,P.tl,P.gl ho.1,ho.2]
  intro b hb
  obtain⟨k,hk,rfl⟩:=aaz hb
  refine aak λhf=> ?_
  have hf:(C.pg i).tk[k]=false:=by simpa using hf
  obtain⟨e1,e2,A⟩:=AN K aq ho.1 (k:=k) (by rw[←P.tl];exact hk)
  have F:x6 C c (C.wv i k):=⟨A,by unfold Cs.cl;rw[e1];exact ho.2,by rw[e1,e2,aac hk,hf],by rw[e1];exact hl i⟩
  have:=K.fa c _ F hc
  rw[he]at this
  cases this
 rw[if_neg ho,if_neg ho,afH]
theorem aaQ{α:Type}(f0 f1 f2 f3 f4:α→Nat):∀l:List α,(∀x∈l,f0 x+f1 x+f2 x+f3 x+f4 x=1)→(l.map f0).sum+(l.map f1).sum+(l.map f2).sum+(l.map f3).sum+(l.map f4).sum=l.length
 | [],_=>by simp
 |x::l,h=>by
  have a:=aaQ f0 f1 f2 f3 f4 l λy hy=>h y (aag _ hy)
  have b:=h x aai
  simp only[aao,aaC,adm]
  omega
theorem XG{C:Cs}(K:Ok C)(h4:C.ae.length=4):(C.rw 0).cP+(C.rw 1).cP+(C.rw 2).cP+(C.rw 3).cP+C.spare=C.n:=by
 rw[K.fp 0 (by omega),K.fp 1 (by omega),K.fp 2 (by omega),K.fp 3 (by omega),K.sp,←K.pl]
 unfold Cs.Cb
 refine aaQ _ _ _ _ _ _ λx hx=> ?_
 have P:=K.pg x hx
 unfold x4 wz
 cases ho:x.own with
 |false=>simp
 |true=>
  have:=P.cl ho
  have hx4:x.cl=0∨x.cl=1∨x.cl=2∨x.cl=3:=by omega
  rcases hx4 with e|e|e|e<;>simp[e]
structure Roo (M:Mo)(t:Nat):Prop where
 on:M.m.on=false
 n:M.C.n=64
 ps:M.C.ao=4096
 sz:M.C.ae= [64,128,256,512]
 tk:∀c,(M.C.rw c).gm≤t
 pg:∀c,c<4→(M.C.rw c).cP≤t/(4096/M.C.sz c)+1
theorem Roo.ev{M N:Mo}{t:Nat}(R:Roo M t)(E:Ev M N):Roo N t:=by
 have hs:∀c,N.C.sz c=M.C.sz c:=λc=>by unfold Cs.sz;rw[E.g.sz]
 exact⟨E.on.trans R.on,E.g.n.trans R.n,E.g.ps.trans R.ps,E.g.sz.trans R.sz,λc=>aei (E.g.tk c) (R.tk c),λc hc=>by rw[E.g.pg c,hs c];exact R.pg c hc⟩
theorem Roo.QL{M:Mo}{t:Nat}(R:Roo M t)(K:Ok M.C)(ht:t≤200):gB M 1:=by
 refine⟨R.on, ?_⟩
 have h4:=XG K (by rw[R.sz];rfl)
 have p:=R.pg
 unfold Cs.sz at p
 rw[R.sz]at p
 have p0:=p 0 (by decide)
 have p1:=p 1 (by decide)
 have p2:=p 2 (by decide)
 have p3:=p 3 (by decide)
 simp only[List.getD_cons_zero,List.getD_cons_succ]at p0 p1 p2 p3
 rw[R.n]at h4
 omega
theorem Roo.up{M:Mo}{t:Nat}(R:Roo M t):Roo M (t+1):=
 ⟨R.on,R.n,R.ps,R.sz,λc=>Nat.le_succ_of_le (R.tk c),λc hc=>aei (R.pg c hc) (Nat.add_le_add_right (afa (aeO t)) 1)⟩
theorem Roo.take{M N:Mo}{t c r:Nat}(R:Roo M t)(K:Mi M)(hc:c<M.C.ae.length)(h:M.take c=some (r,N)):Roo N (t+1):=by
 have EH:c<M.C.rows.length:=by rw[K.k.rl];exact hc
 have hc4:c<4:=by rw[R.sz]at hc;exact hc
 have hl:∀i,(M.C.pg i).lv=false:=λi=>by
  refine Bool.eq_false_iff.2 λe=> ?_
  have:=(K.go i e).1
  rw[R.on]at this
  cases this
 have hu:=R.up
 unfold Mo.take at h
 split at h
 ·next p D hD=>
  cases h
  unfold Cs.dH at hD
  split at hD
  ·cases hD
   have hw:∀d,(M.C.eI c r).rw d=if d=c then{M.C.rw c with free:=(M.C.rw c).free.dropLast,gm:=(M.C.rw c).gm+1}else M.C.rw d:=λd=>yr EH d
   refine⟨R.on,R.n,R.ps,R.sz,λd=> ?_,λd hd=> ?_⟩
   ·show((M.C.eI c r).rw d).gm≤_
    rw[hw]
    split
    ·exact adr (R.tk c)
    exact hu.tk d
   show((M.C.eI c r).rw d).cP≤_
   rw[hw]
   split
   ·next e=>rw[e];exact hu.pg c hc4
   exact hu.pg d hd
  next he=>
  split at hD
  ·cases hD
  next i _=>
  split at hD
  ·next q _=>
   cases hD
   have he:(M.C.rw c).free= []:=List.getLast?_eq_none_iff.1 he
   have hf:=Eo K.k hl hc he
   have hv:∀d,(M.C.bm i c).rw d=if d=c then{M.C.rw c with cP:=(M.C.rw c).cP+1,kQ:=(M.C.rw c).kQ+1,free:=(M.C.rw c).free++M.C.gk i c (aae (M.C.ao/M.C.sz c) false)}else M.C.rw d:=λd=>yr EH d
   have hcr2:c<(M.C.bm i c).rows.length:=by
    show c<(M.C.rows.set c _).length
    rw[aaj];exact EH
   have hw:∀d,((M.C.bm i c).eI c r).rw d=if d=c then{(M.C.bm i c).rw c with free:=((M.C.bm i c).rw c).free.dropLast,gm:=((M.C.bm i c).rw c).gm+1}else(M.C.bm i c).rw d:=λd=>yr hcr2 d
   refine⟨R.on,R.n,R.ps,R.sz,λd=> ?_,λd hd=> ?_⟩
   ·show(((M.C.bm i c).eI c r).rw d).gm≤_
    rw[hw]
    split
    ·show((M.C.bm i c).rw c).gm+1≤_
     rw[hv,if_pos rfl]
     exact adr (R.tk c)
    next e=>rw[hv,if_neg e];exact hu.tk d
   show(((M.C.bm i c).eI c r).rw d).cP≤_
   rw[hw]
   split
   ·next e=>
    rw[e]
    show((M.C.bm i c).rw c).cP≤_
    rw[hv,if_pos rfl]
    show(M.C.rw c).cP+1≤(t+1)/(4096/M.C.sz c)+1
    have ht:=R.tk c
    rw[hf,R.ps]at ht
    have hp:0<4096/M.C.sz c:=by
     unfold Cs.sz
     rw[R.sz]
     have h4:c=0∨c=1∨c=2∨c=3:=by omega
     rcases h4 with e|e|e|e<;>rw[e]<;>decide
    have:=(Nat.le_div_iff_mul_le hp).2 ht
    have:t/(4096/M.C.sz c)≤(t+1)/(4096/M.C.sz c):=afa (aeO t)
    omega
   next e=>rw[hv,if_neg e];exact hu.pg d hd
  cases hD
 cases h
theorem Roo.one{M N:Mo}{t:Nat}(R:Roo M t)(E:J3 M N):Roo N (t+1):=by
 obtain⟨A,B,h1,h2,h3⟩:=E
 refine Roo.ev ?_ h3
 rcases h2 with rfl|⟨c,r,K,hc,h⟩
 ·exact(R.ev h1).up
 exact(R.ev h1).take K hc h
theorem Roo.dO{M:Mo}{P:bz}{T:List UInt8→Prop}(S:aQ T M P)(F:P.Fits){t:Nat}(R:Roo M t)(ht:t<200)(hot warm:Nat)(c:dB)(hT:T (c.keys.headD [])):Roo (M.dO hot warm c).2 (t+1):=by
 have R1:Roo M.reset t:=R.ev (.rf rfl rfl)
 unfold Mo.dO
 split
 ·exact R1.up
 obtain⟨_,a,_⟩:=S.reset.fb F c hT
 have R2:=R1.one (tO S.reset (R1.QL S.reset.i.k (ae0 ht)) c)
 have A2:=R2.QL a.i.k ht
 split
 ·exact R2.ev A2.beside
 exact R2.ev (gB.l9 hot warm _ A2)
theorem P7:eM cA= [64,128,256,512]:=by decide+kernel
theorem FG (pc:sQ)(k:Ck):Roo (eK cA pc k) 0:=by
 have hr:∀c,(eK cA pc k).C.rw c=⟨[],0,0,0⟩:=λc=>by
  show(aae (eM cA).length (⟨[],0,0,0⟩:Rw)).getD c ⟨[],0,0,0⟩=_
  rw[aab,List.getElem?_replicate]
  split<;>rfl
 refine⟨rfl,rfl,rfl,P7,λc=> ?_,λc _=> ?_⟩
 ·rw[hr c];exact aay _
 rw[hr c];exact aay _
theorem Ev.tick (M:Mo)(n:Int):Ev M (M.tick n):=by
 unfold Mo.tick
 split
 ·exact(Ev.rf rfl rfl:Ev M (M.dp n).reset).trans ((Ev.bX _ _ _).trans (.rf rfl rfl))
 exact .rf rfl rfl
theorem Roo.tick{M:Mo}{t:Nat}(R:Roo M t)(n:Int):Roo (M.tick n) t:=R.ev (Ev.tick M n)
theorem AI{M:Mo}{P:bz}{T:List UInt8→Prop}(S:aQ T M P)(F:P.Fits){t:Nat}(R:Roo M t)(ht:t<200)(hot warm:Nat)(c:dB)(hT:T (c.keys.headD [])):
  aQ T (M.dO hot warm c).2 (P.dO GD c).2∧(M.dO hot warm c).1.vw=(P.dO GD c).1∧Roo (M.dO hot warm c).2 (t+1):=by
 obtain⟨m,a,b,_,_,d⟩:=S.dO F hot warm c hT
 obtain rfl:=d (R.QL S.i.k (ae0 ht))
 exact⟨a,b,R.dO S F ht hot warm c hT⟩
theorem Jy{M N:Mo}{P:bz}{T:List UInt8→Prop}(S:aQ T M P)(S2:aQ T N P)(k:List UInt8):(M.live k).map (λp=>(M.it p).vw)=(N.live k).map (λp=>(N.it p).vw):=by
 have h1:P.f k=M.jh k:=congrFun S.f k
 have h2:P.f k=N.jh k:=congrFun S2.f k
 have h:=h1.symm.trans h2
 unfold Mo.jh at h
 have h3:=congrArg (Option.map Prod.fst) h
 rw[Option.map_map,Option.map_map]at h3
 exact h3
def x8 (n:Int):Int:=((n.tmod 1048577).natAbs:Int)
def uk (p:sQ):sQ:=⟨x8 p.b,x8 p.l,x8 p.c,x8 p.m⟩
theorem jm (n:Int):0≤x8 n∧x8 n≤1048576:=by
 unfold x8
 have h:=afm n (b:=1048577) (by decide)
 have h2: -(1048577:Int)<n.tmod 1048577:=by
  have:=afm (-n) (b:=1048577) (by decide)
  rw[Int.neg_tmod]at this
  omega
 omega
theorem AO (p:sQ):oV cA (uk p)=0:=by
 unfold oV
 rw[if_pos DB,if_pos (by decide),if_pos]
 exact decide_eq_true ⟨jm _,jm _,jm _,jm _⟩
theorem Fz (p:sQ):sW (uk p):=by
 have h1:=jm p.b
 have h2:=jm p.l
 have h3:=jm p.c
 have h4:=jm p.m
 constructor<;>(unfold uk;dsimp only;omega)
structure Cc (M N:Mo)(P:bz)(t s:Nat):Prop where
 a:aQ (λ_=>True) M P
 b:aQ (λ_=>True) N P
 ra:Roo M t
 rb:Roo N t
 na:J1 M s
 nb:J1 N s
 f:P.Fits
 pa:sW M.v.p
 pb:sW N.v.p
 ca:M.v.c=cA
 cb:N.v.c=cA
theorem Cc.start (p q:sQ):Cc (eK cA (uk p) ⟨1,0,0⟩) (eK cA (uk q) ⟨1,0,0⟩) (wB cA) 0 0:=
 ⟨vj DB _ _,vj DB _ _,FG _ _,FG _ _,y3 _ _ _,y3 _ _ _,Gf (P:=wB cA) (z:=512) (show 512∈eM cA by decide+kernel) (by decide),Fz p,Fz q,rfl,rfl⟩
theorem Cc.dO{M N:Mo}{P:bz}{t s:Nat}(D:Cc M N P t s)(ht:t<200)(h1 w1 h2 w2:Nat)(c:dB):
  (M.dO h1 w1 c).1.vw=(N.dO h2 w2 c).1.vw∧∃P',Cc (M.dO h1 w1 c).2 (N.dO h2 w2 c).2 P' (t+1) (s+c.keys.length+1):=by
 obtain⟨a1,a2,a3⟩:=AI D.a D.f D.ra ht h1 w1 c trivial
 obtain⟨b1,b2,b3⟩:=AI D.b D.f D.rb ht h2 w2 c trivial
 obtain⟨n1,n2,n3⟩:=Dz D.a D.na h1 w1 c
 obtain⟨m1,m2,m3⟩:=Dz D.b D.nb h2 w2 c
 exact⟨a2.trans b2.symm,_,a1,b1,a3,b3,n1,m1,tP D.f,n2.symm▸D.pa,m2.symm▸D.pb,n3.trans D.ca,m3.trans D.cb⟩
theorem pt (M:Mo)(n:Int):(M.tick n).m=M.m∧(M.tick n).tn=M.tn∧(M.tick n).v.aO=M.v.aO∧(M.tick n).v.p=M.v.p∧(M.tick n).v.c=M.v.c:=by
 unfold Mo.tick
 split
 ·obtain⟨_,a2,a3,_,a5,a6,a7⟩:=lB (M.dp n).reset (M.dp n).k.now 64
  exact⟨a2,a7,a6,a3,a5⟩
 exact⟨rfl,rfl,rfl,rfl,rfl⟩
theorem Ha{P:bz}(F:P.Fits)(n:Int):(P.tick n).Fits:=by
 unfold bz.tick
 split
 ·exact F
 exact F
theorem J1.tick{M:Mo}{s:Nat}(R:J1 M s)(n:Int):J1 (M.tick n) s:=by
 obtain⟨a,b,c,_,_⟩:=pt M n
 exact⟨by rw[a];exact R.st,by rw[b];exact R.tn,by rw[c];exact R.aO⟩
theorem Cc.tick{M N:Mo}{P:bz}{t s:Nat}(D:Cc M N P t s)(n:Int):M.k.Cy n=N.k.Cy n∧∃P',Cc (M.tick n) (N.tick n) P' t s:=by
 obtain⟨_,_,_,p1,c1⟩:=pt M n
 obtain⟨_,_,_,p2,c2⟩:=pt N n
 exact⟨congrArg (λk=>k.Cy n) (D.a.mw.symm.trans D.b.mw),_,D.a.tick n,D.b.tick n,D.ra.tick n,D.rb.tick n,D.na.tick n,D.nb.tick n,Ha D.f n,p1.symm▸D.pa,p2.symm▸D.pb,c1.trans D.ca,c2.trans D.cb⟩
theorem Cc.aO{M N:Mo}{P:bz}{t s:Nat}(D:Cc M N P t s):M.v.aO=N.v.aO:=by rw[←D.a.aO,←D.b.aO]
theorem Cc.now{M N:Mo}{P:bz}{t s:Nat}(D:Cc M N P t s):M.k=N.k:=D.a.mw.symm.trans D.b.mw
theorem Cc.find{M N:Mo}{P:bz}{t s:Nat}(D:Cc M N P t s)(k:List UInt8):(M.live k).map (λp=>(M.it p).vw)=(N.live k).map (λp=>(N.it p).vw):=Jy D.a D.b k
end Go.Proofs.YtdolmecackmjdaaGreatDoor
