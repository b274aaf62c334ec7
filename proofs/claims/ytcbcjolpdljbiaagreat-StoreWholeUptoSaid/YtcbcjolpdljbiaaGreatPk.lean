/- Part Pk of the proof. -/
import Derived.Test.YtcbcjolpdljbiaaGreatPc1
import Derived.Test.YtcbcjolpdljbiaaGreatPd
import Derived.Test.YtcbcjolpdljbiaaGreatPj1
set_option maxRecDepth 100000
open Go.Proofs.YtcbcjolpdljbiaaGreat.T
open Nat renaming add_assoc -> ai2, mod_eq_of_lt -> afE, mul_le_mul_right -> afz, le_refl -> aa0, zero_le -> afk, zero_add -> abd, le_trans -> ai5, lt_succ_self -> akm, min_zero -> akB
open List renaming mem_cons_self -> aaV, mem_cons_of_mem -> aaW, getElem_mem -> aa4, map_cons -> aaX, sum_cons -> aa8, mem_cons -> aa5, map_congr_left -> afr, filter_cons -> afT, mem_map -> acA, mem_filter -> aba, nodup_cons -> aa3, Perm -> aa1, getElem?_set_ne -> afA, getD_eq_getElem?_getD -> aaP, getElem?_map -> aa6, getElem?_eq_some_iff -> aaR, mem_of_getElem? -> aaT, getElem?_eq_none -> aa7, ext_getElem? -> ajg, getElem?_set -> agi, getElem?_eq_getElem -> aaQ, mem_of_mem_erase -> agq, mem_erase_of_ne -> ajh, length_map -> adr, length_filter_le -> ajY, length_cons -> afn, getElem?_of_mem -> agd, mem_flatten -> ajm, getElem_of_mem -> aft, nodup_nil -> ai3, mem_of_mem_take -> aji, filter_sublist -> afY, append_nil -> afs, replicate -> aaS, findIdx?_eq_some_iff_getElem -> abc, findIdx?_eq_none_iff -> af4, range -> abb, find?_eq_none -> agj, mem_range -> afu, foldl_cons -> af8, mem_of_find?_eq_some -> afH, find?_some -> aj4, map_append -> afy, find?_cons -> aj1, findIdx?_cons -> ajc, mem_append -> af3, mem_reverse -> agm, length_set -> aaY, mem_singleton -> afq
open Decidable renaming byContradiction -> aa2
open Int renaming min_le_right -> akn
open Go.Proofs.Tryz renaming prog -> aaO
open Go.Proofs.Tryz
open Go.Value renaming int -> CO
open Go.IntKind renaming i64 -> CN, u64 -> CJ
namespace Go.Proofs.YtcbcjolpdljbiaaGreat
open Go Go.dG Go.Proofs.YtcbcjolpdljbiaaGreat.Cs
structure I3 where
 key:List UInt8
 val:List UInt8
 fl:Nat
 exp:Nat
 tch:Nat
 tok:Nat
 ff:Nat
def lL (A:By)(p:Nat):Nat:=rd A (p+24) 8
def OG (A:By)(p:Nat):Nat:=rd A (p+40) 4
def mJ (A:By)(p:Nat):I3:=⟨aP A p,ke A p,OG A p,uv A p,lL A p,rW A p,dz A p⟩
def I3.sz (x:I3):Nat:=58+x.key.length+x.val.length
theorem GK (A:By)(p:Nat):(mJ A p).sz=58+kl A p+vl A p:=by
 unfold I3.sz mJ;rw[show(aP A p).length=kl A p from cD _ _ _,show(ke A p).length=vl A p from cD _ _ _]
theorem vz{C:Cs}(K:Ok C){B:By}{S:Nat->Nat->Prop}(d:cX C C.A B S){p:Nat}(L:At C p)(I:gO C p)(h:∀j,S p j->j<16\/j=45):mJ B p=mJ C.A p:=by
 have n1:=(L.bn K).2.1;have hf:=I.fits;have r:=λ(o w:Nat) (h2:o+w<=C.sz (C.cl p)) (h3:∀j,o<=j->j<o+w->¬(j<16\/j=45))=>lB K d L h2 (λj g1 g2 s=>h3 j g1 g2 (h j s));have e1:kl B p=kl C.A p:=r 44 1 (by omega) (λj g1 g2=>by omega);have e2:vl B p=vl C.A p:=r 48 4 (by omega) (λj g1 g2=>by omega);have e3:aP B p=aP C.A p:=by
  unfold aP;rw[e1];exact vH K d L (by omega) (λj g1 g2 s=>by have:=h j s;omega)
 have e4:ke B p=ke C.A p:=by
  unfold ke;rw[e1,e2,ai2];exact vH K d L (by omega) (λj g1 g2 s=>by have:=h j s;omega)
 unfold mJ OG uv lL rW dz;rw[e3,e4,r 40 4 (by omega) (λj g1 g2=>by omega),r 16 8 (by omega) (λj g1 g2=>by omega),r 24 8 (by omega) (λj g1 g2=>by omega),r 32 8 (by omega) (λj g1 g2=>by omega),r 46 1 (by omega) (λj g1 g2=>by omega)]
theorem agC{C:Cs}(K:Ok C){W:Tb}(O:dq C W){B:By}(kp:∀p∈W.all,Kept C B p)(hl:∀p∈W.all,rd B p 4=rd C.A p 4):dq (C.wA B) W:=by
 have lk:∀l:List Nat,(∀p∈l,p∈W.all)->FY C.A l->FY B l:=λl=>by
  induction l with
  |nil=>exact λ_ _=>trivial
  |cons p l ih=>exact λh g=>⟨(hl p (h p aaV)).trans g.1,ih (λq hq=>h q (aaW _ hq)) g.2⟩
 refine⟨O.pw,O.po,O.st,O.mp,O.sz,O.Oq,O.sm,O.mv,O.n,O.nd,λx=>lk _ (λp hp=>Tb.gU hp) (O.li x),λp hp=>(O.lv p hp).wA B,λp hp=>(kp p hp).it (O.it p hp),λx p hp=> ?_,λp hp q hq e=> ?_⟩
 ·show W.bk (cx (aP B p))=x
  rw[(kp p (Tb.gU hp)).key];exact O.bu x p hp
 change aP B p=aP B q at e;rw[(kp p hp).key,(kp q hq).key]at e;exact O.kd p hp q hq e
theorem agE{C:Cs}{Q:List (List Nat)}(O:iR C Q){B:By}(kp:∀i,∀p∈ql Q i,Kept C B p)(hs:∀i,∀p∈ql Q i,gJ B p=gJ C.A p)(h1:∀i,∀p∈ql Q i,rd B (p+4*1) 4=rd C.A (p+4*1) 4)(h2:∀i,∀p∈ql Q i,rd B (p+4*2) 4=rd C.A (p+4*2) 4):iR (C.wA B) Q:=by
 refine⟨O.len,λi p hp=>(O.lv i p hp).wA B,λi p hp=>(kp i p hp).it (O.it i p hp),λi p hp=> ?_,O.nd,λi k hk=> ?_,λi k hk=> ?_⟩
 ·show 1<=gJ B p/\_
  rw[cK,hs i p hp];exact O.st i p hp
 ·have hp:=aa4 hk
  rw[cK,h1 i _ hp];exact O.l1 i k hk
 have hp:=aa4 hk;rw[cK,h2 i _ hp];exact O.l2 i k hk
structure Mo where
 C:Cs
 hole:Option Nat
 Q:List (List Nat)
 it:Nat->I3
 ord:Nat->Nat
 x:Cw
 tn:Nat
 k:Ck
 m:iz
 nb:Nat
 mg:Nat
 aI:Nat
 v:Sv
 j6:List Nat
 n:Nat
structure Bx where
 C:Cs
 W:Tb
 ty:qw
 E:List En
structure Ly where
 s:Nat
 y:Sy
 qb:Nat
 ub:Nat
 hot:Nat
 warm:Nat
def aY (s:Nat):Value:= .func (.func 85) #[CM s] #[]
def bI (s:Nat):Value:= .func (.func 113) #[CM s] #[]
def iE (C:Cs)(M:Mo)(l:List Nat):List En:=(l.filter λp=>decide (0<(M.it p).exp)).map λp=>⟨C.hd p,(M.it p).exp,M.ord p⟩
structure bL (B:Bx)(M:Mo):Prop where
 c:B.C=M.C.wA B.C.A
 k:Ok B.C
 t:dq B.C B.W
 ty:B.ty.ok=none->B.W.ob= []
 o:iR B.C M.Q
 x:dh B.C.ae.length M.Q M.x
 mq:MkQ B.C M.Q
 ck:sZ M.k
 al:∀p,p∈B.W.all↔∃i,p∈ql M.Q i
 lv:∀p,Live B.C p↔p∈B.W.all\/M.hole=some p
 ho:∀p,M.hole=some p->p∉B.W.all
 it:∀p∈B.W.all,mJ B.C.A p=M.it p
 e:B.E.Perm (iE B.C M B.W.all)
 st:B.W.st=2->B.W.mv<B.W.ob.length
 nb:B.W.size=M.nb
 mg:M.mg=if B.W.st=2 then B.W.ob.length-B.W.mv else 0
 mo:B.W.aI=M.aI
 bt:M.v.eW=(B.W.all.map λp=>(M.it p).sz).sum
 un:M.m.un.length=B.C.ae.length
 on:M.m.on=true->M.m.pg<B.C.n/\(B.C.pg M.m.pg).own=true/\(B.C.pg M.m.pg).lv=true/\(B.C.pg M.m.pg).cl=M.m.fr
 go:∀i,(B.C.pg i).lv=true->M.m.on=true/\i=M.m.pg
 wn:M.v.wn=M.j6.length
 cf:M.v.c=B.C.cfg
 n:B.W.n=M.n
 lg:∀p∈B.W.all,eF (M.it p).key=true
def jJ (M:Mo):aa:=own M.v.wa M.v.wc 3 1 (aA M.j6)
def dM (z:Ly)(B:Bx)(M:Mo):List aa:=
 [Cl z.y.b B.C,af z.y.t 154 (fk z.y.b B.W B.ty),af B.ty.nk 149 (aM (aD B.W.nb)),jH B.ty.ok 149 (aM (aD B.W.ob)),af z.y.q 182 (fC z.y.b z.qb B.C.ae.length),af z.qb 333 (M.Q.flatMap (cV B.C)),gh z.y.cr z.y.q z.y.wh B.C.ae.length (aL z.s) (aY z.s) B.C M.x,Wl z.y.wh B.E M.tn,fm z.s z.y (fb M.v),
  kO z.y.ck M.k,jb z.y.lu z.y.b z.y.q z.hot z.warm,iT z.y.mo z.y.b z.ub (aL z.s) (aY z.s) (bI z.s) M.m,kL z.ub M.m,jJ M]
abbrev oW (z:Ly)(v:Sv)(r:List Value):List Value:=CM z.y.b::CM z.y.ck::CM z.y.t::CM z.y.lu::CM z.y.wh::CM z.y.cr::CM z.y.mo::CM z.y.q::CO CN v.c.aj::CO CN v.c.pgs::CO CN v.c.fac::CO CN v.c.bj::CO CN v.c.lim::CO CN v.c.hot::CO CN v.c.warm::CO CN v.p.b::CO CN v.p.l::CO CN v.p.c::CO CN v.p.m::r
abbrev gC (z:Ly)(C:Cs)(W:Tb)(ty:qw)(n:Nat)(q:List Value)(x:Cw)(E:List En)(t:Nat)(s:Sv×List Value)(k:Ck)(m:iz)(M:Mo)(r:List aa):List aa:=Cl z.y.b C::af z.y.t 154 (fk z.y.b W ty)::af ty.nk 149 (aM (aD W.nb))::jH ty.ok 149 (aM (aD W.ob))::af z.y.q 182 (fC z.y.b z.qb n)::af z.qb 333 q::gh z.y.cr z.y.q z.y.wh n (aL z.s) (aY z.s) C x::Wl z.y.wh E t::af z.s 96 (oW z s.1 s.2)::kO z.y.ck k::jb z.y.lu z.y.b z.y.q z.hot z.warm::iT z.y.mo z.y.b z.ub (aL z.s) (aY z.s) (bI z.s) m::kL z.ub m::jJ M::r
def Mo.put (M:Mo)(p:Nat)(n:I3):Mo:={M with it:=λq=>if q=p then n else M.it q}
theorem bL.sN{B:Bx}{M:Mo}(O:bL B M){p:Nat}(h:p∈B.W.all):Live B.C p:=(O.lv p).2 (.inl h)
theorem bL.oa{B:Bx}{M:Mo}(O:bL B M){i p:Nat}(h:p∈ql M.Q i):p∈B.W.all:=(O.al p).2 ⟨i,h⟩
theorem bL.ito{B:Bx}{M:Mo}(O:bL B M){p:Nat}(h:p∈B.W.all):gD B.C (some p):=λq e=>by cases e;exact⟨O.sN h,O.t.it p h⟩
theorem bL.szp{B:Bx}{M:Mo}(O:bL B M){p:Nat}(h:p∈B.W.all):58+kl B.C.A p+vl B.C.A p=(M.it p).sz:=by rw[<-O.it p h,GK]
theorem wF{α:Type}(f:α->Nat):∀{l:List α} {x:α},x∈l->f x<=(l.map f).sum
 |y::l,x,h=>by
  rw[aaX,aa8];rcases aa5.1 h with rfl|h
  ·omega
  have:=wF f h;omega
theorem me{α:Type}(f:α->Nat){l m:List α}(p:l.Perm m):(l.map f).sum=(m.map f).sum:=(p.map f).sum_nat
theorem bL.iP{B:Bx}{M:Mo}(O:bL B M){p:Nat}(hp:p∈B.W.all){A:By}{S:Nat->Nat->Prop}(d:cX B.C B.C.A A S)(hS:∀q j,S q j->q=p/\16<=j/\j<48/\(j<40\/j=46))
  (hx:rd A (p+16) 8<9223372036854775808) (ht:rd A (p+24) 8<9223372036854775808) (hm:dz A p<16) (n:I3) (hn:n={M.it p with exp:=uv A p,tch:=lL A p,tok:=rW A p,ff:=dz A p})
  (E:List En) (od:Nat->Nat) (tn:Nat) (hE:E.Perm (iE B.C {M.put p n with ord:=od} B.W.all)):bL ⟨B.C.wA A,B.W,B.ty,E⟩ {M.put p n with ord:=od,tn:=tn}:=by
 have K:=O.k;have at_:∀q∈B.W.all,At B.C q:=λq hq=>(O.sN hq).toAt;have n1:∀q∈B.W.all,64<=B.C.sz (B.C.cl q):=λq hq=>((at_ q hq).bn K).2.1;have I:=O.t.it p hp;have hf:=I.fits;have r:=λ(q:Nat) (hq:q∈B.W.all) (o w:Nat) (h2:o+w<=B.C.sz (B.C.cl q)) (h3:∀j,o<=j->j<o+w->¬(16<=j/\j<48/\(j<40\/j=46)))=>lB K d (at_ q hq) h2 (λj g1 g2 s=>h3 j g1 g2 (hS q j s).2);have ek:∀q∈B.W.all,kl A q=kl B.C.A q:=λq hq=>r q hq 44 1 (by have:=n1 q hq;omega) (λj g1 g2=>by omega);have ev:∀q∈B.W.all,vl A q=vl B.C.A q:=λq hq=>r q hq 48 4 (by have:=n1 q hq;omega) (λj g1 g2=>by omega);have other:∀q∈B.W.all,q≠p->mJ A q=mJ B.C.A q:=λq hq ne=>vz K d (at_ q hq) (O.t.it q hq) (λj s=>absurd (hS q j s).1 ne);have key:∀q∈B.W.all,aP A q=aP B.C.A q:=λq hq=>by
  have:=(O.t.it q hq).fits;unfold aP;rw[ek q hq];exact vH K d (at_ q hq) (by omega) (λj g1 g2 s=>by have:=hS q j s;omega)
 have val:∀q∈B.W.all,ke A q=ke B.C.A q:=λq hq=>by
  have:=(O.t.it q hq).fits;unfold ke;rw[ek q hq,ev q hq,ai2];exact vH K d (at_ q hq) (by omega) (λj g1 g2 s=>by have:=hS q j s;omega)
 have kp:∀q∈B.W.all,Kept B.C A q:=λq hq=>⟨ek q hq,ev q hq,key q hq,λJ=>by
  by_cases e:q=p
  ·subst e
   exact⟨by rw[cK,ek q hq];exact J.k0,by rw[cK,ek q hq,ev q hq];exact J.fits,hx,ht⟩
  have g:=other q hq e;have g1:uv A q=uv B.C.A q:=congrArg I3.exp g;have g2:lL A q=lL B.C.A q:=congrArg I3.tch g;exact⟨by rw[cK,ek q hq];exact J.k0,by rw[cK,ek q hq,ev q hq];exact J.fits,by have:=J.exp;change uv A q<_;rw[g1];exact this,by have:=J.tch;change lL A q<_;rw[g2];exact this⟩⟩
 have itp:mJ A p=n:=by
  rw[hn,<-O.it p hp];unfold mJ;dsimp only;rw[key p hp,val p hp,show OG A p=OG B.C.A p from r p hp 40 4 (by have:=n1 p hp;omega) (λj g1 g2=>by omega)]
 have lJ:∀q∈B.W.all,mJ A q=(M.put p n).it q:=λq hq=>by
  show _=if q=p then n else M.it q
  by_cases e:q=p
  ·rw[if_pos e,e];exact itp
  rw[if_neg e,other q hq e];exact O.it q hq
 refine⟨?_,K.wA A,agC K O.t kp (λq hq=>r q hq 0 4 (by have:=n1 q hq;omega) (λj g1 g2=>by omega)),O.ty, ?_,O.x, ?_,O.ck,O.al,λq=> ?_,O.ho,lJ,hE,O.st,O.nb,O.mg,O.mo, ?_,O.un,O.on,O.go,O.wn,O.cf,O.n,λq hq=> ?_⟩
 ·show B.C.wA A=M.C.wA A
  conv=>lhs;rw[O.c]
  rfl
 ·exact agE O.o (λi q hq=>kp q (O.oa hq)) (λi q hq=>r q (O.oa hq) 45 1 (by have:=n1 q (O.oa hq);omega) (λj g1 g2=>by omega)) (λi q hq=>r q (O.oa hq) (4*1) 4 (by have:=n1 q (O.oa hq);omega) (λj g1 g2=>by omega)) (λi q hq=>r q (O.oa hq) (4*2) 4 (by have:=n1 q (O.oa hq);omega) (λj g1 g2=>by omega))
 ·intro i q hq
  have Kv:=O.oa hq;by_cases e:q=p
  ·rw[e];exact hm
  show dz A q<16;rw[show dz A q=dz B.C.A q from congrArg I3.ff (other q Kv e)];exact O.mq i q hq
 ·refine Iff.trans ?_ (O.lv q)
  exact⟨λh=>⟨⟨h.i,h.own,h.al,h.k⟩,h.tk⟩,λh=>h.wA A⟩
 ·show M.v.eW=_
  rw[O.bt]
  congr 1
  refine afr λq hq=> ?_;rw[<-lJ q hq,<-O.it q hq,GK,GK,ek q hq,ev q hq]
 rw[<-lJ q hq];show eF (aP A q)=true;rw[key q hq,show aP B.C.A q=(M.it q).key from congrArg I3.key (O.it q hq)];exact O.lg q hq
end Go.Proofs.YtcbcjolpdljbiaaGreat
namespace Go.dG
open Go
theorem aO.fr{P:Program}{f:FuncId}{args:List Value}{pre:Hp->Prop}{H As R:List aa}{T:Value->List aa->Prop}(h:aO P f args pre As T)(de:iI H As R)(hp:∀k,gP R k->pre k):
  aO P f args (λ_=>True) H (λv H'=>∃H0,T v H0/\H'=H0++R):=by
 intro F w _ s;obtain⟨a1,a2,a3,fr,hh,st,hl,rA⟩:=s;obtain⟨h1,h2,d12,l1,l2,s1,s2⟩:=bx (de.out _ st);have vu:bQ h2 F.h:=rA.left l2
 let F':dC:={F with h:=fA h2 F.h}
 have ia:Le F.h F'.h:=aR vu;have ib:Le h2 F'.h:=aW _ _;have wY:St F' As w:=⟨a1,a2,a3,bY (l2.trans hl) fr,h1,s1,l1.trans hl,(bQ.fA d12.symm (rA.left l1).symm).symm⟩;refine(h F' w (hp _ (cq s2 ib)) wY).mono ?_;rintro e w' ⟨v,H',rfl,hT,sw⟩;obtain⟨b1,b2,b3,rC,yZ,st2,yW,kf⟩:=sw;exact⟨v,_,rfl,⟨H',hT,rfl⟩,b1,b2,b3,ia.trans rC,fA yZ h2,bK st2 s2 (kf.right ib),bY yW (ib.trans rC),bQ.fA (kf.right ia) vu⟩
end Go.dG
namespace Go.Proofs.YtcbcjolpdljbiaaGreat
open Go Go.dG Go.Proofs.YtcbcjolpdljbiaaGreat.Cs
theorem qf (A:By)(p n v:Nat)(h:v<256^n):rd (wr A p n v) p n=v:=by rw[dy,afE h]
def SH (z:Ly)(M:Mo):aa:=λh=>∃B,bL B M/\aG (dM z B M) h
theorem dH{P:Program}{f:FuncId}{args:List Value}{pre:Hp->Prop}{H:List aa}{R:Value->List aa->Prop}{z:Ly}{M:Mo}(h:∀B,bL B M->aO P f args pre (dM z B M++H) R):aO P f args pre (SH z M::H) R:=
 aO.exL λB=>aO.Dv λO=>aO.Gr (h B O)
theorem aB{z:Ly}{B:Bx}{M:Mo}(O:bL B M){H:List aa}:∀h,ai (dM z B M++H) h->ai (SH z M::H) h:=λh s=>
 bB (λk x=>⟨B,O,x⟩) (dU s)
def Mo.has (M:Mo)(p:Nat):Prop:=∃i,p∈ql M.Q i
def Mo.lJ (M:Mo)(p:Nat):Mo:=M.put p {M.it p with tch:=M.k.now,ff:=mkSet (M.it p).ff true % 8+8}
def Mo.marks (M:Mo)(p k:Nat):Mo:=M.put p {M.it p with ff:=(M.it p).ff-(M.it p).ff/2 % 4*2+k*2}
def Mo.tok (M:Mo)(p t:Nat):Mo:=M.put p {M.it p with tok:=t}
def Mo.time (M:Mo)(p e:Nat):Mo:={M.put p {M.it p with exp:=e}with ord:=λq=>if q=p then M.tn+1 else M.ord q,tn:=if 0<e then M.tn+1 else M.tn}
theorem bL.hd{B:Bx}{M:Mo}(O:bL B M)(p:Nat):B.C.hd p=M.C.hd p:=by rw[O.c];rfl
theorem jD{C:Cs}{M:Mo}{l m:List Nat}(p:l.Perm m):(iE C M l).Perm (iE C M m):=(p.filter _).map _
theorem iN{C:Cs}{M:Mo}{p:Nat}{r:List Nat}:iE C M (p::r)=if 0<(M.it p).exp then⟨C.hd p,(M.it p).exp,M.ord p⟩::iE C M r else iE C M r:=by
 unfold iE;by_cases h:0<(M.it p).exp
 ·rw[if_pos h,afT,if_pos (by simpa using h)];rfl
 rw[if_neg h,afT,if_neg (by simpa using h)]
theorem fM{C D:Cs}{M N:Mo}:∀{l:List Nat},(∀q∈l,(N.it q).exp=(M.it q).exp/\N.ord q=M.ord q/\D.hd q=C.hd q)->iE D N l=iE C M l
 | [],_=>by simp only[iE,List.filter_nil,List.map_nil]
 |p::r,h=>by
  obtain⟨h1,h2,h3⟩:=h p aaV;rw[iN,iN,h1,h2,h3,fM λq hq=>h q (aaW _ hq)]
theorem CA{C:Cs}{M:Mo}{p:Nat}{n:I3}{l:List Nat}(h:n.exp=(M.it p).exp):iE C {M.put p n with ord:=M.ord} l=iE C M l:=fM λq _=>⟨by
 show(if q=p then n else M.it q).exp=_;by_cases e:q=p
 ·rw[if_pos e,h,e]
 rw[if_neg e],rfl,rfl⟩
theorem mm{C:Cs}{M:Mo}{h:Nat}{r:List Nat}(hr:∀q∈r,C.hd q≠h):eX (iE C M r) h=iE C M r:=by
 unfold eX;rw[List.filter_eq_self];intro x hx;unfold iE at hx;obtain⟨q,hq,rfl⟩:=acA.1 hx;exact decide_eq_true (hr q (aba.1 hq).1)
theorem bL.nm{B:Bx}{M:Mo}(O:bL B M){p:Nat}(h:p∈B.W.all):At B.C p:=(O.sN h).toAt
theorem bL.rest{B:Bx}{M:Mo}(O:bL B M){p:Nat}{r:List Nat}(h:B.W.all.Perm (p::r)):(eX B.E (B.C.hd p)).Perm (iE B.C M r):=by
 have nd:=h.nodup_iff.1 O.t.nd;have fN:∀q∈r,B.C.hd q≠B.C.hd p:=λq hq e=>(aa3.1 nd).1 (by
  rw[<-iV O.k (O.nm (h.mem_iff.2 (aaW _ hq))) (O.nm (h.mem_iff.2 aaV)) e];exact hq)
 have h1:(eX B.E (B.C.hd p)).Perm (eX (iE B.C M (p::r)) (B.C.hd p)):=(O.e.trans (jD h)).filter _;refine h1.trans ?_;rw[iN]
 split
 ·unfold eX
  rw[afT,if_neg (by simp)];exact aa1.of_eq (mm fN)
 exact aa1.of_eq (mm fN)
theorem bL.afe{B:Bx}{M:Mo}(_:bL B M){p:Nat}(h:p∈B.W.all):B.W.all.Perm (p::B.W.all.erase p):=List.perm_cons_erase h
def zJ (p:Nat)(a n:Nat)(q o:Nat):Prop:=q=p/\a<=o/\o<a+n
theorem bL.N6{B:Bx}{M:Mo}(O:bL B M){p:Nat}(hp:p∈B.W.all){A:By}{S:Nat->Nat->Prop}(d:cX B.C B.C.A A S){o w:Nat}(h2:o+w<=64)(h:∀j,o<=j->j<o+w->¬S p j):rd A (p+o) w=rd B.C.A (p+o) w:=
 lB O.k d (O.nm hp) (by have:=((O.nm hp).bn O.k).2.1;omega) h
theorem bL.wi{B:Bx}{M:Mo}(O:bL B M){p:Nat}(hp:p∈B.W.all):dz B.C.A p=(M.it p).ff/\(M.it p).ff<16:=by
 have h:=congrArg I3.ff (O.it p hp);obtain⟨i,hi⟩:=(O.al p).1 hp;have h2:=O.mq i p hi;have h3:dz B.C.A p=(M.it p).ff:=h;exact⟨h3,by omega⟩
theorem bL.jh{B:Bx}{M:Mo}(O:bL B M){p:Nat}(hp:p∈B.W.all):uv B.C.A p=(M.it p).exp/\lL B.C.A p=(M.it p).tch/\rW B.C.A p=(M.it p).tok/\dz B.C.A p=(M.it p).ff/\aP B.C.A p=(M.it p).key/\ke B.C.A p=(M.it p).val/\OG B.C.A p=(M.it p).fl:=by
 have h:=O.it p hp;rw[<-h];exact⟨rfl,rfl,rfl,rfl,rfl,rfl,rfl⟩
theorem bL.w46{B:Bx}{M:Mo}(O:bL B M){p:Nat}(hp:p∈B.W.all)(m:Nat)(hm:m<16):bL ⟨B.C.wA (wr B.C.A (p+46) 1 m),B.W,B.ty,B.E⟩ (M.put p {M.it p with ff:=m}):=by
 have L:=O.nm hp;have n1:=(L.bn O.k).2.1;have d:cX B.C B.C.A (wr B.C.A (p+46) 1 m) (zJ p 46 1):=w8 _ L (by omega) λj h1 h2=>⟨rfl,h1,h2⟩;have I:=O.t.it p hp;obtain⟨f1,f2,f3,f4,f5,f6,f7⟩:=O.jh hp;have g1:uv (wr B.C.A (p+46) 1 m) p=(M.it p).exp:=(O.N6 hp d (by omega) (λj h1 h2 s=>by unfold zJ at s;omega)).trans f1;have g2:lL (wr B.C.A (p+46) 1 m) p=(M.it p).tch:=(O.N6 hp d (by omega) (λj h1 h2 s=>by unfold zJ at s;omega)).trans f2;have g3:rW (wr B.C.A (p+46) 1 m) p=(M.it p).tok:=(O.N6 hp d (by omega) (λj h1 h2 s=>by unfold zJ at s;omega)).trans f3;have g4:dz (wr B.C.A (p+46) 1 m) p=m:=qf _ _ _ _ (by omega);have e1:=I.exp;have e2:=I.tch;refine O.iP hp d (λq j s=>by unfold zJ at s;omega) (by show uv _ _<_;rw[g1,<-f1];exact e1) (by show lL _ _<_;rw[g2,<-f2];exact e2) (by rw[g4];exact hm) _ (by rw[g1,g2,g3,g4]) _ _ _ ?_;exact O.e.trans (aa1.of_eq (CA (by rfl)).symm)
theorem bL.w24{B:Bx}{M:Mo}(O:bL B M){p:Nat}(hp:p∈B.W.all)(t:Nat)(ht:t<9223372036854775808):bL ⟨B.C.wA (wr B.C.A (p+24) 8 t),B.W,B.ty,B.E⟩ (M.put p {M.it p with tch:=t}):=by
 have L:=O.nm hp;have n1:=(L.bn O.k).2.1;have d:cX B.C B.C.A (wr B.C.A (p+24) 8 t) (zJ p 24 8):=w8 _ L (by omega) λj h1 h2=>⟨rfl,h1,h2⟩;have I:=O.t.it p hp;obtain⟨f1,f2,f3,f4,f5,f6,f7⟩:=O.jh hp;have g1:uv (wr B.C.A (p+24) 8 t) p=(M.it p).exp:=(O.N6 hp d (by omega) (λj h1 h2 s=>by unfold zJ at s;omega)).trans f1;have g2:lL (wr B.C.A (p+24) 8 t) p=t:=qf _ _ _ _ (by omega);have g3:rW (wr B.C.A (p+24) 8 t) p=(M.it p).tok:=(O.N6 hp d (by omega) (λj h1 h2 s=>by unfold zJ at s;omega)).trans f3;have g4:dz (wr B.C.A (p+24) 8 t) p=(M.it p).ff:=(O.N6 hp d (by omega) (λj h1 h2 s=>by unfold zJ at s;omega)).trans f4;have e1:=I.exp;refine O.iP hp d (λq j s=>by unfold zJ at s;omega) (by show uv _ _<_;rw[g1,<-f1];exact e1) (by show lL _ _<_;rw[g2];exact ht) (by rw[g4];exact(O.wi hp).2) _ (by rw[g1,g2,g3,g4]) _ _ _ ?_;exact O.e.trans (aa1.of_eq (CA (by rfl)).symm)
theorem bL.w32{B:Bx}{M:Mo}(O:bL B M){p:Nat}(hp:p∈B.W.all)(t:Nat)(ht:t<18446744073709551616):bL ⟨B.C.wA (wr B.C.A (p+32) 8 t),B.W,B.ty,B.E⟩ (M.tok p t):=by
 have L:=O.nm hp;have n1:=(L.bn O.k).2.1;have d:cX B.C B.C.A (wr B.C.A (p+32) 8 t) (zJ p 32 8):=w8 _ L (by omega) λj h1 h2=>⟨rfl,h1,h2⟩;have I:=O.t.it p hp;obtain⟨f1,f2,f3,f4,f5,f6,f7⟩:=O.jh hp;have g1:uv (wr B.C.A (p+32) 8 t) p=(M.it p).exp:=(O.N6 hp d (by omega) (λj h1 h2 s=>by unfold zJ at s;omega)).trans f1;have g2:lL (wr B.C.A (p+32) 8 t) p=(M.it p).tch:=(O.N6 hp d (by omega) (λj h1 h2 s=>by unfold zJ at s;omega)).trans f2;have g3:rW (wr B.C.A (p+32) 8 t) p=t:=qf _ _ _ _ (by omega);have g4:dz (wr B.C.A (p+32) 8 t) p=(M.it p).ff:=(O.N6 hp d (by omega) (λj h1 h2 s=>by unfold zJ at s;omega)).trans f4;have e1:=I.exp;have e2:=I.tch;refine O.iP hp d (λq j s=>by unfold zJ at s;omega) (by show uv _ _<_;rw[g1,<-f1];exact e1) (by show lL _ _<_;rw[g2,<-f2];exact e2) (by rw[g4];exact(O.wi hp).2) _ (by rw[g1,g2,g3,g4]) _ _ _ ?_;exact O.e.trans (aa1.of_eq (CA (by rfl)).symm)
theorem bL.w16{B:Bx}{M:Mo}(O:bL B M){p:Nat}(hp:p∈B.W.all)(t:Nat)(ht:t<9223372036854775808):bL ⟨B.C.wA (wr B.C.A (p+16) 8 t),B.W,B.ty,lK B.E (B.C.hd p) t M.tn⟩ (M.time p t):=by
 have L:=O.nm hp;have n1:=(L.bn O.k).2.1;have d:cX B.C B.C.A (wr B.C.A (p+16) 8 t) (zJ p 16 8):=w8 _ L (by omega) λj h1 h2=>⟨rfl,h1,h2⟩;have I:=O.t.it p hp;obtain⟨f1,f2,f3,f4,f5,f6,f7⟩:=O.jh hp;have g1:uv (wr B.C.A (p+16) 8 t) p=t:=qf _ _ _ _ (by omega);have g2:lL (wr B.C.A (p+16) 8 t) p=(M.it p).tch:=(O.N6 hp d (by omega) (λj h1 h2 s=>by unfold zJ at s;omega)).trans f2;have g3:rW (wr B.C.A (p+16) 8 t) p=(M.it p).tok:=(O.N6 hp d (by omega) (λj h1 h2 s=>by unfold zJ at s;omega)).trans f3;have g4:dz (wr B.C.A (p+16) 8 t) p=(M.it p).ff:=(O.N6 hp d (by omega) (λj h1 h2 s=>by unfold zJ at s;omega)).trans f4;have e2:=I.tch;refine O.iP hp d (λq j s=>by unfold zJ at s;omega) (by show uv _ _<_;rw[g1];exact ht) (by show lL _ _<_;rw[g2,<-f2];exact e2) (by rw[g4];exact(O.wi hp).2) _ (by rw[g1,g2,g3,g4]) _ _ _ ?_;have pe:=O.afe hp;have nd:=aa3.1 (pe.nodup_iff.1 O.t.nd);have hr:=O.rest pe;refine aa1.trans ?_ (jD pe).symm;rw[iN];have e0:(({M.put p {M.it p with exp:=t}with ord:=λq=>if q=p then M.tn+1 else M.ord q}:Mo).it p).exp=t:=by show(if p=p then _ else M.it p).exp=t;rw[if_pos rfl]
 have e5:({M.put p {M.it p with exp:=t}with ord:=λq=>if q=p then M.tn+1 else M.ord q}:Mo).ord p=M.tn+1:=if_pos rfl;rw[e0,e5];have e1:iE B.C {M.put p {M.it p with exp:=t}with ord:=λq=>if q=p then M.tn+1 else M.ord q} (B.W.all.erase p)=iE B.C M (B.W.all.erase p):=fM λq hq=>by
  have ne:q≠p:=λe=>nd.1 (e▸hq);refine⟨?_,if_neg ne,rfl⟩;show(if q=p then _ else M.it q).exp=_;rw[if_neg ne]
 rw[e1];unfold lK
 split
 ·exact hr.cons _
 exact hr
theorem oH{C:Cs}(K:Ok C){p:Nat}(L:Live C p)(j:Nat):((C.bq p).pg j).own=(C.pg j).own/\((C.bq p).pg j).lv=(C.pg j).lv/\((C.bq p).pg j).cl=(C.pg j).cl:=by
 have hpl:C.pn p<C.bc.length:=by rw[K.pl];exact L.i
 have h:=mX (C:=C) (c:=C.cl p) (sp:=C.spare) (x:={C.pg (C.pn p)with tk:=(C.pg (C.pn p)).tk.set (C.ix p) false,held:=(C.pg (C.pn p)).held-1,bd:=(C.pg (C.pn p)).bd.set (C.ix p) ((C.gen p+1) % 4294967296)}) (r:={C.rw (C.cl p)with free:=if(C.pg (C.pn p)).lv=true then(C.rw (C.cl p)).free else(C.rw (C.cl p)).free++ [p],dL:=(C.rw (C.cl p)).dL-1}) (A:=C.A) hpl j;change(C.bq p).pg j=_ at h;rw[h];by_cases e:j=C.pn p
 ·rw[if_pos e,e];exact⟨rfl,rfl,rfl⟩
 rw[if_neg e];exact⟨rfl,rfl,rfl⟩
theorem nV{C:Cs}(K:Ok C){p:Nat}(L:Live C p)(q:Nat):Live (C.bq p) q↔Live C q/\q≠p:=by
 obtain⟨K2,S⟩:=gY K L;have M:=jB K L;refine⟨λh=> ?_,λh=>(M.lv q h.2 h.1).1⟩;have hpl:C.pn p<C.bc.length:=by rw[K.pl];exact L.i
 have hp:=mX (C:=C) (c:=C.cl p) (sp:=C.spare) (x:={C.pg (C.pn p)with tk:=(C.pg (C.pn p)).tk.set (C.ix p) false,held:=(C.pg (C.pn p)).held-1,bd:=(C.pg (C.pn p)).bd.set (C.ix p) ((C.gen p+1) % 4294967296)}) (r:={C.rw (C.cl p)with free:=if(C.pg (C.pn p)).lv=true then(C.rw (C.cl p)).free else(C.rw (C.cl p)).free++ [p],dL:=(C.rw (C.cl p)).dL-1}) (A:=C.A) hpl (C.pn q);change(C.bq p).pg (C.pn q)=_ at hp;have a:=(S.at).1 h.toAt;have t:=h.tk;rw[S.pn,S.ix,hp]at t;by_cases e:C.pn q=C.pn p
 ·rw[if_pos e]at t
  have ne:q≠p:=λg=>by
   rw[g]at t;change((C.pg (C.pn p)).tk.set (C.ix p) false)[C.ix p]?=some true at t;rw[List.getElem?_set_self']at t;cases hh:(C.pg (C.pn p)).tk[C.ix p]?<;>rw[hh]at t<;>cases t
  refine⟨⟨a, ?_⟩,ne⟩;change((C.pg (C.pn p)).tk.set (C.ix p) false)[C.ix q]?=some true at t;rw[afA (λg=>xm K L.toAt a e ne g.symm)]at t;rw[e];exact t
 rw[if_neg e]at t;exact⟨⟨a,t⟩,λg=>e (by rw[g])⟩
def iG (Q:List (List Nat))(p:Nat):List (List Nat):=Q.map λl=>l.erase p
theorem jq (Q:List (List Nat))(p i:Nat):ql (iG Q p) i=(ql Q i).erase p:=by
 unfold iG ql;rw[aaP,aaP,aa6];cases Q[i]?<;>rfl
theorem Du{C:Cs}{Q:List (List Nat)}(O:iR C Q){i j p:Nat}(h:p∈ql Q i)(g:p∈ql Q j):i=j:=by
 rw[(O.st i p h).2.2,(O.st j p g).2.2]
theorem Hg{l:List Nat}(nd:l.Nodup){k p:Nat}(h:l[k]?=some p):l.eraseIdx k=l.erase p:=by
 obtain⟨hk,e⟩:=aaR.1 h;have:l.idxOf p=k:=by
  have h1:p∈l:=aaT h;obtain⟨i1,i2⟩:=Cr h1;exact iC nd i2 h
 rw[List.erase_eq_eraseIdx_of_idxOf this]
theorem Ca{C:Cs}{Q:List (List Nat)}(O:iR C Q){i k p:Nat}(h:(ql Q i)[k]?=some p):Q.set i ((ql Q i).eraseIdx k)=iG Q p:=by
 have hm:=aaT h;have hi:i<Q.length:=by
  refine aa2 λg=> ?_;unfold ql at h;have e0:Q[i]?=none:=aa7 (by omega);rw[aaP,e0]at h;cases h
 refine ajg λj=> ?_;unfold iG;rw[agi,aa6];by_cases e:i=j
 ·subst e
  rw[if_pos rfl,if_pos hi,aaQ hi];have e2:ql Q i=Q[i]:=by unfold ql;rw[aaP,aaQ hi];rfl
  rw[Hg (O.nd i) h,e2];rfl
 rw[if_neg e];cases hq:Q[j]? with
 |none=>rfl
 |some l=>
  have e2:ql Q j=l:=by unfold ql;rw[aaP,hq];rfl
  have:p∉l:=λg=>e (Du O hm (by rw[e2];exact g));rw[Option.map_some,List.erase_of_not_mem this]
def Mo.shr (M:Mo):Prop:=M.mg=0/\16<M.nb/\8*(M.n-1)<M.nb
instance (M:Mo):Decidable M.shr:=by unfold Mo.shr;infer_instance
def Mo.ca (M:Mo)(p:Nat):Mo:=
 {M with C:=M.C.bq p,Q:=iG M.Q p,x:=M.x.left M.Q p,n:=M.n-1,nb:=if M.shr then M.nb/2 else M.nb,mg:=if M.shr then M.nb else M.mg,v:={M.v with eW:=M.v.eW-(M.it p).sz}}
theorem bL.st0{B:Bx}{M:Mo}(O:bL B M):M.mg=0↔B.W.st=0:=by
 have:=O.st;rw[O.mg];rcases O.t.st with⟨h,_⟩|⟨h,_,_⟩
 ·rw[h,if_neg (by omega)]
 rw[if_pos h,h];have:=this h;omega
theorem bL.ca{B:Bx}{M:Mo}(O:bL B M){p i k:Nat}(hp:p∈B.W.all)(hk:(ql M.Q i)[k]?=some p){D:Cs}{V:Tb}{ty:qw}{A:By}(hy:ty.ok=none->V.ob= [])(zF:B.W.all.Perm (p::V.all))(hA:ahg B.C p D V (M.Q.set i ((ql M.Q i).eraseIdx k)) (M.x.left M.Q p))(TK:Hq B.C B.W p A V):
  bL ⟨D,V,ty,eX B.E (B.C.hd p)⟩ (M.ca p):=by
 have L:=O.sN hp;have K:=O.k;have hq:=Ca O.o hk;rw[hq]at hA;have nd:=aa3.1 (zF.nodup_iff.1 O.t.nd);have ao:∀q,q∈V.all↔q∈B.W.all/\q≠p:=λq=>by
  rw[zF.mem_iff,aa5];exact⟨λh=>⟨.inr h,λe=>nd.1 (e▸h)⟩,λh=>h.1.resolve_left h.2⟩
 have uo:D.ae=B.C.ae:=by rw[hA.g];rfl
 have jV:∀q,Live D q↔Live B.C q/\q≠p:=λq=>by
  rw[hA.g];exact Iff.trans ⟨λh=>⟨⟨h.i,h.own,h.al,h.k⟩,h.tk⟩,λh=>h.wA _⟩ (nV K L q)
 have Kw:∀q,q∈V.all->D.hd q=B.C.hd q:=λq h=>by
  have h2:=(ao q).1 h;rw[hA.g];exact((jB K L).lv q h2.2 (O.sN h2.1)).2.1
 have lJ:∀q∈V.all,mJ D.A q=M.it q:=λq h=>by
  have h2:=(ao q).1 h;rw[<-O.it q h2.1];exact vz K hA.d (O.nm h2.1) (O.t.it q h2.1) λj s=>by omega
 have iD:∀j,(D.pg j).own=(B.C.pg j).own/\(D.pg j).lv=(B.C.pg j).lv/\(D.pg j).cl=(B.C.pg j).cl:=λj=>by rw[hA.g];exact oH K L j
 have h0:=O.st0;have AU:=O.nb;have hn:=O.n;have C4:=O.mg;have Zf:M.shr↔jv B.W:=by unfold Mo.shr jv;rw[h0,AU,hn]
 have h16:=O.t.Oq;refine⟨?_,hA.k,hA.t,hy,hA.o, ?_, ?_,O.ck,λq=> ?_,λq=> ?_,λq h=> ?_,lJ, ?_, ?_, ?_, ?_, ?_, ?_, ?_, ?_, ?_,O.wn, ?_, ?_,λq h=>O.lg q ((ao q).1 h).1⟩
 ·show D=(M.C.bq p).wA D.A
  conv=>lhs;rw[hA.g,O.c]
  rfl
 ·show dh D.ae.length (iG M.Q p) (M.x.left M.Q p)
  rw[uo];exact hA.x
 ·intro j q Kv
  change q∈ql (iG M.Q p) j at Kv;rw[jq]at Kv;have hqm:=agq Kv;have e:dz D.A q=dz B.C.A q:=lB K hA.d (O.o.lv j q hqm).toAt (by have:=((O.o.lv j q hqm).toAt.bn K).2.1;omega) λu h1 h2 s=>by omega
  show dz D.A q<16;rw[e];exact O.mq j q hqm
 ·show q∈V.all↔∃j,q∈ql (iG M.Q p) j
  rw[ao q,O.al q];refine⟨λ⟨⟨j,h1⟩,h2⟩=>⟨j,by rw[jq];exact(ajh h2).2 h1⟩,λ⟨j,h1⟩=> ?_⟩;rw[jq]at h1;exact⟨⟨j,agq h1⟩,λe=>by subst e;exact(List.Nodup.not_mem_erase (O.o.nd j)) h1⟩
 ·show Live D q↔q∈V.all\/M.hole=some q
  rw[jV q,ao q,O.lv q]
  constructor
  ·rintro⟨h|h,ne⟩
   ·exact .inl ⟨h,ne⟩
   exact .inr h
  rintro(⟨h,ne⟩|h)
  ·exact⟨.inl h,ne⟩
  exact⟨.inr h,λe=>O.ho q h (e▸hp)⟩
 ·exact λg=>O.ho q h ((ao q).1 g).1
 ·refine(O.rest zF).trans (aa1.of_eq (fM λq h=>⟨rfl,rfl,Kw q h⟩).symm)
 ·intro h2
  show V.mv<V.ob.length;by_cases g:jv B.W
  ·obtain⟨_,_,e1,e2⟩:=TK.big g
   rw[e1,e2];omega
  obtain⟨_,e1,e2,e3⟩:=TK.same g;rw[e2,e3];exact O.st (by rw[<-e1];exact h2)
 ·show V.size=if M.shr then M.nb/2 else M.nb
  by_cases g:jv B.W
  ·rw[if_pos (Zf.2 g),(TK.big g).1,AU]
  rw[if_neg λe=>g (Zf.1 e),(TK.same g).1,AU]
 ·show(if M.shr then M.nb else M.mg)=if V.st=2 then V.ob.length-V.mv else 0
  by_cases g:jv B.W
  ·obtain⟨_,e1,e2,e3⟩:=TK.big g
   rw[if_pos (Zf.2 g),if_pos e1,e2,e3,AU];rfl
  obtain⟨_,e1,e2,e3⟩:=TK.same g;rw[if_neg λe=>g (Zf.1 e),e1,e2,e3];exact C4
 ·exact TK.aI.trans O.mo
 ·show M.v.eW-(M.it p).sz=_
  rw[O.bt,me _ zF,aaX,aa8];show _=(V.all.map λp=>(M.it p).sz).sum;omega
 ·show M.m.un.length=D.ae.length
  rw[uo];exact O.un
 ·intro h
  have:=O.on h;obtain⟨e1,e2,e3⟩:=iD M.m.pg;show M.m.pg<D.n/\(D.pg M.m.pg).own=true/\(D.pg M.m.pg).lv=true/\(D.pg M.m.pg).cl=M.m.fr;rw[e1,e2,e3,show D.n=B.C.n by rw[hA.g];rfl];exact this
 ·intro j h
  rw[show(D.pg j).lv=(B.C.pg j).lv from(iD j).2.1]at h;exact O.go j h
 ·show M.v.c=D.cfg
  rw[hA.g];exact O.cf
 show V.n=M.n-1;rw[TK.n,hn]
def Mo.cn (M:Mo)(p:Nat):Nat:=if 0<(M.it p).exp/\(M.it p).exp<=M.k.now then 2 else if(M.it p).tok<=M.k.cut then 3 else 0
theorem bL.abf{B:Bx}{M:Mo}(O:bL B M){p:Nat}(hp:p∈B.W.all):za B.C.A M.k p=M.cn p:=by
 obtain⟨f1,f2,f3,f4,f5,f6,f7⟩:=O.jh hp;unfold za Mo.cn;rw[f1,f3]
theorem lD:∀(A R:List aa),iI (A++R) A R
 | [],_=> .nil
 |_::A,R=> .cons .here (lD A R)
theorem uT (z:Ly)(M:Mo)(p:Nat)(hp:M.has p):aO aaO 48 [CM z.s,CO CJ (M.C.hd p)] (λ_=>True) [SH z M]
  (λv H=>v= .bool (decide (M.cn p≠0))/\H= [SH z M]):=
 dH λB O=>by
  have dE:=(O.al p).2 hp;have h:=(D0 z.s z.y (fb M.v) B.C O.k M.k p (O.ito dE)).fr (H:=dM z B M++ []) (R:=dM z B M) (lD [] _) (λk ao=>⟨ao.nth 8 rfl,ao.nth 0 rfl,ao.nth 9 rfl⟩);rw[O.hd,O.abf dE]at h;refine h.out ?_;rintro v H' ⟨H0,⟨rfl,rfl⟩,rfl⟩;exact⟨[SH z M],⟨rfl,rfl⟩,λk s=>aB O (H:= []) k s⟩
theorem HQ (z:Ly)(M:Mo)(p:Nat)(hp:M.has p):aO aaO 97 [CM z.s,CO CJ (M.C.hd p)] (λ_=>True) [SH z M]
  (λv H=>v=CO CN (M.cn p)/\H= [SH z M]):=
 dH λB O=>by
  have dE:=(O.al p).2 hp;have h:=(Ah z.s z.y (fb M.v) B.C O.k M.k p (O.ito dE)).fr (H:=dM z B M++ []) (R:=dM z B M) (lD [] _) (λk ao=>⟨ao.nth 8 rfl,ao.nth 0 rfl,ao.nth 9 rfl⟩);rw[O.hd,O.abf dE]at h;refine h.out ?_;rintro v H' ⟨H0,⟨rfl,rfl⟩,rfl⟩;exact⟨[SH z M],⟨rfl,rfl⟩,λk s=>aB O (H:= []) k s⟩
theorem SJ (z:Ly)(M:Mo)(p:Nat)(hp:M.has p):aO aaO 122 [CM z.s,CO CJ (M.C.hd p)] (λ_=>True) [SH z M]
  (λv H=>v= .tuple #[]/\H= [SH z (M.lJ p)]):=
 dH λB O=>by
  have dE:=(O.al p).2 hp;obtain⟨i,hi⟩:=hp;have gB:=O.o.st i p hi;have hm:=O.mq i p hi;have y6:=O.ck.n2;have h:=(Xb z.s z.hot z.warm z.y (fb M.v) B.C O.k M.k O.ck p (O.ito dE) hm ⟨gB.1,gB.2.1⟩).fr (H:=dM z B M++ []) (R:=(dM z B M).tail) (.cons .here .nil) (λk ao=>⟨ao.nth 7 rfl,ao.nth 9 rfl,ao.nth 8 rfl⟩);rw[O.hd]at h;refine h.out ?_;rintro v H' ⟨H0,⟨rfl,rfl⟩,rfl⟩;refine⟨[SH z (M.lJ p)],⟨rfl,rfl⟩, ?_⟩;obtain⟨m1,m2⟩:=O.wi dE;have h1:=mj hm true;have L:=O.sN dE;have uq:dz (vX B.C.A p true) p=mkSet (dz B.C.A p) true:=by rw[IJ O.k B.C.A L L,if_pos rfl];omega
  have O1:=O.w46 dE (mkSet (dz B.C.A p) true) h1;have O2:=O1.w46 (p:=p) dE (mkSet (dz B.C.A p) true % 8+8) (by omega);have O3:=O2.w24 (p:=p) dE M.k.now (by omega);have e:abn B.C.A p M.k.now=wr (wr (wr B.C.A (p+46) 1 (mkSet (dz B.C.A p) true)) (p+46) 1 (mkSet (dz B.C.A p) true % 8+8)) (p+24) 8 M.k.now:=rfl;rw[e];have e2:M.lJ p=((M.put p {M.it p with ff:=mkSet (dz B.C.A p) true}).put p {(M.put p {M.it p with ff:=mkSet (dz B.C.A p) true}).it p with ff:=mkSet (dz B.C.A p) true % 8+8}).put p {((M.put p {M.it p with ff:=mkSet (dz B.C.A p) true}).put p {(M.put p {M.it p with ff:=mkSet (dz B.C.A p) true}).it p with ff:=mkSet (dz B.C.A p) true % 8+8}).it p with tch:=M.k.now}:=by
   rw[m1];unfold Mo.lJ Mo.put
   congr 1
   funext q
   dsimp only;by_cases h:q=p
   ·simp[h]
   simp[h]
  rw[e2];exact λk s=>aB O3 (H:= []) k s
theorem HS (z:Ly)(M:Mo)(p c:Nat)(hc:c<4)(hp:M.has p):aO aaO 127 [CM z.s,CO CJ (M.C.hd p),CO CN (c*2:Nat)] (λ_=>True) [SH z M]
  (λv H=>v= .tuple #[]/\H= [SH z (M.marks p c)]):=
 dH λB O=>by
  have dE:=(O.al p).2 hp;obtain⟨i,hi⟩:=hp;have hm:=O.mq i p hi;obtain⟨m1,m2⟩:=O.wi dE;have h:=(Lz z.s z.y (fb M.v) B.C O.k p c hc (O.ito dE) hm).fr (H:=dM z B M++ []) (R:=(dM z B M).tail) (.cons .here .nil) (λk ao=>ao.nth 7 rfl);rw[O.hd]at h;refine h.out ?_;rintro v H' ⟨H0,⟨rfl,rfl⟩,rfl⟩;refine⟨[SH z (M.marks p c)],⟨rfl,rfl⟩, ?_⟩;have O1:=O.w46 dE (dz B.C.A p-dz B.C.A p/2 % 4*2+c*2) (by omega);rw[show M.marks p c=M.put p {M.it p with ff:=dz B.C.A p-dz B.C.A p/2 % 4*2+c*2} by rw[m1];rfl];exact λk s=>aB O1 (H:= []) k s
theorem HP (z:Ly)(M:Mo)(p:Nat)(hp:M.has p)(t:Int)(ht:t<9223372036854775808)(vq:M.tn<18446744073709551615):aO aaO 121 [CM z.s,CO CJ (M.C.hd p),CO CN t] (λ_=>True) [SH z M]
  (λv H=>v= .tuple #[]/\H= [SH z (M.time p (gL M.k.now t))]):=
 dH λB O=>by
  have dE:=(O.al p).2 hp;have hE:B.E.length<2147483647:=by
   rw[O.e.length_eq];unfold iE;rw[adr];have h1:=ajY (λp=>decide (0<(M.it p).exp)) B.W.all;have h2:=A8 O.k O.t;rw[O.t.n]at h2;omega
  have h:=(Lw z.s z.y (fb M.v) B.C O.k M.k O.ck p (O.ito dE) B.E M.tn t ht vq hE).fr (H:=dM z B M++ []) (R:= [af z.y.t 154 (fk z.y.b B.W B.ty),af B.ty.nk 149 (aM (aD B.W.nb)),jH B.ty.ok 149 (aM (aD B.W.ob)),af z.y.q 182 (fC z.y.b z.qb B.C.ae.length),af z.qb 333 (M.Q.flatMap (cV B.C)),gh z.y.cr z.y.q z.y.wh B.C.ae.length (aL z.s) (aY z.s) B.C M.x,fm z.s z.y (fb M.v),
   kO z.y.ck M.k,jb z.y.lu z.y.b z.y.q z.hot z.warm,iT z.y.mo z.y.b z.ub (aL z.s) (aY z.s) (bI z.s) M.m,kL z.ub M.m,jJ M]) (.cons .here (.cons (.there (.there (.there (.there (.there (.there .here)))))) .nil)) (λk ao=>⟨ao.nth 6 rfl,ao.nth 7 rfl⟩)
  rw[O.hd]at h;refine h.out ?_;rintro v H' ⟨H0,⟨rfl,rfl⟩,rfl⟩;refine⟨[SH z (M.time p (gL M.k.now t))],⟨rfl,rfl⟩, ?_⟩;have O1:=O.w16 dE (gL M.k.now t) (Cz M.k.now t O.ck.n2 ht);refine λk s=>aB O1 (H:= []) k ?_;rw[<-O.hd]at s
  revert s
  revert k
  show∀k,ai ([Wl z.y.wh (lK B.E (B.C.hd p) (gL M.k.now t) M.tn) (if 0<gL M.k.now t then M.tn+1 else M.tn),Cl z.y.b (B.C.wA (wr B.C.A (p+16) 8 (gL M.k.now t)))]++_) k->ai ([Cl z.y.b (B.C.wA (wr B.C.A (p+16) 8 (gL M.k.now t))),af z.y.t 154 (fk z.y.b B.W B.ty),af B.ty.nk 149 (aM (aD B.W.nb)),jH B.ty.ok 149 (aM (aD B.W.ob)),af z.y.q 182 (fC z.y.b z.qb B.C.ae.length),af z.qb 333 (M.Q.flatMap (cV B.C)),gh z.y.cr z.y.q z.y.wh B.C.ae.length (aL z.s) (aY z.s) B.C M.x,Wl z.y.wh (lK B.E (B.C.hd p) (gL M.k.now t) M.tn) (if 0<gL M.k.now t then M.tn+1 else M.tn),fm z.s z.y (fb M.v),
   kO z.y.ck M.k,jb z.y.lu z.y.b z.y.q z.hot z.warm,iT z.y.mo z.y.b z.ub (aL z.s) (aY z.s) (bI z.s) M.m,kL z.ub M.m,jJ M]) k
  simp only[o8,cap];exact Eh
theorem bL.btb{B:Bx}{M:Mo}(O:bL B M):M.v.eW<4611686018427387904:=by
 rw[O.bt];have h2:=A8 O.k O.t;rw[O.t.n]at h2;have:∀l:List Nat,(∀p∈l,p∈B.W.all)->(l.map λp=>(M.it p).sz).sum<=l.length*1048576:=λl=>by
  induction l with
  |nil=>intro _;simp
  |cons p l ih=>
   intro h;have hp:=h p aaV;have h1:=O.szp hp;have h3:=(O.t.it p hp).fits;have h4:=((O.nm hp).bn O.k).2.2.1;have h5:=O.k.toFix.p1;have:=ih λq hq=>h q (aaW _ hq);rw[aaX,aa8,afn];omega
 have:=this _ λp h=>h;have h3:B.W.all.length*1048576<=1073741824*1048576:=afz _ h2;omega
theorem jR (z:Ly)(M:Mo)(p:Nat)(hp:M.has p):aO aaO 85 [CM z.s,CO CJ (M.C.hd p)] (λ_=>True) [SH z M]
  (λv H=>v= .tuple #[]/\H= [SH z (M.ca p)]):=
 dH λB O=>by
  have dE:=(O.al p).2 hp;obtain⟨i,hi⟩:=hp;obtain⟨k,hk⟩:=agd hi;have uo:=O.szp dE;have Ge:kl B.C.A p<=250:=by
   have h1:=(fL (O.lg p dE)).2;rw[<-O.it p dE]at h1;rw[<-show(aP B.C.A p).length=kl B.C.A p from cD _ _ _];exact h1
  have hb:58+kl B.C.A p+vl B.C.A p<=M.v.eW:=by
   rw[uo,O.bt];exact wF (λp=>(M.it p).sz) dE
  have h:=(SS z.s z.qb z.hot z.warm (aL z.s) (aY z.s) z.y M.v B.C O.k B.W B.ty O.t O.ty M.Q O.o M.x O.x B.E M.tn i k p dE hk Ge hb O.btb).fr (H:=dM z B M++ []) (R:= [kO z.y.ck M.k,jb z.y.lu z.y.b z.y.q z.hot z.warm,iT z.y.mo z.y.b z.ub (aL z.s) (aY z.s) (bI z.s) M.m,kL z.ub M.m,jJ M]) (lD (Cl z.y.b B.C::nq z.y.t z.y.b B.W B.ty++ [af z.y.q 182 (fC z.y.b z.qb B.C.ae.length),af z.qb 333 (M.Q.flatMap (cV B.C)),gh z.y.cr z.y.q z.y.wh B.C.ae.length (aL z.s) (aY z.s) B.C M.x,Wl z.y.wh B.E M.tn,fm z.s z.y (fb M.v)]) _) (λk ao=>ao.nth 1 rfl);rw[O.hd]at h;refine h.out ?_;rintro v H' ⟨H0,⟨rfl,D,V,ty,rfl,hy,zF,hA,A,TK⟩,rfl⟩;refine⟨[SH z (M.ca p)],⟨rfl,rfl⟩, ?_⟩;have O1:=O.ca dE hk hy zF hA TK;have e1:B.C.ae.length=D.ae.length:=by rw[hA.g];rfl
  rw[Ca O.o hk,uo,<-O.hd,e1];exact λk s=>aB O1 (H:= []) k s
theorem wR:∀{Q:List (List Nat)},(∀i,(ql Q i).Nodup)->(∀i j p,p∈ql Q i->p∈ql Q j->i=j)->Q.flatten.Nodup
 | [],_,_=>by simp
 |l::Q,h,g=>by
  have ih:=wR (Q:=Q) (λi=>h (i+1)) (λi j p h1 h2=>by have:=g (i+1) (j+1) p h1 h2;omega);rw[List.flatten_cons,List.nodup_append];refine⟨h 0,ih,λa ha b hb e=> ?_⟩;subst e;obtain⟨m,hm,ham⟩:=ajm.1 hb;obtain⟨i,hi,rfl⟩:=aft hm;have:=g 0 (i+1) a ha (by show a∈ql Q i;unfold ql;rw[aaP,aaQ hi];exact ham);omega
theorem gw{Q:List (List Nat)}{p:Nat}:p∈Q.flatten↔∃i,p∈ql Q i:=by
 rw[ajm]
 constructor
 ·rintro⟨l,hl,hp⟩
  obtain⟨i,hi,rfl⟩:=aft hl;exact⟨i,by unfold ql;rw[aaP,aaQ hi];exact hp⟩
 rintro⟨i,hp⟩;unfold ql at hp;rw[aaP]at hp;cases h:Q[i]? with
 |none=>rw[h]at hp;cases hp
 |some l=>rw[h]at hp;exact⟨l,aaT h,hp⟩
theorem bL.perm{B:Bx}{M:Mo}(O:bL B M):B.W.all.Perm M.Q.flatten:=
 (List.perm_ext_iff_of_nodup O.t.nd (wR O.o.nd λi j p h g=>Du O.o h g)).2 λp=>(O.al p).trans gw.symm
def sU (h:Nat):Nat:=(h % 4294967296-1)*8
theorem acY{B:Bx}{M:Mo}(O:bL B M){p:Nat}(hp:p∈B.W.all):sU (M.C.hd p)=p:=by
 obtain⟨m1,m2,m3,m4,m5,m6⟩:=bV O.k (O.nm hp);rw[O.hd]at m1;unfold sU;omega
noncomputable def Mo.kQ (M:Mo)(now aI:Int):List Nat:=(pF (iE M.C M M.Q.flatten) now aI).map sU
theorem aeE{B:Bx}{M:Mo}(O:bL B M)(l:List Nat):iE B.C M l=iE M.C M l:=fM λq _=>⟨rfl,rfl,O.hd q⟩
theorem Qs{f:Nat->Nat}:∀{l:List Nat},(l.map f).Nodup->l.Nodup
 | [],_=>ai3
 |a::l,h=>by
  rw[aaX,aa3]at h;exact aa3.2 ⟨λg=>h.1 (acA.2 ⟨a,g,rfl⟩),Qs h.2⟩
theorem YM{M:Mo}{now aI:Int}{h:Nat}(hh:h∈pF (iE M.C M M.Q.flatten) now aI):∃p,M.has p/\h=M.C.hd p:=by
 unfold pF at hh;obtain⟨x,hx,rfl⟩:=acA.1 hh;have h1:=(gZ _).mem_iff.1 (aji hx);have h2:=(aba.1 h1).1;unfold iE at h2;obtain⟨p,hp,rfl⟩:=acA.1 h2;exact⟨p,gw.1 (aba.1 hp).1,rfl⟩
theorem aaw (C:Cs)(M:Mo)(l:List Nat):(iE C M l).map En.h=(l.filter λp=>decide (0<(M.it p).exp)).map C.hd:=by
 unfold iE;rw[List.map_map];exact afr λp _=>rfl
theorem Z7{B:Bx}{M:Mo}(O:bL B M):∀{l:List Nat},l.Nodup->(∀p∈l,M.has p)->(l.map M.C.hd).Nodup
 | [],_,_=>ai3
 |p::l,h,g=>by
  rw[aaX,aa3];refine⟨λhc=> ?_,Z7 O (aa3.1 h).2 λq hq=>g q (aaW _ hq)⟩;obtain⟨q,hq,e⟩:=acA.1 hc;rw[<-O.hd,<-O.hd]at e;have:=iV O.k (O.nm ((O.al q).2 (g q (aaW _ hq)))) (O.nm ((O.al p).2 (g p aaV))) e;exact(aa3.1 h).1 (this▸hq)
theorem aeL{B:Bx}{M:Mo}(O:bL B M)(now aI:Int):(pF (iE M.C M M.Q.flatten) now aI).Nodup:=by
 have n1:((iE M.C M M.Q.flatten).map En.h).Nodup:=by
  rw[aaw];exact Z7 O ((wR O.o.nd λi j p h g=>Du O.o h g).sublist afY) λp hp=>gw.1 (aba.1 hp).1
 unfold pF;generalize iE M.C M M.Q.flatten=E at*;have n2:((E.filter λx=>decide ((x.ex:Int)<=now)).map En.h).Nodup:=n1.sublist (afY.map _);have n3:=((gZ (E.filter λx=>decide ((x.ex:Int)<=now))).map En.h).nodup_iff.2 n2;exact n3.sublist ((List.take_sublist _ _).map _)
theorem RA{B:Bx}{M:Mo}(O:bL B M):∀{l:List Nat},(∀h∈l,∃p,M.has p/\h=M.C.hd p)->(l.map sU).map M.C.hd=l/\∀p∈l.map sU,M.has p
 | [],_=>⟨rfl,λp h=>by cases h⟩
 |h::l,g=>by
  obtain⟨p,hp,e⟩:=g h aaV;obtain⟨i1,i2⟩:=RA O (l:=l) λx hx=>g x (aaW _ hx);have e1:sU h=p:=by rw[e,acY O ((O.al p).2 hp)]
  rw[aaX,aaX,e1,i1,e];refine⟨rfl,λq hq=> ?_⟩;rcases aa5.1 hq with rfl|hq
  ·exact hp
  exact i2 q hq
theorem aeK{B:Bx}{M:Mo}(O:bL B M)(td:(B.E.map En.tu).Nodup)(now aI:Int):pF B.E now aI=pF (iE M.C M M.Q.flatten) now aI:=by
 have pe:B.E.Perm (iE M.C M M.Q.flatten):=by rw[<-aeE O];exact O.e.trans (jD O.perm)
 generalize iE M.C M M.Q.flatten=E at*;unfold pF;rw[yp (pe.filter _)];exact((pe.map En.tu).nodup_iff.1 td).sublist (afY.map _)
theorem bL.due{B:Bx}{M:Mo}(O:bL B M)(td:(B.E.map En.tu).Nodup)(now aI:Int):pF B.E now aI=(M.kQ now aI).map M.C.hd/\(∀p∈M.kQ now aI,M.has p)/\(M.kQ now aI).Nodup:=by
 obtain⟨e1,e2⟩:=RA O (l:=pF (iE M.C M M.Q.flatten) now aI) λh hh=>YM hh;have nh:=aeL O now aI;have e3:=aeK O td now aI;unfold Mo.kQ;generalize pF (iE M.C M M.Q.flatten) now aI=L at*;refine⟨e3.trans e1.symm,e2, ?_⟩;rw[<-e1]at nh;exact Qs nh
theorem SN (wy:pO)(z:Ly)(M:Mo)(now aI:Int):aO aaO 75 [CM z.y.wh,CO CN now,CO CN aI] (λ_=>True) [SH z M]
  (λv H=>∃a c,v= .slice a (M.kQ now aI).length c/\(∀p∈M.kQ now aI,M.has p)/\(M.kQ now aI).Nodup/\H= [own a c 104 1 (CT ((M.kQ now aI).map M.C.hd)),SH z M]):=
 dH λB O=>λF w _ s=>by
  obtain⟨k,hk,_⟩:=(s.sub λk x=>(fD.out (.there (.there (.there (.there (.there (.there (.there .here))))))) k x)).get;obtain⟨y,N,p,W,_⟩:=abF ⟨k,hk,Le.refl _⟩;have td:(B.E.map En.tu).Nodup:=(p.map En.tu).nodup_iff.1 W.td;obtain⟨e1,e2,e3⟩:=O.due td now aI;have h:=((Y6 wy z.y.wh B.E M.tn now aI).fr (H:=dM z B M++ []) (R:=dM z B M) (lD [] _) (λk ao=>ao.nth 7 rfl)) F w trivial s;refine h.mono ?_;rintro e w' ⟨v,H',he,⟨H0,⟨a,c,rfl,rfl⟩,rfl⟩,st⟩;refine⟨_,_,he,⟨a,c,by rw[e1,adr],e2,e3,rfl⟩, ?_⟩;rw[<-e1];exact st.sub λk x=>aK (λk x=>aB O (H:= []) k (by rw[afs];exact x)) x
theorem bL.cw{B:Bx}{M:Mo}(O:bL B M){y:Cw}(X:dh B.C.ae.length M.Q y):bL B {M with x:=y}:=
 ⟨O.c,O.k,O.t,O.ty,O.o,X,O.mq,O.ck,O.al,O.lv,O.ho,O.it,O.e,O.st,O.nb,O.mg,O.mo,O.bt,O.un,O.on,O.go,O.wn,O.cf,O.n,O.lg⟩
def Mo.eR (M:Mo):Nat:=M.C.ae.length
theorem bL.eR{B:Bx}{M:Mo}(O:bL B M):B.C.ae.length=M.eR:=by rw[O.c];rfl
theorem Lv (z:Ly)(M:Mo):aO aaO 77 [CM z.y.cr] (λ_=>True) [SH z M]
  (λv H=>∃r x,v= .bool r/\M.x.find M.eR M.Q=(r,x)/\H= [SH z {M with x:=x}]/\(r=true->∃p,x.nx=some p/\M.has p)):=
 dH λB O=>by
  have h:=(Vh z.y.cr z.y.q z.y.wh z.y.b z.qb (aL z.s) (aY z.s) B.C O.k M.Q O.o M.x O.x).fr (H:=dM z B M++ []) (R:= [Cl z.y.b B.C,af z.y.t 154 (fk z.y.b B.W B.ty),af B.ty.nk 149 (aM (aD B.W.nb)),jH B.ty.ok 149 (aM (aD B.W.ob)),af z.y.q 182 (fC z.y.b z.qb B.C.ae.length),af z.qb 333 (M.Q.flatMap (cV B.C)),Wl z.y.wh B.E M.tn,fm z.s z.y (fb M.v),
   kO z.y.ck M.k,jb z.y.lu z.y.b z.y.q z.hot z.warm,iT z.y.mo z.y.b z.ub (aL z.s) (aY z.s) (bI z.s) M.m,kL z.ub M.m,jJ M]) (.cons (.there (.there (.there (.there (.there (.there .here)))))) .nil) (λk ao=>⟨ao.nth 4 rfl,ao.nth 5 rfl,trivial⟩)
  refine h.out ?_;rintro v H' ⟨H0,⟨r,x,rfl,rfl,e,X,hr⟩,rfl⟩;rw[O.eR]at e;refine⟨_,⟨r,x,rfl,e,rfl,λh=> ?_⟩, ?_⟩
  ·cases hx:x.nx with
   |none=>exact absurd hx (hr h)
   |some p=>exact⟨p,rfl,_,(X.nx p hx).1⟩
  refine λk s=>aB (O.cw X) (H:= []) k ?_
  revert s
  revert k
  simp only[o8,cap,afs];unfold dM;exact Eh
theorem Lu (z:Ly)(M:Mo)(p:Nat)(hp:M.x.nx=some p):aO aaO 78 [CM z.y.cr] (λ_=>True) [SH z M]
  (λv H=>v=CO CJ (M.C.hd p)/\H= [SH z {M with x:=M.x.pass M.Q}]):=
 dH λB O=>by
  have h:=(ER z.y.cr z.y.q z.y.wh B.C.ae.length z.y.b z.qb (aL z.s) (aY z.s) B.C O.k M.Q O.o M.x O.x p hp).fr (H:=dM z B M++ []) (R:= [Cl z.y.b B.C,af z.y.t 154 (fk z.y.b B.W B.ty),af B.ty.nk 149 (aM (aD B.W.nb)),jH B.ty.ok 149 (aM (aD B.W.ob)),af z.y.q 182 (fC z.y.b z.qb B.C.ae.length),af z.qb 333 (M.Q.flatMap (cV B.C)),Wl z.y.wh B.E M.tn,fm z.s z.y (fb M.v),
   kO z.y.ck M.k,jb z.y.lu z.y.b z.y.q z.hot z.warm,iT z.y.mo z.y.b z.ub (aL z.s) (aY z.s) (bI z.s) M.m,kL z.ub M.m,jJ M]) (.cons (.there (.there (.there (.there (.there (.there .here)))))) .nil) (λk ao=>⟨ao.nth 0 rfl,ao.nth 4 rfl,ao.nth 5 rfl,trivial⟩)
  rw[O.hd]at h;refine h.out ?_;rintro v H' ⟨H0,⟨rfl,rfl⟩,rfl⟩;refine⟨_,⟨rfl,rfl⟩,λk s=>aB (O.cw O.x.pass) (H:= []) k ?_⟩
  revert s
  revert k
  simp only[o8,cap,afs];unfold dM;exact Eh
theorem cF{n:Nat}{ds:List Deferred}{F:dC}{K:Act->World->Prop}{σ:aZ}{z:Ly}{M:Mo}{H:List aa}(h:∀B,bL B M->G n ds F K σ (dM z B M++H)):G n ds F K σ (SH z M::H):=
 ag1 λB=>GO λO=>mP (h B O)
theorem DA{n:Nat}{ds:List Deferred}{F:dC}{K:Act->World->Prop}{σ:aZ}{z:Ly}{B:Bx}{M:Mo}{H:List aa}(O:bL B M)(h:G n ds F K σ (SH z M::H)):G n ds F K σ (dM z B M++H):=
 au (aB O) h
def Mo.look (M:Mo)(p:Nat):Mo:=if M.cn p≠0 then M.ca p else M
theorem Ef (b6 lb l:Nat)(hl:l<4611686018427387904):FnD aaO 117 [CM b6] (λ_=>True) [af b6 140 [CM lb],af lb 3 [CO CN l]]
  (λv H=>v= .tuple #[]/\H= [af lb 3 [CO CN (l+1:Nat)]]):=by
 refine L7 (CF (n:=117)) func117 rfl ntmps117 rfl ?_;intro F _;refine bR ?_;refine aF ?_;refine jW [af lb 3 [CO CN (l+1:Nat)]] results117 ?_;exact⟨rfl,rfl⟩
theorem JH (z:Ly)(M:Mo)(p:Nat)(hp:M.has p)(lb tb l t:Nat)(hl:l<4611686018427387904)(ht:t<4611686018427387904):
  aO aaO 76 [CM z.y.cr,CO CJ (M.C.hd p),CM lb,CM tb] (λ_=>True) [SH z M,af lb 3 [CO CN l],af tb 3 [CO CN t]]
   (λv H=>v= .tuple #[]/\∃t':Nat,t'<=t+1/\H= [SH z (M.look p),af lb 3 [CO CN (l+1:Nat)],af tb 3 [CO CN t']]):=by
 have dead:=uT z M p hp;have ca:=jR z M p hp;refine Ue func76 rfl ntmps76 rfl ?_;intro F _;refine av ?_;refine Lp (oB λb1=> ?_);refine bA ?_;refine Li Mf ?_;refine Lp (oDv ?_);refine av ?_;refine Hh (H':= [SH z M,af b1 140 [CM lb],af lb 3 [CO CN l],af tb 3 [CO CN t]]) ?_;refine cF λB O=> ?_;unfold dM gh pB;simp only[o8,cap];refine bE ?_;refine DA (z:=z) (B:=B) (M:=M) (H:= [af b1 140 [CM lb],af lb 3 [CO CN l],af tb 3 [CO CN t]]) O ?_;refine av ?_;refine Lp (Y9 (CF (n:=48)) rfl rfl rfl dead (.cons .here .nil) (λ_ le _=>trivial) λv H' hr=> ?_);obtain⟨rfl,rfl⟩:=hr;simp only[o8,cap];refine av ?_;refine aE rfl ?_ ?_
 ·intro o9
  replace o9:=aS o9;have hlk:M.look p=M.ca p:=by unfold Mo.look;rw[if_pos (by simpa using o9)]
  refine cF λB O=> ?_;unfold dM gh pB;simp only[o8,cap];refine bE ?_;refine DA (z:=z) (B:=B) (M:=M) (H:= [af b1 140 [CM lb],af lb 3 [CO CN l],af tb 3 [CO CN t]]) O ?_;refine av ?_;refine Lp (Y9 (CF (n:=85)) rfl rfl rfl ca (.cons .here .nil) (λ_ le _=>trivial) λv H' hr=> ?_);obtain⟨rfl,rfl⟩:=hr;simp only[o8,cap];refine dm ?_;refine aF ?_;refine ahb [SH z (M.look p),af lb 3 [CO CN (l+1:Nat)],af tb 3 [CO CN (t+1:Nat)]] results76 (Ef b1 lb l hl) (.cons (.there .here) (.cons (.there .here) .nil)) CI ?_;rintro v H' ⟨rfl,rfl⟩;refine⟨⟨rfl,t+1,aa0 _,rfl⟩, ?_⟩;rw[hlk];exact Eh
 intro o9;replace o9:=aS o9;have hlk:M.look p=M:=by unfold Mo.look;rw[if_neg (by simpa using o9)]
 refine av ?_;refine ahb [SH z (M.look p),af lb 3 [CO CN (l+1:Nat)],af tb 3 [CO CN t]] results76 (Ef b1 lb l hl) (.cons (.there .here) (.cons (.there .here) .nil)) CI ?_;rintro v H' ⟨rfl,rfl⟩;refine⟨⟨rfl,t,by omega,rfl⟩, ?_⟩;rw[hlk];exact Eh
theorem PL{n:Nat}{ds:List Deferred}{F:dC}{K:Act->World->Prop}{σ:aZ}{z:Ly}{M:Mo}{H:List aa}(h:∀B,bL B M->G n ds F K σ (SH z M::H)):G n ds F K σ (SH z M::H):=
 cF λB O=>DA O (h B O)
theorem N5{B:Bx}{M:Mo}(O:bL B M){p q:Nat}(hp:M.has p)(hq:M.has q)(ne:q≠p):(M.ca p).has q/\(M.ca p).C.hd q=M.C.hd q:=by
 obtain⟨i,hi⟩:=hq;refine⟨⟨i, ?_⟩, ?_⟩
 ·show q∈ql (iG M.Q p) i
  rw[jq];exact(ajh ne).2 hi
 have h:=((jB O.k (O.sN ((O.al p).2 hp))).lv q ne (O.sN ((O.al q).2 ⟨i,hi⟩))).2.1;rw[O.hd]at h;rw[<-h];show(M.C.bq p).hd q=(B.C.bq p).hd q;rw[O.c];rfl
theorem LU{B:Bx}{M:Mo}(O:bL B M){p q:Nat}(hp:M.has p)(hq:M.has q)(ne:q≠p):(M.look p).has q/\(M.look p).C.hd q=M.C.hd q:=by
 unfold Mo.look
 split
 ·exact N5 O hp hq ne
 exact⟨hq,rfl⟩
def Mo.cu:Nat->Mo->Nat×Mo
 |0,M=>(0,M)
 |f+1,M=>match M.x.find M.eR M.Q with
  |(true,x)=>(match x.nx with
   |some p=>(((({M with x:=x.pass M.Q}:Mo).look p).cu f).1+1,((({M with x:=x.pass M.Q}:Mo).look p).cu f).2)
   |none=>(0,{M with x:=x}))
  |(false,x)=>(0,{M with x:=x})
theorem qU{M:Mo}{f:Nat}{x:Cw}(h:M.x.find M.eR M.Q=(false,x)):M.cu (f+1)=(0,{M with x:=x}):=by
 unfold Mo.cu;rw[h]
theorem qT{M:Mo}{f p:Nat}{x:Cw}(h:M.x.find M.eR M.Q=(true,x))(hp:x.nx=some p):M.cu (f+1)=(((({M with x:=x.pass M.Q}:Mo).look p).cu f).1+1,((({M with x:=x.pass M.Q}:Mo).look p).cu f).2):=by
 conv=>lhs;unfold Mo.cu
 rw[h];dsimp only;rw[hp]
noncomputable def Mo.so (M:Mo)(now m:Int):Nat×Mo:=((M.kQ now m).length+(((M.kQ now m).foldl Mo.look M).cu (m.toNat-(M.kQ now m).length)).1,(((M.kQ now m).foldl Mo.look M).cu (m.toNat-(M.kQ now m).length)).2)
noncomputable def Mo.cN (M:Mo)(now aI:Int):Nat×Mo:=if min aI 1048576<1 then(0,M)else M.so now (min aI 1048576)
theorem U8 (M:Mo)(now m:Int):(M.kQ now m).length<=m.toNat:=by
 unfold Mo.kQ pF;rw[adr,adr,List.length_take];omega
theorem adp (l:List Nat)(k:Nat)(h:k<l.length):(CT l)[k]?=some (CO CJ (l[k])):=by
 unfold CT;rw[aa6,aaQ h];rfl
theorem Yu (l:List Nat):(CT l).length=l.length:=adr _
theorem EP (wy:pO)(z:Ly)(M:Mo)(now aI:Int):
  aO aaO 37 [CM z.y.cr,CO CN now,CO CN aI] (λ_=>True) [SH z M]
   (λv H=>∃n t M',M.cN now aI=(n,M')/\v= .tuple #[CO CN n,CO CN t]/\H= [SH z M']):=by
 have due:=SN wy z M now (min aI 1048576);have Od:=U8 M now (min aI 1048576);have FV:M.cN now aI=if min aI 1048576<1 then(0,M)else M.so now (min aI 1048576):=rfl
 have hmle:min aI 1048576<=1048576:=akn _ _;refine ag func37 rfl ntmps37 rfl ?_;intro F _;refine av ?_;refine Lp (oA abe λb1=> ?_);refine Lp (oA abe λb2=> ?_);refine bz ?_;refine Li Mi ?_;refine bA ?_;refine aw ?_;refine ay (t:=2) (v':=(CO CN (min aI 1048576))) rfl (by rfl) ?_;generalize min aI 1048576=m at*;refine bm ?_;by_cases h1:m<1
 ·refine eU ?_ (e:=by exact decide_eq_true h1)
  refine bG ?_;refine abG [SH z M] bC bC results37 ?_;exact⟨0,0,M,by rw[FV,if_pos h1],rfl,rfl⟩
 rw[if_neg h1]at FV;refine cO ?_ (e:=by exact decide_eq_false h1);refine bA ?_;refine aw ?_;refine Hh (H':= [SH z M,af b1 3 [CO CN 0],af b2 3 [CO CN 0]]) ?_;refine cF λB O=> ?_;unfold dM gh pB;simp only[o8,cap];refine bE ?_;refine DA (z:=z) (B:=B) (M:=M) (H:= [af b1 3 [CO CN 0],af b2 3 [CO CN 0]]) O ?_;refine bA ?_;refine Lp (oC CF rfl rfl (due) (.cons .here .nil) CI ?_);rintro v H' ⟨sa,sc,rfl,hhas,yR,rfl⟩;refine aX ?_;unfold Mo.so at FV;generalize M.kQ now m=D at*;have wB:(CT (D.map M.C.hd)).length=D.length:=by rw[Yu,adr]
 have Wt:m.toNat<=1048576:=by omega
 refine bm ?_;refine Lo (ι:=Nat×Nat) [23,24,25,9,26,27,28,29,22] (λs=>(s.1<=D.length/\s.2<=s.1)/\∀q∈D.drop s.1,((D.take s.1).foldl Mo.look M).has q/\((D.take s.1).foldl Mo.look M).C.hd q=M.C.hd q) (λs=> [(22,CO CN s.1)]) (λs=> [SH z ((D.take s.1).foldl Mo.look M),own sa sc 104 1 (CT (D.map M.C.hd)),af b1 3 [CO CN s.1],af b2 3 [CO CN s.2]]) (λs=>D.length-s.1) ((0,0)) ⟨⟨afk _,aa0 _⟩,λq hq=>⟨hhas q hq,rfl⟩⟩ ?_;rintro⟨k,t⟩ hI;dsimp only at hI⊢;obtain⟨⟨hk,CR⟩,PF⟩:=hI;by_cases cL:k<D.length
 ·have w7:(CT (D.map M.C.hd))[k]?=some (CO CJ (M.C.hd D[k])):=by rw[adp _ _ (by rw[adr];exact cL),List.getElem_map]
  have hdr:D.drop k=D[k]::D.drop (k+1):=List.drop_eq_getElem_cons cL;rw[hdr]at PF;obtain⟨vZ,dE⟩:=PF _ aaV;have Z3:(D.take (k+1)).foldl Mo.look M=((D.take k).foldl Mo.look M).look D[k]:=by
   rw[List.take_add_one,aaQ cL,List.foldl_append];rfl
  have hnd2:∀q∈D.drop (k+1),q≠D[k]:=λq hq e=>by
   have:=yR.sublist (List.drop_sublist k D);rw[hdr,aa3]at this;exact this.1 (e▸hq)
  have lk:=λlb tb=>JH z ((D.take k).foldl Mo.look M) D[k] vZ lb tb k t (by omega) (by omega);rw[dE]at lk;refine PL λB2 O2=> ?_;refine kT (gp (.there .here) (λ_ o=>kD o (by omega))) λOf=> ?_;refine bz ?_;refine aw ?_;refine eU ?_;refine bE ?_;refine Li (Ix Qf) ?_;refine bG ?_;refine Lp (oC CF rfl rfl (lk _ _) (.cons .here (.cons (.there .here) (.cons (.there .here) .nil))) CI ?_);rintro v H' ⟨rfl,t2,qq,rfl⟩;refine aX ?_;refine Hh (H':= [SH z (((D.take k).foldl Mo.look M).look D[k]),own sa sc 104 1 (CT (D.map M.C.hd)),af b1 3 [CO CN (k+1:Nat)],af b2 3 [CO CN t2]]) ?_;refine bG ?_;refine aF ?_;rw[<-Z3];refine Ro ((k+1,t2)) (⟨⟨cL,(by dsimp only;omega)⟩,λq hq=>(by have ne:=hnd2 q hq;obtain⟨g1,g2⟩:=PF q (aaW _ hq);obtain⟨g3,g4⟩:=LU O2 vZ g1 ne;rw[Z3];exact⟨g3,g4.trans g2⟩)⟩) ((by dsimp only;omega))
 obtain rfl:k=D.length:=by omega
 rw[List.take_length];refine bz ?_;refine aw ?_;refine cO ?_;refine bR ?_;generalize hN0:D.foldl Mo.look M=N0 at*;refine Lo (ι:=Mo×Nat×Nat) [30,31,32,33,34,35,36,37,38,39,40] (λs=>(D.length<=s.2.1/\s.2.1<=m.toNat/\s.2.2<=s.2.1)/\N0.cu (m.toNat-D.length)=(s.2.1-D.length+(s.1.cu (m.toNat-s.2.1)).1,(s.1.cu (m.toNat-s.2.1)).2)) (λs=> []) (λs=> [SH z s.1,af b1 3 [CO CN s.2.1],af b2 3 [CO CN s.2.2]]) (λs=>m.toNat-s.2.1) ((N0,D.length,t)) ⟨⟨aa0 _,Od,CR⟩,(by dsimp only;rw[Nat.sub_self,abd])⟩ ?_;rintro⟨N,l,t⟩ hI;dsimp only at hI⊢;obtain⟨⟨i1,i2,i3⟩,i4⟩:=hI;refine bG ?_;by_cases hlm:(l:Int)<m
 ·obtain⟨f,hf⟩:∃f,m.toNat-l=f+1:=⟨m.toNat-l-1,by omega⟩
  rw[hf]at i4;refine zt 33 ?_ (e:=by exact decide_eq_true hlm);refine av ?_;refine Lp (oC CF rfl rfl (Lv z N) (.cons .here .nil) CI ?_);rintro v H' ⟨r,x,rfl,Z4,rfl,hr⟩;refine aX ?_;rcases r with _|_
  ·refine Li Pt ?_
   refine fq ?_;refine abG [SH z {N with x:=x}] bC bC results37 ?_;refine⟨l,t,{N with x:=x}, ?_,rfl,rfl⟩;rw[FV,i4,qU Z4];exact Prod.ext (by dsimp only;omega) rfl
  obtain⟨p,hpx,hph⟩:=hr rfl;rw[qT Z4 hpx]at i4;dsimp only at i4;refine cA ?_;refine zl CF (Lu z {N with x:=x} p hpx) (.cons .here .nil) CI ?_;have lk:=λlb tb=>JH z {N with x:=x.pass N.Q} p hph lb tb l t (by omega) (by omega);refine Lp (oC CF rfl rfl (lk _ _) (.cons .here (.cons .here (.cons .here .nil))) CI ?_);rintro v H' ⟨rfl,t2,qq,rfl⟩;refine aX ?_;refine bA ?_;refine Ro ((({N with x:=x.pass N.Q}:Mo).look p,l+1,t2)) (⟨⟨(by dsimp only;omega),(by dsimp only;omega),(by dsimp only;omega)⟩,(by dsimp only;rw[i4,show m.toNat-(l+1)=f by omega];exact Prod.ext (by dsimp only;omega) rfl)⟩) ((by dsimp only;omega))
 have agU:m.toNat-l=0:=by omega
 rw[agU]at i4;refine zf 33 ?_ (e:=by exact decide_eq_false hlm);refine ri ?_;refine abG [SH z N] bC bC results37 ?_;refine⟨l,t,N, ?_,rfl,rfl⟩;rw[FV,i4];exact Prod.ext (by show D.length+(l-D.length+0)=l;omega) rfl
theorem bL.cls{B:Bx}{M:Mo}(O:bL B M){D N:Cs}{ho':Option Nat}{m':iz}(K2:Ok D)(hN:D=N.wA B.C.A)(S:vv B.C D (λq=>q∈B.W.all))(Oe:D.cfg=B.C.cfg)(lv:∀q,Live D q↔q∈B.W.all\/ho'=some q)(hoo:∀q,ho'=some q->q∉B.W.all)
  (un:m'.un.length=D.ae.length) (on:m'.on=true->m'.pg<D.n/\(D.pg m'.pg).own=true/\(D.pg m'.pg).lv=true/\(D.pg m'.pg).cl=m'.fr) (go:∀i,(D.pg i).lv=true->m'.on=true/\i=m'.pg):
  bL ⟨D,B.W,B.ty,B.E⟩ {M with C:=N,hole:=ho',m:=m'}:=by
 have hA:D.A=B.C.A:=S.a;have hs:D.ae.length=B.C.ae.length:=by rw[S.sz]
 refine⟨?_,K2,S.tb O.t λp h=>h,O.ty,S.qu O.o λi p h=>O.oa h,by show dh D.ae.length _ _;rw[hs];exact O.x,λi p h=>by show dz D.A p<16;rw[hA];exact O.mq i p h,O.ck,O.al,lv,hoo,λp h=>by show mJ D.A p=_;rw[hA];exact O.it p h, ?_,O.st,O.nb,O.mg,O.mo,O.bt,un,on,go,O.wn,by show M.v.c=D.cfg;rw[Oe];exact O.cf,O.n,O.lg⟩
 ·show D=N.wA D.A
  rw[hA];exact hN
 exact O.e.trans (aa1.of_eq (fM λq h=>⟨rfl,rfl,(S.lv q h (O.sN h)).2.1⟩).symm)
theorem bL.FG{B:Bx}{M:Mo}(O:bL B M){r:Nat}(hr:M.hole=some r){A:By}(d:cX B.C B.C.A A (λq _=>q=r)):bL ⟨B.C.wA A,B.W,B.ty,B.E⟩ M:=by
 have K:=O.k;have ne:∀q∈B.W.all,q≠r:=λq h e=>O.ho r hr (e▸h);have r_:=λ(q:Nat) (hq:q∈B.W.all) (o w:Nat) (h2:o+w<=B.C.sz (B.C.cl q))=>lB K d (O.nm hq) h2 (λj _ _ s=>ne q hq s);have n1:∀q∈B.W.all,64<=B.C.sz (B.C.cl q):=λq hq=>((O.nm hq).bn K).2.1;have it_:∀q∈B.W.all,mJ A q=mJ B.C.A q:=λq hq=>vz K d (O.nm hq) (O.t.it q hq) (λj s=>absurd s (ne q hq));have kp:∀q∈B.W.all,Kept B.C A q:=λq hq=>sy K d (O.nm hq) (O.t.it q hq) (λj s=>absurd s (ne q hq));refine⟨?_,K.wA A,agC K O.t kp (λq hq=>r_ q hq 0 4 (by have:=n1 q hq;omega)),O.ty, ?_,O.x, ?_,O.ck,O.al,λq=> ?_,O.ho,λq hq=>(it_ q hq).trans (O.it q hq),O.e,O.st,O.nb,O.mg,O.mo,O.bt,O.un,O.on,O.go,O.wn,O.cf,O.n,O.lg⟩
 ·show B.C.wA A=M.C.wA A
  conv=>lhs;rw[O.c]
  rfl
 ·exact agE O.o (λi q hq=>kp q (O.oa hq)) (λi q hq=>r_ q (O.oa hq) 45 1 (by have:=n1 q (O.oa hq);omega)) (λi q hq=>r_ q (O.oa hq) (4*1) 4 (by have:=n1 q (O.oa hq);omega)) (λi q hq=>r_ q (O.oa hq) (4*2) 4 (by have:=n1 q (O.oa hq);omega))
 ·intro i q hq
  show dz A q<16;rw[show dz A q=dz B.C.A q from congrArg I3.ff (it_ q (O.oa hq))];exact O.mq i q hq
 refine Iff.trans ?_ (O.lv q);exact⟨λh=>⟨⟨h.i,h.own,h.al,h.k⟩,h.tk⟩,λh=>h.wA A⟩
structure Tkn (C:Cs)(c p:Nat)(D:Cs):Prop where
 k:Ok D
 no:¬Live C p
 lv:∀q,Live D q↔Live C q\/q=p
 hd:∀q,Live C q->D.hd q=C.hd q/\D.cl q=C.cl q
 cl:D.cl p=c
 sz:D.ae=C.ae
 n:D.n=C.n
 ps:D.aj=C.aj
 cf:D.cfg=C.cfg
 lf:∀i,(D.pg i).lv=(C.pg i).lv
 pg:∀i,(C.pg i).own=true->(D.pg i).own=true/\(D.pg i).cl=(C.pg i).cl
 dA:cX D C.A D.A (λq _=>q=p)
 nA:∀A,∃A',(C.wA A).eD c=some (p,D.wA A')
theorem Ss{C:Cs}(K:Ok C){c p:Nat}(h:(C.rw c).free.getLast?=some p)(j:Nat):(C.iJ c p).pg j=if j=C.pn p then{C.pg (C.pn p)with tk:=(C.pg (C.pn p)).tk.set (C.ix p) true,held:=(C.pg (C.pn p)).held+1}else C.pg j:=by
 obtain⟨_,_,F⟩:=xN K h;exact mX (by rw[K.pl];exact F.i) j
theorem ZD{C:Cs}(K:Ok C){c p:Nat}(h:(C.rw c).free.getLast?=some p):Tkn C c p (C.iJ c p):=by
 obtain⟨K2,S,F⟩:=xN K h;have iD:=Ss K h;have e1:∀q,C.pn q=C.pn p->(C.iJ c p).pg (C.pn q)={C.pg (C.pn p)with tk:=(C.pg (C.pn p)).tk.set (C.ix p) true,held:=(C.pg (C.pn p)).held+1}:=λq e=>by rw[iD,if_pos e]
 have e2:∀q,C.pn q≠C.pn p->(C.iJ c p).pg (C.pn q)=C.pg (C.pn q):=λq e=>by rw[iD,if_neg e]
 have mD:¬Live C p:=λL=>by
  have a:=F.tk;have b:=L.tk;rw[a]at b;cases b
 have cL:=(aaR.1 F.tk).1;have f1:=K.toFix.p1;refine⟨K2,mD,λq=> ?_,λq L=> ?_,by rw[S.cl];exact F.cl,S.ae,S.n,S.aj,rfl,λi=> ?_,λi ho=> ?_, ?_,λA=> ?_⟩
 ·constructor
  ·intro L
   have a:=S.at.1 L.toAt;have t:=L.tk;rw[S.pn,S.ix]at t;by_cases e:C.pn q=C.pn p
   ·by_cases g:q=p
    ·exact .inr g
    rw[e1 q e]at t;change((C.pg (C.pn p)).tk.set (C.ix p) true)[C.ix q]?=some true at t;rw[afA (λz=>xm K F.toAt a e g z.symm),<-e]at t;exact .inl ⟨a,t⟩
   rw[e2 q e]at t;exact .inl ⟨a,t⟩
  rintro(L|rfl)
  ·refine⟨S.at.2 L.toAt, ?_⟩
   rw[S.pn,S.ix];by_cases e:C.pn q=C.pn p
   ·have g:q≠p:=λg=>mD (g▸L)
    rw[e1 q e];show((C.pg (C.pn p)).tk.set (C.ix p) true)[C.ix q]?=some true;rw[afA (λz=>xm K F.toAt L.toAt e g z.symm),<-e];exact L.tk
   rw[e2 q e];exact L.tk
  refine⟨S.at.2 F.toAt, ?_⟩;rw[S.pn,S.ix,e1 q rfl];show((C.pg (C.pn q)).tk.set (C.ix q) true)[C.ix q]?=some true;rw[List.getElem?_set_self cL]
 ·refine⟨?_,S.cl q⟩
  unfold Cs.hd Cs.gen;rw[S.pn,S.ix];by_cases e:C.pn q=C.pn p
  ·rw[e1 q e,e]
  rw[e2 q e]
 ·rw[iD]
  by_cases e:i=C.pn p
  ·rw[if_pos e,e]
  rw[if_neg e]
 ·rw[iD]
  by_cases e:i=C.pn p
  ·rw[if_pos e,e];rw[e]at ho;exact⟨ho,rfl⟩
  rw[if_neg e];exact⟨ho,rfl⟩
 ·intro i hi
  have hr:p<=i/\i<p+56:=by
   refine aa2 λg=>hi ?_;show wr (lay C.A p (aaS 56 0)) (p+12) 4 (C.gen p) i=C.A i;unfold wr;rw[gI _ _ _ _ (by rw[nc];omega),gI _ _ _ _ (by rw[List.length_replicate];omega)]
  have:=((S.at.2 F.toAt).bn K2).2.1;exact⟨p,i-p,S.at.2 F.toAt,by omega,rfl,by omega⟩
 refine⟨((C.wA A).iJ c p).A, ?_⟩;have:(C.wA A).eD c=some (p,(C.wA A).iJ c p):=by
  unfold Cs.eD;rw[show((C.wA A).rw c).free.getLast?=some p from h]
 rw[this];rfl
theorem R7{C:Cs}(K:Ok C){i c:Nat}(hi:i<C.n)(j:Nat):(C.ct i c).pg j=if j=i then C.fF i c else C.pg j:=mX (by rw[K.pl];exact hi) j
theorem ahz{C:Cs}(K:Ok C){i c p:Nat}(hi:i<C.n)(hG:c<C.ae.length)(ho:(C.pg i).own=false)(hf:C.gA=some i)(he:(C.rw c).free.getLast?=none)(h:((C.ct i c).rw c).free.getLast?=some p):Tkn C c p ((C.ct i c).iJ c p):=by
 have KW:=zY K hi hG ho;have iD:=R7 K (c:=c) hi;have X:=ZD KW h;have P:lA C (C.pg i):=K.pg _ (ey (by rw[K.pl];exact hi));have jV:(C.pg i).lv=false:=(P.no ho).2.1;have zg:∀q,At C q->C.pn q≠i:=λq L e=>by
  have:=L.own;rw[e,ho]at this;cases this
 have same:∀q,C.pn q≠i->(C.ct i c).pg ((C.ct i c).pn q)=C.pg (C.pn q):=λq e=>by
  rw[show(C.ct i c).pn q=C.pn q from rfl,iD,if_neg e]
 have Iv:∀q,C.pn q≠i->(C.ct i c).cl q=C.cl q:=λq e=>by unfold Cs.cl;rw[same q e]
 have Fw:∀q,C.pn q≠i->(C.ct i c).ix q=C.ix q:=λq e=>by unfold Cs.ix;rw[Iv q e];rfl
 have wl:∀q,Live (C.ct i c) q↔Live C q:=λq=>by
  constructor
  ·intro L
   have e:C.pn q≠i:=λe=>by
    have t:=L.tk;rw[show(C.ct i c).pn q=C.pn q from rfl,iD,if_pos e]at t;change(aaS (C.aj/C.sz c) false)[(C.ct i c).ix q]?=some true at t;obtain⟨hh,t2⟩:=aaR.1 t;rw[List.getElem_replicate]at t2;cases t2
   refine⟨⟨L.i,by have:=L.own;rw[same q e]at this;exact this,by have:=L.al;rw[Iv q e]at this;exact this,by have:=L.k;rw[same q e,Fw q e]at this;exact this⟩,by have:=L.tk;rw[same q e,Fw q e]at this;exact this⟩
  intro L;have e:=zg q L.toAt;exact⟨⟨L.i,by rw[same q e];exact L.own,by rw[Iv q e];exact L.al,by rw[same q e,Fw q e];exact L.k⟩,by rw[same q e,Fw q e];exact L.tk⟩
 refine⟨X.k,λL=>X.no ((wl p).2 L),λq=>by rw[X.lv,wl],λq L=> ?_,X.cl,X.sz,X.n,X.ps,X.cf,λj=> ?_,λj hj=> ?_,X.dA,λA=> ?_⟩
 ·have e:=zg q L.toAt
  obtain⟨a,b⟩:=X.hd q ((wl q).2 L);rw[a,b,Iv q e];refine⟨?_,rfl⟩;unfold Cs.hd Cs.gen;rw[same q e,Fw q e]
 ·rw[X.lf,iD]
  by_cases e:j=i
  ·rw[if_pos e,e];rfl
  rw[if_neg e]
 ·have e:j≠i:=λe=>by rw[e,ho]at hj;cases hj
  obtain⟨a,b⟩:=X.pg j (by rw[iD,if_neg e];exact hj);rw[a,b,iD,if_neg e];exact⟨rfl,rfl⟩
 refine⟨(((C.wA A).ct i c).iJ c p).A, ?_⟩;have:(C.wA A).eD c=some (p,((C.wA A).ct i c).iJ c p):=by
  unfold Cs.eD;rw[show((C.wA A).rw c).free.getLast?=none from he];dsimp only;rw[show(C.wA A).gA=some i from hf];dsimp only;rw[show(((C.wA A).ct i c).rw c).free.getLast?=some p from h]
 rw[this];rfl
theorem Fj{C:Cs}{i:Nat}(K:Ok C)(h:C.gA=some i):i<C.n/\(C.pg i).own=false:=by
 unfold Cs.gA at h;rw[abc]at h;obtain⟨h1,h2,_⟩:=h;refine⟨by rw[<-K.pl];exact h1, ?_⟩;have e:C.pg i=C.bc[i]:=by unfold Cs.pg;rw[aaP,aaQ h1];rfl
 rw[e]
 simpa using h2
theorem uP{C:Cs}(K:Ok C){c p:Nat}{D:Cs}(hG:c<C.ae.length)(h:C.eD c=some (p,D)):Tkn C c p D:=by
 unfold Cs.eD at h;cases hf:(C.rw c).free.getLast? with
 |some q=>
  rw[hf]at h;cases h;exact ZD K hf
 |none=>
  rw[hf]at h;dsimp only at h;cases hp:C.gA with
  |none=>rw[hp]at h;cases h
  |some i=>
   rw[hp]at h;dsimp only at h;obtain⟨h1,h2⟩:=Fj K hp;cases hg:((C.ct i c).rw c).free.getLast? with
   |none=>rw[hg]at h;cases h
   |some q=>
    rw[hg]at h;cases h;exact ahz K h1 hG h2 hp hf hg
theorem Su{C:Cs}(A:By){c:Nat}(h:C.eD c=none):(C.wA A).eD c=none:=by
 unfold Cs.eD at*;rw[show((C.wA A).rw c).free.getLast?=(C.rw c).free.getLast? from rfl];cases hf:(C.rw c).free.getLast? with
 |some q=>rw[hf]at h;cases h
 |none=>
  rw[hf]at h;dsimp only at h⊢;rw[show(C.wA A).gA=C.gA from rfl];cases hp:C.gA with
  |none=>rfl
  |some i=>
   rw[hp]at h;dsimp only at h⊢;rw[show(((C.wA A).ct i c).rw c).free.getLast?=((C.ct i c).rw c).free.getLast? from rfl];cases hg:((C.ct i c).rw c).free.getLast? with
   |none=>rfl
   |some q=>rw[hg]at h;cases h
def Mo.take (M:Mo)(c:Nat):Option (Nat×Mo):=match M.C.eD c with
 |some (p,D)=>some (p,{M with C:=D,hole:=some p})
 |none=>none
theorem bL.take{B:Bx}{M:Mo}(O:bL B M)(hh:M.hole=none){c p:Nat}{D:Cs}(hG:c<B.C.ae.length)(h:B.C.eD c=some (p,D)):∃N,M.take c=some (p,N)/\N.C.hd p=D.hd p/\N.hole=some p/\N={M with C:=N.C,hole:=some p}/\bL ⟨D,B.W,B.ty,B.E⟩ N/\Tkn B.C c p D:=by
 have X:=uP O.k hG h;have hM:∃A',M.C.eD c=some (p,D.wA A'):=by
  obtain⟨A',e⟩:=X.nA M.C.A;rw[O.c]at e;exact⟨A',e⟩
 obtain⟨A',hM⟩:=hM;refine⟨{M with C:=D.wA A',hole:=some p},by unfold Mo.take;rw[hM],rfl,rfl,rfl, ?_,X⟩;have OB:∀q∈B.W.all,q≠p:=λq hq e=>X.no (e▸O.sN hq);have K0:Ok (D.wA B.C.A):=X.k.wA _;have h0:∀q,Live (D.wA B.C.A) q↔Live D q:=λq=>⟨λh=>⟨⟨h.i,h.own,h.al,h.k⟩,h.tk⟩,λh=>h.wA _⟩;have S:vv B.C (D.wA B.C.A) (λq=>q∈B.W.all):=⟨rfl,X.sz,λq _ L=>⟨(h0 q).2 ((X.lv q).2 (.inl L)),(X.hd q L).1,(X.hd q L).2⟩⟩;have O1:=O.cls (D:=D.wA B.C.A) (N:=D.wA A') (ho':=some p) (m':=M.m) K0 rfl S X.cf (λq=>by
   rw[h0,X.lv,O.lv,hh]
   constructor
   ·rintro((h|h)|h)
    ·exact .inl h
    ·cases h
    exact .inr (by rw[h])
   rintro(h|h)
   ·exact .inl (.inl h)
   exact .inr (Option.some.inj h).symm) (λq e hq=>OB q hq (Option.some.inj e).symm) (by rw[show(D.wA B.C.A).ae=B.C.ae from X.sz];exact O.un)
  (λe=>by
   obtain⟨a,b,c,d⟩:=O.on e;obtain⟨e1,e2⟩:=X.pg _ b;exact⟨by rw[show(D.wA B.C.A).n=B.C.n from X.n];exact a,e1,(X.lf _).trans c,e2.trans d⟩) (λi e=>O.go i ((X.lf i).symm.trans e))
 have O2:=O1.FG (r:=p) rfl (A:=D.A) (λi hi=>by
  obtain⟨q,o,q1,q2,q3,q4⟩:=X.dA i hi;exact⟨q,o,q1.wA _,q2,q3,q4⟩)
 exact O2
theorem bL.rK{B:Bx}{M:Mo}(O:bL B M){r:Nat}(hr:M.hole=some r):bL ⟨B.C.bq r,B.W,B.ty,B.E⟩ {M with C:=M.C.bq r,hole:=none}:=by
 have K:=O.k;have L:Live B.C r:=(O.lv r).2 (.inr hr);have ne:∀q∈B.W.all,q≠r:=λq h e=>O.ho r hr (e▸h);have G:=jB K L;have S:vv B.C (B.C.bq r) (λq=>q∈B.W.all):=⟨G.a,G.sz,λq h=>G.lv q (ne q h)⟩;refine O.cls (m':=M.m) (gY K L).1 (by(conv=>lhs;rw[O.c]);rfl) S rfl (λq=> ?_) (λq e=>by cases e) (by rw[G.sz];exact O.un) (λe=> ?_) (λi e=> ?_)
 ·rw[nV K L,O.lv,hr]
  constructor
  ·rintro⟨h|h,g⟩
   ·exact .inl h
   exact absurd (Option.some.inj h).symm g
  rintro(h|h)
  ·exact⟨.inl h,ne q h⟩
  cases h
 ·obtain⟨e1,e2,e3⟩:=oH K L M.m.pg
  rw[e1,e2,e3];exact O.on e
 rw[(oH K L i).2.1]at e;exact O.go i e
theorem oF (A:By)(p c:Nat)(k v:List UInt8)(fl exp tch tok st mk o w:Nat)(h:o+w<=48)(hk:k.length<256):rd (lN A p c k v fl exp tch tok st mk) (p+o) w=rd (IC A p c k.length fl exp tch tok st mk) (p+o) w:=by
 unfold lN eT;rw[eM,eM,aT,eM]<;>omega
theorem Cn (A:By)(p c:Nat)(k v:List UInt8)(fl exp tch tok st mk:Nat)(hk:k.length<256):kl (lN A p c k v fl exp tch tok st mk) p=k.length:=by
 unfold kl;rw[oF _ _ _ _ _ _ _ _ _ _ _ _ _ (by omega) hk];unfold IC;rw[aT,aT,aT,aT,dy]<;>omega
theorem JO (A:By)(p c:Nat)(k v:List UInt8)(fl exp tch tok st mk:Nat)(hk:k.length<256)(h:exp<256^8):uv (lN A p c k v fl exp tch tok st mk) p=exp:=by
 unfold uv;rw[oF _ _ _ _ _ _ _ _ _ _ _ _ _ (by omega) hk];unfold IC;rw[aT,aT,aT,aT,aT,aT,aT,aT,dy,afE h]<;>omega
theorem Eo (A:By)(p c:Nat)(k v:List UInt8)(fl exp tch tok st mk:Nat)(hk:k.length<256)(h:tch<256^8):lL (lN A p c k v fl exp tch tok st mk) p=tch:=by
 unfold lL;rw[oF _ _ _ _ _ _ _ _ _ _ _ _ _ (by omega) hk];unfold IC;rw[aT,aT,aT,aT,aT,aT,aT,dy,afE h]<;>omega
theorem Em (A:By)(p c:Nat)(k v:List UInt8)(fl exp tch tok st mk:Nat)(hk:k.length<256)(h:tok<256^8):rW (lN A p c k v fl exp tch tok st mk) p=tok:=by
 unfold rW;rw[oF _ _ _ _ _ _ _ _ _ _ _ _ _ (by omega) hk];unfold IC;rw[aT,aT,aT,aT,aT,aT,dy,afE h]<;>omega
theorem JN (A:By)(p c:Nat)(k v:List UInt8)(fl exp tch tok st mk:Nat)(hk:k.length<256)(h:fl<256^4):OG (lN A p c k v fl exp tch tok st mk) p=fl:=by
 unfold OG;rw[oF _ _ _ _ _ _ _ _ _ _ _ _ _ (by omega) hk];unfold IC;rw[aT,aT,aT,aT,aT,dy,afE h]<;>omega
theorem JL (A:By)(p c:Nat)(k v:List UInt8)(fl exp tch tok st mk:Nat)(hk:k.length<256)(h:st<256^1):gJ (lN A p c k v fl exp tch tok st mk) p=st:=by
 unfold gJ;rw[oF _ _ _ _ _ _ _ _ _ _ _ _ _ (by omega) hk];unfold IC;rw[aT,aT,aT,dy,afE h]<;>omega
theorem JM (A:By)(p c:Nat)(k v:List UInt8)(fl exp tch tok st mk:Nat)(hk:k.length<256)(h:mk<256^1):dz (lN A p c k v fl exp tch tok st mk) p=mk:=by
 unfold dz;rw[oF _ _ _ _ _ _ _ _ _ _ _ _ _ (by omega) hk];unfold IC;rw[aT,aT,dy,afE h]<;>omega
theorem Co (A:By)(p c:Nat)(k v:List UInt8)(fl exp tch tok st mk:Nat)(hk:k.length<256)(hv:v.length<256^4):vl (lN A p c k v fl exp tch tok st mk) p=v.length/\aP (lN A p c k v fl exp tch tok st mk) p=k/\ke (lN A p c k v fl exp tch tok st mk) p=v:=by
 have e1:=Cn A p c k v fl exp tch tok st mk hk;have e0:=GJ A p c k.length fl exp tch tok st mk k hk;have e2:vl (lN A p c k v fl exp tch tok st mk) p=v.length:=by
  unfold vl lN eT;rw[e0,eM,eM,dy,afE hv]<;>omega
 refine⟨e2, ?_, ?_⟩
 ·unfold aP
  rw[e1];unfold lN eT;rw[e0,fV,fV,sG,lF]<;>omega
 unfold ke;rw[e1,e2];unfold lN eT;rw[e0,fV,lF];omega
theorem QF{C:Cs}{p c:Nat}{k v:List UInt8}{fl exp tch tok st mk:Nat}(L:At C p)(hk:k.length<256)(hf:58+k.length+v.length<=C.sz (C.cl p)):cX C C.A (lN C.A p c k v fl exp tch tok st mk) (λq _=>q=p):=λi hi=>by
 have hr:p<=i/\i<p+(58+k.length+v.length):=by
  refine aa2 λg=>hi ?_;have e0:=GJ C.A p c k.length fl exp tch tok st mk k hk;have w:∀(A:By) (o n x:Nat),o+n<=56->wr A (p+o) n x i=A i:=λA o n x h=>by
   unfold wr;exact gI _ _ _ _ (by rw[nc];omega)
  unfold lN eT;rw[e0,gI,gI,w _ _ _ _ (by omega),gI]
  ·unfold IC
   rw[w _ _ _ _ (by omega),w _ _ _ _ (by omega),w _ _ _ _ (by omega),w _ _ _ _ (by omega),w _ _ _ _ (by omega),w _ _ _ _ (by omega),w _ _ _ _ (by omega),w _ _ _ _ (by omega),w _ _ _ _ (by omega),tQ,tQ,tQ,w _ _ _ _ (by omega),w _ _ _ _ (by omega),w _ _ _ _ (by omega)];rfl
  ·omega
  ·omega
  have:crlf.length=2:=rfl;omega
 exact⟨p,i-p,L,by omega,rfl,by omega⟩
def AS (p r q:Nat):Nat:=if q=p then r else q
def og (Q:List (List Nat))(p r:Nat):List (List Nat):=Q.map λl=>l.map (AS p r)
theorem lZ (Q:List (List Nat))(p r i:Nat):ql (og Q p r) i=(ql Q i).map (AS p r):=by
 unfold og ql;rw[aaP,aaP,aa6];cases Q[i]?<;>rfl
theorem Gt{p r:Nat}:∀{l:List Nat},p∉l->l.map (AS p r)=l
 | [],_=>rfl
 |a::l,h=>by
  rw[aaX,Gt λg=>h (aaW _ g)];unfold AS;rw[if_neg λe:a=p=>h (e▸aaV)]
theorem Jf{p r:Nat}:∀{l:List Nat} {k:Nat},l.Nodup->l[k]?=some p->l.set k r=l.map (AS p r)
 |a::l,0,nd,h=>by
  cases h;rw[List.set_cons_zero,aaX,Gt (aa3.1 nd).1];unfold AS;rw[if_pos rfl]
 |a::l,k+1,nd,h=>by
  have hm:p∈l:=aaT h;rw[List.set_cons_succ,aaX,Jf (aa3.1 nd).2 h]
  congr 1
  unfold AS;rw[if_neg λe:a=p=>(aa3.1 nd).1 (e▸hm)]
theorem Jn{C:Cs}{Q:List (List Nat)}(O:iR C Q){i k p r:Nat}(h:(ql Q i)[k]?=some p):Q.set i ((ql Q i).set k r)=og Q p r:=by
 have hm:=aaT h;have hi:i<Q.length:=by
  refine aa2 λg=> ?_;unfold ql at h;have e0:Q[i]?=none:=aa7 (by omega);rw[aaP,e0]at h;cases h
 refine ajg λj=> ?_;unfold og;rw[agi,aa6];by_cases e:i=j
 ·subst e
  rw[if_pos rfl,if_pos hi,aaQ hi];have e2:ql Q i=Q[i]:=by unfold ql;rw[aaP,aaQ hi];rfl
  rw[Jf (O.nd i) h,e2];rfl
 rw[if_neg e];cases hq:Q[j]? with
 |none=>rfl
 |some l=>
  have e2:ql Q j=l:=by unfold ql;rw[aaP,hq];rfl
  have:p∉l:=λg=>e (Du O hm (by rw[e2];exact g));rw[Option.map_some,Gt this]
def Mo.swap (M:Mo)(p r:Nat):Mo:=
 {M with hole:=some p,Q:=og M.Q p r,it:=λq=>if q=r then M.it p else M.it q,ord:=λq=>if q=r then M.ord p else M.ord q,x:=M.x.cY p r}
theorem bL.swap{B:Bx}{M:Mo}(O:bL B M){p r i k:Nat}(hr:M.hole=some r)(hk:(ql M.Q i)[k]?=some p)(lJ:mJ B.C.A r=M.it p){A A2:By}{V:Tb}{ty:qw}(hV:ty.ok=none->V.ob= [])(T:Hr B.C B.W p r A V)(R:aaK (B.C.wA A) p r A2 (M.Q.set i ((ql M.Q i).set k r)))(I:gO B.C r):
  bL ⟨B.C.wA A2,V,ty,pG B.E (B.C.hd p) (B.C.hd r)⟩ (M.swap p r):=by
 have K:=O.k;have hq:=Jn O.o (r:=r) hk;rw[hq]at R;have hpi:=aaT hk;have hp:p∈B.W.all:=O.oa hpi;have vt:r∉B.W.all:=O.ho r hr;have Iw:r≠p:=λe=>vt (e▸hp);obtain⟨rest,Ou,Vz⟩:=T.pm;have nd1:=aa3.1 (Ou.nodup_iff.1 O.t.nd);have inr:∀q,q∈rest↔q∈B.W.all/\q≠p:=λq=>by
  rw[Ou.mem_iff,aa5];exact⟨λh=>⟨.inr h,λe=>nd1.1 (e▸h)⟩,λh=>h.1.resolve_left h.2⟩
 have vY:∀q,q∈V.all↔q=r\/q∈B.W.all/\q≠p:=λq=>by rw[Vz.mem_iff,aa5,inr]
 have Lr:Live B.C r:=(O.lv r).2 (.inr hr);have at_:∀q,q=r\/q∈B.W.all->Live B.C q:=λq h=>h.elim (λe=>e▸Lr) O.sN;have io_:∀q,q=r\/q∈B.W.all->gO B.C q:=λq h=>h.elim (λe=>e▸I) (O.t.it q);have d1:cX B.C B.C.A A (λ_ o=>o<12\/o=45):=(vE T.df (λq hq=>(at_ q ((aa5.1 hq).imp id id)).toAt) (λq hq=>by have:=((at_ q ((aa5.1 hq).imp id id)).toAt.bn K).2.1;omega)).mono λq o g=>by omega
 have d2:cX B.C A A2 (λ_ o=>o<12\/o=45):=R.d.wA.mono λq o g=>by unfold SQ2 at g;omega
 have d:=d1.trans d2;have same:∀q,q=r\/q∈B.W.all->mJ A2 q=mJ B.C.A q:=λq h=>vz K d (at_ q h).toAt (io_ q h) λj s=>by omega
 have nit:∀q∈V.all,mJ A2 q=(M.swap p r).it q:=λq h=>by
  show _=if q=r then M.it p else M.it q
  rcases(vY q).1 h with e|⟨h1,h2⟩
  ·rw[if_pos e,same q (.inl e),e];exact lJ
  rw[if_neg λe:q=r=>vt (e▸h1),same q (.inr h1)];exact O.it q h1
 have jV:∀q,Live (B.C.wA A2) q↔Live B.C q:=λq=>⟨λh=>⟨⟨h.i,h.own,h.al,h.k⟩,h.tk⟩,λh=>h.wA _⟩;have mq_:∀q∈V.all,dz A2 q<16:=λq h=>by
  rw[show dz A2 q=((M.swap p r).it q).ff from congrArg I3.ff (nit q h)];show(if q=r then M.it p else M.it q).ff<16;rcases(vY q).1 h with e|⟨h1,h2⟩
  ·rw[if_pos e];exact(O.wi hp).2
  rw[if_neg λe:q=r=>vt (e▸h1)];exact(O.wi h1).2
 have Zr:∀q,q∈V.all↔∃j,q∈ql (og M.Q p r) j:=λq=>by
  rw[vY]
  constructor
  ·rintro(e|⟨h1,h2⟩)
   ·refine⟨i, ?_⟩
    rw[lZ,e];exact acA.2 ⟨p,hpi,by unfold AS;rw[if_pos rfl]⟩
   obtain⟨j,hj⟩:=(O.al q).1 h1;refine⟨j, ?_⟩;rw[lZ];exact acA.2 ⟨q,hj,by unfold AS;rw[if_neg h2]⟩
  rintro⟨j,hj⟩;rw[lZ]at hj;obtain⟨u,hu,e⟩:=acA.1 hj;unfold AS at e;by_cases g:u=p
  ·rw[if_pos g]at e;exact .inl e.symm
  rw[if_neg g]at e;subst e;exact .inr ⟨O.oa hu,g⟩
 have hn:=O.n;have AU:=O.nb;have C4:=O.mg;refine⟨?_,K.wA A2, ?_,hV,R.o, ?_,λj q h=>mq_ q ((Zr q).2 ⟨j,h⟩),O.ck,Zr,λq=> ?_,λq h=> ?_,nit, ?_, ?_, ?_, ?_, ?_, ?_,O.un,O.on,O.go,O.wn,O.cf, ?_,λq h=> ?_⟩
 ·show B.C.wA A2=M.C.wA A2
  conv=>lhs;rw[O.c]
  rfl
 ·exact F7 (K.wA A) T.o R.d λq _ j g=>⟨by unfold SQ2 at g;unfold mI;omega,by unfold SQ2 at g;omega⟩
 ·refine⟨λh=> ?_,λh=> ?_,λq h=> ?_, ?_⟩
  ·have:(M.x.cY p r).bg=M.x.bg/\(M.x.cY p r).cl=M.x.cl/\(M.x.cY p r).kd=M.x.kd:=by unfold Cw.cY;split<;>exact⟨rfl,rfl,rfl⟩
   show(M.x.cY p r).cl<B.C.ae.length/\_;obtain⟨a,b,c⟩:=this;change(M.x.cY p r).bg=true at h;show(M.x.cY p r).cl<B.C.ae.length/\1<=(M.x.cY p r).kd/\(M.x.cY p r).kd<=3;rw[a]at h;rw[b,c];exact O.x.go h
  ·change(M.x.cY p r).bg=false at h
   have hb:M.x.bg=false:=by unfold Cw.cY at h;split at h<;>exact h
   have:=O.x.no hb;show(M.x.cY p r).nx=none/\(M.x.cY p r).cl=0/\(M.x.cY p r).kd=0/\(M.x.cY p r).lf=0;unfold Cw.cY;rw[if_neg (by rw[this.1];simp)];exact this
  ·change(M.x.cY p r).nx=some q at h
   show q∈ql (og M.Q p r) (qi (M.x.cY p r).cl (M.x.cY p r).kd)/\1<=(M.x.cY p r).lf;unfold Cw.cY at h⊢;rw[lZ];by_cases g:M.x.nx=some p
   ·rw[if_pos g]at h⊢
    have:=O.x.nx p g;cases h;exact⟨acA.2 ⟨p,this.1,by unfold AS;rw[if_pos rfl]⟩,this.2⟩
   rw[if_neg g]at h⊢;have:=O.x.nx q h;exact⟨acA.2 ⟨q,this.1,by unfold AS;rw[if_neg λe:q=p=>g (e▸h)]⟩,this.2⟩
  show(M.x.cY p r).lf<=_;unfold Cw.cY
  split<;>exact O.x.lf
 ·show Live (B.C.wA A2) q↔q∈V.all\/some p=some q
  rw[jV,O.lv,vY,hr]
  constructor
  ·rintro(h|h)
   ·by_cases e:q=p
    ·exact .inr (by rw[e])
    exact .inl (.inr ⟨h,e⟩)
   exact .inl (.inl (Option.some.inj h).symm)
  rintro((h|h)|h)
  ·exact .inr (by rw[h])
  ·exact .inl h.1
  exact .inl ((Option.some.inj h)▸hp)
 ·have e:p=q:=Option.some.inj h
  subst e;intro g;rcases(vY p).1 g with e|e
  ·exact Iw e.symm
  exact e.2 rfl
 ·have pe:B.E.Perm (iE B.C M (p::rest)):=O.e.trans (jD Ou)
  have fN:∀q,q∈rest->B.C.hd q≠B.C.hd p:=λq h e=>((inr q).1 h).2 (iV K (O.nm ((inr q).1 h).1) (O.nm hp) e);have Gb:∀q∈p::rest,B.C.hd q≠B.C.hd r:=λq h e=>by
   have hq:q∈B.W.all:=(aa5.1 h).elim (λe=>e▸hp) λh=>((inr q).1 h).1;exact vt ((iV K (O.nm hq) Lr.toAt e)▸hq)
  have e1:iE (B.C.wA A2) (M.swap p r) rest=iE B.C M rest:=fM λq h=>by
   have ne:q≠r:=λe=>vt (e▸((inr q).1 h).1);refine⟨?_,if_neg ne,rfl⟩;show(if q=r then M.it p else M.it q).exp=_;rw[if_neg ne]
  have e2:iE (B.C.wA A2) (M.swap p r) (r::rest)=if 0<(M.it p).exp then⟨B.C.hd r,(M.it p).exp,M.ord p⟩::iE B.C M rest else iE B.C M rest:=by
   rw[iN,e1,show(M.swap p r).it r=M.it p from if_pos rfl,show(M.swap p r).ord r=M.ord p from if_pos rfl];rfl
  refine aa1.trans ?_ ((aa1.of_eq e2.symm).trans (jD Vz.symm));have hm:B.C.hd p∈B.E.map En.h↔0<(M.it p).exp:=by
   rw[(pe.map En.h).mem_iff,aaw,acA]
   constructor
   ·rintro⟨q,hq,e⟩
    obtain⟨h1,h2⟩:=aba.1 hq;have:q=p:=(aa5.1 h1).elim id λh=>absurd e (fN q h);subst this;exact of_decide_eq_true h2
   exact λh=>⟨p,aba.2 ⟨aaV,decide_eq_true h⟩,rfl⟩
  have hpr:B.C.hd p≠B.C.hd r:=Gb p aaV;unfold pG;by_cases g:0<(M.it p).exp
  ·rw[if_pos ⟨hm.2 g,hpr⟩,if_pos g]
   have p1:(eX B.E (B.C.hd r)).Perm (iE B.C M (p::rest)):=by
    refine(pe.filter _).trans (aa1.of_eq ?_);exact mm Gb
   refine(p1.map _).trans (aa1.of_eq ?_);rw[iN,if_pos g,aaX,if_pos rfl]
   congr 1
   have:∀l:List En,(∀x∈l,x.h≠B.C.hd p)->l.map (λx=>if x.h=B.C.hd p then{x with h:=B.C.hd r}else x)=l:=λl=>by
    induction l with
    |nil=>intro _;rfl
    |cons x l ih=>
     intro h;rw[aaX,if_neg (h x aaV),ih λy hy=>h y (aaW _ hy)]
   refine this _ λx hx=> ?_;unfold iE at hx;obtain⟨q,hq,rfl⟩:=acA.1 hx;exact fN q (aba.1 hq).1
  rw[if_neg λh=>g (hm.1 h.1),if_neg g];refine pe.trans (aa1.of_eq ?_);rw[iN,if_neg g]
 ·intro h2
  show V.mv<V.ob.length;rw[T.mv,T.s.ob];exact O.st (by rw[<-T.s.st];exact h2)
 ·exact T.s.size.trans AU
 ·show M.mg=if V.st=2 then V.ob.length-V.mv else 0
  rw[T.s.st,T.mv,T.s.ob];exact C4
 ·exact T.s.aI.trans O.mo
 ·show M.v.eW=_
  rw[O.bt,me _ Ou,me _ Vz,aaX,aaX,aa8,aa8];show _=(if r=r then M.it p else M.it r).sz+_;rw[if_pos rfl]
  congr 2
  refine afr λq h=> ?_;show _=(if q=r then M.it p else M.it q).sz;rw[if_neg λe:q=r=>vt (e▸((inr q).1 h).1)]
 ·exact T.s.n.trans hn
 show eF (if q=r then M.it p else M.it q).key=true;rcases(vY q).1 h with e|⟨h1,h2⟩
 ·rw[if_pos e];exact O.lg p hp
 rw[if_neg λe:q=r=>vt (e▸h1)];exact O.lg q h1
def Mo.rK (M:Mo)(p:Nat):Mo:={M with C:=M.C.bq p,hole:=none}
def Mo.shift (M:Mo)(p:Nat):Option Mo:=match M.take (M.C.cl p)with
 |some (r,N)=>some ((N.swap p r).rK p)
 |none=>none
theorem bL.cl{B:Bx}{M:Mo}(O:bL B M)(p:Nat):B.C.cl p=M.C.cl p:=by rw[O.c];rfl
theorem bL.takeN{B:Bx}{M:Mo}(O:bL B M){c:Nat}(h:B.C.eD c=none):M.take c=none:=by
 have:(B.C.wA M.C.A).eD c=none:=Su _ h;rw[O.c]at this;unfold Mo.take;rw[show M.C.eD c=none from this]
theorem HR (z:Ly)(M:Mo)(p:Nat)(hp:M.has p)(hh:M.hole=none):aO aaO 113 [CM z.s,CO CJ (M.C.hd p)] (λ_=>True) [SH z M]
  (λv H=>(M.shift p=none/\v=CO CN 21/\H= [SH z M])\/∃N,M.shift p=some N/\v=CO CN 0/\H= [SH z N]):=
 dH λB O=>by
  have dE:=(O.al p).2 hp;obtain⟨i,hi⟩:=hp;obtain⟨k,hk⟩:=agd hi;have L:=O.sN dE;have cR:=O.cl p;have hG:=(L.toAt.bn O.k).1;have at_:=vG z.y.b B.C O.k p L;have tk:=I8 z.y.b B.C O.k (B.C.cl p) hG;rw[O.hd]at at_;unfold dM fm iQ pV;simp only[o8,cap];refine ag func113 rfl ntmps113 rfl ?_;intro F _;refine bM ?_;refine zl CF (at_) .nil (λ_ le ao=>ao.nth 0 rfl) ?_;refine cC ?_;refine bz ?_;refine Lp (oC CF rfl rfl (tk) (.cons .here .nil) CI ?_);rintro v H' hr;refine aX ?_;rcases hT:B.C.eD (B.C.cl p)with _|⟨r,D⟩
  ·rw[hT]at hr
   obtain⟨rfl,rfl⟩:=hr;refine sT ?_;refine DA (z:=z) (B:=B) (M:=M) (H:= []) O ?_;refine Rt [SH z M] results113 ?_;refine .inl ⟨?_,rfl,rfl⟩;unfold Mo.shift;rw[<-cR,O.takeN hT]
  rw[hT]at hr;obtain⟨rfl,rfl⟩:=hr;obtain⟨N,n1,n2,n3,n4,O1,X⟩:=O.take hh hG hT;have Zf:M.shift p=some ((N.swap p r).rK p):=by unfold Mo.shift;rw[<-cR,n1]
  obtain⟨NC,rfl⟩:∃NC,N={M with C:=NC,hole:=some r}:=⟨_,n4⟩;have K1:Ok D:=O1.k;have LpD:Live D p:=(X.lv p).2 (.inl L);have LrD:Live D r:=(X.lv r).2 (.inr rfl);have Iw:r≠p:=λe=>X.no (e▸L);have VM:D.hd p=M.C.hd p:=((X.hd p L).1).trans (O.hd p);have fN:D.hd p≠D.hd r:=λe=>Iw (iV K1 LrD.toAt LpD.toAt e.symm);have I1:gO D p:=O1.t.it p dE;obtain⟨f1,f2,f3,f4,f5,f6,f7⟩:=O1.jh dE;change uv D.A p=(M.it p).exp at f1;change lL D.A p=(M.it p).tch at f2;change rW D.A p=(M.it p).tok at f3;change dz D.A p=(M.it p).ff at f4;change aP D.A p=(M.it p).key at f5;change ke D.A p=(M.it p).val at f6;change OG D.A p=(M.it p).fl at f7;have lg:=O.lg p dE;have uq:=(O.wi dE).2;have FV:D.cl r=D.cl p:=X.cl.trans (X.hd p L).2.symm;have VJ:=I1.k0;have uA:=I1.fits;have lk:(aP D.A p).length=kl D.A p:=cD _ _ _;have lv:(ke D.A p).length=vl D.A p:=cD _ _ _;have IP:=fL lg;rw[<-f5,lk]at IP;have vlt:vl D.A p<256^4:=ko _ _ _;have cp:=T5 z.y.b D K1 r p LrD LpD I1 Iw (by rw[f5];exact lg) (by show dz D.A p<16;rw[f4];exact uq) (by rw[FV];exact uA);have hS:vv B.C D (λq=>q∈B.W.all)->True:=λ_=>trivial;have S:vv B.C (D.wA B.C.A) (λq=>q∈B.W.all):=⟨rfl,X.sz,λq _ M=>⟨((X.lv q).2 (.inl M)).wA _,(X.hd q M).1,(X.hd q M).2⟩⟩;have abC:M.Q.flatMap (cV B.C)=M.Q.flatMap (cV D):=(S.ls O.o λi q h=>O.oa h).symm;have abD:pB z.y.q z.y.wh D.ae.length (aL z.s) (aY z.s) B.C M.x=pB z.y.q z.y.wh D.ae.length (aL z.s) (aY z.s) D M.x:=(S.cw O.o (λi q h=>O.oa h) O.x _ _ _ _ _).symm;have abB:B.C.ae.length=D.ae.length:=by rw[X.sz]
  unfold gh;rw[abC,abB,abD];have d3:cX D D.A (Bf D r p) (λq _=>q=r):=QF LrD.toAt (by rw[lk];omega) (by rw[lk,lv,FV];exact uA);have O2:=O1.FG (r:=r) rfl d3;have itr:mJ (Bf D r p) r=M.it p:=by
   have b:=Co D.A r (D.cl r) (aP D.A p) (ke D.A p) (rd D.A (p+40) 4) (rd D.A (p+16) 8) (rd D.A (p+24) 8) (rd D.A (p+32) 8) 4 (rd D.A (p+46) 1) (by rw[lk];omega) (by rw[lv];exact vlt);have h8:∀o,rd D.A o 8<256^8:=λo=>ko _ _ _;rw[<-O1.it p dE];unfold mJ Bf;rw[b.2.1,b.2.2,JN _ _ _ _ _ _ _ _ _ _ _ (by rw[lk];omega) (ko _ _ _),JO _ _ _ _ _ _ _ _ _ _ _ (by rw[lk];omega) (h8 _),Eo _ _ _ _ _ _ _ _ _ _ _ (by rw[lk];omega) (h8 _),Em _ _ _ _ _ _ _ _ _ _ _ (by rw[lk];omega) (h8 _),JM _ _ _ _ _ _ _ _ _ _ _ (by rw[lk];omega) (ko _ _ _)];rfl
  have str:gJ (Bf D r p) r=4:=JL _ _ _ _ _ _ _ _ _ _ _ (by rw[lk];omega) (by decide);have klr:kl (Bf D r p) r=kl D.A p:=(Cn _ _ _ _ _ _ _ _ _ _ _ (by rw[lk];omega)).trans lk;have vlr:vl (Bf D r p) r=vl D.A p:=by
   have b:=Co D.A r (D.cl r) (aP D.A p) (ke D.A p) (rd D.A (p+40) 4) (rd D.A (p+16) 8) (rd D.A (p+24) 8) (rd D.A (p+32) 8) 4 (rd D.A (p+46) 1) (by rw[lk];omega) (by rw[lv];exact vlt);exact b.1.trans lv
  generalize Bf D r p=A3 at*;have I2:gO (D.wA A3) r:=⟨by show kl A3 r≠0;rw[klr];exact VJ,by show 58+kl A3 r+vl A3 r<=D.sz (D.cl r);rw[klr,vlr,FV];exact uA,by
   have h1:uv A3 r=uv D.A p:=(congrArg I3.exp itr).trans f1.symm;show uv A3 r<_;rw[h1];exact I1.exp,by
   have h1:lL A3 r=lL D.A p:=(congrArg I3.tch itr).trans f2.symm;show lL A3 r<_;rw[h1];exact I1.tch⟩
  have oo:aP A3 p=aP A3 r:=(congrArg I3.key (O2.it p dE)).trans (congrArg I3.key itr).symm;have at2:∀q∈r::B.W.all,At (D.wA A3) q:=λq h=>by
   rcases aa5.1 h with e|h
   ·rw[e];exact(LrD.wA _).toAt
   exact O2.nm h
  have ts:=DQ z.y.t z.y.b (D.wA A3) O2.k B.W B.ty O2.t O.ty p r dE (LrD.wA _) I2 (O2.ho r rfl) oo;have md:=NX z.y.cr z.y.q z.y.wh D.ae.length (aL z.s) (aY z.s) (D.wA A3) O2.k M.Q O2.o M.x O2.x p r (LpD.wA _);have wm:=Vv z.y.wh B.E M.tn (D.hd p) (D.hd r) fN;rw[VM]at cp wm;change aO _ _ [_,CO CJ (D.hd p:Nat),CO CJ (D.hd r:Nat)] _ _ _ at ts md;rw[VM]at ts md;unfold gh at md;refine cC ?_;refine bA ?_;refine zl CF (cp) (.cons .here .nil) CI ?_;refine cA ?_;refine Lp (oC CF rfl rfl (ts) (.cons .here (.cons .here (.cons .here (.cons .here .nil)))) CI ?_);rintro v H' ⟨rfl,A,V,rfl,hV,TS⟩;refine aX ?_;have n64:∀q∈r::B.W.all,64<=(D.wA A3).sz ((D.wA A3).cl q):=λq h=>((at2 q h).bn O2.k).2.1;have dT:=vE TS.df at2 (λq h=>by have:=n64 q h;omega);have OQ:=KF O2.k O2.o dT (λ_ q _ j g=>S04 g);have Ir:gD ((D.wA A3).wA A) (some r):=nB O2.k dT (λq e=>by cases e;exact⟨LrD.wA _,I2⟩) (λ_ _ _ g=>(S04 g).1);have str2:gJ A r=4:=(lB O2.k dT (LrD.wA _).toAt (o:=45) (w:=1) (ai5 (by decide) (n64 r aaV)) (λj h1 h2 g=>by obtain⟨_,_,g3⟩:=g;omega)).trans str;have qs:=S5 z.y.q z.y.b z.qb ((D.wA A3).wA A) (O2.k.wA A) M.Q OQ i k p r hk Ir (by show¬(1<=gJ A r/\gJ A r<=3);rw[str2];omega) FV;change aO _ _ [_,CO CJ (D.hd p:Nat),CO CJ (D.hd r:Nat)] _ _ _ at qs;rw[VM]at qs;refine cA ?_;refine Lp (oC CF rfl rfl (qs) (.cons .here (.cons (.there (.there (.there .here))) (.cons (.there (.there (.there .here))) .nil))) CI ?_);rintro v H' ⟨rfl,A2,rfl,R⟩;refine aX ?_;refine cA ?_;refine zl CF (wm) (.cons (.there (.there (.there (.there (.there (.there (.there .here))))))) .nil) CI ?_;refine cA ?_;refine zl CF (md) (.cons (.there (.there (.there (.there (.there (.there (.there .here))))))) .nil) CI ?_;have O3:=O2.swap (r:=r) rfl hk itr hV TS R I2;have L5:Live (((D.wA A3).wA A).wA A2) p:=(LpD.wA A3).wA A2;have gv:=JW z.y.b (((D.wA A3).wA A).wA A2) O3.k p L5;change aO _ _ [_,CO CJ (D.hd p:Nat)] _ _ _ at gv;rw[VM]at gv;have O4:=O3.rK (r:=p) rfl;have mD:∀i,∀q∈ql (og M.Q p r) i,q≠p:=λi q h e=>O3.ho p rfl (e▸O3.oa h);have g1:(og M.Q p r).flatMap (cV (((D.wA A3).wA A).wA A2))=(og M.Q p r).flatMap (cV ((((D.wA A3).wA A).wA A2).bq p)):=((jB O3.k L5).ls O3.o mD).symm;have g2:pB z.y.q z.y.wh D.ae.length (aL z.s) (aY z.s) (((D.wA A3).wA A).wA A2) (M.x.cY p r)=pB z.y.q z.y.wh D.ae.length (aL z.s) (aY z.s) ((((D.wA A3).wA A).wA A2).bq p) (M.x.cY p r):=((jB O3.k L5).cw O3.o mD O3.x _ _ _ _ _).symm;refine dm ?_;refine zl CF (gv) (.cons (.there (.there .here)) .nil) CI ?_;rw[Jn O.o hk];refine bz ?_;rw[show(og M.Q p r).flatMap (cV (((D.wA A3).wA A).wA A2))=(og M.Q p r).flatMap (cV ((((D.wA A3).wA A).wA A2).bq p))from g1,show pB z.y.q z.y.wh D.ae.length (aL z.s) (aY z.s) (D.wA A3) (M.x.cY p r)=pB z.y.q z.y.wh D.ae.length (aL z.s) (aY z.s) ((((D.wA A3).wA A).wA A2).bq p) (M.x.cY p r)from g2,<-VM];refine Hh (H':= [Cl z.y.b ((((D.wA A3).wA A).wA A2).bq p),af z.y.t 154 (fk z.y.b V B.ty),af B.ty.nk 149 (aM (aD V.nb)),jH B.ty.ok 149 (aM (aD V.ob)),af z.y.q 182 (fC z.y.b z.qb (((D.wA A3).wA A).wA A2).ae.length),af z.qb 333 ((og M.Q p r).flatMap (cV ((((D.wA A3).wA A).wA A2).bq p))),af z.y.cr 137 (pB z.y.q z.y.wh D.ae.length (aL z.s) (aY z.s) ((((D.wA A3).wA A).wA A2).bq p) (M.x.cY p r)),Wl z.y.wh (pG B.E (D.hd p) (D.hd r)) M.tn,af z.s 96 (CM z.y.b::CM z.y.ck::CM z.y.t::CM z.y.lu::CM z.y.wh::CM z.y.cr::CM z.y.mo::CM z.y.q::fb M.v),kO z.y.ck M.k,jb z.y.lu z.y.b z.y.q z.hot z.warm,iT z.y.mo z.y.b z.ub (aL z.s) (aY z.s) (bI z.s) M.m,kL z.ub M.m,jJ M]) ?_;refine au (aB O4 (H:= [])) ?_;refine Rt [SH z ((({M with C:=NC,hole:=some r}:Mo).swap p r).rK p)] results113 ?_;exact .inr ⟨_,Zf,rfl,rfl⟩
theorem tB{C D:Cs}(S:C8 C D)(hp:∀j,∃b,D.pg j={C.pg j with lv:=b})(q:Nat):(Live D q↔Live C q)/\D.hd q=C.hd q/\D.cl q=C.cl q:=by
 have tk:∀i,(D.pg i).tk=(C.pg i).tk:=λi=>by obtain⟨b,e⟩:=hp i;rw[e]
 have bd:∀i,(D.pg i).bd=(C.pg i).bd:=λi=>by obtain⟨b,e⟩:=hp i;rw[e]
 refine⟨⟨λL=>⟨S.at.1 L.toAt, ?_⟩,λL=>⟨S.at.2 L.toAt, ?_⟩⟩, ?_,S.cl q⟩
 ·have:=L.tk
  rw[S.pn,S.ix,tk]at this;exact this
 ·rw[S.pn,S.ix,tk];exact L.tk
 unfold Cs.hd Cs.gen;rw[S.pn,S.ix,bd]
theorem B0{C:Cs}(K:Ok C){i:Nat}(hi:i<C.n)(j:Nat):(C.iu i).pg j=if j=i then{C.pg i with lv:=false}else C.pg j:=mX (by rw[K.pl];exact hi) j
theorem Ek{C:Cs}(K:Ok C){i:Nat}(hi:i<C.n)(j:Nat):(C.eJ i).pg j=if j=i then{C.pg i with lv:=true}else C.pg j:=mX (by rw[K.pl];exact hi) j
theorem yx{C:Cs}(K:Ok C){i:Nat}(hi:i<C.n)(j:Nat):(C.bw i).pg j=if j=i then{Pg.no with old:=C.rX (C.pg i)}else C.pg j:=mX (by rw[K.pl];exact hi) j
theorem bL.stay{B:Bx}{M:Mo}(O:bL B M)(jF:M.m.on=true):vv B.C (B.C.iu M.m.pg) (λq=>q∈B.W.all)/\bL ⟨B.C.iu M.m.pg,B.W,B.ty,B.E⟩ {M with C:=M.C.iu M.m.pg,m:=M.m.off}:=by
 obtain⟨a,b,c,d⟩:=O.on jF;have K:=O.k;obtain⟨K2,S⟩:=xQ K a b c;have iD:=B0 K a;have sm:=tB S λj=>by
  rw[iD];by_cases e:j=M.m.pg
  ·exact⟨false,by rw[if_pos e,e]⟩
  exact⟨(B.C.pg j).lv,by rw[if_neg e]⟩
 have hs:vv B.C (B.C.iu M.m.pg) (λq=>q∈B.W.all):=⟨rfl,S.ae,λq _ L=>⟨(sm q).1.2 L,(sm q).2⟩⟩;refine⟨hs,O.cls (ho':=M.hole) K2 (congrArg (λC:Cs=>C.iu M.m.pg) O.c) hs rfl (λq=>(sm q).1.trans (O.lv q)) O.ho (by rw[S.ae];exact O.un) (λe=>by cases e) (λi e=> ?_)⟩;rw[iD]at e;by_cases g:i=M.m.pg
 ·rw[if_pos g]at e;cases e
 rw[if_neg g]at e;exact absurd (O.go i e).2 g
theorem bL.leave{B:Bx}{M:Mo}(O:bL B M)(jF:M.m.on=false){i f t:Nat}(hi:i<B.C.n)(ho:(B.C.pg i).own=true)(hf:(B.C.pg i).cl=f):(B.C.pg i).lv=false/\vv B.C (B.C.eJ i) (λq=>q∈B.W.all)/\bL ⟨B.C.eJ i,B.W,B.ty,B.E⟩ {M with C:=M.C.eJ i,m:={M.m with pg:=i,fr:=f,tt:=t,on:=true}}:=by
 have jV:(B.C.pg i).lv=false:=by
  rcases h:(B.C.pg i).lv with _|_
  ·rfl
  have:=(O.go i h).1;rw[jF]at this;cases this
 have K:=O.k;obtain⟨K2,S⟩:=Aw K hi ho jV;have iD:=Ek K hi;have sm:=tB S λj=>by
  rw[iD];by_cases e:j=i
  ·exact⟨true,by rw[if_pos e,e]⟩
  exact⟨(B.C.pg j).lv,by rw[if_neg e]⟩
 have hs:vv B.C (B.C.eJ i) (λq=>q∈B.W.all):=⟨rfl,S.ae,λq _ L=>⟨(sm q).1.2 L,(sm q).2⟩⟩;refine⟨jV,hs,O.cls (ho':=M.hole) K2 (congrArg (λC:Cs=>C.eJ i) O.c) hs rfl (λq=>(sm q).1.trans (O.lv q)) O.ho (by rw[S.ae];exact O.un) (λ_=> ?_) (λj e=> ?_)⟩
 ·refine⟨hi, ?_, ?_, ?_⟩<;>(show _=_)<;>rw[iD,if_pos rfl]
  ·exact ho
  exact hf
 rw[iD]at e;by_cases g:j=i
 ·exact⟨rfl,g⟩
 rw[if_neg g]at e;have:=(O.go j e).1;rw[jF]at this;cases this
theorem Z6{C:Cs}(K:Ok C){i:Nat}(hi:i<C.n)(h:(C.pg i).tk.findIdx? id=none):(C.pg i).held=0/\∀k:Nat,(C.pg i).tk[k]?≠some true:=by
 have P:lA C (C.pg i):=K.pg _ (ey (by rw[K.pl];exact hi));rw[af4]at h;refine⟨?_,λk e=> ?_⟩
 ·rw[P.held]
  have:∀l:List Bool,(∀x∈l,id x=false)->(l.map bN).sum=0:=λl=>by
   induction l with
   |nil=>intro _;rfl
   |cons x l ih=>
    intro g;have hx:x=false:=g x aaV;rw[aaX,aa8,ih λy hy=>g y (aaW _ hy),hx];rfl
  exact this _ h
 have:=h true (aaT e);cases this
theorem bL.release{B:Bx}{M:Mo}(O:bL B M)(jF:M.m.on=true)(h:(B.C.pg M.m.pg).tk.findIdx? id=none):(B.C.pg M.m.pg).held=0/\vv B.C (B.C.bw M.m.pg) (λq=>q∈B.W.all)/\bL ⟨B.C.bw M.m.pg,B.W,B.ty,B.E⟩ {M with C:=M.C.bw M.m.pg,m:=M.m.off}:=by
 obtain⟨a,b,c,d⟩:=O.on jF;have K:=O.k;obtain⟨h0,mD⟩:=Z6 K a h;have K2:=vO K a b c h0;have iD:=yx K a;have zg:∀q,Live B.C q->B.C.pn q≠M.m.pg:=λq L e=>mD _ (e▸L.tk);have same:∀q,B.C.pn q≠M.m.pg->(B.C.bw M.m.pg).pg ((B.C.bw M.m.pg).pn q)=B.C.pg (B.C.pn q):=λq e=>by
  rw[show(B.C.bw M.m.pg).pn q=B.C.pn q from rfl,iD,if_neg e]
 have Iv:∀q,B.C.pn q≠M.m.pg->(B.C.bw M.m.pg).cl q=B.C.cl q:=λq e=>by unfold Cs.cl;rw[same q e]
 have Fw:∀q,B.C.pn q≠M.m.pg->(B.C.bw M.m.pg).ix q=B.C.ix q:=λq e=>by unfold Cs.ix;rw[Iv q e];rfl
 have wl:∀q,Live (B.C.bw M.m.pg) q↔Live B.C q:=λq=>by
  constructor
  ·intro L
   have e:B.C.pn q≠M.m.pg:=λe=>by
    have t:=L.own;rw[show(B.C.bw M.m.pg).pn q=B.C.pn q from rfl,iD,if_pos e]at t;cases t
   refine⟨⟨L.i,by have:=L.own;rw[same q e]at this;exact this,by have:=L.al;rw[Iv q e]at this;exact this,by have:=L.k;rw[same q e,Fw q e]at this;exact this⟩,by have:=L.tk;rw[same q e,Fw q e]at this;exact this⟩
  intro L;have e:=zg q L;exact⟨⟨L.i,by rw[same q e];exact L.own,by rw[Iv q e];exact L.al,by rw[same q e,Fw q e];exact L.k⟩,by rw[same q e,Fw q e];exact L.tk⟩
 have hs:vv B.C (B.C.bw M.m.pg) (λq=>q∈B.W.all):=⟨rfl,rfl,λq _ L=>⟨(wl q).2 L,by unfold Cs.hd Cs.gen;rw[same q (zg q L),Fw q (zg q L)],Iv q (zg q L)⟩⟩;refine⟨h0,hs,O.cls (ho':=M.hole) K2 (congrArg (λC:Cs=>C.bw M.m.pg) O.c) hs rfl (λq=>(wl q).trans (O.lv q)) O.ho O.un (λe=>by cases e) (λi e=> ?_)⟩;rw[iD]at e;by_cases g:i=M.m.pg
 ·rw[if_pos g]at e;cases e
 rw[if_neg g]at e;exact absurd (O.go i e).2 g
def Mo.mstop (M:Mo):Mo:={M with C:=M.C.iu M.m.pg,m:=M.m.off}
def Mo.eh (M:Mo):Bool×Mo:=match(M.C.pg M.m.pg).tk.findIdx? id with
 |none=>(false,{M with C:=M.C.bw M.m.pg,m:=M.m.off})
 |some k=>if M.cn (M.C.pA M.m.pg k)≠0 then(true,M.ca (M.C.pA M.m.pg k))else(match M.shift (M.C.pA M.m.pg k)with
  |some N=>(true,N)
  |none=>(false,M.mstop))
theorem bL.Gq{B:Bx}{M:Mo}(O:bL B M)(hh:M.hole=none){i k:Nat}(hi:i<B.C.n)(ho:(B.C.pg i).own=true)(hk:(B.C.pg i).tk.findIdx? id=some k):M.has (B.C.pA i k):=by
 have P:lA B.C (B.C.pg i):=O.k.pg _ (ey (by rw[O.k.pl];exact hi));rw[abc]at hk;obtain⟨h1,h2,_⟩:=hk;obtain⟨e1,e2,a⟩:=mh O.k hi ho (k:=k) (by rw[<-P.tl];exact h1);have L:Live B.C (B.C.pA i k):=⟨a,by rw[e1,e2,aaQ h1];exact congrArg some h2⟩;exact(O.al _).1 (((O.lv _).1 L).resolve_right (by rw[hh];simp))
theorem yu (z:Ly)(M:Mo)(jF:M.m.on=true)(c:Nat)(hf:M.m.fr=c):aO aaO 183 [CM z.y.mo,CO CN c] (λ_=>True) [SH z M]
  (λv H=>v= .bool true/\H= [SH z M.mstop]):=
 dH λB O=>by
  obtain⟨a,b,c',d⟩:=O.on jF;have h:=(TG z.y.mo z.y.b z.ub (aL z.s) (aY z.s) (bI z.s) B.C O.k M.m c jF hf a b c').fr (H:=dM z B M++ []) (R:= [af z.y.t 154 (fk z.y.b B.W B.ty),af B.ty.nk 149 (aM (aD B.W.nb)),jH B.ty.ok 149 (aM (aD B.W.ob)),af z.y.q 182 (fC z.y.b z.qb B.C.ae.length),af z.qb 333 (M.Q.flatMap (cV B.C)),gh z.y.cr z.y.q z.y.wh B.C.ae.length (aL z.s) (aY z.s) B.C M.x,Wl z.y.wh B.E M.tn,fm z.s z.y (fb M.v),
   kO z.y.ck M.k,jb z.y.lu z.y.b z.y.q z.hot z.warm,kL z.ub M.m,jJ M]) (.cons (.there (.there (.there (.there (.there (.there (.there (.there (.there (.there (.there .here))))))))))) (.cons .here .nil)) (λk ao=>trivial)
  refine h.out ?_;rintro v H' ⟨H0,⟨rfl,rfl⟩,rfl⟩;obtain⟨S,O2⟩:=O.stay jF;refine⟨[SH z M.mstop],⟨rfl,rfl⟩,λk s=>aB O2 (H:= []) k ?_⟩;rw[(S.ls O.o λi q h=>O.oa h).symm]at s;unfold gh at s;rw[(S.cw O.o (λi q h=>O.oa h) O.x _ _ _ _ _).symm]at s
  revert s
  revert k
  show∀k,_->ai [Cl z.y.b (B.C.iu M.m.pg),af z.y.t 154 (fk z.y.b B.W B.ty),af B.ty.nk 149 (aM (aD B.W.nb)),jH B.ty.ok 149 (aM (aD B.W.ob)),af z.y.q 182 (fC z.y.b z.qb B.C.ae.length),af z.qb 333 (M.Q.flatMap (cV (B.C.iu M.m.pg))),af z.y.cr 137 (pB z.y.q z.y.wh B.C.ae.length (aL z.s) (aY z.s) (B.C.iu M.m.pg) M.x),Wl z.y.wh B.E M.tn,fm z.s z.y (fb M.v),
   kO z.y.ck M.k,jb z.y.lu z.y.b z.y.q z.hot z.warm,iT z.y.mo z.y.b z.ub (aL z.s) (aY z.s) (bI z.s) M.m.off,kL z.ub M.m,jJ M] k
  refine aX ?_;exact Eh
theorem TH (z:Ly)(M:Mo)(hh:M.hole=none)(jF:M.m.on=true):aO aaO 137 [CM z.y.mo] (λ_=>True) [SH z M]
  (λv H=>∃r N,M.eh=(r,N)/\v= .bool r/\H= [SH z N]):=
 dH λB O=>by
  obtain⟨a,b,c',d⟩:=O.on jF;have ft:=U0 z.y.b B.C O.k M.m.pg a b;have agQ:B.C.pg M.m.pg=M.C.pg M.m.pg:=by rw[O.c];rfl
  have hplc:∀k,B.C.pA M.m.pg k=M.C.pA M.m.pg k:=λk=>by rw[O.c];rfl
  unfold dM iT CQ;refine aX ?_;refine ag func137 rfl ntmps137 rfl ?_;intro F _;refine bz ?_;refine aw ?_;refine hJ 9 mix (.cons (.there (.there (.there (.there (.there (.there (.there (.there (.there (.there (.there .here))))))))))) .nil) λF1 jf bZ aN=> ?_;obtain⟨q1,_⟩:=bZ;refine cA ?_;refine gd aN ?_;refine Tp (oC CF rfl rfl (ft) .nil (λ_ le ao=>ao.nth 1 rfl) ?_);rintro v H' ⟨hv,rfl⟩;refine aX ?_;rcases hf:(B.C.pg M.m.pg).tk.findIdx? id with _|k
  ·rw[hf]at hv
   subst hv;obtain⟨h0,S,O2⟩:=O.release jF hf;have VH:M.eh=(false,{M with C:=M.C.bw M.m.pg,m:=M.m.off}):=by unfold Mo.eh;rw[<-agQ,hf]
   refine aX ?_;refine dB ?_;refine aw ?_;refine hJ 9 mix (.cons .here .nil) λF2 yO ez cQ=> ?_;obtain⟨q2,_⟩:=ez;refine cA ?_;refine gd cQ ?_;refine Tp (oC CF rfl rfl (HV z.y.b B.C O.k M.m.pg a b c' h0) (.cons (.there .here) .nil) CI ?_);rintro v H' ⟨rfl,rfl⟩;refine aX ?_;refine bG ?_;refine Lp (oSN su ?_);refine bG ?_;unfold gh;rw[(S.ls O.o λi q h=>O.oa h).symm,(S.cw O.o (λi q h=>O.oa h) O.x _ _ _ _ _).symm];refine Hh (H':= [Cl z.y.b (B.C.bw M.m.pg),af z.y.t 154 (fk z.y.b B.W B.ty),af B.ty.nk 149 (aM (aD B.W.nb)),jH B.ty.ok 149 (aM (aD B.W.ob)),af z.y.q 182 (fC z.y.b z.qb B.C.ae.length),af z.qb 333 (M.Q.flatMap (cV (B.C.bw M.m.pg))),af z.y.cr 137 (pB z.y.q z.y.wh B.C.ae.length (aL z.s) (aY z.s) (B.C.bw M.m.pg) M.x),Wl z.y.wh B.E M.tn,fm z.s z.y (fb M.v),kO z.y.ck M.k,jb z.y.lu z.y.b z.y.q z.hot z.warm,af z.y.mo 220 [CM z.y.b,aL z.s,aY z.s,bI z.s, .slice (some ⟨z.ub,0,none⟩) M.m.un.length M.m.un.length,CO CN M.m.st,CO CN 0,CO CN 0,CO CN 0, .bool false],kL z.ub M.m,jJ M]) ?_;refine au (aB O2 (H:= [])) ?_;refine Rt [SH z {M with C:=M.C.bw M.m.pg,m:=M.m.off}] results137 ?_;exact⟨_,_,VH,rfl,rfl⟩
  have hp:=O.Gq hh a b hf;rw[hf]at hv;dsimp only at hv;rw[O.hd]at hv;have VH:M.eh=if M.cn (B.C.pA M.m.pg k)≠0 then(true,M.ca (B.C.pA M.m.pg k))else(match M.shift (B.C.pA M.m.pg k)with
   |some N=>(true,N)
   |none=>(false,M.mstop)):=by unfold Mo.eh;rw[<-agQ,hf,hplc]
  generalize B.C.pA M.m.pg k=p at*;subst hv;refine aX ?_;refine cC ?_;refine au (H':= [SH z M]) (λh s=>aB O (H:= []) h (by revert s;revert h;unfold dM iT CQ;simp only[o8,cap];exact Eh)) ?_;refine av ?_;refine Lp (Y9 (CF (n:=48)) rfl rfl rfl (uT z M p hp) (.cons .here .nil) (λ_ le _=>trivial) λv H' hr=> ?_);obtain⟨rfl,rfl⟩:=hr;refine aX ?_;refine av ?_;refine aE rfl ?_ ?_
  ·intro o9
   replace o9:=aS o9;refine cF λB1 O1=> ?_;unfold dM iT CQ;refine aX ?_;refine bE ?_;refine au (H':= [SH z M]) (λh s=>aB O1 (H:= []) h (by revert s;revert h;unfold dM iT CQ;simp only[o8,cap];exact Eh)) ?_;refine av ?_;refine Lp (Y9 (CF (n:=85)) rfl rfl rfl (jR z M p hp) (.cons .here .nil) (λ_ le _=>trivial) λv H' hr=> ?_);obtain⟨rfl,rfl⟩:=hr;refine aX ?_;refine bG ?_;refine Rt [SH z (M.ca p)] results137 ?_;exact⟨true,_,by rw[VH,if_pos (by simpa using o9)],rfl,rfl⟩
  intro o9;replace o9:=aS o9;rw[if_neg (by simpa using o9)]at VH;refine bA ?_;refine aw ?_;refine cF λB1 O1=> ?_;unfold dM iT CQ;refine aX ?_;refine bE ?_;refine au (H':= [SH z M]) (λh s=>aB O1 (H:= []) h (by revert s;revert h;unfold dM iT CQ;simp only[o8,cap];exact Eh)) ?_;refine av ?_;refine Lp (Y9 (CF (n:=113)) rfl rfl rfl (HR z M p hp hh) (.cons .here .nil) (λ_ le _=>trivial) λv H' hr=> ?_);rcases hr with⟨hsn,rfl,rfl⟩|⟨N,hsn,rfl,rfl⟩
  ·try simp only[o8,cap]
   rw[hsn]at VH;refine bz ?_;refine cF λB1 O1=> ?_;unfold dM iT CQ;refine aX ?_;refine bR ?_;refine au (H':= [SH z M]) (λh s=>aB O1 (H:= []) h (by revert s;revert h;unfold dM iT CQ;simp only[o8,cap];exact Eh)) ?_;refine zl CF (yu z M jF M.m.fr rfl) (.cons .here .nil) CI ?_;refine bG ?_;refine Rt [SH z M.mstop] results137 ?_;exact⟨_,_,VH,rfl,rfl⟩
  try simp only[o8,cap]
  rw[hsn]at VH;refine cA ?_;refine Rt [SH z N] results137 ?_;exact⟨_,_,VH,rfl,rfl⟩
theorem YJ:Gf aaO 29 0=some (0,3):=by kernel_rfl
theorem YI:Gf aaO 29 1=some (1,3):=by kernel_rfl
def Za (C:Cs)(f each k:Nat)(o:Option Nat):Prop:=(C.pg k).own=true/\(C.pg k).cl=f/\((C.pg k).held:Int)<=((C.rw f).free.length:Int)-((each:Int)-((C.pg k).held:Int))/\∀q,o=some q->(C.pg k).held<(C.pg q).held
noncomputable def wz (C:Cs)(f each:Nat):Nat->Option Nat
 |0=>none
 |k+1=>by classical exact if Za C f each k (wz C f each k)then some k else wz C f each k
noncomputable def jr (C:Cs)(f:Nat):Option Nat:=if(C.rw f).pgs<2 then none else wz C f (C.aj/C.sz f) C.n
def Wk:Option Nat->Int
 |none=>-1
 |some p=>(p:Int)
theorem Ch (C:Cs)(f each:Nat):∀k q,wz C f each k=some q->q<k/\(C.pg q).own=true/\(C.pg q).cl=f
 |0,q,h=>by cases h
 |k+1,q,h=>by
  unfold wz at h
  split at h
  ·next g=>cases h;exact⟨akm _,g.1,g.2.1⟩
  obtain⟨a,b⟩:=Ch C f each k q h;exact⟨by omega,b⟩
theorem JE{C:Cs}{f each k:Nat}(h:Za C f each k (wz C f each k)):wz C f each (k+1)=some k:=by
 conv=>lhs;unfold wz
 rw[if_pos h]
theorem GI{C:Cs}{f each k:Nat}(h:¬Za C f each k (wz C f each k)):wz C f each (k+1)=wz C f each k:=by
 conv=>lhs;unfold wz
 rw[if_neg h]
theorem LN (a b ub:Nat)(dv tv sv:Value)(m:iz)(C:Cs)(K:Ok C)(f:Nat)(hf:f<C.ae.length):
  aO aaO 200 [CM a,CO CN f] (λh=>In (iT a b ub dv tv sv m) h/\In (Cl b C) h) []
   (λv H=>v=CO CN (Wk (jr C f))/\H= []):=
 aO.Qn (X:=C.cfg.aj=C.aj/\C.cfg.pgs=C.n) (λk hk=>by obtain⟨j,⟨y,hy,_⟩,_⟩:=hk.2;exact⟨hy.aj,hy.pgs⟩) λOe=>by
  obtain⟨c1,c2⟩:=Oe;have f1:=K.toFix.p1;have f2:=K.toFix.n1;have f3:=K.toFix.l1;obtain⟨z1,z2,z3⟩:=K.toFix.sz hf;have ofp:∀g:Nat->Nat,ofM C (f:Int) g=g f:=λg=>by unfold ofM;rw[if_pos ⟨by omega,by omega⟩];rfl
  have agG:=AN b C K (f:Int);have aac:=ET b C K (f:Int);have ag9:=qW b C K (f:Int);rw[ofp]at agG aac ag9;have abE:=AL b C;have cR:jN C.cfg= [CO CN C.aj,CO CN C.n,CO CN C.cfg.fac,CO CN C.cfg.bj,CO CN C.cfg.lim,CO CN C.cfg.hot,CO CN C.cfg.warm]:=by
   unfold jN;rw[c1,c2]
  rw[cR]at abE;have FD:(C.rw f).free.length<=1073741824:=kF K f;have iD:(C.rw f).pgs<4611686018427387904:=by
   have:=xy (uu f) (λx=>by unfold uu;split<;>omega) C.bc;rw[K.fp f hf];unfold Cs.zI;rw[K.pl]at this;omega
  unfold iT CQ jr;refine ag func200 rfl ntmps200 rfl ?_;rintro F ⟨hm,Dh⟩;refine bM ?_;refine zl CF (agG) .nil (λ_ le _=>In.mono Dh le) ?_;refine bA ?_;by_cases h2:(C.rw f).pgs<2
  ·refine eU ?_
   refine bE ?_;refine Rt [] results200 ?_;rw[if_pos h2];exact⟨rfl,rfl⟩
  rw[if_neg h2];refine cO ?_;refine bA ?_;refine aw ?_;refine gT true mix ?_;refine bm ?_;refine Tp (oC CF rfl rfl (abE) .nil (λ_ le _=>In.mono Dh le) ?_);rintro v H' ⟨rfl,rfl⟩;refine aX ?_;refine Ti (Fgs YJ bC) ?_;refine bE ?_;refine Tp (oC CF rfl rfl (ag9) .nil (λ_ le _=>In.mono Dh le) ?_);rintro v H' ⟨rfl,rfl⟩;refine aX ?_;obtain⟨each,PI⟩:∃each,each=C.aj/C.sz f:=⟨_,rfl⟩;have hele:each<=1048576:=by rw[PI];exact ai5 (Nat.div_le_self _ _) f1
  refine Ti (Qu) ?_;refine ay (t:=28) (v':=(CO CN each)) rfl (by rw[PI]) ?_;rw[<-PI];refine bW ?_;refine zl CF (abE) .nil (λ_ le _=>In.mono Dh le) ?_;refine Li (Fgs YI bC) ?_;refine bz ?_;have own_:=λk hk=>Td b C K k hk;have Z5:=λk hk ho=>Yr b C K k hk ho;have hhl:=λk (hk:k<C.n)=>wQ K (ey (C:=C) (i:=k) (by rw[K.pl];exact hk));refine Lo (ι:=Nat) [36,37,7,38,39,40,41,42,43,44,45,46,47,48,49,50,51,8,52,53,54,55,56,57,58,59,60,61,62,63,64,65,66,67,68,69,70,71,72,73,74,75,76,77,78,6,79,35] (λk=>k<=C.n) (λk=> [(35,CO CN k),(6,CO CN (Wk (wz C f each k)))]) (λk=> []) (λk=>C.n-k) (0) (afk _) ?_;rintro k hk;refine bz ?_;refine aw ?_;by_cases FB:k<C.n
  ·have o1:=own_ k FB
   have hh1:=hhl k FB;refine eU ?_;refine mF ?_;refine zl CF (o1) .nil (λ_ le _=>In.mono Dh le) ?_;refine bz ?_;by_cases VY:(C.pg k).own=true/\(C.pg k).cl=f
   ·have h1:=Z5 k FB VY.1
    rw[if_pos VY.1,VY.2];refine cO ?_ (e:=by exact congrArg (!·) (decide_eq_true rfl));refine dm ?_;refine zl CF (h1) .nil (λ_ le _=>In.mono Dh le) ?_;refine cA ?_;refine zl CF (aac) .nil (λ_ le _=>In.mono Dh le) ?_;refine bG ?_;by_cases hA:((C.pg k).held:Int)<=((C.rw f).free.length:Int)-((each:Int)-((C.pg k).held:Int))
    ·refine zt 64 ?_ (e:=by exact decide_eq_true hA)
     refine bz ?_;rcases hq:wz C f each k with _|q
     ·have abi:Za C f each k (wz C f each k):=⟨VY.1,VY.2,hA,λq e=>by rw[hq]at e;cases e⟩
      have e1:((k:Nat):Int)=Wk (wz C f each (k+1)):=by rw[JE abi];rfl
      refine zt 67 ?_ (e:=by exact decide_eq_true (by show(-1:Int)<0;omega));refine cC ?_;refine av ?_;refine aF ?_;rw[e1];refine Ro (k+1) ((by omega)) ((by omega))
     obtain⟨q1,q2,q3⟩:=Ch C f each k q hq;have h2:=Z5 q (by omega) q2;have hh2:=hhl q (by omega);refine zf 67 ?_ (e:=by exact decide_eq_false (by show¬((q:Int)<0);omega));refine bG ?_;refine zl CF (h2) .nil (λ_ le _=>In.mono Dh le) ?_;refine bm ?_;by_cases hB:(C.pg k).held<(C.pg q).held
     ·have abi:Za C f each k (wz C f each k):=⟨VY.1,VY.2,hA,λu e=>by rw[hq]at e;cases e;exact hB⟩
      have e1:((k:Nat):Int)=Wk (wz C f each (k+1)):=by rw[JE abi];rfl
      refine eU ?_;refine cA ?_;refine aF ?_;rw[e1];refine Ro (k+1) ((by omega)) ((by omega))
     have mD:¬Za C f each k (wz C f each k):=λh=>hB (h.2.2.2 q hq);refine cO ?_;refine bG ?_;refine aF ?_;rw[<-hq,<-GI mD];refine Ro (k+1) ((by omega)) ((by omega))
    have mD:¬Za C f each k (wz C f each k):=λh=>hA h.2.2.1;refine zf 64 ?_ (e:=by exact decide_eq_false hA);refine cC ?_;refine av ?_;refine aF ?_;rw[<-GI mD];refine Ro (k+1) ((by omega)) ((by omega))
   have mD:¬Za C f each k (wz C f each k):=λh=>VY ⟨h.1,h.2.1⟩;have PJ:¬((if(C.pg k).own=true then((C.pg k).cl:Int)else-1)=(f:Int)):=by
    by_cases g:(C.pg k).own=true
    ·have g2:¬(C.pg k).cl=f:=λe=>VY ⟨g,e⟩
     rw[if_pos g];omega
    rw[if_neg g];omega
   refine eU ?_ (e:=by exact congrArg (!·) (decide_eq_false PJ));refine bR ?_;refine aF ?_;rw[<-GI mD];refine Ro (k+1) ((by omega)) ((by omega))
  obtain rfl:k=C.n:=by omega
  refine cO ?_;refine bM ?_;refine Rt [] results200 ?_;exact⟨rfl,rfl⟩
def lW (C:Cs)(f:Nat):Nat:=(C.rw f).free.length
noncomputable def fR (m:iz)(C:Cs):Nat->Option (Nat×Nat)
 |0=>none
 |k+1=>if m.eP k=true\/(∃o,fR m C k=some o/\lW C k<=lW C o.2)then fR m C k else(match jr C k with
  |some p=>some (p,k)
  |none=>fR m C k)
noncomputable def Mo.fH (M:Mo):Mo:=if 0<M.C.spare then M else match(abb M.eR).find? M.m.eP with
 |none=>M
 |some t=>match fR M.m M.C M.eR with
  |none=>M
  |some o=>{M with C:=M.C.eJ o.1,m:={M.m with pg:=o.1,fr:=o.2,tt:=t,on:=true}}
def OI (t:Nat):Option (Nat×Nat)->List Value
 |none=> [CO CN (-1),CO CN 0,CO CN 0, .bool false]
 |some o=> [CO CN o.1,CO CN o.2,CO CN t, .bool true]
theorem yE{m:iz}{C:Cs}{k:Nat}(h:m.eP k=true\/(∃o,fR m C k=some o/\lW C k<=lW C o.2)):fR m C (k+1)=fR m C k:=by
 conv=>lhs;unfold fR
 rw[if_pos h]
theorem yF{m:iz}{C:Cs}{k:Nat}(h:jr C k=none):fR m C (k+1)=fR m C k:=by
 conv=>lhs;unfold fR
 split
 ·rfl
 rw[h]
theorem AP{m:iz}{C:Cs}{k p:Nat}(g:¬(m.eP k=true\/(∃o,fR m C k=some o/\lW C k<=lW C o.2)))(h:jr C k=some p):fR m C (k+1)=some (p,k):=by
 conv=>lhs;unfold fR
 rw[if_neg g,h]
theorem H7{C:Cs}{f p:Nat}(h:jr C f=some p):p<C.n/\(C.pg p).own=true/\(C.pg p).cl=f:=by
 unfold jr at h
 split at h
 ·cases h
 exact Ch _ _ _ _ _ h
theorem qX{m:iz}{C:Cs}:∀{k:Nat} {o:Nat×Nat},fR m C k=some o->o.1<C.n/\(C.pg o.1).own=true/\(C.pg o.1).cl=o.2/\o.2<k
 |0,o,h=>by cases h
 |k+1,o,h=>by
  by_cases g:m.eP k=true\/(∃o,fR m C k=some o/\lW C k<=lW C o.2)
  ·rw[yE g]at h
   obtain⟨a,b,c,d⟩:=qX h;exact⟨a,b,c,by omega⟩
  cases hl:jr C k with
  |none=>
   rw[yF hl]at h;obtain⟨a,b,c,d⟩:=qX h;exact⟨a,b,c,by omega⟩
  |some p=>
   rw[AP g hl]at h;cases h;obtain⟨a,b,c⟩:=H7 hl;exact⟨a,b,c,akm _⟩
theorem Qy (C:Cs)(A:By)(f each:Nat):∀k,wz (C.wA A) f each k=wz C f each k
 |0=>rfl
 |k+1=>by
  have ih:=Qy C A f each k;unfold wz;rw[ih];rfl
theorem LV (C:Cs)(A:By)(f:Nat):jr (C.wA A) f=jr C f:=by
 unfold jr;rw[Qy];rfl
theorem EU (m:iz)(C:Cs)(A:By):∀k,fR m (C.wA A) k=fR m C k
 |0=>rfl
 |k+1=>by
  have ih:=EU m C A k;unfold fR;rw[ih,LV];rfl
theorem NL{f:Nat->Bool}{n:Nat}(h:∀j,j<n->f j=false):(abb n).find? f=none:=by
 rw[agj];intro x hx;rw[h x (afu.1 hx)];simp
theorem NK{f:Nat->Bool}{n k:Nat}(hk:k<n)(h:∀j,j<k->f j=false)(g:f k=true):(abb n).find? f=some k:=by
 rw[List.find?_range_eq_some];exact⟨g,afu.2 hk,λj hj=>by simp[h j hj]⟩
def A5 (z:Ly)(B:Bx)(M:Mo):List aa:=
 [af z.y.t 154 (fk z.y.b B.W B.ty),af B.ty.nk 149 (aM (aD B.W.nb)),jH B.ty.ok 149 (aM (aD B.W.ob)),af z.y.q 182 (fC z.y.b z.qb B.C.ae.length),af z.qb 333 (M.Q.flatMap (cV B.C)),gh z.y.cr z.y.q z.y.wh B.C.ae.length (aL z.s) (aY z.s) B.C M.x,Wl z.y.wh B.E M.tn,fm z.s z.y (fb M.v),kO z.y.ck M.k,jb z.y.lu z.y.b z.y.q z.hot z.warm,jJ M]
theorem aaz{z:Ly}{B:Bx}{M:Mo}:∀h,ai (dM z B M++ []) h->ai [Cl z.y.b B.C,iT z.y.mo z.y.b z.ub (aL z.s) (aY z.s) (bI z.s) M.m,kL z.ub M.m,aG (A5 z B M)] h:=λh s=>by
 have s1:ai (A5 z B M++ [Cl z.y.b B.C,iT z.y.mo z.y.b z.ub (aL z.s) (aY z.s) (bI z.s) M.m,kL z.ub M.m]) h:=by
  revert s
  revert h
  unfold dM A5;simp only[o8,cap];exact Eh
 have s2:=dU s1
 revert s2
 generalize aG (A5 z B M)=X
 revert h
 intro h _ _ s2;exact(Eh:∀h,ai [X,Cl z.y.b B.C,iT z.y.mo z.y.b z.ub (aL z.s) (aY z.s) (bI z.s) M.m,kL z.ub M.m] h->ai [Cl z.y.b B.C,iT z.y.mo z.y.b z.ub (aL z.s) (aY z.s) (bI z.s) M.m,kL z.ub M.m,X] h) h s2
theorem DK{z:Ly}{B:Bx}{M:Mo}:∀h,ai [Cl z.y.b B.C,iT z.y.mo z.y.b z.ub (aL z.s) (aY z.s) (bI z.s) M.m,kL z.ub M.m,aG (A5 z B M)] h->ai (dM z B M++ []) h:=λh s=>by
 have s1:ai (aG (A5 z B M):: [Cl z.y.b B.C,iT z.y.mo z.y.b z.ub (aL z.s) (aY z.s) (bI z.s) M.m,kL z.ub M.m]) h:=by
  revert s
  generalize aG (A5 z B M)=X;intro s;exact(Eh:∀h,ai [Cl z.y.b B.C,iT z.y.mo z.y.b z.ub (aL z.s) (aY z.s) (bI z.s) M.m,kL z.ub M.m,X] h->ai [X,Cl z.y.b B.C,iT z.y.mo z.y.b z.ub (aL z.s) (aY z.s) (bI z.s) M.m,kL z.ub M.m] h) h s
 have s2:ai (A5 z B M++ [Cl z.y.b B.C,iT z.y.mo z.y.b z.ub (aL z.s) (aY z.s) (bI z.s) M.m,kL z.ub M.m]) h:=by
  obtain⟨h1,h2,d,l1,l2,a,b⟩:=s1;exact eL (bK a b d) (bY l1 l2)
 revert s2
 clear s1 s
 revert h
 unfold dM A5;simp only[o8,cap];exact Eh
theorem afj{z:Ly}{B:Bx}{M:Mo}(O:bL B M){D N:Cs}{m':iz}(S:vv B.C D (λq=>q∈B.W.all)):A5 z B M=A5 z ⟨D,B.W,B.ty,B.E⟩ {M with C:=N,m:=m'}:=by
 have e1:=S.ls O.o λi q h=>O.oa h;have e2:=S.cw O.o (λi q h=>O.oa h) O.x z.y.q z.y.wh B.C.ae.length (aL z.s) (aY z.s);unfold A5 gh;dsimp only;rw[S.sz,e1,e2];rfl
theorem LO (z:Ly)(M:Mo)(hoff:M.m.on=false):aO aaO 136 [CM z.y.mo] (λ_=>True) [SH z M]
  (λv H=>v= .tuple #[]/\H= [SH z M.fH]):=
 dH λB O=>by
  have K:=O.k;have hun:=O.un;have f3:=K.toFix.l1;have hC:B.C=M.C.wA B.C.A:=O.c;have VF:B.C.spare=M.C.spare:=by rw[hC];rfl
  have hncl:B.C.ae.length=M.eR:=O.eR;have Z8:fR M.m B.C M.eR=fR M.m M.C M.eR:=by rw[hC,EU]
  have fp:=akL z.y.b B.C;have stv:=λc hc=>Fc z.y.mo z.y.b z.ub (aL z.s) (aY z.s) (bI z.s) M.m c hc;have lst:=λf hf=>LN z.y.mo z.y.b z.ub (aL z.s) (aY z.s) (bI z.s) M.m B.C K f hf;have fre:=λf (hf:f<B.C.ae.length)=>(show aO _ _ _ _ _ _ from(by have h:=ET z.y.b B.C K (f:Int);rw[show ofM B.C (f:Int) (λi=>(B.C.rw i).free.length)=lW B.C f from(by unfold ofM;rw[if_pos ⟨by omega,by omega⟩];rfl)]at h;exact h));have hspl:B.C.spare<4611686018427387904:=by
   have:=xy y9 (λx=>by unfold y9;split<;>omega) B.C.bc;rw[K.sp];unfold Cs.zI;rw[K.pl]at this;have:=K.toFix.n1;omega
  refine ag func136 rfl ntmps136 rfl ?_;intro F _;refine au aaz ?_;unfold iT CQ;refine bG ?_;refine zl CF (fp) .nil (λ_ le ao=>ao.nth 0 rfl) ?_;refine bA ?_;by_cases Oa:0<B.C.spare
  ·refine eU ?_
   refine bA ?_;refine au (λh s=>aB O (H:= []) h (DK h s)) ?_;refine Rt0 [SH z M] results136 ?_;refine⟨rfl, ?_⟩;unfold Mo.fH;rw[if_pos (by omega)]
  have VZ:M.fH=match(abb M.eR).find? M.m.eP with
   |none=>M
   |some t=>match fR M.m M.C M.eR with
    |none=>M
    |some o=>{M with C:=M.C.eJ o.1,m:={M.m with pg:=o.1,fr:=o.2,tt:=t,on:=true}}:=by unfold Mo.fH;rw[if_neg (by omega)]
  refine cO ?_;refine bR ?_;refine Lo (ι:=Nat) [12,13,14,15,16,17,18,19,20,21,22,23,24,25,26,2] (λk=>k<=M.eR/\∀j,j<k->M.m.eP j=false) (λk=> [(2,CO CN k)]) (λk=> [Cl z.y.b B.C,af z.y.mo 220 [CM z.y.b,aL z.s,aY z.s,bI z.s, .slice (some ⟨z.ub,0,none⟩) M.m.un.length M.m.un.length,CO CN M.m.st,CO CN M.m.pg,CO CN M.m.fr,CO CN M.m.tt, .bool M.m.on],kL z.ub M.m,aG (A5 z B M)]) (λk=>M.eR-k) (0) ⟨afk _,λj h=>absurd h (Nat.not_lt_zero _)⟩ ?_;rintro k hI;obtain⟨hk,hns⟩:=hI;refine bM ?_;by_cases FB:k<M.eR
  ·have sk:=stv k (by omega)
   refine zt 19 ?_;refine bA ?_;refine zl CF (sk) .nil (λ_ le ao=>⟨ao.nth 1 rfl,ao.nth 2 rfl⟩) ?_;refine bz ?_;refine aE rfl ?_ ?_
   ·intro gB
    replace gB:=aS gB;have yQ:M.m.eP k=false:=by simpa using gB
    refine cA ?_;refine Ro (k+1) (⟨by omega,λj h=>(by by_cases e:j=k;exact e▸yQ;exact hns j (by omega))⟩) ((by omega))
   intro gB;replace gB:=aS gB;have yQ:M.m.eP k=true:=by simpa using gB
   rw[NK FB hns yQ]at VZ;dsimp only at VZ;refine mF ?_;refine cO ?_;have RJ:=λj (h:jr B.C j=none)=>yF (m:=M.m) h;have aaE:=λj p g (h:jr B.C j=some p)=>AP (m:=M.m) (p:=p) g h;have RI:=λj g=>yE (m:=M.m) (C:=B.C) (k:=j) g;have aaD:=λj o h=>qX (m:=M.m) (C:=B.C) (k:=j) (o:=o) h;have b_0:fR M.m B.C 0=none:=rfl;generalize fR M.m B.C=bf at*;generalize hlc:jr B.C=lc at*;refine bm ?_;refine Lp (oA P5 λb1=> ?_);refine Lp (iF su ?_ (h1:=by simp[cZ,Value.cells,Value.oneCell']));refine bW ?_;refine Hh (H':= [af b1 218 [CO CN (-1),CO CN 0,CO CN 0, .bool false],Cl z.y.b B.C,af z.y.mo 220 [CM z.y.b,aL z.s,aY z.s,bI z.s, .slice (some ⟨z.ub,0,none⟩) M.m.un.length M.m.un.length,CO CN M.m.st,CO CN M.m.pg,CO CN M.m.fr,CO CN M.m.tt, .bool M.m.on],kL z.ub M.m,aG (A5 z B M)]) ?_;rw[show([CO CN (-1),CO CN 0,CO CN 0, .bool false]:List Value)=OI k (bf 0) by rw[b_0];rfl];refine Lo (ι:=Nat) [41,42,4,43,44,45,46,47,48,49,50,51,52,53,54,55,56,57,58,59,60,61,62,63,64,65,66,67,68,69,5,70,71,72,73,74,75,76,40] (λj=>j<=M.eR) (λj=> [(40,CO CN j)]) (λj=> [af b1 218 (OI k (bf j)),Cl z.y.b B.C,af z.y.mo 220 [CM z.y.b,aL z.s,aY z.s,bI z.s, .slice (some ⟨z.ub,0,none⟩) M.m.un.length M.m.un.length,CO CN M.m.st,CO CN M.m.pg,CO CN M.m.fr,CO CN M.m.tt, .bool M.m.on],kL z.ub M.m,aG (A5 z B M)]) (λj=>M.eR-j) (0) (afk _) ?_;rintro j hj;refine bz ?_;refine aw ?_;by_cases hjn:j<M.eR
   ·have sj:=stv j (by omega)
    have fj:=fre j (by omega);have lj:=lst j (by omega);have hfrj:=kF K j;refine eU ?_;refine cA ?_;refine aw ?_;rcases hsj:M.m.eP j with _|_
    ·rw[hsj]at sj
     rcases hb:bf j with _|o
     ·have AU:¬(M.m.eP j=true\/∃o,bf j=some o/\lW B.C j<=lW B.C o.2):=by
       rintro(h|⟨o,h,_⟩)
       ·rw[hsj]at h;cases h
       rw[hb]at h;cases h
      rw[show OI k none=([CO CN (-1),CO CN 0,CO CN 0, .bool false]:List Value)from rfl];refine hJ 24 mix (.cons .here (.cons .here (.cons .here (.cons .here .nil)))) λF1 jf bZ aN=> ?_;obtain⟨q0,q1,q2,q3,_⟩:=bZ;refine bA ?_;refine Tp (oC CF rfl rfl (sj) .nil (λ_ le _=>⟨In.mono q2 le,In.mono q3 le⟩) ?_);rintro v H' ⟨rfl,rfl⟩;refine aX ?_;refine av ?_;refine zf 46 ?_ (e:=by rfl);refine bm ?_;refine zf 50 ?_;refine rj ?_;refine gd aN ?_;refine bR ?_;refine aX ?_;refine zl CF (lj) .nil (λ_ le ao=>⟨ao.nth 2 rfl,ao.nth 1 rfl⟩) ?_;rcases hl:lc j with _|p
      ·have e1:([CO CN (-1),CO CN 0,CO CN 0, .bool false]:List Value)=OI k (bf (j+1)):=by rw[RJ j hl,hb];rfl
       refine bG ?_;refine cO ?_ (e:=by exact decide_eq_false (by show¬(0<=(-1:Int));omega));refine bG ?_;refine aF ?_;rw[e1];refine Ro (j+1) ((by omega)) ((by omega))
      have e1:([CO CN p,CO CN j,CO CN k, .bool true]:List Value)=OI k (bf (j+1)):=by rw[aaE j p AU hl];rfl
      refine bG ?_;refine eU ?_ (e:=by exact decide_eq_true (by show 0<=((p:Nat):Int);omega));refine bE ?_;refine Lp (iF su ?_ (h1:=by simp[cZ,Value.cells,Value.oneCell']));refine bG ?_;refine aF ?_;refine Hh (H':= [af b1 218 [CO CN p,CO CN j,CO CN k, .bool true],Cl z.y.b B.C,af z.y.mo 220 [CM z.y.b,aL z.s,aY z.s,bI z.s, .slice (some ⟨z.ub,0,none⟩) M.m.un.length M.m.un.length,CO CN M.m.st,CO CN M.m.pg,CO CN M.m.fr,CO CN M.m.tt, .bool M.m.on],kL z.ub M.m,aG (A5 z B M)]) ?_;rw[e1];refine Ro (j+1) ((by omega)) ((by omega))
     obtain⟨op,of⟩:=o;obtain⟨w1,w2,w3,w4⟩:=aaD j _ hb;dsimp only at w1 w2 w3 w4;have fo:=fre of (by omega);have hfro:=kF K of;rw[show OI k (some (op,of))=([CO CN op,CO CN of,CO CN k, .bool true]:List Value)from rfl];refine hJ 24 mix (.cons .here (.cons .here (.cons .here (.cons .here .nil)))) λF2 yO ez cQ=> ?_;obtain⟨q0,q1,q2,q3,_⟩:=ez;refine bA ?_;refine Tp (oC CF rfl rfl (sj) .nil (λ_ le _=>⟨In.mono q2 le,In.mono q3 le⟩) ?_);rintro v H' ⟨rfl,rfl⟩;refine aX ?_;refine av ?_;refine zf 46 ?_ (e:=by rfl);refine bm ?_;refine zt 50 ?_;refine bE ?_;refine Tp (oC CF rfl rfl (fj) .nil (λ_ le _=>In.mono q1 le) ?_);rintro v H' ⟨rfl,rfl⟩;refine aX ?_;refine bG ?_;refine Tp (oC CF rfl rfl (fo) .nil (λ_ le _=>In.mono q1 le) ?_);rintro v H' ⟨rfl,rfl⟩;refine aX ?_;refine bz ?_;refine gd cQ ?_;refine av ?_;by_cases hle:lW B.C j<=lW B.C of
     ·have e1:([CO CN op,CO CN of,CO CN k, .bool true]:List Value)=OI k (bf (j+1)):=by rw[RI j (.inr ⟨_,hb,hle⟩),hb];rfl
      refine eU ?_;refine bR ?_;refine aF ?_;refine aX ?_;rw[e1];refine Ro (j+1) ((by omega)) ((by omega))
     have AU:¬(M.m.eP j=true\/∃o,bf j=some o/\lW B.C j<=lW B.C o.2):=by
      rintro(h|⟨o,h,g⟩)
      ·rw[hsj]at h;cases h
      rw[hb]at h;cases h;exact hle g
     refine cO ?_;refine bE ?_;refine aX ?_;refine zl CF (lj) .nil (λ_ le ao=>⟨ao.nth 2 rfl,ao.nth 1 rfl⟩) ?_;rcases hl:lc j with _|p
     ·have e1:([CO CN op,CO CN of,CO CN k, .bool true]:List Value)=OI k (bf (j+1)):=by rw[RJ j hl,hb];rfl
      refine bG ?_;refine cO ?_ (e:=by exact decide_eq_false (by show¬(0<=(-1:Int));omega));refine bG ?_;refine aF ?_;rw[e1];refine Ro (j+1) ((by omega)) ((by omega))
     have e1:([CO CN p,CO CN j,CO CN k, .bool true]:List Value)=OI k (bf (j+1)):=by rw[aaE j p AU hl];rfl
     refine bG ?_;refine eU ?_ (e:=by exact decide_eq_true (by show 0<=((p:Nat):Int);omega));refine bE ?_;refine Lp (iF su ?_ (h1:=by simp[cZ,Value.cells,Value.oneCell']));refine bG ?_;refine aF ?_;refine Hh (H':= [af b1 218 [CO CN p,CO CN j,CO CN k, .bool true],Cl z.y.b B.C,af z.y.mo 220 [CM z.y.b,aL z.s,aY z.s,bI z.s, .slice (some ⟨z.ub,0,none⟩) M.m.un.length M.m.un.length,CO CN M.m.st,CO CN M.m.pg,CO CN M.m.fr,CO CN M.m.tt, .bool M.m.on],kL z.ub M.m,aG (A5 z B M)]) ?_;rw[e1];refine Ro (j+1) ((by omega)) ((by omega))
    rw[hsj]at sj;rw[<-RI j (.inl hsj)];refine hJ 24 mix (.cons .here (.cons .here (.cons .here (.cons .here .nil)))) λF3 Ow pt eI=> ?_;obtain⟨q0,q1,q2,q3,_⟩:=pt;refine bA ?_;refine Tp (oC CF rfl rfl (sj) .nil (λ_ le _=>⟨In.mono q2 le,In.mono q3 le⟩) ?_);rintro v H' ⟨rfl,rfl⟩;refine aX ?_;refine av ?_;refine zt 46 ?_ (e:=by rfl);refine cC ?_;refine gd eI ?_;refine cA ?_;refine aF ?_;refine aX ?_;refine Ro (j+1) ((by omega)) ((by omega))
   obtain rfl:j=M.eR:=by omega
   rw[Z8];refine cO ?_;rcases hb:fR M.m M.C M.eR with _|o
   ·rw[hb]at VZ
    rw[show OI k none=([CO CN (-1),CO CN 0,CO CN 0, .bool false]:List Value)from rfl];refine bE ?_;refine aw ?_;refine hJ 12 mix (.cons .here (.cons .here (.cons .here (.cons .here .nil)))) λF4 le4 Dg o6=> ?_;obtain⟨q0,q1,q2,q3,_⟩:=Dg;refine bz ?_;refine zf 79 ?_ (e:=by rfl);refine cA ?_;refine gd o6 ?_;refine bz ?_;refine aX ?_;refine Hh (H':= [Cl z.y.b B.C,af z.y.mo 220 [CM z.y.b,aL z.s,aY z.s,bI z.s, .slice (some ⟨z.ub,0,none⟩) M.m.un.length M.m.un.length,CO CN M.m.st,CO CN M.m.pg,CO CN M.m.fr,CO CN M.m.tt, .bool M.m.on],kL z.ub M.m,aG (A5 z B M)]) ?_;refine au (λh s=>aB O (H:= []) h (DK h s)) ?_;refine jW [SH z M] results136 ?_;exact⟨rfl,by rw[VZ]⟩
   obtain⟨op,of⟩:=o;obtain⟨w1,w2,w3,w4⟩:=aaD M.eR _ (Z8.trans hb);dsimp only at w1 w2 w3 w4;obtain⟨jV,S,O2⟩:=O.leave hoff (t:=k) w1 w2 w3;rw[hb]at VZ;dsimp only at VZ;rw[show OI k (some (op,of))=([CO CN op,CO CN of,CO CN k, .bool true]:List Value)from rfl];refine bE ?_;refine aw ?_;refine hJ 9 mix (.cons .here (.cons (.there .here) .nil)) λF5 le5 Wu vF=> ?_;obtain⟨q0,q2,_⟩:=Wu;refine bz ?_;refine zt 79 ?_ (e:=by rfl);refine bG ?_;refine gd vF ?_;refine Tp (oC CF rfl rfl (TP z.y.b B.C K op w1 w2 jV) (.cons (.there (.there .here)) .nil) CI ?_);rintro v H' ⟨rfl,rfl⟩;refine aX ?_;refine cA ?_;refine Lp (oSN su ?_ (h1:=by simp[cZ,Value.cells,Value.oneCell']));refine aF ?_;refine Hh (H':= [Cl z.y.b (B.C.eJ op),af z.y.mo 220 [CM z.y.b,aL z.s,aY z.s,bI z.s, .slice (some ⟨z.ub,0,none⟩) M.m.un.length M.m.un.length,CO CN M.m.st,CO CN op,CO CN of,CO CN k, .bool true],kL z.ub M.m,aG (A5 z B M)]) ?_;rw[afj (N:=M.C.eJ op) (m':={M.m with pg:=op,fr:=of,tt:=k,on:=true}) O S];rw[VZ];refine au (λh s=>aB O2 (H:= []) h (DK h s)) ?_;refine jW [SH z {M with C:=M.C.eJ op,m:={M.m with pg:=op,fr:=of,tt:=k,on:=true}}] results136 ?_;exact⟨rfl,rfl⟩
  obtain rfl:k=M.eR:=by omega
  rw[NL hns]at VZ;refine zf 19 ?_;refine cC ?_;refine bA ?_;refine eU ?_;refine bA ?_;refine au (λh s=>aB O (H:= []) h (DK h s)) ?_;refine Rt0 [SH z M] results136 ?_;exact⟨rfl,by rw[VZ]⟩
theorem DT{α:Type}(f:α->Nat):∀l:List α,(∀x∈l,f x=0)->(l.map f).sum=0
 | [],_=>rfl
 |x::l,h=>by
  rw[aaX,aa8,h x aaV,DT f l λy hy=>h y (aaW _ hy)]
theorem HO{C:Cs}(K:Ok C)(h:0<C.spare):∃i,C.gA=some i:=by
 cases hf:C.gA with
 |some i=>exact⟨i,rfl⟩
 |none=>
  exfalso;have h1:∀x∈C.bc,y9 x=0:=λx hx=>by
   have:=af4.1 hf x hx;unfold y9;rw[if_pos (by simpa using this)]
  have h2:=K.sp;unfold Cs.zI at h2;have h3:=DT y9 C.bc h1;omega
theorem E2{C:Cs}(K:Ok C){c:Nat}(hc:c<C.ae.length)(h:0<C.spare):∃p D,C.eD c=some (p,D)/\C.spare<=D.spare+1:=by
 unfold Cs.eD;cases (C.rw c).free.getLast? with
 |some p=>exact⟨p,_,rfl,Nat.le_succ _⟩
 |none=>
  obtain⟨i,hi⟩:=HO K h;obtain⟨p,hp⟩:=yh K (i:=i) hc;dsimp only;rw[hi];dsimp only;rw[hp];refine⟨p,_,rfl, ?_⟩;show C.spare<=C.spare-1+1;omega
structure Gv (C D:Cs):Prop where
 sz:D.ae=C.ae
 n:D.n=C.n
 ps:D.aj=C.aj
 sp:D.spare=C.spare
 pg:∀c,(D.rw c).pgs=(C.rw c).pgs
 tk:∀c,(D.rw c).dL<=(C.rw c).dL
theorem Gv.refl (C:Cs):Gv C C:=⟨rfl,rfl,rfl,rfl,λ_=>rfl,λ_=>aa0 _⟩
theorem Gv.trans{C D E:Cs}(a:Gv C D)(b:Gv D E):Gv C E:=⟨b.sz.trans a.sz,b.n.trans a.n,b.ps.trans a.ps,b.sp.trans a.sp,λc=>(b.pg c).trans (a.pg c),λc=>ai5 (b.tk c) (a.tk c)⟩
theorem JV (C:Cs)(p:Nat):Gv C (C.bq p):=by
 have h:∀c,(C.bq p).rw c=C.rw c\/((C.bq p).rw c).pgs=(C.rw c).pgs/\((C.bq p).rw c).dL=(C.rw c).dL-1:=λc=>by
  by_cases g:C.cl p<C.rows.length
  ·have e:(C.bq p).rw c=_:=xz C (C.cl p) c {C.rw (C.cl p)with free:=if(C.pg (C.pn p)).lv=true then(C.rw (C.cl p)).free else(C.rw (C.cl p)).free++ [p],dL:=(C.rw (C.cl p)).dL-1} g
   by_cases i:c=C.cl p
   ·rw[if_pos i]at e
    right
    rw[e,i];exact⟨rfl,rfl⟩
   rw[if_neg i]at e;exact .inl e
  left
  unfold Cs.bq Cs.put Cs.rw;dsimp only;rw[List.set_eq_of_length_le (by omega)]
 refine⟨rfl,rfl,rfl,rfl,λc=> ?_,λc=> ?_⟩
 ·rcases h c with e|⟨e,_⟩
  ·rw[e]
  exact e
 rcases h c with e|⟨_,e⟩
 ·rw[e];exact aa0 _
 omega
structure Ev (M N:Mo):Prop where
 on:N.m.on=M.m.on
 g:Gv M.C N.C
theorem Ev.rf{M N:Mo}(h1:N.m.on=M.m.on)(h2:N.C=M.C):Ev M N:=⟨h1,by rw[h2];exact .refl _⟩
theorem Ev.trans{M N O:Mo}(a:Ev M N)(b:Ev N O):Ev M O:=⟨b.on.trans a.on,a.g.trans b.g⟩
theorem Ev.ca (M:Mo)(p:Nat):Ev M (M.ca p):=⟨rfl,JV M.C p⟩
theorem Ev.look (M:Mo)(p:Nat):Ev M (M.look p):=by
 unfold Mo.look
 split
 ·exact Ev.ca M p
 exact .rf rfl rfl
theorem Ev.looks:∀(l:List Nat) (M:Mo),Ev M (l.foldl Mo.look M)
 | [],_=> .rf rfl rfl
 |p::l,M=>(Ev.look M p).trans (Ev.looks l (M.look p))
theorem Ev.cu:∀(f:Nat) (M:Mo),Ev M (M.cu f).2
 |0,_=> .rf rfl rfl
 |f+1,M=>by
  unfold Mo.cu
  split
  ·next x h=>
   split
   ·next p hp=>exact((Ev.rf rfl rfl:Ev M {M with x:=x.pass M.Q}).trans (Ev.look _ p)).trans (Ev.cu f _)
   exact .rf rfl rfl
  exact .rf rfl rfl
theorem Ev.cN (M:Mo)(now aI:Int):Ev M (M.cN now aI).2:=by
 unfold Mo.cN
 split
 ·exact .rf rfl rfl
 exact(Ev.looks _ M).trans (Ev.cu _ _)
structure lH (M:Mo)(j:Nat):Prop where
 on:M.m.on=false
 sp:j<=M.C.spare
theorem lH.ev{M N:Mo}{j:Nat}(A:lH M j)(E:Ev M N):lH N j:=⟨E.on.trans A.on,by rw[E.g.sp];exact A.sp⟩
theorem lH.le{M:Mo}{i j:Nat}(A:lH M j)(h:i<=j):lH M i:=⟨A.on,ai5 h A.sp⟩
theorem bL.mc0{B:Bx}{M:Mo}(O:bL B M):Ok M.C:=by
 have h:=O.k.wA M.C.A;rw[O.c]at h;exact h
def Mo.du:Nat->Mo->Nat×Mo
 |0,M=>(0,M)
 |f+1,M=>if M.eh.1=true then((M.eh.2.du f).1+1,(M.eh.2.du f).2)else(0,M.eh.2)
def Mo.fB (M:Mo):Mo:={M with m:={M.m with st:=M.m.st+1}}
noncomputable def Mo.gF (M:Mo)(aI:Int):Nat×Mo:=if min aI 1048576<1 then(0,M)else if M.m.on=true then M.fB.du (min aI 1048576).toNat else(0,M.fB.fH)
theorem qL{M N:Mo}{f:Nat}(h:M.eh=(true,N)):M.du (f+1)=((N.du f).1+1,(N.du f).2):=by
 conv=>lhs;unfold Mo.du
 rw[h];rfl
theorem qM{M N:Mo}{f:Nat}(h:M.eh=(false,N)):M.du (f+1)=(0,N):=by
 conv=>lhs;unfold Mo.du
 rw[h];rfl
theorem bL.fB{B:Bx}{M:Mo}(O:bL B M):bL B M.fB:=
 ⟨O.c,O.k,O.t,O.ty,O.o,O.x,O.mq,O.ck,O.al,O.lv,O.ho,O.it,O.e,O.st,O.nb,O.mg,O.mo,O.bt,O.un,O.on,O.go,O.wn,O.cf,O.n,O.lg⟩
theorem WU{M N:Mo}{c r:Nat}(h:M.take c=some (r,N)):N.m=M.m:=by
 unfold Mo.take at h;cases hc:M.C.eD c with
 |none=>rw[hc]at h;cases h
 |some o=>rw[hc]at h;cases h;rfl
theorem DW{M N:Mo}{p:Nat}(h:M.shift p=some N):N.hole=none/\N.m=M.m:=by
 unfold Mo.shift at h;cases hc:M.take (M.C.cl p)with
 |none=>rw[hc]at h;cases h
 |some o=>
  rw[hc]at h;cases h;exact⟨rfl,WU (r:=o.1) (N:=o.2) hc⟩
theorem TD{M N:Mo}(hh:M.hole=none)(h:M.eh=(true,N)):N.hole=none/\N.m=M.m:=by
 unfold Mo.eh at h
 split at h
 ·cases h
 split at h
 ·cases h;exact⟨hh,rfl⟩
 split at h
 ·next hs=>cases h;exact DW hs
 cases h
theorem kE (z:Ly)(M:Mo)(hh:M.hole=none)(gB:M.m.st<4611686018427387904)(aI:Int):aO aaO 89 [CM z.y.mo,CO CN aI] (λ_=>True) [SH z M]
  (λv H=>∃n N,M.gF aI=(n,N)/\v=CO CN n/\H= [SH z N]):=by
 have rz:M.gF aI=if min aI 1048576<1 then(0,M)else if M.m.on=true then M.fB.du (min aI 1048576).toNat else(0,M.fB.fH):=rfl
 have hmle:min aI 1048576<=1048576:=akn _ _;refine ag func89 rfl ntmps89 rfl ?_;intro F _;refine bE ?_;refine Li Mi ?_;refine bA ?_;refine aw ?_;refine ay (t:=1) (v':=(CO CN (min aI 1048576))) rfl (by rfl) ?_;generalize min aI 1048576=m at*;refine bm ?_;by_cases h1:m<1
 ·rw[if_pos h1]at rz
  refine eU ?_ (e:=by exact decide_eq_true h1);refine bE ?_;refine Rt [SH z M] results89 ?_;exact⟨0,M,rz,rfl,rfl⟩
 rw[if_neg h1]at rz;refine cO ?_ (e:=by exact decide_eq_false h1);refine bA ?_;refine cF λB O=>au aaz ?_;unfold iT CQ;refine C9 ?_;refine au (λh s=>aB O.fB (H:= []) h (DK h (z:=z) (B:=B) (M:=M.fB) s)) ?_;rcases jF:M.m.on with _|_
 ·rw[jF,if_neg (by decide)]at rz
  refine bz ?_;refine zl CF (LO z M.fB jF) (.cons .here .nil) CI ?_;refine bG ?_;refine Rt [SH z M.fB.fH] results89 ?_;exact⟨0,_,rz,rfl,rfl⟩
 rw[jF,if_pos rfl]at rz;refine dm ?_;refine Lo (ι:=Mo×Nat) [25,26,27,28,29,30,31,32,33,5] (λs=>(s.1.hole=none/\s.1.m=M.fB.m/\s.2<=m.toNat)/\M.fB.du m.toNat=(s.2+(s.1.du (m.toNat-s.2)).1,(s.1.du (m.toNat-s.2)).2)) (λs=> [(5,CO CN s.2)]) (λs=> [SH z s.1]) (λs=>m.toNat-s.2) ((M.fB,0)) ⟨⟨hh,rfl,afk _⟩,(by dsimp only;rw[abd];rfl)⟩ ?_;rintro⟨N,l⟩ hI;dsimp only at hI⊢;obtain⟨⟨i1,i2,i3⟩,i4⟩:=hI;have hNon:N.m.on=true:=by rw[i2];exact jF
 refine bG ?_;by_cases hlm:(l:Int)<m
 ·obtain⟨f,hf⟩:∃f,m.toNat-l=f+1:=⟨m.toNat-l-1,by omega⟩
  rw[hf]at i4;refine zt 28 ?_ (e:=by exact decide_eq_true hlm);refine av ?_;refine Lp (oC CF rfl rfl (TH z N i1 hNon) (.cons .here .nil) CI ?_);rintro v H' ⟨r,N2,FR,rfl,rfl⟩;refine aX ?_;rcases r with _|_
  ·rw[qM FR]at i4
   refine gz ?_;refine Rt [SH z N2] results89 ?_;exact⟨l,N2,rz.trans i4,rfl,rfl⟩
  rw[qL FR]at i4;obtain⟨g1,g2⟩:=TD i1 FR;refine dB ?_;refine Ro ((N2,l+1)) (⟨⟨g1,g2.trans i2,(by dsimp only;omega)⟩,(by dsimp only;rw[i4,show m.toNat-(l+1)=f by omega];exact Prod.ext (by dsimp only;omega) rfl)⟩) ((by dsimp only;omega))
 rw[show m.toNat-l=0 by omega]at i4;refine zf 28 ?_ (e:=by exact decide_eq_false hlm);refine mF ?_;refine Rt [SH z N] results89 ?_;exact⟨l,N,rz.trans i4,rfl,rfl⟩
theorem bL.tbl{B:Bx}{M:Mo}(O:bL B M){A:By}{V:Tb}{ty:qw}{nb mg:Nat}(d:rD B.C.A A B.W.all 0 4)(T:dq (B.C.wA A) V)(pm:V.all.Perm B.W.all)(hy:ty.ok=none->V.ob= [])(hn:V.n=B.W.n)(hmo:V.aI=B.W.aI)(AU:V.size=nb)(C4:mg=if V.st=2 then V.ob.length-V.mv else 0)(gB:V.st=2->V.mv<V.ob.length):
  bL ⟨B.C.wA A,V,ty,B.E⟩ {M with nb:=nb,mg:=mg}:=by
 have K:=O.k;have dP:=vE d (λq hq=>O.nm hq) (λq hq=>by have:=((O.nm hq).bn K).2.1;omega);have same:∀q∈B.W.all,mJ A q=mJ B.C.A q:=λq h=>vz K dP (O.nm h) (O.t.it q h) λj s=>by obtain⟨_,_,s3⟩:=s;omega
 have jV:∀q,Live (B.C.wA A) q↔Live B.C q:=λq=>⟨λh=>⟨⟨h.i,h.own,h.al,h.k⟩,h.tk⟩,λh=>h.wA _⟩;refine⟨?_,K.wA A,T,hy,KF K O.o dP (λj q hq u g=>S04 g),O.x,λj q h=> ?_,O.ck,λq=>pm.mem_iff.trans (O.al q),λq=> ?_,λq h g=>O.ho q h (pm.mem_iff.1 g),λq h=>(same q (pm.mem_iff.1 h)).trans (O.it q (pm.mem_iff.1 h)),O.e.trans (jD pm.symm),gB,AU,C4,hmo.trans O.mo, ?_,O.un,O.on,O.go,O.wn,O.cf,hn.trans O.n,λq h=>O.lg q (pm.mem_iff.1 h)⟩
 ·show B.C.wA A=M.C.wA A
  conv=>lhs;rw[O.c]
  rfl
 ·show dz A q<16
  rw[show dz A q=dz B.C.A q from congrArg I3.ff (same q (O.oa h))];exact O.mq j q h
 ·show Live (B.C.wA A) q↔q∈V.all\/_
  rw[jV,pm.mem_iff];exact O.lv q
 show M.v.eW=_;rw[O.bt];exact(me _ pm).symm
def Mo.zK (M:Mo)(k:Nat):Mo:={M with mg:=M.mg-min k M.mg}
theorem bL.tst{B:Bx}{M:Mo}(O:bL B M){k:Nat}{A:By}{V:Tb}{ty:qw}(h2:B.W.st=2)(hy:ty.ok=none->V.ob= [])(S:Stp B.C B.W k A V):bL ⟨B.C.wA A,V,ty,B.E⟩ (M.zK k):=by
 have cL:=O.st h2;have C4:=O.mg;rw[if_pos h2]at C4;have hz:V.ob.length-V.mv=if B.W.mv+k<B.W.ob.length then M.mg-min k M.mg else V.ob.length-V.mv:=by
  split
  ·next g=>obtain⟨_,e1,e2⟩:=S.on g;rw[e1,e2,C4];omega
  rfl
 refine O.tbl (nb:=M.nb) (mg:=M.mg-min k M.mg) S.d S.o S.p hy S.n S.aI (S.size.trans O.nb) ?_ ?_
 ·by_cases g:B.W.mv+k<B.W.ob.length
  ·obtain⟨e0,e1,e2⟩:=S.on g
   rw[if_pos e0,e1,e2,C4];omega
  have e0:=S.off (by omega);rw[if_neg (by omega),C4];omega
 intro e;by_cases g:B.W.mv+k<B.W.ob.length
 ·obtain⟨e0,e1,e2⟩:=S.on g
  rw[e1,e2];exact g
 have e0:=S.off (by omega);omega
theorem K7{B:Bx}{M:Mo}(O:bL B M)(z:Ly)(k:Nat)(hk:k<=1099511627776):
  aO aaO 88 [CM z.y.t,CO CN k] (λ_=>True) (Cl z.y.b B.C::nq z.y.t z.y.b B.W B.ty)
   (λv H=>v=CO CN (min k M.mg:Nat)/\∃A V ty,H=Cl z.y.b (B.C.wA A)::nq z.y.t z.y.b V ty/\bL ⟨B.C.wA A,V,ty,B.E⟩ (M.zK k)):=by
 rcases O.t.st with⟨h0,_⟩|⟨h2,_,_⟩
 ·have hm0:=O.st0.2 h0
  have h:=(La z.y.t z.y.b B.C O.k B.W B.ty h0 k).fr (H:=Cl z.y.b B.C::nq z.y.t z.y.b B.W B.ty) (R:=Cl z.y.b B.C::nq z.y.t z.y.b B.W B.ty) (lD [] _) (λk ao=>ao.nth 1 rfl);refine h.out ?_;rintro v H' ⟨H0,⟨rfl,rfl⟩,rfl⟩;refine⟨_,⟨by rw[hm0,akB];rfl,B.C.A,B.W,B.ty,rfl, ?_⟩,λ_ s=>s⟩;have:M.zK k=M:=by unfold Mo.zK;rw[hm0,akB];cases M;simp_all
  rw[this];exact O
 have cL:=O.st h2;have C4:=O.mg;rw[if_pos h2]at C4;obtain⟨ok,nj⟩:∃ok,B.ty.ok=some ok:=by
  cases h:B.ty.ok with
  |none=>have:=O.ty h;rw[this]at cL;simp at cL
  |some x=>exact⟨x,rfl⟩
 have hty:B.ty=⟨B.ty.nk,some ok⟩:=by rw[<-nj]
 have h:=K8 z.y.t z.y.b B.C O.k B.W B.ty.nk ok O.t h2 cL k hk;rw[<-hty]at h;refine h.out ?_;rintro v H' ⟨rfl,A,V,o',rfl,hy,S⟩;exact⟨_,⟨by rw[C4],A,V,⟨B.ty.nk,o'⟩,rfl,O.tst h2 hy S⟩,λ_ s=>s⟩
def Mo.aU (M:Mo)(t:Mt):Mo:={M with v:={M.v with mt:=t}}
theorem bL.aU{B:Bx}{M:Mo}(O:bL B M)(t:Mt):bL B (M.aU t):=
 ⟨O.c,O.k,O.t,O.ty,O.o,O.x,O.mq,O.ck,O.al,O.lv,O.ho,O.it,O.e,O.st,O.nb,O.mg,O.mo,O.bt,O.un,O.on,O.go,O.wn,O.cf,O.n,O.lg⟩
theorem JG (M:Mo)(p:Nat):(M.look p).hole=M.hole/\(M.look p).m=M.m/\(M.look p).v.p=M.v.p/\(M.look p).v.mt=M.v.mt/\(M.look p).v.c=M.v.c/\(M.look p).v.bh=M.v.bh/\(M.look p).tn=M.tn:=by
 unfold Mo.look
 split<;>exact⟨rfl,rfl,rfl,rfl,rfl,rfl,rfl⟩
theorem Ee:∀(l:List Nat) (M:Mo),(l.foldl Mo.look M).hole=M.hole/\(l.foldl Mo.look M).m=M.m/\(l.foldl Mo.look M).v.p=M.v.p/\(l.foldl Mo.look M).v.mt=M.v.mt/\(l.foldl Mo.look M).v.c=M.v.c/\(l.foldl Mo.look M).v.bh=M.v.bh/\(l.foldl Mo.look M).tn=M.tn
 | [],M=>⟨rfl,rfl,rfl,rfl,rfl,rfl,rfl⟩
 |p::l,M=>by
  obtain⟨a1,a2,a3,a4,a5,a6,a7⟩:=JG M p;obtain⟨b1,b2,b3,b4,b5,b6,b7⟩:=Ee l (M.look p);rw[af8];exact⟨b1.trans a1,b2.trans a2,b3.trans a3,b4.trans a4,b5.trans a5,b6.trans a6,b7.trans a7⟩
theorem AK:∀(f:Nat) (M:Mo),(M.cu f).2.hole=M.hole/\(M.cu f).2.m=M.m/\(M.cu f).2.v.p=M.v.p/\(M.cu f).2.v.mt=M.v.mt/\(M.cu f).2.v.c=M.v.c/\(M.cu f).2.v.bh=M.v.bh/\(M.cu f).2.tn=M.tn
 |0,M=>⟨rfl,rfl,rfl,rfl,rfl,rfl,rfl⟩
 |f+1,M=>by
  rcases hf:M.x.find M.eR M.Q with⟨_|_,x⟩
  ·rw[qU hf];exact⟨rfl,rfl,rfl,rfl,rfl,rfl,rfl⟩
  cases hx:x.nx with
  |none=>
   unfold Mo.cu;rw[hf];dsimp only;rw[hx];exact⟨rfl,rfl,rfl,rfl,rfl,rfl,rfl⟩
  |some p=>
   rw[qT hf hx];obtain⟨a1,a2,a3,a4,a5,a6,a7⟩:=JG {M with x:=x.pass M.Q} p;obtain⟨b1,b2,b3,b4,b5,b6,b7⟩:=AK f (({M with x:=x.pass M.Q}:Mo).look p);exact⟨b1.trans a1,b2.trans a2,b3.trans a3,b4.trans a4,b5.trans a5,b6.trans a6,b7.trans a7⟩
theorem nM (M:Mo)(now aI:Int):(M.cN now aI).2.hole=M.hole/\(M.cN now aI).2.m=M.m/\(M.cN now aI).2.v.p=M.v.p/\(M.cN now aI).2.v.mt=M.v.mt/\(M.cN now aI).2.v.c=M.v.c/\(M.cN now aI).2.v.bh=M.v.bh/\(M.cN now aI).2.tn=M.tn:=by
 unfold Mo.cN
 split
 ·exact⟨rfl,rfl,rfl,rfl,rfl,rfl,rfl⟩
 unfold Mo.so;obtain⟨a1,a2,a3,a4,a5,a6,a7⟩:=Ee (M.kQ now (min aI 1048576)) M;obtain⟨b1,b2,b3,b4,b5,b6,b7⟩:=AK ((min aI 1048576).toNat-(M.kQ now (min aI 1048576)).length) ((M.kQ now (min aI 1048576)).foldl Mo.look M);exact⟨b1.trans a1,b2.trans a2,b3.trans a3,b4.trans a4,b5.trans a5,b6.trans a6,b7.trans a7⟩
structure CU (M N:Mo):Prop where
 h:M.hole=none->N.hole=none
 p:N.v.p=M.v.p
 mt:N.v.mt=M.v.mt
 c:N.v.c=M.v.c
 bh:N.v.bh=M.v.bh
 tn:N.tn=M.tn
 k:N.k=M.k
 w:N.j6=M.j6
theorem CU.refl (M:Mo):CU M M:=⟨id,rfl,rfl,rfl,rfl,rfl,rfl,rfl⟩
theorem CU.trans{M N O:Mo}(a:CU M N)(b:CU N O):CU M O:=⟨λh=>b.h (a.h h),b.p.trans a.p,b.mt.trans a.mt,b.c.trans a.c,b.bh.trans a.bh,b.tn.trans a.tn,b.k.trans a.k,b.w.trans a.w⟩
theorem Vr (M:Mo)(p:Nat):CU M (M.ca p):=⟨id,rfl,rfl,rfl,rfl,rfl,rfl,rfl⟩
theorem Lt{M N:Mo}{p:Nat}(h:M.shift p=some N):CU M N:=by
 unfold Mo.shift at h;cases hc:M.take (M.C.cl p)with
 |none=>rw[hc]at h;cases h
 |some o=>
  rw[hc]at h;cases h;unfold Mo.take at hc;cases hd:M.C.eD (M.C.cl p)with
  |none=>rw[hd]at hc;cases hc
  |some q=>rw[hd]at hc;cases hc;exact⟨λ_=>rfl,rfl,rfl,rfl,rfl,rfl,rfl,rfl⟩
theorem Ar{M N:Mo}{r:Bool}(h:M.eh=(r,N)):CU M N/\N.m.st=M.m.st:=by
 unfold Mo.eh at h
 split at h
 ·cases h;exact⟨⟨id,rfl,rfl,rfl,rfl,rfl,rfl,rfl⟩,rfl⟩
 split at h
 ·cases h;exact⟨Vr M _,rfl⟩
 split at h
 ·next hs=>cases h;exact⟨Lt hs,by rw[(DW hs).2]⟩
 cases h;exact⟨⟨id,rfl,rfl,rfl,rfl,rfl,rfl,rfl⟩,rfl⟩
theorem yA:∀(f:Nat) (M:Mo),CU M (M.du f).2/\(M.du f).2.m.st=M.m.st
 |0,M=>⟨CU.refl M,rfl⟩
 |f+1,M=>by
  rcases hm:M.eh with⟨_|_,N⟩
  ·rw[qM hm];exact Ar hm
  rw[qL hm];obtain⟨a,b⟩:=Ar hm;obtain⟨c,d⟩:=yA f N;exact⟨a.trans c,d.trans b⟩
theorem H3 (M:Mo):CU M M.fH/\M.fH.m.st=M.m.st:=by
 unfold Mo.fH
 split
 ·exact⟨CU.refl M,rfl⟩
 split
 ·exact⟨CU.refl M,rfl⟩
 split
 ·exact⟨CU.refl M,rfl⟩
 exact⟨⟨id,rfl,rfl,rfl,rfl,rfl,rfl,rfl⟩,rfl⟩
theorem ij (M:Mo)(aI:Int):CU M (M.gF aI).2/\(M.gF aI).2.m.st<=M.m.st+1:=by
 unfold Mo.gF
 split
 ·exact⟨CU.refl M,Nat.le_succ _⟩
 have t:CU M M.fB:=⟨id,rfl,rfl,rfl,rfl,rfl,rfl,rfl⟩
 split
 ·obtain⟨a,b⟩:=yA (min aI 1048576).toNat M.fB
  exact⟨t.trans a,by rw[b];exact aa0 _⟩
 obtain⟨a,b⟩:=H3 M.fB;exact⟨t.trans a,by show M.fB.fH.m.st<=_;rw[b];exact aa0 _⟩
structure zr (p:um):Prop where
 b:0<=p.b/\p.b<=1048576
 l:0<=p.l/\p.l<=1048576
 c:0<=p.c/\p.c<=1048576
 m:0<=p.m/\p.m<=1048576
def Mo.fw (M:Mo):Mo:=(M.zK M.v.p.b.toNat).aU {M.v.mt with bu:=cE (M.v.mt.bu+(min M.v.p.b.toNat M.mg:Nat))}
noncomputable def Mo.jG (M:Mo):Mo:=(M.cN M.k.now M.v.p.c).2.aU {M.v.mt with cr:=cE (M.v.mt.cr+((M.cN M.k.now M.v.p.c).1:Nat))}
noncomputable def Mo.lz (M:Mo):Mo:=(M.gF M.v.p.m).2.aU {M.v.mt with mv:=cE (M.v.mt.mv+((M.gF M.v.p.m).1:Nat))}
noncomputable def Mo.beside (M:Mo):Mo:=M.fw.jG.lz
theorem Y0 (M:Mo):M.jG.hole=M.hole/\M.jG.m=M.m/\M.jG.v.p=M.v.p:=by
 obtain⟨a1,a2,a3,a4,a5,a6,a7⟩:=nM M M.k.now M.v.p.c;exact⟨a1,a2,a3⟩
theorem lH.gF{M:Mo}(A:lH M 1)(aI:Int):Ev M (M.gF aI).2:=by
 have h:=A.sp;have T:Ev M M.fB:= .rf rfl rfl;unfold Mo.gF
 split
 ·exact .rf rfl rfl
 rw[if_neg (by rw[A.on];decide)];unfold Mo.fH;rw[if_pos (show 0<M.fB.C.spare from(by show 0<M.C.spare;omega))];exact T
theorem NY (wy:pO)(z:Ly)(M:Mo)(hh:M.hole=none)(gB:M.m.st<4611686018427387904)(OA:zr M.v.p):aO aaO 45 [CM z.s] (λ_=>True) [SH z M]
  (λv H=>v= .tuple #[]/\H= [SH z M.beside]):=by
 refine ag func45 rfl ntmps45 rfl ?_;intro F _;refine cF λB O=> ?_;have ts:=K7 O z M.v.p.b.toNat (by have:=OA.b;omega);rw[show((M.v.p.b.toNat:Nat):Int)=M.v.p.b by have:=OA.b;omega]at ts;unfold dM fm iQ fb pV iZ;refine aX ?_;refine aw ?_;refine hJ 20 mix (.cons (.there (.there (.there (.there (.there (.there (.there (.there .here)))))))) .nil) λF1 jf bZ aN=> ?_;obtain⟨q1,_⟩:=bZ;refine mF ?_;refine Tp (oC CF rfl rfl (ts) (.cons .here (.cons .here (.cons .here (.cons .here .nil)))) CI ?_);rintro v H' ⟨rfl,A,V,ty,rfl,O1⟩;refine aX ?_;have O2:=O1.aU {M.v.mt with bu:=cE (M.v.mt.bu+(min M.v.p.b.toNat M.mg:Nat))};refine bm ?_;refine gd aN ?_;refine bA ?_;refine Hh (H':= [Cl z.y.b (B.C.wA A),af z.y.t 154 (fk z.y.b V ty),af ty.nk 149 (aM (aD V.nb)),jH ty.ok 149 (aM (aD V.ob)),af z.y.q 182 (fC z.y.b z.qb B.C.ae.length),af z.qb 333 (M.Q.flatMap (cV B.C)),gh z.y.cr z.y.q z.y.wh B.C.ae.length (aL z.s) (aY z.s) B.C M.x,Wl z.y.wh B.E M.tn,af z.s 96 [CM z.y.b,CM z.y.ck,CM z.y.t,CM z.y.lu,CM z.y.wh,CM z.y.cr,CM z.y.mo,CM z.y.q,CO CN M.v.c.aj,CO CN M.v.c.pgs,CO CN M.v.c.fac,CO CN M.v.c.bj,CO CN M.v.c.lim,CO CN M.v.c.hot,CO CN M.v.c.warm,CO CN M.v.p.b,CO CN M.v.p.l,CO CN M.v.p.c,CO CN M.v.p.m,CO CJ M.v.bh,CO CN M.v.eW,CO CN M.v.mt.dr,CO CN M.v.mt.re,CO CN (IntKind.i64.wrap (M.v.mt.bu+((min M.v.p.b.toNat M.mg:Nat):Int))),CO CN M.v.mt.li,CO CN M.v.mt.lo,CO CN M.v.mt.cr,CO CN M.v.mt.mv, .slice M.v.wa M.v.wn M.v.wc],kO z.y.ck M.k,jb z.y.lu z.y.b z.y.q z.hot z.warm,iT z.y.mo z.y.b z.ub (aL z.s) (aY z.s) (bI z.s) M.m,kL z.ub M.m,jJ M]) ?_;refine au (aB O2 (H:= [])) ?_;have vZ:M.fw.v.p=M.v.p:=rfl;have hh1:M.fw.hole=none:=hh;have yQ:M.fw.m.st=M.m.st:=rfl;change G _ _ _ _ _ [SH z M.fw];rw[show M.beside=M.fw.jG.lz from rfl];generalize M.fw=M1 at*;refine cF λB3 O3=> ?_;unfold dM fm iQ fb pV iZ;refine aX ?_;refine aw ?_;refine hJ 16 mix (.cons (.there (.there (.there (.there (.there (.there (.there (.there .here)))))))) .nil) λF2 yO ez cQ=> ?_;obtain⟨q1,_⟩:=ez;refine bM ?_;refine Tp (oC CF rfl rfl (kH z.y.ck M1.k) .nil (λ_ le ao=>ao.nth 8 rfl) ?_);rintro v H' ⟨rfl,rfl⟩;refine aX ?_;refine bE ?_;refine gd cQ ?_;refine aX ?_;refine au (λh s=>aB O3 (H:= []) h (by revert s;revert h;unfold dM fm iQ fb pV iZ;simp only[o8,cap];exact Eh)) ?_;refine Tp (oC CF rfl rfl (EP wy z M1 M1.k.now M1.v.p.c) (.cons .here .nil) CI ?_);rintro v H' ⟨n1,t1,M2,FV,rfl,rfl⟩;refine aX ?_;obtain⟨c1,c2,c3,c4,c5,c6,c7⟩:=nM M1 M1.k.now M1.v.p.c;have ed:M1.jG=M2.aU {M1.v.mt with cr:=cE (M1.v.mt.cr+(n1:Nat))}:=by unfold Mo.jG;rw[FV]
 rw[FV]at c1 c2 c3 c4;dsimp only at c1 c2 c3 c4;refine bG ?_;refine cF λB4 O4=> ?_;have O5:=O4.aU {M1.v.mt with cr:=cE (M1.v.mt.cr+(n1:Nat))};unfold dM fm iQ fb pV iZ;rw[c4];refine aX ?_;refine gz ?_;refine Hh (H':=gC z B4.C B4.W B4.ty B4.C.ae.length (M2.Q.flatMap (cV B4.C)) M2.x B4.E M2.tn (M2.v,[CO CJ M2.v.bh,CO CN M2.v.eW,CO CN M1.v.mt.dr,CO CN M1.v.mt.re,CO CN M1.v.mt.bu,CO CN M1.v.mt.li,CO CN M1.v.mt.lo,CO CN (IntKind.i64.wrap (M1.v.mt.cr+(n1:Int))),CO CN M1.v.mt.mv, .slice M2.v.wa M2.v.wn M2.v.wc]) M2.k M2.m M2 []) ?_;unfold gC oW;refine au (aB O5 (H:= [])) ?_;obtain⟨d1,d2,d3⟩:=Y0 M1;rw[vZ.symm]at OA;rw[hh1]at d1;rw[<-ed];have yP:M1.jG.m.st<4611686018427387904:=by rw[d2,yQ];exact gB
 clear ed O5
 generalize M1.jG=M3 at*;refine cF λB6 O6=> ?_;unfold dM fm iQ fb pV iZ;refine aX ?_;refine zT mix .nil λF3 Ow pt eI=> ?_;refine Dt 0 rfl Mv ?_;refine Dt 1 rfl Nc ?_;refine Dt 2 rfl (Fa iL) ?_;refine Dt 3 rfl (Fa jC) ?_;refine Dt 5 rfl Mv ?_;refine Dt 6 rfl Nc ?_;refine Dt 7 rfl (Fa nK) ?_;refine Dt 8 rfl (Fa Ez) ?_;refine Dt 10 rfl Mv ?_;refine Dt 11 rfl Nc ?_;refine Dt 12 rfl (Fa Ey) ?_;refine Dt 13 rfl (Fa EF) ?_;refine D3 4 9 14 ?_ ?_ ?_
 ·refine Do rfl (oL bC ?_)
  refine av ?_;refine D2 9 14 ?_ ?_
  ·refine Do rfl (oL zO ?_)
   refine av ?_;refine Dn 14 ?_;refine Do rfl (oL bC ?_);refine av ?_;refine au (λh s=>aB O6 (H:= []) h (by revert s;revert h;unfold dM fm iQ fb pV iZ;simp only[o8,cap];exact Eh)) ?_;refine Dn 15 ?_;refine Do rfl (oC CF rfl rfl (kE z M3 d1 yP M3.v.p.m) (.cons .here .nil) CI ?_);rintro v H' ⟨n2,M4,rz,rfl,rfl⟩;refine aX ?_;have rR:=(ij M3 M3.v.p.m).1.mt;rw[rz]at rR;change M4.v.mt=M3.v.mt at rR;refine cF λB7 O7=> ?_;unfold dM fm iQ fb pV iZ;rw[rR];refine aX ?_;refine av ?_;refine Dt 16 rfl Im ?_;refine Dt 17 rfl Nc ?_;refine Dt 18 rfl (Fa iL) ?_;refine Dt 19 rfl (Fa jC) ?_;refine Dn 20 ?_;refine Do rfl (oS bC ?_);refine av ?_;refine aV (by kernel_rfl) eI ?_;have cS:M3.lz=M4.aU {M3.v.mt with mv:=cE (M3.v.mt.mv+(n2:Nat))}:=by unfold Mo.lz;rw[rz]
   refine Hh (H':=gC z B7.C B7.W B7.ty B7.C.ae.length (M4.Q.flatMap (cV B7.C)) M4.x B7.E M4.tn (M4.v,[CO CJ M4.v.bh,CO CN M4.v.eW,CO CN M3.v.mt.dr,CO CN M3.v.mt.re,CO CN M3.v.mt.bu,CO CN M3.v.mt.li,CO CN M3.v.mt.lo,CO CN M3.v.mt.cr,CO CN (IntKind.i64.wrap (M3.v.mt.mv+(n2:Int))), .slice M4.v.wa M4.v.wn M4.v.wc]) M4.k M4.m M4 []) ?_;unfold gC oW;refine au (aB (O7.aU {M3.v.mt with mv:=cE (M3.v.mt.mv+(n2:Nat))}) (H:= [])) ?_;refine jW [SH z (M4.aU {M3.v.mt with mv:=cE (M3.v.mt.mv+(n2:Nat))})] results45 ?_;exact⟨rfl,by rw[cS]⟩
  refine Do rfl (oL bC ?_);refine av ?_;refine Dn 9 ?_;refine Do rfl (oL zO ?_);refine av ?_;refine au (λh s=>aB O6 (H:= []) h (by revert s;revert h;unfold dM fm iQ fb pV iZ;simp only[o8,cap];exact Eh)) ?_;refine Dn 15 ?_;refine Do rfl (oC CF rfl rfl (kE z M3 d1 yP M3.v.p.m) (.cons .here .nil) CI ?_);rintro v H' ⟨n2,M4,rz,rfl,rfl⟩;refine aX ?_;have rR:=(ij M3 M3.v.p.m).1.mt;rw[rz]at rR;change M4.v.mt=M3.v.mt at rR;refine cF λB7 O7=> ?_;unfold dM fm iQ fb pV iZ;rw[rR];refine aX ?_;refine av ?_;refine Dt 16 rfl Im ?_;refine Dt 17 rfl Nc ?_;refine Dt 18 rfl (Fa iL) ?_;refine Dt 19 rfl (Fa jC) ?_;refine Dn 20 ?_;refine Do rfl (oS bC ?_);refine av ?_;refine aV (by kernel_rfl) eI ?_;have cS:M3.lz=M4.aU {M3.v.mt with mv:=cE (M3.v.mt.mv+(n2:Nat))}:=by unfold Mo.lz;rw[rz]
  refine Hh (H':=gC z B7.C B7.W B7.ty B7.C.ae.length (M4.Q.flatMap (cV B7.C)) M4.x B7.E M4.tn (M4.v,[CO CJ M4.v.bh,CO CN M4.v.eW,CO CN M3.v.mt.dr,CO CN M3.v.mt.re,CO CN M3.v.mt.bu,CO CN M3.v.mt.li,CO CN M3.v.mt.lo,CO CN M3.v.mt.cr,CO CN (IntKind.i64.wrap (M3.v.mt.mv+(n2:Int))), .slice M4.v.wa M4.v.wn M4.v.wc]) M4.k M4.m M4 []) ?_;unfold gC oW;refine au (aB (O7.aU {M3.v.mt with mv:=cE (M3.v.mt.mv+(n2:Nat))}) (H:= [])) ?_;refine jW [SH z (M4.aU {M3.v.mt with mv:=cE (M3.v.mt.mv+(n2:Nat))})] results45 ?_;exact⟨rfl,by rw[cS]⟩
 ·refine Do rfl (oL zO ?_)
  refine av ?_;refine D2 4 14 ?_ ?_
  ·refine Do rfl (oL bC ?_)
   refine av ?_;refine Dn 14 ?_;refine Do rfl (oL bC ?_);refine av ?_;refine au (λh s=>aB O6 (H:= []) h (by revert s;revert h;unfold dM fm iQ fb pV iZ;simp only[o8,cap];exact Eh)) ?_;refine Dn 15 ?_;refine Do rfl (oC CF rfl rfl (kE z M3 d1 yP M3.v.p.m) (.cons .here .nil) CI ?_);rintro v H' ⟨n2,M4,rz,rfl,rfl⟩;refine aX ?_;have rR:=(ij M3 M3.v.p.m).1.mt;rw[rz]at rR;change M4.v.mt=M3.v.mt at rR;refine cF λB7 O7=> ?_;unfold dM fm iQ fb pV iZ;rw[rR];refine aX ?_;refine av ?_;refine Dt 16 rfl Im ?_;refine Dt 17 rfl Nc ?_;refine Dt 18 rfl (Fa iL) ?_;refine Dt 19 rfl (Fa jC) ?_;refine Dn 20 ?_;refine Do rfl (oS bC ?_);refine av ?_;refine aV (by kernel_rfl) eI ?_;have cS:M3.lz=M4.aU {M3.v.mt with mv:=cE (M3.v.mt.mv+(n2:Nat))}:=by unfold Mo.lz;rw[rz]
   refine Hh (H':=gC z B7.C B7.W B7.ty B7.C.ae.length (M4.Q.flatMap (cV B7.C)) M4.x B7.E M4.tn (M4.v,[CO CJ M4.v.bh,CO CN M4.v.eW,CO CN M3.v.mt.dr,CO CN M3.v.mt.re,CO CN M3.v.mt.bu,CO CN M3.v.mt.li,CO CN M3.v.mt.lo,CO CN M3.v.mt.cr,CO CN (IntKind.i64.wrap (M3.v.mt.mv+(n2:Int))), .slice M4.v.wa M4.v.wn M4.v.wc]) M4.k M4.m M4 []) ?_;unfold gC oW;refine au (aB (O7.aU {M3.v.mt with mv:=cE (M3.v.mt.mv+(n2:Nat))}) (H:= [])) ?_;refine jW [SH z (M4.aU {M3.v.mt with mv:=cE (M3.v.mt.mv+(n2:Nat))})] results45 ?_;exact⟨rfl,by rw[cS]⟩
  refine Do rfl (oL bC ?_);refine av ?_;refine D2 4 15 ?_ ?_
  ·refine Do rfl (oL bC ?_)
   refine av ?_;refine au (λh s=>aB O6 (H:= []) h (by revert s;revert h;unfold dM fm iQ fb pV iZ;simp only[o8,cap];exact Eh)) ?_;refine Dn 15 ?_;refine Do rfl (oC CF rfl rfl (kE z M3 d1 yP M3.v.p.m) (.cons .here .nil) CI ?_);rintro v H' ⟨n2,M4,rz,rfl,rfl⟩;refine aX ?_;have rR:=(ij M3 M3.v.p.m).1.mt;rw[rz]at rR;change M4.v.mt=M3.v.mt at rR;refine cF λB7 O7=> ?_;unfold dM fm iQ fb pV iZ;rw[rR];refine aX ?_;refine av ?_;refine Dt 16 rfl Im ?_;refine Dt 17 rfl Nc ?_;refine Dt 18 rfl (Fa iL) ?_;refine Dt 19 rfl (Fa jC) ?_;refine Dn 20 ?_;refine Do rfl (oS bC ?_);refine av ?_;refine aV (by kernel_rfl) eI ?_;have cS:M3.lz=M4.aU {M3.v.mt with mv:=cE (M3.v.mt.mv+(n2:Nat))}:=by unfold Mo.lz;rw[rz]
   refine Hh (H':=gC z B7.C B7.W B7.ty B7.C.ae.length (M4.Q.flatMap (cV B7.C)) M4.x B7.E M4.tn (M4.v,[CO CJ M4.v.bh,CO CN M4.v.eW,CO CN M3.v.mt.dr,CO CN M3.v.mt.re,CO CN M3.v.mt.bu,CO CN M3.v.mt.li,CO CN M3.v.mt.lo,CO CN M3.v.mt.cr,CO CN (IntKind.i64.wrap (M3.v.mt.mv+(n2:Int))), .slice M4.v.wa M4.v.wn M4.v.wc]) M4.k M4.m M4 []) ?_;unfold gC oW;refine au (aB (O7.aU {M3.v.mt with mv:=cE (M3.v.mt.mv+(n2:Nat))}) (H:= [])) ?_;refine jW [SH z (M4.aU {M3.v.mt with mv:=cE (M3.v.mt.mv+(n2:Nat))})] results45 ?_;exact⟨rfl,by rw[cS]⟩
  refine au (λh s=>aB O6 (H:= []) h (by revert s;revert h;unfold dM fm iQ fb pV iZ;simp only[o8,cap];exact Eh)) ?_;refine Do rfl (oC CF rfl rfl (kE z M3 d1 yP M3.v.p.m) (.cons .here .nil) CI ?_);rintro v H' ⟨n2,M4,rz,rfl,rfl⟩;refine aX ?_;have rR:=(ij M3 M3.v.p.m).1.mt;rw[rz]at rR;change M4.v.mt=M3.v.mt at rR;refine cF λB7 O7=> ?_;unfold dM fm iQ fb pV iZ;rw[rR];refine aX ?_;refine av ?_;refine Dn 4 ?_;refine Do rfl (oL bC ?_);refine av ?_;refine Dt 16 rfl Im ?_;refine Dt 17 rfl Nc ?_;refine Dt 18 rfl (Fa iL) ?_;refine Dt 19 rfl (Fa jC) ?_;refine Dn 20 ?_;refine Do rfl (oS bC ?_);refine av ?_;refine aV (by kernel_rfl) eI ?_;have cS:M3.lz=M4.aU {M3.v.mt with mv:=cE (M3.v.mt.mv+(n2:Nat))}:=by unfold Mo.lz;rw[rz]
  refine Hh (H':=gC z B7.C B7.W B7.ty B7.C.ae.length (M4.Q.flatMap (cV B7.C)) M4.x B7.E M4.tn (M4.v,[CO CJ M4.v.bh,CO CN M4.v.eW,CO CN M3.v.mt.dr,CO CN M3.v.mt.re,CO CN M3.v.mt.bu,CO CN M3.v.mt.li,CO CN M3.v.mt.lo,CO CN M3.v.mt.cr,CO CN (IntKind.i64.wrap (M3.v.mt.mv+(n2:Int))), .slice M4.v.wa M4.v.wn M4.v.wc]) M4.k M4.m M4 []) ?_;unfold gC oW;refine au (aB (O7.aU {M3.v.mt with mv:=cE (M3.v.mt.mv+(n2:Nat))}) (H:= [])) ?_;refine jW [SH z (M4.aU {M3.v.mt with mv:=cE (M3.v.mt.mv+(n2:Nat))})] results45 ?_;exact⟨rfl,by rw[cS]⟩
 refine Do rfl (oL bC ?_);refine av ?_;refine D2 4 9 ?_ ?_
 ·refine Do rfl (oL bC ?_)
  refine av ?_;refine Dn 9 ?_;refine Do rfl (oL zO ?_);refine av ?_;refine au (λh s=>aB O6 (H:= []) h (by revert s;revert h;unfold dM fm iQ fb pV iZ;simp only[o8,cap];exact Eh)) ?_;refine Dn 15 ?_;refine Do rfl (oC CF rfl rfl (kE z M3 d1 yP M3.v.p.m) (.cons .here .nil) CI ?_);rintro v H' ⟨n2,M4,rz,rfl,rfl⟩;refine aX ?_;have rR:=(ij M3 M3.v.p.m).1.mt;rw[rz]at rR;change M4.v.mt=M3.v.mt at rR;refine cF λB7 O7=> ?_;unfold dM fm iQ fb pV iZ;rw[rR];refine aX ?_;refine av ?_;refine Dt 16 rfl Im ?_;refine Dt 17 rfl Nc ?_;refine Dt 18 rfl (Fa iL) ?_;refine Dt 19 rfl (Fa jC) ?_;refine Dn 20 ?_;refine Do rfl (oS bC ?_);refine av ?_;refine aV (by kernel_rfl) eI ?_;have cS:M3.lz=M4.aU {M3.v.mt with mv:=cE (M3.v.mt.mv+(n2:Nat))}:=by unfold Mo.lz;rw[rz]
  refine Hh (H':=gC z B7.C B7.W B7.ty B7.C.ae.length (M4.Q.flatMap (cV B7.C)) M4.x B7.E M4.tn (M4.v,[CO CJ M4.v.bh,CO CN M4.v.eW,CO CN M3.v.mt.dr,CO CN M3.v.mt.re,CO CN M3.v.mt.bu,CO CN M3.v.mt.li,CO CN M3.v.mt.lo,CO CN M3.v.mt.cr,CO CN (IntKind.i64.wrap (M3.v.mt.mv+(n2:Int))), .slice M4.v.wa M4.v.wn M4.v.wc]) M4.k M4.m M4 []) ?_;unfold gC oW;refine au (aB (O7.aU {M3.v.mt with mv:=cE (M3.v.mt.mv+(n2:Nat))}) (H:= [])) ?_;refine jW [SH z (M4.aU {M3.v.mt with mv:=cE (M3.v.mt.mv+(n2:Nat))})] results45 ?_;exact⟨rfl,by rw[cS]⟩
 refine Do rfl (oL zO ?_);refine av ?_;refine D2 4 15 ?_ ?_
 ·refine Do rfl (oL bC ?_)
  refine av ?_;refine au (λh s=>aB O6 (H:= []) h (by revert s;revert h;unfold dM fm iQ fb pV iZ;simp only[o8,cap];exact Eh)) ?_;refine Dn 15 ?_;refine Do rfl (oC CF rfl rfl (kE z M3 d1 yP M3.v.p.m) (.cons .here .nil) CI ?_);rintro v H' ⟨n2,M4,rz,rfl,rfl⟩;refine aX ?_;have rR:=(ij M3 M3.v.p.m).1.mt;rw[rz]at rR;change M4.v.mt=M3.v.mt at rR;refine cF λB7 O7=> ?_;unfold dM fm iQ fb pV iZ;rw[rR];refine aX ?_;refine av ?_;refine Dt 16 rfl Im ?_;refine Dt 17 rfl Nc ?_;refine Dt 18 rfl (Fa iL) ?_;refine Dt 19 rfl (Fa jC) ?_;refine Dn 20 ?_;refine Do rfl (oS bC ?_);refine av ?_;refine aV (by kernel_rfl) eI ?_;have cS:M3.lz=M4.aU {M3.v.mt with mv:=cE (M3.v.mt.mv+(n2:Nat))}:=by unfold Mo.lz;rw[rz]
  refine Hh (H':=gC z B7.C B7.W B7.ty B7.C.ae.length (M4.Q.flatMap (cV B7.C)) M4.x B7.E M4.tn (M4.v,[CO CJ M4.v.bh,CO CN M4.v.eW,CO CN M3.v.mt.dr,CO CN M3.v.mt.re,CO CN M3.v.mt.bu,CO CN M3.v.mt.li,CO CN M3.v.mt.lo,CO CN M3.v.mt.cr,CO CN (IntKind.i64.wrap (M3.v.mt.mv+(n2:Int))), .slice M4.v.wa M4.v.wn M4.v.wc]) M4.k M4.m M4 []) ?_;unfold gC oW;refine au (aB (O7.aU {M3.v.mt with mv:=cE (M3.v.mt.mv+(n2:Nat))}) (H:= [])) ?_;refine jW [SH z (M4.aU {M3.v.mt with mv:=cE (M3.v.mt.mv+(n2:Nat))})] results45 ?_;exact⟨rfl,by rw[cS]⟩
 refine au (λh s=>aB O6 (H:= []) h (by revert s;revert h;unfold dM fm iQ fb pV iZ;simp only[o8,cap];exact Eh)) ?_;refine Do rfl (oC CF rfl rfl (kE z M3 d1 yP M3.v.p.m) (.cons .here .nil) CI ?_);rintro v H' ⟨n2,M4,rz,rfl,rfl⟩;refine aX ?_;have rR:=(ij M3 M3.v.p.m).1.mt;rw[rz]at rR;change M4.v.mt=M3.v.mt at rR;refine cF λB7 O7=> ?_;unfold dM fm iQ fb pV iZ;rw[rR];refine aX ?_;refine av ?_;refine Dn 4 ?_;refine Do rfl (oL bC ?_);refine av ?_;refine Dt 16 rfl Im ?_;refine Dt 17 rfl Nc ?_;refine Dt 18 rfl (Fa iL) ?_;refine Dt 19 rfl (Fa jC) ?_;refine Dn 20 ?_;refine Do rfl (oS bC ?_);refine av ?_;refine aV (by kernel_rfl) eI ?_;have cS:M3.lz=M4.aU {M3.v.mt with mv:=cE (M3.v.mt.mv+(n2:Nat))}:=by unfold Mo.lz;rw[rz]
 refine Hh (H':=gC z B7.C B7.W B7.ty B7.C.ae.length (M4.Q.flatMap (cV B7.C)) M4.x B7.E M4.tn (M4.v,[CO CJ M4.v.bh,CO CN M4.v.eW,CO CN M3.v.mt.dr,CO CN M3.v.mt.re,CO CN M3.v.mt.bu,CO CN M3.v.mt.li,CO CN M3.v.mt.lo,CO CN M3.v.mt.cr,CO CN (IntKind.i64.wrap (M3.v.mt.mv+(n2:Int))), .slice M4.v.wa M4.v.wn M4.v.wc]) M4.k M4.m M4 []) ?_;unfold gC oW;refine au (aB (O7.aU {M3.v.mt with mv:=cE (M3.v.mt.mv+(n2:Nat))}) (H:= [])) ?_;refine jW [SH z (M4.aU {M3.v.mt with mv:=cE (M3.v.mt.mv+(n2:Nat))})] results45 ?_;exact⟨rfl,by rw[cS]⟩
def Mo.find (M:Mo)(k:List UInt8):Option Nat:=M.Q.flatten.find? λp=>decide ((M.it p).key=k)
theorem bL.PT{B:Bx}{M:Mo}(O:bL B M)(k:List UInt8):B.W.get B.C k=M.find k:=by
 have hk:∀p∈B.W.all,aP B.C.A p=(M.it p).key:=λp hp=>(O.jh hp).2.2.2.2.1;cases hf:M.find k with
 |none=>
  unfold Mo.find at hf;rw[agj]at hf;refine get_none λp hp e=>hf p (O.perm.mem_iff.1 hp) (decide_eq_true ?_);rw[<-hk p hp];exact e
 |some p=>
  unfold Mo.find at hf;have h1:=afH hf;have h2:(M.it p).key=k:=by simpa using aj4 hf
  have hp:=O.perm.mem_iff.2 h1;exact get_some O.t hp ((hk p hp).trans h2)
theorem nL{M:Mo}{k:List UInt8}{p:Nat}(h:M.find k=some p):M.has p/\(M.it p).key=k:=by
 unfold Mo.find at h;exact⟨gw.1 (afH h),by simpa using aj4 h⟩
def Mo.lru (M:Mo):nw:=⟨M.Q,λp=>decide ((M.it p).ff % 2=1),M.x⟩
def Mo.Bc (M:Mo)(t:nw):Mo:={M with Q:=t.Q,x:=t.x,it:=λp=>{M.it p with ff:=mkSet (M.it p).ff (t.ac p)}}
theorem GL{C:Cs}(K:Ok C){B:By}{S:Nat->Nat->Prop}(d:cX C C.A B S){p:Nat}(L:At C p)(I:gO C p)(h:∀j,S p j->j<16\/j=45\/j=46):mJ B p={mJ C.A p with ff:=dz B p}:=by
 have n1:=(L.bn K).2.1;have hf:=I.fits;have r:=λ(o w:Nat) (h2:o+w<=C.sz (C.cl p)) (h3:∀j,o<=j->j<o+w->¬(j<16\/j=45\/j=46))=>lB K d L h2 (λj g1 g2 s=>h3 j g1 g2 (h j s));have e1:kl B p=kl C.A p:=r 44 1 (by omega) (λj g1 g2=>by omega);have e2:vl B p=vl C.A p:=r 48 4 (by omega) (λj g1 g2=>by omega);have e3:aP B p=aP C.A p:=by
  unfold aP;rw[e1];exact vH K d L (by omega) (λj g1 g2 s=>by have:=h j s;omega)
 have e4:ke B p=ke C.A p:=by
  unfold ke;rw[e1,e2,ai2];exact vH K d L (by omega) (λj g1 g2 s=>by have:=h j s;omega)
 unfold mJ OG uv lL rW;rw[e3,e4,r 40 4 (by omega) (λj g1 g2=>by omega),r 16 8 (by omega) (λj g1 g2=>by omega),r 24 8 (by omega) (λj g1 g2=>by omega),r 32 8 (by omega) (λj g1 g2=>by omega)]
theorem bL.bai{B:Bx}{M:Mo}(O:bL B M):BaI B.C B.C.A M.lru:=
 ⟨O.o,O.x,O.mq,λi p h=>by unfold C7;rw[(O.wi (O.oa h)).1];rfl⟩
theorem bL.bal{B:Bx}{M:Mo}(O:bL B M){A:By}{t:nw}(T:KR B.C M.Q A t):bL ⟨B.C.wA A,B.W,B.ty,B.E⟩ (M.Bc t):=by
 have K:=O.k;have hS:∀q j,SB q j->j<16\/j=45\/j=46:=λq j s=>by unfold SB at s;omega
 have lJ:∀p∈B.W.all,mJ A p={M.it p with ff:=mkSet (M.it p).ff (t.ac p)}:=λp hp=>by
  rw[GL K T.d (O.nm hp) (O.t.it p hp) (λj s=>hS p j s),O.it p hp];obtain⟨i,hi⟩:=(T.mem p).2 ((O.al p).1 hp);have h1:=T.mr p (O.sN hp);have h2:=T.i.ac i p hi;have h3:=(O.wi hp).1;have h4:dz A p=mkSet (M.it p).ff (t.ac p):=by
   unfold mkSet;rw[<-h3,<-h2,<-h1];unfold C7;by_cases e:dz A p % 2=1
   ·rw[decide_eq_true e,if_pos rfl];omega
   rw[decide_eq_false e,if_neg (by decide)];omega
  rw[h4]
 have jV:∀q,Live (B.C.wA A) q↔Live B.C q:=λq=>⟨λh=>⟨⟨h.i,h.own,h.al,h.k⟩,h.tk⟩,λh=>h.wA _⟩;refine⟨?_,K.wA A,F7 K O.t T.d λp _ j s=>by unfold SB at s;unfold mI;omega,O.ty,T.i.o,T.i.x,T.i.mq,O.ck,λp=>(O.al p).trans (T.mem p).symm,λq=>(jV q).trans (O.lv q),O.ho,lJ, ?_,O.st,O.nb,O.mg,O.mo,O.bt,O.un,O.on,O.go,O.wn,O.cf,O.n,O.lg⟩
 ·show B.C.wA A=M.C.wA A
  conv=>lhs;rw[O.c]
  rfl
 exact O.e.trans (aa1.of_eq (fM λq h=>⟨rfl,rfl,rfl⟩).symm)
def Mo.aQ (M:Mo)(a:Option Addr)(c:Nat):Mo:={M with v:={M.v with wa:=a,wn:=M.j6.length,wc:=c}}
def SW (z:Ly)(M:Mo):aa:=λh=>∃w:Option Addr×Nat,SH z (M.aQ w.1 w.2) h
theorem wE{P:Program}{f:FuncId}{args:List Value}{pre:Hp->Prop}{H:List aa}{R:Value->List aa->Prop}{z:Ly}{M:Mo}(h:∀a c,aO P f args pre (SH z (M.aQ a c)::H) R):aO P f args pre (SW z M::H) R:=
 aO.exL λw=>h w.1 w.2
theorem gV{z:Ly}{M:Mo}(a:Option Addr)(c:Nat){H:List aa}:∀h,ai (SH z (M.aQ a c)::H) h->ai (SW z M::H) h:=λh s=>
 bB (λk x=>⟨(a,c),x⟩) s
theorem zS{n:Nat}{ds:List Deferred}{F:dC}{K:Act->World->Prop}{σ:aZ}{z:Ly}{M:Mo}{H:List aa}(h:∀a c,G n ds F K σ (SH z (M.aQ a c)::H)):G n ds F K σ (SW z M::H):=
 ag1 λw=>h w.1 w.2
theorem aab{n:Nat}{ds:List Deferred}{F:dC}{K:Act->World->Prop}{σ:aZ}{z:Ly}{M:Mo}{H:List aa}(a:Option Addr)(c:Nat)(h:G n ds F K σ (SW z M::H)):G n ds F K σ (SH z (M.aQ a c)::H):=
 au (gV a c) h
theorem iS{P:Program}{f:FuncId}{args:List Value}{z:Ly}{M N:Mo}{T:Value->Prop}(h:∀a c,aO P f args (λ_=>True) [SH z (M.aQ a c)] (λv H=>T v/\H= [SH z (N.aQ a c)])):aO P f args (λ_=>True) [SW z M] (λv H=>T v/\H= [SW z N]):=
 wE λa c=>(h a c).out (by
  rintro v H' ⟨t,rfl⟩;exact⟨[SW z N],⟨t,rfl⟩,λk s=>gV a c k s⟩)
theorem Lh (z:Ly)(M:Mo)(p:Nat)(hp:M.has p):aO aaO 48 [CM z.s,CO CJ (M.C.hd p)] (λ_=>True) [SW z M]
  (λv H=>v= .bool (decide (M.cn p≠0))/\H= [SW z M]):=
 iS (N:=M) (T:=λv=>v= .bool (decide (M.cn p≠0))) λa d=>by
  have h:=uT z (M.aQ a d) p hp;exact h
theorem HB (z:Ly)(M:Mo)(p:Nat)(hp:M.has p):aO aaO 97 [CM z.s,CO CJ (M.C.hd p)] (λ_=>True) [SW z M]
  (λv H=>v=CO CN (M.cn p)/\H= [SW z M]):=
 iS (N:=M) (T:=λv=>v=CO CN (M.cn p)) λa d=>by
  have h:=HQ z (M.aQ a d) p hp;exact h
theorem uQ (z:Ly)(M:Mo)(p:Nat)(hp:M.has p):aO aaO 85 [CM z.s,CO CJ (M.C.hd p)] (λ_=>True) [SW z M]
  (λv H=>v= .tuple #[]/\H= [SW z (M.ca p)]):=
 iS (N:=M.ca p) (T:=λv=>v= .tuple #[]) λa d=>by
  have h:=jR z (M.aQ a d) p hp;rw[show(M.aQ a d).ca p=(M.ca p).aQ a d from rfl]at h;exact h
theorem xP (z:Ly)(M:Mo)(p:Nat)(hp:M.has p):aO aaO 122 [CM z.s,CO CJ (M.C.hd p)] (λ_=>True) [SW z M]
  (λv H=>v= .tuple #[]/\H= [SW z (M.lJ p)]):=
 iS (N:=M.lJ p) (T:=λv=>v= .tuple #[]) λa d=>by
  have h:=SJ z (M.aQ a d) p hp;rw[show(M.aQ a d).lJ p=(M.lJ p).aQ a d from rfl]at h;exact h
theorem HE (z:Ly)(M:Mo)(p c:Nat)(hc:c<4)(hp:M.has p):aO aaO 127 [CM z.s,CO CJ (M.C.hd p),CO CN (c*2:Nat)] (λ_=>True) [SW z M]
  (λv H=>v= .tuple #[]/\H= [SW z (M.marks p c)]):=
 iS (N:=M.marks p c) (T:=λv=>v= .tuple #[]) λa d=>by
  have h:=HS z (M.aQ a d) p c hc hp;rw[show(M.aQ a d).marks p c=(M.marks p c).aQ a d from rfl]at h;exact h
theorem sB (z:Ly)(M:Mo)(p:Nat)(hp:M.has p)(t:Int)(ht:t<9223372036854775808)(vq:M.tn<18446744073709551615):aO aaO 121 [CM z.s,CO CJ (M.C.hd p),CO CN t] (λ_=>True) [SW z M]
  (λv H=>v= .tuple #[]/\H= [SW z (M.time p (gL M.k.now t))]):=
 iS (N:=M.time p (gL M.k.now t)) (T:=λv=>v= .tuple #[]) λa d=>by
  have h:=HP z (M.aQ a d) p hp t ht vq;rw[show(M.aQ a d).time p (gL (M.aQ a d).k.now t)=(M.time p (gL M.k.now t)).aQ a d from rfl]at h;exact h
theorem Qz (M:Mo)(p:Nat)(a:Option Addr)(c:Nat):(M.aQ a c).look p=(M.look p).aQ a c:=by
 unfold Mo.look;rw[show(M.aQ a c).cn p=M.cn p from rfl]
 split<;>rfl
theorem JF (a:Option Addr)(c:Nat):∀(l:List Nat) (M:Mo),l.foldl Mo.look (M.aQ a c)=(l.foldl Mo.look M).aQ a c
 | [],_=>rfl
 |p::l,M=>by rw[af8,af8,Qz,JF a c l]
theorem EM (a:Option Addr)(c:Nat):∀(f:Nat) (M:Mo),(M.aQ a c).cu f=((M.cu f).1,(M.cu f).2.aQ a c)
 |0,_=>rfl
 |f+1,M=>by
  rcases hf:M.x.find M.eR M.Q with⟨_|_,x⟩
  ·rw[qU hf,qU (M:=M.aQ a c) hf];rfl
  cases hx:x.nx with
  |none=>
   unfold Mo.cu;rw[show(M.aQ a c).x.find (M.aQ a c).eR (M.aQ a c).Q=(true,x)from hf,hf];dsimp only;rw[hx];rfl
  |some p=>
   rw[qT hf hx,qT (M:=M.aQ a c) hf hx];have e:(({M.aQ a c with x:=x.pass (M.aQ a c).Q}:Mo).look p)=(({M with x:=x.pass M.Q}:Mo).look p).aQ a c:=Qz {M with x:=x.pass M.Q} p a c;rw[e,EM a c f]
theorem Ka (M:Mo)(now aI:Int)(a:Option Addr)(c:Nat):(M.aQ a c).cN now aI=((M.cN now aI).1,(M.cN now aI).2.aQ a c):=by
 unfold Mo.cN
 split
 ·rfl
 unfold Mo.so;rw[show(M.aQ a c).kQ now (min aI 1048576)=M.kQ now (min aI 1048576)from rfl,JF,EM]
theorem Bl (M:Mo)(d:Nat)(a:Option Addr)(c:Nat):(M.aQ a c).take d=(M.take d).map λo=>(o.1,o.2.aQ a c):=by
 unfold Mo.take;rw[show(M.aQ a c).C=M.C from rfl];cases M.C.eD d<;>rfl
theorem W8 (M:Mo)(p:Nat)(a:Option Addr)(c:Nat):(M.aQ a c).shift p=(M.shift p).map λN=>N.aQ a c:=by
 unfold Mo.shift;rw[show(M.aQ a c).C.cl p=M.C.cl p from rfl,Bl];cases M.take (M.C.cl p)<;>rfl
theorem XY (M:Mo)(a:Option Addr)(c:Nat):(M.aQ a c).eh=(M.eh.1,M.eh.2.aQ a c):=by
 unfold Mo.eh;rw[show((M.aQ a c).C.pg (M.aQ a c).m.pg)=M.C.pg M.m.pg from rfl];cases (M.C.pg M.m.pg).tk.findIdx? id with
 |none=>rfl
 |some k=>
  dsimp only;rw[show(M.aQ a c).C.pA (M.aQ a c).m.pg k=M.C.pA M.m.pg k from rfl,show(M.aQ a c).cn (M.C.pA M.m.pg k)=M.cn (M.C.pA M.m.pg k)from rfl,W8]
  split
  ·rfl
  ·cases M.shift (M.C.pA M.m.pg k)<;>rfl
theorem Ec (a:Option Addr)(c:Nat):∀(f:Nat) (M:Mo),(M.aQ a c).du f=((M.du f).1,(M.du f).2.aQ a c)
 |0,_=>rfl
 |f+1,M=>by
  have h:=XY M a c;rcases hm:M.eh with⟨_|_,N⟩
  ·rw[hm]at h
   rw[qM hm,qM h]
  rw[hm]at h;rw[qL hm,qL h,Ec a c f]
theorem TF (M:Mo)(a:Option Addr)(c:Nat):(M.aQ a c).fH=M.fH.aQ a c:=by
 unfold Mo.fH;rw[show(M.aQ a c).C=M.C from rfl,show(M.aQ a c).m=M.m from rfl,show(M.aQ a c).eR=M.eR from rfl]
 split
 ·rfl
 cases (abb M.eR).find? M.m.eP with
 |none=>rfl
 |some t=>
  dsimp only;cases fR M.m M.C M.eR<;>rfl
theorem XW (M:Mo)(aI:Int)(a:Option Addr)(c:Nat):(M.aQ a c).gF aI=((M.gF aI).1,(M.gF aI).2.aQ a c):=by
 unfold Mo.gF;rw[show(M.aQ a c).fB=M.fB.aQ a c from rfl,show(M.aQ a c).m=M.m from rfl,Ec,TF]
 split
 ·rfl
 ·split<;>rfl
theorem Vo (M:Mo)(a:Option Addr)(c:Nat):(M.aQ a c).beside=M.beside.aQ a c:=by
 have h1:∀N:Mo,(N.aQ a c).jG=N.jG.aQ a c:=λN=>by
  unfold Mo.jG;rw[show(N.aQ a c).k=N.k from rfl,show(N.aQ a c).v.p=N.v.p from rfl,Ka];rfl
 have h2:∀N:Mo,(N.aQ a c).lz=N.lz.aQ a c:=λN=>by
  unfold Mo.lz;rw[show(N.aQ a c).v.p=N.v.p from rfl,XW];rfl
 unfold Mo.beside;rw[show(M.aQ a c).fw=M.fw.aQ a c from rfl,h1,h2]
theorem vL (wy:pO)(z:Ly)(M:Mo)(hh:M.hole=none)(gB:M.m.st<4611686018427387904)(OA:zr M.v.p):aO aaO 45 [CM z.s] (λ_=>True) [SW z M]
  (λv H=>v= .tuple #[]/\H= [SW z M.beside]):=
 iS (N:=M.beside) (T:=λv=>v= .tuple #[]) λa d=>by
  have h:=NY wy z (M.aQ a d) hh gB OA;rw[Vo]at h;exact h
def Mo.fE (M:Mo)(w:Nat):Mo:={M with j6:=M.j6++ [w]}
def q9 (C:Cs):Option Nat->Nat
 |none=>0
 |some p=>C.hd p
def Mo.meet (M:Mo)(k:List UInt8):Option Nat×Mo:=match M.find k with
 |none=>(none,M.fE 1)
 |some p=>if M.cn p≠0 then(none,(M.fE (M.cn p)).ca p)else(some p,M.fE 0)
theorem bL.fE{B:Bx}{M:Mo}(O:bL B M)(w:Nat)(a:Option Addr)(c:Nat):bL B ((M.fE w).aQ a c):=
 ⟨O.c,O.k,O.t,O.ty,O.o,O.x,O.mq,O.ck,O.al,O.lv,O.ho,O.it,O.e,O.st,O.nb,O.mg,O.mo,O.bt,O.un,O.on,O.go,rfl,O.cf,O.n,O.lg⟩
theorem OT{B:Bx}{M:Mo}(O:bL B M)(o:Option Nat):hO B.C o=q9 M.C o:=by
 cases o with
 |none=>rfl
 |some p=>rw[cm,O.hd];rfl
theorem xS (z:Ly)(M:Mo)(k:List UInt8)(hk:k.length<281474976710656)(hw:M.j6.length<1073741824):aO aaO 120 [CM z.s,bD k] (λ_=>True) [SW z M]
  (λv H=>v=CO CJ (q9 M.C (M.meet k).1)/\H= [SW z (M.meet k).2]):=by
 refine ag func120 rfl ntmps120 rfl ?_;intro F _;refine zS λwa wc=>cF λB O=> ?_;have tf:=λa c=>nE z.y.t z.y.b B.C O.k B.W B.ty O.t O.ty a k.length c k rfl hk;rw[O.PT,show(M.aQ wa wc).find k=M.find k from rfl,OT O,show(M.aQ wa wc).C=M.C from rfl]at tf;have hnl:(aA M.j6).length=M.j6.length:=fg M.j6;unfold dM fm iQ fb pV iZ jJ;dsimp only[Mo.aQ];refine aX ?_;refine bM ?_;refine Lp (CP wv mG sQ λkb kc sO=> ?_);refine zl CF (tf _ _) .nil (λ_ le ao=>⟨ao.nth 1 rfl,⟨ao.nth 2 rfl,ao.nth 3 rfl,ao.nth 4 rfl,trivial⟩,bP (ao.nth 0 rfl)⟩) ?_;rcases hf:M.find k with _|p
 ·have hme:M.meet k=(none,M.fE 1):=by unfold Mo.meet;rw[hf]
  refine sT ?_;refine Lp (oT fU λb1=> ?_);refine Lp (bT fU pK rfl rfl rfl rfl (.there (.there (.there (.there (.there (.there (.there (.there (.there (.there (.there (.there (.there (.there .here)))))))))))))) (by first|rfl|(simp;done)|(simp;omega)|omega) (rfl) (by simp[Value.oneCell']) (by first|omega|(simp;omega)) (by first|omega|(simp;omega)) rfl λa5 c5 hc5=> ?_);refine cA ?_;rw[show aA M.j6++ [CO CN 1]=aA (M.j6++ [1]) by unfold aA;rw[afy];rfl,show M.j6.length+1=(M.j6++ [1]).length by simp];refine Hh (H':= [Cl z.y.b B.C,af z.y.t 154 (fk z.y.b B.W B.ty),af B.ty.nk 149 (aM (aD B.W.nb)),jH B.ty.ok 149 (aM (aD B.W.ob)),af z.y.q 182 (fC z.y.b z.qb B.C.ae.length),af z.qb 333 (M.Q.flatMap (cV B.C)),gh z.y.cr z.y.q z.y.wh B.C.ae.length (aL z.s) (aY z.s) B.C M.x,Wl z.y.wh B.E M.tn,af z.s 96 [CM z.y.b,CM z.y.ck,CM z.y.t,CM z.y.lu,CM z.y.wh,CM z.y.cr,CM z.y.mo,CM z.y.q,CO CN M.v.c.aj,CO CN M.v.c.pgs,CO CN M.v.c.fac,CO CN M.v.c.bj,CO CN M.v.c.lim,CO CN M.v.c.hot,CO CN M.v.c.warm,CO CN M.v.p.b,CO CN M.v.p.l,CO CN M.v.p.c,CO CN M.v.p.m,CO CJ M.v.bh,CO CN M.v.eW,CO CN M.v.mt.dr,CO CN M.v.mt.re,CO CN M.v.mt.bu,CO CN M.v.mt.li,CO CN M.v.mt.lo,CO CN M.v.mt.cr,CO CN M.v.mt.mv, .slice a5 (M.j6++ [1]).length c5],kO z.y.ck M.k,jb z.y.lu z.y.b z.y.q z.hot z.warm,iT z.y.mo z.y.b z.ub (aL z.s) (aY z.s) (bI z.s) M.m,kL z.ub M.m,own a5 c5 3 1 (aA (M.j6++ [1]))]) ?_;refine au (aB (O.fE 1 a5 c5) (H:= [])) ?_;refine au (gV (M:=M.fE 1) a5 c5) ?_;refine Rt [SW z (M.fE 1)] results120 ?_;exact⟨by rw[hme];rfl,by rw[hme]⟩
 obtain⟨hp,oo⟩:=nL hf;have hme:M.meet k=if M.cn p≠0 then(none,(M.fE (M.cn p)).ca p)else(some p,M.fE 0):=by unfold Mo.meet;rw[hf]
 refine fq ?_;refine Hh (H':= [Cl z.y.b B.C,af z.y.t 154 (fk z.y.b B.W B.ty),af B.ty.nk 149 (aM (aD B.W.nb)),jH B.ty.ok 149 (aM (aD B.W.ob)),af z.y.q 182 (fC z.y.b z.qb B.C.ae.length),af z.qb 333 (M.Q.flatMap (cV B.C)),gh z.y.cr z.y.q z.y.wh B.C.ae.length (aL z.s) (aY z.s) B.C M.x,Wl z.y.wh B.E M.tn,af z.s 96 [CM z.y.b,CM z.y.ck,CM z.y.t,CM z.y.lu,CM z.y.wh,CM z.y.cr,CM z.y.mo,CM z.y.q,CO CN M.v.c.aj,CO CN M.v.c.pgs,CO CN M.v.c.fac,CO CN M.v.c.bj,CO CN M.v.c.lim,CO CN M.v.c.hot,CO CN M.v.c.warm,CO CN M.v.p.b,CO CN M.v.p.l,CO CN M.v.p.c,CO CN M.v.p.m,CO CJ M.v.bh,CO CN M.v.eW,CO CN M.v.mt.dr,CO CN M.v.mt.re,CO CN M.v.mt.bu,CO CN M.v.mt.li,CO CN M.v.mt.lo,CO CN M.v.mt.cr,CO CN M.v.mt.mv, .slice wa M.j6.length wc],kO z.y.ck M.k,jb z.y.lu z.y.b z.y.q z.hot z.warm,iT z.y.mo z.y.b z.ub (aL z.s) (aY z.s) (bI z.s) M.m,kL z.ub M.m,own wa wc 3 1 (aA M.j6)]) ?_;refine au (aB O (H:= [])) ?_;refine au (gV (M:=M) wa wc) ?_;refine bz ?_;refine zl CF (HB z M p hp) (.cons .here .nil) CI ?_;refine bA ?_;refine zS λwa wc=>cF λB O=> ?_;unfold dM fm iQ fb pV iZ jJ;dsimp only[Mo.aQ];refine aX ?_;refine bR ?_;refine Lp (oT fU λb2=> ?_);refine Lp (bT fU pK rfl rfl rfl rfl (.there (.there (.there (.there (.there (.there (.there (.there (.there (.there (.there (.there (.there .here))))))))))))) (by first|rfl|(simp;done)|(simp;omega)|omega) (rfl) (by simp[Value.oneCell']) (by first|omega|(simp;omega)) (by first|omega|(simp;omega)) rfl λa5 c5 hc5=> ?_);refine bm ?_;refine aw ?_;rw[show aA M.j6++ [CO CN (M.cn p)]=aA (M.j6++ [M.cn p]) by unfold aA;rw[afy];rfl,show M.j6.length+1=(M.j6++ [M.cn p]).length by simp];refine Hh (H':= [Cl z.y.b B.C,af z.y.t 154 (fk z.y.b B.W B.ty),af B.ty.nk 149 (aM (aD B.W.nb)),jH B.ty.ok 149 (aM (aD B.W.ob)),af z.y.q 182 (fC z.y.b z.qb B.C.ae.length),af z.qb 333 (M.Q.flatMap (cV B.C)),gh z.y.cr z.y.q z.y.wh B.C.ae.length (aL z.s) (aY z.s) B.C M.x,Wl z.y.wh B.E M.tn,af z.s 96 [CM z.y.b,CM z.y.ck,CM z.y.t,CM z.y.lu,CM z.y.wh,CM z.y.cr,CM z.y.mo,CM z.y.q,CO CN M.v.c.aj,CO CN M.v.c.pgs,CO CN M.v.c.fac,CO CN M.v.c.bj,CO CN M.v.c.lim,CO CN M.v.c.hot,CO CN M.v.c.warm,CO CN M.v.p.b,CO CN M.v.p.l,CO CN M.v.p.c,CO CN M.v.p.m,CO CJ M.v.bh,CO CN M.v.eW,CO CN M.v.mt.dr,CO CN M.v.mt.re,CO CN M.v.mt.bu,CO CN M.v.mt.li,CO CN M.v.mt.lo,CO CN M.v.mt.cr,CO CN M.v.mt.mv, .slice a5 (M.j6++ [M.cn p]).length c5],kO z.y.ck M.k,jb z.y.lu z.y.b z.y.q z.hot z.warm,iT z.y.mo z.y.b z.ub (aL z.s) (aY z.s) (bI z.s) M.m,kL z.ub M.m,own a5 c5 3 1 (aA (M.j6++ [M.cn p]))]) ?_;refine au (aB (O.fE (M.cn p) a5 c5) (H:= [])) ?_;refine au (gV (M:=M.fE (M.cn p)) a5 c5) ?_;refine bm ?_;by_cases hw0:M.cn p=0
 ·rw[hw0]
  refine cO ?_ (e:=by exact congrArg (!·) (decide_eq_true rfl));refine bR ?_;refine Rt [SW z (M.fE 0)] results120 ?_;rw[hme,if_neg (by simpa using hw0)];exact⟨rfl,rfl⟩
 refine eU ?_ (e:=by exact congrArg (!·) (CG));refine bz ?_;refine zl CF (uQ z (M.fE (M.cn p)) p hp) (.cons .here .nil) CI ?_;refine bG ?_;refine Rt [SW z ((M.fE (M.cn p)).ca p)] results120 ?_;rw[hme,if_pos hw0];exact⟨rfl,rfl⟩
def Mo.py (hot warm:Nat)(M:Mo)(k:List UInt8):Mo:=match M.find k with
 |none=>M
 |some p=>(M.Bc (lP (M.C.cl p) hot warm M.v.p.l.toNat M.lru).2).aU {M.v.mt with li:=cE (M.v.mt.li+((lP (M.C.cl p) hot warm M.v.p.l.toNat M.lru).1:Nat))}
noncomputable def Mo.behind (hot warm:Nat)(M:Mo)(k:List UInt8):Mo:=(M.py hot warm k).beside
theorem Kl (hot warm:Nat)(M:Mo)(k:List UInt8):(M.py hot warm k).hole=M.hole/\(M.py hot warm k).m=M.m/\(M.py hot warm k).v.p=M.v.p:=by
 unfold Mo.py
 split<;>exact⟨rfl,rfl,rfl⟩
theorem Km (hot warm:Nat)(M:Mo)(k:List UInt8):Ev M (M.py hot warm k):=by
 unfold Mo.py
 split
 ·exact .rf rfl rfl
 exact .rf rfl rfl
theorem HU (wy:pO)(z:Ly)(M:Mo)(k:List UInt8)(hk:k.length<281474976710656)(hh:M.hole=none)(gB:M.m.st<4611686018427387904)(OA:zr M.v.p)(Kt:z.hot<=100)(Ks:z.warm<=100):aO aaO 46 [CM z.s,bD k] (λ_=>True) [SW z M]
  (λv H=>v= .tuple #[]/\H= [SW z (M.behind z.hot z.warm k)]):=by
 obtain⟨b1,b2,b3⟩:=Kl z.hot z.warm M k;have bsd:=vL wy z (M.py z.hot z.warm k) (b1.trans hh) (by rw[b2];exact gB) (by rw[b3];exact OA);refine ag func46 rfl ntmps46 rfl ?_;intro F _;refine zS λwa wc=>cF λB O=> ?_;unfold dM fm iQ fb pV iZ jJ;dsimp only[Mo.aQ];refine aX ?_;have tf:=λa c=>nE z.y.t z.y.b B.C O.k B.W B.ty O.t O.ty a k.length c k rfl hk;rw[O.PT,show(M.aQ wa wc).find k=M.find k from rfl,OT O,show(M.aQ wa wc).C=M.C from rfl]at tf;refine dm ?_;refine Lp (CP wv mG sQ λkb kc sO=> ?_);refine zl CF (tf _ _) .nil (λ_ le ao=>⟨ao.nth 1 rfl,⟨ao.nth 2 rfl,ao.nth 3 rfl,ao.nth 4 rfl,trivial⟩,bP (ao.nth 0 rfl)⟩) ?_;rcases hf:M.find k with _|p
 ·have hbb:M.py z.hot z.warm k=M:=by unfold Mo.py;rw[hf]
  rw[hbb]at bsd;refine dB ?_;refine Hh (H':= [Cl z.y.b B.C,af z.y.t 154 (fk z.y.b B.W B.ty),af B.ty.nk 149 (aM (aD B.W.nb)),jH B.ty.ok 149 (aM (aD B.W.ob)),af z.y.q 182 (fC z.y.b z.qb B.C.ae.length),af z.qb 333 (M.Q.flatMap (cV B.C)),gh z.y.cr z.y.q z.y.wh B.C.ae.length (aL z.s) (aY z.s) B.C M.x,Wl z.y.wh B.E M.tn,af z.s 96 [CM z.y.b,CM z.y.ck,CM z.y.t,CM z.y.lu,CM z.y.wh,CM z.y.cr,CM z.y.mo,CM z.y.q,CO CN M.v.c.aj,CO CN M.v.c.pgs,CO CN M.v.c.fac,CO CN M.v.c.bj,CO CN M.v.c.lim,CO CN M.v.c.hot,CO CN M.v.c.warm,CO CN M.v.p.b,CO CN M.v.p.l,CO CN M.v.p.c,CO CN M.v.p.m,CO CJ M.v.bh,CO CN M.v.eW,CO CN M.v.mt.dr,CO CN M.v.mt.re,CO CN M.v.mt.bu,CO CN M.v.mt.li,CO CN M.v.mt.lo,CO CN M.v.mt.cr,CO CN M.v.mt.mv, .slice wa M.j6.length wc],kO z.y.ck M.k,jb z.y.lu z.y.b z.y.q z.hot z.warm,iT z.y.mo z.y.b z.ub (aL z.s) (aY z.s) (bI z.s) M.m,kL z.ub M.m,own wa wc 3 1 (aA M.j6)]) ?_;refine au (aB O (H:= [])) ?_;refine au (gV (M:=M) wa wc) ?_;refine bA ?_;refine zl CF (bsd) (.cons .here .nil) CI ?_;refine aF ?_;refine jW [SW z M.beside] results46 ?_;exact⟨rfl,by unfold Mo.behind;rw[hbb]⟩
 obtain⟨hp,oo⟩:=nL hf;have dE:=(O.al p).2 hp;have L:=O.sN dE;have at_:=vG z.y.b B.C O.k p L;rw[O.hd,show(M.aQ wa wc).C=M.C from rfl]at at_;have hG:=(L.toAt.bn O.k).1;have bl:=Fi z.y.lu z.y.q z.y.b z.qb z.hot z.warm z.y.cr z.y.wh (aL z.s) (aY z.s) B.C O.k M.lru O.bai (B.C.cl p) hG Kt Ks M.v.p.l.toNat (by have:=OA.l;omega);rw[show((M.v.p.l.toNat:Nat):Int)=M.v.p.l by have:=OA.l;omega]at bl;refine ri ?_;refine zl CF (at_) .nil (λ_ le ao=>ao.nth 1 rfl) ?_;refine dm ?_;refine hJ 27 mix (.cons (.there (.there (.there (.there (.there (.there (.there (.there (.there .here))))))))) .nil) λF1 jf bZ aN=> ?_;obtain⟨q1,_⟩:=bZ;refine cC ?_;refine av ?_;refine Ti Mf ?_;refine Tp (oC CF rfl rfl (bl) (.cons (.there .here) (.cons (.there (.there (.there (.there .here)))) (.cons (.there (.there (.there (.there .here)))) (.cons (.there (.there (.there (.there .here)))) .nil)))) (λ_ le ao=>ao.nth 6 rfl) ?_);rintro v H' ⟨n,A,t,hbf,rfl,rfl,T2⟩;refine aX ?_;refine bm ?_;refine gd aN ?_;refine bA ?_;have O1:bL ⟨B.C.wA A,B.W,B.ty,B.E⟩ (((M.Bc t).aU {M.v.mt with li:=cE (M.v.mt.li+(n:Nat))}).aQ wa wc):=(O.bal T2).aU {M.v.mt with li:=cE (M.v.mt.li+(n:Nat))};have hbb:M.py z.hot z.warm k=(M.Bc t).aU {M.v.mt with li:=cE (M.v.mt.li+(n:Nat))}:=by
  unfold Mo.py;rw[hf];dsimp only;rw[O.cl,show(M.aQ wa wc).C=M.C from rfl]at hbf;rw[hbf]
 rw[hbb]at bsd;refine Hh (H':= [Cl z.y.b (B.C.wA A),af z.y.t 154 (fk z.y.b B.W B.ty),af B.ty.nk 149 (aM (aD B.W.nb)),jH B.ty.ok 149 (aM (aD B.W.ob)),af z.y.q 182 (fC z.y.b z.qb B.C.ae.length),af z.qb 333 (t.Q.flatMap (cV B.C)),gh z.y.cr z.y.q z.y.wh B.C.ae.length (aL z.s) (aY z.s) B.C t.x,Wl z.y.wh B.E M.tn,af z.s 96 [CM z.y.b,CM z.y.ck,CM z.y.t,CM z.y.lu,CM z.y.wh,CM z.y.cr,CM z.y.mo,CM z.y.q,CO CN M.v.c.aj,CO CN M.v.c.pgs,CO CN M.v.c.fac,CO CN M.v.c.bj,CO CN M.v.c.lim,CO CN M.v.c.hot,CO CN M.v.c.warm,CO CN M.v.p.b,CO CN M.v.p.l,CO CN M.v.p.c,CO CN M.v.p.m,CO CJ M.v.bh,CO CN M.v.eW,CO CN M.v.mt.dr,CO CN M.v.mt.re,CO CN M.v.mt.bu,CO CN (IntKind.i64.wrap (M.v.mt.li+(n:Int))),CO CN M.v.mt.lo,CO CN M.v.mt.cr,CO CN M.v.mt.mv, .slice wa M.j6.length wc],kO z.y.ck M.k,jb z.y.lu z.y.b z.y.q z.hot z.warm,iT z.y.mo z.y.b z.ub (aL z.s) (aY z.s) (bI z.s) M.m,kL z.ub M.m,own wa wc 3 1 (aA M.j6)]) ?_;refine au (aB O1 (H:= [])) ?_;refine au (gV (M:=(M.Bc t).aU {M.v.mt with li:=cE (M.v.mt.li+(n:Nat))}) wa wc) ?_;refine bA ?_;refine zl CF (bsd) (.cons .here .nil) CI ?_;refine aF ?_;refine jW [SW z ((M.Bc t).aU {M.v.mt with li:=cE (M.v.mt.li+(n:Nat))}).beside] results46 ?_;exact⟨rfl,by unfold Mo.behind;rw[hbb]⟩
theorem ae1:∀m:Nat,m<16->gG .and .i64 (m:Int) 2=some ((m/2 % 2*2:Nat):Int):=by decide+kernel
theorem ae0:∀m:Nat,m<16->gG .and .i64 (m:Int) 4=some ((m/4 % 2*4:Nat):Int):=by decide+kernel
theorem aeZ:∀m:Nat,m<16->gG .and .i64 (m:Int) 8=some ((m/8 % 2*8:Nat):Int):=by decide+kernel
def zj (x:I3)(va:Value):List Value:= [bD x.key,va,CO CJ x.fl,CO CN x.exp,CO CJ x.tok,CO CN x.tch, .bool (decide (x.ff/2 % 2=1)), .bool (decide (x.ff/4 % 2=1)), .bool (decide (x.ff/8 % 2=1))]
theorem ed (m:Nat):(!decide (((m/2 % 2*2:Nat):Int)=0))=decide (m/2 % 2=1):=by
 have:m/2 % 2=0\/m/2 % 2=1:=by omega
 rcases this with h|h<;>rw[h]<;>rfl
theorem dY (m:Nat):(!decide (((m/4 % 2*4:Nat):Int)=0))=decide (m/4 % 2=1):=by
 have:m/4 % 2=0\/m/4 % 2=1:=by omega
 rcases this with h|h<;>rw[h]<;>rfl
theorem Ky (m:Nat):(!decide (((m/8 % 2*8:Nat):Int)=0))=decide (m/8 % 2=1):=by
 have:m/8 % 2=0\/m/8 % 2=1:=by omega
 rcases this with h|h<;>rw[h]<;>rfl
theorem Ai (z:Ly)(M:Mo)(p:Nat)(hp:M.has p):aO aaO 49 [CM z.s,CO CJ (M.C.hd p)] (λ_=>True) [SW z M]
  (λv H=>∃vb,v= .agg (zj (M.it p) (.slice (some ⟨vb,0,none⟩) (M.it p).val.length (M.it p).val.length)).toArray/\H= [own (some ⟨vb,0,none⟩) (M.it p).val.length 5 1 (ax (M.it p).val),SW z M]):=by
 refine ag func49 rfl ntmps49 rfl ?_;intro F _;refine av ?_;refine Lp (oA IF λb1=> ?_);refine av ?_;refine au (λ_ x=>dx x) ?_;refine zS λwa wc=>cF λB O=> ?_;unfold dM fm iQ fb pV iZ jJ;dsimp only[Mo.aQ];refine aX ?_;have dE:=(O.al p).2 hp;have rdc:=tP z.y.b B.C O.k p (O.sN dE) (O.t.it p dE);rw[O.hd,show(M.aQ wa wc).C=M.C from rfl]at rdc;obtain⟨f1,f2,f3,f4,f5,f6,f7⟩:=O.jh dE;have uq:=(O.wi dE).2;rw[show(M.aQ wa wc).it p=M.it p from rfl]at f1 f2 f3 f4 f5 f6 f7 uq;have lk:kl B.C.A p=(M.it p).key.length:=by rw[<-f5];exact(cD _ _ _).symm
 have lv:vl B.C.A p=(M.it p).val.length:=by rw[<-f6];exact(cD _ _ _).symm
 rw[show rd B.C.A (p+40) 4=(M.it p).fl from f7,show rd B.C.A (p+16) 8=(M.it p).exp from f1,show rd B.C.A (p+24) 8=(M.it p).tch from f2,show rd B.C.A (p+32) 8=(M.it p).tok from f3,show rd B.C.A (p+46) 1=(M.it p).ff from f4,lk,lv,f5,f6]at rdc;generalize rd B.C.A (p+45) 1=stt at*;refine bR ?_;refine Lp (oC CF rfl rfl (rdc) .nil (λ_ le ao=>ao.nth 0 rfl) ?_);rintro v H' ⟨kb,vb,rfl,rfl⟩;refine aX ?_;refine bz ?_;refine Lp (oA cb λb2=> ?_);refine Lp (iF dR ?_ (h1:=by simp[C5,Value.oneCell']));refine bE ?_;refine Lp (oTs kk sQ wv ?_);refine gz ?_;refine ay (t:=32) (v':=(CO CN ((M.it p).ff/2 % 2*2:Nat))) rfl (by exact congrArg (λx=>Value.int .i64 (x.getD 0)) (ae1 _ uq)) ?_;refine av ?_;refine ay (t:=33) (v':=(.bool (decide ((M.it p).ff/2 % 2=1)))) rfl (by exact congrArg Value.bool (ed _)) ?_;refine bz ?_;refine ay (t:=36) (v':=(CO CN ((M.it p).ff/4 % 2*4:Nat))) rfl (by exact congrArg (λx=>Value.int .i64 (x.getD 0)) (ae0 _ uq)) ?_;refine av ?_;refine ay (t:=37) (v':=(.bool (decide ((M.it p).ff/4 % 2=1)))) rfl (by exact congrArg Value.bool (dY _)) ?_;refine bz ?_;refine ay (t:=40) (v':=(CO CN ((M.it p).ff/8 % 2*8:Nat))) rfl (by exact congrArg (λx=>Value.int .i64 (x.getD 0)) (aeZ _ uq)) ?_;refine av ?_;refine ay (t:=41) (v':=(.bool (decide ((M.it p).ff/8 % 2=1)))) rfl (by exact congrArg Value.bool (Ky _)) ?_;refine av ?_;refine Lp (iF tj ?_ (h1:=by simp[cZ,Value.cells,Value.oneCell',bD]));refine bA ?_;refine Hh (H':= [Cl z.y.b B.C,af z.y.t 154 (fk z.y.b B.W B.ty),af B.ty.nk 149 (aM (aD B.W.nb)),jH B.ty.ok 149 (aM (aD B.W.ob)),af z.y.q 182 (fC z.y.b z.qb B.C.ae.length),af z.qb 333 (M.Q.flatMap (cV B.C)),gh z.y.cr z.y.q z.y.wh B.C.ae.length (aL z.s) (aY z.s) B.C M.x,Wl z.y.wh B.E M.tn,af z.s 96 [CM z.y.b,CM z.y.ck,CM z.y.t,CM z.y.lu,CM z.y.wh,CM z.y.cr,CM z.y.mo,CM z.y.q,CO CN M.v.c.aj,CO CN M.v.c.pgs,CO CN M.v.c.fac,CO CN M.v.c.bj,CO CN M.v.c.lim,CO CN M.v.c.hot,CO CN M.v.c.warm,CO CN M.v.p.b,CO CN M.v.p.l,CO CN M.v.p.c,CO CN M.v.p.m,CO CJ M.v.bh,CO CN M.v.eW,CO CN M.v.mt.dr,CO CN M.v.mt.re,CO CN M.v.mt.bu,CO CN M.v.mt.li,CO CN M.v.mt.lo,CO CN M.v.mt.cr,CO CN M.v.mt.mv, .slice wa M.j6.length wc],kO z.y.ck M.k,jb z.y.lu z.y.b z.y.q z.hot z.warm,iT z.y.mo z.y.b z.ub (aL z.s) (aY z.s) (bI z.s) M.m,kL z.ub M.m,own wa wc 3 1 (aA M.j6),own (some ⟨vb,0,none⟩) (M.it p).val.length 5 1 (ax (M.it p).val),af b1 56 (zj (M.it p) (.slice (some ⟨vb,0,none⟩) (M.it p).val.length (M.it p).val.length))]) ?_;refine au (aB O (H:= [own (some ⟨vb,0,none⟩) (M.it p).val.length 5 1 (ax (M.it p).val),af b1 56 (zj (M.it p) (.slice (some ⟨vb,0,none⟩) (M.it p).val.length (M.it p).val.length))])) ?_;refine au (gV (M:=M) wa wc) ?_;refine FX [own (some ⟨vb,0,none⟩) (M.it p).val.length 5 1 (ax (M.it p).val),SW z M] tj results49 ?_;exact⟨vb,rfl,rfl⟩
theorem lI (z:Ly)(M:Mo)(hh:M.hole=none)(c:Nat)(hc:c<M.eR):aO aaO 157 [CM z.y.b,CO CN c] (λ_=>True) [SH z M]
  (λv H=>(M.take c=none/\v= .tuple #[CO CJ 0,CO CN 21]/\H= [SH z M])\/∃r N,M.take c=some (r,N)/\v= .tuple #[CO CJ (N.C.hd r),CO CN 0]/\H= [SH z N]):=
 dH λB O=>by
  have hG:c<B.C.ae.length:=by rw[O.eR];exact hc
  have h:=(I8 z.y.b B.C O.k c hG).fr (H:=dM z B M++ []) (R:=(dM z B M).tail) (.cons .here .nil) (λk ao=>trivial);refine h.out ?_;rintro v H' ⟨H0,hr,rfl⟩;rcases hT:B.C.eD c with _|⟨r,D⟩
  ·rw[hT]at hr
   obtain⟨rfl,rfl⟩:=hr;exact⟨[SH z M], .inl ⟨O.takeN hT,rfl,rfl⟩,λk s=>aB O (H:= []) k s⟩
  rw[hT]at hr;obtain⟨rfl,rfl⟩:=hr;obtain⟨N,n1,n2,n3,n4,O1,X⟩:=O.take hh hG hT;refine⟨[SH z N], .inr ⟨r,N,n1,by rw[n2],rfl⟩,λk s=>aB O1 (H:= []) k ?_⟩;have S:vv B.C (D.wA B.C.A) (λq=>q∈B.W.all):=⟨rfl,X.sz,λq _ M=>⟨((X.lv q).2 (.inl M)).wA _,(X.hd q M).1,(X.hd q M).2⟩⟩;have abC:M.Q.flatMap (cV B.C)=M.Q.flatMap (cV D):=(S.ls O.o λi q h=>O.oa h).symm;have abD:pB z.y.q z.y.wh D.ae.length (aL z.s) (aY z.s) B.C M.x=pB z.y.q z.y.wh D.ae.length (aL z.s) (aY z.s) D M.x:=(S.cw O.o (λi q h=>O.oa h) O.x _ _ _ _ _).symm;have abB:B.C.ae.length=D.ae.length:=by rw[X.sz]
  change ai ([Cl z.y.b D]++ [af z.y.t 154 (fk z.y.b B.W B.ty),af B.ty.nk 149 (aM (aD B.W.nb)),jH B.ty.ok 149 (aM (aD B.W.ob)),af z.y.q 182 (fC z.y.b z.qb B.C.ae.length),af z.qb 333 (M.Q.flatMap (cV B.C)),af z.y.cr 137 (pB z.y.q z.y.wh B.C.ae.length (aL z.s) (aY z.s) B.C M.x),Wl z.y.wh B.E M.tn,fm z.s z.y (fb M.v),
   kO z.y.ck M.k,jb z.y.lu z.y.b z.y.q z.hot z.warm,iT z.y.mo z.y.b z.ub (aL z.s) (aY z.s) (bI z.s) M.m,kL z.ub M.m,jJ M]) k at s
  rw[abC,abB,abD]at s;rw[n4];exact s
theorem Cx{f g:Nat->Bool}:∀{l:List Nat},(∀p∈l,f p=g p)->l.find? f=l.find? g/\l.findIdx? f=l.findIdx? g
 | [],_=>⟨rfl,rfl⟩
 |a::l,h=>by
  obtain⟨i1,i2⟩:=Cx (l:=l) λp hp=>h p (aaW _ hp);rw[aj1,aj1,ajc,ajc,h a aaV,i1,i2];exact⟨rfl,rfl⟩
theorem XA{d d' a a':Nat->Bool}{own:Option Nat}{n:Nat}{l:List Nat}(hd:∀p∈l,d p=d' p)(ha:∀p∈l,a p=a' p):mL d a own n l=mL d' a' own n l:=by
 unfold mL zP;have hs:∀p∈(dg own l).take n,p∈l:=λp hp=>(aba.1 (aji hp)).1;rw[(Cx λp hp=>hd p (hs p hp)).2,(Cx (f:=λq=> !a q) (g:=λq=> !a' q) λp hp=>by rw[ha p (hs p hp)]).1]
def Mo.pick (M:Mo)(c:Nat)(own:Option Nat):Option Nat×Bool×Nat:=mL (λp=>decide (M.cn p≠0)) (λp=>decide ((M.it p).ff % 2=1)) own 5 (lM M.Q c)
theorem oy{Q:List (List Nat)}{c p:Nat}(hp:p∈lM Q c):∃i,p∈ql Q i:=by
 unfold lM at hp;rw[af3,af3,agm,agm,agm]at hp;rcases hp with(h|h)|h<;>exact⟨_,h⟩
theorem qh{d a:Nat->Bool}{own:Option Nat}{n:Nat}{l:List Nat}{p:Nat}(h:(mL d a own n l).1=some p):p∈l/\some p≠own:=by
 have hs:∀p∈(dg own l).take n,p∈l/\some p≠own:=λp hp=>by
  obtain⟨h1,h2⟩:=aba.1 (aji hp);exact⟨h1,of_decide_eq_true h2⟩
 unfold mL zP at h;refine hs p ?_;generalize (dg own l).take n=r at*;cases hf:r.findIdx? d with
 |some i=>rw[hf]at h;exact aaT h
 |none=>
  rw[hf]at h;dsimp only at h;cases hg:r.find? (λq=> !a q)with
  |some q=>rw[hg]at h;cases h;exact afH hg
  |none=>rw[hg]at h;exact List.mem_of_mem_head? h
theorem Af (z:Ly)(M:Mo)(c:Nat)(hc:c<M.eR)(own:Option Nat)(ho:∀p,own=some p->M.has p):aO aaO 184 [CM z.y.lu,CO CN c,CO CJ (q9 M.C own),CO CN 5,aL z.s] (λ_=>True) [SH z M]
  (λv H=>v= .tuple #[CO CJ (q9 M.C (M.pick c own).1), .bool (M.pick c own).2.1,CO CN ((M.pick c own).2.2)]/\H= [SH z M]):=
 dH λB O=>by
  have hG:c<B.C.ae.length:=by rw[O.eR];exact hc
  have h:=(TY z.y.lu z.y.q z.qb z.hot z.warm z.s z.y (fb M.v) B.C O.k M.Q O.o O.mq c hG M.k own (λp e=>O.nm ((O.al p).2 (ho p e)))).fr (H:=dM z B M++ []) (R:=dM z B M) (lD [] _) (λk ao=>⟨ao.nth 0 rfl,ao.nth 10 rfl,⟨ao.nth 4 rfl,ao.nth 5 rfl,trivial⟩,ao.nth 8 rfl,ao.nth 9 rfl⟩);rw[OT O]at h;have hp:mL (λp=>decide (za B.C.A M.k p≠0)) (C7 B.C.A) own 5 (lM M.Q c)=M.pick c own:=by
   refine XA (λp hp=> ?_) (λp hp=> ?_)
   ·have h2:=(O.al p).2 (oy hp)
    rw[O.abf h2]
   have h2:=(O.al p).2 (oy hp);unfold C7;rw[(O.wi h2).1]
  refine h.out ?_;rintro v H' ⟨H0,⟨p,d,n,e,rfl,rfl⟩,rfl⟩;rw[hp]at e;refine⟨[SH z M],⟨by rw[<-e,OT O],rfl⟩,λk s=>aB O (H:= []) k s⟩
def Mo.cP (M:Mo)(c:Nat):Mo:={M with m:=M.m.jO c}
theorem tX (z:Ly)(M:Mo)(c:Nat)(hc:c<M.eR)(gB:M.m.st<4611686018427387904):aO aaO 185 [CM z.y.mo,CO CN c] (λ_=>True) [SH z M]
  (λv H=>v= .tuple #[]/\H= [SH z (M.cP c)]):=
 dH λB O=>by
  have h:=(Fe z.y.mo z.y.b z.ub (aL z.s) (aY z.s) (bI z.s) M.m c (by rw[O.un,O.eR];exact hc) gB).fr (H:=dM z B M++ []) (R:= [Cl z.y.b B.C,af z.y.t 154 (fk z.y.b B.W B.ty),af B.ty.nk 149 (aM (aD B.W.nb)),jH B.ty.ok 149 (aM (aD B.W.ob)),af z.y.q 182 (fC z.y.b z.qb B.C.ae.length),af z.qb 333 (M.Q.flatMap (cV B.C)),gh z.y.cr z.y.q z.y.wh B.C.ae.length (aL z.s) (aY z.s) B.C M.x,Wl z.y.wh B.E M.tn,fm z.s z.y (fb M.v),
   kO z.y.ck M.k,jb z.y.lu z.y.b z.y.q z.hot z.warm,iT z.y.mo z.y.b z.ub (aL z.s) (aY z.s) (bI z.s) M.m,jJ M]) (.cons (.there (.there (.there (.there (.there (.there (.there (.there (.there (.there (.there (.there .here)))))))))))) .nil) (λk ao=>ao.nth 11 rfl)
  refine h.out ?_;rintro v H' ⟨H0,⟨rfl,rfl⟩,rfl⟩;have O1:bL B (M.cP c):=⟨O.c,O.k,O.t,O.ty,O.o,O.x,O.mq,O.ck,O.al,O.lv,O.ho,O.it,O.e,O.st,O.nb,O.mg,O.mo,O.bt,by show(M.m.un.set c _).length=_;rw[aaY];exact O.un,O.on,O.go,O.wn,O.cf,O.n,O.lg⟩;refine⟨[SH z (M.cP c)],⟨rfl,rfl⟩,λk s=>aB O1 (H:= []) k ?_⟩
  revert s
  revert k
  show∀k,_->ai [Cl z.y.b B.C,af z.y.t 154 (fk z.y.b B.W B.ty),af B.ty.nk 149 (aM (aD B.W.nb)),jH B.ty.ok 149 (aM (aD B.W.ob)),af z.y.q 182 (fC z.y.b z.qb B.C.ae.length),af z.qb 333 (M.Q.flatMap (cV B.C)),gh z.y.cr z.y.q z.y.wh B.C.ae.length (aL z.s) (aY z.s) B.C M.x,Wl z.y.wh B.E M.tn,fm z.s z.y (fb M.v),
   kO z.y.ck M.k,jb z.y.lu z.y.b z.y.q z.hot z.warm,iT z.y.mo z.y.b z.ub (aL z.s) (aY z.s) (bI z.s) (M.m.jO c),kL z.ub (M.m.jO c),jJ M] k
  rw[show iT z.y.mo z.y.b z.ub (aL z.s) (aY z.s) (bI z.s) (M.m.jO c)=iT z.y.mo z.y.b z.ub (aL z.s) (aY z.s) (bI z.s) M.m by unfold iT CQ iz.jO;dsimp only;rw[aaY]];simp only[o8,cap];exact Eh
theorem E4 (z:Ly)(M:Mo)(c:Nat)(hn:¬(M.m.on=true/\M.m.fr=c)):aO aaO 183 [CM z.y.mo,CO CN c] (λ_=>True) [SH z M]
  (λv H=>v= .bool false/\H= [SH z M]):=
 dH λB O=>by
  have h:=(H5 z.y.mo z.y.b z.ub (aL z.s) (aY z.s) (bI z.s) M.m c hn).fr (H:=dM z B M++ []) (R:=dM z B M) (lD [] _) (λk ao=>ao.nth 11 rfl);refine h.out ?_;rintro v H' ⟨H0,⟨rfl,rfl⟩,rfl⟩;exact⟨[SH z M],⟨rfl,rfl⟩,λk s=>aB O (H:= []) k s⟩
def Mo.last (M:Mo)(c p:Nat):Option Nat×Mo:=match(M.ca p).take c with
 |some (r,N)=>(some r,N)
 |none=>(none,M.ca p)
def Mo.DH (M:Mo)(c:Nat):Option Nat->Bool->Option Nat×Mo
 |none,true=>(none,M)
 |none,false=>(none,M.cP c)
 |some p,true=>(M.aU {M.v.mt with re:=cE (M.v.mt.re+1)}).last c p
 |some p,false=>((M.cP c).aU {(M.cP c).v.mt with dr:=cE ((M.cP c).v.mt.dr+1)}).last c p
def Mo.iy (M:Mo)(c:Nat)(own:Option Nat):Option Nat×Mo:=(M.aU {M.v.mt with lo:=cE (M.v.mt.lo+((M.pick c own).2.2:Int))}).DH c (M.pick c own).1 (M.pick c own).2.1
def Mo.pI (M:Mo)(c:Nat)(own:Option Nat):Option Nat×Mo:=match M.take c with
 |some (r,N)=>(some r,N)
 |none=>if M.m.on=true/\M.m.fr=c then(match M.mstop.take c with
  |some (r,N)=>(some r,N)
  |none=>M.mstop.iy c own)else M.iy c own
def Mo.room (M:Mo)(n:Nat)(own:Option Nat):Option Nat×Mo:=match M.C.ae.findIdx? λz=>decide (n<=z)with
 |none=>(none,M)
 |some c=>M.pI c own
theorem bL.o9{B:Bx}{M:Mo}(O:bL B M){p:Nat}(hp:M.has p):M.C.hd p≠0:=by
 have h:=(bV O.k (O.nm ((O.al p).2 hp))).2.2.2.2.2;rw[O.hd]at h;exact h
theorem LA (z:Ly)(M:Mo)(hh:M.hole=none)(gB:M.m.st<4611686018427387904)(kn vn:Nat)(hk:1<=kn/\kn<=250)(hv:vn<=1048576)(own:Option Nat)(jg:∀p,own=some p->M.has p):
  aO aaO 128 [CM z.s,CO CN kn,CO CN vn,CO CJ (q9 M.C own)] (λ_=>True) [SH z M]
   (λw H=>∃o N,M.room (58+kn+vn) own=(o,N)/\w=CO CJ (q9 N.C o)/\H= [SH z N]):=by
 refine ag func128 rfl ntmps128 rfl ?_;intro F _;refine bG ?_;refine zl CF (Er kn vn hk hv) .nil CI ?_;refine bG ?_;refine cF λB O=> ?_;have fo:=ady z.y.b B.C O.k (58+kn+vn) (by omega);rw[show B.C.ae=M.C.ae by rw[O.c];rfl]at fo;have cR:=λc (h:(M.C.ae.findIdx? λz=>decide (58+kn+vn<=z))=some c)=>(show c<M.eR from(abc.1 h).1);have hXn:=λp hp=>O.o9 (p:=p) hp;have agY:∀p,M.has p->M.m.on=true->M.mstop.C.hd p=M.C.hd p:=λp hp jF=>by
  have h:=(((O.stay jF).1).lv p ((O.al p).2 hp) (O.sN ((O.al p).2 hp))).2.1;rw[O.hd]at h;rw[<-h];show(M.C.iu M.m.pg).hd p=(B.C.iu M.m.pg).hd p;rw[O.c];rfl
 unfold dM fm iQ fb pV iZ;refine aX ?_;refine bR ?_;refine Lp (oC CF rfl rfl (fo) .nil (λ_ le ao=>ao.nth 0 rfl) ?_);rintro v H' ⟨hv0,rfl⟩;refine aX ?_;rcases hf:(M.C.ae.findIdx? λz=>decide (58+kn+vn<=z))with _|c
 ·rw[hf]at hv0
  subst hv0;refine ri ?_;refine Hh (H':=gC z B.C B.W B.ty B.C.ae.length (M.Q.flatMap (cV B.C)) M.x B.E M.tn (M.v,[CO CJ M.v.bh,CO CN M.v.eW,CO CN M.v.mt.dr,CO CN M.v.mt.re,CO CN M.v.mt.bu,CO CN M.v.mt.li,CO CN M.v.mt.lo,CO CN M.v.mt.cr,CO CN M.v.mt.mv, .slice M.v.wa M.v.wn M.v.wc]) M.k M.m M []) ?_;unfold gC oW;refine au (aB O (H:= [])) ?_;refine Rt [SH z M] results128 ?_;exact⟨none,M,by unfold Mo.room;rw[hf],rfl,rfl⟩
 rw[hf]at hv0;subst hv0;have Og:=cR c hf;have hrc:M.room (58+kn+vn) own=M.pI c own:=by unfold Mo.room;rw[hf]
 refine fq ?_;refine Hh (H':=gC z B.C B.W B.ty B.C.ae.length (M.Q.flatMap (cV B.C)) M.x B.E M.tn (M.v,[CO CJ M.v.bh,CO CN M.v.eW,CO CN M.v.mt.dr,CO CN M.v.mt.re,CO CN M.v.mt.bu,CO CN M.v.mt.li,CO CN M.v.mt.lo,CO CN M.v.mt.cr,CO CN M.v.mt.mv, .slice M.v.wa M.v.wn M.v.wc]) M.k M.m M []) ?_;unfold gC oW;refine au (aB O (H:= [])) ?_;refine PL λB O=> ?_;refine cF λB O=> ?_;unfold dM fm iQ fb pV iZ;refine aX ?_;refine bR ?_;refine Hh (H':=gC z B.C B.W B.ty B.C.ae.length (M.Q.flatMap (cV B.C)) M.x B.E M.tn (M.v,[CO CJ M.v.bh,CO CN M.v.eW,CO CN M.v.mt.dr,CO CN M.v.mt.re,CO CN M.v.mt.bu,CO CN M.v.mt.li,CO CN M.v.mt.lo,CO CN M.v.mt.cr,CO CN M.v.mt.mv, .slice M.v.wa M.v.wn M.v.wc]) M.k M.m M []) ?_;unfold gC oW;refine au (aB O (H:= [])) ?_;refine Lp (oC CF rfl rfl (lI z M hh c Og) (.cons .here .nil) CI ?_);rintro v H' hr;refine aX ?_;rcases hr with⟨ht,rfl,rfl⟩|⟨r,N,ht,rfl,rfl⟩
 ·by_cases jF:M.m.on=true/\M.m.fr=c
  ·have OS:M.pI c own=match M.mstop.take c with
    |some (r,N)=>(some r,N)
    |none=>M.mstop.iy c own:=by unfold Mo.pI;rw[ht];dsimp only;rw[if_pos jF]
   refine bW ?_;refine zt 47 ?_ (e:=by rfl);refine cF λB O=> ?_;unfold dM fm iQ fb pV iZ;refine aX ?_;refine bG ?_;refine Hh (H':=gC z B.C B.W B.ty B.C.ae.length (M.Q.flatMap (cV B.C)) M.x B.E M.tn (M.v,[CO CJ M.v.bh,CO CN M.v.eW,CO CN M.v.mt.dr,CO CN M.v.mt.re,CO CN M.v.mt.bu,CO CN M.v.mt.li,CO CN M.v.mt.lo,CO CN M.v.mt.cr,CO CN M.v.mt.mv, .slice M.v.wa M.v.wn M.v.wc]) M.k M.m M []) ?_;unfold gC oW;refine au (aB O (H:= [])) ?_;refine zl CF (yu z M jF.1 c jF.2) (.cons .here .nil) CI ?_;obtain⟨X,hX⟩:∃X,X=M.mstop:=⟨_,rfl⟩;rw[<-hX]at OS⊢;have hX0:X.hole=none:=by rw[hX];exact hh
   have Og:c<X.eR:=by rw[hX];exact Og
   refine bz ?_;refine cF λB O=> ?_;unfold dM fm iQ fb pV iZ;refine aX ?_;refine bR ?_;refine Hh (H':=gC z B.C B.W B.ty B.C.ae.length (X.Q.flatMap (cV B.C)) X.x B.E X.tn (X.v,[CO CJ X.v.bh,CO CN X.v.eW,CO CN X.v.mt.dr,CO CN X.v.mt.re,CO CN X.v.mt.bu,CO CN X.v.mt.li,CO CN X.v.mt.lo,CO CN X.v.mt.cr,CO CN X.v.mt.mv, .slice X.v.wa X.v.wn X.v.wc]) X.k X.m X []) ?_;unfold gC oW;refine au (aB O (H:= [])) ?_;refine Lp (oC CF rfl rfl (lI z X hX0 c Og) (.cons .here .nil) CI ?_);rintro v H' hr;refine aX ?_;rcases hr with⟨qq,rfl,rfl⟩|⟨r,N,qq,rfl,rfl⟩
   ·rw[qq]at OS
    have hR:M.room (58+kn+vn) own=X.iy c own:=by rw[hrc,OS]
    have hXo:q9 X.C own=q9 M.C own:=by
     cases hown0:own with
     |none=>rfl
     |some p=>rw[hX];exact agY p (jg p hown0) jF.1
    have hXh:∀p,own=some p->X.has p:=by rw[hX];exact jg
    have hXs:X.m.st<4611686018427387904:=by rw[hX];exact gB
    have hXn:∀p,X.has p->X.C.hd p≠0:=λp hp=>by
     rw[hX]at hp⊢;rw[show M.mstop.C.hd p=M.C.hd p from agY p hp jF.1];exact hXn p hp
    refine dB ?_;rw[show q9 M.C own=q9 X.C own from hXo.symm];refine bA ?_;refine cF λB O=> ?_;unfold dM fm iQ fb pV iZ;refine aX ?_;refine cA ?_;refine Li Mf ?_;refine Hh (H':=gC z B.C B.W B.ty B.C.ae.length (X.Q.flatMap (cV B.C)) X.x B.E X.tn (X.v,[CO CJ X.v.bh,CO CN X.v.eW,CO CN X.v.mt.dr,CO CN X.v.mt.re,CO CN X.v.mt.bu,CO CN X.v.mt.li,CO CN X.v.mt.lo,CO CN X.v.mt.cr,CO CN X.v.mt.mv, .slice X.v.wa X.v.wn X.v.wc]) X.k X.m X []) ?_;unfold gC oW;refine au (aB O (H:= [])) ?_;refine zl CF (Af z X c Og own hXh) (.cons .here .nil) CI ?_;refine dm ?_;obtain⟨o,ho⟩:∃o,o=X.pick c own:=⟨_,rfl⟩;rw[<-ho];obtain⟨po,d,nn⟩:=o;dsimp only;refine cF λB O=> ?_;unfold dM fm iQ fb pV iZ;refine aX ?_;refine gz ?_;refine aw ?_;have O':=O.aU {X.v.mt with lo:=cE (X.v.mt.lo+(nn:Int))};refine Hh (H':=gC z B.C B.W B.ty B.C.ae.length (X.Q.flatMap (cV B.C)) X.x B.E X.tn (X.v,[CO CJ X.v.bh,CO CN X.v.eW,CO CN X.v.mt.dr,CO CN X.v.mt.re,CO CN X.v.mt.bu,CO CN X.v.mt.li,CO CN (IntKind.i64.wrap (X.v.mt.lo+(nn:Int))),CO CN X.v.mt.cr,CO CN X.v.mt.mv, .slice X.v.wa X.v.wn X.v.wc]) X.k X.m X []) ?_;unfold gC oW;refine au (aB O' (H:= [])) ?_;obtain⟨X1,KA⟩:∃X1,X1=X.aU {X.v.mt with lo:=cE (X.v.mt.lo+(nn:Int))}:=⟨_,rfl⟩;rw[<-KA];have nC:X.iy c own=X1.DH c po d:=by unfold Mo.iy;rw[<-ho,KA]
    have abr:X1.m.st<4611686018427387904:=by rw[KA];exact hXs
    have abt:c<X1.eR:=by rw[KA];exact Og
    rcases d with _|_
    ·refine gK ?_
     refine bm ?_;refine cF λB O=> ?_;unfold dM fm iQ fb pV iZ;refine aX ?_;refine bR ?_;refine Hh (H':=gC z B.C B.W B.ty B.C.ae.length (X1.Q.flatMap (cV B.C)) X1.x B.E X1.tn (X1.v,[CO CJ X1.v.bh,CO CN X1.v.eW,CO CN X1.v.mt.dr,CO CN X1.v.mt.re,CO CN X1.v.mt.bu,CO CN X1.v.mt.li,CO CN X1.v.mt.lo,CO CN X1.v.mt.cr,CO CN X1.v.mt.mv, .slice X1.v.wa X1.v.wn X1.v.wc]) X1.k X1.m X1 []) ?_;unfold gC oW;refine au (aB O (H:= [])) ?_;refine zl CF (tX z X1 c abt abr) (.cons .here .nil) CI ?_;refine av ?_;refine aw ?_;obtain⟨X2,Kz⟩:∃X2,X2=X1.cP c:=⟨_,rfl⟩;rw[<-Kz];rcases po with _|p
     ·refine gK ?_
      refine cA ?_;refine Rt [SH z X2] results128 ?_;exact⟨none,X2,by rw[hR,nC];show(none,X1.cP c)=_;rw[<-Kz],rfl,rfl⟩
     have FQ:X.has p:=oy (qh (p:=p) (by have:=congrArg Prod.fst ho;exact this.symm)).1;have fN:=hXn p FQ;refine bm ?_;refine cO ?_ (e:=by exact decide_eq_false (by show¬(((X.C.hd p:Nat):Int)=0);omega));refine bR ?_;refine cF λB O=> ?_;unfold dM fm iQ fb pV iZ;refine aX ?_;refine dB ?_;have O':=O.aU {X2.v.mt with dr:=cE (X2.v.mt.dr+1)};refine Hh (H':=gC z B.C B.W B.ty B.C.ae.length (X2.Q.flatMap (cV B.C)) X2.x B.E X2.tn (X2.v,[CO CJ X2.v.bh,CO CN X2.v.eW,CO CN (IntKind.i64.wrap (X2.v.mt.dr+1)),CO CN X2.v.mt.re,CO CN X2.v.mt.bu,CO CN X2.v.mt.li,CO CN X2.v.mt.lo,CO CN X2.v.mt.cr,CO CN X2.v.mt.mv, .slice X2.v.wa X2.v.wn X2.v.wc]) X2.k X2.m X2 []) ?_;unfold gC oW;refine au (aB O' (H:= [])) ?_;obtain⟨X3,V4⟩:∃X3,X3=X2.aU {X2.v.mt with dr:=cE (X2.v.mt.dr+1)}:=⟨_,rfl⟩;rw[<-V4];have tg:X3.C=X.C/\X3.Q=X.Q/\X3.hole=X.hole/\X3.eR=X.eR:=by rw[V4,Kz,KA];exact⟨rfl,rfl,rfl,rfl⟩
     have OV:X3.C=X.C/\X3.has p=X.has p:=⟨tg.1,by unfold Mo.has;rw[tg.2.1]⟩;rw[<-OV.1];refine bz ?_;obtain⟨j9,xf⟩:∃j9,j9=X3.ca p:=⟨_,rfl⟩;refine zl CF (jR z X3 p (by rw[OV.2];exact FQ)) (.cons .here .nil) CI ?_;rw[<-xf];have hha:j9.hole=none:=by rw[xf];exact tg.2.2.1.trans hX0
     have yS:c<j9.eR:=by rw[xf];show c<X3.eR;rw[tg.2.2.2];exact Og
     refine av ?_;refine cF λB O=> ?_;unfold dM fm iQ fb pV iZ;refine aX ?_;refine bR ?_;refine Hh (H':=gC z B.C B.W B.ty B.C.ae.length (j9.Q.flatMap (cV B.C)) j9.x B.E j9.tn (j9.v,[CO CJ j9.v.bh,CO CN j9.v.eW,CO CN j9.v.mt.dr,CO CN j9.v.mt.re,CO CN j9.v.mt.bu,CO CN j9.v.mt.li,CO CN j9.v.mt.lo,CO CN j9.v.mt.cr,CO CN j9.v.mt.mv, .slice j9.v.wa j9.v.wn j9.v.wc]) j9.k j9.m j9 []) ?_;unfold gC oW;refine au (aB O (H:= [])) ?_;refine Lp (oC CF rfl rfl (lI z j9 hha c yS) (.cons .here .nil) CI ?_);rintro v H' hr;refine aX ?_;rcases hr with⟨ht,rfl,rfl⟩|⟨r,N,ht,rfl,rfl⟩
     ·refine Li Mv ?_
      refine cA ?_;refine Rt [SH z j9] results128 ?_;refine⟨none,j9, ?_,rfl,rfl⟩;rw[hR,nC];show(((X1.cP c).aU _).last c p)=_;rw[<-Kz,<-V4];unfold Mo.last;rw[<-xf,ht]
     refine Li Mv ?_;refine cA ?_;refine Rt [SH z N] results128 ?_;refine⟨some r,N, ?_,rfl,rfl⟩;rw[hR,nC];show(((X1.cP c).aU _).last c p)=_;rw[<-Kz,<-V4];unfold Mo.last;rw[<-xf,ht]
    refine gK ?_;refine bW ?_;rcases po with _|p
    ·refine eU ?_ (e:=by rfl)
     refine bE ?_;refine Rt [SH z X1] results128 ?_;exact⟨none,X1,by rw[hR,nC];rfl,rfl,rfl⟩
    have FQ:X.has p:=oy (qh (p:=p) (by have:=congrArg Prod.fst ho;exact this.symm)).1;have fN:=hXn p FQ;refine cO ?_ (e:=by exact decide_eq_false (by show¬(((X.C.hd p:Nat):Int)=0);omega));refine bR ?_;refine cF λB O=> ?_;unfold dM fm iQ fb pV iZ;refine aX ?_;refine dB ?_;have O':=O.aU {X1.v.mt with re:=cE (X1.v.mt.re+1)};refine Hh (H':=gC z B.C B.W B.ty B.C.ae.length (X1.Q.flatMap (cV B.C)) X1.x B.E X1.tn (X1.v,[CO CJ X1.v.bh,CO CN X1.v.eW,CO CN X1.v.mt.dr,CO CN (IntKind.i64.wrap (X1.v.mt.re+1)),CO CN X1.v.mt.bu,CO CN X1.v.mt.li,CO CN X1.v.mt.lo,CO CN X1.v.mt.cr,CO CN X1.v.mt.mv, .slice X1.v.wa X1.v.wn X1.v.wc]) X1.k X1.m X1 []) ?_;unfold gC oW;refine au (aB O' (H:= [])) ?_;obtain⟨X4,V3⟩:∃X4,X4=X1.aU {X1.v.mt with re:=cE (X1.v.mt.re+1)}:=⟨_,rfl⟩;rw[<-V3];have te:X4.C=X.C/\X4.Q=X.Q/\X4.hole=X.hole/\X4.eR=X.eR:=by rw[V3,KA];exact⟨rfl,rfl,rfl,rfl⟩
    have OU:X4.C=X.C/\X4.has p=X.has p:=⟨te.1,by unfold Mo.has;rw[te.2.1]⟩;rw[<-OU.1];refine bz ?_;obtain⟨j8,xe⟩:∃j8,j8=X4.ca p:=⟨_,rfl⟩;refine zl CF (jR z X4 p (by rw[OU.2];exact FQ)) (.cons .here .nil) CI ?_;rw[<-xe];have hha:j8.hole=none:=by rw[xe];exact te.2.2.1.trans hX0
    have yS:c<j8.eR:=by rw[xe];show c<X4.eR;rw[te.2.2.2];exact Og
    refine av ?_;refine cF λB O=> ?_;unfold dM fm iQ fb pV iZ;refine aX ?_;refine bR ?_;refine Hh (H':=gC z B.C B.W B.ty B.C.ae.length (j8.Q.flatMap (cV B.C)) j8.x B.E j8.tn (j8.v,[CO CJ j8.v.bh,CO CN j8.v.eW,CO CN j8.v.mt.dr,CO CN j8.v.mt.re,CO CN j8.v.mt.bu,CO CN j8.v.mt.li,CO CN j8.v.mt.lo,CO CN j8.v.mt.cr,CO CN j8.v.mt.mv, .slice j8.v.wa j8.v.wn j8.v.wc]) j8.k j8.m j8 []) ?_;unfold gC oW;refine au (aB O (H:= [])) ?_;refine Lp (oC CF rfl rfl (lI z j8 hha c yS) (.cons .here .nil) CI ?_);rintro v H' hr;refine aX ?_;rcases hr with⟨ht,rfl,rfl⟩|⟨r,N,ht,rfl,rfl⟩
    ·refine Li Mv ?_
     refine cA ?_;refine Rt [SH z j8] results128 ?_;refine⟨none,j8, ?_,rfl,rfl⟩;rw[hR,nC];show((X1.aU _).last c p)=_;rw[<-V3];unfold Mo.last;rw[<-xe,ht]
    refine Li Mv ?_;refine cA ?_;refine Rt [SH z N] results128 ?_;refine⟨some r,N, ?_,rfl,rfl⟩;rw[hR,nC];show((X1.aU _).last c p)=_;rw[<-V3];unfold Mo.last;rw[<-xe,ht]
   rw[qq]at OS;refine sT ?_;refine Rt [SH z N] results128 ?_;exact⟨some r,N,by rw[hrc,OS],rfl,rfl⟩
  have hR:M.room (58+kn+vn) own=M.iy c own:=by rw[hrc];unfold Mo.pI;rw[ht];dsimp only;rw[if_neg jF]
  have hX0:=hh;have hXo:q9 M.C own=q9 M.C own:=rfl;have hXh:=jg;have hXs:=gB;refine bW ?_;refine zt 47 ?_ (e:=by rfl);refine cF λB O=> ?_;unfold dM fm iQ fb pV iZ;refine aX ?_;refine bG ?_;refine Hh (H':=gC z B.C B.W B.ty B.C.ae.length (M.Q.flatMap (cV B.C)) M.x B.E M.tn (M.v,[CO CJ M.v.bh,CO CN M.v.eW,CO CN M.v.mt.dr,CO CN M.v.mt.re,CO CN M.v.mt.bu,CO CN M.v.mt.li,CO CN M.v.mt.lo,CO CN M.v.mt.cr,CO CN M.v.mt.mv, .slice M.v.wa M.v.wn M.v.wc]) M.k M.m M []) ?_;unfold gC oW;refine au (aB O (H:= [])) ?_;refine zl CF (E4 z M c jF) (.cons .here .nil) CI ?_;refine bW ?_;rw[show q9 M.C own=q9 M.C own from hXo.symm];refine bA ?_;refine cF λB O=> ?_;unfold dM fm iQ fb pV iZ;refine aX ?_;refine cA ?_;refine Li Mf ?_;refine Hh (H':=gC z B.C B.W B.ty B.C.ae.length (M.Q.flatMap (cV B.C)) M.x B.E M.tn (M.v,[CO CJ M.v.bh,CO CN M.v.eW,CO CN M.v.mt.dr,CO CN M.v.mt.re,CO CN M.v.mt.bu,CO CN M.v.mt.li,CO CN M.v.mt.lo,CO CN M.v.mt.cr,CO CN M.v.mt.mv, .slice M.v.wa M.v.wn M.v.wc]) M.k M.m M []) ?_;unfold gC oW;refine au (aB O (H:= [])) ?_;refine zl CF (Af z M c Og own hXh) (.cons .here .nil) CI ?_;refine dm ?_;obtain⟨o,ho⟩:∃o,o=M.pick c own:=⟨_,rfl⟩;rw[<-ho];obtain⟨po,d,nn⟩:=o;dsimp only;refine cF λB O=> ?_;unfold dM fm iQ fb pV iZ;refine aX ?_;refine gz ?_;refine aw ?_;have O':=O.aU {M.v.mt with lo:=cE (M.v.mt.lo+(nn:Int))};refine Hh (H':=gC z B.C B.W B.ty B.C.ae.length (M.Q.flatMap (cV B.C)) M.x B.E M.tn (M.v,[CO CJ M.v.bh,CO CN M.v.eW,CO CN M.v.mt.dr,CO CN M.v.mt.re,CO CN M.v.mt.bu,CO CN M.v.mt.li,CO CN (IntKind.i64.wrap (M.v.mt.lo+(nn:Int))),CO CN M.v.mt.cr,CO CN M.v.mt.mv, .slice M.v.wa M.v.wn M.v.wc]) M.k M.m M []) ?_;unfold gC oW;refine au (aB O' (H:= [])) ?_;obtain⟨X1,KA⟩:∃X1,X1=M.aU {M.v.mt with lo:=cE (M.v.mt.lo+(nn:Int))}:=⟨_,rfl⟩;rw[<-KA];have nC:M.iy c own=X1.DH c po d:=by unfold Mo.iy;rw[<-ho,KA]
  have abr:X1.m.st<4611686018427387904:=by rw[KA];exact hXs
  have abt:c<X1.eR:=by rw[KA];exact Og
  rcases d with _|_
  ·refine gK ?_
   refine bm ?_;refine cF λB O=> ?_;unfold dM fm iQ fb pV iZ;refine aX ?_;refine bR ?_;refine Hh (H':=gC z B.C B.W B.ty B.C.ae.length (X1.Q.flatMap (cV B.C)) X1.x B.E X1.tn (X1.v,[CO CJ X1.v.bh,CO CN X1.v.eW,CO CN X1.v.mt.dr,CO CN X1.v.mt.re,CO CN X1.v.mt.bu,CO CN X1.v.mt.li,CO CN X1.v.mt.lo,CO CN X1.v.mt.cr,CO CN X1.v.mt.mv, .slice X1.v.wa X1.v.wn X1.v.wc]) X1.k X1.m X1 []) ?_;unfold gC oW;refine au (aB O (H:= [])) ?_;refine zl CF (tX z X1 c abt abr) (.cons .here .nil) CI ?_;refine av ?_;refine aw ?_;obtain⟨X2,Kz⟩:∃X2,X2=X1.cP c:=⟨_,rfl⟩;rw[<-Kz];rcases po with _|p
   ·refine gK ?_
    refine cA ?_;refine Rt [SH z X2] results128 ?_;exact⟨none,X2,by rw[hR,nC];show(none,X1.cP c)=_;rw[<-Kz],rfl,rfl⟩
   have FQ:M.has p:=oy (qh (p:=p) (by have:=congrArg Prod.fst ho;exact this.symm)).1;have fN:=hXn p FQ;refine bm ?_;refine cO ?_ (e:=by exact decide_eq_false (by show¬(((M.C.hd p:Nat):Int)=0);omega));refine bR ?_;refine cF λB O=> ?_;unfold dM fm iQ fb pV iZ;refine aX ?_;refine dB ?_;have O':=O.aU {X2.v.mt with dr:=cE (X2.v.mt.dr+1)};refine Hh (H':=gC z B.C B.W B.ty B.C.ae.length (X2.Q.flatMap (cV B.C)) X2.x B.E X2.tn (X2.v,[CO CJ X2.v.bh,CO CN X2.v.eW,CO CN (IntKind.i64.wrap (X2.v.mt.dr+1)),CO CN X2.v.mt.re,CO CN X2.v.mt.bu,CO CN X2.v.mt.li,CO CN X2.v.mt.lo,CO CN X2.v.mt.cr,CO CN X2.v.mt.mv, .slice X2.v.wa X2.v.wn X2.v.wc]) X2.k X2.m X2 []) ?_;unfold gC oW;refine au (aB O' (H:= [])) ?_;obtain⟨X3,V4⟩:∃X3,X3=X2.aU {X2.v.mt with dr:=cE (X2.v.mt.dr+1)}:=⟨_,rfl⟩;rw[<-V4];have tg:X3.C=M.C/\X3.Q=M.Q/\X3.hole=M.hole/\X3.eR=M.eR:=by rw[V4,Kz,KA];exact⟨rfl,rfl,rfl,rfl⟩
   have OV:X3.C=M.C/\X3.has p=M.has p:=⟨tg.1,by unfold Mo.has;rw[tg.2.1]⟩;rw[<-OV.1];refine bz ?_;obtain⟨j9,xf⟩:∃j9,j9=X3.ca p:=⟨_,rfl⟩;refine zl CF (jR z X3 p (by rw[OV.2];exact FQ)) (.cons .here .nil) CI ?_;rw[<-xf];have hha:j9.hole=none:=by rw[xf];exact tg.2.2.1.trans hX0
   have yS:c<j9.eR:=by rw[xf];show c<X3.eR;rw[tg.2.2.2];exact Og
   refine av ?_;refine cF λB O=> ?_;unfold dM fm iQ fb pV iZ;refine aX ?_;refine bR ?_;refine Hh (H':=gC z B.C B.W B.ty B.C.ae.length (j9.Q.flatMap (cV B.C)) j9.x B.E j9.tn (j9.v,[CO CJ j9.v.bh,CO CN j9.v.eW,CO CN j9.v.mt.dr,CO CN j9.v.mt.re,CO CN j9.v.mt.bu,CO CN j9.v.mt.li,CO CN j9.v.mt.lo,CO CN j9.v.mt.cr,CO CN j9.v.mt.mv, .slice j9.v.wa j9.v.wn j9.v.wc]) j9.k j9.m j9 []) ?_;unfold gC oW;refine au (aB O (H:= [])) ?_;refine Lp (oC CF rfl rfl (lI z j9 hha c yS) (.cons .here .nil) CI ?_);rintro v H' hr;refine aX ?_;rcases hr with⟨ht,rfl,rfl⟩|⟨r,N,ht,rfl,rfl⟩
   ·refine Li Mv ?_
    refine cA ?_;refine Rt [SH z j9] results128 ?_;refine⟨none,j9, ?_,rfl,rfl⟩;rw[hR,nC];show(((X1.cP c).aU _).last c p)=_;rw[<-Kz,<-V4];unfold Mo.last;rw[<-xf,ht]
   refine Li Mv ?_;refine cA ?_;refine Rt [SH z N] results128 ?_;refine⟨some r,N, ?_,rfl,rfl⟩;rw[hR,nC];show(((X1.cP c).aU _).last c p)=_;rw[<-Kz,<-V4];unfold Mo.last;rw[<-xf,ht]
  refine gK ?_;refine bW ?_;rcases po with _|p
  ·refine eU ?_ (e:=by rfl)
   refine bE ?_;refine Rt [SH z X1] results128 ?_;exact⟨none,X1,by rw[hR,nC];rfl,rfl,rfl⟩
  have FQ:M.has p:=oy (qh (p:=p) (by have:=congrArg Prod.fst ho;exact this.symm)).1;have fN:=hXn p FQ;refine cO ?_ (e:=by exact decide_eq_false (by show¬(((M.C.hd p:Nat):Int)=0);omega));refine bR ?_;refine cF λB O=> ?_;unfold dM fm iQ fb pV iZ;refine aX ?_;refine dB ?_;have O':=O.aU {X1.v.mt with re:=cE (X1.v.mt.re+1)};refine Hh (H':=gC z B.C B.W B.ty B.C.ae.length (X1.Q.flatMap (cV B.C)) X1.x B.E X1.tn (X1.v,[CO CJ X1.v.bh,CO CN X1.v.eW,CO CN X1.v.mt.dr,CO CN (IntKind.i64.wrap (X1.v.mt.re+1)),CO CN X1.v.mt.bu,CO CN X1.v.mt.li,CO CN X1.v.mt.lo,CO CN X1.v.mt.cr,CO CN X1.v.mt.mv, .slice X1.v.wa X1.v.wn X1.v.wc]) X1.k X1.m X1 []) ?_;unfold gC oW;refine au (aB O' (H:= [])) ?_;obtain⟨X4,V3⟩:∃X4,X4=X1.aU {X1.v.mt with re:=cE (X1.v.mt.re+1)}:=⟨_,rfl⟩;rw[<-V3];have te:X4.C=M.C/\X4.Q=M.Q/\X4.hole=M.hole/\X4.eR=M.eR:=by rw[V3,KA];exact⟨rfl,rfl,rfl,rfl⟩
  have OU:X4.C=M.C/\X4.has p=M.has p:=⟨te.1,by unfold Mo.has;rw[te.2.1]⟩;rw[<-OU.1];refine bz ?_;obtain⟨j8,xe⟩:∃j8,j8=X4.ca p:=⟨_,rfl⟩;refine zl CF (jR z X4 p (by rw[OU.2];exact FQ)) (.cons .here .nil) CI ?_;rw[<-xe];have hha:j8.hole=none:=by rw[xe];exact te.2.2.1.trans hX0
  have yS:c<j8.eR:=by rw[xe];show c<X4.eR;rw[te.2.2.2];exact Og
  refine av ?_;refine cF λB O=> ?_;unfold dM fm iQ fb pV iZ;refine aX ?_;refine bR ?_;refine Hh (H':=gC z B.C B.W B.ty B.C.ae.length (j8.Q.flatMap (cV B.C)) j8.x B.E j8.tn (j8.v,[CO CJ j8.v.bh,CO CN j8.v.eW,CO CN j8.v.mt.dr,CO CN j8.v.mt.re,CO CN j8.v.mt.bu,CO CN j8.v.mt.li,CO CN j8.v.mt.lo,CO CN j8.v.mt.cr,CO CN j8.v.mt.mv, .slice j8.v.wa j8.v.wn j8.v.wc]) j8.k j8.m j8 []) ?_;unfold gC oW;refine au (aB O (H:= [])) ?_;refine Lp (oC CF rfl rfl (lI z j8 hha c yS) (.cons .here .nil) CI ?_);rintro v H' hr;refine aX ?_;rcases hr with⟨ht,rfl,rfl⟩|⟨r,N,ht,rfl,rfl⟩
  ·refine Li Mv ?_
   refine cA ?_;refine Rt [SH z j8] results128 ?_;refine⟨none,j8, ?_,rfl,rfl⟩;rw[hR,nC];show((X1.aU _).last c p)=_;rw[<-V3];unfold Mo.last;rw[<-xe,ht]
  refine Li Mv ?_;refine cA ?_;refine Rt [SH z N] results128 ?_;refine⟨some r,N, ?_,rfl,rfl⟩;rw[hR,nC];show((X1.aU _).last c p)=_;rw[<-V3];unfold Mo.last;rw[<-xe,ht]
 refine Li Mv ?_;refine bM ?_;refine zf 47 ?_ (e:=by rfl);refine cC ?_;refine bm ?_;refine Rt [SH z N] results128 ?_;exact⟨some r,N,by rw[hrc];unfold Mo.pI;rw[ht],rfl,rfl⟩
def Mo.V6 (M:Mo):Prop:=M.mg=0/\3*M.nb<2*(M.n+1)/\M.nb<M.aI
instance (M:Mo):Decidable M.V6:=by unfold Mo.V6;infer_instance
def kY (Q:List (List Nat))(i p:Nat):List (List Nat):=Q.set i (p::ql Q i)
def Mo.jd (M:Mo)(r:Nat)(n:I3):Mo:=
 {M with hole:=none,Q:=kY M.Q (qi (M.C.cl r) 1) r,it:=λq=>if q=r then{n with ff:=mkSet n.ff false}else M.it q,ord:=λq=>if q=r then M.tn+1 else M.ord q,tn:=if 0<n.exp then M.tn+1 else M.tn,n:=M.n+1,nb:=if M.V6 then 2*M.nb else M.nb,mg:=if M.V6 then M.nb else M.mg,v:={M.v with eW:=M.v.eW+n.sz}}
theorem jA{Q:List (List Nat)}{i p q j:Nat}(hi:i<Q.length):q∈ql (kY Q i p) j↔(j=i/\q=p)\/q∈ql Q j:=by
 unfold kY;rw[fG hi];by_cases e:j=i
 ·rw[if_pos e,aa5,e]
  exact⟨λh=>h.imp (λh=>⟨rfl,h⟩) id,λh=>h.imp (λh=>h.2) id⟩
 rw[if_neg e];exact⟨.inr,λh=>h.resolve_left λg=>e g.1⟩
theorem bL.jd{B:Bx}{M:Mo}(O:bL B M){r:Nat}(hr:M.hole=some r)(I:gO B.C r)(n:I3)(lJ:mJ B.C.A r=n)(hm:n.ff<16)(VI:eF n.key=true){A2 A3:By}{V:Tb}{ty:qw}(hy:ty.ok=none->V.ob= [])(PK:aaL B.C B.W r A2 V)(EK:PZ (B.C.wA A2) r A3 (kY M.Q (qi (B.C.cl r) 1) r)):
  bL ⟨B.C.wA A3,V,ty,lK B.E (B.C.hd r) n.exp M.tn⟩ (M.jd r n):=by
 have K:=O.k;have vt:r∉B.W.all:=O.ho r hr;have L:Live B.C r:=(O.lv r).2 (.inr hr);have hG:=(L.toAt.bn K).1;have Ku:=ny O.o hG (s:=1) ⟨aa0 _,by omega⟩;have cR:B.C.cl r=M.C.cl r:=O.cl r;have vY:∀q,q∈V.all↔q=r\/q∈B.W.all:=λq=>by rw[PK.pm.mem_iff,aa5]
 have lv_:∀q,q=r\/q∈B.W.all->Live B.C q:=λq h=>h.elim (λe=>e▸L) O.sN;have io_:∀q,q=r\/q∈B.W.all->gO B.C q:=λq h=>h.elim (λe=>e▸I) (O.t.it q);have d1:cX B.C B.C.A A2 (λq o=>q=r/\o<4):=(vE PK.df (λq hq=>by rw[afq.1 hq];exact L.toAt) (λq hq=>by rw[afq.1 hq];have:=(L.toAt.bn K).2.1;omega)).mono λq o g=>by
  obtain⟨g1,_,g3⟩:=g;exact⟨afq.1 g1,by omega⟩
 have d2:cX B.C A2 A3 (SL r):=EK.d.wA;have dd:cX B.C B.C.A A3 (λq o=>o<12\/(o=45\/o=46)/\q=r):=(d1.mono λq o g=>by omega).trans (d2.mono λq o g=>by unfold SL at g;omega);have same:∀q∈B.W.all,mJ A3 q=mJ B.C.A q:=λq h=>vz K dd (O.nm h) (O.t.it q h) λj s=>by
  have ne:q≠r:=λe=>vt (e▸h);rcases s with s|s
  ·omega
  exact absurd s.2 ne
 have mr:dz A3 r=mkSet n.ff false:=by
  rw[EK.mr];have:dz A2 r=dz B.C.A r:=lB K d1 L.toAt (by have:=(L.toAt.bn K).2.1;omega) λj h1 h2 s=>by omega
  rw[show dz (B.C.wA A2).A r=dz B.C.A r from this,show dz B.C.A r=n.ff from congrArg I3.ff lJ]
 have PA:mJ A3 r={n with ff:=mkSet n.ff false}:=by
  rw[GL K dd L.toAt I λj s=>by omega,lJ,mr]
 have nit:∀q∈V.all,mJ A3 q=(M.jd r n).it q:=λq h=>by
  show _=if q=r then _ else M.it q
  rcases(vY q).1 h with e|h1
  ·rw[if_pos e,e];exact PA
  rw[if_neg λe:q=r=>vt (e▸h1),same q h1];exact O.it q h1
 have jV:∀q,Live (B.C.wA A3) q↔Live B.C q:=λq=>⟨λh=>⟨⟨h.i,h.own,h.al,h.k⟩,h.tk⟩,λh=>h.wA _⟩;have hmq:∀q∈V.all,dz A3 q<16:=λq h=>by
  rcases(vY q).1 h with e|h1
  ·rw[e,mr]
   have:=mj hm false;omega
  rw[show dz A3 q=dz B.C.A q from congrArg I3.ff (same q h1)];obtain⟨i,hi⟩:=(O.al q).1 h1;exact O.mq i q hi
 have Zr:∀q,q∈V.all↔∃j,q∈ql (M.jd r n).Q j:=λq=>by
  rw[vY];show _↔∃j,q∈ql (kY M.Q (qi (M.C.cl r) 1) r) j;rw[<-cR]
  constructor
  ·rintro(e|h)
   ·exact⟨_,(jA Ku).2 (.inl ⟨rfl,e⟩)⟩
   obtain⟨j,hj⟩:=(O.al q).1 h;exact⟨j,(jA Ku).2 (.inr hj)⟩
  rintro⟨j,hj⟩;rcases(jA Ku).1 hj with⟨_,e⟩|h
  ·exact .inl e
  exact .inr (O.oa h)
 have h0:=O.st0;have AU:=O.nb;have hn:=O.n;have C4:=O.mg;have hmo:=O.mo;have hgr:M.V6↔pL B.W:=by unfold Mo.V6 pL;rw[h0,AU,hn,hmo]
 have h16:=O.t.Oq;have Gb:∀q∈B.W.all,B.C.hd q≠B.C.hd r:=λq h e=>vt ((iV K (O.nm h) L.toAt e)▸h);refine⟨?_,K.wA A3, ?_,hy, ?_, ?_,λj q h=>hmq q ((Zr q).2 ⟨j,h⟩),O.ck,Zr,λq=> ?_,λq h=>(by cases h),nit, ?_, ?_, ?_, ?_, ?_, ?_,O.un,O.on,O.go,O.wn,O.cf, ?_,λq h=> ?_⟩
 ·show B.C.wA A3=M.C.wA A3
  conv=>lhs;rw[O.c]
  rfl
 ·exact F7 (K.wA A2) PK.o EK.d λq _ j g=>⟨by unfold SL at g;unfold mI;omega,by unfold SL at g;omega⟩
 ·show iR (B.C.wA A3) (kY M.Q (qi (M.C.cl r) 1) r)
  rw[<-cR];exact EK.o
 ·show dh B.C.ae.length (kY M.Q (qi (M.C.cl r) 1) r) M.x
  rw[<-cR];exact⟨O.x.go,O.x.no,λq h=>⟨(jA Ku).2 (.inr (O.x.nx q h).1),(O.x.nx q h).2⟩,O.x.lf⟩
 ·show Live (B.C.wA A3) q↔q∈V.all\/none=some q
  rw[jV,O.lv,vY,hr]
  constructor
  ·rintro(h|h)
   ·exact .inl (.inr h)
   exact .inl (.inl (Option.some.inj h).symm)
  rintro((h|h)|h)
  ·exact .inr (by rw[h])
  ·exact .inl h
  cases h
 ·have e1:iE (B.C.wA A3) (M.jd r n) B.W.all=iE B.C M B.W.all:=fM λq h=>by
   have ne:q≠r:=λe=>vt (e▸h);refine⟨?_,if_neg ne,rfl⟩;show(if q=r then _ else M.it q).exp=_;rw[if_neg ne]
  have e2:iE (B.C.wA A3) (M.jd r n) (r::B.W.all)=if 0<n.exp then⟨B.C.hd r,n.exp,M.tn+1⟩::iE B.C M B.W.all else iE B.C M B.W.all:=by
   rw[iN,e1,show(M.jd r n).it r={n with ff:=mkSet n.ff false}from if_pos rfl,show(M.jd r n).ord r=M.tn+1 from if_pos rfl];rfl
  refine aa1.trans ?_ ((aa1.of_eq e2.symm).trans (jD PK.pm.symm));have p1:(eX B.E (B.C.hd r)).Perm (iE B.C M B.W.all):=(O.e.filter _).trans (aa1.of_eq (mm Gb));unfold lK
  split
  ·exact p1.cons _
  exact p1
 ·intro h2
  show V.mv<V.ob.length;by_cases g:pL B.W
  ·obtain⟨_,_,e1,e2⟩:=PK.big g
   rw[e1,e2];omega
  obtain⟨_,e1,e2,e3⟩:=PK.same g;rw[e2,e3];exact O.st (by rw[<-e1];exact h2)
 ·show V.size=if M.V6 then 2*M.nb else M.nb
  by_cases g:pL B.W
  ·rw[if_pos (hgr.2 g),(PK.big g).1,AU]
  rw[if_neg λe=>g (hgr.1 e),(PK.same g).1,AU]
 ·show(if M.V6 then M.nb else M.mg)=if V.st=2 then V.ob.length-V.mv else 0
  by_cases g:pL B.W
  ·obtain⟨_,e1,e2,e3⟩:=PK.big g
   rw[if_pos (hgr.2 g),if_pos e1,e2,e3,AU];rfl
  obtain⟨_,e1,e2,e3⟩:=PK.same g;rw[if_neg λe=>g (hgr.1 e),e1,e2,e3];exact C4
 ·exact PK.aI.trans hmo
 ·show M.v.eW+n.sz=(V.all.map λq=>((M.jd r n).it q).sz).sum
  rw[me _ PK.pm,aaX,aa8,show((M.jd r n).it r).sz=n.sz by rw[show(M.jd r n).it r={n with ff:=mkSet n.ff false}from if_pos rfl];rfl,O.bt];rw[show(B.W.all.map λq=>((M.jd r n).it q).sz)=B.W.all.map λq=>(M.it q).sz from afr λq h=>by
   show(if q=r then _ else M.it q).sz=_;rw[if_neg λe:q=r=>vt (e▸h)]]
  omega
 ·show V.n=M.n+1
  rw[PK.n,hn]
 show eF (if q=r then{n with ff:=mkSet n.ff false}else M.it q).key=true;rcases(vY q).1 h with e|h1
 ·rw[if_pos e];exact VI
 rw[if_neg λe:q=r=>vt (e▸h1)];exact O.lg q h1
def Mo.om (M:Mo)(p r:Nat)(n:I3):Mo:=
 {M with C:=M.C.bq p,hole:=none,Q:=kY (iG M.Q p) (qi (M.C.cl r) 1) r,it:=λq=>if q=r then{n with ff:=mkSet n.ff false}else M.it q,ord:=λq=>if q=r then M.tn+1 else M.ord q,tn:=if 0<n.exp then M.tn+1 else M.tn,x:=M.x.left M.Q p,v:={M.v with eW:=M.v.eW+n.sz-(M.it p).sz}}
theorem bL.om{B:Bx}{M:Mo}(O:bL B M){p r:Nat}(hp:M.has p)(hr:M.hole=some r)(I:gO B.C r)(n:I3)(lJ:mJ B.C.A r=n)(hm:n.ff<16)(VI:eF n.key=true){A2 A3 A4:By}{V:Tb}{ty:qw}(hy:ty.ok=none->V.ob= [])(T:Hr B.C B.W p r A2 V)
  (OF:aaN (B.C.wA A2) p A3 (iG M.Q p) (M.x.left M.Q p)) (EK:PZ (((B.C.wA A2).wA A3).bq p) r A4 (kY (iG M.Q p) (qi (B.C.cl r) 1) r)):
  bL ⟨(((B.C.wA A2).wA A3).bq p).wA A4,V,ty,eX (lK B.E (B.C.hd r) n.exp M.tn) (B.C.hd p)⟩ (M.om p r n):=by
 have K:=O.k;have dE:=(O.al p).2 hp;have Lp:=O.sN dE;have vt:r∉B.W.all:=O.ho r hr;have Iw:r≠p:=λe=>vt (e▸dE);have L:Live B.C r:=(O.lv r).2 (.inr hr);have hG:=(L.toAt.bn K).1;have cR:B.C.cl r=M.C.cl r:=O.cl r;obtain⟨rest,Ou,Vz⟩:=T.pm;have nd1:=aa3.1 (Ou.nodup_iff.1 O.t.nd);have inr:∀q,q∈rest↔q∈B.W.all/\q≠p:=λq=>by
  rw[Ou.mem_iff,aa5];exact⟨λh=>⟨.inr h,λe=>nd1.1 (e▸h)⟩,λh=>h.1.resolve_left h.2⟩
 have vY:∀q,q∈V.all↔q=r\/q∈B.W.all/\q≠p:=λq=>by rw[Vz.mem_iff,aa5,inr]
 have lv_:∀q,q=r\/q∈B.W.all->Live B.C q:=λq h=>h.elim (λe=>e▸L) O.sN;have io_:∀q,q=r\/q∈B.W.all->gO B.C q:=λq h=>h.elim (λe=>e▸I) (O.t.it q);have Ku:qi (B.C.cl r) 1<(iG M.Q p).length:=by
  unfold iG;rw[adr];exact ny O.o hG (s:=1) ⟨aa0 _,by omega⟩
 have d1:cX B.C B.C.A A2 (λ_ o=>o<4):=(vE T.df (λq hq=>(lv_ q ((aa5.1 hq).imp id id)).toAt) (λq hq=>by have:=((lv_ q ((aa5.1 hq).imp id id)).toAt.bn K).2.1;omega)).mono λq o g=>by omega
 have d2:cX B.C A2 A3 (SQ p):=OF.d.wA;have d3:cX B.C A3 A4 (SL r):=λi hi=>by
  obtain⟨q,o,q1,q2,q3,q4⟩:=EK.d i hi;have S:=(gY (K.wA A3) (Lp.wA A3)).2;have a:=(S.at (p:=q)).1 ⟨q1.i,q1.own,q1.al,q1.k⟩;refine⟨q,o,⟨a.i,a.own,a.al,a.k⟩, ?_,q3,q4⟩;have e1:((((B.C.wA A2).wA A3).bq p)).cl q=B.C.cl q:=S.cl q;rw[e1]at q2;exact q2
 have dd:cX B.C B.C.A A4 (λq o=>o<12\/o=45\/o=46/\q=r):=((d1.mono λq o g=>by omega).trans (d2.mono λq o g=>by unfold SQ at g;omega)).trans (d3.mono λq o g=>by unfold SL at g;omega);have same:∀q∈B.W.all,mJ A4 q=mJ B.C.A q:=λq h=>vz K dd (O.nm h) (O.t.it q h) λj s=>by
  have ne:q≠r:=λe=>vt (e▸h);rcases s with s|s|s
  ·omega
  ·omega
  exact absurd s.2 ne
 have d12:cX B.C B.C.A A3 (λq o=>o<12\/o=45):=(d1.mono λq o g=>by omega).trans (d2.mono λq o g=>by unfold SQ at g;omega);have mr:dz A4 r=mkSet n.ff false:=by
  rw[EK.mr];have:dz A3 r=dz B.C.A r:=lB K d12 L.toAt (by have:=(L.toAt.bn K).2.1;omega) λj h1 h2 s=>by omega
  rw[show dz (((B.C.wA A2).wA A3).bq p).A r=dz B.C.A r from this,show dz B.C.A r=n.ff from congrArg I3.ff lJ]
 have PA:mJ A4 r={n with ff:=mkSet n.ff false}:=by
  rw[GL K dd L.toAt I λj s=>by omega,lJ,mr]
 have nit:∀q∈V.all,mJ A4 q=(M.om p r n).it q:=λq h=>by
  show _=if q=r then _ else M.it q
  rcases(vY q).1 h with e|⟨h1,h2⟩
  ·rw[if_pos e,e];exact PA
  rw[if_neg λe:q=r=>vt (e▸h1),same q h1];exact O.it q h1
 have jV:∀q,Live ((((B.C.wA A2).wA A3).bq p).wA A4) q↔Live B.C q/\q≠p:=λq=>by
  have h1:=nV (K.wA A3) (Lp.wA A3) q;refine Iff.trans ⟨λh=> ?_,λh=> ?_⟩ (h1.trans ⟨λh=>⟨⟨⟨h.1.i,h.1.own,h.1.al,h.1.k⟩,h.1.tk⟩,h.2⟩,λh=>⟨h.1.wA _,h.2⟩⟩)
  ·exact⟨⟨h.i,h.own,h.al,h.k⟩,h.tk⟩
  exact⟨⟨h.i,h.own,h.al,h.k⟩,h.tk⟩
 have Kw:∀q,Live B.C q->q≠p->((((B.C.wA A2).wA A3).bq p).wA A4).hd q=B.C.hd q:=λq h ne=>((jB (K.wA A3) (Lp.wA A3)).lv q ne (h.wA A3)).2.1;have hmq:∀q∈V.all,dz A4 q<16:=λq h=>by
  rcases(vY q).1 h with e|⟨h1,h2⟩
  ·rw[e,mr]
   have:=mj hm false;omega
  rw[show dz A4 q=dz B.C.A q from congrArg I3.ff (same q h1)];obtain⟨i,hi⟩:=(O.al q).1 h1;exact O.mq i q hi
 have Zr:∀q,q∈V.all↔∃j,q∈ql (M.om p r n).Q j:=λq=>by
  rw[vY];show _↔∃j,q∈ql (kY (iG M.Q p) (qi (M.C.cl r) 1) r) j;rw[<-cR]
  constructor
  ·rintro(e|⟨h,ne⟩)
   ·exact⟨_,(jA Ku).2 (.inl ⟨rfl,e⟩)⟩
   obtain⟨j,hj⟩:=(O.al q).1 h;exact⟨j,(jA Ku).2 (.inr (by rw[jq];exact(ajh ne).2 hj))⟩
  rintro⟨j,hj⟩;rcases(jA Ku).1 hj with⟨_,e⟩|h
  ·exact .inl e
  rw[jq]at h;exact .inr ⟨O.oa (agq h),λe=>by subst e;exact(List.Nodup.not_mem_erase (O.o.nd j)) h⟩
 have iD:=λj=>oH (K.wA A3) (Lp.wA A3) j;have hn:=O.n;have AU:=O.nb;have C4:=O.mg;have Kf:Ok ((((B.C.wA A2).wA A3).bq p).wA A4):=OF.k.wA A4;have hsV:∀q∈V.all,q≠p:=λq h=>((vY q).1 h).elim (λe=>e▸Iw) λg=>g.2;refine⟨?_,Kf, ?_,hy, ?_, ?_,λj q h=>hmq q ((Zr q).2 ⟨j,h⟩),O.ck,Zr,λq=> ?_,λq h=>(by cases h),nit, ?_, ?_, ?_, ?_, ?_, ?_, ?_, ?_, ?_,O.wn, ?_, ?_,λq h=> ?_⟩
 ·show(((B.C.wA A2).wA A3).bq p).wA A4=(M.C.bq p).wA A4
  conv=>lhs;rw[O.c]
  rfl
 ·have T2:=F7 (K.wA A2) T.o OF.d λq _ j g=>⟨g.oq,by unfold SQ at g;omega⟩
  have T3:=OF.s.tb T2 hsV;exact F7 OF.k T3 EK.d λq _ j g=>⟨by unfold SL at g;unfold mI;omega,by unfold SL at g;omega⟩
 ·show iR _ (kY (iG M.Q p) (qi (M.C.cl r) 1) r)
  rw[<-cR];exact EK.o
 ·show dh B.C.ae.length (kY (iG M.Q p) (qi (M.C.cl r) 1) r) (M.x.left M.Q p)
  rw[<-cR];have X:=OF.x;exact⟨X.go,X.no,λq h=>⟨(jA Ku).2 (.inr (X.nx q h).1),(X.nx q h).2⟩,X.lf⟩
 ·show Live _ q↔q∈V.all\/none=some q
  rw[jV,O.lv,vY,hr]
  constructor
  ·rintro⟨h|h,ne⟩
   ·exact .inl (.inr ⟨h,ne⟩)
   exact .inl (.inl (Option.some.inj h).symm)
  rintro((h|h)|h)
  ·exact⟨.inr (by rw[h]),λe=>Iw (h.symm.trans e)⟩
  ·exact⟨.inl h.1,h.2⟩
  cases h
 ·have fN:∀q∈rest,B.C.hd q≠B.C.hd p:=λq h e=>((inr q).1 h).2 (iV K (O.nm ((inr q).1 h).1) (O.nm dE) e)
  have Gb:∀q∈p::rest,B.C.hd q≠B.C.hd r:=λq h e=>by
   have hq:q∈B.W.all:=(aa5.1 h).elim (λe=>e▸dE) λh=>((inr q).1 h).1;exact vt ((iV K (O.nm hq) L.toAt e)▸hq)
  have hrp:B.C.hd r≠B.C.hd p:=λe=>Gb p aaV e.symm;have e1:iE ((((B.C.wA A2).wA A3).bq p).wA A4) (M.om p r n) rest=iE B.C M rest:=fM λq h=>by
   obtain⟨g1,g2⟩:=(inr q).1 h;have ne:q≠r:=λe=>vt (e▸g1);refine⟨?_,if_neg ne,Kw q (O.sN g1) g2⟩;show(if q=r then _ else M.it q).exp=_;rw[if_neg ne]
  have e2:iE ((((B.C.wA A2).wA A3).bq p).wA A4) (M.om p r n) (r::rest)=if 0<n.exp then⟨B.C.hd r,n.exp,M.tn+1⟩::iE B.C M rest else iE B.C M rest:=by
   rw[iN,e1,show(M.om p r n).it r={n with ff:=mkSet n.ff false}from if_pos rfl,show(M.om p r n).ord r=M.tn+1 from if_pos rfl,Kw r L Iw]
  refine aa1.trans ?_ ((aa1.of_eq e2.symm).trans (jD Vz.symm));have p1:(eX B.E (B.C.hd r)).Perm (iE B.C M (p::rest)):=((O.e.trans (jD Ou)).filter _).trans (aa1.of_eq (mm Gb));have p2:(eX (eX B.E (B.C.hd r)) (B.C.hd p)).Perm (iE B.C M rest):=by
   refine(p1.filter _).trans ?_;rw[iN]
   split
   ·rw[afT,if_neg (by simp)]
    exact aa1.of_eq (mm fN)
   exact aa1.of_eq (mm fN)
  unfold lK
  split
  ·unfold eX at p2⊢
   rw[afT,if_pos (by simpa using hrp)];exact p2.cons _
  exact p2
 ·intro h2
  show V.mv<V.ob.length;rw[T.mv,T.s.ob];exact O.st (by rw[<-T.s.st];exact h2)
 ·exact T.s.size.trans AU
 ·show M.mg=if V.st=2 then V.ob.length-V.mv else 0
  rw[T.s.st,T.mv,T.s.ob];exact C4
 ·exact T.s.aI.trans O.mo
 ·show M.v.eW+n.sz-(M.it p).sz=(V.all.map λq=>((M.om p r n).it q).sz).sum
  rw[me _ Vz,aaX,aa8,show((M.om p r n).it r).sz=n.sz by rw[show(M.om p r n).it r={n with ff:=mkSet n.ff false}from if_pos rfl];rfl,O.bt,me _ Ou,aaX,aa8];rw[show(rest.map λq=>((M.om p r n).it q).sz)=rest.map λq=>(M.it q).sz from afr λq h=>by
   show(if q=r then _ else M.it q).sz=_;rw[if_neg λe:q=r=>vt (e▸((inr q).1 h).1)]]
  omega
 ·exact O.un
 ·intro h
  have:=O.on h;obtain⟨e1,e2,e3⟩:=iD M.m.pg;exact⟨this.1,e1.trans this.2.1,e2.trans this.2.2.1,e3.trans this.2.2.2⟩
 ·intro j h
  exact O.go j ((iD j).2.1.symm.trans h)
 ·exact O.cf
 ·exact T.s.n.trans hn
 show eF (if q=r then{n with ff:=mkSet n.ff false}else M.it q).key=true;rcases(vY q).1 h with e|⟨h1,h2⟩
 ·rw[if_pos e];exact VI
 rw[if_neg λe:q=r=>vt (e▸h1)];exact O.lg q h1
def Mo.rk (M:Mo)(i:Nat):Mo:={M with v:={M.v with bh:=i}}
theorem bL.rk{B:Bx}{M:Mo}(O:bL B M)(i:Nat):bL B (M.rk i):=
 ⟨O.c,O.k,O.t,O.ty,O.o,O.x,O.mq,O.ck,O.al,O.lv,O.ho,O.it,O.e,O.st,O.nb,O.mg,O.mo,O.bt,O.un,O.on,O.go,O.wn,O.cf,O.n,O.lg⟩
def Mo.gk (M:Mo)(r:Nat)(old:Option Nat)(n:I3):Mo:=match old with
 |none=>(M.rk (M.v.bh+1)).jd r n
 |some p=>(M.rk (M.v.bh+1)).om p r n
theorem bL.aha{B:Bx}{M:Mo}(O:bL B M):M.v.eW<=1125899906842624:=by
 rw[O.bt];have h2:=A8 O.k O.t;rw[O.t.n]at h2;have:∀l:List Nat,(∀p∈l,p∈B.W.all)->(l.map λp=>(M.it p).sz).sum<=l.length*1048576:=λl=>by
  induction l with
  |nil=>intro _;simp
  |cons p l ih=>
   intro h;have hp:=h p aaV;have h1:=O.szp hp;have h3:=(O.t.it p hp).fits;have h4:=((O.nm hp).bn O.k).2.2.1;have h5:=O.k.toFix.p1;have:=ih λq hq=>h q (aaW _ hq);rw[aaX,aa8,afn];omega
 have:=this _ λp h=>h;have h3:B.W.all.length*1048576<=1073741824*1048576:=afz _ h2;omega
theorem Xa (z:Ly)(M:Mo)(r:Nat)(hr:M.hole=some r)(old:Option Nat)(k v:List UInt8)(VC Vw:Nat)(uj:VC=k.length)(hvl:Vw=v.length)(hold:∀p,old=some p->M.has p/\(M.it p).key=k)(abl:old=none->M.find k=none)(ka va:Option Addr)(kc vc fl ex mk:Nat)(VI:eF k=true)
  (uA:58+k.length+v.length<=M.C.sz (M.C.cl r)) (qZ:fl<4294967296) (hex:ex<9223372036854775808) (uq:mk<16) (uz:M.v.bh+1<18446744073709551616) (vq:M.tn<18446744073709551615):
  aO aaO 129 [CM z.s,CO CJ (M.C.hd r),CO CJ (q9 M.C old), .agg (C5 (.slice ka VC kc) (.slice va Vw vc) fl ex 0 0 0 mk).toArray] (λh=>gg h ka (ax k)/\gg h va (ax v)) [SH z M]
   (λw H=>w= .tuple #[]/\H= [SH z (M.gk r old ⟨k,v,fl,ex,M.k.now,M.v.bh+1,mk⟩)]):=by
 obtain⟨n,hn⟩:∃n:I3,n=⟨k,v,fl,ex,M.k.now,M.v.bh+1,mk⟩:=⟨_,rfl⟩;rw[<-hn];refine ag func129 rfl ntmps129 rfl ?_;rintro F ⟨hka,hva⟩;refine av ?_;refine Lp (oB λb1=> ?_);refine av ?_;refine au (λ_ x=>dx x) ?_;refine cF λB O=> ?_;have K:=O.k;have L:Live B.C r:=(O.lv r).2 (.inr hr);have y6:=O.ck.n2;have Kw:=O.hd r;have hz4:=(L.toAt.bn K).2.2.1;have vZ:=K.toFix.p1;have PH:58+k.length+v.length<=B.C.sz (B.C.cl r):=by rw[O.c];exact uA
 have hlk:=fL VI;have ly:=JS z.y.b B.C K r L ka va kc vc VC Vw k v uj hvl fl ex M.k.now (M.v.bh+1) 4 mk VI PH qZ hex (by omega) uz ⟨by omega,by omega⟩ uq;rw[Kw]at ly;have V0:k.length<256:=by omega
 have hv6:v.length<256^4:=by omega
 have LP:=QF (c:=B.C.cl r) (fl:=fl) (exp:=ex) (tch:=M.k.now) (tok:=M.v.bh+1) (st:=4) (mk:=mk) L.toAt V0 PH;have OW:=Cn B.C.A r (B.C.cl r) k v fl ex M.k.now (M.v.bh+1) 4 mk V0;obtain⟨abw,f_k,f_v⟩:=Co B.C.A r (B.C.cl r) k v fl ex M.k.now (M.v.bh+1) 4 mk V0 hv6;have abz:=JO B.C.A r (B.C.cl r) k v fl ex M.k.now (M.v.bh+1) 4 mk V0 (by omega);have abx:=Eo B.C.A r (B.C.cl r) k v fl ex M.k.now (M.v.bh+1) 4 mk V0 (by omega);have ag5:=Em B.C.A r (B.C.cl r) k v fl ex M.k.now (M.v.bh+1) 4 mk V0 (by omega);have ag6:=JN B.C.A r (B.C.cl r) k v fl ex M.k.now (M.v.bh+1) 4 mk V0 (by omega);have aby:=JL B.C.A r (B.C.cl r) k v fl ex M.k.now (M.v.bh+1) 4 mk V0 (by omega);have Wx:=JM B.C.A r (B.C.cl r) k v fl ex M.k.now (M.v.bh+1) 4 mk V0 (by omega);obtain⟨A1,hA1⟩:∃A1,A1=lN B.C.A r (B.C.cl r) k v fl ex M.k.now (M.v.bh+1) 4 mk:=⟨_,rfl⟩;rw[<-hA1]at ly LP OW abw f_k f_v abz abx ag5 ag6 aby Wx;have lJ:mJ (B.C.wA A1).A r=n:=by
  rw[hn];unfold mJ;rw[cK,f_k,f_v,abz,abx,ag5,ag6,Wx]
 have O1:=(O.FG hr LP).rk (M.v.bh+1);have I1:gO (B.C.wA A1) r:=⟨by rw[cK,OW];omega,by rw[cK,OW,abw];exact PH,by rw[cK,show rd A1 (r+16) 8=ex from abz];exact hex,by rw[cK,show rd A1 (r+24) 8=M.k.now from abx];omega⟩;have vt:=O.ho r hr;have P1:gD (B.C.wA A1) (some r):=λq e=>by cases e;exact⟨L.wA _,I1⟩
 have ss:=λrest=>DZ z.s z.y rest (B.C.wA A1) O1.k r P1 (by rw[cK,OW];omega);rw[cK,OW,abw]at ss;rw[show(B.C.wA A1).hd r=M.C.hd r from Kw]at ss;have hbt:=O.aha;have uo:n.sz=58+k.length+v.length:=by rw[hn];rfl
 have hE:B.E.length<2147483647:=by
  rw[O.e.length_eq];unfold iE;rw[adr];have h1:=ajY (λp=>decide (0<(M.it p).exp)) B.W.all;have h2:=A8 O.k O.t;rw[O.t.n]at h2;omega
 have ws:=Kn z.y.wh B.E M.tn (M.C.hd r) ex vq hE;unfold dM fm iQ fb pV iZ C5;refine aX ?_;refine bM ?_;refine aw ?_;refine hJ 16 mix (.cons (.there (.there (.there (.there (.there (.there (.there (.there .here)))))))) .nil) λF1 jf bZ aN=> ?_;obtain⟨q1,_⟩:=bZ;refine cA ?_;refine Tp (oC CF rfl rfl (kH z.y.ck M.k) .nil (λ_ le ao=>ao.nth 8 rfl) ?_);rintro v H' ⟨rfl,rfl⟩;refine aX ?_;refine bG ?_;refine gd aN ?_;refine av ?_;refine aw ?_;refine Hh (H':=gC z B.C B.W B.ty B.C.ae.length (M.Q.flatMap (cV B.C)) M.x B.E M.tn (M.v,[CO CJ (M.v.bh+1:Nat),CO CN M.v.eW,CO CN M.v.mt.dr,CO CN M.v.mt.re,CO CN M.v.mt.bu,CO CN M.v.mt.li,CO CN M.v.mt.lo,CO CN M.v.mt.cr,CO CN M.v.mt.mv, .slice M.v.wa M.v.wn M.v.wc]) M.k M.m M [af b1 159 [.slice ka VC kc, .slice va Vw vc,CO CJ fl,CO CN ex,CO CN M.k.now,CO CJ (M.v.bh+1:Nat),CO CN 4,CO CN mk]]) ?_;unfold gC oW;refine hJ 7 mix (.cons (.there (.there (.there (.there (.there (.there (.there (.there .here)))))))) (.cons (.there (.there (.there (.there (.there (.there (.there (.there (.there (.there (.there (.there (.there .here))))))))))))) .nil)) λF2 yO ez cQ=> ?_;obtain⟨q2,q3,_⟩:=ez;refine bR ?_;refine gd cQ ?_;refine Tp (oC CF rfl rfl (ly) (.cons (.there (.there .here)) .nil) (λ_ le _=>⟨hka.mono le,hva.mono le⟩) ?_);rintro v H' ⟨rfl,rfl⟩;refine aX ?_;refine av ?_;refine aw ?_;refine Hh (H':=gC z (B.C.wA A1) B.W B.ty B.C.ae.length (M.Q.flatMap (cV (B.C.wA A1))) M.x B.E M.tn (M.v,[CO CJ (M.v.bh+1:Nat),CO CN M.v.eW,CO CN M.v.mt.dr,CO CN M.v.mt.re,CO CN M.v.mt.bu,CO CN M.v.mt.li,CO CN M.v.mt.lo,CO CN M.v.mt.cr,CO CN M.v.mt.mv, .slice M.v.wa M.v.wn M.v.wc]) M.k M.m M [af b1 159 [.slice ka VC kc, .slice va Vw vc,CO CJ fl,CO CN ex,CO CN M.k.now,CO CJ (M.v.bh+1:Nat),CO CN 4,CO CN mk]]) ?_;unfold gC oW;refine hJ 8 mix (.cons (.there (.there (.there (.there (.there (.there (.there (.there .here)))))))) (.cons (.there (.there (.there (.there (.there (.there (.there (.there (.there (.there (.there (.there (.there .here))))))))))))) .nil)) λF3 Ow pt eI=> ?_;obtain⟨q4,q5,_⟩:=pt;refine dm ?_;refine gd eI ?_;refine Tp (oC CF rfl rfl (ws) (.cons (.there (.there (.there (.there (.there (.there (.there (.there (.there .here))))))))) .nil) CI ?_);rintro v H' ⟨rfl,rfl⟩;refine aX ?_;refine av ?_;refine aw ?_;refine Hh (H':=gC z (B.C.wA A1) B.W B.ty B.C.ae.length (M.Q.flatMap (cV (B.C.wA A1))) M.x (lK B.E (M.C.hd r) ex M.tn) (if 0<ex then M.tn+1 else M.tn) (M.v,[CO CJ (M.v.bh+1:Nat),CO CN M.v.eW,CO CN M.v.mt.dr,CO CN M.v.mt.re,CO CN M.v.mt.bu,CO CN M.v.mt.li,CO CN M.v.mt.lo,CO CN M.v.mt.cr,CO CN M.v.mt.mv, .slice M.v.wa M.v.wn M.v.wc]) M.k M.m M [af b1 159 [.slice ka VC kc, .slice va Vw vc,CO CJ fl,CO CN ex,CO CN M.k.now,CO CJ (M.v.bh+1:Nat),CO CN 4,CO CN mk]]) ?_;unfold gC oW;refine hJ 10 mix (.cons (.there (.there (.there (.there (.there (.there (.there (.there .here)))))))) .nil) λF4 le4 Dg o6=> ?_;obtain⟨q6,_⟩:=Dg;refine bG ?_;refine Tp (oC CF rfl rfl (ss (fb {M.v with bh:=M.v.bh+1})) .nil (λ_ le ao=>⟨In.mono q6 le,ao.nth 0 rfl⟩) ?_);rintro v H' ⟨rfl,rfl⟩;refine aX ?_;refine bz ?_;refine gd o6 ?_;refine bz ?_;refine aw ?_;refine Hh (H':=gC z (B.C.wA A1) B.W B.ty B.C.ae.length (M.Q.flatMap (cV (B.C.wA A1))) M.x (lK B.E (M.C.hd r) ex M.tn) (if 0<ex then M.tn+1 else M.tn) (M.v,[CO CJ (M.v.bh+1:Nat),CO CN (M.v.eW+(58+k.length+v.length):Nat),CO CN M.v.mt.dr,CO CN M.v.mt.re,CO CN M.v.mt.bu,CO CN M.v.mt.li,CO CN M.v.mt.lo,CO CN M.v.mt.cr,CO CN M.v.mt.mv, .slice M.v.wa M.v.wn M.v.wc]) M.k M.m M []) ?_;unfold gC oW;have K1:Ok (B.C.wA A1):=O1.k;have L1:Live (B.C.wA A1) r:=L.wA _;rcases old with _|p
 ·refine fi ?_
  refine bm ?_;have hkd:∀q∈B.W.all,aP (B.C.wA A1).A q≠aP (B.C.wA A1).A r:=λq hq e=>by
   rw[cK,f_k,show aP A1 q=(M.it q).key from(O1.jh hq).2.2.2.2.1]at e;have h1:=abl rfl;unfold Mo.find at h1;rw[agj]at h1;obtain⟨i,hi⟩:=(O.al q).1 hq;have h2:=h1 q (by exact gw.2 ⟨i,hi⟩);simp only[decide_eq_true_eq]at h2;exact h2 e
  have tp:=WV z.y.t z.y.b (B.C.wA A1) K1 B.W B.ty O1.t O.ty r L1 I1 vt hkd;rw[show(B.C.wA A1).hd r=M.C.hd r from Kw]at tp;unfold nq at tp;refine bR ?_;refine Lp (oC CF rfl rfl (tp) (.cons .here (.cons .here (.cons .here (.cons .here .nil)))) CI ?_);rintro v H' ⟨rfl,A2,V,y2,rfl,hy,PK⟩;refine aX ?_;refine av ?_;have d1:cX (B.C.wA A1) A1 A2 (λq o=>q=r/\o<4):=(vE PK.df (λq hq=>by rw[afq.1 hq];exact L1.toAt) (λq hq=>by rw[afq.1 hq];have:=(L1.toAt.bn K1).2.1;omega)).mono λq o g=>by
   obtain⟨g1,_,g3⟩:=g;exact⟨afq.1 g1,by omega⟩
  have K2:=K1.wA A2;have Q2:=KF K1 O1.o d1 (λi q hq j g=>⟨by unfold mI;omega,by omega,by omega⟩);have L2:Live ((B.C.wA A1).wA A2) r:=L1.wA _;have n1:=(L1.toAt.bn K1).2.1;have m2:dz A2 r=mk:=by
   rw[<-Wx];exact lB K1 d1 L1.toAt (by omega) λj h1 h2 s=>by omega
  have s2:gJ A2 r=4:=by
   rw[<-aby];exact lB K1 d1 L1.toAt (by omega) λj h1 h2 s=>by omega
  have I2:gO ((B.C.wA A1).wA A2) r:=PK.o.it r (PK.pm.mem_iff.2 aaV);have le:=Ay z.y.lu z.y.q z.y.b z.qb z.hot z.warm ((B.C.wA A1).wA A2) K2 M.Q Q2 r (λq e=>by cases e;exact⟨L2,I2⟩) (by rw[cK,m2];exact uq) (by rw[cK,s2];omega);rw[show((B.C.wA A1).wA A2).hd r=M.C.hd r from Kw,show((B.C.wA A1).wA A2).cl r=B.C.cl r from rfl]at le;unfold qY at le;refine Hh (H':=gC z ((B.C.wA A1).wA A2) V y2 B.C.ae.length (M.Q.flatMap (cV ((B.C.wA A1).wA A2))) M.x (lK B.E (M.C.hd r) ex M.tn) (if 0<ex then M.tn+1 else M.tn) (M.v,[CO CJ (M.v.bh+1:Nat),CO CN (M.v.eW+(58+k.length+v.length):Nat),CO CN M.v.mt.dr,CO CN M.v.mt.re,CO CN M.v.mt.bu,CO CN M.v.mt.li,CO CN M.v.mt.lo,CO CN M.v.mt.cr,CO CN M.v.mt.mv, .slice M.v.wa M.v.wn M.v.wc]) M.k M.m M []) ?_;unfold gC oW;refine bR ?_;refine Lp (oC CF rfl rfl (le) (.cons .here (.cons (.there (.there (.there .here))) (.cons (.there (.there (.there .here))) .nil))) (λ_ le ao=>ao.nth 7 rfl) ?_);rintro v H' ⟨rfl,A3,rfl,EK⟩;refine aX ?_;refine aF ?_;subst hn;have O2:=bL.jd O1 hr I1 _ lJ uq VI hy PK EK;refine Hh (H':=gC z (((B.C.wA A1).wA A2).wA A3) V y2 B.C.ae.length ((kY M.Q (qi (B.C.cl r) 1) r).flatMap (cV (((B.C.wA A1).wA A2).wA A3))) M.x (lK B.E (M.C.hd r) ex M.tn) (if 0<ex then M.tn+1 else M.tn) (M.v,[CO CJ (M.v.bh+1:Nat),CO CN (M.v.eW+(58+k.length+v.length):Nat),CO CN M.v.mt.dr,CO CN M.v.mt.re,CO CN M.v.mt.bu,CO CN M.v.mt.li,CO CN M.v.mt.lo,CO CN M.v.mt.cr,CO CN M.v.mt.mv, .slice M.v.wa M.v.wn M.v.wc]) M.k M.m M []) ?_;unfold gC oW;rw[<-Kw,show B.C.cl r=M.C.cl r from O.cl r];refine au (aB O2 (H:= [])) ?_;refine jW [SH z (M.gk r none ⟨k,v,fl,ex,M.k.now,M.v.bh+1,mk⟩)] results129 ?_;exact⟨rfl,rfl⟩
 obtain⟨hp,hpk⟩:=hold p rfl;have dE:=(O.al p).2 hp;have hp1':At B.C p:=O.nm dE;have IA:=(bV K hp1').2.2.2.2.2;rw[O.hd p]at IA;have hpz:(!decide (((M.C.hd p:Nat):Int)=0))=true:=by rw[CG];rfl
 refine bm ?_;refine eU ?_ (e:=by exact hpz);have ur:aP (B.C.wA A1).A p=aP (B.C.wA A1).A r:=by
  rw[cK,f_k,show aP A1 p=(M.it p).key from(O1.jh dE).2.2.2.2.1];exact hpk
 have tp:=DQ z.y.t z.y.b (B.C.wA A1) K1 B.W B.ty O1.t O.ty p r dE L1 I1 vt ur;rw[show(B.C.wA A1).hd r=M.C.hd r from Kw,show(B.C.wA A1).hd p=M.C.hd p from O.hd p]at tp;unfold nq at tp;refine dm ?_;refine Lp (oC CF rfl rfl (tp) (.cons .here (.cons .here (.cons .here (.cons .here .nil)))) CI ?_);rintro v H' ⟨rfl,A2,V,rfl,hy,SK⟩;refine aX ?_;refine bm ?_;obtain⟨i,hi⟩:=hp;obtain⟨kq,hkq⟩:=agd hi;have lvs:∀q∈r::B.W.all,Live (B.C.wA A1) q:=λq hq=>(aa5.1 hq).elim (λe=>e▸L1) λh=>(O.sN h).wA _;have d1:cX (B.C.wA A1) A1 A2 (λq o=>q∈r::B.W.all/\0<=o/\o<0+4):=vE SK.df (λq hq=>(lvs q hq).toAt) (λq hq=>by have:=((lvs q hq).toAt.bn K1).2.1;omega);have K2:=K1.wA A2;have Q2:=KF K1 O1.o d1 (λi q hq j g=>S04 g);have Lvp:=O.sN dE;have kp:=sy K1 d1 (Lvp.wA A1).toAt (O1.t.it p dE) (λj g=>(S04 g).1);have klp:kl A2 p=kl A1 p:=kp.kl;have vlp:vl A2 p=vl A1 p:=kp.vl;have agN:58+kl A1 p+vl A1 p=(M.it p).sz:=O1.szp dE;have Ge:kl A2 p<=250:=by
  have h1:=(fL (O.lg p dE)).2;rw[klp,<-show(aP A1 p).length=kl A1 p from cD _ _ _,show aP A1 p=(M.it p).key from(O1.jh dE).2.2.2.2.1];exact h1
 have hb:(M.it p).sz<=M.v.eW:=by
  rw[O.bt];exact wF (λp=>(M.it p).sz) dE
 have of:=Jg z.s z.qb z.hot z.warm (aL z.s) (aY z.s) z.y {M.v with bh:=M.v.bh+1,eW:=M.v.eW+(58+k.length+v.length)} ((B.C.wA A1).wA A2) K2 M.Q Q2 M.x O.x (lK B.E (M.C.hd r) ex M.tn) (if 0<ex then M.tn+1 else M.tn) i kq p hkq Ge (by rw[cK,klp,vlp,agN];show _<=M.v.eW+_;omega) (by show M.v.eW+_<_;omega);rw[cK,klp,vlp,agN,Ca O.o hkq,show((B.C.wA A1).wA A2).hd p=M.C.hd p from O.hd p]at of;refine Hh (H':=gC z ((B.C.wA A1).wA A2) V B.ty B.C.ae.length (M.Q.flatMap (cV ((B.C.wA A1).wA A2))) M.x (lK B.E (M.C.hd r) ex M.tn) (if 0<ex then M.tn+1 else M.tn) (M.v,[CO CJ (M.v.bh+1:Nat),CO CN (M.v.eW+(58+k.length+v.length):Nat),CO CN M.v.mt.dr,CO CN M.v.mt.re,CO CN M.v.mt.bu,CO CN M.v.mt.li,CO CN M.v.mt.lo,CO CN M.v.mt.cr,CO CN M.v.mt.mv, .slice M.v.wa M.v.wn M.v.wc]) M.k M.m M []) ?_;unfold gC oW;refine Lp (oC CF rfl rfl (of) (.cons .here (.cons (.there (.there (.there .here))) (.cons (.there (.there (.there .here))) (.cons (.there (.there (.there .here))) (.cons (.there (.there (.there .here))) (.cons (.there (.there (.there .here))) .nil)))))) (λ_ le ao=>ao.nth 4 rfl) ?_);rintro v H' ⟨rfl,A3,rfl,OF⟩;refine aX ?_;have Iw:r≠p:=λe=>vt (e▸dE);obtain⟨rest,Ou,Vz⟩:=SK.pm;have nd1:=aa3.1 (Ou.nodup_iff.1 O.t.nd);have hsV:∀q∈V.all,q≠p:=λq h=>(aa5.1 (Vz.mem_iff.1 h)).elim (λe=>e▸Iw) λh e=>nd1.1 (e▸h);have T2:=F7 K2 SK.o OF.d (λq _ j g=>⟨g.oq,by unfold SQ at g;omega⟩);have T3:=OF.s.tb T2 hsV;have hrV:r∈V.all:=Vz.mem_iff.2 aaV;obtain⟨C3,hC3⟩:∃C3,C3=(((B.C.wA A1).wA A2).wA A3).bq p:=⟨_,rfl⟩;have L2:At ((B.C.wA A1).wA A2) r:=(L1.wA A2).toAt;have n1:=(L1.toAt.bn K1).2.1;have m3:dz A3 r=mk:=by
  rw[<-Wx];have e1:dz A3 r=dz A2 r:=lB K2 OF.d L2 (by have:=(L2.bn K2).2.1;omega) λj h1 h2 s=>by unfold SQ at s;omega
  rw[e1];exact lB K1 d1 L1.toAt (by omega) λj h1 h2 s=>by omega
 have s3:gJ A3 r=4:=by
  rw[<-aby];have e1:gJ A3 r=gJ A2 r:=lB K2 OF.d L2 (by have:=(L2.bn K2).2.1;omega) λj h1 h2 s=>by unfold SQ at s;omega
  rw[e1];exact lB K1 d1 L1.toAt (by omega) λj h1 h2 s=>by omega
 have hA3:C3.A=A3:=by rw[hC3];rfl
 have hcl3:C3.cl r=B.C.cl r:=by
  have:=(OF.s.lv r Iw ((T2.lv r hrV))).2.2;rw[<-hC3]at this;exact this
 have hhd3:C3.hd r=M.C.hd r:=by
  have:=(OF.s.lv r Iw ((T2.lv r hrV))).2.1;rw[<-hC3]at this;exact this.trans Kw
 have OF2:=OF;have T4:=T3;have K3:=OF.k;have Q3:=OF.o;have yP:C3.ae.length=B.C.ae.length:=by rw[hC3];rfl
 rw[<-hC3]at T4 K3 Q3;have ent:=Ay z.y.lu z.y.q z.y.b z.qb z.hot z.warm C3 K3 (iG M.Q p) Q3 r (λq e=>by cases e;exact⟨T4.lv r hrV,T4.it r hrV⟩) (by rw[hA3,m3];exact uq) (by rw[hA3,s3];omega);rw[hcl3,hhd3]at ent;unfold qY at ent;rw[yP]at ent;rw[<-hC3];refine dm ?_;refine Lp (oC CF rfl rfl (ent) (.cons .here (.cons .here (.cons .here .nil))) (λ_ le ao=>ao.nth 7 rfl) ?_);rintro v H' ⟨rfl,A4,rfl,EK⟩;refine aX ?_;refine aF ?_;subst hn;subst hC3;have O2:=bL.om O1 ⟨i,hi⟩ hr I1 _ lJ uq VI hy SK OF EK;refine Hh (H':=gC z (((((B.C.wA A1).wA A2).wA A3).bq p).wA A4) V B.ty B.C.ae.length ((kY (iG M.Q p) (qi (B.C.cl r) 1) r).flatMap (cV (((((B.C.wA A1).wA A2).wA A3).bq p).wA A4))) (M.x.left M.Q p) (eX (lK B.E (M.C.hd r) ex M.tn) (M.C.hd p)) (if 0<ex then M.tn+1 else M.tn) (M.v,[CO CJ (M.v.bh+1:Nat),CO CN (M.v.eW+(58+k.length+v.length)-(M.it p).sz:Nat),CO CN M.v.mt.dr,CO CN M.v.mt.re,CO CN M.v.mt.bu,CO CN M.v.mt.li,CO CN M.v.mt.lo,CO CN M.v.mt.cr,CO CN M.v.mt.mv, .slice M.v.wa M.v.wn M.v.wc]) M.k M.m M []) ?_;unfold gC oW;rw[<-Kw,<-O.hd p,show B.C.cl r=M.C.cl r from O.cl r];refine au (aB O2 (H:= [])) ?_;refine jW [SH z (M.gk r (some p) ⟨k,v,fl,ex,M.k.now,M.v.bh+1,mk⟩)] results129 ?_;exact⟨rfl,rfl⟩
theorem lH.beside{M:Mo}(A:lH M 1):Ev M M.beside:=by
 have h1:Ev M M.fw:= .rf rfl rfl;have h2:Ev M M.fw.jG:=(h1.trans (Ev.cN M.fw M.fw.k.now M.fw.v.p.c)).trans (.rf rfl rfl);exact(h2.trans ((A.ev h2).gF M.fw.jG.v.p.m)).trans (.rf rfl rfl)
theorem lH.behind{M:Mo}(A:lH M 1)(hot warm:Nat)(k:List UInt8):Ev M (M.behind hot warm k):=by
 have h:=Km hot warm M k;exact h.trans (A.ev h).beside
theorem Ev.meet (M:Mo)(k:List UInt8):Ev M (M.meet k).2:=by
 unfold Mo.meet
 split
 ·exact .rf rfl rfl
 split
 ·exact(Ev.rf rfl rfl:Ev M (M.fE _)).trans (Ev.ca _ _)
 exact .rf rfl rfl
theorem lH.meet{M:Mo}{j:Nat}(A:lH M j)(k:List UInt8):lH (M.meet k).2 j:=A.ev (Ev.meet M k)
theorem Ev.gk (M:Mo)(r:Nat)(old:Option Nat)(n:I3):Ev M (M.gk r old n):=by
 unfold Mo.gk
 split
 ·exact .rf rfl rfl
 next p=>exact⟨rfl,JV M.C p⟩
theorem lH.mQ{j:Nat}(hot warm:Nat):∀(l:List (List UInt8)) {M:Mo},lH M (j+1)->Ev M (l.foldl (Mo.behind hot warm) M)
 | [],_,_=> .rf rfl rfl
 |k::l,M,A=>by
  have e:=(A.le (Nat.succ_le_succ (afk j))).behind hot warm k;exact e.trans (lH.mQ (j:=j) hot warm l (A.ev e))
end Go.Proofs.YtcbcjolpdljbiaaGreat
