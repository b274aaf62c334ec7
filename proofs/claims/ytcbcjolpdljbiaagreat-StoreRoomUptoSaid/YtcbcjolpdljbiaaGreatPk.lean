/- Part Pk of the proof. -/
import Derived.Test.YtcbcjolpdljbiaaGreatPj1
set_option maxRecDepth 100000
open Go.Proofs.YtcbcjolpdljbiaaGreat.T
open Nat renaming add_assoc -> ah8, mod_eq_of_lt -> acZ, mul_le_mul_right -> acW, le_refl -> abc, zero_le -> abn, zero_add -> abj, le_trans -> ahO, lt_succ_self -> alY, min_zero -> amb
open List renaming mem_cons_self -> aa5, mem_cons_of_mem -> aa6, getElem_mem -> abe, map_cons -> aa7, sum_cons -> abp, mem_cons -> abh, map_congr_left -> ahn, filter_cons -> ahJ, mem_map -> abk, mem_filter -> abm, nodup_cons -> abg, Perm -> abd, getElem?_set_ne -> acX, getD_eq_getElem?_getD -> aaZ, getElem?_map -> abf, getElem?_eq_some_iff -> aa1, mem_of_getElem? -> aa3, getElem?_eq_none -> abb, ext_getElem? -> ah6, getElem?_set -> ahG, getElem?_eq_getElem -> aa0, mem_of_mem_erase -> ahS, mem_erase_of_ne -> ain, length_map -> abo, length_filter_le -> aly, length_cons -> abu, getElem?_of_mem -> ahH, mem_flatten -> ais, getElem_of_mem -> acS, nodup_nil -> ah9, mem_of_mem_take -> aio, filter_sublist -> ahs, append_nil -> acT, replicate -> aa2, findIdx?_eq_some_iff_getElem -> abl, findIdx?_eq_none_iff -> ahz, range -> acA, find?_eq_none -> ahL, mem_range -> ac3, foldl_cons -> ahC, mem_of_find?_eq_some -> ac4, find?_some -> alD, map_append -> adb, find?_cons -> alB, findIdx?_cons -> aii, mem_append -> ahy, mem_reverse -> ahN, length_set -> aa8, mem_singleton -> acQ
open Decidable renaming byContradiction -> aba
open Int renaming min_le_right -> alZ
open Go.Proofs.Tryz renaming prog -> aaY
open Go.Proofs.Tryz
open Go.Value renaming int -> DE
open Go.IntKind renaming i64 -> DD, u64 -> DB
namespace Go.Proofs.YtcbcjolpdljbiaaGreat
open Go Go.dQ Go.Proofs.YtcbcjolpdljbiaaGreat.Cs
structure I3 where
 key:F9
 val:F9
 fl:Nat
 exp:Nat
 tch:Nat
 tok:Nat
 fe:Nat
def lU (A:By)(p:Nat):Nat:=rd A (p+24) 8
def Qw (A:By)(p:Nat):Nat:=rd A (p+40) 4
def mM (A:By)(p:Nat):I3:=⟨aO A p,ko A p,Qw A p,ve A p,lU A p,sK A p,dJ A p⟩
def I3.sz (x:I3):Nat:=58+x.key.length+x.val.length
theorem HA (A:By)(p:Nat):(mM A p).sz=58+kl A p+vl A p:=by
 unfold I3.sz mM;rw[show(aO A p).length=kl A p from cI _ _ _,show(ko A p).length=vl A p from cI _ _ _]
theorem wu{C:Cs}(K:Ok C){B:By}{S:Nat->Nat->Prop}(d:dm C C.A B S){p:Nat}(L:At C p)(I:gU C p)(h:∀j,S p j->j<16\/j=45):mM B p=mM C.A p:=by
 have n1:=(L.br K).2.1;have hf:=I.fits;have r:=λ(o w:Nat) (h2:o+w<=C.sz (C.cl p)) (h3:∀j,o<=j->j<o+w->¬(j<16\/j=45))=>lJ K d L h2 (λj g1 g2 s=>h3 j g1 g2 (h j s));have e1:kl B p=kl C.A p:=r 44 1 (by omega) (λj g1 g2=>by omega);have e2:vl B p=vl C.A p:=r 48 4 (by omega) (λj g1 g2=>by omega);have e3:aO B p=aO C.A p:=by
  unfold aO;rw[e1];exact wE K d L (by omega) (λj g1 g2 s=>by have:=h j s;omega)
 have e4:ko B p=ko C.A p:=by
  unfold ko;rw[e1,e2,ah8];exact wE K d L (by omega) (λj g1 g2 s=>by have:=h j s;omega)
 unfold mM Qw ve lU sK dJ;rw[e3,e4,r 40 4 (by omega) (λj g1 g2=>by omega),r 16 8 (by omega) (λj g1 g2=>by omega),r 24 8 (by omega) (λj g1 g2=>by omega),r 32 8 (by omega) (λj g1 g2=>by omega),r 46 1 (by omega) (λj g1 g2=>by omega)]
theorem aiK{C:Cs}(K:Ok C){W:Tb}(O:dC C W){B:By}(kp:∀p∈W.all,Kept C B p)(hl:∀p∈W.all,rd B p 4=rd C.A p 4):dC (C.wA B) W:=by
 have lk:∀l:F8,(∀p∈l,p∈W.all)->GW C.A l->GW B l:=λl=>by
  induction l with
  |nil=>exact λ_ _=>trivial
  |cons p l ih=>exact λh g=>⟨(hl p (h p aa5)).trans g.1,ih (λq hq=>h q (aa6 _ hq)) g.2⟩
 refine⟨O.pw,O.po,O.st,O.mp,O.sz,O.Qc,O.sm,O.mv,O.n,O.nd,λx=>lk _ (λp hp=>Tb.hU hp) (O.li x),λp hp=>(O.lv p hp).wA B,λp hp=>(kp p hp).it (O.it p hp),λx p hp=> ?_,λp hp q hq e=> ?_⟩
 ·show W.bk (cD (aO B p))=x
  rw[(kp p (Tb.hU hp)).key];exact O.bu x p hp
 change aO B p=aO B q at e;rw[(kp p hp).key,(kp q hq).key]at e;exact O.kd p hp q hq e
theorem aiL{C:Cs}{Q:Dy}(O:jd C Q){B:By}(kp:∀i,∀p∈ql Q i,Kept C B p)(hs:∀i,∀p∈ql Q i,gP B p=gP C.A p)(h1:∀i,∀p∈ql Q i,rd B (p+4*1) 4=rd C.A (p+4*1) 4)(h2:∀i,∀p∈ql Q i,rd B (p+4*2) 4=rd C.A (p+4*2) 4):jd (C.wA B) Q:=by
 refine⟨O.len,λi p hp=>(O.lv i p hp).wA B,λi p hp=>(kp i p hp).it (O.it i p hp),λi p hp=> ?_,O.nd,λi k hk=> ?_,λi k hk=> ?_⟩
 ·show 1<=gP B p/\_
  rw[cT,hs i p hp];exact O.st i p hp
 ·have hp:=abe hk
  rw[cT,h1 i _ hp];exact O.l1 i k hk
 have hp:=abe hk;rw[cT,h2 i _ hp];exact O.l2 i k hk
structure Mo where
 C:Cs
 hole:FW
 Q:Dy
 it:Nat->I3
 ord:Nat->Nat
 x:Cw
 tn:Nat
 k:Ck
 m:iA
 nb:Nat
 mg:Nat
 aH:Nat
 v:Sv
 kh:F8
 n:Nat
structure Bx where
 C:Cs
 W:Tb
 ty:pW
 E:List En
structure Ly where
 s:Nat
 y:Sy
 qb:Nat
 ub:Nat
 hot:Nat
 warm:Nat
def bG (s:Nat):Value:= .func (.func 85) #[DC s] #[]
def du (s:Nat):Value:= .func (.func 113) #[DC s] #[]
def iQ (C:Cs)(M:Mo)(l:F8):List En:=(l.filter λp=>decide (0<(M.it p).exp)).map λp=>⟨C.hd p,(M.it p).exp,M.ord p⟩
structure bM (B:Bx)(M:Mo):Prop where
 c:B.C=M.C.wA B.C.A
 k:Ok B.C
 t:dC B.C B.W
 ty:B.ty.ok=none->B.W.ob= []
 o:jd B.C M.Q
 x:dt B.C.ae.length M.Q M.x
 mq:MkQ B.C M.Q
 ck:tS M.k
 al:∀p,p∈B.W.all↔∃i,p∈ql M.Q i
 lv:∀p,Live B.C p↔p∈B.W.all\/M.hole=some p
 ho:∀p,M.hole=some p->p∉B.W.all
 it:∀p∈B.W.all,mM B.C.A p=M.it p
 e:B.E.Perm (iQ B.C M B.W.all)
 st:B.W.st=2->B.W.mv<B.W.ob.length
 nb:B.W.size=M.nb
 mg:M.mg=if B.W.st=2 then B.W.ob.length-B.W.mv else 0
 mo:B.W.aH=M.aH
 bt:M.v.fE=(B.W.all.map λp=>(M.it p).sz).sum
 un:M.m.un.length=B.C.ae.length
 on:M.m.on=true->M.m.pg<B.C.n/\(B.C.pg M.m.pg).own=true/\(B.C.pg M.m.pg).lv=true/\(B.C.pg M.m.pg).cl=M.m.fr
 go:∀i,(B.C.pg i).lv=true->M.m.on=true/\i=M.m.pg
 wn:M.v.wn=M.kh.length
 cf:M.v.c=B.C.cfg
 n:B.W.n=M.n
 lg:∀p∈B.W.all,cU (M.it p).key=true
def jO (M:Mo):aa:=own M.v.wa M.v.wc 3 1 (aE M.kh)
def eh (z:Ly)(B:Bx)(M:Mo):Dz:=
 [Cl z.y.b B.C,ag z.y.t 154 (gV z.y.b B.W B.ty),ag B.ty.nk 149 (aV (aL B.W.nb)),oe B.ty.ok 149 (aV (aL B.W.ob)),ag z.y.q 182 (iF z.y.b z.qb B.C.ae.length),ag z.qb 333 (M.Q.flatMap (di B.C)),iH z.y.cr z.y.q z.y.wh B.C.ae.length (aZ z.s) (bG z.s) B.C M.x,Wl z.y.wh B.E M.tn,fC z.s z.y (fm M.v),
  kS z.y.ck M.k,og z.y.lu z.y.b z.y.q z.hot z.warm,nq z.y.mo z.y.b z.ub (aZ z.s) (bG z.s) (du z.s) M.m,kO z.ub M.m,jO M]
abbrev pG (z:Ly)(v:Sv)(r:FV):FV:=DC z.y.b::DC z.y.ck::DC z.y.t::DC z.y.lu::DC z.y.wh::DC z.y.cr::DC z.y.mo::DC z.y.q::DE DD v.c.aj::DE DD v.c.pgs::DE DD v.c.fac::DE DD v.c.bE::DE DD v.c.lim::DE DD v.c.hot::DE DD v.c.warm::DE DD v.p.b::DE DD v.p.l::DE DD v.p.c::DE DD v.p.m::r
abbrev gF (z:Ly)(C:Cs)(W:Tb)(ty:pW)(n:Nat)(q:FV)(x:Cw)(E:List En)(t:Nat)(s:Sv×FV)(k:Ck)(m:iA)(M:Mo)(r:Dz):Dz:=Cl z.y.b C::ag z.y.t 154 (gV z.y.b W ty)::ag ty.nk 149 (aV (aL W.nb))::oe ty.ok 149 (aV (aL W.ob))::ag z.y.q 182 (iF z.y.b z.qb n)::ag z.qb 333 q::iH z.y.cr z.y.q z.y.wh n (aZ z.s) (bG z.s) C x::Wl z.y.wh E t::ag z.s 96 (pG z s.1 s.2)::kS z.y.ck k::og z.y.lu z.y.b z.y.q z.hot z.warm::nq z.y.mo z.y.b z.ub (aZ z.s) (bG z.s) (du z.s) m::kO z.ub m::jO M::r
abbrev DS (z:Ly)(W:Tb)(y:pW):aa:=ag z.y.t 154 (gV z.y.b W y)
abbrev zY (y:pW)(W:Tb):aa:=ag y.nk 149 (aV (aL W.nb))
abbrev DU (y:pW)(W:Tb):aa:=oe y.ok 149 (aV (aL W.ob))
abbrev DT (z:Ly)(n:Nat):aa:=ag z.y.q 182 (iF z.y.b z.qb n)
abbrev Xr (z:Ly)(n:Nat)(C:Cs)(x:Cw):aa:=iH z.y.cr z.y.q z.y.wh n (aZ z.s) (bG z.s) C x
abbrev zR (z:Ly):aa:=og z.y.lu z.y.b z.y.q z.hot z.warm
abbrev xM (z:Ly)(m:iA):aa:=nq z.y.mo z.y.b z.ub (aZ z.s) (bG z.s) (du z.s) m
def Mo.put (M:Mo)(p:Nat)(n:I3):Mo:={M with it:=λq=>if q=p then n else M.it q}
theorem bM.tH{B:Bx}{M:Mo}(O:bM B M){p:Nat}(h:p∈B.W.all):Live B.C p:=(O.lv p).2 (.inl h)
theorem bM.ot{B:Bx}{M:Mo}(O:bM B M){i p:Nat}(h:p∈ql M.Q i):p∈B.W.all:=(O.al p).2 ⟨i,h⟩
theorem bM.ito{B:Bx}{M:Mo}(O:bM B M){p:Nat}(h:p∈B.W.all):gI B.C (some p):=λq e=>by cases e;exact⟨O.tH h,O.t.it p h⟩
theorem bM.szp{B:Bx}{M:Mo}(O:bM B M){p:Nat}(h:p∈B.W.all):58+kl B.C.A p+vl B.C.A p=(M.it p).sz:=by rw[<-O.it p h,HA]
theorem xm{α:Type}(f:α->Nat):∀{l:List α} {x:α},x∈l->f x<=(l.map f).sum
 |y::l,x,h=>by
  rw[aa7,abp];rcases abh.1 h with rfl|h
  ·omega
  have:=xm f h;omega
theorem my{α:Type}(f:α->Nat){l m:List α}(p:l.Perm m):(l.map f).sum=(m.map f).sum:=(p.map f).sum_nat
theorem bM.ie{B:Bx}{M:Mo}(O:bM B M){p:Nat}(hp:p∈B.W.all){A:By}{S:Nat->Nat->Prop}(d:dm B.C B.C.A A S)(hS:∀q j,S q j->q=p/\16<=j/\j<48/\(j<40\/j=46))
  (hx:rd A (p+16) 8<9223372036854775808) (ht:rd A (p+24) 8<9223372036854775808) (hm:dJ A p<16) (n:I3) (hn:n={M.it p with exp:=ve A p,tch:=lU A p,tok:=sK A p,fe:=dJ A p})
  (E:List En) (od:Nat->Nat) (tn:Nat) (hE:E.Perm (iQ B.C {M.put p n with ord:=od} B.W.all)):bM ⟨B.C.wA A,B.W,B.ty,E⟩ {M.put p n with ord:=od,tn:=tn}:=by
 have K:=O.k;have at_:∀q∈B.W.all,At B.C q:=λq hq=>(O.tH hq).toAt;have n1:∀q∈B.W.all,64<=B.C.sz (B.C.cl q):=λq hq=>((at_ q hq).br K).2.1;have I:=O.t.it p hp;have hf:=I.fits;have r:=λ(q:Nat) (hq:q∈B.W.all) (o w:Nat) (h2:o+w<=B.C.sz (B.C.cl q)) (h3:∀j,o<=j->j<o+w->¬(16<=j/\j<48/\(j<40\/j=46)))=>lJ K d (at_ q hq) h2 (λj g1 g2 s=>h3 j g1 g2 (hS q j s).2);have ek:∀q∈B.W.all,kl A q=kl B.C.A q:=λq hq=>r q hq 44 1 (by have:=n1 q hq;omega) (λj g1 g2=>by omega);have ev:∀q∈B.W.all,vl A q=vl B.C.A q:=λq hq=>r q hq 48 4 (by have:=n1 q hq;omega) (λj g1 g2=>by omega);have other:∀q∈B.W.all,q≠p->mM A q=mM B.C.A q:=λq hq ne=>wu K d (at_ q hq) (O.t.it q hq) (λj s=>absurd (hS q j s).1 ne);have key:∀q∈B.W.all,aO A q=aO B.C.A q:=λq hq=>by
  have:=(O.t.it q hq).fits;unfold aO;rw[ek q hq];exact wE K d (at_ q hq) (by omega) (λj g1 g2 s=>by have:=hS q j s;omega)
 have val:∀q∈B.W.all,ko A q=ko B.C.A q:=λq hq=>by
  have:=(O.t.it q hq).fits;unfold ko;rw[ek q hq,ev q hq,ah8];exact wE K d (at_ q hq) (by omega) (λj g1 g2 s=>by have:=hS q j s;omega)
 have kp:∀q∈B.W.all,Kept B.C A q:=λq hq=>⟨ek q hq,ev q hq,key q hq,λJ=>by
  by_cases e:q=p
  ·subst e
   exact⟨by rw[cT,ek q hq];exact J.k0,by rw[cT,ek q hq,ev q hq];exact J.fits,hx,ht⟩
  have g:=other q hq e;have g1:ve A q=ve B.C.A q:=congrArg I3.exp g;have g2:lU A q=lU B.C.A q:=congrArg I3.tch g;exact⟨by rw[cT,ek q hq];exact J.k0,by rw[cT,ek q hq,ev q hq];exact J.fits,by have:=J.exp;change ve A q<_;rw[g1];exact this,by have:=J.tch;change lU A q<_;rw[g2];exact this⟩⟩
 have itp:mM A p=n:=by
  rw[hn,<-O.it p hp];unfold mM;dsimp only;rw[key p hp,val p hp,show Qw A p=Qw B.C.A p from r p hp 40 4 (by have:=n1 p hp;omega) (λj g1 g2=>by omega)]
 have lG:∀q∈B.W.all,mM A q=(M.put p n).it q:=λq hq=>by
  show _=if q=p then n else M.it q
  by_cases e:q=p
  ·rw[if_pos e,e];exact itp
  rw[if_neg e,other q hq e];exact O.it q hq
 refine⟨?_,K.wA A,aiK K O.t kp (λq hq=>r q hq 0 4 (by have:=n1 q hq;omega) (λj g1 g2=>by omega)),O.ty, ?_,O.x, ?_,O.ck,O.al,λq=> ?_,O.ho,lG,hE,O.st,O.nb,O.mg,O.mo, ?_,O.un,O.on,O.go,O.wn,O.cf,O.n,λq hq=> ?_⟩
 ·show B.C.wA A=M.C.wA A
  conv=>lhs;rw[O.c]
  rfl
 ·exact aiL O.o (λi q hq=>kp q (O.ot hq)) (λi q hq=>r q (O.ot hq) 45 1 (by have:=n1 q (O.ot hq);omega) (λj g1 g2=>by omega)) (λi q hq=>r q (O.ot hq) (4*1) 4 (by have:=n1 q (O.ot hq);omega) (λj g1 g2=>by omega)) (λi q hq=>r q (O.ot hq) (4*2) 4 (by have:=n1 q (O.ot hq);omega) (λj g1 g2=>by omega))
 ·intro i q hq
  have LO:=O.ot hq;by_cases e:q=p
  ·rw[e];exact hm
  show dJ A q<16;rw[show dJ A q=dJ B.C.A q from congrArg I3.fe (other q LO e)];exact O.mq i q hq
 ·refine Iff.trans ?_ (O.lv q)
  exact⟨λh=>⟨⟨h.i,h.own,h.al,h.k⟩,h.tk⟩,λh=>h.wA A⟩
 ·show M.v.fE=_
  rw[O.bt]
  congr 1
  refine ahn λq hq=> ?_;rw[<-lG q hq,<-O.it q hq,HA,HA,ek q hq,ev q hq]
 rw[<-lG q hq];show cU (aO A q)=true;rw[key q hq,show aO B.C.A q=(M.it q).key from congrArg I3.key (O.it q hq)];exact O.lg q hq
end Go.Proofs.YtcbcjolpdljbiaaGreat
namespace Go.dQ
open Go
theorem aK.fr{P:Program}{f:FuncId}{args:FV}{pre:Hp->Prop}{H As R:Dz}{T:DF}(h:aK P f args pre As T)(dg:iM H As R)(hp:∀k,gW R k->pre k):
  aK P f args (λ_=>True) H (λv H'=>∃H0,T v H0/\H'=H0++R):=by
 intro F w _ s;obtain⟨a1,a2,a3,fr,hh,st,hl,r8⟩:=s;obtain⟨h1,h2,d12,l1,l2,s1,s2⟩:=bx (dg.out _ st);have wg:bP h2 F.h:=r8.left l2
 let F':dM:={F with h:=fH h2 F.h}
 have iw:Le F.h F'.h:=aP wg;have iy:Le h2 F'.h:=aU _ _;have xK:St F' As w:=⟨a1,a2,a3,bX (l2.trans hl) fr,h1,s1,l1.trans hl,(bP.fH d12.symm (r8.left l1).symm).symm⟩;refine(h F' w (hp _ (cx s2 iy)) xK).mono ?_;rintro e w' ⟨v,H',rfl,hT,sw⟩;obtain⟨b1,b2,b3,se,zZ,st2,zW,ky⟩:=sw;exact⟨v,_,rfl,⟨H',hT,rfl⟩,b1,b2,b3,iw.trans se,fH zZ h2,bH st2 s2 (ky.right iy),bX zW (iy.trans se),bP.fH (ky.right iw) wg⟩
end Go.dQ
namespace Go.Proofs.YtcbcjolpdljbiaaGreat
open Go Go.dQ Go.Proofs.YtcbcjolpdljbiaaGreat.Cs
theorem qP (A:By)(p n v:Nat)(h:v<256^n):rd (wr A p n v) p n=v:=by rw[dI,acZ h]
def SH (z:Ly)(M:Mo):aa:=λh=>∃B,bM B M/\aF (eh z B M) h
theorem dV{P:Program}{f:FuncId}{args:FV}{pre:Hp->Prop}{H:Dz}{R:DF}{z:Ly}{M:Mo}(h:∀B,bM B M->aK P f args pre (eh z B M++H) R):aK P f args pre (SH z M::H) R:=
 aK.exL λB=>aK.Eg λO=>aK.Hj (h B O)
theorem aD{z:Ly}{B:Bx}{M:Mo}(O:bM B M){H:Dz}:∀h,ai (eh z B M++H) h->ai (SH z M::H) h:=λh s=>
 bo (λk x=>⟨B,O,x⟩) (eC s)
def Mo.has (M:Mo)(p:Nat):Prop:=∃i,p∈ql M.Q i
def Mo.lG (M:Mo)(p:Nat):Mo:=M.put p {M.it p with tch:=M.k.now,fe:=mkSet (M.it p).fe true % 8+8}
def Mo.marks (M:Mo)(p k:Nat):Mo:=M.put p {M.it p with fe:=(M.it p).fe-(M.it p).fe/2 % 4*2+k*2}
def Mo.tok (M:Mo)(p t:Nat):Mo:=M.put p {M.it p with tok:=t}
def Mo.time (M:Mo)(p e:Nat):Mo:={M.put p {M.it p with exp:=e}with ord:=λq=>if q=p then M.tn+1 else M.ord q,tn:=if 0<e then M.tn+1 else M.tn}
theorem bM.hd{B:Bx}{M:Mo}(O:bM B M)(p:Nat):B.C.hd p=M.C.hd p:=by rw[O.c];rfl
theorem jM{C:Cs}{M:Mo}{l m:F8}(p:l.Perm m):(iQ C M l).Perm (iQ C M m):=(p.filter _).map _
theorem ja{C:Cs}{M:Mo}{p:Nat}{r:F8}:iQ C M (p::r)=if 0<(M.it p).exp then⟨C.hd p,(M.it p).exp,M.ord p⟩::iQ C M r else iQ C M r:=by
 unfold iQ;by_cases h:0<(M.it p).exp
 ·rw[if_pos h,ahJ,if_pos (by simpa using h)];rfl
 rw[if_neg h,ahJ,if_neg (by simpa using h)]
theorem fY{C D:Cs}{M N:Mo}:∀{l:F8},(∀q∈l,(N.it q).exp=(M.it q).exp/\N.ord q=M.ord q/\D.hd q=C.hd q)->iQ D N l=iQ C M l
 | [],_=>by simp only[iQ,List.filter_nil,List.map_nil]
 |p::r,h=>by
  obtain⟨h1,h2,h3⟩:=h p aa5;rw[ja,ja,h1,h2,h3,fY λq hq=>h q (aa6 _ hq)]
theorem Dq{C:Cs}{M:Mo}{p:Nat}{n:I3}{l:F8}(h:n.exp=(M.it p).exp):iQ C {M.put p n with ord:=M.ord} l=iQ C M l:=fY λq _=>⟨by
 show(if q=p then n else M.it q).exp=_;by_cases e:q=p
 ·rw[if_pos e,h,e]
 rw[if_neg e],rfl,rfl⟩
theorem mD{C:Cs}{M:Mo}{h:Nat}{r:F8}(hr:∀q∈r,C.hd q≠h):fi (iQ C M r) h=iQ C M r:=by
 unfold fi;rw[List.filter_eq_self];intro x hx;unfold iQ at hx;obtain⟨q,hq,rfl⟩:=abk.1 hx;exact decide_eq_true (hr q (abm.1 hq).1)
theorem bM.nm{B:Bx}{M:Mo}(O:bM B M){p:Nat}(h:p∈B.W.all):At B.C p:=(O.tH h).toAt
theorem bM.rest{B:Bx}{M:Mo}(O:bM B M){p:Nat}{r:F8}(h:B.W.all.Perm (p::r)):(fi B.E (B.C.hd p)).Perm (iQ B.C M r):=by
 have nd:=h.nodup_iff.1 O.t.nd;have fN:∀q∈r,B.C.hd q≠B.C.hd p:=λq hq e=>(abg.1 nd).1 (by
  rw[<-jm O.k (O.nm (h.mem_iff.2 (aa6 _ hq))) (O.nm (h.mem_iff.2 aa5)) e];exact hq)
 have h1:(fi B.E (B.C.hd p)).Perm (fi (iQ B.C M (p::r)) (B.C.hd p)):=(O.e.trans (jM h)).filter _;refine h1.trans ?_;rw[ja];split
 ·unfold fi
  rw[ahJ,if_neg (by simp)];exact abd.of_eq (mD fN)
 exact abd.of_eq (mD fN)
theorem bM.ahe{B:Bx}{M:Mo}(_:bM B M){p:Nat}(h:p∈B.W.all):B.W.all.Perm (p::B.W.all.erase p):=List.perm_cons_erase h
def AD (p:Nat)(a n:Nat)(q o:Nat):Prop:=q=p/\a<=o/\o<a+n
theorem bM.PR{B:Bx}{M:Mo}(O:bM B M){p:Nat}(hp:p∈B.W.all){A:By}{S:Nat->Nat->Prop}(d:dm B.C B.C.A A S){o w:Nat}(h2:o+w<=64)(h:∀j,o<=j->j<o+w->¬S p j):rd A (p+o) w=rd B.C.A (p+o) w:=
 lJ O.k d (O.nm hp) (by have:=((O.nm hp).br O.k).2.1;omega) h
theorem bM.w8{B:Bx}{M:Mo}(O:bM B M){p:Nat}(hp:p∈B.W.all):dJ B.C.A p=(M.it p).fe/\(M.it p).fe<16:=by
 have h:=congrArg I3.fe (O.it p hp);obtain⟨i,hi⟩:=(O.al p).1 hp;have h2:=O.mq i p hi;have h3:dJ B.C.A p=(M.it p).fe:=h;exact⟨h3,by omega⟩
theorem bM.jx{B:Bx}{M:Mo}(O:bM B M){p:Nat}(hp:p∈B.W.all):ve B.C.A p=(M.it p).exp/\lU B.C.A p=(M.it p).tch/\sK B.C.A p=(M.it p).tok/\dJ B.C.A p=(M.it p).fe/\aO B.C.A p=(M.it p).key/\ko B.C.A p=(M.it p).val/\Qw B.C.A p=(M.it p).fl:=by
 have h:=O.it p hp;rw[<-h];exact⟨rfl,rfl,rfl,rfl,rfl,rfl,rfl⟩
theorem bM.w46{B:Bx}{M:Mo}(O:bM B M){p:Nat}(hp:p∈B.W.all)(m:Nat)(hm:m<16):bM ⟨B.C.wA (wr B.C.A (p+46) 1 m),B.W,B.ty,B.E⟩ (M.put p {M.it p with fe:=m}):=by
 have L:=O.nm hp;have n1:=(L.br O.k).2.1;have d:dm B.C B.C.A (wr B.C.A (p+46) 1 m) (AD p 46 1):=xR _ L (by omega) λj h1 h2=>⟨rfl,h1,h2⟩;have I:=O.t.it p hp;obtain⟨f1,f2,f3,f4,f5,f6,f7⟩:=O.jx hp;have g1:ve (wr B.C.A (p+46) 1 m) p=(M.it p).exp:=(O.PR hp d (by omega) (λj h1 h2 s=>by unfold AD at s;omega)).trans f1;have g2:lU (wr B.C.A (p+46) 1 m) p=(M.it p).tch:=(O.PR hp d (by omega) (λj h1 h2 s=>by unfold AD at s;omega)).trans f2;have g3:sK (wr B.C.A (p+46) 1 m) p=(M.it p).tok:=(O.PR hp d (by omega) (λj h1 h2 s=>by unfold AD at s;omega)).trans f3;have g4:dJ (wr B.C.A (p+46) 1 m) p=m:=qP _ _ _ _ (by omega);have e1:=I.exp;have e2:=I.tch;refine O.ie hp d (λq j s=>by unfold AD at s;omega) (by show ve _ _<_;rw[g1,<-f1];exact e1) (by show lU _ _<_;rw[g2,<-f2];exact e2) (by rw[g4];exact hm) _ (by rw[g1,g2,g3,g4]) _ _ _ ?_;exact O.e.trans (abd.of_eq (Dq (by rfl)).symm)
theorem bM.w24{B:Bx}{M:Mo}(O:bM B M){p:Nat}(hp:p∈B.W.all)(t:Nat)(ht:t<9223372036854775808):bM ⟨B.C.wA (wr B.C.A (p+24) 8 t),B.W,B.ty,B.E⟩ (M.put p {M.it p with tch:=t}):=by
 have L:=O.nm hp;have n1:=(L.br O.k).2.1;have d:dm B.C B.C.A (wr B.C.A (p+24) 8 t) (AD p 24 8):=xR _ L (by omega) λj h1 h2=>⟨rfl,h1,h2⟩;have I:=O.t.it p hp;obtain⟨f1,f2,f3,f4,f5,f6,f7⟩:=O.jx hp;have g1:ve (wr B.C.A (p+24) 8 t) p=(M.it p).exp:=(O.PR hp d (by omega) (λj h1 h2 s=>by unfold AD at s;omega)).trans f1;have g2:lU (wr B.C.A (p+24) 8 t) p=t:=qP _ _ _ _ (by omega);have g3:sK (wr B.C.A (p+24) 8 t) p=(M.it p).tok:=(O.PR hp d (by omega) (λj h1 h2 s=>by unfold AD at s;omega)).trans f3;have g4:dJ (wr B.C.A (p+24) 8 t) p=(M.it p).fe:=(O.PR hp d (by omega) (λj h1 h2 s=>by unfold AD at s;omega)).trans f4;have e1:=I.exp;refine O.ie hp d (λq j s=>by unfold AD at s;omega) (by show ve _ _<_;rw[g1,<-f1];exact e1) (by show lU _ _<_;rw[g2];exact ht) (by rw[g4];exact(O.w8 hp).2) _ (by rw[g1,g2,g3,g4]) _ _ _ ?_;exact O.e.trans (abd.of_eq (Dq (by rfl)).symm)
theorem bM.w32{B:Bx}{M:Mo}(O:bM B M){p:Nat}(hp:p∈B.W.all)(t:Nat)(ht:t<18446744073709551616):bM ⟨B.C.wA (wr B.C.A (p+32) 8 t),B.W,B.ty,B.E⟩ (M.tok p t):=by
 have L:=O.nm hp;have n1:=(L.br O.k).2.1;have d:dm B.C B.C.A (wr B.C.A (p+32) 8 t) (AD p 32 8):=xR _ L (by omega) λj h1 h2=>⟨rfl,h1,h2⟩;have I:=O.t.it p hp;obtain⟨f1,f2,f3,f4,f5,f6,f7⟩:=O.jx hp;have g1:ve (wr B.C.A (p+32) 8 t) p=(M.it p).exp:=(O.PR hp d (by omega) (λj h1 h2 s=>by unfold AD at s;omega)).trans f1;have g2:lU (wr B.C.A (p+32) 8 t) p=(M.it p).tch:=(O.PR hp d (by omega) (λj h1 h2 s=>by unfold AD at s;omega)).trans f2;have g3:sK (wr B.C.A (p+32) 8 t) p=t:=qP _ _ _ _ (by omega);have g4:dJ (wr B.C.A (p+32) 8 t) p=(M.it p).fe:=(O.PR hp d (by omega) (λj h1 h2 s=>by unfold AD at s;omega)).trans f4;have e1:=I.exp;have e2:=I.tch;refine O.ie hp d (λq j s=>by unfold AD at s;omega) (by show ve _ _<_;rw[g1,<-f1];exact e1) (by show lU _ _<_;rw[g2,<-f2];exact e2) (by rw[g4];exact(O.w8 hp).2) _ (by rw[g1,g2,g3,g4]) _ _ _ ?_;exact O.e.trans (abd.of_eq (Dq (by rfl)).symm)
theorem bM.w16{B:Bx}{M:Mo}(O:bM B M){p:Nat}(hp:p∈B.W.all)(t:Nat)(ht:t<9223372036854775808):bM ⟨B.C.wA (wr B.C.A (p+16) 8 t),B.W,B.ty,lT B.E (B.C.hd p) t M.tn⟩ (M.time p t):=by
 have L:=O.nm hp;have n1:=(L.br O.k).2.1;have d:dm B.C B.C.A (wr B.C.A (p+16) 8 t) (AD p 16 8):=xR _ L (by omega) λj h1 h2=>⟨rfl,h1,h2⟩;have I:=O.t.it p hp;obtain⟨f1,f2,f3,f4,f5,f6,f7⟩:=O.jx hp;have g1:ve (wr B.C.A (p+16) 8 t) p=t:=qP _ _ _ _ (by omega);have g2:lU (wr B.C.A (p+16) 8 t) p=(M.it p).tch:=(O.PR hp d (by omega) (λj h1 h2 s=>by unfold AD at s;omega)).trans f2;have g3:sK (wr B.C.A (p+16) 8 t) p=(M.it p).tok:=(O.PR hp d (by omega) (λj h1 h2 s=>by unfold AD at s;omega)).trans f3;have g4:dJ (wr B.C.A (p+16) 8 t) p=(M.it p).fe:=(O.PR hp d (by omega) (λj h1 h2 s=>by unfold AD at s;omega)).trans f4;have e2:=I.tch;refine O.ie hp d (λq j s=>by unfold AD at s;omega) (by show ve _ _<_;rw[g1];exact ht) (by show lU _ _<_;rw[g2,<-f2];exact e2) (by rw[g4];exact(O.w8 hp).2) _ (by rw[g1,g2,g3,g4]) _ _ _ ?_;have pe:=O.ahe hp;have nd:=abg.1 (pe.nodup_iff.1 O.t.nd);have hr:=O.rest pe;refine abd.trans ?_ (jM pe).symm;rw[ja];have e0:(({M.put p {M.it p with exp:=t}with ord:=λq=>if q=p then M.tn+1 else M.ord q}:Mo).it p).exp=t:=by show(if p=p then _ else M.it p).exp=t;rw[if_pos rfl]
 have e5:({M.put p {M.it p with exp:=t}with ord:=λq=>if q=p then M.tn+1 else M.ord q}:Mo).ord p=M.tn+1:=if_pos rfl;rw[e0,e5];have e1:iQ B.C {M.put p {M.it p with exp:=t}with ord:=λq=>if q=p then M.tn+1 else M.ord q} (B.W.all.erase p)=iQ B.C M (B.W.all.erase p):=fY λq hq=>by
  have ne:q≠p:=λe=>nd.1 (e▸hq);refine⟨?_,if_neg ne,rfl⟩;show(if q=p then _ else M.it q).exp=_;rw[if_neg ne]
 rw[e1];unfold lT;split
 ·exact hr.cons _
 exact hr
theorem oV{C:Cs}(K:Ok C){p:Nat}(L:Live C p)(j:Nat):((C.bh p).pg j).own=(C.pg j).own/\((C.bh p).pg j).lv=(C.pg j).lv/\((C.bh p).pg j).cl=(C.pg j).cl:=by
 have hpl:C.pn p<C.bQ.length:=by rw[K.pl];exact L.i
 have h:=mX (C:=C) (c:=C.cl p) (sp:=C.spare) (x:={C.pg (C.pn p)with tk:=(C.pg (C.pn p)).tk.set (C.ix p) false,held:=(C.pg (C.pn p)).held-1,bb:=(C.pg (C.pn p)).bb.set (C.ix p) ((C.gen p+1) % 4294967296)}) (r:={C.rw (C.cl p)with free:=if(C.pg (C.pn p)).lv=true then(C.rw (C.cl p)).free else(C.rw (C.cl p)).free++ [p],eG:=(C.rw (C.cl p)).eG-1}) (A:=C.A) hpl j;change(C.bh p).pg j=_ at h;rw[h];by_cases e:j=C.pn p
 ·rw[if_pos e,e];exact⟨rfl,rfl,rfl⟩
 rw[if_neg e];exact⟨rfl,rfl,rfl⟩
theorem nZ{C:Cs}(K:Ok C){p:Nat}(L:Live C p)(q:Nat):Live (C.bh p) q↔Live C q/\q≠p:=by
 obtain⟨K2,S⟩:=gA K L;have M:=jK K L;refine⟨λh=> ?_,λh=>(M.lv q h.2 h.1).1⟩;have hpl:C.pn p<C.bQ.length:=by rw[K.pl];exact L.i
 have hp:=mX (C:=C) (c:=C.cl p) (sp:=C.spare) (x:={C.pg (C.pn p)with tk:=(C.pg (C.pn p)).tk.set (C.ix p) false,held:=(C.pg (C.pn p)).held-1,bb:=(C.pg (C.pn p)).bb.set (C.ix p) ((C.gen p+1) % 4294967296)}) (r:={C.rw (C.cl p)with free:=if(C.pg (C.pn p)).lv=true then(C.rw (C.cl p)).free else(C.rw (C.cl p)).free++ [p],eG:=(C.rw (C.cl p)).eG-1}) (A:=C.A) hpl (C.pn q);change(C.bh p).pg (C.pn q)=_ at hp;have a:=(S.at).1 h.toAt;have t:=h.tk;rw[S.pn,S.ix,hp]at t;by_cases e:C.pn q=C.pn p
 ·rw[if_pos e]at t
  have ne:q≠p:=λg=>by
   rw[g]at t;change((C.pg (C.pn p)).tk.set (C.ix p) false)[C.ix p]?=some true at t;rw[List.getElem?_set_self']at t;cases hh:(C.pg (C.pn p)).tk[C.ix p]?<;>rw[hh]at t<;>cases t
  refine⟨⟨a, ?_⟩,ne⟩;change((C.pg (C.pn p)).tk.set (C.ix p) false)[C.ix q]?=some true at t;rw[acX (λg=>ye K L.toAt a e ne g.symm)]at t;rw[e];exact t
 rw[if_neg e]at t;exact⟨⟨a,t⟩,λg=>e (by rw[g])⟩
def ik (Q:Dy)(p:Nat):Dy:=Q.map λl=>l.erase p
theorem iO (Q:Dy)(p i:Nat):ql (ik Q p) i=(ql Q i).erase p:=by
 unfold ik ql;rw[aaZ,aaZ,abf];cases Q[i]?<;>rfl
theorem Ef{C:Cs}{Q:Dy}(O:jd C Q){i j p:Nat}(h:p∈ql Q i)(g:p∈ql Q j):i=j:=by
 rw[(O.st i p h).2.2,(O.st j p g).2.2]
theorem H6{l:F8}(nd:l.Nodup){k p:Nat}(h:l[k]?=some p):l.eraseIdx k=l.erase p:=by
 obtain⟨hk,e⟩:=aa1.1 h;have:l.idxOf p=k:=by
  have h1:p∈l:=aa3 h;obtain⟨i1,i2⟩:=Dk h1;exact iP nd i2 h
 rw[List.erase_eq_eraseIdx_of_idxOf this]
theorem C5{C:Cs}{Q:Dy}(O:jd C Q){i k p:Nat}(h:(ql Q i)[k]?=some p):Q.set i ((ql Q i).eraseIdx k)=ik Q p:=by
 have hm:=aa3 h;have hi:i<Q.length:=by
  refine aba λg=> ?_;unfold ql at h;have e0:Q[i]?=none:=abb (by omega);rw[aaZ,e0]at h;cases h
 refine ah6 λj=> ?_;unfold ik;rw[ahG,abf];by_cases e:i=j
 ·subst e
  rw[if_pos rfl,if_pos hi,aa0 hi];have e2:ql Q i=Q[i]:=by unfold ql;rw[aaZ,aa0 hi];rfl
  rw[H6 (O.nd i) h,e2];rfl
 rw[if_neg e];cases hq:Q[j]? with
 |none=>rfl
 |some l=>
  have e2:ql Q j=l:=by unfold ql;rw[aaZ,hq];rfl
  have:p∉l:=λg=>e (Ef O hm (by rw[e2];exact g));rw[Option.map_some,List.erase_of_not_mem this]
def Mo.shr (M:Mo):Prop:=M.mg=0/\16<M.nb/\8*(M.n-1)<M.nb
instance (M:Mo):Decidable M.shr:=by unfold Mo.shr;infer_instance
def Mo.bY (M:Mo)(p:Nat):Mo:=
 {M with C:=M.C.bh p,Q:=ik M.Q p,x:=M.x.left M.Q p,n:=M.n-1,nb:=if M.shr then M.nb/2 else M.nb,mg:=if M.shr then M.nb else M.mg,v:={M.v with fE:=M.v.fE-(M.it p).sz}}
theorem bM.st0{B:Bx}{M:Mo}(O:bM B M):M.mg=0↔B.W.st=0:=by
 have:=O.st;rw[O.mg];rcases O.t.st with⟨h,_⟩|⟨h,_,_⟩
 ·rw[h,if_neg (by omega)]
 rw[if_pos h,h];have:=this h;omega
theorem bM.bY{B:Bx}{M:Mo}(O:bM B M){p i k:Nat}(hp:p∈B.W.all)(hk:(ql M.Q i)[k]?=some p){D:Cs}{V:Tb}{ty:pW}{A:By}(hy:ty.ok=none->V.ob= [])(Ay:B.W.all.Perm (p::V.all))(hA:ajm B.C p D V (M.Q.set i ((ql M.Q i).eraseIdx k)) (M.x.left M.Q p))(TK:Ih B.C B.W p A V):
  bM ⟨D,V,ty,fi B.E (B.C.hd p)⟩ (M.bY p):=by
 have L:=O.tH hp;have K:=O.k;have hq:=C5 O.o hk;rw[hq]at hA;have nd:=abg.1 (Ay.nodup_iff.1 O.t.nd);have au:∀q,q∈V.all↔q∈B.W.all/\q≠p:=λq=>by
  rw[Ay.mem_iff,abh];exact⟨λh=>⟨.inr h,λe=>nd.1 (e▸h)⟩,λh=>h.1.resolve_left h.2⟩
 have tM:D.ae=B.C.ae:=by rw[hA.g];rfl
 have iG:∀q,Live D q↔Live B.C q/\q≠p:=λq=>by
  rw[hA.g];exact Iff.trans ⟨λh=>⟨⟨h.i,h.own,h.al,h.k⟩,h.tk⟩,λh=>h.wA _⟩ (nZ K L q)
 have LU:∀q,q∈V.all->D.hd q=B.C.hd q:=λq h=>by
  have h2:=(au q).1 h;rw[hA.g];exact((jK K L).lv q h2.2 (O.tH h2.1)).2.1
 have lG:∀q∈V.all,mM D.A q=M.it q:=λq h=>by
  have h2:=(au q).1 h;rw[<-O.it q h2.1];exact wu K hA.d (O.nm h2.1) (O.t.it q h2.1) λj s=>by omega
 have jg:∀j,(D.pg j).own=(B.C.pg j).own/\(D.pg j).lv=(B.C.pg j).lv/\(D.pg j).cl=(B.C.pg j).cl:=λj=>by rw[hA.g];exact oV K L j
 have h0:=O.st0;have BL:=O.nb;have hn:=O.n;have DR:=O.mg;have hsh:M.shr↔jE B.W:=by unfold Mo.shr jE;rw[h0,BL,hn]
 have h16:=O.t.Qc;refine⟨?_,hA.k,hA.t,hy,hA.o, ?_, ?_,O.ck,λq=> ?_,λq=> ?_,λq h=> ?_,lG, ?_, ?_, ?_, ?_, ?_, ?_, ?_, ?_, ?_,O.wn, ?_, ?_,λq h=>O.lg q ((au q).1 h).1⟩
 ·show D=(M.C.bh p).wA D.A
  conv=>lhs;rw[hA.g,O.c]
  rfl
 ·show dt D.ae.length (ik M.Q p) (M.x.left M.Q p)
  rw[tM];exact hA.x
 ·intro j q LO
  change q∈ql (ik M.Q p) j at LO;rw[iO]at LO;have hqm:=ahS LO;have e:dJ D.A q=dJ B.C.A q:=lJ K hA.d (O.o.lv j q hqm).toAt (by have:=((O.o.lv j q hqm).toAt.br K).2.1;omega) λu h1 h2 s=>by omega
  show dJ D.A q<16;rw[e];exact O.mq j q hqm
 ·show q∈V.all↔∃j,q∈ql (ik M.Q p) j
  rw[au q,O.al q];refine⟨λ⟨⟨j,h1⟩,h2⟩=>⟨j,by rw[iO];exact(ain h2).2 h1⟩,λ⟨j,h1⟩=> ?_⟩;rw[iO]at h1;exact⟨⟨j,ahS h1⟩,λe=>by subst e;exact(List.Nodup.not_mem_erase (O.o.nd j)) h1⟩
 ·show Live D q↔q∈V.all\/M.hole=some q
  rw[iG q,au q,O.lv q];constructor
  ·rintro⟨h|h,ne⟩
   ·exact .inl ⟨h,ne⟩
   exact .inr h
  rintro(⟨h,ne⟩|h)
  ·exact⟨.inl h,ne⟩
  exact⟨.inr h,λe=>O.ho q h (e▸hp)⟩
 ·exact λg=>O.ho q h ((au q).1 g).1
 ·refine(O.rest Ay).trans (abd.of_eq (fY λq h=>⟨rfl,rfl,LU q h⟩).symm)
 ·intro h2
  show V.mv<V.ob.length;by_cases g:jE B.W
  ·obtain⟨_,_,e1,e2⟩:=TK.big g
   rw[e1,e2];omega
  obtain⟨_,e1,e2,e3⟩:=TK.same g;rw[e2,e3];exact O.st (by rw[<-e1];exact h2)
 ·show V.size=if M.shr then M.nb/2 else M.nb
  by_cases g:jE B.W
  ·rw[if_pos (hsh.2 g),(TK.big g).1,BL]
  rw[if_neg λe=>g (hsh.1 e),(TK.same g).1,BL]
 ·show(if M.shr then M.nb else M.mg)=if V.st=2 then V.ob.length-V.mv else 0
  by_cases g:jE B.W
  ·obtain⟨_,e1,e2,e3⟩:=TK.big g
   rw[if_pos (hsh.2 g),if_pos e1,e2,e3,BL];rfl
  obtain⟨_,e1,e2,e3⟩:=TK.same g;rw[if_neg λe=>g (hsh.1 e),e1,e2,e3];exact DR
 ·exact TK.aH.trans O.mo
 ·show M.v.fE-(M.it p).sz=_
  rw[O.bt,my _ Ay,aa7,abp];show _=(V.all.map λp=>(M.it p).sz).sum;omega
 ·show M.m.un.length=D.ae.length
  rw[tM];exact O.un
 ·intro h
  have:=O.on h;obtain⟨e1,e2,e3⟩:=jg M.m.pg;show M.m.pg<D.n/\(D.pg M.m.pg).own=true/\(D.pg M.m.pg).lv=true/\(D.pg M.m.pg).cl=M.m.fr;rw[e1,e2,e3,show D.n=B.C.n by rw[hA.g];rfl];exact this
 ·intro j h
  rw[show(D.pg j).lv=(B.C.pg j).lv from(jg j).2.1]at h;exact O.go j h
 ·show M.v.c=D.cfg
  rw[hA.g];exact O.cf
 show V.n=M.n-1;rw[TK.n,hn]
def Mo.cE (M:Mo)(p:Nat):Nat:=if 0<(M.it p).exp/\(M.it p).exp<=M.k.now then 2 else if(M.it p).tok<=M.k.cut then 3 else 0
theorem bM.adh{B:Bx}{M:Mo}(O:bM B M){p:Nat}(hp:p∈B.W.all):z8 B.C.A M.k p=M.cE p:=by
 obtain⟨f1,f2,f3,f4,f5,f6,f7⟩:=O.jx hp;unfold z8 Mo.cE;rw[f1,f3]
theorem lL:∀(A R:Dz),iM (A++R) A R
 | [],_=> .nil
 |_::A,R=> .cons .here (lL A R)
theorem vJ (z:Ly)(M:Mo)(p:Nat)(hp:M.has p):aK aaY 48 [DC z.s,DE DB (M.C.hd p)] vz [SH z M]
  (λv H=>v= .bool (decide (M.cE p≠0))/\H= [SH z M]):=
 dV λB O=>by
  have dL:=(O.al p).2 hp;have h:=(EX z.s z.y (fm M.v) B.C O.k M.k p (O.ito dL)).fr (H:=eh z B M++ []) (R:=eh z B M) (lL [] _) (λk au=>⟨au.nth 8 rfl,au.nth 0 rfl,au.nth 9 rfl⟩);rw[O.hd,O.adh dL]at h;refine h.out ?_;rintro v H' ⟨H0,⟨rfl,rfl⟩,rfl⟩;exact⟨[SH z M],⟨rfl,rfl⟩,λk s=>aD O (H:= []) k s⟩
theorem IL (z:Ly)(M:Mo)(p:Nat)(hp:M.has p):aK aaY 97 [DC z.s,DE DB (M.C.hd p)] vz [SH z M]
  (λv H=>v=DE DD (M.cE p)/\H= [SH z M]):=
 dV λB O=>by
  have dL:=(O.al p).2 hp;have h:=(A6 z.s z.y (fm M.v) B.C O.k M.k p (O.ito dL)).fr (H:=eh z B M++ []) (R:=eh z B M) (lL [] _) (λk au=>⟨au.nth 8 rfl,au.nth 0 rfl,au.nth 9 rfl⟩);rw[O.hd,O.adh dL]at h;refine h.out ?_;rintro v H' ⟨H0,⟨rfl,rfl⟩,rfl⟩;exact⟨[SH z M],⟨rfl,rfl⟩,λk s=>aD O (H:= []) k s⟩
theorem Uw (z:Ly)(M:Mo)(p:Nat)(hp:M.has p):aK aaY 122 [DC z.s,DE DB (M.C.hd p)] vz [SH z M]
  (λv H=>v= .tuple #[]/\H= [SH z (M.lG p)]):=
 dV λB O=>by
  have dL:=(O.al p).2 hp;obtain⟨i,hi⟩:=hp;have fM:=O.o.st i p hi;have hm:=O.mq i p hi;have z6:=O.ck.n2;have h:=(YY z.s z.hot z.warm z.y (fm M.v) B.C O.k M.k O.ck p (O.ito dL) hm ⟨fM.1,fM.2.1⟩).fr (H:=eh z B M++ []) (R:=(eh z B M).tail) (.cons .here .nil) (λk au=>⟨au.nth 7 rfl,au.nth 9 rfl,au.nth 8 rfl⟩);rw[O.hd]at h;refine h.out ?_;rintro v H' ⟨H0,⟨rfl,rfl⟩,rfl⟩;refine⟨[SH z (M.lG p)],⟨rfl,rfl⟩, ?_⟩;obtain⟨m1,m2⟩:=O.w8 dL;have h1:=mA hm true;have L:=O.tH dL;have u9:dJ (wV B.C.A p true) p=mkSet (dJ B.C.A p) true:=by rw[JC O.k B.C.A L L,if_pos rfl];omega
  have O1:=O.w46 dL (mkSet (dJ B.C.A p) true) h1;have O2:=O1.w46 (p:=p) dL (mkSet (dJ B.C.A p) true % 8+8) (by omega);have O3:=O2.w24 (p:=p) dL M.k.now (by omega);have e:ads B.C.A p M.k.now=wr (wr (wr B.C.A (p+46) 1 (mkSet (dJ B.C.A p) true)) (p+46) 1 (mkSet (dJ B.C.A p) true % 8+8)) (p+24) 8 M.k.now:=rfl;rw[e];have e2:M.lG p=((M.put p {M.it p with fe:=mkSet (dJ B.C.A p) true}).put p {(M.put p {M.it p with fe:=mkSet (dJ B.C.A p) true}).it p with fe:=mkSet (dJ B.C.A p) true % 8+8}).put p {((M.put p {M.it p with fe:=mkSet (dJ B.C.A p) true}).put p {(M.put p {M.it p with fe:=mkSet (dJ B.C.A p) true}).it p with fe:=mkSet (dJ B.C.A p) true % 8+8}).it p with tch:=M.k.now}:=by
   rw[m1];unfold Mo.lG Mo.put
   congr 1
   funext q
   dsimp only;by_cases h:q=p
   ·simp[h]
   simp[h]
  rw[e2];exact λk s=>aD O3 (H:= []) k s
theorem IN (z:Ly)(M:Mo)(p c:Nat)(hc:c<4)(hp:M.has p):aK aaY 127 [DC z.s,DE DB (M.C.hd p),DE DD (c*2:Nat)] vz [SH z M]
  (λv H=>v= .tuple #[]/\H= [SH z (M.marks p c)]):=
 dV λB O=>by
  have dL:=(O.al p).2 hp;obtain⟨i,hi⟩:=hp;have hm:=O.mq i p hi;obtain⟨m1,m2⟩:=O.w8 dL;have h:=(MP z.s z.y (fm M.v) B.C O.k p c hc (O.ito dL) hm).fr (H:=eh z B M++ []) (R:=(eh z B M).tail) (.cons .here .nil) (λk au=>au.nth 7 rfl);rw[O.hd]at h;refine h.out ?_;rintro v H' ⟨H0,⟨rfl,rfl⟩,rfl⟩;refine⟨[SH z (M.marks p c)],⟨rfl,rfl⟩, ?_⟩;have O1:=O.w46 dL (dJ B.C.A p-dJ B.C.A p/2 % 4*2+c*2) (by omega);rw[show M.marks p c=M.put p {M.it p with fe:=dJ B.C.A p-dJ B.C.A p/2 % 4*2+c*2} by rw[m1];rfl];exact λk s=>aD O1 (H:= []) k s
theorem IK (z:Ly)(M:Mo)(p:Nat)(hp:M.has p)(t:Int)(ht:t<9223372036854775808)(wb:M.tn<18446744073709551615):aK aaY 121 [DC z.s,DE DB (M.C.hd p),DE DD t] vz [SH z M]
  (λv H=>v= .tuple #[]/\H= [SH z (M.time p (gR M.k.now t))]):=
 dV λB O=>by
  have dL:=(O.al p).2 hp;have hE:B.E.length<2147483647:=by
   rw[O.e.length_eq];unfold iQ;rw[abo];have h1:=aly (λp=>decide (0<(M.it p).exp)) B.W.all;have h2:=BY O.k O.t;rw[O.t.n]at h2;omega
  have h:=(MO z.s z.y (fm M.v) B.C O.k M.k O.ck p (O.ito dL) B.E M.tn t ht wb hE).fr (H:=eh z B M++ []) (R:= [ag z.y.t 154 (gV z.y.b B.W B.ty),zY B.ty B.W,oe B.ty.ok 149 (aV (aL B.W.ob)),ag z.y.q 182 (iF z.y.b z.qb B.C.ae.length),ag z.qb 333 (M.Q.flatMap (di B.C)),iH z.y.cr z.y.q z.y.wh B.C.ae.length (aZ z.s) (bG z.s) B.C M.x,fC z.s z.y (fm M.v),
   kS z.y.ck M.k,zR z,xM z M.m,kO z.ub M.m,jO M]) (.cons .here (.cons (.t4 (.t2 .here)) .nil)) (λk au=>⟨au.nth 6 rfl,au.nth 7 rfl⟩)
  rw[O.hd]at h;refine h.out ?_;rintro v H' ⟨H0,⟨rfl,rfl⟩,rfl⟩;refine⟨[SH z (M.time p (gR M.k.now t))],⟨rfl,rfl⟩, ?_⟩;have O1:=O.w16 dL (gR M.k.now t) (Dp M.k.now t O.ck.n2 ht);refine λk s=>aD O1 (H:= []) k ?_;rw[<-O.hd]at s
  revert s
  revert k
  show∀k,ai ([Wl z.y.wh (lT B.E (B.C.hd p) (gR M.k.now t) M.tn) (if 0<gR M.k.now t then M.tn+1 else M.tn),Cl z.y.b (B.C.wA (wr B.C.A (p+16) 8 (gR M.k.now t)))]++_) k->ai ([Cl z.y.b (B.C.wA (wr B.C.A (p+16) 8 (gR M.k.now t))),ag z.y.t 154 (gV z.y.b B.W B.ty),zY B.ty B.W,oe B.ty.ok 149 (aV (aL B.W.ob)),ag z.y.q 182 (iF z.y.b z.qb B.C.ae.length),ag z.qb 333 (M.Q.flatMap (di B.C)),iH z.y.cr z.y.q z.y.wh B.C.ae.length (aZ z.s) (bG z.s) B.C M.x,Wl z.y.wh (lT B.E (B.C.hd p) (gR M.k.now t) M.tn) (if 0<gR M.k.now t then M.tn+1 else M.tn),fC z.s z.y (fm M.v),
   kS z.y.ck M.k,zR z,xM z M.m,kO z.ub M.m,jO M]) k
  simp only[pH,cap];exact Eh
theorem bM.btb{B:Bx}{M:Mo}(O:bM B M):M.v.fE<4611686018427387904:=by
 rw[O.bt];have h2:=BY O.k O.t;rw[O.t.n]at h2;have:∀l:F8,(∀p∈l,p∈B.W.all)->(l.map λp=>(M.it p).sz).sum<=l.length*1048576:=λl=>by
  induction l with
  |nil=>intro _;simp
  |cons p l ih=>
   intro h;have hp:=h p aa5;have h1:=O.szp hp;have h3:=(O.t.it p hp).fits;have h4:=((O.nm hp).br O.k).2.2.1;have h5:=O.k.toFix.p1;have:=ih λq hq=>h q (aa6 _ hq);rw[aa7,abp,abu];omega
 have:=this _ λp h=>h;have h3:B.W.all.length*1048576<=1073741824*1048576:=acW _ h2;omega
theorem jW (z:Ly)(M:Mo)(p:Nat)(hp:M.has p):aK aaY 85 [DC z.s,DE DB (M.C.hd p)] vz [SH z M]
  (λv H=>v= .tuple #[]/\H= [SH z (M.bY p)]):=
 dV λB O=>by
  have dL:=(O.al p).2 hp;obtain⟨i,hi⟩:=hp;obtain⟨k,hk⟩:=ahH hi;have tM:=O.szp dL;have G7:kl B.C.A p<=250:=by
   have h1:=(fX (O.lg p dL)).2;rw[<-O.it p dL]at h1;rw[<-show(aO B.C.A p).length=kl B.C.A p from cI _ _ _];exact h1
  have hb:58+kl B.C.A p+vl B.C.A p<=M.v.fE:=by
   rw[tM,O.bt];exact xm (λp=>(M.it p).sz) dL
  have h:=(UB z.s z.qb z.hot z.warm (aZ z.s) (bG z.s) z.y M.v B.C O.k B.W B.ty O.t O.ty M.Q O.o M.x O.x B.E M.tn i k p dL hk G7 hb O.btb).fr (H:=eh z B M++ []) (R:= [kS z.y.ck M.k,zR z,xM z M.m,kO z.ub M.m,jO M]) (lL (Cl z.y.b B.C::np z.y.t z.y.b B.W B.ty++ [DT z B.C.ae.length,ag z.qb 333 (M.Q.flatMap (di B.C)),Xr z B.C.ae.length B.C M.x,Wl z.y.wh B.E M.tn,fC z.s z.y (fm M.v)]) _) (λk au=>au.nth 1 rfl);rw[O.hd]at h;refine h.out ?_;rintro v H' ⟨H0,⟨rfl,D,V,ty,rfl,hy,Ay,hA,A,TK⟩,rfl⟩;refine⟨[SH z (M.bY p)],⟨rfl,rfl⟩, ?_⟩;have O1:=O.bY dL hk hy Ay hA TK;have e1:B.C.ae.length=D.ae.length:=by rw[hA.g];rfl
  rw[C5 O.o hk,tM,<-O.hd,e1];exact λk s=>aD O1 (H:= []) k s
theorem xC:∀{Q:Dy},(∀i,(ql Q i).Nodup)->(∀i j p,p∈ql Q i->p∈ql Q j->i=j)->Q.flatten.Nodup
 | [],_,_=>by simp
 |l::Q,h,g=>by
  have ih:=xC (Q:=Q) (λi=>h (i+1)) (λi j p h1 h2=>by have:=g (i+1) (j+1) p h1 h2;omega);rw[List.flatten_cons,List.nodup_append];refine⟨h 0,ih,λa ha b hb e=> ?_⟩;subst e;obtain⟨m,hm,ham⟩:=ais.1 hb;obtain⟨i,hi,rfl⟩:=acS hm;have:=g 0 (i+1) a ha (by show a∈ql Q i;unfold ql;rw[aaZ,aa0 hi];exact ham);omega
theorem gz{Q:Dy}{p:Nat}:p∈Q.flatten↔∃i,p∈ql Q i:=by
 rw[ais];constructor
 ·rintro⟨l,hl,hp⟩
  obtain⟨i,hi,rfl⟩:=acS hl;exact⟨i,by unfold ql;rw[aaZ,aa0 hi];exact hp⟩
 rintro⟨i,hp⟩;unfold ql at hp;rw[aaZ]at hp;cases h:Q[i]? with
 |none=>rw[h]at hp;cases hp
 |some l=>rw[h]at hp;exact⟨l,aa3 h,hp⟩
theorem bM.perm{B:Bx}{M:Mo}(O:bM B M):B.W.all.Perm M.Q.flatten:=
 (List.perm_ext_iff_of_nodup O.t.nd (xC O.o.nd λi j p h g=>Ef O.o h g)).2 λp=>(O.al p).trans gz.symm
def tP (h:Nat):Nat:=(h % 4294967296-1)*8
theorem aeW{B:Bx}{M:Mo}(O:bM B M){p:Nat}(hp:p∈B.W.all):tP (M.C.hd p)=p:=by
 obtain⟨m1,m2,m3,m4,m5,m6⟩:=bU O.k (O.nm hp);rw[O.hd]at m1;unfold tP;omega
noncomputable def Mo.kW (M:Mo)(now aH:Int):F8:=(qn (iQ M.C M M.Q.flatten) now aH).map tP
theorem agD{B:Bx}{M:Mo}(O:bM B M)(l:F8):iQ B.C M l=iQ M.C M l:=fY λq _=>⟨rfl,rfl,O.hd q⟩
theorem RR{f:Nat->Nat}:∀{l:F8},(l.map f).Nodup->l.Nodup
 | [],_=>ah9
 |a::l,h=>by
  rw[aa7,abg]at h;exact abg.2 ⟨λg=>h.1 (abk.2 ⟨a,g,rfl⟩),RR h.2⟩
theorem aaz{M:Mo}{now aH:Int}{h:Nat}(hh:h∈qn (iQ M.C M M.Q.flatten) now aH):∃p,M.has p/\h=M.C.hd p:=by
 unfold qn at hh;obtain⟨x,hx,rfl⟩:=abk.1 hh;have h1:=(ic _).mem_iff.1 (aio hx);have h2:=(abm.1 h1).1;unfold iQ at h2;obtain⟨p,hp,rfl⟩:=abk.1 h2;exact⟨p,gz.1 (abm.1 hp).1,rfl⟩
theorem acw (C:Cs)(M:Mo)(l:F8):(iQ C M l).map En.h=(l.filter λp=>decide (0<(M.it p).exp)).map C.hd:=by
 unfold iQ;rw[List.map_map];exact ahn λp _=>rfl
theorem ab2{B:Bx}{M:Mo}(O:bM B M):∀{l:F8},l.Nodup->(∀p∈l,M.has p)->(l.map M.C.hd).Nodup
 | [],_,_=>ah9
 |p::l,h,g=>by
  rw[aa7,abg];refine⟨λhc=> ?_,ab2 O (abg.1 h).2 λq hq=>g q (aa6 _ hq)⟩;obtain⟨q,hq,e⟩:=abk.1 hc;rw[<-O.hd,<-O.hd]at e;have:=jm O.k (O.nm ((O.al q).2 (g q (aa6 _ hq)))) (O.nm ((O.al p).2 (g p aa5))) e;exact(abg.1 h).1 (this▸hq)
theorem agK{B:Bx}{M:Mo}(O:bM B M)(now aH:Int):(qn (iQ M.C M M.Q.flatten) now aH).Nodup:=by
 have n1:((iQ M.C M M.Q.flatten).map En.h).Nodup:=by
  rw[acw];exact ab2 O ((xC O.o.nd λi j p h g=>Ef O.o h g).sublist ahs) λp hp=>gz.1 (abm.1 hp).1
 unfold qn;generalize iQ M.C M M.Q.flatten=E at*;have n2:((E.filter λx=>decide ((x.ex:Int)<=now)).map En.h).Nodup:=n1.sublist (ahs.map _);have n3:=((ic (E.filter λx=>decide ((x.ex:Int)<=now))).map En.h).nodup_iff.2 n2;exact n3.sublist ((List.take_sublist _ _).map _)
theorem Tl{B:Bx}{M:Mo}(O:bM B M):∀{l:F8},(∀h∈l,∃p,M.has p/\h=M.C.hd p)->(l.map tP).map M.C.hd=l/\∀p∈l.map tP,M.has p
 | [],_=>⟨rfl,λp h=>by cases h⟩
 |h::l,g=>by
  obtain⟨p,hp,e⟩:=g h aa5;obtain⟨i1,i2⟩:=Tl O (l:=l) λx hx=>g x (aa6 _ hx);have e1:tP h=p:=by rw[e,aeW O ((O.al p).2 hp)]
  rw[aa7,aa7,e1,i1,e];refine⟨rfl,λq hq=> ?_⟩;rcases abh.1 hq with rfl|hq
  ·exact hp
  exact i2 q hq
theorem agJ{B:Bx}{M:Mo}(O:bM B M)(td:(B.E.map En.tu).Nodup)(now aH:Int):qn B.E now aH=qn (iQ M.C M M.Q.flatten) now aH:=by
 have pe:B.E.Perm (iQ M.C M M.Q.flatten):=by rw[<-agD O];exact O.e.trans (jM O.perm)
 generalize iQ M.C M M.Q.flatten=E at*;unfold qn;rw[zk (pe.filter _)];exact((pe.map En.tu).nodup_iff.1 td).sublist (ahs.map _)
theorem bM.due{B:Bx}{M:Mo}(O:bM B M)(td:(B.E.map En.tu).Nodup)(now aH:Int):qn B.E now aH=(M.kW now aH).map M.C.hd/\(∀p∈M.kW now aH,M.has p)/\(M.kW now aH).Nodup:=by
 obtain⟨e1,e2⟩:=Tl O (l:=qn (iQ M.C M M.Q.flatten) now aH) λh hh=>aaz hh;have nh:=agK O now aH;have e3:=agJ O td now aH;unfold Mo.kW;generalize qn (iQ M.C M M.Q.flatten) now aH=L at*;refine⟨e3.trans e1.symm,e2, ?_⟩;rw[<-e1]at nh;exact RR nh
theorem Ux (xe:qD)(z:Ly)(M:Mo)(now aH:Int):aK aaY 75 [DC z.y.wh,DE DD now,DE DD aH] vz [SH z M]
  (λv H=>∃a c,v= .slice a (M.kW now aH).length c/\(∀p∈M.kW now aH,M.has p)/\(M.kW now aH).Nodup/\H= [own a c 104 1 (DK ((M.kW now aH).map M.C.hd)),SH z M]):=
 dV λB O=>λF w _ s=>by
  obtain⟨k,hk,_⟩:=(s.sub λk x=>(fO.out (.t4 (.t3 .here)) k x)).get;obtain⟨y,N,p,W,_⟩:=adI ⟨k,hk,Le.refl _⟩;have td:(B.E.map En.tu).Nodup:=(p.map En.tu).nodup_iff.1 W.td;obtain⟨e1,e2,e3⟩:=O.due td now aH;have h:=((aaX xe z.y.wh B.E M.tn now aH).fr (H:=eh z B M++ []) (R:=eh z B M) (lL [] _) (λk au=>au.nth 7 rfl)) F w trivial s;refine h.mono ?_;rintro e w' ⟨v,H',he,⟨H0,⟨a,c,rfl,rfl⟩,rfl⟩,st⟩;refine⟨_,_,he,⟨a,c,by rw[e1,abo],e2,e3,rfl⟩, ?_⟩;rw[<-e1];exact st.sub λk x=>aJ (λk x=>aD O (H:= []) k (by rw[acT];exact x)) x
theorem bM.cw{B:Bx}{M:Mo}(O:bM B M){y:Cw}(X:dt B.C.ae.length M.Q y):bM B {M with x:=y}:=
 ⟨O.c,O.k,O.t,O.ty,O.o,X,O.mq,O.ck,O.al,O.lv,O.ho,O.it,O.e,O.st,O.nb,O.mg,O.mo,O.bt,O.un,O.on,O.go,O.wn,O.cf,O.n,O.lg⟩
def Mo.fP (M:Mo):Nat:=M.C.ae.length
theorem bM.fP{B:Bx}{M:Mo}(O:bM B M):B.C.ae.length=M.fP:=by rw[O.c];rfl
theorem MN (z:Ly)(M:Mo):aK aaY 77 [DC z.y.cr] vz [SH z M]
  (λv H=>∃r x,v= .bool r/\M.x.find M.fP M.Q=(r,x)/\H= [SH z {M with x:=x}]/\(r=true->∃p,x.nx=some p/\M.has p)):=
 dV λB O=>by
  have h:=(WQ z.y.cr z.y.q z.y.wh z.y.b z.qb (aZ z.s) (bG z.s) B.C O.k M.Q O.o M.x O.x).fr (H:=eh z B M++ []) (R:= [Cl z.y.b B.C,DS z B.W B.ty,zY B.ty B.W,DU B.ty B.W,DT z B.C.ae.length,ag z.qb 333 (M.Q.flatMap (di B.C)),Wl z.y.wh B.E M.tn,fC z.s z.y (fm M.v),
   kS z.y.ck M.k,zR z,xM z M.m,kO z.ub M.m,jO M]) (.cons (.t4 (.t2 .here)) .nil) (λk au=>⟨au.nth 4 rfl,au.nth 5 rfl,trivial⟩)
  refine h.out ?_;rintro v H' ⟨H0,⟨r,x,rfl,rfl,e,X,hr⟩,rfl⟩;rw[O.fP]at e;refine⟨_,⟨r,x,rfl,e,rfl,λh=> ?_⟩, ?_⟩
  ·cases hx:x.nx with
   |none=>exact absurd hx (hr h)
   |some p=>exact⟨p,rfl,_,(X.nx p hx).1⟩
  refine λk s=>aD (O.cw X) (H:= []) k ?_
  revert s
  revert k
  simp only[pH,cap,acT];unfold eh;exact Eh
theorem MM (z:Ly)(M:Mo)(p:Nat)(hp:M.x.nx=some p):aK aaY 78 [DC z.y.cr] vz [SH z M]
  (λv H=>v=DE DB (M.C.hd p)/\H= [SH z {M with x:=M.x.pass M.Q}]):=
 dV λB O=>by
  have h:=(FN z.y.cr z.y.q z.y.wh B.C.ae.length z.y.b z.qb (aZ z.s) (bG z.s) B.C O.k M.Q O.o M.x O.x p hp).fr (H:=eh z B M++ []) (R:= [Cl z.y.b B.C,DS z B.W B.ty,zY B.ty B.W,DU B.ty B.W,DT z B.C.ae.length,ag z.qb 333 (M.Q.flatMap (di B.C)),Wl z.y.wh B.E M.tn,fC z.s z.y (fm M.v),
   kS z.y.ck M.k,zR z,xM z M.m,kO z.ub M.m,jO M]) (.cons (.t4 (.t2 .here)) .nil) (λk au=>⟨au.nth 0 rfl,au.nth 4 rfl,au.nth 5 rfl,trivial⟩)
  rw[O.hd]at h;refine h.out ?_;rintro v H' ⟨H0,⟨rfl,rfl⟩,rfl⟩;refine⟨_,⟨rfl,rfl⟩,λk s=>aD (O.cw O.x.pass) (H:= []) k ?_⟩
  revert s
  revert k
  simp only[pH,cap,acT];unfold eh;exact Eh
theorem cN{n:Nat}{ds:Dx}{F:dM}{K:F7}{σ:aT}{z:Ly}{M:Mo}{H:Dz}(h:∀B,bM B M->G n ds F K σ (eh z B M++H)):G n ds F K σ (SH z M::H):=
 aja λB=>HE λO=>mQ (h B O)
theorem Ep{n:Nat}{ds:Dx}{F:dM}{K:F7}{σ:aT}{z:Ly}{B:Bx}{M:Mo}{H:Dz}(O:bM B M)(h:G n ds F K σ (SH z M::H)):G n ds F K σ (eh z B M++H):=
 ay (aD O) h
def Mo.look (M:Mo)(p:Nat):Mo:=if M.cE p≠0 then M.bY p else M
theorem Ff (b6 lb l:Nat)(hl:l<4611686018427387904):FnD aaY 117 [DC b6] vz [ag b6 140 [DC lb],ag lb 3 [DE DD l]]
  (λv H=>v= .tuple #[]/\H= [ag lb 3 [DE DD (l+1:Nat)]]):=by
 refine Nu (Aq (n:=117)) func117 rfl ntmps117 rfl ?_;intro F _;refine bL ?_;refine aB ?_;refine j5 [ag lb 3 [DE DD (l+1:Nat)]] results117 ?_;exact⟨rfl,rfl⟩
theorem KB (z:Ly)(M:Mo)(p:Nat)(hp:M.has p)(lb tb l t:Nat)(hl:l<4611686018427387904)(ht:t<4611686018427387904):
  aK aaY 76 [DC z.y.cr,DE DB (M.C.hd p),DC lb,DC tb] vz [SH z M,ag lb 3 [DE DD l],ag tb 3 [DE DD t]]
   (λv H=>v= .tuple #[]/\∃t':Nat,t'<=t+1/\H= [SH z (M.look p),ag lb 3 [DE DD (l+1:Nat)],ag tb 3 [DE DD t']]):=by
 have dead:=vJ z M p hp;have bY:=jW z M p hp;refine VF func76 rfl ntmps76 rfl ?_;intro F _;refine aw ?_;refine Lp (oB λb1=> ?_);refine bn ?_;refine Li Mf ?_;refine Lp (oDv ?_);refine aw ?_;refine Hh (H':= [SH z M,ag b1 140 [DC lb],ag lb 3 [DE DD l],ag tb 3 [DE DD t]]) ?_;refine cN λB O=> ?_;unfold eh iH qj;simp only[pH,cap];refine ba ?_;refine Ep (z:=z) (B:=B) (M:=M) (H:= [ag b1 140 [DC lb],ag lb 3 [DE DD l],ag tb 3 [DE DD t]]) O ?_;refine aw ?_;refine Lp (oCV (Aq (n:=48)) rfl rfl rfl dead (.cons .here .nil) (λ_ le _=>trivial) λv H' hr=> ?_);obtain⟨rfl,rfl⟩:=hr;simp only[pH,cap];refine aw ?_;refine aA rfl ?_ ?_
 ·intro pU
  replace pU:=aG pU;have hlk:M.look p=M.bY p:=by unfold Mo.look;rw[if_pos (by simpa using pU)]
  refine cN λB O=> ?_;unfold eh iH qj;simp only[pH,cap];refine ba ?_;refine Ep (z:=z) (B:=B) (M:=M) (H:= [ag b1 140 [DC lb],ag lb 3 [DE DD l],ag tb 3 [DE DD t]]) O ?_;refine aw ?_;refine Lp (oCV (Aq (n:=85)) rfl rfl rfl bY (.cons .here .nil) (λ_ le _=>trivial) λv H' hr=> ?_);obtain⟨rfl,rfl⟩:=hr;simp only[pH,cap];refine cY ?_;refine aB ?_;refine ajj [SH z (M.look p),ag lb 3 [DE DD (l+1:Nat)],ag tb 3 [DE DD (t+1:Nat)]] results76 (Ff b1 lb l hl) (.cons (.there .here) (.cons (.there .here) .nil)) DA ?_;rintro v H' ⟨rfl,rfl⟩;refine⟨⟨rfl,t+1,abc _,rfl⟩, ?_⟩;rw[hlk];exact Eh
 intro pU;replace pU:=aG pU;have hlk:M.look p=M:=by unfold Mo.look;rw[if_neg (by simpa using pU)]
 refine aw ?_;refine ajj [SH z (M.look p),ag lb 3 [DE DD (l+1:Nat)],ag tb 3 [DE DD t]] results76 (Ff b1 lb l hl) (.cons (.there .here) (.cons (.there .here) .nil)) DA ?_;rintro v H' ⟨rfl,rfl⟩;refine⟨⟨rfl,t,by omega,rfl⟩, ?_⟩;rw[hlk];exact Eh
theorem Ra{n:Nat}{ds:Dx}{F:dM}{K:F7}{σ:aT}{z:Ly}{M:Mo}{H:Dz}(h:∀B,bM B M->G n ds F K σ (SH z M::H)):G n ds F K σ (SH z M::H):=
 cN λB O=>Ep O (h B O)
theorem PQ{B:Bx}{M:Mo}(O:bM B M){p q:Nat}(hp:M.has p)(hq:M.has q)(ne:q≠p):(M.bY p).has q/\(M.bY p).C.hd q=M.C.hd q:=by
 obtain⟨i,hi⟩:=hq;refine⟨⟨i, ?_⟩, ?_⟩
 ·show q∈ql (ik M.Q p) i
  rw[iO];exact(ain ne).2 hi
 have h:=((jK O.k (O.tH ((O.al p).2 hp))).lv q ne (O.tH ((O.al q).2 ⟨i,hi⟩))).2.1;rw[O.hd]at h;rw[<-h];show(M.C.bh p).hd q=(B.C.bh p).hd q;rw[O.c];rfl
theorem Nh{B:Bx}{M:Mo}(O:bM B M){p q:Nat}(hp:M.has p)(hq:M.has q)(ne:q≠p):(M.look p).has q/\(M.look p).C.hd q=M.C.hd q:=by
 unfold Mo.look;split
 ·exact PQ O hp hq ne
 exact⟨hq,rfl⟩
def Mo.cA:Nat->Mo->Nat×Mo
 |0,M=>(0,M)
 |f+1,M=>match M.x.find M.fP M.Q with
  |(true,x)=>(match x.nx with
   |some p=>(((({M with x:=x.pass M.Q}:Mo).look p).cA f).1+1,((({M with x:=x.pass M.Q}:Mo).look p).cA f).2)
   |none=>(0,{M with x:=x}))
  |(false,x)=>(0,{M with x:=x})
theorem rI{M:Mo}{f:Nat}{x:Cw}(h:M.x.find M.fP M.Q=(false,x)):M.cA (f+1)=(0,{M with x:=x}):=by
 unfold Mo.cA;rw[h]
theorem rH{M:Mo}{f p:Nat}{x:Cw}(h:M.x.find M.fP M.Q=(true,x))(hp:x.nx=some p):M.cA (f+1)=(((({M with x:=x.pass M.Q}:Mo).look p).cA f).1+1,((({M with x:=x.pass M.Q}:Mo).look p).cA f).2):=by
 conv=>lhs;unfold Mo.cA
 rw[h];dsimp only;rw[hp]
noncomputable def Mo.s8 (M:Mo)(now m:Int):Nat×Mo:=((M.kW now m).length+(((M.kW now m).foldl Mo.look M).cA (m.toNat-(M.kW now m).length)).1,(((M.kW now m).foldl Mo.look M).cA (m.toNat-(M.kW now m).length)).2)
noncomputable def Mo.cV (M:Mo)(now aH:Int):Nat×Mo:=if min aH 1048576<1 then(0,M)else M.s8 now (min aH 1048576)
theorem WD (M:Mo)(now m:Int):(M.kW now m).length<=m.toNat:=by
 unfold Mo.kW qn;rw[abo,abo,List.length_take];omega
theorem afn (l:F8)(k:Nat)(h:k<l.length):(DK l)[k]?=some (DE DB (l[k])):=by
 unfold DK;rw[abf,aa0 h];rfl
theorem aae (l:F8):(DK l).length=l.length:=abo _
theorem FM (xe:qD)(z:Ly)(M:Mo)(now aH:Int):
  aK aaY 37 [DC z.y.cr,DE DD now,DE DD aH] vz [SH z M]
   (λv H=>∃n t M',M.cV now aH=(n,M')/\v= .tuple #[DE DD n,DE DD t]/\H= [SH z M']):=by
 have due:=Ux xe z M now (min aH 1048576);have GB:=WD M now (min aH 1048576);have GU:M.cV now aH=if min aH 1048576<1 then(0,M)else M.s8 now (min aH 1048576):=rfl
 have hmle:min aH 1048576<=1048576:=alZ _ _;refine af func37 rfl ntmps37 rfl ?_;intro F _;refine aw ?_;refine Lp (oA adg λb1=> ?_);refine Lp (oA adg λb2=> ?_);refine bj ?_;refine Li Mi ?_;refine bn ?_;refine av ?_;refine az (t:=2) (v':=(DE DD (min aH 1048576))) rfl (by rfl) ?_;generalize min aH 1048576=m at*;refine aY ?_;by_cases h1:m<1
 ·refine eJ ?_ (e:=by exact decide_eq_true h1)
  refine bA ?_;refine adJ [SH z M] bz bz results37 ?_;exact⟨0,0,M,by rw[GU,if_pos h1],rfl,rfl⟩
 rw[if_neg h1]at GU;refine cM ?_ (e:=by exact decide_eq_false h1);refine bn ?_;refine av ?_;refine Hh (H':= [SH z M,ag b1 3 [DE DD 0],ag b2 3 [DE DD 0]]) ?_;refine cN λB O=> ?_;unfold eh iH qj;simp only[pH,cap];refine ba ?_;refine Ep (z:=z) (B:=B) (M:=M) (H:= [ag b1 3 [DE DD 0],ag b2 3 [DE DD 0]]) O ?_;refine bn ?_;refine Lp (oC Aq rfl rfl (due) (.cons .here .nil) DA ?_);rintro v H' ⟨sa,sc,rfl,hhas,zQ,rfl⟩;refine bS ?_;unfold Mo.s8 at GU;generalize M.kW now m=D at*;have xg:(DK (D.map M.C.hd)).length=D.length:=by rw[aae,abo]
 have Yg:m.toNat<=1048576:=by omega
 refine aY ?_;refine Lo (ι:=Nat×Nat) (FZ [9,1,22,8]) (λs=>(s.1<=D.length/\s.2<=s.1)/\∀q∈D.drop s.1,((D.take s.1).foldl Mo.look M).has q/\((D.take s.1).foldl Mo.look M).C.hd q=M.C.hd q) (λs=> [(22,DE DD s.1)]) (λs=> [SH z ((D.take s.1).foldl Mo.look M),own sa sc 104 1 (DK (D.map M.C.hd)),ag b1 3 [DE DD s.1],ag b2 3 [DE DD s.2]]) (λs=>D.length-s.1) ((0,0)) ⟨⟨abn _,abc _⟩,λq hq=>⟨hhas q hq,rfl⟩⟩ ?_;rintro⟨k,t⟩ hI
 try dsimp only at hI⊢
 obtain⟨⟨hk,Ax⟩,Q5⟩:=hI;by_cases ct:k<D.length
 ·have uX:(DK (D.map M.C.hd))[k]?=some (DE DB (M.C.hd D[k])):=by rw[afn _ _ (by rw[abo];exact ct),List.getElem_map]
  have hdr:D.drop k=D[k]::D.drop (k+1):=List.drop_eq_getElem_cons ct;rw[hdr]at Q5;obtain⟨u7,dL⟩:=Q5 _ aa5;have abY:(D.take (k+1)).foldl Mo.look M=((D.take k).foldl Mo.look M).look D[k]:=by
   rw[List.take_add_one,aa0 ct,List.foldl_append];rfl
  have hnd2:∀q∈D.drop (k+1),q≠D[k]:=λq hq e=>by
   have:=zQ.sublist (List.drop_sublist k D);rw[hdr,abg]at this;exact this.1 (e▸hq)
  have lk:=λlb tb=>KB z ((D.take k).foldl Mo.look M) D[k] u7 lb tb k t (by omega) (by omega);rw[dL]at lk;refine Ra λB2 O2=> ?_;refine mZ (iU (.there .here) (λ_ o=>nK o (by omega))) λP3=> ?_;refine bj ?_;refine av ?_;refine eJ ?_;refine ba ?_;refine Li (Ix RD) ?_;refine bA ?_;refine Lp (oC Aq rfl rfl (lk _ _) (.cons .here (.cons (.there .here) (.cons (.there .here) .nil))) DA ?_);rintro v H' ⟨rfl,t2,qg,rfl⟩;refine bS ?_;refine Hh (H':= [SH z (((D.take k).foldl Mo.look M).look D[k]),own sa sc 104 1 (DK (D.map M.C.hd)),ag b1 3 [DE DD (k+1:Nat)],ag b2 3 [DE DD t2]]) ?_;refine bA ?_;refine aB ?_;rw[<-abY];refine Ro ((k+1,t2)) (⟨⟨ct,(by dsimp only;omega)⟩,λq hq=>(by have ne:=hnd2 q hq;obtain⟨g1,g2⟩:=Q5 q (aa6 _ hq);obtain⟨g3,g4⟩:=Nh O2 u7 g1 ne;rw[abY];exact⟨g3,g4.trans g2⟩)⟩) ((by dsimp only;omega))
 obtain rfl:k=D.length:=by omega
 rw[List.take_length];refine bj ?_;refine av ?_;refine cM ?_;refine bL ?_;generalize hN0:D.foldl Mo.look M=N0 at*;refine Lo (ι:=Mo×Nat×Nat) (FZ [30,11]) (λs=>(D.length<=s.2.1/\s.2.1<=m.toNat/\s.2.2<=s.2.1)/\N0.cA (m.toNat-D.length)=(s.2.1-D.length+(s.1.cA (m.toNat-s.2.1)).1,(s.1.cA (m.toNat-s.2.1)).2)) (λs=> []) (λs=> [SH z s.1,ag b1 3 [DE DD s.2.1],ag b2 3 [DE DD s.2.2]]) (λs=>m.toNat-s.2.1) ((N0,D.length,t)) ⟨⟨abc _,GB,Ax⟩,(by dsimp only;rw[Nat.sub_self,abj])⟩ ?_;rintro⟨N,l,t⟩ hI
 try dsimp only at hI⊢
 obtain⟨⟨i1,i2,i3⟩,i4⟩:=hI;refine bA ?_;by_cases hlm:(l:Int)<m
 ·obtain⟨f,hf⟩:∃f,m.toNat-l=f+1:=⟨m.toNat-l-1,by omega⟩
  rw[hf]at i4;refine zt 33 ?_ (e:=by exact decide_eq_true hlm);refine aw ?_;refine Lp (oC Aq rfl rfl (MN z N) (.cons .here .nil) DA ?_);rintro v H' ⟨r,x,rfl,abZ,rfl,hr⟩;refine bS ?_;rcases r with _|_
  ·refine Li Pt ?_
   refine fu ?_;refine adJ [SH z {N with x:=x}] bz bz results37 ?_;refine⟨l,t,{N with x:=x}, ?_,rfl,rfl⟩;rw[GU,i4,rI abZ];exact Prod.ext (by dsimp only;omega) rfl
  obtain⟨p,hpx,hph⟩:=hr rfl;rw[rH abZ hpx]at i4;dsimp only at i4;refine cu ?_;refine zl Aq (MM z {N with x:=x} p hpx) (.cons .here .nil) DA ?_;have lk:=λlb tb=>KB z {N with x:=x.pass N.Q} p hph lb tb l t (by omega) (by omega);refine Lp (oC Aq rfl rfl (lk _ _) (.cons .here (.cons .here (.cons .here .nil))) DA ?_);rintro v H' ⟨rfl,t2,qg,rfl⟩;refine bS ?_;refine bn ?_;refine Ro ((({N with x:=x.pass N.Q}:Mo).look p,l+1,t2)) (⟨⟨(by dsimp only;omega),(by dsimp only;omega),(by dsimp only;omega)⟩,(by dsimp only;rw[i4,show m.toNat-(l+1)=f by omega];exact Prod.ext (by dsimp only;omega) rfl)⟩) ((by dsimp only;omega))
 have ai3:m.toNat-l=0:=by omega
 rw[ai3]at i4;refine zf 33 ?_ (e:=by exact decide_eq_false hlm);refine rS ?_;refine adJ [SH z N] bz bz results37 ?_;refine⟨l,t,N, ?_,rfl,rfl⟩;rw[GU,i4];exact Prod.ext (by show D.length+(l-D.length+0)=l;omega) rfl
theorem bM.cls{B:Bx}{M:Mo}(O:bM B M){D N:Cs}{ho':FW}{m':iA}(K2:Ok D)(hN:D=N.wA B.C.A)(S:wi B.C D (λq=>q∈B.W.all))(PZ:D.cfg=B.C.cfg)(lv:∀q,Live D q↔q∈B.W.all\/ho'=some q)(hoo:∀q,ho'=some q->q∉B.W.all)
  (un:m'.un.length=D.ae.length) (on:m'.on=true->m'.pg<D.n/\(D.pg m'.pg).own=true/\(D.pg m'.pg).lv=true/\(D.pg m'.pg).cl=m'.fr) (go:∀i,(D.pg i).lv=true->m'.on=true/\i=m'.pg):
  bM ⟨D,B.W,B.ty,B.E⟩ {M with C:=N,hole:=ho',m:=m'}:=by
 have hA:D.A=B.C.A:=S.a;have hs:D.ae.length=B.C.ae.length:=by rw[S.sz]
 refine⟨?_,K2,S.tb O.t λp h=>h,O.ty,S.qu O.o λi p h=>O.ot h,by show dt D.ae.length _ _;rw[hs];exact O.x,λi p h=>by show dJ D.A p<16;rw[hA];exact O.mq i p h,O.ck,O.al,lv,hoo,λp h=>by show mM D.A p=_;rw[hA];exact O.it p h, ?_,O.st,O.nb,O.mg,O.mo,O.bt,un,on,go,O.wn,by show M.v.c=D.cfg;rw[PZ];exact O.cf,O.n,O.lg⟩
 ·show D=N.wA D.A
  rw[hA];exact hN
 exact O.e.trans (abd.of_eq (fY λq h=>⟨rfl,rfl,(S.lv q h (O.tH h)).2.1⟩).symm)
theorem bM.tJ{B:Bx}{M:Mo}(O:bM B M){r:Nat}(hr:M.hole=some r){A:By}(d:dm B.C B.C.A A (λq _=>q=r)):bM ⟨B.C.wA A,B.W,B.ty,B.E⟩ M:=by
 have K:=O.k;have ne:∀q∈B.W.all,q≠r:=λq h e=>O.ho r hr (e▸h);have r_:=λ(q:Nat) (hq:q∈B.W.all) (o w:Nat) (h2:o+w<=B.C.sz (B.C.cl q))=>lJ K d (O.nm hq) h2 (λj _ _ s=>ne q hq s);have n1:∀q∈B.W.all,64<=B.C.sz (B.C.cl q):=λq hq=>((O.nm hq).br K).2.1;have it_:∀q∈B.W.all,mM A q=mM B.C.A q:=λq hq=>wu K d (O.nm hq) (O.t.it q hq) (λj s=>absurd s (ne q hq));have kp:∀q∈B.W.all,Kept B.C A q:=λq hq=>tg K d (O.nm hq) (O.t.it q hq) (λj s=>absurd s (ne q hq));refine⟨?_,K.wA A,aiK K O.t kp (λq hq=>r_ q hq 0 4 (by have:=n1 q hq;omega)),O.ty, ?_,O.x, ?_,O.ck,O.al,λq=> ?_,O.ho,λq hq=>(it_ q hq).trans (O.it q hq),O.e,O.st,O.nb,O.mg,O.mo,O.bt,O.un,O.on,O.go,O.wn,O.cf,O.n,O.lg⟩
 ·show B.C.wA A=M.C.wA A
  conv=>lhs;rw[O.c]
  rfl
 ·exact aiL O.o (λi q hq=>kp q (O.ot hq)) (λi q hq=>r_ q (O.ot hq) 45 1 (by have:=n1 q (O.ot hq);omega)) (λi q hq=>r_ q (O.ot hq) (4*1) 4 (by have:=n1 q (O.ot hq);omega)) (λi q hq=>r_ q (O.ot hq) (4*2) 4 (by have:=n1 q (O.ot hq);omega))
 ·intro i q hq
  show dJ A q<16;rw[show dJ A q=dJ B.C.A q from congrArg I3.fe (it_ q (O.ot hq))];exact O.mq i q hq
 refine Iff.trans ?_ (O.lv q);exact⟨λh=>⟨⟨h.i,h.own,h.al,h.k⟩,h.tk⟩,λh=>h.wA A⟩
structure Tkn (C:Cs)(c p:Nat)(D:Cs):Prop where
 k:Ok D
 no:¬Live C p
 lv:∀q,Live D q↔Live C q\/q=p
 hd:∀q,Live C q->D.hd q=C.hd q/\D.cl q=C.cl q
 cl:D.cl p=c
 sz:D.ae=C.ae
 n:D.n=C.n
 ps:D.aj=C.aj
 cf:D.cfg=C.cfg
 lf:∀i,(D.pg i).lv=(C.pg i).lv
 pg:∀i,(C.pg i).own=true->(D.pg i).own=true/\(D.pg i).cl=(C.pg i).cl
 dA:dm D C.A D.A (λq _=>q=p)
 nA:∀A,∃A',(C.wA A).dD c=some (p,D.wA A')
theorem Uk{C:Cs}(K:Ok C){c p:Nat}(h:(C.rw c).free.getLast?=some p)(j:Nat):(C.iS c p).pg j=if j=C.pn p then{C.pg (C.pn p)with tk:=(C.pg (C.pn p)).tk.set (C.ix p) true,held:=(C.pg (C.pn p)).held+1}else C.pg j:=by
 obtain⟨_,_,F⟩:=yE K h;exact mX (by rw[K.pl];exact F.i) j
theorem abB{C:Cs}(K:Ok C){c p:Nat}(h:(C.rw c).free.getLast?=some p):Tkn C c p (C.iS c p):=by
 obtain⟨K2,S,F⟩:=yE K h;have jg:=Uk K h;have e1:∀q,C.pn q=C.pn p->(C.iS c p).pg (C.pn q)={C.pg (C.pn p)with tk:=(C.pg (C.pn p)).tk.set (C.ix p) true,held:=(C.pg (C.pn p)).held+1}:=λq e=>by rw[jg,if_pos e]
 have e2:∀q,C.pn q≠C.pn p->(C.iS c p).pg (C.pn q)=C.pg (C.pn q):=λq e=>by rw[jg,if_neg e]
 have lP:¬Live C p:=λL=>by
  have a:=F.tk;have b:=L.tk;rw[a]at b;cases b
 have ct:=(aa1.1 F.tk).1;have f1:=K.toFix.p1;refine⟨K2,lP,λq=> ?_,λq L=> ?_,by rw[S.cl];exact F.cl,S.ae,S.n,S.aj,rfl,λi=> ?_,λi ho=> ?_, ?_,λA=> ?_⟩
 ·constructor
  ·intro L
   have a:=S.at.1 L.toAt;have t:=L.tk;rw[S.pn,S.ix]at t;by_cases e:C.pn q=C.pn p
   ·by_cases g:q=p
    ·exact .inr g
    rw[e1 q e]at t;change((C.pg (C.pn p)).tk.set (C.ix p) true)[C.ix q]?=some true at t;rw[acX (λz=>ye K F.toAt a e g z.symm),<-e]at t;exact .inl ⟨a,t⟩
   rw[e2 q e]at t;exact .inl ⟨a,t⟩
  rintro(L|rfl)
  ·refine⟨S.at.2 L.toAt, ?_⟩
   rw[S.pn,S.ix];by_cases e:C.pn q=C.pn p
   ·have g:q≠p:=λg=>lP (g▸L)
    rw[e1 q e];show((C.pg (C.pn p)).tk.set (C.ix p) true)[C.ix q]?=some true;rw[acX (λz=>ye K F.toAt L.toAt e g z.symm),<-e];exact L.tk
   rw[e2 q e];exact L.tk
  refine⟨S.at.2 F.toAt, ?_⟩;rw[S.pn,S.ix,e1 q rfl];show((C.pg (C.pn q)).tk.set (C.ix q) true)[C.ix q]?=some true;rw[List.getElem?_set_self ct]
 ·refine⟨?_,S.cl q⟩
  unfold Cs.hd Cs.gen;rw[S.pn,S.ix];by_cases e:C.pn q=C.pn p
  ·rw[e1 q e,e]
  rw[e2 q e]
 ·rw[jg]
  by_cases e:i=C.pn p
  ·rw[if_pos e,e]
  rw[if_neg e]
 ·rw[jg]
  by_cases e:i=C.pn p
  ·rw[if_pos e,e];rw[e]at ho;exact⟨ho,rfl⟩
  rw[if_neg e];exact⟨ho,rfl⟩
 ·intro i hi
  have hr:p<=i/\i<p+56:=by
   refine aba λg=>hi ?_;show wr (lay C.A p (aa2 56 0)) (p+12) 4 (C.gen p) i=C.A i;unfold wr;rw[gO _ _ _ _ (by rw[ng];omega),gO _ _ _ _ (by rw[List.length_replicate];omega)]
  have:=((S.at.2 F.toAt).br K2).2.1;exact⟨p,i-p,S.at.2 F.toAt,by omega,rfl,by omega⟩
 refine⟨((C.wA A).iS c p).A, ?_⟩;have:(C.wA A).dD c=some (p,(C.wA A).iS c p):=by
  unfold Cs.dD;rw[show((C.wA A).rw c).free.getLast?=some p from h]
 rw[this];rfl
theorem T0{C:Cs}(K:Ok C){i c:Nat}(hi:i<C.n)(j:Nat):(C.cz i c).pg j=if j=i then C.fR i c else C.pg j:=mX (by rw[K.pl];exact hi) j
theorem ajE{C:Cs}(K:Ok C){i c p:Nat}(hi:i<C.n)(ig:c<C.ae.length)(ho:(C.pg i).own=false)(hf:C.gD=some i)(he:(C.rw c).free.getLast?=none)(h:((C.cz i c).rw c).free.getLast?=some p):Tkn C c p ((C.cz i c).iS c p):=by
 have KW:=AR K hi ig ho;have jg:=T0 K (c:=c) hi;have X:=abB KW h;have P:lI C (C.pg i):=K.pg _ (eA (by rw[K.pl];exact hi));have iG:(C.pg i).lv=false:=(P.no ho).2.1;have Ad:∀q,At C q->C.pn q≠i:=λq L e=>by
  have:=L.own;rw[e,ho]at this;cases this
 have same:∀q,C.pn q≠i->(C.cz i c).pg ((C.cz i c).pn q)=C.pg (C.pn q):=λq e=>by
  rw[show(C.cz i c).pn q=C.pn q from rfl,jg,if_neg e]
 have Jo:∀q,C.pn q≠i->(C.cz i c).cl q=C.cl q:=λq e=>by unfold Cs.cl;rw[same q e]
 have Gw:∀q,C.pn q≠i->(C.cz i c).ix q=C.ix q:=λq e=>by unfold Cs.ix;rw[Jo q e];rfl
 have wl:∀q,Live (C.cz i c) q↔Live C q:=λq=>by
  constructor
  ·intro L
   have e:C.pn q≠i:=λe=>by
    have t:=L.tk;rw[show(C.cz i c).pn q=C.pn q from rfl,jg,if_pos e]at t;change(aa2 (C.aj/C.sz c) false)[(C.cz i c).ix q]?=some true at t;obtain⟨hh,t2⟩:=aa1.1 t;rw[List.getElem_replicate]at t2;cases t2
   refine⟨⟨L.i,by have:=L.own;rw[same q e]at this;exact this,by have:=L.al;rw[Jo q e]at this;exact this,by have:=L.k;rw[same q e,Gw q e]at this;exact this⟩,by have:=L.tk;rw[same q e,Gw q e]at this;exact this⟩
  intro L;have e:=Ad q L.toAt;exact⟨⟨L.i,by rw[same q e];exact L.own,by rw[Jo q e];exact L.al,by rw[same q e,Gw q e];exact L.k⟩,by rw[same q e,Gw q e];exact L.tk⟩
 refine⟨X.k,λL=>X.no ((wl p).2 L),λq=>by rw[X.lv,wl],λq L=> ?_,X.cl,X.sz,X.n,X.ps,X.cf,λj=> ?_,λj hj=> ?_,X.dA,λA=> ?_⟩
 ·have e:=Ad q L.toAt
  obtain⟨a,b⟩:=X.hd q ((wl q).2 L);rw[a,b,Jo q e];refine⟨?_,rfl⟩;unfold Cs.hd Cs.gen;rw[same q e,Gw q e]
 ·rw[X.lf,jg]
  by_cases e:j=i
  ·rw[if_pos e,e];rfl
  rw[if_neg e]
 ·have e:j≠i:=λe=>by rw[e,ho]at hj;cases hj
  obtain⟨a,b⟩:=X.pg j (by rw[jg,if_neg e];exact hj);rw[a,b,jg,if_neg e];exact⟨rfl,rfl⟩
 refine⟨(((C.wA A).cz i c).iS c p).A, ?_⟩;have:(C.wA A).dD c=some (p,((C.wA A).cz i c).iS c p):=by
  unfold Cs.dD;rw[show((C.wA A).rw c).free.getLast?=none from he];dsimp only;rw[show(C.wA A).gD=some i from hf];dsimp only;rw[show(((C.wA A).cz i c).rw c).free.getLast?=some p from h]
 rw[this];rfl
theorem Gk{C:Cs}{i:Nat}(K:Ok C)(h:C.gD=some i):i<C.n/\(C.pg i).own=false:=by
 unfold Cs.gD at h;rw[abl]at h;obtain⟨h1,h2,_⟩:=h;refine⟨by rw[<-K.pl];exact h1, ?_⟩;have e:C.pg i=C.bQ[i]:=by unfold Cs.pg;rw[aaZ,aa0 h1];rfl
 rw[e];simpa using h2
theorem vF{C:Cs}(K:Ok C){c p:Nat}{D:Cs}(ig:c<C.ae.length)(h:C.dD c=some (p,D)):Tkn C c p D:=by
 unfold Cs.dD at h;cases hf:(C.rw c).free.getLast? with
 |some q=>
  rw[hf]at h;cases h;exact abB K hf
 |none=>
  rw[hf]at h;dsimp only at h;cases hp:C.gD with
  |none=>rw[hp]at h;cases h
  |some i=>
   rw[hp]at h;dsimp only at h;obtain⟨h1,h2⟩:=Gk K hp;cases hg:((C.cz i c).rw c).free.getLast? with
   |none=>rw[hg]at h;cases h
   |some q=>
    rw[hg]at h;cases h;exact ajE K h1 ig h2 hp hf hg
theorem Ul{C:Cs}(A:By){c:Nat}(h:C.dD c=none):(C.wA A).dD c=none:=by
 unfold Cs.dD at*;rw[show((C.wA A).rw c).free.getLast?=(C.rw c).free.getLast? from rfl];cases hf:(C.rw c).free.getLast? with
 |some q=>rw[hf]at h;cases h
 |none=>
  rw[hf]at h
  try dsimp only at h⊢
  rw[show(C.wA A).gD=C.gD from rfl];cases hp:C.gD with
  |none=>rfl
  |some i=>
   rw[hp]at h
   try dsimp only at h⊢
   rw[show(((C.wA A).cz i c).rw c).free.getLast?=((C.cz i c).rw c).free.getLast? from rfl];cases hg:((C.cz i c).rw c).free.getLast? with
   |none=>rfl
   |some q=>rw[hg]at h;cases h
def Mo.take (M:Mo)(c:Nat):Option (Nat×Mo):=match M.C.dD c with
 |some (p,D)=>some (p,{M with C:=D,hole:=some p})
 |none=>none
theorem bM.take{B:Bx}{M:Mo}(O:bM B M)(hh:M.hole=none){c p:Nat}{D:Cs}(ig:c<B.C.ae.length)(h:B.C.dD c=some (p,D)):∃N,M.take c=some (p,N)/\N.C.hd p=D.hd p/\N.hole=some p/\N={M with C:=N.C,hole:=some p}/\bM ⟨D,B.W,B.ty,B.E⟩ N/\Tkn B.C c p D:=by
 have X:=vF O.k ig h;have hM:∃A',M.C.dD c=some (p,D.wA A'):=by
  obtain⟨A',e⟩:=X.nA M.C.A;rw[O.c]at e;exact⟨A',e⟩
 obtain⟨A',hM⟩:=hM;refine⟨{M with C:=D.wA A',hole:=some p},by unfold Mo.take;rw[hM],rfl,rfl,rfl, ?_,X⟩;have Qn:∀q∈B.W.all,q≠p:=λq hq e=>X.no (e▸O.tH hq);have K0:Ok (D.wA B.C.A):=X.k.wA _;have h0:∀q,Live (D.wA B.C.A) q↔Live D q:=λq=>⟨λh=>⟨⟨h.i,h.own,h.al,h.k⟩,h.tk⟩,λh=>h.wA _⟩;have S:wi B.C (D.wA B.C.A) (λq=>q∈B.W.all):=⟨rfl,X.sz,λq _ L=>⟨(h0 q).2 ((X.lv q).2 (.inl L)),(X.hd q L).1,(X.hd q L).2⟩⟩;have O1:=O.cls (D:=D.wA B.C.A) (N:=D.wA A') (ho':=some p) (m':=M.m) K0 rfl S X.cf (λq=>by
   rw[h0,X.lv,O.lv,hh];constructor
   ·rintro((h|h)|h)
    ·exact .inl h
    ·cases h
    exact .inr (by rw[h])
   rintro(h|h)
   ·exact .inl (.inl h)
   exact .inr (Option.some.inj h).symm) (λq e hq=>Qn q hq (Option.some.inj e).symm) (by rw[show(D.wA B.C.A).ae=B.C.ae from X.sz];exact O.un)
  (λe=>by
   obtain⟨a,b,c,d⟩:=O.on e;obtain⟨e1,e2⟩:=X.pg _ b;exact⟨by rw[show(D.wA B.C.A).n=B.C.n from X.n];exact a,e1,(X.lf _).trans c,e2.trans d⟩) (λi e=>O.go i ((X.lf i).symm.trans e))
 have O2:=O1.tJ (r:=p) rfl (A:=D.A) (λi hi=>by
  obtain⟨q,o,q1,q2,q3,q4⟩:=X.dA i hi;exact⟨q,o,q1.wA _,q2,q3,q4⟩)
 exact O2
theorem bM.sq{B:Bx}{M:Mo}(O:bM B M){r:Nat}(hr:M.hole=some r):bM ⟨B.C.bh r,B.W,B.ty,B.E⟩ {M with C:=M.C.bh r,hole:=none}:=by
 have K:=O.k;have L:Live B.C r:=(O.lv r).2 (.inr hr);have ne:∀q∈B.W.all,q≠r:=λq h e=>O.ho r hr (e▸h);have G:=jK K L;have S:wi B.C (B.C.bh r) (λq=>q∈B.W.all):=⟨G.a,G.sz,λq h=>G.lv q (ne q h)⟩;refine O.cls (m':=M.m) (gA K L).1 (by(conv=>lhs;rw[O.c]);rfl) S rfl (λq=> ?_) (λq e=>by cases e) (by rw[G.sz];exact O.un) (λe=> ?_) (λi e=> ?_)
 ·rw[nZ K L,O.lv,hr]
  constructor
  ·rintro⟨h|h,g⟩
   ·exact .inl h
   exact absurd (Option.some.inj h).symm g
  rintro(h|h)
  ·exact⟨.inl h,ne q h⟩
  cases h
 ·obtain⟨e1,e2,e3⟩:=oV K L M.m.pg
  rw[e1,e2,e3];exact O.on e
 rw[(oV K L i).2.1]at e;exact O.go i e
theorem oR (A:By)(p c:Nat)(k v:F9)(fl exp tch tok st mk o w:Nat)(h:o+w<=48)(hk:k.length<256):rd (lW A p c k v fl exp tch tok st mk) (p+o) w=rd (Jv A p c k.length fl exp tch tok st mk) (p+o) w:=by
 unfold lW fg;rw[eX,eX,aS,eX]<;>omega
theorem Dg (A:By)(p c:Nat)(k v:F9)(fl exp tch tok st mk:Nat)(hk:k.length<256):kl (lW A p c k v fl exp tch tok st mk) p=k.length:=by
 unfold kl;rw[oR _ _ _ _ _ _ _ _ _ _ _ _ _ (by omega) hk];unfold Jv;rw[aS,aS,aS,aS,dI]<;>omega
theorem KK (A:By)(p c:Nat)(k v:F9)(fl exp tch tok st mk:Nat)(hk:k.length<256)(h:exp<256^8):ve (lW A p c k v fl exp tch tok st mk) p=exp:=by
 unfold ve;rw[oR _ _ _ _ _ _ _ _ _ _ _ _ _ (by omega) hk];unfold Jv;rw[aS,aS,aS,aS,aS,aS,aS,aS,dI,acZ h]<;>omega
theorem Fl (A:By)(p c:Nat)(k v:F9)(fl exp tch tok st mk:Nat)(hk:k.length<256)(h:tch<256^8):lU (lW A p c k v fl exp tch tok st mk) p=tch:=by
 unfold lU;rw[oR _ _ _ _ _ _ _ _ _ _ _ _ _ (by omega) hk];unfold Jv;rw[aS,aS,aS,aS,aS,aS,aS,dI,acZ h]<;>omega
theorem Fk (A:By)(p c:Nat)(k v:F9)(fl exp tch tok st mk:Nat)(hk:k.length<256)(h:tok<256^8):sK (lW A p c k v fl exp tch tok st mk) p=tok:=by
 unfold sK;rw[oR _ _ _ _ _ _ _ _ _ _ _ _ _ (by omega) hk];unfold Jv;rw[aS,aS,aS,aS,aS,aS,dI,acZ h]<;>omega
theorem KJ (A:By)(p c:Nat)(k v:F9)(fl exp tch tok st mk:Nat)(hk:k.length<256)(h:fl<256^4):Qw (lW A p c k v fl exp tch tok st mk) p=fl:=by
 unfold Qw;rw[oR _ _ _ _ _ _ _ _ _ _ _ _ _ (by omega) hk];unfold Jv;rw[aS,aS,aS,aS,aS,dI,acZ h]<;>omega
theorem KH (A:By)(p c:Nat)(k v:F9)(fl exp tch tok st mk:Nat)(hk:k.length<256)(h:st<256^1):gP (lW A p c k v fl exp tch tok st mk) p=st:=by
 unfold gP;rw[oR _ _ _ _ _ _ _ _ _ _ _ _ _ (by omega) hk];unfold Jv;rw[aS,aS,aS,dI,acZ h]<;>omega
theorem KI (A:By)(p c:Nat)(k v:F9)(fl exp tch tok st mk:Nat)(hk:k.length<256)(h:mk<256^1):dJ (lW A p c k v fl exp tch tok st mk) p=mk:=by
 unfold dJ;rw[oR _ _ _ _ _ _ _ _ _ _ _ _ _ (by omega) hk];unfold Jv;rw[aS,aS,dI,acZ h]<;>omega
theorem Dh (A:By)(p c:Nat)(k v:F9)(fl exp tch tok st mk:Nat)(hk:k.length<256)(hv:v.length<256^4):vl (lW A p c k v fl exp tch tok st mk) p=v.length/\aO (lW A p c k v fl exp tch tok st mk) p=k/\ko (lW A p c k v fl exp tch tok st mk) p=v:=by
 have e1:=Dg A p c k v fl exp tch tok st mk hk;have e0:=Hz A p c k.length fl exp tch tok st mk k hk;have e2:vl (lW A p c k v fl exp tch tok st mk) p=v.length:=by
  unfold vl lW fg;rw[e0,eX,eX,dI,acZ hv]<;>omega
 refine⟨e2, ?_, ?_⟩
 ·unfold aO
  rw[e1];unfold lW fg;rw[e0,gm,gm,tq,lM]<;>omega
 unfold ko;rw[e1,e2];unfold lW fg;rw[e0,gm,lM];omega
theorem R7{C:Cs}{p c:Nat}{k v:F9}{fl exp tch tok st mk:Nat}(L:At C p)(hk:k.length<256)(hf:58+k.length+v.length<=C.sz (C.cl p)):dm C C.A (lW C.A p c k v fl exp tch tok st mk) (λq _=>q=p):=λi hi=>by
 have hr:p<=i/\i<p+(58+k.length+v.length):=by
  refine aba λg=>hi ?_;have e0:=Hz C.A p c k.length fl exp tch tok st mk k hk;have w:∀(A:By) (o n x:Nat),o+n<=56->wr A (p+o) n x i=A i:=λA o n x h=>by
   unfold wr;exact gO _ _ _ _ (by rw[ng];omega)
  unfold lW fg;rw[e0,gO,gO,w _ _ _ _ (by omega),gO]
  ·unfold Jv
   rw[w _ _ _ _ (by omega),w _ _ _ _ (by omega),w _ _ _ _ (by omega),w _ _ _ _ (by omega),w _ _ _ _ (by omega),w _ _ _ _ (by omega),w _ _ _ _ (by omega),w _ _ _ _ (by omega),w _ _ _ _ (by omega),uE,uE,uE,w _ _ _ _ (by omega),w _ _ _ _ (by omega),w _ _ _ _ (by omega)];rfl
  ·omega
  ·omega
  have:crlf.length=2:=rfl;omega
 exact⟨p,i-p,L,by omega,rfl,by omega⟩
def BJ (p r q:Nat):Nat:=if q=p then r else q
def oz (Q:Dy)(p r:Nat):Dy:=Q.map λl=>l.map (BJ p r)
theorem me (Q:Dy)(p r i:Nat):ql (oz Q p r) i=(ql Q i).map (BJ p r):=by
 unfold oz ql;rw[aaZ,aaZ,abf];cases Q[i]?<;>rfl
theorem Hl{p r:Nat}:∀{l:F8},p∉l->l.map (BJ p r)=l
 | [],_=>rfl
 |a::l,h=>by
  rw[aa7,Hl λg=>h (aa6 _ g)];unfold BJ;rw[if_neg λe:a=p=>h (e▸aa5)]
theorem J7{p r:Nat}:∀{l:F8} {k:Nat},l.Nodup->l[k]?=some p->l.set k r=l.map (BJ p r)
 |a::l,0,nd,h=>by
  cases h;rw[List.set_cons_zero,aa7,Hl (abg.1 nd).1];unfold BJ;rw[if_pos rfl]
 |a::l,k+1,nd,h=>by
  have hm:p∈l:=aa3 h;rw[List.set_cons_succ,aa7,J7 (abg.1 nd).2 h]
  congr 1
  unfold BJ;rw[if_neg λe:a=p=>(abg.1 nd).1 (e▸hm)]
theorem Kh{C:Cs}{Q:Dy}(O:jd C Q){i k p r:Nat}(h:(ql Q i)[k]?=some p):Q.set i ((ql Q i).set k r)=oz Q p r:=by
 have hm:=aa3 h;have hi:i<Q.length:=by
  refine aba λg=> ?_;unfold ql at h;have e0:Q[i]?=none:=abb (by omega);rw[aaZ,e0]at h;cases h
 refine ah6 λj=> ?_;unfold oz;rw[ahG,abf];by_cases e:i=j
 ·subst e
  rw[if_pos rfl,if_pos hi,aa0 hi];have e2:ql Q i=Q[i]:=by unfold ql;rw[aaZ,aa0 hi];rfl
  rw[J7 (O.nd i) h,e2];rfl
 rw[if_neg e];cases hq:Q[j]? with
 |none=>rfl
 |some l=>
  have e2:ql Q j=l:=by unfold ql;rw[aaZ,hq];rfl
  have:p∉l:=λg=>e (Ef O hm (by rw[e2];exact g));rw[Option.map_some,Hl this]
def Mo.swap (M:Mo)(p r:Nat):Mo:=
 {M with hole:=some p,Q:=oz M.Q p r,it:=λq=>if q=r then M.it p else M.it q,ord:=λq=>if q=r then M.ord p else M.ord q,x:=M.x.dp p r}
theorem bM.swap{B:Bx}{M:Mo}(O:bM B M){p r i k:Nat}(hr:M.hole=some r)(hk:(ql M.Q i)[k]?=some p)(lG:mM B.C.A r=M.it p){A A2:By}{V:Tb}{ty:pW}(hV:ty.ok=none->V.ob= [])(T:Ii B.C B.W p r A V)(R:acL (B.C.wA A) p r A2 (M.Q.set i ((ql M.Q i).set k r)))(I:gU B.C r):
  bM ⟨B.C.wA A2,V,ty,qq B.E (B.C.hd p) (B.C.hd r)⟩ (M.swap p r):=by
 have K:=O.k;have hq:=Kh O.o (r:=r) hk;rw[hq]at R;have hpi:=aa3 hk;have hp:p∈B.W.all:=O.ot hpi;have tN:r∉B.W.all:=O.ho r hr;have Jp:r≠p:=λe=>tN (e▸hp);obtain⟨rest,Qe,Xd⟩:=T.pm;have nd1:=abg.1 (Qe.nodup_iff.1 O.t.nd);have inr:∀q,q∈rest↔q∈B.W.all/\q≠p:=λq=>by
  rw[Qe.mem_iff,abh];exact⟨λh=>⟨.inr h,λe=>nd1.1 (e▸h)⟩,λh=>h.1.resolve_left h.2⟩
 have wW:∀q,q∈V.all↔q=r\/q∈B.W.all/\q≠p:=λq=>by rw[Xd.mem_iff,abh,inr]
 have Lr:Live B.C r:=(O.lv r).2 (.inr hr);have at_:∀q,q=r\/q∈B.W.all->Live B.C q:=λq h=>h.elim (λe=>e▸Lr) O.tH;have io_:∀q,q=r\/q∈B.W.all->gU B.C q:=λq h=>h.elim (λe=>e▸I) (O.t.it q);have d1:dm B.C B.C.A A (λ_ o=>o<12\/o=45):=(wB T.df (λq hq=>(at_ q ((abh.1 hq).imp id id)).toAt) (λq hq=>by have:=((at_ q ((abh.1 hq).imp id id)).toAt.br K).2.1;omega)).mono λq o g=>by omega
 have d2:dm B.C A A2 (λ_ o=>o<12\/o=45):=R.d.wA.mono λq o g=>by unfold SQ2 at g;omega
 have d:=d1.trans d2;have same:∀q,q=r\/q∈B.W.all->mM A2 q=mM B.C.A q:=λq h=>wu K d (at_ q h).toAt (io_ q h) λj s=>by omega
 have nit:∀q∈V.all,mM A2 q=(M.swap p r).it q:=λq h=>by
  show _=if q=r then M.it p else M.it q
  rcases(wW q).1 h with e|⟨h1,h2⟩
  ·rw[if_pos e,same q (.inl e),e];exact lG
  rw[if_neg λe:q=r=>tN (e▸h1),same q (.inr h1)];exact O.it q h1
 have iG:∀q,Live (B.C.wA A2) q↔Live B.C q:=λq=>⟨λh=>⟨⟨h.i,h.own,h.al,h.k⟩,h.tk⟩,λh=>h.wA _⟩;have mq_:∀q∈V.all,dJ A2 q<16:=λq h=>by
  rw[show dJ A2 q=((M.swap p r).it q).fe from congrArg I3.fe (nit q h)];show(if q=r then M.it p else M.it q).fe<16;rcases(wW q).1 h with e|⟨h1,h2⟩
  ·rw[if_pos e];exact(O.w8 hp).2
  rw[if_neg λe:q=r=>tN (e▸h1)];exact(O.w8 h1).2
 have al_:∀q,q∈V.all↔∃j,q∈ql (oz M.Q p r) j:=λq=>by
  rw[wW];constructor
  ·rintro(e|⟨h1,h2⟩)
   ·refine⟨i, ?_⟩
    rw[me,e];exact abk.2 ⟨p,hpi,by unfold BJ;rw[if_pos rfl]⟩
   obtain⟨j,hj⟩:=(O.al q).1 h1;refine⟨j, ?_⟩;rw[me];exact abk.2 ⟨q,hj,by unfold BJ;rw[if_neg h2]⟩
  rintro⟨j,hj⟩;rw[me]at hj;obtain⟨u,hu,e⟩:=abk.1 hj;unfold BJ at e;by_cases g:u=p
  ·rw[if_pos g]at e;exact .inl e.symm
  rw[if_neg g]at e;subst e;exact .inr ⟨O.ot hu,g⟩
 have hn:=O.n;have BL:=O.nb;have DR:=O.mg;refine⟨?_,K.wA A2, ?_,hV,R.o, ?_,λj q h=>mq_ q ((al_ q).2 ⟨j,h⟩),O.ck,al_,λq=> ?_,λq h=> ?_,nit, ?_, ?_, ?_, ?_, ?_, ?_,O.un,O.on,O.go,O.wn,O.cf, ?_,λq h=> ?_⟩
 ·show B.C.wA A2=M.C.wA A2
  conv=>lhs;rw[O.c]
  rfl
 ·exact GZ (K.wA A) T.o R.d λq _ j g=>⟨by unfold SQ2 at g;unfold mL;omega,by unfold SQ2 at g;omega⟩
 ·refine⟨λh=> ?_,λh=> ?_,λq h=> ?_, ?_⟩
  ·have:(M.x.dp p r).bg=M.x.bg/\(M.x.dp p r).cl=M.x.cl/\(M.x.dp p r).kd=M.x.kd:=by unfold Cw.dp;split<;>exact⟨rfl,rfl,rfl⟩
   show(M.x.dp p r).cl<B.C.ae.length/\_;obtain⟨a,b,c⟩:=this;change(M.x.dp p r).bg=true at h;show(M.x.dp p r).cl<B.C.ae.length/\1<=(M.x.dp p r).kd/\(M.x.dp p r).kd<=3;rw[a]at h;rw[b,c];exact O.x.go h
  ·change(M.x.dp p r).bg=false at h
   have hb:M.x.bg=false:=by unfold Cw.dp at h;split at h<;>exact h
   have:=O.x.no hb;show(M.x.dp p r).nx=none/\(M.x.dp p r).cl=0/\(M.x.dp p r).kd=0/\(M.x.dp p r).lf=0;unfold Cw.dp;rw[if_neg (by rw[this.1];simp)];exact this
  ·change(M.x.dp p r).nx=some q at h
   show q∈ql (oz M.Q p r) (qi (M.x.dp p r).cl (M.x.dp p r).kd)/\1<=(M.x.dp p r).lf;unfold Cw.dp at h⊢;rw[me];by_cases g:M.x.nx=some p
   ·rw[if_pos g]at h⊢
    have:=O.x.nx p g;cases h;exact⟨abk.2 ⟨p,this.1,by unfold BJ;rw[if_pos rfl]⟩,this.2⟩
   rw[if_neg g]at h⊢;have:=O.x.nx q h;exact⟨abk.2 ⟨q,this.1,by unfold BJ;rw[if_neg λe:q=p=>g (e▸h)]⟩,this.2⟩
  show(M.x.dp p r).lf<=_;unfold Cw.dp;split<;>exact O.x.lf
 ·show Live (B.C.wA A2) q↔q∈V.all\/some p=some q
  rw[iG,O.lv,wW,hr];constructor
  ·rintro(h|h)
   ·by_cases e:q=p
    ·exact .inr (by rw[e])
    exact .inl (.inr ⟨h,e⟩)
   exact .inl (.inl (Option.some.inj h).symm)
  rintro((h|h)|h)
  ·exact .inr (by rw[h])
  ·exact .inl h.1
  exact .inl ((Option.some.inj h)▸hp)
 ·have e:p=q:=Option.some.inj h
  subst e;intro g;rcases(wW p).1 g with e|e
  ·exact Jp e.symm
  exact e.2 rfl
 ·have pe:B.E.Perm (iQ B.C M (p::rest)):=O.e.trans (jM Qe)
  have fN:∀q,q∈rest->B.C.hd q≠B.C.hd p:=λq h e=>((inr q).1 h).2 (jm K (O.nm ((inr q).1 h).1) (O.nm hp) e);have G5:∀q∈p::rest,B.C.hd q≠B.C.hd r:=λq h e=>by
   have hq:q∈B.W.all:=(abh.1 h).elim (λe=>e▸hp) λh=>((inr q).1 h).1;exact tN ((jm K (O.nm hq) Lr.toAt e)▸hq)
  have e1:iQ (B.C.wA A2) (M.swap p r) rest=iQ B.C M rest:=fY λq h=>by
   have ne:q≠r:=λe=>tN (e▸((inr q).1 h).1);refine⟨?_,if_neg ne,rfl⟩;show(if q=r then M.it p else M.it q).exp=_;rw[if_neg ne]
  have e2:iQ (B.C.wA A2) (M.swap p r) (r::rest)=if 0<(M.it p).exp then⟨B.C.hd r,(M.it p).exp,M.ord p⟩::iQ B.C M rest else iQ B.C M rest:=by
   rw[ja,e1,show(M.swap p r).it r=M.it p from if_pos rfl,show(M.swap p r).ord r=M.ord p from if_pos rfl];rfl
  refine abd.trans ?_ ((abd.of_eq e2.symm).trans (jM Xd.symm));have hm:B.C.hd p∈B.E.map En.h↔0<(M.it p).exp:=by
   rw[(pe.map En.h).mem_iff,acw,abk];constructor
   ·rintro⟨q,hq,e⟩
    obtain⟨h1,h2⟩:=abm.1 hq;have:q=p:=(abh.1 h1).elim id λh=>absurd e (fN q h);subst this;exact of_decide_eq_true h2
   exact λh=>⟨p,abm.2 ⟨aa5,decide_eq_true h⟩,rfl⟩
  have hpr:B.C.hd p≠B.C.hd r:=G5 p aa5;unfold qq;by_cases g:0<(M.it p).exp
  ·rw[if_pos ⟨hm.2 g,hpr⟩,if_pos g]
   have p1:(fi B.E (B.C.hd r)).Perm (iQ B.C M (p::rest)):=by
    refine(pe.filter _).trans (abd.of_eq ?_);exact mD G5
   refine(p1.map _).trans (abd.of_eq ?_);rw[ja,if_pos g,aa7,if_pos rfl]
   congr 1
   have:∀l:List En,(∀x∈l,x.h≠B.C.hd p)->l.map (λx=>if x.h=B.C.hd p then{x with h:=B.C.hd r}else x)=l:=λl=>by
    induction l with
    |nil=>intro _;rfl
    |cons x l ih=>
     intro h;rw[aa7,if_neg (h x aa5),ih λy hy=>h y (aa6 _ hy)]
   refine this _ λx hx=> ?_;unfold iQ at hx;obtain⟨q,hq,rfl⟩:=abk.1 hx;exact fN q (abm.1 hq).1
  rw[if_neg λh=>g (hm.1 h.1),if_neg g];refine pe.trans (abd.of_eq ?_);rw[ja,if_neg g]
 ·intro h2
  show V.mv<V.ob.length;rw[T.mv,T.s.ob];exact O.st (by rw[<-T.s.st];exact h2)
 ·exact T.s.size.trans BL
 ·show M.mg=if V.st=2 then V.ob.length-V.mv else 0
  rw[T.s.st,T.mv,T.s.ob];exact DR
 ·exact T.s.aH.trans O.mo
 ·show M.v.fE=_
  rw[O.bt,my _ Qe,my _ Xd,aa7,aa7,abp,abp];show _=(if r=r then M.it p else M.it r).sz+_;rw[if_pos rfl]
  congr 2
  refine ahn λq h=> ?_;show _=(if q=r then M.it p else M.it q).sz;rw[if_neg λe:q=r=>tN (e▸((inr q).1 h).1)]
 ·exact T.s.n.trans hn
 show cU (if q=r then M.it p else M.it q).key=true;rcases(wW q).1 h with e|⟨h1,h2⟩
 ·rw[if_pos e];exact O.lg p hp
 rw[if_neg λe:q=r=>tN (e▸h1)];exact O.lg q h1
def Mo.sq (M:Mo)(p:Nat):Mo:={M with C:=M.C.bh p,hole:=none}
def Mo.shift (M:Mo)(p:Nat):Option Mo:=match M.take (M.C.cl p)with
 |some (r,N)=>some ((N.swap p r).sq p)
 |none=>none
theorem bM.cl{B:Bx}{M:Mo}(O:bM B M)(p:Nat):B.C.cl p=M.C.cl p:=by rw[O.c];rfl
theorem bM.takeN{B:Bx}{M:Mo}(O:bM B M){c:Nat}(h:B.C.dD c=none):M.take c=none:=by
 have:(B.C.wA M.C.A).dD c=none:=Ul _ h;rw[O.c]at this;unfold Mo.take;rw[show M.C.dD c=none from this]
theorem IM (z:Ly)(M:Mo)(p:Nat)(hp:M.has p)(hh:M.hole=none):aK aaY 113 [DC z.s,DE DB (M.C.hd p)] vz [SH z M]
  (λv H=>(M.shift p=none/\v=DE DD 21/\H= [SH z M])\/∃N,M.shift p=some N/\v=DE DD 0/\H= [SH z N]):=
 dV λB O=>by
  have dL:=(O.al p).2 hp;obtain⟨i,hi⟩:=hp;obtain⟨k,hk⟩:=ahH hi;have L:=O.tH dL;have dx:=O.cl p;have ig:=(L.toAt.br O.k).1;have at_:=wD z.y.b B.C O.k p L;have tk:=JZ z.y.b B.C O.k (B.C.cl p) ig;rw[O.hd]at at_;unfold eh fC jc pV;simp only[pH,cap];refine af func113 rfl ntmps113 rfl ?_;intro F _;refine bD ?_;refine zl Aq (at_) .nil (λ_ le au=>au.nth 0 rfl) ?_;refine cC ?_;refine bj ?_;refine Lp (oC Aq rfl rfl (tk) (.cons .here .nil) DA ?_);rintro v H' hr;refine bS ?_;rcases hT:B.C.dD (B.C.cl p)with _|⟨r,D⟩
  ·rw[hT]at hr
   obtain⟨rfl,rfl⟩:=hr;refine sI ?_;refine Ep (z:=z) (B:=B) (M:=M) (H:= []) O ?_;refine Rt [SH z M] results113 ?_;refine .inl ⟨?_,rfl,rfl⟩;unfold Mo.shift;rw[<-dx,O.takeN hT]
  rw[hT]at hr;obtain⟨rfl,rfl⟩:=hr;obtain⟨N,n1,n2,n3,n4,O1,X⟩:=O.take hh ig hT;have hsh:M.shift p=some ((N.swap p r).sq p):=by unfold Mo.shift;rw[<-dx,n1]
  obtain⟨NC,rfl⟩:∃NC,N={M with C:=NC,hole:=some r}:=⟨_,n4⟩;have K1:Ok D:=O1.k;have LpD:Live D p:=(X.lv p).2 (.inl L);have LrD:Live D r:=(X.lv r).2 (.inr rfl);have Jp:r≠p:=λe=>X.no (e▸L);have Xt:D.hd p=M.C.hd p:=((X.hd p L).1).trans (O.hd p);have fN:D.hd p≠D.hd r:=λe=>Jp (jm K1 LrD.toAt LpD.toAt e.symm);have I1:gU D p:=O1.t.it p dL;obtain⟨f1,f2,f3,f4,f5,f6,f7⟩:=O1.jx dL;change ve D.A p=(M.it p).exp at f1;change lU D.A p=(M.it p).tch at f2;change sK D.A p=(M.it p).tok at f3;change dJ D.A p=(M.it p).fe at f4;change aO D.A p=(M.it p).key at f5;change ko D.A p=(M.it p).val at f6;change Qw D.A p=(M.it p).fl at f7;have lg:=O.lg p dL;have u9:=(O.w8 dL).2;have GU:D.cl r=D.cl p:=X.cl.trans (X.hd p L).2.symm;have Qq:=I1.k0;have vk:=I1.fits;have lk:(aO D.A p).length=kl D.A p:=cI _ _ _;have lv:(ko D.A p).length=vl D.A p:=cI _ _ _;have JH:=fX lg;rw[<-f5,lk]at JH;have vlt:vl D.A p<256^4:=kB _ _ _;have cp:=Vx z.y.b D K1 r p LrD LpD I1 Jp (by rw[f5];exact lg) (by show dJ D.A p<16;rw[f4];exact u9) (by rw[GU];exact vk);have hS:wi B.C D (λq=>q∈B.W.all)->True:=λ_=>trivial;have S:wi B.C (D.wA B.C.A) (λq=>q∈B.W.all):=⟨rfl,X.sz,λq _ M=>⟨((X.lv q).2 (.inl M)).wA _,(X.hd q M).1,(X.hd q M).2⟩⟩;have adF:M.Q.flatMap (di B.C)=M.Q.flatMap (di D):=(S.ls O.o λi q h=>O.ot h).symm;have adG:qj z.y.q z.y.wh D.ae.length (aZ z.s) (bG z.s) B.C M.x=qj z.y.q z.y.wh D.ae.length (aZ z.s) (bG z.s) D M.x:=(S.cw O.o (λi q h=>O.ot h) O.x _ _ _ _ _).symm;have adE:B.C.ae.length=D.ae.length:=by rw[X.sz]
  unfold iH;rw[adF,adE,adG];have d3:dm D D.A (B9 D r p) (λq _=>q=r):=R7 LrD.toAt (by rw[lk];omega) (by rw[lk,lv,GU];exact vk);have O2:=O1.tJ (r:=r) rfl d3;have itr:mM (B9 D r p) r=M.it p:=by
   have b:=Dh D.A r (D.cl r) (aO D.A p) (ko D.A p) (rd D.A (p+40) 4) (rd D.A (p+16) 8) (rd D.A (p+24) 8) (rd D.A (p+32) 8) 4 (rd D.A (p+46) 1) (by rw[lk];omega) (by rw[lv];exact vlt);have h8:∀o,rd D.A o 8<256^8:=λo=>kB _ _ _;rw[<-O1.it p dL];unfold mM B9;rw[b.2.1,b.2.2,KJ _ _ _ _ _ _ _ _ _ _ _ (by rw[lk];omega) (kB _ _ _),KK _ _ _ _ _ _ _ _ _ _ _ (by rw[lk];omega) (h8 _),Fl _ _ _ _ _ _ _ _ _ _ _ (by rw[lk];omega) (h8 _),Fk _ _ _ _ _ _ _ _ _ _ _ (by rw[lk];omega) (h8 _),KI _ _ _ _ _ _ _ _ _ _ _ (by rw[lk];omega) (kB _ _ _)];rfl
  have str:gP (B9 D r p) r=4:=KH _ _ _ _ _ _ _ _ _ _ _ (by rw[lk];omega) (by decide);have klr:kl (B9 D r p) r=kl D.A p:=(Dg _ _ _ _ _ _ _ _ _ _ _ (by rw[lk];omega)).trans lk;have vlr:vl (B9 D r p) r=vl D.A p:=by
   have b:=Dh D.A r (D.cl r) (aO D.A p) (ko D.A p) (rd D.A (p+40) 4) (rd D.A (p+16) 8) (rd D.A (p+24) 8) (rd D.A (p+32) 8) 4 (rd D.A (p+46) 1) (by rw[lk];omega) (by rw[lv];exact vlt);exact b.1.trans lv
  generalize B9 D r p=A3 at*;have I2:gU (D.wA A3) r:=⟨by show kl A3 r≠0;rw[klr];exact Qq,by show 58+kl A3 r+vl A3 r<=D.sz (D.cl r);rw[klr,vlr,GU];exact vk,by
   have h1:ve A3 r=ve D.A p:=(congrArg I3.exp itr).trans f1.symm;show ve A3 r<_;rw[h1];exact I1.exp,by
   have h1:lU A3 r=lU D.A p:=(congrArg I3.tch itr).trans f2.symm;show lU A3 r<_;rw[h1];exact I1.tch⟩
  have oF:aO A3 p=aO A3 r:=(congrArg I3.key (O2.it p dL)).trans (congrArg I3.key itr).symm;have at2:∀q∈r::B.W.all,At (D.wA A3) q:=λq h=>by
   rcases abh.1 h with e|h
   ·rw[e];exact(LrD.wA _).toAt
   exact O2.nm h
  have ts:=EL z.y.t z.y.b (D.wA A3) O2.k B.W B.ty O2.t O.ty p r dL (LrD.wA _) I2 (O2.ho r rfl) oF;have md:=PH z.y.cr z.y.q z.y.wh D.ae.length (aZ z.s) (bG z.s) (D.wA A3) O2.k M.Q O2.o M.x O2.x p r (LpD.wA _);have wm:=W7 z.y.wh B.E M.tn (D.hd p) (D.hd r) fN;rw[Xt]at cp wm;change aK _ _ [_,DE DB (D.hd p:Nat),DE DB (D.hd r:Nat)] _ _ _ at ts md;rw[Xt]at ts md;unfold iH at md;refine cC ?_;refine bn ?_;refine zl Aq (cp) (.cons .here .nil) DA ?_;refine cu ?_;refine Lp (oC Aq rfl rfl (ts) (.cons .here (.cons .here (.cons .here (.cons .here .nil)))) DA ?_);rintro v H' ⟨rfl,A,V,rfl,hV,TS⟩;refine bS ?_;have n64:∀q∈r::B.W.all,64<=(D.wA A3).sz ((D.wA A3).cl q):=λq h=>((at2 q h).br O2.k).2.1;have dT:=wB TS.df at2 (λq h=>by have:=n64 q h;omega);have OQ:=L7 O2.k O2.o dT (λ_ q _ j g=>S04 g);have Ir:gI ((D.wA A3).wA A) (some r):=nE O2.k dT (λq e=>by cases e;exact⟨LrD.wA _,I2⟩) (λ_ _ _ g=>(S04 g).1);have str2:gP A r=4:=(lJ O2.k dT (LrD.wA _).toAt (o:=45) (w:=1) (ahO (by decide) (n64 r aa5)) (λj h1 h2 g=>by obtain⟨_,_,g3⟩:=g;omega)).trans str;have qs:=UK z.y.q z.y.b z.qb ((D.wA A3).wA A) (O2.k.wA A) M.Q OQ i k p r hk Ir (by show¬(1<=gP A r/\gP A r<=3);rw[str2];omega) GU;change aK _ _ [_,DE DB (D.hd p:Nat),DE DB (D.hd r:Nat)] _ _ _ at qs;rw[Xt]at qs;refine cu ?_;refine Lp (oC Aq rfl rfl (qs) (.cons .here (.cons (.t3 .here) (.cons (.t3 .here) .nil))) DA ?_);rintro v H' ⟨rfl,A2,rfl,R⟩;refine bS ?_;refine cu ?_;refine zl Aq (wm) (.cons (.t4 (.t3 .here)) .nil) DA ?_;refine cu ?_;refine zl Aq (md) (.cons (.t4 (.t3 .here)) .nil) DA ?_;have O3:=O2.swap (r:=r) rfl hk itr hV TS R I2;have L5:Live (((D.wA A3).wA A).wA A2) p:=(LpD.wA A3).wA A2;have gv:=KX z.y.b (((D.wA A3).wA A).wA A2) O3.k p L5;change aK _ _ [_,DE DB (D.hd p:Nat)] _ _ _ at gv;rw[Xt]at gv;have O4:=O3.sq (r:=p) rfl;have lP:∀i,∀q∈ql (oz M.Q p r) i,q≠p:=λi q h e=>O3.ho p rfl (e▸O3.ot h);have g1:(oz M.Q p r).flatMap (di (((D.wA A3).wA A).wA A2))=(oz M.Q p r).flatMap (di ((((D.wA A3).wA A).wA A2).bh p)):=((jK O3.k L5).ls O3.o lP).symm;have g2:qj z.y.q z.y.wh D.ae.length (aZ z.s) (bG z.s) (((D.wA A3).wA A).wA A2) (M.x.dp p r)=qj z.y.q z.y.wh D.ae.length (aZ z.s) (bG z.s) ((((D.wA A3).wA A).wA A2).bh p) (M.x.dp p r):=((jK O3.k L5).cw O3.o lP O3.x _ _ _ _ _).symm;refine cY ?_;refine zl Aq (gv) (.cons (.t2 .here) .nil) DA ?_;rw[Kh O.o hk];refine bj ?_;rw[show(oz M.Q p r).flatMap (di (((D.wA A3).wA A).wA A2))=(oz M.Q p r).flatMap (di ((((D.wA A3).wA A).wA A2).bh p))from g1,show qj z.y.q z.y.wh D.ae.length (aZ z.s) (bG z.s) (D.wA A3) (M.x.dp p r)=qj z.y.q z.y.wh D.ae.length (aZ z.s) (bG z.s) ((((D.wA A3).wA A).wA A2).bh p) (M.x.dp p r)from g2,<-Xt];refine Hh (H':= [Cl z.y.b ((((D.wA A3).wA A).wA A2).bh p),DS z V B.ty,zY B.ty V,DU B.ty V,ag z.y.q 182 (iF z.y.b z.qb (((D.wA A3).wA A).wA A2).ae.length),ag z.qb 333 ((oz M.Q p r).flatMap (di ((((D.wA A3).wA A).wA A2).bh p))),ag z.y.cr 137 (qj z.y.q z.y.wh D.ae.length (aZ z.s) (bG z.s) ((((D.wA A3).wA A).wA A2).bh p) (M.x.dp p r)),Wl z.y.wh (qq B.E (D.hd p) (D.hd r)) M.tn,ag z.s 96 (DC z.y.b::DC z.y.ck::DC z.y.t::DC z.y.lu::DC z.y.wh::DC z.y.cr::DC z.y.mo::DC z.y.q::fm M.v),kS z.y.ck M.k,zR z,xM z M.m,kO z.ub M.m,jO M]) ?_;refine ay (aD O4 (H:= [])) ?_;refine Rt [SH z ((({M with C:=NC,hole:=some r}:Mo).swap p r).sq p)] results113 ?_;exact .inr ⟨_,hsh,rfl,rfl⟩
theorem uh{C D:Cs}(S:DZ C D)(hp:∀j,∃b,D.pg j={C.pg j with lv:=b})(q:Nat):(Live D q↔Live C q)/\D.hd q=C.hd q/\D.cl q=C.cl q:=by
 have tk:∀i,(D.pg i).tk=(C.pg i).tk:=λi=>by obtain⟨b,e⟩:=hp i;rw[e]
 have bb:∀i,(D.pg i).bb=(C.pg i).bb:=λi=>by obtain⟨b,e⟩:=hp i;rw[e]
 refine⟨⟨λL=>⟨S.at.1 L.toAt, ?_⟩,λL=>⟨S.at.2 L.toAt, ?_⟩⟩, ?_,S.cl q⟩
 ·have:=L.tk
  rw[S.pn,S.ix,tk]at this;exact this
 ·rw[S.pn,S.ix,tk];exact L.tk
 unfold Cs.hd Cs.gen;rw[S.pn,S.ix,bb]
theorem CW{C:Cs}(K:Ok C){i:Nat}(hi:i<C.n)(j:Nat):(C.gr i).pg j=if j=i then{C.pg i with lv:=false}else C.pg j:=mX (by rw[K.pl];exact hi) j
theorem Fi{C:Cs}(K:Ok C){i:Nat}(hi:i<C.n)(j:Nat):(C.eT i).pg j=if j=i then{C.pg i with lv:=true}else C.pg j:=mX (by rw[K.pl];exact hi) j
theorem zr{C:Cs}(K:Ok C){i:Nat}(hi:i<C.n)(j:Nat):(C.bw i).pg j=if j=i then{Pg.no with old:=C.sL (C.pg i)}else C.pg j:=mX (by rw[K.pl];exact hi) j
theorem bM.stay{B:Bx}{M:Mo}(O:bM B M)(kQ:M.m.on=true):wi B.C (B.C.gr M.m.pg) (λq=>q∈B.W.all)/\bM ⟨B.C.gr M.m.pg,B.W,B.ty,B.E⟩ {M with C:=M.C.gr M.m.pg,m:=M.m.off}:=by
 obtain⟨a,b,c,d⟩:=O.on kQ;have K:=O.k;obtain⟨K2,S⟩:=uu K a b c;have jg:=CW K a;have sm:=uh S λj=>by
  rw[jg];by_cases e:j=M.m.pg
  ·exact⟨false,by rw[if_pos e,e]⟩
  exact⟨(B.C.pg j).lv,by rw[if_neg e]⟩
 have hs:wi B.C (B.C.gr M.m.pg) (λq=>q∈B.W.all):=⟨rfl,S.ae,λq _ L=>⟨(sm q).1.2 L,(sm q).2⟩⟩;refine⟨hs,O.cls (ho':=M.hole) K2 (congrArg (λC:Cs=>C.gr M.m.pg) O.c) hs rfl (λq=>(sm q).1.trans (O.lv q)) O.ho (by rw[S.ae];exact O.un) (λe=>by cases e) (λi e=> ?_)⟩;rw[jg]at e;by_cases g:i=M.m.pg
 ·rw[if_pos g]at e;cases e
 rw[if_neg g]at e;exact absurd (O.go i e).2 g
theorem bM.leave{B:Bx}{M:Mo}(O:bM B M)(kQ:M.m.on=false){i f t:Nat}(hi:i<B.C.n)(ho:(B.C.pg i).own=true)(hf:(B.C.pg i).cl=f):(B.C.pg i).lv=false/\wi B.C (B.C.eT i) (λq=>q∈B.W.all)/\bM ⟨B.C.eT i,B.W,B.ty,B.E⟩ {M with C:=M.C.eT i,m:={M.m with pg:=i,fr:=f,tt:=t,on:=true}}:=by
 have iG:(B.C.pg i).lv=false:=by
  rcases h:(B.C.pg i).lv with _|_
  ·rfl
  have:=(O.go i h).1;rw[kQ]at this;cases this
 have K:=O.k;obtain⟨K2,S⟩:=Bl K hi ho iG;have jg:=Fi K hi;have sm:=uh S λj=>by
  rw[jg];by_cases e:j=i
  ·exact⟨true,by rw[if_pos e,e]⟩
  exact⟨(B.C.pg j).lv,by rw[if_neg e]⟩
 have hs:wi B.C (B.C.eT i) (λq=>q∈B.W.all):=⟨rfl,S.ae,λq _ L=>⟨(sm q).1.2 L,(sm q).2⟩⟩;refine⟨iG,hs,O.cls (ho':=M.hole) K2 (congrArg (λC:Cs=>C.eT i) O.c) hs rfl (λq=>(sm q).1.trans (O.lv q)) O.ho (by rw[S.ae];exact O.un) (λ_=> ?_) (λj e=> ?_)⟩
 ·refine⟨hi, ?_, ?_, ?_⟩<;>(show _=_)<;>rw[jg,if_pos rfl]
  ·exact ho
  exact hf
 rw[jg]at e;by_cases g:j=i
 ·exact⟨rfl,g⟩
 rw[if_neg g]at e;have:=(O.go j e).1;rw[kQ]at this;cases this
theorem ab1{C:Cs}(K:Ok C){i:Nat}(hi:i<C.n)(h:(C.pg i).tk.findIdx? id=none):(C.pg i).held=0/\∀k:Nat,(C.pg i).tk[k]?≠some true:=by
 have P:lI C (C.pg i):=K.pg _ (eA (by rw[K.pl];exact hi));rw[ahz]at h;refine⟨?_,λk e=> ?_⟩
 ·rw[P.held]
  have:∀l:List Bool,(∀x∈l,id x=false)->(l.map bN).sum=0:=λl=>by
   induction l with
   |nil=>intro _;rfl
   |cons x l ih=>
    intro g;have hx:x=false:=g x aa5;rw[aa7,abp,ih λy hy=>g y (aa6 _ hy),hx];rfl
  exact this _ h
 have:=h true (aa3 e);cases this
theorem bM.release{B:Bx}{M:Mo}(O:bM B M)(kQ:M.m.on=true)(h:(B.C.pg M.m.pg).tk.findIdx? id=none):(B.C.pg M.m.pg).held=0/\wi B.C (B.C.bw M.m.pg) (λq=>q∈B.W.all)/\bM ⟨B.C.bw M.m.pg,B.W,B.ty,B.E⟩ {M with C:=M.C.bw M.m.pg,m:=M.m.off}:=by
 obtain⟨a,b,c,d⟩:=O.on kQ;have K:=O.k;obtain⟨h0,lP⟩:=ab1 K a h;have K2:=wM K a b c h0;have jg:=zr K a;have Ad:∀q,Live B.C q->B.C.pn q≠M.m.pg:=λq L e=>lP _ (e▸L.tk);have same:∀q,B.C.pn q≠M.m.pg->(B.C.bw M.m.pg).pg ((B.C.bw M.m.pg).pn q)=B.C.pg (B.C.pn q):=λq e=>by
  rw[show(B.C.bw M.m.pg).pn q=B.C.pn q from rfl,jg,if_neg e]
 have Jo:∀q,B.C.pn q≠M.m.pg->(B.C.bw M.m.pg).cl q=B.C.cl q:=λq e=>by unfold Cs.cl;rw[same q e]
 have Gw:∀q,B.C.pn q≠M.m.pg->(B.C.bw M.m.pg).ix q=B.C.ix q:=λq e=>by unfold Cs.ix;rw[Jo q e];rfl
 have wl:∀q,Live (B.C.bw M.m.pg) q↔Live B.C q:=λq=>by
  constructor
  ·intro L
   have e:B.C.pn q≠M.m.pg:=λe=>by
    have t:=L.own;rw[show(B.C.bw M.m.pg).pn q=B.C.pn q from rfl,jg,if_pos e]at t;cases t
   refine⟨⟨L.i,by have:=L.own;rw[same q e]at this;exact this,by have:=L.al;rw[Jo q e]at this;exact this,by have:=L.k;rw[same q e,Gw q e]at this;exact this⟩,by have:=L.tk;rw[same q e,Gw q e]at this;exact this⟩
  intro L;have e:=Ad q L;exact⟨⟨L.i,by rw[same q e];exact L.own,by rw[Jo q e];exact L.al,by rw[same q e,Gw q e];exact L.k⟩,by rw[same q e,Gw q e];exact L.tk⟩
 have hs:wi B.C (B.C.bw M.m.pg) (λq=>q∈B.W.all):=⟨rfl,rfl,λq _ L=>⟨(wl q).2 L,by unfold Cs.hd Cs.gen;rw[same q (Ad q L),Gw q (Ad q L)],Jo q (Ad q L)⟩⟩;refine⟨h0,hs,O.cls (ho':=M.hole) K2 (congrArg (λC:Cs=>C.bw M.m.pg) O.c) hs rfl (λq=>(wl q).trans (O.lv q)) O.ho O.un (λe=>by cases e) (λi e=> ?_)⟩;rw[jg]at e;by_cases g:i=M.m.pg
 ·rw[if_pos g]at e;cases e
 rw[if_neg g]at e;exact absurd (O.go i e).2 g
def Mo.mstop (M:Mo):Mo:={M with C:=M.C.gr M.m.pg,m:=M.m.off}
def Mo.eI (M:Mo):Bool×Mo:=match(M.C.pg M.m.pg).tk.findIdx? id with
 |none=>(false,{M with C:=M.C.bw M.m.pg,m:=M.m.off})
 |some k=>if M.cE (M.C.pS M.m.pg k)≠0 then(true,M.bY (M.C.pS M.m.pg k))else(match M.shift (M.C.pS M.m.pg k)with
  |some N=>(true,N)
  |none=>(false,M.mstop))
theorem bM.Hg{B:Bx}{M:Mo}(O:bM B M)(hh:M.hole=none){i k:Nat}(hi:i<B.C.n)(ho:(B.C.pg i).own=true)(hk:(B.C.pg i).tk.findIdx? id=some k):M.has (B.C.pS i k):=by
 have P:lI B.C (B.C.pg i):=O.k.pg _ (eA (by rw[O.k.pl];exact hi));rw[abl]at hk;obtain⟨h1,h2,_⟩:=hk;obtain⟨e1,e2,a⟩:=kH O.k hi ho (k:=k) (by rw[<-P.tl];exact h1);have L:Live B.C (B.C.pS i k):=⟨a,by rw[e1,e2,aa0 h1];exact congrArg some h2⟩;exact(O.al _).1 (((O.lv _).1 L).resolve_right (by rw[hh];simp))
theorem zo (z:Ly)(M:Mo)(kQ:M.m.on=true)(c:Nat)(hf:M.m.fr=c):aK aaY 183 [DC z.y.mo,DE DD c] vz [SH z M]
  (λv H=>v= .bool true/\H= [SH z M.mstop]):=
 dV λB O=>by
  obtain⟨a,b,c',d⟩:=O.on kQ;have h:=(Vh z.y.mo z.y.b z.ub (aZ z.s) (bG z.s) (du z.s) B.C O.k M.m c kQ hf a b c').fr (H:=eh z B M++ []) (R:= [DS z B.W B.ty,zY B.ty B.W,DU B.ty B.W,DT z B.C.ae.length,ag z.qb 333 (M.Q.flatMap (di B.C)),iH z.y.cr z.y.q z.y.wh B.C.ae.length (aZ z.s) (bG z.s) B.C M.x,Wl z.y.wh B.E M.tn,fC z.s z.y (fm M.v),
   kS z.y.ck M.k,zR z,kO z.ub M.m,jO M]) (.cons (.t8 (.t3 .here)) (.cons .here .nil)) (λk au=>trivial)
  refine h.out ?_;rintro v H' ⟨H0,⟨rfl,rfl⟩,rfl⟩;obtain⟨S,O2⟩:=O.stay kQ;refine⟨[SH z M.mstop],⟨rfl,rfl⟩,λk s=>aD O2 (H:= []) k ?_⟩;rw[(S.ls O.o λi q h=>O.ot h).symm]at s;unfold iH at s;rw[(S.cw O.o (λi q h=>O.ot h) O.x _ _ _ _ _).symm]at s
  revert s
  revert k
  show∀k,_->ai [Cl z.y.b (B.C.gr M.m.pg),DS z B.W B.ty,zY B.ty B.W,DU B.ty B.W,DT z B.C.ae.length,ag z.qb 333 (M.Q.flatMap (di (B.C.gr M.m.pg))),ag z.y.cr 137 (qj z.y.q z.y.wh B.C.ae.length (aZ z.s) (bG z.s) (B.C.gr M.m.pg) M.x),Wl z.y.wh B.E M.tn,fC z.s z.y (fm M.v),
   kS z.y.ck M.k,zR z,xM z M.m.off,kO z.ub M.m,jO M] k
  refine bS ?_;exact Eh
theorem Vi (z:Ly)(M:Mo)(hh:M.hole=none)(kQ:M.m.on=true):aK aaY 137 [DC z.y.mo] vz [SH z M]
  (λv H=>∃r N,M.eI=(r,N)/\v= .bool r/\H= [SH z N]):=
 dV λB O=>by
  obtain⟨a,b,c',d⟩:=O.on kQ;have ft:=Wv z.y.b B.C O.k M.m.pg a b;have aiX:B.C.pg M.m.pg=M.C.pg M.m.pg:=by rw[O.c];rfl
  have hplc:∀k,B.C.pS M.m.pg k=M.C.pS M.m.pg k:=λk=>by rw[O.c];rfl
  unfold eh nq DI;refine bS ?_;refine af func137 rfl ntmps137 rfl ?_;intro F _;refine bj ?_;refine av ?_;refine iL 9 mix (.cons (.t8 (.t3 .here)) .nil) λF1 jq bV aI=> ?_;obtain⟨q1,_⟩:=bV;refine cu ?_;refine gG aI ?_;refine Tp (oC Aq rfl rfl (ft) .nil (λ_ le au=>au.nth 1 rfl) ?_);rintro v H' ⟨hv,rfl⟩;refine bS ?_;rcases hf:(B.C.pg M.m.pg).tk.findIdx? id with _|k
  ·rw[hf]at hv
   subst hv;obtain⟨h0,S,O2⟩:=O.release kQ hf;have Xn:M.eI=(false,{M with C:=M.C.bw M.m.pg,m:=M.m.off}):=by unfold Mo.eI;rw[<-aiX,hf]
   refine bS ?_;refine cL ?_;refine av ?_;refine iL 9 mix (.cons .here .nil) λF2 zU eP dE=> ?_;obtain⟨q2,_⟩:=eP;refine cu ?_;refine gG dE ?_;refine Tp (oZ (Aq (n:=203)) (IS z.y.b B.C O.k M.m.pg a b c' h0) (.cons (.there .here) .nil) DA ?_);refine bA ?_;refine Lp (oSN s9 ?_);refine bA ?_;unfold iH;rw[(S.ls O.o λi q h=>O.ot h).symm,(S.cw O.o (λi q h=>O.ot h) O.x _ _ _ _ _).symm];refine Hh (H':= [Cl z.y.b (B.C.bw M.m.pg),DS z B.W B.ty,zY B.ty B.W,DU B.ty B.W,DT z B.C.ae.length,ag z.qb 333 (M.Q.flatMap (di (B.C.bw M.m.pg))),ag z.y.cr 137 (qj z.y.q z.y.wh B.C.ae.length (aZ z.s) (bG z.s) (B.C.bw M.m.pg) M.x),Wl z.y.wh B.E M.tn,fC z.s z.y (fm M.v),kS z.y.ck M.k,zR z,ag z.y.mo 220 [DC z.y.b,aZ z.s,bG z.s,du z.s, .slice (some ⟨z.ub,0,none⟩) M.m.un.length M.m.un.length,DE DD M.m.st,DE DD 0,DE DD 0,DE DD 0, .bool false],kO z.ub M.m,jO M]) ?_;refine ay (aD O2 (H:= [])) ?_;refine Rt [SH z {M with C:=M.C.bw M.m.pg,m:=M.m.off}] results137 ?_;exact⟨_,_,Xn,rfl,rfl⟩
  have hp:=O.Hg hh a b hf;rw[hf]at hv;dsimp only at hv;rw[O.hd]at hv;have Xn:M.eI=if M.cE (B.C.pS M.m.pg k)≠0 then(true,M.bY (B.C.pS M.m.pg k))else(match M.shift (B.C.pS M.m.pg k)with
   |some N=>(true,N)
   |none=>(false,M.mstop)):=by unfold Mo.eI;rw[<-aiX,hf,hplc]
  generalize B.C.pS M.m.pg k=p at*;subst hv;refine bS ?_;refine cC ?_;refine ay (H':= [SH z M]) (λh s=>aD O (H:= []) h (by revert s;revert h;unfold eh nq DI;simp only[pH,cap];exact Eh)) ?_;refine aw ?_;refine Lp (oCV (Aq (n:=48)) rfl rfl rfl (vJ z M p hp) (.cons .here .nil) (λ_ le _=>trivial) λv H' hr=> ?_);obtain⟨rfl,rfl⟩:=hr;refine bS ?_;refine aw ?_;refine aA rfl ?_ ?_
  ·intro pU
   replace pU:=aG pU;refine cN λB1 O1=> ?_;unfold eh nq DI;refine bS ?_;refine ba ?_;refine ay (H':= [SH z M]) (λh s=>aD O1 (H:= []) h (by revert s;revert h;unfold eh nq DI;simp only[pH,cap];exact Eh)) ?_;refine aw ?_;refine Lp (oCV (Aq (n:=85)) rfl rfl rfl (jW z M p hp) (.cons .here .nil) (λ_ le _=>trivial) λv H' hr=> ?_);obtain⟨rfl,rfl⟩:=hr;refine bS ?_;refine bA ?_;refine Rt [SH z (M.bY p)] results137 ?_;exact⟨true,_,by rw[Xn,if_pos (by simpa using pU)],rfl,rfl⟩
  intro pU;replace pU:=aG pU;rw[if_neg (by simpa using pU)]at Xn;refine bn ?_;refine av ?_;refine cN λB1 O1=> ?_;unfold eh nq DI;refine bS ?_;refine ba ?_;refine ay (H':= [SH z M]) (λh s=>aD O1 (H:= []) h (by revert s;revert h;unfold eh nq DI;simp only[pH,cap];exact Eh)) ?_;refine aw ?_;refine Lp (oCV (Aq (n:=113)) rfl rfl rfl (IM z M p hp hh) (.cons .here .nil) (λ_ le _=>trivial) λv H' hr=> ?_);rcases hr with⟨hsn,rfl,rfl⟩|⟨N,hsn,rfl,rfl⟩
  ·try simp only[pH,cap]
   rw[hsn]at Xn;refine bj ?_;refine cN λB1 O1=> ?_;unfold eh nq DI;refine bS ?_;refine bL ?_;refine ay (H':= [SH z M]) (λh s=>aD O1 (H:= []) h (by revert s;revert h;unfold eh nq DI;simp only[pH,cap];exact Eh)) ?_;refine zl Aq (zo z M kQ M.m.fr rfl) (.cons .here .nil) DA ?_;refine bA ?_;refine Rt [SH z M.mstop] results137 ?_;exact⟨_,_,Xn,rfl,rfl⟩
  try simp only[pH,cap]
  rw[hsn]at Xn;refine cu ?_;refine Rt [SH z N] results137 ?_;exact⟨_,_,Xn,rfl,rfl⟩
theorem aaw:Ah aaY 29 0=some (0,3):=by kernel_rfl
theorem aav:Ah aaY 29 1=some (1,3):=by kernel_rfl
def lsB (C:Cs)(f each k:Nat)(o:FW):Prop:=(C.pg k).own=true/\(C.pg k).cl=f/\((C.pg k).held:Int)<=((C.rw f).free.length:Int)-((each:Int)-((C.pg k).held:Int))/\∀q,o=some q->(C.pg k).held<(C.pg q).held
noncomputable def xf (C:Cs)(f each:Nat):Nat->FW
 |0=>none
 |k+1=>by classical exact if lsB C f each k (xf C f each k)then some k else xf C f each k
noncomputable def jC (C:Cs)(f:Nat):FW:=if(C.rw f).pgs<2 then none else xf C f (C.aj/C.sz f) C.n
def X8:FW->Int
 |none=>-1
 |some p=>(p:Int)
theorem Dc (C:Cs)(f each:Nat):∀k q,xf C f each k=some q->q<k/\(C.pg q).own=true/\(C.pg q).cl=f
 |0,q,h=>by cases h
 |k+1,q,h=>by
  unfold xf at h;split at h
  ·next g=>cases h;exact⟨alY _,g.1,g.2.1⟩
  obtain⟨a,b⟩:=Dc C f each k q h;exact⟨by omega,b⟩
theorem Ky{C:Cs}{f each k:Nat}(h:lsB C f each k (xf C f each k)):xf C f each (k+1)=some k:=by
 conv=>lhs;unfold xf
 rw[if_pos h]
theorem Hy{C:Cs}{f each k:Nat}(h:¬lsB C f each k (xf C f each k)):xf C f each (k+1)=xf C f each k:=by
 conv=>lhs;unfold xf
 rw[if_neg h]
theorem Na (a b ub:Nat)(dv tv sv:Value)(m:iA)(C:Cs)(K:Ok C)(f:Nat)(hf:f<C.ae.length):
  aK aaY 200 [DC a,DE DD f] (λh=>In (nq a b ub dv tv sv m) h/\In (Cl b C) h) []
   (λv H=>v=DE DD (X8 (jC C f))/\H= []):=
 aK.RK (X:=C.cfg.aj=C.aj/\C.cfg.pgs=C.n) (λk hk=>by obtain⟨j,⟨y,hy,_⟩,_⟩:=hk.2;exact⟨hy.aj,hy.pgs⟩) λPZ=>by
  obtain⟨c1,c2⟩:=PZ;have f1:=K.toFix.p1;have f2:=K.toFix.n1;have f3:=K.toFix.l1;obtain⟨z1,z2,z3⟩:=K.toFix.sz hf;have ofp:∀g:Nat->Nat,ofM C (f:Int) g=g f:=λg=>by unfold ofM;rw[if_pos ⟨by omega,by omega⟩];rfl
  have aiN:=PG b C K (f:Int);have ab8:=FP b C K (f:Int);have ajh:=rJ b C K (f:Int);rw[ofp]at aiN ab8 ajh;have adH:=BC b C;have dx:jR C.cfg= [DE DD C.aj,DE DD C.n,DE DD C.cfg.fac,DE DD C.cfg.bE,DE DD C.cfg.lim,DE DD C.cfg.hot,DE DD C.cfg.warm]:=by
   unfold jR;rw[c1,c2]
  rw[dx]at adH;have GA:(C.rw f).free.length<=1073741824:=kJ K f;have jg:(C.rw f).pgs<4611686018427387904:=by
   have:=yn (uY f) (λx=>by unfold uY;split<;>omega) C.bQ;rw[K.fp f hf];unfold Cs.BP;rw[K.pl]at this;omega
  unfold nq DI jC;refine af func200 rfl ntmps200 rfl ?_;rintro F ⟨hm,D6⟩;refine bD ?_;refine zl Aq (aiN) .nil (λ_ le _=>In.mono D6 le) ?_;refine bn ?_;by_cases h2:(C.rw f).pgs<2
  ·refine eJ ?_
   refine ba ?_;refine Rt [] results200 ?_;rw[if_pos h2];exact⟨rfl,rfl⟩
  rw[if_neg h2];refine cM ?_;refine bn ?_;refine av ?_;refine gT true mix ?_;refine aY ?_;refine Tp (oZ (Aq (n:=108)) (adH) .nil (λ_ le _=>In.mono D6 le) ?_);refine Ti (Fgs aaw bz) ?_;refine ba ?_;refine Tp (oZ (Aq (n:=71)) (ajh) .nil (λ_ le _=>In.mono D6 le) ?_);obtain⟨each,Q8⟩:∃each,each=C.aj/C.sz f:=⟨_,rfl⟩;have hele:each<=1048576:=by rw[Q8];exact ahO (Nat.div_le_self _ _) f1
  refine Ti (Qu) ?_;refine az (t:=28) (v':=(DE DD each)) rfl (by rw[Q8]) ?_;rw[<-Q8];refine bO ?_;refine zl Aq (adH) .nil (λ_ le _=>In.mono D6 le) ?_;refine Li (Fgs aav bz) ?_;refine bj ?_;have own_:=λk hk=>US b C K k hk;have ab0:=λk hk ho=>aab b C K k hk ho;have hhl:=λk (hk:k<C.n)=>xB K (eA (C:=C) (i:=k) (by rw[K.pl];exact hk));refine Lo (ι:=Nat) (FZ [6,3,35,45]) (λk=>k<=C.n) (λk=> [(35,DE DD k),(6,DE DD (X8 (xf C f each k)))]) (λk=> []) (λk=>C.n-k) (0) (abn _) ?_;rintro k hk;refine bj ?_;refine av ?_;by_cases GQ:k<C.n
  ·have o1:=own_ k GQ
   have hh1:=hhl k GQ;refine eJ ?_;refine kT ?_;refine zl Aq (o1) .nil (λ_ le _=>In.mono D6 le) ?_;refine bj ?_;by_cases XJ:(C.pg k).own=true/\(C.pg k).cl=f
   ·have h1:=ab0 k GQ XJ.1
    rw[if_pos XJ.1,XJ.2];refine cM ?_ (e:=by exact congrArg (!·) (decide_eq_true rfl));refine cY ?_;refine zl Aq (h1) .nil (λ_ le _=>In.mono D6 le) ?_;refine cu ?_;refine zl Aq (ab8) .nil (λ_ le _=>In.mono D6 le) ?_;refine bA ?_;by_cases hA:((C.pg k).held:Int)<=((C.rw f).free.length:Int)-((each:Int)-((C.pg k).held:Int))
    ·refine zt 64 ?_ (e:=by exact decide_eq_true hA)
     refine bj ?_;rcases hq:xf C f each k with _|q
     ·have adm:lsB C f each k (xf C f each k):=⟨XJ.1,XJ.2,hA,λq e=>by rw[hq]at e;cases e⟩
      have e1:((k:Nat):Int)=X8 (xf C f each (k+1)):=by rw[Ky adm];rfl
      refine zt 67 ?_ (e:=by exact decide_eq_true (by show(-1:Int)<0;omega));refine cC ?_;refine aw ?_;refine aB ?_;rw[e1];refine Ro (k+1) ((by omega)) ((by omega))
     obtain⟨q1,q2,q3⟩:=Dc C f each k q hq;have h2:=ab0 q (by omega) q2;have hh2:=hhl q (by omega);refine zf 67 ?_ (e:=by exact decide_eq_false (by show¬((q:Int)<0);omega));refine bA ?_;refine zl Aq (h2) .nil (λ_ le _=>In.mono D6 le) ?_;refine aY ?_;by_cases hB:(C.pg k).held<(C.pg q).held
     ·have adm:lsB C f each k (xf C f each k):=⟨XJ.1,XJ.2,hA,λu e=>by rw[hq]at e;cases e;exact hB⟩
      have e1:((k:Nat):Int)=X8 (xf C f each (k+1)):=by rw[Ky adm];rfl
      refine eJ ?_;refine cu ?_;refine aB ?_;rw[e1];refine Ro (k+1) ((by omega)) ((by omega))
     have lP:¬lsB C f each k (xf C f each k):=λh=>hB (h.2.2.2 q hq);refine cM ?_;refine bA ?_;refine aB ?_;rw[<-hq,<-Hy lP];refine Ro (k+1) ((by omega)) ((by omega))
    have lP:¬lsB C f each k (xf C f each k):=λh=>hA h.2.2.1;refine zf 64 ?_ (e:=by exact decide_eq_false hA);refine cC ?_;refine aw ?_;refine aB ?_;rw[<-Hy lP];refine Ro (k+1) ((by omega)) ((by omega))
   have lP:¬lsB C f each k (xf C f each k):=λh=>XJ ⟨h.1,h.2.1⟩;have Q9:¬((if(C.pg k).own=true then((C.pg k).cl:Int)else-1)=(f:Int)):=by
    by_cases g:(C.pg k).own=true
    ·have g2:¬(C.pg k).cl=f:=λe=>XJ ⟨g,e⟩
     rw[if_pos g];omega
    rw[if_neg g];omega
   refine eJ ?_ (e:=by exact congrArg (!·) (decide_eq_false Q9));refine bL ?_;refine aB ?_;rw[<-Hy lP];refine Ro (k+1) ((by omega)) ((by omega))
  obtain rfl:k=C.n:=by omega
  refine cM ?_;refine bD ?_;refine Rt [] results200 ?_;exact⟨rfl,rfl⟩
def l9 (C:Cs)(f:Nat):Nat:=(C.rw f).free.length
noncomputable def gh (m:iA)(C:Cs):Nat->Option (Nat×Nat)
 |0=>none
 |k+1=>if m.eZ k=true\/(∃o,gh m C k=some o/\l9 C k<=l9 C o.2)then gh m C k else(match jC C k with
  |some p=>some (p,k)
  |none=>gh m C k)
noncomputable def Mo.fU (M:Mo):Mo:=if 0<M.C.spare then M else match(acA M.fP).find? M.m.eZ with
 |none=>M
 |some t=>match gh M.m M.C M.fP with
  |none=>M
  |some o=>{M with C:=M.C.eT o.1,m:={M.m with pg:=o.1,fr:=o.2,tt:=t,on:=true}}
def Qy (t:Nat):Option (Nat×Nat)->FV
 |none=> [DE DD (-1),DE DD 0,DE DD 0, .bool false]
 |some o=> [DE DD o.1,DE DD o.2,DE DD t, .bool true]
theorem zE{m:iA}{C:Cs}{k:Nat}(h:m.eZ k=true\/(∃o,gh m C k=some o/\l9 C k<=l9 C o.2)):gh m C (k+1)=gh m C k:=by
 conv=>lhs;unfold gh
 rw[if_pos h]
theorem zF{m:iA}{C:Cs}{k:Nat}(h:jC C k=none):gh m C (k+1)=gh m C k:=by
 conv=>lhs;unfold gh
 split
 ·rfl
 rw[h]
theorem BF{m:iA}{C:Cs}{k p:Nat}(g:¬(m.eZ k=true\/(∃o,gh m C k=some o/\l9 C k<=l9 C o.2)))(h:jC C k=some p):gh m C (k+1)=some (p,k):=by
 conv=>lhs;unfold gh
 rw[if_neg g,h]
theorem I6{C:Cs}{f p:Nat}(h:jC C f=some p):p<C.n/\(C.pg p).own=true/\(C.pg p).cl=f:=by
 unfold jC at h;split at h
 ·cases h
 exact Dc _ _ _ _ _ h
theorem rK{m:iA}{C:Cs}:∀{k:Nat} {o:Nat×Nat},gh m C k=some o->o.1<C.n/\(C.pg o.1).own=true/\(C.pg o.1).cl=o.2/\o.2<k
 |0,o,h=>by cases h
 |k+1,o,h=>by
  by_cases g:m.eZ k=true\/(∃o,gh m C k=some o/\l9 C k<=l9 C o.2)
  ·rw[zE g]at h
   obtain⟨a,b,c,d⟩:=rK h;exact⟨a,b,c,by omega⟩
  cases hl:jC C k with
  |none=>
   rw[zF hl]at h;obtain⟨a,b,c,d⟩:=rK h;exact⟨a,b,c,by omega⟩
  |some p=>
   rw[BF g hl]at h;cases h;obtain⟨a,b,c⟩:=I6 hl;exact⟨a,b,c,alY _⟩
theorem RW (C:Cs)(A:By)(f each:Nat):∀k,xf (C.wA A) f each k=xf C f each k
 |0=>rfl
 |k+1=>by
  have ih:=RW C A f each k;unfold xf;rw[ih];rfl
theorem Nj (C:Cs)(A:By)(f:Nat):jC (C.wA A) f=jC C f:=by
 unfold jC;rw[RW];rfl
theorem FQ (m:iA)(C:Cs)(A:By):∀k,gh m (C.wA A) k=gh m C k
 |0=>rfl
 |k+1=>by
  have ih:=FQ m C A k;unfold gh;rw[ih,Nj];rfl
theorem O0{f:Nat->Bool}{n:Nat}(h:∀j,j<n->f j=false):(acA n).find? f=none:=by
 rw[ahL];intro x hx;rw[h x (ac3.1 hx)];simp
theorem OZ{f:Nat->Bool}{n k:Nat}(hk:k<n)(h:∀j,j<k->f j=false)(g:f k=true):(acA n).find? f=some k:=by
 rw[List.find?_range_eq_some];exact⟨g,ac3.2 hk,λj hj=>by simp[h j hj]⟩
def BU (z:Ly)(B:Bx)(M:Mo):Dz:=
 [ag z.y.t 154 (gV z.y.b B.W B.ty),ag B.ty.nk 149 (aV (aL B.W.nb)),oe B.ty.ok 149 (aV (aL B.W.ob)),ag z.y.q 182 (iF z.y.b z.qb B.C.ae.length),ag z.qb 333 (M.Q.flatMap (di B.C)),iH z.y.cr z.y.q z.y.wh B.C.ae.length (aZ z.s) (bG z.s) B.C M.x,Wl z.y.wh B.E M.tn,fC z.s z.y (fm M.v),kS z.y.ck M.k,og z.y.lu z.y.b z.y.q z.hot z.warm,jO M]
theorem acC{z:Ly}{B:Bx}{M:Mo}:∀h,ai (eh z B M++ []) h->ai [Cl z.y.b B.C,nq z.y.mo z.y.b z.ub (aZ z.s) (bG z.s) (du z.s) M.m,kO z.ub M.m,aF (BU z B M)] h:=λh s=>by
 have s1:ai (BU z B M++ [Cl z.y.b B.C,nq z.y.mo z.y.b z.ub (aZ z.s) (bG z.s) (du z.s) M.m,kO z.ub M.m]) h:=by
  revert s
  revert h
  unfold eh BU;simp only[pH,cap];exact Eh
 have s2:=eC s1
 revert s2
 generalize aF (BU z B M)=X
 revert h
 intro h _ _ s2;exact(Eh:∀h,ai [X,Cl z.y.b B.C,xM z M.m,kO z.ub M.m] h->ai [Cl z.y.b B.C,xM z M.m,kO z.ub M.m,X] h) h s2
theorem EC{z:Ly}{B:Bx}{M:Mo}:∀h,ai [Cl z.y.b B.C,nq z.y.mo z.y.b z.ub (aZ z.s) (bG z.s) (du z.s) M.m,kO z.ub M.m,aF (BU z B M)] h->ai (eh z B M++ []) h:=λh s=>by
 have s1:ai (aF (BU z B M):: [Cl z.y.b B.C,nq z.y.mo z.y.b z.ub (aZ z.s) (bG z.s) (du z.s) M.m,kO z.ub M.m]) h:=by
  revert s
  generalize aF (BU z B M)=X;intro s;exact(Eh:∀h,ai [Cl z.y.b B.C,xM z M.m,kO z.ub M.m,X] h->ai [X,Cl z.y.b B.C,xM z M.m,kO z.ub M.m] h) h s
 have s2:ai (BU z B M++ [Cl z.y.b B.C,xM z M.m,kO z.ub M.m]) h:=by
  obtain⟨h1,h2,d,l1,l2,a,b⟩:=s1;exact eW (bH a b d) (bX l1 l2)
 revert s2
 clear s1 s
 revert h
 unfold eh BU;simp only[pH,cap];exact Eh
theorem ahj{z:Ly}{B:Bx}{M:Mo}(O:bM B M){D N:Cs}{m':iA}(S:wi B.C D (λq=>q∈B.W.all)):BU z B M=BU z ⟨D,B.W,B.ty,B.E⟩ {M with C:=N,m:=m'}:=by
 have e1:=S.ls O.o λi q h=>O.ot h;have e2:=S.cw O.o (λi q h=>O.ot h) O.x z.y.q z.y.wh B.C.ae.length (aZ z.s) (bG z.s);unfold BU iH;dsimp only;rw[S.sz,e1,e2];rfl
theorem Nb (z:Ly)(M:Mo)(hoff:M.m.on=false):aK aaY 136 [DC z.y.mo] vz [SH z M]
  (λv H=>v= .tuple #[]/\H= [SH z M.fU]):=
 dV λB O=>by
  have K:=O.k;have hun:=O.un;have f3:=K.toFix.l1;have hC:B.C=M.C.wA B.C.A:=O.c;have PU:B.C.spare=M.C.spare:=by rw[hC];rfl
  have hncl:B.C.ae.length=M.fP:=O.fP;have ab3:gh M.m B.C M.fP=gh M.m M.C M.fP:=by rw[hC,FQ]
  have fp:=amm z.y.b B.C;have stv:=λc hc=>Ge z.y.mo z.y.b z.ub (aZ z.s) (bG z.s) (du z.s) M.m c hc;have lst:=λf hf=>Na z.y.mo z.y.b z.ub (aZ z.s) (bG z.s) (du z.s) M.m B.C K f hf;have fre:=λf (hf:f<B.C.ae.length)=>(show aK _ _ _ _ _ _ from(by have h:=FP z.y.b B.C K (f:Int);rw[show ofM B.C (f:Int) (λi=>(B.C.rw i).free.length)=l9 B.C f from(by unfold ofM;rw[if_pos ⟨by omega,by omega⟩];rfl)]at h;exact h));have hspl:B.C.spare<4611686018427387904:=by
   have:=yn Az (λx=>by unfold Az;split<;>omega) B.C.bQ;rw[K.sp];unfold Cs.BP;rw[K.pl]at this;have:=K.toFix.n1;omega
  refine af func136 rfl ntmps136 rfl ?_;intro F _;refine ay acC ?_;unfold nq DI;refine bA ?_;refine zl Aq (fp) .nil (λ_ le au=>au.nth 0 rfl) ?_;refine bn ?_;by_cases PW:0<B.C.spare
  ·refine eJ ?_
   refine bn ?_;refine ay (λh s=>aD O (H:= []) h (EC h s)) ?_;refine Rt0 [SH z M] results136 ?_;refine⟨rfl, ?_⟩;unfold Mo.fU;rw[if_pos (by omega)]
  have XL:M.fU=match(acA M.fP).find? M.m.eZ with
   |none=>M
   |some t=>match gh M.m M.C M.fP with
    |none=>M
    |some o=>{M with C:=M.C.eT o.1,m:={M.m with pg:=o.1,fr:=o.2,tt:=t,on:=true}}:=by unfold Mo.fU;rw[if_neg (by omega)]
  refine cM ?_;refine bL ?_;refine Lo (ι:=Nat) (FZ [2,1,12,15]) (λk=>k<=M.fP/\∀j,j<k->M.m.eZ j=false) (λk=> [(2,DE DD k)]) (λk=> [Cl z.y.b B.C,ag z.y.mo 220 [DC z.y.b,aZ z.s,bG z.s,du z.s, .slice (some ⟨z.ub,0,none⟩) M.m.un.length M.m.un.length,DE DD M.m.st,DE DD M.m.pg,DE DD M.m.fr,DE DD M.m.tt, .bool M.m.on],kO z.ub M.m,aF (BU z B M)]) (λk=>M.fP-k) (0) ⟨abn _,λj h=>absurd h (Nat.not_lt_zero _)⟩ ?_;rintro k hI;obtain⟨hk,hns⟩:=hI;refine bD ?_;by_cases GQ:k<M.fP
  ·have sk:=stv k (by omega)
   refine zt 19 ?_;refine bn ?_;refine zl Aq (sk) .nil (λ_ le au=>⟨au.nth 1 rfl,au.nth 2 rfl⟩) ?_;refine bj ?_;refine aA rfl ?_ ?_
   ·intro fM
    replace fM:=aG fM;have zP:M.m.eZ k=false:=by simpa using fM
    refine cu ?_;refine Ro (k+1) (⟨by omega,λj h=>(by by_cases e:j=k;exact e▸zP;exact hns j (by omega))⟩) ((by omega))
   intro fM;replace fM:=aG fM;have zP:M.m.eZ k=true:=by simpa using fM
   rw[OZ GQ hns zP]at XL;dsimp only at XL;refine kT ?_;refine cM ?_;have TB:=λj (h:jC B.C j=none)=>zF (m:=M.m) h;have acH:=λj p g (h:jC B.C j=some p)=>BF (m:=M.m) (p:=p) g h;have TA:=λj g=>zE (m:=M.m) (C:=B.C) (k:=j) g;have acG:=λj o h=>rK (m:=M.m) (C:=B.C) (k:=j) (o:=o) h;have b_0:gh M.m B.C 0=none:=rfl;generalize gh M.m B.C=bf at*;generalize hlc:jC B.C=lc at*;refine aY ?_;refine Lp (oA Rp λb1=> ?_);refine Lp (gE s9 ?_ (h1:=by simp[dq,Value.cells,Value.oneCell']));refine bO ?_;refine Hh (H':= [ag b1 218 [DE DD (-1),DE DD 0,DE DD 0, .bool false],Cl z.y.b B.C,ag z.y.mo 220 [DC z.y.b,aZ z.s,bG z.s,du z.s, .slice (some ⟨z.ub,0,none⟩) M.m.un.length M.m.un.length,DE DD M.m.st,DE DD M.m.pg,DE DD M.m.fr,DE DD M.m.tt, .bool M.m.on],kO z.ub M.m,aF (BU z B M)]) ?_;rw[show([DE DD (-1),DE DD 0,DE DD 0, .bool false]:FV)=Qy k (bf 0) by rw[b_0];rfl];refine Lo (ι:=Nat) (FZ [4,2,40,37]) (λj=>j<=M.fP) (λj=> [(40,DE DD j)]) (λj=> [ag b1 218 (Qy k (bf j)),Cl z.y.b B.C,ag z.y.mo 220 [DC z.y.b,aZ z.s,bG z.s,du z.s, .slice (some ⟨z.ub,0,none⟩) M.m.un.length M.m.un.length,DE DD M.m.st,DE DD M.m.pg,DE DD M.m.fr,DE DD M.m.tt, .bool M.m.on],kO z.ub M.m,aF (BU z B M)]) (λj=>M.fP-j) (0) (abn _) ?_;rintro j hj;refine bj ?_;refine av ?_;by_cases hjn:j<M.fP
   ·have sj:=stv j (by omega)
    have fj:=fre j (by omega);have lj:=lst j (by omega);have hfrj:=kJ K j;refine eJ ?_;refine cu ?_;refine av ?_;rcases hsj:M.m.eZ j with _|_
    ·rw[hsj]at sj
     rcases hb:bf j with _|o
     ·have BL:¬(M.m.eZ j=true\/∃o,bf j=some o/\l9 B.C j<=l9 B.C o.2):=by
       rintro(h|⟨o,h,_⟩)
       ·rw[hsj]at h;cases h
       rw[hb]at h;cases h
      rw[show Qy k none=([DE DD (-1),DE DD 0,DE DD 0, .bool false]:FV)from rfl];refine iL 24 mix (.cons .here (.cons .here (.cons .here (.cons .here .nil)))) λF1 jq bV aI=> ?_;obtain⟨q0,q1,q2,q3,_⟩:=bV;refine bn ?_;refine Tp (oZ (Aq (n:=198)) (sj) .nil (λ_ le _=>⟨In.mono q2 le,In.mono q3 le⟩) ?_);refine aw ?_;refine zf 46 ?_ (e:=by rfl);refine aY ?_;refine zf 50 ?_;refine pX ?_;refine gG aI ?_;refine bL ?_;refine bS ?_;refine zl Aq (lj) .nil (λ_ le au=>⟨au.nth 2 rfl,au.nth 1 rfl⟩) ?_;rcases hl:lc j with _|p
      ·have e1:([DE DD (-1),DE DD 0,DE DD 0, .bool false]:FV)=Qy k (bf (j+1)):=by rw[TB j hl,hb];rfl
       refine bA ?_;refine cM ?_ (e:=by exact decide_eq_false (by show¬(0<=(-1:Int));omega));refine bA ?_;refine aB ?_;rw[e1];refine Ro (j+1) ((by omega)) ((by omega))
      have e1:([DE DD p,DE DD j,DE DD k, .bool true]:FV)=Qy k (bf (j+1)):=by rw[acH j p BL hl];rfl
      refine bA ?_;refine eJ ?_ (e:=by exact decide_eq_true (by show 0<=((p:Nat):Int);omega));refine ba ?_;refine Lp (gE s9 ?_ (h1:=by simp[dq,Value.cells,Value.oneCell']));refine bA ?_;refine aB ?_;refine Hh (H':= [ag b1 218 [DE DD p,DE DD j,DE DD k, .bool true],Cl z.y.b B.C,ag z.y.mo 220 [DC z.y.b,aZ z.s,bG z.s,du z.s, .slice (some ⟨z.ub,0,none⟩) M.m.un.length M.m.un.length,DE DD M.m.st,DE DD M.m.pg,DE DD M.m.fr,DE DD M.m.tt, .bool M.m.on],kO z.ub M.m,aF (BU z B M)]) ?_;rw[e1];refine Ro (j+1) ((by omega)) ((by omega))
     obtain⟨op,of⟩:=o;obtain⟨w1,w2,w3,w4⟩:=acG j _ hb;dsimp only at w1 w2 w3 w4;have fo:=fre of (by omega);have hfro:=kJ K of;rw[show Qy k (some (op,of))=([DE DD op,DE DD of,DE DD k, .bool true]:FV)from rfl];refine iL 24 mix (.cons .here (.cons .here (.cons .here (.cons .here .nil)))) λF2 zU eP dE=> ?_;obtain⟨q0,q1,q2,q3,_⟩:=eP;refine bn ?_;refine Tp (oZ (Aq (n:=198)) (sj) .nil (λ_ le _=>⟨In.mono q2 le,In.mono q3 le⟩) ?_);refine aw ?_;refine zf 46 ?_ (e:=by rfl);refine aY ?_;refine zt 50 ?_;refine ba ?_;refine Tp (oZ (Aq (n:=199)) (fj) .nil (λ_ le _=>In.mono q1 le) ?_);refine bA ?_;refine Tp (oZ (Aq (n:=199)) (fo) .nil (λ_ le _=>In.mono q1 le) ?_);refine bj ?_;refine gG dE ?_;refine aw ?_;by_cases hle:l9 B.C j<=l9 B.C of
     ·have e1:([DE DD op,DE DD of,DE DD k, .bool true]:FV)=Qy k (bf (j+1)):=by rw[TA j (.inr ⟨_,hb,hle⟩),hb];rfl
      refine eJ ?_;refine bL ?_;refine aB ?_;refine bS ?_;rw[e1];refine Ro (j+1) ((by omega)) ((by omega))
     have BL:¬(M.m.eZ j=true\/∃o,bf j=some o/\l9 B.C j<=l9 B.C o.2):=by
      rintro(h|⟨o,h,g⟩)
      ·rw[hsj]at h;cases h
      rw[hb]at h;cases h;exact hle g
     refine cM ?_;refine ba ?_;refine bS ?_;refine zl Aq (lj) .nil (λ_ le au=>⟨au.nth 2 rfl,au.nth 1 rfl⟩) ?_;rcases hl:lc j with _|p
     ·have e1:([DE DD op,DE DD of,DE DD k, .bool true]:FV)=Qy k (bf (j+1)):=by rw[TB j hl,hb];rfl
      refine bA ?_;refine cM ?_ (e:=by exact decide_eq_false (by show¬(0<=(-1:Int));omega));refine bA ?_;refine aB ?_;rw[e1];refine Ro (j+1) ((by omega)) ((by omega))
     have e1:([DE DD p,DE DD j,DE DD k, .bool true]:FV)=Qy k (bf (j+1)):=by rw[acH j p BL hl];rfl
     refine bA ?_;refine eJ ?_ (e:=by exact decide_eq_true (by show 0<=((p:Nat):Int);omega));refine ba ?_;refine Lp (gE s9 ?_ (h1:=by simp[dq,Value.cells,Value.oneCell']));refine bA ?_;refine aB ?_;refine Hh (H':= [ag b1 218 [DE DD p,DE DD j,DE DD k, .bool true],Cl z.y.b B.C,ag z.y.mo 220 [DC z.y.b,aZ z.s,bG z.s,du z.s, .slice (some ⟨z.ub,0,none⟩) M.m.un.length M.m.un.length,DE DD M.m.st,DE DD M.m.pg,DE DD M.m.fr,DE DD M.m.tt, .bool M.m.on],kO z.ub M.m,aF (BU z B M)]) ?_;rw[e1];refine Ro (j+1) ((by omega)) ((by omega))
    rw[hsj]at sj;rw[<-TA j (.inl hsj)];refine iL 24 mix (.cons .here (.cons .here (.cons .here (.cons .here .nil)))) λF3 Xg rX fA=> ?_;obtain⟨q0,q1,q2,q3,_⟩:=rX;refine bn ?_;refine Tp (oZ (Aq (n:=198)) (sj) .nil (λ_ le _=>⟨In.mono q2 le,In.mono q3 le⟩) ?_);refine aw ?_;refine zt 46 ?_ (e:=by rfl);refine cC ?_;refine gG fA ?_;refine cu ?_;refine aB ?_;refine bS ?_;refine Ro (j+1) ((by omega)) ((by omega))
   obtain rfl:j=M.fP:=by omega
   rw[ab3];refine cM ?_;rcases hb:gh M.m M.C M.fP with _|o
   ·rw[hb]at XL
    rw[show Qy k none=([DE DD (-1),DE DD 0,DE DD 0, .bool false]:FV)from rfl];refine ba ?_;refine av ?_;refine iL 12 mix (.cons .here (.cons .here (.cons .here (.cons .here .nil)))) λF4 le4 Mc sx=> ?_;obtain⟨q0,q1,q2,q3,_⟩:=Mc;refine bj ?_;refine zf 79 ?_ (e:=by rfl);refine cu ?_;refine gG sx ?_;refine bj ?_;refine bS ?_;refine Hh (H':= [Cl z.y.b B.C,ag z.y.mo 220 [DC z.y.b,aZ z.s,bG z.s,du z.s, .slice (some ⟨z.ub,0,none⟩) M.m.un.length M.m.un.length,DE DD M.m.st,DE DD M.m.pg,DE DD M.m.fr,DE DD M.m.tt, .bool M.m.on],kO z.ub M.m,aF (BU z B M)]) ?_;refine ay (λh s=>aD O (H:= []) h (EC h s)) ?_;refine j5 [SH z M] results136 ?_;exact⟨rfl,by rw[XL]⟩
   obtain⟨op,of⟩:=o;obtain⟨w1,w2,w3,w4⟩:=acG M.fP _ (ab3.trans hb);dsimp only at w1 w2 w3 w4;obtain⟨iG,S,O2⟩:=O.leave hoff (t:=k) w1 w2 w3;rw[hb]at XL;dsimp only at XL;rw[show Qy k (some (op,of))=([DE DD op,DE DD of,DE DD k, .bool true]:FV)from rfl];refine ba ?_;refine av ?_;refine iL 9 mix (.cons .here (.cons (.there .here) .nil)) λF5 le5 Yh wC=> ?_;obtain⟨q0,q2,_⟩:=Yh;refine bj ?_;refine zt 79 ?_ (e:=by rfl);refine bA ?_;refine gG wC ?_;refine Tp (oZ (Aq (n:=201)) (Vn z.y.b B.C K op w1 w2 iG) (.cons (.t2 .here) .nil) DA ?_);refine cu ?_;refine Lp (oSN s9 ?_ (h1:=by simp[dq,Value.cells,Value.oneCell']));refine aB ?_;refine Hh (H':= [Cl z.y.b (B.C.eT op),ag z.y.mo 220 [DC z.y.b,aZ z.s,bG z.s,du z.s, .slice (some ⟨z.ub,0,none⟩) M.m.un.length M.m.un.length,DE DD M.m.st,DE DD op,DE DD of,DE DD k, .bool true],kO z.ub M.m,aF (BU z B M)]) ?_;rw[ahj (N:=M.C.eT op) (m':={M.m with pg:=op,fr:=of,tt:=k,on:=true}) O S];rw[XL];refine ay (λh s=>aD O2 (H:= []) h (EC h s)) ?_;refine j5 [SH z {M with C:=M.C.eT op,m:={M.m with pg:=op,fr:=of,tt:=k,on:=true}}] results136 ?_;exact⟨rfl,rfl⟩
  obtain rfl:k=M.fP:=by omega
  rw[O0 hns]at XL;refine zf 19 ?_;refine cC ?_;refine bn ?_;refine eJ ?_;refine bn ?_;refine ay (λh s=>aD O (H:= []) h (EC h s)) ?_;refine Rt0 [SH z M] results136 ?_;exact⟨rfl,by rw[XL]⟩
theorem EP{α:Type}(f:α->Nat):∀l:List α,(∀x∈l,f x=0)->(l.map f).sum=0
 | [],_=>rfl
 |x::l,h=>by
  rw[aa7,abp,h x aa5,EP f l λy hy=>h y (aa6 _ hy)]
theorem IJ{C:Cs}(K:Ok C)(h:0<C.spare):∃i,C.gD=some i:=by
 cases hf:C.gD with
 |some i=>exact⟨i,rfl⟩
 |none=>
  exfalso;have h1:∀x∈C.bQ,Az x=0:=λx hx=>by
   have:=ahz.1 hf x hx;unfold Az;rw[if_pos (by simpa using this)]
  have h2:=K.sp;unfold Cs.BP at h2;have h3:=EP Az C.bQ h1;omega
theorem wH{C:Cs}(K:Ok C){c:Nat}(hc:c<C.ae.length)(h:0<C.spare):∃p D,C.dD c=some (p,D)/\C.spare<=D.spare+1:=by
 unfold Cs.dD;cases (C.rw c).free.getLast? with
 |some p=>exact⟨p,_,rfl,Nat.le_succ _⟩
 |none=>
  obtain⟨i,hi⟩:=IJ K h;obtain⟨p,hp⟩:=y8 K (i:=i) hc;dsimp only;rw[hi];dsimp only;rw[hp];refine⟨p,_,rfl, ?_⟩;show C.spare<=C.spare-1+1;omega
structure Gv (C D:Cs):Prop where
 sz:D.ae=C.ae
 n:D.n=C.n
 ps:D.aj=C.aj
 sp:D.spare=C.spare
 pg:∀c,(D.rw c).pgs=(C.rw c).pgs
 tk:∀c,(D.rw c).eG<=(C.rw c).eG
theorem Gv.refl (C:Cs):Gv C C:=⟨rfl,rfl,rfl,rfl,λ_=>rfl,λ_=>abc _⟩
theorem Gv.trans{C D E:Cs}(a:Gv C D)(b:Gv D E):Gv C E:=⟨b.sz.trans a.sz,b.n.trans a.n,b.ps.trans a.ps,b.sp.trans a.sp,λc=>(b.pg c).trans (a.pg c),λc=>ahO (b.tk c) (a.tk c)⟩
theorem KV (C:Cs)(p:Nat):Gv C (C.bh p):=by
 have h:∀c,(C.bh p).rw c=C.rw c\/((C.bh p).rw c).pgs=(C.rw c).pgs/\((C.bh p).rw c).eG=(C.rw c).eG-1:=λc=>by
  by_cases g:C.cl p<C.rows.length
  ·have e:(C.bh p).rw c=_:=qH C (C.cl p) c {C.rw (C.cl p)with free:=if(C.pg (C.pn p)).lv=true then(C.rw (C.cl p)).free else(C.rw (C.cl p)).free++ [p],eG:=(C.rw (C.cl p)).eG-1} g
   by_cases i:c=C.cl p
   ·rw[if_pos i]at e
    right;rw[e,i];exact⟨rfl,rfl⟩
   rw[if_neg i]at e;exact .inl e
  left;unfold Cs.bh Cs.put Cs.rw;dsimp only;rw[List.set_eq_of_length_le (by omega)]
 refine⟨rfl,rfl,rfl,rfl,λc=> ?_,λc=> ?_⟩
 ·rcases h c with e|⟨e,_⟩
  ·rw[e]
  exact e
 rcases h c with e|⟨_,e⟩
 ·rw[e];exact abc _
 omega
structure Ev (M N:Mo):Prop where
 on:N.m.on=M.m.on
 g:Gv M.C N.C
theorem Ev.rf{M N:Mo}(h1:N.m.on=M.m.on)(h2:N.C=M.C):Ev M N:=⟨h1,by rw[h2];exact .refl _⟩
theorem Ev.trans{M N O:Mo}(a:Ev M N)(b:Ev N O):Ev M O:=⟨b.on.trans a.on,a.g.trans b.g⟩
theorem Ev.bY (M:Mo)(p:Nat):Ev M (M.bY p):=⟨rfl,KV M.C p⟩
theorem Ev.look (M:Mo)(p:Nat):Ev M (M.look p):=by
 unfold Mo.look;split
 ·exact Ev.bY M p
 exact .rf rfl rfl
theorem Ev.looks:∀(l:F8) (M:Mo),Ev M (l.foldl Mo.look M)
 | [],_=> .rf rfl rfl
 |p::l,M=>(Ev.look M p).trans (Ev.looks l (M.look p))
theorem Ev.cA:∀(f:Nat) (M:Mo),Ev M (M.cA f).2
 |0,_=> .rf rfl rfl
 |f+1,M=>by
  unfold Mo.cA;split
  ·next x h=>
   split
   ·next p hp=>exact((Ev.rf rfl rfl:Ev M {M with x:=x.pass M.Q}).trans (Ev.look _ p)).trans (Ev.cA f _)
   exact .rf rfl rfl
  exact .rf rfl rfl
theorem Ev.cV (M:Mo)(now aH:Int):Ev M (M.cV now aH).2:=by
 unfold Mo.cV;split
 ·exact .rf rfl rfl
 exact(Ev.looks _ M).trans (Ev.cA _ _)
structure j6 (M:Mo)(j:Nat):Prop where
 on:M.m.on=false
 sp:j<=M.C.spare
theorem j6.ev{M N:Mo}{j:Nat}(A:j6 M j)(E:Ev M N):j6 N j:=⟨E.on.trans A.on,by rw[E.g.sp];exact A.sp⟩
theorem j6.le{M:Mo}{i j:Nat}(A:j6 M j)(h:i<=j):j6 M i:=⟨A.on,ahO h A.sp⟩
theorem bM.Qi{B:Bx}{M:Mo}(O:bM B M):Ok M.C:=by
 have h:=O.k.wA M.C.A;rw[O.c]at h;exact h
def Mo.dG:Nat->Mo->Nat×Mo
 |0,M=>(0,M)
 |f+1,M=>if M.eI.1=true then((M.eI.2.dG f).1+1,(M.eI.2.dG f).2)else(0,M.eI.2)
def Mo.fI (M:Mo):Mo:={M with m:={M.m with st:=M.m.st+1}}
noncomputable def Mo.gK (M:Mo)(aH:Int):Nat×Mo:=if min aH 1048576<1 then(0,M)else if M.m.on=true then M.fI.dG (min aH 1048576).toNat else(0,M.fI.fU)
theorem rA{M N:Mo}{f:Nat}(h:M.eI=(true,N)):M.dG (f+1)=((N.dG f).1+1,(N.dG f).2):=by
 conv=>lhs;unfold Mo.dG
 rw[h];rfl
theorem rB{M N:Mo}{f:Nat}(h:M.eI=(false,N)):M.dG (f+1)=(0,N):=by
 conv=>lhs;unfold Mo.dG
 rw[h];rfl
theorem bM.fI{B:Bx}{M:Mo}(O:bM B M):bM B M.fI:=
 ⟨O.c,O.k,O.t,O.ty,O.o,O.x,O.mq,O.ck,O.al,O.lv,O.ho,O.it,O.e,O.st,O.nb,O.mg,O.mo,O.bt,O.un,O.on,O.go,O.wn,O.cf,O.n,O.lg⟩
theorem YI{M N:Mo}{c r:Nat}(h:M.take c=some (r,N)):N.m=M.m:=by
 unfold Mo.take at h;cases hc:M.C.dD c with
 |none=>rw[hc]at h;cases h
 |some o=>rw[hc]at h;cases h;rfl
theorem ET{M N:Mo}{p:Nat}(h:M.shift p=some N):N.hole=none/\N.m=M.m:=by
 unfold Mo.shift at h;cases hc:M.take (M.C.cl p)with
 |none=>rw[hc]at h;cases h
 |some o=>
  rw[hc]at h;cases h;exact⟨rfl,YI (r:=o.1) (N:=o.2) hc⟩
theorem Vd{M N:Mo}(hh:M.hole=none)(h:M.eI=(true,N)):N.hole=none/\N.m=M.m:=by
 unfold Mo.eI at h;split at h
 ·cases h
 split at h
 ·cases h;exact⟨hh,rfl⟩
 split at h
 ·next hs=>cases h;exact ET hs
 cases h
theorem kI (z:Ly)(M:Mo)(hh:M.hole=none)(fM:M.m.st<4611686018427387904)(aH:Int):aK aaY 89 [DC z.y.mo,DE DD aH] vz [SH z M]
  (λv H=>∃n N,M.gK aH=(n,N)/\v=DE DD n/\H= [SH z N]):=by
 have r7:M.gK aH=if min aH 1048576<1 then(0,M)else if M.m.on=true then M.fI.dG (min aH 1048576).toNat else(0,M.fI.fU):=rfl
 have hmle:min aH 1048576<=1048576:=alZ _ _;refine af func89 rfl ntmps89 rfl ?_;intro F _;refine ba ?_;refine Li Mi ?_;refine bn ?_;refine av ?_;refine az (t:=1) (v':=(DE DD (min aH 1048576))) rfl (by rfl) ?_;generalize min aH 1048576=m at*;refine aY ?_;by_cases h1:m<1
 ·rw[if_pos h1]at r7
  refine eJ ?_ (e:=by exact decide_eq_true h1);refine ba ?_;refine Rt [SH z M] results89 ?_;exact⟨0,M,r7,rfl,rfl⟩
 rw[if_neg h1]at r7;refine cM ?_ (e:=by exact decide_eq_false h1);refine bn ?_;refine cN λB O=>ay acC ?_;unfold nq DI;refine BV ?_;refine ay (λh s=>aD O.fI (H:= []) h (EC h (z:=z) (B:=B) (M:=M.fI) s)) ?_;rcases kQ:M.m.on with _|_
 ·rw[kQ,if_neg (by decide)]at r7
  refine bj ?_;refine zl Aq (Nb z M.fI kQ) (.cons .here .nil) DA ?_;refine bA ?_;refine Rt [SH z M.fI.fU] results89 ?_;exact⟨0,_,r7,rfl,rfl⟩
 rw[kQ,if_pos rfl]at r7;refine cY ?_;refine Lo (ι:=Mo×Nat) (FZ [5,1,25,9]) (λs=>(s.1.hole=none/\s.1.m=M.fI.m/\s.2<=m.toNat)/\M.fI.dG m.toNat=(s.2+(s.1.dG (m.toNat-s.2)).1,(s.1.dG (m.toNat-s.2)).2)) (λs=> [(5,DE DD s.2)]) (λs=> [SH z s.1]) (λs=>m.toNat-s.2) ((M.fI,0)) ⟨⟨hh,rfl,abn _⟩,(by dsimp only;rw[abj];rfl)⟩ ?_;rintro⟨N,l⟩ hI
 try dsimp only at hI⊢
 obtain⟨⟨i1,i2,i3⟩,i4⟩:=hI;have hNon:N.m.on=true:=by rw[i2];exact kQ
 refine bA ?_;by_cases hlm:(l:Int)<m
 ·obtain⟨f,hf⟩:∃f,m.toNat-l=f+1:=⟨m.toNat-l-1,by omega⟩
  rw[hf]at i4;refine zt 28 ?_ (e:=by exact decide_eq_true hlm);refine aw ?_;refine Lp (oC Aq rfl rfl (Vi z N i1 hNon) (.cons .here .nil) DA ?_);rintro v H' ⟨r,N2,GO,rfl,rfl⟩;refine bS ?_;rcases r with _|_
  ·rw[rB GO]at i4
   refine gQ ?_;refine Rt [SH z N2] results89 ?_;exact⟨l,N2,r7.trans i4,rfl,rfl⟩
  rw[rA GO]at i4;obtain⟨g1,g2⟩:=Vd i1 GO;refine cL ?_;refine Ro ((N2,l+1)) (⟨⟨g1,g2.trans i2,(by dsimp only;omega)⟩,(by dsimp only;rw[i4,show m.toNat-(l+1)=f by omega];exact Prod.ext (by dsimp only;omega) rfl)⟩) ((by dsimp only;omega))
 rw[show m.toNat-l=0 by omega]at i4;refine zf 28 ?_ (e:=by exact decide_eq_false hlm);refine kT ?_;refine Rt [SH z N] results89 ?_;exact⟨l,N,r7.trans i4,rfl,rfl⟩
theorem bM.tbl{B:Bx}{M:Mo}(O:bM B M){A:By}{V:Tb}{ty:pW}{nb mg:Nat}(d:sf B.C.A A B.W.all 0 4)(T:dC (B.C.wA A) V)(pm:V.all.Perm B.W.all)(hy:ty.ok=none->V.ob= [])(hn:V.n=B.W.n)(hmo:V.aH=B.W.aH)(BL:V.size=nb)(DR:mg=if V.st=2 then V.ob.length-V.mv else 0)(fM:V.st=2->V.mv<V.ob.length):
  bM ⟨B.C.wA A,V,ty,B.E⟩ {M with nb:=nb,mg:=mg}:=by
 have K:=O.k;have dP:=wB d (λq hq=>O.nm hq) (λq hq=>by have:=((O.nm hq).br K).2.1;omega);have same:∀q∈B.W.all,mM A q=mM B.C.A q:=λq h=>wu K dP (O.nm h) (O.t.it q h) λj s=>by obtain⟨_,_,s3⟩:=s;omega
 have iG:∀q,Live (B.C.wA A) q↔Live B.C q:=λq=>⟨λh=>⟨⟨h.i,h.own,h.al,h.k⟩,h.tk⟩,λh=>h.wA _⟩;refine⟨?_,K.wA A,T,hy,L7 K O.o dP (λj q hq u g=>S04 g),O.x,λj q h=> ?_,O.ck,λq=>pm.mem_iff.trans (O.al q),λq=> ?_,λq h g=>O.ho q h (pm.mem_iff.1 g),λq h=>(same q (pm.mem_iff.1 h)).trans (O.it q (pm.mem_iff.1 h)),O.e.trans (jM pm.symm),fM,BL,DR,hmo.trans O.mo, ?_,O.un,O.on,O.go,O.wn,O.cf,hn.trans O.n,λq h=>O.lg q (pm.mem_iff.1 h)⟩
 ·show B.C.wA A=M.C.wA A
  conv=>lhs;rw[O.c]
  rfl
 ·show dJ A q<16
  rw[show dJ A q=dJ B.C.A q from congrArg I3.fe (same q (O.ot h))];exact O.mq j q h
 ·show Live (B.C.wA A) q↔q∈V.all\/_
  rw[iG,pm.mem_iff];exact O.lv q
 show M.v.fE=_;rw[O.bt];exact(my _ pm).symm
def Mo.AF (M:Mo)(k:Nat):Mo:={M with mg:=M.mg-min k M.mg}
theorem bM.tst{B:Bx}{M:Mo}(O:bM B M){k:Nat}{A:By}{V:Tb}{ty:pW}(h2:B.W.st=2)(hy:ty.ok=none->V.ob= [])(S:Stp B.C B.W k A V):bM ⟨B.C.wA A,V,ty,B.E⟩ (M.AF k):=by
 have ct:=O.st h2;have DR:=O.mg;rw[if_pos h2]at DR;have hz:V.ob.length-V.mv=if B.W.mv+k<B.W.ob.length then M.mg-min k M.mg else V.ob.length-V.mv:=by
  split
  ·next g=>obtain⟨_,e1,e2⟩:=S.on g;rw[e1,e2,DR];omega
  rfl
 refine O.tbl (nb:=M.nb) (mg:=M.mg-min k M.mg) S.d S.o S.p hy S.n S.aH (S.size.trans O.nb) ?_ ?_
 ·by_cases g:B.W.mv+k<B.W.ob.length
  ·obtain⟨e0,e1,e2⟩:=S.on g
   rw[if_pos e0,e1,e2,DR];omega
  have e0:=S.off (by omega);rw[if_neg (by omega),DR];omega
 intro e;by_cases g:B.W.mv+k<B.W.ob.length
 ·obtain⟨e0,e1,e2⟩:=S.on g
  rw[e1,e2];exact g
 have e0:=S.off (by omega);omega
theorem MA{B:Bx}{M:Mo}(O:bM B M)(z:Ly)(k:Nat)(hk:k<=1099511627776):
  aK aaY 88 [DC z.y.t,DE DD k] (λ_=>True) (Cl z.y.b B.C::np z.y.t z.y.b B.W B.ty)
   (λv H=>v=DE DD (min k M.mg:Nat)/\∃A V ty,H=Cl z.y.b (B.C.wA A)::np z.y.t z.y.b V ty/\bM ⟨B.C.wA A,V,ty,B.E⟩ (M.AF k)):=by
 rcases O.t.st with⟨h0,_⟩|⟨h2,_,_⟩
 ·have hm0:=O.st0.2 h0
  have h:=(MD z.y.t z.y.b B.C O.k B.W B.ty h0 k).fr (H:=Cl z.y.b B.C::np z.y.t z.y.b B.W B.ty) (R:=Cl z.y.b B.C::np z.y.t z.y.b B.W B.ty) (lL [] _) (λk au=>au.nth 1 rfl);refine h.out ?_;rintro v H' ⟨H0,⟨rfl,rfl⟩,rfl⟩;refine⟨_,⟨by rw[hm0,amb];rfl,B.C.A,B.W,B.ty,rfl, ?_⟩,λ_ s=>s⟩;have:M.AF k=M:=by unfold Mo.AF;rw[hm0,amb];cases M;simp_all
  rw[this];exact O
 have ct:=O.st h2;have DR:=O.mg;rw[if_pos h2]at DR;obtain⟨ok,lS⟩:∃ok,B.ty.ok=some ok:=by
  cases h:B.ty.ok with
  |none=>have:=O.ty h;rw[this]at ct;simp at ct
  |some x=>exact⟨x,rfl⟩
 have hty:B.ty=⟨B.ty.nk,some ok⟩:=by rw[<-lS]
 have h:=MB z.y.t z.y.b B.C O.k B.W B.ty.nk ok O.t h2 ct k hk;rw[<-hty]at h;refine h.out ?_;rintro v H' ⟨rfl,A,V,o',rfl,hy,S⟩;exact⟨_,⟨by rw[DR],A,V,⟨B.ty.nk,o'⟩,rfl,O.tst h2 hy S⟩,λ_ s=>s⟩
def Mo.aR (M:Mo)(t:Mt):Mo:={M with v:={M.v with mt:=t}}
theorem bM.aR{B:Bx}{M:Mo}(O:bM B M)(t:Mt):bM B (M.aR t):=
 ⟨O.c,O.k,O.t,O.ty,O.o,O.x,O.mq,O.ck,O.al,O.lv,O.ho,O.it,O.e,O.st,O.nb,O.mg,O.mo,O.bt,O.un,O.on,O.go,O.wn,O.cf,O.n,O.lg⟩
theorem KA (M:Mo)(p:Nat):(M.look p).hole=M.hole/\(M.look p).m=M.m/\(M.look p).v.p=M.v.p/\(M.look p).v.mt=M.v.mt/\(M.look p).v.c=M.v.c/\(M.look p).v.bc=M.v.bc/\(M.look p).tn=M.tn:=by
 unfold Mo.look;split<;>exact⟨rfl,rfl,rfl,rfl,rfl,rfl,rfl⟩
theorem Fe:∀(l:F8) (M:Mo),(l.foldl Mo.look M).hole=M.hole/\(l.foldl Mo.look M).m=M.m/\(l.foldl Mo.look M).v.p=M.v.p/\(l.foldl Mo.look M).v.mt=M.v.mt/\(l.foldl Mo.look M).v.c=M.v.c/\(l.foldl Mo.look M).v.bc=M.v.bc/\(l.foldl Mo.look M).tn=M.tn
 | [],M=>⟨rfl,rfl,rfl,rfl,rfl,rfl,rfl⟩
 |p::l,M=>by
  obtain⟨a1,a2,a3,a4,a5,a6,a7⟩:=KA M p;obtain⟨b1,b2,b3,b4,b5,b6,b7⟩:=Fe l (M.look p);rw[ahC];exact⟨b1.trans a1,b2.trans a2,b3.trans a3,b4.trans a4,b5.trans a5,b6.trans a6,b7.trans a7⟩
theorem BB:∀(f:Nat) (M:Mo),(M.cA f).2.hole=M.hole/\(M.cA f).2.m=M.m/\(M.cA f).2.v.p=M.v.p/\(M.cA f).2.v.mt=M.v.mt/\(M.cA f).2.v.c=M.v.c/\(M.cA f).2.v.bc=M.v.bc/\(M.cA f).2.tn=M.tn
 |0,M=>⟨rfl,rfl,rfl,rfl,rfl,rfl,rfl⟩
 |f+1,M=>by
  rcases hf:M.x.find M.fP M.Q with⟨_|_,x⟩
  ·rw[rI hf];exact⟨rfl,rfl,rfl,rfl,rfl,rfl,rfl⟩
  cases hx:x.nx with
  |none=>
   unfold Mo.cA;rw[hf];dsimp only;rw[hx];exact⟨rfl,rfl,rfl,rfl,rfl,rfl,rfl⟩
  |some p=>
   rw[rH hf hx];obtain⟨a1,a2,a3,a4,a5,a6,a7⟩:=KA {M with x:=x.pass M.Q} p;obtain⟨b1,b2,b3,b4,b5,b6,b7⟩:=BB f (({M with x:=x.pass M.Q}:Mo).look p);exact⟨b1.trans a1,b2.trans a2,b3.trans a3,b4.trans a4,b5.trans a5,b6.trans a6,b7.trans a7⟩
theorem nQ (M:Mo)(now aH:Int):(M.cV now aH).2.hole=M.hole/\(M.cV now aH).2.m=M.m/\(M.cV now aH).2.v.p=M.v.p/\(M.cV now aH).2.v.mt=M.v.mt/\(M.cV now aH).2.v.c=M.v.c/\(M.cV now aH).2.v.bc=M.v.bc/\(M.cV now aH).2.tn=M.tn:=by
 unfold Mo.cV;split
 ·exact⟨rfl,rfl,rfl,rfl,rfl,rfl,rfl⟩
 unfold Mo.s8;obtain⟨a1,a2,a3,a4,a5,a6,a7⟩:=Fe (M.kW now (min aH 1048576)) M;obtain⟨b1,b2,b3,b4,b5,b6,b7⟩:=BB ((min aH 1048576).toNat-(M.kW now (min aH 1048576)).length) ((M.kW now (min aH 1048576)).foldl Mo.look M);exact⟨b1.trans a1,b2.trans a2,b3.trans a3,b4.trans a4,b5.trans a5,b6.trans a6,b7.trans a7⟩
structure DL (M N:Mo):Prop where
 h:M.hole=none->N.hole=none
 p:N.v.p=M.v.p
 mt:N.v.mt=M.v.mt
 c:N.v.c=M.v.c
 bc:N.v.bc=M.v.bc
 tn:N.tn=M.tn
 k:N.k=M.k
 w:N.kh=M.kh
theorem DL.refl (M:Mo):DL M M:=⟨id,rfl,rfl,rfl,rfl,rfl,rfl,rfl⟩
theorem DL.trans{M N O:Mo}(a:DL M N)(b:DL N O):DL M O:=⟨λh=>b.h (a.h h),b.p.trans a.p,b.mt.trans a.mt,b.c.trans a.c,b.bc.trans a.bc,b.tn.trans a.tn,b.k.trans a.k,b.w.trans a.w⟩
theorem W2 (M:Mo)(p:Nat):DL M (M.bY p):=⟨id,rfl,rfl,rfl,rfl,rfl,rfl,rfl⟩
theorem ML{M N:Mo}{p:Nat}(h:M.shift p=some N):DL M N:=by
 unfold Mo.shift at h;cases hc:M.take (M.C.cl p)with
 |none=>rw[hc]at h;cases h
 |some o=>
  rw[hc]at h;cases h;unfold Mo.take at hc;cases hd:M.C.dD (M.C.cl p)with
  |none=>rw[hd]at hc;cases hc
  |some q=>rw[hd]at hc;cases hc;exact⟨λ_=>rfl,rfl,rfl,rfl,rfl,rfl,rfl,rfl⟩
theorem Bh{M N:Mo}{r:Bool}(h:M.eI=(r,N)):DL M N/\N.m.st=M.m.st:=by
 unfold Mo.eI at h;split at h
 ·cases h;exact⟨⟨id,rfl,rfl,rfl,rfl,rfl,rfl,rfl⟩,rfl⟩
 split at h
 ·cases h;exact⟨W2 M _,rfl⟩
 split at h
 ·next hs=>cases h;exact⟨ML hs,by rw[(ET hs).2]⟩
 cases h;exact⟨⟨id,rfl,rfl,rfl,rfl,rfl,rfl,rfl⟩,rfl⟩
theorem zx:∀(f:Nat) (M:Mo),DL M (M.dG f).2/\(M.dG f).2.m.st=M.m.st
 |0,M=>⟨DL.refl M,rfl⟩
 |f+1,M=>by
  rcases hm:M.eI with⟨_|_,N⟩
  ·rw[rB hm];exact Bh hm
  rw[rA hm];obtain⟨a,b⟩:=Bh hm;obtain⟨c,d⟩:=zx f N;exact⟨a.trans c,d.trans b⟩
theorem IZ (M:Mo):DL M M.fU/\M.fU.m.st=M.m.st:=by
 unfold Mo.fU;split
 ·exact⟨DL.refl M,rfl⟩
 split
 ·exact⟨DL.refl M,rfl⟩
 split
 ·exact⟨DL.refl M,rfl⟩
 exact⟨⟨id,rfl,rfl,rfl,rfl,rfl,rfl,rfl⟩,rfl⟩
theorem iD (M:Mo)(aH:Int):DL M (M.gK aH).2/\(M.gK aH).2.m.st<=M.m.st+1:=by
 unfold Mo.gK;split
 ·exact⟨DL.refl M,Nat.le_succ _⟩
 have t:DL M M.fI:=⟨id,rfl,rfl,rfl,rfl,rfl,rfl,rfl⟩;split
 ·obtain⟨a,b⟩:=zx (min aH 1048576).toNat M.fI
  exact⟨t.trans a,by rw[b];exact abc _⟩
 obtain⟨a,b⟩:=IZ M.fI;exact⟨t.trans a,by show M.fI.fU.m.st<=_;rw[b];exact abc _⟩
structure An (p:tO):Prop where
 b:0<=p.b/\p.b<=1048576
 l:0<=p.l/\p.l<=1048576
 c:0<=p.c/\p.c<=1048576
 m:0<=p.m/\p.m<=1048576
def Mo.fw (M:Mo):Mo:=(M.AF M.v.p.b.toNat).aR {M.v.mt with bu:=cm (M.v.mt.bu+(min M.v.p.b.toNat M.mg:Nat))}
noncomputable def Mo.jy (M:Mo):Mo:=(M.cV M.k.now M.v.p.c).2.aR {M.v.mt with cr:=cm (M.v.mt.cr+((M.cV M.k.now M.v.p.c).1:Nat))}
noncomputable def Mo.kY (M:Mo):Mo:=(M.gK M.v.p.m).2.aR {M.v.mt with mv:=cm (M.v.mt.mv+((M.gK M.v.p.m).1:Nat))}
noncomputable def Mo.beside (M:Mo):Mo:=M.fw.jy.kY
theorem aaR (M:Mo):M.jy.hole=M.hole/\M.jy.m=M.m/\M.jy.v.p=M.v.p:=by
 obtain⟨a1,a2,a3,a4,a5,a6,a7⟩:=nQ M M.k.now M.v.p.c;exact⟨a1,a2,a3⟩
theorem j6.gK{M:Mo}(A:j6 M 1)(aH:Int):Ev M (M.gK aH).2:=by
 have h:=A.sp;have T:Ev M M.fI:= .rf rfl rfl;unfold Mo.gK;split
 ·exact .rf rfl rfl
 rw[if_neg (by rw[A.on];decide)];unfold Mo.fU;rw[if_pos (show 0<M.fI.C.spare from(by show 0<M.C.spare;omega))];exact T
theorem PI (xe:qD)(z:Ly)(M:Mo)(hh:M.hole=none)(fM:M.m.st<4611686018427387904)(Qm:An M.v.p):aK aaY 45 [DC z.s] vz [SH z M]
  (λv H=>v= .tuple #[]/\H= [SH z M.beside]):=by
 refine af func45 rfl ntmps45 rfl ?_;intro F _;refine cN λB O=> ?_;have ts:=MA O z M.v.p.b.toNat (by have:=Qm.b;omega);rw[show((M.v.p.b.toNat:Nat):Int)=M.v.p.b by have:=Qm.b;omega]at ts;unfold eh fC jc fm pV iZ;refine bS ?_;refine av ?_;refine iL 20 mix (.cons (.t8 .here) .nil) λF1 jq bV aI=> ?_;obtain⟨q1,_⟩:=bV;refine kT ?_;refine Tp (oC Aq rfl rfl (ts) (.cons .here (.cons .here (.cons .here (.cons .here .nil)))) DA ?_);rintro v H' ⟨rfl,A,V,ty,rfl,O1⟩;refine bS ?_;have O2:=O1.aR {M.v.mt with bu:=cm (M.v.mt.bu+(min M.v.p.b.toNat M.mg:Nat))};refine aY ?_;refine gG aI ?_;refine bn ?_;refine Hh (H':= [Cl z.y.b (B.C.wA A),DS z V ty,zY ty V,DU ty V,DT z B.C.ae.length,ag z.qb 333 (M.Q.flatMap (di B.C)),Xr z B.C.ae.length B.C M.x,Wl z.y.wh B.E M.tn,ag z.s 96 [DC z.y.b,DC z.y.ck,DC z.y.t,DC z.y.lu,DC z.y.wh,DC z.y.cr,DC z.y.mo,DC z.y.q,DE DD M.v.c.aj,DE DD M.v.c.pgs,DE DD M.v.c.fac,DE DD M.v.c.bE,DE DD M.v.c.lim,DE DD M.v.c.hot,DE DD M.v.c.warm,DE DD M.v.p.b,DE DD M.v.p.l,DE DD M.v.p.c,DE DD M.v.p.m,DE DB M.v.bc,DE DD M.v.fE,DE DD M.v.mt.dr,DE DD M.v.mt.re,DE DD (IntKind.i64.wrap (M.v.mt.bu+((min M.v.p.b.toNat M.mg:Nat):Int))),DE DD M.v.mt.li,DE DD M.v.mt.lo,DE DD M.v.mt.cr,DE DD M.v.mt.mv, .slice M.v.wa M.v.wn M.v.wc],kS z.y.ck M.k,zR z,xM z M.m,kO z.ub M.m,jO M]) ?_;refine ay (aD O2 (H:= [])) ?_;have u7:M.fw.v.p=M.v.p:=rfl;have hh1:M.fw.hole=none:=hh;have zP:M.fw.m.st=M.m.st:=rfl;change G _ _ _ _ _ [SH z M.fw];rw[show M.beside=M.fw.jy.kY from rfl];generalize M.fw=M1 at*;refine cN λB3 O3=> ?_;unfold eh fC jc fm pV iZ;refine bS ?_;refine av ?_;refine iL 16 mix (.cons (.t8 .here) .nil) λF2 zU eP dE=> ?_;obtain⟨q1,_⟩:=eP;refine bD ?_;refine Tp (oZ (Aq (n:=38)) (kK z.y.ck M1.k) .nil (λ_ le au=>au.nth 8 rfl) ?_);refine ba ?_;refine gG dE ?_;refine bS ?_;refine ay (λh s=>aD O3 (H:= []) h (by revert s;revert h;unfold eh fC jc fm pV iZ;simp only[pH,cap];exact Eh)) ?_;refine Tp (oC Aq rfl rfl (FM xe z M1 M1.k.now M1.v.p.c) (.cons .here .nil) DA ?_);rintro v H' ⟨n1,t1,M2,GU,rfl,rfl⟩;refine bS ?_;obtain⟨c1,c2,c3,c4,c5,c6,c7⟩:=nQ M1 M1.k.now M1.v.p.c;have cy:M1.jy=M2.aR {M1.v.mt with cr:=cm (M1.v.mt.cr+(n1:Nat))}:=by unfold Mo.jy;rw[GU]
 rw[GU]at c1 c2 c3 c4;dsimp only at c1 c2 c3 c4;refine bA ?_;refine cN λB4 O4=> ?_;have O5:=O4.aR {M1.v.mt with cr:=cm (M1.v.mt.cr+(n1:Nat))};unfold eh fC jc fm pV iZ;rw[c4];refine bS ?_;refine gQ ?_;refine Hh (H':=gF z B4.C B4.W B4.ty B4.C.ae.length (M2.Q.flatMap (di B4.C)) M2.x B4.E M2.tn (M2.v,[DE DB M2.v.bc,DE DD M2.v.fE,DE DD M1.v.mt.dr,DE DD M1.v.mt.re,DE DD M1.v.mt.bu,DE DD M1.v.mt.li,DE DD M1.v.mt.lo,DE DD (IntKind.i64.wrap (M1.v.mt.cr+(n1:Int))),DE DD M1.v.mt.mv, .slice M2.v.wa M2.v.wn M2.v.wc]) M2.k M2.m M2 []) ?_;unfold gF pG;refine ay (aD O5 (H:= [])) ?_;obtain⟨d1,d2,d3⟩:=aaR M1;rw[u7.symm]at Qm;rw[hh1]at d1;rw[<-cy];have zO:M1.jy.m.st<4611686018427387904:=by rw[d2,zP];exact fM
 clear cy O5
 generalize M1.jy=M3 at*;refine cN λB6 O6=> ?_;unfold eh fC jc fm pV iZ;refine bS ?_;refine yf mix .nil λF3 Xg rX fA=> ?_;refine Dt 0 rfl Mv ?_;refine Dt 1 rfl Nc ?_;refine Dt 2 rfl (Fa iW) ?_;refine Dt 3 rfl (Fa jL) ?_;refine Dt 5 rfl Mv ?_;refine Dt 6 rfl Nc ?_;refine Dt 7 rfl (Fa nN) ?_;refine Dt 8 rfl (Fa Fx) ?_;refine Dt 10 rfl Mv ?_;refine Dt 11 rfl Nc ?_;refine Dt 12 rfl (Fa Fw) ?_;refine Dt 13 rfl (Fa FD) ?_;refine D3 4 9 14 ?_ ?_ ?_
 ·refine Do rfl (oL bz ?_)
  refine aw ?_;refine D2 9 14 ?_ ?_
  ·refine Do rfl (oL AI ?_)
   refine aw ?_;refine Dd 14 rfl (oL bz ?_);refine aw ?_;refine ay (λh s=>aD O6 (H:= []) h (by revert s;revert h;unfold eh fC jc fm pV iZ;simp only[pH,cap];exact Eh)) ?_;refine Dd 15 rfl (oC Aq rfl rfl (kI z M3 d1 zO M3.v.p.m) (.cons .here .nil) DA ?_);rintro v H' ⟨n2,M4,r7,rfl,rfl⟩;refine bS ?_;have sH:=(iD M3 M3.v.p.m).1.mt;rw[r7]at sH;change M4.v.mt=M3.v.mt at sH;refine cN λB7 O7=> ?_;unfold eh fC jc fm pV iZ;rw[sH];refine bS ?_;refine aw ?_;refine Dt 16 rfl Im ?_;refine Dt 17 rfl Nc ?_;refine Dt 18 rfl (Fa iW) ?_;refine Dt 19 rfl (Fa jL) ?_;refine Dd 20 rfl (oS bz ?_);refine aw ?_;refine aQ (by kernel_rfl) fA ?_;have ca:M3.kY=M4.aR {M3.v.mt with mv:=cm (M3.v.mt.mv+(n2:Nat))}:=by unfold Mo.kY;rw[r7]
   refine Hh (H':=gF z B7.C B7.W B7.ty B7.C.ae.length (M4.Q.flatMap (di B7.C)) M4.x B7.E M4.tn (M4.v,[DE DB M4.v.bc,DE DD M4.v.fE,DE DD M3.v.mt.dr,DE DD M3.v.mt.re,DE DD M3.v.mt.bu,DE DD M3.v.mt.li,DE DD M3.v.mt.lo,DE DD M3.v.mt.cr,DE DD (IntKind.i64.wrap (M3.v.mt.mv+(n2:Int))), .slice M4.v.wa M4.v.wn M4.v.wc]) M4.k M4.m M4 []) ?_;unfold gF pG;refine ay (aD (O7.aR {M3.v.mt with mv:=cm (M3.v.mt.mv+(n2:Nat))}) (H:= [])) ?_;refine j5 [SH z (M4.aR {M3.v.mt with mv:=cm (M3.v.mt.mv+(n2:Nat))})] results45 ?_;exact⟨rfl,by rw[ca]⟩
  refine Do rfl (oL bz ?_);refine aw ?_;refine Dd 9 rfl (oL AI ?_);refine aw ?_;refine ay (λh s=>aD O6 (H:= []) h (by revert s;revert h;unfold eh fC jc fm pV iZ;simp only[pH,cap];exact Eh)) ?_;refine Dd 15 rfl (oC Aq rfl rfl (kI z M3 d1 zO M3.v.p.m) (.cons .here .nil) DA ?_);rintro v H' ⟨n2,M4,r7,rfl,rfl⟩;refine bS ?_;have sH:=(iD M3 M3.v.p.m).1.mt;rw[r7]at sH;change M4.v.mt=M3.v.mt at sH;refine cN λB7 O7=> ?_;unfold eh fC jc fm pV iZ;rw[sH];refine bS ?_;refine aw ?_;refine Dt 16 rfl Im ?_;refine Dt 17 rfl Nc ?_;refine Dt 18 rfl (Fa iW) ?_;refine Dt 19 rfl (Fa jL) ?_;refine Dd 20 rfl (oS bz ?_);refine aw ?_;refine aQ (by kernel_rfl) fA ?_;have ca:M3.kY=M4.aR {M3.v.mt with mv:=cm (M3.v.mt.mv+(n2:Nat))}:=by unfold Mo.kY;rw[r7]
  refine Hh (H':=gF z B7.C B7.W B7.ty B7.C.ae.length (M4.Q.flatMap (di B7.C)) M4.x B7.E M4.tn (M4.v,[DE DB M4.v.bc,DE DD M4.v.fE,DE DD M3.v.mt.dr,DE DD M3.v.mt.re,DE DD M3.v.mt.bu,DE DD M3.v.mt.li,DE DD M3.v.mt.lo,DE DD M3.v.mt.cr,DE DD (IntKind.i64.wrap (M3.v.mt.mv+(n2:Int))), .slice M4.v.wa M4.v.wn M4.v.wc]) M4.k M4.m M4 []) ?_;unfold gF pG;refine ay (aD (O7.aR {M3.v.mt with mv:=cm (M3.v.mt.mv+(n2:Nat))}) (H:= [])) ?_;refine j5 [SH z (M4.aR {M3.v.mt with mv:=cm (M3.v.mt.mv+(n2:Nat))})] results45 ?_;exact⟨rfl,by rw[ca]⟩
 ·refine Do rfl (oL AI ?_)
  refine aw ?_;refine D2 4 14 ?_ ?_
  ·refine Do rfl (oL bz ?_)
   refine aw ?_;refine Dd 14 rfl (oL bz ?_);refine aw ?_;refine ay (λh s=>aD O6 (H:= []) h (by revert s;revert h;unfold eh fC jc fm pV iZ;simp only[pH,cap];exact Eh)) ?_;refine Dd 15 rfl (oC Aq rfl rfl (kI z M3 d1 zO M3.v.p.m) (.cons .here .nil) DA ?_);rintro v H' ⟨n2,M4,r7,rfl,rfl⟩;refine bS ?_;have sH:=(iD M3 M3.v.p.m).1.mt;rw[r7]at sH;change M4.v.mt=M3.v.mt at sH;refine cN λB7 O7=> ?_;unfold eh fC jc fm pV iZ;rw[sH];refine bS ?_;refine aw ?_;refine Dt 16 rfl Im ?_;refine Dt 17 rfl Nc ?_;refine Dt 18 rfl (Fa iW) ?_;refine Dt 19 rfl (Fa jL) ?_;refine Dd 20 rfl (oS bz ?_);refine aw ?_;refine aQ (by kernel_rfl) fA ?_;have ca:M3.kY=M4.aR {M3.v.mt with mv:=cm (M3.v.mt.mv+(n2:Nat))}:=by unfold Mo.kY;rw[r7]
   refine Hh (H':=gF z B7.C B7.W B7.ty B7.C.ae.length (M4.Q.flatMap (di B7.C)) M4.x B7.E M4.tn (M4.v,[DE DB M4.v.bc,DE DD M4.v.fE,DE DD M3.v.mt.dr,DE DD M3.v.mt.re,DE DD M3.v.mt.bu,DE DD M3.v.mt.li,DE DD M3.v.mt.lo,DE DD M3.v.mt.cr,DE DD (IntKind.i64.wrap (M3.v.mt.mv+(n2:Int))), .slice M4.v.wa M4.v.wn M4.v.wc]) M4.k M4.m M4 []) ?_;unfold gF pG;refine ay (aD (O7.aR {M3.v.mt with mv:=cm (M3.v.mt.mv+(n2:Nat))}) (H:= [])) ?_;refine j5 [SH z (M4.aR {M3.v.mt with mv:=cm (M3.v.mt.mv+(n2:Nat))})] results45 ?_;exact⟨rfl,by rw[ca]⟩
  refine Do rfl (oL bz ?_);refine aw ?_;refine D2 4 15 ?_ ?_
  ·refine Do rfl (oL bz ?_)
   refine aw ?_;refine ay (λh s=>aD O6 (H:= []) h (by revert s;revert h;unfold eh fC jc fm pV iZ;simp only[pH,cap];exact Eh)) ?_;refine Dd 15 rfl (oC Aq rfl rfl (kI z M3 d1 zO M3.v.p.m) (.cons .here .nil) DA ?_);rintro v H' ⟨n2,M4,r7,rfl,rfl⟩;refine bS ?_;have sH:=(iD M3 M3.v.p.m).1.mt;rw[r7]at sH;change M4.v.mt=M3.v.mt at sH;refine cN λB7 O7=> ?_;unfold eh fC jc fm pV iZ;rw[sH];refine bS ?_;refine aw ?_;refine Dt 16 rfl Im ?_;refine Dt 17 rfl Nc ?_;refine Dt 18 rfl (Fa iW) ?_;refine Dt 19 rfl (Fa jL) ?_;refine Dd 20 rfl (oS bz ?_);refine aw ?_;refine aQ (by kernel_rfl) fA ?_;have ca:M3.kY=M4.aR {M3.v.mt with mv:=cm (M3.v.mt.mv+(n2:Nat))}:=by unfold Mo.kY;rw[r7]
   refine Hh (H':=gF z B7.C B7.W B7.ty B7.C.ae.length (M4.Q.flatMap (di B7.C)) M4.x B7.E M4.tn (M4.v,[DE DB M4.v.bc,DE DD M4.v.fE,DE DD M3.v.mt.dr,DE DD M3.v.mt.re,DE DD M3.v.mt.bu,DE DD M3.v.mt.li,DE DD M3.v.mt.lo,DE DD M3.v.mt.cr,DE DD (IntKind.i64.wrap (M3.v.mt.mv+(n2:Int))), .slice M4.v.wa M4.v.wn M4.v.wc]) M4.k M4.m M4 []) ?_;unfold gF pG;refine ay (aD (O7.aR {M3.v.mt with mv:=cm (M3.v.mt.mv+(n2:Nat))}) (H:= [])) ?_;refine j5 [SH z (M4.aR {M3.v.mt with mv:=cm (M3.v.mt.mv+(n2:Nat))})] results45 ?_;exact⟨rfl,by rw[ca]⟩
  refine ay (λh s=>aD O6 (H:= []) h (by revert s;revert h;unfold eh fC jc fm pV iZ;simp only[pH,cap];exact Eh)) ?_;refine Do rfl (oC Aq rfl rfl (kI z M3 d1 zO M3.v.p.m) (.cons .here .nil) DA ?_);rintro v H' ⟨n2,M4,r7,rfl,rfl⟩;refine bS ?_;have sH:=(iD M3 M3.v.p.m).1.mt;rw[r7]at sH;change M4.v.mt=M3.v.mt at sH;refine cN λB7 O7=> ?_;unfold eh fC jc fm pV iZ;rw[sH];refine bS ?_;refine aw ?_;refine Dd 4 rfl (oL bz ?_);refine aw ?_;refine Dt 16 rfl Im ?_;refine Dt 17 rfl Nc ?_;refine Dt 18 rfl (Fa iW) ?_;refine Dt 19 rfl (Fa jL) ?_;refine Dd 20 rfl (oS bz ?_);refine aw ?_;refine aQ (by kernel_rfl) fA ?_;have ca:M3.kY=M4.aR {M3.v.mt with mv:=cm (M3.v.mt.mv+(n2:Nat))}:=by unfold Mo.kY;rw[r7]
  refine Hh (H':=gF z B7.C B7.W B7.ty B7.C.ae.length (M4.Q.flatMap (di B7.C)) M4.x B7.E M4.tn (M4.v,[DE DB M4.v.bc,DE DD M4.v.fE,DE DD M3.v.mt.dr,DE DD M3.v.mt.re,DE DD M3.v.mt.bu,DE DD M3.v.mt.li,DE DD M3.v.mt.lo,DE DD M3.v.mt.cr,DE DD (IntKind.i64.wrap (M3.v.mt.mv+(n2:Int))), .slice M4.v.wa M4.v.wn M4.v.wc]) M4.k M4.m M4 []) ?_;unfold gF pG;refine ay (aD (O7.aR {M3.v.mt with mv:=cm (M3.v.mt.mv+(n2:Nat))}) (H:= [])) ?_;refine j5 [SH z (M4.aR {M3.v.mt with mv:=cm (M3.v.mt.mv+(n2:Nat))})] results45 ?_;exact⟨rfl,by rw[ca]⟩
 refine Do rfl (oL bz ?_);refine aw ?_;refine D2 4 9 ?_ ?_
 ·refine Do rfl (oL bz ?_)
  refine aw ?_;refine Dd 9 rfl (oL AI ?_);refine aw ?_;refine ay (λh s=>aD O6 (H:= []) h (by revert s;revert h;unfold eh fC jc fm pV iZ;simp only[pH,cap];exact Eh)) ?_;refine Dd 15 rfl (oC Aq rfl rfl (kI z M3 d1 zO M3.v.p.m) (.cons .here .nil) DA ?_);rintro v H' ⟨n2,M4,r7,rfl,rfl⟩;refine bS ?_;have sH:=(iD M3 M3.v.p.m).1.mt;rw[r7]at sH;change M4.v.mt=M3.v.mt at sH;refine cN λB7 O7=> ?_;unfold eh fC jc fm pV iZ;rw[sH];refine bS ?_;refine aw ?_;refine Dt 16 rfl Im ?_;refine Dt 17 rfl Nc ?_;refine Dt 18 rfl (Fa iW) ?_;refine Dt 19 rfl (Fa jL) ?_;refine Dd 20 rfl (oS bz ?_);refine aw ?_;refine aQ (by kernel_rfl) fA ?_;have ca:M3.kY=M4.aR {M3.v.mt with mv:=cm (M3.v.mt.mv+(n2:Nat))}:=by unfold Mo.kY;rw[r7]
  refine Hh (H':=gF z B7.C B7.W B7.ty B7.C.ae.length (M4.Q.flatMap (di B7.C)) M4.x B7.E M4.tn (M4.v,[DE DB M4.v.bc,DE DD M4.v.fE,DE DD M3.v.mt.dr,DE DD M3.v.mt.re,DE DD M3.v.mt.bu,DE DD M3.v.mt.li,DE DD M3.v.mt.lo,DE DD M3.v.mt.cr,DE DD (IntKind.i64.wrap (M3.v.mt.mv+(n2:Int))), .slice M4.v.wa M4.v.wn M4.v.wc]) M4.k M4.m M4 []) ?_;unfold gF pG;refine ay (aD (O7.aR {M3.v.mt with mv:=cm (M3.v.mt.mv+(n2:Nat))}) (H:= [])) ?_;refine j5 [SH z (M4.aR {M3.v.mt with mv:=cm (M3.v.mt.mv+(n2:Nat))})] results45 ?_;exact⟨rfl,by rw[ca]⟩
 refine Do rfl (oL AI ?_);refine aw ?_;refine D2 4 15 ?_ ?_
 ·refine Do rfl (oL bz ?_)
  refine aw ?_;refine ay (λh s=>aD O6 (H:= []) h (by revert s;revert h;unfold eh fC jc fm pV iZ;simp only[pH,cap];exact Eh)) ?_;refine Dd 15 rfl (oC Aq rfl rfl (kI z M3 d1 zO M3.v.p.m) (.cons .here .nil) DA ?_);rintro v H' ⟨n2,M4,r7,rfl,rfl⟩;refine bS ?_;have sH:=(iD M3 M3.v.p.m).1.mt;rw[r7]at sH;change M4.v.mt=M3.v.mt at sH;refine cN λB7 O7=> ?_;unfold eh fC jc fm pV iZ;rw[sH];refine bS ?_;refine aw ?_;refine Dt 16 rfl Im ?_;refine Dt 17 rfl Nc ?_;refine Dt 18 rfl (Fa iW) ?_;refine Dt 19 rfl (Fa jL) ?_;refine Dd 20 rfl (oS bz ?_);refine aw ?_;refine aQ (by kernel_rfl) fA ?_;have ca:M3.kY=M4.aR {M3.v.mt with mv:=cm (M3.v.mt.mv+(n2:Nat))}:=by unfold Mo.kY;rw[r7]
  refine Hh (H':=gF z B7.C B7.W B7.ty B7.C.ae.length (M4.Q.flatMap (di B7.C)) M4.x B7.E M4.tn (M4.v,[DE DB M4.v.bc,DE DD M4.v.fE,DE DD M3.v.mt.dr,DE DD M3.v.mt.re,DE DD M3.v.mt.bu,DE DD M3.v.mt.li,DE DD M3.v.mt.lo,DE DD M3.v.mt.cr,DE DD (IntKind.i64.wrap (M3.v.mt.mv+(n2:Int))), .slice M4.v.wa M4.v.wn M4.v.wc]) M4.k M4.m M4 []) ?_;unfold gF pG;refine ay (aD (O7.aR {M3.v.mt with mv:=cm (M3.v.mt.mv+(n2:Nat))}) (H:= [])) ?_;refine j5 [SH z (M4.aR {M3.v.mt with mv:=cm (M3.v.mt.mv+(n2:Nat))})] results45 ?_;exact⟨rfl,by rw[ca]⟩
 refine ay (λh s=>aD O6 (H:= []) h (by revert s;revert h;unfold eh fC jc fm pV iZ;simp only[pH,cap];exact Eh)) ?_;refine Do rfl (oC Aq rfl rfl (kI z M3 d1 zO M3.v.p.m) (.cons .here .nil) DA ?_);rintro v H' ⟨n2,M4,r7,rfl,rfl⟩;refine bS ?_;have sH:=(iD M3 M3.v.p.m).1.mt;rw[r7]at sH;change M4.v.mt=M3.v.mt at sH;refine cN λB7 O7=> ?_;unfold eh fC jc fm pV iZ;rw[sH];refine bS ?_;refine aw ?_;refine Dd 4 rfl (oL bz ?_);refine aw ?_;refine Dt 16 rfl Im ?_;refine Dt 17 rfl Nc ?_;refine Dt 18 rfl (Fa iW) ?_;refine Dt 19 rfl (Fa jL) ?_;refine Dd 20 rfl (oS bz ?_);refine aw ?_;refine aQ (by kernel_rfl) fA ?_;have ca:M3.kY=M4.aR {M3.v.mt with mv:=cm (M3.v.mt.mv+(n2:Nat))}:=by unfold Mo.kY;rw[r7]
 refine Hh (H':=gF z B7.C B7.W B7.ty B7.C.ae.length (M4.Q.flatMap (di B7.C)) M4.x B7.E M4.tn (M4.v,[DE DB M4.v.bc,DE DD M4.v.fE,DE DD M3.v.mt.dr,DE DD M3.v.mt.re,DE DD M3.v.mt.bu,DE DD M3.v.mt.li,DE DD M3.v.mt.lo,DE DD M3.v.mt.cr,DE DD (IntKind.i64.wrap (M3.v.mt.mv+(n2:Int))), .slice M4.v.wa M4.v.wn M4.v.wc]) M4.k M4.m M4 []) ?_;unfold gF pG;refine ay (aD (O7.aR {M3.v.mt with mv:=cm (M3.v.mt.mv+(n2:Nat))}) (H:= [])) ?_;refine j5 [SH z (M4.aR {M3.v.mt with mv:=cm (M3.v.mt.mv+(n2:Nat))})] results45 ?_;exact⟨rfl,by rw[ca]⟩
def Mo.find (M:Mo)(k:F9):FW:=M.Q.flatten.find? λp=>decide ((M.it p).key=k)
theorem bM.Re{B:Bx}{M:Mo}(O:bM B M)(k:F9):B.W.get B.C k=M.find k:=by
 have hk:∀p∈B.W.all,aO B.C.A p=(M.it p).key:=λp hp=>(O.jx hp).2.2.2.2.1;cases hf:M.find k with
 |none=>
  unfold Mo.find at hf;rw[ahL]at hf;refine get_none λp hp e=>hf p (O.perm.mem_iff.1 hp) (decide_eq_true ?_);rw[<-hk p hp];exact e
 |some p=>
  unfold Mo.find at hf;have h1:=ac4 hf;have h2:(M.it p).key=k:=by simpa using alD hf
  have hp:=O.perm.mem_iff.2 h1;exact get_some O.t hp ((hk p hp).trans h2)
theorem nP{M:Mo}{k:F9}{p:Nat}(h:M.find k=some p):M.has p/\(M.it p).key=k:=by
 unfold Mo.find at h;exact⟨gz.1 (ac4 h),by simpa using alD h⟩
def Mo.lru (M:Mo):ny:=⟨M.Q,λp=>decide ((M.it p).fe % 2=1),M.x⟩
def Mo.B5 (M:Mo)(t:ny):Mo:={M with Q:=t.Q,x:=t.x,it:=λp=>{M.it p with fe:=mkSet (M.it p).fe (t.ac p)}}
theorem HB{C:Cs}(K:Ok C){B:By}{S:Nat->Nat->Prop}(d:dm C C.A B S){p:Nat}(L:At C p)(I:gU C p)(h:∀j,S p j->j<16\/j=45\/j=46):mM B p={mM C.A p with fe:=dJ B p}:=by
 have n1:=(L.br K).2.1;have hf:=I.fits;have r:=λ(o w:Nat) (h2:o+w<=C.sz (C.cl p)) (h3:∀j,o<=j->j<o+w->¬(j<16\/j=45\/j=46))=>lJ K d L h2 (λj g1 g2 s=>h3 j g1 g2 (h j s));have e1:kl B p=kl C.A p:=r 44 1 (by omega) (λj g1 g2=>by omega);have e2:vl B p=vl C.A p:=r 48 4 (by omega) (λj g1 g2=>by omega);have e3:aO B p=aO C.A p:=by
  unfold aO;rw[e1];exact wE K d L (by omega) (λj g1 g2 s=>by have:=h j s;omega)
 have e4:ko B p=ko C.A p:=by
  unfold ko;rw[e1,e2,ah8];exact wE K d L (by omega) (λj g1 g2 s=>by have:=h j s;omega)
 unfold mM Qw ve lU sK;rw[e3,e4,r 40 4 (by omega) (λj g1 g2=>by omega),r 16 8 (by omega) (λj g1 g2=>by omega),r 24 8 (by omega) (λj g1 g2=>by omega),r 32 8 (by omega) (λj g1 g2=>by omega)]
theorem bM.bai{B:Bx}{M:Mo}(O:bM B M):BaI B.C B.C.A M.lru:=
 ⟨O.o,O.x,O.mq,λi p h=>by unfold DY;rw[(O.w8 (O.ot h)).1];rfl⟩
theorem bM.bal{B:Bx}{M:Mo}(O:bM B M){A:By}{t:ny}(T:Ml B.C M.Q A t):bM ⟨B.C.wA A,B.W,B.ty,B.E⟩ (M.B5 t):=by
 have K:=O.k;have hS:∀q j,SB q j->j<16\/j=45\/j=46:=λq j s=>by unfold SB at s;omega
 have lG:∀p∈B.W.all,mM A p={M.it p with fe:=mkSet (M.it p).fe (t.ac p)}:=λp hp=>by
  rw[HB K T.d (O.nm hp) (O.t.it p hp) (λj s=>hS p j s),O.it p hp];obtain⟨i,hi⟩:=(T.mem p).2 ((O.al p).1 hp);have h1:=T.mr p (O.tH hp);have h2:=T.i.ac i p hi;have h3:=(O.w8 hp).1;have h4:dJ A p=mkSet (M.it p).fe (t.ac p):=by
   unfold mkSet;rw[<-h3,<-h2,<-h1];unfold DY;by_cases e:dJ A p % 2=1
   ·rw[decide_eq_true e,if_pos rfl];omega
   rw[decide_eq_false e,if_neg (by decide)];omega
  rw[h4]
 have iG:∀q,Live (B.C.wA A) q↔Live B.C q:=λq=>⟨λh=>⟨⟨h.i,h.own,h.al,h.k⟩,h.tk⟩,λh=>h.wA _⟩;refine⟨?_,K.wA A,GZ K O.t T.d λp _ j s=>by unfold SB at s;unfold mL;omega,O.ty,T.i.o,T.i.x,T.i.mq,O.ck,λp=>(O.al p).trans (T.mem p).symm,λq=>(iG q).trans (O.lv q),O.ho,lG, ?_,O.st,O.nb,O.mg,O.mo,O.bt,O.un,O.on,O.go,O.wn,O.cf,O.n,O.lg⟩
 ·show B.C.wA A=M.C.wA A
  conv=>lhs;rw[O.c]
  rfl
 exact O.e.trans (abd.of_eq (fY λq h=>⟨rfl,rfl,rfl⟩).symm)
def Mo.aN (M:Mo)(a:FX)(c:Nat):Mo:={M with v:={M.v with wa:=a,wn:=M.kh.length,wc:=c}}
def SW (z:Ly)(M:Mo):aa:=λh=>∃w:FX×Nat,SH z (M.aN w.1 w.2) h
theorem xl{P:Program}{f:FuncId}{args:FV}{pre:Hp->Prop}{H:Dz}{R:DF}{z:Ly}{M:Mo}(h:∀a c,aK P f args pre (SH z (M.aN a c)::H) R):aK P f args pre (SW z M::H) R:=
 aK.exL λw=>h w.1 w.2
theorem hZ{z:Ly}{M:Mo}(a:FX)(c:Nat){H:Dz}:∀h,ai (SH z (M.aN a c)::H) h->ai (SW z M::H) h:=λh s=>
 bo (λk x=>⟨(a,c),x⟩) s
theorem AL{n:Nat}{ds:Dx}{F:dM}{K:F7}{σ:aT}{z:Ly}{M:Mo}{H:Dz}(h:∀a c,G n ds F K σ (SH z (M.aN a c)::H)):G n ds F K σ (SW z M::H):=
 aja λw=>h w.1 w.2
theorem ab7{n:Nat}{ds:Dx}{F:dM}{K:F7}{σ:aT}{z:Ly}{M:Mo}{H:Dz}(a:FX)(c:Nat)(h:G n ds F K σ (SW z M::H)):G n ds F K σ (SH z (M.aN a c)::H):=
 ay (hZ a c) h
theorem je{P:Program}{f:FuncId}{args:FV}{z:Ly}{M N:Mo}{T:Value->Prop}(h:∀a c,aK P f args (λ_=>True) [SH z (M.aN a c)] (λv H=>T v/\H= [SH z (N.aN a c)])):aK P f args (λ_=>True) [SW z M] (λv H=>T v/\H= [SW z N]):=
 xl λa c=>(h a c).out (by
  rintro v H' ⟨t,rfl⟩;exact⟨[SW z N],⟨t,rfl⟩,λk s=>hZ a c k s⟩)
theorem MH (z:Ly)(M:Mo)(p:Nat)(hp:M.has p):aK aaY 48 [DC z.s,DE DB (M.C.hd p)] vz [SW z M]
  (λv H=>v= .bool (decide (M.cE p≠0))/\H= [SW z M]):=
 je (N:=M) (T:=λv=>v= .bool (decide (M.cE p≠0))) λa d=>by
  have h:=vJ z (M.aN a d) p hp;exact h
theorem Iz (z:Ly)(M:Mo)(p:Nat)(hp:M.has p):aK aaY 97 [DC z.s,DE DB (M.C.hd p)] vz [SW z M]
  (λv H=>v=DE DD (M.cE p)/\H= [SW z M]):=
 je (N:=M) (T:=λv=>v=DE DD (M.cE p)) λa d=>by
  have h:=IL z (M.aN a d) p hp;exact h
theorem vG (z:Ly)(M:Mo)(p:Nat)(hp:M.has p):aK aaY 85 [DC z.s,DE DB (M.C.hd p)] vz [SW z M]
  (λv H=>v= .tuple #[]/\H= [SW z (M.bY p)]):=
 je (N:=M.bY p) (T:=λv=>v= .tuple #[]) λa d=>by
  have h:=jW z (M.aN a d) p hp;rw[show(M.aN a d).bY p=(M.bY p).aN a d from rfl]at h;exact h
theorem yG (z:Ly)(M:Mo)(p:Nat)(hp:M.has p):aK aaY 122 [DC z.s,DE DB (M.C.hd p)] vz [SW z M]
  (λv H=>v= .tuple #[]/\H= [SW z (M.lG p)]):=
 je (N:=M.lG p) (T:=λv=>v= .tuple #[]) λa d=>by
  have h:=Uw z (M.aN a d) p hp;rw[show(M.aN a d).lG p=(M.lG p).aN a d from rfl]at h;exact h
theorem IB (z:Ly)(M:Mo)(p c:Nat)(hc:c<4)(hp:M.has p):aK aaY 127 [DC z.s,DE DB (M.C.hd p),DE DD (c*2:Nat)] vz [SW z M]
  (λv H=>v= .tuple #[]/\H= [SW z (M.marks p c)]):=
 je (N:=M.marks p c) (T:=λv=>v= .tuple #[]) λa d=>by
  have h:=IN z (M.aN a d) p c hc hp;rw[show(M.aN a d).marks p c=(M.marks p c).aN a d from rfl]at h;exact h
theorem th (z:Ly)(M:Mo)(p:Nat)(hp:M.has p)(t:Int)(ht:t<9223372036854775808)(wb:M.tn<18446744073709551615):aK aaY 121 [DC z.s,DE DB (M.C.hd p),DE DD t] vz [SW z M]
  (λv H=>v= .tuple #[]/\H= [SW z (M.time p (gR M.k.now t))]):=
 je (N:=M.time p (gR M.k.now t)) (T:=λv=>v= .tuple #[]) λa d=>by
  have h:=IK z (M.aN a d) p hp t ht wb;rw[show(M.aN a d).time p (gR (M.aN a d).k.now t)=(M.time p (gR M.k.now t)).aN a d from rfl]at h;exact h
theorem RX (M:Mo)(p:Nat)(a:FX)(c:Nat):(M.aN a c).look p=(M.look p).aN a c:=by
 unfold Mo.look;rw[show(M.aN a c).cE p=M.cE p from rfl];split<;>rfl
theorem Kz (a:FX)(c:Nat):∀(l:F8) (M:Mo),l.foldl Mo.look (M.aN a c)=(l.foldl Mo.look M).aN a c
 | [],_=>rfl
 |p::l,M=>by rw[ahC,ahC,RX,Kz a c l]
theorem FJ (a:FX)(c:Nat):∀(f:Nat) (M:Mo),(M.aN a c).cA f=((M.cA f).1,(M.cA f).2.aN a c)
 |0,_=>rfl
 |f+1,M=>by
  rcases hf:M.x.find M.fP M.Q with⟨_|_,x⟩
  ·rw[rI hf,rI (M:=M.aN a c) hf];rfl
  cases hx:x.nx with
  |none=>
   unfold Mo.cA;rw[show(M.aN a c).x.find (M.aN a c).fP (M.aN a c).Q=(true,x)from hf,hf];dsimp only;rw[hx];rfl
  |some p=>
   rw[rH hf hx,rH (M:=M.aN a c) hf hx];have e:(({M.aN a c with x:=x.pass (M.aN a c).Q}:Mo).look p)=(({M with x:=x.pass M.Q}:Mo).look p).aN a c:=RX {M with x:=x.pass M.Q} p a c;rw[e,FJ a c f]
theorem Lm (M:Mo)(now aH:Int)(a:FX)(c:Nat):(M.aN a c).cV now aH=((M.cV now aH).1,(M.cV now aH).2.aN a c):=by
 unfold Mo.cV;split
 ·rfl
 unfold Mo.s8;rw[show(M.aN a c).kW now (min aH 1048576)=M.kW now (min aH 1048576)from rfl,Kz,FJ]
theorem Cd (M:Mo)(d:Nat)(a:FX)(c:Nat):(M.aN a c).take d=(M.take d).map λo=>(o.1,o.2.aN a c):=by
 unfold Mo.take;rw[show(M.aN a c).C=M.C from rfl];cases M.C.dD d<;>rfl
theorem YV (M:Mo)(p:Nat)(a:FX)(c:Nat):(M.aN a c).shift p=(M.shift p).map λN=>N.aN a c:=by
 unfold Mo.shift;rw[show(M.aN a c).C.cl p=M.C.cl p from rfl,Cd];cases M.take (M.C.cl p)<;>rfl
theorem ZK (M:Mo)(a:FX)(c:Nat):(M.aN a c).eI=(M.eI.1,M.eI.2.aN a c):=by
 unfold Mo.eI;rw[show((M.aN a c).C.pg (M.aN a c).m.pg)=M.C.pg M.m.pg from rfl];cases (M.C.pg M.m.pg).tk.findIdx? id with
 |none=>rfl
 |some k=>
  dsimp only;rw[show(M.aN a c).C.pS (M.aN a c).m.pg k=M.C.pS M.m.pg k from rfl,show(M.aN a c).cE (M.C.pS M.m.pg k)=M.cE (M.C.pS M.m.pg k)from rfl,YV];split
  ·rfl
  ·cases M.shift (M.C.pS M.m.pg k)<;>rfl
theorem Fb (a:FX)(c:Nat):∀(f:Nat) (M:Mo),(M.aN a c).dG f=((M.dG f).1,(M.dG f).2.aN a c)
 |0,_=>rfl
 |f+1,M=>by
  have h:=ZK M a c;rcases hm:M.eI with⟨_|_,N⟩
  ·rw[hm]at h
   rw[rB hm,rB h]
  rw[hm]at h;rw[rA hm,rA h,Fb a c f]
theorem Vg (M:Mo)(a:FX)(c:Nat):(M.aN a c).fU=M.fU.aN a c:=by
 unfold Mo.fU;rw[show(M.aN a c).C=M.C from rfl,show(M.aN a c).m=M.m from rfl,show(M.aN a c).fP=M.fP from rfl];split
 ·rfl
 cases (acA M.fP).find? M.m.eZ with
 |none=>rfl
 |some t=>
  dsimp only;cases gh M.m M.C M.fP<;>rfl
theorem ZI (M:Mo)(aH:Int)(a:FX)(c:Nat):(M.aN a c).gK aH=((M.gK aH).1,(M.gK aH).2.aN a c):=by
 unfold Mo.gK;rw[show(M.aN a c).fI=M.fI.aN a c from rfl,show(M.aN a c).m=M.m from rfl,Fb,Vg];split
 ·rfl
 ·split<;>rfl
theorem WX (M:Mo)(a:FX)(c:Nat):(M.aN a c).beside=M.beside.aN a c:=by
 have h1:∀N:Mo,(N.aN a c).jy=N.jy.aN a c:=λN=>by
  unfold Mo.jy;rw[show(N.aN a c).k=N.k from rfl,show(N.aN a c).v.p=N.v.p from rfl,Lm];rfl
 have h2:∀N:Mo,(N.aN a c).kY=N.kY.aN a c:=λN=>by
  unfold Mo.kY;rw[show(N.aN a c).v.p=N.v.p from rfl,ZI];rfl
 unfold Mo.beside;rw[show(M.aN a c).fw=M.fw.aN a c from rfl,h1,h2]
theorem wJ (xe:qD)(z:Ly)(M:Mo)(hh:M.hole=none)(fM:M.m.st<4611686018427387904)(Qm:An M.v.p):aK aaY 45 [DC z.s] vz [SW z M]
  (λv H=>v= .tuple #[]/\H= [SW z M.beside]):=
 je (N:=M.beside) (T:=λv=>v= .tuple #[]) λa d=>by
  have h:=PI xe z (M.aN a d) hh fM Qm;rw[WX]at h;exact h
def Mo.fJ (M:Mo)(w:Nat):Mo:={M with kh:=M.kh++ [w]}
def rO (C:Cs):FW->Nat
 |none=>0
 |some p=>C.hd p
def Mo.meet (M:Mo)(k:F9):FW×Mo:=match M.find k with
 |none=>(none,M.fJ 1)
 |some p=>if M.cE p≠0 then(none,(M.fJ (M.cE p)).bY p)else(some p,M.fJ 0)
theorem bM.fJ{B:Bx}{M:Mo}(O:bM B M)(w:Nat)(a:FX)(c:Nat):bM B ((M.fJ w).aN a c):=
 ⟨O.c,O.k,O.t,O.ty,O.o,O.x,O.mq,O.ck,O.al,O.lv,O.ho,O.it,O.e,O.st,O.nb,O.mg,O.mo,O.bt,O.un,O.on,O.go,rfl,O.cf,O.n,O.lg⟩
theorem QH{B:Bx}{M:Mo}(O:bM B M)(o:FW):hO B.C o=rO M.C o:=by
 cases o with
 |none=>rfl
 |some p=>rw[cj,O.hd];rfl
theorem yI (z:Ly)(M:Mo)(k:F9)(hk:k.length<281474976710656)(hw:M.kh.length<1073741824):aK aaY 120 [DC z.s,aW k] vz [SW z M]
  (λv H=>v=DE DB (rO M.C (M.meet k).1)/\H= [SW z (M.meet k).2]):=by
 refine af func120 rfl ntmps120 rfl ?_;intro F _;refine AL λwa wc=>cN λB O=> ?_;have tf:=λa c=>nI z.y.t z.y.b B.C O.k B.W B.ty O.t O.ty a k.length c k rfl hk;rw[O.Re,show(M.aN wa wc).find k=M.find k from rfl,QH O,show(M.aN wa wc).C=M.C from rfl]at tf;have hnl:(aE M.kh).length=M.kh.length:=fq M.kh;unfold eh fC jc fm pV iZ jO;dsimp only[Mo.aN];refine bS ?_;refine bD ?_;refine Lp (DH sE mK tL λkb kc tI=> ?_);refine zl Aq (tf _ _) .nil (λ_ le au=>⟨au.nth 1 rfl,⟨au.nth 2 rfl,au.nth 3 rfl,au.nth 4 rfl,trivial⟩,bK (au.nth 0 rfl)⟩) ?_;rcases hf:M.find k with _|p
 ·have hme:M.meet k=(none,M.fJ 1):=by unfold Mo.meet;rw[hf]
  refine sI ?_;refine Lp (oT gk λb1=> ?_);refine Lp (bI gk qy rfl rfl rfl rfl (.t8 (.t4 (.t2 .here))) (by first|rfl|(simp;done)|(simp;omega)|omega) (rfl) (by simp[Value.oneCell']) (by first|omega|(simp;omega)) (by first|omega|(simp;omega)) rfl λa5 c5 hc5=> ?_);refine cu ?_;rw[show aE M.kh++ [DE DD 1]=aE (M.kh++ [1]) by unfold aE;rw[adb];rfl,show M.kh.length+1=(M.kh++ [1]).length by simp];refine Hh (H':= [Cl z.y.b B.C,DS z B.W B.ty,zY B.ty B.W,DU B.ty B.W,DT z B.C.ae.length,ag z.qb 333 (M.Q.flatMap (di B.C)),Xr z B.C.ae.length B.C M.x,Wl z.y.wh B.E M.tn,ag z.s 96 [DC z.y.b,DC z.y.ck,DC z.y.t,DC z.y.lu,DC z.y.wh,DC z.y.cr,DC z.y.mo,DC z.y.q,DE DD M.v.c.aj,DE DD M.v.c.pgs,DE DD M.v.c.fac,DE DD M.v.c.bE,DE DD M.v.c.lim,DE DD M.v.c.hot,DE DD M.v.c.warm,DE DD M.v.p.b,DE DD M.v.p.l,DE DD M.v.p.c,DE DD M.v.p.m,DE DB M.v.bc,DE DD M.v.fE,DE DD M.v.mt.dr,DE DD M.v.mt.re,DE DD M.v.mt.bu,DE DD M.v.mt.li,DE DD M.v.mt.lo,DE DD M.v.mt.cr,DE DD M.v.mt.mv, .slice a5 (M.kh++ [1]).length c5],kS z.y.ck M.k,zR z,xM z M.m,kO z.ub M.m,own a5 c5 3 1 (aE (M.kh++ [1]))]) ?_;refine ay (aD (O.fJ 1 a5 c5) (H:= [])) ?_;refine ay (hZ (M:=M.fJ 1) a5 c5) ?_;refine Rt [SW z (M.fJ 1)] results120 ?_;exact⟨by rw[hme];rfl,by rw[hme]⟩
 obtain⟨hp,oF⟩:=nP hf;have hme:M.meet k=if M.cE p≠0 then(none,(M.fJ (M.cE p)).bY p)else(some p,M.fJ 0):=by unfold Mo.meet;rw[hf]
 refine fu ?_;refine Hh (H':= [Cl z.y.b B.C,DS z B.W B.ty,zY B.ty B.W,DU B.ty B.W,DT z B.C.ae.length,ag z.qb 333 (M.Q.flatMap (di B.C)),Xr z B.C.ae.length B.C M.x,Wl z.y.wh B.E M.tn,ag z.s 96 [DC z.y.b,DC z.y.ck,DC z.y.t,DC z.y.lu,DC z.y.wh,DC z.y.cr,DC z.y.mo,DC z.y.q,DE DD M.v.c.aj,DE DD M.v.c.pgs,DE DD M.v.c.fac,DE DD M.v.c.bE,DE DD M.v.c.lim,DE DD M.v.c.hot,DE DD M.v.c.warm,DE DD M.v.p.b,DE DD M.v.p.l,DE DD M.v.p.c,DE DD M.v.p.m,DE DB M.v.bc,DE DD M.v.fE,DE DD M.v.mt.dr,DE DD M.v.mt.re,DE DD M.v.mt.bu,DE DD M.v.mt.li,DE DD M.v.mt.lo,DE DD M.v.mt.cr,DE DD M.v.mt.mv, .slice wa M.kh.length wc],kS z.y.ck M.k,zR z,xM z M.m,kO z.ub M.m,own wa wc 3 1 (aE M.kh)]) ?_;refine ay (aD O (H:= [])) ?_;refine ay (hZ (M:=M) wa wc) ?_;refine bj ?_;refine zl Aq (Iz z M p hp) (.cons .here .nil) DA ?_;refine bn ?_;refine AL λwa wc=>cN λB O=> ?_;unfold eh fC jc fm pV iZ jO;dsimp only[Mo.aN];refine bS ?_;refine bL ?_;refine Lp (oT gk λb2=> ?_);refine Lp (bI gk qy rfl rfl rfl rfl (.t8 (.t4 (.there .here))) (by first|rfl|(simp;done)|(simp;omega)|omega) (rfl) (by simp[Value.oneCell']) (by first|omega|(simp;omega)) (by first|omega|(simp;omega)) rfl λa5 c5 hc5=> ?_);refine aY ?_;refine av ?_;rw[show aE M.kh++ [DE DD (M.cE p)]=aE (M.kh++ [M.cE p]) by unfold aE;rw[adb];rfl,show M.kh.length+1=(M.kh++ [M.cE p]).length by simp];refine Hh (H':= [Cl z.y.b B.C,DS z B.W B.ty,zY B.ty B.W,DU B.ty B.W,DT z B.C.ae.length,ag z.qb 333 (M.Q.flatMap (di B.C)),Xr z B.C.ae.length B.C M.x,Wl z.y.wh B.E M.tn,ag z.s 96 [DC z.y.b,DC z.y.ck,DC z.y.t,DC z.y.lu,DC z.y.wh,DC z.y.cr,DC z.y.mo,DC z.y.q,DE DD M.v.c.aj,DE DD M.v.c.pgs,DE DD M.v.c.fac,DE DD M.v.c.bE,DE DD M.v.c.lim,DE DD M.v.c.hot,DE DD M.v.c.warm,DE DD M.v.p.b,DE DD M.v.p.l,DE DD M.v.p.c,DE DD M.v.p.m,DE DB M.v.bc,DE DD M.v.fE,DE DD M.v.mt.dr,DE DD M.v.mt.re,DE DD M.v.mt.bu,DE DD M.v.mt.li,DE DD M.v.mt.lo,DE DD M.v.mt.cr,DE DD M.v.mt.mv, .slice a5 (M.kh++ [M.cE p]).length c5],kS z.y.ck M.k,zR z,xM z M.m,kO z.ub M.m,own a5 c5 3 1 (aE (M.kh++ [M.cE p]))]) ?_;refine ay (aD (O.fJ (M.cE p) a5 c5) (H:= [])) ?_;refine ay (hZ (M:=M.fJ (M.cE p)) a5 c5) ?_;refine aY ?_;by_cases hw0:M.cE p=0
 ·rw[hw0]
  refine cM ?_ (e:=by exact congrArg (!·) (decide_eq_true rfl));refine bL ?_;refine Rt [SW z (M.fJ 0)] results120 ?_;rw[hme,if_neg (by simpa using hw0)];exact⟨rfl,rfl⟩
 refine eJ ?_ (e:=by exact congrArg (!·) (Ar));refine bj ?_;refine zl Aq (vG z (M.fJ (M.cE p)) p hp) (.cons .here .nil) DA ?_;refine bA ?_;refine Rt [SW z ((M.fJ (M.cE p)).bY p)] results120 ?_;rw[hme,if_pos hw0];exact⟨rfl,rfl⟩
def Mo.nw (hot warm:Nat)(M:Mo)(k:F9):Mo:=match M.find k with
 |none=>M
 |some p=>(M.B5 (lX (M.C.cl p) hot warm M.v.p.l.toNat M.lru).2).aR {M.v.mt with li:=cm (M.v.mt.li+((lX (M.C.cl p) hot warm M.v.p.l.toNat M.lru).1:Nat))}
noncomputable def Mo.behind (hot warm:Nat)(M:Mo)(k:F9):Mo:=(M.nw hot warm k).beside
theorem LF (hot warm:Nat)(M:Mo)(k:F9):(M.nw hot warm k).hole=M.hole/\(M.nw hot warm k).m=M.m/\(M.nw hot warm k).v.p=M.v.p:=by
 unfold Mo.nw;split<;>exact⟨rfl,rfl,rfl⟩
theorem LG (hot warm:Nat)(M:Mo)(k:F9):Ev M (M.nw hot warm k):=by
 unfold Mo.nw;split
 ·exact .rf rfl rfl
 exact .rf rfl rfl
theorem IQ (xe:qD)(z:Ly)(M:Mo)(k:F9)(hk:k.length<281474976710656)(hh:M.hole=none)(fM:M.m.st<4611686018427387904)(Qm:An M.v.p)(LM:z.hot<=100)(LL:z.warm<=100):aK aaY 46 [DC z.s,aW k] vz [SW z M]
  (λv H=>v= .tuple #[]/\H= [SW z (M.behind z.hot z.warm k)]):=by
 obtain⟨b1,b2,b3⟩:=LF z.hot z.warm M k;have bsd:=wJ xe z (M.nw z.hot z.warm k) (b1.trans hh) (by rw[b2];exact fM) (by rw[b3];exact Qm);refine af func46 rfl ntmps46 rfl ?_;intro F _;refine AL λwa wc=>cN λB O=> ?_;unfold eh fC jc fm pV iZ jO;dsimp only[Mo.aN];refine bS ?_;have tf:=λa c=>nI z.y.t z.y.b B.C O.k B.W B.ty O.t O.ty a k.length c k rfl hk;rw[O.Re,show(M.aN wa wc).find k=M.find k from rfl,QH O,show(M.aN wa wc).C=M.C from rfl]at tf;refine cY ?_;refine Lp (DH sE mK tL λkb kc tI=> ?_);refine zl Aq (tf _ _) .nil (λ_ le au=>⟨au.nth 1 rfl,⟨au.nth 2 rfl,au.nth 3 rfl,au.nth 4 rfl,trivial⟩,bK (au.nth 0 rfl)⟩) ?_;rcases hf:M.find k with _|p
 ·have hbb:M.nw z.hot z.warm k=M:=by unfold Mo.nw;rw[hf]
  rw[hbb]at bsd;refine cL ?_;refine Hh (H':= [Cl z.y.b B.C,DS z B.W B.ty,zY B.ty B.W,DU B.ty B.W,DT z B.C.ae.length,ag z.qb 333 (M.Q.flatMap (di B.C)),Xr z B.C.ae.length B.C M.x,Wl z.y.wh B.E M.tn,ag z.s 96 [DC z.y.b,DC z.y.ck,DC z.y.t,DC z.y.lu,DC z.y.wh,DC z.y.cr,DC z.y.mo,DC z.y.q,DE DD M.v.c.aj,DE DD M.v.c.pgs,DE DD M.v.c.fac,DE DD M.v.c.bE,DE DD M.v.c.lim,DE DD M.v.c.hot,DE DD M.v.c.warm,DE DD M.v.p.b,DE DD M.v.p.l,DE DD M.v.p.c,DE DD M.v.p.m,DE DB M.v.bc,DE DD M.v.fE,DE DD M.v.mt.dr,DE DD M.v.mt.re,DE DD M.v.mt.bu,DE DD M.v.mt.li,DE DD M.v.mt.lo,DE DD M.v.mt.cr,DE DD M.v.mt.mv, .slice wa M.kh.length wc],kS z.y.ck M.k,zR z,xM z M.m,kO z.ub M.m,own wa wc 3 1 (aE M.kh)]) ?_;refine ay (aD O (H:= [])) ?_;refine ay (hZ (M:=M) wa wc) ?_;refine bn ?_;refine zl Aq (bsd) (.cons .here .nil) DA ?_;refine aB ?_;refine j5 [SW z M.beside] results46 ?_;exact⟨rfl,by unfold Mo.behind;rw[hbb]⟩
 obtain⟨hp,oF⟩:=nP hf;have dL:=(O.al p).2 hp;have L:=O.tH dL;have at_:=wD z.y.b B.C O.k p L;rw[O.hd,show(M.aN wa wc).C=M.C from rfl]at at_;have ig:=(L.toAt.br O.k).1;have bl:=Gj z.y.lu z.y.q z.y.b z.qb z.hot z.warm z.y.cr z.y.wh (aZ z.s) (bG z.s) B.C O.k M.lru O.bai (B.C.cl p) ig LM LL M.v.p.l.toNat (by have:=Qm.l;omega);rw[show((M.v.p.l.toNat:Nat):Int)=M.v.p.l by have:=Qm.l;omega]at bl;refine rS ?_;refine zl Aq (at_) .nil (λ_ le au=>au.nth 1 rfl) ?_;refine cY ?_;refine iL 27 mix (.cons (.t8 (.there .here)) .nil) λF1 jq bV aI=> ?_;obtain⟨q1,_⟩:=bV;refine cC ?_;refine aw ?_;refine Ti Mf ?_;refine Tp (oC Aq rfl rfl (bl) (.cons (.there .here) (.cons (.t4 .here) (.cons (.t4 .here) (.cons (.t4 .here) .nil)))) (λ_ le au=>au.nth 6 rfl) ?_);rintro v H' ⟨n,A,t,hbf,rfl,rfl,T2⟩;refine bS ?_;refine aY ?_;refine gG aI ?_;refine bn ?_;have O1:bM ⟨B.C.wA A,B.W,B.ty,B.E⟩ (((M.B5 t).aR {M.v.mt with li:=cm (M.v.mt.li+(n:Nat))}).aN wa wc):=(O.bal T2).aR {M.v.mt with li:=cm (M.v.mt.li+(n:Nat))};have hbb:M.nw z.hot z.warm k=(M.B5 t).aR {M.v.mt with li:=cm (M.v.mt.li+(n:Nat))}:=by
  unfold Mo.nw;rw[hf];dsimp only;rw[O.cl,show(M.aN wa wc).C=M.C from rfl]at hbf;rw[hbf]
 rw[hbb]at bsd;refine Hh (H':= [Cl z.y.b (B.C.wA A),DS z B.W B.ty,zY B.ty B.W,DU B.ty B.W,DT z B.C.ae.length,ag z.qb 333 (t.Q.flatMap (di B.C)),Xr z B.C.ae.length B.C t.x,Wl z.y.wh B.E M.tn,ag z.s 96 [DC z.y.b,DC z.y.ck,DC z.y.t,DC z.y.lu,DC z.y.wh,DC z.y.cr,DC z.y.mo,DC z.y.q,DE DD M.v.c.aj,DE DD M.v.c.pgs,DE DD M.v.c.fac,DE DD M.v.c.bE,DE DD M.v.c.lim,DE DD M.v.c.hot,DE DD M.v.c.warm,DE DD M.v.p.b,DE DD M.v.p.l,DE DD M.v.p.c,DE DD M.v.p.m,DE DB M.v.bc,DE DD M.v.fE,DE DD M.v.mt.dr,DE DD M.v.mt.re,DE DD M.v.mt.bu,DE DD (IntKind.i64.wrap (M.v.mt.li+(n:Int))),DE DD M.v.mt.lo,DE DD M.v.mt.cr,DE DD M.v.mt.mv, .slice wa M.kh.length wc],kS z.y.ck M.k,zR z,xM z M.m,kO z.ub M.m,own wa wc 3 1 (aE M.kh)]) ?_;refine ay (aD O1 (H:= [])) ?_;refine ay (hZ (M:=(M.B5 t).aR {M.v.mt with li:=cm (M.v.mt.li+(n:Nat))}) wa wc) ?_;refine bn ?_;refine zl Aq (bsd) (.cons .here .nil) DA ?_;refine aB ?_;refine j5 [SW z ((M.B5 t).aR {M.v.mt with li:=cm (M.v.mt.li+(n:Nat))}).beside] results46 ?_;exact⟨rfl,by unfold Mo.behind;rw[hbb]⟩
theorem ag0:∀m:Nat,m<16->gL .and .i64 (m:Int) 2=some ((m/2 % 2*2:Nat):Int):=by decide+kernel
theorem agZ:∀m:Nat,m<16->gL .and .i64 (m:Int) 4=some ((m/4 % 2*4:Nat):Int):=by decide+kernel
theorem agY:∀m:Nat,m<16->gL .and .i64 (m:Int) 8=some ((m/8 % 2*8:Nat):Int):=by decide+kernel
def tR (x:I3)(va:Value):FV:= [aW x.key,va,DE DB x.fl,DE DD x.exp,DE DB x.tok,DE DD x.tch, .bool (decide (x.fe/2 % 2=1)), .bool (decide (x.fe/4 % 2=1)), .bool (decide (x.fe/8 % 2=1))]
theorem cy (m:Nat):(!decide (((m/2 % 2*2:Nat):Int)=0))=decide (m/2 % 2=1):=by
 have:m/2 % 2=0\/m/2 % 2=1:=by omega
 rcases this with h|h<;>rw[h]<;>rfl
theorem cZ (m:Nat):(!decide (((m/4 % 2*4:Nat):Int)=0))=decide (m/4 % 2=1):=by
 have:m/4 % 2=0\/m/4 % 2=1:=by omega
 rcases this with h|h<;>rw[h]<;>rfl
theorem LV (m:Nat):(!decide (((m/8 % 2*8:Nat):Int)=0))=decide (m/8 % 2=1):=by
 have:m/8 % 2=0\/m/8 % 2=1:=by omega
 rcases this with h|h<;>rw[h]<;>rfl
theorem A7 (z:Ly)(M:Mo)(p:Nat)(hp:M.has p):aK aaY 49 [DC z.s,DE DB (M.C.hd p)] vz [SW z M]
  (λv H=>∃vb,v= .agg (tR (M.it p) (.slice (some ⟨vb,0,none⟩) (M.it p).val.length (M.it p).val.length)).toArray/\H= [own (some ⟨vb,0,none⟩) (M.it p).val.length 5 1 (ak (M.it p).val),SW z M]):=by
 refine af func49 rfl ntmps49 rfl ?_;intro F _;refine aw ?_;refine Lp (oA wk λb1=> ?_);refine aw ?_;refine ay (λ_ x=>dH x) ?_;refine AL λwa wc=>cN λB O=> ?_;unfold eh fC jc fm pV iZ jO;dsimp only[Mo.aN];refine bS ?_;have dL:=(O.al p).2 hp;have rdc:=uD z.y.b B.C O.k p (O.tH dL) (O.t.it p dL);rw[O.hd,show(M.aN wa wc).C=M.C from rfl]at rdc;obtain⟨f1,f2,f3,f4,f5,f6,f7⟩:=O.jx dL;have u9:=(O.w8 dL).2;rw[show(M.aN wa wc).it p=M.it p from rfl]at f1 f2 f3 f4 f5 f6 f7 u9;have lk:kl B.C.A p=(M.it p).key.length:=by rw[<-f5];exact(cI _ _ _).symm
 have lv:vl B.C.A p=(M.it p).val.length:=by rw[<-f6];exact(cI _ _ _).symm
 rw[show rd B.C.A (p+40) 4=(M.it p).fl from f7,show rd B.C.A (p+16) 8=(M.it p).exp from f1,show rd B.C.A (p+24) 8=(M.it p).tch from f2,show rd B.C.A (p+32) 8=(M.it p).tok from f3,show rd B.C.A (p+46) 1=(M.it p).fe from f4,lk,lv,f5,f6]at rdc;generalize rd B.C.A (p+45) 1=stt at*;refine bL ?_;refine Lp (oC Aq rfl rfl (rdc) .nil (λ_ le au=>au.nth 0 rfl) ?_);rintro v H' ⟨kb,vb,rfl,rfl⟩;refine bS ?_;refine bj ?_;refine Lp (oA bZ λb2=> ?_);refine Lp (gE eB ?_ (h1:=by simp[DW,Value.oneCell']));refine ba ?_;refine Lp (oTs fx tL sE ?_);refine gQ ?_;refine az (t:=32) (v':=(DE DD ((M.it p).fe/2 % 2*2:Nat))) rfl (by exact congrArg (λx=>Value.int .i64 (x.getD 0)) (ag0 _ u9)) ?_;refine aw ?_;refine az (t:=33) (v':=(.bool (decide ((M.it p).fe/2 % 2=1)))) rfl (by exact congrArg Value.bool (cy _)) ?_;refine bj ?_;refine az (t:=36) (v':=(DE DD ((M.it p).fe/4 % 2*4:Nat))) rfl (by exact congrArg (λx=>Value.int .i64 (x.getD 0)) (agZ _ u9)) ?_;refine aw ?_;refine az (t:=37) (v':=(.bool (decide ((M.it p).fe/4 % 2=1)))) rfl (by exact congrArg Value.bool (cZ _)) ?_;refine bj ?_;refine az (t:=40) (v':=(DE DD ((M.it p).fe/8 % 2*8:Nat))) rfl (by exact congrArg (λx=>Value.int .i64 (x.getD 0)) (agY _ u9)) ?_;refine aw ?_;refine az (t:=41) (v':=(.bool (decide ((M.it p).fe/8 % 2=1)))) rfl (by exact congrArg Value.bool (LV _)) ?_;refine aw ?_;refine Lp (gE nG ?_ (h1:=by simp[dq,Value.cells,Value.oneCell',aW]));refine bn ?_;refine Hh (H':= [Cl z.y.b B.C,DS z B.W B.ty,zY B.ty B.W,DU B.ty B.W,DT z B.C.ae.length,ag z.qb 333 (M.Q.flatMap (di B.C)),Xr z B.C.ae.length B.C M.x,Wl z.y.wh B.E M.tn,ag z.s 96 [DC z.y.b,DC z.y.ck,DC z.y.t,DC z.y.lu,DC z.y.wh,DC z.y.cr,DC z.y.mo,DC z.y.q,DE DD M.v.c.aj,DE DD M.v.c.pgs,DE DD M.v.c.fac,DE DD M.v.c.bE,DE DD M.v.c.lim,DE DD M.v.c.hot,DE DD M.v.c.warm,DE DD M.v.p.b,DE DD M.v.p.l,DE DD M.v.p.c,DE DD M.v.p.m,DE DB M.v.bc,DE DD M.v.fE,DE DD M.v.mt.dr,DE DD M.v.mt.re,DE DD M.v.mt.bu,DE DD M.v.mt.li,DE DD M.v.mt.lo,DE DD M.v.mt.cr,DE DD M.v.mt.mv, .slice wa M.kh.length wc],kS z.y.ck M.k,zR z,xM z M.m,kO z.ub M.m,own wa wc 3 1 (aE M.kh),own (some ⟨vb,0,none⟩) (M.it p).val.length 5 1 (ak (M.it p).val),ag b1 56 (tR (M.it p) (.slice (some ⟨vb,0,none⟩) (M.it p).val.length (M.it p).val.length))]) ?_;refine ay (aD O (H:= [own (some ⟨vb,0,none⟩) (M.it p).val.length 5 1 (ak (M.it p).val),ag b1 56 (tR (M.it p) (.slice (some ⟨vb,0,none⟩) (M.it p).val.length (M.it p).val.length))])) ?_;refine ay (hZ (M:=M) wa wc) ?_;refine GF [own (some ⟨vb,0,none⟩) (M.it p).val.length 5 1 (ak (M.it p).val),SW z M] nG results49 ?_;exact⟨vb,rfl,rfl⟩
theorem lQ (z:Ly)(M:Mo)(hh:M.hole=none)(c:Nat)(hc:c<M.fP):aK aaY 157 [DC z.y.b,DE DD c] vz [SH z M]
  (λv H=>(M.take c=none/\v= .tuple #[DE DB 0,DE DD 21]/\H= [SH z M])\/∃r N,M.take c=some (r,N)/\v= .tuple #[DE DB (N.C.hd r),DE DD 0]/\H= [SH z N]):=
 dV λB O=>by
  have ig:c<B.C.ae.length:=by rw[O.fP];exact hc
  have h:=(JZ z.y.b B.C O.k c ig).fr (H:=eh z B M++ []) (R:=(eh z B M).tail) (.cons .here .nil) (λk au=>trivial);refine h.out ?_;rintro v H' ⟨H0,hr,rfl⟩;rcases hT:B.C.dD c with _|⟨r,D⟩
  ·rw[hT]at hr
   obtain⟨rfl,rfl⟩:=hr;exact⟨[SH z M], .inl ⟨O.takeN hT,rfl,rfl⟩,λk s=>aD O (H:= []) k s⟩
  rw[hT]at hr;obtain⟨rfl,rfl⟩:=hr;obtain⟨N,n1,n2,n3,n4,O1,X⟩:=O.take hh ig hT;refine⟨[SH z N], .inr ⟨r,N,n1,by rw[n2],rfl⟩,λk s=>aD O1 (H:= []) k ?_⟩;have S:wi B.C (D.wA B.C.A) (λq=>q∈B.W.all):=⟨rfl,X.sz,λq _ M=>⟨((X.lv q).2 (.inl M)).wA _,(X.hd q M).1,(X.hd q M).2⟩⟩;have adF:M.Q.flatMap (di B.C)=M.Q.flatMap (di D):=(S.ls O.o λi q h=>O.ot h).symm;have adG:qj z.y.q z.y.wh D.ae.length (aZ z.s) (bG z.s) B.C M.x=qj z.y.q z.y.wh D.ae.length (aZ z.s) (bG z.s) D M.x:=(S.cw O.o (λi q h=>O.ot h) O.x _ _ _ _ _).symm;have adE:B.C.ae.length=D.ae.length:=by rw[X.sz]
  change ai ([Cl z.y.b D]++ [DS z B.W B.ty,zY B.ty B.W,DU B.ty B.W,DT z B.C.ae.length,ag z.qb 333 (M.Q.flatMap (di B.C)),ag z.y.cr 137 (qj z.y.q z.y.wh B.C.ae.length (aZ z.s) (bG z.s) B.C M.x),Wl z.y.wh B.E M.tn,fC z.s z.y (fm M.v),
   kS z.y.ck M.k,zR z,xM z M.m,kO z.ub M.m,jO M]) k at s
  rw[adF,adE,adG]at s;rw[n4];exact s
theorem Dl{f g:Nat->Bool}:∀{l:F8},(∀p∈l,f p=g p)->l.find? f=l.find? g/\l.findIdx? f=l.findIdx? g
 | [],_=>⟨rfl,rfl⟩
 |a::l,h=>by
  obtain⟨i1,i2⟩:=Dl (l:=l) λp hp=>h p (aa6 _ hp);rw[alB,alB,aii,aii,h a aa5,i1,i2];exact⟨rfl,rfl⟩
theorem Zl{d d' a a':Nat->Bool}{own:FW}{n:Nat}{l:F8}(hd:∀p∈l,d p=d' p)(ha:∀p∈l,a p=a' p):lz d a own n l=lz d' a' own n l:=by
 unfold lz yb;have hs:∀p∈(cJ own l).take n,p∈l:=λp hp=>(abm.1 (aio hp)).1;rw[(Dl λp hp=>hd p (hs p hp)).2,(Dl (f:=λq=> !a q) (g:=λq=> !a' q) λp hp=>by rw[ha p (hs p hp)]).1]
def Mo.pick (M:Mo)(c:Nat)(own:FW):FW×Bool×Nat:=lz (λp=>decide (M.cE p≠0)) (λp=>decide ((M.it p).fe % 2=1)) own 5 (jh M.Q c)
theorem oN{Q:Dy}{c p:Nat}(hp:p∈jh Q c):∃i,p∈ql Q i:=by
 unfold jh at hp;rw[ahy,ahy,ahN,ahN,ahN]at hp;rcases hp with(h|h)|h<;>exact⟨_,h⟩
theorem qS{d a:Nat->Bool}{own:FW}{n:Nat}{l:F8}{p:Nat}(h:(lz d a own n l).1=some p):p∈l/\some p≠own:=by
 have hs:∀p∈(cJ own l).take n,p∈l/\some p≠own:=λp hp=>by
  obtain⟨h1,h2⟩:=abm.1 (aio hp);exact⟨h1,of_decide_eq_true h2⟩
 unfold lz yb at h;refine hs p ?_;generalize (cJ own l).take n=r at*;cases hf:r.findIdx? d with
 |some i=>rw[hf]at h;exact aa3 h
 |none=>
  rw[hf]at h;dsimp only at h;cases hg:r.find? (λq=> !a q)with
  |some q=>rw[hg]at h;cases h;exact ac4 hg
  |none=>rw[hg]at h;exact List.mem_of_mem_head? h
theorem AZ (z:Ly)(M:Mo)(c:Nat)(hc:c<M.fP)(own:FW)(ho:∀p,own=some p->M.has p):aK aaY 184 [DC z.y.lu,DE DD c,DE DB (rO M.C own),DE DD 5,aZ z.s] vz [SH z M]
  (λv H=>v= .tuple #[DE DB (rO M.C (M.pick c own).1), .bool (M.pick c own).2.1,DE DD ((M.pick c own).2.2)]/\H= [SH z M]):=
 dV λB O=>by
  have ig:c<B.C.ae.length:=by rw[O.fP];exact hc
  have h:=(Vu z.y.lu z.y.q z.qb z.hot z.warm z.s z.y (fm M.v) B.C O.k M.Q O.o O.mq c ig M.k own (λp e=>O.nm ((O.al p).2 (ho p e)))).fr (H:=eh z B M++ []) (R:=eh z B M) (lL [] _) (λk au=>⟨au.nth 0 rfl,au.nth 10 rfl,⟨au.nth 4 rfl,au.nth 5 rfl,trivial⟩,au.nth 8 rfl,au.nth 9 rfl⟩);rw[QH O]at h;have hp:lz (λp=>decide (z8 B.C.A M.k p≠0)) (DY B.C.A) own 5 (jh M.Q c)=M.pick c own:=by
   refine Zl (λp hp=> ?_) (λp hp=> ?_)
   ·have h2:=(O.al p).2 (oN hp)
    rw[O.adh h2]
   have h2:=(O.al p).2 (oN hp);unfold DY;rw[(O.w8 h2).1]
  refine h.out ?_;rintro v H' ⟨H0,⟨p,d,n,e,rfl,rfl⟩,rfl⟩;rw[hp]at e;refine⟨[SH z M],⟨by rw[<-e,QH O],rfl⟩,λk s=>aD O (H:= []) k s⟩
def Mo.cR (M:Mo)(c:Nat):Mo:={M with m:=M.m.jT c}
theorem uL (z:Ly)(M:Mo)(c:Nat)(hc:c<M.fP)(fM:M.m.st<4611686018427387904):aK aaY 185 [DC z.y.mo,DE DD c] vz [SH z M]
  (λv H=>v= .tuple #[]/\H= [SH z (M.cR c)]):=
 dV λB O=>by
  have h:=(Gf z.y.mo z.y.b z.ub (aZ z.s) (bG z.s) (du z.s) M.m c (by rw[O.un,O.fP];exact hc) fM).fr (H:=eh z B M++ []) (R:= [Cl z.y.b B.C,ag z.y.t 154 (gV z.y.b B.W B.ty),zY B.ty B.W,oe B.ty.ok 149 (aV (aL B.W.ob)),ag z.y.q 182 (iF z.y.b z.qb B.C.ae.length),ag z.qb 333 (M.Q.flatMap (di B.C)),iH z.y.cr z.y.q z.y.wh B.C.ae.length (aZ z.s) (bG z.s) B.C M.x,Wl z.y.wh B.E M.tn,fC z.s z.y (fm M.v),
   kS z.y.ck M.k,zR z,nq z.y.mo z.y.b z.ub (aZ z.s) (bG z.s) (du z.s) M.m,jO M]) (.cons (.t8 (.t4 .here)) .nil) (λk au=>au.nth 11 rfl)
  refine h.out ?_;rintro v H' ⟨H0,⟨rfl,rfl⟩,rfl⟩;have O1:bM B (M.cR c):=⟨O.c,O.k,O.t,O.ty,O.o,O.x,O.mq,O.ck,O.al,O.lv,O.ho,O.it,O.e,O.st,O.nb,O.mg,O.mo,O.bt,by show(M.m.un.set c _).length=_;rw[aa8];exact O.un,O.on,O.go,O.wn,O.cf,O.n,O.lg⟩;refine⟨[SH z (M.cR c)],⟨rfl,rfl⟩,λk s=>aD O1 (H:= []) k ?_⟩
  revert s
  revert k
  show∀k,_->ai [Cl z.y.b B.C,ag z.y.t 154 (gV z.y.b B.W B.ty),zY B.ty B.W,oe B.ty.ok 149 (aV (aL B.W.ob)),ag z.y.q 182 (iF z.y.b z.qb B.C.ae.length),ag z.qb 333 (M.Q.flatMap (di B.C)),iH z.y.cr z.y.q z.y.wh B.C.ae.length (aZ z.s) (bG z.s) B.C M.x,Wl z.y.wh B.E M.tn,fC z.s z.y (fm M.v),
   kS z.y.ck M.k,zR z,nq z.y.mo z.y.b z.ub (aZ z.s) (bG z.s) (du z.s) (M.m.jT c),kO z.ub (M.m.jT c),jO M] k
  rw[show nq z.y.mo z.y.b z.ub (aZ z.s) (bG z.s) (du z.s) (M.m.jT c)=nq z.y.mo z.y.b z.ub (aZ z.s) (bG z.s) (du z.s) M.m by unfold nq DI iA.jT;dsimp only;rw[aa8]];simp only[pH,cap];exact Eh
theorem tY (z:Ly)(M:Mo)(c:Nat)(hn:¬(M.m.on=true/\M.m.fr=c)):aK aaY 183 [DC z.y.mo,DE DD c] vz [SH z M]
  (λv H=>v= .bool false/\H= [SH z M]):=
 dV λB O=>by
  have h:=(I4 z.y.mo z.y.b z.ub (aZ z.s) (bG z.s) (du z.s) M.m c hn).fr (H:=eh z B M++ []) (R:=eh z B M) (lL [] _) (λk au=>au.nth 11 rfl);refine h.out ?_;rintro v H' ⟨H0,⟨rfl,rfl⟩,rfl⟩;exact⟨[SH z M],⟨rfl,rfl⟩,λk s=>aD O (H:= []) k s⟩
def Mo.last (M:Mo)(c p:Nat):FW×Mo:=match(M.bY p).take c with
 |some (r,N)=>(some r,N)
 |none=>(none,M.bY p)
def Mo.Ez (M:Mo)(c:Nat):FW->Bool->FW×Mo
 |none,true=>(none,M)
 |none,false=>(none,M.cR c)
 |some p,true=>(M.aR {M.v.mt with re:=cm (M.v.mt.re+1)}).last c p
 |some p,false=>((M.cR c).aR {(M.cR c).v.mt with dr:=cm ((M.cR c).v.mt.dr+1)}).last c p
def Mo.iK (M:Mo)(c:Nat)(own:FW):FW×Mo:=(M.aR {M.v.mt with lo:=cm (M.v.mt.lo+((M.pick c own).2.2:Int))}).Ez c (M.pick c own).1 (M.pick c own).2.1
def Mo.pJ (M:Mo)(c:Nat)(own:FW):FW×Mo:=match M.take c with
 |some (r,N)=>(some r,N)
 |none=>if M.m.on=true/\M.m.fr=c then(match M.mstop.take c with
  |some (r,N)=>(some r,N)
  |none=>M.mstop.iK c own)else M.iK c own
def Mo.room (M:Mo)(n:Nat)(own:FW):FW×Mo:=match M.C.ae.findIdx? λz=>decide (n<=z)with
 |none=>(none,M)
 |some c=>M.pJ c own
theorem bM.pU{B:Bx}{M:Mo}(O:bM B M){p:Nat}(hp:M.has p):M.C.hd p≠0:=by
 have h:=(bU O.k (O.nm ((O.al p).2 hp))).2.2.2.2.2;rw[O.hd]at h;exact h
theorem MQ (z:Ly)(M:Mo)(hh:M.hole=none)(fM:M.m.st<4611686018427387904)(kn vn:Nat)(hk:1<=kn/\kn<=250)(hv:vn<=1048576)(own:FW)(gY:∀p,own=some p->M.has p):
  aK aaY 128 [DC z.s,DE DD kn,DE DD vn,DE DB (rO M.C own)] vz [SH z M]
   (λw H=>∃o N,M.room (58+kn+vn) own=(o,N)/\w=DE DB (rO N.C o)/\H= [SH z N]):=by
 refine af func128 rfl ntmps128 rfl ?_;intro F _;refine bA ?_;refine zl Aq (Fo kn vn hk hv) .nil DA ?_;refine bA ?_;refine cN λB O=> ?_;have fo:=afv z.y.b B.C O.k (58+kn+vn) (by omega);rw[show B.C.ae=M.C.ae by rw[O.c];rfl]at fo;have dx:=λc (h:(M.C.ae.findIdx? λz=>decide (58+kn+vn<=z))=some c)=>(show c<M.fP from(abl.1 h).1);have hXn:=λp hp=>O.pU (p:=p) hp;have ai7:∀p,M.has p->M.m.on=true->M.mstop.C.hd p=M.C.hd p:=λp hp kQ=>by
  have h:=(((O.stay kQ).1).lv p ((O.al p).2 hp) (O.tH ((O.al p).2 hp))).2.1;rw[O.hd]at h;rw[<-h];show(M.C.gr M.m.pg).hd p=(B.C.gr M.m.pg).hd p;rw[O.c];rfl
 unfold eh fC jc fm pV iZ;refine bS ?_;refine bL ?_;refine Lp (oC Aq rfl rfl (fo) .nil (λ_ le au=>au.nth 0 rfl) ?_);rintro v H' ⟨hv0,rfl⟩;refine bS ?_;rcases hf:(M.C.ae.findIdx? λz=>decide (58+kn+vn<=z))with _|c
 ·rw[hf]at hv0
  subst hv0;refine rS ?_;refine Hh (H':=gF z B.C B.W B.ty B.C.ae.length (M.Q.flatMap (di B.C)) M.x B.E M.tn (M.v,[DE DB M.v.bc,DE DD M.v.fE,DE DD M.v.mt.dr,DE DD M.v.mt.re,DE DD M.v.mt.bu,DE DD M.v.mt.li,DE DD M.v.mt.lo,DE DD M.v.mt.cr,DE DD M.v.mt.mv, .slice M.v.wa M.v.wn M.v.wc]) M.k M.m M []) ?_;unfold gF pG;refine ay (aD O (H:= [])) ?_;refine Rt [SH z M] results128 ?_;exact⟨none,M,by unfold Mo.room;rw[hf],rfl,rfl⟩
 rw[hf]at hv0;subst hv0;have P4:=dx c hf;have hrc:M.room (58+kn+vn) own=M.pJ c own:=by unfold Mo.room;rw[hf]
 refine fu ?_;refine Hh (H':=gF z B.C B.W B.ty B.C.ae.length (M.Q.flatMap (di B.C)) M.x B.E M.tn (M.v,[DE DB M.v.bc,DE DD M.v.fE,DE DD M.v.mt.dr,DE DD M.v.mt.re,DE DD M.v.mt.bu,DE DD M.v.mt.li,DE DD M.v.mt.lo,DE DD M.v.mt.cr,DE DD M.v.mt.mv, .slice M.v.wa M.v.wn M.v.wc]) M.k M.m M []) ?_;unfold gF pG;refine ay (aD O (H:= [])) ?_;refine Ra λB O=> ?_;refine cN λB O=> ?_;unfold eh fC jc fm pV iZ;refine bS ?_;refine bL ?_;refine Hh (H':=gF z B.C B.W B.ty B.C.ae.length (M.Q.flatMap (di B.C)) M.x B.E M.tn (M.v,[DE DB M.v.bc,DE DD M.v.fE,DE DD M.v.mt.dr,DE DD M.v.mt.re,DE DD M.v.mt.bu,DE DD M.v.mt.li,DE DD M.v.mt.lo,DE DD M.v.mt.cr,DE DD M.v.mt.mv, .slice M.v.wa M.v.wn M.v.wc]) M.k M.m M []) ?_;unfold gF pG;refine ay (aD O (H:= [])) ?_;refine Lp (oC Aq rfl rfl (lQ z M hh c P4) (.cons .here .nil) DA ?_);rintro v H' hr;refine bS ?_;rcases hr with⟨ht,rfl,rfl⟩|⟨r,N,ht,rfl,rfl⟩
 ·by_cases kQ:M.m.on=true/\M.m.fr=c
  ·have QG:M.pJ c own=match M.mstop.take c with
    |some (r,N)=>(some r,N)
    |none=>M.mstop.iK c own:=by unfold Mo.pJ;rw[ht];dsimp only;rw[if_pos kQ]
   refine bO ?_;refine zt 47 ?_ (e:=by rfl);refine cN λB O=> ?_;unfold eh fC jc fm pV iZ;refine bS ?_;refine bA ?_;refine Hh (H':=gF z B.C B.W B.ty B.C.ae.length (M.Q.flatMap (di B.C)) M.x B.E M.tn (M.v,[DE DB M.v.bc,DE DD M.v.fE,DE DD M.v.mt.dr,DE DD M.v.mt.re,DE DD M.v.mt.bu,DE DD M.v.mt.li,DE DD M.v.mt.lo,DE DD M.v.mt.cr,DE DD M.v.mt.mv, .slice M.v.wa M.v.wn M.v.wc]) M.k M.m M []) ?_;unfold gF pG;refine ay (aD O (H:= [])) ?_;refine zl Aq (zo z M kQ.1 c kQ.2) (.cons .here .nil) DA ?_;obtain⟨X,hX⟩:∃X,X=M.mstop:=⟨_,rfl⟩;rw[<-hX]at QG⊢;have hX0:X.hole=none:=by rw[hX];exact hh
   have P4:c<X.fP:=by rw[hX];exact P4
   refine bj ?_;refine cN λB O=> ?_;unfold eh fC jc fm pV iZ;refine bS ?_;refine bL ?_;refine Hh (H':=gF z B.C B.W B.ty B.C.ae.length (X.Q.flatMap (di B.C)) X.x B.E X.tn (X.v,[DE DB X.v.bc,DE DD X.v.fE,DE DD X.v.mt.dr,DE DD X.v.mt.re,DE DD X.v.mt.bu,DE DD X.v.mt.li,DE DD X.v.mt.lo,DE DD X.v.mt.cr,DE DD X.v.mt.mv, .slice X.v.wa X.v.wn X.v.wc]) X.k X.m X []) ?_;unfold gF pG;refine ay (aD O (H:= [])) ?_;refine Lp (oC Aq rfl rfl (lQ z X hX0 c P4) (.cons .here .nil) DA ?_);rintro v H' hr;refine bS ?_;rcases hr with⟨qg,rfl,rfl⟩|⟨r,N,qg,rfl,rfl⟩
   ·rw[qg]at QG
    have hR:M.room (58+kn+vn) own=X.iK c own:=by rw[hrc,QG]
    have hXo:rO X.C own=rO M.C own:=by
     cases hown0:own with
     |none=>rfl
     |some p=>rw[hX];exact ai7 p (gY p hown0) kQ.1
    have hXh:∀p,own=some p->X.has p:=by rw[hX];exact gY
    have hXs:X.m.st<4611686018427387904:=by rw[hX];exact fM
    have hXn:∀p,X.has p->X.C.hd p≠0:=λp hp=>by
     rw[hX]at hp⊢;rw[show M.mstop.C.hd p=M.C.hd p from ai7 p hp kQ.1];exact hXn p hp
    refine cL ?_;rw[show rO M.C own=rO X.C own from hXo.symm];refine bn ?_;refine cN λB O=> ?_;unfold eh fC jc fm pV iZ;refine bS ?_;refine cu ?_;refine Li Mf ?_;refine Hh (H':=gF z B.C B.W B.ty B.C.ae.length (X.Q.flatMap (di B.C)) X.x B.E X.tn (X.v,[DE DB X.v.bc,DE DD X.v.fE,DE DD X.v.mt.dr,DE DD X.v.mt.re,DE DD X.v.mt.bu,DE DD X.v.mt.li,DE DD X.v.mt.lo,DE DD X.v.mt.cr,DE DD X.v.mt.mv, .slice X.v.wa X.v.wn X.v.wc]) X.k X.m X []) ?_;unfold gF pG;refine ay (aD O (H:= [])) ?_;refine zl Aq (AZ z X c P4 own hXh) (.cons .here .nil) DA ?_;refine cY ?_;obtain⟨o,ho⟩:∃o,o=X.pick c own:=⟨_,rfl⟩;rw[<-ho];obtain⟨po,d,nn⟩:=o;dsimp only;refine cN λB O=> ?_;unfold eh fC jc fm pV iZ;refine bS ?_;refine gQ ?_;refine av ?_;have O':=O.aR {X.v.mt with lo:=cm (X.v.mt.lo+(nn:Int))};refine Hh (H':=gF z B.C B.W B.ty B.C.ae.length (X.Q.flatMap (di B.C)) X.x B.E X.tn (X.v,[DE DB X.v.bc,DE DD X.v.fE,DE DD X.v.mt.dr,DE DD X.v.mt.re,DE DD X.v.mt.bu,DE DD X.v.mt.li,DE DD (IntKind.i64.wrap (X.v.mt.lo+(nn:Int))),DE DD X.v.mt.cr,DE DD X.v.mt.mv, .slice X.v.wa X.v.wn X.v.wc]) X.k X.m X []) ?_;unfold gF pG;refine ay (aD O' (H:= [])) ?_;obtain⟨X1,LX⟩:∃X1,X1=X.aR {X.v.mt with lo:=cm (X.v.mt.lo+(nn:Int))}:=⟨_,rfl⟩;rw[<-LX];have nF:X.iK c own=X1.Ez c po d:=by unfold Mo.iK;rw[<-ho,LX]
    have adw:X1.m.st<4611686018427387904:=by rw[LX];exact hXs
    have adx:c<X1.fP:=by rw[LX];exact P4
    rcases d with _|_
    ·refine iz ?_
     refine aY ?_;refine cN λB O=> ?_;unfold eh fC jc fm pV iZ;refine bS ?_;refine bL ?_;refine Hh (H':=gF z B.C B.W B.ty B.C.ae.length (X1.Q.flatMap (di B.C)) X1.x B.E X1.tn (X1.v,[DE DB X1.v.bc,DE DD X1.v.fE,DE DD X1.v.mt.dr,DE DD X1.v.mt.re,DE DD X1.v.mt.bu,DE DD X1.v.mt.li,DE DD X1.v.mt.lo,DE DD X1.v.mt.cr,DE DD X1.v.mt.mv, .slice X1.v.wa X1.v.wn X1.v.wc]) X1.k X1.m X1 []) ?_;unfold gF pG;refine ay (aD O (H:= [])) ?_;refine zl Aq (uL z X1 c adx adw) (.cons .here .nil) DA ?_;refine aw ?_;refine av ?_;obtain⟨X2,LW⟩:∃X2,X2=X1.cR c:=⟨_,rfl⟩;rw[<-LW];rcases po with _|p
     ·refine iz ?_
      refine cu ?_;refine Rt [SH z X2] results128 ?_;exact⟨none,X2,by rw[hR,nF];show(none,X1.cR c)=_;rw[<-LW],rfl,rfl⟩
     have LQ:X.has p:=oN (qS (p:=p) (by have:=congrArg Prod.fst ho;exact this.symm)).1;have fN:=hXn p LQ;refine aY ?_;refine cM ?_ (e:=by exact decide_eq_false (by show¬(((X.C.hd p:Nat):Int)=0);omega));refine bL ?_;refine cN λB O=> ?_;unfold eh fC jc fm pV iZ;refine bS ?_;refine cL ?_;have O':=O.aR {X2.v.mt with dr:=cm (X2.v.mt.dr+1)};refine Hh (H':=gF z B.C B.W B.ty B.C.ae.length (X2.Q.flatMap (di B.C)) X2.x B.E X2.tn (X2.v,[DE DB X2.v.bc,DE DD X2.v.fE,DE DD (IntKind.i64.wrap (X2.v.mt.dr+1)),DE DD X2.v.mt.re,DE DD X2.v.mt.bu,DE DD X2.v.mt.li,DE DD X2.v.mt.lo,DE DD X2.v.mt.cr,DE DD X2.v.mt.mv, .slice X2.v.wa X2.v.wn X2.v.wc]) X2.k X2.m X2 []) ?_;unfold gF pG;refine ay (aD O' (H:= [])) ?_;obtain⟨X3,XP⟩:∃X3,X3=X2.aR {X2.v.mt with dr:=cm (X2.v.mt.dr+1)}:=⟨_,rfl⟩;rw[<-XP];have tW:X3.C=X.C/\X3.Q=X.Q/\X3.hole=X.hole/\X3.fP=X.fP:=by rw[XP,LW,LX];exact⟨rfl,rfl,rfl,rfl⟩
     have QJ:X3.C=X.C/\X3.has p=X.has p:=⟨tW.1,by unfold Mo.has;rw[tW.2.1]⟩;rw[<-QJ.1];refine bj ?_;obtain⟨kk,xX⟩:∃kk,kk=X3.bY p:=⟨_,rfl⟩;refine zl Aq (jW z X3 p (by rw[QJ.2];exact LQ)) (.cons .here .nil) DA ?_;rw[<-xX];have hha:kk.hole=none:=by rw[xX];exact tW.2.2.1.trans hX0
     have zS:c<kk.fP:=by rw[xX];show c<X3.fP;rw[tW.2.2.2];exact P4
     refine aw ?_;refine cN λB O=> ?_;unfold eh fC jc fm pV iZ;refine bS ?_;refine bL ?_;refine Hh (H':=gF z B.C B.W B.ty B.C.ae.length (kk.Q.flatMap (di B.C)) kk.x B.E kk.tn (kk.v,[DE DB kk.v.bc,DE DD kk.v.fE,DE DD kk.v.mt.dr,DE DD kk.v.mt.re,DE DD kk.v.mt.bu,DE DD kk.v.mt.li,DE DD kk.v.mt.lo,DE DD kk.v.mt.cr,DE DD kk.v.mt.mv, .slice kk.v.wa kk.v.wn kk.v.wc]) kk.k kk.m kk []) ?_;unfold gF pG;refine ay (aD O (H:= [])) ?_;refine Lp (oC Aq rfl rfl (lQ z kk hha c zS) (.cons .here .nil) DA ?_);rintro v H' hr;refine bS ?_;rcases hr with⟨ht,rfl,rfl⟩|⟨r,N,ht,rfl,rfl⟩
     ·refine Li Mv ?_
      refine cu ?_;refine Rt [SH z kk] results128 ?_;refine⟨none,kk, ?_,rfl,rfl⟩;rw[hR,nF];show(((X1.cR c).aR _).last c p)=_;rw[<-LW,<-XP];unfold Mo.last;rw[<-xX,ht]
     refine Li Mv ?_;refine cu ?_;refine Rt [SH z N] results128 ?_;refine⟨some r,N, ?_,rfl,rfl⟩;rw[hR,nF];show(((X1.cR c).aR _).last c p)=_;rw[<-LW,<-XP];unfold Mo.last;rw[<-xX,ht]
    refine iz ?_;refine bO ?_;rcases po with _|p
    ·refine eJ ?_ (e:=by rfl)
     refine ba ?_;refine Rt [SH z X1] results128 ?_;exact⟨none,X1,by rw[hR,nF];rfl,rfl,rfl⟩
    have LQ:X.has p:=oN (qS (p:=p) (by have:=congrArg Prod.fst ho;exact this.symm)).1;have fN:=hXn p LQ;refine cM ?_ (e:=by exact decide_eq_false (by show¬(((X.C.hd p:Nat):Int)=0);omega));refine bL ?_;refine cN λB O=> ?_;unfold eh fC jc fm pV iZ;refine bS ?_;refine cL ?_;have O':=O.aR {X1.v.mt with re:=cm (X1.v.mt.re+1)};refine Hh (H':=gF z B.C B.W B.ty B.C.ae.length (X1.Q.flatMap (di B.C)) X1.x B.E X1.tn (X1.v,[DE DB X1.v.bc,DE DD X1.v.fE,DE DD X1.v.mt.dr,DE DD (IntKind.i64.wrap (X1.v.mt.re+1)),DE DD X1.v.mt.bu,DE DD X1.v.mt.li,DE DD X1.v.mt.lo,DE DD X1.v.mt.cr,DE DD X1.v.mt.mv, .slice X1.v.wa X1.v.wn X1.v.wc]) X1.k X1.m X1 []) ?_;unfold gF pG;refine ay (aD O' (H:= [])) ?_;obtain⟨X4,XO⟩:∃X4,X4=X1.aR {X1.v.mt with re:=cm (X1.v.mt.re+1)}:=⟨_,rfl⟩;rw[<-XO];have tV:X4.C=X.C/\X4.Q=X.Q/\X4.hole=X.hole/\X4.fP=X.fP:=by rw[XO,LX];exact⟨rfl,rfl,rfl,rfl⟩
    have QI:X4.C=X.C/\X4.has p=X.has p:=⟨tV.1,by unfold Mo.has;rw[tV.2.1]⟩;rw[<-QI.1];refine bj ?_;obtain⟨kj,xW⟩:∃kj,kj=X4.bY p:=⟨_,rfl⟩;refine zl Aq (jW z X4 p (by rw[QI.2];exact LQ)) (.cons .here .nil) DA ?_;rw[<-xW];have hha:kj.hole=none:=by rw[xW];exact tV.2.2.1.trans hX0
    have zS:c<kj.fP:=by rw[xW];show c<X4.fP;rw[tV.2.2.2];exact P4
    refine aw ?_;refine cN λB O=> ?_;unfold eh fC jc fm pV iZ;refine bS ?_;refine bL ?_;refine Hh (H':=gF z B.C B.W B.ty B.C.ae.length (kj.Q.flatMap (di B.C)) kj.x B.E kj.tn (kj.v,[DE DB kj.v.bc,DE DD kj.v.fE,DE DD kj.v.mt.dr,DE DD kj.v.mt.re,DE DD kj.v.mt.bu,DE DD kj.v.mt.li,DE DD kj.v.mt.lo,DE DD kj.v.mt.cr,DE DD kj.v.mt.mv, .slice kj.v.wa kj.v.wn kj.v.wc]) kj.k kj.m kj []) ?_;unfold gF pG;refine ay (aD O (H:= [])) ?_;refine Lp (oC Aq rfl rfl (lQ z kj hha c zS) (.cons .here .nil) DA ?_);rintro v H' hr;refine bS ?_;rcases hr with⟨ht,rfl,rfl⟩|⟨r,N,ht,rfl,rfl⟩
    ·refine Li Mv ?_
     refine cu ?_;refine Rt [SH z kj] results128 ?_;refine⟨none,kj, ?_,rfl,rfl⟩;rw[hR,nF];show((X1.aR _).last c p)=_;rw[<-XO];unfold Mo.last;rw[<-xW,ht]
    refine Li Mv ?_;refine cu ?_;refine Rt [SH z N] results128 ?_;refine⟨some r,N, ?_,rfl,rfl⟩;rw[hR,nF];show((X1.aR _).last c p)=_;rw[<-XO];unfold Mo.last;rw[<-xW,ht]
   rw[qg]at QG;refine sI ?_;refine Rt [SH z N] results128 ?_;exact⟨some r,N,by rw[hrc,QG],rfl,rfl⟩
  have hR:M.room (58+kn+vn) own=M.iK c own:=by rw[hrc];unfold Mo.pJ;rw[ht];dsimp only;rw[if_neg kQ]
  have hX0:=hh;have hXo:rO M.C own=rO M.C own:=rfl;have hXh:=gY;have hXs:=fM;refine bO ?_;refine zt 47 ?_ (e:=by rfl);refine cN λB O=> ?_;unfold eh fC jc fm pV iZ;refine bS ?_;refine bA ?_;refine Hh (H':=gF z B.C B.W B.ty B.C.ae.length (M.Q.flatMap (di B.C)) M.x B.E M.tn (M.v,[DE DB M.v.bc,DE DD M.v.fE,DE DD M.v.mt.dr,DE DD M.v.mt.re,DE DD M.v.mt.bu,DE DD M.v.mt.li,DE DD M.v.mt.lo,DE DD M.v.mt.cr,DE DD M.v.mt.mv, .slice M.v.wa M.v.wn M.v.wc]) M.k M.m M []) ?_;unfold gF pG;refine ay (aD O (H:= [])) ?_;refine zl Aq (tY z M c kQ) (.cons .here .nil) DA ?_;refine bO ?_;rw[show rO M.C own=rO M.C own from hXo.symm];refine bn ?_;refine cN λB O=> ?_;unfold eh fC jc fm pV iZ;refine bS ?_;refine cu ?_;refine Li Mf ?_;refine Hh (H':=gF z B.C B.W B.ty B.C.ae.length (M.Q.flatMap (di B.C)) M.x B.E M.tn (M.v,[DE DB M.v.bc,DE DD M.v.fE,DE DD M.v.mt.dr,DE DD M.v.mt.re,DE DD M.v.mt.bu,DE DD M.v.mt.li,DE DD M.v.mt.lo,DE DD M.v.mt.cr,DE DD M.v.mt.mv, .slice M.v.wa M.v.wn M.v.wc]) M.k M.m M []) ?_;unfold gF pG;refine ay (aD O (H:= [])) ?_;refine zl Aq (AZ z M c P4 own hXh) (.cons .here .nil) DA ?_;refine cY ?_;obtain⟨o,ho⟩:∃o,o=M.pick c own:=⟨_,rfl⟩;rw[<-ho];obtain⟨po,d,nn⟩:=o;dsimp only;refine cN λB O=> ?_;unfold eh fC jc fm pV iZ;refine bS ?_;refine gQ ?_;refine av ?_;have O':=O.aR {M.v.mt with lo:=cm (M.v.mt.lo+(nn:Int))};refine Hh (H':=gF z B.C B.W B.ty B.C.ae.length (M.Q.flatMap (di B.C)) M.x B.E M.tn (M.v,[DE DB M.v.bc,DE DD M.v.fE,DE DD M.v.mt.dr,DE DD M.v.mt.re,DE DD M.v.mt.bu,DE DD M.v.mt.li,DE DD (IntKind.i64.wrap (M.v.mt.lo+(nn:Int))),DE DD M.v.mt.cr,DE DD M.v.mt.mv, .slice M.v.wa M.v.wn M.v.wc]) M.k M.m M []) ?_;unfold gF pG;refine ay (aD O' (H:= [])) ?_;obtain⟨X1,LX⟩:∃X1,X1=M.aR {M.v.mt with lo:=cm (M.v.mt.lo+(nn:Int))}:=⟨_,rfl⟩;rw[<-LX];have nF:M.iK c own=X1.Ez c po d:=by unfold Mo.iK;rw[<-ho,LX]
  have adw:X1.m.st<4611686018427387904:=by rw[LX];exact hXs
  have adx:c<X1.fP:=by rw[LX];exact P4
  rcases d with _|_
  ·refine iz ?_
   refine aY ?_;refine cN λB O=> ?_;unfold eh fC jc fm pV iZ;refine bS ?_;refine bL ?_;refine Hh (H':=gF z B.C B.W B.ty B.C.ae.length (X1.Q.flatMap (di B.C)) X1.x B.E X1.tn (X1.v,[DE DB X1.v.bc,DE DD X1.v.fE,DE DD X1.v.mt.dr,DE DD X1.v.mt.re,DE DD X1.v.mt.bu,DE DD X1.v.mt.li,DE DD X1.v.mt.lo,DE DD X1.v.mt.cr,DE DD X1.v.mt.mv, .slice X1.v.wa X1.v.wn X1.v.wc]) X1.k X1.m X1 []) ?_;unfold gF pG;refine ay (aD O (H:= [])) ?_;refine zl Aq (uL z X1 c adx adw) (.cons .here .nil) DA ?_;refine aw ?_;refine av ?_;obtain⟨X2,LW⟩:∃X2,X2=X1.cR c:=⟨_,rfl⟩;rw[<-LW];rcases po with _|p
   ·refine iz ?_
    refine cu ?_;refine Rt [SH z X2] results128 ?_;exact⟨none,X2,by rw[hR,nF];show(none,X1.cR c)=_;rw[<-LW],rfl,rfl⟩
   have LQ:M.has p:=oN (qS (p:=p) (by have:=congrArg Prod.fst ho;exact this.symm)).1;have fN:=hXn p LQ;refine aY ?_;refine cM ?_ (e:=by exact decide_eq_false (by show¬(((M.C.hd p:Nat):Int)=0);omega));refine bL ?_;refine cN λB O=> ?_;unfold eh fC jc fm pV iZ;refine bS ?_;refine cL ?_;have O':=O.aR {X2.v.mt with dr:=cm (X2.v.mt.dr+1)};refine Hh (H':=gF z B.C B.W B.ty B.C.ae.length (X2.Q.flatMap (di B.C)) X2.x B.E X2.tn (X2.v,[DE DB X2.v.bc,DE DD X2.v.fE,DE DD (IntKind.i64.wrap (X2.v.mt.dr+1)),DE DD X2.v.mt.re,DE DD X2.v.mt.bu,DE DD X2.v.mt.li,DE DD X2.v.mt.lo,DE DD X2.v.mt.cr,DE DD X2.v.mt.mv, .slice X2.v.wa X2.v.wn X2.v.wc]) X2.k X2.m X2 []) ?_;unfold gF pG;refine ay (aD O' (H:= [])) ?_;obtain⟨X3,XP⟩:∃X3,X3=X2.aR {X2.v.mt with dr:=cm (X2.v.mt.dr+1)}:=⟨_,rfl⟩;rw[<-XP];have tW:X3.C=M.C/\X3.Q=M.Q/\X3.hole=M.hole/\X3.fP=M.fP:=by rw[XP,LW,LX];exact⟨rfl,rfl,rfl,rfl⟩
   have QJ:X3.C=M.C/\X3.has p=M.has p:=⟨tW.1,by unfold Mo.has;rw[tW.2.1]⟩;rw[<-QJ.1];refine bj ?_;obtain⟨kk,xX⟩:∃kk,kk=X3.bY p:=⟨_,rfl⟩;refine zl Aq (jW z X3 p (by rw[QJ.2];exact LQ)) (.cons .here .nil) DA ?_;rw[<-xX];have hha:kk.hole=none:=by rw[xX];exact tW.2.2.1.trans hX0
   have zS:c<kk.fP:=by rw[xX];show c<X3.fP;rw[tW.2.2.2];exact P4
   refine aw ?_;refine cN λB O=> ?_;unfold eh fC jc fm pV iZ;refine bS ?_;refine bL ?_;refine Hh (H':=gF z B.C B.W B.ty B.C.ae.length (kk.Q.flatMap (di B.C)) kk.x B.E kk.tn (kk.v,[DE DB kk.v.bc,DE DD kk.v.fE,DE DD kk.v.mt.dr,DE DD kk.v.mt.re,DE DD kk.v.mt.bu,DE DD kk.v.mt.li,DE DD kk.v.mt.lo,DE DD kk.v.mt.cr,DE DD kk.v.mt.mv, .slice kk.v.wa kk.v.wn kk.v.wc]) kk.k kk.m kk []) ?_;unfold gF pG;refine ay (aD O (H:= [])) ?_;refine Lp (oC Aq rfl rfl (lQ z kk hha c zS) (.cons .here .nil) DA ?_);rintro v H' hr;refine bS ?_;rcases hr with⟨ht,rfl,rfl⟩|⟨r,N,ht,rfl,rfl⟩
   ·refine Li Mv ?_
    refine cu ?_;refine Rt [SH z kk] results128 ?_;refine⟨none,kk, ?_,rfl,rfl⟩;rw[hR,nF];show(((X1.cR c).aR _).last c p)=_;rw[<-LW,<-XP];unfold Mo.last;rw[<-xX,ht]
   refine Li Mv ?_;refine cu ?_;refine Rt [SH z N] results128 ?_;refine⟨some r,N, ?_,rfl,rfl⟩;rw[hR,nF];show(((X1.cR c).aR _).last c p)=_;rw[<-LW,<-XP];unfold Mo.last;rw[<-xX,ht]
  refine iz ?_;refine bO ?_;rcases po with _|p
  ·refine eJ ?_ (e:=by rfl)
   refine ba ?_;refine Rt [SH z X1] results128 ?_;exact⟨none,X1,by rw[hR,nF];rfl,rfl,rfl⟩
  have LQ:M.has p:=oN (qS (p:=p) (by have:=congrArg Prod.fst ho;exact this.symm)).1;have fN:=hXn p LQ;refine cM ?_ (e:=by exact decide_eq_false (by show¬(((M.C.hd p:Nat):Int)=0);omega));refine bL ?_;refine cN λB O=> ?_;unfold eh fC jc fm pV iZ;refine bS ?_;refine cL ?_;have O':=O.aR {X1.v.mt with re:=cm (X1.v.mt.re+1)};refine Hh (H':=gF z B.C B.W B.ty B.C.ae.length (X1.Q.flatMap (di B.C)) X1.x B.E X1.tn (X1.v,[DE DB X1.v.bc,DE DD X1.v.fE,DE DD X1.v.mt.dr,DE DD (IntKind.i64.wrap (X1.v.mt.re+1)),DE DD X1.v.mt.bu,DE DD X1.v.mt.li,DE DD X1.v.mt.lo,DE DD X1.v.mt.cr,DE DD X1.v.mt.mv, .slice X1.v.wa X1.v.wn X1.v.wc]) X1.k X1.m X1 []) ?_;unfold gF pG;refine ay (aD O' (H:= [])) ?_;obtain⟨X4,XO⟩:∃X4,X4=X1.aR {X1.v.mt with re:=cm (X1.v.mt.re+1)}:=⟨_,rfl⟩;rw[<-XO];have tV:X4.C=M.C/\X4.Q=M.Q/\X4.hole=M.hole/\X4.fP=M.fP:=by rw[XO,LX];exact⟨rfl,rfl,rfl,rfl⟩
  have QI:X4.C=M.C/\X4.has p=M.has p:=⟨tV.1,by unfold Mo.has;rw[tV.2.1]⟩;rw[<-QI.1];refine bj ?_;obtain⟨kj,xW⟩:∃kj,kj=X4.bY p:=⟨_,rfl⟩;refine zl Aq (jW z X4 p (by rw[QI.2];exact LQ)) (.cons .here .nil) DA ?_;rw[<-xW];have hha:kj.hole=none:=by rw[xW];exact tV.2.2.1.trans hX0
  have zS:c<kj.fP:=by rw[xW];show c<X4.fP;rw[tV.2.2.2];exact P4
  refine aw ?_;refine cN λB O=> ?_;unfold eh fC jc fm pV iZ;refine bS ?_;refine bL ?_;refine Hh (H':=gF z B.C B.W B.ty B.C.ae.length (kj.Q.flatMap (di B.C)) kj.x B.E kj.tn (kj.v,[DE DB kj.v.bc,DE DD kj.v.fE,DE DD kj.v.mt.dr,DE DD kj.v.mt.re,DE DD kj.v.mt.bu,DE DD kj.v.mt.li,DE DD kj.v.mt.lo,DE DD kj.v.mt.cr,DE DD kj.v.mt.mv, .slice kj.v.wa kj.v.wn kj.v.wc]) kj.k kj.m kj []) ?_;unfold gF pG;refine ay (aD O (H:= [])) ?_;refine Lp (oC Aq rfl rfl (lQ z kj hha c zS) (.cons .here .nil) DA ?_);rintro v H' hr;refine bS ?_;rcases hr with⟨ht,rfl,rfl⟩|⟨r,N,ht,rfl,rfl⟩
  ·refine Li Mv ?_
   refine cu ?_;refine Rt [SH z kj] results128 ?_;refine⟨none,kj, ?_,rfl,rfl⟩;rw[hR,nF];show((X1.aR _).last c p)=_;rw[<-XO];unfold Mo.last;rw[<-xW,ht]
  refine Li Mv ?_;refine cu ?_;refine Rt [SH z N] results128 ?_;refine⟨some r,N, ?_,rfl,rfl⟩;rw[hR,nF];show((X1.aR _).last c p)=_;rw[<-XO];unfold Mo.last;rw[<-xW,ht]
 refine Li Mv ?_;refine bD ?_;refine zf 47 ?_ (e:=by rfl);refine cC ?_;refine aY ?_;refine Rt [SH z N] results128 ?_;exact⟨some r,N,by rw[hrc];unfold Mo.pJ;rw[ht],rfl,rfl⟩
def Mo.XR (M:Mo):Prop:=M.mg=0/\3*M.nb<2*(M.n+1)/\M.nb<M.aH
instance (M:Mo):Decidable M.XR:=by unfold Mo.XR;infer_instance
def lx (Q:Dy)(i p:Nat):Dy:=Q.set i (p::ql Q i)
def Mo.jv (M:Mo)(r:Nat)(n:I3):Mo:=
 {M with hole:=none,Q:=lx M.Q (qi (M.C.cl r) 1) r,it:=λq=>if q=r then{n with fe:=mkSet n.fe false}else M.it q,ord:=λq=>if q=r then M.tn+1 else M.ord q,tn:=if 0<n.exp then M.tn+1 else M.tn,n:=M.n+1,nb:=if M.XR then 2*M.nb else M.nb,mg:=if M.XR then M.nb else M.mg,v:={M.v with fE:=M.v.fE+n.sz}}
theorem jJ{Q:Dy}{i p q j:Nat}(hi:i<Q.length):q∈ql (lx Q i p) j↔(j=i/\q=p)\/q∈ql Q j:=by
 unfold lx;rw[fS hi];by_cases e:j=i
 ·rw[if_pos e,abh,e]
  exact⟨λh=>h.imp (λh=>⟨rfl,h⟩) id,λh=>h.imp (λh=>h.2) id⟩
 rw[if_neg e];exact⟨.inr,λh=>h.resolve_left λg=>e g.1⟩
theorem bM.jv{B:Bx}{M:Mo}(O:bM B M){r:Nat}(hr:M.hole=some r)(I:gU B.C r)(n:I3)(lG:mM B.C.A r=n)(hm:n.fe<16)(Xq:cU n.key=true){A2 A3:By}{V:Tb}{ty:pW}(hy:ty.ok=none->V.ob= [])(PK:acM B.C B.W r A2 V)(EK:Rk (B.C.wA A2) r A3 (lx M.Q (qi (B.C.cl r) 1) r)):
  bM ⟨B.C.wA A3,V,ty,lT B.E (B.C.hd r) n.exp M.tn⟩ (M.jv r n):=by
 have K:=O.k;have tN:r∉B.W.all:=O.ho r hr;have L:Live B.C r:=(O.lv r).2 (.inr hr);have ig:=(L.toAt.br K).1;have LN:=nC O.o ig (s:=1) ⟨abc _,by omega⟩;have dx:B.C.cl r=M.C.cl r:=O.cl r;have wW:∀q,q∈V.all↔q=r\/q∈B.W.all:=λq=>by rw[PK.pm.mem_iff,abh]
 have lv_:∀q,q=r\/q∈B.W.all->Live B.C q:=λq h=>h.elim (λe=>e▸L) O.tH;have io_:∀q,q=r\/q∈B.W.all->gU B.C q:=λq h=>h.elim (λe=>e▸I) (O.t.it q);have d1:dm B.C B.C.A A2 (λq o=>q=r/\o<4):=(wB PK.df (λq hq=>by rw[acQ.1 hq];exact L.toAt) (λq hq=>by rw[acQ.1 hq];have:=(L.toAt.br K).2.1;omega)).mono λq o g=>by
  obtain⟨g1,_,g3⟩:=g;exact⟨acQ.1 g1,by omega⟩
 have d2:dm B.C A2 A3 (SL r):=EK.d.wA;have dd:dm B.C B.C.A A3 (λq o=>o<12\/(o=45\/o=46)/\q=r):=(d1.mono λq o g=>by omega).trans (d2.mono λq o g=>by unfold SL at g;omega);have same:∀q∈B.W.all,mM A3 q=mM B.C.A q:=λq h=>wu K dd (O.nm h) (O.t.it q h) λj s=>by
  have ne:q≠r:=λe=>tN (e▸h);rcases s with s|s
  ·omega
  exact absurd s.2 ne
 have mr:dJ A3 r=mkSet n.fe false:=by
  rw[EK.mr];have:dJ A2 r=dJ B.C.A r:=lJ K d1 L.toAt (by have:=(L.toAt.br K).2.1;omega) λj h1 h2 s=>by omega
  rw[show dJ (B.C.wA A2).A r=dJ B.C.A r from this,show dJ B.C.A r=n.fe from congrArg I3.fe lG]
 have QX:mM A3 r={n with fe:=mkSet n.fe false}:=by
  rw[HB K dd L.toAt I λj s=>by omega,lG,mr]
 have nit:∀q∈V.all,mM A3 q=(M.jv r n).it q:=λq h=>by
  show _=if q=r then _ else M.it q
  rcases(wW q).1 h with e|h1
  ·rw[if_pos e,e];exact QX
  rw[if_neg λe:q=r=>tN (e▸h1),same q h1];exact O.it q h1
 have iG:∀q,Live (B.C.wA A3) q↔Live B.C q:=λq=>⟨λh=>⟨⟨h.i,h.own,h.al,h.k⟩,h.tk⟩,λh=>h.wA _⟩;have hmq:∀q∈V.all,dJ A3 q<16:=λq h=>by
  rcases(wW q).1 h with e|h1
  ·rw[e,mr]
   have:=mA hm false;omega
  rw[show dJ A3 q=dJ B.C.A q from congrArg I3.fe (same q h1)];obtain⟨i,hi⟩:=(O.al q).1 h1;exact O.mq i q hi
 have al_:∀q,q∈V.all↔∃j,q∈ql (M.jv r n).Q j:=λq=>by
  rw[wW];show _↔∃j,q∈ql (lx M.Q (qi (M.C.cl r) 1) r) j;rw[<-dx];constructor
  ·rintro(e|h)
   ·exact⟨_,(jJ LN).2 (.inl ⟨rfl,e⟩)⟩
   obtain⟨j,hj⟩:=(O.al q).1 h;exact⟨j,(jJ LN).2 (.inr hj)⟩
  rintro⟨j,hj⟩;rcases(jJ LN).1 hj with⟨_,e⟩|h
  ·exact .inl e
  exact .inr (O.ot h)
 have h0:=O.st0;have BL:=O.nb;have hn:=O.n;have DR:=O.mg;have hmo:=O.mo;have hgr:M.XR↔qz B.W:=by unfold Mo.XR qz;rw[h0,BL,hn,hmo]
 have h16:=O.t.Qc;have G5:∀q∈B.W.all,B.C.hd q≠B.C.hd r:=λq h e=>tN ((jm K (O.nm h) L.toAt e)▸h);refine⟨?_,K.wA A3, ?_,hy, ?_, ?_,λj q h=>hmq q ((al_ q).2 ⟨j,h⟩),O.ck,al_,λq=> ?_,λq h=>(by cases h),nit, ?_, ?_, ?_, ?_, ?_, ?_,O.un,O.on,O.go,O.wn,O.cf, ?_,λq h=> ?_⟩
 ·show B.C.wA A3=M.C.wA A3
  conv=>lhs;rw[O.c]
  rfl
 ·exact GZ (K.wA A2) PK.o EK.d λq _ j g=>⟨by unfold SL at g;unfold mL;omega,by unfold SL at g;omega⟩
 ·show jd (B.C.wA A3) (lx M.Q (qi (M.C.cl r) 1) r)
  rw[<-dx];exact EK.o
 ·show dt B.C.ae.length (lx M.Q (qi (M.C.cl r) 1) r) M.x
  rw[<-dx];exact⟨O.x.go,O.x.no,λq h=>⟨(jJ LN).2 (.inr (O.x.nx q h).1),(O.x.nx q h).2⟩,O.x.lf⟩
 ·show Live (B.C.wA A3) q↔q∈V.all\/none=some q
  rw[iG,O.lv,wW,hr];constructor
  ·rintro(h|h)
   ·exact .inl (.inr h)
   exact .inl (.inl (Option.some.inj h).symm)
  rintro((h|h)|h)
  ·exact .inr (by rw[h])
  ·exact .inl h
  cases h
 ·have e1:iQ (B.C.wA A3) (M.jv r n) B.W.all=iQ B.C M B.W.all:=fY λq h=>by
   have ne:q≠r:=λe=>tN (e▸h);refine⟨?_,if_neg ne,rfl⟩;show(if q=r then _ else M.it q).exp=_;rw[if_neg ne]
  have e2:iQ (B.C.wA A3) (M.jv r n) (r::B.W.all)=if 0<n.exp then⟨B.C.hd r,n.exp,M.tn+1⟩::iQ B.C M B.W.all else iQ B.C M B.W.all:=by
   rw[ja,e1,show(M.jv r n).it r={n with fe:=mkSet n.fe false}from if_pos rfl,show(M.jv r n).ord r=M.tn+1 from if_pos rfl];rfl
  refine abd.trans ?_ ((abd.of_eq e2.symm).trans (jM PK.pm.symm));have p1:(fi B.E (B.C.hd r)).Perm (iQ B.C M B.W.all):=(O.e.filter _).trans (abd.of_eq (mD G5));unfold lT;split
  ·exact p1.cons _
  exact p1
 ·intro h2
  show V.mv<V.ob.length;by_cases g:qz B.W
  ·obtain⟨_,_,e1,e2⟩:=PK.big g
   rw[e1,e2];omega
  obtain⟨_,e1,e2,e3⟩:=PK.same g;rw[e2,e3];exact O.st (by rw[<-e1];exact h2)
 ·show V.size=if M.XR then 2*M.nb else M.nb
  by_cases g:qz B.W
  ·rw[if_pos (hgr.2 g),(PK.big g).1,BL]
  rw[if_neg λe=>g (hgr.1 e),(PK.same g).1,BL]
 ·show(if M.XR then M.nb else M.mg)=if V.st=2 then V.ob.length-V.mv else 0
  by_cases g:qz B.W
  ·obtain⟨_,e1,e2,e3⟩:=PK.big g
   rw[if_pos (hgr.2 g),if_pos e1,e2,e3,BL];rfl
  obtain⟨_,e1,e2,e3⟩:=PK.same g;rw[if_neg λe=>g (hgr.1 e),e1,e2,e3];exact DR
 ·exact PK.aH.trans hmo
 ·show M.v.fE+n.sz=(V.all.map λq=>((M.jv r n).it q).sz).sum
  rw[my _ PK.pm,aa7,abp,show((M.jv r n).it r).sz=n.sz by rw[show(M.jv r n).it r={n with fe:=mkSet n.fe false}from if_pos rfl];rfl,O.bt];rw[show(B.W.all.map λq=>((M.jv r n).it q).sz)=B.W.all.map λq=>(M.it q).sz from ahn λq h=>by
   show(if q=r then _ else M.it q).sz=_;rw[if_neg λe:q=r=>tN (e▸h)]]
  omega
 ·show V.n=M.n+1
  rw[PK.n,hn]
 show cU (if q=r then{n with fe:=mkSet n.fe false}else M.it q).key=true;rcases(wW q).1 h with e|h1
 ·rw[if_pos e];exact Xq
 rw[if_neg λe:q=r=>tN (e▸h1)];exact O.lg q h1
def Mo.oE (M:Mo)(p r:Nat)(n:I3):Mo:=
 {M with C:=M.C.bh p,hole:=none,Q:=lx (ik M.Q p) (qi (M.C.cl r) 1) r,it:=λq=>if q=r then{n with fe:=mkSet n.fe false}else M.it q,ord:=λq=>if q=r then M.tn+1 else M.ord q,tn:=if 0<n.exp then M.tn+1 else M.tn,x:=M.x.left M.Q p,v:={M.v with fE:=M.v.fE+n.sz-(M.it p).sz}}
theorem bM.oE{B:Bx}{M:Mo}(O:bM B M){p r:Nat}(hp:M.has p)(hr:M.hole=some r)(I:gU B.C r)(n:I3)(lG:mM B.C.A r=n)(hm:n.fe<16)(Xq:cU n.key=true){A2 A3 A4:By}{V:Tb}{ty:pW}(hy:ty.ok=none->V.ob= [])(T:Ii B.C B.W p r A2 V)
  (OF:acO (B.C.wA A2) p A3 (ik M.Q p) (M.x.left M.Q p)) (EK:Rk (((B.C.wA A2).wA A3).bh p) r A4 (lx (ik M.Q p) (qi (B.C.cl r) 1) r)):
  bM ⟨(((B.C.wA A2).wA A3).bh p).wA A4,V,ty,fi (lT B.E (B.C.hd r) n.exp M.tn) (B.C.hd p)⟩ (M.oE p r n):=by
 have K:=O.k;have dL:=(O.al p).2 hp;have Lp:=O.tH dL;have tN:r∉B.W.all:=O.ho r hr;have Jp:r≠p:=λe=>tN (e▸dL);have L:Live B.C r:=(O.lv r).2 (.inr hr);have ig:=(L.toAt.br K).1;have dx:B.C.cl r=M.C.cl r:=O.cl r;obtain⟨rest,Qe,Xd⟩:=T.pm;have nd1:=abg.1 (Qe.nodup_iff.1 O.t.nd);have inr:∀q,q∈rest↔q∈B.W.all/\q≠p:=λq=>by
  rw[Qe.mem_iff,abh];exact⟨λh=>⟨.inr h,λe=>nd1.1 (e▸h)⟩,λh=>h.1.resolve_left h.2⟩
 have wW:∀q,q∈V.all↔q=r\/q∈B.W.all/\q≠p:=λq=>by rw[Xd.mem_iff,abh,inr]
 have lv_:∀q,q=r\/q∈B.W.all->Live B.C q:=λq h=>h.elim (λe=>e▸L) O.tH;have io_:∀q,q=r\/q∈B.W.all->gU B.C q:=λq h=>h.elim (λe=>e▸I) (O.t.it q);have LN:qi (B.C.cl r) 1<(ik M.Q p).length:=by
  unfold ik;rw[abo];exact nC O.o ig (s:=1) ⟨abc _,by omega⟩
 have d1:dm B.C B.C.A A2 (λ_ o=>o<4):=(wB T.df (λq hq=>(lv_ q ((abh.1 hq).imp id id)).toAt) (λq hq=>by have:=((lv_ q ((abh.1 hq).imp id id)).toAt.br K).2.1;omega)).mono λq o g=>by omega
 have d2:dm B.C A2 A3 (SQ p):=OF.d.wA;have d3:dm B.C A3 A4 (SL r):=λi hi=>by
  obtain⟨q,o,q1,q2,q3,q4⟩:=EK.d i hi;have S:=(gA (K.wA A3) (Lp.wA A3)).2;have a:=(S.at (p:=q)).1 ⟨q1.i,q1.own,q1.al,q1.k⟩;refine⟨q,o,⟨a.i,a.own,a.al,a.k⟩, ?_,q3,q4⟩;have e1:((((B.C.wA A2).wA A3).bh p)).cl q=B.C.cl q:=S.cl q;rw[e1]at q2;exact q2
 have dd:dm B.C B.C.A A4 (λq o=>o<12\/o=45\/o=46/\q=r):=((d1.mono λq o g=>by omega).trans (d2.mono λq o g=>by unfold SQ at g;omega)).trans (d3.mono λq o g=>by unfold SL at g;omega);have same:∀q∈B.W.all,mM A4 q=mM B.C.A q:=λq h=>wu K dd (O.nm h) (O.t.it q h) λj s=>by
  have ne:q≠r:=λe=>tN (e▸h);rcases s with s|s|s
  ·omega
  ·omega
  exact absurd s.2 ne
 have d12:dm B.C B.C.A A3 (λq o=>o<12\/o=45):=(d1.mono λq o g=>by omega).trans (d2.mono λq o g=>by unfold SQ at g;omega);have mr:dJ A4 r=mkSet n.fe false:=by
  rw[EK.mr];have:dJ A3 r=dJ B.C.A r:=lJ K d12 L.toAt (by have:=(L.toAt.br K).2.1;omega) λj h1 h2 s=>by omega
  rw[show dJ (((B.C.wA A2).wA A3).bh p).A r=dJ B.C.A r from this,show dJ B.C.A r=n.fe from congrArg I3.fe lG]
 have QX:mM A4 r={n with fe:=mkSet n.fe false}:=by
  rw[HB K dd L.toAt I λj s=>by omega,lG,mr]
 have nit:∀q∈V.all,mM A4 q=(M.oE p r n).it q:=λq h=>by
  show _=if q=r then _ else M.it q
  rcases(wW q).1 h with e|⟨h1,h2⟩
  ·rw[if_pos e,e];exact QX
  rw[if_neg λe:q=r=>tN (e▸h1),same q h1];exact O.it q h1
 have iG:∀q,Live ((((B.C.wA A2).wA A3).bh p).wA A4) q↔Live B.C q/\q≠p:=λq=>by
  have h1:=nZ (K.wA A3) (Lp.wA A3) q;refine Iff.trans ⟨λh=> ?_,λh=> ?_⟩ (h1.trans ⟨λh=>⟨⟨⟨h.1.i,h.1.own,h.1.al,h.1.k⟩,h.1.tk⟩,h.2⟩,λh=>⟨h.1.wA _,h.2⟩⟩)
  ·exact⟨⟨h.i,h.own,h.al,h.k⟩,h.tk⟩
  exact⟨⟨h.i,h.own,h.al,h.k⟩,h.tk⟩
 have LU:∀q,Live B.C q->q≠p->((((B.C.wA A2).wA A3).bh p).wA A4).hd q=B.C.hd q:=λq h ne=>((jK (K.wA A3) (Lp.wA A3)).lv q ne (h.wA A3)).2.1;have hmq:∀q∈V.all,dJ A4 q<16:=λq h=>by
  rcases(wW q).1 h with e|⟨h1,h2⟩
  ·rw[e,mr]
   have:=mA hm false;omega
  rw[show dJ A4 q=dJ B.C.A q from congrArg I3.fe (same q h1)];obtain⟨i,hi⟩:=(O.al q).1 h1;exact O.mq i q hi
 have al_:∀q,q∈V.all↔∃j,q∈ql (M.oE p r n).Q j:=λq=>by
  rw[wW];show _↔∃j,q∈ql (lx (ik M.Q p) (qi (M.C.cl r) 1) r) j;rw[<-dx];constructor
  ·rintro(e|⟨h,ne⟩)
   ·exact⟨_,(jJ LN).2 (.inl ⟨rfl,e⟩)⟩
   obtain⟨j,hj⟩:=(O.al q).1 h;exact⟨j,(jJ LN).2 (.inr (by rw[iO];exact(ain ne).2 hj))⟩
  rintro⟨j,hj⟩;rcases(jJ LN).1 hj with⟨_,e⟩|h
  ·exact .inl e
  rw[iO]at h;exact .inr ⟨O.ot (ahS h),λe=>by subst e;exact(List.Nodup.not_mem_erase (O.o.nd j)) h⟩
 have jg:=λj=>oV (K.wA A3) (Lp.wA A3) j;have hn:=O.n;have BL:=O.nb;have DR:=O.mg;have Kf:Ok ((((B.C.wA A2).wA A3).bh p).wA A4):=OF.k.wA A4;have hsV:∀q∈V.all,q≠p:=λq h=>((wW q).1 h).elim (λe=>e▸Jp) λg=>g.2;refine⟨?_,Kf, ?_,hy, ?_, ?_,λj q h=>hmq q ((al_ q).2 ⟨j,h⟩),O.ck,al_,λq=> ?_,λq h=>(by cases h),nit, ?_, ?_, ?_, ?_, ?_, ?_, ?_, ?_, ?_,O.wn, ?_, ?_,λq h=> ?_⟩
 ·show(((B.C.wA A2).wA A3).bh p).wA A4=(M.C.bh p).wA A4
  conv=>lhs;rw[O.c]
  rfl
 ·have T2:=GZ (K.wA A2) T.o OF.d λq _ j g=>⟨g.oG,by unfold SQ at g;omega⟩
  have T3:=OF.s.tb T2 hsV;exact GZ OF.k T3 EK.d λq _ j g=>⟨by unfold SL at g;unfold mL;omega,by unfold SL at g;omega⟩
 ·show jd _ (lx (ik M.Q p) (qi (M.C.cl r) 1) r)
  rw[<-dx];exact EK.o
 ·show dt B.C.ae.length (lx (ik M.Q p) (qi (M.C.cl r) 1) r) (M.x.left M.Q p)
  rw[<-dx];have X:=OF.x;exact⟨X.go,X.no,λq h=>⟨(jJ LN).2 (.inr (X.nx q h).1),(X.nx q h).2⟩,X.lf⟩
 ·show Live _ q↔q∈V.all\/none=some q
  rw[iG,O.lv,wW,hr];constructor
  ·rintro⟨h|h,ne⟩
   ·exact .inl (.inr ⟨h,ne⟩)
   exact .inl (.inl (Option.some.inj h).symm)
  rintro((h|h)|h)
  ·exact⟨.inr (by rw[h]),λe=>Jp (h.symm.trans e)⟩
  ·exact⟨.inl h.1,h.2⟩
  cases h
 ·have fN:∀q∈rest,B.C.hd q≠B.C.hd p:=λq h e=>((inr q).1 h).2 (jm K (O.nm ((inr q).1 h).1) (O.nm dL) e)
  have G5:∀q∈p::rest,B.C.hd q≠B.C.hd r:=λq h e=>by
   have hq:q∈B.W.all:=(abh.1 h).elim (λe=>e▸dL) λh=>((inr q).1 h).1;exact tN ((jm K (O.nm hq) L.toAt e)▸hq)
  have hrp:B.C.hd r≠B.C.hd p:=λe=>G5 p aa5 e.symm;have e1:iQ ((((B.C.wA A2).wA A3).bh p).wA A4) (M.oE p r n) rest=iQ B.C M rest:=fY λq h=>by
   obtain⟨g1,g2⟩:=(inr q).1 h;have ne:q≠r:=λe=>tN (e▸g1);refine⟨?_,if_neg ne,LU q (O.tH g1) g2⟩;show(if q=r then _ else M.it q).exp=_;rw[if_neg ne]
  have e2:iQ ((((B.C.wA A2).wA A3).bh p).wA A4) (M.oE p r n) (r::rest)=if 0<n.exp then⟨B.C.hd r,n.exp,M.tn+1⟩::iQ B.C M rest else iQ B.C M rest:=by
   rw[ja,e1,show(M.oE p r n).it r={n with fe:=mkSet n.fe false}from if_pos rfl,show(M.oE p r n).ord r=M.tn+1 from if_pos rfl,LU r L Jp]
  refine abd.trans ?_ ((abd.of_eq e2.symm).trans (jM Xd.symm));have p1:(fi B.E (B.C.hd r)).Perm (iQ B.C M (p::rest)):=((O.e.trans (jM Qe)).filter _).trans (abd.of_eq (mD G5));have p2:(fi (fi B.E (B.C.hd r)) (B.C.hd p)).Perm (iQ B.C M rest):=by
   refine(p1.filter _).trans ?_;rw[ja];split
   ·rw[ahJ,if_neg (by simp)]
    exact abd.of_eq (mD fN)
   exact abd.of_eq (mD fN)
  unfold lT;split
  ·unfold fi at p2⊢
   rw[ahJ,if_pos (by simpa using hrp)];exact p2.cons _
  exact p2
 ·intro h2
  show V.mv<V.ob.length;rw[T.mv,T.s.ob];exact O.st (by rw[<-T.s.st];exact h2)
 ·exact T.s.size.trans BL
 ·show M.mg=if V.st=2 then V.ob.length-V.mv else 0
  rw[T.s.st,T.mv,T.s.ob];exact DR
 ·exact T.s.aH.trans O.mo
 ·show M.v.fE+n.sz-(M.it p).sz=(V.all.map λq=>((M.oE p r n).it q).sz).sum
  rw[my _ Xd,aa7,abp,show((M.oE p r n).it r).sz=n.sz by rw[show(M.oE p r n).it r={n with fe:=mkSet n.fe false}from if_pos rfl];rfl,O.bt,my _ Qe,aa7,abp];rw[show(rest.map λq=>((M.oE p r n).it q).sz)=rest.map λq=>(M.it q).sz from ahn λq h=>by
   show(if q=r then _ else M.it q).sz=_;rw[if_neg λe:q=r=>tN (e▸((inr q).1 h).1)]]
  omega
 ·exact O.un
 ·intro h
  have:=O.on h;obtain⟨e1,e2,e3⟩:=jg M.m.pg;exact⟨this.1,e1.trans this.2.1,e2.trans this.2.2.1,e3.trans this.2.2.2⟩
 ·intro j h
  exact O.go j ((jg j).2.1.symm.trans h)
 ·exact O.cf
 ·exact T.s.n.trans hn
 show cU (if q=r then{n with fe:=mkSet n.fe false}else M.it q).key=true;rcases(wW q).1 h with e|⟨h1,h2⟩
 ·rw[if_pos e];exact Xq
 rw[if_neg λe:q=r=>tN (e▸h1)];exact O.lg q h1
def Mo.rT (M:Mo)(i:Nat):Mo:={M with v:={M.v with bc:=i}}
theorem bM.rT{B:Bx}{M:Mo}(O:bM B M)(i:Nat):bM B (M.rT i):=
 ⟨O.c,O.k,O.t,O.ty,O.o,O.x,O.mq,O.ck,O.al,O.lv,O.ho,O.it,O.e,O.st,O.nb,O.mg,O.mo,O.bt,O.un,O.on,O.go,O.wn,O.cf,O.n,O.lg⟩
def Mo.fZ (M:Mo)(r:Nat)(old:FW)(n:I3):Mo:=match old with
 |none=>(M.rT (M.v.bc+1)).jv r n
 |some p=>(M.rT (M.v.bc+1)).oE p r n
theorem bM.aji{B:Bx}{M:Mo}(O:bM B M):M.v.fE<=1125899906842624:=by
 rw[O.bt];have h2:=BY O.k O.t;rw[O.t.n]at h2;have:∀l:F8,(∀p∈l,p∈B.W.all)->(l.map λp=>(M.it p).sz).sum<=l.length*1048576:=λl=>by
  induction l with
  |nil=>intro _;simp
  |cons p l ih=>
   intro h;have hp:=h p aa5;have h1:=O.szp hp;have h3:=(O.t.it p hp).fits;have h4:=((O.nm hp).br O.k).2.2.1;have h5:=O.k.toFix.p1;have:=ih λq hq=>h q (aa6 _ hq);rw[aa7,abp,abu];omega
 have:=this _ λp h=>h;have h3:B.W.all.length*1048576<=1073741824*1048576:=acW _ h2;omega
theorem YX (z:Ly)(M:Mo)(r:Nat)(hr:M.hole=some r)(old:FW)(k v:F9)(Xh W8:Nat)(qh:Xh=k.length)(hvl:W8=v.length)(hold:∀p,old=some p->M.has p/\(M.it p).key=k)(adp:old=none->M.find k=none)(ka va:FX)(kc vc fl ex mk:Nat)(Xq:cU k=true)
  (vk:58+k.length+v.length<=M.C.sz (M.C.cl r)) (rN:fl<4294967296) (hex:ex<9223372036854775808) (u9:mk<16) (vj:M.v.bc+1<18446744073709551616) (wb:M.tn<18446744073709551615):
  aK aaY 129 [DC z.s,DE DB (M.C.hd r),DE DB (rO M.C old), .agg (DW (.slice ka Xh kc) (.slice va W8 vc) fl ex 0 0 0 mk).toArray] (λh=>fD h ka (ak k)/\fD h va (ak v)) [SH z M]
   (λw H=>w= .tuple #[]/\H= [SH z (M.fZ r old ⟨k,v,fl,ex,M.k.now,M.v.bc+1,mk⟩)]):=by
 obtain⟨n,hn⟩:∃n:I3,n=⟨k,v,fl,ex,M.k.now,M.v.bc+1,mk⟩:=⟨_,rfl⟩;rw[<-hn];refine af func129 rfl ntmps129 rfl ?_;rintro F ⟨hka,hva⟩;refine aw ?_;refine Lp (oB λb1=> ?_);refine aw ?_;refine ay (λ_ x=>dH x) ?_;refine cN λB O=> ?_;have K:=O.k;have L:Live B.C r:=(O.lv r).2 (.inr hr);have z6:=O.ck.n2;have LU:=O.hd r;have hz4:=(L.toAt.br K).2.2.1;have u7:=K.toFix.p1;have Q7:58+k.length+v.length<=B.C.sz (B.C.cl r):=by rw[O.c];exact vk
 have hlk:=fX Xq;have ly:=KR z.y.b B.C K r L ka va kc vc Xh W8 k v qh hvl fl ex M.k.now (M.v.bc+1) 4 mk Xq Q7 rN hex (by omega) vj ⟨by omega,by omega⟩ u9;rw[LU]at ly;have XM:k.length<256:=by omega
 have hv6:v.length<256^4:=by omega
 have LP:=R7 (c:=B.C.cl r) (fl:=fl) (exp:=ex) (tch:=M.k.now) (tok:=M.v.bc+1) (st:=4) (mk:=mk) L.toAt XM Q7;have QK:=Dg B.C.A r (B.C.cl r) k v fl ex M.k.now (M.v.bc+1) 4 mk XM;obtain⟨adA,f_k,f_v⟩:=Dh B.C.A r (B.C.cl r) k v fl ex M.k.now (M.v.bc+1) 4 mk XM hv6;have adD:=KK B.C.A r (B.C.cl r) k v fl ex M.k.now (M.v.bc+1) 4 mk XM (by omega);have adB:=Fl B.C.A r (B.C.cl r) k v fl ex M.k.now (M.v.bc+1) 4 mk XM (by omega);have aje:=Fk B.C.A r (B.C.cl r) k v fl ex M.k.now (M.v.bc+1) 4 mk XM (by omega);have ajf:=KJ B.C.A r (B.C.cl r) k v fl ex M.k.now (M.v.bc+1) 4 mk XM (by omega);have adC:=KH B.C.A r (B.C.cl r) k v fl ex M.k.now (M.v.bc+1) 4 mk XM (by omega);have Yk:=KI B.C.A r (B.C.cl r) k v fl ex M.k.now (M.v.bc+1) 4 mk XM (by omega);obtain⟨A1,hA1⟩:∃A1,A1=lW B.C.A r (B.C.cl r) k v fl ex M.k.now (M.v.bc+1) 4 mk:=⟨_,rfl⟩;rw[<-hA1]at ly LP QK adA f_k f_v adD adB aje ajf adC Yk;have lG:mM (B.C.wA A1).A r=n:=by
  rw[hn];unfold mM;rw[cT,f_k,f_v,adD,adB,aje,ajf,Yk]
 have O1:=(O.tJ hr LP).rT (M.v.bc+1);have I1:gU (B.C.wA A1) r:=⟨by rw[cT,QK];omega,by rw[cT,QK,adA];exact Q7,by rw[cT,show rd A1 (r+16) 8=ex from adD];exact hex,by rw[cT,show rd A1 (r+24) 8=M.k.now from adB];omega⟩;have tN:=O.ho r hr;have P1:gI (B.C.wA A1) (some r):=λq e=>by cases e;exact⟨L.wA _,I1⟩
 have ss:=λrest=>EW z.s z.y rest (B.C.wA A1) O1.k r P1 (by rw[cT,QK];omega);rw[cT,QK,adA]at ss;rw[show(B.C.wA A1).hd r=M.C.hd r from LU]at ss;have hbt:=O.aji;have tM:n.sz=58+k.length+v.length:=by rw[hn];rfl
 have hE:B.E.length<2147483647:=by
  rw[O.e.length_eq];unfold iQ;rw[abo];have h1:=aly (λp=>decide (0<(M.it p).exp)) B.W.all;have h2:=BY O.k O.t;rw[O.t.n]at h2;omega
 have ws:=LH z.y.wh B.E M.tn (M.C.hd r) ex wb hE;unfold eh fC jc fm pV iZ DW;refine bS ?_;refine bD ?_;refine av ?_;refine iL 16 mix (.cons (.t8 .here) .nil) λF1 jq bV aI=> ?_;obtain⟨q1,_⟩:=bV;refine cu ?_;refine Tp (oZ (Aq (n:=38)) (kK z.y.ck M.k) .nil (λ_ le au=>au.nth 8 rfl) ?_);refine bA ?_;refine gG aI ?_;refine aw ?_;refine av ?_;refine Hh (H':=gF z B.C B.W B.ty B.C.ae.length (M.Q.flatMap (di B.C)) M.x B.E M.tn (M.v,[DE DB (M.v.bc+1:Nat),DE DD M.v.fE,DE DD M.v.mt.dr,DE DD M.v.mt.re,DE DD M.v.mt.bu,DE DD M.v.mt.li,DE DD M.v.mt.lo,DE DD M.v.mt.cr,DE DD M.v.mt.mv, .slice M.v.wa M.v.wn M.v.wc]) M.k M.m M [ag b1 159 [.slice ka Xh kc, .slice va W8 vc,DE DB fl,DE DD ex,DE DD M.k.now,DE DB (M.v.bc+1:Nat),DE DD 4,DE DD mk]]) ?_;unfold gF pG;refine iL 7 mix (.cons (.t8 .here) (.cons (.t8 (.t4 (.there .here))) .nil)) λF2 zU eP dE=> ?_;obtain⟨q2,q3,_⟩:=eP;refine bL ?_;refine gG dE ?_;refine Tp (oZ (Aq (n:=186)) (ly) (.cons (.t2 .here) .nil) (λ_ le _=>⟨hka.mono le,hva.mono le⟩) ?_);refine aw ?_;refine av ?_;refine Hh (H':=gF z (B.C.wA A1) B.W B.ty B.C.ae.length (M.Q.flatMap (di (B.C.wA A1))) M.x B.E M.tn (M.v,[DE DB (M.v.bc+1:Nat),DE DD M.v.fE,DE DD M.v.mt.dr,DE DD M.v.mt.re,DE DD M.v.mt.bu,DE DD M.v.mt.li,DE DD M.v.mt.lo,DE DD M.v.mt.cr,DE DD M.v.mt.mv, .slice M.v.wa M.v.wn M.v.wc]) M.k M.m M [ag b1 159 [.slice ka Xh kc, .slice va W8 vc,DE DB fl,DE DD ex,DE DD M.k.now,DE DB (M.v.bc+1:Nat),DE DD 4,DE DD mk]]) ?_;unfold gF pG;refine iL 8 mix (.cons (.t8 .here) (.cons (.t8 (.t4 (.there .here))) .nil)) λF3 Xg rX fA=> ?_;obtain⟨q4,q5,_⟩:=rX;refine cY ?_;refine gG fA ?_;refine Tp (oZ (Aq (n:=173)) (ws) (.cons (.t8 (.there .here)) .nil) DA ?_);refine aw ?_;refine av ?_;refine Hh (H':=gF z (B.C.wA A1) B.W B.ty B.C.ae.length (M.Q.flatMap (di (B.C.wA A1))) M.x (lT B.E (M.C.hd r) ex M.tn) (if 0<ex then M.tn+1 else M.tn) (M.v,[DE DB (M.v.bc+1:Nat),DE DD M.v.fE,DE DD M.v.mt.dr,DE DD M.v.mt.re,DE DD M.v.mt.bu,DE DD M.v.mt.li,DE DD M.v.mt.lo,DE DD M.v.mt.cr,DE DD M.v.mt.mv, .slice M.v.wa M.v.wn M.v.wc]) M.k M.m M [ag b1 159 [.slice ka Xh kc, .slice va W8 vc,DE DB fl,DE DD ex,DE DD M.k.now,DE DB (M.v.bc+1:Nat),DE DD 4,DE DD mk]]) ?_;unfold gF pG;refine iL 10 mix (.cons (.t8 .here) .nil) λF4 le4 Mc sx=> ?_;obtain⟨q6,_⟩:=Mc;refine bA ?_;refine Tp (oZ (Aq (n:=187)) (ss (fm {M.v with bc:=M.v.bc+1})) .nil (λ_ le au=>⟨In.mono q6 le,au.nth 0 rfl⟩) ?_);refine bj ?_;refine gG sx ?_;refine bj ?_;refine av ?_;refine Hh (H':=gF z (B.C.wA A1) B.W B.ty B.C.ae.length (M.Q.flatMap (di (B.C.wA A1))) M.x (lT B.E (M.C.hd r) ex M.tn) (if 0<ex then M.tn+1 else M.tn) (M.v,[DE DB (M.v.bc+1:Nat),DE DD (M.v.fE+(58+k.length+v.length):Nat),DE DD M.v.mt.dr,DE DD M.v.mt.re,DE DD M.v.mt.bu,DE DD M.v.mt.li,DE DD M.v.mt.lo,DE DD M.v.mt.cr,DE DD M.v.mt.mv, .slice M.v.wa M.v.wn M.v.wc]) M.k M.m M []) ?_;unfold gF pG;have K1:Ok (B.C.wA A1):=O1.k;have L1:Live (B.C.wA A1) r:=L.wA _;rcases old with _|p
 ·refine cq ?_
  refine aY ?_;have hkd:∀q∈B.W.all,aO (B.C.wA A1).A q≠aO (B.C.wA A1).A r:=λq hq e=>by
   rw[cT,f_k,show aO A1 q=(M.it q).key from(O1.jx hq).2.2.2.2.1]at e;have h1:=adp rfl;unfold Mo.find at h1;rw[ahL]at h1;obtain⟨i,hi⟩:=(O.al q).1 hq;have h2:=h1 q (by exact gz.2 ⟨i,hi⟩);simp only[decide_eq_true_eq]at h2;exact h2 e
  have tp:=YJ z.y.t z.y.b (B.C.wA A1) K1 B.W B.ty O1.t O.ty r L1 I1 tN hkd;rw[show(B.C.wA A1).hd r=M.C.hd r from LU]at tp;unfold np at tp;refine bL ?_;refine Lp (oC Aq rfl rfl (tp) (.cons .here (.cons .here (.cons .here (.cons .here .nil)))) DA ?_);rintro v H' ⟨rfl,A2,V,y2,rfl,hy,PK⟩;refine bS ?_;refine aw ?_;have d1:dm (B.C.wA A1) A1 A2 (λq o=>q=r/\o<4):=(wB PK.df (λq hq=>by rw[acQ.1 hq];exact L1.toAt) (λq hq=>by rw[acQ.1 hq];have:=(L1.toAt.br K1).2.1;omega)).mono λq o g=>by
   obtain⟨g1,_,g3⟩:=g;exact⟨acQ.1 g1,by omega⟩
  have K2:=K1.wA A2;have Q2:=L7 K1 O1.o d1 (λi q hq j g=>⟨by unfold mL;omega,by omega,by omega⟩);have L2:Live ((B.C.wA A1).wA A2) r:=L1.wA _;have n1:=(L1.toAt.br K1).2.1;have m2:dJ A2 r=mk:=by
   rw[<-Yk];exact lJ K1 d1 L1.toAt (by omega) λj h1 h2 s=>by omega
  have s2:gP A2 r=4:=by
   rw[<-adC];exact lJ K1 d1 L1.toAt (by omega) λj h1 h2 s=>by omega
  have I2:gU ((B.C.wA A1).wA A2) r:=PK.o.it r (PK.pm.mem_iff.2 aa5);have le:=Bn z.y.lu z.y.q z.y.b z.qb z.hot z.warm ((B.C.wA A1).wA A2) K2 M.Q Q2 r (λq e=>by cases e;exact⟨L2,I2⟩) (by rw[cT,m2];exact u9) (by rw[cT,s2];omega);rw[show((B.C.wA A1).wA A2).hd r=M.C.hd r from LU,show((B.C.wA A1).wA A2).cl r=B.C.cl r from rfl]at le;unfold rL at le;refine Hh (H':=gF z ((B.C.wA A1).wA A2) V y2 B.C.ae.length (M.Q.flatMap (di ((B.C.wA A1).wA A2))) M.x (lT B.E (M.C.hd r) ex M.tn) (if 0<ex then M.tn+1 else M.tn) (M.v,[DE DB (M.v.bc+1:Nat),DE DD (M.v.fE+(58+k.length+v.length):Nat),DE DD M.v.mt.dr,DE DD M.v.mt.re,DE DD M.v.mt.bu,DE DD M.v.mt.li,DE DD M.v.mt.lo,DE DD M.v.mt.cr,DE DD M.v.mt.mv, .slice M.v.wa M.v.wn M.v.wc]) M.k M.m M []) ?_;unfold gF pG;refine bL ?_;refine Lp (oC Aq rfl rfl (le) (.cons .here (.cons (.t3 .here) (.cons (.t3 .here) .nil))) (λ_ le au=>au.nth 7 rfl) ?_);rintro v H' ⟨rfl,A3,rfl,EK⟩;refine bS ?_;refine aB ?_;subst hn;have O2:=bM.jv O1 hr I1 _ lG u9 Xq hy PK EK;refine Hh (H':=gF z (((B.C.wA A1).wA A2).wA A3) V y2 B.C.ae.length ((lx M.Q (qi (B.C.cl r) 1) r).flatMap (di (((B.C.wA A1).wA A2).wA A3))) M.x (lT B.E (M.C.hd r) ex M.tn) (if 0<ex then M.tn+1 else M.tn) (M.v,[DE DB (M.v.bc+1:Nat),DE DD (M.v.fE+(58+k.length+v.length):Nat),DE DD M.v.mt.dr,DE DD M.v.mt.re,DE DD M.v.mt.bu,DE DD M.v.mt.li,DE DD M.v.mt.lo,DE DD M.v.mt.cr,DE DD M.v.mt.mv, .slice M.v.wa M.v.wn M.v.wc]) M.k M.m M []) ?_;unfold gF pG;rw[<-LU,show B.C.cl r=M.C.cl r from O.cl r];refine ay (aD O2 (H:= [])) ?_;refine j5 [SH z (M.fZ r none ⟨k,v,fl,ex,M.k.now,M.v.bc+1,mk⟩)] results129 ?_;exact⟨rfl,rfl⟩
 obtain⟨hp,hpk⟩:=hold p rfl;have dL:=(O.al p).2 hp;have hp1':At B.C p:=O.nm dL;have Jt:=(bU K hp1').2.2.2.2.2;rw[O.hd p]at Jt;have hpz:(!decide (((M.C.hd p:Nat):Int)=0))=true:=by rw[Ar];rfl
 refine aY ?_;refine eJ ?_ (e:=by exact hpz);have rM:aO (B.C.wA A1).A p=aO (B.C.wA A1).A r:=by
  rw[cT,f_k,show aO A1 p=(M.it p).key from(O1.jx dL).2.2.2.2.1];exact hpk
 have tp:=EL z.y.t z.y.b (B.C.wA A1) K1 B.W B.ty O1.t O.ty p r dL L1 I1 tN rM;rw[show(B.C.wA A1).hd r=M.C.hd r from LU,show(B.C.wA A1).hd p=M.C.hd p from O.hd p]at tp;unfold np at tp;refine cY ?_;refine Lp (oC Aq rfl rfl (tp) (.cons .here (.cons .here (.cons .here (.cons .here .nil)))) DA ?_);rintro v H' ⟨rfl,A2,V,rfl,hy,SK⟩;refine bS ?_;refine aY ?_;obtain⟨i,hi⟩:=hp;obtain⟨kq,hkq⟩:=ahH hi;have lvs:∀q∈r::B.W.all,Live (B.C.wA A1) q:=λq hq=>(abh.1 hq).elim (λe=>e▸L1) λh=>(O.tH h).wA _;have d1:dm (B.C.wA A1) A1 A2 (λq o=>q∈r::B.W.all/\0<=o/\o<0+4):=wB SK.df (λq hq=>(lvs q hq).toAt) (λq hq=>by have:=((lvs q hq).toAt.br K1).2.1;omega);have K2:=K1.wA A2;have Q2:=L7 K1 O1.o d1 (λi q hq j g=>S04 g);have Lvp:=O.tH dL;have kp:=tg K1 d1 (Lvp.wA A1).toAt (O1.t.it p dL) (λj g=>(S04 g).1);have klp:kl A2 p=kl A1 p:=kp.kl;have vlp:vl A2 p=vl A1 p:=kp.vl;have aiU:58+kl A1 p+vl A1 p=(M.it p).sz:=O1.szp dL;have G7:kl A2 p<=250:=by
  have h1:=(fX (O.lg p dL)).2;rw[klp,<-show(aO A1 p).length=kl A1 p from cI _ _ _,show aO A1 p=(M.it p).key from(O1.jx dL).2.2.2.2.1];exact h1
 have hb:(M.it p).sz<=M.v.fE:=by
  rw[O.bt];exact xm (λp=>(M.it p).sz) dL
 have of:=J8 z.s z.qb z.hot z.warm (aZ z.s) (bG z.s) z.y {M.v with bc:=M.v.bc+1,fE:=M.v.fE+(58+k.length+v.length)} ((B.C.wA A1).wA A2) K2 M.Q Q2 M.x O.x (lT B.E (M.C.hd r) ex M.tn) (if 0<ex then M.tn+1 else M.tn) i kq p hkq G7 (by rw[cT,klp,vlp,aiU];show _<=M.v.fE+_;omega) (by show M.v.fE+_<_;omega);rw[cT,klp,vlp,aiU,C5 O.o hkq,show((B.C.wA A1).wA A2).hd p=M.C.hd p from O.hd p]at of;refine Hh (H':=gF z ((B.C.wA A1).wA A2) V B.ty B.C.ae.length (M.Q.flatMap (di ((B.C.wA A1).wA A2))) M.x (lT B.E (M.C.hd r) ex M.tn) (if 0<ex then M.tn+1 else M.tn) (M.v,[DE DB (M.v.bc+1:Nat),DE DD (M.v.fE+(58+k.length+v.length):Nat),DE DD M.v.mt.dr,DE DD M.v.mt.re,DE DD M.v.mt.bu,DE DD M.v.mt.li,DE DD M.v.mt.lo,DE DD M.v.mt.cr,DE DD M.v.mt.mv, .slice M.v.wa M.v.wn M.v.wc]) M.k M.m M []) ?_;unfold gF pG;refine Lp (oC Aq rfl rfl (of) (.cons .here (.cons (.t3 .here) (.cons (.t3 .here) (.cons (.t3 .here) (.cons (.t3 .here) (.cons (.t3 .here) .nil)))))) (λ_ le au=>au.nth 4 rfl) ?_);rintro v H' ⟨rfl,A3,rfl,OF⟩;refine bS ?_;have Jp:r≠p:=λe=>tN (e▸dL);obtain⟨rest,Qe,Xd⟩:=SK.pm;have nd1:=abg.1 (Qe.nodup_iff.1 O.t.nd);have hsV:∀q∈V.all,q≠p:=λq h=>(abh.1 (Xd.mem_iff.1 h)).elim (λe=>e▸Jp) λh e=>nd1.1 (e▸h);have T2:=GZ K2 SK.o OF.d (λq _ j g=>⟨g.oG,by unfold SQ at g;omega⟩);have T3:=OF.s.tb T2 hsV;have hrV:r∈V.all:=Xd.mem_iff.2 aa5;obtain⟨C3,hC3⟩:∃C3,C3=(((B.C.wA A1).wA A2).wA A3).bh p:=⟨_,rfl⟩;have L2:At ((B.C.wA A1).wA A2) r:=(L1.wA A2).toAt;have n1:=(L1.toAt.br K1).2.1;have m3:dJ A3 r=mk:=by
  rw[<-Yk];have e1:dJ A3 r=dJ A2 r:=lJ K2 OF.d L2 (by have:=(L2.br K2).2.1;omega) λj h1 h2 s=>by unfold SQ at s;omega
  rw[e1];exact lJ K1 d1 L1.toAt (by omega) λj h1 h2 s=>by omega
 have s3:gP A3 r=4:=by
  rw[<-adC];have e1:gP A3 r=gP A2 r:=lJ K2 OF.d L2 (by have:=(L2.br K2).2.1;omega) λj h1 h2 s=>by unfold SQ at s;omega
  rw[e1];exact lJ K1 d1 L1.toAt (by omega) λj h1 h2 s=>by omega
 have hA3:C3.A=A3:=by rw[hC3];rfl
 have hcl3:C3.cl r=B.C.cl r:=by
  have:=(OF.s.lv r Jp ((T2.lv r hrV))).2.2;rw[<-hC3]at this;exact this
 have hhd3:C3.hd r=M.C.hd r:=by
  have:=(OF.s.lv r Jp ((T2.lv r hrV))).2.1;rw[<-hC3]at this;exact this.trans LU
 have OF2:=OF;have T4:=T3;have K3:=OF.k;have Q3:=OF.o;have zO:C3.ae.length=B.C.ae.length:=by rw[hC3];rfl
 rw[<-hC3]at T4 K3 Q3;have ent:=Bn z.y.lu z.y.q z.y.b z.qb z.hot z.warm C3 K3 (ik M.Q p) Q3 r (λq e=>by cases e;exact⟨T4.lv r hrV,T4.it r hrV⟩) (by rw[hA3,m3];exact u9) (by rw[hA3,s3];omega);rw[hcl3,hhd3]at ent;unfold rL at ent;rw[zO]at ent;rw[<-hC3];refine cY ?_;refine Lp (oC Aq rfl rfl (ent) (.cons .here (.cons .here (.cons .here .nil))) (λ_ le au=>au.nth 7 rfl) ?_);rintro v H' ⟨rfl,A4,rfl,EK⟩;refine bS ?_;refine aB ?_;subst hn;subst hC3;have O2:=bM.oE O1 ⟨i,hi⟩ hr I1 _ lG u9 Xq hy SK OF EK;refine Hh (H':=gF z (((((B.C.wA A1).wA A2).wA A3).bh p).wA A4) V B.ty B.C.ae.length ((lx (ik M.Q p) (qi (B.C.cl r) 1) r).flatMap (di (((((B.C.wA A1).wA A2).wA A3).bh p).wA A4))) (M.x.left M.Q p) (fi (lT B.E (M.C.hd r) ex M.tn) (M.C.hd p)) (if 0<ex then M.tn+1 else M.tn) (M.v,[DE DB (M.v.bc+1:Nat),DE DD (M.v.fE+(58+k.length+v.length)-(M.it p).sz:Nat),DE DD M.v.mt.dr,DE DD M.v.mt.re,DE DD M.v.mt.bu,DE DD M.v.mt.li,DE DD M.v.mt.lo,DE DD M.v.mt.cr,DE DD M.v.mt.mv, .slice M.v.wa M.v.wn M.v.wc]) M.k M.m M []) ?_;unfold gF pG;rw[<-LU,<-O.hd p,show B.C.cl r=M.C.cl r from O.cl r];refine ay (aD O2 (H:= [])) ?_;refine j5 [SH z (M.fZ r (some p) ⟨k,v,fl,ex,M.k.now,M.v.bc+1,mk⟩)] results129 ?_;exact⟨rfl,rfl⟩
theorem j6.beside{M:Mo}(A:j6 M 1):Ev M M.beside:=by
 have h1:Ev M M.fw:= .rf rfl rfl;have h2:Ev M M.fw.jy:=(h1.trans (Ev.cV M.fw M.fw.k.now M.fw.v.p.c)).trans (.rf rfl rfl);exact(h2.trans ((A.ev h2).gK M.fw.jy.v.p.m)).trans (.rf rfl rfl)
theorem j6.behind{M:Mo}(A:j6 M 1)(hot warm:Nat)(k:F9):Ev M (M.behind hot warm k):=by
 have h:=LG hot warm M k;exact h.trans (A.ev h).beside
theorem Ev.meet (M:Mo)(k:F9):Ev M (M.meet k).2:=by
 unfold Mo.meet;split
 ·exact .rf rfl rfl
 split
 ·exact(Ev.rf rfl rfl:Ev M (M.fJ _)).trans (Ev.bY _ _)
 exact .rf rfl rfl
theorem j6.meet{M:Mo}{j:Nat}(A:j6 M j)(k:F9):j6 (M.meet k).2 j:=A.ev (Ev.meet M k)
theorem Ev.fZ (M:Mo)(r:Nat)(old:FW)(n:I3):Ev M (M.fZ r old n):=by
 unfold Mo.fZ;split
 ·exact .rf rfl rfl
 next p=>exact⟨rfl,KV M.C p⟩
theorem j6.jG{j:Nat}(hot warm:Nat):∀(l:List F9) {M:Mo},j6 M (j+1)->Ev M (l.foldl (Mo.behind hot warm) M)
 | [],_,_=> .rf rfl rfl
 |k::l,M,A=>by
  have e:=(A.le (Nat.succ_le_succ (abn j))).behind hot warm k;exact e.trans (j6.jG (j:=j) hot warm l (A.ev e))
end Go.Proofs.YtcbcjolpdljbiaaGreat
