/- Part Pk of the proof. -/
import Derived.Test.YtcbcjolpdljbiaaGreatPj1
set_option maxRecDepth 100000
open Go.Proofs.YtcbcjolpdljbiaaGreat.T
open Nat renaming add_assoc -> ag4, mod_eq_of_lt -> abZ, mul_le_mul_right -> abW, le_refl -> aam, zero_le -> abL, zero_add -> abH, le_trans -> ahb, lt_succ_self -> akl, min_zero -> akX
open List renaming mem_cons_self -> aag, mem_cons_of_mem -> aai, getElem_mem -> abC, map_cons -> aaj, sum_cons -> abJ, mem_cons -> abE, map_congr_left -> acA, filter_cons -> agd, mem_map -> abF, mem_filter -> abG, nodup_cons -> abB, Perm -> abA, getElem?_set_ne -> abX, getD_eq_getElem?_getD -> aab, getElem?_map -> abD, getElem?_eq_some_iff -> aad, mem_of_getElem? -> aaf, getElem?_eq_none -> aal, ext_getElem? -> agJ, getElem?_set -> agy, getElem?_eq_getElem -> aac, mem_of_mem_erase -> agO, mem_erase_of_ne -> ajE, length_map -> abI, length_filter_le -> ake, length_cons -> abU, getElem?_of_mem -> agA, mem_flatten -> ajI, getElem_of_mem -> abS, nodup_nil -> ag5, mem_of_mem_take -> ajF, filter_sublist -> agi, append_nil -> abT, replicate -> aae, findIdx?_eq_some_iff_getElem -> abK, findIdx?_eq_none_iff -> ago, range -> abM, find?_eq_none -> agE, mem_range -> ab0, foldl_cons -> agn, mem_of_find?_eq_some -> af0, find?_some -> akj, map_append -> af1, find?_cons -> akh, findIdx?_cons -> agB, mem_append -> agb, mem_reverse -> agH, length_set -> aak, mem_singleton -> abR
open Decidable renaming byContradiction -> abz
open Int renaming min_le_right -> akH
open Go.Proofs.Tryz renaming prog -> aaa
open Go.Proofs.Tryz
open Go.Value renaming int -> Dm
open Go.IntKind renaming i64 -> Dl, u64 -> Dj
namespace Go.Proofs.YtcbcjolpdljbiaaGreat
open Go Go.dC Go.Proofs.YtcbcjolpdljbiaaGreat.Cs
structure I3 where
 key:FI
 val:FI
 fl:Nat
 exp:Nat
 tch:Nat
 tok:Nat
 eP:Nat
def lA (A:By)(p:Nat):Nat:=rd A (p+24) 8
def PV (A:By)(p:Nat):Nat:=rd A (p+40) 4
def mj (A:By)(p:Nat):I3:=⟨aH A p,j8 A p,PV A p,uD A p,lA A p,rO A p,dB A p⟩
def I3.sz (x:I3):Nat:=58+x.key.length+x.val.length
theorem He (A:By)(p:Nat):(mj A p).sz=58+kl A p+vl A p:=by
 unfold I3.sz mj;rw[show(aH A p).length=kl A p from cE _ _ _,show(j8 A p).length=vl A p from cE _ _ _]
theorem vJ{C:Cs}(K:Ok C){B:By}{S:Nat->Nat->Prop}(d:cZ C C.A B S){p:Nat}(L:At C p)(I:gD C p)(h:∀j,S p j->j<16\/j=45):mj B p=mj C.A p:=by
 have n1:=(L.ba K).2.1;have hf:=I.fits;have r:=λ(o w:Nat) (h2:o+w<=C.sz (C.cl p)) (h3:∀j,o<=j->j<o+w->¬(j<16\/j=45))=>kX K d L h2 (λj g1 g2 s=>h3 j g1 g2 (h j s));have e1:kl B p=kl C.A p:=r 44 1 (by omega) (λj g1 g2=>by omega);have e2:vl B p=vl C.A p:=r 48 4 (by omega) (λj g1 g2=>by omega);have e3:aH B p=aH C.A p:=by
  unfold aH;rw[e1];exact vT K d L (by omega) (λj g1 g2 s=>by have:=h j s;omega)
 have e4:j8 B p=j8 C.A p:=by
  unfold j8;rw[e1,e2,ag4];exact vT K d L (by omega) (λj g1 g2 s=>by have:=h j s;omega)
 unfold mj PV uD lA rO dB;rw[e3,e4,r 40 4 (by omega) (λj g1 g2=>by omega),r 16 8 (by omega) (λj g1 g2=>by omega),r 24 8 (by omega) (λj g1 g2=>by omega),r 32 8 (by omega) (λj g1 g2=>by omega),r 46 1 (by omega) (λj g1 g2=>by omega)]
theorem ahk{C:Cs}(K:Ok C){W:Tb}(O:dt C W){B:By}(kp:∀p∈W.all,Kept C B p)(hl:∀p∈W.all,rd B p 4=rd C.A p 4):dt (C.wA B) W:=by
 have lk:∀l:FH,(∀p∈l,p∈W.all)->GB C.A l->GB B l:=λl=>by
  induction l with
  |nil=>exact λ_ _=>trivial
  |cons p l ih=>exact λh g=>⟨(hl p (h p aag)).trans g.1,ih (λq hq=>h q (aai _ hq)) g.2⟩
 refine⟨O.pw,O.po,O.st,O.mp,O.sz,O.PG,O.sm,O.mv,O.n,O.nd,λx=>lk _ (λp hp=>Tb.gM hp) (O.li x),λp hp=>(O.lv p hp).wA B,λp hp=>(kp p hp).it (O.it p hp),λx p hp=> ?_,λp hp q hq e=> ?_⟩
 ·show W.bk (cn (aH B p))=x
  rw[(kp p (Tb.gM hp)).key];exact O.bu x p hp
 change aH B p=aH B q at e;rw[(kp p hp).key,(kp q hq).key]at e;exact O.kd p hp q hq e
theorem ahm{C:Cs}{Q:F7}(O:iV C Q){B:By}(kp:∀i,∀p∈ql Q i,Kept C B p)(hs:∀i,∀p∈ql Q i,gz B p=gz C.A p)(h1:∀i,∀p∈ql Q i,rd B (p+4*1) 4=rd C.A (p+4*1) 4)(h2:∀i,∀p∈ql Q i,rd B (p+4*2) 4=rd C.A (p+4*2) 4):iV (C.wA B) Q:=by
 refine⟨O.len,λi p hp=>(O.lv i p hp).wA B,λi p hp=>(kp i p hp).it (O.it i p hp),λi p hp=> ?_,O.nd,λi k hk=> ?_,λi k hk=> ?_⟩
 ·show 1<=gz B p/\_
  rw[cH,hs i p hp];exact O.st i p hp
 ·have hp:=abC hk
  rw[cH,h1 i _ hp];exact O.l1 i k hk
 have hp:=abC hk;rw[cH,h2 i _ hp];exact O.l2 i k hk
structure Mo where
 C:Cs
 hole:FK
 Q:F7
 it:Nat->I3
 ord:Nat->Nat
 x:Cw
 tn:Nat
 k:Ck
 m:gp
 nb:Nat
 mg:Nat
 most:Nat
 v:Sv
 jZ:FH
 n:Nat
structure Bx where
 C:Cs
 W:Tb
 ty:pq
 E:List En
structure Ly where
 s:Nat
 y:Sy
 qb:Nat
 ub:Nat
 hot:Nat
 warm:Nat
def bx (s:Nat):Value:= .func (.func 85) #[Dk s] #[]
def de (s:Nat):Value:= .func (.func 113) #[Dk s] #[]
def gU (C:Cs)(M:Mo)(l:FH):List En:=(l.filter λp=>decide (0<(M.it p).exp)).map λp=>⟨C.hd p,(M.it p).exp,M.ord p⟩
structure bH (B:Bx)(M:Mo):Prop where
 c:B.C=M.C.wA B.C.A
 k:Ok B.C
 t:dt B.C B.W
 ty:B.ty.ok=none->B.W.ob= []
 o:iV B.C M.Q
 x:db B.C.ae.length M.Q M.x
 mq:MkQ B.C M.Q
 ck:sS M.k
 al:∀p,p∈B.W.all↔∃i,p∈ql M.Q i
 lv:∀p,Live B.C p↔p∈B.W.all\/M.hole=some p
 ho:∀p,M.hole=some p->p∉B.W.all
 it:∀p∈B.W.all,mj B.C.A p=M.it p
 e:B.E.Perm (gU B.C M B.W.all)
 st:B.W.st=2->B.W.mv<B.W.ob.length
 nb:B.W.size=M.nb
 mg:M.mg=if B.W.st=2 then B.W.ob.length-B.W.mv else 0
 mo:B.W.most=M.most
 bt:M.v.fB=(B.W.all.map λp=>(M.it p).sz).sum
 un:M.m.un.length=B.C.ae.length
 on:M.m.on=true->M.m.pg<B.C.n/\(B.C.pg M.m.pg).own=true/\(B.C.pg M.m.pg).lv=true/\(B.C.pg M.m.pg).cl=M.m.fr
 go:∀i,(B.C.pg i).lv=true->M.m.on=true/\i=M.m.pg
 wn:M.v.wn=M.jZ.length
 cf:M.v.c=B.C.cfg
 n:B.W.n=M.n
 lg:∀p∈B.W.all,du (M.it p).key=true
def jJ (M:Mo):aa:=own M.v.wa M.v.wc 3 1 (aY M.jZ)
def dS (z:Ly)(B:Bx)(M:Mo):F8:=
 [Cl z.y.b B.C,ag z.y.t 154 (gE z.y.b B.W B.ty),ag B.ty.nk 149 (aS (aF B.W.nb)),nL B.ty.ok 149 (aS (aF B.W.ob)),ag z.y.q 182 (ij z.y.b z.qb B.C.ae.length),ag z.qb 333 (M.Q.flatMap (cX B.C)),ik z.y.cr z.y.q z.y.wh B.C.ae.length (aV z.s) (bx z.s) B.C M.x,Wl z.y.wh B.E M.tn,fy z.s z.y (fg M.v),
  kI z.y.ck M.k,nM z.y.lu z.y.b z.y.q z.hot z.warm,mN z.y.mo z.y.b z.ub (aV z.s) (bx z.s) (de z.s) M.m,kF z.ub M.m,jJ M]
abbrev oR (z:Ly)(v:Sv)(r:FJ):FJ:=Dk z.y.b::Dk z.y.ck::Dk z.y.t::Dk z.y.lu::Dk z.y.wh::Dk z.y.cr::Dk z.y.mo::Dk z.y.q::Dm Dl v.c.ao::Dm Dl v.c.bA::Dm Dl v.c.iG::Dm Dl v.c.eI::Dm Dl v.c.lim::Dm Dl v.c.hot::Dm Dl v.c.warm::Dm Dl v.p.b::Dm Dl v.p.l::Dm Dl v.p.c::Dm Dl v.p.m::r
abbrev gu (z:Ly)(C:Cs)(W:Tb)(ty:pq)(n:Nat)(q:FJ)(x:Cw)(E:List En)(t:Nat)(s:Sv×FJ)(k:Ck)(m:gp)(M:Mo)(r:F8):F8:=Cl z.y.b C::ag z.y.t 154 (gE z.y.b W ty)::ag ty.nk 149 (aS (aF W.nb))::nL ty.ok 149 (aS (aF W.ob))::ag z.y.q 182 (ij z.y.b z.qb n)::ag z.qb 333 q::ik z.y.cr z.y.q z.y.wh n (aV z.s) (bx z.s) C x::Wl z.y.wh E t::ag z.s 96 (oR z s.1 s.2)::kI z.y.ck k::nM z.y.lu z.y.b z.y.q z.hot z.warm::mN z.y.mo z.y.b z.ub (aV z.s) (bx z.s) (de z.s) m::kF z.ub m::jJ M::r
abbrev DH (z:Ly)(W:Tb)(y:pq):aa:=ag z.y.t 154 (gE z.y.b W y)
abbrev zK (y:pq)(W:Tb):aa:=ag y.nk 149 (aS (aF W.nb))
abbrev DJ (y:pq)(W:Tb):aa:=nL y.ok 149 (aS (aF W.ob))
abbrev DI (z:Ly)(n:Nat):aa:=ag z.y.q 182 (ij z.y.b z.qb n)
abbrev Wp (z:Ly)(n:Nat)(C:Cs)(x:Cw):aa:=ik z.y.cr z.y.q z.y.wh n (aV z.s) (bx z.s) C x
abbrev zF (z:Ly):aa:=nM z.y.lu z.y.b z.y.q z.hot z.warm
abbrev xx (z:Ly)(m:gp):aa:=mN z.y.mo z.y.b z.ub (aV z.s) (bx z.s) (de z.s) m
def Mo.put (M:Mo)(p:Nat)(n:I3):Mo:={M with it:=λq=>if q=p then n else M.it q}
theorem bH.sH{B:Bx}{M:Mo}(O:bH B M){p:Nat}(h:p∈B.W.all):Live B.C p:=(O.lv p).2 (.inl h)
theorem bH.nR{B:Bx}{M:Mo}(O:bH B M){i p:Nat}(h:p∈ql M.Q i):p∈B.W.all:=(O.al p).2 ⟨i,h⟩
theorem bH.ito{B:Bx}{M:Mo}(O:bH B M){p:Nat}(h:p∈B.W.all):gw B.C (some p):=λq e=>by cases e;exact⟨O.sH h,O.t.it p h⟩
theorem bH.szp{B:Bx}{M:Mo}(O:bH B M){p:Nat}(h:p∈B.W.all):58+kl B.C.A p+vl B.C.A p=(M.it p).sz:=by rw[<-O.it p h,He]
theorem wV{α:Type}(f:α->Nat):∀{l:List α} {x:α},x∈l->f x<=(l.map f).sum
 |y::l,x,h=>by
  rw[aaj,abJ];rcases abE.1 h with rfl|h
  ·omega
  have:=wV f h;omega
theorem lU{α:Type}(f:α->Nat){l m:List α}(p:l.Perm m):(l.map f).sum=(m.map f).sum:=(p.map f).sum_nat
theorem bH.iE{B:Bx}{M:Mo}(O:bH B M){p:Nat}(hp:p∈B.W.all){A:By}{S:Nat->Nat->Prop}(d:cZ B.C B.C.A A S)(hS:∀q j,S q j->q=p/\16<=j/\j<48/\(j<40\/j=46))
  (hx:rd A (p+16) 8<9223372036854775808) (ht:rd A (p+24) 8<9223372036854775808) (hm:dB A p<16) (n:I3) (hn:n={M.it p with exp:=uD A p,tch:=lA A p,tok:=rO A p,eP:=dB A p})
  (E:List En) (od:Nat->Nat) (tn:Nat) (hE:E.Perm (gU B.C {M.put p n with ord:=od} B.W.all)):bH ⟨B.C.wA A,B.W,B.ty,E⟩ {M.put p n with ord:=od,tn:=tn}:=by
 have K:=O.k;have at_:∀q∈B.W.all,At B.C q:=λq hq=>(O.sH hq).toAt;have n1:∀q∈B.W.all,64<=B.C.sz (B.C.cl q):=λq hq=>((at_ q hq).ba K).2.1;have I:=O.t.it p hp;have hf:=I.fits;have r:=λ(q:Nat) (hq:q∈B.W.all) (o w:Nat) (h2:o+w<=B.C.sz (B.C.cl q)) (h3:∀j,o<=j->j<o+w->¬(16<=j/\j<48/\(j<40\/j=46)))=>kX K d (at_ q hq) h2 (λj g1 g2 s=>h3 j g1 g2 (hS q j s).2);have ek:∀q∈B.W.all,kl A q=kl B.C.A q:=λq hq=>r q hq 44 1 (by have:=n1 q hq;omega) (λj g1 g2=>by omega);have ev:∀q∈B.W.all,vl A q=vl B.C.A q:=λq hq=>r q hq 48 4 (by have:=n1 q hq;omega) (λj g1 g2=>by omega);have other:∀q∈B.W.all,q≠p->mj A q=mj B.C.A q:=λq hq ne=>vJ K d (at_ q hq) (O.t.it q hq) (λj s=>absurd (hS q j s).1 ne);have key:∀q∈B.W.all,aH A q=aH B.C.A q:=λq hq=>by
  have:=(O.t.it q hq).fits;unfold aH;rw[ek q hq];exact vT K d (at_ q hq) (by omega) (λj g1 g2 s=>by have:=hS q j s;omega)
 have val:∀q∈B.W.all,j8 A q=j8 B.C.A q:=λq hq=>by
  have:=(O.t.it q hq).fits;unfold j8;rw[ek q hq,ev q hq,ag4];exact vT K d (at_ q hq) (by omega) (λj g1 g2 s=>by have:=hS q j s;omega)
 have kp:∀q∈B.W.all,Kept B.C A q:=λq hq=>⟨ek q hq,ev q hq,key q hq,λJ=>by
  by_cases e:q=p
  ·subst e
   exact⟨by rw[cH,ek q hq];exact J.k0,by rw[cH,ek q hq,ev q hq];exact J.fits,hx,ht⟩
  have g:=other q hq e;have g1:uD A q=uD B.C.A q:=congrArg I3.exp g;have g2:lA A q=lA B.C.A q:=congrArg I3.tch g;exact⟨by rw[cH,ek q hq];exact J.k0,by rw[cH,ek q hq,ev q hq];exact J.fits,by have:=J.exp;change uD A q<_;rw[g1];exact this,by have:=J.tch;change lA A q<_;rw[g2];exact this⟩⟩
 have itp:mj A p=n:=by
  rw[hn,<-O.it p hp];unfold mj;dsimp only;rw[key p hp,val p hp,show PV A p=PV B.C.A p from r p hp 40 4 (by have:=n1 p hp;omega) (λj g1 g2=>by omega)]
 have lq:∀q∈B.W.all,mj A q=(M.put p n).it q:=λq hq=>by
  show _=if q=p then n else M.it q
  by_cases e:q=p
  ·rw[if_pos e,e];exact itp
  rw[if_neg e,other q hq e];exact O.it q hq
 refine⟨?_,K.wA A,ahk K O.t kp (λq hq=>r q hq 0 4 (by have:=n1 q hq;omega) (λj g1 g2=>by omega)),O.ty, ?_,O.x, ?_,O.ck,O.al,λq=> ?_,O.ho,lq,hE,O.st,O.nb,O.mg,O.mo, ?_,O.un,O.on,O.go,O.wn,O.cf,O.n,λq hq=> ?_⟩
 ·show B.C.wA A=M.C.wA A
  conv=>lhs;rw[O.c]
  rfl
 ·exact ahm O.o (λi q hq=>kp q (O.nR hq)) (λi q hq=>r q (O.nR hq) 45 1 (by have:=n1 q (O.nR hq);omega) (λj g1 g2=>by omega)) (λi q hq=>r q (O.nR hq) (4*1) 4 (by have:=n1 q (O.nR hq);omega) (λj g1 g2=>by omega)) (λi q hq=>r q (O.nR hq) (4*2) 4 (by have:=n1 q (O.nR hq);omega) (λj g1 g2=>by omega))
 ·intro i q hq
  have K7:=O.nR hq;by_cases e:q=p
  ·rw[e];exact hm
  show dB A q<16;rw[show dB A q=dB B.C.A q from congrArg I3.eP (other q K7 e)];exact O.mq i q hq
 ·refine Iff.trans ?_ (O.lv q)
  exact⟨λh=>⟨⟨h.i,h.own,h.al,h.k⟩,h.tk⟩,λh=>h.wA A⟩
 ·show M.v.fB=_
  rw[O.bt]
  congr 1
  refine acA λq hq=> ?_;rw[<-lq q hq,<-O.it q hq,He,He,ek q hq,ev q hq]
 rw[<-lq q hq];show du (aH A q)=true;rw[key q hq,show aH B.C.A q=(M.it q).key from congrArg I3.key (O.it q hq)];exact O.lg q hq
end Go.Proofs.YtcbcjolpdljbiaaGreat
namespace Go.dC
open Go
theorem aG.fr{P:Program}{f:FuncId}{args:FJ}{pre:Hp->Prop}{H As R:F8}{T:Dp}(h:aG P f args pre As T)(c9:iA H As R)(hp:∀k,gG R k->pre k):
  aG P f args (λ_=>True) H (λv H'=>∃H0,T v H0/\H'=H0++R):=by
 intro F w _ s;obtain⟨a1,a2,a3,fr,hh,st,hl,rr⟩:=s;obtain⟨h1,h2,d12,l1,l2,s1,s2⟩:=bh (c9.out _ st);have vE:bG h2 F.h:=rr.left l2
 let F':dG:={F with h:=fF h2 F.h}
 have gY:Le F.h F'.h:=aJ vE;have gZ:Le h2 F'.h:=aR _ _;have xu:St F' As w:=⟨a1,a2,a3,bQ (l2.trans hl) fr,h1,s1,l1.trans hl,(bG.fF d12.symm (rr.left l1).symm).symm⟩;refine(h F' w (hp _ (cj s2 gZ)) xu).mono ?_;rintro e w' ⟨v,H',rfl,hT,sw⟩;obtain⟨b1,b2,b3,ru,zL,st2,zJ,ke⟩:=sw;exact⟨v,_,rfl,⟨H',hT,rfl⟩,b1,b2,b3,gY.trans ru,fF zL h2,bz st2 s2 (ke.right gZ),bQ zJ (gZ.trans ru),bG.fF (ke.right gY) vE⟩
end Go.dC
namespace Go.Proofs.YtcbcjolpdljbiaaGreat
open Go Go.dC Go.Proofs.YtcbcjolpdljbiaaGreat.Cs
theorem qg (A:By)(p n v:Nat)(h:v<256^n):rd (wr A p n v) p n=v:=by rw[dz,abZ h]
def SH (z:Ly)(M:Mo):aa:=λh=>∃B,bH B M/\aB (dS z B M) h
theorem dJ{P:Program}{f:FuncId}{args:FJ}{pre:Hp->Prop}{H:F8}{R:Dp}{z:Ly}{M:Mo}(h:∀B,bH B M->aG P f args pre (dS z B M++H) R):aG P f args pre (SH z M::H) R:=
 aG.exL λB=>aG.D8 λO=>aG.GV (h B O)
theorem ax{z:Ly}{B:Bx}{M:Mo}(O:bH B M){H:F8}:∀h,ai (dS z B M++H) h->ai (SH z M::H) h:=λh s=>
 aZ (λk x=>⟨B,O,x⟩) (dZ s)
def Mo.has (M:Mo)(p:Nat):Prop:=∃i,p∈ql M.Q i
def Mo.lq (M:Mo)(p:Nat):Mo:=M.put p {M.it p with tch:=M.k.now,eP:=mkSet (M.it p).eP true % 8+8}
def Mo.marks (M:Mo)(p k:Nat):Mo:=M.put p {M.it p with eP:=(M.it p).eP-(M.it p).eP/2 % 4*2+k*2}
def Mo.tok (M:Mo)(p t:Nat):Mo:=M.put p {M.it p with tok:=t}
def Mo.time (M:Mo)(p e:Nat):Mo:={M.put p {M.it p with exp:=e}with ord:=λq=>if q=p then M.tn+1 else M.ord q,tn:=if 0<e then M.tn+1 else M.tn}
theorem bH.hd{B:Bx}{M:Mo}(O:bH B M)(p:Nat):B.C.hd p=M.C.hd p:=by rw[O.c];rfl
theorem jB{C:Cs}{M:Mo}{l m:FH}(p:l.Perm m):(gU C M l).Perm (gU C M m):=(p.filter _).map _
theorem iR{C:Cs}{M:Mo}{p:Nat}{r:FH}:gU C M (p::r)=if 0<(M.it p).exp then⟨C.hd p,(M.it p).exp,M.ord p⟩::gU C M r else gU C M r:=by
 unfold gU;by_cases h:0<(M.it p).exp
 ·rw[if_pos h,agd,if_pos (by simpa using h)];rfl
 rw[if_neg h,agd,if_neg (by simpa using h)]
theorem fO{C D:Cs}{M N:Mo}:∀{l:FH},(∀q∈l,(N.it q).exp=(M.it q).exp/\N.ord q=M.ord q/\D.hd q=C.hd q)->gU D N l=gU C M l
 | [],_=>by simp only[gU,List.filter_nil,List.map_nil]
 |p::r,h=>by
  obtain⟨h1,h2,h3⟩:=h p aag;rw[iR,iR,h1,h2,h3,fO λq hq=>h q (aai _ hq)]
theorem Dc{C:Cs}{M:Mo}{p:Nat}{n:I3}{l:FH}(h:n.exp=(M.it p).exp):gU C {M.put p n with ord:=M.ord} l=gU C M l:=fO λq _=>⟨by
 show(if q=p then n else M.it q).exp=_;by_cases e:q=p
 ·rw[if_pos e,h,e]
 rw[if_neg e],rfl,rfl⟩
theorem lY{C:Cs}{M:Mo}{h:Nat}{r:FH}(hr:∀q∈r,C.hd q≠h):fb (gU C M r) h=gU C M r:=by
 unfold fb;rw[List.filter_eq_self];intro x hx;unfold gU at hx;obtain⟨q,hq,rfl⟩:=abF.1 hx;exact decide_eq_true (hr q (abG.1 hq).1)
theorem bH.mL{B:Bx}{M:Mo}(O:bH B M){p:Nat}(h:p∈B.W.all):At B.C p:=(O.sH h).toAt
theorem bH.rest{B:Bx}{M:Mo}(O:bH B M){p:Nat}{r:FH}(h:B.W.all.Perm (p::r)):(fb B.E (B.C.hd p)).Perm (gU B.C M r):=by
 have nd:=h.nodup_iff.1 O.t.nd;have fQ:∀q∈r,B.C.hd q≠B.C.hd p:=λq hq e=>(abB.1 nd).1 (by
  rw[<-je O.k (O.mL (h.mem_iff.2 (aai _ hq))) (O.mL (h.mem_iff.2 aag)) e];exact hq)
 have h1:(fb B.E (B.C.hd p)).Perm (fb (gU B.C M (p::r)) (B.C.hd p)):=(O.e.trans (jB h)).filter _;refine h1.trans ?_;rw[iR];split
 ·unfold fb
  rw[agd,if_neg (by simp)];exact abA.of_eq (lY fQ)
 exact abA.of_eq (lY fQ)
theorem bH.afU{B:Bx}{M:Mo}(_:bH B M){p:Nat}(h:p∈B.W.all):B.W.all.Perm (p::B.W.all.erase p):=List.perm_cons_erase h
def Ai (p:Nat)(a n:Nat)(q o:Nat):Prop:=q=p/\a<=o/\o<a+n
theorem bH.OS{B:Bx}{M:Mo}(O:bH B M){p:Nat}(hp:p∈B.W.all){A:By}{S:Nat->Nat->Prop}(d:cZ B.C B.C.A A S){o w:Nat}(h2:o+w<=64)(h:∀j,o<=j->j<o+w->¬S p j):rd A (p+o) w=rd B.C.A (p+o) w:=
 kX O.k d (O.mL hp) (by have:=((O.mL hp).ba O.k).2.1;omega) h
theorem bH.wF{B:Bx}{M:Mo}(O:bH B M){p:Nat}(hp:p∈B.W.all):dB B.C.A p=(M.it p).eP/\(M.it p).eP<16:=by
 have h:=congrArg I3.eP (O.it p hp);obtain⟨i,hi⟩:=(O.al p).1 hp;have h2:=O.mq i p hi;have h3:dB B.C.A p=(M.it p).eP:=h;exact⟨h3,by omega⟩
theorem bH.kK{B:Bx}{M:Mo}(O:bH B M){p:Nat}(hp:p∈B.W.all):uD B.C.A p=(M.it p).exp/\lA B.C.A p=(M.it p).tch/\rO B.C.A p=(M.it p).tok/\dB B.C.A p=(M.it p).eP/\aH B.C.A p=(M.it p).key/\j8 B.C.A p=(M.it p).val/\PV B.C.A p=(M.it p).fl:=by
 have h:=O.it p hp;rw[<-h];exact⟨rfl,rfl,rfl,rfl,rfl,rfl,rfl⟩
theorem bH.w46{B:Bx}{M:Mo}(O:bH B M){p:Nat}(hp:p∈B.W.all)(m:Nat)(hm:m<16):bH ⟨B.C.wA (wr B.C.A (p+46) 1 m),B.W,B.ty,B.E⟩ (M.put p {M.it p with eP:=m}):=by
 have L:=O.mL hp;have n1:=(L.ba O.k).2.1;have d:cZ B.C B.C.A (wr B.C.A (p+46) 1 m) (Ai p 46 1):=xE _ L (by omega) λj h1 h2=>⟨rfl,h1,h2⟩;have I:=O.t.it p hp;obtain⟨f1,f2,f3,f4,f5,f6,f7⟩:=O.kK hp;have g1:uD (wr B.C.A (p+46) 1 m) p=(M.it p).exp:=(O.OS hp d (by omega) (λj h1 h2 s=>by unfold Ai at s;omega)).trans f1;have g2:lA (wr B.C.A (p+46) 1 m) p=(M.it p).tch:=(O.OS hp d (by omega) (λj h1 h2 s=>by unfold Ai at s;omega)).trans f2;have g3:rO (wr B.C.A (p+46) 1 m) p=(M.it p).tok:=(O.OS hp d (by omega) (λj h1 h2 s=>by unfold Ai at s;omega)).trans f3;have g4:dB (wr B.C.A (p+46) 1 m) p=m:=qg _ _ _ _ (by omega);have e1:=I.exp;have e2:=I.tch;refine O.iE hp d (λq j s=>by unfold Ai at s;omega) (by show uD _ _<_;rw[g1,<-f1];exact e1) (by show lA _ _<_;rw[g2,<-f2];exact e2) (by rw[g4];exact hm) _ (by rw[g1,g2,g3,g4]) _ _ _ ?_;exact O.e.trans (abA.of_eq (Dc (by rfl)).symm)
theorem bH.w24{B:Bx}{M:Mo}(O:bH B M){p:Nat}(hp:p∈B.W.all)(t:Nat)(ht:t<9223372036854775808):bH ⟨B.C.wA (wr B.C.A (p+24) 8 t),B.W,B.ty,B.E⟩ (M.put p {M.it p with tch:=t}):=by
 have L:=O.mL hp;have n1:=(L.ba O.k).2.1;have d:cZ B.C B.C.A (wr B.C.A (p+24) 8 t) (Ai p 24 8):=xE _ L (by omega) λj h1 h2=>⟨rfl,h1,h2⟩;have I:=O.t.it p hp;obtain⟨f1,f2,f3,f4,f5,f6,f7⟩:=O.kK hp;have g1:uD (wr B.C.A (p+24) 8 t) p=(M.it p).exp:=(O.OS hp d (by omega) (λj h1 h2 s=>by unfold Ai at s;omega)).trans f1;have g2:lA (wr B.C.A (p+24) 8 t) p=t:=qg _ _ _ _ (by omega);have g3:rO (wr B.C.A (p+24) 8 t) p=(M.it p).tok:=(O.OS hp d (by omega) (λj h1 h2 s=>by unfold Ai at s;omega)).trans f3;have g4:dB (wr B.C.A (p+24) 8 t) p=(M.it p).eP:=(O.OS hp d (by omega) (λj h1 h2 s=>by unfold Ai at s;omega)).trans f4;have e1:=I.exp;refine O.iE hp d (λq j s=>by unfold Ai at s;omega) (by show uD _ _<_;rw[g1,<-f1];exact e1) (by show lA _ _<_;rw[g2];exact ht) (by rw[g4];exact(O.wF hp).2) _ (by rw[g1,g2,g3,g4]) _ _ _ ?_;exact O.e.trans (abA.of_eq (Dc (by rfl)).symm)
theorem bH.w32{B:Bx}{M:Mo}(O:bH B M){p:Nat}(hp:p∈B.W.all)(t:Nat)(ht:t<18446744073709551616):bH ⟨B.C.wA (wr B.C.A (p+32) 8 t),B.W,B.ty,B.E⟩ (M.tok p t):=by
 have L:=O.mL hp;have n1:=(L.ba O.k).2.1;have d:cZ B.C B.C.A (wr B.C.A (p+32) 8 t) (Ai p 32 8):=xE _ L (by omega) λj h1 h2=>⟨rfl,h1,h2⟩;have I:=O.t.it p hp;obtain⟨f1,f2,f3,f4,f5,f6,f7⟩:=O.kK hp;have g1:uD (wr B.C.A (p+32) 8 t) p=(M.it p).exp:=(O.OS hp d (by omega) (λj h1 h2 s=>by unfold Ai at s;omega)).trans f1;have g2:lA (wr B.C.A (p+32) 8 t) p=(M.it p).tch:=(O.OS hp d (by omega) (λj h1 h2 s=>by unfold Ai at s;omega)).trans f2;have g3:rO (wr B.C.A (p+32) 8 t) p=t:=qg _ _ _ _ (by omega);have g4:dB (wr B.C.A (p+32) 8 t) p=(M.it p).eP:=(O.OS hp d (by omega) (λj h1 h2 s=>by unfold Ai at s;omega)).trans f4;have e1:=I.exp;have e2:=I.tch;refine O.iE hp d (λq j s=>by unfold Ai at s;omega) (by show uD _ _<_;rw[g1,<-f1];exact e1) (by show lA _ _<_;rw[g2,<-f2];exact e2) (by rw[g4];exact(O.wF hp).2) _ (by rw[g1,g2,g3,g4]) _ _ _ ?_;exact O.e.trans (abA.of_eq (Dc (by rfl)).symm)
theorem bH.w16{B:Bx}{M:Mo}(O:bH B M){p:Nat}(hp:p∈B.W.all)(t:Nat)(ht:t<9223372036854775808):bH ⟨B.C.wA (wr B.C.A (p+16) 8 t),B.W,B.ty,lz B.E (B.C.hd p) t M.tn⟩ (M.time p t):=by
 have L:=O.mL hp;have n1:=(L.ba O.k).2.1;have d:cZ B.C B.C.A (wr B.C.A (p+16) 8 t) (Ai p 16 8):=xE _ L (by omega) λj h1 h2=>⟨rfl,h1,h2⟩;have I:=O.t.it p hp;obtain⟨f1,f2,f3,f4,f5,f6,f7⟩:=O.kK hp;have g1:uD (wr B.C.A (p+16) 8 t) p=t:=qg _ _ _ _ (by omega);have g2:lA (wr B.C.A (p+16) 8 t) p=(M.it p).tch:=(O.OS hp d (by omega) (λj h1 h2 s=>by unfold Ai at s;omega)).trans f2;have g3:rO (wr B.C.A (p+16) 8 t) p=(M.it p).tok:=(O.OS hp d (by omega) (λj h1 h2 s=>by unfold Ai at s;omega)).trans f3;have g4:dB (wr B.C.A (p+16) 8 t) p=(M.it p).eP:=(O.OS hp d (by omega) (λj h1 h2 s=>by unfold Ai at s;omega)).trans f4;have e2:=I.tch;refine O.iE hp d (λq j s=>by unfold Ai at s;omega) (by show uD _ _<_;rw[g1];exact ht) (by show lA _ _<_;rw[g2,<-f2];exact e2) (by rw[g4];exact(O.wF hp).2) _ (by rw[g1,g2,g3,g4]) _ _ _ ?_;have pe:=O.afU hp;have nd:=abB.1 (pe.nodup_iff.1 O.t.nd);have hr:=O.rest pe;refine abA.trans ?_ (jB pe).symm;rw[iR];have e0:(({M.put p {M.it p with exp:=t}with ord:=λq=>if q=p then M.tn+1 else M.ord q}:Mo).it p).exp=t:=by show(if p=p then _ else M.it p).exp=t;rw[if_pos rfl]
 have e5:({M.put p {M.it p with exp:=t}with ord:=λq=>if q=p then M.tn+1 else M.ord q}:Mo).ord p=M.tn+1:=if_pos rfl;rw[e0,e5];have e1:gU B.C {M.put p {M.it p with exp:=t}with ord:=λq=>if q=p then M.tn+1 else M.ord q} (B.W.all.erase p)=gU B.C M (B.W.all.erase p):=fO λq hq=>by
  have ne:q≠p:=λe=>nd.1 (e▸hq);refine⟨?_,if_neg ne,rfl⟩;show(if q=p then _ else M.it q).exp=_;rw[if_neg ne]
 rw[e1];unfold lz;split
 ·exact hr.cons _
 exact hr
theorem oy{C:Cs}(K:Ok C){p:Nat}(L:Live C p)(j:Nat):((C.aL p).pg j).own=(C.pg j).own/\((C.aL p).pg j).lv=(C.pg j).lv/\((C.aL p).pg j).cl=(C.pg j).cl:=by
 have hpl:C.pn p<C.bm.length:=by rw[K.pl];exact L.i
 have h:=kO (C:=C) (c:=C.cl p) (sp:=C.spare) (x:={C.pg (C.pn p)with tk:=(C.pg (C.pn p)).tk.set (C.ix p) false,held:=(C.pg (C.pn p)).held-1,aX:=(C.pg (C.pn p)).aX.set (C.ix p) ((C.gen p+1) % 4294967296)}) (r:={C.rw (C.cl p)with free:=if(C.pg (C.pn p)).lv=true then(C.rw (C.cl p)).free else(C.rw (C.cl p)).free++ [p],ct:=(C.rw (C.cl p)).ct-1}) (A:=C.A) hpl j;change(C.aL p).pg j=_ at h;rw[h];by_cases e:j=C.pn p
 ·rw[if_pos e,e];exact⟨rfl,rfl,rfl⟩
 rw[if_neg e];exact⟨rfl,rfl,rfl⟩
theorem nH{C:Cs}(K:Ok C){p:Nat}(L:Live C p)(q:Nat):Live (C.aL p) q↔Live C q/\q≠p:=by
 obtain⟨K2,S⟩:=gR K L;have M:=jz K L;refine⟨λh=> ?_,λh=>(M.lv q h.2 h.1).1⟩;have hpl:C.pn p<C.bm.length:=by rw[K.pl];exact L.i
 have hp:=kO (C:=C) (c:=C.cl p) (sp:=C.spare) (x:={C.pg (C.pn p)with tk:=(C.pg (C.pn p)).tk.set (C.ix p) false,held:=(C.pg (C.pn p)).held-1,aX:=(C.pg (C.pn p)).aX.set (C.ix p) ((C.gen p+1) % 4294967296)}) (r:={C.rw (C.cl p)with free:=if(C.pg (C.pn p)).lv=true then(C.rw (C.cl p)).free else(C.rw (C.cl p)).free++ [p],ct:=(C.rw (C.cl p)).ct-1}) (A:=C.A) hpl (C.pn q);change(C.aL p).pg (C.pn q)=_ at hp;have a:=(S.at).1 h.toAt;have t:=h.tk;rw[S.pn,S.ix,hp]at t;by_cases e:C.pn q=C.pn p
 ·rw[if_pos e]at t
  have ne:q≠p:=λg=>by
   rw[g]at t;change((C.pg (C.pn p)).tk.set (C.ix p) false)[C.ix p]?=some true at t;rw[List.getElem?_set_self']at t;cases hh:(C.pg (C.pn p)).tk[C.ix p]?<;>rw[hh]at t<;>cases t
  refine⟨⟨a, ?_⟩,ne⟩;change((C.pg (C.pn p)).tk.set (C.ix p) false)[C.ix q]?=some true at t;rw[abX (λg=>xV K L.toAt a e ne g.symm)]at t;rw[e];exact t
 rw[if_neg e]at t;exact⟨⟨a,t⟩,λg=>e (by rw[g])⟩
def iH (Q:F7)(p:Nat):F7:=Q.map λl=>l.erase p
theorem js (Q:F7)(p i:Nat):ql (iH Q p) i=(ql Q i).erase p:=by
 unfold iH ql;rw[aab,aab,abD];cases Q[i]?<;>rfl
theorem D7{C:Cs}{Q:F7}(O:iV C Q){i j p:Nat}(h:p∈ql Q i)(g:p∈ql Q j):i=j:=by
 rw[(O.st i p h).2.2,(O.st j p g).2.2]
theorem HM{l:FH}(nd:l.Nodup){k p:Nat}(h:l[k]?=some p):l.eraseIdx k=l.erase p:=by
 obtain⟨hk,e⟩:=aad.1 h;have:l.idxOf p=k:=by
  have h1:p∈l:=aaf h;obtain⟨i1,i2⟩:=C7 h1;exact iC nd i2 h
 rw[List.erase_eq_eraseIdx_of_idxOf this]
theorem CJ{C:Cs}{Q:F7}(O:iV C Q){i k p:Nat}(h:(ql Q i)[k]?=some p):Q.set i ((ql Q i).eraseIdx k)=iH Q p:=by
 have hm:=aaf h;have hi:i<Q.length:=by
  refine abz λg=> ?_;unfold ql at h;have e0:Q[i]?=none:=aal (by omega);rw[aab,e0]at h;cases h
 refine agJ λj=> ?_;unfold iH;rw[agy,abD];by_cases e:i=j
 ·subst e
  rw[if_pos rfl,if_pos hi,aac hi];have e2:ql Q i=Q[i]:=by unfold ql;rw[aab,aac hi];rfl
  rw[HM (O.nd i) h,e2];rfl
 rw[if_neg e];cases hq:Q[j]? with
 |none=>rfl
 |some l=>
  have e2:ql Q j=l:=by unfold ql;rw[aab,hq];rfl
  have:p∉l:=λg=>e (D7 O hm (by rw[e2];exact g));rw[Option.map_some,List.erase_of_not_mem this]
def Mo.shr (M:Mo):Prop:=M.mg=0/\16<M.nb/\8*(M.n-1)<M.nb
instance (M:Mo):Decidable M.shr:=by unfold Mo.shr;infer_instance
def Mo.bw (M:Mo)(p:Nat):Mo:=
 {M with C:=M.C.aL p,Q:=iH M.Q p,x:=M.x.left M.Q p,n:=M.n-1,nb:=if M.shr then M.nb/2 else M.nb,mg:=if M.shr then M.nb else M.mg,v:={M.v with fB:=M.v.fB-(M.it p).sz}}
theorem bH.st0{B:Bx}{M:Mo}(O:bH B M):M.mg=0↔B.W.st=0:=by
 have:=O.st;rw[O.mg];rcases O.t.st with⟨h,_⟩|⟨h,_,_⟩
 ·rw[h,if_neg (by omega)]
 rw[if_pos h,h];have:=this h;omega
theorem bH.bw{B:Bx}{M:Mo}(O:bH B M){p i k:Nat}(hp:p∈B.W.all)(hk:(ql M.Q i)[k]?=some p){D:Cs}{V:Tb}{ty:pq}{A:By}(hy:ty.ok=none->V.ob= [])(Af:B.W.all.Perm (p::V.all))(hA:ah2 B.C p D V (M.Q.set i ((ql M.Q i).eraseIdx k)) (M.x.left M.Q p))(TK:HV B.C B.W p A V):
  bH ⟨D,V,ty,fb B.E (B.C.hd p)⟩ (M.bw p):=by
 have L:=O.sH hp;have K:=O.k;have hq:=CJ O.o hk;rw[hq]at hA;have nd:=abB.1 (Af.nodup_iff.1 O.t.nd);have ak:∀q,q∈V.all↔q∈B.W.all/\q≠p:=λq=>by
  rw[Af.mem_iff,abE];exact⟨λh=>⟨.inr h,λe=>nd.1 (e▸h)⟩,λh=>h.1.resolve_left h.2⟩
 have wO:D.ae=B.C.ae:=by rw[hA.g];rfl
 have jC:∀q,Live D q↔Live B.C q/\q≠p:=λq=>by
  rw[hA.g];exact Iff.trans ⟨λh=>⟨⟨h.i,h.own,h.al,h.k⟩,h.tk⟩,λh=>h.wA _⟩ (nH K L q)
 have La:∀q,q∈V.all->D.hd q=B.C.hd q:=λq h=>by
  have h2:=(ak q).1 h;rw[hA.g];exact((jz K L).lv q h2.2 (O.sH h2.1)).2.1
 have lq:∀q∈V.all,mj D.A q=M.it q:=λq h=>by
  have h2:=(ak q).1 h;rw[<-O.it q h2.1];exact vJ K hA.d (O.mL h2.1) (O.t.it q h2.1) λj s=>by omega
 have iF:∀j,(D.pg j).own=(B.C.pg j).own/\(D.pg j).lv=(B.C.pg j).lv/\(D.pg j).cl=(B.C.pg j).cl:=λj=>by rw[hA.g];exact oy K L j
 have h0:=O.st0;have Br:=O.nb;have hn:=O.n;have DE:=O.mg;have Z4:M.shr↔jv B.W:=by unfold Mo.shr jv;rw[h0,Br,hn]
 have h16:=O.t.PG;refine⟨?_,hA.k,hA.t,hy,hA.o, ?_, ?_,O.ck,λq=> ?_,λq=> ?_,λq h=> ?_,lq, ?_, ?_, ?_, ?_, ?_, ?_, ?_, ?_, ?_,O.wn, ?_, ?_,λq h=>O.lg q ((ak q).1 h).1⟩
 ·show D=(M.C.aL p).wA D.A
  conv=>lhs;rw[hA.g,O.c]
  rfl
 ·show db D.ae.length (iH M.Q p) (M.x.left M.Q p)
  rw[wO];exact hA.x
 ·intro j q K7
  change q∈ql (iH M.Q p) j at K7;rw[js]at K7;have hqm:=agO K7;have e:dB D.A q=dB B.C.A q:=kX K hA.d (O.o.lv j q hqm).toAt (by have:=((O.o.lv j q hqm).toAt.ba K).2.1;omega) λu h1 h2 s=>by omega
  show dB D.A q<16;rw[e];exact O.mq j q hqm
 ·show q∈V.all↔∃j,q∈ql (iH M.Q p) j
  rw[ak q,O.al q];refine⟨λ⟨⟨j,h1⟩,h2⟩=>⟨j,by rw[js];exact(ajE h2).2 h1⟩,λ⟨j,h1⟩=> ?_⟩;rw[js]at h1;exact⟨⟨j,agO h1⟩,λe=>by subst e;exact(List.Nodup.not_mem_erase (O.o.nd j)) h1⟩
 ·show Live D q↔q∈V.all\/M.hole=some q
  rw[jC q,ak q,O.lv q];constructor
  ·rintro⟨h|h,ne⟩
   ·exact .inl ⟨h,ne⟩
   exact .inr h
  rintro(⟨h,ne⟩|h)
  ·exact⟨.inl h,ne⟩
  exact⟨.inr h,λe=>O.ho q h (e▸hp)⟩
 ·exact λg=>O.ho q h ((ak q).1 g).1
 ·refine(O.rest Af).trans (abA.of_eq (fO λq h=>⟨rfl,rfl,La q h⟩).symm)
 ·intro h2
  show V.mv<V.ob.length;by_cases g:jv B.W
  ·obtain⟨_,_,e1,e2⟩:=TK.big g
   rw[e1,e2];omega
  obtain⟨_,e1,e2,e3⟩:=TK.same g;rw[e2,e3];exact O.st (by rw[<-e1];exact h2)
 ·show V.size=if M.shr then M.nb/2 else M.nb
  by_cases g:jv B.W
  ·rw[if_pos (Z4.2 g),(TK.big g).1,Br]
  rw[if_neg λe=>g (Z4.1 e),(TK.same g).1,Br]
 ·show(if M.shr then M.nb else M.mg)=if V.st=2 then V.ob.length-V.mv else 0
  by_cases g:jv B.W
  ·obtain⟨_,e1,e2,e3⟩:=TK.big g
   rw[if_pos (Z4.2 g),if_pos e1,e2,e3,Br];rfl
  obtain⟨_,e1,e2,e3⟩:=TK.same g;rw[if_neg λe=>g (Z4.1 e),e1,e2,e3];exact DE
 ·exact TK.most.trans O.mo
 ·show M.v.fB-(M.it p).sz=_
  rw[O.bt,lU _ Af,aaj,abJ];show _=(V.all.map λp=>(M.it p).sz).sum;omega
 ·show M.m.un.length=D.ae.length
  rw[wO];exact O.un
 ·intro h
  have:=O.on h;obtain⟨e1,e2,e3⟩:=iF M.m.pg;show M.m.pg<D.n/\(D.pg M.m.pg).own=true/\(D.pg M.m.pg).lv=true/\(D.pg M.m.pg).cl=M.m.fr;rw[e1,e2,e3,show D.n=B.C.n by rw[hA.g];rfl];exact this
 ·intro j h
  rw[show(D.pg j).lv=(B.C.pg j).lv from(iF j).2.1]at h;exact O.go j h
 ·show M.v.c=D.cfg
  rw[hA.g];exact O.cf
 show V.n=M.n-1;rw[TK.n,hn]
def Mo.bF (M:Mo)(p:Nat):Nat:=if 0<(M.it p).exp/\(M.it p).exp<=M.k.now then 2 else if(M.it p).tok<=M.k.cut then 3 else 0
theorem bH.ab3{B:Bx}{M:Mo}(O:bH B M){p:Nat}(hp:p∈B.W.all):zP B.C.A M.k p=M.bF p:=by
 obtain⟨f1,f2,f3,f4,f5,f6,f7⟩:=O.kK hp;unfold zP Mo.bF;rw[f1,f3]
theorem kY:∀(A R:F8),iA (A++R) A R
 | [],_=> .nil
 |_::A,R=> .cons .here (kY A R)
theorem u9 (z:Ly)(M:Mo)(p:Nat)(hp:M.has p):aG aaa 48 [Dk z.s,Dm Dj (M.C.hd p)] uT [SH z M]
  (λv H=>v= .bool (decide (M.bF p≠0))/\H= [SH z M]):=
 dJ λB O=>by
  have dD:=(O.al p).2 hp;have h:=(EI z.s z.y (fg M.v) B.C O.k M.k p (O.ito dD)).fr (H:=dS z B M++ []) (R:=dS z B M) (kY [] _) (λk ak=>⟨ak.nth 8 rfl,ak.nth 0 rfl,ak.nth 9 rfl⟩);rw[O.hd,O.ab3 dD]at h;refine h.out ?_;rintro v H' ⟨H0,⟨rfl,rfl⟩,rfl⟩;exact⟨[SH z M],⟨rfl,rfl⟩,λk s=>ax O (H:= []) k s⟩
theorem Ip (z:Ly)(M:Mo)(p:Nat)(hp:M.has p):aG aaa 97 [Dk z.s,Dm Dj (M.C.hd p)] uT [SH z M]
  (λv H=>v=Dm Dl (M.bF p)/\H= [SH z M]):=
 dJ λB O=>by
  have dD:=(O.al p).2 hp;have h:=(AM z.s z.y (fg M.v) B.C O.k M.k p (O.ito dD)).fr (H:=dS z B M++ []) (R:=dS z B M) (kY [] _) (λk ak=>⟨ak.nth 8 rfl,ak.nth 0 rfl,ak.nth 9 rfl⟩);rw[O.hd,O.ab3 dD]at h;refine h.out ?_;rintro v H' ⟨H0,⟨rfl,rfl⟩,rfl⟩;exact⟨[SH z M],⟨rfl,rfl⟩,λk s=>ax O (H:= []) k s⟩
theorem TM (z:Ly)(M:Mo)(p:Nat)(hp:M.has p):aG aaa 122 [Dk z.s,Dm Dj (M.C.hd p)] uT [SH z M]
  (λv H=>v= .tuple #[]/\H= [SH z (M.lq p)]):=
 dJ λB O=>by
  have dD:=(O.al p).2 hp;obtain⟨i,hi⟩:=hp;have fA:=O.o.st i p hi;have hm:=O.mq i p hi;have zM:=O.ck.n2;have h:=(XY z.s z.hot z.warm z.y (fg M.v) B.C O.k M.k O.ck p (O.ito dD) hm ⟨fA.1,fA.2.1⟩).fr (H:=dS z B M++ []) (R:=(dS z B M).tail) (.cons .here .nil) (λk ak=>⟨ak.nth 7 rfl,ak.nth 9 rfl,ak.nth 8 rfl⟩);rw[O.hd]at h;refine h.out ?_;rintro v H' ⟨H0,⟨rfl,rfl⟩,rfl⟩;refine⟨[SH z (M.lq p)],⟨rfl,rfl⟩, ?_⟩;obtain⟨m1,m2⟩:=O.wF dD;have h1:=lV hm true;have L:=O.sH dD;have uy:dB (wv B.C.A p true) p=mkSet (dB B.C.A p) true:=by rw[Jg O.k B.C.A L L,if_pos rfl];omega
  have O1:=O.w46 dD (mkSet (dB B.C.A p) true) h1;have O2:=O1.w46 (p:=p) dD (mkSet (dB B.C.A p) true % 8+8) (by omega);have O3:=O2.w24 (p:=p) dD M.k.now (by omega);have e:acd B.C.A p M.k.now=wr (wr (wr B.C.A (p+46) 1 (mkSet (dB B.C.A p) true)) (p+46) 1 (mkSet (dB B.C.A p) true % 8+8)) (p+24) 8 M.k.now:=rfl;rw[e];have e2:M.lq p=((M.put p {M.it p with eP:=mkSet (dB B.C.A p) true}).put p {(M.put p {M.it p with eP:=mkSet (dB B.C.A p) true}).it p with eP:=mkSet (dB B.C.A p) true % 8+8}).put p {((M.put p {M.it p with eP:=mkSet (dB B.C.A p) true}).put p {(M.put p {M.it p with eP:=mkSet (dB B.C.A p) true}).it p with eP:=mkSet (dB B.C.A p) true % 8+8}).it p with tch:=M.k.now}:=by
   rw[m1];unfold Mo.lq Mo.put
   congr 1
   funext q
   dsimp only;by_cases h:q=p
   ·simp[h]
   simp[h]
  rw[e2];exact λk s=>ax O3 (H:= []) k s
theorem Iu (z:Ly)(M:Mo)(p c:Nat)(hc:c<4)(hp:M.has p):aG aaa 127 [Dk z.s,Dm Dj (M.C.hd p),Dm Dl (c*2:Nat)] uT [SH z M]
  (λv H=>v= .tuple #[]/\H= [SH z (M.marks p c)]):=
 dJ λB O=>by
  have dD:=(O.al p).2 hp;obtain⟨i,hi⟩:=hp;have hm:=O.mq i p hi;obtain⟨m1,m2⟩:=O.wF dD;have h:=(Mm z.s z.y (fg M.v) B.C O.k p c hc (O.ito dD) hm).fr (H:=dS z B M++ []) (R:=(dS z B M).tail) (.cons .here .nil) (λk ak=>ak.nth 7 rfl);rw[O.hd]at h;refine h.out ?_;rintro v H' ⟨H0,⟨rfl,rfl⟩,rfl⟩;refine⟨[SH z (M.marks p c)],⟨rfl,rfl⟩, ?_⟩;have O1:=O.w46 dD (dB B.C.A p-dB B.C.A p/2 % 4*2+c*2) (by omega);rw[show M.marks p c=M.put p {M.it p with eP:=dB B.C.A p-dB B.C.A p/2 % 4*2+c*2} by rw[m1];rfl];exact λk s=>ax O1 (H:= []) k s
theorem Io (z:Ly)(M:Mo)(p:Nat)(hp:M.has p)(t:Int)(ht:t<9223372036854775808)(vD:M.tn<18446744073709551615):aG aaa 121 [Dk z.s,Dm Dj (M.C.hd p),Dm Dl t] uT [SH z M]
  (λv H=>v= .tuple #[]/\H= [SH z (M.time p (dq M.k.now t))]):=
 dJ λB O=>by
  have dD:=(O.al p).2 hp;have hE:B.E.length<2147483647:=by
   rw[O.e.length_eq];unfold gU;rw[abI];have h1:=ake (λp=>decide (0<(M.it p).exp)) B.W.all;have h2:=BD O.k O.t;rw[O.t.n]at h2;omega
  have h:=(Ml z.s z.y (fg M.v) B.C O.k M.k O.ck p (O.ito dD) B.E M.tn t ht vD hE).fr (H:=dS z B M++ []) (R:= [ag z.y.t 154 (gE z.y.b B.W B.ty),zK B.ty B.W,nL B.ty.ok 149 (aS (aF B.W.ob)),ag z.y.q 182 (ij z.y.b z.qb B.C.ae.length),ag z.qb 333 (M.Q.flatMap (cX B.C)),ik z.y.cr z.y.q z.y.wh B.C.ae.length (aV z.s) (bx z.s) B.C M.x,fy z.s z.y (fg M.v),
   kI z.y.ck M.k,zF z,xx z M.m,kF z.ub M.m,jJ M]) (.cons .here (.cons (.t4 (.t2 .here)) .nil)) (λk ak=>⟨ak.nth 6 rfl,ak.nth 7 rfl⟩)
  rw[O.hd]at h;refine h.out ?_;rintro v H' ⟨H0,⟨rfl,rfl⟩,rfl⟩;refine⟨[SH z (M.time p (dq M.k.now t))],⟨rfl,rfl⟩, ?_⟩;have O1:=O.w16 dD (dq M.k.now t) (Db M.k.now t O.ck.n2 ht);refine λk s=>ax O1 (H:= []) k ?_;rw[<-O.hd]at s
  revert s
  revert k
  show∀k,ai ([Wl z.y.wh (lz B.E (B.C.hd p) (dq M.k.now t) M.tn) (if 0<dq M.k.now t then M.tn+1 else M.tn),Cl z.y.b (B.C.wA (wr B.C.A (p+16) 8 (dq M.k.now t)))]++_) k->ai ([Cl z.y.b (B.C.wA (wr B.C.A (p+16) 8 (dq M.k.now t))),ag z.y.t 154 (gE z.y.b B.W B.ty),zK B.ty B.W,nL B.ty.ok 149 (aS (aF B.W.ob)),ag z.y.q 182 (ij z.y.b z.qb B.C.ae.length),ag z.qb 333 (M.Q.flatMap (cX B.C)),ik z.y.cr z.y.q z.y.wh B.C.ae.length (aV z.s) (bx z.s) B.C M.x,Wl z.y.wh (lz B.E (B.C.hd p) (dq M.k.now t) M.tn) (if 0<dq M.k.now t then M.tn+1 else M.tn),fy z.s z.y (fg M.v),
   kI z.y.ck M.k,zF z,xx z M.m,kF z.ub M.m,jJ M]) k
  simp only[oU,cap];exact Eh
theorem bH.btb{B:Bx}{M:Mo}(O:bH B M):M.v.fB<4611686018427387904:=by
 rw[O.bt];have h2:=BD O.k O.t;rw[O.t.n]at h2;have:∀l:FH,(∀p∈l,p∈B.W.all)->(l.map λp=>(M.it p).sz).sum<=l.length*1048576:=λl=>by
  induction l with
  |nil=>intro _;simp
  |cons p l ih=>
   intro h;have hp:=h p aag;have h1:=O.szp hp;have h3:=(O.t.it p hp).fits;have h4:=((O.mL hp).ba O.k).2.2.1;have h5:=O.k.toFix.p1;have:=ih λq hq=>h q (aai _ hq);rw[aaj,abJ,abU];omega
 have:=this _ λp h=>h;have h3:B.W.all.length*1048576<=1073741824*1048576:=abW _ h2;omega
theorem jO (z:Ly)(M:Mo)(p:Nat)(hp:M.has p):aG aaa 85 [Dk z.s,Dm Dj (M.C.hd p)] uT [SH z M]
  (λv H=>v= .tuple #[]/\H= [SH z (M.bw p)]):=
 dJ λB O=>by
  have dD:=(O.al p).2 hp;obtain⟨i,hi⟩:=hp;obtain⟨k,hk⟩:=agA hi;have wO:=O.szp dD;have GL:kl B.C.A p<=250:=by
   have h1:=(gn (O.lg p dD)).2;rw[<-O.it p dD]at h1;rw[<-show(aH B.C.A p).length=kl B.C.A p from cE _ _ _];exact h1
  have hb:58+kl B.C.A p+vl B.C.A p<=M.v.fB:=by
   rw[wO,O.bt];exact wV (λp=>(M.it p).sz) dD
  have h:=(TV z.s z.qb z.hot z.warm (aV z.s) (bx z.s) z.y M.v B.C O.k B.W B.ty O.t O.ty M.Q O.o M.x O.x B.E M.tn i k p dD hk GL hb O.btb).fr (H:=dS z B M++ []) (R:= [kI z.y.ck M.k,zF z,xx z M.m,kF z.ub M.m,jJ M]) (kY (Cl z.y.b B.C::mM z.y.t z.y.b B.W B.ty++ [DI z B.C.ae.length,ag z.qb 333 (M.Q.flatMap (cX B.C)),Wp z B.C.ae.length B.C M.x,Wl z.y.wh B.E M.tn,fy z.s z.y (fg M.v)]) _) (λk ak=>ak.nth 1 rfl);rw[O.hd]at h;refine h.out ?_;rintro v H' ⟨H0,⟨rfl,D,V,ty,rfl,hy,Af,hA,A,TK⟩,rfl⟩;refine⟨[SH z (M.bw p)],⟨rfl,rfl⟩, ?_⟩;have O1:=O.bw dD hk hy Af hA TK;have e1:B.C.ae.length=D.ae.length:=by rw[hA.g];rfl
  rw[CJ O.o hk,wO,<-O.hd,e1];exact λk s=>ax O1 (H:= []) k s
theorem tD:∀{Q:F7},(∀i,(ql Q i).Nodup)->(∀i j p,p∈ql Q i->p∈ql Q j->i=j)->Q.flatten.Nodup
 | [],_,_=>by simp
 |l::Q,h,g=>by
  have ih:=tD (Q:=Q) (λi=>h (i+1)) (λi j p h1 h2=>by have:=g (i+1) (j+1) p h1 h2;omega);rw[List.flatten_cons,List.nodup_append];refine⟨h 0,ih,λa ha b hb e=> ?_⟩;subst e;obtain⟨m,hm,ham⟩:=ajI.1 hb;obtain⟨i,hi,rfl⟩:=abS hm;have:=g 0 (i+1) a ha (by show a∈ql Q i;unfold ql;rw[aab,aac hi];exact ham);omega
theorem eR{Q:F7}{p:Nat}:p∈Q.flatten↔∃i,p∈ql Q i:=by
 rw[ajI];constructor
 ·rintro⟨l,hl,hp⟩
  obtain⟨i,hi,rfl⟩:=abS hl;exact⟨i,by unfold ql;rw[aab,aac hi];exact hp⟩
 rintro⟨i,hp⟩;unfold ql at hp;rw[aab]at hp;cases h:Q[i]? with
 |none=>rw[h]at hp;cases hp
 |some l=>rw[h]at hp;exact⟨l,aaf h,hp⟩
theorem bH.perm{B:Bx}{M:Mo}(O:bH B M):B.W.all.Perm M.Q.flatten:=
 (List.perm_ext_iff_of_nodup O.t.nd (tD O.o.nd λi j p h g=>D7 O.o h g)).2 λp=>(O.al p).trans eR.symm
def sM (h:Nat):Nat:=(h % 4294967296-1)*8
theorem adH{B:Bx}{M:Mo}(O:bH B M){p:Nat}(hp:p∈B.W.all):sM (M.C.hd p)=p:=by
 obtain⟨m1,m2,m3,m4,m5,m6⟩:=bM O.k (O.mL hp);rw[O.hd]at m1;unfold sM;omega
noncomputable def Mo.iI (M:Mo)(now most:Int):FH:=(nY (gU M.C M M.Q.flatten) now most).map sM
theorem afj{B:Bx}{M:Mo}(O:bH B M)(l:FH):gU B.C M l=gU M.C M l:=fO λq _=>⟨rfl,rfl,O.hd q⟩
theorem Rc{f:Nat->Nat}:∀{l:FH},(l.map f).Nodup->l.Nodup
 | [],_=>ag5
 |a::l,h=>by
  rw[aaj,abB]at h;exact abB.2 ⟨λg=>h.1 (abF.2 ⟨a,g,rfl⟩),Rc h.2⟩
theorem Zw{M:Mo}{now most:Int}{h:Nat}(hh:h∈nY (gU M.C M M.Q.flatten) now most):∃p,M.has p/\h=M.C.hd p:=by
 unfold nY at hh;obtain⟨x,hx,rfl⟩:=abF.1 hh;have h1:=(eW _).mem_iff.1 (ajF hx);have h2:=(abG.1 h1).1;unfold gU at h2;obtain⟨p,hp,rfl⟩:=abF.1 h2;exact⟨p,eR.1 (abG.1 hp).1,rfl⟩
theorem abg (C:Cs)(M:Mo)(l:FH):(gU C M l).map En.h=(l.filter λp=>decide (0<(M.it p).exp)).map C.hd:=by
 unfold gU;rw[List.map_map];exact acA λp _=>rfl
theorem aaR{B:Bx}{M:Mo}(O:bH B M):∀{l:FH},l.Nodup->(∀p∈l,M.has p)->(l.map M.C.hd).Nodup
 | [],_,_=>ag5
 |p::l,h,g=>by
  rw[aaj,abB];refine⟨λhc=> ?_,aaR O (abB.1 h).2 λq hq=>g q (aai _ hq)⟩;obtain⟨q,hq,e⟩:=abF.1 hc;rw[<-O.hd,<-O.hd]at e;have:=je O.k (O.mL ((O.al q).2 (g q (aai _ hq)))) (O.mL ((O.al p).2 (g p aag))) e;exact(abB.1 h).1 (this▸hq)
theorem afq{B:Bx}{M:Mo}(O:bH B M)(now most:Int):(nY (gU M.C M M.Q.flatten) now most).Nodup:=by
 have n1:((gU M.C M M.Q.flatten).map En.h).Nodup:=by
  rw[abg];exact aaR O ((tD O.o.nd λi j p h g=>D7 O.o h g).sublist agi) λp hp=>eR.1 (abG.1 hp).1
 unfold nY;generalize gU M.C M M.Q.flatten=E at*;have n2:((E.filter λx=>decide ((x.ex:Int)<=now)).map En.h).Nodup:=n1.sublist (agi.map _);have n3:=((eW (E.filter λx=>decide ((x.ex:Int)<=now))).map En.h).nodup_iff.2 n2;exact n3.sublist ((List.take_sublist _ _).map _)
theorem Sz{B:Bx}{M:Mo}(O:bH B M):∀{l:FH},(∀h∈l,∃p,M.has p/\h=M.C.hd p)->(l.map sM).map M.C.hd=l/\∀p∈l.map sM,M.has p
 | [],_=>⟨rfl,λp h=>by cases h⟩
 |h::l,g=>by
  obtain⟨p,hp,e⟩:=g h aag;obtain⟨i1,i2⟩:=Sz O (l:=l) λx hx=>g x (aai _ hx);have e1:sM h=p:=by rw[e,adH O ((O.al p).2 hp)]
  rw[aaj,aaj,e1,i1,e];refine⟨rfl,λq hq=> ?_⟩;rcases abE.1 hq with rfl|hq
  ·exact hp
  exact i2 q hq
theorem afp{B:Bx}{M:Mo}(O:bH B M)(td:(B.E.map En.tu).Nodup)(now most:Int):nY B.E now most=nY (gU M.C M M.Q.flatten) now most:=by
 have pe:B.E.Perm (gU M.C M M.Q.flatten):=by rw[<-afj O];exact O.e.trans (jB O.perm)
 generalize gU M.C M M.Q.flatten=E at*;unfold nY;rw[y5 (pe.filter _)];exact((pe.map En.tu).nodup_iff.1 td).sublist (agi.map _)
theorem bH.due{B:Bx}{M:Mo}(O:bH B M)(td:(B.E.map En.tu).Nodup)(now most:Int):nY B.E now most=(M.iI now most).map M.C.hd/\(∀p∈M.iI now most,M.has p)/\(M.iI now most).Nodup:=by
 obtain⟨e1,e2⟩:=Sz O (l:=nY (gU M.C M M.Q.flatten) now most) λh hh=>Zw hh;have nh:=afq O now most;have e3:=afp O td now most;unfold Mo.iI;generalize nY (gU M.C M M.Q.flatten) now most=L at*;refine⟨e3.trans e1.symm,e2, ?_⟩;rw[<-e1]at nh;exact Rc nh
theorem TP (wN:pT)(z:Ly)(M:Mo)(now most:Int):aG aaa 75 [Dk z.y.wh,Dm Dl now,Dm Dl most] uT [SH z M]
  (λv H=>∃a c,v= .slice a (M.iI now most).length c/\(∀p∈M.iI now most,M.has p)/\(M.iI now most).Nodup/\H= [own a c 104 1 (Dw ((M.iI now most).map M.C.hd)),SH z M]):=
 dJ λB O=>λF w _ s=>by
  obtain⟨k,hk,_⟩:=(s.sub λk x=>(fP.out (.t4 (.t3 .here)) k x)).get;obtain⟨y,N,p,W,_⟩:=acv ⟨k,hk,Le.refl _⟩;have td:(B.E.map En.tu).Nodup:=(p.map En.tu).nodup_iff.1 W.td;obtain⟨e1,e2,e3⟩:=O.due td now most;have h:=((ZS wN z.y.wh B.E M.tn now most).fr (H:=dS z B M++ []) (R:=dS z B M) (kY [] _) (λk ak=>ak.nth 7 rfl)) F w trivial s;refine h.mono ?_;rintro e w' ⟨v,H',he,⟨H0,⟨a,c,rfl,rfl⟩,rfl⟩,st⟩;refine⟨_,_,he,⟨a,c,by rw[e1,abI],e2,e3,rfl⟩, ?_⟩;rw[<-e1];exact st.sub λk x=>aE (λk x=>ax O (H:= []) k (by rw[abT];exact x)) x
theorem bH.cw{B:Bx}{M:Mo}(O:bH B M){y:Cw}(X:db B.C.ae.length M.Q y):bH B {M with x:=y}:=
 ⟨O.c,O.k,O.t,O.ty,O.o,X,O.mq,O.ck,O.al,O.lv,O.ho,O.it,O.e,O.st,O.nb,O.mg,O.mo,O.bt,O.un,O.on,O.go,O.wn,O.cf,O.n,O.lg⟩
def Mo.fG (M:Mo):Nat:=M.C.ae.length
theorem bH.fG{B:Bx}{M:Mo}(O:bH B M):B.C.ae.length=M.fG:=by rw[O.c];rfl
theorem Mk (z:Ly)(M:Mo):aG aaa 77 [Dk z.y.cr] uT [SH z M]
  (λv H=>∃r x,v= .bool r/\M.x.find M.fG M.Q=(r,x)/\H= [SH z {M with x:=x}]/\(r=true->∃p,x.nx=some p/\M.has p)):=
 dJ λB O=>by
  have h:=(VS z.y.cr z.y.q z.y.wh z.y.b z.qb (aV z.s) (bx z.s) B.C O.k M.Q O.o M.x O.x).fr (H:=dS z B M++ []) (R:= [Cl z.y.b B.C,DH z B.W B.ty,zK B.ty B.W,DJ B.ty B.W,DI z B.C.ae.length,ag z.qb 333 (M.Q.flatMap (cX B.C)),Wl z.y.wh B.E M.tn,fy z.s z.y (fg M.v),
   kI z.y.ck M.k,zF z,xx z M.m,kF z.ub M.m,jJ M]) (.cons (.t4 (.t2 .here)) .nil) (λk ak=>⟨ak.nth 4 rfl,ak.nth 5 rfl,trivial⟩)
  refine h.out ?_;rintro v H' ⟨H0,⟨r,x,rfl,rfl,e,X,hr⟩,rfl⟩;rw[O.fG]at e;refine⟨_,⟨r,x,rfl,e,rfl,λh=> ?_⟩, ?_⟩
  ·cases hx:x.nx with
   |none=>exact absurd hx (hr h)
   |some p=>exact⟨p,rfl,_,(X.nx p hx).1⟩
  refine λk s=>ax (O.cw X) (H:= []) k ?_
  revert s
  revert k
  simp only[oU,cap,abT];unfold dS;exact Eh
theorem Mj (z:Ly)(M:Mo)(p:Nat)(hp:M.x.nx=some p):aG aaa 78 [Dk z.y.cr] uT [SH z M]
  (λv H=>v=Dm Dj (M.C.hd p)/\H= [SH z {M with x:=M.x.pass M.Q}]):=
 dJ λB O=>by
  have h:=(FA z.y.cr z.y.q z.y.wh B.C.ae.length z.y.b z.qb (aV z.s) (bx z.s) B.C O.k M.Q O.o M.x O.x p hp).fr (H:=dS z B M++ []) (R:= [Cl z.y.b B.C,DH z B.W B.ty,zK B.ty B.W,DJ B.ty B.W,DI z B.C.ae.length,ag z.qb 333 (M.Q.flatMap (cX B.C)),Wl z.y.wh B.E M.tn,fy z.s z.y (fg M.v),
   kI z.y.ck M.k,zF z,xx z M.m,kF z.ub M.m,jJ M]) (.cons (.t4 (.t2 .here)) .nil) (λk ak=>⟨ak.nth 0 rfl,ak.nth 4 rfl,ak.nth 5 rfl,trivial⟩)
  rw[O.hd]at h;refine h.out ?_;rintro v H' ⟨H0,⟨rfl,rfl⟩,rfl⟩;refine⟨_,⟨rfl,rfl⟩,λk s=>ax (O.cw O.x.pass) (H:= []) k ?_⟩
  revert s
  revert k
  simp only[oU,cap,abT];unfold dS;exact Eh
theorem cB{n:Nat}{ds:Dq}{F:dG}{K:F9}{σ:aP}{z:Ly}{M:Mo}{H:F8}(h:∀B,bH B M->G n ds F K σ (dS z B M++H)):G n ds F K σ (SH z M::H):=
 ahN λB=>Hk λO=>mu (h B O)
theorem Ee{n:Nat}{ds:Dq}{F:dG}{K:F9}{σ:aP}{z:Ly}{B:Bx}{M:Mo}{H:F8}(O:bH B M)(h:G n ds F K σ (SH z M::H)):G n ds F K σ (dS z B M++H):=
 au (ax O) h
def Mo.look (M:Mo)(p:Nat):Mo:=if M.bF p≠0 then M.bw p else M
theorem EY (b6 lb l:Nat)(hl:l<4611686018427387904):FnD aaa 117 [Dk b6] uT [ag b6 140 [Dk lb],ag lb 3 [Dm Dl l]]
  (λv H=>v= .tuple #[]/\H= [ag lb 3 [Dm Dl (l+1:Nat)]]):=by
 refine MU (Aa (n:=117)) func117 rfl ntmps117 rfl ?_;intro F _;refine bK ?_;refine aD ?_;refine jU [ag lb 3 [Dm Dl (l+1:Nat)]] results117 ?_;exact⟨rfl,rfl⟩
theorem J9 (z:Ly)(M:Mo)(p:Nat)(hp:M.has p)(lb tb l t:Nat)(hl:l<4611686018427387904)(ht:t<4611686018427387904):
  aG aaa 76 [Dk z.y.cr,Dm Dj (M.C.hd p),Dk lb,Dk tb] uT [SH z M,ag lb 3 [Dm Dl l],ag tb 3 [Dm Dl t]]
   (λv H=>v= .tuple #[]/\∃t':Nat,t'<=t+1/\H= [SH z (M.look p),ag lb 3 [Dm Dl (l+1:Nat)],ag tb 3 [Dm Dl t']]):=by
 have dead:=u9 z M p hp;have bw:=jO z M p hp;refine U1 func76 rfl ntmps76 rfl ?_;intro F _;refine aw ?_;refine Lp (oB λb1=> ?_);refine bd ?_;refine Li Mf ?_;refine Lp (oDv ?_);refine aw ?_;refine Hh (H':= [SH z M,ag b1 140 [Dk lb],ag lb 3 [Dm Dl l],ag tb 3 [Dm Dl t]]) ?_;refine cB λB O=> ?_;unfold dS ik pE;simp only[oU,cap];refine bn ?_;refine Ee (z:=z) (B:=B) (M:=M) (H:= [ag b1 140 [Dk lb],ag lb 3 [Dm Dl l],ag tb 3 [Dm Dl t]]) O ?_;refine aw ?_;refine Lp (ZW (Aa (n:=48)) rfl rfl rfl dead (.cons .here .nil) (λ_ le _=>trivial) λv H' hr=> ?_);obtain⟨rfl,rfl⟩:=hr;simp only[oU,cap];refine aw ?_;refine az rfl ?_ ?_
 ·intro pf
  replace pf:=aO pf;have hlk:M.look p=M.bw p:=by unfold Mo.look;rw[if_pos (by simpa using pf)]
  refine cB λB O=> ?_;unfold dS ik pE;simp only[oU,cap];refine bn ?_;refine Ee (z:=z) (B:=B) (M:=M) (H:= [ag b1 140 [Dk lb],ag lb 3 [Dm Dl l],ag tb 3 [Dm Dl t]]) O ?_;refine aw ?_;refine Lp (ZW (Aa (n:=85)) rfl rfl rfl bw (.cons .here .nil) (λ_ le _=>trivial) λv H' hr=> ?_);obtain⟨rfl,rfl⟩:=hr;simp only[oU,cap];refine cV ?_;refine aD ?_;refine ahZ [SH z (M.look p),ag lb 3 [Dm Dl (l+1:Nat)],ag tb 3 [Dm Dl (t+1:Nat)]] results76 (EY b1 lb l hl) (.cons (.there .here) (.cons (.there .here) .nil)) Di ?_;rintro v H' ⟨rfl,rfl⟩;refine⟨⟨rfl,t+1,aam _,rfl⟩, ?_⟩;rw[hlk];exact Eh
 intro pf;replace pf:=aO pf;have hlk:M.look p=M:=by unfold Mo.look;rw[if_neg (by simpa using pf)]
 refine aw ?_;refine ahZ [SH z (M.look p),ag lb 3 [Dm Dl (l+1:Nat)],ag tb 3 [Dm Dl t]] results76 (EY b1 lb l hl) (.cons (.there .here) (.cons (.there .here) .nil)) Di ?_;rintro v H' ⟨rfl,rfl⟩;refine⟨⟨rfl,t,by omega,rfl⟩, ?_⟩;rw[hlk];exact Eh
theorem QE{n:Nat}{ds:Dq}{F:dG}{K:F9}{σ:aP}{z:Ly}{M:Mo}{H:F8}(h:∀B,bH B M->G n ds F K σ (SH z M::H)):G n ds F K σ (SH z M::H):=
 cB λB O=>Ee O (h B O)
theorem OR{B:Bx}{M:Mo}(O:bH B M){p q:Nat}(hp:M.has p)(hq:M.has q)(ne:q≠p):(M.bw p).has q/\(M.bw p).C.hd q=M.C.hd q:=by
 obtain⟨i,hi⟩:=hq;refine⟨⟨i, ?_⟩, ?_⟩
 ·show q∈ql (iH M.Q p) i
  rw[js];exact(ajE ne).2 hi
 have h:=((jz O.k (O.sH ((O.al p).2 hp))).lv q ne (O.sH ((O.al q).2 ⟨i,hi⟩))).2.1;rw[O.hd]at h;rw[<-h];show(M.C.aL p).hd q=(B.C.aL p).hd q;rw[O.c];rfl
theorem MI{B:Bx}{M:Mo}(O:bH B M){p q:Nat}(hp:M.has p)(hq:M.has q)(ne:q≠p):(M.look p).has q/\(M.look p).C.hd q=M.C.hd q:=by
 unfold Mo.look;split
 ·exact OR O hp hq ne
 exact⟨hq,rfl⟩
def Mo.bY:Nat->Mo->Nat×Mo
 |0,M=>(0,M)
 |f+1,M=>match M.x.find M.fG M.Q with
  |(true,x)=>(match x.nx with
   |some p=>(((({M with x:=x.pass M.Q}:Mo).look p).bY f).1+1,((({M with x:=x.pass M.Q}:Mo).look p).bY f).2)
   |none=>(0,{M with x:=x}))
  |(false,x)=>(0,{M with x:=x})
theorem qU{M:Mo}{f:Nat}{x:Cw}(h:M.x.find M.fG M.Q=(false,x)):M.bY (f+1)=(0,{M with x:=x}):=by
 unfold Mo.bY;rw[h]
theorem qT{M:Mo}{f p:Nat}{x:Cw}(h:M.x.find M.fG M.Q=(true,x))(hp:x.nx=some p):M.bY (f+1)=(((({M with x:=x.pass M.Q}:Mo).look p).bY f).1+1,((({M with x:=x.pass M.Q}:Mo).look p).bY f).2):=by
 conv=>lhs;unfold Mo.bY
 rw[h];dsimp only;rw[hp]
noncomputable def Mo.oc (M:Mo)(now m:Int):Nat×Mo:=((M.iI now m).length+(((M.iI now m).foldl Mo.look M).bY (m.toNat-(M.iI now m).length)).1,(((M.iI now m).foldl Mo.look M).bY (m.toNat-(M.iI now m).length)).2)
noncomputable def Mo.cb (M:Mo)(now most:Int):Nat×Mo:=if min most 1048576<1 then(0,M)else M.oc now (min most 1048576)
theorem VL (M:Mo)(now m:Int):(M.iI now m).length<=m.toNat:=by
 unfold Mo.iI nY;rw[abI,abI,List.length_take];omega
theorem ad5 (l:FH)(k:Nat)(h:k<l.length):(Dw l)[k]?=some (Dm Dj (l[k])):=by
 unfold Dw;rw[abD,aac h];rfl
theorem Ze (l:FH):(Dw l).length=l.length:=abI _
theorem Fz (wN:pT)(z:Ly)(M:Mo)(now most:Int):
  aG aaa 37 [Dk z.y.cr,Dm Dl now,Dm Dl most] uT [SH z M]
   (λv H=>∃n t M',M.cb now most=(n,M')/\v= .tuple #[Dm Dl n,Dm Dl t]/\H= [SH z M']):=by
 have due:=TP wN z M now (min most 1048576);have PT:=VL M now (min most 1048576);have wz:M.cb now most=if min most 1048576<1 then(0,M)else M.oc now (min most 1048576):=rfl
 have hmle:min most 1048576<=1048576:=akH _ _;refine af func37 rfl ntmps37 rfl ?_;intro F _;refine aw ?_;refine Lp (oA ab2 λb1=> ?_);refine Lp (oA ab2 λb2=> ?_);refine bq ?_;refine Li Mi ?_;refine bd ?_;refine av ?_;refine aA (t:=2) (v':=(Dm Dl (min most 1048576))) rfl (by rfl) ?_;generalize min most 1048576=m at*;refine bc ?_;by_cases h1:m<1
 ·refine fe ?_ (e:=by exact decide_eq_true h1)
  refine bs ?_;refine acw [SH z M] bj bj results37 ?_;exact⟨0,0,M,by rw[wz,if_pos h1],rfl,rfl⟩
 rw[if_neg h1]at wz;refine cN ?_ (e:=by exact decide_eq_false h1);refine bd ?_;refine av ?_;refine Hh (H':= [SH z M,ag b1 3 [Dm Dl 0],ag b2 3 [Dm Dl 0]]) ?_;refine cB λB O=> ?_;unfold dS ik pE;simp only[oU,cap];refine bn ?_;refine Ee (z:=z) (B:=B) (M:=M) (H:= [ag b1 3 [Dm Dl 0],ag b2 3 [Dm Dl 0]]) O ?_;refine bd ?_;refine Lp (oC Aa rfl rfl (due) (.cons .here .nil) Di ?_);rintro v H' ⟨sa,sc,rfl,hhas,zE,rfl⟩;refine bR ?_;unfold Mo.oc at wz;generalize M.iI now m=D at*;have wP:(Dw (D.map M.C.hd)).length=D.length:=by rw[Ze,abI]
 have Xh:m.toNat<=1048576:=by omega
 refine bc ?_;refine Lo (ι:=Nat×Nat) (FN [9,1,22,8]) (λs=>(s.1<=D.length/\s.2<=s.1)/\∀q∈D.drop s.1,((D.take s.1).foldl Mo.look M).has q/\((D.take s.1).foldl Mo.look M).C.hd q=M.C.hd q) (λs=> [(22,Dm Dl s.1)]) (λs=> [SH z ((D.take s.1).foldl Mo.look M),own sa sc 104 1 (Dw (D.map M.C.hd)),ag b1 3 [Dm Dl s.1],ag b2 3 [Dm Dl s.2]]) (λs=>D.length-s.1) ((0,0)) ⟨⟨abL _,aam _⟩,λq hq=>⟨hhas q hq,rfl⟩⟩ ?_;rintro⟨k,t⟩ hI
 try dsimp only at hI⊢
 obtain⟨⟨hk,Dv⟩,Qy⟩:=hI;by_cases cJ:k<D.length
 ·have xA:(Dw (D.map M.C.hd))[k]?=some (Dm Dj (M.C.hd D[k])):=by rw[ad5 _ _ (by rw[abI];exact cJ),List.getElem_map]
  have hdr:D.drop k=D[k]::D.drop (k+1):=List.drop_eq_getElem_cons cJ;rw[hdr]at Qy;obtain⟨ux,dD⟩:=Qy _ aag;have aaO:(D.take (k+1)).foldl Mo.look M=((D.take k).foldl Mo.look M).look D[k]:=by
   rw[List.take_add_one,aac cJ,List.foldl_append];rfl
  have hnd2:∀q∈D.drop (k+1),q≠D[k]:=λq hq e=>by
   have:=zE.sublist (List.drop_sublist k D);rw[hdr,abB]at this;exact this.1 (e▸hq)
  have lk:=λlb tb=>J9 z ((D.take k).foldl Mo.look M) D[k] ux lb tb k t (by omega) (by omega);rw[dD]at lk;refine QE λB2 O2=> ?_;refine mE (iK (.there .here) (λ_ o=>np o (by omega))) λPu=> ?_;refine bq ?_;refine av ?_;refine fe ?_;refine bn ?_;refine Li (Ix Q4) ?_;refine bs ?_;refine Lp (oC Aa rfl rfl (lk _ _) (.cons .here (.cons (.there .here) (.cons (.there .here) .nil))) Di ?_);rintro v H' ⟨rfl,t2,oV,rfl⟩;refine bR ?_;refine Hh (H':= [SH z (((D.take k).foldl Mo.look M).look D[k]),own sa sc 104 1 (Dw (D.map M.C.hd)),ag b1 3 [Dm Dl (k+1:Nat)],ag b2 3 [Dm Dl t2]]) ?_;refine bs ?_;refine aD ?_;rw[<-aaO];refine Ro ((k+1,t2)) (⟨⟨cJ,(by dsimp only;omega)⟩,λq hq=>(by have ne:=hnd2 q hq;obtain⟨g1,g2⟩:=Qy q (aai _ hq);obtain⟨g3,g4⟩:=MI O2 ux g1 ne;rw[aaO];exact⟨g3,g4.trans g2⟩)⟩) ((by dsimp only;omega))
 obtain rfl:k=D.length:=by omega
 rw[List.take_length];refine bq ?_;refine av ?_;refine cN ?_;refine bK ?_;generalize hN0:D.foldl Mo.look M=N0 at*;refine Lo (ι:=Mo×Nat×Nat) (FN [30,11]) (λs=>(D.length<=s.2.1/\s.2.1<=m.toNat/\s.2.2<=s.2.1)/\N0.bY (m.toNat-D.length)=(s.2.1-D.length+(s.1.bY (m.toNat-s.2.1)).1,(s.1.bY (m.toNat-s.2.1)).2)) (λs=> []) (λs=> [SH z s.1,ag b1 3 [Dm Dl s.2.1],ag b2 3 [Dm Dl s.2.2]]) (λs=>m.toNat-s.2.1) ((N0,D.length,t)) ⟨⟨aam _,PT,Dv⟩,(by dsimp only;rw[Nat.sub_self,abH])⟩ ?_;rintro⟨N,l,t⟩ hI
 try dsimp only at hI⊢
 obtain⟨⟨i1,i2,i3⟩,i4⟩:=hI;refine bs ?_;by_cases hlm:(l:Int)<m
 ·obtain⟨f,hf⟩:∃f,m.toNat-l=f+1:=⟨m.toNat-l-1,by omega⟩
  rw[hf]at i4;refine zt 33 ?_ (e:=by exact decide_eq_true hlm);refine aw ?_;refine Lp (oC Aa rfl rfl (Mk z N) (.cons .here .nil) Di ?_);rintro v H' ⟨r,x,rfl,aaP,rfl,hr⟩;refine bR ?_;rcases r with _|_
  ·refine Li Pt ?_
   refine fX ?_;refine acw [SH z {N with x:=x}] bj bj results37 ?_;refine⟨l,t,{N with x:=x}, ?_,rfl,rfl⟩;rw[wz,i4,qU aaP];exact Prod.ext (by dsimp only;omega) rfl
  obtain⟨p,hpx,hph⟩:=hr rfl;rw[qT aaP hpx]at i4;dsimp only at i4;refine cA ?_;refine zl Aa (Mj z {N with x:=x} p hpx) (.cons .here .nil) Di ?_;have lk:=λlb tb=>J9 z {N with x:=x.pass N.Q} p hph lb tb l t (by omega) (by omega);refine Lp (oC Aa rfl rfl (lk _ _) (.cons .here (.cons .here (.cons .here .nil))) Di ?_);rintro v H' ⟨rfl,t2,oV,rfl⟩;refine bR ?_;refine bd ?_;refine Ro ((({N with x:=x.pass N.Q}:Mo).look p,l+1,t2)) (⟨⟨(by dsimp only;omega),(by dsimp only;omega),(by dsimp only;omega)⟩,(by dsimp only;rw[i4,show m.toNat-(l+1)=f by omega];exact Prod.ext (by dsimp only;omega) rfl)⟩) ((by dsimp only;omega))
 have ahG:m.toNat-l=0:=by omega
 rw[ahG]at i4;refine zf 33 ?_ (e:=by exact decide_eq_false hlm);refine rh ?_;refine acw [SH z N] bj bj results37 ?_;refine⟨l,t,N, ?_,rfl,rfl⟩;rw[wz,i4];exact Prod.ext (by show D.length+(l-D.length+0)=l;omega) rfl
theorem bH.cls{B:Bx}{M:Mo}(O:bH B M){D N:Cs}{ho':FK}{m':gp}(K2:Ok D)(hN:D=N.wA B.C.A)(S:vF B.C D (λq=>q∈B.W.all))(O9:D.cfg=B.C.cfg)(lv:∀q,Live D q↔q∈B.W.all\/ho'=some q)(hoo:∀q,ho'=some q->q∉B.W.all)
  (un:m'.un.length=D.ae.length) (on:m'.on=true->m'.pg<D.n/\(D.pg m'.pg).own=true/\(D.pg m'.pg).lv=true/\(D.pg m'.pg).cl=m'.fr) (go:∀i,(D.pg i).lv=true->m'.on=true/\i=m'.pg):
  bH ⟨D,B.W,B.ty,B.E⟩ {M with C:=N,hole:=ho',m:=m'}:=by
 have hA:D.A=B.C.A:=S.a;have hs:D.ae.length=B.C.ae.length:=by rw[S.sz]
 refine⟨?_,K2,S.tb O.t λp h=>h,O.ty,S.qu O.o λi p h=>O.nR h,by show db D.ae.length _ _;rw[hs];exact O.x,λi p h=>by show dB D.A p<16;rw[hA];exact O.mq i p h,O.ck,O.al,lv,hoo,λp h=>by show mj D.A p=_;rw[hA];exact O.it p h, ?_,O.st,O.nb,O.mg,O.mo,O.bt,un,on,go,O.wn,by show M.v.c=D.cfg;rw[O9];exact O.cf,O.n,O.lg⟩
 ·show D=N.wA D.A
  rw[hA];exact hN
 exact O.e.trans (abA.of_eq (fO λq h=>⟨rfl,rfl,(S.lv q h (O.sH h)).2.1⟩).symm)
theorem bH.Gm{B:Bx}{M:Mo}(O:bH B M){r:Nat}(hr:M.hole=some r){A:By}(d:cZ B.C B.C.A A (λq _=>q=r)):bH ⟨B.C.wA A,B.W,B.ty,B.E⟩ M:=by
 have K:=O.k;have ne:∀q∈B.W.all,q≠r:=λq h e=>O.ho r hr (e▸h);have r_:=λ(q:Nat) (hq:q∈B.W.all) (o w:Nat) (h2:o+w<=B.C.sz (B.C.cl q))=>kX K d (O.mL hq) h2 (λj _ _ s=>ne q hq s);have n1:∀q∈B.W.all,64<=B.C.sz (B.C.cl q):=λq hq=>((O.mL hq).ba K).2.1;have it_:∀q∈B.W.all,mj A q=mj B.C.A q:=λq hq=>vJ K d (O.mL hq) (O.t.it q hq) (λj s=>absurd s (ne q hq));have kp:∀q∈B.W.all,Kept B.C A q:=λq hq=>sf K d (O.mL hq) (O.t.it q hq) (λj s=>absurd s (ne q hq));refine⟨?_,K.wA A,ahk K O.t kp (λq hq=>r_ q hq 0 4 (by have:=n1 q hq;omega)),O.ty, ?_,O.x, ?_,O.ck,O.al,λq=> ?_,O.ho,λq hq=>(it_ q hq).trans (O.it q hq),O.e,O.st,O.nb,O.mg,O.mo,O.bt,O.un,O.on,O.go,O.wn,O.cf,O.n,O.lg⟩
 ·show B.C.wA A=M.C.wA A
  conv=>lhs;rw[O.c]
  rfl
 ·exact ahm O.o (λi q hq=>kp q (O.nR hq)) (λi q hq=>r_ q (O.nR hq) 45 1 (by have:=n1 q (O.nR hq);omega)) (λi q hq=>r_ q (O.nR hq) (4*1) 4 (by have:=n1 q (O.nR hq);omega)) (λi q hq=>r_ q (O.nR hq) (4*2) 4 (by have:=n1 q (O.nR hq);omega))
 ·intro i q hq
  show dB A q<16;rw[show dB A q=dB B.C.A q from congrArg I3.eP (it_ q (O.nR hq))];exact O.mq i q hq
 refine Iff.trans ?_ (O.lv q);exact⟨λh=>⟨⟨h.i,h.own,h.al,h.k⟩,h.tk⟩,λh=>h.wA A⟩
structure Tkn (C:Cs)(c p:Nat)(D:Cs):Prop where
 k:Ok D
 no:¬Live C p
 lv:∀q,Live D q↔Live C q\/q=p
 hd:∀q,Live C q->D.hd q=C.hd q/\D.cl q=C.cl q
 cl:D.cl p=c
 sz:D.ae=C.ae
 n:D.n=C.n
 ps:D.ao=C.ao
 cf:D.cfg=C.cfg
 lf:∀i,(D.pg i).lv=(C.pg i).lv
 pg:∀i,(C.pg i).own=true->(D.pg i).own=true/\(D.pg i).cl=(C.pg i).cl
 dA:cZ D C.A D.A (λq _=>q=p)
 nA:∀A,∃A',(C.wA A).ca c=some (p,D.wA A')
theorem Tz{C:Cs}(K:Ok C){c p:Nat}(h:(C.rw c).free.getLast?=some p)(j:Nat):(C.fR c p).pg j=if j=C.pn p then{C.pg (C.pn p)with tk:=(C.pg (C.pn p)).tk.set (C.ix p) true,held:=(C.pg (C.pn p)).held+1}else C.pg j:=by
 obtain⟨_,_,F⟩:=tK K h;exact kO (by rw[K.pl];exact F.i) j
theorem aas{C:Cs}(K:Ok C){c p:Nat}(h:(C.rw c).free.getLast?=some p):Tkn C c p (C.fR c p):=by
 obtain⟨K2,S,F⟩:=tK K h;have iF:=Tz K h;have e1:∀q,C.pn q=C.pn p->(C.fR c p).pg (C.pn q)={C.pg (C.pn p)with tk:=(C.pg (C.pn p)).tk.set (C.ix p) true,held:=(C.pg (C.pn p)).held+1}:=λq e=>by rw[iF,if_pos e]
 have e2:∀q,C.pn q≠C.pn p->(C.fR c p).pg (C.pn q)=C.pg (C.pn q):=λq e=>by rw[iF,if_neg e]
 have mc:¬Live C p:=λL=>by
  have a:=F.tk;have b:=L.tk;rw[a]at b;cases b
 have cJ:=(aad.1 F.tk).1;have f1:=K.toFix.p1;refine⟨K2,mc,λq=> ?_,λq L=> ?_,by rw[S.cl];exact F.cl,S.ae,S.n,S.ao,rfl,λi=> ?_,λi ho=> ?_, ?_,λA=> ?_⟩
 ·constructor
  ·intro L
   have a:=S.at.1 L.toAt;have t:=L.tk;rw[S.pn,S.ix]at t;by_cases e:C.pn q=C.pn p
   ·by_cases g:q=p
    ·exact .inr g
    rw[e1 q e]at t;change((C.pg (C.pn p)).tk.set (C.ix p) true)[C.ix q]?=some true at t;rw[abX (λz=>xV K F.toAt a e g z.symm),<-e]at t;exact .inl ⟨a,t⟩
   rw[e2 q e]at t;exact .inl ⟨a,t⟩
  rintro(L|rfl)
  ·refine⟨S.at.2 L.toAt, ?_⟩
   rw[S.pn,S.ix];by_cases e:C.pn q=C.pn p
   ·have g:q≠p:=λg=>mc (g▸L)
    rw[e1 q e];show((C.pg (C.pn p)).tk.set (C.ix p) true)[C.ix q]?=some true;rw[abX (λz=>xV K F.toAt L.toAt e g z.symm),<-e];exact L.tk
   rw[e2 q e];exact L.tk
  refine⟨S.at.2 F.toAt, ?_⟩;rw[S.pn,S.ix,e1 q rfl];show((C.pg (C.pn q)).tk.set (C.ix q) true)[C.ix q]?=some true;rw[List.getElem?_set_self cJ]
 ·refine⟨?_,S.cl q⟩
  unfold Cs.hd Cs.gen;rw[S.pn,S.ix];by_cases e:C.pn q=C.pn p
  ·rw[e1 q e,e]
  rw[e2 q e]
 ·rw[iF]
  by_cases e:i=C.pn p
  ·rw[if_pos e,e]
  rw[if_neg e]
 ·rw[iF]
  by_cases e:i=C.pn p
  ·rw[if_pos e,e];rw[e]at ho;exact⟨ho,rfl⟩
  rw[if_neg e];exact⟨ho,rfl⟩
 ·intro i hi
  have hr:p<=i/\i<p+56:=by
   refine abz λg=>hi ?_;show wr (lay C.A p (aae 56 0)) (p+12) 4 (C.gen p) i=C.A i;unfold wr;rw[gy _ _ _ _ (by rw[mH];omega),gy _ _ _ _ (by rw[List.length_replicate];omega)]
  have:=((S.at.2 F.toAt).ba K2).2.1;exact⟨p,i-p,S.at.2 F.toAt,by omega,rfl,by omega⟩
 refine⟨((C.wA A).fR c p).A, ?_⟩;have:(C.wA A).ca c=some (p,(C.wA A).fR c p):=by
  unfold Cs.ca;rw[show((C.wA A).rw c).free.getLast?=some p from h]
 rw[this];rfl
theorem Tf{C:Cs}(K:Ok C){i c:Nat}(hi:i<C.n)(j:Nat):(C.bE i c).pg j=if j=i then C.fK i c else C.pg j:=kO (by rw[K.pl];exact hi) j
theorem aim{C:Cs}(K:Ok C){i c p:Nat}(hi:i<C.n)(gS:c<C.ae.length)(ho:(C.pg i).own=false)(hf:C.gr=some i)(he:(C.rw c).free.getLast?=none)(h:((C.bE i c).rw c).free.getLast?=some p):Tkn C c p ((C.bE i c).fR c p):=by
 have KW:=Az K hi gS ho;have iF:=Tf K (c:=c) hi;have X:=aas KW h;have P:kN C (C.pg i):=K.pg _ (dh (by rw[K.pl];exact hi));have jC:(C.pg i).lv=false:=(P.no ho).2.1;have zS:∀q,At C q->C.pn q≠i:=λq L e=>by
  have:=L.own;rw[e,ho]at this;cases this
 have same:∀q,C.pn q≠i->(C.bE i c).pg ((C.bE i c).pn q)=C.pg (C.pn q):=λq e=>by
  rw[show(C.bE i c).pn q=C.pn q from rfl,iF,if_neg e]
 have I0:∀q,C.pn q≠i->(C.bE i c).cl q=C.cl q:=λq e=>by unfold Cs.cl;rw[same q e]
 have Gg:∀q,C.pn q≠i->(C.bE i c).ix q=C.ix q:=λq e=>by unfold Cs.ix;rw[I0 q e];rfl
 have wl:∀q,Live (C.bE i c) q↔Live C q:=λq=>by
  constructor
  ·intro L
   have e:C.pn q≠i:=λe=>by
    have t:=L.tk;rw[show(C.bE i c).pn q=C.pn q from rfl,iF,if_pos e]at t;change(aae (C.ao/C.sz c) false)[(C.bE i c).ix q]?=some true at t;obtain⟨hh,t2⟩:=aad.1 t;rw[List.getElem_replicate]at t2;cases t2
   refine⟨⟨L.i,by have:=L.own;rw[same q e]at this;exact this,by have:=L.al;rw[I0 q e]at this;exact this,by have:=L.k;rw[same q e,Gg q e]at this;exact this⟩,by have:=L.tk;rw[same q e,Gg q e]at this;exact this⟩
  intro L;have e:=zS q L.toAt;exact⟨⟨L.i,by rw[same q e];exact L.own,by rw[I0 q e];exact L.al,by rw[same q e,Gg q e];exact L.k⟩,by rw[same q e,Gg q e];exact L.tk⟩
 refine⟨X.k,λL=>X.no ((wl p).2 L),λq=>by rw[X.lv,wl],λq L=> ?_,X.cl,X.sz,X.n,X.ps,X.cf,λj=> ?_,λj hj=> ?_,X.dA,λA=> ?_⟩
 ·have e:=zS q L.toAt
  obtain⟨a,b⟩:=X.hd q ((wl q).2 L);rw[a,b,I0 q e];refine⟨?_,rfl⟩;unfold Cs.hd Cs.gen;rw[same q e,Gg q e]
 ·rw[X.lf,iF]
  by_cases e:j=i
  ·rw[if_pos e,e];rfl
  rw[if_neg e]
 ·have e:j≠i:=λe=>by rw[e,ho]at hj;cases hj
  obtain⟨a,b⟩:=X.pg j (by rw[iF,if_neg e];exact hj);rw[a,b,iF,if_neg e];exact⟨rfl,rfl⟩
 refine⟨(((C.wA A).bE i c).fR c p).A, ?_⟩;have:(C.wA A).ca c=some (p,((C.wA A).bE i c).fR c p):=by
  unfold Cs.ca;rw[show((C.wA A).rw c).free.getLast?=none from he];dsimp only;rw[show(C.wA A).gr=some i from hf];dsimp only;rw[show(((C.wA A).bE i c).rw c).free.getLast?=some p from h]
 rw[this];rfl
theorem wg{C:Cs}{i:Nat}(K:Ok C)(h:C.gr=some i):i<C.n/\(C.pg i).own=false:=by
 unfold Cs.gr at h;rw[abK]at h;obtain⟨h1,h2,_⟩:=h;refine⟨by rw[<-K.pl];exact h1, ?_⟩;have e:C.pg i=C.bm[i]:=by unfold Cs.pg;rw[aab,aac h1];rfl
 rw[e];simpa using h2
theorem nz{C:Cs}(K:Ok C){c p:Nat}{D:Cs}(gS:c<C.ae.length)(h:C.ca c=some (p,D)):Tkn C c p D:=by
 unfold Cs.ca at h;cases hf:(C.rw c).free.getLast? with
 |some q=>
  rw[hf]at h;cases h;exact aas K hf
 |none=>
  rw[hf]at h;dsimp only at h;cases hp:C.gr with
  |none=>rw[hp]at h;cases h
  |some i=>
   rw[hp]at h;dsimp only at h;obtain⟨h1,h2⟩:=wg K hp;cases hg:((C.bE i c).rw c).free.getLast? with
   |none=>rw[hg]at h;cases h
   |some q=>
    rw[hg]at h;cases h;exact aim K h1 gS h2 hp hf hg
theorem TA{C:Cs}(A:By){c:Nat}(h:C.ca c=none):(C.wA A).ca c=none:=by
 unfold Cs.ca at*;rw[show((C.wA A).rw c).free.getLast?=(C.rw c).free.getLast? from rfl];cases hf:(C.rw c).free.getLast? with
 |some q=>rw[hf]at h;cases h
 |none=>
  rw[hf]at h
  try dsimp only at h⊢
  rw[show(C.wA A).gr=C.gr from rfl];cases hp:C.gr with
  |none=>rfl
  |some i=>
   rw[hp]at h
   try dsimp only at h⊢
   rw[show(((C.wA A).bE i c).rw c).free.getLast?=((C.bE i c).rw c).free.getLast? from rfl];cases hg:((C.bE i c).rw c).free.getLast? with
   |none=>rfl
   |some q=>rw[hg]at h;cases h
def Mo.take (M:Mo)(c:Nat):Option (Nat×Mo):=match M.C.ca c with
 |some (p,D)=>some (p,{M with C:=D,hole:=some p})
 |none=>none
theorem bH.take{B:Bx}{M:Mo}(O:bH B M)(hh:M.hole=none){c p:Nat}{D:Cs}(gS:c<B.C.ae.length)(h:B.C.ca c=some (p,D)):∃N,M.take c=some (p,N)/\N.C.hd p=D.hd p/\N.hole=some p/\N={M with C:=N.C,hole:=some p}/\bH ⟨D,B.W,B.ty,B.E⟩ N/\Tkn B.C c p D:=by
 have X:=nz O.k gS h;have hM:∃A',M.C.ca c=some (p,D.wA A'):=by
  obtain⟨A',e⟩:=X.nA M.C.A;rw[O.c]at e;exact⟨A',e⟩
 obtain⟨A',hM⟩:=hM;refine⟨{M with C:=D.wA A',hole:=some p},by unfold Mo.take;rw[hM],rfl,rfl,rfl, ?_,X⟩;have PO:∀q∈B.W.all,q≠p:=λq hq e=>X.no (e▸O.sH hq);have K0:Ok (D.wA B.C.A):=X.k.wA _;have h0:∀q,Live (D.wA B.C.A) q↔Live D q:=λq=>⟨λh=>⟨⟨h.i,h.own,h.al,h.k⟩,h.tk⟩,λh=>h.wA _⟩;have S:vF B.C (D.wA B.C.A) (λq=>q∈B.W.all):=⟨rfl,X.sz,λq _ L=>⟨(h0 q).2 ((X.lv q).2 (.inl L)),(X.hd q L).1,(X.hd q L).2⟩⟩;have O1:=O.cls (D:=D.wA B.C.A) (N:=D.wA A') (ho':=some p) (m':=M.m) K0 rfl S X.cf (λq=>by
   rw[h0,X.lv,O.lv,hh];constructor
   ·rintro((h|h)|h)
    ·exact .inl h
    ·cases h
    exact .inr (by rw[h])
   rintro(h|h)
   ·exact .inl (.inl h)
   exact .inr (Option.some.inj h).symm) (λq e hq=>PO q hq (Option.some.inj e).symm) (by rw[show(D.wA B.C.A).ae=B.C.ae from X.sz];exact O.un)
  (λe=>by
   obtain⟨a,b,c,d⟩:=O.on e;obtain⟨e1,e2⟩:=X.pg _ b;exact⟨by rw[show(D.wA B.C.A).n=B.C.n from X.n];exact a,e1,(X.lf _).trans c,e2.trans d⟩) (λi e=>O.go i ((X.lf i).symm.trans e))
 have O2:=O1.Gm (r:=p) rfl (A:=D.A) (λi hi=>by
  obtain⟨q,o,q1,q2,q3,q4⟩:=X.dA i hi;exact⟨q,o,q1.wA _,q2,q3,q4⟩)
 exact O2
theorem bH.pO{B:Bx}{M:Mo}(O:bH B M){r:Nat}(hr:M.hole=some r):bH ⟨B.C.aL r,B.W,B.ty,B.E⟩ {M with C:=M.C.aL r,hole:=none}:=by
 have K:=O.k;have L:Live B.C r:=(O.lv r).2 (.inr hr);have ne:∀q∈B.W.all,q≠r:=λq h e=>O.ho r hr (e▸h);have G:=jz K L;have S:vF B.C (B.C.aL r) (λq=>q∈B.W.all):=⟨G.a,G.sz,λq h=>G.lv q (ne q h)⟩;refine O.cls (m':=M.m) (gR K L).1 (by(conv=>lhs;rw[O.c]);rfl) S rfl (λq=> ?_) (λq e=>by cases e) (by rw[G.sz];exact O.un) (λe=> ?_) (λi e=> ?_)
 ·rw[nH K L,O.lv,hr]
  constructor
  ·rintro⟨h|h,g⟩
   ·exact .inl h
   exact absurd (Option.some.inj h).symm g
  rintro(h|h)
  ·exact⟨.inl h,ne q h⟩
  cases h
 ·obtain⟨e1,e2,e3⟩:=oy K L M.m.pg
  rw[e1,e2,e3];exact O.on e
 rw[(oy K L i).2.1]at e;exact O.go i e
theorem ou (A:By)(p c:Nat)(k v:FI)(fl exp tch tok st mk o w:Nat)(h:o+w<=48)(hk:k.length<256):rd (lB A p c k v fl exp tch tok st mk) (p+o) w=rd (I9 A p c k.length fl exp tch tok st mk) (p+o) w:=by
 unfold lB eZ;rw[eX,eX,aM,eX]<;>omega
theorem C0 (A:By)(p c:Nat)(k v:FI)(fl exp tch tok st mk:Nat)(hk:k.length<256):kl (lB A p c k v fl exp tch tok st mk) p=k.length:=by
 unfold kl;rw[ou _ _ _ _ _ _ _ _ _ _ _ _ _ (by omega) hk];unfold I9;rw[aM,aM,aM,aM,dz]<;>omega
theorem Ki (A:By)(p c:Nat)(k v:FI)(fl exp tch tok st mk:Nat)(hk:k.length<256)(h:exp<256^8):uD (lB A p c k v fl exp tch tok st mk) p=exp:=by
 unfold uD;rw[ou _ _ _ _ _ _ _ _ _ _ _ _ _ (by omega) hk];unfold I9;rw[aM,aM,aM,aM,aM,aM,aM,aM,dz,abZ h]<;>omega
theorem E5 (A:By)(p c:Nat)(k v:FI)(fl exp tch tok st mk:Nat)(hk:k.length<256)(h:tch<256^8):lA (lB A p c k v fl exp tch tok st mk) p=tch:=by
 unfold lA;rw[ou _ _ _ _ _ _ _ _ _ _ _ _ _ (by omega) hk];unfold I9;rw[aM,aM,aM,aM,aM,aM,aM,dz,abZ h]<;>omega
theorem E4 (A:By)(p c:Nat)(k v:FI)(fl exp tch tok st mk:Nat)(hk:k.length<256)(h:tok<256^8):rO (lB A p c k v fl exp tch tok st mk) p=tok:=by
 unfold rO;rw[ou _ _ _ _ _ _ _ _ _ _ _ _ _ (by omega) hk];unfold I9;rw[aM,aM,aM,aM,aM,aM,dz,abZ h]<;>omega
theorem Kh (A:By)(p c:Nat)(k v:FI)(fl exp tch tok st mk:Nat)(hk:k.length<256)(h:fl<256^4):PV (lB A p c k v fl exp tch tok st mk) p=fl:=by
 unfold PV;rw[ou _ _ _ _ _ _ _ _ _ _ _ _ _ (by omega) hk];unfold I9;rw[aM,aM,aM,aM,aM,dz,abZ h]<;>omega
theorem Ke (A:By)(p c:Nat)(k v:FI)(fl exp tch tok st mk:Nat)(hk:k.length<256)(h:st<256^1):gz (lB A p c k v fl exp tch tok st mk) p=st:=by
 unfold gz;rw[ou _ _ _ _ _ _ _ _ _ _ _ _ _ (by omega) hk];unfold I9;rw[aM,aM,aM,dz,abZ h]<;>omega
theorem Kg (A:By)(p c:Nat)(k v:FI)(fl exp tch tok st mk:Nat)(hk:k.length<256)(h:mk<256^1):dB (lB A p c k v fl exp tch tok st mk) p=mk:=by
 unfold dB;rw[ou _ _ _ _ _ _ _ _ _ _ _ _ _ (by omega) hk];unfold I9;rw[aM,aM,dz,abZ h]<;>omega
theorem C1 (A:By)(p c:Nat)(k v:FI)(fl exp tch tok st mk:Nat)(hk:k.length<256)(hv:v.length<256^4):vl (lB A p c k v fl exp tch tok st mk) p=v.length/\aH (lB A p c k v fl exp tch tok st mk) p=k/\j8 (lB A p c k v fl exp tch tok st mk) p=v:=by
 have e1:=C0 A p c k v fl exp tch tok st mk hk;have e0:=Hd A p c k.length fl exp tch tok st mk k hk;have e2:vl (lB A p c k v fl exp tch tok st mk) p=v.length:=by
  unfold vl lB eZ;rw[e0,eX,eX,dz,abZ hv]<;>omega
 refine⟨e2, ?_, ?_⟩
 ·unfold aH
  rw[e1];unfold lB eZ;rw[e0,fW,fW,so,k8]<;>omega
 unfold j8;rw[e1,e2];unfold lB eZ;rw[e0,fW,k8];omega
theorem Rs{C:Cs}{p c:Nat}{k v:FI}{fl exp tch tok st mk:Nat}(L:At C p)(hk:k.length<256)(hf:58+k.length+v.length<=C.sz (C.cl p)):cZ C C.A (lB C.A p c k v fl exp tch tok st mk) (λq _=>q=p):=λi hi=>by
 have hr:p<=i/\i<p+(58+k.length+v.length):=by
  refine abz λg=>hi ?_;have e0:=Hd C.A p c k.length fl exp tch tok st mk k hk;have w:∀(A:By) (o n x:Nat),o+n<=56->wr A (p+o) n x i=A i:=λA o n x h=>by
   unfold wr;exact gy _ _ _ _ (by rw[mH];omega)
  unfold lB eZ;rw[e0,gy,gy,w _ _ _ _ (by omega),gy]
  ·unfold I9
   rw[w _ _ _ _ (by omega),w _ _ _ _ (by omega),w _ _ _ _ (by omega),w _ _ _ _ (by omega),w _ _ _ _ (by omega),w _ _ _ _ (by omega),w _ _ _ _ (by omega),w _ _ _ _ (by omega),w _ _ _ _ (by omega),tU,tU,tU,w _ _ _ _ (by omega),w _ _ _ _ (by omega),w _ _ _ _ (by omega)];rfl
  ·omega
  ·omega
  have:crlf.length=2:=rfl;omega
 exact⟨p,i-p,L,by omega,rfl,by omega⟩
def Bp (p r q:Nat):Nat:=if q=p then r else q
def nT (Q:F7)(p r:Nat):F7:=Q.map λl=>l.map (Bp p r)
theorem lL (Q:F7)(p r i:Nat):ql (nT Q p r) i=(ql Q i).map (Bp p r):=by
 unfold nT ql;rw[aab,aab,abD];cases Q[i]?<;>rfl
theorem GZ{p r:Nat}:∀{l:FH},p∉l->l.map (Bp p r)=l
 | [],_=>rfl
 |a::l,h=>by
  rw[aaj,GZ λg=>h (aai _ g)];unfold Bp;rw[if_neg λe:a=p=>h (e▸aag)]
theorem JJ{p r:Nat}:∀{l:FH} {k:Nat},l.Nodup->l[k]?=some p->l.set k r=l.map (Bp p r)
 |a::l,0,nd,h=>by
  cases h;rw[List.set_cons_zero,aaj,GZ (abB.1 nd).1];unfold Bp;rw[if_pos rfl]
 |a::l,k+1,nd,h=>by
  have hm:p∈l:=aaf h;rw[List.set_cons_succ,aaj,JJ (abB.1 nd).2 h]
  congr 1
  unfold Bp;rw[if_neg λe:a=p=>(abB.1 nd).1 (e▸hm)]
theorem JQ{C:Cs}{Q:F7}(O:iV C Q){i k p r:Nat}(h:(ql Q i)[k]?=some p):Q.set i ((ql Q i).set k r)=nT Q p r:=by
 have hm:=aaf h;have hi:i<Q.length:=by
  refine abz λg=> ?_;unfold ql at h;have e0:Q[i]?=none:=aal (by omega);rw[aab,e0]at h;cases h
 refine agJ λj=> ?_;unfold nT;rw[agy,abD];by_cases e:i=j
 ·subst e
  rw[if_pos rfl,if_pos hi,aac hi];have e2:ql Q i=Q[i]:=by unfold ql;rw[aab,aac hi];rfl
  rw[JJ (O.nd i) h,e2];rfl
 rw[if_neg e];cases hq:Q[j]? with
 |none=>rfl
 |some l=>
  have e2:ql Q j=l:=by unfold ql;rw[aab,hq];rfl
  have:p∉l:=λg=>e (D7 O hm (by rw[e2];exact g));rw[Option.map_some,GZ this]
def Mo.swap (M:Mo)(p r:Nat):Mo:=
 {M with hole:=some p,Q:=nT M.Q p r,it:=λq=>if q=r then M.it p else M.it q,ord:=λq=>if q=r then M.ord p else M.ord q,x:=M.x.cO p r}
theorem bH.swap{B:Bx}{M:Mo}(O:bH B M){p r i k:Nat}(hr:M.hole=some r)(hk:(ql M.Q i)[k]?=some p)(lq:mj B.C.A r=M.it p){A A2:By}{V:Tb}{ty:pq}(hV:ty.ok=none->V.ob= [])(T:HW B.C B.W p r A V)(R:abu (B.C.wA A) p r A2 (M.Q.set i ((ql M.Q i).set k r)))(I:gD B.C r):
  bH ⟨B.C.wA A2,V,ty,pI B.E (B.C.hd p) (B.C.hd r)⟩ (M.swap p r):=by
 have K:=O.k;have hq:=JQ O.o (r:=r) hk;rw[hq]at R;have hpi:=aaf hk;have hp:p∈B.W.all:=O.nR hpi;have sL:r∉B.W.all:=O.ho r hr;have I4:r≠p:=λe=>sL (e▸hp);obtain⟨rest,PI,Wb⟩:=T.pm;have nd1:=abB.1 (PI.nodup_iff.1 O.t.nd);have inr:∀q,q∈rest↔q∈B.W.all/\q≠p:=λq=>by
  rw[PI.mem_iff,abE];exact⟨λh=>⟨.inr h,λe=>nd1.1 (e▸h)⟩,λh=>h.1.resolve_left h.2⟩
 have wx:∀q,q∈V.all↔q=r\/q∈B.W.all/\q≠p:=λq=>by rw[Wb.mem_iff,abE,inr]
 have Lr:Live B.C r:=(O.lv r).2 (.inr hr);have at_:∀q,q=r\/q∈B.W.all->Live B.C q:=λq h=>h.elim (λe=>e▸Lr) O.sH;have io_:∀q,q=r\/q∈B.W.all->gD B.C q:=λq h=>h.elim (λe=>e▸I) (O.t.it q);have d1:cZ B.C B.C.A A (λ_ o=>o<12\/o=45):=(vQ T.df (λq hq=>(at_ q ((abE.1 hq).imp id id)).toAt) (λq hq=>by have:=((at_ q ((abE.1 hq).imp id id)).toAt.ba K).2.1;omega)).mono λq o g=>by omega
 have d2:cZ B.C A A2 (λ_ o=>o<12\/o=45):=R.d.wA.mono λq o g=>by unfold SQ2 at g;omega
 have d:=d1.trans d2;have same:∀q,q=r\/q∈B.W.all->mj A2 q=mj B.C.A q:=λq h=>vJ K d (at_ q h).toAt (io_ q h) λj s=>by omega
 have nit:∀q∈V.all,mj A2 q=(M.swap p r).it q:=λq h=>by
  show _=if q=r then M.it p else M.it q
  rcases(wx q).1 h with e|⟨h1,h2⟩
  ·rw[if_pos e,same q (.inl e),e];exact lq
  rw[if_neg λe:q=r=>sL (e▸h1),same q (.inr h1)];exact O.it q h1
 have jC:∀q,Live (B.C.wA A2) q↔Live B.C q:=λq=>⟨λh=>⟨⟨h.i,h.own,h.al,h.k⟩,h.tk⟩,λh=>h.wA _⟩;have mq_:∀q∈V.all,dB A2 q<16:=λq h=>by
  rw[show dB A2 q=((M.swap p r).it q).eP from congrArg I3.eP (nit q h)];show(if q=r then M.it p else M.it q).eP<16;rcases(wx q).1 h with e|⟨h1,h2⟩
  ·rw[if_pos e];exact(O.wF hp).2
  rw[if_neg λe:q=r=>sL (e▸h1)];exact(O.wF h1).2
 have al_:∀q,q∈V.all↔∃j,q∈ql (nT M.Q p r) j:=λq=>by
  rw[wx];constructor
  ·rintro(e|⟨h1,h2⟩)
   ·refine⟨i, ?_⟩
    rw[lL,e];exact abF.2 ⟨p,hpi,by unfold Bp;rw[if_pos rfl]⟩
   obtain⟨j,hj⟩:=(O.al q).1 h1;refine⟨j, ?_⟩;rw[lL];exact abF.2 ⟨q,hj,by unfold Bp;rw[if_neg h2]⟩
  rintro⟨j,hj⟩;rw[lL]at hj;obtain⟨u,hu,e⟩:=abF.1 hj;unfold Bp at e;by_cases g:u=p
  ·rw[if_pos g]at e;exact .inl e.symm
  rw[if_neg g]at e;subst e;exact .inr ⟨O.nR hu,g⟩
 have hn:=O.n;have Br:=O.nb;have DE:=O.mg;refine⟨?_,K.wA A2, ?_,hV,R.o, ?_,λj q h=>mq_ q ((al_ q).2 ⟨j,h⟩),O.ck,al_,λq=> ?_,λq h=> ?_,nit, ?_, ?_, ?_, ?_, ?_, ?_,O.un,O.on,O.go,O.wn,O.cf, ?_,λq h=> ?_⟩
 ·show B.C.wA A2=M.C.wA A2
  conv=>lhs;rw[O.c]
  rfl
 ·exact GD (K.wA A) T.o R.d λq _ j g=>⟨by unfold SQ2 at g;unfold mh;omega,by unfold SQ2 at g;omega⟩
 ·refine⟨λh=> ?_,λh=> ?_,λq h=> ?_, ?_⟩
  ·have:(M.x.cO p r).bg=M.x.bg/\(M.x.cO p r).cl=M.x.cl/\(M.x.cO p r).kd=M.x.kd:=by unfold Cw.cO;split<;>exact⟨rfl,rfl,rfl⟩
   show(M.x.cO p r).cl<B.C.ae.length/\_;obtain⟨a,b,c⟩:=this;change(M.x.cO p r).bg=true at h;show(M.x.cO p r).cl<B.C.ae.length/\1<=(M.x.cO p r).kd/\(M.x.cO p r).kd<=3;rw[a]at h;rw[b,c];exact O.x.go h
  ·change(M.x.cO p r).bg=false at h
   have hb:M.x.bg=false:=by unfold Cw.cO at h;split at h<;>exact h
   have:=O.x.no hb;show(M.x.cO p r).nx=none/\(M.x.cO p r).cl=0/\(M.x.cO p r).kd=0/\(M.x.cO p r).lf=0;unfold Cw.cO;rw[if_neg (by rw[this.1];simp)];exact this
  ·change(M.x.cO p r).nx=some q at h
   show q∈ql (nT M.Q p r) (qi (M.x.cO p r).cl (M.x.cO p r).kd)/\1<=(M.x.cO p r).lf;unfold Cw.cO at h⊢;rw[lL];by_cases g:M.x.nx=some p
   ·rw[if_pos g]at h⊢
    have:=O.x.nx p g;cases h;exact⟨abF.2 ⟨p,this.1,by unfold Bp;rw[if_pos rfl]⟩,this.2⟩
   rw[if_neg g]at h⊢;have:=O.x.nx q h;exact⟨abF.2 ⟨q,this.1,by unfold Bp;rw[if_neg λe:q=p=>g (e▸h)]⟩,this.2⟩
  show(M.x.cO p r).lf<=_;unfold Cw.cO;split<;>exact O.x.lf
 ·show Live (B.C.wA A2) q↔q∈V.all\/some p=some q
  rw[jC,O.lv,wx,hr];constructor
  ·rintro(h|h)
   ·by_cases e:q=p
    ·exact .inr (by rw[e])
    exact .inl (.inr ⟨h,e⟩)
   exact .inl (.inl (Option.some.inj h).symm)
  rintro((h|h)|h)
  ·exact .inr (by rw[h])
  ·exact .inl h.1
  exact .inl ((Option.some.inj h)▸hp)
 ·have e:p=q:=Option.some.inj h
  subst e;intro g;rcases(wx p).1 g with e|e
  ·exact I4 e.symm
  exact e.2 rfl
 ·have pe:B.E.Perm (gU B.C M (p::rest)):=O.e.trans (jB PI)
  have fQ:∀q,q∈rest->B.C.hd q≠B.C.hd p:=λq h e=>((inr q).1 h).2 (je K (O.mL ((inr q).1 h).1) (O.mL hp) e);have GI:∀q∈p::rest,B.C.hd q≠B.C.hd r:=λq h e=>by
   have hq:q∈B.W.all:=(abE.1 h).elim (λe=>e▸hp) λh=>((inr q).1 h).1;exact sL ((je K (O.mL hq) Lr.toAt e)▸hq)
  have e1:gU (B.C.wA A2) (M.swap p r) rest=gU B.C M rest:=fO λq h=>by
   have ne:q≠r:=λe=>sL (e▸((inr q).1 h).1);refine⟨?_,if_neg ne,rfl⟩;show(if q=r then M.it p else M.it q).exp=_;rw[if_neg ne]
  have e2:gU (B.C.wA A2) (M.swap p r) (r::rest)=if 0<(M.it p).exp then⟨B.C.hd r,(M.it p).exp,M.ord p⟩::gU B.C M rest else gU B.C M rest:=by
   rw[iR,e1,show(M.swap p r).it r=M.it p from if_pos rfl,show(M.swap p r).ord r=M.ord p from if_pos rfl];rfl
  refine abA.trans ?_ ((abA.of_eq e2.symm).trans (jB Wb.symm));have hm:B.C.hd p∈B.E.map En.h↔0<(M.it p).exp:=by
   rw[(pe.map En.h).mem_iff,abg,abF];constructor
   ·rintro⟨q,hq,e⟩
    obtain⟨h1,h2⟩:=abG.1 hq;have:q=p:=(abE.1 h1).elim id λh=>absurd e (fQ q h);subst this;exact of_decide_eq_true h2
   exact λh=>⟨p,abG.2 ⟨aag,decide_eq_true h⟩,rfl⟩
  have hpr:B.C.hd p≠B.C.hd r:=GI p aag;unfold pI;by_cases g:0<(M.it p).exp
  ·rw[if_pos ⟨hm.2 g,hpr⟩,if_pos g]
   have p1:(fb B.E (B.C.hd r)).Perm (gU B.C M (p::rest)):=by
    refine(pe.filter _).trans (abA.of_eq ?_);exact lY GI
   refine(p1.map _).trans (abA.of_eq ?_);rw[iR,if_pos g,aaj,if_pos rfl]
   congr 1
   have:∀l:List En,(∀x∈l,x.h≠B.C.hd p)->l.map (λx=>if x.h=B.C.hd p then{x with h:=B.C.hd r}else x)=l:=λl=>by
    induction l with
    |nil=>intro _;rfl
    |cons x l ih=>
     intro h;rw[aaj,if_neg (h x aag),ih λy hy=>h y (aai _ hy)]
   refine this _ λx hx=> ?_;unfold gU at hx;obtain⟨q,hq,rfl⟩:=abF.1 hx;exact fQ q (abG.1 hq).1
  rw[if_neg λh=>g (hm.1 h.1),if_neg g];refine pe.trans (abA.of_eq ?_);rw[iR,if_neg g]
 ·intro h2
  show V.mv<V.ob.length;rw[T.mv,T.s.ob];exact O.st (by rw[<-T.s.st];exact h2)
 ·exact T.s.size.trans Br
 ·show M.mg=if V.st=2 then V.ob.length-V.mv else 0
  rw[T.s.st,T.mv,T.s.ob];exact DE
 ·exact T.s.most.trans O.mo
 ·show M.v.fB=_
  rw[O.bt,lU _ PI,lU _ Wb,aaj,aaj,abJ,abJ];show _=(if r=r then M.it p else M.it r).sz+_;rw[if_pos rfl]
  congr 2
  refine acA λq h=> ?_;show _=(if q=r then M.it p else M.it q).sz;rw[if_neg λe:q=r=>sL (e▸((inr q).1 h).1)]
 ·exact T.s.n.trans hn
 show du (if q=r then M.it p else M.it q).key=true;rcases(wx q).1 h with e|⟨h1,h2⟩
 ·rw[if_pos e];exact O.lg p hp
 rw[if_neg λe:q=r=>sL (e▸h1)];exact O.lg q h1
def Mo.pO (M:Mo)(p:Nat):Mo:={M with C:=M.C.aL p,hole:=none}
def Mo.shift (M:Mo)(p:Nat):Option Mo:=match M.take (M.C.cl p)with
 |some (r,N)=>some ((N.swap p r).pO p)
 |none=>none
theorem bH.cl{B:Bx}{M:Mo}(O:bH B M)(p:Nat):B.C.cl p=M.C.cl p:=by rw[O.c];rfl
theorem bH.takeN{B:Bx}{M:Mo}(O:bH B M){c:Nat}(h:B.C.ca c=none):M.take c=none:=by
 have:(B.C.wA M.C.A).ca c=none:=TA _ h;rw[O.c]at this;unfold Mo.take;rw[show M.C.ca c=none from this]
theorem Is (z:Ly)(M:Mo)(p:Nat)(hp:M.has p)(hh:M.hole=none):aG aaa 113 [Dk z.s,Dm Dj (M.C.hd p)] uT [SH z M]
  (λv H=>(M.shift p=none/\v=Dm Dl 21/\H= [SH z M])\/∃N,M.shift p=some N/\v=Dm Dl 0/\H= [SH z N]):=
 dJ λB O=>by
  have dD:=(O.al p).2 hp;obtain⟨i,hi⟩:=hp;obtain⟨k,hk⟩:=agA hi;have L:=O.sH dD;have cQ:=O.cl p;have gS:=(L.toAt.ba O.k).1;have at_:=vS z.y.b B.C O.k p L;have tk:=JD z.y.b B.C O.k (B.C.cl p) gS;rw[O.hd]at at_;unfold dS fy iT pV;simp only[oU,cap];refine af func113 rfl ntmps113 rfl ?_;intro F _;refine bB ?_;refine zl Aa (at_) .nil (λ_ le ak=>ak.nth 0 rfl) ?_;refine cK ?_;refine bq ?_;refine Lp (oC Aa rfl rfl (tk) (.cons .here .nil) Di ?_);rintro v H' hr;refine bR ?_;rcases hT:B.C.ca (B.C.cl p)with _|⟨r,D⟩
  ·rw[hT]at hr
   obtain⟨rfl,rfl⟩:=hr;refine rM ?_;refine Ee (z:=z) (B:=B) (M:=M) (H:= []) O ?_;refine Rt [SH z M] results113 ?_;refine .inl ⟨?_,rfl,rfl⟩;unfold Mo.shift;rw[<-cQ,O.takeN hT]
  rw[hT]at hr;obtain⟨rfl,rfl⟩:=hr;obtain⟨N,n1,n2,n3,n4,O1,X⟩:=O.take hh gS hT;have Z4:M.shift p=some ((N.swap p r).pO p):=by unfold Mo.shift;rw[<-cQ,n1]
  obtain⟨NC,rfl⟩:∃NC,N={M with C:=NC,hole:=some r}:=⟨_,n4⟩;have K1:Ok D:=O1.k;have LpD:Live D p:=(X.lv p).2 (.inl L);have LrD:Live D r:=(X.lv r).2 (.inr rfl);have I4:r≠p:=λe=>X.no (e▸L);have Wr:D.hd p=M.C.hd p:=((X.hd p L).1).trans (O.hd p);have fQ:D.hd p≠D.hd r:=λe=>I4 (je K1 LrD.toAt LpD.toAt e.symm);have I1:gD D p:=O1.t.it p dD;obtain⟨f1,f2,f3,f4,f5,f6,f7⟩:=O1.kK dD;change uD D.A p=(M.it p).exp at f1;change lA D.A p=(M.it p).tch at f2;change rO D.A p=(M.it p).tok at f3;change dB D.A p=(M.it p).eP at f4;change aH D.A p=(M.it p).key at f5;change j8 D.A p=(M.it p).val at f6;change PV D.A p=(M.it p).fl at f7;have lg:=O.lg p dD;have uy:=(O.wF dD).2;have wz:D.cl r=D.cl p:=X.cl.trans (X.hd p L).2.symm;have Wo:=I1.k0;have sQ:=I1.fits;have lk:(aH D.A p).length=kl D.A p:=cE _ _ _;have lv:(j8 D.A p).length=vl D.A p:=cE _ _ _;have Jl:=gn lg;rw[<-f5,lk]at Jl;have vlt:vl D.A p<256^4:=kh _ _ _;have cp:=US z.y.b D K1 r p LrD LpD I1 I4 (by rw[f5];exact lg) (by show dB D.A p<16;rw[f4];exact uy) (by rw[wz];exact sQ);have hS:vF B.C D (λq=>q∈B.W.all)->True:=λ_=>trivial;have S:vF B.C (D.wA B.C.A) (λq=>q∈B.W.all):=⟨rfl,X.sz,λq _ M=>⟨((X.lv q).2 (.inl M)).wA _,(X.hd q M).1,(X.hd q M).2⟩⟩;have acr:M.Q.flatMap (cX B.C)=M.Q.flatMap (cX D):=(S.ls O.o λi q h=>O.nR h).symm;have acs:pE z.y.q z.y.wh D.ae.length (aV z.s) (bx z.s) B.C M.x=pE z.y.q z.y.wh D.ae.length (aV z.s) (bx z.s) D M.x:=(S.cw O.o (λi q h=>O.nR h) O.x _ _ _ _ _).symm;have acq:B.C.ae.length=D.ae.length:=by rw[X.sz]
  unfold ik;rw[acr,acq,acs];have d3:cZ D D.A (BK D r p) (λq _=>q=r):=Rs LrD.toAt (by rw[lk];omega) (by rw[lk,lv,wz];exact sQ);have O2:=O1.Gm (r:=r) rfl d3;have itr:mj (BK D r p) r=M.it p:=by
   have b:=C1 D.A r (D.cl r) (aH D.A p) (j8 D.A p) (rd D.A (p+40) 4) (rd D.A (p+16) 8) (rd D.A (p+24) 8) (rd D.A (p+32) 8) 4 (rd D.A (p+46) 1) (by rw[lk];omega) (by rw[lv];exact vlt);have h8:∀o,rd D.A o 8<256^8:=λo=>kh _ _ _;rw[<-O1.it p dD];unfold mj BK;rw[b.2.1,b.2.2,Kh _ _ _ _ _ _ _ _ _ _ _ (by rw[lk];omega) (kh _ _ _),Ki _ _ _ _ _ _ _ _ _ _ _ (by rw[lk];omega) (h8 _),E5 _ _ _ _ _ _ _ _ _ _ _ (by rw[lk];omega) (h8 _),E4 _ _ _ _ _ _ _ _ _ _ _ (by rw[lk];omega) (h8 _),Kg _ _ _ _ _ _ _ _ _ _ _ (by rw[lk];omega) (kh _ _ _)];rfl
  have str:gz (BK D r p) r=4:=Ke _ _ _ _ _ _ _ _ _ _ _ (by rw[lk];omega) (by decide);have klr:kl (BK D r p) r=kl D.A p:=(C0 _ _ _ _ _ _ _ _ _ _ _ (by rw[lk];omega)).trans lk;have vlr:vl (BK D r p) r=vl D.A p:=by
   have b:=C1 D.A r (D.cl r) (aH D.A p) (j8 D.A p) (rd D.A (p+40) 4) (rd D.A (p+16) 8) (rd D.A (p+24) 8) (rd D.A (p+32) 8) 4 (rd D.A (p+46) 1) (by rw[lk];omega) (by rw[lv];exact vlt);exact b.1.trans lv
  generalize BK D r p=A3 at*;have I2:gD (D.wA A3) r:=⟨by show kl A3 r≠0;rw[klr];exact Wo,by show 58+kl A3 r+vl A3 r<=D.sz (D.cl r);rw[klr,vlr,wz];exact sQ,by
   have h1:uD A3 r=uD D.A p:=(congrArg I3.exp itr).trans f1.symm;show uD A3 r<_;rw[h1];exact I1.exp,by
   have h1:lA A3 r=lA D.A p:=(congrArg I3.tch itr).trans f2.symm;show lA A3 r<_;rw[h1];exact I1.tch⟩
  have nW:aH A3 p=aH A3 r:=(congrArg I3.key (O2.it p dD)).trans (congrArg I3.key itr).symm;have at2:∀q∈r::B.W.all,At (D.wA A3) q:=λq h=>by
   rcases abE.1 h with e|h
   ·rw[e];exact(LrD.wA _).toAt
   exact O2.mL h
  have ts:=Ew z.y.t z.y.b (D.wA A3) O2.k B.W B.ty O2.t O.ty p r dD (LrD.wA _) I2 (O2.ho r rfl) nW;have md:=OJ z.y.cr z.y.q z.y.wh D.ae.length (aV z.s) (bx z.s) (D.wA A3) O2.k M.Q O2.o M.x O2.x p r (LpD.wA _);have wm:=V7 z.y.wh B.E M.tn (D.hd p) (D.hd r) fQ;rw[Wr]at cp wm;change aG _ _ [_,Dm Dj (D.hd p:Nat),Dm Dj (D.hd r:Nat)] _ _ _ at ts md;rw[Wr]at ts md;unfold ik at md;refine cK ?_;refine bd ?_;refine zl Aa (cp) (.cons .here .nil) Di ?_;refine cA ?_;refine Lp (oC Aa rfl rfl (ts) (.cons .here (.cons .here (.cons .here (.cons .here .nil)))) Di ?_);rintro v H' ⟨rfl,A,V,rfl,hV,TS⟩;refine bR ?_;have n64:∀q∈r::B.W.all,64<=(D.wA A3).sz ((D.wA A3).cl q):=λq h=>((at2 q h).ba O2.k).2.1;have dT:=vQ TS.df at2 (λq h=>by have:=n64 q h;omega);have OQ:=Lw O2.k O2.o dT (λ_ q _ j g=>S04 g);have Ir:gw ((D.wA A3).wA A) (some r):=mY O2.k dT (λq e=>by cases e;exact⟨LrD.wA _,I2⟩) (λ_ _ _ g=>(S04 g).1);have str2:gz A r=4:=(kX O2.k dT (LrD.wA _).toAt (o:=45) (w:=1) (ahb (by decide) (n64 r aag)) (λj h1 h2 g=>by obtain⟨_,_,g3⟩:=g;omega)).trans str;have qs:=T9 z.y.q z.y.b z.qb ((D.wA A3).wA A) (O2.k.wA A) M.Q OQ i k p r hk Ir (by show¬(1<=gz A r/\gz A r<=3);rw[str2];omega) wz;change aG _ _ [_,Dm Dj (D.hd p:Nat),Dm Dj (D.hd r:Nat)] _ _ _ at qs;rw[Wr]at qs;refine cA ?_;refine Lp (oC Aa rfl rfl (qs) (.cons .here (.cons (.t3 .here) (.cons (.t3 .here) .nil))) Di ?_);rintro v H' ⟨rfl,A2,rfl,R⟩;refine bR ?_;refine cA ?_;refine zl Aa (wm) (.cons (.t4 (.t3 .here)) .nil) Di ?_;refine cA ?_;refine zl Aa (md) (.cons (.t4 (.t3 .here)) .nil) Di ?_;have O3:=O2.swap (r:=r) rfl hk itr hV TS R I2;have L5:Live (((D.wA A3).wA A).wA A2) p:=(LpD.wA A3).wA A2;have gv:=Ks z.y.b (((D.wA A3).wA A).wA A2) O3.k p L5;change aG _ _ [_,Dm Dj (D.hd p:Nat)] _ _ _ at gv;rw[Wr]at gv;have O4:=O3.pO (r:=p) rfl;have mc:∀i,∀q∈ql (nT M.Q p r) i,q≠p:=λi q h e=>O3.ho p rfl (e▸O3.nR h);have g1:(nT M.Q p r).flatMap (cX (((D.wA A3).wA A).wA A2))=(nT M.Q p r).flatMap (cX ((((D.wA A3).wA A).wA A2).aL p)):=((jz O3.k L5).ls O3.o mc).symm;have g2:pE z.y.q z.y.wh D.ae.length (aV z.s) (bx z.s) (((D.wA A3).wA A).wA A2) (M.x.cO p r)=pE z.y.q z.y.wh D.ae.length (aV z.s) (bx z.s) ((((D.wA A3).wA A).wA A2).aL p) (M.x.cO p r):=((jz O3.k L5).cw O3.o mc O3.x _ _ _ _ _).symm;refine cV ?_;refine zl Aa (gv) (.cons (.t2 .here) .nil) Di ?_;rw[JQ O.o hk];refine bq ?_;rw[show(nT M.Q p r).flatMap (cX (((D.wA A3).wA A).wA A2))=(nT M.Q p r).flatMap (cX ((((D.wA A3).wA A).wA A2).aL p))from g1,show pE z.y.q z.y.wh D.ae.length (aV z.s) (bx z.s) (D.wA A3) (M.x.cO p r)=pE z.y.q z.y.wh D.ae.length (aV z.s) (bx z.s) ((((D.wA A3).wA A).wA A2).aL p) (M.x.cO p r)from g2,<-Wr];refine Hh (H':= [Cl z.y.b ((((D.wA A3).wA A).wA A2).aL p),DH z V B.ty,zK B.ty V,DJ B.ty V,ag z.y.q 182 (ij z.y.b z.qb (((D.wA A3).wA A).wA A2).ae.length),ag z.qb 333 ((nT M.Q p r).flatMap (cX ((((D.wA A3).wA A).wA A2).aL p))),ag z.y.cr 137 (pE z.y.q z.y.wh D.ae.length (aV z.s) (bx z.s) ((((D.wA A3).wA A).wA A2).aL p) (M.x.cO p r)),Wl z.y.wh (pI B.E (D.hd p) (D.hd r)) M.tn,ag z.s 96 (Dk z.y.b::Dk z.y.ck::Dk z.y.t::Dk z.y.lu::Dk z.y.wh::Dk z.y.cr::Dk z.y.mo::Dk z.y.q::fg M.v),kI z.y.ck M.k,zF z,xx z M.m,kF z.ub M.m,jJ M]) ?_;refine au (ax O4 (H:= [])) ?_;refine Rt [SH z ((({M with C:=NC,hole:=some r}:Mo).swap p r).pO p)] results113 ?_;exact .inr ⟨_,Z4,rfl,rfl⟩
theorem tA{C D:Cs}(S:DP C D)(hp:∀j,∃b,D.pg j={C.pg j with lv:=b})(q:Nat):(Live D q↔Live C q)/\D.hd q=C.hd q/\D.cl q=C.cl q:=by
 have tk:∀i,(D.pg i).tk=(C.pg i).tk:=λi=>by obtain⟨b,e⟩:=hp i;rw[e]
 have aX:∀i,(D.pg i).aX=(C.pg i).aX:=λi=>by obtain⟨b,e⟩:=hp i;rw[e]
 refine⟨⟨λL=>⟨S.at.1 L.toAt, ?_⟩,λL=>⟨S.at.2 L.toAt, ?_⟩⟩, ?_,S.cl q⟩
 ·have:=L.tk
  rw[S.pn,S.ix,tk]at this;exact this
 ·rw[S.pn,S.ix,tk];exact L.tk
 unfold Cs.hd Cs.gen;rw[S.pn,S.ix,aX]
theorem CG{C:Cs}(K:Ok C){i:Nat}(hi:i<C.n)(j:Nat):(C.iu i).pg j=if j=i then{C.pg i with lv:=false}else C.pg j:=kO (by rw[K.pl];exact hi) j
theorem yF{C:Cs}(K:Ok C){i:Nat}(hi:i<C.n)(j:Nat):(C.cS i).pg j=if j=i then{C.pg i with lv:=true}else C.pg j:=kO (by rw[K.pl];exact hi) j
theorem zc{C:Cs}(K:Ok C){i:Nat}(hi:i<C.n)(j:Nat):(C.aU i).pg j=if j=i then{Pg.no with old:=C.rP (C.pg i)}else C.pg j:=kO (by rw[K.pl];exact hi) j
theorem bH.stay{B:Bx}{M:Mo}(O:bH B M)(eo:M.m.on=true):vF B.C (B.C.iu M.m.pg) (λq=>q∈B.W.all)/\bH ⟨B.C.iu M.m.pg,B.W,B.ty,B.E⟩ {M with C:=M.C.iu M.m.pg,m:=M.m.off}:=by
 obtain⟨a,b,c,d⟩:=O.on eo;have K:=O.k;obtain⟨K2,S⟩:=yq K a b c;have iF:=CG K a;have sm:=tA S λj=>by
  rw[iF];by_cases e:j=M.m.pg
  ·exact⟨false,by rw[if_pos e,e]⟩
  exact⟨(B.C.pg j).lv,by rw[if_neg e]⟩
 have hs:vF B.C (B.C.iu M.m.pg) (λq=>q∈B.W.all):=⟨rfl,S.ae,λq _ L=>⟨(sm q).1.2 L,(sm q).2⟩⟩;refine⟨hs,O.cls (ho':=M.hole) K2 (congrArg (λC:Cs=>C.iu M.m.pg) O.c) hs rfl (λq=>(sm q).1.trans (O.lv q)) O.ho (by rw[S.ae];exact O.un) (λe=>by cases e) (λi e=> ?_)⟩;rw[iF]at e;by_cases g:i=M.m.pg
 ·rw[if_pos g]at e;cases e
 rw[if_neg g]at e;exact absurd (O.go i e).2 g
theorem bH.leave{B:Bx}{M:Mo}(O:bH B M)(eo:M.m.on=false){i f t:Nat}(hi:i<B.C.n)(ho:(B.C.pg i).own=true)(hf:(B.C.pg i).cl=f):(B.C.pg i).lv=false/\vF B.C (B.C.cS i) (λq=>q∈B.W.all)/\bH ⟨B.C.cS i,B.W,B.ty,B.E⟩ {M with C:=M.C.cS i,m:={M.m with pg:=i,fr:=f,tt:=t,on:=true}}:=by
 have jC:(B.C.pg i).lv=false:=by
  rcases h:(B.C.pg i).lv with _|_
  ·rfl
  have:=(O.go i h).1;rw[eo]at this;cases this
 have K:=O.k;obtain⟨K2,S⟩:=AY K hi ho jC;have iF:=yF K hi;have sm:=tA S λj=>by
  rw[iF];by_cases e:j=i
  ·exact⟨true,by rw[if_pos e,e]⟩
  exact⟨(B.C.pg j).lv,by rw[if_neg e]⟩
 have hs:vF B.C (B.C.cS i) (λq=>q∈B.W.all):=⟨rfl,S.ae,λq _ L=>⟨(sm q).1.2 L,(sm q).2⟩⟩;refine⟨jC,hs,O.cls (ho':=M.hole) K2 (congrArg (λC:Cs=>C.cS i) O.c) hs rfl (λq=>(sm q).1.trans (O.lv q)) O.ho (by rw[S.ae];exact O.un) (λ_=> ?_) (λj e=> ?_)⟩
 ·refine⟨hi, ?_, ?_, ?_⟩<;>(show _=_)<;>rw[iF,if_pos rfl]
  ·exact ho
  exact hf
 rw[iF]at e;by_cases g:j=i
 ·exact⟨rfl,g⟩
 rw[if_neg g]at e;have:=(O.go j e).1;rw[eo]at this;cases this
theorem QB{C:Cs}(K:Ok C){i:Nat}(hi:i<C.n)(h:(C.pg i).tk.findIdx? id=none):(C.pg i).held=0/\∀k:Nat,(C.pg i).tk[k]?≠some true:=by
 have P:kN C (C.pg i):=K.pg _ (dh (by rw[K.pl];exact hi));rw[ago]at h;refine⟨?_,λk e=> ?_⟩
 ·rw[P.held]
  have:∀l:List Bool,(∀x∈l,id x=false)->(l.map bN).sum=0:=λl=>by
   induction l with
   |nil=>intro _;rfl
   |cons x l ih=>
    intro g;have hx:x=false:=g x aag;rw[aaj,abJ,ih λy hy=>g y (aai _ hy),hx];rfl
  exact this _ h
 have:=h true (aaf e);cases this
theorem bH.release{B:Bx}{M:Mo}(O:bH B M)(eo:M.m.on=true)(h:(B.C.pg M.m.pg).tk.findIdx? id=none):(B.C.pg M.m.pg).held=0/\vF B.C (B.C.aU M.m.pg) (λq=>q∈B.W.all)/\bH ⟨B.C.aU M.m.pg,B.W,B.ty,B.E⟩ {M with C:=M.C.aU M.m.pg,m:=M.m.off}:=by
 obtain⟨a,b,c,d⟩:=O.on eo;have K:=O.k;obtain⟨h0,mc⟩:=QB K a h;have K2:=v8 K a b c h0;have iF:=zc K a;have zS:∀q,Live B.C q->B.C.pn q≠M.m.pg:=λq L e=>mc _ (e▸L.tk);have same:∀q,B.C.pn q≠M.m.pg->(B.C.aU M.m.pg).pg ((B.C.aU M.m.pg).pn q)=B.C.pg (B.C.pn q):=λq e=>by
  rw[show(B.C.aU M.m.pg).pn q=B.C.pn q from rfl,iF,if_neg e]
 have I0:∀q,B.C.pn q≠M.m.pg->(B.C.aU M.m.pg).cl q=B.C.cl q:=λq e=>by unfold Cs.cl;rw[same q e]
 have Gg:∀q,B.C.pn q≠M.m.pg->(B.C.aU M.m.pg).ix q=B.C.ix q:=λq e=>by unfold Cs.ix;rw[I0 q e];rfl
 have wl:∀q,Live (B.C.aU M.m.pg) q↔Live B.C q:=λq=>by
  constructor
  ·intro L
   have e:B.C.pn q≠M.m.pg:=λe=>by
    have t:=L.own;rw[show(B.C.aU M.m.pg).pn q=B.C.pn q from rfl,iF,if_pos e]at t;cases t
   refine⟨⟨L.i,by have:=L.own;rw[same q e]at this;exact this,by have:=L.al;rw[I0 q e]at this;exact this,by have:=L.k;rw[same q e,Gg q e]at this;exact this⟩,by have:=L.tk;rw[same q e,Gg q e]at this;exact this⟩
  intro L;have e:=zS q L;exact⟨⟨L.i,by rw[same q e];exact L.own,by rw[I0 q e];exact L.al,by rw[same q e,Gg q e];exact L.k⟩,by rw[same q e,Gg q e];exact L.tk⟩
 have hs:vF B.C (B.C.aU M.m.pg) (λq=>q∈B.W.all):=⟨rfl,rfl,λq _ L=>⟨(wl q).2 L,by unfold Cs.hd Cs.gen;rw[same q (zS q L),Gg q (zS q L)],I0 q (zS q L)⟩⟩;refine⟨h0,hs,O.cls (ho':=M.hole) K2 (congrArg (λC:Cs=>C.aU M.m.pg) O.c) hs rfl (λq=>(wl q).trans (O.lv q)) O.ho O.un (λe=>by cases e) (λi e=> ?_)⟩;rw[iF]at e;by_cases g:i=M.m.pg
 ·rw[if_pos g]at e;cases e
 rw[if_neg g]at e;exact absurd (O.go i e).2 g
def Mo.mstop (M:Mo):Mo:={M with C:=M.C.iu M.m.pg,m:=M.m.off}
def Mo.c8 (M:Mo):Bool×Mo:=match(M.C.pg M.m.pg).tk.findIdx? id with
 |none=>(false,{M with C:=M.C.aU M.m.pg,m:=M.m.off})
 |some k=>if M.bF (M.C.mB M.m.pg k)≠0 then(true,M.bw (M.C.mB M.m.pg k))else(match M.shift (M.C.mB M.m.pg k)with
  |some N=>(true,N)
  |none=>(false,M.mstop))
theorem bH.BN{B:Bx}{M:Mo}(O:bH B M)(hh:M.hole=none){i k:Nat}(hi:i<B.C.n)(ho:(B.C.pg i).own=true)(hk:(B.C.pg i).tk.findIdx? id=some k):M.has (B.C.mB i k):=by
 have P:kN B.C (B.C.pg i):=O.k.pg _ (dh (by rw[O.k.pl];exact hi));rw[abK]at hk;obtain⟨h1,h2,_⟩:=hk;obtain⟨e1,e2,a⟩:=iM O.k hi ho (k:=k) (by rw[<-P.tl];exact h1);have L:Live B.C (B.C.mB i k):=⟨a,by rw[e1,e2,aac h1];exact congrArg some h2⟩;exact(O.al _).1 (((O.lv _).1 L).resolve_right (by rw[hh];simp))
theorem y8 (z:Ly)(M:Mo)(eo:M.m.on=true)(c:Nat)(hf:M.m.fr=c):aG aaa 183 [Dk z.y.mo,Dm Dl c] uT [SH z M]
  (λv H=>v= .bool true/\H= [SH z M.mstop]):=
 dJ λB O=>by
  obtain⟨a,b,c',d⟩:=O.on eo;have h:=(UD z.y.mo z.y.b z.ub (aV z.s) (bx z.s) (de z.s) B.C O.k M.m c eo hf a b c').fr (H:=dS z B M++ []) (R:= [DH z B.W B.ty,zK B.ty B.W,DJ B.ty B.W,DI z B.C.ae.length,ag z.qb 333 (M.Q.flatMap (cX B.C)),ik z.y.cr z.y.q z.y.wh B.C.ae.length (aV z.s) (bx z.s) B.C M.x,Wl z.y.wh B.E M.tn,fy z.s z.y (fg M.v),
   kI z.y.ck M.k,zF z,kF z.ub M.m,jJ M]) (.cons (.t8 (.t3 .here)) (.cons .here .nil)) (λk ak=>trivial)
  refine h.out ?_;rintro v H' ⟨H0,⟨rfl,rfl⟩,rfl⟩;obtain⟨S,O2⟩:=O.stay eo;refine⟨[SH z M.mstop],⟨rfl,rfl⟩,λk s=>ax O2 (H:= []) k ?_⟩;rw[(S.ls O.o λi q h=>O.nR h).symm]at s;unfold ik at s;rw[(S.cw O.o (λi q h=>O.nR h) O.x _ _ _ _ _).symm]at s
  revert s
  revert k
  show∀k,_->ai [Cl z.y.b (B.C.iu M.m.pg),DH z B.W B.ty,zK B.ty B.W,DJ B.ty B.W,DI z B.C.ae.length,ag z.qb 333 (M.Q.flatMap (cX (B.C.iu M.m.pg))),ag z.y.cr 137 (pE z.y.q z.y.wh B.C.ae.length (aV z.s) (bx z.s) (B.C.iu M.m.pg) M.x),Wl z.y.wh B.E M.tn,fy z.s z.y (fg M.v),
   kI z.y.ck M.k,zF z,xx z M.m.off,kF z.ub M.m,jJ M] k
  refine bR ?_;exact Eh
theorem UE (z:Ly)(M:Mo)(hh:M.hole=none)(eo:M.m.on=true):aG aaa 137 [Dk z.y.mo] uT [SH z M]
  (λv H=>∃r N,M.c8=(r,N)/\v= .bool r/\H= [SH z N]):=
 dJ λB O=>by
  obtain⟨a,b,c',d⟩:=O.on eo;have ft:=VE z.y.b B.C O.k M.m.pg a b;have ahB:B.C.pg M.m.pg=M.C.pg M.m.pg:=by rw[O.c];rfl
  have hplc:∀k,B.C.mB M.m.pg k=M.C.mB M.m.pg k:=λk=>by rw[O.c];rfl
  unfold dS mN Du;refine bR ?_;refine af func137 rfl ntmps137 rfl ?_;intro F _;refine bq ?_;refine av ?_;refine iU 9 mix (.cons (.t8 (.t3 .here)) .nil) λF1 jD bV aI=> ?_;obtain⟨q1,_⟩:=bV;refine cA ?_;refine gI aI ?_;refine Tp (oC Aa rfl rfl (ft) .nil (λ_ le ak=>ak.nth 1 rfl) ?_);rintro v H' ⟨hv,rfl⟩;refine bR ?_;rcases hf:(B.C.pg M.m.pg).tk.findIdx? id with _|k
  ·rw[hf]at hv
   subst hv;obtain⟨h0,S,O2⟩:=O.release eo hf;have Wm:M.c8=(false,{M with C:=M.C.aU M.m.pg,m:=M.m.off}):=by unfold Mo.c8;rw[<-ahB,hf]
   refine bR ?_;refine dL ?_;refine av ?_;refine iU 9 mix (.cons .here .nil) λF2 zH eL dw=> ?_;obtain⟨q2,_⟩:=eL;refine cA ?_;refine gI dw ?_;refine Tp (oZ (Aa (n:=203)) (Iy z.y.b B.C O.k M.m.pg a b c' h0) (.cons (.there .here) .nil) Di ?_);refine bs ?_;refine Lp (oSN r9 ?_);refine bs ?_;unfold ik;rw[(S.ls O.o λi q h=>O.nR h).symm,(S.cw O.o (λi q h=>O.nR h) O.x _ _ _ _ _).symm];refine Hh (H':= [Cl z.y.b (B.C.aU M.m.pg),DH z B.W B.ty,zK B.ty B.W,DJ B.ty B.W,DI z B.C.ae.length,ag z.qb 333 (M.Q.flatMap (cX (B.C.aU M.m.pg))),ag z.y.cr 137 (pE z.y.q z.y.wh B.C.ae.length (aV z.s) (bx z.s) (B.C.aU M.m.pg) M.x),Wl z.y.wh B.E M.tn,fy z.s z.y (fg M.v),kI z.y.ck M.k,zF z,ag z.y.mo 220 [Dk z.y.b,aV z.s,bx z.s,de z.s, .slice (some ⟨z.ub,0,none⟩) M.m.un.length M.m.un.length,Dm Dl M.m.st,Dm Dl 0,Dm Dl 0,Dm Dl 0, .bool false],kF z.ub M.m,jJ M]) ?_;refine au (ax O2 (H:= [])) ?_;refine Rt [SH z {M with C:=M.C.aU M.m.pg,m:=M.m.off}] results137 ?_;exact⟨_,_,Wm,rfl,rfl⟩
  have hp:=O.BN hh a b hf;rw[hf]at hv;dsimp only at hv;rw[O.hd]at hv;have Wm:M.c8=if M.bF (B.C.mB M.m.pg k)≠0 then(true,M.bw (B.C.mB M.m.pg k))else(match M.shift (B.C.mB M.m.pg k)with
   |some N=>(true,N)
   |none=>(false,M.mstop)):=by unfold Mo.c8;rw[<-ahB,hf,hplc]
  generalize B.C.mB M.m.pg k=p at*;subst hv;refine bR ?_;refine cK ?_;refine au (H':= [SH z M]) (λh s=>ax O (H:= []) h (by revert s;revert h;unfold dS mN Du;simp only[oU,cap];exact Eh)) ?_;refine aw ?_;refine Lp (ZW (Aa (n:=48)) rfl rfl rfl (u9 z M p hp) (.cons .here .nil) (λ_ le _=>trivial) λv H' hr=> ?_);obtain⟨rfl,rfl⟩:=hr;refine bR ?_;refine aw ?_;refine az rfl ?_ ?_
  ·intro pf
   replace pf:=aO pf;refine cB λB1 O1=> ?_;unfold dS mN Du;refine bR ?_;refine bn ?_;refine au (H':= [SH z M]) (λh s=>ax O1 (H:= []) h (by revert s;revert h;unfold dS mN Du;simp only[oU,cap];exact Eh)) ?_;refine aw ?_;refine Lp (ZW (Aa (n:=85)) rfl rfl rfl (jO z M p hp) (.cons .here .nil) (λ_ le _=>trivial) λv H' hr=> ?_);obtain⟨rfl,rfl⟩:=hr;refine bR ?_;refine bs ?_;refine Rt [SH z (M.bw p)] results137 ?_;exact⟨true,_,by rw[Wm,if_pos (by simpa using pf)],rfl,rfl⟩
  intro pf;replace pf:=aO pf;rw[if_neg (by simpa using pf)]at Wm;refine bd ?_;refine av ?_;refine cB λB1 O1=> ?_;unfold dS mN Du;refine bR ?_;refine bn ?_;refine au (H':= [SH z M]) (λh s=>ax O1 (H:= []) h (by revert s;revert h;unfold dS mN Du;simp only[oU,cap];exact Eh)) ?_;refine aw ?_;refine Lp (ZW (Aa (n:=113)) rfl rfl rfl (Is z M p hp hh) (.cons .here .nil) (λ_ le _=>trivial) λv H' hr=> ?_);rcases hr with⟨hsn,rfl,rfl⟩|⟨N,hsn,rfl,rfl⟩
  ·try simp only[oU,cap]
   rw[hsn]at Wm;refine bq ?_;refine cB λB1 O1=> ?_;unfold dS mN Du;refine bR ?_;refine bK ?_;refine au (H':= [SH z M]) (λh s=>ax O1 (H:= []) h (by revert s;revert h;unfold dS mN Du;simp only[oU,cap];exact Eh)) ?_;refine zl Aa (y8 z M eo M.m.fr rfl) (.cons .here .nil) Di ?_;refine bs ?_;refine Rt [SH z M.mstop] results137 ?_;exact⟨_,_,Wm,rfl,rfl⟩
  try simp only[oU,cap]
  rw[hsn]at Wm;refine cA ?_;refine Rt [SH z N] results137 ?_;exact⟨_,_,Wm,rfl,rfl⟩
theorem Zr:BH aaa 29 0=some (0,3):=by kernel_rfl
theorem Zq:BH aaa 29 1=some (1,3):=by kernel_rfl
def WB (C:Cs)(f each k:Nat)(o:FK):Prop:=(C.pg k).own=true/\(C.pg k).cl=f/\((C.pg k).held:Int)<=((C.rw f).free.length:Int)-((each:Int)-((C.pg k).held:Int))/\∀q,o=some q->(C.pg k).held<(C.pg q).held
noncomputable def uw (C:Cs)(f each:Nat):Nat->FK
 |0=>none
 |k+1=>by classical exact if WB C f each k (uw C f each k)then some k else uw C f each k
noncomputable def gq (C:Cs)(f:Nat):FK:=if(C.rw f).bA<2 then none else uw C f (C.ao/C.sz f) C.n
def W9:FK->Int
 |none=>-1
 |some p=>(p:Int)
theorem CX (C:Cs)(f each:Nat):∀k q,uw C f each k=some q->q<k/\(C.pg q).own=true/\(C.pg q).cl=f
 |0,q,h=>by cases h
 |k+1,q,h=>by
  unfold uw at h;split at h
  ·next g=>cases h;exact⟨akl _,g.1,g.2.1⟩
  obtain⟨a,b⟩:=CX C f each k q h;exact⟨by omega,b⟩
theorem CW{C:Cs}{f each k:Nat}(h:WB C f each k (uw C f each k)):uw C f each (k+1)=some k:=by
 conv=>lhs;unfold uw
 rw[if_pos h]
theorem BX{C:Cs}{f each k:Nat}(h:¬WB C f each k (uw C f each k)):uw C f each (k+1)=uw C f each k:=by
 conv=>lhs;unfold uw
 rw[if_neg h]
theorem MF (a b ub:Nat)(dv tv sv:Value)(m:gp)(C:Cs)(K:Ok C)(f:Nat)(hf:f<C.ae.length):
  aG aaa 200 [Dk a,Dm Dl f] (λh=>In (mN a b ub dv tv sv m) h/\In (Cl b C) h) []
   (λv H=>v=Dm Dl (W9 (gq C f))/\H= []):=
 aG.Q9 (X:=C.cfg.ao=C.ao/\C.cfg.bA=C.n) (λk hk=>by obtain⟨j,⟨y,hy,_⟩,_⟩:=hk.2;exact⟨hy.ao,hy.bA⟩) λO9=>by
  obtain⟨c1,c2⟩:=O9;have f1:=K.toFix.p1;have f2:=K.toFix.n1;have f3:=K.toFix.l1;obtain⟨z1,z2,z3⟩:=K.toFix.sz hf;have ofp:∀g:Nat->Nat,ofM C (f:Int) g=g f:=λg=>by unfold ofM;rw[if_pos ⟨by omega,by omega⟩];rfl
  have aho:=Bl b C K (f:Int);have aaX:=FC b C K (f:Int);have ahU:=qW b C K (f:Int);rw[ofp]at aho aaX ahU;have acu:=Bi b C;have cQ:mT C.cfg= [Dm Dl C.ao,Dm Dl C.n,Dm Dl C.cfg.iG,Dm Dl C.cfg.eI,Dm Dl C.cfg.lim,Dm Dl C.cfg.hot,Dm Dl C.cfg.warm]:=by
   unfold mT;rw[c1,c2]
  rw[cQ]at acu;have Bs:(C.rw f).free.length<=1073741824:=kA K f;have iF:(C.rw f).bA<4611686018427387904:=by
   have:=x7 (sJ f) (λx=>by unfold sJ;split<;>omega) C.bm;rw[K.fp f hf];unfold Cs.wR;rw[K.pl]at this;omega
  unfold mN Du gq;refine af func200 rfl ntmps200 rfl ?_;rintro F ⟨hm,DX⟩;refine bB ?_;refine zl Aa (aho) .nil (λ_ le _=>In.mono DX le) ?_;refine bd ?_;by_cases h2:(C.rw f).bA<2
  ·refine fe ?_
   refine bn ?_;refine Rt [] results200 ?_;rw[if_pos h2];exact⟨rfl,rfl⟩
  rw[if_neg h2];refine cN ?_;refine bd ?_;refine av ?_;refine gT true mix ?_;refine bc ?_;refine Tp (oZ (Aa (n:=108)) (acu) .nil (λ_ le _=>In.mono DX le) ?_);refine Ti (Fgs Zr bj) ?_;refine bn ?_;refine Tp (oZ (Aa (n:=71)) (ahU) .nil (λ_ le _=>In.mono DX le) ?_);obtain⟨each,QC⟩:∃each,each=C.ao/C.sz f:=⟨_,rfl⟩;have hele:each<=1048576:=by rw[QC];exact ahb (Nat.div_le_self _ _) f1
  refine Ti (Qu) ?_;refine aA (t:=28) (v':=(Dm Dl each)) rfl (by rw[QC]) ?_;rw[<-QC];refine bP ?_;refine zl Aa (acu) .nil (λ_ le _=>In.mono DX le) ?_;refine Li (Fgs Zq bj) ?_;refine bq ?_;have own_:=λk hk=>Ui b C K k hk;have aaQ:=λk hk ho=>Zb b C K k hk ho;have hhl:=λk (hk:k<C.n)=>xf K (dh (C:=C) (i:=k) (by rw[K.pl];exact hk));refine Lo (ι:=Nat) (FN [6,3,35,45]) (λk=>k<=C.n) (λk=> [(35,Dm Dl k),(6,Dm Dl (W9 (uw C f each k)))]) (λk=> []) (λk=>C.n-k) (0) (abL _) ?_;rintro k hk;refine bq ?_;refine av ?_;by_cases DG:k<C.n
  ·have o1:=own_ k DG
   have hh1:=hhl k DG;refine fe ?_;refine lx ?_;refine zl Aa (o1) .nil (λ_ le _=>In.mono DX le) ?_;refine bq ?_;by_cases WJ:(C.pg k).own=true/\(C.pg k).cl=f
   ·have h1:=aaQ k DG WJ.1
    rw[if_pos WJ.1,WJ.2];refine cN ?_ (e:=by exact congrArg (!·) (decide_eq_true rfl));refine cV ?_;refine zl Aa (h1) .nil (λ_ le _=>In.mono DX le) ?_;refine cA ?_;refine zl Aa (aaX) .nil (λ_ le _=>In.mono DX le) ?_;refine bs ?_;by_cases hA:((C.pg k).held:Int)<=((C.rw f).free.length:Int)-((each:Int)-((C.pg k).held:Int))
    ·refine zt 64 ?_ (e:=by exact decide_eq_true hA)
     refine bq ?_;rcases hq:uw C f each k with _|q
     ·have ab7:WB C f each k (uw C f each k):=⟨WJ.1,WJ.2,hA,λq e=>by rw[hq]at e;cases e⟩
      have e1:((k:Nat):Int)=W9 (uw C f each (k+1)):=by rw[CW ab7];rfl
      refine zt 67 ?_ (e:=by exact decide_eq_true (by show(-1:Int)<0;omega));refine cK ?_;refine aw ?_;refine aD ?_;rw[e1];refine Ro (k+1) ((by omega)) ((by omega))
     obtain⟨q1,q2,q3⟩:=CX C f each k q hq;have h2:=aaQ q (by omega) q2;have hh2:=hhl q (by omega);refine zf 67 ?_ (e:=by exact decide_eq_false (by show¬((q:Int)<0);omega));refine bs ?_;refine zl Aa (h2) .nil (λ_ le _=>In.mono DX le) ?_;refine bc ?_;by_cases hB:(C.pg k).held<(C.pg q).held
     ·have ab7:WB C f each k (uw C f each k):=⟨WJ.1,WJ.2,hA,λu e=>by rw[hq]at e;cases e;exact hB⟩
      have e1:((k:Nat):Int)=W9 (uw C f each (k+1)):=by rw[CW ab7];rfl
      refine fe ?_;refine cA ?_;refine aD ?_;rw[e1];refine Ro (k+1) ((by omega)) ((by omega))
     have mc:¬WB C f each k (uw C f each k):=λh=>hB (h.2.2.2 q hq);refine cN ?_;refine bs ?_;refine aD ?_;rw[<-hq,<-BX mc];refine Ro (k+1) ((by omega)) ((by omega))
    have mc:¬WB C f each k (uw C f each k):=λh=>hA h.2.2.1;refine zf 64 ?_ (e:=by exact decide_eq_false hA);refine cK ?_;refine aw ?_;refine aD ?_;rw[<-BX mc];refine Ro (k+1) ((by omega)) ((by omega))
   have mc:¬WB C f each k (uw C f each k):=λh=>WJ ⟨h.1,h.2.1⟩;have QD:¬((if(C.pg k).own=true then((C.pg k).cl:Int)else-1)=(f:Int)):=by
    by_cases g:(C.pg k).own=true
    ·have g2:¬(C.pg k).cl=f:=λe=>WJ ⟨g,e⟩
     rw[if_pos g];omega
    rw[if_neg g];omega
   refine fe ?_ (e:=by exact congrArg (!·) (decide_eq_false QD));refine bK ?_;refine aD ?_;rw[<-BX mc];refine Ro (k+1) ((by omega)) ((by omega))
  obtain rfl:k=C.n:=by omega
  refine cN ?_;refine bB ?_;refine Rt [] results200 ?_;exact⟨rfl,rfl⟩
def ko (C:Cs)(f:Nat):Nat:=(C.rw f).free.length
noncomputable def fw (m:gp)(C:Cs):Nat->Option (Nat×Nat)
 |0=>none
 |k+1=>if m.cD k=true\/(∃o,fw m C k=some o/\ko C k<=ko C o.2)then fw m C k else(match gq C k with
  |some p=>some (p,k)
  |none=>fw m C k)
noncomputable def Mo.dM (M:Mo):Mo:=if 0<M.C.spare then M else match(abM M.fG).find? M.m.cD with
 |none=>M
 |some t=>match fw M.m M.C M.fG with
  |none=>M
  |some o=>{M with C:=M.C.cS o.1,m:={M.m with pg:=o.1,fr:=o.2,tt:=t,on:=true}}
def PY (t:Nat):Option (Nat×Nat)->FJ
 |none=> [Dm Dl (-1),Dm Dl 0,Dm Dl 0, .bool false]
 |some o=> [Dm Dl o.1,Dm Dl o.2,Dm Dl t, .bool true]
theorem sC{m:gp}{C:Cs}{k:Nat}(h:m.cD k=true\/(∃o,fw m C k=some o/\ko C k<=ko C o.2)):fw m C (k+1)=fw m C k:=by
 conv=>lhs;unfold fw
 rw[if_pos h]
theorem sD{m:gp}{C:Cs}{k:Nat}(h:gq C k=none):fw m C (k+1)=fw m C k:=by
 conv=>lhs;unfold fw
 split
 ·rfl
 rw[h]
theorem vC{m:gp}{C:Cs}{k p:Nat}(g:¬(m.cD k=true\/(∃o,fw m C k=some o/\ko C k<=ko C o.2)))(h:gq C k=some p):fw m C (k+1)=some (p,k):=by
 conv=>lhs;unfold fw
 rw[if_neg g,h]
theorem zk{C:Cs}{f p:Nat}(h:gq C f=some p):p<C.n/\(C.pg p).own=true/\(C.pg p).cl=f:=by
 unfold gq at h;split at h
 ·cases h
 exact CX _ _ _ _ _ h
theorem qX{m:gp}{C:Cs}:∀{k:Nat} {o:Nat×Nat},fw m C k=some o->o.1<C.n/\(C.pg o.1).own=true/\(C.pg o.1).cl=o.2/\o.2<k
 |0,o,h=>by cases h
 |k+1,o,h=>by
  by_cases g:m.cD k=true\/(∃o,fw m C k=some o/\ko C k<=ko C o.2)
  ·rw[sC g]at h
   obtain⟨a,b,c,d⟩:=qX h;exact⟨a,b,c,by omega⟩
  cases hl:gq C k with
  |none=>
   rw[sD hl]at h;obtain⟨a,b,c,d⟩:=qX h;exact⟨a,b,c,by omega⟩
  |some p=>
   rw[vC g hl]at h;cases h;obtain⟨a,b,c⟩:=zk hl;exact⟨a,b,c,akl _⟩
theorem Rj (C:Cs)(A:By)(f each:Nat):∀k,uw (C.wA A) f each k=uw C f each k
 |0=>rfl
 |k+1=>by
  have ih:=Rj C A f each k;unfold uw;rw[ih];rfl
theorem MK (C:Cs)(A:By)(f:Nat):gq (C.wA A) f=gq C f:=by
 unfold gq;rw[Rj];rfl
theorem FD (m:gp)(C:Cs)(A:By):∀k,fw m (C.wA A) k=fw m C k
 |0=>rfl
 |k+1=>by
  have ih:=FD m C A k;unfold fw;rw[ih,MK];rfl
theorem vv{f:Nat->Bool}{n:Nat}(h:∀j,j<n->f j=false):(abM n).find? f=none:=by
 rw[agE];intro x hx;rw[h x (ab0.1 hx)];simp
theorem Bf{f:Nat->Bool}{n k:Nat}(hk:k<n)(h:∀j,j<k->f j=false)(g:f k=true):(abM n).find? f=some k:=by
 rw[List.find?_range_eq_some];exact⟨g,ab0.2 hk,λj hj=>by simp[h j hj]⟩
def Bz (z:Ly)(B:Bx)(M:Mo):F8:=
 [ag z.y.t 154 (gE z.y.b B.W B.ty),ag B.ty.nk 149 (aS (aF B.W.nb)),nL B.ty.ok 149 (aS (aF B.W.ob)),ag z.y.q 182 (ij z.y.b z.qb B.C.ae.length),ag z.qb 333 (M.Q.flatMap (cX B.C)),ik z.y.cr z.y.q z.y.wh B.C.ae.length (aV z.s) (bx z.s) B.C M.x,Wl z.y.wh B.E M.tn,fy z.s z.y (fg M.v),kI z.y.ck M.k,nM z.y.lu z.y.b z.y.q z.hot z.warm,jJ M]
theorem abk{z:Ly}{B:Bx}{M:Mo}:∀h,ai (dS z B M++ []) h->ai [Cl z.y.b B.C,mN z.y.mo z.y.b z.ub (aV z.s) (bx z.s) (de z.s) M.m,kF z.ub M.m,aB (Bz z B M)] h:=λh s=>by
 have s1:ai (Bz z B M++ [Cl z.y.b B.C,mN z.y.mo z.y.b z.ub (aV z.s) (bx z.s) (de z.s) M.m,kF z.ub M.m]) h:=by
  revert s
  revert h
  unfold dS Bz;simp only[oU,cap];exact Eh
 have s2:=dZ s1
 revert s2
 generalize aB (Bz z B M)=X
 revert h
 intro h _ _ s2;exact(Eh:∀h,ai [X,Cl z.y.b B.C,xx z M.m,kF z.ub M.m] h->ai [Cl z.y.b B.C,xx z M.m,kF z.ub M.m,X] h) h s2
theorem El{z:Ly}{B:Bx}{M:Mo}:∀h,ai [Cl z.y.b B.C,mN z.y.mo z.y.b z.ub (aV z.s) (bx z.s) (de z.s) M.m,kF z.ub M.m,aB (Bz z B M)] h->ai (dS z B M++ []) h:=λh s=>by
 have s1:ai (aB (Bz z B M):: [Cl z.y.b B.C,mN z.y.mo z.y.b z.ub (aV z.s) (bx z.s) (de z.s) M.m,kF z.ub M.m]) h:=by
  revert s
  generalize aB (Bz z B M)=X;intro s;exact(Eh:∀h,ai [Cl z.y.b B.C,xx z M.m,kF z.ub M.m,X] h->ai [X,Cl z.y.b B.C,xx z M.m,kF z.ub M.m] h) h s
 have s2:ai (Bz z B M++ [Cl z.y.b B.C,xx z M.m,kF z.ub M.m]) h:=by
  obtain⟨h1,h2,d,l1,l2,a,b⟩:=s1;exact eU (bz a b d) (bQ l1 l2)
 revert s2
 clear s1 s
 revert h
 unfold dS Bz;simp only[oU,cap];exact Eh
theorem afZ{z:Ly}{B:Bx}{M:Mo}(O:bH B M){D N:Cs}{m':gp}(S:vF B.C D (λq=>q∈B.W.all)):Bz z B M=Bz z ⟨D,B.W,B.ty,B.E⟩ {M with C:=N,m:=m'}:=by
 have e1:=S.ls O.o λi q h=>O.nR h;have e2:=S.cw O.o (λi q h=>O.nR h) O.x z.y.q z.y.wh B.C.ae.length (aV z.s) (bx z.s);unfold Bz ik;dsimp only;rw[S.sz,e1,e2];rfl
theorem MG (z:Ly)(M:Mo)(hoff:M.m.on=false):aG aaa 136 [Dk z.y.mo] uT [SH z M]
  (λv H=>v= .tuple #[]/\H= [SH z M.dM]):=
 dJ λB O=>by
  have K:=O.k;have Z3:=O.un;have f3:=K.toFix.l1;have hC:B.C=M.C.wA B.C.A:=O.c;have Gj:B.C.spare=M.C.spare:=by rw[hC];rfl
  have hncl:B.C.ae.length=M.fG:=O.fG;have aaS:fw M.m B.C M.fG=fw M.m M.C M.fG:=by rw[hC,FD]
  have fp:=fM z.y.b B.C;have stv:=λc hc=>FU z.y.mo z.y.b z.ub (aV z.s) (bx z.s) (de z.s) M.m c hc;have lst:=λf hf=>MF z.y.mo z.y.b z.ub (aV z.s) (bx z.s) (de z.s) M.m B.C K f hf;have fre:=λf (hf:f<B.C.ae.length)=>(show aG _ _ _ _ _ _ from(by have h:=FC z.y.b B.C K (f:Int);rw[show ofM B.C (f:Int) (λi=>(B.C.rw i).free.length)=ko B.C f from(by unfold ofM;rw[if_pos ⟨by omega,by omega⟩];rfl)]at h;exact h));have hspl:B.C.spare<4611686018427387904:=by
   have:=x7 wQ (λx=>by unfold wQ;split<;>omega) B.C.bm;rw[K.sp];unfold Cs.wR;rw[K.pl]at this;have:=K.toFix.n1;omega
  refine af func136 rfl ntmps136 rfl ?_;intro F _;refine au abk ?_;unfold mN Du;refine bs ?_;refine zl Aa (fp) .nil (λ_ le ak=>ak.nth 0 rfl) ?_;refine bd ?_;by_cases OZ:0<B.C.spare
  ·refine fe ?_
   refine bd ?_;refine au (λh s=>ax O (H:= []) h (El h s)) ?_;refine Rt0 [SH z M] results136 ?_;refine⟨rfl, ?_⟩;unfold Mo.dM;rw[if_pos (by omega)]
  have WK:M.dM=match(abM M.fG).find? M.m.cD with
   |none=>M
   |some t=>match fw M.m M.C M.fG with
    |none=>M
    |some o=>{M with C:=M.C.cS o.1,m:={M.m with pg:=o.1,fr:=o.2,tt:=t,on:=true}}:=by unfold Mo.dM;rw[if_neg (by omega)]
  refine cN ?_;refine bK ?_;refine Lo (ι:=Nat) (FN [2,1,12,15]) (λk=>k<=M.fG/\∀j,j<k->M.m.cD j=false) (λk=> [(2,Dm Dl k)]) (λk=> [Cl z.y.b B.C,ag z.y.mo 220 [Dk z.y.b,aV z.s,bx z.s,de z.s, .slice (some ⟨z.ub,0,none⟩) M.m.un.length M.m.un.length,Dm Dl M.m.st,Dm Dl M.m.pg,Dm Dl M.m.fr,Dm Dl M.m.tt, .bool M.m.on],kF z.ub M.m,aB (Bz z B M)]) (λk=>M.fG-k) (0) ⟨abL _,λj h=>absurd h (Nat.not_lt_zero _)⟩ ?_;rintro k hI;obtain⟨hk,hns⟩:=hI;refine bB ?_;by_cases DG:k<M.fG
  ·have sk:=stv k (by omega)
   refine zt 19 ?_;refine bd ?_;refine zl Aa (sk) .nil (λ_ le ak=>⟨ak.nth 1 rfl,ak.nth 2 rfl⟩) ?_;refine bq ?_;refine az rfl ?_ ?_
   ·intro fA
    replace fA:=aO fA;have zD:M.m.cD k=false:=by simpa using fA
    refine cA ?_;refine Ro (k+1) (⟨by omega,λj h=>(by by_cases e:j=k;exact e▸zD;exact hns j (by omega))⟩) ((by omega))
   intro fA;replace fA:=aO fA;have zD:M.m.cD k=true:=by simpa using fA
   rw[Bf DG hns zD]at WK;dsimp only at WK;refine lx ?_;refine cN ?_;have SO:=λj (h:gq B.C j=none)=>sD (m:=M.m) h;have abp:=λj p g (h:gq B.C j=some p)=>vC (m:=M.m) (p:=p) g h;have SN:=λj g=>sC (m:=M.m) (C:=B.C) (k:=j) g;have abo:=λj o h=>qX (m:=M.m) (C:=B.C) (k:=j) (o:=o) h;have b_0:fw M.m B.C 0=none:=rfl;generalize fw M.m B.C=bf at*;generalize hlc:gq B.C=lc at*;refine bc ?_;refine Lp (oA QR λb1=> ?_);refine Lp (jh r9 ?_ (h1:=by simp[cL,Value.cells,Value.oneCell']));refine bP ?_;refine Hh (H':= [ag b1 218 [Dm Dl (-1),Dm Dl 0,Dm Dl 0, .bool false],Cl z.y.b B.C,ag z.y.mo 220 [Dk z.y.b,aV z.s,bx z.s,de z.s, .slice (some ⟨z.ub,0,none⟩) M.m.un.length M.m.un.length,Dm Dl M.m.st,Dm Dl M.m.pg,Dm Dl M.m.fr,Dm Dl M.m.tt, .bool M.m.on],kF z.ub M.m,aB (Bz z B M)]) ?_;rw[show([Dm Dl (-1),Dm Dl 0,Dm Dl 0, .bool false]:FJ)=PY k (bf 0) by rw[b_0];rfl];refine Lo (ι:=Nat) (FN [4,2,40,37]) (λj=>j<=M.fG) (λj=> [(40,Dm Dl j)]) (λj=> [ag b1 218 (PY k (bf j)),Cl z.y.b B.C,ag z.y.mo 220 [Dk z.y.b,aV z.s,bx z.s,de z.s, .slice (some ⟨z.ub,0,none⟩) M.m.un.length M.m.un.length,Dm Dl M.m.st,Dm Dl M.m.pg,Dm Dl M.m.fr,Dm Dl M.m.tt, .bool M.m.on],kF z.ub M.m,aB (Bz z B M)]) (λj=>M.fG-j) (0) (abL _) ?_;rintro j hj;refine bq ?_;refine av ?_;by_cases hjn:j<M.fG
   ·have sj:=stv j (by omega)
    have fj:=fre j (by omega);have lj:=lst j (by omega);have hfrj:=kA K j;refine fe ?_;refine cA ?_;refine av ?_;rcases hsj:M.m.cD j with _|_
    ·rw[hsj]at sj
     rcases hb:bf j with _|o
     ·have Br:¬(M.m.cD j=true\/∃o,bf j=some o/\ko B.C j<=ko B.C o.2):=by
       rintro(h|⟨o,h,_⟩)
       ·rw[hsj]at h;cases h
       rw[hb]at h;cases h
      rw[show PY k none=([Dm Dl (-1),Dm Dl 0,Dm Dl 0, .bool false]:FJ)from rfl];refine iU 24 mix (.cons .here (.cons .here (.cons .here (.cons .here .nil)))) λF1 jD bV aI=> ?_;obtain⟨q0,q1,q2,q3,_⟩:=bV;refine bd ?_;refine Tp (oZ (Aa (n:=198)) (sj) .nil (λ_ le _=>⟨In.mono q2 le,In.mono q3 le⟩) ?_);refine aw ?_;refine zf 46 ?_ (e:=by rfl);refine bc ?_;refine zf 50 ?_;refine ri ?_;refine gI aI ?_;refine bK ?_;refine bR ?_;refine zl Aa (lj) .nil (λ_ le ak=>⟨ak.nth 2 rfl,ak.nth 1 rfl⟩) ?_;rcases hl:lc j with _|p
      ·have e1:([Dm Dl (-1),Dm Dl 0,Dm Dl 0, .bool false]:FJ)=PY k (bf (j+1)):=by rw[SO j hl,hb];rfl
       refine bs ?_;refine cN ?_ (e:=by exact decide_eq_false (by show¬(0<=(-1:Int));omega));refine bs ?_;refine aD ?_;rw[e1];refine Ro (j+1) ((by omega)) ((by omega))
      have e1:([Dm Dl p,Dm Dl j,Dm Dl k, .bool true]:FJ)=PY k (bf (j+1)):=by rw[abp j p Br hl];rfl
      refine bs ?_;refine fe ?_ (e:=by exact decide_eq_true (by show 0<=((p:Nat):Int);omega));refine bn ?_;refine Lp (jh r9 ?_ (h1:=by simp[cL,Value.cells,Value.oneCell']));refine bs ?_;refine aD ?_;refine Hh (H':= [ag b1 218 [Dm Dl p,Dm Dl j,Dm Dl k, .bool true],Cl z.y.b B.C,ag z.y.mo 220 [Dk z.y.b,aV z.s,bx z.s,de z.s, .slice (some ⟨z.ub,0,none⟩) M.m.un.length M.m.un.length,Dm Dl M.m.st,Dm Dl M.m.pg,Dm Dl M.m.fr,Dm Dl M.m.tt, .bool M.m.on],kF z.ub M.m,aB (Bz z B M)]) ?_;rw[e1];refine Ro (j+1) ((by omega)) ((by omega))
     obtain⟨op,of⟩:=o;obtain⟨w1,w2,w3,w4⟩:=abo j _ hb;dsimp only at w1 w2 w3 w4;have fo:=fre of (by omega);have hfro:=kA K of;rw[show PY k (some (op,of))=([Dm Dl op,Dm Dl of,Dm Dl k, .bool true]:FJ)from rfl];refine iU 24 mix (.cons .here (.cons .here (.cons .here (.cons .here .nil)))) λF2 zH eL dw=> ?_;obtain⟨q0,q1,q2,q3,_⟩:=eL;refine bd ?_;refine Tp (oZ (Aa (n:=198)) (sj) .nil (λ_ le _=>⟨In.mono q2 le,In.mono q3 le⟩) ?_);refine aw ?_;refine zf 46 ?_ (e:=by rfl);refine bc ?_;refine zt 50 ?_;refine bn ?_;refine Tp (oZ (Aa (n:=199)) (fj) .nil (λ_ le _=>In.mono q1 le) ?_);refine bs ?_;refine Tp (oZ (Aa (n:=199)) (fo) .nil (λ_ le _=>In.mono q1 le) ?_);refine bq ?_;refine gI dw ?_;refine aw ?_;by_cases hle:ko B.C j<=ko B.C of
     ·have e1:([Dm Dl op,Dm Dl of,Dm Dl k, .bool true]:FJ)=PY k (bf (j+1)):=by rw[SN j (.inr ⟨_,hb,hle⟩),hb];rfl
      refine fe ?_;refine bK ?_;refine aD ?_;refine bR ?_;rw[e1];refine Ro (j+1) ((by omega)) ((by omega))
     have Br:¬(M.m.cD j=true\/∃o,bf j=some o/\ko B.C j<=ko B.C o.2):=by
      rintro(h|⟨o,h,g⟩)
      ·rw[hsj]at h;cases h
      rw[hb]at h;cases h;exact hle g
     refine cN ?_;refine bn ?_;refine bR ?_;refine zl Aa (lj) .nil (λ_ le ak=>⟨ak.nth 2 rfl,ak.nth 1 rfl⟩) ?_;rcases hl:lc j with _|p
     ·have e1:([Dm Dl op,Dm Dl of,Dm Dl k, .bool true]:FJ)=PY k (bf (j+1)):=by rw[SO j hl,hb];rfl
      refine bs ?_;refine cN ?_ (e:=by exact decide_eq_false (by show¬(0<=(-1:Int));omega));refine bs ?_;refine aD ?_;rw[e1];refine Ro (j+1) ((by omega)) ((by omega))
     have e1:([Dm Dl p,Dm Dl j,Dm Dl k, .bool true]:FJ)=PY k (bf (j+1)):=by rw[abp j p Br hl];rfl
     refine bs ?_;refine fe ?_ (e:=by exact decide_eq_true (by show 0<=((p:Nat):Int);omega));refine bn ?_;refine Lp (jh r9 ?_ (h1:=by simp[cL,Value.cells,Value.oneCell']));refine bs ?_;refine aD ?_;refine Hh (H':= [ag b1 218 [Dm Dl p,Dm Dl j,Dm Dl k, .bool true],Cl z.y.b B.C,ag z.y.mo 220 [Dk z.y.b,aV z.s,bx z.s,de z.s, .slice (some ⟨z.ub,0,none⟩) M.m.un.length M.m.un.length,Dm Dl M.m.st,Dm Dl M.m.pg,Dm Dl M.m.fr,Dm Dl M.m.tt, .bool M.m.on],kF z.ub M.m,aB (Bz z B M)]) ?_;rw[e1];refine Ro (j+1) ((by omega)) ((by omega))
    rw[hsj]at sj;rw[<-SN j (.inl hsj)];refine iU 24 mix (.cons .here (.cons .here (.cons .here (.cons .here .nil)))) λF3 WC sP fJ=> ?_;obtain⟨q0,q1,q2,q3,_⟩:=sP;refine bd ?_;refine Tp (oZ (Aa (n:=198)) (sj) .nil (λ_ le _=>⟨In.mono q2 le,In.mono q3 le⟩) ?_);refine aw ?_;refine zt 46 ?_ (e:=by rfl);refine cK ?_;refine gI fJ ?_;refine cA ?_;refine aD ?_;refine bR ?_;refine Ro (j+1) ((by omega)) ((by omega))
   obtain rfl:j=M.fG:=by omega
   rw[aaS];refine cN ?_;rcases hb:fw M.m M.C M.fG with _|o
   ·rw[hb]at WK
    rw[show PY k none=([Dm Dl (-1),Dm Dl 0,Dm Dl 0, .bool false]:FJ)from rfl];refine bn ?_;refine av ?_;refine iU 12 mix (.cons .here (.cons .here (.cons .here (.cons .here .nil)))) λF4 le4 LF rF=> ?_;obtain⟨q0,q1,q2,q3,_⟩:=LF;refine bq ?_;refine zf 79 ?_ (e:=by rfl);refine cA ?_;refine gI rF ?_;refine bq ?_;refine bR ?_;refine Hh (H':= [Cl z.y.b B.C,ag z.y.mo 220 [Dk z.y.b,aV z.s,bx z.s,de z.s, .slice (some ⟨z.ub,0,none⟩) M.m.un.length M.m.un.length,Dm Dl M.m.st,Dm Dl M.m.pg,Dm Dl M.m.fr,Dm Dl M.m.tt, .bool M.m.on],kF z.ub M.m,aB (Bz z B M)]) ?_;refine au (λh s=>ax O (H:= []) h (El h s)) ?_;refine jU [SH z M] results136 ?_;exact⟨rfl,by rw[WK]⟩
   obtain⟨op,of⟩:=o;obtain⟨w1,w2,w3,w4⟩:=abo M.fG _ (aaS.trans hb);dsimp only at w1 w2 w3 w4;obtain⟨jC,S,O2⟩:=O.leave hoff (t:=k) w1 w2 w3;rw[hb]at WK;dsimp only at WK;rw[show PY k (some (op,of))=([Dm Dl op,Dm Dl of,Dm Dl k, .bool true]:FJ)from rfl];refine bn ?_;refine av ?_;refine iU 9 mix (.cons .here (.cons (.there .here) .nil)) λF5 le5 Xj vR=> ?_;obtain⟨q0,q2,_⟩:=Xj;refine bq ?_;refine zt 79 ?_ (e:=by rfl);refine bs ?_;refine gI vR ?_;refine Tp (oZ (Aa (n:=201)) (UI z.y.b B.C K op w1 w2 jC) (.cons (.t2 .here) .nil) Di ?_);refine cA ?_;refine Lp (oSN r9 ?_ (h1:=by simp[cL,Value.cells,Value.oneCell']));refine aD ?_;refine Hh (H':= [Cl z.y.b (B.C.cS op),ag z.y.mo 220 [Dk z.y.b,aV z.s,bx z.s,de z.s, .slice (some ⟨z.ub,0,none⟩) M.m.un.length M.m.un.length,Dm Dl M.m.st,Dm Dl op,Dm Dl of,Dm Dl k, .bool true],kF z.ub M.m,aB (Bz z B M)]) ?_;rw[afZ (N:=M.C.cS op) (m':={M.m with pg:=op,fr:=of,tt:=k,on:=true}) O S];rw[WK];refine au (λh s=>ax O2 (H:= []) h (El h s)) ?_;refine jU [SH z {M with C:=M.C.cS op,m:={M.m with pg:=op,fr:=of,tt:=k,on:=true}}] results136 ?_;exact⟨rfl,rfl⟩
  obtain rfl:k=M.fG:=by omega
  rw[vv hns]at WK;refine zf 19 ?_;refine cK ?_;refine bd ?_;refine fe ?_;refine bd ?_;refine au (λh s=>ax O (H:= []) h (El h s)) ?_;refine Rt0 [SH z M] results136 ?_;exact⟨rfl,by rw[WK]⟩
theorem EB{α:Type}(f:α->Nat):∀l:List α,(∀x∈l,f x=0)->(l.map f).sum=0
 | [],_=>rfl
 |x::l,h=>by
  rw[aaj,abJ,h x aag,EB f l λy hy=>h y (aai _ hy)]
theorem Il{C:Cs}(K:Ok C)(h:0<C.spare):∃i,C.gr=some i:=by
 cases hf:C.gr with
 |some i=>exact⟨i,rfl⟩
 |none=>
  exfalso;have h1:∀x∈C.bm,wQ x=0:=λx hx=>by
   have:=ago.1 hf x hx;unfold wQ;rw[if_pos (by simpa using this)]
  have h2:=K.sp;unfold Cs.wR at h2;have h3:=EB wQ C.bm h1;omega
theorem vW{C:Cs}(K:Ok C){c:Nat}(hc:c<C.ae.length)(h:0<C.spare):∃p D,C.ca c=some (p,D)/\C.spare<=D.spare+1:=by
 unfold Cs.ca;cases (C.rw c).free.getLast? with
 |some p=>exact⟨p,_,rfl,Nat.le_succ _⟩
 |none=>
  obtain⟨i,hi⟩:=Il K h;obtain⟨p,hp⟩:=yU K (i:=i) hc;dsimp only;rw[hi];dsimp only;rw[hp];refine⟨p,_,rfl, ?_⟩;show C.spare<=C.spare-1+1;omega
structure Gv (C D:Cs):Prop where
 sz:D.ae=C.ae
 n:D.n=C.n
 ps:D.ao=C.ao
 sp:D.spare=C.spare
 pg:∀c,(D.rw c).bA=(C.rw c).bA
 tk:∀c,(D.rw c).ct<=(C.rw c).ct
theorem Gv.refl (C:Cs):Gv C C:=⟨rfl,rfl,rfl,rfl,λ_=>rfl,λ_=>aam _⟩
theorem Gv.trans{C D E:Cs}(a:Gv C D)(b:Gv D E):Gv C E:=⟨b.sz.trans a.sz,b.n.trans a.n,b.ps.trans a.ps,b.sp.trans a.sp,λc=>(b.pg c).trans (a.pg c),λc=>ahb (b.tk c) (a.tk c)⟩
theorem Kr (C:Cs)(p:Nat):Gv C (C.aL p):=by
 have h:∀c,(C.aL p).rw c=C.rw c\/((C.aL p).rw c).bA=(C.rw c).bA/\((C.aL p).rw c).ct=(C.rw c).ct-1:=λc=>by
  by_cases g:C.cl p<C.rows.length
  ·have e:(C.aL p).rw c=_:=uM C (C.cl p) c {C.rw (C.cl p)with free:=if(C.pg (C.pn p)).lv=true then(C.rw (C.cl p)).free else(C.rw (C.cl p)).free++ [p],ct:=(C.rw (C.cl p)).ct-1} g
   by_cases i:c=C.cl p
   ·rw[if_pos i]at e
    right;rw[e,i];exact⟨rfl,rfl⟩
   rw[if_neg i]at e;exact .inl e
  left;unfold Cs.aL Cs.put Cs.rw;dsimp only;rw[List.set_eq_of_length_le (by omega)]
 refine⟨rfl,rfl,rfl,rfl,λc=> ?_,λc=> ?_⟩
 ·rcases h c with e|⟨e,_⟩
  ·rw[e]
  exact e
 rcases h c with e|⟨_,e⟩
 ·rw[e];exact aam _
 omega
structure Ev (M N:Mo):Prop where
 on:N.m.on=M.m.on
 g:Gv M.C N.C
theorem Ev.rf{M N:Mo}(h1:N.m.on=M.m.on)(h2:N.C=M.C):Ev M N:=⟨h1,by rw[h2];exact .refl _⟩
theorem Ev.trans{M N O:Mo}(a:Ev M N)(b:Ev N O):Ev M O:=⟨b.on.trans a.on,a.g.trans b.g⟩
theorem Ev.bw (M:Mo)(p:Nat):Ev M (M.bw p):=⟨rfl,Kr M.C p⟩
theorem Ev.look (M:Mo)(p:Nat):Ev M (M.look p):=by
 unfold Mo.look;split
 ·exact Ev.bw M p
 exact .rf rfl rfl
theorem Ev.looks:∀(l:FH) (M:Mo),Ev M (l.foldl Mo.look M)
 | [],_=> .rf rfl rfl
 |p::l,M=>(Ev.look M p).trans (Ev.looks l (M.look p))
theorem Ev.bY:∀(f:Nat) (M:Mo),Ev M (M.bY f).2
 |0,_=> .rf rfl rfl
 |f+1,M=>by
  unfold Mo.bY;split
  ·next x h=>
   split
   ·next p hp=>exact((Ev.rf rfl rfl:Ev M {M with x:=x.pass M.Q}).trans (Ev.look _ p)).trans (Ev.bY f _)
   exact .rf rfl rfl
  exact .rf rfl rfl
theorem Ev.cb (M:Mo)(now most:Int):Ev M (M.cb now most).2:=by
 unfold Mo.cb;split
 ·exact .rf rfl rfl
 exact(Ev.looks _ M).trans (Ev.bY _ _)
structure jV (M:Mo)(j:Nat):Prop where
 on:M.m.on=false
 sp:j<=M.C.spare
theorem jV.ev{M N:Mo}{j:Nat}(A:jV M j)(E:Ev M N):jV N j:=⟨E.on.trans A.on,by rw[E.g.sp];exact A.sp⟩
theorem jV.le{M:Mo}{i j:Nat}(A:jV M j)(h:i<=j):jV M i:=⟨A.on,ahb h A.sp⟩
theorem bH.mc0{B:Bx}{M:Mo}(O:bH B M):Ok M.C:=by
 have h:=O.k.wA M.C.A;rw[O.c]at h;exact h
def Mo.cx:Nat->Mo->Nat×Mo
 |0,M=>(0,M)
 |f+1,M=>if M.c8.1=true then((M.c8.2.cx f).1+1,(M.c8.2.cx f).2)else(0,M.c8.2)
def Mo.dQ (M:Mo):Mo:={M with m:={M.m with st:=M.m.st+1}}
noncomputable def Mo.eG (M:Mo)(most:Int):Nat×Mo:=if min most 1048576<1 then(0,M)else if M.m.on=true then M.dQ.cx (min most 1048576).toNat else(0,M.dQ.dM)
theorem qL{M N:Mo}{f:Nat}(h:M.c8=(true,N)):M.cx (f+1)=((N.cx f).1+1,(N.cx f).2):=by
 conv=>lhs;unfold Mo.cx
 rw[h];rfl
theorem qM{M N:Mo}{f:Nat}(h:M.c8=(false,N)):M.cx (f+1)=(0,N):=by
 conv=>lhs;unfold Mo.cx
 rw[h];rfl
theorem bH.dQ{B:Bx}{M:Mo}(O:bH B M):bH B M.dQ:=
 ⟨O.c,O.k,O.t,O.ty,O.o,O.x,O.mq,O.ck,O.al,O.lv,O.ho,O.it,O.e,O.st,O.nb,O.mg,O.mo,O.bt,O.un,O.on,O.go,O.wn,O.cf,O.n,O.lg⟩
theorem XJ{M N:Mo}{c r:Nat}(h:M.take c=some (r,N)):N.m=M.m:=by
 unfold Mo.take at h;cases hc:M.C.ca c with
 |none=>rw[hc]at h;cases h
 |some o=>rw[hc]at h;cases h;rfl
theorem yw{M N:Mo}{p:Nat}(h:M.shift p=some N):N.hole=none/\N.m=M.m:=by
 unfold Mo.shift at h;cases hc:M.take (M.C.cl p)with
 |none=>rw[hc]at h;cases h
 |some o=>
  rw[hc]at h;cases h;exact⟨rfl,XJ (r:=o.1) (N:=o.2) hc⟩
theorem UA{M N:Mo}(hh:M.hole=none)(h:M.c8=(true,N)):N.hole=none/\N.m=M.m:=by
 unfold Mo.c8 at h;split at h
 ·cases h
 split at h
 ·cases h;exact⟨hh,rfl⟩
 split at h
 ·next hs=>cases h;exact yw hs
 cases h
theorem ky (z:Ly)(M:Mo)(hh:M.hole=none)(fA:M.m.st<4611686018427387904)(most:Int):aG aaa 89 [Dk z.y.mo,Dm Dl most] uT [SH z M]
  (λv H=>∃n N,M.eG most=(n,N)/\v=Dm Dl n/\H= [SH z N]):=by
 have rq:M.eG most=if min most 1048576<1 then(0,M)else if M.m.on=true then M.dQ.cx (min most 1048576).toNat else(0,M.dQ.dM):=rfl
 have hmle:min most 1048576<=1048576:=akH _ _;refine af func89 rfl ntmps89 rfl ?_;intro F _;refine bn ?_;refine Li Mi ?_;refine bd ?_;refine av ?_;refine aA (t:=1) (v':=(Dm Dl (min most 1048576))) rfl (by rfl) ?_;generalize min most 1048576=m at*;refine bc ?_;by_cases h1:m<1
 ·rw[if_pos h1]at rq
  refine fe ?_ (e:=by exact decide_eq_true h1);refine bn ?_;refine Rt [SH z M] results89 ?_;exact⟨0,M,rq,rfl,rfl⟩
 rw[if_neg h1]at rq;refine cN ?_ (e:=by exact decide_eq_false h1);refine bd ?_;refine cB λB O=>au abk ?_;unfold mN Du;refine Lu ?_;refine au (λh s=>ax O.dQ (H:= []) h (El h (z:=z) (B:=B) (M:=M.dQ) s)) ?_;rcases eo:M.m.on with _|_
 ·rw[eo,if_neg (by decide)]at rq
  refine bq ?_;refine zl Aa (MG z M.dQ eo) (.cons .here .nil) Di ?_;refine bs ?_;refine Rt [SH z M.dQ.dM] results89 ?_;exact⟨0,_,rq,rfl,rfl⟩
 rw[eo,if_pos rfl]at rq;refine cV ?_;refine Lo (ι:=Mo×Nat) (FN [5,1,25,9]) (λs=>(s.1.hole=none/\s.1.m=M.dQ.m/\s.2<=m.toNat)/\M.dQ.cx m.toNat=(s.2+(s.1.cx (m.toNat-s.2)).1,(s.1.cx (m.toNat-s.2)).2)) (λs=> [(5,Dm Dl s.2)]) (λs=> [SH z s.1]) (λs=>m.toNat-s.2) ((M.dQ,0)) ⟨⟨hh,rfl,abL _⟩,(by dsimp only;rw[abH];rfl)⟩ ?_;rintro⟨N,l⟩ hI
 try dsimp only at hI⊢
 obtain⟨⟨i1,i2,i3⟩,i4⟩:=hI;have hNon:N.m.on=true:=by rw[i2];exact eo
 refine bs ?_;by_cases hlm:(l:Int)<m
 ·obtain⟨f,hf⟩:∃f,m.toNat-l=f+1:=⟨m.toNat-l-1,by omega⟩
  rw[hf]at i4;refine zt 28 ?_ (e:=by exact decide_eq_true hlm);refine aw ?_;refine Lp (oC Aa rfl rfl (UE z N i1 hNon) (.cons .here .nil) Di ?_);rintro v H' ⟨r,N2,K9,rfl,rfl⟩;refine bR ?_;rcases r with _|_
  ·rw[qM K9]at i4
   refine gJ ?_;refine Rt [SH z N2] results89 ?_;exact⟨l,N2,rq.trans i4,rfl,rfl⟩
  rw[qL K9]at i4;obtain⟨g1,g2⟩:=UA i1 K9;refine dL ?_;refine Ro ((N2,l+1)) (⟨⟨g1,g2.trans i2,(by dsimp only;omega)⟩,(by dsimp only;rw[i4,show m.toNat-(l+1)=f by omega];exact Prod.ext (by dsimp only;omega) rfl)⟩) ((by dsimp only;omega))
 rw[show m.toNat-l=0 by omega]at i4;refine zf 28 ?_ (e:=by exact decide_eq_false hlm);refine lx ?_;refine Rt [SH z N] results89 ?_;exact⟨l,N,rq.trans i4,rfl,rfl⟩
theorem bH.tbl{B:Bx}{M:Mo}(O:bH B M){A:By}{V:Tb}{ty:pq}{nb mg:Nat}(d:ry B.C.A A B.W.all 0 4)(T:dt (B.C.wA A) V)(pm:V.all.Perm B.W.all)(hy:ty.ok=none->V.ob= [])(hn:V.n=B.W.n)(hmo:V.most=B.W.most)(Br:V.size=nb)(DE:mg=if V.st=2 then V.ob.length-V.mv else 0)(fA:V.st=2->V.mv<V.ob.length):
  bH ⟨B.C.wA A,V,ty,B.E⟩ {M with nb:=nb,mg:=mg}:=by
 have K:=O.k;have dP:=vQ d (λq hq=>O.mL hq) (λq hq=>by have:=((O.mL hq).ba K).2.1;omega);have same:∀q∈B.W.all,mj A q=mj B.C.A q:=λq h=>vJ K dP (O.mL h) (O.t.it q h) λj s=>by obtain⟨_,_,s3⟩:=s;omega
 have jC:∀q,Live (B.C.wA A) q↔Live B.C q:=λq=>⟨λh=>⟨⟨h.i,h.own,h.al,h.k⟩,h.tk⟩,λh=>h.wA _⟩;refine⟨?_,K.wA A,T,hy,Lw K O.o dP (λj q hq u g=>S04 g),O.x,λj q h=> ?_,O.ck,λq=>pm.mem_iff.trans (O.al q),λq=> ?_,λq h g=>O.ho q h (pm.mem_iff.1 g),λq h=>(same q (pm.mem_iff.1 h)).trans (O.it q (pm.mem_iff.1 h)),O.e.trans (jB pm.symm),fA,Br,DE,hmo.trans O.mo, ?_,O.un,O.on,O.go,O.wn,O.cf,hn.trans O.n,λq h=>O.lg q (pm.mem_iff.1 h)⟩
 ·show B.C.wA A=M.C.wA A
  conv=>lhs;rw[O.c]
  rfl
 ·show dB A q<16
  rw[show dB A q=dB B.C.A q from congrArg I3.eP (same q (O.nR h))];exact O.mq j q h
 ·show Live (B.C.wA A) q↔q∈V.all\/_
  rw[jC,pm.mem_iff];exact O.lv q
 show M.v.fB=_;rw[O.bt];exact(lU _ pm).symm
def Mo.Ak (M:Mo)(k:Nat):Mo:={M with mg:=M.mg-min k M.mg}
theorem bH.tst{B:Bx}{M:Mo}(O:bH B M){k:Nat}{A:By}{V:Tb}{ty:pq}(h2:B.W.st=2)(hy:ty.ok=none->V.ob= [])(S:Stp B.C B.W k A V):bH ⟨B.C.wA A,V,ty,B.E⟩ (M.Ak k):=by
 have cJ:=O.st h2;have DE:=O.mg;rw[if_pos h2]at DE;have hz:V.ob.length-V.mv=if B.W.mv+k<B.W.ob.length then M.mg-min k M.mg else V.ob.length-V.mv:=by
  split
  ·next g=>obtain⟨_,e1,e2⟩:=S.on g;rw[e1,e2,DE];omega
  rfl
 refine O.tbl (nb:=M.nb) (mg:=M.mg-min k M.mg) S.d S.o S.p hy S.n S.most (S.size.trans O.nb) ?_ ?_
 ·by_cases g:B.W.mv+k<B.W.ob.length
  ·obtain⟨e0,e1,e2⟩:=S.on g
   rw[if_pos e0,e1,e2,DE];omega
  have e0:=S.off (by omega);rw[if_neg (by omega),DE];omega
 intro e;by_cases g:B.W.mv+k<B.W.ob.length
 ·obtain⟨e0,e1,e2⟩:=S.on g
  rw[e1,e2];exact g
 have e0:=S.off (by omega);omega
theorem LZ{B:Bx}{M:Mo}(O:bH B M)(z:Ly)(k:Nat)(hk:k<=1099511627776):
  aG aaa 88 [Dk z.y.t,Dm Dl k] (λ_=>True) (Cl z.y.b B.C::mM z.y.t z.y.b B.W B.ty)
   (λv H=>v=Dm Dl (min k M.mg:Nat)/\∃A V ty,H=Cl z.y.b (B.C.wA A)::mM z.y.t z.y.b V ty/\bH ⟨B.C.wA A,V,ty,B.E⟩ (M.Ak k)):=by
 rcases O.t.st with⟨h0,_⟩|⟨h2,_,_⟩
 ·have hm0:=O.st0.2 h0
  have h:=(L6 z.y.t z.y.b B.C O.k B.W B.ty h0 k).fr (H:=Cl z.y.b B.C::mM z.y.t z.y.b B.W B.ty) (R:=Cl z.y.b B.C::mM z.y.t z.y.b B.W B.ty) (kY [] _) (λk ak=>ak.nth 1 rfl);refine h.out ?_;rintro v H' ⟨H0,⟨rfl,rfl⟩,rfl⟩;refine⟨_,⟨by rw[hm0,akX];rfl,B.C.A,B.W,B.ty,rfl, ?_⟩,λ_ s=>s⟩;have:M.Ak k=M:=by unfold Mo.Ak;rw[hm0,akX];cases M;simp_all
  rw[this];exact O
 have cJ:=O.st h2;have DE:=O.mg;rw[if_pos h2]at DE;obtain⟨ok,pC⟩:∃ok,B.ty.ok=some ok:=by
  cases h:B.ty.ok with
  |none=>have:=O.ty h;rw[this]at cJ;simp at cJ
  |some x=>exact⟨x,rfl⟩
 have hty:B.ty=⟨B.ty.nk,some ok⟩:=by rw[<-pC]
 have h:=L3 z.y.t z.y.b B.C O.k B.W B.ty.nk ok O.t h2 cJ k hk;rw[<-hty]at h;refine h.out ?_;rintro v H' ⟨rfl,A,V,o',rfl,hy,S⟩;exact⟨_,⟨by rw[DE],A,V,⟨B.ty.nk,o'⟩,rfl,O.tst h2 hy S⟩,λ_ s=>s⟩
def Mo.aN (M:Mo)(t:Mt):Mo:={M with v:={M.v with mt:=t}}
theorem bH.aN{B:Bx}{M:Mo}(O:bH B M)(t:Mt):bH B (M.aN t):=
 ⟨O.c,O.k,O.t,O.ty,O.o,O.x,O.mq,O.ck,O.al,O.lv,O.ho,O.it,O.e,O.st,O.nb,O.mg,O.mo,O.bt,O.un,O.on,O.go,O.wn,O.cf,O.n,O.lg⟩
theorem J8 (M:Mo)(p:Nat):(M.look p).hole=M.hole/\(M.look p).m=M.m/\(M.look p).v.p=M.v.p/\(M.look p).v.mt=M.v.mt/\(M.look p).v.c=M.v.c/\(M.look p).v.aQ=M.v.aQ/\(M.look p).tn=M.tn:=by
 unfold Mo.look;split<;>exact⟨rfl,rfl,rfl,rfl,rfl,rfl,rfl⟩
theorem EW:∀(l:FH) (M:Mo),(l.foldl Mo.look M).hole=M.hole/\(l.foldl Mo.look M).m=M.m/\(l.foldl Mo.look M).v.p=M.v.p/\(l.foldl Mo.look M).v.mt=M.v.mt/\(l.foldl Mo.look M).v.c=M.v.c/\(l.foldl Mo.look M).v.aQ=M.v.aQ/\(l.foldl Mo.look M).tn=M.tn
 | [],M=>⟨rfl,rfl,rfl,rfl,rfl,rfl,rfl⟩
 |p::l,M=>by
  obtain⟨a1,a2,a3,a4,a5,a6,a7⟩:=J8 M p;obtain⟨b1,b2,b3,b4,b5,b6,b7⟩:=EW l (M.look p);rw[agn];exact⟨b1.trans a1,b2.trans a2,b3.trans a3,b4.trans a4,b5.trans a5,b6.trans a6,b7.trans a7⟩
theorem Bh:∀(f:Nat) (M:Mo),(M.bY f).2.hole=M.hole/\(M.bY f).2.m=M.m/\(M.bY f).2.v.p=M.v.p/\(M.bY f).2.v.mt=M.v.mt/\(M.bY f).2.v.c=M.v.c/\(M.bY f).2.v.aQ=M.v.aQ/\(M.bY f).2.tn=M.tn
 |0,M=>⟨rfl,rfl,rfl,rfl,rfl,rfl,rfl⟩
 |f+1,M=>by
  rcases hf:M.x.find M.fG M.Q with⟨_|_,x⟩
  ·rw[qU hf];exact⟨rfl,rfl,rfl,rfl,rfl,rfl,rfl⟩
  cases hx:x.nx with
  |none=>
   unfold Mo.bY;rw[hf];dsimp only;rw[hx];exact⟨rfl,rfl,rfl,rfl,rfl,rfl,rfl⟩
  |some p=>
   rw[qT hf hx];obtain⟨a1,a2,a3,a4,a5,a6,a7⟩:=J8 {M with x:=x.pass M.Q} p;obtain⟨b1,b2,b3,b4,b5,b6,b7⟩:=Bh f (({M with x:=x.pass M.Q}:Mo).look p);exact⟨b1.trans a1,b2.trans a2,b3.trans a3,b4.trans a4,b5.trans a5,b6.trans a6,b7.trans a7⟩
theorem tY (M:Mo)(now most:Int):(M.cb now most).2.hole=M.hole/\(M.cb now most).2.m=M.m/\(M.cb now most).2.v.p=M.v.p/\(M.cb now most).2.v.mt=M.v.mt/\(M.cb now most).2.v.c=M.v.c/\(M.cb now most).2.v.aQ=M.v.aQ/\(M.cb now most).2.tn=M.tn:=by
 unfold Mo.cb;split
 ·exact⟨rfl,rfl,rfl,rfl,rfl,rfl,rfl⟩
 unfold Mo.oc;obtain⟨a1,a2,a3,a4,a5,a6,a7⟩:=EW (M.iI now (min most 1048576)) M;obtain⟨b1,b2,b3,b4,b5,b6,b7⟩:=Bh ((min most 1048576).toNat-(M.iI now (min most 1048576)).length) ((M.iI now (min most 1048576)).foldl Mo.look M);exact⟨b1.trans a1,b2.trans a2,b3.trans a3,b4.trans a4,b5.trans a5,b6.trans a6,b7.trans a7⟩
structure Dx (M N:Mo):Prop where
 h:M.hole=none->N.hole=none
 p:N.v.p=M.v.p
 mt:N.v.mt=M.v.mt
 c:N.v.c=M.v.c
 aQ:N.v.aQ=M.v.aQ
 tn:N.tn=M.tn
 k:N.k=M.k
 w:N.jZ=M.jZ
theorem Dx.refl (M:Mo):Dx M M:=⟨id,rfl,rfl,rfl,rfl,rfl,rfl,rfl⟩
theorem Dx.trans{M N O:Mo}(a:Dx M N)(b:Dx N O):Dx M O:=⟨λh=>b.h (a.h h),b.p.trans a.p,b.mt.trans a.mt,b.c.trans a.c,b.aQ.trans a.aQ,b.tn.trans a.tn,b.k.trans a.k,b.w.trans a.w⟩
theorem V3 (M:Mo)(p:Nat):Dx M (M.bw p):=⟨id,rfl,rfl,rfl,rfl,rfl,rfl,rfl⟩
theorem Mh{M N:Mo}{p:Nat}(h:M.shift p=some N):Dx M N:=by
 unfold Mo.shift at h;cases hc:M.take (M.C.cl p)with
 |none=>rw[hc]at h;cases h
 |some o=>
  rw[hc]at h;cases h;unfold Mo.take at hc;cases hd:M.C.ca (M.C.cl p)with
  |none=>rw[hd]at hc;cases hc
  |some q=>rw[hd]at hc;cases hc;exact⟨λ_=>rfl,rfl,rfl,rfl,rfl,rfl,rfl,rfl⟩
theorem AV{M N:Mo}{r:Bool}(h:M.c8=(r,N)):Dx M N/\N.m.st=M.m.st:=by
 unfold Mo.c8 at h;split at h
 ·cases h;exact⟨⟨id,rfl,rfl,rfl,rfl,rfl,rfl,rfl⟩,rfl⟩
 split at h
 ·cases h;exact⟨V3 M _,rfl⟩
 split at h
 ·next hs=>cases h;exact⟨Mh hs,by rw[(yw hs).2]⟩
 cases h;exact⟨⟨id,rfl,rfl,rfl,rfl,rfl,rfl,rfl⟩,rfl⟩
theorem zi:∀(f:Nat) (M:Mo),Dx M (M.cx f).2/\(M.cx f).2.m.st=M.m.st
 |0,M=>⟨Dx.refl M,rfl⟩
 |f+1,M=>by
  rcases hm:M.c8 with⟨_|_,N⟩
  ·rw[qM hm];exact AV hm
  rw[qL hm];obtain⟨a,b⟩:=AV hm;obtain⟨c,d⟩:=zi f N;exact⟨a.trans c,d.trans b⟩
theorem IE (M:Mo):Dx M M.dM/\M.dM.m.st=M.m.st:=by
 unfold Mo.dM;split
 ·exact⟨Dx.refl M,rfl⟩
 split
 ·exact⟨Dx.refl M,rfl⟩
 split
 ·exact⟨Dx.refl M,rfl⟩
 exact⟨⟨id,rfl,rfl,rfl,rfl,rfl,rfl,rfl⟩,rfl⟩
theorem ic (M:Mo)(most:Int):Dx M (M.eG most).2/\(M.eG most).2.m.st<=M.m.st+1:=by
 unfold Mo.eG;split
 ·exact⟨Dx.refl M,Nat.le_succ _⟩
 have t:Dx M M.dQ:=⟨id,rfl,rfl,rfl,rfl,rfl,rfl,rfl⟩;split
 ·obtain⟨a,b⟩:=zi (min most 1048576).toNat M.dQ
  exact⟨t.trans a,by rw[b];exact aam _⟩
 obtain⟨a,b⟩:=IE M.dQ;exact⟨t.trans a,by show M.dQ.dM.m.st<=_;rw[b];exact aam _⟩
structure xO (p:pD):Prop where
 b:0<=p.b/\p.b<=1048576
 l:0<=p.l/\p.l<=1048576
 c:0<=p.c/\p.c<=1048576
 m:0<=p.m/\p.m<=1048576
def Mo.cy (M:Mo):Mo:=(M.Ak M.v.p.b.toNat).aN {M.v.mt with bu:=cM (M.v.mt.bu+(min M.v.p.b.toNat M.mg:Nat))}
noncomputable def Mo.gA (M:Mo):Mo:=(M.cb M.k.now M.v.p.c).2.aN {M.v.mt with cr:=cM (M.v.mt.cr+((M.cb M.k.now M.v.p.c).1:Nat))}
noncomputable def Mo.kM (M:Mo):Mo:=(M.eG M.v.p.m).2.aN {M.v.mt with mv:=cM (M.v.mt.mv+((M.eG M.v.p.m).1:Nat))}
noncomputable def Mo.beside (M:Mo):Mo:=M.cy.gA.kM
theorem ZL (M:Mo):M.gA.hole=M.hole/\M.gA.m=M.m/\M.gA.v.p=M.v.p:=by
 obtain⟨a1,a2,a3,a4,a5,a6,a7⟩:=tY M M.k.now M.v.p.c;exact⟨a1,a2,a3⟩
theorem jV.eG{M:Mo}(A:jV M 1)(most:Int):Ev M (M.eG most).2:=by
 have h:=A.sp;have T:Ev M M.dQ:= .rf rfl rfl;unfold Mo.eG;split
 ·exact .rf rfl rfl
 rw[if_neg (by rw[A.on];decide)];unfold Mo.dM;rw[if_pos (show 0<M.dQ.C.spare from(by show 0<M.C.spare;omega))];exact T
theorem OL (wN:pT)(z:Ly)(M:Mo)(hh:M.hole=none)(fA:M.m.st<4611686018427387904)(PN:xO M.v.p):aG aaa 45 [Dk z.s] uT [SH z M]
  (λv H=>v= .tuple #[]/\H= [SH z M.beside]):=by
 refine af func45 rfl ntmps45 rfl ?_;intro F _;refine cB λB O=> ?_;have ts:=LZ O z M.v.p.b.toNat (by have:=PN.b;omega);rw[show((M.v.p.b.toNat:Nat):Int)=M.v.p.b by have:=PN.b;omega]at ts;unfold dS fy iT fg pV iZ;refine bR ?_;refine av ?_;refine iU 20 mix (.cons (.t8 .here) .nil) λF1 jD bV aI=> ?_;obtain⟨q1,_⟩:=bV;refine lx ?_;refine Tp (oC Aa rfl rfl (ts) (.cons .here (.cons .here (.cons .here (.cons .here .nil)))) Di ?_);rintro v H' ⟨rfl,A,V,ty,rfl,O1⟩;refine bR ?_;have O2:=O1.aN {M.v.mt with bu:=cM (M.v.mt.bu+(min M.v.p.b.toNat M.mg:Nat))};refine bc ?_;refine gI aI ?_;refine bd ?_;refine Hh (H':= [Cl z.y.b (B.C.wA A),DH z V ty,zK ty V,DJ ty V,DI z B.C.ae.length,ag z.qb 333 (M.Q.flatMap (cX B.C)),Wp z B.C.ae.length B.C M.x,Wl z.y.wh B.E M.tn,ag z.s 96 [Dk z.y.b,Dk z.y.ck,Dk z.y.t,Dk z.y.lu,Dk z.y.wh,Dk z.y.cr,Dk z.y.mo,Dk z.y.q,Dm Dl M.v.c.ao,Dm Dl M.v.c.bA,Dm Dl M.v.c.iG,Dm Dl M.v.c.eI,Dm Dl M.v.c.lim,Dm Dl M.v.c.hot,Dm Dl M.v.c.warm,Dm Dl M.v.p.b,Dm Dl M.v.p.l,Dm Dl M.v.p.c,Dm Dl M.v.p.m,Dm Dj M.v.aQ,Dm Dl M.v.fB,Dm Dl M.v.mt.dr,Dm Dl M.v.mt.re,Dm Dl (IntKind.i64.wrap (M.v.mt.bu+((min M.v.p.b.toNat M.mg:Nat):Int))),Dm Dl M.v.mt.li,Dm Dl M.v.mt.lo,Dm Dl M.v.mt.cr,Dm Dl M.v.mt.mv, .slice M.v.wa M.v.wn M.v.wc],kI z.y.ck M.k,zF z,xx z M.m,kF z.ub M.m,jJ M]) ?_;refine au (ax O2 (H:= [])) ?_;have ux:M.cy.v.p=M.v.p:=rfl;have hh1:M.cy.hole=none:=hh;have zD:M.cy.m.st=M.m.st:=rfl;change G _ _ _ _ _ [SH z M.cy];rw[show M.beside=M.cy.gA.kM from rfl];generalize M.cy=M1 at*;refine cB λB3 O3=> ?_;unfold dS fy iT fg pV iZ;refine bR ?_;refine av ?_;refine iU 16 mix (.cons (.t8 .here) .nil) λF2 zH eL dw=> ?_;obtain⟨q1,_⟩:=eL;refine bB ?_;refine Tp (oZ (Aa (n:=38)) (kB z.y.ck M1.k) .nil (λ_ le ak=>ak.nth 8 rfl) ?_);refine bn ?_;refine gI dw ?_;refine bR ?_;refine au (λh s=>ax O3 (H:= []) h (by revert s;revert h;unfold dS fy iT fg pV iZ;simp only[oU,cap];exact Eh)) ?_;refine Tp (oC Aa rfl rfl (Fz wN z M1 M1.k.now M1.v.p.c) (.cons .here .nil) Di ?_);rintro v H' ⟨n1,t1,M2,wz,rfl,rfl⟩;refine bR ?_;obtain⟨c1,c2,c3,c4,c5,c6,c7⟩:=tY M1 M1.k.now M1.v.p.c;have eM:M1.gA=M2.aN {M1.v.mt with cr:=cM (M1.v.mt.cr+(n1:Nat))}:=by unfold Mo.gA;rw[wz]
 rw[wz]at c1 c2 c3 c4;dsimp only at c1 c2 c3 c4;refine bs ?_;refine cB λB4 O4=> ?_;have O5:=O4.aN {M1.v.mt with cr:=cM (M1.v.mt.cr+(n1:Nat))};unfold dS fy iT fg pV iZ;rw[c4];refine bR ?_;refine gJ ?_;refine Hh (H':=gu z B4.C B4.W B4.ty B4.C.ae.length (M2.Q.flatMap (cX B4.C)) M2.x B4.E M2.tn (M2.v,[Dm Dj M2.v.aQ,Dm Dl M2.v.fB,Dm Dl M1.v.mt.dr,Dm Dl M1.v.mt.re,Dm Dl M1.v.mt.bu,Dm Dl M1.v.mt.li,Dm Dl M1.v.mt.lo,Dm Dl (IntKind.i64.wrap (M1.v.mt.cr+(n1:Int))),Dm Dl M1.v.mt.mv, .slice M2.v.wa M2.v.wn M2.v.wc]) M2.k M2.m M2 []) ?_;unfold gu oR;refine au (ax O5 (H:= [])) ?_;obtain⟨d1,d2,d3⟩:=ZL M1;rw[ux.symm]at PN;rw[hh1]at d1;rw[<-eM];have zB:M1.gA.m.st<4611686018427387904:=by rw[d2,zD];exact fA
 clear eM O5
 generalize M1.gA=M3 at*;refine cB λB6 O6=> ?_;unfold dS fy iT fg pV iZ;refine bR ?_;refine Aq mix .nil λF3 WC sP fJ=> ?_;refine Dt 0 rfl Mv ?_;refine Dt 1 rfl Nc ?_;refine Dt 2 rfl (Fa iO) ?_;refine Dt 3 rfl (Fa jA) ?_;refine Dt 5 rfl Mv ?_;refine Dt 6 rfl Nc ?_;refine Dt 7 rfl (Fa nu) ?_;refine Dt 8 rfl (Fa Ff) ?_;refine Dt 10 rfl Mv ?_;refine Dt 11 rfl Nc ?_;refine Dt 12 rfl (Fa Fe) ?_;refine Dt 13 rfl (Fa Fl) ?_;refine D3 4 9 14 ?_ ?_ ?_
 ·refine Do rfl (oL bj ?_)
  refine aw ?_;refine D2 9 14 ?_ ?_
  ·refine Do rfl (oL An ?_)
   refine aw ?_;refine Dd 14 rfl (oL bj ?_);refine aw ?_;refine au (λh s=>ax O6 (H:= []) h (by revert s;revert h;unfold dS fy iT fg pV iZ;simp only[oU,cap];exact Eh)) ?_;refine Dd 15 rfl (oC Aa rfl rfl (ky z M3 d1 zB M3.v.p.m) (.cons .here .nil) Di ?_);rintro v H' ⟨n2,M4,rq,rfl,rfl⟩;refine bR ?_;have rL:=(ic M3 M3.v.p.m).1.mt;rw[rq]at rL;change M4.v.mt=M3.v.mt at rL;refine cB λB7 O7=> ?_;unfold dS fy iT fg pV iZ;rw[rL];refine bR ?_;refine aw ?_;refine Dt 16 rfl Im ?_;refine Dt 17 rfl Nc ?_;refine Dt 18 rfl (Fa iO) ?_;refine Dt 19 rfl (Fa jA) ?_;refine Dd 20 rfl (oS bj ?_);refine aw ?_;refine aT (by kernel_rfl) fJ ?_;have dm:M3.kM=M4.aN {M3.v.mt with mv:=cM (M3.v.mt.mv+(n2:Nat))}:=by unfold Mo.kM;rw[rq]
   refine Hh (H':=gu z B7.C B7.W B7.ty B7.C.ae.length (M4.Q.flatMap (cX B7.C)) M4.x B7.E M4.tn (M4.v,[Dm Dj M4.v.aQ,Dm Dl M4.v.fB,Dm Dl M3.v.mt.dr,Dm Dl M3.v.mt.re,Dm Dl M3.v.mt.bu,Dm Dl M3.v.mt.li,Dm Dl M3.v.mt.lo,Dm Dl M3.v.mt.cr,Dm Dl (IntKind.i64.wrap (M3.v.mt.mv+(n2:Int))), .slice M4.v.wa M4.v.wn M4.v.wc]) M4.k M4.m M4 []) ?_;unfold gu oR;refine au (ax (O7.aN {M3.v.mt with mv:=cM (M3.v.mt.mv+(n2:Nat))}) (H:= [])) ?_;refine jU [SH z (M4.aN {M3.v.mt with mv:=cM (M3.v.mt.mv+(n2:Nat))})] results45 ?_;exact⟨rfl,by rw[dm]⟩
  refine Do rfl (oL bj ?_);refine aw ?_;refine Dd 9 rfl (oL An ?_);refine aw ?_;refine au (λh s=>ax O6 (H:= []) h (by revert s;revert h;unfold dS fy iT fg pV iZ;simp only[oU,cap];exact Eh)) ?_;refine Dd 15 rfl (oC Aa rfl rfl (ky z M3 d1 zB M3.v.p.m) (.cons .here .nil) Di ?_);rintro v H' ⟨n2,M4,rq,rfl,rfl⟩;refine bR ?_;have rL:=(ic M3 M3.v.p.m).1.mt;rw[rq]at rL;change M4.v.mt=M3.v.mt at rL;refine cB λB7 O7=> ?_;unfold dS fy iT fg pV iZ;rw[rL];refine bR ?_;refine aw ?_;refine Dt 16 rfl Im ?_;refine Dt 17 rfl Nc ?_;refine Dt 18 rfl (Fa iO) ?_;refine Dt 19 rfl (Fa jA) ?_;refine Dd 20 rfl (oS bj ?_);refine aw ?_;refine aT (by kernel_rfl) fJ ?_;have dm:M3.kM=M4.aN {M3.v.mt with mv:=cM (M3.v.mt.mv+(n2:Nat))}:=by unfold Mo.kM;rw[rq]
  refine Hh (H':=gu z B7.C B7.W B7.ty B7.C.ae.length (M4.Q.flatMap (cX B7.C)) M4.x B7.E M4.tn (M4.v,[Dm Dj M4.v.aQ,Dm Dl M4.v.fB,Dm Dl M3.v.mt.dr,Dm Dl M3.v.mt.re,Dm Dl M3.v.mt.bu,Dm Dl M3.v.mt.li,Dm Dl M3.v.mt.lo,Dm Dl M3.v.mt.cr,Dm Dl (IntKind.i64.wrap (M3.v.mt.mv+(n2:Int))), .slice M4.v.wa M4.v.wn M4.v.wc]) M4.k M4.m M4 []) ?_;unfold gu oR;refine au (ax (O7.aN {M3.v.mt with mv:=cM (M3.v.mt.mv+(n2:Nat))}) (H:= [])) ?_;refine jU [SH z (M4.aN {M3.v.mt with mv:=cM (M3.v.mt.mv+(n2:Nat))})] results45 ?_;exact⟨rfl,by rw[dm]⟩
 ·refine Do rfl (oL An ?_)
  refine aw ?_;refine D2 4 14 ?_ ?_
  ·refine Do rfl (oL bj ?_)
   refine aw ?_;refine Dd 14 rfl (oL bj ?_);refine aw ?_;refine au (λh s=>ax O6 (H:= []) h (by revert s;revert h;unfold dS fy iT fg pV iZ;simp only[oU,cap];exact Eh)) ?_;refine Dd 15 rfl (oC Aa rfl rfl (ky z M3 d1 zB M3.v.p.m) (.cons .here .nil) Di ?_);rintro v H' ⟨n2,M4,rq,rfl,rfl⟩;refine bR ?_;have rL:=(ic M3 M3.v.p.m).1.mt;rw[rq]at rL;change M4.v.mt=M3.v.mt at rL;refine cB λB7 O7=> ?_;unfold dS fy iT fg pV iZ;rw[rL];refine bR ?_;refine aw ?_;refine Dt 16 rfl Im ?_;refine Dt 17 rfl Nc ?_;refine Dt 18 rfl (Fa iO) ?_;refine Dt 19 rfl (Fa jA) ?_;refine Dd 20 rfl (oS bj ?_);refine aw ?_;refine aT (by kernel_rfl) fJ ?_;have dm:M3.kM=M4.aN {M3.v.mt with mv:=cM (M3.v.mt.mv+(n2:Nat))}:=by unfold Mo.kM;rw[rq]
   refine Hh (H':=gu z B7.C B7.W B7.ty B7.C.ae.length (M4.Q.flatMap (cX B7.C)) M4.x B7.E M4.tn (M4.v,[Dm Dj M4.v.aQ,Dm Dl M4.v.fB,Dm Dl M3.v.mt.dr,Dm Dl M3.v.mt.re,Dm Dl M3.v.mt.bu,Dm Dl M3.v.mt.li,Dm Dl M3.v.mt.lo,Dm Dl M3.v.mt.cr,Dm Dl (IntKind.i64.wrap (M3.v.mt.mv+(n2:Int))), .slice M4.v.wa M4.v.wn M4.v.wc]) M4.k M4.m M4 []) ?_;unfold gu oR;refine au (ax (O7.aN {M3.v.mt with mv:=cM (M3.v.mt.mv+(n2:Nat))}) (H:= [])) ?_;refine jU [SH z (M4.aN {M3.v.mt with mv:=cM (M3.v.mt.mv+(n2:Nat))})] results45 ?_;exact⟨rfl,by rw[dm]⟩
  refine Do rfl (oL bj ?_);refine aw ?_;refine D2 4 15 ?_ ?_
  ·refine Do rfl (oL bj ?_)
   refine aw ?_;refine au (λh s=>ax O6 (H:= []) h (by revert s;revert h;unfold dS fy iT fg pV iZ;simp only[oU,cap];exact Eh)) ?_;refine Dd 15 rfl (oC Aa rfl rfl (ky z M3 d1 zB M3.v.p.m) (.cons .here .nil) Di ?_);rintro v H' ⟨n2,M4,rq,rfl,rfl⟩;refine bR ?_;have rL:=(ic M3 M3.v.p.m).1.mt;rw[rq]at rL;change M4.v.mt=M3.v.mt at rL;refine cB λB7 O7=> ?_;unfold dS fy iT fg pV iZ;rw[rL];refine bR ?_;refine aw ?_;refine Dt 16 rfl Im ?_;refine Dt 17 rfl Nc ?_;refine Dt 18 rfl (Fa iO) ?_;refine Dt 19 rfl (Fa jA) ?_;refine Dd 20 rfl (oS bj ?_);refine aw ?_;refine aT (by kernel_rfl) fJ ?_;have dm:M3.kM=M4.aN {M3.v.mt with mv:=cM (M3.v.mt.mv+(n2:Nat))}:=by unfold Mo.kM;rw[rq]
   refine Hh (H':=gu z B7.C B7.W B7.ty B7.C.ae.length (M4.Q.flatMap (cX B7.C)) M4.x B7.E M4.tn (M4.v,[Dm Dj M4.v.aQ,Dm Dl M4.v.fB,Dm Dl M3.v.mt.dr,Dm Dl M3.v.mt.re,Dm Dl M3.v.mt.bu,Dm Dl M3.v.mt.li,Dm Dl M3.v.mt.lo,Dm Dl M3.v.mt.cr,Dm Dl (IntKind.i64.wrap (M3.v.mt.mv+(n2:Int))), .slice M4.v.wa M4.v.wn M4.v.wc]) M4.k M4.m M4 []) ?_;unfold gu oR;refine au (ax (O7.aN {M3.v.mt with mv:=cM (M3.v.mt.mv+(n2:Nat))}) (H:= [])) ?_;refine jU [SH z (M4.aN {M3.v.mt with mv:=cM (M3.v.mt.mv+(n2:Nat))})] results45 ?_;exact⟨rfl,by rw[dm]⟩
  refine au (λh s=>ax O6 (H:= []) h (by revert s;revert h;unfold dS fy iT fg pV iZ;simp only[oU,cap];exact Eh)) ?_;refine Do rfl (oC Aa rfl rfl (ky z M3 d1 zB M3.v.p.m) (.cons .here .nil) Di ?_);rintro v H' ⟨n2,M4,rq,rfl,rfl⟩;refine bR ?_;have rL:=(ic M3 M3.v.p.m).1.mt;rw[rq]at rL;change M4.v.mt=M3.v.mt at rL;refine cB λB7 O7=> ?_;unfold dS fy iT fg pV iZ;rw[rL];refine bR ?_;refine aw ?_;refine Dd 4 rfl (oL bj ?_);refine aw ?_;refine Dt 16 rfl Im ?_;refine Dt 17 rfl Nc ?_;refine Dt 18 rfl (Fa iO) ?_;refine Dt 19 rfl (Fa jA) ?_;refine Dd 20 rfl (oS bj ?_);refine aw ?_;refine aT (by kernel_rfl) fJ ?_;have dm:M3.kM=M4.aN {M3.v.mt with mv:=cM (M3.v.mt.mv+(n2:Nat))}:=by unfold Mo.kM;rw[rq]
  refine Hh (H':=gu z B7.C B7.W B7.ty B7.C.ae.length (M4.Q.flatMap (cX B7.C)) M4.x B7.E M4.tn (M4.v,[Dm Dj M4.v.aQ,Dm Dl M4.v.fB,Dm Dl M3.v.mt.dr,Dm Dl M3.v.mt.re,Dm Dl M3.v.mt.bu,Dm Dl M3.v.mt.li,Dm Dl M3.v.mt.lo,Dm Dl M3.v.mt.cr,Dm Dl (IntKind.i64.wrap (M3.v.mt.mv+(n2:Int))), .slice M4.v.wa M4.v.wn M4.v.wc]) M4.k M4.m M4 []) ?_;unfold gu oR;refine au (ax (O7.aN {M3.v.mt with mv:=cM (M3.v.mt.mv+(n2:Nat))}) (H:= [])) ?_;refine jU [SH z (M4.aN {M3.v.mt with mv:=cM (M3.v.mt.mv+(n2:Nat))})] results45 ?_;exact⟨rfl,by rw[dm]⟩
 refine Do rfl (oL bj ?_);refine aw ?_;refine D2 4 9 ?_ ?_
 ·refine Do rfl (oL bj ?_)
  refine aw ?_;refine Dd 9 rfl (oL An ?_);refine aw ?_;refine au (λh s=>ax O6 (H:= []) h (by revert s;revert h;unfold dS fy iT fg pV iZ;simp only[oU,cap];exact Eh)) ?_;refine Dd 15 rfl (oC Aa rfl rfl (ky z M3 d1 zB M3.v.p.m) (.cons .here .nil) Di ?_);rintro v H' ⟨n2,M4,rq,rfl,rfl⟩;refine bR ?_;have rL:=(ic M3 M3.v.p.m).1.mt;rw[rq]at rL;change M4.v.mt=M3.v.mt at rL;refine cB λB7 O7=> ?_;unfold dS fy iT fg pV iZ;rw[rL];refine bR ?_;refine aw ?_;refine Dt 16 rfl Im ?_;refine Dt 17 rfl Nc ?_;refine Dt 18 rfl (Fa iO) ?_;refine Dt 19 rfl (Fa jA) ?_;refine Dd 20 rfl (oS bj ?_);refine aw ?_;refine aT (by kernel_rfl) fJ ?_;have dm:M3.kM=M4.aN {M3.v.mt with mv:=cM (M3.v.mt.mv+(n2:Nat))}:=by unfold Mo.kM;rw[rq]
  refine Hh (H':=gu z B7.C B7.W B7.ty B7.C.ae.length (M4.Q.flatMap (cX B7.C)) M4.x B7.E M4.tn (M4.v,[Dm Dj M4.v.aQ,Dm Dl M4.v.fB,Dm Dl M3.v.mt.dr,Dm Dl M3.v.mt.re,Dm Dl M3.v.mt.bu,Dm Dl M3.v.mt.li,Dm Dl M3.v.mt.lo,Dm Dl M3.v.mt.cr,Dm Dl (IntKind.i64.wrap (M3.v.mt.mv+(n2:Int))), .slice M4.v.wa M4.v.wn M4.v.wc]) M4.k M4.m M4 []) ?_;unfold gu oR;refine au (ax (O7.aN {M3.v.mt with mv:=cM (M3.v.mt.mv+(n2:Nat))}) (H:= [])) ?_;refine jU [SH z (M4.aN {M3.v.mt with mv:=cM (M3.v.mt.mv+(n2:Nat))})] results45 ?_;exact⟨rfl,by rw[dm]⟩
 refine Do rfl (oL An ?_);refine aw ?_;refine D2 4 15 ?_ ?_
 ·refine Do rfl (oL bj ?_)
  refine aw ?_;refine au (λh s=>ax O6 (H:= []) h (by revert s;revert h;unfold dS fy iT fg pV iZ;simp only[oU,cap];exact Eh)) ?_;refine Dd 15 rfl (oC Aa rfl rfl (ky z M3 d1 zB M3.v.p.m) (.cons .here .nil) Di ?_);rintro v H' ⟨n2,M4,rq,rfl,rfl⟩;refine bR ?_;have rL:=(ic M3 M3.v.p.m).1.mt;rw[rq]at rL;change M4.v.mt=M3.v.mt at rL;refine cB λB7 O7=> ?_;unfold dS fy iT fg pV iZ;rw[rL];refine bR ?_;refine aw ?_;refine Dt 16 rfl Im ?_;refine Dt 17 rfl Nc ?_;refine Dt 18 rfl (Fa iO) ?_;refine Dt 19 rfl (Fa jA) ?_;refine Dd 20 rfl (oS bj ?_);refine aw ?_;refine aT (by kernel_rfl) fJ ?_;have dm:M3.kM=M4.aN {M3.v.mt with mv:=cM (M3.v.mt.mv+(n2:Nat))}:=by unfold Mo.kM;rw[rq]
  refine Hh (H':=gu z B7.C B7.W B7.ty B7.C.ae.length (M4.Q.flatMap (cX B7.C)) M4.x B7.E M4.tn (M4.v,[Dm Dj M4.v.aQ,Dm Dl M4.v.fB,Dm Dl M3.v.mt.dr,Dm Dl M3.v.mt.re,Dm Dl M3.v.mt.bu,Dm Dl M3.v.mt.li,Dm Dl M3.v.mt.lo,Dm Dl M3.v.mt.cr,Dm Dl (IntKind.i64.wrap (M3.v.mt.mv+(n2:Int))), .slice M4.v.wa M4.v.wn M4.v.wc]) M4.k M4.m M4 []) ?_;unfold gu oR;refine au (ax (O7.aN {M3.v.mt with mv:=cM (M3.v.mt.mv+(n2:Nat))}) (H:= [])) ?_;refine jU [SH z (M4.aN {M3.v.mt with mv:=cM (M3.v.mt.mv+(n2:Nat))})] results45 ?_;exact⟨rfl,by rw[dm]⟩
 refine au (λh s=>ax O6 (H:= []) h (by revert s;revert h;unfold dS fy iT fg pV iZ;simp only[oU,cap];exact Eh)) ?_;refine Do rfl (oC Aa rfl rfl (ky z M3 d1 zB M3.v.p.m) (.cons .here .nil) Di ?_);rintro v H' ⟨n2,M4,rq,rfl,rfl⟩;refine bR ?_;have rL:=(ic M3 M3.v.p.m).1.mt;rw[rq]at rL;change M4.v.mt=M3.v.mt at rL;refine cB λB7 O7=> ?_;unfold dS fy iT fg pV iZ;rw[rL];refine bR ?_;refine aw ?_;refine Dd 4 rfl (oL bj ?_);refine aw ?_;refine Dt 16 rfl Im ?_;refine Dt 17 rfl Nc ?_;refine Dt 18 rfl (Fa iO) ?_;refine Dt 19 rfl (Fa jA) ?_;refine Dd 20 rfl (oS bj ?_);refine aw ?_;refine aT (by kernel_rfl) fJ ?_;have dm:M3.kM=M4.aN {M3.v.mt with mv:=cM (M3.v.mt.mv+(n2:Nat))}:=by unfold Mo.kM;rw[rq]
 refine Hh (H':=gu z B7.C B7.W B7.ty B7.C.ae.length (M4.Q.flatMap (cX B7.C)) M4.x B7.E M4.tn (M4.v,[Dm Dj M4.v.aQ,Dm Dl M4.v.fB,Dm Dl M3.v.mt.dr,Dm Dl M3.v.mt.re,Dm Dl M3.v.mt.bu,Dm Dl M3.v.mt.li,Dm Dl M3.v.mt.lo,Dm Dl M3.v.mt.cr,Dm Dl (IntKind.i64.wrap (M3.v.mt.mv+(n2:Int))), .slice M4.v.wa M4.v.wn M4.v.wc]) M4.k M4.m M4 []) ?_;unfold gu oR;refine au (ax (O7.aN {M3.v.mt with mv:=cM (M3.v.mt.mv+(n2:Nat))}) (H:= [])) ?_;refine jU [SH z (M4.aN {M3.v.mt with mv:=cM (M3.v.mt.mv+(n2:Nat))})] results45 ?_;exact⟨rfl,by rw[dm]⟩
def Mo.find (M:Mo)(k:FI):FK:=M.Q.flatten.find? λp=>decide ((M.it p).key=k)
theorem bH.QI{B:Bx}{M:Mo}(O:bH B M)(k:FI):B.W.get B.C k=M.find k:=by
 have hk:∀p∈B.W.all,aH B.C.A p=(M.it p).key:=λp hp=>(O.kK hp).2.2.2.2.1;cases hf:M.find k with
 |none=>
  unfold Mo.find at hf;rw[agE]at hf;refine get_none λp hp e=>hf p (O.perm.mem_iff.1 hp) (decide_eq_true ?_);rw[<-hk p hp];exact e
 |some p=>
  unfold Mo.find at hf;have h1:=af0 hf;have h2:(M.it p).key=k:=by simpa using akj hf
  have hp:=O.perm.mem_iff.2 h1;exact get_some O.t hp ((hk p hp).trans h2)
theorem nw{M:Mo}{k:FI}{p:Nat}(h:M.find k=some p):M.has p/\(M.it p).key=k:=by
 unfold Mo.find at h;exact⟨eR.1 (af0 h),by simpa using akj h⟩
def Mo.lru (M:Mo):mU:=⟨M.Q,λp=>decide ((M.it p).eP % 2=1),M.x⟩
def Mo.BG (M:Mo)(t:mU):Mo:={M with Q:=t.Q,x:=t.x,it:=λp=>{M.it p with eP:=mkSet (M.it p).eP (t.ac p)}}
theorem Hf{C:Cs}(K:Ok C){B:By}{S:Nat->Nat->Prop}(d:cZ C C.A B S){p:Nat}(L:At C p)(I:gD C p)(h:∀j,S p j->j<16\/j=45\/j=46):mj B p={mj C.A p with eP:=dB B p}:=by
 have n1:=(L.ba K).2.1;have hf:=I.fits;have r:=λ(o w:Nat) (h2:o+w<=C.sz (C.cl p)) (h3:∀j,o<=j->j<o+w->¬(j<16\/j=45\/j=46))=>kX K d L h2 (λj g1 g2 s=>h3 j g1 g2 (h j s));have e1:kl B p=kl C.A p:=r 44 1 (by omega) (λj g1 g2=>by omega);have e2:vl B p=vl C.A p:=r 48 4 (by omega) (λj g1 g2=>by omega);have e3:aH B p=aH C.A p:=by
  unfold aH;rw[e1];exact vT K d L (by omega) (λj g1 g2 s=>by have:=h j s;omega)
 have e4:j8 B p=j8 C.A p:=by
  unfold j8;rw[e1,e2,ag4];exact vT K d L (by omega) (λj g1 g2 s=>by have:=h j s;omega)
 unfold mj PV uD lA rO;rw[e3,e4,r 40 4 (by omega) (λj g1 g2=>by omega),r 16 8 (by omega) (λj g1 g2=>by omega),r 24 8 (by omega) (λj g1 g2=>by omega),r 32 8 (by omega) (λj g1 g2=>by omega)]
theorem bH.bai{B:Bx}{M:Mo}(O:bH B M):BaI B.C B.C.A M.lru:=
 ⟨O.o,O.x,O.mq,λi p h=>by unfold DN;rw[(O.wF (O.nR h)).1];rfl⟩
theorem bH.bal{B:Bx}{M:Mo}(O:bH B M){A:By}{t:mU}(T:LL B.C M.Q A t):bH ⟨B.C.wA A,B.W,B.ty,B.E⟩ (M.BG t):=by
 have K:=O.k;have hS:∀q j,SB q j->j<16\/j=45\/j=46:=λq j s=>by unfold SB at s;omega
 have lq:∀p∈B.W.all,mj A p={M.it p with eP:=mkSet (M.it p).eP (t.ac p)}:=λp hp=>by
  rw[Hf K T.d (O.mL hp) (O.t.it p hp) (λj s=>hS p j s),O.it p hp];obtain⟨i,hi⟩:=(T.mem p).2 ((O.al p).1 hp);have h1:=T.mr p (O.sH hp);have h2:=T.i.ac i p hi;have h3:=(O.wF hp).1;have h4:dB A p=mkSet (M.it p).eP (t.ac p):=by
   unfold mkSet;rw[<-h3,<-h2,<-h1];unfold DN;by_cases e:dB A p % 2=1
   ·rw[decide_eq_true e,if_pos rfl];omega
   rw[decide_eq_false e,if_neg (by decide)];omega
  rw[h4]
 have jC:∀q,Live (B.C.wA A) q↔Live B.C q:=λq=>⟨λh=>⟨⟨h.i,h.own,h.al,h.k⟩,h.tk⟩,λh=>h.wA _⟩;refine⟨?_,K.wA A,GD K O.t T.d λp _ j s=>by unfold SB at s;unfold mh;omega,O.ty,T.i.o,T.i.x,T.i.mq,O.ck,λp=>(O.al p).trans (T.mem p).symm,λq=>(jC q).trans (O.lv q),O.ho,lq, ?_,O.st,O.nb,O.mg,O.mo,O.bt,O.un,O.on,O.go,O.wn,O.cf,O.n,O.lg⟩
 ·show B.C.wA A=M.C.wA A
  conv=>lhs;rw[O.c]
  rfl
 exact O.e.trans (abA.of_eq (fO λq h=>⟨rfl,rfl,rfl⟩).symm)
def Mo.aK (M:Mo)(a:FL)(c:Nat):Mo:={M with v:={M.v with wa:=a,wn:=M.jZ.length,wc:=c}}
def SW (z:Ly)(M:Mo):aa:=λh=>∃w:FL×Nat,SH z (M.aK w.1 w.2) h
theorem wU{P:Program}{f:FuncId}{args:FJ}{pre:Hp->Prop}{H:F8}{R:Dp}{z:Ly}{M:Mo}(h:∀a c,aG P f args pre (SH z (M.aK a c)::H) R):aG P f args pre (SW z M::H) R:=
 aG.exL λw=>h w.1 w.2
theorem gN{z:Ly}{M:Mo}(a:FL)(c:Nat){H:F8}:∀h,ai (SH z (M.aK a c)::H) h->ai (SW z M::H) h:=λh s=>
 aZ (λk x=>⟨(a,c),x⟩) s
theorem Ap{n:Nat}{ds:Dq}{F:dG}{K:F9}{σ:aP}{z:Ly}{M:Mo}{H:F8}(h:∀a c,G n ds F K σ (SH z (M.aK a c)::H)):G n ds F K σ (SW z M::H):=
 ahN λw=>h w.1 w.2
theorem aaW{n:Nat}{ds:Dq}{F:dG}{K:F9}{σ:aP}{z:Ly}{M:Mo}{H:F8}(a:FL)(c:Nat)(h:G n ds F K σ (SW z M::H)):G n ds F K σ (SH z (M.aK a c)::H):=
 au (gN a c) h
theorem iW{P:Program}{f:FuncId}{args:FJ}{z:Ly}{M N:Mo}{T:Value->Prop}(h:∀a c,aG P f args (λ_=>True) [SH z (M.aK a c)] (λv H=>T v/\H= [SH z (N.aK a c)])):aG P f args (λ_=>True) [SW z M] (λv H=>T v/\H= [SW z N]):=
 wU λa c=>(h a c).out (by
  rintro v H' ⟨t,rfl⟩;exact⟨[SW z N],⟨t,rfl⟩,λk s=>gN a c k s⟩)
theorem Mb (z:Ly)(M:Mo)(p:Nat)(hp:M.has p):aG aaa 48 [Dk z.s,Dm Dj (M.C.hd p)] uT [SW z M]
  (λv H=>v= .bool (decide (M.bF p≠0))/\H= [SW z M]):=
 iW (N:=M) (T:=λv=>v= .bool (decide (M.bF p≠0))) λa d=>by
  have h:=u9 z (M.aK a d) p hp;exact h
theorem H7 (z:Ly)(M:Mo)(p:Nat)(hp:M.has p):aG aaa 97 [Dk z.s,Dm Dj (M.C.hd p)] uT [SW z M]
  (λv H=>v=Dm Dl (M.bF p)/\H= [SW z M]):=
 iW (N:=M) (T:=λv=>v=Dm Dl (M.bF p)) λa d=>by
  have h:=Ip z (M.aK a d) p hp;exact h
theorem uY (z:Ly)(M:Mo)(p:Nat)(hp:M.has p):aG aaa 85 [Dk z.s,Dm Dj (M.C.hd p)] uT [SW z M]
  (λv H=>v= .tuple #[]/\H= [SW z (M.bw p)]):=
 iW (N:=M.bw p) (T:=λv=>v= .tuple #[]) λa d=>by
  have h:=jO z (M.aK a d) p hp;rw[show(M.aK a d).bw p=(M.bw p).aK a d from rfl]at h;exact h
theorem yo (z:Ly)(M:Mo)(p:Nat)(hp:M.has p):aG aaa 122 [Dk z.s,Dm Dj (M.C.hd p)] uT [SW z M]
  (λv H=>v= .tuple #[]/\H= [SW z (M.lq p)]):=
 iW (N:=M.lq p) (T:=λv=>v= .tuple #[]) λa d=>by
  have h:=TM z (M.aK a d) p hp;rw[show(M.aK a d).lq p=(M.lq p).aK a d from rfl]at h;exact h
theorem H9 (z:Ly)(M:Mo)(p c:Nat)(hc:c<4)(hp:M.has p):aG aaa 127 [Dk z.s,Dm Dj (M.C.hd p),Dm Dl (c*2:Nat)] uT [SW z M]
  (λv H=>v= .tuple #[]/\H= [SW z (M.marks p c)]):=
 iW (N:=M.marks p c) (T:=λv=>v= .tuple #[]) λa d=>by
  have h:=Iu z (M.aK a d) p c hc hp;rw[show(M.aK a d).marks p c=(M.marks p c).aK a d from rfl]at h;exact h
theorem sg (z:Ly)(M:Mo)(p:Nat)(hp:M.has p)(t:Int)(ht:t<9223372036854775808)(vD:M.tn<18446744073709551615):aG aaa 121 [Dk z.s,Dm Dj (M.C.hd p),Dm Dl t] uT [SW z M]
  (λv H=>v= .tuple #[]/\H= [SW z (M.time p (dq M.k.now t))]):=
 iW (N:=M.time p (dq M.k.now t)) (T:=λv=>v= .tuple #[]) λa d=>by
  have h:=Io z (M.aK a d) p hp t ht vD;rw[show(M.aK a d).time p (dq (M.aK a d).k.now t)=(M.time p (dq M.k.now t)).aK a d from rfl]at h;exact h
theorem Rk (M:Mo)(p:Nat)(a:FL)(c:Nat):(M.aK a c).look p=(M.look p).aK a c:=by
 unfold Mo.look;rw[show(M.aK a c).bF p=M.bF p from rfl];split<;>rfl
theorem J7 (a:FL)(c:Nat):∀(l:FH) (M:Mo),l.foldl Mo.look (M.aK a c)=(l.foldl Mo.look M).aK a c
 | [],_=>rfl
 |p::l,M=>by rw[agn,agn,Rk,J7 a c l]
theorem Fw (a:FL)(c:Nat):∀(f:Nat) (M:Mo),(M.aK a c).bY f=((M.bY f).1,(M.bY f).2.aK a c)
 |0,_=>rfl
 |f+1,M=>by
  rcases hf:M.x.find M.fG M.Q with⟨_|_,x⟩
  ·rw[qU hf,qU (M:=M.aK a c) hf];rfl
  cases hx:x.nx with
  |none=>
   unfold Mo.bY;rw[show(M.aK a c).x.find (M.aK a c).fG (M.aK a c).Q=(true,x)from hf,hf];dsimp only;rw[hx];rfl
  |some p=>
   rw[qT hf hx,qT (M:=M.aK a c) hf hx];have e:(({M.aK a c with x:=x.pass (M.aK a c).Q}:Mo).look p)=(({M with x:=x.pass M.Q}:Mo).look p).aK a c:=Rk {M with x:=x.pass M.Q} p a c;rw[e,Fw a c f]
theorem KI (M:Mo)(now most:Int)(a:FL)(c:Nat):(M.aK a c).cb now most=((M.cb now most).1,(M.cb now most).2.aK a c):=by
 unfold Mo.cb;split
 ·rfl
 unfold Mo.oc;rw[show(M.aK a c).iI now (min most 1048576)=M.iI now (min most 1048576)from rfl,J7,Fw]
theorem BP (M:Mo)(d:Nat)(a:FL)(c:Nat):(M.aK a c).take d=(M.take d).map λo=>(o.1,o.2.aK a c):=by
 unfold Mo.take;rw[show(M.aK a c).C=M.C from rfl];cases M.C.ca d<;>rfl
theorem XV (M:Mo)(p:Nat)(a:FL)(c:Nat):(M.aK a c).shift p=(M.shift p).map λN=>N.aK a c:=by
 unfold Mo.shift;rw[show(M.aK a c).C.cl p=M.C.cl p from rfl,BP];cases M.take (M.C.cl p)<;>rfl
theorem YL (M:Mo)(a:FL)(c:Nat):(M.aK a c).c8=(M.c8.1,M.c8.2.aK a c):=by
 unfold Mo.c8;rw[show((M.aK a c).C.pg (M.aK a c).m.pg)=M.C.pg M.m.pg from rfl];cases (M.C.pg M.m.pg).tk.findIdx? id with
 |none=>rfl
 |some k=>
  dsimp only;rw[show(M.aK a c).C.mB (M.aK a c).m.pg k=M.C.mB M.m.pg k from rfl,show(M.aK a c).bF (M.C.mB M.m.pg k)=M.bF (M.C.mB M.m.pg k)from rfl,XV];split
  ·rfl
  ·cases M.shift (M.C.mB M.m.pg k)<;>rfl
theorem EU (a:FL)(c:Nat):∀(f:Nat) (M:Mo),(M.aK a c).cx f=((M.cx f).1,(M.cx f).2.aK a c)
 |0,_=>rfl
 |f+1,M=>by
  have h:=YL M a c;rcases hm:M.c8 with⟨_|_,N⟩
  ·rw[hm]at h
   rw[qM hm,qM h]
  rw[hm]at h;rw[qL hm,qL h,EU a c f]
theorem UC (M:Mo)(a:FL)(c:Nat):(M.aK a c).dM=M.dM.aK a c:=by
 unfold Mo.dM;rw[show(M.aK a c).C=M.C from rfl,show(M.aK a c).m=M.m from rfl,show(M.aK a c).fG=M.fG from rfl];split
 ·rfl
 cases (abM M.fG).find? M.m.cD with
 |none=>rfl
 |some t=>
  dsimp only;cases fw M.m M.C M.fG<;>rfl
theorem YJ (M:Mo)(most:Int)(a:FL)(c:Nat):(M.aK a c).eG most=((M.eG most).1,(M.eG most).2.aK a c):=by
 unfold Mo.eG;rw[show(M.aK a c).dQ=M.dQ.aK a c from rfl,show(M.aK a c).m=M.m from rfl,EU,UC];split
 ·rfl
 ·split<;>rfl
theorem VX (M:Mo)(a:FL)(c:Nat):(M.aK a c).beside=M.beside.aK a c:=by
 have h1:∀N:Mo,(N.aK a c).gA=N.gA.aK a c:=λN=>by
  unfold Mo.gA;rw[show(N.aK a c).k=N.k from rfl,show(N.aK a c).v.p=N.v.p from rfl,KI];rfl
 have h2:∀N:Mo,(N.aK a c).kM=N.kM.aK a c:=λN=>by
  unfold Mo.kM;rw[show(N.aK a c).v.p=N.v.p from rfl,YJ];rfl
 unfold Mo.beside;rw[show(M.aK a c).cy=M.cy.aK a c from rfl,h1,h2]
theorem vY (wN:pT)(z:Ly)(M:Mo)(hh:M.hole=none)(fA:M.m.st<4611686018427387904)(PN:xO M.v.p):aG aaa 45 [Dk z.s] uT [SW z M]
  (λv H=>v= .tuple #[]/\H= [SW z M.beside]):=
 iW (N:=M.beside) (T:=λv=>v= .tuple #[]) λa d=>by
  have h:=OL wN z (M.aK a d) hh fA PN;rw[VX]at h;exact h
def Mo.bI (M:Mo)(w:Nat):Mo:={M with jZ:=M.jZ++ [w]}
def qZ (C:Cs):FK->Nat
 |none=>0
 |some p=>C.hd p
def Mo.meet (M:Mo)(k:FI):FK×Mo:=match M.find k with
 |none=>(none,M.bI 1)
 |some p=>if M.bF p≠0 then(none,(M.bI (M.bF p)).bw p)else(some p,M.bI 0)
theorem bH.bI{B:Bx}{M:Mo}(O:bH B M)(w:Nat)(a:FL)(c:Nat):bH B ((M.bI w).aK a c):=
 ⟨O.c,O.k,O.t,O.ty,O.o,O.x,O.mq,O.ck,O.al,O.lv,O.ho,O.it,O.e,O.st,O.nb,O.mg,O.mo,O.bt,O.un,O.on,O.go,rfl,O.cf,O.n,O.lg⟩
theorem P6{B:Bx}{M:Mo}(O:bH B M)(o:FK):hO B.C o=qZ M.C o:=by
 cases o with
 |none=>rfl
 |some p=>rw[bZ,O.hd];rfl
theorem yx (z:Ly)(M:Mo)(k:FI)(hk:k.length<281474976710656)(hw:M.jZ.length<1073741824):aG aaa 120 [Dk z.s,a8 k] uT [SW z M]
  (λv H=>v=Dm Dj (qZ M.C (M.meet k).1)/\H= [SW z (M.meet k).2]):=by
 refine af func120 rfl ntmps120 rfl ?_;intro F _;refine Ap λwa wc=>cB λB O=> ?_;have tf:=λa c=>ng z.y.t z.y.b B.C O.k B.W B.ty O.t O.ty a k.length c k rfl hk;rw[O.QI,show(M.aK wa wc).find k=M.find k from rfl,P6 O,show(M.aK wa wc).C=M.C from rfl]at tf;have hnl:(aY M.jZ).length=M.jZ.length:=ib M.jZ;unfold dS fy iT fg pV iZ jJ;dsimp only[Mo.aK];refine bR ?_;refine bB ?_;refine Lp (Dr wu me sE λkb kc sI=> ?_);refine zl Aa (tf _ _) .nil (λ_ le ak=>⟨ak.nth 1 rfl,⟨ak.nth 2 rfl,ak.nth 3 rfl,ak.nth 4 rfl,trivial⟩,bX (ak.nth 0 rfl)⟩) ?_;rcases hf:M.find k with _|p
 ·have hme:M.meet k=(none,M.bI 1):=by unfold Mo.meet;rw[hf]
  refine rM ?_;refine Lp (oT jI λb1=> ?_);refine Lp (cm jI xS rfl rfl rfl rfl (.t8 (.t4 (.t2 .here))) (by first|rfl|(simp;done)|(simp;omega)|omega) (rfl) (by simp[Value.oneCell']) (by first|omega|(simp;omega)) (by first|omega|(simp;omega)) rfl λa5 c5 hc5=> ?_);refine cA ?_;rw[show aY M.jZ++ [Dm Dl 1]=aY (M.jZ++ [1]) by unfold aY;rw[af1];rfl,show M.jZ.length+1=(M.jZ++ [1]).length by simp];refine Hh (H':= [Cl z.y.b B.C,DH z B.W B.ty,zK B.ty B.W,DJ B.ty B.W,DI z B.C.ae.length,ag z.qb 333 (M.Q.flatMap (cX B.C)),Wp z B.C.ae.length B.C M.x,Wl z.y.wh B.E M.tn,ag z.s 96 [Dk z.y.b,Dk z.y.ck,Dk z.y.t,Dk z.y.lu,Dk z.y.wh,Dk z.y.cr,Dk z.y.mo,Dk z.y.q,Dm Dl M.v.c.ao,Dm Dl M.v.c.bA,Dm Dl M.v.c.iG,Dm Dl M.v.c.eI,Dm Dl M.v.c.lim,Dm Dl M.v.c.hot,Dm Dl M.v.c.warm,Dm Dl M.v.p.b,Dm Dl M.v.p.l,Dm Dl M.v.p.c,Dm Dl M.v.p.m,Dm Dj M.v.aQ,Dm Dl M.v.fB,Dm Dl M.v.mt.dr,Dm Dl M.v.mt.re,Dm Dl M.v.mt.bu,Dm Dl M.v.mt.li,Dm Dl M.v.mt.lo,Dm Dl M.v.mt.cr,Dm Dl M.v.mt.mv, .slice a5 (M.jZ++ [1]).length c5],kI z.y.ck M.k,zF z,xx z M.m,kF z.ub M.m,own a5 c5 3 1 (aY (M.jZ++ [1]))]) ?_;refine au (ax (O.bI 1 a5 c5) (H:= [])) ?_;refine au (gN (M:=M.bI 1) a5 c5) ?_;refine Rt [SW z (M.bI 1)] results120 ?_;exact⟨by rw[hme];rfl,by rw[hme]⟩
 obtain⟨hp,nW⟩:=nw hf;have hme:M.meet k=if M.bF p≠0 then(none,(M.bI (M.bF p)).bw p)else(some p,M.bI 0):=by unfold Mo.meet;rw[hf]
 refine fX ?_;refine Hh (H':= [Cl z.y.b B.C,DH z B.W B.ty,zK B.ty B.W,DJ B.ty B.W,DI z B.C.ae.length,ag z.qb 333 (M.Q.flatMap (cX B.C)),Wp z B.C.ae.length B.C M.x,Wl z.y.wh B.E M.tn,ag z.s 96 [Dk z.y.b,Dk z.y.ck,Dk z.y.t,Dk z.y.lu,Dk z.y.wh,Dk z.y.cr,Dk z.y.mo,Dk z.y.q,Dm Dl M.v.c.ao,Dm Dl M.v.c.bA,Dm Dl M.v.c.iG,Dm Dl M.v.c.eI,Dm Dl M.v.c.lim,Dm Dl M.v.c.hot,Dm Dl M.v.c.warm,Dm Dl M.v.p.b,Dm Dl M.v.p.l,Dm Dl M.v.p.c,Dm Dl M.v.p.m,Dm Dj M.v.aQ,Dm Dl M.v.fB,Dm Dl M.v.mt.dr,Dm Dl M.v.mt.re,Dm Dl M.v.mt.bu,Dm Dl M.v.mt.li,Dm Dl M.v.mt.lo,Dm Dl M.v.mt.cr,Dm Dl M.v.mt.mv, .slice wa M.jZ.length wc],kI z.y.ck M.k,zF z,xx z M.m,kF z.ub M.m,own wa wc 3 1 (aY M.jZ)]) ?_;refine au (ax O (H:= [])) ?_;refine au (gN (M:=M) wa wc) ?_;refine bq ?_;refine zl Aa (H7 z M p hp) (.cons .here .nil) Di ?_;refine bd ?_;refine Ap λwa wc=>cB λB O=> ?_;unfold dS fy iT fg pV iZ jJ;dsimp only[Mo.aK];refine bR ?_;refine bK ?_;refine Lp (oT jI λb2=> ?_);refine Lp (cm jI xS rfl rfl rfl rfl (.t8 (.t4 (.there .here))) (by first|rfl|(simp;done)|(simp;omega)|omega) (rfl) (by simp[Value.oneCell']) (by first|omega|(simp;omega)) (by first|omega|(simp;omega)) rfl λa5 c5 hc5=> ?_);refine bc ?_;refine av ?_;rw[show aY M.jZ++ [Dm Dl (M.bF p)]=aY (M.jZ++ [M.bF p]) by unfold aY;rw[af1];rfl,show M.jZ.length+1=(M.jZ++ [M.bF p]).length by simp];refine Hh (H':= [Cl z.y.b B.C,DH z B.W B.ty,zK B.ty B.W,DJ B.ty B.W,DI z B.C.ae.length,ag z.qb 333 (M.Q.flatMap (cX B.C)),Wp z B.C.ae.length B.C M.x,Wl z.y.wh B.E M.tn,ag z.s 96 [Dk z.y.b,Dk z.y.ck,Dk z.y.t,Dk z.y.lu,Dk z.y.wh,Dk z.y.cr,Dk z.y.mo,Dk z.y.q,Dm Dl M.v.c.ao,Dm Dl M.v.c.bA,Dm Dl M.v.c.iG,Dm Dl M.v.c.eI,Dm Dl M.v.c.lim,Dm Dl M.v.c.hot,Dm Dl M.v.c.warm,Dm Dl M.v.p.b,Dm Dl M.v.p.l,Dm Dl M.v.p.c,Dm Dl M.v.p.m,Dm Dj M.v.aQ,Dm Dl M.v.fB,Dm Dl M.v.mt.dr,Dm Dl M.v.mt.re,Dm Dl M.v.mt.bu,Dm Dl M.v.mt.li,Dm Dl M.v.mt.lo,Dm Dl M.v.mt.cr,Dm Dl M.v.mt.mv, .slice a5 (M.jZ++ [M.bF p]).length c5],kI z.y.ck M.k,zF z,xx z M.m,kF z.ub M.m,own a5 c5 3 1 (aY (M.jZ++ [M.bF p]))]) ?_;refine au (ax (O.bI (M.bF p) a5 c5) (H:= [])) ?_;refine au (gN (M:=M.bI (M.bF p)) a5 c5) ?_;refine bc ?_;by_cases hw0:M.bF p=0
 ·rw[hw0]
  refine cN ?_ (e:=by exact congrArg (!·) (decide_eq_true rfl));refine bK ?_;refine Rt [SW z (M.bI 0)] results120 ?_;rw[hme,if_neg (by simpa using hw0)];exact⟨rfl,rfl⟩
 refine fe ?_ (e:=by exact congrArg (!·) (Ab));refine bq ?_;refine zl Aa (uY z (M.bI (M.bF p)) p hp) (.cons .here .nil) Di ?_;refine bs ?_;refine Rt [SW z ((M.bI (M.bF p)).bw p)] results120 ?_;rw[hme,if_pos hw0];exact⟨rfl,rfl⟩
def Mo.lE (hot warm:Nat)(M:Mo)(k:FI):Mo:=match M.find k with
 |none=>M
 |some p=>(M.BG (lD (M.C.cl p) hot warm M.v.p.l.toNat M.lru).2).aN {M.v.mt with li:=cM (M.v.mt.li+((lD (M.C.cl p) hot warm M.v.p.l.toNat M.lru).1:Nat))}
noncomputable def Mo.behind (hot warm:Nat)(M:Mo)(k:FI):Mo:=(M.lE hot warm k).beside
theorem Dh (hot warm:Nat)(M:Mo)(k:FI):(M.lE hot warm k).hole=M.hole/\(M.lE hot warm k).m=M.m/\(M.lE hot warm k).v.p=M.v.p:=by
 unfold Mo.lE;split<;>exact⟨rfl,rfl,rfl⟩
theorem KU (hot warm:Nat)(M:Mo)(k:FI):Ev M (M.lE hot warm k):=by
 unfold Mo.lE;split
 ·exact .rf rfl rfl
 exact .rf rfl rfl
theorem Iw (wN:pT)(z:Ly)(M:Mo)(k:FI)(hk:k.length<281474976710656)(hh:M.hole=none)(fA:M.m.st<4611686018427387904)(PN:xO M.v.p)(OV:z.hot<=100)(OU:z.warm<=100):aG aaa 46 [Dk z.s,a8 k] uT [SW z M]
  (λv H=>v= .tuple #[]/\H= [SW z (M.behind z.hot z.warm k)]):=by
 obtain⟨b1,b2,b3⟩:=Dh z.hot z.warm M k;have bsd:=vY wN z (M.lE z.hot z.warm k) (b1.trans hh) (by rw[b2];exact fA) (by rw[b3];exact PN);refine af func46 rfl ntmps46 rfl ?_;intro F _;refine Ap λwa wc=>cB λB O=> ?_;unfold dS fy iT fg pV iZ jJ;dsimp only[Mo.aK];refine bR ?_;have tf:=λa c=>ng z.y.t z.y.b B.C O.k B.W B.ty O.t O.ty a k.length c k rfl hk;rw[O.QI,show(M.aK wa wc).find k=M.find k from rfl,P6 O,show(M.aK wa wc).C=M.C from rfl]at tf;refine cV ?_;refine Lp (Dr wu me sE λkb kc sI=> ?_);refine zl Aa (tf _ _) .nil (λ_ le ak=>⟨ak.nth 1 rfl,⟨ak.nth 2 rfl,ak.nth 3 rfl,ak.nth 4 rfl,trivial⟩,bX (ak.nth 0 rfl)⟩) ?_;rcases hf:M.find k with _|p
 ·have hbb:M.lE z.hot z.warm k=M:=by unfold Mo.lE;rw[hf]
  rw[hbb]at bsd;refine dL ?_;refine Hh (H':= [Cl z.y.b B.C,DH z B.W B.ty,zK B.ty B.W,DJ B.ty B.W,DI z B.C.ae.length,ag z.qb 333 (M.Q.flatMap (cX B.C)),Wp z B.C.ae.length B.C M.x,Wl z.y.wh B.E M.tn,ag z.s 96 [Dk z.y.b,Dk z.y.ck,Dk z.y.t,Dk z.y.lu,Dk z.y.wh,Dk z.y.cr,Dk z.y.mo,Dk z.y.q,Dm Dl M.v.c.ao,Dm Dl M.v.c.bA,Dm Dl M.v.c.iG,Dm Dl M.v.c.eI,Dm Dl M.v.c.lim,Dm Dl M.v.c.hot,Dm Dl M.v.c.warm,Dm Dl M.v.p.b,Dm Dl M.v.p.l,Dm Dl M.v.p.c,Dm Dl M.v.p.m,Dm Dj M.v.aQ,Dm Dl M.v.fB,Dm Dl M.v.mt.dr,Dm Dl M.v.mt.re,Dm Dl M.v.mt.bu,Dm Dl M.v.mt.li,Dm Dl M.v.mt.lo,Dm Dl M.v.mt.cr,Dm Dl M.v.mt.mv, .slice wa M.jZ.length wc],kI z.y.ck M.k,zF z,xx z M.m,kF z.ub M.m,own wa wc 3 1 (aY M.jZ)]) ?_;refine au (ax O (H:= [])) ?_;refine au (gN (M:=M) wa wc) ?_;refine bd ?_;refine zl Aa (bsd) (.cons .here .nil) Di ?_;refine aD ?_;refine jU [SW z M.beside] results46 ?_;exact⟨rfl,by unfold Mo.behind;rw[hbb]⟩
 obtain⟨hp,nW⟩:=nw hf;have dD:=(O.al p).2 hp;have L:=O.sH dD;have at_:=vS z.y.b B.C O.k p L;rw[O.hd,show(M.aK wa wc).C=M.C from rfl]at at_;have gS:=(L.toAt.ba O.k).1;have bl:=FZ z.y.lu z.y.q z.y.b z.qb z.hot z.warm z.y.cr z.y.wh (aV z.s) (bx z.s) B.C O.k M.lru O.bai (B.C.cl p) gS OV OU M.v.p.l.toNat (by have:=PN.l;omega);rw[show((M.v.p.l.toNat:Nat):Int)=M.v.p.l by have:=PN.l;omega]at bl;refine rh ?_;refine zl Aa (at_) .nil (λ_ le ak=>ak.nth 1 rfl) ?_;refine cV ?_;refine iU 27 mix (.cons (.t8 (.there .here)) .nil) λF1 jD bV aI=> ?_;obtain⟨q1,_⟩:=bV;refine cK ?_;refine aw ?_;refine Ti Mf ?_;refine Tp (oC Aa rfl rfl (bl) (.cons (.there .here) (.cons (.t4 .here) (.cons (.t4 .here) (.cons (.t4 .here) .nil)))) (λ_ le ak=>ak.nth 6 rfl) ?_);rintro v H' ⟨n,A,t,hbf,rfl,rfl,T2⟩;refine bR ?_;refine bc ?_;refine gI aI ?_;refine bd ?_;have O1:bH ⟨B.C.wA A,B.W,B.ty,B.E⟩ (((M.BG t).aN {M.v.mt with li:=cM (M.v.mt.li+(n:Nat))}).aK wa wc):=(O.bal T2).aN {M.v.mt with li:=cM (M.v.mt.li+(n:Nat))};have hbb:M.lE z.hot z.warm k=(M.BG t).aN {M.v.mt with li:=cM (M.v.mt.li+(n:Nat))}:=by
  unfold Mo.lE;rw[hf];dsimp only;rw[O.cl,show(M.aK wa wc).C=M.C from rfl]at hbf;rw[hbf]
 rw[hbb]at bsd;refine Hh (H':= [Cl z.y.b (B.C.wA A),DH z B.W B.ty,zK B.ty B.W,DJ B.ty B.W,DI z B.C.ae.length,ag z.qb 333 (t.Q.flatMap (cX B.C)),Wp z B.C.ae.length B.C t.x,Wl z.y.wh B.E M.tn,ag z.s 96 [Dk z.y.b,Dk z.y.ck,Dk z.y.t,Dk z.y.lu,Dk z.y.wh,Dk z.y.cr,Dk z.y.mo,Dk z.y.q,Dm Dl M.v.c.ao,Dm Dl M.v.c.bA,Dm Dl M.v.c.iG,Dm Dl M.v.c.eI,Dm Dl M.v.c.lim,Dm Dl M.v.c.hot,Dm Dl M.v.c.warm,Dm Dl M.v.p.b,Dm Dl M.v.p.l,Dm Dl M.v.p.c,Dm Dl M.v.p.m,Dm Dj M.v.aQ,Dm Dl M.v.fB,Dm Dl M.v.mt.dr,Dm Dl M.v.mt.re,Dm Dl M.v.mt.bu,Dm Dl (IntKind.i64.wrap (M.v.mt.li+(n:Int))),Dm Dl M.v.mt.lo,Dm Dl M.v.mt.cr,Dm Dl M.v.mt.mv, .slice wa M.jZ.length wc],kI z.y.ck M.k,zF z,xx z M.m,kF z.ub M.m,own wa wc 3 1 (aY M.jZ)]) ?_;refine au (ax O1 (H:= [])) ?_;refine au (gN (M:=(M.BG t).aN {M.v.mt with li:=cM (M.v.mt.li+(n:Nat))}) wa wc) ?_;refine bd ?_;refine zl Aa (bsd) (.cons .here .nil) Di ?_;refine aD ?_;refine jU [SW z ((M.BG t).aN {M.v.mt with li:=cM (M.v.mt.li+(n:Nat))}).beside] results46 ?_;exact⟨rfl,by unfold Mo.behind;rw[hbb]⟩
theorem afH:∀m:Nat,m<16->gh .and .i64 (m:Int) 2=some ((m/2 % 2*2:Nat):Int):=by decide+kernel
theorem afG:∀m:Nat,m<16->gh .and .i64 (m:Int) 4=some ((m/4 % 2*4:Nat):Int):=by decide+kernel
theorem afF:∀m:Nat,m<16->gh .and .i64 (m:Int) 8=some ((m/8 % 2*8:Nat):Int):=by decide+kernel
def xL (x:I3)(va:Value):FJ:= [a8 x.key,va,Dm Dj x.fl,Dm Dl x.exp,Dm Dj x.tok,Dm Dl x.tch, .bool (decide (x.eP/2 % 2=1)), .bool (decide (x.eP/4 % 2=1)), .bool (decide (x.eP/8 % 2=1))]
theorem eM (m:Nat):(!decide (((m/2 % 2*2:Nat):Int)=0))=decide (m/2 % 2=1):=by
 have:m/2 % 2=0\/m/2 % 2=1:=by omega
 rcases this with h|h<;>rw[h]<;>rfl
theorem eH (m:Nat):(!decide (((m/4 % 2*4:Nat):Int)=0))=decide (m/4 % 2=1):=by
 have:m/4 % 2=0\/m/4 % 2=1:=by omega
 rcases this with h|h<;>rw[h]<;>rfl
theorem hb8 (m:Nat):(!decide (((m/8 % 2*8:Nat):Int)=0))=decide (m/8 % 2=1):=by
 have:m/8 % 2=0\/m/8 % 2=1:=by omega
 rcases this with h|h<;>rw[h]<;>rfl
theorem AN (z:Ly)(M:Mo)(p:Nat)(hp:M.has p):aG aaa 49 [Dk z.s,Dm Dj (M.C.hd p)] uT [SW z M]
  (λv H=>∃vb,v= .agg (xL (M.it p) (.slice (some ⟨vb,0,none⟩) (M.it p).val.length (M.it p).val.length)).toArray/\H= [own (some ⟨vb,0,none⟩) (M.it p).val.length 5 1 (aj (M.it p).val),SW z M]):=by
 refine af func49 rfl ntmps49 rfl ?_;intro F _;refine aw ?_;refine Lp (oA Aj λb1=> ?_);refine aw ?_;refine au (λ_ x=>dy x) ?_;refine Ap λwa wc=>cB λB O=> ?_;unfold dS fy iT fg pV iZ jJ;dsimp only[Mo.aK];refine bR ?_;have dD:=(O.al p).2 hp;have rdc:=tT z.y.b B.C O.k p (O.sH dD) (O.t.it p dD);rw[O.hd,show(M.aK wa wc).C=M.C from rfl]at rdc;obtain⟨f1,f2,f3,f4,f5,f6,f7⟩:=O.kK dD;have uy:=(O.wF dD).2;rw[show(M.aK wa wc).it p=M.it p from rfl]at f1 f2 f3 f4 f5 f6 f7 uy;have lk:kl B.C.A p=(M.it p).key.length:=by rw[<-f5];exact(cE _ _ _).symm
 have lv:vl B.C.A p=(M.it p).val.length:=by rw[<-f6];exact(cE _ _ _).symm
 rw[show rd B.C.A (p+40) 4=(M.it p).fl from f7,show rd B.C.A (p+16) 8=(M.it p).exp from f1,show rd B.C.A (p+24) 8=(M.it p).tch from f2,show rd B.C.A (p+32) 8=(M.it p).tok from f3,show rd B.C.A (p+46) 1=(M.it p).eP from f4,lk,lv,f5,f6]at rdc;generalize rd B.C.A (p+45) 1=stt at*;refine bK ?_;refine Lp (oC Aa rfl rfl (rdc) .nil (λ_ le ak=>ak.nth 0 rfl) ?_);rintro v H' ⟨kb,vb,rfl,rfl⟩;refine bR ?_;refine bq ?_;refine Lp (oA bT λb2=> ?_);refine Lp (jh dX ?_ (h1:=by simp[DL,Value.oneCell']));refine bn ?_;refine Lp (oTs fS sE wu ?_);refine gJ ?_;refine aA (t:=32) (v':=(Dm Dl ((M.it p).eP/2 % 2*2:Nat))) rfl (by exact congrArg (λx=>Value.int .i64 (x.getD 0)) (afH _ uy)) ?_;refine aw ?_;refine aA (t:=33) (v':=(.bool (decide ((M.it p).eP/2 % 2=1)))) rfl (by exact congrArg Value.bool (eM _)) ?_;refine bq ?_;refine aA (t:=36) (v':=(Dm Dl ((M.it p).eP/4 % 2*4:Nat))) rfl (by exact congrArg (λx=>Value.int .i64 (x.getD 0)) (afG _ uy)) ?_;refine aw ?_;refine aA (t:=37) (v':=(.bool (decide ((M.it p).eP/4 % 2=1)))) rfl (by exact congrArg Value.bool (eH _)) ?_;refine bq ?_;refine aA (t:=40) (v':=(Dm Dl ((M.it p).eP/8 % 2*8:Nat))) rfl (by exact congrArg (λx=>Value.int .i64 (x.getD 0)) (afF _ uy)) ?_;refine aw ?_;refine aA (t:=41) (v':=(.bool (decide ((M.it p).eP/8 % 2=1)))) rfl (by exact congrArg Value.bool (hb8 _)) ?_;refine aw ?_;refine Lp (jh pS ?_ (h1:=by simp[cL,Value.cells,Value.oneCell',a8]));refine bd ?_;refine Hh (H':= [Cl z.y.b B.C,DH z B.W B.ty,zK B.ty B.W,DJ B.ty B.W,DI z B.C.ae.length,ag z.qb 333 (M.Q.flatMap (cX B.C)),Wp z B.C.ae.length B.C M.x,Wl z.y.wh B.E M.tn,ag z.s 96 [Dk z.y.b,Dk z.y.ck,Dk z.y.t,Dk z.y.lu,Dk z.y.wh,Dk z.y.cr,Dk z.y.mo,Dk z.y.q,Dm Dl M.v.c.ao,Dm Dl M.v.c.bA,Dm Dl M.v.c.iG,Dm Dl M.v.c.eI,Dm Dl M.v.c.lim,Dm Dl M.v.c.hot,Dm Dl M.v.c.warm,Dm Dl M.v.p.b,Dm Dl M.v.p.l,Dm Dl M.v.p.c,Dm Dl M.v.p.m,Dm Dj M.v.aQ,Dm Dl M.v.fB,Dm Dl M.v.mt.dr,Dm Dl M.v.mt.re,Dm Dl M.v.mt.bu,Dm Dl M.v.mt.li,Dm Dl M.v.mt.lo,Dm Dl M.v.mt.cr,Dm Dl M.v.mt.mv, .slice wa M.jZ.length wc],kI z.y.ck M.k,zF z,xx z M.m,kF z.ub M.m,own wa wc 3 1 (aY M.jZ),own (some ⟨vb,0,none⟩) (M.it p).val.length 5 1 (aj (M.it p).val),ag b1 56 (xL (M.it p) (.slice (some ⟨vb,0,none⟩) (M.it p).val.length (M.it p).val.length))]) ?_;refine au (ax O (H:= [own (some ⟨vb,0,none⟩) (M.it p).val.length 5 1 (aj (M.it p).val),ag b1 56 (xL (M.it p) (.slice (some ⟨vb,0,none⟩) (M.it p).val.length (M.it p).val.length))])) ?_;refine au (gN (M:=M) wa wc) ?_;refine Jc [own (some ⟨vb,0,none⟩) (M.it p).val.length 5 1 (aj (M.it p).val),SW z M] pS results49 ?_;exact⟨vb,rfl,rfl⟩
theorem lh (z:Ly)(M:Mo)(hh:M.hole=none)(c:Nat)(hc:c<M.fG):aG aaa 157 [Dk z.y.b,Dm Dl c] uT [SH z M]
  (λv H=>(M.take c=none/\v= .tuple #[Dm Dj 0,Dm Dl 21]/\H= [SH z M])\/∃r N,M.take c=some (r,N)/\v= .tuple #[Dm Dj (N.C.hd r),Dm Dl 0]/\H= [SH z N]):=
 dJ λB O=>by
  have gS:c<B.C.ae.length:=by rw[O.fG];exact hc
  have h:=(JD z.y.b B.C O.k c gS).fr (H:=dS z B M++ []) (R:=(dS z B M).tail) (.cons .here .nil) (λk ak=>trivial);refine h.out ?_;rintro v H' ⟨H0,hr,rfl⟩;rcases hT:B.C.ca c with _|⟨r,D⟩
  ·rw[hT]at hr
   obtain⟨rfl,rfl⟩:=hr;exact⟨[SH z M], .inl ⟨O.takeN hT,rfl,rfl⟩,λk s=>ax O (H:= []) k s⟩
  rw[hT]at hr;obtain⟨rfl,rfl⟩:=hr;obtain⟨N,n1,n2,n3,n4,O1,X⟩:=O.take hh gS hT;refine⟨[SH z N], .inr ⟨r,N,n1,by rw[n2],rfl⟩,λk s=>ax O1 (H:= []) k ?_⟩;have S:vF B.C (D.wA B.C.A) (λq=>q∈B.W.all):=⟨rfl,X.sz,λq _ M=>⟨((X.lv q).2 (.inl M)).wA _,(X.hd q M).1,(X.hd q M).2⟩⟩;have acr:M.Q.flatMap (cX B.C)=M.Q.flatMap (cX D):=(S.ls O.o λi q h=>O.nR h).symm;have acs:pE z.y.q z.y.wh D.ae.length (aV z.s) (bx z.s) B.C M.x=pE z.y.q z.y.wh D.ae.length (aV z.s) (bx z.s) D M.x:=(S.cw O.o (λi q h=>O.nR h) O.x _ _ _ _ _).symm;have acq:B.C.ae.length=D.ae.length:=by rw[X.sz]
  change ai ([Cl z.y.b D]++ [DH z B.W B.ty,zK B.ty B.W,DJ B.ty B.W,DI z B.C.ae.length,ag z.qb 333 (M.Q.flatMap (cX B.C)),ag z.y.cr 137 (pE z.y.q z.y.wh B.C.ae.length (aV z.s) (bx z.s) B.C M.x),Wl z.y.wh B.E M.tn,fy z.s z.y (fg M.v),
   kI z.y.ck M.k,zF z,xx z M.m,kF z.ub M.m,jJ M]) k at s
  rw[acr,acq,acs]at s;rw[n4];exact s
theorem C8{f g:Nat->Bool}:∀{l:FH},(∀p∈l,f p=g p)->l.find? f=l.find? g/\l.findIdx? f=l.findIdx? g
 | [],_=>⟨rfl,rfl⟩
 |a::l,h=>by
  obtain⟨i1,i2⟩:=C8 (l:=l) λp hp=>h p (aai _ hp);rw[akh,akh,agB,agB,h a aag,i1,i2];exact⟨rfl,rfl⟩
theorem Ym{d d' a a':Nat->Bool}{own:FK}{n:Nat}{l:FH}(hd:∀p∈l,d p=d' p)(ha:∀p∈l,a p=a' p):kT d a own n l=kT d' a' own n l:=by
 unfold kT xR;have hs:∀p∈(cz own l).take n,p∈l:=λp hp=>(abG.1 (ajF hp)).1;rw[(C8 λp hp=>hd p (hs p hp)).2,(C8 (f:=λq=> !a q) (g:=λq=> !a' q) λp hp=>by rw[ha p (hs p hp)]).1]
def Mo.pick (M:Mo)(c:Nat)(own:FK):FK×Bool×Nat:=kT (λp=>decide (M.bF p≠0)) (λp=>decide ((M.it p).eP % 2=1)) own 5 (j9 M.Q c)
theorem oh{Q:F7}{c p:Nat}(hp:p∈j9 Q c):∃i,p∈ql Q i:=by
 unfold j9 at hp;rw[agb,agb,agH,agH,agH]at hp;rcases hp with(h|h)|h<;>exact⟨_,h⟩
theorem qj{d a:Nat->Bool}{own:FK}{n:Nat}{l:FH}{p:Nat}(h:(kT d a own n l).1=some p):p∈l/\some p≠own:=by
 have hs:∀p∈(cz own l).take n,p∈l/\some p≠own:=λp hp=>by
  obtain⟨h1,h2⟩:=abG.1 (ajF hp);exact⟨h1,of_decide_eq_true h2⟩
 unfold kT xR at h;refine hs p ?_;generalize (cz own l).take n=r at*;cases hf:r.findIdx? d with
 |some i=>rw[hf]at h;exact aaf h
 |none=>
  rw[hf]at h;dsimp only at h;cases hg:r.find? (λq=> !a q)with
  |some q=>rw[hg]at h;cases h;exact af0 hg
  |none=>rw[hg]at h;exact List.mem_of_mem_head? h
theorem AK (z:Ly)(M:Mo)(c:Nat)(hc:c<M.fG)(own:FK)(ho:∀p,own=some p->M.has p):aG aaa 184 [Dk z.y.lu,Dm Dl c,Dm Dj (qZ M.C own),Dm Dl 5,aV z.s] uT [SH z M]
  (λv H=>v= .tuple #[Dm Dj (qZ M.C (M.pick c own).1), .bool (M.pick c own).2.1,Dm Dl ((M.pick c own).2.2)]/\H= [SH z M]):=
 dJ λB O=>by
  have gS:c<B.C.ae.length:=by rw[O.fG];exact hc
  have h:=(UP z.y.lu z.y.q z.qb z.hot z.warm z.s z.y (fg M.v) B.C O.k M.Q O.o O.mq c gS M.k own (λp e=>O.mL ((O.al p).2 (ho p e)))).fr (H:=dS z B M++ []) (R:=dS z B M) (kY [] _) (λk ak=>⟨ak.nth 0 rfl,ak.nth 10 rfl,⟨ak.nth 4 rfl,ak.nth 5 rfl,trivial⟩,ak.nth 8 rfl,ak.nth 9 rfl⟩);rw[P6 O]at h;have hp:kT (λp=>decide (zP B.C.A M.k p≠0)) (DN B.C.A) own 5 (j9 M.Q c)=M.pick c own:=by
   refine Ym (λp hp=> ?_) (λp hp=> ?_)
   ·have h2:=(O.al p).2 (oh hp)
    rw[O.ab3 h2]
   have h2:=(O.al p).2 (oh hp);unfold DN;rw[(O.wF h2).1]
  refine h.out ?_;rintro v H' ⟨H0,⟨p,d,n,e,rfl,rfl⟩,rfl⟩;rw[hp]at e;refine⟨[SH z M],⟨by rw[<-e,P6 O],rfl⟩,λk s=>ax O (H:= []) k s⟩
def Mo.cF (M:Mo)(c:Nat):Mo:={M with m:=M.m.jr c}
theorem ue (z:Ly)(M:Mo)(c:Nat)(hc:c<M.fG)(fA:M.m.st<4611686018427387904):aG aaa 185 [Dk z.y.mo,Dm Dl c] uT [SH z M]
  (λv H=>v= .tuple #[]/\H= [SH z (M.cF c)]):=
 dJ λB O=>by
  have h:=(FV z.y.mo z.y.b z.ub (aV z.s) (bx z.s) (de z.s) M.m c (by rw[O.un,O.fG];exact hc) fA).fr (H:=dS z B M++ []) (R:= [Cl z.y.b B.C,ag z.y.t 154 (gE z.y.b B.W B.ty),zK B.ty B.W,nL B.ty.ok 149 (aS (aF B.W.ob)),ag z.y.q 182 (ij z.y.b z.qb B.C.ae.length),ag z.qb 333 (M.Q.flatMap (cX B.C)),ik z.y.cr z.y.q z.y.wh B.C.ae.length (aV z.s) (bx z.s) B.C M.x,Wl z.y.wh B.E M.tn,fy z.s z.y (fg M.v),
   kI z.y.ck M.k,zF z,mN z.y.mo z.y.b z.ub (aV z.s) (bx z.s) (de z.s) M.m,jJ M]) (.cons (.t8 (.t4 .here)) .nil) (λk ak=>ak.nth 11 rfl)
  refine h.out ?_;rintro v H' ⟨H0,⟨rfl,rfl⟩,rfl⟩;have O1:bH B (M.cF c):=⟨O.c,O.k,O.t,O.ty,O.o,O.x,O.mq,O.ck,O.al,O.lv,O.ho,O.it,O.e,O.st,O.nb,O.mg,O.mo,O.bt,by show(M.m.un.set c _).length=_;rw[aak];exact O.un,O.on,O.go,O.wn,O.cf,O.n,O.lg⟩;refine⟨[SH z (M.cF c)],⟨rfl,rfl⟩,λk s=>ax O1 (H:= []) k ?_⟩
  revert s
  revert k
  show∀k,_->ai [Cl z.y.b B.C,ag z.y.t 154 (gE z.y.b B.W B.ty),zK B.ty B.W,nL B.ty.ok 149 (aS (aF B.W.ob)),ag z.y.q 182 (ij z.y.b z.qb B.C.ae.length),ag z.qb 333 (M.Q.flatMap (cX B.C)),ik z.y.cr z.y.q z.y.wh B.C.ae.length (aV z.s) (bx z.s) B.C M.x,Wl z.y.wh B.E M.tn,fy z.s z.y (fg M.v),
   kI z.y.ck M.k,zF z,mN z.y.mo z.y.b z.ub (aV z.s) (bx z.s) (de z.s) (M.m.jr c),kF z.ub (M.m.jr c),jJ M] k
  rw[show mN z.y.mo z.y.b z.ub (aV z.s) (bx z.s) (de z.s) (M.m.jr c)=mN z.y.mo z.y.b z.ub (aV z.s) (bx z.s) (de z.s) M.m by unfold mN Du gp.jr;dsimp only;rw[aak]];simp only[oU,cap];exact Eh
theorem s7 (z:Ly)(M:Mo)(c:Nat)(hn:¬(M.m.on=true/\M.m.fr=c)):aG aaa 183 [Dk z.y.mo,Dm Dl c] uT [SH z M]
  (λv H=>v= .bool false/\H= [SH z M]):=
 dJ λB O=>by
  have h:=(IG z.y.mo z.y.b z.ub (aV z.s) (bx z.s) (de z.s) M.m c hn).fr (H:=dS z B M++ []) (R:=dS z B M) (kY [] _) (λk ak=>ak.nth 11 rfl);refine h.out ?_;rintro v H' ⟨H0,⟨rfl,rfl⟩,rfl⟩;exact⟨[SH z M],⟨rfl,rfl⟩,λk s=>ax O (H:= []) k s⟩
def Mo.last (M:Mo)(c p:Nat):FK×Mo:=match(M.bw p).take c with
 |some (r,N)=>(some r,N)
 |none=>(none,M.bw p)
def Mo.Aw (M:Mo)(c:Nat):FK->Bool->FK×Mo
 |none,true=>(none,M)
 |none,false=>(none,M.cF c)
 |some p,true=>(M.aN {M.v.mt with re:=cM (M.v.mt.re+1)}).last c p
 |some p,false=>((M.cF c).aN {(M.cF c).v.mt with dr:=cM ((M.cF c).v.mt.dr+1)}).last c p
def Mo.iy (M:Mo)(c:Nat)(own:FK):FK×Mo:=(M.aN {M.v.mt with lo:=cM (M.v.mt.lo+((M.pick c own).2.2:Int))}).Aw c (M.pick c own).1 (M.pick c own).2.1
def Mo.lG (M:Mo)(c:Nat)(own:FK):FK×Mo:=match M.take c with
 |some (r,N)=>(some r,N)
 |none=>if M.m.on=true/\M.m.fr=c then(match M.mstop.take c with
  |some (r,N)=>(some r,N)
  |none=>M.mstop.iy c own)else M.iy c own
def Mo.room (M:Mo)(n:Nat)(own:FK):FK×Mo:=match M.C.ae.findIdx? λz=>decide (n<=z)with
 |none=>(none,M)
 |some c=>M.lG c own
theorem bH.pf{B:Bx}{M:Mo}(O:bH B M){p:Nat}(hp:M.has p):M.C.hd p≠0:=by
 have h:=(bM O.k (O.mL ((O.al p).2 hp))).2.2.2.2.2;rw[O.hd]at h;exact h
theorem Mn (z:Ly)(M:Mo)(hh:M.hole=none)(fA:M.m.st<4611686018427387904)(kn vn:Nat)(hk:1<=kn/\kn<=250)(hv:vn<=1048576)(own:FK)(jb:∀p,own=some p->M.has p):
  aG aaa 128 [Dk z.s,Dm Dl kn,Dm Dl vn,Dm Dj (qZ M.C own)] uT [SH z M]
   (λw H=>∃o N,M.room (58+kn+vn) own=(o,N)/\w=Dm Dj (qZ N.C o)/\H= [SH z N]):=by
 refine af func128 rfl ntmps128 rfl ?_;intro F _;refine bs ?_;refine zl Aa (E7 kn vn hk hv) .nil Di ?_;refine bs ?_;refine cB λB O=> ?_;have fo:=aed z.y.b B.C O.k (58+kn+vn) (by omega);rw[show B.C.ae=M.C.ae by rw[O.c];rfl]at fo;have cQ:=λc (h:(M.C.ae.findIdx? λz=>decide (58+kn+vn<=z))=some c)=>(show c<M.fG from(abK.1 h).1);have hXn:=λp hp=>O.pf (p:=p) hp;have ahK:∀p,M.has p->M.m.on=true->M.mstop.C.hd p=M.C.hd p:=λp hp eo=>by
  have h:=(((O.stay eo).1).lv p ((O.al p).2 hp) (O.sH ((O.al p).2 hp))).2.1;rw[O.hd]at h;rw[<-h];show(M.C.iu M.m.pg).hd p=(B.C.iu M.m.pg).hd p;rw[O.c];rfl
 unfold dS fy iT fg pV iZ;refine bR ?_;refine bK ?_;refine Lp (oC Aa rfl rfl (fo) .nil (λ_ le ak=>ak.nth 0 rfl) ?_);rintro v H' ⟨hv0,rfl⟩;refine bR ?_;rcases hf:(M.C.ae.findIdx? λz=>decide (58+kn+vn<=z))with _|c
 ·rw[hf]at hv0
  subst hv0;refine rh ?_;refine Hh (H':=gu z B.C B.W B.ty B.C.ae.length (M.Q.flatMap (cX B.C)) M.x B.E M.tn (M.v,[Dm Dj M.v.aQ,Dm Dl M.v.fB,Dm Dl M.v.mt.dr,Dm Dl M.v.mt.re,Dm Dl M.v.mt.bu,Dm Dl M.v.mt.li,Dm Dl M.v.mt.lo,Dm Dl M.v.mt.cr,Dm Dl M.v.mt.mv, .slice M.v.wa M.v.wn M.v.wc]) M.k M.m M []) ?_;unfold gu oR;refine au (ax O (H:= [])) ?_;refine Rt [SH z M] results128 ?_;exact⟨none,M,by unfold Mo.room;rw[hf],rfl,rfl⟩
 rw[hf]at hv0;subst hv0;have Pw:=cQ c hf;have hrc:M.room (58+kn+vn) own=M.lG c own:=by unfold Mo.room;rw[hf]
 refine fX ?_;refine Hh (H':=gu z B.C B.W B.ty B.C.ae.length (M.Q.flatMap (cX B.C)) M.x B.E M.tn (M.v,[Dm Dj M.v.aQ,Dm Dl M.v.fB,Dm Dl M.v.mt.dr,Dm Dl M.v.mt.re,Dm Dl M.v.mt.bu,Dm Dl M.v.mt.li,Dm Dl M.v.mt.lo,Dm Dl M.v.mt.cr,Dm Dl M.v.mt.mv, .slice M.v.wa M.v.wn M.v.wc]) M.k M.m M []) ?_;unfold gu oR;refine au (ax O (H:= [])) ?_;refine QE λB O=> ?_;refine cB λB O=> ?_;unfold dS fy iT fg pV iZ;refine bR ?_;refine bK ?_;refine Hh (H':=gu z B.C B.W B.ty B.C.ae.length (M.Q.flatMap (cX B.C)) M.x B.E M.tn (M.v,[Dm Dj M.v.aQ,Dm Dl M.v.fB,Dm Dl M.v.mt.dr,Dm Dl M.v.mt.re,Dm Dl M.v.mt.bu,Dm Dl M.v.mt.li,Dm Dl M.v.mt.lo,Dm Dl M.v.mt.cr,Dm Dl M.v.mt.mv, .slice M.v.wa M.v.wn M.v.wc]) M.k M.m M []) ?_;unfold gu oR;refine au (ax O (H:= [])) ?_;refine Lp (oC Aa rfl rfl (lh z M hh c Pw) (.cons .here .nil) Di ?_);rintro v H' hr;refine bR ?_;rcases hr with⟨ht,rfl,rfl⟩|⟨r,N,ht,rfl,rfl⟩
 ·by_cases eo:M.m.on=true/\M.m.fr=c
  ·have P5:M.lG c own=match M.mstop.take c with
    |some (r,N)=>(some r,N)
    |none=>M.mstop.iy c own:=by unfold Mo.lG;rw[ht];dsimp only;rw[if_pos eo]
   refine bP ?_;refine zt 47 ?_ (e:=by rfl);refine cB λB O=> ?_;unfold dS fy iT fg pV iZ;refine bR ?_;refine bs ?_;refine Hh (H':=gu z B.C B.W B.ty B.C.ae.length (M.Q.flatMap (cX B.C)) M.x B.E M.tn (M.v,[Dm Dj M.v.aQ,Dm Dl M.v.fB,Dm Dl M.v.mt.dr,Dm Dl M.v.mt.re,Dm Dl M.v.mt.bu,Dm Dl M.v.mt.li,Dm Dl M.v.mt.lo,Dm Dl M.v.mt.cr,Dm Dl M.v.mt.mv, .slice M.v.wa M.v.wn M.v.wc]) M.k M.m M []) ?_;unfold gu oR;refine au (ax O (H:= [])) ?_;refine zl Aa (y8 z M eo.1 c eo.2) (.cons .here .nil) Di ?_;obtain⟨X,hX⟩:∃X,X=M.mstop:=⟨_,rfl⟩;rw[<-hX]at P5⊢;have hX0:X.hole=none:=by rw[hX];exact hh
   have Pw:c<X.fG:=by rw[hX];exact Pw
   refine bq ?_;refine cB λB O=> ?_;unfold dS fy iT fg pV iZ;refine bR ?_;refine bK ?_;refine Hh (H':=gu z B.C B.W B.ty B.C.ae.length (X.Q.flatMap (cX B.C)) X.x B.E X.tn (X.v,[Dm Dj X.v.aQ,Dm Dl X.v.fB,Dm Dl X.v.mt.dr,Dm Dl X.v.mt.re,Dm Dl X.v.mt.bu,Dm Dl X.v.mt.li,Dm Dl X.v.mt.lo,Dm Dl X.v.mt.cr,Dm Dl X.v.mt.mv, .slice X.v.wa X.v.wn X.v.wc]) X.k X.m X []) ?_;unfold gu oR;refine au (ax O (H:= [])) ?_;refine Lp (oC Aa rfl rfl (lh z X hX0 c Pw) (.cons .here .nil) Di ?_);rintro v H' hr;refine bR ?_;rcases hr with⟨oV,rfl,rfl⟩|⟨r,N,oV,rfl,rfl⟩
   ·rw[oV]at P5
    have hR:M.room (58+kn+vn) own=X.iy c own:=by rw[hrc,P5]
    have hXo:qZ X.C own=qZ M.C own:=by
     cases hown0:own with
     |none=>rfl
     |some p=>rw[hX];exact ahK p (jb p hown0) eo.1
    have hXh:∀p,own=some p->X.has p:=by rw[hX];exact jb
    have hXs:X.m.st<4611686018427387904:=by rw[hX];exact fA
    have hXn:∀p,X.has p->X.C.hd p≠0:=λp hp=>by
     rw[hX]at hp⊢;rw[show M.mstop.C.hd p=M.C.hd p from ahK p hp eo.1];exact hXn p hp
    refine dL ?_;rw[show qZ M.C own=qZ X.C own from hXo.symm];refine bd ?_;refine cB λB O=> ?_;unfold dS fy iT fg pV iZ;refine bR ?_;refine cA ?_;refine Li Mf ?_;refine Hh (H':=gu z B.C B.W B.ty B.C.ae.length (X.Q.flatMap (cX B.C)) X.x B.E X.tn (X.v,[Dm Dj X.v.aQ,Dm Dl X.v.fB,Dm Dl X.v.mt.dr,Dm Dl X.v.mt.re,Dm Dl X.v.mt.bu,Dm Dl X.v.mt.li,Dm Dl X.v.mt.lo,Dm Dl X.v.mt.cr,Dm Dl X.v.mt.mv, .slice X.v.wa X.v.wn X.v.wc]) X.k X.m X []) ?_;unfold gu oR;refine au (ax O (H:= [])) ?_;refine zl Aa (AK z X c Pw own hXh) (.cons .here .nil) Di ?_;refine cV ?_;obtain⟨o,ho⟩:∃o,o=X.pick c own:=⟨_,rfl⟩;rw[<-ho];obtain⟨po,d,nn⟩:=o;dsimp only;refine cB λB O=> ?_;unfold dS fy iT fg pV iZ;refine bR ?_;refine gJ ?_;refine av ?_;have O':=O.aN {X.v.mt with lo:=cM (X.v.mt.lo+(nn:Int))};refine Hh (H':=gu z B.C B.W B.ty B.C.ae.length (X.Q.flatMap (cX B.C)) X.x B.E X.tn (X.v,[Dm Dj X.v.aQ,Dm Dl X.v.fB,Dm Dl X.v.mt.dr,Dm Dl X.v.mt.re,Dm Dl X.v.mt.bu,Dm Dl X.v.mt.li,Dm Dl (IntKind.i64.wrap (X.v.mt.lo+(nn:Int))),Dm Dl X.v.mt.cr,Dm Dl X.v.mt.mv, .slice X.v.wa X.v.wn X.v.wc]) X.k X.m X []) ?_;unfold gu oR;refine au (ax O' (H:= [])) ?_;obtain⟨X1,Lg⟩:∃X1,X1=X.aN {X.v.mt with lo:=cM (X.v.mt.lo+(nn:Int))}:=⟨_,rfl⟩;rw[<-Lg];have na:X.iy c own=X1.Aw c po d:=by unfold Mo.iy;rw[<-ho,Lg]
    have ach:X1.m.st<4611686018427387904:=by rw[Lg];exact hXs
    have aci:c<X1.fG:=by rw[Lg];exact Pw
    rcases d with _|_
    ·refine gK ?_
     refine bc ?_;refine cB λB O=> ?_;unfold dS fy iT fg pV iZ;refine bR ?_;refine bK ?_;refine Hh (H':=gu z B.C B.W B.ty B.C.ae.length (X1.Q.flatMap (cX B.C)) X1.x B.E X1.tn (X1.v,[Dm Dj X1.v.aQ,Dm Dl X1.v.fB,Dm Dl X1.v.mt.dr,Dm Dl X1.v.mt.re,Dm Dl X1.v.mt.bu,Dm Dl X1.v.mt.li,Dm Dl X1.v.mt.lo,Dm Dl X1.v.mt.cr,Dm Dl X1.v.mt.mv, .slice X1.v.wa X1.v.wn X1.v.wc]) X1.k X1.m X1 []) ?_;unfold gu oR;refine au (ax O (H:= [])) ?_;refine zl Aa (ue z X1 c aci ach) (.cons .here .nil) Di ?_;refine aw ?_;refine av ?_;obtain⟨X2,Ld⟩:∃X2,X2=X1.cF c:=⟨_,rfl⟩;rw[<-Ld];rcases po with _|p
     ·refine gK ?_
      refine cA ?_;refine Rt [SH z X2] results128 ?_;exact⟨none,X2,by rw[hR,na];show(none,X1.cF c)=_;rw[<-Ld],rfl,rfl⟩
     have xw:X.has p:=oh (qj (p:=p) (by have:=congrArg Prod.fst ho;exact this.symm)).1;have fQ:=hXn p xw;refine bc ?_;refine cN ?_ (e:=by exact decide_eq_false (by show¬(((X.C.hd p:Nat):Int)=0);omega));refine bK ?_;refine cB λB O=> ?_;unfold dS fy iT fg pV iZ;refine bR ?_;refine dL ?_;have O':=O.aN {X2.v.mt with dr:=cM (X2.v.mt.dr+1)};refine Hh (H':=gu z B.C B.W B.ty B.C.ae.length (X2.Q.flatMap (cX B.C)) X2.x B.E X2.tn (X2.v,[Dm Dj X2.v.aQ,Dm Dl X2.v.fB,Dm Dl (IntKind.i64.wrap (X2.v.mt.dr+1)),Dm Dl X2.v.mt.re,Dm Dl X2.v.mt.bu,Dm Dl X2.v.mt.li,Dm Dl X2.v.mt.lo,Dm Dl X2.v.mt.cr,Dm Dl X2.v.mt.mv, .slice X2.v.wa X2.v.wn X2.v.wc]) X2.k X2.m X2 []) ?_;unfold gu oR;refine au (ax O' (H:= [])) ?_;obtain⟨X3,WR⟩:∃X3,X3=X2.aN {X2.v.mt with dr:=cM (X2.v.mt.dr+1)}:=⟨_,rfl⟩;rw[<-WR];have sZ:X3.C=X.C/\X3.Q=X.Q/\X3.hole=X.hole/\X3.fG=X.fG:=by rw[WR,Ld,Lg];exact⟨rfl,rfl,rfl,rfl⟩
     have P8:X3.C=X.C/\X3.has p=X.has p:=⟨sZ.1,by unfold Mo.has;rw[sZ.2.1]⟩;rw[<-P8.1];refine bq ?_;obtain⟨j7,xJ⟩:∃j7,j7=X3.bw p:=⟨_,rfl⟩;refine zl Aa (jO z X3 p (by rw[P8.2];exact xw)) (.cons .here .nil) Di ?_;rw[<-xJ];have hha:j7.hole=none:=by rw[xJ];exact sZ.2.2.1.trans hX0
     have zG:c<j7.fG:=by rw[xJ];show c<X3.fG;rw[sZ.2.2.2];exact Pw
     refine aw ?_;refine cB λB O=> ?_;unfold dS fy iT fg pV iZ;refine bR ?_;refine bK ?_;refine Hh (H':=gu z B.C B.W B.ty B.C.ae.length (j7.Q.flatMap (cX B.C)) j7.x B.E j7.tn (j7.v,[Dm Dj j7.v.aQ,Dm Dl j7.v.fB,Dm Dl j7.v.mt.dr,Dm Dl j7.v.mt.re,Dm Dl j7.v.mt.bu,Dm Dl j7.v.mt.li,Dm Dl j7.v.mt.lo,Dm Dl j7.v.mt.cr,Dm Dl j7.v.mt.mv, .slice j7.v.wa j7.v.wn j7.v.wc]) j7.k j7.m j7 []) ?_;unfold gu oR;refine au (ax O (H:= [])) ?_;refine Lp (oC Aa rfl rfl (lh z j7 hha c zG) (.cons .here .nil) Di ?_);rintro v H' hr;refine bR ?_;rcases hr with⟨ht,rfl,rfl⟩|⟨r,N,ht,rfl,rfl⟩
     ·refine Li Mv ?_
      refine cA ?_;refine Rt [SH z j7] results128 ?_;refine⟨none,j7, ?_,rfl,rfl⟩;rw[hR,na];show(((X1.cF c).aN _).last c p)=_;rw[<-Ld,<-WR];unfold Mo.last;rw[<-xJ,ht]
     refine Li Mv ?_;refine cA ?_;refine Rt [SH z N] results128 ?_;refine⟨some r,N, ?_,rfl,rfl⟩;rw[hR,na];show(((X1.cF c).aN _).last c p)=_;rw[<-Ld,<-WR];unfold Mo.last;rw[<-xJ,ht]
    refine gK ?_;refine bP ?_;rcases po with _|p
    ·refine fe ?_ (e:=by rfl)
     refine bn ?_;refine Rt [SH z X1] results128 ?_;exact⟨none,X1,by rw[hR,na];rfl,rfl,rfl⟩
    have xw:X.has p:=oh (qj (p:=p) (by have:=congrArg Prod.fst ho;exact this.symm)).1;have fQ:=hXn p xw;refine cN ?_ (e:=by exact decide_eq_false (by show¬(((X.C.hd p:Nat):Int)=0);omega));refine bK ?_;refine cB λB O=> ?_;unfold dS fy iT fg pV iZ;refine bR ?_;refine dL ?_;have O':=O.aN {X1.v.mt with re:=cM (X1.v.mt.re+1)};refine Hh (H':=gu z B.C B.W B.ty B.C.ae.length (X1.Q.flatMap (cX B.C)) X1.x B.E X1.tn (X1.v,[Dm Dj X1.v.aQ,Dm Dl X1.v.fB,Dm Dl X1.v.mt.dr,Dm Dl (IntKind.i64.wrap (X1.v.mt.re+1)),Dm Dl X1.v.mt.bu,Dm Dl X1.v.mt.li,Dm Dl X1.v.mt.lo,Dm Dl X1.v.mt.cr,Dm Dl X1.v.mt.mv, .slice X1.v.wa X1.v.wn X1.v.wc]) X1.k X1.m X1 []) ?_;unfold gu oR;refine au (ax O' (H:= [])) ?_;obtain⟨X4,WQ⟩:∃X4,X4=X1.aN {X1.v.mt with re:=cM (X1.v.mt.re+1)}:=⟨_,rfl⟩;rw[<-WQ];have sY:X4.C=X.C/\X4.Q=X.Q/\X4.hole=X.hole/\X4.fG=X.fG:=by rw[WQ,Lg];exact⟨rfl,rfl,rfl,rfl⟩
    have P7:X4.C=X.C/\X4.has p=X.has p:=⟨sY.1,by unfold Mo.has;rw[sY.2.1]⟩;rw[<-P7.1];refine bq ?_;obtain⟨j6,xI⟩:∃j6,j6=X4.bw p:=⟨_,rfl⟩;refine zl Aa (jO z X4 p (by rw[P7.2];exact xw)) (.cons .here .nil) Di ?_;rw[<-xI];have hha:j6.hole=none:=by rw[xI];exact sY.2.2.1.trans hX0
    have zG:c<j6.fG:=by rw[xI];show c<X4.fG;rw[sY.2.2.2];exact Pw
    refine aw ?_;refine cB λB O=> ?_;unfold dS fy iT fg pV iZ;refine bR ?_;refine bK ?_;refine Hh (H':=gu z B.C B.W B.ty B.C.ae.length (j6.Q.flatMap (cX B.C)) j6.x B.E j6.tn (j6.v,[Dm Dj j6.v.aQ,Dm Dl j6.v.fB,Dm Dl j6.v.mt.dr,Dm Dl j6.v.mt.re,Dm Dl j6.v.mt.bu,Dm Dl j6.v.mt.li,Dm Dl j6.v.mt.lo,Dm Dl j6.v.mt.cr,Dm Dl j6.v.mt.mv, .slice j6.v.wa j6.v.wn j6.v.wc]) j6.k j6.m j6 []) ?_;unfold gu oR;refine au (ax O (H:= [])) ?_;refine Lp (oC Aa rfl rfl (lh z j6 hha c zG) (.cons .here .nil) Di ?_);rintro v H' hr;refine bR ?_;rcases hr with⟨ht,rfl,rfl⟩|⟨r,N,ht,rfl,rfl⟩
    ·refine Li Mv ?_
     refine cA ?_;refine Rt [SH z j6] results128 ?_;refine⟨none,j6, ?_,rfl,rfl⟩;rw[hR,na];show((X1.aN _).last c p)=_;rw[<-WQ];unfold Mo.last;rw[<-xI,ht]
    refine Li Mv ?_;refine cA ?_;refine Rt [SH z N] results128 ?_;refine⟨some r,N, ?_,rfl,rfl⟩;rw[hR,na];show((X1.aN _).last c p)=_;rw[<-WQ];unfold Mo.last;rw[<-xI,ht]
   rw[oV]at P5;refine rM ?_;refine Rt [SH z N] results128 ?_;exact⟨some r,N,by rw[hrc,P5],rfl,rfl⟩
  have hR:M.room (58+kn+vn) own=M.iy c own:=by rw[hrc];unfold Mo.lG;rw[ht];dsimp only;rw[if_neg eo]
  have hX0:=hh;have hXo:qZ M.C own=qZ M.C own:=rfl;have hXh:=jb;have hXs:=fA;refine bP ?_;refine zt 47 ?_ (e:=by rfl);refine cB λB O=> ?_;unfold dS fy iT fg pV iZ;refine bR ?_;refine bs ?_;refine Hh (H':=gu z B.C B.W B.ty B.C.ae.length (M.Q.flatMap (cX B.C)) M.x B.E M.tn (M.v,[Dm Dj M.v.aQ,Dm Dl M.v.fB,Dm Dl M.v.mt.dr,Dm Dl M.v.mt.re,Dm Dl M.v.mt.bu,Dm Dl M.v.mt.li,Dm Dl M.v.mt.lo,Dm Dl M.v.mt.cr,Dm Dl M.v.mt.mv, .slice M.v.wa M.v.wn M.v.wc]) M.k M.m M []) ?_;unfold gu oR;refine au (ax O (H:= [])) ?_;refine zl Aa (s7 z M c eo) (.cons .here .nil) Di ?_;refine bP ?_;rw[show qZ M.C own=qZ M.C own from hXo.symm];refine bd ?_;refine cB λB O=> ?_;unfold dS fy iT fg pV iZ;refine bR ?_;refine cA ?_;refine Li Mf ?_;refine Hh (H':=gu z B.C B.W B.ty B.C.ae.length (M.Q.flatMap (cX B.C)) M.x B.E M.tn (M.v,[Dm Dj M.v.aQ,Dm Dl M.v.fB,Dm Dl M.v.mt.dr,Dm Dl M.v.mt.re,Dm Dl M.v.mt.bu,Dm Dl M.v.mt.li,Dm Dl M.v.mt.lo,Dm Dl M.v.mt.cr,Dm Dl M.v.mt.mv, .slice M.v.wa M.v.wn M.v.wc]) M.k M.m M []) ?_;unfold gu oR;refine au (ax O (H:= [])) ?_;refine zl Aa (AK z M c Pw own hXh) (.cons .here .nil) Di ?_;refine cV ?_;obtain⟨o,ho⟩:∃o,o=M.pick c own:=⟨_,rfl⟩;rw[<-ho];obtain⟨po,d,nn⟩:=o;dsimp only;refine cB λB O=> ?_;unfold dS fy iT fg pV iZ;refine bR ?_;refine gJ ?_;refine av ?_;have O':=O.aN {M.v.mt with lo:=cM (M.v.mt.lo+(nn:Int))};refine Hh (H':=gu z B.C B.W B.ty B.C.ae.length (M.Q.flatMap (cX B.C)) M.x B.E M.tn (M.v,[Dm Dj M.v.aQ,Dm Dl M.v.fB,Dm Dl M.v.mt.dr,Dm Dl M.v.mt.re,Dm Dl M.v.mt.bu,Dm Dl M.v.mt.li,Dm Dl (IntKind.i64.wrap (M.v.mt.lo+(nn:Int))),Dm Dl M.v.mt.cr,Dm Dl M.v.mt.mv, .slice M.v.wa M.v.wn M.v.wc]) M.k M.m M []) ?_;unfold gu oR;refine au (ax O' (H:= [])) ?_;obtain⟨X1,Lg⟩:∃X1,X1=M.aN {M.v.mt with lo:=cM (M.v.mt.lo+(nn:Int))}:=⟨_,rfl⟩;rw[<-Lg];have na:M.iy c own=X1.Aw c po d:=by unfold Mo.iy;rw[<-ho,Lg]
  have ach:X1.m.st<4611686018427387904:=by rw[Lg];exact hXs
  have aci:c<X1.fG:=by rw[Lg];exact Pw
  rcases d with _|_
  ·refine gK ?_
   refine bc ?_;refine cB λB O=> ?_;unfold dS fy iT fg pV iZ;refine bR ?_;refine bK ?_;refine Hh (H':=gu z B.C B.W B.ty B.C.ae.length (X1.Q.flatMap (cX B.C)) X1.x B.E X1.tn (X1.v,[Dm Dj X1.v.aQ,Dm Dl X1.v.fB,Dm Dl X1.v.mt.dr,Dm Dl X1.v.mt.re,Dm Dl X1.v.mt.bu,Dm Dl X1.v.mt.li,Dm Dl X1.v.mt.lo,Dm Dl X1.v.mt.cr,Dm Dl X1.v.mt.mv, .slice X1.v.wa X1.v.wn X1.v.wc]) X1.k X1.m X1 []) ?_;unfold gu oR;refine au (ax O (H:= [])) ?_;refine zl Aa (ue z X1 c aci ach) (.cons .here .nil) Di ?_;refine aw ?_;refine av ?_;obtain⟨X2,Ld⟩:∃X2,X2=X1.cF c:=⟨_,rfl⟩;rw[<-Ld];rcases po with _|p
   ·refine gK ?_
    refine cA ?_;refine Rt [SH z X2] results128 ?_;exact⟨none,X2,by rw[hR,na];show(none,X1.cF c)=_;rw[<-Ld],rfl,rfl⟩
   have xw:M.has p:=oh (qj (p:=p) (by have:=congrArg Prod.fst ho;exact this.symm)).1;have fQ:=hXn p xw;refine bc ?_;refine cN ?_ (e:=by exact decide_eq_false (by show¬(((M.C.hd p:Nat):Int)=0);omega));refine bK ?_;refine cB λB O=> ?_;unfold dS fy iT fg pV iZ;refine bR ?_;refine dL ?_;have O':=O.aN {X2.v.mt with dr:=cM (X2.v.mt.dr+1)};refine Hh (H':=gu z B.C B.W B.ty B.C.ae.length (X2.Q.flatMap (cX B.C)) X2.x B.E X2.tn (X2.v,[Dm Dj X2.v.aQ,Dm Dl X2.v.fB,Dm Dl (IntKind.i64.wrap (X2.v.mt.dr+1)),Dm Dl X2.v.mt.re,Dm Dl X2.v.mt.bu,Dm Dl X2.v.mt.li,Dm Dl X2.v.mt.lo,Dm Dl X2.v.mt.cr,Dm Dl X2.v.mt.mv, .slice X2.v.wa X2.v.wn X2.v.wc]) X2.k X2.m X2 []) ?_;unfold gu oR;refine au (ax O' (H:= [])) ?_;obtain⟨X3,WR⟩:∃X3,X3=X2.aN {X2.v.mt with dr:=cM (X2.v.mt.dr+1)}:=⟨_,rfl⟩;rw[<-WR];have sZ:X3.C=M.C/\X3.Q=M.Q/\X3.hole=M.hole/\X3.fG=M.fG:=by rw[WR,Ld,Lg];exact⟨rfl,rfl,rfl,rfl⟩
   have P8:X3.C=M.C/\X3.has p=M.has p:=⟨sZ.1,by unfold Mo.has;rw[sZ.2.1]⟩;rw[<-P8.1];refine bq ?_;obtain⟨j7,xJ⟩:∃j7,j7=X3.bw p:=⟨_,rfl⟩;refine zl Aa (jO z X3 p (by rw[P8.2];exact xw)) (.cons .here .nil) Di ?_;rw[<-xJ];have hha:j7.hole=none:=by rw[xJ];exact sZ.2.2.1.trans hX0
   have zG:c<j7.fG:=by rw[xJ];show c<X3.fG;rw[sZ.2.2.2];exact Pw
   refine aw ?_;refine cB λB O=> ?_;unfold dS fy iT fg pV iZ;refine bR ?_;refine bK ?_;refine Hh (H':=gu z B.C B.W B.ty B.C.ae.length (j7.Q.flatMap (cX B.C)) j7.x B.E j7.tn (j7.v,[Dm Dj j7.v.aQ,Dm Dl j7.v.fB,Dm Dl j7.v.mt.dr,Dm Dl j7.v.mt.re,Dm Dl j7.v.mt.bu,Dm Dl j7.v.mt.li,Dm Dl j7.v.mt.lo,Dm Dl j7.v.mt.cr,Dm Dl j7.v.mt.mv, .slice j7.v.wa j7.v.wn j7.v.wc]) j7.k j7.m j7 []) ?_;unfold gu oR;refine au (ax O (H:= [])) ?_;refine Lp (oC Aa rfl rfl (lh z j7 hha c zG) (.cons .here .nil) Di ?_);rintro v H' hr;refine bR ?_;rcases hr with⟨ht,rfl,rfl⟩|⟨r,N,ht,rfl,rfl⟩
   ·refine Li Mv ?_
    refine cA ?_;refine Rt [SH z j7] results128 ?_;refine⟨none,j7, ?_,rfl,rfl⟩;rw[hR,na];show(((X1.cF c).aN _).last c p)=_;rw[<-Ld,<-WR];unfold Mo.last;rw[<-xJ,ht]
   refine Li Mv ?_;refine cA ?_;refine Rt [SH z N] results128 ?_;refine⟨some r,N, ?_,rfl,rfl⟩;rw[hR,na];show(((X1.cF c).aN _).last c p)=_;rw[<-Ld,<-WR];unfold Mo.last;rw[<-xJ,ht]
  refine gK ?_;refine bP ?_;rcases po with _|p
  ·refine fe ?_ (e:=by rfl)
   refine bn ?_;refine Rt [SH z X1] results128 ?_;exact⟨none,X1,by rw[hR,na];rfl,rfl,rfl⟩
  have xw:M.has p:=oh (qj (p:=p) (by have:=congrArg Prod.fst ho;exact this.symm)).1;have fQ:=hXn p xw;refine cN ?_ (e:=by exact decide_eq_false (by show¬(((M.C.hd p:Nat):Int)=0);omega));refine bK ?_;refine cB λB O=> ?_;unfold dS fy iT fg pV iZ;refine bR ?_;refine dL ?_;have O':=O.aN {X1.v.mt with re:=cM (X1.v.mt.re+1)};refine Hh (H':=gu z B.C B.W B.ty B.C.ae.length (X1.Q.flatMap (cX B.C)) X1.x B.E X1.tn (X1.v,[Dm Dj X1.v.aQ,Dm Dl X1.v.fB,Dm Dl X1.v.mt.dr,Dm Dl (IntKind.i64.wrap (X1.v.mt.re+1)),Dm Dl X1.v.mt.bu,Dm Dl X1.v.mt.li,Dm Dl X1.v.mt.lo,Dm Dl X1.v.mt.cr,Dm Dl X1.v.mt.mv, .slice X1.v.wa X1.v.wn X1.v.wc]) X1.k X1.m X1 []) ?_;unfold gu oR;refine au (ax O' (H:= [])) ?_;obtain⟨X4,WQ⟩:∃X4,X4=X1.aN {X1.v.mt with re:=cM (X1.v.mt.re+1)}:=⟨_,rfl⟩;rw[<-WQ];have sY:X4.C=M.C/\X4.Q=M.Q/\X4.hole=M.hole/\X4.fG=M.fG:=by rw[WQ,Lg];exact⟨rfl,rfl,rfl,rfl⟩
  have P7:X4.C=M.C/\X4.has p=M.has p:=⟨sY.1,by unfold Mo.has;rw[sY.2.1]⟩;rw[<-P7.1];refine bq ?_;obtain⟨j6,xI⟩:∃j6,j6=X4.bw p:=⟨_,rfl⟩;refine zl Aa (jO z X4 p (by rw[P7.2];exact xw)) (.cons .here .nil) Di ?_;rw[<-xI];have hha:j6.hole=none:=by rw[xI];exact sY.2.2.1.trans hX0
  have zG:c<j6.fG:=by rw[xI];show c<X4.fG;rw[sY.2.2.2];exact Pw
  refine aw ?_;refine cB λB O=> ?_;unfold dS fy iT fg pV iZ;refine bR ?_;refine bK ?_;refine Hh (H':=gu z B.C B.W B.ty B.C.ae.length (j6.Q.flatMap (cX B.C)) j6.x B.E j6.tn (j6.v,[Dm Dj j6.v.aQ,Dm Dl j6.v.fB,Dm Dl j6.v.mt.dr,Dm Dl j6.v.mt.re,Dm Dl j6.v.mt.bu,Dm Dl j6.v.mt.li,Dm Dl j6.v.mt.lo,Dm Dl j6.v.mt.cr,Dm Dl j6.v.mt.mv, .slice j6.v.wa j6.v.wn j6.v.wc]) j6.k j6.m j6 []) ?_;unfold gu oR;refine au (ax O (H:= [])) ?_;refine Lp (oC Aa rfl rfl (lh z j6 hha c zG) (.cons .here .nil) Di ?_);rintro v H' hr;refine bR ?_;rcases hr with⟨ht,rfl,rfl⟩|⟨r,N,ht,rfl,rfl⟩
  ·refine Li Mv ?_
   refine cA ?_;refine Rt [SH z j6] results128 ?_;refine⟨none,j6, ?_,rfl,rfl⟩;rw[hR,na];show((X1.aN _).last c p)=_;rw[<-WQ];unfold Mo.last;rw[<-xI,ht]
  refine Li Mv ?_;refine cA ?_;refine Rt [SH z N] results128 ?_;refine⟨some r,N, ?_,rfl,rfl⟩;rw[hR,na];show((X1.aN _).last c p)=_;rw[<-WQ];unfold Mo.last;rw[<-xI,ht]
 refine Li Mv ?_;refine bB ?_;refine zf 47 ?_ (e:=by rfl);refine cK ?_;refine bc ?_;refine Rt [SH z N] results128 ?_;exact⟨some r,N,by rw[hrc];unfold Mo.lG;rw[ht],rfl,rfl⟩
def Mo.WS (M:Mo):Prop:=M.mg=0/\3*M.nb<2*(M.n+1)/\M.nb<M.most
instance (M:Mo):Decidable M.WS:=by unfold Mo.WS;infer_instance
def kS (Q:F7)(i p:Nat):F7:=Q.set i (p::ql Q i)
def Mo.iz (M:Mo)(r:Nat)(n:I3):Mo:=
 {M with hole:=none,Q:=kS M.Q (qi (M.C.cl r) 1) r,it:=λq=>if q=r then{n with eP:=mkSet n.eP false}else M.it q,ord:=λq=>if q=r then M.tn+1 else M.ord q,tn:=if 0<n.exp then M.tn+1 else M.tn,n:=M.n+1,nb:=if M.WS then 2*M.nb else M.nb,mg:=if M.WS then M.nb else M.mg,v:={M.v with fB:=M.v.fB+n.sz}}
theorem iL{Q:F7}{i p q j:Nat}(hi:i<Q.length):q∈ql (kS Q i p) j↔(j=i/\q=p)\/q∈ql Q j:=by
 unfold kS;rw[fL hi];by_cases e:j=i
 ·rw[if_pos e,abE,e]
  exact⟨λh=>h.imp (λh=>⟨rfl,h⟩) id,λh=>h.imp (λh=>h.2) id⟩
 rw[if_neg e];exact⟨.inr,λh=>h.resolve_left λg=>e g.1⟩
theorem bH.iz{B:Bx}{M:Mo}(O:bH B M){r:Nat}(hr:M.hole=some r)(I:gD B.C r)(n:I3)(lq:mj B.C.A r=n)(hm:n.eP<16)(Wn:du n.key=true){A2 A3:By}{V:Tb}{ty:pq}(hy:ty.ok=none->V.ob= [])(PK:abv B.C B.W r A2 V)(EK:QO (B.C.wA A2) r A3 (kS M.Q (qi (B.C.cl r) 1) r)):
  bH ⟨B.C.wA A3,V,ty,lz B.E (B.C.hd r) n.exp M.tn⟩ (M.iz r n):=by
 have K:=O.k;have sL:r∉B.W.all:=O.ho r hr;have L:Live B.C r:=(O.lv r).2 (.inr hr);have gS:=(L.toAt.ba K).1;have K6:=mW O.o gS (s:=1) ⟨aam _,by omega⟩;have cQ:B.C.cl r=M.C.cl r:=O.cl r;have wx:∀q,q∈V.all↔q=r\/q∈B.W.all:=λq=>by rw[PK.pm.mem_iff,abE]
 have lv_:∀q,q=r\/q∈B.W.all->Live B.C q:=λq h=>h.elim (λe=>e▸L) O.sH;have io_:∀q,q=r\/q∈B.W.all->gD B.C q:=λq h=>h.elim (λe=>e▸I) (O.t.it q);have d1:cZ B.C B.C.A A2 (λq o=>q=r/\o<4):=(vQ PK.df (λq hq=>by rw[abR.1 hq];exact L.toAt) (λq hq=>by rw[abR.1 hq];have:=(L.toAt.ba K).2.1;omega)).mono λq o g=>by
  obtain⟨g1,_,g3⟩:=g;exact⟨abR.1 g1,by omega⟩
 have d2:cZ B.C A2 A3 (SL r):=EK.d.wA;have dd:cZ B.C B.C.A A3 (λq o=>o<12\/(o=45\/o=46)/\q=r):=(d1.mono λq o g=>by omega).trans (d2.mono λq o g=>by unfold SL at g;omega);have same:∀q∈B.W.all,mj A3 q=mj B.C.A q:=λq h=>vJ K dd (O.mL h) (O.t.it q h) λj s=>by
  have ne:q≠r:=λe=>sL (e▸h);rcases s with s|s
  ·omega
  exact absurd s.2 ne
 have mr:dB A3 r=mkSet n.eP false:=by
  rw[EK.mr];have:dB A2 r=dB B.C.A r:=kX K d1 L.toAt (by have:=(L.toAt.ba K).2.1;omega) λj h1 h2 s=>by omega
  rw[show dB (B.C.wA A2).A r=dB B.C.A r from this,show dB B.C.A r=n.eP from congrArg I3.eP lq]
 have Qr:mj A3 r={n with eP:=mkSet n.eP false}:=by
  rw[Hf K dd L.toAt I λj s=>by omega,lq,mr]
 have nit:∀q∈V.all,mj A3 q=(M.iz r n).it q:=λq h=>by
  show _=if q=r then _ else M.it q
  rcases(wx q).1 h with e|h1
  ·rw[if_pos e,e];exact Qr
  rw[if_neg λe:q=r=>sL (e▸h1),same q h1];exact O.it q h1
 have jC:∀q,Live (B.C.wA A3) q↔Live B.C q:=λq=>⟨λh=>⟨⟨h.i,h.own,h.al,h.k⟩,h.tk⟩,λh=>h.wA _⟩;have hmq:∀q∈V.all,dB A3 q<16:=λq h=>by
  rcases(wx q).1 h with e|h1
  ·rw[e,mr]
   have:=lV hm false;omega
  rw[show dB A3 q=dB B.C.A q from congrArg I3.eP (same q h1)];obtain⟨i,hi⟩:=(O.al q).1 h1;exact O.mq i q hi
 have al_:∀q,q∈V.all↔∃j,q∈ql (M.iz r n).Q j:=λq=>by
  rw[wx];show _↔∃j,q∈ql (kS M.Q (qi (M.C.cl r) 1) r) j;rw[<-cQ];constructor
  ·rintro(e|h)
   ·exact⟨_,(iL K6).2 (.inl ⟨rfl,e⟩)⟩
   obtain⟨j,hj⟩:=(O.al q).1 h;exact⟨j,(iL K6).2 (.inr hj)⟩
  rintro⟨j,hj⟩;rcases(iL K6).1 hj with⟨_,e⟩|h
  ·exact .inl e
  exact .inr (O.nR h)
 have h0:=O.st0;have Br:=O.nb;have hn:=O.n;have DE:=O.mg;have hmo:=O.mo;have hgr:M.WS↔pM B.W:=by unfold Mo.WS pM;rw[h0,Br,hn,hmo]
 have h16:=O.t.PG;have GI:∀q∈B.W.all,B.C.hd q≠B.C.hd r:=λq h e=>sL ((je K (O.mL h) L.toAt e)▸h);refine⟨?_,K.wA A3, ?_,hy, ?_, ?_,λj q h=>hmq q ((al_ q).2 ⟨j,h⟩),O.ck,al_,λq=> ?_,λq h=>(by cases h),nit, ?_, ?_, ?_, ?_, ?_, ?_,O.un,O.on,O.go,O.wn,O.cf, ?_,λq h=> ?_⟩
 ·show B.C.wA A3=M.C.wA A3
  conv=>lhs;rw[O.c]
  rfl
 ·exact GD (K.wA A2) PK.o EK.d λq _ j g=>⟨by unfold SL at g;unfold mh;omega,by unfold SL at g;omega⟩
 ·show iV (B.C.wA A3) (kS M.Q (qi (M.C.cl r) 1) r)
  rw[<-cQ];exact EK.o
 ·show db B.C.ae.length (kS M.Q (qi (M.C.cl r) 1) r) M.x
  rw[<-cQ];exact⟨O.x.go,O.x.no,λq h=>⟨(iL K6).2 (.inr (O.x.nx q h).1),(O.x.nx q h).2⟩,O.x.lf⟩
 ·show Live (B.C.wA A3) q↔q∈V.all\/none=some q
  rw[jC,O.lv,wx,hr];constructor
  ·rintro(h|h)
   ·exact .inl (.inr h)
   exact .inl (.inl (Option.some.inj h).symm)
  rintro((h|h)|h)
  ·exact .inr (by rw[h])
  ·exact .inl h
  cases h
 ·have e1:gU (B.C.wA A3) (M.iz r n) B.W.all=gU B.C M B.W.all:=fO λq h=>by
   have ne:q≠r:=λe=>sL (e▸h);refine⟨?_,if_neg ne,rfl⟩;show(if q=r then _ else M.it q).exp=_;rw[if_neg ne]
  have e2:gU (B.C.wA A3) (M.iz r n) (r::B.W.all)=if 0<n.exp then⟨B.C.hd r,n.exp,M.tn+1⟩::gU B.C M B.W.all else gU B.C M B.W.all:=by
   rw[iR,e1,show(M.iz r n).it r={n with eP:=mkSet n.eP false}from if_pos rfl,show(M.iz r n).ord r=M.tn+1 from if_pos rfl];rfl
  refine abA.trans ?_ ((abA.of_eq e2.symm).trans (jB PK.pm.symm));have p1:(fb B.E (B.C.hd r)).Perm (gU B.C M B.W.all):=(O.e.filter _).trans (abA.of_eq (lY GI));unfold lz;split
  ·exact p1.cons _
  exact p1
 ·intro h2
  show V.mv<V.ob.length;by_cases g:pM B.W
  ·obtain⟨_,_,e1,e2⟩:=PK.big g
   rw[e1,e2];omega
  obtain⟨_,e1,e2,e3⟩:=PK.same g;rw[e2,e3];exact O.st (by rw[<-e1];exact h2)
 ·show V.size=if M.WS then 2*M.nb else M.nb
  by_cases g:pM B.W
  ·rw[if_pos (hgr.2 g),(PK.big g).1,Br]
  rw[if_neg λe=>g (hgr.1 e),(PK.same g).1,Br]
 ·show(if M.WS then M.nb else M.mg)=if V.st=2 then V.ob.length-V.mv else 0
  by_cases g:pM B.W
  ·obtain⟨_,e1,e2,e3⟩:=PK.big g
   rw[if_pos (hgr.2 g),if_pos e1,e2,e3,Br];rfl
  obtain⟨_,e1,e2,e3⟩:=PK.same g;rw[if_neg λe=>g (hgr.1 e),e1,e2,e3];exact DE
 ·exact PK.most.trans hmo
 ·show M.v.fB+n.sz=(V.all.map λq=>((M.iz r n).it q).sz).sum
  rw[lU _ PK.pm,aaj,abJ,show((M.iz r n).it r).sz=n.sz by rw[show(M.iz r n).it r={n with eP:=mkSet n.eP false}from if_pos rfl];rfl,O.bt];rw[show(B.W.all.map λq=>((M.iz r n).it q).sz)=B.W.all.map λq=>(M.it q).sz from acA λq h=>by
   show(if q=r then _ else M.it q).sz=_;rw[if_neg λe:q=r=>sL (e▸h)]]
  omega
 ·show V.n=M.n+1
  rw[PK.n,hn]
 show du (if q=r then{n with eP:=mkSet n.eP false}else M.it q).key=true;rcases(wx q).1 h with e|h1
 ·rw[if_pos e];exact Wn
 rw[if_neg λe:q=r=>sL (e▸h1)];exact O.lg q h1
def Mo.nV (M:Mo)(p r:Nat)(n:I3):Mo:=
 {M with C:=M.C.aL p,hole:=none,Q:=kS (iH M.Q p) (qi (M.C.cl r) 1) r,it:=λq=>if q=r then{n with eP:=mkSet n.eP false}else M.it q,ord:=λq=>if q=r then M.tn+1 else M.ord q,tn:=if 0<n.exp then M.tn+1 else M.tn,x:=M.x.left M.Q p,v:={M.v with fB:=M.v.fB+n.sz-(M.it p).sz}}
theorem bH.nV{B:Bx}{M:Mo}(O:bH B M){p r:Nat}(hp:M.has p)(hr:M.hole=some r)(I:gD B.C r)(n:I3)(lq:mj B.C.A r=n)(hm:n.eP<16)(Wn:du n.key=true){A2 A3 A4:By}{V:Tb}{ty:pq}(hy:ty.ok=none->V.ob= [])(T:HW B.C B.W p r A2 V)
  (OF:abx (B.C.wA A2) p A3 (iH M.Q p) (M.x.left M.Q p)) (EK:QO (((B.C.wA A2).wA A3).aL p) r A4 (kS (iH M.Q p) (qi (B.C.cl r) 1) r)):
  bH ⟨(((B.C.wA A2).wA A3).aL p).wA A4,V,ty,fb (lz B.E (B.C.hd r) n.exp M.tn) (B.C.hd p)⟩ (M.nV p r n):=by
 have K:=O.k;have dD:=(O.al p).2 hp;have Lp:=O.sH dD;have sL:r∉B.W.all:=O.ho r hr;have I4:r≠p:=λe=>sL (e▸dD);have L:Live B.C r:=(O.lv r).2 (.inr hr);have gS:=(L.toAt.ba K).1;have cQ:B.C.cl r=M.C.cl r:=O.cl r;obtain⟨rest,PI,Wb⟩:=T.pm;have nd1:=abB.1 (PI.nodup_iff.1 O.t.nd);have inr:∀q,q∈rest↔q∈B.W.all/\q≠p:=λq=>by
  rw[PI.mem_iff,abE];exact⟨λh=>⟨.inr h,λe=>nd1.1 (e▸h)⟩,λh=>h.1.resolve_left h.2⟩
 have wx:∀q,q∈V.all↔q=r\/q∈B.W.all/\q≠p:=λq=>by rw[Wb.mem_iff,abE,inr]
 have lv_:∀q,q=r\/q∈B.W.all->Live B.C q:=λq h=>h.elim (λe=>e▸L) O.sH;have io_:∀q,q=r\/q∈B.W.all->gD B.C q:=λq h=>h.elim (λe=>e▸I) (O.t.it q);have K6:qi (B.C.cl r) 1<(iH M.Q p).length:=by
  unfold iH;rw[abI];exact mW O.o gS (s:=1) ⟨aam _,by omega⟩
 have d1:cZ B.C B.C.A A2 (λ_ o=>o<4):=(vQ T.df (λq hq=>(lv_ q ((abE.1 hq).imp id id)).toAt) (λq hq=>by have:=((lv_ q ((abE.1 hq).imp id id)).toAt.ba K).2.1;omega)).mono λq o g=>by omega
 have d2:cZ B.C A2 A3 (SQ p):=OF.d.wA;have d3:cZ B.C A3 A4 (SL r):=λi hi=>by
  obtain⟨q,o,q1,q2,q3,q4⟩:=EK.d i hi;have S:=(gR (K.wA A3) (Lp.wA A3)).2;have a:=(S.at (p:=q)).1 ⟨q1.i,q1.own,q1.al,q1.k⟩;refine⟨q,o,⟨a.i,a.own,a.al,a.k⟩, ?_,q3,q4⟩;have e1:((((B.C.wA A2).wA A3).aL p)).cl q=B.C.cl q:=S.cl q;rw[e1]at q2;exact q2
 have dd:cZ B.C B.C.A A4 (λq o=>o<12\/o=45\/o=46/\q=r):=((d1.mono λq o g=>by omega).trans (d2.mono λq o g=>by unfold SQ at g;omega)).trans (d3.mono λq o g=>by unfold SL at g;omega);have same:∀q∈B.W.all,mj A4 q=mj B.C.A q:=λq h=>vJ K dd (O.mL h) (O.t.it q h) λj s=>by
  have ne:q≠r:=λe=>sL (e▸h);rcases s with s|s|s
  ·omega
  ·omega
  exact absurd s.2 ne
 have d12:cZ B.C B.C.A A3 (λq o=>o<12\/o=45):=(d1.mono λq o g=>by omega).trans (d2.mono λq o g=>by unfold SQ at g;omega);have mr:dB A4 r=mkSet n.eP false:=by
  rw[EK.mr];have:dB A3 r=dB B.C.A r:=kX K d12 L.toAt (by have:=(L.toAt.ba K).2.1;omega) λj h1 h2 s=>by omega
  rw[show dB (((B.C.wA A2).wA A3).aL p).A r=dB B.C.A r from this,show dB B.C.A r=n.eP from congrArg I3.eP lq]
 have Qr:mj A4 r={n with eP:=mkSet n.eP false}:=by
  rw[Hf K dd L.toAt I λj s=>by omega,lq,mr]
 have nit:∀q∈V.all,mj A4 q=(M.nV p r n).it q:=λq h=>by
  show _=if q=r then _ else M.it q
  rcases(wx q).1 h with e|⟨h1,h2⟩
  ·rw[if_pos e,e];exact Qr
  rw[if_neg λe:q=r=>sL (e▸h1),same q h1];exact O.it q h1
 have jC:∀q,Live ((((B.C.wA A2).wA A3).aL p).wA A4) q↔Live B.C q/\q≠p:=λq=>by
  have h1:=nH (K.wA A3) (Lp.wA A3) q;refine Iff.trans ⟨λh=> ?_,λh=> ?_⟩ (h1.trans ⟨λh=>⟨⟨⟨h.1.i,h.1.own,h.1.al,h.1.k⟩,h.1.tk⟩,h.2⟩,λh=>⟨h.1.wA _,h.2⟩⟩)
  ·exact⟨⟨h.i,h.own,h.al,h.k⟩,h.tk⟩
  exact⟨⟨h.i,h.own,h.al,h.k⟩,h.tk⟩
 have La:∀q,Live B.C q->q≠p->((((B.C.wA A2).wA A3).aL p).wA A4).hd q=B.C.hd q:=λq h ne=>((jz (K.wA A3) (Lp.wA A3)).lv q ne (h.wA A3)).2.1;have hmq:∀q∈V.all,dB A4 q<16:=λq h=>by
  rcases(wx q).1 h with e|⟨h1,h2⟩
  ·rw[e,mr]
   have:=lV hm false;omega
  rw[show dB A4 q=dB B.C.A q from congrArg I3.eP (same q h1)];obtain⟨i,hi⟩:=(O.al q).1 h1;exact O.mq i q hi
 have al_:∀q,q∈V.all↔∃j,q∈ql (M.nV p r n).Q j:=λq=>by
  rw[wx];show _↔∃j,q∈ql (kS (iH M.Q p) (qi (M.C.cl r) 1) r) j;rw[<-cQ];constructor
  ·rintro(e|⟨h,ne⟩)
   ·exact⟨_,(iL K6).2 (.inl ⟨rfl,e⟩)⟩
   obtain⟨j,hj⟩:=(O.al q).1 h;exact⟨j,(iL K6).2 (.inr (by rw[js];exact(ajE ne).2 hj))⟩
  rintro⟨j,hj⟩;rcases(iL K6).1 hj with⟨_,e⟩|h
  ·exact .inl e
  rw[js]at h;exact .inr ⟨O.nR (agO h),λe=>by subst e;exact(List.Nodup.not_mem_erase (O.o.nd j)) h⟩
 have iF:=λj=>oy (K.wA A3) (Lp.wA A3) j;have hn:=O.n;have Br:=O.nb;have DE:=O.mg;have Kf:Ok ((((B.C.wA A2).wA A3).aL p).wA A4):=OF.k.wA A4;have hsV:∀q∈V.all,q≠p:=λq h=>((wx q).1 h).elim (λe=>e▸I4) λg=>g.2;refine⟨?_,Kf, ?_,hy, ?_, ?_,λj q h=>hmq q ((al_ q).2 ⟨j,h⟩),O.ck,al_,λq=> ?_,λq h=>(by cases h),nit, ?_, ?_, ?_, ?_, ?_, ?_, ?_, ?_, ?_,O.wn, ?_, ?_,λq h=> ?_⟩
 ·show(((B.C.wA A2).wA A3).aL p).wA A4=(M.C.aL p).wA A4
  conv=>lhs;rw[O.c]
  rfl
 ·have T2:=GD (K.wA A2) T.o OF.d λq _ j g=>⟨g.nX,by unfold SQ at g;omega⟩
  have T3:=OF.s.tb T2 hsV;exact GD OF.k T3 EK.d λq _ j g=>⟨by unfold SL at g;unfold mh;omega,by unfold SL at g;omega⟩
 ·show iV _ (kS (iH M.Q p) (qi (M.C.cl r) 1) r)
  rw[<-cQ];exact EK.o
 ·show db B.C.ae.length (kS (iH M.Q p) (qi (M.C.cl r) 1) r) (M.x.left M.Q p)
  rw[<-cQ];have X:=OF.x;exact⟨X.go,X.no,λq h=>⟨(iL K6).2 (.inr (X.nx q h).1),(X.nx q h).2⟩,X.lf⟩
 ·show Live _ q↔q∈V.all\/none=some q
  rw[jC,O.lv,wx,hr];constructor
  ·rintro⟨h|h,ne⟩
   ·exact .inl (.inr ⟨h,ne⟩)
   exact .inl (.inl (Option.some.inj h).symm)
  rintro((h|h)|h)
  ·exact⟨.inr (by rw[h]),λe=>I4 (h.symm.trans e)⟩
  ·exact⟨.inl h.1,h.2⟩
  cases h
 ·have fQ:∀q∈rest,B.C.hd q≠B.C.hd p:=λq h e=>((inr q).1 h).2 (je K (O.mL ((inr q).1 h).1) (O.mL dD) e)
  have GI:∀q∈p::rest,B.C.hd q≠B.C.hd r:=λq h e=>by
   have hq:q∈B.W.all:=(abE.1 h).elim (λe=>e▸dD) λh=>((inr q).1 h).1;exact sL ((je K (O.mL hq) L.toAt e)▸hq)
  have hrp:B.C.hd r≠B.C.hd p:=λe=>GI p aag e.symm;have e1:gU ((((B.C.wA A2).wA A3).aL p).wA A4) (M.nV p r n) rest=gU B.C M rest:=fO λq h=>by
   obtain⟨g1,g2⟩:=(inr q).1 h;have ne:q≠r:=λe=>sL (e▸g1);refine⟨?_,if_neg ne,La q (O.sH g1) g2⟩;show(if q=r then _ else M.it q).exp=_;rw[if_neg ne]
  have e2:gU ((((B.C.wA A2).wA A3).aL p).wA A4) (M.nV p r n) (r::rest)=if 0<n.exp then⟨B.C.hd r,n.exp,M.tn+1⟩::gU B.C M rest else gU B.C M rest:=by
   rw[iR,e1,show(M.nV p r n).it r={n with eP:=mkSet n.eP false}from if_pos rfl,show(M.nV p r n).ord r=M.tn+1 from if_pos rfl,La r L I4]
  refine abA.trans ?_ ((abA.of_eq e2.symm).trans (jB Wb.symm));have p1:(fb B.E (B.C.hd r)).Perm (gU B.C M (p::rest)):=((O.e.trans (jB PI)).filter _).trans (abA.of_eq (lY GI));have p2:(fb (fb B.E (B.C.hd r)) (B.C.hd p)).Perm (gU B.C M rest):=by
   refine(p1.filter _).trans ?_;rw[iR];split
   ·rw[agd,if_neg (by simp)]
    exact abA.of_eq (lY fQ)
   exact abA.of_eq (lY fQ)
  unfold lz;split
  ·unfold fb at p2⊢
   rw[agd,if_pos (by simpa using hrp)];exact p2.cons _
  exact p2
 ·intro h2
  show V.mv<V.ob.length;rw[T.mv,T.s.ob];exact O.st (by rw[<-T.s.st];exact h2)
 ·exact T.s.size.trans Br
 ·show M.mg=if V.st=2 then V.ob.length-V.mv else 0
  rw[T.s.st,T.mv,T.s.ob];exact DE
 ·exact T.s.most.trans O.mo
 ·show M.v.fB+n.sz-(M.it p).sz=(V.all.map λq=>((M.nV p r n).it q).sz).sum
  rw[lU _ Wb,aaj,abJ,show((M.nV p r n).it r).sz=n.sz by rw[show(M.nV p r n).it r={n with eP:=mkSet n.eP false}from if_pos rfl];rfl,O.bt,lU _ PI,aaj,abJ];rw[show(rest.map λq=>((M.nV p r n).it q).sz)=rest.map λq=>(M.it q).sz from acA λq h=>by
   show(if q=r then _ else M.it q).sz=_;rw[if_neg λe:q=r=>sL (e▸((inr q).1 h).1)]]
  omega
 ·exact O.un
 ·intro h
  have:=O.on h;obtain⟨e1,e2,e3⟩:=iF M.m.pg;exact⟨this.1,e1.trans this.2.1,e2.trans this.2.2.1,e3.trans this.2.2.2⟩
 ·intro j h
  exact O.go j ((iF j).2.1.symm.trans h)
 ·exact O.cf
 ·exact T.s.n.trans hn
 show du (if q=r then{n with eP:=mkSet n.eP false}else M.it q).key=true;rcases(wx q).1 h with e|⟨h1,h2⟩
 ·rw[if_pos e];exact Wn
 rw[if_neg λe:q=r=>sL (e▸h1)];exact O.lg q h1
def Mo.rj (M:Mo)(i:Nat):Mo:={M with v:={M.v with aQ:=i}}
theorem bH.rj{B:Bx}{M:Mo}(O:bH B M)(i:Nat):bH B (M.rj i):=
 ⟨O.c,O.k,O.t,O.ty,O.o,O.x,O.mq,O.ck,O.al,O.lv,O.ho,O.it,O.e,O.st,O.nb,O.mg,O.mo,O.bt,O.un,O.on,O.go,O.wn,O.cf,O.n,O.lg⟩
def Mo.dE (M:Mo)(r:Nat)(old:FK)(n:I3):Mo:=match old with
 |none=>(M.rj (M.v.aQ+1)).iz r n
 |some p=>(M.rj (M.v.aQ+1)).nV p r n
theorem bH.ahV{B:Bx}{M:Mo}(O:bH B M):M.v.fB<=1125899906842624:=by
 rw[O.bt];have h2:=BD O.k O.t;rw[O.t.n]at h2;have:∀l:FH,(∀p∈l,p∈B.W.all)->(l.map λp=>(M.it p).sz).sum<=l.length*1048576:=λl=>by
  induction l with
  |nil=>intro _;simp
  |cons p l ih=>
   intro h;have hp:=h p aag;have h1:=O.szp hp;have h3:=(O.t.it p hp).fits;have h4:=((O.mL hp).ba O.k).2.2.1;have h5:=O.k.toFix.p1;have:=ih λq hq=>h q (aai _ hq);rw[aaj,abJ,abU];omega
 have:=this _ λp h=>h;have h3:B.W.all.length*1048576<=1073741824*1048576:=abW _ h2;omega
theorem XX (z:Ly)(M:Mo)(r:Nat)(hr:M.hole=some r)(old:FK)(k v:FI)(Wf V8:Nat)(uz:Wf=k.length)(hvl:V8=v.length)(hold:∀p,old=some p->M.has p/\(M.it p).key=k)(aca:old=none->M.find k=none)(ka va:FL)(kc vc fl ex mk:Nat)(Wn:du k=true)
  (sQ:58+k.length+v.length<=M.C.sz (M.C.cl r)) (mP:fl<4294967296) (hex:ex<9223372036854775808) (uy:mk<16) (rR:M.v.aQ+1<18446744073709551616) (vD:M.tn<18446744073709551615):
  aG aaa 129 [Dk z.s,Dm Dj (M.C.hd r),Dm Dj (qZ M.C old), .agg (DL (.slice ka Wf kc) (.slice va V8 vc) fl ex 0 0 0 mk).toArray] (λh=>gF h ka (aj k)/\gF h va (aj v)) [SH z M]
   (λw H=>w= .tuple #[]/\H= [SH z (M.dE r old ⟨k,v,fl,ex,M.k.now,M.v.aQ+1,mk⟩)]):=by
 obtain⟨n,hn⟩:∃n:I3,n=⟨k,v,fl,ex,M.k.now,M.v.aQ+1,mk⟩:=⟨_,rfl⟩;rw[<-hn];refine af func129 rfl ntmps129 rfl ?_;rintro F ⟨hka,hva⟩;refine aw ?_;refine Lp (oB λb1=> ?_);refine aw ?_;refine au (λ_ x=>dy x) ?_;refine cB λB O=> ?_;have K:=O.k;have L:Live B.C r:=(O.lv r).2 (.inr hr);have zM:=O.ck.n2;have La:=O.hd r;have hz4:=(L.toAt.ba K).2.2.1;have ux:=K.toFix.p1;have QA:58+k.length+v.length<=B.C.sz (B.C.cl r):=by rw[O.c];exact sQ
 have hlk:=gn Wn;have ly:=Km z.y.b B.C K r L ka va kc vc Wf V8 k v uz hvl fl ex M.k.now (M.v.aQ+1) 4 mk Wn QA mP hex (by omega) rR ⟨by omega,by omega⟩ uy;rw[La]at ly;have WM:k.length<256:=by omega
 have hv6:v.length<256^4:=by omega
 have LP:=Rs (c:=B.C.cl r) (fl:=fl) (exp:=ex) (tch:=M.k.now) (tok:=M.v.aQ+1) (st:=4) (mk:=mk) L.toAt WM QA;have P9:=C0 B.C.A r (B.C.cl r) k v fl ex M.k.now (M.v.aQ+1) 4 mk WM;obtain⟨acm,f_k,f_v⟩:=C1 B.C.A r (B.C.cl r) k v fl ex M.k.now (M.v.aQ+1) 4 mk WM hv6;have acp:=Ki B.C.A r (B.C.cl r) k v fl ex M.k.now (M.v.aQ+1) 4 mk WM (by omega);have acn:=E5 B.C.A r (B.C.cl r) k v fl ex M.k.now (M.v.aQ+1) 4 mk WM (by omega);have ahR:=E4 B.C.A r (B.C.cl r) k v fl ex M.k.now (M.v.aQ+1) 4 mk WM (by omega);have ahS:=Kh B.C.A r (B.C.cl r) k v fl ex M.k.now (M.v.aQ+1) 4 mk WM (by omega);have aco:=Ke B.C.A r (B.C.cl r) k v fl ex M.k.now (M.v.aQ+1) 4 mk WM (by omega);have Xm:=Kg B.C.A r (B.C.cl r) k v fl ex M.k.now (M.v.aQ+1) 4 mk WM (by omega);obtain⟨A1,hA1⟩:∃A1,A1=lB B.C.A r (B.C.cl r) k v fl ex M.k.now (M.v.aQ+1) 4 mk:=⟨_,rfl⟩;rw[<-hA1]at ly LP P9 acm f_k f_v acp acn ahR ahS aco Xm;have lq:mj (B.C.wA A1).A r=n:=by
  rw[hn];unfold mj;rw[cH,f_k,f_v,acp,acn,ahR,ahS,Xm]
 have O1:=(O.Gm hr LP).rj (M.v.aQ+1);have I1:gD (B.C.wA A1) r:=⟨by rw[cH,P9];omega,by rw[cH,P9,acm];exact QA,by rw[cH,show rd A1 (r+16) 8=ex from acp];exact hex,by rw[cH,show rd A1 (r+24) 8=M.k.now from acn];omega⟩;have sL:=O.ho r hr;have P1:gw (B.C.wA A1) (some r):=λq e=>by cases e;exact⟨L.wA _,I1⟩
 have ss:=λrest=>EH z.s z.y rest (B.C.wA A1) O1.k r P1 (by rw[cH,P9];omega);rw[cH,P9,acm]at ss;rw[show(B.C.wA A1).hd r=M.C.hd r from La]at ss;have hbt:=O.ahV;have wO:n.sz=58+k.length+v.length:=by rw[hn];rfl
 have hE:B.E.length<2147483647:=by
  rw[O.e.length_eq];unfold gU;rw[abI];have h1:=ake (λp=>decide (0<(M.it p).exp)) B.W.all;have h2:=BD O.k O.t;rw[O.t.n]at h2;omega
 have ws:=KV z.y.wh B.E M.tn (M.C.hd r) ex vD hE;unfold dS fy iT fg pV iZ DL;refine bR ?_;refine bB ?_;refine av ?_;refine iU 16 mix (.cons (.t8 .here) .nil) λF1 jD bV aI=> ?_;obtain⟨q1,_⟩:=bV;refine cA ?_;refine Tp (oZ (Aa (n:=38)) (kB z.y.ck M.k) .nil (λ_ le ak=>ak.nth 8 rfl) ?_);refine bs ?_;refine gI aI ?_;refine aw ?_;refine av ?_;refine Hh (H':=gu z B.C B.W B.ty B.C.ae.length (M.Q.flatMap (cX B.C)) M.x B.E M.tn (M.v,[Dm Dj (M.v.aQ+1:Nat),Dm Dl M.v.fB,Dm Dl M.v.mt.dr,Dm Dl M.v.mt.re,Dm Dl M.v.mt.bu,Dm Dl M.v.mt.li,Dm Dl M.v.mt.lo,Dm Dl M.v.mt.cr,Dm Dl M.v.mt.mv, .slice M.v.wa M.v.wn M.v.wc]) M.k M.m M [ag b1 159 [.slice ka Wf kc, .slice va V8 vc,Dm Dj fl,Dm Dl ex,Dm Dl M.k.now,Dm Dj (M.v.aQ+1:Nat),Dm Dl 4,Dm Dl mk]]) ?_;unfold gu oR;refine iU 7 mix (.cons (.t8 .here) (.cons (.t8 (.t4 (.there .here))) .nil)) λF2 zH eL dw=> ?_;obtain⟨q2,q3,_⟩:=eL;refine bK ?_;refine gI dw ?_;refine Tp (oZ (Aa (n:=186)) (ly) (.cons (.t2 .here) .nil) (λ_ le _=>⟨hka.mono le,hva.mono le⟩) ?_);refine aw ?_;refine av ?_;refine Hh (H':=gu z (B.C.wA A1) B.W B.ty B.C.ae.length (M.Q.flatMap (cX (B.C.wA A1))) M.x B.E M.tn (M.v,[Dm Dj (M.v.aQ+1:Nat),Dm Dl M.v.fB,Dm Dl M.v.mt.dr,Dm Dl M.v.mt.re,Dm Dl M.v.mt.bu,Dm Dl M.v.mt.li,Dm Dl M.v.mt.lo,Dm Dl M.v.mt.cr,Dm Dl M.v.mt.mv, .slice M.v.wa M.v.wn M.v.wc]) M.k M.m M [ag b1 159 [.slice ka Wf kc, .slice va V8 vc,Dm Dj fl,Dm Dl ex,Dm Dl M.k.now,Dm Dj (M.v.aQ+1:Nat),Dm Dl 4,Dm Dl mk]]) ?_;unfold gu oR;refine iU 8 mix (.cons (.t8 .here) (.cons (.t8 (.t4 (.there .here))) .nil)) λF3 WC sP fJ=> ?_;obtain⟨q4,q5,_⟩:=sP;refine cV ?_;refine gI fJ ?_;refine Tp (oZ (Aa (n:=173)) (ws) (.cons (.t8 (.there .here)) .nil) Di ?_);refine aw ?_;refine av ?_;refine Hh (H':=gu z (B.C.wA A1) B.W B.ty B.C.ae.length (M.Q.flatMap (cX (B.C.wA A1))) M.x (lz B.E (M.C.hd r) ex M.tn) (if 0<ex then M.tn+1 else M.tn) (M.v,[Dm Dj (M.v.aQ+1:Nat),Dm Dl M.v.fB,Dm Dl M.v.mt.dr,Dm Dl M.v.mt.re,Dm Dl M.v.mt.bu,Dm Dl M.v.mt.li,Dm Dl M.v.mt.lo,Dm Dl M.v.mt.cr,Dm Dl M.v.mt.mv, .slice M.v.wa M.v.wn M.v.wc]) M.k M.m M [ag b1 159 [.slice ka Wf kc, .slice va V8 vc,Dm Dj fl,Dm Dl ex,Dm Dl M.k.now,Dm Dj (M.v.aQ+1:Nat),Dm Dl 4,Dm Dl mk]]) ?_;unfold gu oR;refine iU 10 mix (.cons (.t8 .here) .nil) λF4 le4 LF rF=> ?_;obtain⟨q6,_⟩:=LF;refine bs ?_;refine Tp (oZ (Aa (n:=187)) (ss (fg {M.v with aQ:=M.v.aQ+1})) .nil (λ_ le ak=>⟨In.mono q6 le,ak.nth 0 rfl⟩) ?_);refine bq ?_;refine gI rF ?_;refine bq ?_;refine av ?_;refine Hh (H':=gu z (B.C.wA A1) B.W B.ty B.C.ae.length (M.Q.flatMap (cX (B.C.wA A1))) M.x (lz B.E (M.C.hd r) ex M.tn) (if 0<ex then M.tn+1 else M.tn) (M.v,[Dm Dj (M.v.aQ+1:Nat),Dm Dl (M.v.fB+(58+k.length+v.length):Nat),Dm Dl M.v.mt.dr,Dm Dl M.v.mt.re,Dm Dl M.v.mt.bu,Dm Dl M.v.mt.li,Dm Dl M.v.mt.lo,Dm Dl M.v.mt.cr,Dm Dl M.v.mt.mv, .slice M.v.wa M.v.wn M.v.wc]) M.k M.m M []) ?_;unfold gu oR;have K1:Ok (B.C.wA A1):=O1.k;have L1:Live (B.C.wA A1) r:=L.wA _;rcases old with _|p
 ·refine iN ?_
  refine bc ?_;have hkd:∀q∈B.W.all,aH (B.C.wA A1).A q≠aH (B.C.wA A1).A r:=λq hq e=>by
   rw[cH,f_k,show aH A1 q=(M.it q).key from(O1.kK hq).2.2.2.2.1]at e;have h1:=aca rfl;unfold Mo.find at h1;rw[agE]at h1;obtain⟨i,hi⟩:=(O.al q).1 hq;have h2:=h1 q (by exact eR.2 ⟨i,hi⟩);simp only[decide_eq_true_eq]at h2;exact h2 e
  have tp:=XK z.y.t z.y.b (B.C.wA A1) K1 B.W B.ty O1.t O.ty r L1 I1 sL hkd;rw[show(B.C.wA A1).hd r=M.C.hd r from La]at tp;unfold mM at tp;refine bK ?_;refine Lp (oC Aa rfl rfl (tp) (.cons .here (.cons .here (.cons .here (.cons .here .nil)))) Di ?_);rintro v H' ⟨rfl,A2,V,y2,rfl,hy,PK⟩;refine bR ?_;refine aw ?_;have d1:cZ (B.C.wA A1) A1 A2 (λq o=>q=r/\o<4):=(vQ PK.df (λq hq=>by rw[abR.1 hq];exact L1.toAt) (λq hq=>by rw[abR.1 hq];have:=(L1.toAt.ba K1).2.1;omega)).mono λq o g=>by
   obtain⟨g1,_,g3⟩:=g;exact⟨abR.1 g1,by omega⟩
  have K2:=K1.wA A2;have Q2:=Lw K1 O1.o d1 (λi q hq j g=>⟨by unfold mh;omega,by omega,by omega⟩);have L2:Live ((B.C.wA A1).wA A2) r:=L1.wA _;have n1:=(L1.toAt.ba K1).2.1;have m2:dB A2 r=mk:=by
   rw[<-Xm];exact kX K1 d1 L1.toAt (by omega) λj h1 h2 s=>by omega
  have s2:gz A2 r=4:=by
   rw[<-aco];exact kX K1 d1 L1.toAt (by omega) λj h1 h2 s=>by omega
  have I2:gD ((B.C.wA A1).wA A2) r:=PK.o.it r (PK.pm.mem_iff.2 aag);have le:=A6 z.y.lu z.y.q z.y.b z.qb z.hot z.warm ((B.C.wA A1).wA A2) K2 M.Q Q2 r (λq e=>by cases e;exact⟨L2,I2⟩) (by rw[cH,m2];exact uy) (by rw[cH,s2];omega);rw[show((B.C.wA A1).wA A2).hd r=M.C.hd r from La,show((B.C.wA A1).wA A2).cl r=B.C.cl r from rfl]at le;unfold qY at le;refine Hh (H':=gu z ((B.C.wA A1).wA A2) V y2 B.C.ae.length (M.Q.flatMap (cX ((B.C.wA A1).wA A2))) M.x (lz B.E (M.C.hd r) ex M.tn) (if 0<ex then M.tn+1 else M.tn) (M.v,[Dm Dj (M.v.aQ+1:Nat),Dm Dl (M.v.fB+(58+k.length+v.length):Nat),Dm Dl M.v.mt.dr,Dm Dl M.v.mt.re,Dm Dl M.v.mt.bu,Dm Dl M.v.mt.li,Dm Dl M.v.mt.lo,Dm Dl M.v.mt.cr,Dm Dl M.v.mt.mv, .slice M.v.wa M.v.wn M.v.wc]) M.k M.m M []) ?_;unfold gu oR;refine bK ?_;refine Lp (oC Aa rfl rfl (le) (.cons .here (.cons (.t3 .here) (.cons (.t3 .here) .nil))) (λ_ le ak=>ak.nth 7 rfl) ?_);rintro v H' ⟨rfl,A3,rfl,EK⟩;refine bR ?_;refine aD ?_;subst hn;have O2:=bH.iz O1 hr I1 _ lq uy Wn hy PK EK;refine Hh (H':=gu z (((B.C.wA A1).wA A2).wA A3) V y2 B.C.ae.length ((kS M.Q (qi (B.C.cl r) 1) r).flatMap (cX (((B.C.wA A1).wA A2).wA A3))) M.x (lz B.E (M.C.hd r) ex M.tn) (if 0<ex then M.tn+1 else M.tn) (M.v,[Dm Dj (M.v.aQ+1:Nat),Dm Dl (M.v.fB+(58+k.length+v.length):Nat),Dm Dl M.v.mt.dr,Dm Dl M.v.mt.re,Dm Dl M.v.mt.bu,Dm Dl M.v.mt.li,Dm Dl M.v.mt.lo,Dm Dl M.v.mt.cr,Dm Dl M.v.mt.mv, .slice M.v.wa M.v.wn M.v.wc]) M.k M.m M []) ?_;unfold gu oR;rw[<-La,show B.C.cl r=M.C.cl r from O.cl r];refine au (ax O2 (H:= [])) ?_;refine jU [SH z (M.dE r none ⟨k,v,fl,ex,M.k.now,M.v.aQ+1,mk⟩)] results129 ?_;exact⟨rfl,rfl⟩
 obtain⟨hp,WH⟩:=hold p rfl;have dD:=(O.al p).2 hp;have hp1':At B.C p:=O.mL dD;have I8:=(bM K hp1').2.2.2.2.2;rw[O.hd p]at I8;have hpz:(!decide (((M.C.hd p:Nat):Int)=0))=true:=by rw[Ab];rfl
 refine bc ?_;refine fe ?_ (e:=by exact hpz);have wy:aH (B.C.wA A1).A p=aH (B.C.wA A1).A r:=by
  rw[cH,f_k,show aH A1 p=(M.it p).key from(O1.kK dD).2.2.2.2.1];exact WH
 have tp:=Ew z.y.t z.y.b (B.C.wA A1) K1 B.W B.ty O1.t O.ty p r dD L1 I1 sL wy;rw[show(B.C.wA A1).hd r=M.C.hd r from La,show(B.C.wA A1).hd p=M.C.hd p from O.hd p]at tp;unfold mM at tp;refine cV ?_;refine Lp (oC Aa rfl rfl (tp) (.cons .here (.cons .here (.cons .here (.cons .here .nil)))) Di ?_);rintro v H' ⟨rfl,A2,V,rfl,hy,SK⟩;refine bR ?_;refine bc ?_;obtain⟨i,hi⟩:=hp;obtain⟨kq,hkq⟩:=agA hi;have lvs:∀q∈r::B.W.all,Live (B.C.wA A1) q:=λq hq=>(abE.1 hq).elim (λe=>e▸L1) λh=>(O.sH h).wA _;have d1:cZ (B.C.wA A1) A1 A2 (λq o=>q∈r::B.W.all/\0<=o/\o<0+4):=vQ SK.df (λq hq=>(lvs q hq).toAt) (λq hq=>by have:=((lvs q hq).toAt.ba K1).2.1;omega);have K2:=K1.wA A2;have Q2:=Lw K1 O1.o d1 (λi q hq j g=>S04 g);have Lvp:=O.sH dD;have kp:=sf K1 d1 (Lvp.wA A1).toAt (O1.t.it p dD) (λj g=>(S04 g).1);have klp:kl A2 p=kl A1 p:=kp.kl;have vlp:vl A2 p=vl A1 p:=kp.vl;have ahx:58+kl A1 p+vl A1 p=(M.it p).sz:=O1.szp dD;have GL:kl A2 p<=250:=by
  have h1:=(gn (O.lg p dD)).2;rw[klp,<-show(aH A1 p).length=kl A1 p from cE _ _ _,show aH A1 p=(M.it p).key from(O1.kK dD).2.2.2.2.1];exact h1
 have hb:(M.it p).sz<=M.v.fB:=by
  rw[O.bt];exact wV (λp=>(M.it p).sz) dD
 have of:=JK z.s z.qb z.hot z.warm (aV z.s) (bx z.s) z.y {M.v with aQ:=M.v.aQ+1,fB:=M.v.fB+(58+k.length+v.length)} ((B.C.wA A1).wA A2) K2 M.Q Q2 M.x O.x (lz B.E (M.C.hd r) ex M.tn) (if 0<ex then M.tn+1 else M.tn) i kq p hkq GL (by rw[cH,klp,vlp,ahx];show _<=M.v.fB+_;omega) (by show M.v.fB+_<_;omega);rw[cH,klp,vlp,ahx,CJ O.o hkq,show((B.C.wA A1).wA A2).hd p=M.C.hd p from O.hd p]at of;refine Hh (H':=gu z ((B.C.wA A1).wA A2) V B.ty B.C.ae.length (M.Q.flatMap (cX ((B.C.wA A1).wA A2))) M.x (lz B.E (M.C.hd r) ex M.tn) (if 0<ex then M.tn+1 else M.tn) (M.v,[Dm Dj (M.v.aQ+1:Nat),Dm Dl (M.v.fB+(58+k.length+v.length):Nat),Dm Dl M.v.mt.dr,Dm Dl M.v.mt.re,Dm Dl M.v.mt.bu,Dm Dl M.v.mt.li,Dm Dl M.v.mt.lo,Dm Dl M.v.mt.cr,Dm Dl M.v.mt.mv, .slice M.v.wa M.v.wn M.v.wc]) M.k M.m M []) ?_;unfold gu oR;refine Lp (oC Aa rfl rfl (of) (.cons .here (.cons (.t3 .here) (.cons (.t3 .here) (.cons (.t3 .here) (.cons (.t3 .here) (.cons (.t3 .here) .nil)))))) (λ_ le ak=>ak.nth 4 rfl) ?_);rintro v H' ⟨rfl,A3,rfl,OF⟩;refine bR ?_;have I4:r≠p:=λe=>sL (e▸dD);obtain⟨rest,PI,Wb⟩:=SK.pm;have nd1:=abB.1 (PI.nodup_iff.1 O.t.nd);have hsV:∀q∈V.all,q≠p:=λq h=>(abE.1 (Wb.mem_iff.1 h)).elim (λe=>e▸I4) λh e=>nd1.1 (e▸h);have T2:=GD K2 SK.o OF.d (λq _ j g=>⟨g.nX,by unfold SQ at g;omega⟩);have T3:=OF.s.tb T2 hsV;have hrV:r∈V.all:=Wb.mem_iff.2 aag;obtain⟨C3,hC3⟩:∃C3,C3=(((B.C.wA A1).wA A2).wA A3).aL p:=⟨_,rfl⟩;have L2:At ((B.C.wA A1).wA A2) r:=(L1.wA A2).toAt;have n1:=(L1.toAt.ba K1).2.1;have m3:dB A3 r=mk:=by
  rw[<-Xm];have e1:dB A3 r=dB A2 r:=kX K2 OF.d L2 (by have:=(L2.ba K2).2.1;omega) λj h1 h2 s=>by unfold SQ at s;omega
  rw[e1];exact kX K1 d1 L1.toAt (by omega) λj h1 h2 s=>by omega
 have s3:gz A3 r=4:=by
  rw[<-aco];have e1:gz A3 r=gz A2 r:=kX K2 OF.d L2 (by have:=(L2.ba K2).2.1;omega) λj h1 h2 s=>by unfold SQ at s;omega
  rw[e1];exact kX K1 d1 L1.toAt (by omega) λj h1 h2 s=>by omega
 have hA3:C3.A=A3:=by rw[hC3];rfl
 have hcl3:C3.cl r=B.C.cl r:=by
  have:=(OF.s.lv r I4 ((T2.lv r hrV))).2.2;rw[<-hC3]at this;exact this
 have hhd3:C3.hd r=M.C.hd r:=by
  have:=(OF.s.lv r I4 ((T2.lv r hrV))).2.1;rw[<-hC3]at this;exact this.trans La
 have OF2:=OF;have T4:=T3;have K3:=OF.k;have Q3:=OF.o;have zB:C3.ae.length=B.C.ae.length:=by rw[hC3];rfl
 rw[<-hC3]at T4 K3 Q3;have ent:=A6 z.y.lu z.y.q z.y.b z.qb z.hot z.warm C3 K3 (iH M.Q p) Q3 r (λq e=>by cases e;exact⟨T4.lv r hrV,T4.it r hrV⟩) (by rw[hA3,m3];exact uy) (by rw[hA3,s3];omega);rw[hcl3,hhd3]at ent;unfold qY at ent;rw[zB]at ent;rw[<-hC3];refine cV ?_;refine Lp (oC Aa rfl rfl (ent) (.cons .here (.cons .here (.cons .here .nil))) (λ_ le ak=>ak.nth 7 rfl) ?_);rintro v H' ⟨rfl,A4,rfl,EK⟩;refine bR ?_;refine aD ?_;subst hn;subst hC3;have O2:=bH.nV O1 ⟨i,hi⟩ hr I1 _ lq uy Wn hy SK OF EK;refine Hh (H':=gu z (((((B.C.wA A1).wA A2).wA A3).aL p).wA A4) V B.ty B.C.ae.length ((kS (iH M.Q p) (qi (B.C.cl r) 1) r).flatMap (cX (((((B.C.wA A1).wA A2).wA A3).aL p).wA A4))) (M.x.left M.Q p) (fb (lz B.E (M.C.hd r) ex M.tn) (M.C.hd p)) (if 0<ex then M.tn+1 else M.tn) (M.v,[Dm Dj (M.v.aQ+1:Nat),Dm Dl (M.v.fB+(58+k.length+v.length)-(M.it p).sz:Nat),Dm Dl M.v.mt.dr,Dm Dl M.v.mt.re,Dm Dl M.v.mt.bu,Dm Dl M.v.mt.li,Dm Dl M.v.mt.lo,Dm Dl M.v.mt.cr,Dm Dl M.v.mt.mv, .slice M.v.wa M.v.wn M.v.wc]) M.k M.m M []) ?_;unfold gu oR;rw[<-La,<-O.hd p,show B.C.cl r=M.C.cl r from O.cl r];refine au (ax O2 (H:= [])) ?_;refine jU [SH z (M.dE r (some p) ⟨k,v,fl,ex,M.k.now,M.v.aQ+1,mk⟩)] results129 ?_;exact⟨rfl,rfl⟩
theorem jV.beside{M:Mo}(A:jV M 1):Ev M M.beside:=by
 have h1:Ev M M.cy:= .rf rfl rfl;have h2:Ev M M.cy.gA:=(h1.trans (Ev.cb M.cy M.cy.k.now M.cy.v.p.c)).trans (.rf rfl rfl);exact(h2.trans ((A.ev h2).eG M.cy.gA.v.p.m)).trans (.rf rfl rfl)
theorem jV.behind{M:Mo}(A:jV M 1)(hot warm:Nat)(k:FI):Ev M (M.behind hot warm k):=by
 have h:=KU hot warm M k;exact h.trans (A.ev h).beside
theorem Ev.meet (M:Mo)(k:FI):Ev M (M.meet k).2:=by
 unfold Mo.meet;split
 ·exact .rf rfl rfl
 split
 ·exact(Ev.rf rfl rfl:Ev M (M.bI _)).trans (Ev.bw _ _)
 exact .rf rfl rfl
theorem jV.meet{M:Mo}{j:Nat}(A:jV M j)(k:FI):jV (M.meet k).2 j:=A.ev (Ev.meet M k)
theorem Ev.dE (M:Mo)(r:Nat)(old:FK)(n:I3):Ev M (M.dE r old n):=by
 unfold Mo.dE;split
 ·exact .rf rfl rfl
 next p=>exact⟨rfl,Kr M.C p⟩
theorem jV.mw{j:Nat}(hot warm:Nat):∀(l:List FI) {M:Mo},jV M (j+1)->Ev M (l.foldl (Mo.behind hot warm) M)
 | [],_,_=> .rf rfl rfl
 |k::l,M,A=>by
  have e:=(A.le (Nat.succ_le_succ (abL j))).behind hot warm k;exact e.trans (jV.mw (j:=j) hot warm l (A.ev e))
end Go.Proofs.YtcbcjolpdljbiaaGreat
