/- Part Pk of the proof. -/
import Derived.Test.YtdolmecackmjdaaGreatDoorPc1
import Derived.Test.YtdolmecackmjdaaGreatDoorPd
import Derived.Test.YtdolmecackmjdaaGreatDoorPj1
set_option maxRecDepth 100000
open Nat renaming add_assoc → aeb, mod_eq_of_lt → aaH, mul_le_mul_right → aaD, le_refl → aan, lt_succ_self → afw, le_trans → aei, min_zero → afN
open List renaming mem_cons_self → aai, mem_cons_of_mem → aag, getElem_mem → aam, map_cons → aao, sum_cons → aaC, mem_cons → aau, map_congr_left → adT, filter_cons → adQ, mem_map → adi, mem_filter → acA, nodup_cons → aar, Perm → aaq, getElem?_set_ne → aaF, getD_eq_getElem?_getD → aab, getElem?_map → aap, getElem?_eq_some_iff → aad, mem_of_getElem? → aaf, getElem?_eq_getElem → aac, mem_of_mem_erase → ad1, mem_erase_of_ne → aen, length_map → aax, length_filter_le → ae1, length_cons → adm, getElem?_of_mem → aez, mem_flatten → aes, getElem_of_mem → aaz, nodup_nil → aec, mem_of_mem_take → ae8, filter_sublist → adx, append_nil → adR, replicate → aae, findIdx?_eq_some_iff_getElem → aav, findIdx?_eq_none_iff → adV, foldl_cons → adl, find?_eq_none → aef, mem_of_find?_eq_some → ady, find?_some → ae6, map_append → adt, mem_append → adP, mem_reverse → aeq, mem_singleton → aaA
open Decidable renaming byContradiction → aak
open Int renaming min_le_right → afx
open Go.Proofs.Tryz renaming prog → aaa
open Go.Proofs.Tryz
namespace Go.Proofs.YtdolmecackmjdaaGreatDoor
open Go Go.cV Go.Proofs.YtdolmecackmjdaaGreatDoor.Cs
structure I3 where
 key:List UInt8
 val:List UInt8
 fl:Nat
 exp:Nat
 tch:Nat
 tok:Nat
 cQ:Nat
def lP (A:By)(p:Nat):Nat:=rd A (p+24) 8
def QI (A:By)(p:Nat):Nat:=rd A (p+40) 4
def mu (A:By)(p:Nat):I3:=⟨aE A p,mJ A p,QI A p,ud A p,lP A p,pS A p,cM A p⟩
def I3.sz (x:I3):Nat:=58+x.key.length+x.val.length
theorem C7 (A:By)(p:Nat):(mu A p).sz=58+kl A p+vl A p:=by
 unfold I3.sz mu
 rw[show(aE A p).length=kl A p from cK _ _ _,show(mJ A p).length=vl A p from cK _ _ _]
theorem uA{C:Cs}(K:Ok C){B:By}{S:Nat→Nat→Prop}(d:cI C C.A B S){p:Nat}(L:At C p)(I:gC C p)(h:∀j,S p j→j<16∨j=45):mu B p=mu C.A p:=by
 have n1:=(L.aX K).2.1
 have hf:=I.fits
 have r:=λ(o w:Nat) (h2:o+w≤C.sz (C.cl p)) (h3:∀j,o≤j→j<o+w→¬(j<16∨j=45))=>ke K d L h2 (λj g1 g2 s=>h3 j g1 g2 (h j s))
 have e1:kl B p=kl C.A p:=r 44 1 (by omega) (λj g1 g2=>by omega)
 have e2:vl B p=vl C.A p:=r 48 4 (by omega) (λj g1 g2=>by omega)
 have e3:aE B p=aE C.A p:=by
  unfold aE
  rw[e1]
  exact so K d L (by omega) (λj g1 g2 s=>by have:=h j s;omega)
 have e4:mJ B p=mJ C.A p:=by
  unfold mJ
  rw[e1,e2,aeb]
  exact so K d L (by omega) (λj g1 g2 s=>by have:=h j s;omega)
 unfold mu QI ud lP pS cM
 rw[e3,e4,r 40 4 (by omega) (λj g1 g2=>by omega),r 16 8 (by omega) (λj g1 g2=>by omega),r 24 8 (by omega) (λj g1 g2=>by omega),r 32 8 (by omega) (λj g1 g2=>by omega),r 46 1 (by omega) (λj g1 g2=>by omega)]
theorem aaO{C:Cs}(K:Ok C){W:Tb}(O:cD C W){B:By}(kp:∀p∈W.all,Kept C B p)(hl:∀p∈W.all,rd B p 4=rd C.A p 4):cD (C.wA B) W:=by
 have lk:∀l:List Nat,(∀p∈l,p∈W.all)→CA C.A l→CA B l:=λl=>by
  induction l with
  |nil=>exact λ_ _=>trivial
  |cons p l ih=>exact λh g=>⟨(hl p (h p aai)).trans g.1,ih (λq hq=>h q (aag _ hq)) g.2⟩
 refine⟨O.pw,O.po,O.st,O.mp,O.sz,O.J5,O.sm,O.mv,O.n,O.nd,λx=>lk _ (λp hp=>Tb.fD hp) (O.li x),λp hp=>(O.lv p hp).wA B,λp hp=>(kp p hp).it (O.it p hp),λx p hp=> ?_,λp hp q hq e=> ?_⟩
 ·show W.bk (bJ (aE B p))=x
  rw[(kp p (Tb.fD hp)).key];exact O.bu x p hp
 change aE B p=aE B q at e
 rw[(kp p hp).key,(kp q hq).key]at e
 exact O.kd p hp q hq e
theorem aaS{C:Cs}{Q:List (List Nat)}(O:hZ C Q){B:By}(kp:∀i,∀p∈ql Q i,Kept C B p)(hs:∀i,∀p∈ql Q i,ij B p=ij C.A p)(h1:∀i,∀p∈ql Q i,rd B (p+4*1) 4=rd C.A (p+4*1) 4)(h2:∀i,∀p∈ql Q i,rd B (p+4*2) 4=rd C.A (p+4*2) 4):hZ (C.wA B) Q:=by
 refine⟨O.len,λi p hp=>(O.lv i p hp).wA B,λi p hp=>(kp i p hp).it (O.it i p hp),λi p hp=> ?_,O.nd,λi k hk=> ?_,λi k hk=> ?_⟩
 ·show 1≤ij B p∧_
  rw[cg,hs i p hp];exact O.st i p hp
 ·have hp:=aam hk
  rw[cg,h1 i _ hp];exact O.l1 i k hk
 have hp:=aam hk
 rw[cg,h2 i _ hp];exact O.l2 i k hk
structure Mo where
 C:Cs
 hole:Option Nat
 Q:List (List Nat)
 it:Nat→I3
 ord:Nat→Nat
 x:Cw
 tn:Nat
 k:Ck
 m:kf
 nb:Nat
 mg:Nat
 aB:Nat
 v:Sv
 iG:List Nat
 n:Nat
structure Bx where
 C:Cs
 W:Tb
 ty:oa
 E:List En
structure Ly where
 s:Nat
 y:Sy
 qb:Nat
 ub:Nat
 hot:Nat
 warm:Nat
def bn (s:Nat):Value:= .func (.func 66) #[.pointer (some ⟨s,0,none⟩)] #[]
def bT (s:Nat):Value:= .func (.func 68) #[.pointer (some ⟨s,0,none⟩)] #[]
def hU (C:Cs)(M:Mo)(l:List Nat):List En:=(l.filter λp=>decide (0<(M.it p).exp)).map λp=>⟨C.hd p,(M.it p).exp,M.ord p⟩
structure bF (B:Bx)(M:Mo):Prop where
 c:B.C=M.C.wA B.C.A
 k:Ok B.C
 t:cD B.C B.W
 ty:B.ty.ok=none→B.W.ob= []
 o:hZ B.C M.Q
 x:cn B.C.ae.length M.Q M.x
 mq:MkQ B.C M.Q
 ck:p9 M.k
 al:∀p,p∈B.W.all↔∃i,p∈ql M.Q i
 lv:∀p,Live B.C p↔p∈B.W.all∨M.hole=some p
 ho:∀p,M.hole=some p→p∉B.W.all
 it:∀p∈B.W.all,mu B.C.A p=M.it p
 e:B.E.Perm (hU B.C M B.W.all)
 st:B.W.st=2→B.W.mv<B.W.ob.length
 nb:B.W.size=M.nb
 mg:M.mg=if B.W.st=2 then B.W.ob.length-B.W.mv else 0
 mo:B.W.aB=M.aB
 bt:M.v.fI=(B.W.all.map λp=>(M.it p).sz).sum
 un:M.m.un.length=B.C.ae.length
 on:M.m.on=true→M.m.pg<B.C.n∧(B.C.pg M.m.pg).own=true∧(B.C.pg M.m.pg).lv=true∧(B.C.pg M.m.pg).cl=M.m.fr
 go:∀i,(B.C.pg i).lv=true→M.m.on=true∧i=M.m.pg
 wn:M.v.wn=M.iG.length
 cf:M.v.c=B.C.cfg
 n:B.W.n=M.n
 lg:∀p∈B.W.all,dV (M.it p).key=true
def kF (M:Mo):aa:=own M.v.wa M.v.wc 3 1 (ba M.iG)
def fk (z:Ly)(B:Bx)(M:Mo):List aa:=
 [Cl z.y.b B.C,ag z.y.t 145 (eT z.y.b B.W B.ty),ag B.ty.nk 163 (aC (au B.W.nb)),jd B.ty.ok 163 (aC (au B.W.ob)),ag z.y.q 139 (fj z.y.b z.qb B.C.ae.length),ag z.qb 327 (M.Q.flatMap (dR B.C)),gu z.y.cr z.y.q z.y.wh B.C.ae.length (bo z.s) (bn z.s) B.C M.x,Wl z.y.wh B.E M.tn,gr z.s z.y (gd M.v),
  ki z.y.ck M.k,iW z.y.lu z.y.b z.y.q z.hot z.warm,mG z.y.mo z.y.b z.ub (bo z.s) (bn z.s) (bT z.s) M.m,mN z.ub M.m,kF M]
abbrev wu (z:Ly)(v:Sv)(r:List Value):List Value:= .pointer (some ⟨z.y.b,0,none⟩):: .pointer (some ⟨z.y.ck,0,none⟩):: .pointer (some ⟨z.y.t,0,none⟩):: .pointer (some ⟨z.y.lu,0,none⟩):: .pointer (some ⟨z.y.wh,0,none⟩):: .pointer (some ⟨z.y.cr,0,none⟩):: .pointer (some ⟨z.y.mo,0,none⟩):: .pointer (some ⟨z.y.q,0,none⟩):: .int .i64 v.c.ao:: .int .i64 v.c.cP:: .int .i64 v.c.gA:: .int .i64 v.c.dE:: .int .i64 v.c.lim:: .int .i64 v.c.hot:: .int .i64 v.c.warm:: .int .i64 v.p.b:: .int .i64 v.p.l:: .int .i64 v.p.c:: .int .i64 v.p.m::r
abbrev lM (z:Ly)(C:Cs)(W:Tb)(ty:oa)(n:Nat)(q:List Value)(x:Cw)(E:List En)(t:Nat)(s:Sv×List Value)(k:Ck)(m:kf)(M:Mo)(r:List aa):List aa:=Cl z.y.b C::ag z.y.t 145 (eT z.y.b W ty)::ag ty.nk 163 (aC (au W.nb))::jd ty.ok 163 (aC (au W.ob))::ag z.y.q 139 (fj z.y.b z.qb n)::ag z.qb 327 q::gu z.y.cr z.y.q z.y.wh n (bo z.s) (bn z.s) C x::Wl z.y.wh E t::ag z.s 111 (wu z s.1 s.2)::ki z.y.ck k::iW z.y.lu z.y.b z.y.q z.hot z.warm::mG z.y.mo z.y.b z.ub (bo z.s) (bn z.s) (bT z.s) m::mN z.ub m::kF M::r
def Mo.put (M:Mo)(p:Nat)(n:I3):Mo:={M with it:=λq=>if q=p then n else M.it q}
theorem bF.qP{B:Bx}{M:Mo}(O:bF B M){p:Nat}(h:p∈B.W.all):Live B.C p:=(O.lv p).2 (.inl h)
theorem bF.qS{B:Bx}{M:Mo}(O:bF B M){i p:Nat}(h:p∈ql M.Q i):p∈B.W.all:=(O.al p).2 ⟨i,h⟩
theorem bF.ito{B:Bx}{M:Mo}(O:bF B M){p:Nat}(h:p∈B.W.all):gv B.C (some p):=λq e=>by cases e;exact⟨O.qP h,O.t.it p h⟩
theorem bF.szp{B:Bx}{M:Mo}(O:bF B M){p:Nat}(h:p∈B.W.all):58+kl B.C.A p+vl B.C.A p=(M.it p).sz:=by rw[←O.it p h,C7]
theorem tj{α:Type}(f:α→Nat):∀{l:List α} {x:α},x∈l→f x≤(l.map f).sum
 |y::l,x,h=>by
  rw[aao,aaC]
  rcases aau.1 h with rfl|h
  ·omega
  have:=tj f h;omega
theorem np{α:Type}(f:α→Nat){l m:List α}(p:l.Perm m):(l.map f).sum=(m.map f).sum:=(p.map f).sum_nat
theorem bF.dX{B:Bx}{M:Mo}(O:bF B M){p:Nat}(hp:p∈B.W.all){A:By}{S:Nat→Nat→Prop}(d:cI B.C B.C.A A S)(hS:∀q j,S q j→q=p∧16≤j∧j<48∧(j<40∨j=46))
  (hx:rd A (p+16) 8<9223372036854775808) (ht:rd A (p+24) 8<9223372036854775808) (hm:cM A p<16) (n:I3) (hn:n={M.it p with exp:=ud A p,tch:=lP A p,tok:=pS A p,cQ:=cM A p})
  (E:List En) (od:Nat→Nat) (tn:Nat) (hE:E.Perm (hU B.C {M.put p n with ord:=od} B.W.all)):bF ⟨B.C.wA A,B.W,B.ty,E⟩ {M.put p n with ord:=od,tn:=tn}:=by
 have K:=O.k
 have at_:∀q∈B.W.all,At B.C q:=λq hq=>(O.qP hq).toAt
 have n1:∀q∈B.W.all,64≤B.C.sz (B.C.cl q):=λq hq=>((at_ q hq).aX K).2.1
 have I:=O.t.it p hp
 have hf:=I.fits
 have r:=λ(q:Nat) (hq:q∈B.W.all) (o w:Nat) (h2:o+w≤B.C.sz (B.C.cl q)) (h3:∀j,o≤j→j<o+w→¬(16≤j∧j<48∧(j<40∨j=46)))=>ke K d (at_ q hq) h2 (λj g1 g2 s=>h3 j g1 g2 (hS q j s).2)
 have ek:∀q∈B.W.all,kl A q=kl B.C.A q:=λq hq=>r q hq 44 1 (by have:=n1 q hq;omega) (λj g1 g2=>by omega)
 have ev:∀q∈B.W.all,vl A q=vl B.C.A q:=λq hq=>r q hq 48 4 (by have:=n1 q hq;omega) (λj g1 g2=>by omega)
 have other:∀q∈B.W.all,q≠p→mu A q=mu B.C.A q:=λq hq ne=>uA K d (at_ q hq) (O.t.it q hq) (λj s=>absurd (hS q j s).1 ne)
 have key:∀q∈B.W.all,aE A q=aE B.C.A q:=λq hq=>by
  have:=(O.t.it q hq).fits
  unfold aE
  rw[ek q hq]
  exact so K d (at_ q hq) (by omega) (λj g1 g2 s=>by have:=hS q j s;omega)
 have val:∀q∈B.W.all,mJ A q=mJ B.C.A q:=λq hq=>by
  have:=(O.t.it q hq).fits
  unfold mJ
  rw[ek q hq,ev q hq,aeb]
  exact so K d (at_ q hq) (by omega) (λj g1 g2 s=>by have:=hS q j s;omega)
 have kp:∀q∈B.W.all,Kept B.C A q:=λq hq=>⟨ek q hq,ev q hq,key q hq,λJ=>by
  by_cases e:q=p
  ·subst e
   exact⟨by rw[cg,ek q hq];exact J.k0,by rw[cg,ek q hq,ev q hq];exact J.fits,hx,ht⟩
  have g:=other q hq e
  have g1:ud A q=ud B.C.A q:=congrArg I3.exp g
  have g2:lP A q=lP B.C.A q:=congrArg I3.tch g
  exact⟨by rw[cg,ek q hq];exact J.k0,by rw[cg,ek q hq,ev q hq];exact J.fits,by have:=J.exp;change ud A q<_;rw[g1];exact this,by have:=J.tch;change lP A q<_;rw[g2];exact this⟩⟩
 have itp:mu A p=n:=by
  rw[hn,←O.it p hp]
  unfold mu
  dsimp only
  rw[key p hp,val p hp,show QI A p=QI B.C.A p from r p hp 40 4 (by have:=n1 p hp;omega) (λj g1 g2=>by omega)]
 have jz:∀q∈B.W.all,mu A q=(M.put p n).it q:=λq hq=>by
  show _=if q=p then n else M.it q
  by_cases e:q=p
  ·rw[if_pos e,e];exact itp
  rw[if_neg e,other q hq e];exact O.it q hq
 refine⟨?_,K.wA A,aaO K O.t kp (λq hq=>r q hq 0 4 (by have:=n1 q hq;omega) (λj g1 g2=>by omega)),O.ty, ?_,O.x, ?_,O.ck,O.al,λq=> ?_,O.ho,jz,hE,O.st,O.nb,O.mg,O.mo, ?_,O.un,O.on,O.go,O.wn,O.cf,O.n,λq hq=> ?_⟩
 ·show B.C.wA A=M.C.wA A
  conv=>lhs;rw[O.c]
  rfl
 ·exact aaS O.o (λi q hq=>kp q (O.qS hq)) (λi q hq=>r q (O.qS hq) 45 1 (by have:=n1 q (O.qS hq);omega) (λj g1 g2=>by omega)) (λi q hq=>r q (O.qS hq) (4*1) 4 (by have:=n1 q (O.qS hq);omega) (λj g1 g2=>by omega)) (λi q hq=>r q (O.qS hq) (4*2) 4 (by have:=n1 q (O.qS hq);omega) (λj g1 g2=>by omega))
 ·intro i q hq
  have GH:=O.qS hq
  by_cases e:q=p
  ·rw[e];exact hm
  show cM A q<16
  rw[show cM A q=cM B.C.A q from congrArg I3.cQ (other q GH e)]
  exact O.mq i q hq
 ·refine Iff.trans ?_ (O.lv q)
  exact⟨λh=>⟨⟨h.i,h.own,h.al,h.k⟩,h.tk⟩,λh=>h.wA A⟩
 ·show M.v.fI=_
  rw[O.bt]
  congr 1
  refine adT λq hq=> ?_
  rw[←jz q hq,←O.it q hq,C7,C7,ek q hq,ev q hq]
 rw[←jz q hq]
 show dV (aE A q)=true
 rw[key q hq,show aE B.C.A q=(M.it q).key from congrArg I3.key (O.it q hq)]
 exact O.lg q hq
end Go.Proofs.YtdolmecackmjdaaGreatDoor
namespace Go.cV
open Go
theorem aF.fr{P:Program}{f:FuncId}{args:List Value}{pre:Hp→Prop}{H As R:List aa}{T:Value→List aa→Prop}(h:aF P f args pre As T)(dG:iI H As R)(hp:∀k,gw R k→pre k):
  aF P f args (λ_=>True) H (λv H'=>∃H0,T v H0∧H'=H0++R):=by
 intro F w _ s
 obtain⟨a1,a2,a3,fr,hh,st,hl,tZ⟩:=s
 obtain⟨h1,h2,d12,l1,l2,s1,s2⟩:=bx (dG.out _ st)
 have wV:bO h2 F.h:=tZ.left l2
 let F':dy:={F with h:=fZ h2 F.h}
 have iH:Le F.h F'.h:=aU wV
 have iq:Le h2 F'.h:=a8 _ _
 have Cf:St F' As w:=⟨a1,a2,a3,bS (l2.trans hl) fr,h1,s1,l1.trans hl,(bO.fZ d12.symm (tZ.left l1).symm).symm⟩
 refine(h F' w (hp _ (bV s2 iq)) Cf).mono ?_
 rintro e w' ⟨v,H',rfl,hT,sw⟩
 obtain⟨b1,b2,b3,uc,Cr,st2,Cq,kW⟩:=sw
 exact⟨v,_,rfl,⟨H',hT,rfl⟩,b1,b2,b3,iH.trans uc,fZ Cr h2,bG st2 s2 (kW.right iq),bS Cq (iq.trans uc),bO.fZ (kW.right iH) wV⟩
end Go.cV
namespace Go.Proofs.YtdolmecackmjdaaGreatDoor
open Go Go.cV Go.Proofs.YtdolmecackmjdaaGreatDoor.Cs
theorem ns (A:By)(p n v:Nat)(h:v<256^n):rd (wr A p n v) p n=v:=by rw[cG,aaH h]
def SH (z:Ly)(M:Mo):aa:=λh=>∃B,bF B M∧aI (fk z B M) h
theorem eF{P:Program}{f:FuncId}{args:List Value}{pre:Hp→Prop}{H:List aa}{R:Value→List aa→Prop}{z:Ly}{M:Mo}(h:∀B,bF B M→aF P f args pre (fk z B M++H) R):aF P f args pre (SH z M::H) R:=
 aF.ZY λB=>aF.Ae λO=>aF.CW (h B O)
theorem aK{z:Ly}{B:Bx}{M:Mo}(O:bF B M){H:List aa}:∀h,ai (fk z B M++H) h→ai (SH z M::H) h:=λh s=>
 aY (λk x=>⟨B,O,x⟩) (fg s)
def Mo.has (M:Mo)(p:Nat):Prop:=∃i,p∈ql M.Q i
def Mo.jz (M:Mo)(p:Nat):Mo:=M.put p {M.it p with tch:=M.k.now,cQ:=mkSet (M.it p).cQ true % 8+8}
def Mo.marks (M:Mo)(p k:Nat):Mo:=M.put p {M.it p with cQ:=(M.it p).cQ-(M.it p).cQ/2 % 4*2+k*2}
def Mo.tok (M:Mo)(p t:Nat):Mo:=M.put p {M.it p with tok:=t}
def Mo.time (M:Mo)(p e:Nat):Mo:={M.put p {M.it p with exp:=e}with ord:=λq=>if q=p then M.tn+1 else M.ord q,tn:=if 0<e then M.tn+1 else M.tn}
theorem bF.hd{B:Bx}{M:Mo}(O:bF B M)(p:Nat):B.C.hd p=M.C.hd p:=by rw[O.c];rfl
theorem jR{C:Cs}{M:Mo}{l m:List Nat}(p:l.Perm m):(hU C M l).Perm (hU C M m):=(p.filter _).map _
theorem jS{C:Cs}{M:Mo}{p:Nat}{r:List Nat}:hU C M (p::r)=if 0<(M.it p).exp then⟨C.hd p,(M.it p).exp,M.ord p⟩::hU C M r else hU C M r:=by
 unfold hU
 by_cases h:0<(M.it p).exp
 ·rw[if_pos h,adQ,if_pos (by simpa using h)];rfl
 rw[if_neg h,adQ,if_neg (by simpa using h)]
theorem fq{C D:Cs}{M N:Mo}:∀{l:List Nat},(∀q∈l,(N.it q).exp=(M.it q).exp∧N.ord q=M.ord q∧D.hd q=C.hd q)→hU D N l=hU C M l
 | [],_=>by simp only[hU,List.filter_nil,List.map_nil]
 |p::r,h=>by
  obtain⟨h1,h2,h3⟩:=h p aai
  rw[jS,jS,h1,h2,h3,fq λq hq=>h q (aag _ hq)]
theorem zj{C:Cs}{M:Mo}{p:Nat}{n:I3}{l:List Nat}(h:n.exp=(M.it p).exp):hU C {M.put p n with ord:=M.ord} l=hU C M l:=fq λq _=>⟨by
 show(if q=p then n else M.it q).exp=_
 by_cases e:q=p
 ·rw[if_pos e,h,e]
 rw[if_neg e],rfl,rfl⟩
theorem lA{C:Cs}{M:Mo}{h:Nat}{r:List Nat}(hr:∀q∈r,C.hd q≠h):ey (hU C M r) h=hU C M r:=by
 unfold ey
 rw[List.filter_eq_self]
 intro x hx
 unfold hU at hx
 obtain⟨q,hq,rfl⟩:=adi.1 hx
 exact decide_eq_true (hr q (acA.1 hq).1)
theorem bF.mH{B:Bx}{M:Mo}(O:bF B M){p:Nat}(h:p∈B.W.all):At B.C p:=(O.qP h).toAt
theorem bF.rest{B:Bx}{M:Mo}(O:bF B M){p:Nat}{r:List Nat}(h:B.W.all.Perm (p::r)):(ey B.E (B.C.hd p)).Perm (hU B.C M r):=by
 have nd:=h.nodup_iff.1 O.t.nd
 have ie:∀q∈r,B.C.hd q≠B.C.hd p:=λq hq e=>(aar.1 nd).1 (by
  rw[←lW O.k (O.mH (h.mem_iff.2 (aag _ hq))) (O.mH (h.mem_iff.2 aai)) e];exact hq)
 have h1:(ey B.E (B.C.hd p)).Perm (ey (hU B.C M (p::r)) (B.C.hd p)):=(O.e.trans (jR h)).filter _
 refine h1.trans ?_
 rw[jS]
 split
 ·unfold ey
  rw[adQ,if_neg (by simp)]
  exact aaq.of_eq (lA ie)
 exact aaq.of_eq (lA ie)
theorem bF.ZC{B:Bx}{M:Mo}(_:bF B M){p:Nat}(h:p∈B.W.all):B.W.all.Perm (p::B.W.all.erase p):=List.perm_cons_erase h
def wW (p:Nat)(a n:Nat)(q o:Nat):Prop:=q=p∧a≤o∧o<a+n
theorem bF.JP{B:Bx}{M:Mo}(O:bF B M){p:Nat}(hp:p∈B.W.all){A:By}{S:Nat→Nat→Prop}(d:cI B.C B.C.A A S){o w:Nat}(h2:o+w≤64)(h:∀j,o≤j→j<o+w→¬S p j):rd A (p+o) w=rd B.C.A (p+o) w:=
 ke O.k d (O.mH hp) (by have:=((O.mH hp).aX O.k).2.1;omega) h
theorem bF.z6{B:Bx}{M:Mo}(O:bF B M){p:Nat}(hp:p∈B.W.all):cM B.C.A p=(M.it p).cQ∧(M.it p).cQ<16:=by
 have h:=congrArg I3.cQ (O.it p hp)
 obtain⟨i,hi⟩:=(O.al p).1 hp
 have h2:=O.mq i p hi
 have h3:cM B.C.A p=(M.it p).cQ:=h
 exact⟨h3,by omega⟩
theorem bF.iw{B:Bx}{M:Mo}(O:bF B M){p:Nat}(hp:p∈B.W.all):ud B.C.A p=(M.it p).exp∧lP B.C.A p=(M.it p).tch∧pS B.C.A p=(M.it p).tok∧cM B.C.A p=(M.it p).cQ∧aE B.C.A p=(M.it p).key∧mJ B.C.A p=(M.it p).val∧QI B.C.A p=(M.it p).fl:=by
 have h:=O.it p hp
 rw[←h]
 exact⟨rfl,rfl,rfl,rfl,rfl,rfl,rfl⟩
theorem bF.w46{B:Bx}{M:Mo}(O:bF B M){p:Nat}(hp:p∈B.W.all)(m:Nat)(hm:m<16):bF ⟨B.C.wA (wr B.C.A (p+46) 1 m),B.W,B.ty,B.E⟩ (M.put p {M.it p with cQ:=m}):=by
 have L:=O.mH hp
 have n1:=(L.aX O.k).2.1
 have d:cI B.C B.C.A (wr B.C.A (p+46) 1 m) (wW p 46 1):=uh _ L (by omega) λj h1 h2=>⟨rfl,h1,h2⟩
 have I:=O.t.it p hp
 obtain⟨f1,f2,f3,f4,f5,f6,f7⟩:=O.iw hp
 have g1:ud (wr B.C.A (p+46) 1 m) p=(M.it p).exp:=(O.JP hp d (by omega) (λj h1 h2 s=>by unfold wW at s;omega)).trans f1
 have g2:lP (wr B.C.A (p+46) 1 m) p=(M.it p).tch:=(O.JP hp d (by omega) (λj h1 h2 s=>by unfold wW at s;omega)).trans f2
 have g3:pS (wr B.C.A (p+46) 1 m) p=(M.it p).tok:=(O.JP hp d (by omega) (λj h1 h2 s=>by unfold wW at s;omega)).trans f3
 have g4:cM (wr B.C.A (p+46) 1 m) p=m:=ns _ _ _ _ (by omega)
 have e1:=I.exp
 have e2:=I.tch
 refine O.dX hp d (λq j s=>by unfold wW at s;omega) (by show ud _ _<_;rw[g1,←f1];exact e1) (by show lP _ _<_;rw[g2,←f2];exact e2) (by rw[g4];exact hm) _ (by rw[g1,g2,g3,g4]) _ _ _ ?_
 exact O.e.trans (aaq.of_eq (zj (by rfl)).symm)
theorem bF.w24{B:Bx}{M:Mo}(O:bF B M){p:Nat}(hp:p∈B.W.all)(t:Nat)(ht:t<9223372036854775808):bF ⟨B.C.wA (wr B.C.A (p+24) 8 t),B.W,B.ty,B.E⟩ (M.put p {M.it p with tch:=t}):=by
 have L:=O.mH hp
 have n1:=(L.aX O.k).2.1
 have d:cI B.C B.C.A (wr B.C.A (p+24) 8 t) (wW p 24 8):=uh _ L (by omega) λj h1 h2=>⟨rfl,h1,h2⟩
 have I:=O.t.it p hp
 obtain⟨f1,f2,f3,f4,f5,f6,f7⟩:=O.iw hp
 have g1:ud (wr B.C.A (p+24) 8 t) p=(M.it p).exp:=(O.JP hp d (by omega) (λj h1 h2 s=>by unfold wW at s;omega)).trans f1
 have g2:lP (wr B.C.A (p+24) 8 t) p=t:=ns _ _ _ _ (by omega)
 have g3:pS (wr B.C.A (p+24) 8 t) p=(M.it p).tok:=(O.JP hp d (by omega) (λj h1 h2 s=>by unfold wW at s;omega)).trans f3
 have g4:cM (wr B.C.A (p+24) 8 t) p=(M.it p).cQ:=(O.JP hp d (by omega) (λj h1 h2 s=>by unfold wW at s;omega)).trans f4
 have e1:=I.exp
 refine O.dX hp d (λq j s=>by unfold wW at s;omega) (by show ud _ _<_;rw[g1,←f1];exact e1) (by show lP _ _<_;rw[g2];exact ht) (by rw[g4];exact(O.z6 hp).2) _ (by rw[g1,g2,g3,g4]) _ _ _ ?_
 exact O.e.trans (aaq.of_eq (zj (by rfl)).symm)
theorem bF.w32{B:Bx}{M:Mo}(O:bF B M){p:Nat}(hp:p∈B.W.all)(t:Nat)(ht:t<18446744073709551616):bF ⟨B.C.wA (wr B.C.A (p+32) 8 t),B.W,B.ty,B.E⟩ (M.tok p t):=by
 have L:=O.mH hp
 have n1:=(L.aX O.k).2.1
 have d:cI B.C B.C.A (wr B.C.A (p+32) 8 t) (wW p 32 8):=uh _ L (by omega) λj h1 h2=>⟨rfl,h1,h2⟩
 have I:=O.t.it p hp
 obtain⟨f1,f2,f3,f4,f5,f6,f7⟩:=O.iw hp
 have g1:ud (wr B.C.A (p+32) 8 t) p=(M.it p).exp:=(O.JP hp d (by omega) (λj h1 h2 s=>by unfold wW at s;omega)).trans f1
 have g2:lP (wr B.C.A (p+32) 8 t) p=(M.it p).tch:=(O.JP hp d (by omega) (λj h1 h2 s=>by unfold wW at s;omega)).trans f2
 have g3:pS (wr B.C.A (p+32) 8 t) p=t:=ns _ _ _ _ (by omega)
 have g4:cM (wr B.C.A (p+32) 8 t) p=(M.it p).cQ:=(O.JP hp d (by omega) (λj h1 h2 s=>by unfold wW at s;omega)).trans f4
 have e1:=I.exp
 have e2:=I.tch
 refine O.dX hp d (λq j s=>by unfold wW at s;omega) (by show ud _ _<_;rw[g1,←f1];exact e1) (by show lP _ _<_;rw[g2,←f2];exact e2) (by rw[g4];exact(O.z6 hp).2) _ (by rw[g1,g2,g3,g4]) _ _ _ ?_
 exact O.e.trans (aaq.of_eq (zj (by rfl)).symm)
theorem bF.w16{B:Bx}{M:Mo}(O:bF B M){p:Nat}(hp:p∈B.W.all)(t:Nat)(ht:t<9223372036854775808):bF ⟨B.C.wA (wr B.C.A (p+16) 8 t),B.W,B.ty,jB B.E (B.C.hd p) t M.tn⟩ (M.time p t):=by
 have L:=O.mH hp
 have n1:=(L.aX O.k).2.1
 have d:cI B.C B.C.A (wr B.C.A (p+16) 8 t) (wW p 16 8):=uh _ L (by omega) λj h1 h2=>⟨rfl,h1,h2⟩
 have I:=O.t.it p hp
 obtain⟨f1,f2,f3,f4,f5,f6,f7⟩:=O.iw hp
 have g1:ud (wr B.C.A (p+16) 8 t) p=t:=ns _ _ _ _ (by omega)
 have g2:lP (wr B.C.A (p+16) 8 t) p=(M.it p).tch:=(O.JP hp d (by omega) (λj h1 h2 s=>by unfold wW at s;omega)).trans f2
 have g3:pS (wr B.C.A (p+16) 8 t) p=(M.it p).tok:=(O.JP hp d (by omega) (λj h1 h2 s=>by unfold wW at s;omega)).trans f3
 have g4:cM (wr B.C.A (p+16) 8 t) p=(M.it p).cQ:=(O.JP hp d (by omega) (λj h1 h2 s=>by unfold wW at s;omega)).trans f4
 have e2:=I.tch
 refine O.dX hp d (λq j s=>by unfold wW at s;omega) (by show ud _ _<_;rw[g1];exact ht) (by show lP _ _<_;rw[g2,←f2];exact e2) (by rw[g4];exact(O.z6 hp).2) _ (by rw[g1,g2,g3,g4]) _ _ _ ?_
 have pe:=O.ZC hp
 have nd:=aar.1 (pe.nodup_iff.1 O.t.nd)
 have hr:=O.rest pe
 refine aaq.trans ?_ (jR pe).symm
 rw[jS]
 have e0:(({M.put p {M.it p with exp:=t}with ord:=λq=>if q=p then M.tn+1 else M.ord q}:Mo).it p).exp=t:=by show(if p=p then _ else M.it p).exp=t;rw[if_pos rfl]
 have e5:({M.put p {M.it p with exp:=t}with ord:=λq=>if q=p then M.tn+1 else M.ord q}:Mo).ord p=M.tn+1:=if_pos rfl
 rw[e0,e5]
 have e1:hU B.C {M.put p {M.it p with exp:=t}with ord:=λq=>if q=p then M.tn+1 else M.ord q} (B.W.all.erase p)=hU B.C M (B.W.all.erase p):=fq λq hq=>by
  have ne:q≠p:=λe=>nd.1 (e▸hq)
  refine⟨?_,if_neg ne,rfl⟩
  show(if q=p then _ else M.it q).exp=_
  rw[if_neg ne]
 rw[e1]
 unfold jB
 split
 ·exact hr.cons _
 exact hr
theorem qn{C:Cs}(K:Ok C){p:Nat}(L:Live C p)(j:Nat):((C.bb p).pg j).own=(C.pg j).own∧((C.bb p).pg j).lv=(C.pg j).lv∧((C.bb p).pg j).cl=(C.pg j).cl:=by
 have hpl:C.pn p<C.bZ.length:=by rw[K.pl];exact L.i
 have h:=kI (C:=C) (c:=C.cl p) (sp:=C.spare) (x:={C.pg (C.pn p)with tk:=(C.pg (C.pn p)).tk.set (C.ix p) false,held:=(C.pg (C.pn p)).held-1,aZ:=(C.pg (C.pn p)).aZ.set (C.ix p) ((C.gen p+1) % 4294967296)}) (r:={C.rw (C.cl p)with free:=if(C.pg (C.pn p)).lv=true then(C.rw (C.cl p)).free else(C.rw (C.cl p)).free++ [p],gm:=(C.rw (C.cl p)).gm-1}) (A:=C.A) hpl j
 change(C.bb p).pg j=_ at h
 rw[h]
 by_cases e:j=C.pn p
 ·rw[if_pos e,e];exact⟨rfl,rfl,rfl⟩
 rw[if_neg e];exact⟨rfl,rfl,rfl⟩
theorem nU{C:Cs}(K:Ok C){p:Nat}(L:Live C p)(q:Nat):Live (C.bb p) q↔Live C q∧q≠p:=by
 obtain⟨K2,S⟩:=gq K L
 have M:=lr K L
 refine⟨λh=> ?_,λh=>(M.lv q h.2 h.1).1⟩
 have hpl:C.pn p<C.bZ.length:=by rw[K.pl];exact L.i
 have hp:=kI (C:=C) (c:=C.cl p) (sp:=C.spare) (x:={C.pg (C.pn p)with tk:=(C.pg (C.pn p)).tk.set (C.ix p) false,held:=(C.pg (C.pn p)).held-1,aZ:=(C.pg (C.pn p)).aZ.set (C.ix p) ((C.gen p+1) % 4294967296)}) (r:={C.rw (C.cl p)with free:=if(C.pg (C.pn p)).lv=true then(C.rw (C.cl p)).free else(C.rw (C.cl p)).free++ [p],gm:=(C.rw (C.cl p)).gm-1}) (A:=C.A) hpl (C.pn q)
 change(C.bb p).pg (C.pn q)=_ at hp
 have a:=(S.at).1 h.toAt
 have t:=h.tk
 rw[S.pn,S.ix,hp]at t
 by_cases e:C.pn q=C.pn p
 ·rw[if_pos e]at t
  have ne:q≠p:=λg=>by
   rw[g]at t
   change((C.pg (C.pn p)).tk.set (C.ix p) false)[C.ix p]?=some true at t
   rw[List.getElem?_set_self']at t
   cases hh:(C.pg (C.pn p)).tk[C.ix p]?<;>rw[hh]at t<;>cases t
  refine⟨⟨a, ?_⟩,ne⟩
  change((C.pg (C.pn p)).tk.set (C.ix p) false)[C.ix q]?=some true at t
  rw[aaF (λg=>uz K L.toAt a e ne g.symm)]at t
  rw[e];exact t
 rw[if_neg e]at t
 exact⟨⟨a,t⟩,λg=>e (by rw[g])⟩
def gn (Q:List (List Nat))(p:Nat):List (List Nat):=Q.map λl=>l.erase p
theorem gU (Q:List (List Nat))(p i:Nat):ql (gn Q p) i=(ql Q i).erase p:=by
 unfold gn ql
 rw[aab,aab,aap]
 cases Q[i]?<;>rfl
theorem EP{C:Cs}{Q:List (List Nat)}(O:hZ C Q){i j p:Nat}(h:p∈ql Q i)(g:p∈ql Q j):i=j:=by
 rw[(O.st i p h).2.2,(O.st j p g).2.2]
theorem Dx{l:List Nat}(nd:l.Nodup){k p:Nat}(h:l[k]?=some p):l.eraseIdx k=l.erase p:=by
 obtain⟨hk,e⟩:=aad.1 h
 have:l.idxOf p=k:=by
  have h1:p∈l:=aaf h
  obtain⟨i1,i2⟩:=zc h1
  exact gh nd i2 h
 rw[List.erase_eq_eraseIdx_of_idxOf this]
theorem yW{C:Cs}{Q:List (List Nat)}(O:hZ C Q){i k p:Nat}(h:(ql Q i)[k]?=some p):Q.set i ((ql Q i).eraseIdx k)=gn Q p:=by
 have hm:=aaf h
 have hi:i<Q.length:=by
  refine aak λg=> ?_
  unfold ql at h
  have e0:Q[i]?=none:=List.getElem?_eq_none (by omega)
  rw[aab,e0]at h
  cases h
 refine List.ext_getElem? λj=> ?_
 unfold gn
 rw[List.getElem?_set,aap]
 by_cases e:i=j
 ·subst e
  rw[if_pos rfl,if_pos hi,aac hi]
  have e2:ql Q i=Q[i]:=by unfold ql;rw[aab,aac hi];rfl
  rw[Dx (O.nd i) h,e2];rfl
 rw[if_neg e]
 cases hq:Q[j]? with
 |none=>rfl
 |some l=>
  have e2:ql Q j=l:=by unfold ql;rw[aab,hq];rfl
  have:p∉l:=λg=>e (EP O hm (by rw[e2];exact g))
  rw[Option.map_some,List.erase_of_not_mem this]
def Mo.shr (M:Mo):Prop:=M.mg=0∧16<M.nb∧8*(M.n-1)<M.nb
instance (M:Mo):Decidable M.shr:=by unfold Mo.shr;infer_instance
def Mo.bM (M:Mo)(p:Nat):Mo:=
 {M with C:=M.C.bb p,Q:=gn M.Q p,x:=M.x.left M.Q p,n:=M.n-1,nb:=if M.shr then M.nb/2 else M.nb,mg:=if M.shr then M.nb else M.mg,v:={M.v with fI:=M.v.fI-(M.it p).sz}}
theorem bF.st0{B:Bx}{M:Mo}(O:bF B M):M.mg=0↔B.W.st=0:=by
 have:=O.st
 rw[O.mg]
 rcases O.t.st with⟨h,_⟩|⟨h,_,_⟩
 ·rw[h,if_neg (by omega)]
 rw[if_pos h,h]
 have:=this h
 omega
theorem bF.bM{B:Bx}{M:Mo}(O:bF B M){p i k:Nat}(hp:p∈B.W.all)(hk:(ql M.Q i)[k]?=some p){D:Cs}{V:Tb}{ty:oa}{A:By}(hy:ty.ok=none→V.ob= [])(wS:B.W.all.Perm (p::V.all))(hA:abm B.C p D V (M.Q.set i ((ql M.Q i).eraseIdx k)) (M.x.left M.Q p))(TK:DH B.C B.W p A V):
  bF ⟨D,V,ty,ey B.E (B.C.hd p)⟩ (M.bM p):=by
 have L:=O.qP hp
 have K:=O.k
 have hq:=yW O.o hk
 rw[hq]at hA
 have nd:=aar.1 (wS.nodup_iff.1 O.t.nd)
 have aq:∀q,q∈V.all↔q∈B.W.all∧q≠p:=λq=>by
  rw[wS.mem_iff,aau]
  exact⟨λh=>⟨.inr h,λe=>nd.1 (e▸h)⟩,λh=>h.1.resolve_left h.2⟩
 have sO:D.ae=B.C.ae:=by rw[hA.g];rfl
 have lL:∀q,Live D q↔Live B.C q∧q≠p:=λq=>by
  rw[hA.g]
  exact Iff.trans ⟨λh=>⟨⟨h.i,h.own,h.al,h.k⟩,h.tk⟩,λh=>h.wA _⟩ (nU K L q)
 have GJ:∀q,q∈V.all→D.hd q=B.C.hd q:=λq h=>by
  have h2:=(aq q).1 h
  rw[hA.g]
  exact((lr K L).lv q h2.2 (O.qP h2.1)).2.1
 have jz:∀q∈V.all,mu D.A q=M.it q:=λq h=>by
  have h2:=(aq q).1 h
  rw[←O.it q h2.1]
  exact uA K hA.d (O.mH h2.1) (O.t.it q h2.1) λj s=>by omega
 have iD:∀j,(D.pg j).own=(B.C.pg j).own∧(D.pg j).lv=(B.C.pg j).lv∧(D.pg j).cl=(B.C.pg j).cl:=λj=>by rw[hA.g];exact qn K L j
 have h0:=O.st0
 have GI:=O.nb
 have hn:=O.n
 have Co:=O.mg
 have ZQ:M.shr↔gV B.W:=by unfold Mo.shr gV;rw[h0,GI,hn]
 have V4:=O.t.J5
 refine⟨?_,hA.k,hA.t,hy,hA.o, ?_, ?_,O.ck,λq=> ?_,λq=> ?_,λq h=> ?_,jz, ?_, ?_, ?_, ?_, ?_, ?_, ?_, ?_, ?_,O.wn, ?_, ?_,λq h=>O.lg q ((aq q).1 h).1⟩
 ·show D=(M.C.bb p).wA D.A
  conv=>lhs;rw[hA.g,O.c]
  rfl
 ·show cn D.ae.length (gn M.Q p) (M.x.left M.Q p)
  rw[sO];exact hA.x
 ·intro j q GH
  change q∈ql (gn M.Q p) j at GH
  rw[gU]at GH
  have hqm:=ad1 GH
  have e:cM D.A q=cM B.C.A q:=ke K hA.d (O.o.lv j q hqm).toAt (by have:=((O.o.lv j q hqm).toAt.aX K).2.1;omega) λu h1 h2 s=>by omega
  show cM D.A q<16
  rw[e];exact O.mq j q hqm
 ·show q∈V.all↔∃j,q∈ql (gn M.Q p) j
  rw[aq q,O.al q]
  refine⟨λ⟨⟨j,h1⟩,h2⟩=>⟨j,by rw[gU];exact(aen h2).2 h1⟩,λ⟨j,h1⟩=> ?_⟩
  rw[gU]at h1
  exact⟨⟨j,ad1 h1⟩,λe=>by subst e;exact(List.Nodup.not_mem_erase (O.o.nd j)) h1⟩
 ·show Live D q↔q∈V.all∨M.hole=some q
  rw[lL q,aq q,O.lv q]
  constructor
  ·rintro⟨h|h,ne⟩
   ·exact .inl ⟨h,ne⟩
   exact .inr h
  rintro(⟨h,ne⟩|h)
  ·exact⟨.inl h,ne⟩
  exact⟨.inr h,λe=>O.ho q h (e▸hp)⟩
 ·exact λg=>O.ho q h ((aq q).1 g).1
 ·refine(O.rest wS).trans (aaq.of_eq (fq λq h=>⟨rfl,rfl,GJ q h⟩).symm)
 ·intro h2
  show V.mv<V.ob.length
  by_cases g:gV B.W
  ·obtain⟨_,_,e1,e2⟩:=TK.V6 g
   rw[e1,e2];omega
  obtain⟨_,e1,e2,e3⟩:=TK.same g
  rw[e2,e3];exact O.st (by rw[←e1];exact h2)
 ·show V.size=if M.shr then M.nb/2 else M.nb
  by_cases g:gV B.W
  ·rw[if_pos (ZQ.2 g),(TK.V6 g).1,GI]
  rw[if_neg λe=>g (ZQ.1 e),(TK.same g).1,GI]
 ·show(if M.shr then M.nb else M.mg)=if V.st=2 then V.ob.length-V.mv else 0
  by_cases g:gV B.W
  ·obtain⟨_,e1,e2,e3⟩:=TK.V6 g
   rw[if_pos (ZQ.2 g),if_pos e1,e2,e3,GI];rfl
  obtain⟨_,e1,e2,e3⟩:=TK.same g
  rw[if_neg λe=>g (ZQ.1 e),e1,e2,e3];exact Co
 ·exact TK.aB.trans O.mo
 ·show M.v.fI-(M.it p).sz=_
  rw[O.bt,np _ wS,aao,aaC]
  show _=(V.all.map λp=>(M.it p).sz).sum
  omega
 ·show M.m.un.length=D.ae.length
  rw[sO];exact O.un
 ·intro h
  have:=O.on h
  obtain⟨e1,e2,e3⟩:=iD M.m.pg
  show M.m.pg<D.n∧(D.pg M.m.pg).own=true∧(D.pg M.m.pg).lv=true∧(D.pg M.m.pg).cl=M.m.fr
  rw[e1,e2,e3,show D.n=B.C.n by rw[hA.g];rfl];exact this
 ·intro j h
  rw[show(D.pg j).lv=(B.C.pg j).lv from(iD j).2.1]at h
  exact O.go j h
 ·show M.v.c=D.cfg
  rw[hA.g];exact O.cf
 show V.n=M.n-1
 rw[TK.n,hn]
def Mo.bC (M:Mo)(p:Nat):Nat:=if 0<(M.it p).exp∧(M.it p).exp≤M.k.now then 2 else if(M.it p).tok≤M.k.cut then 3 else 0
theorem bF.aaM{B:Bx}{M:Mo}(O:bF B M){p:Nat}(hp:p∈B.W.all):GN B.C.A M.k p=M.bC p:=by
 obtain⟨f1,f2,f3,f4,f5,f6,f7⟩:=O.iw hp
 unfold GN Mo.bC
 rw[f1,f3]
theorem lZ:∀(A R:List aa),iI (A++R) A R
 | [],_=> .nil
 |_::A,R=> .cons .here (lZ A R)
theorem xq (z:Ly)(M:Mo)(p:Nat)(hp:M.has p):aF aaa 40 [.pointer (some ⟨z.s,0,none⟩), .int .u64 (M.C.hd p:Int)] (λ_=>True) [SH z M]
  (λv H=>v= .bool (decide (M.bC p≠0))∧H= [SH z M]):=
 eF λB O=>by
  have dT:=(O.al p).2 hp
  have h:=(NR z.s z.y (gd M.v) B.C O.k M.k p (O.ito dT)).fr (H:=fk z B M++ []) (R:=fk z B M) (lZ [] _) (λk aq=>⟨aq.nth 8 rfl,aq.nth 0 rfl,aq.nth 9 rfl⟩)
  rw[O.hd,O.aaM dT]at h
  refine h.out ?_
  rintro v H' ⟨H0,⟨rfl,rfl⟩,rfl⟩
  exact⟨[SH z M],⟨rfl,rfl⟩,λk s=>aK O (H:= []) k s⟩
theorem D1 (z:Ly)(M:Mo)(p:Nat)(hp:M.has p):aF aaa 87 [.pointer (some ⟨z.s,0,none⟩), .int .u64 (M.C.hd p:Int)] (λ_=>True) [SH z M]
  (λv H=>v= .int .i64 (M.bC p:Int)∧H= [SH z M]):=
 eF λB O=>by
  have dT:=(O.al p).2 hp
  have h:=(xv z.s z.y (gd M.v) B.C O.k M.k p (O.ito dT)).fr (H:=fk z B M++ []) (R:=fk z B M) (lZ [] _) (λk aq=>⟨aq.nth 8 rfl,aq.nth 0 rfl,aq.nth 9 rfl⟩)
  rw[O.hd,O.aaM dT]at h
  refine h.out ?_
  rintro v H' ⟨H0,⟨rfl,rfl⟩,rfl⟩
  exact⟨[SH z M],⟨rfl,rfl⟩,λk s=>aK O (H:= []) k s⟩
theorem NN (z:Ly)(M:Mo)(p:Nat)(hp:M.has p):aF aaa 110 [.pointer (some ⟨z.s,0,none⟩), .int .u64 (M.C.hd p:Int)] (λ_=>True) [SH z M]
  (λv H=>v= .tuple #[]∧H= [SH z (M.jz p)]):=
 eF λB O=>by
  have dT:=(O.al p).2 hp
  obtain⟨i,hi⟩:=hp
  have iU:=O.o.st i p hi
  have hm:=O.mq i p hi
  have x0:=O.ck.n2
  have h:=(R6 z.s z.hot z.warm z.y (gd M.v) B.C O.k M.k O.ck p (O.ito dT) hm ⟨iU.1,iU.2.1⟩).fr (H:=fk z B M++ []) (R:=(fk z B M).tail) (.cons .here .nil) (λk aq=>⟨aq.nth 7 rfl,aq.nth 9 rfl,aq.nth 8 rfl⟩)
  rw[O.hd]at h
  refine h.out ?_
  rintro v H' ⟨H0,⟨rfl,rfl⟩,rfl⟩
  refine⟨[SH z (M.jz p)],⟨rfl,rfl⟩, ?_⟩
  obtain⟨m1,m2⟩:=O.z6 dT
  have h1:=jP hm true
  have L:=O.qP dT
  have tY:cM (sN B.C.A p true) p=mkSet (cM B.C.A p) true:=by rw[ER O.k B.C.A L L,if_pos rfl];omega
  have O1:=O.w46 dT (mkSet (cM B.C.A p) true) h1
  have O2:=O1.w46 (p:=p) dT (mkSet (cM B.C.A p) true % 8+8) (by omega)
  have O3:=O2.w24 (p:=p) dT M.k.now (by omega)
  have e:Wd B.C.A p M.k.now=wr (wr (wr B.C.A (p+46) 1 (mkSet (cM B.C.A p) true)) (p+46) 1 (mkSet (cM B.C.A p) true % 8+8)) (p+24) 8 M.k.now:=rfl
  rw[e]
  have e2:M.jz p=((M.put p {M.it p with cQ:=mkSet (cM B.C.A p) true}).put p {(M.put p {M.it p with cQ:=mkSet (cM B.C.A p) true}).it p with cQ:=mkSet (cM B.C.A p) true % 8+8}).put p {((M.put p {M.it p with cQ:=mkSet (cM B.C.A p) true}).put p {(M.put p {M.it p with cQ:=mkSet (cM B.C.A p) true}).it p with cQ:=mkSet (cM B.C.A p) true % 8+8}).it p with tch:=M.k.now}:=by
   rw[m1]
   unfold Mo.jz Mo.put
   congr 1
   funext q
   dsimp only
   by_cases h:q=p
   ·simp[h]
   simp[h]
  rw[e2]
  exact λk s=>aK O3 (H:= []) k s
theorem D4 (z:Ly)(M:Mo)(p c:Nat)(hc:c<4)(hp:M.has p):aF aaa 116 [.pointer (some ⟨z.s,0,none⟩), .int .u64 (M.C.hd p:Int), .int .i64 ((c*2:Nat):Int)] (λ_=>True) [SH z M]
  (λv H=>v= .tuple #[]∧H= [SH z (M.marks p c)]):=
 eF λB O=>by
  have dT:=(O.al p).2 hp
  obtain⟨i,hi⟩:=hp
  have hm:=O.mq i p hi
  obtain⟨m1,m2⟩:=O.z6 dT
  have h:=(Hw z.s z.y (gd M.v) B.C O.k p c hc (O.ito dT) hm).fr (H:=fk z B M++ []) (R:=(fk z B M).tail) (.cons .here .nil) (λk aq=>aq.nth 7 rfl)
  rw[O.hd]at h
  refine h.out ?_
  rintro v H' ⟨H0,⟨rfl,rfl⟩,rfl⟩
  refine⟨[SH z (M.marks p c)],⟨rfl,rfl⟩, ?_⟩
  have O1:=O.w46 dT (cM B.C.A p-cM B.C.A p/2 % 4*2+c*2) (by omega)
  rw[show M.marks p c=M.put p {M.it p with cQ:=cM B.C.A p-cM B.C.A p/2 % 4*2+c*2} by rw[m1];rfl]
  exact λk s=>aK O1 (H:= []) k s
theorem DZ (z:Ly)(M:Mo)(p:Nat)(hp:M.has p)(t:Int)(ht:t<9223372036854775808)(rZ:M.tn<18446744073709551615):aF aaa 109 [.pointer (some ⟨z.s,0,none⟩), .int .u64 (M.C.hd p:Int), .int .i64 t] (λ_=>True) [SH z M]
  (λv H=>v= .tuple #[]∧H= [SH z (M.time p (eU M.k.now t))]):=
 eF λB O=>by
  have dT:=(O.al p).2 hp
  have hE:B.E.length<2147483647:=by
   rw[O.e.length_eq]
   unfold hU
   rw[aax]
   have h1:=ae1 (λp=>decide (0<(M.it p).exp)) B.W.all
   have h2:=x9 O.k O.t
   rw[O.t.n]at h2
   omega
  have h:=(Hv z.s z.y (gd M.v) B.C O.k M.k O.ck p (O.ito dT) B.E M.tn t ht rZ hE).fr (H:=fk z B M++ []) (R:= [ag z.y.t 145 (eT z.y.b B.W B.ty),ag B.ty.nk 163 (aC (au B.W.nb)),jd B.ty.ok 163 (aC (au B.W.ob)),ag z.y.q 139 (fj z.y.b z.qb B.C.ae.length),ag z.qb 327 (M.Q.flatMap (dR B.C)),gu z.y.cr z.y.q z.y.wh B.C.ae.length (bo z.s) (bn z.s) B.C M.x,gr z.s z.y (gd M.v),
   ki z.y.ck M.k,iW z.y.lu z.y.b z.y.q z.hot z.warm,mG z.y.mo z.y.b z.ub (bo z.s) (bn z.s) (bT z.s) M.m,mN z.ub M.m,kF M]) (.cons .here (.cons (.there (.there (.there (.there (.there (.there .here)))))) .nil)) (λk aq=>⟨aq.nth 6 rfl,aq.nth 7 rfl⟩)
  rw[O.hd]at h
  refine h.out ?_
  rintro v H' ⟨H0,⟨rfl,rfl⟩,rfl⟩
  refine⟨[SH z (M.time p (eU M.k.now t))],⟨rfl,rfl⟩, ?_⟩
  have O1:=O.w16 dT (eU M.k.now t) (zi M.k.now t O.ck.n2 ht)
  refine λk s=>aK O1 (H:= []) k ?_
  rw[←O.hd]at s
  revert s
  revert k
  show∀k,ai ([Wl z.y.wh (jB B.E (B.C.hd p) (eU M.k.now t) M.tn) (if 0<eU M.k.now t then M.tn+1 else M.tn),Cl z.y.b (B.C.wA (wr B.C.A (p+16) 8 (eU M.k.now t)))]++_) k→ai ([Cl z.y.b (B.C.wA (wr B.C.A (p+16) 8 (eU M.k.now t))),ag z.y.t 145 (eT z.y.b B.W B.ty),ag B.ty.nk 163 (aC (au B.W.nb)),jd B.ty.ok 163 (aC (au B.W.ob)),ag z.y.q 139 (fj z.y.b z.qb B.C.ae.length),ag z.qb 327 (M.Q.flatMap (dR B.C)),gu z.y.cr z.y.q z.y.wh B.C.ae.length (bo z.s) (bn z.s) B.C M.x,Wl z.y.wh (jB B.E (B.C.hd p) (eU M.k.now t) M.tn) (if 0<eU M.k.now t then M.tn+1 else M.tn),gr z.s z.y (gd M.v),
   ki z.y.ck M.k,iW z.y.lu z.y.b z.y.q z.hot z.warm,mG z.y.mo z.y.b z.ub (bo z.s) (bn z.s) (bT z.s) M.m,mN z.ub M.m,kF M]) k
  simp only[s8,cap]
  exact Eh
theorem bF.btb{B:Bx}{M:Mo}(O:bF B M):M.v.fI<4611686018427387904:=by
 rw[O.bt]
 have h2:=x9 O.k O.t
 rw[O.t.n]at h2
 have:∀l:List Nat,(∀p∈l,p∈B.W.all)→(l.map λp=>(M.it p).sz).sum≤l.length*1048576:=λl=>by
  induction l with
  |nil=>intro _;simp
  |cons p l ih=>
   intro h
   have hp:=h p aai
   have h1:=O.szp hp
   have h3:=(O.t.it p hp).fits
   have h4:=((O.mH hp).aX O.k).2.2.1
   have h5:=O.k.toFix.p1
   have:=ih λq hq=>h q (aag _ hq)
   rw[aao,aaC,adm]
   omega
 have:=this _ λp h=>h
 have h3:B.W.all.length*1048576≤1073741824*1048576:=aaD _ h2
 omega
theorem xr (z:Ly)(M:Mo)(p:Nat)(hp:M.has p):aF aaa 66 [.pointer (some ⟨z.s,0,none⟩), .int .u64 (M.C.hd p:Int)] (λ_=>True) [SH z M]
  (λv H=>v= .tuple #[]∧H= [SH z (M.bM p)]):=
 eF λB O=>by
  have dT:=(O.al p).2 hp
  obtain⟨i,hi⟩:=hp
  obtain⟨k,hk⟩:=aez hi
  have sO:=O.szp dT
  have CI:kl B.C.A p≤250:=by
   have h1:=(fQ (O.lg p dT)).2
   rw[←O.it p dT]at h1
   rw[←show(aE B.C.A p).length=kl B.C.A p from cK _ _ _]
   exact h1
  have hb:58+kl B.C.A p+vl B.C.A p≤M.v.fI:=by
   rw[sO,O.bt]
   exact tj (λp=>(M.it p).sz) dT
  have h:=(NS z.s z.qb z.hot z.warm (bo z.s) (bn z.s) z.y M.v B.C O.k B.W B.ty O.t O.ty M.Q O.o M.x O.x B.E M.tn i k p dT hk CI hb O.btb).fr (H:=fk z B M++ []) (R:= [ki z.y.ck M.k,iW z.y.lu z.y.b z.y.q z.hot z.warm,mG z.y.mo z.y.b z.ub (bo z.s) (bn z.s) (bT z.s) M.m,mN z.ub M.m,kF M]) (lZ (Cl z.y.b B.C::kR z.y.t z.y.b B.W B.ty++ [ag z.y.q 139 (fj z.y.b z.qb B.C.ae.length),ag z.qb 327 (M.Q.flatMap (dR B.C)),gu z.y.cr z.y.q z.y.wh B.C.ae.length (bo z.s) (bn z.s) B.C M.x,Wl z.y.wh B.E M.tn,gr z.s z.y (gd M.v)]) _) (λk aq=>aq.nth 1 rfl)
  rw[O.hd]at h
  refine h.out ?_
  rintro v H' ⟨H0,⟨rfl,D,V,ty,rfl,hy,wS,hA,A,TK⟩,rfl⟩
  refine⟨[SH z (M.bM p)],⟨rfl,rfl⟩, ?_⟩
  have O1:=O.bM dT hk hy wS hA TK
  have e1:B.C.ae.length=D.ae.length:=by rw[hA.g];rfl
  rw[yW O.o hk,sO,←O.hd,e1]
  exact λk s=>aK O1 (H:= []) k s
theorem tL:∀{Q:List (List Nat)},(∀i,(ql Q i).Nodup)→(∀i j p,p∈ql Q i→p∈ql Q j→i=j)→Q.flatten.Nodup
 | [],_,_=>by simp
 |l::Q,h,g=>by
  have ih:=tL (Q:=Q) (λi=>h (i+1)) (λi j p h1 h2=>by have:=g (i+1) (j+1) p h1 h2;omega)
  rw[List.flatten_cons,List.nodup_append]
  refine⟨h 0,ih,λa ha b hb e=> ?_⟩
  subst e
  obtain⟨m,hm,ham⟩:=aes.1 hb
  obtain⟨i,hi,rfl⟩:=aaz hm
  have:=g 0 (i+1) a ha (by show a∈ql Q i;unfold ql;rw[aab,aac hi];exact ham)
  omega
theorem fh{Q:List (List Nat)}{p:Nat}:p∈Q.flatten↔∃i,p∈ql Q i:=by
 rw[aes]
 constructor
 ·rintro⟨l,hl,hp⟩
  obtain⟨i,hi,rfl⟩:=aaz hl
  exact⟨i,by unfold ql;rw[aab,aac hi];exact hp⟩
 rintro⟨i,hp⟩
 unfold ql at hp
 rw[aab]at hp
 cases h:Q[i]? with
 |none=>rw[h]at hp;cases hp
 |some l=>rw[h]at hp;exact⟨l,aaf h,hp⟩
theorem bF.perm{B:Bx}{M:Mo}(O:bF B M):B.W.all.Perm M.Q.flatten:=
 (List.perm_ext_iff_of_nodup O.t.nd (tL O.o.nd λi j p h g=>EP O.o h g)).2 λp=>(O.al p).trans fh.symm
def pU (h:Nat):Nat:=(h % 4294967296-1)*8
theorem XF{B:Bx}{M:Mo}(O:bF B M){p:Nat}(hp:p∈B.W.all):pU (M.C.hd p)=p:=by
 obtain⟨m1,m2,m3,m4,m5,m6⟩:=bK O.k (O.mH hp)
 rw[O.hd]at m1
 unfold pU
 omega
noncomputable def Mo.iY (M:Mo)(now aB:Int):List Nat:=(mR (hU M.C M M.Q.flatten) now aB).map pU
theorem Y8{B:Bx}{M:Mo}(O:bF B M)(l:List Nat):hU B.C M l=hU M.C M l:=fq λq _=>⟨rfl,rfl,O.hd q⟩
theorem LF{f:Nat→Nat}:∀{l:List Nat},(l.map f).Nodup→l.Nodup
 | [],_=>aec
 |a::l,h=>by
  rw[aao,aar]at h
  exact aar.2 ⟨λg=>h.1 (adi.2 ⟨a,g,rfl⟩),LF h.2⟩
theorem T0{M:Mo}{now aB:Int}{h:Nat}(hh:h∈mR (hU M.C M M.Q.flatten) now aB):∃p,M.has p∧h=M.C.hd p:=by
 unfold mR at hh
 obtain⟨x,hx,rfl⟩:=adi.1 hh
 have h1:=(fH _).mem_iff.1 (ae8 hx)
 have h2:=(acA.1 h1).1
 unfold hU at h2
 obtain⟨p,hp,rfl⟩:=adi.1 h2
 exact⟨p,fh.1 (acA.1 hp).1,rfl⟩
theorem acV (C:Cs)(M:Mo)(l:List Nat):(hU C M l).map En.h=(l.filter λp=>decide (0<(M.it p).exp)).map C.hd:=by
 unfold hU
 rw[List.map_map]
 exact adT λp _=>rfl
theorem Va{B:Bx}{M:Mo}(O:bF B M):∀{l:List Nat},l.Nodup→(∀p∈l,M.has p)→(l.map M.C.hd).Nodup
 | [],_,_=>aec
 |p::l,h,g=>by
  rw[aao,aar]
  refine⟨λhc=> ?_,Va O (aar.1 h).2 λq hq=>g q (aag _ hq)⟩
  obtain⟨q,hq,e⟩:=adi.1 hc
  rw[←O.hd,←O.hd]at e
  have:=lW O.k (O.mH ((O.al q).2 (g q (aag _ hq)))) (O.mH ((O.al p).2 (g p aai))) e
  exact(aar.1 h).1 (this▸hq)
theorem Zf{B:Bx}{M:Mo}(O:bF B M)(now aB:Int):(mR (hU M.C M M.Q.flatten) now aB).Nodup:=by
 have n1:((hU M.C M M.Q.flatten).map En.h).Nodup:=by
  rw[acV]
  exact Va O ((tL O.o.nd λi j p h g=>EP O.o h g).sublist adx) λp hp=>fh.1 (acA.1 hp).1
 unfold mR
 generalize hU M.C M M.Q.flatten=E at*
 have n2:((E.filter λx=>decide ((x.ex:Int)≤now)).map En.h).Nodup:=n1.sublist (adx.map _)
 have n3:=((fH (E.filter λx=>decide ((x.ex:Int)≤now))).map En.h).nodup_iff.2 n2
 exact n3.sublist ((List.take_sublist _ _).map _)
theorem MK{B:Bx}{M:Mo}(O:bF B M):∀{l:List Nat},(∀h∈l,∃p,M.has p∧h=M.C.hd p)→(l.map pU).map M.C.hd=l∧∀p∈l.map pU,M.has p
 | [],_=>⟨rfl,λp h=>by cases h⟩
 |h::l,g=>by
  obtain⟨p,hp,e⟩:=g h aai
  obtain⟨i1,i2⟩:=MK O (l:=l) λx hx=>g x (aag _ hx)
  have e1:pU h=p:=by rw[e,XF O ((O.al p).2 hp)]
  rw[aao,aao,e1,i1,e]
  refine⟨rfl,λq hq=> ?_⟩
  rcases aau.1 hq with rfl|hq
  ·exact hp
  exact i2 q hq
theorem Ze{B:Bx}{M:Mo}(O:bF B M)(td:(B.E.map En.tu).Nodup)(now aB:Int):mR B.E now aB=mR (hU M.C M M.Q.flatten) now aB:=by
 have pe:B.E.Perm (hU M.C M M.Q.flatten):=by rw[←Y8 O];exact O.e.trans (jR O.perm)
 generalize hU M.C M M.Q.flatten=E at*
 unfold mR
 rw[vR (pe.filter _)]
 exact((pe.map En.tu).nodup_iff.1 td).sublist (adx.map _)
theorem bF.due{B:Bx}{M:Mo}(O:bF B M)(td:(B.E.map En.tu).Nodup)(now aB:Int):mR B.E now aB=(M.iY now aB).map M.C.hd∧(∀p∈M.iY now aB,M.has p)∧(M.iY now aB).Nodup:=by
 obtain⟨e1,e2⟩:=MK O (l:=mR (hU M.C M M.Q.flatten) now aB) λh hh=>T0 hh
 have nh:=Zf O now aB
 have e3:=Ze O td now aB
 unfold Mo.iY
 generalize mR (hU M.C M M.Q.flatten) now aB=L at*
 refine⟨e3.trans e1.symm,e2, ?_⟩
 rw[←e1]at nh
 exact LF nh
theorem NO (sL:mX)(z:Ly)(M:Mo)(now aB:Int):aF aaa 89 [.pointer (some ⟨z.y.wh,0,none⟩), .int .i64 now, .int .i64 aB] (λ_=>True) [SH z M]
  (λv H=>∃a c,v= .slice a (M.iY now aB).length c∧(∀p∈M.iY now aB,M.has p)∧(M.iY now aB).Nodup∧H= [own a c 117 1 (zH ((M.iY now aB).map M.C.hd)),SH z M]):=
 eF λB O=>λF w _ s=>by
  obtain⟨k,hk,_⟩:=(s.sub λk x=>(eX.out (.there (.there (.there (.there (.there (.there (.there .here))))))) k x)).get
  obtain⟨y,N,p,W,_⟩:=Ws ⟨k,hk,Le.refl _⟩
  have td:(B.E.map En.tu).Nodup:=(p.map En.tu).nodup_iff.1 W.td
  obtain⟨e1,e2,e3⟩:=O.due td now aB
  have h:=((Un sL z.y.wh B.E M.tn now aB).fr (H:=fk z B M++ []) (R:=fk z B M) (lZ [] _) (λk aq=>aq.nth 7 rfl)) F w trivial s
  refine h.mono ?_
  rintro e w' ⟨v,H',he,⟨H0,⟨a,c,rfl,rfl⟩,rfl⟩,st⟩
  refine⟨_,_,he,⟨a,c,by rw[e1,aax],e2,e3,rfl⟩, ?_⟩
  rw[←e1]
  exact st.sub λk x=>aH (λk x=>aK O (H:= []) k (by rw[adR];exact x)) x
theorem bF.cw{B:Bx}{M:Mo}(O:bF B M){y:Cw}(X:cn B.C.ae.length M.Q y):bF B {M with x:=y}:=
 ⟨O.c,O.k,O.t,O.ty,O.o,X,O.mq,O.ck,O.al,O.lv,O.ho,O.it,O.e,O.st,O.nb,O.mg,O.mo,O.bt,O.un,O.on,O.go,O.wn,O.cf,O.n,O.lg⟩
def Mo.ia (M:Mo):Nat:=M.C.ae.length
theorem bF.ia{B:Bx}{M:Mo}(O:bF B M):B.C.ae.length=M.ia:=by rw[O.c];rfl
theorem Hu (z:Ly)(M:Mo):aF aaa 91 [.pointer (some ⟨z.y.cr,0,none⟩)] (λ_=>True) [SH z M]
  (λv H=>∃r x,v= .bool r∧M.x.find M.ia M.Q=(r,x)∧H= [SH z {M with x:=x}]∧(r=true→∃p,x.nx=some p∧M.has p)):=
 eF λB O=>by
  have h:=(P5 z.y.cr z.y.q z.y.wh z.y.b z.qb (bo z.s) (bn z.s) B.C O.k M.Q O.o M.x O.x).fr (H:=fk z B M++ []) (R:= [Cl z.y.b B.C,ag z.y.t 145 (eT z.y.b B.W B.ty),ag B.ty.nk 163 (aC (au B.W.nb)),jd B.ty.ok 163 (aC (au B.W.ob)),ag z.y.q 139 (fj z.y.b z.qb B.C.ae.length),ag z.qb 327 (M.Q.flatMap (dR B.C)),Wl z.y.wh B.E M.tn,gr z.s z.y (gd M.v),
   ki z.y.ck M.k,iW z.y.lu z.y.b z.y.q z.hot z.warm,mG z.y.mo z.y.b z.ub (bo z.s) (bn z.s) (bT z.s) M.m,mN z.ub M.m,kF M]) (.cons (.there (.there (.there (.there (.there (.there .here)))))) .nil) (λk aq=>⟨aq.nth 4 rfl,aq.nth 5 rfl,trivial⟩)
  refine h.out ?_
  rintro v H' ⟨H0,⟨r,x,rfl,rfl,e,X,hr⟩,rfl⟩
  rw[O.ia]at e
  refine⟨_,⟨r,x,rfl,e,rfl,λh=> ?_⟩, ?_⟩
  ·cases hx:x.nx with
   |none=>exact absurd hx (hr h)
   |some p=>exact⟨p,rfl,_,(X.nx p hx).1⟩
  refine λk s=>aK (O.cw X) (H:= []) k ?_
  revert s
  revert k
  simp only[s8,cap,adR]
  unfold fk
  exact Eh
theorem Ht (z:Ly)(M:Mo)(p:Nat)(hp:M.x.nx=some p):aF aaa 92 [.pointer (some ⟨z.y.cr,0,none⟩)] (λ_=>True) [SH z M]
  (λv H=>v= .int .u64 (M.C.hd p:Int)∧H= [SH z {M with x:=M.x.pass M.Q}]):=
 eF λB O=>by
  have h:=(Bu z.y.cr z.y.q z.y.wh B.C.ae.length z.y.b z.qb (bo z.s) (bn z.s) B.C O.k M.Q O.o M.x O.x p hp).fr (H:=fk z B M++ []) (R:= [Cl z.y.b B.C,ag z.y.t 145 (eT z.y.b B.W B.ty),ag B.ty.nk 163 (aC (au B.W.nb)),jd B.ty.ok 163 (aC (au B.W.ob)),ag z.y.q 139 (fj z.y.b z.qb B.C.ae.length),ag z.qb 327 (M.Q.flatMap (dR B.C)),Wl z.y.wh B.E M.tn,gr z.s z.y (gd M.v),
   ki z.y.ck M.k,iW z.y.lu z.y.b z.y.q z.hot z.warm,mG z.y.mo z.y.b z.ub (bo z.s) (bn z.s) (bT z.s) M.m,mN z.ub M.m,kF M]) (.cons (.there (.there (.there (.there (.there (.there .here)))))) .nil) (λk aq=>⟨aq.nth 0 rfl,aq.nth 4 rfl,aq.nth 5 rfl,trivial⟩)
  rw[O.hd]at h
  refine h.out ?_
  rintro v H' ⟨H0,⟨rfl,rfl⟩,rfl⟩
  refine⟨_,⟨rfl,rfl⟩,λk s=>aK (O.cw O.x.pass) (H:= []) k ?_⟩
  revert s
  revert k
  simp only[s8,cap,adR]
  unfold fk
  exact Eh
theorem fe{n:Nat}{ds:List Deferred}{F:dy}{K:Act→World→Prop}{σ:aR}{z:Ly}{M:Mo}{H:List aa}(h:∀B,bF B M→G n ds F K σ (fk z B M++H)):G n ds F K σ (SH z M::H):=
 abc λB=>Ya λO=>tK (h B O)
theorem EW{n:Nat}{ds:List Deferred}{F:dy}{K:Act→World→Prop}{σ:aR}{z:Ly}{B:Bx}{M:Mo}{H:List aa}(O:bF B M)(h:G n ds F K σ (SH z M::H)):G n ds F K σ (fk z B M++H):=
 az (aK O) h
def Mo.look (M:Mo)(p:Nat):Mo:=if M.bC p≠0 then M.bM p else M
theorem AU (b6 lb l:Nat)(hl:l<4611686018427387904):FnD aaa 144 [.pointer (some ⟨b6,0,none⟩)] (λ_=>True) [ag b6 180 [.pointer (some ⟨lb,0,none⟩)],ag lb 3 [.int .i64 (l:Int)]]
  (λv H=>v= .tuple #[]∧H= [ag lb 3 [.int .i64 ((l+1:Nat):Int)]]):=by
 refine HY T.YM func144 rfl ntmps144 rfl ?_
 intro F _
 refine bL ?_
 refine aG ?_
 refine jA [ag lb 3 [.int .i64 ((l+1:Nat):Int)]] results144 ?_
 exact⟨rfl,rfl⟩
theorem FQ (z:Ly)(M:Mo)(p:Nat)(hp:M.has p)(lb tb l t:Nat)(hl:l<4611686018427387904)(ht:t<4611686018427387904):
  aF aaa 90 [.pointer (some ⟨z.y.cr,0,none⟩), .int .u64 (M.C.hd p:Int), .pointer (some ⟨lb,0,none⟩), .pointer (some ⟨tb,0,none⟩)] (λ_=>True) [SH z M,ag lb 3 [.int .i64 (l:Int)],ag tb 3 [.int .i64 (t:Int)]]
   (λv H=>v= .tuple #[]∧∃t':Nat,t'≤t+1∧H= [SH z (M.look p),ag lb 3 [.int .i64 ((l+1:Nat):Int)],ag tb 3 [.int .i64 (t':Int)]]):=by
 have dead:=xq z M p hp
 have bM:=xr z M p hp
 refine ON func90 rfl ntmps90 rfl ?_
 intro F _
 refine aA ?_
 refine Lp (oB λb1=> ?_)
 refine bf ?_
 refine Li Mf ?_
 refine Lp (oDv ?_)
 refine aA ?_
 refine Hh (H':= [SH z M,ag b1 180 [.pointer (some ⟨lb,0,none⟩)],ag lb 3 [.int .i64 (l:Int)],ag tb 3 [.int .i64 (t:Int)]]) ?_
 refine fe λB O=> ?_
 unfold fk gu ue
 simp only[s8,cap]
 refine br ?_
 refine EW (z:=z) (B:=B) (M:=M) (H:= [ag b1 180 [.pointer (some ⟨lb,0,none⟩)],ag lb 3 [.int .i64 (l:Int)],ag tb 3 [.int .i64 (t:Int)]]) O ?_
 refine aA ?_
 refine Lp (oCV T.Vt rfl rfl rfl dead (.cons .here .nil) (λ_ le _=>trivial) λv H' hr=> ?_)
 obtain⟨rfl,rfl⟩:=hr
 simp only[s8,cap]
 refine aA ?_
 refine ax rfl ?_ ?_
 ·intro oP
  replace oP:=aL oP
  have VX:M.look p=M.bM p:=by unfold Mo.look;rw[if_pos (by simpa using oP)]
  refine fe λB O=> ?_
  unfold fk gu ue
  simp only[s8,cap]
  refine br ?_
  refine EW (z:=z) (B:=B) (M:=M) (H:= [ag b1 180 [.pointer (some ⟨lb,0,none⟩)],ag lb 3 [.int .i64 (l:Int)],ag tb 3 [.int .i64 (t:Int)]]) O ?_
  refine aA ?_
  refine Lp (oCV T.EY rfl rfl rfl bM (.cons .here .nil) (λ_ le _=>trivial) λv H' hr=> ?_)
  obtain⟨rfl,rfl⟩:=hr
  simp only[s8,cap]
  refine dh ?_
  refine aG ?_
  refine abi [SH z (M.look p),ag lb 3 [.int .i64 ((l+1:Nat):Int)],ag tb 3 [.int .i64 ((t+1:Nat):Int)]] results90 (AU b1 lb l hl) (.cons (.there .here) (.cons (.there .here) .nil)) (λ_ _ _=>trivial) ?_
  rintro v H' ⟨rfl,rfl⟩
  refine⟨⟨rfl,t+1,aan _,rfl⟩, ?_⟩
  rw[VX]
  exact Eh
 intro oP
 replace oP:=aL oP
 have VX:M.look p=M:=by unfold Mo.look;rw[if_neg (by simpa using oP)]
 refine aA ?_
 refine abi [SH z (M.look p),ag lb 3 [.int .i64 ((l+1:Nat):Int)],ag tb 3 [.int .i64 (t:Int)]] results90 (AU b1 lb l hl) (.cons (.there .here) (.cons (.there .here) .nil)) (λ_ _ _=>trivial) ?_
 rintro v H' ⟨rfl,rfl⟩
 refine⟨⟨rfl,t,by omega,rfl⟩, ?_⟩
 rw[VX]
 exact Eh
theorem KP{n:Nat}{ds:List Deferred}{F:dy}{K:Act→World→Prop}{σ:aR}{z:Ly}{M:Mo}{H:List aa}(h:∀B,bF B M→G n ds F K σ (SH z M::H)):G n ds F K σ (SH z M::H):=
 fe λB O=>EW O (h B O)
theorem JM{B:Bx}{M:Mo}(O:bF B M){p q:Nat}(hp:M.has p)(hq:M.has q)(ne:q≠p):(M.bM p).has q∧(M.bM p).C.hd q=M.C.hd q:=by
 obtain⟨i,hi⟩:=hq
 refine⟨⟨i, ?_⟩, ?_⟩
 ·show q∈ql (gn M.Q p) i
  rw[gU]
  exact(aen ne).2 hi
 have h:=((lr O.k (O.qP ((O.al p).2 hp))).lv q ne (O.qP ((O.al q).2 ⟨i,hi⟩))).2.1
 rw[O.hd]at h
 rw[←h]
 show(M.C.bb p).hd q=(B.C.bb p).hd q
 rw[O.c];rfl
theorem HO{B:Bx}{M:Mo}(O:bF B M){p q:Nat}(hp:M.has p)(hq:M.has q)(ne:q≠p):(M.look p).has q∧(M.look p).C.hd q=M.C.hd q:=by
 unfold Mo.look
 split
 ·exact JM O hp hq ne
 exact⟨hq,rfl⟩
def Mo.bH:Nat→Mo→Nat×Mo
 |0,M=>(0,M)
 |f+1,M=>match M.x.find M.ia M.Q with
  |(true,x)=>(match x.nx with
   |some p=>(((({M with x:=x.pass M.Q}:Mo).look p).bH f).1+1,((({M with x:=x.pass M.Q}:Mo).look p).bH f).2)
   |none=>(0,{M with x:=x}))
  |(false,x)=>(0,{M with x:=x})
theorem nX{M:Mo}{f:Nat}{x:Cw}(h:M.x.find M.ia M.Q=(false,x)):M.bH (f+1)=(0,{M with x:=x}):=by
 unfold Mo.bH
 rw[h]
theorem nW{M:Mo}{f p:Nat}{x:Cw}(h:M.x.find M.ia M.Q=(true,x))(hp:x.nx=some p):M.bH (f+1)=(((({M with x:=x.pass M.Q}:Mo).look p).bH f).1+1,((({M with x:=x.pass M.Q}:Mo).look p).bH f).2):=by
 conv=>lhs;unfold Mo.bH
 rw[h]
 dsimp only
 rw[hp]
noncomputable def Mo.o9 (M:Mo)(now m:Int):Nat×Mo:=((M.iY now m).length+(((M.iY now m).foldl Mo.look M).bH (m.toNat-(M.iY now m).length)).1,(((M.iY now m).foldl Mo.look M).bH (m.toNat-(M.iY now m).length)).2)
noncomputable def Mo.bX (M:Mo)(now aB:Int):Nat×Mo:=if min aB 1048576<1 then(0,M)else M.o9 now (min aB 1048576)
theorem PS (M:Mo)(now m:Int):(M.iY now m).length≤m.toNat:=by
 unfold Mo.iY mR
 rw[aax,aax,List.length_take]
 omega
theorem X6 (l:List Nat)(k:Nat)(h:k<l.length):(zH l)[k]?=some (.int .u64 (l[k]:Int)):=by
 unfold zH
 rw[aap,aac h];rfl
theorem TH (l:List Nat):(zH l).length=l.length:=aax _
theorem Bt (sL:mX)(z:Ly)(M:Mo)(now aB:Int):
  aF aaa 45 [.pointer (some ⟨z.y.cr,0,none⟩), .int .i64 now, .int .i64 aB] (λ_=>True) [SH z M]
   (λv H=>∃n t M',M.bX now aB=(n,M')∧v= .tuple #[.int .i64 (n:Int), .int .i64 (t:Int)]∧H= [SH z M']):=by
 have due:=NO sL z M now (min aB 1048576)
 have JV:=PS M now (min aB 1048576)
 have EH:M.bX now aB=if min aB 1048576<1 then(0,M)else M.o9 now (min aB 1048576):=rfl
 have hmle:min aB 1048576≤1048576:=afx _ _
 refine af func45 rfl ntmps45 rfl ?_
 intro F _
 refine aA ?_
 refine Lp (oA T.aaK λb1=> ?_)
 refine Lp (oA T.aaK λb2=> ?_)
 refine bq ?_
 refine Li Mi ?_
 refine bf ?_
 refine aw ?_
 refine ay (t:=2) (v':=(.int .i64 (min aB 1048576))) rfl (by rfl) ?_
 generalize min aB 1048576=m at*
 refine aW ?_
 by_cases h1:m<1
 ·refine fB ?_ (e:=by exact decide_eq_true h1)
  refine bD ?_
  refine Wt [SH z M] T.dD T.dD results45 ?_
  exact⟨0,0,M,by rw[EH,if_pos h1],rfl,rfl⟩
 rw[if_neg h1]at EH
 refine dm ?_ (e:=by exact decide_eq_false h1)
 refine bf ?_
 refine aw ?_
 refine Hh (H':= [SH z M,ag b1 3 [.int .i64 0],ag b2 3 [.int .i64 0]]) ?_
 refine fe λB O=> ?_
 unfold fk gu ue
 simp only[s8,cap]
 refine br ?_
 refine EW (z:=z) (B:=B) (M:=M) (H:= [ag b1 3 [.int .i64 0],ag b2 3 [.int .i64 0]]) O ?_
 refine bf ?_
 refine Lp (oC T.acs rfl rfl (due) (.cons .here .nil) (λ_ _ _=>trivial) ?_)
 rintro v H' ⟨sa,sc,rfl,hhas,wT,rfl⟩
 refine bd ?_
 unfold Mo.o9 at EH
 generalize M.iY now m=D at*
 have s9:(zH (D.map M.C.hd)).length=D.length:=by rw[TH,aax]
 have Rn:m.toNat≤1048576:=by omega
 refine aW ?_
 refine Lo (ι:=Nat×Nat) [23,24,25,9,26,27,28,29,22] (λs=>(s.1≤D.length∧s.2≤s.1)∧∀q∈D.drop s.1,((D.take s.1).foldl Mo.look M).has q∧((D.take s.1).foldl Mo.look M).C.hd q=M.C.hd q) (λs=> [(22, .int .i64 (s.1:Int))]) (λs=> [SH z ((D.take s.1).foldl Mo.look M),own sa sc 117 1 (zH (D.map M.C.hd)),ag b1 3 [.int .i64 (s.1:Int)],ag b2 3 [.int .i64 (s.2:Int)]]) (λs=>D.length-s.1) ((0,0)) ⟨⟨Nat.zero_le _,aan _⟩,λq hq=>⟨hhas q hq,rfl⟩⟩ ?_
 rintro⟨k,t⟩ hI
 dsimp only at hI⊢
 obtain⟨⟨hk,Kb⟩,KJ⟩:=hI
 by_cases cB:k<D.length
 ·have B5:(zH (D.map M.C.hd))[k]?=some (.int .u64 (M.C.hd D[k]:Int)):=by rw[X6 _ _ (by rw[aax];exact cB),List.getElem_map]
  have hdr:D.drop k=D[k]::D.drop (k+1):=List.drop_eq_getElem_cons cB
  rw[hdr]at KJ
  obtain⟨Ut,dT⟩:=KJ _ aai
  have U8:(D.take (k+1)).foldl Mo.look M=((D.take k).foldl Mo.look M).look D[k]:=by
   rw[List.take_add_one,aac cB,List.foldl_append];rfl
  have hnd2:∀q∈D.drop (k+1),q≠D[k]:=λq hq e=>by
   have:=wT.sublist (List.drop_sublist k D)
   rw[hdr,aar]at this
   exact this.1 (e▸hq)
  have lk:=λlb tb=>FQ z ((D.take k).foldl Mo.look M) D[k] Ut lb tb k t (by omega) (by omega)
  rw[dT]at lk
  refine KP λB2 O2=> ?_
  refine kK (iN (.there .here) (λ_ o=>nu o (by omega))) λZU=> ?_
  refine bq ?_
  refine aw ?_
  refine fB ?_
  refine br ?_
  refine Li (Ix T.Lt) ?_
  refine bD ?_
  refine Lp (oC T.Vh rfl rfl (lk _ _) (.cons .here (.cons (.there .here) (.cons (.there .here) .nil))) (λ_ _ _=>trivial) ?_)
  rintro v H' ⟨rfl,t2,pJ,rfl⟩
  refine bd ?_
  refine Hh (H':= [SH z (((D.take k).foldl Mo.look M).look D[k]),own sa sc 117 1 (zH (D.map M.C.hd)),ag b1 3 [.int .i64 ((k+1:Nat):Int)],ag b2 3 [.int .i64 (t2:Int)]]) ?_
  refine bD ?_
  refine aG ?_
  rw[←U8]
  refine Ro ((k+1,t2)) (⟨⟨cB,(by dsimp only;omega)⟩,λq hq=>(by have ne:=hnd2 q hq;obtain⟨g1,g2⟩:=KJ q (aag _ hq);obtain⟨g3,g4⟩:=HO O2 Ut g1 ne;rw[U8];exact⟨g3,g4.trans g2⟩)⟩) ((by dsimp only;omega))
 obtain rfl:k=D.length:=by omega
 rw[List.take_length]
 refine bq ?_
 refine aw ?_
 refine dm ?_
 refine bL ?_
 generalize hN0:D.foldl Mo.look M=N0 at*
 refine Lo (ι:=Mo×Nat×Nat) [30,31,32,33,34,35,36,37,38,39,40] (λs=>(D.length≤s.2.1∧s.2.1≤m.toNat∧s.2.2≤s.2.1)∧N0.bH (m.toNat-D.length)=(s.2.1-D.length+(s.1.bH (m.toNat-s.2.1)).1,(s.1.bH (m.toNat-s.2.1)).2)) (λs=> []) (λs=> [SH z s.1,ag b1 3 [.int .i64 (s.2.1:Int)],ag b2 3 [.int .i64 (s.2.2:Int)]]) (λs=>m.toNat-s.2.1) ((N0,D.length,t)) ⟨⟨aan _,JV,Kb⟩,(by dsimp only;rw[Nat.sub_self,Nat.zero_add])⟩ ?_
 rintro⟨N,l,t⟩ hI
 dsimp only at hI⊢
 obtain⟨⟨i1,i2,i3⟩,i4⟩:=hI
 refine bD ?_
 by_cases hlm:(l:Int)<m
 ·obtain⟨f,hf⟩:∃f,m.toNat-l=f+1:=⟨m.toNat-l-1,by omega⟩
  rw[hf]at i4
  refine zt 33 ?_ (e:=by exact decide_eq_true hlm)
  refine aA ?_
  refine Lp (oC T.acr rfl rfl (Hu z N) (.cons .here .nil) (λ_ _ _=>trivial) ?_)
  rintro v H' ⟨r,x,rfl,U9,rfl,hr⟩
  refine bd ?_
  rcases r with _|_
  ·refine Li Pt ?_
   refine fK ?_
   refine Wt [SH z {N with x:=x}] T.dD T.dD results45 ?_
   refine⟨l,t,{N with x:=x}, ?_,rfl,rfl⟩
   rw[EH,i4,nX U9]
   exact Prod.ext (by dsimp only;omega) rfl
  obtain⟨p,hpx,hph⟩:=hr rfl
  rw[nW U9 hpx]at i4
  dsimp only at i4
  refine dg ?_
  refine zl T.Vg (Ht z {N with x:=x} p hpx) (.cons .here .nil) (λ_ _ _=>trivial) ?_
  have lk:=λlb tb=>FQ z {N with x:=x.pass N.Q} p hph lb tb l t (by omega) (by omega)
  refine Lp (oC T.Vh rfl rfl (lk _ _) (.cons .here (.cons .here (.cons .here .nil))) (λ_ _ _=>trivial) ?_)
  rintro v H' ⟨rfl,t2,pJ,rfl⟩
  refine bd ?_
  refine bf ?_
  refine Ro ((({N with x:=x.pass N.Q}:Mo).look p,l+1,t2)) (⟨⟨(by dsimp only;omega),(by dsimp only;omega),(by dsimp only;omega)⟩,(by dsimp only;rw[i4,show m.toNat-(l+1)=f by omega];exact Prod.ext (by dsimp only;omega) rfl)⟩) ((by dsimp only;omega))
 have aa6:m.toNat-l=0:=by omega
 rw[aa6]at i4
 refine zf 33 ?_ (e:=by exact decide_eq_false hlm)
 refine mI ?_
 refine Wt [SH z N] T.dD T.dD results45 ?_
 refine⟨l,t,N, ?_,rfl,rfl⟩
 rw[EH,i4]
 exact Prod.ext (by show D.length+(l-D.length+0)=l;omega) rfl
theorem bF.cls{B:Bx}{M:Mo}(O:bF B M){D N:Cs}{ho':Option Nat}{m':kf}(K2:Ok D)(hN:D=N.wA B.C.A)(S:zI B.C D (λq=>q∈B.W.all))(QG:D.cfg=B.C.cfg)(lv:∀q,Live D q↔q∈B.W.all∨ho'=some q)(hoo:∀q,ho'=some q→q∉B.W.all)
  (un:m'.un.length=D.ae.length) (on:m'.on=true→m'.pg<D.n∧(D.pg m'.pg).own=true∧(D.pg m'.pg).lv=true∧(D.pg m'.pg).cl=m'.fr) (go:∀i,(D.pg i).lv=true→m'.on=true∧i=m'.pg):
  bF ⟨D,B.W,B.ty,B.E⟩ {M with C:=N,hole:=ho',m:=m'}:=by
 have hA:D.A=B.C.A:=S.a
 have hs:D.ae.length=B.C.ae.length:=by rw[S.sz]
 refine⟨?_,K2,S.tb O.t λp h=>h,O.ty,S.qu O.o λi p h=>O.qS h,by show cn D.ae.length _ _;rw[hs];exact O.x,λi p h=>by show cM D.A p<16;rw[hA];exact O.mq i p h,O.ck,O.al,lv,hoo,λp h=>by show mu D.A p=_;rw[hA];exact O.it p h, ?_,O.st,O.nb,O.mg,O.mo,O.bt,un,on,go,O.wn,by show M.v.c=D.cfg;rw[QG];exact O.cf,O.n,O.lg⟩
 ·show D=N.wA D.A
  rw[hA];exact hN
 exact O.e.trans (aaq.of_eq (fq λq h=>⟨rfl,rfl,(S.lv q h (O.qP h)).2.1⟩).symm)
theorem bF.Cx{B:Bx}{M:Mo}(O:bF B M){r:Nat}(hr:M.hole=some r){A:By}(d:cI B.C B.C.A A (λq _=>q=r)):bF ⟨B.C.wA A,B.W,B.ty,B.E⟩ M:=by
 have K:=O.k
 have ne:∀q∈B.W.all,q≠r:=λq h e=>O.ho r hr (e▸h)
 have r_:=λ(q:Nat) (hq:q∈B.W.all) (o w:Nat) (h2:o+w≤B.C.sz (B.C.cl q))=>ke K d (O.mH hq) h2 (λj _ _ s=>ne q hq s)
 have n1:∀q∈B.W.all,64≤B.C.sz (B.C.cl q):=λq hq=>((O.mH hq).aX K).2.1
 have it_:∀q∈B.W.all,mu A q=mu B.C.A q:=λq hq=>uA K d (O.mH hq) (O.t.it q hq) (λj s=>absurd s (ne q hq))
 have kp:∀q∈B.W.all,Kept B.C A q:=λq hq=>pf K d (O.mH hq) (O.t.it q hq) (λj s=>absurd s (ne q hq))
 refine⟨?_,K.wA A,aaO K O.t kp (λq hq=>r_ q hq 0 4 (by have:=n1 q hq;omega)),O.ty, ?_,O.x, ?_,O.ck,O.al,λq=> ?_,O.ho,λq hq=>(it_ q hq).trans (O.it q hq),O.e,O.st,O.nb,O.mg,O.mo,O.bt,O.un,O.on,O.go,O.wn,O.cf,O.n,O.lg⟩
 ·show B.C.wA A=M.C.wA A
  conv=>lhs;rw[O.c]
  rfl
 ·exact aaS O.o (λi q hq=>kp q (O.qS hq)) (λi q hq=>r_ q (O.qS hq) 45 1 (by have:=n1 q (O.qS hq);omega)) (λi q hq=>r_ q (O.qS hq) (4*1) 4 (by have:=n1 q (O.qS hq);omega)) (λi q hq=>r_ q (O.qS hq) (4*2) 4 (by have:=n1 q (O.qS hq);omega))
 ·intro i q hq
  show cM A q<16
  rw[show cM A q=cM B.C.A q from congrArg I3.cQ (it_ q (O.qS hq))]
  exact O.mq i q hq
 refine Iff.trans ?_ (O.lv q)
 exact⟨λh=>⟨⟨h.i,h.own,h.al,h.k⟩,h.tk⟩,λh=>h.wA A⟩
structure Tkn (C:Cs)(c p:Nat)(D:Cs):Prop where
 k:Ok D
 no:¬Live C p
 lv:∀q,Live D q↔Live C q∨q=p
 hd:∀q,Live C q→D.hd q=C.hd q∧D.cl q=C.cl q
 cl:D.cl p=c
 sz:D.ae=C.ae
 n:D.n=C.n
 ps:D.ao=C.ao
 cf:D.cfg=C.cfg
 lf:∀i,(D.pg i).lv=(C.pg i).lv
 pg:∀i,(C.pg i).own=true→(D.pg i).own=true∧(D.pg i).cl=(C.pg i).cl
 dA:cI D C.A D.A (λq _=>q=p)
 nA:∀A,∃A',(C.wA A).dH c=some (p,D.wA A')
theorem Ny{C:Cs}(K:Ok C){c p:Nat}(h:(C.rw c).free.getLast?=some p)(j:Nat):(C.eI c p).pg j=if j=C.pn p then{C.pg (C.pn p)with tk:=(C.pg (C.pn p)).tk.set (C.ix p) true,held:=(C.pg (C.pn p)).held+1}else C.pg j:=by
 obtain⟨_,_,F⟩:=uW K h
 exact kI (by rw[K.pl];exact F.i) j
theorem UK{C:Cs}(K:Ok C){c p:Nat}(h:(C.rw c).free.getLast?=some p):Tkn C c p (C.eI c p):=by
 obtain⟨K2,S,F⟩:=uW K h
 have iD:=Ny K h
 have e1:∀q,C.pn q=C.pn p→(C.eI c p).pg (C.pn q)={C.pg (C.pn p)with tk:=(C.pg (C.pn p)).tk.set (C.ix p) true,held:=(C.pg (C.pn p)).held+1}:=λq e=>by rw[iD,if_pos e]
 have e2:∀q,C.pn q≠C.pn p→(C.eI c p).pg (C.pn q)=C.pg (C.pn q):=λq e=>by rw[iD,if_neg e]
 have oN:¬Live C p:=λL=>by
  have a:=F.tk
  have b:=L.tk
  rw[a]at b;cases b
 have cB:=(aad.1 F.tk).1
 have f1:=K.toFix.p1
 refine⟨K2,oN,λq=> ?_,λq L=> ?_,by rw[S.cl];exact F.cl,S.ae,S.n,S.ao,rfl,λi=> ?_,λi ho=> ?_, ?_,λA=> ?_⟩
 ·constructor
  ·intro L
   have a:=S.at.1 L.toAt
   have t:=L.tk
   rw[S.pn,S.ix]at t
   by_cases e:C.pn q=C.pn p
   ·by_cases g:q=p
    ·exact .inr g
    rw[e1 q e]at t
    change((C.pg (C.pn p)).tk.set (C.ix p) true)[C.ix q]?=some true at t
    rw[aaF (λz=>uz K F.toAt a e g z.symm),←e]at t
    exact .inl ⟨a,t⟩
   rw[e2 q e]at t
   exact .inl ⟨a,t⟩
  rintro(L|rfl)
  ·refine⟨S.at.2 L.toAt, ?_⟩
   rw[S.pn,S.ix]
   by_cases e:C.pn q=C.pn p
   ·have g:q≠p:=λg=>oN (g▸L)
    rw[e1 q e]
    show((C.pg (C.pn p)).tk.set (C.ix p) true)[C.ix q]?=some true
    rw[aaF (λz=>uz K F.toAt L.toAt e g z.symm),←e]
    exact L.tk
   rw[e2 q e];exact L.tk
  refine⟨S.at.2 F.toAt, ?_⟩
  rw[S.pn,S.ix,e1 q rfl]
  show((C.pg (C.pn q)).tk.set (C.ix q) true)[C.ix q]?=some true
  rw[List.getElem?_set_self cB]
 ·refine⟨?_,S.cl q⟩
  unfold Cs.hd Cs.gen
  rw[S.pn,S.ix]
  by_cases e:C.pn q=C.pn p
  ·rw[e1 q e,e]
  rw[e2 q e]
 ·rw[iD]
  by_cases e:i=C.pn p
  ·rw[if_pos e,e]
  rw[if_neg e]
 ·rw[iD]
  by_cases e:i=C.pn p
  ·rw[if_pos e,e];rw[e]at ho;exact⟨ho,rfl⟩
  rw[if_neg e];exact⟨ho,rfl⟩
 ·intro i hi
  have hr:p≤i∧i<p+56:=by
   refine aak λg=>hi ?_
   show wr (lay C.A p (aae 56 0)) (p+12) 4 (C.gen p) i=C.A i
   unfold wr
   rw[fy _ _ _ _ (by rw[kM];omega),fy _ _ _ _ (by rw[List.length_replicate];omega)]
  have:=((S.at.2 F.toAt).aX K2).2.1
  exact⟨p,i-p,S.at.2 F.toAt,by omega,rfl,by omega⟩
 refine⟨((C.wA A).eI c p).A, ?_⟩
 have:(C.wA A).dH c=some (p,(C.wA A).eI c p):=by
  unfold Cs.dH
  rw[show((C.wA A).rw c).free.getLast?=some p from h]
 rw[this];rfl
theorem Nl{C:Cs}(K:Ok C){i c:Nat}(hi:i<C.n)(j:Nat):(C.bm i c).pg j=if j=i then C.eL i c else C.pg j:=kI (by rw[K.pl];exact hi) j
theorem abG{C:Cs}(K:Ok C){i c p:Nat}(hi:i<C.n)(iE:c<C.ae.length)(ho:(C.pg i).own=false)(hf:C.fu=some i)(he:(C.rw c).free.getLast?=none)(h:((C.bm i c).rw c).free.getLast?=some p):Tkn C c p ((C.bm i c).eI c p):=by
 have KW:=xh K hi iE ho
 have iD:=Nl K (c:=c) hi
 have X:=UK KW h
 have P:kY C (C.pg i):=K.pg _ (gg (by rw[K.pl];exact hi))
 have lL:(C.pg i).lv=false:=(P.no ho).2.1
 have Kq:∀q,At C q→C.pn q≠i:=λq L e=>by
  have:=L.own
  rw[e,ho]at this;cases this
 have same:∀q,C.pn q≠i→(C.bm i c).pg ((C.bm i c).pn q)=C.pg (C.pn q):=λq e=>by
  rw[show(C.bm i c).pn q=C.pn q from rfl,iD,if_neg e]
 have QP:∀q,C.pn q≠i→(C.bm i c).cl q=C.cl q:=λq e=>by unfold Cs.cl;rw[same q e]
 have Qq:∀q,C.pn q≠i→(C.bm i c).ix q=C.ix q:=λq e=>by unfold Cs.ix;rw[QP q e];rfl
 have wl:∀q,Live (C.bm i c) q↔Live C q:=λq=>by
  constructor
  ·intro L
   have e:C.pn q≠i:=λe=>by
    have t:=L.tk
    rw[show(C.bm i c).pn q=C.pn q from rfl,iD,if_pos e]at t
    change(aae (C.ao/C.sz c) false)[(C.bm i c).ix q]?=some true at t
    obtain⟨hh,t2⟩:=aad.1 t
    rw[List.getElem_replicate]at t2
    cases t2
   refine⟨⟨L.i,by have:=L.own;rw[same q e]at this;exact this,by have:=L.al;rw[QP q e]at this;exact this,by have:=L.k;rw[same q e,Qq q e]at this;exact this⟩,by have:=L.tk;rw[same q e,Qq q e]at this;exact this⟩
  intro L
  have e:=Kq q L.toAt
  exact⟨⟨L.i,by rw[same q e];exact L.own,by rw[QP q e];exact L.al,by rw[same q e,Qq q e];exact L.k⟩,by rw[same q e,Qq q e];exact L.tk⟩
 refine⟨X.k,λL=>X.no ((wl p).2 L),λq=>by rw[X.lv,wl],λq L=> ?_,X.cl,X.sz,X.n,X.ps,X.cf,λj=> ?_,λj hj=> ?_,X.dA,λA=> ?_⟩
 ·have e:=Kq q L.toAt
  obtain⟨a,b⟩:=X.hd q ((wl q).2 L)
  rw[a,b,QP q e]
  refine⟨?_,rfl⟩
  unfold Cs.hd Cs.gen
  rw[same q e,Qq q e]
 ·rw[X.lf,iD]
  by_cases e:j=i
  ·rw[if_pos e,e];rfl
  rw[if_neg e]
 ·have e:j≠i:=λe=>by rw[e,ho]at hj;cases hj
  obtain⟨a,b⟩:=X.pg j (by rw[iD,if_neg e];exact hj)
  rw[a,b,iD,if_neg e]
  exact⟨rfl,rfl⟩
 refine⟨(((C.wA A).bm i c).eI c p).A, ?_⟩
 have:(C.wA A).dH c=some (p,((C.wA A).bm i c).eI c p):=by
  unfold Cs.dH
  rw[show((C.wA A).rw c).free.getLast?=none from he]
  dsimp only
  rw[show(C.wA A).fu=some i from hf]
  dsimp only
  rw[show(((C.wA A).bm i c).rw c).free.getLast?=some p from h]
 rw[this];rfl
theorem BP{C:Cs}{i:Nat}(K:Ok C)(h:C.fu=some i):i<C.n∧(C.pg i).own=false:=by
 unfold Cs.fu at h
 rw[aav]at h
 obtain⟨h1,h2,_⟩:=h
 refine⟨by rw[←K.pl];exact h1, ?_⟩
 have e:C.pg i=C.bZ[i]:=by unfold Cs.pg;rw[aab,aac h1];rfl
 rw[e]
 simpa using h2
theorem rA{C:Cs}(K:Ok C){c p:Nat}{D:Cs}(iE:c<C.ae.length)(h:C.dH c=some (p,D)):Tkn C c p D:=by
 unfold Cs.dH at h
 cases hf:(C.rw c).free.getLast? with
 |some q=>
  rw[hf]at h
  cases h
  exact UK K hf
 |none=>
  rw[hf]at h
  dsimp only at h
  cases hp:C.fu with
  |none=>rw[hp]at h;cases h
  |some i=>
   rw[hp]at h
   dsimp only at h
   obtain⟨h1,h2⟩:=BP K hp
   cases hg:((C.bm i c).rw c).free.getLast? with
   |none=>rw[hg]at h;cases h
   |some q=>
    rw[hg]at h
    cases h
    exact abG K h1 iE h2 hp hf hg
theorem Nz{C:Cs}(A:By){c:Nat}(h:C.dH c=none):(C.wA A).dH c=none:=by
 unfold Cs.dH at*
 rw[show((C.wA A).rw c).free.getLast?=(C.rw c).free.getLast? from rfl]
 cases hf:(C.rw c).free.getLast? with
 |some q=>rw[hf]at h;cases h
 |none=>
  rw[hf]at h
  dsimp only at h⊢
  rw[show(C.wA A).fu=C.fu from rfl]
  cases hp:C.fu with
  |none=>rfl
  |some i=>
   rw[hp]at h
   dsimp only at h⊢
   rw[show(((C.wA A).bm i c).rw c).free.getLast?=((C.bm i c).rw c).free.getLast? from rfl]
   cases hg:((C.bm i c).rw c).free.getLast? with
   |none=>rfl
   |some q=>rw[hg]at h;cases h
def Mo.take (M:Mo)(c:Nat):Option (Nat×Mo):=match M.C.dH c with
 |some (p,D)=>some (p,{M with C:=D,hole:=some p})
 |none=>none
theorem bF.take{B:Bx}{M:Mo}(O:bF B M)(hh:M.hole=none){c p:Nat}{D:Cs}(iE:c<B.C.ae.length)(h:B.C.dH c=some (p,D)):∃N,M.take c=some (p,N)∧N.C.hd p=D.hd p∧N.hole=some p∧N={M with C:=N.C,hole:=some p}∧bF ⟨D,B.W,B.ty,B.E⟩ N∧Tkn B.C c p D:=by
 have X:=rA O.k iE h
 have hM:∃A',M.C.dH c=some (p,D.wA A'):=by
  obtain⟨A',e⟩:=X.nA M.C.A
  rw[O.c]at e
  exact⟨A',e⟩
 obtain⟨A',hM⟩:=hM
 refine⟨{M with C:=D.wA A',hole:=some p},by unfold Mo.take;rw[hM],rfl,rfl,rfl, ?_,X⟩
 have Ke:∀q∈B.W.all,q≠p:=λq hq e=>X.no (e▸O.qP hq)
 have K0:Ok (D.wA B.C.A):=X.k.wA _
 have h0:∀q,Live (D.wA B.C.A) q↔Live D q:=λq=>⟨λh=>⟨⟨h.i,h.own,h.al,h.k⟩,h.tk⟩,λh=>h.wA _⟩
 have S:zI B.C (D.wA B.C.A) (λq=>q∈B.W.all):=⟨rfl,X.sz,λq _ L=>⟨(h0 q).2 ((X.lv q).2 (.inl L)),(X.hd q L).1,(X.hd q L).2⟩⟩
 have O1:=O.cls (D:=D.wA B.C.A) (N:=D.wA A') (ho':=some p) (m':=M.m) K0 rfl S X.cf (λq=>by
   rw[h0,X.lv,O.lv,hh]
   constructor
   ·rintro((h|h)|h)
    ·exact .inl h
    ·cases h
    exact .inr (by rw[h])
   rintro(h|h)
   ·exact .inl (.inl h)
   exact .inr (Option.some.inj h).symm) (λq e hq=>Ke q hq (Option.some.inj e).symm) (by rw[show(D.wA B.C.A).ae=B.C.ae from X.sz];exact O.un)
  (λe=>by
   obtain⟨a,b,c,d⟩:=O.on e
   obtain⟨e1,e2⟩:=X.pg _ b
   exact⟨by rw[show(D.wA B.C.A).n=B.C.n from X.n];exact a,e1,(X.lf _).trans c,e2.trans d⟩) (λi e=>O.go i ((X.lf i).symm.trans e))
 have O2:=O1.Cx (r:=p) rfl (A:=D.A) (λi hi=>by
  obtain⟨q,o,q1,q2,q3,q4⟩:=X.dA i hi
  exact⟨q,o,q1.wA _,q2,q3,q4⟩)
 exact O2
theorem l8 (A:By)(p c:Nat)(k v:List UInt8)(fl exp tch tok st mk o w:Nat)(h:o+w≤48)(hk:k.length<256):rd (j7 A p c k v fl exp tch tok st mk) (p+o) w=rd (EG A p c k.length fl exp tch tok st mk) (p+o) w:=by
 unfold j7 dU
 rw[dM,dM,aJ,dM]<;>omega
theorem FW (A:By)(p c:Nat)(k v:List UInt8)(fl exp tch tok st mk:Nat)(hk:k.length<256):kl (j7 A p c k v fl exp tch tok st mk) p=k.length:=by
 unfold kl
 rw[l8 _ _ _ _ _ _ _ _ _ _ _ _ _ (by omega) hk]
 unfold EG
 rw[aJ,aJ,aJ,aJ,cG]<;>omega
theorem Tl (A:By)(p c:Nat)(k v:List UInt8)(fl exp tch tok st mk:Nat)(hk:k.length<256)(h:exp<256^8):ud (j7 A p c k v fl exp tch tok st mk) p=exp:=by
 unfold ud
 rw[l8 _ _ _ _ _ _ _ _ _ _ _ _ _ (by omega) hk]
 unfold EG
 rw[aJ,aJ,aJ,aJ,aJ,aJ,aJ,aJ,cG,aaH h]<;>omega
theorem OA (A:By)(p c:Nat)(k v:List UInt8)(fl exp tch tok st mk:Nat)(hk:k.length<256)(h:tch<256^8):lP (j7 A p c k v fl exp tch tok st mk) p=tch:=by
 unfold lP
 rw[l8 _ _ _ _ _ _ _ _ _ _ _ _ _ (by omega) hk]
 unfold EG
 rw[aJ,aJ,aJ,aJ,aJ,aJ,aJ,cG,aaH h]<;>omega
theorem Oz (A:By)(p c:Nat)(k v:List UInt8)(fl exp tch tok st mk:Nat)(hk:k.length<256)(h:tok<256^8):pS (j7 A p c k v fl exp tch tok st mk) p=tok:=by
 unfold pS
 rw[l8 _ _ _ _ _ _ _ _ _ _ _ _ _ (by omega) hk]
 unfold EG
 rw[aJ,aJ,aJ,aJ,aJ,aJ,cG,aaH h]<;>omega
theorem Tk (A:By)(p c:Nat)(k v:List UInt8)(fl exp tch tok st mk:Nat)(hk:k.length<256)(h:fl<256^4):QI (j7 A p c k v fl exp tch tok st mk) p=fl:=by
 unfold QI
 rw[l8 _ _ _ _ _ _ _ _ _ _ _ _ _ (by omega) hk]
 unfold EG
 rw[aJ,aJ,aJ,aJ,aJ,cG,aaH h]<;>omega
theorem Th (A:By)(p c:Nat)(k v:List UInt8)(fl exp tch tok st mk:Nat)(hk:k.length<256)(h:st<256^1):ij (j7 A p c k v fl exp tch tok st mk) p=st:=by
 unfold ij
 rw[l8 _ _ _ _ _ _ _ _ _ _ _ _ _ (by omega) hk]
 unfold EG
 rw[aJ,aJ,aJ,cG,aaH h]<;>omega
theorem Tj (A:By)(p c:Nat)(k v:List UInt8)(fl exp tch tok st mk:Nat)(hk:k.length<256)(h:mk<256^1):cM (j7 A p c k v fl exp tch tok st mk) p=mk:=by
 unfold cM
 rw[l8 _ _ _ _ _ _ _ _ _ _ _ _ _ (by omega) hk]
 unfold EG
 rw[aJ,aJ,cG,aaH h]<;>omega
theorem To (A:By)(p c:Nat)(k v:List UInt8)(fl exp tch tok st mk:Nat)(hk:k.length<256)(hv:v.length<256^4):vl (j7 A p c k v fl exp tch tok st mk) p=v.length∧aE (j7 A p c k v fl exp tch tok st mk) p=k∧mJ (j7 A p c k v fl exp tch tok st mk) p=v:=by
 have e1:=FW A p c k v fl exp tch tok st mk hk
 have e0:=C6 A p c k.length fl exp tch tok st mk k hk
 have e2:vl (j7 A p c k v fl exp tch tok st mk) p=v.length:=by
  unfold vl j7 dU
  rw[e0,dM,dM,cG,aaH hv]<;>omega
 refine⟨e2, ?_, ?_⟩
 ·unfold aE
  rw[e1]
  unfold j7 dU
  rw[e0,eW,eW,pD,jr]<;>omega
 unfold mJ
 rw[e1,e2]
 unfold j7 dU
 rw[e0,eW,jr]
 omega
theorem X0{C:Cs}{p c:Nat}{k v:List UInt8}{fl exp tch tok st mk:Nat}(L:At C p)(hk:k.length<256)(hf:58+k.length+v.length≤C.sz (C.cl p)):cI C C.A (j7 C.A p c k v fl exp tch tok st mk) (λq _=>q=p):=λi hi=>by
 have hr:p≤i∧i<p+(58+k.length+v.length):=by
  refine aak λg=>hi ?_
  have e0:=C6 C.A p c k.length fl exp tch tok st mk k hk
  have w:∀(A:By) (o n x:Nat),o+n≤56→wr A (p+o) n x i=A i:=λA o n x h=>by
   unfold wr
   exact fy _ _ _ _ (by rw[kM];omega)
  unfold j7 dU
  rw[e0,fy,fy,w _ _ _ _ (by omega),fy]
  ·unfold EG
   rw[w _ _ _ _ (by omega),w _ _ _ _ (by omega),w _ _ _ _ (by omega),w _ _ _ _ (by omega),w _ _ _ _ (by omega),w _ _ _ _ (by omega),w _ _ _ _ (by omega),w _ _ _ _ (by omega),w _ _ _ _ (by omega),qA,qA,qA,w _ _ _ _ (by omega),w _ _ _ _ (by omega),w _ _ _ _ (by omega)]
   rfl
  ·omega
  ·omega
  have:crlf.length=2:=rfl
  omega
 exact⟨p,i-p,L,by omega,rfl,by omega⟩
def QQ (p r q:Nat):Nat:=if q=p then r else q
def yc (Q:List (List Nat))(p r:Nat):List (List Nat):=Q.map λl=>l.map (QQ p r)
theorem o4 (Q:List (List Nat))(p r i:Nat):ql (yc Q p r) i=(ql Q i).map (QQ p r):=by
 unfold yc ql
 rw[aab,aab,aap]
 cases Q[i]?<;>rfl
def Mo.swap (M:Mo)(p r:Nat):Mo:=
 {M with hole:=some p,Q:=yc M.Q p r,it:=λq=>if q=r then M.it p else M.it q,ord:=λq=>if q=r then M.ord p else M.ord q,x:=M.x.w7 p r}
def Mo.w9 (M:Mo)(p:Nat):Mo:={M with C:=M.C.bb p,hole:=none}
def Mo.shift (M:Mo)(p:Nat):Option Mo:=match M.take (M.C.cl p)with
 |some (r,N)=>some ((N.swap p r).w9 p)
 |none=>none
theorem bF.cl{B:Bx}{M:Mo}(O:bF B M)(p:Nat):B.C.cl p=M.C.cl p:=by rw[O.c];rfl
theorem bF.takeN{B:Bx}{M:Mo}(O:bF B M){c:Nat}(h:B.C.dH c=none):M.take c=none:=by
 have:(B.C.wA M.C.A).dH c=none:=Nz _ h
 rw[O.c]at this
 unfold Mo.take
 rw[show M.C.dH c=none from this]
theorem tE{C D:Cs}(S:zU C D)(hp:∀j,∃b,D.pg j={C.pg j with lv:=b})(q:Nat):(Live D q↔Live C q)∧D.hd q=C.hd q∧D.cl q=C.cl q:=by
 have tk:∀i,(D.pg i).tk=(C.pg i).tk:=λi=>by obtain⟨b,e⟩:=hp i;rw[e]
 have aZ:∀i,(D.pg i).aZ=(C.pg i).aZ:=λi=>by obtain⟨b,e⟩:=hp i;rw[e]
 refine⟨⟨λL=>⟨S.at.1 L.toAt, ?_⟩,λL=>⟨S.at.2 L.toAt, ?_⟩⟩, ?_,S.cl q⟩
 ·have:=L.tk
  rw[S.pn,S.ix,tk]at this
  exact this
 ·rw[S.pn,S.ix,tk];exact L.tk
 unfold Cs.hd Cs.gen
 rw[S.pn,S.ix,aZ]
theorem yS{C:Cs}(K:Ok C){i:Nat}(hi:i<C.n)(j:Nat):(C.kk i).pg j=if j=i then{C.pg i with lv:=false}else C.pg j:=kI (by rw[K.pl];exact hi) j
theorem Ow{C:Cs}(K:Ok C){i:Nat}(hi:i<C.n)(j:Nat):(C.lV i).pg j=if j=i then{C.pg i with lv:=true}else C.pg j:=kI (by rw[K.pl];exact hi) j
theorem D8{C:Cs}(K:Ok C){i:Nat}(hi:i<C.n)(j:Nat):(C.eQ i).pg j=if j=i then{Pg.no with old:=C.Kp (C.pg i)}else C.pg j:=kI (by rw[K.pl];exact hi) j
theorem bF.stay{B:Bx}{M:Mo}(O:bF B M)(oK:M.m.on=true):zI B.C (B.C.kk M.m.pg) (λq=>q∈B.W.all)∧bF ⟨B.C.kk M.m.pg,B.W,B.ty,B.E⟩ {M with C:=M.C.kk M.m.pg,m:=M.m.off}:=by
 obtain⟨a,b,c,d⟩:=O.on oK
 have K:=O.k
 obtain⟨K2,S⟩:=uZ K a b c
 have iD:=yS K a
 have sm:=tE S λj=>by
  rw[iD]
  by_cases e:j=M.m.pg
  ·exact⟨false,by rw[if_pos e,e]⟩
  exact⟨(B.C.pg j).lv,by rw[if_neg e]⟩
 have hs:zI B.C (B.C.kk M.m.pg) (λq=>q∈B.W.all):=⟨rfl,S.ae,λq _ L=>⟨(sm q).1.2 L,(sm q).2⟩⟩
 refine⟨hs,O.cls (ho':=M.hole) K2 (congrArg (λC:Cs=>C.kk M.m.pg) O.c) hs rfl (λq=>(sm q).1.trans (O.lv q)) O.ho (by rw[S.ae];exact O.un) (λe=>by cases e) (λi e=> ?_)⟩
 rw[iD]at e
 by_cases g:i=M.m.pg
 ·rw[if_pos g]at e;cases e
 rw[if_neg g]at e;exact absurd (O.go i e).2 g
theorem aci{C:Cs}(K:Ok C){i:Nat}(hi:i<C.n)(h:(C.pg i).tk.findIdx? id=none):(C.pg i).held=0∧∀k:Nat,(C.pg i).tk[k]?≠some true:=by
 have P:kY C (C.pg i):=K.pg _ (gg (by rw[K.pl];exact hi))
 rw[adV]at h
 refine⟨?_,λk e=> ?_⟩
 ·rw[P.held]
  have:∀l:List Bool,(∀x∈l,id x=false)→(l.map bN).sum=0:=λl=>by
   induction l with
   |nil=>intro _;rfl
   |cons x l ih=>
    intro g
    have hx:x=false:=g x aai
    rw[aao,aaC,ih λy hy=>g y (aag _ hy),hx];rfl
  exact this _ h
 have:=h true (aaf e)
 cases this
def Mo.mstop (M:Mo):Mo:={M with C:=M.C.kk M.m.pg,m:=M.m.off}
def Mo.fW (M:Mo):Bool×Mo:=match(M.C.pg M.m.pg).tk.findIdx? id with
 |none=>(false,{M with C:=M.C.eQ M.m.pg,m:=M.m.off})
 |some k=>if M.bC (M.C.wv M.m.pg k)≠0 then(true,M.bM (M.C.wv M.m.pg k))else(match M.shift (M.C.wv M.m.pg k)with
  |some N=>(true,N)
  |none=>(false,M.mstop))
def lsB (C:Cs)(f each k:Nat)(o:Option Nat):Prop:=(C.pg k).own=true∧(C.pg k).cl=f∧((C.pg k).held:Int)≤((C.rw f).free.length:Int)-((each:Int)-((C.pg k).held:Int))∧∀q,o=some q→(C.pg k).held<(C.pg q).held
noncomputable def Z8 (C:Cs)(f each:Nat):Nat→Option Nat
 |0=>none
 |k+1=>by classical exact if lsB C f each k (Z8 C f each k)then some k else Z8 C f each k
noncomputable def rn (C:Cs)(f:Nat):Option Nat:=if(C.rw f).cP<2 then none else Z8 C f (C.ao/C.sz f) C.n
theorem FN (C:Cs)(f each:Nat):∀k q,Z8 C f each k=some q→q<k∧(C.pg q).own=true∧(C.pg q).cl=f
 |0,q,h=>by cases h
 |k+1,q,h=>by
  unfold Z8 at h
  split at h
  ·next g=>cases h;exact⟨afw _,g.1,g.2.1⟩
  obtain⟨a,b⟩:=FN C f each k q h;exact⟨by omega,b⟩
def sl (C:Cs)(f:Nat):Nat:=(C.rw f).free.length
noncomputable def iK (m:kf)(C:Cs):Nat→Option (Nat×Nat)
 |0=>none
 |k+1=>if m.jo k=true∨(∃o,iK m C k=some o∧sl C k≤sl C o.2)then iK m C k else(match rn C k with
  |some p=>some (p,k)
  |none=>iK m C k)
noncomputable def Mo.gj (M:Mo):Mo:=if 0<M.C.spare then M else match(List.range M.ia).find? M.m.jo with
 |none=>M
 |some t=>match iK M.m M.C M.ia with
  |none=>M
  |some o=>{M with C:=M.C.lV o.1,m:={M.m with pg:=o.1,fr:=o.2,tt:=t,on:=true}}
theorem EA{m:kf}{C:Cs}{k:Nat}(h:m.jo k=true∨(∃o,iK m C k=some o∧sl C k≤sl C o.2)):iK m C (k+1)=iK m C k:=by
 conv=>lhs;unfold iK
 rw[if_pos h]
theorem EB{m:kf}{C:Cs}{k:Nat}(h:rn C k=none):iK m C (k+1)=iK m C k:=by
 conv=>lhs;unfold iK
 split
 ·rfl
 rw[h]
theorem JH{m:kf}{C:Cs}{k p:Nat}(g:¬(m.jo k=true∨(∃o,iK m C k=some o∧sl C k≤sl C o.2)))(h:rn C k=some p):iK m C (k+1)=some (p,k):=by
 conv=>lhs;unfold iK
 rw[if_neg g,h]
theorem Ei{C:Cs}{f p:Nat}(h:rn C f=some p):p<C.n∧(C.pg p).own=true∧(C.pg p).cl=f:=by
 unfold rn at h
 split at h
 ·cases h
 exact FN _ _ _ _ _ h
theorem rV{m:kf}{C:Cs}:∀{k:Nat} {o:Nat×Nat},iK m C k=some o→o.1<C.n∧(C.pg o.1).own=true∧(C.pg o.1).cl=o.2∧o.2<k
 |0,o,h=>by cases h
 |k+1,o,h=>by
  by_cases g:m.jo k=true∨(∃o,iK m C k=some o∧sl C k≤sl C o.2)
  ·rw[EA g]at h
   obtain⟨a,b,c,d⟩:=rV h
   exact⟨a,b,c,by omega⟩
  cases hl:rn C k with
  |none=>
   rw[EB hl]at h
   obtain⟨a,b,c,d⟩:=rV h
   exact⟨a,b,c,by omega⟩
  |some p=>
   rw[JH g hl]at h
   cases h
   obtain⟨a,b,c⟩:=Ei hl
   exact⟨a,b,c,afw _⟩
def Rb (z:Ly)(B:Bx)(M:Mo):List aa:=
 [ag z.y.t 145 (eT z.y.b B.W B.ty),ag B.ty.nk 163 (aC (au B.W.nb)),jd B.ty.ok 163 (aC (au B.W.ob)),ag z.y.q 139 (fj z.y.b z.qb B.C.ae.length),ag z.qb 327 (M.Q.flatMap (dR B.C)),gu z.y.cr z.y.q z.y.wh B.C.ae.length (bo z.s) (bn z.s) B.C M.x,Wl z.y.wh B.E M.tn,gr z.s z.y (gd M.v),ki z.y.ck M.k,iW z.y.lu z.y.b z.y.q z.hot z.warm,kF M]
theorem VE{z:Ly}{B:Bx}{M:Mo}:∀h,ai (fk z B M++ []) h→ai [Cl z.y.b B.C,mG z.y.mo z.y.b z.ub (bo z.s) (bn z.s) (bT z.s) M.m,mN z.ub M.m,aI (Rb z B M)] h:=λh s=>by
 have s1:ai (Rb z B M++ [Cl z.y.b B.C,mG z.y.mo z.y.b z.ub (bo z.s) (bn z.s) (bT z.s) M.m,mN z.ub M.m]) h:=by
  revert s
  revert h
  unfold fk Rb
  simp only[s8,cap]
  exact Eh
 have s2:=fg s1
 revert s2
 generalize aI (Rb z B M)=X
 revert h
 intro h _ _ s2
 exact(Eh:∀h,ai [X,Cl z.y.b B.C,mG z.y.mo z.y.b z.ub (bo z.s) (bn z.s) (bT z.s) M.m,mN z.ub M.m] h→ai [Cl z.y.b B.C,mG z.y.mo z.y.b z.ub (bo z.s) (bn z.s) (bT z.s) M.m,mN z.ub M.m,X] h) h s2
theorem VD{z:Ly}{B:Bx}{M:Mo}:∀h,ai [Cl z.y.b B.C,mG z.y.mo z.y.b z.ub (bo z.s) (bn z.s) (bT z.s) M.m,mN z.ub M.m,aI (Rb z B M)] h→ai (fk z B M++ []) h:=λh s=>by
 have s1:ai (aI (Rb z B M):: [Cl z.y.b B.C,mG z.y.mo z.y.b z.ub (bo z.s) (bn z.s) (bT z.s) M.m,mN z.ub M.m]) h:=by
  revert s
  generalize aI (Rb z B M)=X
  intro s
  exact(Eh:∀h,ai [Cl z.y.b B.C,mG z.y.mo z.y.b z.ub (bo z.s) (bn z.s) (bT z.s) M.m,mN z.ub M.m,X] h→ai [X,Cl z.y.b B.C,mG z.y.mo z.y.b z.ub (bo z.s) (bn z.s) (bT z.s) M.m,mN z.ub M.m] h) h s
 have s2:ai (Rb z B M++ [Cl z.y.b B.C,mG z.y.mo z.y.b z.ub (bo z.s) (bn z.s) (bT z.s) M.m,mN z.ub M.m]) h:=by
  obtain⟨h1,h2,d,l1,l2,a,b⟩:=s1
  exact dL (bG a b d) (bS l1 l2)
 revert s2
 clear s1 s
 revert h
 unfold fk Rb
 simp only[s8,cap]
 exact Eh
theorem HM (z:Ly)(M:Mo)(hoff:M.m.on=false)(um:0<M.C.spare):aF aaa 123 [.pointer (some ⟨z.y.mo,0,none⟩)] (λ_=>True) [SH z M]
  (λv H=>v= .tuple #[]∧H= [SH z M.gj]):=
 eF λB O=>by
  have K:=O.k
  have ZM:=O.un
  have f3:=K.toFix.l1
  have hC:B.C=M.C.wA B.C.A:=O.c
  have QB:B.C.spare=M.C.spare:=by rw[hC];rfl
  have hncl:B.C.ae.length=M.ia:=O.ia
  have fp:=zw z.y.b B.C
  have hspl:B.C.spare<4611686018427387904:=by
   have:=yo wz (λx=>by unfold wz;split<;>omega) B.C.bZ
   rw[K.sp]
   unfold Cs.Cb
   rw[K.pl]at this
   have:=K.toFix.n1
   omega
  refine af func123 rfl ntmps123 rfl ?_
  intro F _
  refine az VE ?_
  unfold mG moC
  refine bD ?_
  refine zl T.Yy (fp) .nil (λ_ le aq=>aq.nth 0 rfl) ?_
  refine bf ?_
  by_cases JT:0<B.C.spare
  ·refine fB ?_
   refine bf ?_
   refine az (λh s=>aK O (H:= []) h (VD h s)) ?_
   refine Rt0 [SH z M] results123 ?_
   refine⟨rfl, ?_⟩
   unfold Mo.gj
   rw[if_pos (by omega)]
  exfalso;omega
theorem AB{α:Type}(f:α→Nat):∀l:List α,(∀x∈l,f x=0)→(l.map f).sum=0
 | [],_=>rfl
 |x::l,h=>by
  rw[aao,aaC,h x aai,AB f l λy hy=>h y (aag _ hy)]
theorem DY{C:Cs}(K:Ok C)(h:0<C.spare):∃i,C.fu=some i:=by
 cases hf:C.fu with
 |some i=>exact⟨i,rfl⟩
 |none=>
  exfalso
  have h1:∀x∈C.bZ,wz x=0:=λx hx=>by
   have:=adV.1 hf x hx
   unfold wz
   rw[if_pos (by simpa using this)]
  have h2:=K.sp
  unfold Cs.Cb at h2
  have h3:=AB wz C.bZ h1
  omega
theorem sx{C:Cs}(K:Ok C){c:Nat}(hc:c<C.ae.length)(h:0<C.spare):∃p D,C.dH c=some (p,D)∧C.spare≤D.spare+1:=by
 unfold Cs.dH
 cases (C.rw c).free.getLast? with
 |some p=>exact⟨p,_,rfl,Nat.le_succ _⟩
 |none=>
  obtain⟨i,hi⟩:=DY K h
  obtain⟨p,hp⟩:=vL K (i:=i) hc
  dsimp only
  rw[hi]
  dsimp only
  rw[hp]
  refine⟨p,_,rfl, ?_⟩
  show C.spare≤C.spare-1+1
  omega
structure Gv (C D:Cs):Prop where
 sz:D.ae=C.ae
 n:D.n=C.n
 ps:D.ao=C.ao
 sp:D.spare=C.spare
 pg:∀c,(D.rw c).cP=(C.rw c).cP
 tk:∀c,(D.rw c).gm≤(C.rw c).gm
theorem Gv.refl (C:Cs):Gv C C:=⟨rfl,rfl,rfl,rfl,λ_=>rfl,λ_=>aan _⟩
theorem Gv.trans{C D E:Cs}(a:Gv C D)(b:Gv D E):Gv C E:=⟨b.sz.trans a.sz,b.n.trans a.n,b.ps.trans a.ps,b.sp.trans a.sp,λc=>(b.pg c).trans (a.pg c),λc=>aei (b.tk c) (a.tk c)⟩
theorem F8 (C:Cs)(p:Nat):Gv C (C.bb p):=by
 have h:∀c,(C.bb p).rw c=C.rw c∨((C.bb p).rw c).cP=(C.rw c).cP∧((C.bb p).rw c).gm=(C.rw c).gm-1:=λc=>by
  by_cases g:C.cl p<C.rows.length
  ·have e:(C.bb p).rw c=_:=uL C (C.cl p) c {C.rw (C.cl p)with free:=if(C.pg (C.pn p)).lv=true then(C.rw (C.cl p)).free else(C.rw (C.cl p)).free++ [p],gm:=(C.rw (C.cl p)).gm-1} g
   by_cases i:c=C.cl p
   ·rw[if_pos i]at e
    right
    rw[e,i]
    exact⟨rfl,rfl⟩
   rw[if_neg i]at e
   exact .inl e
  left
  unfold Cs.bb Cs.put Cs.rw
  dsimp only
  rw[List.set_eq_of_length_le (by omega)]
 refine⟨rfl,rfl,rfl,rfl,λc=> ?_,λc=> ?_⟩
 ·rcases h c with e|⟨e,_⟩
  ·rw[e]
  exact e
 rcases h c with e|⟨_,e⟩
 ·rw[e];exact aan _
 omega
structure Ev (M N:Mo):Prop where
 on:N.m.on=M.m.on
 g:Gv M.C N.C
theorem Ev.rf{M N:Mo}(h1:N.m.on=M.m.on)(h2:N.C=M.C):Ev M N:=⟨h1,by rw[h2];exact .refl _⟩
theorem Ev.trans{M N O:Mo}(a:Ev M N)(b:Ev N O):Ev M O:=⟨b.on.trans a.on,a.g.trans b.g⟩
theorem Ev.bM (M:Mo)(p:Nat):Ev M (M.bM p):=⟨rfl,F8 M.C p⟩
theorem Ev.look (M:Mo)(p:Nat):Ev M (M.look p):=by
 unfold Mo.look
 split
 ·exact Ev.bM M p
 exact .rf rfl rfl
theorem Ev.looks:∀(l:List Nat) (M:Mo),Ev M (l.foldl Mo.look M)
 | [],_=> .rf rfl rfl
 |p::l,M=>(Ev.look M p).trans (Ev.looks l (M.look p))
theorem Ev.bH:∀(f:Nat) (M:Mo),Ev M (M.bH f).2
 |0,_=> .rf rfl rfl
 |f+1,M=>by
  unfold Mo.bH
  split
  ·next x h=>
   split
   ·next p hp=>exact((Ev.rf rfl rfl:Ev M {M with x:=x.pass M.Q}).trans (Ev.look _ p)).trans (Ev.bH f _)
   exact .rf rfl rfl
  exact .rf rfl rfl
theorem Ev.bX (M:Mo)(now aB:Int):Ev M (M.bX now aB).2:=by
 unfold Mo.bX
 split
 ·exact .rf rfl rfl
 exact(Ev.looks _ M).trans (Ev.bH _ _)
structure gB (M:Mo)(j:Nat):Prop where
 on:M.m.on=false
 sp:j≤M.C.spare
theorem gB.ev{M N:Mo}{j:Nat}(A:gB M j)(E:Ev M N):gB N j:=⟨E.on.trans A.on,by rw[E.g.sp];exact A.sp⟩
theorem gB.le{M:Mo}{i j:Nat}(A:gB M j)(h:i≤j):gB M i:=⟨A.on,aei h A.sp⟩
theorem bF.ZI{B:Bx}{M:Mo}(O:bF B M):Ok M.C:=by
 have h:=O.k.wA M.C.A
 rw[O.c]at h
 exact h
def Mo.ee:Nat→Mo→Nat×Mo
 |0,M=>(0,M)
 |f+1,M=>if M.fW.1=true then((M.fW.2.ee f).1+1,(M.fW.2.ee f).2)else(0,M.fW.2)
def Mo.fS (M:Mo):Mo:={M with m:={M.m with st:=M.m.st+1}}
noncomputable def Mo.gH (M:Mo)(aB:Int):Nat×Mo:=if min aB 1048576<1 then(0,M)else if M.m.on=true then M.fS.ee (min aB 1048576).toNat else(0,M.fS.gj)
theorem rJ{M N:Mo}{f:Nat}(h:M.fW=(true,N)):M.ee (f+1)=((N.ee f).1+1,(N.ee f).2):=by
 conv=>lhs;unfold Mo.ee
 rw[h];rfl
theorem rK{M N:Mo}{f:Nat}(h:M.fW=(false,N)):M.ee (f+1)=(0,N):=by
 conv=>lhs;unfold Mo.ee
 rw[h];rfl
theorem bF.fS{B:Bx}{M:Mo}(O:bF B M):bF B M.fS:=
 ⟨O.c,O.k,O.t,O.ty,O.o,O.x,O.mq,O.ck,O.al,O.lv,O.ho,O.it,O.e,O.st,O.nb,O.mg,O.mo,O.bt,O.un,O.on,O.go,O.wn,O.cf,O.n,O.lg⟩
theorem RM{M N:Mo}{c r:Nat}(h:M.take c=some (r,N)):N.m=M.m:=by
 unfold Mo.take at h
 cases hc:M.C.dH c with
 |none=>rw[hc]at h;cases h
 |some o=>rw[hc]at h;cases h;rfl
theorem NL{M N:Mo}{p:Nat}(h:M.shift p=some N):N.hole=none∧N.m=M.m:=by
 unfold Mo.shift at h
 cases hc:M.take (M.C.cl p)with
 |none=>rw[hc]at h;cases h
 |some o=>
  rw[hc]at h
  cases h
  exact⟨rfl,RM (r:=o.1) (N:=o.2) hc⟩
theorem iO (z:Ly)(M:Mo)(hh:M.hole=none)(iU:M.m.st<4611686018427387904)(A:gB M 1)(aB:Int):aF aaa 79 [.pointer (some ⟨z.y.mo,0,none⟩), .int .i64 aB] (λ_=>True) [SH z M]
  (λv H=>∃n N,M.gH aB=(n,N)∧v= .int .i64 (n:Int)∧H= [SH z N]):=by
 have pM:M.gH aB=if min aB 1048576<1 then(0,M)else if M.m.on=true then M.fS.ee (min aB 1048576).toNat else(0,M.fS.gj):=rfl
 have hmle:min aB 1048576≤1048576:=afx _ _
 refine af func79 rfl ntmps79 rfl ?_
 intro F _
 refine br ?_
 refine Li Mi ?_
 refine bf ?_
 refine aw ?_
 refine ay (t:=1) (v':=(.int .i64 (min aB 1048576))) rfl (by rfl) ?_
 generalize min aB 1048576=m at*
 refine aW ?_
 by_cases h1:m<1
 ·rw[if_pos h1]at pM
  refine fB ?_ (e:=by exact decide_eq_true h1)
  refine br ?_
  refine Rt [SH z M] results79 ?_
  exact⟨0,M,pM,rfl,rfl⟩
 rw[if_neg h1]at pM
 refine dm ?_ (e:=by exact decide_eq_false h1)
 refine bf ?_
 refine fe λB O=>az VE ?_
 unfold mG moC
 refine CD ?_
 refine az (λh s=>aK O.fS (H:= []) h (VD h (z:=z) (B:=B) (M:=M.fS) s)) ?_
 rcases oK:M.m.on with _|_
 ·rw[oK,if_neg (by decide)]at pM
  refine bq ?_
  refine zl T.YU (HM z M.fS oK A.sp) (.cons .here .nil) (λ_ _ _=>trivial) ?_
  refine bD ?_
  refine Rt [SH z M.fS.gj] results79 ?_
  exact⟨0,_,pM,rfl,rfl⟩
 rw[A.on]at oK;cases oK
theorem bF.tbl{B:Bx}{M:Mo}(O:bF B M){A:By}{V:Tb}{ty:oa}{nb mg:Nat}(d:oh B.C.A A B.W.all 0 4)(T:cD (B.C.wA A) V)(pm:V.all.Perm B.W.all)(hy:ty.ok=none→V.ob= [])(hn:V.n=B.W.n)(hmo:V.aB=B.W.aB)(GI:V.size=nb)(Co:mg=if V.st=2 then V.ob.length-V.mv else 0)(iU:V.st=2→V.mv<V.ob.length):
  bF ⟨B.C.wA A,V,ty,B.E⟩ {M with nb:=nb,mg:=mg}:=by
 have K:=O.k
 have dP:=xd d (λq hq=>O.mH hq) (λq hq=>by have:=((O.mH hq).aX K).2.1;omega)
 have same:∀q∈B.W.all,mu A q=mu B.C.A q:=λq h=>uA K dP (O.mH h) (O.t.it q h) λj s=>by obtain⟨_,_,s3⟩:=s;omega
 have lL:∀q,Live (B.C.wA A) q↔Live B.C q:=λq=>⟨λh=>⟨⟨h.i,h.own,h.al,h.k⟩,h.tk⟩,λh=>h.wA _⟩
 refine⟨?_,K.wA A,T,hy,Ko K O.o dP (λj q hq u g=>S04 g),O.x,λj q h=> ?_,O.ck,λq=>pm.mem_iff.trans (O.al q),λq=> ?_,λq h g=>O.ho q h (pm.mem_iff.1 g),λq h=>(same q (pm.mem_iff.1 h)).trans (O.it q (pm.mem_iff.1 h)),O.e.trans (jR pm.symm),iU,GI,Co,hmo.trans O.mo, ?_,O.un,O.on,O.go,O.wn,O.cf,hn.trans O.n,λq h=>O.lg q (pm.mem_iff.1 h)⟩
 ·show B.C.wA A=M.C.wA A
  conv=>lhs;rw[O.c]
  rfl
 ·show cM A q<16
  rw[show cM A q=cM B.C.A q from congrArg I3.cQ (same q (O.qS h))]
  exact O.mq j q h
 ·show Live (B.C.wA A) q↔q∈V.all∨_
  rw[lL,pm.mem_iff];exact O.lv q
 show M.v.fI=_
 rw[O.bt]
 exact(np _ pm).symm
def Mo.wX (M:Mo)(k:Nat):Mo:={M with mg:=M.mg-min k M.mg}
theorem bF.tst{B:Bx}{M:Mo}(O:bF B M){k:Nat}{A:By}{V:Tb}{ty:oa}(h2:B.W.st=2)(hy:ty.ok=none→V.ob= [])(S:Stp B.C B.W k A V):bF ⟨B.C.wA A,V,ty,B.E⟩ (M.wX k):=by
 have cB:=O.st h2
 have Co:=O.mg
 rw[if_pos h2]at Co
 have hz:V.ob.length-V.mv=if B.W.mv+k<B.W.ob.length then M.mg-min k M.mg else V.ob.length-V.mv:=by
  split
  ·next g=>obtain⟨_,e1,e2⟩:=S.on g;rw[e1,e2,Co];omega
  rfl
 refine O.tbl (nb:=M.nb) (mg:=M.mg-min k M.mg) S.d S.o S.p hy S.n S.aB (S.size.trans O.nb) ?_ ?_
 ·by_cases g:B.W.mv+k<B.W.ob.length
  ·obtain⟨e0,e1,e2⟩:=S.on g
   rw[if_pos e0,e1,e2,Co];omega
  have e0:=S.off (by omega)
  rw[if_neg (by omega),Co];omega
 intro e
 by_cases g:B.W.mv+k<B.W.ob.length
 ·obtain⟨e0,e1,e2⟩:=S.on g
  rw[e1,e2];exact g
 have e0:=S.off (by omega)
 omega
theorem Hd{B:Bx}{M:Mo}(O:bF B M)(z:Ly)(k:Nat)(hk:k≤1099511627776):
  aF aaa 78 [.pointer (some ⟨z.y.t,0,none⟩), .int .i64 (k:Int)] (λ_=>True) (Cl z.y.b B.C::kR z.y.t z.y.b B.W B.ty)
   (λv H=>v= .int .i64 ((min k M.mg:Nat):Int)∧∃A V ty,H=Cl z.y.b (B.C.wA A)::kR z.y.t z.y.b V ty∧bF ⟨B.C.wA A,V,ty,B.E⟩ (M.wX k)):=by
 rcases O.t.st with⟨h0,_⟩|⟨h2,_,_⟩
 ·have ZS:=O.st0.2 h0
  have h:=(Hg z.y.t z.y.b B.C O.k B.W B.ty h0 k).fr (H:=Cl z.y.b B.C::kR z.y.t z.y.b B.W B.ty) (R:=Cl z.y.b B.C::kR z.y.t z.y.b B.W B.ty) (lZ [] _) (λk aq=>aq.nth 1 rfl)
  refine h.out ?_
  rintro v H' ⟨H0,⟨rfl,rfl⟩,rfl⟩
  refine⟨_,⟨by rw[ZS,afN];rfl,B.C.A,B.W,B.ty,rfl, ?_⟩,λ_ s=>s⟩
  have:M.wX k=M:=by unfold Mo.wX;rw[ZS,afN];cases M;simp_all
  rw[this]
  exact O
 have cB:=O.st h2
 have Co:=O.mg
 rw[if_pos h2]at Co
 obtain⟨ok,nF⟩:∃ok,B.ty.ok=some ok:=by
  cases h:B.ty.ok with
  |none=>have:=O.ty h;rw[this]at cB;simp at cB
  |some x=>exact⟨x,rfl⟩
 have hty:B.ty=⟨B.ty.nk,some ok⟩:=by rw[←nF]
 have h:=He z.y.t z.y.b B.C O.k B.W B.ty.nk ok O.t h2 cB k hk
 rw[←hty]at h
 refine h.out ?_
 rintro v H' ⟨rfl,A,V,o',rfl,hy,S⟩
 exact⟨_,⟨by rw[Co],A,V,⟨B.ty.nk,o'⟩,rfl,O.tst h2 hy S⟩,λ_ s=>s⟩
def Mo.aV (M:Mo)(t:Mt):Mo:={M with v:={M.v with mt:=t}}
theorem bF.aV{B:Bx}{M:Mo}(O:bF B M)(t:Mt):bF B (M.aV t):=
 ⟨O.c,O.k,O.t,O.ty,O.o,O.x,O.mq,O.ck,O.al,O.lv,O.ho,O.it,O.e,O.st,O.nb,O.mg,O.mo,O.bt,O.un,O.on,O.go,O.wn,O.cf,O.n,O.lg⟩
theorem FP (M:Mo)(p:Nat):(M.look p).hole=M.hole∧(M.look p).m=M.m∧(M.look p).v.p=M.v.p∧(M.look p).v.mt=M.v.mt∧(M.look p).v.c=M.v.c∧(M.look p).v.aO=M.v.aO∧(M.look p).tn=M.tn:=by
 unfold Mo.look
 split<;>exact⟨rfl,rfl,rfl,rfl,rfl,rfl,rfl⟩
theorem AT:∀(l:List Nat) (M:Mo),(l.foldl Mo.look M).hole=M.hole∧(l.foldl Mo.look M).m=M.m∧(l.foldl Mo.look M).v.p=M.v.p∧(l.foldl Mo.look M).v.mt=M.v.mt∧(l.foldl Mo.look M).v.c=M.v.c∧(l.foldl Mo.look M).v.aO=M.v.aO∧(l.foldl Mo.look M).tn=M.tn
 | [],M=>⟨rfl,rfl,rfl,rfl,rfl,rfl,rfl⟩
 |p::l,M=>by
  obtain⟨a1,a2,a3,a4,a5,a6,a7⟩:=FP M p
  obtain⟨b1,b2,b3,b4,b5,b6,b7⟩:=AT l (M.look p)
  rw[adl]
  exact⟨b1.trans a1,b2.trans a2,b3.trans a3,b4.trans a4,b5.trans a5,b6.trans a6,b7.trans a7⟩
theorem xV:∀(f:Nat) (M:Mo),(M.bH f).2.hole=M.hole∧(M.bH f).2.m=M.m∧(M.bH f).2.v.p=M.v.p∧(M.bH f).2.v.mt=M.v.mt∧(M.bH f).2.v.c=M.v.c∧(M.bH f).2.v.aO=M.v.aO∧(M.bH f).2.tn=M.tn
 |0,M=>⟨rfl,rfl,rfl,rfl,rfl,rfl,rfl⟩
 |f+1,M=>by
  rcases hf:M.x.find M.ia M.Q with⟨_|_,x⟩
  ·rw[nX hf];exact⟨rfl,rfl,rfl,rfl,rfl,rfl,rfl⟩
  cases hx:x.nx with
  |none=>
   unfold Mo.bH
   rw[hf]
   dsimp only
   rw[hx]
   exact⟨rfl,rfl,rfl,rfl,rfl,rfl,rfl⟩
  |some p=>
   rw[nW hf hx]
   obtain⟨a1,a2,a3,a4,a5,a6,a7⟩:=FP {M with x:=x.pass M.Q} p
   obtain⟨b1,b2,b3,b4,b5,b6,b7⟩:=xV f (({M with x:=x.pass M.Q}:Mo).look p)
   exact⟨b1.trans a1,b2.trans a2,b3.trans a3,b4.trans a4,b5.trans a5,b6.trans a6,b7.trans a7⟩
theorem lB (M:Mo)(now aB:Int):(M.bX now aB).2.hole=M.hole∧(M.bX now aB).2.m=M.m∧(M.bX now aB).2.v.p=M.v.p∧(M.bX now aB).2.v.mt=M.v.mt∧(M.bX now aB).2.v.c=M.v.c∧(M.bX now aB).2.v.aO=M.v.aO∧(M.bX now aB).2.tn=M.tn:=by
 unfold Mo.bX
 split
 ·exact⟨rfl,rfl,rfl,rfl,rfl,rfl,rfl⟩
 unfold Mo.o9
 obtain⟨a1,a2,a3,a4,a5,a6,a7⟩:=AT (M.iY now (min aB 1048576)) M
 obtain⟨b1,b2,b3,b4,b5,b6,b7⟩:=xV ((min aB 1048576).toNat-(M.iY now (min aB 1048576)).length) ((M.iY now (min aB 1048576)).foldl Mo.look M)
 exact⟨b1.trans a1,b2.trans a2,b3.trans a3,b4.trans a4,b5.trans a5,b6.trans a6,b7.trans a7⟩
structure zJ (M N:Mo):Prop where
 h:M.hole=none→N.hole=none
 p:N.v.p=M.v.p
 mt:N.v.mt=M.v.mt
 c:N.v.c=M.v.c
 aO:N.v.aO=M.v.aO
 tn:N.tn=M.tn
 k:N.k=M.k
 w:N.iG=M.iG
theorem zJ.refl (M:Mo):zJ M M:=⟨id,rfl,rfl,rfl,rfl,rfl,rfl,rfl⟩
theorem zJ.trans{M N O:Mo}(a:zJ M N)(b:zJ N O):zJ M O:=⟨λh=>b.h (a.h h),b.p.trans a.p,b.mt.trans a.mt,b.c.trans a.c,b.aO.trans a.aO,b.tn.trans a.tn,b.k.trans a.k,b.w.trans a.w⟩
theorem Qg (M:Mo)(p:Nat):zJ M (M.bM p):=⟨id,rfl,rfl,rfl,rfl,rfl,rfl,rfl⟩
theorem Hr{M N:Mo}{p:Nat}(h:M.shift p=some N):zJ M N:=by
 unfold Mo.shift at h
 cases hc:M.take (M.C.cl p)with
 |none=>rw[hc]at h;cases h
 |some o=>
  rw[hc]at h
  cases h
  unfold Mo.take at hc
  cases hd:M.C.dH (M.C.cl p)with
  |none=>rw[hd]at hc;cases hc
  |some q=>rw[hd]at hc;cases hc;exact⟨λ_=>rfl,rfl,rfl,rfl,rfl,rfl,rfl,rfl⟩
theorem xC{M N:Mo}{r:Bool}(h:M.fW=(r,N)):zJ M N∧N.m.st=M.m.st:=by
 unfold Mo.fW at h
 split at h
 ·cases h;exact⟨⟨id,rfl,rfl,rfl,rfl,rfl,rfl,rfl⟩,rfl⟩
 split at h
 ·cases h;exact⟨Qg M _,rfl⟩
 split at h
 ·next hs=>cases h;exact⟨Hr hs,by rw[(NL hs).2]⟩
 cases h;exact⟨⟨id,rfl,rfl,rfl,rfl,rfl,rfl,rfl⟩,rfl⟩
theorem vZ:∀(f:Nat) (M:Mo),zJ M (M.ee f).2∧(M.ee f).2.m.st=M.m.st
 |0,M=>⟨zJ.refl M,rfl⟩
 |f+1,M=>by
  rcases hm:M.fW with⟨_|_,N⟩
  ·rw[rK hm];exact xC hm
  rw[rJ hm]
  obtain⟨a,b⟩:=xC hm
  obtain⟨c,d⟩:=vZ f N
  exact⟨a.trans c,d.trans b⟩
theorem Ee (M:Mo):zJ M M.gj∧M.gj.m.st=M.m.st:=by
 unfold Mo.gj
 split
 ·exact⟨zJ.refl M,rfl⟩
 split
 ·exact⟨zJ.refl M,rfl⟩
 split
 ·exact⟨zJ.refl M,rfl⟩
 exact⟨⟨id,rfl,rfl,rfl,rfl,rfl,rfl,rfl⟩,rfl⟩
theorem fP (M:Mo)(aB:Int):zJ M (M.gH aB).2∧(M.gH aB).2.m.st≤M.m.st+1:=by
 unfold Mo.gH
 split
 ·exact⟨zJ.refl M,Nat.le_succ _⟩
 have t:zJ M M.fS:=⟨id,rfl,rfl,rfl,rfl,rfl,rfl,rfl⟩
 split
 ·obtain⟨a,b⟩:=vZ (min aB 1048576).toNat M.fS
  exact⟨t.trans a,by rw[b];exact aan _⟩
 obtain⟨a,b⟩:=Ee M.fS
 exact⟨t.trans a,by show M.fS.gj.m.st≤_;rw[b];exact aan _⟩
structure sW (p:sQ):Prop where
 b:0≤p.b∧p.b≤1048576
 l:0≤p.l∧p.l≤1048576
 c:0≤p.c∧p.c≤1048576
 m:0≤p.m∧p.m≤1048576
def Mo.eD (M:Mo):Mo:=(M.wX M.v.p.b.toNat).aV {M.v.mt with bu:=cJ (M.v.mt.bu+(min M.v.p.b.toNat M.mg:Nat))}
noncomputable def Mo.iy (M:Mo):Mo:=(M.bX M.k.now M.v.p.c).2.aV {M.v.mt with cr:=cJ (M.v.mt.cr+((M.bX M.k.now M.v.p.c).1:Nat))}
noncomputable def Mo.jk (M:Mo):Mo:=(M.gH M.v.p.m).2.aV {M.v.mt with mv:=cJ (M.v.mt.mv+((M.gH M.v.p.m).1:Nat))}
noncomputable def Mo.beside (M:Mo):Mo:=M.eD.iy.jk
theorem Uh (M:Mo):M.iy.hole=M.hole∧M.iy.m=M.m∧M.iy.v.p=M.v.p:=by
 obtain⟨a1,a2,a3,a4,a5,a6,a7⟩:=lB M M.k.now M.v.p.c
 exact⟨a1,a2,a3⟩
theorem gB.gH{M:Mo}(A:gB M 1)(aB:Int):Ev M (M.gH aB).2:=by
 have h:=A.sp
 have T:Ev M M.fS:= .rf rfl rfl
 unfold Mo.gH
 split
 ·exact .rf rfl rfl
 rw[if_neg (by rw[A.on];decide)]
 unfold Mo.gj
 rw[if_pos (show 0<M.fS.C.spare from(by show 0<M.C.spare;omega))]
 exact T
theorem JI (sL:mX)(z:Ly)(M:Mo)(hh:M.hole=none)(iU:M.m.st<4611686018427387904)(Kc:sW M.v.p)(hA:gB M 1):aF aaa 37 [.pointer (some ⟨z.s,0,none⟩)] (λ_=>True) [SH z M]
  (λv H=>v= .tuple #[]∧H= [SH z M.beside]):=by
 refine af func37 rfl ntmps37 rfl ?_
 intro F _
 refine fe λB O=> ?_
 have ts:=Hd O z M.v.p.b.toNat (by have:=Kc.b;omega)
 rw[show((M.v.p.b.toNat:Nat):Int)=M.v.p.b by have:=Kc.b;omega]at ts
 unfold fk gr jZ gd pV iZ
 refine bd ?_
 refine aw ?_
 refine ik 20 T.mix (.cons (.there (.there (.there (.there (.there (.there (.there (.there .here)))))))) .nil) λF1 je bR aM=> ?_
 obtain⟨q1,_⟩:=bR
 refine oc ?_
 refine Tp (oC T.Vl rfl rfl (ts) (.cons .here (.cons .here (.cons .here (.cons .here .nil)))) (λ_ _ _=>trivial) ?_)
 rintro v H' ⟨rfl,A,V,ty,rfl,O1⟩
 refine bd ?_
 have O2:=O1.aV {M.v.mt with bu:=cJ (M.v.mt.bu+(min M.v.p.b.toNat M.mg:Nat))}
 refine aW ?_
 refine gO aM ?_
 refine bf ?_
 refine Hh (H':= [Cl z.y.b (B.C.wA A),ag z.y.t 145 (eT z.y.b V ty),ag ty.nk 163 (aC (au V.nb)),jd ty.ok 163 (aC (au V.ob)),ag z.y.q 139 (fj z.y.b z.qb B.C.ae.length),ag z.qb 327 (M.Q.flatMap (dR B.C)),gu z.y.cr z.y.q z.y.wh B.C.ae.length (bo z.s) (bn z.s) B.C M.x,Wl z.y.wh B.E M.tn,ag z.s 111 [.pointer (some ⟨z.y.b,0,none⟩), .pointer (some ⟨z.y.ck,0,none⟩), .pointer (some ⟨z.y.t,0,none⟩), .pointer (some ⟨z.y.lu,0,none⟩), .pointer (some ⟨z.y.wh,0,none⟩), .pointer (some ⟨z.y.cr,0,none⟩), .pointer (some ⟨z.y.mo,0,none⟩), .pointer (some ⟨z.y.q,0,none⟩), .int .i64 M.v.c.ao, .int .i64 M.v.c.cP, .int .i64 M.v.c.gA, .int .i64 M.v.c.dE, .int .i64 M.v.c.lim, .int .i64 M.v.c.hot, .int .i64 M.v.c.warm, .int .i64 M.v.p.b, .int .i64 M.v.p.l, .int .i64 M.v.p.c, .int .i64 M.v.p.m, .int .u64 (M.v.aO:Int), .int .i64 (M.v.fI:Int), .int .i64 M.v.mt.dr, .int .i64 M.v.mt.re, .int .i64 (IntKind.i64.wrap (M.v.mt.bu+((min M.v.p.b.toNat M.mg:Nat):Int))), .int .i64 M.v.mt.li, .int .i64 M.v.mt.lo, .int .i64 M.v.mt.cr, .int .i64 M.v.mt.mv, .slice M.v.wa M.v.wn M.v.wc],ki z.y.ck M.k,iW z.y.lu z.y.b z.y.q z.hot z.warm,mG z.y.mo z.y.b z.ub (bo z.s) (bn z.s) (bT z.s) M.m,mN z.ub M.m,kF M]) ?_
 refine az (aK O2 (H:= [])) ?_
 have Ut:M.eD.v.p=M.v.p:=rfl
 have hh1:M.eD.hole=none:=hh
 have BZ:M.eD.m.st=M.m.st:=rfl
 have QH:gB M.eD.iy 1:=hA.ev (((Ev.rf rfl rfl:Ev M M.eD).trans (Ev.bX M.eD M.eD.k.now M.eD.v.p.c)).trans (.rf rfl rfl))
 change G _ _ _ _ _ [SH z M.eD]
 rw[show M.beside=M.eD.iy.jk from rfl]
 generalize M.eD=M1 at*
 refine fe λB3 O3=> ?_
 unfold fk gr jZ gd pV iZ
 refine bd ?_
 refine aw ?_
 refine ik 16 T.mix (.cons (.there (.there (.there (.there (.there (.there (.there (.there .here)))))))) .nil) λF2 zM eG ez=> ?_
 obtain⟨q1,_⟩:=eG
 refine bA ?_
 refine Tp (oC T.gI rfl rfl (hJ z.y.ck M1.k) .nil (λ_ le aq=>aq.nth 8 rfl) ?_)
 rintro v H' ⟨rfl,rfl⟩
 refine bd ?_
 refine br ?_
 refine gO ez ?_
 refine bd ?_
 refine az (λh s=>aK O3 (H:= []) h (by revert s;revert h;unfold fk gr jZ gd pV iZ;simp only[s8,cap];exact Eh)) ?_
 refine Tp (oC T.Vr rfl rfl (Bt sL z M1 M1.k.now M1.v.p.c) (.cons .here .nil) (λ_ _ _=>trivial) ?_)
 rintro v H' ⟨n1,t1,M2,EH,rfl,rfl⟩
 refine bd ?_
 obtain⟨c1,c2,c3,c4,c5,c6,c7⟩:=lB M1 M1.k.now M1.v.p.c
 have cX:M1.iy=M2.aV {M1.v.mt with cr:=cJ (M1.v.mt.cr+(n1:Nat))}:=by unfold Mo.iy;rw[EH]
 rw[EH]at c1 c2 c3 c4
 dsimp only at c1 c2 c3 c4
 refine bD ?_
 refine fe λB4 O4=> ?_
 have O5:=O4.aV {M1.v.mt with cr:=cJ (M1.v.mt.cr+(n1:Nat))}
 unfold fk gr jZ gd pV iZ
 rw[c4]
 refine bd ?_
 refine gP ?_
 refine Hh (H':=lM z B4.C B4.W B4.ty B4.C.ae.length (M2.Q.flatMap (dR B4.C)) M2.x B4.E M2.tn (M2.v,[.int .u64 (M2.v.aO:Int), .int .i64 (M2.v.fI:Int), .int .i64 M1.v.mt.dr, .int .i64 M1.v.mt.re, .int .i64 M1.v.mt.bu, .int .i64 M1.v.mt.li, .int .i64 M1.v.mt.lo, .int .i64 (IntKind.i64.wrap (M1.v.mt.cr+(n1:Int))), .int .i64 M1.v.mt.mv, .slice M2.v.wa M2.v.wn M2.v.wc]) M2.k M2.m M2 []) ?_
 unfold lM wu
 refine az (aK O5 (H:= [])) ?_
 obtain⟨d1,d2,d3⟩:=Uh M1
 rw[Ut.symm]at Kc
 rw[hh1]at d1
 rw[←cX]
 have xZ:M1.iy.m.st<4611686018427387904:=by rw[d2,BZ];exact iU
 clear cX O5
 generalize M1.iy=M3 at*
 refine fe λB6 O6=> ?_
 unfold fk gr jZ gd pV iZ
 refine bd ?_
 refine Aj T.mix .nil λF3 VQ uo gJ=> ?_
 refine Dt 0 rfl Mv ?_
 refine Dt 1 rfl Nc ?_
 refine Dt 2 rfl (Fa T.fm) ?_
 refine Dt 3 rfl (Fa T.fR) ?_
 refine Dt 5 rfl Mv ?_
 refine Dt 6 rfl Nc ?_
 refine Dt 7 rfl (Fa T.jx) ?_
 refine Dt 8 rfl (Fa T.xP) ?_
 refine Dt 10 rfl Mv ?_
 refine Dt 11 rfl Nc ?_
 refine Dt 12 rfl (Fa T.xO) ?_
 refine Dt 13 rfl (Fa T.Bc) ?_
 refine D3 4 9 14 ?_ ?_ ?_
 ·refine Do rfl (oL T.dD ?_)
  refine aA ?_
  refine D2 9 14 ?_ ?_
  ·refine Do rfl (oL T.q9 ?_)
   refine aA ?_
   refine Dn 14 ?_
   refine Do rfl (oL T.dD ?_)
   refine aA ?_
   refine az (λh s=>aK O6 (H:= []) h (by revert s;revert h;unfold fk gr jZ gd pV iZ;simp only[s8,cap];exact Eh)) ?_
   refine Dn 15 ?_
   refine Do rfl (oC T.sn rfl rfl (iO z M3 d1 xZ QH M3.v.p.m) (.cons .here .nil) (λ_ _ _=>trivial) ?_)
   rintro v H' ⟨n2,M4,pM,rfl,rfl⟩
   refine bd ?_
   have oO:=(fP M3 M3.v.p.m).1.mt
   rw[pM]at oO
   change M4.v.mt=M3.v.mt at oO
   refine fe λB7 O7=> ?_
   unfold fk gr jZ gd pV iZ
   rw[oO]
   refine bd ?_
   refine aA ?_
   refine Dt 16 rfl Im ?_
   refine Dt 17 rfl Nc ?_
   refine Dt 18 rfl (Fa T.fm) ?_
   refine Dt 19 rfl (Fa T.fR) ?_
   refine Dn 20 ?_
   refine Do rfl (oS T.dD ?_)
   refine aA ?_
   refine bw (by kernel_rfl) gJ ?_
   have bU:M3.jk=M4.aV {M3.v.mt with mv:=cJ (M3.v.mt.mv+(n2:Nat))}:=by unfold Mo.jk;rw[pM]
   refine Hh (H':=lM z B7.C B7.W B7.ty B7.C.ae.length (M4.Q.flatMap (dR B7.C)) M4.x B7.E M4.tn (M4.v,[.int .u64 (M4.v.aO:Int), .int .i64 (M4.v.fI:Int), .int .i64 M3.v.mt.dr, .int .i64 M3.v.mt.re, .int .i64 M3.v.mt.bu, .int .i64 M3.v.mt.li, .int .i64 M3.v.mt.lo, .int .i64 M3.v.mt.cr, .int .i64 (IntKind.i64.wrap (M3.v.mt.mv+(n2:Int))), .slice M4.v.wa M4.v.wn M4.v.wc]) M4.k M4.m M4 []) ?_
   unfold lM wu
   refine az (aK (O7.aV {M3.v.mt with mv:=cJ (M3.v.mt.mv+(n2:Nat))}) (H:= [])) ?_
   refine jA [SH z (M4.aV {M3.v.mt with mv:=cJ (M3.v.mt.mv+(n2:Nat))})] results37 ?_
   exact⟨rfl,by rw[bU]⟩
  refine Do rfl (oL T.dD ?_)
  refine aA ?_
  refine Dn 9 ?_
  refine Do rfl (oL T.q9 ?_)
  refine aA ?_
  refine az (λh s=>aK O6 (H:= []) h (by revert s;revert h;unfold fk gr jZ gd pV iZ;simp only[s8,cap];exact Eh)) ?_
  refine Dn 15 ?_
  refine Do rfl (oC T.sn rfl rfl (iO z M3 d1 xZ QH M3.v.p.m) (.cons .here .nil) (λ_ _ _=>trivial) ?_)
  rintro v H' ⟨n2,M4,pM,rfl,rfl⟩
  refine bd ?_
  have oO:=(fP M3 M3.v.p.m).1.mt
  rw[pM]at oO
  change M4.v.mt=M3.v.mt at oO
  refine fe λB7 O7=> ?_
  unfold fk gr jZ gd pV iZ
  rw[oO]
  refine bd ?_
  refine aA ?_
  refine Dt 16 rfl Im ?_
  refine Dt 17 rfl Nc ?_
  refine Dt 18 rfl (Fa T.fm) ?_
  refine Dt 19 rfl (Fa T.fR) ?_
  refine Dn 20 ?_
  refine Do rfl (oS T.dD ?_)
  refine aA ?_
  refine bw (by kernel_rfl) gJ ?_
  have bU:M3.jk=M4.aV {M3.v.mt with mv:=cJ (M3.v.mt.mv+(n2:Nat))}:=by unfold Mo.jk;rw[pM]
  refine Hh (H':=lM z B7.C B7.W B7.ty B7.C.ae.length (M4.Q.flatMap (dR B7.C)) M4.x B7.E M4.tn (M4.v,[.int .u64 (M4.v.aO:Int), .int .i64 (M4.v.fI:Int), .int .i64 M3.v.mt.dr, .int .i64 M3.v.mt.re, .int .i64 M3.v.mt.bu, .int .i64 M3.v.mt.li, .int .i64 M3.v.mt.lo, .int .i64 M3.v.mt.cr, .int .i64 (IntKind.i64.wrap (M3.v.mt.mv+(n2:Int))), .slice M4.v.wa M4.v.wn M4.v.wc]) M4.k M4.m M4 []) ?_
  unfold lM wu
  refine az (aK (O7.aV {M3.v.mt with mv:=cJ (M3.v.mt.mv+(n2:Nat))}) (H:= [])) ?_
  refine jA [SH z (M4.aV {M3.v.mt with mv:=cJ (M3.v.mt.mv+(n2:Nat))})] results37 ?_
  exact⟨rfl,by rw[bU]⟩
 ·refine Do rfl (oL T.q9 ?_)
  refine aA ?_
  refine D2 4 14 ?_ ?_
  ·refine Do rfl (oL T.dD ?_)
   refine aA ?_
   refine Dn 14 ?_
   refine Do rfl (oL T.dD ?_)
   refine aA ?_
   refine az (λh s=>aK O6 (H:= []) h (by revert s;revert h;unfold fk gr jZ gd pV iZ;simp only[s8,cap];exact Eh)) ?_
   refine Dn 15 ?_
   refine Do rfl (oC T.sn rfl rfl (iO z M3 d1 xZ QH M3.v.p.m) (.cons .here .nil) (λ_ _ _=>trivial) ?_)
   rintro v H' ⟨n2,M4,pM,rfl,rfl⟩
   refine bd ?_
   have oO:=(fP M3 M3.v.p.m).1.mt
   rw[pM]at oO
   change M4.v.mt=M3.v.mt at oO
   refine fe λB7 O7=> ?_
   unfold fk gr jZ gd pV iZ
   rw[oO]
   refine bd ?_
   refine aA ?_
   refine Dt 16 rfl Im ?_
   refine Dt 17 rfl Nc ?_
   refine Dt 18 rfl (Fa T.fm) ?_
   refine Dt 19 rfl (Fa T.fR) ?_
   refine Dn 20 ?_
   refine Do rfl (oS T.dD ?_)
   refine aA ?_
   refine bw (by kernel_rfl) gJ ?_
   have bU:M3.jk=M4.aV {M3.v.mt with mv:=cJ (M3.v.mt.mv+(n2:Nat))}:=by unfold Mo.jk;rw[pM]
   refine Hh (H':=lM z B7.C B7.W B7.ty B7.C.ae.length (M4.Q.flatMap (dR B7.C)) M4.x B7.E M4.tn (M4.v,[.int .u64 (M4.v.aO:Int), .int .i64 (M4.v.fI:Int), .int .i64 M3.v.mt.dr, .int .i64 M3.v.mt.re, .int .i64 M3.v.mt.bu, .int .i64 M3.v.mt.li, .int .i64 M3.v.mt.lo, .int .i64 M3.v.mt.cr, .int .i64 (IntKind.i64.wrap (M3.v.mt.mv+(n2:Int))), .slice M4.v.wa M4.v.wn M4.v.wc]) M4.k M4.m M4 []) ?_
   unfold lM wu
   refine az (aK (O7.aV {M3.v.mt with mv:=cJ (M3.v.mt.mv+(n2:Nat))}) (H:= [])) ?_
   refine jA [SH z (M4.aV {M3.v.mt with mv:=cJ (M3.v.mt.mv+(n2:Nat))})] results37 ?_
   exact⟨rfl,by rw[bU]⟩
  refine Do rfl (oL T.dD ?_)
  refine aA ?_
  refine D2 4 15 ?_ ?_
  ·refine Do rfl (oL T.dD ?_)
   refine aA ?_
   refine az (λh s=>aK O6 (H:= []) h (by revert s;revert h;unfold fk gr jZ gd pV iZ;simp only[s8,cap];exact Eh)) ?_
   refine Dn 15 ?_
   refine Do rfl (oC T.sn rfl rfl (iO z M3 d1 xZ QH M3.v.p.m) (.cons .here .nil) (λ_ _ _=>trivial) ?_)
   rintro v H' ⟨n2,M4,pM,rfl,rfl⟩
   refine bd ?_
   have oO:=(fP M3 M3.v.p.m).1.mt
   rw[pM]at oO
   change M4.v.mt=M3.v.mt at oO
   refine fe λB7 O7=> ?_
   unfold fk gr jZ gd pV iZ
   rw[oO]
   refine bd ?_
   refine aA ?_
   refine Dt 16 rfl Im ?_
   refine Dt 17 rfl Nc ?_
   refine Dt 18 rfl (Fa T.fm) ?_
   refine Dt 19 rfl (Fa T.fR) ?_
   refine Dn 20 ?_
   refine Do rfl (oS T.dD ?_)
   refine aA ?_
   refine bw (by kernel_rfl) gJ ?_
   have bU:M3.jk=M4.aV {M3.v.mt with mv:=cJ (M3.v.mt.mv+(n2:Nat))}:=by unfold Mo.jk;rw[pM]
   refine Hh (H':=lM z B7.C B7.W B7.ty B7.C.ae.length (M4.Q.flatMap (dR B7.C)) M4.x B7.E M4.tn (M4.v,[.int .u64 (M4.v.aO:Int), .int .i64 (M4.v.fI:Int), .int .i64 M3.v.mt.dr, .int .i64 M3.v.mt.re, .int .i64 M3.v.mt.bu, .int .i64 M3.v.mt.li, .int .i64 M3.v.mt.lo, .int .i64 M3.v.mt.cr, .int .i64 (IntKind.i64.wrap (M3.v.mt.mv+(n2:Int))), .slice M4.v.wa M4.v.wn M4.v.wc]) M4.k M4.m M4 []) ?_
   unfold lM wu
   refine az (aK (O7.aV {M3.v.mt with mv:=cJ (M3.v.mt.mv+(n2:Nat))}) (H:= [])) ?_
   refine jA [SH z (M4.aV {M3.v.mt with mv:=cJ (M3.v.mt.mv+(n2:Nat))})] results37 ?_
   exact⟨rfl,by rw[bU]⟩
  refine az (λh s=>aK O6 (H:= []) h (by revert s;revert h;unfold fk gr jZ gd pV iZ;simp only[s8,cap];exact Eh)) ?_
  refine Do rfl (oC T.sn rfl rfl (iO z M3 d1 xZ QH M3.v.p.m) (.cons .here .nil) (λ_ _ _=>trivial) ?_)
  rintro v H' ⟨n2,M4,pM,rfl,rfl⟩
  refine bd ?_
  have oO:=(fP M3 M3.v.p.m).1.mt
  rw[pM]at oO
  change M4.v.mt=M3.v.mt at oO
  refine fe λB7 O7=> ?_
  unfold fk gr jZ gd pV iZ
  rw[oO]
  refine bd ?_
  refine aA ?_
  refine Dn 4 ?_
  refine Do rfl (oL T.dD ?_)
  refine aA ?_
  refine Dt 16 rfl Im ?_
  refine Dt 17 rfl Nc ?_
  refine Dt 18 rfl (Fa T.fm) ?_
  refine Dt 19 rfl (Fa T.fR) ?_
  refine Dn 20 ?_
  refine Do rfl (oS T.dD ?_)
  refine aA ?_
  refine bw (by kernel_rfl) gJ ?_
  have bU:M3.jk=M4.aV {M3.v.mt with mv:=cJ (M3.v.mt.mv+(n2:Nat))}:=by unfold Mo.jk;rw[pM]
  refine Hh (H':=lM z B7.C B7.W B7.ty B7.C.ae.length (M4.Q.flatMap (dR B7.C)) M4.x B7.E M4.tn (M4.v,[.int .u64 (M4.v.aO:Int), .int .i64 (M4.v.fI:Int), .int .i64 M3.v.mt.dr, .int .i64 M3.v.mt.re, .int .i64 M3.v.mt.bu, .int .i64 M3.v.mt.li, .int .i64 M3.v.mt.lo, .int .i64 M3.v.mt.cr, .int .i64 (IntKind.i64.wrap (M3.v.mt.mv+(n2:Int))), .slice M4.v.wa M4.v.wn M4.v.wc]) M4.k M4.m M4 []) ?_
  unfold lM wu
  refine az (aK (O7.aV {M3.v.mt with mv:=cJ (M3.v.mt.mv+(n2:Nat))}) (H:= [])) ?_
  refine jA [SH z (M4.aV {M3.v.mt with mv:=cJ (M3.v.mt.mv+(n2:Nat))})] results37 ?_
  exact⟨rfl,by rw[bU]⟩
 refine Do rfl (oL T.dD ?_)
 refine aA ?_
 refine D2 4 9 ?_ ?_
 ·refine Do rfl (oL T.dD ?_)
  refine aA ?_
  refine Dn 9 ?_
  refine Do rfl (oL T.q9 ?_)
  refine aA ?_
  refine az (λh s=>aK O6 (H:= []) h (by revert s;revert h;unfold fk gr jZ gd pV iZ;simp only[s8,cap];exact Eh)) ?_
  refine Dn 15 ?_
  refine Do rfl (oC T.sn rfl rfl (iO z M3 d1 xZ QH M3.v.p.m) (.cons .here .nil) (λ_ _ _=>trivial) ?_)
  rintro v H' ⟨n2,M4,pM,rfl,rfl⟩
  refine bd ?_
  have oO:=(fP M3 M3.v.p.m).1.mt
  rw[pM]at oO
  change M4.v.mt=M3.v.mt at oO
  refine fe λB7 O7=> ?_
  unfold fk gr jZ gd pV iZ
  rw[oO]
  refine bd ?_
  refine aA ?_
  refine Dt 16 rfl Im ?_
  refine Dt 17 rfl Nc ?_
  refine Dt 18 rfl (Fa T.fm) ?_
  refine Dt 19 rfl (Fa T.fR) ?_
  refine Dn 20 ?_
  refine Do rfl (oS T.dD ?_)
  refine aA ?_
  refine bw (by kernel_rfl) gJ ?_
  have bU:M3.jk=M4.aV {M3.v.mt with mv:=cJ (M3.v.mt.mv+(n2:Nat))}:=by unfold Mo.jk;rw[pM]
  refine Hh (H':=lM z B7.C B7.W B7.ty B7.C.ae.length (M4.Q.flatMap (dR B7.C)) M4.x B7.E M4.tn (M4.v,[.int .u64 (M4.v.aO:Int), .int .i64 (M4.v.fI:Int), .int .i64 M3.v.mt.dr, .int .i64 M3.v.mt.re, .int .i64 M3.v.mt.bu, .int .i64 M3.v.mt.li, .int .i64 M3.v.mt.lo, .int .i64 M3.v.mt.cr, .int .i64 (IntKind.i64.wrap (M3.v.mt.mv+(n2:Int))), .slice M4.v.wa M4.v.wn M4.v.wc]) M4.k M4.m M4 []) ?_
  unfold lM wu
  refine az (aK (O7.aV {M3.v.mt with mv:=cJ (M3.v.mt.mv+(n2:Nat))}) (H:= [])) ?_
  refine jA [SH z (M4.aV {M3.v.mt with mv:=cJ (M3.v.mt.mv+(n2:Nat))})] results37 ?_
  exact⟨rfl,by rw[bU]⟩
 refine Do rfl (oL T.q9 ?_)
 refine aA ?_
 refine D2 4 15 ?_ ?_
 ·refine Do rfl (oL T.dD ?_)
  refine aA ?_
  refine az (λh s=>aK O6 (H:= []) h (by revert s;revert h;unfold fk gr jZ gd pV iZ;simp only[s8,cap];exact Eh)) ?_
  refine Dn 15 ?_
  refine Do rfl (oC T.sn rfl rfl (iO z M3 d1 xZ QH M3.v.p.m) (.cons .here .nil) (λ_ _ _=>trivial) ?_)
  rintro v H' ⟨n2,M4,pM,rfl,rfl⟩
  refine bd ?_
  have oO:=(fP M3 M3.v.p.m).1.mt
  rw[pM]at oO
  change M4.v.mt=M3.v.mt at oO
  refine fe λB7 O7=> ?_
  unfold fk gr jZ gd pV iZ
  rw[oO]
  refine bd ?_
  refine aA ?_
  refine Dt 16 rfl Im ?_
  refine Dt 17 rfl Nc ?_
  refine Dt 18 rfl (Fa T.fm) ?_
  refine Dt 19 rfl (Fa T.fR) ?_
  refine Dn 20 ?_
  refine Do rfl (oS T.dD ?_)
  refine aA ?_
  refine bw (by kernel_rfl) gJ ?_
  have bU:M3.jk=M4.aV {M3.v.mt with mv:=cJ (M3.v.mt.mv+(n2:Nat))}:=by unfold Mo.jk;rw[pM]
  refine Hh (H':=lM z B7.C B7.W B7.ty B7.C.ae.length (M4.Q.flatMap (dR B7.C)) M4.x B7.E M4.tn (M4.v,[.int .u64 (M4.v.aO:Int), .int .i64 (M4.v.fI:Int), .int .i64 M3.v.mt.dr, .int .i64 M3.v.mt.re, .int .i64 M3.v.mt.bu, .int .i64 M3.v.mt.li, .int .i64 M3.v.mt.lo, .int .i64 M3.v.mt.cr, .int .i64 (IntKind.i64.wrap (M3.v.mt.mv+(n2:Int))), .slice M4.v.wa M4.v.wn M4.v.wc]) M4.k M4.m M4 []) ?_
  unfold lM wu
  refine az (aK (O7.aV {M3.v.mt with mv:=cJ (M3.v.mt.mv+(n2:Nat))}) (H:= [])) ?_
  refine jA [SH z (M4.aV {M3.v.mt with mv:=cJ (M3.v.mt.mv+(n2:Nat))})] results37 ?_
  exact⟨rfl,by rw[bU]⟩
 refine az (λh s=>aK O6 (H:= []) h (by revert s;revert h;unfold fk gr jZ gd pV iZ;simp only[s8,cap];exact Eh)) ?_
 refine Do rfl (oC T.sn rfl rfl (iO z M3 d1 xZ QH M3.v.p.m) (.cons .here .nil) (λ_ _ _=>trivial) ?_)
 rintro v H' ⟨n2,M4,pM,rfl,rfl⟩
 refine bd ?_
 have oO:=(fP M3 M3.v.p.m).1.mt
 rw[pM]at oO
 change M4.v.mt=M3.v.mt at oO
 refine fe λB7 O7=> ?_
 unfold fk gr jZ gd pV iZ
 rw[oO]
 refine bd ?_
 refine aA ?_
 refine Dn 4 ?_
 refine Do rfl (oL T.dD ?_)
 refine aA ?_
 refine Dt 16 rfl Im ?_
 refine Dt 17 rfl Nc ?_
 refine Dt 18 rfl (Fa T.fm) ?_
 refine Dt 19 rfl (Fa T.fR) ?_
 refine Dn 20 ?_
 refine Do rfl (oS T.dD ?_)
 refine aA ?_
 refine bw (by kernel_rfl) gJ ?_
 have bU:M3.jk=M4.aV {M3.v.mt with mv:=cJ (M3.v.mt.mv+(n2:Nat))}:=by unfold Mo.jk;rw[pM]
 refine Hh (H':=lM z B7.C B7.W B7.ty B7.C.ae.length (M4.Q.flatMap (dR B7.C)) M4.x B7.E M4.tn (M4.v,[.int .u64 (M4.v.aO:Int), .int .i64 (M4.v.fI:Int), .int .i64 M3.v.mt.dr, .int .i64 M3.v.mt.re, .int .i64 M3.v.mt.bu, .int .i64 M3.v.mt.li, .int .i64 M3.v.mt.lo, .int .i64 M3.v.mt.cr, .int .i64 (IntKind.i64.wrap (M3.v.mt.mv+(n2:Int))), .slice M4.v.wa M4.v.wn M4.v.wc]) M4.k M4.m M4 []) ?_
 unfold lM wu
 refine az (aK (O7.aV {M3.v.mt with mv:=cJ (M3.v.mt.mv+(n2:Nat))}) (H:= [])) ?_
 refine jA [SH z (M4.aV {M3.v.mt with mv:=cJ (M3.v.mt.mv+(n2:Nat))})] results37 ?_
 exact⟨rfl,by rw[bU]⟩
def Mo.find (M:Mo)(k:List UInt8):Option Nat:=M.Q.flatten.find? λp=>decide ((M.it p).key=k)
theorem bF.KU{B:Bx}{M:Mo}(O:bF B M)(k:List UInt8):B.W.get B.C k=M.find k:=by
 have hk:∀p∈B.W.all,aE B.C.A p=(M.it p).key:=λp hp=>(O.iw hp).2.2.2.2.1
 cases hf:M.find k with
 |none=>
  unfold Mo.find at hf
  rw[aef]at hf
  refine get_none λp hp e=>hf p (O.perm.mem_iff.1 hp) (decide_eq_true ?_)
  rw[←hk p hp];exact e
 |some p=>
  unfold Mo.find at hf
  have h1:=ady hf
  have h2:(M.it p).key=k:=by simpa using ae6 hf
  have hp:=O.perm.mem_iff.2 h1
  exact get_some O.t hp ((hk p hp).trans h2)
theorem lz{M:Mo}{k:List UInt8}{p:Nat}(h:M.find k=some p):M.has p∧(M.it p).key=k:=by
 unfold Mo.find at h
 exact⟨fh.1 (ady h),by simpa using ae6 h⟩
def Mo.VP (M:Mo):kZ:=⟨M.Q,λp=>decide ((M.it p).cQ % 2=1),M.x⟩
def Mo.ye (M:Mo)(t:kZ):Mo:={M with Q:=t.Q,x:=t.x,it:=λp=>{M.it p with cQ:=mkSet (M.it p).cQ (t.ac p)}}
theorem C8{C:Cs}(K:Ok C){B:By}{S:Nat→Nat→Prop}(d:cI C C.A B S){p:Nat}(L:At C p)(I:gC C p)(h:∀j,S p j→j<16∨j=45∨j=46):mu B p={mu C.A p with cQ:=cM B p}:=by
 have n1:=(L.aX K).2.1
 have hf:=I.fits
 have r:=λ(o w:Nat) (h2:o+w≤C.sz (C.cl p)) (h3:∀j,o≤j→j<o+w→¬(j<16∨j=45∨j=46))=>ke K d L h2 (λj g1 g2 s=>h3 j g1 g2 (h j s))
 have e1:kl B p=kl C.A p:=r 44 1 (by omega) (λj g1 g2=>by omega)
 have e2:vl B p=vl C.A p:=r 48 4 (by omega) (λj g1 g2=>by omega)
 have e3:aE B p=aE C.A p:=by
  unfold aE
  rw[e1]
  exact so K d L (by omega) (λj g1 g2 s=>by have:=h j s;omega)
 have e4:mJ B p=mJ C.A p:=by
  unfold mJ
  rw[e1,e2,aeb]
  exact so K d L (by omega) (λj g1 g2 s=>by have:=h j s;omega)
 unfold mu QI ud lP pS
 rw[e3,e4,r 40 4 (by omega) (λj g1 g2=>by omega),r 16 8 (by omega) (λj g1 g2=>by omega),r 24 8 (by omega) (λj g1 g2=>by omega),r 32 8 (by omega) (λj g1 g2=>by omega)]
theorem bF.bai{B:Bx}{M:Mo}(O:bF B M):BaI B.C B.C.A M.VP:=
 ⟨O.o,O.x,O.mq,λi p h=>by unfold GM;rw[(O.z6 (O.qS h)).1];rfl⟩
theorem bF.bal{B:Bx}{M:Mo}(O:bF B M){A:By}{t:kZ}(T:G3 B.C M.Q A t):bF ⟨B.C.wA A,B.W,B.ty,B.E⟩ (M.ye t):=by
 have K:=O.k
 have hS:∀q j,SB q j→j<16∨j=45∨j=46:=λq j s=>by unfold SB at s;omega
 have jz:∀p∈B.W.all,mu A p={M.it p with cQ:=mkSet (M.it p).cQ (t.ac p)}:=λp hp=>by
  rw[C8 K T.d (O.mH hp) (O.t.it p hp) (λj s=>hS p j s),O.it p hp]
  obtain⟨i,hi⟩:=(T.mem p).2 ((O.al p).1 hp)
  have h1:=T.mr p (O.qP hp)
  have h2:=T.i.ac i p hi
  have h3:=(O.z6 hp).1
  have h4:cM A p=mkSet (M.it p).cQ (t.ac p):=by
   unfold mkSet
   rw[←h3,←h2,←h1]
   unfold GM
   by_cases e:cM A p % 2=1
   ·rw[decide_eq_true e,if_pos rfl];omega
   rw[decide_eq_false e,if_neg (by decide)];omega
  rw[h4]
 have lL:∀q,Live (B.C.wA A) q↔Live B.C q:=λq=>⟨λh=>⟨⟨h.i,h.own,h.al,h.k⟩,h.tk⟩,λh=>h.wA _⟩
 refine⟨?_,K.wA A,GO K O.t T.d λp _ j s=>by unfold SB at s;unfold k7;omega,O.ty,T.i.o,T.i.x,T.i.mq,O.ck,λp=>(O.al p).trans (T.mem p).symm,λq=>(lL q).trans (O.lv q),O.ho,jz, ?_,O.st,O.nb,O.mg,O.mo,O.bt,O.un,O.on,O.go,O.wn,O.cf,O.n,O.lg⟩
 ·show B.C.wA A=M.C.wA A
  conv=>lhs;rw[O.c]
  rfl
 exact O.e.trans (aaq.of_eq (fq λq h=>⟨rfl,rfl,rfl⟩).symm)
def Mo.aD (M:Mo)(a:Option Addr)(c:Nat):Mo:={M with v:={M.v with wa:=a,wn:=M.iG.length,wc:=c}}
def SW (z:Ly)(M:Mo):aa:=λh=>∃w:Option Addr×Nat,SH z (M.aD w.1 w.2) h
theorem ti{P:Program}{f:FuncId}{args:List Value}{pre:Hp→Prop}{H:List aa}{R:Value→List aa→Prop}{z:Ly}{M:Mo}(h:∀a c,aF P f args pre (SH z (M.aD a c)::H) R):aF P f args pre (SW z M::H) R:=
 aF.ZY λw=>h w.1 w.2
theorem fE{z:Ly}{M:Mo}(a:Option Addr)(c:Nat){H:List aa}:∀h,ai (SH z (M.aD a c)::H) h→ai (SW z M::H) h:=λh s=>
 aY (λk x=>⟨(a,c),x⟩) s
theorem xa{n:Nat}{ds:List Deferred}{F:dy}{K:Act→World→Prop}{σ:aR}{z:Ly}{M:Mo}{H:List aa}(h:∀a c,G n ds F K σ (SH z (M.aD a c)::H)):G n ds F K σ (SW z M::H):=
 abc λw=>h w.1 w.2
theorem Ve{n:Nat}{ds:List Deferred}{F:dy}{K:Act→World→Prop}{σ:aR}{z:Ly}{M:Mo}{H:List aa}(a:Option Addr)(c:Nat)(h:G n ds F K σ (SW z M::H)):G n ds F K σ (SH z (M.aD a c)::H):=
 az (fE a c) h
theorem gy{P:Program}{f:FuncId}{args:List Value}{z:Ly}{M N:Mo}{T:Value→Prop}(h:∀a c,aF P f args (λ_=>True) [SH z (M.aD a c)] (λv H=>T v∧H= [SH z (N.aD a c)])):aF P f args (λ_=>True) [SW z M] (λv H=>T v∧H= [SW z N]):=
 ti λa c=>(h a c).out (by
  rintro v H' ⟨t,rfl⟩
  exact⟨[SW z N],⟨t,rfl⟩,λk s=>fE a c k s⟩)
theorem Hl (z:Ly)(M:Mo)(p:Nat)(hp:M.has p):aF aaa 40 [.pointer (some ⟨z.s,0,none⟩), .int .u64 (M.C.hd p:Int)] (λ_=>True) [SW z M]
  (λv H=>v= .bool (decide (M.bC p≠0))∧H= [SW z M]):=
 gy (N:=M) (T:=λv=>v= .bool (decide (M.bC p≠0))) λa d=>by
  have h:=xq z (M.aD a d) p hp
  exact h
theorem DO (z:Ly)(M:Mo)(p:Nat)(hp:M.has p):aF aaa 87 [.pointer (some ⟨z.s,0,none⟩), .int .u64 (M.C.hd p:Int)] (λ_=>True) [SW z M]
  (λv H=>v= .int .i64 (M.bC p:Int)∧H= [SW z M]):=
 gy (N:=M) (T:=λv=>v= .int .i64 (M.bC p:Int)) λa d=>by
  have h:=D1 z (M.aD a d) p hp
  exact h
theorem rB (z:Ly)(M:Mo)(p:Nat)(hp:M.has p):aF aaa 66 [.pointer (some ⟨z.s,0,none⟩), .int .u64 (M.C.hd p:Int)] (λ_=>True) [SW z M]
  (λv H=>v= .tuple #[]∧H= [SW z (M.bM p)]):=
 gy (N:=M.bM p) (T:=λv=>v= .tuple #[]) λa d=>by
  have h:=xr z (M.aD a d) p hp
  rw[show(M.aD a d).bM p=(M.bM p).aD a d from rfl]at h
  exact h
theorem uY (z:Ly)(M:Mo)(p:Nat)(hp:M.has p):aF aaa 110 [.pointer (some ⟨z.s,0,none⟩), .int .u64 (M.C.hd p:Int)] (λ_=>True) [SW z M]
  (λv H=>v= .tuple #[]∧H= [SW z (M.jz p)]):=
 gy (N:=M.jz p) (T:=λv=>v= .tuple #[]) λa d=>by
  have h:=NN z (M.aD a d) p hp
  rw[show(M.aD a d).jz p=(M.jz p).aD a d from rfl]at h
  exact h
theorem DP (z:Ly)(M:Mo)(p c:Nat)(hc:c<4)(hp:M.has p):aF aaa 116 [.pointer (some ⟨z.s,0,none⟩), .int .u64 (M.C.hd p:Int), .int .i64 ((c*2:Nat):Int)] (λ_=>True) [SW z M]
  (λv H=>v= .tuple #[]∧H= [SW z (M.marks p c)]):=
 gy (N:=M.marks p c) (T:=λv=>v= .tuple #[]) λa d=>by
  have h:=D4 z (M.aD a d) p c hc hp
  rw[show(M.aD a d).marks p c=(M.marks p c).aD a d from rfl]at h
  exact h
theorem py (z:Ly)(M:Mo)(p:Nat)(hp:M.has p)(t:Int)(ht:t<9223372036854775808)(rZ:M.tn<18446744073709551615):aF aaa 109 [.pointer (some ⟨z.s,0,none⟩), .int .u64 (M.C.hd p:Int), .int .i64 t] (λ_=>True) [SW z M]
  (λv H=>v= .tuple #[]∧H= [SW z (M.time p (eU M.k.now t))]):=
 gy (N:=M.time p (eU M.k.now t)) (T:=λv=>v= .tuple #[]) λa d=>by
  have h:=DZ z (M.aD a d) p hp t ht rZ
  rw[show(M.aD a d).time p (eU (M.aD a d).k.now t)=(M.time p (eU M.k.now t)).aD a d from rfl]at h
  exact h
theorem LL (M:Mo)(p:Nat)(a:Option Addr)(c:Nat):(M.aD a c).look p=(M.look p).aD a c:=by
 unfold Mo.look
 rw[show(M.aD a c).bC p=M.bC p from rfl]
 split<;>rfl
theorem FO (a:Option Addr)(c:Nat):∀(l:List Nat) (M:Mo),l.foldl Mo.look (M.aD a c)=(l.foldl Mo.look M).aD a c
 | [],_=>rfl
 |p::l,M=>by rw[adl,adl,LL,FO a c l]
theorem Bo (a:Option Addr)(c:Nat):∀(f:Nat) (M:Mo),(M.aD a c).bH f=((M.bH f).1,(M.bH f).2.aD a c)
 |0,_=>rfl
 |f+1,M=>by
  rcases hf:M.x.find M.ia M.Q with⟨_|_,x⟩
  ·rw[nX hf,nX (M:=M.aD a c) hf];rfl
  cases hx:x.nx with
  |none=>
   unfold Mo.bH
   rw[show(M.aD a c).x.find (M.aD a c).ia (M.aD a c).Q=(true,x)from hf,hf]
   dsimp only
   rw[hx];rfl
  |some p=>
   rw[nW hf hx,nW (M:=M.aD a c) hf hx]
   have e:(({M.aD a c with x:=x.pass (M.aD a c).Q}:Mo).look p)=(({M with x:=x.pass M.Q}:Mo).look p).aD a c:=LL {M with x:=x.pass M.Q} p a c
   rw[e,Bo a c f]
theorem Gq (M:Mo)(now aB:Int)(a:Option Addr)(c:Nat):(M.aD a c).bX now aB=((M.bX now aB).1,(M.bX now aB).2.aD a c):=by
 unfold Mo.bX
 split
 ·rfl
 unfold Mo.o9
 rw[show(M.aD a c).iY now (min aB 1048576)=M.iY now (min aB 1048576)from rfl,FO,Bo]
theorem ym (M:Mo)(d:Nat)(a:Option Addr)(c:Nat):(M.aD a c).take d=(M.take d).map λo=>(o.1,o.2.aD a c):=by
 unfold Mo.take
 rw[show(M.aD a c).C=M.C from rfl]
 cases M.C.dH d<;>rfl
theorem RZ (M:Mo)(p:Nat)(a:Option Addr)(c:Nat):(M.aD a c).shift p=(M.shift p).map λN=>N.aD a c:=by
 unfold Mo.shift
 rw[show(M.aD a c).C.cl p=M.C.cl p from rfl,ym]
 cases M.take (M.C.cl p)<;>rfl
theorem SX (M:Mo)(a:Option Addr)(c:Nat):(M.aD a c).fW=(M.fW.1,M.fW.2.aD a c):=by
 unfold Mo.fW
 rw[show((M.aD a c).C.pg (M.aD a c).m.pg)=M.C.pg M.m.pg from rfl]
 cases (M.C.pg M.m.pg).tk.findIdx? id with
 |none=>rfl
 |some k=>
  dsimp only
  rw[show(M.aD a c).C.wv (M.aD a c).m.pg k=M.C.wv M.m.pg k from rfl,show(M.aD a c).bC (M.C.wv M.m.pg k)=M.bC (M.C.wv M.m.pg k)from rfl,RZ]
  split
  ·rfl
  ·cases M.shift (M.C.wv M.m.pg k)<;>rfl
theorem AR (a:Option Addr)(c:Nat):∀(f:Nat) (M:Mo),(M.aD a c).ee f=((M.ee f).1,(M.ee f).2.aD a c)
 |0,_=>rfl
 |f+1,M=>by
  have h:=SX M a c
  rcases hm:M.fW with⟨_|_,N⟩
  ·rw[hm]at h
   rw[rK hm,rK h]
  rw[hm]at h
  rw[rJ hm,rJ h,AR a c f]
theorem Oq (M:Mo)(a:Option Addr)(c:Nat):(M.aD a c).gj=M.gj.aD a c:=by
 unfold Mo.gj
 rw[show(M.aD a c).C=M.C from rfl,show(M.aD a c).m=M.m from rfl,show(M.aD a c).ia=M.ia from rfl]
 split
 ·rfl
 cases (List.range M.ia).find? M.m.jo with
 |none=>rfl
 |some t=>
  dsimp only
  cases iK M.m M.C M.ia<;>rfl
theorem SU (M:Mo)(aB:Int)(a:Option Addr)(c:Nat):(M.aD a c).gH aB=((M.gH aB).1,(M.gH aB).2.aD a c):=by
 unfold Mo.gH
 rw[show(M.aD a c).fS=M.fS.aD a c from rfl,show(M.aD a c).m=M.m from rfl,AR,Oq]
 split
 ·rfl
 ·split<;>rfl
theorem Qd (M:Mo)(a:Option Addr)(c:Nat):(M.aD a c).beside=M.beside.aD a c:=by
 have h1:∀N:Mo,(N.aD a c).iy=N.iy.aD a c:=λN=>by
  unfold Mo.iy
  rw[show(N.aD a c).k=N.k from rfl,show(N.aD a c).v.p=N.v.p from rfl,Gq];rfl
 have h2:∀N:Mo,(N.aD a c).jk=N.jk.aD a c:=λN=>by
  unfold Mo.jk
  rw[show(N.aD a c).v.p=N.v.p from rfl,SU];rfl
 unfold Mo.beside
 rw[show(M.aD a c).eD=M.eD.aD a c from rfl,h1,h2]
theorem sA (sL:mX)(z:Ly)(M:Mo)(hh:M.hole=none)(iU:M.m.st<4611686018427387904)(Kc:sW M.v.p)(hA:gB M 1):aF aaa 37 [.pointer (some ⟨z.s,0,none⟩)] (λ_=>True) [SW z M]
  (λv H=>v= .tuple #[]∧H= [SW z M.beside]):=
 gy (N:=M.beside) (T:=λv=>v= .tuple #[]) λa d=>by
  have h:=JI sL z (M.aD a d) hh iU Kc ⟨hA.on,hA.sp⟩
  rw[Qd]at h
  exact h
def Mo.eJ (M:Mo)(w:Nat):Mo:={M with iG:=M.iG++ [w]}
def ua (C:Cs):Option Nat→Nat
 |none=>0
 |some p=>C.hd p
def Mo.meet (M:Mo)(k:List UInt8):Option Nat×Mo:=match M.find k with
 |none=>(none,M.eJ 1)
 |some p=>if M.bC p≠0 then(none,(M.eJ (M.bC p)).bM p)else(some p,M.eJ 0)
theorem bF.eJ{B:Bx}{M:Mo}(O:bF B M)(w:Nat)(a:Option Addr)(c:Nat):bF B ((M.eJ w).aD a c):=
 ⟨O.c,O.k,O.t,O.ty,O.o,O.x,O.mq,O.ck,O.al,O.lv,O.ho,O.it,O.e,O.st,O.nb,O.mg,O.mo,O.bt,O.un,O.on,O.go,rfl,O.cf,O.n,O.lg⟩
theorem Wj{B:Bx}{M:Mo}(O:bF B M)(o:Option Nat):hO B.C o=ua M.C o:=by
 cases o with
 |none=>rfl
 |some p=>rw[bY,O.hd];rfl
theorem u7 (z:Ly)(M:Mo)(k:List UInt8)(hk:k.length<281474976710656)(hw:M.iG.length<1073741824):aF aaa 108 [.pointer (some ⟨z.s,0,none⟩),aT k] (λ_=>True) [SW z M]
  (λv H=>v= .int .u64 (ua M.C (M.meet k).1:Int)∧H= [SW z (M.meet k).2]):=by
 refine af func108 rfl ntmps108 rfl ?_
 intro F _
 refine xa λwa wc=>fe λB O=> ?_
 have tf:=λa c=>lj z.y.t z.y.b B.C O.k B.W B.ty O.t O.ty a k.length c k rfl hk
 rw[O.KU,show(M.aD wa wc).find k=M.find k from rfl,Wj O,show(M.aD wa wc).C=M.C from rfl]at tf
 have VV:(ba M.iG).length=M.iG.length:=jw M.iG
 unfold fk gr jZ gd pV iZ kF
 dsimp only[Mo.aD]
 refine bd ?_
 refine bA ?_
 refine Lp (zA T.rY T.j6 T.oI λkb kc pL=> ?_)
 refine zl T.xc (tf _ _) .nil (λ_ le aq=>⟨aq.nth 1 rfl,⟨aq.nth 2 rfl,aq.nth 3 rfl,aq.nth 4 rfl,trivial⟩,bB (aq.nth 0 rfl)⟩) ?_
 rcases hf:M.find k with _|p
 ·have hme:M.meet k=(none,M.eJ 1):=by unfold Mo.meet;rw[hf]
  refine x7 ?_
  refine Lp (oT T.jg λb1=> ?_)
  refine Lp (cC T.jg T.wZ rfl rfl rfl rfl (.there (.there (.there (.there (.there (.there (.there (.there (.there (.there (.there (.there (.there (.there .here)))))))))))))) (by first|rfl|(simp;done)|(simp;omega)|omega) (rfl) (by simp[Value.oneCell']) (by first|omega|(simp;omega)) (by first|omega|(simp;omega)) rfl λa5 c5 hc5=> ?_)
  refine dg ?_
  rw[show ba M.iG++ [.int .i64 1]=ba (M.iG++ [1]) by unfold ba;rw[adt];rfl,show M.iG.length+1=(M.iG++ [1]).length by simp]
  refine Hh (H':= [Cl z.y.b B.C,ag z.y.t 145 (eT z.y.b B.W B.ty),ag B.ty.nk 163 (aC (au B.W.nb)),jd B.ty.ok 163 (aC (au B.W.ob)),ag z.y.q 139 (fj z.y.b z.qb B.C.ae.length),ag z.qb 327 (M.Q.flatMap (dR B.C)),gu z.y.cr z.y.q z.y.wh B.C.ae.length (bo z.s) (bn z.s) B.C M.x,Wl z.y.wh B.E M.tn,ag z.s 111 [.pointer (some ⟨z.y.b,0,none⟩), .pointer (some ⟨z.y.ck,0,none⟩), .pointer (some ⟨z.y.t,0,none⟩), .pointer (some ⟨z.y.lu,0,none⟩), .pointer (some ⟨z.y.wh,0,none⟩), .pointer (some ⟨z.y.cr,0,none⟩), .pointer (some ⟨z.y.mo,0,none⟩), .pointer (some ⟨z.y.q,0,none⟩), .int .i64 M.v.c.ao, .int .i64 M.v.c.cP, .int .i64 M.v.c.gA, .int .i64 M.v.c.dE, .int .i64 M.v.c.lim, .int .i64 M.v.c.hot, .int .i64 M.v.c.warm, .int .i64 M.v.p.b, .int .i64 M.v.p.l, .int .i64 M.v.p.c, .int .i64 M.v.p.m, .int .u64 (M.v.aO:Int), .int .i64 (M.v.fI:Int), .int .i64 M.v.mt.dr, .int .i64 M.v.mt.re, .int .i64 M.v.mt.bu, .int .i64 M.v.mt.li, .int .i64 M.v.mt.lo, .int .i64 M.v.mt.cr, .int .i64 M.v.mt.mv, .slice a5 (M.iG++ [1]).length c5],ki z.y.ck M.k,iW z.y.lu z.y.b z.y.q z.hot z.warm,mG z.y.mo z.y.b z.ub (bo z.s) (bn z.s) (bT z.s) M.m,mN z.ub M.m,own a5 c5 3 1 (ba (M.iG++ [1]))]) ?_
  refine az (aK (O.eJ 1 a5 c5) (H:= [])) ?_
  refine az (fE (M:=M.eJ 1) a5 c5) ?_
  refine Rt [SW z (M.eJ 1)] results108 ?_
  exact⟨by rw[hme];rfl,by rw[hme]⟩
 obtain⟨hp,mQ⟩:=lz hf
 have hme:M.meet k=if M.bC p≠0 then(none,(M.eJ (M.bC p)).bM p)else(some p,M.eJ 0):=by unfold Mo.meet;rw[hf]
 refine fK ?_
 refine Hh (H':= [Cl z.y.b B.C,ag z.y.t 145 (eT z.y.b B.W B.ty),ag B.ty.nk 163 (aC (au B.W.nb)),jd B.ty.ok 163 (aC (au B.W.ob)),ag z.y.q 139 (fj z.y.b z.qb B.C.ae.length),ag z.qb 327 (M.Q.flatMap (dR B.C)),gu z.y.cr z.y.q z.y.wh B.C.ae.length (bo z.s) (bn z.s) B.C M.x,Wl z.y.wh B.E M.tn,ag z.s 111 [.pointer (some ⟨z.y.b,0,none⟩), .pointer (some ⟨z.y.ck,0,none⟩), .pointer (some ⟨z.y.t,0,none⟩), .pointer (some ⟨z.y.lu,0,none⟩), .pointer (some ⟨z.y.wh,0,none⟩), .pointer (some ⟨z.y.cr,0,none⟩), .pointer (some ⟨z.y.mo,0,none⟩), .pointer (some ⟨z.y.q,0,none⟩), .int .i64 M.v.c.ao, .int .i64 M.v.c.cP, .int .i64 M.v.c.gA, .int .i64 M.v.c.dE, .int .i64 M.v.c.lim, .int .i64 M.v.c.hot, .int .i64 M.v.c.warm, .int .i64 M.v.p.b, .int .i64 M.v.p.l, .int .i64 M.v.p.c, .int .i64 M.v.p.m, .int .u64 (M.v.aO:Int), .int .i64 (M.v.fI:Int), .int .i64 M.v.mt.dr, .int .i64 M.v.mt.re, .int .i64 M.v.mt.bu, .int .i64 M.v.mt.li, .int .i64 M.v.mt.lo, .int .i64 M.v.mt.cr, .int .i64 M.v.mt.mv, .slice wa M.iG.length wc],ki z.y.ck M.k,iW z.y.lu z.y.b z.y.q z.hot z.warm,mG z.y.mo z.y.b z.ub (bo z.s) (bn z.s) (bT z.s) M.m,mN z.ub M.m,own wa wc 3 1 (ba M.iG)]) ?_
 refine az (aK O (H:= [])) ?_
 refine az (fE (M:=M) wa wc) ?_
 refine bq ?_
 refine zl T.Vi (DO z M p hp) (.cons .here .nil) (λ_ _ _=>trivial) ?_
 refine bf ?_
 refine xa λwa wc=>fe λB O=> ?_
 unfold fk gr jZ gd pV iZ kF
 dsimp only[Mo.aD]
 refine bd ?_
 refine bL ?_
 refine Lp (oT T.jg λb2=> ?_)
 refine Lp (cC T.jg T.wZ rfl rfl rfl rfl (.there (.there (.there (.there (.there (.there (.there (.there (.there (.there (.there (.there (.there .here))))))))))))) (by first|rfl|(simp;done)|(simp;omega)|omega) (rfl) (by simp[Value.oneCell']) (by first|omega|(simp;omega)) (by first|omega|(simp;omega)) rfl λa5 c5 hc5=> ?_)
 refine aW ?_
 refine aw ?_
 rw[show ba M.iG++ [.int .i64 (M.bC p:Int)]=ba (M.iG++ [M.bC p]) by unfold ba;rw[adt];rfl,show M.iG.length+1=(M.iG++ [M.bC p]).length by simp]
 refine Hh (H':= [Cl z.y.b B.C,ag z.y.t 145 (eT z.y.b B.W B.ty),ag B.ty.nk 163 (aC (au B.W.nb)),jd B.ty.ok 163 (aC (au B.W.ob)),ag z.y.q 139 (fj z.y.b z.qb B.C.ae.length),ag z.qb 327 (M.Q.flatMap (dR B.C)),gu z.y.cr z.y.q z.y.wh B.C.ae.length (bo z.s) (bn z.s) B.C M.x,Wl z.y.wh B.E M.tn,ag z.s 111 [.pointer (some ⟨z.y.b,0,none⟩), .pointer (some ⟨z.y.ck,0,none⟩), .pointer (some ⟨z.y.t,0,none⟩), .pointer (some ⟨z.y.lu,0,none⟩), .pointer (some ⟨z.y.wh,0,none⟩), .pointer (some ⟨z.y.cr,0,none⟩), .pointer (some ⟨z.y.mo,0,none⟩), .pointer (some ⟨z.y.q,0,none⟩), .int .i64 M.v.c.ao, .int .i64 M.v.c.cP, .int .i64 M.v.c.gA, .int .i64 M.v.c.dE, .int .i64 M.v.c.lim, .int .i64 M.v.c.hot, .int .i64 M.v.c.warm, .int .i64 M.v.p.b, .int .i64 M.v.p.l, .int .i64 M.v.p.c, .int .i64 M.v.p.m, .int .u64 (M.v.aO:Int), .int .i64 (M.v.fI:Int), .int .i64 M.v.mt.dr, .int .i64 M.v.mt.re, .int .i64 M.v.mt.bu, .int .i64 M.v.mt.li, .int .i64 M.v.mt.lo, .int .i64 M.v.mt.cr, .int .i64 M.v.mt.mv, .slice a5 (M.iG++ [M.bC p]).length c5],ki z.y.ck M.k,iW z.y.lu z.y.b z.y.q z.hot z.warm,mG z.y.mo z.y.b z.ub (bo z.s) (bn z.s) (bT z.s) M.m,mN z.ub M.m,own a5 c5 3 1 (ba (M.iG++ [M.bC p]))]) ?_
 refine az (aK (O.eJ (M.bC p) a5 c5) (H:= [])) ?_
 refine az (fE (M:=M.eJ (M.bC p)) a5 c5) ?_
 refine aW ?_
 by_cases hw0:M.bC p=0
 ·rw[hw0]
  refine dm ?_ (e:=by exact congrArg (!·) (decide_eq_true rfl))
  refine bL ?_
  refine Rt [SW z (M.eJ 0)] results108 ?_
  rw[hme,if_neg (by simpa using hw0)]
  exact⟨rfl,rfl⟩
 refine fB ?_ (e:=by exact congrArg (!·) (decide_eq_false (by omega)))
 refine bq ?_
 refine zl T.EY (rB z (M.eJ (M.bC p)) p hp) (.cons .here .nil) (λ_ _ _=>trivial) ?_
 refine bD ?_
 refine Rt [SW z ((M.eJ (M.bC p)).bM p)] results108 ?_
 rw[hme,if_pos hw0]
 exact⟨rfl,rfl⟩
def Mo.mL (hot warm:Nat)(M:Mo)(k:List UInt8):Mo:=match M.find k with
 |none=>M
 |some p=>(M.ye (jD (M.C.cl p) hot warm M.v.p.l.toNat M.VP).2).aV {M.v.mt with li:=cJ (M.v.mt.li+((jD (M.C.cl p) hot warm M.v.p.l.toNat M.VP).1:Nat))}
noncomputable def Mo.behind (hot warm:Nat)(M:Mo)(k:List UInt8):Mo:=(M.mL hot warm k).beside
theorem GA (hot warm:Nat)(M:Mo)(k:List UInt8):(M.mL hot warm k).hole=M.hole∧(M.mL hot warm k).m=M.m∧(M.mL hot warm k).v.p=M.v.p:=by
 unfold Mo.mL
 split<;>exact⟨rfl,rfl,rfl⟩
theorem GB (hot warm:Nat)(M:Mo)(k:List UInt8):Ev M (M.mL hot warm k):=by
 unfold Mo.mL
 split
 ·exact .rf rfl rfl
 exact .rf rfl rfl
theorem D6 (sL:mX)(z:Ly)(M:Mo)(k:List UInt8)(hk:k.length<281474976710656)(hh:M.hole=none)(iU:M.m.st<4611686018427387904)(Kc:sW M.v.p)(hA:gB M 1)(J8:z.hot≤100)(JR:z.warm≤100):aF aaa 38 [.pointer (some ⟨z.s,0,none⟩),aT k] (λ_=>True) [SW z M]
  (λv H=>v= .tuple #[]∧H= [SW z (M.behind z.hot z.warm k)]):=by
 obtain⟨b1,b2,b3⟩:=GA z.hot z.warm M k
 have bsd:=sA sL z (M.mL z.hot z.warm k) (b1.trans hh) (by rw[b2];exact iU) (by rw[b3];exact Kc) (hA.ev (GB _ _ _ _))
 refine af func38 rfl ntmps38 rfl ?_
 intro F _
 refine xa λwa wc=>fe λB O=> ?_
 unfold fk gr jZ gd pV iZ kF
 dsimp only[Mo.aD]
 refine bd ?_
 have tf:=λa c=>lj z.y.t z.y.b B.C O.k B.W B.ty O.t O.ty a k.length c k rfl hk
 rw[O.KU,show(M.aD wa wc).find k=M.find k from rfl,Wj O,show(M.aD wa wc).C=M.C from rfl]at tf
 refine dh ?_
 refine Lp (zA T.rY T.j6 T.oI λkb kc pL=> ?_)
 refine zl T.xc (tf _ _) .nil (λ_ le aq=>⟨aq.nth 1 rfl,⟨aq.nth 2 rfl,aq.nth 3 rfl,aq.nth 4 rfl,trivial⟩,bB (aq.nth 0 rfl)⟩) ?_
 rcases hf:M.find k with _|p
 ·have hbb:M.mL z.hot z.warm k=M:=by unfold Mo.mL;rw[hf]
  rw[hbb]at bsd
  refine eC ?_
  refine Hh (H':= [Cl z.y.b B.C,ag z.y.t 145 (eT z.y.b B.W B.ty),ag B.ty.nk 163 (aC (au B.W.nb)),jd B.ty.ok 163 (aC (au B.W.ob)),ag z.y.q 139 (fj z.y.b z.qb B.C.ae.length),ag z.qb 327 (M.Q.flatMap (dR B.C)),gu z.y.cr z.y.q z.y.wh B.C.ae.length (bo z.s) (bn z.s) B.C M.x,Wl z.y.wh B.E M.tn,ag z.s 111 [.pointer (some ⟨z.y.b,0,none⟩), .pointer (some ⟨z.y.ck,0,none⟩), .pointer (some ⟨z.y.t,0,none⟩), .pointer (some ⟨z.y.lu,0,none⟩), .pointer (some ⟨z.y.wh,0,none⟩), .pointer (some ⟨z.y.cr,0,none⟩), .pointer (some ⟨z.y.mo,0,none⟩), .pointer (some ⟨z.y.q,0,none⟩), .int .i64 M.v.c.ao, .int .i64 M.v.c.cP, .int .i64 M.v.c.gA, .int .i64 M.v.c.dE, .int .i64 M.v.c.lim, .int .i64 M.v.c.hot, .int .i64 M.v.c.warm, .int .i64 M.v.p.b, .int .i64 M.v.p.l, .int .i64 M.v.p.c, .int .i64 M.v.p.m, .int .u64 (M.v.aO:Int), .int .i64 (M.v.fI:Int), .int .i64 M.v.mt.dr, .int .i64 M.v.mt.re, .int .i64 M.v.mt.bu, .int .i64 M.v.mt.li, .int .i64 M.v.mt.lo, .int .i64 M.v.mt.cr, .int .i64 M.v.mt.mv, .slice wa M.iG.length wc],ki z.y.ck M.k,iW z.y.lu z.y.b z.y.q z.hot z.warm,mG z.y.mo z.y.b z.ub (bo z.s) (bn z.s) (bT z.s) M.m,mN z.ub M.m,own wa wc 3 1 (ba M.iG)]) ?_
  refine az (aK O (H:= [])) ?_
  refine az (fE (M:=M) wa wc) ?_
  refine bf ?_
  refine zl T.KS (bsd) (.cons .here .nil) (λ_ _ _=>trivial) ?_
  refine aG ?_
  refine jA [SW z M.beside] results38 ?_
  exact⟨rfl,by unfold Mo.behind;rw[hbb]⟩
 obtain⟨hp,mQ⟩:=lz hf
 have dT:=(O.al p).2 hp
 have L:=O.qP dT
 have at_:=uG z.y.b B.C O.k p L
 rw[O.hd,show(M.aD wa wc).C=M.C from rfl]at at_
 have iE:=(L.toAt.aX O.k).1
 have bl:=BO z.y.lu z.y.q z.y.b z.qb z.hot z.warm z.y.cr z.y.wh (bo z.s) (bn z.s) B.C O.k M.VP O.bai (B.C.cl p) iE J8 JR M.v.p.l.toNat (by have:=Kc.l;omega)
 rw[show((M.v.p.l.toNat:Nat):Int)=M.v.p.l by have:=Kc.l;omega]at bl
 refine mI ?_
 refine zl T.uC (at_) .nil (λ_ le aq=>aq.nth 1 rfl) ?_
 refine dh ?_
 refine ik 27 T.mix (.cons (.there (.there (.there (.there (.there (.there (.there (.there (.there .here))))))))) .nil) λF1 je bR aM=> ?_
 obtain⟨q1,_⟩:=bR
 refine bW ?_
 refine aA ?_
 refine Ti Mf ?_
 refine Tp (oC T.acu rfl rfl (bl) (.cons (.there .here) (.cons (.there (.there (.there (.there .here)))) (.cons (.there (.there (.there (.there .here)))) (.cons (.there (.there (.there (.there .here)))) .nil)))) (λ_ le aq=>aq.nth 6 rfl) ?_)
 rintro v H' ⟨n,A,t,hbf,rfl,rfl,T2⟩
 refine bd ?_
 refine aW ?_
 refine gO aM ?_
 refine bf ?_
 have O1:bF ⟨B.C.wA A,B.W,B.ty,B.E⟩ (((M.ye t).aV {M.v.mt with li:=cJ (M.v.mt.li+(n:Nat))}).aD wa wc):=(O.bal T2).aV {M.v.mt with li:=cJ (M.v.mt.li+(n:Nat))}
 have hbb:M.mL z.hot z.warm k=(M.ye t).aV {M.v.mt with li:=cJ (M.v.mt.li+(n:Nat))}:=by
  unfold Mo.mL
  rw[hf]
  dsimp only
  rw[O.cl,show(M.aD wa wc).C=M.C from rfl]at hbf
  rw[hbf]
 rw[hbb]at bsd
 refine Hh (H':= [Cl z.y.b (B.C.wA A),ag z.y.t 145 (eT z.y.b B.W B.ty),ag B.ty.nk 163 (aC (au B.W.nb)),jd B.ty.ok 163 (aC (au B.W.ob)),ag z.y.q 139 (fj z.y.b z.qb B.C.ae.length),ag z.qb 327 (t.Q.flatMap (dR B.C)),gu z.y.cr z.y.q z.y.wh B.C.ae.length (bo z.s) (bn z.s) B.C t.x,Wl z.y.wh B.E M.tn,ag z.s 111 [.pointer (some ⟨z.y.b,0,none⟩), .pointer (some ⟨z.y.ck,0,none⟩), .pointer (some ⟨z.y.t,0,none⟩), .pointer (some ⟨z.y.lu,0,none⟩), .pointer (some ⟨z.y.wh,0,none⟩), .pointer (some ⟨z.y.cr,0,none⟩), .pointer (some ⟨z.y.mo,0,none⟩), .pointer (some ⟨z.y.q,0,none⟩), .int .i64 M.v.c.ao, .int .i64 M.v.c.cP, .int .i64 M.v.c.gA, .int .i64 M.v.c.dE, .int .i64 M.v.c.lim, .int .i64 M.v.c.hot, .int .i64 M.v.c.warm, .int .i64 M.v.p.b, .int .i64 M.v.p.l, .int .i64 M.v.p.c, .int .i64 M.v.p.m, .int .u64 (M.v.aO:Int), .int .i64 (M.v.fI:Int), .int .i64 M.v.mt.dr, .int .i64 M.v.mt.re, .int .i64 M.v.mt.bu, .int .i64 (IntKind.i64.wrap (M.v.mt.li+(n:Int))), .int .i64 M.v.mt.lo, .int .i64 M.v.mt.cr, .int .i64 M.v.mt.mv, .slice wa M.iG.length wc],ki z.y.ck M.k,iW z.y.lu z.y.b z.y.q z.hot z.warm,mG z.y.mo z.y.b z.ub (bo z.s) (bn z.s) (bT z.s) M.m,mN z.ub M.m,own wa wc 3 1 (ba M.iG)]) ?_
 refine az (aK O1 (H:= [])) ?_
 refine az (fE (M:=(M.ye t).aV {M.v.mt with li:=cJ (M.v.mt.li+(n:Nat))}) wa wc) ?_
 refine bf ?_
 refine zl T.KS (bsd) (.cons .here .nil) (λ_ _ _=>trivial) ?_
 refine aG ?_
 refine jA [SW z ((M.ye t).aV {M.v.mt with li:=cJ (M.v.mt.li+(n:Nat))}).beside] results38 ?_
 exact⟨rfl,by unfold Mo.behind;rw[hbb]⟩
theorem Zt:∀m:Nat,m<16→fX .and .i64 (m:Int) 2=some ((m/2 % 2*2:Nat):Int):=by decide+kernel
theorem Zs:∀m:Nat,m<16→fX .and .i64 (m:Int) 4=some ((m/4 % 2*4:Nat):Int):=by decide+kernel
theorem Zr:∀m:Nat,m<16→fX .and .i64 (m:Int) 8=some ((m/8 % 2*8:Nat):Int):=by decide+kernel
def lT (x:I3)(va:Value):List Value:= [aT x.key,va, .int .u64 (x.fl:Int), .int .i64 (x.exp:Int), .int .u64 (x.tok:Int), .int .i64 (x.tch:Int), .bool (decide (x.cQ/2 % 2=1)), .bool (decide (x.cQ/4 % 2=1)), .bool (decide (x.cQ/8 % 2=1))]
theorem cX (m:Nat):(!decide (((m/2 % 2*2:Nat):Int)=0))=decide (m/2 % 2=1):=by
 have:m/2 % 2=0∨m/2 % 2=1:=by omega
 rcases this with h|h<;>rw[h]<;>rfl
theorem de (m:Nat):(!decide (((m/4 % 2*4:Nat):Int)=0))=decide (m/4 % 2=1):=by
 have:m/4 % 2=0∨m/4 % 2=1:=by omega
 rcases this with h|h<;>rw[h]<;>rfl
theorem V1 (m:Nat):(!decide (((m/8 % 2*8:Nat):Int)=0))=decide (m/8 % 2=1):=by
 have:m/8 % 2=0∨m/8 % 2=1:=by omega
 rcases this with h|h<;>rw[h]<;>rfl
theorem xw (z:Ly)(M:Mo)(p:Nat)(hp:M.has p):aF aaa 41 [.pointer (some ⟨z.s,0,none⟩), .int .u64 (M.C.hd p:Int)] (λ_=>True) [SW z M]
  (λv H=>∃vb,v= .agg (lT (M.it p) (.slice (some ⟨vb,0,none⟩) (M.it p).val.length (M.it p).val.length)).toArray∧H= [own (some ⟨vb,0,none⟩) (M.it p).val.length 5 1 (ak (M.it p).val),SW z M]):=by
 refine af func41 rfl ntmps41 rfl ?_
 intro F _
 refine aA ?_
 refine Lp (oA T.r8 λb1=> ?_)
 refine aA ?_
 refine az (λ_ x=>cT x) ?_
 refine xa λwa wc=>fe λB O=> ?_
 unfold fk gr jZ gd pV iZ kF
 dsimp only[Mo.aD]
 refine bd ?_
 have dT:=(O.al p).2 hp
 have rdc:=vq z.y.b B.C O.k p (O.qP dT) (O.t.it p dT)
 rw[O.hd,show(M.aD wa wc).C=M.C from rfl]at rdc
 obtain⟨f1,f2,f3,f4,f5,f6,f7⟩:=O.iw dT
 have tY:=(O.z6 dT).2
 rw[show(M.aD wa wc).it p=M.it p from rfl]at f1 f2 f3 f4 f5 f6 f7 tY
 have lk:kl B.C.A p=(M.it p).key.length:=by rw[←f5];exact(cK _ _ _).symm
 have lv:vl B.C.A p=(M.it p).val.length:=by rw[←f6];exact(cK _ _ _).symm
 rw[show rd B.C.A (p+40) 4=(M.it p).fl from f7,show rd B.C.A (p+16) 8=(M.it p).exp from f1,show rd B.C.A (p+24) 8=(M.it p).tch from f2,show rd B.C.A (p+32) 8=(M.it p).tok from f3,show rd B.C.A (p+46) 1=(M.it p).cQ from f4,lk,lv,f5,f6]at rdc
 generalize rd B.C.A (p+45) 1=stt at*
 refine bL ?_
 refine Lp (oC T.EX rfl rfl (rdc) .nil (λ_ le aq=>aq.nth 0 rfl) ?_)
 rintro v H' ⟨kb,vb,rfl,rfl⟩
 refine bd ?_
 refine bq ?_
 refine Lp (oA T.bE λb2=> ?_)
 refine Lp (gM T.cZ ?_ (h1:=by simp[Ca,Value.oneCell']))
 refine br ?_
 refine Lp (oTs T.gQ T.oI T.rY ?_)
 refine gP ?_
 refine ay (t:=32) (v':=(.int .i64 (((M.it p).cQ/2 % 2*2:Nat):Int))) rfl (by exact congrArg (λx=>Value.int .i64 (x.getD 0)) (Zt _ tY)) ?_
 refine aA ?_
 refine ay (t:=33) (v':=(.bool (decide ((M.it p).cQ/2 % 2=1)))) rfl (by exact congrArg Value.bool (cX _)) ?_
 refine bq ?_
 refine ay (t:=36) (v':=(.int .i64 (((M.it p).cQ/4 % 2*4:Nat):Int))) rfl (by exact congrArg (λx=>Value.int .i64 (x.getD 0)) (Zs _ tY)) ?_
 refine aA ?_
 refine ay (t:=37) (v':=(.bool (decide ((M.it p).cQ/4 % 2=1)))) rfl (by exact congrArg Value.bool (de _)) ?_
 refine bq ?_
 refine ay (t:=40) (v':=(.int .i64 (((M.it p).cQ/8 % 2*8:Nat):Int))) rfl (by exact congrArg (λx=>Value.int .i64 (x.getD 0)) (Zr _ tY)) ?_
 refine aA ?_
 refine ay (t:=41) (v':=(.bool (decide ((M.it p).cQ/8 % 2=1)))) rfl (by exact congrArg Value.bool (V1 _)) ?_
 refine aA ?_
 refine Lp (gM T.lh ?_ (h1:=by simp[cR,Value.cells,Value.oneCell',aT]))
 refine bf ?_
 refine Hh (H':= [Cl z.y.b B.C,ag z.y.t 145 (eT z.y.b B.W B.ty),ag B.ty.nk 163 (aC (au B.W.nb)),jd B.ty.ok 163 (aC (au B.W.ob)),ag z.y.q 139 (fj z.y.b z.qb B.C.ae.length),ag z.qb 327 (M.Q.flatMap (dR B.C)),gu z.y.cr z.y.q z.y.wh B.C.ae.length (bo z.s) (bn z.s) B.C M.x,Wl z.y.wh B.E M.tn,ag z.s 111 [.pointer (some ⟨z.y.b,0,none⟩), .pointer (some ⟨z.y.ck,0,none⟩), .pointer (some ⟨z.y.t,0,none⟩), .pointer (some ⟨z.y.lu,0,none⟩), .pointer (some ⟨z.y.wh,0,none⟩), .pointer (some ⟨z.y.cr,0,none⟩), .pointer (some ⟨z.y.mo,0,none⟩), .pointer (some ⟨z.y.q,0,none⟩), .int .i64 M.v.c.ao, .int .i64 M.v.c.cP, .int .i64 M.v.c.gA, .int .i64 M.v.c.dE, .int .i64 M.v.c.lim, .int .i64 M.v.c.hot, .int .i64 M.v.c.warm, .int .i64 M.v.p.b, .int .i64 M.v.p.l, .int .i64 M.v.p.c, .int .i64 M.v.p.m, .int .u64 (M.v.aO:Int), .int .i64 (M.v.fI:Int), .int .i64 M.v.mt.dr, .int .i64 M.v.mt.re, .int .i64 M.v.mt.bu, .int .i64 M.v.mt.li, .int .i64 M.v.mt.lo, .int .i64 M.v.mt.cr, .int .i64 M.v.mt.mv, .slice wa M.iG.length wc],ki z.y.ck M.k,iW z.y.lu z.y.b z.y.q z.hot z.warm,mG z.y.mo z.y.b z.ub (bo z.s) (bn z.s) (bT z.s) M.m,mN z.ub M.m,own wa wc 3 1 (ba M.iG),own (some ⟨vb,0,none⟩) (M.it p).val.length 5 1 (ak (M.it p).val),ag b1 49 (lT (M.it p) (.slice (some ⟨vb,0,none⟩) (M.it p).val.length (M.it p).val.length))]) ?_
 refine az (aK O (H:= [own (some ⟨vb,0,none⟩) (M.it p).val.length 5 1 (ak (M.it p).val),ag b1 49 (lT (M.it p) (.slice (some ⟨vb,0,none⟩) (M.it p).val.length (M.it p).val.length))])) ?_
 refine az (fE (M:=M) wa wc) ?_
 refine EM [own (some ⟨vb,0,none⟩) (M.it p).val.length 5 1 (ak (M.it p).val),SW z M] T.lh results41 ?_
 exact⟨vb,rfl,rfl⟩
theorem Hs (z:Ly)(M:Mo)(hh:M.hole=none)(c:Nat)(hc:c<M.ia):aF aaa 101 [.pointer (some ⟨z.y.b,0,none⟩), .int .i64 (c:Int)] (λ_=>True) [SH z M]
  (λv H=>(M.take c=none∧v= .tuple #[.int .u64 0, .int .i64 21]∧H= [SH z M])∨∃r N,M.take c=some (r,N)∧v= .tuple #[.int .u64 (N.C.hd r:Int), .int .i64 0]∧H= [SH z N]):=
 eF λB O=>by
  have iE:c<B.C.ae.length:=by rw[O.ia];exact hc
  have h:=(RN z.y.b B.C O.k c iE).fr (H:=fk z B M++ []) (R:=(fk z B M).tail) (.cons .here .nil) (λk aq=>trivial)
  refine h.out ?_
  rintro v H' ⟨H0,hr,rfl⟩
  rcases hT:B.C.dH c with _|⟨r,D⟩
  ·rw[hT]at hr
   obtain⟨rfl,rfl⟩:=hr
   exact⟨[SH z M], .inl ⟨O.takeN hT,rfl,rfl⟩,λk s=>aK O (H:= []) k s⟩
  rw[hT]at hr
  obtain⟨rfl,rfl⟩:=hr
  obtain⟨N,n1,n2,n3,n4,O1,X⟩:=O.take hh iE hT
  refine⟨[SH z N], .inr ⟨r,N,n1,by rw[n2],rfl⟩,λk s=>aK O1 (H:= []) k ?_⟩
  have S:zI B.C (D.wA B.C.A) (λq=>q∈B.W.all):=⟨rfl,X.sz,λq _ M=>⟨((X.lv q).2 (.inl M)).wA _,(X.hd q M).1,(X.hd q M).2⟩⟩
  have e_ls:M.Q.flatMap (dR B.C)=M.Q.flatMap (dR D):=(S.ls O.o λi q h=>O.qS h).symm
  have e_cr:ue z.y.q z.y.wh D.ae.length (bo z.s) (bn z.s) B.C M.x=ue z.y.q z.y.wh D.ae.length (bo z.s) (bn z.s) D M.x:=(S.cw O.o (λi q h=>O.qS h) O.x _ _ _ _ _).symm
  have e_sz:B.C.ae.length=D.ae.length:=by rw[X.sz]
  change ai ([Cl z.y.b D]++ [ag z.y.t 145 (eT z.y.b B.W B.ty),ag B.ty.nk 163 (aC (au B.W.nb)),jd B.ty.ok 163 (aC (au B.W.ob)),ag z.y.q 139 (fj z.y.b z.qb B.C.ae.length),ag z.qb 327 (M.Q.flatMap (dR B.C)),ag z.y.cr 177 (ue z.y.q z.y.wh B.C.ae.length (bo z.s) (bn z.s) B.C M.x),Wl z.y.wh B.E M.tn,gr z.s z.y (gd M.v),
   ki z.y.ck M.k,iW z.y.lu z.y.b z.y.q z.hot z.warm,mG z.y.mo z.y.b z.ub (bo z.s) (bn z.s) (bT z.s) M.m,mN z.ub M.m,kF M]) k at s
  rw[e_ls,e_sz,e_cr]at s
  rw[n4]
  exact s
def Mo.pick (M:Mo)(c:Nat)(own:Option Nat):Option Nat×Bool×Nat:=Af (λp=>decide (M.bC p≠0)) (λp=>decide ((M.it p).cQ % 2=1)) own 5 (Kn M.Q c)
theorem Sa{Q:List (List Nat)}{c p:Nat}(hp:p∈Kn Q c):∃i,p∈ql Q i:=by
 unfold Kn at hp
 rw[adP,adP,aeq,aeq,aeq]at hp
 rcases hp with(h|h)|h<;>exact⟨_,h⟩
theorem N6{d a:Nat→Bool}{own:Option Nat}{n:Nat}{l:List Nat}{p:Nat}(h:(Af d a own n l).1=some p):p∈l∧some p≠own:=by
 have hs:∀p∈(CJ own l).take n,p∈l∧some p≠own:=λp hp=>by
  obtain⟨h1,h2⟩:=acA.1 (ae8 hp)
  exact⟨h1,of_decide_eq_true h2⟩
 unfold Af KF at h
 refine hs p ?_
 generalize (CJ own l).take n=r at*
 cases hf:r.findIdx? d with
 |some i=>rw[hf]at h;exact aaf h
 |none=>
  rw[hf]at h
  dsimp only at h
  cases hg:r.find? (λq=> !a q)with
  |some q=>rw[hg]at h;cases h;exact ady hg
  |none=>rw[hg]at h;exact List.mem_of_mem_head? h
def Mo.gz (M:Mo)(c:Nat):Mo:={M with m:=M.m.o0 c}
def Mo.last (M:Mo)(c p:Nat):Option Nat×Mo:=match(M.bM p).take c with
 |some (r,N)=>(some r,N)
 |none=>(none,M.bM p)
def Mo.KV (M:Mo)(c:Nat):Option Nat→Bool→Option Nat×Mo
 |none,true=>(none,M)
 |none,false=>(none,M.gz c)
 |some p,true=>(M.aV {M.v.mt with re:=cJ (M.v.mt.re+1)}).last c p
 |some p,false=>((M.gz c).aV {(M.gz c).v.mt with dr:=cJ ((M.gz c).v.mt.dr+1)}).last c p
def Mo.oD (M:Mo)(c:Nat)(own:Option Nat):Option Nat×Mo:=(M.aV {M.v.mt with lo:=cJ (M.v.mt.lo+((M.pick c own).2.2:Int))}).KV c (M.pick c own).1 (M.pick c own).2.1
def Mo.ux (M:Mo)(c:Nat)(own:Option Nat):Option Nat×Mo:=match M.take c with
 |some (r,N)=>(some r,N)
 |none=>if M.m.on=true∧M.m.fr=c then(match M.mstop.take c with
  |some (r,N)=>(some r,N)
  |none=>M.mstop.oD c own)else M.oD c own
def Mo.room (M:Mo)(n:Nat)(own:Option Nat):Option Nat×Mo:=match M.C.ae.findIdx? λz=>decide (n≤z)with
 |none=>(none,M)
 |some c=>M.ux c own
theorem bF.oP{B:Bx}{M:Mo}(O:bF B M){p:Nat}(hp:M.has p):M.C.hd p≠0:=by
 have h:=(bK O.k (O.mH ((O.al p).2 hp))).2.2.2.2.2
 rw[O.hd]at h;exact h
theorem Hy (z:Ly)(M:Mo)(hh:M.hole=none)(iU:M.m.st<4611686018427387904)(um:0<M.C.spare)(kn vn:Nat)(hk:1≤kn∧kn≤250)(hv:vn≤1048576)(own:Option Nat)(yf:∀p,own=some p→M.has p):
  aF aaa 117 [.pointer (some ⟨z.s,0,none⟩), .int .i64 (kn:Int), .int .i64 (vn:Int), .int .u64 (ua M.C own:Int)] (λ_=>True) [SH z M]
   (λw H=>∃o N,M.room (58+kn+vn) own=(o,N)∧w= .int .u64 (ua N.C o:Int)∧H= [SH z N]):=by
 refine af func117 rfl ntmps117 rfl ?_
 intro F _
 refine bD ?_
 refine zl T.Mp (A5 kn vn hk hv) .nil (λ_ _ _=>trivial) ?_
 refine bD ?_
 refine fe λB O=> ?_
 have fo:=Ye z.y.b B.C O.k (58+kn+vn) (by omega)
 rw[show B.C.ae=M.C.ae by rw[O.c];rfl]at fo
 have fx:=λc (h:(M.C.ae.findIdx? λz=>decide (58+kn+vn≤z))=some c)=>(show c<M.ia from(aav.1 h).1)
 have hXn:=λp hp=>O.oP (p:=p) hp
 have hXhd:∀p,M.has p→M.m.on=true→M.mstop.C.hd p=M.C.hd p:=λp hp oK=>by
  have h:=(((O.stay oK).1).lv p ((O.al p).2 hp) (O.qP ((O.al p).2 hp))).2.1
  rw[O.hd]at h
  rw[←h]
  show(M.C.kk M.m.pg).hd p=(B.C.kk M.m.pg).hd p
  rw[O.c];rfl
 unfold fk gr jZ gd pV iZ
 refine bd ?_
 refine bL ?_
 refine Lp (oC T.YA rfl rfl (fo) .nil (λ_ le aq=>aq.nth 0 rfl) ?_)
 rintro v H' ⟨VS,rfl⟩
 refine bd ?_
 rcases hf:(M.C.ae.findIdx? λz=>decide (58+kn+vn≤z))with _|c
 ·rw[hf]at VS
  subst VS
  refine mI ?_
  refine Hh (H':=lM z B.C B.W B.ty B.C.ae.length (M.Q.flatMap (dR B.C)) M.x B.E M.tn (M.v,[.int .u64 (M.v.aO:Int), .int .i64 (M.v.fI:Int), .int .i64 M.v.mt.dr, .int .i64 M.v.mt.re, .int .i64 M.v.mt.bu, .int .i64 M.v.mt.li, .int .i64 M.v.mt.lo, .int .i64 M.v.mt.cr, .int .i64 M.v.mt.mv, .slice M.v.wa M.v.wn M.v.wc]) M.k M.m M []) ?_
  unfold lM wu
  refine az (aK O (H:= [])) ?_
  refine Rt [SH z M] results117 ?_
  exact⟨none,M,by unfold Mo.room;rw[hf],rfl,rfl⟩
 rw[hf]at VS
 subst VS
 have hXc:=fx c hf
 have hrc:M.room (58+kn+vn) own=M.ux c own:=by unfold Mo.room;rw[hf]
 refine fK ?_
 refine Hh (H':=lM z B.C B.W B.ty B.C.ae.length (M.Q.flatMap (dR B.C)) M.x B.E M.tn (M.v,[.int .u64 (M.v.aO:Int), .int .i64 (M.v.fI:Int), .int .i64 M.v.mt.dr, .int .i64 M.v.mt.re, .int .i64 M.v.mt.bu, .int .i64 M.v.mt.li, .int .i64 M.v.mt.lo, .int .i64 M.v.mt.cr, .int .i64 M.v.mt.mv, .slice M.v.wa M.v.wn M.v.wc]) M.k M.m M []) ?_
 unfold lM wu
 refine az (aK O (H:= [])) ?_
 refine KP λB O=> ?_
 refine fe λB O=> ?_
 unfold fk gr jZ gd pV iZ
 refine bd ?_
 refine bL ?_
 refine Hh (H':=lM z B.C B.W B.ty B.C.ae.length (M.Q.flatMap (dR B.C)) M.x B.E M.tn (M.v,[.int .u64 (M.v.aO:Int), .int .i64 (M.v.fI:Int), .int .i64 M.v.mt.dr, .int .i64 M.v.mt.re, .int .i64 M.v.mt.bu, .int .i64 M.v.mt.li, .int .i64 M.v.mt.lo, .int .i64 M.v.mt.cr, .int .i64 M.v.mt.mv, .slice M.v.wa M.v.wn M.v.wc]) M.k M.m M []) ?_
 unfold lM wu
 refine az (aK O (H:= [])) ?_
 refine Lp (oC T.Y5 rfl rfl (Hs z M hh c hXc) (.cons .here .nil) (λ_ _ _=>trivial) ?_)
 rintro v H' hr
 refine bd ?_
 rcases hr with⟨ht,rfl,rfl⟩|⟨r,N,ht,rfl,rfl⟩
 ·obtain⟨p0,D0,hD0,_⟩:=sx O.ZI (show c<M.C.ae.length from hXc) um
  unfold Mo.take at ht
  rw[hD0]at ht
  cases ht
 refine Li Mv ?_
 refine bA ?_
 refine zf 47 ?_ (e:=by rfl)
 refine bW ?_
 refine aW ?_
 refine Rt [SH z N] results117 ?_
 exact⟨some r,N,by rw[hrc];unfold Mo.ux;rw[ht],rfl,rfl⟩
def Mo.QY (M:Mo):Prop:=M.mg=0∧3*M.nb<2*(M.n+1)∧M.nb<M.aB
instance (M:Mo):Decidable M.QY:=by unfold Mo.QY;infer_instance
def jf (Q:List (List Nat))(i p:Nat):List (List Nat):=Q.set i (p::ql Q i)
def Mo.gN (M:Mo)(r:Nat)(n:I3):Mo:=
 {M with hole:=none,Q:=jf M.Q (qi (M.C.cl r) 1) r,it:=λq=>if q=r then{n with cQ:=mkSet n.cQ false}else M.it q,ord:=λq=>if q=r then M.tn+1 else M.ord q,tn:=if 0<n.exp then M.tn+1 else M.tn,n:=M.n+1,nb:=if M.QY then 2*M.nb else M.nb,mg:=if M.QY then M.nb else M.mg,v:={M.v with fI:=M.v.fI+n.sz}}
theorem gZ{Q:List (List Nat)}{i p q j:Nat}(hi:i<Q.length):q∈ql (jf Q i p) j↔(j=i∧q=p)∨q∈ql Q j:=by
 unfold jf
 rw[eZ hi]
 by_cases e:j=i
 ·rw[if_pos e,aau,e]
  exact⟨λh=>h.imp (λh=>⟨rfl,h⟩) id,λh=>h.imp (λh=>h.2) id⟩
 rw[if_neg e]
 exact⟨.inr,λh=>h.resolve_left λg=>e g.1⟩
theorem bF.gN{B:Bx}{M:Mo}(O:bF B M){r:Nat}(hr:M.hole=some r)(I:gC B.C r)(n:I3)(jz:mu B.C.A r=n)(hm:n.cQ<16)(QC:dV n.key=true){A2 A3:By}{V:Tb}{ty:oa}(hy:ty.ok=none→V.ob= [])(PK:VK B.C B.W r A2 V)(EK:K6 (B.C.wA A2) r A3 (jf M.Q (qi (B.C.cl r) 1) r)):
  bF ⟨B.C.wA A3,V,ty,jB B.E (B.C.hd r) n.exp M.tn⟩ (M.gN r n):=by
 have K:=O.k
 have zD:r∉B.W.all:=O.ho r hr
 have L:Live B.C r:=(O.lv r).2 (.inr hr)
 have iE:=(L.toAt.aX K).1
 have QU:=mz O.o iE (s:=1) ⟨aan _,by omega⟩
 have fx:B.C.cl r=M.C.cl r:=O.cl r
 have zB:∀q,q∈V.all↔q=r∨q∈B.W.all:=λq=>by rw[PK.pm.mem_iff,aau]
 have lv_:∀q,q=r∨q∈B.W.all→Live B.C q:=λq h=>h.elim (λe=>e▸L) O.qP
 have io_:∀q,q=r∨q∈B.W.all→gC B.C q:=λq h=>h.elim (λe=>e▸I) (O.t.it q)
 have d1:cI B.C B.C.A A2 (λq o=>q=r∧o<4):=(xd PK.df (λq hq=>by rw[aaA.1 hq];exact L.toAt) (λq hq=>by rw[aaA.1 hq];have:=(L.toAt.aX K).2.1;omega)).mono λq o g=>by
  obtain⟨g1,_,g3⟩:=g
  exact⟨aaA.1 g1,by omega⟩
 have d2:cI B.C A2 A3 (SL r):=EK.d.wA
 have dd:cI B.C B.C.A A3 (λq o=>o<12∨(o=45∨o=46)∧q=r):=(d1.mono λq o g=>by omega).trans (d2.mono λq o g=>by unfold SL at g;omega)
 have same:∀q∈B.W.all,mu A3 q=mu B.C.A q:=λq h=>uA K dd (O.mH h) (O.t.it q h) λj s=>by
  have ne:q≠r:=λe=>zD (e▸h)
  rcases s with s|s
  ·omega
  exact absurd s.2 ne
 have mr:cM A3 r=mkSet n.cQ false:=by
  rw[EK.mr]
  have:cM A2 r=cM B.C.A r:=ke K d1 L.toAt (by have:=(L.toAt.aX K).2.1;omega) λj h1 h2 s=>by omega
  rw[show cM (B.C.wA A2).A r=cM B.C.A r from this,show cM B.C.A r=n.cQ from congrArg I3.cQ jz]
 have KE:mu A3 r={n with cQ:=mkSet n.cQ false}:=by
  rw[C8 K dd L.toAt I λj s=>by omega,jz,mr]
 have nit:∀q∈V.all,mu A3 q=(M.gN r n).it q:=λq h=>by
  show _=if q=r then _ else M.it q
  rcases(zB q).1 h with e|h1
  ·rw[if_pos e,e];exact KE
  rw[if_neg λe:q=r=>zD (e▸h1),same q h1];exact O.it q h1
 have lL:∀q,Live (B.C.wA A3) q↔Live B.C q:=λq=>⟨λh=>⟨⟨h.i,h.own,h.al,h.k⟩,h.tk⟩,λh=>h.wA _⟩
 have hmq:∀q∈V.all,cM A3 q<16:=λq h=>by
  rcases(zB q).1 h with e|h1
  ·rw[e,mr]
   have:=jP hm false
   omega
  rw[show cM A3 q=cM B.C.A q from congrArg I3.cQ (same q h1)]
  obtain⟨i,hi⟩:=(O.al q).1 h1
  exact O.mq i q hi
 have al_:∀q,q∈V.all↔∃j,q∈ql (M.gN r n).Q j:=λq=>by
  rw[zB]
  show _↔∃j,q∈ql (jf M.Q (qi (M.C.cl r) 1) r) j
  rw[←fx]
  constructor
  ·rintro(e|h)
   ·exact⟨_,(gZ QU).2 (.inl ⟨rfl,e⟩)⟩
   obtain⟨j,hj⟩:=(O.al q).1 h
   exact⟨j,(gZ QU).2 (.inr hj)⟩
  rintro⟨j,hj⟩
  rcases(gZ QU).1 hj with⟨_,e⟩|h
  ·exact .inl e
  exact .inr (O.qS h)
 have h0:=O.st0
 have GI:=O.nb
 have hn:=O.n
 have Co:=O.mg
 have hmo:=O.mo
 have hgr:M.QY↔mW B.W:=by unfold Mo.QY mW;rw[h0,GI,hn,hmo]
 have V4:=O.t.J5
 have Rl:∀q∈B.W.all,B.C.hd q≠B.C.hd r:=λq h e=>zD ((lW K (O.mH h) L.toAt e)▸h)
 refine⟨?_,K.wA A3, ?_,hy, ?_, ?_,λj q h=>hmq q ((al_ q).2 ⟨j,h⟩),O.ck,al_,λq=> ?_,λq h=>(by cases h),nit, ?_, ?_, ?_, ?_, ?_, ?_,O.un,O.on,O.go,O.wn,O.cf, ?_,λq h=> ?_⟩
 ·show B.C.wA A3=M.C.wA A3
  conv=>lhs;rw[O.c]
  rfl
 ·exact GO (K.wA A2) PK.o EK.d λq _ j g=>⟨by unfold SL at g;unfold k7;omega,by unfold SL at g;omega⟩
 ·show hZ (B.C.wA A3) (jf M.Q (qi (M.C.cl r) 1) r)
  rw[←fx];exact EK.o
 ·show cn B.C.ae.length (jf M.Q (qi (M.C.cl r) 1) r) M.x
  rw[←fx]
  exact⟨O.x.go,O.x.no,λq h=>⟨(gZ QU).2 (.inr (O.x.nx q h).1),(O.x.nx q h).2⟩,O.x.lf⟩
 ·show Live (B.C.wA A3) q↔q∈V.all∨none=some q
  rw[lL,O.lv,zB,hr]
  constructor
  ·rintro(h|h)
   ·exact .inl (.inr h)
   exact .inl (.inl (Option.some.inj h).symm)
  rintro((h|h)|h)
  ·exact .inr (by rw[h])
  ·exact .inl h
  cases h
 ·have e1:hU (B.C.wA A3) (M.gN r n) B.W.all=hU B.C M B.W.all:=fq λq h=>by
   have ne:q≠r:=λe=>zD (e▸h)
   refine⟨?_,if_neg ne,rfl⟩
   show(if q=r then _ else M.it q).exp=_
   rw[if_neg ne]
  have e2:hU (B.C.wA A3) (M.gN r n) (r::B.W.all)=if 0<n.exp then⟨B.C.hd r,n.exp,M.tn+1⟩::hU B.C M B.W.all else hU B.C M B.W.all:=by
   rw[jS,e1,show(M.gN r n).it r={n with cQ:=mkSet n.cQ false}from if_pos rfl,show(M.gN r n).ord r=M.tn+1 from if_pos rfl];rfl
  refine aaq.trans ?_ ((aaq.of_eq e2.symm).trans (jR PK.pm.symm))
  have p1:(ey B.E (B.C.hd r)).Perm (hU B.C M B.W.all):=(O.e.filter _).trans (aaq.of_eq (lA Rl))
  unfold jB
  split
  ·exact p1.cons _
  exact p1
 ·intro h2
  show V.mv<V.ob.length
  by_cases g:mW B.W
  ·obtain⟨_,_,e1,e2⟩:=PK.V6 g
   rw[e1,e2];omega
  obtain⟨_,e1,e2,e3⟩:=PK.same g
  rw[e2,e3];exact O.st (by rw[←e1];exact h2)
 ·show V.size=if M.QY then 2*M.nb else M.nb
  by_cases g:mW B.W
  ·rw[if_pos (hgr.2 g),(PK.V6 g).1,GI]
  rw[if_neg λe=>g (hgr.1 e),(PK.same g).1,GI]
 ·show(if M.QY then M.nb else M.mg)=if V.st=2 then V.ob.length-V.mv else 0
  by_cases g:mW B.W
  ·obtain⟨_,e1,e2,e3⟩:=PK.V6 g
   rw[if_pos (hgr.2 g),if_pos e1,e2,e3,GI];rfl
  obtain⟨_,e1,e2,e3⟩:=PK.same g
  rw[if_neg λe=>g (hgr.1 e),e1,e2,e3];exact Co
 ·exact PK.aB.trans hmo
 ·show M.v.fI+n.sz=(V.all.map λq=>((M.gN r n).it q).sz).sum
  rw[np _ PK.pm,aao,aaC,show((M.gN r n).it r).sz=n.sz by rw[show(M.gN r n).it r={n with cQ:=mkSet n.cQ false}from if_pos rfl];rfl,O.bt]
  rw[show(B.W.all.map λq=>((M.gN r n).it q).sz)=B.W.all.map λq=>(M.it q).sz from adT λq h=>by
   show(if q=r then _ else M.it q).sz=_
   rw[if_neg λe:q=r=>zD (e▸h)]]
  omega
 ·show V.n=M.n+1
  rw[PK.n,hn]
 show dV (if q=r then{n with cQ:=mkSet n.cQ false}else M.it q).key=true
 rcases(zB q).1 h with e|h1
 ·rw[if_pos e];exact QC
 rw[if_neg λe:q=r=>zD (e▸h1)];exact O.lg q h1
def Mo.lS (M:Mo)(p r:Nat)(n:I3):Mo:=
 {M with C:=M.C.bb p,hole:=none,Q:=jf (gn M.Q p) (qi (M.C.cl r) 1) r,it:=λq=>if q=r then{n with cQ:=mkSet n.cQ false}else M.it q,ord:=λq=>if q=r then M.tn+1 else M.ord q,tn:=if 0<n.exp then M.tn+1 else M.tn,x:=M.x.left M.Q p,v:={M.v with fI:=M.v.fI+n.sz-(M.it p).sz}}
theorem bF.lS{B:Bx}{M:Mo}(O:bF B M){p r:Nat}(hp:M.has p)(hr:M.hole=some r)(I:gC B.C r)(n:I3)(jz:mu B.C.A r=n)(hm:n.cQ<16)(QC:dV n.key=true){A2 A3 A4:By}{V:Tb}{ty:oa}(hy:ty.ok=none→V.ob= [])(T:M6 B.C B.W p r A2 V)
  (OF:VM (B.C.wA A2) p A3 (gn M.Q p) (M.x.left M.Q p)) (EK:K6 (((B.C.wA A2).wA A3).bb p) r A4 (jf (gn M.Q p) (qi (B.C.cl r) 1) r)):
  bF ⟨(((B.C.wA A2).wA A3).bb p).wA A4,V,ty,ey (jB B.E (B.C.hd r) n.exp M.tn) (B.C.hd p)⟩ (M.lS p r n):=by
 have K:=O.k
 have dT:=(O.al p).2 hp
 have Lp:=O.qP dT
 have zD:r∉B.W.all:=O.ho r hr
 have VO:r≠p:=λe=>zD (e▸dT)
 have L:Live B.C r:=(O.lv r).2 (.inr hr)
 have iE:=(L.toAt.aX K).1
 have fx:B.C.cl r=M.C.cl r:=O.cl r
 obtain⟨rest,ZH,ZG⟩:=T.pm
 have nd1:=aar.1 (ZH.nodup_iff.1 O.t.nd)
 have inr:∀q,q∈rest↔q∈B.W.all∧q≠p:=λq=>by
  rw[ZH.mem_iff,aau]
  exact⟨λh=>⟨.inr h,λe=>nd1.1 (e▸h)⟩,λh=>h.1.resolve_left h.2⟩
 have zB:∀q,q∈V.all↔q=r∨q∈B.W.all∧q≠p:=λq=>by rw[ZG.mem_iff,aau,inr]
 have lv_:∀q,q=r∨q∈B.W.all→Live B.C q:=λq h=>h.elim (λe=>e▸L) O.qP
 have io_:∀q,q=r∨q∈B.W.all→gC B.C q:=λq h=>h.elim (λe=>e▸I) (O.t.it q)
 have QU:qi (B.C.cl r) 1<(gn M.Q p).length:=by
  unfold gn
  rw[aax]
  exact mz O.o iE (s:=1) ⟨aan _,by omega⟩
 have d1:cI B.C B.C.A A2 (λ_ o=>o<4):=(xd T.df (λq hq=>(lv_ q ((aau.1 hq).imp id id)).toAt) (λq hq=>by have:=((lv_ q ((aau.1 hq).imp id id)).toAt.aX K).2.1;omega)).mono λq o g=>by omega
 have d2:cI B.C A2 A3 (SQ p):=OF.d.wA
 have d3:cI B.C A3 A4 (SL r):=λi hi=>by
  obtain⟨q,o,q1,q2,q3,q4⟩:=EK.d i hi
  have S:=(gq (K.wA A3) (Lp.wA A3)).2
  have a:=(S.at (p:=q)).1 ⟨q1.i,q1.own,q1.al,q1.k⟩
  refine⟨q,o,⟨a.i,a.own,a.al,a.k⟩, ?_,q3,q4⟩
  have e1:((((B.C.wA A2).wA A3).bb p)).cl q=B.C.cl q:=S.cl q
  rw[e1]at q2
  exact q2
 have dd:cI B.C B.C.A A4 (λq o=>o<12∨o=45∨o=46∧q=r):=((d1.mono λq o g=>by omega).trans (d2.mono λq o g=>by unfold SQ at g;omega)).trans (d3.mono λq o g=>by unfold SL at g;omega)
 have same:∀q∈B.W.all,mu A4 q=mu B.C.A q:=λq h=>uA K dd (O.mH h) (O.t.it q h) λj s=>by
  have ne:q≠r:=λe=>zD (e▸h)
  rcases s with s|s|s
  ·omega
  ·omega
  exact absurd s.2 ne
 have d12:cI B.C B.C.A A3 (λq o=>o<12∨o=45):=(d1.mono λq o g=>by omega).trans (d2.mono λq o g=>by unfold SQ at g;omega)
 have mr:cM A4 r=mkSet n.cQ false:=by
  rw[EK.mr]
  have:cM A3 r=cM B.C.A r:=ke K d12 L.toAt (by have:=(L.toAt.aX K).2.1;omega) λj h1 h2 s=>by omega
  rw[show cM (((B.C.wA A2).wA A3).bb p).A r=cM B.C.A r from this,show cM B.C.A r=n.cQ from congrArg I3.cQ jz]
 have KE:mu A4 r={n with cQ:=mkSet n.cQ false}:=by
  rw[C8 K dd L.toAt I λj s=>by omega,jz,mr]
 have nit:∀q∈V.all,mu A4 q=(M.lS p r n).it q:=λq h=>by
  show _=if q=r then _ else M.it q
  rcases(zB q).1 h with e|⟨h1,h2⟩
  ·rw[if_pos e,e];exact KE
  rw[if_neg λe:q=r=>zD (e▸h1),same q h1];exact O.it q h1
 have lL:∀q,Live ((((B.C.wA A2).wA A3).bb p).wA A4) q↔Live B.C q∧q≠p:=λq=>by
  have h1:=nU (K.wA A3) (Lp.wA A3) q
  refine Iff.trans ⟨λh=> ?_,λh=> ?_⟩ (h1.trans ⟨λh=>⟨⟨⟨h.1.i,h.1.own,h.1.al,h.1.k⟩,h.1.tk⟩,h.2⟩,λh=>⟨h.1.wA _,h.2⟩⟩)
  ·exact⟨⟨h.i,h.own,h.al,h.k⟩,h.tk⟩
  exact⟨⟨h.i,h.own,h.al,h.k⟩,h.tk⟩
 have GJ:∀q,Live B.C q→q≠p→((((B.C.wA A2).wA A3).bb p).wA A4).hd q=B.C.hd q:=λq h ne=>((lr (K.wA A3) (Lp.wA A3)).lv q ne (h.wA A3)).2.1
 have hmq:∀q∈V.all,cM A4 q<16:=λq h=>by
  rcases(zB q).1 h with e|⟨h1,h2⟩
  ·rw[e,mr]
   have:=jP hm false
   omega
  rw[show cM A4 q=cM B.C.A q from congrArg I3.cQ (same q h1)]
  obtain⟨i,hi⟩:=(O.al q).1 h1
  exact O.mq i q hi
 have al_:∀q,q∈V.all↔∃j,q∈ql (M.lS p r n).Q j:=λq=>by
  rw[zB]
  show _↔∃j,q∈ql (jf (gn M.Q p) (qi (M.C.cl r) 1) r) j
  rw[←fx]
  constructor
  ·rintro(e|⟨h,ne⟩)
   ·exact⟨_,(gZ QU).2 (.inl ⟨rfl,e⟩)⟩
   obtain⟨j,hj⟩:=(O.al q).1 h
   exact⟨j,(gZ QU).2 (.inr (by rw[gU];exact(aen ne).2 hj))⟩
  rintro⟨j,hj⟩
  rcases(gZ QU).1 hj with⟨_,e⟩|h
  ·exact .inl e
  rw[gU]at h
  exact .inr ⟨O.qS (ad1 h),λe=>by subst e;exact(List.Nodup.not_mem_erase (O.o.nd j)) h⟩
 have iD:=λj=>qn (K.wA A3) (Lp.wA A3) j
 have hn:=O.n
 have GI:=O.nb
 have Co:=O.mg
 have Kf:Ok ((((B.C.wA A2).wA A3).bb p).wA A4):=OF.k.wA A4
 have hsV:∀q∈V.all,q≠p:=λq h=>((zB q).1 h).elim (λe=>e▸VO) λg=>g.2
 refine⟨?_,Kf, ?_,hy, ?_, ?_,λj q h=>hmq q ((al_ q).2 ⟨j,h⟩),O.ck,al_,λq=> ?_,λq h=>(by cases h),nit, ?_, ?_, ?_, ?_, ?_, ?_, ?_, ?_, ?_,O.wn, ?_, ?_,λq h=> ?_⟩
 ·show(((B.C.wA A2).wA A3).bb p).wA A4=(M.C.bb p).wA A4
  conv=>lhs;rw[O.c]
  rfl
 ·have T2:=GO (K.wA A2) T.o OF.d λq _ j g=>⟨g.p7,by unfold SQ at g;omega⟩
  have T3:=OF.s.tb T2 hsV
  exact GO OF.k T3 EK.d λq _ j g=>⟨by unfold SL at g;unfold k7;omega,by unfold SL at g;omega⟩
 ·show hZ _ (jf (gn M.Q p) (qi (M.C.cl r) 1) r)
  rw[←fx];exact EK.o
 ·show cn B.C.ae.length (jf (gn M.Q p) (qi (M.C.cl r) 1) r) (M.x.left M.Q p)
  rw[←fx]
  have X:=OF.x
  exact⟨X.go,X.no,λq h=>⟨(gZ QU).2 (.inr (X.nx q h).1),(X.nx q h).2⟩,X.lf⟩
 ·show Live _ q↔q∈V.all∨none=some q
  rw[lL,O.lv,zB,hr]
  constructor
  ·rintro⟨h|h,ne⟩
   ·exact .inl (.inr ⟨h,ne⟩)
   exact .inl (.inl (Option.some.inj h).symm)
  rintro((h|h)|h)
  ·exact⟨.inr (by rw[h]),λe=>VO (h.symm.trans e)⟩
  ·exact⟨.inl h.1,h.2⟩
  cases h
 ·have ie:∀q∈rest,B.C.hd q≠B.C.hd p:=λq h e=>((inr q).1 h).2 (lW K (O.mH ((inr q).1 h).1) (O.mH dT) e)
  have Rl:∀q∈p::rest,B.C.hd q≠B.C.hd r:=λq h e=>by
   have hq:q∈B.W.all:=(aau.1 h).elim (λe=>e▸dT) λh=>((inr q).1 h).1
   exact zD ((lW K (O.mH hq) L.toAt e)▸hq)
  have hrp:B.C.hd r≠B.C.hd p:=λe=>Rl p aai e.symm
  have e1:hU ((((B.C.wA A2).wA A3).bb p).wA A4) (M.lS p r n) rest=hU B.C M rest:=fq λq h=>by
   obtain⟨g1,g2⟩:=(inr q).1 h
   have ne:q≠r:=λe=>zD (e▸g1)
   refine⟨?_,if_neg ne,GJ q (O.qP g1) g2⟩
   show(if q=r then _ else M.it q).exp=_
   rw[if_neg ne]
  have e2:hU ((((B.C.wA A2).wA A3).bb p).wA A4) (M.lS p r n) (r::rest)=if 0<n.exp then⟨B.C.hd r,n.exp,M.tn+1⟩::hU B.C M rest else hU B.C M rest:=by
   rw[jS,e1,show(M.lS p r n).it r={n with cQ:=mkSet n.cQ false}from if_pos rfl,show(M.lS p r n).ord r=M.tn+1 from if_pos rfl,GJ r L VO]
  refine aaq.trans ?_ ((aaq.of_eq e2.symm).trans (jR ZG.symm))
  have p1:(ey B.E (B.C.hd r)).Perm (hU B.C M (p::rest)):=((O.e.trans (jR ZH)).filter _).trans (aaq.of_eq (lA Rl))
  have p2:(ey (ey B.E (B.C.hd r)) (B.C.hd p)).Perm (hU B.C M rest):=by
   refine(p1.filter _).trans ?_
   rw[jS]
   split
   ·rw[adQ,if_neg (by simp)]
    exact aaq.of_eq (lA ie)
   exact aaq.of_eq (lA ie)
  unfold jB
  split
  ·unfold ey at p2⊢
   rw[adQ,if_pos (by simpa using hrp)]
   exact p2.cons _
  exact p2
 ·intro h2
  show V.mv<V.ob.length
  rw[T.mv,T.s.ob]
  exact O.st (by rw[←T.s.st];exact h2)
 ·exact T.s.size.trans GI
 ·show M.mg=if V.st=2 then V.ob.length-V.mv else 0
  rw[T.s.st,T.mv,T.s.ob];exact Co
 ·exact T.s.aB.trans O.mo
 ·show M.v.fI+n.sz-(M.it p).sz=(V.all.map λq=>((M.lS p r n).it q).sz).sum
  rw[np _ ZG,aao,aaC,show((M.lS p r n).it r).sz=n.sz by rw[show(M.lS p r n).it r={n with cQ:=mkSet n.cQ false}from if_pos rfl];rfl,O.bt,np _ ZH,aao,aaC]
  rw[show(rest.map λq=>((M.lS p r n).it q).sz)=rest.map λq=>(M.it q).sz from adT λq h=>by
   show(if q=r then _ else M.it q).sz=_
   rw[if_neg λe:q=r=>zD (e▸((inr q).1 h).1)]]
  omega
 ·exact O.un
 ·intro h
  have:=O.on h
  obtain⟨e1,e2,e3⟩:=iD M.m.pg
  exact⟨this.1,e1.trans this.2.1,e2.trans this.2.2.1,e3.trans this.2.2.2⟩
 ·intro j h
  exact O.go j ((iD j).2.1.symm.trans h)
 ·exact O.cf
 ·exact T.s.n.trans hn
 show dV (if q=r then{n with cQ:=mkSet n.cQ false}else M.it q).key=true
 rcases(zB q).1 h with e|⟨h1,h2⟩
 ·rw[if_pos e];exact QC
 rw[if_neg λe:q=r=>zD (e▸h1)];exact O.lg q h1
def Mo.kG (M:Mo)(i:Nat):Mo:={M with v:={M.v with aO:=i}}
theorem bF.kG{B:Bx}{M:Mo}(O:bF B M)(i:Nat):bF B (M.kG i):=
 ⟨O.c,O.k,O.t,O.ty,O.o,O.x,O.mq,O.ck,O.al,O.lv,O.ho,O.it,O.e,O.st,O.nb,O.mg,O.mo,O.bt,O.un,O.on,O.go,O.wn,O.cf,O.n,O.lg⟩
def Mo.fA (M:Mo)(r:Nat)(old:Option Nat)(n:I3):Mo:=match old with
 |none=>(M.kG (M.v.aO+1)).gN r n
 |some p=>(M.kG (M.v.aO+1)).lS p r n
theorem bF.abh{B:Bx}{M:Mo}(O:bF B M):M.v.fI≤1125899906842624:=by
 rw[O.bt]
 have h2:=x9 O.k O.t
 rw[O.t.n]at h2
 have:∀l:List Nat,(∀p∈l,p∈B.W.all)→(l.map λp=>(M.it p).sz).sum≤l.length*1048576:=λl=>by
  induction l with
  |nil=>intro _;simp
  |cons p l ih=>
   intro h
   have hp:=h p aai
   have h1:=O.szp hp
   have h3:=(O.t.it p hp).fits
   have h4:=((O.mH hp).aX O.k).2.2.1
   have h5:=O.k.toFix.p1
   have:=ih λq hq=>h q (aag _ hq)
   rw[aao,aaC,adm]
   omega
 have:=this _ λp h=>h
 have h3:B.W.all.length*1048576≤1073741824*1048576:=aaD _ h2
 omega
theorem R5 (z:Ly)(M:Mo)(r:Nat)(hr:M.hole=some r)(old:Option Nat)(k v:List UInt8)(Qw Qm:Nat)(pO:Qw=k.length)(hvl:Qm=v.length)(hold:∀p,old=some p→M.has p∧(M.it p).key=k)(Wc:old=none→M.find k=none)(ka va:Option Addr)(kc vc fl ex mk:Nat)(QC:dV k=true)
  (yg:58+k.length+v.length≤M.C.sz (M.C.cl r)) (zF:fl<4294967296) (hex:ex<9223372036854775808) (tY:mk<16) (qZ:M.v.aO+1<18446744073709551616) (rZ:M.tn<18446744073709551615):
  aF aaa 118 [.pointer (some ⟨z.s,0,none⟩), .int .u64 (M.C.hd r:Int), .int .u64 (ua M.C old:Int), .agg (Ca (.slice ka Qw kc) (.slice va Qm vc) fl ex 0 0 0 mk).toArray] (λh=>eB h ka (ak k)∧eB h va (ak v)) [SH z M]
   (λw H=>w= .tuple #[]∧H= [SH z (M.fA r old ⟨k,v,fl,ex,M.k.now,M.v.aO+1,mk⟩)]):=by
 obtain⟨n,hn⟩:∃n:I3,n=⟨k,v,fl,ex,M.k.now,M.v.aO+1,mk⟩:=⟨_,rfl⟩
 rw[←hn]
 refine af func118 rfl ntmps118 rfl ?_
 rintro F ⟨hka,hva⟩
 refine aA ?_
 refine Lp (oB λb1=> ?_)
 refine aA ?_
 refine az (λ_ x=>cT x) ?_
 refine fe λB O=> ?_
 have K:=O.k
 have L:Live B.C r:=(O.lv r).2 (.inr hr)
 have x0:=O.ck.n2
 have GJ:=O.hd r
 have hz4:=(L.toAt.aX K).2.2.1
 have Ut:=K.toFix.p1
 have KL:58+k.length+v.length≤B.C.sz (B.C.cl r):=by rw[O.c];exact yg
 have VX:=fQ QC
 have ly:=TB z.y.b B.C K r L ka va kc vc Qw Qm k v pO hvl fl ex M.k.now (M.v.aO+1) 4 mk QC KL zF hex (by omega) qZ ⟨by omega,by omega⟩ tY
 rw[GJ]at ly
 have QV:k.length<256:=by omega
 have hv6:v.length<256^4:=by omega
 have LP:=X0 (c:=B.C.cl r) (fl:=fl) (exp:=ex) (tch:=M.k.now) (tok:=M.v.aO+1) (st:=4) (mk:=mk) L.toAt QV KL
 have Kr:=FW B.C.A r (B.C.cl r) k v fl ex M.k.now (M.v.aO+1) 4 mk QV
 obtain⟨Wo,f_k,f_v⟩:=To B.C.A r (B.C.cl r) k v fl ex M.k.now (M.v.aO+1) 4 mk QV hv6
 have Wr:=Tl B.C.A r (B.C.cl r) k v fl ex M.k.now (M.v.aO+1) 4 mk QV (by omega)
 have Wp:=OA B.C.A r (B.C.cl r) k v fl ex M.k.now (M.v.aO+1) 4 mk QV (by omega)
 have abe:=Oz B.C.A r (B.C.cl r) k v fl ex M.k.now (M.v.aO+1) 4 mk QV (by omega)
 have abf:=Tk B.C.A r (B.C.cl r) k v fl ex M.k.now (M.v.aO+1) 4 mk QV (by omega)
 have Wq:=Th B.C.A r (B.C.cl r) k v fl ex M.k.now (M.v.aO+1) 4 mk QV (by omega)
 have Rr:=Tj B.C.A r (B.C.cl r) k v fl ex M.k.now (M.v.aO+1) 4 mk QV (by omega)
 obtain⟨A1,QH⟩:∃A1,A1=j7 B.C.A r (B.C.cl r) k v fl ex M.k.now (M.v.aO+1) 4 mk:=⟨_,rfl⟩
 rw[←QH]at ly LP Kr Wo f_k f_v Wr Wp abe abf Wq Rr
 have jz:mu (B.C.wA A1).A r=n:=by
  rw[hn];unfold mu;rw[cg,f_k,f_v,Wr,Wp,abe,abf,Rr]
 have O1:=(O.Cx hr LP).kG (M.v.aO+1)
 have I1:gC (B.C.wA A1) r:=⟨by rw[cg,Kr];omega,by rw[cg,Kr,Wo];exact KL,by rw[cg,show rd A1 (r+16) 8=ex from Wr];exact hex,by rw[cg,show rd A1 (r+24) 8=M.k.now from Wp];omega⟩
 have zD:=O.ho r hr
 have P1:gv (B.C.wA A1) (some r):=λq e=>by cases e;exact⟨L.wA _,I1⟩
 have ss:=λrest=>AG z.s z.y rest (B.C.wA A1) O1.k r P1 (by rw[cg,Kr];omega)
 rw[cg,Kr,Wo]at ss
 rw[show(B.C.wA A1).hd r=M.C.hd r from GJ]at ss
 have hbt:=O.abh
 have sO:n.sz=58+k.length+v.length:=by rw[hn];rfl
 have hE:B.E.length<2147483647:=by
  rw[O.e.length_eq]
  unfold hU
  rw[aax]
  have h1:=ae1 (λp=>decide (0<(M.it p).exp)) B.W.all
  have h2:=x9 O.k O.t
  rw[O.t.n]at h2
  omega
 have ws:=GC z.y.wh B.E M.tn (M.C.hd r) ex rZ hE
 unfold fk gr jZ gd pV iZ Ca
 refine bd ?_
 refine bA ?_
 refine aw ?_
 refine ik 16 T.mix (.cons (.there (.there (.there (.there (.there (.there (.there (.there .here)))))))) .nil) λF1 je bR aM=> ?_
 obtain⟨q1,_⟩:=bR
 refine dg ?_
 refine Tp (oC T.gI rfl rfl (hJ z.y.ck M.k) .nil (λ_ le aq=>aq.nth 8 rfl) ?_)
 rintro v H' ⟨rfl,rfl⟩
 refine bd ?_
 refine bD ?_
 refine gO aM ?_
 refine aA ?_
 refine aw ?_
 refine Hh (H':=lM z B.C B.W B.ty B.C.ae.length (M.Q.flatMap (dR B.C)) M.x B.E M.tn (M.v,[.int .u64 ((M.v.aO+1:Nat):Int), .int .i64 (M.v.fI:Int), .int .i64 M.v.mt.dr, .int .i64 M.v.mt.re, .int .i64 M.v.mt.bu, .int .i64 M.v.mt.li, .int .i64 M.v.mt.lo, .int .i64 M.v.mt.cr, .int .i64 M.v.mt.mv, .slice M.v.wa M.v.wn M.v.wc]) M.k M.m M [ag b1 170 [.slice ka Qw kc, .slice va Qm vc, .int .u64 (fl:Int), .int .i64 (ex:Int), .int .i64 (M.k.now:Int), .int .u64 ((M.v.aO+1:Nat):Int), .int .i64 4, .int .i64 (mk:Int)]]) ?_
 unfold lM wu
 refine ik 7 T.mix (.cons (.there (.there (.there (.there (.there (.there (.there (.there .here)))))))) (.cons (.there (.there (.there (.there (.there (.there (.there (.there (.there (.there (.there (.there (.there .here))))))))))))) .nil)) λF2 zM eG ez=> ?_
 obtain⟨q2,q3,_⟩:=eG
 refine bL ?_
 refine gO ez ?_
 refine Tp (oC T.YG rfl rfl (ly) (.cons (.there (.there .here)) .nil) (λ_ le _=>⟨hka.mono le,hva.mono le⟩) ?_)
 rintro v H' ⟨rfl,rfl⟩
 refine bd ?_
 refine aA ?_
 refine aw ?_
 refine Hh (H':=lM z (B.C.wA A1) B.W B.ty B.C.ae.length (M.Q.flatMap (dR (B.C.wA A1))) M.x B.E M.tn (M.v,[.int .u64 ((M.v.aO+1:Nat):Int), .int .i64 (M.v.fI:Int), .int .i64 M.v.mt.dr, .int .i64 M.v.mt.re, .int .i64 M.v.mt.bu, .int .i64 M.v.mt.li, .int .i64 M.v.mt.lo, .int .i64 M.v.mt.cr, .int .i64 M.v.mt.mv, .slice M.v.wa M.v.wn M.v.wc]) M.k M.m M [ag b1 170 [.slice ka Qw kc, .slice va Qm vc, .int .u64 (fl:Int), .int .i64 (ex:Int), .int .i64 (M.k.now:Int), .int .u64 ((M.v.aO+1:Nat):Int), .int .i64 4, .int .i64 (mk:Int)]]) ?_
 unfold lM wu
 refine ik 8 T.mix (.cons (.there (.there (.there (.there (.there (.there (.there (.there .here)))))))) (.cons (.there (.there (.there (.there (.there (.there (.there (.there (.there (.there (.there (.there (.there .here))))))))))))) .nil)) λF3 VQ uo gJ=> ?_
 obtain⟨q4,q5,_⟩:=uo
 refine dh ?_
 refine gO gJ ?_
 refine Tp (oC T.Mr rfl rfl (ws) (.cons (.there (.there (.there (.there (.there (.there (.there (.there (.there .here))))))))) .nil) (λ_ _ _=>trivial) ?_)
 rintro v H' ⟨rfl,rfl⟩
 refine bd ?_
 refine aA ?_
 refine aw ?_
 refine Hh (H':=lM z (B.C.wA A1) B.W B.ty B.C.ae.length (M.Q.flatMap (dR (B.C.wA A1))) M.x (jB B.E (M.C.hd r) ex M.tn) (if 0<ex then M.tn+1 else M.tn) (M.v,[.int .u64 ((M.v.aO+1:Nat):Int), .int .i64 (M.v.fI:Int), .int .i64 M.v.mt.dr, .int .i64 M.v.mt.re, .int .i64 M.v.mt.bu, .int .i64 M.v.mt.li, .int .i64 M.v.mt.lo, .int .i64 M.v.mt.cr, .int .i64 M.v.mt.mv, .slice M.v.wa M.v.wn M.v.wc]) M.k M.m M [ag b1 170 [.slice ka Qw kc, .slice va Qm vc, .int .u64 (fl:Int), .int .i64 (ex:Int), .int .i64 (M.k.now:Int), .int .u64 ((M.v.aO+1:Nat):Int), .int .i64 4, .int .i64 (mk:Int)]]) ?_
 unfold lM wu
 refine ik 10 T.mix (.cons (.there (.there (.there (.there (.there (.there (.there (.there .here)))))))) .nil) λF4 le4 We KY=> ?_
 obtain⟨q6,_⟩:=We
 refine bD ?_
 refine Tp (oC T.My rfl rfl (ss (gd {M.v with aO:=M.v.aO+1})) .nil (λ_ le aq=>⟨In.mono q6 le,aq.nth 0 rfl⟩) ?_)
 rintro v H' ⟨rfl,rfl⟩
 refine bd ?_
 refine bq ?_
 refine gO KY ?_
 refine bq ?_
 refine aw ?_
 refine Hh (H':=lM z (B.C.wA A1) B.W B.ty B.C.ae.length (M.Q.flatMap (dR (B.C.wA A1))) M.x (jB B.E (M.C.hd r) ex M.tn) (if 0<ex then M.tn+1 else M.tn) (M.v,[.int .u64 ((M.v.aO+1:Nat):Int), .int .i64 ((M.v.fI+(58+k.length+v.length):Nat):Int), .int .i64 M.v.mt.dr, .int .i64 M.v.mt.re, .int .i64 M.v.mt.bu, .int .i64 M.v.mt.li, .int .i64 M.v.mt.lo, .int .i64 M.v.mt.cr, .int .i64 M.v.mt.mv, .slice M.v.wa M.v.wn M.v.wc]) M.k M.m M []) ?_
 unfold lM wu
 have K1:Ok (B.C.wA A1):=O1.k
 have L1:Live (B.C.wA A1) r:=L.wA _
 rcases old with _|p
 ·refine fi ?_
  refine aW ?_
  have hkd:∀q∈B.W.all,aE (B.C.wA A1).A q≠aE (B.C.wA A1).A r:=λq hq e=>by
   rw[cg,f_k,show aE A1 q=(M.it q).key from(O1.iw hq).2.2.2.2.1]at e
   have h1:=Wc rfl
   unfold Mo.find at h1
   rw[aef]at h1
   obtain⟨i,hi⟩:=(O.al q).1 hq
   have h2:=h1 q (by exact fh.2 ⟨i,hi⟩)
   simp only[decide_eq_true_eq]at h2
   exact h2 e
  have tp:=RP z.y.t z.y.b (B.C.wA A1) K1 B.W B.ty O1.t O.ty r L1 I1 zD hkd
  rw[show(B.C.wA A1).hd r=M.C.hd r from GJ]at tp
  unfold kR at tp
  refine bL ?_
  refine Lp (oC T.Yz rfl rfl (tp) (.cons .here (.cons .here (.cons .here (.cons .here .nil)))) (λ_ _ _=>trivial) ?_)
  rintro v H' ⟨rfl,A2,V,y2,rfl,hy,PK⟩
  refine bd ?_
  refine aA ?_
  have d1:cI (B.C.wA A1) A1 A2 (λq o=>q=r∧o<4):=(xd PK.df (λq hq=>by rw[aaA.1 hq];exact L1.toAt) (λq hq=>by rw[aaA.1 hq];have:=(L1.toAt.aX K1).2.1;omega)).mono λq o g=>by
   obtain⟨g1,_,g3⟩:=g
   exact⟨aaA.1 g1,by omega⟩
  have K2:=K1.wA A2
  have Q2:=Ko K1 O1.o d1 (λi q hq j g=>⟨by unfold k7;omega,by omega,by omega⟩)
  have L2:Live ((B.C.wA A1).wA A2) r:=L1.wA _
  have n1:=(L1.toAt.aX K1).2.1
  have m2:cM A2 r=mk:=by
   rw[←Rr]
   exact ke K1 d1 L1.toAt (by omega) λj h1 h2 s=>by omega
  have s2:ij A2 r=4:=by
   rw[←Wq]
   exact ke K1 d1 L1.toAt (by omega) λj h1 h2 s=>by omega
  have I2:gC ((B.C.wA A1).wA A2) r:=PK.o.it r (PK.pm.mem_iff.2 aai)
  have le:=xF z.y.lu z.y.q z.y.b z.qb z.hot z.warm ((B.C.wA A1).wA A2) K2 M.Q Q2 r (λq e=>by cases e;exact⟨L2,I2⟩) (by rw[cg,m2];exact tY) (by rw[cg,s2];omega)
  rw[show((B.C.wA A1).wA A2).hd r=M.C.hd r from GJ,show((B.C.wA A1).wA A2).cl r=B.C.cl r from rfl]at le
  unfold qO at le
  refine Hh (H':=lM z ((B.C.wA A1).wA A2) V y2 B.C.ae.length (M.Q.flatMap (dR ((B.C.wA A1).wA A2))) M.x (jB B.E (M.C.hd r) ex M.tn) (if 0<ex then M.tn+1 else M.tn) (M.v,[.int .u64 ((M.v.aO+1:Nat):Int), .int .i64 ((M.v.fI+(58+k.length+v.length):Nat):Int), .int .i64 M.v.mt.dr, .int .i64 M.v.mt.re, .int .i64 M.v.mt.bu, .int .i64 M.v.mt.li, .int .i64 M.v.mt.lo, .int .i64 M.v.mt.cr, .int .i64 M.v.mt.mv, .slice M.v.wa M.v.wn M.v.wc]) M.k M.m M []) ?_
  unfold lM wu
  refine bL ?_
  refine Lp (oC T.Mn rfl rfl (le) (.cons .here (.cons (.there (.there (.there .here))) (.cons (.there (.there (.there .here))) .nil))) (λ_ le aq=>aq.nth 7 rfl) ?_)
  rintro v H' ⟨rfl,A3,rfl,EK⟩
  refine bd ?_
  refine aG ?_
  subst hn
  have O2:=bF.gN O1 hr I1 _ jz tY QC hy PK EK
  refine Hh (H':=lM z (((B.C.wA A1).wA A2).wA A3) V y2 B.C.ae.length ((jf M.Q (qi (B.C.cl r) 1) r).flatMap (dR (((B.C.wA A1).wA A2).wA A3))) M.x (jB B.E (M.C.hd r) ex M.tn) (if 0<ex then M.tn+1 else M.tn) (M.v,[.int .u64 ((M.v.aO+1:Nat):Int), .int .i64 ((M.v.fI+(58+k.length+v.length):Nat):Int), .int .i64 M.v.mt.dr, .int .i64 M.v.mt.re, .int .i64 M.v.mt.bu, .int .i64 M.v.mt.li, .int .i64 M.v.mt.lo, .int .i64 M.v.mt.cr, .int .i64 M.v.mt.mv, .slice M.v.wa M.v.wn M.v.wc]) M.k M.m M []) ?_
  unfold lM wu
  rw[←GJ,show B.C.cl r=M.C.cl r from O.cl r]
  refine az (aK O2 (H:= [])) ?_
  refine jA [SH z (M.fA r none ⟨k,v,fl,ex,M.k.now,M.v.aO+1,mk⟩)] results118 ?_
  exact⟨rfl,rfl⟩
 obtain⟨hp,hpk⟩:=hold p rfl
 have dT:=(O.al p).2 hp
 have hp1':At B.C p:=O.mH dT
 have EF:=(bK K hp1').2.2.2.2.2
 rw[O.hd p]at EF
 have hpz:(!decide (((M.C.hd p:Nat):Int)=0))=true:=by rw[decide_eq_false (by omega)];rfl
 refine aW ?_
 refine fB ?_ (e:=by exact hpz)
 have sP:aE (B.C.wA A1).A p=aE (B.C.wA A1).A r:=by
  rw[cg,f_k,show aE A1 p=(M.it p).key from(O1.iw dT).2.2.2.2.1];exact hpk
 have tp:=NB z.y.t z.y.b (B.C.wA A1) K1 B.W B.ty O1.t O.ty p r dT L1 I1 zD sP
 rw[show(B.C.wA A1).hd r=M.C.hd r from GJ,show(B.C.wA A1).hd p=M.C.hd p from O.hd p]at tp
 unfold kR at tp
 refine dh ?_
 refine Lp (oC T.Y4 rfl rfl (tp) (.cons .here (.cons .here (.cons .here (.cons .here .nil)))) (λ_ _ _=>trivial) ?_)
 rintro v H' ⟨rfl,A2,V,rfl,hy,SK⟩
 refine bd ?_
 refine aW ?_
 obtain⟨i,hi⟩:=hp
 obtain⟨kq,hkq⟩:=aez hi
 have lvs:∀q∈r::B.W.all,Live (B.C.wA A1) q:=λq hq=>(aau.1 hq).elim (λe=>e▸L1) λh=>(O.qP h).wA _
 have d1:cI (B.C.wA A1) A1 A2 (λq o=>q∈r::B.W.all∧0≤o∧o<0+4):=xd SK.df (λq hq=>(lvs q hq).toAt) (λq hq=>by have:=((lvs q hq).toAt.aX K1).2.1;omega)
 have K2:=K1.wA A2
 have Q2:=Ko K1 O1.o d1 (λi q hq j g=>S04 g)
 have Lvp:=O.qP dT
 have kp:=pf K1 d1 (Lvp.wA A1).toAt (O1.t.it p dT) (λj g=>(S04 g).1)
 have klp:kl A2 p=kl A1 p:=kp.kl
 have vlp:vl A2 p=vl A1 p:=kp.vl
 have aa1:58+kl A1 p+vl A1 p=(M.it p).sz:=O1.szp dT
 have CI:kl A2 p≤250:=by
  have h1:=(fQ (O.lg p dT)).2
  rw[klp,←show(aE A1 p).length=kl A1 p from cK _ _ _,show aE A1 p=(M.it p).key from(O1.iw dT).2.2.2.2.1]
  exact h1
 have hb:(M.it p).sz≤M.v.fI:=by
  rw[O.bt]
  exact tj (λp=>(M.it p).sz) dT
 have of:=Fm z.s z.qb z.hot z.warm (bo z.s) (bn z.s) z.y {M.v with aO:=M.v.aO+1,fI:=M.v.fI+(58+k.length+v.length)} ((B.C.wA A1).wA A2) K2 M.Q Q2 M.x O.x (jB B.E (M.C.hd r) ex M.tn) (if 0<ex then M.tn+1 else M.tn) i kq p hkq CI (by rw[cg,klp,vlp,aa1];show _≤M.v.fI+_;omega) (by show M.v.fI+_<_;omega)
 rw[cg,klp,vlp,aa1,yW O.o hkq,show((B.C.wA A1).wA A2).hd p=M.C.hd p from O.hd p]at of
 refine Hh (H':=lM z ((B.C.wA A1).wA A2) V B.ty B.C.ae.length (M.Q.flatMap (dR ((B.C.wA A1).wA A2))) M.x (jB B.E (M.C.hd r) ex M.tn) (if 0<ex then M.tn+1 else M.tn) (M.v,[.int .u64 ((M.v.aO+1:Nat):Int), .int .i64 ((M.v.fI+(58+k.length+v.length):Nat):Int), .int .i64 M.v.mt.dr, .int .i64 M.v.mt.re, .int .i64 M.v.mt.bu, .int .i64 M.v.mt.li, .int .i64 M.v.mt.lo, .int .i64 M.v.mt.cr, .int .i64 M.v.mt.mv, .slice M.v.wa M.v.wn M.v.wc]) M.k M.m M []) ?_
 unfold lM wu
 refine Lp (oC T.MG rfl rfl (of) (.cons .here (.cons (.there (.there (.there .here))) (.cons (.there (.there (.there .here))) (.cons (.there (.there (.there .here))) (.cons (.there (.there (.there .here))) (.cons (.there (.there (.there .here))) .nil)))))) (λ_ le aq=>aq.nth 4 rfl) ?_)
 rintro v H' ⟨rfl,A3,rfl,OF⟩
 refine bd ?_
 have VO:r≠p:=λe=>zD (e▸dT)
 obtain⟨rest,ZH,ZG⟩:=SK.pm
 have nd1:=aar.1 (ZH.nodup_iff.1 O.t.nd)
 have hsV:∀q∈V.all,q≠p:=λq h=>(aau.1 (ZG.mem_iff.1 h)).elim (λe=>e▸VO) λh e=>nd1.1 (e▸h)
 have T2:=GO K2 SK.o OF.d (λq _ j g=>⟨g.p7,by unfold SQ at g;omega⟩)
 have T3:=OF.s.tb T2 hsV
 have hrV:r∈V.all:=ZG.mem_iff.2 aai
 obtain⟨C3,V3⟩:∃C3,C3=(((B.C.wA A1).wA A2).wA A3).bb p:=⟨_,rfl⟩
 have L2:At ((B.C.wA A1).wA A2) r:=(L1.wA A2).toAt
 have n1:=(L1.toAt.aX K1).2.1
 have m3:cM A3 r=mk:=by
  rw[←Rr]
  have e1:cM A3 r=cM A2 r:=ke K2 OF.d L2 (by have:=(L2.aX K2).2.1;omega) λj h1 h2 s=>by unfold SQ at s;omega
  rw[e1]
  exact ke K1 d1 L1.toAt (by omega) λj h1 h2 s=>by omega
 have s3:ij A3 r=4:=by
  rw[←Wq]
  have e1:ij A3 r=ij A2 r:=ke K2 OF.d L2 (by have:=(L2.aX K2).2.1;omega) λj h1 h2 s=>by unfold SQ at s;omega
  rw[e1]
  exact ke K1 d1 L1.toAt (by omega) λj h1 h2 s=>by omega
 have hA3:C3.A=A3:=by rw[V3];rfl
 have hcl3:C3.cl r=B.C.cl r:=by
  have:=(OF.s.lv r VO ((T2.lv r hrV))).2.2
  rw[←V3]at this
  exact this
 have hhd3:C3.hd r=M.C.hd r:=by
  have:=(OF.s.lv r VO ((T2.lv r hrV))).2.1
  rw[←V3]at this
  exact this.trans GJ
 have OF2:=OF
 have T4:=T3
 have K3:=OF.k
 have Q3:=OF.o
 have xZ:C3.ae.length=B.C.ae.length:=by rw[V3];rfl
 rw[←V3]at T4 K3 Q3
 have ZZ:=xF z.y.lu z.y.q z.y.b z.qb z.hot z.warm C3 K3 (gn M.Q p) Q3 r (λq e=>by cases e;exact⟨T4.lv r hrV,T4.it r hrV⟩) (by rw[hA3,m3];exact tY) (by rw[hA3,s3];omega)
 rw[hcl3,hhd3]at ZZ
 unfold qO at ZZ
 rw[xZ]at ZZ
 rw[←V3]
 refine dh ?_
 refine Lp (oC T.Mn rfl rfl (ZZ) (.cons .here (.cons .here (.cons .here .nil))) (λ_ le aq=>aq.nth 7 rfl) ?_)
 rintro v H' ⟨rfl,A4,rfl,EK⟩
 refine bd ?_
 refine aG ?_
 subst hn
 subst V3
 have O2:=bF.lS O1 ⟨i,hi⟩ hr I1 _ jz tY QC hy SK OF EK
 refine Hh (H':=lM z (((((B.C.wA A1).wA A2).wA A3).bb p).wA A4) V B.ty B.C.ae.length ((jf (gn M.Q p) (qi (B.C.cl r) 1) r).flatMap (dR (((((B.C.wA A1).wA A2).wA A3).bb p).wA A4))) (M.x.left M.Q p) (ey (jB B.E (M.C.hd r) ex M.tn) (M.C.hd p)) (if 0<ex then M.tn+1 else M.tn) (M.v,[.int .u64 ((M.v.aO+1:Nat):Int), .int .i64 ((M.v.fI+(58+k.length+v.length)-(M.it p).sz:Nat):Int), .int .i64 M.v.mt.dr, .int .i64 M.v.mt.re, .int .i64 M.v.mt.bu, .int .i64 M.v.mt.li, .int .i64 M.v.mt.lo, .int .i64 M.v.mt.cr, .int .i64 M.v.mt.mv, .slice M.v.wa M.v.wn M.v.wc]) M.k M.m M []) ?_
 unfold lM wu
 rw[←GJ,←O.hd p,show B.C.cl r=M.C.cl r from O.cl r]
 refine az (aK O2 (H:= [])) ?_
 refine jA [SH z (M.fA r (some p) ⟨k,v,fl,ex,M.k.now,M.v.aO+1,mk⟩)] results118 ?_
 exact⟨rfl,rfl⟩
theorem gB.beside{M:Mo}(A:gB M 1):Ev M M.beside:=by
 have h1:Ev M M.eD:= .rf rfl rfl
 have h2:Ev M M.eD.iy:=(h1.trans (Ev.bX M.eD M.eD.k.now M.eD.v.p.c)).trans (.rf rfl rfl)
 exact(h2.trans ((A.ev h2).gH M.eD.iy.v.p.m)).trans (.rf rfl rfl)
theorem gB.behind{M:Mo}(A:gB M 1)(hot warm:Nat)(k:List UInt8):Ev M (M.behind hot warm k):=by
 have h:=GB hot warm M k
 exact h.trans (A.ev h).beside
theorem Ev.meet (M:Mo)(k:List UInt8):Ev M (M.meet k).2:=by
 unfold Mo.meet
 split
 ·exact .rf rfl rfl
 split
 ·exact(Ev.rf rfl rfl:Ev M (M.eJ _)).trans (Ev.bM _ _)
 exact .rf rfl rfl
theorem gB.meet{M:Mo}{j:Nat}(A:gB M j)(k:List UInt8):gB (M.meet k).2 j:=A.ev (Ev.meet M k)
theorem Ev.fA (M:Mo)(r:Nat)(old:Option Nat)(n:I3):Ev M (M.fA r old n):=by
 unfold Mo.fA
 split
 ·exact .rf rfl rfl
 next p=>exact⟨rfl,F8 M.C p⟩
theorem gB.l9{j:Nat}(hot warm:Nat):∀(l:List (List UInt8)) {M:Mo},gB M (j+1)→Ev M (l.foldl (Mo.behind hot warm) M)
 | [],_,_=> .rf rfl rfl
 |k::l,M,A=>by
  have e:=(A.le (Nat.succ_le_succ (Nat.zero_le j))).behind hot warm k
  exact e.trans (gB.l9 (j:=j) hot warm l (A.ev e))
end Go.Proofs.YtdolmecackmjdaaGreatDoor
