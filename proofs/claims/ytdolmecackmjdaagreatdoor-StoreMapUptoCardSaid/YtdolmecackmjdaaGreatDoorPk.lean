/- Part Pk of the proof. -/
import Derived.Test.YtdolmecackmjdaaGreatDoorPc1
import Derived.Test.YtdolmecackmjdaaGreatDoorPd
import Derived.Test.YtdolmecackmjdaaGreatDoorPj1
set_option maxRecDepth 100000
open Nat renaming add_assoc → agV, mod_eq_of_lt → ac9, mul_le_mul_right → ac2, le_refl → acG, lt_succ_self → aik, le_trans → agC, min_zero → aiy
open List renaming mem_cons_self → acF, mem_cons_of_mem → acC, getElem_mem → acJ, map_cons → acM, sum_cons → ac0, mem_cons → acT, map_congr_left → agB, filter_cons → agz, mem_map → adi, mem_filter → adf, nodup_cons → acP, Perm → acN, getElem?_set_ne → ac5, getD_eq_getElem?_getD → acy, getElem?_map → acL, getElem?_eq_some_iff → acz, mem_of_getElem? → acB, getElem?_eq_getElem → acx, mem_of_mem_erase → agJ, mem_erase_of_ne → ag5, length_map → acU, length_filter_le → ahP, length_cons → ac7, getElem?_of_mem → ahh, mem_flatten → ag9, getElem_of_mem → acR, nodup_nil → agW, mem_of_mem_take → ahW, filter_sublist → adz, append_nil → agu, replicate → acA, findIdx?_eq_some_iff_getElem → acV, findIdx?_eq_none_iff → agE, foldl_cons → adm, find?_eq_none → agZ, mem_of_find?_eq_some → adA, find?_some → ahU, map_append → adq, mem_append → adw, mem_reverse → ag7, mem_singleton → acX
open Decidable renaming byContradiction → acH
open Int renaming min_le_right → ail
open Go.Proofs.Tryz renaming prog → acw
open Go.Proofs.Tryz
namespace Go.Proofs.YtdolmecackmjdaaGreatDoor
open Go Go.dL Go.Proofs.YtdolmecackmjdaaGreatDoor.Cs
structure I3 where
 key:List UInt8
 val:List UInt8
 fl:Nat
 exp:Nat
 tch:Nat
 tok:Nat
 dB:Nat
def nm (A:By)(p:Nat):Nat:=rd A (p+24) 8
def TY (A:By)(p:Nat):Nat:=rd A (p+40) 4
def nQ (A:By)(p:Nat):I3:=⟨aL A p,oo A p,TY A p,vS A p,nm A p,rD A p,dE A p⟩
def I3.sz (x:I3):Nat:=58+x.key.length+x.val.length
theorem E4 (A:By)(p:Nat):(nQ A p).sz=58+kl A p+vl A p:=by
 unfold I3.sz nQ;rw[show(aL A p).length=kl A p from dC _ _ _,show(oo A p).length=vl A p from dC _ _ _]
theorem wo{C:Cs}(K:Ok C){B:By}{S:Nat→Nat→Prop}(d:dx C C.A B S){p:Nat}(L:At C p)(I:ic C p)(h:∀j,S p j→j<16∨j=45):nQ B p=nQ C.A p:=by
 have n1:=(L.bo K).2.1;have hf:=I.fits;have r:=λ(o w:Nat) (h2:o+w≤C.sz (C.cl p)) (h3:∀j,o≤j→j<o+w→¬(j<16∨j=45))=>lA K d L h2 (λj g1 g2 s=>h3 j g1 g2 (h j s));have e1:kl B p=kl C.A p:=r 44 1 (by omega) (λj g1 g2=>by omega);have e2:vl B p=vl C.A p:=r 48 4 (by omega) (λj g1 g2=>by omega);have e3:aL B p=aL C.A p:=by
  unfold aL;rw[e1];exact uo K d L (by omega) (λj g1 g2 s=>by have:=h j s;omega)
 have e4:oo B p=oo C.A p:=by
  unfold oo;rw[e1,e2,agV];exact uo K d L (by omega) (λj g1 g2 s=>by have:=h j s;omega)
 unfold nQ TY vS nm rD dE;rw[e3,e4,r 40 4 (by omega) (λj g1 g2=>by omega),r 16 8 (by omega) (λj g1 g2=>by omega),r 24 8 (by omega) (λj g1 g2=>by omega),r 32 8 (by omega) (λj g1 g2=>by omega),r 46 1 (by omega) (λj g1 g2=>by omega)]
theorem adP{C:Cs}(K:Ok C){W:Tb}(O:dq C W){B:By}(kp:∀p∈W.all,Kept C B p)(hl:∀p∈W.all,rd B p 4=rd C.A p 4):dq (C.wA B) W:=by
 have lk:∀l:List Nat,(∀p∈l,p∈W.all)→Ez C.A l→Ez B l:=λl=>by
  induction l with
  |nil=>exact λ_ _=>trivial
  |cons p l ih=>exact λh g=>⟨(hl p (h p acF)).trans g.1,ih (λq hq=>h q (acC _ hq)) g.2⟩
 refine⟨O.pw,O.po,O.st,O.mp,O.sz,O.ML,O.sm,O.mv,O.n,O.nd,λx=>lk _ (λp hp=>Tb.gk hp) (O.li x),λp hp=>(O.lv p hp).wA B,λp hp=>(kp p hp).it (O.it p hp),λx p hp=> ?_,λp hp q hq e=> ?_⟩
 ·show W.bk (cx (aL B p))=x
  rw[(kp p (Tb.gk hp)).key];exact O.bu x p hp
 change aL B p=aL B q at e;rw[(kp p hp).key,(kp q hq).key]at e;exact O.kd p hp q hq e
theorem adS{C:Cs}{Q:List (List Nat)}(O:iV C Q){B:By}(kp:∀i,∀p∈ql Q i,Kept C B p)(hs:∀i,∀p∈ql Q i,jc B p=jc C.A p)(h1:∀i,∀p∈ql Q i,rd B (p+4*1) 4=rd C.A (p+4*1) 4)(h2:∀i,∀p∈ql Q i,rd B (p+4*2) 4=rd C.A (p+4*2) 4):iV (C.wA B) Q:=by
 refine⟨O.len,λi p hp=>(O.lv i p hp).wA B,λi p hp=>(kp i p hp).it (O.it i p hp),λi p hp=> ?_,O.nd,λi k hk=> ?_,λi k hk=> ?_⟩
 ·show 1≤jc B p∧_
  rw[cS,hs i p hp];exact O.st i p hp
 ·have hp:=acJ hk
  rw[cS,h1 i _ hp];exact O.l1 i k hk
 have hp:=acJ hk;rw[cS,h2 i _ hp];exact O.l2 i k hk
structure Mo where
 C:Cs
 hole:Option Nat
 Q:List (List Nat)
 it:Nat→I3
 ord:Nat→Nat
 x:Cw
 tn:Nat
 k:Ck
 m:lB
 nb:Nat
 mg:Nat
 aF:Nat
 v:Sv
 jz:List Nat
 n:Nat
structure Bx where
 C:Cs
 W:Tb
 ty:p9
 E:List En
structure Ly where
 s:Nat
 y:Sy
 qb:Nat
 ub:Nat
 hot:Nat
 warm:Nat
def bI (s:Nat):Value:= .func (.func 66) #[.pointer (some ⟨s,0,none⟩)] #[]
def cK (s:Nat):Value:= .func (.func 68) #[.pointer (some ⟨s,0,none⟩)] #[]
def iU (C:Cs)(M:Mo)(l:List Nat):List En:=(l.filter λp=>decide (0<(M.it p).exp)).map λp=>⟨C.hd p,(M.it p).exp,M.ord p⟩
structure bY (B:Bx)(M:Mo):Prop where
 c:B.C=M.C.wA B.C.A
 k:Ok B.C
 t:dq B.C B.W
 ty:B.ty.ok=none→B.W.ob= []
 o:iV B.C M.Q
 x:cZ B.C.af.length M.Q M.x
 mq:MkQ B.C M.Q
 ck:rJ M.k
 al:∀p,p∈B.W.all↔∃i,p∈ql M.Q i
 lv:∀p,Live B.C p↔p∈B.W.all∨M.hole=some p
 ho:∀p,M.hole=some p→p∉B.W.all
 it:∀p∈B.W.all,nQ B.C.A p=M.it p
 e:B.E.Perm (iU B.C M B.W.all)
 st:B.W.st=2→B.W.mv<B.W.ob.length
 nb:B.W.size=M.nb
 mg:M.mg=if B.W.st=2 then B.W.ob.length-B.W.mv else 0
 mo:B.W.aF=M.aF
 bt:M.v.gr=(B.W.all.map λp=>(M.it p).sz).sum
 un:M.m.un.length=B.C.af.length
 on:M.m.on=true→M.m.pg<B.C.n∧(B.C.pg M.m.pg).own=true∧(B.C.pg M.m.pg).lv=true∧(B.C.pg M.m.pg).cl=M.m.fr
 go:∀i,(B.C.pg i).lv=true→M.m.on=true∧i=M.m.pg
 wn:M.v.wn=M.jz.length
 cf:M.v.c=B.C.cfg
 n:B.W.n=M.n
 lg:∀p∈B.W.all,cO (M.it p).key=true
def lQ (M:Mo):aa:=own M.v.wa M.v.wc 3 1 (aV M.jz)
def fQ (z:Ly)(B:Bx)(M:Mo):List aa:=
 [Cl z.y.b B.C,ag z.y.t 145 (fA z.y.b B.W B.ty),ag B.ty.nk 163 (aJ (aA B.W.nb)),jV B.ty.ok 163 (aJ (aA B.W.ob)),ag z.y.q 139 (fP z.y.b z.qb B.C.af.length),ag z.qb 327 (M.Q.flatMap (eH B.C)),gZ z.y.cr z.y.q z.y.wh B.C.af.length (bJ z.s) (bI z.s) B.C M.x,Wl z.y.wh B.E M.tn,gY z.s z.y (gJ M.v),
  lD z.y.ck M.k,jN z.y.lu z.y.b z.y.q z.hot z.warm,oa z.y.mo z.y.b z.ub (bJ z.s) (bI z.s) (cK z.s) M.m,oz z.ub M.m,lQ M]
abbrev yg (z:Ly)(v:Sv)(r:List Value):List Value:= .pointer (some ⟨z.y.b,0,none⟩):: .pointer (some ⟨z.y.ck,0,none⟩):: .pointer (some ⟨z.y.t,0,none⟩):: .pointer (some ⟨z.y.lu,0,none⟩):: .pointer (some ⟨z.y.wh,0,none⟩):: .pointer (some ⟨z.y.cr,0,none⟩):: .pointer (some ⟨z.y.mo,0,none⟩):: .pointer (some ⟨z.y.q,0,none⟩):: .int .i64 v.c.aq:: .int .i64 v.c.cH:: .int .i64 v.c.fac:: .int .i64 v.c.bO:: .int .i64 v.c.lim:: .int .i64 v.c.hot:: .int .i64 v.c.warm:: .int .i64 v.p.b:: .int .i64 v.p.l:: .int .i64 v.p.c:: .int .i64 v.p.m::r
abbrev mZ (z:Ly)(C:Cs)(W:Tb)(ty:p9)(n:Nat)(q:List Value)(x:Cw)(E:List En)(t:Nat)(s:Sv×List Value)(k:Ck)(m:lB)(M:Mo)(r:List aa):List aa:=Cl z.y.b C::ag z.y.t 145 (fA z.y.b W ty)::ag ty.nk 163 (aJ (aA W.nb))::jV ty.ok 163 (aJ (aA W.ob))::ag z.y.q 139 (fP z.y.b z.qb n)::ag z.qb 327 q::gZ z.y.cr z.y.q z.y.wh n (bJ z.s) (bI z.s) C x::Wl z.y.wh E t::ag z.s 111 (yg z s.1 s.2)::lD z.y.ck k::jN z.y.lu z.y.b z.y.q z.hot z.warm::oa z.y.mo z.y.b z.ub (bJ z.s) (bI z.s) (cK z.s) m::oz z.ub m::lQ M::r
def Mo.put (M:Mo)(p:Nat)(n:I3):Mo:={M with it:=λq=>if q=p then n else M.it q}
theorem bY.sM{B:Bx}{M:Mo}(O:bY B M){p:Nat}(h:p∈B.W.all):Live B.C p:=(O.lv p).2 (.inl h)
theorem bY.sO{B:Bx}{M:Mo}(O:bY B M){i p:Nat}(h:p∈ql M.Q i):p∈B.W.all:=(O.al p).2 ⟨i,h⟩
theorem bY.ito{B:Bx}{M:Mo}(O:bY B M){p:Nat}(h:p∈B.W.all):hG B.C (some p):=λq e=>by cases e;exact⟨O.sM h,O.t.it p h⟩
theorem bY.szp{B:Bx}{M:Mo}(O:bY B M){p:Nat}(h:p∈B.W.all):58+kl B.C.A p+vl B.C.A p=(M.it p).sz:=by rw[←O.it p h,E4]
theorem u7{α:Type}(f:α→Nat):∀{l:List α} {x:α},x∈l→f x≤(l.map f).sum
 |y::l,x,h=>by
  rw[acM,ac0];rcases acT.1 h with rfl|h
  ·omega
  have:=u7 f h;omega
theorem o4{α:Type}(f:α→Nat){l m:List α}(p:l.Perm m):(l.map f).sum=(m.map f).sum:=(p.map f).sum_nat
theorem bY.eP{B:Bx}{M:Mo}(O:bY B M){p:Nat}(hp:p∈B.W.all){A:By}{S:Nat→Nat→Prop}(d:dx B.C B.C.A A S)(hS:∀q j,S q j→q=p∧16≤j∧j<48∧(j<40∨j=46))
  (hx:rd A (p+16) 8<9223372036854775808) (ht:rd A (p+24) 8<9223372036854775808) (hm:dE A p<16) (n:I3) (hn:n={M.it p with exp:=vS A p,tch:=nm A p,tok:=rD A p,dB:=dE A p})
  (E:List En) (od:Nat→Nat) (tn:Nat) (hE:E.Perm (iU B.C {M.put p n with ord:=od} B.W.all)):bY ⟨B.C.wA A,B.W,B.ty,E⟩ {M.put p n with ord:=od,tn:=tn}:=by
 have K:=O.k;have at_:∀q∈B.W.all,At B.C q:=λq hq=>(O.sM hq).toAt;have n1:∀q∈B.W.all,64≤B.C.sz (B.C.cl q):=λq hq=>((at_ q hq).bo K).2.1;have I:=O.t.it p hp;have hf:=I.fits;have r:=λ(q:Nat) (hq:q∈B.W.all) (o w:Nat) (h2:o+w≤B.C.sz (B.C.cl q)) (h3:∀j,o≤j→j<o+w→¬(16≤j∧j<48∧(j<40∨j=46)))=>lA K d (at_ q hq) h2 (λj g1 g2 s=>h3 j g1 g2 (hS q j s).2);have ek:∀q∈B.W.all,kl A q=kl B.C.A q:=λq hq=>r q hq 44 1 (by have:=n1 q hq;omega) (λj g1 g2=>by omega);have ev:∀q∈B.W.all,vl A q=vl B.C.A q:=λq hq=>r q hq 48 4 (by have:=n1 q hq;omega) (λj g1 g2=>by omega);have other:∀q∈B.W.all,q≠p→nQ A q=nQ B.C.A q:=λq hq ne=>wo K d (at_ q hq) (O.t.it q hq) (λj s=>absurd (hS q j s).1 ne);have key:∀q∈B.W.all,aL A q=aL B.C.A q:=λq hq=>by
  have:=(O.t.it q hq).fits;unfold aL;rw[ek q hq];exact uo K d (at_ q hq) (by omega) (λj g1 g2 s=>by have:=hS q j s;omega)
 have val:∀q∈B.W.all,oo A q=oo B.C.A q:=λq hq=>by
  have:=(O.t.it q hq).fits;unfold oo;rw[ek q hq,ev q hq,agV];exact uo K d (at_ q hq) (by omega) (λj g1 g2 s=>by have:=hS q j s;omega)
 have kp:∀q∈B.W.all,Kept B.C A q:=λq hq=>⟨ek q hq,ev q hq,key q hq,λJ=>by
  by_cases e:q=p
  ·subst e
   exact⟨by rw[cS,ek q hq];exact J.k0,by rw[cS,ek q hq,ev q hq];exact J.fits,hx,ht⟩
  have g:=other q hq e;have g1:vS A q=vS B.C.A q:=congrArg I3.exp g;have g2:nm A q=nm B.C.A q:=congrArg I3.tch g;exact⟨by rw[cS,ek q hq];exact J.k0,by rw[cS,ek q hq,ev q hq];exact J.fits,by have:=J.exp;change vS A q<_;rw[g1];exact this,by have:=J.tch;change nm A q<_;rw[g2];exact this⟩⟩
 have itp:nQ A p=n:=by
  rw[hn,←O.it p hp];unfold nQ;dsimp only;rw[key p hp,val p hp,show TY A p=TY B.C.A p from r p hp 40 4 (by have:=n1 p hp;omega) (λj g1 g2=>by omega)]
 have eO:∀q∈B.W.all,nQ A q=(M.put p n).it q:=λq hq=>by
  show _=if q=p then n else M.it q
  by_cases e:q=p
  ·rw[if_pos e,e];exact itp
  rw[if_neg e,other q hq e];exact O.it q hq
 refine⟨?_,K.wA A,adP K O.t kp (λq hq=>r q hq 0 4 (by have:=n1 q hq;omega) (λj g1 g2=>by omega)),O.ty, ?_,O.x, ?_,O.ck,O.al,λq=> ?_,O.ho,eO,hE,O.st,O.nb,O.mg,O.mo, ?_,O.un,O.on,O.go,O.wn,O.cf,O.n,λq hq=> ?_⟩
 ·show B.C.wA A=M.C.wA A
  conv=>lhs;rw[O.c]
  rfl
 ·exact adS O.o (λi q hq=>kp q (O.sO hq)) (λi q hq=>r q (O.sO hq) 45 1 (by have:=n1 q (O.sO hq);omega) (λj g1 g2=>by omega)) (λi q hq=>r q (O.sO hq) (4*1) 4 (by have:=n1 q (O.sO hq);omega) (λj g1 g2=>by omega)) (λi q hq=>r q (O.sO hq) (4*2) 4 (by have:=n1 q (O.sO hq);omega) (λj g1 g2=>by omega))
 ·intro i q hq
  have GL:=O.sO hq;by_cases e:q=p
  ·rw[e];exact hm
  show dE A q<16;rw[show dE A q=dE B.C.A q from congrArg I3.dB (other q GL e)];exact O.mq i q hq
 ·refine Iff.trans ?_ (O.lv q)
  exact⟨λh=>⟨⟨h.i,h.own,h.al,h.k⟩,h.tk⟩,λh=>h.wA A⟩
 ·show M.v.gr=_
  rw[O.bt]
  congr 1
  refine agB λq hq=> ?_;rw[←eO q hq,←O.it q hq,E4,E4,ek q hq,ev q hq]
 rw[←eO q hq];show cO (aL A q)=true;rw[key q hq,show aL B.C.A q=(M.it q).key from congrArg I3.key (O.it q hq)];exact O.lg q hq
end Go.Proofs.YtdolmecackmjdaaGreatDoor
namespace Go.dL
open Go
theorem aH.fr{P:Program}{f:FuncId}{args:List Value}{pre:Hp→Prop}{H As R:List aa}{T:Value→List aa→Prop}(h:aH P f args pre As T)(ey:jB H As R)(hp:∀k,hJ R k→pre k):
  aH P f args (λ_=>True) H (λv H'=>∃H0,T v H0∧H'=H0++R):=by
 intro F w _ s;obtain⟨a1,a2,a3,fr,hh,st,hl,vO⟩:=s;obtain⟨h1,h2,d12,l1,l2,s1,s2⟩:=bQ (ey.out _ st);have yH:cE h2 F.h:=vO.left l2
 let F':ee:={F with h:=gI h2 F.h}
 have jA:Le F.h F'.h:=bh yH;have jd:Le h2 F'.h:=br _ _;have Ee:St F' As w:=⟨a1,a2,a3,cJ (l2.trans hl) fr,h1,s1,l1.trans hl,(cE.gI d12.symm (vO.left l1).symm).symm⟩;refine(h F' w (hp _ (cM s2 jd)) Ee).mono ?_;rintro e w' ⟨v,H',rfl,hT,sw⟩;obtain⟨b1,b2,b3,vR,Er,st2,Ep,mu⟩:=sw;exact⟨v,_,rfl,⟨H',hT,rfl⟩,b1,b2,b3,jA.trans vR,gI Er h2,bZ st2 s2 (mu.right jd),cJ Ep (jd.trans vR),cE.gI (mu.right jA) yH⟩
end Go.dL
namespace Go.Proofs.YtdolmecackmjdaaGreatDoor
open Go Go.dL Go.Proofs.YtdolmecackmjdaaGreatDoor.Cs
theorem o6 (A:By)(p n v:Nat)(h:v<256^n):rd (wr A p n v) p n=v:=by rw[du,ac9 h]
def SH (z:Ly)(M:Mo):aa:=λh=>∃B,bY B M∧aN (fQ z B M) h
theorem fg{P:Program}{f:FuncId}{args:List Value}{pre:Hp→Prop}{H:List aa}{R:Value→List aa→Prop}{z:Ly}{M:Mo}(h:∀B,bY B M→aH P f args pre (fQ z B M++H) R):aH P f args pre (SH z M::H) R:=
 aH.exL λB=>aH.Cb λO=>aH.EU (h B O)
theorem aQ{z:Ly}{B:Bx}{M:Mo}(O:bY B M){H:List aa}:∀h,ak (fQ z B M++H) h→ak (SH z M::H) h:=λh s=>
 bm (λk x=>⟨B,O,x⟩) (fN s)
def Mo.has (M:Mo)(p:Nat):Prop:=∃i,p∈ql M.Q i
def Mo.eO (M:Mo)(p:Nat):Mo:=M.put p {M.it p with tch:=M.k.now,dB:=mkSet (M.it p).dB true % 8+8}
def Mo.marks (M:Mo)(p k:Nat):Mo:=M.put p {M.it p with dB:=(M.it p).dB-(M.it p).dB/2 % 4*2+k*2}
def Mo.tok (M:Mo)(p t:Nat):Mo:=M.put p {M.it p with tok:=t}
def Mo.time (M:Mo)(p e:Nat):Mo:={M.put p {M.it p with exp:=e}with ord:=λq=>if q=p then M.tn+1 else M.ord q,tn:=if 0<e then M.tn+1 else M.tn}
theorem bY.hd{B:Bx}{M:Mo}(O:bY B M)(p:Nat):B.C.hd p=M.C.hd p:=by rw[O.c];rfl
theorem kT{C:Cs}{M:Mo}{l m:List Nat}(p:l.Perm m):(iU C M l).Perm (iU C M m):=(p.filter _).map _
theorem kU{C:Cs}{M:Mo}{p:Nat}{r:List Nat}:iU C M (p::r)=if 0<(M.it p).exp then⟨C.hd p,(M.it p).exp,M.ord p⟩::iU C M r else iU C M r:=by
 unfold iU;by_cases h:0<(M.it p).exp
 ·rw[if_pos h,agz,if_pos (by simpa using h)];rfl
 rw[if_neg h,agz,if_neg (by simpa using h)]
theorem fU{C D:Cs}{M N:Mo}:∀{l:List Nat},(∀q∈l,(N.it q).exp=(M.it q).exp∧N.ord q=M.ord q∧D.hd q=C.hd q)→iU D N l=iU C M l
 | [],_=>by simp only[iU,List.filter_nil,List.map_nil]
 |p::r,h=>by
  obtain⟨h1,h2,h3⟩:=h p acF;rw[kU,kU,h1,h2,h3,fU λq hq=>h q (acC _ hq)]
theorem Bl{C:Cs}{M:Mo}{p:Nat}{n:I3}{l:List Nat}(h:n.exp=(M.it p).exp):iU C {M.put p n with ord:=M.ord} l=iU C M l:=fU λq _=>⟨by
 show(if q=p then n else M.it q).exp=_;by_cases e:q=p
 ·rw[if_pos e,h,e]
 rw[if_neg e],rfl,rfl⟩
theorem mN{C:Cs}{M:Mo}{h:Nat}{r:List Nat}(hr:∀q∈r,C.hd q≠h):eX (iU C M r) h=iU C M r:=by
 unfold eX;rw[List.filter_eq_self];intro x hx;unfold iU at hx;obtain⟨q,hq,rfl⟩:=adi.1 hx;exact decide_eq_true (hr q (adf.1 hq).1)
theorem bY.om{B:Bx}{M:Mo}(O:bY B M){p:Nat}(h:p∈B.W.all):At B.C p:=(O.sM h).toAt
theorem bY.rest{B:Bx}{M:Mo}(O:bY B M){p:Nat}{r:List Nat}(h:B.W.all.Perm (p::r)):(eX B.E (B.C.hd p)).Perm (iU B.C M r):=by
 have nd:=h.nodup_iff.1 O.t.nd;have ja:∀q∈r,B.C.hd q≠B.C.hd p:=λq hq e=>(acP.1 nd).1 (by
  rw[←nu O.k (O.om (h.mem_iff.2 (acC _ hq))) (O.om (h.mem_iff.2 acF)) e];exact hq)
 have h1:(eX B.E (B.C.hd p)).Perm (eX (iU B.C M (p::r)) (B.C.hd p)):=(O.e.trans (kT h)).filter _;refine h1.trans ?_;rw[kU]
 split
 ·unfold eX
  rw[agz,if_neg (by simp)];exact acN.of_eq (mN ja)
 exact acN.of_eq (mN ja)
theorem bY.acr{B:Bx}{M:Mo}(_:bY B M){p:Nat}(h:p∈B.W.all):B.W.all.Perm (p::B.W.all.erase p):=List.perm_cons_erase h
def yI (p:Nat)(a n:Nat)(q o:Nat):Prop:=q=p∧a≤o∧o<a+n
theorem bY.Mp{B:Bx}{M:Mo}(O:bY B M){p:Nat}(hp:p∈B.W.all){A:By}{S:Nat→Nat→Prop}(d:dx B.C B.C.A A S){o w:Nat}(h2:o+w≤64)(h:∀j,o≤j→j<o+w→¬S p j):rd A (p+o) w=rd B.C.A (p+o) w:=
 lA O.k d (O.om hp) (by have:=((O.om hp).bo O.k).2.1;omega) h
theorem bY.BY{B:Bx}{M:Mo}(O:bY B M){p:Nat}(hp:p∈B.W.all):dE B.C.A p=(M.it p).dB∧(M.it p).dB<16:=by
 have h:=congrArg I3.dB (O.it p hp);obtain⟨i,hi⟩:=(O.al p).1 hp;have h2:=O.mq i p hi;have h3:dE B.C.A p=(M.it p).dB:=h;exact⟨h3,by omega⟩
theorem bY.je{B:Bx}{M:Mo}(O:bY B M){p:Nat}(hp:p∈B.W.all):vS B.C.A p=(M.it p).exp∧nm B.C.A p=(M.it p).tch∧rD B.C.A p=(M.it p).tok∧dE B.C.A p=(M.it p).dB∧aL B.C.A p=(M.it p).key∧oo B.C.A p=(M.it p).val∧TY B.C.A p=(M.it p).fl:=by
 have h:=O.it p hp;rw[←h];exact⟨rfl,rfl,rfl,rfl,rfl,rfl,rfl⟩
theorem bY.w46{B:Bx}{M:Mo}(O:bY B M){p:Nat}(hp:p∈B.W.all)(m:Nat)(hm:m<16):bY ⟨B.C.wA (wr B.C.A (p+46) 1 m),B.W,B.ty,B.E⟩ (M.put p {M.it p with dB:=m}):=by
 have L:=O.om hp;have n1:=(L.bo O.k).2.1;have d:dx B.C B.C.A (wr B.C.A (p+46) 1 m) (yI p 46 1):=vU _ L (by omega) λj h1 h2=>⟨rfl,h1,h2⟩;have I:=O.t.it p hp;obtain⟨f1,f2,f3,f4,f5,f6,f7⟩:=O.je hp;have g1:vS (wr B.C.A (p+46) 1 m) p=(M.it p).exp:=(O.Mp hp d (by omega) (λj h1 h2 s=>by unfold yI at s;omega)).trans f1;have g2:nm (wr B.C.A (p+46) 1 m) p=(M.it p).tch:=(O.Mp hp d (by omega) (λj h1 h2 s=>by unfold yI at s;omega)).trans f2;have g3:rD (wr B.C.A (p+46) 1 m) p=(M.it p).tok:=(O.Mp hp d (by omega) (λj h1 h2 s=>by unfold yI at s;omega)).trans f3;have g4:dE (wr B.C.A (p+46) 1 m) p=m:=o6 _ _ _ _ (by omega);have e1:=I.exp;have e2:=I.tch;refine O.eP hp d (λq j s=>by unfold yI at s;omega) (by show vS _ _<_;rw[g1,←f1];exact e1) (by show nm _ _<_;rw[g2,←f2];exact e2) (by rw[g4];exact hm) _ (by rw[g1,g2,g3,g4]) _ _ _ ?_;exact O.e.trans (acN.of_eq (Bl (by rfl)).symm)
theorem bY.w24{B:Bx}{M:Mo}(O:bY B M){p:Nat}(hp:p∈B.W.all)(t:Nat)(ht:t<9223372036854775808):bY ⟨B.C.wA (wr B.C.A (p+24) 8 t),B.W,B.ty,B.E⟩ (M.put p {M.it p with tch:=t}):=by
 have L:=O.om hp;have n1:=(L.bo O.k).2.1;have d:dx B.C B.C.A (wr B.C.A (p+24) 8 t) (yI p 24 8):=vU _ L (by omega) λj h1 h2=>⟨rfl,h1,h2⟩;have I:=O.t.it p hp;obtain⟨f1,f2,f3,f4,f5,f6,f7⟩:=O.je hp;have g1:vS (wr B.C.A (p+24) 8 t) p=(M.it p).exp:=(O.Mp hp d (by omega) (λj h1 h2 s=>by unfold yI at s;omega)).trans f1;have g2:nm (wr B.C.A (p+24) 8 t) p=t:=o6 _ _ _ _ (by omega);have g3:rD (wr B.C.A (p+24) 8 t) p=(M.it p).tok:=(O.Mp hp d (by omega) (λj h1 h2 s=>by unfold yI at s;omega)).trans f3;have g4:dE (wr B.C.A (p+24) 8 t) p=(M.it p).dB:=(O.Mp hp d (by omega) (λj h1 h2 s=>by unfold yI at s;omega)).trans f4;have e1:=I.exp;refine O.eP hp d (λq j s=>by unfold yI at s;omega) (by show vS _ _<_;rw[g1,←f1];exact e1) (by show nm _ _<_;rw[g2];exact ht) (by rw[g4];exact(O.BY hp).2) _ (by rw[g1,g2,g3,g4]) _ _ _ ?_;exact O.e.trans (acN.of_eq (Bl (by rfl)).symm)
theorem bY.w32{B:Bx}{M:Mo}(O:bY B M){p:Nat}(hp:p∈B.W.all)(t:Nat)(ht:t<18446744073709551616):bY ⟨B.C.wA (wr B.C.A (p+32) 8 t),B.W,B.ty,B.E⟩ (M.tok p t):=by
 have L:=O.om hp;have n1:=(L.bo O.k).2.1;have d:dx B.C B.C.A (wr B.C.A (p+32) 8 t) (yI p 32 8):=vU _ L (by omega) λj h1 h2=>⟨rfl,h1,h2⟩;have I:=O.t.it p hp;obtain⟨f1,f2,f3,f4,f5,f6,f7⟩:=O.je hp;have g1:vS (wr B.C.A (p+32) 8 t) p=(M.it p).exp:=(O.Mp hp d (by omega) (λj h1 h2 s=>by unfold yI at s;omega)).trans f1;have g2:nm (wr B.C.A (p+32) 8 t) p=(M.it p).tch:=(O.Mp hp d (by omega) (λj h1 h2 s=>by unfold yI at s;omega)).trans f2;have g3:rD (wr B.C.A (p+32) 8 t) p=t:=o6 _ _ _ _ (by omega);have g4:dE (wr B.C.A (p+32) 8 t) p=(M.it p).dB:=(O.Mp hp d (by omega) (λj h1 h2 s=>by unfold yI at s;omega)).trans f4;have e1:=I.exp;have e2:=I.tch;refine O.eP hp d (λq j s=>by unfold yI at s;omega) (by show vS _ _<_;rw[g1,←f1];exact e1) (by show nm _ _<_;rw[g2,←f2];exact e2) (by rw[g4];exact(O.BY hp).2) _ (by rw[g1,g2,g3,g4]) _ _ _ ?_;exact O.e.trans (acN.of_eq (Bl (by rfl)).symm)
theorem bY.w16{B:Bx}{M:Mo}(O:bY B M){p:Nat}(hp:p∈B.W.all)(t:Nat)(ht:t<9223372036854775808):bY ⟨B.C.wA (wr B.C.A (p+16) 8 t),B.W,B.ty,ky B.E (B.C.hd p) t M.tn⟩ (M.time p t):=by
 have L:=O.om hp;have n1:=(L.bo O.k).2.1;have d:dx B.C B.C.A (wr B.C.A (p+16) 8 t) (yI p 16 8):=vU _ L (by omega) λj h1 h2=>⟨rfl,h1,h2⟩;have I:=O.t.it p hp;obtain⟨f1,f2,f3,f4,f5,f6,f7⟩:=O.je hp;have g1:vS (wr B.C.A (p+16) 8 t) p=t:=o6 _ _ _ _ (by omega);have g2:nm (wr B.C.A (p+16) 8 t) p=(M.it p).tch:=(O.Mp hp d (by omega) (λj h1 h2 s=>by unfold yI at s;omega)).trans f2;have g3:rD (wr B.C.A (p+16) 8 t) p=(M.it p).tok:=(O.Mp hp d (by omega) (λj h1 h2 s=>by unfold yI at s;omega)).trans f3;have g4:dE (wr B.C.A (p+16) 8 t) p=(M.it p).dB:=(O.Mp hp d (by omega) (λj h1 h2 s=>by unfold yI at s;omega)).trans f4;have e2:=I.tch;refine O.eP hp d (λq j s=>by unfold yI at s;omega) (by show vS _ _<_;rw[g1];exact ht) (by show nm _ _<_;rw[g2,←f2];exact e2) (by rw[g4];exact(O.BY hp).2) _ (by rw[g1,g2,g3,g4]) _ _ _ ?_;have pe:=O.acr hp;have nd:=acP.1 (pe.nodup_iff.1 O.t.nd);have hr:=O.rest pe;refine acN.trans ?_ (kT pe).symm;rw[kU];have e0:(({M.put p {M.it p with exp:=t}with ord:=λq=>if q=p then M.tn+1 else M.ord q}:Mo).it p).exp=t:=by show(if p=p then _ else M.it p).exp=t;rw[if_pos rfl]
 have e5:({M.put p {M.it p with exp:=t}with ord:=λq=>if q=p then M.tn+1 else M.ord q}:Mo).ord p=M.tn+1:=if_pos rfl;rw[e0,e5];have e1:iU B.C {M.put p {M.it p with exp:=t}with ord:=λq=>if q=p then M.tn+1 else M.ord q} (B.W.all.erase p)=iU B.C M (B.W.all.erase p):=fU λq hq=>by
  have ne:q≠p:=λe=>nd.1 (e▸hq);refine⟨?_,if_neg ne,rfl⟩;show(if q=p then _ else M.it q).exp=_;rw[if_neg ne]
 rw[e1];unfold ky
 split
 ·exact hr.cons _
 exact hr
theorem rU{C:Cs}(K:Ok C){p:Nat}(L:Live C p)(j:Nat):((C.bz p).pg j).own=(C.pg j).own∧((C.bz p).pg j).lv=(C.pg j).lv∧((C.bz p).pg j).cl=(C.pg j).cl:=by
 have hpl:C.pn p<C.cR.length:=by rw[K.pl];exact L.i
 have h:=lY (C:=C) (c:=C.cl p) (sp:=C.spare) (x:={C.pg (C.pn p)with tk:=(C.pg (C.pn p)).tk.set (C.ix p) false,held:=(C.pg (C.pn p)).held-1,bq:=(C.pg (C.pn p)).bq.set (C.ix p) ((C.gen p+1) % 4294967296)}) (r:={C.rw (C.cl p)with free:=if(C.pg (C.pn p)).lv=true then(C.rw (C.cl p)).free else(C.rw (C.cl p)).free++ [p],gQ:=(C.rw (C.cl p)).gQ-1}) (A:=C.A) hpl j;change(C.bz p).pg j=_ at h;rw[h];by_cases e:j=C.pn p
 ·rw[if_pos e,e];exact⟨rfl,rfl,rfl⟩
 rw[if_neg e];exact⟨rfl,rfl,rfl⟩
theorem pS{C:Cs}(K:Ok C){p:Nat}(L:Live C p)(q:Nat):Live (C.bz p) q↔Live C q∧q≠p:=by
 obtain⟨K2,S⟩:=gX K L;have M:=mI K L;refine⟨λh=> ?_,λh=>(M.lv q h.2 h.1).1⟩;have hpl:C.pn p<C.cR.length:=by rw[K.pl];exact L.i
 have hp:=lY (C:=C) (c:=C.cl p) (sp:=C.spare) (x:={C.pg (C.pn p)with tk:=(C.pg (C.pn p)).tk.set (C.ix p) false,held:=(C.pg (C.pn p)).held-1,bq:=(C.pg (C.pn p)).bq.set (C.ix p) ((C.gen p+1) % 4294967296)}) (r:={C.rw (C.cl p)with free:=if(C.pg (C.pn p)).lv=true then(C.rw (C.cl p)).free else(C.rw (C.cl p)).free++ [p],gQ:=(C.rw (C.cl p)).gQ-1}) (A:=C.A) hpl (C.pn q);change(C.bz p).pg (C.pn q)=_ at hp;have a:=(S.at).1 h.toAt;have t:=h.tk;rw[S.pn,S.ix,hp]at t;by_cases e:C.pn q=C.pn p
 ·rw[if_pos e]at t
  have ne:q≠p:=λg=>by
   rw[g]at t;change((C.pg (C.pn p)).tk.set (C.ix p) false)[C.ix p]?=some true at t;rw[List.getElem?_set_self']at t;cases hh:(C.pg (C.pn p)).tk[C.ix p]?<;>rw[hh]at t<;>cases t
  refine⟨⟨a, ?_⟩,ne⟩;change((C.pg (C.pn p)).tk.set (C.ix p) false)[C.ix q]?=some true at t;rw[ac5 (λg=>wm K L.toAt a e ne g.symm)]at t;rw[e];exact t
 rw[if_neg e]at t;exact⟨⟨a,t⟩,λg=>e (by rw[g])⟩
def gS (Q:List (List Nat))(p:Nat):List (List Nat):=Q.map λl=>l.erase p
theorem iL (Q:List (List Nat))(p i:Nat):ql (gS Q p) i=(ql Q i).erase p:=by
 unfold gS ql;rw[acy,acy,acL];cases Q[i]?<;>rfl
theorem GZ{C:Cs}{Q:List (List Nat)}(O:iV C Q){i j p:Nat}(h:p∈ql Q i)(g:p∈ql Q j):i=j:=by
 rw[(O.st i p h).2.2,(O.st j p g).2.2]
theorem Fw{l:List Nat}(nd:l.Nodup){k p:Nat}(h:l[k]?=some p):l.eraseIdx k=l.erase p:=by
 obtain⟨hk,e⟩:=acz.1 h;have:l.idxOf p=k:=by
  have h1:p∈l:=acB h;obtain⟨i1,i2⟩:=Be h1;exact gN nd i2 h
 rw[List.erase_eq_eraseIdx_of_idxOf this]
theorem AV{C:Cs}{Q:List (List Nat)}(O:iV C Q){i k p:Nat}(h:(ql Q i)[k]?=some p):Q.set i ((ql Q i).eraseIdx k)=gS Q p:=by
 have hm:=acB h;have hi:i<Q.length:=by
  refine acH λg=> ?_;unfold ql at h;have e0:Q[i]?=none:=List.getElem?_eq_none (by omega);rw[acy,e0]at h;cases h
 refine List.ext_getElem? λj=> ?_;unfold gS;rw[List.getElem?_set,acL];by_cases e:i=j
 ·subst e
  rw[if_pos rfl,if_pos hi,acx hi];have e2:ql Q i=Q[i]:=by unfold ql;rw[acy,acx hi];rfl
  rw[Fw (O.nd i) h,e2];rfl
 rw[if_neg e];cases hq:Q[j]? with
 |none=>rfl
 |some l=>
  have e2:ql Q j=l:=by unfold ql;rw[acy,hq];rfl
  have:p∉l:=λg=>e (GZ O hm (by rw[e2];exact g));rw[Option.map_some,List.erase_of_not_mem this]
def Mo.shr (M:Mo):Prop:=M.mg=0∧16<M.nb∧8*(M.n-1)<M.nb
instance (M:Mo):Decidable M.shr:=by unfold Mo.shr;infer_instance
def Mo.cD (M:Mo)(p:Nat):Mo:=
 {M with C:=M.C.bz p,Q:=gS M.Q p,x:=M.x.left M.Q p,n:=M.n-1,nb:=if M.shr then M.nb/2 else M.nb,mg:=if M.shr then M.nb else M.mg,v:={M.v with gr:=M.v.gr-(M.it p).sz}}
theorem bY.st0{B:Bx}{M:Mo}(O:bY B M):M.mg=0↔B.W.st=0:=by
 have:=O.st;rw[O.mg];rcases O.t.st with⟨h,_⟩|⟨h,_,_⟩
 ·rw[h,if_neg (by omega)]
 rw[if_pos h,h];have:=this h;omega
theorem bY.cD{B:Bx}{M:Mo}(O:bY B M){p i k:Nat}(hp:p∈B.W.all)(hk:(ql M.Q i)[k]?=some p){D:Cs}{V:Tb}{ty:p9}{A:By}(hy:ty.ok=none→V.ob= [])(yE:B.W.all.Perm (p::V.all))(hA:aep B.C p D V (M.Q.set i ((ql M.Q i).eraseIdx k)) (M.x.left M.Q p))(TK:FE B.C B.W p A V):
  bY ⟨D,V,ty,eX B.E (B.C.hd p)⟩ (M.cD p):=by
 have L:=O.sM hp;have K:=O.k;have hq:=AV O.o hk;rw[hq]at hA;have nd:=acP.1 (yE.nodup_iff.1 O.t.nd);have aw:∀q,q∈V.all↔q∈B.W.all∧q≠p:=λq=>by
  rw[yE.mem_iff,acT];exact⟨λh=>⟨.inr h,λe=>nd.1 (e▸h)⟩,λh=>h.1.resolve_left h.2⟩
 have sT:D.af=B.C.af:=by rw[hA.g];rfl
 have jO:∀q,Live D q↔Live B.C q∧q≠p:=λq=>by
  rw[hA.g];exact Iff.trans ⟨λh=>⟨⟨h.i,h.own,h.al,h.k⟩,h.tk⟩,λh=>h.wA _⟩ (pS K L q)
 have IW:∀q,q∈V.all→D.hd q=B.C.hd q:=λq h=>by
  have h2:=(aw q).1 h;rw[hA.g];exact((mI K L).lv q h2.2 (O.sM h2.1)).2.1
 have eO:∀q∈V.all,nQ D.A q=M.it q:=λq h=>by
  have h2:=(aw q).1 h;rw[←O.it q h2.1];exact wo K hA.d (O.om h2.1) (O.t.it q h2.1) λj s=>by omega
 have jv:∀j,(D.pg j).own=(B.C.pg j).own∧(D.pg j).lv=(B.C.pg j).lv∧(D.pg j).cl=(B.C.pg j).cl:=λj=>by rw[hA.g];exact rU K L j
 have h0:=O.st0;have IV:=O.nb;have hn:=O.n;have Eo:=O.mg;have hsh:M.shr↔iM B.W:=by unfold Mo.shr iM;rw[h0,IV,hn]
 have MB:=O.t.ML;refine⟨?_,hA.k,hA.t,hy,hA.o, ?_, ?_,O.ck,λq=> ?_,λq=> ?_,λq h=> ?_,eO, ?_, ?_, ?_, ?_, ?_, ?_, ?_, ?_, ?_,O.wn, ?_, ?_,λq h=>O.lg q ((aw q).1 h).1⟩
 ·show D=(M.C.bz p).wA D.A
  conv=>lhs;rw[hA.g,O.c]
  rfl
 ·show cZ D.af.length (gS M.Q p) (M.x.left M.Q p)
  rw[sT];exact hA.x
 ·intro j q GL
  change q∈ql (gS M.Q p) j at GL;rw[iL]at GL;have hqm:=agJ GL;have e:dE D.A q=dE B.C.A q:=lA K hA.d (O.o.lv j q hqm).toAt (by have:=((O.o.lv j q hqm).toAt.bo K).2.1;omega) λu h1 h2 s=>by omega
  show dE D.A q<16;rw[e];exact O.mq j q hqm
 ·show q∈V.all↔∃j,q∈ql (gS M.Q p) j
  rw[aw q,O.al q];refine⟨λ⟨⟨j,h1⟩,h2⟩=>⟨j,by rw[iL];exact(ag5 h2).2 h1⟩,λ⟨j,h1⟩=> ?_⟩;rw[iL]at h1;exact⟨⟨j,agJ h1⟩,λe=>by subst e;exact(List.Nodup.not_mem_erase (O.o.nd j)) h1⟩
 ·show Live D q↔q∈V.all∨M.hole=some q
  rw[jO q,aw q,O.lv q]
  constructor
  ·rintro⟨h|h,ne⟩
   ·exact .inl ⟨h,ne⟩
   exact .inr h
  rintro(⟨h,ne⟩|h)
  ·exact⟨.inl h,ne⟩
  exact⟨.inr h,λe=>O.ho q h (e▸hp)⟩
 ·exact λg=>O.ho q h ((aw q).1 g).1
 ·refine(O.rest yE).trans (acN.of_eq (fU λq h=>⟨rfl,rfl,IW q h⟩).symm)
 ·intro h2
  show V.mv<V.ob.length;by_cases g:iM B.W
  ·obtain⟨_,_,e1,e2⟩:=TK.YV g
   rw[e1,e2];omega
  obtain⟨_,e1,e2,e3⟩:=TK.same g;rw[e2,e3];exact O.st (by rw[←e1];exact h2)
 ·show V.size=if M.shr then M.nb/2 else M.nb
  by_cases g:iM B.W
  ·rw[if_pos (hsh.2 g),(TK.YV g).1,IV]
  rw[if_neg λe=>g (hsh.1 e),(TK.same g).1,IV]
 ·show(if M.shr then M.nb else M.mg)=if V.st=2 then V.ob.length-V.mv else 0
  by_cases g:iM B.W
  ·obtain⟨_,e1,e2,e3⟩:=TK.YV g
   rw[if_pos (hsh.2 g),if_pos e1,e2,e3,IV];rfl
  obtain⟨_,e1,e2,e3⟩:=TK.same g;rw[if_neg λe=>g (hsh.1 e),e1,e2,e3];exact Eo
 ·exact TK.aF.trans O.mo
 ·show M.v.gr-(M.it p).sz=_
  rw[O.bt,o4 _ yE,acM,ac0];show _=(V.all.map λp=>(M.it p).sz).sum;omega
 ·show M.m.un.length=D.af.length
  rw[sT];exact O.un
 ·intro h
  have:=O.on h;obtain⟨e1,e2,e3⟩:=jv M.m.pg;show M.m.pg<D.n∧(D.pg M.m.pg).own=true∧(D.pg M.m.pg).lv=true∧(D.pg M.m.pg).cl=M.m.fr;rw[e1,e2,e3,show D.n=B.C.n by rw[hA.g];rfl];exact this
 ·intro j h
  rw[show(D.pg j).lv=(B.C.pg j).lv from(jv j).2.1]at h;exact O.go j h
 ·show M.v.c=D.cfg
  rw[hA.g];exact O.cf
 show V.n=M.n-1;rw[TK.n,hn]
def Mo.bV (M:Mo)(p:Nat):Nat:=if 0<(M.it p).exp∧(M.it p).exp≤M.k.now then 2 else if(M.it p).tok≤M.k.cut then 3 else 0
theorem bY.adO{B:Bx}{M:Mo}(O:bY B M){p:Nat}(hp:p∈B.W.all):I5 B.C.A M.k p=M.bV p:=by
 obtain⟨f1,f2,f3,f4,f5,f6,f7⟩:=O.je hp;unfold I5 Mo.bV;rw[f1,f3]
theorem nC:∀(A R:List aa),jB (A++R) A R
 | [],_=> .nil
 |_::A,R=> .cons .here (nC A R)
theorem y6 (z:Ly)(M:Mo)(p:Nat)(hp:M.has p):aH acw 40 [.pointer (some ⟨z.s,0,none⟩), .int .u64 (M.C.hd p:Int)] (λ_=>True) [SH z M]
  (λv H=>v= .bool (decide (M.bV p≠0))∧H= [SH z M]):=
 fg λB O=>by
  have eK:=(O.al p).2 hp;have h:=(QN z.s z.y (gJ M.v) B.C O.k M.k p (O.ito eK)).fr (H:=fQ z B M++ []) (R:=fQ z B M) (nC [] _) (λk aw=>⟨aw.nth 8 rfl,aw.nth 0 rfl,aw.nth 9 rfl⟩);rw[O.hd,O.adO eK]at h;refine h.out ?_;rintro v H' ⟨H0,⟨rfl,rfl⟩,rfl⟩;exact⟨[SH z M],⟨rfl,rfl⟩,λk s=>aQ O (H:= []) k s⟩
theorem FX (z:Ly)(M:Mo)(p:Nat)(hp:M.has p):aH acw 87 [.pointer (some ⟨z.s,0,none⟩), .int .u64 (M.C.hd p:Int)] (λ_=>True) [SH z M]
  (λv H=>v= .int .i64 (M.bV p:Int)∧H= [SH z M]):=
 fg λB O=>by
  have eK:=(O.al p).2 hp;have h:=(y9 z.s z.y (gJ M.v) B.C O.k M.k p (O.ito eK)).fr (H:=fQ z B M++ []) (R:=fQ z B M) (nC [] _) (λk aw=>⟨aw.nth 8 rfl,aw.nth 0 rfl,aw.nth 9 rfl⟩);rw[O.hd,O.adO eK]at h;refine h.out ?_;rintro v H' ⟨H0,⟨rfl,rfl⟩,rfl⟩;exact⟨[SH z M],⟨rfl,rfl⟩,λk s=>aQ O (H:= []) k s⟩
theorem QJ (z:Ly)(M:Mo)(p:Nat)(hp:M.has p):aH acw 110 [.pointer (some ⟨z.s,0,none⟩), .int .u64 (M.C.hd p:Int)] (λ_=>True) [SH z M]
  (λv H=>v= .tuple #[]∧H= [SH z (M.eO p)]):=
 fg λB O=>by
  have eK:=(O.al p).2 hp;obtain⟨i,hi⟩:=hp;have iY:=O.o.st i p hi;have hm:=O.mq i p hi;have zW:=O.ck.n2;have h:=(Vp z.s z.hot z.warm z.y (gJ M.v) B.C O.k M.k O.ck p (O.ito eK) hm ⟨iY.1,iY.2.1⟩).fr (H:=fQ z B M++ []) (R:=(fQ z B M).tail) (.cons .here .nil) (λk aw=>⟨aw.nth 7 rfl,aw.nth 9 rfl,aw.nth 8 rfl⟩);rw[O.hd]at h;refine h.out ?_;rintro v H' ⟨H0,⟨rfl,rfl⟩,rfl⟩;refine⟨[SH z (M.eO p)],⟨rfl,rfl⟩, ?_⟩;obtain⟨m1,m2⟩:=O.BY eK;have h1:=kQ hm true;have L:=O.sM eK;have vM:dE (uH B.C.A p true) p=mkSet (dE B.C.A p) true:=by rw[G3 O.k B.C.A L L,if_pos rfl];omega
  have O1:=O.w46 eK (mkSet (dE B.C.A p) true) h1;have O2:=O1.w46 (p:=p) eK (mkSet (dE B.C.A p) true % 8+8) (by omega);have O3:=O2.w24 (p:=p) eK M.k.now (by omega);have e:Y3 B.C.A p M.k.now=wr (wr (wr B.C.A (p+46) 1 (mkSet (dE B.C.A p) true)) (p+46) 1 (mkSet (dE B.C.A p) true % 8+8)) (p+24) 8 M.k.now:=rfl;rw[e];have e2:M.eO p=((M.put p {M.it p with dB:=mkSet (dE B.C.A p) true}).put p {(M.put p {M.it p with dB:=mkSet (dE B.C.A p) true}).it p with dB:=mkSet (dE B.C.A p) true % 8+8}).put p {((M.put p {M.it p with dB:=mkSet (dE B.C.A p) true}).put p {(M.put p {M.it p with dB:=mkSet (dE B.C.A p) true}).it p with dB:=mkSet (dE B.C.A p) true % 8+8}).it p with tch:=M.k.now}:=by
   rw[m1];unfold Mo.eO Mo.put
   congr 1
   funext q
   dsimp only;by_cases h:q=p
   ·simp[h]
   simp[h]
  rw[e2];exact λk s=>aQ O3 (H:= []) k s
theorem FY (z:Ly)(M:Mo)(p c:Nat)(hc:c<4)(hp:M.has p):aH acw 116 [.pointer (some ⟨z.s,0,none⟩), .int .u64 (M.C.hd p:Int), .int .i64 ((c*2:Nat):Int)] (λ_=>True) [SH z M]
  (λv H=>v= .tuple #[]∧H= [SH z (M.marks p c)]):=
 fg λB O=>by
  have eK:=(O.al p).2 hp;obtain⟨i,hi⟩:=hp;have hm:=O.mq i p hi;obtain⟨m1,m2⟩:=O.BY eK;have h:=(JI z.s z.y (gJ M.v) B.C O.k p c hc (O.ito eK) hm).fr (H:=fQ z B M++ []) (R:=(fQ z B M).tail) (.cons .here .nil) (λk aw=>aw.nth 7 rfl);rw[O.hd]at h;refine h.out ?_;rintro v H' ⟨H0,⟨rfl,rfl⟩,rfl⟩;refine⟨[SH z (M.marks p c)],⟨rfl,rfl⟩, ?_⟩;have O1:=O.w46 eK (dE B.C.A p-dE B.C.A p/2 % 4*2+c*2) (by omega);rw[show M.marks p c=M.put p {M.it p with dB:=dE B.C.A p-dE B.C.A p/2 % 4*2+c*2} by rw[m1];rfl];exact λk s=>aQ O1 (H:= []) k s
theorem FW (z:Ly)(M:Mo)(p:Nat)(hp:M.has p)(t:Int)(ht:t<9223372036854775808)(tY:M.tn<18446744073709551615):aH acw 109 [.pointer (some ⟨z.s,0,none⟩), .int .u64 (M.C.hd p:Int), .int .i64 t] (λ_=>True) [SH z M]
  (λv H=>v= .tuple #[]∧H= [SH z (M.time p (cF M.k.now t))]):=
 fg λB O=>by
  have eK:=(O.al p).2 hp;have hE:B.E.length<2147483647:=by
   rw[O.e.length_eq];unfold iU;rw[acU];have h1:=ahP (λp=>decide (0<(M.it p).exp)) B.W.all;have h2:=Aa O.k O.t;rw[O.t.n]at h2;omega
  have h:=(JH z.s z.y (gJ M.v) B.C O.k M.k O.ck p (O.ito eK) B.E M.tn t ht tY hE).fr (H:=fQ z B M++ []) (R:= [ag z.y.t 145 (fA z.y.b B.W B.ty),ag B.ty.nk 163 (aJ (aA B.W.nb)),jV B.ty.ok 163 (aJ (aA B.W.ob)),ag z.y.q 139 (fP z.y.b z.qb B.C.af.length),ag z.qb 327 (M.Q.flatMap (eH B.C)),gZ z.y.cr z.y.q z.y.wh B.C.af.length (bJ z.s) (bI z.s) B.C M.x,gY z.s z.y (gJ M.v),
   lD z.y.ck M.k,jN z.y.lu z.y.b z.y.q z.hot z.warm,oa z.y.mo z.y.b z.ub (bJ z.s) (bI z.s) (cK z.s) M.m,oz z.ub M.m,lQ M]) (.cons .here (.cons (.there (.there (.there (.there (.there (.there .here)))))) .nil)) (λk aw=>⟨aw.nth 6 rfl,aw.nth 7 rfl⟩)
  rw[O.hd]at h;refine h.out ?_;rintro v H' ⟨H0,⟨rfl,rfl⟩,rfl⟩;refine⟨[SH z (M.time p (cF M.k.now t))],⟨rfl,rfl⟩, ?_⟩;have O1:=O.w16 eK (cF M.k.now t) (Bj M.k.now t O.ck.n2 ht);refine λk s=>aQ O1 (H:= []) k ?_;rw[←O.hd]at s
  revert s
  revert k
  show∀k,ak ([Wl z.y.wh (ky B.E (B.C.hd p) (cF M.k.now t) M.tn) (if 0<cF M.k.now t then M.tn+1 else M.tn),Cl z.y.b (B.C.wA (wr B.C.A (p+16) 8 (cF M.k.now t)))]++_) k→ak ([Cl z.y.b (B.C.wA (wr B.C.A (p+16) 8 (cF M.k.now t))),ag z.y.t 145 (fA z.y.b B.W B.ty),ag B.ty.nk 163 (aJ (aA B.W.nb)),jV B.ty.ok 163 (aJ (aA B.W.ob)),ag z.y.q 139 (fP z.y.b z.qb B.C.af.length),ag z.qb 327 (M.Q.flatMap (eH B.C)),gZ z.y.cr z.y.q z.y.wh B.C.af.length (bJ z.s) (bI z.s) B.C M.x,Wl z.y.wh (ky B.E (B.C.hd p) (cF M.k.now t) M.tn) (if 0<cF M.k.now t then M.tn+1 else M.tn),gY z.s z.y (gJ M.v),
   lD z.y.ck M.k,jN z.y.lu z.y.b z.y.q z.hot z.warm,oa z.y.mo z.y.b z.ub (bJ z.s) (bI z.s) (cK z.s) M.m,oz z.ub M.m,lQ M]) k
  simp only[uP,cap];exact Eh
theorem bY.btb{B:Bx}{M:Mo}(O:bY B M):M.v.gr<4611686018427387904:=by
 rw[O.bt];have h2:=Aa O.k O.t;rw[O.t.n]at h2;have:∀l:List Nat,(∀p∈l,p∈B.W.all)→(l.map λp=>(M.it p).sz).sum≤l.length*1048576:=λl=>by
  induction l with
  |nil=>intro _;simp
  |cons p l ih=>
   intro h;have hp:=h p acF;have h1:=O.szp hp;have h3:=(O.t.it p hp).fits;have h4:=((O.om hp).bo O.k).2.2.1;have h5:=O.k.toFix.p1;have:=ih λq hq=>h q (acC _ hq);rw[acM,ac0,ac7];omega
 have:=this _ λp h=>h;have h3:B.W.all.length*1048576≤1073741824*1048576:=ac2 _ h2;omega
theorem y7 (z:Ly)(M:Mo)(p:Nat)(hp:M.has p):aH acw 66 [.pointer (some ⟨z.s,0,none⟩), .int .u64 (M.C.hd p:Int)] (λ_=>True) [SH z M]
  (λv H=>v= .tuple #[]∧H= [SH z (M.cD p)]):=
 fg λB O=>by
  have eK:=(O.al p).2 hp;obtain⟨i,hi⟩:=hp;obtain⟨k,hk⟩:=ahh hi;have sT:=O.szp eK;have EF:kl B.C.A p≤250:=by
   have h1:=(fR (O.lg p eK)).2;rw[←O.it p eK]at h1;rw[←show(aL B.C.A p).length=kl B.C.A p from dC _ _ _];exact h1
  have hb:58+kl B.C.A p+vl B.C.A p≤M.v.gr:=by
   rw[sT,O.bt];exact u7 (λp=>(M.it p).sz) eK
  have h:=(QO z.s z.qb z.hot z.warm (bJ z.s) (bI z.s) z.y M.v B.C O.k B.W B.ty O.t O.ty M.Q O.o M.x O.x B.E M.tn i k p eK hk EF hb O.btb).fr (H:=fQ z B M++ []) (R:= [lD z.y.ck M.k,jN z.y.lu z.y.b z.y.q z.hot z.warm,oa z.y.mo z.y.b z.ub (bJ z.s) (bI z.s) (cK z.s) M.m,oz z.ub M.m,lQ M]) (nC (Cl z.y.b B.C::me z.y.t z.y.b B.W B.ty++ [ag z.y.q 139 (fP z.y.b z.qb B.C.af.length),ag z.qb 327 (M.Q.flatMap (eH B.C)),gZ z.y.cr z.y.q z.y.wh B.C.af.length (bJ z.s) (bI z.s) B.C M.x,Wl z.y.wh B.E M.tn,gY z.s z.y (gJ M.v)]) _) (λk aw=>aw.nth 1 rfl);rw[O.hd]at h;refine h.out ?_;rintro v H' ⟨H0,⟨rfl,D,V,ty,rfl,hy,yE,hA,A,TK⟩,rfl⟩;refine⟨[SH z (M.cD p)],⟨rfl,rfl⟩, ?_⟩;have O1:=O.cD eK hk hy yE hA TK;have e1:B.C.af.length=D.af.length:=by rw[hA.g];rfl
  rw[AV O.o hk,sT,←O.hd,e1];exact λk s=>aQ O1 (H:= []) k s
theorem vx:∀{Q:List (List Nat)},(∀i,(ql Q i).Nodup)→(∀i j p,p∈ql Q i→p∈ql Q j→i=j)→Q.flatten.Nodup
 | [],_,_=>by simp
 |l::Q,h,g=>by
  have ih:=vx (Q:=Q) (λi=>h (i+1)) (λi j p h1 h2=>by have:=g (i+1) (j+1) p h1 h2;omega);rw[List.flatten_cons,List.nodup_append];refine⟨h 0,ih,λa ha b hb e=> ?_⟩;subst e;obtain⟨m,hm,ham⟩:=ag9.1 hb;obtain⟨i,hi,rfl⟩:=acR hm;have:=g 0 (i+1) a ha (by show a∈ql Q i;unfold ql;rw[acy,acx hi];exact ham);omega
theorem fO{Q:List (List Nat)}{p:Nat}:p∈Q.flatten↔∃i,p∈ql Q i:=by
 rw[ag9]
 constructor
 ·rintro⟨l,hl,hp⟩
  obtain⟨i,hi,rfl⟩:=acR hl;exact⟨i,by unfold ql;rw[acy,acx hi];exact hp⟩
 rintro⟨i,hp⟩;unfold ql at hp;rw[acy]at hp;cases h:Q[i]? with
 |none=>rw[h]at hp;cases hp
 |some l=>rw[h]at hp;exact⟨l,acB h,hp⟩
theorem bY.perm{B:Bx}{M:Mo}(O:bY B M):B.W.all.Perm M.Q.flatten:=
 (List.perm_ext_iff_of_nodup O.t.nd (vx O.o.nd λi j p h g=>GZ O.o h g)).2 λp=>(O.al p).trans fO.symm
def rE (h:Nat):Nat:=(h % 4294967296-1)*8
theorem aao{B:Bx}{M:Mo}(O:bY B M){p:Nat}(hp:p∈B.W.all):rE (M.C.hd p)=p:=by
 obtain⟨m1,m2,m3,m4,m5,m6⟩:=cB O.k (O.om hp);rw[O.hd]at m1;unfold rE;omega
noncomputable def Mo.jR (M:Mo)(now aF:Int):List Nat:=(oG (iU M.C M M.Q.flatten) now aF).map rE
theorem abU{B:Bx}{M:Mo}(O:bY B M)(l:List Nat):iU B.C M l=iU M.C M l:=fU λq _=>⟨rfl,rfl,O.hd q⟩
theorem Oi{f:Nat→Nat}:∀{l:List Nat},(l.map f).Nodup→l.Nodup
 | [],_=>agW
 |a::l,h=>by
  rw[acM,acP]at h;exact acP.2 ⟨λg=>h.1 (adi.2 ⟨a,g,rfl⟩),Oi h.2⟩
theorem WV{M:Mo}{now aF:Int}{h:Nat}(hh:h∈oG (iU M.C M M.Q.flatten) now aF):∃p,M.has p∧h=M.C.hd p:=by
 unfold oG at hh;obtain⟨x,hx,rfl⟩:=adi.1 hh;have h1:=(gq _).mem_iff.1 (ahW hx);have h2:=(adf.1 h1).1;unfold iU at h2;obtain⟨p,hp,rfl⟩:=adi.1 h2;exact⟨p,fO.1 (adf.1 hp).1,rfl⟩
theorem aga (C:Cs)(M:Mo)(l:List Nat):(iU C M l).map En.h=(l.filter λp=>decide (0<(M.it p).exp)).map C.hd:=by
 unfold iU;rw[List.map_map];exact agB λp _=>rfl
theorem X7{B:Bx}{M:Mo}(O:bY B M):∀{l:List Nat},l.Nodup→(∀p∈l,M.has p)→(l.map M.C.hd).Nodup
 | [],_,_=>agW
 |p::l,h,g=>by
  rw[acM,acP];refine⟨λhc=> ?_,X7 O (acP.1 h).2 λq hq=>g q (acC _ hq)⟩;obtain⟨q,hq,e⟩:=adi.1 hc;rw[←O.hd,←O.hd]at e;have:=nu O.k (O.om ((O.al q).2 (g q (acC _ hq)))) (O.om ((O.al p).2 (g p acF))) e;exact(acP.1 h).1 (this▸hq)
theorem ab1{B:Bx}{M:Mo}(O:bY B M)(now aF:Int):(oG (iU M.C M M.Q.flatten) now aF).Nodup:=by
 have n1:((iU M.C M M.Q.flatten).map En.h).Nodup:=by
  rw[aga];exact X7 O ((vx O.o.nd λi j p h g=>GZ O.o h g).sublist adz) λp hp=>fO.1 (adf.1 hp).1
 unfold oG;generalize iU M.C M M.Q.flatten=E at*;have n2:((E.filter λx=>decide ((x.ex:Int)≤now)).map En.h).Nodup:=n1.sublist (adz.map _);have n3:=((gq (E.filter λx=>decide ((x.ex:Int)≤now))).map En.h).nodup_iff.2 n2;exact n3.sublist ((List.take_sublist _ _).map _)
theorem PG{B:Bx}{M:Mo}(O:bY B M):∀{l:List Nat},(∀h∈l,∃p,M.has p∧h=M.C.hd p)→(l.map rE).map M.C.hd=l∧∀p∈l.map rE,M.has p
 | [],_=>⟨rfl,λp h=>by cases h⟩
 |h::l,g=>by
  obtain⟨p,hp,e⟩:=g h acF;obtain⟨i1,i2⟩:=PG O (l:=l) λx hx=>g x (acC _ hx);have e1:rE h=p:=by rw[e,aao O ((O.al p).2 hp)]
  rw[acM,acM,e1,i1,e];refine⟨rfl,λq hq=> ?_⟩;rcases acT.1 hq with rfl|hq
  ·exact hp
  exact i2 q hq
theorem ab0{B:Bx}{M:Mo}(O:bY B M)(td:(B.E.map En.tu).Nodup)(now aF:Int):oG B.E now aF=oG (iU M.C M M.Q.flatten) now aF:=by
 have pe:B.E.Perm (iU M.C M M.Q.flatten):=by rw[←abU O];exact O.e.trans (kT O.perm)
 generalize iU M.C M M.Q.flatten=E at*;unfold oG;rw[xQ (pe.filter _)];exact((pe.map En.tu).nodup_iff.1 td).sublist (adz.map _)
theorem bY.due{B:Bx}{M:Mo}(O:bY B M)(td:(B.E.map En.tu).Nodup)(now aF:Int):oG B.E now aF=(M.jR now aF).map M.C.hd∧(∀p∈M.jR now aF,M.has p)∧(M.jR now aF).Nodup:=by
 obtain⟨e1,e2⟩:=PG O (l:=oG (iU M.C M M.Q.flatten) now aF) λh hh=>WV hh;have nh:=ab1 O now aF;have e3:=ab0 O td now aF;unfold Mo.jR;generalize oG (iU M.C M M.Q.flatten) now aF=L at*;refine⟨e3.trans e1.symm,e2, ?_⟩;rw[←e1]at nh;exact Oi nh
theorem QK (uO:oU)(z:Ly)(M:Mo)(now aF:Int):aH acw 89 [.pointer (some ⟨z.y.wh,0,none⟩), .int .i64 now, .int .i64 aF] (λ_=>True) [SH z M]
  (λv H=>∃a c,v= .slice a (M.jR now aF).length c∧(∀p∈M.jR now aF,M.has p)∧(M.jR now aF).Nodup∧H= [own a c 117 1 (BG ((M.jR now aF).map M.C.hd)),SH z M]):=
 fg λB O=>λF w _ s=>by
  obtain⟨k,hk,_⟩:=(s.sub λk x=>(fE.out (.there (.there (.there (.there (.there (.there (.there .here))))))) k x)).get;obtain⟨y,N,p,W,_⟩:=Zf ⟨k,hk,Le.refl _⟩;have td:(B.E.map En.tu).Nodup:=(p.map En.tu).nodup_iff.1 W.td;obtain⟨e1,e2,e3⟩:=O.due td now aF;have h:=((Xh uO z.y.wh B.E M.tn now aF).fr (H:=fQ z B M++ []) (R:=fQ z B M) (nC [] _) (λk aw=>aw.nth 7 rfl)) F w trivial s;refine h.mono ?_;rintro e w' ⟨v,H',he,⟨H0,⟨a,c,rfl,rfl⟩,rfl⟩,st⟩;refine⟨_,_,he,⟨a,c,by rw[e1,acU],e2,e3,rfl⟩, ?_⟩;rw[←e1];exact st.sub λk x=>aO (λk x=>aQ O (H:= []) k (by rw[agu];exact x)) x
theorem bY.cw{B:Bx}{M:Mo}(O:bY B M){y:Cw}(X:cZ B.C.af.length M.Q y):bY B {M with x:=y}:=
 ⟨O.c,O.k,O.t,O.ty,O.o,X,O.mq,O.ck,O.al,O.lv,O.ho,O.it,O.e,O.st,O.nb,O.mg,O.mo,O.bt,O.un,O.on,O.go,O.wn,O.cf,O.n,O.lg⟩
def Mo.iW (M:Mo):Nat:=M.C.af.length
theorem bY.iW{B:Bx}{M:Mo}(O:bY B M):B.C.af.length=M.iW:=by rw[O.c];rfl
theorem JG (z:Ly)(M:Mo):aH acw 91 [.pointer (some ⟨z.y.cr,0,none⟩)] (λ_=>True) [SH z M]
  (λv H=>∃r x,v= .bool r∧M.x.find M.iW M.Q=(r,x)∧H= [SH z {M with x:=x}]∧(r=true→∃p,x.nx=some p∧M.has p)):=
 fg λB O=>by
  have h:=(S7 z.y.cr z.y.q z.y.wh z.y.b z.qb (bJ z.s) (bI z.s) B.C O.k M.Q O.o M.x O.x).fr (H:=fQ z B M++ []) (R:= [Cl z.y.b B.C,ag z.y.t 145 (fA z.y.b B.W B.ty),ag B.ty.nk 163 (aJ (aA B.W.nb)),jV B.ty.ok 163 (aJ (aA B.W.ob)),ag z.y.q 139 (fP z.y.b z.qb B.C.af.length),ag z.qb 327 (M.Q.flatMap (eH B.C)),Wl z.y.wh B.E M.tn,gY z.s z.y (gJ M.v),
   lD z.y.ck M.k,jN z.y.lu z.y.b z.y.q z.hot z.warm,oa z.y.mo z.y.b z.ub (bJ z.s) (bI z.s) (cK z.s) M.m,oz z.ub M.m,lQ M]) (.cons (.there (.there (.there (.there (.there (.there .here)))))) .nil) (λk aw=>⟨aw.nth 4 rfl,aw.nth 5 rfl,trivial⟩)
  refine h.out ?_;rintro v H' ⟨H0,⟨r,x,rfl,rfl,e,X,hr⟩,rfl⟩;rw[O.iW]at e;refine⟨_,⟨r,x,rfl,e,rfl,λh=> ?_⟩, ?_⟩
  ·cases hx:x.nx with
   |none=>exact absurd hx (hr h)
   |some p=>exact⟨p,rfl,_,(X.nx p hx).1⟩
  refine λk s=>aQ (O.cw X) (H:= []) k ?_
  revert s
  revert k
  simp only[uP,cap,agu];unfold fQ;exact Eh
theorem JF (z:Ly)(M:Mo)(p:Nat)(hp:M.x.nx=some p):aH acw 92 [.pointer (some ⟨z.y.cr,0,none⟩)] (λ_=>True) [SH z M]
  (λv H=>v= .int .u64 (M.C.hd p:Int)∧H= [SH z {M with x:=M.x.pass M.Q}]):=
 fg λB O=>by
  have h:=(Ds z.y.cr z.y.q z.y.wh B.C.af.length z.y.b z.qb (bJ z.s) (bI z.s) B.C O.k M.Q O.o M.x O.x p hp).fr (H:=fQ z B M++ []) (R:= [Cl z.y.b B.C,ag z.y.t 145 (fA z.y.b B.W B.ty),ag B.ty.nk 163 (aJ (aA B.W.nb)),jV B.ty.ok 163 (aJ (aA B.W.ob)),ag z.y.q 139 (fP z.y.b z.qb B.C.af.length),ag z.qb 327 (M.Q.flatMap (eH B.C)),Wl z.y.wh B.E M.tn,gY z.s z.y (gJ M.v),
   lD z.y.ck M.k,jN z.y.lu z.y.b z.y.q z.hot z.warm,oa z.y.mo z.y.b z.ub (bJ z.s) (bI z.s) (cK z.s) M.m,oz z.ub M.m,lQ M]) (.cons (.there (.there (.there (.there (.there (.there .here)))))) .nil) (λk aw=>⟨aw.nth 0 rfl,aw.nth 4 rfl,aw.nth 5 rfl,trivial⟩)
  rw[O.hd]at h;refine h.out ?_;rintro v H' ⟨H0,⟨rfl,rfl⟩,rfl⟩;refine⟨_,⟨rfl,rfl⟩,λk s=>aQ (O.cw O.x.pass) (H:= []) k ?_⟩
  revert s
  revert k
  simp only[uP,cap,agu];unfold fQ;exact Eh
theorem fK{n:Nat}{ds:List Deferred}{F:ee}{K:Act→World→Prop}{σ:ba}{z:Ly}{M:Mo}{H:List aa}(h:∀B,bY B M→G n ds F K σ (fQ z B M++H)):G n ds F K σ (SH z M::H):=
 aed λB=>aaT λO=>vv (h B O)
theorem G7{n:Nat}{ds:List Deferred}{F:ee}{K:Act→World→Prop}{σ:ba}{z:Ly}{B:Bx}{M:Mo}{H:List aa}(O:bY B M)(h:G n ds F K σ (SH z M::H)):G n ds F K σ (fQ z B M++H):=
 aC (aQ O) h
def Mo.look (M:Mo)(p:Nat):Mo:=if M.bV p≠0 then M.cD p else M
theorem CZ (b6 lb l:Nat)(hl:l<4611686018427387904):FnD acw 144 [.pointer (some ⟨b6,0,none⟩)] (λ_=>True) [ag b6 180 [.pointer (some ⟨lb,0,none⟩)],ag lb 3 [.int .i64 (l:Int)]]
  (λv H=>v= .tuple #[]∧H= [ag lb 3 [.int .i64 ((l+1:Nat):Int)]]):=by
 refine Kc T.abw func144 rfl ntmps144 rfl ?_;intro F _;refine bH ?_;refine az ?_;refine jM [ag lb 3 [.int .i64 ((l+1:Nat):Int)]] results144 ?_;exact⟨rfl,rfl⟩
theorem H3 (z:Ly)(M:Mo)(p:Nat)(hp:M.has p)(lb tb l t:Nat)(hl:l<4611686018427387904)(ht:t<4611686018427387904):
  aH acw 90 [.pointer (some ⟨z.y.cr,0,none⟩), .int .u64 (M.C.hd p:Int), .pointer (some ⟨lb,0,none⟩), .pointer (some ⟨tb,0,none⟩)] (λ_=>True) [SH z M,ag lb 3 [.int .i64 (l:Int)],ag tb 3 [.int .i64 (t:Int)]]
   (λv H=>v= .tuple #[]∧∃t':Nat,t'≤t+1∧H= [SH z (M.look p),ag lb 3 [.int .i64 ((l+1:Nat):Int)],ag tb 3 [.int .i64 (t':Int)]]):=by
 have dead:=y6 z M p hp;have cD:=y7 z M p hp;refine RK func90 rfl ntmps90 rfl ?_;intro F _;refine ay ?_;refine Lp (oB λb1=> ?_);refine a8 ?_;refine Li Mf ?_;refine Lp (oDv ?_);refine ay ?_;refine Hh (H':= [SH z M,ag b1 180 [.pointer (some ⟨lb,0,none⟩)],ag lb 3 [.int .i64 (l:Int)],ag tb 3 [.int .i64 (t:Int)]]) ?_;refine fK λB O=> ?_;unfold fQ gZ vT;simp only[uP,cap];refine bc ?_;refine G7 (z:=z) (B:=B) (M:=M) (H:= [ag b1 180 [.pointer (some ⟨lb,0,none⟩)],ag lb 3 [.int .i64 (l:Int)],ag tb 3 [.int .i64 (t:Int)]]) O ?_;refine ay ?_;refine Lp (oCV T.Yq rfl rfl rfl dead (.cons .here .nil) (λ_ le _=>trivial) λv H' hr=> ?_);obtain⟨rfl,rfl⟩:=hr;simp only[uP,cap];refine ay ?_;refine av rfl ?_ ?_
 ·intro qB
  replace qB:=aD qB;have YR:M.look p=M.cD p:=by unfold Mo.look;rw[if_pos (by simpa using qB)]
  refine fK λB O=> ?_;unfold fQ gZ vT;simp only[uP,cap];refine bc ?_;refine G7 (z:=z) (B:=B) (M:=M) (H:= [ag b1 180 [.pointer (some ⟨lb,0,none⟩)],ag lb 3 [.int .i64 (l:Int)],ag tb 3 [.int .i64 (t:Int)]]) O ?_;refine ay ?_;refine Lp (oCV T.Ha rfl rfl rfl cD (.cons .here .nil) (λ_ le _=>trivial) λv H' hr=> ?_);obtain⟨rfl,rfl⟩:=hr;simp only[uP,cap];refine cI ?_;refine az ?_;refine ael [SH z (M.look p),ag lb 3 [.int .i64 ((l+1:Nat):Int)],ag tb 3 [.int .i64 ((t+1:Nat):Int)]] results90 (CZ b1 lb l hl) (.cons (.there .here) (.cons (.there .here) .nil)) (λ_ _ _=>trivial) ?_;rintro v H' ⟨rfl,rfl⟩;refine⟨⟨rfl,t+1,acG _,rfl⟩, ?_⟩;rw[YR];exact Eh
 intro qB;replace qB:=aD qB;have YR:M.look p=M:=by unfold Mo.look;rw[if_neg (by simpa using qB)]
 refine ay ?_;refine ael [SH z (M.look p),ag lb 3 [.int .i64 ((l+1:Nat):Int)],ag tb 3 [.int .i64 (t:Int)]] results90 (CZ b1 lb l hl) (.cons (.there .here) (.cons (.there .here) .nil)) (λ_ _ _=>trivial) ?_;rintro v H' ⟨rfl,rfl⟩;refine⟨⟨rfl,t,by omega,rfl⟩, ?_⟩;rw[YR];exact Eh
theorem ND{n:Nat}{ds:List Deferred}{F:ee}{K:Act→World→Prop}{σ:ba}{z:Ly}{M:Mo}{H:List aa}(h:∀B,bY B M→G n ds F K σ (SH z M::H)):G n ds F K σ (SH z M::H):=
 fK λB O=>G7 O (h B O)
theorem Mm{B:Bx}{M:Mo}(O:bY B M){p q:Nat}(hp:M.has p)(hq:M.has q)(ne:q≠p):(M.cD p).has q∧(M.cD p).C.hd q=M.C.hd q:=by
 obtain⟨i,hi⟩:=hq;refine⟨⟨i, ?_⟩, ?_⟩
 ·show q∈ql (gS M.Q p) i
  rw[iL];exact(ag5 ne).2 hi
 have h:=((mI O.k (O.sM ((O.al p).2 hp))).lv q ne (O.sM ((O.al q).2 ⟨i,hi⟩))).2.1;rw[O.hd]at h;rw[←h];show(M.C.bz p).hd q=(B.C.bz p).hd q;rw[O.c];rfl
theorem J2{B:Bx}{M:Mo}(O:bY B M){p q:Nat}(hp:M.has p)(hq:M.has q)(ne:q≠p):(M.look p).has q∧(M.look p).C.hd q=M.C.hd q:=by
 unfold Mo.look
 split
 ·exact Mm O hp hq ne
 exact⟨hq,rfl⟩
def Mo.ct:Nat→Mo→Nat×Mo
 |0,M=>(0,M)
 |f+1,M=>match M.x.find M.iW M.Q with
  |(true,x)=>(match x.nx with
   |some p=>(((({M with x:=x.pass M.Q}:Mo).look p).ct f).1+1,((({M with x:=x.pass M.Q}:Mo).look p).ct f).2)
   |none=>(0,{M with x:=x}))
  |(false,x)=>(0,{M with x:=x})
theorem pX{M:Mo}{f:Nat}{x:Cw}(h:M.x.find M.iW M.Q=(false,x)):M.ct (f+1)=(0,{M with x:=x}):=by
 unfold Mo.ct;rw[h]
theorem pW{M:Mo}{f p:Nat}{x:Cw}(h:M.x.find M.iW M.Q=(true,x))(hp:x.nx=some p):M.ct (f+1)=(((({M with x:=x.pass M.Q}:Mo).look p).ct f).1+1,((({M with x:=x.pass M.Q}:Mo).look p).ct f).2):=by
 conv=>lhs;unfold Mo.ct
 rw[h];dsimp only;rw[hp]
noncomputable def Mo.qW (M:Mo)(now m:Int):Nat×Mo:=((M.jR now m).length+(((M.jR now m).foldl Mo.look M).ct (m.toNat-(M.jR now m).length)).1,(((M.jR now m).foldl Mo.look M).ct (m.toNat-(M.jR now m).length)).2)
noncomputable def Mo.cP (M:Mo)(now aF:Int):Nat×Mo:=if min aF 1048576<1 then(0,M)else M.qW now (min aF 1048576)
theorem SR (M:Mo)(now m:Int):(M.jR now m).length≤m.toNat:=by
 unfold Mo.jR oG;rw[acU,acU,List.length_take];omega
theorem aaP (l:List Nat)(k:Nat)(h:k<l.length):(BG l)[k]?=some (.int .u64 (l[k]:Int)):=by
 unfold BG;rw[acL,acx h];rfl
theorem WD (l:List Nat):(BG l).length=l.length:=acU _
theorem Dr (uO:oU)(z:Ly)(M:Mo)(now aF:Int):
  aH acw 45 [.pointer (some ⟨z.y.cr,0,none⟩), .int .i64 now, .int .i64 aF] (λ_=>True) [SH z M]
   (λv H=>∃n t M',M.cP now aF=(n,M')∧v= .tuple #[.int .i64 (n:Int), .int .i64 (t:Int)]∧H= [SH z M']):=by
 have due:=QK uO z M now (min aF 1048576);have BO:=SR M now (min aF 1048576);have GR:M.cP now aF=if min aF 1048576<1 then(0,M)else M.qW now (min aF 1048576):=rfl
 have hmle:min aF 1048576≤1048576:=ail _ _;refine ae func45 rfl ntmps45 rfl ?_;intro F _;refine ay ?_;refine Lp (oA T.adM λb1=> ?_);refine Lp (oA T.adM λb2=> ?_);refine aZ ?_;refine Li Mi ?_;refine a8 ?_;refine au ?_;refine ao (t:=2) (v':=(.int .i64 (min aF 1048576))) rfl (by rfl) ?_;generalize min aF 1048576=m at*;refine aR ?_;by_cases h1:m<1
 ·refine dz ?_ (e:=by exact decide_eq_true h1)
  refine bB ?_;refine Zg [SH z M] T.bR T.bR results45 ?_;exact⟨0,0,M,by rw[GR,if_pos h1],rfl,rfl⟩
 rw[if_neg h1]at GR;refine cu ?_ (e:=by exact decide_eq_false h1);refine a8 ?_;refine au ?_;refine Hh (H':= [SH z M,ag b1 3 [.int .i64 0],ag b2 3 [.int .i64 0]]) ?_;refine fK λB O=> ?_;unfold fQ gZ vT;simp only[uP,cap];refine bc ?_;refine G7 (z:=z) (B:=B) (M:=M) (H:= [ag b1 3 [.int .i64 0],ag b2 3 [.int .i64 0]]) O ?_;refine a8 ?_;refine Lp (oC T.afv rfl rfl (due) (.cons .here .nil) (λ_ _ _=>trivial) ?_);rintro v H' ⟨sa,sc,rfl,hhas,yF,rfl⟩;refine bd ?_;unfold Mo.qW at GR;generalize M.jR now m=D at*;have uQ:(BG (D.map M.C.hd)).length=D.length:=by rw[WD,acU]
 have UK:m.toNat≤1048576:=by omega
 refine aR ?_;refine Lo (ι:=Nat×Nat) [23,24,25,9,26,27,28,29,22] (λs=>(s.1≤D.length∧s.2≤s.1)∧∀q∈D.drop s.1,((D.take s.1).foldl Mo.look M).has q∧((D.take s.1).foldl Mo.look M).C.hd q=M.C.hd q) (λs=> [(22, .int .i64 (s.1:Int))]) (λs=> [SH z ((D.take s.1).foldl Mo.look M),own sa sc 117 1 (BG (D.map M.C.hd)),ag b1 3 [.int .i64 (s.1:Int)],ag b2 3 [.int .i64 (s.2:Int)]]) (λs=>D.length-s.1) ((0,0)) ⟨⟨Nat.zero_le _,acG _⟩,λq hq=>⟨hhas q hq,rfl⟩⟩ ?_;rintro⟨k,t⟩ hI;dsimp only at hI⊢;obtain⟨⟨hk,Ej⟩,NA⟩:=hI;by_cases bX:k<D.length
 ·have uI:(BG (D.map M.C.hd))[k]?=some (.int .u64 (M.C.hd D[k]:Int)):=by rw[aaP _ _ (by rw[acU];exact bX),List.getElem_map]
  have TU:D.drop k=D[k]::D.drop (k+1):=List.drop_eq_getElem_cons bX;rw[TU]at NA;obtain⟨Xo,eK⟩:=NA _ acF;have X5:(D.take (k+1)).foldl Mo.look M=((D.take k).foldl Mo.look M).look D[k]:=by
   rw[List.take_add_one,acx bX,List.foldl_append];rfl
  have hnd2:∀q∈D.drop (k+1),q≠D[k]:=λq hq e=>by
   have:=yF.sublist (List.drop_sublist k D);rw[TU,acP]at this;exact this.1 (e▸hq)
  have lk:=λlb tb=>H3 z ((D.take k).foldl Mo.look M) D[k] Xo lb tb k t (by omega) (by omega);rw[eK]at lk;refine ND λB2 O2=> ?_;refine fV (dZ (.there .here) (λ_ o=>fy o (by omega))) λhal=> ?_;refine aZ ?_;refine au ?_;refine dz ?_;refine bc ?_;refine Li (Ix T.N9) ?_;refine bB ?_;refine Lp (oC T.Ye rfl rfl (lk _ _) (.cons .here (.cons (.there .here) (.cons (.there .here) .nil))) (λ_ _ _=>trivial) ?_);rintro v H' ⟨rfl,t2,ry,rfl⟩;refine bd ?_;refine Hh (H':= [SH z (((D.take k).foldl Mo.look M).look D[k]),own sa sc 117 1 (BG (D.map M.C.hd)),ag b1 3 [.int .i64 ((k+1:Nat):Int)],ag b2 3 [.int .i64 (t2:Int)]]) ?_;refine bB ?_;refine az ?_;rw[←X5];refine Ro ((k+1,t2)) (⟨⟨bX,(by dsimp only;omega)⟩,λq hq=>(by have ne:=hnd2 q hq;obtain⟨g1,g2⟩:=NA q (acC _ hq);obtain⟨g3,g4⟩:=J2 O2 Xo g1 ne;rw[X5];exact⟨g3,g4.trans g2⟩)⟩) ((by dsimp only;omega))
 obtain rfl:k=D.length:=by omega
 rw[List.take_length];refine aZ ?_;refine au ?_;refine cu ?_;refine bH ?_;generalize hN0:D.foldl Mo.look M=N0 at*;refine Lo (ι:=Mo×Nat×Nat) [30,31,32,33,34,35,36,37,38,39,40] (λs=>(D.length≤s.2.1∧s.2.1≤m.toNat∧s.2.2≤s.2.1)∧N0.ct (m.toNat-D.length)=(s.2.1-D.length+(s.1.ct (m.toNat-s.2.1)).1,(s.1.ct (m.toNat-s.2.1)).2)) (λs=> []) (λs=> [SH z s.1,ag b1 3 [.int .i64 (s.2.1:Int)],ag b2 3 [.int .i64 (s.2.2:Int)]]) (λs=>m.toNat-s.2.1) ((N0,D.length,t)) ⟨⟨acG _,BO,Ej⟩,(by dsimp only;rw[Nat.sub_self,Nat.zero_add])⟩ ?_;rintro⟨N,l,t⟩ hI;dsimp only at hI⊢;obtain⟨⟨i1,i2,i3⟩,i4⟩:=hI;refine bB ?_;by_cases TP:(l:Int)<m
 ·obtain⟨f,hf⟩:∃f,m.toNat-l=f+1:=⟨m.toNat-l-1,by omega⟩
  rw[hf]at i4;refine zt 33 ?_ (e:=by exact decide_eq_true TP);refine ay ?_;refine Lp (oC T.afu rfl rfl (JG z N) (.cons .here .nil) (λ_ _ _=>trivial) ?_);rintro v H' ⟨r,x,rfl,X6,rfl,hr⟩;refine bd ?_;rcases r with _|_
  ·refine Li Pt ?_
   refine fF ?_;refine Zg [SH z {N with x:=x}] T.bR T.bR results45 ?_;refine⟨l,t,{N with x:=x}, ?_,rfl,rfl⟩;rw[GR,i4,pX X6];exact Prod.ext (by dsimp only;omega) rfl
  obtain⟨p,hpx,hph⟩:=hr rfl;rw[pW X6 hpx]at i4;dsimp only at i4;refine cN ?_;refine zl T.Yd (JF z {N with x:=x} p hpx) (.cons .here .nil) (λ_ _ _=>trivial) ?_;have lk:=λlb tb=>H3 z {N with x:=x.pass N.Q} p hph lb tb l t (by omega) (by omega);refine Lp (oC T.Ye rfl rfl (lk _ _) (.cons .here (.cons .here (.cons .here .nil))) (λ_ _ _=>trivial) ?_);rintro v H' ⟨rfl,t2,ry,rfl⟩;refine bd ?_;refine a8 ?_;refine Ro ((({N with x:=x.pass N.Q}:Mo).look p,l+1,t2)) (⟨⟨(by dsimp only;omega),(by dsimp only;omega),(by dsimp only;omega)⟩,(by dsimp only;rw[i4,show m.toNat-(l+1)=f by omega];exact Prod.ext (by dsimp only;omega) rfl)⟩) ((by dsimp only;omega))
 have ad7:m.toNat-l=0:=by omega
 rw[ad7]at i4;refine zf 33 ?_ (e:=by exact decide_eq_false TP);refine kx ?_;refine Zg [SH z N] T.bR T.bR results45 ?_;refine⟨l,t,N, ?_,rfl,rfl⟩;rw[GR,i4];exact Prod.ext (by show D.length+(l-D.length+0)=l;omega) rfl
theorem bY.cls{B:Bx}{M:Mo}(O:bY B M){D N:Cs}{ho':Option Nat}{m':lB}(K2:Ok D)(hN:D=N.wA B.C.A)(S:BH B.C D (λq=>q∈B.W.all))(TV:D.cfg=B.C.cfg)(lv:∀q,Live D q↔q∈B.W.all∨ho'=some q)(hoo:∀q,ho'=some q→q∉B.W.all)
  (un:m'.un.length=D.af.length) (on:m'.on=true→m'.pg<D.n∧(D.pg m'.pg).own=true∧(D.pg m'.pg).lv=true∧(D.pg m'.pg).cl=m'.fr) (go:∀i,(D.pg i).lv=true→m'.on=true∧i=m'.pg):
  bY ⟨D,B.W,B.ty,B.E⟩ {M with C:=N,hole:=ho',m:=m'}:=by
 have hA:D.A=B.C.A:=S.a;have hs:D.af.length=B.C.af.length:=by rw[S.sz]
 refine⟨?_,K2,S.tb O.t λp h=>h,O.ty,S.qu O.o λi p h=>O.sO h,by show cZ D.af.length _ _;rw[hs];exact O.x,λi p h=>by show dE D.A p<16;rw[hA];exact O.mq i p h,O.ck,O.al,lv,hoo,λp h=>by show nQ D.A p=_;rw[hA];exact O.it p h, ?_,O.st,O.nb,O.mg,O.mo,O.bt,un,on,go,O.wn,by show M.v.c=D.cfg;rw[TV];exact O.cf,O.n,O.lg⟩
 ·show D=N.wA D.A
  rw[hA];exact hN
 exact O.e.trans (acN.of_eq (fU λq h=>⟨rfl,rfl,(S.lv q h (O.sM h)).2.1⟩).symm)
theorem bY.rC{B:Bx}{M:Mo}(O:bY B M){r:Nat}(hr:M.hole=some r){A:By}(d:dx B.C B.C.A A (λq _=>q=r)):bY ⟨B.C.wA A,B.W,B.ty,B.E⟩ M:=by
 have K:=O.k;have ne:∀q∈B.W.all,q≠r:=λq h e=>O.ho r hr (e▸h);have r_:=λ(q:Nat) (hq:q∈B.W.all) (o w:Nat) (h2:o+w≤B.C.sz (B.C.cl q))=>lA K d (O.om hq) h2 (λj _ _ s=>ne q hq s);have n1:∀q∈B.W.all,64≤B.C.sz (B.C.cl q):=λq hq=>((O.om hq).bo K).2.1;have it_:∀q∈B.W.all,nQ A q=nQ B.C.A q:=λq hq=>wo K d (O.om hq) (O.t.it q hq) (λj s=>absurd s (ne q hq));have kp:∀q∈B.W.all,Kept B.C A q:=λq hq=>qY K d (O.om hq) (O.t.it q hq) (λj s=>absurd s (ne q hq));refine⟨?_,K.wA A,adP K O.t kp (λq hq=>r_ q hq 0 4 (by have:=n1 q hq;omega)),O.ty, ?_,O.x, ?_,O.ck,O.al,λq=> ?_,O.ho,λq hq=>(it_ q hq).trans (O.it q hq),O.e,O.st,O.nb,O.mg,O.mo,O.bt,O.un,O.on,O.go,O.wn,O.cf,O.n,O.lg⟩
 ·show B.C.wA A=M.C.wA A
  conv=>lhs;rw[O.c]
  rfl
 ·exact adS O.o (λi q hq=>kp q (O.sO hq)) (λi q hq=>r_ q (O.sO hq) 45 1 (by have:=n1 q (O.sO hq);omega)) (λi q hq=>r_ q (O.sO hq) (4*1) 4 (by have:=n1 q (O.sO hq);omega)) (λi q hq=>r_ q (O.sO hq) (4*2) 4 (by have:=n1 q (O.sO hq);omega))
 ·intro i q hq
  show dE A q<16;rw[show dE A q=dE B.C.A q from congrArg I3.dB (it_ q (O.sO hq))];exact O.mq i q hq
 refine Iff.trans ?_ (O.lv q);exact⟨λh=>⟨⟨h.i,h.own,h.al,h.k⟩,h.tk⟩,λh=>h.wA A⟩
structure Tkn (C:Cs)(c p:Nat)(D:Cs):Prop where
 k:Ok D
 no:¬Live C p
 lv:∀q,Live D q↔Live C q∨q=p
 hd:∀q,Live C q→D.hd q=C.hd q∧D.cl q=C.cl q
 cl:D.cl p=c
 sz:D.af=C.af
 n:D.n=C.n
 ps:D.aq=C.aq
 cf:D.cfg=C.cfg
 lf:∀i,(D.pg i).lv=(C.pg i).lv
 pg:∀i,(C.pg i).own=true→(D.pg i).own=true∧(D.pg i).cl=(C.pg i).cl
 dA:dx D C.A D.A (λq _=>q=p)
 nA:∀A,∃A',(C.wA A).eA c=some (p,D.wA A')
theorem Qv{C:Cs}(K:Ok C){c p:Nat}(h:(C.rw c).free.getLast?=some p)(j:Nat):(C.fi c p).pg j=if j=C.pn p then{C.pg (C.pn p)with tk:=(C.pg (C.pn p)).tk.set (C.ix p) true,held:=(C.pg (C.pn p)).held+1}else C.pg j:=by
 obtain⟨_,_,F⟩:=wW K h;exact lY (by rw[K.pl];exact F.i) j
theorem XG{C:Cs}(K:Ok C){c p:Nat}(h:(C.rw c).free.getLast?=some p):Tkn C c p (C.fi c p):=by
 obtain⟨K2,S,F⟩:=wW K h;have jv:=Qv K h;have e1:∀q,C.pn q=C.pn p→(C.fi c p).pg (C.pn q)={C.pg (C.pn p)with tk:=(C.pg (C.pn p)).tk.set (C.ix p) true,held:=(C.pg (C.pn p)).held+1}:=λq e=>by rw[jv,if_pos e]
 have e2:∀q,C.pn q≠C.pn p→(C.fi c p).pg (C.pn q)=C.pg (C.pn q):=λq e=>by rw[jv,if_neg e]
 have ou:¬Live C p:=λL=>by
  have a:=F.tk;have b:=L.tk;rw[a]at b;cases b
 have bX:=(acz.1 F.tk).1;have f1:=K.toFix.p1;refine⟨K2,ou,λq=> ?_,λq L=> ?_,by rw[S.cl];exact F.cl,S.af,S.n,S.aq,rfl,λi=> ?_,λi ho=> ?_, ?_,λA=> ?_⟩
 ·constructor
  ·intro L
   have a:=S.at.1 L.toAt;have t:=L.tk;rw[S.pn,S.ix]at t;by_cases e:C.pn q=C.pn p
   ·by_cases g:q=p
    ·exact .inr g
    rw[e1 q e]at t;change((C.pg (C.pn p)).tk.set (C.ix p) true)[C.ix q]?=some true at t;rw[ac5 (λz=>wm K F.toAt a e g z.symm),←e]at t;exact .inl ⟨a,t⟩
   rw[e2 q e]at t;exact .inl ⟨a,t⟩
  rintro(L|rfl)
  ·refine⟨S.at.2 L.toAt, ?_⟩
   rw[S.pn,S.ix];by_cases e:C.pn q=C.pn p
   ·have g:q≠p:=λg=>ou (g▸L)
    rw[e1 q e];show((C.pg (C.pn p)).tk.set (C.ix p) true)[C.ix q]?=some true;rw[ac5 (λz=>wm K F.toAt L.toAt e g z.symm),←e];exact L.tk
   rw[e2 q e];exact L.tk
  refine⟨S.at.2 F.toAt, ?_⟩;rw[S.pn,S.ix,e1 q rfl];show((C.pg (C.pn q)).tk.set (C.ix q) true)[C.ix q]?=some true;rw[List.getElem?_set_self bX]
 ·refine⟨?_,S.cl q⟩
  unfold Cs.hd Cs.gen;rw[S.pn,S.ix];by_cases e:C.pn q=C.pn p
  ·rw[e1 q e,e]
  rw[e2 q e]
 ·rw[jv]
  by_cases e:i=C.pn p
  ·rw[if_pos e,e]
  rw[if_neg e]
 ·rw[jv]
  by_cases e:i=C.pn p
  ·rw[if_pos e,e];rw[e]at ho;exact⟨ho,rfl⟩
  rw[if_neg e];exact⟨ho,rfl⟩
 ·intro i hi
  have hr:p≤i∧i<p+56:=by
   refine acH λg=>hi ?_;show wr (lay C.A p (acA 56 0)) (p+12) 4 (C.gen p) i=C.A i;unfold wr;rw[fZ _ _ _ _ (by rw[l7];omega),fZ _ _ _ _ (by rw[List.length_replicate];omega)]
  have:=((S.at.2 F.toAt).bo K2).2.1;exact⟨p,i-p,S.at.2 F.toAt,by omega,rfl,by omega⟩
 refine⟨((C.wA A).fi c p).A, ?_⟩;have:(C.wA A).eA c=some (p,(C.wA A).fi c p):=by
  unfold Cs.eA;rw[show((C.wA A).rw c).free.getLast?=some p from h]
 rw[this];rfl
theorem Qg{C:Cs}(K:Ok C){i c:Nat}(hi:i<C.n)(j:Nat):(C.bG i c).pg j=if j=i then C.fq i c else C.pg j:=lY (by rw[K.pl];exact hi) j
theorem aeJ{C:Cs}(K:Ok C){i c p:Nat}(hi:i<C.n)(jw:c<C.af.length)(ho:(C.pg i).own=false)(hf:C.fW=some i)(he:(C.rw c).free.getLast?=none)(h:((C.bG i c).rw c).free.getLast?=some p):Tkn C c p ((C.bG i c).fi c p):=by
 have KW:=yW K hi jw ho;have jv:=Qg K (c:=c) hi;have X:=XG KW h;have P:mw C (C.pg i):=K.pg _ (gM (by rw[K.pl];exact hi));have jO:(C.pg i).lv=false:=(P.no ho).2.1;have M9:∀q,At C q→C.pn q≠i:=λq L e=>by
  have:=L.own;rw[e,ho]at this;cases this
 have same:∀q,C.pn q≠i→(C.bG i c).pg ((C.bG i c).pn q)=C.pg (C.pn q):=λq e=>by
  rw[show(C.bG i c).pn q=C.pn q from rfl,jv,if_neg e]
 have T8:∀q,C.pn q≠i→(C.bG i c).cl q=C.cl q:=λq e=>by unfold Cs.cl;rw[same q e]
 have TA:∀q,C.pn q≠i→(C.bG i c).ix q=C.ix q:=λq e=>by unfold Cs.ix;rw[T8 q e];rfl
 have wl:∀q,Live (C.bG i c) q↔Live C q:=λq=>by
  constructor
  ·intro L
   have e:C.pn q≠i:=λe=>by
    have t:=L.tk;rw[show(C.bG i c).pn q=C.pn q from rfl,jv,if_pos e]at t;change(acA (C.aq/C.sz c) false)[(C.bG i c).ix q]?=some true at t;obtain⟨hh,t2⟩:=acz.1 t;rw[List.getElem_replicate]at t2;cases t2
   refine⟨⟨L.i,by have:=L.own;rw[same q e]at this;exact this,by have:=L.al;rw[T8 q e]at this;exact this,by have:=L.k;rw[same q e,TA q e]at this;exact this⟩,by have:=L.tk;rw[same q e,TA q e]at this;exact this⟩
  intro L;have e:=M9 q L.toAt;exact⟨⟨L.i,by rw[same q e];exact L.own,by rw[T8 q e];exact L.al,by rw[same q e,TA q e];exact L.k⟩,by rw[same q e,TA q e];exact L.tk⟩
 refine⟨X.k,λL=>X.no ((wl p).2 L),λq=>by rw[X.lv,wl],λq L=> ?_,X.cl,X.sz,X.n,X.ps,X.cf,λj=> ?_,λj hj=> ?_,X.dA,λA=> ?_⟩
 ·have e:=M9 q L.toAt
  obtain⟨a,b⟩:=X.hd q ((wl q).2 L);rw[a,b,T8 q e];refine⟨?_,rfl⟩;unfold Cs.hd Cs.gen;rw[same q e,TA q e]
 ·rw[X.lf,jv]
  by_cases e:j=i
  ·rw[if_pos e,e];rfl
  rw[if_neg e]
 ·have e:j≠i:=λe=>by rw[e,ho]at hj;cases hj
  obtain⟨a,b⟩:=X.pg j (by rw[jv,if_neg e];exact hj);rw[a,b,jv,if_neg e];exact⟨rfl,rfl⟩
 refine⟨(((C.wA A).bG i c).fi c p).A, ?_⟩;have:(C.wA A).eA c=some (p,((C.wA A).bG i c).fi c p):=by
  unfold Cs.eA;rw[show((C.wA A).rw c).free.getLast?=none from he];dsimp only;rw[show(C.wA A).fW=some i from hf];dsimp only;rw[show(((C.wA A).bG i c).rw c).free.getLast?=some p from h]
 rw[this];rfl
theorem DP{C:Cs}{i:Nat}(K:Ok C)(h:C.fW=some i):i<C.n∧(C.pg i).own=false:=by
 unfold Cs.fW at h;rw[acV]at h;obtain⟨h1,h2,_⟩:=h;refine⟨by rw[←K.pl];exact h1, ?_⟩;have e:C.pg i=C.cR[i]:=by unfold Cs.pg;rw[acy,acx h1];rfl
 rw[e]
 simpa using h2
theorem tx{C:Cs}(K:Ok C){c p:Nat}{D:Cs}(jw:c<C.af.length)(h:C.eA c=some (p,D)):Tkn C c p D:=by
 unfold Cs.eA at h;cases hf:(C.rw c).free.getLast? with
 |some q=>
  rw[hf]at h;cases h;exact XG K hf
 |none=>
  rw[hf]at h;dsimp only at h;cases hp:C.fW with
  |none=>rw[hp]at h;cases h
  |some i=>
   rw[hp]at h;dsimp only at h;obtain⟨h1,h2⟩:=DP K hp;cases hg:((C.bG i c).rw c).free.getLast? with
   |none=>rw[hg]at h;cases h
   |some q=>
    rw[hg]at h;cases h;exact aeJ K h1 jw h2 hp hf hg
theorem Qw{C:Cs}(A:By){c:Nat}(h:C.eA c=none):(C.wA A).eA c=none:=by
 unfold Cs.eA at*;rw[show((C.wA A).rw c).free.getLast?=(C.rw c).free.getLast? from rfl];cases hf:(C.rw c).free.getLast? with
 |some q=>rw[hf]at h;cases h
 |none=>
  rw[hf]at h;dsimp only at h⊢;rw[show(C.wA A).fW=C.fW from rfl];cases hp:C.fW with
  |none=>rfl
  |some i=>
   rw[hp]at h;dsimp only at h⊢;rw[show(((C.wA A).bG i c).rw c).free.getLast?=((C.bG i c).rw c).free.getLast? from rfl];cases hg:((C.bG i c).rw c).free.getLast? with
   |none=>rfl
   |some q=>rw[hg]at h;cases h
def Mo.take (M:Mo)(c:Nat):Option (Nat×Mo):=match M.C.eA c with
 |some (p,D)=>some (p,{M with C:=D,hole:=some p})
 |none=>none
theorem bY.take{B:Bx}{M:Mo}(O:bY B M)(hh:M.hole=none){c p:Nat}{D:Cs}(jw:c<B.C.af.length)(h:B.C.eA c=some (p,D)):∃N,M.take c=some (p,N)∧N.C.hd p=D.hd p∧N.hole=some p∧N={M with C:=N.C,hole:=some p}∧bY ⟨D,B.W,B.ty,B.E⟩ N∧Tkn B.C c p D:=by
 have X:=tx O.k jw h;have hM:∃A',M.C.eA c=some (p,D.wA A'):=by
  obtain⟨A',e⟩:=X.nA M.C.A;rw[O.c]at e;exact⟨A',e⟩
 obtain⟨A',hM⟩:=hM;refine⟨{M with C:=D.wA A',hole:=some p},by unfold Mo.take;rw[hM],rfl,rfl,rfl, ?_,X⟩;have MT:∀q∈B.W.all,q≠p:=λq hq e=>X.no (e▸O.sM hq);have K0:Ok (D.wA B.C.A):=X.k.wA _;have h0:∀q,Live (D.wA B.C.A) q↔Live D q:=λq=>⟨λh=>⟨⟨h.i,h.own,h.al,h.k⟩,h.tk⟩,λh=>h.wA _⟩;have S:BH B.C (D.wA B.C.A) (λq=>q∈B.W.all):=⟨rfl,X.sz,λq _ L=>⟨(h0 q).2 ((X.lv q).2 (.inl L)),(X.hd q L).1,(X.hd q L).2⟩⟩;have O1:=O.cls (D:=D.wA B.C.A) (N:=D.wA A') (ho':=some p) (m':=M.m) K0 rfl S X.cf (λq=>by
   rw[h0,X.lv,O.lv,hh]
   constructor
   ·rintro((h|h)|h)
    ·exact .inl h
    ·cases h
    exact .inr (by rw[h])
   rintro(h|h)
   ·exact .inl (.inl h)
   exact .inr (Option.some.inj h).symm) (λq e hq=>MT q hq (Option.some.inj e).symm) (by rw[show(D.wA B.C.A).af=B.C.af from X.sz];exact O.un)
  (λe=>by
   obtain⟨a,b,c,d⟩:=O.on e;obtain⟨e1,e2⟩:=X.pg _ b;exact⟨by rw[show(D.wA B.C.A).n=B.C.n from X.n];exact a,e1,(X.lf _).trans c,e2.trans d⟩) (λi e=>O.go i ((X.lf i).symm.trans e))
 have O2:=O1.rC (r:=p) rfl (A:=D.A) (λi hi=>by
  obtain⟨q,o,q1,q2,q3,q4⟩:=X.dA i hi;exact⟨q,o,q1.wA _,q2,q3,q4⟩)
 exact O2
theorem nE (A:By)(p c:Nat)(k v:List UInt8)(fl exp tch tok st mk o w:Nat)(h:o+w≤48)(hk:k.length<256):rd (lr A p c k v fl exp tch tok st mk) (p+o) w=rd (GP A p c k.length fl exp tch tok st mk) (p+o) w:=by
 unfold lr eM;rw[eG,eG,aP,eG]<;>omega
theorem H9 (A:By)(p c:Nat)(k v:List UInt8)(fl exp tch tok st mk:Nat)(hk:k.length<256):kl (lr A p c k v fl exp tch tok st mk) p=k.length:=by
 unfold kl;rw[nE _ _ _ _ _ _ _ _ _ _ _ _ _ (by omega) hk];unfold GP;rw[aP,aP,aP,aP,du]<;>omega
theorem Wm (A:By)(p c:Nat)(k v:List UInt8)(fl exp tch tok st mk:Nat)(hk:k.length<256)(h:exp<256^8):vS (lr A p c k v fl exp tch tok st mk) p=exp:=by
 unfold vS;rw[nE _ _ _ _ _ _ _ _ _ _ _ _ _ (by omega) hk];unfold GP;rw[aP,aP,aP,aP,aP,aP,aP,aP,du,ac9 h]<;>omega
theorem Ry (A:By)(p c:Nat)(k v:List UInt8)(fl exp tch tok st mk:Nat)(hk:k.length<256)(h:tch<256^8):nm (lr A p c k v fl exp tch tok st mk) p=tch:=by
 unfold nm;rw[nE _ _ _ _ _ _ _ _ _ _ _ _ _ (by omega) hk];unfold GP;rw[aP,aP,aP,aP,aP,aP,aP,du,ac9 h]<;>omega
theorem Rx (A:By)(p c:Nat)(k v:List UInt8)(fl exp tch tok st mk:Nat)(hk:k.length<256)(h:tok<256^8):rD (lr A p c k v fl exp tch tok st mk) p=tok:=by
 unfold rD;rw[nE _ _ _ _ _ _ _ _ _ _ _ _ _ (by omega) hk];unfold GP;rw[aP,aP,aP,aP,aP,aP,du,ac9 h]<;>omega
theorem Wk (A:By)(p c:Nat)(k v:List UInt8)(fl exp tch tok st mk:Nat)(hk:k.length<256)(h:fl<256^4):TY (lr A p c k v fl exp tch tok st mk) p=fl:=by
 unfold TY;rw[nE _ _ _ _ _ _ _ _ _ _ _ _ _ (by omega) hk];unfold GP;rw[aP,aP,aP,aP,aP,du,ac9 h]<;>omega
theorem Wi (A:By)(p c:Nat)(k v:List UInt8)(fl exp tch tok st mk:Nat)(hk:k.length<256)(h:st<256^1):jc (lr A p c k v fl exp tch tok st mk) p=st:=by
 unfold jc;rw[nE _ _ _ _ _ _ _ _ _ _ _ _ _ (by omega) hk];unfold GP;rw[aP,aP,aP,du,ac9 h]<;>omega
theorem Wj (A:By)(p c:Nat)(k v:List UInt8)(fl exp tch tok st mk:Nat)(hk:k.length<256)(h:mk<256^1):dE (lr A p c k v fl exp tch tok st mk) p=mk:=by
 unfold dE;rw[nE _ _ _ _ _ _ _ _ _ _ _ _ _ (by omega) hk];unfold GP;rw[aP,aP,du,ac9 h]<;>omega
theorem Wn (A:By)(p c:Nat)(k v:List UInt8)(fl exp tch tok st mk:Nat)(hk:k.length<256)(hv:v.length<256^4):vl (lr A p c k v fl exp tch tok st mk) p=v.length∧aL (lr A p c k v fl exp tch tok st mk) p=k∧oo (lr A p c k v fl exp tch tok st mk) p=v:=by
 have e1:=H9 A p c k v fl exp tch tok st mk hk;have e0:=E3 A p c k.length fl exp tch tok st mk k hk;have e2:vl (lr A p c k v fl exp tch tok st mk) p=v.length:=by
  unfold vl lr eM;rw[e0,eG,eG,du,ac9 hv]<;>omega
 refine⟨e2, ?_, ?_⟩
 ·unfold aL
  rw[e1];unfold lr eM;rw[e0,fD,fD,ri,ke]<;>omega
 unfold oo;rw[e1,e2];unfold lr eM;rw[e0,fD,ke];omega
theorem aaK{C:Cs}{p c:Nat}{k v:List UInt8}{fl exp tch tok st mk:Nat}(L:At C p)(hk:k.length<256)(hf:58+k.length+v.length≤C.sz (C.cl p)):dx C C.A (lr C.A p c k v fl exp tch tok st mk) (λq _=>q=p):=λi hi=>by
 have hr:p≤i∧i<p+(58+k.length+v.length):=by
  refine acH λg=>hi ?_;have e0:=E3 C.A p c k.length fl exp tch tok st mk k hk;have w:∀(A:By) (o n x:Nat),o+n≤56→wr A (p+o) n x i=A i:=λA o n x h=>by
   unfold wr;exact fZ _ _ _ _ (by rw[l7];omega)
  unfold lr eM;rw[e0,fZ,fZ,w _ _ _ _ (by omega),fZ]
  ·unfold GP
   rw[w _ _ _ _ (by omega),w _ _ _ _ (by omega),w _ _ _ _ (by omega),w _ _ _ _ (by omega),w _ _ _ _ (by omega),w _ _ _ _ (by omega),w _ _ _ _ (by omega),w _ _ _ _ (by omega),w _ _ _ _ (by omega),sn,sn,sn,w _ _ _ _ (by omega),w _ _ _ _ (by omega),w _ _ _ _ (by omega)];rfl
  ·omega
  ·omega
  have:crlf.length=2:=rfl;omega
 exact⟨p,i-p,L,by omega,rfl,by omega⟩
def T9 (p r q:Nat):Nat:=if q=p then r else q
def Ae (Q:List (List Nat))(p r:Nat):List (List Nat):=Q.map λl=>l.map (T9 p r)
theorem qP (Q:List (List Nat))(p r i:Nat):ql (Ae Q p r) i=(ql Q i).map (T9 p r):=by
 unfold Ae ql;rw[acy,acy,acL];cases Q[i]?<;>rfl
def Mo.swap (M:Mo)(p r:Nat):Mo:=
 {M with hole:=some p,Q:=Ae M.Q p r,it:=λq=>if q=r then M.it p else M.it q,ord:=λq=>if q=r then M.ord p else M.ord q,x:=M.x.yM p r}
def Mo.yO (M:Mo)(p:Nat):Mo:={M with C:=M.C.bz p,hole:=none}
def Mo.shift (M:Mo)(p:Nat):Option Mo:=match M.take (M.C.cl p)with
 |some (r,N)=>some ((N.swap p r).yO p)
 |none=>none
theorem bY.cl{B:Bx}{M:Mo}(O:bY B M)(p:Nat):B.C.cl p=M.C.cl p:=by rw[O.c];rfl
theorem bY.takeN{B:Bx}{M:Mo}(O:bY B M){c:Nat}(h:B.C.eA c=none):M.take c=none:=by
 have:(B.C.wA M.C.A).eA c=none:=Qw _ h;rw[O.c]at this;unfold Mo.take;rw[show M.C.eA c=none from this]
theorem vj{C D:Cs}(S:BT C D)(hp:∀j,∃b,D.pg j={C.pg j with lv:=b})(q:Nat):(Live D q↔Live C q)∧D.hd q=C.hd q∧D.cl q=C.cl q:=by
 have tk:∀i,(D.pg i).tk=(C.pg i).tk:=λi=>by obtain⟨b,e⟩:=hp i;rw[e]
 have bq:∀i,(D.pg i).bq=(C.pg i).bq:=λi=>by obtain⟨b,e⟩:=hp i;rw[e]
 refine⟨⟨λL=>⟨S.at.1 L.toAt, ?_⟩,λL=>⟨S.at.2 L.toAt, ?_⟩⟩, ?_,S.cl q⟩
 ·have:=L.tk
  rw[S.pn,S.ix,tk]at this;exact this
 ·rw[S.pn,S.ix,tk];exact L.tk
 unfold Cs.hd Cs.gen;rw[S.pn,S.ix,bq]
theorem AR{C:Cs}(K:Ok C){i:Nat}(hi:i<C.n)(j:Nat):(C.lE i).pg j=if j=i then{C.pg i with lv:=false}else C.pg j:=lY (by rw[K.pl];exact hi) j
theorem Rs{C:Cs}(K:Ok C){i:Nat}(hi:i<C.n)(j:Nat):(C.nt i).pg j=if j=i then{C.pg i with lv:=true}else C.pg j:=lY (by rw[K.pl];exact hi) j
theorem F9{C:Cs}(K:Ok C){i:Nat}(hi:i<C.n)(j:Nat):(C.fx i).pg j=if j=i then{Pg.no with old:=C.M8 (C.pg i)}else C.pg j:=lY (by rw[K.pl];exact hi) j
theorem bY.stay{B:Bx}{M:Mo}(O:bY B M)(qA:M.m.on=true):BH B.C (B.C.lE M.m.pg) (λq=>q∈B.W.all)∧bY ⟨B.C.lE M.m.pg,B.W,B.ty,B.E⟩ {M with C:=M.C.lE M.m.pg,m:=M.m.off}:=by
 obtain⟨a,b,c,d⟩:=O.on qA;have K:=O.k;obtain⟨K2,S⟩:=wZ K a b c;have jv:=AR K a;have sm:=vj S λj=>by
  rw[jv];by_cases e:j=M.m.pg
  ·exact⟨false,by rw[if_pos e,e]⟩
  exact⟨(B.C.pg j).lv,by rw[if_neg e]⟩
 have hs:BH B.C (B.C.lE M.m.pg) (λq=>q∈B.W.all):=⟨rfl,S.af,λq _ L=>⟨(sm q).1.2 L,(sm q).2⟩⟩;refine⟨hs,O.cls (ho':=M.hole) K2 (congrArg (λC:Cs=>C.lE M.m.pg) O.c) hs rfl (λq=>(sm q).1.trans (O.lv q)) O.ho (by rw[S.af];exact O.un) (λe=>by cases e) (λi e=> ?_)⟩;rw[jv]at e;by_cases g:i=M.m.pg
 ·rw[if_pos g]at e;cases e
 rw[if_neg g]at e;exact absurd (O.go i e).2 g
theorem afj{C:Cs}(K:Ok C){i:Nat}(hi:i<C.n)(h:(C.pg i).tk.findIdx? id=none):(C.pg i).held=0∧∀k:Nat,(C.pg i).tk[k]?≠some true:=by
 have P:mw C (C.pg i):=K.pg _ (gM (by rw[K.pl];exact hi));rw[agE]at h;refine⟨?_,λk e=> ?_⟩
 ·rw[P.held]
  have:∀l:List Bool,(∀x∈l,id x=false)→(l.map bN).sum=0:=λl=>by
   induction l with
   |nil=>intro _;rfl
   |cons x l ih=>
    intro g;have hx:x=false:=g x acF;rw[acM,ac0,ih λy hy=>g y (acC _ hy),hx];rfl
  exact this _ h
 have:=h true (acB e);cases this
def Mo.mstop (M:Mo):Mo:={M with C:=M.C.lE M.m.pg,m:=M.m.off}
def Mo.gF (M:Mo):Bool×Mo:=match(M.C.pg M.m.pg).tk.findIdx? id with
 |none=>(false,{M with C:=M.C.fx M.m.pg,m:=M.m.off})
 |some k=>if M.bV (M.C.yh M.m.pg k)≠0 then(true,M.cD (M.C.yh M.m.pg k))else(match M.shift (M.C.yh M.m.pg k)with
  |some N=>(true,N)
  |none=>(false,M.mstop))
def lsB (C:Cs)(f each k:Nat)(o:Option Nat):Prop:=(C.pg k).own=true∧(C.pg k).cl=f∧((C.pg k).held:Int)≤((C.rw f).free.length:Int)-((each:Int)-((C.pg k).held:Int))∧∀q,o=some q→(C.pg k).held<(C.pg q).held
noncomputable def lsF (C:Cs)(f each:Nat):Nat→Option Nat
 |0=>none
 |k+1=>by classical exact if lsB C f each k (lsF C f each k)then some k else lsF C f each k
noncomputable def tg (C:Cs)(f:Nat):Option Nat:=if(C.rw f).cH<2 then none else lsF C f (C.aq/C.sz f) C.n
theorem HY (C:Cs)(f each:Nat):∀k q,lsF C f each k=some q→q<k∧(C.pg q).own=true∧(C.pg q).cl=f
 |0,q,h=>by cases h
 |k+1,q,h=>by
  unfold lsF at h
  split at h
  ·next g=>cases h;exact⟨aik _,g.1,g.2.1⟩
  obtain⟨a,b⟩:=HY C f each k q h;exact⟨by omega,b⟩
def uk (C:Cs)(f:Nat):Nat:=(C.rw f).free.length
noncomputable def jE (m:lB)(C:Cs):Nat→Option (Nat×Nat)
 |0=>none
 |k+1=>if m.j8 k=true∨(∃o,jE m C k=some o∧uk C k≤uk C o.2)then jE m C k else(match tg C k with
  |some p=>some (p,k)
  |none=>jE m C k)
noncomputable def Mo.gO (M:Mo):Mo:=if 0<M.C.spare then M else match(List.range M.iW).find? M.m.j8 with
 |none=>M
 |some t=>match jE M.m M.C M.iW with
  |none=>M
  |some o=>{M with C:=M.C.nt o.1,m:={M.m with pg:=o.1,fr:=o.2,tt:=t,on:=true}}
theorem Gz{m:lB}{C:Cs}{k:Nat}(h:m.j8 k=true∨(∃o,jE m C k=some o∧uk C k≤uk C o.2)):jE m C (k+1)=jE m C k:=by
 conv=>lhs;unfold jE
 rw[if_pos h]
theorem GA{m:lB}{C:Cs}{k:Nat}(h:tg C k=none):jE m C (k+1)=jE m C k:=by
 conv=>lhs;unfold jE
 split
 ·rfl
 rw[h]
theorem Md{m:lB}{C:Cs}{k p:Nat}(g:¬(m.j8 k=true∨(∃o,jE m C k=some o∧uk C k≤uk C o.2)))(h:tg C k=some p):jE m C (k+1)=some (p,k):=by
 conv=>lhs;unfold jE
 rw[if_neg g,h]
theorem Gi{C:Cs}{f p:Nat}(h:tg C f=some p):p<C.n∧(C.pg p).own=true∧(C.pg p).cl=f:=by
 unfold tg at h
 split at h
 ·cases h
 exact HY _ _ _ _ _ h
theorem tV{m:lB}{C:Cs}:∀{k:Nat} {o:Nat×Nat},jE m C k=some o→o.1<C.n∧(C.pg o.1).own=true∧(C.pg o.1).cl=o.2∧o.2<k
 |0,o,h=>by cases h
 |k+1,o,h=>by
  by_cases g:m.j8 k=true∨(∃o,jE m C k=some o∧uk C k≤uk C o.2)
  ·rw[Gz g]at h
   obtain⟨a,b,c,d⟩:=tV h;exact⟨a,b,c,by omega⟩
  cases hl:tg C k with
  |none=>
   rw[GA hl]at h;obtain⟨a,b,c,d⟩:=tV h;exact⟨a,b,c,by omega⟩
  |some p=>
   rw[Md g hl]at h;cases h;obtain⟨a,b,c⟩:=Gi hl;exact⟨a,b,c,aik _⟩
def Uz (z:Ly)(B:Bx)(M:Mo):List aa:=
 [ag z.y.t 145 (fA z.y.b B.W B.ty),ag B.ty.nk 163 (aJ (aA B.W.nb)),jV B.ty.ok 163 (aJ (aA B.W.ob)),ag z.y.q 139 (fP z.y.b z.qb B.C.af.length),ag z.qb 327 (M.Q.flatMap (eH B.C)),gZ z.y.cr z.y.q z.y.wh B.C.af.length (bJ z.s) (bI z.s) B.C M.x,Wl z.y.wh B.E M.tn,gY z.s z.y (gJ M.v),lD z.y.ck M.k,jN z.y.lu z.y.b z.y.q z.hot z.warm,lQ M]
theorem YA{z:Ly}{B:Bx}{M:Mo}:∀h,ak (fQ z B M++ []) h→ak [Cl z.y.b B.C,oa z.y.mo z.y.b z.ub (bJ z.s) (bI z.s) (cK z.s) M.m,oz z.ub M.m,aN (Uz z B M)] h:=λh s=>by
 have s1:ak (Uz z B M++ [Cl z.y.b B.C,oa z.y.mo z.y.b z.ub (bJ z.s) (bI z.s) (cK z.s) M.m,oz z.ub M.m]) h:=by
  revert s
  revert h
  unfold fQ Uz;simp only[uP,cap];exact Eh
 have s2:=fN s1
 revert s2
 generalize aN (Uz z B M)=X
 revert h
 intro h _ _ s2;exact(Eh:∀h,ak [X,Cl z.y.b B.C,oa z.y.mo z.y.b z.ub (bJ z.s) (bI z.s) (cK z.s) M.m,oz z.ub M.m] h→ak [Cl z.y.b B.C,oa z.y.mo z.y.b z.ub (bJ z.s) (bI z.s) (cK z.s) M.m,oz z.ub M.m,X] h) h s2
theorem Yz{z:Ly}{B:Bx}{M:Mo}:∀h,ak [Cl z.y.b B.C,oa z.y.mo z.y.b z.ub (bJ z.s) (bI z.s) (cK z.s) M.m,oz z.ub M.m,aN (Uz z B M)] h→ak (fQ z B M++ []) h:=λh s=>by
 have s1:ak (aN (Uz z B M):: [Cl z.y.b B.C,oa z.y.mo z.y.b z.ub (bJ z.s) (bI z.s) (cK z.s) M.m,oz z.ub M.m]) h:=by
  revert s
  generalize aN (Uz z B M)=X;intro s;exact(Eh:∀h,ak [Cl z.y.b B.C,oa z.y.mo z.y.b z.ub (bJ z.s) (bI z.s) (cK z.s) M.m,oz z.ub M.m,X] h→ak [X,Cl z.y.b B.C,oa z.y.mo z.y.b z.ub (bJ z.s) (bI z.s) (cK z.s) M.m,oz z.ub M.m] h) h s
 have s2:ak (Uz z B M++ [Cl z.y.b B.C,oa z.y.mo z.y.b z.ub (bJ z.s) (bI z.s) (cK z.s) M.m,oz z.ub M.m]) h:=by
  obtain⟨h1,h2,d,l1,l2,a,b⟩:=s1;exact eF (bZ a b d) (cJ l1 l2)
 revert s2
 clear s1 s
 revert h
 unfold fQ Uz;simp only[uP,cap];exact Eh
theorem J0 (z:Ly)(M:Mo)(hoff:M.m.on=false)(vW:0<M.C.spare):aH acw 123 [.pointer (some ⟨z.y.mo,0,none⟩)] (λ_=>True) [SH z M]
  (λv H=>v= .tuple #[]∧H= [SH z M.gO]):=
 fg λB O=>by
  have K:=O.k;have GK:=O.un;have f3:=K.toFix.l1;have hC:B.C=M.C.wA B.C.A:=O.c;have Mu:B.C.spare=M.C.spare:=by rw[hC];rfl
  have hncl:B.C.af.length=M.iW:=O.iW;have fp:=Bv z.y.b B.C;have hspl:B.C.spare<4611686018427387904:=by
   have:=An yk (λx=>by unfold yk;split<;>omega) B.C.cR;rw[K.sp];unfold Cs.D9;rw[K.pl]at this;have:=K.toFix.n1;omega
  refine ae func123 rfl ntmps123 rfl ?_;intro F _;refine aC YA ?_;unfold oa moC;refine bB ?_;refine zl T.abg (fp) .nil (λ_ le aw=>aw.nth 0 rfl) ?_;refine a8 ?_;by_cases My:0<B.C.spare
  ·refine dz ?_
   refine a8 ?_;refine aC (λh s=>aQ O (H:= []) h (Yz h s)) ?_;refine Rt0 [SH z M] results123 ?_;refine⟨rfl, ?_⟩;unfold Mo.gO;rw[if_pos (by omega)]
  exfalso;omega
theorem CF{α:Type}(f:α→Nat):∀l:List α,(∀x∈l,f x=0)→(l.map f).sum=0
 | [],_=>rfl
 |x::l,h=>by
  rw[acM,ac0,h x acF,CF f l λy hy=>h y (acC _ hy)]
theorem FV{C:Cs}(K:Ok C)(h:0<C.spare):∃i,C.fW=some i:=by
 cases hf:C.fW with
 |some i=>exact⟨i,rfl⟩
 |none=>
  exfalso;have h1:∀x∈C.cR,yk x=0:=λx hx=>by
   have:=agE.1 hf x hx;unfold yk;rw[if_pos (by simpa using this)]
  have h2:=K.sp;unfold Cs.D9 at h2;have h3:=CF yk C.cR h1;omega
theorem uv{C:Cs}(K:Ok C){c:Nat}(hc:c<C.af.length)(h:0<C.spare):∃p D,C.eA c=some (p,D)∧C.spare≤D.spare+1:=by
 unfold Cs.eA;cases (C.rw c).free.getLast? with
 |some p=>exact⟨p,_,rfl,Nat.le_succ _⟩
 |none=>
  obtain⟨i,hi⟩:=FV K h;obtain⟨p,hp⟩:=xH K (i:=i) hc;dsimp only;rw[hi];dsimp only;rw[hp];refine⟨p,_,rfl, ?_⟩;show C.spare≤C.spare-1+1;omega
structure Gv (C D:Cs):Prop where
 sz:D.af=C.af
 n:D.n=C.n
 ps:D.aq=C.aq
 sp:D.spare=C.spare
 pg:∀c,(D.rw c).cH=(C.rw c).cH
 tk:∀c,(D.rw c).gQ≤(C.rw c).gQ
theorem Gv.refl (C:Cs):Gv C C:=⟨rfl,rfl,rfl,rfl,λ_=>rfl,λ_=>acG _⟩
theorem Gv.trans{C D E:Cs}(a:Gv C D)(b:Gv D E):Gv C E:=⟨b.sz.trans a.sz,b.n.trans a.n,b.ps.trans a.ps,b.sp.trans a.sp,λc=>(b.pg c).trans (a.pg c),λc=>agC (b.tk c) (a.tk c)⟩
theorem Ih (C:Cs)(p:Nat):Gv C (C.bz p):=by
 have h:∀c,(C.bz p).rw c=C.rw c∨((C.bz p).rw c).cH=(C.rw c).cH∧((C.bz p).rw c).gQ=(C.rw c).gQ-1:=λc=>by
  by_cases g:C.cl p<C.rows.length
  ·have e:(C.bz p).rw c=_:=wI C (C.cl p) c {C.rw (C.cl p)with free:=if(C.pg (C.pn p)).lv=true then(C.rw (C.cl p)).free else(C.rw (C.cl p)).free++ [p],gQ:=(C.rw (C.cl p)).gQ-1} g
   by_cases i:c=C.cl p
   ·rw[if_pos i]at e
    right
    rw[e,i];exact⟨rfl,rfl⟩
   rw[if_neg i]at e;exact .inl e
  left
  unfold Cs.bz Cs.put Cs.rw;dsimp only;rw[List.set_eq_of_length_le (by omega)]
 refine⟨rfl,rfl,rfl,rfl,λc=> ?_,λc=> ?_⟩
 ·rcases h c with e|⟨e,_⟩
  ·rw[e]
  exact e
 rcases h c with e|⟨_,e⟩
 ·rw[e];exact acG _
 omega
structure Ev (M N:Mo):Prop where
 on:N.m.on=M.m.on
 g:Gv M.C N.C
theorem Ev.rf{M N:Mo}(h1:N.m.on=M.m.on)(h2:N.C=M.C):Ev M N:=⟨h1,by rw[h2];exact .refl _⟩
theorem Ev.trans{M N O:Mo}(a:Ev M N)(b:Ev N O):Ev M O:=⟨b.on.trans a.on,a.g.trans b.g⟩
theorem Ev.cD (M:Mo)(p:Nat):Ev M (M.cD p):=⟨rfl,Ih M.C p⟩
theorem Ev.look (M:Mo)(p:Nat):Ev M (M.look p):=by
 unfold Mo.look
 split
 ·exact Ev.cD M p
 exact .rf rfl rfl
theorem Ev.looks:∀(l:List Nat) (M:Mo),Ev M (l.foldl Mo.look M)
 | [],_=> .rf rfl rfl
 |p::l,M=>(Ev.look M p).trans (Ev.looks l (M.look p))
theorem Ev.ct:∀(f:Nat) (M:Mo),Ev M (M.ct f).2
 |0,_=> .rf rfl rfl
 |f+1,M=>by
  unfold Mo.ct
  split
  ·next x h=>
   split
   ·next p hp=>exact((Ev.rf rfl rfl:Ev M {M with x:=x.pass M.Q}).trans (Ev.look _ p)).trans (Ev.ct f _)
   exact .rf rfl rfl
  exact .rf rfl rfl
theorem Ev.cP (M:Mo)(now aF:Int):Ev M (M.cP now aF).2:=by
 unfold Mo.cP
 split
 ·exact .rf rfl rfl
 exact(Ev.looks _ M).trans (Ev.ct _ _)
structure ib (M:Mo)(j:Nat):Prop where
 on:M.m.on=false
 sp:j≤M.C.spare
theorem ib.ev{M N:Mo}{j:Nat}(A:ib M j)(E:Ev M N):ib N j:=⟨E.on.trans A.on,by rw[E.g.sp];exact A.sp⟩
theorem ib.le{M:Mo}{i j:Nat}(A:ib M j)(h:i≤j):ib M i:=⟨A.on,agC h A.sp⟩
theorem bY.mc0{B:Bx}{M:Mo}(O:bY B M):Ok M.C:=by
 have h:=O.k.wA M.C.A;rw[O.c]at h;exact h
def Mo.eU:Nat→Mo→Nat×Mo
 |0,M=>(0,M)
 |f+1,M=>if M.gF.1=true then((M.gF.2.eU f).1+1,(M.gF.2.eU f).2)else(0,M.gF.2)
def Mo.gD (M:Mo):Mo:={M with m:={M.m with st:=M.m.st+1}}
noncomputable def Mo.iy (M:Mo)(aF:Int):Nat×Mo:=if min aF 1048576<1 then(0,M)else if M.m.on=true then M.gD.eU (min aF 1048576).toNat else(0,M.gD.gO)
theorem tI{M N:Mo}{f:Nat}(h:M.gF=(true,N)):M.eU (f+1)=((N.eU f).1+1,(N.eU f).2):=by
 conv=>lhs;unfold Mo.eU
 rw[h];rfl
theorem tJ{M N:Mo}{f:Nat}(h:M.gF=(false,N)):M.eU (f+1)=(0,N):=by
 conv=>lhs;unfold Mo.eU
 rw[h];rfl
theorem bY.gD{B:Bx}{M:Mo}(O:bY B M):bY B M.gD:=
 ⟨O.c,O.k,O.t,O.ty,O.o,O.x,O.mq,O.ck,O.al,O.lv,O.ho,O.it,O.e,O.st,O.nb,O.mg,O.mo,O.bt,O.un,O.on,O.go,O.wn,O.cf,O.n,O.lg⟩
theorem U9{M N:Mo}{c r:Nat}(h:M.take c=some (r,N)):N.m=M.m:=by
 unfold Mo.take at h;cases hc:M.C.eA c with
 |none=>rw[hc]at h;cases h
 |some o=>rw[hc]at h;cases h;rfl
theorem QI{M N:Mo}{p:Nat}(h:M.shift p=some N):N.hole=none∧N.m=M.m:=by
 unfold Mo.shift at h;cases hc:M.take (M.C.cl p)with
 |none=>rw[hc]at h;cases h
 |some o=>
  rw[hc]at h;cases h;exact⟨rfl,U9 (r:=o.1) (N:=o.2) hc⟩
theorem jH (z:Ly)(M:Mo)(hh:M.hole=none)(iY:M.m.st<4611686018427387904)(A:ib M 1)(aF:Int):aH acw 79 [.pointer (some ⟨z.y.mo,0,none⟩), .int .i64 aF] (λ_=>True) [SH z M]
  (λv H=>∃n N,M.iy aF=(n,N)∧v= .int .i64 (n:Int)∧H= [SH z N]):=by
 have rA:M.iy aF=if min aF 1048576<1 then(0,M)else if M.m.on=true then M.gD.eU (min aF 1048576).toNat else(0,M.gD.gO):=rfl
 have hmle:min aF 1048576≤1048576:=ail _ _;refine ae func79 rfl ntmps79 rfl ?_;intro F _;refine bc ?_;refine Li Mi ?_;refine a8 ?_;refine au ?_;refine ao (t:=1) (v':=(.int .i64 (min aF 1048576))) rfl (by rfl) ?_;generalize min aF 1048576=m at*;refine aR ?_;by_cases h1:m<1
 ·rw[if_pos h1]at rA
  refine dz ?_ (e:=by exact decide_eq_true h1);refine bc ?_;refine Rt [SH z M] results79 ?_;exact⟨0,M,rA,rfl,rfl⟩
 rw[if_neg h1]at rA;refine cu ?_ (e:=by exact decide_eq_false h1);refine a8 ?_;refine fK λB O=>aC YA ?_;unfold oa moC;refine z6 ?_;refine aC (λh s=>aQ O.gD (H:= []) h (Yz h (z:=z) (B:=B) (M:=M.gD) s)) ?_;rcases qA:M.m.on with _|_
 ·rw[qA,if_neg (by decide)]at rA
  refine aZ ?_;refine zl T.abE (J0 z M.gD qA A.sp) (.cons .here .nil) (λ_ _ _=>trivial) ?_;refine bB ?_;refine Rt [SH z M.gD.gO] results79 ?_;exact⟨0,_,rA,rfl,rfl⟩
 rw[A.on]at qA;cases qA
theorem bY.tbl{B:Bx}{M:Mo}(O:bY B M){A:By}{V:Tb}{ty:p9}{nb mg:Nat}(d:qh B.C.A A B.W.all 0 4)(T:dq (B.C.wA A) V)(pm:V.all.Perm B.W.all)(hy:ty.ok=none→V.ob= [])(hn:V.n=B.W.n)(hmo:V.aF=B.W.aF)(IV:V.size=nb)(Eo:mg=if V.st=2 then V.ob.length-V.mv else 0)(iY:V.st=2→V.mv<V.ob.length):
  bY ⟨B.C.wA A,V,ty,B.E⟩ {M with nb:=nb,mg:=mg}:=by
 have K:=O.k;have dP:=yT d (λq hq=>O.om hq) (λq hq=>by have:=((O.om hq).bo K).2.1;omega);have same:∀q∈B.W.all,nQ A q=nQ B.C.A q:=λq h=>wo K dP (O.om h) (O.t.it q h) λj s=>by obtain⟨_,_,s3⟩:=s;omega
 have jO:∀q,Live (B.C.wA A) q↔Live B.C q:=λq=>⟨λh=>⟨⟨h.i,h.own,h.al,h.k⟩,h.tk⟩,λh=>h.wA _⟩;refine⟨?_,K.wA A,T,hy,M7 K O.o dP (λj q hq u g=>S04 g),O.x,λj q h=> ?_,O.ck,λq=>pm.mem_iff.trans (O.al q),λq=> ?_,λq h g=>O.ho q h (pm.mem_iff.1 g),λq h=>(same q (pm.mem_iff.1 h)).trans (O.it q (pm.mem_iff.1 h)),O.e.trans (kT pm.symm),iY,IV,Eo,hmo.trans O.mo, ?_,O.un,O.on,O.go,O.wn,O.cf,hn.trans O.n,λq h=>O.lg q (pm.mem_iff.1 h)⟩
 ·show B.C.wA A=M.C.wA A
  conv=>lhs;rw[O.c]
  rfl
 ·show dE A q<16
  rw[show dE A q=dE B.C.A q from congrArg I3.dB (same q (O.sO h))];exact O.mq j q h
 ·show Live (B.C.wA A) q↔q∈V.all∨_
  rw[jO,pm.mem_iff];exact O.lv q
 show M.v.gr=_;rw[O.bt];exact(o4 _ pm).symm
def Mo.yK (M:Mo)(k:Nat):Mo:={M with mg:=M.mg-min k M.mg}
theorem bY.tst{B:Bx}{M:Mo}(O:bY B M){k:Nat}{A:By}{V:Tb}{ty:p9}(h2:B.W.st=2)(hy:ty.ok=none→V.ob= [])(S:Stp B.C B.W k A V):bY ⟨B.C.wA A,V,ty,B.E⟩ (M.yK k):=by
 have bX:=O.st h2;have Eo:=O.mg;rw[if_pos h2]at Eo;have hz:V.ob.length-V.mv=if B.W.mv+k<B.W.ob.length then M.mg-min k M.mg else V.ob.length-V.mv:=by
  split
  ·next g=>obtain⟨_,e1,e2⟩:=S.on g;rw[e1,e2,Eo];omega
  rfl
 refine O.tbl (nb:=M.nb) (mg:=M.mg-min k M.mg) S.d S.o S.p hy S.n S.aF (S.size.trans O.nb) ?_ ?_
 ·by_cases g:B.W.mv+k<B.W.ob.length
  ·obtain⟨e0,e1,e2⟩:=S.on g
   rw[if_pos e0,e1,e2,Eo];omega
  have e0:=S.off (by omega);rw[if_neg (by omega),Eo];omega
 intro e;by_cases g:B.W.mv+k<B.W.ob.length
 ·obtain⟨e0,e1,e2⟩:=S.on g
  rw[e1,e2];exact g
 have e0:=S.off (by omega);omega
theorem Jr{B:Bx}{M:Mo}(O:bY B M)(z:Ly)(k:Nat)(hk:k≤1099511627776):
  aH acw 78 [.pointer (some ⟨z.y.t,0,none⟩), .int .i64 (k:Int)] (λ_=>True) (Cl z.y.b B.C::me z.y.t z.y.b B.W B.ty)
   (λv H=>v= .int .i64 ((min k M.mg:Nat):Int)∧∃A V ty,H=Cl z.y.b (B.C.wA A)::me z.y.t z.y.b V ty∧bY ⟨B.C.wA A,V,ty,B.E⟩ (M.yK k)):=by
 rcases O.t.st with⟨h0,_⟩|⟨h2,_,_⟩
 ·have hm0:=O.st0.2 h0
  have h:=(Ju z.y.t z.y.b B.C O.k B.W B.ty h0 k).fr (H:=Cl z.y.b B.C::me z.y.t z.y.b B.W B.ty) (R:=Cl z.y.b B.C::me z.y.t z.y.b B.W B.ty) (nC [] _) (λk aw=>aw.nth 1 rfl);refine h.out ?_;rintro v H' ⟨H0,⟨rfl,rfl⟩,rfl⟩;refine⟨_,⟨by rw[hm0,aiy];rfl,B.C.A,B.W,B.ty,rfl, ?_⟩,λ_ s=>s⟩;have:M.yK k=M:=by unfold Mo.yK;rw[hm0,aiy];cases M;simp_all
  rw[this];exact O
 have bX:=O.st h2;have Eo:=O.mg;rw[if_pos h2]at Eo;obtain⟨ok,pA⟩:∃ok,B.ty.ok=some ok:=by
  cases h:B.ty.ok with
  |none=>have:=O.ty h;rw[this]at bX;simp at bX
  |some x=>exact⟨x,rfl⟩
 have hty:B.ty=⟨B.ty.nk,some ok⟩:=by rw[←pA]
 have h:=Js z.y.t z.y.b B.C O.k B.W B.ty.nk ok O.t h2 bX k hk;rw[←hty]at h;refine h.out ?_;rintro v H' ⟨rfl,A,V,o',rfl,hy,S⟩;exact⟨_,⟨by rw[Eo],A,V,⟨B.ty.nk,o'⟩,rfl,O.tst h2 hy S⟩,λ_ s=>s⟩
def Mo.bj (M:Mo)(t:Mt):Mo:={M with v:={M.v with mt:=t}}
theorem bY.bj{B:Bx}{M:Mo}(O:bY B M)(t:Mt):bY B (M.bj t):=
 ⟨O.c,O.k,O.t,O.ty,O.o,O.x,O.mq,O.ck,O.al,O.lv,O.ho,O.it,O.e,O.st,O.nb,O.mg,O.mo,O.bt,O.un,O.on,O.go,O.wn,O.cf,O.n,O.lg⟩
theorem H2 (M:Mo)(p:Nat):(M.look p).hole=M.hole∧(M.look p).m=M.m∧(M.look p).v.p=M.v.p∧(M.look p).v.mt=M.v.mt∧(M.look p).v.c=M.v.c∧(M.look p).v.aM=M.v.aM∧(M.look p).tn=M.tn:=by
 unfold Mo.look
 split<;>exact⟨rfl,rfl,rfl,rfl,rfl,rfl,rfl⟩
theorem CY:∀(l:List Nat) (M:Mo),(l.foldl Mo.look M).hole=M.hole∧(l.foldl Mo.look M).m=M.m∧(l.foldl Mo.look M).v.p=M.v.p∧(l.foldl Mo.look M).v.mt=M.v.mt∧(l.foldl Mo.look M).v.c=M.v.c∧(l.foldl Mo.look M).v.aM=M.v.aM∧(l.foldl Mo.look M).tn=M.tn
 | [],M=>⟨rfl,rfl,rfl,rfl,rfl,rfl,rfl⟩
 |p::l,M=>by
  obtain⟨a1,a2,a3,a4,a5,a6,a7⟩:=H2 M p;obtain⟨b1,b2,b3,b4,b5,b6,b7⟩:=CY l (M.look p);rw[adm];exact⟨b1.trans a1,b2.trans a2,b3.trans a3,b4.trans a4,b5.trans a5,b6.trans a6,b7.trans a7⟩
theorem zN:∀(f:Nat) (M:Mo),(M.ct f).2.hole=M.hole∧(M.ct f).2.m=M.m∧(M.ct f).2.v.p=M.v.p∧(M.ct f).2.v.mt=M.v.mt∧(M.ct f).2.v.c=M.v.c∧(M.ct f).2.v.aM=M.v.aM∧(M.ct f).2.tn=M.tn
 |0,M=>⟨rfl,rfl,rfl,rfl,rfl,rfl,rfl⟩
 |f+1,M=>by
  rcases hf:M.x.find M.iW M.Q with⟨_|_,x⟩
  ·rw[pX hf];exact⟨rfl,rfl,rfl,rfl,rfl,rfl,rfl⟩
  cases hx:x.nx with
  |none=>
   unfold Mo.ct;rw[hf];dsimp only;rw[hx];exact⟨rfl,rfl,rfl,rfl,rfl,rfl,rfl⟩
  |some p=>
   rw[pW hf hx];obtain⟨a1,a2,a3,a4,a5,a6,a7⟩:=H2 {M with x:=x.pass M.Q} p;obtain⟨b1,b2,b3,b4,b5,b6,b7⟩:=zN f (({M with x:=x.pass M.Q}:Mo).look p);exact⟨b1.trans a1,b2.trans a2,b3.trans a3,b4.trans a4,b5.trans a5,b6.trans a6,b7.trans a7⟩
theorem mO (M:Mo)(now aF:Int):(M.cP now aF).2.hole=M.hole∧(M.cP now aF).2.m=M.m∧(M.cP now aF).2.v.p=M.v.p∧(M.cP now aF).2.v.mt=M.v.mt∧(M.cP now aF).2.v.c=M.v.c∧(M.cP now aF).2.v.aM=M.v.aM∧(M.cP now aF).2.tn=M.tn:=by
 unfold Mo.cP
 split
 ·exact⟨rfl,rfl,rfl,rfl,rfl,rfl,rfl⟩
 unfold Mo.qW;obtain⟨a1,a2,a3,a4,a5,a6,a7⟩:=CY (M.jR now (min aF 1048576)) M;obtain⟨b1,b2,b3,b4,b5,b6,b7⟩:=zN ((min aF 1048576).toNat-(M.jR now (min aF 1048576)).length) ((M.jR now (min aF 1048576)).foldl Mo.look M);exact⟨b1.trans a1,b2.trans a2,b3.trans a3,b4.trans a4,b5.trans a5,b6.trans a6,b7.trans a7⟩
structure BI (M N:Mo):Prop where
 h:M.hole=none→N.hole=none
 p:N.v.p=M.v.p
 mt:N.v.mt=M.v.mt
 c:N.v.c=M.v.c
 aM:N.v.aM=M.v.aM
 tn:N.tn=M.tn
 k:N.k=M.k
 w:N.jz=M.jz
theorem BI.refl (M:Mo):BI M M:=⟨id,rfl,rfl,rfl,rfl,rfl,rfl,rfl⟩
theorem BI.trans{M N O:Mo}(a:BI M N)(b:BI N O):BI M O:=⟨λh=>b.h (a.h h),b.p.trans a.p,b.mt.trans a.mt,b.c.trans a.c,b.aM.trans a.aM,b.tn.trans a.tn,b.k.trans a.k,b.w.trans a.w⟩
theorem Tq (M:Mo)(p:Nat):BI M (M.cD p):=⟨id,rfl,rfl,rfl,rfl,rfl,rfl,rfl⟩
theorem JD{M N:Mo}{p:Nat}(h:M.shift p=some N):BI M N:=by
 unfold Mo.shift at h;cases hc:M.take (M.C.cl p)with
 |none=>rw[hc]at h;cases h
 |some o=>
  rw[hc]at h;cases h;unfold Mo.take at hc;cases hd:M.C.eA (M.C.cl p)with
  |none=>rw[hd]at hc;cases hc
  |some q=>rw[hd]at hc;cases hc;exact⟨λ_=>rfl,rfl,rfl,rfl,rfl,rfl,rfl,rfl⟩
theorem zo{M N:Mo}{r:Bool}(h:M.gF=(r,N)):BI M N∧N.m.st=M.m.st:=by
 unfold Mo.gF at h
 split at h
 ·cases h;exact⟨⟨id,rfl,rfl,rfl,rfl,rfl,rfl,rfl⟩,rfl⟩
 split at h
 ·cases h;exact⟨Tq M _,rfl⟩
 split at h
 ·next hs=>cases h;exact⟨JD hs,by rw[(QI hs).2]⟩
 cases h;exact⟨⟨id,rfl,rfl,rfl,rfl,rfl,rfl,rfl⟩,rfl⟩
theorem xY:∀(f:Nat) (M:Mo),BI M (M.eU f).2∧(M.eU f).2.m.st=M.m.st
 |0,M=>⟨BI.refl M,rfl⟩
 |f+1,M=>by
  rcases hm:M.gF with⟨_|_,N⟩
  ·rw[tJ hm];exact zo hm
  rw[tI hm];obtain⟨a,b⟩:=zo hm;obtain⟨c,d⟩:=xY f N;exact⟨a.trans c,d.trans b⟩
theorem Gf (M:Mo):BI M M.gO∧M.gO.m.st=M.m.st:=by
 unfold Mo.gO
 split
 ·exact⟨BI.refl M,rfl⟩
 split
 ·exact⟨BI.refl M,rfl⟩
 split
 ·exact⟨BI.refl M,rfl⟩
 exact⟨⟨id,rfl,rfl,rfl,rfl,rfl,rfl,rfl⟩,rfl⟩
theorem gA (M:Mo)(aF:Int):BI M (M.iy aF).2∧(M.iy aF).2.m.st≤M.m.st+1:=by
 unfold Mo.iy
 split
 ·exact⟨BI.refl M,Nat.le_succ _⟩
 have t:BI M M.gD:=⟨id,rfl,rfl,rfl,rfl,rfl,rfl,rfl⟩
 split
 ·obtain⟨a,b⟩:=xY (min aF 1048576).toNat M.gD
  exact⟨t.trans a,by rw[b];exact acG _⟩
 obtain⟨a,b⟩:=Gf M.gD;exact⟨t.trans a,by show M.gD.gO.m.st≤_;rw[b];exact acG _⟩
structure uL (p:ua):Prop where
 b:0≤p.b∧p.b≤1048576
 l:0≤p.l∧p.l≤1048576
 c:0≤p.c∧p.c≤1048576
 m:0≤p.m∧p.m≤1048576
def Mo.fe (M:Mo):Mo:=(M.yK M.v.p.b.toNat).bj {M.v.mt with bu:=dy (M.v.mt.bu+(min M.v.p.b.toNat M.mg:Nat))}
noncomputable def Mo.jf (M:Mo):Mo:=(M.cP M.k.now M.v.p.c).2.bj {M.v.mt with cr:=dy (M.v.mt.cr+((M.cP M.k.now M.v.p.c).1:Nat))}
noncomputable def Mo.j5 (M:Mo):Mo:=(M.iy M.v.p.m).2.bj {M.v.mt with mv:=dy (M.v.mt.mv+((M.iy M.v.p.m).1:Nat))}
noncomputable def Mo.beside (M:Mo):Mo:=M.fe.jf.j5
theorem Xb (M:Mo):M.jf.hole=M.hole∧M.jf.m=M.m∧M.jf.v.p=M.v.p:=by
 obtain⟨a1,a2,a3,a4,a5,a6,a7⟩:=mO M M.k.now M.v.p.c;exact⟨a1,a2,a3⟩
theorem ib.iy{M:Mo}(A:ib M 1)(aF:Int):Ev M (M.iy aF).2:=by
 have h:=A.sp;have T:Ev M M.gD:= .rf rfl rfl;unfold Mo.iy
 split
 ·exact .rf rfl rfl
 rw[if_neg (by rw[A.on];decide)];unfold Mo.gO;rw[if_pos (show 0<M.gD.C.spare from(by show 0<M.C.spare;omega))];exact T
theorem Mg (uO:oU)(z:Ly)(M:Mo)(hh:M.hole=none)(iY:M.m.st<4611686018427387904)(MS:uL M.v.p)(hA:ib M 1):aH acw 37 [.pointer (some ⟨z.s,0,none⟩)] (λ_=>True) [SH z M]
  (λv H=>v= .tuple #[]∧H= [SH z M.beside]):=by
 refine ae func37 rfl ntmps37 rfl ?_;intro F _;refine fK λB O=> ?_;have ts:=Jr O z M.v.p.b.toNat (by have:=MS.b;omega);rw[show((M.v.p.b.toNat:Nat):Int)=M.v.p.b by have:=MS.b;omega]at ts;unfold fQ gY k8 gJ pV iZ;refine bd ?_;refine au ?_;refine gK 20 T.mix (.cons (.there (.there (.there (.there (.there (.there (.there (.there .here)))))))) .nil) λF1 iT cj aI=> ?_;obtain⟨q1,_⟩:=cj;refine nj ?_;refine Tp (oC T.Yi rfl rfl (ts) (.cons .here (.cons .here (.cons .here (.cons .here .nil)))) (λ_ _ _=>trivial) ?_);rintro v H' ⟨rfl,A,V,ty,rfl,O1⟩;refine bd ?_;have O2:=O1.bj {M.v.mt with bu:=dy (M.v.mt.bu+(min M.v.p.b.toNat M.mg:Nat))};refine aR ?_;refine gd aI ?_;refine a8 ?_;refine Hh (H':= [Cl z.y.b (B.C.wA A),ag z.y.t 145 (fA z.y.b V ty),ag ty.nk 163 (aJ (aA V.nb)),jV ty.ok 163 (aJ (aA V.ob)),ag z.y.q 139 (fP z.y.b z.qb B.C.af.length),ag z.qb 327 (M.Q.flatMap (eH B.C)),gZ z.y.cr z.y.q z.y.wh B.C.af.length (bJ z.s) (bI z.s) B.C M.x,Wl z.y.wh B.E M.tn,ag z.s 111 [.pointer (some ⟨z.y.b,0,none⟩), .pointer (some ⟨z.y.ck,0,none⟩), .pointer (some ⟨z.y.t,0,none⟩), .pointer (some ⟨z.y.lu,0,none⟩), .pointer (some ⟨z.y.wh,0,none⟩), .pointer (some ⟨z.y.cr,0,none⟩), .pointer (some ⟨z.y.mo,0,none⟩), .pointer (some ⟨z.y.q,0,none⟩), .int .i64 M.v.c.aq, .int .i64 M.v.c.cH, .int .i64 M.v.c.fac, .int .i64 M.v.c.bO, .int .i64 M.v.c.lim, .int .i64 M.v.c.hot, .int .i64 M.v.c.warm, .int .i64 M.v.p.b, .int .i64 M.v.p.l, .int .i64 M.v.p.c, .int .i64 M.v.p.m, .int .u64 (M.v.aM:Int), .int .i64 (M.v.gr:Int), .int .i64 M.v.mt.dr, .int .i64 M.v.mt.re, .int .i64 (IntKind.i64.wrap (M.v.mt.bu+((min M.v.p.b.toNat M.mg:Nat):Int))), .int .i64 M.v.mt.li, .int .i64 M.v.mt.lo, .int .i64 M.v.mt.cr, .int .i64 M.v.mt.mv, .slice M.v.wa M.v.wn M.v.wc],lD z.y.ck M.k,jN z.y.lu z.y.b z.y.q z.hot z.warm,oa z.y.mo z.y.b z.ub (bJ z.s) (bI z.s) (cK z.s) M.m,oz z.ub M.m,lQ M]) ?_;refine aC (aQ O2 (H:= [])) ?_;have Xo:M.fe.v.p=M.v.p:=rfl;have hh1:M.fe.hole=none:=hh;have D1:M.fe.m.st=M.m.st:=rfl;have TX:ib M.fe.jf 1:=hA.ev (((Ev.rf rfl rfl:Ev M M.fe).trans (Ev.cP M.fe M.fe.k.now M.fe.v.p.c)).trans (.rf rfl rfl));change G _ _ _ _ _ [SH z M.fe];rw[show M.beside=M.fe.jf.j5 from rfl];generalize M.fe=M1 at*;refine fK λB3 O3=> ?_;unfold fQ gY k8 gJ pV iZ;refine bd ?_;refine au ?_;refine gK 16 T.mix (.cons (.there (.there (.there (.there (.there (.there (.there (.there .here)))))))) .nil) λF2 yi ez dX=> ?_;obtain⟨q1,_⟩:=ez;refine bw ?_;refine Tp (oC T.iz rfl rfl (iS z.y.ck M1.k) .nil (λ_ le aw=>aw.nth 8 rfl) ?_);rintro v H' ⟨rfl,rfl⟩;refine bd ?_;refine bc ?_;refine gd dX ?_;refine bd ?_;refine aC (λh s=>aQ O3 (H:= []) h (by revert s;revert h;unfold fQ gY k8 gJ pV iZ;simp only[uP,cap];exact Eh)) ?_;refine Tp (oC T.Yo rfl rfl (Dr uO z M1 M1.k.now M1.v.p.c) (.cons .here .nil) (λ_ _ _=>trivial) ?_);rintro v H' ⟨n1,t1,M2,GR,rfl,rfl⟩;refine bd ?_;obtain⟨c1,c2,c3,c4,c5,c6,c7⟩:=mO M1 M1.k.now M1.v.p.c;have bS:M1.jf=M2.bj {M1.v.mt with cr:=dy (M1.v.mt.cr+(n1:Nat))}:=by unfold Mo.jf;rw[GR]
 rw[GR]at c1 c2 c3 c4;dsimp only at c1 c2 c3 c4;refine bB ?_;refine fK λB4 O4=> ?_;have O5:=O4.bj {M1.v.mt with cr:=dy (M1.v.mt.cr+(n1:Nat))};unfold fQ gY k8 gJ pV iZ;rw[c4];refine bd ?_;refine gR ?_;refine Hh (H':=mZ z B4.C B4.W B4.ty B4.C.af.length (M2.Q.flatMap (eH B4.C)) M2.x B4.E M2.tn (M2.v,[.int .u64 (M2.v.aM:Int), .int .i64 (M2.v.gr:Int), .int .i64 M1.v.mt.dr, .int .i64 M1.v.mt.re, .int .i64 M1.v.mt.bu, .int .i64 M1.v.mt.li, .int .i64 M1.v.mt.lo, .int .i64 (IntKind.i64.wrap (M1.v.mt.cr+(n1:Int))), .int .i64 M1.v.mt.mv, .slice M2.v.wa M2.v.wn M2.v.wc]) M2.k M2.m M2 []) ?_;unfold mZ yg;refine aC (aQ O5 (H:= [])) ?_;obtain⟨d1,d2,d3⟩:=Xb M1;rw[Xo.symm]at MS;rw[hh1]at d1;rw[←bS];have zV:M1.jf.m.st<4611686018427387904:=by rw[d2,D1];exact iY
 clear bS O5
 generalize M1.jf=M3 at*;refine fK λB6 O6=> ?_;unfold fQ gY k8 gJ pV iZ;refine bd ?_;refine wu T.mix .nil λF3 MN qH fM=> ?_;refine Dt 0 rfl Mv ?_;refine Dt 1 rfl Nc ?_;refine Dt 2 rfl (Fa T.fS) ?_;refine Dt 3 rfl (Fa T.gB) ?_;refine Dt 5 rfl Mv ?_;refine Dt 6 rfl Nc ?_;refine Dt 7 rfl (Fa T.ki) ?_;refine Dt 8 rfl (Fa T.zG) ?_;refine Dt 10 rfl Mv ?_;refine Dt 11 rfl Nc ?_;refine Dt 12 rfl (Fa T.zF) ?_;refine Dt 13 rfl (Fa T.Db) ?_;refine D3 4 9 14 ?_ ?_ ?_
 ·refine Do rfl (oL T.bR ?_)
  refine ay ?_;refine D2 9 14 ?_ ?_
  ·refine Do rfl (oL T.sZ ?_)
   refine ay ?_;refine Dn 14 ?_;refine Do rfl (oL T.bR ?_);refine ay ?_;refine aC (λh s=>aQ O6 (H:= []) h (by revert s;revert h;unfold fQ gY k8 gJ pV iZ;simp only[uP,cap];exact Eh)) ?_;refine Dn 15 ?_;refine Do rfl (oC T.um rfl rfl (jH z M3 d1 zV TX M3.v.p.m) (.cons .here .nil) (λ_ _ _=>trivial) ?_);rintro v H' ⟨n2,M4,rA,rfl,rfl⟩;refine bd ?_;have og:=(gA M3 M3.v.p.m).1.mt;rw[rA]at og;change M4.v.mt=M3.v.mt at og;refine fK λB7 O7=> ?_;unfold fQ gY k8 gJ pV iZ;rw[og];refine bd ?_;refine ay ?_;refine Dt 16 rfl Im ?_;refine Dt 17 rfl Nc ?_;refine Dt 18 rfl (Fa T.fS) ?_;refine Dt 19 rfl (Fa T.gB) ?_;refine Dn 20 ?_;refine Do rfl (oS T.bR ?_);refine ay ?_;refine bC (by kernel_rfl) fM ?_;have bP:M3.j5=M4.bj {M3.v.mt with mv:=dy (M3.v.mt.mv+(n2:Nat))}:=by unfold Mo.j5;rw[rA]
   refine Hh (H':=mZ z B7.C B7.W B7.ty B7.C.af.length (M4.Q.flatMap (eH B7.C)) M4.x B7.E M4.tn (M4.v,[.int .u64 (M4.v.aM:Int), .int .i64 (M4.v.gr:Int), .int .i64 M3.v.mt.dr, .int .i64 M3.v.mt.re, .int .i64 M3.v.mt.bu, .int .i64 M3.v.mt.li, .int .i64 M3.v.mt.lo, .int .i64 M3.v.mt.cr, .int .i64 (IntKind.i64.wrap (M3.v.mt.mv+(n2:Int))), .slice M4.v.wa M4.v.wn M4.v.wc]) M4.k M4.m M4 []) ?_;unfold mZ yg;refine aC (aQ (O7.bj {M3.v.mt with mv:=dy (M3.v.mt.mv+(n2:Nat))}) (H:= [])) ?_;refine jM [SH z (M4.bj {M3.v.mt with mv:=dy (M3.v.mt.mv+(n2:Nat))})] results37 ?_;exact⟨rfl,by rw[bP]⟩
  refine Do rfl (oL T.bR ?_);refine ay ?_;refine Dn 9 ?_;refine Do rfl (oL T.sZ ?_);refine ay ?_;refine aC (λh s=>aQ O6 (H:= []) h (by revert s;revert h;unfold fQ gY k8 gJ pV iZ;simp only[uP,cap];exact Eh)) ?_;refine Dn 15 ?_;refine Do rfl (oC T.um rfl rfl (jH z M3 d1 zV TX M3.v.p.m) (.cons .here .nil) (λ_ _ _=>trivial) ?_);rintro v H' ⟨n2,M4,rA,rfl,rfl⟩;refine bd ?_;have og:=(gA M3 M3.v.p.m).1.mt;rw[rA]at og;change M4.v.mt=M3.v.mt at og;refine fK λB7 O7=> ?_;unfold fQ gY k8 gJ pV iZ;rw[og];refine bd ?_;refine ay ?_;refine Dt 16 rfl Im ?_;refine Dt 17 rfl Nc ?_;refine Dt 18 rfl (Fa T.fS) ?_;refine Dt 19 rfl (Fa T.gB) ?_;refine Dn 20 ?_;refine Do rfl (oS T.bR ?_);refine ay ?_;refine bC (by kernel_rfl) fM ?_;have bP:M3.j5=M4.bj {M3.v.mt with mv:=dy (M3.v.mt.mv+(n2:Nat))}:=by unfold Mo.j5;rw[rA]
  refine Hh (H':=mZ z B7.C B7.W B7.ty B7.C.af.length (M4.Q.flatMap (eH B7.C)) M4.x B7.E M4.tn (M4.v,[.int .u64 (M4.v.aM:Int), .int .i64 (M4.v.gr:Int), .int .i64 M3.v.mt.dr, .int .i64 M3.v.mt.re, .int .i64 M3.v.mt.bu, .int .i64 M3.v.mt.li, .int .i64 M3.v.mt.lo, .int .i64 M3.v.mt.cr, .int .i64 (IntKind.i64.wrap (M3.v.mt.mv+(n2:Int))), .slice M4.v.wa M4.v.wn M4.v.wc]) M4.k M4.m M4 []) ?_;unfold mZ yg;refine aC (aQ (O7.bj {M3.v.mt with mv:=dy (M3.v.mt.mv+(n2:Nat))}) (H:= [])) ?_;refine jM [SH z (M4.bj {M3.v.mt with mv:=dy (M3.v.mt.mv+(n2:Nat))})] results37 ?_;exact⟨rfl,by rw[bP]⟩
 ·refine Do rfl (oL T.sZ ?_)
  refine ay ?_;refine D2 4 14 ?_ ?_
  ·refine Do rfl (oL T.bR ?_)
   refine ay ?_;refine Dn 14 ?_;refine Do rfl (oL T.bR ?_);refine ay ?_;refine aC (λh s=>aQ O6 (H:= []) h (by revert s;revert h;unfold fQ gY k8 gJ pV iZ;simp only[uP,cap];exact Eh)) ?_;refine Dn 15 ?_;refine Do rfl (oC T.um rfl rfl (jH z M3 d1 zV TX M3.v.p.m) (.cons .here .nil) (λ_ _ _=>trivial) ?_);rintro v H' ⟨n2,M4,rA,rfl,rfl⟩;refine bd ?_;have og:=(gA M3 M3.v.p.m).1.mt;rw[rA]at og;change M4.v.mt=M3.v.mt at og;refine fK λB7 O7=> ?_;unfold fQ gY k8 gJ pV iZ;rw[og];refine bd ?_;refine ay ?_;refine Dt 16 rfl Im ?_;refine Dt 17 rfl Nc ?_;refine Dt 18 rfl (Fa T.fS) ?_;refine Dt 19 rfl (Fa T.gB) ?_;refine Dn 20 ?_;refine Do rfl (oS T.bR ?_);refine ay ?_;refine bC (by kernel_rfl) fM ?_;have bP:M3.j5=M4.bj {M3.v.mt with mv:=dy (M3.v.mt.mv+(n2:Nat))}:=by unfold Mo.j5;rw[rA]
   refine Hh (H':=mZ z B7.C B7.W B7.ty B7.C.af.length (M4.Q.flatMap (eH B7.C)) M4.x B7.E M4.tn (M4.v,[.int .u64 (M4.v.aM:Int), .int .i64 (M4.v.gr:Int), .int .i64 M3.v.mt.dr, .int .i64 M3.v.mt.re, .int .i64 M3.v.mt.bu, .int .i64 M3.v.mt.li, .int .i64 M3.v.mt.lo, .int .i64 M3.v.mt.cr, .int .i64 (IntKind.i64.wrap (M3.v.mt.mv+(n2:Int))), .slice M4.v.wa M4.v.wn M4.v.wc]) M4.k M4.m M4 []) ?_;unfold mZ yg;refine aC (aQ (O7.bj {M3.v.mt with mv:=dy (M3.v.mt.mv+(n2:Nat))}) (H:= [])) ?_;refine jM [SH z (M4.bj {M3.v.mt with mv:=dy (M3.v.mt.mv+(n2:Nat))})] results37 ?_;exact⟨rfl,by rw[bP]⟩
  refine Do rfl (oL T.bR ?_);refine ay ?_;refine D2 4 15 ?_ ?_
  ·refine Do rfl (oL T.bR ?_)
   refine ay ?_;refine aC (λh s=>aQ O6 (H:= []) h (by revert s;revert h;unfold fQ gY k8 gJ pV iZ;simp only[uP,cap];exact Eh)) ?_;refine Dn 15 ?_;refine Do rfl (oC T.um rfl rfl (jH z M3 d1 zV TX M3.v.p.m) (.cons .here .nil) (λ_ _ _=>trivial) ?_);rintro v H' ⟨n2,M4,rA,rfl,rfl⟩;refine bd ?_;have og:=(gA M3 M3.v.p.m).1.mt;rw[rA]at og;change M4.v.mt=M3.v.mt at og;refine fK λB7 O7=> ?_;unfold fQ gY k8 gJ pV iZ;rw[og];refine bd ?_;refine ay ?_;refine Dt 16 rfl Im ?_;refine Dt 17 rfl Nc ?_;refine Dt 18 rfl (Fa T.fS) ?_;refine Dt 19 rfl (Fa T.gB) ?_;refine Dn 20 ?_;refine Do rfl (oS T.bR ?_);refine ay ?_;refine bC (by kernel_rfl) fM ?_;have bP:M3.j5=M4.bj {M3.v.mt with mv:=dy (M3.v.mt.mv+(n2:Nat))}:=by unfold Mo.j5;rw[rA]
   refine Hh (H':=mZ z B7.C B7.W B7.ty B7.C.af.length (M4.Q.flatMap (eH B7.C)) M4.x B7.E M4.tn (M4.v,[.int .u64 (M4.v.aM:Int), .int .i64 (M4.v.gr:Int), .int .i64 M3.v.mt.dr, .int .i64 M3.v.mt.re, .int .i64 M3.v.mt.bu, .int .i64 M3.v.mt.li, .int .i64 M3.v.mt.lo, .int .i64 M3.v.mt.cr, .int .i64 (IntKind.i64.wrap (M3.v.mt.mv+(n2:Int))), .slice M4.v.wa M4.v.wn M4.v.wc]) M4.k M4.m M4 []) ?_;unfold mZ yg;refine aC (aQ (O7.bj {M3.v.mt with mv:=dy (M3.v.mt.mv+(n2:Nat))}) (H:= [])) ?_;refine jM [SH z (M4.bj {M3.v.mt with mv:=dy (M3.v.mt.mv+(n2:Nat))})] results37 ?_;exact⟨rfl,by rw[bP]⟩
  refine aC (λh s=>aQ O6 (H:= []) h (by revert s;revert h;unfold fQ gY k8 gJ pV iZ;simp only[uP,cap];exact Eh)) ?_;refine Do rfl (oC T.um rfl rfl (jH z M3 d1 zV TX M3.v.p.m) (.cons .here .nil) (λ_ _ _=>trivial) ?_);rintro v H' ⟨n2,M4,rA,rfl,rfl⟩;refine bd ?_;have og:=(gA M3 M3.v.p.m).1.mt;rw[rA]at og;change M4.v.mt=M3.v.mt at og;refine fK λB7 O7=> ?_;unfold fQ gY k8 gJ pV iZ;rw[og];refine bd ?_;refine ay ?_;refine Dn 4 ?_;refine Do rfl (oL T.bR ?_);refine ay ?_;refine Dt 16 rfl Im ?_;refine Dt 17 rfl Nc ?_;refine Dt 18 rfl (Fa T.fS) ?_;refine Dt 19 rfl (Fa T.gB) ?_;refine Dn 20 ?_;refine Do rfl (oS T.bR ?_);refine ay ?_;refine bC (by kernel_rfl) fM ?_;have bP:M3.j5=M4.bj {M3.v.mt with mv:=dy (M3.v.mt.mv+(n2:Nat))}:=by unfold Mo.j5;rw[rA]
  refine Hh (H':=mZ z B7.C B7.W B7.ty B7.C.af.length (M4.Q.flatMap (eH B7.C)) M4.x B7.E M4.tn (M4.v,[.int .u64 (M4.v.aM:Int), .int .i64 (M4.v.gr:Int), .int .i64 M3.v.mt.dr, .int .i64 M3.v.mt.re, .int .i64 M3.v.mt.bu, .int .i64 M3.v.mt.li, .int .i64 M3.v.mt.lo, .int .i64 M3.v.mt.cr, .int .i64 (IntKind.i64.wrap (M3.v.mt.mv+(n2:Int))), .slice M4.v.wa M4.v.wn M4.v.wc]) M4.k M4.m M4 []) ?_;unfold mZ yg;refine aC (aQ (O7.bj {M3.v.mt with mv:=dy (M3.v.mt.mv+(n2:Nat))}) (H:= [])) ?_;refine jM [SH z (M4.bj {M3.v.mt with mv:=dy (M3.v.mt.mv+(n2:Nat))})] results37 ?_;exact⟨rfl,by rw[bP]⟩
 refine Do rfl (oL T.bR ?_);refine ay ?_;refine D2 4 9 ?_ ?_
 ·refine Do rfl (oL T.bR ?_)
  refine ay ?_;refine Dn 9 ?_;refine Do rfl (oL T.sZ ?_);refine ay ?_;refine aC (λh s=>aQ O6 (H:= []) h (by revert s;revert h;unfold fQ gY k8 gJ pV iZ;simp only[uP,cap];exact Eh)) ?_;refine Dn 15 ?_;refine Do rfl (oC T.um rfl rfl (jH z M3 d1 zV TX M3.v.p.m) (.cons .here .nil) (λ_ _ _=>trivial) ?_);rintro v H' ⟨n2,M4,rA,rfl,rfl⟩;refine bd ?_;have og:=(gA M3 M3.v.p.m).1.mt;rw[rA]at og;change M4.v.mt=M3.v.mt at og;refine fK λB7 O7=> ?_;unfold fQ gY k8 gJ pV iZ;rw[og];refine bd ?_;refine ay ?_;refine Dt 16 rfl Im ?_;refine Dt 17 rfl Nc ?_;refine Dt 18 rfl (Fa T.fS) ?_;refine Dt 19 rfl (Fa T.gB) ?_;refine Dn 20 ?_;refine Do rfl (oS T.bR ?_);refine ay ?_;refine bC (by kernel_rfl) fM ?_;have bP:M3.j5=M4.bj {M3.v.mt with mv:=dy (M3.v.mt.mv+(n2:Nat))}:=by unfold Mo.j5;rw[rA]
  refine Hh (H':=mZ z B7.C B7.W B7.ty B7.C.af.length (M4.Q.flatMap (eH B7.C)) M4.x B7.E M4.tn (M4.v,[.int .u64 (M4.v.aM:Int), .int .i64 (M4.v.gr:Int), .int .i64 M3.v.mt.dr, .int .i64 M3.v.mt.re, .int .i64 M3.v.mt.bu, .int .i64 M3.v.mt.li, .int .i64 M3.v.mt.lo, .int .i64 M3.v.mt.cr, .int .i64 (IntKind.i64.wrap (M3.v.mt.mv+(n2:Int))), .slice M4.v.wa M4.v.wn M4.v.wc]) M4.k M4.m M4 []) ?_;unfold mZ yg;refine aC (aQ (O7.bj {M3.v.mt with mv:=dy (M3.v.mt.mv+(n2:Nat))}) (H:= [])) ?_;refine jM [SH z (M4.bj {M3.v.mt with mv:=dy (M3.v.mt.mv+(n2:Nat))})] results37 ?_;exact⟨rfl,by rw[bP]⟩
 refine Do rfl (oL T.sZ ?_);refine ay ?_;refine D2 4 15 ?_ ?_
 ·refine Do rfl (oL T.bR ?_)
  refine ay ?_;refine aC (λh s=>aQ O6 (H:= []) h (by revert s;revert h;unfold fQ gY k8 gJ pV iZ;simp only[uP,cap];exact Eh)) ?_;refine Dn 15 ?_;refine Do rfl (oC T.um rfl rfl (jH z M3 d1 zV TX M3.v.p.m) (.cons .here .nil) (λ_ _ _=>trivial) ?_);rintro v H' ⟨n2,M4,rA,rfl,rfl⟩;refine bd ?_;have og:=(gA M3 M3.v.p.m).1.mt;rw[rA]at og;change M4.v.mt=M3.v.mt at og;refine fK λB7 O7=> ?_;unfold fQ gY k8 gJ pV iZ;rw[og];refine bd ?_;refine ay ?_;refine Dt 16 rfl Im ?_;refine Dt 17 rfl Nc ?_;refine Dt 18 rfl (Fa T.fS) ?_;refine Dt 19 rfl (Fa T.gB) ?_;refine Dn 20 ?_;refine Do rfl (oS T.bR ?_);refine ay ?_;refine bC (by kernel_rfl) fM ?_;have bP:M3.j5=M4.bj {M3.v.mt with mv:=dy (M3.v.mt.mv+(n2:Nat))}:=by unfold Mo.j5;rw[rA]
  refine Hh (H':=mZ z B7.C B7.W B7.ty B7.C.af.length (M4.Q.flatMap (eH B7.C)) M4.x B7.E M4.tn (M4.v,[.int .u64 (M4.v.aM:Int), .int .i64 (M4.v.gr:Int), .int .i64 M3.v.mt.dr, .int .i64 M3.v.mt.re, .int .i64 M3.v.mt.bu, .int .i64 M3.v.mt.li, .int .i64 M3.v.mt.lo, .int .i64 M3.v.mt.cr, .int .i64 (IntKind.i64.wrap (M3.v.mt.mv+(n2:Int))), .slice M4.v.wa M4.v.wn M4.v.wc]) M4.k M4.m M4 []) ?_;unfold mZ yg;refine aC (aQ (O7.bj {M3.v.mt with mv:=dy (M3.v.mt.mv+(n2:Nat))}) (H:= [])) ?_;refine jM [SH z (M4.bj {M3.v.mt with mv:=dy (M3.v.mt.mv+(n2:Nat))})] results37 ?_;exact⟨rfl,by rw[bP]⟩
 refine aC (λh s=>aQ O6 (H:= []) h (by revert s;revert h;unfold fQ gY k8 gJ pV iZ;simp only[uP,cap];exact Eh)) ?_;refine Do rfl (oC T.um rfl rfl (jH z M3 d1 zV TX M3.v.p.m) (.cons .here .nil) (λ_ _ _=>trivial) ?_);rintro v H' ⟨n2,M4,rA,rfl,rfl⟩;refine bd ?_;have og:=(gA M3 M3.v.p.m).1.mt;rw[rA]at og;change M4.v.mt=M3.v.mt at og;refine fK λB7 O7=> ?_;unfold fQ gY k8 gJ pV iZ;rw[og];refine bd ?_;refine ay ?_;refine Dn 4 ?_;refine Do rfl (oL T.bR ?_);refine ay ?_;refine Dt 16 rfl Im ?_;refine Dt 17 rfl Nc ?_;refine Dt 18 rfl (Fa T.fS) ?_;refine Dt 19 rfl (Fa T.gB) ?_;refine Dn 20 ?_;refine Do rfl (oS T.bR ?_);refine ay ?_;refine bC (by kernel_rfl) fM ?_;have bP:M3.j5=M4.bj {M3.v.mt with mv:=dy (M3.v.mt.mv+(n2:Nat))}:=by unfold Mo.j5;rw[rA]
 refine Hh (H':=mZ z B7.C B7.W B7.ty B7.C.af.length (M4.Q.flatMap (eH B7.C)) M4.x B7.E M4.tn (M4.v,[.int .u64 (M4.v.aM:Int), .int .i64 (M4.v.gr:Int), .int .i64 M3.v.mt.dr, .int .i64 M3.v.mt.re, .int .i64 M3.v.mt.bu, .int .i64 M3.v.mt.li, .int .i64 M3.v.mt.lo, .int .i64 M3.v.mt.cr, .int .i64 (IntKind.i64.wrap (M3.v.mt.mv+(n2:Int))), .slice M4.v.wa M4.v.wn M4.v.wc]) M4.k M4.m M4 []) ?_;unfold mZ yg;refine aC (aQ (O7.bj {M3.v.mt with mv:=dy (M3.v.mt.mv+(n2:Nat))}) (H:= [])) ?_;refine jM [SH z (M4.bj {M3.v.mt with mv:=dy (M3.v.mt.mv+(n2:Nat))})] results37 ?_;exact⟨rfl,by rw[bP]⟩
def Mo.find (M:Mo)(k:List UInt8):Option Nat:=M.Q.flatten.find? λp=>decide ((M.it p).key=k)
theorem bY.NK{B:Bx}{M:Mo}(O:bY B M)(k:List UInt8):B.W.get B.C k=M.find k:=by
 have hk:∀p∈B.W.all,aL B.C.A p=(M.it p).key:=λp hp=>(O.je hp).2.2.2.2.1;cases hf:M.find k with
 |none=>
  unfold Mo.find at hf;rw[agZ]at hf;refine get_none λp hp e=>hf p (O.perm.mem_iff.1 hp) (decide_eq_true ?_);rw[←hk p hp];exact e
 |some p=>
  unfold Mo.find at hf;have h1:=adA hf;have h2:(M.it p).key=k:=by simpa using ahU hf
  have hp:=O.perm.mem_iff.2 h1;exact get_some O.t hp ((hk p hp).trans h2)
theorem mM{M:Mo}{k:List UInt8}{p:Nat}(h:M.find k=some p):M.has p∧(M.it p).key=k:=by
 unfold Mo.find at h;exact⟨fO.1 (adA h),by simpa using ahU h⟩
def Mo.YK (M:Mo):my:=⟨M.Q,λp=>decide ((M.it p).dB % 2=1),M.x⟩
def Mo.Ag (M:Mo)(t:my):Mo:={M with Q:=t.Q,x:=t.x,it:=λp=>{M.it p with dB:=mkSet (M.it p).dB (t.ac p)}}
theorem E5{C:Cs}(K:Ok C){B:By}{S:Nat→Nat→Prop}(d:dx C C.A B S){p:Nat}(L:At C p)(I:ic C p)(h:∀j,S p j→j<16∨j=45∨j=46):nQ B p={nQ C.A p with dB:=dE B p}:=by
 have n1:=(L.bo K).2.1;have hf:=I.fits;have r:=λ(o w:Nat) (h2:o+w≤C.sz (C.cl p)) (h3:∀j,o≤j→j<o+w→¬(j<16∨j=45∨j=46))=>lA K d L h2 (λj g1 g2 s=>h3 j g1 g2 (h j s));have e1:kl B p=kl C.A p:=r 44 1 (by omega) (λj g1 g2=>by omega);have e2:vl B p=vl C.A p:=r 48 4 (by omega) (λj g1 g2=>by omega);have e3:aL B p=aL C.A p:=by
  unfold aL;rw[e1];exact uo K d L (by omega) (λj g1 g2 s=>by have:=h j s;omega)
 have e4:oo B p=oo C.A p:=by
  unfold oo;rw[e1,e2,agV];exact uo K d L (by omega) (λj g1 g2 s=>by have:=h j s;omega)
 unfold nQ TY vS nm rD;rw[e3,e4,r 40 4 (by omega) (λj g1 g2=>by omega),r 16 8 (by omega) (λj g1 g2=>by omega),r 24 8 (by omega) (λj g1 g2=>by omega),r 32 8 (by omega) (λj g1 g2=>by omega)]
theorem bY.bai{B:Bx}{M:Mo}(O:bY B M):BaI B.C B.C.A M.YK:=
 ⟨O.o,O.x,O.mq,λi p h=>by unfold I0;rw[(O.BY (O.sO h)).1];rfl⟩
theorem bY.bal{B:Bx}{M:Mo}(O:bY B M){A:By}{t:my}(T:Jg B.C M.Q A t):bY ⟨B.C.wA A,B.W,B.ty,B.E⟩ (M.Ag t):=by
 have K:=O.k;have hS:∀q j,SB q j→j<16∨j=45∨j=46:=λq j s=>by unfold SB at s;omega
 have eO:∀p∈B.W.all,nQ A p={M.it p with dB:=mkSet (M.it p).dB (t.ac p)}:=λp hp=>by
  rw[E5 K T.d (O.om hp) (O.t.it p hp) (λj s=>hS p j s),O.it p hp];obtain⟨i,hi⟩:=(T.mem p).2 ((O.al p).1 hp);have h1:=T.mr p (O.sM hp);have h2:=T.i.ac i p hi;have h3:=(O.BY hp).1;have h4:dE A p=mkSet (M.it p).dB (t.ac p):=by
   unfold mkSet;rw[←h3,←h2,←h1];unfold I0;by_cases e:dE A p % 2=1
   ·rw[decide_eq_true e,if_pos rfl];omega
   rw[decide_eq_false e,if_neg (by decide)];omega
  rw[h4]
 have jO:∀q,Live (B.C.wA A) q↔Live B.C q:=λq=>⟨λh=>⟨⟨h.i,h.own,h.al,h.k⟩,h.tk⟩,λh=>h.wA _⟩;refine⟨?_,K.wA A,I6 K O.t T.d λp _ j s=>by unfold SB at s;unfold mz;omega,O.ty,T.i.o,T.i.x,T.i.mq,O.ck,λp=>(O.al p).trans (T.mem p).symm,λq=>(jO q).trans (O.lv q),O.ho,eO, ?_,O.st,O.nb,O.mg,O.mo,O.bt,O.un,O.on,O.go,O.wn,O.cf,O.n,O.lg⟩
 ·show B.C.wA A=M.C.wA A
  conv=>lhs;rw[O.c]
  rfl
 exact O.e.trans (acN.of_eq (fU λq h=>⟨rfl,rfl,rfl⟩).symm)
def Mo.aK (M:Mo)(a:Option Addr)(c:Nat):Mo:={M with v:={M.v with wa:=a,wn:=M.jz.length,wc:=c}}
def SW (z:Ly)(M:Mo):aa:=λh=>∃w:Option Addr×Nat,SH z (M.aK w.1 w.2) h
theorem uZ{P:Program}{f:FuncId}{args:List Value}{pre:Hp→Prop}{H:List aa}{R:Value→List aa→Prop}{z:Ly}{M:Mo}(h:∀a c,aH P f args pre (SH z (M.aK a c)::H) R):aH P f args pre (SW z M::H) R:=
 aH.exL λw=>h w.1 w.2
theorem gm{z:Ly}{M:Mo}(a:Option Addr)(c:Nat){H:List aa}:∀h,ak (SH z (M.aK a c)::H) h→ak (SW z M::H) h:=λh s=>
 bm (λk x=>⟨(a,c),x⟩) s
theorem yP{n:Nat}{ds:List Deferred}{F:ee}{K:Act→World→Prop}{σ:ba}{z:Ly}{M:Mo}{H:List aa}(h:∀a c,G n ds F K σ (SH z (M.aK a c)::H)):G n ds F K σ (SW z M::H):=
 aed λw=>h w.1 w.2
theorem Yb{n:Nat}{ds:List Deferred}{F:ee}{K:Act→World→Prop}{σ:ba}{z:Ly}{M:Mo}{H:List aa}(a:Option Addr)(c:Nat)(h:G n ds F K σ (SW z M::H)):G n ds F K σ (SH z (M.aK a c)::H):=
 aC (gm a c) h
theorem hZ{P:Program}{f:FuncId}{args:List Value}{z:Ly}{M N:Mo}{T:Value→Prop}(h:∀a c,aH P f args (λ_=>True) [SH z (M.aK a c)] (λv H=>T v∧H= [SH z (N.aK a c)])):aH P f args (λ_=>True) [SW z M] (λv H=>T v∧H= [SW z N]):=
 uZ λa c=>(h a c).out (by
  rintro v H' ⟨t,rfl⟩;exact⟨[SW z N],⟨t,rfl⟩,λk s=>gm a c k s⟩)
theorem Jy (z:Ly)(M:Mo)(p:Nat)(hp:M.has p):aH acw 40 [.pointer (some ⟨z.s,0,none⟩), .int .u64 (M.C.hd p:Int)] (λ_=>True) [SW z M]
  (λv H=>v= .bool (decide (M.bV p≠0))∧H= [SW z M]):=
 hZ (N:=M) (T:=λv=>v= .bool (decide (M.bV p≠0))) λa d=>by
  have h:=y6 z (M.aK a d) p hp;exact h
theorem FM (z:Ly)(M:Mo)(p:Nat)(hp:M.has p):aH acw 87 [.pointer (some ⟨z.s,0,none⟩), .int .u64 (M.C.hd p:Int)] (λ_=>True) [SW z M]
  (λv H=>v= .int .i64 (M.bV p:Int)∧H= [SW z M]):=
 hZ (N:=M) (T:=λv=>v= .int .i64 (M.bV p:Int)) λa d=>by
  have h:=FX z (M.aK a d) p hp;exact h
theorem tz (z:Ly)(M:Mo)(p:Nat)(hp:M.has p):aH acw 66 [.pointer (some ⟨z.s,0,none⟩), .int .u64 (M.C.hd p:Int)] (λ_=>True) [SW z M]
  (λv H=>v= .tuple #[]∧H= [SW z (M.cD p)]):=
 hZ (N:=M.cD p) (T:=λv=>v= .tuple #[]) λa d=>by
  have h:=y7 z (M.aK a d) p hp;rw[show(M.aK a d).cD p=(M.cD p).aK a d from rfl]at h;exact h
theorem wY (z:Ly)(M:Mo)(p:Nat)(hp:M.has p):aH acw 110 [.pointer (some ⟨z.s,0,none⟩), .int .u64 (M.C.hd p:Int)] (λ_=>True) [SW z M]
  (λv H=>v= .tuple #[]∧H= [SW z (M.eO p)]):=
 hZ (N:=M.eO p) (T:=λv=>v= .tuple #[]) λa d=>by
  have h:=QJ z (M.aK a d) p hp;rw[show(M.aK a d).eO p=(M.eO p).aK a d from rfl]at h;exact h
theorem FN (z:Ly)(M:Mo)(p c:Nat)(hc:c<4)(hp:M.has p):aH acw 116 [.pointer (some ⟨z.s,0,none⟩), .int .u64 (M.C.hd p:Int), .int .i64 ((c*2:Nat):Int)] (λ_=>True) [SW z M]
  (λv H=>v= .tuple #[]∧H= [SW z (M.marks p c)]):=
 hZ (N:=M.marks p c) (T:=λv=>v= .tuple #[]) λa d=>by
  have h:=FY z (M.aK a d) p c hc hp;rw[show(M.aK a d).marks p c=(M.marks p c).aK a d from rfl]at h;exact h
theorem q8 (z:Ly)(M:Mo)(p:Nat)(hp:M.has p)(t:Int)(ht:t<9223372036854775808)(tY:M.tn<18446744073709551615):aH acw 109 [.pointer (some ⟨z.s,0,none⟩), .int .u64 (M.C.hd p:Int), .int .i64 t] (λ_=>True) [SW z M]
  (λv H=>v= .tuple #[]∧H= [SW z (M.time p (cF M.k.now t))]):=
 hZ (N:=M.time p (cF M.k.now t)) (T:=λv=>v= .tuple #[]) λa d=>by
  have h:=FW z (M.aK a d) p hp t ht tY;rw[show(M.aK a d).time p (cF (M.aK a d).k.now t)=(M.time p (cF M.k.now t)).aK a d from rfl]at h;exact h
theorem Oq (M:Mo)(p:Nat)(a:Option Addr)(c:Nat):(M.aK a c).look p=(M.look p).aK a c:=by
 unfold Mo.look;rw[show(M.aK a c).bV p=M.bV p from rfl]
 split<;>rfl
theorem HZ (a:Option Addr)(c:Nat):∀(l:List Nat) (M:Mo),l.foldl Mo.look (M.aK a c)=(l.foldl Mo.look M).aK a c
 | [],_=>rfl
 |p::l,M=>by rw[adm,adm,Oq,HZ a c l]
theorem Dl (a:Option Addr)(c:Nat):∀(f:Nat) (M:Mo),(M.aK a c).ct f=((M.ct f).1,(M.ct f).2.aK a c)
 |0,_=>rfl
 |f+1,M=>by
  rcases hf:M.x.find M.iW M.Q with⟨_|_,x⟩
  ·rw[pX hf,pX (M:=M.aK a c) hf];rfl
  cases hx:x.nx with
  |none=>
   unfold Mo.ct;rw[show(M.aK a c).x.find (M.aK a c).iW (M.aK a c).Q=(true,x)from hf,hf];dsimp only;rw[hx];rfl
  |some p=>
   rw[pW hf hx,pW (M:=M.aK a c) hf hx];have e:(({M.aK a c with x:=x.pass (M.aK a c).Q}:Mo).look p)=(({M with x:=x.pass M.Q}:Mo).look p).aK a c:=Oq {M with x:=x.pass M.Q} p a c;rw[e,Dl a c f]
theorem IE (M:Mo)(now aF:Int)(a:Option Addr)(c:Nat):(M.aK a c).cP now aF=((M.cP now aF).1,(M.cP now aF).2.aK a c):=by
 unfold Mo.cP
 split
 ·rfl
 unfold Mo.qW;rw[show(M.aK a c).jR now (min aF 1048576)=M.jR now (min aF 1048576)from rfl,HZ,Dl]
theorem Al (M:Mo)(d:Nat)(a:Option Addr)(c:Nat):(M.aK a c).take d=(M.take d).map λo=>(o.1,o.2.aK a c):=by
 unfold Mo.take;rw[show(M.aK a c).C=M.C from rfl];cases M.C.eA d<;>rfl
theorem Vm (M:Mo)(p:Nat)(a:Option Addr)(c:Nat):(M.aK a c).shift p=(M.shift p).map λN=>N.aK a c:=by
 unfold Mo.shift;rw[show(M.aK a c).C.cl p=M.C.cl p from rfl,Al];cases M.take (M.C.cl p)<;>rfl
theorem V1 (M:Mo)(a:Option Addr)(c:Nat):(M.aK a c).gF=(M.gF.1,M.gF.2.aK a c):=by
 unfold Mo.gF;rw[show((M.aK a c).C.pg (M.aK a c).m.pg)=M.C.pg M.m.pg from rfl];cases (M.C.pg M.m.pg).tk.findIdx? id with
 |none=>rfl
 |some k=>
  dsimp only;rw[show(M.aK a c).C.yh (M.aK a c).m.pg k=M.C.yh M.m.pg k from rfl,show(M.aK a c).bV (M.C.yh M.m.pg k)=M.bV (M.C.yh M.m.pg k)from rfl,Vm]
  split
  ·rfl
  ·cases M.shift (M.C.yh M.m.pg k)<;>rfl
theorem CW (a:Option Addr)(c:Nat):∀(f:Nat) (M:Mo),(M.aK a c).eU f=((M.eU f).1,(M.eU f).2.aK a c)
 |0,_=>rfl
 |f+1,M=>by
  have h:=V1 M a c;rcases hm:M.gF with⟨_|_,N⟩
  ·rw[hm]at h
   rw[tJ hm,tJ h]
  rw[hm]at h;rw[tI hm,tI h,CW a c f]
theorem Rn (M:Mo)(a:Option Addr)(c:Nat):(M.aK a c).gO=M.gO.aK a c:=by
 unfold Mo.gO;rw[show(M.aK a c).C=M.C from rfl,show(M.aK a c).m=M.m from rfl,show(M.aK a c).iW=M.iW from rfl]
 split
 ·rfl
 cases (List.range M.iW).find? M.m.j8 with
 |none=>rfl
 |some t=>
  dsimp only;cases jE M.m M.C M.iW<;>rfl
theorem VZ (M:Mo)(aF:Int)(a:Option Addr)(c:Nat):(M.aK a c).iy aF=((M.iy aF).1,(M.iy aF).2.aK a c):=by
 unfold Mo.iy;rw[show(M.aK a c).gD=M.gD.aK a c from rfl,show(M.aK a c).m=M.m from rfl,CW,Rn]
 split
 ·rfl
 ·split<;>rfl
theorem Tf (M:Mo)(a:Option Addr)(c:Nat):(M.aK a c).beside=M.beside.aK a c:=by
 have h1:∀N:Mo,(N.aK a c).jf=N.jf.aK a c:=λN=>by
  unfold Mo.jf;rw[show(N.aK a c).k=N.k from rfl,show(N.aK a c).v.p=N.v.p from rfl,IE];rfl
 have h2:∀N:Mo,(N.aK a c).j5=N.j5.aK a c:=λN=>by
  unfold Mo.j5;rw[show(N.aK a c).v.p=N.v.p from rfl,VZ];rfl
 unfold Mo.beside;rw[show(M.aK a c).fe=M.fe.aK a c from rfl,h1,h2]
theorem ux (uO:oU)(z:Ly)(M:Mo)(hh:M.hole=none)(iY:M.m.st<4611686018427387904)(MS:uL M.v.p)(hA:ib M 1):aH acw 37 [.pointer (some ⟨z.s,0,none⟩)] (λ_=>True) [SW z M]
  (λv H=>v= .tuple #[]∧H= [SW z M.beside]):=
 hZ (N:=M.beside) (T:=λv=>v= .tuple #[]) λa d=>by
  have h:=Mg uO z (M.aK a d) hh iY MS ⟨hA.on,hA.sp⟩;rw[Tf]at h;exact h
def Mo.fj (M:Mo)(w:Nat):Mo:={M with jz:=M.jz++ [w]}
def vP (C:Cs):Option Nat→Nat
 |none=>0
 |some p=>C.hd p
def Mo.meet (M:Mo)(k:List UInt8):Option Nat×Mo:=match M.find k with
 |none=>(none,M.fj 1)
 |some p=>if M.bV p≠0 then(none,(M.fj (M.bV p)).cD p)else(some p,M.fj 0)
theorem bY.fj{B:Bx}{M:Mo}(O:bY B M)(w:Nat)(a:Option Addr)(c:Nat):bY B ((M.fj w).aK a c):=
 ⟨O.c,O.k,O.t,O.ty,O.o,O.x,O.mq,O.ck,O.al,O.lv,O.ho,O.it,O.e,O.st,O.nb,O.mg,O.mo,O.bt,O.un,O.on,O.go,rfl,O.cf,O.n,O.lg⟩
theorem Y9{B:Bx}{M:Mo}(O:bY B M)(o:Option Nat):hO B.C o=vP M.C o:=by
 cases o with
 |none=>rfl
 |some p=>rw[cQ,O.hd];rfl
theorem w7 (z:Ly)(M:Mo)(k:List UInt8)(hk:k.length<281474976710656)(hw:M.jz.length<1073741824):aH acw 108 [.pointer (some ⟨z.s,0,none⟩),aB k] (λ_=>True) [SW z M]
  (λv H=>v= .int .u64 (vP M.C (M.meet k).1:Int)∧H= [SW z (M.meet k).2]):=by
 refine ae func108 rfl ntmps108 rfl ?_;intro F _;refine yP λwa wc=>fK λB O=> ?_;have tf:=λa c=>mE z.y.t z.y.b B.C O.k B.W B.ty O.t O.ty a k.length c k rfl hk;rw[O.NK,show(M.aK wa wc).find k=M.find k from rfl,Y9 O,show(M.aK wa wc).C=M.C from rfl]at tf;have YO:(aV M.jz).length=M.jz.length:=jk M.jz;unfold fQ gY k8 gJ pV iZ lQ;dsimp only[Mo.aK];refine bd ?_;refine bw ?_;refine Lp (BA T.kk T.ll T.qw λkb kc rz=> ?_);refine zl T.yR (tf _ _) .nil (λ_ le aw=>⟨aw.nth 1 rfl,⟨aw.nth 2 rfl,aw.nth 3 rfl,aw.nth 4 rfl,trivial⟩,bD (aw.nth 0 rfl)⟩) ?_;rcases hf:M.find k with _|p
 ·have hme:M.meet k=(none,M.fj 1):=by unfold Mo.meet;rw[hf]
  refine z7 ?_;refine Lp (oT T.iA λb1=> ?_);refine Lp (bF T.iA T.uf rfl rfl rfl rfl (.there (.there (.there (.there (.there (.there (.there (.there (.there (.there (.there (.there (.there (.there .here)))))))))))))) (by first|rfl|(simp;done)|(simp;omega)|omega) (rfl) (by simp[Value.oneCell']) (by first|omega|(simp;omega)) (by first|omega|(simp;omega)) rfl λa5 c5 Xv=> ?_);refine cN ?_;rw[show aV M.jz++ [.int .i64 1]=aV (M.jz++ [1]) by unfold aV;rw[adq];rfl,show M.jz.length+1=(M.jz++ [1]).length by simp];refine Hh (H':= [Cl z.y.b B.C,ag z.y.t 145 (fA z.y.b B.W B.ty),ag B.ty.nk 163 (aJ (aA B.W.nb)),jV B.ty.ok 163 (aJ (aA B.W.ob)),ag z.y.q 139 (fP z.y.b z.qb B.C.af.length),ag z.qb 327 (M.Q.flatMap (eH B.C)),gZ z.y.cr z.y.q z.y.wh B.C.af.length (bJ z.s) (bI z.s) B.C M.x,Wl z.y.wh B.E M.tn,ag z.s 111 [.pointer (some ⟨z.y.b,0,none⟩), .pointer (some ⟨z.y.ck,0,none⟩), .pointer (some ⟨z.y.t,0,none⟩), .pointer (some ⟨z.y.lu,0,none⟩), .pointer (some ⟨z.y.wh,0,none⟩), .pointer (some ⟨z.y.cr,0,none⟩), .pointer (some ⟨z.y.mo,0,none⟩), .pointer (some ⟨z.y.q,0,none⟩), .int .i64 M.v.c.aq, .int .i64 M.v.c.cH, .int .i64 M.v.c.fac, .int .i64 M.v.c.bO, .int .i64 M.v.c.lim, .int .i64 M.v.c.hot, .int .i64 M.v.c.warm, .int .i64 M.v.p.b, .int .i64 M.v.p.l, .int .i64 M.v.p.c, .int .i64 M.v.p.m, .int .u64 (M.v.aM:Int), .int .i64 (M.v.gr:Int), .int .i64 M.v.mt.dr, .int .i64 M.v.mt.re, .int .i64 M.v.mt.bu, .int .i64 M.v.mt.li, .int .i64 M.v.mt.lo, .int .i64 M.v.mt.cr, .int .i64 M.v.mt.mv, .slice a5 (M.jz++ [1]).length c5],lD z.y.ck M.k,jN z.y.lu z.y.b z.y.q z.hot z.warm,oa z.y.mo z.y.b z.ub (bJ z.s) (bI z.s) (cK z.s) M.m,oz z.ub M.m,own a5 c5 3 1 (aV (M.jz++ [1]))]) ?_;refine aC (aQ (O.fj 1 a5 c5) (H:= [])) ?_;refine aC (gm (M:=M.fj 1) a5 c5) ?_;refine Rt [SW z (M.fj 1)] results108 ?_;exact⟨by rw[hme];rfl,by rw[hme]⟩
 obtain⟨hp,oF⟩:=mM hf;have hme:M.meet k=if M.bV p≠0 then(none,(M.fj (M.bV p)).cD p)else(some p,M.fj 0):=by unfold Mo.meet;rw[hf]
 refine fF ?_;refine Hh (H':= [Cl z.y.b B.C,ag z.y.t 145 (fA z.y.b B.W B.ty),ag B.ty.nk 163 (aJ (aA B.W.nb)),jV B.ty.ok 163 (aJ (aA B.W.ob)),ag z.y.q 139 (fP z.y.b z.qb B.C.af.length),ag z.qb 327 (M.Q.flatMap (eH B.C)),gZ z.y.cr z.y.q z.y.wh B.C.af.length (bJ z.s) (bI z.s) B.C M.x,Wl z.y.wh B.E M.tn,ag z.s 111 [.pointer (some ⟨z.y.b,0,none⟩), .pointer (some ⟨z.y.ck,0,none⟩), .pointer (some ⟨z.y.t,0,none⟩), .pointer (some ⟨z.y.lu,0,none⟩), .pointer (some ⟨z.y.wh,0,none⟩), .pointer (some ⟨z.y.cr,0,none⟩), .pointer (some ⟨z.y.mo,0,none⟩), .pointer (some ⟨z.y.q,0,none⟩), .int .i64 M.v.c.aq, .int .i64 M.v.c.cH, .int .i64 M.v.c.fac, .int .i64 M.v.c.bO, .int .i64 M.v.c.lim, .int .i64 M.v.c.hot, .int .i64 M.v.c.warm, .int .i64 M.v.p.b, .int .i64 M.v.p.l, .int .i64 M.v.p.c, .int .i64 M.v.p.m, .int .u64 (M.v.aM:Int), .int .i64 (M.v.gr:Int), .int .i64 M.v.mt.dr, .int .i64 M.v.mt.re, .int .i64 M.v.mt.bu, .int .i64 M.v.mt.li, .int .i64 M.v.mt.lo, .int .i64 M.v.mt.cr, .int .i64 M.v.mt.mv, .slice wa M.jz.length wc],lD z.y.ck M.k,jN z.y.lu z.y.b z.y.q z.hot z.warm,oa z.y.mo z.y.b z.ub (bJ z.s) (bI z.s) (cK z.s) M.m,oz z.ub M.m,own wa wc 3 1 (aV M.jz)]) ?_;refine aC (aQ O (H:= [])) ?_;refine aC (gm (M:=M) wa wc) ?_;refine aZ ?_;refine zl T.Yf (FM z M p hp) (.cons .here .nil) (λ_ _ _=>trivial) ?_;refine a8 ?_;refine yP λwa wc=>fK λB O=> ?_;unfold fQ gY k8 gJ pV iZ lQ;dsimp only[Mo.aK];refine bd ?_;refine bH ?_;refine Lp (oT T.iA λb2=> ?_);refine Lp (bF T.iA T.uf rfl rfl rfl rfl (.there (.there (.there (.there (.there (.there (.there (.there (.there (.there (.there (.there (.there .here))))))))))))) (by first|rfl|(simp;done)|(simp;omega)|omega) (rfl) (by simp[Value.oneCell']) (by first|omega|(simp;omega)) (by first|omega|(simp;omega)) rfl λa5 c5 Xv=> ?_);refine aR ?_;refine au ?_;rw[show aV M.jz++ [.int .i64 (M.bV p:Int)]=aV (M.jz++ [M.bV p]) by unfold aV;rw[adq];rfl,show M.jz.length+1=(M.jz++ [M.bV p]).length by simp];refine Hh (H':= [Cl z.y.b B.C,ag z.y.t 145 (fA z.y.b B.W B.ty),ag B.ty.nk 163 (aJ (aA B.W.nb)),jV B.ty.ok 163 (aJ (aA B.W.ob)),ag z.y.q 139 (fP z.y.b z.qb B.C.af.length),ag z.qb 327 (M.Q.flatMap (eH B.C)),gZ z.y.cr z.y.q z.y.wh B.C.af.length (bJ z.s) (bI z.s) B.C M.x,Wl z.y.wh B.E M.tn,ag z.s 111 [.pointer (some ⟨z.y.b,0,none⟩), .pointer (some ⟨z.y.ck,0,none⟩), .pointer (some ⟨z.y.t,0,none⟩), .pointer (some ⟨z.y.lu,0,none⟩), .pointer (some ⟨z.y.wh,0,none⟩), .pointer (some ⟨z.y.cr,0,none⟩), .pointer (some ⟨z.y.mo,0,none⟩), .pointer (some ⟨z.y.q,0,none⟩), .int .i64 M.v.c.aq, .int .i64 M.v.c.cH, .int .i64 M.v.c.fac, .int .i64 M.v.c.bO, .int .i64 M.v.c.lim, .int .i64 M.v.c.hot, .int .i64 M.v.c.warm, .int .i64 M.v.p.b, .int .i64 M.v.p.l, .int .i64 M.v.p.c, .int .i64 M.v.p.m, .int .u64 (M.v.aM:Int), .int .i64 (M.v.gr:Int), .int .i64 M.v.mt.dr, .int .i64 M.v.mt.re, .int .i64 M.v.mt.bu, .int .i64 M.v.mt.li, .int .i64 M.v.mt.lo, .int .i64 M.v.mt.cr, .int .i64 M.v.mt.mv, .slice a5 (M.jz++ [M.bV p]).length c5],lD z.y.ck M.k,jN z.y.lu z.y.b z.y.q z.hot z.warm,oa z.y.mo z.y.b z.ub (bJ z.s) (bI z.s) (cK z.s) M.m,oz z.ub M.m,own a5 c5 3 1 (aV (M.jz++ [M.bV p]))]) ?_;refine aC (aQ (O.fj (M.bV p) a5 c5) (H:= [])) ?_;refine aC (gm (M:=M.fj (M.bV p)) a5 c5) ?_;refine aR ?_;by_cases hw0:M.bV p=0
 ·rw[hw0]
  refine cu ?_ (e:=by exact congrArg (!·) (decide_eq_true rfl));refine bH ?_;refine Rt [SW z (M.fj 0)] results108 ?_;rw[hme,if_neg (by simpa using hw0)];exact⟨rfl,rfl⟩
 refine dz ?_ (e:=by exact congrArg (!·) (decide_eq_false (by omega)));refine aZ ?_;refine zl T.Ha (tz z (M.fj (M.bV p)) p hp) (.cons .here .nil) (λ_ _ _=>trivial) ?_;refine bB ?_;refine Rt [SW z ((M.fj (M.bV p)).cD p)] results108 ?_;rw[hme,if_pos hw0];exact⟨rfl,rfl⟩
def Mo.oq (hot warm:Nat)(M:Mo)(k:List UInt8):Mo:=match M.find k with
 |none=>M
 |some p=>(M.Ag (kB (M.C.cl p) hot warm M.v.p.l.toNat M.YK).2).bj {M.v.mt with li:=dy (M.v.mt.li+((kB (M.C.cl p) hot warm M.v.p.l.toNat M.YK).1:Nat))}
noncomputable def Mo.behind (hot warm:Nat)(M:Mo)(k:List UInt8):Mo:=(M.oq hot warm k).beside
theorem IN (hot warm:Nat)(M:Mo)(k:List UInt8):(M.oq hot warm k).hole=M.hole∧(M.oq hot warm k).m=M.m∧(M.oq hot warm k).v.p=M.v.p:=by
 unfold Mo.oq
 split<;>exact⟨rfl,rfl,rfl⟩
theorem IP (hot warm:Nat)(M:Mo)(k:List UInt8):Ev M (M.oq hot warm k):=by
 unfold Mo.oq
 split
 ·exact .rf rfl rfl
 exact .rf rfl rfl
theorem F7 (uO:oU)(z:Ly)(M:Mo)(k:List UInt8)(hk:k.length<281474976710656)(hh:M.hole=none)(iY:M.m.st<4611686018427387904)(MS:uL M.v.p)(hA:ib M 1)(MP:z.hot≤100)(BL:z.warm≤100):aH acw 38 [.pointer (some ⟨z.s,0,none⟩),aB k] (λ_=>True) [SW z M]
  (λv H=>v= .tuple #[]∧H= [SW z (M.behind z.hot z.warm k)]):=by
 obtain⟨b1,b2,b3⟩:=IN z.hot z.warm M k;have bsd:=ux uO z (M.oq z.hot z.warm k) (b1.trans hh) (by rw[b2];exact iY) (by rw[b3];exact MS) (hA.ev (IP _ _ _ _));refine ae func38 rfl ntmps38 rfl ?_;intro F _;refine yP λwa wc=>fK λB O=> ?_;unfold fQ gY k8 gJ pV iZ lQ;dsimp only[Mo.aK];refine bd ?_;have tf:=λa c=>mE z.y.t z.y.b B.C O.k B.W B.ty O.t O.ty a k.length c k rfl hk;rw[O.NK,show(M.aK wa wc).find k=M.find k from rfl,Y9 O,show(M.aK wa wc).C=M.C from rfl]at tf;refine cI ?_;refine Lp (BA T.kk T.ll T.qw λkb kc rz=> ?_);refine zl T.yR (tf _ _) .nil (λ_ le aw=>⟨aw.nth 1 rfl,⟨aw.nth 2 rfl,aw.nth 3 rfl,aw.nth 4 rfl,trivial⟩,bD (aw.nth 0 rfl)⟩) ?_;rcases hf:M.find k with _|p
 ·have hbb:M.oq z.hot z.warm k=M:=by unfold Mo.oq;rw[hf]
  rw[hbb]at bsd;refine dQ ?_;refine Hh (H':= [Cl z.y.b B.C,ag z.y.t 145 (fA z.y.b B.W B.ty),ag B.ty.nk 163 (aJ (aA B.W.nb)),jV B.ty.ok 163 (aJ (aA B.W.ob)),ag z.y.q 139 (fP z.y.b z.qb B.C.af.length),ag z.qb 327 (M.Q.flatMap (eH B.C)),gZ z.y.cr z.y.q z.y.wh B.C.af.length (bJ z.s) (bI z.s) B.C M.x,Wl z.y.wh B.E M.tn,ag z.s 111 [.pointer (some ⟨z.y.b,0,none⟩), .pointer (some ⟨z.y.ck,0,none⟩), .pointer (some ⟨z.y.t,0,none⟩), .pointer (some ⟨z.y.lu,0,none⟩), .pointer (some ⟨z.y.wh,0,none⟩), .pointer (some ⟨z.y.cr,0,none⟩), .pointer (some ⟨z.y.mo,0,none⟩), .pointer (some ⟨z.y.q,0,none⟩), .int .i64 M.v.c.aq, .int .i64 M.v.c.cH, .int .i64 M.v.c.fac, .int .i64 M.v.c.bO, .int .i64 M.v.c.lim, .int .i64 M.v.c.hot, .int .i64 M.v.c.warm, .int .i64 M.v.p.b, .int .i64 M.v.p.l, .int .i64 M.v.p.c, .int .i64 M.v.p.m, .int .u64 (M.v.aM:Int), .int .i64 (M.v.gr:Int), .int .i64 M.v.mt.dr, .int .i64 M.v.mt.re, .int .i64 M.v.mt.bu, .int .i64 M.v.mt.li, .int .i64 M.v.mt.lo, .int .i64 M.v.mt.cr, .int .i64 M.v.mt.mv, .slice wa M.jz.length wc],lD z.y.ck M.k,jN z.y.lu z.y.b z.y.q z.hot z.warm,oa z.y.mo z.y.b z.ub (bJ z.s) (bI z.s) (cK z.s) M.m,oz z.ub M.m,own wa wc 3 1 (aV M.jz)]) ?_;refine aC (aQ O (H:= [])) ?_;refine aC (gm (M:=M) wa wc) ?_;refine a8 ?_;refine zl T.NI (bsd) (.cons .here .nil) (λ_ _ _=>trivial) ?_;refine az ?_;refine jM [SW z M.beside] results38 ?_;exact⟨rfl,by unfold Mo.behind;rw[hbb]⟩
 obtain⟨hp,oF⟩:=mM hf;have eK:=(O.al p).2 hp;have L:=O.sM eK;have at_:=wC z.y.b B.C O.k p L;rw[O.hd,show(M.aK wa wc).C=M.C from rfl]at at_;have jw:=(L.toAt.bo O.k).1;have bl:=DO z.y.lu z.y.q z.y.b z.qb z.hot z.warm z.y.cr z.y.wh (bJ z.s) (bI z.s) B.C O.k M.YK O.bai (B.C.cl p) jw MP BL M.v.p.l.toNat (by have:=MS.l;omega);rw[show((M.v.p.l.toNat:Nat):Int)=M.v.p.l by have:=MS.l;omega]at bl;refine kx ?_;refine zl T.wv (at_) .nil (λ_ le aw=>aw.nth 1 rfl) ?_;refine cI ?_;refine gK 27 T.mix (.cons (.there (.there (.there (.there (.there (.there (.there (.there (.there .here))))))))) .nil) λF1 iT cj aI=> ?_;obtain⟨q1,_⟩:=cj;refine bT ?_;refine ay ?_;refine Ti Mf ?_;refine Tp (oC T.afw rfl rfl (bl) (.cons (.there .here) (.cons (.there (.there (.there (.there .here)))) (.cons (.there (.there (.there (.there .here)))) (.cons (.there (.there (.there (.there .here)))) .nil)))) (λ_ le aw=>aw.nth 6 rfl) ?_);rintro v H' ⟨n,A,t,Xx,rfl,rfl,T2⟩;refine bd ?_;refine aR ?_;refine gd aI ?_;refine a8 ?_;have O1:bY ⟨B.C.wA A,B.W,B.ty,B.E⟩ (((M.Ag t).bj {M.v.mt with li:=dy (M.v.mt.li+(n:Nat))}).aK wa wc):=(O.bal T2).bj {M.v.mt with li:=dy (M.v.mt.li+(n:Nat))};have hbb:M.oq z.hot z.warm k=(M.Ag t).bj {M.v.mt with li:=dy (M.v.mt.li+(n:Nat))}:=by
  unfold Mo.oq;rw[hf];dsimp only;rw[O.cl,show(M.aK wa wc).C=M.C from rfl]at Xx;rw[Xx]
 rw[hbb]at bsd;refine Hh (H':= [Cl z.y.b (B.C.wA A),ag z.y.t 145 (fA z.y.b B.W B.ty),ag B.ty.nk 163 (aJ (aA B.W.nb)),jV B.ty.ok 163 (aJ (aA B.W.ob)),ag z.y.q 139 (fP z.y.b z.qb B.C.af.length),ag z.qb 327 (t.Q.flatMap (eH B.C)),gZ z.y.cr z.y.q z.y.wh B.C.af.length (bJ z.s) (bI z.s) B.C t.x,Wl z.y.wh B.E M.tn,ag z.s 111 [.pointer (some ⟨z.y.b,0,none⟩), .pointer (some ⟨z.y.ck,0,none⟩), .pointer (some ⟨z.y.t,0,none⟩), .pointer (some ⟨z.y.lu,0,none⟩), .pointer (some ⟨z.y.wh,0,none⟩), .pointer (some ⟨z.y.cr,0,none⟩), .pointer (some ⟨z.y.mo,0,none⟩), .pointer (some ⟨z.y.q,0,none⟩), .int .i64 M.v.c.aq, .int .i64 M.v.c.cH, .int .i64 M.v.c.fac, .int .i64 M.v.c.bO, .int .i64 M.v.c.lim, .int .i64 M.v.c.hot, .int .i64 M.v.c.warm, .int .i64 M.v.p.b, .int .i64 M.v.p.l, .int .i64 M.v.p.c, .int .i64 M.v.p.m, .int .u64 (M.v.aM:Int), .int .i64 (M.v.gr:Int), .int .i64 M.v.mt.dr, .int .i64 M.v.mt.re, .int .i64 M.v.mt.bu, .int .i64 (IntKind.i64.wrap (M.v.mt.li+(n:Int))), .int .i64 M.v.mt.lo, .int .i64 M.v.mt.cr, .int .i64 M.v.mt.mv, .slice wa M.jz.length wc],lD z.y.ck M.k,jN z.y.lu z.y.b z.y.q z.hot z.warm,oa z.y.mo z.y.b z.ub (bJ z.s) (bI z.s) (cK z.s) M.m,oz z.ub M.m,own wa wc 3 1 (aV M.jz)]) ?_;refine aC (aQ O1 (H:= [])) ?_;refine aC (gm (M:=(M.Ag t).bj {M.v.mt with li:=dy (M.v.mt.li+(n:Nat))}) wa wc) ?_;refine a8 ?_;refine zl T.NI (bsd) (.cons .here .nil) (λ_ _ _=>trivial) ?_;refine az ?_;refine jM [SW z ((M.Ag t).bj {M.v.mt with li:=dy (M.v.mt.li+(n:Nat))}).beside] results38 ?_;exact⟨rfl,by unfold Mo.behind;rw[hbb]⟩
theorem acg:∀m:Nat,m<16→gG .and .i64 (m:Int) 2=some ((m/2 % 2*2:Nat):Int):=by decide+kernel
theorem acf:∀m:Nat,m<16→gG .and .i64 (m:Int) 4=some ((m/4 % 2*4:Nat):Int):=by decide+kernel
theorem ace:∀m:Nat,m<16→gG .and .i64 (m:Int) 8=some ((m/8 % 2*8:Nat):Int):=by decide+kernel
def jQ (x:I3)(va:Value):List Value:= [aB x.key,va, .int .u64 (x.fl:Int), .int .i64 (x.exp:Int), .int .u64 (x.tok:Int), .int .i64 (x.tch:Int), .bool (decide (x.dB/2 % 2=1)), .bool (decide (x.dB/4 % 2=1)), .bool (decide (x.dB/8 % 2=1))]
theorem bS (m:Nat):(!decide (((m/2 % 2*2:Nat):Int)=0))=decide (m/2 % 2=1):=by
 have:m/2 % 2=0∨m/2 % 2=1:=by omega
 rcases this with h|h<;>rw[h]<;>rfl
theorem cG (m:Nat):(!decide (((m/4 % 2*4:Nat):Int)=0))=decide (m/4 % 2=1):=by
 have:m/4 % 2=0∨m/4 % 2=1:=by omega
 rcases this with h|h<;>rw[h]<;>rfl
theorem IY (m:Nat):(!decide (((m/8 % 2*8:Nat):Int)=0))=decide (m/8 % 2=1):=by
 have:m/8 % 2=0∨m/8 % 2=1:=by omega
 rcases this with h|h<;>rw[h]<;>rfl
theorem zg (z:Ly)(M:Mo)(p:Nat)(hp:M.has p):aH acw 41 [.pointer (some ⟨z.s,0,none⟩), .int .u64 (M.C.hd p:Int)] (λ_=>True) [SW z M]
  (λv H=>∃vb,v= .agg (jQ (M.it p) (.slice (some ⟨vb,0,none⟩) (M.it p).val.length (M.it p).val.length)).toArray∧H= [own (some ⟨vb,0,none⟩) (M.it p).val.length 5 1 (ai (M.it p).val),SW z M]):=by
 refine ae func41 rfl ntmps41 rfl ?_;intro F _;refine ay ?_;refine Lp (oA T.uc λb1=> ?_);refine ay ?_;refine aC (λ_ x=>dK x) ?_;refine yP λwa wc=>fK λB O=> ?_;unfold fQ gY k8 gJ pV iZ lQ;dsimp only[Mo.aK];refine bd ?_;have eK:=(O.al p).2 hp;have rdc:=xf z.y.b B.C O.k p (O.sM eK) (O.t.it p eK);rw[O.hd,show(M.aK wa wc).C=M.C from rfl]at rdc;obtain⟨f1,f2,f3,f4,f5,f6,f7⟩:=O.je eK;have vM:=(O.BY eK).2;rw[show(M.aK wa wc).it p=M.it p from rfl]at f1 f2 f3 f4 f5 f6 f7 vM;have lk:kl B.C.A p=(M.it p).key.length:=by rw[←f5];exact(dC _ _ _).symm
 have lv:vl B.C.A p=(M.it p).val.length:=by rw[←f6];exact(dC _ _ _).symm
 rw[show rd B.C.A (p+40) 4=(M.it p).fl from f7,show rd B.C.A (p+16) 8=(M.it p).exp from f1,show rd B.C.A (p+24) 8=(M.it p).tch from f2,show rd B.C.A (p+32) 8=(M.it p).tok from f3,show rd B.C.A (p+46) 1=(M.it p).dB from f4,lk,lv,f5,f6]at rdc;generalize rd B.C.A (p+45) 1=stt at*;refine bH ?_;refine Lp (oC T.G9 rfl rfl (rdc) .nil (λ_ le aw=>aw.nth 0 rfl) ?_);rintro v H' ⟨kb,vb,rfl,rfl⟩;refine bd ?_;refine aZ ?_;refine Lp (oA T.bW λb2=> ?_);refine Lp (eJ T.dR ?_ (h1:=by simp[D8,Value.oneCell']));refine bc ?_;refine Lp (oTs T.eC T.qw T.kk ?_);refine gR ?_;refine ao (t:=32) (v':=(.int .i64 (((M.it p).dB/2 % 2*2:Nat):Int))) rfl (by exact congrArg (λx=>Value.int .i64 (x.getD 0)) (acg _ vM)) ?_;refine ay ?_;refine ao (t:=33) (v':=(.bool (decide ((M.it p).dB/2 % 2=1)))) rfl (by exact congrArg Value.bool (bS _)) ?_;refine aZ ?_;refine ao (t:=36) (v':=(.int .i64 (((M.it p).dB/4 % 2*4:Nat):Int))) rfl (by exact congrArg (λx=>Value.int .i64 (x.getD 0)) (acf _ vM)) ?_;refine ay ?_;refine ao (t:=37) (v':=(.bool (decide ((M.it p).dB/4 % 2=1)))) rfl (by exact congrArg Value.bool (cG _)) ?_;refine aZ ?_;refine ao (t:=40) (v':=(.int .i64 (((M.it p).dB/8 % 2*8:Nat):Int))) rfl (by exact congrArg (λx=>Value.int .i64 (x.getD 0)) (ace _ vM)) ?_;refine ay ?_;refine ao (t:=41) (v':=(.bool (decide ((M.it p).dB/8 % 2=1)))) rfl (by exact congrArg Value.bool (IY _)) ?_;refine ay ?_;refine Lp (eJ T.mD ?_ (h1:=by simp[bU,Value.cells,Value.oneCell',aB]));refine a8 ?_;refine Hh (H':= [Cl z.y.b B.C,ag z.y.t 145 (fA z.y.b B.W B.ty),ag B.ty.nk 163 (aJ (aA B.W.nb)),jV B.ty.ok 163 (aJ (aA B.W.ob)),ag z.y.q 139 (fP z.y.b z.qb B.C.af.length),ag z.qb 327 (M.Q.flatMap (eH B.C)),gZ z.y.cr z.y.q z.y.wh B.C.af.length (bJ z.s) (bI z.s) B.C M.x,Wl z.y.wh B.E M.tn,ag z.s 111 [.pointer (some ⟨z.y.b,0,none⟩), .pointer (some ⟨z.y.ck,0,none⟩), .pointer (some ⟨z.y.t,0,none⟩), .pointer (some ⟨z.y.lu,0,none⟩), .pointer (some ⟨z.y.wh,0,none⟩), .pointer (some ⟨z.y.cr,0,none⟩), .pointer (some ⟨z.y.mo,0,none⟩), .pointer (some ⟨z.y.q,0,none⟩), .int .i64 M.v.c.aq, .int .i64 M.v.c.cH, .int .i64 M.v.c.fac, .int .i64 M.v.c.bO, .int .i64 M.v.c.lim, .int .i64 M.v.c.hot, .int .i64 M.v.c.warm, .int .i64 M.v.p.b, .int .i64 M.v.p.l, .int .i64 M.v.p.c, .int .i64 M.v.p.m, .int .u64 (M.v.aM:Int), .int .i64 (M.v.gr:Int), .int .i64 M.v.mt.dr, .int .i64 M.v.mt.re, .int .i64 M.v.mt.bu, .int .i64 M.v.mt.li, .int .i64 M.v.mt.lo, .int .i64 M.v.mt.cr, .int .i64 M.v.mt.mv, .slice wa M.jz.length wc],lD z.y.ck M.k,jN z.y.lu z.y.b z.y.q z.hot z.warm,oa z.y.mo z.y.b z.ub (bJ z.s) (bI z.s) (cK z.s) M.m,oz z.ub M.m,own wa wc 3 1 (aV M.jz),own (some ⟨vb,0,none⟩) (M.it p).val.length 5 1 (ai (M.it p).val),ag b1 49 (jQ (M.it p) (.slice (some ⟨vb,0,none⟩) (M.it p).val.length (M.it p).val.length))]) ?_;refine aC (aQ O (H:= [own (some ⟨vb,0,none⟩) (M.it p).val.length 5 1 (ai (M.it p).val),ag b1 49 (jQ (M.it p) (.slice (some ⟨vb,0,none⟩) (M.it p).val.length (M.it p).val.length))])) ?_;refine aC (gm (M:=M) wa wc) ?_;refine ko [own (some ⟨vb,0,none⟩) (M.it p).val.length 5 1 (ai (M.it p).val),SW z M] T.mD results41 ?_;exact⟨vb,rfl,rfl⟩
theorem JE (z:Ly)(M:Mo)(hh:M.hole=none)(c:Nat)(hc:c<M.iW):aH acw 101 [.pointer (some ⟨z.y.b,0,none⟩), .int .i64 (c:Int)] (λ_=>True) [SH z M]
  (λv H=>(M.take c=none∧v= .tuple #[.int .u64 0, .int .i64 21]∧H= [SH z M])∨∃r N,M.take c=some (r,N)∧v= .tuple #[.int .u64 (N.C.hd r:Int), .int .i64 0]∧H= [SH z N]):=
 fg λB O=>by
  have jw:c<B.C.af.length:=by rw[O.iW];exact hc
  have h:=(Va z.y.b B.C O.k c jw).fr (H:=fQ z B M++ []) (R:=(fQ z B M).tail) (.cons .here .nil) (λk aw=>trivial);refine h.out ?_;rintro v H' ⟨H0,hr,rfl⟩;rcases hT:B.C.eA c with _|⟨r,D⟩
  ·rw[hT]at hr
   obtain⟨rfl,rfl⟩:=hr;exact⟨[SH z M], .inl ⟨O.takeN hT,rfl,rfl⟩,λk s=>aQ O (H:= []) k s⟩
  rw[hT]at hr;obtain⟨rfl,rfl⟩:=hr;obtain⟨N,n1,n2,n3,n4,O1,X⟩:=O.take hh jw hT;refine⟨[SH z N], .inr ⟨r,N,n1,by rw[n2],rfl⟩,λk s=>aQ O1 (H:= []) k ?_⟩;have S:BH B.C (D.wA B.C.A) (λq=>q∈B.W.all):=⟨rfl,X.sz,λq _ M=>⟨((X.lv q).2 (.inl M)).wA _,(X.hd q M).1,(X.hd q M).2⟩⟩;have e_ls:M.Q.flatMap (eH B.C)=M.Q.flatMap (eH D):=(S.ls O.o λi q h=>O.sO h).symm;have e_cr:vT z.y.q z.y.wh D.af.length (bJ z.s) (bI z.s) B.C M.x=vT z.y.q z.y.wh D.af.length (bJ z.s) (bI z.s) D M.x:=(S.cw O.o (λi q h=>O.sO h) O.x _ _ _ _ _).symm;have e_sz:B.C.af.length=D.af.length:=by rw[X.sz]
  change ak ([Cl z.y.b D]++ [ag z.y.t 145 (fA z.y.b B.W B.ty),ag B.ty.nk 163 (aJ (aA B.W.nb)),jV B.ty.ok 163 (aJ (aA B.W.ob)),ag z.y.q 139 (fP z.y.b z.qb B.C.af.length),ag z.qb 327 (M.Q.flatMap (eH B.C)),ag z.y.cr 177 (vT z.y.q z.y.wh B.C.af.length (bJ z.s) (bI z.s) B.C M.x),Wl z.y.wh B.E M.tn,gY z.s z.y (gJ M.v),
   lD z.y.ck M.k,jN z.y.lu z.y.b z.y.q z.hot z.warm,oa z.y.mo z.y.b z.ub (bJ z.s) (bI z.s) (cK z.s) M.m,oz z.ub M.m,lQ M]) k at s
  rw[e_ls,e_sz,e_cr]at s;rw[n4];exact s
def Mo.pick (M:Mo)(c:Nat)(own:Option Nat):Option Nat×Bool×Nat:=Cc (λp=>decide (M.bV p≠0)) (λp=>decide ((M.it p).dB % 2=1)) own 5 (M6 M.Q c)
theorem Vt{Q:List (List Nat)}{c p:Nat}(hp:p∈M6 Q c):∃i,p∈ql Q i:=by
 unfold M6 at hp;rw[adw,adw,ag7,ag7,ag7]at hp;rcases hp with(h|h)|h<;>exact⟨_,h⟩
theorem Q1{d a:Nat→Bool}{own:Option Nat}{n:Nat}{l:List Nat}{p:Nat}(h:(Cc d a own n l).1=some p):p∈l∧some p≠own:=by
 have hs:∀p∈(EG own l).take n,p∈l∧some p≠own:=λp hp=>by
  obtain⟨h1,h2⟩:=adf.1 (ahW hp);exact⟨h1,of_decide_eq_true h2⟩
 unfold Cc Nw at h;refine hs p ?_;generalize (EG own l).take n=r at*;cases hf:r.findIdx? d with
 |some i=>rw[hf]at h;exact acB h
 |none=>
  rw[hf]at h;dsimp only at h;cases hg:r.find? (λq=> !a q)with
  |some q=>rw[hg]at h;cases h;exact adA hg
  |none=>rw[hg]at h;exact List.mem_of_mem_head? h
def Mo.ia (M:Mo)(c:Nat):Mo:={M with m:=M.m.qN c}
def Mo.last (M:Mo)(c p:Nat):Option Nat×Mo:=match(M.cD p).take c with
 |some (r,N)=>(some r,N)
 |none=>(none,M.cD p)
def Mo.NL (M:Mo)(c:Nat):Option Nat→Bool→Option Nat×Mo
 |none,true=>(none,M)
 |none,false=>(none,M.ia c)
 |some p,true=>(M.bj {M.v.mt with re:=dy (M.v.mt.re+1)}).last c p
 |some p,false=>((M.ia c).bj {(M.ia c).v.mt with dr:=dy ((M.ia c).v.mt.dr+1)}).last c p
def Mo.qo (M:Mo)(c:Nat)(own:Option Nat):Option Nat×Mo:=(M.bj {M.v.mt with lo:=dy (M.v.mt.lo+((M.pick c own).2.2:Int))}).NL c (M.pick c own).1 (M.pick c own).2.1
def Mo.wj (M:Mo)(c:Nat)(own:Option Nat):Option Nat×Mo:=match M.take c with
 |some (r,N)=>(some r,N)
 |none=>if M.m.on=true∧M.m.fr=c then(match M.mstop.take c with
  |some (r,N)=>(some r,N)
  |none=>M.mstop.qo c own)else M.qo c own
def Mo.room (M:Mo)(n:Nat)(own:Option Nat):Option Nat×Mo:=match M.C.af.findIdx? λz=>decide (n≤z)with
 |none=>(none,M)
 |some c=>M.wj c own
theorem bY.qB{B:Bx}{M:Mo}(O:bY B M){p:Nat}(hp:M.has p):M.C.hd p≠0:=by
 have h:=(cB O.k (O.om ((O.al p).2 hp))).2.2.2.2.2;rw[O.hd]at h;exact h
theorem JJ (z:Ly)(M:Mo)(hh:M.hole=none)(iY:M.m.st<4611686018427387904)(vW:0<M.C.spare)(kn vn:Nat)(hk:1≤kn∧kn≤250)(hv:vn≤1048576)(own:Option Nat)(vX:∀p,own=some p→M.has p):
  aH acw 117 [.pointer (some ⟨z.s,0,none⟩), .int .i64 (kn:Int), .int .i64 (vn:Int), .int .u64 (vP M.C own:Int)] (λ_=>True) [SH z M]
   (λw H=>∃o N,M.room (58+kn+vn) own=(o,N)∧w= .int .u64 (vP N.C o:Int)∧H= [SH z N]):=by
 refine ae func117 rfl ntmps117 rfl ?_;intro F _;refine bB ?_;refine zl T.OX (C6 kn vn hk hv) .nil (λ_ _ _=>trivial) ?_;refine bB ?_;refine fK λB O=> ?_;have fo:=aaX z.y.b B.C O.k (58+kn+vn) (by omega);rw[show B.C.af=M.C.af by rw[O.c];rfl]at fo;have fb:=λc (h:(M.C.af.findIdx? λz=>decide (58+kn+vn≤z))=some c)=>(show c<M.iW from(acV.1 h).1);have hXn:=λp hp=>O.qB (p:=p) hp;have hXhd:∀p,M.has p→M.m.on=true→M.mstop.C.hd p=M.C.hd p:=λp hp qA=>by
  have h:=(((O.stay qA).1).lv p ((O.al p).2 hp) (O.sM ((O.al p).2 hp))).2.1;rw[O.hd]at h;rw[←h];show(M.C.lE M.m.pg).hd p=(B.C.lE M.m.pg).hd p;rw[O.c];rfl
 unfold fQ gY k8 gJ pV iZ;refine bd ?_;refine bH ?_;refine Lp (oC T.abi rfl rfl (fo) .nil (λ_ le aw=>aw.nth 0 rfl) ?_);rintro v H' ⟨Xm,rfl⟩;refine bd ?_;rcases hf:(M.C.af.findIdx? λz=>decide (58+kn+vn≤z))with _|c
 ·rw[hf]at Xm
  subst Xm;refine kx ?_;refine Hh (H':=mZ z B.C B.W B.ty B.C.af.length (M.Q.flatMap (eH B.C)) M.x B.E M.tn (M.v,[.int .u64 (M.v.aM:Int), .int .i64 (M.v.gr:Int), .int .i64 M.v.mt.dr, .int .i64 M.v.mt.re, .int .i64 M.v.mt.bu, .int .i64 M.v.mt.li, .int .i64 M.v.mt.lo, .int .i64 M.v.mt.cr, .int .i64 M.v.mt.mv, .slice M.v.wa M.v.wn M.v.wc]) M.k M.m M []) ?_;unfold mZ yg;refine aC (aQ O (H:= [])) ?_;refine Rt [SH z M] results117 ?_;exact⟨none,M,by unfold Mo.room;rw[hf],rfl,rfl⟩
 rw[hf]at Xm;subst Xm;have hXc:=fb c hf;have hrc:M.room (58+kn+vn) own=M.wj c own:=by unfold Mo.room;rw[hf]
 refine fF ?_;refine Hh (H':=mZ z B.C B.W B.ty B.C.af.length (M.Q.flatMap (eH B.C)) M.x B.E M.tn (M.v,[.int .u64 (M.v.aM:Int), .int .i64 (M.v.gr:Int), .int .i64 M.v.mt.dr, .int .i64 M.v.mt.re, .int .i64 M.v.mt.bu, .int .i64 M.v.mt.li, .int .i64 M.v.mt.lo, .int .i64 M.v.mt.cr, .int .i64 M.v.mt.mv, .slice M.v.wa M.v.wn M.v.wc]) M.k M.m M []) ?_;unfold mZ yg;refine aC (aQ O (H:= [])) ?_;refine ND λB O=> ?_;refine fK λB O=> ?_;unfold fQ gY k8 gJ pV iZ;refine bd ?_;refine bH ?_;refine Hh (H':=mZ z B.C B.W B.ty B.C.af.length (M.Q.flatMap (eH B.C)) M.x B.E M.tn (M.v,[.int .u64 (M.v.aM:Int), .int .i64 (M.v.gr:Int), .int .i64 M.v.mt.dr, .int .i64 M.v.mt.re, .int .i64 M.v.mt.bu, .int .i64 M.v.mt.li, .int .i64 M.v.mt.lo, .int .i64 M.v.mt.cr, .int .i64 M.v.mt.mv, .slice M.v.wa M.v.wn M.v.wc]) M.k M.m M []) ?_;unfold mZ yg;refine aC (aQ O (H:= [])) ?_;refine Lp (oC T.abP rfl rfl (JE z M hh c hXc) (.cons .here .nil) (λ_ _ _=>trivial) ?_);rintro v H' hr;refine bd ?_;rcases hr with⟨ht,rfl,rfl⟩|⟨r,N,ht,rfl,rfl⟩
 ·obtain⟨p0,D0,hD0,_⟩:=uv O.mc0 (show c<M.C.af.length from hXc) vW
  unfold Mo.take at ht;rw[hD0]at ht;cases ht
 refine Li Mv ?_;refine bw ?_;refine zf 47 ?_ (e:=by rfl);refine bT ?_;refine aR ?_;refine Rt [SH z N] results117 ?_;exact⟨some r,N,by rw[hrc];unfold Mo.wj;rw[ht],rfl,rfl⟩
def Mo.Up (M:Mo):Prop:=M.mg=0∧3*M.nb<2*(M.n+1)∧M.nb<M.aF
instance (M:Mo):Decidable M.Up:=by unfold Mo.Up;infer_instance
def jW (Q:List (List Nat))(i p:Nat):List (List Nat):=Q.set i (p::ql Q i)
def Mo.iF (M:Mo)(r:Nat)(n:I3):Mo:=
 {M with hole:=none,Q:=jW M.Q (qi (M.C.cl r) 1) r,it:=λq=>if q=r then{n with dB:=mkSet n.dB false}else M.it q,ord:=λq=>if q=r then M.tn+1 else M.ord q,tn:=if 0<n.exp then M.tn+1 else M.tn,n:=M.n+1,nb:=if M.Up then 2*M.nb else M.nb,mg:=if M.Up then M.nb else M.mg,v:={M.v with gr:=M.v.gr+n.sz}}
theorem iP{Q:List (List Nat)}{i p q j:Nat}(hi:i<Q.length):q∈ql (jW Q i p) j↔(j=i∧q=p)∨q∈ql Q j:=by
 unfold jW;rw[fG hi];by_cases e:j=i
 ·rw[if_pos e,acT,e]
  exact⟨λh=>h.imp (λh=>⟨rfl,h⟩) id,λh=>h.imp (λh=>h.2) id⟩
 rw[if_neg e];exact⟨.inr,λh=>h.resolve_left λg=>e g.1⟩
theorem bY.iF{B:Bx}{M:Mo}(O:bY B M){r:Nat}(hr:M.hole=some r)(I:ic B.C r)(n:I3)(eO:nQ B.C.A r=n)(hm:n.dB<16)(D4:cO n.key=true){A2 A3:By}{V:Tb}{ty:p9}(hy:ty.ok=none→V.ob= [])(PK:YF B.C B.W r A2 V)(EK:NS (B.C.wA A2) r A3 (jW M.Q (qi (B.C.cl r) 1) r)):
  bY ⟨B.C.wA A3,V,ty,ky B.E (B.C.hd r) n.exp M.tn⟩ (M.iF r n):=by
 have K:=O.k;have yj:r∉B.W.all:=O.ho r hr;have L:Live B.C r:=(O.lv r).2 (.inr hr);have jw:=(L.toAt.bo K).1;have Ue:=nS O.o jw (s:=1) ⟨acG _,by omega⟩;have fb:B.C.cl r=M.C.cl r:=O.cl r;have BB:∀q,q∈V.all↔q=r∨q∈B.W.all:=λq=>by rw[PK.pm.mem_iff,acT]
 have lv_:∀q,q=r∨q∈B.W.all→Live B.C q:=λq h=>h.elim (λe=>e▸L) O.sM;have io_:∀q,q=r∨q∈B.W.all→ic B.C q:=λq h=>h.elim (λe=>e▸I) (O.t.it q);have d1:dx B.C B.C.A A2 (λq o=>q=r∧o<4):=(yT PK.df (λq hq=>by rw[acX.1 hq];exact L.toAt) (λq hq=>by rw[acX.1 hq];have:=(L.toAt.bo K).2.1;omega)).mono λq o g=>by
  obtain⟨g1,_,g3⟩:=g;exact⟨acX.1 g1,by omega⟩
 have d2:dx B.C A2 A3 (SL r):=EK.d.wA;have dd:dx B.C B.C.A A3 (λq o=>o<12∨(o=45∨o=46)∧q=r):=(d1.mono λq o g=>by omega).trans (d2.mono λq o g=>by unfold SL at g;omega);have same:∀q∈B.W.all,nQ A3 q=nQ B.C.A q:=λq h=>wo K dd (O.om h) (O.t.it q h) λj s=>by
  have ne:q≠r:=λe=>yj (e▸h);rcases s with s|s
  ·omega
  exact absurd s.2 ne
 have mr:dE A3 r=mkSet n.dB false:=by
  rw[EK.mr];have:dE A2 r=dE B.C.A r:=lA K d1 L.toAt (by have:=(L.toAt.bo K).2.1;omega) λj h1 h2 s=>by omega
  rw[show dE (B.C.wA A2).A r=dE B.C.A r from this,show dE B.C.A r=n.dB from congrArg I3.dB eO]
 have Nv:nQ A3 r={n with dB:=mkSet n.dB false}:=by
  rw[E5 K dd L.toAt I λj s=>by omega,eO,mr]
 have nit:∀q∈V.all,nQ A3 q=(M.iF r n).it q:=λq h=>by
  show _=if q=r then _ else M.it q
  rcases(BB q).1 h with e|h1
  ·rw[if_pos e,e];exact Nv
  rw[if_neg λe:q=r=>yj (e▸h1),same q h1];exact O.it q h1
 have jO:∀q,Live (B.C.wA A3) q↔Live B.C q:=λq=>⟨λh=>⟨⟨h.i,h.own,h.al,h.k⟩,h.tk⟩,λh=>h.wA _⟩;have hmq:∀q∈V.all,dE A3 q<16:=λq h=>by
  rcases(BB q).1 h with e|h1
  ·rw[e,mr]
   have:=kQ hm false;omega
  rw[show dE A3 q=dE B.C.A q from congrArg I3.dB (same q h1)];obtain⟨i,hi⟩:=(O.al q).1 h1;exact O.mq i q hi
 have al_:∀q,q∈V.all↔∃j,q∈ql (M.iF r n).Q j:=λq=>by
  rw[BB];show _↔∃j,q∈ql (jW M.Q (qi (M.C.cl r) 1) r) j;rw[←fb]
  constructor
  ·rintro(e|h)
   ·exact⟨_,(iP Ue).2 (.inl ⟨rfl,e⟩)⟩
   obtain⟨j,hj⟩:=(O.al q).1 h;exact⟨j,(iP Ue).2 (.inr hj)⟩
  rintro⟨j,hj⟩;rcases(iP Ue).1 hj with⟨_,e⟩|h
  ·exact .inl e
  exact .inr (O.sO h)
 have h0:=O.st0;have IV:=O.nb;have hn:=O.n;have Eo:=O.mg;have hmo:=O.mo;have hgr:M.Up↔oQ B.W:=by unfold Mo.Up oQ;rw[h0,IV,hn,hmo]
 have MB:=O.t.ML;have UJ:∀q∈B.W.all,B.C.hd q≠B.C.hd r:=λq h e=>yj ((nu K (O.om h) L.toAt e)▸h);refine⟨?_,K.wA A3, ?_,hy, ?_, ?_,λj q h=>hmq q ((al_ q).2 ⟨j,h⟩),O.ck,al_,λq=> ?_,λq h=>(by cases h),nit, ?_, ?_, ?_, ?_, ?_, ?_,O.un,O.on,O.go,O.wn,O.cf, ?_,λq h=> ?_⟩
 ·show B.C.wA A3=M.C.wA A3
  conv=>lhs;rw[O.c]
  rfl
 ·exact I6 (K.wA A2) PK.o EK.d λq _ j g=>⟨by unfold SL at g;unfold mz;omega,by unfold SL at g;omega⟩
 ·show iV (B.C.wA A3) (jW M.Q (qi (M.C.cl r) 1) r)
  rw[←fb];exact EK.o
 ·show cZ B.C.af.length (jW M.Q (qi (M.C.cl r) 1) r) M.x
  rw[←fb];exact⟨O.x.go,O.x.no,λq h=>⟨(iP Ue).2 (.inr (O.x.nx q h).1),(O.x.nx q h).2⟩,O.x.lf⟩
 ·show Live (B.C.wA A3) q↔q∈V.all∨none=some q
  rw[jO,O.lv,BB,hr]
  constructor
  ·rintro(h|h)
   ·exact .inl (.inr h)
   exact .inl (.inl (Option.some.inj h).symm)
  rintro((h|h)|h)
  ·exact .inr (by rw[h])
  ·exact .inl h
  cases h
 ·have e1:iU (B.C.wA A3) (M.iF r n) B.W.all=iU B.C M B.W.all:=fU λq h=>by
   have ne:q≠r:=λe=>yj (e▸h);refine⟨?_,if_neg ne,rfl⟩;show(if q=r then _ else M.it q).exp=_;rw[if_neg ne]
  have e2:iU (B.C.wA A3) (M.iF r n) (r::B.W.all)=if 0<n.exp then⟨B.C.hd r,n.exp,M.tn+1⟩::iU B.C M B.W.all else iU B.C M B.W.all:=by
   rw[kU,e1,show(M.iF r n).it r={n with dB:=mkSet n.dB false}from if_pos rfl,show(M.iF r n).ord r=M.tn+1 from if_pos rfl];rfl
  refine acN.trans ?_ ((acN.of_eq e2.symm).trans (kT PK.pm.symm));have p1:(eX B.E (B.C.hd r)).Perm (iU B.C M B.W.all):=(O.e.filter _).trans (acN.of_eq (mN UJ));unfold ky
  split
  ·exact p1.cons _
  exact p1
 ·intro h2
  show V.mv<V.ob.length;by_cases g:oQ B.W
  ·obtain⟨_,_,e1,e2⟩:=PK.YV g
   rw[e1,e2];omega
  obtain⟨_,e1,e2,e3⟩:=PK.same g;rw[e2,e3];exact O.st (by rw[←e1];exact h2)
 ·show V.size=if M.Up then 2*M.nb else M.nb
  by_cases g:oQ B.W
  ·rw[if_pos (hgr.2 g),(PK.YV g).1,IV]
  rw[if_neg λe=>g (hgr.1 e),(PK.same g).1,IV]
 ·show(if M.Up then M.nb else M.mg)=if V.st=2 then V.ob.length-V.mv else 0
  by_cases g:oQ B.W
  ·obtain⟨_,e1,e2,e3⟩:=PK.YV g
   rw[if_pos (hgr.2 g),if_pos e1,e2,e3,IV];rfl
  obtain⟨_,e1,e2,e3⟩:=PK.same g;rw[if_neg λe=>g (hgr.1 e),e1,e2,e3];exact Eo
 ·exact PK.aF.trans hmo
 ·show M.v.gr+n.sz=(V.all.map λq=>((M.iF r n).it q).sz).sum
  rw[o4 _ PK.pm,acM,ac0,show((M.iF r n).it r).sz=n.sz by rw[show(M.iF r n).it r={n with dB:=mkSet n.dB false}from if_pos rfl];rfl,O.bt];rw[show(B.W.all.map λq=>((M.iF r n).it q).sz)=B.W.all.map λq=>(M.it q).sz from agB λq h=>by
   show(if q=r then _ else M.it q).sz=_;rw[if_neg λe:q=r=>yj (e▸h)]]
  omega
 ·show V.n=M.n+1
  rw[PK.n,hn]
 show cO (if q=r then{n with dB:=mkSet n.dB false}else M.it q).key=true;rcases(BB q).1 h with e|h1
 ·rw[if_pos e];exact D4
 rw[if_neg λe:q=r=>yj (e▸h1)];exact O.lg q h1
def Mo.nq (M:Mo)(p r:Nat)(n:I3):Mo:=
 {M with C:=M.C.bz p,hole:=none,Q:=jW (gS M.Q p) (qi (M.C.cl r) 1) r,it:=λq=>if q=r then{n with dB:=mkSet n.dB false}else M.it q,ord:=λq=>if q=r then M.tn+1 else M.ord q,tn:=if 0<n.exp then M.tn+1 else M.tn,x:=M.x.left M.Q p,v:={M.v with gr:=M.v.gr+n.sz-(M.it p).sz}}
theorem bY.nq{B:Bx}{M:Mo}(O:bY B M){p r:Nat}(hp:M.has p)(hr:M.hole=some r)(I:ic B.C r)(n:I3)(eO:nQ B.C.A r=n)(hm:n.dB<16)(D4:cO n.key=true){A2 A3 A4:By}{V:Tb}{ty:p9}(hy:ty.ok=none→V.ob= [])(T:P4 B.C B.W p r A2 V)
  (OF:YH (B.C.wA A2) p A3 (gS M.Q p) (M.x.left M.Q p)) (EK:NS (((B.C.wA A2).wA A3).bz p) r A4 (jW (gS M.Q p) (qi (B.C.cl r) 1) r)):
  bY ⟨(((B.C.wA A2).wA A3).bz p).wA A4,V,ty,eX (ky B.E (B.C.hd r) n.exp M.tn) (B.C.hd p)⟩ (M.nq p r n):=by
 have K:=O.k;have eK:=(O.al p).2 hp;have Lp:=O.sM eK;have yj:r∉B.W.all:=O.ho r hr;have YJ:r≠p:=λe=>yj (e▸eK);have L:Live B.C r:=(O.lv r).2 (.inr hr);have jw:=(L.toAt.bo K).1;have fb:B.C.cl r=M.C.cl r:=O.cl r;obtain⟨rest,pm1,pm2⟩:=T.pm;have nd1:=acP.1 (pm1.nodup_iff.1 O.t.nd);have inr:∀q,q∈rest↔q∈B.W.all∧q≠p:=λq=>by
  rw[pm1.mem_iff,acT];exact⟨λh=>⟨.inr h,λe=>nd1.1 (e▸h)⟩,λh=>h.1.resolve_left h.2⟩
 have BB:∀q,q∈V.all↔q=r∨q∈B.W.all∧q≠p:=λq=>by rw[pm2.mem_iff,acT,inr]
 have lv_:∀q,q=r∨q∈B.W.all→Live B.C q:=λq h=>h.elim (λe=>e▸L) O.sM;have io_:∀q,q=r∨q∈B.W.all→ic B.C q:=λq h=>h.elim (λe=>e▸I) (O.t.it q);have Ue:qi (B.C.cl r) 1<(gS M.Q p).length:=by
  unfold gS;rw[acU];exact nS O.o jw (s:=1) ⟨acG _,by omega⟩
 have d1:dx B.C B.C.A A2 (λ_ o=>o<4):=(yT T.df (λq hq=>(lv_ q ((acT.1 hq).imp id id)).toAt) (λq hq=>by have:=((lv_ q ((acT.1 hq).imp id id)).toAt.bo K).2.1;omega)).mono λq o g=>by omega
 have d2:dx B.C A2 A3 (SQ p):=OF.d.wA;have d3:dx B.C A3 A4 (SL r):=λi hi=>by
  obtain⟨q,o,q1,q2,q3,q4⟩:=EK.d i hi;have S:=(gX (K.wA A3) (Lp.wA A3)).2;have a:=(S.at (p:=q)).1 ⟨q1.i,q1.own,q1.al,q1.k⟩;refine⟨q,o,⟨a.i,a.own,a.al,a.k⟩, ?_,q3,q4⟩;have e1:((((B.C.wA A2).wA A3).bz p)).cl q=B.C.cl q:=S.cl q;rw[e1]at q2;exact q2
 have dd:dx B.C B.C.A A4 (λq o=>o<12∨o=45∨o=46∧q=r):=((d1.mono λq o g=>by omega).trans (d2.mono λq o g=>by unfold SQ at g;omega)).trans (d3.mono λq o g=>by unfold SL at g;omega);have same:∀q∈B.W.all,nQ A4 q=nQ B.C.A q:=λq h=>wo K dd (O.om h) (O.t.it q h) λj s=>by
  have ne:q≠r:=λe=>yj (e▸h);rcases s with s|s|s
  ·omega
  ·omega
  exact absurd s.2 ne
 have d12:dx B.C B.C.A A3 (λq o=>o<12∨o=45):=(d1.mono λq o g=>by omega).trans (d2.mono λq o g=>by unfold SQ at g;omega);have mr:dE A4 r=mkSet n.dB false:=by
  rw[EK.mr];have:dE A3 r=dE B.C.A r:=lA K d12 L.toAt (by have:=(L.toAt.bo K).2.1;omega) λj h1 h2 s=>by omega
  rw[show dE (((B.C.wA A2).wA A3).bz p).A r=dE B.C.A r from this,show dE B.C.A r=n.dB from congrArg I3.dB eO]
 have Nv:nQ A4 r={n with dB:=mkSet n.dB false}:=by
  rw[E5 K dd L.toAt I λj s=>by omega,eO,mr]
 have nit:∀q∈V.all,nQ A4 q=(M.nq p r n).it q:=λq h=>by
  show _=if q=r then _ else M.it q
  rcases(BB q).1 h with e|⟨h1,h2⟩
  ·rw[if_pos e,e];exact Nv
  rw[if_neg λe:q=r=>yj (e▸h1),same q h1];exact O.it q h1
 have jO:∀q,Live ((((B.C.wA A2).wA A3).bz p).wA A4) q↔Live B.C q∧q≠p:=λq=>by
  have h1:=pS (K.wA A3) (Lp.wA A3) q;refine Iff.trans ⟨λh=> ?_,λh=> ?_⟩ (h1.trans ⟨λh=>⟨⟨⟨h.1.i,h.1.own,h.1.al,h.1.k⟩,h.1.tk⟩,h.2⟩,λh=>⟨h.1.wA _,h.2⟩⟩)
  ·exact⟨⟨h.i,h.own,h.al,h.k⟩,h.tk⟩
  exact⟨⟨h.i,h.own,h.al,h.k⟩,h.tk⟩
 have IW:∀q,Live B.C q→q≠p→((((B.C.wA A2).wA A3).bz p).wA A4).hd q=B.C.hd q:=λq h ne=>((mI (K.wA A3) (Lp.wA A3)).lv q ne (h.wA A3)).2.1;have hmq:∀q∈V.all,dE A4 q<16:=λq h=>by
  rcases(BB q).1 h with e|⟨h1,h2⟩
  ·rw[e,mr]
   have:=kQ hm false;omega
  rw[show dE A4 q=dE B.C.A q from congrArg I3.dB (same q h1)];obtain⟨i,hi⟩:=(O.al q).1 h1;exact O.mq i q hi
 have al_:∀q,q∈V.all↔∃j,q∈ql (M.nq p r n).Q j:=λq=>by
  rw[BB];show _↔∃j,q∈ql (jW (gS M.Q p) (qi (M.C.cl r) 1) r) j;rw[←fb]
  constructor
  ·rintro(e|⟨h,ne⟩)
   ·exact⟨_,(iP Ue).2 (.inl ⟨rfl,e⟩)⟩
   obtain⟨j,hj⟩:=(O.al q).1 h;exact⟨j,(iP Ue).2 (.inr (by rw[iL];exact(ag5 ne).2 hj))⟩
  rintro⟨j,hj⟩;rcases(iP Ue).1 hj with⟨_,e⟩|h
  ·exact .inl e
  rw[iL]at h;exact .inr ⟨O.sO (agJ h),λe=>by subst e;exact(List.Nodup.not_mem_erase (O.o.nd j)) h⟩
 have jv:=λj=>rU (K.wA A3) (Lp.wA A3) j;have hn:=O.n;have IV:=O.nb;have Eo:=O.mg;have Kf:Ok ((((B.C.wA A2).wA A3).bz p).wA A4):=OF.k.wA A4;have hsV:∀q∈V.all,q≠p:=λq h=>((BB q).1 h).elim (λe=>e▸YJ) λg=>g.2;refine⟨?_,Kf, ?_,hy, ?_, ?_,λj q h=>hmq q ((al_ q).2 ⟨j,h⟩),O.ck,al_,λq=> ?_,λq h=>(by cases h),nit, ?_, ?_, ?_, ?_, ?_, ?_, ?_, ?_, ?_,O.wn, ?_, ?_,λq h=> ?_⟩
 ·show(((B.C.wA A2).wA A3).bz p).wA A4=(M.C.bz p).wA A4
  conv=>lhs;rw[O.c]
  rfl
 ·have T2:=I6 (K.wA A2) T.o OF.d λq _ j g=>⟨g.rI,by unfold SQ at g;omega⟩
  have T3:=OF.s.tb T2 hsV;exact I6 OF.k T3 EK.d λq _ j g=>⟨by unfold SL at g;unfold mz;omega,by unfold SL at g;omega⟩
 ·show iV _ (jW (gS M.Q p) (qi (M.C.cl r) 1) r)
  rw[←fb];exact EK.o
 ·show cZ B.C.af.length (jW (gS M.Q p) (qi (M.C.cl r) 1) r) (M.x.left M.Q p)
  rw[←fb];have X:=OF.x;exact⟨X.go,X.no,λq h=>⟨(iP Ue).2 (.inr (X.nx q h).1),(X.nx q h).2⟩,X.lf⟩
 ·show Live _ q↔q∈V.all∨none=some q
  rw[jO,O.lv,BB,hr]
  constructor
  ·rintro⟨h|h,ne⟩
   ·exact .inl (.inr ⟨h,ne⟩)
   exact .inl (.inl (Option.some.inj h).symm)
  rintro((h|h)|h)
  ·exact⟨.inr (by rw[h]),λe=>YJ (h.symm.trans e)⟩
  ·exact⟨.inl h.1,h.2⟩
  cases h
 ·have ja:∀q∈rest,B.C.hd q≠B.C.hd p:=λq h e=>((inr q).1 h).2 (nu K (O.om ((inr q).1 h).1) (O.om eK) e)
  have UJ:∀q∈p::rest,B.C.hd q≠B.C.hd r:=λq h e=>by
   have hq:q∈B.W.all:=(acT.1 h).elim (λe=>e▸eK) λh=>((inr q).1 h).1;exact yj ((nu K (O.om hq) L.toAt e)▸hq)
  have hrp:B.C.hd r≠B.C.hd p:=λe=>UJ p acF e.symm;have e1:iU ((((B.C.wA A2).wA A3).bz p).wA A4) (M.nq p r n) rest=iU B.C M rest:=fU λq h=>by
   obtain⟨g1,g2⟩:=(inr q).1 h;have ne:q≠r:=λe=>yj (e▸g1);refine⟨?_,if_neg ne,IW q (O.sM g1) g2⟩;show(if q=r then _ else M.it q).exp=_;rw[if_neg ne]
  have e2:iU ((((B.C.wA A2).wA A3).bz p).wA A4) (M.nq p r n) (r::rest)=if 0<n.exp then⟨B.C.hd r,n.exp,M.tn+1⟩::iU B.C M rest else iU B.C M rest:=by
   rw[kU,e1,show(M.nq p r n).it r={n with dB:=mkSet n.dB false}from if_pos rfl,show(M.nq p r n).ord r=M.tn+1 from if_pos rfl,IW r L YJ]
  refine acN.trans ?_ ((acN.of_eq e2.symm).trans (kT pm2.symm));have p1:(eX B.E (B.C.hd r)).Perm (iU B.C M (p::rest)):=((O.e.trans (kT pm1)).filter _).trans (acN.of_eq (mN UJ));have p2:(eX (eX B.E (B.C.hd r)) (B.C.hd p)).Perm (iU B.C M rest):=by
   refine(p1.filter _).trans ?_;rw[kU]
   split
   ·rw[agz,if_neg (by simp)]
    exact acN.of_eq (mN ja)
   exact acN.of_eq (mN ja)
  unfold ky
  split
  ·unfold eX at p2⊢
   rw[agz,if_pos (by simpa using hrp)];exact p2.cons _
  exact p2
 ·intro h2
  show V.mv<V.ob.length;rw[T.mv,T.s.ob];exact O.st (by rw[←T.s.st];exact h2)
 ·exact T.s.size.trans IV
 ·show M.mg=if V.st=2 then V.ob.length-V.mv else 0
  rw[T.s.st,T.mv,T.s.ob];exact Eo
 ·exact T.s.aF.trans O.mo
 ·show M.v.gr+n.sz-(M.it p).sz=(V.all.map λq=>((M.nq p r n).it q).sz).sum
  rw[o4 _ pm2,acM,ac0,show((M.nq p r n).it r).sz=n.sz by rw[show(M.nq p r n).it r={n with dB:=mkSet n.dB false}from if_pos rfl];rfl,O.bt,o4 _ pm1,acM,ac0];rw[show(rest.map λq=>((M.nq p r n).it q).sz)=rest.map λq=>(M.it q).sz from agB λq h=>by
   show(if q=r then _ else M.it q).sz=_;rw[if_neg λe:q=r=>yj (e▸((inr q).1 h).1)]]
  omega
 ·exact O.un
 ·intro h
  have:=O.on h;obtain⟨e1,e2,e3⟩:=jv M.m.pg;exact⟨this.1,e1.trans this.2.1,e2.trans this.2.2.1,e3.trans this.2.2.2⟩
 ·intro j h
  exact O.go j ((jv j).2.1.symm.trans h)
 ·exact O.cf
 ·exact T.s.n.trans hn
 show cO (if q=r then{n with dB:=mkSet n.dB false}else M.it q).key=true;rcases(BB q).1 h with e|⟨h1,h2⟩
 ·rw[if_pos e];exact D4
 rw[if_neg λe:q=r=>yj (e▸h1)];exact O.lg q h1
def Mo.lS (M:Mo)(i:Nat):Mo:={M with v:={M.v with aM:=i}}
theorem bY.lS{B:Bx}{M:Mo}(O:bY B M)(i:Nat):bY B (M.lS i):=
 ⟨O.c,O.k,O.t,O.ty,O.o,O.x,O.mq,O.ck,O.al,O.lv,O.ho,O.it,O.e,O.st,O.nb,O.mg,O.mo,O.bt,O.un,O.on,O.go,O.wn,O.cf,O.n,O.lg⟩
def Mo.gf (M:Mo)(r:Nat)(old:Option Nat)(n:I3):Mo:=match old with
 |none=>(M.lS (M.v.aM+1)).iF r n
 |some p=>(M.lS (M.v.aM+1)).nq p r n
theorem bY.aek{B:Bx}{M:Mo}(O:bY B M):M.v.gr≤1125899906842624:=by
 rw[O.bt];have h2:=Aa O.k O.t;rw[O.t.n]at h2;have:∀l:List Nat,(∀p∈l,p∈B.W.all)→(l.map λp=>(M.it p).sz).sum≤l.length*1048576:=λl=>by
  induction l with
  |nil=>intro _;simp
  |cons p l ih=>
   intro h;have hp:=h p acF;have h1:=O.szp hp;have h3:=(O.t.it p hp).fits;have h4:=((O.om hp).bo O.k).2.2.1;have h5:=O.k.toFix.p1;have:=ih λq hq=>h q (acC _ hq);rw[acM,ac0,ac7];omega
 have:=this _ λp h=>h;have h3:B.W.all.length*1048576≤1073741824*1048576:=ac2 _ h2;omega
theorem Vo (z:Ly)(M:Mo)(r:Nat)(hr:M.hole=some r)(old:Option Nat)(k v:List UInt8)(TG Ty:Nat)(oh:TG=k.length)(IU:Ty=v.length)(hold:∀p,old=some p→M.has p∧(M.it p).key=k)(Y2:old=none→M.find k=none)(ka va:Option Addr)(kc vc fl ex mk:Nat)(D4:cO k=true)
  (yr:58+k.length+v.length≤M.C.sz (M.C.cl r)) (BE:fl<4294967296) (hex:ex<9223372036854775808) (vM:mk<16) (qG:M.v.aM+1<18446744073709551616) (tY:M.tn<18446744073709551615):
  aH acw 118 [.pointer (some ⟨z.s,0,none⟩), .int .u64 (M.C.hd r:Int), .int .u64 (vP M.C old:Int), .agg (D8 (.slice ka TG kc) (.slice va Ty vc) fl ex 0 0 0 mk).toArray] (λh=>dU h ka (ai k)∧dU h va (ai v)) [SH z M]
   (λw H=>w= .tuple #[]∧H= [SH z (M.gf r old ⟨k,v,fl,ex,M.k.now,M.v.aM+1,mk⟩)]):=by
 obtain⟨n,hn⟩:∃n:I3,n=⟨k,v,fl,ex,M.k.now,M.v.aM+1,mk⟩:=⟨_,rfl⟩;rw[←hn];refine ae func118 rfl ntmps118 rfl ?_;rintro F ⟨hka,hva⟩;refine ay ?_;refine Lp (oB λb1=> ?_);refine ay ?_;refine aC (λ_ x=>dK x) ?_;refine fK λB O=> ?_;have K:=O.k;have L:Live B.C r:=(O.lv r).2 (.inr hr);have zW:=O.ck.n2;have IW:=O.hd r;have hz4:=(L.toAt.bo K).2.2.1;have Xo:=K.toFix.p1;have NC:58+k.length+v.length≤B.C.sz (B.C.cl r):=by rw[O.c];exact yr
 have YR:=fR D4;have ly:=Ww z.y.b B.C K r L ka va kc vc TG Ty k v oh IU fl ex M.k.now (M.v.aM+1) 4 mk D4 NC BE hex (by omega) qG ⟨by omega,by omega⟩ vM;rw[IW]at ly;have Ui:k.length<256:=by omega
 have hv6:v.length<256^4:=by omega
 have LP:=aaK (c:=B.C.cl r) (fl:=fl) (exp:=ex) (tch:=M.k.now) (tok:=M.v.aM+1) (st:=4) (mk:=mk) L.toAt Ui NC;have Nh:=H9 B.C.A r (B.C.cl r) k v fl ex M.k.now (M.v.aM+1) 4 mk Ui;obtain⟨Zb,f_k,f_v⟩:=Wn B.C.A r (B.C.cl r) k v fl ex M.k.now (M.v.aM+1) 4 mk Ui hv6;have Ze:=Wm B.C.A r (B.C.cl r) k v fl ex M.k.now (M.v.aM+1) 4 mk Ui (by omega);have Zc:=Ry B.C.A r (B.C.cl r) k v fl ex M.k.now (M.v.aM+1) 4 mk Ui (by omega);have aeh:=Rx B.C.A r (B.C.cl r) k v fl ex M.k.now (M.v.aM+1) 4 mk Ui (by omega);have aei:=Wk B.C.A r (B.C.cl r) k v fl ex M.k.now (M.v.aM+1) 4 mk Ui (by omega);have Zd:=Wi B.C.A r (B.C.cl r) k v fl ex M.k.now (M.v.aM+1) 4 mk Ui (by omega);have UN:=Wj B.C.A r (B.C.cl r) k v fl ex M.k.now (M.v.aM+1) 4 mk Ui (by omega);obtain⟨A1,TX⟩:∃A1,A1=lr B.C.A r (B.C.cl r) k v fl ex M.k.now (M.v.aM+1) 4 mk:=⟨_,rfl⟩;rw[←TX]at ly LP Nh Zb f_k f_v Ze Zc aeh aei Zd UN;have eO:nQ (B.C.wA A1).A r=n:=by
  rw[hn];unfold nQ;rw[cS,f_k,f_v,Ze,Zc,aeh,aei,UN]
 have O1:=(O.rC hr LP).lS (M.v.aM+1);have I1:ic (B.C.wA A1) r:=⟨by rw[cS,Nh];omega,by rw[cS,Nh,Zb];exact NC,by rw[cS,show rd A1 (r+16) 8=ex from Ze];exact hex,by rw[cS,show rd A1 (r+24) 8=M.k.now from Zc];omega⟩;have yj:=O.ho r hr;have P1:hG (B.C.wA A1) (some r):=λq e=>by cases e;exact⟨L.wA _,I1⟩
 have ss:=λrest=>CJ z.s z.y rest (B.C.wA A1) O1.k r P1 (by rw[cS,Nh];omega);rw[cS,Nh,Zb]at ss;rw[show(B.C.wA A1).hd r=M.C.hd r from IW]at ss;have hbt:=O.aek;have sT:n.sz=58+k.length+v.length:=by rw[hn];rfl
 have hE:B.E.length<2147483647:=by
  rw[O.e.length_eq];unfold iU;rw[acU];have h1:=ahP (λp=>decide (0<(M.it p).exp)) B.W.all;have h2:=Aa O.k O.t;rw[O.t.n]at h2;omega
 have ws:=IQ z.y.wh B.E M.tn (M.C.hd r) ex tY hE;unfold fQ gY k8 gJ pV iZ D8;refine bd ?_;refine bw ?_;refine au ?_;refine gK 16 T.mix (.cons (.there (.there (.there (.there (.there (.there (.there (.there .here)))))))) .nil) λF1 iT cj aI=> ?_;obtain⟨q1,_⟩:=cj;refine cN ?_;refine Tp (oC T.iz rfl rfl (iS z.y.ck M.k) .nil (λ_ le aw=>aw.nth 8 rfl) ?_);rintro v H' ⟨rfl,rfl⟩;refine bd ?_;refine bB ?_;refine gd aI ?_;refine ay ?_;refine au ?_;refine Hh (H':=mZ z B.C B.W B.ty B.C.af.length (M.Q.flatMap (eH B.C)) M.x B.E M.tn (M.v,[.int .u64 ((M.v.aM+1:Nat):Int), .int .i64 (M.v.gr:Int), .int .i64 M.v.mt.dr, .int .i64 M.v.mt.re, .int .i64 M.v.mt.bu, .int .i64 M.v.mt.li, .int .i64 M.v.mt.lo, .int .i64 M.v.mt.cr, .int .i64 M.v.mt.mv, .slice M.v.wa M.v.wn M.v.wc]) M.k M.m M [ag b1 170 [.slice ka TG kc, .slice va Ty vc, .int .u64 (fl:Int), .int .i64 (ex:Int), .int .i64 (M.k.now:Int), .int .u64 ((M.v.aM+1:Nat):Int), .int .i64 4, .int .i64 (mk:Int)]]) ?_;unfold mZ yg;refine gK 7 T.mix (.cons (.there (.there (.there (.there (.there (.there (.there (.there .here)))))))) (.cons (.there (.there (.there (.there (.there (.there (.there (.there (.there (.there (.there (.there (.there .here))))))))))))) .nil)) λF2 yi ez dX=> ?_;obtain⟨q2,q3,_⟩:=ez;refine bH ?_;refine gd dX ?_;refine Tp (oC T.abo rfl rfl (ly) (.cons (.there (.there .here)) .nil) (λ_ le _=>⟨hka.mono le,hva.mono le⟩) ?_);rintro v H' ⟨rfl,rfl⟩;refine bd ?_;refine ay ?_;refine au ?_;refine Hh (H':=mZ z (B.C.wA A1) B.W B.ty B.C.af.length (M.Q.flatMap (eH (B.C.wA A1))) M.x B.E M.tn (M.v,[.int .u64 ((M.v.aM+1:Nat):Int), .int .i64 (M.v.gr:Int), .int .i64 M.v.mt.dr, .int .i64 M.v.mt.re, .int .i64 M.v.mt.bu, .int .i64 M.v.mt.li, .int .i64 M.v.mt.lo, .int .i64 M.v.mt.cr, .int .i64 M.v.mt.mv, .slice M.v.wa M.v.wn M.v.wc]) M.k M.m M [ag b1 170 [.slice ka TG kc, .slice va Ty vc, .int .u64 (fl:Int), .int .i64 (ex:Int), .int .i64 (M.k.now:Int), .int .u64 ((M.v.aM+1:Nat):Int), .int .i64 4, .int .i64 (mk:Int)]]) ?_;unfold mZ yg;refine gK 8 T.mix (.cons (.there (.there (.there (.there (.there (.there (.there (.there .here)))))))) (.cons (.there (.there (.there (.there (.there (.there (.there (.there (.there (.there (.there (.there (.there .here))))))))))))) .nil)) λF3 MN qH fM=> ?_;obtain⟨q4,q5,_⟩:=qH;refine cI ?_;refine gd fM ?_;refine Tp (oC T.OZ rfl rfl (ws) (.cons (.there (.there (.there (.there (.there (.there (.there (.there (.there .here))))))))) .nil) (λ_ _ _=>trivial) ?_);rintro v H' ⟨rfl,rfl⟩;refine bd ?_;refine ay ?_;refine au ?_;refine Hh (H':=mZ z (B.C.wA A1) B.W B.ty B.C.af.length (M.Q.flatMap (eH (B.C.wA A1))) M.x (ky B.E (M.C.hd r) ex M.tn) (if 0<ex then M.tn+1 else M.tn) (M.v,[.int .u64 ((M.v.aM+1:Nat):Int), .int .i64 (M.v.gr:Int), .int .i64 M.v.mt.dr, .int .i64 M.v.mt.re, .int .i64 M.v.mt.bu, .int .i64 M.v.mt.li, .int .i64 M.v.mt.lo, .int .i64 M.v.mt.cr, .int .i64 M.v.mt.mv, .slice M.v.wa M.v.wn M.v.wc]) M.k M.m M [ag b1 170 [.slice ka TG kc, .slice va Ty vc, .int .u64 (fl:Int), .int .i64 (ex:Int), .int .i64 (M.k.now:Int), .int .u64 ((M.v.aM+1:Nat):Int), .int .i64 4, .int .i64 (mk:Int)]]) ?_;unfold mZ yg;refine gK 10 T.mix (.cons (.there (.there (.there (.there (.there (.there (.there (.there .here)))))))) .nil) λF4 le4 Nb Cn=> ?_;obtain⟨q6,_⟩:=Nb;refine bB ?_;refine Tp (oC T.Ps rfl rfl (ss (gJ {M.v with aM:=M.v.aM+1})) .nil (λ_ le aw=>⟨In.mono q6 le,aw.nth 0 rfl⟩) ?_);rintro v H' ⟨rfl,rfl⟩;refine bd ?_;refine aZ ?_;refine gd Cn ?_;refine aZ ?_;refine au ?_;refine Hh (H':=mZ z (B.C.wA A1) B.W B.ty B.C.af.length (M.Q.flatMap (eH (B.C.wA A1))) M.x (ky B.E (M.C.hd r) ex M.tn) (if 0<ex then M.tn+1 else M.tn) (M.v,[.int .u64 ((M.v.aM+1:Nat):Int), .int .i64 ((M.v.gr+(58+k.length+v.length):Nat):Int), .int .i64 M.v.mt.dr, .int .i64 M.v.mt.re, .int .i64 M.v.mt.bu, .int .i64 M.v.mt.li, .int .i64 M.v.mt.lo, .int .i64 M.v.mt.cr, .int .i64 M.v.mt.mv, .slice M.v.wa M.v.wn M.v.wc]) M.k M.m M []) ?_;unfold mZ yg;have K1:Ok (B.C.wA A1):=O1.k;have L1:Live (B.C.wA A1) r:=L.wA _;rcases old with _|p
 ·refine cC ?_
  refine aR ?_;have hkd:∀q∈B.W.all,aL (B.C.wA A1).A q≠aL (B.C.wA A1).A r:=λq hq e=>by
   rw[cS,f_k,show aL A1 q=(M.it q).key from(O1.je hq).2.2.2.2.1]at e;have h1:=Y2 rfl;unfold Mo.find at h1;rw[agZ]at h1;obtain⟨i,hi⟩:=(O.al q).1 hq;have h2:=h1 q (by exact fO.2 ⟨i,hi⟩);simp only[decide_eq_true_eq]at h2;exact h2 e
  have tp:=Vb z.y.t z.y.b (B.C.wA A1) K1 B.W B.ty O1.t O.ty r L1 I1 yj hkd;rw[show(B.C.wA A1).hd r=M.C.hd r from IW]at tp;unfold me at tp;refine bH ?_;refine Lp (oC T.abh rfl rfl (tp) (.cons .here (.cons .here (.cons .here (.cons .here .nil)))) (λ_ _ _=>trivial) ?_);rintro v H' ⟨rfl,A2,V,y2,rfl,hy,PK⟩;refine bd ?_;refine ay ?_;have d1:dx (B.C.wA A1) A1 A2 (λq o=>q=r∧o<4):=(yT PK.df (λq hq=>by rw[acX.1 hq];exact L1.toAt) (λq hq=>by rw[acX.1 hq];have:=(L1.toAt.bo K1).2.1;omega)).mono λq o g=>by
   obtain⟨g1,_,g3⟩:=g;exact⟨acX.1 g1,by omega⟩
  have K2:=K1.wA A2;have Q2:=M7 K1 O1.o d1 (λi q hq j g=>⟨by unfold mz;omega,by omega,by omega⟩);have L2:Live ((B.C.wA A1).wA A2) r:=L1.wA _;have n1:=(L1.toAt.bo K1).2.1;have m2:dE A2 r=mk:=by
   rw[←UN];exact lA K1 d1 L1.toAt (by omega) λj h1 h2 s=>by omega
  have s2:jc A2 r=4:=by
   rw[←Zd];exact lA K1 d1 L1.toAt (by omega) λj h1 h2 s=>by omega
  have I2:ic ((B.C.wA A1).wA A2) r:=PK.o.it r (PK.pm.mem_iff.2 acF);have le:=zu z.y.lu z.y.q z.y.b z.qb z.hot z.warm ((B.C.wA A1).wA A2) K2 M.Q Q2 r (λq e=>by cases e;exact⟨L2,I2⟩) (by rw[cS,m2];exact vM) (by rw[cS,s2];omega);rw[show((B.C.wA A1).wA A2).hd r=M.C.hd r from IW,show((B.C.wA A1).wA A2).cl r=B.C.cl r from rfl]at le;unfold sL at le;refine Hh (H':=mZ z ((B.C.wA A1).wA A2) V y2 B.C.af.length (M.Q.flatMap (eH ((B.C.wA A1).wA A2))) M.x (ky B.E (M.C.hd r) ex M.tn) (if 0<ex then M.tn+1 else M.tn) (M.v,[.int .u64 ((M.v.aM+1:Nat):Int), .int .i64 ((M.v.gr+(58+k.length+v.length):Nat):Int), .int .i64 M.v.mt.dr, .int .i64 M.v.mt.re, .int .i64 M.v.mt.bu, .int .i64 M.v.mt.li, .int .i64 M.v.mt.lo, .int .i64 M.v.mt.cr, .int .i64 M.v.mt.mv, .slice M.v.wa M.v.wn M.v.wc]) M.k M.m M []) ?_;unfold mZ yg;refine bH ?_;refine Lp (oC T.OW rfl rfl (le) (.cons .here (.cons (.there (.there (.there .here))) (.cons (.there (.there (.there .here))) .nil))) (λ_ le aw=>aw.nth 7 rfl) ?_);rintro v H' ⟨rfl,A3,rfl,EK⟩;refine bd ?_;refine az ?_;subst hn;have O2:=bY.iF O1 hr I1 _ eO vM D4 hy PK EK;refine Hh (H':=mZ z (((B.C.wA A1).wA A2).wA A3) V y2 B.C.af.length ((jW M.Q (qi (B.C.cl r) 1) r).flatMap (eH (((B.C.wA A1).wA A2).wA A3))) M.x (ky B.E (M.C.hd r) ex M.tn) (if 0<ex then M.tn+1 else M.tn) (M.v,[.int .u64 ((M.v.aM+1:Nat):Int), .int .i64 ((M.v.gr+(58+k.length+v.length):Nat):Int), .int .i64 M.v.mt.dr, .int .i64 M.v.mt.re, .int .i64 M.v.mt.bu, .int .i64 M.v.mt.li, .int .i64 M.v.mt.lo, .int .i64 M.v.mt.cr, .int .i64 M.v.mt.mv, .slice M.v.wa M.v.wn M.v.wc]) M.k M.m M []) ?_;unfold mZ yg;rw[←IW,show B.C.cl r=M.C.cl r from O.cl r];refine aC (aQ O2 (H:= [])) ?_;refine jM [SH z (M.gf r none ⟨k,v,fl,ex,M.k.now,M.v.aM+1,mk⟩)] results118 ?_;exact⟨rfl,rfl⟩
 obtain⟨hp,hpk⟩:=hold p rfl;have eK:=(O.al p).2 hp;have hp1':At B.C p:=O.om eK;have GM:=(cB K hp1').2.2.2.2.2;rw[O.hd p]at GM;have hpz:(!decide (((M.C.hd p:Nat):Int)=0))=true:=by rw[decide_eq_false (by omega)];rfl
 refine aR ?_;refine dz ?_ (e:=by exact hpz);have rB:aL (B.C.wA A1).A p=aL (B.C.wA A1).A r:=by
  rw[cS,f_k,show aL A1 p=(M.it p).key from(O1.je eK).2.2.2.2.1];exact hpk
 have tp:=Qy z.y.t z.y.b (B.C.wA A1) K1 B.W B.ty O1.t O.ty p r eK L1 I1 yj rB;rw[show(B.C.wA A1).hd r=M.C.hd r from IW,show(B.C.wA A1).hd p=M.C.hd p from O.hd p]at tp;unfold me at tp;refine cI ?_;refine Lp (oC T.abO rfl rfl (tp) (.cons .here (.cons .here (.cons .here (.cons .here .nil)))) (λ_ _ _=>trivial) ?_);rintro v H' ⟨rfl,A2,V,rfl,hy,SK⟩;refine bd ?_;refine aR ?_;obtain⟨i,hi⟩:=hp;obtain⟨kq,hkq⟩:=ahh hi;have lvs:∀q∈r::B.W.all,Live (B.C.wA A1) q:=λq hq=>(acT.1 hq).elim (λe=>e▸L1) λh=>(O.sM h).wA _;have d1:dx (B.C.wA A1) A1 A2 (λq o=>q∈r::B.W.all∧0≤o∧o<0+4):=yT SK.df (λq hq=>(lvs q hq).toAt) (λq hq=>by have:=((lvs q hq).toAt.bo K1).2.1;omega);have K2:=K1.wA A2;have Q2:=M7 K1 O1.o d1 (λi q hq j g=>S04 g);have Lvp:=O.sM eK;have kp:=qY K1 d1 (Lvp.wA A1).toAt (O1.t.it p eK) (λj g=>(S04 g).1);have klp:kl A2 p=kl A1 p:=kp.kl;have vlp:vl A2 p=vl A1 p:=kp.vl;have ad1:58+kl A1 p+vl A1 p=(M.it p).sz:=O1.szp eK;have EF:kl A2 p≤250:=by
  have h1:=(fR (O.lg p eK)).2;rw[klp,←show(aL A1 p).length=kl A1 p from dC _ _ _,show aL A1 p=(M.it p).key from(O1.je eK).2.2.2.2.1];exact h1
 have hb:(M.it p).sz≤M.v.gr:=by
  rw[O.bt];exact u7 (λp=>(M.it p).sz) eK
 have of:=HA z.s z.qb z.hot z.warm (bJ z.s) (bI z.s) z.y {M.v with aM:=M.v.aM+1,gr:=M.v.gr+(58+k.length+v.length)} ((B.C.wA A1).wA A2) K2 M.Q Q2 M.x O.x (ky B.E (M.C.hd r) ex M.tn) (if 0<ex then M.tn+1 else M.tn) i kq p hkq EF (by rw[cS,klp,vlp,ad1];show _≤M.v.gr+_;omega) (by show M.v.gr+_<_;omega);rw[cS,klp,vlp,ad1,AV O.o hkq,show((B.C.wA A1).wA A2).hd p=M.C.hd p from O.hd p]at of;refine Hh (H':=mZ z ((B.C.wA A1).wA A2) V B.ty B.C.af.length (M.Q.flatMap (eH ((B.C.wA A1).wA A2))) M.x (ky B.E (M.C.hd r) ex M.tn) (if 0<ex then M.tn+1 else M.tn) (M.v,[.int .u64 ((M.v.aM+1:Nat):Int), .int .i64 ((M.v.gr+(58+k.length+v.length):Nat):Int), .int .i64 M.v.mt.dr, .int .i64 M.v.mt.re, .int .i64 M.v.mt.bu, .int .i64 M.v.mt.li, .int .i64 M.v.mt.lo, .int .i64 M.v.mt.cr, .int .i64 M.v.mt.mv, .slice M.v.wa M.v.wn M.v.wc]) M.k M.m M []) ?_;unfold mZ yg;refine Lp (oC T.PC rfl rfl (of) (.cons .here (.cons (.there (.there (.there .here))) (.cons (.there (.there (.there .here))) (.cons (.there (.there (.there .here))) (.cons (.there (.there (.there .here))) (.cons (.there (.there (.there .here))) .nil)))))) (λ_ le aw=>aw.nth 4 rfl) ?_);rintro v H' ⟨rfl,A3,rfl,OF⟩;refine bd ?_;have YJ:r≠p:=λe=>yj (e▸eK);obtain⟨rest,pm1,pm2⟩:=SK.pm;have nd1:=acP.1 (pm1.nodup_iff.1 O.t.nd);have hsV:∀q∈V.all,q≠p:=λq h=>(acT.1 (pm2.mem_iff.1 h)).elim (λe=>e▸YJ) λh e=>nd1.1 (e▸h);have T2:=I6 K2 SK.o OF.d (λq _ j g=>⟨g.rI,by unfold SQ at g;omega⟩);have T3:=OF.s.tb T2 hsV;have hrV:r∈V.all:=pm2.mem_iff.2 acF;obtain⟨C3,YU⟩:∃C3,C3=(((B.C.wA A1).wA A2).wA A3).bz p:=⟨_,rfl⟩;have L2:At ((B.C.wA A1).wA A2) r:=(L1.wA A2).toAt;have n1:=(L1.toAt.bo K1).2.1;have m3:dE A3 r=mk:=by
  rw[←UN];have e1:dE A3 r=dE A2 r:=lA K2 OF.d L2 (by have:=(L2.bo K2).2.1;omega) λj h1 h2 s=>by unfold SQ at s;omega
  rw[e1];exact lA K1 d1 L1.toAt (by omega) λj h1 h2 s=>by omega
 have s3:jc A3 r=4:=by
  rw[←Zd];have e1:jc A3 r=jc A2 r:=lA K2 OF.d L2 (by have:=(L2.bo K2).2.1;omega) λj h1 h2 s=>by unfold SQ at s;omega
  rw[e1];exact lA K1 d1 L1.toAt (by omega) λj h1 h2 s=>by omega
 have hA3:C3.A=A3:=by rw[YU];rfl
 have hcl3:C3.cl r=B.C.cl r:=by
  have:=(OF.s.lv r YJ ((T2.lv r hrV))).2.2;rw[←YU]at this;exact this
 have hhd3:C3.hd r=M.C.hd r:=by
  have:=(OF.s.lv r YJ ((T2.lv r hrV))).2.1;rw[←YU]at this;exact this.trans IW
 have OF2:=OF;have T4:=T3;have K3:=OF.k;have Q3:=OF.o;have zV:C3.af.length=B.C.af.length:=by rw[YU];rfl
 rw[←YU]at T4 K3 Q3;have ent:=zu z.y.lu z.y.q z.y.b z.qb z.hot z.warm C3 K3 (gS M.Q p) Q3 r (λq e=>by cases e;exact⟨T4.lv r hrV,T4.it r hrV⟩) (by rw[hA3,m3];exact vM) (by rw[hA3,s3];omega);rw[hcl3,hhd3]at ent;unfold sL at ent;rw[zV]at ent;rw[←YU];refine cI ?_;refine Lp (oC T.OW rfl rfl (ent) (.cons .here (.cons .here (.cons .here .nil))) (λ_ le aw=>aw.nth 7 rfl) ?_);rintro v H' ⟨rfl,A4,rfl,EK⟩;refine bd ?_;refine az ?_;subst hn;subst YU;have O2:=bY.nq O1 ⟨i,hi⟩ hr I1 _ eO vM D4 hy SK OF EK;refine Hh (H':=mZ z (((((B.C.wA A1).wA A2).wA A3).bz p).wA A4) V B.ty B.C.af.length ((jW (gS M.Q p) (qi (B.C.cl r) 1) r).flatMap (eH (((((B.C.wA A1).wA A2).wA A3).bz p).wA A4))) (M.x.left M.Q p) (eX (ky B.E (M.C.hd r) ex M.tn) (M.C.hd p)) (if 0<ex then M.tn+1 else M.tn) (M.v,[.int .u64 ((M.v.aM+1:Nat):Int), .int .i64 ((M.v.gr+(58+k.length+v.length)-(M.it p).sz:Nat):Int), .int .i64 M.v.mt.dr, .int .i64 M.v.mt.re, .int .i64 M.v.mt.bu, .int .i64 M.v.mt.li, .int .i64 M.v.mt.lo, .int .i64 M.v.mt.cr, .int .i64 M.v.mt.mv, .slice M.v.wa M.v.wn M.v.wc]) M.k M.m M []) ?_;unfold mZ yg;rw[←IW,←O.hd p,show B.C.cl r=M.C.cl r from O.cl r];refine aC (aQ O2 (H:= [])) ?_;refine jM [SH z (M.gf r (some p) ⟨k,v,fl,ex,M.k.now,M.v.aM+1,mk⟩)] results118 ?_;exact⟨rfl,rfl⟩
theorem ib.beside{M:Mo}(A:ib M 1):Ev M M.beside:=by
 have h1:Ev M M.fe:= .rf rfl rfl;have h2:Ev M M.fe.jf:=(h1.trans (Ev.cP M.fe M.fe.k.now M.fe.v.p.c)).trans (.rf rfl rfl);exact(h2.trans ((A.ev h2).iy M.fe.jf.v.p.m)).trans (.rf rfl rfl)
theorem ib.behind{M:Mo}(A:ib M 1)(hot warm:Nat)(k:List UInt8):Ev M (M.behind hot warm k):=by
 have h:=IP hot warm M k;exact h.trans (A.ev h).beside
theorem Ev.meet (M:Mo)(k:List UInt8):Ev M (M.meet k).2:=by
 unfold Mo.meet
 split
 ·exact .rf rfl rfl
 split
 ·exact(Ev.rf rfl rfl:Ev M (M.fj _)).trans (Ev.cD _ _)
 exact .rf rfl rfl
theorem ib.meet{M:Mo}{j:Nat}(A:ib M j)(k:List UInt8):ib (M.meet k).2 j:=A.ev (Ev.meet M k)
theorem Ev.gf (M:Mo)(r:Nat)(old:Option Nat)(n:I3):Ev M (M.gf r old n):=by
 unfold Mo.gf
 split
 ·exact .rf rfl rfl
 next p=>exact⟨rfl,Ih M.C p⟩
theorem ib.nF{j:Nat}(hot warm:Nat):∀(l:List (List UInt8)) {M:Mo},ib M (j+1)→Ev M (l.foldl (Mo.behind hot warm) M)
 | [],_,_=> .rf rfl rfl
 |k::l,M,A=>by
  have e:=(A.le (Nat.succ_le_succ (Nat.zero_le j))).behind hot warm k;exact e.trans (ib.nF (j:=j) hot warm l (A.ev e))
end Go.Proofs.YtdolmecackmjdaaGreatDoor
