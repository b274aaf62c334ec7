/- Part Pq1 of the proof. -/
import Derived.Test.YtdolmecackmjdaaGreatDoorPc1
import Derived.Test.YtdolmecackmjdaaGreatDoorPd
import Derived.Test.YtdolmecackmjdaaGreatDoorPo1
import Derived.Test.YtdolmecackmjdaaGreatDoorPp
set_option maxRecDepth 100000
open Nat renaming zero_le → aay
open List renaming map_map → afB
namespace Go.Proofs.YtdolmecackmjdaaGreatDoor
open Go Go.cV Go.Proofs.YtdolmecackmjdaaGreatDoor.Cs
theorem Bg{a:Option Addr}{c e:Nat}{l:List (I3×Nat)}{h:Hp}(o:∃k,own a c e 9 (ff l) k∧Le k h):l.length≤c∧c≤9223372036854775807:=by
 obtain⟨k,p,_⟩:=o
 have h1:=p.1
 have h2:=p.2
 rw[jy]at h1
 unfold maxLen at h2
 omega
theorem MM (z:Ly)(J8:z.hot≤100)(JR:z.warm≤100){M:Mo}{P:bz}(S:aQ (λ_=>True) M P)(F:P.Fits){t s:Nat}(R:Roo M t)(ht:t<200)(N:J1 M s)(hs:s≤209715400)(pa:sW M.v.p)(hc:M.v.c=cA){h0:Hp}(d:oY)(D:Ar h0 d)(ka:Option Addr)(kc:Nat)(da:Option Addr)(dc:Nat):
  aF Tryz.prog 11 [.pointer (some ⟨z.s,0,none⟩), .agg (dZ d.c ka kc da dc d.mv).toArray] (λh=>eB h ka (fU d.c.keys)∧eB h da (ak d.c.data)) [SW z M] (GX z (M.dO z.hot z.warm d.c)):=by
 have h1:=N.st
 have h2:=N.tn
 have h3:=N.aO
 have h4:=D.kn
 have h5:=D.dn
 have h6:M.v.c.lim≤1048576:=by rw[hc];exact show(512:Int)≤1048576 by decide
 obtain⟨hA,hB⟩:=R.amp2 S F ht d.c trivial
 exact VB sL z J8 JR M d.c ka kc da dc d.mv D.one hA hB (by omega) D.kl D.ex (by omega) D.dl S.h (by omega) pa h6 (by omega) (by omega)
set_option maxHeartbeats 2000000 in
theorem zn (p q:sQ)(l:List oY)(a:Option Addr)(cap:Nat)(hl:l.length≤9223372036854775807):aF Tryz.prog 5 [.agg (uj p).toArray, .agg (uj q).toArray, .slice a l.length cap]
  (λh=>eB h (some ⟨0,0,none⟩) (j9 cA)∧eB h a (oE l)∧∀d∈l,Ar h d) [] (λv H=>v= .bool true∧H= []):=by
 have w1:=Fy p
 have w2:=Fy q
 have n1:=vg cA (uk p)
 have n2:=vg cA (uk q)
 unfold uj at*
 refine af Tryz.func5 rfl Tryz.ntmps5 rfl ?_
 rintro F ⟨hg,hD,nF⟩
 refine aA ?_
 refine Lp (oB λb1=> ?_)
 refine Lp (oB λb2=> ?_)
 refine bf ?_
 refine aw ?_
 refine ik 3 T.mix (.cons (.there .here) .nil) λF1 je bR aM=> ?_
 obtain⟨q1,_⟩:=bR
 refine Ti (LfN T.Aq (hk:=rr (a:=some ⟨0,0,none⟩) (i:=0) (vs:=j9 cA) (hg.mono je) rfl rfl)) ?_
 refine aA ?_
 refine Tp (oC T.VA rfl rfl (w1) .nil (λ_ _ _=>trivial) ?_)
 rintro v H' ⟨rfl,rfl⟩
 refine bd ?_
 refine gO aM ?_
 refine Tp (oC T.Wk rfl rfl (n1) .nil (λ_ _ _=>trivial) ?_)
 rintro v H' hr
 refine bd ?_
 obtain⟨-,z1,z1a,z1b,z1c,z1d,rfl,rfl⟩:=hr.resolve_left λh=>h.1 (AO p)
 refine bD ?_
 refine aw ?_
 refine ik 3 T.mix (.cons (.there (.there .here)) .nil) λF2 zM eG ez=> ?_
 obtain⟨q2,_⟩:=eG
 refine Ti (LfN T.Aq (hk:=rr (a:=some ⟨0,0,none⟩) (i:=0) (vs:=j9 cA) (hg.mono zM) rfl rfl)) ?_
 refine aA ?_
 refine Tp (oC T.VA rfl rfl (w2) .nil (λ_ _ _=>trivial) ?_)
 rintro v H' ⟨rfl,rfl⟩
 refine bd ?_
 refine gO ez ?_
 refine Tp (oC T.Wk rfl rfl (n2) .nil (λ_ _ _=>trivial) ?_)
 rintro v H' Us
 refine bd ?_
 obtain⟨-,z2,z2a,z2b,z2c,z2d,rfl,rfl⟩:=Us.resolve_left λh=>h.1 (AO q)
 refine dh ?_
 refine zl T.fn_6 (Np) .nil (λ_ _ _=>trivial) ?_
 refine bf ?_
 refine zf 37 ?_ (e:=by rfl)
 refine aW ?_
 refine zf 41 ?_ (e:=by rfl)
 refine aW ?_
 refine zf 45 ?_ (e:=by rfl)
 refine aW ?_
 refine zf 49 ?_ (e:=by rfl)
 refine eC ?_
 refine Lo (ι:=Nat×Mo×Mo) [53,54,55,56,57,58,59,60,63,64,65,66,67,68,69,70,71,72,73,74,75,12,76,77,78,79,80,81,82,13,83,84,85,6,86,87,88,89,90,91,92,93,14,94,95,96,97,98,99,100,101,15,102,103,104,105,106,107,108,109,110,111,112,113,114,115,116,117,118,119,16,120,121,122,123,124,125,126,127,128,129,130,131,132,136,137,138,139,140,141,142,143,144,145,146,135,147,148,17,18,150,151,152,153,154,155,156,157,158,159,160,149,161,162,19,20,163,164,165,166,167,168,169,170,171,133,134,61,62,11] (λs=>s.1≤l.length∧s.1≤200∧∃P t k,Cc s.2.1 s.2.2 P t k∧t≤s.1∧yj k s.1) (λs=> [(11, .int .i64 (s.1:Int))]) (λs=> [SW z1 s.2.1,SW z2 s.2.2]) (λs=>200-s.1) ((0,eK cA (uk p) ⟨1,0,0⟩,eK cA (uk q) ⟨1,0,0⟩)) ⟨aay _,aay _,_,0,0,Cc.start p q,aay _,⟨aay _⟩⟩ ?_
 rintro⟨i,M,N⟩ hI
 dsimp only at hI⊢
 obtain⟨hil,zP,P,t,k,D,Kb,hkb⟩:=hI
 refine aA ?_
 refine aw ?_
 refine dJ (ι:=Unit) [53,54,55,56,57,58,59,60] (λu=>True) (λu=> [(60, .bool (decide ((i:Int)<l.length)&&decide ((i:Int)<200)))]) (λu=> [SW z1 M,SW z2 N]) ?_ ?_
 ·refine fi ?_
  refine br ?_
  refine aS (t:=57) rfl ?_ ?_
  ·intro cY
   replace cY:=aL cY
   refine bq ?_
   refine aG ?_
   refine Me (()) (trivial)
  intro cY
  replace cY:=aL cY
  refine bq ?_
  refine aG ?_
  refine Me (()) (trivial)
 rintro u hI
 by_cases cB:i<l.length∧i<200
 ·obtain⟨x,e1⟩:∃x,l[i]?=some x:=⟨_,List.getElem?_eq_getElem cB.1⟩
  have ox:=nF x (List.mem_of_getElem? e1)
  have JV:=PV l
  have qT:=hkb.le cB.2
  have a0:a.isSome=true:=hD.some (by omega)
  have pT:(oE l)[i*12+11]?=some (.int .i64 x.tick):=Bm l i x e1 11 (by omega)
  have pC:((oE l).drop (i*12+0)).take 11=dZ x.c x.ka x.kc x.da x.dc x.mv:=PW l i x e1 0 11 (by omega)
  have pK:(oE l)[i*12+0+1]?=some (.slice x.ka x.c.keys.length x.kc):=Bm l i x e1 1 (by omega)
  refine fB ?_ (e:=by exact(by simp;omega))
  refine dh ?_
  refine Li (Ix T.oq) ?_
  refine Li (EN T.vA) ?_
  refine bq ?_
  by_cases U2:0<x.tick
  ·refine fB ?_ (e:=by exact decide_eq_true U2)
   have i1:=D.na.aO
   have i2:=D.nb.aO
   obtain⟨ha,P2,D2⟩:=D.tick x.tick
   refine aW ?_
   refine Li (Ix T.oq) ?_
   refine Li (EN T.vA) ?_
   refine aA ?_
   refine zl T.Vz (Ff sL z1 M x.tick (by omega)) (.cons .here .nil) (λ_ _ _=>trivial) ?_
   refine bD ?_
   refine Li (Ix T.oq) ?_
   refine Li (EN T.vA) ?_
   refine aA ?_
   refine zl T.Vz (Ff sL z2 N x.tick (by omega)) (.cons (.there .here) .nil) (λ_ _ _=>trivial) ?_
   rw[ha]
   refine dh ?_
   refine dm ?_ (e:=by exact(by simp))
   refine bA ?_
   refine aG ?_
   refine Hh (H':= [SW z1 (M.tick x.tick),SW z2 (N.tick x.tick)]) ?_
   have r2:t≤i+1:=by omega
   have r3:i+1≤l.length:=by omega
   have r4:i+1≤200:=by omega
   refine Ro ((i+1,M.tick x.tick,N.tick x.tick)) (⟨r3,r4,P2,t,k,D2,r2,hkb.up⟩) ((by dsimp only;omega))
  refine dm ?_ (e:=by exact decide_eq_false U2)
  obtain⟨hv,P2,D2⟩:=D.dO (by omega) z1.hot z1.warm z2.hot z2.warm x.c
  have tw:=RK x.c x.ka x.kc x.da x.dc x.mv ox.one (by have:=ox.kn;omega) ox.dn
  have d1:=MM z1 (by omega) (by omega) D.a D.f D.ra (by omega) D.na (by omega) D.pa D.ca x ox
  have d2:=MM z2 (by omega) (by omega) D.b D.f D.rb (by omega) D.nb (by omega) D.pb D.cb x ox
  generalize M.dO z1.hot z1.warm x.c=R1 at*
  generalize N.dO z2.hot z2.warm x.c=R2 at*
  obtain⟨⟨k1,B9,n1,t1⟩,M'⟩:=R1
  obtain⟨⟨k2,es2,n2,t2⟩,N'⟩:=R2
  unfold eH.vw at hv
  simp only[eH.mk.injEq]at hv
  obtain⟨rfl,UA,rfl,rfl⟩:=hv
  dsimp only at D2
  refine bD ?_
  refine Li (Ix T.oq) ?_
  refine Li (EN T.lx) ?_
  refine aA ?_
  refine Lp (oC T.Vy rfl rfl (tw) .nil (λ_ le _=>⟨ox.keys.mono le,ox.data.mono le⟩) ?_)
  rintro v H' ⟨ka1,kc1,da1,dc1,q1,q2,rfl,rfl⟩
  refine bd ?_
  refine Lp (oC T.Ao rfl rfl (d1 ka1 kc1 da1 dc1) (.cons (.there (.there .here)) .nil) (λ_ le aq=>⟨bB (aq.nth 1 rfl),bB (aq.nth 0 rfl)⟩) ?_)
  rintro v H' ⟨QJ,JX,l1,Uv,rfl,rfl⟩
  refine bd ?_
  refine kK (X:=l1.length≤JX∧JX≤9223372036854775807) (λh aq=>Bg (aq.nth 0 rfl)) λKj=> ?_
  unfold sU
  refine Lp (oA T.kj λb3=> ?_)
  refine Lp (gM T.cU ?_ (h1:=by simp[dY,Value.oneCell',aT,bc]))
  refine aA ?_
  refine Hh (H':= [SW z1 M',SW z2 N,ag b3 41 (dY k1 (.slice QJ l1.length JX) n1 t1),own QJ JX 49 9 (ff l1),gp l1]) ?_
  refine aW ?_
  refine Li (Ix T.oq) ?_
  refine Li (EN T.lx) ?_
  refine aA ?_
  refine Lp (oC T.Vy rfl rfl (tw) .nil (λ_ le _=>⟨ox.keys.mono le,ox.data.mono le⟩) ?_)
  rintro v H' ⟨ka2,kc2,da2,dc2,q3,q4,rfl,rfl⟩
  refine bd ?_
  refine Lp (oC T.Ao rfl rfl (d2 ka2 kc2 da2 dc2) (.cons (.there (.there (.there .here))) .nil) (λ_ le aq=>⟨bB (aq.nth 1 rfl),bB (aq.nth 0 rfl)⟩) ?_)
  rintro v H' ⟨V5,Q1,l2,zO,rfl,rfl⟩
  refine bd ?_
  refine kK (X:=l2.length≤Q1∧Q1≤9223372036854775807) (λh aq=>Bg (aq.nth 0 rfl)) λn9=> ?_
  unfold sU
  refine Lp (oA T.kj λb4=> ?_)
  refine Lp (gM T.cU ?_ (h1:=by simp[dY,Value.oneCell',aT,bc]))
  refine aA ?_
  refine aw ?_
  refine Hh (H':= [SW z1 M',SW z2 N',ag b3 41 (dY k1 (.slice QJ l1.length JX) n1 t1),own QJ JX 49 9 (ff l1),gp l1,ag b4 41 (dY k1 (.slice V5 l2.length Q1) n1 t1),own V5 Q1 49 9 (ff l2),gp l2]) ?_
  have hee:l1.map (λx=>x.1.vw)=l2.map (λx=>x.1.vw):=by
   have h1:l1.map (λx=>x.1.vw)=(l1.map Prod.fst).map I3.vw:=by rw[afB];rfl
   have h2:l2.map (λx=>x.1.vw)=(l2.map Prod.fst).map I3.vw:=by rw[afB];rfl
   rw[h1,h2,Uv,zO]
   exact UA
  have an:=JN k1 n1 t1 l1 l2 hee QJ V5 JX Q1 Kj.1 n9.1 (by omega)
  refine bq ?_
  refine zl T.acS (an) .nil (λ_ le aq=>⟨⟨bB (aq.nth 3 rfl),Bh (aq.nth 4 rfl)⟩,⟨bB (aq.nth 6 rfl),Bh (aq.nth 7 rfl)⟩⟩) ?_
  refine bf ?_
  refine zf 106 ?_ (e:=by rfl)
  refine aA ?_
  refine zl T.Vx (vO z1 M') (.cons .here .nil) (λ_ _ _=>trivial) ?_
  rw[D2.aO]
  refine aA ?_
  refine zl T.Vx (vO z2 N') (.cons (.there .here) .nil) (λ_ _ _=>trivial) ?_
  refine bq ?_
  refine zf 113 ?_ (e:=by exact(by simp))
  refine aA ?_
  refine zl T.Vw (E9 z1 M') (.cons (.there .here) .nil) (λ_ _ _=>trivial) ?_
  rw[D2.now]
  refine aA ?_
  refine zl T.Vw (E9 z2 N') (.cons (.there .here) .nil) (λ_ _ _=>trivial) ?_
  refine bq ?_
  refine dm ?_ (e:=by exact(by simp))
  refine bD ?_
  refine Hh (H':= [SW z1 M',SW z2 N']) ?_
  refine Lo (ι:=Nat) [120,121,122,123,124,125,126,127,128,129,130,131,132,136,137,138,139,140,141,142,143,144,145,146,135,147,148,17,18,150,151,152,153,154,155,156,157,158,159,160,149,161,162,19,20,163,164,165,166,167,168,169,170,171,6,133,134,16] (λj=>j≤x.c.keys.length∧j≤10) (λj=> [(16, .int .i64 (j:Int))]) (λj=> [SW z1 M',SW z2 N']) (λj=>10-j) (0) ⟨aay _,aay _⟩ ?_
  rintro j hj
  refine aA ?_
  refine aw ?_
  refine dJ (ι:=Unit) [120,121,122,123,124,125,126,127,128,129,130,131,132] (λu=>True) (λu=> [(132, .bool (decide ((j:Int)<x.c.keys.length)&&decide ((j:Int)<10)))]) (λu=> [SW z1 M',SW z2 N']) ?_ ?_
  ·refine fi ?_
   refine bq ?_
   refine Li (Ix T.oq) ?_
   refine Li (EN T.lx) ?_
   refine Li (EN T.nz) ?_
   refine aW ?_
   refine aS (t:=129) rfl ?_ ?_
   ·intro cY
    replace cY:=aL cY
    refine bq ?_
    refine aG ?_
    refine Me (()) (trivial)
   intro cY
   replace cY:=aL cY
   refine bq ?_
   refine aG ?_
   refine Me (()) (trivial)
  rintro u hI
  by_cases hjt:j<x.c.keys.length∧j<10
  ·have B5:=tm x.c.keys j hjt.1
   have pO:=ox.kl _ (List.getElem_mem hjt.1)
   have Ur:x.ka.isSome=true:=ox.keys.some (by simp[fU];omega)
   have oxk:=ox.keys
   have Uz:=D2.find x.c.keys[j]
   have f1:=vC z1 M' x.c.keys[j] pO
   have f2:=vC z2 N' x.c.keys[j] pO
   generalize x.c.keys[j]=key at*
   refine fB ?_ (e:=by exact(by simp;omega))
   refine dh ?_
   refine Li (Ix T.oq) ?_
   refine Li (EN T.lx) ?_
   refine Li (EN T.nz) ?_
   refine bf ?_
   refine Li (Ix T.qa) ?_
   refine aA ?_
   rcases h1:M'.live key with _|u
   ·have h2:N'.live key=none:=by
     rw[h1]at Uz
     simpa using Uz.symm
    rw[h1]at f1
    rw[h2]at f2
    refine zl T.An (f1) (.cons .here .nil) (λ_ _ _=>trivial) ?_
    refine bq ?_
    refine Lp (oA T.r8 λb5=> ?_)
    refine Lp (gM T.lh ?_ (h1:=by simp[Ks,Value.oneCell',aT]))
    refine bD ?_
    refine Li (Ix T.oq) ?_
    refine Li (EN T.lx) ?_
    refine Li (EN T.nz) ?_
    refine bf ?_
    refine Li (Ix T.qa) ?_
    refine aA ?_
    refine zl T.An (f2) (.cons (.there (.there .here)) .nil) (λ_ _ _=>trivial) ?_
    refine bq ?_
    refine Lp (oA T.r8 λb6=> ?_)
    refine Lp (gM T.lh ?_ (h1:=by simp[Ks,Value.oneCell',aT]))
    refine br ?_
    refine Li (Bq T.Z3) ?_
    refine aA ?_
    refine zf 166 ?_ (e:=by exact(by simp))
    refine bf ?_
    refine zl T.KT (vD ⟨[],[],0,0,0,0,0⟩ ⟨[],[],0,0,0,0,0⟩ none none 0 0) .nil (λ_ le _=>⟨eB.nil,eB.nil⟩) ?_
    refine bI ?_
    refine aG ?_
    refine Hh (H':= [SW z1 M',SW z2 N']) ?_
    refine Ro (j+1) ((by omega)) ((by omega))
   obtain⟨v,h2,hvw⟩:∃v,N'.live key=some v∧(M'.it u).vw=(N'.it v).vw:=by
    rw[h1]at Uz
    rcases h2:N'.live key with _|v
    ·rw[h2]at Uz;simp at Uz
    rw[h2]at Uz;exact⟨v,rfl,by simpa using Uz⟩
   rw[h1]at f1
   rw[h2]at f2
   refine Lp (oC T.An rfl rfl (f1) (.cons .here .nil) (λ_ _ _=>trivial) ?_)
   rintro v H' ⟨vb1,rfl,rfl⟩
   refine bd ?_
   refine bq ?_
   refine Lp (oA T.r8 λb7=> ?_)
   refine Lp (gM T.lh ?_ (h1:=by simp[lT,Value.oneCell',aT]))
   refine bf ?_
   refine Hh (H':= [SW z1 M',SW z2 N',ag b7 49 (lT (M'.it u) (.slice (some ⟨vb1,0,none⟩) (M'.it u).val.length (M'.it u).val.length)),own (some ⟨vb1,0,none⟩) (M'.it u).val.length 5 1 (ak (M'.it u).val)]) ?_
   refine aW ?_
   refine Li (Ix T.oq) ?_
   refine Li (EN T.lx) ?_
   refine Li (EN T.nz) ?_
   refine bf ?_
   refine Li (Ix T.qa) ?_
   refine aA ?_
   refine Lp (oC T.An rfl rfl (f2) (.cons (.there .here) .nil) (λ_ _ _=>trivial) ?_)
   rintro v H' ⟨Qn,rfl,rfl⟩
   refine bd ?_
   refine bq ?_
   refine Lp (oA T.r8 λb8=> ?_)
   refine Lp (gM T.lh ?_ (h1:=by simp[lT,Value.oneCell',aT]))
   refine br ?_
   refine Li (Bq T.Z3) ?_
   refine aA ?_
   refine zf 166 ?_ (e:=by exact(by simp))
   refine bf ?_
   refine zl T.KT (vD (M'.it u) (N'.it v) (some ⟨vb1,0,none⟩) (some ⟨Qn,0,none⟩) (M'.it u).val.length (N'.it v).val.length) .nil (λ_ le aq=>⟨bB (aq.nth 5 rfl),bB (aq.nth 1 rfl)⟩) ?_
   rw[Gi hvw]
   refine bI ?_
   refine aG ?_
   refine Hh (H':= [SW z1 M',SW z2 N']) ?_
   refine Ro (j+1) ((by omega)) ((by omega))
  refine dm ?_ (e:=by exact(by simp;omega))
  refine bA ?_
  refine aG ?_
  refine Hh (H':= [SW z1 M',SW z2 N']) ?_
  have r0:=ox.kn
  have r2:t+1≤i+1:=by omega
  have r3:i+1≤l.length:=by omega
  have r4:i+1≤200:=by omega
  refine Ro ((i+1,M',N')) (⟨r3,r4,P2,t+1,k+(x.c.keys.length+1),D2,r2,hkb.add (by omega)⟩) ((by dsimp only;omega))
 refine dm ?_ (e:=by exact(by simp;omega))
 refine dg ?_
 refine Rt [] Tryz.results5 ?_
 exact⟨rfl,rfl⟩
end Go.Proofs.YtdolmecackmjdaaGreatDoor
