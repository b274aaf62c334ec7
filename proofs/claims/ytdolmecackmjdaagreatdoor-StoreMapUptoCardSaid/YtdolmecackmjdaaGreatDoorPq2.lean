/- Part Pq2 of the proof. -/
import Derived.Test.YtdolmecackmjdaaGreatDoorPd
import Derived.Test.YtdolmecackmjdaaGreatDoorPo2
import Derived.Test.YtdolmecackmjdaaGreatDoorPp
set_option maxRecDepth 100000
open Nat renaming zero_le → acS
open List renaming getElem?_eq_getElem → acx, mem_of_getElem? → acB, map_map → ahJ
namespace Go.Proofs.YtdolmecackmjdaaGreatDoor
open Go Go.dL Go.Proofs.YtdolmecackmjdaaGreatDoor.Cs
theorem SF{a:Option Addr}{c e:Nat}{l:List (I3×Nat)}{h:Hp}(o:∃k,own a c e 9 (fY l) k∧Le k h):l.length≤c∧c≤9223372036854775807:=by
 obtain⟨k,p,_⟩:=o;have h1:=p.1;have h2:=p.2;rw[zL]at h1;unfold maxLen at h2;omega
theorem LY{a:Option Addr}{c e:Nat}{l:List (I3×Option Addr×Nat)}{h:Hp}(o:∃k,own a c e 9 (fm l) k∧Le k h):l.length≤c:=by
 obtain⟨k,p,_⟩:=o;have h1:=p.1;rw[jo]at h1;omega
theorem WM{n:Nat}{ds:List Deferred}{F:ee}{K:Act→World→Prop}{σ:ba}{H:List aa}(h:G n ds F K σ (bf []::H)):G n ds F K σ H:=aC (λk s=>nY s) h
theorem ab2 (z:Ly)(MP:z.hot≤100)(BL:z.warm≤100){M:Mo}{P:bn}{t s:Nat}(S:I4 M P t s)(ht:t<200)(hs:s≤209715400){h0:Hp}(d:qL)(D:Ct h0 d)(ka:Option Addr)(kc:Nat)(da:Option Addr)(dc:Nat):
  aH Tryz.prog 11 [.pointer (some ⟨z.s,0,none⟩), .agg (cy d.c ka kc da dc d.mv).toArray] (λh=>dU h ka (eR d.c.keys)∧dU h da (ai d.c.data)) [SW z M] (Jc z (M.dO z.hot z.warm d.c)):=by
 have h1:=S.na.st;have h2:=S.na.tn;have h3:=S.na.aM;have h4:=D.kn;have h5:=D.dn;have h6:M.v.c.lim≤1048576:=by rw[S.ca];exact show(512:Int)≤1048576 by decide
 obtain⟨hA,hB⟩:=S.ra.amp2 S.a S.f ht d.c trivial;exact Yx uO z MP BL M d.c ka kc da dc d.mv D.one hA hB (by omega) D.kl D.ex (by omega) D.dl S.a.h (by omega) S.pa h6 (by omega) (by omega)
set_option maxHeartbeats 4000000 in
theorem DA (p:ua)(l:List qL)(a:Option Addr)(cap:Nat)(hl:l.length≤9223372036854775807):aH Tryz.prog 4 [.agg (yl p).toArray, .slice a l.length cap]
  (λh=>dU h (some ⟨0,0,none⟩) (jZ cA)∧dU h a (qp l)∧∀d∈l,Ct h d∧d.c.data.length≤1048576) [] (λv H=>v= .bool true∧H= []):=by
 have w1:=VH p;have n1:=CS cA (ym p);have sz1:=DG cA;have sT:cV cA= [64,128,256,512]:=Dv;rw[sT]at sz1;unfold yl at*;refine ae Tryz.func4 rfl Tryz.ntmps4 rfl ?_;rintro F ⟨hg,hD,pA⟩;refine ay ?_;refine Lp (oB λb1=> ?_);refine a8 ?_;refine au ?_;refine gK 3 T.mix (.cons .here .nil) λF1 iT cj aI=> ?_;obtain⟨q1,_⟩:=cj;refine Ti (LfN T.Cq (hk:=ti (a:=some ⟨0,0,none⟩) (i:=0) (vs:=jZ cA) (hg.mono iT) rfl rfl)) ?_;refine ay ?_;refine Tp (oC T.af7 rfl rfl (w1) .nil (λ_ _ _=>trivial) ?_);rintro v H' ⟨rfl,rfl⟩;refine bd ?_;refine gd aI ?_;refine Tp (oC T.aef rfl rfl (n1) .nil (λ_ _ _=>trivial) ?_);rintro v H' hr;refine bd ?_;obtain⟨-,z,za,zb,zc,zd,rfl,rfl⟩:=hr.resolve_left λh=>h.1 (Q5 p);refine cI ?_;refine zl T.fn_6 (Qk) .nil (λ_ _ _=>trivial) ?_;refine a8 ?_;refine zf 25 ?_ (e:=by rfl);refine aR ?_;refine zf 29 ?_ (e:=by rfl);refine cI ?_;refine Li (LfN T.Cq (hk:=ti (a:=some ⟨0,0,none⟩) (i:=0) (vs:=jZ cA) hg rfl rfl)) ?_;refine Lp (oC T.af6 rfl rfl (sz1) .nil (λ_ _ _=>trivial) ?_);rintro v H' Xn;refine bd ?_;obtain⟨-,sa,sc,rfl,rfl⟩:=Xn.resolve_left λh=>h.1 wP;refine cI ?_;refine Lp (oB λb2=> ?_);refine bH ?_;refine aT 73 8 ?_;refine WM ?_;refine Lo (ι:=Nat×Mo×gC×Option Addr×Nat×List (Option Addr×Nat×List UInt8)) [40,41,42,43,44,45,46,47,50,51,52,53,54,55,56,57,58,59,60,61,62,63,64,65,66,67,68,69,70,71,72,73,74,75,76,4,77,78,79,80,81,82,83,84,85,86,87,88,89,90,91,11,92,12,93,94,95,96,97,98,99,100,101,102,103,104,105,106,107,108,109,110,111,112,113,114,115,116,117,118,119,120,121,122,123,124,125,126,127,128,129,130,131,48,49,10] (λs=>(s.1≤l.length∧s.1≤200)∧(∃P t k,I4 s.2.1 P t k∧t≤s.1∧Aj k s.1∧ku s.2.2.1 P)∧zY s.2.2.2.2.2 s.2.2.1.l∧s.2.2.1.l.length≤s.1) (λs=> [(10, .int .i64 (s.1:Int))]) (λs=> [SW z s.2.1,ag b2 61 (bA s.2.2.1 s.2.2.2.1 s.2.2.2.2.1),own s.2.2.2.1 s.2.2.2.2.1 73 8 (aW s.2.2.1.l),bf s.2.2.2.2.2,own sa sc 3 1 (aV [64,128,256,512])]) (λs=>200-s.1) ((0,fk cA (ym p) ⟨1,0,0⟩,⟨[],1,0,0,0,0⟩,none,0,[])) ⟨⟨acS _,acS _⟩,⟨rF cA,0,0,I4.start p,acS _,⟨acS _⟩,ku.start⟩,λt h=>(by cases h),acS _⟩ ?_;rintro⟨i,M,B,la,lc,V⟩ hI;dsimp only at hI⊢;obtain⟨⟨hil,uR⟩,⟨P,t,k,D,Ej,hkb,R⟩,hV,hBl⟩:=hI;have bn1:=R.n1;have bn2:=R.n2;refine ay ?_;refine au ?_;refine cg (ι:=Unit) [40,41,42,43,44,45,46,47] (λu=>True) (λu=> [(47, .bool (decide ((i:Int)<l.length)&&decide ((i:Int)<200)))]) (λu=> [SW z M,ag b2 61 (bA B la lc),own la lc 73 8 (aW B.l),bf V,own sa sc 3 1 (aV [64,128,256,512])]) ?_ ?_
 ·refine cC ?_
  refine bc ?_;refine aE (t:=44) rfl ?_ ?_
  ·intro cn
   replace cn:=aD cn;refine aZ ?_;refine az ?_;refine Me (()) (trivial)
  intro cn;replace cn:=aD cn;refine aZ ?_;refine az ?_;refine Me (()) (trivial)
 rintro u hI;by_cases bX:i<l.length∧i<200
 ·obtain⟨x,e1⟩:∃x,l[i]?=some x:=⟨_,acx bX.1⟩
  obtain⟨ox,oxd⟩:=pA x (acB e1);have BO:=SV l;have jP:=hkb.le bX.2;have a0:a.isSome=true:=hD.some (by omega);have pC:((qp l).drop (i*12+0)).take 11=cy x.c x.ka x.kc x.da x.dc x.mv:=SX l i x e1 0 11 (by omega);have r2:t+1≤i+1:=by omega
  have r3:i+1≤l.length:=by omega
  have r4:i+1≤200:=by omega
  refine dz ?_ (e:=by exact(by simp;omega));by_cases htick:0<x.tick∧x.tick≤1099511627776-(B.now:Int)
  ·obtain⟨n,en⟩:∃n:Nat,x.tick=(n:Int):=⟨x.tick.toNat,by omega⟩
   have pT:(qp l)[i*12+11]?=some (.int .i64 (n:Int)):=by rw[←en];exact Dj l i x e1 11 (by omega)
   obtain⟨ha,R2⟩:=R.tick (n:=n) (by omega) (by omega);rw[D.a.oy]at ha;have i1:=D.na.aM;refine bc ?_;refine au ?_;refine cg (ι:=Unit) [50,51,52,53,54,55,56,57,58,59,60,61,62,63,64,65,66,67,68] (λu=>True) (λu=> [(68, .bool true)]) (λu=> [SW z M,ag b2 61 (bA B la lc),own la lc 73 8 (aW B.l),bf V,own sa sc 3 1 (aV [64,128,256,512])]) ?_ ?_
   ·refine gK 19 T.mix (.cons (.there .here) .nil) λF2 yi ez dX=> ?_
    obtain⟨q1,_⟩:=ez;have hD1:=hD.mono yi;refine a8 ?_;refine Ti (Ix T.oN) ?_;refine Ti (qD T.mL) ?_
    first
     |refine Ti (Lf T.bR) ?_
     |refine Ti (fB T.bR q1) ?_
    refine a8 ?_;refine zt 56 ?_;refine a8 ?_;refine Ti (Ix T.oN) ?_;refine Ti (qD T.mL) ?_
    first
     |refine Ti (Lf T.bR) ?_
     |refine Ti (fB T.bR q1) ?_
    refine aZ ?_
    first
     |refine Ti (Lf T.bR) ?_
     |refine Ti (fB T.bR q1) ?_
    refine aZ ?_;refine gd dX ?_;refine Tn ?_;refine ao (t:=68) (v':=(.bool true)) rfl (by exact congrArg Value.bool (decide_eq_true (by omega))) ?_;refine Me (()) (trivial)
   rintro u hI;refine bB ?_;refine Li (Ix T.oN) ?_;refine Li (qD T.mL) ?_;refine ay ?_;refine zl T.af5 (U7 uO z M (n:Int) (by omega)) (.cons .here .nil) (λ_ _ _=>trivial) ?_;rw[ha];refine cN ?_;refine Li (Ix T.oN) ?_;refine Li (qD T.mL) ?_;refine ay ?_;refine Lp (oC T.af4 rfl rfl (Tk b2 B la lc n (by omega)) (.cons (.there .here) .nil) (λ_ _ _=>trivial) ?_);rintro v H' rfl;refine bd ?_;refine cN ?_;refine az ?_;refine Hh (H':= [SW z (M.tick (n:Int)),ag b2 61 (bA (B.tick n) la lc),own la lc 73 8 (aW B.l),bf V,own sa sc 3 1 (aV [64,128,256,512])]) ?_;have hbt:(B.tick n).l=B.l:=by unfold gC.tick;split<;>rfl
   rw[show aW B.l=aW (B.tick n).l by rw[hbt]];refine Ro ((i+1,M.tick (n:Int),B.tick n,la,lc,V)) (⟨⟨r3,r4⟩,⟨P.tick (n:Int),t,k,D.tick (n:Int),(by dsimp only;omega),hkb.up,R2⟩,(by dsimp only;rw[hbt];exact hV),(by dsimp only;rw[hbt];omega)⟩) ((by dsimp only;omega))
  have pT:(qp l)[i*12+11]?=some (.int .i64 x.tick):=Dj l i x e1 11 (by omega);refine bc ?_;refine au ?_;refine cg (ι:=Unit) [50,51,52,53,54,55,56,57,58,59,60,61,62,63,64,65,66,67,68] (λu=>True) (λu=> [(68, .bool false)]) (λu=> [SW z M,ag b2 61 (bA B la lc),own la lc 73 8 (aW B.l),bf V,own sa sc 3 1 (aV [64,128,256,512])]) ?_ ?_
  ·refine gK 19 T.mix (.cons (.there .here) .nil) λF3 MN qH fM=> ?_
   obtain⟨q1,_⟩:=qH;have hD1:=hD.mono MN;refine a8 ?_;refine Ti (Ix T.oN) ?_;refine Ti (qD T.mL) ?_
   first
    |refine Ti (Lf T.bR) ?_
    |refine Ti (fB T.bR q1) ?_
   refine a8 ?_;by_cases h1:0<x.tick
   ·refine zt 56 ?_ (e:=by exact decide_eq_true h1)
    refine a8 ?_;refine Ti (Ix T.oN) ?_;refine Ti (qD T.mL) ?_
    first
     |refine Ti (Lf T.bR) ?_
     |refine Ti (fB T.bR q1) ?_
    refine aZ ?_
    first
     |refine Ti (Lf T.bR) ?_
     |refine Ti (fB T.bR q1) ?_
    refine aZ ?_;refine gd fM ?_;refine Tn ?_;refine ao (t:=68) (v':=(.bool false)) rfl (by exact congrArg Value.bool (decide_eq_false (by omega))) ?_;refine Me (()) (trivial)
   refine zf 56 ?_ (e:=by exact decide_eq_false h1);refine dQ ?_;refine gd fM ?_;refine Tn ?_;refine Me (()) (trivial)
  rintro u hI;refine ay ?_;obtain⟨hv,D2⟩:=D.dO (by omega) z.hot z.warm x.c;have tw:=U6 x.c x.ka x.kc x.da x.dc x.mv ox.one (by have:=ox.kn;omega) ox.dn;have d1:=ab2 z (by omega) (by omega) D (by omega) jP x ox;have IU:∀V:Mo,(∀q,V.has q→(V.it q).val.length≤1048576)→V.it=M.it→V.has=M.has→∀t∈B.l,¬B.dead t→t.val.length≤1048576:=λV hV e1 e2 t ht hd=>by
   obtain⟨q,_,hq,hx⟩:=R.it D.a ht hd;have:=hV q (by rw[e2];exact hq);rw[e1]at this;rw[show t.val=(M.it q).val from(congrArg I3.val hx).symm];exact this
  refine oR λwa wc BX O=> ?_;have hvl2:=IU (M.aK wa wc) (λq hq=>(O.YX (p:=q) hq).1) rfl rfl;have hbi:B.aM<1000000000:=by
   have h1:=D.na.aM;have h2:=D.a.aM;have h3:=R.aM;omega
  generalize M.dO z.hot z.warm x.c=R1 at*;obtain⟨⟨k1,D7,nn1,t1⟩,M'⟩:=R1;dsimp only at D2;refine bB ?_;refine Li (Ix T.oN) ?_;refine Li (qD T.sq) ?_;refine ay ?_;refine Lp (oC T.af3 rfl rfl (tw) .nil (λ_ le _=>⟨ox.keys.mono le,ox.data.mono le⟩) ?_);rintro v H' ⟨ka1,kc1,da1,dc1,q1,q2,rfl,rfl⟩;refine bd ?_;refine Lp (oC T.Hd rfl rfl (d1 ka1 kc1 da1 dc1) (.cons (.there (.there .here)) .nil) (λ_ le aw=>⟨bD (aw.nth 1 rfl),bD (aw.nth 0 rfl)⟩) ?_);rintro v H' ⟨MD,GS,l1,Xs,rfl,rfl⟩;refine bd ?_;refine fV (X:=l1.length≤GS∧GS≤9223372036854775807) (λh aw=>SF (aw.nth 0 rfl)) λIX=> ?_;unfold lV;refine Lp (oA T.iu λb3=> ?_);refine Lp (eJ T.aS ?_ (h1:=by simp[dG,Value.oneCell',aB,aG]));refine ay ?_;refine Hh (H':= [SW z M',ag b2 61 (bA B la lc),own la lc 73 8 (aW B.l),bf V,own sa sc 3 1 (aV [64,128,256,512]),ag b3 41 (dG k1 (.slice MD l1.length GS) nn1 t1),own MD GS 49 9 (fY l1),gV l1]) ?_;refine ay ?_;refine zl T.wx (ik qM) .nil (λ_ _ _=>trivial) ?_;unfold lV;refine Lp (oA T.iu λb4=> ?_);refine Lp (eJ T.aS ?_ (h1:=by simp[dG,Value.oneCell',aB,aG]));refine ay ?_;refine au ?_;refine Hh (H':= [SW z M',ag b2 61 (bA B la lc),own la lc 73 8 (aW B.l),bf V,own sa sc 3 1 (aV [64,128,256,512]),ag b3 41 (dG k1 (.slice MD l1.length GS) nn1 t1),own MD GS 49 9 (fY l1),gV l1,ag b4 41 (dG 11 aG 0 qM)]) ?_;refine cg (ι:=gC×Option Addr×Nat×List (Option Addr×Nat×List UInt8)×List (I3×Option Addr×Nat)×Option Addr×Nat) [93,94,95,96,97,98,99,100,101,102,103,104,105,106,107,108,109] (λ(B',qy,qx,V',m,ea,ec)=>(ku B' (P.dO lh x.c).2∧zY V' B'.l∧B'.l.length≤B.l.length+1)∧(m.map Prod.fst=(P.dO lh x.c).1.dM∧∀p∈m,jb V' p.2.1 p.1.val)) (λ(B',qy,qx,V',m,ea,ec)=> []) (λ(B',qy,qx,V',m,ea,ec)=> [SW z M',ag b2 61 (bA B' qy qx),own qy qx 73 8 (aW B'.l),bf V',own sa sc 3 1 (aV [64,128,256,512]),ag b3 41 (dG k1 (.slice MD l1.length GS) nn1 t1),own MD GS 49 9 (fY l1),gV l1,ag b4 41 (dG (P.dO lh x.c).1.kind (.slice ea m.length ec) (P.dO lh x.c).1.num (P.dO lh x.c).1.sQ),own ea ec 49 9 (fm m)]) ?_ ?_
  ·rcases hb:oH x.c with _|_
   ·have fX:P.dO lh x.c=P.eQ lh x.c:=by
     unfold bn.dO;rw[hb];rfl
    have hds:=To b2 B la lc P R D.f (by omega) hbi V hV hvl2 x.c x.ka x.kc x.da x.dc x.mv ox.one hb ox.kn oxd ox.dl sa sc (by rw[D.sz.1];decide) (by rw[D.sz.2];decide);rw[←fX,D.sz.1,D.sz.2]at hds;refine aZ ?_;refine Li (Ix T.oN) ?_;refine Li (qD T.sq) ?_;refine ay ?_;refine zl T.Yw (HG x.c x.ka x.kc x.da x.dc x.mv ox.one (by have:=ox.kn;omega) ox.kl) .nil (λ_ le _=>ox.keys.mono le) ?_;rw[hb];refine aZ ?_;refine gT true T.mix ?_;refine aZ ?_;refine Ti (Ix T.oN) ?_;refine Ti (qD T.sq) ?_;refine a8 ?_;refine Ti (Lf T.bR (hk:=yN (a:=some ⟨0,0,none⟩) (k:=4) hg rfl)) ?_;refine ay ?_;refine Tp (oC T.af2 rfl rfl (hds) (.cons (.there .here) (.cons (.there .here) (.cons (.there .here) .nil))) (λ_ le aw=>⟨ox.keys.mono le,ox.data.mono le,bD (aw.nth 1 rfl)⟩) ?_);rintro v H' ⟨B',qy,qx,V',m,ea,ec,h1,h2,rfl,rfl⟩;refine bd ?_;unfold lV;refine Tp (eJ T.aS ?_ (h1:=by simp[dG,Value.oneCell',aB,aG]));refine Tn ?_;refine Me ((B',qy,qx,V',m,ea,ec)) (⟨h1,h2⟩)
   have fX:P.dO lh x.c=(.t qM,P):=by
    unfold bn.dO;rw[hb];rfl
   rw[fX];refine aZ ?_;refine Li (Ix T.oN) ?_;refine Li (qD T.sq) ?_;refine ay ?_;refine zl T.Yw (HG x.c x.ka x.kc x.da x.dc x.mv ox.one (by have:=ox.kn;omega) ox.kl) .nil (λ_ le _=>ox.keys.mono le) ?_;rw[hb];refine aR ?_;refine aT 49 9 ?_;refine Me ((B,la,lc,V,[],none,0)) (⟨⟨R,hV,Nat.le_succ _⟩,rfl,λp h=>(by cases h)⟩)
  rintro⟨B',qy,qx,V',m,ea,ec⟩ ⟨⟨R2,hV2,hB2⟩,hm,YQ⟩
  try dsimp only at hI⊢
  generalize P.dO lh x.c=PR at*;obtain⟨pa,P2⟩:=PR;dsimp only at hv D2 R2 hm⊢;unfold ff.vw at hv;subst hv;dsimp only at hm⊢;have he:(toG l1).map (λx=>x.1.vw)=m.map (λx=>x.1.vw):=by
   have h1:l1.map (λx=>x.1.vw)=(l1.map Prod.fst).map I3.vw:=by rw[ahJ];rfl
   have h2:m.map (λx=>x.1.vw)=(m.map Prod.fst).map I3.vw:=by rw[ahJ];rfl
   rw[toG_vw,h1,h2,Xs,hm,ahJ];exact List.map_congr_left λy _=>(XE y).symm
  refine fV (X:=m.length≤ec) (λh aw=>LY (aw.nth 9 rfl)) λow=> ?_;have an:=GG k1 nn1 t1 (toG l1) m he MD ea GS ec (by rw[toG_len];exact IX.1) ow (by rw[toG_len];omega);rw[toG_len]at an;have qG:M'.v.aM=B'.aM:=D2.a.aM.symm.trans R2.aM;have hnow:M'.k.now=B'.now:=by rw[←D2.a.oy];exact R2.now
  refine au ?_;refine gK 22 T.mix (.cons (.there .here) (.cons (.there (.there (.there (.there .here)))) (.cons (.there (.there (.there (.there (.there (.there .here)))))) .nil))) λF4 le4 Nb Cn=> ?_;obtain⟨g1,g5,g8,_⟩:=Nb;refine a8 ?_;refine Tp (oC T.af1 rfl rfl (an) .nil (λ_ le aw=>⟨toG_at (bD (aw.nth 4 rfl)) (SG (aw.nth 5 rfl)),⟨bD (aw.nth 6 rfl),λp hp=>rR (aw.nth 2 rfl) (YQ p hp)⟩⟩) ?_);rintro v H' ⟨rfl,rfl⟩;refine bd ?_;refine Ti Nt ?_;refine ay ?_;refine zf 114 ?_ (e:=by rfl);refine ay ?_;refine Tp (oC T.af0 rfl rfl (FJ z M') (.cons .here .nil) (λ_ _ _=>trivial) ?_);rintro v H' ⟨rfl,rfl⟩;refine bd ?_;rw[qG];refine aZ ?_
  first
   |refine Ti (Lf T.jC) ?_
   |refine Ti (fB T.jC g1) ?_
   |refine Ti (fB T.jC g5) ?_
   |refine Ti (fB T.jC g8) ?_
  refine aZ ?_;refine zf 123 ?_ (e:=by exact(by simp));refine ay ?_;refine Tp (oC T.afZ rfl rfl (UZ z M') (.cons .here .nil) (λ_ _ _=>trivial) ?_);rintro v H' ⟨rfl,rfl⟩;refine bd ?_;rw[hnow];refine aZ ?_
  first
   |refine Ti (Lf T.bR) ?_
   |refine Ti (fB T.bR g1) ?_
   |refine Ti (fB T.bR g5) ?_
   |refine Ti (fB T.bR g8) ?_
  refine a8 ?_;refine gd Cn ?_;refine ay ?_;refine cu ?_ (e:=by exact(by simp));refine bH ?_;refine az ?_;refine Hh (H':= [SW z M',ag b2 61 (bA B' qy qx),own qy qx 73 8 (aW B'.l),bf V',own sa sc 3 1 (aV [64,128,256,512])]) ?_;have r0:=ox.kn;refine Ro ((i+1,M',B',qy,qx,V')) (⟨⟨r3,r4⟩,⟨P2,t+1,k+(x.c.keys.length+1),D2,r2,hkb.add (by omega),R2⟩,hV2,(by dsimp only;omega)⟩) ((by dsimp only;omega))
 refine cu ?_ (e:=by exact(by simp;omega));refine bw ?_;refine Lo (ι:=Nat) [132,133,134,135,136,137,138,142,143,144,145,146,147,148,149,150,151,141,152,153,14,15,154,155,156,157,158,159,160,161,162,163,164,165,166,167,168,169,170,171,172,173,174,175,176,177,178,179,180,181,182,4,139,140,13] (λj=>j≤B.l.length) (λj=> [(13, .int .i64 (j:Int))]) (λj=> [SW z M,ag b2 61 (bA B la lc),own la lc 73 8 (aW B.l),bf V]) (λj=>B.l.length-j) (0) (acS _) ?_;rintro j hj;refine bw ?_;by_cases hjt:j<B.l.length
 ·refine dz ?_
  obtain⟨th,f1⟩:∃th,B.l[j]?=some th:=⟨_,acx hjt⟩;have lU:=acB f1;have p0:(aW B.l)[j*8+0]?=some (aB th.key):=j7 _ j th f1 0 (by omega);have p8:((aW B.l).drop (j*8)).take 8=vK th:=wF _ j th f1;have sU:=gw B.l;have oh:=R.kl th lU;have hfd:=Dd z M th.key (by omega);have jO:=pf b2 B la lc (by omega) R.u th.key;refine fV (dZ (.there (.there .here)) (λ_ o=>fy o (by omega))) λsla=> ?_;refine bK ?_;refine Li (Ix T.fI) ?_;refine Li (qD T.mK) ?_;refine ay ?_;rcases Classical.em (B.dead th)with hd|hd
  ·have ou:=R.I8 (zp R.u f1 rfl hd)
   rw[Wa D.a ou]at hfd;refine zl T.NJ (hfd) (.cons .here .nil) (λ_ _ _=>trivial) ?_;refine aZ ?_;refine Lp (oA T.uc λb5=> ?_);refine Lp (eJ T.mD ?_ (h1:=by simp[Ni,Value.oneCell',aB]));refine a8 ?_;refine Hh (H':= [SW z M,ag b2 61 (bA B la lc),own la lc 73 8 (aW B.l),bf V,ag b5 49 Ni]) ?_;refine au ?_;refine gK 29 T.mix (.cons (.there .here) (.cons (.there .here) (.cons (.there (.there .here)) .nil))) λF5 le5 Y5 NP=> ?_;obtain⟨g1,g2,g4,_⟩:=Y5;have kr:=bD g2;refine bc ?_
   first
    |refine Ti (Lf T.eD) ?_
    |refine Ti (fB T.eD g1) ?_
    |refine Ti (fB T.eD g2) ?_
    |refine Ti (fB T.eD g4) ?_
   refine ay ?_;refine Ti (Ix T.fI) ?_;refine Ti (qD T.mK) ?_
   first
    |refine Ti (Lf T.Ac) ?_
    |refine Ti (fB T.Ac g1) ?_
    |refine Ti (fB T.Ac g2) ?_
    |refine Ti (fB T.Ac g4) ?_
   refine Tp (oC T.yS rfl rfl (jO) .nil (λ_ le _=>⟨In.mono g1 le,kr.mono le⟩) ?_);rintro v H' ⟨o,rfl,ho,rfl⟩;refine bd ?_;have ho2:o=none:=by
    cases o with
    |none=>rfl
    |some j2=>
     obtain⟨t2,c2,_,_,_,hf,_⟩:=R.EC ho;rw[ou]at hf;cases hf
   subst ho2;dsimp only[oI];refine ay ?_;refine Ti (Bq T.u_4) ?_;refine ay ?_;refine zf 167 ?_ (e:=by rfl);refine a8 ?_;refine zf 169 ?_ (e:=by rfl);refine gR ?_;refine gd NP ?_;refine cN ?_;refine az ?_;refine Hh (H':= [SW z M,ag b2 61 (bA B la lc),own la lc 73 8 (aW B.l),bf V]) ?_;refine Ro (j+1) ((by omega)) ((by omega))
  obtain⟨q,hq1,GL,hq3⟩:=R.it D.a lU hd;rw[hq1]at hfd;have TW:=hV th lU;have hxv:(M.it q).vw=th.x.vw:=by rw[←hq3,XE]
  refine Lp (oC T.NJ rfl rfl (hfd) (.cons .here .nil) (λ_ _ _=>trivial) ?_);rintro v H' ⟨vb,rfl,rfl⟩;refine bd ?_;refine aZ ?_;refine Lp (oA T.uc λb6=> ?_);refine Lp (eJ T.mD ?_ (h1:=by simp[jQ,Value.oneCell',aB]));refine a8 ?_;refine Hh (H':= [SW z M,ag b2 61 (bA B la lc),own la lc 73 8 (aW B.l),bf V,ag b6 49 (jQ (M.it q) (.slice (some ⟨vb,0,none⟩) (M.it q).val.length (M.it q).val.length)),own (some ⟨vb,0,none⟩) (M.it q).val.length 5 1 (ai (M.it q).val)]) ?_;refine au ?_;refine gK 29 T.mix (.cons (.there .here) (.cons (.there .here) (.cons (.there (.there .here)) .nil))) λF6 le6 Y4 NO=> ?_;obtain⟨g1,g2,g4,_⟩:=Y4;have kr:=bD g2;refine bc ?_
  first
   |refine Ti (Lf T.eD) ?_
   |refine Ti (fB T.eD g1) ?_
   |refine Ti (fB T.eD g2) ?_
   |refine Ti (fB T.eD g4) ?_
  refine ay ?_;refine Ti (Ix T.fI) ?_;refine Ti (qD T.mK) ?_
  first
   |refine Ti (Lf T.Ac) ?_
   |refine Ti (fB T.Ac g1) ?_
   |refine Ti (fB T.Ac g2) ?_
   |refine Ti (fB T.Ac g4) ?_
  refine Tp (oC T.yS rfl rfl (jO) .nil (λ_ le _=>⟨In.mono g1 le,kr.mono le⟩) ?_);rintro v H' ⟨o,rfl,ho,rfl⟩;refine bd ?_;obtain⟨j2,rfl⟩:∃j2,o=some j2:=by
   cases o with
   |none=>exact absurd (ho th lU rfl) hd
   |some j2=>exact⟨j2,rfl⟩
  dsimp only[oI];refine ay ?_;refine Ti (Bq T.u_4) ?_;refine ay ?_;refine zf 167 ?_ (e:=by exact(by simp));refine a8 ?_;refine zt 169 ?_ (e:=by rfl);refine aR ?_
  first
   |refine Ti (Lf T.eD) ?_
   |refine Ti (fB T.eD g1) ?_
   |refine Ti (fB T.eD g2) ?_
   |refine Ti (fB T.eD g4) ?_
  refine ay ?_;refine Ti (Ix T.fI) ?_;refine ay ?_;refine Tp (oC T.Yt rfl rfl (zS th) .nil (λ_ _ _=>trivial) ?_);rintro v H' ⟨rfl,rfl⟩;refine bd ?_;refine Tp (oC T.Yu rfl rfl (Df (M.it q) th.x (some ⟨vb,0,none⟩) th.va (M.it q).val.length th.vc) .nil (λ_ le aw=>⟨bD (aw.nth 2 rfl),rR (aw.nth 1 rfl) TW⟩) ?_);rintro v H' ⟨rfl,rfl⟩;refine bd ?_;rw[Iy hxv];refine Ti Nt ?_;refine a8 ?_;refine gd NO ?_;refine cN ?_;refine az ?_;refine Hh (H':= [SW z M,ag b2 61 (bA B la lc),own la lc 73 8 (aW B.l),bf V]) ?_;refine Ro (j+1) ((by omega)) ((by omega))
 refine cu ?_;refine cN ?_;refine Rt [] Tryz.results4 ?_;exact⟨rfl,rfl⟩
end Go.Proofs.YtdolmecackmjdaaGreatDoor
