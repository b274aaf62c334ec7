/- Part Pq1 of the proof. -/
import Derived.Test.YtcbcjolpdljbiaaGreatPo1
set_option maxRecDepth 100000
open Go.Proofs.YtcbcjolpdljbiaaGreat.T
open Int renaming tmod_lt_of_pos -> aiD
open List renaming range_succ -> aim, map_append -> adb, getElem?_eq_getElem -> aa0, getElem_mem -> abe
open Nat renaming zero_le -> abn, le_trans -> ahO
open Bool renaming false_or -> alV
open Go.Proofs.Tryz renaming prog -> aaY
open Go.Proofs.Tryz
open Go.Value renaming int -> DE
open Go.IntKind renaming i64 -> DD, u64 -> DB, u8 -> amn
namespace Go.Proofs.YtcbcjolpdljbiaaGreat
open Go Go.dQ Go.Proofs.YtcbcjolpdljbiaaGreat.Cs
theorem ajV{n w:Int}(h:0<w):gL .rem .i64 n w=some (n.tmod w):=by
 unfold gL
 first|(dsimp only;rw[if_neg (by omega)])|(simp;omega)
theorem rk (n lo hi:Int)(h:lo<=hi)(h0:0<=lo)(h1:hi<=1048576):aK aaY 20 [DE DD n,DE DD lo,DE DD hi] vz [] (λv H=>v=DE DD (dR n lo hi)/\H= []):=by
 have hw:=gy (n:=n) h;have a1:=aiD n (b:=hi-lo+1) (by omega);have a2: -(hi-lo+1)<n.tmod (hi-lo+1):=by
  have:=aiD (-n) (b:=hi-lo+1) (by omega);rw[Int.neg_tmod]at this;omega
 have hr:=ajV (n:=n) (w:=hi-lo+1) (by omega);unfold dR at*;refine af func20 rfl ntmps20 rfl ?_;intro F _;refine cY ?_;refine az (t:=11) (v':=(DE DD (hi-lo+1))) rfl (by(refine congrArg (Value.int .i64) ?_;first|rfl|omega|(rw[wrap_i64 (by omega)]))) ?_;generalize hi-lo+1=w at*;refine ba ?_;refine Li (Im (hz:=hr)) ?_;generalize n.tmod w=m at*;refine bL ?_;refine aA rfl ?_ ?_
 ·intro cB
  replace cB:=aG cB;refine gQ ?_;refine Rt [] results20 ?_;refine⟨?_,rfl⟩;refine congrArg (Value.int .i64) ?_;split<;>omega
 intro cB;replace cB:=aG cB;refine cu ?_;refine Rt [] results20 ?_;refine⟨?_,rfl⟩;refine congrArg (Value.int .i64) ?_;split<;>omega
def q9.pgs (t:q9):Int:=((bF (t.cfg 1024)).length:Int)+dR t.bQ 0 3
def GY (t:q9)(p:tO)(a:FX)(n c:Nat):FV:= [DE DD t.bQ,DE DD t.fac,DE DD t.bE,DE DD t.lim,DE DD t.hot,DE DD t.warm,DE DD p.b,DE DD p.l,DE DD p.c,DE DD p.m, .slice a n c]
abbrev zT (b:Nat)(t:q9)(p:tO)(a:FX)(n c:Nat):aa:=ag b 26 [DE DD t.bQ,DE DD t.fac,DE DD t.bE,DE DD t.lim,DE DD t.hot,DE DD t.warm,DE DD p.b,DE DD p.l,DE DD p.c,DE DD p.m, .slice a n c]
abbrev P8 (b:Nat)(a c d e f g h:Int):aa:=ag b 29 [DE DD a,DE DD c,DE DD d,DE DD e,DE DD f,DE DD g,DE DD h]
theorem q9.RJ (t:q9):((bF (t.cfg 1024)).length:Int)<=t.pgs/\t.pgs<=15:=by
 have h:=gy (n:=t.bQ) (lo:=0) (hi:=3) (by decide);have:=t.len 1024;unfold q9.pgs;omega
theorem Uh (t:q9)(p:tO)(a:FX)(n c:Nat):aK aaY 35 [.agg (GY t p a n c).toArray] vz []
  (λv H=>∃la lc,v= .tuple #[.agg (jR (t.cfg t.pgs)).toArray, .slice la (bF (t.cfg t.pgs)).length lc]/\H= [own la lc 3 1 (aE (bF (t.cfg t.pgs)))]):=by
 obtain⟨m1,m2,m3⟩:=t.xv;have w1:=rk t.fac 150 400 (by decide) (by decide) (by decide);have w2:=rk t.bE 8 64 (by decide) (by decide) (by decide);have w3:=rk t.hot 1 45 (by decide) (by decide) (by decide);have w4:=rk t.warm 1 45 (by decide) (by decide) (by decide);have w5:=rk t.lim t.lV 4096 (by omega) (by omega) (by decide);have w6:=rk t.bQ 0 3 (by decide) (by decide) (by decide);have hm:=gy (n:=t.bE) (lo:=8) (hi:=64) (by decide);have hp:=gy (n:=t.bQ) (lo:=0) (hi:=3) (by decide);have hl:=t.len 1024;have zs:=oI (t.cfg 1024);have hz:=t.cls (pgs:=1024) (by omega) (by decide);have e1:bF (t.cfg t.pgs)=bF (t.cfg 1024):=rfl;have e2:t.cfg 1024=⟨4096,1024,dR t.fac 150 400,t.lV,dR t.lim t.lV 4096,dR t.hot 1 45,dR t.warm 1 45⟩:=rfl;have e3:jR (t.cfg t.pgs)= [DE DD 4096,DE DD t.pgs,DE DD (dR t.fac 150 400),DE DD t.lV,DE DD (dR t.lim t.lV 4096),DE DD (dR t.hot 1 45),DE DD (dR t.warm 1 45)]:=rfl;have e4:t.pgs=((bF (t.cfg 1024)).length:Int)+dR t.bQ 0 3:=rfl;have e5:t.lV=8*dR t.bE 8 64:=rfl;rw[e1,e3];generalize bF (t.cfg 1024)=l at*;generalize lH (t.cfg 1024)=ce at*;rw[show jR (t.cfg 1024)= [DE DD 4096,DE DD 1024,DE DD (dR t.fac 150 400),DE DD t.lV,DE DD (dR t.lim t.lV 4096),DE DD (dR t.hot 1 45),DE DD (dR t.warm 1 45)]from rfl]at zs;generalize t.pgs=pg at*;generalize t.lV=mv at*;generalize dR t.fac 150 400=fa at*;generalize dR t.hot 1 45=ho at*;generalize dR t.warm 1 45=wa at*;generalize dR t.lim mv 4096=li at*;generalize dR t.bE 8 64=mi at*;generalize dR t.bQ 0 3=pa at*;unfold GY;refine af func35 rfl ntmps35 rfl ?_;intro F _;refine aw ?_;refine Lp (oB λb1=> ?_);refine Lp (oA kA λb2=> ?_);refine bn ?_;refine av ?_;refine cG (ι:=Nat) (FZ [4,1,7,14]) (λb4=>True) (λb4=> [(4,DC b4)]) (λb4=> [P8 b4 4096 0 fa mv 0 ho wa,P8 b2 0 0 0 0 0 0 0,zT b1 t p a n c]) ?_ ?_
 ·refine yf mix (.cons (.there .here) .nil) λF1 jq bV aI=> ?_
  obtain⟨cK,_⟩:=bV;refine Dt 0 rfl (Fa Wo) ?_;refine Dt 1 rfl (Lf bz) ?_;refine Dt 3 rfl (Fa Wn) ?_;refine Dt 4 rfl (Lf bz) ?_;refine Dt 7 rfl (Fa Wk) ?_;refine Dt 8 rfl (Lf bz) ?_;refine Dt 10 rfl (Fa Wj) ?_;refine Dt 11 rfl (Lf bz) ?_;refine D2 2 14 ?_ ?_
  ·refine Do rfl (oZ (Aq (n:=20)) (w1) .nil DA ?_)
   refine aw ?_;refine D2 5 14 ?_ ?_
   ·refine Do rfl (oZ (Aq (n:=20)) (w2) .nil DA ?_)
    refine aw ?_;refine Dt 6 rfl Im ?_;refine az (t:=13) (v':=(DE DD mv)) rfl (by(refine congrArg (Value.int .i64) ?_;first|omega|(rw[wrap_i64 (by omega)];omega))) ?_;refine D2 9 14 ?_ ?_
    ·refine Do rfl (oZ (Aq (n:=20)) (w3) .nil DA ?_)
     refine aw ?_;refine D2 12 14 ?_ ?_
     ·refine Do rfl (oZ (Aq (n:=20)) (w4) .nil DA ?_)
      refine aw ?_;refine Dt 13 rfl (Bd kA AG) ?_;refine Dd 14 rfl (oA kA λb3=> ?_);refine aw ?_;refine Dd 15 rfl (gE qC ?_);refine aw ?_;refine aQ (by kernel_rfl) aI ?_;refine Hh (H':= [P8 b3 4096 0 fa mv 0 ho wa,P8 b2 0 0 0 0 0 0 0,zT b1 t p a n c]) ?_;refine Me (b3) (trivial)
     refine Do rfl (oA kA λb4=> ?_);refine aw ?_;refine Dd 12 rfl (oZ (Aq (n:=20)) (w4) .nil DA ?_);refine aw ?_;refine Dt 13 rfl (Bd kA AG) ?_;refine Dd 15 rfl (gE qC ?_);refine aw ?_;refine aQ (by kernel_rfl) aI ?_;refine Hh (H':= [P8 b4 4096 0 fa mv 0 ho wa,P8 b2 0 0 0 0 0 0 0,zT b1 t p a n c]) ?_;refine Me (b4) (trivial)
    refine Do rfl (oA kA λb5=> ?_);refine aw ?_;refine Dd 9 rfl (oZ (Aq (n:=20)) (w3) .nil DA ?_);refine aw ?_;refine Dd 12 rfl (oZ (Aq (n:=20)) (w4) .nil DA ?_);refine aw ?_;refine Dt 13 rfl (Bd kA AG) ?_;refine Dd 15 rfl (gE qC ?_);refine aw ?_;refine aQ (by kernel_rfl) aI ?_;refine Hh (H':= [P8 b5 4096 0 fa mv 0 ho wa,P8 b2 0 0 0 0 0 0 0,zT b1 t p a n c]) ?_;refine Me (b5) (trivial)
   refine Do rfl (oA kA λb6=> ?_);refine aw ?_;refine Dd 5 rfl (oZ (Aq (n:=20)) (w2) .nil DA ?_);refine aw ?_;refine Dt 6 rfl Im ?_;refine az (t:=13) (v':=(DE DD mv)) rfl (by(refine congrArg (Value.int .i64) ?_;first|omega|(rw[wrap_i64 (by omega)];omega))) ?_;refine Dd 9 rfl (oZ (Aq (n:=20)) (w3) .nil DA ?_);refine aw ?_;refine Dd 12 rfl (oZ (Aq (n:=20)) (w4) .nil DA ?_);refine aw ?_;refine Dt 13 rfl (Bd kA AG) ?_;refine Dd 15 rfl (gE qC ?_);refine aw ?_;refine aQ (by kernel_rfl) aI ?_;refine Hh (H':= [P8 b6 4096 0 fa mv 0 ho wa,P8 b2 0 0 0 0 0 0 0,zT b1 t p a n c]) ?_;refine Me (b6) (trivial)
  refine Do rfl (oA kA λb7=> ?_);refine aw ?_;refine Dd 2 rfl (oZ (Aq (n:=20)) (w1) .nil DA ?_);refine aw ?_;refine Dd 5 rfl (oZ (Aq (n:=20)) (w2) .nil DA ?_);refine aw ?_;refine Dt 6 rfl Im ?_;refine az (t:=13) (v':=(DE DD mv)) rfl (by(refine congrArg (Value.int .i64) ?_;first|omega|(rw[wrap_i64 (by omega)];omega))) ?_;refine Dd 9 rfl (oZ (Aq (n:=20)) (w3) .nil DA ?_);refine aw ?_;refine Dd 12 rfl (oZ (Aq (n:=20)) (w4) .nil DA ?_);refine aw ?_;refine Dt 13 rfl (Bd kA AG) ?_;refine Dd 15 rfl (gE qC ?_);refine aw ?_;refine aQ (by kernel_rfl) aI ?_;refine Hh (H':= [P8 b7 4096 0 fa mv 0 ho wa,P8 b2 0 0 0 0 0 0 0,zT b1 t p a n c]) ?_;refine Me (b7) (trivial)
 rintro b4 hI;refine ba ?_;refine zl Aq (w5) .nil DA ?_;refine cu ?_;refine Lp (oC Aq rfl rfl (zs) .nil DA ?_);rintro v H' hr;refine bS ?_;obtain⟨-,la,lc,rfl,rfl⟩:=hr.resolve_left λh=>h.1 hz;refine bO ?_;refine zl Aq (w6) .nil DA ?_;refine aw ?_;refine az (t:=38) (v':=(DE DD pg)) rfl (by(refine congrArg (Value.int .i64) ?_;first|omega|(rw[wrap_i64 (by omega)];omega))) ?_;refine bD ?_;refine Ha [own la lc 3 1 (aE l)] qC results35 ?_;exact⟨la,lc,rfl,rfl⟩
end Go.Proofs.YtcbcjolpdljbiaaGreat
namespace Go.dQ
open Go
theorem ak4{P:Program}{n:Nat}{F:dM}{σ:aT}{H:Dz}{fn:Func}{T:DF}{t ty b i k u u':Nat}{x x':Value}{e:TypeId}{cs vs:FV}{R:Dz}(H':Dz)(hs:cO P ty=some k)(hr:fn.results= #[.tmp u, .cell t ty, .tmp u'])(hR:T (.tuple #[x, .agg vs.toArray,x']) H')(ht:look σ t=some (.pointer (some ⟨b,i,none⟩)):=by exact rfl)
  (hx:look σ u=some x:=by exact rfl) (Xl:look σ u'=some x':=by exact rfl) (dg:fO H (ag b e cs) R:=by repeat (first|exact fO.here|apply fO.there)) (hv:(cs.drop i).take k=vs:=by exact rfl) (hk:vs.length=k:=by exact rfl) (hh:∀h,ai H h->ai H' h:=by exact Eh):
  G n [] F (bodyPost P fn (λe w'=>∃v H',e= .returned v/\T v H'/\St F H' w') .ret) σ H:=
 .mk λa w en s=>⟨en.defers,_,by
  obtain⟨h1,h4⟩:=uH (P:=P) en s ht hs dg hv hk;have h2:a.tmps.getD u undef=x:=by simp[en.slot u x hx]
  have h3:a.tmps.getD u' undef=x':=by simp[en.slot u' x' Xl]
  simp only[results,hr];simp at h1 h2 h3;simp[h1,h2,h3,h4],_,H',rfl,hR,s.sub hh⟩
end Go.dQ
namespace Go.Proofs.YtcbcjolpdljbiaaGreat
open Go Go.dQ Go.Proofs.YtcbcjolpdljbiaaGreat.Cs
theorem UU (t:q9)(p:tO)(a:FX)(n c:Nat):aK aaY 7 [.agg (GY t p a n c).toArray] vz []
  (λv H=>∃(z:Ly) (la:FX) (lc:Nat),z.hot<=90/\z.warm<=90/\v= .tuple #[DC z.s, .agg (jR (t.cfg t.pgs)).toArray, .slice la (bF (t.cfg t.pgs)).length lc]/\H= [own la lc 3 1 (aE (bF (t.cfg t.pgs))),SW z (gu (t.cfg t.pgs) (Ac p) ⟨1,0,0⟩)]):=by
 have w0:=Uh t p a n c;have w1:=Zm p;have w2:=E5 (t.cfg t.pgs) (Ac p);obtain⟨u7,dL⟩:=t.RJ;have hz:=t.new u7 (by omega) p;unfold GY at*;unfold Ab at w1;unfold jR at*;refine af func7 rfl ntmps7 rfl ?_;intro F _;refine aw ?_;refine Lp (oB λb1=> ?_);refine aw ?_;refine Lp (oA kA λb2=> ?_);refine aY ?_;refine Lp (oC Aq rfl rfl (w0) .nil DA ?_);rintro v H' ⟨la,lc,rfl,rfl⟩;refine bS ?_;refine bj ?_;refine Lp (oA kA λb3=> ?_);refine bj ?_;refine av ?_;refine iL 4 mix (.cons .here (.cons (.t2 .here) .nil)) λF1 jq bV aI=> ?_;obtain⟨q1,q2,_⟩:=bV;refine bj ?_;refine Tp (oZ (Aq (n:=21)) (w1) .nil DA ?_);refine gG aI ?_;refine Tp (oC Aq rfl rfl (w2) .nil DA ?_);rintro v H' hr;refine bS ?_;obtain⟨-,z,z1,z2,z3,z4,rfl,rfl⟩:=hr.resolve_left λh=>h.1 hz;refine bO ?_;refine zf 24 ?_ (e:=by rfl);refine zl Aq (T9) .nil DA ?_;refine bA ?_;refine av ?_;refine gT false mix ?_;refine aY ?_;refine Tp (gE qC ?_);refine bj ?_;refine ak4 [own la lc 3 1 (aE (bF (t.cfg t.pgs))),SW z (gu (t.cfg t.pgs) (Ac p) ⟨1,0,0⟩)] qC results7 ?_;exact⟨z,la,lc,z3,z4,rfl,rfl⟩
def p7 (M:Mo)(n:Nat):F8:=(List.range n).map λc=>(M.C.rw c).eG
def BZ (M:Mo)(c:Nat):Nat:=((M.C.rw c).fL+M.C.spare)*(M.C.aj/M.C.sz c)
def p9 (M:Mo)(n:Nat):F8:=(List.range n).map (BZ M)
theorem aeM (M:Mo)(n:Nat):p7 M n++ [(M.C.rw n).eG]=p7 M (n+1):=by unfold p7;rw[aim,adb];rfl
theorem aeQ (M:Mo)(n:Nat):p9 M n++ [BZ M n]=p9 M (n+1):=by unfold p9;rw[aim,adb];rfl
theorem RF (M:Mo)(n:Nat):(p7 M n).length=n:=by unfold p7;simp
theorem RG (M:Mo)(n:Nat):(p9 M n).length=n:=by unfold p9;simp
theorem ae1{C:Cs}{c:Nat}(f:Nat->Nat)(h:c<C.ae.length):ofM C (c:Int) f=f c:=by
 unfold ofM;rw[if_pos ⟨by omega,by omega⟩,Int.toNat_natCast]
theorem Vk (z:Ly)(M:Mo)(n:Nat)(hn:M.C.ae.length=n)(hs:∀k,k<=n->GI (λc=>(M.C.rw c).eG) k<=786432)(hc:n<=62):aK aaY 28 [DC z.s,DE DD n] vz [SW z M]
  (λv H=>∃ra rc qa qc,v= .agg #[.slice ra n rc, .slice qa n qc,DE DD (GI (λc=>(M.C.rw c).eG) n:Int)]/\H= [own ra rc 3 1 (aE (p7 M n)),own qa qc 3 1 (aE (p9 M n)),SW z M]):=by
 refine af func28 rfl ntmps28 rfl ?_;intro F _;refine aw ?_;refine Lp (oA QN λb1=> ?_);refine bn ?_;refine Lp (oA QN λb2=> ?_);refine aw ?_;refine av ?_;refine Hh (H':= [ag b2 79 [bB,bB,DE DD 0],SW z M,ag b1 79 [bB,bB,DE DD 0]]) ?_;refine cX 3 1 ?_;refine cX 3 1 ?_;refine aY ?_;refine Lo (ι:=Nat×FX×Nat×FX×Nat) (FZ [6,29]) (λs=>s.1<=n) (λs=> [(6,DE DD s.1)]) (λs=> [own s.2.1 s.2.2.1 3 1 (aE (p7 M s.1)),own s.2.2.2.1 s.2.2.2.2 3 1 (aE (p9 M s.1)),ag b2 79 [.slice s.2.1 s.1 s.2.2.1, .slice s.2.2.2.1 s.1 s.2.2.2.2,DE DD (GI (λc=>(M.C.rw c).eG) s.1:Int)],SW z M,ag b1 79 [bB,bB,DE DD 0]]) (λs=>n-s.1) ((0,none,0,none,0)) (by exact abn n) ?_;rintro⟨c,ra,rc,qa,qc⟩ hI
 try dsimp only at hI⊢
 by_cases ct:c<n
 ·have h1:=hs (c+1) ct
  have h0:=hs c hI;rw[QZ]at h1
  try dsimp only at h1
  have lr:=RF M c;have lq:=RG M c;have r1:=jo z M (c:Int);have r2:=Mn z M (c:Int);rw[ae1 _ (by omega)]at r1 r2;rw[show((M.C.rw c).fL+M.C.spare)*(M.C.aj/M.C.sz c)=BZ M c from rfl]at r2;refine bA ?_;refine eJ ?_;refine aY ?_;refine av ?_;refine iL 8 mix (.cons (.t2 .here) .nil) λF1 jq bV aI=> ?_;obtain⟨q1,_⟩:=bV;refine aY ?_;refine Tp (oZ (Aq (n:=26)) (r1) (.cons (.t2 .here) .nil) DA ?_);refine Tp (oT gk λb3=> ?_);refine Tp (bI gk qy rfl rfl rfl rfl (.there .here) (by simp[aE,lr]) (rfl) (by simp[Value.oneCell']) (by first|omega|(simp;omega)) (by first|omega|(simp;omega)) rfl λa4 c4 hc4=> ?_);refine aw ?_;refine gG aI ?_;refine bn ?_;rw[show aE (p7 M c)++ [Value.int .i64 ((M.C.rw c).eG:Int)]=aE (p7 M (c+1)) by rw[<-aeM,gC];rfl];refine Hh (H':= [own qa qc 3 1 (aE (p9 M c)),ag b2 79 [.slice a4 (c+1) c4, .slice qa c qc,DE DD (GI (λc=>(M.C.rw c).eG) c:Int)],SW z M,ag b1 79 [bB,bB,DE DD 0],own a4 c4 3 1 (aE (p7 M (c+1)))]) ?_;refine av ?_;refine iL 8 mix (.cons (.there .here) .nil) λF2 zU eP dE=> ?_;obtain⟨q2,_⟩:=eP;refine aY ?_;refine Tp (oZ (Aq (n:=34)) (r2) (.cons (.there .here) .nil) DA ?_);refine Tp (oT gk λb4=> ?_);refine Tp (bI gk qy rfl rfl rfl rfl (.there .here) (by simp[aE,lq]) (rfl) (by simp[Value.oneCell']) (by first|omega|(simp;omega)) (by first|omega|(simp;omega)) rfl λa5 c5 hc5=> ?_);refine aw ?_;refine gG dE ?_;refine bn ?_;rw[show aE (p9 M c)++ [Value.int .i64 ((BZ M c:Nat):Int)]=aE (p9 M (c+1)) by rw[<-aeQ,gC];rfl];refine Hh (H':= [ag b2 79 [.slice a4 (c+1) c4, .slice a5 (c+1) c5,DE DD (GI (λc=>(M.C.rw c).eG) c:Int)],SW z M,ag b1 79 [bB,bB,DE DD 0],own a4 c4 3 1 (aE (p7 M (c+1))),own a5 c5 3 1 (aE (p9 M (c+1)))]) ?_;refine iL 5 mix (.cons .here .nil) λF3 Xg rX fA=> ?_;obtain⟨q3,_⟩:=rX;refine aY ?_;refine Tp (oZ (Aq (n:=26)) (r1) (.cons .here .nil) DA ?_);refine gG fA ?_;refine aw ?_;refine az (t:=33) (v':=(DE DD (GI (λc=>(M.C.rw c).eG) (c+1):Int))) rfl (by(refine congrArg (Value.int .i64) ?_;rw[QZ];(try dsimp only);first|omega|(rw[wrap_i64 (by omega)];omega))) ?_;refine cu ?_;refine aB ?_;refine Hh (H':= [own a4 c4 3 1 (aE (p7 M (c+1))),own a5 c5 3 1 (aE (p9 M (c+1))),ag b2 79 [.slice a4 (c+1) c4, .slice a5 (c+1) c5,DE DD (GI (λc=>(M.C.rw c).eG) (c+1):Int)],SW z M,ag b1 79 [bB,bB,DE DD 0]]) ?_;refine Ro ((c+1,a4,c4,a5,c5)) (ct) ((by dsimp only;omega))
 obtain rfl:c=n:=by omega
 refine bA ?_;refine cM ?_;refine bD ?_;refine GF [own ra rc 3 1 (aE (p7 M c)),own qa qc 3 1 (aE (p9 M c)),SW z M] Ri results28 ?_;exact⟨ra,rc,qa,qc,rfl,rfl⟩
theorem Am.le6{k i:Nat}(h:Am k i)(hi:i<600):k<=629146200:=ahO h.h (ahO (Nat.mul_le_mul_right _ (Nat.le_of_lt hi)) (by decide))
theorem agL (z:Ly)(LM:z.hot<=100)(LL:z.warm<=100){t:q9}{p:Int}{M:Mo}{s:Nat}(S:xQ (t.cfg p) M s)(hs:s<=629146200){h0:Hp}(d:rZ)(D:yi h0 d)(ka:FX)(kc:Nat)(da:FX)(dc:Nat):
  aK aaY 11 [DC z.s, .agg (dB d.c ka kc da dc d.mv).toArray] (λh=>fD h ka (fk d.c.keys)/\fD h da (ak d.c.data)) [SW z M] (Mj z (M.dO z.hot z.warm d.c)):=by
 have h1:=S.r.st;have h2:=S.r.tn;have h3:=S.r.bc;have h4:=D.kn;have h5:=D.dn;have hl:=gy (n:=t.lim) (lo:=t.lV) (hi:=4096) (by have:=t.xv;omega);have h6:M.v.c.lim<=1048576:=by
  rw[S.cf];show dR t.lim t.lV 4096<=1048576;omega
 exact acz xe z LM LL M d.c ka kc da dc d.mv D.one (by omega) D.kl D.ex (by omega) D.dl S.h (by omega) S.p h6 (by omega) (by omega)
theorem xQ.aN{c:oo}{M:Mo}{s:Nat}(S:xQ c M s)(a:FX)(k:Nat):xQ c (M.aN a k) s:=⟨S.h,⟨S.r.st,S.r.tn,S.r.bc⟩,S.p,S.cf,⟨S.o.z,S.o.q⟩⟩
structure Th where
 key:F9
 val:F9
 va:FX
 vc:Nat
 fl:Nat
 exp:Nat
 tok:Nat
 room:Nat
 rd:Nat
 lG:Bool
def Th.x (t:Th):I3:=⟨t.key,t.val,t.fl,t.exp,t.rd,t.tok,if t.lG=true then 8 else 0⟩
structure Boo where
 l:List Th
 now:Nat
 bc:Nat
 cut:Nat
 ku:Nat
 lost:Nat
def Boo.dead (B:Boo)(t:Th):Prop:=(0<t.exp/\t.exp<=B.now)\/t.tok<=B.cut
def agS (sl:F8)(n:Nat):Nat:=(sl.find? λz=>decide (n<=z)).getD 0
def acy (l:List Th)(k:F9):List Th:=l.filter λt=>decide (t.key≠k)
def Boo.drop (B:Boo)(k:F9):Boo:={B with l:=acy B.l k}
theorem UJ (v:Int):aK aaY 39 [DE DD v] vz [] (λw H=>w=DE DD (bm v)/\H= []):=by
 refine af func39 rfl ntmps39 rfl ?_;intro F _;refine cY ?_;refine aM (t:=5) rfl ?_ ?_
 ·intro cB
  replace cB:=aG cB;refine aY ?_;refine aA rfl ?_ ?_
  ·intro cK
   replace cK:=aG cK;refine ba ?_;refine Rt [] results39 ?_;refine⟨?_,rfl⟩;unfold bm
   repeat' split
   all_goals first|rfl|(exfalso;omega)
  intro cK;replace cK:=aG cK;refine bL ?_;refine aM (t:=11) rfl ?_ ?_
  ·intro cy
   replace cy:=aG cy;refine aY ?_;refine aA rfl ?_ ?_
   ·intro ca
    replace ca:=aG ca;refine ba ?_;refine Rt [] results39 ?_;refine⟨?_,rfl⟩;unfold bm
    repeat' split
    all_goals first|rfl|(exfalso;omega)
   intro ca;replace ca:=aG ca;refine bL ?_;refine aM (t:=17) rfl ?_ ?_
   ·intro cZ
    replace cZ:=aG cZ;refine aY ?_;refine aA rfl ?_ ?_
    ·intro iR
     replace iR:=aG iR;refine ba ?_;refine Rt [] results39 ?_;refine⟨?_,rfl⟩;unfold bm
     repeat' split
     all_goals first|rfl|(exfalso;omega)
    intro iR;replace iR:=aG iR;refine bA ?_;refine Rt [] results39 ?_;refine⟨?_,rfl⟩;unfold bm
    repeat' split
    all_goals first|rfl|(exfalso;omega)
   intro cZ;replace cZ:=aG cZ;refine bO ?_;refine Rt [] results39 ?_;refine⟨?_,rfl⟩;unfold bm
   repeat' split
   all_goals first|rfl|(exfalso;omega)
  intro cy;replace cy:=aG cy;refine cL ?_;refine aM (t:=17) rfl ?_ ?_
  ·intro ca
   replace ca:=aG ca;refine aY ?_;refine aA rfl ?_ ?_
   ·intro cZ
    replace cZ:=aG cZ;refine ba ?_;refine Rt [] results39 ?_;refine⟨?_,rfl⟩;unfold bm
    repeat' split
    all_goals first|rfl|(exfalso;omega)
   intro cZ;replace cZ:=aG cZ;refine bA ?_;refine Rt [] results39 ?_;refine⟨?_,rfl⟩;unfold bm
   repeat' split
   all_goals first|rfl|(exfalso;omega)
  intro ca;replace ca:=aG ca;refine bO ?_;refine Rt [] results39 ?_;refine⟨?_,rfl⟩;unfold bm
  repeat' split
  all_goals first|rfl|(exfalso;omega)
 intro cB;replace cB:=aG cB;refine cL ?_;refine aM (t:=11) rfl ?_ ?_
 ·intro cK
  replace cK:=aG cK;refine aY ?_;refine aA rfl ?_ ?_
  ·intro cy
   replace cy:=aG cy;refine ba ?_;refine Rt [] results39 ?_;refine⟨?_,rfl⟩;unfold bm
   repeat' split
   all_goals first|rfl|(exfalso;omega)
  intro cy;replace cy:=aG cy;refine bL ?_;refine aM (t:=17) rfl ?_ ?_
  ·intro ca
   replace ca:=aG ca;refine aY ?_;refine aA rfl ?_ ?_
   ·intro cZ
    replace cZ:=aG cZ;refine ba ?_;refine Rt [] results39 ?_;refine⟨?_,rfl⟩;unfold bm
    repeat' split
    all_goals first|rfl|(exfalso;omega)
   intro cZ;replace cZ:=aG cZ;refine bA ?_;refine Rt [] results39 ?_;refine⟨?_,rfl⟩;unfold bm
   repeat' split
   all_goals first|rfl|(exfalso;omega)
  intro ca;replace ca:=aG ca;refine bO ?_;refine Rt [] results39 ?_;refine⟨?_,rfl⟩;unfold bm
  repeat' split
  all_goals first|rfl|(exfalso;omega)
 intro cK;replace cK:=aG cK;refine cL ?_;refine aM (t:=17) rfl ?_ ?_
 ·intro cy
  replace cy:=aG cy;refine aY ?_;refine aA rfl ?_ ?_
  ·intro ca
   replace ca:=aG ca;refine ba ?_;refine Rt [] results39 ?_;refine⟨?_,rfl⟩;unfold bm
   repeat' split
   all_goals first|rfl|(exfalso;omega)
  intro ca;replace ca:=aG ca;refine bA ?_;refine Rt [] results39 ?_;refine⟨?_,rfl⟩;unfold bm
  repeat' split
  all_goals first|rfl|(exfalso;omega)
 intro cy;replace cy:=aG cy;refine bO ?_;refine Rt [] results39 ?_;refine⟨?_,rfl⟩;unfold bm
 repeat' split
 all_goals first|rfl|(exfalso;omega)
theorem MV (l:F9)(hl:l.length<281474976710656):
  aK aaY 40 [aW l] vz [] (λv H=>v= .bool (cU l)/\H= []):=by
 refine af func40 rfl ntmps40 rfl ?_;intro F r;refine bA ?_;refine Li (Ls sE) ?_;refine bn ?_;refine aM (t:=7) rfl ?_ ?_
 ·intro h1
  replace h1:=aG h1;refine bO ?_;refine Rt [] results40 ?_;refine⟨?_,rfl⟩;unfold cU;rw[Ar];rfl
 intro h1;replace h1:=aG h1;refine aw ?_;refine Li (Ls sE) ?_;refine bj ?_;refine aA rfl ?_ ?_
 ·intro h2
  replace h2:=aG h2;refine ba ?_;refine Rt [] results40 ?_;refine⟨?_,rfl⟩;unfold cU;rw[Ar];rfl
 intro h2;replace h2:=aG h2;refine bL ?_;refine Lo (ι:=Nat) (FZ [2,2,12,16]) (λk=>k<=l.length/\∀i (h:i<l.length),i<k->okB l[i]=true) (λk=> [(3,DE DD k)]) (λk=> []) (λk=>l.length-k) (0) ⟨abn _,λi _ h=>absurd h (Nat.not_lt_zero _)⟩ ?_;rintro k hI;refine aY ?_;refine Li (Ls sE) ?_;refine bn ?_;refine aA rfl ?_ ?_
 ·intro hk
  replace hk:=aG hk;have ct:k<l.length:=by omega
  have hb:l[k]?=some l[k]:=aa0 ct;have hc:=l[k].toNat_lt;refine bL ?_;refine Li (Is sE) ?_;refine bn ?_;refine aM (t:=22) rfl ?_ ?_
  ·intro h3
   replace h3:=aG h3;refine pX ?_;refine Rt [] results40 ?_;exact⟨by rw[uC ct (Ar)],rfl⟩
  intro h3;replace h3:=aG h3;refine bn ?_;refine Li (Is sE) ?_;refine bj ?_;refine aA rfl ?_ ?_
  ·intro h4
   replace h4:=aG h4;refine cu ?_;refine Rt [] results40 ?_;exact⟨by rw[uC ct (Ar)],rfl⟩
  intro h4;replace h4:=aG h4;refine bL ?_;refine aB ?_;refine Ro (k+1) (⟨by omega,E8 hI.2 ct (Au)⟩) ((by omega))
 intro hk;replace hk:=aG hk;refine cu ?_;refine Rt [] results40 ?_;refine⟨?_,rfl⟩;unfold cU;rw[Au,Bool.true_and];rw[eq_comm,Value.bool.injEq,List.all_eq_true];intro x hx;obtain⟨i,hi,rfl⟩:=List.getElem_of_mem hx;exact hI.2 i hi (by omega)
theorem Zc (c:dy)(ka:FX)(kc:Nat)(da:FX)(dc:Nat)(mv:Value)(kx:mv.oneCell'=true)(GQ:c.keys.length<281474976710656)(hk:∀k∈c.keys,k.length<281474976710656):
  aK aaY 10 [.agg (dB c ka kc da dc mv).toArray] (λh=>fD h ka (fk c.keys)) [] (λw H=>w= .bool (lY c)/\H= []):=by
 have hb:lY c=(decide (bm c.ax<0\/0<bm c.ax/\c.keys.length=0\/bm c.ax=1/\1<c.keys.length) ||(decide (0<bm c.ax)&&c.keys.any λk=> !cU k) ||decide (5<=c.ax/\c.ax<=10/\4294967295<c.fl)):=rfl;refine af func10 rfl ntmps10 rfl ?_;intro F hr;refine aw ?_;refine Lp (oB λb1=> ?_);refine ba ?_;refine zl Aq (UJ c.ax) .nil DA ?_;generalize hn:bm c.ax=n at*;have hn4:n= -1\/n=0\/n=1\/n=2:=by
  rw[<-hn];unfold bm
  repeat' split
  all_goals omega
 have fin:decide (n<0\/0<n/\c.keys.length=0\/n=1/\1<c.keys.length)=true->lY c=true:=λh=>by rw[hb,h];rfl
 refine bn ?_;refine av ?_;refine cG (ι:=Unit) (FZ [2,1,8,22]) (λu=>¬(n<0\/0<n/\c.keys.length=0\/n=1/\1<c.keys.length)) (λu=> []) (λu=> [ag b1 42 (dB c ka kc da dc mv)]) ?_ ?_
 ·refine iz ?_
  refine bj ?_;refine aM (t:=10) rfl ?_ ?_
  ·intro cB
   replace cB:=aG cB;refine cC ?_;refine bA ?_;refine Rt [] results10 ?_;exact⟨congrArg Value.bool (fin (Au)).symm,rfl⟩
  intro cB;replace cB:=aG cB;refine bj ?_;refine aM (t:=13) rfl ?_ ?_
  ·intro cK
   replace cK:=aG cK;refine bL ?_;refine aM (t:=20) rfl ?_ ?_
   ·intro cy
    replace cy:=aG cy;refine pX ?_;refine Rt [] results10 ?_;exact⟨congrArg Value.bool (fin (Au)).symm,rfl⟩
   intro cy;replace cy:=aG cy;refine bj ?_;refine aM (t:=23) rfl ?_ ?_
   ·intro ca
    replace ca:=aG ca;refine bL ?_;refine aA rfl ?_ ?_
    ·intro cZ
     replace cZ:=aG cZ;refine ba ?_;refine Rt [] results10 ?_;exact⟨congrArg Value.bool (fin (Au)).symm,rfl⟩
    intro cZ;replace cZ:=aG cZ;refine aw ?_;refine Me (()) (by omega)
   intro ca;replace ca:=aG ca;refine cu ?_;refine Me (()) (by omega)
  intro cK;replace cK:=aG cK;refine bD ?_;refine aM (t:=23) rfl ?_ ?_
  ·intro cy
   replace cy:=aG cy;refine bL ?_;refine aA rfl ?_ ?_
   ·intro ca
    replace ca:=aG ca;refine ba ?_;refine Rt [] results10 ?_;exact⟨congrArg Value.bool (fin (Au)).symm,rfl⟩
   intro ca;replace ca:=aG ca;refine aw ?_;refine Me (()) (by omega)
  intro cy;replace cy:=aG cy;refine cu ?_;refine Me (()) (by omega)
 rintro u hI;have cy:lY c=((decide (0<n)&&c.keys.any λk=> !cU k) ||decide (5<=c.ax/\c.ax<=10/\4294967295<c.fl)):=by rw[hb,decide_eq_false hI,alV]
 refine ba ?_;refine Lo (ι:=Nat) (FZ [2,1,4,1,30,18]) (λk=>k<=c.keys.length/\(0<k->0<n)/\∀x∈c.keys.take k,cU x=true) (λk=> [(4,DE DD k)]) (λk=> [ag b1 42 (dB c ka kc da dc mv)]) (λk=>c.keys.length-k) (0) ⟨abn _,λh=>absurd h (Nat.lt_irrefl _),by simp⟩ ?_;rintro k hI;obtain⟨hk1,Qq,rM⟩:=hI;by_cases ct:0<n/\k<c.keys.length
 ·have uX:=xn c.keys k ct.2
  have BM:=hk _ (abe ct.2);have Ql:ka.isSome=true:=by obtain⟨ad,e,_⟩:=hr k _ uX;rw[e];rfl
  refine ba ?_;refine zt 32 ?_;refine bL ?_;refine eJ ?_;refine cY ?_;refine Li (Ix pI) ?_;refine aw ?_;refine zl Aq (MV c.keys[k] BM) .nil DA ?_;by_cases hg:cU c.keys[k]=true
  ·rw[hg]
   refine bD ?_;refine aB ?_;refine Ro (k+1) (⟨ct.2,λ_=>ct.1,λx hx=>(by rw[List.take_add_one,aa0 ct.2,List.mem_append]at hx;rcases hx with hx|hx;exact rM x hx;obtain rfl:x=c.keys[k]:=(by simpa using hx);exact hg)⟩) (by omega)
  have hg2:cU c.keys[k]=false:=by simpa using hg
  rw[hg2];refine cL ?_;refine Rt [] results10 ?_;refine⟨congrArg Value.bool ?_,rfl⟩;have:(c.keys.any λk=> !cU k)=true:=List.any_eq_true.2 ⟨_,abe ct.2,by rw[hg2];rfl⟩;rw[cy,this,decide_eq_true ct.1];rfl
 refine av ?_;refine av ?_;refine cG (ι:=Unit) (FZ [30,9]) (λu=>True) (λu=> [(38, .bool false)]) (λu=> [ag b1 42 (dB c ka kc da dc mv)]) ?_ ?_
 ·by_cases hp:0<n
  ·refine cq ?_
   refine bj ?_;refine zt 32 ?_;refine bA ?_;refine aB ?_;refine az (t:=38) (v':=(.bool false)) rfl (by exact congrArg Value.bool (Ar)) ?_;refine Me (()) (trivial)
  refine cq ?_;refine bj ?_;refine zf 32 ?_;refine bA ?_;refine aB ?_;refine Me (()) (trivial)
 rintro u hI;have hz:(decide (0<n)&&c.keys.any λk=> !cU k)=false:=by
  by_cases hp:0<n
  ·have qh:k=c.keys.length:=by omega
   rw[qh,List.take_length]at rM;rw[Bool.and_eq_false_iff];right;rw[List.any_eq_false];intro x hx;rw[rM x hx];decide
  rw[decide_eq_false hp];rfl
 rw[hz,alV]at cy;refine bO ?_;refine aM (t:=51) rfl ?_ ?_
 ·intro cB
  replace cB:=aG cB;refine ba ?_;refine aM (t:=56) rfl ?_ ?_
  ·intro cK
   replace cK:=aG cK;refine bL ?_;refine Rt [] results10 ?_;refine⟨congrArg Value.bool ?_,rfl⟩;rw[cy]
   first
    |exact decide_eq_decide.2 (by omega)
    |exact(Ar).symm
  intro cK;replace cK:=aG cK;refine bL ?_;refine Rt [] results10 ?_;refine⟨congrArg Value.bool ?_,rfl⟩;rw[cy]
  first
   |exact decide_eq_decide.2 (by omega)
   |exact(Ar).symm
 intro cB;replace cB:=aG cB;refine cL ?_;refine Rt [] results10 ?_;refine⟨congrArg Value.bool ?_,rfl⟩;rw[cy]
 first
  |exact decide_eq_decide.2 (by omega)
  |exact(Ar).symm
def Th.lay (t:Th)(sl:F8)(tok now:Nat):Th:={t with room:=if t.room<58+t.key.length+t.val.length then agS sl (58+t.key.length+t.val.length)else t.room,tok:=tok,rd:=now}
def Boo.put (B:Boo)(t:Th)(sl:F8):Boo:={B with bc:=B.bc+1,l:=acy B.l t.key++ [t.lay sl (B.bc+1) B.now]}
theorem M8 (a:FX)(c:Nat)(l:F9)(hl:l.length<281474976710656):aK aaY 103 [.slice a l.length c] (λh=>fD h a (ak l)) []
  (λv H=>∃(n:Nat) (ok:Bool),v= .tuple #[DE DB n, .bool ok]/\(ok=true->kV l=some n/\n<18446744073709551616)/\(ok=false->kV l=none)/\H= []):=by
 have lP:vi 0 l=none->kV l=none:=λh=>by unfold kV;rw[h];split<;>rfl
 refine af func103 rfl ntmps103 rfl ?_;intro F hr;refine cL ?_;refine Lo (ι:=Nat×Nat) (FZ [2,46]) (λs=>s.1<=l.length/\s.2<18446744073709551616/\vi 0 l=vi s.2 (l.drop s.1)) (λs=> [(4,DE DB s.2),(5,DE DD s.1)]) (λs=> []) (λs=>l.length-s.1) ((0,0)) ⟨abn _,by decide,rfl⟩ ?_;rintro⟨k,n⟩ hI
 try dsimp only at hI⊢
 obtain⟨hk,hb,hi⟩:=hI;by_cases ct:k<l.length
 ·have Xu:=Ty l k
  have sa:a.isSome=true:=hr.some (by rw[kf];omega);have hdr:l.drop k=l[k]::l.drop (k+1):=List.drop_eq_getElem_cons ct;have hbe:tJ l k=l[k].toNat:=by unfold tJ;rw[List.getD_eq_getElem?_getD,aa0 ct];rfl
  rw[hdr,vi]at hi;rw[<-hbe]at hi;refine bL ?_;refine eJ ?_;refine ba ?_;refine av ?_;refine cG (ι:=Bool) (FZ [12,27]) (λq=>q=true↔(tJ l k<48\/57<tJ l k\/(18446744073709551615-(tJ l k-48))/10<n)) (λq=> [(38, .bool q)]) (λq=> []) ?_ ?_
  ·refine cq ?_
   refine bn ?_;refine Li (Ix fx) ?_;refine bj ?_;by_cases c1:tJ l k<48
   ·refine zt 17 ?_
    refine cC ?_;refine aw ?_;refine aB ?_;refine Me (true) ((by simp[c1]))
   refine zf 17 ?_;refine bn ?_;refine Li (Ix fx) ?_;refine aY ?_;by_cases c2:57<tJ l k
   ·refine zt 24 ?_
    refine fu ?_;refine aB ?_;refine Me (true) ((by simp[c2]))
   refine zf 24 ?_;refine aY ?_;by_cases c3:1844674407370955161<n
   ·refine zt 28 ?_
    refine bD ?_;refine aB ?_;refine Me (true) ((by simp only[true_iff];omega))
   refine zf 28 ?_;refine bj ?_;by_cases c4:n=1844674407370955161
   ·refine zt 31 ?_
    refine bn ?_;refine Li (Ix fx) ?_;refine aY ?_;refine aB ?_;refine Me (decide (53<tJ l k)) ((by rw[decide_eq_true_eq];omega))
   refine zf 31 ?_;refine bL ?_;refine aB ?_;refine Me (false) ((by simp only[Bool.false_eq_true,false_iff];omega))
  rintro q hq;rcases q with _|_
  ·have hnq:¬(tJ l k<48\/57<tJ l k\/(18446744073709551615-(tJ l k-48))/10<n):=λh=>by have:=hq.2 h;cases this
   rw[if_neg hnq]at hi;refine cY ?_;refine Li (Ix fx) ?_;refine bn ?_;refine az (t:=45) (v':=(DE amn (tJ l k-48:Nat))) rfl (by exact congrArg (Value.int .u8) (by first|omega|(unfold IntKind.wrap;simp;omega))) ?_;refine bD ?_;refine aB ?_;refine az (t:=4) (v':=(DE DB (n*10+(tJ l k-48):Nat))) rfl (by exact congrArg (Value.int .u64) (by omega)) ?_;refine Ro ((k+1,n*10+(tJ l k-48))) (⟨ct,(by dsimp only;omega),hi⟩) ((by dsimp only;omega))
  rw[if_pos (hq.1 rfl)]at hi;refine cL ?_;refine js [] results103 ?_;exact⟨0,false,rfl,λh=>(by cases h),λ_=>lP hi,rfl⟩
 have qh:k=l.length:=by omega
 subst qh;rw[List.drop_length,vi]at hi;refine bL ?_;refine cM ?_;refine bO ?_;by_cases h0:0<l.length
 ·refine zt 52 ?_
  refine cY ?_;refine js [] results103 ?_;exact⟨n,decide (l.length<=20),congrArg (λq=>Value.tuple #[DE DB n, .bool q]) (by rw[decide_eq_decide];omega),λh=>⟨by unfold kV;rw[if_pos ⟨h0,by simpa using h⟩,hi],hb⟩,λh=>by unfold kV;rw[if_neg λg=>by have:=g.2;simp at h;omega],rfl⟩
 refine zf 52 ?_;refine cY ?_;refine js [] results103 ?_;exact⟨n,false,rfl,λh=>(by cases h),λ_=>by unfold kV;rw[if_neg λg=>h0 g.1],rfl⟩
end Go.Proofs.YtcbcjolpdljbiaaGreat
