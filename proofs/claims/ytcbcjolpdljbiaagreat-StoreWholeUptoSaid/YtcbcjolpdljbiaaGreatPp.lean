/- Part Pp of the proof. -/
import Derived.Test.YtcbcjolpdljbiaaGreatPd
import Derived.Test.YtcbcjolpdljbiaaGreatPn
import Derived.Test.YtcbcjolpdljbiaaGreatPo
set_option maxRecDepth 100000
open Go.Proofs.YtcbcjolpdljbiaaGreat.T
open Bool renaming eq_iff_iff -> afx, false_eq_true -> afo, not_eq_true' -> aa9, not_eq_true -> afI, not_eq_false' -> afC
open Int renaming toNat_natCast -> ajz
open List renaming set_cons_zero -> ajt, set_cons_succ -> aju
open Go.Proofs.Tryz
open Go.Value renaming int -> CO
open Go.IntKind renaming i64 -> CN
namespace Go.Proofs.YtcbcjolpdljbiaaGreat
open Go Go.dG Go.Proofs.YtcbcjolpdljbiaaGreat.Cs
theorem E6 (c:nZ):aO Tryz.prog 73 [.agg (jN c).toArray] (λ_=>True) []
  (λv H=>(lx c≠0/\v= .tuple #[.slice none 0 0,CO CN (lx c)]/\H= [])\/(lx c=0/\∃a cc,v= .tuple #[.slice a (bH c).length cc,CO CN 0]/\H= [own a cc 3 1 (aA (bH c))])):=by
 obtain⟨aj,pgs,fac,bj,lim,hot,warm⟩:=c;unfold jN;dsimp only;have cR:lx ⟨aj,pgs,fac,bj,lim,hot,warm⟩=if jQ ⟨aj,pgs,fac,bj,lim,hot,warm⟩=true then if 62<(bH ⟨aj,pgs,fac,bj,lim,hot,warm⟩).length then 2 else if pgs<((bH ⟨aj,pgs,fac,bj,lim,hot,warm⟩).length:Int)then 3 else 0 else 1:=rfl
 have FN:jQ ⟨aj,pgs,fac,bj,lim,hot,warm⟩=true↔(4096<=aj/\aj<=1048576/\FJ aj=0)/\(1<=pgs/\pgs<=1024/\105<=fac/\fac<=400/\64<=bj/\bj<=512/\bj % 8=0/\bj<=lim/\lim<=aj):=by
  unfold jQ;rw[decide_eq_true_eq];dsimp only;omega
 have hre:= @Xk ⟨aj,pgs,fac,bj,lim,hot,warm⟩;have Ze:=tq fac.toNat (gm ⟨aj,pgs,fac,bj,lim,hot,warm⟩) 62 bj.toNat;have hse:bH ⟨aj,pgs,fac,bj,lim,hot,warm⟩=mC fac.toNat (gm ⟨aj,pgs,fac,bj,lim,hot,warm⟩) 62 bj.toNat:=rfl;rw[<-hse]at Ze;have hrl:KE ⟨aj,pgs,fac,bj,lim,hot,warm⟩=mV fac.toNat (gm ⟨aj,pgs,fac,bj,lim,hot,warm⟩) (gm ⟨aj,pgs,fac,bj,lim,hot,warm⟩-bj.toNat) bj.toNat++ [gm ⟨aj,pgs,fac,bj,lim,hot,warm⟩]:=rfl;have hla:gm ⟨aj,pgs,fac,bj,lim,hot,warm⟩=(lim.toNat+7)/8*8:=rfl;generalize jQ ⟨aj,pgs,fac,bj,lim,hot,warm⟩=rb at*;generalize bH ⟨aj,pgs,fac,bj,lim,hot,warm⟩=sl at*;generalize lx ⟨aj,pgs,fac,bj,lim,hot,warm⟩=ce at*;generalize KE ⟨aj,pgs,fac,bj,lim,hot,warm⟩=rl at*;generalize gm ⟨aj,pgs,fac,bj,lim,hot,warm⟩=L at*;refine ag func73 rfl ntmps73 rfl ?_;intro F _;refine av ?_;refine Lp (oB λb1=> ?_);refine bz ?_;refine aw ?_;refine dt (ι:=Bool) [9,10,11,12,13,14,15,16,17,18,19,20,21,22,23,24,25,4] (λb=>b=decide (4096<=aj/\aj<=1048576/\FJ aj=0)) (λb=> [(4, .bool b)]) (λb=> [af b1 29 [CO CN aj,CO CN pgs,CO CN fac,CO CN bj,CO CN lim,CO CN hot,CO CN warm]]) ?_ ?_
 ·refine fi ?_
  refine bm ?_;refine br (t:=12) rfl ?_ ?_
  ·intro dQ
   replace dQ:=aS dQ;refine bE ?_;refine br (t:=17) rfl ?_ ?_
   ·intro ee
    replace ee:=aS ee;refine bG ?_;refine ay (t:=23) (v':=(CO CN (FJ aj))) rfl (by(first|rfl|(refine congrArg (Value.int .i64) ?_;unfold FJ;rw[wrap_i64 (by omega)];rfl))) ?_;refine Li (Cm) ?_;refine bA ?_;refine aF ?_;refine Me (decide (4096<=aj/\aj<=1048576/\FJ aj=0)) (rfl) (hs:=⟨(by refine congrArg (λq=>some (Value.bool q)) (afx.2 ?_);(try simp only[decide_eq_true_eq,afo,false_iff]);omega),trivial⟩)
   intro ee;replace ee:=aS ee;refine cA ?_;refine aF ?_;refine Me (decide (4096<=aj/\aj<=1048576/\FJ aj=0)) (rfl) (hs:=⟨(by refine congrArg (λq=>some (Value.bool q)) (afx.2 ?_);(try simp only[decide_eq_true_eq,afo,false_iff]);omega),trivial⟩)
  intro dQ;replace dQ:=aS dQ;refine fq ?_;refine aF ?_;refine Me (decide (4096<=aj/\aj<=1048576/\FJ aj=0)) (rfl) (hs:=⟨(by refine congrArg (λq=>some (Value.bool q)) (afx.2 ?_);(try simp only[decide_eq_true_eq,afo,false_iff]);omega),trivial⟩)
 rintro b hb;refine av ?_;refine aw ?_;refine dt (ι:=Bool) [26,27,28,29,30,31,32,33,34,35,36,37,38,39,40,41,42,43,44,45,46,47,48,49,50,51,52,53,54,55,56,57,58,59,60,61,62,63,64,65,66,67,68,69,70,71,72,73,74,75,76,77] (λb2=>b2= !rb) (λb2=> [(77, .bool b2)]) (λb2=> [af b1 29 [CO CN aj,CO CN pgs,CO CN fac,CO CN bj,CO CN lim,CO CN hot,CO CN warm]]) ?_ ?_
 ·refine fi ?_
  refine bz ?_;refine br (t:=28) rfl ?_ ?_
  ·intro dQ
   replace dQ:=aS dQ;refine cC ?_;refine cC ?_;refine cA ?_;refine aF ?_;refine Me (!rb) (rfl) (hs:=⟨(by refine congrArg (λq=>some (Value.bool q)) (afx.2 ?_);rw[aa9,<-afI,FN];simp only[hb,aa9,afC,decide_eq_true_eq,decide_eq_false_iff_not,afo,true_iff,false_iff]at*;omega),trivial⟩)
  intro dQ;replace dQ:=aS dQ;refine bE ?_;refine br (t:=33) rfl ?_ ?_
  ·intro ee
   replace ee:=aS ee;refine cC ?_;refine cC ?_;refine bm ?_;refine aF ?_;refine Me (!rb) (rfl) (hs:=⟨(by refine congrArg (λq=>some (Value.bool q)) (afx.2 ?_);rw[aa9,<-afI,FN];simp only[hb,aa9,afC,decide_eq_true_eq,decide_eq_false_iff_not,afo,true_iff,false_iff]at*;omega),trivial⟩)
  intro ee;replace ee:=aS ee;refine bE ?_;refine br (t:=38) rfl ?_ ?_
  ·intro ed
   replace ed:=aS ed;refine cC ?_;refine C9 ?_;refine aF ?_;refine Me (!rb) (rfl) (hs:=⟨(by refine congrArg (λq=>some (Value.bool q)) (afx.2 ?_);rw[aa9,<-afI,FN];simp only[hb,aa9,afC,decide_eq_true_eq,decide_eq_false_iff_not,afo,true_iff,false_iff]at*;omega),trivial⟩)
  intro ed;replace ed:=aS ed;refine bE ?_;refine br (t:=43) rfl ?_ ?_
  ·intro cS
   replace cS:=aS cS;refine cC ?_;refine fq ?_;refine aF ?_;refine Me (!rb) (rfl) (hs:=⟨(by refine congrArg (λq=>some (Value.bool q)) (afx.2 ?_);rw[aa9,<-afI,FN];simp only[hb,aa9,afC,decide_eq_true_eq,decide_eq_false_iff_not,afo,true_iff,false_iff]at*;omega),trivial⟩)
  intro cS;replace cS:=aS cS;refine bE ?_;refine br (t:=48) rfl ?_ ?_
  ·intro dY
   replace dY:=aS dY;refine cC ?_;refine cA ?_;refine aF ?_;refine Me (!rb) (rfl) (hs:=⟨(by refine congrArg (λq=>some (Value.bool q)) (afx.2 ?_);rw[aa9,<-afI,FN];simp only[hb,aa9,afC,decide_eq_true_eq,decide_eq_false_iff_not,afo,true_iff,false_iff]at*;omega),trivial⟩)
  intro dY;replace dY:=aS dY;refine bE ?_;refine br (t:=53) rfl ?_ ?_
  ·intro jI
   replace jI:=aS jI;refine cC ?_;refine bm ?_;refine aF ?_;refine Me (!rb) (rfl) (hs:=⟨(by refine congrArg (λq=>some (Value.bool q)) (afx.2 ?_);rw[aa9,<-afI,FN];simp only[hb,aa9,afC,decide_eq_true_eq,decide_eq_false_iff_not,afo,true_iff,false_iff]at*;omega),trivial⟩)
  intro jI;replace jI:=aS jI;refine bE ?_;refine br (t:=58) rfl ?_ ?_
  ·intro rS
   replace rS:=aS rS;refine C9 ?_;refine aF ?_;refine Me (!rb) (rfl) (hs:=⟨(by refine congrArg (λq=>some (Value.bool q)) (afx.2 ?_);rw[aa9,<-afI,FN];simp only[hb,aa9,afC,decide_eq_true_eq,decide_eq_false_iff_not,afo,true_iff,false_iff]at*;omega),trivial⟩)
  intro rS;replace rS:=aS rS;refine bA ?_;refine Li (Im) ?_;refine ay (t:=61) (v':=(CO CN (bj % 8))) rfl (by exact congrArg (Value.int .i64) (Int.tmod_eq_emod_of_nonneg (by omega))) ?_;refine bz ?_;refine br (t:=64) rfl ?_ ?_
  ·intro hb7
   replace hb7:=aS hb7;refine gz ?_;refine aF ?_;refine Me (!rb) (rfl) (hs:=⟨(by refine congrArg (λq=>some (Value.bool q)) (afx.2 ?_);rw[aa9,<-afI,FN];simp only[hb,aa9,afC,decide_eq_true_eq,decide_eq_false_iff_not,afo,true_iff,false_iff]at*;omega),trivial⟩)
  intro hb7;replace hb7:=aS hb7;refine bR ?_;refine br (t:=71) rfl ?_ ?_
  ·intro Ky
   replace Ky:=aS Ky;refine bG ?_;refine aF ?_;refine Me (!rb) (rfl) (hs:=⟨(by refine congrArg (λq=>some (Value.bool q)) (afx.2 ?_);rw[aa9,<-afI,FN];simp only[hb,aa9,afC,decide_eq_true_eq,decide_eq_false_iff_not,afo,true_iff,false_iff]at*;omega),trivial⟩)
  intro Ky;replace Ky:=aS Ky;refine bG ?_;refine aF ?_;refine Me (!rb) (rfl) (hs:=⟨(by refine congrArg (λq=>some (Value.bool q)) (afx.2 ?_);rw[aa9,<-afI,FN];simp only[hb,aa9,afC,decide_eq_true_eq,decide_eq_false_iff_not,afo,true_iff,false_iff]at*;omega),trivial⟩)
 rintro b2 ed;subst ed;rcases rb with _|_
 ·rw[if_neg (by decide)]at cR
  refine bR ?_;refine jE [] results73 ?_;exact .inl (by rw[cR];exact⟨by decide,rfl,rfl⟩)
 obtain⟨⟨h1,h2,h3⟩,h4,h5,h6,h7,h8,h9,V5,h11,AW⟩:=FN.1 rfl;obtain⟨r1,r2⟩:=hre rfl;rw[if_pos rfl]at cR;obtain⟨fac,rfl⟩:∃f:Nat,fac=f:=⟨fac.toNat,by omega⟩;obtain⟨bj,rfl⟩:∃f:Nat,bj=f:=⟨bj.toNat,by omega⟩;obtain⟨lim,rfl⟩:∃f:Nat,lim=f:=⟨lim.toNat,by omega⟩;rw[ajz,ajz]at hrl;rw[ajz]at hla;have hlb:L<=1048583:=by omega
 refine bR ?_;refine ay (t:=80) (v':=(CO CN (lim+7:Nat))) rfl (by exact congrArg (Value.int .i64) rfl) ?_;refine Li (Qu (q:=8)) ?_;refine av ?_;refine ay (t:=82) (v':=(CO CN L)) rfl (by exact congrArg (Value.int .i64) (by omega)) ?_;refine dB ?_;refine dw 3 1 ?_;refine Lo (ι:=List Nat×Nat×Option Addr×Nat) [85,86,87,88,89,90,91,6,92,93,94,95,96,97,8,98,99,100,101,102,103,104,105,106,107,108,7] (λs=>(64<=s.2.1/\s.2.1<=4200000/\s.2.1 % 8=0/\s.1.length<=s.2.1)/\s.1++mV fac L (L-s.2.1) s.2.1=mV fac L (L-bj) bj) (λs=> [(6, .slice s.2.2.1 s.1.length s.2.2.2),(7,CO CN s.2.1)]) (λs=> [own s.2.2.1 s.2.2.2 3 1 (aA s.1),af b1 29 [CO CN aj,CO CN pgs,CO CN fac,CO CN bj,CO CN lim,CO CN hot,CO CN warm]]) (λs=>L-s.2.1) (([],bj,none,0)) ⟨⟨by dsimp only;omega,by dsimp only;omega,by dsimp only;omega,Nat.zero_le _⟩,rfl⟩ ?_;rintro⟨l,n,a,cc⟩ hI;dsimp only at hI⊢;obtain⟨⟨i1,i2,i3,i5⟩,i4⟩:=hI;by_cases cL:n<L
 ·have hnf:n*fac<=1048583*400:=Nat.mul_le_mul (by omega) (by omega)
  have hnf2:n*105<=n*fac:=Nat.mul_le_mul_left n (by omega);have FR:AT fac n=((n*fac+99)/100+7)/8*8:=by unfold AT;omega
  rw[uW fac L n cL,FR]at i4;refine bG ?_;refine eU ?_;refine bG ?_;refine Lp (oT fU λb2=> ?_);refine Lp (bT fU pK rfl rfl rfl rfl .here (by simp[aA]) (rfl) (by simp[Value.oneCell']) (by first|omega|(simp;omega)) (by first|omega|(simp;omega)) rfl λa2 c2 rB=> ?_);refine bR ?_;refine ay (t:=95) (v':=(CO CN (n*fac:Nat))) rfl (by exact congrArg (Value.int .i64) (by first|rfl|(rw[<-Int.natCast_mul];exact wrap_i64 (by omega)))) ?_;generalize n*fac=nf at*;refine av ?_;refine ay (t:=96) (v':=(CO CN (nf+99:Nat))) rfl (by exact congrArg (Value.int .i64) rfl) ?_;refine Li (Qu (q:=100)) ?_;refine ay (t:=97) (v':=(CO CN ((nf+99)/100:Nat))) rfl (by exact congrArg (Value.int .i64) (by omega)) ?_;refine bE ?_;refine ay (t:=99) (v':=(CO CN ((nf+99)/100+7:Nat))) rfl (by exact congrArg (Value.int .i64) rfl) ?_;refine Li (Qu (q:=8)) ?_;refine av ?_;refine ay (t:=101) (v':=(CO CN (((nf+99)/100+7)/8*8:Nat))) rfl (by exact congrArg (Value.int .i64) (by omega)) ?_;have IB:n+8<=((nf+99)/100+7)/8*8:=by omega
  have hle:((nf+99)/100+7)/8*8<=4200000:=by omega
  have hm8:((nf+99)/100+7)/8*8 % 8=0:=by omega
  generalize ((nf+99)/100+7)/8*8=m at*;refine cA ?_;refine cO ?_;refine bR ?_;rw[show aA l++ [Value.int .i64 (n:Int)]=aA (l++ [n])from(gy l [n]).symm,show l.length+1=(l++ [n]).length by simp];have hi4:(l++ [n])++mV fac L (L-m) m=mV fac L (L-bj) bj:=by rw[<-i4,List.append_assoc];rfl
  have CS:(l++ [n]).length=l.length+1:=by simp
  generalize l++ [n]=l2 at*;refine Ro ((l2,m,a2,c2)) (⟨⟨(by dsimp only;omega),(by dsimp only;omega),(by dsimp only;omega),(by dsimp only;omega)⟩,hi4⟩) ((by dsimp only;omega))
 rw[mf fac L _ n (by omega),List.append_nil]at i4;rw[<-i4]at hrl;refine bG ?_;refine cO ?_;refine dm ?_;refine Lp (oT fU λb3=> ?_);refine Lp (bT fU pK rfl rfl rfl rfl .here (by simp[aA]) (rfl) (by simp[Value.oneCell']) (by first|omega|(simp;omega)) (by first|omega|(simp;omega)) rfl λa2 c2 rB=> ?_);rw[show aA l++ [Value.int .i64 (L:Int)]=aA (l++ [L])from(gy l [L]).symm,show l.length+1=(l++ [L]).length by simp,<-hrl];have hrlen:rl.length<=4200001:=by rw[hrl,List.length_append,List.length_singleton];omega
 by_cases g1:62<rl.length
 ·rw[if_pos (r1.1 g1)]at cR
  refine dm ?_;refine eU ?_;refine bG ?_;refine jE [] results73 ?_;exact .inl (by rw[cR];exact⟨by decide,rfl,rfl⟩)
 rw[if_neg (λh=>g1 (r1.2 h))]at cR;have er:=r2 g1;subst er;by_cases g2:pgs<(rl.length:Int)
 ·rw[if_pos g2]at cR
  refine dm ?_;refine cO ?_;refine bM ?_;refine eU ?_;refine bG ?_;refine jE [] results73 ?_;exact .inl (by rw[cR];exact⟨by decide,rfl,rfl⟩)
 rw[if_neg g2]at cR;refine dm ?_;refine cO ?_;refine bM ?_;refine cO ?_;refine dm ?_;refine jE [own a2 c2 3 1 (aA rl)] results73 ?_;exact .inr ⟨cR,a2,c2,rfl,rfl⟩
theorem Hi (z:Ly)(Kt:z.hot<=100)(Ks:z.warm<=100)(M:Mo)(c:fe)(RO:Rdo M c)(hv:5<=c.aH/\c.aH<=10)(hk:c.keys.length<=1)(uj:∀k∈c.keys,k.length<=1)(hd:c.data.length<=1)(hex:c.ex=0)(Od:c.dl=0)(ka:Option Addr)(kc:Nat)(da:Option Addr)(dc:Nat)(mv:Value)(mH:mv.oneCell'=true):
  aO Tryz.prog 11 [CM z.s, .agg (fu c ka kc da dc mv).toArray] (λh=>gg h ka (iK c.keys)/\gg h da (ax c.data)) [SW z M] (KP z (M.dO z.hot z.warm c)):=by
 have R:=RO.r;have h1:=R.st;have h2:=R.tn;have h3:=R.bh;exact aax wy z Kt Ks M c ka kc da dc mv mH (by omega) (λk hk=>by have:=uj k hk;omega) (by omega) (by omega) (by omega) R.h (by omega) R.p R.lim (by omega) (by omega)
theorem Sa:aO Tryz.prog 23 [] (λ_=>True) [] (λv H=>v= .bool true/\H= []):=by
 refine ag func23 rfl ntmps23 rfl ?_;intro F _;refine bE ?_;refine Lp (oC CF rfl rfl (ac6 cW) .nil CI ?_);rintro v H' hr;refine aX ?_;obtain⟨-,z,z1,z2,z3,z4,rfl,rfl⟩:=hr.resolve_left λh=>h.1 aeU;obtain⟨r1,e1⟩:∃r,(fP cW ku ⟨1,0,0⟩).dO z.hot z.warm (uw 5 5 0 120)=r:=⟨_,rfl⟩;obtain⟨r2,e2⟩:∃r,r1.2.dO z.hot z.warm (uw 10 0 1 121)=r:=⟨_,rfl⟩;obtain⟨r3,e3⟩:∃r,r2.2.dO z.hot z.warm (uw 10 0 1 122)=r:=⟨_,rfl⟩;obtain⟨⟨⟨y0,y1,y2⟩,k1,k2,k3⟩,P,S3,hP⟩:=EY z.hot z.warm r1 r2 r3 e1 e2 e3;have d1:=Hi z (by omega) (by omega) _ (uw 5 5 0 120) y0 (by decide) (by decide) (by decide) (by decide) rfl rfl;have d2:=Hi z (by omega) (by omega) _ (uw 10 0 1 121) y1 (by decide) (by decide) (by decide) (by decide) rfl rfl;have d3:=Hi z (by omega) (by omega) _ (uw 10 0 1 122) y2 (by decide) (by decide) (by decide) (by decide) rfl rfl;rw[e1]at d1;rw[e2]at d2;rw[e3]at d3;refine bW ?_;refine zf 15 ?_ (e:=by rfl);refine cA ?_;refine Lp (oT IY λb1=> ?_);refine Lp (oT kA λb2=> ?_);refine Lp (oMk mG sQ ?_);refine av ?_;refine ay (t:=23) (v':=(.agg (fu (uw 5 5 0 120) (some ⟨b1,0,none⟩) 1 (some ⟨b2,0,none⟩) 1 bF).toArray)) rfl (by(first|rfl|(simp only[Value.cells,cZ,ajt,aju];first|rfl|done))) ?_;refine Lp (oC CF rfl rfl (d1 (some ⟨b1,0,none⟩) 1 (some ⟨b2,0,none⟩) 1 bF rfl) (.cons (.there (.there .here)) .nil) (λ_ le ao=>⟨se (ao.nth 1 rfl),se (ao.nth 0 rfl)⟩) ?_);rintro v H' ⟨ea1,ec1,l1,hl1,rfl,rfl⟩;refine aX ?_;unfold zp;rw[k1];refine Lp (oA oX λb3=> ?_);refine Lp (iF eo ?_ (h1:=by simp[gM,Value.oneCell',bD]));refine av ?_;refine Hh (H':= [SW z r1.2,af b3 52 (gM 1 (.slice ea1 l1.length ec1) r1.1.num r1.1.wx)]) ?_;refine bA ?_;refine Lp (oT IY λb4=> ?_);refine Lp (oT kA λb5=> ?_);refine Lp (oMk mG sQ ?_);refine av ?_;refine ay (t:=29) (v':=(.agg (fu (uw 10 0 1 121) (some ⟨b4,0,none⟩) 1 (some ⟨b5,0,none⟩) 1 bF).toArray)) rfl (by(first|rfl|(simp only[Value.cells,cZ,ajt,aju];first|rfl|done))) ?_;refine Lp (oC CF rfl rfl (d2 (some ⟨b4,0,none⟩) 1 (some ⟨b5,0,none⟩) 1 bF rfl) (.cons (.there (.there .here)) .nil) (λ_ le ao=>⟨se (ao.nth 1 rfl),se (ao.nth 0 rfl)⟩) ?_);rintro v H' ⟨ea2,ec2,l2,CS,rfl,rfl⟩;refine aX ?_;unfold zp;rw[k2];refine Lp (oA oX λb6=> ?_);refine Lp (iF eo ?_ (h1:=by simp[gM,Value.oneCell',bD]));refine av ?_;refine Hh (H':= [SW z r2.2,af b3 52 (gM 1 (.slice ea1 l1.length ec1) r1.1.num r1.1.wx),af b6 52 (gM 1 (.slice ea2 l2.length ec2) r2.1.num r2.1.wx)]) ?_;refine bA ?_;refine Lp (oT IY λb7=> ?_);refine Lp (oT kA λb8=> ?_);refine Lp (oMk mG sQ ?_);refine av ?_;refine ay (t:=35) (v':=(.agg (fu (uw 10 0 1 122) (some ⟨b7,0,none⟩) 1 (some ⟨b8,0,none⟩) 1 bF).toArray)) rfl (by(first|rfl|(simp only[Value.cells,cZ,ajt,aju];first|rfl|done))) ?_;refine Lp (oC CF rfl rfl (d3 (some ⟨b7,0,none⟩) 1 (some ⟨b8,0,none⟩) 1 bF rfl) (.cons (.there (.there .here)) .nil) (λ_ le ao=>⟨se (ao.nth 1 rfl),se (ao.nth 0 rfl)⟩) ?_);rintro v H' ⟨ea3,ec3,l3,hl3,rfl,rfl⟩;refine aX ?_;unfold zp;rw[k3];refine Lp (oA oX λb9=> ?_);refine Lp (iF eo ?_ (h1:=by simp[gM,Value.oneCell',bD]));refine av ?_;refine Hh (H':= [SW z r3.2,af b3 52 (gM 1 (.slice ea1 l1.length ec1) r1.1.num r1.1.wx),af b6 52 (gM 1 (.slice ea2 l2.length ec2) r2.1.num r2.1.wx),af b9 52 (gM 3 (.slice ea3 l3.length ec3) r3.1.num r3.1.wx)]) ?_;obtain⟨p,jV,hvw⟩:=Ya S3 hP;refine bA ?_;refine Lp (oC CF rfl rfl (U1 z r3.2 [97] (by decide)) (.cons .here .nil) CI ?_);rintro v H' hf;refine aX ?_;rw[jV]at hf;obtain⟨vb,rfl,rfl⟩:=hf;refine Hh (H':= [SW z r3.2,own (some ⟨vb,0,none⟩) (r3.2.it p).val.length 5 1 (ax (r3.2.it p).val),af b3 52 (gM 1 (.slice ea1 l1.length ec1) r1.1.num r1.1.wx),af b6 52 (gM 1 (.slice ea2 l2.length ec2) r2.1.num r2.1.wx),af b9 52 (gM 3 (.slice ea3 l3.length ec3) r3.1.num r3.1.wx)]) ?_;refine o4 λwa wc B O=> ?_;have hn:r3.2.n=1:=show(r3.2.aQ wa wc).n=1 from Yc O (S3.aQ wa wc) (by rw[hP];simp);have Ws:(r3.2.it p).val= [121]:=congrArg I3.val hvw;have htok:(r3.2.it p).tok=2:=congrArg I3.tok hvw;unfold zj;rw[Ws,htok];unfold gM;refine bz ?_;refine Lp (oA IF λOJ=> ?_);refine Lp (iF tj ?_ (h1:=by simp[Value.oneCell',bD]))
 refine bR ?_;refine zt 45 ?_ (e:=by rfl);refine bE ?_;refine zt 50 ?_ (e:=by rfl);refine bE ?_;refine zt 55 ?_ (e:=by rfl);refine bz ?_;refine zt 58 ?_ (e:=by rfl);refine bA ?_;refine Lp (oTs kk sQ wv ?_);refine Li Sq ?_;refine bA ?_;refine zt 64 ?_ (e:=by rfl);refine bE ?_;refine zt 69 ?_ (e:=by rfl);refine av ?_;refine zl CF (BT z r3.2) (.cons (.there .here) .nil) CI ?_;rw[hn];refine bE ?_;refine Rt [] results23 ?_;exact⟨rfl,rfl⟩
end Go.Proofs.YtcbcjolpdljbiaaGreat
