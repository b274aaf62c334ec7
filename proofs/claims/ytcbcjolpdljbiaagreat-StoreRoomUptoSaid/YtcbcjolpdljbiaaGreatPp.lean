/- Part Pp of the proof. -/
import Derived.Test.YtcbcjolpdljbiaaGreatPn
import Derived.Test.YtcbcjolpdljbiaaGreatPo
set_option maxRecDepth 100000
open Go.Proofs.YtcbcjolpdljbiaaGreat.T
open Bool renaming eq_iff_iff -> acR, false_eq_true -> abt, not_eq_true' -> abi, not_eq_true -> ac5, not_eq_false' -> ac0
open Int renaming toNat_natCast -> aiG
open List renaming set_cons_zero -> aiA, set_cons_succ -> aiB
open Go.Proofs.Tryz
open Go.Value renaming int -> DE
open Go.IntKind renaming i64 -> DD
namespace Go.Proofs.YtcbcjolpdljbiaaGreat
open Go Go.dQ Go.Proofs.YtcbcjolpdljbiaaGreat.Cs
theorem oI (c:oo):aK Tryz.prog 73 [.agg (jR c).toArray] vz []
  (λv H=>(lH c≠0/\v= .tuple #[.slice none 0 0,DE DD (lH c)]/\H= [])\/(lH c=0/\∃a cc,v= .tuple #[.slice a (bF c).length cc,DE DD 0]/\H= [own a cc 3 1 (aE (bF c))])):=by
 obtain⟨aj,pgs,fac,bE,lim,hot,warm⟩:=c;unfold jR;dsimp only;have dx:lH ⟨aj,pgs,fac,bE,lim,hot,warm⟩=if jV ⟨aj,pgs,fac,bE,lim,hot,warm⟩=true then if 62<(bF ⟨aj,pgs,fac,bE,lim,hot,warm⟩).length then 2 else if pgs<((bF ⟨aj,pgs,fac,bE,lim,hot,warm⟩).length:Int)then 3 else 0 else 1:=rfl
 have GL:jV ⟨aj,pgs,fac,bE,lim,hot,warm⟩=true↔(4096<=aj/\aj<=1048576/\GH aj=0)/\(1<=pgs/\pgs<=1024/\105<=fac/\fac<=400/\64<=bE/\bE<=512/\bE % 8=0/\bE<=lim/\lim<=aj):=by
  unfold jV;rw[decide_eq_true_eq];dsimp only;omega
 have hre:= @Y8 ⟨aj,pgs,fac,bE,lim,hot,warm⟩;have hsl:=ua fac.toNat (fQ ⟨aj,pgs,fac,bE,lim,hot,warm⟩) 62 bE.toNat;have hse:bF ⟨aj,pgs,fac,bE,lim,hot,warm⟩=lE fac.toNat (fQ ⟨aj,pgs,fac,bE,lim,hot,warm⟩) 62 bE.toNat:=rfl;rw[<-hse]at hsl;have hrl:L6 ⟨aj,pgs,fac,bE,lim,hot,warm⟩=mV fac.toNat (fQ ⟨aj,pgs,fac,bE,lim,hot,warm⟩) (fQ ⟨aj,pgs,fac,bE,lim,hot,warm⟩-bE.toNat) bE.toNat++ [fQ ⟨aj,pgs,fac,bE,lim,hot,warm⟩]:=rfl;have hla:fQ ⟨aj,pgs,fac,bE,lim,hot,warm⟩=(lim.toNat+7)/8*8:=rfl;generalize jV ⟨aj,pgs,fac,bE,lim,hot,warm⟩=rb at*;generalize bF ⟨aj,pgs,fac,bE,lim,hot,warm⟩=sl at*;generalize lH ⟨aj,pgs,fac,bE,lim,hot,warm⟩=ce at*;generalize L6 ⟨aj,pgs,fac,bE,lim,hot,warm⟩=rl at*;generalize fQ ⟨aj,pgs,fac,bE,lim,hot,warm⟩=L at*;refine af func73 rfl ntmps73 rfl ?_;intro F _;refine aw ?_;refine Lp (oB λb1=> ?_);refine bj ?_;refine av ?_;refine cG (ι:=Bool) (FZ [4,1,9,17]) (λb=>b=decide (4096<=aj/\aj<=1048576/\GH aj=0)) (λb=> [(4, .bool b)]) (λb=> [ag b1 29 [DE DD aj,DE DD pgs,DE DD fac,DE DD bE,DE DD lim,DE DD hot,DE DD warm]]) ?_ ?_
 ·refine cq ?_
  refine aY ?_;refine aM (t:=12) rfl ?_ ?_
  ·intro cB
   replace cB:=aG cB;refine ba ?_;refine aM (t:=17) rfl ?_ ?_
   ·intro cK
    replace cK:=aG cK;refine bA ?_;refine az (t:=23) (v':=(DE DD (GH aj))) rfl (by(first|rfl|(refine congrArg (Value.int .i64) ?_;unfold GH;rw[wrap_i64 (by omega)];rfl))) ?_;refine Li (Cm) ?_;refine bn ?_;refine aB ?_;refine Me (decide (4096<=aj/\aj<=1048576/\GH aj=0)) (rfl) (hs:=⟨(by refine congrArg (λq=>some (Value.bool q)) (acR.2 ?_);(try simp only[decide_eq_true_eq,abt,false_iff]);omega),trivial⟩)
   intro cK;replace cK:=aG cK;refine cu ?_;refine aB ?_;refine Me (decide (4096<=aj/\aj<=1048576/\GH aj=0)) (rfl) (hs:=⟨(by refine congrArg (λq=>some (Value.bool q)) (acR.2 ?_);(try simp only[decide_eq_true_eq,abt,false_iff]);omega),trivial⟩)
  intro cB;replace cB:=aG cB;refine fu ?_;refine aB ?_;refine Me (decide (4096<=aj/\aj<=1048576/\GH aj=0)) (rfl) (hs:=⟨(by refine congrArg (λq=>some (Value.bool q)) (acR.2 ?_);(try simp only[decide_eq_true_eq,abt,false_iff]);omega),trivial⟩)
 rintro b hb;refine aw ?_;refine av ?_;refine cG (ι:=Bool) (FZ [26,52]) (λb2=>b2= !rb) (λb2=> [(77, .bool b2)]) (λb2=> [ag b1 29 [DE DD aj,DE DD pgs,DE DD fac,DE DD bE,DE DD lim,DE DD hot,DE DD warm]]) ?_ ?_
 ·refine cq ?_
  refine bj ?_;refine aM (t:=28) rfl ?_ ?_
  ·intro cB
   replace cB:=aG cB;refine cC ?_;refine cC ?_;refine cu ?_;refine aB ?_;refine Me (!rb) (rfl) (hs:=⟨(by refine congrArg (λq=>some (Value.bool q)) (acR.2 ?_);rw[abi,<-ac5,GL];simp only[hb,abi,ac0,decide_eq_true_eq,decide_eq_false_iff_not,abt,true_iff,false_iff]at*;omega),trivial⟩)
  intro cB;replace cB:=aG cB;refine ba ?_;refine aM (t:=33) rfl ?_ ?_
  ·intro cK
   replace cK:=aG cK;refine cC ?_;refine cC ?_;refine aY ?_;refine aB ?_;refine Me (!rb) (rfl) (hs:=⟨(by refine congrArg (λq=>some (Value.bool q)) (acR.2 ?_);rw[abi,<-ac5,GL];simp only[hb,abi,ac0,decide_eq_true_eq,decide_eq_false_iff_not,abt,true_iff,false_iff]at*;omega),trivial⟩)
  intro cK;replace cK:=aG cK;refine ba ?_;refine aM (t:=38) rfl ?_ ?_
  ·intro cy
   replace cy:=aG cy;refine cC ?_;refine BV ?_;refine aB ?_;refine Me (!rb) (rfl) (hs:=⟨(by refine congrArg (λq=>some (Value.bool q)) (acR.2 ?_);rw[abi,<-ac5,GL];simp only[hb,abi,ac0,decide_eq_true_eq,decide_eq_false_iff_not,abt,true_iff,false_iff]at*;omega),trivial⟩)
  intro cy;replace cy:=aG cy;refine ba ?_;refine aM (t:=43) rfl ?_ ?_
  ·intro ca
   replace ca:=aG ca;refine cC ?_;refine fu ?_;refine aB ?_;refine Me (!rb) (rfl) (hs:=⟨(by refine congrArg (λq=>some (Value.bool q)) (acR.2 ?_);rw[abi,<-ac5,GL];simp only[hb,abi,ac0,decide_eq_true_eq,decide_eq_false_iff_not,abt,true_iff,false_iff]at*;omega),trivial⟩)
  intro ca;replace ca:=aG ca;refine ba ?_;refine aM (t:=48) rfl ?_ ?_
  ·intro cZ
   replace cZ:=aG cZ;refine cC ?_;refine cu ?_;refine aB ?_;refine Me (!rb) (rfl) (hs:=⟨(by refine congrArg (λq=>some (Value.bool q)) (acR.2 ?_);rw[abi,<-ac5,GL];simp only[hb,abi,ac0,decide_eq_true_eq,decide_eq_false_iff_not,abt,true_iff,false_iff]at*;omega),trivial⟩)
  intro cZ;replace cZ:=aG cZ;refine ba ?_;refine aM (t:=53) rfl ?_ ?_
  ·intro iR
   replace iR:=aG iR;refine cC ?_;refine aY ?_;refine aB ?_;refine Me (!rb) (rfl) (hs:=⟨(by refine congrArg (λq=>some (Value.bool q)) (acR.2 ?_);rw[abi,<-ac5,GL];simp only[hb,abi,ac0,decide_eq_true_eq,decide_eq_false_iff_not,abt,true_iff,false_iff]at*;omega),trivial⟩)
  intro iR;replace iR:=aG iR;refine ba ?_;refine aM (t:=58) rfl ?_ ?_
  ·intro rP
   replace rP:=aG rP;refine BV ?_;refine aB ?_;refine Me (!rb) (rfl) (hs:=⟨(by refine congrArg (λq=>some (Value.bool q)) (acR.2 ?_);rw[abi,<-ac5,GL];simp only[hb,abi,ac0,decide_eq_true_eq,decide_eq_false_iff_not,abt,true_iff,false_iff]at*;omega),trivial⟩)
  intro rP;replace rP:=aG rP;refine bn ?_;refine Li (Im) ?_;refine az (t:=61) (v':=(DE DD (bE % 8))) rfl (by exact congrArg (Value.int .i64) (Int.tmod_eq_emod_of_nonneg (by omega))) ?_;refine bj ?_;refine aM (t:=64) rfl ?_ ?_
  ·intro Xv
   replace Xv:=aG Xv;refine gQ ?_;refine aB ?_;refine Me (!rb) (rfl) (hs:=⟨(by refine congrArg (λq=>some (Value.bool q)) (acR.2 ?_);rw[abi,<-ac5,GL];simp only[hb,abi,ac0,decide_eq_true_eq,decide_eq_false_iff_not,abt,true_iff,false_iff]at*;omega),trivial⟩)
  intro Xv;replace Xv:=aG Xv;refine bL ?_;refine aM (t:=71) rfl ?_ ?_
  ·intro LV
   replace LV:=aG LV;refine bA ?_;refine aB ?_;refine Me (!rb) (rfl) (hs:=⟨(by refine congrArg (λq=>some (Value.bool q)) (acR.2 ?_);rw[abi,<-ac5,GL];simp only[hb,abi,ac0,decide_eq_true_eq,decide_eq_false_iff_not,abt,true_iff,false_iff]at*;omega),trivial⟩)
  intro LV;replace LV:=aG LV;refine bA ?_;refine aB ?_;refine Me (!rb) (rfl) (hs:=⟨(by refine congrArg (λq=>some (Value.bool q)) (acR.2 ?_);rw[abi,<-ac5,GL];simp only[hb,abi,ac0,decide_eq_true_eq,decide_eq_false_iff_not,abt,true_iff,false_iff]at*;omega),trivial⟩)
 rintro b2 cy;subst cy;rcases rb with _|_
 ·rw[if_neg (by decide)]at dx
  refine bL ?_;refine js [] results73 ?_;exact .inl (by rw[dx];exact⟨by decide,rfl,rfl⟩)
 obtain⟨⟨h1,h2,h3⟩,h4,h5,h6,h7,h8,h9,XQ,Qv,vd⟩:=GL.1 rfl;obtain⟨r1,r2⟩:=hre rfl;rw[if_pos rfl]at dx;obtain⟨fac,rfl⟩:∃f:Nat,fac=f:=⟨fac.toNat,by omega⟩;obtain⟨bE,rfl⟩:∃f:Nat,bE=f:=⟨bE.toNat,by omega⟩;obtain⟨lim,rfl⟩:∃f:Nat,lim=f:=⟨lim.toNat,by omega⟩;rw[aiG,aiG]at hrl;rw[aiG]at hla;have hlb:L<=1048583:=by omega
 refine bL ?_;refine az (t:=80) (v':=(DE DD (lim+7:Nat))) rfl (by exact congrArg (Value.int .i64) rfl) ?_;refine Li (Qu (q:=8)) ?_;refine aw ?_;refine az (t:=82) (v':=(DE DD L)) rfl (by exact congrArg (Value.int .i64) (by omega)) ?_;refine cL ?_;refine cX 3 1 ?_;refine Lo (ι:=F8×Nat×FX×Nat) (FZ [6,3,85,24]) (λs=>(64<=s.2.1/\s.2.1<=4200000/\s.2.1 % 8=0/\s.1.length<=s.2.1)/\s.1++mV fac L (L-s.2.1) s.2.1=mV fac L (L-bE) bE) (λs=> [(6, .slice s.2.2.1 s.1.length s.2.2.2),(7,DE DD s.2.1)]) (λs=> [own s.2.2.1 s.2.2.2 3 1 (aE s.1),ag b1 29 [DE DD aj,DE DD pgs,DE DD fac,DE DD bE,DE DD lim,DE DD hot,DE DD warm]]) (λs=>L-s.2.1) (([],bE,none,0)) ⟨⟨by dsimp only;omega,by dsimp only;omega,by dsimp only;omega,Nat.zero_le _⟩,rfl⟩ ?_;rintro⟨l,n,a,cc⟩ hI
 try dsimp only at hI⊢
 obtain⟨⟨i1,i2,i3,i5⟩,i4⟩:=hI;by_cases ct:n<L
 ·have hnf:n*fac<=1048583*400:=Nat.mul_le_mul (by omega) (by omega)
  have hnf2:n*105<=n*fac:=Nat.mul_le_mul_left n (by omega);have GO:BK fac n=((n*fac+99)/100+7)/8*8:=by unfold BK;omega
  rw[vM fac L n ct,GO]at i4;refine bA ?_;refine eJ ?_;refine bA ?_;refine Lp (oT gk λb2=> ?_);refine Lp (bI gk qy rfl rfl rfl rfl .here (by simp[aE]) (rfl) (by simp[Value.oneCell']) (by first|omega|(simp;omega)) (by first|omega|(simp;omega)) rfl λa2 c2 r9=> ?_);refine bL ?_;refine az (t:=95) (v':=(DE DD (n*fac:Nat))) rfl (by exact congrArg (Value.int .i64) (by first|rfl|(rw[<-Int.natCast_mul];exact wrap_i64 (by omega)))) ?_;generalize n*fac=nf at*;refine aw ?_;refine az (t:=96) (v':=(DE DD (nf+99:Nat))) rfl (by exact congrArg (Value.int .i64) rfl) ?_;refine Li (Qu (q:=100)) ?_;refine az (t:=97) (v':=(DE DD ((nf+99)/100:Nat))) rfl (by exact congrArg (Value.int .i64) (by omega)) ?_;refine ba ?_;refine az (t:=99) (v':=(DE DD ((nf+99)/100+7:Nat))) rfl (by exact congrArg (Value.int .i64) rfl) ?_;refine Li (Qu (q:=8)) ?_;refine aw ?_;refine az (t:=101) (v':=(DE DD (((nf+99)/100+7)/8*8:Nat))) rfl (by exact congrArg (Value.int .i64) (by omega)) ?_;have Ju:n+8<=((nf+99)/100+7)/8*8:=by omega
  have hle:((nf+99)/100+7)/8*8<=4200000:=by omega
  have hm8:((nf+99)/100+7)/8*8 % 8=0:=by omega
  generalize ((nf+99)/100+7)/8*8=m at*;refine cu ?_;refine cM ?_;refine bL ?_;rw[show aE l++ [Value.int .i64 (n:Int)]=aE (l++ [n])from(gC l [n]).symm,show l.length+1=(l++ [n]).length by simp];have hi4:(l++ [n])++mV fac L (L-m) m=mV fac L (L-bE) bE:=by rw[<-i4,List.append_assoc];rfl
  have DJ:(l++ [n]).length=l.length+1:=by simp
  generalize l++ [n]=l2 at*;refine Ro ((l2,m,a2,c2)) (⟨⟨(by dsimp only;omega),(by dsimp only;omega),(by dsimp only;omega),(by dsimp only;omega)⟩,hi4⟩) ((by dsimp only;omega))
 rw[mz fac L _ n (by omega),List.append_nil]at i4;rw[<-i4]at hrl;refine bA ?_;refine cM ?_;refine cY ?_;refine Lp (oT gk λb3=> ?_);refine Lp (bI gk qy rfl rfl rfl rfl .here (by simp[aE]) (rfl) (by simp[Value.oneCell']) (by first|omega|(simp;omega)) (by first|omega|(simp;omega)) rfl λa2 c2 r9=> ?_);rw[show aE l++ [Value.int .i64 (L:Int)]=aE (l++ [L])from(gC l [L]).symm,show l.length+1=(l++ [L]).length by simp,<-hrl];have hrlen:rl.length<=4200001:=by rw[hrl,List.length_append,List.length_singleton];omega
 by_cases g1:62<rl.length
 ·rw[if_pos (r1.1 g1)]at dx
  refine cY ?_;refine eJ ?_;refine bA ?_;refine js [] results73 ?_;exact .inl (by rw[dx];exact⟨by decide,rfl,rfl⟩)
 rw[if_neg (λh=>g1 (r1.2 h))]at dx;have er:=r2 g1;subst er;by_cases g2:pgs<(rl.length:Int)
 ·rw[if_pos g2]at dx
  refine cY ?_;refine cM ?_;refine bD ?_;refine eJ ?_;refine bA ?_;refine js [] results73 ?_;exact .inl (by rw[dx];exact⟨by decide,rfl,rfl⟩)
 rw[if_neg g2]at dx;refine cY ?_;refine cM ?_;refine bD ?_;refine cM ?_;refine cY ?_;refine js [own a2 c2 3 1 (aE rl)] results73 ?_;exact .inr ⟨dx,a2,c2,rfl,rfl⟩
theorem H7 (z:Ly)(LM:z.hot<=100)(LL:z.warm<=100)(M:Mo)(c:dy)(RO:Rdo M c)(hv:5<=c.ax/\c.ax<=10)(hk:c.keys.length<=1)(qh:∀k∈c.keys,k.length<=1)(hd:c.data.length<=1)(hex:c.ex=0)(GB:c.dl=0)(ka:FX)(kc:Nat)(da:FX)(dc:Nat)(mv:Value)(kx:mv.oneCell'=true):
  aK Tryz.prog 11 [DC z.s, .agg (dB c ka kc da dc mv).toArray] (λh=>fD h ka (fk c.keys)/\fD h da (ak c.data)) [SW z M] (Mj z (M.dO z.hot z.warm c)):=by
 have R:=RO.r;have h1:=R.st;have h2:=R.tn;have h3:=R.bc;exact acz xe z LM LL M c ka kc da dc mv kx (by omega) (λk hk=>by have:=qh k hk;omega) (by omega) (by omega) (by omega) R.h (by omega) R.p R.lim (by omega) (by omega)
theorem T9:aK Tryz.prog 23 [] vz [] (λv H=>v= .bool true/\H= []):=by
 refine af func23 rfl ntmps23 rfl ?_;intro F _;refine ba ?_;refine Lp (oC Aq rfl rfl (ae5 cW) .nil DA ?_);rintro v H' hr;refine bS ?_;obtain⟨-,z,z1,z2,z3,z4,rfl,rfl⟩:=hr.resolve_left λh=>h.1 agU;obtain⟨r1,e1⟩:∃r,(gu cW kC ⟨1,0,0⟩).dO z.hot z.warm (vf 5 5 0 120)=r:=⟨_,rfl⟩;obtain⟨r2,e2⟩:∃r,r1.2.dO z.hot z.warm (vf 10 0 1 121)=r:=⟨_,rfl⟩;obtain⟨r3,e3⟩:∃r,r2.2.dO z.hot z.warm (vf 10 0 1 122)=r:=⟨_,rfl⟩;obtain⟨⟨⟨y0,y1,y2⟩,k1,k2,k3⟩,P,S3,hP⟩:=s7 z.hot z.warm r1 r2 r3 e1 e2 e3;have d1:=H7 z (by omega) (by omega) _ (vf 5 5 0 120) y0 (by decide) (by decide) (by decide) (by decide) rfl rfl;have d2:=H7 z (by omega) (by omega) _ (vf 10 0 1 121) y1 (by decide) (by decide) (by decide) (by decide) rfl rfl;have d3:=H7 z (by omega) (by omega) _ (vf 10 0 1 122) y2 (by decide) (by decide) (by decide) (by decide) rfl rfl;rw[e1]at d1;rw[e2]at d2;rw[e3]at d3;refine bO ?_;refine zf 15 ?_ (e:=by rfl);refine cu ?_;refine Lp (oT JR λb1=> ?_);refine Lp (oT iT λb2=> ?_);refine Lp (oMk mK tL ?_);refine aw ?_;refine az (t:=23) (v':=(.agg (dB (vf 5 5 0 120) (some ⟨b1,0,none⟩) 1 (some ⟨b2,0,none⟩) 1 bB).toArray)) rfl (by(first|rfl|(simp only[Value.cells,dq,aiA,aiB];first|rfl|done))) ?_;refine Lp (oC Aq rfl rfl (d1 (some ⟨b1,0,none⟩) 1 (some ⟨b2,0,none⟩) 1 bB rfl) (.cons (.t2 .here) .nil) (λ_ le au=>⟨sU (au.nth 1 rfl),sU (au.nth 0 rfl)⟩) ?_);rintro v H' ⟨ea1,ec1,l1,hl1,rfl,rfl⟩;refine bS ?_;unfold xZ;rw[k1];refine Lp (oA nz λb3=> ?_);refine Lp (gE ey ?_ (h1:=by simp[gd,Value.oneCell',aW]));refine aw ?_;refine Hh (H':= [SW z r1.2,ag b3 52 (gd 1 (.slice ea1 l1.length ec1) r1.1.num r1.1.uT)]) ?_;refine bn ?_;refine Lp (oT JR λb4=> ?_);refine Lp (oT iT λb5=> ?_);refine Lp (oMk mK tL ?_);refine aw ?_;refine az (t:=29) (v':=(.agg (dB (vf 10 0 1 121) (some ⟨b4,0,none⟩) 1 (some ⟨b5,0,none⟩) 1 bB).toArray)) rfl (by(first|rfl|(simp only[Value.cells,dq,aiA,aiB];first|rfl|done))) ?_;refine Lp (oC Aq rfl rfl (d2 (some ⟨b4,0,none⟩) 1 (some ⟨b5,0,none⟩) 1 bB rfl) (.cons (.t2 .here) .nil) (λ_ le au=>⟨sU (au.nth 1 rfl),sU (au.nth 0 rfl)⟩) ?_);rintro v H' ⟨ea2,ec2,l2,DJ,rfl,rfl⟩;refine bS ?_;unfold xZ;rw[k2];refine Lp (oA nz λb6=> ?_);refine Lp (gE ey ?_ (h1:=by simp[gd,Value.oneCell',aW]));refine aw ?_;refine Hh (H':= [SW z r2.2,ag b3 52 (gd 1 (.slice ea1 l1.length ec1) r1.1.num r1.1.uT),ag b6 52 (gd 1 (.slice ea2 l2.length ec2) r2.1.num r2.1.uT)]) ?_;refine bn ?_;refine Lp (oT JR λb7=> ?_);refine Lp (oT iT λb8=> ?_);refine Lp (oMk mK tL ?_);refine aw ?_;refine az (t:=35) (v':=(.agg (dB (vf 10 0 1 122) (some ⟨b7,0,none⟩) 1 (some ⟨b8,0,none⟩) 1 bB).toArray)) rfl (by(first|rfl|(simp only[Value.cells,dq,aiA,aiB];first|rfl|done))) ?_;refine Lp (oC Aq rfl rfl (d3 (some ⟨b7,0,none⟩) 1 (some ⟨b8,0,none⟩) 1 bB rfl) (.cons (.t2 .here) .nil) (λ_ le au=>⟨sU (au.nth 1 rfl),sU (au.nth 0 rfl)⟩) ?_);rintro v H' ⟨ea3,ec3,l3,hl3,rfl,rfl⟩;refine bS ?_;unfold xZ;rw[k3];refine Lp (oA nz λb9=> ?_);refine Lp (gE ey ?_ (h1:=by simp[gd,Value.oneCell',aW]));refine aw ?_;refine Hh (H':= [SW z r3.2,ag b3 52 (gd 1 (.slice ea1 l1.length ec1) r1.1.num r1.1.uT),ag b6 52 (gd 1 (.slice ea2 l2.length ec2) r2.1.num r2.1.uT),ag b9 52 (gd 3 (.slice ea3 l3.length ec3) r3.1.num r3.1.uT)]) ?_;obtain⟨p,iG,hvw⟩:=ZT S3 hP;refine bn ?_;refine Lp (oC Aq rfl rfl (yX z r3.2 [97] (by decide)) (.cons .here .nil) DA ?_);rintro v H' hf;refine bS ?_;rw[iG]at hf;obtain⟨vb,rfl,rfl⟩:=hf;refine Hh (H':= [SW z r3.2,own (some ⟨vb,0,none⟩) (r3.2.it p).val.length 5 1 (ak (r3.2.it p).val),ag b3 52 (gd 1 (.slice ea1 l1.length ec1) r1.1.num r1.1.uT),ag b6 52 (gd 1 (.slice ea2 l2.length ec2) r2.1.num r2.1.uT),ag b9 52 (gd 3 (.slice ea3 l3.length ec3) r3.1.num r3.1.uT)]) ?_;refine qB λwa wc B O=> ?_;have hn:r3.2.n=1:=show(r3.2.aN wa wc).n=1 from ZV O (S3.aN wa wc) (by rw[hP];simp);have Yf:(r3.2.it p).val= [121]:=congrArg I3.val hvw;have htok:(r3.2.it p).tok=2:=congrArg I3.tok hvw;unfold tR;rw[Yf,htok];unfold gd;refine bj ?_;refine Lp (oA wk λQz=> ?_);refine Lp (gE nG ?_ (h1:=by simp[Value.oneCell',aW]));refine bL ?_;refine zt 45 ?_ (e:=by rfl)
 refine ba ?_;refine zt 50 ?_ (e:=by rfl);refine ba ?_;refine zt 55 ?_ (e:=by rfl);refine bj ?_;refine zt 58 ?_ (e:=by rfl);refine bn ?_;refine Lp (oTs fx tL sE ?_);refine Li Sq ?_;refine bn ?_;refine zt 64 ?_ (e:=by rfl);refine ba ?_;refine zt 69 ?_ (e:=by rfl);refine aw ?_;refine zl Aq (Yx z r3.2) (.cons (.there .here) .nil) DA ?_;rw[hn];refine ba ?_;refine Rt [] results23 ?_;exact⟨rfl,rfl⟩
end Go.Proofs.YtcbcjolpdljbiaaGreat
