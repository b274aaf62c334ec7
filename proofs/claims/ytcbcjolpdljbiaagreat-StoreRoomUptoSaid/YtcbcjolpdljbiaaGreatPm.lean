/- Part Pm of the proof. -/
import Derived.Test.YtcbcjolpdljbiaaGreatPl
set_option maxRecDepth 100000
open Go.Proofs.YtcbcjolpdljbiaaGreat.T
open Nat renaming le_refl -> abc, zero_le -> abn, mul_le_mul -> ac8, pow_le_pow_right -> ahr, mul_comm -> ahm, pow_succ -> ahD
open List renaming length_append -> aa9, mem_cons -> abh, mem_singleton -> acQ, not_mem_nil -> ahK, replicate -> aa2, getElem?_map -> abf, getElem?_replicate -> ac1, getElem?_eq_getElem -> aa0, flatMap_def -> aid, map_replicate -> ac7, getElem?_eq_none -> abb, replicate_succ -> air, getD_eq_getElem?_getD -> aaZ, length_replicate -> ahl, eq_of_mem_replicate -> ahF, nodup_nil -> ah9, flatten_cons -> alq, getElem_mem -> abe
open Int renaming natCast_mul -> al3
open Decidable renaming byContradiction -> aba
open Go.Proofs.Tryz renaming prog -> aaY
open Go.Proofs.Tryz
open Go.Value renaming int -> DE
open Go.IntKind renaming i64 -> DD, u64 -> DB, u8 -> amn
namespace Go.Proofs.YtcbcjolpdljbiaaGreat
open Go Go.dQ Go.Proofs.YtcbcjolpdljbiaaGreat.Cs
def GH (n:Int):Int:=IntKind.i64.wrap (BitVec.ofInt 64 n&&&BitVec.ofInt 64 (n-1)).toNat
def jV (c:oo):Bool:=decide (4096<=c.aj/\c.aj<=1048576/\GH c.aj=0/\1<=c.pgs/\c.pgs<=1024/\105<=c.fac/\c.fac<=400/\64<=c.bE/\c.bE<=512/\c.bE % 8=0/\c.bE<=c.lim/\c.lim<=c.aj)
theorem UI (c:oo):aK aaY 105 [.agg (jR c).toArray] vz [] (λv H=>v= .bool (jV c)/\H= []):=by
 unfold jR;have ok:∀b,(b=true↔(4096<=c.aj/\c.aj<=1048576/\GH c.aj=0/\1<=c.pgs/\c.pgs<=1024/\105<=c.fac/\c.fac<=400/\64<=c.bE/\c.bE<=512/\c.bE % 8=0/\c.bE<=c.lim/\c.lim<=c.aj))->Value.bool b= .bool (jV c):=λb h=>congrArg Value.bool (by
  unfold jV;rw[Bool.eq_iff_iff,h,decide_eq_true_eq])
 refine af func105 rfl ntmps105 rfl ?_;intro F _;refine aw ?_;refine Lp (oB λb1=> ?_);refine bn ?_;refine av ?_;refine cG (ι:=Unit) (FZ [2,28]) (λu=>4096<=c.aj/\c.aj<=1048576/\GH c.aj=0/\1<=c.pgs/\c.pgs<=1024) (λu=> []) (λu=> [ag b1 29 [DE DD c.aj,DE DD c.pgs,DE DD c.fac,DE DD c.bE,DE DD c.lim,DE DD c.hot,DE DD c.warm]]) ?_ ?_
 ·refine iz ?_
  refine aY ?_;refine aM (t:=6) rfl ?_ ?_
  ·intro cB
   replace cB:=aG cB;refine cC ?_;refine bD ?_;refine Rt [] results105 ?_;exact⟨ok _ ⟨(λh=>by cases h),λh=>by exfalso;first|omega|(simp_all;done)⟩,rfl⟩
  intro cB;replace cB:=aG cB;refine ba ?_;refine aM (t:=11) rfl ?_ ?_
  ·intro cK
   replace cK:=aG cK;refine cC ?_;refine ba ?_;refine Rt [] results105 ?_;exact⟨ok _ ⟨(λh=>by cases h),λh=>by exfalso;first|omega|(simp_all;done)⟩,rfl⟩
  intro cK;replace cK:=aG cK;refine bA ?_;refine az (t:=17) (v':=(DE DD (GH c.aj))) rfl (by(first|rfl|(refine congrArg (Value.int .i64) ?_;unfold GH;rw[wrap_i64 (by omega)];rfl))) ?_;refine Li (Cm) ?_;refine bn ?_;refine aM (t:=20) rfl ?_ ?_
  ·intro cy
   replace cy:=aG cy;refine pX ?_;refine Rt [] results105 ?_;exact⟨ok _ ⟨(λh=>by cases h),λh=>by exfalso;first|omega|(simp_all;done)⟩,rfl⟩
  intro cy;replace cy:=aG cy;refine ba ?_;refine aM (t:=25) rfl ?_ ?_
  ·intro ca
   replace ca:=aG ca;refine bO ?_;refine Rt [] results105 ?_;exact⟨ok _ ⟨(λh=>by cases h),λh=>by exfalso;first|omega|(simp_all;done)⟩,rfl⟩
  intro ca;replace ca:=aG ca;refine ba ?_;refine aA rfl ?_ ?_
  ·intro cZ
   replace cZ:=aG cZ;refine ba ?_;refine Rt [] results105 ?_;exact⟨ok _ ⟨(λh=>by cases h),λh=>by exfalso;first|omega|(simp_all;done)⟩,rfl⟩
  intro cZ;replace cZ:=aG cZ;refine aw ?_;refine Me (()) ((by refine⟨?_, ?_, ?_, ?_, ?_⟩<;>omega))
 rintro u hI;refine bA ?_;refine aM (t:=33) rfl ?_ ?_
 ·intro cB
  replace cB:=aG cB;refine bO ?_;refine Rt [] results105 ?_;refine⟨ok _ ?_,rfl⟩
  first|exact⟨(λh=>by cases h),λh=>by exfalso;omega⟩|(rw[decide_eq_true_eq];constructor<;>intro h<;>omega)
 intro cB;replace cB:=aG cB;refine ba ?_;refine aA rfl ?_ ?_
 ·intro cK
  replace cK:=aG cK;refine ba ?_;refine Rt [] results105 ?_;refine⟨ok _ ?_,rfl⟩
  first|exact⟨(λh=>by cases h),λh=>by exfalso;omega⟩|(rw[decide_eq_true_eq];constructor<;>intro h<;>omega)
 intro cK;replace cK:=aG cK;refine cY ?_;refine aM (t:=41) rfl ?_ ?_
 ·intro cy
  replace cy:=aG cy;refine rS ?_;refine Rt [] results105 ?_;refine⟨ok _ ?_,rfl⟩
  first|exact⟨(λh=>by cases h),λh=>by exfalso;omega⟩|(rw[decide_eq_true_eq];constructor<;>intro h<;>omega)
 intro cy;replace cy:=aG cy;refine ba ?_;refine aM (t:=46) rfl ?_ ?_
 ·intro ca
  replace ca:=aG ca;refine cL ?_;refine Rt [] results105 ?_;refine⟨ok _ ?_,rfl⟩
  first|exact⟨(λh=>by cases h),λh=>by exfalso;omega⟩|(rw[decide_eq_true_eq];constructor<;>intro h<;>omega)
 intro ca;replace ca:=aG ca;refine bn ?_;refine Li (Im) ?_;refine az (t:=49) (v':=(DE DD (c.bE % 8))) rfl (by exact congrArg (Value.int .i64) (Int.tmod_eq_emod_of_nonneg (by omega))) ?_;refine bj ?_;refine aA rfl ?_ ?_
 ·intro cZ
  replace cZ:=aG cZ;refine ba ?_;refine Rt [] results105 ?_;refine⟨ok _ ?_,rfl⟩
  first|exact⟨(λh=>by cases h),λh=>by exfalso;omega⟩|(rw[decide_eq_true_eq];constructor<;>intro h<;>omega)
 intro cZ;replace cZ:=aG cZ;refine cu ?_;refine aM (t:=57) rfl ?_ ?_
 ·intro iR
  replace iR:=aG iR;refine cu ?_;refine Rt [] results105 ?_;refine⟨ok _ ?_,rfl⟩
  first|exact⟨(λh=>by cases h),λh=>by exfalso;omega⟩|(rw[decide_eq_true_eq];constructor<;>intro h<;>omega)
 intro iR;replace iR:=aG iR;refine cu ?_;refine Rt [] results105 ?_;refine⟨ok _ ?_,rfl⟩
 first|exact⟨(λh=>by cases h),λh=>by exfalso;omega⟩|(rw[decide_eq_true_eq];constructor<;>intro h<;>omega)
def lE (fac last:Nat):Nat->Nat->F8
 |0,n=> [n]
 |k+1,n=>if last<=n then [n]else n::lE fac last k (min last ((n*fac+799)/800*8))
def fQ (c:oo):Nat:=(c.lim.toNat+7)/8*8
def bF (c:oo):F8:=lE c.fac.toNat (fQ c) 62 c.bE.toNat
theorem ua (fac last:Nat):∀k n,1<=(lE fac last k n).length/\(lE fac last k n).length<=k+1
 |0,n=>⟨abc _,abc _⟩
 |k+1,n=>by
  unfold lE;split
  ·exact⟨abc _,by simp⟩
  obtain⟨h1,h2⟩:=ua fac last k (min last ((n*fac+799)/800*8));rw[List.length_cons];omega
theorem Uv (c:oo)(hr:jV c=true):aK aaY 106 [.agg (jR c).toArray] vz [] (λv H=>∃a cc,v= .slice a (bF c).length cc/\H= [own a cc 3 1 (aE (bF c))]):=by
 have hr:=of_decide_eq_true hr;obtain⟨h1,h2,h3,h4,h5,h6,h7,h8,h9,XQ,Qv,vd⟩:=hr;obtain⟨fac,hf⟩:∃f:Nat,c.fac=f:=⟨c.fac.toNat,by omega⟩;obtain⟨bE,hm⟩:∃f:Nat,c.bE=f:=⟨c.bE.toNat,by omega⟩;obtain⟨lim,hl⟩:∃f:Nat,c.lim=f:=⟨c.lim.toNat,by omega⟩;have hs:bF c=lE fac (fQ c) 62 bE:=by unfold bF;rw[hf,hm];rfl
 have hla:fQ c=(lim+7)/8*8:=by unfold fQ;rw[hl];rfl
 have hlb:fQ c<=1048583:=by omega
 unfold jR;rw[hf,hm,hl,hs];rw[hf]at h6 h7;rw[hm]at h8 h9;refine af func106 rfl ntmps106 rfl ?_;intro F _;refine aw ?_;refine Lp (oB λb1=> ?_);refine bn ?_;refine aak ?_;refine aY ?_;refine az (t:=8) (v':=(DE DD (lim+7:Nat))) rfl (by exact congrArg (Value.int .i64) rfl) ?_;refine Li (Qu (q:=8)) ?_;refine aw ?_;refine az (t:=10) (v':=(DE DD ((lim+7)/8*8:Nat))) rfl (by exact congrArg (Value.int .i64) (by omega)) ?_;refine ba ?_;refine Lp (oT gk λb2=> ?_);refine bn ?_;refine av ?_;refine aam ?_;refine bj ?_;refine az (t:=3) (v':=(DE DD (fQ c))) rfl (by exact congrArg (Value.int .i64) (by rw[hla])) ?_;generalize hL:fQ c=L at*;refine ay (λk s=>bo (λh p=>pq p 1 1 rfl (by decide)) s) ?_;refine Lo (ι:=F8×Nat×FX×Nat) (FZ [4,2,14,25]) (λs=>(s.1.length<=62/\s.2.1<=1048583/\64<=s.2.1)/\lE fac L 62 bE=s.1++lE fac L (62-s.1.length) s.2.1) (λs=> [(4, .slice s.2.2.1 (s.1.length+1) s.2.2.2)]) (λs=> [ag b1 29 [DE DD c.aj,DE DD c.pgs,DE DD fac,DE DD bE,DE DD lim,DE DD c.hot,DE DD c.warm],own s.2.2.1 s.2.2.2 3 1 (aE (s.1++ [s.2.1]))]) (λs=>62-s.1.length) (([],bE,some ⟨b2,0,none⟩,1)) ⟨⟨abn _,by dsimp only;omega,by dsimp only;omega⟩,rfl⟩ ?_;rintro⟨l,n,a,cc⟩ hI
 try dsimp only at hI⊢
 obtain⟨⟨i1,i2,i3⟩,i4⟩:=hI;have uX:(aE (l++ [n]))[l.length]?=some (DE DD n):=by unfold aE;rw[List.map_append,List.getElem?_append_right (by simp)];simp
 have hnl:(aE (l++ [n])).length=l.length+1:=by unfold aE;simp
 refine mZ (iU (.there .here) (λ_ o=>nK o (by rw[hnl];omega))) λP3=> ?_;refine bA ?_;refine az (t:=17) (v':=(DE DD l.length)) rfl (by exact congrArg (Value.int .i64) (by omega)) ?_;refine Li (Ix lp (j:=l.length)) ?_;refine bj ?_;refine av ?_;by_cases adv:L<=n\/62<=l.length
 ·have he:lE fac L (62-l.length) n= [n]:=by
   rcases adv with h|h
   ·rcases hk:62-l.length with _|k
    ·rfl
    unfold lE;rw[if_pos h]
   rw[show 62-l.length=0 by omega];rfl
  rw[he]at i4;by_cases BM:L<=n
  ·refine oW ?_
   refine bL ?_;refine eJ ?_;refine bn ?_;refine eJ ?_;refine cL ?_;refine wR ?_;refine Rt [own a cc 3 1 (aE (l++ [n]))] results106 ?_;exact⟨a,cc,by rw[i4,aa9];rfl,by rw[i4]⟩
  refine oW ?_;refine bL ?_;refine cM ?_;refine bA ?_;refine eJ ?_;refine cL ?_;refine wR ?_;refine Rt [own a cc 3 1 (aE (l++ [n]))] results106 ?_;exact⟨a,cc,by rw[i4,aa9];rfl,by rw[i4]⟩
 obtain⟨k,hk⟩:∃k,62-l.length=k+1:=⟨61-l.length,by omega⟩;have he:lE fac L (62-l.length) n=n::lE fac L (62-(l.length+1)) (min L ((n*fac+799)/800*8)):=by
  rw[hk,show 62-(l.length+1)=k by omega]
  conv=>lhs;unfold lE
  rw[if_neg (by omega)]
 rw[he]at i4;have hnf:n*fac<=1048583*400:=ac8 i2 (by omega);have hnf2:64*105<=n*fac:=ac8 i3 (by omega);refine cY ?_;refine cM ?_;refine bA ?_;refine cM ?_;refine bD ?_;refine az (t:=32) (v':=(DE DD (n*fac:Nat))) rfl (by exact congrArg (Value.int .i64) (by first|rfl|(rw[<-al3];exact wrap_i64 (by omega)))) ?_;generalize n*fac=nf at*;refine aw ?_;refine az (t:=33) (v':=(DE DD (nf+799:Nat))) rfl (by exact congrArg (Value.int .i64) rfl) ?_;refine Li (Qu (q:=800)) ?_;refine aw ?_;refine Li Mi ?_;refine az (t:=36) (v':=(DE DD (min L ((nf+799)/800*8):Nat))) rfl (by exact congrArg (Value.int .i64) (by omega)) ?_;generalize Xn:min L ((nf+799)/800*8)=mn at*;refine Lp (oT gk λb3=> ?_);refine Lp (bI gk qy rfl rfl rfl rfl (.there .here) (by simp[aE]) (rfl) (by simp[Value.oneCell']) (by first|omega|(simp;omega)) (by first|omega|(simp;omega)) rfl λa2 c2 r9=> ?_);refine bj ?_;rw[show aE (l++ [n])++ [Value.int .i64 (mn:Int)]=aE ((l++ [n])++ [mn]) by rw[gC _ [mn]];rfl,show l.length+1=(l++ [n]).length by simp];have DJ:(l++ [n]).length=l.length+1:=by simp
 have hi4:lE fac L 62 bE=(l++ [n])++lE fac L (62-(l++ [n]).length) mn:=by rw[i4,DJ,List.append_assoc];rfl
 generalize l++ [n]=l2 at*;refine Ro ((l2,mn,a2,c2)) (⟨⟨(by dsimp only;omega),(by dsimp only;omega),(by dsimp only;omega)⟩,hi4⟩) ((by dsimp only;omega))
theorem aeS{n:Nat}(h1:1<=n)(h2:n<4294967296)(h:GH n=0):n&&&(n-1)=0:=by
 unfold GH at h;have e1:(BitVec.ofInt 64 (n:Int)).toNat=n:=by rw[BitVec.toNat_ofInt];omega
 have e2:(BitVec.ofInt 64 ((n:Int)-1)).toNat=n-1:=by rw[BitVec.toNat_ofInt];omega
 rw[BitVec.toNat_and,e1,e2]at h;have h3:n&&&(n-1)<=n:=Nat.and_le_left;generalize n&&&(n-1)=x at*;simp[IntKind.wrap,IntKind.bits,IntKind.signed]at h;omega
theorem aeR{n:Nat}(h1:1<=n)(h:n&&&(n-1)=0):n=2^n.log2:=by
 have l1:=Nat.log2_self_le (n:=n) (by omega);have l2:=Nat.lt_log2_self (n:=n);refine aba λg=> ?_;have bit:∀x,2^n.log2<=x->x<2^(n.log2+1)->x.testBit n.log2=true:=λx a b=>by
  obtain⟨i,hi,ht⟩:=Nat.exists_ge_and_testBit_of_ge_two_pow a;have:i=n.log2:=by
   refine aba λe=> ?_;have h3:x<2^i:=Nat.lt_of_lt_of_le b (ahr (by decide) (by omega));rw[Nat.testBit_lt_two_pow h3]at ht;cases ht
  rw[<-this];exact ht
 have b1:=bit n l1 l2;have b2:=bit (n-1) (by omega) (by omega);have:(n&&&(n-1)).testBit n.log2=true:=by rw[Nat.testBit_and,b1,b2];rfl
 rw[h]at this;simp at this
def Xc:F8:= [4096,8192,16384,32768,65536,131072,262144,524288,1048576]
theorem ajY{n:Nat}(h1:4096<=n)(h2:n<=1048576)(h:GH n=0):n∈Xc:=by
 have e:=aeR (by omega) (aeS (by omega) (by omega) h);have k1:12<=n.log2:=by
  refine aba λg=> ?_;have:=ahr (n:=2) (by decide) (show n.log2<=11 by omega);omega
 have k2:n.log2<=20:=by
  refine aba λg=> ?_;have:=ahr (n:=2) (by decide) (show 21<=n.log2 by omega);omega
 rw[e];generalize n.log2=k at*;have:k=12\/k=13\/k=14\/k=15\/k=16\/k=17\/k=18\/k=19\/k=20:=by omega
 rcases this with rfl|rfl|rfl|rfl|rfl|rfl|rfl|rfl|rfl<;>decide
theorem M7 (n:Nat):aK aaY 218 [DE DB n] vz [] (λv H=>(∃z:Int,v=DE DD z/\(n∈Xc->z=1))/\H= []):=by
 refine af func218 rfl ntmps218 rfl ?_;intro F _;refine ba ?_;refine Li (Sr 1) ?_;refine cY ?_;refine Li (Sr 2) ?_;refine cY ?_;refine Li (Sr 4) ?_;refine cY ?_;refine Li (Sr 8) ?_;refine bA ?_;refine Li (Sr 16) ?_;refine bA ?_;refine Li (Sr 32) ?_;refine bD ?_;refine Rt [] results218 ?_;refine⟨⟨_,rfl,λh=> ?_⟩,rfl⟩;simp only[Xc,abh,acQ,ahK,or_false]at h;rcases h with rfl|rfl|rfl|rfl|rfl|rfl|rfl|rfl|rfl<;>decide+kernel
theorem yB{z:FV}(n k:Nat)(hk:k=n*z.length):ij z k=(aa2 n z).flatten:=by
 subst hk;rcases Nat.eq_zero_or_pos z.length with h0|h0
 ·rw[List.eq_nil_of_length_eq_zero h0];simp[ij]
 apply List.ext_getElem?;intro i;have e:((aa2 n z).flatten).length=n*z.length:=by simp
 by_cases hi:i<n*z.length
 ·have q:i/z.length<n:=(Nat.div_lt_iff_lt_mul h0).2 hi
  have r:i % z.length<z.length:=Nat.mod_lt _ h0;unfold ij;rw[abf,List.getElem?_range hi];have:=bq (f:=λ_:Unit=>z) (k:=z.length) (λ_=>rfl) (l:=aa2 n ()) (i:=i/z.length) (a:=()) (by rw[ac1,if_pos q]) (j:=i % z.length) (v:=z[i % z.length]) (aa0 r);rw[Option.map_some,aa0 r];rw[show i/z.length*z.length+i % z.length=i from by rw[ahm];exact Nat.div_add_mod i _]at this;rw[aid,ac7]at this;exact this.symm
 rw[abb (by rw[kL];omega),abb (by omega)]
theorem Zx (n:Nat):aK aaY 156 [DE DB n] vz [] (λv H=>(∃z:Int,v=DE DD z/\(n∈Xc->z=1))/\H= []):=by
 refine af func156 rfl ntmps156 rfl ?_;intro F _;refine cu ?_;refine Lp (oC Aq rfl rfl (M7 n) .nil DA ?_);rintro v H' ⟨⟨z,rfl,hz⟩,rfl⟩;refine bS ?_;refine bj ?_;refine Rt [] results156 ?_;exact⟨⟨z,rfl,hz⟩,rfl⟩
theorem WY (n:Nat):ij [DE amn 0] (n*1)=dY (λ_=>0) n:=by
 rw[qM,Nat.mul_one];unfold dY ak jZ;simp[List.map_map,Function.comp_def,List.map_const']
theorem aaU (s n:Nat)(h1:s∈Xc)(h2:1<=n)(h3:n<=1024):aK aaY 107 [DE DD s,DE DD n] vz []
  (λv H=>∃a ab,v= .tuple #[DC a,DE DD 0]/\H= [ag a 249 (iI ab s (s*n)),ag ab 5 (dY (λ_=>0) (s*n))]):=by
 have hs:4096<=s/\s<=1048576:=by
  simp only[Xc,abh,ahK,or_false]at h1;omega
 have hb:s*n<=1048576*1024:=ac8 hs.2 h3;unfold iI;refine af func107 rfl ntmps107 rfl ?_;intro F _;refine ba ?_;refine av ?_;refine cG (ι:=Unit) (FZ [6,20]) (λu=>True) (λu=> [(25, .bool false)]) (λu=> []) ?_ ?_
 ·refine cq ?_
  refine bj ?_;refine aM (t:=8) rfl ?_ ?_
  ·intro cB
   replace cB:=aG cB;refine rS ?_;refine aB ?_;refine Me (()) (trivial)
  intro cB;replace cB:=aG cB;refine aY ?_;refine aM (t:=12) rfl ?_ ?_
  ·intro cK
   replace cK:=aG cK;refine gQ ?_;refine aB ?_;refine Me (()) (trivial)
  intro cK;replace cK:=aG cK;refine bn ?_;refine az (t:=14) (v':=(DE DB s)) rfl (by(first|rfl|exact congrArg (Value.int .u64) (by first|rfl|exact wrap_u64 (by omega)))) ?_;refine Lp (oC Aq rfl rfl (Zx s) .nil DA ?_);rintro v H' ⟨⟨z,rfl,hz⟩,rfl⟩;refine bS ?_;refine bj ?_;refine aM (t:=18) rfl ?_ ?_
  ·intro cy
   replace cy:=aG cy;refine bL ?_;refine aB ?_;refine Me (()) (trivial)
  intro cy;replace cy:=aG cy;refine aY ?_;refine aM (t:=22) rfl ?_ ?_
  ·intro ca
   replace ca:=aG ca;refine bj ?_;refine aB ?_;refine Me (()) (trivial)
  intro ca;replace ca:=aG ca;refine bj ?_;refine aB ?_;refine Me (()) (trivial)
 rintro u hI;refine cY ?_;refine az (t:=29) (v':=(DE DD (s*n:Nat))) rfl (by exact congrArg (Value.int .i64) (by first|rfl|(rw[<-al3];exact wrap_i64 (by omega)))) ?_;refine Lp (oM (s*n) (s*n) iT λb1=> ?_);rw[WY];refine aw ?_;refine Lp (oB λb2=> ?_);refine aY ?_;refine js [ag b2 249 [DE DD s, .slice (some ⟨b1,0,none⟩) (s*n) (s*n)],ag b1 5 (dY (λ_=>0) (s*n))] results107 ?_;exact⟨_,_,rfl,rfl⟩
theorem Rx{aj fac last:Nat}(h1:last<=aj)(h2:64<=last)(h3:last % 8=0)(h4:105<=fac):∀k n,64<=n->n<=aj->n % 8=0->∀z∈lE fac last k n,64<=z/\z<=aj/\z % 8=0
 |0,n,a,b,c,z,hz=>by
  unfold lE at hz;rw[acQ]at hz;subst hz;exact⟨a,b,c⟩
 |k+1,n,a,b,c,z,hz=>by
  unfold lE at hz;split at hz
  ·rw[acQ]at hz
   subst hz;exact⟨a,b,c⟩
  rw[abh]at hz;rcases hz with rfl|hz
  ·exact⟨a,b,c⟩
  have:64*105<=n*fac:=ac8 a h4;exact Rx h1 h2 h3 h4 k _ (by omega) (by omega) (by omega) z hz
def dz (c:oo):Cs:=⟨c,c.aj.toNat,c.pgs.toNat,bF c,aa2 c.pgs.toNat .no,aa2 (bF c).length ⟨[],0,0,0⟩,c.pgs.toNat,λ_=>0⟩
def lH (c:oo):Int:=if jV c=true then if 62<(bF c).length then 2 else if c.pgs<((bF c).length:Int)then 3 else 0 else 1
theorem pw_8{n:Nat}(h:n∈Xc):n % 8=0:=by
 simp only[Xc,abh,ahK,or_false]at h;omega
theorem YP (n k:Nat):(aa2 n k).sum=n*k:=by
 induction n with
 |zero=>simp
 |succ n ih=>rw[air,List.sum_cons,ih,Nat.succ_mul];omega
theorem C9{c:oo}(h:lH c=0):Ok (dz c)/\(c.aj=(c.aj.toNat:Int))/\c.pgs=(c.pgs.toNat:Int)/\c.aj.toNat∈Xc:=by
 unfold lH at h;split at h
 case isFalse=>cases h
 case isTrue hr=>
 split at h
 case isTrue=>cases h
 case isFalse h62=>
 split at h
 case isTrue=>cases h
 case isFalse jg=>
 obtain⟨h1,h2,h3,h4,h5,h6,h7,h8,h9,XQ,Qv,vd⟩:=of_decide_eq_true hr;obtain⟨aj,hp⟩:∃f:Nat,c.aj=f:=⟨c.aj.toNat,by omega⟩;obtain⟨pgs,hg⟩:∃f:Nat,c.pgs=f:=⟨c.pgs.toNat,by omega⟩;have LQ:c.aj.toNat=aj:=by omega
 have hgg:c.pgs.toNat=pgs:=by omega
 rw[hp]at h3;have hpw:=ajY (n:=aj) (by omega) (by omega) h3;have p8:=pw_8 hpw;have hl:=ua c.fac.toNat (fQ c) 62 c.bE.toNat;have hla:fQ c=(c.lim.toNat+7)/8*8:=rfl;have lS:∀z∈bF c,64<=z/\z<=aj/\z % 8=0:=Rx (by omega) (by omega) (by omega) (by omega) 62 _ (by omega) (by omega) (by omega);have rwE:∀k,(dz c).rw k=⟨[],0,0,0⟩:=λk=>by
  unfold Cs.rw dz;rw[aaZ,ac1];split<;>rfl
 have pgE:∀k,(dz c).pg k= .no:=λk=>by
  unfold Cs.pg dz;rw[aaZ,ac1];split<;>rfl
 have Yl:∀f:Pg->Nat,(dz c).BP f=pgs*f .no:=λf=>by
  unfold Cs.BP dz;rw[ac7,YP,hgg]
 have noAt:∀p,¬Cs.At (dz c) p:=λp a=>by
  have:=a.own;rw[pgE]at this;cases this
 refine⟨⟨⟨?_, ?_, ?_, ?_, ?_, ?_, ?_, ?_, ?_, ?_⟩, ?_, ?_, ?_, ?_, ?_, ?_, ?_, ?_⟩,by omega,by omega,by rw[LQ];exact hpw⟩
 ·show 4096<=c.aj.toNat;omega
 ·show c.aj.toNat<=1048576;omega
 ·show c.aj.toNat % 8=0;omega
 ·show 1<=c.pgs.toNat;omega
 ·show c.pgs.toNat<=1024;omega
 ·exact hl.1
 ·show(bF c).length<=62;omega
 ·intro z hz
  have:=lS z hz;exact⟨this.1,by show z<=c.aj.toNat;omega,this.2.2⟩
 ·exact ahl
 ·exact ahl
 ·intro x hx
  obtain rfl:=ahF hx;exact⟨(λh=>by cases h),(λh=>by cases h),rfl,(λg hg=>by cases hg),(λg hg=>by cases hg),ah9,rfl,λ_=>⟨rfl,rfl,rfl⟩⟩
 ·intro k p hp
  rw[rwE]at hp;cases hp
 ·intro k;rw[rwE];exact ah9
 ·intro k p f;exact absurd f.toAt (noAt p)
 ·intro k _;rw[rwE,Yl];simp[we,Pg.no]
 ·intro k _;rw[rwE,Yl];simp[uY,Pg.no]
 ·intro k _;rw[rwE,Yl];simp[xP,Pg.no]
 rw[Yl];show c.pgs.toNat=pgs*Az .no;rw[hgg];simp[Az,Pg.no]
theorem abw (n:Nat):ij [.bool false, .bool false,DE DD 0, .slice none 0 0, .slice none 0 0,DE DD 0, .map none] (n*7)=(aa2 n (⟨.no,none,none,none⟩:wj)).flatMap dU:=by
 rw[yB n (n*7) rfl,aid,ac7];rfl
theorem abv (n:Nat):ij [.slice none 0 0,DE DD 0,DE DD 0,DE DD 0] (n*4)=(aa2 n (⟨⟨[],0,0,0⟩,none,0⟩:GV)).flatMap eH:=by
 rw[yB n (n*4) rfl,aid,ac7];rfl
theorem aeX{a:FX}{cap e sz:Nat}{xs:FV}{k:Hp}(o:own a cap e sz xs k)(h:0<xs.length):∃b,a=some ⟨b,0,none⟩:=by
 obtain⟨h1,_,⟨_,rfl⟩|⟨b,_,rfl,_⟩⟩:=o
 ·rw[Nat.zero_mul]at h1;omega
 exact⟨b,rfl⟩
theorem vI{l:Dz}(hl:∀A∈l,∀h,A h):∀h,aF l h:=by
 induction l with
 |nil=>intro h;exact trivial
 |cons A l ih=>intro h;exact gB (hl A (List.mem_cons_self ..)) (ih (λB hB=>hl B (List.mem_cons_of_mem _ hB)) h)
theorem agR{c:oo}{p g b ar ab sa pb rb cc:Nat}{S:F8}{H:Dz}{h:Hp}(c1:c.aj=p)(c2:c.pgs=g)(hS:bF c=S)
  (s:ai (ag b 179 [DE DD p,DE DD g,DE DD c.fac,DE DD c.bE,DE DD c.lim,DE DD c.hot,DE DD c.warm,DC ar, .slice (some ⟨sa,0,none⟩) S.length cc, .slice (some ⟨pb,0,none⟩) g g, .slice (some ⟨rb,0,none⟩) S.length S.length,DE DD g]::
   own (some ⟨sa,0,none⟩) cc 3 1 (aE S)::ag pb 227 ((aa2 g (⟨.no,none,none,none⟩:wj)).flatMap dU)::ag rb 196 ((aa2 S.length (⟨⟨[],0,0,0⟩,none,0⟩:GV)).flatMap eH)::ag ar 249 (iI ab p (p*g))::ag ab 5 (dY (λ_=>0) (p*g))::H) h):ai (Cl b (dz c)::H) h:=by
 have q1:c.aj.toNat=p:=by omega
 have q2:c.pgs.toNat=g:=by omega
 have e:dz c=⟨c,p,g,S,aa2 g .no,aa2 S.length ⟨[],0,0,0⟩,g,λ_=>0⟩:=by unfold dz;rw[q1,q2,hS]
 rw[e];refine qU (y:=⟨ar,ab,sa,pb,rb,cc,aa2 g ⟨.no,none,none,none⟩,aa2 S.length ⟨⟨[],0,0,0⟩,none,0⟩⟩) ⟨by simp,by simp, ?_,c1,c2⟩ ?_
 ·intro x hx
  obtain rfl:=ahF hx;exact⟨rfl,rfl,λ_=>rfl⟩
 unfold mU cP oq;dsimp only;rw[ahm g p];refine aJ (λ_ s=>aJ (λ_ s=>aJ (λ_ s=>gB ?_ (aJ (λ_ s=>gB ?_ s) s)) s) s) s
 ·refine vI λA hA=> ?_
  rw[ac7]at hA;obtain rfl:=ahF hA;refine vI λB hB=> ?_;simp only[abh,ahK,or_false]at hB;rcases hB with rfl|rfl|rfl<;>exact λ_=>trivial
 refine vI λA hA=> ?_;rw[ac7]at hA;obtain rfl:=ahF hA;exact λh=>C7 _ _ h
theorem aaJ (c:oo):aK aaY 58 [.agg (jR c).toArray] vz []
  (λv H=>(lH c≠0/\v= .tuple #[.pointer none,DE DD (lH c)]/\H= [])\/(lH c=0/\∃b,v= .tuple #[DC b,DE DD 0]/\H= [Cl b (dz c)])):=by
 refine af func58 rfl ntmps58 rfl ?_;intro F _;refine aw ?_;refine Lp (oB λb1=> ?_);refine bA ?_;refine zl Aq (UI c) .nil DA ?_;refine bn ?_;by_cases hr:jV c=true
 ·refine cM ?_ (e:=by exact congrArg (!·) hr)
  refine aY ?_;refine Lp (oC Aq rfl rfl (Uv c hr) .nil DA ?_);rintro v H' ⟨a,cc,rfl,rfl⟩;refine bS ?_;refine cY ?_;by_cases h62:62<(bF c).length
  ·refine eJ ?_
   refine bA ?_;refine js [] results58 ?_;refine .inl ⟨?_, ?_,rfl⟩<;>(unfold lH;rw[if_pos hr,if_pos h62]);decide
  refine cM ?_;refine bD ?_;by_cases jg:c.pgs<((bF c).length:Int)
  ·refine eJ ?_ (e:=by exact decide_eq_true jg)
   refine bA ?_;refine js [] results58 ?_;refine .inl ⟨?_, ?_,rfl⟩<;>(unfold lH;rw[if_pos hr,if_neg h62,if_pos jg]);decide
  refine cM ?_ (e:=by exact decide_eq_false jg);have h0:lH c=0:=by unfold lH;rw[if_pos hr,if_neg h62,if_neg jg]
  obtain⟨K,e1,e2,e3⟩:=C9 h0;have hpg1:c.pgs.toNat<=1024:=K.n1;have hl:0<(bF c).length:=(ua _ _ _ _).1;refine mZ (iU .here (λ_ o=>aeX o (by unfold aE;rw[List.length_map];exact hl))) λ⟨sa,hsa⟩=> ?_;subst hsa;obtain⟨aj,pgs,fac,bE,lim,hot,warm⟩:=c;obtain⟨p,rfl⟩:∃p:Nat,aj=p:=⟨_,e1⟩;obtain⟨g,rfl⟩:∃g:Nat,pgs=g:=⟨_,e2⟩;change p∈Xc at e3;have hg0:1<=g:=K.n0;have hg1:g<=1024:=K.n1;generalize hc:(⟨p,g,fac,bE,lim,hot,warm⟩:oo)=c at*;unfold jR;have c1:c.aj=p:=by rw[<-hc]
  have c2:c.pgs=g:=by rw[<-hc]
  rw[c1,c2];refine bL ?_;refine Lp (oC Aq rfl rfl (aaU p g e3 hg0 hg1) .nil DA ?_);rintro v H' ⟨ar,ab,rfl,rfl⟩;refine bS ?_;refine fu ?_;refine av ?_;generalize hS:bF c=S at*;refine cG (ι:=Nat×Nat×Nat) (FZ [2,2,31,13]) (λ(b,pb,rb)=>True) (λ(b,pb,rb)=> [(2,DC b),(3,DE DD 0)]) (λ(b,pb,rb)=> [ag b1 29 [DE DD p,DE DD g,DE DD c.fac,DE DD c.bE,DE DD c.lim,DE DD c.hot,DE DD c.warm],ag b 179 [DE DD p,DE DD g,DE DD c.fac,DE DD c.bE,DE DD c.lim,DE DD c.hot,DE DD c.warm,DC ar, .slice (some ⟨sa,0,none⟩) S.length cc, .slice (some ⟨pb,0,none⟩) g g, .slice (some ⟨rb,0,none⟩) S.length S.length,DE DD g],ag pb 227 ((aa2 g (⟨.no,none,none,none⟩:wj)).flatMap dU),ag rb 196 ((aa2 S.length (⟨⟨[],0,0,0⟩,none,0⟩:GV)).flatMap eH),ag ar 249 (iI ab p (p*g)),ag ab 5 (dY (λ_=>0) (p*g)),own (some ⟨sa,0,none⟩) cc 3 1 (aE S)]) ?_ ?_
  ·refine yf mix (.cons (.t3 .here) .nil) λF1 jq bV aI=> ?_
   obtain⟨hs,_⟩:=bV;refine Dt 0 rfl (LfN qC) ?_;refine Dt 1 rfl Mv ?_;refine Dt 2 rfl Mv ?_;refine Dt 3 rfl (Fa yW) ?_;refine Dt 4 rfl (Lf bz) ?_;refine Dt 6 rfl Mv ?_;refine Dt 7 rfl (Ln lp) ?_;refine Dt 9 rfl (Fa yW) ?_;refine Dt 10 rfl (Lf bz) ?_;refine D2 5 8 ?_ ?_
   ·refine Do rfl (oM (g) (g) TF λb2=> ?_)
    refine aw ?_;refine Dd 8 rfl (oM (S.length) (S.length) TE λb3=> ?_);refine aw ?_;refine Dt 11 rfl (Bd Rq RA) ?_;refine Dd 12 rfl (oB λb4=> ?_);refine aw ?_;refine Dt 13 rfl As ?_;refine Dt 14 rfl As ?_;refine aQ (by kernel_rfl) aI ?_;rw[abw,abv];refine Me ((b4,b2,b3)) (trivial)
   refine Do rfl (oM (S.length) (S.length) TE λb5=> ?_);refine aw ?_;refine Dd 5 rfl (oM (g) (g) TF λb6=> ?_);refine aw ?_;refine Dt 11 rfl (Bd Rq RA) ?_;refine Dd 12 rfl (oB λb7=> ?_);refine aw ?_;refine Dt 13 rfl As ?_;refine Dt 14 rfl As ?_;refine aQ (by kernel_rfl) aI ?_;rw[abw,abv];refine Me ((b7,b6,b5)) (trivial)
  rintro⟨b,pb,rb⟩ hI
  try dsimp only at hI⊢
  refine aw ?_;refine Hh (H':= [ag b 179 [DE DD p,DE DD g,DE DD c.fac,DE DD c.bE,DE DD c.lim,DE DD c.hot,DE DD c.warm,DC ar, .slice (some ⟨sa,0,none⟩) S.length cc, .slice (some ⟨pb,0,none⟩) g g, .slice (some ⟨rb,0,none⟩) S.length S.length,DE DD g],own (some ⟨sa,0,none⟩) cc 3 1 (aE S),ag pb 227 ((aa2 g (⟨.no,none,none,none⟩:wj)).flatMap dU),ag rb 196 ((aa2 S.length (⟨⟨[],0,0,0⟩,none,0⟩:GV)).flatMap eH),ag ar 249 (iI ab p (p*g)),ag ab 5 (dY (λ_=>0) (p*g)),ag b1 29 [DE DD p,DE DD g,DE DD c.fac,DE DD c.bE,DE DD c.lim,DE DD c.hot,DE DD c.warm]]) ?_;refine ay (λ_ s=>agR c1 c2 hS s) ?_;refine js [Cl b (dz c)] results58 ?_;exact .inr ⟨h0,b,rfl,rfl⟩
 refine eJ ?_ (e:=by exact congrArg (!·) (by simpa using hr));refine bA ?_;refine js [] results58 ?_;refine .inl ⟨?_, ?_,rfl⟩<;>(unfold lH;rw[if_neg hr]);decide
theorem ajn (C:Cs)(n:Nat):ij [DE DB 0,DE DB 0,DE DD 0,DE DB 0,DE DB 0,DE DD 0,DE DB 0,DE DB 0,DE DD 0] (n*9)=(aa2 (n*3) []).flatMap (di C):=by
 rw[yB n (n*9) rfl,aid,ac7];induction n with
 |zero=>rfl
 |succ n ih=>
  rw[air,alq,ih,show(n+1)*3=n*3+1+1+1 by omega];simp only[air,alq];rfl
theorem Zd (b:Nat)(C:Cs)(K:Ok C):aK aaY 59 [DC b] (In (Cl b C)) []
  (λv H=>∃q qb,v= .tuple #[DC q,DE DD 0]/\H= [ag q 182 (iF b qb C.ae.length),ag qb 333 ((aa2 (C.ae.length*3) []).flatMap (di C))]):=by
 have hl:=K.l1;unfold iF;refine af func59 rfl ntmps59 rfl ?_;intro F hc;refine kT ?_;refine zl Aq (py b C) .nil (λ_ le _=>hc.mono le) ?_;refine Lp (oM (C.ae.length) (C.ae.length) ahc λb1=> ?_);rw[ajn C];refine aw ?_;refine Lp (oB λb2=> ?_);refine aY ?_;refine js [ag b2 182 [DC b, .slice (some ⟨b1,0,none⟩) C.ae.length C.ae.length],ag b1 333 ((aa2 (C.ae.length*3) []).flatMap (di C))] results59 ?_;exact⟨_,_,rfl,rfl⟩
def grow (lim:Nat):Nat->Nat->Nat
 |0,n=>n
 |k+1,n=>if 2*n<=lim then grow lim k (2*n)else n
def nD (C:Cs):Nat:=grow (min (4*(C.n*(C.aj/C.sz 0))) 1048576) 16 16
theorem KT (lim:Nat)(h:lim<=1048576):∀k n,(∃m,m+k=20/\n=2^m)->16<=n->∃m,m<=20/\grow lim k n=2^m/\16<=grow lim k n
 |0,n,⟨m,h1,h2⟩,h3=>⟨m,by omega,h2,h3⟩
 |k+1,n,⟨m,h1,h2⟩,h3=>by
  unfold grow;split
  ·exact KT lim h k (2*n) ⟨m+1,by omega,by rw[h2,ahD];omega⟩ (by omega)
  exact⟨m,by omega,h2,h3⟩
def oD (m:Nat):Tb:=⟨m,0,16,aa2 16 [],[],0,0⟩
theorem ZG{C:Cs}{m:Nat}(h:∃j,j<=20/\m=2^j)(h16:16<=m):dC C (oD m):=by
 have ch:∀x,(oD m).ch x= []:=λx=>by
  obtain⟨f,i⟩:=x;unfold Tb.ch oD;rcases f with _|_
  ·simp only[Bool.false_eq_true,if_false,aaZ,ac1]
   split<;>rfl
  simp[aaZ]
 have al:(oD m).all= []:=by unfold oD Tb.all;simp
 refine⟨⟨4,by decide,by simp[oD]⟩, .inl rfl, .inl ⟨rfl,rfl⟩,h,by simp[oD],abc _,h16,abn _, ?_, ?_, ?_, ?_, ?_, ?_, ?_⟩
 ·rw[al];rfl
 ·rw[al];exact ah9
 ·intro x;rw[ch];trivial
 ·intro p hp;rw[al]at hp;cases hp
 ·intro p hp;rw[al]at hp;cases hp
 ·intro x p hp;rw[ch]at hp;cases hp
 intro p hp;rw[al]at hp;cases hp
theorem YL (b:Nat)(C:Cs)(K:Ok C):aK aaY 61 [DC b] (In (Cl b C)) []
  (λv H=>∃t nk,v= .tuple #[DC t,DE DD 0]/\H= [ag t 154 (gV b (oD (nD C)) ⟨nk,none⟩),ag nk 149 (aV (aL (oD (nD C)).nb))]):=by
 have hl:=K.l0;obtain⟨z1,z2,z3⟩:=K.toFix.sz (c:=0) (by omega);have n0:=K.n0;have n1:=K.n1;have p0:=K.p0;have p1:=K.p1;have hq:C.aj/C.sz 0<=16384:=Nat.div_le_of_le_mul (by omega);have hm:C.n*(C.aj/C.sz 0)<=1024*16384:=ac8 n1 hq;obtain⟨ft,hft⟩:∃ft,ft=C.n*(C.aj/C.sz 0):=⟨_,rfl⟩;unfold gV nD;rw[<-hft]at hm⊢;refine af func61 rfl ntmps61 rfl ?_;intro F hc;obtain⟨y,hy,_⟩:=acB hc;have PZ:=BC b C;have hcE:jR C.cfg= [DE DD C.aj,DE DD C.n,DE DD C.cfg.fac,DE DD C.cfg.bE,DE DD C.cfg.lim,DE DD C.cfg.hot,DE DD C.cfg.warm]:=by
  unfold jR;rw[hy.aj,hy.pgs]
 rw[hcE]at PZ;have hch:ofM C 0 (λi=>C.sz i)=C.sz 0:=by unfold ofM;rw[if_pos ⟨by omega,by omega⟩];rfl
 have ai5:=rJ b C K 0;rw[hch]at ai5;refine fu ?_;refine zl Aq (PZ) .nil (λ_ le _=>hc.mono le) ?_;refine Lp (oA kA λb1=> ?_);refine bA ?_;refine av ?_;refine az (t:=5) (v':=(DE DD (16:Nat))) rfl (by rfl) ?_;refine iL 8 mix (.cons .here .nil) λF1 jq bV aI=> ?_;obtain⟨q1,_⟩:=bV;refine ba ?_;refine Tp (oZ (Aq (n:=71)) (ai5) .nil (λ_ le _=>(hc.mono jq).mono le) ?_);refine Ti (Qu) ?_;refine Ti (MuN) ?_;refine gG aI ?_;refine az (t:=18) (v':=(DE DD ft)) rfl (by exact congrArg (Value.int .i64) (by rw[hft])) ?_;refine bj ?_;refine Lo (ι:=Nat×Nat) (FZ [5,1,19,8]) (λs=>(∃m,m+s.1=20/\s.2=2^m)/\16<=s.2/\s.2<=1048576/\grow (min (4*ft) 1048576) 16 16=grow (min (4*ft) 1048576) s.1 s.2) (λs=> [(5,DE DD s.2)]) (λs=> [ag b1 29 [DE DD C.aj,DE DD C.n,DE DD C.cfg.fac,DE DD C.cfg.bE,DE DD C.cfg.lim,DE DD C.cfg.hot,DE DD C.cfg.warm]]) (λs=>s.1) ((16,16)) ⟨⟨4,rfl,rfl⟩,abc _,(by decide),rfl⟩ ?_;rintro⟨k,n⟩ ⟨⟨m,i1,i2⟩,i3,i4,i5⟩;dsimp only at i1 i2 i3 i4 i5⊢;refine bA ?_;refine Li Mi ?_;refine az (t:=23) (v':=(DE DD (min (4*ft) 1048576:Nat))) rfl (by exact congrArg (Value.int .i64) (by omega)) ?_;generalize hlm:min (4*ft) 1048576=lm at*;have ai3:lm<=1048576:=by omega
 refine bn ?_;refine aA rfl ?_ ?_
 ·intro hle
  replace hle:=aG hle;obtain⟨k,rfl⟩:∃j,k=j+1:=by
   refine⟨k-1, ?_⟩;rcases k with _|k
   ·rw[show m=20 by omega]at i2
    exfalso;omega
   omega
  have e:grow lm (k+1) n=grow lm k (2*n):=by
   conv=>lhs;unfold grow
   rw[if_pos (by omega)]
  refine cu ?_;refine az (t:=5) (v':=(DE DD (2*n:Nat))) rfl (by exact congrArg (Value.int .i64) (by omega)) ?_;refine Ro ((k,2*n)) (⟨⟨m+1,by omega,by rw[i2,ahD];omega⟩,by omega,by omega,i5.trans e⟩) ((by dsimp only;omega))
 intro hle;replace hle:=aG hle;have e:grow lm k n=n:=by
  rcases k with _|k
  ·rfl
  unfold grow;rw[if_neg (by omega)]
 rw[i5,e];refine cY ?_;refine Lp (oM (16) (16) CR λb2=> ?_);rw[Ba];refine aw ?_;refine Lp (oB λb3=> ?_);refine aY ?_;refine js [ag b3 154 (gV b (oD n) ⟨b2,none⟩),ag b2 149 (aV (aL (oD n).nb))] results61 ?_;exact⟨_,_,rfl,rfl⟩
theorem afu:(aaY.underlying 193).map (λd=>match d with| .func .. =>true|_=>false)=some true:=by kernel_rfl
theorem U5 (n:Nat):ij [DE DD 0] (n*1)=aE (aa2 n 0):=by
 rw[qM,Nat.mul_one];unfold aE;rw[ac7];rfl
def w7 (n:Nat):iA:=⟨aa2 n 0,0,0,0,0,false⟩
theorem ZN (b:Nat)(C:Cs)(K:Ok C)(f g h:Fn)(fa ga ha:Array Value):
  aK aaY 112 [DC b, .func f fa #[], .func g ga #[], .func h ha #[]] (In (Cl b C)) []
   (λv H=>∃a ub,v= .tuple #[DC a,DE DD 0]/\H= [nq a b ub (.func f fa #[]) (.func g ga #[]) (.func h ha #[]) (w7 C.ae.length),kO ub (w7 C.ae.length)]):=by
 have hl:=K.l1;unfold nq DI kO;refine af func112 rfl ntmps112 rfl ?_;intro F hc;refine cu ?_;refine zf 12 ?_ (e:=by rfl);refine aw ?_;refine Li (Fne HG) ?_;refine bn ?_;refine zf 16 ?_ (e:=by rfl);refine aw ?_;refine Li (Fne HF) ?_;refine bn ?_;refine zf 20 ?_ (e:=by rfl);refine aw ?_;refine Li (Fne afu) ?_;refine bO ?_;refine zl Aq (py b C) .nil (λ_ le _=>hc.mono le) ?_;refine Lp (oM (C.ae.length) (C.ae.length) gk λb1=> ?_);rw[U5];refine aw ?_;refine Lp (oB λb2=> ?_);refine aY ?_;refine js [ag b2 220 [DC b, .func f fa #[], .func g ga #[], .func h ha #[], .slice (some ⟨b1,0,none⟩) C.ae.length C.ae.length,DE DD 0,DE DD 0,DE DD 0,DE DD 0, .bool false],ag b1 3 (aE (aa2 C.ae.length 0))] results112 ?_;refine⟨b2,b1,rfl, ?_⟩;unfold w7;dsimp only;rw[ahl];rfl
theorem Vv (b q:Nat)(hot warm:Int)(h:¬(1<=hot/\1<=warm/\hot+warm<=90)):
  aK aaY 60 [DC b,DC q,DE DD hot,DE DD warm] vz []
   (λv H=>v= .tuple #[.pointer none,DE DD 1]/\H= []):=by
 refine af func60 rfl ntmps60 rfl ?_;intro F _;refine cu ?_;refine zf 12 ?_ (e:=by rfl);refine aY ?_;refine zf 16 ?_ (e:=by rfl);refine aY ?_;by_cases h1:hot<1
 ·refine zt 20 ?_ (e:=by exact decide_eq_true h1)
  refine cC ?_;refine aw ?_;refine js [] results60 ?_;exact⟨rfl,rfl⟩
 refine zf 20 ?_ (e:=by exact decide_eq_false h1);refine aY ?_;by_cases h2:warm<1
 ·refine zt 24 ?_ (e:=by exact decide_eq_true h2)
  refine rS ?_;refine js [] results60 ?_;exact⟨rfl,rfl⟩
 refine zf 24 ?_ (e:=by exact decide_eq_false h2);refine aY ?_;by_cases h3:90<hot
 ·refine zt 28 ?_ (e:=by exact decide_eq_true h3)
  refine gQ ?_;refine js [] results60 ?_;exact⟨rfl,rfl⟩
 refine zf 28 ?_ (e:=by exact decide_eq_false h3);refine bA ?_;refine eJ ?_;refine bA ?_;refine js [] results60 ?_;exact⟨rfl,rfl⟩
def Ab (p:tO):FV:= [DE DD p.b,DE DD p.l,DE DD p.c,DE DD p.m]
theorem ZM (c:oo)(pc:tO)(b q lu t:Nat)(C:Cs)(K:Ok C)(k:Ck)(hk:tS k)(bc:Nat):
  aK aaY 62 [.agg (jR c).toArray, .agg (Ab pc).toArray,DC b,DC q,DC lu,DC t, .agg #[DE DD k.now,DE DB bc,DE DB k.cut,DE DD k.ku]] (In (Cl b C)) []
   (λv H=>∃s ck wh cr mo ub,v= .tuple #[DC s,DE DD 0]/\H= [fC s ⟨b,ck,t,lu,wh,cr,mo,q⟩ (fm ⟨c,pc,0,0,⟨0,0,0,0,0,0,0⟩,none,0,0⟩),kS ck k,Wl wh [] 0,iH cr q wh C.ae.length (aZ s) (bG s) C ⟨0,false,0,0,none,0⟩,nq mo b ub (aZ s) (bG s) (du s) (w7 C.ae.length),kO ub (w7 C.ae.length)]):=by
 have k1:=hk.n1;have k2:=hk.n2;have k3:=hk.p;have k4:=hk.pn;have l0:=K.l0;have l1:=K.l1;unfold jR Ab fC;refine af func62 rfl ntmps62 rfl ?_;intro F hc;refine aw ?_;refine Lp (oB λb1=> ?_);refine Lp (oB λb2=> ?_);refine Lp (oB λb3=> ?_);refine bD ?_;refine Lp (oC Aq rfl rfl (WM k k1 k2 (by omega) (by omega)) .nil DA ?_);rintro v H' ⟨ck,rfl,rfl⟩;refine bS ?_;refine fu ?_;refine av ?_;refine iL 11 mix (.cons (.t2 .here) (.cons (.t2 .here) .nil)) λF1 jq bV aI=> ?_;obtain⟨q1,q2,_⟩:=bV;refine aY ?_;refine Tp (oC Aq rfl rfl (aaW) .nil DA ?_);rintro v H' ⟨wh,rfl,rfl⟩;refine bS ?_;refine aY ?_;refine az (t:=38) (v':=(.agg #[DC b,DC ck,DC t,DC lu,DC wh, .pointer none, .pointer none,DC q])) rfl (by rfl) ?_;refine az (t:=39) (v':=(.agg #[DE DD c.aj,DE DD c.pgs,DE DD c.fac,DE DD c.bE,DE DD c.lim,DE DD c.hot,DE DD c.warm])) rfl (by rfl) ?_;refine az (t:=40) (v':=(.agg #[DE DD pc.b,DE DD pc.l,DE DD pc.c,DE DD pc.m])) rfl (by rfl) ?_;refine aw ?_;refine az (t:=41) (v':=(.agg #[DC b,DC ck,DC t,DC lu,DC wh, .pointer none, .pointer none,DC q,DE DD c.aj,DE DD c.pgs,DE DD c.fac,DE DD c.bE,DE DD c.lim,DE DD c.hot,DE DD c.warm,DE DD pc.b,DE DD pc.l,DE DD pc.c,DE DD pc.m,DE DB 0,DE DD 0,DE DD 0,DE DD 0,DE DD 0,DE DD 0,DE DD 0,DE DD 0,DE DD 0, .slice none 0 0])) rfl (by(simp only[Value.cells,dq,List.set_cons_zero,List.set_cons_succ];first|rfl|done)) ?_;refine Tp (oB λb4=> ?_);refine gG aI ?_;refine bn ?_;refine av ?_;refine cG (ι:=Nat) (FZ [17,1,43,20]) (λcr=>True) (λcr=> [(17,DE DD 0),(18,DC b4)]) (λcr=> [ag b4 96 [DC b,DC ck,DC t,DC lu,DC wh,DC cr, .pointer none,DC q,DE DD c.aj,DE DD c.pgs,DE DD c.fac,DE DD c.bE,DE DD c.lim,DE DD c.hot,DE DD c.warm,DE DD pc.b,DE DD pc.l,DE DD pc.c,DE DD pc.m,DE DB 0,DE DD 0,DE DD 0,DE DD 0,DE DD 0,DE DD 0,DE DD 0,DE DD 0,DE DD 0, .slice none 0 0],iH cr q wh C.ae.length (aZ b4) (bG b4) C ⟨0,false,0,0,none,0⟩,Wl wh [] 0,kS ck k]) ?_ ?_
 ·refine yf mix .nil λF2 zU eP dE=> ?_
  refine Dt 0 rfl Mv ?_;refine Dt 1 rfl Mv ?_;refine Dt 2 rfl Mv ?_;refine Dt 3 rfl Nc ?_;refine Dt 4 rfl (Fa nN) ?_;refine Dt 5 rfl (Fa Fy) ?_;refine Dt 7 rfl Mv ?_;refine Dt 9 rfl Mv ?_;refine Dt 10 rfl Mf ?_;refine Dt 11 rfl Mv ?_;refine Dt 12 rfl Mf ?_;refine D2 6 8 ?_ ?_
  ·refine Do rfl (oL QU ?_)
   refine aw ?_;refine Dd 8 rfl (oZ (Aq (n:=69)) (py b C) .nil (λ_ le _=>(hc.mono zU).mono le) ?_);refine aw ?_;refine Dd 13 rfl (oC Aq rfl rfl (Lw q wh C.ae.length l0 l1 (.func 48) (.func 85) #[DC b4] #[] #[DC b4] #[] C) .nil DA ?_);rintro v H' ⟨cr,rfl,rfl⟩;refine bS ?_;refine aw ?_;refine Dt 14 rfl Mv ?_;refine Dt 15 rfl Ex ?_;refine Dt 16 rfl Ex ?_;refine Dt 17 rfl Nc ?_;refine Dt 18 rfl (Fa nN) ?_;refine Dt 19 rfl (Fa yU) ?_;refine Dd 20 rfl (oS Ed ?_);refine aw ?_;refine Dt 21 rfl As ?_;refine aQ (by kernel_rfl) dE ?_;refine Me (cr) (trivial)
  refine Do rfl (oZ (Aq (n:=69)) (py b C) .nil (λ_ le _=>(hc.mono zU).mono le) ?_);refine aw ?_;refine Dd 6 rfl (oL QU ?_);refine aw ?_;refine Dd 13 rfl (oC Aq rfl rfl (Lw q wh C.ae.length l0 l1 (.func 48) (.func 85) #[DC b4] #[] #[DC b4] #[] C) .nil DA ?_);rintro v H' ⟨cr,rfl,rfl⟩;refine bS ?_;refine aw ?_;refine Dt 14 rfl Mv ?_;refine Dt 15 rfl Ex ?_;refine Dt 16 rfl Ex ?_;refine Dt 17 rfl Nc ?_;refine Dt 18 rfl (Fa nN) ?_;refine Dt 19 rfl (Fa yU) ?_;refine Dd 20 rfl (oS Ed ?_);refine aw ?_;refine Dt 21 rfl As ?_;refine aQ (by kernel_rfl) dE ?_;refine Me (cr) (trivial)
 rintro cr hI;refine cL ?_;refine Li Mf ?_;refine aw ?_;refine Li Mf ?_;refine aw ?_;refine Li Mf ?_;refine Lp (oC Aq rfl rfl (ZN b C K (.func 48) (.func 85) (.func 113) #[DC b4] #[DC b4] #[DC b4]) .nil (λ_ le _=>hc.mono le) ?_);rintro v H' ⟨mo,ub,rfl,rfl⟩;refine bS ?_;refine cC ?_;refine bj ?_;refine js [ag b4 96 [DC b,DC ck,DC t,DC lu,DC wh,DC cr,DC mo,DC q,DE DD c.aj,DE DD c.pgs,DE DD c.fac,DE DD c.bE,DE DD c.lim,DE DD c.hot,DE DD c.warm,DE DD pc.b,DE DD pc.l,DE DD pc.c,DE DD pc.m,DE DB 0,DE DD 0,DE DD 0,DE DD 0,DE DD 0,DE DD 0,DE DD 0,DE DD 0,DE DD 0, .slice none 0 0],kS ck k,Wl wh [] 0,iH cr q wh C.ae.length (aZ b4) (bG b4) C ⟨0,false,0,0,none,0⟩,nq mo b ub (aZ b4) (bG b4) (du b4) (w7 C.ae.length),kO ub (w7 C.ae.length)] results62 ?_;exact⟨b4,ck,wh,cr,mo,ub,rfl,rfl⟩
def gu (c:oo)(pc:tO)(k:Ck):Mo:=
 ⟨dz c,none,aa2 ((dz c).ae.length*3) [],λ_=>⟨[],[],0,0,0,0,0⟩,λ_=>0,⟨0,false,0,0,none,0⟩,0,k,w7 (dz c).ae.length,16,0,nD (dz c),⟨c,pc,0,0,⟨0,0,0,0,0,0,0⟩,none,0,0⟩,[],0⟩
theorem U4{c:oo}(p:Nat):¬Live (dz c) p:=λL=>by
 have:=L.own;unfold Cs.pg dz at this;rw[aaZ,ac1]at this;split at this<;>cases this
theorem Hq (n i:Nat):ql (aa2 n []) i= []:=by
 unfold ql;rw[aaZ,ac1];split<;>rfl
theorem Ks{c:oo}(h:lH c=0)(pc:tO)(k:Ck)(hk:tS k)(nk:Nat):bM ⟨dz c,oD (nD (dz c)),⟨nk,none⟩,[]⟩ (gu c pc k):=by
 obtain⟨K,e1,e2,e3⟩:=C9 h;have l1:=K.l1;have al:(oD (nD (dz c))).all= []:=by unfold oD Tb.all;simp
 have hm:∃m,m<=20/\nD (dz c)=2^m/\16<=nD (dz c):=KT _ (by omega) 16 16 ⟨4,rfl,rfl⟩ (abc _);obtain⟨m,m1,m2,m3⟩:=hm;have pgE:∀i,(dz c).pg i= .no:=λi=>by
  unfold Cs.pg dz;rw[aaZ,ac1];split<;>rfl
 have qe:∀i p,p∈ql (gu c pc k).Q i->False:=λi p hp=>by
  rw[show(gu c pc k).Q=aa2 ((dz c).ae.length*3) []from rfl,Hq]at hp;cases hp
 refine⟨rfl,K,ZG ⟨m,m1,m2⟩ m3,λ_=>rfl,⟨?_,λi p hp=>(qe i p hp).elim,λi p hp=>(qe i p hp).elim,λi p hp=>(qe i p hp).elim,λi=> ?_,λi k hk=> ?_,λi k hk=> ?_⟩,⟨?_, ?_, ?_, ?_⟩,λi p hp=>(qe i p hp).elim,hk,λp=> ?_,λp=> ?_, ?_, ?_, ?_,(λh=>by cases h),rfl,rfl,rfl, ?_, ?_, ?_,λi hi=> ?_,rfl,rfl,rfl,λp hp=> ?_⟩
 ·exact ahl
 ·rw[show(gu c pc k).Q=aa2 ((dz c).ae.length*3) []from rfl,Hq];exact ah9
 ·exact(qe i _ (abe hk)).elim
 ·exact(qe i _ (abe hk)).elim
 ·intro h;cases h
 ·intro _;exact⟨rfl,rfl,rfl,rfl⟩
 ·intro p h;cases h
 ·exact abn _
 ·constructor
  ·intro h;dsimp only at h;rw[al]at h;cases h
  rintro⟨i,hi⟩;exact(qe i p hi).elim
 ·constructor
  ·intro h;exact(U4 p h).elim
  rintro(h|h)
  ·dsimp only at h;rw[al]at h;cases h
  cases h
 ·intro p h;cases h
 ·intro p hp;dsimp only at hp;rw[al]at hp;cases hp
 ·unfold iQ;dsimp only;rw[al];exact List.Perm.refl _
 ·dsimp only;rw[al];rfl
 ·exact ahl
 ·intro h;cases h
 ·dsimp only at hi;rw[pgE]at hi;cases hi
 dsimp only at hp;rw[al]at hp;cases hp
theorem ad6{c:oo}{pc:tO}{k:Ck}{s b ck t lu wh cr mo q qb ub nk:Nat}{hot warm:Nat}(h:lH c=0)(hk:tS k){H:Dz}:∀h,ai ([Cl b (dz c),ag t 154 (gV b (oD (nD (dz c))) ⟨nk,none⟩),ag nk 149 (aV (aL (oD (nD (dz c))).nb)),ag q 182 (iF b qb (dz c).ae.length),ag qb 333 ((aa2 ((dz c).ae.length*3) []).flatMap (di (dz c))),iH cr q wh (dz c).ae.length (aZ s) (bG s) (dz c) ⟨0,false,0,0,none,0⟩,Wl wh [] 0,fC s ⟨b,ck,t,lu,wh,cr,mo,q⟩ (fm ⟨c,pc,0,0,⟨0,0,0,0,0,0,0⟩,none,0,0⟩),kS ck k,og lu b q hot warm,nq mo b ub (aZ s) (bG s) (du s) (w7 (dz c).ae.length),kO ub (w7 (dz c).ae.length)]++H) h->ai (SW ⟨s,⟨b,ck,t,lu,wh,cr,mo,q⟩,qb,ub,hot,warm⟩ (gu c pc k)::H) h:=λh0 s0=>
 hZ none 0 h0 (aD (B:=⟨dz c,oD (nD (dz c)),⟨nk,none⟩,[]⟩) (Ks h pc k hk nk) h0 (by
  unfold eh;dsimp only[List.cons_append,List.nil_append];refine aJ (λ_ s=>aJ (λ_ s=>aJ (λ_ s=>gB (λ_=>trivial) (aJ (λ_ s=>aJ (λ_ s=>aJ (λ_ s=>aJ (λ_ s=>aJ (λ_ s=>aJ (λ_ s=>aJ (λ_ s=>aJ (λ_ s=>aJ (λ_ s=>gB (λk=>C7 _ _ k) s) s) s) s) s) s) s) s) s) s)) s) s) s0))
def abJ (p:tO):Bool:=decide ((0<=p.b/\p.b<=1048576)/\(0<=p.l/\p.l<=1048576)/\(0<=p.c/\p.c<=1048576)/\(0<=p.m/\p.m<=1048576))
def sM (c:oo)(p:tO):Int:=if lH c=0 then if 1<=c.hot/\1<=c.warm/\c.hot+c.warm<=90 then if abJ p=true then 0 else 1 else 1 else lH c
theorem ag7:BQ aaY 119=some (4,3,1):=by kernel_rfl
theorem E5 (c:oo)(pc:tO):aK aaY 22 [.agg (jR c).toArray, .agg (Ab pc).toArray] vz []
  (λv H=>(sM c pc≠0/\v= .tuple #[.pointer none,DE DD (sM c pc)]/\H= [])\/(sM c pc=0/\∃z:Ly,z.hot=c.hot.toNat/\z.warm=c.warm.toNat/\z.hot<=90/\z.warm<=90/\v= .tuple #[DC z.s,DE DD 0]/\H= [SW z (gu c pc ⟨1,0,0⟩)])):=by
 unfold Ab;refine af func22 rfl ntmps22 rfl ?_;intro F _;refine aw ?_;refine Lp (oB λb1=> ?_);refine Lp (oB λb2=> ?_);refine ba ?_;refine Lp (oC Aq rfl rfl (aaJ c) .nil DA ?_);rintro v H' hr;refine bS ?_;rcases hr with⟨h1,rfl,rfl⟩|⟨h1,b,rfl,rfl⟩
 ·refine Li Mv ?_
  refine bD ?_;refine eJ ?_ (e:=by exact congrArg (!·) (decide_eq_false h1));refine bL ?_;refine js [] results22 ?_;exact .inl (by unfold sM;rw[if_neg h1];exact⟨h1,rfl,rfl⟩)
 refine Li Mv ?_;refine bO ?_;obtain⟨K,e1,e2,e3⟩:=C9 h1;refine aY ?_;refine Lp (oC Aq rfl rfl (Zd b (dz c) K) .nil (λ_ le au=>au.1) ?_);rintro v H' ⟨q,qb,rfl,rfl⟩;refine bS ?_;refine cC ?_;refine aw ?_;by_cases h2:1<=c.hot/\1<=c.warm/\c.hot+c.warm<=90
 ·obtain⟨hot,hh⟩:∃n:Nat,c.hot=n:=⟨c.hot.toNat,by omega⟩
  obtain⟨warm,hw⟩:∃n:Nat,c.warm=n:=⟨c.warm.toNat,by omega⟩;refine az (t:=33) (v':=(DE DD hot)) rfl (by exact congrArg (Value.int .i64) hh) ?_;refine az (t:=35) (v':=(DE DD warm)) rfl (by exact congrArg (Value.int .i64) hw) ?_;refine Lp (oC Aq rfl rfl (Z3 b q hot warm (by omega) (by omega) (by omega)) .nil DA ?_);rintro v H' ⟨lu,rfl,rfl⟩;refine bS ?_;refine cC ?_;refine aY ?_;refine Li (Bda adY ahb) ?_;refine bj ?_;refine Lo (ι:=Nat) (FZ [4,2,11,1,51,10]) (λi=>i<=4/\∀j,j<i->∃z:Int,[pc.b,pc.l,pc.c,pc.m][j]?=some z/\0<=z/\z<=1048576) (λi=> [(51,DE DD i)]) (λi=> [og lu b q hot warm,ag q 182 (iF b qb (dz c).ae.length),ag qb 333 ((aa2 ((dz c).ae.length*3) []).flatMap (di (dz c))),Cl b (dz c),ag b2 23 [DE DD pc.b,DE DD pc.l,DE DD pc.c,DE DD pc.m],ag b1 29 (jR c)]) (λi=>4-i) (0) ⟨abn _,λj h=>absurd h (Nat.not_lt_zero j)⟩ ?_;rintro i ⟨i1,i2⟩;refine bj ?_;refine av ?_;refine aA rfl ?_ ?_
  ·intro hi
   replace hi:=aG hi;have hi4:i<4:=by omega
   obtain⟨z,hz⟩:∃z,[pc.b,pc.l,pc.c,pc.m][i]?=some z:=⟨_,aa0 (by simpa using hi4)⟩;have LL:([DE DD pc.b,DE DD pc.l,DE DD pc.c,DE DD pc.m]:FV)[i]?=some (DE DD z):=by
    have:([DE DD pc.b,DE DD pc.l,DE DD pc.c,DE DD pc.m]:FV)= [pc.b,pc.l,pc.c,pc.m].map (Value.int .i64):=rfl;rw[this,abf,hz];rfl
   refine ba ?_;refine Li (Ias ag7 bz (j:=i) (cs:= [DE DD pc.b,DE DD pc.l,DE DD pc.c,DE DD pc.m]) (v:=DE DD z)) ?_;refine bA ?_;have bad:¬(0<=z/\z<=1048576)->sM c pc=1:=λh=>by
    unfold sM;rw[if_pos h1,if_pos h2,if_neg];intro e;obtain⟨p1,p2,p3,p4⟩:=of_decide_eq_true e;rcases i with _|_|_|_|i
    ·cases hz;exact h p1
    ·cases hz;exact h p2
    ·cases hz;exact h p3
    ·cases hz;exact h p4
    omega
   by_cases z0:z<0
   ·refine zt 56 ?_ (e:=by exact decide_eq_true z0)
    refine kT ?_;refine js [] results22 ?_;exact .inl (by rw[bad (by omega)];exact⟨by decide,rfl,rfl⟩)
   refine zf 56 ?_ (e:=by exact decide_eq_false z0);refine aY ?_;by_cases z1:1048576<z
   ·refine eJ ?_ (e:=by exact decide_eq_true z1)
    refine bD ?_;refine js [] results22 ?_;exact .inl (by rw[bad (by omega)];exact⟨by decide,rfl,rfl⟩)
   refine cM ?_ (e:=by exact decide_eq_false z1);refine bA ?_;refine aB ?_;refine Ro (i+1) (⟨by omega,λj hj=> ?_⟩) ((by omega));by_cases hji:j=i
   ·subst hji;exact⟨z,hz,by omega,by omega⟩
   exact i2 j (by omega)
  intro hi;replace hi:=aG hi;obtain rfl:i=4:=by omega
  have hp:abJ pc=true:=by
   obtain⟨z0,a0,b0⟩:=i2 0 (by decide);obtain⟨z1,a1,b1⟩:=i2 1 (by decide);obtain⟨z2,a2,b2⟩:=i2 2 (by decide);obtain⟨z3,a3,b3⟩:=i2 3 (by decide);cases a0;cases a1;cases a2;cases a3;exact decide_eq_true ⟨b0,b1,b2,b3⟩
  have h0:sM c pc=0:=by unfold sM;rw[if_pos h1,if_pos h2,if_pos hp]
  refine bL ?_;refine Lp (oC Aq rfl rfl (YL b (dz c) K) .nil (λ_ le au=>au.2.2.2.1) ?_);rintro v H' ⟨t,nk,rfl,rfl⟩;refine bS ?_;refine cC ?_;refine bn ?_;refine Lp (oC Aq rfl rfl (ZM c pc b q lu t (dz c) K ⟨1,0,0⟩ ⟨abc _,by decide,by decide,λh=>absurd rfl h,by decide⟩ 0) .nil (λ_ le au=>au.2.2.2.2.2.1) ?_);rintro v H' ⟨s,ck,wh,cr,mo,ub,rfl,rfl⟩;refine bS ?_;refine bA ?_;refine Hh (H':= [Cl b (dz c),ag t 154 (gV b (oD (nD (dz c))) ⟨nk,none⟩),ag nk 149 (aV (aL (oD (nD (dz c))).nb)),ag q 182 (iF b qb (dz c).ae.length),ag qb 333 ((aa2 ((dz c).ae.length*3) []).flatMap (di (dz c))),iH cr q wh (dz c).ae.length (aZ s) (bG s) (dz c) ⟨0,false,0,0,none,0⟩,Wl wh [] 0,fC s ⟨b,ck,t,lu,wh,cr,mo,q⟩ (fm ⟨c,pc,0,0,⟨0,0,0,0,0,0,0⟩,none,0,0⟩),kS ck ⟨1,0,0⟩,og lu b q hot warm,nq mo b ub (aZ s) (bG s) (du s) (w7 (dz c).ae.length),kO ub (w7 (dz c).ae.length),ag b2 23 [DE DD pc.b,DE DD pc.l,DE DD pc.c,DE DD pc.m],ag b1 29 (jR c)]) ?_;refine ay (ad6 (k:=⟨1,0,0⟩) (pc:=pc) h1 ⟨abc _,by decide,by decide,λh=>absurd rfl h,by decide⟩) ?_;refine js [SW ⟨s,⟨b,ck,t,lu,wh,cr,mo,q⟩,qb,ub,hot,warm⟩ (gu c pc ⟨1,0,0⟩)] results22 ?_;exact .inr ⟨h0,⟨s,⟨b,ck,t,lu,wh,cr,mo,q⟩,qb,ub,hot,warm⟩,by dsimp only;omega,by dsimp only;omega,by dsimp only;omega,by dsimp only;omega,rfl,rfl⟩
 refine zl Aq (Vv b q c.hot c.warm h2) .nil DA ?_;refine BV ?_;refine js [] results22 ?_;exact .inl (by unfold sM;rw[if_pos h1,if_neg h2];exact⟨by decide,rfl,rfl⟩)
def kC:tO:=⟨8,3,4,2⟩
theorem ae5 (c:oo):aK aaY 63 [.agg (jR c).toArray] vz []
  (λv H=>(sM c kC≠0/\v= .tuple #[.pointer none,DE DD (sM c kC)]/\H= [])\/(sM c kC=0/\∃z:Ly,z.hot=c.hot.toNat/\z.warm=c.warm.toNat/\z.hot<=90/\z.warm<=90/\v= .tuple #[DC z.s,DE DD 0]/\H= [SW z (gu c kC ⟨1,0,0⟩)])):=by
 refine af func63 rfl ntmps63 rfl ?_;intro F _;refine aw ?_;refine Lp (oB λb1=> ?_);refine bA ?_;refine Lp (oC Aq rfl rfl (E5 c kC) .nil DA ?_);rintro v H' hr;refine bS ?_;rcases hr with⟨h1,rfl,rfl⟩|⟨h1,z,z1,z2,z3,z4,rfl,rfl⟩
 ·refine Li Ex ?_
  refine ba ?_;refine js [] results63 ?_;exact .inl ⟨h1,rfl,rfl⟩
 refine Li Ex ?_;refine ba ?_;refine js [SW z (gu c kC ⟨1,0,0⟩)] results63 ?_;exact .inr ⟨h1,z,z1,z2,z3,z4,rfl,rfl⟩
end Go.Proofs.YtcbcjolpdljbiaaGreat
