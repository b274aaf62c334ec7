/- Part Pm of the proof. -/
import Derived.Test.YtcbcjolpdljbiaaGreatPc1
import Derived.Test.YtcbcjolpdljbiaaGreatPd
import Derived.Test.YtcbcjolpdljbiaaGreatPe
import Derived.Test.YtcbcjolpdljbiaaGreatPl
set_option maxRecDepth 100000
open Go.Proofs.YtcbcjolpdljbiaaGreat.T
open Nat renaming le_refl -> aa0, zero_le -> afk, mul_le_mul -> afG, pow_le_pow_right -> afX, mul_comm -> afS, pow_succ -> af9
open List renaming length_append -> aaZ, mem_cons -> aa5, mem_singleton -> afq, not_mem_nil -> agh, replicate -> aaS, getElem?_map -> aa6, getElem?_replicate -> afD, getElem?_eq_getElem -> aaQ, flatMap_def -> ai8, map_replicate -> afK, getElem?_eq_none -> aa7, replicate_succ -> ajl, getD_eq_getElem?_getD -> aaP, length_replicate -> afQ, eq_of_mem_replicate -> agc, nodup_nil -> ai3, flatten_cons -> ajR, getElem_mem -> aa4
open Int renaming natCast_mul -> ajC
open Decidable renaming byContradiction -> aa2
open Go.Proofs.Tryz renaming prog -> aaO
open Go.Proofs.Tryz
open Go.Value renaming int -> CO
open Go.IntKind renaming i64 -> CN, u64 -> CJ, u8 -> akN
namespace Go.Proofs.YtcbcjolpdljbiaaGreat
open Go Go.dG Go.Proofs.YtcbcjolpdljbiaaGreat.Cs
def FJ (n:Int):Int:=IntKind.i64.wrap (BitVec.ofInt 64 n&&&BitVec.ofInt 64 (n-1)).toNat
def jQ (c:nZ):Bool:=decide (4096<=c.aj/\c.aj<=1048576/\FJ c.aj=0/\1<=c.pgs/\c.pgs<=1024/\105<=c.fac/\c.fac<=400/\64<=c.bj/\c.bj<=512/\c.bj % 8=0/\c.bj<=c.lim/\c.lim<=c.aj)
theorem S4 (c:nZ):aO aaO 105 [.agg (jN c).toArray] (λ_=>True) [] (λv H=>v= .bool (jQ c)/\H= []):=by
 unfold jN;have ok:∀b,(b=true↔(4096<=c.aj/\c.aj<=1048576/\FJ c.aj=0/\1<=c.pgs/\c.pgs<=1024/\105<=c.fac/\c.fac<=400/\64<=c.bj/\c.bj<=512/\c.bj % 8=0/\c.bj<=c.lim/\c.lim<=c.aj))->Value.bool b= .bool (jQ c):=λb h=>congrArg Value.bool (by
  unfold jQ;rw[Bool.eq_iff_iff,h,decide_eq_true_eq])
 refine ag func105 rfl ntmps105 rfl ?_;intro F _;refine av ?_;refine Lp (oB λb1=> ?_);refine bA ?_;refine aw ?_;refine dt (ι:=Unit) [3,4,5,6,7,8,9,10,11,12,13,14,15,16,17,18,19,20,21,22,23,24,25,26,27,28,29,2] (λu=>4096<=c.aj/\c.aj<=1048576/\FJ c.aj=0/\1<=c.pgs/\c.pgs<=1024) (λu=> []) (λu=> [af b1 29 [CO CN c.aj,CO CN c.pgs,CO CN c.fac,CO CN c.bj,CO CN c.lim,CO CN c.hot,CO CN c.warm]]) ?_ ?_
 ·refine gK ?_
  refine bm ?_;refine br (t:=6) rfl ?_ ?_
  ·intro dQ
   replace dQ:=aS dQ;refine cC ?_;refine bM ?_;refine Rt [] results105 ?_;exact⟨ok _ ⟨(λh=>by cases h),λh=>by exfalso;first|omega|(simp_all;done)⟩,rfl⟩
  intro dQ;replace dQ:=aS dQ;refine bE ?_;refine br (t:=11) rfl ?_ ?_
  ·intro ee
   replace ee:=aS ee;refine cC ?_;refine bE ?_;refine Rt [] results105 ?_;exact⟨ok _ ⟨(λh=>by cases h),λh=>by exfalso;first|omega|(simp_all;done)⟩,rfl⟩
  intro ee;replace ee:=aS ee;refine bG ?_;refine ay (t:=17) (v':=(CO CN (FJ c.aj))) rfl (by(first|rfl|(refine congrArg (Value.int .i64) ?_;unfold FJ;rw[wrap_i64 (by omega)];rfl))) ?_;refine Li (Cm) ?_;refine bA ?_;refine br (t:=20) rfl ?_ ?_
  ·intro ed
   replace ed:=aS ed;refine rj ?_;refine Rt [] results105 ?_;exact⟨ok _ ⟨(λh=>by cases h),λh=>by exfalso;first|omega|(simp_all;done)⟩,rfl⟩
  intro ed;replace ed:=aS ed;refine bE ?_;refine br (t:=25) rfl ?_ ?_
  ·intro cS
   replace cS:=aS cS;refine bW ?_;refine Rt [] results105 ?_;exact⟨ok _ ⟨(λh=>by cases h),λh=>by exfalso;first|omega|(simp_all;done)⟩,rfl⟩
  intro cS;replace cS:=aS cS;refine bE ?_;refine aE rfl ?_ ?_
  ·intro dY
   replace dY:=aS dY;refine bE ?_;refine Rt [] results105 ?_;exact⟨ok _ ⟨(λh=>by cases h),λh=>by exfalso;first|omega|(simp_all;done)⟩,rfl⟩
  intro dY;replace dY:=aS dY;refine av ?_;refine Me (()) ((by refine⟨?_, ?_, ?_, ?_, ?_⟩<;>omega))
 rintro u hI;refine bG ?_;refine br (t:=33) rfl ?_ ?_
 ·intro dQ
  replace dQ:=aS dQ;refine bW ?_;refine Rt [] results105 ?_;refine⟨ok _ ?_,rfl⟩
  first|exact⟨(λh=>by cases h),λh=>by exfalso;omega⟩|(rw[decide_eq_true_eq];constructor<;>intro h<;>omega)
 intro dQ;replace dQ:=aS dQ;refine bE ?_;refine aE rfl ?_ ?_
 ·intro ee
  replace ee:=aS ee;refine bE ?_;refine Rt [] results105 ?_;refine⟨ok _ ?_,rfl⟩
  first|exact⟨(λh=>by cases h),λh=>by exfalso;omega⟩|(rw[decide_eq_true_eq];constructor<;>intro h<;>omega)
 intro ee;replace ee:=aS ee;refine dm ?_;refine br (t:=41) rfl ?_ ?_
 ·intro ed
  replace ed:=aS ed;refine ri ?_;refine Rt [] results105 ?_;refine⟨ok _ ?_,rfl⟩
  first|exact⟨(λh=>by cases h),λh=>by exfalso;omega⟩|(rw[decide_eq_true_eq];constructor<;>intro h<;>omega)
 intro ed;replace ed:=aS ed;refine bE ?_;refine br (t:=46) rfl ?_ ?_
 ·intro cS
  replace cS:=aS cS;refine dB ?_;refine Rt [] results105 ?_;refine⟨ok _ ?_,rfl⟩
  first|exact⟨(λh=>by cases h),λh=>by exfalso;omega⟩|(rw[decide_eq_true_eq];constructor<;>intro h<;>omega)
 intro cS;replace cS:=aS cS;refine bA ?_;refine Li (Im) ?_;refine ay (t:=49) (v':=(CO CN (c.bj % 8))) rfl (by exact congrArg (Value.int .i64) (Int.tmod_eq_emod_of_nonneg (by omega))) ?_;refine bz ?_;refine aE rfl ?_ ?_
 ·intro dY
  replace dY:=aS dY;refine bE ?_;refine Rt [] results105 ?_;refine⟨ok _ ?_,rfl⟩
  first|exact⟨(λh=>by cases h),λh=>by exfalso;omega⟩|(rw[decide_eq_true_eq];constructor<;>intro h<;>omega)
 intro dY;replace dY:=aS dY;refine cA ?_;refine br (t:=57) rfl ?_ ?_
 ·intro jI
  replace jI:=aS jI;refine cA ?_;refine Rt [] results105 ?_;refine⟨ok _ ?_,rfl⟩
  first|exact⟨(λh=>by cases h),λh=>by exfalso;omega⟩|(rw[decide_eq_true_eq];constructor<;>intro h<;>omega)
 intro jI;replace jI:=aS jI;refine cA ?_;refine Rt [] results105 ?_;refine⟨ok _ ?_,rfl⟩
 first|exact⟨(λh=>by cases h),λh=>by exfalso;omega⟩|(rw[decide_eq_true_eq];constructor<;>intro h<;>omega)
def mC (fac last:Nat):Nat->Nat->List Nat
 |0,n=> [n]
 |k+1,n=>if last<=n then [n]else n::mC fac last k (min last ((n*fac+799)/800*8))
def gm (c:nZ):Nat:=(c.lim.toNat+7)/8*8
def bH (c:nZ):List Nat:=mC c.fac.toNat (gm c) 62 c.bj.toNat
theorem tq (fac last:Nat):∀k n,1<=(mC fac last k n).length/\(mC fac last k n).length<=k+1
 |0,n=>⟨aa0 _,aa0 _⟩
 |k+1,n=>by
  unfold mC
  split
  ·exact⟨aa0 _,by simp⟩
  obtain⟨h1,h2⟩:=tq fac last k (min last ((n*fac+799)/800*8));rw[List.length_cons];omega
theorem SG (c:nZ)(hr:jQ c=true):aO aaO 106 [.agg (jN c).toArray] (λ_=>True) [] (λv H=>∃a cc,v= .slice a (bH c).length cc/\H= [own a cc 3 1 (aA (bH c))]):=by
 have hr:=of_decide_eq_true hr;obtain⟨h1,h2,h3,h4,h5,h6,h7,h8,h9,V5,h11,AW⟩:=hr;obtain⟨fac,hf⟩:∃f:Nat,c.fac=f:=⟨c.fac.toNat,by omega⟩;obtain⟨bj,hm⟩:∃f:Nat,c.bj=f:=⟨c.bj.toNat,by omega⟩;obtain⟨lim,hl⟩:∃f:Nat,c.lim=f:=⟨c.lim.toNat,by omega⟩;have hs:bH c=mC fac (gm c) 62 bj:=by unfold bH;rw[hf,hm];rfl
 have hla:gm c=(lim+7)/8*8:=by unfold gm;rw[hl];rfl
 have hlb:gm c<=1048583:=by omega
 unfold jN;rw[hf,hm,hl,hs];rw[hf]at h6 h7;rw[hm]at h8 h9;refine ag func106 rfl ntmps106 rfl ?_;intro F _;refine av ?_;refine Lp (oB λb1=> ?_);refine bA ?_;refine YA ?_;refine bm ?_;refine ay (t:=8) (v':=(CO CN (lim+7:Nat))) rfl (by exact congrArg (Value.int .i64) rfl) ?_;refine Li (Qu (q:=8)) ?_;refine av ?_;refine ay (t:=10) (v':=(CO CN ((lim+7)/8*8:Nat))) rfl (by exact congrArg (Value.int .i64) (by omega)) ?_;refine bE ?_;refine Lp (oT fU λb2=> ?_);refine bA ?_;refine aw ?_;refine YC ?_;refine bz ?_;refine ay (t:=3) (v':=(CO CN (gm c))) rfl (by exact congrArg (Value.int .i64) (by rw[hla])) ?_;generalize hL:gm c=L at*;refine au (λk s=>bB (λh p=>oP p 1 1 rfl (by decide)) s) ?_;refine Lo (ι:=List Nat×Nat×Option Addr×Nat) [14,15,16,17,18,19,5,21,22,23,20,24,25,26,27,28,29,30,31,32,33,34,35,36,37,38,4] (λs=>(s.1.length<=62/\s.2.1<=1048583/\64<=s.2.1)/\mC fac L 62 bj=s.1++mC fac L (62-s.1.length) s.2.1) (λs=> [(4, .slice s.2.2.1 (s.1.length+1) s.2.2.2)]) (λs=> [af b1 29 [CO CN c.aj,CO CN c.pgs,CO CN fac,CO CN bj,CO CN lim,CO CN c.hot,CO CN c.warm],own s.2.2.1 s.2.2.2 3 1 (aA (s.1++ [s.2.1]))]) (λs=>62-s.1.length) (([],bj,some ⟨b2,0,none⟩,1)) ⟨⟨afk _,by dsimp only;omega,by dsimp only;omega⟩,rfl⟩ ?_;rintro⟨l,n,a,cc⟩ hI;dsimp only at hI⊢;obtain⟨⟨i1,i2,i3⟩,i4⟩:=hI;have w7:(aA (l++ [n]))[l.length]?=some (CO CN n):=by unfold aA;rw[List.map_append,List.getElem?_append_right (by simp)];simp
 have hnl:(aA (l++ [n])).length=l.length+1:=by unfold aA;simp
 refine kT (gp (.there .here) (λ_ o=>kD o (by rw[hnl];omega))) λOf=> ?_;refine bG ?_;refine ay (t:=17) (v':=(CO CN l.length)) rfl (by exact congrArg (Value.int .i64) (by omega)) ?_;refine Li (Ix ja (j:=l.length)) ?_;refine bz ?_;refine aw ?_;by_cases abq:L<=n\/62<=l.length
 ·have he:mC fac L (62-l.length) n= [n]:=by
   rcases abq with h|h
   ·rcases hk:62-l.length with _|k
    ·rfl
    unfold mC;rw[if_pos h]
   rw[show 62-l.length=0 by omega];rfl
  rw[he]at i4;by_cases FA:L<=n
  ·refine qD ?_
   refine bR ?_;refine eU ?_;refine bA ?_;refine eU ?_;refine dB ?_;refine vT ?_;refine Rt [own a cc 3 1 (aA (l++ [n]))] results106 ?_;exact⟨a,cc,by rw[i4,aaZ];rfl,by rw[i4]⟩
  refine qD ?_;refine bR ?_;refine cO ?_;refine bG ?_;refine eU ?_;refine dB ?_;refine vT ?_;refine Rt [own a cc 3 1 (aA (l++ [n]))] results106 ?_;exact⟨a,cc,by rw[i4,aaZ];rfl,by rw[i4]⟩
 obtain⟨k,hk⟩:∃k,62-l.length=k+1:=⟨61-l.length,by omega⟩;have he:mC fac L (62-l.length) n=n::mC fac L (62-(l.length+1)) (min L ((n*fac+799)/800*8)):=by
  rw[hk,show 62-(l.length+1)=k by omega]
  conv=>lhs;unfold mC
  rw[if_neg (by omega)]
 rw[he]at i4;have hnf:n*fac<=1048583*400:=afG i2 (by omega);have hnf2:64*105<=n*fac:=afG i3 (by omega);refine dm ?_;refine cO ?_;refine bG ?_;refine cO ?_;refine bM ?_;refine ay (t:=32) (v':=(CO CN (n*fac:Nat))) rfl (by exact congrArg (Value.int .i64) (by first|rfl|(rw[<-ajC];exact wrap_i64 (by omega)))) ?_;generalize n*fac=nf at*;refine av ?_;refine ay (t:=33) (v':=(CO CN (nf+799:Nat))) rfl (by exact congrArg (Value.int .i64) rfl) ?_;refine Li (Qu (q:=800)) ?_;refine av ?_;refine Li Mi ?_;refine ay (t:=36) (v':=(CO CN (min L ((nf+799)/800*8):Nat))) rfl (by exact congrArg (Value.int .i64) (by omega)) ?_;generalize VH:min L ((nf+799)/800*8)=mn at*;refine Lp (oT fU λb3=> ?_);refine Lp (bT fU pK rfl rfl rfl rfl (.there .here) (by simp[aA]) (rfl) (by simp[Value.oneCell']) (by first|omega|(simp;omega)) (by first|omega|(simp;omega)) rfl λa2 c2 rB=> ?_);refine bz ?_;rw[show aA (l++ [n])++ [Value.int .i64 (mn:Int)]=aA ((l++ [n])++ [mn]) by rw[gy _ [mn]];rfl,show l.length+1=(l++ [n]).length by simp];have CS:(l++ [n]).length=l.length+1:=by simp
 have hi4:mC fac L 62 bj=(l++ [n])++mC fac L (62-(l++ [n]).length) mn:=by rw[i4,CS,List.append_assoc];rfl
 generalize l++ [n]=l2 at*;refine Ro ((l2,mn,a2,c2)) (⟨⟨(by dsimp only;omega),(by dsimp only;omega),(by dsimp only;omega)⟩,hi4⟩) ((by dsimp only;omega))
theorem acU{n:Nat}(h1:1<=n)(h2:n<4294967296)(h:FJ n=0):n&&&(n-1)=0:=by
 unfold FJ at h;have e1:(BitVec.ofInt 64 (n:Int)).toNat=n:=by rw[BitVec.toNat_ofInt];omega
 have e2:(BitVec.ofInt 64 ((n:Int)-1)).toNat=n-1:=by rw[BitVec.toNat_ofInt];omega
 rw[BitVec.toNat_and,e1,e2]at h;have h3:n&&&(n-1)<=n:=Nat.and_le_left;generalize n&&&(n-1)=x at*;simp[IntKind.wrap,IntKind.bits,IntKind.signed]at h;omega
theorem acT{n:Nat}(h1:1<=n)(h:n&&&(n-1)=0):n=2^n.log2:=by
 have l1:=Nat.log2_self_le (n:=n) (by omega);have l2:=Nat.lt_log2_self (n:=n);refine aa2 λg=> ?_;have bit:∀x,2^n.log2<=x->x<2^(n.log2+1)->x.testBit n.log2=true:=λx a b=>by
  obtain⟨i,hi,ht⟩:=Nat.exists_ge_and_testBit_of_ge_two_pow a;have:i=n.log2:=by
   refine aa2 λe=> ?_;have h3:x<2^i:=Nat.lt_of_lt_of_le b (afX (by decide) (by omega));rw[Nat.testBit_lt_two_pow h3]at ht;cases ht
  rw[<-this];exact ht
 have b1:=bit n l1 l2;have b2:=bit (n-1) (by omega) (by omega);have:(n&&&(n-1)).testBit n.log2=true:=by rw[Nat.testBit_and,b1,b2];rfl
 rw[h]at this;simp at this
def Vy:List Nat:= [4096,8192,16384,32768,65536,131072,262144,524288,1048576]
theorem ahU{n:Nat}(h1:4096<=n)(h2:n<=1048576)(h:FJ n=0):n∈Vy:=by
 have e:=acT (by omega) (acU (by omega) (by omega) h);have k1:12<=n.log2:=by
  refine aa2 λg=> ?_;have:=afX (n:=2) (by decide) (show n.log2<=11 by omega);omega
 have k2:n.log2<=20:=by
  refine aa2 λg=> ?_;have:=afX (n:=2) (by decide) (show 21<=n.log2 by omega);omega
 rw[e];generalize n.log2=k at*;have:k=12\/k=13\/k=14\/k=15\/k=16\/k=17\/k=18\/k=19\/k=20:=by omega
 rcases this with rfl|rfl|rfl|rfl|rfl|rfl|rfl|rfl|rfl<;>decide
theorem LL (n:Nat):aO aaO 218 [CO CJ n] (λ_=>True) [] (λv H=>(∃z:Int,v=CO CN z/\(n∈Vy->z=1))/\H= []):=by
 refine ag func218 rfl ntmps218 rfl ?_;intro F _;refine bE ?_;refine Li (Sr 1) ?_;refine dm ?_;refine Li (Sr 2) ?_;refine dm ?_;refine Li (Sr 4) ?_;refine dm ?_;refine Li (Sr 8) ?_;refine bG ?_;refine Li (Sr 16) ?_;refine bG ?_;refine Li (Sr 32) ?_;refine bM ?_;refine Rt [] results218 ?_;refine⟨⟨_,rfl,λh=> ?_⟩,rfl⟩;simp only[Vy,aa5,afq,agh,or_false]at h;rcases h with rfl|rfl|rfl|rfl|rfl|rfl|rfl|rfl|rfl<;>decide+kernel
theorem xK{z:List Value}(n k:Nat)(hk:k=n*z.length):hU z k=(aaS n z).flatten:=by
 subst hk;rcases Nat.eq_zero_or_pos z.length with h0|h0
 ·rw[List.eq_nil_of_length_eq_zero h0];simp[hU]
 apply List.ext_getElem?;intro i;have e:((aaS n z).flatten).length=n*z.length:=by simp
 by_cases hi:i<n*z.length
 ·have q:i/z.length<n:=(Nat.div_lt_iff_lt_mul h0).2 hi
  have r:i % z.length<z.length:=Nat.mod_lt _ h0;unfold hU;rw[aa6,List.getElem?_range hi];have:=bo (f:=λ_:Unit=>z) (k:=z.length) (λ_=>rfl) (l:=aaS n ()) (i:=i/z.length) (a:=()) (by rw[afD,if_pos q]) (j:=i % z.length) (v:=z[i % z.length]) (aaQ r);rw[Option.map_some,aaQ r];rw[show i/z.length*z.length+i % z.length=i from by rw[afS];exact Nat.div_add_mod i _]at this;rw[ai8,afK]at this;exact this.symm
 rw[aa7 (by rw[kI];omega),aa7 (by omega)]
theorem XM (n:Nat):aO aaO 156 [CO CJ n] (λ_=>True) [] (λv H=>(∃z:Int,v=CO CN z/\(n∈Vy->z=1))/\H= []):=by
 refine ag func156 rfl ntmps156 rfl ?_;intro F _;refine cA ?_;refine Lp (oC CF rfl rfl (LL n) .nil CI ?_);rintro v H' ⟨⟨z,rfl,hz⟩,rfl⟩;refine aX ?_;refine bz ?_;refine Rt [] results156 ?_;exact⟨⟨z,rfl,hz⟩,rfl⟩
theorem Vp (n:Nat):hU [CO akN 0] (n*1)=dI (λ_=>0) n:=by
 rw[pZ,Nat.mul_one];unfold dI ax jU;simp[List.map_map,Function.comp_def,List.map_const']
theorem Y3 (s n:Nat)(h1:s∈Vy)(h2:1<=n)(h3:n<=1024):aO aaO 107 [CO CN s,CO CN n] (λ_=>True) []
  (λv H=>∃a ab,v= .tuple #[CM a,CO CN 0]/\H= [af a 249 (iq ab s (s*n)),af ab 5 (dI (λ_=>0) (s*n))]):=by
 have hs:4096<=s/\s<=1048576:=by
  simp only[Vy,aa5,agh,or_false]at h1;omega
 have hb:s*n<=1048576*1024:=afG hs.2 h3;unfold iq;refine ag func107 rfl ntmps107 rfl ?_;intro F _;refine bE ?_;refine aw ?_;refine dt (ι:=Unit) [6,7,8,9,10,11,12,13,14,15,16,17,18,19,20,21,22,23,24,25] (λu=>True) (λu=> [(25, .bool false)]) (λu=> []) ?_ ?_
 ·refine fi ?_
  refine bz ?_;refine br (t:=8) rfl ?_ ?_
  ·intro dQ
   replace dQ:=aS dQ;refine ri ?_;refine aF ?_;refine Me (()) (trivial)
  intro dQ;replace dQ:=aS dQ;refine bm ?_;refine br (t:=12) rfl ?_ ?_
  ·intro ee
   replace ee:=aS ee;refine gz ?_;refine aF ?_;refine Me (()) (trivial)
  intro ee;replace ee:=aS ee;refine bA ?_;refine ay (t:=14) (v':=(CO CJ s)) rfl (by(first|rfl|exact congrArg (Value.int .u64) (by first|rfl|exact wrap_u64 (by omega)))) ?_;refine Lp (oC CF rfl rfl (XM s) .nil CI ?_);rintro v H' ⟨⟨z,rfl,hz⟩,rfl⟩;refine aX ?_;refine bz ?_;refine br (t:=18) rfl ?_ ?_
  ·intro ed
   replace ed:=aS ed;refine bR ?_;refine aF ?_;refine Me (()) (trivial)
  intro ed;replace ed:=aS ed;refine bm ?_;refine br (t:=22) rfl ?_ ?_
  ·intro cS
   replace cS:=aS cS;refine bz ?_;refine aF ?_;refine Me (()) (trivial)
  intro cS;replace cS:=aS cS;refine bz ?_;refine aF ?_;refine Me (()) (trivial)
 rintro u hI;refine dm ?_;refine ay (t:=29) (v':=(CO CN (s*n:Nat))) rfl (by exact congrArg (Value.int .i64) (by first|rfl|(rw[<-ajC];exact wrap_i64 (by omega)))) ?_;refine Lp (oM (s*n) (s*n) kA λb1=> ?_);rw[Vp];refine av ?_;refine Lp (oB λb2=> ?_);refine bm ?_;refine jE [af b2 249 [CO CN s, .slice (some ⟨b1,0,none⟩) (s*n) (s*n)],af b1 5 (dI (λ_=>0) (s*n))] results107 ?_;exact⟨_,_,rfl,rfl⟩
theorem Qa{aj fac last:Nat}(h1:last<=aj)(h2:64<=last)(h3:last % 8=0)(h4:105<=fac):∀k n,64<=n->n<=aj->n % 8=0->∀z∈mC fac last k n,64<=z/\z<=aj/\z % 8=0
 |0,n,a,b,c,z,hz=>by
  unfold mC at hz;rw[afq]at hz;subst hz;exact⟨a,b,c⟩
 |k+1,n,a,b,c,z,hz=>by
  unfold mC at hz
  split at hz
  ·rw[afq]at hz
   subst hz;exact⟨a,b,c⟩
  rw[aa5]at hz;rcases hz with rfl|hz
  ·exact⟨a,b,c⟩
  have:64*105<=n*fac:=afG a h4;exact Qa h1 h2 h3 h4 k _ (by omega) (by omega) (by omega) z hz
def dp (c:nZ):Cs:=⟨c,c.aj.toNat,c.pgs.toNat,bH c,aaS c.pgs.toNat .no,aaS (bH c).length ⟨[],0,0,0⟩,c.pgs.toNat,λ_=>0⟩
def lx (c:nZ):Int:=if jQ c=true then if 62<(bH c).length then 2 else if c.pgs<((bH c).length:Int)then 3 else 0 else 1
theorem pw_8{n:Nat}(h:n∈Vy):n % 8=0:=by
 simp only[Vy,aa5,agh,or_false]at h;omega
theorem W2 (n k:Nat):(aaS n k).sum=n*k:=by
 induction n with
 |zero=>simp
 |succ n ih=>rw[ajl,List.sum_cons,ih,Nat.succ_mul];omega
theorem Ce{c:nZ}(h:lx c=0):Ok (dp c)/\(c.aj=(c.aj.toNat:Int))/\c.pgs=(c.pgs.toNat:Int)/\c.aj.toNat∈Vy:=by
 unfold lx at h
 split at h
 case isFalse=>cases h
 case isTrue hr=>
 split at h
 case isTrue=>cases h
 case isFalse h62=>
 split at h
 case isTrue=>cases h
 case isFalse iD=>
 obtain⟨h1,h2,h3,h4,h5,h6,h7,h8,h9,V5,h11,AW⟩:=of_decide_eq_true hr;obtain⟨aj,hp⟩:∃f:Nat,c.aj=f:=⟨c.aj.toNat,by omega⟩;obtain⟨pgs,hg⟩:∃f:Nat,c.pgs=f:=⟨c.pgs.toNat,by omega⟩;have FQ:c.aj.toNat=aj:=by omega
 have hgg:c.pgs.toNat=pgs:=by omega
 rw[hp]at h3;have hpw:=ahU (n:=aj) (by omega) (by omega) h3;have p8:=pw_8 hpw;have hl:=tq c.fac.toNat (gm c) 62 c.bj.toNat;have hla:gm c=(c.lim.toNat+7)/8*8:=rfl;have nj:∀z∈bH c,64<=z/\z<=aj/\z % 8=0:=Qa (by omega) (by omega) (by omega) (by omega) 62 _ (by omega) (by omega) (by omega);have rwE:∀k,(dp c).rw k=⟨[],0,0,0⟩:=λk=>by
  unfold Cs.rw dp;rw[aaP,afD]
  split<;>rfl
 have pgE:∀k,(dp c).pg k= .no:=λk=>by
  unfold Cs.pg dp;rw[aaP,afD]
  split<;>rfl
 have Wy:∀f:Pg->Nat,(dp c).zI f=pgs*f .no:=λf=>by
  unfold Cs.zI dp;rw[afK,W2,hgg]
 have noAt:∀p,¬Cs.At (dp c) p:=λp a=>by
  have:=a.own;rw[pgE]at this;cases this
 refine⟨⟨⟨?_, ?_, ?_, ?_, ?_, ?_, ?_, ?_, ?_, ?_⟩, ?_, ?_, ?_, ?_, ?_, ?_, ?_, ?_⟩,by omega,by omega,by rw[FQ];exact hpw⟩
 ·show 4096<=c.aj.toNat;omega
 ·show c.aj.toNat<=1048576;omega
 ·show c.aj.toNat % 8=0;omega
 ·show 1<=c.pgs.toNat;omega
 ·show c.pgs.toNat<=1024;omega
 ·exact hl.1
 ·show(bH c).length<=62;omega
 ·intro z hz
  have:=nj z hz;exact⟨this.1,by show z<=c.aj.toNat;omega,this.2.2⟩
 ·exact afQ
 ·exact afQ
 ·intro x hx
  obtain rfl:=agc hx;exact⟨(λh=>by cases h),(λh=>by cases h),rfl,(λg hg=>by cases hg),(λg hg=>by cases hg),ai3,rfl,λ_=>⟨rfl,rfl,rfl⟩⟩
 ·intro k p hp
  rw[rwE]at hp;cases hp
 ·intro k;rw[rwE];exact ai3
 ·intro k p f;exact absurd f.toAt (noAt p)
 ·intro k _;rw[rwE,Wy];simp[v7,Pg.no]
 ·intro k _;rw[rwE,Wy];simp[uu,Pg.no]
 ·intro k _;rw[rwE,Wy];simp[yT,Pg.no]
 rw[Wy];show c.pgs.toNat=pgs*y9 .no;rw[hgg];simp[y9,Pg.no]
theorem Zx (n:Nat):hU [.bool false, .bool false,CO CN 0, .slice none 0 0, .slice none 0 0,CO CN 0, .map none] (n*7)=(aaS n (⟨.no,none,none,none⟩:vx)).flatMap dD:=by
 rw[xK n (n*7) rfl,ai8,afK];rfl
theorem Zw (n:Nat):hU [.slice none 0 0,CO CN 0,CO CN 0,CO CN 0] (n*4)=(aaS n (⟨⟨[],0,0,0⟩,none,0⟩:FW)).flatMap dZ:=by
 rw[xK n (n*4) rfl,ai8,afK];rfl
theorem acZ{a:Option Addr}{cap e sz:Nat}{xs:List Value}{k:Hp}(o:own a cap e sz xs k)(h:0<xs.length):∃b,a=some ⟨b,0,none⟩:=by
 obtain⟨h1,_,⟨_,rfl⟩|⟨b,_,rfl,_⟩⟩:=o
 ·rw[Nat.zero_mul]at h1;omega
 exact⟨b,rfl⟩
theorem uS{l:List aa}(hl:∀A∈l,∀h,A h):∀h,aG l h:=by
 induction l with
 |nil=>intro h;exact trivial
 |cons A l ih=>intro h;exact gx (hl A (List.mem_cons_self ..)) (ih (λB hB=>hl B (List.mem_cons_of_mem _ hB)) h)
theorem aeS{c:nZ}{p g b ar ab sa pb rb cc:Nat}{S:List Nat}{H:List aa}{h:Hp}(c1:c.aj=p)(c2:c.pgs=g)(hS:bH c=S)
  (s:ai (af b 179 [CO CN p,CO CN g,CO CN c.fac,CO CN c.bj,CO CN c.lim,CO CN c.hot,CO CN c.warm,CM ar, .slice (some ⟨sa,0,none⟩) S.length cc, .slice (some ⟨pb,0,none⟩) g g, .slice (some ⟨rb,0,none⟩) S.length S.length,CO CN g]::
   own (some ⟨sa,0,none⟩) cc 3 1 (aA S)::af pb 227 ((aaS g (⟨.no,none,none,none⟩:vx)).flatMap dD)::af rb 196 ((aaS S.length (⟨⟨[],0,0,0⟩,none,0⟩:FW)).flatMap dZ)::af ar 249 (iq ab p (p*g))::af ab 5 (dI (λ_=>0) (p*g))::H) h):ai (Cl b (dp c)::H) h:=by
 have q1:c.aj.toNat=p:=by omega
 have q2:c.pgs.toNat=g:=by omega
 have e:dp c=⟨c,p,g,S,aaS g .no,aaS S.length ⟨[],0,0,0⟩,g,λ_=>0⟩:=by unfold dp;rw[q1,q2,hS]
 rw[e];refine qk (y:=⟨ar,ab,sa,pb,rb,cc,aaS g ⟨.no,none,none,none⟩,aaS S.length ⟨⟨[],0,0,0⟩,none,0⟩⟩) ⟨by simp,by simp, ?_,c1,c2⟩ ?_
 ·intro x hx
  obtain rfl:=agc hx;exact⟨rfl,rfl,λ_=>rfl⟩
 unfold mU cH n9;dsimp only;rw[afS g p];refine aK (λ_ s=>aK (λ_ s=>aK (λ_ s=>gx ?_ (aK (λ_ s=>gx ?_ s) s)) s) s) s
 ·refine uS λA hA=> ?_
  rw[afK]at hA;obtain rfl:=agc hA;refine uS λB hB=> ?_;simp only[aa5,agh,or_false]at hB;rcases hB with rfl|rfl|rfl<;>exact λ_=>trivial
 refine uS λA hA=> ?_;rw[afK]at hA;obtain rfl:=agc hA;exact λh=>Cc _ _ h
theorem YV (c:nZ):aO aaO 58 [.agg (jN c).toArray] (λ_=>True) []
  (λv H=>(lx c≠0/\v= .tuple #[.pointer none,CO CN (lx c)]/\H= [])\/(lx c=0/\∃b,v= .tuple #[CM b,CO CN 0]/\H= [Cl b (dp c)])):=by
 refine ag func58 rfl ntmps58 rfl ?_;intro F _;refine av ?_;refine Lp (oB λb1=> ?_);refine bG ?_;refine zl CF (S4 c) .nil CI ?_;refine bA ?_;by_cases hr:jQ c=true
 ·refine cO ?_ (e:=by exact congrArg (!·) hr)
  refine bm ?_;refine Lp (oC CF rfl rfl (SG c hr) .nil CI ?_);rintro v H' ⟨a,cc,rfl,rfl⟩;refine aX ?_;refine dm ?_;by_cases h62:62<(bH c).length
  ·refine eU ?_
   refine bG ?_;refine jE [] results58 ?_;refine .inl ⟨?_, ?_,rfl⟩<;>(unfold lx;rw[if_pos hr,if_pos h62]);decide
  refine cO ?_;refine bM ?_;by_cases iD:c.pgs<((bH c).length:Int)
  ·refine eU ?_ (e:=by exact decide_eq_true iD)
   refine bG ?_;refine jE [] results58 ?_;refine .inl ⟨?_, ?_,rfl⟩<;>(unfold lx;rw[if_pos hr,if_neg h62,if_pos iD]);decide
  refine cO ?_ (e:=by exact decide_eq_false iD);have h0:lx c=0:=by unfold lx;rw[if_pos hr,if_neg h62,if_neg iD]
  obtain⟨K,e1,e2,e3⟩:=Ce h0;have hpg1:c.pgs.toNat<=1024:=K.n1;have hl:0<(bH c).length:=(tq _ _ _ _).1;refine kT (gp .here (λ_ o=>acZ o (by unfold aA;rw[List.length_map];exact hl))) λ⟨sa,hsa⟩=> ?_;subst hsa;obtain⟨aj,pgs,fac,bj,lim,hot,warm⟩:=c;obtain⟨p,rfl⟩:∃p:Nat,aj=p:=⟨_,e1⟩;obtain⟨g,rfl⟩:∃g:Nat,pgs=g:=⟨_,e2⟩;change p∈Vy at e3;have hg0:1<=g:=K.n0;have hg1:g<=1024:=K.n1;generalize hc:(⟨p,g,fac,bj,lim,hot,warm⟩:nZ)=c at*;unfold jN;have c1:c.aj=p:=by rw[<-hc]
  have c2:c.pgs=g:=by rw[<-hc]
  rw[c1,c2];refine bR ?_;refine Lp (oC CF rfl rfl (Y3 p g e3 hg0 hg1) .nil CI ?_);rintro v H' ⟨ar,ab,rfl,rfl⟩;refine aX ?_;refine fq ?_;refine aw ?_;generalize hS:bH c=S at*;refine dt (ι:=Nat×Nat×Nat) [31,32,33,34,35,36,37,38,39,40,41,42,43,2,3] (λ(b,pb,rb)=>True) (λ(b,pb,rb)=> [(2,CM b),(3,CO CN 0)]) (λ(b,pb,rb)=> [af b1 29 [CO CN p,CO CN g,CO CN c.fac,CO CN c.bj,CO CN c.lim,CO CN c.hot,CO CN c.warm],af b 179 [CO CN p,CO CN g,CO CN c.fac,CO CN c.bj,CO CN c.lim,CO CN c.hot,CO CN c.warm,CM ar, .slice (some ⟨sa,0,none⟩) S.length cc, .slice (some ⟨pb,0,none⟩) g g, .slice (some ⟨rb,0,none⟩) S.length S.length,CO CN g],af pb 227 ((aaS g (⟨.no,none,none,none⟩:vx)).flatMap dD),af rb 196 ((aaS S.length (⟨⟨[],0,0,0⟩,none,0⟩:FW)).flatMap dZ),af ar 249 (iq ab p (p*g)),af ab 5 (dI (λ_=>0) (p*g)),own (some ⟨sa,0,none⟩) cc 3 1 (aA S)]) ?_ ?_
  ·refine zT mix (.cons (.there (.there (.there .here))) .nil) λF1 jf bZ aN=> ?_
   obtain⟨hs,_⟩:=bZ;refine Dt 0 rfl (LfN pM) ?_;refine Dt 1 rfl Mv ?_;refine Dt 2 rfl Mv ?_;refine Dt 3 rfl (Fa yb) ?_;refine Dt 4 rfl (Lf bC) ?_;refine Dt 6 rfl Mv ?_;refine Dt 7 rfl (Ln ja) ?_;refine Dt 9 rfl (Fa yb) ?_;refine Dt 10 rfl (Lf bC) ?_;refine D2 5 8 ?_ ?_
   ·refine Do rfl (oM (g) (g) RN λb2=> ?_)
    refine av ?_;refine Dn 8 ?_;refine Do rfl (oM (S.length) (S.length) RM λb3=> ?_);refine av ?_;refine Dt 11 rfl (Bd P6 Qd) ?_;refine Dn 12 ?_;refine Do rfl (oB λb4=> ?_);refine av ?_;refine Dt 13 rfl As ?_;refine Dt 14 rfl As ?_;refine aV (by kernel_rfl) aN ?_;rw[Zx,Zw];refine Me ((b4,b2,b3)) (trivial)
   refine Do rfl (oM (S.length) (S.length) RM λb5=> ?_);refine av ?_;refine Dn 5 ?_;refine Do rfl (oM (g) (g) RN λb6=> ?_);refine av ?_;refine Dt 11 rfl (Bd P6 Qd) ?_;refine Dn 12 ?_;refine Do rfl (oB λb7=> ?_);refine av ?_;refine Dt 13 rfl As ?_;refine Dt 14 rfl As ?_;refine aV (by kernel_rfl) aN ?_;rw[Zx,Zw];refine Me ((b7,b6,b5)) (trivial)
  rintro⟨b,pb,rb⟩ hI
  try dsimp only at hI⊢
  refine av ?_;refine Hh (H':= [af b 179 [CO CN p,CO CN g,CO CN c.fac,CO CN c.bj,CO CN c.lim,CO CN c.hot,CO CN c.warm,CM ar, .slice (some ⟨sa,0,none⟩) S.length cc, .slice (some ⟨pb,0,none⟩) g g, .slice (some ⟨rb,0,none⟩) S.length S.length,CO CN g],own (some ⟨sa,0,none⟩) cc 3 1 (aA S),af pb 227 ((aaS g (⟨.no,none,none,none⟩:vx)).flatMap dD),af rb 196 ((aaS S.length (⟨⟨[],0,0,0⟩,none,0⟩:FW)).flatMap dZ),af ar 249 (iq ab p (p*g)),af ab 5 (dI (λ_=>0) (p*g)),af b1 29 [CO CN p,CO CN g,CO CN c.fac,CO CN c.bj,CO CN c.lim,CO CN c.hot,CO CN c.warm]]) ?_;refine au (λ_ s=>aeS c1 c2 hS s) ?_;refine jE [Cl b (dp c)] results58 ?_;exact .inr ⟨h0,b,rfl,rfl⟩
 refine eU ?_ (e:=by exact congrArg (!·) (by simpa using hr));refine bG ?_;refine jE [] results58 ?_;refine .inl ⟨?_, ?_,rfl⟩<;>(unfold lx;rw[if_neg hr]);decide
theorem ahh (C:Cs)(n:Nat):hU [CO CJ 0,CO CJ 0,CO CN 0,CO CJ 0,CO CJ 0,CO CN 0,CO CJ 0,CO CJ 0,CO CN 0] (n*9)=(aaS (n*3) []).flatMap (cV C):=by
 rw[xK n (n*9) rfl,ai8,afK]
 induction n with
 |zero=>rfl
 |succ n ih=>
  rw[ajl,ajR,ih,show(n+1)*3=n*3+1+1+1 by omega];simp only[ajl,ajR];rfl
theorem Xq (b:Nat)(C:Cs)(K:Ok C):aO aaO 59 [CM b] (In (Cl b C)) []
  (λv H=>∃q qb,v= .tuple #[CM q,CO CN 0]/\H= [af q 182 (fC b qb C.ae.length),af qb 333 ((aaS (C.ae.length*3) []).flatMap (cV C))]):=by
 have hl:=K.l1;unfold fC;refine ag func59 rfl ntmps59 rfl ?_;intro F hc;refine mF ?_;refine zl CF (mA b C) .nil (λ_ le _=>hc.mono le) ?_;refine Lp (oM (C.ae.length) (C.ae.length) afd λb1=> ?_);rw[ahh C];refine av ?_;refine Lp (oB λb2=> ?_);refine bm ?_;refine jE [af b2 182 [CM b, .slice (some ⟨b1,0,none⟩) C.ae.length C.ae.length],af b1 333 ((aaS (C.ae.length*3) []).flatMap (cV C))] results59 ?_;exact⟨_,_,rfl,rfl⟩
def grow (lim:Nat):Nat->Nat->Nat
 |0,n=>n
 |k+1,n=>if 2*n<=lim then grow lim k (2*n)else n
def nz (C:Cs):Nat:=grow (min (4*(C.n*(C.aj/C.sz 0))) 1048576) 16 16
theorem JU (lim:Nat)(h:lim<=1048576):∀k n,(∃m,m+k=20/\n=2^m)->16<=n->∃m,m<=20/\grow lim k n=2^m/\16<=grow lim k n
 |0,n,⟨m,h1,h2⟩,h3=>⟨m,by omega,h2,h3⟩
 |k+1,n,⟨m,h1,h2⟩,h3=>by
  unfold grow
  split
  ·exact JU lim h k (2*n) ⟨m+1,by omega,by rw[h2,af9];omega⟩ (by omega)
  exact⟨m,by omega,h2,h3⟩
def oh (m:Nat):Tb:=⟨m,0,16,aaS 16 [],[],0,0⟩
theorem XU{C:Cs}{m:Nat}(h:∃j,j<=20/\m=2^j)(h16:16<=m):dq C (oh m):=by
 have ch:∀x,(oh m).ch x= []:=λx=>by
  obtain⟨f,i⟩:=x;unfold Tb.ch oh;rcases f with _|_
  ·simp only[Bool.false_eq_true,if_false,aaP,afD]
   split<;>rfl
  simp[aaP]
 have al:(oh m).all= []:=by unfold oh Tb.all;simp
 refine⟨⟨4,by decide,by simp[oh]⟩, .inl rfl, .inl ⟨rfl,rfl⟩,h,by simp[oh],aa0 _,h16,afk _, ?_, ?_, ?_, ?_, ?_, ?_, ?_⟩
 ·rw[al];rfl
 ·rw[al];exact ai3
 ·intro x;rw[ch];trivial
 ·intro p hp;rw[al]at hp;cases hp
 ·intro p hp;rw[al]at hp;cases hp
 ·intro x p hp;rw[ch]at hp;cases hp
 intro p hp;rw[al]at hp;cases hp
theorem WX (b:Nat)(C:Cs)(K:Ok C):aO aaO 61 [CM b] (In (Cl b C)) []
  (λv H=>∃t nk,v= .tuple #[CM t,CO CN 0]/\H= [af t 154 (fk b (oh (nz C)) ⟨nk,none⟩),af nk 149 (aM (aD (oh (nz C)).nb))]):=by
 have hl:=K.l0;obtain⟨z1,z2,z3⟩:=K.toFix.sz (c:=0) (by omega);have n0:=K.n0;have n1:=K.n1;have p0:=K.p0;have p1:=K.p1;have hq:C.aj/C.sz 0<=16384:=Nat.div_le_of_le_mul (by omega);have hm:C.n*(C.aj/C.sz 0)<=1024*16384:=afG n1 hq;obtain⟨ft,Zj⟩:∃ft,ft=C.n*(C.aj/C.sz 0):=⟨_,rfl⟩;unfold fk nz;rw[<-Zj]at hm⊢;refine ag func61 rfl ntmps61 rfl ?_;intro F hc;obtain⟨y,hy,_⟩:=aay hc;have Oe:=AL b C;have hcE:jN C.cfg= [CO CN C.aj,CO CN C.n,CO CN C.cfg.fac,CO CN C.cfg.bj,CO CN C.cfg.lim,CO CN C.cfg.hot,CO CN C.cfg.warm]:=by
  unfold jN;rw[hy.aj,hy.pgs]
 rw[hcE]at Oe;have hch:ofM C 0 (λi=>C.sz i)=C.sz 0:=by unfold ofM;rw[if_pos ⟨by omega,by omega⟩];rfl
 have agW:=qW b C K 0;rw[hch]at agW;refine fq ?_;refine zl CF (Oe) .nil (λ_ le _=>hc.mono le) ?_;refine Lp (oA kj λb1=> ?_);refine bG ?_;refine aw ?_;refine ay (t:=5) (v':=(CO CN (16:Nat))) rfl (by rfl) ?_;refine hJ 8 mix (.cons .here .nil) λF1 jf bZ aN=> ?_;obtain⟨q1,_⟩:=bZ;refine bE ?_;refine Tp (oC CF rfl rfl (agW) .nil (λ_ le _=>(hc.mono jf).mono le) ?_);rintro v H' ⟨rfl,rfl⟩;refine aX ?_;refine Ti (Qu) ?_;refine Ti (Zu) ?_;refine gd aN ?_;refine ay (t:=18) (v':=(CO CN ft)) rfl (by exact congrArg (Value.int .i64) (by rw[Zj])) ?_;refine bz ?_;refine Lo (ι:=Nat×Nat) [19,20,21,22,23,24,25,26,5] (λs=>(∃m,m+s.1=20/\s.2=2^m)/\16<=s.2/\s.2<=1048576/\grow (min (4*ft) 1048576) 16 16=grow (min (4*ft) 1048576) s.1 s.2) (λs=> [(5,CO CN s.2)]) (λs=> [af b1 29 [CO CN C.aj,CO CN C.n,CO CN C.cfg.fac,CO CN C.cfg.bj,CO CN C.cfg.lim,CO CN C.cfg.hot,CO CN C.cfg.warm]]) (λs=>s.1) ((16,16)) ⟨⟨4,rfl,rfl⟩,aa0 _,(by decide),rfl⟩ ?_;rintro⟨k,n⟩ ⟨⟨m,i1,i2⟩,i3,i4,i5⟩;dsimp only at i1 i2 i3 i4 i5⊢;refine bG ?_;refine Li Mi ?_;refine ay (t:=23) (v':=(CO CN (min (4*ft) 1048576:Nat))) rfl (by exact congrArg (Value.int .i64) (by omega)) ?_;generalize hlm:min (4*ft) 1048576=lm at*;have agU:lm<=1048576:=by omega
 refine bA ?_;refine aE rfl ?_ ?_
 ·intro hle
  replace hle:=aS hle;obtain⟨k,rfl⟩:∃j,k=j+1:=by
   refine⟨k-1, ?_⟩;rcases k with _|k
   ·rw[show m=20 by omega]at i2
    exfalso;omega
   omega
  have e:grow lm (k+1) n=grow lm k (2*n):=by
   conv=>lhs;unfold grow
   rw[if_pos (by omega)]
  refine cA ?_;refine ay (t:=5) (v':=(CO CN (2*n:Nat))) rfl (by exact congrArg (Value.int .i64) (by omega)) ?_;refine Ro ((k,2*n)) (⟨⟨m+1,by omega,by rw[i2,af9];omega⟩,by omega,by omega,i5.trans e⟩) ((by dsimp only;omega))
 intro hle;replace hle:=aS hle;have e:grow lm k n=n:=by
  rcases k with _|k
  ·rfl
  unfold grow;rw[if_neg (by omega)]
 rw[i5,e];refine dm ?_;refine Lp (oM (16) (16) BS λb2=> ?_);rw[Al];refine av ?_;refine Lp (oB λb3=> ?_);refine bm ?_;refine jE [af b3 154 (fk b (oh n) ⟨b2,none⟩),af b2 149 (aM (aD (oh n).nb))] results61 ?_;exact⟨_,_,rfl,rfl⟩
theorem adx:(aaO.underlying 193).map (λd=>match d with| .func .. =>true|_=>false)=some true:=by kernel_rfl
theorem Tu (n:Nat):hU [CO CN 0] (n*1)=aA (aaS n 0):=by
 rw[pZ,Nat.mul_one];unfold aA;rw[afK];rfl
def wg (n:Nat):iz:=⟨aaS n 0,0,0,0,0,false⟩
theorem X5 (b:Nat)(C:Cs)(K:Ok C)(f g h:Fn)(fa ga ha:Array Value):
  aO aaO 112 [CM b, .func f fa #[], .func g ga #[], .func h ha #[]] (In (Cl b C)) []
   (λv H=>∃a ub,v= .tuple #[CM a,CO CN 0]/\H= [iT a b ub (.func f fa #[]) (.func g ga #[]) (.func h ha #[]) (wg C.ae.length),kL ub (wg C.ae.length)]):=by
 have hl:=K.l1;unfold iT CQ kL;refine ag func112 rfl ntmps112 rfl ?_;intro F hc;refine cA ?_;refine zf 12 ?_ (e:=by rfl);refine av ?_;refine Li (Fne GQ) ?_;refine bA ?_;refine zf 16 ?_ (e:=by rfl);refine av ?_;refine Li (Fne GP) ?_;refine bA ?_;refine zf 20 ?_ (e:=by rfl);refine av ?_;refine Li (Fne adx) ?_;refine bW ?_;refine zl CF (mA b C) .nil (λ_ le _=>hc.mono le) ?_;refine Lp (oM (C.ae.length) (C.ae.length) fU λb1=> ?_);rw[Tu];refine av ?_;refine Lp (oB λb2=> ?_);refine bm ?_;refine jE [af b2 220 [CM b, .func f fa #[], .func g ga #[], .func h ha #[], .slice (some ⟨b1,0,none⟩) C.ae.length C.ae.length,CO CN 0,CO CN 0,CO CN 0,CO CN 0, .bool false],af b1 3 (aA (aaS C.ae.length 0))] results112 ?_;refine⟨b2,b1,rfl, ?_⟩;unfold wg;dsimp only;rw[afQ];rfl
theorem TZ (b q:Nat)(hot warm:Int)(h:¬(1<=hot/\1<=warm/\hot+warm<=90)):
  aO aaO 60 [CM b,CM q,CO CN hot,CO CN warm] (λ_=>True) []
   (λv H=>v= .tuple #[.pointer none,CO CN 1]/\H= []):=by
 refine ag func60 rfl ntmps60 rfl ?_;intro F _;refine cA ?_;refine zf 12 ?_ (e:=by rfl);refine bm ?_;refine zf 16 ?_ (e:=by rfl);refine bm ?_;by_cases h1:hot<1
 ·refine zt 20 ?_ (e:=by exact decide_eq_true h1)
  refine cC ?_;refine av ?_;refine jE [] results60 ?_;exact⟨rfl,rfl⟩
 refine zf 20 ?_ (e:=by exact decide_eq_false h1);refine bm ?_;by_cases h2:warm<1
 ·refine zt 24 ?_ (e:=by exact decide_eq_true h2)
  refine ri ?_;refine jE [] results60 ?_;exact⟨rfl,rfl⟩
 refine zf 24 ?_ (e:=by exact decide_eq_false h2);refine bm ?_;by_cases h3:90<hot
 ·refine zt 28 ?_ (e:=by exact decide_eq_true h3)
  refine gz ?_;refine jE [] results60 ?_;exact⟨rfl,rfl⟩
 refine zf 28 ?_ (e:=by exact decide_eq_false h3);refine bG ?_;refine eU ?_;refine bG ?_;refine jE [] results60 ?_;exact⟨rfl,rfl⟩
def zd (p:um):List Value:= [CO CN p.b,CO CN p.l,CO CN p.c,CO CN p.m]
theorem X0 (c:nZ)(pc:um)(b q lu t:Nat)(C:Cs)(K:Ok C)(k:Ck)(hk:sZ k)(bh:Nat):
  aO aaO 62 [.agg (jN c).toArray, .agg (zd pc).toArray,CM b,CM q,CM lu,CM t, .agg #[CO CN k.now,CO CJ bh,CO CJ k.cut,CO CN k.kP]] (In (Cl b C)) []
   (λv H=>∃s ck wh cr mo ub,v= .tuple #[CM s,CO CN 0]/\H= [fm s ⟨b,ck,t,lu,wh,cr,mo,q⟩ (fb ⟨c,pc,0,0,⟨0,0,0,0,0,0,0⟩,none,0,0⟩),kO ck k,Wl wh [] 0,gh cr q wh C.ae.length (aL s) (aY s) C ⟨0,false,0,0,none,0⟩,iT mo b ub (aL s) (aY s) (bI s) (wg C.ae.length),kL ub (wg C.ae.length)]):=by
 have k1:=hk.n1;have k2:=hk.n2;have k3:=hk.p;have k4:=hk.pn;have l0:=K.l0;have l1:=K.l1;unfold jN zd fm;refine ag func62 rfl ntmps62 rfl ?_;intro F hc;refine av ?_;refine Lp (oB λb1=> ?_);refine Lp (oB λb2=> ?_);refine Lp (oB λb3=> ?_);refine bM ?_;refine Lp (oC CF rfl rfl (Ve k k1 k2 (by omega) (by omega)) .nil CI ?_);rintro v H' ⟨ck,rfl,rfl⟩;refine aX ?_;refine fq ?_;refine aw ?_;refine hJ 11 mix (.cons (.there (.there .here)) (.cons (.there (.there .here)) .nil)) λF1 jf bZ aN=> ?_;obtain⟨q1,q2,_⟩:=bZ;refine bm ?_;refine Tp (oC CF rfl rfl (Y5) .nil CI ?_);rintro v H' ⟨wh,rfl,rfl⟩;refine aX ?_;refine bm ?_;refine ay (t:=38) (v':=(.agg #[CM b,CM ck,CM t,CM lu,CM wh, .pointer none, .pointer none,CM q])) rfl (by rfl) ?_;refine ay (t:=39) (v':=(.agg #[CO CN c.aj,CO CN c.pgs,CO CN c.fac,CO CN c.bj,CO CN c.lim,CO CN c.hot,CO CN c.warm])) rfl (by rfl) ?_;refine ay (t:=40) (v':=(.agg #[CO CN pc.b,CO CN pc.l,CO CN pc.c,CO CN pc.m])) rfl (by rfl) ?_;refine av ?_;refine ay (t:=41) (v':=(.agg #[CM b,CM ck,CM t,CM lu,CM wh, .pointer none, .pointer none,CM q,CO CN c.aj,CO CN c.pgs,CO CN c.fac,CO CN c.bj,CO CN c.lim,CO CN c.hot,CO CN c.warm,CO CN pc.b,CO CN pc.l,CO CN pc.c,CO CN pc.m,CO CJ 0,CO CN 0,CO CN 0,CO CN 0,CO CN 0,CO CN 0,CO CN 0,CO CN 0,CO CN 0, .slice none 0 0])) rfl (by(simp only[Value.cells,cZ,List.set_cons_zero,List.set_cons_succ];first|rfl|done)) ?_;refine Tp (oB λb4=> ?_);refine gd aN ?_;refine bA ?_;refine aw ?_;refine dt (ι:=Nat) [44,45,46,47,48,49,50,51,52,53,54,55,56,57,43,58,59,60,61,62,17] (λcr=>True) (λcr=> [(17,CO CN 0),(18,CM b4)]) (λcr=> [af b4 96 [CM b,CM ck,CM t,CM lu,CM wh,CM cr, .pointer none,CM q,CO CN c.aj,CO CN c.pgs,CO CN c.fac,CO CN c.bj,CO CN c.lim,CO CN c.hot,CO CN c.warm,CO CN pc.b,CO CN pc.l,CO CN pc.c,CO CN pc.m,CO CJ 0,CO CN 0,CO CN 0,CO CN 0,CO CN 0,CO CN 0,CO CN 0,CO CN 0,CO CN 0, .slice none 0 0],gh cr q wh C.ae.length (aL b4) (aY b4) C ⟨0,false,0,0,none,0⟩,Wl wh [] 0,kO ck k]) ?_ ?_
 ·refine zT mix .nil λF2 yO ez cQ=> ?_
  refine Dt 0 rfl Mv ?_;refine Dt 1 rfl Mv ?_;refine Dt 2 rfl Mv ?_;refine Dt 3 rfl Nc ?_;refine Dt 4 rfl (Fa nK) ?_;refine Dt 5 rfl (Fa EA) ?_;refine Dt 7 rfl Mv ?_;refine Dt 9 rfl Mv ?_;refine Dt 10 rfl Mf ?_;refine Dt 11 rfl Mv ?_;refine Dt 12 rfl Mf ?_;refine D2 6 8 ?_ ?_
  ·refine Do rfl (oL Px ?_)
   refine av ?_;refine Dn 8 ?_;refine Do rfl (oC CF rfl rfl (mA b C) .nil (λ_ le _=>(hc.mono yO).mono le) ?_);rintro v H' ⟨rfl,rfl⟩;refine aX ?_;refine av ?_;refine Dn 13 ?_;refine Do rfl (oC CF rfl rfl (Ke q wh C.ae.length l0 l1 (.func 48) (.func 85) #[CM b4] #[] #[CM b4] #[] C) .nil CI ?_);rintro v H' ⟨cr,rfl,rfl⟩;refine aX ?_;refine av ?_;refine Dt 14 rfl Mv ?_;refine Dt 15 rfl Ex ?_;refine Dt 16 rfl Ex ?_;refine Dt 17 rfl Nc ?_;refine Dt 18 rfl (Fa nK) ?_;refine Dt 19 rfl (Fa x9) ?_;refine Dn 20 ?_;refine Do rfl (oS Dq ?_);refine av ?_;refine Dt 21 rfl As ?_;refine aV (by kernel_rfl) cQ ?_;refine Me (cr) (trivial)
  refine Do rfl (oC CF rfl rfl (mA b C) .nil (λ_ le _=>(hc.mono yO).mono le) ?_);rintro v H' ⟨rfl,rfl⟩;refine aX ?_;refine av ?_;refine Dn 6 ?_;refine Do rfl (oL Px ?_);refine av ?_;refine Dn 13 ?_;refine Do rfl (oC CF rfl rfl (Ke q wh C.ae.length l0 l1 (.func 48) (.func 85) #[CM b4] #[] #[CM b4] #[] C) .nil CI ?_);rintro v H' ⟨cr,rfl,rfl⟩;refine aX ?_;refine av ?_;refine Dt 14 rfl Mv ?_;refine Dt 15 rfl Ex ?_;refine Dt 16 rfl Ex ?_;refine Dt 17 rfl Nc ?_;refine Dt 18 rfl (Fa nK) ?_;refine Dt 19 rfl (Fa x9) ?_;refine Dn 20 ?_;refine Do rfl (oS Dq ?_);refine av ?_;refine Dt 21 rfl As ?_;refine aV (by kernel_rfl) cQ ?_;refine Me (cr) (trivial)
 rintro cr hI;refine dB ?_;refine Li Mf ?_;refine av ?_;refine Li Mf ?_;refine av ?_;refine Li Mf ?_;refine Lp (oC CF rfl rfl (X5 b C K (.func 48) (.func 85) (.func 113) #[CM b4] #[CM b4] #[CM b4]) .nil (λ_ le _=>hc.mono le) ?_);rintro v H' ⟨mo,ub,rfl,rfl⟩;refine aX ?_;refine cC ?_;refine bz ?_;refine jE [af b4 96 [CM b,CM ck,CM t,CM lu,CM wh,CM cr,CM mo,CM q,CO CN c.aj,CO CN c.pgs,CO CN c.fac,CO CN c.bj,CO CN c.lim,CO CN c.hot,CO CN c.warm,CO CN pc.b,CO CN pc.l,CO CN pc.c,CO CN pc.m,CO CJ 0,CO CN 0,CO CN 0,CO CN 0,CO CN 0,CO CN 0,CO CN 0,CO CN 0,CO CN 0, .slice none 0 0],kO ck k,Wl wh [] 0,gh cr q wh C.ae.length (aL b4) (aY b4) C ⟨0,false,0,0,none,0⟩,iT mo b ub (aL b4) (aY b4) (bI b4) (wg C.ae.length),kL ub (wg C.ae.length)] results62 ?_;exact⟨b4,ck,wh,cr,mo,ub,rfl,rfl⟩
def fP (c:nZ)(pc:um)(k:Ck):Mo:=
 ⟨dp c,none,aaS ((dp c).ae.length*3) [],λ_=>⟨[],[],0,0,0,0,0⟩,λ_=>0,⟨0,false,0,0,none,0⟩,0,k,wg (dp c).ae.length,16,0,nz (dp c),⟨c,pc,0,0,⟨0,0,0,0,0,0,0⟩,none,0,0⟩,[],0⟩
theorem Tt{c:nZ}(p:Nat):¬Live (dp c) p:=λL=>by
 have:=L.own;unfold Cs.pg dp at this;rw[aaP,afD]at this
 split at this<;>cases this
theorem Gy (n i:Nat):ql (aaS n []) i= []:=by
 unfold ql;rw[aaP,afD]
 split<;>rfl
theorem Jx{c:nZ}(h:lx c=0)(pc:um)(k:Ck)(hk:sZ k)(nk:Nat):bL ⟨dp c,oh (nz (dp c)),⟨nk,none⟩,[]⟩ (fP c pc k):=by
 obtain⟨K,e1,e2,e3⟩:=Ce h;have l1:=K.l1;have al:(oh (nz (dp c))).all= []:=by unfold oh Tb.all;simp
 have hm:∃m,m<=20/\nz (dp c)=2^m/\16<=nz (dp c):=JU _ (by omega) 16 16 ⟨4,rfl,rfl⟩ (aa0 _);obtain⟨m,m1,m2,m3⟩:=hm;have pgE:∀i,(dp c).pg i= .no:=λi=>by
  unfold Cs.pg dp;rw[aaP,afD]
  split<;>rfl
 have qe:∀i p,p∈ql (fP c pc k).Q i->False:=λi p hp=>by
  rw[show(fP c pc k).Q=aaS ((dp c).ae.length*3) []from rfl,Gy]at hp;cases hp
 refine⟨rfl,K,XU ⟨m,m1,m2⟩ m3,λ_=>rfl,⟨?_,λi p hp=>(qe i p hp).elim,λi p hp=>(qe i p hp).elim,λi p hp=>(qe i p hp).elim,λi=> ?_,λi k hk=> ?_,λi k hk=> ?_⟩,⟨?_, ?_, ?_, ?_⟩,λi p hp=>(qe i p hp).elim,hk,λp=> ?_,λp=> ?_, ?_, ?_, ?_,(λh=>by cases h),rfl,rfl,rfl, ?_, ?_, ?_,λi hi=> ?_,rfl,rfl,rfl,λp hp=> ?_⟩
 ·exact afQ
 ·rw[show(fP c pc k).Q=aaS ((dp c).ae.length*3) []from rfl,Gy];exact ai3
 ·exact(qe i _ (aa4 hk)).elim
 ·exact(qe i _ (aa4 hk)).elim
 ·intro h;cases h
 ·intro _;exact⟨rfl,rfl,rfl,rfl⟩
 ·intro p h;cases h
 ·exact afk _
 ·constructor
  ·intro h;dsimp only at h;rw[al]at h;cases h
  rintro⟨i,hi⟩;exact(qe i p hi).elim
 ·constructor
  ·intro h;exact(Tt p h).elim
  rintro(h|h)
  ·dsimp only at h;rw[al]at h;cases h
  cases h
 ·intro p h;cases h
 ·intro p hp;dsimp only at hp;rw[al]at hp;cases hp
 ·unfold iE;dsimp only;rw[al];exact List.Perm.refl _
 ·dsimp only;rw[al];rfl
 ·exact afQ
 ·intro h;cases h
 ·dsimp only at hi;rw[pgE]at hi;cases hi
 dsimp only at hp;rw[al]at hp;cases hp
theorem ab3{c:nZ}{pc:um}{k:Ck}{s b ck t lu wh cr mo q qb ub nk:Nat}{hot warm:Nat}(h:lx c=0)(hk:sZ k){H:List aa}:∀h,ai ([Cl b (dp c),af t 154 (fk b (oh (nz (dp c))) ⟨nk,none⟩),af nk 149 (aM (aD (oh (nz (dp c))).nb)),af q 182 (fC b qb (dp c).ae.length),af qb 333 ((aaS ((dp c).ae.length*3) []).flatMap (cV (dp c))),gh cr q wh (dp c).ae.length (aL s) (aY s) (dp c) ⟨0,false,0,0,none,0⟩,Wl wh [] 0,fm s ⟨b,ck,t,lu,wh,cr,mo,q⟩ (fb ⟨c,pc,0,0,⟨0,0,0,0,0,0,0⟩,none,0,0⟩),kO ck k,jb lu b q hot warm,iT mo b ub (aL s) (aY s) (bI s) (wg (dp c).ae.length),kL ub (wg (dp c).ae.length)]++H) h->ai (SW ⟨s,⟨b,ck,t,lu,wh,cr,mo,q⟩,qb,ub,hot,warm⟩ (fP c pc k)::H) h:=λh0 s0=>
 gV none 0 h0 (aB (B:=⟨dp c,oh (nz (dp c)),⟨nk,none⟩,[]⟩) (Jx h pc k hk nk) h0 (by
  unfold dM;dsimp only[List.cons_append,List.nil_append];refine aK (λ_ s=>aK (λ_ s=>aK (λ_ s=>gx (λ_=>trivial) (aK (λ_ s=>aK (λ_ s=>aK (λ_ s=>aK (λ_ s=>aK (λ_ s=>aK (λ_ s=>aK (λ_ s=>aK (λ_ s=>aK (λ_ s=>gx (λk=>Cc _ _ k) s) s) s) s) s) s) s) s) s) s)) s) s) s0))
def ZM (p:um):Bool:=decide ((0<=p.b/\p.b<=1048576)/\(0<=p.l/\p.l<=1048576)/\(0<=p.c/\p.c<=1048576)/\(0<=p.m/\p.m<=1048576))
def rY (c:nZ)(p:um):Int:=if lx c=0 then if 1<=c.hot/\1<=c.warm/\c.hot+c.warm<=90 then if ZM p=true then 0 else 1 else 1 else lx c
theorem ae8:AY aaO 119=some (4,3,1):=by kernel_rfl
theorem D9 (c:nZ)(pc:um):aO aaO 22 [.agg (jN c).toArray, .agg (zd pc).toArray] (λ_=>True) []
  (λv H=>(rY c pc≠0/\v= .tuple #[.pointer none,CO CN (rY c pc)]/\H= [])\/(rY c pc=0/\∃z:Ly,z.hot=c.hot.toNat/\z.warm=c.warm.toNat/\z.hot<=90/\z.warm<=90/\v= .tuple #[CM z.s,CO CN 0]/\H= [SW z (fP c pc ⟨1,0,0⟩)])):=by
 unfold zd;refine ag func22 rfl ntmps22 rfl ?_;intro F _;refine av ?_;refine Lp (oB λb1=> ?_);refine Lp (oB λb2=> ?_);refine bE ?_;refine Lp (oC CF rfl rfl (YV c) .nil CI ?_);rintro v H' hr;refine aX ?_;rcases hr with⟨h1,rfl,rfl⟩|⟨h1,b,rfl,rfl⟩
 ·refine Li Mv ?_
  refine bM ?_;refine eU ?_ (e:=by exact congrArg (!·) (decide_eq_false h1));refine bR ?_;refine jE [] results22 ?_;exact .inl (by unfold rY;rw[if_neg h1];exact⟨h1,rfl,rfl⟩)
 refine Li Mv ?_;refine bW ?_;obtain⟨K,e1,e2,e3⟩:=Ce h1;refine bm ?_;refine Lp (oC CF rfl rfl (Xq b (dp c) K) .nil (λ_ le ao=>ao.1) ?_);rintro v H' ⟨q,qb,rfl,rfl⟩;refine aX ?_;refine cC ?_;refine av ?_;by_cases h2:1<=c.hot/\1<=c.warm/\c.hot+c.warm<=90
 ·obtain⟨hot,hh⟩:∃n:Nat,c.hot=n:=⟨c.hot.toNat,by omega⟩
  obtain⟨warm,hw⟩:∃n:Nat,c.warm=n:=⟨c.warm.toNat,by omega⟩;refine ay (t:=33) (v':=(CO CN hot)) rfl (by exact congrArg (Value.int .i64) hh) ?_;refine ay (t:=35) (v':=(CO CN warm)) rfl (by exact congrArg (Value.int .i64) hw) ?_;refine Lp (oC CF rfl rfl (Yj b q hot warm (by omega) (by omega) (by omega)) .nil CI ?_);rintro v H' ⟨lu,rfl,rfl⟩;refine aX ?_;refine cC ?_;refine bm ?_;refine Li (Bda abV afc) ?_;refine bz ?_;refine Lo (ι:=Nat) [52,53,11,54,55,56,57,58,59,4,5,60,51] (λi=>i<=4/\∀j,j<i->∃z:Int,[pc.b,pc.l,pc.c,pc.m][j]?=some z/\0<=z/\z<=1048576) (λi=> [(51,CO CN i)]) (λi=> [jb lu b q hot warm,af q 182 (fC b qb (dp c).ae.length),af qb 333 ((aaS ((dp c).ae.length*3) []).flatMap (cV (dp c))),Cl b (dp c),af b2 23 [CO CN pc.b,CO CN pc.l,CO CN pc.c,CO CN pc.m],af b1 29 (jN c)]) (λi=>4-i) (0) ⟨afk _,λj h=>absurd h (Nat.not_lt_zero j)⟩ ?_;rintro i ⟨i1,i2⟩;refine bz ?_;refine aw ?_;refine aE rfl ?_ ?_
  ·intro hi
   replace hi:=aS hi;have hi4:i<4:=by omega
   obtain⟨z,hz⟩:∃z,[pc.b,pc.l,pc.c,pc.m][i]?=some z:=⟨_,aaQ (by simpa using hi4)⟩;have Ks:([CO CN pc.b,CO CN pc.l,CO CN pc.c,CO CN pc.m]:List Value)[i]?=some (CO CN z):=by
    have:([CO CN pc.b,CO CN pc.l,CO CN pc.c,CO CN pc.m]:List Value)= [pc.b,pc.l,pc.c,pc.m].map (Value.int .i64):=rfl;rw[this,aa6,hz];rfl
   refine bE ?_;refine Li (Ias ae8 bC (j:=i) (cs:= [CO CN pc.b,CO CN pc.l,CO CN pc.c,CO CN pc.m]) (v:=CO CN z)) ?_;refine bG ?_;have bad:¬(0<=z/\z<=1048576)->rY c pc=1:=λh=>by
    unfold rY;rw[if_pos h1,if_pos h2,if_neg];intro e;obtain⟨p1,p2,p3,p4⟩:=of_decide_eq_true e;rcases i with _|_|_|_|i
    ·cases hz;exact h p1
    ·cases hz;exact h p2
    ·cases hz;exact h p3
    ·cases hz;exact h p4
    omega
   by_cases z0:z<0
   ·refine zt 56 ?_ (e:=by exact decide_eq_true z0)
    refine mF ?_;refine jE [] results22 ?_;exact .inl (by rw[bad (by omega)];exact⟨by decide,rfl,rfl⟩)
   refine zf 56 ?_ (e:=by exact decide_eq_false z0);refine bm ?_;by_cases z1:1048576<z
   ·refine eU ?_ (e:=by exact decide_eq_true z1)
    refine bM ?_;refine jE [] results22 ?_;exact .inl (by rw[bad (by omega)];exact⟨by decide,rfl,rfl⟩)
   refine cO ?_ (e:=by exact decide_eq_false z1);refine bG ?_;refine aF ?_;refine Ro (i+1) (⟨by omega,λj hj=> ?_⟩) ((by omega));by_cases Zh:j=i
   ·subst Zh;exact⟨z,hz,by omega,by omega⟩
   exact i2 j (by omega)
  intro hi;replace hi:=aS hi;obtain rfl:i=4:=by omega
  have hp:ZM pc=true:=by
   obtain⟨z0,a0,b0⟩:=i2 0 (by decide);obtain⟨z1,a1,b1⟩:=i2 1 (by decide);obtain⟨z2,a2,b2⟩:=i2 2 (by decide);obtain⟨z3,a3,b3⟩:=i2 3 (by decide);cases a0;cases a1;cases a2;cases a3;exact decide_eq_true ⟨b0,b1,b2,b3⟩
  have h0:rY c pc=0:=by unfold rY;rw[if_pos h1,if_pos h2,if_pos hp]
  refine bR ?_;refine Lp (oC CF rfl rfl (WX b (dp c) K) .nil (λ_ le ao=>ao.2.2.2.1) ?_);rintro v H' ⟨t,nk,rfl,rfl⟩;refine aX ?_;refine cC ?_;refine bA ?_;refine Lp (oC CF rfl rfl (X0 c pc b q lu t (dp c) K ⟨1,0,0⟩ ⟨aa0 _,by decide,by decide,λh=>absurd rfl h,by decide⟩ 0) .nil (λ_ le ao=>ao.2.2.2.2.2.1) ?_);rintro v H' ⟨s,ck,wh,cr,mo,ub,rfl,rfl⟩;refine aX ?_;refine bG ?_;refine Hh (H':= [Cl b (dp c),af t 154 (fk b (oh (nz (dp c))) ⟨nk,none⟩),af nk 149 (aM (aD (oh (nz (dp c))).nb)),af q 182 (fC b qb (dp c).ae.length),af qb 333 ((aaS ((dp c).ae.length*3) []).flatMap (cV (dp c))),gh cr q wh (dp c).ae.length (aL s) (aY s) (dp c) ⟨0,false,0,0,none,0⟩,Wl wh [] 0,fm s ⟨b,ck,t,lu,wh,cr,mo,q⟩ (fb ⟨c,pc,0,0,⟨0,0,0,0,0,0,0⟩,none,0,0⟩),kO ck ⟨1,0,0⟩,jb lu b q hot warm,iT mo b ub (aL s) (aY s) (bI s) (wg (dp c).ae.length),kL ub (wg (dp c).ae.length),af b2 23 [CO CN pc.b,CO CN pc.l,CO CN pc.c,CO CN pc.m],af b1 29 (jN c)]) ?_;refine au (ab3 (k:=⟨1,0,0⟩) (pc:=pc) h1 ⟨aa0 _,by decide,by decide,λh=>absurd rfl h,by decide⟩) ?_;refine jE [SW ⟨s,⟨b,ck,t,lu,wh,cr,mo,q⟩,qb,ub,hot,warm⟩ (fP c pc ⟨1,0,0⟩)] results22 ?_;exact .inr ⟨h0,⟨s,⟨b,ck,t,lu,wh,cr,mo,q⟩,qb,ub,hot,warm⟩,by dsimp only;omega,by dsimp only;omega,by dsimp only;omega,by dsimp only;omega,rfl,rfl⟩
 refine zl CF (TZ b q c.hot c.warm h2) .nil CI ?_;refine C9 ?_;refine jE [] results22 ?_;exact .inl (by unfold rY;rw[if_pos h1,if_neg h2];exact⟨by decide,rfl,rfl⟩)
def ku:um:=⟨8,3,4,2⟩
theorem ac6 (c:nZ):aO aaO 63 [.agg (jN c).toArray] (λ_=>True) []
  (λv H=>(rY c ku≠0/\v= .tuple #[.pointer none,CO CN (rY c ku)]/\H= [])\/(rY c ku=0/\∃z:Ly,z.hot=c.hot.toNat/\z.warm=c.warm.toNat/\z.hot<=90/\z.warm<=90/\v= .tuple #[CM z.s,CO CN 0]/\H= [SW z (fP c ku ⟨1,0,0⟩)])):=by
 refine ag func63 rfl ntmps63 rfl ?_;intro F _;refine av ?_;refine Lp (oB λb1=> ?_);refine bG ?_;refine Lp (oC CF rfl rfl (D9 c ku) .nil CI ?_);rintro v H' hr;refine aX ?_;rcases hr with⟨h1,rfl,rfl⟩|⟨h1,z,z1,z2,z3,z4,rfl,rfl⟩
 ·refine Li Ex ?_
  refine bE ?_;refine jE [] results63 ?_;exact .inl ⟨h1,rfl,rfl⟩
 refine Li Ex ?_;refine bE ?_;refine jE [SW z (fP c ku ⟨1,0,0⟩)] results63 ?_;exact .inr ⟨h1,z,z1,z2,z3,z4,rfl,rfl⟩
end Go.Proofs.YtcbcjolpdljbiaaGreat
