/- Part Pm of the proof. -/
import Derived.Test.YtdolmecackmjdaaGreatDoorPc1
import Derived.Test.YtdolmecackmjdaaGreatDoorPd
import Derived.Test.YtdolmecackmjdaaGreatDoorPe
import Derived.Test.YtdolmecackmjdaaGreatDoorPl
set_option maxRecDepth 100000
open Nat renaming le_refl → acG, zero_le → acS, mul_le_mul → adF, pow_le_pow_right → ady, mul_comm → ads, pow_succ → adK
open List renaming length_append → acI, mem_cons → acT, mem_singleton → acX, not_mem_nil → agA, replicate → acA, getElem?_map → acL, getElem?_replicate → ac8, getElem?_eq_getElem → acx, flatMap_def → ag0, map_replicate → adk, getElem?_eq_none → acK, replicate_succ → ag8, getD_eq_getElem?_getD → acy, length_replicate → adp, eq_of_mem_replicate → agv, nodup_nil → agW, flatten_cons → ahG, getElem_mem → acJ
open Int renaming natCast_mul → aio
open Decidable renaming byContradiction → acH
open Go.Proofs.Tryz renaming prog → acw
open Go.Proofs.Tryz
namespace Go.Proofs.YtdolmecackmjdaaGreatDoor
open Go Go.dL Go.Proofs.YtdolmecackmjdaaGreatDoor.Cs
def Ef (n:Int):Int:=IntKind.i64.wrap (BitVec.ofInt 64 n&&&BitVec.ofInt 64 (n-1)).toNat
def kH (c:pB):Bool:=decide (4096≤c.aq∧c.aq≤1048576∧Ef c.aq=0∧1≤c.cH∧c.cH≤1024∧105≤c.fac∧c.fac≤400∧64≤c.bO∧c.bO≤512∧c.bO % 8=0∧c.bO≤c.lim∧c.lim≤c.aq)
theorem QT (c:pB):aH acw 57 [.agg (jZ c).toArray] (λ_=>True) [] (λv H=>v= .bool (kH c)∧H= []):=by
 unfold jZ;have ok:∀b,(b=true↔(4096≤c.aq∧c.aq≤1048576∧Ef c.aq=0∧1≤c.cH∧c.cH≤1024∧105≤c.fac∧c.fac≤400∧64≤c.bO∧c.bO≤512∧c.bO % 8=0∧c.bO≤c.lim∧c.lim≤c.aq))→Value.bool b= .bool (kH c):=λb h=>congrArg Value.bool (by
  unfold kH;rw[Bool.eq_iff_iff,h,decide_eq_true_eq])
 refine ae func57 rfl ntmps57 rfl ?_;intro F _;refine ay ?_;refine Lp (oB λb1=> ?_);refine a8 ?_;refine au ?_;refine cg (ι:=Unit) [3,4,5,6,7,8,9,10,11,12,13,14,15,16,17,18,19,20,21,22,23,24,25,26,27,28,29,2] (λu=>4096≤c.aq∧c.aq≤1048576∧Ef c.aq=0∧1≤c.cH∧c.cH≤1024) (λu=> []) (λu=> [ag b1 23 [.int .i64 c.aq, .int .i64 c.cH, .int .i64 c.fac, .int .i64 c.bO, .int .i64 c.lim, .int .i64 c.hot, .int .i64 c.warm]]) ?_ ?_
 ·refine gU ?_
  refine aR ?_;refine aE (t:=6) rfl ?_ ?_
  ·intro cn
   replace cn:=aD cn;refine bT ?_;refine bw ?_;refine Rt [] results57 ?_;exact⟨ok _ ⟨(λh=>by cases h),λh=>by exfalso;first|omega|(simp_all;done)⟩,rfl⟩
  intro cn;replace cn:=aD cn;refine bc ?_;refine aE (t:=11) rfl ?_ ?_
  ·intro cm
   replace cm:=aD cm;refine bT ?_;refine bc ?_;refine Rt [] results57 ?_;exact⟨ok _ ⟨(λh=>by cases h),λh=>by exfalso;first|omega|(simp_all;done)⟩,rfl⟩
  intro cm;replace cm:=aD cm;refine bB ?_;refine ao (t:=17) (v':=(.int .i64 (Ef c.aq))) rfl (by(first|rfl|(refine congrArg (Value.int .i64) ?_;unfold Ef;rw[wrap_i64 (by omega)];rfl))) ?_;refine Li (Cm) ?_;refine a8 ?_;refine aE (t:=20) rfl ?_ ?_
  ·intro bS
   replace bS:=aD bS;refine qa ?_;refine Rt [] results57 ?_;exact⟨ok _ ⟨(λh=>by cases h),λh=>by exfalso;first|omega|(simp_all;done)⟩,rfl⟩
  intro bS;replace bS:=aD bS;refine bc ?_;refine aE (t:=25) rfl ?_ ?_
  ·intro bP
   replace bP:=aD bP;refine bK ?_;refine Rt [] results57 ?_;exact⟨ok _ ⟨(λh=>by cases h),λh=>by exfalso;first|omega|(simp_all;done)⟩,rfl⟩
  intro bP;replace bP:=aD bP;refine bc ?_;refine av rfl ?_ ?_
  ·intro cG
   replace cG:=aD cG;refine bc ?_;refine Rt [] results57 ?_;exact⟨ok _ ⟨(λh=>by cases h),λh=>by exfalso;first|omega|(simp_all;done)⟩,rfl⟩
  intro cG;replace cG:=aD cG;refine ay ?_;refine Me (()) ((by refine⟨?_, ?_, ?_, ?_, ?_⟩<;>omega))
 rintro u hI;refine bB ?_;refine aE (t:=33) rfl ?_ ?_
 ·intro cn
  replace cn:=aD cn;refine bK ?_;refine Rt [] results57 ?_;refine⟨ok _ ?_,rfl⟩
  first|exact⟨(λh=>by cases h),λh=>by exfalso;omega⟩|(rw[decide_eq_true_eq];constructor<;>intro h<;>omega)
 intro cn;replace cn:=aD cn;refine bc ?_;refine av rfl ?_ ?_
 ·intro cm
  replace cm:=aD cm;refine bc ?_;refine Rt [] results57 ?_;refine⟨ok _ ?_,rfl⟩
  first|exact⟨(λh=>by cases h),λh=>by exfalso;omega⟩|(rw[decide_eq_true_eq];constructor<;>intro h<;>omega)
 intro cm;replace cm:=aD cm;refine cI ?_;refine aE (t:=41) rfl ?_ ?_
 ·intro bS
  replace bS:=aD bS;refine kx ?_;refine Rt [] results57 ?_;refine⟨ok _ ?_,rfl⟩
  first|exact⟨(λh=>by cases h),λh=>by exfalso;omega⟩|(rw[decide_eq_true_eq];constructor<;>intro h<;>omega)
 intro bS;replace bS:=aD bS;refine bc ?_;refine aE (t:=46) rfl ?_ ?_
 ·intro bP
  replace bP:=aD bP;refine dQ ?_;refine Rt [] results57 ?_;refine⟨ok _ ?_,rfl⟩
  first|exact⟨(λh=>by cases h),λh=>by exfalso;omega⟩|(rw[decide_eq_true_eq];constructor<;>intro h<;>omega)
 intro bP;replace bP:=aD bP;refine a8 ?_;refine Li (Im) ?_;refine ao (t:=49) (v':=(.int .i64 (c.bO % 8))) rfl (by exact congrArg (Value.int .i64) (Int.tmod_eq_emod_of_nonneg (by omega))) ?_;refine aZ ?_;refine av rfl ?_ ?_
 ·intro cG
  replace cG:=aD cG;refine bc ?_;refine Rt [] results57 ?_;refine⟨ok _ ?_,rfl⟩
  first|exact⟨(λh=>by cases h),λh=>by exfalso;omega⟩|(rw[decide_eq_true_eq];constructor<;>intro h<;>omega)
 intro cG;replace cG:=aD cG;refine cN ?_;refine aE (t:=57) rfl ?_ ?_
 ·intro gg
  replace gg:=aD gg;refine cN ?_;refine Rt [] results57 ?_;refine⟨ok _ ?_,rfl⟩
  first|exact⟨(λh=>by cases h),λh=>by exfalso;omega⟩|(rw[decide_eq_true_eq];constructor<;>intro h<;>omega)
 intro gg;replace gg:=aD gg;refine cN ?_;refine Rt [] results57 ?_;refine⟨ok _ ?_,rfl⟩
 first|exact⟨(λh=>by cases h),λh=>by exfalso;omega⟩|(rw[decide_eq_true_eq];constructor<;>intro h<;>omega)
def pZ (fac last:Nat):Nat→Nat→List Nat
 |0,n=> [n]
 |k+1,n=>if last≤n then [n]else n::pZ fac last k (min last ((n*fac+799)/800*8))
def fJ (c:pB):Nat:=(c.lim.toNat+7)/8*8
def cV (c:pB):List Nat:=pZ c.fac.toNat (fJ c) 62 c.bO.toNat
theorem uY (fac last:Nat):∀k n,1≤(pZ fac last k n).length∧(pZ fac last k n).length≤k+1
 |0,n=>⟨acG _,acG _⟩
 |k+1,n=>by
  unfold pZ
  split
  ·exact⟨acG _,by simp⟩
  obtain⟨h1,h2⟩:=uY fac last k (min last ((n*fac+799)/800*8));rw[List.length_cons];omega
theorem QH (c:pB)(hr:kH c=true):aH acw 58 [.agg (jZ c).toArray] (λ_=>True) [] (λv H=>∃a cc,v= .slice a (cV c).length cc∧H= [own a cc 3 1 (aV (cV c))]):=by
 have hr:=of_decide_eq_true hr;obtain⟨h1,h2,h3,h4,h5,h6,h7,h8,h9,Uo,Un,uS⟩:=hr;obtain⟨fac,hf⟩:∃f:Nat,c.fac=f:=⟨c.fac.toNat,by omega⟩;obtain⟨bO,hm⟩:∃f:Nat,c.bO=f:=⟨c.bO.toNat,by omega⟩;obtain⟨lim,hl⟩:∃f:Nat,c.lim=f:=⟨c.lim.toNat,by omega⟩;have hs:cV c=pZ fac (fJ c) 62 bO:=by unfold cV;rw[hf,hm];rfl
 have hla:fJ c=(lim+7)/8*8:=by unfold fJ;rw[hl];rfl
 have hlb:fJ c≤1048583:=by omega
 unfold jZ;rw[hf,hm,hl,hs];rw[hf]at h6 h7;rw[hm]at h8 h9;refine ae func58 rfl ntmps58 rfl ?_;intro F _;refine ay ?_;refine Lp (oB λb1=> ?_);refine a8 ?_;refine WL ?_;refine aR ?_;refine ao (t:=8) (v':=(.int .i64 ((lim+7:Nat):Int))) rfl (by exact congrArg (Value.int .i64) rfl) ?_;refine Li (Qu (q:=8)) ?_;refine ay ?_;refine ao (t:=10) (v':=(.int .i64 ((lim+7)/8*8:Nat))) rfl (by exact congrArg (Value.int .i64) (by omega)) ?_;refine bc ?_;refine Lp (oT T.iA λb2=> ?_);refine a8 ?_;refine au ?_;refine WO ?_;refine aZ ?_;refine ao (t:=3) (v':=(.int .i64 (fJ c:Int))) rfl (by exact congrArg (Value.int .i64) (by rw[hla])) ?_;generalize hL:fJ c=L at*;refine aC (λk s=>bm (λh p=>nK p 1 1 rfl (by decide)) s) ?_;refine Lo (ι:=List Nat×Nat×Option Addr×Nat) [14,15,16,17,18,19,5,21,22,23,20,24,25,26,27,28,29,30,31,32,33,34,35,36,37,38,4] (λs=>(s.1.length≤62∧s.2.1≤1048583∧64≤s.2.1)∧pZ fac L 62 bO=s.1++pZ fac L (62-s.1.length) s.2.1) (λs=> [(4, .slice s.2.2.1 (s.1.length+1) s.2.2.2)]) (λs=> [ag b1 23 [.int .i64 c.aq, .int .i64 c.cH, .int .i64 (fac:Int), .int .i64 (bO:Int), .int .i64 (lim:Int), .int .i64 c.hot, .int .i64 c.warm],own s.2.2.1 s.2.2.2 3 1 (aV (s.1++ [s.2.1]))]) (λs=>62-s.1.length) (([],bO,some ⟨b2,0,none⟩,1)) ⟨⟨acS _,by dsimp only;omega,by dsimp only;omega⟩,rfl⟩ ?_;rintro⟨l,n,a,cc⟩ hI;dsimp only at hI⊢;obtain⟨⟨i1,i2,i3⟩,i4⟩:=hI;have uI:(aV (l++ [n]))[l.length]?=some (.int .i64 (n:Int)):=by unfold aV;rw[List.map_append,List.getElem?_append_right (by simp)];simp
 have YO:(aV (l++ [n])).length=l.length+1:=by unfold aV;simp
 refine fV (dZ (.there .here) (λ_ o=>fy o (by rw[YO];omega))) λhal=> ?_;refine bB ?_;refine ao (t:=17) (v':=(.int .i64 (l.length:Int))) rfl (by exact congrArg (Value.int .i64) (by omega)) ?_;refine Li (Ix T.qk (j:=l.length)) ?_;refine aZ ?_;refine au ?_;by_cases Y6:L≤n∨62≤l.length
 ·have he:pZ fac L (62-l.length) n= [n]:=by
   rcases Y6 with h|h
   ·rcases hk:62-l.length with _|k
    ·rfl
    unfold pZ;rw[if_pos h]
   rw[show 62-l.length=0 by omega];rfl
  rw[he]at i4;by_cases sU:L≤n
  ·refine fh ?_
   refine bH ?_;refine dz ?_;refine a8 ?_;refine dz ?_;refine dQ ?_;refine uD ?_;refine Rt [own a cc 3 1 (aV (l++ [n]))] results58 ?_;exact⟨a,cc,by rw[i4,acI];rfl,by rw[i4]⟩
  refine fh ?_;refine bH ?_;refine cu ?_;refine bB ?_;refine dz ?_;refine dQ ?_;refine uD ?_;refine Rt [own a cc 3 1 (aV (l++ [n]))] results58 ?_;exact⟨a,cc,by rw[i4,acI];rfl,by rw[i4]⟩
 obtain⟨k,hk⟩:∃k,62-l.length=k+1:=⟨61-l.length,by omega⟩;have he:pZ fac L (62-l.length) n=n::pZ fac L (62-(l.length+1)) (min L ((n*fac+799)/800*8)):=by
  rw[hk,show 62-(l.length+1)=k by omega]
  conv=>lhs;unfold pZ
  rw[if_neg (by omega)]
 rw[he]at i4;have hnf:n*fac≤1048583*400:=adF i2 (by omega);have hnf2:64*105≤n*fac:=adF i3 (by omega);refine cI ?_;refine cu ?_;refine bB ?_;refine cu ?_;refine bw ?_;refine ao (t:=32) (v':=(.int .i64 ((n*fac:Nat):Int))) rfl (by exact congrArg (Value.int .i64) (by first|rfl|(rw[←aio];exact wrap_i64 (by omega)))) ?_;generalize n*fac=nf at*;refine ay ?_;refine ao (t:=33) (v':=(.int .i64 ((nf+799:Nat):Int))) rfl (by exact congrArg (Value.int .i64) rfl) ?_;refine Li (Qu (q:=800)) ?_;refine ay ?_;refine Li Mi ?_;refine ao (t:=36) (v':=(.int .i64 (min L ((nf+799)/800*8):Nat))) rfl (by exact congrArg (Value.int .i64) (by omega)) ?_;generalize hmn:min L ((nf+799)/800*8)=mn at*;refine Lp (oT T.iA λb3=> ?_);refine Lp (bF T.iA T.uf rfl rfl rfl rfl (.there .here) (by simp[aV]) (rfl) (by simp[Value.oneCell']) (by first|omega|(simp;omega)) (by first|omega|(simp;omega)) rfl λa2 c2 ow=> ?_);refine aZ ?_;rw[show aV (l++ [n])++ [Value.int .i64 (mn:Int)]=aV ((l++ [n])++ [mn]) by rw[jm _ [mn]];rfl,show l.length+1=(l++ [n]).length by simp];have D5:(l++ [n]).length=l.length+1:=by simp
 have hi4:pZ fac L 62 bO=(l++ [n])++pZ fac L (62-(l++ [n]).length) mn:=by rw[i4,D5,List.append_assoc];rfl
 generalize l++ [n]=l2 at*;refine Ro ((l2,mn,a2,c2)) (⟨⟨(by dsimp only;omega),(by dsimp only;omega),(by dsimp only;omega)⟩,hi4⟩) ((by dsimp only;omega))
theorem aam{n:Nat}(h1:1≤n)(h2:n<4294967296)(h:Ef n=0):n&&&(n-1)=0:=by
 unfold Ef at h;have e1:(BitVec.ofInt 64 (n:Int)).toNat=n:=by rw[BitVec.toNat_ofInt];omega
 have e2:(BitVec.ofInt 64 ((n:Int)-1)).toNat=n-1:=by rw[BitVec.toNat_ofInt];omega
 rw[BitVec.toNat_and,e1,e2]at h;have h3:n&&&(n-1)≤n:=Nat.and_le_left;generalize n&&&(n-1)=x at*;simp[IntKind.wrap,IntKind.bits,IntKind.signed]at h;omega
theorem aal{n:Nat}(h1:1≤n)(h:n&&&(n-1)=0):n=2^n.log2:=by
 have l1:=Nat.log2_self_le (n:=n) (by omega);have l2:=Nat.lt_log2_self (n:=n);refine acH λg=> ?_;have bit:∀x,2^n.log2≤x→x<2^(n.log2+1)→x.testBit n.log2=true:=λx a b=>by
  obtain⟨i,hi,ht⟩:=Nat.exists_ge_and_testBit_of_ge_two_pow a;have:i=n.log2:=by
   refine acH λe=> ?_;have h3:x<2^i:=Nat.lt_of_lt_of_le b (ady (by decide) (by omega));rw[Nat.testBit_lt_two_pow h3]at ht;cases ht
  rw[←this];exact ht
 have b1:=bit n l1 l2;have b2:=bit (n-1) (by omega) (by omega);have:(n&&&(n-1)).testBit n.log2=true:=by rw[Nat.testBit_and,b1,b2];rfl
 rw[h]at this;simp at this
def TB:List Nat:= [4096,8192,16384,32768,65536,131072,262144,524288,1048576]
theorem ae2{n:Nat}(h1:4096≤n)(h2:n≤1048576)(h:Ef n=0):n∈TB:=by
 have e:=aal (by omega) (aam (by omega) (by omega) h);have k1:12≤n.log2:=by
  refine acH λg=> ?_;have:=ady (n:=2) (by decide) (show n.log2≤11 by omega);omega
 have k2:n.log2≤20:=by
  refine acH λg=> ?_;have:=ady (n:=2) (by decide) (show 21≤n.log2 by omega);omega
 rw[e];generalize n.log2=k at*;have:k=12∨k=13∨k=14∨k=15∨k=16∨k=17∨k=18∨k=19∨k=20:=by omega
 rcases this with rfl|rfl|rfl|rfl|rfl|rfl|rfl|rfl|rfl<;>decide
theorem JW (n:Nat):aH acw 149 [.int .u64 (n:Int)] (λ_=>True) [] (λv H=>(∃z:Int,v= .int .i64 z∧(n∈TB→z=1))∧H= []):=by
 refine ae func149 rfl ntmps149 rfl ?_;intro F _;refine bc ?_;refine Li (Sr 1) ?_;refine cI ?_;refine Li (Sr 2) ?_;refine cI ?_;refine Li (Sr 4) ?_;refine cI ?_;refine Li (Sr 8) ?_;refine bB ?_;refine Li (Sr 16) ?_;refine bB ?_;refine Li (Sr 32) ?_;refine bw ?_;refine Rt [] results149 ?_;refine⟨⟨_,rfl,λh=> ?_⟩,rfl⟩;simp only[TB,acT,acX,agA,or_false]at h;rcases h with rfl|rfl|rfl|rfl|rfl|rfl|rfl|rfl|rfl<;>decide+kernel
theorem wR{z:List Value}(n k:Nat)(hk:k=n*z.length):gu z k=(acA n z).flatten:=by
 subst hk;rcases Nat.eq_zero_or_pos z.length with h0|h0
 ·rw[List.eq_nil_of_length_eq_zero h0];simp[gu]
 apply List.ext_getElem?;intro i;have e:((acA n z).flatten).length=n*z.length:=by simp
 by_cases hi:i<n*z.length
 ·have q:i/z.length<n:=(Nat.div_lt_iff_lt_mul h0).2 hi
  have r:i % z.length<z.length:=Nat.mod_lt _ h0;unfold gu;rw[acL,List.getElem?_range hi];have:=bE (f:=λ_:Unit=>z) (k:=z.length) (λ_=>rfl) (l:=acA n ()) (i:=i/z.length) (a:=()) (by rw[ac8,if_pos q]) (j:=i % z.length) (v:=z[i % z.length]) (acx r);rw[Option.map_some,acx r];rw[show i/z.length*z.length+i % z.length=i from by rw[ads];exact Nat.div_add_mod i _]at this;rw[ag0,adk]at this;exact this.symm
 rw[acK (by rw[jJ];omega),acK (by omega)]
theorem VQ (n:Nat):aH acw 97 [.int .u64 (n:Int)] (λ_=>True) [] (λv H=>(∃z:Int,v= .int .i64 z∧(n∈TB→z=1))∧H= []):=by
 refine ae func97 rfl ntmps97 rfl ?_;intro F _;refine cN ?_;refine Lp (oC T.abt rfl rfl (JW n) .nil (λ_ _ _=>trivial) ?_);rintro v H' ⟨⟨z,rfl,hz⟩,rfl⟩;refine bd ?_;refine aZ ?_;refine Rt [] results97 ?_;exact⟨⟨z,rfl,hz⟩,rfl⟩
theorem Tg (n:Nat):gu [.int .u8 0] (n*1)=dT (λ_=>0) n:=by
 rw[o0,Nat.mul_one];unfold dT ai jt;simp[List.map_map,Function.comp_def,List.map_const']
theorem Xe (s n:Nat)(h1:s∈TB)(h2:1≤n)(h3:n≤1024):aH acw 59 [.int .i64 (s:Int), .int .i64 (n:Int)] (λ_=>True) []
  (λv H=>∃a ab,v= .tuple #[.pointer (some ⟨a,0,none⟩), .int .i64 0]∧H= [ag a 192 (iq ab s (s*n)),ag ab 5 (dT (λ_=>0) (s*n))]):=by
 have hs:4096≤s∧s≤1048576:=by
  simp only[TB,acT,agA,or_false]at h1;omega
 have hb:s*n≤1048576*1024:=adF hs.2 h3;unfold iq;refine ae func59 rfl ntmps59 rfl ?_;intro F _;refine bc ?_;refine au ?_;refine cg (ι:=Unit) [6,7,8,9,10,11,12,13,14,15,16,17,18,19,20,21,22,23,24,25] (λu=>True) (λu=> [(25, .bool false)]) (λu=> []) ?_ ?_
 ·refine cC ?_
  refine aZ ?_;refine aE (t:=8) rfl ?_ ?_
  ·intro cn
   replace cn:=aD cn;refine kx ?_;refine az ?_;refine Me (()) (trivial)
  intro cn;replace cn:=aD cn;refine aR ?_;refine aE (t:=12) rfl ?_ ?_
  ·intro cm
   replace cm:=aD cm;refine gR ?_;refine az ?_;refine Me (()) (trivial)
  intro cm;replace cm:=aD cm;refine a8 ?_;refine ao (t:=14) (v':=(.int .u64 (s:Int))) rfl (by(first|rfl|exact congrArg (Value.int .u64) (by first|rfl|exact wrap_u64 (by omega)))) ?_;refine Lp (oC T.afr rfl rfl (VQ s) .nil (λ_ _ _=>trivial) ?_);rintro v H' ⟨⟨z,rfl,hz⟩,rfl⟩;refine bd ?_;refine aZ ?_;refine aE (t:=18) rfl ?_ ?_
  ·intro bS
   replace bS:=aD bS;refine bH ?_;refine az ?_;refine Me (()) (trivial)
  intro bS;replace bS:=aD bS;refine aR ?_;refine aE (t:=22) rfl ?_ ?_
  ·intro bP
   replace bP:=aD bP;refine aZ ?_;refine az ?_;refine Me (()) (trivial)
  intro bP;replace bP:=aD bP;refine aZ ?_;refine az ?_;refine Me (()) (trivial)
 rintro u hI;refine cI ?_;refine ao (t:=29) (v':=(.int .i64 ((s*n:Nat):Int))) rfl (by exact congrArg (Value.int .i64) (by first|rfl|(rw[←aio];exact wrap_i64 (by omega)))) ?_;refine Lp (oM (s*n) (s*n) T.gj λb1=> ?_);rw[Tg];refine ay ?_;refine Lp (oB λb2=> ?_);refine aR ?_;refine iH [ag b2 192 [.int .i64 (s:Int), .slice (some ⟨b1,0,none⟩) (s*n) (s*n)],ag b1 5 (dT (λ_=>0) (s*n))] results59 ?_;exact⟨_,_,rfl,rfl⟩
theorem N4{aq fac last:Nat}(h1:last≤aq)(h2:64≤last)(h3:last % 8=0)(h4:105≤fac):∀k n,64≤n→n≤aq→n % 8=0→∀z∈pZ fac last k n,64≤z∧z≤aq∧z % 8=0
 |0,n,a,b,c,z,hz=>by
  unfold pZ at hz;rw[acX]at hz;subst hz;exact⟨a,b,c⟩
 |k+1,n,a,b,c,z,hz=>by
  unfold pZ at hz
  split at hz
  ·rw[acX]at hz
   subst hz;exact⟨a,b,c⟩
  rw[acT]at hz;rcases hz with rfl|hz
  ·exact⟨a,b,c⟩
  have:64*105≤n*fac:=adF a h4;exact N4 h1 h2 h3 h4 k _ (by omega) (by omega) (by omega) z hz
def dw (c:pB):Cs:=⟨c,c.aq.toNat,c.cH.toNat,cV c,acA c.cH.toNat .no,acA (cV c).length ⟨[],0,0,0⟩,c.cH.toNat,λ_=>0⟩
def lz (c:pB):Int:=if kH c=true then if 62<(cV c).length then 2 else if c.cH<((cV c).length:Int)then 3 else 0 else 1
theorem pw_8{n:Nat}(h:n∈TB):n % 8=0:=by
 simp only[TB,acT,agA,or_false]at h;omega
theorem Vh (n k:Nat):(acA n k).sum=n*k:=by
 induction n with
 |zero=>simp
 |succ n ih=>rw[ag8,List.sum_cons,ih,Nat.succ_mul];omega
theorem A6{c:pB}(h:lz c=0):Ok (dw c)∧(c.aq=(c.aq.toNat:Int))∧c.cH=(c.cH.toNat:Int)∧c.aq.toNat∈TB:=by
 unfold lz at h
 split at h
 case isFalse=>cases h
 case isTrue hr=>
 split at h
 case isTrue=>cases h
 case isFalse h62=>
 split at h
 case isTrue=>cases h
 case isFalse jv=>
 obtain⟨h1,h2,h3,h4,h5,h6,h7,h8,h9,Uo,Un,uS⟩:=of_decide_eq_true hr;obtain⟨aq,hp⟩:∃f:Nat,c.aq=f:=⟨c.aq.toNat,by omega⟩;obtain⟨cH,hg⟩:∃f:Nat,c.cH=f:=⟨c.cH.toNat,by omega⟩;have hpp:c.aq.toNat=aq:=by omega
 have hgg:c.cH.toNat=cH:=by omega
 rw[hp]at h3;have hpw:=ae2 (n:=aq) (by omega) (by omega) h3;have p8:=pw_8 hpw;have hl:=uY c.fac.toNat (fJ c) 62 c.bO.toNat;have hla:fJ c=(c.lim.toNat+7)/8*8:=rfl;have pA:∀z∈cV c,64≤z∧z≤aq∧z % 8=0:=N4 (by omega) (by omega) (by omega) (by omega) 62 _ (by omega) (by omega) (by omega);have rwE:∀k,(dw c).rw k=⟨[],0,0,0⟩:=λk=>by
  unfold Cs.rw dw;rw[acy,ac8]
  split<;>rfl
 have pgE:∀k,(dw c).pg k= .no:=λk=>by
  unfold Cs.pg dw;rw[acy,ac8]
  split<;>rfl
 have UP:∀f:Pg→Nat,(dw c).D9 f=cH*f .no:=λf=>by
  unfold Cs.D9 dw;rw[adk,Vh,hgg]
 have noAt:∀p,¬Cs.At (dw c) p:=λp a=>by
  have:=a.own;rw[pgE]at this;cases this
 refine⟨⟨⟨?_, ?_, ?_, ?_, ?_, ?_, ?_, ?_, ?_, ?_⟩, ?_, ?_, ?_, ?_, ?_, ?_, ?_, ?_⟩,by omega,by omega,by rw[hpp];exact hpw⟩
 ·show 4096≤c.aq.toNat;omega
 ·show c.aq.toNat≤1048576;omega
 ·show c.aq.toNat % 8=0;omega
 ·show 1≤c.cH.toNat;omega
 ·show c.cH.toNat≤1024;omega
 ·exact hl.1
 ·show(cV c).length≤62;omega
 ·intro z hz
  have:=pA z hz;exact⟨this.1,by show z≤c.aq.toNat;omega,this.2.2⟩
 ·exact adp
 ·exact adp
 ·intro x hx
  obtain rfl:=agv hx;exact⟨(λh=>by cases h),(λh=>by cases h),rfl,(λg hg=>by cases hg),(λg hg=>by cases hg),agW,rfl,λ_=>⟨rfl,rfl,rfl⟩⟩
 ·intro k p hp
  rw[rwE]at hp;cases hp
 ·intro k;rw[rwE];exact agW
 ·intro k p f;exact absurd f.toAt (noAt p)
 ·intro k _;rw[rwE,UP];simp[yf,Pg.no]
 ·intro k _;rw[rwE,UP];simp[zX,Pg.no]
 ·intro k _;rw[rwE,UP];simp[BP,Pg.no]
 rw[UP];show c.cH.toNat=cH*yk .no;rw[hgg];simp[yk,Pg.no]
theorem XB (n:Nat):gu [.bool false, .bool false, .int .i64 0, .slice none 0 0, .slice none 0 0, .int .i64 0, .map none] (n*7)=(acA n (⟨.no,none,none,none⟩:uT)).flatMap eZ:=by
 rw[wR n (n*7) rfl,ag0,adk];rfl
theorem XA (n:Nat):gu [.slice none 0 0, .int .i64 0, .int .i64 0, .int .i64 0] (n*4)=(acA n (⟨⟨[],0,0,0⟩,none,0⟩:Ey)).flatMap eW:=by
 rw[wR n (n*4) rfl,ag0,adk];rfl
theorem aaq{a:Option Addr}{cap e sz:Nat}{xs:List Value}{k:Hp}(o:own a cap e sz xs k)(h:0<xs.length):∃b,a=some ⟨b,0,none⟩:=by
 obtain⟨h1,_,⟨_,rfl⟩|⟨b,_,rfl,_⟩⟩:=o
 ·rw[Nat.zero_mul]at h1;omega
 exact⟨b,rfl⟩
theorem tB{l:List aa}(hl:∀A∈l,∀h,A h):∀h,aN l h:=by
 induction l with
 |nil=>intro h;exact trivial
 |cons A l ih=>intro h;exact iB (hl A (List.mem_cons_self ..)) (ih (λB hB=>hl B (List.mem_cons_of_mem _ hB)) h)
theorem ab7{c:pB}{p g b ar ab sa pb rb cc:Nat}{S:List Nat}{H:List aa}{h:Hp}(c1:c.aq=p)(c2:c.cH=g)(hS:cV c=S)
  (s:ak (ag b 136 [.int .i64 p, .int .i64 g, .int .i64 c.fac, .int .i64 c.bO, .int .i64 c.lim, .int .i64 c.hot, .int .i64 c.warm, .pointer (some ⟨ar,0,none⟩), .slice (some ⟨sa,0,none⟩) S.length cc, .slice (some ⟨pb,0,none⟩) g g, .slice (some ⟨rb,0,none⟩) S.length S.length, .int .i64 g]::
   own (some ⟨sa,0,none⟩) cc 3 1 (aV S)::ag pb 224 ((acA g (⟨.no,none,none,none⟩:uT)).flatMap eZ)::ag rb 253 ((acA S.length (⟨⟨[],0,0,0⟩,none,0⟩:Ey)).flatMap eW)::ag ar 192 (iq ab p (p*g))::ag ab 5 (dT (λ_=>0) (p*g))::H) h):ak (Cl b (dw c)::H) h:=by
 have q1:c.aq.toNat=p:=by omega
 have q2:c.cH.toNat=g:=by omega
 have e:dw c=⟨c,p,g,S,acA g .no,acA S.length ⟨[],0,0,0⟩,g,λ_=>0⟩:=by unfold dw;rw[q1,q2,hS]
 rw[e];refine xB (y:=⟨ar,ab,sa,pb,rb,cc,acA g ⟨.no,none,none,none⟩,acA S.length ⟨⟨[],0,0,0⟩,none,0⟩⟩) ⟨by simp,by simp, ?_,c1,c2⟩ ?_
 ·intro x hx
  obtain rfl:=agv hx;exact⟨rfl,rfl,λ_=>rfl⟩
 unfold qC eh p7;dsimp only;rw[ads g p];refine aO (λ_ s=>aO (λ_ s=>aO (λ_ s=>iB ?_ (aO (λ_ s=>iB ?_ s) s)) s) s) s
 ·refine tB λA hA=> ?_
  rw[adk]at hA;obtain rfl:=agv hA;refine tB λB hB=> ?_;simp only[acT,agA,or_false]at hB;rcases hB with rfl|rfl|rfl<;>exact λ_=>trivial
 refine tB λA hA=> ?_;rw[adk]at hA;obtain rfl:=agv hA;exact λh=>AY _ _ h
theorem W6 (c:pB):aH acw 28 [.agg (jZ c).toArray] (λ_=>True) []
  (λv H=>(lz c≠0∧v= .tuple #[.pointer none, .int .i64 (lz c)]∧H= [])∨(lz c=0∧∃b,v= .tuple #[.pointer (some ⟨b,0,none⟩), .int .i64 0]∧H= [Cl b (dw c)])):=by
 refine ae func28 rfl ntmps28 rfl ?_;intro F _;refine ay ?_;refine Lp (oB λb1=> ?_);refine bB ?_;refine zl T.afH (QT c) .nil (λ_ _ _=>trivial) ?_;refine a8 ?_;by_cases hr:kH c=true
 ·refine cu ?_ (e:=by exact congrArg (!·) hr)
  refine aR ?_;refine Lp (oC T.afG rfl rfl (QH c hr) .nil (λ_ _ _=>trivial) ?_);rintro v H' ⟨a,cc,rfl,rfl⟩;refine bd ?_;refine cI ?_;by_cases h62:62<(cV c).length
  ·refine dz ?_
   refine bB ?_;refine iH [] results28 ?_;refine .inl ⟨?_, ?_,rfl⟩<;>(unfold lz;rw[if_pos hr,if_pos h62]);decide
  refine cu ?_;refine bw ?_;by_cases jv:c.cH<((cV c).length:Int)
  ·refine dz ?_ (e:=by exact decide_eq_true jv)
   refine bB ?_;refine iH [] results28 ?_;refine .inl ⟨?_, ?_,rfl⟩<;>(unfold lz;rw[if_pos hr,if_neg h62,if_pos jv]);decide
  refine cu ?_ (e:=by exact decide_eq_false jv);have h0:lz c=0:=by unfold lz;rw[if_pos hr,if_neg h62,if_neg jv]
  obtain⟨K,e1,e2,e3⟩:=A6 h0;have hpg1:c.cH.toNat≤1024:=K.n1;have hl:0<(cV c).length:=(uY _ _ _ _).1;refine fV (dZ .here (λ_ o=>aaq o (by unfold aV;rw[List.length_map];exact hl))) λ⟨sa,hsa⟩=> ?_;subst hsa;obtain⟨aq,cH,fac,bO,lim,hot,warm⟩:=c;obtain⟨p,rfl⟩:∃p:Nat,aq=p:=⟨_,e1⟩;obtain⟨g,rfl⟩:∃g:Nat,cH=g:=⟨_,e2⟩;change p∈TB at e3;have hg0:1≤g:=K.n0;have hg1:g≤1024:=K.n1;generalize hc:(⟨p,g,fac,bO,lim,hot,warm⟩:pB)=c at*;unfold jZ;have c1:c.aq=p:=by rw[←hc]
  have c2:c.cH=g:=by rw[←hc]
  rw[c1,c2];refine bH ?_;refine Lp (oC T.afF rfl rfl (Xe p g e3 hg0 hg1) .nil (λ_ _ _=>trivial) ?_);rintro v H' ⟨ar,ab,rfl,rfl⟩;refine bd ?_;refine fF ?_;refine au ?_;generalize hS:cV c=S at*;refine cg (ι:=Nat×Nat×Nat) [31,32,33,34,35,36,37,38,39,40,41,42,43,2,3] (λ(b,pb,rb)=>True) (λ(b,pb,rb)=> [(2, .pointer (some ⟨b,0,none⟩)),(3, .int .i64 0)]) (λ(b,pb,rb)=> [ag b1 23 [.int .i64 p, .int .i64 g, .int .i64 c.fac, .int .i64 c.bO, .int .i64 c.lim, .int .i64 c.hot, .int .i64 c.warm],ag b 136 [.int .i64 p, .int .i64 g, .int .i64 c.fac, .int .i64 c.bO, .int .i64 c.lim, .int .i64 c.hot, .int .i64 c.warm, .pointer (some ⟨ar,0,none⟩), .slice (some ⟨sa,0,none⟩) S.length cc, .slice (some ⟨pb,0,none⟩) g g, .slice (some ⟨rb,0,none⟩) S.length S.length, .int .i64 g],ag pb 224 ((acA g (⟨.no,none,none,none⟩:uT)).flatMap eZ),ag rb 253 ((acA S.length (⟨⟨[],0,0,0⟩,none,0⟩:Ey)).flatMap eW),ag ar 192 (iq ab p (p*g)),ag ab 5 (dT (λ_=>0) (p*g)),own (some ⟨sa,0,none⟩) cc 3 1 (aV S)]) ?_ ?_
  ·refine wu T.mix (.cons (.there (.there (.there .here))) .nil) λF1 iT cj aI=> ?_
   obtain⟨hs,_⟩:=cj;refine Dt 0 rfl (LfN T.Cq) ?_;refine Dt 1 rfl Mv ?_;refine Dt 2 rfl Mv ?_;refine Dt 3 rfl (Fa T.xw) ?_;refine Dt 4 rfl (Lf T.bR) ?_;refine Dt 6 rfl Mv ?_;refine Dt 7 rfl (Ln T.qk) ?_;refine Dt 9 rfl (Fa T.xw) ?_;refine Dt 10 rfl (Lf T.bR) ?_;refine D2 5 8 ?_ ?_
   ·refine Do rfl (oM (g) (g) T.PW λb2=> ?_)
    refine ay ?_;refine Dn 8 ?_;refine Do rfl (oM (S.length) (S.length) T.PV λb3=> ?_);refine ay ?_;refine Dt 11 rfl (Bd T.NW T.N7) ?_;refine Dn 12 ?_;refine Do rfl (oB λb4=> ?_);refine ay ?_;refine Dt 13 rfl As ?_;refine Dt 14 rfl As ?_;refine bC (by kernel_rfl) aI ?_;rw[XB,XA];refine Me ((b4,b2,b3)) (trivial)
   refine Do rfl (oM (S.length) (S.length) T.PV λb5=> ?_);refine ay ?_;refine Dn 5 ?_;refine Do rfl (oM (g) (g) T.PW λb6=> ?_);refine ay ?_;refine Dt 11 rfl (Bd T.NW T.N7) ?_;refine Dn 12 ?_;refine Do rfl (oB λb7=> ?_);refine ay ?_;refine Dt 13 rfl As ?_;refine Dt 14 rfl As ?_;refine bC (by kernel_rfl) aI ?_;rw[XB,XA];refine Me ((b7,b6,b5)) (trivial)
  rintro⟨b,pb,rb⟩ hI
  try dsimp only at hI⊢
  refine ay ?_;refine Hh (H':= [ag b 136 [.int .i64 p, .int .i64 g, .int .i64 c.fac, .int .i64 c.bO, .int .i64 c.lim, .int .i64 c.hot, .int .i64 c.warm, .pointer (some ⟨ar,0,none⟩), .slice (some ⟨sa,0,none⟩) S.length cc, .slice (some ⟨pb,0,none⟩) g g, .slice (some ⟨rb,0,none⟩) S.length S.length, .int .i64 g],own (some ⟨sa,0,none⟩) cc 3 1 (aV S),ag pb 224 ((acA g (⟨.no,none,none,none⟩:uT)).flatMap eZ),ag rb 253 ((acA S.length (⟨⟨[],0,0,0⟩,none,0⟩:Ey)).flatMap eW),ag ar 192 (iq ab p (p*g)),ag ab 5 (dT (λ_=>0) (p*g)),ag b1 23 [.int .i64 p, .int .i64 g, .int .i64 c.fac, .int .i64 c.bO, .int .i64 c.lim, .int .i64 c.hot, .int .i64 c.warm]]) ?_;refine aC (λ_ s=>ab7 c1 c2 hS s) ?_;refine iH [Cl b (dw c)] results28 ?_;exact .inr ⟨h0,b,rfl,rfl⟩
 refine dz ?_ (e:=by exact congrArg (!·) (by simpa using hr));refine bB ?_;refine iH [] results28 ?_;refine .inl ⟨?_, ?_,rfl⟩<;>(unfold lz;rw[if_neg hr]);decide
theorem aeq (C:Cs)(n:Nat):gu [.int .u64 0, .int .u64 0, .int .i64 0, .int .u64 0, .int .u64 0, .int .i64 0, .int .u64 0, .int .u64 0, .int .i64 0] (n*9)=(acA (n*3) []).flatMap (eH C):=by
 rw[wR n (n*9) rfl,ag0,adk]
 induction n with
 |zero=>rfl
 |succ n ih=>
  rw[ag8,ahG,ih,show(n+1)*3=n*3+1+1+1 by omega];simp only[ag8,ahG];rfl
theorem VA (b:Nat)(C:Cs)(K:Ok C):aH acw 29 [.pointer (some ⟨b,0,none⟩)] (In (Cl b C)) []
  (λv H=>∃q qb,v= .tuple #[.pointer (some ⟨q,0,none⟩), .int .i64 0]∧H= [ag q 139 (fP b qb C.af.length),ag qb 327 ((acA (C.af.length*3) []).flatMap (eH C))]):=by
 have hl:=K.l1;unfold fP;refine ae func29 rfl ntmps29 rfl ?_;intro F hc;refine nj ?_;refine zl T.Hb (nL b C) .nil (λ_ le _=>hc.mono le) ?_;refine Lp (oM (C.af.length) (C.af.length) T.acq λb1=> ?_);rw[aeq C];refine ay ?_;refine Lp (oB λb2=> ?_);refine aR ?_;refine iH [ag b2 139 [.pointer (some ⟨b,0,none⟩), .slice (some ⟨b1,0,none⟩) C.af.length C.af.length],ag b1 327 ((acA (C.af.length*3) []).flatMap (eH C))] results29 ?_;exact⟨_,_,rfl,rfl⟩
def grow (lim:Nat):Nat→Nat→Nat
 |0,n=>n
 |k+1,n=>if 2*n≤lim then grow lim k (2*n)else n
def mC (C:Cs):Nat:=grow (min (4*(C.n*(C.aq/C.sz 0))) 1048576) 16 16
theorem Ig (lim:Nat)(h:lim≤1048576):∀k n,(∃m,m+k=20∧n=2^m)→16≤n→∃m,m≤20∧grow lim k n=2^m∧16≤grow lim k n
 |0,n,⟨m,h1,h2⟩,h3=>⟨m,by omega,h2,h3⟩
 |k+1,n,⟨m,h1,h2⟩,h3=>by
  unfold grow
  split
  ·exact Ig lim h k (2*n) ⟨m+1,by omega,by rw[h2,adK];omega⟩ (by omega)
  exact⟨m,by omega,h2,h3⟩
def np (m:Nat):Tb:=⟨m,0,16,acA 16 [],[],0,0⟩
theorem VY{C:Cs}{m:Nat}(h:∃j,j≤20∧m=2^j)(MB:16≤m):dq C (np m):=by
 have ch:∀x,(np m).ch x= []:=λx=>by
  obtain⟨f,i⟩:=x;unfold Tb.ch np;rcases f with _|_
  ·simp only[Bool.false_eq_true,if_false,acy,ac8]
   split<;>rfl
  simp[acy]
 have al:(np m).all= []:=by unfold np Tb.all;simp
 refine⟨⟨4,by decide,by simp[np]⟩, .inl rfl, .inl ⟨rfl,rfl⟩,h,by simp[np],acG _,MB,acS _, ?_, ?_, ?_, ?_, ?_, ?_, ?_⟩
 ·rw[al];rfl
 ·rw[al];exact agW
 ·intro x;rw[ch];trivial
 ·intro p hp;rw[al]at hp;cases hp
 ·intro p hp;rw[al]at hp;cases hp
 ·intro x p hp;rw[ch]at hp;cases hp
 intro p hp;rw[al]at hp;cases hp
theorem Vd (b:Nat)(C:Cs)(K:Ok C):aH acw 31 [.pointer (some ⟨b,0,none⟩)] (In (Cl b C)) []
  (λv H=>∃t nk,v= .tuple #[.pointer (some ⟨t,0,none⟩), .int .i64 0]∧H= [ag t 145 (fA b (np (mC C)) ⟨nk,none⟩),ag nk 163 (aJ (aA (np (mC C)).nb))]):=by
 have hl:=K.l0;obtain⟨z1,z2,z3⟩:=K.toFix.sz (c:=0) (by omega);have n0:=K.n0;have n1:=K.n1;have p0:=K.p0;have p1:=K.p1;have hq:C.aq/C.sz 0≤16384:=Nat.div_le_of_le_mul (by omega);have hm:C.n*(C.aq/C.sz 0)≤1024*16384:=adF n1 hq;obtain⟨ft,YS⟩:∃ft,ft=C.n*(C.aq/C.sz 0):=⟨_,rfl⟩;unfold fA mC;rw[←YS]at hm⊢;refine ae func31 rfl ntmps31 rfl ?_;intro F hc;obtain⟨y,hy,_⟩:=Yy hc;have TV:=L5 b C;have hcE:jZ C.cfg= [.int .i64 (C.aq:Int), .int .i64 (C.n:Int), .int .i64 C.cfg.fac, .int .i64 C.cfg.bO, .int .i64 C.cfg.lim, .int .i64 C.cfg.hot, .int .i64 C.cfg.warm]:=by
  unfold jZ;rw[hy.aq,hy.cH]
 rw[hcE]at TV;have hch:ofM C 0 (λi=>C.sz i)=C.sz 0:=by unfold ofM;rw[if_pos ⟨by omega,by omega⟩];rfl
 have ad9:=tU b C K 0;rw[hch]at ad9;refine fF ?_;refine zl T.afE (TV) .nil (λ_ le _=>hc.mono le) ?_;refine Lp (oA T.Nl λb1=> ?_);refine bB ?_;refine au ?_;refine ao (t:=5) (v':=(.int .i64 ((16:Nat):Int))) rfl (by rfl) ?_;refine gK 8 T.mix (.cons .here .nil) λF1 iT cj aI=> ?_;obtain⟨q1,_⟩:=cj;refine bc ?_;refine Tp (oC T.NG rfl rfl (ad9) .nil (λ_ le _=>(hc.mono iT).mono le) ?_);rintro v H' ⟨rfl,rfl⟩;refine bd ?_;refine Ti (Qu) ?_;refine Ti (MuN) ?_;refine gd aI ?_;refine ao (t:=18) (v':=(.int .i64 (ft:Int))) rfl (by exact congrArg (Value.int .i64) (by rw[YS])) ?_;refine aZ ?_;refine Lo (ι:=Nat×Nat) [19,20,21,22,23,24,25,26,5] (λs=>(∃m,m+s.1=20∧s.2=2^m)∧16≤s.2∧s.2≤1048576∧grow (min (4*ft) 1048576) 16 16=grow (min (4*ft) 1048576) s.1 s.2) (λs=> [(5, .int .i64 (s.2:Int))]) (λs=> [ag b1 23 [.int .i64 (C.aq:Int), .int .i64 (C.n:Int), .int .i64 C.cfg.fac, .int .i64 C.cfg.bO, .int .i64 C.cfg.lim, .int .i64 C.cfg.hot, .int .i64 C.cfg.warm]]) (λs=>s.1) ((16,16)) ⟨⟨4,rfl,rfl⟩,acG _,(by decide),rfl⟩ ?_;rintro⟨k,n⟩ ⟨⟨m,i1,i2⟩,i3,i4,i5⟩;dsimp only at i1 i2 i3 i4 i5⊢;refine bB ?_;refine Li Mi ?_;refine ao (t:=23) (v':=(.int .i64 ((min (4*ft) 1048576:Nat):Int))) rfl (by exact congrArg (Value.int .i64) (by omega)) ?_;generalize TP:min (4*ft) 1048576=lm at*;have ad7:lm≤1048576:=by omega
 refine a8 ?_;refine av rfl ?_ ?_
 ·intro hle
  replace hle:=aD hle;obtain⟨k,rfl⟩:∃j,k=j+1:=by
   refine⟨k-1, ?_⟩;rcases k with _|k
   ·rw[show m=20 by omega]at i2
    exfalso;omega
   omega
  have e:grow lm (k+1) n=grow lm k (2*n):=by
   conv=>lhs;unfold grow
   rw[if_pos (by omega)]
  refine cN ?_;refine ao (t:=5) (v':=(.int .i64 ((2*n:Nat):Int))) rfl (by exact congrArg (Value.int .i64) (by omega)) ?_;refine Ro ((k,2*n)) (⟨⟨m+1,by omega,by rw[i2,adK];omega⟩,by omega,by omega,i5.trans e⟩) ((by dsimp only;omega))
 intro hle;replace hle:=aD hle;have e:grow lm k n=n:=by
  rcases k with _|k
  ·rfl
  unfold grow;rw[if_neg (by omega)]
 rw[i5,e];refine cI ?_;refine Lp (oM (16) (16) T.AO λb2=> ?_);rw[zi];refine ay ?_;refine Lp (oB λb3=> ?_);refine aR ?_;refine iH [ag b3 145 (fA b (np n) ⟨b2,none⟩),ag b2 163 (aJ (aA (np n).nb))] results31 ?_;exact⟨_,_,rfl,rfl⟩
theorem aaW:(acw.underlying 154).map (λd=>match d with| .func .. =>true|_=>false)=some true:=by kernel_rfl
theorem Rc (n:Nat):gu [.int .i64 0] (n*1)=aV (acA n 0):=by
 rw[o0,Nat.mul_one];unfold aV;rw[adk];rfl
def uJ (n:Nat):lB:=⟨acA n 0,0,0,0,0,false⟩
theorem V5 (b:Nat)(C:Cs)(K:Ok C)(f g h:Fn)(fa ga ha:Array Value):
  aH acw 67 [.pointer (some ⟨b,0,none⟩), .func f fa #[], .func g ga #[], .func h ha #[]] (In (Cl b C)) []
   (λv H=>∃a ub,v= .tuple #[.pointer (some ⟨a,0,none⟩), .int .i64 0]∧H= [oa a b ub (.func f fa #[]) (.func g ga #[]) (.func h ha #[]) (uJ C.af.length),oz ub (uJ C.af.length)]):=by
 have hl:=K.l1;unfold oa moC oz;refine ae func67 rfl ntmps67 rfl ?_;intro F hc;refine cN ?_;refine zf 12 ?_ (e:=by rfl);refine ay ?_;refine Li (Fne OC) ?_;refine a8 ?_;refine zf 16 ?_ (e:=by rfl);refine ay ?_;refine Li (Fne E8) ?_;refine a8 ?_;refine zf 20 ?_ (e:=by rfl);refine ay ?_;refine Li (Fne aaW) ?_;refine bK ?_;refine zl T.Hb (nL b C) .nil (λ_ le _=>hc.mono le) ?_;refine Lp (oM (C.af.length) (C.af.length) T.iA λb1=> ?_);rw[Rc];refine ay ?_;refine Lp (oB λb2=> ?_);refine aR ?_;refine iH [ag b2 201 [.pointer (some ⟨b,0,none⟩), .func f fa #[], .func g ga #[], .func h ha #[], .slice (some ⟨b1,0,none⟩) C.af.length C.af.length, .int .i64 0, .int .i64 0, .int .i64 0, .int .i64 0, .bool false],ag b1 3 (aV (acA C.af.length 0))] results67 ?_;refine⟨b2,b1,rfl, ?_⟩;unfold uJ;dsimp only;rw[adp];rfl
theorem RD (b q:Nat)(hot warm:Int)(h:¬(1≤hot∧1≤warm∧hot+warm≤90)):
  aH acw 30 [.pointer (some ⟨b,0,none⟩), .pointer (some ⟨q,0,none⟩), .int .i64 hot, .int .i64 warm] (λ_=>True) []
   (λv H=>v= .tuple #[.pointer none, .int .i64 1]∧H= []):=by
 refine ae func30 rfl ntmps30 rfl ?_;intro F _;refine cN ?_;refine zf 12 ?_ (e:=by rfl);refine aR ?_;refine zf 16 ?_ (e:=by rfl);refine aR ?_;by_cases h1:hot<1
 ·refine zt 20 ?_ (e:=by exact decide_eq_true h1)
  refine bT ?_;refine ay ?_;refine iH [] results30 ?_;exact⟨rfl,rfl⟩
 refine zf 20 ?_ (e:=by exact decide_eq_false h1);refine aR ?_;by_cases h2:warm<1
 ·refine zt 24 ?_ (e:=by exact decide_eq_true h2)
  refine kx ?_;refine iH [] results30 ?_;exact⟨rfl,rfl⟩
 refine zf 24 ?_ (e:=by exact decide_eq_false h2);refine aR ?_;by_cases h3:90<hot
 ·refine zt 28 ?_ (e:=by exact decide_eq_true h3)
  refine gR ?_;refine iH [] results30 ?_;exact⟨rfl,rfl⟩
 refine zf 28 ?_ (e:=by exact decide_eq_false h3);refine bB ?_;refine dz ?_;refine bB ?_;refine iH [] results30 ?_;exact⟨rfl,rfl⟩
def yl (p:ua):List Value:= [.int .i64 p.b, .int .i64 p.l, .int .i64 p.c, .int .i64 p.m]
theorem V4 (c:pB)(pc:ua)(b q lu t:Nat)(C:Cs)(K:Ok C)(k:Ck)(hk:rJ k)(aM:Nat):
  aH acw 32 [.agg (jZ c).toArray, .agg (yl pc).toArray, .pointer (some ⟨b,0,none⟩), .pointer (some ⟨q,0,none⟩), .pointer (some ⟨lu,0,none⟩), .pointer (some ⟨t,0,none⟩), .agg #[.int .i64 (k.now:Int), .int .u64 (aM:Int), .int .u64 (k.cut:Int), .int .i64 (k.dH:Int)]] (In (Cl b C)) []
   (λv H=>∃s ck wh cr mo ub,v= .tuple #[.pointer (some ⟨s,0,none⟩), .int .i64 0]∧H= [gY s ⟨b,ck,t,lu,wh,cr,mo,q⟩ (gJ ⟨c,pc,0,0,⟨0,0,0,0,0,0,0⟩,none,0,0⟩),lD ck k,Wl wh [] 0,gZ cr q wh C.af.length (bJ s) (bI s) C ⟨0,false,0,0,none,0⟩,oa mo b ub (bJ s) (bI s) (cK s) (uJ C.af.length),oz ub (uJ C.af.length)]):=by
 have k1:=hk.n1;have k2:=hk.n2;have k3:=hk.p;have k4:=hk.pn;have l0:=K.l0;have l1:=K.l1;unfold jZ yl gY;refine ae func32 rfl ntmps32 rfl ?_;intro F hc;refine ay ?_;refine Lp (oB λb1=> ?_);refine Lp (oB λb2=> ?_);refine Lp (oB λb3=> ?_);refine bw ?_;refine Lp (oC T.afD rfl rfl (SZ k k1 k2 (by omega) (by omega)) .nil (λ_ _ _=>trivial) ?_);rintro v H' ⟨ck,rfl,rfl⟩;refine bd ?_;refine fF ?_;refine au ?_;refine gK 11 T.mix (.cons (.there (.there .here)) (.cons (.there (.there .here)) .nil)) λF1 iT cj aI=> ?_;obtain⟨q1,q2,_⟩:=cj;refine aR ?_;refine Tp (oC T.afC rfl rfl (Xg) .nil (λ_ _ _=>trivial) ?_);rintro v H' ⟨wh,rfl,rfl⟩;refine bd ?_;refine aR ?_;refine ao (t:=38) (v':=(.agg #[.pointer (some ⟨b,0,none⟩), .pointer (some ⟨ck,0,none⟩), .pointer (some ⟨t,0,none⟩), .pointer (some ⟨lu,0,none⟩), .pointer (some ⟨wh,0,none⟩), .pointer none, .pointer none, .pointer (some ⟨q,0,none⟩)])) rfl (by rfl) ?_;refine ao (t:=39) (v':=(.agg #[.int .i64 c.aq, .int .i64 c.cH, .int .i64 c.fac, .int .i64 c.bO, .int .i64 c.lim, .int .i64 c.hot, .int .i64 c.warm])) rfl (by rfl) ?_;refine ao (t:=40) (v':=(.agg #[.int .i64 pc.b, .int .i64 pc.l, .int .i64 pc.c, .int .i64 pc.m])) rfl (by rfl) ?_;refine ay ?_;refine ao (t:=41) (v':=(.agg #[.pointer (some ⟨b,0,none⟩), .pointer (some ⟨ck,0,none⟩), .pointer (some ⟨t,0,none⟩), .pointer (some ⟨lu,0,none⟩), .pointer (some ⟨wh,0,none⟩), .pointer none, .pointer none, .pointer (some ⟨q,0,none⟩), .int .i64 c.aq, .int .i64 c.cH, .int .i64 c.fac, .int .i64 c.bO, .int .i64 c.lim, .int .i64 c.hot, .int .i64 c.warm, .int .i64 pc.b, .int .i64 pc.l, .int .i64 pc.c, .int .i64 pc.m, .int .u64 0, .int .i64 0, .int .i64 0, .int .i64 0, .int .i64 0, .int .i64 0, .int .i64 0, .int .i64 0, .int .i64 0, .slice none 0 0])) rfl (by(simp only[Value.cells,bU,List.set_cons_zero,List.set_cons_succ];first|rfl|done)) ?_;refine Tp (oB λb4=> ?_);refine gd aI ?_;refine a8 ?_;refine au ?_;refine cg (ι:=Nat) [44,45,46,47,48,49,50,51,52,53,54,55,56,57,43,58,59,60,61,62,17] (λcr=>True) (λcr=> [(17, .int .i64 0),(18, .pointer (some ⟨b4,0,none⟩))]) (λcr=> [ag b4 111 [.pointer (some ⟨b,0,none⟩), .pointer (some ⟨ck,0,none⟩), .pointer (some ⟨t,0,none⟩), .pointer (some ⟨lu,0,none⟩), .pointer (some ⟨wh,0,none⟩), .pointer (some ⟨cr,0,none⟩), .pointer none, .pointer (some ⟨q,0,none⟩), .int .i64 c.aq, .int .i64 c.cH, .int .i64 c.fac, .int .i64 c.bO, .int .i64 c.lim, .int .i64 c.hot, .int .i64 c.warm, .int .i64 pc.b, .int .i64 pc.l, .int .i64 pc.c, .int .i64 pc.m, .int .u64 0, .int .i64 0, .int .i64 0, .int .i64 0, .int .i64 0, .int .i64 0, .int .i64 0, .int .i64 0, .int .i64 0, .slice none 0 0],gZ cr q wh C.af.length (bJ b4) (bI b4) C ⟨0,false,0,0,none,0⟩,Wl wh [] 0,lD ck k]) ?_ ?_
 ·refine wu T.mix .nil λF2 yi ez dX=> ?_
  refine Dt 0 rfl Mv ?_;refine Dt 1 rfl Mv ?_;refine Dt 2 rfl Mv ?_;refine Dt 3 rfl Nc ?_;refine Dt 4 rfl (Fa T.ki) ?_;refine Dt 5 rfl (Fa T.zH) ?_;refine Dt 7 rfl Mv ?_;refine Dt 9 rfl Mv ?_;refine Dt 10 rfl Mf ?_;refine Dt 11 rfl Mv ?_;refine Dt 12 rfl Mf ?_;refine D2 6 8 ?_ ?_
  ·refine Do rfl (oL T.EV ?_)
   refine ay ?_;refine Dn 8 ?_;refine Do rfl (oC T.Hb rfl rfl (nL b C) .nil (λ_ le _=>(hc.mono yi).mono le) ?_);rintro v H' ⟨rfl,rfl⟩;refine bd ?_;refine ay ?_;refine Dn 13 ?_;refine Do rfl (oC T.Yn rfl rfl (IH q wh C.af.length l0 l1 (.func 40) (.func 66) #[.pointer (some ⟨b4,0,none⟩)] #[] #[.pointer (some ⟨b4,0,none⟩)] #[] C) .nil (λ_ _ _=>trivial) ?_);rintro v H' ⟨cr,rfl,rfl⟩;refine bd ?_;refine ay ?_;refine Dt 14 rfl Mv ?_;refine Dt 15 rfl Ex ?_;refine Dt 16 rfl Ex ?_;refine Dt 17 rfl Nc ?_;refine Dt 18 rfl (Fa T.ki) ?_;refine Dt 19 rfl (Fa T.tS) ?_;refine Dn 20 ?_;refine Do rfl (oS T.wH ?_);refine ay ?_;refine Dt 21 rfl As ?_;refine bC (by kernel_rfl) dX ?_;refine Me (cr) (trivial)
  refine Do rfl (oC T.Hb rfl rfl (nL b C) .nil (λ_ le _=>(hc.mono yi).mono le) ?_);rintro v H' ⟨rfl,rfl⟩;refine bd ?_;refine ay ?_;refine Dn 6 ?_;refine Do rfl (oL T.EV ?_);refine ay ?_;refine Dn 13 ?_;refine Do rfl (oC T.Yn rfl rfl (IH q wh C.af.length l0 l1 (.func 40) (.func 66) #[.pointer (some ⟨b4,0,none⟩)] #[] #[.pointer (some ⟨b4,0,none⟩)] #[] C) .nil (λ_ _ _=>trivial) ?_);rintro v H' ⟨cr,rfl,rfl⟩;refine bd ?_;refine ay ?_;refine Dt 14 rfl Mv ?_;refine Dt 15 rfl Ex ?_;refine Dt 16 rfl Ex ?_;refine Dt 17 rfl Nc ?_;refine Dt 18 rfl (Fa T.ki) ?_;refine Dt 19 rfl (Fa T.tS) ?_;refine Dn 20 ?_;refine Do rfl (oS T.wH ?_);refine ay ?_;refine Dt 21 rfl As ?_;refine bC (by kernel_rfl) dX ?_;refine Me (cr) (trivial)
 rintro cr hI;refine dQ ?_;refine Li Mf ?_;refine ay ?_;refine Li Mf ?_;refine ay ?_;refine Li Mf ?_;refine Lp (oC T.afB rfl rfl (V5 b C K (.func 40) (.func 66) (.func 68) #[.pointer (some ⟨b4,0,none⟩)] #[.pointer (some ⟨b4,0,none⟩)] #[.pointer (some ⟨b4,0,none⟩)]) .nil (λ_ le _=>hc.mono le) ?_);rintro v H' ⟨mo,ub,rfl,rfl⟩;refine bd ?_;refine bT ?_;refine aZ ?_;refine iH [ag b4 111 [.pointer (some ⟨b,0,none⟩), .pointer (some ⟨ck,0,none⟩), .pointer (some ⟨t,0,none⟩), .pointer (some ⟨lu,0,none⟩), .pointer (some ⟨wh,0,none⟩), .pointer (some ⟨cr,0,none⟩), .pointer (some ⟨mo,0,none⟩), .pointer (some ⟨q,0,none⟩), .int .i64 c.aq, .int .i64 c.cH, .int .i64 c.fac, .int .i64 c.bO, .int .i64 c.lim, .int .i64 c.hot, .int .i64 c.warm, .int .i64 pc.b, .int .i64 pc.l, .int .i64 pc.c, .int .i64 pc.m, .int .u64 0, .int .i64 0, .int .i64 0, .int .i64 0, .int .i64 0, .int .i64 0, .int .i64 0, .int .i64 0, .int .i64 0, .slice none 0 0],lD ck k,Wl wh [] 0,gZ cr q wh C.af.length (bJ b4) (bI b4) C ⟨0,false,0,0,none,0⟩,oa mo b ub (bJ b4) (bI b4) (cK b4) (uJ C.af.length),oz ub (uJ C.af.length)] results32 ?_;exact⟨b4,ck,wh,cr,mo,ub,rfl,rfl⟩
def fk (c:pB)(pc:ua)(k:Ck):Mo:=
 ⟨dw c,none,acA ((dw c).af.length*3) [],λ_=>⟨[],[],0,0,0,0,0⟩,λ_=>0,⟨0,false,0,0,none,0⟩,0,k,uJ (dw c).af.length,16,0,mC (dw c),⟨c,pc,0,0,⟨0,0,0,0,0,0,0⟩,none,0,0⟩,[],0⟩
theorem Rb{c:pB}(p:Nat):¬Live (dw c) p:=λL=>by
 have:=L.own;unfold Cs.pg dw at this;rw[acy,ac8]at this
 split at this<;>cases this
theorem EY (n i:Nat):ql (acA n []) i= []:=by
 unfold ql;rw[acy,ac8]
 split<;>rfl
theorem HT{c:pB}(h:lz c=0)(pc:ua)(k:Ck)(hk:rJ k)(nk:Nat):bY ⟨dw c,np (mC (dw c)),⟨nk,none⟩,[]⟩ (fk c pc k):=by
 obtain⟨K,e1,e2,e3⟩:=A6 h;have l1:=K.l1;have al:(np (mC (dw c))).all= []:=by unfold np Tb.all;simp
 have hm:∃m,m≤20∧mC (dw c)=2^m∧16≤mC (dw c):=Ig _ (by omega) 16 16 ⟨4,rfl,rfl⟩ (acG _);obtain⟨m,m1,m2,m3⟩:=hm;have pgE:∀i,(dw c).pg i= .no:=λi=>by
  unfold Cs.pg dw;rw[acy,ac8]
  split<;>rfl
 have qe:∀i p,p∈ql (fk c pc k).Q i→False:=λi p hp=>by
  rw[show(fk c pc k).Q=acA ((dw c).af.length*3) []from rfl,EY]at hp;cases hp
 refine⟨rfl,K,VY ⟨m,m1,m2⟩ m3,λ_=>rfl,⟨?_,λi p hp=>(qe i p hp).elim,λi p hp=>(qe i p hp).elim,λi p hp=>(qe i p hp).elim,λi=> ?_,λi k hk=> ?_,λi k hk=> ?_⟩,⟨?_, ?_, ?_, ?_⟩,λi p hp=>(qe i p hp).elim,hk,λp=> ?_,λp=> ?_, ?_, ?_, ?_,(λh=>by cases h),rfl,rfl,rfl, ?_, ?_, ?_,λi hi=> ?_,rfl,rfl,rfl,λp hp=> ?_⟩
 ·exact adp
 ·rw[show(fk c pc k).Q=acA ((dw c).af.length*3) []from rfl,EY];exact agW
 ·exact(qe i _ (acJ hk)).elim
 ·exact(qe i _ (acJ hk)).elim
 ·intro h;cases h
 ·intro _;exact⟨rfl,rfl,rfl,rfl⟩
 ·intro p h;cases h
 ·exact acS _
 ·constructor
  ·intro h;dsimp only at h;rw[al]at h;cases h
  rintro⟨i,hi⟩;exact(qe i p hi).elim
 ·constructor
  ·intro h;exact(Rb p h).elim
  rintro(h|h)
  ·dsimp only at h;rw[al]at h;cases h
  cases h
 ·intro p h;cases h
 ·intro p hp;dsimp only at hp;rw[al]at hp;cases hp
 ·unfold iU;dsimp only;rw[al];exact List.Perm.refl _
 ·dsimp only;rw[al];rfl
 ·exact adp
 ·intro h;cases h
 ·dsimp only at hi;rw[pgE]at hi;cases hi
 dsimp only at hp;rw[al]at hp;cases hp
theorem ZD{c:pB}{pc:ua}{k:Ck}{s b ck t lu wh cr mo q qb ub nk:Nat}{hot warm:Nat}(h:lz c=0)(hk:rJ k){H:List aa}:∀h,ak ([Cl b (dw c),ag t 145 (fA b (np (mC (dw c))) ⟨nk,none⟩),ag nk 163 (aJ (aA (np (mC (dw c))).nb)),ag q 139 (fP b qb (dw c).af.length),ag qb 327 ((acA ((dw c).af.length*3) []).flatMap (eH (dw c))),gZ cr q wh (dw c).af.length (bJ s) (bI s) (dw c) ⟨0,false,0,0,none,0⟩,Wl wh [] 0,gY s ⟨b,ck,t,lu,wh,cr,mo,q⟩ (gJ ⟨c,pc,0,0,⟨0,0,0,0,0,0,0⟩,none,0,0⟩),lD ck k,jN lu b q hot warm,oa mo b ub (bJ s) (bI s) (cK s) (uJ (dw c).af.length),oz ub (uJ (dw c).af.length)]++H) h→ak (SW ⟨s,⟨b,ck,t,lu,wh,cr,mo,q⟩,qb,ub,hot,warm⟩ (fk c pc k)::H) h:=λh0 s0=>
 gm none 0 h0 (aQ (B:=⟨dw c,np (mC (dw c)),⟨nk,none⟩,[]⟩) (HT h pc k hk nk) h0 (by
  unfold fQ;dsimp only[List.cons_append,List.nil_append];refine aO (λ_ s=>aO (λ_ s=>aO (λ_ s=>iB (λ_=>trivial) (aO (λ_ s=>aO (λ_ s=>aO (λ_ s=>aO (λ_ s=>aO (λ_ s=>aO (λ_ s=>aO (λ_ s=>aO (λ_ s=>aO (λ_ s=>iB (λk=>AY _ _ k) s) s) s) s) s) s) s) s) s) s)) s) s) s0))
def XM (p:ua):Bool:=decide ((0≤p.b∧p.b≤1048576)∧(0≤p.l∧p.l≤1048576)∧(0≤p.c∧p.c≤1048576)∧(0≤p.m∧p.m≤1048576))
def qE (c:pB)(p:ua):Int:=if lz c=0 then if 1≤c.hot∧1≤c.warm∧c.hot+c.warm≤90 then if XM p=true then 0 else 1 else 1 else lz c
theorem agm:BR acw 88=some (4,3,1):=by kernel_rfl
theorem CS (c:pB)(pc:ua):aH acw 8 [.agg (jZ c).toArray, .agg (yl pc).toArray] (λ_=>True) []
  (λv H=>(qE c pc≠0∧v= .tuple #[.pointer none, .int .i64 (qE c pc)]∧H= [])∨(qE c pc=0∧∃z:Ly,z.hot=c.hot.toNat∧z.warm=c.warm.toNat∧z.hot≤90∧z.warm≤90∧v= .tuple #[.pointer (some ⟨z.s,0,none⟩), .int .i64 0]∧H= [SW z (fk c pc ⟨1,0,0⟩)])):=by
 unfold yl;refine ae func8 rfl ntmps8 rfl ?_;intro F _;refine ay ?_;refine Lp (oB λb1=> ?_);refine Lp (oB λb2=> ?_);refine bc ?_;refine Lp (oC T.afY rfl rfl (W6 c) .nil (λ_ _ _=>trivial) ?_);rintro v H' hr;refine bd ?_;rcases hr with⟨h1,rfl,rfl⟩|⟨h1,b,rfl,rfl⟩
 ·refine Li Mv ?_
  refine bw ?_;refine dz ?_ (e:=by exact congrArg (!·) (decide_eq_false h1));refine bH ?_;refine iH [] results8 ?_;exact .inl (by unfold qE;rw[if_neg h1];exact⟨h1,rfl,rfl⟩)
 refine Li Mv ?_;refine bK ?_;obtain⟨K,e1,e2,e3⟩:=A6 h1;refine aR ?_;refine Lp (oC T.afX rfl rfl (VA b (dw c) K) .nil (λ_ le aw=>aw.1) ?_);rintro v H' ⟨q,qb,rfl,rfl⟩;refine bd ?_;refine bT ?_;refine ay ?_;by_cases h2:1≤c.hot∧1≤c.warm∧c.hot+c.warm≤90
 ·obtain⟨hot,hh⟩:∃n:Nat,c.hot=n:=⟨c.hot.toNat,by omega⟩
  obtain⟨warm,hw⟩:∃n:Nat,c.warm=n:=⟨c.warm.toNat,by omega⟩;refine ao (t:=33) (v':=(.int .i64 (hot:Int))) rfl (by exact congrArg (Value.int .i64) hh) ?_;refine ao (t:=35) (v':=(.int .i64 (warm:Int))) rfl (by exact congrArg (Value.int .i64) hw) ?_;refine Lp (oC T.Ys rfl rfl (Wp b q hot warm (by omega) (by omega) (by omega)) .nil (λ_ _ _=>trivial) ?_);rintro v H' ⟨lu,rfl,rfl⟩;refine bd ?_;refine bT ?_;refine aR ?_;refine Li (Bda T.aes T.agn) ?_;refine aZ ?_;refine Lo (ι:=Nat) [52,53,11,54,55,56,57,58,59,4,5,60,51] (λi=>i≤4∧∀j,j<i→∃z:Int,[pc.b,pc.l,pc.c,pc.m][j]?=some z∧0≤z∧z≤1048576) (λi=> [(51, .int .i64 (i:Int))]) (λi=> [jN lu b q hot warm,ag q 139 (fP b qb (dw c).af.length),ag qb 327 ((acA ((dw c).af.length*3) []).flatMap (eH (dw c))),Cl b (dw c),ag b2 25 [.int .i64 pc.b, .int .i64 pc.l, .int .i64 pc.c, .int .i64 pc.m],ag b1 23 (jZ c)]) (λi=>4-i) (0) ⟨acS _,λj h=>absurd h (Nat.not_lt_zero j)⟩ ?_;rintro i ⟨i1,i2⟩;refine aZ ?_;refine au ?_;refine av rfl ?_ ?_
  ·intro hi
   replace hi:=aD hi;have hi4:i<4:=by omega
   obtain⟨z,hz⟩:∃z,[pc.b,pc.l,pc.c,pc.m][i]?=some z:=⟨_,acx (by simpa using hi4)⟩;have BL:([.int .i64 pc.b, .int .i64 pc.l, .int .i64 pc.c, .int .i64 pc.m]:List Value)[i]?=some (.int .i64 z):=by
    have:([.int .i64 pc.b, .int .i64 pc.l, .int .i64 pc.c, .int .i64 pc.m]:List Value)= [pc.b,pc.l,pc.c,pc.m].map (Value.int .i64):=rfl;rw[this,acL,hz];rfl
   refine bc ?_;refine Li (Ias agm T.bR (j:=i) (cs:= [.int .i64 pc.b, .int .i64 pc.l, .int .i64 pc.c, .int .i64 pc.m]) (v:= .int .i64 z)) ?_;refine bB ?_;have bad:¬(0≤z∧z≤1048576)→qE c pc=1:=λh=>by
    unfold qE;rw[if_pos h1,if_pos h2,if_neg];intro e;obtain⟨p1,p2,p3,p4⟩:=of_decide_eq_true e;rcases i with _|_|_|_|i
    ·cases hz;exact h p1
    ·cases hz;exact h p2
    ·cases hz;exact h p3
    ·cases hz;exact h p4
    omega
   by_cases z0:z<0
   ·refine zt 56 ?_ (e:=by exact decide_eq_true z0)
    refine nj ?_;refine iH [] results8 ?_;exact .inl (by rw[bad (by omega)];exact⟨by decide,rfl,rfl⟩)
   refine zf 56 ?_ (e:=by exact decide_eq_false z0);refine aR ?_;by_cases z1:1048576<z
   ·refine dz ?_ (e:=by exact decide_eq_true z1)
    refine bw ?_;refine iH [] results8 ?_;exact .inl (by rw[bad (by omega)];exact⟨by decide,rfl,rfl⟩)
   refine cu ?_ (e:=by exact decide_eq_false z1);refine bB ?_;refine az ?_;refine Ro (i+1) (⟨by omega,λj hj=> ?_⟩) ((by omega));by_cases TR:j=i
   ·subst TR;exact⟨z,hz,by omega,by omega⟩
   exact i2 j (by omega)
  intro hi;replace hi:=aD hi;obtain rfl:i=4:=by omega
  have hp:XM pc=true:=by
   obtain⟨z0,a0,b0⟩:=i2 0 (by decide);obtain⟨z1,a1,b1⟩:=i2 1 (by decide);obtain⟨z2,a2,b2⟩:=i2 2 (by decide);obtain⟨z3,a3,b3⟩:=i2 3 (by decide);cases a0;cases a1;cases a2;cases a3;exact decide_eq_true ⟨b0,b1,b2,b3⟩
  have h0:qE c pc=0:=by unfold qE;rw[if_pos h1,if_pos h2,if_pos hp]
  refine bH ?_;refine Lp (oC T.afW rfl rfl (Vd b (dw c) K) .nil (λ_ le aw=>aw.2.2.2.1) ?_);rintro v H' ⟨t,nk,rfl,rfl⟩;refine bd ?_;refine bT ?_;refine a8 ?_;refine Lp (oC T.afV rfl rfl (V4 c pc b q lu t (dw c) K ⟨1,0,0⟩ ⟨acG _,by decide,by decide,λh=>absurd rfl h,by decide⟩ 0) .nil (λ_ le aw=>aw.2.2.2.2.2.1) ?_);rintro v H' ⟨s,ck,wh,cr,mo,ub,rfl,rfl⟩;refine bd ?_;refine bB ?_;refine Hh (H':= [Cl b (dw c),ag t 145 (fA b (np (mC (dw c))) ⟨nk,none⟩),ag nk 163 (aJ (aA (np (mC (dw c))).nb)),ag q 139 (fP b qb (dw c).af.length),ag qb 327 ((acA ((dw c).af.length*3) []).flatMap (eH (dw c))),gZ cr q wh (dw c).af.length (bJ s) (bI s) (dw c) ⟨0,false,0,0,none,0⟩,Wl wh [] 0,gY s ⟨b,ck,t,lu,wh,cr,mo,q⟩ (gJ ⟨c,pc,0,0,⟨0,0,0,0,0,0,0⟩,none,0,0⟩),lD ck ⟨1,0,0⟩,jN lu b q hot warm,oa mo b ub (bJ s) (bI s) (cK s) (uJ (dw c).af.length),oz ub (uJ (dw c).af.length),ag b2 25 [.int .i64 pc.b, .int .i64 pc.l, .int .i64 pc.c, .int .i64 pc.m],ag b1 23 (jZ c)]) ?_;refine aC (ZD (k:=⟨1,0,0⟩) (pc:=pc) h1 ⟨acG _,by decide,by decide,λh=>absurd rfl h,by decide⟩) ?_;refine iH [SW ⟨s,⟨b,ck,t,lu,wh,cr,mo,q⟩,qb,ub,hot,warm⟩ (fk c pc ⟨1,0,0⟩)] results8 ?_;exact .inr ⟨h0,⟨s,⟨b,ck,t,lu,wh,cr,mo,q⟩,qb,ub,hot,warm⟩,by dsimp only;omega,by dsimp only;omega,by dsimp only;omega,by dsimp only;omega,rfl,rfl⟩
 refine zl T.Ys (RD b q c.hot c.warm h2) .nil (λ_ _ _=>trivial) ?_;refine z6 ?_;refine iH [] results8 ?_;exact .inl (by unfold qE;rw[if_pos h1,if_neg h2];exact⟨by decide,rfl,rfl⟩)
def jD:ua:=⟨8,3,4,2⟩
theorem aax (c:pB):aH acw 10 [.agg (jZ c).toArray] (λ_=>True) []
  (λv H=>(qE c jD≠0∧v= .tuple #[.pointer none, .int .i64 (qE c jD)]∧H= [])∨(qE c jD=0∧∃z:Ly,z.hot=c.hot.toNat∧z.warm=c.warm.toNat∧z.hot≤90∧z.warm≤90∧v= .tuple #[.pointer (some ⟨z.s,0,none⟩), .int .i64 0]∧H= [SW z (fk c jD ⟨1,0,0⟩)])):=by
 refine ae func10 rfl ntmps10 rfl ?_;intro F _;refine ay ?_;refine Lp (oB λb1=> ?_);refine bB ?_;refine Lp (oC T.aef rfl rfl (CS c jD) .nil (λ_ _ _=>trivial) ?_);rintro v H' hr;refine bd ?_;rcases hr with⟨h1,rfl,rfl⟩|⟨h1,z,z1,z2,z3,z4,rfl,rfl⟩
 ·refine Li Ex ?_
  refine bc ?_;refine iH [] results10 ?_;exact .inl ⟨h1,rfl,rfl⟩
 refine Li Ex ?_;refine bc ?_;refine iH [SW z (fk c jD ⟨1,0,0⟩)] results10 ?_;exact .inr ⟨h1,z,z1,z2,z3,z4,rfl,rfl⟩
end Go.Proofs.YtdolmecackmjdaaGreatDoor
