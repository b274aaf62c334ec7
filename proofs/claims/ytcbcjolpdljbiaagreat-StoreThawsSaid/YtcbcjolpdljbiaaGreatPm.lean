/- Part Pm of the proof. -/
import Derived.Test.YtcbcjolpdljbiaaGreatPl
set_option maxRecDepth 100000
open Go.Proofs.YtcbcjolpdljbiaaGreat.T
open Nat renaming le_refl -> aam, zero_le -> abL, mul_le_mul -> af8, pow_le_pow_right -> agf, mul_comm -> agc, pow_succ -> agu
open List renaming length_append -> aby, mem_cons -> abE, mem_singleton -> abR, not_mem_nil -> agD, replicate -> aae, getElem?_map -> abD, getElem?_replicate -> ab1, getElem?_eq_getElem -> aac, flatMap_def -> ag9, map_replicate -> af3, getElem?_eq_none -> aal, replicate_succ -> ajH, getD_eq_getElem?_getD -> aab, length_replicate -> aga, eq_of_mem_replicate -> agx, nodup_nil -> ag5, flatten_cons -> aj6, getElem_mem -> abC
open Int renaming natCast_mul -> akM
open Decidable renaming byContradiction -> abz
open Go.Proofs.Tryz renaming prog -> aaa
open Go.Proofs.Tryz
open Go.Value renaming int -> Dm
open Go.IntKind renaming i64 -> Dl, u64 -> Dj, u8 -> ala
namespace Go.Proofs.YtcbcjolpdljbiaaGreat
open Go Go.dC Go.Proofs.YtcbcjolpdljbiaaGreat.Cs
def ZV (n:Int):Int:=IntKind.i64.wrap (BitVec.ofInt 64 n&&&BitVec.ofInt 64 (n-1)).toNat
def pY (c:ra):Bool:=decide (4096<=c.ao/\c.ao<=1048576/\ZV c.ao=0/\1<=c.bA/\c.bA<=1024/\105<=c.iG/\c.iG<=400/\64<=c.eI/\c.eI<=512/\c.eI % 8=0/\c.eI<=c.lim/\c.lim<=c.ao)
theorem T8 (c:ra):aG aaa 105 [.agg (mT c).toArray] uT [] (λv H=>v= .bool (pY c)/\H= []):=by
 unfold mT;have ok:∀b,(b=true↔(4096<=c.ao/\c.ao<=1048576/\ZV c.ao=0/\1<=c.bA/\c.bA<=1024/\105<=c.iG/\c.iG<=400/\64<=c.eI/\c.eI<=512/\c.eI % 8=0/\c.eI<=c.lim/\c.lim<=c.ao))->Value.bool b= .bool (pY c):=λb h=>congrArg Value.bool (by
  unfold pY;rw[Bool.eq_iff_iff,h,decide_eq_true_eq])
 refine af func105 rfl ntmps105 rfl ?_;intro F _;refine aw ?_;refine Lp (oB λb1=> ?_);refine bd ?_;refine av ?_;refine eK (ι:=Unit) (FN [2,28]) (λu=>4096<=c.ao/\c.ao<=1048576/\ZV c.ao=0/\1<=c.bA/\c.bA<=1024) (λu=> []) (λu=> [ag b1 29 [Dm Dl c.ao,Dm Dl c.bA,Dm Dl c.iG,Dm Dl c.eI,Dm Dl c.lim,Dm Dl c.hot,Dm Dl c.warm]]) ?_ ?_
 ·refine gK ?_
  refine bc ?_;refine bJ (t:=6) rfl ?_ ?_
  ·intro fm
   replace fm:=aO fm;refine cK ?_;refine bB ?_;refine Rt [] results105 ?_;exact⟨ok _ ⟨(λh=>by cases h),λh=>by exfalso;first|omega|(simp_all;done)⟩,rfl⟩
  intro fm;replace fm:=aO fm;refine bn ?_;refine bJ (t:=11) rfl ?_ ?_
  ·intro fh
   replace fh:=aO fh;refine cK ?_;refine bn ?_;refine Rt [] results105 ?_;exact⟨ok _ ⟨(λh=>by cases h),λh=>by exfalso;first|omega|(simp_all;done)⟩,rfl⟩
  intro fh;replace fh:=aO fh;refine bs ?_;refine aA (t:=17) (v':=(Dm Dl (ZV c.ao))) rfl (by(first|rfl|(refine congrArg (Value.int .i64) ?_;unfold ZV;rw[wrap_i64 (by omega)];rfl))) ?_;refine Li (Cm) ?_;refine bd ?_;refine bJ (t:=20) rfl ?_ ?_
  ·intro eM
   replace eM:=aO eM;refine ri ?_;refine Rt [] results105 ?_;exact⟨ok _ ⟨(λh=>by cases h),λh=>by exfalso;first|omega|(simp_all;done)⟩,rfl⟩
  intro eM;replace eM:=aO eM;refine bn ?_;refine bJ (t:=25) rfl ?_ ?_
  ·intro dm
   replace dm:=aO dm;refine bP ?_;refine Rt [] results105 ?_;exact⟨ok _ ⟨(λh=>by cases h),λh=>by exfalso;first|omega|(simp_all;done)⟩,rfl⟩
  intro dm;replace dm:=aO dm;refine bn ?_;refine az rfl ?_ ?_
  ·intro eH
   replace eH:=aO eH;refine bn ?_;refine Rt [] results105 ?_;exact⟨ok _ ⟨(λh=>by cases h),λh=>by exfalso;first|omega|(simp_all;done)⟩,rfl⟩
  intro eH;replace eH:=aO eH;refine aw ?_;refine Me (()) ((by refine⟨?_, ?_, ?_, ?_, ?_⟩<;>omega))
 rintro u hI;refine bs ?_;refine bJ (t:=33) rfl ?_ ?_
 ·intro fm
  replace fm:=aO fm;refine bP ?_;refine Rt [] results105 ?_;refine⟨ok _ ?_,rfl⟩
  first|exact⟨(λh=>by cases h),λh=>by exfalso;omega⟩|(rw[decide_eq_true_eq];constructor<;>intro h<;>omega)
 intro fm;replace fm:=aO fm;refine bn ?_;refine az rfl ?_ ?_
 ·intro fh
  replace fh:=aO fh;refine bn ?_;refine Rt [] results105 ?_;refine⟨ok _ ?_,rfl⟩
  first|exact⟨(λh=>by cases h),λh=>by exfalso;omega⟩|(rw[decide_eq_true_eq];constructor<;>intro h<;>omega)
 intro fh;replace fh:=aO fh;refine cV ?_;refine bJ (t:=41) rfl ?_ ?_
 ·intro eM
  replace eM:=aO eM;refine rh ?_;refine Rt [] results105 ?_;refine⟨ok _ ?_,rfl⟩
  first|exact⟨(λh=>by cases h),λh=>by exfalso;omega⟩|(rw[decide_eq_true_eq];constructor<;>intro h<;>omega)
 intro eM;replace eM:=aO eM;refine bn ?_;refine bJ (t:=46) rfl ?_ ?_
 ·intro dm
  replace dm:=aO dm;refine dL ?_;refine Rt [] results105 ?_;refine⟨ok _ ?_,rfl⟩
  first|exact⟨(λh=>by cases h),λh=>by exfalso;omega⟩|(rw[decide_eq_true_eq];constructor<;>intro h<;>omega)
 intro dm;replace dm:=aO dm;refine bd ?_;refine Li (Im) ?_;refine aA (t:=49) (v':=(Dm Dl (c.eI % 8))) rfl (by exact congrArg (Value.int .i64) (Int.tmod_eq_emod_of_nonneg (by omega))) ?_;refine bq ?_;refine az rfl ?_ ?_
 ·intro eH
  replace eH:=aO eH;refine bn ?_;refine Rt [] results105 ?_;refine⟨ok _ ?_,rfl⟩
  first|exact⟨(λh=>by cases h),λh=>by exfalso;omega⟩|(rw[decide_eq_true_eq];constructor<;>intro h<;>omega)
 intro eH;replace eH:=aO eH;refine cA ?_;refine bJ (t:=57) rfl ?_ ?_
 ·intro j5
  replace j5:=aO j5;refine cA ?_;refine Rt [] results105 ?_;refine⟨ok _ ?_,rfl⟩
  first|exact⟨(λh=>by cases h),λh=>by exfalso;omega⟩|(rw[decide_eq_true_eq];constructor<;>intro h<;>omega)
 intro j5;replace j5:=aO j5;refine cA ?_;refine Rt [] results105 ?_;refine⟨ok _ ?_,rfl⟩
 first|exact⟨(λh=>by cases h),λh=>by exfalso;omega⟩|(rw[decide_eq_true_eq];constructor<;>intro h<;>omega)
def xr (iG last:Nat):Nat->Nat->FH
 |0,n=> [n]
 |k+1,n=>if last<=n then [n]else n::xr iG last k (min last ((n*iG+799)/800*8))
def sV (c:ra):Nat:=(c.lim.toNat+7)/8*8
def fk (c:ra):FH:=xr c.iG.toNat (sV c) 62 c.eI.toNat
theorem CC (iG last:Nat):∀k n,1<=(xr iG last k n).length/\(xr iG last k n).length<=k+1
 |0,n=>⟨aam _,aam _⟩
 |k+1,n=>by
  unfold xr;split
  ·exact⟨aam _,by simp⟩
  obtain⟨h1,h2⟩:=CC iG last k (min last ((n*iG+799)/800*8));rw[List.length_cons];omega
theorem TJ (c:ra)(hr:pY c=true):aG aaa 106 [.agg (mT c).toArray] uT [] (λv H=>∃a cc,v= .slice a (fk c).length cc/\H= [own a cc 3 1 (aY (fk c))]):=by
 have hr:=of_decide_eq_true hr;obtain⟨h1,h2,h3,h4,h5,h6,h7,h8,h9,h10,h11,DK⟩:=hr;obtain⟨iG,hf⟩:∃f:Nat,c.iG=f:=⟨c.iG.toNat,by omega⟩;obtain⟨eI,hm⟩:∃f:Nat,c.eI=f:=⟨c.eI.toNat,by omega⟩;obtain⟨lim,hl⟩:∃f:Nat,c.lim=f:=⟨c.lim.toNat,by omega⟩;have hs:fk c=xr iG (sV c) 62 eI:=by unfold fk;rw[hf,hm];rfl
 have hla:sV c=(lim+7)/8*8:=by unfold sV;rw[hl];rfl
 have hlb:sV c<=1048583:=by omega
 unfold mT;rw[hf,hm,hl,hs];rw[hf]at h6 h7;rw[hm]at h8 h9;refine af func106 rfl ntmps106 rfl ?_;intro F _;refine aw ?_;refine Lp (oB λb1=> ?_);refine bd ?_;refine Zi ?_;refine bc ?_;refine aA (t:=8) (v':=(Dm Dl (lim+7:Nat))) rfl (by exact congrArg (Value.int .i64) rfl) ?_;refine Li (Qu (q:=8)) ?_;refine aw ?_;refine aA (t:=10) (v':=(Dm Dl ((lim+7)/8*8:Nat))) rfl (by exact congrArg (Value.int .i64) (by omega)) ?_;refine bn ?_;refine Lp (oT jI λb2=> ?_);refine bd ?_;refine av ?_;refine Zk ?_;refine bq ?_;refine aA (t:=3) (v':=(Dm Dl (sV c))) rfl (by exact congrArg (Value.int .i64) (by rw[hla])) ?_;generalize hL:sV c=L at*;refine au (λk s=>aZ (λh p=>oI p 1 1 rfl (by decide)) s) ?_;refine Lo (ι:=FH×Nat×FL×Nat) (FN [4,2,14,25]) (λs=>(s.1.length<=62/\s.2.1<=1048583/\64<=s.2.1)/\xr iG L 62 eI=s.1++xr iG L (62-s.1.length) s.2.1) (λs=> [(4, .slice s.2.2.1 (s.1.length+1) s.2.2.2)]) (λs=> [ag b1 29 [Dm Dl c.ao,Dm Dl c.bA,Dm Dl iG,Dm Dl eI,Dm Dl lim,Dm Dl c.hot,Dm Dl c.warm],own s.2.2.1 s.2.2.2 3 1 (aY (s.1++ [s.2.1]))]) (λs=>62-s.1.length) (([],eI,some ⟨b2,0,none⟩,1)) ⟨⟨abL _,by dsimp only;omega,by dsimp only;omega⟩,rfl⟩ ?_;rintro⟨l,n,a,cc⟩ hI
 try dsimp only at hI⊢
 obtain⟨⟨i1,i2,i3⟩,i4⟩:=hI;have xA:(aY (l++ [n]))[l.length]?=some (Dm Dl n):=by unfold aY;rw[List.map_append,List.getElem?_append_right (by simp)];simp
 have hnl:(aY (l++ [n])).length=l.length+1:=by unfold aY;simp
 refine mE (iK (.there .here) (λ_ o=>np o (by rw[hnl];omega))) λPu=> ?_;refine bs ?_;refine aA (t:=17) (v':=(Dm Dl l.length)) rfl (by exact congrArg (Value.int .i64) (by omega)) ?_;refine Li (Ix rA (j:=l.length)) ?_;refine bq ?_;refine av ?_;by_cases acg:L<=n\/62<=l.length
 ·have he:xr iG L (62-l.length) n= [n]:=by
   rcases acg with h|h
   ·rcases hk:62-l.length with _|k
    ·rfl
    unfold xr;rw[if_pos h]
   rw[show 62-l.length=0 by omega];rfl
  rw[he]at i4;by_cases Gw:L<=n
  ·refine qE ?_
   refine bK ?_;refine fe ?_;refine bd ?_;refine fe ?_;refine dL ?_;refine wj ?_;refine Rt [own a cc 3 1 (aY (l++ [n]))] results106 ?_;exact⟨a,cc,by rw[i4,aby];rfl,by rw[i4]⟩
  refine qE ?_;refine bK ?_;refine cN ?_;refine bs ?_;refine fe ?_;refine dL ?_;refine wj ?_;refine Rt [own a cc 3 1 (aY (l++ [n]))] results106 ?_;exact⟨a,cc,by rw[i4,aby];rfl,by rw[i4]⟩
 obtain⟨k,hk⟩:∃k,62-l.length=k+1:=⟨61-l.length,by omega⟩;have he:xr iG L (62-l.length) n=n::xr iG L (62-(l.length+1)) (min L ((n*iG+799)/800*8)):=by
  rw[hk,show 62-(l.length+1)=k by omega]
  conv=>lhs;unfold xr
  rw[if_neg (by omega)]
 rw[he]at i4;have hnf:n*iG<=1048583*400:=af8 i2 (by omega);have hnf2:64*105<=n*iG:=af8 i3 (by omega);refine cV ?_;refine cN ?_;refine bs ?_;refine cN ?_;refine bB ?_;refine aA (t:=32) (v':=(Dm Dl (n*iG:Nat))) rfl (by exact congrArg (Value.int .i64) (by first|rfl|(rw[<-akM];exact wrap_i64 (by omega)))) ?_;generalize n*iG=nf at*;refine aw ?_;refine aA (t:=33) (v':=(Dm Dl (nf+799:Nat))) rfl (by exact congrArg (Value.int .i64) rfl) ?_;refine Li (Qu (q:=800)) ?_;refine aw ?_;refine Li Mi ?_;refine aA (t:=36) (v':=(Dm Dl (min L ((nf+799)/800*8):Nat))) rfl (by exact congrArg (Value.int .i64) (by omega)) ?_;generalize Wm:min L ((nf+799)/800*8)=mn at*;refine Lp (oT jI λb3=> ?_);refine Lp (cm jI xS rfl rfl rfl rfl (.there .here) (by simp[aY]) (rfl) (by simp[Value.oneCell']) (by first|omega|(simp;omega)) (by first|omega|(simp;omega)) rfl λa2 c2 qx=> ?_);refine bq ?_;rw[show aY (l++ [n])++ [Value.int .i64 (mn:Int)]=aY ((l++ [n])++ [mn]) by rw[lp _ [mn]];rfl,show l.length+1=(l++ [n]).length by simp];have DF:(l++ [n]).length=l.length+1:=by simp
 have hi4:xr iG L 62 eI=(l++ [n])++xr iG L (62-(l++ [n]).length) mn:=by rw[i4,DF,List.append_assoc];rfl
 generalize l++ [n]=l2 at*;refine Ro ((l2,mn,a2,c2)) (⟨⟨(by dsimp only;omega),(by dsimp only;omega),(by dsimp only;omega)⟩,hi4⟩) ((by dsimp only;omega))
theorem adE{n:Nat}(h1:1<=n)(h2:n<4294967296)(h:ZV n=0):n&&&(n-1)=0:=by
 unfold ZV at h;have e1:(BitVec.ofInt 64 (n:Int)).toNat=n:=by rw[BitVec.toNat_ofInt];omega
 have e2:(BitVec.ofInt 64 ((n:Int)-1)).toNat=n-1:=by rw[BitVec.toNat_ofInt];omega
 rw[BitVec.toNat_and,e1,e2]at h;have h3:n&&&(n-1)<=n:=Nat.and_le_left;generalize n&&&(n-1)=x at*;simp[IntKind.wrap,IntKind.bits,IntKind.signed]at h;omega
theorem adD{n:Nat}(h1:1<=n)(h:n&&&(n-1)=0):n=2^n.log2:=by
 have l1:=Nat.log2_self_le (n:=n) (by omega);have l2:=Nat.lt_log2_self (n:=n);refine abz λg=> ?_;have bit:∀x,2^n.log2<=x->x<2^(n.log2+1)->x.testBit n.log2=true:=λx a b=>by
  obtain⟨i,hi,ht⟩:=Nat.exists_ge_and_testBit_of_ge_two_pow a;have:i=n.log2:=by
   refine abz λe=> ?_;have h3:x<2^i:=Nat.lt_of_lt_of_le b (agf (by decide) (by omega));rw[Nat.testBit_lt_two_pow h3]at ht;cases ht
  rw[<-this];exact ht
 have b1:=bit n l1 l2;have b2:=bit (n-1) (by omega) (by omega);have:(n&&&(n-1)).testBit n.log2=true:=by rw[Nat.testBit_and,b1,b2];rfl
 rw[h]at this;simp at this
def Wa:FH:= [4096,8192,16384,32768,65536,131072,262144,524288,1048576]
theorem aiF{n:Nat}(h1:4096<=n)(h2:n<=1048576)(h:ZV n=0):n∈Wa:=by
 have e:=adD (by omega) (adE (by omega) (by omega) h);have k1:12<=n.log2:=by
  refine abz λg=> ?_;have:=agf (n:=2) (by decide) (show n.log2<=11 by omega);omega
 have k2:n.log2<=20:=by
  refine abz λg=> ?_;have:=agf (n:=2) (by decide) (show 21<=n.log2 by omega);omega
 rw[e];generalize n.log2=k at*;have:k=12\/k=13\/k=14\/k=15\/k=16\/k=17\/k=18\/k=19\/k=20:=by omega
 rcases this with rfl|rfl|rfl|rfl|rfl|rfl|rfl|rfl|rfl<;>decide
theorem MD (n:Nat):aG aaa 218 [Dm Dj n] uT [] (λv H=>(∃z:Int,v=Dm Dl z/\(n∈Wa->z=1))/\H= []):=by
 refine af func218 rfl ntmps218 rfl ?_;intro F _;refine bn ?_;refine Li (Sr 1) ?_;refine cV ?_;refine Li (Sr 2) ?_;refine cV ?_;refine Li (Sr 4) ?_;refine cV ?_;refine Li (Sr 8) ?_;refine bs ?_;refine Li (Sr 16) ?_;refine bs ?_;refine Li (Sr 32) ?_;refine bB ?_;refine Rt [] results218 ?_;refine⟨⟨_,rfl,λh=> ?_⟩,rfl⟩;simp only[Wa,abE,abR,agD,or_false]at h;rcases h with rfl|rfl|rfl|rfl|rfl|rfl|rfl|rfl|rfl<;>decide+kernel
theorem yk{z:FJ}(n k:Nat)(hk:k=n*z.length):gV z k=(aae n z).flatten:=by
 subst hk;rcases Nat.eq_zero_or_pos z.length with h0|h0
 ·rw[List.eq_nil_of_length_eq_zero h0];simp[gV]
 apply List.ext_getElem?;intro i;have e:((aae n z).flatten).length=n*z.length:=by simp
 by_cases hi:i<n*z.length
 ·have q:i/z.length<n:=(Nat.div_lt_iff_lt_mul h0).2 hi
  have r:i % z.length<z.length:=Nat.mod_lt _ h0;unfold gV;rw[abD,List.getElem?_range hi];have:=bb (f:=λ_:Unit=>z) (k:=z.length) (λ_=>rfl) (l:=aae n ()) (i:=i/z.length) (a:=()) (by rw[ab1,if_pos q]) (j:=i % z.length) (v:=z[i % z.length]) (aac r);rw[Option.map_some,aac r];rw[show i/z.length*z.length+i % z.length=i from by rw[agc];exact Nat.div_add_mod i _]at this;rw[ag9,af3]at this;exact this.symm
 rw[aal (by rw[kC];omega),aal (by omega)]
theorem Yz (n:Nat):aG aaa 156 [Dm Dj n] uT [] (λv H=>(∃z:Int,v=Dm Dl z/\(n∈Wa->z=1))/\H= []):=by
 refine af func156 rfl ntmps156 rfl ?_;intro F _;refine cA ?_;refine Lp (oC Aa rfl rfl (MD n) .nil Di ?_);rintro v H' ⟨⟨z,rfl,hz⟩,rfl⟩;refine bR ?_;refine bq ?_;refine Rt [] results156 ?_;exact⟨⟨z,rfl,hz⟩,rfl⟩
theorem VY (n:Nat):gV [Dm ala 0] (n*1)=dK (λ_=>0) n:=by
 rw[qc,Nat.mul_one];unfold dK aj jS;simp[List.map_map,Function.comp_def,List.map_const']
theorem ZO (s n:Nat)(h1:s∈Wa)(h2:1<=n)(h3:n<=1024):aG aaa 107 [Dm Dl s,Dm Dl n] uT []
  (λv H=>∃a ab,v= .tuple #[Dk a,Dm Dl 0]/\H= [ag a 249 (iq ab s (s*n)),ag ab 5 (dK (λ_=>0) (s*n))]):=by
 have hs:4096<=s/\s<=1048576:=by
  simp only[Wa,abE,agD,or_false]at h1;omega
 have hb:s*n<=1048576*1024:=af8 hs.2 h3;unfold iq;refine af func107 rfl ntmps107 rfl ?_;intro F _;refine bn ?_;refine av ?_;refine eK (ι:=Unit) (FN [6,20]) (λu=>True) (λu=> [(25, .bool false)]) (λu=> []) ?_ ?_
 ·refine iN ?_
  refine bq ?_;refine bJ (t:=8) rfl ?_ ?_
  ·intro fm
   replace fm:=aO fm;refine rh ?_;refine aD ?_;refine Me (()) (trivial)
  intro fm;replace fm:=aO fm;refine bc ?_;refine bJ (t:=12) rfl ?_ ?_
  ·intro fh
   replace fh:=aO fh;refine gJ ?_;refine aD ?_;refine Me (()) (trivial)
  intro fh;replace fh:=aO fh;refine bd ?_;refine aA (t:=14) (v':=(Dm Dj s)) rfl (by(first|rfl|exact congrArg (Value.int .u64) (by first|rfl|exact wrap_u64 (by omega)))) ?_;refine Lp (oC Aa rfl rfl (Yz s) .nil Di ?_);rintro v H' ⟨⟨z,rfl,hz⟩,rfl⟩;refine bR ?_;refine bq ?_;refine bJ (t:=18) rfl ?_ ?_
  ·intro eM
   replace eM:=aO eM;refine bK ?_;refine aD ?_;refine Me (()) (trivial)
  intro eM;replace eM:=aO eM;refine bc ?_;refine bJ (t:=22) rfl ?_ ?_
  ·intro dm
   replace dm:=aO dm;refine bq ?_;refine aD ?_;refine Me (()) (trivial)
  intro dm;replace dm:=aO dm;refine bq ?_;refine aD ?_;refine Me (()) (trivial)
 rintro u hI;refine cV ?_;refine aA (t:=29) (v':=(Dm Dl (s*n:Nat))) rfl (by exact congrArg (Value.int .i64) (by first|rfl|(rw[<-akM];exact wrap_i64 (by omega)))) ?_;refine Lp (oM (s*n) (s*n) iJ λb1=> ?_);rw[VY];refine aw ?_;refine Lp (oB λb2=> ?_);refine bc ?_;refine jT [ag b2 249 [Dm Dl s, .slice (some ⟨b1,0,none⟩) (s*n) (s*n)],ag b1 5 (dK (λ_=>0) (s*n))] results107 ?_;exact⟨_,_,rfl,rfl⟩
theorem QX{ao iG last:Nat}(h1:last<=ao)(h2:64<=last)(h3:last % 8=0)(h4:105<=iG):∀k n,64<=n->n<=ao->n % 8=0->∀z∈xr iG last k n,64<=z/\z<=ao/\z % 8=0
 |0,n,a,b,c,z,hz=>by
  unfold xr at hz;rw[abR]at hz;subst hz;exact⟨a,b,c⟩
 |k+1,n,a,b,c,z,hz=>by
  unfold xr at hz;split at hz
  ·rw[abR]at hz
   subst hz;exact⟨a,b,c⟩
  rw[abE]at hz;rcases hz with rfl|hz
  ·exact⟨a,b,c⟩
  have:64*105<=n*iG:=af8 a h4;exact QX h1 h2 h3 h4 k _ (by omega) (by omega) (by omega) z hz
def dp (c:ra):Cs:=⟨c,c.ao.toNat,c.bA.toNat,fk c,aae c.bA.toNat .no,aae (fk c).length ⟨[],0,0,0⟩,c.bA.toNat,λ_=>0⟩
def pB (c:ra):Int:=if pY c=true then if 62<(fk c).length then 2 else if c.bA<((fk c).length:Int)then 3 else 0 else 1
theorem pw_8{n:Nat}(h:n∈Wa):n % 8=0:=by
 simp only[Wa,abE,agD,or_false]at h;omega
theorem XQ (n k:Nat):(aae n k).sum=n*k:=by
 induction n with
 |zero=>simp
 |succ n ih=>rw[ajH,List.sum_cons,ih,Nat.succ_mul];omega
theorem CS{c:ra}(h:pB c=0):Ok (dp c)/\(c.ao=(c.ao.toNat:Int))/\c.bA=(c.bA.toNat:Int)/\c.ao.toNat∈Wa:=by
 unfold pB at h;split at h
 case isFalse=>cases h
 case isTrue hr=>
 split at h
 case isTrue=>cases h
 case isFalse h62=>
 split at h
 case isTrue=>cases h
 case isFalse iF=>
 obtain⟨h1,h2,h3,h4,h5,h6,h7,h8,h9,h10,h11,DK⟩:=of_decide_eq_true hr;obtain⟨ao,hp⟩:∃f:Nat,c.ao=f:=⟨c.ao.toNat,by omega⟩;obtain⟨bA,hg⟩:∃f:Nat,c.bA=f:=⟨c.bA.toNat,by omega⟩;have xw:c.ao.toNat=ao:=by omega
 have hgg:c.bA.toNat=bA:=by omega
 rw[hp]at h3;have hpw:=aiF (n:=ao) (by omega) (by omega) h3;have p8:=pw_8 hpw;have hl:=CC c.iG.toNat (sV c) 62 c.eI.toNat;have hla:sV c=(c.lim.toNat+7)/8*8:=rfl;have pC:∀z∈fk c,64<=z/\z<=ao/\z % 8=0:=QX (by omega) (by omega) (by omega) (by omega) 62 _ (by omega) (by omega) (by omega);have rwE:∀k,(dp c).rw k=⟨[],0,0,0⟩:=λk=>by
  unfold Cs.rw dp;rw[aab,ab1];split<;>rfl
 have pgE:∀k,(dp c).pg k= .no:=λk=>by
  unfold Cs.pg dp;rw[aab,ab1];split<;>rfl
 have Xq:∀f:Pg->Nat,(dp c).wR f=bA*f .no:=λf=>by
  unfold Cs.wR dp;rw[af3,XQ,hgg]
 have noAt:∀p,¬Cs.At (dp c) p:=λp a=>by
  have:=a.own;rw[pgE]at this;cases this
 refine⟨⟨⟨?_, ?_, ?_, ?_, ?_, ?_, ?_, ?_, ?_, ?_⟩, ?_, ?_, ?_, ?_, ?_, ?_, ?_, ?_⟩,by omega,by omega,by rw[xw];exact hpw⟩
 ·show 4096<=c.ao.toNat;omega
 ·show c.ao.toNat<=1048576;omega
 ·show c.ao.toNat % 8=0;omega
 ·show 1<=c.bA.toNat;omega
 ·show c.bA.toNat<=1024;omega
 ·exact hl.1
 ·show(fk c).length<=62;omega
 ·intro z hz
  have:=pC z hz;exact⟨this.1,by show z<=c.ao.toNat;omega,this.2.2⟩
 ·exact aga
 ·exact aga
 ·intro x hx
  obtain rfl:=agx hx;exact⟨(λh=>by cases h),(λh=>by cases h),rfl,(λg hg=>by cases hg),(λg hg=>by cases hg),ag5,rfl,λ_=>⟨rfl,rfl,rfl⟩⟩
 ·intro k p hp
  rw[rwE]at hp;cases hp
 ·intro k;rw[rwE];exact ag5
 ·intro k p f;exact absurd f.toAt (noAt p)
 ·intro k _;rw[rwE,Xq];simp[uC,Pg.no]
 ·intro k _;rw[rwE,Xq];simp[sJ,Pg.no]
 ·intro k _;rw[rwE,Xq];simp[xD,Pg.no]
 rw[Xq];show c.bA.toNat=bA*wQ .no;rw[hgg];simp[wQ,Pg.no]
theorem aao (n:Nat):gV [.bool false, .bool false,Dm Dl 0, .slice none 0 0, .slice none 0 0,Dm Dl 0, .map none] (n*7)=(aae n (⟨.no,none,none,none⟩:vG)).flatMap dI:=by
 rw[yk n (n*7) rfl,ag9,af3];rfl
theorem aan (n:Nat):gV [.slice none 0 0,Dm Dl 0,Dm Dl 0,Dm Dl 0] (n*4)=(aae n (⟨⟨[],0,0,0⟩,none,0⟩:GA)).flatMap ey:=by
 rw[yk n (n*4) rfl,ag9,af3];rfl
theorem adI{a:FL}{cap e sz:Nat}{xs:FJ}{k:Hp}(o:own a cap e sz xs k)(h:0<xs.length):∃b,a=some ⟨b,0,none⟩:=by
 obtain⟨h1,_,⟨_,rfl⟩|⟨b,_,rfl,_⟩⟩:=o
 ·rw[Nat.zero_mul]at h1;omega
 exact⟨b,rfl⟩
theorem u7{l:F8}(hl:∀A∈l,∀h,A h):∀h,aB l h:=by
 induction l with
 |nil=>intro h;exact trivial
 |cons A l ih=>intro h;exact gm (hl A (List.mem_cons_self ..)) (ih (λB hB=>hl B (List.mem_cons_of_mem _ hB)) h)
theorem afx{c:ra}{p g b ar ab sa pb rb cc:Nat}{S:FH}{H:F8}{h:Hp}(c1:c.ao=p)(c2:c.bA=g)(hS:fk c=S)
  (s:ai (ag b 179 [Dm Dl p,Dm Dl g,Dm Dl c.iG,Dm Dl c.eI,Dm Dl c.lim,Dm Dl c.hot,Dm Dl c.warm,Dk ar, .slice (some ⟨sa,0,none⟩) S.length cc, .slice (some ⟨pb,0,none⟩) g g, .slice (some ⟨rb,0,none⟩) S.length S.length,Dm Dl g]::
   own (some ⟨sa,0,none⟩) cc 3 1 (aY S)::ag pb 227 ((aae g (⟨.no,none,none,none⟩:vG)).flatMap dI)::ag rb 196 ((aae S.length (⟨⟨[],0,0,0⟩,none,0⟩:GA)).flatMap ey)::ag ar 249 (iq ab p (p*g))::ag ab 5 (dK (λ_=>0) (p*g))::H) h):ai (Cl b (dp c)::H) h:=by
 have q1:c.ao.toNat=p:=by omega
 have q2:c.bA.toNat=g:=by omega
 have e:dp c=⟨c,p,g,S,aae g .no,aae S.length ⟨[],0,0,0⟩,g,λ_=>0⟩:=by unfold dp;rw[q1,q2,hS]
 rw[e];refine qo (y:=⟨ar,ab,sa,pb,rb,cc,aae g ⟨.no,none,none,none⟩,aae S.length ⟨⟨[],0,0,0⟩,none,0⟩⟩) ⟨by simp,by simp, ?_,c1,c2⟩ ?_
 ·intro x hx
  obtain rfl:=agx hx;exact⟨rfl,rfl,λ_=>rfl⟩
 unfold mC cI nP;dsimp only;rw[agc g p];refine aE (λ_ s=>aE (λ_ s=>aE (λ_ s=>gm ?_ (aE (λ_ s=>gm ?_ s) s)) s) s) s
 ·refine u7 λA hA=> ?_
  rw[af3]at hA;obtain rfl:=agx hA;refine u7 λB hB=> ?_;simp only[abE,agD,or_false]at hB;rcases hB with rfl|rfl|rfl<;>exact λ_=>trivial
 refine u7 λA hA=> ?_;rw[af3]at hA;obtain rfl:=agx hA;exact λh=>CP _ _ h
theorem ZG (c:ra):aG aaa 58 [.agg (mT c).toArray] uT []
  (λv H=>(pB c≠0/\v= .tuple #[.pointer none,Dm Dl (pB c)]/\H= [])\/(pB c=0/\∃b,v= .tuple #[Dk b,Dm Dl 0]/\H= [Cl b (dp c)])):=by
 refine af func58 rfl ntmps58 rfl ?_;intro F _;refine aw ?_;refine Lp (oB λb1=> ?_);refine bs ?_;refine zl Aa (T8 c) .nil Di ?_;refine bd ?_;by_cases hr:pY c=true
 ·refine cN ?_ (e:=by exact congrArg (!·) hr)
  refine bc ?_;refine Lp (oC Aa rfl rfl (TJ c hr) .nil Di ?_);rintro v H' ⟨a,cc,rfl,rfl⟩;refine bR ?_;refine cV ?_;by_cases h62:62<(fk c).length
  ·refine fe ?_
   refine bs ?_;refine jT [] results58 ?_;refine .inl ⟨?_, ?_,rfl⟩<;>(unfold pB;rw[if_pos hr,if_pos h62]);decide
  refine cN ?_;refine bB ?_;by_cases iF:c.bA<((fk c).length:Int)
  ·refine fe ?_ (e:=by exact decide_eq_true iF)
   refine bs ?_;refine jT [] results58 ?_;refine .inl ⟨?_, ?_,rfl⟩<;>(unfold pB;rw[if_pos hr,if_neg h62,if_pos iF]);decide
  refine cN ?_ (e:=by exact decide_eq_false iF);have h0:pB c=0:=by unfold pB;rw[if_pos hr,if_neg h62,if_neg iF]
  obtain⟨K,e1,e2,e3⟩:=CS h0;have hpg1:c.bA.toNat<=1024:=K.n1;have hl:0<(fk c).length:=(CC _ _ _ _).1;refine mE (iK .here (λ_ o=>adI o (by unfold aY;rw[List.length_map];exact hl))) λ⟨sa,hsa⟩=> ?_;subst hsa;obtain⟨ao,bA,iG,eI,lim,hot,warm⟩:=c;obtain⟨p,rfl⟩:∃p:Nat,ao=p:=⟨_,e1⟩;obtain⟨g,rfl⟩:∃g:Nat,bA=g:=⟨_,e2⟩;change p∈Wa at e3;have hg0:1<=g:=K.n0;have hg1:g<=1024:=K.n1;generalize hc:(⟨p,g,iG,eI,lim,hot,warm⟩:ra)=c at*;unfold mT;have c1:c.ao=p:=by rw[<-hc]
  have c2:c.bA=g:=by rw[<-hc]
  rw[c1,c2];refine bK ?_;refine Lp (oC Aa rfl rfl (ZO p g e3 hg0 hg1) .nil Di ?_);rintro v H' ⟨ar,ab,rfl,rfl⟩;refine bR ?_;refine fX ?_;refine av ?_;generalize hS:fk c=S at*;refine eK (ι:=Nat×Nat×Nat) (FN [2,2,31,13]) (λ(b,pb,rb)=>True) (λ(b,pb,rb)=> [(2,Dk b),(3,Dm Dl 0)]) (λ(b,pb,rb)=> [ag b1 29 [Dm Dl p,Dm Dl g,Dm Dl c.iG,Dm Dl c.eI,Dm Dl c.lim,Dm Dl c.hot,Dm Dl c.warm],ag b 179 [Dm Dl p,Dm Dl g,Dm Dl c.iG,Dm Dl c.eI,Dm Dl c.lim,Dm Dl c.hot,Dm Dl c.warm,Dk ar, .slice (some ⟨sa,0,none⟩) S.length cc, .slice (some ⟨pb,0,none⟩) g g, .slice (some ⟨rb,0,none⟩) S.length S.length,Dm Dl g],ag pb 227 ((aae g (⟨.no,none,none,none⟩:vG)).flatMap dI),ag rb 196 ((aae S.length (⟨⟨[],0,0,0⟩,none,0⟩:GA)).flatMap ey),ag ar 249 (iq ab p (p*g)),ag ab 5 (dK (λ_=>0) (p*g)),own (some ⟨sa,0,none⟩) cc 3 1 (aY S)]) ?_ ?_
  ·refine Aq mix (.cons (.t3 .here) .nil) λF1 jD bV aI=> ?_
   obtain⟨hs,_⟩:=bV;refine Dt 0 rfl (LfN QM) ?_;refine Dt 1 rfl Mv ?_;refine Dt 2 rfl Mv ?_;refine Dt 3 rfl (Fa yO) ?_;refine Dt 4 rfl (Lf bj) ?_;refine Dt 6 rfl Mv ?_;refine Dt 7 rfl (Ln rA) ?_;refine Dt 9 rfl (Fa yO) ?_;refine Dt 10 rfl (Lf bj) ?_;refine D2 5 8 ?_ ?_
   ·refine Do rfl (oM (g) (g) SU λb2=> ?_)
    refine aw ?_;refine Dd 8 rfl (oM (S.length) (S.length) SS λb3=> ?_);refine aw ?_;refine Dt 11 rfl (Bd QS Q0) ?_;refine Dd 12 rfl (oB λb4=> ?_);refine aw ?_;refine Dt 13 rfl As ?_;refine Dt 14 rfl As ?_;refine aT (by kernel_rfl) aI ?_;rw[aao,aan];refine Me ((b4,b2,b3)) (trivial)
   refine Do rfl (oM (S.length) (S.length) SS λb5=> ?_);refine aw ?_;refine Dd 5 rfl (oM (g) (g) SU λb6=> ?_);refine aw ?_;refine Dt 11 rfl (Bd QS Q0) ?_;refine Dd 12 rfl (oB λb7=> ?_);refine aw ?_;refine Dt 13 rfl As ?_;refine Dt 14 rfl As ?_;refine aT (by kernel_rfl) aI ?_;rw[aao,aan];refine Me ((b7,b6,b5)) (trivial)
  rintro⟨b,pb,rb⟩ hI
  try dsimp only at hI⊢
  refine aw ?_;refine Hh (H':= [ag b 179 [Dm Dl p,Dm Dl g,Dm Dl c.iG,Dm Dl c.eI,Dm Dl c.lim,Dm Dl c.hot,Dm Dl c.warm,Dk ar, .slice (some ⟨sa,0,none⟩) S.length cc, .slice (some ⟨pb,0,none⟩) g g, .slice (some ⟨rb,0,none⟩) S.length S.length,Dm Dl g],own (some ⟨sa,0,none⟩) cc 3 1 (aY S),ag pb 227 ((aae g (⟨.no,none,none,none⟩:vG)).flatMap dI),ag rb 196 ((aae S.length (⟨⟨[],0,0,0⟩,none,0⟩:GA)).flatMap ey),ag ar 249 (iq ab p (p*g)),ag ab 5 (dK (λ_=>0) (p*g)),ag b1 29 [Dm Dl p,Dm Dl g,Dm Dl c.iG,Dm Dl c.eI,Dm Dl c.lim,Dm Dl c.hot,Dm Dl c.warm]]) ?_;refine au (λ_ s=>afx c1 c2 hS s) ?_;refine jT [Cl b (dp c)] results58 ?_;exact .inr ⟨h0,b,rfl,rfl⟩
 refine fe ?_ (e:=by exact congrArg (!·) (by simpa using hr));refine bs ?_;refine jT [] results58 ?_;refine .inl ⟨?_, ?_,rfl⟩<;>(unfold pB;rw[if_neg hr]);decide
theorem ah3 (C:Cs)(n:Nat):gV [Dm Dj 0,Dm Dj 0,Dm Dl 0,Dm Dj 0,Dm Dj 0,Dm Dl 0,Dm Dj 0,Dm Dj 0,Dm Dl 0] (n*9)=(aae (n*3) []).flatMap (cX C):=by
 rw[yk n (n*9) rfl,ag9,af3];induction n with
 |zero=>rfl
 |succ n ih=>
  rw[ajH,aj6,ih,show(n+1)*3=n*3+1+1+1 by omega];simp only[ajH,aj6];rfl
theorem Ye (b:Nat)(C:Cs)(K:Ok C):aG aaa 59 [Dk b] (In (Cl b C)) []
  (λv H=>∃q qb,v= .tuple #[Dk q,Dm Dl 0]/\H= [ag q 182 (ij b qb C.ae.length),ag qb 333 ((aae (C.ae.length*3) []).flatMap (cX C))]):=by
 have hl:=K.l1;unfold ij;refine af func59 rfl ntmps59 rfl ?_;intro F hc;refine lx ?_;refine zl Aa (oK b C) .nil (λ_ le _=>hc.mono le) ?_;refine Lp (oM (C.ae.length) (C.ae.length) afT λb1=> ?_);rw[ah3 C];refine aw ?_;refine Lp (oB λb2=> ?_);refine bc ?_;refine jT [ag b2 182 [Dk b, .slice (some ⟨b1,0,none⟩) C.ae.length C.ae.length],ag b1 333 ((aae (C.ae.length*3) []).flatMap (cX C))] results59 ?_;exact⟨_,_,rfl,rfl⟩
def grow (lim:Nat):Nat->Nat->Nat
 |0,n=>n
 |k+1,n=>if 2*n<=lim then grow lim k (2*n)else n
def mX (C:Cs):Nat:=grow (min (4*(C.n*(C.ao/C.sz 0))) 1048576) 16 16
theorem Ko (lim:Nat)(h:lim<=1048576):∀k n,(∃m,m+k=20/\n=2^m)->16<=n->∃m,m<=20/\grow lim k n=2^m/\16<=grow lim k n
 |0,n,⟨m,h1,h2⟩,h3=>⟨m,by omega,h2,h3⟩
 |k+1,n,⟨m,h1,h2⟩,h3=>by
  unfold grow;split
  ·exact Ko lim h k (2*n) ⟨m+1,by omega,by rw[h2,agu];omega⟩ (by omega)
  exact⟨m,by omega,h2,h3⟩
def nU (m:Nat):Tb:=⟨m,0,16,aae 16 [],[],0,0⟩
theorem YH{C:Cs}{m:Nat}(h:∃j,j<=20/\m=2^j)(h16:16<=m):dt C (nU m):=by
 have ch:∀x,(nU m).ch x= []:=λx=>by
  obtain⟨f,i⟩:=x;unfold Tb.ch nU;rcases f with _|_
  ·simp only[Bool.false_eq_true,if_false,aab,ab1]
   split<;>rfl
  simp[aab]
 have al:(nU m).all= []:=by unfold nU Tb.all;simp
 refine⟨⟨4,by decide,by simp[nU]⟩, .inl rfl, .inl ⟨rfl,rfl⟩,h,by simp[nU],aam _,h16,abL _, ?_, ?_, ?_, ?_, ?_, ?_, ?_⟩
 ·rw[al];rfl
 ·rw[al];exact ag5
 ·intro x;rw[ch];trivial
 ·intro p hp;rw[al]at hp;cases hp
 ·intro p hp;rw[al]at hp;cases hp
 ·intro x p hp;rw[ch]at hp;cases hp
 intro p hp;rw[al]at hp;cases hp
theorem XM (b:Nat)(C:Cs)(K:Ok C):aG aaa 61 [Dk b] (In (Cl b C)) []
  (λv H=>∃t nk,v= .tuple #[Dk t,Dm Dl 0]/\H= [ag t 154 (gE b (nU (mX C)) ⟨nk,none⟩),ag nk 149 (aS (aF (nU (mX C)).nb))]):=by
 have hl:=K.l0;obtain⟨z1,z2,z3⟩:=K.toFix.sz (c:=0) (by omega);have n0:=K.n0;have n1:=K.n1;have p0:=K.p0;have p1:=K.p1;have hq:C.ao/C.sz 0<=16384:=Nat.div_le_of_le_mul (by omega);have hm:C.n*(C.ao/C.sz 0)<=1024*16384:=af8 n1 hq;obtain⟨ft,Z8⟩:∃ft,ft=C.n*(C.ao/C.sz 0):=⟨_,rfl⟩;unfold gE mX;rw[<-Z8]at hm⊢;refine af func61 rfl ntmps61 rfl ?_;intro F hc;obtain⟨y,hy,_⟩:=abj hc;have O9:=Bi b C;have hcE:mT C.cfg= [Dm Dl C.ao,Dm Dl C.n,Dm Dl C.cfg.iG,Dm Dl C.cfg.eI,Dm Dl C.cfg.lim,Dm Dl C.cfg.hot,Dm Dl C.cfg.warm]:=by
  unfold mT;rw[hy.ao,hy.bA]
 rw[hcE]at O9;have hch:ofM C 0 (λi=>C.sz i)=C.sz 0:=by unfold ofM;rw[if_pos ⟨by omega,by omega⟩];rfl
 have ahI:=qW b C K 0;rw[hch]at ahI;refine fX ?_;refine zl Aa (O9) .nil (λ_ le _=>hc.mono le) ?_;refine Lp (oA Qe λb1=> ?_);refine bs ?_;refine av ?_;refine aA (t:=5) (v':=(Dm Dl (16:Nat))) rfl (by rfl) ?_;refine iU 8 mix (.cons .here .nil) λF1 jD bV aI=> ?_;obtain⟨q1,_⟩:=bV;refine bn ?_;refine Tp (oZ (Aa (n:=71)) (ahI) .nil (λ_ le _=>(hc.mono jD).mono le) ?_);refine Ti (Qu) ?_;refine Ti (MuN) ?_;refine gI aI ?_;refine aA (t:=18) (v':=(Dm Dl ft)) rfl (by exact congrArg (Value.int .i64) (by rw[Z8])) ?_;refine bq ?_;refine Lo (ι:=Nat×Nat) (FN [5,1,19,8]) (λs=>(∃m,m+s.1=20/\s.2=2^m)/\16<=s.2/\s.2<=1048576/\grow (min (4*ft) 1048576) 16 16=grow (min (4*ft) 1048576) s.1 s.2) (λs=> [(5,Dm Dl s.2)]) (λs=> [ag b1 29 [Dm Dl C.ao,Dm Dl C.n,Dm Dl C.cfg.iG,Dm Dl C.cfg.eI,Dm Dl C.cfg.lim,Dm Dl C.cfg.hot,Dm Dl C.cfg.warm]]) (λs=>s.1) ((16,16)) ⟨⟨4,rfl,rfl⟩,aam _,(by decide),rfl⟩ ?_;rintro⟨k,n⟩ ⟨⟨m,i1,i2⟩,i3,i4,i5⟩;dsimp only at i1 i2 i3 i4 i5⊢;refine bs ?_;refine Li Mi ?_;refine aA (t:=23) (v':=(Dm Dl (min (4*ft) 1048576:Nat))) rfl (by exact congrArg (Value.int .i64) (by omega)) ?_;generalize hlm:min (4*ft) 1048576=lm at*;have ahG:lm<=1048576:=by omega
 refine bd ?_;refine az rfl ?_ ?_
 ·intro hle
  replace hle:=aO hle;obtain⟨k,rfl⟩:∃j,k=j+1:=by
   refine⟨k-1, ?_⟩;rcases k with _|k
   ·rw[show m=20 by omega]at i2
    exfalso;omega
   omega
  have e:grow lm (k+1) n=grow lm k (2*n):=by
   conv=>lhs;unfold grow
   rw[if_pos (by omega)]
  refine cA ?_;refine aA (t:=5) (v':=(Dm Dl (2*n:Nat))) rfl (by exact congrArg (Value.int .i64) (by omega)) ?_;refine Ro ((k,2*n)) (⟨⟨m+1,by omega,by rw[i2,agu];omega⟩,by omega,by omega,i5.trans e⟩) ((by dsimp only;omega))
 intro hle;replace hle:=aO hle;have e:grow lm k n=n:=by
  rcases k with _|k
  ·rfl
  unfold grow;rw[if_neg (by omega)]
 rw[i5,e];refine cV ?_;refine Lp (oM (16) (16) Cy λb2=> ?_);rw[AQ];refine aw ?_;refine Lp (oB λb3=> ?_);refine bc ?_;refine jT [ag b3 154 (gE b (nU n) ⟨b2,none⟩),ag b2 149 (aS (aF (nU n).nb))] results61 ?_;exact⟨_,_,rfl,rfl⟩
theorem aec:(aaa.underlying 193).map (λd=>match d with| .func .. =>true|_=>false)=some true:=by kernel_rfl
theorem Us (n:Nat):gV [Dm Dl 0] (n*1)=aY (aae n 0):=by
 rw[qc,Nat.mul_one];unfold aY;rw[af3];rfl
def wE (n:Nat):gp:=⟨aae n 0,0,0,0,0,false⟩
theorem YO (b:Nat)(C:Cs)(K:Ok C)(f g h:Fn)(fa ga ha:Array Value):
  aG aaa 112 [Dk b, .func f fa #[], .func g ga #[], .func h ha #[]] (In (Cl b C)) []
   (λv H=>∃a ub,v= .tuple #[Dk a,Dm Dl 0]/\H= [mN a b ub (.func f fa #[]) (.func g ga #[]) (.func h ha #[]) (wE C.ae.length),kF ub (wE C.ae.length)]):=by
 have hl:=K.l1;unfold mN Du kF;refine af func112 rfl ntmps112 rfl ?_;intro F hc;refine cA ?_;refine zf 12 ?_ (e:=by rfl);refine aw ?_;refine Li (Fne Hm) ?_;refine bd ?_;refine zf 16 ?_ (e:=by rfl);refine aw ?_;refine Li (Fne Hl) ?_;refine bd ?_;refine zf 20 ?_ (e:=by rfl);refine aw ?_;refine Li (Fne aec) ?_;refine bP ?_;refine zl Aa (oK b C) .nil (λ_ le _=>hc.mono le) ?_;refine Lp (oM (C.ae.length) (C.ae.length) jI λb1=> ?_);rw[Us];refine aw ?_;refine Lp (oB λb2=> ?_);refine bc ?_;refine jT [ag b2 220 [Dk b, .func f fa #[], .func g ga #[], .func h ha #[], .slice (some ⟨b1,0,none⟩) C.ae.length C.ae.length,Dm Dl 0,Dm Dl 0,Dm Dl 0,Dm Dl 0, .bool false],ag b1 3 (aY (aae C.ae.length 0))] results112 ?_;refine⟨b2,b1,rfl, ?_⟩;unfold wE;dsimp only;rw[aga];rfl
theorem UQ (b q:Nat)(hot warm:Int)(h:¬(1<=hot/\1<=warm/\hot+warm<=90)):
  aG aaa 60 [Dk b,Dk q,Dm Dl hot,Dm Dl warm] uT []
   (λv H=>v= .tuple #[.pointer none,Dm Dl 1]/\H= []):=by
 refine af func60 rfl ntmps60 rfl ?_;intro F _;refine cA ?_;refine zf 12 ?_ (e:=by rfl);refine bc ?_;refine zf 16 ?_ (e:=by rfl);refine bc ?_;by_cases h1:hot<1
 ·refine zt 20 ?_ (e:=by exact decide_eq_true h1)
  refine cK ?_;refine aw ?_;refine jT [] results60 ?_;exact⟨rfl,rfl⟩
 refine zf 20 ?_ (e:=by exact decide_eq_false h1);refine bc ?_;by_cases h2:warm<1
 ·refine zt 24 ?_ (e:=by exact decide_eq_true h2)
  refine rh ?_;refine jT [] results60 ?_;exact⟨rfl,rfl⟩
 refine zf 24 ?_ (e:=by exact decide_eq_false h2);refine bc ?_;by_cases h3:90<hot
 ·refine zt 28 ?_ (e:=by exact decide_eq_true h3)
  refine gJ ?_;refine jT [] results60 ?_;exact⟨rfl,rfl⟩
 refine zf 28 ?_ (e:=by exact decide_eq_false h3);refine bs ?_;refine fe ?_;refine bs ?_;refine jT [] results60 ?_;exact⟨rfl,rfl⟩
def zR (p:pD):FJ:= [Dm Dl p.b,Dm Dl p.l,Dm Dl p.c,Dm Dl p.m]
theorem YN (c:ra)(pc:pD)(b q lu t:Nat)(C:Cs)(K:Ok C)(k:Ck)(hk:sS k)(aQ:Nat):
  aG aaa 62 [.agg (mT c).toArray, .agg (zR pc).toArray,Dk b,Dk q,Dk lu,Dk t, .agg #[Dm Dl k.now,Dm Dj aQ,Dm Dj k.cut,Dm Dl k.kJ]] (In (Cl b C)) []
   (λv H=>∃s ck wh cr mo ub,v= .tuple #[Dk s,Dm Dl 0]/\H= [fy s ⟨b,ck,t,lu,wh,cr,mo,q⟩ (fg ⟨c,pc,0,0,⟨0,0,0,0,0,0,0⟩,none,0,0⟩),kI ck k,Wl wh [] 0,ik cr q wh C.ae.length (aV s) (bx s) C ⟨0,false,0,0,none,0⟩,mN mo b ub (aV s) (bx s) (de s) (wE C.ae.length),kF ub (wE C.ae.length)]):=by
 have k1:=hk.n1;have k2:=hk.n2;have k3:=hk.p;have k4:=hk.pn;have l0:=K.l0;have l1:=K.l1;unfold mT zR fy;refine af func62 rfl ntmps62 rfl ?_;intro F hc;refine aw ?_;refine Lp (oB λb1=> ?_);refine Lp (oB λb2=> ?_);refine Lp (oB λb3=> ?_);refine bB ?_;refine Lp (oC Aa rfl rfl (VP k k1 k2 (by omega) (by omega)) .nil Di ?_);rintro v H' ⟨ck,rfl,rfl⟩;refine bR ?_;refine fX ?_;refine av ?_;refine iU 11 mix (.cons (.t2 .here) (.cons (.t2 .here) .nil)) λF1 jD bV aI=> ?_;obtain⟨q1,q2,_⟩:=bV;refine bc ?_;refine Tp (oC Aa rfl rfl (ZQ) .nil Di ?_);rintro v H' ⟨wh,rfl,rfl⟩;refine bR ?_;refine bc ?_;refine aA (t:=38) (v':=(.agg #[Dk b,Dk ck,Dk t,Dk lu,Dk wh, .pointer none, .pointer none,Dk q])) rfl (by rfl) ?_;refine aA (t:=39) (v':=(.agg #[Dm Dl c.ao,Dm Dl c.bA,Dm Dl c.iG,Dm Dl c.eI,Dm Dl c.lim,Dm Dl c.hot,Dm Dl c.warm])) rfl (by rfl) ?_;refine aA (t:=40) (v':=(.agg #[Dm Dl pc.b,Dm Dl pc.l,Dm Dl pc.c,Dm Dl pc.m])) rfl (by rfl) ?_;refine aw ?_;refine aA (t:=41) (v':=(.agg #[Dk b,Dk ck,Dk t,Dk lu,Dk wh, .pointer none, .pointer none,Dk q,Dm Dl c.ao,Dm Dl c.bA,Dm Dl c.iG,Dm Dl c.eI,Dm Dl c.lim,Dm Dl c.hot,Dm Dl c.warm,Dm Dl pc.b,Dm Dl pc.l,Dm Dl pc.c,Dm Dl pc.m,Dm Dj 0,Dm Dl 0,Dm Dl 0,Dm Dl 0,Dm Dl 0,Dm Dl 0,Dm Dl 0,Dm Dl 0,Dm Dl 0, .slice none 0 0])) rfl (by(simp only[Value.cells,cL,List.set_cons_zero,List.set_cons_succ];first|rfl|done)) ?_;refine Tp (oB λb4=> ?_);refine gI aI ?_;refine bd ?_;refine av ?_;refine eK (ι:=Nat) (FN [17,1,43,20]) (λcr=>True) (λcr=> [(17,Dm Dl 0),(18,Dk b4)]) (λcr=> [ag b4 96 [Dk b,Dk ck,Dk t,Dk lu,Dk wh,Dk cr, .pointer none,Dk q,Dm Dl c.ao,Dm Dl c.bA,Dm Dl c.iG,Dm Dl c.eI,Dm Dl c.lim,Dm Dl c.hot,Dm Dl c.warm,Dm Dl pc.b,Dm Dl pc.l,Dm Dl pc.c,Dm Dl pc.m,Dm Dj 0,Dm Dl 0,Dm Dl 0,Dm Dl 0,Dm Dl 0,Dm Dl 0,Dm Dl 0,Dm Dl 0,Dm Dl 0, .slice none 0 0],ik cr q wh C.ae.length (aV b4) (bx b4) C ⟨0,false,0,0,none,0⟩,Wl wh [] 0,kI ck k]) ?_ ?_
 ·refine Aq mix .nil λF2 zH eL dw=> ?_
  refine Dt 0 rfl Mv ?_;refine Dt 1 rfl Mv ?_;refine Dt 2 rfl Mv ?_;refine Dt 3 rfl Nc ?_;refine Dt 4 rfl (Fa nu) ?_;refine Dt 5 rfl (Fa Fg) ?_;refine Dt 7 rfl Mv ?_;refine Dt 9 rfl Mv ?_;refine Dt 10 rfl Mf ?_;refine Dt 11 rfl Mv ?_;refine Dt 12 rfl Mf ?_;refine D2 6 8 ?_ ?_
  ·refine Do rfl (oL Qn ?_)
   refine aw ?_;refine Dd 8 rfl (oZ (Aa (n:=69)) (oK b C) .nil (λ_ le _=>(hc.mono zH).mono le) ?_);refine aw ?_;refine Dd 13 rfl (oC Aa rfl rfl (KM q wh C.ae.length l0 l1 (.func 48) (.func 85) #[Dk b4] #[] #[Dk b4] #[] C) .nil Di ?_);rintro v H' ⟨cr,rfl,rfl⟩;refine bR ?_;refine aw ?_;refine Dt 14 rfl Mv ?_;refine Dt 15 rfl Ex ?_;refine Dt 16 rfl Ex ?_;refine Dt 17 rfl Nc ?_;refine Dt 18 rfl (Fa nu) ?_;refine Dt 19 rfl (Fa yM) ?_;refine Dd 20 rfl (oS D5 ?_);refine aw ?_;refine Dt 21 rfl As ?_;refine aT (by kernel_rfl) dw ?_;refine Me (cr) (trivial)
  refine Do rfl (oZ (Aa (n:=69)) (oK b C) .nil (λ_ le _=>(hc.mono zH).mono le) ?_);refine aw ?_;refine Dd 6 rfl (oL Qn ?_);refine aw ?_;refine Dd 13 rfl (oC Aa rfl rfl (KM q wh C.ae.length l0 l1 (.func 48) (.func 85) #[Dk b4] #[] #[Dk b4] #[] C) .nil Di ?_);rintro v H' ⟨cr,rfl,rfl⟩;refine bR ?_;refine aw ?_;refine Dt 14 rfl Mv ?_;refine Dt 15 rfl Ex ?_;refine Dt 16 rfl Ex ?_;refine Dt 17 rfl Nc ?_;refine Dt 18 rfl (Fa nu) ?_;refine Dt 19 rfl (Fa yM) ?_;refine Dd 20 rfl (oS D5 ?_);refine aw ?_;refine Dt 21 rfl As ?_;refine aT (by kernel_rfl) dw ?_;refine Me (cr) (trivial)
 rintro cr hI;refine dL ?_;refine Li Mf ?_;refine aw ?_;refine Li Mf ?_;refine aw ?_;refine Li Mf ?_;refine Lp (oC Aa rfl rfl (YO b C K (.func 48) (.func 85) (.func 113) #[Dk b4] #[Dk b4] #[Dk b4]) .nil (λ_ le _=>hc.mono le) ?_);rintro v H' ⟨mo,ub,rfl,rfl⟩;refine bR ?_;refine cK ?_;refine bq ?_;refine jT [ag b4 96 [Dk b,Dk ck,Dk t,Dk lu,Dk wh,Dk cr,Dk mo,Dk q,Dm Dl c.ao,Dm Dl c.bA,Dm Dl c.iG,Dm Dl c.eI,Dm Dl c.lim,Dm Dl c.hot,Dm Dl c.warm,Dm Dl pc.b,Dm Dl pc.l,Dm Dl pc.c,Dm Dl pc.m,Dm Dj 0,Dm Dl 0,Dm Dl 0,Dm Dl 0,Dm Dl 0,Dm Dl 0,Dm Dl 0,Dm Dl 0,Dm Dl 0, .slice none 0 0],kI ck k,Wl wh [] 0,ik cr q wh C.ae.length (aV b4) (bx b4) C ⟨0,false,0,0,none,0⟩,mN mo b ub (aV b4) (bx b4) (de b4) (wE C.ae.length),kF ub (wE C.ae.length)] results62 ?_;exact⟨b4,ck,wh,cr,mo,ub,rfl,rfl⟩
def dU (c:ra)(pc:pD)(k:Ck):Mo:=
 ⟨dp c,none,aae ((dp c).ae.length*3) [],λ_=>⟨[],[],0,0,0,0,0⟩,λ_=>0,⟨0,false,0,0,none,0⟩,0,k,wE (dp c).ae.length,16,0,mX (dp c),⟨c,pc,0,0,⟨0,0,0,0,0,0,0⟩,none,0,0⟩,[],0⟩
theorem Ur{c:ra}(p:Nat):¬Live (dp c) p:=λL=>by
 have:=L.own;unfold Cs.pg dp at this;rw[aab,ab1]at this;split at this<;>cases this
theorem G6 (n i:Nat):ql (aae n []) i= []:=by
 unfold ql;rw[aab,ab1];split<;>rfl
theorem CR{c:ra}(h:pB c=0)(pc:pD)(k:Ck)(hk:sS k)(nk:Nat):bH ⟨dp c,nU (mX (dp c)),⟨nk,none⟩,[]⟩ (dU c pc k):=by
 obtain⟨K,e1,e2,e3⟩:=CS h;have l1:=K.l1;have al:(nU (mX (dp c))).all= []:=by unfold nU Tb.all;simp
 have hm:∃m,m<=20/\mX (dp c)=2^m/\16<=mX (dp c):=Ko _ (by omega) 16 16 ⟨4,rfl,rfl⟩ (aam _);obtain⟨m,m1,m2,m3⟩:=hm;have pgE:∀i,(dp c).pg i= .no:=λi=>by
  unfold Cs.pg dp;rw[aab,ab1];split<;>rfl
 have qe:∀i p,p∈ql (dU c pc k).Q i->False:=λi p hp=>by
  rw[show(dU c pc k).Q=aae ((dp c).ae.length*3) []from rfl,G6]at hp;cases hp
 refine⟨rfl,K,YH ⟨m,m1,m2⟩ m3,λ_=>rfl,⟨?_,λi p hp=>(qe i p hp).elim,λi p hp=>(qe i p hp).elim,λi p hp=>(qe i p hp).elim,λi=> ?_,λi k hk=> ?_,λi k hk=> ?_⟩,⟨?_, ?_, ?_, ?_⟩,λi p hp=>(qe i p hp).elim,hk,λp=> ?_,λp=> ?_, ?_, ?_, ?_,(λh=>by cases h),rfl,rfl,rfl, ?_, ?_, ?_,λi hi=> ?_,rfl,rfl,rfl,λp hp=> ?_⟩
 ·exact aga
 ·rw[show(dU c pc k).Q=aae ((dp c).ae.length*3) []from rfl,G6];exact ag5
 ·exact(qe i _ (abC hk)).elim
 ·exact(qe i _ (abC hk)).elim
 ·intro h;cases h
 ·intro _;exact⟨rfl,rfl,rfl,rfl⟩
 ·intro p h;cases h
 ·exact abL _
 ·constructor
  ·intro h;dsimp only at h;rw[al]at h;cases h
  rintro⟨i,hi⟩;exact(qe i p hi).elim
 ·constructor
  ·intro h;exact(Ur p h).elim
  rintro(h|h)
  ·dsimp only at h;rw[al]at h;cases h
  cases h
 ·intro p h;cases h
 ·intro p hp;dsimp only at hp;rw[al]at hp;cases hp
 ·unfold gU;dsimp only;rw[al];exact List.Perm.refl _
 ·dsimp only;rw[al];rfl
 ·exact aga
 ·intro h;cases h
 ·dsimp only at hi;rw[pgE]at hi;cases hi
 dsimp only at hp;rw[al]at hp;cases hp
theorem acT{c:ra}{pc:pD}{k:Ck}{s b ck t lu wh cr mo q qb ub nk:Nat}{hot warm:Nat}(h:pB c=0)(hk:sS k){H:F8}:∀h,ai ([Cl b (dp c),ag t 154 (gE b (nU (mX (dp c))) ⟨nk,none⟩),ag nk 149 (aS (aF (nU (mX (dp c))).nb)),ag q 182 (ij b qb (dp c).ae.length),ag qb 333 ((aae ((dp c).ae.length*3) []).flatMap (cX (dp c))),ik cr q wh (dp c).ae.length (aV s) (bx s) (dp c) ⟨0,false,0,0,none,0⟩,Wl wh [] 0,fy s ⟨b,ck,t,lu,wh,cr,mo,q⟩ (fg ⟨c,pc,0,0,⟨0,0,0,0,0,0,0⟩,none,0,0⟩),kI ck k,nM lu b q hot warm,mN mo b ub (aV s) (bx s) (de s) (wE (dp c).ae.length),kF ub (wE (dp c).ae.length)]++H) h->ai (SW ⟨s,⟨b,ck,t,lu,wh,cr,mo,q⟩,qb,ub,hot,warm⟩ (dU c pc k)::H) h:=λh0 s0=>
 gN none 0 h0 (ax (B:=⟨dp c,nU (mX (dp c)),⟨nk,none⟩,[]⟩) (CR h pc k hk nk) h0 (by
  unfold dS;dsimp only[List.cons_append,List.nil_append];refine aE (λ_ s=>aE (λ_ s=>aE (λ_ s=>gm (λ_=>trivial) (aE (λ_ s=>aE (λ_ s=>aE (λ_ s=>aE (λ_ s=>aE (λ_ s=>aE (λ_ s=>aE (λ_ s=>aE (λ_ s=>aE (λ_ s=>gm (λk=>CP _ _ k) s) s) s) s) s) s) s) s) s) s)) s) s) s0))
def aaB (p:pD):Bool:=decide ((0<=p.b/\p.b<=1048576)/\(0<=p.l/\p.l<=1048576)/\(0<=p.c/\p.c<=1048576)/\(0<=p.m/\p.m<=1048576))
def rQ (c:ra)(p:pD):Int:=if pB c=0 then if 1<=c.hot/\1<=c.warm/\c.hot+c.warm<=90 then if aaB p=true then 0 else 1 else 1 else pB c
theorem afO:Bv aaa 119=some (4,3,1):=by kernel_rfl
theorem ER (c:ra)(pc:pD):aG aaa 22 [.agg (mT c).toArray, .agg (zR pc).toArray] uT []
  (λv H=>(rQ c pc≠0/\v= .tuple #[.pointer none,Dm Dl (rQ c pc)]/\H= [])\/(rQ c pc=0/\∃z:Ly,z.hot=c.hot.toNat/\z.warm=c.warm.toNat/\z.hot<=90/\z.warm<=90/\v= .tuple #[Dk z.s,Dm Dl 0]/\H= [SW z (dU c pc ⟨1,0,0⟩)])):=by
 unfold zR;refine af func22 rfl ntmps22 rfl ?_;intro F _;refine aw ?_;refine Lp (oB λb1=> ?_);refine Lp (oB λb2=> ?_);refine bn ?_;refine Lp (oC Aa rfl rfl (ZG c) .nil Di ?_);rintro v H' hr;refine bR ?_;rcases hr with⟨h1,rfl,rfl⟩|⟨h1,b,rfl,rfl⟩
 ·refine Li Mv ?_
  refine bB ?_;refine fe ?_ (e:=by exact congrArg (!·) (decide_eq_false h1));refine bK ?_;refine jT [] results22 ?_;exact .inl (by unfold rQ;rw[if_neg h1];exact⟨h1,rfl,rfl⟩)
 refine Li Mv ?_;refine bP ?_;obtain⟨K,e1,e2,e3⟩:=CS h1;refine bc ?_;refine Lp (oC Aa rfl rfl (Ye b (dp c) K) .nil (λ_ le ak=>ak.1) ?_);rintro v H' ⟨q,qb,rfl,rfl⟩;refine bR ?_;refine cK ?_;refine aw ?_;by_cases h2:1<=c.hot/\1<=c.warm/\c.hot+c.warm<=90
 ·obtain⟨hot,hh⟩:∃n:Nat,c.hot=n:=⟨c.hot.toNat,by omega⟩
  obtain⟨warm,hw⟩:∃n:Nat,c.warm=n:=⟨c.warm.toNat,by omega⟩;refine aA (t:=33) (v':=(Dm Dl hot)) rfl (by exact congrArg (Value.int .i64) hh) ?_;refine aA (t:=35) (v':=(Dm Dl warm)) rfl (by exact congrArg (Value.int .i64) hw) ?_;refine Lp (oC Aa rfl rfl (Y3 b q hot warm (by omega) (by omega) (by omega)) .nil Di ?_);rintro v H' ⟨lu,rfl,rfl⟩;refine bR ?_;refine cK ?_;refine bc ?_;refine Li (Bda acM afS) ?_;refine bq ?_;refine Lo (ι:=Nat) (FN [4,2,11,1,51,10]) (λi=>i<=4/\∀j,j<i->∃z:Int,[pc.b,pc.l,pc.c,pc.m][j]?=some z/\0<=z/\z<=1048576) (λi=> [(51,Dm Dl i)]) (λi=> [nM lu b q hot warm,ag q 182 (ij b qb (dp c).ae.length),ag qb 333 ((aae ((dp c).ae.length*3) []).flatMap (cX (dp c))),Cl b (dp c),ag b2 23 [Dm Dl pc.b,Dm Dl pc.l,Dm Dl pc.c,Dm Dl pc.m],ag b1 29 (mT c)]) (λi=>4-i) (0) ⟨abL _,λj h=>absurd h (Nat.not_lt_zero j)⟩ ?_;rintro i ⟨i1,i2⟩;refine bq ?_;refine av ?_;refine az rfl ?_ ?_
  ·intro hi
   replace hi:=aO hi;have hi4:i<4:=by omega
   obtain⟨z,hz⟩:∃z,[pc.b,pc.l,pc.c,pc.m][i]?=some z:=⟨_,aac (by simpa using hi4)⟩;have OU:([Dm Dl pc.b,Dm Dl pc.l,Dm Dl pc.c,Dm Dl pc.m]:FJ)[i]?=some (Dm Dl z):=by
    have:([Dm Dl pc.b,Dm Dl pc.l,Dm Dl pc.c,Dm Dl pc.m]:FJ)= [pc.b,pc.l,pc.c,pc.m].map (Value.int .i64):=rfl;rw[this,abD,hz];rfl
   refine bn ?_;refine Li (Ias afO bj (j:=i) (cs:= [Dm Dl pc.b,Dm Dl pc.l,Dm Dl pc.c,Dm Dl pc.m]) (v:=Dm Dl z)) ?_;refine bs ?_;have bad:¬(0<=z/\z<=1048576)->rQ c pc=1:=λh=>by
    unfold rQ;rw[if_pos h1,if_pos h2,if_neg];intro e;obtain⟨p1,p2,p3,p4⟩:=of_decide_eq_true e;rcases i with _|_|_|_|i
    ·cases hz;exact h p1
    ·cases hz;exact h p2
    ·cases hz;exact h p3
    ·cases hz;exact h p4
    omega
   by_cases z0:z<0
   ·refine zt 56 ?_ (e:=by exact decide_eq_true z0)
    refine lx ?_;refine jT [] results22 ?_;exact .inl (by rw[bad (by omega)];exact⟨by decide,rfl,rfl⟩)
   refine zf 56 ?_ (e:=by exact decide_eq_false z0);refine bc ?_;by_cases z1:1048576<z
   ·refine fe ?_ (e:=by exact decide_eq_true z1)
    refine bB ?_;refine jT [] results22 ?_;exact .inl (by rw[bad (by omega)];exact⟨by decide,rfl,rfl⟩)
   refine cN ?_ (e:=by exact decide_eq_false z1);refine bs ?_;refine aD ?_;refine Ro (i+1) (⟨by omega,λj hj=> ?_⟩) ((by omega));by_cases Z6:j=i
   ·subst Z6;exact⟨z,hz,by omega,by omega⟩
   exact i2 j (by omega)
  intro hi;replace hi:=aO hi;obtain rfl:i=4:=by omega
  have hp:aaB pc=true:=by
   obtain⟨z0,a0,b0⟩:=i2 0 (by decide);obtain⟨z1,a1,b1⟩:=i2 1 (by decide);obtain⟨z2,a2,b2⟩:=i2 2 (by decide);obtain⟨z3,a3,b3⟩:=i2 3 (by decide);cases a0;cases a1;cases a2;cases a3;exact decide_eq_true ⟨b0,b1,b2,b3⟩
  have h0:rQ c pc=0:=by unfold rQ;rw[if_pos h1,if_pos h2,if_pos hp]
  refine bK ?_;refine Lp (oC Aa rfl rfl (XM b (dp c) K) .nil (λ_ le ak=>ak.2.2.2.1) ?_);rintro v H' ⟨t,nk,rfl,rfl⟩;refine bR ?_;refine cK ?_;refine bd ?_;refine Lp (oC Aa rfl rfl (YN c pc b q lu t (dp c) K ⟨1,0,0⟩ ⟨aam _,by decide,by decide,λh=>absurd rfl h,by decide⟩ 0) .nil (λ_ le ak=>ak.2.2.2.2.2.1) ?_);rintro v H' ⟨s,ck,wh,cr,mo,ub,rfl,rfl⟩;refine bR ?_;refine bs ?_;refine Hh (H':= [Cl b (dp c),ag t 154 (gE b (nU (mX (dp c))) ⟨nk,none⟩),ag nk 149 (aS (aF (nU (mX (dp c))).nb)),ag q 182 (ij b qb (dp c).ae.length),ag qb 333 ((aae ((dp c).ae.length*3) []).flatMap (cX (dp c))),ik cr q wh (dp c).ae.length (aV s) (bx s) (dp c) ⟨0,false,0,0,none,0⟩,Wl wh [] 0,fy s ⟨b,ck,t,lu,wh,cr,mo,q⟩ (fg ⟨c,pc,0,0,⟨0,0,0,0,0,0,0⟩,none,0,0⟩),kI ck ⟨1,0,0⟩,nM lu b q hot warm,mN mo b ub (aV s) (bx s) (de s) (wE (dp c).ae.length),kF ub (wE (dp c).ae.length),ag b2 23 [Dm Dl pc.b,Dm Dl pc.l,Dm Dl pc.c,Dm Dl pc.m],ag b1 29 (mT c)]) ?_;refine au (acT (k:=⟨1,0,0⟩) (pc:=pc) h1 ⟨aam _,by decide,by decide,λh=>absurd rfl h,by decide⟩) ?_;refine jT [SW ⟨s,⟨b,ck,t,lu,wh,cr,mo,q⟩,qb,ub,hot,warm⟩ (dU c pc ⟨1,0,0⟩)] results22 ?_;exact .inr ⟨h0,⟨s,⟨b,ck,t,lu,wh,cr,mo,q⟩,qb,ub,hot,warm⟩,by dsimp only;omega,by dsimp only;omega,by dsimp only;omega,by dsimp only;omega,rfl,rfl⟩
 refine zl Aa (UQ b q c.hot c.warm h2) .nil Di ?_;refine Lu ?_;refine jT [] results22 ?_;exact .inl (by unfold rQ;rw[if_pos h1,if_neg h2];exact⟨by decide,rfl,rfl⟩)
def kj:pD:=⟨8,3,4,2⟩
theorem adO (c:ra):aG aaa 63 [.agg (mT c).toArray] uT []
  (λv H=>(rQ c kj≠0/\v= .tuple #[.pointer none,Dm Dl (rQ c kj)]/\H= [])\/(rQ c kj=0/\∃z:Ly,z.hot=c.hot.toNat/\z.warm=c.warm.toNat/\z.hot<=90/\z.warm<=90/\v= .tuple #[Dk z.s,Dm Dl 0]/\H= [SW z (dU c kj ⟨1,0,0⟩)])):=by
 refine af func63 rfl ntmps63 rfl ?_;intro F _;refine aw ?_;refine Lp (oB λb1=> ?_);refine bs ?_;refine Lp (oC Aa rfl rfl (ER c kj) .nil Di ?_);rintro v H' hr;refine bR ?_;rcases hr with⟨h1,rfl,rfl⟩|⟨h1,z,z1,z2,z3,z4,rfl,rfl⟩
 ·refine Li Ex ?_
  refine bn ?_;refine jT [] results63 ?_;exact .inl ⟨h1,rfl,rfl⟩
 refine Li Ex ?_;refine bn ?_;refine jT [SW z (dU c kj ⟨1,0,0⟩)] results63 ?_;exact .inr ⟨h1,z,z1,z2,z3,z4,rfl,rfl⟩
end Go.Proofs.YtcbcjolpdljbiaaGreat
