/- Part Pm of the proof. -/
import Derived.Test.YtdolmecackmjdaaGreatDoorPc1
import Derived.Test.YtdolmecackmjdaaGreatDoorPd
import Derived.Test.YtdolmecackmjdaaGreatDoorPe
import Derived.Test.YtdolmecackmjdaaGreatDoorPl
set_option maxRecDepth 100000
open Nat renaming le_refl → aan, zero_le → aay, mul_le_mul → adE, pow_le_pow_right → adv, mul_comm → adq, pow_succ → adI
open List renaming length_append → aal, mem_cons → aau, mem_singleton → aaA, not_mem_nil → adS, replicate → aae, getElem?_map → aap, getElem?_replicate → aaG, getElem?_eq_getElem → aac, flatMap_def → aeg, map_replicate → adj, getElem?_eq_none → aat, replicate_succ → aer, getD_eq_getElem?_getD → aab, length_replicate → ado, eq_of_mem_replicate → adL, nodup_nil → aec, flatten_cons → aeT, getElem_mem → aam
open Int renaming natCast_mul → afC
open Decidable renaming byContradiction → aak
open Go.Proofs.Tryz renaming prog → aaa
open Go.Proofs.Tryz
namespace Go.Proofs.YtdolmecackmjdaaGreatDoor
open Go Go.cV Go.Proofs.YtdolmecackmjdaaGreatDoor.Cs
def Up (n:Int):Int:=IntKind.i64.wrap (BitVec.ofInt 64 n&&&BitVec.ofInt 64 (n-1)).toNat
def rh (c:oU):Bool:=decide (4096≤c.ao∧c.ao≤1048576∧Up c.ao=0∧1≤c.cP∧c.cP≤1024∧105≤c.gA∧c.gA≤400∧64≤c.dE∧c.dE≤512∧c.dE % 8=0∧c.dE≤c.lim∧c.lim≤c.ao)
theorem NW (c:oU):aF aaa 57 [.agg (j9 c).toArray] (λ_=>True) [] (λv H=>v= .bool (rh c)∧H= []):=by
 unfold j9
 have ok:∀b,(b=true↔(4096≤c.ao∧c.ao≤1048576∧Up c.ao=0∧1≤c.cP∧c.cP≤1024∧105≤c.gA∧c.gA≤400∧64≤c.dE∧c.dE≤512∧c.dE % 8=0∧c.dE≤c.lim∧c.lim≤c.ao))→Value.bool b= .bool (rh c):=λb h=>congrArg Value.bool (by
  unfold rh
  rw[Bool.eq_iff_iff,h,decide_eq_true_eq])
 refine af func57 rfl ntmps57 rfl ?_
 intro F _
 refine aA ?_
 refine Lp (oB λb1=> ?_)
 refine bf ?_
 refine aw ?_
 refine dJ (ι:=Unit) [3,4,5,6,7,8,9,10,11,12,13,14,15,16,17,18,19,20,21,22,23,24,25,26,27,28,29,2] (λu=>4096≤c.ao∧c.ao≤1048576∧Up c.ao=0∧1≤c.cP∧c.cP≤1024) (λu=> []) (λu=> [ag b1 23 [.int .i64 c.ao, .int .i64 c.cP, .int .i64 c.gA, .int .i64 c.dE, .int .i64 c.lim, .int .i64 c.hot, .int .i64 c.warm]]) ?_ ?_
 ·refine iu ?_
  refine aW ?_
  refine aS (t:=6) rfl ?_ ?_
  ·intro cY
   replace cY:=aL cY
   refine bW ?_
   refine bA ?_
   refine Rt [] results57 ?_
   exact⟨ok _ ⟨(λh=>by cases h),λh=>by exfalso;first|omega|(simp_all;done)⟩,rfl⟩
  intro cY
  replace cY:=aL cY
  refine br ?_
  refine aS (t:=11) rfl ?_ ?_
  ·intro dq
   replace dq:=aL dq
   refine bW ?_
   refine br ?_
   refine Rt [] results57 ?_
   exact⟨ok _ ⟨(λh=>by cases h),λh=>by exfalso;first|omega|(simp_all;done)⟩,rfl⟩
  intro dq
  replace dq:=aL dq
  refine bD ?_
  refine ay (t:=17) (v':=(.int .i64 (Up c.ao))) rfl (by(first|rfl|(refine congrArg (Value.int .i64) ?_;unfold Up;rw[wrap_i64 (by omega)];rfl))) ?_
  refine Li (Cm) ?_
  refine bf ?_
  refine aS (t:=20) rfl ?_ ?_
  ·intro cX
   replace cX:=aL cX
   refine qY ?_
   refine Rt [] results57 ?_
   exact⟨ok _ ⟨(λh=>by cases h),λh=>by exfalso;first|omega|(simp_all;done)⟩,rfl⟩
  intro cX
  replace cX:=aL cX
  refine br ?_
  refine aS (t:=25) rfl ?_ ?_
  ·intro bU
   replace bU:=aL bU
   refine bI ?_
   refine Rt [] results57 ?_
   exact⟨ok _ ⟨(λh=>by cases h),λh=>by exfalso;first|omega|(simp_all;done)⟩,rfl⟩
  intro bU
  replace bU:=aL bU
  refine br ?_
  refine ax rfl ?_ ?_
  ·intro de
   replace de:=aL de
   refine br ?_
   refine Rt [] results57 ?_
   exact⟨ok _ ⟨(λh=>by cases h),λh=>by exfalso;first|omega|(simp_all;done)⟩,rfl⟩
  intro de
  replace de:=aL de
  refine aA ?_
  refine Me (()) ((by refine⟨?_, ?_, ?_, ?_, ?_⟩<;>omega))
 rintro u hI
 refine bD ?_
 refine aS (t:=33) rfl ?_ ?_
 ·intro cY
  replace cY:=aL cY
  refine bI ?_
  refine Rt [] results57 ?_
  refine⟨ok _ ?_,rfl⟩
  first|exact⟨(λh=>by cases h),λh=>by exfalso;omega⟩|(rw[decide_eq_true_eq];constructor<;>intro h<;>omega)
 intro cY
 replace cY:=aL cY
 refine br ?_
 refine ax rfl ?_ ?_
 ·intro dq
  replace dq:=aL dq
  refine br ?_
  refine Rt [] results57 ?_
  refine⟨ok _ ?_,rfl⟩
  first|exact⟨(λh=>by cases h),λh=>by exfalso;omega⟩|(rw[decide_eq_true_eq];constructor<;>intro h<;>omega)
 intro dq
 replace dq:=aL dq
 refine dh ?_
 refine aS (t:=41) rfl ?_ ?_
 ·intro cX
  replace cX:=aL cX
  refine mI ?_
  refine Rt [] results57 ?_
  refine⟨ok _ ?_,rfl⟩
  first|exact⟨(λh=>by cases h),λh=>by exfalso;omega⟩|(rw[decide_eq_true_eq];constructor<;>intro h<;>omega)
 intro cX
 replace cX:=aL cX
 refine br ?_
 refine aS (t:=46) rfl ?_ ?_
 ·intro bU
  replace bU:=aL bU
  refine eC ?_
  refine Rt [] results57 ?_
  refine⟨ok _ ?_,rfl⟩
  first|exact⟨(λh=>by cases h),λh=>by exfalso;omega⟩|(rw[decide_eq_true_eq];constructor<;>intro h<;>omega)
 intro bU
 replace bU:=aL bU
 refine bf ?_
 refine Li (Im) ?_
 refine ay (t:=49) (v':=(.int .i64 (c.dE % 8))) rfl (by exact congrArg (Value.int .i64) (Int.tmod_eq_emod_of_nonneg (by omega))) ?_
 refine bq ?_
 refine ax rfl ?_ ?_
 ·intro de
  replace de:=aL de
  refine br ?_
  refine Rt [] results57 ?_
  refine⟨ok _ ?_,rfl⟩
  first|exact⟨(λh=>by cases h),λh=>by exfalso;omega⟩|(rw[decide_eq_true_eq];constructor<;>intro h<;>omega)
 intro de
 replace de:=aL de
 refine dg ?_
 refine aS (t:=57) rfl ?_ ?_
 ·intro ig
  replace ig:=aL ig
  refine dg ?_
  refine Rt [] results57 ?_
  refine⟨ok _ ?_,rfl⟩
  first|exact⟨(λh=>by cases h),λh=>by exfalso;omega⟩|(rw[decide_eq_true_eq];constructor<;>intro h<;>omega)
 intro ig
 replace ig:=aL ig
 refine dg ?_
 refine Rt [] results57 ?_
 refine⟨ok _ ?_,rfl⟩
 first|exact⟨(λh=>by cases h),λh=>by exfalso;omega⟩|(rw[decide_eq_true_eq];constructor<;>intro h<;>omega)
def sK (gA last:Nat):Nat→Nat→List Nat
 |0,n=> [n]
 |k+1,n=>if last≤n then [n]else n::sK gA last k (min last ((n*gA+799)/800*8))
def qd (c:oU):Nat:=(c.lim.toNat+7)/8*8
def eM (c:oU):List Nat:=sK c.gA.toNat (qd c) 62 c.dE.toNat
theorem yQ (gA last:Nat):∀k n,1≤(sK gA last k n).length∧(sK gA last k n).length≤k+1
 |0,n=>⟨aan _,aan _⟩
 |k+1,n=>by
  unfold sK
  split
  ·exact⟨aan _,by simp⟩
  obtain⟨h1,h2⟩:=yQ gA last k (min last ((n*gA+799)/800*8))
  rw[List.length_cons]
  omega
theorem NK (c:oU)(hr:rh c=true):aF aaa 58 [.agg (j9 c).toArray] (λ_=>True) [] (λv H=>∃a cc,v= .slice a (eM c).length cc∧H= [own a cc 3 1 (ba (eM c))]):=by
 have hr:=of_decide_eq_true hr
 obtain⟨h1,h2,h3,h4,h5,h6,h7,h8,h9,ZW,h11,B8⟩:=hr
 obtain⟨gA,hf⟩:∃f:Nat,c.gA=f:=⟨c.gA.toNat,by omega⟩
 obtain⟨dE,hm⟩:∃f:Nat,c.dE=f:=⟨c.dE.toNat,by omega⟩
 obtain⟨lim,hl⟩:∃f:Nat,c.lim=f:=⟨c.lim.toNat,by omega⟩
 have hs:eM c=sK gA (qd c) 62 dE:=by unfold eM;rw[hf,hm];rfl
 have hla:qd c=(lim+7)/8*8:=by unfold qd;rw[hl];rfl
 have hlb:qd c≤1048583:=by omega
 unfold j9
 rw[hf,hm,hl,hs]
 rw[hf]at h6 h7
 rw[hm]at h8 h9
 refine af func58 rfl ntmps58 rfl ?_
 intro F _
 refine aA ?_
 refine Lp (oB λb1=> ?_)
 refine bf ?_
 refine TR ?_
 refine aW ?_
 refine ay (t:=8) (v':=(.int .i64 ((lim+7:Nat):Int))) rfl (by exact congrArg (Value.int .i64) rfl) ?_
 refine Li (Qu (q:=8)) ?_
 refine aA ?_
 refine ay (t:=10) (v':=(.int .i64 ((lim+7)/8*8:Nat))) rfl (by exact congrArg (Value.int .i64) (by omega)) ?_
 refine br ?_
 refine Lp (oT T.jg λb2=> ?_)
 refine bf ?_
 refine aw ?_
 refine TU ?_
 refine bq ?_
 refine ay (t:=3) (v':=(.int .i64 (qd c:Int))) rfl (by exact congrArg (Value.int .i64) (by rw[hla])) ?_
 generalize hL:qd c=L at*
 refine az (λk s=>aY (λh p=>mh p 1 1 rfl (by decide)) s) ?_
 refine Lo (ι:=List Nat×Nat×Option Addr×Nat) [14,15,16,17,18,19,5,21,22,23,20,24,25,26,27,28,29,30,31,32,33,34,35,36,37,38,4] (λs=>(s.1.length≤62∧s.2.1≤1048583∧64≤s.2.1)∧sK gA L 62 dE=s.1++sK gA L (62-s.1.length) s.2.1) (λs=> [(4, .slice s.2.2.1 (s.1.length+1) s.2.2.2)]) (λs=> [ag b1 23 [.int .i64 c.ao, .int .i64 c.cP, .int .i64 (gA:Int), .int .i64 (dE:Int), .int .i64 (lim:Int), .int .i64 c.hot, .int .i64 c.warm],own s.2.2.1 s.2.2.2 3 1 (ba (s.1++ [s.2.1]))]) (λs=>62-s.1.length) (([],dE,some ⟨b2,0,none⟩,1)) ⟨⟨aay _,by dsimp only;omega,by dsimp only;omega⟩,rfl⟩ ?_
 rintro⟨l,n,a,cc⟩ hI
 dsimp only at hI⊢
 obtain⟨⟨i1,i2,i3⟩,i4⟩:=hI
 have B5:(ba (l++ [n]))[l.length]?=some (.int .i64 (n:Int)):=by unfold ba;rw[List.map_append,List.getElem?_append_right (by simp)];simp
 have VV:(ba (l++ [n])).length=l.length+1:=by unfold ba;simp
 refine kK (iN (.there .here) (λ_ o=>nu o (by rw[VV];omega))) λZU=> ?_
 refine bD ?_
 refine ay (t:=17) (v':=(.int .i64 (l.length:Int))) rfl (by exact congrArg (Value.int .i64) (by omega)) ?_
 refine Li (Ix T.se (j:=l.length)) ?_
 refine bq ?_
 refine aw ?_
 by_cases Wg:L≤n∨62≤l.length
 ·have he:sK gA L (62-l.length) n= [n]:=by
   rcases Wg with h|h
   ·rcases hk:62-l.length with _|k
    ·rfl
    unfold sK;rw[if_pos h]
   rw[show 62-l.length=0 by omega];rfl
  rw[he]at i4
  by_cases Cp:L≤n
  ·refine nM ?_
   refine bL ?_
   refine fB ?_
   refine bf ?_
   refine fB ?_
   refine eC ?_
   refine sH ?_
   refine Rt [own a cc 3 1 (ba (l++ [n]))] results58 ?_
   exact⟨a,cc,by rw[i4,aal];rfl,by rw[i4]⟩
  refine nM ?_
  refine bL ?_
  refine dm ?_
  refine bD ?_
  refine fB ?_
  refine eC ?_
  refine sH ?_
  refine Rt [own a cc 3 1 (ba (l++ [n]))] results58 ?_
  exact⟨a,cc,by rw[i4,aal];rfl,by rw[i4]⟩
 obtain⟨k,hk⟩:∃k,62-l.length=k+1:=⟨61-l.length,by omega⟩
 have he:sK gA L (62-l.length) n=n::sK gA L (62-(l.length+1)) (min L ((n*gA+799)/800*8)):=by
  rw[hk,show 62-(l.length+1)=k by omega]
  conv=>lhs;unfold sK
  rw[if_neg (by omega)]
 rw[he]at i4
 have hnf:n*gA≤1048583*400:=adE i2 (by omega)
 have hnf2:64*105≤n*gA:=adE i3 (by omega)
 refine dh ?_
 refine dm ?_
 refine bD ?_
 refine dm ?_
 refine bA ?_
 refine ay (t:=32) (v':=(.int .i64 ((n*gA:Nat):Int))) rfl (by exact congrArg (Value.int .i64) (by first|rfl|(rw[←afC];exact wrap_i64 (by omega)))) ?_
 generalize n*gA=nf at*
 refine aA ?_
 refine ay (t:=33) (v':=(.int .i64 ((nf+799:Nat):Int))) rfl (by exact congrArg (Value.int .i64) rfl) ?_
 refine Li (Qu (q:=800)) ?_
 refine aA ?_
 refine Li Mi ?_
 refine ay (t:=36) (v':=(.int .i64 (min L ((nf+799)/800*8):Nat))) rfl (by exact congrArg (Value.int .i64) (by omega)) ?_
 generalize hmn:min L ((nf+799)/800*8)=mn at*
 refine Lp (oT T.jg λb3=> ?_)
 refine Lp (cC T.jg T.wZ rfl rfl rfl rfl (.there .here) (by simp[ba]) (rfl) (by simp[Value.oneCell']) (by first|omega|(simp;omega)) (by first|omega|(simp;omega)) rfl λa2 c2 n9=> ?_)
 refine bq ?_
 rw[show ba (l++ [n])++ [Value.int .i64 (mn:Int)]=ba ((l++ [n])++ [mn]) by rw[lF _ [mn]];rfl,show l.length+1=(l++ [n]).length by simp]
 have zO:(l++ [n]).length=l.length+1:=by simp
 have hi4:sK gA L 62 dE=(l++ [n])++sK gA L (62-(l++ [n]).length) mn:=by rw[i4,zO,List.append_assoc];rfl
 generalize l++ [n]=l2 at*
 refine Ro ((l2,mn,a2,c2)) (⟨⟨(by dsimp only;omega),(by dsimp only;omega),(by dsimp only;omega)⟩,hi4⟩) ((by dsimp only;omega))
theorem XD{n:Nat}(h1:1≤n)(h2:n<4294967296)(h:Up n=0):n&&&(n-1)=0:=by
 unfold Up at h
 have e1:(BitVec.ofInt 64 (n:Int)).toNat=n:=by rw[BitVec.toNat_ofInt];omega
 have e2:(BitVec.ofInt 64 ((n:Int)-1)).toNat=n-1:=by rw[BitVec.toNat_ofInt];omega
 rw[BitVec.toNat_and,e1,e2]at h
 have h3:n&&&(n-1)≤n:=Nat.and_le_left
 generalize n&&&(n-1)=x at*
 simp[IntKind.wrap,IntKind.bits,IntKind.signed]at h
 omega
theorem XC{n:Nat}(h1:1≤n)(h:n&&&(n-1)=0):n=2^n.log2:=by
 have l1:=Nat.log2_self_le (n:=n) (by omega)
 have l2:=Nat.lt_log2_self (n:=n)
 refine aak λg=> ?_
 have bit:∀x,2^n.log2≤x→x<2^(n.log2+1)→x.testBit n.log2=true:=λx a b=>by
  obtain⟨i,hi,ht⟩:=Nat.exists_ge_and_testBit_of_ge_two_pow a
  have:i=n.log2:=by
   refine aak λe=> ?_
   have h3:x<2^i:=Nat.lt_of_lt_of_le b (adv (by decide) (by omega))
   rw[Nat.testBit_lt_two_pow h3]at ht;cases ht
  rw[←this];exact ht
 have b1:=bit n l1 l2
 have b2:=bit (n-1) (by omega) (by omega)
 have:(n&&&(n-1)).testBit n.log2=true:=by rw[Nat.testBit_and,b1,b2];rfl
 rw[h]at this
 simp at this
def Qr:List Nat:= [4096,8192,16384,32768,65536,131072,262144,524288,1048576]
theorem abZ{n:Nat}(h1:4096≤n)(h2:n≤1048576)(h:Up n=0):n∈Qr:=by
 have e:=XC (by omega) (XD (by omega) (by omega) h)
 have k1:12≤n.log2:=by
  refine aak λg=> ?_
  have:=adv (n:=2) (by decide) (show n.log2≤11 by omega)
  omega
 have k2:n.log2≤20:=by
  refine aak λg=> ?_
  have:=adv (n:=2) (by decide) (show 21≤n.log2 by omega)
  omega
 rw[e]
 generalize n.log2=k at*
 have:k=12∨k=13∨k=14∨k=15∨k=16∨k=17∨k=18∨k=19∨k=20:=by omega
 rcases this with rfl|rfl|rfl|rfl|rfl|rfl|rfl|rfl|rfl<;>decide
theorem HJ (n:Nat):aF aaa 149 [.int .u64 (n:Int)] (λ_=>True) [] (λv H=>(∃z:Int,v= .int .i64 z∧(n∈Qr→z=1))∧H= []):=by
 refine af func149 rfl ntmps149 rfl ?_
 intro F _
 refine br ?_
 refine Li (Sr 1) ?_
 refine dh ?_
 refine Li (Sr 2) ?_
 refine dh ?_
 refine Li (Sr 4) ?_
 refine dh ?_
 refine Li (Sr 8) ?_
 refine bD ?_
 refine Li (Sr 16) ?_
 refine bD ?_
 refine Li (Sr 32) ?_
 refine bA ?_
 refine Rt [] results149 ?_
 refine⟨⟨_,rfl,λh=> ?_⟩,rfl⟩
 simp only[Qr,aau,aaA,adS,or_false]at h
 rcases h with rfl|rfl|rfl|rfl|rfl|rfl|rfl|rfl|rfl<;>decide+kernel
theorem uT{z:List Value}(n k:Nat)(hk:k=n*z.length):fJ z k=(aae n z).flatten:=by
 subst hk
 rcases Nat.eq_zero_or_pos z.length with h0|h0
 ·rw[List.eq_nil_of_length_eq_zero h0];simp[fJ]
 apply List.ext_getElem?
 intro i
 have e:((aae n z).flatten).length=n*z.length:=by simp
 by_cases hi:i<n*z.length
 ·have q:i/z.length<n:=(Nat.div_lt_iff_lt_mul h0).2 hi
  have r:i % z.length<z.length:=Nat.mod_lt _ h0
  unfold fJ
  rw[aap,List.getElem?_range hi]
  have:=bj (f:=λ_:Unit=>z) (k:=z.length) (λ_=>rfl) (l:=aae n ()) (i:=i/z.length) (a:=()) (by rw[aaG,if_pos q]) (j:=i % z.length) (v:=z[i % z.length]) (aac r)
  rw[Option.map_some,aac r]
  rw[show i/z.length*z.length+i % z.length=i from by rw[adq];exact Nat.div_add_mod i _]at this
  rw[aeg,adj]at this
  exact this.symm
 rw[aat (by rw[iR];omega),aat (by omega)]
theorem SF (n:Nat):aF aaa 97 [.int .u64 (n:Int)] (λ_=>True) [] (λv H=>(∃z:Int,v= .int .i64 z∧(n∈Qr→z=1))∧H= []):=by
 refine af func97 rfl ntmps97 rfl ?_
 intro F _
 refine dg ?_
 refine Lp (oC T.YK rfl rfl (HJ n) .nil (λ_ _ _=>trivial) ?_)
 rintro v H' ⟨⟨z,rfl,hz⟩,rfl⟩
 refine bd ?_
 refine bq ?_
 refine Rt [] results97 ?_
 exact⟨⟨z,rfl,hz⟩,rfl⟩
theorem Qe (n:Nat):fJ [.int .u8 0] (n*1)=di (λ_=>0) n:=by
 rw[nj,Nat.mul_one]
 unfold di ak iC
 simp[List.map_map,Function.comp_def,List.map_const']
theorem Uk (s n:Nat)(h1:s∈Qr)(h2:1≤n)(h3:n≤1024):aF aaa 59 [.int .i64 (s:Int), .int .i64 (n:Int)] (λ_=>True) []
  (λv H=>∃a ab,v= .tuple #[.pointer (some ⟨a,0,none⟩), .int .i64 0]∧H= [ag a 192 (gG ab s (s*n)),ag ab 5 (di (λ_=>0) (s*n))]):=by
 have hs:4096≤s∧s≤1048576:=by
  simp only[Qr,aau,adS,or_false]at h1
  omega
 have hb:s*n≤1048576*1024:=adE hs.2 h3
 unfold gG
 refine af func59 rfl ntmps59 rfl ?_
 intro F _
 refine br ?_
 refine aw ?_
 refine dJ (ι:=Unit) [6,7,8,9,10,11,12,13,14,15,16,17,18,19,20,21,22,23,24,25] (λu=>True) (λu=> [(25, .bool false)]) (λu=> []) ?_ ?_
 ·refine fi ?_
  refine bq ?_
  refine aS (t:=8) rfl ?_ ?_
  ·intro cY
   replace cY:=aL cY
   refine mI ?_
   refine aG ?_
   refine Me (()) (trivial)
  intro cY
  replace cY:=aL cY
  refine aW ?_
  refine aS (t:=12) rfl ?_ ?_
  ·intro dq
   replace dq:=aL dq
   refine gP ?_
   refine aG ?_
   refine Me (()) (trivial)
  intro dq
  replace dq:=aL dq
  refine bf ?_
  refine ay (t:=14) (v':=(.int .u64 (s:Int))) rfl (by(first|rfl|exact congrArg (Value.int .u64) (by first|rfl|exact wrap_u64 (by omega)))) ?_
  refine Lp (oC T.acq rfl rfl (SF s) .nil (λ_ _ _=>trivial) ?_)
  rintro v H' ⟨⟨z,rfl,hz⟩,rfl⟩
  refine bd ?_
  refine bq ?_
  refine aS (t:=18) rfl ?_ ?_
  ·intro cX
   replace cX:=aL cX
   refine bL ?_
   refine aG ?_
   refine Me (()) (trivial)
  intro cX
  replace cX:=aL cX
  refine aW ?_
  refine aS (t:=22) rfl ?_ ?_
  ·intro bU
   replace bU:=aL bU
   refine bq ?_
   refine aG ?_
   refine Me (()) (trivial)
  intro bU
  replace bU:=aL bU
  refine bq ?_
  refine aG ?_
  refine Me (()) (trivial)
 rintro u hI
 refine dh ?_
 refine ay (t:=29) (v':=(.int .i64 ((s*n:Nat):Int))) rfl (by exact congrArg (Value.int .i64) (by first|rfl|(rw[←afC];exact wrap_i64 (by omega)))) ?_
 refine Lp (oM (s*n) (s*n) T.iL λb1=> ?_)
 rw[Qe]
 refine aA ?_
 refine Lp (oB λb2=> ?_)
 refine aW ?_
 refine iV [ag b2 192 [.int .i64 (s:Int), .slice (some ⟨b1,0,none⟩) (s*n) (s*n)],ag b1 5 (di (λ_=>0) (s*n))] results59 ?_
 exact⟨_,_,rfl,rfl⟩
theorem Lh{ao gA last:Nat}(h1:last≤ao)(h2:64≤last)(h3:last % 8=0)(h4:105≤gA):∀k n,64≤n→n≤ao→n % 8=0→∀z∈sK gA last k n,64≤z∧z≤ao∧z % 8=0
 |0,n,a,b,c,z,hz=>by
  unfold sK at hz
  rw[aaA]at hz
  subst hz;exact⟨a,b,c⟩
 |k+1,n,a,b,c,z,hz=>by
  unfold sK at hz
  split at hz
  ·rw[aaA]at hz
   subst hz;exact⟨a,b,c⟩
  rw[aau]at hz
  rcases hz with rfl|hz
  ·exact⟨a,b,c⟩
  have:64*105≤n*gA:=adE a h4
  exact Lh h1 h2 h3 h4 k _ (by omega) (by omega) (by omega) z hz
def cH (c:oU):Cs:=⟨c,c.ao.toNat,c.cP.toNat,eM c,aae c.cP.toNat .no,aae (eM c).length ⟨[],0,0,0⟩,c.cP.toNat,λ_=>0⟩
def mS (c:oU):Int:=if rh c=true then if 62<(eM c).length then 2 else if c.cP<((eM c).length:Int)then 3 else 0 else 1
theorem pw_8{n:Nat}(h:n∈Qr):n % 8=0:=by
 simp only[Qr,aau,adS,or_false]at h
 omega
theorem RU (n k:Nat):(aae n k).sum=n*k:=by
 induction n with
 |zero=>simp
 |succ n ih=>rw[aer,List.sum_cons,ih,Nat.succ_mul];omega
theorem y4{c:oU}(h:mS c=0):Ok (cH c)∧(c.ao=(c.ao.toNat:Int))∧c.cP=(c.cP.toNat:Int)∧c.ao.toNat∈Qr:=by
 unfold mS at h
 split at h
 case isFalse=>cases h
 case isTrue hr=>
 split at h
 case isTrue=>cases h
 case isFalse h62=>
 split at h
 case isTrue=>cases h
 case isFalse iD=>
 obtain⟨h1,h2,h3,h4,h5,h6,h7,h8,h9,ZW,h11,B8⟩:=of_decide_eq_true hr
 obtain⟨ao,hp⟩:∃f:Nat,c.ao=f:=⟨c.ao.toNat,by omega⟩
 obtain⟨cP,hg⟩:∃f:Nat,c.cP=f:=⟨c.cP.toNat,by omega⟩
 have hpp:c.ao.toNat=ao:=by omega
 have hgg:c.cP.toNat=cP:=by omega
 rw[hp]at h3
 have hpw:=abZ (n:=ao) (by omega) (by omega) h3
 have p8:=pw_8 hpw
 have hl:=yQ c.gA.toNat (qd c) 62 c.dE.toNat
 have hla:qd c=(c.lim.toNat+7)/8*8:=rfl
 have nF:∀z∈eM c,64≤z∧z≤ao∧z % 8=0:=Lh (by omega) (by omega) (by omega) (by omega) 62 _ (by omega) (by omega) (by omega)
 have Z5:∀k,(cH c).rw k=⟨[],0,0,0⟩:=λk=>by
  unfold Cs.rw cH
  rw[aab,aaG]
  split<;>rfl
 have pgE:∀k,(cH c).pg k= .no:=λk=>by
  unfold Cs.pg cH
  rw[aab,aaG]
  split<;>rfl
 have Ru:∀f:Pg→Nat,(cH c).Cb f=cP*f .no:=λf=>by
  unfold Cs.Cb cH
  rw[adj,RU,hgg]
 have noAt:∀p,¬Cs.At (cH c) p:=λp a=>by
  have:=a.own
  rw[pgE]at this
  cases this
 refine⟨⟨⟨?_, ?_, ?_, ?_, ?_, ?_, ?_, ?_, ?_, ?_⟩, ?_, ?_, ?_, ?_, ?_, ?_, ?_, ?_⟩,by omega,by omega,by rw[hpp];exact hpw⟩
 ·show 4096≤c.ao.toNat;omega
 ·show c.ao.toNat≤1048576;omega
 ·show c.ao.toNat % 8=0;omega
 ·show 1≤c.cP.toNat;omega
 ·show c.cP.toNat≤1024;omega
 ·exact hl.1
 ·show(eM c).length≤62;omega
 ·intro z hz
  have:=nF z hz
  exact⟨this.1,by show z≤c.ao.toNat;omega,this.2.2⟩
 ·exact ado
 ·exact ado
 ·intro x hx
  obtain rfl:=adL hx
  exact⟨(λh=>by cases h),(λh=>by cases h),rfl,(λg hg=>by cases hg),(λg hg=>by cases hg),aec,rfl,λ_=>⟨rfl,rfl,rfl⟩⟩
 ·intro k p hp
  rw[Z5]at hp;cases hp
 ·intro k;rw[Z5];exact aec
 ·intro k p f;exact absurd f.toAt (noAt p)
 ·intro k _;rw[Z5,Ru];simp[wq,Pg.no]
 ·intro k _;rw[Z5,Ru];simp[x4,Pg.no]
 ·intro k _;rw[Z5,Ru];simp[zQ,Pg.no]
 rw[Ru]
 show c.cP.toNat=cP*wz .no
 rw[hgg];simp[wz,Pg.no]
theorem UG (n:Nat):fJ [.bool false, .bool false, .int .i64 0, .slice none 0 0, .slice none 0 0, .int .i64 0, .map none] (n*7)=(aae n (⟨.no,none,none,none⟩:te)).flatMap eA:=by
 rw[uT n (n*7) rfl,aeg,adj];rfl
theorem UF (n:Nat):fJ [.slice none 0 0, .int .i64 0, .int .i64 0, .int .i64 0] (n*4)=(aae n (⟨⟨[],0,0,0⟩,none,0⟩:Cz)).flatMap eo:=by
 rw[uT n (n*4) rfl,aeg,adj];rfl
theorem XH{a:Option Addr}{cap e sz:Nat}{xs:List Value}{k:Hp}(o:own a cap e sz xs k)(h:0<xs.length):∃b,a=some ⟨b,0,none⟩:=by
 obtain⟨h1,_,⟨_,rfl⟩|⟨b,_,rfl,_⟩⟩:=o
 ·rw[Nat.zero_mul]at h1;omega
 exact⟨b,rfl⟩
theorem rD{l:List aa}(hl:∀A∈l,∀h,A h):∀h,aI l h:=by
 induction l with
 |nil=>intro h;exact trivial
 |cons A l ih=>intro h;exact gK (hl A (List.mem_cons_self ..)) (ih (λB hB=>hl B (List.mem_cons_of_mem _ hB)) h)
theorem Zk{c:oU}{p g b ar ab sa pb rb cc:Nat}{S:List Nat}{H:List aa}{h:Hp}(c1:c.ao=p)(c2:c.cP=g)(hS:eM c=S)
  (s:ai (ag b 136 [.int .i64 p, .int .i64 g, .int .i64 c.gA, .int .i64 c.dE, .int .i64 c.lim, .int .i64 c.hot, .int .i64 c.warm, .pointer (some ⟨ar,0,none⟩), .slice (some ⟨sa,0,none⟩) S.length cc, .slice (some ⟨pb,0,none⟩) g g, .slice (some ⟨rb,0,none⟩) S.length S.length, .int .i64 g]::
   own (some ⟨sa,0,none⟩) cc 3 1 (ba S)::ag pb 224 ((aae g (⟨.no,none,none,none⟩:te)).flatMap eA)::ag rb 253 ((aae S.length (⟨⟨[],0,0,0⟩,none,0⟩:Cz)).flatMap eo)::ag ar 192 (gG ab p (p*g))::ag ab 5 (di (λ_=>0) (p*g))::H) h):ai (Cl b (cH c)::H) h:=by
 have q1:c.ao.toNat=p:=by omega
 have q2:c.cP.toNat=g:=by omega
 have e:cH c=⟨c,p,g,S,aae g .no,aae S.length ⟨[],0,0,0⟩,g,λ_=>0⟩:=by unfold cH;rw[q1,q2,hS]
 rw[e]
 refine vG (y:=⟨ar,ab,sa,pb,rb,cc,aae g ⟨.no,none,none,none⟩,aae S.length ⟨⟨[],0,0,0⟩,none,0⟩⟩) ⟨by simp,by simp, ?_,c1,c2⟩ ?_
 ·intro x hx
  obtain rfl:=adL hx
  exact⟨rfl,rfl,λ_=>rfl⟩
 unfold oR dz nZ
 dsimp only
 rw[adq g p]
 refine aH (λ_ s=>aH (λ_ s=>aH (λ_ s=>gK ?_ (aH (λ_ s=>gK ?_ s) s)) s) s) s
 ·refine rD λA hA=> ?_
  rw[adj]at hA
  obtain rfl:=adL hA
  refine rD λB hB=> ?_
  simp only[aau,adS,or_false]at hB
  rcases hB with rfl|rfl|rfl<;>exact λ_=>trivial
 refine rD λA hA=> ?_
 rw[adj]at hA
 obtain rfl:=adL hA
 exact λh=>yY _ _ h
theorem Uc (c:oU):aF aaa 28 [.agg (j9 c).toArray] (λ_=>True) []
  (λv H=>(mS c≠0∧v= .tuple #[.pointer none, .int .i64 (mS c)]∧H= [])∨(mS c=0∧∃b,v= .tuple #[.pointer (some ⟨b,0,none⟩), .int .i64 0]∧H= [Cl b (cH c)])):=by
 refine af func28 rfl ntmps28 rfl ?_
 intro F _
 refine aA ?_
 refine Lp (oB λb1=> ?_)
 refine bD ?_
 refine zl T.acG (NW c) .nil (λ_ _ _=>trivial) ?_
 refine bf ?_
 by_cases hr:rh c=true
 ·refine dm ?_ (e:=by exact congrArg (!·) hr)
  refine aW ?_
  refine Lp (oC T.acF rfl rfl (NK c hr) .nil (λ_ _ _=>trivial) ?_)
  rintro v H' ⟨a,cc,rfl,rfl⟩
  refine bd ?_
  refine dh ?_
  by_cases h62:62<(eM c).length
  ·refine fB ?_
   refine bD ?_
   refine iV [] results28 ?_
   refine .inl ⟨?_, ?_,rfl⟩<;>(unfold mS;rw[if_pos hr,if_pos h62])
   decide
  refine dm ?_
  refine bA ?_
  by_cases iD:c.cP<((eM c).length:Int)
  ·refine fB ?_ (e:=by exact decide_eq_true iD)
   refine bD ?_
   refine iV [] results28 ?_
   refine .inl ⟨?_, ?_,rfl⟩<;>(unfold mS;rw[if_pos hr,if_neg h62,if_pos iD])
   decide
  refine dm ?_ (e:=by exact decide_eq_false iD)
  have h0:mS c=0:=by unfold mS;rw[if_pos hr,if_neg h62,if_neg iD]
  obtain⟨K,e1,e2,e3⟩:=y4 h0
  have hpg1:c.cP.toNat≤1024:=K.n1
  have hl:0<(eM c).length:=(yQ _ _ _ _).1
  refine kK (iN .here (λ_ o=>XH o (by unfold ba;rw[List.length_map];exact hl))) λ⟨sa,hsa⟩=> ?_
  subst hsa
  obtain⟨ao,cP,gA,dE,lim,hot,warm⟩:=c
  obtain⟨p,rfl⟩:∃p:Nat,ao=p:=⟨_,e1⟩
  obtain⟨g,rfl⟩:∃g:Nat,cP=g:=⟨_,e2⟩
  change p∈Qr at e3
  have hg0:1≤g:=K.n0
  have hg1:g≤1024:=K.n1
  generalize hc:(⟨p,g,gA,dE,lim,hot,warm⟩:oU)=c at*
  unfold j9
  have c1:c.ao=p:=by rw[←hc]
  have c2:c.cP=g:=by rw[←hc]
  rw[c1,c2]
  refine bL ?_
  refine Lp (oC T.acE rfl rfl (Uk p g e3 hg0 hg1) .nil (λ_ _ _=>trivial) ?_)
  rintro v H' ⟨ar,ab,rfl,rfl⟩
  refine bd ?_
  refine fK ?_
  refine aw ?_
  generalize hS:eM c=S at*
  refine dJ (ι:=Nat×Nat×Nat) [31,32,33,34,35,36,37,38,39,40,41,42,43,2,3] (λ(b,pb,rb)=>True) (λ(b,pb,rb)=> [(2, .pointer (some ⟨b,0,none⟩)),(3, .int .i64 0)]) (λ(b,pb,rb)=> [ag b1 23 [.int .i64 p, .int .i64 g, .int .i64 c.gA, .int .i64 c.dE, .int .i64 c.lim, .int .i64 c.hot, .int .i64 c.warm],ag b 136 [.int .i64 p, .int .i64 g, .int .i64 c.gA, .int .i64 c.dE, .int .i64 c.lim, .int .i64 c.hot, .int .i64 c.warm, .pointer (some ⟨ar,0,none⟩), .slice (some ⟨sa,0,none⟩) S.length cc, .slice (some ⟨pb,0,none⟩) g g, .slice (some ⟨rb,0,none⟩) S.length S.length, .int .i64 g],ag pb 224 ((aae g (⟨.no,none,none,none⟩:te)).flatMap eA),ag rb 253 ((aae S.length (⟨⟨[],0,0,0⟩,none,0⟩:Cz)).flatMap eo),ag ar 192 (gG ab p (p*g)),ag ab 5 (di (λ_=>0) (p*g)),own (some ⟨sa,0,none⟩) cc 3 1 (ba S)]) ?_ ?_
  ·refine Aj T.mix (.cons (.there (.there (.there .here))) .nil) λF1 je bR aM=> ?_
   obtain⟨hs,_⟩:=bR
   refine Dt 0 rfl (LfN T.Aq) ?_
   refine Dt 1 rfl Mv ?_
   refine Dt 2 rfl Mv ?_
   refine Dt 3 rfl (Fa T.vB) ?_
   refine Dt 4 rfl (Lf T.dD) ?_
   refine Dt 6 rfl Mv ?_
   refine Dt 7 rfl (Ln T.se) ?_
   refine Dt 9 rfl (Fa T.vB) ?_
   refine Dt 10 rfl (Lf T.dD) ?_
   refine D2 5 8 ?_ ?_
   ·refine Do rfl (oM (g) (g) T.MW λb2=> ?_)
    refine aA ?_
    refine Dn 8 ?_
    refine Do rfl (oM (S.length) (S.length) T.MV λb3=> ?_)
    refine aA ?_
    refine Dt 11 rfl (Bd T.La T.Lm) ?_
    refine Dn 12 ?_
    refine Do rfl (oB λb4=> ?_)
    refine aA ?_
    refine Dt 13 rfl As ?_
    refine Dt 14 rfl As ?_
    refine bw (by kernel_rfl) aM ?_
    rw[UG,UF]
    refine Me ((b4,b2,b3)) (trivial)
   refine Do rfl (oM (S.length) (S.length) T.MV λb5=> ?_)
   refine aA ?_
   refine Dn 5 ?_
   refine Do rfl (oM (g) (g) T.MW λb6=> ?_)
   refine aA ?_
   refine Dt 11 rfl (Bd T.La T.Lm) ?_
   refine Dn 12 ?_
   refine Do rfl (oB λb7=> ?_)
   refine aA ?_
   refine Dt 13 rfl As ?_
   refine Dt 14 rfl As ?_
   refine bw (by kernel_rfl) aM ?_
   rw[UG,UF]
   refine Me ((b7,b6,b5)) (trivial)
  rintro⟨b,pb,rb⟩ hI
  try dsimp only at hI⊢
  refine aA ?_
  refine Hh (H':= [ag b 136 [.int .i64 p, .int .i64 g, .int .i64 c.gA, .int .i64 c.dE, .int .i64 c.lim, .int .i64 c.hot, .int .i64 c.warm, .pointer (some ⟨ar,0,none⟩), .slice (some ⟨sa,0,none⟩) S.length cc, .slice (some ⟨pb,0,none⟩) g g, .slice (some ⟨rb,0,none⟩) S.length S.length, .int .i64 g],own (some ⟨sa,0,none⟩) cc 3 1 (ba S),ag pb 224 ((aae g (⟨.no,none,none,none⟩:te)).flatMap eA),ag rb 253 ((aae S.length (⟨⟨[],0,0,0⟩,none,0⟩:Cz)).flatMap eo),ag ar 192 (gG ab p (p*g)),ag ab 5 (di (λ_=>0) (p*g)),ag b1 23 [.int .i64 p, .int .i64 g, .int .i64 c.gA, .int .i64 c.dE, .int .i64 c.lim, .int .i64 c.hot, .int .i64 c.warm]]) ?_
  refine az (λ_ s=>Zk c1 c2 hS s) ?_
  refine iV [Cl b (cH c)] results28 ?_
  exact .inr ⟨h0,b,rfl,rfl⟩
 refine fB ?_ (e:=by exact congrArg (!·) (by simpa using hr))
 refine bD ?_
 refine iV [] results28 ?_
 refine .inl ⟨?_, ?_,rfl⟩<;>(unfold mS;rw[if_neg hr])
 decide
theorem abn (C:Cs)(n:Nat):fJ [.int .u64 0, .int .u64 0, .int .i64 0, .int .u64 0, .int .u64 0, .int .i64 0, .int .u64 0, .int .u64 0, .int .i64 0] (n*9)=(aae (n*3) []).flatMap (dR C):=by
 rw[uT n (n*9) rfl,aeg,adj]
 induction n with
 |zero=>rfl
 |succ n ih=>
  rw[aer,aeT,ih,show(n+1)*3=n*3+1+1+1 by omega]
  simp only[aer,aeT]
  rfl
theorem Sg (b:Nat)(C:Cs)(K:Ok C):aF aaa 29 [.pointer (some ⟨b,0,none⟩)] (In (Cl b C)) []
  (λv H=>∃q qb,v= .tuple #[.pointer (some ⟨q,0,none⟩), .int .i64 0]∧H= [ag q 139 (fj b qb C.ae.length),ag qb 327 ((aae (C.ae.length*3) []).flatMap (dR C))]):=by
 have hl:=K.l1
 unfold fj
 refine af func29 rfl ntmps29 rfl ?_
 intro F hc
 refine oc ?_
 refine zl T.EZ (mj b C) .nil (λ_ le _=>hc.mono le) ?_
 refine Lp (oM (C.ae.length) (C.ae.length) T.ZB λb1=> ?_)
 rw[abn C]
 refine aA ?_
 refine Lp (oB λb2=> ?_)
 refine aW ?_
 refine iV [ag b2 139 [.pointer (some ⟨b,0,none⟩), .slice (some ⟨b1,0,none⟩) C.ae.length C.ae.length],ag b1 327 ((aae (C.ae.length*3) []).flatMap (dR C))] results29 ?_
 exact⟨_,_,rfl,rfl⟩
def grow (lim:Nat):Nat→Nat→Nat
 |0,n=>n
 |k+1,n=>if 2*n≤lim then grow lim k (2*n)else n
def la (C:Cs):Nat:=grow (min (4*(C.n*(C.ao/C.sz 0))) 1048576) 16 16
theorem F7 (lim:Nat)(h:lim≤1048576):∀k n,(∃m,m+k=20∧n=2^m)→16≤n→∃m,m≤20∧grow lim k n=2^m∧16≤grow lim k n
 |0,n,⟨m,h1,h2⟩,h3=>⟨m,by omega,h2,h3⟩
 |k+1,n,⟨m,h1,h2⟩,h3=>by
  unfold grow
  split
  ·exact F7 lim h k (2*n) ⟨m+1,by omega,by rw[h2,adI];omega⟩ (by omega)
  exact⟨m,by omega,h2,h3⟩
def lQ (m:Nat):Tb:=⟨m,0,16,aae 16 [],[],0,0⟩
theorem SS{C:Cs}{m:Nat}(h:∃j,j≤20∧m=2^j)(V4:16≤m):cD C (lQ m):=by
 have ch:∀x,(lQ m).ch x= []:=λx=>by
  obtain⟨f,i⟩:=x
  unfold Tb.ch lQ
  rcases f with _|_
  ·simp only[Bool.false_eq_true,if_false,aab,aaG]
   split<;>rfl
  simp[aab]
 have al:(lQ m).all= []:=by unfold lQ Tb.all;simp
 refine⟨⟨4,by decide,by simp[lQ]⟩, .inl rfl, .inl ⟨rfl,rfl⟩,h,by simp[lQ],aan _,V4,aay _, ?_, ?_, ?_, ?_, ?_, ?_, ?_⟩
 ·rw[al];rfl
 ·rw[al];exact aec
 ·intro x;rw[ch];trivial
 ·intro p hp;rw[al]at hp;cases hp
 ·intro p hp;rw[al]at hp;cases hp
 ·intro x p hp;rw[ch]at hp;cases hp
 intro p hp;rw[al]at hp;cases hp
theorem RR (b:Nat)(C:Cs)(K:Ok C):aF aaa 31 [.pointer (some ⟨b,0,none⟩)] (In (Cl b C)) []
  (λv H=>∃t nk,v= .tuple #[.pointer (some ⟨t,0,none⟩), .int .i64 0]∧H= [ag t 145 (eT b (lQ (la C)) ⟨nk,none⟩),ag nk 163 (aC (au (lQ (la C)).nb))]):=by
 have hl:=K.l0
 obtain⟨z1,z2,z3⟩:=K.toFix.sz (c:=0) (by omega)
 have n0:=K.n0
 have n1:=K.n1
 have p0:=K.p0
 have p1:=K.p1
 have hq:C.ao/C.sz 0≤16384:=Nat.div_le_of_le_mul (by omega)
 have hm:C.n*(C.ao/C.sz 0)≤1024*16384:=adE n1 hq
 obtain⟨ft,VZ⟩:∃ft,ft=C.n*(C.ao/C.sz 0):=⟨_,rfl⟩
 unfold eT la
 rw[←VZ]at hm⊢
 refine af func31 rfl ntmps31 rfl ?_
 intro F hc
 obtain⟨y,hy,_⟩:=VC hc
 have QG:=JC b C
 have hcE:j9 C.cfg= [.int .i64 (C.ao:Int), .int .i64 (C.n:Int), .int .i64 C.cfg.gA, .int .i64 C.cfg.dE, .int .i64 C.cfg.lim, .int .i64 C.cfg.hot, .int .i64 C.cfg.warm]:=by
  unfold j9;rw[hy.ao,hy.cP]
 rw[hcE]at QG
 have hch:ofM C 0 (λi=>C.sz i)=C.sz 0:=by unfold ofM;rw[if_pos ⟨by omega,by omega⟩];rfl
 have aa8:=rU b C K 0
 rw[hch]at aa8
 refine fK ?_
 refine zl T.acD (QG) .nil (λ_ le _=>hc.mono le) ?_
 refine Lp (oA T.Kv λb1=> ?_)
 refine bD ?_
 refine aw ?_
 refine ay (t:=5) (v':=(.int .i64 ((16:Nat):Int))) rfl (by rfl) ?_
 refine ik 8 T.mix (.cons .here .nil) λF1 je bR aM=> ?_
 obtain⟨q1,_⟩:=bR
 refine br ?_
 refine Tp (oC T.KR rfl rfl (aa8) .nil (λ_ le _=>(hc.mono je).mono le) ?_)
 rintro v H' ⟨rfl,rfl⟩
 refine bd ?_
 refine Ti (Qu) ?_
 refine Ti (MuN) ?_
 refine gO aM ?_
 refine ay (t:=18) (v':=(.int .i64 (ft:Int))) rfl (by exact congrArg (Value.int .i64) (by rw[VZ])) ?_
 refine bq ?_
 refine Lo (ι:=Nat×Nat) [19,20,21,22,23,24,25,26,5] (λs=>(∃m,m+s.1=20∧s.2=2^m)∧16≤s.2∧s.2≤1048576∧grow (min (4*ft) 1048576) 16 16=grow (min (4*ft) 1048576) s.1 s.2) (λs=> [(5, .int .i64 (s.2:Int))]) (λs=> [ag b1 23 [.int .i64 (C.ao:Int), .int .i64 (C.n:Int), .int .i64 C.cfg.gA, .int .i64 C.cfg.dE, .int .i64 C.cfg.lim, .int .i64 C.cfg.hot, .int .i64 C.cfg.warm]]) (λs=>s.1) ((16,16)) ⟨⟨4,rfl,rfl⟩,aan _,(by decide),rfl⟩ ?_
 rintro⟨k,n⟩ ⟨⟨m,i1,i2⟩,i3,i4,i5⟩
 dsimp only at i1 i2 i3 i4 i5⊢
 refine bD ?_
 refine Li Mi ?_
 refine ay (t:=23) (v':=(.int .i64 ((min (4*ft) 1048576:Nat):Int))) rfl (by exact congrArg (Value.int .i64) (by omega)) ?_
 generalize hlm:min (4*ft) 1048576=lm at*
 have aa6:lm≤1048576:=by omega
 refine bf ?_
 refine ax rfl ?_ ?_
 ·intro hle
  replace hle:=aL hle
  obtain⟨k,rfl⟩:∃j,k=j+1:=by
   refine⟨k-1, ?_⟩
   rcases k with _|k
   ·rw[show m=20 by omega]at i2
    exfalso;omega
   omega
  have e:grow lm (k+1) n=grow lm k (2*n):=by
   conv=>lhs;unfold grow
   rw[if_pos (by omega)]
  refine dg ?_
  refine ay (t:=5) (v':=(.int .i64 ((2*n:Nat):Int))) rfl (by exact congrArg (Value.int .i64) (by omega)) ?_
  refine Ro ((k,2*n)) (⟨⟨m+1,by omega,by rw[i2,adI];omega⟩,by omega,by omega,i5.trans e⟩) ((by dsimp only;omega))
 intro hle
 replace hle:=aL hle
 have e:grow lm k n=n:=by
  rcases k with _|k
  ·rfl
  unfold grow
  rw[if_neg (by omega)]
 rw[i5,e]
 refine dh ?_
 refine Lp (oM (16) (16) T.yO λb2=> ?_)
 rw[xy]
 refine aA ?_
 refine Lp (oB λb3=> ?_)
 refine aW ?_
 refine iV [ag b3 145 (eT b (lQ n) ⟨b2,none⟩),ag b2 163 (aC (au (lQ n).nb))] results31 ?_
 exact⟨_,_,rfl,rfl⟩
theorem Yd:(aaa.underlying 154).map (λd=>match d with| .func .. =>true|_=>false)=some true:=by kernel_rfl
theorem Of (n:Nat):fJ [.int .i64 0] (n*1)=ba (aae n 0):=by
 rw[nj,Nat.mul_one]
 unfold ba
 rw[adj];rfl
def sS (n:Nat):kf:=⟨aae n 0,0,0,0,0,false⟩
theorem S4 (b:Nat)(C:Cs)(K:Ok C)(f g h:Fn)(fa ga ha:Array Value):
  aF aaa 67 [.pointer (some ⟨b,0,none⟩), .func f fa #[], .func g ga #[], .func h ha #[]] (In (Cl b C)) []
   (λv H=>∃a ub,v= .tuple #[.pointer (some ⟨a,0,none⟩), .int .i64 0]∧H= [mG a b ub (.func f fa #[]) (.func g ga #[]) (.func h ha #[]) (sS C.ae.length),mN ub (sS C.ae.length)]):=by
 have hl:=K.l1
 unfold mG moC mN
 refine af func67 rfl ntmps67 rfl ?_
 intro F hc
 refine dg ?_
 refine zf 12 ?_ (e:=by rfl)
 refine aA ?_
 refine Li (Fne LX) ?_
 refine bf ?_
 refine zf 16 ?_ (e:=by rfl)
 refine aA ?_
 refine Li (Fne Db) ?_
 refine bf ?_
 refine zf 20 ?_ (e:=by rfl)
 refine aA ?_
 refine Li (Fne Yd) ?_
 refine bI ?_
 refine zl T.EZ (mj b C) .nil (λ_ le _=>hc.mono le) ?_
 refine Lp (oM (C.ae.length) (C.ae.length) T.jg λb1=> ?_)
 rw[Of]
 refine aA ?_
 refine Lp (oB λb2=> ?_)
 refine aW ?_
 refine iV [ag b2 201 [.pointer (some ⟨b,0,none⟩), .func f fa #[], .func g ga #[], .func h ha #[], .slice (some ⟨b1,0,none⟩) C.ae.length C.ae.length, .int .i64 0, .int .i64 0, .int .i64 0, .int .i64 0, .bool false],ag b1 3 (ba (aae C.ae.length 0))] results67 ?_
 refine⟨b2,b1,rfl, ?_⟩
 unfold sS
 dsimp only
 rw[ado]
 rfl
theorem OG (b q:Nat)(hot warm:Int)(h:¬(1≤hot∧1≤warm∧hot+warm≤90)):
  aF aaa 30 [.pointer (some ⟨b,0,none⟩), .pointer (some ⟨q,0,none⟩), .int .i64 hot, .int .i64 warm] (λ_=>True) []
   (λv H=>v= .tuple #[.pointer none, .int .i64 1]∧H= []):=by
 refine af func30 rfl ntmps30 rfl ?_
 intro F _
 refine dg ?_
 refine zf 12 ?_ (e:=by rfl)
 refine aW ?_
 refine zf 16 ?_ (e:=by rfl)
 refine aW ?_
 by_cases h1:hot<1
 ·refine zt 20 ?_ (e:=by exact decide_eq_true h1)
  refine bW ?_
  refine aA ?_
  refine iV [] results30 ?_
  exact⟨rfl,rfl⟩
 refine zf 20 ?_ (e:=by exact decide_eq_false h1)
 refine aW ?_
 by_cases h2:warm<1
 ·refine zt 24 ?_ (e:=by exact decide_eq_true h2)
  refine mI ?_
  refine iV [] results30 ?_
  exact⟨rfl,rfl⟩
 refine zf 24 ?_ (e:=by exact decide_eq_false h2)
 refine aW ?_
 by_cases h3:90<hot
 ·refine zt 28 ?_ (e:=by exact decide_eq_true h3)
  refine gP ?_
  refine iV [] results30 ?_
  exact⟨rfl,rfl⟩
 refine zf 28 ?_ (e:=by exact decide_eq_false h3)
 refine bD ?_
 refine fB ?_
 refine bD ?_
 refine iV [] results30 ?_
 exact⟨rfl,rfl⟩
def uj (p:sQ):List Value:= [.int .i64 p.b, .int .i64 p.l, .int .i64 p.c, .int .i64 p.m]
theorem SZ (c:oU)(pc:sQ)(b q lu t:Nat)(C:Cs)(K:Ok C)(k:Ck)(hk:p9 k)(aO:Nat):
  aF aaa 32 [.agg (j9 c).toArray, .agg (uj pc).toArray, .pointer (some ⟨b,0,none⟩), .pointer (some ⟨q,0,none⟩), .pointer (some ⟨lu,0,none⟩), .pointer (some ⟨t,0,none⟩), .agg #[.int .i64 (k.now:Int), .int .u64 (aO:Int), .int .u64 (k.cut:Int), .int .i64 (k.iX:Int)]] (In (Cl b C)) []
   (λv H=>∃s ck wh cr mo ub,v= .tuple #[.pointer (some ⟨s,0,none⟩), .int .i64 0]∧H= [gr s ⟨b,ck,t,lu,wh,cr,mo,q⟩ (gd ⟨c,pc,0,0,⟨0,0,0,0,0,0,0⟩,none,0,0⟩),ki ck k,Wl wh [] 0,gu cr q wh C.ae.length (bo s) (bn s) C ⟨0,false,0,0,none,0⟩,mG mo b ub (bo s) (bn s) (bT s) (sS C.ae.length),mN ub (sS C.ae.length)]):=by
 have k1:=hk.n1
 have k2:=hk.n2
 have k3:=hk.p
 have k4:=hk.pn
 have l0:=K.l0
 have l1:=K.l1
 unfold j9 uj gr
 refine af func32 rfl ntmps32 rfl ?_
 intro F hc
 refine aA ?_
 refine Lp (oB λb1=> ?_)
 refine Lp (oB λb2=> ?_)
 refine Lp (oB λb3=> ?_)
 refine bA ?_
 refine Lp (oC T.acC rfl rfl (PY k k1 k2 (by omega) (by omega)) .nil (λ_ _ _=>trivial) ?_)
 rintro v H' ⟨ck,rfl,rfl⟩
 refine bd ?_
 refine fK ?_
 refine aw ?_
 refine ik 11 T.mix (.cons (.there (.there .here)) (.cons (.there (.there .here)) .nil)) λF1 je bR aM=> ?_
 obtain⟨q1,q2,_⟩:=bR
 refine aW ?_
 refine Tp (oC T.acB rfl rfl (Um) .nil (λ_ _ _=>trivial) ?_)
 rintro v H' ⟨wh,rfl,rfl⟩
 refine bd ?_
 refine aW ?_
 refine ay (t:=38) (v':=(.agg #[.pointer (some ⟨b,0,none⟩), .pointer (some ⟨ck,0,none⟩), .pointer (some ⟨t,0,none⟩), .pointer (some ⟨lu,0,none⟩), .pointer (some ⟨wh,0,none⟩), .pointer none, .pointer none, .pointer (some ⟨q,0,none⟩)])) rfl (by rfl) ?_
 refine ay (t:=39) (v':=(.agg #[.int .i64 c.ao, .int .i64 c.cP, .int .i64 c.gA, .int .i64 c.dE, .int .i64 c.lim, .int .i64 c.hot, .int .i64 c.warm])) rfl (by rfl) ?_
 refine ay (t:=40) (v':=(.agg #[.int .i64 pc.b, .int .i64 pc.l, .int .i64 pc.c, .int .i64 pc.m])) rfl (by rfl) ?_
 refine aA ?_
 refine ay (t:=41) (v':=(.agg #[.pointer (some ⟨b,0,none⟩), .pointer (some ⟨ck,0,none⟩), .pointer (some ⟨t,0,none⟩), .pointer (some ⟨lu,0,none⟩), .pointer (some ⟨wh,0,none⟩), .pointer none, .pointer none, .pointer (some ⟨q,0,none⟩), .int .i64 c.ao, .int .i64 c.cP, .int .i64 c.gA, .int .i64 c.dE, .int .i64 c.lim, .int .i64 c.hot, .int .i64 c.warm, .int .i64 pc.b, .int .i64 pc.l, .int .i64 pc.c, .int .i64 pc.m, .int .u64 0, .int .i64 0, .int .i64 0, .int .i64 0, .int .i64 0, .int .i64 0, .int .i64 0, .int .i64 0, .int .i64 0, .slice none 0 0])) rfl (by(simp only[Value.cells,cR,List.set_cons_zero,List.set_cons_succ];first|rfl|done)) ?_
 refine Tp (oB λb4=> ?_)
 refine gO aM ?_
 refine bf ?_
 refine aw ?_
 refine dJ (ι:=Nat) [44,45,46,47,48,49,50,51,52,53,54,55,56,57,43,58,59,60,61,62,17] (λcr=>True) (λcr=> [(17, .int .i64 0),(18, .pointer (some ⟨b4,0,none⟩))]) (λcr=> [ag b4 111 [.pointer (some ⟨b,0,none⟩), .pointer (some ⟨ck,0,none⟩), .pointer (some ⟨t,0,none⟩), .pointer (some ⟨lu,0,none⟩), .pointer (some ⟨wh,0,none⟩), .pointer (some ⟨cr,0,none⟩), .pointer none, .pointer (some ⟨q,0,none⟩), .int .i64 c.ao, .int .i64 c.cP, .int .i64 c.gA, .int .i64 c.dE, .int .i64 c.lim, .int .i64 c.hot, .int .i64 c.warm, .int .i64 pc.b, .int .i64 pc.l, .int .i64 pc.c, .int .i64 pc.m, .int .u64 0, .int .i64 0, .int .i64 0, .int .i64 0, .int .i64 0, .int .i64 0, .int .i64 0, .int .i64 0, .int .i64 0, .slice none 0 0],gu cr q wh C.ae.length (bo b4) (bn b4) C ⟨0,false,0,0,none,0⟩,Wl wh [] 0,ki ck k]) ?_ ?_
 ·refine Aj T.mix .nil λF2 zM eG ez=> ?_
  refine Dt 0 rfl Mv ?_
  refine Dt 1 rfl Mv ?_
  refine Dt 2 rfl Mv ?_
  refine Dt 3 rfl Nc ?_
  refine Dt 4 rfl (Fa T.jx) ?_
  refine Dt 5 rfl (Fa T.xQ) ?_
  refine Dt 7 rfl Mv ?_
  refine Dt 9 rfl Mv ?_
  refine Dt 10 rfl Mf ?_
  refine Dt 11 rfl Mv ?_
  refine Dt 12 rfl Mf ?_
  refine D2 6 8 ?_ ?_
  ·refine Do rfl (oL T.CX ?_)
   refine aA ?_
   refine Dn 8 ?_
   refine Do rfl (oC T.EZ rfl rfl (mj b C) .nil (λ_ le _=>(hc.mono zM).mono le) ?_)
   rintro v H' ⟨rfl,rfl⟩
   refine bd ?_
   refine aA ?_
   refine Dn 13 ?_
   refine Do rfl (oC T.Vq rfl rfl (Gt q wh C.ae.length l0 l1 (.func 40) (.func 66) #[.pointer (some ⟨b4,0,none⟩)] #[] #[.pointer (some ⟨b4,0,none⟩)] #[] C) .nil (λ_ _ _=>trivial) ?_)
   rintro v H' ⟨cr,rfl,rfl⟩
   refine bd ?_
   refine aA ?_
   refine Dt 14 rfl Mv ?_
   refine Dt 15 rfl Ex ?_
   refine Dt 16 rfl Ex ?_
   refine Dt 17 rfl Nc ?_
   refine Dt 18 rfl (Fa T.jx) ?_
   refine Dt 19 rfl (Fa T.rS) ?_
   refine Dn 20 ?_
   refine Do rfl (oS T.uK ?_)
   refine aA ?_
   refine Dt 21 rfl As ?_
   refine bw (by kernel_rfl) ez ?_
   refine Me (cr) (trivial)
  refine Do rfl (oC T.EZ rfl rfl (mj b C) .nil (λ_ le _=>(hc.mono zM).mono le) ?_)
  rintro v H' ⟨rfl,rfl⟩
  refine bd ?_
  refine aA ?_
  refine Dn 6 ?_
  refine Do rfl (oL T.CX ?_)
  refine aA ?_
  refine Dn 13 ?_
  refine Do rfl (oC T.Vq rfl rfl (Gt q wh C.ae.length l0 l1 (.func 40) (.func 66) #[.pointer (some ⟨b4,0,none⟩)] #[] #[.pointer (some ⟨b4,0,none⟩)] #[] C) .nil (λ_ _ _=>trivial) ?_)
  rintro v H' ⟨cr,rfl,rfl⟩
  refine bd ?_
  refine aA ?_
  refine Dt 14 rfl Mv ?_
  refine Dt 15 rfl Ex ?_
  refine Dt 16 rfl Ex ?_
  refine Dt 17 rfl Nc ?_
  refine Dt 18 rfl (Fa T.jx) ?_
  refine Dt 19 rfl (Fa T.rS) ?_
  refine Dn 20 ?_
  refine Do rfl (oS T.uK ?_)
  refine aA ?_
  refine Dt 21 rfl As ?_
  refine bw (by kernel_rfl) ez ?_
  refine Me (cr) (trivial)
 rintro cr hI
 refine eC ?_
 refine Li Mf ?_
 refine aA ?_
 refine Li Mf ?_
 refine aA ?_
 refine Li Mf ?_
 refine Lp (oC T.acz rfl rfl (S4 b C K (.func 40) (.func 66) (.func 68) #[.pointer (some ⟨b4,0,none⟩)] #[.pointer (some ⟨b4,0,none⟩)] #[.pointer (some ⟨b4,0,none⟩)]) .nil (λ_ le _=>hc.mono le) ?_)
 rintro v H' ⟨mo,ub,rfl,rfl⟩
 refine bd ?_
 refine bW ?_
 refine bq ?_
 refine iV [ag b4 111 [.pointer (some ⟨b,0,none⟩), .pointer (some ⟨ck,0,none⟩), .pointer (some ⟨t,0,none⟩), .pointer (some ⟨lu,0,none⟩), .pointer (some ⟨wh,0,none⟩), .pointer (some ⟨cr,0,none⟩), .pointer (some ⟨mo,0,none⟩), .pointer (some ⟨q,0,none⟩), .int .i64 c.ao, .int .i64 c.cP, .int .i64 c.gA, .int .i64 c.dE, .int .i64 c.lim, .int .i64 c.hot, .int .i64 c.warm, .int .i64 pc.b, .int .i64 pc.l, .int .i64 pc.c, .int .i64 pc.m, .int .u64 0, .int .i64 0, .int .i64 0, .int .i64 0, .int .i64 0, .int .i64 0, .int .i64 0, .int .i64 0, .int .i64 0, .slice none 0 0],ki ck k,Wl wh [] 0,gu cr q wh C.ae.length (bo b4) (bn b4) C ⟨0,false,0,0,none,0⟩,mG mo b ub (bo b4) (bn b4) (bT b4) (sS C.ae.length),mN ub (sS C.ae.length)] results32 ?_
 exact⟨b4,ck,wh,cr,mo,ub,rfl,rfl⟩
def eK (c:oU)(pc:sQ)(k:Ck):Mo:=
 ⟨cH c,none,aae ((cH c).ae.length*3) [],λ_=>⟨[],[],0,0,0,0,0⟩,λ_=>0,⟨0,false,0,0,none,0⟩,0,k,sS (cH c).ae.length,16,0,la (cH c),⟨c,pc,0,0,⟨0,0,0,0,0,0,0⟩,none,0,0⟩,[],0⟩
theorem Oe{c:oU}(p:Nat):¬Live (cH c) p:=λL=>by
 have:=L.own
 unfold Cs.pg cH at this
 rw[aab,aaG]at this
 split at this<;>cases this
theorem C0 (n i:Nat):ql (aae n []) i= []:=by
 unfold ql
 rw[aab,aaG]
 split<;>rfl
theorem FI{c:oU}(h:mS c=0)(pc:sQ)(k:Ck)(hk:p9 k)(nk:Nat):bF ⟨cH c,lQ (la (cH c)),⟨nk,none⟩,[]⟩ (eK c pc k):=by
 obtain⟨K,e1,e2,e3⟩:=y4 h
 have l1:=K.l1
 have al:(lQ (la (cH c))).all= []:=by unfold lQ Tb.all;simp
 have hm:∃m,m≤20∧la (cH c)=2^m∧16≤la (cH c):=F7 _ (by omega) 16 16 ⟨4,rfl,rfl⟩ (aan _)
 obtain⟨m,m1,m2,m3⟩:=hm
 have pgE:∀i,(cH c).pg i= .no:=λi=>by
  unfold Cs.pg cH
  rw[aab,aaG]
  split<;>rfl
 have qe:∀i p,p∈ql (eK c pc k).Q i→False:=λi p hp=>by
  rw[show(eK c pc k).Q=aae ((cH c).ae.length*3) []from rfl,C0]at hp
  cases hp
 refine⟨rfl,K,SS ⟨m,m1,m2⟩ m3,λ_=>rfl,⟨?_,λi p hp=>(qe i p hp).elim,λi p hp=>(qe i p hp).elim,λi p hp=>(qe i p hp).elim,λi=> ?_,λi k hk=> ?_,λi k hk=> ?_⟩,⟨?_, ?_, ?_, ?_⟩,λi p hp=>(qe i p hp).elim,hk,λp=> ?_,λp=> ?_, ?_, ?_, ?_,(λh=>by cases h),rfl,rfl,rfl, ?_, ?_, ?_,λi hi=> ?_,rfl,rfl,rfl,λp hp=> ?_⟩
 ·exact ado
 ·rw[show(eK c pc k).Q=aae ((cH c).ae.length*3) []from rfl,C0];exact aec
 ·exact(qe i _ (aam hk)).elim
 ·exact(qe i _ (aam hk)).elim
 ·intro h;cases h
 ·intro _;exact⟨rfl,rfl,rfl,rfl⟩
 ·intro p h;cases h
 ·exact aay _
 ·constructor
  ·intro h;dsimp only at h;rw[al]at h;cases h
  rintro⟨i,hi⟩;exact(qe i p hi).elim
 ·constructor
  ·intro h;exact(Oe p h).elim
  rintro(h|h)
  ·dsimp only at h;rw[al]at h;cases h
  cases h
 ·intro p h;cases h
 ·intro p hp;dsimp only at hp;rw[al]at hp;cases hp
 ·unfold hU;dsimp only;rw[al];exact List.Perm.refl _
 ·dsimp only;rw[al];rfl
 ·exact ado
 ·intro h;cases h
 ·dsimp only at hi;rw[pgE]at hi;cases hi
 dsimp only at hp;rw[al]at hp;cases hp
theorem WS{c:oU}{pc:sQ}{k:Ck}{s b ck t lu wh cr mo q qb ub nk:Nat}{hot warm:Nat}(h:mS c=0)(hk:p9 k){H:List aa}:∀h,ai ([Cl b (cH c),ag t 145 (eT b (lQ (la (cH c))) ⟨nk,none⟩),ag nk 163 (aC (au (lQ (la (cH c))).nb)),ag q 139 (fj b qb (cH c).ae.length),ag qb 327 ((aae ((cH c).ae.length*3) []).flatMap (dR (cH c))),gu cr q wh (cH c).ae.length (bo s) (bn s) (cH c) ⟨0,false,0,0,none,0⟩,Wl wh [] 0,gr s ⟨b,ck,t,lu,wh,cr,mo,q⟩ (gd ⟨c,pc,0,0,⟨0,0,0,0,0,0,0⟩,none,0,0⟩),ki ck k,iW lu b q hot warm,mG mo b ub (bo s) (bn s) (bT s) (sS (cH c).ae.length),mN ub (sS (cH c).ae.length)]++H) h→ai (SW ⟨s,⟨b,ck,t,lu,wh,cr,mo,q⟩,qb,ub,hot,warm⟩ (eK c pc k)::H) h:=λh0 s0=>
 fE none 0 h0 (aK (B:=⟨cH c,lQ (la (cH c)),⟨nk,none⟩,[]⟩) (FI h pc k hk nk) h0 (by
  unfold fk
  dsimp only[List.cons_append,List.nil_append]
  refine aH (λ_ s=>aH (λ_ s=>aH (λ_ s=>gK (λ_=>trivial) (aH (λ_ s=>aH (λ_ s=>aH (λ_ s=>aH (λ_ s=>aH (λ_ s=>aH (λ_ s=>aH (λ_ s=>aH (λ_ s=>aH (λ_ s=>gK (λk=>yY _ _ k) s) s) s) s) s) s) s) s) s) s)) s) s) s0))
def UQ (p:sQ):Bool:=decide ((0≤p.b∧p.b≤1048576)∧(0≤p.l∧p.l≤1048576)∧(0≤p.c∧p.c≤1048576)∧(0≤p.m∧p.m≤1048576))
def oV (c:oU)(p:sQ):Int:=if mS c=0 then if 1≤c.hot∧1≤c.warm∧c.hot+c.warm≤90 then if UQ p=true then 0 else 1 else 1 else mS c
theorem ac7:zS aaa 88=some (4,3,1):=by kernel_rfl
theorem vg (c:oU)(pc:sQ):aF aaa 8 [.agg (j9 c).toArray, .agg (uj pc).toArray] (λ_=>True) []
  (λv H=>(oV c pc≠0∧v= .tuple #[.pointer none, .int .i64 (oV c pc)]∧H= [])∨(oV c pc=0∧∃z:Ly,z.hot=c.hot.toNat∧z.warm=c.warm.toNat∧z.hot≤90∧z.warm≤90∧v= .tuple #[.pointer (some ⟨z.s,0,none⟩), .int .i64 0]∧H= [SW z (eK c pc ⟨1,0,0⟩)])):=by
 unfold uj
 refine af func8 rfl ntmps8 rfl ?_
 intro F _
 refine aA ?_
 refine Lp (oB λb1=> ?_)
 refine Lp (oB λb2=> ?_)
 refine br ?_
 refine Lp (oC T.acR rfl rfl (Uc c) .nil (λ_ _ _=>trivial) ?_)
 rintro v H' hr
 refine bd ?_
 rcases hr with⟨h1,rfl,rfl⟩|⟨h1,b,rfl,rfl⟩
 ·refine Li Mv ?_
  refine bA ?_
  refine fB ?_ (e:=by exact congrArg (!·) (decide_eq_false h1))
  refine bL ?_
  refine iV [] results8 ?_
  exact .inl (by unfold oV;rw[if_neg h1];exact⟨h1,rfl,rfl⟩)
 refine Li Mv ?_
 refine bI ?_
 obtain⟨K,e1,e2,e3⟩:=y4 h1
 refine aW ?_
 refine Lp (oC T.acQ rfl rfl (Sg b (cH c) K) .nil (λ_ le aq=>aq.1) ?_)
 rintro v H' ⟨q,qb,rfl,rfl⟩
 refine bd ?_
 refine bW ?_
 refine aA ?_
 by_cases h2:1≤c.hot∧1≤c.warm∧c.hot+c.warm≤90
 ·obtain⟨hot,hh⟩:∃n:Nat,c.hot=n:=⟨c.hot.toNat,by omega⟩
  obtain⟨warm,hw⟩:∃n:Nat,c.warm=n:=⟨c.warm.toNat,by omega⟩
  refine ay (t:=33) (v':=(.int .i64 (hot:Int))) rfl (by exact congrArg (Value.int .i64) hh) ?_
  refine ay (t:=35) (v':=(.int .i64 (warm:Int))) rfl (by exact congrArg (Value.int .i64) hw) ?_
  refine Lp (oC T.Vv rfl rfl (Tt b q hot warm (by omega) (by omega) (by omega)) .nil (λ_ _ _=>trivial) ?_)
  rintro v H' ⟨lu,rfl,rfl⟩
  refine bd ?_
  refine bW ?_
  refine aW ?_
  refine Li (Bda T.abp T.ac8) ?_
  refine bq ?_
  refine Lo (ι:=Nat) [52,53,11,54,55,56,57,58,59,4,5,60,51] (λi=>i≤4∧∀j,j<i→∃z:Int,[pc.b,pc.l,pc.c,pc.m][j]?=some z∧0≤z∧z≤1048576) (λi=> [(51, .int .i64 (i:Int))]) (λi=> [iW lu b q hot warm,ag q 139 (fj b qb (cH c).ae.length),ag qb 327 ((aae ((cH c).ae.length*3) []).flatMap (dR (cH c))),Cl b (cH c),ag b2 25 [.int .i64 pc.b, .int .i64 pc.l, .int .i64 pc.c, .int .i64 pc.m],ag b1 23 (j9 c)]) (λi=>4-i) (0) ⟨aay _,λj h=>absurd h (Nat.not_lt_zero j)⟩ ?_
  rintro i ⟨i1,i2⟩
  refine bq ?_
  refine aw ?_
  refine ax rfl ?_ ?_
  ·intro hi
   replace hi:=aL hi
   have hi4:i<4:=by omega
   obtain⟨z,hz⟩:∃z,[pc.b,pc.l,pc.c,pc.m][i]?=some z:=⟨_,aac (by simpa using hi4)⟩
   have JR:([.int .i64 pc.b, .int .i64 pc.l, .int .i64 pc.c, .int .i64 pc.m]:List Value)[i]?=some (.int .i64 z):=by
    have:([.int .i64 pc.b, .int .i64 pc.l, .int .i64 pc.c, .int .i64 pc.m]:List Value)= [pc.b,pc.l,pc.c,pc.m].map (Value.int .i64):=rfl
    rw[this,aap,hz];rfl
   refine br ?_
   refine Li (Ias ac7 T.dD (j:=i) (cs:= [.int .i64 pc.b, .int .i64 pc.l, .int .i64 pc.c, .int .i64 pc.m]) (v:= .int .i64 z)) ?_
   refine bD ?_
   have bad:¬(0≤z∧z≤1048576)→oV c pc=1:=λh=>by
    unfold oV
    rw[if_pos h1,if_pos h2,if_neg]
    intro e
    obtain⟨p1,p2,p3,p4⟩:=of_decide_eq_true e
    rcases i with _|_|_|_|i
    ·cases hz;exact h p1
    ·cases hz;exact h p2
    ·cases hz;exact h p3
    ·cases hz;exact h p4
    omega
   by_cases z0:z<0
   ·refine zt 56 ?_ (e:=by exact decide_eq_true z0)
    refine oc ?_
    refine iV [] results8 ?_
    exact .inl (by rw[bad (by omega)];exact⟨by decide,rfl,rfl⟩)
   refine zf 56 ?_ (e:=by exact decide_eq_false z0)
   refine aW ?_
   by_cases z1:1048576<z
   ·refine fB ?_ (e:=by exact decide_eq_true z1)
    refine bA ?_
    refine iV [] results8 ?_
    exact .inl (by rw[bad (by omega)];exact⟨by decide,rfl,rfl⟩)
   refine dm ?_ (e:=by exact decide_eq_false z1)
   refine bD ?_
   refine aG ?_
   refine Ro (i+1) (⟨by omega,λj hj=> ?_⟩) ((by omega))
   by_cases Ux:j=i
   ·subst Ux;exact⟨z,hz,by omega,by omega⟩
   exact i2 j (by omega)
  intro hi
  replace hi:=aL hi
  obtain rfl:i=4:=by omega
  have hp:UQ pc=true:=by
   obtain⟨z0,a0,b0⟩:=i2 0 (by decide)
   obtain⟨z1,a1,b1⟩:=i2 1 (by decide)
   obtain⟨z2,a2,b2⟩:=i2 2 (by decide)
   obtain⟨z3,a3,b3⟩:=i2 3 (by decide)
   cases a0;cases a1;cases a2;cases a3
   exact decide_eq_true ⟨b0,b1,b2,b3⟩
  have h0:oV c pc=0:=by unfold oV;rw[if_pos h1,if_pos h2,if_pos hp]
  refine bL ?_
  refine Lp (oC T.acP rfl rfl (RR b (cH c) K) .nil (λ_ le aq=>aq.2.2.2.1) ?_)
  rintro v H' ⟨t,nk,rfl,rfl⟩
  refine bd ?_
  refine bW ?_
  refine bf ?_
  refine Lp (oC T.acO rfl rfl (SZ c pc b q lu t (cH c) K ⟨1,0,0⟩ ⟨aan _,by decide,by decide,λh=>absurd rfl h,by decide⟩ 0) .nil (λ_ le aq=>aq.2.2.2.2.2.1) ?_)
  rintro v H' ⟨s,ck,wh,cr,mo,ub,rfl,rfl⟩
  refine bd ?_
  refine bD ?_
  refine Hh (H':= [Cl b (cH c),ag t 145 (eT b (lQ (la (cH c))) ⟨nk,none⟩),ag nk 163 (aC (au (lQ (la (cH c))).nb)),ag q 139 (fj b qb (cH c).ae.length),ag qb 327 ((aae ((cH c).ae.length*3) []).flatMap (dR (cH c))),gu cr q wh (cH c).ae.length (bo s) (bn s) (cH c) ⟨0,false,0,0,none,0⟩,Wl wh [] 0,gr s ⟨b,ck,t,lu,wh,cr,mo,q⟩ (gd ⟨c,pc,0,0,⟨0,0,0,0,0,0,0⟩,none,0,0⟩),ki ck ⟨1,0,0⟩,iW lu b q hot warm,mG mo b ub (bo s) (bn s) (bT s) (sS (cH c).ae.length),mN ub (sS (cH c).ae.length),ag b2 25 [.int .i64 pc.b, .int .i64 pc.l, .int .i64 pc.c, .int .i64 pc.m],ag b1 23 (j9 c)]) ?_
  refine az (WS (k:=⟨1,0,0⟩) (pc:=pc) h1 ⟨aan _,by decide,by decide,λh=>absurd rfl h,by decide⟩) ?_
  refine iV [SW ⟨s,⟨b,ck,t,lu,wh,cr,mo,q⟩,qb,ub,hot,warm⟩ (eK c pc ⟨1,0,0⟩)] results8 ?_
  exact .inr ⟨h0,⟨s,⟨b,ck,t,lu,wh,cr,mo,q⟩,qb,ub,hot,warm⟩,by dsimp only;omega,by dsimp only;omega,by dsimp only;omega,by dsimp only;omega,rfl,rfl⟩
 refine zl T.Vv (OG b q c.hot c.warm h2) .nil (λ_ _ _=>trivial) ?_
 refine CD ?_
 refine iV [] results8 ?_
 exact .inl (by unfold oV;rw[if_pos h1,if_neg h2];exact⟨by decide,rfl,rfl⟩)
def iJ:sQ:=⟨8,3,4,2⟩
theorem XN (c:oU):aF aaa 10 [.agg (j9 c).toArray] (λ_=>True) []
  (λv H=>(oV c iJ≠0∧v= .tuple #[.pointer none, .int .i64 (oV c iJ)]∧H= [])∨(oV c iJ=0∧∃z:Ly,z.hot=c.hot.toNat∧z.warm=c.warm.toNat∧z.hot≤90∧z.warm≤90∧v= .tuple #[.pointer (some ⟨z.s,0,none⟩), .int .i64 0]∧H= [SW z (eK c iJ ⟨1,0,0⟩)])):=by
 refine af func10 rfl ntmps10 rfl ?_
 intro F _
 refine aA ?_
 refine Lp (oB λb1=> ?_)
 refine bD ?_
 refine Lp (oC T.Wk rfl rfl (vg c iJ) .nil (λ_ _ _=>trivial) ?_)
 rintro v H' hr
 refine bd ?_
 rcases hr with⟨h1,rfl,rfl⟩|⟨h1,z,z1,z2,z3,z4,rfl,rfl⟩
 ·refine Li Ex ?_
  refine br ?_
  refine iV [] results10 ?_
  exact .inl ⟨h1,rfl,rfl⟩
 refine Li Ex ?_
 refine br ?_
 refine iV [SW z (eK c iJ ⟨1,0,0⟩)] results10 ?_
 exact .inr ⟨h1,z,z1,z2,z3,z4,rfl,rfl⟩
end Go.Proofs.YtdolmecackmjdaaGreatDoor
