/- Part Pl of the proof. -/
import Derived.Test.YtcbcjolpdljbiaaGreatPc1
import Derived.Test.YtcbcjolpdljbiaaGreatPd
import Derived.Test.YtcbcjolpdljbiaaGreatPf
import Derived.Test.YtcbcjolpdljbiaaGreatPk
set_option maxRecDepth 100000
open Go.Proofs.YtcbcjolpdljbiaaGreat.T
open Nat renaming zero_le -> afk, le_refl -> aa0, pow_succ -> af9, zero_add -> abd, succ_pos -> akC, lt_of_le_of_lt -> af6, le_add_right -> ajI
open List renaming drop_eq_getElem_cons -> aje, getD_eq_getElem?_getD -> aaP, getElem?_eq_getElem -> aaQ, length_singleton -> afV, length_append -> aaZ, length_cons -> afn, getElem_mem -> aa4, take_add_one -> agn, take_length -> ajE, append_nil -> afs, map_append -> afy, foldl_append -> akd, find?_eq_none -> agj, map_cons -> aaX, sum_cons -> aa8
open UInt8 renaming ofNat -> afw
open Bool renaming false_or -> akv, eq_iff_iff -> afx, not_eq_true' -> aa9, false_eq_true -> afo
open Decidable renaming byContradiction -> aa2
open Go.Proofs.Tryz renaming prog -> aaO
open Go.Proofs.Tryz
open Go.Value renaming int -> CO
open Go.IntKind renaming i64 -> CN, u64 -> CJ, u8 -> akN
namespace Go.Proofs.YtcbcjolpdljbiaaGreat
open Go Go.dG
def Dc:Nat->List UInt8->Option Nat
 |n,[]=>some n
 |n,b::r=>if b.toNat<48\/57<b.toNat\/(18446744073709551615-(b.toNat-48))/10<n then none else Dc (n*10+(b.toNat-48)) r
def uy (l:List UInt8):Option Nat:=if 0<l.length/\l.length<=20 then Dc 0 l else none
def uE:List UInt8:= [99,97,110,110,111,116,32,105,110,99,114,101,109,101,110,116,32,111,114,32,100,101,99,114,101,109,101,110,116,32,110,111,110,45,110,117,109,101,114,105,99,32,118,97,108,117,101]
def gM (kind:Nat)(ea:Value)(num:Nat)(wx:List UInt8):List Value:= [CO CN kind,ea,CO CJ num,bD wx, .slice none 0 0]
def zp (kind:Nat)(ea:Value)(num:Nat)(wx:List UInt8):Value:= .agg (gM kind ea num wx).toArray
def bF:Value:= .slice none 0 0
theorem ig (t:List UInt8):aO aaO 42 [bD t] (λ_=>True) [] (λv H=>v=zp 11 bF 0 t/\H= []):=by
 refine ag func42 rfl ntmps42 rfl ?_;intro F _;refine av ?_;refine Lp (oA Gl λb1=> ?_);refine dm ?_;refine FX [] Ho results42 ?_;exact⟨rfl,rfl⟩
theorem NP (a:Option Addr)(c m:Nat)(l:List UInt8)(hm:m=l.length)(hl:m<281474976710656):
  We aaO 123 [.slice a m c] (λh=>gg h a (ax l)) [] (λv H=>(∃n:Nat,uy l=some n/\n<18446744073709551616/\v=CO CJ n)/\H= []) (λv H=>uy l=none/\v= .iface 102 (zp 11 bF 0 uE)/\H= []):=by
 subst hm;refine ml func123 rfl ntmps123 rfl ?_;intro F hr;refine dm ?_;refine br (t:=11) rfl ?_ ?_
 ·intro h0
  replace h0:=aS h0;have h0':0<l.length:=by simpa using h0
  refine bm ?_;refine ay (t:=15) (v':=(.bool (decide (l.length<=20)))) rfl (by exact congrArg Value.bool (by rw[decide_eq_decide];omega)) ?_;have hnv:uy l=if l.length<=20 then Dc 0 l else none:=by unfold uy;by_cases h:l.length<=20<;>simp[h,h0']
  generalize nj:decide (l.length<=20)=ok at*;refine bz ?_;refine aw ?_;refine dt (ι:=Bool×Nat) [16,17,18,19,20,21,6,22,23,24,7,25,26,27,28,29,30,31,32,33,34,35,36,37,38,39,40,41,4,42,43,44,45,3,46] (λs=>(s.1=true->uy l=some s.2/\s.2<18446744073709551616)/\(s.1=false->uy l=none)) (λs=> [(3,CO CJ s.2),(4, .bool s.1)]) (λs=> []) ?_ ?_
  ·refine gK ?_
   refine bE ?_;refine Lo (ι:=Nat×Nat) [19,20,21,6,22,23,24,7,25,26,27,28,29,30,31,32,33,34,35,36,37,38,39,40,41,4,42,43,44,45,3,46,18] (λs=>s.1<=l.length/\s.2<18446744073709551616/\(ok=true->uy l=Dc s.2 (l.drop s.1))/\(ok=false->s.1=0)) (λs=> [(3,CO CJ s.2),(4, .bool ok),(18,CO CN s.1)]) (λs=> []) (λs=>l.length-s.1) ((0,0)) ⟨afk _,by decide,λh=>by rw[hnv,if_pos (by rw[h]at nj;simpa using nj)];rfl,λ_=>rfl⟩ ?_;rintro s hI;obtain⟨k,nn⟩:=s;dsimp only at hI⊢;obtain⟨hk,hb,Oc,yX⟩:=hI;by_cases cL:k<l.length
   ·have Zm:=aeW l k
    refine bz ?_;refine aw ?_;refine eU ?_;refine bE ?_;refine Li (Ix kk) ?_;refine fq ?_;rcases ok with _|_
    ·refine zt 27 ?_ (e:=by rfl)
     refine cC ?_;refine bE ?_;refine Me ((false,nn)) (⟨λh=>(by cases h),λ_=>(by rw[hnv];have:¬l.length<=20:=(by simpa using nj);rw[if_neg this])⟩)
    have hdr:l.drop k=l[k]::l.drop (k+1):=aje cL;have hi:=Oc rfl;have hbe:FG l k=l[k].toNat:=by unfold FG;rw[aaP,aaQ cL];rfl
    rw[hdr]at hi;refine zf 27 ?_ (e:=by rfl);refine bm ?_;by_cases h48:FG l k<48
    ·refine zt 31 ?_
     refine cC ?_;refine av ?_;refine Me ((false,nn)) (⟨λh=>(by cases h),λ_=>(by rw[hi];unfold Dc;rw[if_pos (.inl (by omega))])⟩)
    refine zf 31 ?_;refine ay (t:=7) (v':=(CO CJ (FG l k-48:Nat))) rfl (by exact congrArg (Value.int .u64) ((wrap_u64 (by omega)).trans (by omega))) ?_;refine bm ?_;by_cases h57:57<FG l k
    ·refine zt 35 ?_
     refine ri ?_;refine Me ((false,nn)) (⟨λh=>(by cases h),λ_=>(by rw[hi];unfold Dc;rw[if_pos (.inr (.inl (by omega)))])⟩)
    refine zf 35 ?_;refine bz ?_;refine ay (t:=38) (v':=(CO CJ (18446744073709551615-(FG l k-48):Nat))) rfl (by exact congrArg (Value.int .u64) (by omega)) ?_;refine Li (QuU (q:=10)) ?_;refine bz ?_;by_cases zh:(18446744073709551615-(FG l k-48))/10<nn
    ·refine eU ?_
     refine cA ?_;refine Me ((false,nn)) (⟨λh=>(by cases h),λ_=>(by rw[hi];unfold Dc;rw[if_pos (.inr (.inr (by rw[<-hbe];exact zh)))])⟩)
    refine cO ?_;refine fq ?_;refine aF ?_;refine Ro ((k+1,nn*10+(FG l k-48))) (⟨cL,(by dsimp only;omega),λ_=>(by rw[hi];rw[Dc,if_neg (by rw[<-hbe];omega),<-hbe]),λh=>(by cases h)⟩) ((by dsimp only;omega))
   refine gK ?_;refine bA ?_;refine aw ?_;refine cO ?_;refine bm ?_;have uj:k=l.length:=by omega
   have agR:ok=true:=by
    cases h:ok with
    |true=>rfl
    |false=>have:=yX h;omega
   have h1:=Oc agR;rw[uj,List.drop_length]at h1;refine Me ((ok,nn)) (⟨λ_=>⟨h1,hb⟩,λh=>(by rw[agR]at h;cases h)⟩)
  rintro s hI;obtain⟨b,nn⟩:=s;dsimp only at hI⊢;obtain⟨hj1,hj2⟩:=hI;rcases b with _|_
  ·refine aw ?_
   refine bE ?_;refine fi ?_;refine zl CF (ig uE) .nil CI ?_;refine Li (VR T.gW) ?_;refine Lp (VA ?_);refine pP [] ?_;exact⟨hj2 rfl,rfl,rfl⟩
  refine aw ?_;refine dB ?_;refine pR ?_;refine Rt [] results123 ?_;exact⟨⟨nn,(hj1 rfl).1,(hj1 rfl).2,rfl⟩,rfl⟩
 intro h0;replace h0:=aS h0;have hz:l.length=0:=by omega
 have hnv:uy l=none:=by unfold uy;rw[if_neg (by omega)]
 refine fq ?_;refine Lo (ι:=Unit) [19,20,21,6,22,23,24,7,25,26,27,28,29,30,31,32,33,34,35,36,37,38,39,40,41,4,42,43,44,45,3,46,18] (λu=>True) (λu=> [(3,CO CJ 0),(4, .bool false),(18,CO CN 0)]) (λu=> []) (λu=>0) (()) (by simp) ?_;rintro u hI;refine bz ?_;refine aw ?_;refine cO ?_;refine bW ?_;refine fi ?_;refine zl CF (ig uE) .nil CI ?_;refine Li (VR T.gW) ?_;refine Lp (VA ?_);refine pP [] ?_;exact⟨hnv,rfl,rfl⟩
def gQ (n:Nat):List UInt8:=if n<10 then [afw (48+n)]else gQ (n/10)++ [afw (48+n % 10)]
termination_by n
theorem CC{n:Nat}(h:n<10):gQ n= [afw (48+n)]:=by rw[gQ,if_pos h]
theorem J8{n:Nat}(h:¬n<10):gQ n=gQ (n/10)++ [afw (48+n % 10)]:=by rw[gQ,if_neg h]
theorem U9 (i:Nat):∀n,n<10^i->(gQ n).length<=max i 1:=by
 induction i with
 |zero=>intro n h;rw[CC (by simp at h;omega)];exact aa0 _
 |succ i ih=>
  intro n h;by_cases g:n<10
  ·rw[CC g];simp only[afV];omega
  rw[J8 g,aaZ,afV];have hi:i≠0:=λe=>by subst e;omega
  have:=ih (n/10) (by rw[af9]at h;omega);omega
theorem set_drop{l:List Value}{i:Nat}{v:Value}{r:List Value}(h:l.drop (i+1)=r)(hi:i<l.length):(l.set i v).drop i=v::r:=by
 rw[aje (by simpa using hi),List.getElem_set_self,List.drop_set_of_lt (by omega),h]
theorem SF (n0:Nat)(hn0:n0<18446744073709551616):aO aaO 124 [CO CJ n0] (λ_=>True) []
  (λv H=>∃a c,v= .slice a (gQ n0).length c/\H= [own a c 5 1 (ax (gQ n0))]):=by
 refine ag func124 rfl ntmps124 rfl ?_;intro F _;refine bm ?_;refine Lp (oA abK λb1=> ?_);refine bE ?_;refine Lo (ι:=Nat×Nat×List UInt8×List Value) [5,6,4,7,8,9,10,11,12,13,14,0,15,16,17,18,19,2] (λs=>(1<=s.1/\s.1<=20/\s.2.1<10^s.1/\s.2.1<18446744073709551616/\s.2.2.1.length=20-s.1)/\(gQ s.2.1++s.2.2.1=gQ n0)/\s.2.2.2.length=20/\s.2.2.2.drop s.1=ax s.2.2.1) (λs=> [(0,CO CJ s.2.1),(2, .slice none 0 0),(4,CO CN s.1)]) (λs=> [af b1 261 s.2.2.2]) (λs=>s.2.1+1) ((20,n0,[],[CO akN 0,CO akN 0,CO akN 0,CO akN 0,CO akN 0,CO akN 0,CO akN 0,CO akN 0,CO akN 0,CO akN 0,CO akN 0,CO akN 0,CO akN 0,CO akN 0,CO akN 0,CO akN 0,CO akN 0,CO akN 0,CO akN 0,CO akN 0])) ⟨⟨Nat.le_of_ble_eq_true rfl,aa0 _,by dsimp only;omega,hn0,rfl⟩,by simp,rfl,rfl⟩ ?_;rintro⟨i,n,ds,cs⟩ hI;dsimp only at hI⊢;obtain⟨⟨h0,h1,h2,h3,h4⟩,h5,h6,h7⟩:=hI;obtain⟨i,rfl⟩:∃j,i=j+1:=⟨i-1,by omega⟩;have hc:(afw (48+n % 10)).toNat=48+n % 10:=by rw[UInt8.toNat_ofNat'];omega
 have h8:=set_drop (v:=CO akN ((afw (48+n % 10)).toNat)) h7 (by omega);have h9:CO akN ((afw (48+n % 10)).toNat)::ax ds=ax (afw (48+n % 10)::ds):=rfl;rw[h9]at h8;rw[af9]at h2;refine bR ?_;refine ay (t:=4) (v':=(CO CN i)) rfl (by exact congrArg (Value.int .i64) (by omega)) ?_;refine bA ?_;refine Li (Rm (q:=10)) ?_;refine bA ?_;refine ay (t:=11) (v':=(CO akN ((afw (48+n % 10)).toNat))) rfl (by exact congrArg (Value.int .u8) (by rw[hc];first|exact(wrap_u8 (by omega)).trans (by omega)|omega)) ?_;refine Li (Ia RL) ?_;refine bm ?_;refine Li (QuU (q:=10)) ?_;refine bG ?_;simp only[abd];by_cases hz:n/10=0
 ·have hn:n<10:=by omega
  have V5:afw (48+n % 10)::ds=gQ n0:=by rw[<-h5,CC hn,Nat.mod_eq_of_lt hn];rfl
  refine eU ?_;refine bA ?_;refine Li (SlA i 20 20 RL) ?_;refine dw 5 1 ?_;have CS:(gQ n0).length=20-i:=by rw[<-V5,afn];omega
  refine Lp (fK kA s9 rfl rfl rfl rfl .here (rfl) (eH (news:=ax (gQ n0)) (m:=20-i) (by rw[rO,CS,Nat.mul_one]) λh le ao=>(by obtain⟨k,p,l⟩:=ao.nth 1 rfl;have q:=(qz (i:=i) p).mono l;rw[h8,V5]at q;rw[abd];exact q)) (by first|exact eO|(simp[Value.oneCell',bD])) (by first|omega|(simp;omega)) (by first|omega|(simp;omega)) rfl λa1 c1 AV=> ?_);refine bG ?_;rw[show 0+(20-i)=(gQ n0).length by omega];refine Rt [own a1 c1 5 1 (ax (gQ n0))] results124 ?_;exact⟨a1,c1,rfl,rfl⟩
 refine cO ?_;refine bA ?_;have Oc:1<=i:=by
  rcases i with _|i
  ·simp at h2;omega
  omega
 refine Ro ((i,n/10,afw (48+n % 10)::ds,cs.set i (CO akN ((afw (48+n % 10)).toNat)))) (⟨⟨Oc,(by dsimp only;omega),(by dsimp only;omega),(by dsimp only;omega),(by dsimp only[afn];omega)⟩,(by dsimp only;rw[<-h5,J8 (n:=n) (by omega),List.append_assoc];rfl),(by dsimp only;rw[List.length_set];exact h6),h8⟩) ((by dsimp only;omega))
structure fe where
 aH:Int
 keys:List (List UInt8)
 fl:Nat
 ex:Int
 tok:Nat
 dl:Nat
 data:List UInt8
 nor:Bool
 lg:Bool
 what:List UInt8
def iK (l:List (List UInt8)):List Value:=l.map bD
theorem BZ (l:List (List UInt8))(k:Nat)(h:k<l.length):(iK l)[k]?=some (bD l[k]):=by
 unfold iK;rw[List.getElem?_map,aaQ h];rfl
def fu (c:fe)(ka:Option Addr)(kc:Nat)(da:Option Addr)(dc:Nat)(mv:Value):List Value:=
 [CO CN c.aH, .slice ka c.keys.length kc,CO CJ c.fl,CO CN c.ex,CO CJ c.tok,CO CJ c.dl, .slice da c.data.length dc, .bool c.nor, .bool c.lg,mv,bD c.what]
def cB (v:Int):Int:=if 1<=v/\v<=4 then 2 else if 5<=v/\v<=14 then 1 else if 15<=v/\v<=18 then 0 else-1
def Bg (c:fe):Bool:=decide (cB c.aH<0\/0<cB c.aH/\c.keys.length=0\/cB c.aH=1/\1<c.keys.length) ||(decide (0<cB c.aH)&&c.keys.any λk=> !eF k) ||decide (5<=c.aH/\c.aH<=10/\4294967295<c.fl)
theorem DN (v:Int):aO aaO 44 [CO CN v] (λ_=>True) [] (λw H=>w=CO CN (cB v)/\H= []):=by
 refine ag func44 rfl ntmps44 rfl ?_;intro F _;refine cA ?_;refine br (t:=6) rfl ?_ ?_
 ·intro dQ
  replace dQ:=aS dQ;refine bE ?_;refine aE rfl ?_ ?_
  ·intro ee
   replace ee:=aS ee;refine bG ?_;refine Rt [] results44 ?_;refine⟨?_,rfl⟩;unfold cB
   repeat' split
   all_goals first|rfl|(exfalso;omega)
  intro ee;replace ee:=aS ee;refine bm ?_;refine br (t:=13) rfl ?_ ?_
  ·intro ed
   replace ed:=aS ed;refine bE ?_;refine aE rfl ?_ ?_
   ·intro cS
    replace cS:=aS cS;refine bG ?_;refine Rt [] results44 ?_;refine⟨?_,rfl⟩;unfold cB
    repeat' split
    all_goals first|rfl|(exfalso;omega)
   intro cS;replace cS:=aS cS;refine bm ?_;refine br (t:=20) rfl ?_ ?_
   ·intro dY
    replace dY:=aS dY;refine bE ?_;refine aE rfl ?_ ?_
    ·intro jI
     replace jI:=aS jI;refine bG ?_;refine Rt [] results44 ?_;refine⟨?_,rfl⟩;unfold cB
     repeat' split
     all_goals first|rfl|(exfalso;omega)
    intro jI;replace jI:=aS jI;refine bR ?_;refine Rt [] results44 ?_;refine⟨?_,rfl⟩;unfold cB
    repeat' split
    all_goals first|rfl|(exfalso;omega)
   intro dY;replace dY:=aS dY;refine gz ?_;refine Rt [] results44 ?_;refine⟨?_,rfl⟩;unfold cB
   repeat' split
   all_goals first|rfl|(exfalso;omega)
  intro ed;replace ed:=aS ed;refine bM ?_;refine br (t:=20) rfl ?_ ?_
  ·intro cS
   replace cS:=aS cS;refine bE ?_;refine aE rfl ?_ ?_
   ·intro dY
    replace dY:=aS dY;refine bG ?_;refine Rt [] results44 ?_;refine⟨?_,rfl⟩;unfold cB
    repeat' split
    all_goals first|rfl|(exfalso;omega)
   intro dY;replace dY:=aS dY;refine bR ?_;refine Rt [] results44 ?_;refine⟨?_,rfl⟩;unfold cB
   repeat' split
   all_goals first|rfl|(exfalso;omega)
  intro cS;replace cS:=aS cS;refine gz ?_;refine Rt [] results44 ?_;refine⟨?_,rfl⟩;unfold cB
  repeat' split
  all_goals first|rfl|(exfalso;omega)
 intro dQ;replace dQ:=aS dQ;refine bM ?_;refine br (t:=13) rfl ?_ ?_
 ·intro ee
  replace ee:=aS ee;refine bE ?_;refine aE rfl ?_ ?_
  ·intro ed
   replace ed:=aS ed;refine bG ?_;refine Rt [] results44 ?_;refine⟨?_,rfl⟩;unfold cB
   repeat' split
   all_goals first|rfl|(exfalso;omega)
  intro ed;replace ed:=aS ed;refine bm ?_;refine br (t:=20) rfl ?_ ?_
  ·intro cS
   replace cS:=aS cS;refine bE ?_;refine aE rfl ?_ ?_
   ·intro dY
    replace dY:=aS dY;refine bG ?_;refine Rt [] results44 ?_;refine⟨?_,rfl⟩;unfold cB
    repeat' split
    all_goals first|rfl|(exfalso;omega)
   intro dY;replace dY:=aS dY;refine bR ?_;refine Rt [] results44 ?_;refine⟨?_,rfl⟩;unfold cB
   repeat' split
   all_goals first|rfl|(exfalso;omega)
  intro cS;replace cS:=aS cS;refine gz ?_;refine Rt [] results44 ?_;refine⟨?_,rfl⟩;unfold cB
  repeat' split
  all_goals first|rfl|(exfalso;omega)
 intro ee;replace ee:=aS ee;refine bM ?_;refine br (t:=20) rfl ?_ ?_
 ·intro ed
  replace ed:=aS ed;refine bE ?_;refine aE rfl ?_ ?_
  ·intro cS
   replace cS:=aS cS;refine bG ?_;refine Rt [] results44 ?_;refine⟨?_,rfl⟩;unfold cB
   repeat' split
   all_goals first|rfl|(exfalso;omega)
  intro cS;replace cS:=aS cS;refine bR ?_;refine Rt [] results44 ?_;refine⟨?_,rfl⟩;unfold cB
  repeat' split
  all_goals first|rfl|(exfalso;omega)
 intro ed;replace ed:=aS ed;refine gz ?_;refine Rt [] results44 ?_;refine⟨?_,rfl⟩;unfold cB
 repeat' split
 all_goals first|rfl|(exfalso;omega)
theorem ae4 (c:fe)(ka:Option Addr)(kc:Nat)(da:Option Addr)(dc:Nat)(mv:Value)(mH:mv.oneCell'=true)(FB:c.keys.length<281474976710656)(hk:∀k∈c.keys,k.length<281474976710656):
  aO aaO 41 [.agg (fu c ka kc da dc mv).toArray] (λh=>gg h ka (iK c.keys)) [] (λw H=>w= .bool (Bg c)/\H= []):=by
 have hb:Bg c=(decide (cB c.aH<0\/0<cB c.aH/\c.keys.length=0\/cB c.aH=1/\1<c.keys.length) ||(decide (0<cB c.aH)&&c.keys.any λk=> !eF k) ||decide (5<=c.aH/\c.aH<=10/\4294967295<c.fl)):=rfl;refine ag func41 rfl ntmps41 rfl ?_;intro F hr;refine av ?_;refine Lp (oB λb1=> ?_);refine bE ?_;refine zl CF (DN c.aH) .nil CI ?_;generalize hn:cB c.aH=n at*;have hn4:n= -1\/n=0\/n=1\/n=2:=by
  rw[<-hn];unfold cB
  repeat' split
  all_goals omega
 have fin:decide (n<0\/0<n/\c.keys.length=0\/n=1/\1<c.keys.length)=true->Bg c=true:=λh=>by rw[hb,h];rfl
 refine bA ?_;refine aw ?_;refine dt (ι:=Unit) [9,10,11,12,13,14,15,16,17,18,19,20,21,22,23,24,25,26,27,28,29,30,2] (λu=>¬(n<0\/0<n/\c.keys.length=0\/n=1/\1<c.keys.length)) (λu=> []) (λu=> [af b1 42 (fu c ka kc da dc mv)]) ?_ ?_
 ·refine gK ?_
  refine bz ?_;refine br (t:=11) rfl ?_ ?_
  ·intro dQ
   replace dQ:=aS dQ;refine cC ?_;refine bG ?_;refine Rt [] results41 ?_;exact⟨congrArg Value.bool (fin (CH)).symm,rfl⟩
  intro dQ;replace dQ:=aS dQ;refine bz ?_;refine br (t:=14) rfl ?_ ?_
  ·intro ee
   replace ee:=aS ee;refine bR ?_;refine br (t:=21) rfl ?_ ?_
   ·intro ed
    replace ed:=aS ed;refine rj ?_;refine Rt [] results41 ?_;exact⟨congrArg Value.bool (fin (CH)).symm,rfl⟩
   intro ed;replace ed:=aS ed;refine bz ?_;refine br (t:=24) rfl ?_ ?_
   ·intro cS
    replace cS:=aS cS;refine bR ?_;refine aE rfl ?_ ?_
    ·intro dY
     replace dY:=aS dY;refine bE ?_;refine Rt [] results41 ?_;exact⟨congrArg Value.bool (fin (CH)).symm,rfl⟩
    intro dY;replace dY:=aS dY;refine av ?_;refine Me (()) (by omega)
   intro cS;replace cS:=aS cS;refine cA ?_;refine Me (()) (by omega)
  intro ee;replace ee:=aS ee;refine bM ?_;refine br (t:=24) rfl ?_ ?_
  ·intro ed
   replace ed:=aS ed;refine bR ?_;refine aE rfl ?_ ?_
   ·intro cS
    replace cS:=aS cS;refine bE ?_;refine Rt [] results41 ?_;exact⟨congrArg Value.bool (fin (CH)).symm,rfl⟩
   intro cS;replace cS:=aS cS;refine av ?_;refine Me (()) (by omega)
  intro ed;replace ed:=aS ed;refine cA ?_;refine Me (()) (by omega)
 rintro u hI;have ed:Bg c=((decide (0<n)&&c.keys.any λk=> !eF k) ||decide (5<=c.aH/\c.aH<=10/\4294967295<c.fl)):=by rw[hb,decide_eq_false hI,akv]
 refine aw ?_;refine dt (ι:=Unit) [31,32,33,34,35,36,37,38,39,5,40,41,42,43,2,44] (λu=>(decide (0<n)&&c.keys.any λk=> !eF k)=false) (λu=> []) (λu=> [af b1 42 (fu c ka kc da dc mv)]) ?_ ?_
 ·refine gK ?_
  refine bz ?_;by_cases hp:0<n
  ·refine eU ?_ (e:=by exact decide_eq_true hp)
   refine bR ?_;refine Lo (ι:=Nat) [37,38,39,5,40,41,42,43,2,44,36] (λk=>k<=c.keys.length/\∀x∈c.keys.take k,eF x=true) (λk=> [(36,CO CN k)]) (λk=> [af b1 42 (fu c ka kc da dc mv)]) (λk=>c.keys.length-k) (0) ⟨afk _,by simp⟩ ?_;rintro k hI;obtain⟨hk1,ur⟩:=hI;by_cases cL:k<c.keys.length
   ·have w7:=BZ c.keys k cL
    have FA:=hk _ (aa4 cL);have Zd:ka.isSome=true:=by obtain⟨ad,e,_⟩:=hr k _ w7;rw[e];rfl
    refine bz ?_;refine aw ?_;refine eU ?_;refine bE ?_;refine Li (Ix zM) ?_;refine bE ?_;refine Lp (CP wv mG sQ λkb kcc sO=> ?_);refine zl CF (Ej (some ⟨kb,0,none⟩) kcc _ c.keys[k] rfl (by omega)) .nil (λh le ao=>bP (ao.nth 0 rfl)) ?_;by_cases hg:eF c.keys[k]=true
    ·rw[hg]
     refine cA ?_;refine aF ?_;refine Ro (k+1) (⟨cL,λx hx=>(by rw[agn,aaQ cL,List.mem_append]at hx;rcases hx with hx|hx;exact ur x hx;obtain rfl:x=c.keys[k]:=(by simpa using hx);exact hg)⟩) (by omega)
    have hg2:eF c.keys[k]=false:=by simpa using hg
    rw[hg2];refine dB ?_;refine Rt [] results41 ?_;refine⟨congrArg Value.bool ?_,rfl⟩;have:(c.keys.any λk=> !eF k)=true:=List.any_eq_true.2 ⟨_,aa4 cL,by rw[hg2];rfl⟩;rw[ed,this,decide_eq_true hp];rfl
   refine gK ?_;refine bA ?_;refine aw ?_;refine cO ?_;refine bm ?_;refine Me (()) ((by(have uj:k=c.keys.length:=by omega);rw[uj,ajE]at ur;rw[Bool.and_eq_false_iff];right;rw[List.any_eq_false];intro x hx;rw[ur x hx];decide))
  refine cO ?_ (e:=by exact decide_eq_false hp);refine av ?_;refine Me (()) ((by rw[decide_eq_false hp];rfl))
 rintro u hI;rw[hI,akv]at ed;refine bE ?_;refine br (t:=48) rfl ?_ ?_
 ·intro dQ
  replace dQ:=aS dQ;refine bE ?_;refine br (t:=53) rfl ?_ ?_
  ·intro ee
   replace ee:=aS ee;refine bR ?_;refine Rt [] results41 ?_;refine⟨congrArg Value.bool ?_,rfl⟩;rw[ed]
   first
    |exact decide_eq_decide.2 (by omega)
    |exact(CG).symm
  intro ee;replace ee:=aS ee;refine bR ?_;refine Rt [] results41 ?_;refine⟨congrArg Value.bool ?_,rfl⟩;rw[ed]
  first
   |exact decide_eq_decide.2 (by omega)
   |exact(CG).symm
 intro dQ;replace dQ:=aS dQ;refine dB ?_;refine Rt [] results41 ?_;refine⟨congrArg Value.bool ?_,rfl⟩;rw[ed]
 first
  |exact decide_eq_decide.2 (by omega)
  |exact(CG).symm
end Go.Proofs.YtcbcjolpdljbiaaGreat
namespace Go.dG
open Go
theorem aO.frP{P:Program}{f:FuncId}{args:List Value}{pre xa:Hp->Prop}{H As R:List aa}{T:Value->List aa->Prop}(h:aO P f args pre As T)(de:iI H As R)(hp:∀k k0,Le k0 k->xa k0->gP R k->pre k):
  aO P f args xa H (λv H'=>∃H0,T v H0/\H'=H0++R):=by
 intro F w hF s;obtain⟨a1,a2,a3,fr,hh,st,hl,rA⟩:=s;obtain⟨h1,h2,d12,l1,l2,s1,s2⟩:=bx (de.out _ st);have vu:bQ h2 F.h:=rA.left l2
 let F':dC:={F with h:=fA h2 F.h}
 have ia:Le F.h F'.h:=aR vu;have ib:Le h2 F'.h:=aW _ _;have wY:St F' As w:=⟨a1,a2,a3,bY (l2.trans hl) fr,h1,s1,l1.trans hl,(bQ.fA d12.symm (rA.left l1).symm).symm⟩;refine(h F' w (hp _ _ ia hF (cq s2 ib)) wY).mono ?_;rintro e w' ⟨v,H',rfl,hT,sw⟩;obtain⟨b1,b2,b3,rC,yZ,st2,yW,kf⟩:=sw;exact⟨v,_,rfl,⟨H',hT,rfl⟩,b1,b2,b3,ia.trans rC,fA yZ h2,bK st2 s2 (kf.right ib),bY yW (ib.trans rC),bQ.fA (kf.right ia) vu⟩
end Go.dG
namespace Go.Proofs.YtcbcjolpdljbiaaGreat
open Go Go.dG Go.Proofs.YtcbcjolpdljbiaaGreat.Cs
def agD (v:Sv):List Value:= [CO CN v.c.aj,CO CN v.c.pgs,CO CN v.c.fac,CO CN v.c.bj,CO CN v.c.lim,CO CN v.c.hot,CO CN v.c.warm,CO CN v.p.b,CO CN v.p.l,CO CN v.p.c,CO CN v.p.m,CO CJ v.bh,CO CN v.eW,CO CN v.mt.dr,CO CN v.mt.re,CO CN v.mt.bu,CO CN v.mt.li,CO CN v.mt.lo,CO CN v.mt.cr,CO CN v.mt.mv]
def A9 (y:Sy)(v:Sv):List Value:=CM y.b::CM y.ck::CM y.t::CM y.lu::CM y.wh::CM y.cr::CM y.mo::CM y.q::agD v
def VS (z:Ly)(B:Bx)(M:Mo):List aa:=
 [Cl z.y.b B.C,af z.y.t 154 (fk z.y.b B.W B.ty),af B.ty.nk 149 (aM (aD B.W.nb)),jH B.ty.ok 149 (aM (aD B.W.ob)),af z.y.q 182 (fC z.y.b z.qb B.C.ae.length),af z.qb 333 (M.Q.flatMap (cV B.C)),gh z.y.cr z.y.q z.y.wh B.C.ae.length (aL z.s) (aY z.s) B.C M.x,Wl z.y.wh B.E M.tn,
  kO z.y.ck M.k,jb z.y.lu z.y.b z.y.q z.hot z.warm,iT z.y.mo z.y.b z.ub (aL z.s) (aY z.s) (bI z.s) M.m,kL z.ub M.m,jJ M]
theorem wX (z:Ly)(B:Bx)(M:Mo):fD (dM z B M) (fm z.s z.y (fb M.v)) (VS z B M):=
 .there (.there (.there (.there (.there (.there (.there (.there .here)))))))
theorem tK{z:Ly}{M:Mo}{h:Hp}(s:SH z M h):∃B,bL B M/\ai (fm z.s z.y (fb M.v)::VS z B M) h:=by
 obtain⟨B,O,t⟩:=s;exact⟨B,O,(wX z B M).out _ t⟩
theorem DX{z:Ly}{M:Mo}(h:Hp)(s:SH z M h)(i:Nat)(v:Value)(e:(A9 z.y M.v++ [.slice M.v.wa M.v.wn M.v.wc])[i]?=some v):eZ h ⟨z.s,i,none⟩=some v:=by
 obtain⟨B,O,t⟩:=tK s;obtain⟨h1,h2,_,l1,_,a,_⟩:=t;exact cU l1 (fJ a e)
instance aiX{z:Ly}{M:Mo}:Cells (SH z M) z.s (A9 z.y M.v++ [.slice M.v.wa M.v.wn M.v.wc]):=⟨λh s i v e=>DX h s i v e⟩
instance aiW{z:Ly}{M:Mo}:Cells (SW z M) z.s (A9 z.y M.v):=⟨λh s i v e=>by
 obtain⟨w,s⟩:=s;refine DX h s i v ?_;rw[show(M.aQ w.1 w.2).v.wa=w.1 from rfl];exact(List.getElem?_append_left (List.getElem?_eq_some_iff.1 e).1).trans e⟩
theorem pS{z:Ly}{M:Mo}{w:Sv}{i:Nat}{v:Value}(hO:∀B,bL B M->bL B {M with v:=w})(hw:w.wa=M.v.wa/\w.wc=M.v.wc)(hi:i<29)(hc:(iQ z.y (fb M.v)).set i v=iQ z.y (fb w)):r8 (SH z M) z.s i v (SH z {M with v:=w}):=⟨λh s=>by
 obtain⟨B,O,t⟩:=tK s;refine⟨_,_,VS z B M,(by simpa[iQ,fb]using hi),t,λk sk=>⟨B,hO B O, ?_⟩⟩;rw[hc]at sk;have h1:VS z B M=VS z B {M with v:=w}:=by
  unfold VS jJ;rw[hw.1,hw.2]
 rw[h1]at sk;exact(wX z B {M with v:=w}).back _ sk⟩
theorem Qb{z:Ly}{M N:Mo}{i:Nat}{v:Value}(h:∀a c,r8 (SH z (M.aQ a c)) z.s i v (SH z (N.aQ a c))):r8 (SW z M) z.s i v (SW z N):=⟨λk s=>by
 obtain⟨w,s⟩:=s;obtain⟨e,cs,R,hi,t,back⟩:=(h w.1 w.2).cut k s;exact⟨e,cs,R,hi,t,λk2 s2=>⟨w,back k2 s2⟩⟩⟩
instance acs{z:Ly}{M:Mo}{i:Nat}:r8 (SH z M) z.s 19 (CO CJ i) (SH z (M.rk i)):=pS (λ_ O=>O.rk i) ⟨rfl,rfl⟩ (by decide) rfl
instance sh_dr{z:Ly}{M:Mo}{x:Int}:r8 (SH z M) z.s 21 (CO CN x) (SH z (M.aU {M.v.mt with dr:=x})):=pS (λ_ O=>O.aU _) ⟨rfl,rfl⟩ (by decide) rfl
instance sh_re{z:Ly}{M:Mo}{x:Int}:r8 (SH z M) z.s 22 (CO CN x) (SH z (M.aU {M.v.mt with re:=x})):=pS (λ_ O=>O.aU _) ⟨rfl,rfl⟩ (by decide) rfl
instance sh_bu{z:Ly}{M:Mo}{x:Int}:r8 (SH z M) z.s 23 (CO CN x) (SH z (M.aU {M.v.mt with bu:=x})):=pS (λ_ O=>O.aU _) ⟨rfl,rfl⟩ (by decide) rfl
instance sh_li{z:Ly}{M:Mo}{x:Int}:r8 (SH z M) z.s 24 (CO CN x) (SH z (M.aU {M.v.mt with li:=x})):=pS (λ_ O=>O.aU _) ⟨rfl,rfl⟩ (by decide) rfl
instance sh_lo{z:Ly}{M:Mo}{x:Int}:r8 (SH z M) z.s 25 (CO CN x) (SH z (M.aU {M.v.mt with lo:=x})):=pS (λ_ O=>O.aU _) ⟨rfl,rfl⟩ (by decide) rfl
instance ahK{z:Ly}{M:Mo}{x:Int}:r8 (SH z M) z.s 26 (CO CN x) (SH z (M.aU {M.v.mt with cr:=x})):=pS (λ_ O=>O.aU _) ⟨rfl,rfl⟩ (by decide) rfl
instance sh_mv{z:Ly}{M:Mo}{x:Int}:r8 (SH z M) z.s 27 (CO CN x) (SH z (M.aU {M.v.mt with mv:=x})):=pS (λ_ O=>O.aU _) ⟨rfl,rfl⟩ (by decide) rfl
instance sw_iss{z:Ly}{M:Mo}{i:Nat}:r8 (SW z M) z.s 19 (CO CJ i) (SW z (M.rk i)):=Qb λa c=>acs (M:=M.aQ a c)
instance sw_cr{z:Ly}{M:Mo}{x:Int}:r8 (SW z M) z.s 26 (CO CN x) (SW z (M.aU {M.v.mt with cr:=x})):=Qb λa c=>ahK (M:=M.aQ a c)
theorem W9{P:Program}{f:FuncId}{args:List Value}{z:Ly}{M:Mo}{xa:Hp->Prop}{T:Value->List aa->Prop}(h:∀B,bL B M->∃pre,aO P f args pre [] T/\∀k k0,Le k0 k->xa k0->gP (dM z B M) k->pre k):
  aO P f args xa [SH z M] (λv H=>∃H0,T v H0/\H=H0++ [SH z M]):=
 dH λB O=>by
  obtain⟨pre,g,hp⟩:=h B O;rw[afs];refine(g.frP (H:=dM z B M) (lD [] _) hp).out ?_;rintro v H' ⟨H0,t,rfl⟩;refine⟨H0++ [SH z M],⟨H0,t,rfl⟩,λk s=> ?_⟩;obtain⟨h1,h2,d,l1,l2,s1,s2⟩:=bx s;exact qK (A:=SH z M) (B:=SH z M) d l1 l2 s1 (Ad ⟨B,O,s2⟩)
theorem Ja{P:Program}{f:FuncId}{args:List Value}{z:Ly}{M:Mo}{xa:Hp->Prop}{T:Value->List aa->Prop}(h:∀a c B,bL B (M.aQ a c)->∃pre,aO P f args pre [] T/\∀k k0,Le k0 k->xa k0->gP (dM z B (M.aQ a c)) k->pre k):
  aO P f args xa [SW z M] (λv H=>∃H0,T v H0/\H=H0++ [SW z M]):=
 wE λa c=>(W9 (h a c)).out λv H' ⟨H0,t,e⟩=>⟨H0++ [SW z M],⟨H0,t,rfl⟩,by
  subst e;intro k s;obtain⟨h1,h2,d,l1,l2,s1,s2⟩:=bx s;obtain⟨h3,_,_,l3,_,q,_⟩:=s2;exact qK (A:=SW z M) (B:=SW z M) (d.right l3) l1 (l3.trans l2) s1 (Ad ⟨(a,c),q⟩)⟩
theorem jz{P:Program}{f:FuncId}{args:List Value}{z:Ly}{M:Mo}{xa:Hp->Prop}{T:Value->Prop}(h:∀a c B,bL B (M.aQ a c)->∃pre,aO P f args pre [] (λv H=>T v/\H= [])/\∀k k0,Le k0 k->xa k0->gP (dM z B (M.aQ a c)) k->pre k):
  aO P f args xa [SW z M] (λv H=>T v/\H= [SW z M]):=
 (Ja h).out λv H' ⟨H0,⟨t,e0⟩,e⟩=>⟨[SW z M],⟨t,rfl⟩,by subst e0;subst e;exact λk s=>s⟩
theorem Lg (z:Ly)(M:Mo)(a:Option Addr)(c m:Nat)(l:List UInt8)(hm:m=l.length)(hl:l.length<281474976710656):
  aO aaO 47 [CM z.y.t, .slice a m c] (λh=>gg h a (ax l)) [SW z M] (λv H=>v= .tuple #[CO CJ (q9 M.C (M.find l)), .bool (M.find l).isSome]/\H= [SW z M]):=
 jz λwa wc B O=>by
  have h:=nE z.y.t z.y.b B.C O.k B.W B.ty O.t O.ty a m c l hm hl;rw[O.PT,OT O]at h;exact⟨_,h,λk k0 le g ao=>⟨ao.nth 0 rfl,⟨ao.nth 1 rfl,ao.nth 2 rfl,ao.nth 3 rfl,trivial⟩,g.mono le⟩⟩
theorem WZ (z:Ly)(M:Mo)(p:Nat)(hp:M.has p):aO aaO 90 [CM z.y.b,CO CJ (M.C.hd p)] (λ_=>True) [SW z M] (λv H=>v= .tuple #[CO CN p,CO CN (M.C.cl p),CO CN 0]/\H= [SW z M]):=
 jz λwa wc B O=>by
  have h:=vG z.y.b B.C O.k p (O.sN ((O.al p).2 hp));rw[O.hd,show B.C.cl p=M.C.cl p from O.cl p]at h;exact⟨_,h,λk k0 le h ao=>ao.nth 0 rfl⟩
theorem sC (z:Ly)(M:Mo)(p:Nat)(hp:M.has p):aO aaO 148 [CM z.y.b,CO CJ (M.C.hd p)] (λ_=>True) [SW z M] (λv H=>v= .tuple #[CO CJ ((M.it p).tok),CO CN 0]/\H= [SW z M]):=
 jz λwa wc B O=>by
  have dE:=(O.al p).2 hp;have h:=AA z.y.b B.C O.k p (O.sN dE) (O.t.it p dE).k0;rw[O.hd,show rd B.C.A (p+32) 8=(M.it p).tok from(O.jh dE).2.2.1]at h;exact⟨_,h,λk k0 le h ao=>ao.nth 0 rfl⟩
theorem ym (z:Ly)(M:Mo)(c:Int):aO aaO 71 [CM z.y.b,CO CN c] (λ_=>True) [SW z M] (λv H=>v=CO CN (ofM M.C c λi=>M.C.sz i:Nat)/\H= [SW z M]):=
 jz λwa wc B O=>by
  have h:=qW z.y.b B.C O.k c;have e:(ofM B.C c λi=>B.C.sz i)=ofM M.C c λi=>M.C.sz i:=by
   conv=>lhs;rw[O.c]
   rfl
  rw[e]at h;exact⟨_,h,λk k0 le h ao=>ao.nth 0 rfl⟩
theorem akF (z:Ly)(M:Mo):aO aaO 69 [CM z.y.b] (λ_=>True) [SW z M] (λv H=>v=CO CN M.eR/\H= [SW z M]):=
 jz λwa wc B O=>by
  have h:=mA z.y.b B.C;have e:B.C.ae.length=M.eR:=by
   conv=>lhs;rw[O.c]
   rfl
  rw[e]at h;exact⟨_,h,λk k0 le h ao=>ao.nth 0 rfl⟩
theorem Ac (z:Ly)(M:Mo)(p:Nat)(hp:M.has p):aO aaO 98 [CM z.y.b,CO CJ (M.C.hd p)] (λ_=>True) [SW z M]
  (λv H=>∃H0,(∃kb vb st,1<=st/\st<=3/\p∈ql M.Q (qi (M.C.cl p) st)/\v= .tuple #[.agg (C5 (.slice (some ⟨kb,0,none⟩) (M.it p).key.length (M.it p).key.length) (.slice (some ⟨vb,0,none⟩) (M.it p).val.length (M.it p).val.length) (M.it p).fl (M.it p).exp (M.it p).tch (M.it p).tok st (M.it p).ff).toArray,CO CN 0]/\
   H0= [own (some ⟨kb,0,none⟩) (M.it p).key.length 5 1 (ax (M.it p).key),own (some ⟨vb,0,none⟩) (M.it p).val.length 5 1 (ax (M.it p).val)])/\H=H0++ [SW z M]):=
 Ja λwa wc B O=>by
  have dE:=(O.al p).2 hp;obtain⟨f1,f2,f3,f4,f5,f6,f7⟩:=O.jh dE;rw[show(M.aQ wa wc).it p=M.it p from rfl]at f1 f2 f3 f4 f5 f6 f7;have lk:kl B.C.A p=(M.it p).key.length:=by rw[<-f5];exact(cD _ _ _).symm
  have lv:vl B.C.A p=(M.it p).val.length:=by rw[<-f6];exact(cD _ _ _).symm
  have gB:∃i,p∈ql M.Q i:=hp;obtain⟨i,hi⟩:=gB;have hs:=O.o.st i p hi;have h:=tP z.y.b B.C O.k p (O.sN dE) (O.t.it p dE);rw[O.hd,show rd B.C.A (p+40) 4=(M.it p).fl from f7,show rd B.C.A (p+16) 8=(M.it p).exp from f1,show rd B.C.A (p+24) 8=(M.it p).tch from f2,show rd B.C.A (p+32) 8=(M.it p).tok from f3,show rd B.C.A (p+46) 1=(M.it p).ff from f4,lk,lv,f5,f6]at h;refine⟨_,h.out ?_,λk k0 le h ao=>ao.nth 0 rfl⟩;rintro v H ⟨kb,vb,e1,e2⟩;refine⟨H,⟨kb,vb,gJ B.C.A p,hs.1,hs.2.1, ?_,e1,e2⟩,λ_ s=>s⟩;have:=hs.2.2;rw[show B.C.cl p=M.C.cl p from O.cl p]at this;rw[<-this];exact hi
theorem o4{n:Nat}{ds:List Deferred}{F:dC}{K:Act->World->Prop}{σ:aZ}{z:Ly}{M:Mo}{H:List aa}(h:∀a c B,bL B (M.aQ a c)->G n ds F K σ (SW z M::H)):G n ds F K σ (SW z M::H):=
 zS λa c=>PL λB O=>aab a c (h a c B O)
theorem bL.VM{B:Bx}{M:Mo}(O:bL B M){p:Nat}(hp:M.has p):0<M.C.hd p/\M.C.hd p<18446744073709551616:=by
 have h:=bV O.k (O.nm ((O.al p).2 hp));rw[O.hd]at h;obtain⟨h1,h2,h3,h4,h5,h6⟩:=h;exact⟨by omega,by omega⟩
theorem nH{M N:Mo}{k:List UInt8}{p:Nat}(h:M.meet k=(some p,N)):M.has p/\(M.it p).key=k/\N=M.fE 0:=by
 unfold Mo.meet at h;cases hf:M.find k with
 |none=>rw[hf]at h;simp at h
 |some q=>
  rw[hf]at h;dsimp only at h
  split at h
  ·simp at h
  simp only[Prod.mk.injEq,Option.some.injEq]at h;obtain⟨rfl,rfl⟩:=h;obtain⟨h1,h2⟩:=nL hf;exact⟨h1,h2,rfl⟩
structure iA where
 kind:Nat
 eA:List I3
 num:Nat
 wx:List UInt8
def iA.k (n:Nat):iA:=⟨n,[],0,[]⟩
def iA.t (t:List UInt8):iA:=⟨11,[],0,t⟩
def uC (a:iA):Value:=zp a.kind bF a.num a.wx
def rJ (v:Value):Value:= .iface 102 v
theorem x8 (z:Ly)(M:Mo)(c:fe)(ka:Option Addr)(kc:Nat)(da:Option Addr)(dc:Nat)(mv:Value)(mH:mv.oneCell'=true)(k:List UInt8)(r:List (List UInt8))(sS:c.keys=k::r)(hk:k.length<281474976710656)(hw:M.j6.length<1073741824):
  We aaO 84 [CM z.s, .agg (fu c ka kc da dc mv).toArray] (λh=>gg h ka (iK c.keys)) [SW z M]
   (λv H=>∃p N,M.meet k=(some p,N)/\v=CO CJ (M.C.hd p)/\H= [SW z N]) (λv H=>∃N,M.meet k=(none,N)/\v=rJ (uC (.k 4))/\H= [SW z N]):=by
 refine ml func84 rfl ntmps84 rfl ?_;intro F hr;have w7:(iK c.keys)[0]?=some (bD k):=by rw[sS];rfl
 have Zd:ka.isSome=true:=by obtain⟨ad,e,_⟩:=hr 0 _ w7;rw[e];rfl
 have FA:0<c.keys.length:=by rw[sS];exact akC _
 refine av ?_;refine Lp (oB λb1=> ?_);refine bA ?_;refine au (λ_ x=>dx x) ?_;refine o4 λa c B O=> ?_;refine bm ?_;refine Li (Ix (j:=0) zM) ?_;refine av ?_;refine zl CF (xS z M k hk hw) (.cons .here .nil) CI ?_;rcases hm:M.meet k with⟨_|p,N⟩
 ·refine Li As ?_
  refine bM ?_;refine Li (VR T.gW) ?_;refine Lp (VA ?_);refine pP [SW z N] ?_;exact⟨N,rfl,rfl,rfl⟩
 have hp:=O.VM (nH hm).1;change 0<M.C.hd p/\_ at hp;refine bR ?_;refine cO ?_ (e:=by exact decide_eq_false (by show¬(((M.C.hd p:Nat):Int)=0);omega));refine bR ?_;refine pR ?_;refine Rt [SW z N] results84 ?_;exact⟨p,N,rfl,rfl,rfl⟩
def Mo.over (M:Mo)(old:Option Nat)(ov:Bool):Mo:=match old with|some p=>if ov=true then M.ca p else M|none=>M
theorem ng (z:Ly)(M:Mo)(old:Option Nat)(hold:∀p,old=some p->M.has p)(over:Bool)(t:List UInt8):
  We aaO 132 [CM z.s,CO CJ (q9 M.C old), .bool over,bD t] (λ_=>True) [SW z M]
   (λ_ _=>False) (λv H=>v=rJ (uC (.t t))/\H= [SW z (M.over old over)]):=by
 refine ml func132 rfl ntmps132 rfl ?_;intro F _;refine o4 λa c B O=> ?_;rcases old with _|p
 ·refine aw ?_
  refine bm ?_;refine zf 10 ?_ (e:=by rfl);refine dm ?_;refine zl CF (ig t) .nil CI ?_;refine Li (VR T.gW) ?_;refine Lp (VA ?_);refine pP [SW z M] ?_;exact⟨rfl,rfl⟩
 have hp:=O.VM (hold p rfl);change 0<M.C.hd p/\_ at hp;rcases over with _|_
 ·refine aw ?_
  refine bm ?_;refine zt 10 ?_ (e:=by exact congrArg (!·) (decide_eq_false (by show¬(((M.C.hd p:Nat):Int)=0);omega)));refine dm ?_;refine zl CF (ig t) .nil CI ?_;refine Li (VR T.gW) ?_;refine Lp (VA ?_);refine pP [SW z M] ?_;exact⟨rfl,rfl⟩
 refine aw ?_;refine bm ?_;refine zt 10 ?_ (e:=by exact congrArg (!·) (decide_eq_false (by show¬(((M.C.hd p:Nat):Int)=0);omega)));refine bR ?_;refine zl CF (uQ z M p (hold p rfl)) (.cons .here .nil) CI ?_;refine bz ?_;refine zl CF (ig t) .nil CI ?_;refine Li (VR T.gW) ?_;refine Lp (VA ?_);refine pP [SW z (M.ca p)] ?_;exact⟨rfl,rfl⟩
def bb (aH:Int)(KL:Nat)(old:Option Nat)(tok:Nat->Nat):Nat:=
 if aH=6 then(if old.isSome then 2 else 0)
 else if aH=7\/aH=8\/aH=9 then(if old.isSome then 0 else 2)
 else if aH=10 then(match old with|none=>4|some p=>if tok p=KL then 0 else 3)
 else 0
theorem Y1 (z:Ly)(M:Mo)(c:fe)(ka:Option Addr)(kc:Nat)(da:Option Addr)(dc:Nat)(mv:Value)(mH:mv.oneCell'=true)(old:Option Nat)(hold:∀p,old=some p->M.has p):
  We aaO 133 [CM z.s, .agg (fu c ka kc da dc mv).toArray,CO CJ (q9 M.C old)] (λ_=>True) [SW z M]
   (λv H=>bb c.aH c.tok old (λp=>(M.it p).tok)=0/\v= .tuple #[]/\H= [SW z M]) (λv H=>∃n,bb c.aH c.tok old (λp=>(M.it p).tok)=n/\n≠0/\v=rJ (uC (.k n))/\H= [SW z M]):=by
 refine ml func133 rfl ntmps133 rfl ?_;intro F _;refine av ?_;refine Lp (oB λb1=> ?_);refine av ?_;refine au (λ_ x=>dx x) ?_;refine o4 λa b B O=> ?_;refine bz ?_;refine aw ?_;refine dt (ι:=Nat) [9,10,12,11,13,14,6,16,15,17,18,19,20,22,21,23,24,26,27,28,29,30,31,32,25,33,34,7,8,35,36,37,38] (λn=>bb c.aH c.tok old (λp=>(M.it p).tok)=n) (λn=> [(6,CO CN n)]) (λn=> [SW z M]) ?_ ?_
 ·rcases old with _|p
  ·have e0:q9 M.C none=0:=rfl
   refine cA ?_;refine aE rfl ?_ ?_
   ·intro dQ
    replace dQ:=aS dQ;refine bm ?_;refine aE rfl ?_ ?_
    ·intro ee
     replace ee:=aS ee;refine bm ?_;refine Me (bb c.aH c.tok _ _) (rfl) (hs:=⟨(by refine congrArg (λq=>some (Value.int .i64 q)) ?_;unfold bb;try dsimp only;(repeat' split)<;>first|rfl|(exfalso;omega)|simp_all),trivial⟩)
    intro ee;replace ee:=aS ee;refine bA ?_;refine Me (bb c.aH c.tok _ _) (rfl) (hs:=⟨(by refine congrArg (λq=>some (Value.int .i64 q)) ?_;unfold bb;try dsimp only;(repeat' split)<;>first|rfl|(exfalso;omega)|simp_all),trivial⟩)
   intro dQ;replace dQ:=aS dQ;refine bE ?_;refine aE rfl ?_ ?_
   ·intro ee
    replace ee:=aS ee;refine bA ?_;refine aE rfl ?_ ?_
    ·intro ed
     replace ed:=aS ed;refine bm ?_;refine aE rfl ?_ ?_
     ·intro cS
      replace cS:=aS cS;refine bm ?_;refine Me (bb c.aH c.tok _ _) (rfl) (hs:=⟨(by refine congrArg (λq=>some (Value.int .i64 q)) ?_;unfold bb;try dsimp only;(repeat' split)<;>first|rfl|(exfalso;omega)|simp_all),trivial⟩)
     intro cS;replace cS:=aS cS;refine bA ?_;refine Me (bb c.aH c.tok _ _) (rfl) (hs:=⟨(by refine congrArg (λq=>some (Value.int .i64 q)) ?_;unfold bb;try dsimp only;(repeat' split)<;>first|rfl|(exfalso;omega)|simp_all),trivial⟩)
    intro ed;replace ed:=aS ed;refine bm ?_;refine aE rfl ?_ ?_
    ·intro cS
     replace cS:=aS cS;refine bm ?_;refine aE rfl ?_ ?_
     ·intro dY
      replace dY:=aS dY;refine bm ?_;refine Me (bb c.aH c.tok _ _) (rfl) (hs:=⟨(by refine congrArg (λq=>some (Value.int .i64 q)) ?_;unfold bb;try dsimp only;(repeat' split)<;>first|rfl|(exfalso;omega)|simp_all),trivial⟩)
     intro dY;replace dY:=aS dY;refine bR ?_;refine zl CF ((show aO aaO 148 [CM z.y.b,CO CJ (q9 M.C none)] (λ_=>True) [SW z M] (λv H=>v= .tuple #[CO CJ 0,CO CN 0]/\H= [SW z M])from λF w _ _=>by exfalso;omega)) (.cons .here .nil) CI ?_;refine dB ?_;refine aE rfl ?_ ?_
     ·intro jI
      replace jI:=aS jI;refine bm ?_;refine Me (bb c.aH c.tok _ _) (rfl) (hs:=⟨(by refine congrArg (λq=>some (Value.int .i64 q)) ?_;unfold bb;try dsimp only;(repeat' split)<;>first|rfl|(exfalso;omega)|simp_all),trivial⟩)
     intro jI;replace jI:=aS jI;refine bA ?_;refine Me (bb c.aH c.tok _ _) (rfl) (hs:=⟨(by refine congrArg (λq=>some (Value.int .i64 q)) ?_;unfold bb;try dsimp only;(repeat' split)<;>first|rfl|(exfalso;omega)|simp_all),trivial⟩)
    intro cS;replace cS:=aS cS;refine bA ?_;refine Me (bb c.aH c.tok _ _) (rfl) (hs:=⟨(by refine congrArg (λq=>some (Value.int .i64 q)) ?_;unfold bb;try dsimp only;(repeat' split)<;>first|rfl|(exfalso;omega)|simp_all),trivial⟩)
   intro ee;replace ee:=aS ee;refine bm ?_;refine aE rfl ?_ ?_
   ·intro ed
    replace ed:=aS ed;refine bA ?_;refine aE rfl ?_ ?_
    ·intro cS
     replace cS:=aS cS;refine bm ?_;refine aE rfl ?_ ?_
     ·intro dY
      replace dY:=aS dY;refine bm ?_;refine Me (bb c.aH c.tok _ _) (rfl) (hs:=⟨(by refine congrArg (λq=>some (Value.int .i64 q)) ?_;unfold bb;try dsimp only;(repeat' split)<;>first|rfl|(exfalso;omega)|simp_all),trivial⟩)
     intro dY;replace dY:=aS dY;refine bA ?_;refine Me (bb c.aH c.tok _ _) (rfl) (hs:=⟨(by refine congrArg (λq=>some (Value.int .i64 q)) ?_;unfold bb;try dsimp only;(repeat' split)<;>first|rfl|(exfalso;omega)|simp_all),trivial⟩)
    intro cS;replace cS:=aS cS;refine bm ?_;refine aE rfl ?_ ?_
    ·intro dY
     replace dY:=aS dY;refine bm ?_;refine aE rfl ?_ ?_
     ·intro jI
      replace jI:=aS jI;refine bm ?_;refine Me (bb c.aH c.tok _ _) (rfl) (hs:=⟨(by refine congrArg (λq=>some (Value.int .i64 q)) ?_;unfold bb;try dsimp only;(repeat' split)<;>first|rfl|(exfalso;omega)|simp_all),trivial⟩)
     intro jI;replace jI:=aS jI;refine bR ?_;refine zl CF ((show aO aaO 148 [CM z.y.b,CO CJ (q9 M.C none)] (λ_=>True) [SW z M] (λv H=>v= .tuple #[CO CJ 0,CO CN 0]/\H= [SW z M])from λF w _ _=>by exfalso;omega)) (.cons .here .nil) CI ?_;refine dB ?_;refine aE rfl ?_ ?_
     ·intro rS
      replace rS:=aS rS;refine bm ?_;refine Me (bb c.aH c.tok _ _) (rfl) (hs:=⟨(by refine congrArg (λq=>some (Value.int .i64 q)) ?_;unfold bb;try dsimp only;(repeat' split)<;>first|rfl|(exfalso;omega)|simp_all),trivial⟩)
     intro rS;replace rS:=aS rS;refine bA ?_;refine Me (bb c.aH c.tok _ _) (rfl) (hs:=⟨(by refine congrArg (λq=>some (Value.int .i64 q)) ?_;unfold bb;try dsimp only;(repeat' split)<;>first|rfl|(exfalso;omega)|simp_all),trivial⟩)
    intro dY;replace dY:=aS dY;refine bA ?_;refine Me (bb c.aH c.tok _ _) (rfl) (hs:=⟨(by refine congrArg (λq=>some (Value.int .i64 q)) ?_;unfold bb;try dsimp only;(repeat' split)<;>first|rfl|(exfalso;omega)|simp_all),trivial⟩)
   intro ed;replace ed:=aS ed;refine bm ?_;refine aE rfl ?_ ?_
   ·intro cS
    replace cS:=aS cS;refine bm ?_;refine aE rfl ?_ ?_
    ·intro dY
     replace dY:=aS dY;refine bm ?_;refine Me (bb c.aH c.tok _ _) (rfl) (hs:=⟨(by refine congrArg (λq=>some (Value.int .i64 q)) ?_;unfold bb;try dsimp only;(repeat' split)<;>first|rfl|(exfalso;omega)|simp_all),trivial⟩)
    intro dY;replace dY:=aS dY;refine bA ?_;refine Me (bb c.aH c.tok _ _) (rfl) (hs:=⟨(by refine congrArg (λq=>some (Value.int .i64 q)) ?_;unfold bb;try dsimp only;(repeat' split)<;>first|rfl|(exfalso;omega)|simp_all),trivial⟩)
   intro cS;replace cS:=aS cS;refine bm ?_;refine aE rfl ?_ ?_
   ·intro dY
    replace dY:=aS dY;refine bm ?_;refine aE rfl ?_ ?_
    ·intro jI
     replace jI:=aS jI;refine bm ?_;refine Me (bb c.aH c.tok _ _) (rfl) (hs:=⟨(by refine congrArg (λq=>some (Value.int .i64 q)) ?_;unfold bb;try dsimp only;(repeat' split)<;>first|rfl|(exfalso;omega)|simp_all),trivial⟩)
    intro jI;replace jI:=aS jI;refine bR ?_;refine zl CF ((show aO aaO 148 [CM z.y.b,CO CJ (q9 M.C none)] (λ_=>True) [SW z M] (λv H=>v= .tuple #[CO CJ 0,CO CN 0]/\H= [SW z M])from λF w _ _=>by exfalso;omega)) (.cons .here .nil) CI ?_;refine dB ?_;refine aE rfl ?_ ?_
    ·intro rS
     replace rS:=aS rS;refine bm ?_;refine Me (bb c.aH c.tok _ _) (rfl) (hs:=⟨(by refine congrArg (λq=>some (Value.int .i64 q)) ?_;unfold bb;try dsimp only;(repeat' split)<;>first|rfl|(exfalso;omega)|simp_all),trivial⟩)
    intro rS;replace rS:=aS rS;refine bA ?_;refine Me (bb c.aH c.tok _ _) (rfl) (hs:=⟨(by refine congrArg (λq=>some (Value.int .i64 q)) ?_;unfold bb;try dsimp only;(repeat' split)<;>first|rfl|(exfalso;omega)|simp_all),trivial⟩)
   intro dY;replace dY:=aS dY;refine bA ?_;refine Me (bb c.aH c.tok _ _) (rfl) (hs:=⟨(by refine congrArg (λq=>some (Value.int .i64 q)) ?_;unfold bb;try dsimp only;(repeat' split)<;>first|rfl|(exfalso;omega)|simp_all),trivial⟩)
  have hp:=O.VM (hold p rfl);have e0:q9 M.C (some p)=M.C.hd p:=rfl;change 0<M.C.hd p/\_ at hp;refine cA ?_;refine aE rfl ?_ ?_
  ·intro dQ
   replace dQ:=aS dQ;refine bm ?_;refine aE rfl ?_ ?_
   ·intro ee
    replace ee:=aS ee;refine bm ?_;refine Me (bb c.aH c.tok _ _) (rfl) (hs:=⟨(by refine congrArg (λq=>some (Value.int .i64 q)) ?_;unfold bb;try dsimp only;(repeat' split)<;>first|rfl|(exfalso;omega)|simp_all),trivial⟩)
   intro ee;replace ee:=aS ee;refine bA ?_;refine Me (bb c.aH c.tok _ _) (rfl) (hs:=⟨(by refine congrArg (λq=>some (Value.int .i64 q)) ?_;unfold bb;try dsimp only;(repeat' split)<;>first|rfl|(exfalso;omega)|simp_all),trivial⟩)
  intro dQ;replace dQ:=aS dQ;refine bE ?_;refine aE rfl ?_ ?_
  ·intro ee
   replace ee:=aS ee;refine bA ?_;refine aE rfl ?_ ?_
   ·intro ed
    replace ed:=aS ed;refine bm ?_;refine aE rfl ?_ ?_
    ·intro cS
     replace cS:=aS cS;refine bm ?_;refine Me (bb c.aH c.tok _ _) (rfl) (hs:=⟨(by refine congrArg (λq=>some (Value.int .i64 q)) ?_;unfold bb;try dsimp only;(repeat' split)<;>first|rfl|(exfalso;omega)|simp_all),trivial⟩)
    intro cS;replace cS:=aS cS;refine bA ?_;refine Me (bb c.aH c.tok _ _) (rfl) (hs:=⟨(by refine congrArg (λq=>some (Value.int .i64 q)) ?_;unfold bb;try dsimp only;(repeat' split)<;>first|rfl|(exfalso;omega)|simp_all),trivial⟩)
   intro ed;replace ed:=aS ed;refine bm ?_;refine aE rfl ?_ ?_
   ·intro cS
    replace cS:=aS cS;refine bm ?_;refine aE rfl ?_ ?_
    ·intro dY
     replace dY:=aS dY;refine bm ?_;refine Me (bb c.aH c.tok _ _) (rfl) (hs:=⟨(by refine congrArg (λq=>some (Value.int .i64 q)) ?_;unfold bb;try dsimp only;(repeat' split)<;>first|rfl|(exfalso;omega)|simp_all),trivial⟩)
    intro dY;replace dY:=aS dY;refine bR ?_;refine zl CF (sC z M p (hold p rfl)) (.cons .here .nil) CI ?_;refine dB ?_;refine aE rfl ?_ ?_
    ·intro jI
     replace jI:=aS jI;refine bm ?_;refine Me (bb c.aH c.tok _ _) (rfl) (hs:=⟨(by refine congrArg (λq=>some (Value.int .i64 q)) ?_;unfold bb;try dsimp only;(repeat' split)<;>first|rfl|(exfalso;omega)|simp_all),trivial⟩)
    intro jI;replace jI:=aS jI;refine bA ?_;refine Me (bb c.aH c.tok _ _) (rfl) (hs:=⟨(by refine congrArg (λq=>some (Value.int .i64 q)) ?_;unfold bb;try dsimp only;(repeat' split)<;>first|rfl|(exfalso;omega)|simp_all),trivial⟩)
   intro cS;replace cS:=aS cS;refine bA ?_;refine Me (bb c.aH c.tok _ _) (rfl) (hs:=⟨(by refine congrArg (λq=>some (Value.int .i64 q)) ?_;unfold bb;try dsimp only;(repeat' split)<;>first|rfl|(exfalso;omega)|simp_all),trivial⟩)
  intro ee;replace ee:=aS ee;refine bm ?_;refine aE rfl ?_ ?_
  ·intro ed
   replace ed:=aS ed;refine bA ?_;refine aE rfl ?_ ?_
   ·intro cS
    replace cS:=aS cS;refine bm ?_;refine aE rfl ?_ ?_
    ·intro dY
     replace dY:=aS dY;refine bm ?_;refine Me (bb c.aH c.tok _ _) (rfl) (hs:=⟨(by refine congrArg (λq=>some (Value.int .i64 q)) ?_;unfold bb;try dsimp only;(repeat' split)<;>first|rfl|(exfalso;omega)|simp_all),trivial⟩)
    intro dY;replace dY:=aS dY;refine bA ?_;refine Me (bb c.aH c.tok _ _) (rfl) (hs:=⟨(by refine congrArg (λq=>some (Value.int .i64 q)) ?_;unfold bb;try dsimp only;(repeat' split)<;>first|rfl|(exfalso;omega)|simp_all),trivial⟩)
   intro cS;replace cS:=aS cS;refine bm ?_;refine aE rfl ?_ ?_
   ·intro dY
    replace dY:=aS dY;refine bm ?_;refine aE rfl ?_ ?_
    ·intro jI
     replace jI:=aS jI;refine bm ?_;refine Me (bb c.aH c.tok _ _) (rfl) (hs:=⟨(by refine congrArg (λq=>some (Value.int .i64 q)) ?_;unfold bb;try dsimp only;(repeat' split)<;>first|rfl|(exfalso;omega)|simp_all),trivial⟩)
    intro jI;replace jI:=aS jI;refine bR ?_;refine zl CF (sC z M p (hold p rfl)) (.cons .here .nil) CI ?_;refine dB ?_;refine aE rfl ?_ ?_
    ·intro rS
     replace rS:=aS rS;refine bm ?_;refine Me (bb c.aH c.tok _ _) (rfl) (hs:=⟨(by refine congrArg (λq=>some (Value.int .i64 q)) ?_;unfold bb;try dsimp only;(repeat' split)<;>first|rfl|(exfalso;omega)|simp_all),trivial⟩)
    intro rS;replace rS:=aS rS;refine bA ?_;refine Me (bb c.aH c.tok _ _) (rfl) (hs:=⟨(by refine congrArg (λq=>some (Value.int .i64 q)) ?_;unfold bb;try dsimp only;(repeat' split)<;>first|rfl|(exfalso;omega)|simp_all),trivial⟩)
   intro dY;replace dY:=aS dY;refine bA ?_;refine Me (bb c.aH c.tok _ _) (rfl) (hs:=⟨(by refine congrArg (λq=>some (Value.int .i64 q)) ?_;unfold bb;try dsimp only;(repeat' split)<;>first|rfl|(exfalso;omega)|simp_all),trivial⟩)
  intro ed;replace ed:=aS ed;refine bm ?_;refine aE rfl ?_ ?_
  ·intro cS
   replace cS:=aS cS;refine bm ?_;refine aE rfl ?_ ?_
   ·intro dY
    replace dY:=aS dY;refine bm ?_;refine Me (bb c.aH c.tok _ _) (rfl) (hs:=⟨(by refine congrArg (λq=>some (Value.int .i64 q)) ?_;unfold bb;try dsimp only;(repeat' split)<;>first|rfl|(exfalso;omega)|simp_all),trivial⟩)
   intro dY;replace dY:=aS dY;refine bA ?_;refine Me (bb c.aH c.tok _ _) (rfl) (hs:=⟨(by refine congrArg (λq=>some (Value.int .i64 q)) ?_;unfold bb;try dsimp only;(repeat' split)<;>first|rfl|(exfalso;omega)|simp_all),trivial⟩)
  intro cS;replace cS:=aS cS;refine bm ?_;refine aE rfl ?_ ?_
  ·intro dY
   replace dY:=aS dY;refine bm ?_;refine aE rfl ?_ ?_
   ·intro jI
    replace jI:=aS jI;refine bm ?_;refine Me (bb c.aH c.tok _ _) (rfl) (hs:=⟨(by refine congrArg (λq=>some (Value.int .i64 q)) ?_;unfold bb;try dsimp only;(repeat' split)<;>first|rfl|(exfalso;omega)|simp_all),trivial⟩)
   intro jI;replace jI:=aS jI;refine bR ?_;refine zl CF (sC z M p (hold p rfl)) (.cons .here .nil) CI ?_;refine dB ?_;refine aE rfl ?_ ?_
   ·intro rS
    replace rS:=aS rS;refine bm ?_;refine Me (bb c.aH c.tok _ _) (rfl) (hs:=⟨(by refine congrArg (λq=>some (Value.int .i64 q)) ?_;unfold bb;try dsimp only;(repeat' split)<;>first|rfl|(exfalso;omega)|simp_all),trivial⟩)
   intro rS;replace rS:=aS rS;refine bA ?_;refine Me (bb c.aH c.tok _ _) (rfl) (hs:=⟨(by refine congrArg (λq=>some (Value.int .i64 q)) ?_;unfold bb;try dsimp only;(repeat' split)<;>first|rfl|(exfalso;omega)|simp_all),trivial⟩)
  intro dY;replace dY:=aS dY;refine bA ?_;refine Me (bb c.aH c.tok _ _) (rfl) (hs:=⟨(by refine congrArg (λq=>some (Value.int .i64 q)) ?_;unfold bb;try dsimp only;(repeat' split)<;>first|rfl|(exfalso;omega)|simp_all),trivial⟩)
 rintro n hI;refine bm ?_;by_cases hn:n=0
 ·refine cO ?_ (e:=by exact congrArg (!·) (CH))
  refine av ?_;refine pN ?_;refine jW [SW z M] results133 ?_;exact⟨hI.trans hn,rfl,rfl⟩
 refine eU ?_ (e:=by exact congrArg (!·) (CG));refine bm ?_;refine Li (VR T.gW) ?_;refine Lp (VA ?_);refine pP [SW z M] ?_;exact⟨n,hI,hn,rfl,rfl⟩
def Mo.ic (M:Mo)(k:List UInt8)(ex:Int):iA×Mo:=match M.meet k with
 |(none,N)=>(.k 4,N)
 |(some p,N)=>(.k 6,(N.time p (gL N.k.now ex)).lJ p)
theorem Hy (z:Ly)(M:Mo)(c:fe)(ka:Option Addr)(kc:Nat)(da:Option Addr)(dc:Nat)(mv:Value)(mH:mv.oneCell'=true)(k:List UInt8)(r:List (List UInt8))(sS:c.keys=k::r)(hk:k.length<281474976710656)(hw:M.j6.length<1073741824)(hex:c.ex<9223372036854775808)(vq:M.tn<18446744073709551615):
  We aaO 83 [CM z.s, .agg (fu c ka kc da dc mv).toArray] (λh=>gg h ka (iK c.keys)) [SW z M]
   (λv H=>∃a N,M.ic k c.ex=(a,N)/\v=uC a/\H= [SW z N]) (λv H=>∃a N,M.ic k c.ex=(a,N)/\v=rJ (uC a)/\H= [SW z N]):=by
 refine ml func83 rfl ntmps83 rfl ?_;intro F hr;refine av ?_;refine Lp (oB λb1=> ?_);refine Lp (oA oX λb2=> ?_);refine bm ?_;refine Lp (Ov CF rfl rfl (x8 z M c ka kc da dc mv mH k r sS hk hw) (.cons (.there (.there .here)) .nil) (λ_ le _=>hr.mono le) (by rintro v H' ⟨N,hm,rfl,rfl⟩;exact pP [SW z N] ⟨.k 4,N,by unfold Mo.ic;rw[hm],rfl,rfl⟩) ?_);rintro v H' ⟨p,N,hm,rfl,rfl⟩;refine aX ?_;obtain⟨m1,m2,m3⟩:=nH hm;have hN:N.has p:=by rw[m3];exact m1
 have hC:M.C=N.C:=by rw[m3];rfl
 rw[hC];refine bR ?_;refine zl CF (sB z N p hN c.ex hex (by rw[m3];exact vq)) (.cons .here .nil) CI ?_;refine bm ?_;have ht:=xP z (N.time p (gL N.k.now c.ex)) p hN;rw[show(N.time p (gL N.k.now c.ex)).C.hd p=N.C.hd p from rfl]at ht;refine zl CF (ht) (.cons .here .nil) CI ?_;refine bG ?_;refine pR ?_;refine FX [SW z ((N.time p (gL N.k.now c.ex)).lJ p)] eo results83 ?_;exact⟨.k 6,_,by unfold Mo.ic;rw[hm],rfl,rfl⟩
def ky (l:List (I3×Nat)):List Value:=l.flatMap λx=>zj x.1 (.slice (some ⟨x.2,0,none⟩) x.1.val.length x.1.val.length)
def kx (l:List (I3×Nat)):aa:=aG (l.map λx=>own (some ⟨x.2,0,none⟩) x.1.val.length 5 1 (ax x.1.val))
def Mo.kh (iP:Bool)(ex:Int)(s:List I3×Mo)(k:List UInt8):List I3×Mo:=match s.2.meet k with
 |(none,N)=>(s.1,N)
 |(some p,N)=>let N2:=if iP then N.time p (gL N.k.now ex)else N;(s.1++ [N2.it p],N2.lJ p)
def Mo.zi (M:Mo)(aH:Int)(keys:List (List UInt8))(ex:Int):iA×Mo:=let r:=keys.foldl (Mo.kh (decide (aH=3\/aH=4)) ex) ([],M);(⟨9,r.1,0,[]⟩,r.2)
theorem NO (l:List (I3×Nat)):(ky l).length=l.length*9:=by
 unfold ky;rw[List.length_flatMap];rw[show(λx:I3×Nat=>(zj x.1 (.slice (some ⟨x.2,0,none⟩) x.1.val.length x.1.val.length)).length)=λ_=>9 from rfl];simp[List.map_const',Nat.mul_comm]
theorem tR{n:Nat}{ds:List Deferred}{F:dC}{K:Act->World->Prop}{σ:aZ}{H:List aa}(h:G n ds F K σ (kx []::H)):G n ds F K σ H:=
 au (λk s=>wu s) h
theorem NN{l:List (I3×Nat)}{x:I3}{vb:Nat}{H:List aa}{h:Hp}(s:ai (kx l::own (some ⟨vb,0,none⟩) x.val.length 5 1 (ax x.val)::H) h):ai (kx (l++ [(x,vb)])::H) h:=by
 unfold kx at*;rw[afy];exact yn (M:= [own (some ⟨vb,0,none⟩) x.val.length 5 1 (ax x.val)]) s
theorem Ii (l:List (I3×Nat))(x:I3)(vb:Nat):ky (l++ [(x,vb)])=ky l++zj x (.slice (some ⟨vb,0,none⟩) x.val.length x.val.length):=by
 unfold ky;rw[List.flatMap_append];simp
theorem TE (M:Mo)(k:List UInt8):(M.meet k).2.j6.length=M.j6.length+1/\(M.meet k).2.tn=M.tn:=by
 unfold Mo.meet;cases M.find k with
 |none=>exact⟨by simp[Mo.fE],rfl⟩
 |some p=>
  dsimp only
  split
  ·exact⟨by simp[Mo.fE,Mo.ca],rfl⟩
  exact⟨by simp[Mo.fE],rfl⟩
theorem BW (M:Mo)(p e:Nat):(M.time p e).tn<=M.tn+1:=by
 unfold Mo.time;dsimp only
 split<;>omega
theorem Yy (z:Ly)(M:Mo)(c:fe)(ka:Option Addr)(kc:Nat)(da:Option Addr)(dc:Nat)(mv:Value)(mH:mv.oneCell'=true)(hk:∀k∈c.keys,k.length<281474976710656)(hn:c.keys.length<1073741824)(hw:M.j6= [])(hex:c.ex<9223372036854775808)(vq:M.tn+c.keys.length<18446744073709551615):
  aO aaO 81 [CM z.s, .agg (fu c ka kc da dc mv).toArray] (λh=>gg h ka (iK c.keys)) [SW z M]
   (λv H=>∃a N ea ec l,M.zi c.aH c.keys c.ex=(a,N)/\l.map Prod.fst=a.eA/\v=zp a.kind (.slice ea l.length ec) a.num a.wx/\H= [own ea ec 56 9 (ky l),kx l,SW z N]):=by
 refine ag func81 rfl ntmps81 rfl ?_;intro F hr;refine av ?_;refine Lp (oB λb1=> ?_);refine Lp (oA oX λb2=> ?_);refine bz ?_;refine Lp (oA oX λb3=> ?_);refine bM ?_;refine dw 56 9 ?_;refine tR ?_;refine Lo (ι:=Nat×List (I3×Nat)×Mo×Option Addr×Nat) [14,15,16,7,17,18,19,8,20,21,22,23,24,25,26,27,28,29,30,31,32,33,34,35,36,37,38,39,40,41,42,43,44,45,46,13] (λs=>(s.1<=c.keys.length/\s.2.2.1.j6.length=s.1/\s.2.2.1.tn<=M.tn+s.1/\s.2.1.length<=s.1)/\(c.keys.take s.1).foldl (Mo.kh (decide (c.aH=3\/c.aH=4)) c.ex) ([],M)=(s.2.1.map Prod.fst,s.2.2.1)) (λs=> [(13,CO CN s.1)]) (λs=> [SW z s.2.2.1,af b1 42 (fu c ka kc da dc mv),af b2 52 [CO CN 0,bF,CO CJ 0,bD [],bF],af b3 52 [CO CN 9, .slice s.2.2.2.1 s.2.1.length s.2.2.2.2,CO CJ 0,bD [],bF],own s.2.2.2.1 s.2.2.2.2 56 9 (ky s.2.1),kx s.2.1]) (λs=>c.keys.length-s.1) ((0,[],M,none,0)) ⟨⟨afk _,by rw[hw];rfl,aa0 _,aa0 _⟩,rfl⟩ ?_;rintro⟨i,l,N,ea,ec⟩ hI;dsimp only at hI⊢;obtain⟨⟨hi,hwl,hNt,hll⟩,hf⟩:=hI;by_cases cL:i<c.keys.length
 ·have w7:=BZ c.keys i cL
  have Zd:ka.isSome=true:=by obtain⟨ad,e,_⟩:=hr i _ w7;rw[e];rfl
  have FA:=hk _ (aa4 cL);have VK:(c.keys.take (i+1)).foldl (Mo.kh (decide (c.aH=3\/c.aH=4)) c.ex) ([],M)=Mo.kh (decide (c.aH=3\/c.aH=4)) c.ex (l.map Prod.fst,N) c.keys[i]:=by
   rw[agn,aaQ cL,akd,hf];rfl
  generalize c.keys[i]=k at*;refine bz ?_;refine aw ?_;refine eU ?_;refine o4 λwa wc B O=> ?_;refine bE ?_;refine Li (Ix zM) ?_;refine bG ?_;refine zl CF (xS z N k FA (by omega)) (.cons .here .nil) CI ?_;obtain⟨w1,w2⟩:=TE N k;rcases hm:N.meet k with⟨_|p,N1⟩
  ·rw[hm]at w1 w2
   refine mF ?_;refine aF ?_;refine Ro ((i+1,l,N1,ea,ec)) (⟨⟨cL,(by dsimp only at*;omega),(by dsimp only at*;omega),(by dsimp only;omega)⟩,(by dsimp only;rw[VK];unfold Mo.kh;dsimp only;rw[hm])⟩) ((by dsimp only;omega))
  rw[hm]at w1 w2;obtain⟨m1,m2,m3⟩:=nH hm;have hp:=O.VM m1;change 0<N.C.hd p/\_ at hp;have hN1:N1.has p:=by rw[m3];exact m1
  have hC:N.C=N1.C:=by rw[m3];rfl
  rw[hC]at hp⊢;refine bR ?_;refine cO ?_ (e:=by exact decide_eq_false (by show¬(((N1.C.hd p:Nat):Int)=0);omega));refine bA ?_;refine aw ?_;refine dt (ι:=Mo) [22,23,24,25,26,27,28,29,30,31,32,33,34] (λN2=>N2=(if decide (c.aH=3\/c.aH=4)=true then N1.time p (gL N1.k.now c.ex)else N1)) (λN2=> []) (λN2=> [SW z N2,af b1 42 (fu c ka kc da dc mv),af b2 52 [CO CN 0,bF,CO CJ 0,bD [],bF],af b3 52 [CO CN 9, .slice ea l.length ec,CO CJ 0,bD [],bF],own ea ec 56 9 (ky l),kx l]) ?_ ?_
  ·refine gK ?_
   refine bm ?_;refine br (t:=25) rfl ?_ ?_
   ·intro dQ
    replace dQ:=aS dQ;refine bW ?_;refine zl CF (sB z N1 p hN1 c.ex hex (by dsimp only at w2;omega)) (.cons .here .nil) CI ?_;refine aF ?_
    first|refine Me (N1.time p (gL N1.k.now c.ex)) (by rw[if_pos (CH)])|refine Me N1 (by rw[if_neg (by rw[decide_eq_true_eq];omega)])
   intro dQ;replace dQ:=aS dQ;refine bE ?_;refine aE rfl ?_ ?_
   ·intro ee
    replace ee:=aS ee;refine bE ?_;refine zl CF (sB z N1 p hN1 c.ex hex (by dsimp only at w2;omega)) (.cons .here .nil) CI ?_;refine aF ?_
    first|refine Me (N1.time p (gL N1.k.now c.ex)) (by rw[if_pos (CH)])|refine Me N1 (by rw[if_neg (by rw[decide_eq_true_eq];omega)])
   intro ee;replace ee:=aS ee;refine av ?_
   first|refine Me (N1.time p (gL N1.k.now c.ex)) (by rw[if_pos (CH)])|refine Me N1 (by rw[if_neg (by rw[decide_eq_true_eq];omega)])
  rintro N2 hI;have hN2:N2.has p:=by rw[hI];split<;>exact hN1
  have hC2:N1.C=N2.C:=by rw[hI];split<;>rfl
  have hw2:N2.j6=N1.j6/\N2.tn<=N1.tn+1:=by
   rw[hI];split
   ·exact⟨rfl,BW _ _ _⟩
   exact⟨rfl,Nat.le_succ _⟩
  have hg:Mo.kh (decide (c.aH=3\/c.aH=4)) c.ex (l.map Prod.fst,N) k=(l.map Prod.fst++ [N2.it p],N2.lJ p):=by
   unfold Mo.kh;dsimp only;rw[hm,hI]
  rw[hC2]at hp⊢;refine aw ?_;refine hJ 8 mix (.cons (.there (.there (.there .here))) .nil) λF1 jf bZ aN=> ?_;obtain⟨q1,_⟩:=bZ;refine bm ?_;refine Tp (oC CF rfl rfl (Ai z N2 p hN2) (.cons .here .nil) CI ?_);rintro v H' ⟨vb,rfl,rfl⟩;refine aX ?_;refine Tp (oT1 aaF λb4=> ?_);refine Tp (bT aaF ahY rfl rfl rfl rfl (.there (.there (.there (.there .here)))) (NO l) (rfl) (by simp[zj,Value.oneCell',bD]) (by first|omega|(simp;omega)) (by first|omega|(simp;omega)) rfl λa4 c4 hc4=> ?_);refine av ?_;refine gd aN ?_;refine bA ?_;rw[<-Ii l (N2.it p) vb,show l.length+1=(l++ [(N2.it p,vb)]).length by simp];refine Hh (H':= [kx l,own (some ⟨vb,0,none⟩) (N2.it p).val.length 5 1 (ax (N2.it p).val),SW z N2,af b1 42 (fu c ka kc da dc mv),af b2 52 [CO CN 0,bF,CO CJ 0,bD [],bF],af b3 52 [CO CN 9, .slice a4 (l++ [(N2.it p,vb)]).length c4,CO CJ 0,bD [],bF],own a4 c4 56 9 (ky (l++ [(N2.it p,vb)]))]) ?_;refine au (λh=>NN (l:=l)) ?_;refine bz ?_;refine zl CF (xP z N2 p hN2) (.cons (.there .here) .nil) CI ?_;refine bG ?_;refine aF ?_;dsimp only at w1 w2;have hl1:(l++ [(N2.it p,vb)]).length<=i+1:=by rw[aaZ,afV];omega
  have hl3:(l++ [(N2.it p,vb)]).map Prod.fst=l.map Prod.fst++ [N2.it p]:=by rw[afy];rfl
  generalize l++ [(N2.it p,vb)]=l2 at*;refine Ro ((i+1,l2,N2.lJ p,a4,c4)) (⟨⟨cL,(by show N2.j6.length=i+1;rw[hw2.1];omega),(by show N2.tn<=_;omega),hl1⟩,(by dsimp only;rw[VK,hg,hl3])⟩) ((by dsimp only;omega))
 refine gK ?_;refine bA ?_;refine aw ?_;refine cO ?_;refine bR ?_;refine Lp (iF eo ?_ (h1:=by simp[cZ,Value.cells,Value.oneCell',bD,bF]));refine bA ?_;obtain rfl:i=c.keys.length:=by omega
 rw[ajE]at hf;refine FX [own ea ec 56 9 (ky l),kx l,SW z N] eo results81 ?_;exact⟨_,N,ea,ec,l,by unfold Mo.zi;rw[hf],rfl,rfl,rfl⟩
structure rh (M:Mo):Prop where
 k:Ok M.C
 nd:∀i,(ql M.Q i).Nodup
 lv:∀p,M.has p->Live M.C p
 on:M.m.on=true->M.m.pg<M.C.n/\(M.C.pg M.m.pg).own=true/\(M.C.pg M.m.pg).lv=true/\(M.C.pg M.m.pg).cl=M.m.fr
theorem bL.Kq{B:Bx}{M:Mo}(O:bL B M):rh M:=by
 refine⟨O.mc0,O.o.nd,λp hp=> ?_,λh=> ?_⟩
 ·have h:=(O.sN ((O.al p).2 hp)).wA M.C.A
  rw[O.c]at h;exact h
 have h:=O.on h;rw[O.c]at h;exact h
structure IE (M N:Mo)(own:Option Nat):Prop where
 it:N.it=M.it
 bh:N.v.bh=M.v.bh
 c:N.v.c=M.v.c
 p:N.v.p=M.v.p
 tn:N.tn=M.tn
 k:N.k=M.k
 w:N.j6=M.j6
 st:N.m.st=M.m.st
 ex:N.ord=M.ord
 sz:N.C.ae=M.C.ae
 own:∀p,own=some p->M.has p->N.has p/\N.C.hd p=M.C.hd p/\N.C.cl p=M.C.cl p
 has:∀q,N.has q->M.has q
theorem IE.refl (M:Mo)(own:Option Nat):IE M M own:=⟨rfl,rfl,rfl,rfl,rfl,rfl,rfl,rfl,rfl,rfl,λ_ _ h=>⟨h,rfl,rfl⟩,λ_ h=>h⟩
theorem IE.trans{M N O:Mo}{own:Option Nat}(a:IE M N own)(b:IE N O own):IE M O own:=
 ⟨b.it.trans a.it,b.bh.trans a.bh,b.c.trans a.c,b.p.trans a.p,b.tn.trans a.tn,b.k.trans a.k,b.w.trans a.w,b.st.trans a.st,b.ex.trans a.ex,b.sz.trans a.sz,λp e h=>by
  obtain⟨h1,h2,h3⟩:=a.own p e h;obtain⟨h4,h5,h6⟩:=b.own p e h1;exact⟨h4,h5.trans h2,h6.trans h3⟩,λq h=>a.has q (b.has q h)⟩
theorem Jj{Q:List (List Nat)}{p q:Nat}(nd:∀i,(ql Q i).Nodup):(∃i,q∈ql (iG Q p) i)↔(∃i,q∈ql Q i)/\q≠p:=by
 constructor
 ·rintro⟨i,h⟩
  rw[jq]at h;exact⟨⟨i,List.mem_of_mem_erase h⟩,λe=>by subst e;exact(List.Nodup.not_mem_erase (nd i)) h⟩
 rintro⟨⟨i,h⟩,ne⟩;exact⟨i,by rw[jq];exact(List.mem_erase_of_ne ne).2 h⟩
theorem rh.ca{M:Mo}(K:rh M){p:Nat}(hp:M.has p):rh (M.ca p)/\∀own,own≠some p->IE M (M.ca p) own:=by
 have L:=K.lv p hp;obtain⟨K2,S⟩:=gY K.k L;have sm:=jB K.k L;have hh:=λq=>Jj (Q:=M.Q) (p:=p) (q:=q) K.nd;refine⟨⟨K2,λi=> ?_,λq hq=> ?_,λh=> ?_⟩,λown ne=>⟨rfl,rfl,rfl,rfl,rfl,rfl,rfl,rfl,rfl,S.ae,λq e hq=> ?_,λq hq=>((hh q).1 hq).1⟩⟩
 ·show(ql (iG M.Q p) i).Nodup
  rw[jq];exact(K.nd i).erase p
 ·obtain⟨h1,h2⟩:=(hh q).1 hq
  exact(sm.lv q h2 (K.lv q h1)).1
 ·obtain⟨a,b,c,d⟩:=K.on h
  obtain⟨e1,e2,e3⟩:=oH K.k L M.m.pg;refine⟨a,e1.trans b,e2.trans c,e3.trans d⟩
 have h2:q≠p:=λg=>ne (by rw[e,g]);obtain⟨g1,g2,g3⟩:=sm.lv q h2 (K.lv q hq);exact⟨(hh q).2 ⟨hq,h2⟩,g2,g3⟩
theorem rh.take{M N:Mo}(K:rh M){c r:Nat}(hc:c<M.eR)(h:M.take c=some (r,N))(own:Option Nat):rh N/\IE M N own/\N.hole=some r/\N.C.cl r=c/\Live N.C r/\¬M.has r/\N={M with C:=N.C,hole:=some r}:=by
 unfold Mo.take at h;cases ht:M.C.eD c with
 |none=>rw[ht]at h;cases h
 |some x=>
  obtain⟨p,D⟩:=x;rw[ht]at h;simp only[Option.some.injEq,Prod.mk.injEq]at h;obtain⟨rfl,rfl⟩:=h;have X:=uP K.k hc ht;refine⟨⟨X.k,K.nd,λq hq=>(X.lv q).2 (.inl (K.lv q hq)),λg=> ?_⟩,⟨rfl,rfl,rfl,rfl,rfl,rfl,rfl,rfl,rfl,X.sz,λq _ hq=>⟨hq,(X.hd q (K.lv q hq)).1,(X.hd q (K.lv q hq)).2⟩,λ_ h=>h⟩,rfl,X.cl,(X.lv p).2 (.inr rfl),λg=>X.no (K.lv p g),rfl⟩;obtain⟨a,b,c,d⟩:=K.on g;obtain⟨e1,e2⟩:=X.pg _ b;refine⟨?_,e1,(X.lf _).trans c,e2.trans d⟩;show _<D.n;rw[X.n];exact a
theorem rh.mstop{M:Mo}(K:rh M)(jF:M.m.on=true)(own:Option Nat):rh M.mstop/\IE M M.mstop own:=by
 obtain⟨a,b,c,d⟩:=K.on jF;obtain⟨K2,S⟩:=xQ K.k a b c;have iD:=B0 K.k a;have sm:=tB S λj=>by
  rw[iD];by_cases e:j=M.m.pg
  ·exact⟨false,by rw[if_pos e,e]⟩
  exact⟨(M.C.pg j).lv,by rw[if_neg e]⟩
 exact⟨⟨K2,K.nd,λq hq=>(sm q).1.2 (K.lv q hq),λe=>by cases e⟩,⟨rfl,rfl,rfl,rfl,rfl,rfl,rfl,rfl,rfl,S.ae,λq _ hq=>⟨hq,(sm q).2⟩,λ_ h=>h⟩⟩
theorem rh.mt{M:Mo}(K:rh M)(t:Mt)(own:Option Nat):rh (M.aU t)/\IE M (M.aU t) own:=⟨⟨K.k,K.nd,K.lv,K.on⟩,⟨rfl,rfl,rfl,rfl,rfl,rfl,rfl,rfl,rfl,rfl,λ_ _ h=>⟨h,rfl,rfl⟩,λ_ h=>h⟩⟩
theorem rh.jO{M:Mo}(K:rh M)(c:Nat)(own:Option Nat):rh (M.cP c)/\IE M (M.cP c) own:=⟨⟨K.k,K.nd,K.lv,K.on⟩,⟨rfl,rfl,rfl,rfl,rfl,rfl,rfl,rfl,rfl,rfl,λ_ _ h=>⟨h,rfl,rfl⟩,λ_ h=>h⟩⟩
structure sx (M N:Mo)(n:Nat)(own o:Option Nat):Prop where
 k:rh N
 s:IE M N own
 no:o=none->N.hole=M.hole
 ok:∀r,o=some r->N.hole=some r/\n<=N.C.sz (N.C.cl r)/\Live N.C r/\¬N.has r
theorem Yi{M N:Mo}(K:rh M){n c p:Nat}(hc:c<M.eR)(hz:n<=M.C.sz c){own o:Option Nat}(hp:M.has p)(ne:own≠some p)(h:M.last c p=(o,N)):sx M N n own o:=by
 obtain⟨K1,S1⟩:=K.ca hp;have S1:=S1 own ne;have rB:c<(M.ca p).eR:=by show c<(M.ca p).C.ae.length;rw[S1.sz];exact hc
 unfold Mo.last at h;cases ht:(M.ca p).take c with
 |none=>
  rw[ht]at h;simp only[Prod.mk.injEq]at h;obtain⟨rfl,rfl⟩:=h;exact⟨K1,S1,λ_=>rfl,λr e=>by cases e⟩
 |some x=>
  obtain⟨r,D⟩:=x;rw[ht]at h;simp only[Prod.mk.injEq]at h;obtain⟨rfl,rfl⟩:=h;obtain⟨K2,S2,h1,h2,h3,h4,h5⟩:=K1.take rB ht own;refine⟨K2,S1.trans S2,(λe=>by cases e),λr' e=> ?_⟩;cases e;refine⟨h1, ?_,h3,λg=>h4 (S2.has _ g)⟩;rw[h2];unfold Cs.sz;rw[(S1.trans S2).sz];exact hz
theorem Xz{M:Mo}{c p:Nat}{own:Option Nat}(h:(M.pick c own).1=some p):M.has p/\own≠some p:=by
 obtain⟨h1,h2⟩:=qh h;exact⟨oy h1,λe=>h2 e.symm⟩
theorem EJ{M N:Mo}(K:rh M){n c:Nat}(hc:c<M.eR)(hz:n<=M.C.sz c){own o:Option Nat}(h:M.iy c own=(o,N)):sx M N n own o:=by
 unfold Mo.iy at h;obtain⟨K1,S1⟩:=K.mt {M.v.mt with lo:=cE (M.v.mt.lo+((M.pick c own).2.2:Int))} own;have ao:=λp=>Xz (M:=M) (c:=c) (p:=p) (own:=own);obtain⟨M1,hM1⟩:∃M1,M1=M.aU {M.v.mt with lo:=cE (M.v.mt.lo+((M.pick c own).2.2:Int))}:=⟨_,rfl⟩;have hq:M1.Q=M.Q:=by rw[hM1];rfl
 have hC:M1.C=M.C:=by rw[hM1];rfl
 have hh:M1.hole=M.hole:=by rw[hM1];rfl
 rw[<-hM1]at h K1 S1;have AV:c<M1.eR:=by unfold Mo.eR;rw[hC];exact hc
 have Kt:n<=M1.C.sz c:=by rw[hC];exact hz
 have go:∀{M2 N:Mo} {p:Nat} {o:Option Nat},rh M2->IE M M2 own->M2.Q=M.Q->M2.C=M.C->M2.hole=M.hole->M.has p->own≠some p->M2.last c p=(o,N)->sx M N n own o:=λK2 S2 hQ2 hC2 hh2 hp ne e=>by
  have R:=Yi K2 (n:=n) (by unfold Mo.eR;rw[hC2];exact hc) (by rw[hC2];exact hz) (own:=own) (by unfold Mo.has;rw[hQ2];exact hp) ne e;exact⟨R.k,S2.trans R.s,λg=>(R.no g).trans hh2,R.ok⟩
 rcases hp:(M.pick c own).1 with _|p<;>rcases hd:(M.pick c own).2.1 with _|_<;>rw[hp,hd]at h<;>unfold Mo.DH at h
 ·simp only[Prod.mk.injEq]at h
  obtain⟨rfl,rfl⟩:=h;obtain⟨K2,S2⟩:=K1.jO c own;exact⟨K2,S1.trans S2,λ_=>hh,λr e=>by cases e⟩
 ·simp only[Prod.mk.injEq]at h
  obtain⟨rfl,rfl⟩:=h;exact⟨K1,S1,λ_=>hh,λr e=>by cases e⟩
 ·obtain⟨K2,S2⟩:=K1.jO c own
  obtain⟨K3,S3⟩:=K2.mt {(M1.cP c).v.mt with dr:=cE ((M1.cP c).v.mt.dr+1)} own;exact go K3 ((S1.trans S2).trans S3) hq hC hh (ao p hp).1 (ao p hp).2 h
 obtain⟨K3,S3⟩:=K1.mt {M1.v.mt with re:=cE (M1.v.mt.re+1)} own;exact go K3 (S1.trans S3) hq hC hh (ao p hp).1 (ao p hp).2 h
theorem I7{M N:Mo}(K:rh M){n c r:Nat}(hc:c<M.eR)(hz:n<=M.C.sz c){own:Option Nat}(h:M.take c=some (r,N)):sx M N n own (some r):=by
 obtain⟨K2,S2,h1,h2,h3,h4,h5⟩:=K.take hc h own;refine⟨K2,S2,(λe=>by cases e),λr' e=> ?_⟩;cases e;refine⟨h1, ?_,h3,λg=>h4 (S2.has _ g)⟩;rw[h2];unfold Cs.sz;rw[S2.sz];exact hz
theorem wH{M N:Mo}(K:rh M){n:Nat}{own o:Option Nat}(h:M.room n own=(o,N)):sx M N n own o:=by
 unfold Mo.room at h;cases hf:M.C.ae.findIdx? (λz=>decide (n<=z))with
 |none=>
  rw[hf]at h;simp only[Prod.mk.injEq]at h;obtain⟨rfl,rfl⟩:=h;exact⟨K, .refl _ _,λ_=>rfl,λr e=>by cases e⟩
 |some c=>
  rw[hf]at h;dsimp only at h;obtain⟨hc,hz,_⟩:=List.findIdx?_eq_some_iff_getElem.1 hf;have Ks:n<=M.C.sz c:=by
   unfold Cs.sz;rw[aaP,aaQ hc]
   simpa using hz
  unfold Mo.pI at h;cases ht:M.take c with
  |some x=>
   obtain⟨r,D⟩:=x;rw[ht]at h;simp only[Prod.mk.injEq]at h;obtain⟨rfl,rfl⟩:=h;exact I7 K hc Ks ht
  |none=>
   rw[ht]at h;dsimp only at h
   split at h
   ·next g=>
    obtain⟨K1,S1⟩:=K.mstop g.1 own;have AV:c<M.mstop.eR:=by show c<M.mstop.C.ae.length;rw[S1.sz];exact hc
    have Kt:n<=M.mstop.C.sz c:=by unfold Cs.sz;rw[S1.sz];exact Ks
    have fin:∀o,sx M.mstop N n own o->sx M N n own o:=λo R=>⟨R.k,S1.trans R.s,R.no,R.ok⟩;cases qq:M.mstop.take c with
    |some x=>
     obtain⟨r,D⟩:=x;rw[qq]at h;simp only[Prod.mk.injEq]at h;obtain⟨rfl,rfl⟩:=h;exact fin _ (I7 K1 AV Kt qq)
    |none=>
     rw[qq]at h;exact fin _ (EJ K1 AV Kt h)
   exact EJ K hc Ks h
theorem QG (M:Mo)(c p:Nat)(a:Option Addr)(w:Nat):(M.aQ a w).last c p=((M.last c p).1,(M.last c p).2.aQ a w):=by
 unfold Mo.last;rw[show(M.aQ a w).ca p=(M.ca p).aQ a w from rfl,Bl];cases (M.ca p).take c<;>rfl
theorem J5 (M:Mo)(c:Nat)(own:Option Nat)(a:Option Addr)(w:Nat):(M.aQ a w).iy c own=((M.iy c own).1,(M.iy c own).2.aQ a w):=by
 unfold Mo.iy;rw[show(M.aQ a w).pick c own=M.pick c own from rfl];rcases(M.pick c own).1 with _|p<;>rcases(M.pick c own).2.1 with _|_<;>unfold Mo.DH
 ·rfl
 ·rfl
 ·exact QG (((M.aU {M.v.mt with lo:=cE (M.v.mt.lo+((M.pick c own).2.2:Int))}).cP c).aU _) c p a w
 exact QG ((M.aU {M.v.mt with lo:=cE (M.v.mt.lo+((M.pick c own).2.2:Int))}).aU _) c p a w
theorem acN (M:Mo)(n:Nat)(own:Option Nat)(a:Option Addr)(w:Nat):(M.aQ a w).room n own=((M.room n own).1,(M.room n own).2.aQ a w):=by
 unfold Mo.room;rw[show(M.aQ a w).C=M.C from rfl];cases M.C.ae.findIdx? (λz=>decide (n<=z))with
 |none=>rfl
 |some c=>
  dsimp only;unfold Mo.pI;rw[Bl];cases M.take c with
  |some x=>rfl
  |none=>
   dsimp only[Option.map];rw[show(M.aQ a w).m=M.m from rfl]
   split
   ·rw[show(M.aQ a w).mstop=M.mstop.aQ a w from rfl,Bl]
    cases M.mstop.take c with
    |some x=>rfl
    |none=>exact J5 _ _ _ _ _
   exact J5 _ _ _ _ _
theorem vK (z:Ly)(M:Mo)(hh:M.hole=none)(gB:M.m.st<4611686018427387904)(kn vn:Nat)(hk:1<=kn/\kn<=250)(hv:vn<=1048576)(own:Option Nat)(jg:∀p,own=some p->M.has p):
  aO aaO 128 [CM z.s,CO CN kn,CO CN vn,CO CJ (q9 M.C own)] (λ_=>True) [SW z M]
   (λw H=>w=CO CJ (q9 (M.room (58+kn+vn) own).2.C (M.room (58+kn+vn) own).1)/\H= [SW z (M.room (58+kn+vn) own).2]):=
 wE λa c=>(LA z (M.aQ a c) hh gB kn vn hk hv own jg).out (by
  rintro v H' ⟨o,N,hr,rfl,rfl⟩;rw[acN]at hr;simp only[Prod.mk.injEq]at hr;obtain⟨rfl,rfl⟩:=hr;exact⟨_,⟨rfl,rfl⟩,λk s=>gV a c k s⟩)
theorem DS (z:Ly)(M:Mo)(r:Nat)(hr:M.hole=some r)(old:Option Nat)(k v:List UInt8)(VC Vw:Nat)(uj:VC=k.length)(hvl:Vw=v.length)(hold:∀p,old=some p->M.has p/\(M.it p).key=k)(abl:old=none->M.find k=none)(ka va:Option Addr)(kc vc fl ex mk:Nat)(VI:eF k=true)
  (uA:58+k.length+v.length<=M.C.sz (M.C.cl r)) (qZ:fl<4294967296) (hex:ex<9223372036854775808) (uq:mk<16) (uz:M.v.bh+1<18446744073709551616) (vq:M.tn<18446744073709551615):
  aO aaO 129 [CM z.s,CO CJ (M.C.hd r),CO CJ (q9 M.C old), .agg (C5 (.slice ka VC kc) (.slice va Vw vc) fl ex 0 0 0 mk).toArray] (λh=>gg h ka (ax k)/\gg h va (ax v)) [SW z M]
   (λw H=>w= .tuple #[]/\H= [SW z (M.gk r old ⟨k,v,fl,ex,M.k.now,M.v.bh+1,mk⟩)]):=
 wE λa c=>(Xa z (M.aQ a c) r hr old k v VC Vw uj hvl hold abl ka va kc vc fl ex mk VI uA qZ hex uq uz vq).out (by
  rintro w H' ⟨rfl,rfl⟩;refine⟨_,⟨rfl,rfl⟩,λk' s=>gV a c k' ?_⟩;rw[show(M.aQ a c).gk r old ⟨k,v,fl,ex,(M.aQ a c).k.now,(M.aQ a c).v.bh+1,mk⟩=(M.gk r old ⟨k,v,fl,ex,M.k.now,M.v.bh+1,mk⟩).aQ a c by cases old<;>rfl]at s;exact s)
def dS:List UInt8:= [111,98,106,101,99,116,32,116,111,111,32,108,97,114,103,101,32,102,111,114,32,99,97,99,104,101]
def js:List UInt8:= [111,117,116,32,111,102,32,109,101,109,111,114,121,32,115,116,111,114,105,110,103,32,111,98,106,101,99,116]
def FK (aH:Int):Bool:=decide (aH≠8/\aH≠9)
def Mo.sV (M:Mo)(c:fe)(k:List UInt8)(old:Option Nat):Option (List UInt8×Nat×Nat):=
 if FK c.aH=true then some (c.data,c.fl,gL M.k.now c.ex)else match old with
 |none=>none
 |some p=>if M.v.c.lim<58+k.length+c.data.length+(M.it p).val.length then none else some (if c.aH=8 then(M.it p).val++c.data else c.data++(M.it p).val,(M.it p).fl,(M.it p).exp)
def Mo.lays (M:Mo)(k:List UInt8)(old:Option Nat)(ov:Bool)(x:List UInt8×Nat×Nat):iA×Mo:=match M.room (58+k.length+x.1.length) old with
 |(none,R)=>(.t js,R.over old ov)
 |(some r,R)=>(.k 1,R.gk r old ⟨k,x.1,x.2.1,x.2.2,R.k.now,R.v.bh+1,0⟩)
def Mo.jo (M:Mo)(c:fe)(k:List UInt8)(old:Option Nat):iA×Mo:=
 if c.lg=true\/M.v.c.lim<58+k.length+c.data.length then(.t dS,M.over old (FK c.aH))
 else if bb c.aH c.tok old (λp=>(M.it p).tok)≠0 then(.k (bb c.aH c.tok old (λp=>(M.it p).tok)),M)
 else match M.sV c k old with
  |none=>(.t dS,M)
  |some x=>M.lays k old (FK c.aH) x
def Mo.dJ (M:Mo)(c:fe)(k:List UInt8):iA×Mo:=(M.meet k).2.jo c k (M.meet k).1
theorem bL.kdM{B:Bx}{M:Mo}(O:bL B M){p q:Nat}(hp:M.has p)(hq:M.has q)(e:(M.it p).key=(M.it q).key):p=q:=by
 have h1:=(O.al p).2 hp;have h2:=(O.al q).2 hq;refine O.t.kd p h1 q h2 ?_;rw[(O.jh h1).2.2.2.2.1,(O.jh h2).2.2.2.2.1];exact e
theorem J1{M:Mo}{k:List UInt8}(h:∀p,M.has p->(M.it p).key≠k):M.find k=none:=by
 unfold Mo.find;rw[agj];intro p hp e;exact h p (gw.1 hp) (by simpa using e)
theorem XR{M:Mo}{k:List UInt8}(h:M.find k=none){p:Nat}(hp:M.has p):(M.it p).key≠k:=λe=>by
 unfold Mo.find at h;rw[agj]at h;exact h p (gw.2 hp) (decide_eq_true e)
theorem ah1{M N:Mo}(nd:∀i,(ql M.Q i).Nodup)(kd:∀p q,M.has p->M.has q->(M.it p).key=(M.it q).key->p=q){k:List UInt8}{old:Option Nat}(h:M.meet k=(old,N)):q9 M.C old=q9 N.C old/\(∀p,old=some p->N.has p/\(N.it p).key=k)/\(old=none->N.find k=none):=by
 cases old with
 |some p=>
  obtain⟨h1,h2,h3⟩:=nH h;subst h3;exact⟨rfl,λq e=>by cases e;exact⟨h1,h2⟩,λe=>by cases e⟩
 |none=>
  refine⟨rfl,λq e=>(by cases e),λ_=> ?_⟩;unfold Mo.meet at h;cases hf:M.find k with
  |none=>
   rw[hf]at h;simp only[Prod.mk.injEq,true_and]at h;subst h;exact hf
  |some p=>
   rw[hf]at h;dsimp only at h;obtain⟨hp,hk⟩:=nL hf
   split at h
   ·simp only[Prod.mk.injEq,true_and]at h
    subst h;refine J1 λq hq e=> ?_;obtain⟨h1,h2⟩:=(Jj nd).1 hq;exact h2 (kd _ _ h1 hp (e.trans hk.symm))
   simp at h
theorem bL.agB{B:Bx}{M:Mo}(O:bL B M){p:Nat}(hp:M.has p):(M.it p).val.length<=1048576/\(M.it p).fl<4294967296/\(M.it p).exp<9223372036854775808/\(M.it p).key.length<=250:=by
 have h1:=(O.al p).2 hp;obtain⟨f1,f2,f3,f4,f5,f6,f7⟩:=O.jh h1;have I:=O.t.it p h1;have h2:=((O.nm h1).bn O.k).2.2.1;have h3:=O.k.toFix.p1;have h4:=I.fits;have h5:(M.it p).val.length=vl B.C.A p:=by rw[<-f6];exact cD _ _ _
 have h6:OG B.C.A p<256^4:=ko _ _ _;have h7:uv B.C.A p<9223372036854775808:=I.exp;have h8:=(fL (O.lg p h1)).2;refine⟨by omega,by rw[<-f7];exact h6,by rw[<-f1];exact h7,h8⟩
theorem inSW{z:Ly}{M:Mo}{h:Hp}(i:In (SW z M) h):In (kO z.y.ck M.k) h:=by
 obtain⟨k,⟨w,B,O,s⟩,l⟩:=i;have:=(cq (H:=dM z B (M.aQ w.1 w.2)) s l).nth 9 rfl;exact this
theorem kS (z:Ly)(M:Mo):aO aaO 38 [CM z.y.ck] (In (SW z M)) [] (λv H=>v=CO CN M.k.now/\H= []):=
 λF w hp s=>kH z.y.ck M.k F w (inSW hp) s
theorem Lj (z:Ly)(M:Mo)(c:fe)(ka:Option Addr)(kc:Nat)(da:Option Addr)(dc:Nat)(mv:Value)(mH:mv.oneCell'=true)(k:List UInt8)(r:List (List UInt8))(sS:c.keys=k::r)(hk:eF k=true)(hw:M.j6.length<1073741824)(hex:c.ex<9223372036854775808)(qZ:c.fl<4294967296)(hda:c.data.length<281474976710656)
  (hh:M.hole=none) (gB:M.m.st<4611686018427387904) (KI:M.v.c.lim<=1048576) (uz:M.v.bh+1<18446744073709551616) (vq:M.tn<18446744073709551615):
  We aaO 87 [CM z.s, .agg (fu c ka kc da dc mv).toArray] (λh=>gg h ka (iK c.keys)/\gg h da (ax c.data)) [SW z M]
   (λv H=>∃a N,M.dJ c k=(a,N)/\v=uC a/\H= [SW z N]) (λv H=>∃a N,M.dJ c k=(a,N)/\v=rJ (uC a)/\H= [SW z N]):=by
 obtain⟨VJ,IP⟩:=fL hk;refine ml func87 rfl ntmps87 rfl ?_;rintro F ⟨hr,hd⟩;have w7:(iK c.keys)[0]?=some (bD k):=by rw[sS];rfl
 have Zd:ka.isSome=true:=by obtain⟨ad,e,_⟩:=hr 0 _ w7;rw[e];rfl
 have FA:0<c.keys.length:=by rw[sS];exact akC _
 refine av ?_;refine Lp (oB λb1=> ?_);refine Lp (oA oX λb2=> ?_);refine av ?_;refine Hh (H':= [SW z M,af b1 42 (fu c ka kc da dc mv),af b2 52 [CO CN 0,bF,CO CJ 0,bD [],bF]]) ?_;refine o4 λwa wc B O=> ?_;refine bz ?_;refine Li (Ix (j:=0) zM) ?_;refine bG ?_;refine zl CF (xS z M k (by omega) hw) (.cons .here .nil) CI ?_;rcases hm:M.meet k with⟨old,N⟩
 have VG:M.dJ c k=N.jo c k old:=by unfold Mo.dJ;rw[hm]
 obtain⟨e1,e2,e3⟩:=ah1 (M:=M) O.o.nd (λp q=>O.kdM) hm;change q9 M.C old=q9 N.C old at e1;change∀p,old=some p->N.has p/\(N.it p).key=k at e2;change old=none->N.find k=none at e3;have hNv:N.v.c=M.v.c/\N.v.bh=M.v.bh/\N.tn=M.tn/\N.hole=M.hole/\N.m.st=M.m.st:=by
  unfold Mo.meet at hm;rcases hf:M.find k with _|p<;>rw[hf]at hm
  ·simp only[Prod.mk.injEq]at hm;obtain⟨_,rfl⟩:=hm;exact⟨rfl,rfl,rfl,rfl,rfl⟩
  dsimp only at hm
  split at hm<;>(simp only[Prod.mk.injEq]at hm;obtain⟨_,rfl⟩:=hm;exact⟨rfl,rfl,rfl,rfl,rfl⟩)
 obtain⟨n1,n2,n3,n4,n5⟩:=hNv;dsimp only;rw[e1];have hold:∀p,old=some p->N.has p:=λp e=>(e2 p e).1;refine o4 λwa2 wc2 B2 O2=> ?_;refine bA ?_;refine aw ?_;refine dt (ι:=Bool) [20,21,22,23,24,25,26,27,7] (λov=>ov=FK c.aH) (λov=> [(7, .bool ov)]) (λov=> [SW z N,af b1 42 (fu c ka kc da dc mv),af b2 52 [CO CN 0,bF,CO CJ 0,bD [],bF]]) ?_ ?_
 ·refine fi ?_
  refine bm ?_;refine br (t:=23) rfl ?_ ?_
  ·intro dQ
   replace dQ:=aS dQ;refine bE ?_;refine aF ?_;refine Me (FK c.aH) (rfl) (hs:=⟨(by refine congrArg (λq=>some (Value.bool q)) ?_;unfold FK;rw[afx];simp only[aa9,decide_eq_false_iff_not,decide_eq_true_eq,afo,true_iff,false_iff,iff_true,iff_false];try omega),trivial⟩)
  intro dQ;replace dQ:=aS dQ;refine bE ?_;refine aF ?_;refine Me (FK c.aH) (rfl) (hs:=⟨(by refine congrArg (λq=>some (Value.bool q)) ?_;unfold FK;rw[afx];simp only[aa9,decide_eq_false_iff_not,decide_eq_true_eq,afo,true_iff,false_iff,iff_true,iff_false];try omega),trivial⟩)
 rintro ov hI;subst hI;generalize hov:FK c.aH=ov at*;have yP:N.jo c k old=if c.lg=true\/N.v.c.lim<58+k.length+c.data.length then(.t dS,N.over old ov)else if bb c.aH c.tok old (λp=>(N.it p).tok)≠0 then(.k (bb c.aH c.tok old (λp=>(N.it p).tok)),N)else match N.sV c k old with|none=>(.t dS,N)|some x=>N.lays k old ov x:=by unfold Mo.jo;rw[hov]
 have hs4:(c.lg=true\/N.v.c.lim<58+k.length+c.data.length)->M.dJ c k=(.t dS,N.over old ov):=λh=>by rw[VG,yP,if_pos h]
 refine bA ?_;refine Li (Ls wv) ?_;refine bR ?_;refine aw ?_;refine dt (ι:=Unit) [35,36,37,38,39,40,41,42,43,44,45,46,47,48,49] (λu=>¬(c.lg=true\/N.v.c.lim<58+k.length+c.data.length)) (λu=> []) (λu=> [SW z N,af b1 42 (fu c ka kc da dc mv),af b2 52 [CO CN 0,bF,CO CJ 0,bD [],bF]]) ?_ ?_
 ·refine gK ?_
  refine bz ?_;refine br (t:=37) rfl ?_ ?_
  ·intro dQ
   replace dQ:=aS dQ;refine fq ?_;refine Lp (Ov CF rfl rfl (ng z N old hold ov dS) (.cons .here .nil) CI (by rintro v H' ⟨rfl,rfl⟩;exact pP [SW z (N.over old ov)] ⟨.t dS,_,hs4 (by first|exact .inl (by assumption)|exact .inr (by omega)),rfl,rfl⟩) ?_);rintro v H' hF;exact hF.elim
  intro dQ;replace dQ:=aS dQ;refine cA ?_;refine aE rfl ?_ ?_
  ·intro ee
   replace ee:=aS ee;refine bm ?_;refine Lp (Ov CF rfl rfl (ng z N old hold ov dS) (.cons .here .nil) CI (by rintro v H' ⟨rfl,rfl⟩;exact pP [SW z (N.over old ov)] ⟨.t dS,_,hs4 (by first|exact .inl (by assumption)|exact .inr (by omega)),rfl,rfl⟩) ?_);rintro v H' hF;exact hF.elim
  intro ee;replace ee:=aS ee;refine av ?_;refine Me (()) ((by rintro(h|h)<;>first|omega|(simp_all;done)))
 rintro u hI;rw[if_neg hI]at yP;have hle:(58+k.length+c.data.length:Int)<=N.v.c.lim:=by omega
 have hd20:58+k.length+c.data.length<=1048576:=by rw[n1]at hle;omega
 refine bm ?_;refine Lp (Ov CF rfl rfl (Y1 z N c ka kc da dc mv mH old hold) (.cons .here .nil) CI (by rintro v H' ⟨n,hn,hn0,rfl,rfl⟩;exact pP [SW z N] ⟨.k n,N,by rw[VG,yP,if_pos (by rw[hn];exact hn0),hn],rfl,rfl⟩) ?_);rintro v H' ⟨hn,rfl,rfl⟩;refine aX ?_;rw[if_neg (by rw[hn];decide)]at yP;have FB:N.k.now<=1099511627776/\1<=N.k.now:=⟨O2.ck.n2,O2.ck.n1⟩;have zG:=AJ N.k.now c.ex FB.2 FB.1;rw[EH]at zG;refine av ?_;refine aw ?_;refine dt (ι:=Nat×Nat×Option Addr×Nat×Nat) [54,55,56,57,58,59,60,61,62,63,64,65,66,67,68,69,70,9] (λs=>True) (λs=> [(9,CM s.2.2.2.2)]) (λs=> [SW z N,af b1 42 (fu c ka kc da dc mv),af b2 52 [CO CN 0,bF,CO CJ 0,bD [],bF],own (some ⟨s.1,0,none⟩) s.2.1 5 1 (ax k),own s.2.2.1 s.2.2.2.1 5 1 (ax c.data),af s.2.2.2.2 159 (C5 (.slice (some ⟨s.1,0,none⟩) k.length s.2.1) (.slice s.2.2.1 c.data.length s.2.2.2.1) c.fl (gL N.k.now c.ex) 0 0 0 0)]) ?_ ?_
 ·refine zT mix (.cons .here (.cons .here .nil)) λF1 jf bZ aN=> ?_
  obtain⟨q1,q2,_⟩:=bZ;refine Dt 0 rfl Mv ?_;refine Dt 2 rfl (Fa EC) ?_
  first
   |refine Dt 3 rfl (Lf Dr) ?_
   |refine Dt 3 rfl (AZ Dr q1) ?_
  refine Dt 5 rfl (Fa EE) ?_
  first
   |refine Dt 6 rfl (Lf rG) ?_
   |refine Dt 6 rfl (AZ rG q1) ?_
  refine Dt 7 rfl Mv ?_;refine Dt 8 rfl Nc ?_;refine Dt 9 rfl (Fa nK) ?_;refine Dt 10 rfl (Fa EB) ?_
  first
   |refine Dt 11 rfl (Lf s8) ?_
   |refine Dt 11 rfl (AZ s8 q1) ?_
  refine Dt 13 rfl (Fa ED) ?_
  first
   |refine Dt 14 rfl (Lf bC) ?_
   |refine Dt 14 rfl (AZ bC q1) ?_
  refine D3 1 4 17 ?_ ?_ ?_
  ·refine Do rfl (CP wv mG sQ λkb ns sO=> ?_)
   refine av ?_;refine D2 4 17 ?_ ?_
   ·refine dw 5 1 ?_
    refine Do rfl (fK kA s9 rfl rfl rfl rfl .here (rfl) (eH (m:=c.data.length) (by simp) (λh le _=>hd.mono (jf.trans le))) (by first|exact eO|(simp[Value.oneCell',bD])) (by first|omega|(simp;omega)) (by first|omega|(simp;omega)) rfl λva vc hvc=> ?_);refine av ?_;refine D2 12 17 ?_ ?_
    ·refine Do rfl (oC CF rfl rfl (kS z N) .nil (λ_ le _=>In.mono q1 le) ?_)
     rintro v H' ⟨rfl,rfl⟩;refine aX ?_;refine av ?_;refine D2 15 17 ?_ ?_
     ·refine Do rfl (oC CF rfl rfl (zG) .nil CI ?_)
      rintro v H' ⟨rfl,rfl⟩;refine aX ?_;refine av ?_;refine Dt 16 rfl (Bd cb fx) ?_;refine Dn 17 ?_;refine Do rfl (oA cb λb3=> ?_);refine av ?_;refine Dn 18 ?_;refine Do rfl (iF dR ?_);refine av ?_;refine aV (by kernel_rfl) aN ?_;simp only[abd];refine Me ((kb,ns,va,vc,b3)) (trivial)
     refine Do rfl (oA cb λb4=> ?_);refine av ?_;refine Dn 15 ?_;refine Do rfl (oC CF rfl rfl (zG) .nil CI ?_);rintro v H' ⟨rfl,rfl⟩;refine aX ?_;refine av ?_;refine Dt 16 rfl (Bd cb fx) ?_;refine Dn 18 ?_;refine Do rfl (iF dR ?_);refine av ?_;refine aV (by kernel_rfl) aN ?_;simp only[abd];refine Me ((kb,ns,va,vc,b4)) (trivial)
    refine Do rfl (oA cb λb5=> ?_);refine av ?_;refine Dn 12 ?_;refine Do rfl (oC CF rfl rfl (kS z N) .nil (λ_ le _=>In.mono q1 le) ?_);rintro v H' ⟨rfl,rfl⟩;refine aX ?_;refine av ?_;refine Dn 15 ?_;refine Do rfl (oC CF rfl rfl (zG) .nil CI ?_);rintro v H' ⟨rfl,rfl⟩;refine aX ?_;refine av ?_;refine Dt 16 rfl (Bd cb fx) ?_;refine Dn 18 ?_;refine Do rfl (iF dR ?_);refine av ?_;refine aV (by kernel_rfl) aN ?_;simp only[abd];refine Me ((kb,ns,va,vc,b5)) (trivial)
   refine Do rfl (oA cb λb6=> ?_);refine av ?_;refine dw 5 1 ?_;refine Dn 4 ?_;refine Do rfl (fK kA s9 rfl rfl rfl rfl .here (rfl) (eH (m:=c.data.length) (by simp) (λh le _=>hd.mono (jf.trans le))) (by first|exact eO|(simp[Value.oneCell',bD])) (by first|omega|(simp;omega)) (by first|omega|(simp;omega)) rfl λva vc hvc=> ?_);refine av ?_;refine Dn 12 ?_;refine Do rfl (oC CF rfl rfl (kS z N) .nil (λ_ le _=>In.mono q1 le) ?_);rintro v H' ⟨rfl,rfl⟩;refine aX ?_;refine av ?_;refine Dn 15 ?_;refine Do rfl (oC CF rfl rfl (zG) .nil CI ?_);rintro v H' ⟨rfl,rfl⟩;refine aX ?_;refine av ?_;refine Dt 16 rfl (Bd cb fx) ?_;refine Dn 18 ?_;refine Do rfl (iF dR ?_);refine av ?_;refine aV (by kernel_rfl) aN ?_;simp only[abd];refine Me ((kb,ns,va,vc,b6)) (trivial)
  ·refine dw 5 1 ?_
   refine Do rfl (fK kA s9 rfl rfl rfl rfl .here (rfl) (eH (m:=c.data.length) (by simp) (λh le _=>hd.mono (jf.trans le))) (by first|exact eO|(simp[Value.oneCell',bD])) (by first|omega|(simp;omega)) (by first|omega|(simp;omega)) rfl λva vc hvc=> ?_);refine av ?_;refine D3 1 12 17 ?_ ?_ ?_
   ·refine Do rfl (CP wv mG sQ λkb ns sO=> ?_)
    refine av ?_;refine D2 12 17 ?_ ?_
    ·refine Do rfl (oC CF rfl rfl (kS z N) .nil (λ_ le _=>In.mono q1 le) ?_)
     rintro v H' ⟨rfl,rfl⟩;refine aX ?_;refine av ?_;refine D2 15 17 ?_ ?_
     ·refine Do rfl (oC CF rfl rfl (zG) .nil CI ?_)
      rintro v H' ⟨rfl,rfl⟩;refine aX ?_;refine av ?_;refine Dt 16 rfl (Bd cb fx) ?_;refine Dn 17 ?_;refine Do rfl (oA cb λb7=> ?_);refine av ?_;refine Dn 18 ?_;refine Do rfl (iF dR ?_);refine av ?_;refine aV (by kernel_rfl) aN ?_;simp only[abd];refine Me ((kb,ns,va,vc,b7)) (trivial)
     refine Do rfl (oA cb λb8=> ?_);refine av ?_;refine Dn 15 ?_;refine Do rfl (oC CF rfl rfl (zG) .nil CI ?_);rintro v H' ⟨rfl,rfl⟩;refine aX ?_;refine av ?_;refine Dt 16 rfl (Bd cb fx) ?_;refine Dn 18 ?_;refine Do rfl (iF dR ?_);refine av ?_;refine aV (by kernel_rfl) aN ?_;simp only[abd];refine Me ((kb,ns,va,vc,b8)) (trivial)
    refine Do rfl (oA cb λb9=> ?_);refine av ?_;refine Dn 12 ?_;refine Do rfl (oC CF rfl rfl (kS z N) .nil (λ_ le _=>In.mono q1 le) ?_);rintro v H' ⟨rfl,rfl⟩;refine aX ?_;refine av ?_;refine Dn 15 ?_;refine Do rfl (oC CF rfl rfl (zG) .nil CI ?_);rintro v H' ⟨rfl,rfl⟩;refine aX ?_;refine av ?_;refine Dt 16 rfl (Bd cb fx) ?_;refine Dn 18 ?_;refine Do rfl (iF dR ?_);refine av ?_;refine aV (by kernel_rfl) aN ?_;simp only[abd];refine Me ((kb,ns,va,vc,b9)) (trivial)
   ·refine Do rfl (oC CF rfl rfl (kS z N) .nil (λ_ le _=>In.mono q1 le) ?_)
    rintro v H' ⟨rfl,rfl⟩;refine aX ?_;refine av ?_;refine D3 1 15 17 ?_ ?_ ?_
    ·refine Do rfl (CP wv mG sQ λkb ns sO=> ?_)
     refine av ?_;refine D2 15 17 ?_ ?_
     ·refine Do rfl (oC CF rfl rfl (zG) .nil CI ?_)
      rintro v H' ⟨rfl,rfl⟩;refine aX ?_;refine av ?_;refine Dt 16 rfl (Bd cb fx) ?_;refine Dn 17 ?_;refine Do rfl (oA cb λOJ=> ?_);refine av ?_;refine Dn 18 ?_;refine Do rfl (iF dR ?_);refine av ?_;refine aV (by kernel_rfl) aN ?_;simp only[abd];refine Me ((kb,ns,va,vc,OJ)) (trivial)
     refine Do rfl (oA cb λZq=> ?_);refine av ?_;refine Dn 15 ?_;refine Do rfl (oC CF rfl rfl (zG) .nil CI ?_);rintro v H' ⟨rfl,rfl⟩;refine aX ?_;refine av ?_;refine Dt 16 rfl (Bd cb fx) ?_;refine Dn 18 ?_;refine Do rfl (iF dR ?_);refine av ?_;refine aV (by kernel_rfl) aN ?_;simp only[abd];refine Me ((kb,ns,va,vc,Zq)) (trivial)
    ·refine Do rfl (oC CF rfl rfl (zG) .nil CI ?_)
     rintro v H' ⟨rfl,rfl⟩;refine aX ?_;refine av ?_;refine D2 1 17 ?_ ?_
     ·refine Do rfl (CP wv mG sQ λkb ns sO=> ?_)
      refine av ?_;refine Dt 16 rfl (Bd cb fx) ?_;refine Dn 17 ?_;refine Do rfl (oA cb λZp=> ?_);refine av ?_;refine Dn 18 ?_;refine Do rfl (iF dR ?_);refine av ?_;refine aV (by kernel_rfl) aN ?_;simp only[abd];refine Me ((kb,ns,va,vc,Zp)) (trivial)
     refine Do rfl (oA cb λZo=> ?_);refine av ?_;refine Dn 1 ?_;refine Do rfl (CP wv mG sQ λkb ns sO=> ?_);refine av ?_;refine Dt 16 rfl (Bd cb fx) ?_;refine Dn 18 ?_;refine Do rfl (iF dR ?_);refine av ?_;refine aV (by kernel_rfl) aN ?_;simp only[abd];refine Me ((kb,ns,va,vc,Zo)) (trivial)
    refine Do rfl (oA cb λWa=> ?_);refine av ?_;refine D2 1 15 ?_ ?_
    ·refine Do rfl (CP wv mG sQ λkb ns sO=> ?_)
     refine av ?_;refine Dn 15 ?_;refine Do rfl (oC CF rfl rfl (zG) .nil CI ?_);rintro v H' ⟨rfl,rfl⟩;refine aX ?_;refine av ?_;refine Dt 16 rfl (Bd cb fx) ?_;refine Dn 18 ?_;refine Do rfl (iF dR ?_);refine av ?_;refine aV (by kernel_rfl) aN ?_;simp only[abd];refine Me ((kb,ns,va,vc,Wa)) (trivial)
    refine Do rfl (oC CF rfl rfl (zG) .nil CI ?_);rintro v H' ⟨rfl,rfl⟩;refine aX ?_;refine av ?_;refine Dn 1 ?_;refine Do rfl (CP wv mG sQ λkb ns sO=> ?_);refine av ?_;refine Dt 16 rfl (Bd cb fx) ?_;refine Dn 18 ?_;refine Do rfl (iF dR ?_);refine av ?_;refine aV (by kernel_rfl) aN ?_;simp only[abd];refine Me ((kb,ns,va,vc,Wa)) (trivial)
   refine Do rfl (oA cb λb15=> ?_);refine av ?_;refine D2 1 12 ?_ ?_
   ·refine Do rfl (CP wv mG sQ λkb ns sO=> ?_)
    refine av ?_;refine Dn 12 ?_;refine Do rfl (oC CF rfl rfl (kS z N) .nil (λ_ le _=>In.mono q1 le) ?_);rintro v H' ⟨rfl,rfl⟩;refine aX ?_;refine av ?_;refine Dn 15 ?_;refine Do rfl (oC CF rfl rfl (zG) .nil CI ?_);rintro v H' ⟨rfl,rfl⟩;refine aX ?_;refine av ?_;refine Dt 16 rfl (Bd cb fx) ?_;refine Dn 18 ?_;refine Do rfl (iF dR ?_);refine av ?_;refine aV (by kernel_rfl) aN ?_;simp only[abd];refine Me ((kb,ns,va,vc,b15)) (trivial)
   refine Do rfl (oC CF rfl rfl (kS z N) .nil (λ_ le _=>In.mono q1 le) ?_);rintro v H' ⟨rfl,rfl⟩;refine aX ?_;refine av ?_;refine D2 1 15 ?_ ?_
   ·refine Do rfl (CP wv mG sQ λkb ns sO=> ?_)
    refine av ?_;refine Dn 15 ?_;refine Do rfl (oC CF rfl rfl (zG) .nil CI ?_);rintro v H' ⟨rfl,rfl⟩;refine aX ?_;refine av ?_;refine Dt 16 rfl (Bd cb fx) ?_;refine Dn 18 ?_;refine Do rfl (iF dR ?_);refine av ?_;refine aV (by kernel_rfl) aN ?_;simp only[abd];refine Me ((kb,ns,va,vc,b15)) (trivial)
   refine Do rfl (oC CF rfl rfl (zG) .nil CI ?_);rintro v H' ⟨rfl,rfl⟩;refine aX ?_;refine av ?_;refine Dn 1 ?_;refine Do rfl (CP wv mG sQ λkb ns sO=> ?_);refine av ?_;refine Dt 16 rfl (Bd cb fx) ?_;refine Dn 18 ?_;refine Do rfl (iF dR ?_);refine av ?_;refine aV (by kernel_rfl) aN ?_;simp only[abd];refine Me ((kb,ns,va,vc,b15)) (trivial)
  refine Do rfl (oA cb λb16=> ?_);refine av ?_;refine D2 1 4 ?_ ?_
  ·refine Do rfl (CP wv mG sQ λkb ns sO=> ?_)
   refine av ?_;refine dw 5 1 ?_;refine Dn 4 ?_;refine Do rfl (fK kA s9 rfl rfl rfl rfl .here (rfl) (eH (m:=c.data.length) (by simp) (λh le _=>hd.mono (jf.trans le))) (by first|exact eO|(simp[Value.oneCell',bD])) (by first|omega|(simp;omega)) (by first|omega|(simp;omega)) rfl λva vc hvc=> ?_);refine av ?_;refine Dn 12 ?_;refine Do rfl (oC CF rfl rfl (kS z N) .nil (λ_ le _=>In.mono q1 le) ?_);rintro v H' ⟨rfl,rfl⟩;refine aX ?_;refine av ?_;refine Dn 15 ?_;refine Do rfl (oC CF rfl rfl (zG) .nil CI ?_);rintro v H' ⟨rfl,rfl⟩;refine aX ?_;refine av ?_;refine Dt 16 rfl (Bd cb fx) ?_;refine Dn 18 ?_;refine Do rfl (iF dR ?_);refine av ?_;refine aV (by kernel_rfl) aN ?_;simp only[abd];refine Me ((kb,ns,va,vc,b16)) (trivial)
  refine dw 5 1 ?_;refine Do rfl (fK kA s9 rfl rfl rfl rfl .here (rfl) (eH (m:=c.data.length) (by simp) (λh le _=>hd.mono (jf.trans le))) (by first|exact eO|(simp[Value.oneCell',bD])) (by first|omega|(simp;omega)) (by first|omega|(simp;omega)) rfl λva vc hvc=> ?_);refine av ?_;refine D2 1 12 ?_ ?_
  ·refine Do rfl (CP wv mG sQ λkb ns sO=> ?_)
   refine av ?_;refine Dn 12 ?_;refine Do rfl (oC CF rfl rfl (kS z N) .nil (λ_ le _=>In.mono q1 le) ?_);rintro v H' ⟨rfl,rfl⟩;refine aX ?_;refine av ?_;refine Dn 15 ?_;refine Do rfl (oC CF rfl rfl (zG) .nil CI ?_);rintro v H' ⟨rfl,rfl⟩;refine aX ?_;refine av ?_;refine Dt 16 rfl (Bd cb fx) ?_;refine Dn 18 ?_;refine Do rfl (iF dR ?_);refine av ?_;refine aV (by kernel_rfl) aN ?_;simp only[abd];refine Me ((kb,ns,va,vc,b16)) (trivial)
  refine Do rfl (oC CF rfl rfl (kS z N) .nil (λ_ le _=>In.mono q1 le) ?_);rintro v H' ⟨rfl,rfl⟩;refine aX ?_;refine av ?_;refine D2 1 15 ?_ ?_
  ·refine Do rfl (CP wv mG sQ λkb ns sO=> ?_)
   refine av ?_;refine Dn 15 ?_;refine Do rfl (oC CF rfl rfl (zG) .nil CI ?_);rintro v H' ⟨rfl,rfl⟩;refine aX ?_;refine av ?_;refine Dt 16 rfl (Bd cb fx) ?_;refine Dn 18 ?_;refine Do rfl (iF dR ?_);refine av ?_;refine aV (by kernel_rfl) aN ?_;simp only[abd];refine Me ((kb,ns,va,vc,b16)) (trivial)
  refine Do rfl (oC CF rfl rfl (zG) .nil CI ?_);rintro v H' ⟨rfl,rfl⟩;refine aX ?_;refine av ?_;refine Dn 1 ?_;refine Do rfl (CP wv mG sQ λkb ns sO=> ?_);refine av ?_;refine Dt 16 rfl (Bd cb fx) ?_;refine Dn 18 ?_;refine Do rfl (iF dR ?_);refine av ?_;refine aV (by kernel_rfl) aN ?_;simp only[abd];refine Me ((kb,ns,va,vc,b16)) (trivial)
 rintro⟨kb,ns,va,vc,b9⟩ hI;dsimp only;refine aw ?_;refine dt (ι:=List UInt8×Nat×Nat×Option Addr×Nat) [71,72,74,75,76,77,78,79,80,73,81,82,10,11,83,84,85,86,87,88,89,90,91,92,93,94,95,96,97,98,99,100,101,102,103,104,105,106,107,108,109,110,111,112,113,114,115,116] (λs=>N.sV c k old=some (s.1,s.2.1,s.2.2.1)/\58+k.length+s.1.length<=1048576/\s.2.1<4294967296/\s.2.2.1<9223372036854775808) (λs=> []) (λs=> [SW z N,af b1 42 (fu c ka kc da dc mv),af b2 52 [CO CN 0,bF,CO CJ 0,bD [],bF],own (some ⟨kb,0,none⟩) ns 5 1 (ax k),own s.2.2.2.1 s.2.2.2.2 5 1 (ax s.1),af b9 159 (C5 (.slice (some ⟨kb,0,none⟩) k.length ns) (.slice s.2.2.2.1 s.1.length s.2.2.2.2) s.2.1 s.2.2.1 0 0 0 0)]) ?_ ?_
 ·rcases ov with _|_
  ·refine gK ?_
   refine bm ?_;cases old with
   |none=>
    exfalso;have h89:c.aH=8\/c.aH=9:=by unfold FK at hov;have:=of_decide_eq_false hov;omega
    unfold bb at hn;rw[if_neg (by omega),if_pos (by omega)]at hn;cases hn
   |some p=>
   have hp:=hold p rfl;obtain⟨v1,v2,v3,v4⟩:=O2.agB (p:=p) hp;change(N.it p).val.length<=_ at v1;change(N.it p).fl<_ at v2;change(N.it p).exp<_ at v3;refine bR ?_;refine Lp (oC CF rfl rfl (Ac z N p hp) (.cons .here .nil) CI ?_);rintro v H' ⟨H0,⟨VD,Y7,st2,yQ,hs2',hs3',rfl,rfl⟩,rfl⟩;refine aX ?_;refine bz ?_;refine Lp (oA cb λb17=> ?_);refine Lp (iF dR ?_ (h1:=by simp[C5,Value.oneCell']));refine bA ?_;refine aw ?_;unfold C5;refine hJ 8 mix (.cons .here .nil) λF2 yO ez cQ=> ?_;obtain⟨q3,_⟩:=ez;refine dm ?_;refine gd cQ ?_;refine av ?_;refine aw ?_;simp only[abd];refine Hh (H':= [SW z N,af b1 42 (fu c ka kc da dc mv),af b2 52 [CO CN 0,bF,CO CJ 0,bD [],bF],own (some ⟨kb,0,none⟩) ns 5 1 (ax k),own va vc 5 1 (ax c.data),af b9 159 [.slice (some ⟨kb,0,none⟩) k.length ns, .slice va c.data.length vc,CO CJ ((N.it p).fl),CO CN ((N.it p).exp),CO CN 0,CO CJ 0,CO CN 0,CO CN 0],own (some ⟨Y7,0,none⟩) (N.it p).val.length 5 1 (ax (N.it p).val),af b17 159 [.slice (some ⟨VD,0,none⟩) (N.it p).key.length (N.it p).key.length, .slice (some ⟨Y7,0,none⟩) (N.it p).val.length (N.it p).val.length,CO CJ ((N.it p).fl),CO CN ((N.it p).exp),CO CN ((N.it p).tch),CO CJ ((N.it p).tok),CO CN st2,CO CN ((N.it p).ff)]]) ?_;refine dt (ι:=Option Addr×Nat) [89,90,91,92,93,94,95,96,97,98,99,100,101,102,103] (λs=>True) (λs=> []) (λs=> [SW z N,af b1 42 (fu c ka kc da dc mv),af b2 52 [CO CN 0,bF,CO CJ 0,bD [],bF],own (some ⟨kb,0,none⟩) ns 5 1 (ax k),own s.1 s.2 5 1 (ax (if c.aH=8 then(N.it p).val++c.data else c.data++(N.it p).val)),af b9 159 [.slice (some ⟨kb,0,none⟩) k.length ns, .slice s.1 (if c.aH=8 then(N.it p).val++c.data else c.data++(N.it p).val).length s.2,CO CJ ((N.it p).fl),CO CN ((N.it p).exp),CO CN 0,CO CJ 0,CO CN 0,CO CN 0],af b17 159 [.slice (some ⟨VD,0,none⟩) (N.it p).key.length (N.it p).key.length, .slice (some ⟨Y7,0,none⟩) (N.it p).val.length (N.it p).val.length,CO CJ ((N.it p).fl),CO CN ((N.it p).exp),CO CN ((N.it p).tch),CO CJ ((N.it p).tok),CO CN st2,CO CN ((N.it p).ff)]]) ?_ ?_
   ·by_cases h8:c.aH=8
    ·rw[if_pos h8]
     refine bE ?_;refine eU ?_ (e:=by exact decide_eq_true h8);refine bE ?_;refine Lp (fK kA s9 rfl rfl rfl rfl (.there (.there (.there (.there (.there (.there .here)))))) (by simp) (eH (m:=c.data.length) (by simp) (λh le ao=>bP (ao.nth 4 rfl))) (by first|exact eO|(simp[Value.oneCell',bD])) (by first|omega|(simp;omega)) (by first|omega|(simp;omega)) rfl λa6 c6 hc6=> ?_);refine bA ?_;refine aF ?_;rw[show ax (N.it p).val++ax c.data=ax ((N.it p).val++c.data) by unfold ax;rw[afy],<-aaZ];refine Me ((a6,c6)) (trivial)
    rw[if_neg h8];refine bE ?_;refine cO ?_ (e:=by exact decide_eq_false h8);refine bE ?_;refine Lp (fK kA s9 rfl rfl rfl rfl (.there (.there (.there (.there .here)))) (by simp) (eH (m:=(N.it p).val.length) (by simp) (λh le ao=>bP (ao.nth 6 rfl))) (by first|exact eO|(simp[Value.oneCell',bD])) (by first|omega|(simp;omega)) (by first|omega|(simp;omega)) rfl λa6 c6 hc6=> ?_);refine bA ?_;refine aF ?_;rw[show ax c.data++ax (N.it p).val=ax (c.data++(N.it p).val) by unfold ax;rw[afy],<-aaZ];refine Me ((a6,c6)) (trivial)
   rintro⟨a6,c6⟩ hI;dsimp only;have hvl:(if c.aH=8 then(N.it p).val++c.data else c.data++(N.it p).val).length=c.data.length+(N.it p).val.length:=by
    split<;>rw[aaZ]<;>omega
   have hnw:N.sV c k (some p)=if N.v.c.lim<58+k.length+c.data.length+(N.it p).val.length then none else some (if c.aH=8 then(N.it p).val++c.data else c.data++(N.it p).val,(N.it p).fl,(N.it p).exp):=by unfold Mo.sV;rw[hov];rfl
   generalize (if c.aH=8 then(N.it p).val++c.data else c.data++(N.it p).val)=nv at*;refine aw ?_;refine hJ 11 mix (.cons .here (.cons (.there (.there (.there (.there (.there .here))))) .nil)) λF3 Ow pt eI=> ?_;obtain⟨q4,q5,_⟩:=pt;refine bA ?_
   first
    |refine Ti (Lf Dr) ?_
    |refine Ti (AZ Dr q4) ?_
   refine bG ?_
   first
    |refine Ti (Lf bC) ?_
    |refine Ti (AZ bC q4) ?_
   refine av ?_;refine gd eI ?_;refine av ?_;by_cases zh:N.v.c.lim<58+k.length+c.data.length+(N.it p).val.length
   ·rw[if_pos zh]at hnw
    refine eU ?_;refine fi ?_;refine zl CF (ig dS) .nil CI ?_;refine Li (VR T.gW) ?_;refine Lp (VA ?_);refine pP [SW z N] ?_;exact⟨.t dS,N,by rw[VG,yP,hnw],rfl,rfl⟩
   rw[if_neg zh]at hnw;refine cO ?_;refine av ?_;refine Me ((nv,(N.it p).fl,(N.it p).exp,a6,c6)) (⟨hnw,(by dsimp only;rw[n1]at zh;omega),v2,v3⟩)
  refine gK ?_;refine bE ?_;refine Me ((c.data,c.fl,gL N.k.now c.ex,va,vc)) (⟨(by unfold Mo.sV;rw[hov];rfl),hd20,qZ,Cz _ _ FB.1 hex⟩)
 rintro⟨v,fl,ex,va2,vc2⟩ hI;dsimp only at hI⊢;obtain⟨hnv,uo,hfl2,hex2⟩:=hI;rw[hnv]at yP;have hR:=wH (M:=N) (n:=58+k.length+v.length) (own:=old) (o:=(N.room (58+k.length+v.length) old).1) (N:=(N.room (58+k.length+v.length) old).2) ⟨O2.mc0,O2.Kq.nd,O2.Kq.lv,O2.Kq.on⟩ rfl;have hly:N.lays k old ov (v,fl,ex)=match N.room (58+k.length+v.length) old with|(none,R)=>(.t js,R.over old ov)|(some r,R)=>(.k 1,R.gk r old ⟨k,v,fl,ex,R.k.now,R.v.bh+1,0⟩):=rfl
 have y6:=vK z N (n4.trans hh) (by rw[n5];exact gB) k.length v.length ⟨VJ,IP⟩ (by omega) old hold;unfold C5;refine bz ?_;refine Li (Ls wv) ?_;refine bm ?_;refine zl CF (y6) (.cons .here .nil) CI ?_;rcases hrm:N.room (58+k.length+v.length) old with⟨o,R⟩
 rw[hrm]at hR hly;dsimp only at hR hly⊢;have hoR:q9 N.C old=q9 R.C old:=by
  rcases old with _|p
  ·rfl
  exact(hR.s.own p rfl (hold p rfl)).2.1.symm
 have ZZ:∀p,old=some p->R.has p:=λp e=>(hR.s.own p e (hold p e)).1;rw[hoR];rcases o with _|r0
 ·dsimp only at hly
  refine dB ?_;refine Lp (Ov CF rfl rfl (ng z R old ZZ ov js) (.cons .here .nil) CI (by rintro v H' ⟨rfl,rfl⟩;exact pP [SW z (R.over old ov)] ⟨.t js,_,by rw[VG,yP];exact hly,rfl,rfl⟩) ?_);rintro v H' hF;exact hF.elim
 obtain⟨g1,g2,g3,g4⟩:=hR.ok r0 rfl;have hdn:=bV hR.k.k g3.toAt;obtain⟨_,_,_,_,FU,Kx⟩:=hdn;refine bR ?_;refine cO ?_ (e:=by exact decide_eq_false (by show¬(((R.C.hd r0:Nat):Int)=0);omega));refine bR ?_;refine zl CF (DS z R r0 g1 old k v _ _ rfl rfl (λp e=>⟨ZZ p e,by rw[hR.s.it];exact(e2 p e).2⟩) (λe=>J1 λq hq ek=>XR (e3 e) (hR.s.has q hq) (by rw[<-hR.s.it];exact ek)) (some ⟨kb,0,none⟩) va2 ns vc2 fl ex 0 hk g2 hfl2 hex2 (by decide) (by rw[hR.s.bh,n2];exact uz) (by rw[hR.s.tn,n3];exact vq)) (.cons .here .nil) (λ_ le ao=>⟨bP (ao.nth 2 rfl),bP (ao.nth 3 rfl)⟩) ?_;refine bz ?_;refine Lp (iF eo ?_ (h1:=by simp[cZ,Value.cells,Value.oneCell',bD,bF]));refine bA ?_;refine pR ?_;refine FX [SW z (R.gk r0 old ⟨k,v,fl,ex,R.k.now,R.v.bh+1,0⟩)] eo results87 ?_;exact⟨.k 1,_,by rw[VG,yP];exact hly,rfl,rfl⟩
theorem TR (A:By)(p:Nat)(v:List UInt8)(q n:Nat)(h:q+n<=p+48\/p+52<=q/\q+n<=p+56+kl A p):jU (eT A p v) q n=jU A q n:=by
 unfold eT;rw[fV _ _ _ _ _ (.inl (by omega)),fV _ _ _ _ _ (.inl (by omega)),sG _ _ _ _ _ _ (by omega)]
theorem qC (A:By)(p:Nat)(v:List UInt8)(o w:Nat)(h:o+w<=48\/52<=o/\o+w<=56):rd (eT A p v) (p+o) w=rd A (p+o) w:=by
 unfold eT;rw[eM _ _ _ _ _ (.inl (by omega)),eM _ _ _ _ _ (.inl (by omega)),aT _ _ _ _ _ _ (by omega)]
theorem JJ (A:By)(p:Nat)(v:List UInt8)(h:v.length<4294967296):vl (eT A p v) p=v.length:=by
 unfold eT vl;rw[eM _ _ _ _ _ (.inl (by omega)),eM _ _ _ _ _ (.inl (by omega)),qf _ _ _ _ (by omega)]
theorem JK (A:By)(p:Nat)(v:List UInt8):kl (eT A p v) p=kl A p:=qC A p v 44 1 (.inl (by omega))
theorem El (A:By)(p:Nat)(v:List UInt8):aP (eT A p v) p=aP A p:=by
 unfold aP;rw[JK,TR _ _ _ _ _ (.inr ⟨by omega,by omega⟩)]
theorem TQ (A:By)(p:Nat)(v:List UInt8)(h:v.length<4294967296):ke (eT A p v) p=v:=by
 unfold ke;rw[JK,JJ A p v h];unfold eT;rw[fV _ _ _ _ _ (.inl (by omega)),lF]
theorem adj{C:Cs}{p:Nat}{v:List UInt8}(A:By)(L:At C p)(hf:58+kl A p+v.length<=C.sz (C.cl p)):cX C A (eT A p v) (λq o=>q=p/\48<=o):=λi e=>by
 have h1:p+48<=i/\i<p+58+kl A p+v.length:=by
  refine aa2 λg=>e ?_;unfold eT wr;have hc:crlf.length=2:=rfl;rw[gI _ _ _ _ (by omega),gI _ _ _ _ (by omega),gI _ _ _ _ (by rw[nc];omega)]
 exact⟨p,i-p,L,by omega,⟨rfl,by omega⟩,by omega⟩
def Mo.pf (M:Mo)(p:Nat)(v:List UInt8):Mo:={M.put p {M.it p with val:=v}with v:={M.v with eW:=M.v.eW+v.length-(M.it p).val.length}}
theorem W4{f g:Nat->Nat}{p:Nat}{l:List Nat}(nd:l.Nodup)(hp:p∈l)(h:∀q,q≠p->g q=f q):(l.map g).sum+f p=(l.map f).sum+g p:=by
 have e:=List.perm_cons_erase hp;rw[(e.map g).sum_nat,(e.map f).sum_nat,aaX,aaX,aa8,aa8];have:(l.erase p).map g=(l.erase p).map f:=List.map_congr_left λq hq=>h q λg=>by subst g;exact nd.not_mem_erase hq
 rw[this];omega
theorem bL.pf{B:Bx}{M:Mo}(O:bL B M){p:Nat}(hp:M.has p)(v:List UInt8)(hf:58+(M.it p).key.length+v.length<=M.C.sz (M.C.cl p)):bL ⟨B.C.wA (eT B.C.A p v),B.W,B.ty,B.E⟩ (M.pf p v):=by
 have K:=O.k;have dE:=(O.al p).2 hp;have L:=O.sN dE;obtain⟨f1,f2,f3,f4,f5,f6,f7⟩:=O.jh dE;have uj:kl B.C.A p=(M.it p).key.length:=by rw[<-f5];exact(cD _ _ _).symm
 have uo:=(L.toAt.bn K).2.2.1;have vZ:=K.toFix.p1;have VK:58+kl B.C.A p+v.length<=B.C.sz (B.C.cl p):=by rw[uj,show B.C.cl p=M.C.cl p from O.cl p,show B.C.sz (M.C.cl p)=M.C.sz (M.C.cl p) by rw[O.c];rfl];exact hf
 have d:=adj B.C.A L.toAt VK;have I:=O.t.it p dE;have v32:v.length<4294967296:=by omega
 have other:∀q∈B.W.all,q≠p->mJ (eT B.C.A p v) q=mJ B.C.A q:=λq hq ne=>vz K d (O.nm hq) (O.t.it q hq) (λj s=>absurd s.1 ne);have r:=λ(q:Nat) (hq:q∈B.W.all) (o w:Nat) (h2:o+w<=48)=>lB (o:=o) (w:=w) K d (O.nm hq) (by have:=((O.nm hq).bn K).2.1;omega) (λj g1 g2 s=>by obtain⟨_,s2⟩:=s;omega);have itp:mJ (eT B.C.A p v) p={M.it p with val:=v}:=by
  rw[<-O.it p dE];unfold mJ OG uv lL rW dz;rw[El,TQ _ _ _ v32,qC _ _ _ _ _ (.inl (by omega)),qC _ _ _ _ _ (.inl (by omega)),qC _ _ _ _ _ (.inl (by omega)),qC _ _ _ _ _ (.inl (by omega)),qC _ _ _ _ _ (.inl (by omega))]
 have lJ:∀q∈B.W.all,mJ (eT B.C.A p v) q=(M.pf p v).it q:=λq hq=>by
  show _=if q=p then _ else M.it q
  by_cases e:q=p
  ·rw[if_pos e,e];exact itp
  rw[if_neg e,other q hq e];exact O.it q hq
 have key:∀q∈B.W.all,aP (eT B.C.A p v) q=aP B.C.A q:=λq hq=>by
  by_cases e:q=p
  ·rw[e];exact El _ _ _
  exact congrArg I3.key (other q hq e)
 have iok:∀q∈B.W.all,gO (B.C.wA (eT B.C.A p v)) q:=λq hq=>by
  have J:=O.t.it q hq;have e2:=r q hq 16 8 (by omega);have e3:=r q hq 24 8 (by omega);have e4:kl (eT B.C.A p v) q=kl B.C.A q:=r q hq 44 1 (by omega);refine⟨by rw[cK,e4];exact J.k0, ?_,by rw[cK,e2];exact J.exp,by rw[cK,e3];exact J.tch⟩;rw[cK,e4];by_cases e:q=p
  ·rw[e,JJ _ _ _ v32];exact VK
  have e5:vl (eT B.C.A p v) q=vl B.C.A q:=lB K d (O.nm hq) (by have:=((O.nm hq).bn K).2.1;omega) (λj g1 g2 s=>e s.1);rw[e5];exact J.fits
 have lk:∀l:List Nat,(∀q∈l,q∈B.W.all)->FY B.C.A l->FY (eT B.C.A p v) l:=λl=>by
  induction l with
  |nil=>exact λ_ _=>trivial
  |cons q l ih=>exact λh g=>⟨(r q (h q List.mem_cons_self) 0 4 (by omega)).trans g.1,ih (λx hx=>h x (List.mem_cons_of_mem _ hx)) g.2⟩
 have T:=O.t;have hT:dq (B.C.wA (eT B.C.A p v)) B.W:=⟨T.pw,T.po,T.st,T.mp,T.sz,T.Oq,T.sm,T.mv,T.n,T.nd,λx=>lk _ (λq hq=>Tb.gU hq) (T.li x),λq hq=>(T.lv q hq).wA _,iok,
  λx q hq=>by
   show B.W.bk (cx (aP (eT B.C.A p v) q))=x;rw[key q (Tb.gU hq)];exact T.bu x q hq,
  λa ha b hb e=>by
   change aP (eT B.C.A p v) a=aP (eT B.C.A p v) b at e;rw[key a ha,key b hb]at e;exact T.kd a ha b hb e⟩
 have Q:=O.o;have hQ:iR (B.C.wA (eT B.C.A p v)) M.Q:=⟨Q.len,λi q hq=>(Q.lv i q hq).wA _,λi q hq=>iok q (O.oa hq),λi q hq=>by
   have:=r q (O.oa hq) 45 1 (by omega);show 1<=gJ (eT B.C.A p v) q/\_;rw[cK,show gJ (eT B.C.A p v) q=gJ B.C.A q from this];exact Q.st i q hq,Q.nd,λi k hk=>by rw[cK,r _ (O.oa (aa4 hk)) 4 4 (by omega)];exact Q.l1 i k hk,λi k hk=>by rw[cK,r _ (O.oa (aa4 hk)) 8 4 (by omega)];exact Q.l2 i k hk⟩
 refine⟨?_,K.wA _,hT,O.ty,hQ,O.x, ?_,O.ck,O.al,λq=> ?_,O.ho,lJ, ?_,O.st,O.nb,O.mg,O.mo, ?_,O.un,O.on,O.go,O.wn,O.cf,O.n,λq hq=> ?_⟩
 ·show B.C.wA _=M.C.wA _
  conv=>lhs;rw[O.c]
  rfl
 ·intro i q hq
  show dz (eT B.C.A p v) q<16;rw[show dz (eT B.C.A p v) q=dz B.C.A q from r q (O.oa hq) 46 1 (by omega)];exact O.mq i q hq
 ·refine Iff.trans ?_ (O.lv q)
  exact⟨λh=>⟨⟨h.i,h.own,h.al,h.k⟩,h.tk⟩,λh=>h.wA _⟩
 ·refine O.e.trans (List.Perm.of_eq (fM (C:=B.C) (D:=B.C.wA (eT B.C.A p v)) (M:=M) (N:=M.pf p v) λq _=>⟨?_,rfl,rfl⟩).symm)
  show(if q=p then _ else M.it q).exp=_;by_cases e:q=p
  ·rw[if_pos e,e]
  rw[if_neg e]
 ·show M.v.eW+v.length-(M.it p).val.length=(B.W.all.map λq=>((M.pf p v).it q).sz).sum
  have h1:=W4 (f:=λq=>(M.it q).sz) (g:=λq=>((M.pf p v).it q).sz) T.nd dE (λq ne=>by
   show(if q=p then _ else M.it q).sz=_;rw[if_neg ne])
  have h2:((M.pf p v).it p).sz=58+(M.it p).key.length+v.length:=by
   show(if p=p then _ else M.it p).sz=_;rw[if_pos rfl];rfl
  have h3:=O.bt;have h4:(M.it p).sz=58+(M.it p).key.length+(M.it p).val.length:=rfl;rw[h2,h4]at h1;omega
 rw[<-lJ q hq];show eF (aP (eT B.C.A p v) q)=true;rw[key q hq,show aP B.C.A q=(M.it q).key from congrArg I3.key (O.it q hq)];exact O.lg q hq
end Go.Proofs.YtcbcjolpdljbiaaGreat
namespace Go.Proofs.YtcbcjolpdljbiaaGreat
open Go Go.dG Go.Proofs.YtcbcjolpdljbiaaGreat.Cs
theorem O8 (n:Nat):IntKind.u64.wrap (n:Int)=((n % 18446744073709551616:Nat):Int):=by
 simp[IntKind.wrap,IntKind.bits,IntKind.signed]
def BxT (z:Ly)(B:Bx)(M:Mo):aa:=aG
 [af z.y.t 154 (fk z.y.b B.W B.ty),af B.ty.nk 149 (aM (aD B.W.nb)),jH B.ty.ok 149 (aM (aD B.W.ob)),af z.y.q 182 (fC z.y.b z.qb B.C.ae.length),af z.qb 333 (M.Q.flatMap (cV B.C)),gh z.y.cr z.y.q z.y.wh B.C.ae.length (aL z.s) (aY z.s) B.C M.x,Wl z.y.wh B.E M.tn,
  kO z.y.ck M.k,jb z.y.lu z.y.b z.y.q z.hot z.warm,iT z.y.mo z.y.b z.ub (aL z.s) (aY z.s) (bI z.s) M.m,kL z.ub M.m,jJ M]
theorem Ll{L:List aa}{A B:aa}{H:List aa}{h:Hp}(s:ai (A::B::(L++H)) h):ai (A::B::aG L::H) h:=aK (λ_=>aK λ_=>dU) s
theorem SE{L:List aa}{A B:aa}{H:List aa}{h:Hp}(s:ai (A::B::aG L::H) h):ai (A::B::(L++H)) h:=aK (λ_=>aK λ_=>uR) s
theorem EW (z:Ly)(B:Bx)(M:Mo)(H:List aa):fD (dM z B M++H) (fm z.s z.y (fb M.v)) (VS z B M++H):=
 .there (.there (.there (.there (.there (.there (.there (.there .here)))))))
theorem aeX{z:Ly}{B:Bx}{M:Mo}{H:List aa}(h:Hp)(s:ai (dM z B M++H) h):ai (af z.s 96 (A9 z.y M.v++ [.slice M.v.wa M.v.wn M.v.wc])::Cl z.y.b B.C::BxT z B M::H) h:=
 Ll ((EW z B M H).out _ s)
theorem aiO{z:Ly}{B:Bx}{M:Mo}{H:List aa}(h:Hp)(s:ai (af z.s 96 (A9 z.y M.v++ [.slice M.v.wa M.v.wn M.v.wc])::Cl z.y.b B.C::BxT z B M::H) h):ai (dM z B M++H) h:=
 (EW z B M H).back _ (SE s)
section
variable {n:Nat} {ds:List Deferred} {F:dC} {K:Act->World->Prop} {σ:aZ} {z:Ly} {M N:Mo} {H:List aa}
theorem aie (h:∀B,bL B M->G n ds F K σ (af z.s 96 (A9 z.y M.v++ [.slice M.v.wa M.v.wn M.v.wc])::Cl z.y.b B.C::BxT z B M::H)):G n ds F K σ (SH z M::H):=
 cF λB O=>au aeX (h B O)
theorem aid{B:Bx}(D:Cs)(O:bL ⟨D,B.W,B.ty,B.E⟩ N)(hb:BxT z ⟨D,B.W,B.ty,B.E⟩ N=BxT z B M)(h:G n ds F K σ (SH z N::H)):G n ds F K σ (af z.s 96 (A9 z.y N.v++ [.slice N.v.wa N.v.wn N.v.wc])::Cl z.y.b D::BxT z B M::H):=by
 rw[<-hb];exact au (λk s=>aB O k (aiO k s)) h
end
theorem SA (z:Ly)(M:Mo)(p t:Nat)(hp:M.has p)(ht:t<18446744073709551616):aO aaO 126 [CM z.y.b,CO CJ (M.C.hd p),CO CJ t] (λ_=>True) [SW z M] (λv H=>v=CO CN 0/\H= [SW z (M.tok p t)]):=
 iS (N:=M.tok p t) (T:=λv=>v=CO CN 0) λa c=>dH λB O=>by
  have dE:=(O.al p).2 hp;have h:=(akI z.y.b B.C O.k p t ht (O.sN dE) (O.t.it p dE).k0).fr (H:=dM z B (M.aQ a c)++ []) (R:=(dM z B (M.aQ a c)).tail) (.cons .here .nil) (λk ao=>trivial);rw[O.hd]at h;refine h.out ?_;rintro v H' ⟨H0,⟨rfl,rfl⟩,rfl⟩;exact⟨[SH z ((M.tok p t).aQ a c)],⟨rfl,rfl⟩,λk s=>aB (O.w32 dE t ht) (H:= []) k s⟩
theorem E5 (z:Ly)(M:Mo)(c:Nat)(hc:c<M.eR):aO aaO 32 [CM z.s,CO CN c] (λ_=>True) [SW z M] (λv H=>v=CO CN (M.C.sz c)/\H= [SW z M]):=by
 have h:=ym z M c;rw[show(ofM M.C c λi=>M.C.sz i)=M.C.sz c by unfold ofM;rw[if_pos ⟨by omega,by exact Int.ofNat_lt.2 hc⟩];rfl]at h;refine ag func32 rfl ntmps32 rfl ?_;intro F _;refine bM ?_;refine zl CF (h) (.cons .here .nil) CI ?_;refine bz ?_;refine Rt [SW z M] results32 ?_;exact⟨rfl,rfl⟩
def pq (c:fe)(n:Nat):Nat:=if c.aH=12 then(n+c.dl) % 18446744073709551616 else n-c.dl
def Mo.sq (M:Mo)(p m:Nat):iA×Mo:=
 if 58+(M.it p).key.length+(gQ m).length<=M.C.sz (M.C.cl p)then(⟨7,[],m,[]⟩,((((M.pf p (gQ m)).rk (M.v.bh+1)).tok p (M.v.bh+1)).marks p 0).lJ p)
 else if M.v.c.lim<58+(M.it p).key.length+(gQ m).length then(.t dS,M)
 else match M.room (58+(M.it p).key.length+(gQ m).length) (some p)with
  |(none,R)=>(.t js,R)
  |(some r,R)=>(⟨7,[],m,[]⟩,R.gk r (some p) ⟨(M.it p).key,gQ m,(M.it p).fl,(M.it p).exp,R.k.now,R.v.bh+1,0⟩)
def Mo.counts (M:Mo)(c:fe)(k:List UInt8):iA×Mo:=match M.meet k with
 |(none,N)=>(.k 4,N)
 |(some p,N)=>match uy (N.it p).val with
  |none=>(.t uE,N)
  |some n=>N.sq p (pq c n)
theorem NQ (z:Ly)(M:Mo)(c:fe)(ka:Option Addr)(kc:Nat)(da:Option Addr)(dc:Nat)(mv:Value)(mH:mv.oneCell'=true)(k:List UInt8)(r:List (List UInt8))(sS:c.keys=k::r)(hk:eF k=true)(hw:M.j6.length<1073741824)(Od:c.dl<18446744073709551616)
  (hh:M.hole=none) (gB:M.m.st<4611686018427387904) (KI:M.v.c.lim<=1048576) (uz:M.v.bh+1<18446744073709551616) (vq:M.tn<18446744073709551615):
  We aaO 82 [CM z.s, .agg (fu c ka kc da dc mv).toArray] (λh=>gg h ka (iK c.keys)) [SW z M]
   (λv H=>∃a N,M.counts c k=(a,N)/\v=uC a/\H= [SW z N]) (λv H=>∃a N,M.counts c k=(a,N)/\v=rJ (uC a)/\H= [SW z N]):=by
 obtain⟨VJ,IP⟩:=fL hk;refine ml func82 rfl ntmps82 rfl ?_;intro F hr;refine av ?_;refine Lp (oB λb1=> ?_);refine Lp (oA oX λb2=> ?_);refine av ?_;refine Hh (H':= [SW z M,af b1 42 (fu c ka kc da dc mv),af b2 52 [CO CN 0,bF,CO CJ 0,bD [],bF]]) ?_;refine bz ?_;refine Lp (Ov CF rfl rfl (x8 z M c ka kc da dc mv mH k r sS (by omega) hw) (.cons .here .nil) (λ_ le _=>hr.mono le) (by rintro v H' ⟨N,hm,rfl,rfl⟩;exact pP [SW z N] ⟨.k 4,N,by unfold Mo.counts;rw[hm],rfl,rfl⟩) ?_);rintro v H' ⟨p,N,hm,rfl,rfl⟩;refine aX ?_;obtain⟨m1,m2,m3⟩:=nH hm;have hN:N.has p:=by rw[m3];exact m1
 have hC:M.C=N.C:=by rw[m3];rfl
 have hNv:N.v.c=M.v.c/\N.v.bh=M.v.bh/\N.tn=M.tn/\N.hole=M.hole/\N.m.st=M.m.st:=by rw[m3];exact⟨rfl,rfl,rfl,rfl,rfl⟩
 have oo:(N.it p).key=k:=by rw[m3];exact m2
 obtain⟨n1,n2,n3,n4,n5⟩:=hNv;have yQ:M.counts c k=match uy (N.it p).val with|none=>(.t uE,N)|some n=>N.sq p (pq c n):=by unfold Mo.counts;rw[hm]
 rw[hC];refine o4 λwa wc B O=> ?_;obtain⟨v1,v2,v3,v4⟩:=O.agB (p:=p) hN;change(N.it p).val.length<=_ at v1;change(N.it p).fl<_ at v2;change(N.it p).exp<_ at v3;change(N.it p).key.length<=_ at v4;refine cA ?_;refine Lp (oC CF rfl rfl (Ac z N p hN) (.cons .here .nil) CI ?_);rintro v H' ⟨H0,⟨VD,Y7,st2,hs1',hs2',hs3',rfl,rfl⟩,rfl⟩;refine aX ?_;unfold C5;refine bz ?_;refine Lp (oA cb λb3=> ?_);refine Lp (iF dR ?_ (h1:=by simp[C5,Value.oneCell']));refine bE ?_;refine Lp (Ov CF rfl rfl (NP (some ⟨Y7,0,none⟩) (N.it p).val.length (N.it p).val.length (N.it p).val rfl (by omega)) .nil (λ_ le ao=>bP (ao.nth 2 rfl)) (by rintro v H' ⟨hn,rfl,rfl⟩;exact pP [SW z N] ⟨.t uE,N,by rw[yQ,hn],rfl,rfl⟩) ?_);rintro v H' ⟨⟨n,hn,hn64,rfl⟩,rfl⟩;refine aX ?_;rw[hn]at yQ;dsimp only at yQ;have hmlt:pq c n<18446744073709551616:=by unfold pq;split<;>omega
 refine bA ?_;refine aw ?_;refine dt (ι:=Unit) [31,32,33,34,35,36,37,8,38,39,40,41,42,43,44,45] (λu=>True) (λu=> [(8,CO CJ (pq c n:Nat))]) (λu=> [SW z N,af b1 42 (fu c ka kc da dc mv),af b2 52 [CO CN 0,bF,CO CJ 0,bD [],bF],af b3 159 [.slice (some ⟨VD,0,none⟩) (N.it p).key.length (N.it p).key.length, .slice (some ⟨Y7,0,none⟩) (N.it p).val.length (N.it p).val.length,CO CJ ((N.it p).fl),CO CN ((N.it p).exp),CO CN ((N.it p).tch),CO CJ ((N.it p).tok),CO CN st2,CO CN ((N.it p).ff)],own (some ⟨VD,0,none⟩) (N.it p).key.length 5 1 (ax (N.it p).key)]) ?_ ?_
 ·by_cases AW:c.aH=12
  ·have hmm:pq c n=(n+c.dl) % 18446744073709551616:=by unfold pq;rw[if_pos AW]
   rw[hmm];refine bE ?_;refine eU ?_ (e:=by exact decide_eq_true AW);refine bG ?_;refine aF ?_;refine ay (t:=8) (v':=(CO CJ ((n+c.dl) % 18446744073709551616:Nat))) rfl (by exact congrArg (Value.int .u64) (by first|exact O8 (n+c.dl)|exact(O8 (n+c.dl)).symm|(rw[<-O8];rfl))) ?_;refine Me (()) (trivial)
  have hmm:pq c n=n-c.dl:=by unfold pq;rw[if_neg AW]
  rw[hmm];refine bE ?_;refine cO ?_ (e:=by exact decide_eq_false AW);by_cases cL:n<c.dl
  ·refine gK ?_
   refine bE ?_;refine eU ?_;refine bA ?_;refine aF ?_;refine Me (()) (trivial) (hs:=⟨(congrArg (λq=>some (Value.int .u64 q)) (by omega)),trivial⟩)
  refine gK ?_;refine bE ?_;refine cO ?_;refine bG ?_;refine aF ?_;refine Me (()) (trivial) (hs:=⟨(congrArg (λq=>some (Value.int .u64 q)) (by omega)),trivial⟩)
 rintro u hI;generalize pq c n=m at*;have rB:N.sq p m=if 58+(N.it p).key.length+(gQ m).length<=N.C.sz (N.C.cl p)then(⟨7,[],m,[]⟩,((((N.pf p (gQ m)).rk (N.v.bh+1)).tok p (N.v.bh+1)).marks p 0).lJ p)else if N.v.c.lim<58+(N.it p).key.length+(gQ m).length then(.t dS,N)else match N.room (58+(N.it p).key.length+(gQ m).length) (some p)with|(none,R)=>(.t js,R)|(some r,R)=>(⟨7,[],m,[]⟩,R.gk r (some p) ⟨(N.it p).key,gQ m,(N.it p).fl,(N.it p).exp,R.k.now,R.v.bh+1,0⟩):=rfl
 have hdl20:(gQ m).length<=20:=by have:=U9 20 m (by omega);omega
 have hL:=O.sN ((O.al p).2 hN);have hcn:N.C.cl p<N.eR:=by
  have:=(hL.toAt.bn O.k).1;rw[show B.C.cl p=N.C.cl p from O.cl p,O.c]at this;exact this
 refine bA ?_;refine Lp (oC CF rfl rfl (SF m hmlt) .nil CI ?_);rintro v H' ⟨ta,tc,rfl,rfl⟩;refine aX ?_;generalize gQ m=t at*;refine C9 ?_;refine zl CF (WZ z N p hN) (.cons (.there .here) .nil) CI ?_;refine fq ?_;refine zl CF (E5 z N (N.C.cl p) hcn) (.cons .here .nil) CI ?_;by_cases ao:58+(N.it p).key.length+t.length<=N.C.sz (N.C.cl p)
 ·rw[if_pos ao]at rB
  refine bz ?_;refine eU ?_
  clear O
  refine aw ?_;refine Hh (H':= [SW z N,own ta tc 5 1 (ax t),af b1 42 (fu c ka kc da dc mv),af b2 52 [CO CN 0,bF,CO CJ 0,bD [],bF],af b3 159 [.slice (some ⟨VD,0,none⟩) (N.it p).key.length (N.it p).key.length, .slice (some ⟨Y7,0,none⟩) (N.it p).val.length (N.it p).val.length,CO CJ ((N.it p).fl),CO CN ((N.it p).exp),CO CN ((N.it p).tch),CO CJ ((N.it p).tok),CO CN st2,CO CN ((N.it p).ff)],own (some ⟨VD,0,none⟩) (N.it p).key.length 5 1 (ax (N.it p).key)]) ?_;refine zS λwa wc=>aie λB O=> ?_;have hbt:=O.aha;have dE:=(O.al p).2 hN;have Zd:(N.it p).val.length<=N.v.eW:=by
   have h1:=O.bt;have h2:=wF (λq=>((N.aQ wa wc).it q).sz) dE;have h3:((N.aQ wa wc).it p).sz=58+(N.it p).key.length+(N.it p).val.length:=rfl;change N.v.eW=_ at h1;rw[<-h1,h3]at h2;omega
  change N.v.eW<=_ at hbt;have uj:kl B.C.A p=(N.it p).key.length:=by rw[<-show aP B.C.A p=(N.it p).key from(O.jh dE).2.2.2.2.1];exact(cD _ _ _).symm
  have uA:58+((N.aQ wa wc).it p).key.length+t.length<=(N.aQ wa wc).C.sz ((N.aQ wa wc).C.cl p):=ao;have iv:=LZ z.y.b B.C O.k p (O.sN dE) (O.t.it p dE).k0 ta t.length tc t rfl (by rw[uj,show B.C.cl p=N.C.cl p from O.cl p,show B.C.sz (N.C.cl p)=N.C.sz (N.C.cl p) by rw[O.c];rfl];exact ao);rw[show B.C.hd p=N.C.hd p from O.hd p]at iv;unfold A9 agD;dsimp only[Mo.aQ];refine aX ?_;refine hJ 13 mix (.cons .here (.cons (.there (.there (.there (.there (.there .here))))) .nil)) λF1 jf bZ aN=> ?_;obtain⟨q1,q6,_⟩:=bZ;refine bW ?_;refine ay (t:=106) (v':=(CO CN (N.v.eW+t.length-(N.it p).val.length:Nat))) rfl (by exact congrArg (Value.int .i64) (by omega)) ?_;refine bA ?_;refine gd aN ?_;refine bM ?_;refine zl CF (iv) (.cons (.there (.there .here)) .nil) (λ_ le ao=>bP (ao.nth 3 rfl)) ?_;refine av ?_;refine aw ?_;refine Hh (H':= [af z.s 96 (A9 z.y (N.pf p t).v++ [.slice wa N.j6.length wc]),Cl z.y.b (B.C.wA (eT B.C.A p t)),BxT z B (N.aQ wa wc),own ta tc 5 1 (ax t),af b1 42 (fu c ka kc da dc mv),af b2 52 [CO CN 0,bF,CO CJ 0,bD [],bF],af b3 159 [.slice (some ⟨VD,0,none⟩) (N.it p).key.length (N.it p).key.length, .slice (some ⟨Y7,0,none⟩) (N.it p).val.length (N.it p).val.length,CO CJ ((N.it p).fl),CO CN ((N.it p).exp),CO CN ((N.it p).tch),CO CJ ((N.it p).tok),CO CN st2,CO CN ((N.it p).ff)],own (some ⟨VD,0,none⟩) (N.it p).key.length 5 1 (ax (N.it p).key)]) ?_;refine aid (N:=(N.aQ wa wc).pf p t) _ (O.pf hN t uA) rfl ?_;refine aab (M:=N.pf p t) wa wc ?_;have vZ:(N.pf p t).has p:=hN;rw[show N.C=(N.pf p t).C from rfl];have Oc:(N.pf p t).v.bh=N.v.bh:=rfl;generalize hN1:N.pf p t=N1 at*;refine bG ?_;refine ay (t:=121) (v':=(CO CJ (N.v.bh+1:Nat))) rfl (by exact congrArg (Value.int .u64) (by rw[Oc];rfl)) ?_;refine bA ?_;refine Lp (oSc (i:=19) rG ?_);refine av ?_;refine aw ?_;have dE:(N1.rk (N.v.bh+1)).has p:=vZ;rw[show N1.C=(N1.rk (N.v.bh+1)).C from rfl];have yX:(N1.rk (N.v.bh+1)).v.bh=N.v.bh+1:=rfl;generalize hN2:N1.rk (N.v.bh+1)=N2 at*;refine hJ 10 mix (.cons .here .nil) λF2 yO ez cQ=> ?_;obtain⟨q7,_⟩:=ez;refine bm ?_
  first
   |refine Ti (Lf Py) ?_
   |refine Ti (AZ Py q7) ?_
  refine bm ?_
  first
   |refine Ti (Lf rG) ?_
   |refine Ti (AZ rG q7) ?_
  refine gd cQ ?_;rw[yX];refine Tp (oC CF rfl rfl (SA z N2 p (N.v.bh+1) dE (by rw[n2];exact uz)) (.cons .here .nil) CI ?_);rintro v H' ⟨rfl,rfl⟩;refine aX ?_;refine bm ?_;refine zl CF (HE z (N2.tok p (N.v.bh+1)) p 0 (by decide) dE) (.cons .here .nil) CI ?_;refine bm ?_;refine zl CF (xP z ((N2.tok p (N.v.bh+1)).marks p 0) p dE) (.cons .here .nil) CI ?_;refine bG ?_;refine Lp (iF eo ?_ (h1:=by simp[cZ,Value.cells,Value.oneCell',bD,bF]));refine bA ?_;refine pR ?_;refine FX [SW z (((N2.tok p (N.v.bh+1)).marks p 0).lJ p)] eo results82 ?_;exact⟨⟨7,[],m,[]⟩,_,by rw[yQ,rB],rfl,rfl⟩
 rw[if_neg ao]at rB;refine bz ?_;refine cO ?_;refine bM ?_;by_cases zh:N.v.c.lim<58+(N.it p).key.length+t.length
 ·rw[if_pos zh]at rB
  refine eU ?_;refine fi ?_;refine zl CF (ig dS) .nil CI ?_;refine Li (VR T.gW) ?_;refine Lp (VA ?_);refine pP [SW z N] ?_;exact⟨.t dS,N,by rw[yQ,rB],rfl,rfl⟩
 rw[if_neg zh]at rB;refine cO ?_;have hR:=wH (M:=N) (n:=58+(N.it p).key.length+t.length) (own:=some p) (o:=(N.room (58+(N.it p).key.length+t.length) (some p)).1) (N:=(N.room (58+(N.it p).key.length+t.length) (some p)).2) ⟨O.mc0,O.Kq.nd,O.Kq.lv,O.Kq.on⟩ rfl;have y6:=vK z N (n4.trans hh) (by rw[n5];exact gB) (N.it p).key.length t.length ⟨by rw[oo];exact VJ,v4⟩ (by omega) (some p) (λq e=>by cases e;exact hN);refine dm ?_;refine zl CF (y6) (.cons .here .nil) CI ?_;rcases hrm:N.room (58+(N.it p).key.length+t.length) (some p)with⟨o,R⟩
 rw[hrm]at hR rB;dsimp only at hR rB⊢;obtain⟨hRp,hRh,_⟩:=hR.s.own p rfl hN;rw[show N.C.hd p=q9 R.C (some p)from hRh.symm];rcases o with _|r0
 ·dsimp only at rB
  refine dm ?_;refine fi ?_;refine zl CF (ig js) .nil CI ?_;refine Li (VR T.gW) ?_;refine Lp (VA ?_);refine pP [SW z R] ?_;exact⟨.t js,R,by rw[yQ,rB],rfl,rfl⟩
 obtain⟨g1,g2,g3,g4⟩:=hR.ok r0 rfl;have hdn:=bV hR.k.k g3.toAt;obtain⟨_,_,_,_,FU,Kx⟩:=hdn;refine bR ?_;refine cO ?_ (e:=by exact decide_eq_false (by show¬(((R.C.hd r0:Nat):Int)=0);omega));refine fq ?_;refine zl CF (DS z R r0 g1 (some p) (N.it p).key t _ _ rfl rfl (λq e=>by cases e;exact⟨hRp,by rw[hR.s.it]⟩) (λe=>by cases e) (some ⟨VD,0,none⟩) ta (N.it p).key.length tc (N.it p).fl (N.it p).exp 0 (by rw[oo];exact hk) g2 v2 v3 (by decide) (by rw[hR.s.bh,n2];exact uz) (by rw[hR.s.tn,n3];exact vq)) (.cons .here .nil) (λ_ le ao=>⟨bP (ao.nth 4 rfl),bP (ao.nth 0 rfl)⟩) ?_;refine bG ?_;refine Lp (iF eo ?_ (h1:=by simp[cZ,Value.cells,Value.oneCell',bD,bF]));refine bA ?_;refine pR ?_;refine FX [SW z (R.gk r0 (some p) ⟨(N.it p).key,t,(N.it p).fl,(N.it p).exp,R.k.now,R.v.bh+1,0⟩)] eo results82 ?_;exact⟨⟨7,[],m,[]⟩,_,by rw[yQ,rB],rfl,rfl⟩
end Go.Proofs.YtcbcjolpdljbiaaGreat
namespace Go.Proofs.YtcbcjolpdljbiaaGreat
open Go Go.dG Go.Proofs.YtcbcjolpdljbiaaGreat.Cs
theorem bL.ck1{B:Bx}{M:Mo}(O:bL B M){k:Ck}(h:sZ k):bL B {M with k:=k}:=
 ⟨O.c,O.k,O.t,O.ty,O.o,O.x,O.mq,h,O.al,O.lv,O.ho,O.it,O.e,O.st,O.nb,O.mg,O.mo,O.bt,O.un,O.on,O.go,O.wn,O.cf,O.n,O.lg⟩
theorem dh.again{n:Nat}{Q:List (List Nat)}{x:Cw}(_:dh n Q x):dh n Q x.again:=⟨(λe=>by cases e),λ_=>⟨rfl,rfl,rfl,rfl⟩,(λ_ e=>by cases e),afk _⟩
theorem HF (z:Ly)(M:Mo)(t:Int)(hi:M.v.bh<18446744073709551616)(ht:t<9223372036854775808):aO aaO 74 [CM z.y.ck,CO CN t,CO CJ M.v.bh] (λ_=>True) [SW z M]
  (λv H=>v= .tuple #[]/\H= [SW z {M with k:=M.k.flush t M.v.bh}]):=
 iS (N:={M with k:=M.k.flush t M.v.bh}) (T:=λv=>v= .tuple #[]) λa c=>dH λB O=>by
  have h:=(yD z.y.ck M.k O.ck.n2 t M.v.bh hi ht).fr (H:=dM z B (M.aQ a c)++ []) (R:= [Cl z.y.b B.C,af z.y.t 154 (fk z.y.b B.W B.ty),af B.ty.nk 149 (aM (aD B.W.nb)),jH B.ty.ok 149 (aM (aD B.W.ob)),af z.y.q 182 (fC z.y.b z.qb B.C.ae.length),af z.qb 333 (M.Q.flatMap (cV B.C)),gh z.y.cr z.y.q z.y.wh B.C.ae.length (aL z.s) (aY z.s) B.C M.x,Wl z.y.wh B.E M.tn,fm z.s z.y (fb (M.aQ a c).v),
   jb z.y.lu z.y.b z.y.q z.hot z.warm,iT z.y.mo z.y.b z.ub (aL z.s) (aY z.s) (bI z.s) M.m,kL z.ub M.m,jJ (M.aQ a c)]) (.cons (.there (.there (.there (.there (.there (.there (.there (.there (.there .here))))))))) .nil) (λ_ _=>trivial)
  refine h.out ?_;rintro v H' ⟨H0,⟨rfl,rfl⟩,rfl⟩;refine⟨[SH z (({M with k:=M.k.flush t M.v.bh}:Mo).aQ a c)],⟨rfl,rfl⟩,λk s=>aB (O.ck1 (O.ck.flush t hi)) (H:= []) k ?_⟩
  revert s
  revert k
  simp only[o8,cap,afs];unfold dM;exact Eh
theorem HJ (z:Ly)(M:Mo):aO aaO 86 [CM z.y.cr] (λ_=>True) [SW z M]
  (λv H=>v= .tuple #[]/\H= [SW z {M with x:=M.x.again}]):=
 iS (N:={M with x:=M.x.again}) (T:=λv=>v= .tuple #[]) λa c=>dH λB O=>by
  have h:=(AO z.y.cr z.y.q z.y.wh B.C.ae.length (aL z.s) (aY z.s) B.C M.x).fr (H:=dM z B (M.aQ a c)++ []) (R:= [Cl z.y.b B.C,af z.y.t 154 (fk z.y.b B.W B.ty),af B.ty.nk 149 (aM (aD B.W.nb)),jH B.ty.ok 149 (aM (aD B.W.ob)),af z.y.q 182 (fC z.y.b z.qb B.C.ae.length),af z.qb 333 (M.Q.flatMap (cV B.C)),Wl z.y.wh B.E M.tn,fm z.s z.y (fb (M.aQ a c).v),
   kO z.y.ck M.k,jb z.y.lu z.y.b z.y.q z.hot z.warm,iT z.y.mo z.y.b z.ub (aL z.s) (aY z.s) (bI z.s) M.m,kL z.ub M.m,jJ (M.aQ a c)]) (.cons (.there (.there (.there (.there (.there (.there .here)))))) .nil) (λ_ _=>trivial)
  refine h.out ?_;rintro v H' ⟨H0,⟨rfl,rfl⟩,rfl⟩;refine⟨[SH z (({M with x:=M.x.again}:Mo).aQ a c)],⟨rfl,rfl⟩,λk s=>aB (O.cw O.x.again) (H:= []) k ?_⟩
  revert s
  revert k
  simp only[o8,cap,afs];unfold dM;exact Eh
theorem DP (b:Nat)(cs:List Value):KQ aaO 80 [CM b] .returning .returning (λ_=>True) [af b 52 cs] (λv H=>v= .tuple #[]/\H= [af b 52 cs]):=by
 refine QL (CF (n:=80)) func80 rfl ntmps80 rfl rfl rfl rfl rfl rfl rfl rfl rfl (.inl ⟨rfl,rfl,rfl⟩) ?_;intro F _;refine bA ?_;refine Li (Iqn T.ZV) ?_;refine bz ?_;refine jW [af b 52 cs] results80 ?_;exact⟨rfl,rfl⟩
theorem Si (b:Nat)(c0 c1 c2 c3 c4:Value)(a:iA):KQ aaO 80 [CM b] (.panicking [pe (rJ (uC a))]) (.panicking [{v:=rJ (uC a),recovered:=true}]) (λ_=>True) [af b 52 [c0,c1,c2,c3,c4]] (λv H=>v= .tuple #[]/\H= [af b 52 (gM a.kind bF a.num a.wx)]):=by
 refine QL (CF (n:=80)) func80 rfl ntmps80 rfl rfl rfl rfl rfl rfl rfl rfl rfl (.inr ⟨rfl,rfl⟩) ?_;intro F _;unfold rJ uC zp gM bF;refine bA ?_;refine Li (Iq T.ZV) ?_;refine bm ?_;refine Li (TaT T.gW) ?_;refine bz ?_;refine Lp (oA Gl λb1=> ?_);refine Lp (iF Ho ?_ (h1:=by simp[cZ,Value.cells,Value.oneCell',bD,bF]));refine gz ?_;refine Lp (oSN eo ?_ (h1:=by simp[cZ,Value.cells,Value.oneCell',bD,bF]));refine aF ?_;refine jW [af b 52 [CO CN a.kind, .slice none 0 0,CO CJ a.num,bD a.wx, .slice none 0 0]] results80 ?_;exact⟨rfl,rfl⟩
def wC:List UInt8:= [103,114,97,110,97,114,121,32,49]
def Mo.delete (M:Mo)(k:List UInt8):iA×Mo:=match M.meet k with
 |(none,N)=>(.k 4,N)
 |(some p,N)=>(.k 5,N.ca p)
def Mo.fW (M:Mo)(c:fe):iA×Mo:=
 if 1<=c.aH/\c.aH<=4 then M.zi c.aH c.keys c.ex
 else if c.aH=12\/c.aH=13 then M.counts c (c.keys.headD [])
 else if c.aH=14 then M.ic (c.keys.headD []) c.ex
 else if c.aH=11 then M.delete (c.keys.headD [])
 else if c.aH=15 then(.k 8,{M with k:=M.k.flush c.ex M.v.bh,x:=M.x.again})
 else if c.aH=16 then(⟨10,[],0,wC⟩,M)
 else if c.aH=17 then(.k 8,M)
 else if c.aH=18 then(.k 12,M)
 else M.dJ c (c.keys.headD [])
def KP (z:Ly)(r:iA×Mo)(v:Value)(H:List aa):Prop:=∃ea ec l,l.map Prod.fst=r.1.eA/\v=zp r.1.kind (.slice ea l.length ec) r.1.num r.1.wx/\H= [own ea ec 56 9 (ky l),kx l,SW z r.2]
theorem vV{M N:Mo}{c:fe}{k:List UInt8}{a:iA}(h:M.counts c k=(a,N)):a.eA= []:=by
 have:(M.counts c k).1.eA= []:=by
  unfold Mo.counts Mo.sq
  (repeat' split)<;>rfl
 rw[h]at this;exact this
theorem vM{M N:Mo}{c:fe}{k:List UInt8}{a:iA}(h:M.dJ c k=(a,N)):a.eA= []:=by
 have:(M.dJ c k).1.eA= []:=by
  unfold Mo.dJ Mo.jo Mo.lays
  (repeat' split)<;>rfl
 rw[h]at this;exact this
theorem tW{M N:Mo}{k:List UInt8}{e:Int}{a:iA}(h:M.ic k e=(a,N)):a.eA= []:=by
 have:(M.ic k e).1.eA= []:=by
  unfold Mo.ic
  (repeat' split)<;>rfl
 rw[h]at this;exact this
section
variable {n t b:Nat} {F:dC} {σ:aZ} {fn:Func} {z:Ly} {r:iA×Mo} {R:List aa}
theorem kC (hr:fn.results= #[.cell t 52])(he:r.1.eA= [])(ht:dG.look σ t=some (CM b):=by exact rfl):
  G n [Oj 80 [] [CM b]] F (bodyPostD aaO fn (λe w'=>∃v H',e= .returned v/\KP z r v H'/\St F H' w') .ret) σ (af b 52 (gM r.1.kind bF r.1.num r.1.wx)::SW z r.2::R):=by
 refine dw 56 9 ?_;refine tR ?_;refine RrC (e:=52) [own none 0 56 9 (ky []),kx [],SW z r.2] eo hr (DP b (gM r.1.kind bF r.1.num r.1.wx)) (.cons (.there (.there .here)) .nil) CI ?_ ht;rintro v Hx ⟨rfl,rfl⟩;exact⟨_,_,_, .here,rfl,rfl,⟨none,0,[],he.symm,rfl,rfl⟩,λh s=>dx (by
  obtain⟨_,h2,_,_,l2,_,s⟩:=s;exact eL (aK (λk s=>aK (R:=SW z r.2::R) (λk s=>aK (R':= []) (λ_ _=>trivial) s) s) s) l2)⟩
theorem tI{c0 c1 c2 c3 c4:Value}(hr:fn.results= #[.cell t 52])(he:r.1.eA= [])(ht:dG.look σ t=some (CM b):=by exact rfl):
  G n [Oj 80 [] [CM b]] F (bodyPostD aaO fn (λe w'=>∃v H',e= .returned v/\KP z r v H'/\St F H' w') (.panic [pe (rJ (uC r.1))])) σ (af b 52 [c0,c1,c2,c3,c4]::SW z r.2::R):=by
 refine dw 56 9 ?_;refine tR ?_;refine RpC (e:=52) [own none 0 56 9 (ky []),kx [],SW z r.2] eo hr (Si b c0 c1 c2 c3 c4 r.1) (.cons (.there (.there .here)) .nil) CI ?_ ht;rintro v Hx ⟨rfl,rfl⟩;exact⟨_,_,_, .here,rfl,rfl,⟨none,0,[],he.symm,rfl,rfl⟩,λh s=>dx (by
  obtain⟨_,h2,_,_,l2,_,s⟩:=s;exact eL (aK (λk s=>aK (R:=SW z r.2::R) (λk s=>aK (R':= []) (λ_ _=>trivial) s) s) s) l2)⟩
end
theorem ab1 (z:Ly)(M:Mo)(c:fe)(ka:Option Addr)(kc:Nat)(da:Option Addr)(dc:Nat)(mv:Value)(mH:mv.oneCell'=true)(hb:Bg c=false)(FB:c.keys.length<1073741824)(uj:∀k∈c.keys,k.length<281474976710656)(hw:M.j6= [])(hex:c.ex<9223372036854775808)(hda:c.data.length<281474976710656)(Od:c.dl<18446744073709551616)
  (hh:M.hole=none) (gB:M.m.st<4611686018427387904) (KI:M.v.c.lim<=1048576) (uz:M.v.bh+1<18446744073709551616) (vq:M.tn+c.keys.length<18446744073709551615):
  aO aaO 43 [CM z.s, .agg (fu c ka kc da dc mv).toArray] (λh=>gg h ka (iK c.keys)/\gg h da (ax c.data)) [SW z M] (KP z (M.fW c)):=by
 have kX:M.fW c=if 1<=c.aH/\c.aH<=4 then M.zi c.aH c.keys c.ex else if c.aH=12\/c.aH=13 then M.counts c (c.keys.headD [])else if c.aH=14 then M.ic (c.keys.headD []) c.ex else if c.aH=11 then M.delete (c.keys.headD [])else if c.aH=15 then(.k 8,{M with k:=M.k.flush c.ex M.v.bh,x:=M.x.again})else if c.aH=16 then(⟨10,[],0,wC⟩,M)else if c.aH=17 then(.k 8,M)else if c.aH=18 then(.k 12,M)else M.dJ c (c.keys.headD []):=rfl
 have hbf:Bg c=(decide (cB c.aH<0\/0<cB c.aH/\c.keys.length=0\/cB c.aH=1/\1<c.keys.length) ||(decide (0<cB c.aH)&&c.keys.any λk=> !eF k) ||decide (5<=c.aH/\c.aH<=10/\4294967295<c.fl)):=rfl;rw[hb]at hbf;have agX:=hbf.symm;simp only[Bool.or_eq_false_iff,decide_eq_false_iff_not]at agX;obtain⟨⟨ee,ed⟩,cS⟩:=agX;have hv0:1<=c.aH/\c.aH<=18:=by
  refine aa2 λg=>ee (.inl ?_);unfold cB;rw[if_neg (by omega),if_neg (by omega),if_neg (by omega)];decide
 have IN:5<=c.aH->c.aH<=14->∃k,c.keys= [k]/\eF k=true:=λh1 h2=>by
  have hvi:cB c.aH=1:=by unfold cB;rw[if_neg (by omega),if_pos (by omega)]
  rw[hvi]at ee ed;rcases hk:c.keys with _|⟨k,_|⟨k2,r⟩⟩
  ·exact absurd (.inr (.inl ⟨by decide,by rw[hk];rfl⟩)) ee
  ·refine⟨k,rfl, ?_⟩
   rw[hk]at ed
   simpa using ed
  exact absurd (.inr (.inr ⟨rfl,by rw[hk];simp⟩)) ee
 refine Uc func43 rfl ntmps43 rfl ?_;rintro F ⟨hr,hd⟩;refine av ?_;refine Lp (oB λb1=> ?_);refine Lp (oA oX λb2=> ?_);refine bA ?_;refine Li Mf ?_;refine Lp (oDv ?_);refine av ?_;refine aw ?_;refine Hh (H':= [SW z M,af b1 42 (fu c ka kc da dc mv),af b2 52 [CO CN 0,bF,CO CJ 0,bD [],bF]]) ?_;refine bE ?_;refine aw ?_;refine dt (ι:=Bool) [10,9,11,12,13] (λb=>b=decide (1<=c.aH/\c.aH<=4)) (λb=> [(9, .bool b)]) (λb=> [SW z M,af b1 42 (fu c ka kc da dc mv),af b2 52 [CO CN 0,bF,CO CJ 0,bD [],bF]]) ?_ ?_
 ·refine gK ?_
  refine bz ?_;refine aE rfl ?_ ?_
  ·intro dQ
   replace dQ:=aS dQ;refine av ?_;refine Me (decide (1<=c.aH/\c.aH<=4)) (rfl) (hs:=⟨(by refine congrArg (λq=>some (Value.bool q)) ?_;first|exact(CH).symm|exact decide_eq_decide.2 (by omega)|exact(CG).symm),trivial⟩)
  intro dQ;replace dQ:=aS dQ;refine bm ?_;refine aE rfl ?_ ?_
  ·intro ee
   replace ee:=aS ee;refine av ?_;refine Me (decide (1<=c.aH/\c.aH<=4)) (rfl) (hs:=⟨(by refine congrArg (λq=>some (Value.bool q)) ?_;first|exact(CH).symm|exact decide_eq_decide.2 (by omega)|exact(CG).symm),trivial⟩)
  intro ee;replace ee:=aS ee;refine bm ?_;refine aE rfl ?_ ?_
  ·intro ed
   replace ed:=aS ed;refine av ?_;refine Me (decide (1<=c.aH/\c.aH<=4)) (rfl) (hs:=⟨(by refine congrArg (λq=>some (Value.bool q)) ?_;first|exact(CH).symm|exact decide_eq_decide.2 (by omega)|exact(CG).symm),trivial⟩)
  intro ed;replace ed:=aS ed;refine bz ?_;refine aF ?_;refine Me (decide (1<=c.aH/\c.aH<=4)) (rfl) (hs:=⟨(by refine congrArg (λq=>some (Value.bool q)) ?_;first|exact(CH).symm|exact decide_eq_decide.2 (by omega)|exact(CG).symm),trivial⟩)
 rintro b hI;subst hI;by_cases h4:1<=c.aH/\c.aH<=4
 ·rw[if_pos h4]at kX
  rw[kX];refine eU ?_ (e:=by exact decide_eq_true h4);refine bz ?_;refine Lp (oC CF rfl rfl (Yy z M c ka kc da dc mv mH uj FB hw hex vq) (.cons .here .nil) (λ_ le _=>hr.mono le) ?_);rintro v H' ⟨a,N,ea,ec,l,hg,hl,rfl,rfl⟩;refine aX ?_;refine Lp (iF eo ?_ (h1:=by simp[gM,Value.oneCell',bD]));refine bm ?_;refine RrC (e:=52) [own ea ec 56 9 (ky l),kx l,SW z N] eo results43 (DP b2 _) (.cons (.there (.there (.there (.there .here)))) .nil) CI ?_;rintro v Hx ⟨rfl,rfl⟩;exact⟨_,_,_, .here,rfl,rfl,⟨ea,ec,l,by rw[hg];exact hl,by rw[hg];rfl,by rw[hg]⟩,Eh⟩
 rw[if_neg h4]at kX;refine cO ?_ (e:=by exact decide_eq_false h4);refine aw ?_;refine dt (ι:=Bool) [18,17,19] (λb=>b=decide (c.aH=12\/c.aH=13)) (λb=> [(17, .bool b)]) (λb=> [SW z M,af b1 42 (fu c ka kc da dc mv),af b2 52 [CO CN 0,bF,CO CJ 0,bD [],bF]]) ?_ ?_
 ·refine gK ?_
  refine bz ?_;refine aE rfl ?_ ?_
  ·intro dQ
   replace dQ:=aS dQ;refine av ?_;refine Me (decide (c.aH=12\/c.aH=13)) (rfl) (hs:=⟨(by refine congrArg (λq=>some (Value.bool q)) ?_;first|exact(CH).symm|exact decide_eq_decide.2 (by omega)|exact(CG).symm),trivial⟩)
  intro dQ;replace dQ:=aS dQ;refine bz ?_;refine aF ?_;refine Me (decide (c.aH=12\/c.aH=13)) (rfl) (hs:=⟨(by refine congrArg (λq=>some (Value.bool q)) ?_;first|exact(CH).symm|exact decide_eq_decide.2 (by omega)|exact(CG).symm),trivial⟩)
 rintro b hI;subst hI;by_cases AW:c.aH=12\/c.aH=13
 ·rw[if_pos AW]at kX
  obtain⟨k,sS,Gc⟩:=IN (by omega) (by omega);rw[sS]at kX;change M.fW c=M.counts c k at kX;rw[kX];refine eU ?_ (e:=by exact decide_eq_true AW);refine bz ?_;refine Lp (Ov CF rfl rfl (NQ z M c ka kc da dc mv mH k [] sS Gc (by rw[hw];decide) Od hh gB KI uz (by rw[sS]at vq;exact af6 (ajI _ _) vq)) (.cons .here .nil) (λ_ le _=>hr.mono le) (by rintro v H' ⟨a,N,hm,rfl,rfl⟩;refine Hh (H':= [af b2 52 [CO CN 0,bF,CO CJ 0,bD [],bF],SW z N]) ?_;rw[hm];exact tI (z:=z) (r:=(a,N)) (R:= []) (c0:=CO CN 0) (c1:=bF) (c2:=CO CJ 0) (c3:=bD []) (c4:=bF) results43 (vV hm)) ?_);rintro v H' ⟨a,N,hm,rfl,rfl⟩;refine aX ?_;refine Lp (iF eo ?_ (h1:=by simp[gM,Value.oneCell',bD,bF]));refine bm ?_;refine Hh (H':= [af b2 52 (gM a.kind bF a.num a.wx),SW z N]) ?_;rw[hm];exact kC (z:=z) (r:=(a,N)) (R:= []) results43 (vV hm)
 rw[if_neg AW]at kX;refine cO ?_ (e:=by exact decide_eq_false AW);refine bm ?_;by_cases v14:c.aH=14
 ·rw[if_pos v14]at kX
  obtain⟨k,sS,Gc⟩:=IN (by omega) (by omega);rw[sS]at kX;change M.fW c=M.ic k c.ex at kX;rw[kX];refine eU ?_ (e:=by exact decide_eq_true v14);refine bz ?_;refine Lp (Ov CF rfl rfl (Hy z M c ka kc da dc mv mH k [] sS (by have:=(fL Gc).2;omega) (by rw[hw];decide) hex (by rw[sS]at vq;exact af6 (ajI _ _) vq)) (.cons .here .nil) (λ_ le _=>hr.mono le) (by rintro v H' ⟨a,N,hm,rfl,rfl⟩;refine Hh (H':= [af b2 52 [CO CN 0,bF,CO CJ 0,bD [],bF],SW z N]) ?_;rw[hm];exact tI (z:=z) (r:=(a,N)) (R:= []) (c0:=CO CN 0) (c1:=bF) (c2:=CO CJ 0) (c3:=bD []) (c4:=bF) results43 (tW hm)) ?_);rintro v H' ⟨a,N,hm,rfl,rfl⟩;refine aX ?_;refine Lp (iF eo ?_ (h1:=by simp[gM,Value.oneCell',bD,bF]));refine bm ?_;refine Hh (H':= [af b2 52 (gM a.kind bF a.num a.wx),SW z N]) ?_;rw[hm];exact kC (z:=z) (r:=(a,N)) (R:= []) results43 (tW hm)
 rw[if_neg v14]at kX;refine cO ?_ (e:=by exact decide_eq_false v14);refine bm ?_;by_cases v11:c.aH=11
 ·rw[if_pos v11]at kX
  obtain⟨k,sS,Gc⟩:=IN (by omega) (by omega);rw[sS]at kX;change M.fW c=M.delete k at kX;rw[kX];refine eU ?_ (e:=by exact decide_eq_true v11);refine bz ?_;refine Lp (Ov CF rfl rfl (x8 z M c ka kc da dc mv mH k [] sS (by have:=(fL Gc).2;omega) (by rw[hw];decide)) (.cons .here .nil) (λ_ le _=>hr.mono le) (by rintro v H' ⟨N,hm,rfl,rfl⟩;refine Hh (H':= [af b2 52 [CO CN 0,bF,CO CJ 0,bD [],bF],SW z N]) ?_;have hdd:M.delete k=(.k 4,N):=(by unfold Mo.delete;rw[hm]);rw[hdd];exact tI (z:=z) (r:=(.k 4,N)) (R:= []) (c0:=CO CN 0) (c1:=bF) (c2:=CO CJ 0) (c3:=bD []) (c4:=bF) results43 rfl) ?_);rintro v H' ⟨p,N,hm,rfl,rfl⟩;refine aX ?_;obtain⟨m1,m2,m3⟩:=nH hm;have hN:N.has p:=by rw[m3];exact m1
  have hC:M.C=N.C:=by rw[m3];rfl
  have hdd:M.delete k=(.k 5,N.ca p):=by unfold Mo.delete;rw[hm]
  rw[hdd,hC];refine bE ?_;refine zl CF (uQ z N p hN) (.cons .here .nil) CI ?_;refine bz ?_;refine Lp (iF eo ?_ (h1:=by simp[cZ,Value.cells,Value.oneCell',bD,bF]));refine bm ?_;refine Hh (H':= [af b2 52 (gM 5 bF 0 []),SW z (N.ca p)]) ?_;exact kC (z:=z) (r:=(⟨5,[],0,[]⟩,(N.ca p))) (R:= []) results43 rfl rfl
 rw[if_neg v11]at kX;refine cO ?_ (e:=by exact decide_eq_false v11);refine bm ?_;by_cases v15:c.aH=15
 ·rw[if_pos v15]at kX
  rw[kX];refine eU ?_ (e:=by exact decide_eq_true v15);refine aw ?_;refine hJ 11 mix (.cons .here (.cons .here .nil)) λF1 jf bZ aN=> ?_;obtain⟨q1,q2,_⟩:=bZ;refine bm ?_
  first
   |refine Ti (Lf s8) ?_
   |refine Ti (AZ s8 q1) ?_
  refine av ?_
  first
   |refine Ti (Lf bC) ?_
   |refine Ti (AZ bC q1) ?_
  refine bz ?_
  first
   |refine Ti (Lf rG) ?_
   |refine Ti (AZ rG q1) ?_
  refine gd aN ?_;refine Tp (oC CF rfl rfl (HF z M c.ex (by omega) hex) (.cons .here .nil) CI ?_);rintro v H' ⟨rfl,rfl⟩;refine aX ?_;refine bR ?_;refine zl CF (HJ z {M with k:=M.k.flush c.ex M.v.bh}) (.cons .here .nil) CI ?_;refine bz ?_;refine Lp (iF eo ?_ (h1:=by simp[cZ,Value.cells,Value.oneCell',bD,bF]));refine bm ?_;refine Hh (H':= [af b2 52 (gM 8 bF 0 []),SW z {M with k:=M.k.flush c.ex M.v.bh,x:=M.x.again}]) ?_;exact kC (z:=z) (r:=(⟨8,[],0,[]⟩,{M with k:=M.k.flush c.ex M.v.bh,x:=M.x.again})) (R:= []) results43 rfl rfl
 rw[if_neg v15]at kX;refine cO ?_ (e:=by exact decide_eq_false v15);refine bm ?_;by_cases v16:c.aH=16
 ·rw[if_pos v16]at kX
  rw[kX];refine eU ?_ (e:=by exact decide_eq_true v16);refine bA ?_;refine Lp (iF eo ?_ (h1:=by simp[cZ,Value.cells,Value.oneCell',bD,bF]));refine bm ?_;refine Hh (H':= [af b2 52 (gM 10 bF 0 wC),SW z M]) ?_;exact kC (z:=z) (r:=(⟨10,[],0,wC⟩,M)) (R:= []) results43 rfl rfl
 rw[if_neg v16]at kX;refine cO ?_ (e:=by exact decide_eq_false v16);refine bm ?_;by_cases v17:c.aH=17
 ·rw[if_pos v17]at kX
  rw[kX];refine eU ?_ (e:=by exact decide_eq_true v17);refine bA ?_;refine Lp (iF eo ?_ (h1:=by simp[cZ,Value.cells,Value.oneCell',bD,bF]));refine bm ?_;refine Hh (H':= [af b2 52 (gM 8 bF 0 []),SW z M]) ?_;exact kC (z:=z) (r:=(⟨8,[],0,[]⟩,M)) (R:= []) results43 rfl rfl
 rw[if_neg v17]at kX;refine cO ?_ (e:=by exact decide_eq_false v17);refine bm ?_;by_cases v18:c.aH=18
 ·rw[if_pos v18]at kX
  rw[kX];refine eU ?_ (e:=by exact decide_eq_true v18);refine bA ?_;refine Lp (iF eo ?_ (h1:=by simp[cZ,Value.cells,Value.oneCell',bD,bF]));refine bm ?_;refine Hh (H':= [af b2 52 (gM 12 bF 0 []),SW z M]) ?_;exact kC (z:=z) (r:=(⟨12,[],0,[]⟩,M)) (R:= []) results43 rfl rfl
 rw[if_neg v18]at kX;refine cO ?_ (e:=by exact decide_eq_false v18);refine bG ?_;obtain⟨k,sS,Gc⟩:=IN (by omega) (by omega);rw[sS]at kX;change M.fW c=M.dJ c k at kX;rw[kX];refine Lp (Ov CF rfl rfl (Lj z M c ka kc da dc mv mH k [] sS Gc (by rw[hw];decide) hex (by have:¬_:=cS;omega) hda hh gB KI uz (by rw[sS]at vq;exact af6 (ajI _ _) vq)) (.cons .here .nil) (λ_ le _=>⟨hr.mono le,hd.mono le⟩) (by rintro v H' ⟨a,N,hm,rfl,rfl⟩;refine Hh (H':= [af b2 52 [CO CN 0,bF,CO CJ 0,bD [],bF],SW z N]) ?_;rw[hm];exact tI (z:=z) (r:=(a,N)) (R:= []) (c0:=CO CN 0) (c1:=bF) (c2:=CO CJ 0) (c3:=bD []) (c4:=bF) results43 (vM hm)) ?_);rintro v H' ⟨a,N,hm,rfl,rfl⟩;refine aX ?_;refine Lp (iF eo ?_ (h1:=by simp[gM,Value.oneCell',bD,bF]));refine bA ?_;refine Hh (H':= [af b2 52 (gM a.kind bF a.num a.wx),SW z N]) ?_;rw[hm];exact kC (z:=z) (r:=(a,N)) (R:= []) results43 (vM hm)
end Go.Proofs.YtcbcjolpdljbiaaGreat
namespace Go.dG
open Go
class aaJ (A:aa)(b i:Nat)(vs:List Value)(A':outParam aa):Prop where
 cut:∀h,A h->∃e cs R,i+vs.length<=cs.length/\ai (af b e cs::R) h/\∀k,ai (af b e (cZ cs i vs)::R) k->A' k
section
variable {P:Program} {n:Nat} {ds:List Deferred} {F:dC} {Q:Exit->Act->World->Prop} {K:Act->World->Prop} {σ:aZ} {H:List aa} {o:Oper} {d:Nat}
theorem agI{t k:TypeId}{x y:Operand}{A A':aa}{R:List aa}{b:Nat}{vs:List Value}(i:Nat)(hs:cG P t=some k)(h:G n ds F K σ (A'::R))(ho:o.op= .store t x y:=by exact rfl)(hd:o.dst=none:=by exact rfl)
  (hx:bJ σ x=some (.pointer (some ⟨b,i,none⟩)):=by exact rfl) (hy:bJ σ y=some (.agg vs.toArray):=by exact rfl) (hk:vs.length=k:=by exact rfl) (c:aaJ A b i vs A':=by infer_instance) (h1:∀v∈vs,v.oneCell'=true:=by simp[cZ,Value.cells,Value.oneCell',bD]):G n ds F (λa w=>o.wp P a w K Q) σ (A::R):=
 .mk λa w en s=>by
  obtain⟨a1,a2,a3,fr,hh,st,l,dj⟩:=s;obtain⟨k1,k2,d12,l1,l2,ha,sr⟩:=st;obtain⟨e,cs,R0,hi,s1,back⟩:=c.cut k1 ha;have s2:ai (af b e cs::(R0++R)) hh:=qK (A:=A) (B:=A) d12 l1 l2 s1 sr;refine(uY hs ho hd hx hy hk h1 .here hi (au (λk sk=> ?_) h)) a w en ⟨a1,a2,a3,fr,hh,s2,l,dj⟩;obtain⟨m1,m2,d',n1,n2,t1,t2⟩:=bx (A:=af b e (cZ cs i vs)::R0) sk;exact⟨m1,m2,d',n1,n2,back m1 t1,t2⟩
theorem Fga{s f k sz:Nat}{e:TypeId}{x:Operand}{cs vs:List Value}(hk:Gf P s f=some (k,e))(he:cG P e=some sz)(ho:o.op= .field s x f:=by exact rfl)(hx:bJ σ x=some (.agg cs.toArray):=by exact rfl)(hv:(cs.drop k).take sz=vs:=by exact rfl):Yv P n ds F σ o (.agg vs.toArray):=λa w en fr=>by
 obtain⟨h1,h2⟩:=fy (w:=w) he;unfold Gf at hk;cases hu:P.underlying s with
 |none=>simp[hu]at hk
 |some d=>
  cases d<;>simp[hu]at hk
  rename_i fs
  obtain⟨y,hf,e1,e2⟩:=hk;subst e1;subst e2;have e:cs.toArray.extract y.offset (y.offset+sz)=vs.toArray:=by
   rw[<-hv];simp[List.take_drop]
  simp[execOp,ho,Instr.field,en.eval hx,run_underlying hu,hf,asAgg,part,h1,h2,e];exact hv
end
end Go.dG
namespace Go.Proofs.YtcbcjolpdljbiaaGreat
open Go Go.dG Go.Proofs.YtcbcjolpdljbiaaGreat.Cs
theorem U2:Gf aaO 102 0=some (0,52):=by kernel_rfl
instance sw_mt0{z:Ly}{M:Mo}:aaJ (SW z M) z.s 21 [CO CN 0,CO CN 0,CO CN 0,CO CN 0,CO CN 0,CO CN 0,CO CN 0] (SW z (M.aU .zero)):=⟨λh s=>by
 obtain⟨w,s⟩:=s;obtain⟨B,O,t⟩:=tK s;refine⟨_,_,VS z B (M.aQ w.1 w.2),(by simp[iQ,fb]),t,λk sk=>⟨w,B,O.aU .zero, ?_⟩⟩;rw[show cZ (iQ z.y (fb (M.aQ w.1 w.2).v)) 21 [CO CN 0,CO CN 0,CO CN 0,CO CN 0,CO CN 0,CO CN 0,CO CN 0]=iQ z.y (fb ((M.aQ w.1 w.2).aU .zero).v)from rfl]at sk;exact(wX z B ((M.aQ w.1 w.2).aU .zero)).back _ sk⟩
def Mo.vy (M:Mo):Mo:={M with j6:= []}
theorem bL.vy{B:Bx}{M:Mo}(O:bL B M):bL B (M.vy.aQ none 0):=
 ⟨O.c,O.k,O.t,O.ty,O.o,O.x,O.mq,O.ck,O.al,O.lv,O.ho,O.it,O.e,O.st,O.nb,O.mg,O.mo,O.bt,O.un,O.on,O.go,rfl,O.cf,O.n,O.lg⟩
instance sw_why{z:Ly}{M:Mo}:r8 (SW z M) z.s 28 (.slice none 0 0) (SW z M.vy):=⟨λh s=>by
 obtain⟨w,s⟩:=s;obtain⟨B,O,t⟩:=tK s;refine⟨_,_,VS z B (M.aQ w.1 w.2),(by simp[iQ,fb]),t,λk sk=>⟨(none,0),B,O.vy, ?_⟩⟩;rw[show(iQ z.y (fb (M.aQ w.1 w.2).v)).set 28 (.slice none 0 0)=iQ z.y (fb (M.vy.aQ none 0).v)from rfl]at sk;refine(wX z B (M.vy.aQ none 0)).back _ ?_;have s2:=rN 3 1 sk
 clear sk
 revert s2
 revert k
 unfold VS;simp only[jJ];rw[show aA (M.vy.aQ none 0).j6= []from rfl];exact Eh⟩
def Mo.reset (M:Mo):Mo:=(M.aU .zero).vy
theorem rh.fE{M:Mo}(K:rh M)(w:Nat):rh (M.fE w):=⟨K.k,K.nd,K.lv,K.on⟩
structure Kd (M N:Mo)(t:Nat):Prop where
 ho:N.hole=M.hole
 st:N.m.st=M.m.st
 p:N.v.p=M.v.p
 c:N.v.c=M.v.c
 bh:N.v.bh<=M.v.bh+1
 tn:N.tn<=M.tn+t
theorem Kd.le{M N:Mo}{s t:Nat}(h:Kd M N s)(e:s<=t):Kd M N t:=⟨h.ho,h.st,h.p,h.c,h.bh,Nat.le_trans h.tn (Nat.add_le_add_left e _)⟩
theorem Kd.rf{M N:Mo}(ho:N.hole=M.hole)(st:N.m.st=M.m.st)(p:N.v.p=M.v.p)(c:N.v.c=M.v.c)(i:N.v.bh=M.v.bh)(t:N.tn=M.tn):Kd M N 0:=⟨ho,st,p,c,by omega,by omega⟩
theorem wM (M:Mo)(k:List UInt8):(M.meet k).2.hole=M.hole/\(M.meet k).2.m=M.m/\(M.meet k).2.v.p=M.v.p/\(M.meet k).2.v.c=M.v.c/\(M.meet k).2.v.bh=M.v.bh/\(M.meet k).2.tn=M.tn:=by
 unfold Mo.meet;cases M.find k with
 |none=>exact⟨rfl,rfl,rfl,rfl,rfl,rfl⟩
 |some p=>
  dsimp only
  split<;>exact⟨rfl,rfl,rfl,rfl,rfl,rfl⟩
theorem rh.meet{M N:Mo}(K:rh M){k:List UInt8}{o:Option Nat}(h:M.meet k=(o,N)):rh N:=by
 unfold Mo.meet at h;cases hf:M.find k with
 |none=>rw[hf]at h;simp only[Prod.mk.injEq]at h;rw[<-h.2];exact K.fE 1
 |some p=>
  rw[hf]at h;dsimp only at h
  split at h
  ·simp only[Prod.mk.injEq]at h
   rw[<-h.2];exact((K.fE _).ca (nL hf).1).1
  simp only[Prod.mk.injEq]at h;rw[<-h.2];exact K.fE 0
theorem Yz (iP:Bool)(ex:Int)(s:List I3×Mo)(k:List UInt8):(Mo.kh iP ex s k).2.hole=s.2.hole/\(Mo.kh iP ex s k).2.m=s.2.m/\(Mo.kh iP ex s k).2.v.p=s.2.v.p/\(Mo.kh iP ex s k).2.v.c=s.2.v.c/\(Mo.kh iP ex s k).2.v.bh=s.2.v.bh/\(Mo.kh iP ex s k).2.tn<=s.2.tn+1:=by
 obtain⟨h1,h2,h3,h4,h5,h6⟩:=wM s.2 k;unfold Mo.kh;rcases hm:s.2.meet k with⟨_|p,N⟩<;>rw[hm]at h1 h2 h3 h4 h5 h6
 ·exact⟨h1,h2,h3,h4,h5,by dsimp only at*;omega⟩
 dsimp only at*;cases iP
 ·exact⟨h1,h2,h3,h4,h5,by show N.tn<=_;omega⟩
 refine⟨h1,h2,h3,h4,h5, ?_⟩;have:=BW N p (gL N.k.now ex);show(N.time p _).tn<=_;omega
theorem JX (iP:Bool)(ex:Int):∀(l:List (List UInt8)) (s:List I3×Mo),(l.foldl (Mo.kh iP ex) s).2.hole=s.2.hole/\(l.foldl (Mo.kh iP ex) s).2.m=s.2.m/\(l.foldl (Mo.kh iP ex) s).2.v.p=s.2.v.p/\(l.foldl (Mo.kh iP ex) s).2.v.c=s.2.v.c/\(l.foldl (Mo.kh iP ex) s).2.v.bh=s.2.v.bh/\(l.foldl (Mo.kh iP ex) s).2.tn<=s.2.tn+l.length
 | [],s=>⟨rfl,rfl,rfl,rfl,rfl,aa0 _⟩
 |k::l,s=>by
  obtain⟨a1,a2,a3,a4,a5,a6⟩:=Yz iP ex s k;obtain⟨b1,b2,b3,b4,b5,b6⟩:=JX iP ex l (Mo.kh iP ex s k);rw[List.foldl_cons,afn];exact⟨b1.trans a1,b2.trans a2,b3.trans a3,b4.trans a4,b5.trans a5,by omega⟩
theorem Yg{M:Mo}{r:Nat}{old:Option Nat}{n:I3}:(M.gk r old n).hole=none/\(M.gk r old n).m=M.m/\(M.gk r old n).v.p=M.v.p/\(M.gk r old n).v.c=M.v.c/\(M.gk r old n).v.bh=M.v.bh+1/\(M.gk r old n).tn<=M.tn+1:=by
 cases old<;>refine⟨rfl,rfl,rfl,rfl,rfl, ?_⟩
 ·show(if 0<n.exp then M.tn+1 else M.tn)<=_
  split<;>omega
 show(if 0<n.exp then M.tn+1 else M.tn)<=_
 split<;>omega
theorem Jq (M:Mo)(old:Option Nat)(ov:Bool):Kd M (M.over old ov) 0:=by
 unfold Mo.over;cases old with
 |none=>exact .rf rfl rfl rfl rfl rfl rfl
 |some p=>dsimp only;split<;>exact .rf rfl rfl rfl rfl rfl rfl
theorem Kd.fZ{M N:Mo}{own:Option Nat}(s:IE M N own)(h:N.hole=M.hole):Kd M N 0:= .rf h s.st s.p s.c s.bh s.tn
theorem Kd.tr{M N O:Mo}{s t:Nat}(a:Kd M N s)(i:N.v.bh=M.v.bh)(b:Kd N O t):Kd M O (s+t):=⟨b.ho.trans a.ho,b.st.trans a.st,b.p.trans a.p,b.c.trans a.c,by have:=b.bh;omega,by have:=a.tn;have:=b.tn;omega⟩
theorem Jh{M:Mo}(K:rh M)(hh:M.hole=none)(n:Nat)(own old:Option Nat)(ov:Bool)(X:Mo->Nat->I3)(a:iA)(b:iA):Kd M (match M.room n own with|(none,R)=>(a,R.over old ov)|(some r,R)=>(b,R.gk r old (X R r))).2 1:=by
 have R:=wH K (n:=n) (own:=own) (o:=(M.room n own).1) (N:=(M.room n own).2) rfl;rcases hr:M.room n own with⟨_|r,N⟩<;>rw[hr]at R
 ·exact((Kd.fZ R.s (R.no rfl)).tr R.s.bh (Jq N old ov)).le (by omega)
 obtain⟨l1,l2,l3,l4,l5,l6⟩:=Yg (M:=N) (r:=r) (old:=old) (n:=X N r);exact⟨l1.trans hh.symm,by rw[l2];exact R.s.st,l3.trans R.s.p,l4.trans R.s.c,(by show(N.gk r old (X N r)).v.bh<=_;rw[l5,R.s.bh];omega),(by have h9:N.tn=M.tn:=R.s.tn;show(N.gk r old (X N r)).tn<=_;omega)⟩
theorem CB{M:Mo}(K:rh M)(hh:M.hole=none)(c:fe):Kd M (M.fW c).2 (max c.keys.length 1):=by
 have mk:=λk=>wM M k;have K1:∀k o N,M.meet k=(o,N)->rh N/\N.hole=none/\Kd M N 0/\N.v.bh=M.v.bh:=λk o N h=>by
  obtain⟨h1,h2,h3,h4,h5,h6⟩:=mk k;rw[h]at h1 h2 h3 h4 h5 h6;exact⟨K.meet h,h1.trans hh, .rf h1 (congrArg iz.st h2) h3 h4 h5 h6,h5⟩
 unfold Mo.fW
 split
 ·obtain⟨g1,g2,g3,g4,g5,g6⟩:=JX (decide (c.aH=3\/c.aH=4)) c.ex c.keys ([],M)
  exact⟨g1,congrArg iz.st g2,g3,g4,by have:=g5;show _<=_;unfold Mo.zi;dsimp only at*;omega,by unfold Mo.zi;dsimp only at*;omega⟩
 split
 ·unfold Mo.counts
  rcases hm:M.meet (c.keys.headD [])with⟨_|p,N⟩<;>obtain⟨k1,k2,k3,k4⟩:=K1 _ _ _ hm
  ·exact k3.le (by omega)
  dsimp only
  split
  ·exact k3.le (by omega)
  next n _=>
  unfold Mo.sq
  split
  ·exact(k3.tr k4 (⟨rfl,rfl,rfl,rfl,(by show N.v.bh+1<=_;exact aa0 _),aa0 _⟩:Kd N ((((N.pf p (gQ (pq c n))).rk (N.v.bh+1)).tok p (N.v.bh+1)).marks p 0|>.lJ p) 0)).le (by omega)
  split
  ·exact k3.le (by omega)
  have:=Jh k1 k2 (58+(N.it p).key.length+(gQ (pq c n)).length) (some p) (some p) false (λR r=>⟨(N.it p).key,gQ (pq c n),(N.it p).fl,(N.it p).exp,R.k.now,R.v.bh+1,0⟩) (.t js) ⟨7,[],pq c n,[]⟩;refine Kd.le (k3.tr k4 (t:=1) ?_) (by omega)
  revert this
  generalize N.room (58+(N.it p).key.length+(gQ (pq c n)).length) (some p)=o;rcases o with⟨_|r,R⟩
  ·exact λh=>h
  exact λh=>h
 split
 ·unfold Mo.ic
  rcases hm:M.meet (c.keys.headD [])with⟨_|p,N⟩<;>obtain⟨k1,k2,k3,k4⟩:=K1 _ _ _ hm
  ·exact k3.le (by omega)
  exact(k3.tr k4 (⟨rfl,rfl,rfl,rfl,Nat.le_succ _,BW N p _⟩:Kd N ((N.time p (gL N.k.now c.ex)).lJ p) 1)).le (by omega)
 split
 ·unfold Mo.delete
  rcases hm:M.meet (c.keys.headD [])with⟨_|p,N⟩<;>obtain⟨k1,k2,k3,k4⟩:=K1 _ _ _ hm
  ·exact k3.le (by omega)
  exact(k3.tr k4 (Kd.rf rfl rfl rfl rfl rfl rfl:Kd N (N.ca p) 0)).le (by omega)
 split
 ·exact(Kd.rf (M:=M) (N:={M with k:=M.k.flush c.ex M.v.bh,x:=M.x.again}) rfl rfl rfl rfl rfl rfl).le (by omega)
 split
 ·exact(Kd.rf (N:=M) rfl rfl rfl rfl rfl rfl).le (by omega)
 split
 ·exact(Kd.rf (N:=M) rfl rfl rfl rfl rfl rfl).le (by omega)
 split
 ·exact(Kd.rf (N:=M) rfl rfl rfl rfl rfl rfl).le (by omega)
 unfold Mo.dJ;rcases hm:M.meet (c.keys.headD [])with⟨o,N⟩
 obtain⟨k1,k2,k3,k4⟩:=K1 _ _ _ hm;refine Kd.le (k3.tr k4 (t:=1) ?_) (by omega);dsimp only;unfold Mo.jo
 split
 ·exact(Jq _ _ _).le (by omega)
 split
 ·exact(Kd.rf (N:=N) rfl rfl rfl rfl rfl rfl).le (by omega)
 split
 ·exact(Kd.rf (N:=N) rfl rfl rfl rfl rfl rfl).le (by omega)
 next x _=>
 unfold Mo.lays;exact Jh k1 k2 (58+(c.keys.headD []).length+x.1.length) o o (FK c.aH) (λR r=>⟨c.keys.headD [],x.1,x.2.1,x.2.2,R.k.now,R.v.bh+1,0⟩) (.t js) (.k 1)
end Go.Proofs.YtcbcjolpdljbiaaGreat
namespace Go.Proofs.YtcbcjolpdljbiaaGreat
open Go Go.dG Go.Proofs.YtcbcjolpdljbiaaGreat.Cs
def Bi:List UInt8:= [98,97,100,32,99,111,109,109,97,110,100]
noncomputable def Mo.dO (hot warm:Nat)(M:Mo)(c:fe):iA×Mo:=
 if Bg c=true then(.t Bi,M.reset)
 else if cB c.aH=0 then((M.reset.fW c).1,(M.reset.fW c).2.beside)
 else((M.reset.fW c).1,c.keys.foldl (Mo.behind hot warm) (M.reset.fW c).2)
structure Bk (M N:Mo)(t:Nat):Prop where
 h:M.hole=none->N.hole=none
 st:N.m.st<=M.m.st+t
 p:N.v.p=M.v.p
 c:N.v.c=M.v.c
 bh:N.v.bh=M.v.bh
 tn:N.tn=M.tn
theorem Bk.refl (M:Mo):Bk M M 0:=⟨id,aa0 _,rfl,rfl,rfl,rfl⟩
theorem Bk.trans{M N O:Mo}{s t:Nat}(a:Bk M N s)(b:Bk N O t):Bk M O (s+t):=⟨λh=>b.h (a.h h),by have:=a.st;have:=b.st;omega,b.p.trans a.p,b.c.trans a.c,b.bh.trans a.bh,b.tn.trans a.tn⟩
theorem nX (M:Mo):Bk M M.beside 1:=by
 obtain⟨a1,a2,a3,a4,a5,a6,a7⟩:=nM M.fw M.fw.k.now M.fw.v.p.c;obtain⟨b1,b2⟩:=ij M.fw.jG M.fw.jG.v.p.m;have h1:Bk M M.fw 0:=⟨id,aa0 _,rfl,rfl,rfl,rfl⟩;have h2:Bk M.fw M.fw.jG 0:=⟨λh=>a1.trans h,by show(M.fw.cN _ _).2.m.st<=_;rw[a2];exact aa0 _,a3,a5,a6,a7⟩;have h3:Bk M.fw.jG M.fw.jG.lz 1:=⟨b1.h,b2,b1.p,b1.c,b1.bh,b1.tn⟩;exact(h1.trans h2).trans h3
theorem vp (hot warm:Nat)(M:Mo)(k:List UInt8):Bk M (M.behind hot warm k) 1:=by
 have h:Bk M (M.py hot warm k) 0:=by
  unfold Mo.py
  split
  ·exact .refl M
  exact⟨id,aa0 _,rfl,rfl,rfl,rfl⟩
 have:=h.trans (nX (M.py hot warm k))
 rwa[abd]at this
theorem oV (hot warm:Nat):∀(l:List (List UInt8)) (M:Mo),Bk M (l.foldl (Mo.behind hot warm) M) l.length
 | [],M=> .refl M
 |k::l,M=>by
  have:=(vp hot warm M k).trans (oV hot warm l (M.behind hot warm k));rw[Nat.add_comm]at this;exact this
theorem aax (wy:pO)(z:Ly)(Kt:z.hot<=100)(Ks:z.warm<=100)(M:Mo)(c:fe)(ka:Option Addr)(kc:Nat)(da:Option Addr)(dc:Nat)(mv:Value)(mH:mv.oneCell'=true)(FB:c.keys.length<1073741824)(uj:∀k∈c.keys,k.length<281474976710656)(hex:c.ex<9223372036854775808)(hda:c.data.length<281474976710656)(Od:c.dl<18446744073709551616)
  (hh:M.hole=none) (gB:M.m.st+c.keys.length<4611686018427387904) (OA:zr M.v.p) (KI:M.v.c.lim<=1048576) (uz:M.v.bh+1<18446744073709551616) (vq:M.tn+c.keys.length<18446744073709551615):
  aO aaO 11 [CM z.s, .agg (fu c ka kc da dc mv).toArray] (λh=>gg h ka (iK c.keys)/\gg h da (ax c.data)) [SW z M] (KP z (M.dO z.hot z.warm c)):=by
 refine ag func11 rfl ntmps11 rfl ?_;rintro F ⟨hr,hd⟩;refine av ?_;refine Lp (oB λb1=> ?_);refine Lp (oA oX λb2=> ?_);refine av ?_;refine Hh (H':= [SW z M,af b1 42 (fu c ka kc da dc mv),af b2 52 [CO CN 0,bF,CO CJ 0,bD [],bF]]) ?_;refine bG ?_;refine Lp (agI 21 aaH ?_);refine bA ?_;refine Lp (oSc (i:=28) Pz ?_);change G _ _ _ _ _ [SW z M.reset,af b1 42 (fu c ka kc da dc mv),af b2 52 [CO CN 0,bF,CO CJ 0,bD [],bF]];refine bm ?_;refine zl CF (ae4 c ka kc da dc mv mH (by omega) uj) .nil (λ_ le _=>hr.mono le) ?_;rcases hb:Bg c with _|_
 ·have kX:M.dO z.hot z.warm c=if cB c.aH=0 then((M.reset.fW c).1,(M.reset.fW c).2.beside)else((M.reset.fW c).1,c.keys.foldl (Mo.behind z.hot z.warm) (M.reset.fW c).2):=by unfold Mo.dO;rw[hb,if_neg (by decide)]
  refine o4 λwa wc B O=> ?_;have KD:=CB (M:=M.reset) ⟨O.mc0,O.Kq.nd,O.Kq.lv,O.Kq.on⟩ hh c;refine bR ?_;refine Lp (oC CF rfl rfl (ab1 z M.reset c ka kc da dc mv mH hb FB uj rfl hex hda Od hh (by show M.m.st<_;omega) KI uz vq) (.cons .here .nil) (λ_ le _=>⟨hr.mono le,hd.mono le⟩) ?_);rintro v H' ⟨ea,ec,l,hl,rfl,rfl⟩;refine aX ?_;generalize hR:M.reset.fW c=r at*;obtain⟨a,N⟩:=r;dsimp only at KD hl kX⊢;have hN0:N.hole=none:=KD.ho.trans hh;have hNs:N.m.st+c.keys.length<4611686018427387904:=by have:=KD.st;change N.m.st=M.m.st at this;omega
  have hNp:zr N.v.p:=by have:=KD.p;change N.v.p=M.v.p at this;rw[this];exact OA
  refine Lp (oA oX λb3=> ?_);refine Lp (iF eo ?_ (h1:=by simp[gM,Value.oneCell',bD,bF]));refine bE ?_;refine zl CF (DN c.aH) .nil CI ?_;by_cases h0:cB c.aH=0
  ·rw[if_pos h0]at kX
   refine bA ?_;refine eU ?_ (e:=by exact decide_eq_true h0);refine bA ?_;refine zl CF (vL wy z N hN0 (by omega) hNp) (.cons (.there (.there (.there .here))) .nil) CI ?_;refine bz ?_;refine Lp (iF eo ?_ (h1:=by simp[gM,Value.oneCell',bD,bF]));refine bz ?_;refine FX [own ea ec 56 9 (ky l),kx l,SW z N.beside] eo results11 ?_;exact⟨ea,ec,l,by rw[kX];exact hl,by rw[kX];rfl,by rw[kX]⟩
  rw[if_neg h0]at kX;refine bA ?_;refine cO ?_ (e:=by exact decide_eq_false h0);refine bM ?_;refine Lo (ι:=Nat×Mo) [33,34,35,7,36,37,38,39,32] (λs=>(s.1<=c.keys.length/\s.2=(c.keys.take s.1).foldl (Mo.behind z.hot z.warm) N)) (λs=> [(32,CO CN s.1)]) (λs=> [SW z s.2,af b1 42 (fu c ka kc da dc mv),af b2 52 [CO CN 0,bF,CO CJ 0,bD [],bF],af b3 52 (gM a.kind (.slice ea l.length ec) a.num a.wx),own ea ec 56 9 (ky l),kx l]) (λs=>c.keys.length-s.1) ((0,N)) ⟨afk _,rfl⟩ ?_;rintro⟨i,X⟩ hI;dsimp only at hI⊢;obtain⟨hi,hX⟩:=hI;by_cases cL:i<c.keys.length
  ·have w7:=BZ c.keys i cL
   have Zd:ka.isSome=true:=by obtain⟨ad,e,_⟩:=hr i _ w7;rw[e];rfl
   have FA:=uj _ (aa4 cL);have Kz:X.behind z.hot z.warm c.keys[i]=(c.keys.take (i+1)).foldl (Mo.behind z.hot z.warm) N:=by rw[agn,aaQ cL,akd,<-hX];rfl
   have bk:=oV z.hot z.warm (c.keys.take i) N;rw[<-hX]at bk;have Zm:(c.keys.take i).length=i:=by rw[List.length_take];omega
   rw[Zm]at bk;have bst:=bk.st;generalize c.keys[i]=k at*;refine bz ?_;refine aw ?_;refine eU ?_;refine bE ?_;refine Li (Ix zM) ?_;refine bG ?_;refine zl CF (HU wy z X k FA (bk.h hN0) (by omega) (by rw[bk.p];exact hNp) Kt Ks) (.cons .here .nil) CI ?_;refine bG ?_;refine aF ?_;refine Ro ((i+1,X.behind z.hot z.warm k)) (⟨cL,Kz⟩) ((by dsimp only;omega))
  refine gK ?_;refine bA ?_;refine aw ?_;refine cO ?_;refine bR ?_;refine Lp (iF eo ?_ (h1:=by simp[gM,Value.oneCell',bD,bF]));refine bA ?_;obtain rfl:i=c.keys.length:=by omega
  rw[ajE]at hX;rw[<-hX]at kX;refine FX [own ea ec 56 9 (ky l),kx l,SW z X] eo results11 ?_;exact⟨ea,ec,l,by rw[kX];exact hl,by rw[kX];rfl,by rw[kX]⟩
 have kX:M.dO z.hot z.warm c=(.t Bi,M.reset):=by unfold Mo.dO;rw[hb,if_pos rfl]
 refine bz ?_;refine zl CF (ig Bi) .nil CI ?_;unfold zp gM bF;refine Li (Fga U2 eo) ?_;refine Lp (iF eo ?_ (h1:=by simp[gM,Value.oneCell',bD,bF]));refine bz ?_;refine dw 56 9 ?_;refine tR ?_;refine FX [own none 0 56 9 [],kx [],SW z M.reset] eo results11 ?_;exact⟨none,0,[],by rw[kX];rfl,by rw[kX];rfl,by rw[kX];rfl⟩
theorem HA (z:Ly)(M:Mo)(c:Int):aO aaO 66 [CM z.y.b,CO CN c] (λ_=>True) [SW z M] (λv H=>v=CO CN (ofM M.C c λi=>(M.C.rw i).dL:Nat)/\H= [SW z M]):=
 jz λwa wc B O=>by
  have h:=NV z.y.b B.C O.k c;have e:(ofM B.C c λi=>(B.C.rw i).dL)=ofM M.C c λi=>(M.C.rw i).dL:=by
   conv=>lhs;rw[O.c]
   rfl
  rw[e]at h;exact⟨_,h,λk k0 le h ao=>ao.nth 0 rfl⟩
theorem HD (z:Ly)(M:Mo)(c:Int):aO aaO 65 [CM z.y.b,CO CN c] (λ_=>True) [SW z M] (λv H=>v=CO CN (ofM M.C c λi=>(M.C.rw i).pgs:Nat)/\H= [SW z M]):=
 jz λwa wc B O=>by
  have h:=AN z.y.b B.C O.k c;have e:(ofM B.C c λi=>(B.C.rw i).pgs)=ofM M.C c λi=>(M.C.rw i).pgs:=by
   conv=>lhs;rw[O.c]
   rfl
  rw[e]at h;exact⟨_,h,λk k0 le h ao=>ao.nth 0 rfl⟩
theorem HC (z:Ly)(M:Mo)(c:Int):aO aaO 72 [CM z.y.b,CO CN c] (λ_=>True) [SW z M] (λv H=>v=CO CN (ofM M.C c λi=>((M.C.rw i).fZ+M.C.spare)*(M.C.aj/M.C.sz i):Nat)/\H= [SW z M]):=
 jz λwa wc B O=>by
  have h:=NW z.y.b B.C O.k c;have e:(ofM B.C c λi=>((B.C.rw i).fZ+B.C.spare)*(B.C.aj/B.C.sz i))=ofM M.C c λi=>((M.C.rw i).fZ+M.C.spare)*(M.C.aj/M.C.sz i):=by
   conv=>lhs;rw[O.c]
   rfl
  rw[e]at h;exact⟨_,h,λk k0 le h ao=>ao.nth 0 rfl⟩
theorem tV (z:Ly)(M:Mo)(c:Int):aO aaO 26 [CM z.s,CO CN c] (λ_=>True) [SW z M] (λv H=>v=CO CN (ofM M.C c λi=>(M.C.rw i).dL:Nat)/\H= [SW z M]):=by
 refine ag func26 rfl ntmps26 rfl ?_;intro F _;refine bM ?_;refine zl CF (HA z M c) (.cons .here .nil) CI ?_;refine bz ?_;refine Rt [SW z M] results26 ?_;exact⟨rfl,rfl⟩
theorem z8 (z:Ly)(M:Mo)(c:Int):aO aaO 25 [CM z.s,CO CN c] (λ_=>True) [SW z M] (λv H=>v=CO CN (ofM M.C c λi=>(M.C.rw i).pgs:Nat)/\H= [SW z M]):=by
 refine ag func25 rfl ntmps25 rfl ?_;intro F _;refine bM ?_;refine zl CF (HD z M c) (.cons .here .nil) CI ?_;refine bz ?_;refine Rt [SW z M] results25 ?_;exact⟨rfl,rfl⟩
theorem z7 (z:Ly)(M:Mo)(c:Int):aO aaO 34 [CM z.s,CO CN c] (λ_=>True) [SW z M] (λv H=>v=CO CN (ofM M.C c λi=>((M.C.rw i).fZ+M.C.spare)*(M.C.aj/M.C.sz i):Nat)/\H= [SW z M]):=by
 refine ag func34 rfl ntmps34 rfl ?_;intro F _;refine bM ?_;refine zl CF (HC z M c) (.cons .here .nil) CI ?_;refine bz ?_;refine Rt [SW z M] results34 ?_;exact⟨rfl,rfl⟩
theorem KT (z:Ly)(M:Mo)(c:Int):aO aaO 32 [CM z.s,CO CN c] (λ_=>True) [SW z M] (λv H=>v=CO CN (ofM M.C c λi=>M.C.sz i:Nat)/\H= [SW z M]):=by
 refine ag func32 rfl ntmps32 rfl ?_;intro F _;refine bM ?_;refine zl CF (ym z M c) (.cons .here .nil) CI ?_;refine bz ?_;refine Rt [SW z M] results32 ?_;exact⟨rfl,rfl⟩
theorem WY (t b:Nat)(W:Tb)(y:qw):aO aaO 70 [CM t] (In (af t 154 (fk b W y))) [] (λv H=>v=CO CN W.n/\H= []):=by
 unfold fk;refine ag func70 rfl ntmps70 rfl ?_;intro F h0;refine bW ?_;refine Rt [] results70 ?_;exact⟨rfl,rfl⟩
theorem SC (z:Ly)(M:Mo):aO aaO 70 [CM z.y.t] (λ_=>True) [SW z M] (λv H=>v=CO CN M.n/\H= [SW z M]):=
 jz λwa wc B O=>by
  have h:=WY z.y.t z.y.b B.W B.ty;rw[show B.W.n=M.n from O.n]at h;exact⟨_,h,λk k0 le h ao=>ao.nth 1 rfl⟩
theorem BT (z:Ly)(M:Mo):aO aaO 31 [CM z.s] (λ_=>True) [SW z M] (λv H=>v=CO CN M.n/\H= [SW z M]):=by
 refine ag func31 rfl ntmps31 rfl ?_;intro F _;refine cA ?_;refine zl CF (SC z M) (.cons .here .nil) CI ?_;refine bz ?_;refine Rt [SW z M] results31 ?_;exact⟨rfl,rfl⟩
theorem EZ (z:Ly)(M:Mo):aO aaO 30 [CM z.s] (λ_=>True) [SW z M] (λv H=>v=CO CN M.eR/\H= [SW z M]):=by
 refine ag func30 rfl ntmps30 rfl ?_;intro F _;refine cA ?_;refine zl CF (akF z M) (.cons .here .nil) CI ?_;refine bz ?_;refine Rt [SW z M] results30 ?_;exact⟨rfl,rfl⟩
theorem Aa (z:Ly)(M:Mo):aO aaO 33 [CM z.s] (λ_=>True) [SW z M] (λv H=>v=CO CN M.v.eW/\H= [SW z M]):=by
 refine ag func33 rfl ntmps33 rfl ?_;intro F _;refine bW ?_;refine Rt [SW z M] results33 ?_;exact⟨rfl,rfl⟩
theorem Ld (z:Ly)(M:Mo)(n:Int)(hi:M.v.bh<18446744073709551616):aO aaO 36 [CM z.y.ck,CO CN n,CO CJ M.v.bh] (λ_=>True) [SW z M]
  (λv H=>v=CO CN (M.k.OK n)/\H= [SW z {M with k:=M.k.move n M.v.bh}]):=
 iS (N:={M with k:=M.k.move n M.v.bh}) (T:=λv=>v=CO CN (M.k.OK n)) λa c=>dH λB O=>by
  have h:=(NS z.y.ck M.k O.ck n M.v.bh hi).fr (H:=dM z B (M.aQ a c)++ []) (R:= [Cl z.y.b B.C,af z.y.t 154 (fk z.y.b B.W B.ty),af B.ty.nk 149 (aM (aD B.W.nb)),jH B.ty.ok 149 (aM (aD B.W.ob)),af z.y.q 182 (fC z.y.b z.qb B.C.ae.length),af z.qb 333 (M.Q.flatMap (cV B.C)),gh z.y.cr z.y.q z.y.wh B.C.ae.length (aL z.s) (aY z.s) B.C M.x,Wl z.y.wh B.E M.tn,fm z.s z.y (fb (M.aQ a c).v),
   jb z.y.lu z.y.b z.y.q z.hot z.warm,iT z.y.mo z.y.b z.ub (aL z.s) (aY z.s) (bI z.s) M.m,kL z.ub M.m,jJ (M.aQ a c)]) (.cons (.there (.there (.there (.there (.there (.there (.there (.there (.there .here))))))))) .nil) (λ_ _=>trivial)
  refine h.out ?_;rintro v H' ⟨H0,⟨rfl,rfl⟩,rfl⟩;refine⟨[SH z (({M with k:=M.k.move n M.v.bh}:Mo).aQ a c)],⟨rfl,rfl⟩,λk s=>aB (O.ck1 (O.ck.move n hi)) (H:= []) k ?_⟩
  revert s
  revert k
  simp only[o8,cap,afs];unfold dM;exact Eh
theorem HG (wy:pO)(z:Ly)(M:Mo)(now aI:Int):aO aaO 37 [CM z.y.cr,CO CN now,CO CN aI] (λ_=>True) [SW z M]
  (λv H=>(∃t:Int,v= .tuple #[CO CN ((M.cN now aI).1),CO CN t])/\H= [SW z (M.cN now aI).2]):=
 iS (N:=(M.cN now aI).2) (T:=λv=>∃t:Int,v= .tuple #[CO CN ((M.cN now aI).1),CO CN t]) λa c=>
  (EP wy z (M.aQ a c) now aI).out (by
   rintro v H' ⟨n,t,M',hm,rfl,rfl⟩;rw[Ka]at hm;simp only[Prod.mk.injEq]at hm;obtain⟨rfl,rfl⟩:=hm;exact⟨_,⟨⟨t,rfl⟩,rfl⟩,λk s=>s⟩)
def Mo.eC (M:Mo)(n:Int):Mo:={M with k:=M.k.move n M.v.bh}
noncomputable def Mo.tick (M:Mo)(n:Int):Mo:=if M.k.OK n=0 then((M.eC n).reset.cN (M.eC n).k.now 64).2.aU {((M.eC n).reset.cN (M.eC n).k.now 64).2.v.mt with cr:=(((M.eC n).reset.cN (M.eC n).k.now 64).1:Int)}else M
theorem WS (wy:pO)(z:Ly)(M:Mo)(n:Int)(hi:M.v.bh<18446744073709551616):aO aaO 9 [CM z.s,CO CN n] (λ_=>True) [SW z M] (λv H=>v=CO CN (M.k.OK n)/\H= [SW z (M.tick n)]):=by
 have y6:=Ld z M n hi;change aO _ _ _ _ _ (λv H=>v=CO CN (M.k.OK n)/\H= [SW z (M.eC n)])at y6;have ht:M.tick n=if M.k.OK n=0 then((M.eC n).reset.cN (M.eC n).k.now 64).2.aU {((M.eC n).reset.cN (M.eC n).k.now 64).2.v.mt with cr:=(((M.eC n).reset.cN (M.eC n).k.now 64).1:Int)}else M:=rfl
 refine ag func9 rfl ntmps9 rfl ?_;intro F _;refine bz ?_;refine aw ?_;refine hJ 10 mix (.cons .here .nil) λF1 jf bZ aN=> ?_;obtain⟨q1,_⟩:=bZ;refine bm ?_
 first
  |refine Ti (Lf s8) ?_
  |refine Ti (AZ s8 q1) ?_
 refine bm ?_
 first
  |refine Ti (Lf rG) ?_
  |refine Ti (AZ rG q1) ?_
 refine gd aN ?_;refine Tp (oC CF rfl rfl (y6) (.cons .here .nil) CI ?_);rintro v H' ⟨rfl,rfl⟩;refine aX ?_;refine bR ?_;by_cases h0:M.k.OK n=0
 ·rw[if_pos h0]at ht
  rw[h0];refine cA ?_;refine Lp (agI 21 aaH ?_);refine bA ?_;refine Lp (oSc (i:=28) Pz ?_);change G _ _ _ _ _ [SW z (M.eC n).reset];refine av ?_;refine aw ?_;refine hJ 11 mix (.cons .here .nil) λF2 yO ez cQ=> ?_;obtain⟨q2,_⟩:=ez;refine bm ?_
  first
   |refine Ti (Lf Dq) ?_
   |refine Ti (AZ Dq q2) ?_
  refine bm ?_
  first
   |refine Ti (Lf s8) ?_
   |refine Ti (AZ s8 q2) ?_
  refine Tp (oC CF rfl rfl (kS z (M.eC n).reset) .nil (λ_ le _=>In.mono q2 le) ?_);rintro v H' ⟨rfl,rfl⟩;refine aX ?_;refine gd cQ ?_;rw[show(M.eC n).reset.k.now=(M.eC n).k.now from rfl];refine Tp (oC CF rfl rfl (HG wy z (M.eC n).reset (M.eC n).k.now 64) (.cons .here .nil) CI ?_);rintro v H' ⟨⟨t,rfl⟩,rfl⟩;refine aX ?_;refine dB ?_;refine Lp (oSc (i:=26) bC ?_);refine bE ?_;refine Rt [SW z (((M.eC n).reset.cN (M.eC n).k.now 64).2.aU {((M.eC n).reset.cN (M.eC n).k.now 64).2.v.mt with cr:=(((M.eC n).reset.cN (M.eC n).k.now 64).1:Int)})] results9 ?_;exact⟨rfl,by rw[ht]⟩
 rw[if_neg h0]at ht;have hM:M.eC n=M:=by unfold Mo.eC Ck.move;rw[if_neg h0]
 rw[hM];refine eU ?_ (e:=by exact congrArg (!·) (decide_eq_false h0));refine bG ?_;refine Rt [SW z M] results9 ?_;exact⟨rfl,by rw[ht]⟩
def abA:List Value:= [bD [], .slice none 0 0,CO CJ 0,CO CN 0,CO CJ 0,CO CN 0, .bool false, .bool false, .bool false]
def Mo.live (M:Mo)(k:List UInt8):Option Nat:=match M.find k with
 |some p=>if M.cn p=0 then some p else none
 |none=>none
def aiV (z:Ly)(M:Mo)(o:Option Nat)(v:Value)(H:List aa):Prop:=match o with
 |some p=>∃vb,v= .tuple #[.agg (zj (M.it p) (.slice (some ⟨vb,0,none⟩) (M.it p).val.length (M.it p).val.length)).toArray, .bool true]/\H= [own (some ⟨vb,0,none⟩) (M.it p).val.length 5 1 (ax (M.it p).val),SW z M]
 |none=>v= .tuple #[.agg abA.toArray, .bool false]/\H= [SW z M]
theorem U1 (z:Ly)(M:Mo)(k:List UInt8)(hk:k.length<281474976710656):aO aaO 13 [CM z.s,bD k] (λ_=>True) [SW z M] (aiV z M (M.live k)):=by
 refine ag func13 rfl ntmps13 rfl ?_;intro F _;refine av ?_;refine Lp (oA IF λb1=> ?_);refine bA ?_;refine Hh (H':= [SW z M,af b1 56 abA]) ?_;refine o4 λwa wc B O=> ?_;refine bR ?_;refine Lp (CP wv mG sQ λkb kc sO=> ?_);refine zl CF (Lg z M (some ⟨kb,0,none⟩) kc _ k rfl hk) (.cons (.there .here) .nil) (λ_ le ao=>bP (ao.nth 0 rfl)) ?_;unfold abA;rcases hf:M.find k with _|p
 ·refine Li Mv ?_
  refine bM ?_;refine zt 21 ?_ (e:=by rfl);refine gz ?_;refine Gi [SW z M] tj results13 ?_;unfold Mo.live;rw[hf];exact⟨rfl,rfl⟩
 obtain⟨hp,_⟩:=nL hf;refine bW ?_;refine zf 21 ?_ (e:=by rfl);refine bA ?_;refine zl CF (Lh z M p hp) (.cons .here .nil) CI ?_;by_cases h0:M.cn p=0
 ·rw[h0]
  refine dm ?_;refine Lp (oC CF rfl rfl (Ai z M p hp) (.cons .here .nil) CI ?_);rintro v H' ⟨vb,rfl,rfl⟩;refine aX ?_;refine Lp (iF tj ?_ (h1:=by simp[zj,Value.oneCell',bD]));refine bz ?_;refine Gi [own (some ⟨vb,0,none⟩) (M.it p).val.length 5 1 (ax (M.it p).val),SW z M] tj results13 ?_;unfold Mo.live;rw[hf];dsimp only;rw[if_pos h0];exact⟨vb,rfl,rfl⟩
 refine Li Pf ?_;refine av ?_;refine eU ?_ (e:=by exact decide_eq_true h0);refine bA ?_;refine Lp (iF tj ?_ (h1:=by simp[cZ,Value.cells,Value.oneCell',bD]));refine bm ?_;refine Gi [SW z M] tj results13 ?_;unfold Mo.live;rw[hf];dsimp only;rw[if_neg h0];exact⟨rfl,rfl⟩
def mkN (n:Int):Option Nat:=if n=0 then some 0 else if n=2 then some 1 else if n=4 then some 2 else if n=6 then some 3 else none
def Mo.mark (M:Mo)(k:List UInt8)(n:Int):Bool×Mo:=match M.live k,mkN n with
 |some p,some c=>(true,M.marks p c)
 |_,_=>(false,M)
end Go.Proofs.YtcbcjolpdljbiaaGreat
