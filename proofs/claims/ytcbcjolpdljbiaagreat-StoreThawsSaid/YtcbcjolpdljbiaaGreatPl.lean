/- Part Pl of the proof. -/
import Derived.Test.YtcbcjolpdljbiaaGreatPk
set_option maxRecDepth 100000
open Go.Proofs.YtcbcjolpdljbiaaGreat.T
open Nat renaming zero_le -> abL, le_refl -> aam, pow_succ -> agu, zero_add -> abH, mod_eq_of_lt -> abZ, succ_pos -> akY, lt_of_le_of_lt -> agq, le_add_right -> ajX
open List renaming drop_eq_getElem_cons -> ahf, getD_eq_getElem?_getD -> aab, getElem?_eq_getElem -> aac, length_singleton -> agm, length_append -> aby, length_cons -> abU, append_assoc -> af9, length_set -> aak, getElem?_map -> abD, getElem_mem -> abC, take_add_one -> agK, take_length -> ajS, append_nil -> abT, map_append -> af1, foldl_append -> aku, find?_eq_none -> agE, map_cons -> aaj, sum_cons -> abJ, ext_getElem? -> agJ, getElem?_set -> agy, getElem?_eq_none -> aal, length_reverse -> ajK, reverse_append -> akm
open UInt8 renaming ofNat -> abP
open Bool renaming false_or -> akQ, eq_iff_iff -> akI, not_eq_true' -> akv, false_eq_true -> aj1
open Decidable renaming byContradiction -> abz
open Go.Proofs.Tryz renaming prog -> aaa
open Go.Proofs.Tryz
open Go.Value renaming int -> Dm
open Go.IntKind renaming i64 -> Dl, u64 -> Dj, u8 -> ala
namespace Go.Proofs.YtcbcjolpdljbiaaGreat
open Go Go.dC
def DU:Nat->FI->FK
 |n,[]=>some n
 |n,b::r=>if b.toNat<48\/57<b.toNat\/(18446744073709551615-(b.toNat-48))/10<n then none else DU (n*10+(b.toNat-48)) r
def uG (l:FI):FK:=if 0<l.length/\l.length<=20 then DU 0 l else none
def uL:FI:= [99,97,110,110,111,116,32,105,110,99,114,101,109,101,110,116,32,111,114,32,100,101,99,114,101,109,101,110,116,32,110,111,110,45,110,117,109,101,114,105,99,32,118,97,108,117,101]
def gB (kind:Nat)(ea:Value)(num:Nat)(wM:FI):FJ:= [Dm Dl kind,ea,Dm Dj num,a8 wM, .slice none 0 0]
def zZ (kind:Nat)(ea:Value)(num:Nat)(wM:FI):Value:= .agg (gB kind ea num wM).toArray
def br:Value:= .slice none 0 0
theorem hZ (t:FI):aG aaa 42 [a8 t] uT [] (λv H=>v=zZ 11 br 0 t/\H= []):=by
 refine af func42 rfl ntmps42 rfl ?_;intro F _;refine aw ?_;refine Lp (oA GR λb1=> ?_);refine cV ?_;refine Jc [] HU results42 ?_;exact⟨rfl,rfl⟩
theorem OB (a:FL)(c m:Nat)(l:FI)(hm:m=l.length)(hl:m<281474976710656):
  W5 aaa 123 [.slice a m c] (λh=>gF h a (aj l)) [] (λv H=>(∃n:Nat,uG l=some n/\n<18446744073709551616/\v=Dm Dj n)/\H= []) (λv H=>uG l=none/\v= .iface 102 (zZ 11 br 0 uL)/\H= []):=by
 subst hm;refine lX func123 rfl ntmps123 rfl ?_;intro F hr;refine cV ?_;refine bJ (t:=11) rfl ?_ ?_
 ·intro h0
  replace h0:=aO h0;have h0':0<l.length:=by simpa using h0
  refine bc ?_;refine aA (t:=15) (v':=(.bool (decide (l.length<=20)))) rfl (by exact congrArg Value.bool (by rw[decide_eq_decide];omega)) ?_;have hnv:uG l=if l.length<=20 then DU 0 l else none:=by unfold uG;by_cases h:l.length<=20<;>simp[h,h0']
  generalize pC:decide (l.length<=20)=ok at*;refine bq ?_;refine av ?_;refine eK (ι:=Bool×Nat) (FN [3,2,6,2,16,31]) (λs=>(s.1=true->uG l=some s.2/\s.2<18446744073709551616)/\(s.1=false->uG l=none)) (λs=> [(3,Dm Dj s.2),(4, .bool s.1)]) (λs=> []) ?_ ?_
  ·refine gK ?_
   refine bn ?_;refine Lo (ι:=Nat×Nat) (FN [3,2,6,2,18,29]) (λs=>s.1<=l.length/\s.2<18446744073709551616/\(ok=true->uG l=DU s.2 (l.drop s.1))/\(ok=false->s.1=0)) (λs=> [(3,Dm Dj s.2),(4, .bool ok),(18,Dm Dl s.1)]) (λs=> []) (λs=>l.length-s.1) ((0,0)) ⟨abL _,by decide,λh=>by rw[hnv,if_pos (by rw[h]at pC;simpa using pC)];rfl,λ_=>rfl⟩ ?_;rintro s hI;obtain⟨k,nn⟩:=s
   try dsimp only at hI⊢
   obtain⟨hk,hb,O8,xy⟩:=hI;by_cases cJ:k<l.length
   ·have WO:=afC l k
    refine bq ?_;refine av ?_;refine fe ?_;refine bn ?_;refine Li (Ix fS) ?_;refine fX ?_;rcases ok with _|_
    ·refine zt 27 ?_ (e:=by rfl)
     refine cK ?_;refine bn ?_;refine Me ((false,nn)) (⟨λh=>(by cases h),λ_=>(by rw[hnv];have:¬l.length<=20:=(by simpa using pC);rw[if_neg this])⟩)
    have hdr:l.drop k=l[k]::l.drop (k+1):=ahf cJ;have hi:=O8 rfl;have hbe:Gm l k=l[k].toNat:=by unfold Gm;rw[aab,aac cJ];rfl
    rw[hdr]at hi;refine zf 27 ?_ (e:=by rfl);refine bc ?_;by_cases h48:Gm l k<48
    ·refine zt 31 ?_
     refine cK ?_;refine aw ?_;refine Me ((false,nn)) (⟨λh=>(by cases h),λ_=>(by rw[hi];unfold DU;rw[if_pos (.inl (by omega))])⟩)
    refine zf 31 ?_;refine aA (t:=7) (v':=(Dm Dj (Gm l k-48:Nat))) rfl (by exact congrArg (Value.int .u64) ((wrap_u64 (by omega)).trans (by omega))) ?_;refine bc ?_;by_cases h57:57<Gm l k
    ·refine zt 35 ?_
     refine rh ?_;refine Me ((false,nn)) (⟨λh=>(by cases h),λ_=>(by rw[hi];unfold DU;rw[if_pos (.inr (.inl (by omega)))])⟩)
    refine zf 35 ?_;refine bq ?_;refine aA (t:=38) (v':=(Dm Dj (18446744073709551615-(Gm l k-48):Nat))) rfl (by exact congrArg (Value.int .u64) (by omega)) ?_;refine Li (QuU (q:=10)) ?_;refine bq ?_;by_cases zU:(18446744073709551615-(Gm l k-48))/10<nn
    ·refine fe ?_
     refine cA ?_;refine Me ((false,nn)) (⟨λh=>(by cases h),λ_=>(by rw[hi];unfold DU;rw[if_pos (.inr (.inr (by rw[<-hbe];exact zU)))])⟩)
    refine cN ?_;refine fX ?_;refine aD ?_;refine Ro ((k+1,nn*10+(Gm l k-48))) (⟨cJ,(by dsimp only;omega),λ_=>(by rw[hi];rw[DU,if_neg (by rw[<-hbe];omega),<-hbe]),λh=>(by cases h)⟩) ((by dsimp only;omega))
   refine gK ?_;refine bd ?_;refine av ?_;refine cN ?_;refine bc ?_;have uz:k=l.length:=by omega
   have ahD:ok=true:=by
    cases h:ok with
    |true=>rfl
    |false=>have:=xy h;omega
   have h1:=O8 ahD;rw[uz,List.drop_length]at h1;refine Me ((ok,nn)) (⟨λ_=>⟨h1,hb⟩,λh=>(by rw[ahD]at h;cases h)⟩)
  rintro s hI;obtain⟨b,nn⟩:=s
  try dsimp only at hI⊢
  obtain⟨hj1,hj2⟩:=hI;rcases b with _|_
  ·refine av ?_
   refine bn ?_;refine iN ?_;refine zl Aa (hZ uL) .nil Di ?_;refine Li (Ww T.gP) ?_;refine Lp (Wc ?_);refine pP [] ?_;exact⟨hj2 rfl,rfl,rfl⟩
  refine av ?_;refine dL ?_;refine pR ?_;refine Rt [] results123 ?_;exact⟨⟨nn,(hj1 rfl).1,(hj1 rfl).2,rfl⟩,rfl⟩
 intro h0;replace h0:=aO h0;have hz:l.length=0:=by omega
 have hnv:uG l=none:=by unfold uG;rw[if_neg (by omega)]
 refine fX ?_;refine Lo (ι:=Unit) (FN [3,2,6,2,18,29]) (λu=>True) (λu=> [(3,Dm Dj 0),(4, .bool false),(18,Dm Dl 0)]) (λu=> []) (λu=>0) (()) (by simp) ?_;rintro u hI;refine bq ?_;refine av ?_;refine cN ?_;refine bP ?_;refine iN ?_;refine zl Aa (hZ uL) .nil Di ?_;refine Li (Ww T.gP) ?_;refine Lp (Wc ?_);refine pP [] ?_;exact⟨hnv,rfl,rfl⟩
def dH (n:Nat):FI:=if n<10 then [abP (48+n)]else dH (n/10)++ [abP (48+n % 10)]
termination_by n
theorem tE{n:Nat}(h:n<10):dH n= [abP (48+n)]:=by rw[dH,if_pos h]
theorem xl{n:Nat}(h:¬n<10):dH n=dH (n/10)++ [abP (48+n % 10)]:=by rw[dH,if_neg h]
theorem tX (i:Nat):∀n,n<10^i->(dH n).length<=max i 1:=by
 induction i with
 |zero=>intro n h;rw[tE (by simp at h;omega)];exact aam _
 |succ i ih=>
  intro n h;by_cases g:n<10
  ·rw[tE g];simp only[agm];omega
  rw[xl g,aby,agm];have hi:i≠0:=λe=>by subst e;omega
  have:=ih (n/10) (by rw[agu]at h;omega);omega
theorem set_drop{l:FJ}{i:Nat}{v:Value}{r:FJ}(h:l.drop (i+1)=r)(hi:i<l.length):(l.set i v).drop i=v::r:=by
 rw[ahf (by simpa using hi),List.getElem_set_self,List.drop_set_of_lt (by omega),h]
theorem TI (n0:Nat)(hn0:n0<18446744073709551616):aG aaa 124 [Dm Dj n0] uT []
  (λv H=>∃a c,v= .slice a (dH n0).length c/\H= [own a c 5 1 (aj (dH n0))]):=by
 refine af func124 rfl ntmps124 rfl ?_;intro F _;refine bc ?_;refine Lp (oA acB λb1=> ?_);refine bn ?_;refine Lo (ι:=Nat×Nat×FI×FJ) (FN [0,1,2,1,4,16]) (λs=>(1<=s.1/\s.1<=20/\s.2.1<10^s.1/\s.2.1<18446744073709551616/\s.2.2.1.length=20-s.1)/\(dH s.2.1++s.2.2.1=dH n0)/\s.2.2.2.length=20/\s.2.2.2.drop s.1=aj s.2.2.1) (λs=> [(0,Dm Dj s.2.1),(2, .slice none 0 0),(4,Dm Dl s.1)]) (λs=> [ag b1 261 s.2.2.2]) (λs=>s.2.1+1) ((20,n0,[],[Dm ala 0,Dm ala 0,Dm ala 0,Dm ala 0,Dm ala 0,Dm ala 0,Dm ala 0,Dm ala 0,Dm ala 0,Dm ala 0,Dm ala 0,Dm ala 0,Dm ala 0,Dm ala 0,Dm ala 0,Dm ala 0,Dm ala 0,Dm ala 0,Dm ala 0,Dm ala 0])) ⟨⟨Nat.le_of_ble_eq_true rfl,aam _,by dsimp only;omega,hn0,rfl⟩,by simp,rfl,rfl⟩ ?_;rintro⟨i,n,ds,cs⟩ hI
 try dsimp only at hI⊢
 obtain⟨⟨h0,h1,h2,h3,h4⟩,h5,h6,h7⟩:=hI;obtain⟨i,rfl⟩:∃j,i=j+1:=⟨i-1,by omega⟩;have hc:(abP (48+n % 10)).toNat=48+n % 10:=by rw[UInt8.toNat_ofNat'];omega
 have h8:=set_drop (v:=Dm ala ((abP (48+n % 10)).toNat)) h7 (by omega);have h9:Dm ala ((abP (48+n % 10)).toNat)::aj ds=aj (abP (48+n % 10)::ds):=rfl;rw[h9]at h8;rw[agu]at h2;refine bK ?_;refine aA (t:=4) (v':=(Dm Dl i)) rfl (by exact congrArg (Value.int .i64) (by omega)) ?_;refine bd ?_;refine Li (Rm (q:=10)) ?_;refine bd ?_;refine aA (t:=11) (v':=(Dm ala ((abP (48+n % 10)).toNat))) rfl (by exact congrArg (Value.int .u8) (by rw[hc];first|exact(wrap_u8 (by omega)).trans (by omega)|omega)) ?_;refine Li (Ia SR) ?_;refine bc ?_;refine Li (QuU (q:=10)) ?_;refine bs ?_;simp only[abH];by_cases hz:n/10=0
 ·have hn:n<10:=by omega
  have h10:abP (48+n % 10)::ds=dH n0:=by rw[<-h5,tE hn,abZ hn];rfl
  refine fe ?_;refine bd ?_;refine Li (SlA i 20 20 SR) ?_;refine eT 5 1 ?_;have DF:(dH n0).length=20-i:=by rw[<-h10,abU];omega
  refine Lp (ia iJ rD rfl rfl rfl rfl .here (rfl) (fN (news:=aj (dH n0)) (m:=20-i) (by rw[mK,DF,Nat.mul_one]) λh le ak=>(by obtain⟨k,p,l⟩:=ak.nth 1 rfl;have q:=(qB (i:=i) p).mono l;rw[h8,h10]at q;rw[abH];exact q)) (by first|exact eB|(simp[Value.oneCell',a8])) (by first|omega|(simp;omega)) (by first|omega|(simp;omega)) rfl λa1 c1 Bt=> ?_);refine bs ?_;rw[show 0+(20-i)=(dH n0).length by omega];refine Rt [own a1 c1 5 1 (aj (dH n0))] results124 ?_;exact⟨a1,c1,rfl,rfl⟩
 refine cN ?_;refine bd ?_;have O8:1<=i:=by
  rcases i with _|i
  ·simp at h2;omega
  omega
 refine Ro ((i,n/10,abP (48+n % 10)::ds,cs.set i (Dm ala ((abP (48+n % 10)).toNat)))) (⟨⟨O8,(by dsimp only;omega),(by dsimp only;omega),(by dsimp only;omega),(by dsimp only[abU];omega)⟩,(by dsimp only;rw[<-h5,xl (n:=n) (by omega),af9];rfl),(by dsimp only;rw[aak];exact h6),h8⟩) ((by dsimp only;omega))
structure fi where
 aC:Int
 keys:List FI
 fl:Nat
 ex:Int
 tok:Nat
 dl:Nat
 data:FI
 nor:Bool
 lg:Bool
 ahi:FI
def mV (l:List FI):FJ:=l.map a8
theorem CF (l:List FI)(k:Nat)(h:k<l.length):(mV l)[k]?=some (a8 l[k]):=by
 unfold mV;rw[abD,aac h];rfl
def fI (c:fi)(ka:FL)(kc:Nat)(da:FL)(dc:Nat)(mv:Value):FJ:=
 [Dm Dl c.aC, .slice ka c.keys.length kc,Dm Dj c.fl,Dm Dl c.ex,Dm Dj c.tok,Dm Dj c.dl, .slice da c.data.length dc, .bool c.nor, .bool c.lg,mv,a8 c.ahi]
def bW (v:Int):Int:=if 1<=v/\v<=4 then 2 else if 5<=v/\v<=14 then 1 else if 15<=v/\v<=18 then 0 else-1
def xM (c:fi):Bool:=decide (bW c.aC<0\/0<bW c.aC/\c.keys.length=0\/bW c.aC=1/\1<c.keys.length) ||(decide (0<bW c.aC)&&c.keys.any λk=> !du k) ||decide (5<=c.aC/\c.aC<=10/\4294967295<c.fl)
theorem Es (v:Int):aG aaa 44 [Dm Dl v] uT [] (λw H=>w=Dm Dl (bW v)/\H= []):=by
 refine af func44 rfl ntmps44 rfl ?_;intro F _;refine cA ?_;refine bJ (t:=6) rfl ?_ ?_
 ·intro fm
  replace fm:=aO fm;refine bn ?_;refine az rfl ?_ ?_
  ·intro fh
   replace fh:=aO fh;refine bs ?_;refine Rt [] results44 ?_;refine⟨?_,rfl⟩;unfold bW
   repeat' split
   all_goals first|rfl|(exfalso;omega)
  intro fh;replace fh:=aO fh;refine bc ?_;refine bJ (t:=13) rfl ?_ ?_
  ·intro eM
   replace eM:=aO eM;refine bn ?_;refine az rfl ?_ ?_
   ·intro dm
    replace dm:=aO dm;refine bs ?_;refine Rt [] results44 ?_;refine⟨?_,rfl⟩;unfold bW
    repeat' split
    all_goals first|rfl|(exfalso;omega)
   intro dm;replace dm:=aO dm;refine bc ?_;refine bJ (t:=20) rfl ?_ ?_
   ·intro eH
    replace eH:=aO eH;refine bn ?_;refine az rfl ?_ ?_
    ·intro j5
     replace j5:=aO j5;refine bs ?_;refine Rt [] results44 ?_;refine⟨?_,rfl⟩;unfold bW
     repeat' split
     all_goals first|rfl|(exfalso;omega)
    intro j5;replace j5:=aO j5;refine bK ?_;refine Rt [] results44 ?_;refine⟨?_,rfl⟩;unfold bW
    repeat' split
    all_goals first|rfl|(exfalso;omega)
   intro eH;replace eH:=aO eH;refine gJ ?_;refine Rt [] results44 ?_;refine⟨?_,rfl⟩;unfold bW
   repeat' split
   all_goals first|rfl|(exfalso;omega)
  intro eM;replace eM:=aO eM;refine bB ?_;refine bJ (t:=20) rfl ?_ ?_
  ·intro dm
   replace dm:=aO dm;refine bn ?_;refine az rfl ?_ ?_
   ·intro eH
    replace eH:=aO eH;refine bs ?_;refine Rt [] results44 ?_;refine⟨?_,rfl⟩;unfold bW
    repeat' split
    all_goals first|rfl|(exfalso;omega)
   intro eH;replace eH:=aO eH;refine bK ?_;refine Rt [] results44 ?_;refine⟨?_,rfl⟩;unfold bW
   repeat' split
   all_goals first|rfl|(exfalso;omega)
  intro dm;replace dm:=aO dm;refine gJ ?_;refine Rt [] results44 ?_;refine⟨?_,rfl⟩;unfold bW
  repeat' split
  all_goals first|rfl|(exfalso;omega)
 intro fm;replace fm:=aO fm;refine bB ?_;refine bJ (t:=13) rfl ?_ ?_
 ·intro fh
  replace fh:=aO fh;refine bn ?_;refine az rfl ?_ ?_
  ·intro eM
   replace eM:=aO eM;refine bs ?_;refine Rt [] results44 ?_;refine⟨?_,rfl⟩;unfold bW
   repeat' split
   all_goals first|rfl|(exfalso;omega)
  intro eM;replace eM:=aO eM;refine bc ?_;refine bJ (t:=20) rfl ?_ ?_
  ·intro dm
   replace dm:=aO dm;refine bn ?_;refine az rfl ?_ ?_
   ·intro eH
    replace eH:=aO eH;refine bs ?_;refine Rt [] results44 ?_;refine⟨?_,rfl⟩;unfold bW
    repeat' split
    all_goals first|rfl|(exfalso;omega)
   intro eH;replace eH:=aO eH;refine bK ?_;refine Rt [] results44 ?_;refine⟨?_,rfl⟩;unfold bW
   repeat' split
   all_goals first|rfl|(exfalso;omega)
  intro dm;replace dm:=aO dm;refine gJ ?_;refine Rt [] results44 ?_;refine⟨?_,rfl⟩;unfold bW
  repeat' split
  all_goals first|rfl|(exfalso;omega)
 intro fh;replace fh:=aO fh;refine bB ?_;refine bJ (t:=20) rfl ?_ ?_
 ·intro eM
  replace eM:=aO eM;refine bn ?_;refine az rfl ?_ ?_
  ·intro dm
   replace dm:=aO dm;refine bs ?_;refine Rt [] results44 ?_;refine⟨?_,rfl⟩;unfold bW
   repeat' split
   all_goals first|rfl|(exfalso;omega)
  intro dm;replace dm:=aO dm;refine bK ?_;refine Rt [] results44 ?_;refine⟨?_,rfl⟩;unfold bW
  repeat' split
  all_goals first|rfl|(exfalso;omega)
 intro eM;replace eM:=aO eM;refine gJ ?_;refine Rt [] results44 ?_;refine⟨?_,rfl⟩;unfold bW
 repeat' split
 all_goals first|rfl|(exfalso;omega)
theorem afK (c:fi)(ka:FL)(kc:Nat)(da:FL)(dc:Nat)(mv:Value)(mS:mv.oneCell'=true)(DG:c.keys.length<281474976710656)(hk:∀k∈c.keys,k.length<281474976710656):
  aG aaa 41 [.agg (fI c ka kc da dc mv).toArray] (λh=>gF h ka (mV c.keys)) [] (λw H=>w= .bool (xM c)/\H= []):=by
 have hb:xM c=(decide (bW c.aC<0\/0<bW c.aC/\c.keys.length=0\/bW c.aC=1/\1<c.keys.length) ||(decide (0<bW c.aC)&&c.keys.any λk=> !du k) ||decide (5<=c.aC/\c.aC<=10/\4294967295<c.fl)):=rfl;refine af func41 rfl ntmps41 rfl ?_;intro F hr;refine aw ?_;refine Lp (oB λb1=> ?_);refine bn ?_;refine zl Aa (Es c.aC) .nil Di ?_;generalize hn:bW c.aC=n at*;have hn4:n= -1\/n=0\/n=1\/n=2:=by
  rw[<-hn];unfold bW
  repeat' split
  all_goals omega
 have fin:decide (n<0\/0<n/\c.keys.length=0\/n=1/\1<c.keys.length)=true->xM c=true:=λh=>by rw[hb,h];rfl
 refine bd ?_;refine av ?_;refine eK (ι:=Unit) (FN [2,1,9,22]) (λu=>¬(n<0\/0<n/\c.keys.length=0\/n=1/\1<c.keys.length)) (λu=> []) (λu=> [ag b1 42 (fI c ka kc da dc mv)]) ?_ ?_
 ·refine gK ?_
  refine bq ?_;refine bJ (t:=11) rfl ?_ ?_
  ·intro fm
   replace fm:=aO fm;refine cK ?_;refine bs ?_;refine Rt [] results41 ?_;exact⟨congrArg Value.bool (fin (Ac)).symm,rfl⟩
  intro fm;replace fm:=aO fm;refine bq ?_;refine bJ (t:=14) rfl ?_ ?_
  ·intro fh
   replace fh:=aO fh;refine bK ?_;refine bJ (t:=21) rfl ?_ ?_
   ·intro eM
    replace eM:=aO eM;refine ri ?_;refine Rt [] results41 ?_;exact⟨congrArg Value.bool (fin (Ac)).symm,rfl⟩
   intro eM;replace eM:=aO eM;refine bq ?_;refine bJ (t:=24) rfl ?_ ?_
   ·intro dm
    replace dm:=aO dm;refine bK ?_;refine az rfl ?_ ?_
    ·intro eH
     replace eH:=aO eH;refine bn ?_;refine Rt [] results41 ?_;exact⟨congrArg Value.bool (fin (Ac)).symm,rfl⟩
    intro eH;replace eH:=aO eH;refine aw ?_;refine Me (()) (by omega)
   intro dm;replace dm:=aO dm;refine cA ?_;refine Me (()) (by omega)
  intro fh;replace fh:=aO fh;refine bB ?_;refine bJ (t:=24) rfl ?_ ?_
  ·intro eM
   replace eM:=aO eM;refine bK ?_;refine az rfl ?_ ?_
   ·intro dm
    replace dm:=aO dm;refine bn ?_;refine Rt [] results41 ?_;exact⟨congrArg Value.bool (fin (Ac)).symm,rfl⟩
   intro dm;replace dm:=aO dm;refine aw ?_;refine Me (()) (by omega)
  intro eM;replace eM:=aO eM;refine cA ?_;refine Me (()) (by omega)
 rintro u hI;have eM:xM c=((decide (0<n)&&c.keys.any λk=> !du k) ||decide (5<=c.aC/\c.aC<=10/\4294967295<c.fl)):=by rw[hb,decide_eq_false hI,akQ]
 refine av ?_;refine eK (ι:=Unit) (FN [2,1,5,1,31,14]) (λu=>(decide (0<n)&&c.keys.any λk=> !du k)=false) (λu=> []) (λu=> [ag b1 42 (fI c ka kc da dc mv)]) ?_ ?_
 ·refine gK ?_
  refine bq ?_;by_cases hp:0<n
  ·refine fe ?_ (e:=by exact decide_eq_true hp)
   refine bK ?_;refine Lo (ι:=Nat) (FN [2,1,5,1,36,9]) (λk=>k<=c.keys.length/\∀x∈c.keys.take k,du x=true) (λk=> [(36,Dm Dl k)]) (λk=> [ag b1 42 (fI c ka kc da dc mv)]) (λk=>c.keys.length-k) (0) ⟨abL _,by simp⟩ ?_;rintro k hI;obtain⟨hk1,wy⟩:=hI;by_cases cJ:k<c.keys.length
   ·have xA:=CF c.keys k cJ
    have Gw:=hk _ (abC cJ);have hsm:ka.isSome=true:=by obtain⟨ad,e,_⟩:=hr k _ xA;rw[e];rfl
    refine bq ?_;refine av ?_;refine fe ?_;refine bn ?_;refine Li (Ix Al) ?_;refine bn ?_;refine Lp (Dr wu me sE λkb kcc sI=> ?_);refine zl Aa (E2 (some ⟨kb,0,none⟩) kcc _ c.keys[k] rfl (by omega)) .nil (λh le ak=>bX (ak.nth 0 rfl)) ?_;by_cases hg:du c.keys[k]=true
    ·rw[hg]
     refine cA ?_;refine aD ?_;refine Ro (k+1) (⟨cJ,λx hx=>(by rw[agK,aac cJ,List.mem_append]at hx;rcases hx with hx|hx;exact wy x hx;obtain rfl:x=c.keys[k]:=(by simpa using hx);exact hg)⟩) (by omega)
    have hg2:du c.keys[k]=false:=by simpa using hg
    rw[hg2];refine dL ?_;refine Rt [] results41 ?_;refine⟨congrArg Value.bool ?_,rfl⟩;have:(c.keys.any λk=> !du k)=true:=List.any_eq_true.2 ⟨_,abC cJ,by rw[hg2];rfl⟩;rw[eM,this,decide_eq_true hp];rfl
   refine gK ?_;refine bd ?_;refine av ?_;refine cN ?_;refine bc ?_;refine Me (()) ((by(have uz:k=c.keys.length:=by omega);rw[uz,ajS]at wy;rw[Bool.and_eq_false_iff];right;rw[List.any_eq_false];intro x hx;rw[wy x hx];decide))
  refine cN ?_ (e:=by exact decide_eq_false hp);refine aw ?_;refine Me (()) ((by rw[decide_eq_false hp];rfl))
 rintro u hI;rw[hI,akQ]at eM;refine bn ?_;refine bJ (t:=48) rfl ?_ ?_
 ·intro fm
  replace fm:=aO fm;refine bn ?_;refine bJ (t:=53) rfl ?_ ?_
  ·intro fh
   replace fh:=aO fh;refine bK ?_;refine Rt [] results41 ?_;refine⟨congrArg Value.bool ?_,rfl⟩;rw[eM]
   first
    |exact decide_eq_decide.2 (by omega)
    |exact(Ab).symm
  intro fh;replace fh:=aO fh;refine bK ?_;refine Rt [] results41 ?_;refine⟨congrArg Value.bool ?_,rfl⟩;rw[eM]
  first
   |exact decide_eq_decide.2 (by omega)
   |exact(Ab).symm
 intro fm;replace fm:=aO fm;refine dL ?_;refine Rt [] results41 ?_;refine⟨congrArg Value.bool ?_,rfl⟩;rw[eM]
 first
  |exact decide_eq_decide.2 (by omega)
  |exact(Ab).symm
end Go.Proofs.YtcbcjolpdljbiaaGreat
namespace Go.dC
open Go
theorem aG.frP{P:Program}{f:FuncId}{args:FJ}{pre xG:Hp->Prop}{H As R:F8}{T:Dp}(h:aG P f args pre As T)(c9:iA H As R)(hp:∀k k0,Le k0 k->xG k0->gG R k->pre k):
  aG P f args xG H (λv H'=>∃H0,T v H0/\H'=H0++R):=by
 intro F w hF s;obtain⟨a1,a2,a3,fr,hh,st,hl,rr⟩:=s;obtain⟨h1,h2,d12,l1,l2,s1,s2⟩:=bh (c9.out _ st);have vE:bG h2 F.h:=rr.left l2
 let F':dG:={F with h:=fF h2 F.h}
 have gY:Le F.h F'.h:=aJ vE;have gZ:Le h2 F'.h:=aR _ _;have xu:St F' As w:=⟨a1,a2,a3,bQ (l2.trans hl) fr,h1,s1,l1.trans hl,(bG.fF d12.symm (rr.left l1).symm).symm⟩;refine(h F' w (hp _ _ gY hF (cj s2 gZ)) xu).mono ?_;rintro e w' ⟨v,H',rfl,hT,sw⟩;obtain⟨b1,b2,b3,ru,zL,st2,zJ,ke⟩:=sw;exact⟨v,_,rfl,⟨H',hT,rfl⟩,b1,b2,b3,gY.trans ru,fF zL h2,bz st2 s2 (ke.right gZ),bQ zJ (gZ.trans ru),bG.fF (ke.right gY) vE⟩
end Go.dC
namespace Go.Proofs.YtcbcjolpdljbiaaGreat
open Go Go.dC Go.Proofs.YtcbcjolpdljbiaaGreat.Cs
def ab6 (v:Sv):FJ:= [Dm Dl v.c.ao,Dm Dl v.c.bA,Dm Dl v.c.iG,Dm Dl v.c.eI,Dm Dl v.c.lim,Dm Dl v.c.hot,Dm Dl v.c.warm,Dm Dl v.p.b,Dm Dl v.p.l,Dm Dl v.p.c,Dm Dl v.p.m,Dm Dj v.aQ,Dm Dl v.fB,Dm Dl v.mt.dr,Dm Dl v.mt.re,Dm Dl v.mt.bu,Dm Dl v.mt.li,Dm Dl v.mt.lo,Dm Dl v.mt.cr,Dm Dl v.mt.mv]
def zQ (y:Sy)(v:Sv):FJ:=Dk y.b::Dk y.ck::Dk y.t::Dk y.lu::Dk y.wh::Dk y.cr::Dk y.mo::Dk y.q::ab6 v
def Wx (z:Ly)(B:Bx)(M:Mo):F8:=
 [Cl z.y.b B.C,ag z.y.t 154 (gE z.y.b B.W B.ty),ag B.ty.nk 149 (aS (aF B.W.nb)),nL B.ty.ok 149 (aS (aF B.W.ob)),ag z.y.q 182 (ij z.y.b z.qb B.C.ae.length),ag z.qb 333 (M.Q.flatMap (cX B.C)),ik z.y.cr z.y.q z.y.wh B.C.ae.length (aV z.s) (bx z.s) B.C M.x,Wl z.y.wh B.E M.tn,
  kI z.y.ck M.k,nM z.y.lu z.y.b z.y.q z.hot z.warm,mN z.y.mo z.y.b z.ub (aV z.s) (bx z.s) (de z.s) M.m,kF z.ub M.m,jJ M]
theorem xq (z:Ly)(B:Bx)(M:Mo):fP (dS z B M) (fy z.s z.y (fg M.v)) (Wx z B M):=
 .t8 .here
theorem tM{z:Ly}{M:Mo}{h:Hp}(s:SH z M h):∃B,bH B M/\ai (fy z.s z.y (fg M.v)::Wx z B M) h:=by
 obtain⟨B,O,t⟩:=s;exact⟨B,O,(xq z B M).out _ t⟩
theorem EF{z:Ly}{M:Mo}(h:Hp)(s:SH z M h)(i:Nat)(v:Value)(e:(zQ z.y M.v++ [.slice M.v.wa M.v.wn M.v.wc])[i]?=some v):eJ h ⟨z.s,i,none⟩=some v:=by
 obtain⟨B,O,t⟩:=tM s;obtain⟨h1,h2,_,l1,_,a,_⟩:=t;exact cU l1 (fx a e)
instance ajC{z:Ly}{M:Mo}:Cells (SH z M) z.s (zQ z.y M.v++ [.slice M.v.wa M.v.wn M.v.wc]):=⟨λh s i v e=>EF h s i v e⟩
instance ajB{z:Ly}{M:Mo}:Cells (SW z M) z.s (zQ z.y M.v):=⟨λh s i v e=>by
 obtain⟨w,s⟩:=s;refine EF h s i v ?_;rw[show(M.aK w.1 w.2).v.wa=w.1 from rfl];exact(List.getElem?_append_left (List.getElem?_eq_some_iff.1 e).1).trans e⟩
theorem pW{z:Ly}{M:Mo}{w:Sv}{i:Nat}{v:Value}(hO:∀B,bH B M->bH B {M with v:=w})(hw:w.wa=M.v.wa/\w.wc=M.v.wc)(hi:i<29)(hc:(iT z.y (fg M.v)).set i v=iT z.y (fg w)):rV (SH z M) z.s i v (SH z {M with v:=w}):=⟨λh s=>by
 obtain⟨B,O,t⟩:=tM s;refine⟨_,_,Wx z B M,(by simpa[iT,fg]using hi),t,λk sk=>⟨B,hO B O, ?_⟩⟩;rw[hc]at sk;have h1:Wx z B M=Wx z B {M with v:=w}:=by
  unfold Wx jJ;rw[hw.1,hw.2]
 rw[h1]at sk;exact(xq z B {M with v:=w}).back _ sk⟩
theorem QY{z:Ly}{M N:Mo}{i:Nat}{v:Value}(h:∀a c,rV (SH z (M.aK a c)) z.s i v (SH z (N.aK a c))):rV (SW z M) z.s i v (SW z N):=⟨λk s=>by
 obtain⟨w,s⟩:=s;obtain⟨e,cs,R,hi,t,back⟩:=(h w.1 w.2).cut k s;exact⟨e,cs,R,hi,t,λk2 s2=>⟨w,back k2 s2⟩⟩⟩
instance adi{z:Ly}{M:Mo}{i:Nat}:rV (SH z M) z.s 19 (Dm Dj i) (SH z (M.rj i)):=pW (λ_ O=>O.rj i) ⟨rfl,rfl⟩ (by decide) rfl
instance sh_dr{z:Ly}{M:Mo}{x:Int}:rV (SH z M) z.s 21 (Dm Dl x) (SH z (M.aN {M.v.mt with dr:=x})):=pW (λ_ O=>O.aN _) ⟨rfl,rfl⟩ (by decide) rfl
instance sh_re{z:Ly}{M:Mo}{x:Int}:rV (SH z M) z.s 22 (Dm Dl x) (SH z (M.aN {M.v.mt with re:=x})):=pW (λ_ O=>O.aN _) ⟨rfl,rfl⟩ (by decide) rfl
instance sh_bu{z:Ly}{M:Mo}{x:Int}:rV (SH z M) z.s 23 (Dm Dl x) (SH z (M.aN {M.v.mt with bu:=x})):=pW (λ_ O=>O.aN _) ⟨rfl,rfl⟩ (by decide) rfl
instance sh_li{z:Ly}{M:Mo}{x:Int}:rV (SH z M) z.s 24 (Dm Dl x) (SH z (M.aN {M.v.mt with li:=x})):=pW (λ_ O=>O.aN _) ⟨rfl,rfl⟩ (by decide) rfl
instance sh_lo{z:Ly}{M:Mo}{x:Int}:rV (SH z M) z.s 25 (Dm Dl x) (SH z (M.aN {M.v.mt with lo:=x})):=pW (λ_ O=>O.aN _) ⟨rfl,rfl⟩ (by decide) rfl
instance aiz{z:Ly}{M:Mo}{x:Int}:rV (SH z M) z.s 26 (Dm Dl x) (SH z (M.aN {M.v.mt with cr:=x})):=pW (λ_ O=>O.aN _) ⟨rfl,rfl⟩ (by decide) rfl
instance sh_mv{z:Ly}{M:Mo}{x:Int}:rV (SH z M) z.s 27 (Dm Dl x) (SH z (M.aN {M.v.mt with mv:=x})):=pW (λ_ O=>O.aN _) ⟨rfl,rfl⟩ (by decide) rfl
instance sw_iss{z:Ly}{M:Mo}{i:Nat}:rV (SW z M) z.s 19 (Dm Dj i) (SW z (M.rj i)):=QY λa c=>adi (M:=M.aK a c)
instance sw_cr{z:Ly}{M:Mo}{x:Int}:rV (SW z M) z.s 26 (Dm Dl x) (SW z (M.aN {M.v.mt with cr:=x})):=QY λa c=>aiz (M:=M.aK a c)
theorem XW{P:Program}{f:FuncId}{args:FJ}{z:Ly}{M:Mo}{xG:Hp->Prop}{T:Dp}(h:∀B,bH B M->∃pre,aG P f args pre [] T/\∀k k0,Le k0 k->xG k0->gG (dS z B M) k->pre k):
  aG P f args xG [SH z M] (λv H=>∃H0,T v H0/\H=H0++ [SH z M]):=
 dJ λB O=>by
  obtain⟨pre,g,hp⟩:=h B O;rw[abT];refine(g.frP (H:=dS z B M) (kY [] _) hp).out ?_;rintro v H' ⟨H0,t,rfl⟩;refine⟨H0++ [SH z M],⟨H0,t,rfl⟩,λk s=> ?_⟩;obtain⟨h1,h2,d,l1,l2,s1,s2⟩:=bh s;exact qK (A:=SH z M) (B:=SH z M) d l1 l2 s1 (AI ⟨B,O,s2⟩)
theorem JE{P:Program}{f:FuncId}{args:FJ}{z:Ly}{M:Mo}{xG:Hp->Prop}{T:Dp}(h:∀a c B,bH B (M.aK a c)->∃pre,aG P f args pre [] T/\∀k k0,Le k0 k->xG k0->gG (dS z B (M.aK a c)) k->pre k):
  aG P f args xG [SW z M] (λv H=>∃H0,T v H0/\H=H0++ [SW z M]):=
 wU λa c=>(XW (h a c)).out λv H' ⟨H0,t,e⟩=>⟨H0++ [SW z M],⟨H0,t,rfl⟩,by
  subst e;intro k s;obtain⟨h1,h2,d,l1,l2,s1,s2⟩:=bh s;obtain⟨h3,_,_,l3,_,q,_⟩:=s2;exact qK (A:=SW z M) (B:=SW z M) (d.right l3) l1 (l3.trans l2) s1 (AI ⟨(a,c),q⟩)⟩
theorem lT{P:Program}{f:FuncId}{args:FJ}{z:Ly}{M:Mo}{xG:Hp->Prop}{T:Value->Prop}(h:∀a c B,bH B (M.aK a c)->∃pre,aG P f args pre [] (λv H=>T v/\H= [])/\∀k k0,Le k0 k->xG k0->gG (dS z B (M.aK a c)) k->pre k):
  aG P f args xG [SW z M] (λv H=>T v/\H= [SW z M]):=
 (JE h).out λv H' ⟨H0,⟨t,e0⟩,e⟩=>⟨[SW z M],⟨t,rfl⟩,by subst e0;subst e;exact λk s=>s⟩
theorem L9 (z:Ly)(M:Mo)(a:FL)(c m:Nat)(l:FI)(hm:m=l.length)(hl:l.length<281474976710656):
  aG aaa 47 [Dk z.y.t, .slice a m c] (λh=>gF h a (aj l)) [SW z M] (λv H=>v= .tuple #[Dm Dj (qZ M.C (M.find l)), .bool (M.find l).isSome]/\H= [SW z M]):=
 lT λwa wc B O=>by
  have h:=ng z.y.t z.y.b B.C O.k B.W B.ty O.t O.ty a m c l hm hl;rw[O.QI,P6 O]at h;exact⟨_,h,λk k0 le g ak=>⟨ak.nth 0 rfl,⟨ak.nth 1 rfl,ak.nth 2 rfl,ak.nth 3 rfl,trivial⟩,g.mono le⟩⟩
theorem XP (z:Ly)(M:Mo)(p:Nat)(hp:M.has p):aG aaa 90 [Dk z.y.b,Dm Dj (M.C.hd p)] uT [SW z M] (λv H=>v= .tuple #[Dm Dl p,Dm Dl (M.C.cl p),Dm Dl 0]/\H= [SW z M]):=
 lT λwa wc B O=>by
  have h:=vS z.y.b B.C O.k p (O.sH ((O.al p).2 hp));rw[O.hd,show B.C.cl p=M.C.cl p from O.cl p]at h;exact⟨_,h,λk k0 le h ak=>ak.nth 0 rfl⟩
theorem si (z:Ly)(M:Mo)(p:Nat)(hp:M.has p):aG aaa 148 [Dk z.y.b,Dm Dj (M.C.hd p)] uT [SW z M] (λv H=>v= .tuple #[Dm Dj ((M.it p).tok),Dm Dl 0]/\H= [SW z M]):=
 lT λwa wc B O=>by
  have dD:=(O.al p).2 hp;have h:=A8 z.y.b B.C O.k p (O.sH dD) (O.t.it p dD).k0;rw[O.hd,show rd B.C.A (p+32) 8=(M.it p).tok from(O.kK dD).2.2.1]at h;exact⟨_,h,λk k0 le h ak=>ak.nth 0 rfl⟩
theorem Ie (z:Ly)(M:Mo)(c:Int):aG aaa 71 [Dk z.y.b,Dm Dl c] uT [SW z M] (λv H=>v=Dm Dl (ofM M.C c λi=>M.C.sz i:Nat)/\H= [SW z M]):=
 lT λwa wc B O=>by
  have h:=qW z.y.b B.C O.k c;have e:(ofM B.C c λi=>B.C.sz i)=ofM M.C c λi=>M.C.sz i:=by
   conv=>lhs;rw[O.c]
   rfl
  rw[e]at h;exact⟨_,h,λk k0 le h ak=>ak.nth 0 rfl⟩
theorem AG (z:Ly)(M:Mo)(p:Nat)(hp:M.has p):aG aaa 98 [Dk z.y.b,Dm Dj (M.C.hd p)] uT [SW z M]
  (λv H=>∃H0,(∃kb vb st,1<=st/\st<=3/\p∈ql M.Q (qi (M.C.cl p) st)/\v= .tuple #[.agg (DL (.slice (some ⟨kb,0,none⟩) (M.it p).key.length (M.it p).key.length) (.slice (some ⟨vb,0,none⟩) (M.it p).val.length (M.it p).val.length) (M.it p).fl (M.it p).exp (M.it p).tch (M.it p).tok st (M.it p).eP).toArray,Dm Dl 0]/\
   H0= [own (some ⟨kb,0,none⟩) (M.it p).key.length 5 1 (aj (M.it p).key),own (some ⟨vb,0,none⟩) (M.it p).val.length 5 1 (aj (M.it p).val)])/\H=H0++ [SW z M]):=
 JE λwa wc B O=>by
  have dD:=(O.al p).2 hp;obtain⟨f1,f2,f3,f4,f5,f6,f7⟩:=O.kK dD;rw[show(M.aK wa wc).it p=M.it p from rfl]at f1 f2 f3 f4 f5 f6 f7;have lk:kl B.C.A p=(M.it p).key.length:=by rw[<-f5];exact(cE _ _ _).symm
  have lv:vl B.C.A p=(M.it p).val.length:=by rw[<-f6];exact(cE _ _ _).symm
  have fA:∃i,p∈ql M.Q i:=hp;obtain⟨i,hi⟩:=fA;have hs:=O.o.st i p hi;have h:=tT z.y.b B.C O.k p (O.sH dD) (O.t.it p dD);rw[O.hd,show rd B.C.A (p+40) 4=(M.it p).fl from f7,show rd B.C.A (p+16) 8=(M.it p).exp from f1,show rd B.C.A (p+24) 8=(M.it p).tch from f2,show rd B.C.A (p+32) 8=(M.it p).tok from f3,show rd B.C.A (p+46) 1=(M.it p).eP from f4,lk,lv,f5,f6]at h;refine⟨_,h.out ?_,λk k0 le h ak=>ak.nth 0 rfl⟩;rintro v H ⟨kb,vb,e1,e2⟩;refine⟨H,⟨kb,vb,gz B.C.A p,hs.1,hs.2.1, ?_,e1,e2⟩,λ_ s=>s⟩;have:=hs.2.2;rw[show B.C.cl p=M.C.cl p from O.cl p]at this;rw[<-this];exact hi
theorem pQ{n:Nat}{ds:Dq}{F:dG}{K:F9}{σ:aP}{z:Ly}{M:Mo}{H:F8}(h:∀a c B,bH B (M.aK a c)->G n ds F K σ (SW z M::H)):G n ds F K σ (SW z M::H):=
 Ap λa c=>QE λB O=>aaW a c (h a c B O)
theorem bH.Wr{B:Bx}{M:Mo}(O:bH B M){p:Nat}(hp:M.has p):0<M.C.hd p/\M.C.hd p<18446744073709551616:=by
 have h:=bM O.k (O.mL ((O.al p).2 hp));rw[O.hd]at h;obtain⟨h1,h2,h3,h4,h5,h6⟩:=h;exact⟨by omega,by omega⟩
theorem ns{M N:Mo}{k:FI}{p:Nat}(h:M.meet k=(some p,N)):M.has p/\(M.it p).key=k/\N=M.bI 0:=by
 unfold Mo.meet at h;cases hf:M.find k with
 |none=>rw[hf]at h;simp at h
 |some q=>
  rw[hf]at h;dsimp only at h;split at h
  ·simp at h
  simp only[Prod.mk.injEq,Option.some.injEq]at h;obtain⟨rfl,rfl⟩:=h;obtain⟨h1,h2⟩:=nw hf;exact⟨h1,h2,rfl⟩
structure hG where
 kind:Nat
 eF:List I3
 num:Nat
 wM:FI
def hG.k (n:Nat):hG:=⟨n,[],0,[]⟩
def hG.t (t:FI):hG:=⟨11,[],0,t⟩
def uI (a:hG):Value:=zZ a.kind br a.num a.wM
def rE (v:Value):Value:= .iface 102 v
theorem yL (z:Ly)(M:Mo)(c:fi)(ka:FL)(kc:Nat)(da:FL)(dc:Nat)(mv:Value)(mS:mv.oneCell'=true)(k:FI)(r:List FI)(uA:c.keys=k::r)(hk:k.length<281474976710656)(hw:M.jZ.length<1073741824):
  W5 aaa 84 [Dk z.s, .agg (fI c ka kc da dc mv).toArray] (λh=>gF h ka (mV c.keys)) [SW z M]
   (λv H=>∃p N,M.meet k=(some p,N)/\v=Dm Dj (M.C.hd p)/\H= [SW z N]) (λv H=>∃N,M.meet k=(none,N)/\v=rE (uI (.k 4))/\H= [SW z N]):=by
 refine lX func84 rfl ntmps84 rfl ?_;intro F hr;have xA:(mV c.keys)[0]?=some (a8 k):=by rw[uA];rfl
 have hsm:ka.isSome=true:=by obtain⟨ad,e,_⟩:=hr 0 _ xA;rw[e];rfl
 have Gw:0<c.keys.length:=by rw[uA];exact akY _
 refine aw ?_;refine Lp (oB λb1=> ?_);refine bd ?_;refine au (λ_ x=>dy x) ?_;refine pQ λa c B O=> ?_;refine bc ?_;refine Li (Ix (j:=0) Al) ?_;refine aw ?_;refine zl Aa (yx z M k hk hw) (.cons .here .nil) Di ?_;rcases hm:M.meet k with⟨_|p,N⟩
 ·refine Li As ?_
  refine bB ?_;refine Li (Ww T.gP) ?_;refine Lp (Wc ?_);refine pP [SW z N] ?_;exact⟨N,rfl,rfl,rfl⟩
 have hp:=O.Wr (ns hm).1;change 0<M.C.hd p/\_ at hp;refine bK ?_;refine cN ?_ (e:=by exact decide_eq_false (by show¬(((M.C.hd p:Nat):Int)=0);omega));refine bK ?_;refine pR ?_;refine Rt [SW z N] results84 ?_;exact⟨p,N,rfl,rfl,rfl⟩
def Mo.over (M:Mo)(old:FK)(ov:Bool):Mo:=match old with|some p=>if ov=true then M.bw p else M|none=>M
theorem mI (z:Ly)(M:Mo)(old:FK)(hold:∀p,old=some p->M.has p)(over:Bool)(t:FI):
  W5 aaa 132 [Dk z.s,Dm Dj (qZ M.C old), .bool over,a8 t] uT [SW z M]
   (λ_ _=>False) (λv H=>v=rE (uI (.t t))/\H= [SW z (M.over old over)]):=by
 refine lX func132 rfl ntmps132 rfl ?_;intro F _;refine pQ λa c B O=> ?_;rcases old with _|p
 ·refine av ?_
  refine bc ?_;refine zf 10 ?_ (e:=by rfl);refine cV ?_;refine zl Aa (hZ t) .nil Di ?_;refine Li (Ww T.gP) ?_;refine Lp (Wc ?_);refine pP [SW z M] ?_;exact⟨rfl,rfl⟩
 have hp:=O.Wr (hold p rfl);change 0<M.C.hd p/\_ at hp;rcases over with _|_
 ·refine av ?_
  refine bc ?_;refine zt 10 ?_ (e:=by exact congrArg (!·) (decide_eq_false (by show¬(((M.C.hd p:Nat):Int)=0);omega)));refine cV ?_;refine zl Aa (hZ t) .nil Di ?_;refine Li (Ww T.gP) ?_;refine Lp (Wc ?_);refine pP [SW z M] ?_;exact⟨rfl,rfl⟩
 refine av ?_;refine bc ?_;refine zt 10 ?_ (e:=by exact congrArg (!·) (decide_eq_false (by show¬(((M.C.hd p:Nat):Int)=0);omega)));refine bK ?_;refine zl Aa (uY z M p (hold p rfl)) (.cons .here .nil) Di ?_;refine bq ?_;refine zl Aa (hZ t) .nil Di ?_;refine Li (Ww T.gP) ?_;refine Lp (Wc ?_);refine pP [SW z (M.bw p)] ?_;exact⟨rfl,rfl⟩
def cg (aC:Int)(LH:Nat)(old:FK)(tok:Nat->Nat):Nat:=
 if aC=6 then(if old.isSome then 2 else 0)
 else if aC=7\/aC=8\/aC=9 then(if old.isSome then 0 else 2)
 else if aC=10 then(match old with|none=>4|some p=>if tok p=LH then 0 else 3)
 else 0
theorem nN{n:Nat}{ds:Dq}{F:dG}{Q:Exit->F9}{σ:aP}{H:F8}{ι:Type}{jF:FH}{σ0:aP}{I:ι->Prop}{L:ι->aP}{HI:ι->F8}(j:ι)(hI:I j)(hs:pH (L j) σ:=by exact⟨(by refine congrArg (λq=>some (Value.int .i64 q)) ?_;unfold cg;try dsimp only;(repeat' split)<;>first|rfl|(exfalso;omega)|simp_all),trivial⟩)
  (hk:fH jF σ=fH jF σ0:=by exact rfl) (hh:∀h,ai H h->ai (HI j) h:=by exact Eh):G n ds F (Exit.then (Er n ds F jF σ0 I L HI) Q .normal) σ H:=abh j hI hs hk hh
theorem ZM (z:Ly)(M:Mo)(c:fi)(ka:FL)(kc:Nat)(da:FL)(dc:Nat)(mv:Value)(mS:mv.oneCell'=true)(old:FK)(hold:∀p,old=some p->M.has p):
  W5 aaa 133 [Dk z.s, .agg (fI c ka kc da dc mv).toArray,Dm Dj (qZ M.C old)] uT [SW z M]
   (λv H=>cg c.aC c.tok old (λp=>(M.it p).tok)=0/\v= .tuple #[]/\H= [SW z M]) (λv H=>∃n,cg c.aC c.tok old (λp=>(M.it p).tok)=n/\n≠0/\v=rE (uI (.k n))/\H= [SW z M]):=by
 refine lX func133 rfl ntmps133 rfl ?_;intro F _;refine aw ?_;refine Lp (oB λb1=> ?_);refine aw ?_;refine au (λ_ x=>dy x) ?_;refine pQ λa b B O=> ?_;refine bq ?_;refine av ?_;refine eK (ι:=Nat) (FN [6,33]) (λn=>cg c.aC c.tok old (λp=>(M.it p).tok)=n) (λn=> [(6,Dm Dl n)]) (λn=> [SW z M]) ?_ ?_
 ·rcases old with _|p
  ·have e0:qZ M.C none=0:=rfl
   refine cA ?_;refine az rfl ?_ ?_
   ·intro fm
    replace fm:=aO fm;refine bc ?_;refine az rfl ?_ ?_
    ·intro fh
     replace fh:=aO fh;refine bc ?_;refine nN (cg c.aC c.tok _ _) rfl
    intro fh;replace fh:=aO fh;refine bd ?_;refine nN (cg c.aC c.tok _ _) rfl
   intro fm;replace fm:=aO fm;refine bn ?_;refine az rfl ?_ ?_
   ·intro fh
    replace fh:=aO fh;refine bd ?_;refine az rfl ?_ ?_
    ·intro eM
     replace eM:=aO eM;refine bc ?_;refine az rfl ?_ ?_
     ·intro dm
      replace dm:=aO dm;refine bc ?_;refine nN (cg c.aC c.tok _ _) rfl
     intro dm;replace dm:=aO dm;refine bd ?_;refine nN (cg c.aC c.tok _ _) rfl
    intro eM;replace eM:=aO eM;refine bc ?_;refine az rfl ?_ ?_
    ·intro dm
     replace dm:=aO dm;refine bc ?_;refine az rfl ?_ ?_
     ·intro eH
      replace eH:=aO eH;refine bc ?_;refine nN (cg c.aC c.tok _ _) rfl
     intro eH;replace eH:=aO eH;refine bK ?_;refine zl Aa ((show aG aaa 148 [Dk z.y.b,Dm Dj (qZ M.C none)] uT [SW z M] (λv H=>v= .tuple #[Dm Dj 0,Dm Dl 0]/\H= [SW z M])from λF w _ _=>by exfalso;omega)) (.cons .here .nil) Di ?_;refine dL ?_;refine az rfl ?_ ?_
     ·intro j5
      replace j5:=aO j5;refine bc ?_;refine nN (cg c.aC c.tok _ _) rfl
     intro j5;replace j5:=aO j5;refine bd ?_;refine nN (cg c.aC c.tok _ _) rfl
    intro dm;replace dm:=aO dm;refine bd ?_;refine nN (cg c.aC c.tok _ _) rfl
   intro fh;replace fh:=aO fh;refine bc ?_;refine az rfl ?_ ?_
   ·intro eM
    replace eM:=aO eM;refine bd ?_;refine az rfl ?_ ?_
    ·intro dm
     replace dm:=aO dm;refine bc ?_;refine az rfl ?_ ?_
     ·intro eH
      replace eH:=aO eH;refine bc ?_;refine nN (cg c.aC c.tok _ _) rfl
     intro eH;replace eH:=aO eH;refine bd ?_;refine nN (cg c.aC c.tok _ _) rfl
    intro dm;replace dm:=aO dm;refine bc ?_;refine az rfl ?_ ?_
    ·intro eH
     replace eH:=aO eH;refine bc ?_;refine az rfl ?_ ?_
     ·intro j5
      replace j5:=aO j5;refine bc ?_;refine nN (cg c.aC c.tok _ _) rfl
     intro j5;replace j5:=aO j5;refine bK ?_;refine zl Aa ((show aG aaa 148 [Dk z.y.b,Dm Dj (qZ M.C none)] uT [SW z M] (λv H=>v= .tuple #[Dm Dj 0,Dm Dl 0]/\H= [SW z M])from λF w _ _=>by exfalso;omega)) (.cons .here .nil) Di ?_;refine dL ?_;refine az rfl ?_ ?_
     ·intro uB
      replace uB:=aO uB;refine bc ?_;refine nN (cg c.aC c.tok _ _) rfl
     intro uB;replace uB:=aO uB;refine bd ?_;refine nN (cg c.aC c.tok _ _) rfl
    intro eH;replace eH:=aO eH;refine bd ?_;refine nN (cg c.aC c.tok _ _) rfl
   intro eM;replace eM:=aO eM;refine bc ?_;refine az rfl ?_ ?_
   ·intro dm
    replace dm:=aO dm;refine bc ?_;refine az rfl ?_ ?_
    ·intro eH
     replace eH:=aO eH;refine bc ?_;refine nN (cg c.aC c.tok _ _) rfl
    intro eH;replace eH:=aO eH;refine bd ?_;refine nN (cg c.aC c.tok _ _) rfl
   intro dm;replace dm:=aO dm;refine bc ?_;refine az rfl ?_ ?_
   ·intro eH
    replace eH:=aO eH;refine bc ?_;refine az rfl ?_ ?_
    ·intro j5
     replace j5:=aO j5;refine bc ?_;refine nN (cg c.aC c.tok _ _) rfl
    intro j5;replace j5:=aO j5;refine bK ?_;refine zl Aa ((show aG aaa 148 [Dk z.y.b,Dm Dj (qZ M.C none)] uT [SW z M] (λv H=>v= .tuple #[Dm Dj 0,Dm Dl 0]/\H= [SW z M])from λF w _ _=>by exfalso;omega)) (.cons .here .nil) Di ?_;refine dL ?_;refine az rfl ?_ ?_
    ·intro uB
     replace uB:=aO uB;refine bc ?_;refine nN (cg c.aC c.tok _ _) rfl
    intro uB;replace uB:=aO uB;refine bd ?_;refine nN (cg c.aC c.tok _ _) rfl
   intro eH;replace eH:=aO eH;refine bd ?_;refine nN (cg c.aC c.tok _ _) rfl
  have hp:=O.Wr (hold p rfl);have e0:qZ M.C (some p)=M.C.hd p:=rfl;change 0<M.C.hd p/\_ at hp;refine cA ?_;refine az rfl ?_ ?_
  ·intro fm
   replace fm:=aO fm;refine bc ?_;refine az rfl ?_ ?_
   ·intro fh
    replace fh:=aO fh;refine bc ?_;refine nN (cg c.aC c.tok _ _) rfl
   intro fh;replace fh:=aO fh;refine bd ?_;refine nN (cg c.aC c.tok _ _) rfl
  intro fm;replace fm:=aO fm;refine bn ?_;refine az rfl ?_ ?_
  ·intro fh
   replace fh:=aO fh;refine bd ?_;refine az rfl ?_ ?_
   ·intro eM
    replace eM:=aO eM;refine bc ?_;refine az rfl ?_ ?_
    ·intro dm
     replace dm:=aO dm;refine bc ?_;refine nN (cg c.aC c.tok _ _) rfl
    intro dm;replace dm:=aO dm;refine bd ?_;refine nN (cg c.aC c.tok _ _) rfl
   intro eM;replace eM:=aO eM;refine bc ?_;refine az rfl ?_ ?_
   ·intro dm
    replace dm:=aO dm;refine bc ?_;refine az rfl ?_ ?_
    ·intro eH
     replace eH:=aO eH;refine bc ?_;refine nN (cg c.aC c.tok _ _) rfl
    intro eH;replace eH:=aO eH;refine bK ?_;refine zl Aa (si z M p (hold p rfl)) (.cons .here .nil) Di ?_;refine dL ?_;refine az rfl ?_ ?_
    ·intro j5
     replace j5:=aO j5;refine bc ?_;refine nN (cg c.aC c.tok _ _) rfl
    intro j5;replace j5:=aO j5;refine bd ?_;refine nN (cg c.aC c.tok _ _) rfl
   intro dm;replace dm:=aO dm;refine bd ?_;refine nN (cg c.aC c.tok _ _) rfl
  intro fh;replace fh:=aO fh;refine bc ?_;refine az rfl ?_ ?_
  ·intro eM
   replace eM:=aO eM;refine bd ?_;refine az rfl ?_ ?_
   ·intro dm
    replace dm:=aO dm;refine bc ?_;refine az rfl ?_ ?_
    ·intro eH
     replace eH:=aO eH;refine bc ?_;refine nN (cg c.aC c.tok _ _) rfl
    intro eH;replace eH:=aO eH;refine bd ?_;refine nN (cg c.aC c.tok _ _) rfl
   intro dm;replace dm:=aO dm;refine bc ?_;refine az rfl ?_ ?_
   ·intro eH
    replace eH:=aO eH;refine bc ?_;refine az rfl ?_ ?_
    ·intro j5
     replace j5:=aO j5;refine bc ?_;refine nN (cg c.aC c.tok _ _) rfl
    intro j5;replace j5:=aO j5;refine bK ?_;refine zl Aa (si z M p (hold p rfl)) (.cons .here .nil) Di ?_;refine dL ?_;refine az rfl ?_ ?_
    ·intro uB
     replace uB:=aO uB;refine bc ?_;refine nN (cg c.aC c.tok _ _) rfl
    intro uB;replace uB:=aO uB;refine bd ?_;refine nN (cg c.aC c.tok _ _) rfl
   intro eH;replace eH:=aO eH;refine bd ?_;refine nN (cg c.aC c.tok _ _) rfl
  intro eM;replace eM:=aO eM;refine bc ?_;refine az rfl ?_ ?_
  ·intro dm
   replace dm:=aO dm;refine bc ?_;refine az rfl ?_ ?_
   ·intro eH
    replace eH:=aO eH;refine bc ?_;refine nN (cg c.aC c.tok _ _) rfl
   intro eH;replace eH:=aO eH;refine bd ?_;refine nN (cg c.aC c.tok _ _) rfl
  intro dm;replace dm:=aO dm;refine bc ?_;refine az rfl ?_ ?_
  ·intro eH
   replace eH:=aO eH;refine bc ?_;refine az rfl ?_ ?_
   ·intro j5
    replace j5:=aO j5;refine bc ?_;refine nN (cg c.aC c.tok _ _) rfl
   intro j5;replace j5:=aO j5;refine bK ?_;refine zl Aa (si z M p (hold p rfl)) (.cons .here .nil) Di ?_;refine dL ?_;refine az rfl ?_ ?_
   ·intro uB
    replace uB:=aO uB;refine bc ?_;refine nN (cg c.aC c.tok _ _) rfl
   intro uB;replace uB:=aO uB;refine bd ?_;refine nN (cg c.aC c.tok _ _) rfl
  intro eH;replace eH:=aO eH;refine bd ?_;refine nN (cg c.aC c.tok _ _) rfl
 rintro n hI;refine bc ?_;by_cases hn:n=0
 ·refine cN ?_ (e:=by exact congrArg (!·) (Ac))
  refine aw ?_;refine pN ?_;refine jU [SW z M] results133 ?_;exact⟨hI.trans hn,rfl,rfl⟩
 refine fe ?_ (e:=by exact congrArg (!·) (Ab));refine bc ?_;refine Li (Ww T.gP) ?_;refine Lp (Wc ?_);refine pP [SW z M] ?_;exact⟨n,hI,hn,rfl,rfl⟩
def Mo.hJ (M:Mo)(k:FI)(ex:Int):hG×Mo:=match M.meet k with
 |(none,N)=>(.k 4,N)
 |(some p,N)=>(.k 6,(N.time p (dq N.k.now ex)).lq p)
theorem H4 (z:Ly)(M:Mo)(c:fi)(ka:FL)(kc:Nat)(da:FL)(dc:Nat)(mv:Value)(mS:mv.oneCell'=true)(k:FI)(r:List FI)(uA:c.keys=k::r)(hk:k.length<281474976710656)(hw:M.jZ.length<1073741824)(hex:c.ex<9223372036854775808)(vD:M.tn<18446744073709551615):
  W5 aaa 83 [Dk z.s, .agg (fI c ka kc da dc mv).toArray] (λh=>gF h ka (mV c.keys)) [SW z M]
   (λv H=>∃a N,M.hJ k c.ex=(a,N)/\v=uI a/\H= [SW z N]) (λv H=>∃a N,M.hJ k c.ex=(a,N)/\v=rE (uI a)/\H= [SW z N]):=by
 refine lX func83 rfl ntmps83 rfl ?_;intro F hr;refine aw ?_;refine Lp (oB λb1=> ?_);refine Lp (oA o0 λb2=> ?_);refine bc ?_;refine Lp (PJ Aa rfl rfl (yL z M c ka kc da dc mv mS k r uA hk hw) (.cons (.t2 .here) .nil) (λ_ le _=>hr.mono le) (by rintro v H' ⟨N,hm,rfl,rfl⟩;exact pP [SW z N] ⟨.k 4,N,by unfold Mo.hJ;rw[hm],rfl,rfl⟩) ?_);rintro v H' ⟨p,N,hm,rfl,rfl⟩;refine bR ?_;obtain⟨m1,m2,m3⟩:=ns hm;have hN:N.has p:=by rw[m3];exact m1
 have hC:M.C=N.C:=by rw[m3];rfl
 rw[hC];refine bK ?_;refine zl Aa (sg z N p hN c.ex hex (by rw[m3];exact vD)) (.cons .here .nil) Di ?_;refine bc ?_;have ht:=yo z (N.time p (dq N.k.now c.ex)) p hN;rw[show(N.time p (dq N.k.now c.ex)).C.hd p=N.C.hd p from rfl]at ht;refine zl Aa (ht) (.cons .here .nil) Di ?_;refine bs ?_;refine pR ?_;refine Jc [SW z ((N.time p (dq N.k.now c.ex)).lq p)] ez results83 ?_;exact⟨.k 6,_,by unfold Mo.hJ;rw[hm],rfl,rfl⟩
def jH (l:List (I3×Nat)):FJ:=l.flatMap λx=>xL x.1 (.slice (some ⟨x.2,0,none⟩) x.1.val.length x.1.val.length)
def jG (l:List (I3×Nat)):aa:=aB (l.map λx=>own (some ⟨x.2,0,none⟩) x.1.val.length 5 1 (aj x.1.val))
def Mo.kf (iE:Bool)(ex:Int)(s:List I3×Mo)(k:FI):List I3×Mo:=match s.2.meet k with
 |(none,N)=>(s.1,N)
 |(some p,N)=>let N2:=if iE then N.time p (dq N.k.now ex)else N;(s.1++ [N2.it p],N2.lq p)
def Mo.xK (M:Mo)(aC:Int)(keys:List FI)(ex:Int):hG×Mo:=let r:=keys.foldl (Mo.kf (decide (aC=3\/aC=4)) ex) ([],M);(⟨9,r.1,0,[]⟩,r.2)
theorem OA (l:List (I3×Nat)):(jH l).length=l.length*9:=by
 unfold jH;rw[List.length_flatMap];rw[show(λx:I3×Nat=>(xL x.1 (.slice (some ⟨x.2,0,none⟩) x.1.val.length x.1.val.length)).length)=λ_=>9 from rfl];simp[List.map_const',Nat.mul_comm]
theorem tW{n:Nat}{ds:Dq}{F:dG}{K:F9}{σ:aP}{H:F8}(h:G n ds F K σ (jG []::H)):G n ds F K σ H:=
 au (λk s=>wL s) h
theorem Oy{l:List (I3×Nat)}{x:I3}{vb:Nat}{H:F8}{h:Hp}(s:ai (jG l::own (some ⟨vb,0,none⟩) x.val.length 5 1 (aj x.val)::H) h):ai (jG (l++ [(x,vb)])::H) h:=by
 unfold jG at*;rw[af1];exact y3 (M:= [own (some ⟨vb,0,none⟩) x.val.length 5 1 (aj x.val)]) s
theorem IQ (l:List (I3×Nat))(x:I3)(vb:Nat):jH (l++ [(x,vb)])=jH l++xL x (.slice (some ⟨vb,0,none⟩) x.val.length x.val.length):=by
 unfold jH;rw[List.flatMap_append];simp
theorem UB (M:Mo)(k:FI):(M.meet k).2.jZ.length=M.jZ.length+1/\(M.meet k).2.tn=M.tn:=by
 unfold Mo.meet;cases M.find k with
 |none=>exact⟨by simp[Mo.bI],rfl⟩
 |some p=>
  dsimp only;split
  ·exact⟨by simp[Mo.bI,Mo.bw],rfl⟩
  exact⟨by simp[Mo.bI],rfl⟩
theorem CB (M:Mo)(p e:Nat):(M.time p e).tn<=M.tn+1:=by
 unfold Mo.time;dsimp only;split<;>omega
theorem Zg (z:Ly)(M:Mo)(c:fi)(ka:FL)(kc:Nat)(da:FL)(dc:Nat)(mv:Value)(mS:mv.oneCell'=true)(hk:∀k∈c.keys,k.length<281474976710656)(hn:c.keys.length<1073741824)(hw:M.jZ= [])(hex:c.ex<9223372036854775808)(vD:M.tn+c.keys.length<18446744073709551615):
  aG aaa 81 [Dk z.s, .agg (fI c ka kc da dc mv).toArray] (λh=>gF h ka (mV c.keys)) [SW z M]
   (λv H=>∃a N ea ec l,M.xK c.aC c.keys c.ex=(a,N)/\l.map Prod.fst=a.eF/\v=zZ a.kind (.slice ea l.length ec) a.num a.wM/\H= [own ea ec 56 9 (jH l),jG l,SW z N]):=by
 refine af func81 rfl ntmps81 rfl ?_;intro F hr;refine aw ?_;refine Lp (oB λb1=> ?_);refine Lp (oA o0 λb2=> ?_);refine bq ?_;refine Lp (oA o0 λb3=> ?_);refine bB ?_;refine eT 56 9 ?_;refine tW ?_;refine Lo (ι:=Nat×List (I3×Nat)×Mo×FL×Nat) (FN [7,2,13,34]) (λs=>(s.1<=c.keys.length/\s.2.2.1.jZ.length=s.1/\s.2.2.1.tn<=M.tn+s.1/\s.2.1.length<=s.1)/\(c.keys.take s.1).foldl (Mo.kf (decide (c.aC=3\/c.aC=4)) c.ex) ([],M)=(s.2.1.map Prod.fst,s.2.2.1)) (λs=> [(13,Dm Dl s.1)]) (λs=> [SW z s.2.2.1,ag b1 42 (fI c ka kc da dc mv),ag b2 52 [Dm Dl 0,br,Dm Dj 0,a8 [],br],ag b3 52 [Dm Dl 9, .slice s.2.2.2.1 s.2.1.length s.2.2.2.2,Dm Dj 0,a8 [],br],own s.2.2.2.1 s.2.2.2.2 56 9 (jH s.2.1),jG s.2.1]) (λs=>c.keys.length-s.1) ((0,[],M,none,0)) ⟨⟨abL _,by rw[hw];rfl,aam _,aam _⟩,rfl⟩ ?_;rintro⟨i,l,N,ea,ec⟩ hI
 try dsimp only at hI⊢
 obtain⟨⟨hi,hwl,hNt,hll⟩,hf⟩:=hI;by_cases cJ:i<c.keys.length
 ·have xA:=CF c.keys i cJ
  have hsm:ka.isSome=true:=by obtain⟨ad,e,_⟩:=hr i _ xA;rw[e];rfl
  have Gw:=hk _ (abC cJ);have PR:(c.keys.take (i+1)).foldl (Mo.kf (decide (c.aC=3\/c.aC=4)) c.ex) ([],M)=Mo.kf (decide (c.aC=3\/c.aC=4)) c.ex (l.map Prod.fst,N) c.keys[i]:=by
   rw[agK,aac cJ,aku,hf];rfl
  generalize c.keys[i]=k at*;refine bq ?_;refine av ?_;refine fe ?_;refine pQ λwa wc B O=> ?_;refine bn ?_;refine Li (Ix Al) ?_;refine bs ?_;refine zl Aa (yx z N k Gw (by omega)) (.cons .here .nil) Di ?_;obtain⟨w1,w2⟩:=UB N k;rcases hm:N.meet k with⟨_|p,N1⟩
  ·rw[hm]at w1 w2
   refine lx ?_;refine aD ?_;refine Ro ((i+1,l,N1,ea,ec)) (⟨⟨cJ,(by dsimp only at*;omega),(by dsimp only at*;omega),(by dsimp only;omega)⟩,(by dsimp only;rw[PR];unfold Mo.kf;dsimp only;rw[hm])⟩) ((by dsimp only;omega))
  rw[hm]at w1 w2;obtain⟨m1,m2,m3⟩:=ns hm;have hp:=O.Wr m1;change 0<N.C.hd p/\_ at hp;have hN1:N1.has p:=by rw[m3];exact m1
  have hC:N.C=N1.C:=by rw[m3];rfl
  rw[hC]at hp⊢;refine bK ?_;refine cN ?_ (e:=by exact decide_eq_false (by show¬(((N1.C.hd p:Nat):Int)=0);omega));refine bd ?_;refine av ?_;refine eK (ι:=Mo) (FN [22,13]) (λN2=>N2=(if decide (c.aC=3\/c.aC=4)=true then N1.time p (dq N1.k.now c.ex)else N1)) (λN2=> []) (λN2=> [SW z N2,ag b1 42 (fI c ka kc da dc mv),ag b2 52 [Dm Dl 0,br,Dm Dj 0,a8 [],br],ag b3 52 [Dm Dl 9, .slice ea l.length ec,Dm Dj 0,a8 [],br],own ea ec 56 9 (jH l),jG l]) ?_ ?_
  ·refine gK ?_
   refine bc ?_;refine bJ (t:=25) rfl ?_ ?_
   ·intro fm
    replace fm:=aO fm;refine bP ?_;refine zl Aa (sg z N1 p hN1 c.ex hex (by dsimp only at w2;omega)) (.cons .here .nil) Di ?_;refine aD ?_
    first|refine Me (N1.time p (dq N1.k.now c.ex)) (by rw[if_pos (Ac)])|refine Me N1 (by rw[if_neg (by rw[decide_eq_true_eq];omega)])
   intro fm;replace fm:=aO fm;refine bn ?_;refine az rfl ?_ ?_
   ·intro fh
    replace fh:=aO fh;refine bn ?_;refine zl Aa (sg z N1 p hN1 c.ex hex (by dsimp only at w2;omega)) (.cons .here .nil) Di ?_;refine aD ?_
    first|refine Me (N1.time p (dq N1.k.now c.ex)) (by rw[if_pos (Ac)])|refine Me N1 (by rw[if_neg (by rw[decide_eq_true_eq];omega)])
   intro fh;replace fh:=aO fh;refine aw ?_
   first|refine Me (N1.time p (dq N1.k.now c.ex)) (by rw[if_pos (Ac)])|refine Me N1 (by rw[if_neg (by rw[decide_eq_true_eq];omega)])
  rintro N2 hI;have hN2:N2.has p:=by rw[hI];split<;>exact hN1
  have hC2:N1.C=N2.C:=by rw[hI];split<;>rfl
  have WE:N2.jZ=N1.jZ/\N2.tn<=N1.tn+1:=by
   rw[hI];split
   ·exact⟨rfl,CB _ _ _⟩
   exact⟨rfl,Nat.le_succ _⟩
  have hg:Mo.kf (decide (c.aC=3\/c.aC=4)) c.ex (l.map Prod.fst,N) k=(l.map Prod.fst++ [N2.it p],N2.lq p):=by
   unfold Mo.kf;dsimp only;rw[hm,hI]
  rw[hC2]at hp⊢;refine av ?_;refine iU 8 mix (.cons (.t3 .here) .nil) λF1 jD bV aI=> ?_;obtain⟨q1,_⟩:=bV;refine bc ?_;refine Tp (oC Aa rfl rfl (AN z N2 p hN2) (.cons .here .nil) Di ?_);rintro v H' ⟨vb,rfl,rfl⟩;refine bR ?_;refine Tp (oT1 abq λb4=> ?_);refine Tp (cm abq aiJ rfl rfl rfl rfl (.t4 .here) (OA l) (rfl) (by simp[xL,Value.oneCell',a8]) (by first|omega|(simp;omega)) (by first|omega|(simp;omega)) rfl λa4 c4 hc4=> ?_);refine aw ?_;refine gI aI ?_;refine bd ?_;rw[<-IQ l (N2.it p) vb,show l.length+1=(l++ [(N2.it p,vb)]).length by simp];refine Hh (H':= [jG l,own (some ⟨vb,0,none⟩) (N2.it p).val.length 5 1 (aj (N2.it p).val),SW z N2,ag b1 42 (fI c ka kc da dc mv),ag b2 52 [Dm Dl 0,br,Dm Dj 0,a8 [],br],ag b3 52 [Dm Dl 9, .slice a4 (l++ [(N2.it p,vb)]).length c4,Dm Dj 0,a8 [],br],own a4 c4 56 9 (jH (l++ [(N2.it p,vb)]))]) ?_;refine au (λh=>Oy (l:=l)) ?_;refine bq ?_;refine zl Aa (yo z N2 p hN2) (.cons (.there .here) .nil) Di ?_;refine bs ?_;refine aD ?_;dsimp only at w1 w2;have hl1:(l++ [(N2.it p,vb)]).length<=i+1:=by rw[aby,agm];omega
  have hl3:(l++ [(N2.it p,vb)]).map Prod.fst=l.map Prod.fst++ [N2.it p]:=by rw[af1];rfl
  generalize l++ [(N2.it p,vb)]=l2 at*;refine Ro ((i+1,l2,N2.lq p,a4,c4)) (⟨⟨cJ,(by show N2.jZ.length=i+1;rw[WE.1];omega),(by show N2.tn<=_;omega),hl1⟩,(by dsimp only;rw[PR,hg,hl3])⟩) ((by dsimp only;omega))
 refine gK ?_;refine bd ?_;refine av ?_;refine cN ?_;refine bK ?_;refine Lp (jh ez ?_ (h1:=by simp[cL,Value.cells,Value.oneCell',a8,br]));refine bd ?_;obtain rfl:i=c.keys.length:=by omega
 rw[ajS]at hf;refine Jc [own ea ec 56 9 (jH l),jG l,SW z N] ez results81 ?_;exact⟨_,N,ea,ec,l,by unfold Mo.xK;rw[hf],rfl,rfl,rfl⟩
structure q9 (M:Mo):Prop where
 k:Ok M.C
 nd:∀i,(ql M.Q i).Nodup
 lv:∀p,M.has p->Live M.C p
 on:M.m.on=true->M.m.pg<M.C.n/\(M.C.pg M.m.pg).own=true/\(M.C.pg M.m.pg).lv=true/\(M.C.pg M.m.pg).cl=M.m.fr
theorem bH.We{B:Bx}{M:Mo}(O:bH B M):q9 M:=by
 refine⟨O.mc0,O.o.nd,λp hp=> ?_,λh=> ?_⟩
 ·have h:=(O.sH ((O.al p).2 hp)).wA M.C.A
  rw[O.c]at h;exact h
 have h:=O.on h;rw[O.c]at h;exact h
structure Jb (M N:Mo)(own:FK):Prop where
 it:N.it=M.it
 aQ:N.v.aQ=M.v.aQ
 c:N.v.c=M.v.c
 p:N.v.p=M.v.p
 tn:N.tn=M.tn
 k:N.k=M.k
 w:N.jZ=M.jZ
 st:N.m.st=M.m.st
 ex:N.ord=M.ord
 sz:N.C.ae=M.C.ae
 own:∀p,own=some p->M.has p->N.has p/\N.C.hd p=M.C.hd p/\N.C.cl p=M.C.cl p
 has:∀q,N.has q->M.has q
theorem Jb.refl (M:Mo)(own:FK):Jb M M own:=⟨rfl,rfl,rfl,rfl,rfl,rfl,rfl,rfl,rfl,rfl,λ_ _ h=>⟨h,rfl,rfl⟩,λ_ h=>h⟩
theorem Jb.trans{M N O:Mo}{own:FK}(a:Jb M N own)(b:Jb N O own):Jb M O own:=
 ⟨b.it.trans a.it,b.aQ.trans a.aQ,b.c.trans a.c,b.p.trans a.p,b.tn.trans a.tn,b.k.trans a.k,b.w.trans a.w,b.st.trans a.st,b.ex.trans a.ex,b.sz.trans a.sz,λp e h=>by
  obtain⟨h1,h2,h3⟩:=a.own p e h;obtain⟨h4,h5,h6⟩:=b.own p e h1;exact⟨h4,h5.trans h2,h6.trans h3⟩,λq h=>a.has q (b.has q h)⟩
theorem JN{Q:F7}{p q:Nat}(nd:∀i,(ql Q i).Nodup):(∃i,q∈ql (iH Q p) i)↔(∃i,q∈ql Q i)/\q≠p:=by
 constructor
 ·rintro⟨i,h⟩
  rw[js]at h;exact⟨⟨i,List.mem_of_mem_erase h⟩,λe=>by subst e;exact(List.Nodup.not_mem_erase (nd i)) h⟩
 rintro⟨⟨i,h⟩,ne⟩;exact⟨i,by rw[js];exact(List.mem_erase_of_ne ne).2 h⟩
theorem q9.bw{M:Mo}(K:q9 M){p:Nat}(hp:M.has p):q9 (M.bw p)/\∀own,own≠some p->Jb M (M.bw p) own:=by
 have L:=K.lv p hp;obtain⟨K2,S⟩:=gR K.k L;have sm:=jz K.k L;have hh:=λq=>JN (Q:=M.Q) (p:=p) (q:=q) K.nd;refine⟨⟨K2,λi=> ?_,λq hq=> ?_,λh=> ?_⟩,λown ne=>⟨rfl,rfl,rfl,rfl,rfl,rfl,rfl,rfl,rfl,S.ae,λq e hq=> ?_,λq hq=>((hh q).1 hq).1⟩⟩
 ·show(ql (iH M.Q p) i).Nodup
  rw[js];exact(K.nd i).erase p
 ·obtain⟨h1,h2⟩:=(hh q).1 hq
  exact(sm.lv q h2 (K.lv q h1)).1
 ·obtain⟨a,b,c,d⟩:=K.on h
  obtain⟨e1,e2,e3⟩:=oy K.k L M.m.pg;refine⟨a,e1.trans b,e2.trans c,e3.trans d⟩
 have h2:q≠p:=λg=>ne (by rw[e,g]);obtain⟨g1,g2,g3⟩:=sm.lv q h2 (K.lv q hq);exact⟨(hh q).2 ⟨hq,h2⟩,g2,g3⟩
theorem q9.take{M N:Mo}(K:q9 M){c r:Nat}(hc:c<M.fG)(h:M.take c=some (r,N))(own:FK):q9 N/\Jb M N own/\N.hole=some r/\N.C.cl r=c/\Live N.C r/\¬M.has r/\N={M with C:=N.C,hole:=some r}:=by
 unfold Mo.take at h;cases ht:M.C.ca c with
 |none=>rw[ht]at h;cases h
 |some x=>
  obtain⟨p,D⟩:=x;rw[ht]at h;simp only[Option.some.injEq,Prod.mk.injEq]at h;obtain⟨rfl,rfl⟩:=h;have X:=nz K.k hc ht;refine⟨⟨X.k,K.nd,λq hq=>(X.lv q).2 (.inl (K.lv q hq)),λg=> ?_⟩,⟨rfl,rfl,rfl,rfl,rfl,rfl,rfl,rfl,rfl,X.sz,λq _ hq=>⟨hq,(X.hd q (K.lv q hq)).1,(X.hd q (K.lv q hq)).2⟩,λ_ h=>h⟩,rfl,X.cl,(X.lv p).2 (.inr rfl),λg=>X.no (K.lv p g),rfl⟩;obtain⟨a,b,c,d⟩:=K.on g;obtain⟨e1,e2⟩:=X.pg _ b;refine⟨?_,e1,(X.lf _).trans c,e2.trans d⟩;show _<D.n;rw[X.n];exact a
theorem q9.mstop{M:Mo}(K:q9 M)(eo:M.m.on=true)(own:FK):q9 M.mstop/\Jb M M.mstop own:=by
 obtain⟨a,b,c,d⟩:=K.on eo;obtain⟨K2,S⟩:=yq K.k a b c;have iF:=CG K.k a;have sm:=tA S λj=>by
  rw[iF];by_cases e:j=M.m.pg
  ·exact⟨false,by rw[if_pos e,e]⟩
  exact⟨(M.C.pg j).lv,by rw[if_neg e]⟩
 exact⟨⟨K2,K.nd,λq hq=>(sm q).1.2 (K.lv q hq),λe=>by cases e⟩,⟨rfl,rfl,rfl,rfl,rfl,rfl,rfl,rfl,rfl,S.ae,λq _ hq=>⟨hq,(sm q).2⟩,λ_ h=>h⟩⟩
theorem q9.mt{M:Mo}(K:q9 M)(t:Mt)(own:FK):q9 (M.aN t)/\Jb M (M.aN t) own:=⟨⟨K.k,K.nd,K.lv,K.on⟩,⟨rfl,rfl,rfl,rfl,rfl,rfl,rfl,rfl,rfl,rfl,λ_ _ h=>⟨h,rfl,rfl⟩,λ_ h=>h⟩⟩
theorem q9.jr{M:Mo}(K:q9 M)(c:Nat)(own:FK):q9 (M.cF c)/\Jb M (M.cF c) own:=⟨⟨K.k,K.nd,K.lv,K.on⟩,⟨rfl,rfl,rfl,rfl,rfl,rfl,rfl,rfl,rfl,rfl,λ_ _ h=>⟨h,rfl,rfl⟩,λ_ h=>h⟩⟩
structure se (M N:Mo)(n:Nat)(own o:FK):Prop where
 k:q9 N
 s:Jb M N own
 no:o=none->N.hole=M.hole
 ok:∀r,o=some r->N.hole=some r/\n<=N.C.sz (N.C.cl r)/\Live N.C r/\¬N.has r
theorem Y2{M N:Mo}(K:q9 M){n c p:Nat}(hc:c<M.fG)(hz:n<=M.C.sz c){own o:FK}(hp:M.has p)(ne:own≠some p)(h:M.last c p=(o,N)):se M N n own o:=by
 obtain⟨K1,S1⟩:=K.bw hp;have S1:=S1 own ne;have qx:c<(M.bw p).fG:=by show c<(M.bw p).C.ae.length;rw[S1.sz];exact hc
 unfold Mo.last at h;cases ht:(M.bw p).take c with
 |none=>
  rw[ht]at h;simp only[Prod.mk.injEq]at h;obtain⟨rfl,rfl⟩:=h;exact⟨K1,S1,λ_=>rfl,λr e=>by cases e⟩
 |some x=>
  obtain⟨r,D⟩:=x;rw[ht]at h;simp only[Prod.mk.injEq]at h;obtain⟨rfl,rfl⟩:=h;obtain⟨K2,S2,h1,h2,h3,h4,h5⟩:=K1.take qx ht own;refine⟨K2,S1.trans S2,(λe=>by cases e),λr' e=> ?_⟩;cases e;refine⟨h1, ?_,h3,λg=>h4 (S2.has _ g)⟩;rw[h2];unfold Cs.sz;rw[(S1.trans S2).sz];exact hz
theorem Yl{M:Mo}{c p:Nat}{own:FK}(h:(M.pick c own).1=some p):M.has p/\own≠some p:=by
 obtain⟨h1,h2⟩:=qj h;exact⟨oh h1,λe=>h2 e.symm⟩
theorem Fs{M N:Mo}(K:q9 M){n c:Nat}(hc:c<M.fG)(hz:n<=M.C.sz c){own o:FK}(h:M.iy c own=(o,N)):se M N n own o:=by
 unfold Mo.iy at h;obtain⟨K1,S1⟩:=K.mt {M.v.mt with lo:=cM (M.v.mt.lo+((M.pick c own).2.2:Int))} own;have ak:=λp=>Yl (M:=M) (c:=c) (p:=p) (own:=own);obtain⟨M1,hM1⟩:∃M1,M1=M.aN {M.v.mt with lo:=cM (M.v.mt.lo+((M.pick c own).2.2:Int))}:=⟨_,rfl⟩;have hq:M1.Q=M.Q:=by rw[hM1];rfl
 have hC:M1.C=M.C:=by rw[hM1];rfl
 have hh:M1.hole=M.hole:=by rw[hM1];rfl
 rw[<-hM1]at h K1 S1;have Bt:c<M1.fG:=by unfold Mo.fG;rw[hC];exact hc
 have OV:n<=M1.C.sz c:=by rw[hC];exact hz
 have go:∀{M2 N:Mo} {p:Nat} {o:FK},q9 M2->Jb M M2 own->M2.Q=M.Q->M2.C=M.C->M2.hole=M.hole->M.has p->own≠some p->M2.last c p=(o,N)->se M N n own o:=λK2 S2 hQ2 hC2 hh2 hp ne e=>by
  have R:=Y2 K2 (n:=n) (by unfold Mo.fG;rw[hC2];exact hc) (by rw[hC2];exact hz) (own:=own) (by unfold Mo.has;rw[hQ2];exact hp) ne e;exact⟨R.k,S2.trans R.s,λg=>(R.no g).trans hh2,R.ok⟩
 rcases hp:(M.pick c own).1 with _|p<;>rcases hd:(M.pick c own).2.1 with _|_<;>rw[hp,hd]at h<;>unfold Mo.Aw at h
 ·simp only[Prod.mk.injEq]at h
  obtain⟨rfl,rfl⟩:=h;obtain⟨K2,S2⟩:=K1.jr c own;exact⟨K2,S1.trans S2,λ_=>hh,λr e=>by cases e⟩
 ·simp only[Prod.mk.injEq]at h
  obtain⟨rfl,rfl⟩:=h;exact⟨K1,S1,λ_=>hh,λr e=>by cases e⟩
 ·obtain⟨K2,S2⟩:=K1.jr c own
  obtain⟨K3,S3⟩:=K2.mt {(M1.cF c).v.mt with dr:=cM ((M1.cF c).v.mt.dr+1)} own;exact go K3 ((S1.trans S2).trans S3) hq hC hh (ak p hp).1 (ak p hp).2 h
 obtain⟨K3,S3⟩:=K1.mt {M1.v.mt with re:=cM (M1.v.mt.re+1)} own;exact go K3 (S1.trans S3) hq hC hh (ak p hp).1 (ak p hp).2 h
theorem JC{M N:Mo}(K:q9 M){n c r:Nat}(hc:c<M.fG)(hz:n<=M.C.sz c){own:FK}(h:M.take c=some (r,N)):se M N n own (some r):=by
 obtain⟨K2,S2,h1,h2,h3,h4,h5⟩:=K.take hc h own;refine⟨K2,S2,(λe=>by cases e),λr' e=> ?_⟩;cases e;refine⟨h1, ?_,h3,λg=>h4 (S2.has _ g)⟩;rw[h2];unfold Cs.sz;rw[S2.sz];exact hz
theorem wX{M N:Mo}(K:q9 M){n:Nat}{own o:FK}(h:M.room n own=(o,N)):se M N n own o:=by
 unfold Mo.room at h;cases hf:M.C.ae.findIdx? (λz=>decide (n<=z))with
 |none=>
  rw[hf]at h;simp only[Prod.mk.injEq]at h;obtain⟨rfl,rfl⟩:=h;exact⟨K, .refl _ _,λ_=>rfl,λr e=>by cases e⟩
 |some c=>
  rw[hf]at h;dsimp only at h;obtain⟨hc,hz,_⟩:=List.findIdx?_eq_some_iff_getElem.1 hf;have OU:n<=M.C.sz c:=by
   unfold Cs.sz;rw[aab,aac hc];simpa using hz
  unfold Mo.lG at h;cases ht:M.take c with
  |some x=>
   obtain⟨r,D⟩:=x;rw[ht]at h;simp only[Prod.mk.injEq]at h;obtain⟨rfl,rfl⟩:=h;exact JC K hc OU ht
  |none=>
   rw[ht]at h;dsimp only at h;split at h
   ·next g=>
    obtain⟨K1,S1⟩:=K.mstop g.1 own;have Bt:c<M.mstop.fG:=by show c<M.mstop.C.ae.length;rw[S1.sz];exact hc
    have OV:n<=M.mstop.C.sz c:=by unfold Cs.sz;rw[S1.sz];exact OU
    have fin:∀o,se M.mstop N n own o->se M N n own o:=λo R=>⟨R.k,S1.trans R.s,R.no,R.ok⟩;cases oV:M.mstop.take c with
    |some x=>
     obtain⟨r,D⟩:=x;rw[oV]at h;simp only[Prod.mk.injEq]at h;obtain⟨rfl,rfl⟩:=h;exact fin _ (JC K1 Bt OV oV)
    |none=>
     rw[oV]at h;exact fin _ (Fs K1 Bt OV h)
   exact Fs K hc OU h
theorem Ru (M:Mo)(c p:Nat)(a:FL)(w:Nat):(M.aK a w).last c p=((M.last c p).1,(M.last c p).2.aK a w):=by
 unfold Mo.last;rw[show(M.aK a w).bw p=(M.bw p).aK a w from rfl,BP];cases (M.bw p).take c<;>rfl
theorem KE (M:Mo)(c:Nat)(own:FK)(a:FL)(w:Nat):(M.aK a w).iy c own=((M.iy c own).1,(M.iy c own).2.aK a w):=by
 unfold Mo.iy;rw[show(M.aK a w).pick c own=M.pick c own from rfl];rcases(M.pick c own).1 with _|p<;>rcases(M.pick c own).2.1 with _|_<;>unfold Mo.Aw
 ·rfl
 ·rfl
 ·exact Ru (((M.aN {M.v.mt with lo:=cM (M.v.mt.lo+((M.pick c own).2.2:Int))}).cF c).aN _) c p a w
 exact Ru ((M.aN {M.v.mt with lo:=cM (M.v.mt.lo+((M.pick c own).2.2:Int))}).aN _) c p a w
theorem adB (M:Mo)(n:Nat)(own:FK)(a:FL)(w:Nat):(M.aK a w).room n own=((M.room n own).1,(M.room n own).2.aK a w):=by
 unfold Mo.room;rw[show(M.aK a w).C=M.C from rfl];cases M.C.ae.findIdx? (λz=>decide (n<=z))with
 |none=>rfl
 |some c=>
  dsimp only;unfold Mo.lG;rw[BP];cases M.take c with
  |some x=>rfl
  |none=>
   dsimp only[Option.map];rw[show(M.aK a w).m=M.m from rfl];split
   ·rw[show(M.aK a w).mstop=M.mstop.aK a w from rfl,BP]
    cases M.mstop.take c with
    |some x=>rfl
    |none=>exact KE _ _ _ _ _
   exact KE _ _ _ _ _
theorem vX (z:Ly)(M:Mo)(hh:M.hole=none)(fA:M.m.st<4611686018427387904)(kn vn:Nat)(hk:1<=kn/\kn<=250)(hv:vn<=1048576)(own:FK)(jb:∀p,own=some p->M.has p):
  aG aaa 128 [Dk z.s,Dm Dl kn,Dm Dl vn,Dm Dj (qZ M.C own)] uT [SW z M]
   (λw H=>w=Dm Dj (qZ (M.room (58+kn+vn) own).2.C (M.room (58+kn+vn) own).1)/\H= [SW z (M.room (58+kn+vn) own).2]):=
 wU λa c=>(Mn z (M.aK a c) hh fA kn vn hk hv own jb).out (by
  rintro v H' ⟨o,N,hr,rfl,rfl⟩;rw[adB]at hr;simp only[Prod.mk.injEq]at hr;obtain⟨rfl,rfl⟩:=hr;exact⟨_,⟨rfl,rfl⟩,λk s=>gN a c k s⟩)
theorem Ez (z:Ly)(M:Mo)(r:Nat)(hr:M.hole=some r)(old:FK)(k v:FI)(Wf V8:Nat)(uz:Wf=k.length)(hvl:V8=v.length)(hold:∀p,old=some p->M.has p/\(M.it p).key=k)(aca:old=none->M.find k=none)(ka va:FL)(kc vc fl ex mk:Nat)(Wn:du k=true)
  (sQ:58+k.length+v.length<=M.C.sz (M.C.cl r)) (mP:fl<4294967296) (hex:ex<9223372036854775808) (uy:mk<16) (rR:M.v.aQ+1<18446744073709551616) (vD:M.tn<18446744073709551615):
  aG aaa 129 [Dk z.s,Dm Dj (M.C.hd r),Dm Dj (qZ M.C old), .agg (DL (.slice ka Wf kc) (.slice va V8 vc) fl ex 0 0 0 mk).toArray] (λh=>gF h ka (aj k)/\gF h va (aj v)) [SW z M]
   (λw H=>w= .tuple #[]/\H= [SW z (M.dE r old ⟨k,v,fl,ex,M.k.now,M.v.aQ+1,mk⟩)]):=
 wU λa c=>(XX z (M.aK a c) r hr old k v Wf V8 uz hvl hold aca ka va kc vc fl ex mk Wn sQ mP hex uy rR vD).out (by
  rintro w H' ⟨rfl,rfl⟩;refine⟨_,⟨rfl,rfl⟩,λk' s=>gN a c k' ?_⟩;rw[show(M.aK a c).dE r old ⟨k,v,fl,ex,(M.aK a c).k.now,(M.aK a c).v.aQ+1,mk⟩=(M.dE r old ⟨k,v,fl,ex,M.k.now,M.v.aQ+1,mk⟩).aK a c by cases old<;>rfl]at s;exact s)
def dY:FI:= [111,98,106,101,99,116,32,116,111,111,32,108,97,114,103,101,32,102,111,114,32,99,97,99,104,101]
def jt:FI:= [111,117,116,32,111,102,32,109,101,109,111,114,121,32,115,116,111,114,105,110,103,32,111,98,106,101,99,116]
def Gp (aC:Int):Bool:=decide (aC≠8/\aC≠9)
def Mo.sN (M:Mo)(c:fi)(k:FI)(old:FK):Option (FI×Nat×Nat):=
 if Gp c.aC=true then some (c.data,c.fl,dq M.k.now c.ex)else match old with
 |none=>none
 |some p=>if M.v.c.lim<58+k.length+c.data.length+(M.it p).val.length then none else some (if c.aC=8 then(M.it p).val++c.data else c.data++(M.it p).val,(M.it p).fl,(M.it p).exp)
def Mo.lays (M:Mo)(k:FI)(old:FK)(ov:Bool)(x:FI×Nat×Nat):hG×Mo:=match M.room (58+k.length+x.1.length) old with
 |(none,R)=>(.t jt,R.over old ov)
 |(some r,R)=>(.k 1,R.dE r old ⟨k,x.1,x.2.1,x.2.2,R.k.now,R.v.aQ+1,0⟩)
def Mo.jc (M:Mo)(c:fi)(k:FI)(old:FK):hG×Mo:=
 if c.lg=true\/M.v.c.lim<58+k.length+c.data.length then(.t dY,M.over old (Gp c.aC))
 else if cg c.aC c.tok old (λp=>(M.it p).tok)≠0 then(.k (cg c.aC c.tok old (λp=>(M.it p).tok)),M)
 else match M.sN c k old with
  |none=>(.t dY,M)
  |some x=>M.lays k old (Gp c.aC) x
def Mo.dx (M:Mo)(c:fi)(k:FI):hG×Mo:=(M.meet k).2.jc c k (M.meet k).1
theorem bH.kdM{B:Bx}{M:Mo}(O:bH B M){p q:Nat}(hp:M.has p)(hq:M.has q)(e:(M.it p).key=(M.it q).key):p=q:=by
 have h1:=(O.al p).2 hp;have h2:=(O.al q).2 hq;refine O.t.kd p h1 q h2 ?_;rw[(O.kK h1).2.2.2.2.1,(O.kK h2).2.2.2.2.1];exact e
theorem Ky{M:Mo}{k:FI}(h:∀p,M.has p->(M.it p).key≠k):M.find k=none:=by
 unfold Mo.find;rw[agE];intro p hp e;exact h p (eR.1 hp) (by simpa using e)
theorem YE{M:Mo}{k:FI}(h:M.find k=none){p:Nat}(hp:M.has p):(M.it p).key≠k:=λe=>by
 unfold Mo.find at h;rw[agE]at h;exact h p (eR.2 hp) (decide_eq_true e)
theorem aiL{M N:Mo}(nd:∀i,(ql M.Q i).Nodup)(kd:∀p q,M.has p->M.has q->(M.it p).key=(M.it q).key->p=q){k:FI}{old:FK}(h:M.meet k=(old,N)):qZ M.C old=qZ N.C old/\(∀p,old=some p->N.has p/\(N.it p).key=k)/\(old=none->N.find k=none):=by
 cases old with
 |some p=>
  obtain⟨h1,h2,h3⟩:=ns h;subst h3;exact⟨rfl,λq e=>by cases e;exact⟨h1,h2⟩,λe=>by cases e⟩
 |none=>
  refine⟨rfl,λq e=>(by cases e),λ_=> ?_⟩;unfold Mo.meet at h;cases hf:M.find k with
  |none=>
   rw[hf]at h;simp only[Prod.mk.injEq,true_and]at h;subst h;exact hf
  |some p=>
   rw[hf]at h;dsimp only at h;obtain⟨hp,hk⟩:=nw hf;split at h
   ·simp only[Prod.mk.injEq,true_and]at h
    subst h;refine Ky λq hq e=> ?_;obtain⟨h1,h2⟩:=(JN nd).1 hq;exact h2 (kd _ _ h1 hp (e.trans hk.symm))
   simp at h
theorem bH.ahj{B:Bx}{M:Mo}(O:bH B M){p:Nat}(hp:M.has p):(M.it p).val.length<=1048576/\(M.it p).fl<4294967296/\(M.it p).exp<9223372036854775808/\(M.it p).key.length<=250:=by
 have h1:=(O.al p).2 hp;obtain⟨f1,f2,f3,f4,f5,f6,f7⟩:=O.kK h1;have I:=O.t.it p h1;have h2:=((O.mL h1).ba O.k).2.2.1;have h3:=O.k.toFix.p1;have h4:=I.fits;have h5:(M.it p).val.length=vl B.C.A p:=by rw[<-f6];exact cE _ _ _
 have h6:PV B.C.A p<256^4:=kh _ _ _;have h7:uD B.C.A p<9223372036854775808:=I.exp;have h8:=(gn (O.lg p h1)).2;refine⟨by omega,by rw[<-f7];exact h6,by rw[<-f1];exact h7,h8⟩
theorem inSW{z:Ly}{M:Mo}{h:Hp}(i:In (SW z M) h):In (kI z.y.ck M.k) h:=by
 obtain⟨k,⟨w,B,O,s⟩,l⟩:=i;have:=(cj (H:=dS z B (M.aK w.1 w.2)) s l).nth 9 rfl;exact this
theorem kP (z:Ly)(M:Mo):aG aaa 38 [Dk z.y.ck] (In (SW z M)) [] (λv H=>v=Dm Dl M.k.now/\H= []):=
 λF w hp s=>kB z.y.ck M.k F w (inSW hp) s
theorem Mc (z:Ly)(M:Mo)(c:fi)(ka:FL)(kc:Nat)(da:FL)(dc:Nat)(mv:Value)(mS:mv.oneCell'=true)(k:FI)(r:List FI)(uA:c.keys=k::r)(hk:du k=true)(hw:M.jZ.length<1073741824)(hex:c.ex<9223372036854775808)(mP:c.fl<4294967296)(hda:c.data.length<281474976710656)
  (hh:M.hole=none) (fA:M.m.st<4611686018427387904) (wI:M.v.c.lim<=1048576) (rR:M.v.aQ+1<18446744073709551616) (vD:M.tn<18446744073709551615):
  W5 aaa 87 [Dk z.s, .agg (fI c ka kc da dc mv).toArray] (λh=>gF h ka (mV c.keys)/\gF h da (aj c.data)) [SW z M]
   (λv H=>∃a N,M.dx c k=(a,N)/\v=uI a/\H= [SW z N]) (λv H=>∃a N,M.dx c k=(a,N)/\v=rE (uI a)/\H= [SW z N]):=by
 obtain⟨Wo,Jl⟩:=gn hk;refine lX func87 rfl ntmps87 rfl ?_;rintro F ⟨hr,hd⟩;have xA:(mV c.keys)[0]?=some (a8 k):=by rw[uA];rfl
 have hsm:ka.isSome=true:=by obtain⟨ad,e,_⟩:=hr 0 _ xA;rw[e];rfl
 have Gw:0<c.keys.length:=by rw[uA];exact akY _
 refine aw ?_;refine Lp (oB λb1=> ?_);refine Lp (oA o0 λb2=> ?_);refine aw ?_;refine Hh (H':= [SW z M,ag b1 42 (fI c ka kc da dc mv),ag b2 52 [Dm Dl 0,br,Dm Dj 0,a8 [],br]]) ?_;refine pQ λwa wc B O=> ?_;refine bq ?_;refine Li (Ix (j:=0) Al) ?_;refine bs ?_;refine zl Aa (yx z M k (by omega) hw) (.cons .here .nil) Di ?_;rcases hm:M.meet k with⟨old,N⟩
 have Wk:M.dx c k=N.jc c k old:=by unfold Mo.dx;rw[hm]
 obtain⟨e1,e2,e3⟩:=aiL (M:=M) O.o.nd (λp q=>O.kdM) hm;change qZ M.C old=qZ N.C old at e1;change∀p,old=some p->N.has p/\(N.it p).key=k at e2;change old=none->N.find k=none at e3;have hNv:N.v.c=M.v.c/\N.v.aQ=M.v.aQ/\N.tn=M.tn/\N.hole=M.hole/\N.m.st=M.m.st:=by
  unfold Mo.meet at hm;rcases hf:M.find k with _|p<;>rw[hf]at hm
  ·simp only[Prod.mk.injEq]at hm;obtain⟨_,rfl⟩:=hm;exact⟨rfl,rfl,rfl,rfl,rfl⟩
  dsimp only at hm;split at hm<;>(simp only[Prod.mk.injEq]at hm;obtain⟨_,rfl⟩:=hm;exact⟨rfl,rfl,rfl,rfl,rfl⟩)
 obtain⟨n1,n2,n3,n4,n5⟩:=hNv;dsimp only;rw[e1];have hold:∀p,old=some p->N.has p:=λp e=>(e2 p e).1;refine pQ λwa2 wc2 B2 O2=> ?_;refine bd ?_;refine av ?_;refine eK (ι:=Bool) (FN [7,1,20,8]) (λov=>ov=Gp c.aC) (λov=> [(7, .bool ov)]) (λov=> [SW z N,ag b1 42 (fI c ka kc da dc mv),ag b2 52 [Dm Dl 0,br,Dm Dj 0,a8 [],br]]) ?_ ?_
 ·refine iN ?_
  refine bc ?_;refine bJ (t:=23) rfl ?_ ?_
  ·intro fm
   replace fm:=aO fm;refine bn ?_;refine aD ?_;refine Me (Gp c.aC) (rfl) (hs:=⟨(by refine congrArg (λq=>some (Value.bool q)) ?_;unfold Gp;rw[akI];simp only[akv,decide_eq_false_iff_not,decide_eq_true_eq,aj1,true_iff,false_iff,iff_true,iff_false];try omega),trivial⟩)
  intro fm;replace fm:=aO fm;refine bn ?_;refine aD ?_;refine Me (Gp c.aC) (rfl) (hs:=⟨(by refine congrArg (λq=>some (Value.bool q)) ?_;unfold Gp;rw[akI];simp only[akv,decide_eq_false_iff_not,decide_eq_true_eq,aj1,true_iff,false_iff,iff_true,iff_false];try omega),trivial⟩)
 rintro ov hI;subst hI;generalize hov:Gp c.aC=ov at*;have zB:N.jc c k old=if c.lg=true\/N.v.c.lim<58+k.length+c.data.length then(.t dY,N.over old ov)else if cg c.aC c.tok old (λp=>(N.it p).tok)≠0 then(.k (cg c.aC c.tok old (λp=>(N.it p).tok)),N)else match N.sN c k old with|none=>(.t dY,N)|some x=>N.lays k old ov x:=by unfold Mo.jc;rw[hov]
 have hs4:(c.lg=true\/N.v.c.lim<58+k.length+c.data.length)->M.dx c k=(.t dY,N.over old ov):=λh=>by rw[Wk,zB,if_pos h]
 refine bd ?_;refine Li (Ls wu) ?_;refine bK ?_;refine av ?_;refine eK (ι:=Unit) (FN [35,15]) (λu=>¬(c.lg=true\/N.v.c.lim<58+k.length+c.data.length)) (λu=> []) (λu=> [SW z N,ag b1 42 (fI c ka kc da dc mv),ag b2 52 [Dm Dl 0,br,Dm Dj 0,a8 [],br]]) ?_ ?_
 ·refine gK ?_
  refine bq ?_;refine bJ (t:=37) rfl ?_ ?_
  ·intro fm
   replace fm:=aO fm;refine fX ?_;refine Lp (PJ Aa rfl rfl (mI z N old hold ov dY) (.cons .here .nil) Di (by rintro v H' ⟨rfl,rfl⟩;exact pP [SW z (N.over old ov)] ⟨.t dY,_,hs4 (by first|exact .inl (by assumption)|exact .inr (by omega)),rfl,rfl⟩) ?_);rintro v H' hF;exact hF.elim
  intro fm;replace fm:=aO fm;refine cA ?_;refine az rfl ?_ ?_
  ·intro fh
   replace fh:=aO fh;refine bc ?_;refine Lp (PJ Aa rfl rfl (mI z N old hold ov dY) (.cons .here .nil) Di (by rintro v H' ⟨rfl,rfl⟩;exact pP [SW z (N.over old ov)] ⟨.t dY,_,hs4 (by first|exact .inl (by assumption)|exact .inr (by omega)),rfl,rfl⟩) ?_);rintro v H' hF;exact hF.elim
  intro fh;replace fh:=aO fh;refine aw ?_;refine Me (()) ((by rintro(h|h)<;>first|omega|(simp_all;done)))
 rintro u hI;rw[if_neg hI]at zB;have hle:(58+k.length+c.data.length:Int)<=N.v.c.lim:=by omega
 have hd20:58+k.length+c.data.length<=1048576:=by rw[n1]at hle;omega
 refine bc ?_;refine Lp (PJ Aa rfl rfl (ZM z N c ka kc da dc mv mS old hold) (.cons .here .nil) Di (by rintro v H' ⟨n,hn,hn0,rfl,rfl⟩;exact pP [SW z N] ⟨.k n,N,by rw[Wk,zB,if_pos (by rw[hn];exact hn0),hn],rfl,rfl⟩) ?_);rintro v H' ⟨hn,rfl,rfl⟩;refine bR ?_;rw[if_neg (by rw[hn];decide)]at zB;have DG:N.k.now<=1099511627776/\1<=N.k.now:=⟨O2.ck.n2,O2.ck.n1⟩;have Ag:=Bg N.k.now c.ex DG.2 DG.1;rw[Fq]at Ag;refine aw ?_;refine av ?_;refine eK (ι:=Nat×Nat×FL×Nat×Nat) (FN [9,1,54,17]) (λs=>True) (λs=> [(9,Dk s.2.2.2.2)]) (λs=> [SW z N,ag b1 42 (fI c ka kc da dc mv),ag b2 52 [Dm Dl 0,br,Dm Dj 0,a8 [],br],own (some ⟨s.1,0,none⟩) s.2.1 5 1 (aj k),own s.2.2.1 s.2.2.2.1 5 1 (aj c.data),ag s.2.2.2.2 159 (DL (.slice (some ⟨s.1,0,none⟩) k.length s.2.1) (.slice s.2.2.1 c.data.length s.2.2.2.1) c.fl (dq N.k.now c.ex) 0 0 0 0)]) ?_ ?_
 ·refine Aq mix (.cons .here (.cons .here .nil)) λF1 jD bV aI=> ?_
  obtain⟨q1,q2,_⟩:=bV;refine Dt 0 rfl Mv ?_;refine Dt 2 rfl (Fa Fi) ?_
  first
   |refine Dt 3 rfl (Lf D6) ?_
   |refine Dt 3 rfl (Bw D6 q1) ?_
  refine Dt 5 rfl (Fa Fk) ?_
  first
   |refine Dt 6 rfl (Lf rB) ?_
   |refine Dt 6 rfl (Bw rB q1) ?_
  refine Dt 7 rfl Mv ?_;refine Dt 8 rfl Nc ?_;refine Dt 9 rfl (Fa nu) ?_;refine Dt 10 rfl (Fa Fh) ?_
  first
   |refine Dt 11 rfl (Lf sU) ?_
   |refine Dt 11 rfl (Bw sU q1) ?_
  refine Dt 13 rfl (Fa Fj) ?_
  first
   |refine Dt 14 rfl (Lf bj) ?_
   |refine Dt 14 rfl (Bw bj q1) ?_
  refine D3 1 4 17 ?_ ?_ ?_
  ·refine Do rfl (Dr wu me sE λkb mO sI=> ?_)
   refine aw ?_;refine D2 4 17 ?_ ?_
   ·refine eT 5 1 ?_
    refine Do rfl (ia iJ rD rfl rfl rfl rfl .here (rfl) (fN (m:=c.data.length) (by simp) (λh le _=>hd.mono (jD.trans le))) (by first|exact eB|(simp[Value.oneCell',a8])) (by first|omega|(simp;omega)) (by first|omega|(simp;omega)) rfl λva vc hvc=> ?_);refine aw ?_;refine D2 12 17 ?_ ?_
    ·refine Do rfl (oZ (Aa (n:=38)) (kP z N) .nil (λ_ le _=>In.mono q1 le) ?_)
     refine aw ?_;refine D2 15 17 ?_ ?_
     ·refine Do rfl (oZ (Aa (n:=134)) (Ag) .nil Di ?_)
      refine aw ?_;refine Dt 16 rfl (Bd bT fD) ?_;refine Dd 17 rfl (oA bT λb3=> ?_);refine aw ?_;refine Dd 18 rfl (jh dX ?_);refine aw ?_;refine aT (by kernel_rfl) aI ?_;simp only[abH];refine Me ((kb,mO,va,vc,b3)) (trivial)
     refine Do rfl (oA bT λb4=> ?_);refine aw ?_;refine Dd 15 rfl (oZ (Aa (n:=134)) (Ag) .nil Di ?_);refine aw ?_;refine Dt 16 rfl (Bd bT fD) ?_;refine Dd 18 rfl (jh dX ?_);refine aw ?_;refine aT (by kernel_rfl) aI ?_;simp only[abH];refine Me ((kb,mO,va,vc,b4)) (trivial)
    refine Do rfl (oA bT λb5=> ?_);refine aw ?_;refine Dd 12 rfl (oZ (Aa (n:=38)) (kP z N) .nil (λ_ le _=>In.mono q1 le) ?_);refine aw ?_;refine Dd 15 rfl (oZ (Aa (n:=134)) (Ag) .nil Di ?_);refine aw ?_;refine Dt 16 rfl (Bd bT fD) ?_;refine Dd 18 rfl (jh dX ?_);refine aw ?_;refine aT (by kernel_rfl) aI ?_;simp only[abH];refine Me ((kb,mO,va,vc,b5)) (trivial)
   refine Do rfl (oA bT λb6=> ?_);refine aw ?_;refine eT 5 1 ?_;refine Dd 4 rfl (ia iJ rD rfl rfl rfl rfl .here (rfl) (fN (m:=c.data.length) (by simp) (λh le _=>hd.mono (jD.trans le))) (by first|exact eB|(simp[Value.oneCell',a8])) (by first|omega|(simp;omega)) (by first|omega|(simp;omega)) rfl λva vc hvc=> ?_);refine aw ?_;refine Dd 12 rfl (oZ (Aa (n:=38)) (kP z N) .nil (λ_ le _=>In.mono q1 le) ?_);refine aw ?_;refine Dd 15 rfl (oZ (Aa (n:=134)) (Ag) .nil Di ?_);refine aw ?_;refine Dt 16 rfl (Bd bT fD) ?_;refine Dd 18 rfl (jh dX ?_);refine aw ?_;refine aT (by kernel_rfl) aI ?_;simp only[abH];refine Me ((kb,mO,va,vc,b6)) (trivial)
  ·refine eT 5 1 ?_
   refine Do rfl (ia iJ rD rfl rfl rfl rfl .here (rfl) (fN (m:=c.data.length) (by simp) (λh le _=>hd.mono (jD.trans le))) (by first|exact eB|(simp[Value.oneCell',a8])) (by first|omega|(simp;omega)) (by first|omega|(simp;omega)) rfl λva vc hvc=> ?_);refine aw ?_;refine D3 1 12 17 ?_ ?_ ?_
   ·refine Do rfl (Dr wu me sE λkb mO sI=> ?_)
    refine aw ?_;refine D2 12 17 ?_ ?_
    ·refine Do rfl (oZ (Aa (n:=38)) (kP z N) .nil (λ_ le _=>In.mono q1 le) ?_)
     refine aw ?_;refine D2 15 17 ?_ ?_
     ·refine Do rfl (oZ (Aa (n:=134)) (Ag) .nil Di ?_)
      refine aw ?_;refine Dt 16 rfl (Bd bT fD) ?_;refine Dd 17 rfl (oA bT λb7=> ?_);refine aw ?_;refine Dd 18 rfl (jh dX ?_);refine aw ?_;refine aT (by kernel_rfl) aI ?_;simp only[abH];refine Me ((kb,mO,va,vc,b7)) (trivial)
     refine Do rfl (oA bT λb8=> ?_);refine aw ?_;refine Dd 15 rfl (oZ (Aa (n:=134)) (Ag) .nil Di ?_);refine aw ?_;refine Dt 16 rfl (Bd bT fD) ?_;refine Dd 18 rfl (jh dX ?_);refine aw ?_;refine aT (by kernel_rfl) aI ?_;simp only[abH];refine Me ((kb,mO,va,vc,b8)) (trivial)
    refine Do rfl (oA bT λb9=> ?_);refine aw ?_;refine Dd 12 rfl (oZ (Aa (n:=38)) (kP z N) .nil (λ_ le _=>In.mono q1 le) ?_);refine aw ?_;refine Dd 15 rfl (oZ (Aa (n:=134)) (Ag) .nil Di ?_);refine aw ?_;refine Dt 16 rfl (Bd bT fD) ?_;refine Dd 18 rfl (jh dX ?_);refine aw ?_;refine aT (by kernel_rfl) aI ?_;simp only[abH];refine Me ((kb,mO,va,vc,b9)) (trivial)
   ·refine Do rfl (oZ (Aa (n:=38)) (kP z N) .nil (λ_ le _=>In.mono q1 le) ?_)
    refine aw ?_;refine D3 1 15 17 ?_ ?_ ?_
    ·refine Do rfl (Dr wu me sE λkb mO sI=> ?_)
     refine aw ?_;refine D2 15 17 ?_ ?_
     ·refine Do rfl (oZ (Aa (n:=134)) (Ag) .nil Di ?_)
      refine aw ?_;refine Dt 16 rfl (Bd bT fD) ?_;refine Dd 17 rfl (oA bT λWX=> ?_);refine aw ?_;refine Dd 18 rfl (jh dX ?_);refine aw ?_;refine aT (by kernel_rfl) aI ?_;simp only[abH];refine Me ((kb,mO,va,vc,WX)) (trivial)
     refine Do rfl (oA bT λb11=> ?_);refine aw ?_;refine Dd 15 rfl (oZ (Aa (n:=134)) (Ag) .nil Di ?_);refine aw ?_;refine Dt 16 rfl (Bd bT fD) ?_;refine Dd 18 rfl (jh dX ?_);refine aw ?_;refine aT (by kernel_rfl) aI ?_;simp only[abH];refine Me ((kb,mO,va,vc,b11)) (trivial)
    ·refine Do rfl (oZ (Aa (n:=134)) (Ag) .nil Di ?_)
     refine aw ?_;refine D2 1 17 ?_ ?_
     ·refine Do rfl (Dr wu me sE λkb mO sI=> ?_)
      refine aw ?_;refine Dt 16 rfl (Bd bT fD) ?_;refine Dd 17 rfl (oA bT λb12=> ?_);refine aw ?_;refine Dd 18 rfl (jh dX ?_);refine aw ?_;refine aT (by kernel_rfl) aI ?_;simp only[abH];refine Me ((kb,mO,va,vc,b12)) (trivial)
     refine Do rfl (oA bT λb13=> ?_);refine aw ?_;refine Dd 1 rfl (Dr wu me sE λkb mO sI=> ?_);refine aw ?_;refine Dt 16 rfl (Bd bT fD) ?_;refine Dd 18 rfl (jh dX ?_);refine aw ?_;refine aT (by kernel_rfl) aI ?_;simp only[abH];refine Me ((kb,mO,va,vc,b13)) (trivial)
    refine Do rfl (oA bT λWW=> ?_);refine aw ?_;refine D2 1 15 ?_ ?_
    ·refine Do rfl (Dr wu me sE λkb mO sI=> ?_)
     refine aw ?_;refine Dd 15 rfl (oZ (Aa (n:=134)) (Ag) .nil Di ?_);refine aw ?_;refine Dt 16 rfl (Bd bT fD) ?_;refine Dd 18 rfl (jh dX ?_);refine aw ?_;refine aT (by kernel_rfl) aI ?_;simp only[abH];refine Me ((kb,mO,va,vc,WW)) (trivial)
    refine Do rfl (oZ (Aa (n:=134)) (Ag) .nil Di ?_);refine aw ?_;refine Dd 1 rfl (Dr wu me sE λkb mO sI=> ?_);refine aw ?_;refine Dt 16 rfl (Bd bT fD) ?_;refine Dd 18 rfl (jh dX ?_);refine aw ?_;refine aT (by kernel_rfl) aI ?_;simp only[abH];refine Me ((kb,mO,va,vc,WW)) (trivial)
   refine Do rfl (oA bT λb15=> ?_);refine aw ?_;refine D2 1 12 ?_ ?_
   ·refine Do rfl (Dr wu me sE λkb mO sI=> ?_)
    refine aw ?_;refine Dd 12 rfl (oZ (Aa (n:=38)) (kP z N) .nil (λ_ le _=>In.mono q1 le) ?_);refine aw ?_;refine Dd 15 rfl (oZ (Aa (n:=134)) (Ag) .nil Di ?_);refine aw ?_;refine Dt 16 rfl (Bd bT fD) ?_;refine Dd 18 rfl (jh dX ?_);refine aw ?_;refine aT (by kernel_rfl) aI ?_;simp only[abH];refine Me ((kb,mO,va,vc,b15)) (trivial)
   refine Do rfl (oZ (Aa (n:=38)) (kP z N) .nil (λ_ le _=>In.mono q1 le) ?_);refine aw ?_;refine D2 1 15 ?_ ?_
   ·refine Do rfl (Dr wu me sE λkb mO sI=> ?_)
    refine aw ?_;refine Dd 15 rfl (oZ (Aa (n:=134)) (Ag) .nil Di ?_);refine aw ?_;refine Dt 16 rfl (Bd bT fD) ?_;refine Dd 18 rfl (jh dX ?_);refine aw ?_;refine aT (by kernel_rfl) aI ?_;simp only[abH];refine Me ((kb,mO,va,vc,b15)) (trivial)
   refine Do rfl (oZ (Aa (n:=134)) (Ag) .nil Di ?_);refine aw ?_;refine Dd 1 rfl (Dr wu me sE λkb mO sI=> ?_);refine aw ?_;refine Dt 16 rfl (Bd bT fD) ?_;refine Dd 18 rfl (jh dX ?_);refine aw ?_;refine aT (by kernel_rfl) aI ?_;simp only[abH];refine Me ((kb,mO,va,vc,b15)) (trivial)
  refine Do rfl (oA bT λb16=> ?_);refine aw ?_;refine D2 1 4 ?_ ?_
  ·refine Do rfl (Dr wu me sE λkb mO sI=> ?_)
   refine aw ?_;refine eT 5 1 ?_;refine Dd 4 rfl (ia iJ rD rfl rfl rfl rfl .here (rfl) (fN (m:=c.data.length) (by simp) (λh le _=>hd.mono (jD.trans le))) (by first|exact eB|(simp[Value.oneCell',a8])) (by first|omega|(simp;omega)) (by first|omega|(simp;omega)) rfl λva vc hvc=> ?_);refine aw ?_;refine Dd 12 rfl (oZ (Aa (n:=38)) (kP z N) .nil (λ_ le _=>In.mono q1 le) ?_);refine aw ?_;refine Dd 15 rfl (oZ (Aa (n:=134)) (Ag) .nil Di ?_);refine aw ?_;refine Dt 16 rfl (Bd bT fD) ?_;refine Dd 18 rfl (jh dX ?_);refine aw ?_;refine aT (by kernel_rfl) aI ?_;simp only[abH];refine Me ((kb,mO,va,vc,b16)) (trivial)
  refine eT 5 1 ?_;refine Do rfl (ia iJ rD rfl rfl rfl rfl .here (rfl) (fN (m:=c.data.length) (by simp) (λh le _=>hd.mono (jD.trans le))) (by first|exact eB|(simp[Value.oneCell',a8])) (by first|omega|(simp;omega)) (by first|omega|(simp;omega)) rfl λva vc hvc=> ?_);refine aw ?_;refine D2 1 12 ?_ ?_
  ·refine Do rfl (Dr wu me sE λkb mO sI=> ?_)
   refine aw ?_;refine Dd 12 rfl (oZ (Aa (n:=38)) (kP z N) .nil (λ_ le _=>In.mono q1 le) ?_);refine aw ?_;refine Dd 15 rfl (oZ (Aa (n:=134)) (Ag) .nil Di ?_);refine aw ?_;refine Dt 16 rfl (Bd bT fD) ?_;refine Dd 18 rfl (jh dX ?_);refine aw ?_;refine aT (by kernel_rfl) aI ?_;simp only[abH];refine Me ((kb,mO,va,vc,b16)) (trivial)
  refine Do rfl (oZ (Aa (n:=38)) (kP z N) .nil (λ_ le _=>In.mono q1 le) ?_);refine aw ?_;refine D2 1 15 ?_ ?_
  ·refine Do rfl (Dr wu me sE λkb mO sI=> ?_)
   refine aw ?_;refine Dd 15 rfl (oZ (Aa (n:=134)) (Ag) .nil Di ?_);refine aw ?_;refine Dt 16 rfl (Bd bT fD) ?_;refine Dd 18 rfl (jh dX ?_);refine aw ?_;refine aT (by kernel_rfl) aI ?_;simp only[abH];refine Me ((kb,mO,va,vc,b16)) (trivial)
  refine Do rfl (oZ (Aa (n:=134)) (Ag) .nil Di ?_);refine aw ?_;refine Dd 1 rfl (Dr wu me sE λkb mO sI=> ?_);refine aw ?_;refine Dt 16 rfl (Bd bT fD) ?_;refine Dd 18 rfl (jh dX ?_);refine aw ?_;refine aT (by kernel_rfl) aI ?_;simp only[abH];refine Me ((kb,mO,va,vc,b16)) (trivial)
 rintro⟨kb,mO,va,vc,b9⟩ hI;dsimp only;refine av ?_;refine eK (ι:=FI×Nat×Nat×FL×Nat) (FN [10,2,71,46]) (λs=>N.sN c k old=some (s.1,s.2.1,s.2.2.1)/\58+k.length+s.1.length<=1048576/\s.2.1<4294967296/\s.2.2.1<9223372036854775808) (λs=> []) (λs=> [SW z N,ag b1 42 (fI c ka kc da dc mv),ag b2 52 [Dm Dl 0,br,Dm Dj 0,a8 [],br],own (some ⟨kb,0,none⟩) mO 5 1 (aj k),own s.2.2.2.1 s.2.2.2.2 5 1 (aj s.1),ag b9 159 (DL (.slice (some ⟨kb,0,none⟩) k.length mO) (.slice s.2.2.2.1 s.1.length s.2.2.2.2) s.2.1 s.2.2.1 0 0 0 0)]) ?_ ?_
 ·rcases ov with _|_
  ·refine gK ?_
   refine bc ?_;cases old with
   |none=>
    exfalso;have h89:c.aC=8\/c.aC=9:=by unfold Gp at hov;have:=of_decide_eq_false hov;omega
    unfold cg at hn;rw[if_neg (by omega),if_pos (by omega)]at hn;cases hn
   |some p=>
   have hp:=hold p rfl;obtain⟨v1,v2,v3,v4⟩:=O2.ahj (p:=p) hp;change(N.it p).val.length<=_ at v1;change(N.it p).fl<_ at v2;change(N.it p).exp<_ at v3;refine bK ?_;refine Lp (oC Aa rfl rfl (AG z N p hp) (.cons .here .nil) Di ?_);rintro v H' ⟨H0,⟨Wg,ZT,st2,zD,hs2',hs3',rfl,rfl⟩,rfl⟩;refine bR ?_;refine bq ?_;refine Lp (oA bT λb17=> ?_);refine Lp (jh dX ?_ (h1:=by simp[DL,Value.oneCell']));refine bd ?_;refine av ?_;unfold DL;refine iU 8 mix (.cons .here .nil) λF2 zH eL dw=> ?_;obtain⟨q3,_⟩:=eL;refine cV ?_;refine gI dw ?_;refine aw ?_;refine av ?_;simp only[abH];refine Hh (H':= [SW z N,ag b1 42 (fI c ka kc da dc mv),ag b2 52 [Dm Dl 0,br,Dm Dj 0,a8 [],br],own (some ⟨kb,0,none⟩) mO 5 1 (aj k),own va vc 5 1 (aj c.data),ag b9 159 [.slice (some ⟨kb,0,none⟩) k.length mO, .slice va c.data.length vc,Dm Dj ((N.it p).fl),Dm Dl ((N.it p).exp),Dm Dl 0,Dm Dj 0,Dm Dl 0,Dm Dl 0],own (some ⟨ZT,0,none⟩) (N.it p).val.length 5 1 (aj (N.it p).val),ag b17 159 [.slice (some ⟨Wg,0,none⟩) (N.it p).key.length (N.it p).key.length, .slice (some ⟨ZT,0,none⟩) (N.it p).val.length (N.it p).val.length,Dm Dj ((N.it p).fl),Dm Dl ((N.it p).exp),Dm Dl ((N.it p).tch),Dm Dj ((N.it p).tok),Dm Dl st2,Dm Dl ((N.it p).eP)]]) ?_;refine eK (ι:=FL×Nat) (FN [89,15]) (λs=>True) (λs=> []) (λs=> [SW z N,ag b1 42 (fI c ka kc da dc mv),ag b2 52 [Dm Dl 0,br,Dm Dj 0,a8 [],br],own (some ⟨kb,0,none⟩) mO 5 1 (aj k),own s.1 s.2 5 1 (aj (if c.aC=8 then(N.it p).val++c.data else c.data++(N.it p).val)),ag b9 159 [.slice (some ⟨kb,0,none⟩) k.length mO, .slice s.1 (if c.aC=8 then(N.it p).val++c.data else c.data++(N.it p).val).length s.2,Dm Dj ((N.it p).fl),Dm Dl ((N.it p).exp),Dm Dl 0,Dm Dj 0,Dm Dl 0,Dm Dl 0],ag b17 159 [.slice (some ⟨Wg,0,none⟩) (N.it p).key.length (N.it p).key.length, .slice (some ⟨ZT,0,none⟩) (N.it p).val.length (N.it p).val.length,Dm Dj ((N.it p).fl),Dm Dl ((N.it p).exp),Dm Dl ((N.it p).tch),Dm Dj ((N.it p).tok),Dm Dl st2,Dm Dl ((N.it p).eP)]]) ?_ ?_
   ·by_cases h8:c.aC=8
    ·rw[if_pos h8]
     refine bn ?_;refine fe ?_ (e:=by exact decide_eq_true h8);refine bn ?_;refine Lp (ia iJ rD rfl rfl rfl rfl (.t4 (.t2 .here)) (by simp) (fN (m:=c.data.length) (by simp) (λh le ak=>bX (ak.nth 4 rfl))) (by first|exact eB|(simp[Value.oneCell',a8])) (by first|omega|(simp;omega)) (by first|omega|(simp;omega)) rfl λa6 c6 hc6=> ?_);refine bd ?_;refine aD ?_;rw[show aj (N.it p).val++aj c.data=aj ((N.it p).val++c.data) by unfold aj;rw[af1],<-aby];refine Me ((a6,c6)) (trivial)
    rw[if_neg h8];refine bn ?_;refine cN ?_ (e:=by exact decide_eq_false h8);refine bn ?_;refine Lp (ia iJ rD rfl rfl rfl rfl (.t4 .here) (by simp) (fN (m:=(N.it p).val.length) (by simp) (λh le ak=>bX (ak.nth 6 rfl))) (by first|exact eB|(simp[Value.oneCell',a8])) (by first|omega|(simp;omega)) (by first|omega|(simp;omega)) rfl λa6 c6 hc6=> ?_);refine bd ?_;refine aD ?_;rw[show aj c.data++aj (N.it p).val=aj (c.data++(N.it p).val) by unfold aj;rw[af1],<-aby];refine Me ((a6,c6)) (trivial)
   rintro⟨a6,c6⟩ hI;dsimp only;have hvl:(if c.aC=8 then(N.it p).val++c.data else c.data++(N.it p).val).length=c.data.length+(N.it p).val.length:=by
    split<;>rw[aby]<;>omega
   have hnw:N.sN c k (some p)=if N.v.c.lim<58+k.length+c.data.length+(N.it p).val.length then none else some (if c.aC=8 then(N.it p).val++c.data else c.data++(N.it p).val,(N.it p).fl,(N.it p).exp):=by unfold Mo.sN;rw[hov];rfl
   generalize (if c.aC=8 then(N.it p).val++c.data else c.data++(N.it p).val)=nv at*;refine av ?_;refine iU 11 mix (.cons .here (.cons (.t4 (.there .here)) .nil)) λF3 WC sP fJ=> ?_;obtain⟨q4,q5,_⟩:=sP;refine bd ?_
   first
    |refine Ti (Lf D6) ?_
    |refine Ti (Bw D6 q4) ?_
   refine bs ?_
   first
    |refine Ti (Lf bj) ?_
    |refine Ti (Bw bj q4) ?_
   refine aw ?_;refine gI fJ ?_;refine aw ?_;by_cases zU:N.v.c.lim<58+k.length+c.data.length+(N.it p).val.length
   ·rw[if_pos zU]at hnw
    refine fe ?_;refine iN ?_;refine zl Aa (hZ dY) .nil Di ?_;refine Li (Ww T.gP) ?_;refine Lp (Wc ?_);refine pP [SW z N] ?_;exact⟨.t dY,N,by rw[Wk,zB,hnw],rfl,rfl⟩
   rw[if_neg zU]at hnw;refine cN ?_;refine aw ?_;refine Me ((nv,(N.it p).fl,(N.it p).exp,a6,c6)) (⟨hnw,(by dsimp only;rw[n1]at zU;omega),v2,v3⟩)
  refine gK ?_;refine bn ?_;refine Me ((c.data,c.fl,dq N.k.now c.ex,va,vc)) (⟨(by unfold Mo.sN;rw[hov];rfl),hd20,mP,Db _ _ DG.1 hex⟩)
 rintro⟨v,fl,ex,va2,vc2⟩ hI
 try dsimp only at hI⊢
 obtain⟨hnv,wO,hfl2,hex2⟩:=hI;rw[hnv]at zB;have hR:=wX (M:=N) (n:=58+k.length+v.length) (own:=old) (o:=(N.room (58+k.length+v.length) old).1) (N:=(N.room (58+k.length+v.length) old).2) ⟨O2.mc0,O2.We.nd,O2.We.lv,O2.We.on⟩ rfl;have hly:N.lays k old ov (v,fl,ex)=match N.room (58+k.length+v.length) old with|(none,R)=>(.t jt,R.over old ov)|(some r,R)=>(.k 1,R.dE r old ⟨k,v,fl,ex,R.k.now,R.v.aQ+1,0⟩):=rfl
 have zM:=vX z N (n4.trans hh) (by rw[n5];exact fA) k.length v.length ⟨Wo,Jl⟩ (by omega) old hold;unfold DL;refine bq ?_;refine Li (Ls wu) ?_;refine bc ?_;refine zl Aa (zM) (.cons .here .nil) Di ?_;rcases hrm:N.room (58+k.length+v.length) old with⟨o,R⟩
 rw[hrm]at hR hly;dsimp only at hR hly⊢;have hoR:qZ N.C old=qZ R.C old:=by
  rcases old with _|p
  ·rfl
  exact(hR.s.own p rfl (hold p rfl)).2.1.symm
 have aaL:∀p,old=some p->R.has p:=λp e=>(hR.s.own p e (hold p e)).1;rw[hoR];rcases o with _|r0
 ·dsimp only at hly
  refine dL ?_;refine Lp (PJ Aa rfl rfl (mI z R old aaL ov jt) (.cons .here .nil) Di (by rintro v H' ⟨rfl,rfl⟩;exact pP [SW z (R.over old ov)] ⟨.t jt,_,by rw[Wk,zB];exact hly,rfl,rfl⟩) ?_);rintro v H' hF;exact hF.elim
 obtain⟨g1,g2,g3,g4⟩:=hR.ok r0 rfl;have hdn:=bM hR.k.k g3.toAt;obtain⟨_,_,_,_,Gy,Gx⟩:=hdn;refine bK ?_;refine cN ?_ (e:=by exact decide_eq_false (by show¬(((R.C.hd r0:Nat):Int)=0);omega));refine bK ?_;refine zl Aa (Ez z R r0 g1 old k v _ _ rfl rfl (λp e=>⟨aaL p e,by rw[hR.s.it];exact(e2 p e).2⟩) (λe=>Ky λq hq ek=>YE (e3 e) (hR.s.has q hq) (by rw[<-hR.s.it];exact ek)) (some ⟨kb,0,none⟩) va2 mO vc2 fl ex 0 hk g2 hfl2 hex2 (by decide) (by rw[hR.s.aQ,n2];exact rR) (by rw[hR.s.tn,n3];exact vD)) (.cons .here .nil) (λ_ le ak=>⟨bX (ak.nth 2 rfl),bX (ak.nth 3 rfl)⟩) ?_;refine bq ?_;refine Lp (jh ez ?_ (h1:=by simp[cL,Value.cells,Value.oneCell',a8,br]));refine bd ?_;refine pR ?_;refine Jc [SW z (R.dE r0 old ⟨k,v,fl,ex,R.k.now,R.v.aQ+1,0⟩)] ez results87 ?_;exact⟨.k 1,_,by rw[Wk,zB];exact hly,rfl,rfl⟩
theorem UK (A:By)(p:Nat)(v:FI)(q n:Nat)(h:q+n<=p+48\/p+52<=q/\q+n<=p+56+kl A p):jS (eZ A p v) q n=jS A q n:=by
 unfold eZ;rw[fW _ _ _ _ _ (.inl (by omega)),fW _ _ _ _ _ (.inl (by omega)),so _ _ _ _ _ _ (by omega)]
theorem qD (A:By)(p:Nat)(v:FI)(o w:Nat)(h:o+w<=48\/52<=o/\o+w<=56):rd (eZ A p v) (p+o) w=rd A (p+o) w:=by
 unfold eZ;rw[eX _ _ _ _ _ (.inl (by omega)),eX _ _ _ _ _ (.inl (by omega)),aM _ _ _ _ _ _ (by omega)]
theorem Kb (A:By)(p:Nat)(v:FI)(h:v.length<4294967296):vl (eZ A p v) p=v.length:=by
 unfold eZ vl;rw[eX _ _ _ _ _ (.inl (by omega)),eX _ _ _ _ _ (.inl (by omega)),qg _ _ _ _ (by omega)]
theorem Kc (A:By)(p:Nat)(v:FI):kl (eZ A p v) p=kl A p:=qD A p v 44 1 (.inl (by omega))
theorem E3 (A:By)(p:Nat)(v:FI):aH (eZ A p v) p=aH A p:=by
 unfold aH;rw[Kc,UK _ _ _ _ _ (.inr ⟨by omega,by omega⟩)]
theorem UJ (A:By)(p:Nat)(v:FI)(h:v.length<4294967296):j8 (eZ A p v) p=v:=by
 unfold j8;rw[Kc,Kb A p v h];unfold eZ;rw[fW _ _ _ _ _ (.inl (by omega)),k8]
theorem adZ{C:Cs}{p:Nat}{v:FI}(A:By)(L:At C p)(hf:58+kl A p+v.length<=C.sz (C.cl p)):cZ C A (eZ A p v) (λq o=>q=p/\48<=o):=λi e=>by
 have h1:p+48<=i/\i<p+58+kl A p+v.length:=by
  refine abz λg=>e ?_;unfold eZ wr;have hc:crlf.length=2:=rfl;rw[gy _ _ _ _ (by omega),gy _ _ _ _ (by omega),gy _ _ _ _ (by rw[mH];omega)]
 exact⟨p,i-p,L,by omega,⟨rfl,by omega⟩,by omega⟩
def Mo.py (M:Mo)(p:Nat)(v:FI):Mo:={M.put p {M.it p with val:=v}with v:={M.v with fB:=M.v.fB+v.length-(M.it p).val.length}}
theorem XR{f g:Nat->Nat}{p:Nat}{l:FH}(nd:l.Nodup)(hp:p∈l)(h:∀q,q≠p->g q=f q):(l.map g).sum+f p=(l.map f).sum+g p:=by
 have e:=List.perm_cons_erase hp;rw[(e.map g).sum_nat,(e.map f).sum_nat,aaj,aaj,abJ,abJ];have:(l.erase p).map g=(l.erase p).map f:=List.map_congr_left λq hq=>h q λg=>by subst g;exact nd.not_mem_erase hq
 rw[this];omega
theorem bH.py{B:Bx}{M:Mo}(O:bH B M){p:Nat}(hp:M.has p)(v:FI)(hf:58+(M.it p).key.length+v.length<=M.C.sz (M.C.cl p)):bH ⟨B.C.wA (eZ B.C.A p v),B.W,B.ty,B.E⟩ (M.py p v):=by
 have K:=O.k;have dD:=(O.al p).2 hp;have L:=O.sH dD;obtain⟨f1,f2,f3,f4,f5,f6,f7⟩:=O.kK dD;have uz:kl B.C.A p=(M.it p).key.length:=by rw[<-f5];exact(cE _ _ _).symm
 have wO:=(L.toAt.ba K).2.2.1;have ux:=K.toFix.p1;have PR:58+kl B.C.A p+v.length<=B.C.sz (B.C.cl p):=by rw[uz,show B.C.cl p=M.C.cl p from O.cl p,show B.C.sz (M.C.cl p)=M.C.sz (M.C.cl p) by rw[O.c];rfl];exact hf
 have d:=adZ B.C.A L.toAt PR;have I:=O.t.it p dD;have v32:v.length<4294967296:=by omega
 have other:∀q∈B.W.all,q≠p->mj (eZ B.C.A p v) q=mj B.C.A q:=λq hq ne=>vJ K d (O.mL hq) (O.t.it q hq) (λj s=>absurd s.1 ne);have r:=λ(q:Nat) (hq:q∈B.W.all) (o w:Nat) (h2:o+w<=48)=>kX (o:=o) (w:=w) K d (O.mL hq) (by have:=((O.mL hq).ba K).2.1;omega) (λj g1 g2 s=>by obtain⟨_,s2⟩:=s;omega);have itp:mj (eZ B.C.A p v) p={M.it p with val:=v}:=by
  rw[<-O.it p dD];unfold mj PV uD lA rO dB;rw[E3,UJ _ _ _ v32,qD _ _ _ _ _ (.inl (by omega)),qD _ _ _ _ _ (.inl (by omega)),qD _ _ _ _ _ (.inl (by omega)),qD _ _ _ _ _ (.inl (by omega)),qD _ _ _ _ _ (.inl (by omega))]
 have lq:∀q∈B.W.all,mj (eZ B.C.A p v) q=(M.py p v).it q:=λq hq=>by
  show _=if q=p then _ else M.it q
  by_cases e:q=p
  ·rw[if_pos e,e];exact itp
  rw[if_neg e,other q hq e];exact O.it q hq
 have key:∀q∈B.W.all,aH (eZ B.C.A p v) q=aH B.C.A q:=λq hq=>by
  by_cases e:q=p
  ·rw[e];exact E3 _ _ _
  exact congrArg I3.key (other q hq e)
 have iok:∀q∈B.W.all,gD (B.C.wA (eZ B.C.A p v)) q:=λq hq=>by
  have J:=O.t.it q hq;have e2:=r q hq 16 8 (by omega);have e3:=r q hq 24 8 (by omega);have e4:kl (eZ B.C.A p v) q=kl B.C.A q:=r q hq 44 1 (by omega);refine⟨by rw[cH,e4];exact J.k0, ?_,by rw[cH,e2];exact J.exp,by rw[cH,e3];exact J.tch⟩;rw[cH,e4];by_cases e:q=p
  ·rw[e,Kb _ _ _ v32];exact PR
  have e5:vl (eZ B.C.A p v) q=vl B.C.A q:=kX K d (O.mL hq) (by have:=((O.mL hq).ba K).2.1;omega) (λj g1 g2 s=>e s.1);rw[e5];exact J.fits
 have lk:∀l:FH,(∀q∈l,q∈B.W.all)->GB B.C.A l->GB (eZ B.C.A p v) l:=λl=>by
  induction l with
  |nil=>exact λ_ _=>trivial
  |cons q l ih=>exact λh g=>⟨(r q (h q List.mem_cons_self) 0 4 (by omega)).trans g.1,ih (λx hx=>h x (List.mem_cons_of_mem _ hx)) g.2⟩
 have T:=O.t;have hT:dt (B.C.wA (eZ B.C.A p v)) B.W:=⟨T.pw,T.po,T.st,T.mp,T.sz,T.PG,T.sm,T.mv,T.n,T.nd,λx=>lk _ (λq hq=>Tb.gM hq) (T.li x),λq hq=>(T.lv q hq).wA _,iok,
  λx q hq=>by
   show B.W.bk (cn (aH (eZ B.C.A p v) q))=x;rw[key q (Tb.gM hq)];exact T.bu x q hq,
  λa ha b hb e=>by
   change aH (eZ B.C.A p v) a=aH (eZ B.C.A p v) b at e;rw[key a ha,key b hb]at e;exact T.kd a ha b hb e⟩
 have Q:=O.o;have hQ:iV (B.C.wA (eZ B.C.A p v)) M.Q:=⟨Q.len,λi q hq=>(Q.lv i q hq).wA _,λi q hq=>iok q (O.nR hq),λi q hq=>by
   have:=r q (O.nR hq) 45 1 (by omega);show 1<=gz (eZ B.C.A p v) q/\_;rw[cH,show gz (eZ B.C.A p v) q=gz B.C.A q from this];exact Q.st i q hq,Q.nd,λi k hk=>by rw[cH,r _ (O.nR (abC hk)) 4 4 (by omega)];exact Q.l1 i k hk,λi k hk=>by rw[cH,r _ (O.nR (abC hk)) 8 4 (by omega)];exact Q.l2 i k hk⟩
 refine⟨?_,K.wA _,hT,O.ty,hQ,O.x, ?_,O.ck,O.al,λq=> ?_,O.ho,lq, ?_,O.st,O.nb,O.mg,O.mo, ?_,O.un,O.on,O.go,O.wn,O.cf,O.n,λq hq=> ?_⟩
 ·show B.C.wA _=M.C.wA _
  conv=>lhs;rw[O.c]
  rfl
 ·intro i q hq
  show dB (eZ B.C.A p v) q<16;rw[show dB (eZ B.C.A p v) q=dB B.C.A q from r q (O.nR hq) 46 1 (by omega)];exact O.mq i q hq
 ·refine Iff.trans ?_ (O.lv q)
  exact⟨λh=>⟨⟨h.i,h.own,h.al,h.k⟩,h.tk⟩,λh=>h.wA _⟩
 ·refine O.e.trans (List.Perm.of_eq (fO (C:=B.C) (D:=B.C.wA (eZ B.C.A p v)) (M:=M) (N:=M.py p v) λq _=>⟨?_,rfl,rfl⟩).symm)
  show(if q=p then _ else M.it q).exp=_;by_cases e:q=p
  ·rw[if_pos e,e]
  rw[if_neg e]
 ·show M.v.fB+v.length-(M.it p).val.length=(B.W.all.map λq=>((M.py p v).it q).sz).sum
  have h1:=XR (f:=λq=>(M.it q).sz) (g:=λq=>((M.py p v).it q).sz) T.nd dD (λq ne=>by
   show(if q=p then _ else M.it q).sz=_;rw[if_neg ne])
  have h2:((M.py p v).it p).sz=58+(M.it p).key.length+v.length:=by
   show(if p=p then _ else M.it p).sz=_;rw[if_pos rfl];rfl
  have h3:=O.bt;have h4:(M.it p).sz=58+(M.it p).key.length+(M.it p).val.length:=rfl;rw[h2,h4]at h1;omega
 rw[<-lq q hq];show du (aH (eZ B.C.A p v) q)=true;rw[key q hq,show aH B.C.A q=(M.it q).key from congrArg I3.key (O.it q hq)];exact O.lg q hq
end Go.Proofs.YtcbcjolpdljbiaaGreat
namespace Go.Proofs.YtcbcjolpdljbiaaGreat
open Go Go.dC Go.Proofs.YtcbcjolpdljbiaaGreat.Cs
theorem Qi (n:Nat):IntKind.u64.wrap (n:Int)=((n % 18446744073709551616:Nat):Int):=by
 simp[IntKind.wrap,IntKind.bits,IntKind.signed]
def BxT (z:Ly)(B:Bx)(M:Mo):aa:=aB
 [ag z.y.t 154 (gE z.y.b B.W B.ty),ag B.ty.nk 149 (aS (aF B.W.nb)),nL B.ty.ok 149 (aS (aF B.W.ob)),ag z.y.q 182 (ij z.y.b z.qb B.C.ae.length),ag z.qb 333 (M.Q.flatMap (cX B.C)),ik z.y.cr z.y.q z.y.wh B.C.ae.length (aV z.s) (bx z.s) B.C M.x,Wl z.y.wh B.E M.tn,
  kI z.y.ck M.k,nM z.y.lu z.y.b z.y.q z.hot z.warm,mN z.y.mo z.y.b z.ub (aV z.s) (bx z.s) (de z.s) M.m,kF z.ub M.m,jJ M]
theorem Md{L:F8}{A B:aa}{H:F8}{h:Hp}(s:ai (A::B::(L++H)) h):ai (A::B::aB L::H) h:=aE (λ_=>aE λ_=>dZ) s
theorem TH{L:F8}{A B:aa}{H:F8}{h:Hp}(s:ai (A::B::aB L::H) h):ai (A::B::(L++H)) h:=aE (λ_=>aE λ_=>uZ) s
theorem FG (z:Ly)(B:Bx)(M:Mo)(H:F8):fP (dS z B M++H) (fy z.s z.y (fg M.v)) (Wx z B M++H):=
 .t8 .here
theorem afD{z:Ly}{B:Bx}{M:Mo}{H:F8}(h:Hp)(s:ai (dS z B M++H) h):ai (ag z.s 96 (zQ z.y M.v++ [.slice M.v.wa M.v.wn M.v.wc])::Cl z.y.b B.C::BxT z B M::H) h:=
 Md ((FG z B M H).out _ s)
theorem aju{z:Ly}{B:Bx}{M:Mo}{H:F8}(h:Hp)(s:ai (ag z.s 96 (zQ z.y M.v++ [.slice M.v.wa M.v.wn M.v.wc])::Cl z.y.b B.C::BxT z B M::H) h):ai (dS z B M++H) h:=
 (FG z B M H).back _ (TH s)
section
variable {n:Nat} {ds:Dq} {F:dG} {K:F9} {σ:aP} {z:Ly} {M N:Mo} {H:F8}
theorem aiY (h:∀B,bH B M->G n ds F K σ (ag z.s 96 (zQ z.y M.v++ [.slice M.v.wa M.v.wn M.v.wc])::Cl z.y.b B.C::BxT z B M::H)):G n ds F K σ (SH z M::H):=
 cB λB O=>au afD (h B O)
theorem aiX{B:Bx}(D:Cs)(O:bH ⟨D,B.W,B.ty,B.E⟩ N)(hb:BxT z ⟨D,B.W,B.ty,B.E⟩ N=BxT z B M)(h:G n ds F K σ (SH z N::H)):G n ds F K σ (ag z.s 96 (zQ z.y N.v++ [.slice N.v.wa N.v.wn N.v.wc])::Cl z.y.b D::BxT z B M::H):=by
 rw[<-hb];exact au (λk s=>ax O k (aju k s)) h
end
theorem TD (z:Ly)(M:Mo)(p t:Nat)(hp:M.has p)(ht:t<18446744073709551616):aG aaa 126 [Dk z.y.b,Dm Dj (M.C.hd p),Dm Dj t] uT [SW z M] (λv H=>v=Dm Dl 0/\H= [SW z (M.tok p t)]):=
 iW (N:=M.tok p t) (T:=λv=>v=Dm Dl 0) λa c=>dJ λB O=>by
  have dD:=(O.al p).2 hp;have h:=(ak7 z.y.b B.C O.k p t ht (O.sH dD) (O.t.it p dD).k0).fr (H:=dS z B (M.aK a c)++ []) (R:=(dS z B (M.aK a c)).tail) (.cons .here .nil) (λk ak=>trivial);rw[O.hd]at h;refine h.out ?_;rintro v H' ⟨H0,⟨rfl,rfl⟩,rfl⟩;exact⟨[SH z ((M.tok p t).aK a c)],⟨rfl,rfl⟩,λk s=>ax (O.w32 dD t ht) (H:= []) k s⟩
theorem s8 (z:Ly)(M:Mo)(c:Nat)(hc:c<M.fG):aG aaa 32 [Dk z.s,Dm Dl c] uT [SW z M] (λv H=>v=Dm Dl (M.C.sz c)/\H= [SW z M]):=by
 have h:=Ie z M c;rw[show(ofM M.C c λi=>M.C.sz i)=M.C.sz c by unfold ofM;rw[if_pos ⟨by omega,by exact Int.ofNat_lt.2 hc⟩];rfl]at h;refine af func32 rfl ntmps32 rfl ?_;intro F _;refine bB ?_;refine zl Aa (h) (.cons .here .nil) Di ?_;refine bq ?_;refine Rt [SW z M] results32 ?_;exact⟨rfl,rfl⟩
def pA (c:fi)(n:Nat):Nat:=if c.aC=12 then(n+c.dl) % 18446744073709551616 else n-c.dl
def Mo.r8 (M:Mo)(p m:Nat):hG×Mo:=
 if 58+(M.it p).key.length+(dH m).length<=M.C.sz (M.C.cl p)then(⟨7,[],m,[]⟩,((((M.py p (dH m)).rj (M.v.aQ+1)).tok p (M.v.aQ+1)).marks p 0).lq p)
 else if M.v.c.lim<58+(M.it p).key.length+(dH m).length then(.t dY,M)
 else match M.room (58+(M.it p).key.length+(dH m).length) (some p)with
  |(none,R)=>(.t jt,R)
  |(some r,R)=>(⟨7,[],m,[]⟩,R.dE r (some p) ⟨(M.it p).key,dH m,(M.it p).fl,(M.it p).exp,R.k.now,R.v.aQ+1,0⟩)
def Mo.counts (M:Mo)(c:fi)(k:FI):hG×Mo:=match M.meet k with
 |(none,N)=>(.k 4,N)
 |(some p,N)=>match uG (N.it p).val with
  |none=>(.t uL,N)
  |some n=>N.r8 p (pA c n)
theorem OC (z:Ly)(M:Mo)(c:fi)(ka:FL)(kc:Nat)(da:FL)(dc:Nat)(mv:Value)(mS:mv.oneCell'=true)(k:FI)(r:List FI)(uA:c.keys=k::r)(hk:du k=true)(hw:M.jZ.length<1073741824)(PT:c.dl<18446744073709551616)
  (hh:M.hole=none) (fA:M.m.st<4611686018427387904) (wI:M.v.c.lim<=1048576) (rR:M.v.aQ+1<18446744073709551616) (vD:M.tn<18446744073709551615):
  W5 aaa 82 [Dk z.s, .agg (fI c ka kc da dc mv).toArray] (λh=>gF h ka (mV c.keys)) [SW z M]
   (λv H=>∃a N,M.counts c k=(a,N)/\v=uI a/\H= [SW z N]) (λv H=>∃a N,M.counts c k=(a,N)/\v=rE (uI a)/\H= [SW z N]):=by
 obtain⟨Wo,Jl⟩:=gn hk;refine lX func82 rfl ntmps82 rfl ?_;intro F hr;refine aw ?_;refine Lp (oB λb1=> ?_);refine Lp (oA o0 λb2=> ?_);refine aw ?_;refine Hh (H':= [SW z M,ag b1 42 (fI c ka kc da dc mv),ag b2 52 [Dm Dl 0,br,Dm Dj 0,a8 [],br]]) ?_;refine bq ?_;refine Lp (PJ Aa rfl rfl (yL z M c ka kc da dc mv mS k r uA (by omega) hw) (.cons .here .nil) (λ_ le _=>hr.mono le) (by rintro v H' ⟨N,hm,rfl,rfl⟩;exact pP [SW z N] ⟨.k 4,N,by unfold Mo.counts;rw[hm],rfl,rfl⟩) ?_);rintro v H' ⟨p,N,hm,rfl,rfl⟩;refine bR ?_;obtain⟨m1,m2,m3⟩:=ns hm;have hN:N.has p:=by rw[m3];exact m1
 have hC:M.C=N.C:=by rw[m3];rfl
 have hNv:N.v.c=M.v.c/\N.v.aQ=M.v.aQ/\N.tn=M.tn/\N.hole=M.hole/\N.m.st=M.m.st:=by rw[m3];exact⟨rfl,rfl,rfl,rfl,rfl⟩
 have nW:(N.it p).key=k:=by rw[m3];exact m2
 obtain⟨n1,n2,n3,n4,n5⟩:=hNv;have zD:M.counts c k=match uG (N.it p).val with|none=>(.t uL,N)|some n=>N.r8 p (pA c n):=by unfold Mo.counts;rw[hm]
 rw[hC];refine pQ λwa wc B O=> ?_;obtain⟨v1,v2,v3,v4⟩:=O.ahj (p:=p) hN;change(N.it p).val.length<=_ at v1;change(N.it p).fl<_ at v2;change(N.it p).exp<_ at v3;change(N.it p).key.length<=_ at v4;refine cA ?_;refine Lp (oC Aa rfl rfl (AG z N p hN) (.cons .here .nil) Di ?_);rintro v H' ⟨H0,⟨Wg,ZT,st2,hs1',hs2',hs3',rfl,rfl⟩,rfl⟩;refine bR ?_;unfold DL;refine bq ?_;refine Lp (oA bT λb3=> ?_);refine Lp (jh dX ?_ (h1:=by simp[DL,Value.oneCell']));refine bn ?_;refine Lp (PJ Aa rfl rfl (OB (some ⟨ZT,0,none⟩) (N.it p).val.length (N.it p).val.length (N.it p).val rfl (by omega)) .nil (λ_ le ak=>bX (ak.nth 2 rfl)) (by rintro v H' ⟨hn,rfl,rfl⟩;exact pP [SW z N] ⟨.t uL,N,by rw[zD,hn],rfl,rfl⟩) ?_);rintro v H' ⟨⟨n,hn,hn64,rfl⟩,rfl⟩;refine bR ?_;rw[hn]at zD;dsimp only at zD;have hmlt:pA c n<18446744073709551616:=by unfold pA;split<;>omega
 refine bd ?_;refine av ?_;refine eK (ι:=Unit) (FN [8,1,31,15]) (λu=>True) (λu=> [(8,Dm Dj (pA c n:Nat))]) (λu=> [SW z N,ag b1 42 (fI c ka kc da dc mv),ag b2 52 [Dm Dl 0,br,Dm Dj 0,a8 [],br],ag b3 159 [.slice (some ⟨Wg,0,none⟩) (N.it p).key.length (N.it p).key.length, .slice (some ⟨ZT,0,none⟩) (N.it p).val.length (N.it p).val.length,Dm Dj ((N.it p).fl),Dm Dl ((N.it p).exp),Dm Dl ((N.it p).tch),Dm Dj ((N.it p).tok),Dm Dl st2,Dm Dl ((N.it p).eP)],own (some ⟨Wg,0,none⟩) (N.it p).key.length 5 1 (aj (N.it p).key)]) ?_ ?_
 ·by_cases DK:c.aC=12
  ·have hmm:pA c n=(n+c.dl) % 18446744073709551616:=by unfold pA;rw[if_pos DK]
   rw[hmm];refine bn ?_;refine fe ?_ (e:=by exact decide_eq_true DK);refine bs ?_;refine aD ?_;refine aA (t:=8) (v':=(Dm Dj ((n+c.dl) % 18446744073709551616:Nat))) rfl (by exact congrArg (Value.int .u64) (by first|exact Qi (n+c.dl)|exact(Qi (n+c.dl)).symm|(rw[<-Qi];rfl))) ?_;refine Me (()) (trivial)
  have hmm:pA c n=n-c.dl:=by unfold pA;rw[if_neg DK]
  rw[hmm];refine bn ?_;refine cN ?_ (e:=by exact decide_eq_false DK);by_cases cJ:n<c.dl
  ·refine gK ?_
   refine bn ?_;refine fe ?_;refine bd ?_;refine aD ?_;refine Me (()) (trivial) (hs:=⟨(congrArg (λq=>some (Value.int .u64 q)) (by omega)),trivial⟩)
  refine gK ?_;refine bn ?_;refine cN ?_;refine bs ?_;refine aD ?_;refine Me (()) (trivial) (hs:=⟨(congrArg (λq=>some (Value.int .u64 q)) (by omega)),trivial⟩)
 rintro u hI;generalize pA c n=m at*;have qx:N.r8 p m=if 58+(N.it p).key.length+(dH m).length<=N.C.sz (N.C.cl p)then(⟨7,[],m,[]⟩,((((N.py p (dH m)).rj (N.v.aQ+1)).tok p (N.v.aQ+1)).marks p 0).lq p)else if N.v.c.lim<58+(N.it p).key.length+(dH m).length then(.t dY,N)else match N.room (58+(N.it p).key.length+(dH m).length) (some p)with|(none,R)=>(.t jt,R)|(some r,R)=>(⟨7,[],m,[]⟩,R.dE r (some p) ⟨(N.it p).key,dH m,(N.it p).fl,(N.it p).exp,R.k.now,R.v.aQ+1,0⟩):=rfl
 have hdl20:(dH m).length<=20:=by have:=tX 20 m (by omega);omega
 have hL:=O.sH ((O.al p).2 hN);have hcn:N.C.cl p<N.fG:=by
  have:=(hL.toAt.ba O.k).1;rw[show B.C.cl p=N.C.cl p from O.cl p,O.c]at this;exact this
 refine bd ?_;refine Lp (oC Aa rfl rfl (TI m hmlt) .nil Di ?_);rintro v H' ⟨ta,tc,rfl,rfl⟩;refine bR ?_;generalize dH m=t at*;refine Lu ?_;refine zl Aa (XP z N p hN) (.cons (.there .here) .nil) Di ?_;refine fX ?_;refine zl Aa (s8 z N (N.C.cl p) hcn) (.cons .here .nil) Di ?_;by_cases ak:58+(N.it p).key.length+t.length<=N.C.sz (N.C.cl p)
 ·rw[if_pos ak]at qx
  refine bq ?_;refine fe ?_
  clear O
  refine av ?_;refine Hh (H':= [SW z N,own ta tc 5 1 (aj t),ag b1 42 (fI c ka kc da dc mv),ag b2 52 [Dm Dl 0,br,Dm Dj 0,a8 [],br],ag b3 159 [.slice (some ⟨Wg,0,none⟩) (N.it p).key.length (N.it p).key.length, .slice (some ⟨ZT,0,none⟩) (N.it p).val.length (N.it p).val.length,Dm Dj ((N.it p).fl),Dm Dl ((N.it p).exp),Dm Dl ((N.it p).tch),Dm Dj ((N.it p).tok),Dm Dl st2,Dm Dl ((N.it p).eP)],own (some ⟨Wg,0,none⟩) (N.it p).key.length 5 1 (aj (N.it p).key)]) ?_;refine Ap λwa wc=>aiY λB O=> ?_;have hbt:=O.ahV;have dD:=(O.al p).2 hN;have hsm:(N.it p).val.length<=N.v.fB:=by
   have h1:=O.bt;have h2:=wV (λq=>((N.aK wa wc).it q).sz) dD;have h3:((N.aK wa wc).it p).sz=58+(N.it p).key.length+(N.it p).val.length:=rfl;change N.v.fB=_ at h1;rw[<-h1,h3]at h2;omega
  change N.v.fB<=_ at hbt;have uz:kl B.C.A p=(N.it p).key.length:=by rw[<-show aH B.C.A p=(N.it p).key from(O.kK dD).2.2.2.2.1];exact(cE _ _ _).symm
  have sQ:58+((N.aK wa wc).it p).key.length+t.length<=(N.aK wa wc).C.sz ((N.aK wa wc).C.cl p):=ak;have iv:=MO z.y.b B.C O.k p (O.sH dD) (O.t.it p dD).k0 ta t.length tc t rfl (by rw[uz,show B.C.cl p=N.C.cl p from O.cl p,show B.C.sz (N.C.cl p)=N.C.sz (N.C.cl p) by rw[O.c];rfl];exact ak);rw[show B.C.hd p=N.C.hd p from O.hd p]at iv;unfold zQ ab6;dsimp only[Mo.aK];refine bR ?_;refine iU 13 mix (.cons .here (.cons (.t4 (.there .here)) .nil)) λF1 jD bV aI=> ?_;obtain⟨q1,q6,_⟩:=bV;refine bP ?_;refine aA (t:=106) (v':=(Dm Dl (N.v.fB+t.length-(N.it p).val.length:Nat))) rfl (by exact congrArg (Value.int .i64) (by omega)) ?_;refine bd ?_;refine gI aI ?_;refine bB ?_;refine zl Aa (iv) (.cons (.t2 .here) .nil) (λ_ le ak=>bX (ak.nth 3 rfl)) ?_;refine aw ?_;refine av ?_;refine Hh (H':= [ag z.s 96 (zQ z.y (N.py p t).v++ [.slice wa N.jZ.length wc]),Cl z.y.b (B.C.wA (eZ B.C.A p t)),BxT z B (N.aK wa wc),own ta tc 5 1 (aj t),ag b1 42 (fI c ka kc da dc mv),ag b2 52 [Dm Dl 0,br,Dm Dj 0,a8 [],br],ag b3 159 [.slice (some ⟨Wg,0,none⟩) (N.it p).key.length (N.it p).key.length, .slice (some ⟨ZT,0,none⟩) (N.it p).val.length (N.it p).val.length,Dm Dj ((N.it p).fl),Dm Dl ((N.it p).exp),Dm Dl ((N.it p).tch),Dm Dj ((N.it p).tok),Dm Dl st2,Dm Dl ((N.it p).eP)],own (some ⟨Wg,0,none⟩) (N.it p).key.length 5 1 (aj (N.it p).key)]) ?_;refine aiX (N:=(N.aK wa wc).py p t) _ (O.py hN t sQ) rfl ?_;refine aaW (M:=N.py p t) wa wc ?_;have ux:(N.py p t).has p:=hN;rw[show N.C=(N.py p t).C from rfl];have O8:(N.py p t).v.aQ=N.v.aQ:=rfl;generalize hN1:N.py p t=N1 at*;refine bs ?_;refine aA (t:=121) (v':=(Dm Dj (N.v.aQ+1:Nat))) rfl (by exact congrArg (Value.int .u64) (by rw[O8];rfl)) ?_;refine bd ?_;refine Lp (oSc (i:=19) rB ?_);refine aw ?_;refine av ?_;have dD:(N1.rj (N.v.aQ+1)).has p:=ux;rw[show N1.C=(N1.rj (N.v.aQ+1)).C from rfl];have xy:(N1.rj (N.v.aQ+1)).v.aQ=N.v.aQ+1:=rfl;generalize hN2:N1.rj (N.v.aQ+1)=N2 at*;refine iU 10 mix (.cons .here .nil) λF2 zH eL dw=> ?_;obtain⟨q7,_⟩:=eL;refine bc ?_
  first
   |refine Ti (Lf Qo) ?_
   |refine Ti (Bw Qo q7) ?_
  refine bc ?_
  first
   |refine Ti (Lf rB) ?_
   |refine Ti (Bw rB q7) ?_
  refine gI dw ?_;rw[xy];refine Tp (oZ (Aa (n:=126)) (TD z N2 p (N.v.aQ+1) dD (by rw[n2];exact rR)) (.cons .here .nil) Di ?_);refine bc ?_;refine zl Aa (H9 z (N2.tok p (N.v.aQ+1)) p 0 (by decide) dD) (.cons .here .nil) Di ?_;refine bc ?_;refine zl Aa (yo z ((N2.tok p (N.v.aQ+1)).marks p 0) p dD) (.cons .here .nil) Di ?_;refine bs ?_;refine Lp (jh ez ?_ (h1:=by simp[cL,Value.cells,Value.oneCell',a8,br]));refine bd ?_;refine pR ?_;refine Jc [SW z (((N2.tok p (N.v.aQ+1)).marks p 0).lq p)] ez results82 ?_;exact⟨⟨7,[],m,[]⟩,_,by rw[zD,qx],rfl,rfl⟩
 rw[if_neg ak]at qx;refine bq ?_;refine cN ?_;refine bB ?_;by_cases zU:N.v.c.lim<58+(N.it p).key.length+t.length
 ·rw[if_pos zU]at qx
  refine fe ?_;refine iN ?_;refine zl Aa (hZ dY) .nil Di ?_;refine Li (Ww T.gP) ?_;refine Lp (Wc ?_);refine pP [SW z N] ?_;exact⟨.t dY,N,by rw[zD,qx],rfl,rfl⟩
 rw[if_neg zU]at qx;refine cN ?_;have hR:=wX (M:=N) (n:=58+(N.it p).key.length+t.length) (own:=some p) (o:=(N.room (58+(N.it p).key.length+t.length) (some p)).1) (N:=(N.room (58+(N.it p).key.length+t.length) (some p)).2) ⟨O.mc0,O.We.nd,O.We.lv,O.We.on⟩ rfl;have zM:=vX z N (n4.trans hh) (by rw[n5];exact fA) (N.it p).key.length t.length ⟨by rw[nW];exact Wo,v4⟩ (by omega) (some p) (λq e=>by cases e;exact hN);refine cV ?_;refine zl Aa (zM) (.cons .here .nil) Di ?_;rcases hrm:N.room (58+(N.it p).key.length+t.length) (some p)with⟨o,R⟩
 rw[hrm]at hR qx;dsimp only at hR qx⊢;obtain⟨hRp,hRh,_⟩:=hR.s.own p rfl hN;rw[show N.C.hd p=qZ R.C (some p)from hRh.symm];rcases o with _|r0
 ·dsimp only at qx
  refine cV ?_;refine iN ?_;refine zl Aa (hZ jt) .nil Di ?_;refine Li (Ww T.gP) ?_;refine Lp (Wc ?_);refine pP [SW z R] ?_;exact⟨.t jt,R,by rw[zD,qx],rfl,rfl⟩
 obtain⟨g1,g2,g3,g4⟩:=hR.ok r0 rfl;have hdn:=bM hR.k.k g3.toAt;obtain⟨_,_,_,_,Gy,Gx⟩:=hdn;refine bK ?_;refine cN ?_ (e:=by exact decide_eq_false (by show¬(((R.C.hd r0:Nat):Int)=0);omega));refine fX ?_;refine zl Aa (Ez z R r0 g1 (some p) (N.it p).key t _ _ rfl rfl (λq e=>by cases e;exact⟨hRp,by rw[hR.s.it]⟩) (λe=>by cases e) (some ⟨Wg,0,none⟩) ta (N.it p).key.length tc (N.it p).fl (N.it p).exp 0 (by rw[nW];exact hk) g2 v2 v3 (by decide) (by rw[hR.s.aQ,n2];exact rR) (by rw[hR.s.tn,n3];exact vD)) (.cons .here .nil) (λ_ le ak=>⟨bX (ak.nth 4 rfl),bX (ak.nth 0 rfl)⟩) ?_;refine bs ?_;refine Lp (jh ez ?_ (h1:=by simp[cL,Value.cells,Value.oneCell',a8,br]));refine bd ?_;refine pR ?_;refine Jc [SW z (R.dE r0 (some p) ⟨(N.it p).key,t,(N.it p).fl,(N.it p).exp,R.k.now,R.v.aQ+1,0⟩)] ez results82 ?_;exact⟨⟨7,[],m,[]⟩,_,by rw[zD,qx],rfl,rfl⟩
end Go.Proofs.YtcbcjolpdljbiaaGreat
namespace Go.Proofs.YtcbcjolpdljbiaaGreat
open Go Go.dC Go.Proofs.YtcbcjolpdljbiaaGreat.Cs
theorem bH.ck1{B:Bx}{M:Mo}(O:bH B M){k:Ck}(h:sS k):bH B {M with k:=k}:=
 ⟨O.c,O.k,O.t,O.ty,O.o,O.x,O.mq,h,O.al,O.lv,O.ho,O.it,O.e,O.st,O.nb,O.mg,O.mo,O.bt,O.un,O.on,O.go,O.wn,O.cf,O.n,O.lg⟩
theorem db.again{n:Nat}{Q:F7}{x:Cw}(_:db n Q x):db n Q x.again:=⟨(λe=>by cases e),λ_=>⟨rfl,rfl,rfl,rfl⟩,(λ_ e=>by cases e),abL _⟩
theorem Ib (z:Ly)(M:Mo)(t:Int)(hi:M.v.aQ<18446744073709551616)(ht:t<9223372036854775808):aG aaa 74 [Dk z.y.ck,Dm Dl t,Dm Dj M.v.aQ] uT [SW z M]
  (λv H=>v= .tuple #[]/\H= [SW z {M with k:=M.k.flush t M.v.aQ}]):=
 iW (N:={M with k:=M.k.flush t M.v.aQ}) (T:=λv=>v= .tuple #[]) λa c=>dJ λB O=>by
  have h:=(zp z.y.ck M.k O.ck.n2 t M.v.aQ hi ht).fr (H:=dS z B (M.aK a c)++ []) (R:= [Cl z.y.b B.C,DH z B.W B.ty,zK B.ty B.W,DJ B.ty B.W,DI z B.C.ae.length,ag z.qb 333 (M.Q.flatMap (cX B.C)),Wp z B.C.ae.length B.C M.x,Wl z.y.wh B.E M.tn,fy z.s z.y (fg (M.aK a c).v),
   zF z,xx z M.m,kF z.ub M.m,jJ (M.aK a c)]) (.cons (.t8 (.there .here)) .nil) (λ_ _=>trivial)
  refine h.out ?_;rintro v H' ⟨H0,⟨rfl,rfl⟩,rfl⟩;refine⟨[SH z (({M with k:=M.k.flush t M.v.aQ}:Mo).aK a c)],⟨rfl,rfl⟩,λk s=>ax (O.ck1 (O.ck.flush t hi)) (H:= []) k ?_⟩
  revert s
  revert k
  simp only[oU,cap,abT];unfold dS;exact Eh
theorem Ig (z:Ly)(M:Mo):aG aaa 86 [Dk z.y.cr] uT [SW z M]
  (λv H=>v= .tuple #[]/\H= [SW z {M with x:=M.x.again}]):=
 iW (N:={M with x:=M.x.again}) (T:=λv=>v= .tuple #[]) λa c=>dJ λB O=>by
  have h:=(Bm z.y.cr z.y.q z.y.wh B.C.ae.length (aV z.s) (bx z.s) B.C M.x).fr (H:=dS z B (M.aK a c)++ []) (R:= [Cl z.y.b B.C,DH z B.W B.ty,zK B.ty B.W,DJ B.ty B.W,DI z B.C.ae.length,ag z.qb 333 (M.Q.flatMap (cX B.C)),Wl z.y.wh B.E M.tn,fy z.s z.y (fg (M.aK a c).v),
   kI z.y.ck M.k,zF z,xx z M.m,kF z.ub M.m,jJ (M.aK a c)]) (.cons (.t4 (.t2 .here)) .nil) (λ_ _=>trivial)
  refine h.out ?_;rintro v H' ⟨H0,⟨rfl,rfl⟩,rfl⟩;refine⟨[SH z (({M with x:=M.x.again}:Mo).aK a c)],⟨rfl,rfl⟩,λk s=>ax (O.cw O.x.again) (H:= []) k ?_⟩
  revert s
  revert k
  simp only[oU,cap,abT];unfold dS;exact Eh
theorem Eu (b:Nat)(cs:FJ):LK aaa 80 [Dk b] .returning .returning (λ_=>True) [ag b 52 cs] (λv H=>v= .tuple #[]/\H= [ag b 52 cs]):=by
 refine Rz (Aa (n:=80)) func80 rfl ntmps80 rfl rfl rfl rfl rfl rfl rfl rfl rfl (.inl ⟨rfl,rfl,rfl⟩) ?_;intro F _;refine bd ?_;refine Li (Iqn T.aaJ) ?_;refine bq ?_;refine jU [ag b 52 cs] results80 ?_;exact⟨rfl,rfl⟩
theorem Tv (b:Nat)(c0 c1 c2 c3 c4:Value)(a:hG):LK aaa 80 [Dk b] (.panicking [pe (rE (uI a))]) (.panicking [{v:=rE (uI a),recovered:=true}]) (λ_=>True) [ag b 52 [c0,c1,c2,c3,c4]] (λv H=>v= .tuple #[]/\H= [ag b 52 (gB a.kind br a.num a.wM)]):=by
 refine Rz (Aa (n:=80)) func80 rfl ntmps80 rfl rfl rfl rfl rfl rfl rfl rfl rfl (.inr ⟨rfl,rfl⟩) ?_;intro F _;unfold rE uI zZ gB br;refine bd ?_;refine Li (Iq T.aaJ) ?_;refine bc ?_;refine Li (TaT T.gP) ?_;refine bq ?_;refine Lp (oA GR λb1=> ?_);refine Lp (jh HU ?_ (h1:=by simp[cL,Value.cells,Value.oneCell',a8,br]));refine gJ ?_;refine Lp (oSN ez ?_ (h1:=by simp[cL,Value.cells,Value.oneCell',a8,br]));refine aD ?_;refine jU [ag b 52 [Dm Dl a.kind, .slice none 0 0,Dm Dj a.num,a8 a.wM, .slice none 0 0]] results80 ?_;exact⟨rfl,rfl⟩
def wS:FI:= [103,114,97,110,97,114,121,32,49]
def Mo.delete (M:Mo)(k:FI):hG×Mo:=match M.meet k with
 |(none,N)=>(.k 4,N)
 |(some p,N)=>(.k 5,N.bw p)
def Mo.fC (M:Mo)(c:fi):hG×Mo:=
 if 1<=c.aC/\c.aC<=4 then M.xK c.aC c.keys c.ex
 else if c.aC=12\/c.aC=13 then M.counts c (c.keys.headD [])
 else if c.aC=14 then M.hJ (c.keys.headD []) c.ex
 else if c.aC=11 then M.delete (c.keys.headD [])
 else if c.aC=15 then(.k 8,{M with k:=M.k.flush c.ex M.v.aQ,x:=M.x.again})
 else if c.aC=16 then(⟨10,[],0,wS⟩,M)
 else if c.aC=17 then(.k 8,M)
 else if c.aC=18 then(.k 12,M)
 else M.dx c (c.keys.headD [])
def Qb (z:Ly)(r:hG×Mo)(v:Value)(H:F8):Prop:=∃ea ec l,l.map Prod.fst=r.1.eF/\v=zZ r.1.kind (.slice ea l.length ec) r.1.num r.1.wM/\H= [own ea ec 56 9 (jH l),jG l,SW z r.2]
theorem wo{M N:Mo}{c:fi}{k:FI}{a:hG}(h:M.counts c k=(a,N)):a.eF= []:=by
 have:(M.counts c k).1.eF= []:=by
  unfold Mo.counts Mo.r8
  (repeat' split)<;>rfl
 rw[h]at this;exact this
theorem vZ{M N:Mo}{c:fi}{k:FI}{a:hG}(h:M.dx c k=(a,N)):a.eF= []:=by
 have:(M.dx c k).1.eF= []:=by
  unfold Mo.dx Mo.jc Mo.lays
  (repeat' split)<;>rfl
 rw[h]at this;exact this
theorem ud{M N:Mo}{k:FI}{e:Int}{a:hG}(h:M.hJ k e=(a,N)):a.eF= []:=by
 have:(M.hJ k e).1.eF= []:=by
  unfold Mo.hJ
  (repeat' split)<;>rfl
 rw[h]at this;exact this
section
variable {n t b:Nat} {F:dG} {σ:aP} {fn:Func} {z:Ly} {r:hG×Mo} {R:F8}
theorem kx (hr:fn.results= #[.cell t 52])(he:r.1.eF= [])(ht:dC.look σ t=some (Dk b):=by exact rfl):
  G n [Py 80 [] [Dk b]] F (bodyPostD aaa fn (λe w'=>∃v H',e= .returned v/\Qb z r v H'/\St F H' w') .ret) σ (ag b 52 (gB r.1.kind br r.1.num r.1.wM)::SW z r.2::R):=by
 refine eT 56 9 ?_;refine tW ?_;refine RrC (e:=52) [own none 0 56 9 (jH []),jG [],SW z r.2] ez hr (Eu b (gB r.1.kind br r.1.num r.1.wM)) (.cons (.t2 .here) .nil) Di ?_ ht;rintro v Hx ⟨rfl,rfl⟩;exact⟨_,_,_, .here,rfl,rfl,⟨none,0,[],he.symm,rfl,rfl⟩,λh s=>dy (by
  obtain⟨_,h2,_,_,l2,_,s⟩:=s;exact eU (aE (λk s=>aE (R:=SW z r.2::R) (λk s=>aE (R':= []) (λ_ _=>trivial) s) s) s) l2)⟩
theorem tJ{c0 c1 c2 c3 c4:Value}(hr:fn.results= #[.cell t 52])(he:r.1.eF= [])(ht:dC.look σ t=some (Dk b):=by exact rfl):
  G n [Py 80 [] [Dk b]] F (bodyPostD aaa fn (λe w'=>∃v H',e= .returned v/\Qb z r v H'/\St F H' w') (.panic [pe (rE (uI r.1))])) σ (ag b 52 [c0,c1,c2,c3,c4]::SW z r.2::R):=by
 refine eT 56 9 ?_;refine tW ?_;refine RpC (e:=52) [own none 0 56 9 (jH []),jG [],SW z r.2] ez hr (Tv b c0 c1 c2 c3 c4 r.1) (.cons (.t2 .here) .nil) Di ?_ ht;rintro v Hx ⟨rfl,rfl⟩;exact⟨_,_,_, .here,rfl,rfl,⟨none,0,[],he.symm,rfl,rfl⟩,λh s=>dy (by
  obtain⟨_,h2,_,_,l2,_,s⟩:=s;exact eU (aE (λk s=>aE (R:=SW z r.2::R) (λk s=>aE (R':= []) (λ_ _=>trivial) s) s) s) l2)⟩
end
theorem acS (z:Ly)(M:Mo)(c:fi)(ka:FL)(kc:Nat)(da:FL)(dc:Nat)(mv:Value)(mS:mv.oneCell'=true)(hb:xM c=false)(DG:c.keys.length<1073741824)(uz:∀k∈c.keys,k.length<281474976710656)(hw:M.jZ= [])(hex:c.ex<9223372036854775808)(hda:c.data.length<281474976710656)(PT:c.dl<18446744073709551616)
  (hh:M.hole=none) (fA:M.m.st<4611686018427387904) (wI:M.v.c.lim<=1048576) (rR:M.v.aQ+1<18446744073709551616) (vD:M.tn+c.keys.length<18446744073709551615):
  aG aaa 43 [Dk z.s, .agg (fI c ka kc da dc mv).toArray] (λh=>gF h ka (mV c.keys)/\gF h da (aj c.data)) [SW z M] (Qb z (M.fC c)):=by
 have jE:M.fC c=if 1<=c.aC/\c.aC<=4 then M.xK c.aC c.keys c.ex else if c.aC=12\/c.aC=13 then M.counts c (c.keys.headD [])else if c.aC=14 then M.hJ (c.keys.headD []) c.ex else if c.aC=11 then M.delete (c.keys.headD [])else if c.aC=15 then(.k 8,{M with k:=M.k.flush c.ex M.v.aQ,x:=M.x.again})else if c.aC=16 then(⟨10,[],0,wS⟩,M)else if c.aC=17 then(.k 8,M)else if c.aC=18 then(.k 12,M)else M.dx c (c.keys.headD []):=rfl
 have hbf:xM c=(decide (bW c.aC<0\/0<bW c.aC/\c.keys.length=0\/bW c.aC=1/\1<c.keys.length) ||(decide (0<bW c.aC)&&c.keys.any λk=> !du k) ||decide (5<=c.aC/\c.aC<=10/\4294967295<c.fl)):=rfl;rw[hb]at hbf;have ahJ:=hbf.symm;simp only[Bool.or_eq_false_iff,decide_eq_false_iff_not]at ahJ;obtain⟨⟨fh,eM⟩,dm⟩:=ahJ;have hv0:1<=c.aC/\c.aC<=18:=by
  refine abz λg=>fh (.inl ?_);unfold bW;rw[if_neg (by omega),if_neg (by omega),if_neg (by omega)];decide
 have Jk:5<=c.aC->c.aC<=14->∃k,c.keys= [k]/\du k=true:=λh1 h2=>by
  have hvi:bW c.aC=1:=by unfold bW;rw[if_neg (by omega),if_pos (by omega)]
  rw[hvi]at fh eM;rcases hk:c.keys with _|⟨k,_|⟨k2,r⟩⟩
  ·exact absurd (.inr (.inl ⟨by decide,by rw[hk];rfl⟩)) fh
  ·refine⟨k,rfl, ?_⟩
   rw[hk]at eM;simpa using eM
  exact absurd (.inr (.inr ⟨rfl,by rw[hk];simp⟩)) fh
 refine UY func43 rfl ntmps43 rfl ?_;rintro F ⟨hr,hd⟩;refine aw ?_;refine Lp (oB λb1=> ?_);refine Lp (oA o0 λb2=> ?_);refine bd ?_;refine Li Mf ?_;refine Lp (oDv ?_);refine aw ?_;refine av ?_;refine Hh (H':= [SW z M,ag b1 42 (fI c ka kc da dc mv),ag b2 52 [Dm Dl 0,br,Dm Dj 0,a8 [],br]]) ?_;refine bn ?_;refine av ?_;refine eK (ι:=Bool) [10,9,11,12,13] (λb=>b=decide (1<=c.aC/\c.aC<=4)) (λb=> [(9, .bool b)]) (λb=> [SW z M,ag b1 42 (fI c ka kc da dc mv),ag b2 52 [Dm Dl 0,br,Dm Dj 0,a8 [],br]]) ?_ ?_
 ·refine gK ?_
  refine bq ?_;refine az rfl ?_ ?_
  ·intro fm
   replace fm:=aO fm;refine aw ?_;refine Me (decide (1<=c.aC/\c.aC<=4)) (rfl) (hs:=⟨(by refine congrArg (λq=>some (Value.bool q)) ?_;first|exact(Ac).symm|exact decide_eq_decide.2 (by omega)|exact(Ab).symm),trivial⟩)
  intro fm;replace fm:=aO fm;refine bc ?_;refine az rfl ?_ ?_
  ·intro fh
   replace fh:=aO fh;refine aw ?_;refine Me (decide (1<=c.aC/\c.aC<=4)) (rfl) (hs:=⟨(by refine congrArg (λq=>some (Value.bool q)) ?_;first|exact(Ac).symm|exact decide_eq_decide.2 (by omega)|exact(Ab).symm),trivial⟩)
  intro fh;replace fh:=aO fh;refine bc ?_;refine az rfl ?_ ?_
  ·intro eM
   replace eM:=aO eM;refine aw ?_;refine Me (decide (1<=c.aC/\c.aC<=4)) (rfl) (hs:=⟨(by refine congrArg (λq=>some (Value.bool q)) ?_;first|exact(Ac).symm|exact decide_eq_decide.2 (by omega)|exact(Ab).symm),trivial⟩)
  intro eM;replace eM:=aO eM;refine bq ?_;refine aD ?_;refine Me (decide (1<=c.aC/\c.aC<=4)) (rfl) (hs:=⟨(by refine congrArg (λq=>some (Value.bool q)) ?_;first|exact(Ac).symm|exact decide_eq_decide.2 (by omega)|exact(Ab).symm),trivial⟩)
 rintro b hI;subst hI;by_cases h4:1<=c.aC/\c.aC<=4
 ·rw[if_pos h4]at jE
  rw[jE];refine fe ?_ (e:=by exact decide_eq_true h4);refine bq ?_;refine Lp (oC Aa rfl rfl (Zg z M c ka kc da dc mv mS uz DG hw hex vD) (.cons .here .nil) (λ_ le _=>hr.mono le) ?_);rintro v H' ⟨a,N,ea,ec,l,hg,hl,rfl,rfl⟩;refine bR ?_;refine Lp (jh ez ?_ (h1:=by simp[gB,Value.oneCell',a8]));refine bc ?_;refine RrC (e:=52) [own ea ec 56 9 (jH l),jG l,SW z N] ez results43 (Eu b2 _) (.cons (.t4 .here) .nil) Di ?_;rintro v Hx ⟨rfl,rfl⟩;exact⟨_,_,_, .here,rfl,rfl,⟨ea,ec,l,by rw[hg];exact hl,by rw[hg];rfl,by rw[hg]⟩,Eh⟩
 rw[if_neg h4]at jE;refine cN ?_ (e:=by exact decide_eq_false h4);refine av ?_;refine eK (ι:=Bool) [18,17,19] (λb=>b=decide (c.aC=12\/c.aC=13)) (λb=> [(17, .bool b)]) (λb=> [SW z M,ag b1 42 (fI c ka kc da dc mv),ag b2 52 [Dm Dl 0,br,Dm Dj 0,a8 [],br]]) ?_ ?_
 ·refine gK ?_
  refine bq ?_;refine az rfl ?_ ?_
  ·intro fm
   replace fm:=aO fm;refine aw ?_;refine Me (decide (c.aC=12\/c.aC=13)) (rfl) (hs:=⟨(by refine congrArg (λq=>some (Value.bool q)) ?_;first|exact(Ac).symm|exact decide_eq_decide.2 (by omega)|exact(Ab).symm),trivial⟩)
  intro fm;replace fm:=aO fm;refine bq ?_;refine aD ?_;refine Me (decide (c.aC=12\/c.aC=13)) (rfl) (hs:=⟨(by refine congrArg (λq=>some (Value.bool q)) ?_;first|exact(Ac).symm|exact decide_eq_decide.2 (by omega)|exact(Ab).symm),trivial⟩)
 rintro b hI;subst hI;by_cases DK:c.aC=12\/c.aC=13
 ·rw[if_pos DK]at jE
  obtain⟨k,uA,GJ⟩:=Jk (by omega) (by omega);rw[uA]at jE;change M.fC c=M.counts c k at jE;rw[jE];refine fe ?_ (e:=by exact decide_eq_true DK);refine bq ?_;refine Lp (PJ Aa rfl rfl (OC z M c ka kc da dc mv mS k [] uA GJ (by rw[hw];decide) PT hh fA wI rR (by rw[uA]at vD;exact agq (ajX _ _) vD)) (.cons .here .nil) (λ_ le _=>hr.mono le) (by rintro v H' ⟨a,N,hm,rfl,rfl⟩;refine Hh (H':= [ag b2 52 [Dm Dl 0,br,Dm Dj 0,a8 [],br],SW z N]) ?_;rw[hm];exact tJ (z:=z) (r:=(a,N)) (R:= []) (c0:=Dm Dl 0) (c1:=br) (c2:=Dm Dj 0) (c3:=a8 []) (c4:=br) results43 (wo hm)) ?_);rintro v H' ⟨a,N,hm,rfl,rfl⟩;refine bR ?_;refine Lp (jh ez ?_ (h1:=by simp[gB,Value.oneCell',a8,br]));refine bc ?_;refine Hh (H':= [ag b2 52 (gB a.kind br a.num a.wM),SW z N]) ?_;rw[hm];exact kx (z:=z) (r:=(a,N)) (R:= []) results43 (wo hm)
 rw[if_neg DK]at jE;refine cN ?_ (e:=by exact decide_eq_false DK);refine bc ?_;by_cases v14:c.aC=14
 ·rw[if_pos v14]at jE
  obtain⟨k,uA,GJ⟩:=Jk (by omega) (by omega);rw[uA]at jE;change M.fC c=M.hJ k c.ex at jE;rw[jE];refine fe ?_ (e:=by exact decide_eq_true v14);refine bq ?_;refine Lp (PJ Aa rfl rfl (H4 z M c ka kc da dc mv mS k [] uA (by have:=(gn GJ).2;omega) (by rw[hw];decide) hex (by rw[uA]at vD;exact agq (ajX _ _) vD)) (.cons .here .nil) (λ_ le _=>hr.mono le) (by rintro v H' ⟨a,N,hm,rfl,rfl⟩;refine Hh (H':= [ag b2 52 [Dm Dl 0,br,Dm Dj 0,a8 [],br],SW z N]) ?_;rw[hm];exact tJ (z:=z) (r:=(a,N)) (R:= []) (c0:=Dm Dl 0) (c1:=br) (c2:=Dm Dj 0) (c3:=a8 []) (c4:=br) results43 (ud hm)) ?_);rintro v H' ⟨a,N,hm,rfl,rfl⟩;refine bR ?_;refine Lp (jh ez ?_ (h1:=by simp[gB,Value.oneCell',a8,br]));refine bc ?_;refine Hh (H':= [ag b2 52 (gB a.kind br a.num a.wM),SW z N]) ?_;rw[hm];exact kx (z:=z) (r:=(a,N)) (R:= []) results43 (ud hm)
 rw[if_neg v14]at jE;refine cN ?_ (e:=by exact decide_eq_false v14);refine bc ?_;by_cases v11:c.aC=11
 ·rw[if_pos v11]at jE
  obtain⟨k,uA,GJ⟩:=Jk (by omega) (by omega);rw[uA]at jE;change M.fC c=M.delete k at jE;rw[jE];refine fe ?_ (e:=by exact decide_eq_true v11);refine bq ?_;refine Lp (PJ Aa rfl rfl (yL z M c ka kc da dc mv mS k [] uA (by have:=(gn GJ).2;omega) (by rw[hw];decide)) (.cons .here .nil) (λ_ le _=>hr.mono le) (by rintro v H' ⟨N,hm,rfl,rfl⟩;refine Hh (H':= [ag b2 52 [Dm Dl 0,br,Dm Dj 0,a8 [],br],SW z N]) ?_;have hdd:M.delete k=(.k 4,N):=(by unfold Mo.delete;rw[hm]);rw[hdd];exact tJ (z:=z) (r:=(.k 4,N)) (R:= []) (c0:=Dm Dl 0) (c1:=br) (c2:=Dm Dj 0) (c3:=a8 []) (c4:=br) results43 rfl) ?_);rintro v H' ⟨p,N,hm,rfl,rfl⟩;refine bR ?_;obtain⟨m1,m2,m3⟩:=ns hm;have hN:N.has p:=by rw[m3];exact m1
  have hC:M.C=N.C:=by rw[m3];rfl
  have hdd:M.delete k=(.k 5,N.bw p):=by unfold Mo.delete;rw[hm]
  rw[hdd,hC];refine bn ?_;refine zl Aa (uY z N p hN) (.cons .here .nil) Di ?_;refine bq ?_;refine Lp (jh ez ?_ (h1:=by simp[cL,Value.cells,Value.oneCell',a8,br]));refine bc ?_;refine Hh (H':= [ag b2 52 (gB 5 br 0 []),SW z (N.bw p)]) ?_;exact kx (z:=z) (r:=(⟨5,[],0,[]⟩,(N.bw p))) (R:= []) results43 rfl rfl
 rw[if_neg v11]at jE;refine cN ?_ (e:=by exact decide_eq_false v11);refine bc ?_;by_cases v15:c.aC=15
 ·rw[if_pos v15]at jE
  rw[jE];refine fe ?_ (e:=by exact decide_eq_true v15);refine av ?_;refine iU 11 mix (.cons .here (.cons .here .nil)) λF1 jD bV aI=> ?_;obtain⟨q1,q2,_⟩:=bV;refine bc ?_
  first
   |refine Ti (Lf sU) ?_
   |refine Ti (Bw sU q1) ?_
  refine aw ?_
  first
   |refine Ti (Lf bj) ?_
   |refine Ti (Bw bj q1) ?_
  refine bq ?_
  first
   |refine Ti (Lf rB) ?_
   |refine Ti (Bw rB q1) ?_
  refine gI aI ?_;refine Tp (oZ (Aa (n:=74)) (Ib z M c.ex (by omega) hex) (.cons .here .nil) Di ?_);refine bK ?_;refine zl Aa (Ig z {M with k:=M.k.flush c.ex M.v.aQ}) (.cons .here .nil) Di ?_;refine bq ?_;refine Lp (jh ez ?_ (h1:=by simp[cL,Value.cells,Value.oneCell',a8,br]));refine bc ?_;refine Hh (H':= [ag b2 52 (gB 8 br 0 []),SW z {M with k:=M.k.flush c.ex M.v.aQ,x:=M.x.again}]) ?_;exact kx (z:=z) (r:=(⟨8,[],0,[]⟩,{M with k:=M.k.flush c.ex M.v.aQ,x:=M.x.again})) (R:= []) results43 rfl rfl
 rw[if_neg v15]at jE;refine cN ?_ (e:=by exact decide_eq_false v15);refine bc ?_;by_cases v16:c.aC=16
 ·rw[if_pos v16]at jE
  rw[jE];refine fe ?_ (e:=by exact decide_eq_true v16);refine bd ?_;refine Lp (jh ez ?_ (h1:=by simp[cL,Value.cells,Value.oneCell',a8,br]));refine bc ?_;refine Hh (H':= [ag b2 52 (gB 10 br 0 wS),SW z M]) ?_;exact kx (z:=z) (r:=(⟨10,[],0,wS⟩,M)) (R:= []) results43 rfl rfl
 rw[if_neg v16]at jE;refine cN ?_ (e:=by exact decide_eq_false v16);refine bc ?_;by_cases v17:c.aC=17
 ·rw[if_pos v17]at jE
  rw[jE];refine fe ?_ (e:=by exact decide_eq_true v17);refine bd ?_;refine Lp (jh ez ?_ (h1:=by simp[cL,Value.cells,Value.oneCell',a8,br]));refine bc ?_;refine Hh (H':= [ag b2 52 (gB 8 br 0 []),SW z M]) ?_;exact kx (z:=z) (r:=(⟨8,[],0,[]⟩,M)) (R:= []) results43 rfl rfl
 rw[if_neg v17]at jE;refine cN ?_ (e:=by exact decide_eq_false v17);refine bc ?_;by_cases v18:c.aC=18
 ·rw[if_pos v18]at jE
  rw[jE];refine fe ?_ (e:=by exact decide_eq_true v18);refine bd ?_;refine Lp (jh ez ?_ (h1:=by simp[cL,Value.cells,Value.oneCell',a8,br]));refine bc ?_;refine Hh (H':= [ag b2 52 (gB 12 br 0 []),SW z M]) ?_;exact kx (z:=z) (r:=(⟨12,[],0,[]⟩,M)) (R:= []) results43 rfl rfl
 rw[if_neg v18]at jE;refine cN ?_ (e:=by exact decide_eq_false v18);refine bs ?_;obtain⟨k,uA,GJ⟩:=Jk (by omega) (by omega);rw[uA]at jE;change M.fC c=M.dx c k at jE;rw[jE];refine Lp (PJ Aa rfl rfl (Mc z M c ka kc da dc mv mS k [] uA GJ (by rw[hw];decide) hex (by have:¬_:=dm;omega) hda hh fA wI rR (by rw[uA]at vD;exact agq (ajX _ _) vD)) (.cons .here .nil) (λ_ le _=>⟨hr.mono le,hd.mono le⟩) (by rintro v H' ⟨a,N,hm,rfl,rfl⟩;refine Hh (H':= [ag b2 52 [Dm Dl 0,br,Dm Dj 0,a8 [],br],SW z N]) ?_;rw[hm];exact tJ (z:=z) (r:=(a,N)) (R:= []) (c0:=Dm Dl 0) (c1:=br) (c2:=Dm Dj 0) (c3:=a8 []) (c4:=br) results43 (vZ hm)) ?_);rintro v H' ⟨a,N,hm,rfl,rfl⟩;refine bR ?_;refine Lp (jh ez ?_ (h1:=by simp[gB,Value.oneCell',a8,br]));refine bd ?_;refine Hh (H':= [ag b2 52 (gB a.kind br a.num a.wM),SW z N]) ?_;rw[hm];exact kx (z:=z) (r:=(a,N)) (R:= []) results43 (vZ hm)
end Go.Proofs.YtcbcjolpdljbiaaGreat
namespace Go.dC
open Go
class abt (A:aa)(b i:Nat)(vs:FJ)(A':outParam aa):Prop where
 cut:∀h,A h->∃e cs R,i+vs.length<=cs.length/\ai (ag b e cs::R) h/\∀k,ai (ag b e (cL cs i vs)::R) k->A' k
section
variable {P:Program} {n:Nat} {ds:Dq} {F:dG} {Q:Exit->F9} {K:F9} {σ:aP} {H:F8} {o:Oper} {d:Nat}
theorem ahq{t k:TypeId}{x y:Operand}{A A':aa}{R:F8}{b:Nat}{vs:FJ}(i:Nat)(hs:cP P t=some k)(h:G n ds F K σ (A'::R))(ho:o.op= .store t x y:=by exact rfl)(hd:o.dst=none:=by exact rfl)
  (hx:bo σ x=some (.pointer (some ⟨b,i,none⟩)):=by exact rfl) (hy:bo σ y=some (.agg vs.toArray):=by exact rfl) (hk:vs.length=k:=by exact rfl) (c:abt A b i vs A':=by infer_instance) (h1:∀v∈vs,v.oneCell'=true:=by simp[cL,Value.cells,Value.oneCell',a8]):G n ds F (λa w=>o.wp P a w K Q) σ (A::R):=
 .mk λa w en s=>by
  obtain⟨a1,a2,a3,fr,hh,st,l,dj⟩:=s;obtain⟨k1,k2,d12,l1,l2,ha,sr⟩:=st;obtain⟨e,cs,R0,hi,s1,back⟩:=c.cut k1 ha;have s2:ai (ag b e cs::(R0++R)) hh:=qK (A:=A) (B:=A) d12 l1 l2 s1 sr;refine(vf hs ho hd hx hy hk h1 .here hi (au (λk sk=> ?_) h)) a w en ⟨a1,a2,a3,fr,hh,s2,l,dj⟩;obtain⟨m1,m2,d',n1,n2,t1,t2⟩:=bh (A:=ag b e (cL cs i vs)::R0) sk;exact⟨m1,m2,d',n1,n2,back m1 t1,t2⟩
theorem Fga{s f k sz:Nat}{e:TypeId}{x:Operand}{cs vs:FJ}(hk:BH P s f=some (k,e))(he:cP P e=some sz)(ho:o.op= .field s x f:=by exact rfl)(hx:bo σ x=some (.agg cs.toArray):=by exact rfl)(hv:(cs.drop k).take sz=vs:=by exact rfl):Yv P n ds F σ o (.agg vs.toArray):=λa w en fr=>by
 obtain⟨h1,h2⟩:=fE (w:=w) he;unfold BH at hk;cases hu:P.underlying s with
 |none=>simp[hu]at hk
 |some d=>
  cases d<;>simp[hu]at hk;rename_i fs;obtain⟨y,hf,e1,e2⟩:=hk;subst e1;subst e2;have e:cs.toArray.extract y.offset (y.offset+sz)=vs.toArray:=by
   rw[<-hv];simp[List.take_drop]
  simp[execOp,ho,Instr.field,en.eval hx,run_underlying hu,hf,asAgg,part,h1,h2,e];exact hv
end
end Go.dC
namespace Go.Proofs.YtcbcjolpdljbiaaGreat
open Go Go.dC Go.Proofs.YtcbcjolpdljbiaaGreat.Cs
theorem VF:BH aaa 102 0=some (0,52):=by kernel_rfl
instance sw_mt0{z:Ly}{M:Mo}:abt (SW z M) z.s 21 [Dm Dl 0,Dm Dl 0,Dm Dl 0,Dm Dl 0,Dm Dl 0,Dm Dl 0,Dm Dl 0] (SW z (M.aN .zero)):=⟨λh s=>by
 obtain⟨w,s⟩:=s;obtain⟨B,O,t⟩:=tM s;refine⟨_,_,Wx z B (M.aK w.1 w.2),(by simp[iT,fg]),t,λk sk=>⟨w,B,O.aN .zero, ?_⟩⟩;rw[show cL (iT z.y (fg (M.aK w.1 w.2).v)) 21 [Dm Dl 0,Dm Dl 0,Dm Dl 0,Dm Dl 0,Dm Dl 0,Dm Dl 0,Dm Dl 0]=iT z.y (fg ((M.aK w.1 w.2).aN .zero).v)from rfl]at sk;exact(xq z B ((M.aK w.1 w.2).aN .zero)).back _ sk⟩
def Mo.vI (M:Mo):Mo:={M with jZ:= []}
theorem bH.vI{B:Bx}{M:Mo}(O:bH B M):bH B (M.vI.aK none 0):=
 ⟨O.c,O.k,O.t,O.ty,O.o,O.x,O.mq,O.ck,O.al,O.lv,O.ho,O.it,O.e,O.st,O.nb,O.mg,O.mo,O.bt,O.un,O.on,O.go,rfl,O.cf,O.n,O.lg⟩
instance sw_why{z:Ly}{M:Mo}:rV (SW z M) z.s 28 (.slice none 0 0) (SW z M.vI):=⟨λh s=>by
 obtain⟨w,s⟩:=s;obtain⟨B,O,t⟩:=tM s;refine⟨_,_,Wx z B (M.aK w.1 w.2),(by simp[iT,fg]),t,λk sk=>⟨(none,0),B,O.vI, ?_⟩⟩;rw[show(iT z.y (fg (M.aK w.1 w.2).v)).set 28 (.slice none 0 0)=iT z.y (fg (M.vI.aK none 0).v)from rfl]at sk;refine(xq z B (M.vI.aK none 0)).back _ ?_;have s2:=rH 3 1 sk
 clear sk
 revert s2
 revert k
 unfold Wx;simp only[jJ];rw[show aY (M.vI.aK none 0).jZ= []from rfl];exact Eh⟩
def Mo.reset (M:Mo):Mo:=(M.aN .zero).vI
theorem q9.bI{M:Mo}(K:q9 M)(w:Nat):q9 (M.bI w):=⟨K.k,K.nd,K.lv,K.on⟩
structure Kd (M N:Mo)(t:Nat):Prop where
 ho:N.hole=M.hole
 st:N.m.st=M.m.st
 p:N.v.p=M.v.p
 c:N.v.c=M.v.c
 aQ:N.v.aQ<=M.v.aQ+1
 tn:N.tn<=M.tn+t
theorem Kd.le{M N:Mo}{s t:Nat}(h:Kd M N s)(e:s<=t):Kd M N t:=⟨h.ho,h.st,h.p,h.c,h.aQ,Nat.le_trans h.tn (Nat.add_le_add_left e _)⟩
theorem Kd.rf{M N:Mo}(ho:N.hole=M.hole)(st:N.m.st=M.m.st)(p:N.v.p=M.v.p)(c:N.v.c=M.v.c)(i:N.v.aQ=M.v.aQ)(t:N.tn=M.tn):Kd M N 0:=⟨ho,st,p,c,by omega,by omega⟩
theorem xa (M:Mo)(k:FI):(M.meet k).2.hole=M.hole/\(M.meet k).2.m=M.m/\(M.meet k).2.v.p=M.v.p/\(M.meet k).2.v.c=M.v.c/\(M.meet k).2.v.aQ=M.v.aQ/\(M.meet k).2.tn=M.tn:=by
 unfold Mo.meet;cases M.find k with
 |none=>exact⟨rfl,rfl,rfl,rfl,rfl,rfl⟩
 |some p=>
  dsimp only;split<;>exact⟨rfl,rfl,rfl,rfl,rfl,rfl⟩
theorem q9.meet{M N:Mo}(K:q9 M){k:FI}{o:FK}(h:M.meet k=(o,N)):q9 N:=by
 unfold Mo.meet at h;cases hf:M.find k with
 |none=>rw[hf]at h;simp only[Prod.mk.injEq]at h;rw[<-h.2];exact K.bI 1
 |some p=>
  rw[hf]at h;dsimp only at h;split at h
  ·simp only[Prod.mk.injEq]at h
   rw[<-h.2];exact((K.bI _).bw (nw hf).1).1
  simp only[Prod.mk.injEq]at h;rw[<-h.2];exact K.bI 0
theorem Zh (iE:Bool)(ex:Int)(s:List I3×Mo)(k:FI):(Mo.kf iE ex s k).2.hole=s.2.hole/\(Mo.kf iE ex s k).2.m=s.2.m/\(Mo.kf iE ex s k).2.v.p=s.2.v.p/\(Mo.kf iE ex s k).2.v.c=s.2.v.c/\(Mo.kf iE ex s k).2.v.aQ=s.2.v.aQ/\(Mo.kf iE ex s k).2.tn<=s.2.tn+1:=by
 obtain⟨h1,h2,h3,h4,h5,h6⟩:=xa s.2 k;unfold Mo.kf;rcases hm:s.2.meet k with⟨_|p,N⟩<;>rw[hm]at h1 h2 h3 h4 h5 h6
 ·exact⟨h1,h2,h3,h4,h5,by dsimp only at*;omega⟩
 dsimp only at*;cases iE
 ·exact⟨h1,h2,h3,h4,h5,by show N.tn<=_;omega⟩
 refine⟨h1,h2,h3,h4,h5, ?_⟩;have:=CB N p (dq N.k.now ex);show(N.time p _).tn<=_;omega
theorem Kt (iE:Bool)(ex:Int):∀(l:List FI) (s:List I3×Mo),(l.foldl (Mo.kf iE ex) s).2.hole=s.2.hole/\(l.foldl (Mo.kf iE ex) s).2.m=s.2.m/\(l.foldl (Mo.kf iE ex) s).2.v.p=s.2.v.p/\(l.foldl (Mo.kf iE ex) s).2.v.c=s.2.v.c/\(l.foldl (Mo.kf iE ex) s).2.v.aQ=s.2.v.aQ/\(l.foldl (Mo.kf iE ex) s).2.tn<=s.2.tn+l.length
 | [],s=>⟨rfl,rfl,rfl,rfl,rfl,aam _⟩
 |k::l,s=>by
  obtain⟨a1,a2,a3,a4,a5,a6⟩:=Zh iE ex s k;obtain⟨b1,b2,b3,b4,b5,b6⟩:=Kt iE ex l (Mo.kf iE ex s k);rw[List.foldl_cons,abU];exact⟨b1.trans a1,b2.trans a2,b3.trans a3,b4.trans a4,b5.trans a5,by omega⟩
theorem Y0{M:Mo}{r:Nat}{old:FK}{n:I3}:(M.dE r old n).hole=none/\(M.dE r old n).m=M.m/\(M.dE r old n).v.p=M.v.p/\(M.dE r old n).v.c=M.v.c/\(M.dE r old n).v.aQ=M.v.aQ+1/\(M.dE r old n).tn<=M.tn+1:=by
 cases old<;>refine⟨rfl,rfl,rfl,rfl,rfl, ?_⟩
 ·show(if 0<n.exp then M.tn+1 else M.tn)<=_
  split<;>omega
 show(if 0<n.exp then M.tn+1 else M.tn)<=_;split<;>omega
theorem JW (M:Mo)(old:FK)(ov:Bool):Kd M (M.over old ov) 0:=by
 unfold Mo.over;cases old with
 |none=>exact .rf rfl rfl rfl rfl rfl rfl
 |some p=>dsimp only;split<;>exact .rf rfl rfl rfl rfl rfl rfl
theorem Kd.ig{M N:Mo}{own:FK}(s:Jb M N own)(h:N.hole=M.hole):Kd M N 0:= .rf h s.st s.p s.c s.aQ s.tn
theorem Kd.tr{M N O:Mo}{s t:Nat}(a:Kd M N s)(i:N.v.aQ=M.v.aQ)(b:Kd N O t):Kd M O (s+t):=⟨b.ho.trans a.ho,b.st.trans a.st,b.p.trans a.p,b.c.trans a.c,by have:=b.aQ;omega,by have:=a.tn;have:=b.tn;omega⟩
theorem JL{M:Mo}(K:q9 M)(hh:M.hole=none)(n:Nat)(own old:FK)(ov:Bool)(X:Mo->Nat->I3)(a:hG)(b:hG):Kd M (match M.room n own with|(none,R)=>(a,R.over old ov)|(some r,R)=>(b,R.dE r old (X R r))).2 1:=by
 have R:=wX K (n:=n) (own:=own) (o:=(M.room n own).1) (N:=(M.room n own).2) rfl;rcases hr:M.room n own with⟨_|r,N⟩<;>rw[hr]at R
 ·exact((Kd.ig R.s (R.no rfl)).tr R.s.aQ (JW N old ov)).le (by omega)
 obtain⟨l1,l2,l3,l4,l5,l6⟩:=Y0 (M:=N) (r:=r) (old:=old) (n:=X N r);exact⟨l1.trans hh.symm,by rw[l2];exact R.s.st,l3.trans R.s.p,l4.trans R.s.c,(by show(N.dE r old (X N r)).v.aQ<=_;rw[l5,R.s.aQ];omega),(by have h9:N.tn=M.tn:=R.s.tn;show(N.dE r old (X N r)).tn<=_;omega)⟩
theorem De{M:Mo}(K:q9 M)(hh:M.hole=none)(c:fi):Kd M (M.fC c).2 (max c.keys.length 1):=by
 have mk:=λk=>xa M k;have K1:∀k o N,M.meet k=(o,N)->q9 N/\N.hole=none/\Kd M N 0/\N.v.aQ=M.v.aQ:=λk o N h=>by
  obtain⟨h1,h2,h3,h4,h5,h6⟩:=mk k;rw[h]at h1 h2 h3 h4 h5 h6;exact⟨K.meet h,h1.trans hh, .rf h1 (congrArg gp.st h2) h3 h4 h5 h6,h5⟩
 unfold Mo.fC;split
 ·obtain⟨g1,g2,g3,g4,g5,g6⟩:=Kt (decide (c.aC=3\/c.aC=4)) c.ex c.keys ([],M)
  exact⟨g1,congrArg gp.st g2,g3,g4,by have:=g5;show _<=_;unfold Mo.xK;dsimp only at*;omega,by unfold Mo.xK;dsimp only at*;omega⟩
 split
 ·unfold Mo.counts
  rcases hm:M.meet (c.keys.headD [])with⟨_|p,N⟩<;>obtain⟨k1,k2,k3,k4⟩:=K1 _ _ _ hm
  ·exact k3.le (by omega)
  dsimp only;split
  ·exact k3.le (by omega)
  next n _=>
  unfold Mo.r8;split
  ·exact(k3.tr k4 (⟨rfl,rfl,rfl,rfl,(by show N.v.aQ+1<=_;exact aam _),aam _⟩:Kd N ((((N.py p (dH (pA c n))).rj (N.v.aQ+1)).tok p (N.v.aQ+1)).marks p 0|>.lq p) 0)).le (by omega)
  split
  ·exact k3.le (by omega)
  have:=JL k1 k2 (58+(N.it p).key.length+(dH (pA c n)).length) (some p) (some p) false (λR r=>⟨(N.it p).key,dH (pA c n),(N.it p).fl,(N.it p).exp,R.k.now,R.v.aQ+1,0⟩) (.t jt) ⟨7,[],pA c n,[]⟩;refine Kd.le (k3.tr k4 (t:=1) ?_) (by omega)
  revert this
  generalize N.room (58+(N.it p).key.length+(dH (pA c n)).length) (some p)=o;rcases o with⟨_|r,R⟩
  ·exact λh=>h
  exact λh=>h
 split
 ·unfold Mo.hJ
  rcases hm:M.meet (c.keys.headD [])with⟨_|p,N⟩<;>obtain⟨k1,k2,k3,k4⟩:=K1 _ _ _ hm
  ·exact k3.le (by omega)
  exact(k3.tr k4 (⟨rfl,rfl,rfl,rfl,Nat.le_succ _,CB N p _⟩:Kd N ((N.time p (dq N.k.now c.ex)).lq p) 1)).le (by omega)
 split
 ·unfold Mo.delete
  rcases hm:M.meet (c.keys.headD [])with⟨_|p,N⟩<;>obtain⟨k1,k2,k3,k4⟩:=K1 _ _ _ hm
  ·exact k3.le (by omega)
  exact(k3.tr k4 (Kd.rf rfl rfl rfl rfl rfl rfl:Kd N (N.bw p) 0)).le (by omega)
 split
 ·exact(Kd.rf (M:=M) (N:={M with k:=M.k.flush c.ex M.v.aQ,x:=M.x.again}) rfl rfl rfl rfl rfl rfl).le (by omega)
 split
 ·exact(Kd.rf (N:=M) rfl rfl rfl rfl rfl rfl).le (by omega)
 split
 ·exact(Kd.rf (N:=M) rfl rfl rfl rfl rfl rfl).le (by omega)
 split
 ·exact(Kd.rf (N:=M) rfl rfl rfl rfl rfl rfl).le (by omega)
 unfold Mo.dx;rcases hm:M.meet (c.keys.headD [])with⟨o,N⟩
 obtain⟨k1,k2,k3,k4⟩:=K1 _ _ _ hm;refine Kd.le (k3.tr k4 (t:=1) ?_) (by omega);dsimp only;unfold Mo.jc;split
 ·exact(JW _ _ _).le (by omega)
 split
 ·exact(Kd.rf (N:=N) rfl rfl rfl rfl rfl rfl).le (by omega)
 split
 ·exact(Kd.rf (N:=N) rfl rfl rfl rfl rfl rfl).le (by omega)
 next x _=>
 unfold Mo.lays;exact JL k1 k2 (58+(c.keys.headD []).length+x.1.length) o o (Gp c.aC) (λR r=>⟨c.keys.headD [],x.1,x.2.1,x.2.2,R.k.now,R.v.aQ+1,0⟩) (.t jt) (.k 1)
end Go.Proofs.YtcbcjolpdljbiaaGreat
namespace Go.Proofs.YtcbcjolpdljbiaaGreat
open Go Go.dC Go.Proofs.YtcbcjolpdljbiaaGreat.Cs
def BM:FI:= [98,97,100,32,99,111,109,109,97,110,100]
noncomputable def Mo.dO (hot warm:Nat)(M:Mo)(c:fi):hG×Mo:=
 if xM c=true then(.t BM,M.reset)
 else if bW c.aC=0 then((M.reset.fC c).1,(M.reset.fC c).2.beside)
 else((M.reset.fC c).1,c.keys.foldl (Mo.behind hot warm) (M.reset.fC c).2)
structure Bk (M N:Mo)(t:Nat):Prop where
 h:M.hole=none->N.hole=none
 st:N.m.st<=M.m.st+t
 p:N.v.p=M.v.p
 c:N.v.c=M.v.c
 aQ:N.v.aQ=M.v.aQ
 tn:N.tn=M.tn
theorem Bk.refl (M:Mo):Bk M M 0:=⟨id,aam _,rfl,rfl,rfl,rfl⟩
theorem Bk.trans{M N O:Mo}{s t:Nat}(a:Bk M N s)(b:Bk N O t):Bk M O (s+t):=⟨λh=>b.h (a.h h),by have:=a.st;have:=b.st;omega,b.p.trans a.p,b.c.trans a.c,b.aQ.trans a.aQ,b.tn.trans a.tn⟩
theorem nJ (M:Mo):Bk M M.beside 1:=by
 obtain⟨a1,a2,a3,a4,a5,a6,a7⟩:=tY M.cy M.cy.k.now M.cy.v.p.c;obtain⟨b1,b2⟩:=ic M.cy.gA M.cy.gA.v.p.m;have h1:Bk M M.cy 0:=⟨id,aam _,rfl,rfl,rfl,rfl⟩;have h2:Bk M.cy M.cy.gA 0:=⟨λh=>a1.trans h,by show(M.cy.cb _ _).2.m.st<=_;rw[a2];exact aam _,a3,a5,a6,a7⟩;have h3:Bk M.cy.gA M.cy.gA.kM 1:=⟨b1.h,b2,b1.p,b1.c,b1.aQ,b1.tn⟩;exact(h1.trans h2).trans h3
theorem jP (hot warm:Nat)(M:Mo)(k:FI):Bk M (M.behind hot warm k) 1:=by
 have h:Bk M (M.lE hot warm k) 0:=by
  unfold Mo.lE;split
  ·exact .refl M
  exact⟨id,aam _,rfl,rfl,rfl,rfl⟩
 have:=h.trans (nJ (M.lE hot warm k))
 rwa[abH]at this
theorem oP (hot warm:Nat):∀(l:List FI) (M:Mo),Bk M (l.foldl (Mo.behind hot warm) M) l.length
 | [],M=> .refl M
 |k::l,M=>by
  have:=(jP hot warm M k).trans (oP hot warm l (M.behind hot warm k));rw[Nat.add_comm]at this;exact this
theorem abi (wN:pT)(z:Ly)(OV:z.hot<=100)(OU:z.warm<=100)(M:Mo)(c:fi)(ka:FL)(kc:Nat)(da:FL)(dc:Nat)(mv:Value)(mS:mv.oneCell'=true)(DG:c.keys.length<1073741824)(uz:∀k∈c.keys,k.length<281474976710656)(hex:c.ex<9223372036854775808)(hda:c.data.length<281474976710656)(PT:c.dl<18446744073709551616)
  (hh:M.hole=none) (fA:M.m.st+c.keys.length<4611686018427387904) (PN:xO M.v.p) (wI:M.v.c.lim<=1048576) (rR:M.v.aQ+1<18446744073709551616) (vD:M.tn+c.keys.length<18446744073709551615):
  aG aaa 11 [Dk z.s, .agg (fI c ka kc da dc mv).toArray] (λh=>gF h ka (mV c.keys)/\gF h da (aj c.data)) [SW z M] (Qb z (M.dO z.hot z.warm c)):=by
 refine af func11 rfl ntmps11 rfl ?_;rintro F ⟨hr,hd⟩;refine aw ?_;refine Lp (oB λb1=> ?_);refine Lp (oA o0 λb2=> ?_);refine aw ?_;refine Hh (H':= [SW z M,ag b1 42 (fI c ka kc da dc mv),ag b2 52 [Dm Dl 0,br,Dm Dj 0,a8 [],br]]) ?_;refine bs ?_;refine Lp (ahq 21 Eo ?_);refine bd ?_;refine Lp (oSc (i:=28) Qq ?_);change G _ _ _ _ _ [SW z M.reset,ag b1 42 (fI c ka kc da dc mv),ag b2 52 [Dm Dl 0,br,Dm Dj 0,a8 [],br]];refine bc ?_;refine zl Aa (afK c ka kc da dc mv mS (by omega) uz) .nil (λ_ le _=>hr.mono le) ?_;rcases hb:xM c with _|_
 ·have jE:M.dO z.hot z.warm c=if bW c.aC=0 then((M.reset.fC c).1,(M.reset.fC c).2.beside)else((M.reset.fC c).1,c.keys.foldl (Mo.behind z.hot z.warm) (M.reset.fC c).2):=by unfold Mo.dO;rw[hb,if_neg (by decide)]
  refine pQ λwa wc B O=> ?_;have KD:=De (M:=M.reset) ⟨O.mc0,O.We.nd,O.We.lv,O.We.on⟩ hh c;refine bK ?_;refine Lp (oC Aa rfl rfl (acS z M.reset c ka kc da dc mv mS hb DG uz rfl hex hda PT hh (by show M.m.st<_;omega) wI rR vD) (.cons .here .nil) (λ_ le _=>⟨hr.mono le,hd.mono le⟩) ?_);rintro v H' ⟨ea,ec,l,hl,rfl,rfl⟩;refine bR ?_;generalize hR:M.reset.fC c=r at*;obtain⟨a,N⟩:=r;dsimp only at KD hl jE⊢;have hN0:N.hole=none:=KD.ho.trans hh;have hNs:N.m.st+c.keys.length<4611686018427387904:=by have:=KD.st;change N.m.st=M.m.st at this;omega
  have hNp:xO N.v.p:=by have:=KD.p;change N.v.p=M.v.p at this;rw[this];exact PN
  refine Lp (oA o0 λb3=> ?_);refine Lp (jh ez ?_ (h1:=by simp[gB,Value.oneCell',a8,br]));refine bn ?_;refine zl Aa (Es c.aC) .nil Di ?_;by_cases h0:bW c.aC=0
  ·rw[if_pos h0]at jE
   refine bd ?_;refine fe ?_ (e:=by exact decide_eq_true h0);refine bd ?_;refine zl Aa (vY wN z N hN0 (by omega) hNp) (.cons (.t3 .here) .nil) Di ?_;refine bq ?_;refine Lp (jh ez ?_ (h1:=by simp[gB,Value.oneCell',a8,br]));refine bq ?_;refine Jc [own ea ec 56 9 (jH l),jG l,SW z N.beside] ez results11 ?_;exact⟨ea,ec,l,by rw[jE];exact hl,by rw[jE];rfl,by rw[jE]⟩
  rw[if_neg h0]at jE;refine bd ?_;refine cN ?_ (e:=by exact decide_eq_false h0);refine bB ?_;refine Lo (ι:=Nat×Mo) (FN [7,1,32,8]) (λs=>(s.1<=c.keys.length/\s.2=(c.keys.take s.1).foldl (Mo.behind z.hot z.warm) N)) (λs=> [(32,Dm Dl s.1)]) (λs=> [SW z s.2,ag b1 42 (fI c ka kc da dc mv),ag b2 52 [Dm Dl 0,br,Dm Dj 0,a8 [],br],ag b3 52 (gB a.kind (.slice ea l.length ec) a.num a.wM),own ea ec 56 9 (jH l),jG l]) (λs=>c.keys.length-s.1) ((0,N)) ⟨abL _,rfl⟩ ?_;rintro⟨i,X⟩ hI
  try dsimp only at hI⊢
  obtain⟨hi,hX⟩:=hI;by_cases cJ:i<c.keys.length
  ·have xA:=CF c.keys i cJ
   have hsm:ka.isSome=true:=by obtain⟨ad,e,_⟩:=hr i _ xA;rw[e];rfl
   have Gw:=uz _ (abC cJ);have Ld:X.behind z.hot z.warm c.keys[i]=(c.keys.take (i+1)).foldl (Mo.behind z.hot z.warm) N:=by rw[agK,aac cJ,aku,<-hX];rfl
   have bk:=oP z.hot z.warm (c.keys.take i) N;rw[<-hX]at bk;have WO:(c.keys.take i).length=i:=by rw[List.length_take];omega
   rw[WO]at bk;have bst:=bk.st;generalize c.keys[i]=k at*;refine bq ?_;refine av ?_;refine fe ?_;refine bn ?_;refine Li (Ix Al) ?_;refine bs ?_;refine zl Aa (Iw wN z X k Gw (bk.h hN0) (by omega) (by rw[bk.p];exact hNp) OV OU) (.cons .here .nil) Di ?_;refine bs ?_;refine aD ?_;refine Ro ((i+1,X.behind z.hot z.warm k)) (⟨cJ,Ld⟩) ((by dsimp only;omega))
  refine gK ?_;refine bd ?_;refine av ?_;refine cN ?_;refine bK ?_;refine Lp (jh ez ?_ (h1:=by simp[gB,Value.oneCell',a8,br]));refine bd ?_;obtain rfl:i=c.keys.length:=by omega
  rw[ajS]at hX;rw[<-hX]at jE;refine Jc [own ea ec 56 9 (jH l),jG l,SW z X] ez results11 ?_;exact⟨ea,ec,l,by rw[jE];exact hl,by rw[jE];rfl,by rw[jE]⟩
 have jE:M.dO z.hot z.warm c=(.t BM,M.reset):=by unfold Mo.dO;rw[hb,if_pos rfl]
 refine bq ?_;refine zl Aa (hZ BM) .nil Di ?_;unfold zZ gB br;refine Li (Fga VF ez) ?_;refine Lp (jh ez ?_ (h1:=by simp[gB,Value.oneCell',a8,br]));refine bq ?_;refine eT 56 9 ?_;refine tW ?_;refine Jc [own none 0 56 9 [],jG [],SW z M.reset] ez results11 ?_;exact⟨none,0,[],by rw[jE];rfl,by rw[jE];rfl,by rw[jE];rfl⟩
theorem H6 (z:Ly)(M:Mo)(c:Int):aG aaa 66 [Dk z.y.b,Dm Dl c] uT [SW z M] (λv H=>v=Dm Dl (ofM M.C c λi=>(M.C.rw i).ct:Nat)/\H= [SW z M]):=
 lT λwa wc B O=>by
  have h:=OI z.y.b B.C O.k c;have e:(ofM B.C c λi=>(B.C.rw i).ct)=ofM M.C c λi=>(M.C.rw i).ct:=by
   conv=>lhs;rw[O.c]
   rfl
  rw[e]at h;exact⟨_,h,λk k0 le h ak=>ak.nth 0 rfl⟩
theorem H8 (z:Ly)(M:Mo)(c:Int):aG aaa 65 [Dk z.y.b,Dm Dl c] uT [SW z M] (λv H=>v=Dm Dl (ofM M.C c λi=>(M.C.rw i).bA:Nat)/\H= [SW z M]):=
 lT λwa wc B O=>by
  have h:=Bl z.y.b B.C O.k c;have e:(ofM B.C c λi=>(B.C.rw i).bA)=ofM M.C c λi=>(M.C.rw i).bA:=by
   conv=>lhs;rw[O.c]
   rfl
  rw[e]at h;exact⟨_,h,λk k0 le h ak=>ak.nth 0 rfl⟩
theorem kZ (z:Ly)(M:Mo)(c:Int):aG aaa 26 [Dk z.s,Dm Dl c] uT [SW z M] (λv H=>v=Dm Dl (ofM M.C c λi=>(M.C.rw i).ct:Nat)/\H= [SW z M]):=by
 refine af func26 rfl ntmps26 rfl ?_;intro F _;refine bB ?_;refine zl Aa (H6 z M c) (.cons .here .nil) Di ?_;refine bq ?_;refine Rt [SW z M] results26 ?_;exact⟨rfl,rfl⟩
theorem qH (z:Ly)(M:Mo)(c:Int):aG aaa 25 [Dk z.s,Dm Dl c] uT [SW z M] (λv H=>v=Dm Dl (ofM M.C c λi=>(M.C.rw i).bA:Nat)/\H= [SW z M]):=by
 refine af func25 rfl ntmps25 rfl ?_;intro F _;refine bB ?_;refine zl Aa (H8 z M c) (.cons .here .nil) Di ?_;refine bq ?_;refine Rt [SW z M] results25 ?_;exact⟨rfl,rfl⟩
theorem XN (t b:Nat)(W:Tb)(y:pq):aG aaa 70 [Dk t] (In (ag t 154 (gE b W y))) [] (λv H=>v=Dm Dl W.n/\H= []):=by
 unfold gE;refine af func70 rfl ntmps70 rfl ?_;intro F h0;refine bP ?_;refine Rt [] results70 ?_;exact⟨rfl,rfl⟩
theorem TE (z:Ly)(M:Mo):aG aaa 70 [Dk z.y.t] uT [SW z M] (λv H=>v=Dm Dl M.n/\H= [SW z M]):=
 lT λwa wc B O=>by
  have h:=XN z.y.t z.y.b B.W B.ty;rw[show B.W.n=M.n from O.n]at h;exact⟨_,h,λk k0 le h ak=>ak.nth 1 rfl⟩
theorem XA (z:Ly)(M:Mo):aG aaa 31 [Dk z.s] uT [SW z M] (λv H=>v=Dm Dl M.n/\H= [SW z M]):=by
 refine af func31 rfl ntmps31 rfl ?_;intro F _;refine cA ?_;refine zl Aa (TE z M) (.cons .here .nil) Di ?_;refine bq ?_;refine Rt [SW z M] results31 ?_;exact⟨rfl,rfl⟩
def mtC (t:Mt):FJ:= [Dm Dl t.dr,Dm Dl t.re,Dm Dl t.bu,Dm Dl t.li,Dm Dl t.lo,Dm Dl t.cr,Dm Dl t.mv]
theorem LN (z:Ly)(M:Mo):aG aaa 16 [Dk z.s] uT [SW z M] (λv H=>v= .agg (mtC M.v.mt).toArray/\H= [SW z M]):=by
 refine af func16 rfl ntmps16 rfl ?_;intro F _;refine aw ?_;refine Lp (oA aap λb1=> ?_);refine bs ?_;refine Lp (jh Eo ?_ (h1:=by simp[zQ,ab6,Value.oneCell']));refine bd ?_;refine Jc [SW z M] Eo results16 ?_;exact⟨rfl,rfl⟩
theorem L8 (z:Ly)(M:Mo)(n:Int)(hi:M.v.aQ<18446744073709551616):aG aaa 36 [Dk z.y.ck,Dm Dl n,Dm Dj M.v.aQ] uT [SW z M]
  (λv H=>v=Dm Dl (M.k.Lj n)/\H= [SW z {M with k:=M.k.move n M.v.aQ}]):=
 iW (N:={M with k:=M.k.move n M.v.aQ}) (T:=λv=>v=Dm Dl (M.k.Lj n)) λa c=>dJ λB O=>by
  have h:=(OE z.y.ck M.k O.ck n M.v.aQ hi).fr (H:=dS z B (M.aK a c)++ []) (R:= [Cl z.y.b B.C,DH z B.W B.ty,zK B.ty B.W,DJ B.ty B.W,DI z B.C.ae.length,ag z.qb 333 (M.Q.flatMap (cX B.C)),Wp z B.C.ae.length B.C M.x,Wl z.y.wh B.E M.tn,fy z.s z.y (fg (M.aK a c).v),
   zF z,xx z M.m,kF z.ub M.m,jJ (M.aK a c)]) (.cons (.t8 (.there .here)) .nil) (λ_ _=>trivial)
  refine h.out ?_;rintro v H' ⟨H0,⟨rfl,rfl⟩,rfl⟩;refine⟨[SH z (({M with k:=M.k.move n M.v.aQ}:Mo).aK a c)],⟨rfl,rfl⟩,λk s=>ax (O.ck1 (O.ck.move n hi)) (H:= []) k ?_⟩
  revert s
  revert k
  simp only[oU,cap,abT];unfold dS;exact Eh
theorem Ic (wN:pT)(z:Ly)(M:Mo)(now most:Int):aG aaa 37 [Dk z.y.cr,Dm Dl now,Dm Dl most] uT [SW z M]
  (λv H=>(∃t:Int,v= .tuple #[Dm Dl ((M.cb now most).1),Dm Dl t])/\H= [SW z (M.cb now most).2]):=
 iW (N:=(M.cb now most).2) (T:=λv=>∃t:Int,v= .tuple #[Dm Dl ((M.cb now most).1),Dm Dl t]) λa c=>
  (Fz wN z (M.aK a c) now most).out (by
   rintro v H' ⟨n,t,M',hm,rfl,rfl⟩;rw[KI]at hm;simp only[Prod.mk.injEq]at hm;obtain⟨rfl,rfl⟩:=hm;exact⟨_,⟨⟨t,rfl⟩,rfl⟩,λk s=>s⟩)
def Mo.fq (M:Mo)(n:Int):Mo:={M with k:=M.k.move n M.v.aQ}
noncomputable def Mo.tick (M:Mo)(n:Int):Mo:=if M.k.Lj n=0 then((M.fq n).reset.cb (M.fq n).k.now 64).2.aN {((M.fq n).reset.cb (M.fq n).k.now 64).2.v.mt with cr:=(((M.fq n).reset.cb (M.fq n).k.now 64).1:Int)}else M
theorem XG (wN:pT)(z:Ly)(M:Mo)(n:Int)(hi:M.v.aQ<18446744073709551616):aG aaa 9 [Dk z.s,Dm Dl n] uT [SW z M] (λv H=>v=Dm Dl (M.k.Lj n)/\H= [SW z (M.tick n)]):=by
 have zM:=L8 z M n hi;change aG _ _ _ _ _ (λv H=>v=Dm Dl (M.k.Lj n)/\H= [SW z (M.fq n)])at zM;have ht:M.tick n=if M.k.Lj n=0 then((M.fq n).reset.cb (M.fq n).k.now 64).2.aN {((M.fq n).reset.cb (M.fq n).k.now 64).2.v.mt with cr:=(((M.fq n).reset.cb (M.fq n).k.now 64).1:Int)}else M:=rfl
 refine af func9 rfl ntmps9 rfl ?_;intro F _;refine bq ?_;refine av ?_;refine iU 10 mix (.cons .here .nil) λF1 jD bV aI=> ?_;obtain⟨q1,_⟩:=bV;refine bc ?_
 first
  |refine Ti (Lf sU) ?_
  |refine Ti (Bw sU q1) ?_
 refine bc ?_
 first
  |refine Ti (Lf rB) ?_
  |refine Ti (Bw rB q1) ?_
 refine gI aI ?_;refine Tp (oZ (Aa (n:=36)) (zM) (.cons .here .nil) Di ?_);refine bK ?_;by_cases h0:M.k.Lj n=0
 ·rw[if_pos h0]at ht
  rw[h0];refine cA ?_;refine Lp (ahq 21 Eo ?_);refine bd ?_;refine Lp (oSc (i:=28) Qq ?_);change G _ _ _ _ _ [SW z (M.fq n).reset];refine aw ?_;refine av ?_;refine iU 11 mix (.cons .here .nil) λF2 zH eL dw=> ?_;obtain⟨q2,_⟩:=eL;refine bc ?_
  first
   |refine Ti (Lf D5) ?_
   |refine Ti (Bw D5 q2) ?_
  refine bc ?_
  first
   |refine Ti (Lf sU) ?_
   |refine Ti (Bw sU q2) ?_
  refine Tp (oZ (Aa (n:=38)) (kP z (M.fq n).reset) .nil (λ_ le _=>In.mono q2 le) ?_);refine gI dw ?_;rw[show(M.fq n).reset.k.now=(M.fq n).k.now from rfl];refine Tp (oC Aa rfl rfl (Ic wN z (M.fq n).reset (M.fq n).k.now 64) (.cons .here .nil) Di ?_);rintro v H' ⟨⟨t,rfl⟩,rfl⟩;refine bR ?_;refine dL ?_;refine Lp (oSc (i:=26) bj ?_);refine bn ?_;refine Rt [SW z (((M.fq n).reset.cb (M.fq n).k.now 64).2.aN {((M.fq n).reset.cb (M.fq n).k.now 64).2.v.mt with cr:=(((M.fq n).reset.cb (M.fq n).k.now 64).1:Int)})] results9 ?_;exact⟨rfl,by rw[ht]⟩
 rw[if_neg h0]at ht;have hM:M.fq n=M:=by unfold Mo.fq Ck.move;rw[if_neg h0]
 rw[hM];refine fe ?_ (e:=by exact congrArg (!·) (decide_eq_false h0));refine bs ?_;refine Rt [SW z M] results9 ?_;exact⟨rfl,by rw[ht]⟩
def Xn:FJ:= [a8 [], .slice none 0 0,Dm Dj 0,Dm Dl 0,Dm Dj 0,Dm Dl 0, .bool false, .bool false, .bool false]
def Mo.live (M:Mo)(k:FI):FK:=match M.find k with
 |some p=>if M.bF p=0 then some p else none
 |none=>none
def ajA (z:Ly)(M:Mo)(o:FK)(v:Value)(H:F8):Prop:=match o with
 |some p=>∃vb,v= .tuple #[.agg (xL (M.it p) (.slice (some ⟨vb,0,none⟩) (M.it p).val.length (M.it p).val.length)).toArray, .bool true]/\H= [own (some ⟨vb,0,none⟩) (M.it p).val.length 5 1 (aj (M.it p).val),SW z M]
 |none=>v= .tuple #[.agg Xn.toArray, .bool false]/\H= [SW z M]
theorem Fo (z:Ly)(M:Mo)(k:FI)(hk:k.length<281474976710656):aG aaa 13 [Dk z.s,a8 k] uT [SW z M] (ajA z M (M.live k)):=by
 refine af func13 rfl ntmps13 rfl ?_;intro F _;refine aw ?_;refine Lp (oA Aj λb1=> ?_);refine bd ?_;refine Hh (H':= [SW z M,ag b1 56 Xn]) ?_;refine pQ λwa wc B O=> ?_;refine bK ?_;refine Lp (Dr wu me sE λkb kc sI=> ?_);refine zl Aa (L9 z M (some ⟨kb,0,none⟩) kc _ k rfl hk) (.cons (.there .here) .nil) (λ_ le ak=>bX (ak.nth 0 rfl)) ?_;unfold Xn;rcases hf:M.find k with _|p
 ·refine Li Mv ?_
  refine bB ?_;refine zt 21 ?_ (e:=by rfl);refine gJ ?_;refine LI [SW z M] pS results13 ?_;unfold Mo.live;rw[hf];exact⟨rfl,rfl⟩
 obtain⟨hp,_⟩:=nw hf;refine bP ?_;refine zf 21 ?_ (e:=by rfl);refine bd ?_;refine zl Aa (Mb z M p hp) (.cons .here .nil) Di ?_;by_cases h0:M.bF p=0
 ·rw[h0]
  refine cV ?_;refine Lp (oC Aa rfl rfl (AN z M p hp) (.cons .here .nil) Di ?_);rintro v H' ⟨vb,rfl,rfl⟩;refine bR ?_;refine Lp (jh pS ?_ (h1:=by simp[xL,Value.oneCell',a8]));refine bq ?_;refine LI [own (some ⟨vb,0,none⟩) (M.it p).val.length 5 1 (aj (M.it p).val),SW z M] pS results13 ?_;unfold Mo.live;rw[hf];dsimp only;rw[if_pos h0];exact⟨vb,rfl,rfl⟩
 refine Li Pf ?_;refine aw ?_;refine fe ?_ (e:=by exact decide_eq_true h0);refine bd ?_;refine Lp (jh pS ?_ (h1:=by simp[cL,Value.cells,Value.oneCell',a8]));refine bc ?_;refine LI [SW z M] pS results13 ?_;unfold Mo.live;rw[hf];dsimp only;rw[if_neg h0];exact⟨rfl,rfl⟩
def mkN (n:Int):FK:=if n=0 then some 0 else if n=2 then some 1 else if n=4 then some 2 else if n=6 then some 3 else none
def Mo.mark (M:Mo)(k:FI)(n:Int):Bool×Mo:=match M.live k,mkN n with
 |some p,some c=>(true,M.marks p c)
 |_,_=>(false,M)
def rT (n:Nat):UInt8:=abP (48+n % 10)
theorem Ft (n:Nat):(rT n).toNat=48+n % 10:=by unfold rT;simp;omega
theorem wq (b:UInt8):aj [b]= [Dm ala b.toNat]:=rfl
def IZ (r:FI)(i:Nat):FI:=r.mapIdx λj b=>if j<i\/r.length<=j+i then r.getD (r.length-1-j) 0 else b
@[simp] theorem tj (r : FI) (i : Nat) : (IZ r i).length = r.length := by unfold IZ; simp
theorem TF (r:FI):IZ r 0=r:=by
 unfold IZ;apply List.ext_getElem
 ·simp
 intro j h1 h2;rw[List.getElem_mapIdx,if_neg (by omega)]
theorem tm (r:FI)(i j:Nat)(h:j<r.length):(IZ r i)[j]?=some (if j<i\/r.length<=j+i then r.getD (r.length-1-j) 0 else r.getD j 0):=by
 unfold IZ;rw[List.getElem?_mapIdx,aac h];simp[aab,aac h]
theorem EA (r:FI)(i:Nat)(h:i<r.length/2):((IZ r i).set i (r.getD (r.length-1-i) 0)).set (r.length-1-i) (r.getD i 0)=IZ r (i+1):=by
 apply agJ;intro j;by_cases hj:j<r.length
 ·rw[tm r (i+1) j hj]
  rw[agy,agy,tm r i j hj];simp only[aak,tj];by_cases a:r.length-1-i=j
  ·subst a
   rw[if_pos rfl,if_pos hj,if_pos (by omega)]
   congr 1
   rw[show r.length-1-(r.length-1-i)=i by omega]
  rw[if_neg a];by_cases b:i=j
  ·subst b
   rw[if_pos rfl,if_pos hj,if_pos (by omega)]
  rw[if_neg b]
  congr 1
  by_cases c:j<i\/r.length<=j+i
  ·rw[if_pos c,if_pos (by omega)]
  rw[if_neg c,if_neg (by omega)]
 rw[aal (by simp[tj];omega),aal (by rw[tj];omega)]
theorem XO (r:FI):IZ r (r.length/2)=r.reverse:=by
 apply agJ;intro j;by_cases hj:j<r.length
 ·rw[tm r _ j hj,List.getElem?_reverse hj,aac (by omega)]
  congr 1
  have e:∀k,(h:k<r.length)->r.getD k 0=r[k]:=λk h=>by rw[aab,aac h];rfl
  split
  ·exact e _ (by omega)
  have:j=r.length-1-j:=by omega
  rw[e _ hj]
  congr 1
 rw[aal (by rw[tj];omega),aal (by rw[ajK];omega)]
theorem oQ (l:FI)(i:Nat)(b:UInt8):(aj l).set i (Dm ala b.toNat)=aj (l.set i b):=by
 unfold aj;rw[List.map_set]
theorem VN{n:Nat}(h:n<10):dH n= [rT n]:=by
 rw[tE h];unfold rT;rw[abZ h]
set_option maxHeartbeats 1000000 in
theorem IV (n0:Nat)(hn0:n0<18446744073709551616):aG aaa 64 [Dm Dj n0] uT []
  (λv H=>∃a c,(dH n0).length<=c/\v= .slice a (dH n0).length c/\H= [own a c 5 1 (aj (dH n0))]):=by
 have hlen:(dH n0).length<=20:=by have:=tX 20 n0 (by omega);omega
 refine af func64 rfl ntmps64 rfl ?_;intro F _;refine cV ?_;refine eT 5 1 ?_;refine Lo (ι:=Nat×FI×FL×Nat) (FN [0,1,3,1,5,11]) (λs=>s.1<18446744073709551616/\dH n0=dH s.1++s.2.1.reverse) (λs=> [(0,Dm Dj s.1),(3, .slice s.2.2.1 s.2.1.length s.2.2.2)]) (λs=> [own s.2.2.1 s.2.2.2 5 1 (aj s.2.1)]) (λs=>s.1) ((n0,[],none,0)) ⟨hn0,by simp⟩ ?_;rintro⟨m,ds,a,c⟩ hI
 try dsimp only at hI⊢
 obtain⟨hm,hd⟩:=hI;have PT:ds.length<=20:=by
  have:=congrArg List.length hd;rw[aby,ajK]at this;omega
 refine bn ?_;by_cases h9:9<m
 ·refine fe ?_
  refine bs ?_;refine Li (Rm (q:=10)) ?_;refine bd ?_;refine aA (t:=11) (v':=(Dm ala ((rT m).toNat))) rfl (by exact congrArg (Value.int .u8) (by rw[Ft];first|omega|exact(wrap_u8 (by omega)).trans (by omega)|exact((wrap_u8 (by omega)).trans (by omega)).symm)) ?_;refine Lp (oT iJ λb1=> ?_);refine Lp (cm iJ rD rfl rfl rfl rfl .here (by simp) (rfl) (by first|exact eB|(simp[Value.oneCell',a8])) (by first|omega|(simp;omega)) (by first|omega|(simp;omega)) rfl λa4 c4 hc4=> ?_);rw[<-wq,<-rI,show ds.length+1=(ds++ [rT m]).length by simp];refine bc ?_;refine Li (QuU (q:=10)) ?_;refine bq ?_;refine aA (t:=0) (v':=(Dm Dj (m/10:Nat))) rfl (by exact congrArg (Value.int .u64) (by first|rfl|omega)) ?_;have Gx:dH n0=dH (m/10)++(ds++ [rT m]).reverse:=by
   rw[hd,xl (by omega:¬m<10),akm,af9];rfl
  refine Ro ((m/10,ds++ [rT m],a4,c4)) (⟨(by dsimp only;omega),Gx⟩) ((by dsimp only;omega))
 refine cN ?_;rw[VN (n:=m) (by omega)]at hd;refine bB ?_;refine aA (t:=19) (v':=(Dm ala ((rT m).toNat))) rfl (by exact congrArg (Value.int .u8) (by rw[Ft];first|omega|exact(wrap_u8 (by omega)).trans (by omega)|exact((wrap_u8 (by omega)).trans (by omega)).symm)) ?_;refine Lp (oT iJ λb2=> ?_);refine Lp (cm iJ rD rfl rfl rfl rfl .here (by simp) (rfl) (by first|exact eB|(simp[Value.oneCell',a8])) (by first|omega|(simp;omega)) (by first|omega|(simp;omega)) rfl λa5 c5 hc5=> ?_);rw[<-wq,<-rI,show ds.length+1=(ds++ [rT m]).length by simp];have hr:(ds++ [rT m]).reverse=dH n0:=by
  rw[hd,akm];rfl
 have hc6:(ds++ [rT m]).length<=c5:=by simpa using hc5
 have hrl:(ds++ [rT m]).length<=21:=by simp;omega
 have hrp:0<(ds++ [rT m]).length:=by simp
 generalize ds++ [rT m]=r at*;rw[show aj r=aj (IZ r 0) by rw[TF]];refine bK ?_;refine Lo (ι:=Nat) (FN [4,1,22,29]) (λi=>i<=r.length/2) (λi=> [(4,Dm Dl i)]) (λi=> [own a5 c5 5 1 (aj (IZ r i))]) (λi=>r.length/2-i) (0) (abL _) ?_;rintro i hi;refine bn ?_;refine Li (Qu (q:=2)) ?_;refine aA (t:=25) (v':=(Dm Dl (r.length/2:Nat))) rfl (by exact congrArg (Value.int .i64) (by first|rfl|exact(Int.natCast_tdiv r.length 2).symm|exact Int.ofNat_tdiv r.length 2)) ?_;refine bd ?_;by_cases cJ:i<r.length/2
 ·refine fe ?_
  have g1:(aj (IZ r i))[i]?=some (Dm ala ((r.getD i 0).toNat)):=by
   unfold aj;rw[abD,tm r i i (by omega),if_neg (by omega)];rfl
  have g2:(aj (IZ r i))[r.length-1-i]?=some (Dm ala ((r.getD (r.length-1-i) 0).toNat)):=by
   unfold aj;rw[abD,tm r i _ (by omega),if_neg (by omega)];rfl
  have WO:(aj (IZ r i)).length=r.length:=by rw[mK,tj]
  refine mE (iK .here (λ_ o=>np o (by omega))) λsa=> ?_;refine bc ?_;refine Aq mix .nil λF1 jD bV aI=> ?_;refine Dt 0 rfl Mv ?_;refine Dt 1 rfl Mv ?_;refine Dt 2 rfl Mv ?_;refine Dt 3 rfl Mv ?_;refine Dt 4 rfl (Ln fS) ?_;refine Dt 5 rfl Im ?_;refine Dt 6 rfl Mv ?_;refine Dt 7 rfl Im ?_;refine Dt 8 rfl Mv ?_;refine Dt 9 rfl Mv ?_;refine Dt 10 rfl (Ln fS) ?_;refine Dt 11 rfl Im ?_;refine Dt 12 rfl Mv ?_;refine Dt 13 rfl Im ?_;refine Dt 14 rfl (Ix fS (j:=r.length-1-i) (hj:=by omega)) ?_;refine Dt 16 rfl Mv ?_;refine Dt 17 rfl Mv ?_;refine Dt 18 rfl (Ix fS) ?_;refine D2 15 19 ?_ ?_
  ·refine Do rfl (oL rk ?_)
   refine aw ?_;refine Dd 19 rfl (oL rk ?_);refine aw ?_;refine Dt 20 rfl (Ix fS) ?_;refine Dd 21 rfl (oSO rk ?_);refine aw ?_;refine Dt 22 rfl (Ix fS (j:=r.length-1-i) (hj:=by omega)) ?_;refine Dd 23 rfl (oSO rk ?_);refine aw ?_;refine aT (by kernel_rfl) aI ?_;refine bs ?_;refine aD ?_;rw[oQ,oQ,EA r i cJ];refine Ro (i+1) ((by omega)) ((by omega))
  refine Do rfl (oL rk ?_);refine aw ?_;refine Dd 15 rfl (oL rk ?_);refine aw ?_;refine Dt 20 rfl (Ix fS) ?_;refine Dd 21 rfl (oSO rk ?_);refine aw ?_;refine Dt 22 rfl (Ix fS (j:=r.length-1-i) (hj:=by omega)) ?_;refine Dd 23 rfl (oSO rk ?_);refine aw ?_;refine aT (by kernel_rfl) aI ?_;refine bs ?_;refine aD ?_;rw[oQ,oQ,EA r i cJ];refine Ro (i+1) ((by omega)) ((by omega))
 refine cN ?_;have xy:i=r.length/2:=by omega
 subst xy;rw[XO,hr];refine bB ?_;have sL:r.length=(dH n0).length:=by rw[<-hr,ajK]
 rw[sL];refine Rt [own a5 c5 5 1 (aj (dH n0))] results64 ?_;exact⟨a5,c5,by rw[<-sL];exact hc6,rfl,rfl⟩
end Go.Proofs.YtcbcjolpdljbiaaGreat
