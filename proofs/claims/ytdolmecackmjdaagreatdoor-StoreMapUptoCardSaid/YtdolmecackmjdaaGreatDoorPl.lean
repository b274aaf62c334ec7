/- Part Pl of the proof. -/
import Derived.Test.YtdolmecackmjdaaGreatDoorPc1
import Derived.Test.YtdolmecackmjdaaGreatDoorPd
import Derived.Test.YtdolmecackmjdaaGreatDoorPf
import Derived.Test.YtdolmecackmjdaaGreatDoorPk
set_option maxRecDepth 100000
open Nat renaming zero_le → acS, le_refl → acG, pow_succ → adK, zero_add → acQ, succ_pos → aiz, lt_of_le_of_lt → adC, le_add_right → ahs
open List renaming drop_eq_getElem_cons → ahB, getD_eq_getElem?_getD → acy, getElem?_eq_getElem → acx, length_singleton → adv, length_append → acI, length_cons → ac7, getElem_mem → acJ, take_add_one → adE, take_length → agQ, append_nil → agu, map_append → adq, foldl_append → ah7, find?_eq_none → agZ, map_cons → acM, sum_cons → ac0
open UInt8 renaming ofNat → acZ
open Bool renaming false_or → aie, eq_iff_iff → ac1, not_eq_true' → acO, false_eq_true → acY
open Decidable renaming byContradiction → acH
open Go.Proofs.Tryz renaming prog → acw
open Go.Proofs.Tryz
namespace Go.Proofs.YtdolmecackmjdaaGreatDoor
open Go Go.dL
def sX:Nat→List UInt8→Option Nat
 |n,[]=>some n
 |n,b::r=>if b.toNat<48∨57<b.toNat∨(18446744073709551615-(b.toNat-48))/10<n then none else sX (n*10+(b.toNat-48)) r
def lq (l:List UInt8):Option Nat:=if 0<l.length∧l.length≤20 then sX 0 l else none
def lW:List UInt8:= [99,97,110,110,111,116,32,105,110,99,114,101,109,101,110,116,32,111,114,32,100,101,99,114,101,109,101,110,116,32,110,111,110,45,110,117,109,101,114,105,99,32,118,97,108,117,101]
def dG (kind:Nat)(ea:Value)(num:Nat)(sQ:List UInt8):List Value:= [.int .i64 (kind:Int),ea, .int .u64 (num:Int),aB sQ, .slice none 0 0]
def lV (kind:Nat)(ea:Value)(num:Nat)(sQ:List UInt8):Value:= .agg (dG kind ea num sQ).toArray
def aG:Value:= .slice none 0 0
theorem gz (t:List UInt8):aH acw 34 [aB t] (λ_=>True) [] (λv H=>v=lV 11 aG 0 t∧H= []):=by
 refine ae func34 rfl ntmps34 rfl ?_;intro F _;refine ay ?_;refine Lp (oA T.EN λb1=> ?_);refine cI ?_;refine ko [] T.FD results34 ?_;exact⟨rfl,rfl⟩
theorem L3 (a:Option Addr)(c m:Nat)(l:List UInt8)(hm:m=l.length)(hl:m<281474976710656):
  Uy acw 111 [.slice a m c] (λh=>dU h a (ai l)) [] (λv H=>(∃n:Nat,lq l=some n∧n<18446744073709551616∧v= .int .u64 (n:Int))∧H= []) (λv H=>lq l=none∧v= .iface 113 (lV 11 aG 0 lW)∧H= []):=by
 subst hm;refine kS func111 rfl ntmps111 rfl ?_;intro F hr;refine cI ?_;refine aE (t:=11) rfl ?_ ?_
 ·intro h0
  replace h0:=aD h0;have h0':0<l.length:=by simpa using h0
  refine aR ?_;refine ao (t:=15) (v':=(.bool (decide (l.length≤20)))) rfl (by exact congrArg Value.bool (by rw[decide_eq_decide];omega)) ?_;have BN:lq l=if l.length≤20 then sX 0 l else none:=by unfold lq;by_cases h:l.length≤20<;>simp[h,h0']
  generalize pA:decide (l.length≤20)=ok at*;refine aZ ?_;refine au ?_;refine cg (ι:=Bool×Nat) [16,17,18,19,20,21,6,22,23,24,7,25,26,27,28,29,30,31,32,33,34,35,36,37,38,39,40,41,4,42,43,44,45,3,46] (λs=>(s.1=true→lq l=some s.2∧s.2<18446744073709551616)∧(s.1=false→lq l=none)) (λs=> [(3, .int .u64 (s.2:Int)),(4, .bool s.1)]) (λs=> []) ?_ ?_
  ·refine gU ?_
   refine bc ?_;refine Lo (ι:=Nat×Nat) [19,20,21,6,22,23,24,7,25,26,27,28,29,30,31,32,33,34,35,36,37,38,39,40,41,4,42,43,44,45,3,46,18] (λs=>s.1≤l.length∧s.2<18446744073709551616∧(ok=true→lq l=sX s.2 (l.drop s.1))∧(ok=false→s.1=0)) (λs=> [(3, .int .u64 (s.2:Int)),(4, .bool ok),(18, .int .i64 (s.1:Int))]) (λs=> []) (λs=>l.length-s.1) ((0,0)) ⟨acS _,by decide,λh=>by rw[BN,if_pos (by rw[h]at pA;simpa using pA)];rfl,λ_=>rfl⟩ ?_;rintro s hI;obtain⟨k,nn⟩:=s;dsimp only at hI⊢;obtain⟨hk,hb,MA,uR⟩:=hI;by_cases bX:k<l.length
   ·have Eu:=PO l k
    refine aZ ?_;refine au ?_;refine dz ?_;refine bc ?_;refine Li (Ix T.eC) ?_;refine fF ?_;rcases ok with _|_
    ·refine zt 27 ?_ (e:=by rfl)
     refine bT ?_;refine bc ?_;refine Me ((false,nn)) (⟨λh=>(by cases h),λ_=>(by rw[BN];have:¬l.length≤20:=(by simpa using pA);rw[if_neg this])⟩)
    have TU:l.drop k=l[k]::l.drop (k+1):=ahB bX;have hi:=MA rfl;have hbe:rC l k=l[k].toNat:=by unfold rC;rw[acy,acx bX];rfl
    rw[TU]at hi;refine zf 27 ?_ (e:=by rfl);refine aR ?_;by_cases h48:rC l k<48
    ·refine zt 31 ?_
     refine bT ?_;refine ay ?_;refine Me ((false,nn)) (⟨λh=>(by cases h),λ_=>(by rw[hi];unfold sX;rw[if_pos (.inl (by omega))])⟩)
    refine zf 31 ?_;refine ao (t:=7) (v':=(.int .u64 ((rC l k-48:Nat):Int))) rfl (by exact congrArg (Value.int .u64) ((wrap_u64 (by omega)).trans (by omega))) ?_;refine aR ?_;by_cases h57:57<rC l k
    ·refine zt 35 ?_
     refine kx ?_;refine Me ((false,nn)) (⟨λh=>(by cases h),λ_=>(by rw[hi];unfold sX;rw[if_pos (.inr (.inl (by omega)))])⟩)
    refine zf 35 ?_;refine aZ ?_;refine ao (t:=38) (v':=(.int .u64 ((18446744073709551615-(rC l k-48):Nat):Int))) rfl (by exact congrArg (Value.int .u64) (by omega)) ?_;refine Li (QuU (q:=10)) ?_;refine aZ ?_;by_cases qd:(18446744073709551615-(rC l k-48))/10<nn
    ·refine dz ?_
     refine cN ?_;refine Me ((false,nn)) (⟨λh=>(by cases h),λ_=>(by rw[hi];unfold sX;rw[if_pos (.inr (.inr (by rw[←hbe];exact qd)))])⟩)
    refine cu ?_;refine fF ?_;refine az ?_;refine Ro ((k+1,nn*10+(rC l k-48))) (⟨bX,(by dsimp only;omega),λ_=>(by rw[hi];rw[sX,if_neg (by rw[←hbe];omega),←hbe]),λh=>(by cases h)⟩) ((by dsimp only;omega))
   refine gU ?_;refine a8 ?_;refine au ?_;refine cu ?_;refine aR ?_;have oh:k=l.length:=by omega
   have ad3:ok=true:=by
    cases h:ok with
    |true=>rfl
    |false=>have:=uR h;omega
   have h1:=MA ad3;rw[oh,List.drop_length]at h1;refine Me ((ok,nn)) (⟨λ_=>⟨h1,hb⟩,λh=>(by rw[ad3]at h;cases h)⟩)
  rintro s hI;obtain⟨b,nn⟩:=s;dsimp only at hI⊢;obtain⟨hj1,hj2⟩:=hI;rcases b with _|_
  ·refine au ?_
   refine bc ?_;refine cC ?_;refine zl T.rL (gz lW) .nil (λ_ _ _=>trivial) ?_;refine Li (T6 T.gn) ?_;refine Lp (TD ?_);refine pP [] ?_;exact⟨hj2 rfl,rfl,rfl⟩
  refine au ?_;refine dQ ?_;refine pR ?_;refine Rt [] results111 ?_;exact⟨⟨nn,(hj1 rfl).1,(hj1 rfl).2,rfl⟩,rfl⟩
 intro h0;replace h0:=aD h0;have hz:l.length=0:=by omega
 have BN:lq l=none:=by unfold lq;rw[if_neg (by omega)]
 refine fF ?_;refine Lo (ι:=Unit) [19,20,21,6,22,23,24,7,25,26,27,28,29,30,31,32,33,34,35,36,37,38,39,40,41,4,42,43,44,45,3,46,18] (λu=>True) (λu=> [(3, .int .u64 0),(4, .bool false),(18, .int .i64 0)]) (λu=> []) (λu=>0) (()) (by simp) ?_;rintro u hI;refine aZ ?_;refine au ?_;refine cu ?_;refine bK ?_;refine cC ?_;refine zl T.rL (gz lW) .nil (λ_ _ _=>trivial) ?_;refine Li (T6 T.gn) ?_;refine Lp (TD ?_);refine pP [] ?_;exact⟨BN,rfl,rfl⟩
def bL (n:Nat):List UInt8:=if n<10 then [acZ (48+n)]else bL (n/10)++ [acZ (48+n % 10)]
termination_by n
theorem vB{n:Nat}(h:n<10):bL n= [acZ (48+n)]:=by rw[bL,if_pos h]
theorem Bm{n:Nat}(h:¬n<10):bL n=bL (n/10)++ [acZ (48+n % 10)]:=by rw[bL,if_neg h]
theorem xz (i:Nat):∀n,n<10^i→(bL n).length≤max i 1:=by
 induction i with
 |zero=>intro n h;rw[vB (by simp at h;omega)];exact acG _
 |succ i ih=>
  intro n h;by_cases g:n<10
  ·rw[vB g];simp only[adv];omega
  rw[Bm g,acI,adv];have hi:i≠0:=λe=>by subst e;omega
  have:=ih (n/10) (by rw[adK]at h;omega);omega
theorem set_drop{l:List Value}{i:Nat}{v:Value}{r:List Value}(h:l.drop (i+1)=r)(hi:i<l.length):(l.set i v).drop i=v::r:=by
 rw[ahB (by simpa using hi),List.getElem_set_self,List.drop_set_of_lt (by omega),h]
theorem QG (n0:Nat)(hn0:n0<18446744073709551616):aH acw 112 [.int .u64 (n0:Int)] (λ_=>True) []
  (λv H=>∃a c,v= .slice a (bL n0).length c∧H= [own a c 5 1 (ai (bL n0))]):=by
 refine ae func112 rfl ntmps112 rfl ?_;intro F _;refine aR ?_;refine Lp (oA T.Zj λb1=> ?_);refine bc ?_;refine Lo (ι:=Nat×Nat×List UInt8×List Value) [5,6,4,7,8,9,10,11,12,13,14,0,15,16,17,18,19,2] (λs=>(1≤s.1∧s.1≤20∧s.2.1<10^s.1∧s.2.1<18446744073709551616∧s.2.2.1.length=20-s.1)∧(bL s.2.1++s.2.2.1=bL n0)∧s.2.2.2.length=20∧s.2.2.2.drop s.1=ai s.2.2.1) (λs=> [(0, .int .u64 (s.2.1:Int)),(2, .slice none 0 0),(4, .int .i64 (s.1:Int))]) (λs=> [ag b1 268 s.2.2.2]) (λs=>s.2.1+1) ((20,n0,[],[.int .u8 0, .int .u8 0, .int .u8 0, .int .u8 0, .int .u8 0, .int .u8 0, .int .u8 0, .int .u8 0, .int .u8 0, .int .u8 0, .int .u8 0, .int .u8 0, .int .u8 0, .int .u8 0, .int .u8 0, .int .u8 0, .int .u8 0, .int .u8 0, .int .u8 0, .int .u8 0])) ⟨⟨Nat.le_of_ble_eq_true rfl,acG _,by dsimp only;omega,hn0,rfl⟩,by simp,rfl,rfl⟩ ?_;rintro⟨i,n,ds,cs⟩ hI;dsimp only at hI⊢;obtain⟨⟨h0,h1,h2,h3,h4⟩,h5,h6,h7⟩:=hI;obtain⟨i,rfl⟩:∃j,i=j+1:=⟨i-1,by omega⟩;have hc:(acZ (48+n % 10)).toNat=48+n % 10:=by rw[UInt8.toNat_ofNat'];omega
 have h8:=set_drop (v:= .int .u8 ((acZ (48+n % 10)).toNat:Int)) h7 (by omega);have h9: .int .u8 ((acZ (48+n % 10)).toNat:Int)::ai ds=ai (acZ (48+n % 10)::ds):=rfl;rw[h9]at h8;rw[adK]at h2;refine bH ?_;refine ao (t:=4) (v':=(.int .i64 (i:Int))) rfl (by exact congrArg (Value.int .i64) (by omega)) ?_;refine a8 ?_;refine Li (Rm (q:=10)) ?_;refine a8 ?_;refine ao (t:=11) (v':=(.int .u8 ((acZ (48+n % 10)).toNat:Int))) rfl (by exact congrArg (Value.int .u8) (by rw[hc];first|exact(wrap_u8 (by omega)).trans (by omega)|omega)) ?_;refine Li (Ia T.PT) ?_;refine aR ?_;refine Li (QuU (q:=10)) ?_;refine bB ?_;simp only[acQ];by_cases hz:n/10=0
 ·have hn:n<10:=by omega
  have Uo:acZ (48+n % 10)::ds=bL n0:=by rw[←h5,vB hn,Nat.mod_eq_of_lt hn];rfl
  refine dz ?_;refine a8 ?_;refine Li (SlA i 20 20 T.PT) ?_;refine aT 5 1 ?_;have D5:(bL n0).length=20-i:=by rw[←Uo,ac7];omega
  refine Lp (eo T.gj T.mB rfl rfl rfl rfl .here (rfl) (dJ (news:=ai (bL n0)) (m:=20-i) (by rw[jy,D5,Nat.mul_one]) λh le aw=>(by obtain⟨k,p,l⟩:=aw.nth 1 rfl;have q:=(pF (i:=i) p).mono l;rw[h8,Uo]at q;rw[acQ];exact q)) (by first|exact cY|(simp[Value.oneCell',aB])) (by first|omega|(simp;omega)) (by first|omega|(simp;omega)) rfl λa1 c1 IX=> ?_);refine bB ?_;rw[show 0+(20-i)=(bL n0).length by omega];refine Rt [own a1 c1 5 1 (ai (bL n0))] results112 ?_;exact⟨a1,c1,rfl,rfl⟩
 refine cu ?_;refine a8 ?_;have MA:1≤i:=by
  rcases i with _|i
  ·simp at h2;omega
  omega
 refine Ro ((i,n/10,acZ (48+n % 10)::ds,cs.set i (.int .u8 ((acZ (48+n % 10)).toNat:Int)))) (⟨⟨MA,(by dsimp only;omega),(by dsimp only;omega),(by dsimp only;omega),(by dsimp only[ac7];omega)⟩,(by dsimp only;rw[←h5,Bm (n:=n) (by omega),List.append_assoc];rfl),(by dsimp only;rw[List.length_set];exact h6),h8⟩) ((by dsimp only;omega))
structure dI where
 verb:Int
 keys:List (List UInt8)
 fl:Nat
 ex:Int
 tok:Nat
 dl:Nat
 data:List UInt8
 nor:Bool
 lg:Bool
 what:List UInt8
def eR (l:List (List UInt8)):List Value:=l.map aB
theorem rP (l:List (List UInt8))(k:Nat)(h:k<l.length):(eR l)[k]?=some (aB l[k]):=by
 unfold eR;rw[List.getElem?_map,acx h];rfl
def cy (c:dI)(ka:Option Addr)(kc:Nat)(da:Option Addr)(dc:Nat)(mv:Value):List Value:=
 [.int .i64 c.verb, .slice ka c.keys.length kc, .int .u64 (c.fl:Int), .int .i64 c.ex, .int .u64 (c.tok:Int), .int .u64 (c.dl:Int), .slice da c.data.length dc, .bool c.nor, .bool c.lg,mv,aB c.what]
def aY (v:Int):Int:=if 1≤v∧v≤4 then 2 else if 5≤v∧v≤14 then 1 else if 15≤v∧v≤18 then 0 else-1
def oH (c:dI):Bool:=decide (aY c.verb<0∨0<aY c.verb∧c.keys.length=0∨aY c.verb=1∧1<c.keys.length) ||(decide (0<aY c.verb)&&c.keys.any λk=> !cO k) ||decide (5≤c.verb∧c.verb≤10∧4294967295<c.fl)
theorem Cy (v:Int):aH acw 36 [.int .i64 v] (λ_=>True) [] (λw H=>w= .int .i64 (aY v)∧H= []):=by
 refine ae func36 rfl ntmps36 rfl ?_;intro F _;refine cN ?_;refine aE (t:=6) rfl ?_ ?_
 ·intro cn
  replace cn:=aD cn;refine bc ?_;refine av rfl ?_ ?_
  ·intro cm
   replace cm:=aD cm;refine bB ?_;refine Rt [] results36 ?_;refine⟨?_,rfl⟩;unfold aY
   repeat' split
   all_goals first|rfl|(exfalso;omega)
  intro cm;replace cm:=aD cm;refine aR ?_;refine aE (t:=13) rfl ?_ ?_
  ·intro bS
   replace bS:=aD bS;refine bc ?_;refine av rfl ?_ ?_
   ·intro bP
    replace bP:=aD bP;refine bB ?_;refine Rt [] results36 ?_;refine⟨?_,rfl⟩;unfold aY
    repeat' split
    all_goals first|rfl|(exfalso;omega)
   intro bP;replace bP:=aD bP;refine aR ?_;refine aE (t:=20) rfl ?_ ?_
   ·intro cG
    replace cG:=aD cG;refine bc ?_;refine av rfl ?_ ?_
    ·intro gg
     replace gg:=aD gg;refine bB ?_;refine Rt [] results36 ?_;refine⟨?_,rfl⟩;unfold aY
     repeat' split
     all_goals first|rfl|(exfalso;omega)
    intro gg;replace gg:=aD gg;refine bH ?_;refine Rt [] results36 ?_;refine⟨?_,rfl⟩;unfold aY
    repeat' split
    all_goals first|rfl|(exfalso;omega)
   intro cG;replace cG:=aD cG;refine gR ?_;refine Rt [] results36 ?_;refine⟨?_,rfl⟩;unfold aY
   repeat' split
   all_goals first|rfl|(exfalso;omega)
  intro bS;replace bS:=aD bS;refine bw ?_;refine aE (t:=20) rfl ?_ ?_
  ·intro bP
   replace bP:=aD bP;refine bc ?_;refine av rfl ?_ ?_
   ·intro cG
    replace cG:=aD cG;refine bB ?_;refine Rt [] results36 ?_;refine⟨?_,rfl⟩;unfold aY
    repeat' split
    all_goals first|rfl|(exfalso;omega)
   intro cG;replace cG:=aD cG;refine bH ?_;refine Rt [] results36 ?_;refine⟨?_,rfl⟩;unfold aY
   repeat' split
   all_goals first|rfl|(exfalso;omega)
  intro bP;replace bP:=aD bP;refine gR ?_;refine Rt [] results36 ?_;refine⟨?_,rfl⟩;unfold aY
  repeat' split
  all_goals first|rfl|(exfalso;omega)
 intro cn;replace cn:=aD cn;refine bw ?_;refine aE (t:=13) rfl ?_ ?_
 ·intro cm
  replace cm:=aD cm;refine bc ?_;refine av rfl ?_ ?_
  ·intro bS
   replace bS:=aD bS;refine bB ?_;refine Rt [] results36 ?_;refine⟨?_,rfl⟩;unfold aY
   repeat' split
   all_goals first|rfl|(exfalso;omega)
  intro bS;replace bS:=aD bS;refine aR ?_;refine aE (t:=20) rfl ?_ ?_
  ·intro bP
   replace bP:=aD bP;refine bc ?_;refine av rfl ?_ ?_
   ·intro cG
    replace cG:=aD cG;refine bB ?_;refine Rt [] results36 ?_;refine⟨?_,rfl⟩;unfold aY
    repeat' split
    all_goals first|rfl|(exfalso;omega)
   intro cG;replace cG:=aD cG;refine bH ?_;refine Rt [] results36 ?_;refine⟨?_,rfl⟩;unfold aY
   repeat' split
   all_goals first|rfl|(exfalso;omega)
  intro bP;replace bP:=aD bP;refine gR ?_;refine Rt [] results36 ?_;refine⟨?_,rfl⟩;unfold aY
  repeat' split
  all_goals first|rfl|(exfalso;omega)
 intro cm;replace cm:=aD cm;refine bw ?_;refine aE (t:=20) rfl ?_ ?_
 ·intro bS
  replace bS:=aD bS;refine bc ?_;refine av rfl ?_ ?_
  ·intro bP
   replace bP:=aD bP;refine bB ?_;refine Rt [] results36 ?_;refine⟨?_,rfl⟩;unfold aY
   repeat' split
   all_goals first|rfl|(exfalso;omega)
  intro bP;replace bP:=aD bP;refine bH ?_;refine Rt [] results36 ?_;refine⟨?_,rfl⟩;unfold aY
  repeat' split
  all_goals first|rfl|(exfalso;omega)
 intro bS;replace bS:=aD bS;refine gR ?_;refine Rt [] results36 ?_;refine⟨?_,rfl⟩;unfold aY
 repeat' split
 all_goals first|rfl|(exfalso;omega)
theorem acj (c:dI)(ka:Option Addr)(kc:Nat)(da:Option Addr)(dc:Nat)(mv:Value)(iG:mv.oneCell'=true)(Mz:c.keys.length<281474976710656)(hk:∀k∈c.keys,k.length<281474976710656):
  aH acw 33 [.agg (cy c ka kc da dc mv).toArray] (λh=>dU h ka (eR c.keys)) [] (λw H=>w= .bool (oH c)∧H= []):=by
 have hb:oH c=(decide (aY c.verb<0∨0<aY c.verb∧c.keys.length=0∨aY c.verb=1∧1<c.keys.length) ||(decide (0<aY c.verb)&&c.keys.any λk=> !cO k) ||decide (5≤c.verb∧c.verb≤10∧4294967295<c.fl)):=rfl;refine ae func33 rfl ntmps33 rfl ?_;intro F hr;refine ay ?_;refine Lp (oB λb1=> ?_);refine bc ?_;refine zl T.Yr (Cy c.verb) .nil (λ_ _ _=>trivial) ?_;generalize hn:aY c.verb=n at*;have hn4:n= -1∨n=0∨n=1∨n=2:=by
  rw[←hn];unfold aY
  repeat' split
  all_goals omega
 have fin:decide (n<0∨0<n∧c.keys.length=0∨n=1∧1<c.keys.length)=true→oH c=true:=λh=>by rw[hb,h];rfl
 refine a8 ?_;refine au ?_;refine cg (ι:=Unit) [9,10,11,12,13,14,15,16,17,18,19,20,21,22,23,24,25,26,27,28,29,30,2] (λu=>¬(n<0∨0<n∧c.keys.length=0∨n=1∧1<c.keys.length)) (λu=> []) (λu=> [ag b1 47 (cy c ka kc da dc mv)]) ?_ ?_
 ·refine gU ?_
  refine aZ ?_;refine aE (t:=11) rfl ?_ ?_
  ·intro cn
   replace cn:=aD cn;refine bT ?_;refine bB ?_;refine Rt [] results33 ?_;exact⟨congrArg Value.bool (fin (decide_eq_true (by omega))).symm,rfl⟩
  intro cn;replace cn:=aD cn;refine aZ ?_;refine aE (t:=14) rfl ?_ ?_
  ·intro cm
   replace cm:=aD cm;refine bH ?_;refine aE (t:=21) rfl ?_ ?_
   ·intro bS
    replace bS:=aD bS;refine qa ?_;refine Rt [] results33 ?_;exact⟨congrArg Value.bool (fin (decide_eq_true (by omega))).symm,rfl⟩
   intro bS;replace bS:=aD bS;refine aZ ?_;refine aE (t:=24) rfl ?_ ?_
   ·intro bP
    replace bP:=aD bP;refine bH ?_;refine av rfl ?_ ?_
    ·intro cG
     replace cG:=aD cG;refine bc ?_;refine Rt [] results33 ?_;exact⟨congrArg Value.bool (fin (decide_eq_true (by omega))).symm,rfl⟩
    intro cG;replace cG:=aD cG;refine ay ?_;refine Me (()) (by omega)
   intro bP;replace bP:=aD bP;refine cN ?_;refine Me (()) (by omega)
  intro cm;replace cm:=aD cm;refine bw ?_;refine aE (t:=24) rfl ?_ ?_
  ·intro bS
   replace bS:=aD bS;refine bH ?_;refine av rfl ?_ ?_
   ·intro bP
    replace bP:=aD bP;refine bc ?_;refine Rt [] results33 ?_;exact⟨congrArg Value.bool (fin (decide_eq_true (by omega))).symm,rfl⟩
   intro bP;replace bP:=aD bP;refine ay ?_;refine Me (()) (by omega)
  intro bS;replace bS:=aD bS;refine cN ?_;refine Me (()) (by omega)
 rintro u hI;have bS:oH c=((decide (0<n)&&c.keys.any λk=> !cO k) ||decide (5≤c.verb∧c.verb≤10∧4294967295<c.fl)):=by rw[hb,decide_eq_false hI,aie]
 refine au ?_;refine cg (ι:=Unit) [31,32,33,34,35,36,37,38,39,5,40,41,42,43,2,44] (λu=>(decide (0<n)&&c.keys.any λk=> !cO k)=false) (λu=> []) (λu=> [ag b1 47 (cy c ka kc da dc mv)]) ?_ ?_
 ·refine gU ?_
  refine aZ ?_;by_cases hp:0<n
  ·refine dz ?_ (e:=by exact decide_eq_true hp)
   refine bH ?_;refine Lo (ι:=Nat) [37,38,39,5,40,41,42,43,2,44,36] (λk=>k≤c.keys.length∧∀x∈c.keys.take k,cO x=true) (λk=> [(36, .int .i64 (k:Int))]) (λk=> [ag b1 47 (cy c ka kc da dc mv)]) (λk=>c.keys.length-k) (0) ⟨acS _,by simp⟩ ?_;rintro k hI;obtain⟨hk1,rB⟩:=hI;by_cases bX:k<c.keys.length
   ·have uI:=rP c.keys k bX
    have sU:=hk _ (acJ bX);have Mw:ka.isSome=true:=by obtain⟨ad,e,_⟩:=hr k _ uI;rw[e];rfl
    refine aZ ?_;refine au ?_;refine dz ?_;refine bc ?_;refine Li (Ix T.nR) ?_;refine bc ?_;refine Lp (BA T.kk T.ll T.qw λkb kcc rz=> ?_);refine zl T.Ym (C1 (some ⟨kb,0,none⟩) kcc _ c.keys[k] rfl (by omega)) .nil (λh le aw=>bD (aw.nth 0 rfl)) ?_;by_cases hg:cO c.keys[k]=true
    ·rw[hg]
     refine cN ?_;refine az ?_;refine Ro (k+1) (⟨bX,λx hx=>(by rw[adE,acx bX,List.mem_append]at hx;rcases hx with hx|hx;exact rB x hx;obtain rfl:x=c.keys[k]:=(by simpa using hx);exact hg)⟩) (by omega)
    have hg2:cO c.keys[k]=false:=by simpa using hg
    rw[hg2];refine dQ ?_;refine Rt [] results33 ?_;refine⟨congrArg Value.bool ?_,rfl⟩;have:(c.keys.any λk=> !cO k)=true:=List.any_eq_true.2 ⟨_,acJ bX,by rw[hg2];rfl⟩;rw[bS,this,decide_eq_true hp];rfl
   refine gU ?_;refine a8 ?_;refine au ?_;refine cu ?_;refine aR ?_;refine Me (()) ((by(have oh:k=c.keys.length:=by omega);rw[oh,agQ]at rB;rw[Bool.and_eq_false_iff];right;rw[List.any_eq_false];intro x hx;rw[rB x hx];decide))
  refine cu ?_ (e:=by exact decide_eq_false hp);refine ay ?_;refine Me (()) ((by rw[decide_eq_false hp];rfl))
 rintro u hI;rw[hI,aie]at bS;refine bc ?_;refine aE (t:=48) rfl ?_ ?_
 ·intro cn
  replace cn:=aD cn;refine bc ?_;refine aE (t:=53) rfl ?_ ?_
  ·intro cm
   replace cm:=aD cm;refine bH ?_;refine Rt [] results33 ?_;refine⟨congrArg Value.bool ?_,rfl⟩;rw[bS]
   first
    |exact decide_eq_decide.2 (by omega)
    |exact(decide_eq_false (by omega)).symm
  intro cm;replace cm:=aD cm;refine bH ?_;refine Rt [] results33 ?_;refine⟨congrArg Value.bool ?_,rfl⟩;rw[bS]
  first
   |exact decide_eq_decide.2 (by omega)
   |exact(decide_eq_false (by omega)).symm
 intro cn;replace cn:=aD cn;refine dQ ?_;refine Rt [] results33 ?_;refine⟨congrArg Value.bool ?_,rfl⟩;rw[bS]
 first
  |exact decide_eq_decide.2 (by omega)
  |exact(decide_eq_false (by omega)).symm
end Go.Proofs.YtdolmecackmjdaaGreatDoor
namespace Go.dL
open Go
theorem aH.frP{P:Program}{f:FuncId}{args:List Value}{pre vV:Hp→Prop}{H As R:List aa}{T:Value→List aa→Prop}(h:aH P f args pre As T)(ey:jB H As R)(hp:∀k k0,Le k0 k→vV k0→hJ R k→pre k):
  aH P f args vV H (λv H'=>∃H0,T v H0∧H'=H0++R):=by
 intro F w hF s;obtain⟨a1,a2,a3,fr,hh,st,hl,vO⟩:=s;obtain⟨h1,h2,d12,l1,l2,s1,s2⟩:=bQ (ey.out _ st);have yH:cE h2 F.h:=vO.left l2
 let F':ee:={F with h:=gI h2 F.h}
 have jA:Le F.h F'.h:=bh yH;have jd:Le h2 F'.h:=br _ _;have Ee:St F' As w:=⟨a1,a2,a3,cJ (l2.trans hl) fr,h1,s1,l1.trans hl,(cE.gI d12.symm (vO.left l1).symm).symm⟩;refine(h F' w (hp _ _ jA hF (cM s2 jd)) Ee).mono ?_;rintro e w' ⟨v,H',rfl,hT,sw⟩;obtain⟨b1,b2,b3,vR,Er,st2,Ep,mu⟩:=sw;exact⟨v,_,rfl,⟨H',hT,rfl⟩,b1,b2,b3,jA.trans vR,gI Er h2,bZ st2 s2 (mu.right jd),cJ Ep (jd.trans vR),cE.gI (mu.right jA) yH⟩
end Go.dL
namespace Go.Proofs.YtdolmecackmjdaaGreatDoor
open Go Go.dL Go.Proofs.YtdolmecackmjdaaGreatDoor.Cs
def adQ (v:Sv):List Value:= [.int .i64 v.c.aq, .int .i64 v.c.cH, .int .i64 v.c.fac, .int .i64 v.c.bO, .int .i64 v.c.lim, .int .i64 v.c.hot, .int .i64 v.c.warm, .int .i64 v.p.b, .int .i64 v.p.l, .int .i64 v.p.c, .int .i64 v.p.m, .int .u64 (v.aM:Int), .int .i64 (v.gr:Int), .int .i64 v.mt.dr, .int .i64 v.mt.re, .int .i64 v.mt.bu, .int .i64 v.mt.li, .int .i64 v.mt.lo, .int .i64 v.mt.cr, .int .i64 v.mt.mv]
def Ab (y:Sy)(v:Sv):List Value:= .pointer (some ⟨y.b,0,none⟩):: .pointer (some ⟨y.ck,0,none⟩):: .pointer (some ⟨y.t,0,none⟩):: .pointer (some ⟨y.lu,0,none⟩):: .pointer (some ⟨y.wh,0,none⟩):: .pointer (some ⟨y.cr,0,none⟩):: .pointer (some ⟨y.mo,0,none⟩):: .pointer (some ⟨y.q,0,none⟩)::adQ v
def T7 (z:Ly)(B:Bx)(M:Mo):List aa:=
 [Cl z.y.b B.C,ag z.y.t 145 (fA z.y.b B.W B.ty),ag B.ty.nk 163 (aJ (aA B.W.nb)),jV B.ty.ok 163 (aJ (aA B.W.ob)),ag z.y.q 139 (fP z.y.b z.qb B.C.af.length),ag z.qb 327 (M.Q.flatMap (eH B.C)),gZ z.y.cr z.y.q z.y.wh B.C.af.length (bJ z.s) (bI z.s) B.C M.x,Wl z.y.wh B.E M.tn,
  lD z.y.ck M.k,jN z.y.lu z.y.b z.y.q z.hot z.warm,oa z.y.mo z.y.b z.ub (bJ z.s) (bI z.s) (cK z.s) M.m,oz z.ub M.m,lQ M]
theorem vJ (z:Ly)(B:Bx)(M:Mo):fE (fQ z B M) (gY z.s z.y (gJ M.v)) (T7 z B M):=
 .there (.there (.there (.there (.there (.there (.there (.there .here)))))))
theorem r7{z:Ly}{M:Mo}{h:Hp}(s:SH z M h):∃B,bY B M∧ak (gY z.s z.y (gJ M.v)::T7 z B M) h:=by
 obtain⟨B,O,t⟩:=s;exact⟨B,O,(vJ z B M).out _ t⟩
theorem CI{z:Ly}{M:Mo}(h:Hp)(s:SH z M h)(i:Nat)(v:Value)(e:(Ab z.y M.v++ [.slice M.v.wa M.v.wn M.v.wc])[i]?=some v):dY h ⟨z.s,i,none⟩=some v:=by
 obtain⟨B,O,t⟩:=r7 s;obtain⟨h1,h2,_,l1,_,a,_⟩:=t;exact cX l1 (eS a e)
instance ags{z:Ly}{M:Mo}:Cells (SH z M) z.s (Ab z.y M.v++ [.slice M.v.wa M.v.wn M.v.wc]):=⟨λh s i v e=>CI h s i v e⟩
instance agr{z:Ly}{M:Mo}:Cells (SW z M) z.s (Ab z.y M.v):=⟨λh s i v e=>by
 obtain⟨w,s⟩:=s;refine CI h s i v ?_;rw[show(M.aK w.1 w.2).v.wa=w.1 from rfl];exact(List.getElem?_append_left (List.getElem?_eq_some_iff.1 e).1).trans e⟩
theorem oW{z:Ly}{M:Mo}{w:Sv}{i:Nat}{v:Value}(hO:∀B,bY B M→bY B {M with v:=w})(hw:w.wa=M.v.wa∧w.wc=M.v.wc)(hi:i<29)(hc:(k8 z.y (gJ M.v)).set i v=k8 z.y (gJ w)):qK (SH z M) z.s i v (SH z {M with v:=w}):=⟨λh s=>by
 obtain⟨B,O,t⟩:=r7 s;refine⟨_,_,T7 z B M,(by simpa[k8,gJ]using hi),t,λk sk=>⟨B,hO B O, ?_⟩⟩;rw[hc]at sk;have h1:T7 z B M=T7 z B {M with v:=w}:=by
  unfold T7 lQ;rw[hw.1,hw.2]
 rw[h1]at sk;exact(vJ z B {M with v:=w}).back _ sk⟩
theorem N5{z:Ly}{M N:Mo}{i:Nat}{v:Value}(h:∀a c,qK (SH z (M.aK a c)) z.s i v (SH z (N.aK a c))):qK (SW z M) z.s i v (SW z N):=⟨λk s=>by
 obtain⟨w,s⟩:=s;obtain⟨e,cs,R,hi,t,back⟩:=(h w.1 w.2).cut k s;exact⟨e,cs,R,hi,t,λk2 s2=>⟨w,back k2 s2⟩⟩⟩
instance Z0{z:Ly}{M:Mo}{i:Nat}:qK (SH z M) z.s 19 (.int .u64 (i:Int)) (SH z (M.lS i)):=oW (λ_ O=>O.lS i) ⟨rfl,rfl⟩ (by decide) rfl
instance sh_dr{z:Ly}{M:Mo}{x:Int}:qK (SH z M) z.s 21 (.int .i64 x) (SH z (M.bj {M.v.mt with dr:=x})):=oW (λ_ O=>O.bj _) ⟨rfl,rfl⟩ (by decide) rfl
instance sh_re{z:Ly}{M:Mo}{x:Int}:qK (SH z M) z.s 22 (.int .i64 x) (SH z (M.bj {M.v.mt with re:=x})):=oW (λ_ O=>O.bj _) ⟨rfl,rfl⟩ (by decide) rfl
instance sh_bu{z:Ly}{M:Mo}{x:Int}:qK (SH z M) z.s 23 (.int .i64 x) (SH z (M.bj {M.v.mt with bu:=x})):=oW (λ_ O=>O.bj _) ⟨rfl,rfl⟩ (by decide) rfl
instance sh_li{z:Ly}{M:Mo}{x:Int}:qK (SH z M) z.s 24 (.int .i64 x) (SH z (M.bj {M.v.mt with li:=x})):=oW (λ_ O=>O.bj _) ⟨rfl,rfl⟩ (by decide) rfl
instance sh_lo{z:Ly}{M:Mo}{x:Int}:qK (SH z M) z.s 25 (.int .i64 x) (SH z (M.bj {M.v.mt with lo:=x})):=oW (λ_ O=>O.bj _) ⟨rfl,rfl⟩ (by decide) rfl
instance aeU{z:Ly}{M:Mo}{x:Int}:qK (SH z M) z.s 26 (.int .i64 x) (SH z (M.bj {M.v.mt with cr:=x})):=oW (λ_ O=>O.bj _) ⟨rfl,rfl⟩ (by decide) rfl
instance sh_mv{z:Ly}{M:Mo}{x:Int}:qK (SH z M) z.s 27 (.int .i64 x) (SH z (M.bj {M.v.mt with mv:=x})):=oW (λ_ O=>O.bj _) ⟨rfl,rfl⟩ (by decide) rfl
instance sw_iss{z:Ly}{M:Mo}{i:Nat}:qK (SW z M) z.s 19 (.int .u64 (i:Int)) (SW z (M.lS i)):=N5 λa c=>Z0 (M:=M.aK a c)
instance sw_cr{z:Ly}{M:Mo}{x:Int}:qK (SW z M) z.s 26 (.int .i64 x) (SW z (M.bj {M.v.mt with cr:=x})):=N5 λa c=>aeU (M:=M.aK a c)
theorem Vn{P:Program}{f:FuncId}{args:List Value}{z:Ly}{M:Mo}{vV:Hp→Prop}{T:Value→List aa→Prop}(h:∀B,bY B M→∃pre,aH P f args pre [] T∧∀k k0,Le k0 k→vV k0→hJ (fQ z B M) k→pre k):
  aH P f args vV [SH z M] (λv H=>∃H0,T v H0∧H=H0++ [SH z M]):=
 fg λB O=>by
  obtain⟨pre,g,hp⟩:=h B O;rw[agu];refine(g.frP (H:=fQ z B M) (nC [] _) hp).out ?_;rintro v H' ⟨H0,t,rfl⟩;refine⟨H0++ [SH z M],⟨H0,t,rfl⟩,λk s=> ?_⟩;obtain⟨h1,h2,d,l1,l2,s1,s2⟩:=bQ s;exact pK (A:=SH z M) (B:=SH z M) d l1 l2 s1 (y4 ⟨B,O,s2⟩)
theorem Hu{P:Program}{f:FuncId}{args:List Value}{z:Ly}{M:Mo}{vV:Hp→Prop}{T:Value→List aa→Prop}(h:∀a c B,bY B (M.aK a c)→∃pre,aH P f args pre [] T∧∀k k0,Le k0 k→vV k0→hJ (fQ z B (M.aK a c)) k→pre k):
  aH P f args vV [SW z M] (λv H=>∃H0,T v H0∧H=H0++ [SW z M]):=
 uZ λa c=>(Vn (h a c)).out λv H' ⟨H0,t,e⟩=>⟨H0++ [SW z M],⟨H0,t,rfl⟩,by
  subst e;intro k s;obtain⟨h1,h2,d,l1,l2,s1,s2⟩:=bQ s;obtain⟨h3,_,_,l3,_,q,_⟩:=s2;exact pK (A:=SW z M) (B:=SW z M) (d.right l3) l1 (l3.trans l2) s1 (y4 ⟨(a,c),q⟩)⟩
theorem mF{P:Program}{f:FuncId}{args:List Value}{z:Ly}{M:Mo}{vV:Hp→Prop}{T:Value→Prop}(h:∀a c B,bY B (M.aK a c)→∃pre,aH P f args pre [] (λv H=>T v∧H= [])∧∀k k0,Le k0 k→vV k0→hJ (fQ z B (M.aK a c)) k→pre k):
  aH P f args vV [SW z M] (λv H=>T v∧H= [SW z M]):=
 (Hu h).out λv H' ⟨H0,⟨t,e0⟩,e⟩=>⟨[SW z M],⟨t,rfl⟩,by subst e0;subst e;exact λk s=>s⟩
theorem Jx (z:Ly)(M:Mo)(a:Option Addr)(c m:Nat)(l:List UInt8)(hm:m=l.length)(hl:l.length<281474976710656):
  aH acw 39 [.pointer (some ⟨z.y.t,0,none⟩), .slice a m c] (λh=>dU h a (ai l)) [SW z M] (λv H=>v= .tuple #[.int .u64 (vP M.C (M.find l):Int), .bool (M.find l).isSome]∧H= [SW z M]):=
 mF λwa wc B O=>by
  have h:=mE z.y.t z.y.b B.C O.k B.W B.ty O.t O.ty a m c l hm hl;rw[O.NK,Y9 O]at h;exact⟨_,h,λk k0 le g aw=>⟨aw.nth 0 rfl,⟨aw.nth 1 rfl,aw.nth 2 rfl,aw.nth 3 rfl,trivial⟩,g.mono le⟩⟩
theorem Vg (z:Ly)(M:Mo)(p:Nat)(hp:M.has p):aH acw 80 [.pointer (some ⟨z.y.b,0,none⟩), .int .u64 (M.C.hd p:Int)] (λ_=>True) [SW z M] (λv H=>v= .tuple #[.int .i64 (p:Int), .int .i64 (M.C.cl p:Int), .int .i64 0]∧H= [SW z M]):=
 mF λwa wc B O=>by
  have h:=wC z.y.b B.C O.k p (O.sM ((O.al p).2 hp));rw[O.hd,show B.C.cl p=M.C.cl p from O.cl p]at h;exact⟨_,h,λk k0 le h aw=>aw.nth 0 rfl⟩
theorem q9 (z:Ly)(M:Mo)(p:Nat)(hp:M.has p):aH acw 135 [.pointer (some ⟨z.y.b,0,none⟩), .int .u64 (M.C.hd p:Int)] (λ_=>True) [SW z M] (λv H=>v= .tuple #[.int .u64 ((M.it p).tok:Int), .int .i64 0]∧H= [SW z M]):=
 mF λwa wc B O=>by
  have eK:=(O.al p).2 hp;have h:=zx z.y.b B.C O.k p (O.sM eK) (O.t.it p eK).k0;rw[O.hd,show rd B.C.A (p+32) 8=(M.it p).tok from(O.je eK).2.2.1]at h;exact⟨_,h,λk k0 le h aw=>aw.nth 0 rfl⟩
theorem FQ (z:Ly)(M:Mo)(c:Int):aH acw 62 [.pointer (some ⟨z.y.b,0,none⟩), .int .i64 c] (λ_=>True) [SW z M] (λv H=>v= .int .i64 (ofM M.C c λi=>M.C.sz i:Nat)∧H= [SW z M]):=
 mF λwa wc B O=>by
  have h:=tU z.y.b B.C O.k c;have e:(ofM B.C c λi=>B.C.sz i)=ofM M.C c λi=>M.C.sz i:=by
   conv=>lhs;rw[O.c]
   rfl
  rw[e]at h;exact⟨_,h,λk k0 le h aw=>aw.nth 0 rfl⟩
theorem QB (z:Ly)(M:Mo):aH acw 46 [.pointer (some ⟨z.y.ck,0,none⟩)] (λ_=>True) [SW z M] (λv H=>v= .int .i64 (M.k.now:Int)∧H= [SW z M]):=
 mF λwa wc B O=>⟨_,iS z.y.ck M.k,λk k0 le h aw=>aw.nth 9 rfl⟩
theorem yZ (z:Ly)(M:Mo)(p:Nat)(hp:M.has p):aH acw 88 [.pointer (some ⟨z.y.b,0,none⟩), .int .u64 (M.C.hd p:Int)] (λ_=>True) [SW z M]
  (λv H=>∃H0,(∃kb vb st,1≤st∧st≤3∧p∈ql M.Q (qi (M.C.cl p) st)∧v= .tuple #[.agg (D8 (.slice (some ⟨kb,0,none⟩) (M.it p).key.length (M.it p).key.length) (.slice (some ⟨vb,0,none⟩) (M.it p).val.length (M.it p).val.length) (M.it p).fl (M.it p).exp (M.it p).tch (M.it p).tok st (M.it p).dB).toArray, .int .i64 0]∧
   H0= [own (some ⟨kb,0,none⟩) (M.it p).key.length 5 1 (ai (M.it p).key),own (some ⟨vb,0,none⟩) (M.it p).val.length 5 1 (ai (M.it p).val)])∧H=H0++ [SW z M]):=
 Hu λwa wc B O=>by
  have eK:=(O.al p).2 hp;obtain⟨f1,f2,f3,f4,f5,f6,f7⟩:=O.je eK;rw[show(M.aK wa wc).it p=M.it p from rfl]at f1 f2 f3 f4 f5 f6 f7;have lk:kl B.C.A p=(M.it p).key.length:=by rw[←f5];exact(dC _ _ _).symm
  have lv:vl B.C.A p=(M.it p).val.length:=by rw[←f6];exact(dC _ _ _).symm
  have iY:∃i,p∈ql M.Q i:=hp;obtain⟨i,hi⟩:=iY;have hs:=O.o.st i p hi;have h:=xf z.y.b B.C O.k p (O.sM eK) (O.t.it p eK);rw[O.hd,show rd B.C.A (p+40) 4=(M.it p).fl from f7,show rd B.C.A (p+16) 8=(M.it p).exp from f1,show rd B.C.A (p+24) 8=(M.it p).tch from f2,show rd B.C.A (p+32) 8=(M.it p).tok from f3,show rd B.C.A (p+46) 1=(M.it p).dB from f4,lk,lv,f5,f6]at h;refine⟨_,h.out ?_,λk k0 le h aw=>aw.nth 0 rfl⟩;rintro v H ⟨kb,vb,e1,e2⟩;refine⟨H,⟨kb,vb,jc B.C.A p,hs.1,hs.2.1, ?_,e1,e2⟩,λ_ s=>s⟩;have:=hs.2.2;rw[show B.C.cl p=M.C.cl p from O.cl p]at this;rw[←this];exact hi
theorem oR{n:Nat}{ds:List Deferred}{F:ee}{K:Act→World→Prop}{σ:ba}{z:Ly}{M:Mo}{H:List aa}(h:∀a c B,bY B (M.aK a c)→G n ds F K σ (SW z M::H)):G n ds F K σ (SW z M::H):=
 yP λa c=>ND λB O=>Yb a c (h a c B O)
theorem bY.hdp{B:Bx}{M:Mo}(O:bY B M){p:Nat}(hp:M.has p):0<M.C.hd p∧M.C.hd p<18446744073709551616:=by
 have h:=cB O.k (O.om ((O.al p).2 hp));rw[O.hd]at h;obtain⟨h1,h2,h3,h4,h5,h6⟩:=h;exact⟨by omega,by omega⟩
theorem mH{M N:Mo}{k:List UInt8}{p:Nat}(h:M.meet k=(some p,N)):M.has p∧(M.it p).key=k∧N=M.fj 0:=by
 unfold Mo.meet at h;cases hf:M.find k with
 |none=>rw[hf]at h;simp at h
 |some q=>
  rw[hf]at h;dsimp only at h
  split at h
  ·simp at h
  simp only[Prod.mk.injEq,Option.some.injEq]at h;obtain⟨rfl,rfl⟩:=h;obtain⟨h1,h2⟩:=mM hf;exact⟨h1,h2,rfl⟩
structure ff where
 kind:Nat
 dM:List I3
 num:Nat
 sQ:List UInt8
def ff.k (n:Nat):ff:=⟨n,[],0,[]⟩
def ff.t (t:List UInt8):ff:=⟨11,[],0,t⟩
def sY (a:ff):Value:=lV a.kind aG a.num a.sQ
def qn (v:Value):Value:= .iface 113 v
theorem xm (z:Ly)(M:Mo)(c:dI)(ka:Option Addr)(kc:Nat)(da:Option Addr)(dc:Nat)(mv:Value)(iG:mv.oneCell'=true)(k:List UInt8)(r:List (List UInt8))(jP:c.keys=k::r)(hk:k.length<281474976710656)(hw:M.jz.length<1073741824):
  Uy acw 74 [.pointer (some ⟨z.s,0,none⟩), .agg (cy c ka kc da dc mv).toArray] (λh=>dU h ka (eR c.keys)) [SW z M]
   (λv H=>∃p N,M.meet k=(some p,N)∧v= .int .u64 (M.C.hd p:Int)∧H= [SW z N]) (λv H=>∃N,M.meet k=(none,N)∧v=qn (sY (.k 4))∧H= [SW z N]):=by
 refine kS func74 rfl ntmps74 rfl ?_;intro F hr;have uI:(eR c.keys)[0]?=some (aB k):=by rw[jP];rfl
 have Mw:ka.isSome=true:=by obtain⟨ad,e,_⟩:=hr 0 _ uI;rw[e];rfl
 have sU:0<c.keys.length:=by rw[jP];exact aiz _
 refine ay ?_;refine Lp (oB λb1=> ?_);refine a8 ?_;refine aC (λ_ x=>dK x) ?_;refine oR λa c B O=> ?_;refine aR ?_;refine Li (Ix (j:=0) T.nR) ?_;refine ay ?_;refine zl T.Fv (w7 z M k hk hw) (.cons .here .nil) (λ_ _ _=>trivial) ?_;rcases hm:M.meet k with⟨_|p,N⟩
 ·refine Li As ?_
  refine bw ?_;refine Li (T6 T.gn) ?_;refine Lp (TD ?_);refine pP [SW z N] ?_;exact⟨N,rfl,rfl,rfl⟩
 have hp:=O.hdp (mH hm).1;change 0<M.C.hd p∧_ at hp;refine bH ?_;refine cu ?_ (e:=by exact decide_eq_false (by show¬(((M.C.hd p:Nat):Int)=0);omega));refine bH ?_;refine pR ?_;refine Rt [SW z N] results74 ?_;exact⟨p,N,rfl,rfl,rfl⟩
def Mo.over (M:Mo)(old:Option Nat)(ov:Bool):Mo:=match old with|some p=>if ov=true then M.cD p else M|none=>M
theorem l9 (z:Ly)(M:Mo)(old:Option Nat)(hold:∀p,old=some p→M.has p)(over:Bool)(t:List UInt8):
  Uy acw 119 [.pointer (some ⟨z.s,0,none⟩), .int .u64 (vP M.C old:Int), .bool over,aB t] (λ_=>True) [SW z M]
   (λ_ _=>False) (λv H=>v=qn (sY (.t t))∧H= [SW z (M.over old over)]):=by
 refine kS func119 rfl ntmps119 rfl ?_;intro F _;refine oR λa c B O=> ?_;rcases old with _|p
 ·refine au ?_
  refine aR ?_;refine zf 10 ?_ (e:=by rfl);refine cI ?_;refine zl T.rL (gz t) .nil (λ_ _ _=>trivial) ?_;refine Li (T6 T.gn) ?_;refine Lp (TD ?_);refine pP [SW z M] ?_;exact⟨rfl,rfl⟩
 have hp:=O.hdp (hold p rfl);change 0<M.C.hd p∧_ at hp;rcases over with _|_
 ·refine au ?_
  refine aR ?_;refine zt 10 ?_ (e:=by exact congrArg (!·) (decide_eq_false (by show¬(((M.C.hd p:Nat):Int)=0);omega)));refine cI ?_;refine zl T.rL (gz t) .nil (λ_ _ _=>trivial) ?_;refine Li (T6 T.gn) ?_;refine Lp (TD ?_);refine pP [SW z M] ?_;exact⟨rfl,rfl⟩
 refine au ?_;refine aR ?_;refine zt 10 ?_ (e:=by exact congrArg (!·) (decide_eq_false (by show¬(((M.C.hd p:Nat):Int)=0);omega)));refine bH ?_;refine zl T.Ha (tz z M p (hold p rfl)) (.cons .here .nil) (λ_ _ _=>trivial) ?_;refine aZ ?_;refine zl T.rL (gz t) .nil (λ_ _ _=>trivial) ?_;refine Li (T6 T.gn) ?_;refine Lp (TD ?_);refine pP [SW z (M.cD p)] ?_;exact⟨rfl,rfl⟩
def aX (verb:Int)(vZ:Nat)(old:Option Nat)(tok:Nat→Nat):Nat:=
 if verb=6 then(if old.isSome then 2 else 0)
 else if verb=7∨verb=8∨verb=9 then(if old.isSome then 0 else 2)
 else if verb=10 then(match old with|none=>4|some p=>if tok p=vZ then 0 else 3)
 else 0
theorem Xc (z:Ly)(M:Mo)(c:dI)(ka:Option Addr)(kc:Nat)(da:Option Addr)(dc:Nat)(mv:Value)(iG:mv.oneCell'=true)(old:Option Nat)(hold:∀p,old=some p→M.has p):
  Uy acw 120 [.pointer (some ⟨z.s,0,none⟩), .agg (cy c ka kc da dc mv).toArray, .int .u64 (vP M.C old:Int)] (λ_=>True) [SW z M]
   (λv H=>aX c.verb c.tok old (λp=>(M.it p).tok)=0∧v= .tuple #[]∧H= [SW z M]) (λv H=>∃n,aX c.verb c.tok old (λp=>(M.it p).tok)=n∧n≠0∧v=qn (sY (.k n))∧H= [SW z M]):=by
 refine kS func120 rfl ntmps120 rfl ?_;intro F _;refine ay ?_;refine Lp (oB λb1=> ?_);refine ay ?_;refine aC (λ_ x=>dK x) ?_;refine oR λa b B O=> ?_;refine aZ ?_;refine au ?_;refine cg (ι:=Nat) [9,10,12,11,13,14,6,16,15,17,18,19,20,22,21,23,24,26,27,28,29,30,31,32,25,33,34,7,8,35,36,37,38] (λn=>aX c.verb c.tok old (λp=>(M.it p).tok)=n) (λn=> [(6, .int .i64 (n:Int))]) (λn=> [SW z M]) ?_ ?_
 ·rcases old with _|p
  ·have e0:vP M.C none=0:=rfl
   refine cN ?_;refine av rfl ?_ ?_
   ·intro cn
    replace cn:=aD cn;refine aR ?_;refine av rfl ?_ ?_
    ·intro cm
     replace cm:=aD cm;refine aR ?_;refine Me (aX c.verb c.tok _ _) (rfl) (hs:=⟨(by refine congrArg (λq=>some (Value.int .i64 q)) ?_;unfold aX;try dsimp only;(repeat' split)<;>first|rfl|(exfalso;omega)|simp_all),trivial⟩)
    intro cm;replace cm:=aD cm;refine a8 ?_;refine Me (aX c.verb c.tok _ _) (rfl) (hs:=⟨(by refine congrArg (λq=>some (Value.int .i64 q)) ?_;unfold aX;try dsimp only;(repeat' split)<;>first|rfl|(exfalso;omega)|simp_all),trivial⟩)
   intro cn;replace cn:=aD cn;refine bc ?_;refine av rfl ?_ ?_
   ·intro cm
    replace cm:=aD cm;refine a8 ?_;refine av rfl ?_ ?_
    ·intro bS
     replace bS:=aD bS;refine aR ?_;refine av rfl ?_ ?_
     ·intro bP
      replace bP:=aD bP;refine aR ?_;refine Me (aX c.verb c.tok _ _) (rfl) (hs:=⟨(by refine congrArg (λq=>some (Value.int .i64 q)) ?_;unfold aX;try dsimp only;(repeat' split)<;>first|rfl|(exfalso;omega)|simp_all),trivial⟩)
     intro bP;replace bP:=aD bP;refine a8 ?_;refine Me (aX c.verb c.tok _ _) (rfl) (hs:=⟨(by refine congrArg (λq=>some (Value.int .i64 q)) ?_;unfold aX;try dsimp only;(repeat' split)<;>first|rfl|(exfalso;omega)|simp_all),trivial⟩)
    intro bS;replace bS:=aD bS;refine aR ?_;refine av rfl ?_ ?_
    ·intro bP
     replace bP:=aD bP;refine aR ?_;refine av rfl ?_ ?_
     ·intro cG
      replace cG:=aD cG;refine aR ?_;refine Me (aX c.verb c.tok _ _) (rfl) (hs:=⟨(by refine congrArg (λq=>some (Value.int .i64 q)) ?_;unfold aX;try dsimp only;(repeat' split)<;>first|rfl|(exfalso;omega)|simp_all),trivial⟩)
     intro cG;replace cG:=aD cG;refine bH ?_;refine zl T.qU ((show aH acw 135 [.pointer (some ⟨z.y.b,0,none⟩), .int .u64 (vP M.C none:Int)] (λ_=>True) [SW z M] (λv H=>v= .tuple #[.int .u64 0, .int .i64 0]∧H= [SW z M])from λF w _ _=>by exfalso;omega)) (.cons .here .nil) (λ_ _ _=>trivial) ?_;refine dQ ?_;refine av rfl ?_ ?_
     ·intro gg
      replace gg:=aD gg;refine aR ?_;refine Me (aX c.verb c.tok _ _) (rfl) (hs:=⟨(by refine congrArg (λq=>some (Value.int .i64 q)) ?_;unfold aX;try dsimp only;(repeat' split)<;>first|rfl|(exfalso;omega)|simp_all),trivial⟩)
     intro gg;replace gg:=aD gg;refine a8 ?_;refine Me (aX c.verb c.tok _ _) (rfl) (hs:=⟨(by refine congrArg (λq=>some (Value.int .i64 q)) ?_;unfold aX;try dsimp only;(repeat' split)<;>first|rfl|(exfalso;omega)|simp_all),trivial⟩)
    intro bP;replace bP:=aD bP;refine a8 ?_;refine Me (aX c.verb c.tok _ _) (rfl) (hs:=⟨(by refine congrArg (λq=>some (Value.int .i64 q)) ?_;unfold aX;try dsimp only;(repeat' split)<;>first|rfl|(exfalso;omega)|simp_all),trivial⟩)
   intro cm;replace cm:=aD cm;refine aR ?_;refine av rfl ?_ ?_
   ·intro bS
    replace bS:=aD bS;refine a8 ?_;refine av rfl ?_ ?_
    ·intro bP
     replace bP:=aD bP;refine aR ?_;refine av rfl ?_ ?_
     ·intro cG
      replace cG:=aD cG;refine aR ?_;refine Me (aX c.verb c.tok _ _) (rfl) (hs:=⟨(by refine congrArg (λq=>some (Value.int .i64 q)) ?_;unfold aX;try dsimp only;(repeat' split)<;>first|rfl|(exfalso;omega)|simp_all),trivial⟩)
     intro cG;replace cG:=aD cG;refine a8 ?_;refine Me (aX c.verb c.tok _ _) (rfl) (hs:=⟨(by refine congrArg (λq=>some (Value.int .i64 q)) ?_;unfold aX;try dsimp only;(repeat' split)<;>first|rfl|(exfalso;omega)|simp_all),trivial⟩)
    intro bP;replace bP:=aD bP;refine aR ?_;refine av rfl ?_ ?_
    ·intro cG
     replace cG:=aD cG;refine aR ?_;refine av rfl ?_ ?_
     ·intro gg
      replace gg:=aD gg;refine aR ?_;refine Me (aX c.verb c.tok _ _) (rfl) (hs:=⟨(by refine congrArg (λq=>some (Value.int .i64 q)) ?_;unfold aX;try dsimp only;(repeat' split)<;>first|rfl|(exfalso;omega)|simp_all),trivial⟩)
     intro gg;replace gg:=aD gg;refine bH ?_;refine zl T.qU ((show aH acw 135 [.pointer (some ⟨z.y.b,0,none⟩), .int .u64 (vP M.C none:Int)] (λ_=>True) [SW z M] (λv H=>v= .tuple #[.int .u64 0, .int .i64 0]∧H= [SW z M])from λF w _ _=>by exfalso;omega)) (.cons .here .nil) (λ_ _ _=>trivial) ?_;refine dQ ?_;refine av rfl ?_ ?_
     ·intro ng
      replace ng:=aD ng;refine aR ?_;refine Me (aX c.verb c.tok _ _) (rfl) (hs:=⟨(by refine congrArg (λq=>some (Value.int .i64 q)) ?_;unfold aX;try dsimp only;(repeat' split)<;>first|rfl|(exfalso;omega)|simp_all),trivial⟩)
     intro ng;replace ng:=aD ng;refine a8 ?_;refine Me (aX c.verb c.tok _ _) (rfl) (hs:=⟨(by refine congrArg (λq=>some (Value.int .i64 q)) ?_;unfold aX;try dsimp only;(repeat' split)<;>first|rfl|(exfalso;omega)|simp_all),trivial⟩)
    intro cG;replace cG:=aD cG;refine a8 ?_;refine Me (aX c.verb c.tok _ _) (rfl) (hs:=⟨(by refine congrArg (λq=>some (Value.int .i64 q)) ?_;unfold aX;try dsimp only;(repeat' split)<;>first|rfl|(exfalso;omega)|simp_all),trivial⟩)
   intro bS;replace bS:=aD bS;refine aR ?_;refine av rfl ?_ ?_
   ·intro bP
    replace bP:=aD bP;refine aR ?_;refine av rfl ?_ ?_
    ·intro cG
     replace cG:=aD cG;refine aR ?_;refine Me (aX c.verb c.tok _ _) (rfl) (hs:=⟨(by refine congrArg (λq=>some (Value.int .i64 q)) ?_;unfold aX;try dsimp only;(repeat' split)<;>first|rfl|(exfalso;omega)|simp_all),trivial⟩)
    intro cG;replace cG:=aD cG;refine a8 ?_;refine Me (aX c.verb c.tok _ _) (rfl) (hs:=⟨(by refine congrArg (λq=>some (Value.int .i64 q)) ?_;unfold aX;try dsimp only;(repeat' split)<;>first|rfl|(exfalso;omega)|simp_all),trivial⟩)
   intro bP;replace bP:=aD bP;refine aR ?_;refine av rfl ?_ ?_
   ·intro cG
    replace cG:=aD cG;refine aR ?_;refine av rfl ?_ ?_
    ·intro gg
     replace gg:=aD gg;refine aR ?_;refine Me (aX c.verb c.tok _ _) (rfl) (hs:=⟨(by refine congrArg (λq=>some (Value.int .i64 q)) ?_;unfold aX;try dsimp only;(repeat' split)<;>first|rfl|(exfalso;omega)|simp_all),trivial⟩)
    intro gg;replace gg:=aD gg;refine bH ?_;refine zl T.qU ((show aH acw 135 [.pointer (some ⟨z.y.b,0,none⟩), .int .u64 (vP M.C none:Int)] (λ_=>True) [SW z M] (λv H=>v= .tuple #[.int .u64 0, .int .i64 0]∧H= [SW z M])from λF w _ _=>by exfalso;omega)) (.cons .here .nil) (λ_ _ _=>trivial) ?_;refine dQ ?_;refine av rfl ?_ ?_
    ·intro ng
     replace ng:=aD ng;refine aR ?_;refine Me (aX c.verb c.tok _ _) (rfl) (hs:=⟨(by refine congrArg (λq=>some (Value.int .i64 q)) ?_;unfold aX;try dsimp only;(repeat' split)<;>first|rfl|(exfalso;omega)|simp_all),trivial⟩)
    intro ng;replace ng:=aD ng;refine a8 ?_;refine Me (aX c.verb c.tok _ _) (rfl) (hs:=⟨(by refine congrArg (λq=>some (Value.int .i64 q)) ?_;unfold aX;try dsimp only;(repeat' split)<;>first|rfl|(exfalso;omega)|simp_all),trivial⟩)
   intro cG;replace cG:=aD cG;refine a8 ?_;refine Me (aX c.verb c.tok _ _) (rfl) (hs:=⟨(by refine congrArg (λq=>some (Value.int .i64 q)) ?_;unfold aX;try dsimp only;(repeat' split)<;>first|rfl|(exfalso;omega)|simp_all),trivial⟩)
  have hp:=O.hdp (hold p rfl);have e0:vP M.C (some p)=M.C.hd p:=rfl;change 0<M.C.hd p∧_ at hp;refine cN ?_;refine av rfl ?_ ?_
  ·intro cn
   replace cn:=aD cn;refine aR ?_;refine av rfl ?_ ?_
   ·intro cm
    replace cm:=aD cm;refine aR ?_;refine Me (aX c.verb c.tok _ _) (rfl) (hs:=⟨(by refine congrArg (λq=>some (Value.int .i64 q)) ?_;unfold aX;try dsimp only;(repeat' split)<;>first|rfl|(exfalso;omega)|simp_all),trivial⟩)
   intro cm;replace cm:=aD cm;refine a8 ?_;refine Me (aX c.verb c.tok _ _) (rfl) (hs:=⟨(by refine congrArg (λq=>some (Value.int .i64 q)) ?_;unfold aX;try dsimp only;(repeat' split)<;>first|rfl|(exfalso;omega)|simp_all),trivial⟩)
  intro cn;replace cn:=aD cn;refine bc ?_;refine av rfl ?_ ?_
  ·intro cm
   replace cm:=aD cm;refine a8 ?_;refine av rfl ?_ ?_
   ·intro bS
    replace bS:=aD bS;refine aR ?_;refine av rfl ?_ ?_
    ·intro bP
     replace bP:=aD bP;refine aR ?_;refine Me (aX c.verb c.tok _ _) (rfl) (hs:=⟨(by refine congrArg (λq=>some (Value.int .i64 q)) ?_;unfold aX;try dsimp only;(repeat' split)<;>first|rfl|(exfalso;omega)|simp_all),trivial⟩)
    intro bP;replace bP:=aD bP;refine a8 ?_;refine Me (aX c.verb c.tok _ _) (rfl) (hs:=⟨(by refine congrArg (λq=>some (Value.int .i64 q)) ?_;unfold aX;try dsimp only;(repeat' split)<;>first|rfl|(exfalso;omega)|simp_all),trivial⟩)
   intro bS;replace bS:=aD bS;refine aR ?_;refine av rfl ?_ ?_
   ·intro bP
    replace bP:=aD bP;refine aR ?_;refine av rfl ?_ ?_
    ·intro cG
     replace cG:=aD cG;refine aR ?_;refine Me (aX c.verb c.tok _ _) (rfl) (hs:=⟨(by refine congrArg (λq=>some (Value.int .i64 q)) ?_;unfold aX;try dsimp only;(repeat' split)<;>first|rfl|(exfalso;omega)|simp_all),trivial⟩)
    intro cG;replace cG:=aD cG;refine bH ?_;refine zl T.qU (q9 z M p (hold p rfl)) (.cons .here .nil) (λ_ _ _=>trivial) ?_;refine dQ ?_;refine av rfl ?_ ?_
    ·intro gg
     replace gg:=aD gg;refine aR ?_;refine Me (aX c.verb c.tok _ _) (rfl) (hs:=⟨(by refine congrArg (λq=>some (Value.int .i64 q)) ?_;unfold aX;try dsimp only;(repeat' split)<;>first|rfl|(exfalso;omega)|simp_all),trivial⟩)
    intro gg;replace gg:=aD gg;refine a8 ?_;refine Me (aX c.verb c.tok _ _) (rfl) (hs:=⟨(by refine congrArg (λq=>some (Value.int .i64 q)) ?_;unfold aX;try dsimp only;(repeat' split)<;>first|rfl|(exfalso;omega)|simp_all),trivial⟩)
   intro bP;replace bP:=aD bP;refine a8 ?_;refine Me (aX c.verb c.tok _ _) (rfl) (hs:=⟨(by refine congrArg (λq=>some (Value.int .i64 q)) ?_;unfold aX;try dsimp only;(repeat' split)<;>first|rfl|(exfalso;omega)|simp_all),trivial⟩)
  intro cm;replace cm:=aD cm;refine aR ?_;refine av rfl ?_ ?_
  ·intro bS
   replace bS:=aD bS;refine a8 ?_;refine av rfl ?_ ?_
   ·intro bP
    replace bP:=aD bP;refine aR ?_;refine av rfl ?_ ?_
    ·intro cG
     replace cG:=aD cG;refine aR ?_;refine Me (aX c.verb c.tok _ _) (rfl) (hs:=⟨(by refine congrArg (λq=>some (Value.int .i64 q)) ?_;unfold aX;try dsimp only;(repeat' split)<;>first|rfl|(exfalso;omega)|simp_all),trivial⟩)
    intro cG;replace cG:=aD cG;refine a8 ?_;refine Me (aX c.verb c.tok _ _) (rfl) (hs:=⟨(by refine congrArg (λq=>some (Value.int .i64 q)) ?_;unfold aX;try dsimp only;(repeat' split)<;>first|rfl|(exfalso;omega)|simp_all),trivial⟩)
   intro bP;replace bP:=aD bP;refine aR ?_;refine av rfl ?_ ?_
   ·intro cG
    replace cG:=aD cG;refine aR ?_;refine av rfl ?_ ?_
    ·intro gg
     replace gg:=aD gg;refine aR ?_;refine Me (aX c.verb c.tok _ _) (rfl) (hs:=⟨(by refine congrArg (λq=>some (Value.int .i64 q)) ?_;unfold aX;try dsimp only;(repeat' split)<;>first|rfl|(exfalso;omega)|simp_all),trivial⟩)
    intro gg;replace gg:=aD gg;refine bH ?_;refine zl T.qU (q9 z M p (hold p rfl)) (.cons .here .nil) (λ_ _ _=>trivial) ?_;refine dQ ?_;refine av rfl ?_ ?_
    ·intro ng
     replace ng:=aD ng;refine aR ?_;refine Me (aX c.verb c.tok _ _) (rfl) (hs:=⟨(by refine congrArg (λq=>some (Value.int .i64 q)) ?_;unfold aX;try dsimp only;(repeat' split)<;>first|rfl|(exfalso;omega)|simp_all),trivial⟩)
    intro ng;replace ng:=aD ng;refine a8 ?_;refine Me (aX c.verb c.tok _ _) (rfl) (hs:=⟨(by refine congrArg (λq=>some (Value.int .i64 q)) ?_;unfold aX;try dsimp only;(repeat' split)<;>first|rfl|(exfalso;omega)|simp_all),trivial⟩)
   intro cG;replace cG:=aD cG;refine a8 ?_;refine Me (aX c.verb c.tok _ _) (rfl) (hs:=⟨(by refine congrArg (λq=>some (Value.int .i64 q)) ?_;unfold aX;try dsimp only;(repeat' split)<;>first|rfl|(exfalso;omega)|simp_all),trivial⟩)
  intro bS;replace bS:=aD bS;refine aR ?_;refine av rfl ?_ ?_
  ·intro bP
   replace bP:=aD bP;refine aR ?_;refine av rfl ?_ ?_
   ·intro cG
    replace cG:=aD cG;refine aR ?_;refine Me (aX c.verb c.tok _ _) (rfl) (hs:=⟨(by refine congrArg (λq=>some (Value.int .i64 q)) ?_;unfold aX;try dsimp only;(repeat' split)<;>first|rfl|(exfalso;omega)|simp_all),trivial⟩)
   intro cG;replace cG:=aD cG;refine a8 ?_;refine Me (aX c.verb c.tok _ _) (rfl) (hs:=⟨(by refine congrArg (λq=>some (Value.int .i64 q)) ?_;unfold aX;try dsimp only;(repeat' split)<;>first|rfl|(exfalso;omega)|simp_all),trivial⟩)
  intro bP;replace bP:=aD bP;refine aR ?_;refine av rfl ?_ ?_
  ·intro cG
   replace cG:=aD cG;refine aR ?_;refine av rfl ?_ ?_
   ·intro gg
    replace gg:=aD gg;refine aR ?_;refine Me (aX c.verb c.tok _ _) (rfl) (hs:=⟨(by refine congrArg (λq=>some (Value.int .i64 q)) ?_;unfold aX;try dsimp only;(repeat' split)<;>first|rfl|(exfalso;omega)|simp_all),trivial⟩)
   intro gg;replace gg:=aD gg;refine bH ?_;refine zl T.qU (q9 z M p (hold p rfl)) (.cons .here .nil) (λ_ _ _=>trivial) ?_;refine dQ ?_;refine av rfl ?_ ?_
   ·intro ng
    replace ng:=aD ng;refine aR ?_;refine Me (aX c.verb c.tok _ _) (rfl) (hs:=⟨(by refine congrArg (λq=>some (Value.int .i64 q)) ?_;unfold aX;try dsimp only;(repeat' split)<;>first|rfl|(exfalso;omega)|simp_all),trivial⟩)
   intro ng;replace ng:=aD ng;refine a8 ?_;refine Me (aX c.verb c.tok _ _) (rfl) (hs:=⟨(by refine congrArg (λq=>some (Value.int .i64 q)) ?_;unfold aX;try dsimp only;(repeat' split)<;>first|rfl|(exfalso;omega)|simp_all),trivial⟩)
  intro cG;replace cG:=aD cG;refine a8 ?_;refine Me (aX c.verb c.tok _ _) (rfl) (hs:=⟨(by refine congrArg (λq=>some (Value.int .i64 q)) ?_;unfold aX;try dsimp only;(repeat' split)<;>first|rfl|(exfalso;omega)|simp_all),trivial⟩)
 rintro n hI;refine aR ?_;by_cases hn:n=0
 ·refine cu ?_ (e:=by exact congrArg (!·) (decide_eq_true (by omega)))
  refine ay ?_;refine pN ?_;refine jM [SW z M] results120 ?_;exact⟨hI.trans hn,rfl,rfl⟩
 refine dz ?_ (e:=by exact congrArg (!·) (decide_eq_false (by omega)));refine aR ?_;refine Li (T6 T.gn) ?_;refine Lp (TD ?_);refine pP [SW z M] ?_;exact⟨n,hI,hn,rfl,rfl⟩
def Mo.cz (M:Mo)(k:List UInt8)(ex:Int):ff×Mo:=match M.meet k with
 |(none,N)=>(.k 4,N)
 |(some p,N)=>(.k 6,(N.time p (cF N.k.now ex)).eO p)
theorem FK (z:Ly)(M:Mo)(c:dI)(ka:Option Addr)(kc:Nat)(da:Option Addr)(dc:Nat)(mv:Value)(iG:mv.oneCell'=true)(k:List UInt8)(r:List (List UInt8))(jP:c.keys=k::r)(hk:k.length<281474976710656)(hw:M.jz.length<1073741824)(hex:c.ex<9223372036854775808)(tY:M.tn<18446744073709551615):
  Uy acw 73 [.pointer (some ⟨z.s,0,none⟩), .agg (cy c ka kc da dc mv).toArray] (λh=>dU h ka (eR c.keys)) [SW z M]
   (λv H=>∃a N,M.cz k c.ex=(a,N)∧v=sY a∧H= [SW z N]) (λv H=>∃a N,M.cz k c.ex=(a,N)∧v=qn (sY a)∧H= [SW z N]):=by
 refine kS func73 rfl ntmps73 rfl ?_;intro F hr;refine ay ?_;refine Lp (oB λb1=> ?_);refine Lp (oA T.iu λb2=> ?_);refine aR ?_;refine Lp (MM T.NF rfl rfl (xm z M c ka kc da dc mv iG k r jP hk hw) (.cons (.there (.there .here)) .nil) (λ_ le _=>hr.mono le) (by rintro v H' ⟨N,hm,rfl,rfl⟩;exact pP [SW z N] ⟨.k 4,N,by unfold Mo.cz;rw[hm],rfl,rfl⟩) ?_);rintro v H' ⟨p,N,hm,rfl,rfl⟩;refine bd ?_;obtain⟨m1,m2,m3⟩:=mH hm;have hN:N.has p:=by rw[m3];exact m1
 have hC:M.C=N.C:=by rw[m3];rfl
 rw[hC];refine bH ?_;refine zl T.Fu (q8 z N p hN c.ex hex (by rw[m3];exact tY)) (.cons .here .nil) (λ_ _ _=>trivial) ?_;refine aR ?_;have ht:=wY z (N.time p (cF N.k.now c.ex)) p hN;rw[show(N.time p (cF N.k.now c.ex)).C.hd p=N.C.hd p from rfl]at ht;refine zl T.Ft (ht) (.cons .here .nil) (λ_ _ _=>trivial) ?_;refine bB ?_;refine pR ?_;refine ko [SW z ((N.time p (cF N.k.now c.ex)).eO p)] T.aS results73 ?_;exact⟨.k 6,_,by unfold Mo.cz;rw[hm],rfl,rfl⟩
def fY (l:List (I3×Nat)):List Value:=l.flatMap λx=>jQ x.1 (.slice (some ⟨x.2,0,none⟩) x.1.val.length x.1.val.length)
def gV (l:List (I3×Nat)):aa:=aN (l.map λx=>own (some ⟨x.2,0,none⟩) x.1.val.length 5 1 (ai x.1.val))
def Mo.cL (eP:Bool)(ex:Int)(s:List I3×Mo)(k:List UInt8):List I3×Mo:=match s.2.meet k with
 |(none,N)=>(s.1,N)
 |(some p,N)=>let N2:=if eP then N.time p (cF N.k.now ex)else N;(s.1++ [N2.it p],N2.eO p)
def Mo.jX (M:Mo)(verb:Int)(keys:List (List UInt8))(ex:Int):ff×Mo:=let r:=keys.foldl (Mo.cL (decide (verb=3∨verb=4)) ex) ([],M);(⟨9,r.1,0,[]⟩,r.2)
theorem zL (l:List (I3×Nat)):(fY l).length=l.length*9:=by
 unfold fY;rw[List.length_flatMap];rw[show(λx:I3×Nat=>(jQ x.1 (.slice (some ⟨x.2,0,none⟩) x.1.val.length x.1.val.length)).length)=λ_=>9 from rfl];simp[List.map_const',Nat.mul_comm]
theorem su{n:Nat}{ds:List Deferred}{F:ee}{K:Act→World→Prop}{σ:ba}{H:List aa}(h:G n ds F K σ (gV []::H)):G n ds F K σ H:=
 aC (λk s=>nY s) h
theorem LX{l:List (I3×Nat)}{x:I3}{vb:Nat}{H:List aa}{h:Hp}(s:ak (gV l::own (some ⟨vb,0,none⟩) x.val.length 5 1 (ai x.val)::H) h):ak (gV (l++ [(x,vb)])::H) h:=by
 unfold gV at*;rw[adq];exact xP (M:= [own (some ⟨vb,0,none⟩) x.val.length 5 1 (ai x.val)]) s
theorem Gt (l:List (I3×Nat))(x:I3)(vb:Nat):fY (l++ [(x,vb)])=fY l++jQ x (.slice (some ⟨vb,0,none⟩) x.val.length x.val.length):=by
 unfold fY;rw[List.flatMap_append];simp
theorem Rl (M:Mo)(k:List UInt8):(M.meet k).2.jz.length=M.jz.length+1∧(M.meet k).2.tn=M.tn:=by
 unfold Mo.meet;cases M.find k with
 |none=>exact⟨by simp[Mo.fj],rfl⟩
 |some p=>
  dsimp only
  split
  ·exact⟨by simp[Mo.fj,Mo.cD],rfl⟩
  exact⟨by simp[Mo.fj],rfl⟩
theorem AP (M:Mo)(p e:Nat):(M.time p e).tn≤M.tn+1:=by
 unfold Mo.time;dsimp only
 split<;>omega
theorem WI (z:Ly)(M:Mo)(c:dI)(ka:Option Addr)(kc:Nat)(da:Option Addr)(dc:Nat)(mv:Value)(iG:mv.oneCell'=true)(hk:∀k∈c.keys,k.length<281474976710656)(hn:c.keys.length<1073741824)(hw:M.jz= [])(hex:c.ex<9223372036854775808)(tY:M.tn+c.keys.length<18446744073709551615):
  aH acw 71 [.pointer (some ⟨z.s,0,none⟩), .agg (cy c ka kc da dc mv).toArray] (λh=>dU h ka (eR c.keys)) [SW z M]
   (λv H=>∃a N ea ec l,M.jX c.verb c.keys c.ex=(a,N)∧l.map Prod.fst=a.dM∧v=lV a.kind (.slice ea l.length ec) a.num a.sQ∧H= [own ea ec 49 9 (fY l),gV l,SW z N]):=by
 refine ae func71 rfl ntmps71 rfl ?_;intro F hr;refine ay ?_;refine Lp (oB λb1=> ?_);refine Lp (oA T.iu λb2=> ?_);refine aZ ?_;refine Lp (oA T.iu λb3=> ?_);refine bw ?_;refine aT 49 9 ?_;refine su ?_;refine Lo (ι:=Nat×List (I3×Nat)×Mo×Option Addr×Nat) [14,15,16,7,17,18,19,8,20,21,22,23,24,25,26,27,28,29,30,31,32,33,34,35,36,37,38,39,40,41,42,43,44,45,46,13] (λs=>(s.1≤c.keys.length∧s.2.2.1.jz.length=s.1∧s.2.2.1.tn≤M.tn+s.1∧s.2.1.length≤s.1)∧(c.keys.take s.1).foldl (Mo.cL (decide (c.verb=3∨c.verb=4)) c.ex) ([],M)=(s.2.1.map Prod.fst,s.2.2.1)) (λs=> [(13, .int .i64 (s.1:Int))]) (λs=> [SW z s.2.2.1,ag b1 47 (cy c ka kc da dc mv),ag b2 41 [.int .i64 0,aG, .int .u64 0,aB [],aG],ag b3 41 [.int .i64 9, .slice s.2.2.2.1 s.2.1.length s.2.2.2.2, .int .u64 0,aB [],aG],own s.2.2.2.1 s.2.2.2.2 49 9 (fY s.2.1),gV s.2.1]) (λs=>c.keys.length-s.1) ((0,[],M,none,0)) ⟨⟨acS _,by rw[hw];rfl,acG _,acG _⟩,rfl⟩ ?_;rintro⟨i,l,N,ea,ec⟩ hI;dsimp only at hI⊢;obtain⟨⟨hi,hwl,hNt,hll⟩,hf⟩:=hI;by_cases bX:i<c.keys.length
 ·have uI:=rP c.keys i bX
  have Mw:ka.isSome=true:=by obtain⟨ad,e,_⟩:=hr i _ uI;rw[e];rfl
  have sU:=hk _ (acJ bX);have Et:(c.keys.take (i+1)).foldl (Mo.cL (decide (c.verb=3∨c.verb=4)) c.ex) ([],M)=Mo.cL (decide (c.verb=3∨c.verb=4)) c.ex (l.map Prod.fst,N) c.keys[i]:=by
   rw[adE,acx bX,ah7,hf];rfl
  generalize c.keys[i]=k at*;refine aZ ?_;refine au ?_;refine dz ?_;refine oR λwa wc B O=> ?_;refine bc ?_;refine Li (Ix T.nR) ?_;refine bB ?_;refine zl T.Fv (w7 z N k sU (by omega)) (.cons .here .nil) (λ_ _ _=>trivial) ?_;obtain⟨w1,w2⟩:=Rl N k;rcases hm:N.meet k with⟨_|p,N1⟩
  ·rw[hm]at w1 w2
   refine nj ?_;refine az ?_;refine Ro ((i+1,l,N1,ea,ec)) (⟨⟨bX,(by dsimp only at*;omega),(by dsimp only at*;omega),(by dsimp only;omega)⟩,(by dsimp only;rw[Et];unfold Mo.cL;dsimp only;rw[hm])⟩) ((by dsimp only;omega))
  rw[hm]at w1 w2;obtain⟨m1,m2,m3⟩:=mH hm;have hp:=O.hdp m1;change 0<N.C.hd p∧_ at hp;have hN1:N1.has p:=by rw[m3];exact m1
  have hC:N.C=N1.C:=by rw[m3];rfl
  rw[hC]at hp⊢;refine bH ?_;refine cu ?_ (e:=by exact decide_eq_false (by show¬(((N1.C.hd p:Nat):Int)=0);omega));refine a8 ?_;refine au ?_;refine cg (ι:=Mo) [22,23,24,25,26,27,28,29,30,31,32,33,34] (λN2=>N2=(if decide (c.verb=3∨c.verb=4)=true then N1.time p (cF N1.k.now c.ex)else N1)) (λN2=> []) (λN2=> [SW z N2,ag b1 47 (cy c ka kc da dc mv),ag b2 41 [.int .i64 0,aG, .int .u64 0,aB [],aG],ag b3 41 [.int .i64 9, .slice ea l.length ec, .int .u64 0,aB [],aG],own ea ec 49 9 (fY l),gV l]) ?_ ?_
  ·refine gU ?_
   refine aR ?_;refine aE (t:=25) rfl ?_ ?_
   ·intro cn
    replace cn:=aD cn;refine bK ?_;refine zl T.Fu (q8 z N1 p hN1 c.ex hex (by dsimp only at w2;omega)) (.cons .here .nil) (λ_ _ _=>trivial) ?_;refine az ?_
    first|refine Me (N1.time p (cF N1.k.now c.ex)) (by rw[if_pos (decide_eq_true (by omega))])|refine Me N1 (by rw[if_neg (by rw[decide_eq_true_eq];omega)])
   intro cn;replace cn:=aD cn;refine bc ?_;refine av rfl ?_ ?_
   ·intro cm
    replace cm:=aD cm;refine bc ?_;refine zl T.Fu (q8 z N1 p hN1 c.ex hex (by dsimp only at w2;omega)) (.cons .here .nil) (λ_ _ _=>trivial) ?_;refine az ?_
    first|refine Me (N1.time p (cF N1.k.now c.ex)) (by rw[if_pos (decide_eq_true (by omega))])|refine Me N1 (by rw[if_neg (by rw[decide_eq_true_eq];omega)])
   intro cm;replace cm:=aD cm;refine ay ?_
   first|refine Me (N1.time p (cF N1.k.now c.ex)) (by rw[if_pos (decide_eq_true (by omega))])|refine Me N1 (by rw[if_neg (by rw[decide_eq_true_eq];omega)])
  rintro N2 hI;have hN2:N2.has p:=by rw[hI];split<;>exact hN1
  have hC2:N1.C=N2.C:=by rw[hI];split<;>rfl
  have Uc:N2.jz=N1.jz∧N2.tn≤N1.tn+1:=by
   rw[hI];split
   ·exact⟨rfl,AP _ _ _⟩
   exact⟨rfl,Nat.le_succ _⟩
  have hg:Mo.cL (decide (c.verb=3∨c.verb=4)) c.ex (l.map Prod.fst,N) k=(l.map Prod.fst++ [N2.it p],N2.eO p):=by
   unfold Mo.cL;dsimp only;rw[hm,hI]
  rw[hC2]at hp⊢;refine au ?_;refine gK 8 T.mix (.cons (.there (.there (.there .here))) .nil) λF1 iT cj aI=> ?_;obtain⟨q1,_⟩:=cj;refine aR ?_;refine Tp (oC T.Yp rfl rfl (zg z N2 p hN2) (.cons .here .nil) (λ_ _ _=>trivial) ?_);rintro v H' ⟨vb,rfl,rfl⟩;refine bd ?_;refine Tp (oT1 T.Hj λb4=> ?_);refine Tp (bF T.Hj T.XS rfl rfl rfl rfl (.there (.there (.there (.there .here)))) (zL l) (rfl) (by simp[jQ,Value.oneCell',aB]) (by first|omega|(simp;omega)) (by first|omega|(simp;omega)) rfl λa4 c4 Ul=> ?_);refine ay ?_;refine gd aI ?_;refine a8 ?_;rw[←Gt l (N2.it p) vb,show l.length+1=(l++ [(N2.it p,vb)]).length by simp];refine Hh (H':= [gV l,own (some ⟨vb,0,none⟩) (N2.it p).val.length 5 1 (ai (N2.it p).val),SW z N2,ag b1 47 (cy c ka kc da dc mv),ag b2 41 [.int .i64 0,aG, .int .u64 0,aB [],aG],ag b3 41 [.int .i64 9, .slice a4 (l++ [(N2.it p,vb)]).length c4, .int .u64 0,aB [],aG],own a4 c4 49 9 (fY (l++ [(N2.it p,vb)]))]) ?_;refine aC (λh=>LX (l:=l)) ?_;refine aZ ?_;refine zl T.Ft (wY z N2 p hN2) (.cons (.there .here) .nil) (λ_ _ _=>trivial) ?_;refine bB ?_;refine az ?_;dsimp only at w1 w2;have Xs:(l++ [(N2.it p,vb)]).length≤i+1:=by rw[acI,adv];omega
  have hl3:(l++ [(N2.it p,vb)]).map Prod.fst=l.map Prod.fst++ [N2.it p]:=by rw[adq];rfl
  generalize l++ [(N2.it p,vb)]=l2 at*;refine Ro ((i+1,l2,N2.eO p,a4,c4)) (⟨⟨bX,(by show N2.jz.length=i+1;rw[Uc.1];omega),(by show N2.tn≤_;omega),Xs⟩,(by dsimp only;rw[Et,hg,hl3])⟩) ((by dsimp only;omega))
 refine gU ?_;refine a8 ?_;refine au ?_;refine cu ?_;refine bH ?_;refine Lp (eJ T.aS ?_ (h1:=by simp[bU,Value.cells,Value.oneCell',aB,aG]));refine a8 ?_;obtain rfl:i=c.keys.length:=by omega
 rw[agQ]at hf;refine ko [own ea ec 49 9 (fY l),gV l,SW z N] T.aS results71 ?_;exact⟨_,N,ea,ec,l,by unfold Mo.jX;rw[hf],rfl,rfl,rfl⟩
structure qg (M:Mo):Prop where
 k:Ok M.C
 nd:∀i,(ql M.Q i).Nodup
 lv:∀p,M.has p→Live M.C p
 on:M.m.on=true→M.m.pg<M.C.n∧(M.C.pg M.m.pg).own=true∧(M.C.pg M.m.pg).lv=true∧(M.C.pg M.m.pg).cl=M.m.fr
theorem bY.TF{B:Bx}{M:Mo}(O:bY B M):qg M:=by
 refine⟨O.mc0,O.o.nd,λp hp=> ?_,λh=> ?_⟩
 ·have h:=(O.sM ((O.al p).2 hp)).wA M.C.A
  rw[O.c]at h;exact h
 have h:=O.on h;rw[O.c]at h;exact h
structure GW (M N:Mo)(own:Option Nat):Prop where
 it:N.it=M.it
 aM:N.v.aM=M.v.aM
 c:N.v.c=M.v.c
 p:N.v.p=M.v.p
 tn:N.tn=M.tn
 k:N.k=M.k
 w:N.jz=M.jz
 st:N.m.st=M.m.st
 ex:N.ord=M.ord
 sz:N.C.af=M.C.af
 own:∀p,own=some p→M.has p→N.has p∧N.C.hd p=M.C.hd p∧N.C.cl p=M.C.cl p
 has:∀q,N.has q→M.has q
theorem GW.refl (M:Mo)(own:Option Nat):GW M M own:=⟨rfl,rfl,rfl,rfl,rfl,rfl,rfl,rfl,rfl,rfl,λ_ _ h=>⟨h,rfl,rfl⟩,λ_ h=>h⟩
theorem GW.trans{M N O:Mo}{own:Option Nat}(a:GW M N own)(b:GW N O own):GW M O own:=
 ⟨b.it.trans a.it,b.aM.trans a.aM,b.c.trans a.c,b.p.trans a.p,b.tn.trans a.tn,b.k.trans a.k,b.w.trans a.w,b.st.trans a.st,b.ex.trans a.ex,b.sz.trans a.sz,λp e h=>by
  obtain⟨h1,h2,h3⟩:=a.own p e h;obtain⟨h4,h5,h6⟩:=b.own p e h1;exact⟨h4,h5.trans h2,h6.trans h3⟩,λq h=>a.has q (b.has q h)⟩
theorem HD{Q:List (List Nat)}{p q:Nat}(nd:∀i,(ql Q i).Nodup):(∃i,q∈ql (gS Q p) i)↔(∃i,q∈ql Q i)∧q≠p:=by
 constructor
 ·rintro⟨i,h⟩
  rw[iL]at h;exact⟨⟨i,List.mem_of_mem_erase h⟩,λe=>by subst e;exact(List.Nodup.not_mem_erase (nd i)) h⟩
 rintro⟨⟨i,h⟩,ne⟩;exact⟨i,by rw[iL];exact(List.mem_erase_of_ne ne).2 h⟩
theorem qg.cD{M:Mo}(K:qg M){p:Nat}(hp:M.has p):qg (M.cD p)∧∀own,own≠some p→GW M (M.cD p) own:=by
 have L:=K.lv p hp;obtain⟨K2,S⟩:=gX K.k L;have sm:=mI K.k L;have hh:=λq=>HD (Q:=M.Q) (p:=p) (q:=q) K.nd;refine⟨⟨K2,λi=> ?_,λq hq=> ?_,λh=> ?_⟩,λown ne=>⟨rfl,rfl,rfl,rfl,rfl,rfl,rfl,rfl,rfl,S.af,λq e hq=> ?_,λq hq=>((hh q).1 hq).1⟩⟩
 ·show(ql (gS M.Q p) i).Nodup
  rw[iL];exact(K.nd i).erase p
 ·obtain⟨h1,h2⟩:=(hh q).1 hq
  exact(sm.lv q h2 (K.lv q h1)).1
 ·obtain⟨a,b,c,d⟩:=K.on h
  obtain⟨e1,e2,e3⟩:=rU K.k L M.m.pg;refine⟨a,e1.trans b,e2.trans c,e3.trans d⟩
 have h2:q≠p:=λg=>ne (by rw[e,g]);obtain⟨g1,g2,g3⟩:=sm.lv q h2 (K.lv q hq);exact⟨(hh q).2 ⟨hq,h2⟩,g2,g3⟩
theorem qg.take{M N:Mo}(K:qg M){c r:Nat}(hc:c<M.iW)(h:M.take c=some (r,N))(own:Option Nat):qg N∧GW M N own∧N.hole=some r∧N.C.cl r=c∧Live N.C r∧¬M.has r∧N={M with C:=N.C,hole:=some r}:=by
 unfold Mo.take at h;cases ht:M.C.eA c with
 |none=>rw[ht]at h;cases h
 |some x=>
  obtain⟨p,D⟩:=x;rw[ht]at h;simp only[Option.some.injEq,Prod.mk.injEq]at h;obtain⟨rfl,rfl⟩:=h;have X:=tx K.k hc ht;refine⟨⟨X.k,K.nd,λq hq=>(X.lv q).2 (.inl (K.lv q hq)),λg=> ?_⟩,⟨rfl,rfl,rfl,rfl,rfl,rfl,rfl,rfl,rfl,X.sz,λq _ hq=>⟨hq,(X.hd q (K.lv q hq)).1,(X.hd q (K.lv q hq)).2⟩,λ_ h=>h⟩,rfl,X.cl,(X.lv p).2 (.inr rfl),λg=>X.no (K.lv p g),rfl⟩;obtain⟨a,b,c,d⟩:=K.on g;obtain⟨e1,e2⟩:=X.pg _ b;refine⟨?_,e1,(X.lf _).trans c,e2.trans d⟩;show _<D.n;rw[X.n];exact a
theorem qg.mstop{M:Mo}(K:qg M)(qA:M.m.on=true)(own:Option Nat):qg M.mstop∧GW M M.mstop own:=by
 obtain⟨a,b,c,d⟩:=K.on qA;obtain⟨K2,S⟩:=wZ K.k a b c;have jv:=AR K.k a;have sm:=vj S λj=>by
  rw[jv];by_cases e:j=M.m.pg
  ·exact⟨false,by rw[if_pos e,e]⟩
  exact⟨(M.C.pg j).lv,by rw[if_neg e]⟩
 exact⟨⟨K2,K.nd,λq hq=>(sm q).1.2 (K.lv q hq),λe=>by cases e⟩,⟨rfl,rfl,rfl,rfl,rfl,rfl,rfl,rfl,rfl,S.af,λq _ hq=>⟨hq,(sm q).2⟩,λ_ h=>h⟩⟩
theorem qg.mt{M:Mo}(K:qg M)(t:Mt)(own:Option Nat):qg (M.bj t)∧GW M (M.bj t) own:=⟨⟨K.k,K.nd,K.lv,K.on⟩,⟨rfl,rfl,rfl,rfl,rfl,rfl,rfl,rfl,rfl,rfl,λ_ _ h=>⟨h,rfl,rfl⟩,λ_ h=>h⟩⟩
theorem qg.qN{M:Mo}(K:qg M)(c:Nat)(own:Option Nat):qg (M.ia c)∧GW M (M.ia c) own:=⟨⟨K.k,K.nd,K.lv,K.on⟩,⟨rfl,rfl,rfl,rfl,rfl,rfl,rfl,rfl,rfl,rfl,λ_ _ h=>⟨h,rfl,rfl⟩,λ_ h=>h⟩⟩
structure qX (M N:Mo)(n:Nat)(own o:Option Nat):Prop where
 k:qg N
 s:GW M N own
 no:o=none→N.hole=M.hole
 ok:∀r,o=some r→N.hole=some r∧n≤N.C.sz (N.C.cl r)∧Live N.C r∧¬N.has r
theorem Wo{M N:Mo}(K:qg M){n c p:Nat}(hc:c<M.iW)(hz:n≤M.C.sz c){own o:Option Nat}(hp:M.has p)(ne:own≠some p)(h:M.last c p=(o,N)):qX M N n own o:=by
 obtain⟨K1,S1⟩:=K.cD hp;have S1:=S1 own ne;have ow:c<(M.cD p).iW:=by show c<(M.cD p).C.af.length;rw[S1.sz];exact hc
 unfold Mo.last at h;cases ht:(M.cD p).take c with
 |none=>
  rw[ht]at h;simp only[Prod.mk.injEq]at h;obtain⟨rfl,rfl⟩:=h;exact⟨K1,S1,λ_=>rfl,λr e=>by cases e⟩
 |some x=>
  obtain⟨r,D⟩:=x;rw[ht]at h;simp only[Prod.mk.injEq]at h;obtain⟨rfl,rfl⟩:=h;obtain⟨K2,S2,h1,h2,h3,h4,h5⟩:=K1.take ow ht own;refine⟨K2,S1.trans S2,(λe=>by cases e),λr' e=> ?_⟩;cases e;refine⟨h1, ?_,h3,λg=>h4 (S2.has _ g)⟩;rw[h2];unfold Cs.sz;rw[(S1.trans S2).sz];exact hz
theorem VG{M:Mo}{c p:Nat}{own:Option Nat}(h:(M.pick c own).1=some p):M.has p∧own≠some p:=by
 obtain⟨h1,h2⟩:=Q1 h;exact⟨Vt h1,λe=>h2 e.symm⟩
theorem Dh{M N:Mo}(K:qg M){n c:Nat}(hc:c<M.iW)(hz:n≤M.C.sz c){own o:Option Nat}(h:M.qo c own=(o,N)):qX M N n own o:=by
 unfold Mo.qo at h;obtain⟨K1,S1⟩:=K.mt {M.v.mt with lo:=dy (M.v.mt.lo+((M.pick c own).2.2:Int))} own;have aw:=λp=>VG (M:=M) (c:=c) (p:=p) (own:=own);obtain⟨M1,hM1⟩:∃M1,M1=M.bj {M.v.mt with lo:=dy (M.v.mt.lo+((M.pick c own).2.2:Int))}:=⟨_,rfl⟩;have hq:M1.Q=M.Q:=by rw[hM1];rfl
 have hC:M1.C=M.C:=by rw[hM1];rfl
 have hh:M1.hole=M.hole:=by rw[hM1];rfl
 rw[←hM1]at h K1 S1;have IX:c<M1.iW:=by unfold Mo.iW;rw[hC];exact hc
 have MP:n≤M1.C.sz c:=by rw[hC];exact hz
 have go:∀{M2 N:Mo} {p:Nat} {o:Option Nat},qg M2→GW M M2 own→M2.Q=M.Q→M2.C=M.C→M2.hole=M.hole→M.has p→own≠some p→M2.last c p=(o,N)→qX M N n own o:=λK2 S2 hQ2 hC2 hh2 hp ne e=>by
  have R:=Wo K2 (n:=n) (by unfold Mo.iW;rw[hC2];exact hc) (by rw[hC2];exact hz) (own:=own) (by unfold Mo.has;rw[hQ2];exact hp) ne e;exact⟨R.k,S2.trans R.s,λg=>(R.no g).trans hh2,R.ok⟩
 rcases hp:(M.pick c own).1 with _|p<;>rcases hd:(M.pick c own).2.1 with _|_<;>rw[hp,hd]at h<;>unfold Mo.NL at h
 ·simp only[Prod.mk.injEq]at h
  obtain⟨rfl,rfl⟩:=h;obtain⟨K2,S2⟩:=K1.qN c own;exact⟨K2,S1.trans S2,λ_=>hh,λr e=>by cases e⟩
 ·simp only[Prod.mk.injEq]at h
  obtain⟨rfl,rfl⟩:=h;exact⟨K1,S1,λ_=>hh,λr e=>by cases e⟩
 ·obtain⟨K2,S2⟩:=K1.qN c own
  obtain⟨K3,S3⟩:=K2.mt {(M1.ia c).v.mt with dr:=dy ((M1.ia c).v.mt.dr+1)} own;exact go K3 ((S1.trans S2).trans S3) hq hC hh (aw p hp).1 (aw p hp).2 h
 obtain⟨K3,S3⟩:=K1.mt {M1.v.mt with re:=dy (M1.v.mt.re+1)} own;exact go K3 (S1.trans S3) hq hC hh (aw p hp).1 (aw p hp).2 h
theorem Hs{M N:Mo}(K:qg M){n c r:Nat}(hc:c<M.iW)(hz:n≤M.C.sz c){own:Option Nat}(h:M.take c=some (r,N)):qX M N n own (some r):=by
 obtain⟨K2,S2,h1,h2,h3,h4,h5⟩:=K.take hc h own;refine⟨K2,S2,(λe=>by cases e),λr' e=> ?_⟩;cases e;refine⟨h1, ?_,h3,λg=>h4 (S2.has _ g)⟩;rw[h2];unfold Cs.sz;rw[S2.sz];exact hz
theorem u9{M N:Mo}(K:qg M){n:Nat}{own o:Option Nat}(h:M.room n own=(o,N)):qX M N n own o:=by
 unfold Mo.room at h;cases hf:M.C.af.findIdx? (λz=>decide (n≤z))with
 |none=>
  rw[hf]at h;simp only[Prod.mk.injEq]at h;obtain⟨rfl,rfl⟩:=h;exact⟨K, .refl _ _,λ_=>rfl,λr e=>by cases e⟩
 |some c=>
  rw[hf]at h;dsimp only at h;obtain⟨hc,hz,_⟩:=List.findIdx?_eq_some_iff_getElem.1 hf;have BL:n≤M.C.sz c:=by
   unfold Cs.sz;rw[acy,acx hc]
   simpa using hz
  unfold Mo.wj at h;cases ht:M.take c with
  |some x=>
   obtain⟨r,D⟩:=x;rw[ht]at h;simp only[Prod.mk.injEq]at h;obtain⟨rfl,rfl⟩:=h;exact Hs K hc BL ht
  |none=>
   rw[ht]at h;dsimp only at h
   split at h
   ·next g=>
    obtain⟨K1,S1⟩:=K.mstop g.1 own;have IX:c<M.mstop.iW:=by show c<M.mstop.C.af.length;rw[S1.sz];exact hc
    have MP:n≤M.mstop.C.sz c:=by unfold Cs.sz;rw[S1.sz];exact BL
    have fin:∀o,qX M.mstop N n own o→qX M N n own o:=λo R=>⟨R.k,S1.trans R.s,R.no,R.ok⟩;cases ry:M.mstop.take c with
    |some x=>
     obtain⟨r,D⟩:=x;rw[ry]at h;simp only[Prod.mk.injEq]at h;obtain⟨rfl,rfl⟩:=h;exact fin _ (Hs K1 IX MP ry)
    |none=>
     rw[ry]at h;exact fin _ (Dh K1 IX MP h)
   exact Dh K hc BL h
theorem Ow (M:Mo)(c p:Nat)(a:Option Addr)(w:Nat):(M.aK a w).last c p=((M.last c p).1,(M.last c p).2.aK a w):=by
 unfold Mo.last;rw[show(M.aK a w).cD p=(M.cD p).aK a w from rfl,Al];cases (M.cD p).take c<;>rfl
theorem IA (M:Mo)(c:Nat)(own:Option Nat)(a:Option Addr)(w:Nat):(M.aK a w).qo c own=((M.qo c own).1,(M.qo c own).2.aK a w):=by
 unfold Mo.qo;rw[show(M.aK a w).pick c own=M.pick c own from rfl];rcases(M.pick c own).1 with _|p<;>rcases(M.pick c own).2.1 with _|_<;>unfold Mo.NL
 ·rfl
 ·rfl
 ·exact Ow (((M.bj {M.v.mt with lo:=dy (M.v.mt.lo+((M.pick c own).2.2:Int))}).ia c).bj _) c p a w
 exact Ow ((M.bj {M.v.mt with lo:=dy (M.v.mt.lo+((M.pick c own).2.2:Int))}).bj _) c p a w
theorem aai (M:Mo)(n:Nat)(own:Option Nat)(a:Option Addr)(w:Nat):(M.aK a w).room n own=((M.room n own).1,(M.room n own).2.aK a w):=by
 unfold Mo.room;rw[show(M.aK a w).C=M.C from rfl];cases M.C.af.findIdx? (λz=>decide (n≤z))with
 |none=>rfl
 |some c=>
  dsimp only;unfold Mo.wj;rw[Al];cases M.take c with
  |some x=>rfl
  |none=>
   dsimp only[Option.map];rw[show(M.aK a w).m=M.m from rfl]
   split
   ·rw[show(M.aK a w).mstop=M.mstop.aK a w from rfl,Al]
    cases M.mstop.take c with
    |some x=>rfl
    |none=>exact IA _ _ _ _ _
   exact IA _ _ _ _ _
theorem uw (z:Ly)(M:Mo)(hh:M.hole=none)(iY:M.m.st<4611686018427387904)(vW:0<M.C.spare)(kn vn:Nat)(hk:1≤kn∧kn≤250)(hv:vn≤1048576)(own:Option Nat)(vX:∀p,own=some p→M.has p):
  aH acw 117 [.pointer (some ⟨z.s,0,none⟩), .int .i64 (kn:Int), .int .i64 (vn:Int), .int .u64 (vP M.C own:Int)] (λ_=>True) [SW z M]
   (λw H=>w= .int .u64 (vP (M.room (58+kn+vn) own).2.C (M.room (58+kn+vn) own).1:Int)∧H= [SW z (M.room (58+kn+vn) own).2]):=
 uZ λa c=>(JJ z (M.aK a c) hh iY vW kn vn hk hv own vX).out (by
  rintro v H' ⟨o,N,hr,rfl,rfl⟩;rw[aai]at hr;simp only[Prod.mk.injEq]at hr;obtain⟨rfl,rfl⟩:=hr;exact⟨_,⟨rfl,rfl⟩,λk s=>gm a c k s⟩)
theorem CD (z:Ly)(M:Mo)(r:Nat)(hr:M.hole=some r)(old:Option Nat)(k v:List UInt8)(TG Ty:Nat)(oh:TG=k.length)(IU:Ty=v.length)(hold:∀p,old=some p→M.has p∧(M.it p).key=k)(Y2:old=none→M.find k=none)(ka va:Option Addr)(kc vc fl ex mk:Nat)(D4:cO k=true)
  (yr:58+k.length+v.length≤M.C.sz (M.C.cl r)) (BE:fl<4294967296) (hex:ex<9223372036854775808) (vM:mk<16) (qG:M.v.aM+1<18446744073709551616) (tY:M.tn<18446744073709551615):
  aH acw 118 [.pointer (some ⟨z.s,0,none⟩), .int .u64 (M.C.hd r:Int), .int .u64 (vP M.C old:Int), .agg (D8 (.slice ka TG kc) (.slice va Ty vc) fl ex 0 0 0 mk).toArray] (λh=>dU h ka (ai k)∧dU h va (ai v)) [SW z M]
   (λw H=>w= .tuple #[]∧H= [SW z (M.gf r old ⟨k,v,fl,ex,M.k.now,M.v.aM+1,mk⟩)]):=
 uZ λa c=>(Vo z (M.aK a c) r hr old k v TG Ty oh IU hold Y2 ka va kc vc fl ex mk D4 yr BE hex vM qG tY).out (by
  rintro w H' ⟨rfl,rfl⟩;refine⟨_,⟨rfl,rfl⟩,λk' s=>gm a c k' ?_⟩;rw[show(M.aK a c).gf r old ⟨k,v,fl,ex,(M.aK a c).k.now,(M.aK a c).v.aM+1,mk⟩=(M.gf r old ⟨k,v,fl,ex,M.k.now,M.v.aM+1,mk⟩).aK a c by cases old<;>rfl]at s;exact s)
def bM:List UInt8:= [111,98,106,101,99,116,32,116,111,111,32,108,97,114,103,101,32,102,111,114,32,99,97,99,104,101]
def hU:List UInt8:= [111,117,116,32,111,102,32,109,101,109,111,114,121,32,115,116,111,114,105,110,103,32,111,98,106,101,99,116]
def tX (verb:Int):Bool:=decide (verb≠8∧verb≠9)
def Mo.mm (M:Mo)(c:dI)(k:List UInt8)(old:Option Nat):Option (List UInt8×Nat×Nat):=
 if tX c.verb=true then some (c.data,c.fl,cF M.k.now c.ex)else match old with
 |none=>none
 |some p=>if M.v.c.lim<58+k.length+c.data.length+(M.it p).val.length then none else some (if c.verb=8 then(M.it p).val++c.data else c.data++(M.it p).val,(M.it p).fl,(M.it p).exp)
def Mo.lays (M:Mo)(k:List UInt8)(old:Option Nat)(ov:Bool)(x:List UInt8×Nat×Nat):ff×Mo:=match M.room (58+k.length+x.1.length) old with
 |(none,R)=>(.t hU,R.over old ov)
 |(some r,R)=>(.k 1,R.gf r old ⟨k,x.1,x.2.1,x.2.2,R.k.now,R.v.aM+1,0⟩)
def Mo.jh (M:Mo)(c:dI)(k:List UInt8)(old:Option Nat):ff×Mo:=
 if c.lg=true∨M.v.c.lim<58+k.length+c.data.length then(.t bM,M.over old (tX c.verb))
 else if aX c.verb c.tok old (λp=>(M.it p).tok)≠0 then(.k (aX c.verb c.tok old (λp=>(M.it p).tok)),M)
 else match M.mm c k old with
  |none=>(.t bM,M)
  |some x=>M.lays k old (tX c.verb) x
def Mo.cU (M:Mo)(c:dI)(k:List UInt8):ff×Mo:=(M.meet k).2.jh c k (M.meet k).1
theorem bY.kdM{B:Bx}{M:Mo}(O:bY B M){p q:Nat}(hp:M.has p)(hq:M.has q)(e:(M.it p).key=(M.it q).key):p=q:=by
 have h1:=(O.al p).2 hp;have h2:=(O.al q).2 hq;refine O.t.kd p h1 q h2 ?_;rw[(O.je h1).2.2.2.2.1,(O.je h2).2.2.2.2.1];exact e
theorem Iu{M:Mo}{k:List UInt8}(h:∀p,M.has p→(M.it p).key≠k):M.find k=none:=by
 unfold Mo.find;rw[agZ];intro p hp e;exact h p (fO.1 hp) (by simpa using e)
theorem VV{M:Mo}{k:List UInt8}(h:M.find k=none){p:Nat}(hp:M.has p):(M.it p).key≠k:=λe=>by
 unfold Mo.find at h;rw[agZ]at h;exact h p (fO.2 hp) (decide_eq_true e)
theorem ae8{M N:Mo}(nd:∀i,(ql M.Q i).Nodup)(kd:∀p q,M.has p→M.has q→(M.it p).key=(M.it q).key→p=q){k:List UInt8}{old:Option Nat}(h:M.meet k=(old,N)):vP M.C old=vP N.C old∧(∀p,old=some p→N.has p∧(N.it p).key=k)∧(old=none→N.find k=none):=by
 cases old with
 |some p=>
  obtain⟨h1,h2,h3⟩:=mH h;subst h3;exact⟨rfl,λq e=>by cases e;exact⟨h1,h2⟩,λe=>by cases e⟩
 |none=>
  refine⟨rfl,λq e=>(by cases e),λ_=> ?_⟩;unfold Mo.meet at h;cases hf:M.find k with
  |none=>
   rw[hf]at h;simp only[Prod.mk.injEq,true_and]at h;subst h;exact hf
  |some p=>
   rw[hf]at h;dsimp only at h;obtain⟨hp,hk⟩:=mM hf
   split at h
   ·simp only[Prod.mk.injEq,true_and]at h
    subst h;refine Iu λq hq e=> ?_;obtain⟨h1,h2⟩:=(HD nd).1 hq;exact h2 (kd _ _ h1 hp (e.trans hk.symm))
   simp at h
theorem bY.YX{B:Bx}{M:Mo}(O:bY B M){p:Nat}(hp:M.has p):(M.it p).val.length≤1048576∧(M.it p).fl<4294967296∧(M.it p).exp<9223372036854775808∧(M.it p).key.length≤250:=by
 have h1:=(O.al p).2 hp;obtain⟨f1,f2,f3,f4,f5,f6,f7⟩:=O.je h1;have I:=O.t.it p h1;have h2:=((O.om h1).bo O.k).2.2.1;have h3:=O.k.toFix.p1;have h4:=I.fits;have h5:(M.it p).val.length=vl B.C.A p:=by rw[←f6];exact dC _ _ _
 have h6:TY B.C.A p<256^4:=oO _ _ _;have h7:vS B.C.A p<9223372036854775808:=I.exp;have h8:=(fR (O.lg p h1)).2;refine⟨by omega,by rw[←f7];exact h6,by rw[←f1];exact h7,h8⟩
theorem inSW{z:Ly}{M:Mo}{h:Hp}(i:In (SW z M) h):In (lD z.y.ck M.k) h:=by
 obtain⟨k,⟨w,B,O,s⟩,l⟩:=i;have:=(cM (H:=fQ z B (M.aK w.1 w.2)) s l).nth 9 rfl;exact this
theorem jT (z:Ly)(M:Mo):aH acw 46 [.pointer (some ⟨z.y.ck,0,none⟩)] (In (SW z M)) [] (λv H=>v= .int .i64 (M.k.now:Int)∧H= []):=
 λF w hp s=>iS z.y.ck M.k F w (inSW hp) s
theorem Jz (z:Ly)(M:Mo)(c:dI)(ka:Option Addr)(kc:Nat)(da:Option Addr)(dc:Nat)(mv:Value)(iG:mv.oneCell'=true)(vW:0<M.C.spare)(k:List UInt8)(r:List (List UInt8))(jP:c.keys=k::r)(hk:cO k=true)(hw:M.jz.length<1073741824)(hex:c.ex<9223372036854775808)(BE:c.fl<4294967296)(hda:c.data.length<281474976710656)
  (hh:M.hole=none) (iY:M.m.st<4611686018427387904) (vY:M.v.c.lim≤1048576) (qG:M.v.aM+1<18446744073709551616) (tY:M.tn<18446744073709551615):
  Uy acw 77 [.pointer (some ⟨z.s,0,none⟩), .agg (cy c ka kc da dc mv).toArray] (λh=>dU h ka (eR c.keys)∧dU h da (ai c.data)) [SW z M]
   (λv H=>∃a N,M.cU c k=(a,N)∧v=sY a∧H= [SW z N]) (λv H=>∃a N,M.cU c k=(a,N)∧v=qn (sY a)∧H= [SW z N]):=by
 obtain⟨hk0,X4⟩:=fR hk;refine kS func77 rfl ntmps77 rfl ?_;rintro F ⟨hr,hd⟩;have uI:(eR c.keys)[0]?=some (aB k):=by rw[jP];rfl
 have Mw:ka.isSome=true:=by obtain⟨ad,e,_⟩:=hr 0 _ uI;rw[e];rfl
 have sU:0<c.keys.length:=by rw[jP];exact aiz _
 refine ay ?_;refine Lp (oB λb1=> ?_);refine Lp (oA T.iu λb2=> ?_);refine ay ?_;refine Hh (H':= [SW z M,ag b1 47 (cy c ka kc da dc mv),ag b2 41 [.int .i64 0,aG, .int .u64 0,aB [],aG]]) ?_;refine oR λwa wc B O=> ?_;refine aZ ?_;refine Li (Ix (j:=0) T.nR) ?_;refine bB ?_;refine zl T.Fv (w7 z M k (by omega) hw) (.cons .here .nil) (λ_ _ _=>trivial) ?_;rcases hm:M.meet k with⟨old,N⟩
 have YM:M.cU c k=N.jh c k old:=by unfold Mo.cU;rw[hm]
 obtain⟨e1,e2,e3⟩:=ae8 (M:=M) O.o.nd (λp q=>O.kdM) hm;change vP M.C old=vP N.C old at e1;change∀p,old=some p→N.has p∧(N.it p).key=k at e2;change old=none→N.find k=none at e3;have hNv:N.v.c=M.v.c∧N.v.aM=M.v.aM∧N.tn=M.tn∧N.hole=M.hole∧N.m.st=M.m.st:=by
  unfold Mo.meet at hm;rcases hf:M.find k with _|p<;>rw[hf]at hm
  ·simp only[Prod.mk.injEq]at hm;obtain⟨_,rfl⟩:=hm;exact⟨rfl,rfl,rfl,rfl,rfl⟩
  dsimp only at hm
  split at hm<;>(simp only[Prod.mk.injEq]at hm;obtain⟨_,rfl⟩:=hm;exact⟨rfl,rfl,rfl,rfl,rfl⟩)
 obtain⟨n1,n2,n3,n4,n5⟩:=hNv;have hsN:N.C.spare=M.C.spare:=by
  have h:=(Ev.meet M k).g.sp;rw[hm]at h;exact h
 dsimp only;rw[e1];have hold:∀p,old=some p→N.has p:=λp e=>(e2 p e).1;refine oR λwa2 wc2 B2 O2=> ?_;refine a8 ?_;refine au ?_;refine cg (ι:=Bool) [20,21,22,23,24,25,26,27,7] (λov=>ov=tX c.verb) (λov=> [(7, .bool ov)]) (λov=> [SW z N,ag b1 47 (cy c ka kc da dc mv),ag b2 41 [.int .i64 0,aG, .int .u64 0,aB [],aG]]) ?_ ?_
 ·refine cC ?_
  refine aR ?_;refine aE (t:=23) rfl ?_ ?_
  ·intro cn
   replace cn:=aD cn;refine bc ?_;refine az ?_;refine Me (tX c.verb) (rfl) (hs:=⟨(by refine congrArg (λq=>some (Value.bool q)) ?_;unfold tX;rw[ac1];simp only[acO,decide_eq_false_iff_not,decide_eq_true_eq,acY,true_iff,false_iff,iff_true,iff_false];try omega),trivial⟩)
  intro cn;replace cn:=aD cn;refine bc ?_;refine az ?_;refine Me (tX c.verb) (rfl) (hs:=⟨(by refine congrArg (λq=>some (Value.bool q)) ?_;unfold tX;rw[ac1];simp only[acO,decide_eq_false_iff_not,decide_eq_true_eq,acY,true_iff,false_iff,iff_true,iff_false];try omega),trivial⟩)
 rintro ov hI;subst hI;generalize Uf:tX c.verb=ov at*;have zV:N.jh c k old=if c.lg=true∨N.v.c.lim<58+k.length+c.data.length then(.t bM,N.over old ov)else if aX c.verb c.tok old (λp=>(N.it p).tok)≠0 then(.k (aX c.verb c.tok old (λp=>(N.it p).tok)),N)else match N.mm c k old with|none=>(.t bM,N)|some x=>N.lays k old ov x:=by unfold Mo.jh;rw[Uf]
 have hs4:(c.lg=true∨N.v.c.lim<58+k.length+c.data.length)→M.cU c k=(.t bM,N.over old ov):=λh=>by rw[YM,zV,if_pos h]
 refine a8 ?_;refine Li (Ls T.kk) ?_;refine bH ?_;refine au ?_;refine cg (ι:=Unit) [35,36,37,38,39,40,41,42,43,44,45,46,47,48,49] (λu=>¬(c.lg=true∨N.v.c.lim<58+k.length+c.data.length)) (λu=> []) (λu=> [SW z N,ag b1 47 (cy c ka kc da dc mv),ag b2 41 [.int .i64 0,aG, .int .u64 0,aB [],aG]]) ?_ ?_
 ·refine gU ?_
  refine aZ ?_;refine aE (t:=37) rfl ?_ ?_
  ·intro cn
   replace cn:=aD cn;refine fF ?_;refine Lp (MM T.Fs rfl rfl (l9 z N old hold ov bM) (.cons .here .nil) (λ_ _ _=>trivial) (by rintro v H' ⟨rfl,rfl⟩;exact pP [SW z (N.over old ov)] ⟨.t bM,_,hs4 (by first|exact .inl (by assumption)|exact .inr (by omega)),rfl,rfl⟩) ?_);rintro v H' hF;exact hF.elim
  intro cn;replace cn:=aD cn;refine cN ?_;refine av rfl ?_ ?_
  ·intro cm
   replace cm:=aD cm;refine aR ?_;refine Lp (MM T.Fs rfl rfl (l9 z N old hold ov bM) (.cons .here .nil) (λ_ _ _=>trivial) (by rintro v H' ⟨rfl,rfl⟩;exact pP [SW z (N.over old ov)] ⟨.t bM,_,hs4 (by first|exact .inl (by assumption)|exact .inr (by omega)),rfl,rfl⟩) ?_);rintro v H' hF;exact hF.elim
  intro cm;replace cm:=aD cm;refine ay ?_;refine Me (()) ((by rintro(h|h)<;>first|omega|(simp_all;done)))
 rintro u hI;rw[if_neg hI]at zV;have hle:(58+k.length+c.data.length:Int)≤N.v.c.lim:=by omega
 have hd20:58+k.length+c.data.length≤1048576:=by rw[n1]at hle;omega
 refine aR ?_;refine Lp (MM T.abG rfl rfl (Xc z N c ka kc da dc mv iG old hold) (.cons .here .nil) (λ_ _ _=>trivial) (by rintro v H' ⟨n,hn,hn0,rfl,rfl⟩;exact pP [SW z N] ⟨.k n,N,by rw[YM,zV,if_pos (by rw[hn];exact hn0),hn],rfl,rfl⟩) ?_);rintro v H' ⟨hn,rfl,rfl⟩;refine bd ?_;rw[if_neg (by rw[hn];decide)]at zV;have Mz:N.k.now≤1099511627776∧1≤N.k.now:=⟨O2.ck.n2,O2.ck.n1⟩;have yG:=zK N.k.now c.ex Mz.2 Mz.1;rw[xx]at yG;refine ay ?_;refine au ?_;refine cg (ι:=Nat×Nat×Option Addr×Nat×Nat) [54,55,56,57,58,59,60,61,62,63,64,65,66,67,68,69,70,9] (λs=>True) (λs=> [(9, .pointer (some ⟨s.2.2.2.2,0,none⟩))]) (λs=> [SW z N,ag b1 47 (cy c ka kc da dc mv),ag b2 41 [.int .i64 0,aG, .int .u64 0,aB [],aG],own (some ⟨s.1,0,none⟩) s.2.1 5 1 (ai k),own s.2.2.1 s.2.2.2.1 5 1 (ai c.data),ag s.2.2.2.2 170 (D8 (.slice (some ⟨s.1,0,none⟩) k.length s.2.1) (.slice s.2.2.1 c.data.length s.2.2.2.1) c.fl (cF N.k.now c.ex) 0 0 0 0)]) ?_ ?_
 ·refine wu T.mix (.cons .here (.cons .here .nil)) λF1 iT cj aI=> ?_
  obtain⟨q1,q2,_⟩:=cj;refine Dt 0 rfl Mv ?_;refine Dt 2 rfl (Fa T.xr) ?_
  first
   |refine Dt 3 rfl (Lf T.iw) ?_
   |refine Dt 3 rfl (fB T.iw q1) ?_
  refine Dt 5 rfl (Fa T.xv) ?_
  first
   |refine Dt 6 rfl (Lf T.jC) ?_
   |refine Dt 6 rfl (fB T.jC q1) ?_
  refine Dt 7 rfl Mv ?_;refine Dt 8 rfl Nc ?_;refine Dt 9 rfl (Fa T.ki) ?_;refine Dt 10 rfl (Fa T.zI) ?_
  first
   |refine Dt 11 rfl (Lf T.ns) ?_
   |refine Dt 11 rfl (fB T.ns q1) ?_
  refine Dt 13 rfl (Fa T.xu) ?_
  first
   |refine Dt 14 rfl (Lf T.bR) ?_
   |refine Dt 14 rfl (fB T.bR q1) ?_
  refine D3 1 4 17 ?_ ?_ ?_
  ·refine Do rfl (BA T.kk T.ll T.qw λkb mf rz=> ?_)
   refine ay ?_;refine D2 4 17 ?_ ?_
   ·refine aT 5 1 ?_
    refine Do rfl (eo T.gj T.mB rfl rfl rfl rfl .here (rfl) (dJ (m:=c.data.length) (by simp) (λh le _=>hd.mono (iT.trans le))) (by first|exact cY|(simp[Value.oneCell',aB])) (by first|omega|(simp;omega)) (by first|omega|(simp;omega)) rfl λva vc hvc=> ?_);refine ay ?_;refine D2 12 17 ?_ ?_
    ·refine Do rfl (oC T.iz rfl rfl (jT z N) .nil (λ_ le _=>In.mono q1 le) ?_)
     rintro v H' ⟨rfl,rfl⟩;refine bd ?_;refine ay ?_;refine D2 15 17 ?_ ?_
     ·refine Do rfl (oC T.fu rfl rfl (yG) .nil (λ_ _ _=>trivial) ?_)
      rintro v H' ⟨rfl,rfl⟩;refine bd ?_;refine ay ?_;refine Dt 16 rfl (Bd T.bW T.eT) ?_;refine Dn 17 ?_;refine Do rfl (oA T.bW λb3=> ?_);refine ay ?_;refine Dn 18 ?_;refine Do rfl (eJ T.dR ?_);refine ay ?_;refine bC (by kernel_rfl) aI ?_;simp only[acQ];refine Me ((kb,mf,va,vc,b3)) (trivial)
     refine Do rfl (oA T.bW λb4=> ?_);refine ay ?_;refine Dn 15 ?_;refine Do rfl (oC T.fu rfl rfl (yG) .nil (λ_ _ _=>trivial) ?_);rintro v H' ⟨rfl,rfl⟩;refine bd ?_;refine ay ?_;refine Dt 16 rfl (Bd T.bW T.eT) ?_;refine Dn 18 ?_;refine Do rfl (eJ T.dR ?_);refine ay ?_;refine bC (by kernel_rfl) aI ?_;simp only[acQ];refine Me ((kb,mf,va,vc,b4)) (trivial)
    refine Do rfl (oA T.bW λb5=> ?_);refine ay ?_;refine Dn 12 ?_;refine Do rfl (oC T.iz rfl rfl (jT z N) .nil (λ_ le _=>In.mono q1 le) ?_);rintro v H' ⟨rfl,rfl⟩;refine bd ?_;refine ay ?_;refine Dn 15 ?_;refine Do rfl (oC T.fu rfl rfl (yG) .nil (λ_ _ _=>trivial) ?_);rintro v H' ⟨rfl,rfl⟩;refine bd ?_;refine ay ?_;refine Dt 16 rfl (Bd T.bW T.eT) ?_;refine Dn 18 ?_;refine Do rfl (eJ T.dR ?_);refine ay ?_;refine bC (by kernel_rfl) aI ?_;simp only[acQ];refine Me ((kb,mf,va,vc,b5)) (trivial)
   refine Do rfl (oA T.bW λb6=> ?_);refine ay ?_;refine aT 5 1 ?_;refine Dn 4 ?_;refine Do rfl (eo T.gj T.mB rfl rfl rfl rfl .here (rfl) (dJ (m:=c.data.length) (by simp) (λh le _=>hd.mono (iT.trans le))) (by first|exact cY|(simp[Value.oneCell',aB])) (by first|omega|(simp;omega)) (by first|omega|(simp;omega)) rfl λva vc hvc=> ?_);refine ay ?_;refine Dn 12 ?_;refine Do rfl (oC T.iz rfl rfl (jT z N) .nil (λ_ le _=>In.mono q1 le) ?_);rintro v H' ⟨rfl,rfl⟩;refine bd ?_;refine ay ?_;refine Dn 15 ?_;refine Do rfl (oC T.fu rfl rfl (yG) .nil (λ_ _ _=>trivial) ?_);rintro v H' ⟨rfl,rfl⟩;refine bd ?_;refine ay ?_;refine Dt 16 rfl (Bd T.bW T.eT) ?_;refine Dn 18 ?_;refine Do rfl (eJ T.dR ?_);refine ay ?_;refine bC (by kernel_rfl) aI ?_;simp only[acQ];refine Me ((kb,mf,va,vc,b6)) (trivial)
  ·refine aT 5 1 ?_
   refine Do rfl (eo T.gj T.mB rfl rfl rfl rfl .here (rfl) (dJ (m:=c.data.length) (by simp) (λh le _=>hd.mono (iT.trans le))) (by first|exact cY|(simp[Value.oneCell',aB])) (by first|omega|(simp;omega)) (by first|omega|(simp;omega)) rfl λva vc hvc=> ?_);refine ay ?_;refine D3 1 12 17 ?_ ?_ ?_
   ·refine Do rfl (BA T.kk T.ll T.qw λkb mf rz=> ?_)
    refine ay ?_;refine D2 12 17 ?_ ?_
    ·refine Do rfl (oC T.iz rfl rfl (jT z N) .nil (λ_ le _=>In.mono q1 le) ?_)
     rintro v H' ⟨rfl,rfl⟩;refine bd ?_;refine ay ?_;refine D2 15 17 ?_ ?_
     ·refine Do rfl (oC T.fu rfl rfl (yG) .nil (λ_ _ _=>trivial) ?_)
      rintro v H' ⟨rfl,rfl⟩;refine bd ?_;refine ay ?_;refine Dt 16 rfl (Bd T.bW T.eT) ?_;refine Dn 17 ?_;refine Do rfl (oA T.bW λb7=> ?_);refine ay ?_;refine Dn 18 ?_;refine Do rfl (eJ T.dR ?_);refine ay ?_;refine bC (by kernel_rfl) aI ?_;simp only[acQ];refine Me ((kb,mf,va,vc,b7)) (trivial)
     refine Do rfl (oA T.bW λb8=> ?_);refine ay ?_;refine Dn 15 ?_;refine Do rfl (oC T.fu rfl rfl (yG) .nil (λ_ _ _=>trivial) ?_);rintro v H' ⟨rfl,rfl⟩;refine bd ?_;refine ay ?_;refine Dt 16 rfl (Bd T.bW T.eT) ?_;refine Dn 18 ?_;refine Do rfl (eJ T.dR ?_);refine ay ?_;refine bC (by kernel_rfl) aI ?_;simp only[acQ];refine Me ((kb,mf,va,vc,b8)) (trivial)
    refine Do rfl (oA T.bW λb9=> ?_);refine ay ?_;refine Dn 12 ?_;refine Do rfl (oC T.iz rfl rfl (jT z N) .nil (λ_ le _=>In.mono q1 le) ?_);rintro v H' ⟨rfl,rfl⟩;refine bd ?_;refine ay ?_;refine Dn 15 ?_;refine Do rfl (oC T.fu rfl rfl (yG) .nil (λ_ _ _=>trivial) ?_);rintro v H' ⟨rfl,rfl⟩;refine bd ?_;refine ay ?_;refine Dt 16 rfl (Bd T.bW T.eT) ?_;refine Dn 18 ?_;refine Do rfl (eJ T.dR ?_);refine ay ?_;refine bC (by kernel_rfl) aI ?_;simp only[acQ];refine Me ((kb,mf,va,vc,b9)) (trivial)
   ·refine Do rfl (oC T.iz rfl rfl (jT z N) .nil (λ_ le _=>In.mono q1 le) ?_)
    rintro v H' ⟨rfl,rfl⟩;refine bd ?_;refine ay ?_;refine D3 1 15 17 ?_ ?_ ?_
    ·refine Do rfl (BA T.kk T.ll T.qw λkb mf rz=> ?_)
     refine ay ?_;refine D2 15 17 ?_ ?_
     ·refine Do rfl (oC T.fu rfl rfl (yG) .nil (λ_ _ _=>trivial) ?_)
      rintro v H' ⟨rfl,rfl⟩;refine bd ?_;refine ay ?_;refine Dt 16 rfl (Bd T.bW T.eT) ?_;refine Dn 17 ?_;refine Do rfl (oA T.bW λb10=> ?_);refine ay ?_;refine Dn 18 ?_;refine Do rfl (eJ T.dR ?_);refine ay ?_;refine bC (by kernel_rfl) aI ?_;simp only[acQ];refine Me ((kb,mf,va,vc,b10)) (trivial)
     refine Do rfl (oA T.bW λb11=> ?_);refine ay ?_;refine Dn 15 ?_;refine Do rfl (oC T.fu rfl rfl (yG) .nil (λ_ _ _=>trivial) ?_);rintro v H' ⟨rfl,rfl⟩;refine bd ?_;refine ay ?_;refine Dt 16 rfl (Bd T.bW T.eT) ?_;refine Dn 18 ?_;refine Do rfl (eJ T.dR ?_);refine ay ?_;refine bC (by kernel_rfl) aI ?_;simp only[acQ];refine Me ((kb,mf,va,vc,b11)) (trivial)
    ·refine Do rfl (oC T.fu rfl rfl (yG) .nil (λ_ _ _=>trivial) ?_)
     rintro v H' ⟨rfl,rfl⟩;refine bd ?_;refine ay ?_;refine D2 1 17 ?_ ?_
     ·refine Do rfl (BA T.kk T.ll T.qw λkb mf rz=> ?_)
      refine ay ?_;refine Dt 16 rfl (Bd T.bW T.eT) ?_;refine Dn 17 ?_;refine Do rfl (oA T.bW λb12=> ?_);refine ay ?_;refine Dn 18 ?_;refine Do rfl (eJ T.dR ?_);refine ay ?_;refine bC (by kernel_rfl) aI ?_;simp only[acQ];refine Me ((kb,mf,va,vc,b12)) (trivial)
     refine Do rfl (oA T.bW λb13=> ?_);refine ay ?_;refine Dn 1 ?_;refine Do rfl (BA T.kk T.ll T.qw λkb mf rz=> ?_);refine ay ?_;refine Dt 16 rfl (Bd T.bW T.eT) ?_;refine Dn 18 ?_;refine Do rfl (eJ T.dR ?_);refine ay ?_;refine bC (by kernel_rfl) aI ?_;simp only[acQ];refine Me ((kb,mf,va,vc,b13)) (trivial)
    refine Do rfl (oA T.bW λb14=> ?_);refine ay ?_;refine D2 1 15 ?_ ?_
    ·refine Do rfl (BA T.kk T.ll T.qw λkb mf rz=> ?_)
     refine ay ?_;refine Dn 15 ?_;refine Do rfl (oC T.fu rfl rfl (yG) .nil (λ_ _ _=>trivial) ?_);rintro v H' ⟨rfl,rfl⟩;refine bd ?_;refine ay ?_;refine Dt 16 rfl (Bd T.bW T.eT) ?_;refine Dn 18 ?_;refine Do rfl (eJ T.dR ?_);refine ay ?_;refine bC (by kernel_rfl) aI ?_;simp only[acQ];refine Me ((kb,mf,va,vc,b14)) (trivial)
    refine Do rfl (oC T.fu rfl rfl (yG) .nil (λ_ _ _=>trivial) ?_);rintro v H' ⟨rfl,rfl⟩;refine bd ?_;refine ay ?_;refine Dn 1 ?_;refine Do rfl (BA T.kk T.ll T.qw λkb mf rz=> ?_);refine ay ?_;refine Dt 16 rfl (Bd T.bW T.eT) ?_;refine Dn 18 ?_;refine Do rfl (eJ T.dR ?_);refine ay ?_;refine bC (by kernel_rfl) aI ?_;simp only[acQ];refine Me ((kb,mf,va,vc,b14)) (trivial)
   refine Do rfl (oA T.bW λb15=> ?_);refine ay ?_;refine D2 1 12 ?_ ?_
   ·refine Do rfl (BA T.kk T.ll T.qw λkb mf rz=> ?_)
    refine ay ?_;refine Dn 12 ?_;refine Do rfl (oC T.iz rfl rfl (jT z N) .nil (λ_ le _=>In.mono q1 le) ?_);rintro v H' ⟨rfl,rfl⟩;refine bd ?_;refine ay ?_;refine Dn 15 ?_;refine Do rfl (oC T.fu rfl rfl (yG) .nil (λ_ _ _=>trivial) ?_);rintro v H' ⟨rfl,rfl⟩;refine bd ?_;refine ay ?_;refine Dt 16 rfl (Bd T.bW T.eT) ?_;refine Dn 18 ?_;refine Do rfl (eJ T.dR ?_);refine ay ?_;refine bC (by kernel_rfl) aI ?_;simp only[acQ];refine Me ((kb,mf,va,vc,b15)) (trivial)
   refine Do rfl (oC T.iz rfl rfl (jT z N) .nil (λ_ le _=>In.mono q1 le) ?_);rintro v H' ⟨rfl,rfl⟩;refine bd ?_;refine ay ?_;refine D2 1 15 ?_ ?_
   ·refine Do rfl (BA T.kk T.ll T.qw λkb mf rz=> ?_)
    refine ay ?_;refine Dn 15 ?_;refine Do rfl (oC T.fu rfl rfl (yG) .nil (λ_ _ _=>trivial) ?_);rintro v H' ⟨rfl,rfl⟩;refine bd ?_;refine ay ?_;refine Dt 16 rfl (Bd T.bW T.eT) ?_;refine Dn 18 ?_;refine Do rfl (eJ T.dR ?_);refine ay ?_;refine bC (by kernel_rfl) aI ?_;simp only[acQ];refine Me ((kb,mf,va,vc,b15)) (trivial)
   refine Do rfl (oC T.fu rfl rfl (yG) .nil (λ_ _ _=>trivial) ?_);rintro v H' ⟨rfl,rfl⟩;refine bd ?_;refine ay ?_;refine Dn 1 ?_;refine Do rfl (BA T.kk T.ll T.qw λkb mf rz=> ?_);refine ay ?_;refine Dt 16 rfl (Bd T.bW T.eT) ?_;refine Dn 18 ?_;refine Do rfl (eJ T.dR ?_);refine ay ?_;refine bC (by kernel_rfl) aI ?_;simp only[acQ];refine Me ((kb,mf,va,vc,b15)) (trivial)
  refine Do rfl (oA T.bW λb16=> ?_);refine ay ?_;refine D2 1 4 ?_ ?_
  ·refine Do rfl (BA T.kk T.ll T.qw λkb mf rz=> ?_)
   refine ay ?_;refine aT 5 1 ?_;refine Dn 4 ?_;refine Do rfl (eo T.gj T.mB rfl rfl rfl rfl .here (rfl) (dJ (m:=c.data.length) (by simp) (λh le _=>hd.mono (iT.trans le))) (by first|exact cY|(simp[Value.oneCell',aB])) (by first|omega|(simp;omega)) (by first|omega|(simp;omega)) rfl λva vc hvc=> ?_);refine ay ?_;refine Dn 12 ?_;refine Do rfl (oC T.iz rfl rfl (jT z N) .nil (λ_ le _=>In.mono q1 le) ?_);rintro v H' ⟨rfl,rfl⟩;refine bd ?_;refine ay ?_;refine Dn 15 ?_;refine Do rfl (oC T.fu rfl rfl (yG) .nil (λ_ _ _=>trivial) ?_);rintro v H' ⟨rfl,rfl⟩;refine bd ?_;refine ay ?_;refine Dt 16 rfl (Bd T.bW T.eT) ?_;refine Dn 18 ?_;refine Do rfl (eJ T.dR ?_);refine ay ?_;refine bC (by kernel_rfl) aI ?_;simp only[acQ];refine Me ((kb,mf,va,vc,b16)) (trivial)
  refine aT 5 1 ?_;refine Do rfl (eo T.gj T.mB rfl rfl rfl rfl .here (rfl) (dJ (m:=c.data.length) (by simp) (λh le _=>hd.mono (iT.trans le))) (by first|exact cY|(simp[Value.oneCell',aB])) (by first|omega|(simp;omega)) (by first|omega|(simp;omega)) rfl λva vc hvc=> ?_);refine ay ?_;refine D2 1 12 ?_ ?_
  ·refine Do rfl (BA T.kk T.ll T.qw λkb mf rz=> ?_)
   refine ay ?_;refine Dn 12 ?_;refine Do rfl (oC T.iz rfl rfl (jT z N) .nil (λ_ le _=>In.mono q1 le) ?_);rintro v H' ⟨rfl,rfl⟩;refine bd ?_;refine ay ?_;refine Dn 15 ?_;refine Do rfl (oC T.fu rfl rfl (yG) .nil (λ_ _ _=>trivial) ?_);rintro v H' ⟨rfl,rfl⟩;refine bd ?_;refine ay ?_;refine Dt 16 rfl (Bd T.bW T.eT) ?_;refine Dn 18 ?_;refine Do rfl (eJ T.dR ?_);refine ay ?_;refine bC (by kernel_rfl) aI ?_;simp only[acQ];refine Me ((kb,mf,va,vc,b16)) (trivial)
  refine Do rfl (oC T.iz rfl rfl (jT z N) .nil (λ_ le _=>In.mono q1 le) ?_);rintro v H' ⟨rfl,rfl⟩;refine bd ?_;refine ay ?_;refine D2 1 15 ?_ ?_
  ·refine Do rfl (BA T.kk T.ll T.qw λkb mf rz=> ?_)
   refine ay ?_;refine Dn 15 ?_;refine Do rfl (oC T.fu rfl rfl (yG) .nil (λ_ _ _=>trivial) ?_);rintro v H' ⟨rfl,rfl⟩;refine bd ?_;refine ay ?_;refine Dt 16 rfl (Bd T.bW T.eT) ?_;refine Dn 18 ?_;refine Do rfl (eJ T.dR ?_);refine ay ?_;refine bC (by kernel_rfl) aI ?_;simp only[acQ];refine Me ((kb,mf,va,vc,b16)) (trivial)
  refine Do rfl (oC T.fu rfl rfl (yG) .nil (λ_ _ _=>trivial) ?_);rintro v H' ⟨rfl,rfl⟩;refine bd ?_;refine ay ?_;refine Dn 1 ?_;refine Do rfl (BA T.kk T.ll T.qw λkb mf rz=> ?_);refine ay ?_;refine Dt 16 rfl (Bd T.bW T.eT) ?_;refine Dn 18 ?_;refine Do rfl (eJ T.dR ?_);refine ay ?_;refine bC (by kernel_rfl) aI ?_;simp only[acQ];refine Me ((kb,mf,va,vc,b16)) (trivial)
 rintro⟨kb,mf,va,vc,b9⟩ hI;dsimp only;refine au ?_;refine cg (ι:=List UInt8×Nat×Nat×Option Addr×Nat) [71,72,74,75,76,77,78,79,80,73,81,82,10,11,83,84,85,86,87,88,89,90,91,92,93,94,95,96,97,98,99,100,101,102,103,104,105,106,107,108,109,110,111,112,113,114,115,116] (λs=>N.mm c k old=some (s.1,s.2.1,s.2.2.1)∧58+k.length+s.1.length≤1048576∧s.2.1<4294967296∧s.2.2.1<9223372036854775808) (λs=> []) (λs=> [SW z N,ag b1 47 (cy c ka kc da dc mv),ag b2 41 [.int .i64 0,aG, .int .u64 0,aB [],aG],own (some ⟨kb,0,none⟩) mf 5 1 (ai k),own s.2.2.2.1 s.2.2.2.2 5 1 (ai s.1),ag b9 170 (D8 (.slice (some ⟨kb,0,none⟩) k.length mf) (.slice s.2.2.2.1 s.1.length s.2.2.2.2) s.2.1 s.2.2.1 0 0 0 0)]) ?_ ?_
 ·rcases ov with _|_
  ·refine gU ?_
   refine aR ?_;cases old with
   |none=>
    exfalso;have h89:c.verb=8∨c.verb=9:=by unfold tX at Uf;have:=of_decide_eq_false Uf;omega
    unfold aX at hn;rw[if_neg (by omega),if_pos (by omega)]at hn;cases hn
   |some p=>
   have hp:=hold p rfl;obtain⟨v1,v2,v3,v4⟩:=O2.YX (p:=p) hp;change(N.it p).val.length≤_ at v1;change(N.it p).fl<_ at v2;change(N.it p).exp<_ at v3;refine bH ?_;refine Lp (oC T.G9 rfl rfl (yZ z N p hp) (.cons .here .nil) (λ_ _ _=>trivial) ?_);rintro v H' ⟨H0,⟨TH,Xi,st2,D1,hs2',hs3',rfl,rfl⟩,rfl⟩;refine bd ?_;refine aZ ?_;refine Lp (oA T.bW λb17=> ?_);refine Lp (eJ T.dR ?_ (h1:=by simp[D8,Value.oneCell']));refine a8 ?_;refine au ?_;unfold D8;refine gK 8 T.mix (.cons .here .nil) λF2 yi ez dX=> ?_;obtain⟨q3,_⟩:=ez;refine cI ?_;refine gd dX ?_;refine ay ?_;refine au ?_;simp only[acQ];refine Hh (H':= [SW z N,ag b1 47 (cy c ka kc da dc mv),ag b2 41 [.int .i64 0,aG, .int .u64 0,aB [],aG],own (some ⟨kb,0,none⟩) mf 5 1 (ai k),own va vc 5 1 (ai c.data),ag b9 170 [.slice (some ⟨kb,0,none⟩) k.length mf, .slice va c.data.length vc, .int .u64 ((N.it p).fl:Int), .int .i64 ((N.it p).exp:Int), .int .i64 0, .int .u64 0, .int .i64 0, .int .i64 0],own (some ⟨Xi,0,none⟩) (N.it p).val.length 5 1 (ai (N.it p).val),ag b17 170 [.slice (some ⟨TH,0,none⟩) (N.it p).key.length (N.it p).key.length, .slice (some ⟨Xi,0,none⟩) (N.it p).val.length (N.it p).val.length, .int .u64 ((N.it p).fl:Int), .int .i64 ((N.it p).exp:Int), .int .i64 ((N.it p).tch:Int), .int .u64 ((N.it p).tok:Int), .int .i64 (st2:Int), .int .i64 ((N.it p).dB:Int)]]) ?_;refine cg (ι:=Option Addr×Nat) [89,90,91,92,93,94,95,96,97,98,99,100,101,102,103] (λs=>True) (λs=> []) (λs=> [SW z N,ag b1 47 (cy c ka kc da dc mv),ag b2 41 [.int .i64 0,aG, .int .u64 0,aB [],aG],own (some ⟨kb,0,none⟩) mf 5 1 (ai k),own s.1 s.2 5 1 (ai (if c.verb=8 then(N.it p).val++c.data else c.data++(N.it p).val)),ag b9 170 [.slice (some ⟨kb,0,none⟩) k.length mf, .slice s.1 (if c.verb=8 then(N.it p).val++c.data else c.data++(N.it p).val).length s.2, .int .u64 ((N.it p).fl:Int), .int .i64 ((N.it p).exp:Int), .int .i64 0, .int .u64 0, .int .i64 0, .int .i64 0],ag b17 170 [.slice (some ⟨TH,0,none⟩) (N.it p).key.length (N.it p).key.length, .slice (some ⟨Xi,0,none⟩) (N.it p).val.length (N.it p).val.length, .int .u64 ((N.it p).fl:Int), .int .i64 ((N.it p).exp:Int), .int .i64 ((N.it p).tch:Int), .int .u64 ((N.it p).tok:Int), .int .i64 (st2:Int), .int .i64 ((N.it p).dB:Int)]]) ?_ ?_
   ·by_cases h8:c.verb=8
    ·rw[if_pos h8]
     refine bc ?_;refine dz ?_ (e:=by exact decide_eq_true h8);refine bc ?_;refine Lp (eo T.gj T.mB rfl rfl rfl rfl (.there (.there (.there (.there (.there (.there .here)))))) (by simp) (dJ (m:=c.data.length) (by simp) (λh le aw=>bD (aw.nth 4 rfl))) (by first|exact cY|(simp[Value.oneCell',aB])) (by first|omega|(simp;omega)) (by first|omega|(simp;omega)) rfl λa6 c6 hc6=> ?_);refine a8 ?_;refine az ?_;rw[show ai (N.it p).val++ai c.data=ai ((N.it p).val++c.data) by unfold ai;rw[adq],←acI];refine Me ((a6,c6)) (trivial)
    rw[if_neg h8];refine bc ?_;refine cu ?_ (e:=by exact decide_eq_false h8);refine bc ?_;refine Lp (eo T.gj T.mB rfl rfl rfl rfl (.there (.there (.there (.there .here)))) (by simp) (dJ (m:=(N.it p).val.length) (by simp) (λh le aw=>bD (aw.nth 6 rfl))) (by first|exact cY|(simp[Value.oneCell',aB])) (by first|omega|(simp;omega)) (by first|omega|(simp;omega)) rfl λa6 c6 hc6=> ?_);refine a8 ?_;refine az ?_;rw[show ai c.data++ai (N.it p).val=ai (c.data++(N.it p).val) by unfold ai;rw[adq],←acI];refine Me ((a6,c6)) (trivial)
   rintro⟨a6,c6⟩ hI;dsimp only;have IU:(if c.verb=8 then(N.it p).val++c.data else c.data++(N.it p).val).length=c.data.length+(N.it p).val.length:=by
    split<;>rw[acI]<;>omega
   have hnw:N.mm c k (some p)=if N.v.c.lim<58+k.length+c.data.length+(N.it p).val.length then none else some (if c.verb=8 then(N.it p).val++c.data else c.data++(N.it p).val,(N.it p).fl,(N.it p).exp):=by unfold Mo.mm;rw[Uf];rfl
   generalize (if c.verb=8 then(N.it p).val++c.data else c.data++(N.it p).val)=nv at*;refine au ?_;refine gK 11 T.mix (.cons .here (.cons (.there (.there (.there (.there (.there .here))))) .nil)) λF3 MN qH fM=> ?_;obtain⟨q4,q5,_⟩:=qH;refine a8 ?_
   first
    |refine Ti (Lf T.iw) ?_
    |refine Ti (fB T.iw q4) ?_
   refine bB ?_
   first
    |refine Ti (Lf T.bR) ?_
    |refine Ti (fB T.bR q4) ?_
   refine ay ?_;refine gd fM ?_;refine ay ?_;by_cases qd:N.v.c.lim<58+k.length+c.data.length+(N.it p).val.length
   ·rw[if_pos qd]at hnw
    refine dz ?_;refine cC ?_;refine zl T.rL (gz bM) .nil (λ_ _ _=>trivial) ?_;refine Li (T6 T.gn) ?_;refine Lp (TD ?_);refine pP [SW z N] ?_;exact⟨.t bM,N,by rw[YM,zV,hnw],rfl,rfl⟩
   rw[if_neg qd]at hnw;refine cu ?_;refine ay ?_;refine Me ((nv,(N.it p).fl,(N.it p).exp,a6,c6)) (⟨hnw,(by dsimp only;rw[n1]at qd;omega),v2,v3⟩)
  refine gU ?_;refine bc ?_;refine Me ((c.data,c.fl,cF N.k.now c.ex,va,vc)) (⟨(by unfold Mo.mm;rw[Uf];rfl),hd20,BE,Bj _ _ Mz.1 hex⟩)
 rintro⟨v,fl,ex,va2,vc2⟩ hI;dsimp only at hI⊢;obtain⟨BN,sT,hfl2,hex2⟩:=hI;rw[BN]at zV;have hR:=u9 (M:=N) (n:=58+k.length+v.length) (own:=old) (o:=(N.room (58+k.length+v.length) old).1) (N:=(N.room (58+k.length+v.length) old).2) ⟨O2.mc0,O2.TF.nd,O2.TF.lv,O2.TF.on⟩ rfl;have hly:N.lays k old ov (v,fl,ex)=match N.room (58+k.length+v.length) old with|(none,R)=>(.t hU,R.over old ov)|(some r,R)=>(.k 1,R.gf r old ⟨k,v,fl,ex,R.k.now,R.v.aM+1,0⟩):=rfl
 have zW:=uw z N (n4.trans hh) (by rw[n5];exact iY) (by rw[hsN];exact vW) k.length v.length ⟨hk0,X4⟩ (by omega) old hold;unfold D8;refine aZ ?_;refine Li (Ls T.kk) ?_;refine aR ?_;refine zl T.PB (zW) (.cons .here .nil) (λ_ _ _=>trivial) ?_;rcases hrm:N.room (58+k.length+v.length) old with⟨o,R⟩
 rw[hrm]at hR hly;dsimp only at hR hly⊢;have hoR:vP N.C old=vP R.C old:=by
  rcases old with _|p
  ·rfl
  exact(hR.s.own p rfl (hold p rfl)).2.1.symm
 have X0:∀p,old=some p→R.has p:=λp e=>(hR.s.own p e (hold p e)).1;rw[hoR];rcases o with _|r0
 ·dsimp only at hly
  refine dQ ?_;refine Lp (MM T.Fs rfl rfl (l9 z R old X0 ov hU) (.cons .here .nil) (λ_ _ _=>trivial) (by rintro v H' ⟨rfl,rfl⟩;exact pP [SW z (R.over old ov)] ⟨.t hU,_,by rw[YM,zV];exact hly,rfl,rfl⟩) ?_);rintro v H' hF;exact hF.elim
 obtain⟨g1,g2,g3,g4⟩:=hR.ok r0 rfl;have hdn:=cB hR.k.k g3.toAt;obtain⟨_,_,_,_,hd1,GQ⟩:=hdn;refine bH ?_;refine cu ?_ (e:=by exact decide_eq_false (by show¬(((R.C.hd r0:Nat):Int)=0);omega));refine bH ?_;refine zl T.PA (CD z R r0 g1 old k v _ _ rfl rfl (λp e=>⟨X0 p e,by rw[hR.s.it];exact(e2 p e).2⟩) (λe=>Iu λq hq ek=>VV (e3 e) (hR.s.has q hq) (by rw[←hR.s.it];exact ek)) (some ⟨kb,0,none⟩) va2 mf vc2 fl ex 0 hk g2 hfl2 hex2 (by decide) (by rw[hR.s.aM,n2];exact qG) (by rw[hR.s.tn,n3];exact tY)) (.cons .here .nil) (λ_ le aw=>⟨bD (aw.nth 2 rfl),bD (aw.nth 3 rfl)⟩) ?_;refine aZ ?_;refine Lp (eJ T.aS ?_ (h1:=by simp[bU,Value.cells,Value.oneCell',aB,aG]));refine a8 ?_;refine pR ?_;refine ko [SW z (R.gf r0 old ⟨k,v,fl,ex,R.k.now,R.v.aM+1,0⟩)] T.aS results77 ?_;exact⟨.k 1,_,by rw[YM,zV];exact hly,rfl,rfl⟩
theorem Rv (A:By)(p:Nat)(v:List UInt8)(q n:Nat)(h:q+n≤p+48∨p+52≤q∧q+n≤p+56+kl A p):jt (eM A p v) q n=jt A q n:=by
 unfold eM;rw[fD _ _ _ _ _ (.inl (by omega)),fD _ _ _ _ _ (.inl (by omega)),ri _ _ _ _ _ _ (by omega)]
theorem pI (A:By)(p:Nat)(v:List UInt8)(o w:Nat)(h:o+w≤48∨52≤o∧o+w≤56):rd (eM A p v) (p+o) w=rd A (p+o) w:=by
 unfold eM;rw[eG _ _ _ _ _ (.inl (by omega)),eG _ _ _ _ _ (.inl (by omega)),aP _ _ _ _ _ _ (by omega)]
theorem H6 (A:By)(p:Nat)(v:List UInt8)(h:v.length<4294967296):vl (eM A p v) p=v.length:=by
 unfold eM vl;rw[eG _ _ _ _ _ (.inl (by omega)),eG _ _ _ _ _ (.inl (by omega)),o6 _ _ _ _ (by omega)]
theorem H7 (A:By)(p:Nat)(v:List UInt8):kl (eM A p v) p=kl A p:=pI A p v 44 1 (.inl (by omega))
theorem C4 (A:By)(p:Nat)(v:List UInt8):aL (eM A p v) p=aL A p:=by
 unfold aL;rw[H7,Rv _ _ _ _ _ (.inr ⟨by omega,by omega⟩)]
theorem Ru (A:By)(p:Nat)(v:List UInt8)(h:v.length<4294967296):oo (eM A p v) p=v:=by
 unfold oo;rw[H7,H6 A p v h];unfold eM;rw[fD _ _ _ _ _ (.inl (by omega)),ke]
theorem aaI{C:Cs}{p:Nat}{v:List UInt8}(A:By)(L:At C p)(hf:58+kl A p+v.length≤C.sz (C.cl p)):dx C A (eM A p v) (λq o=>q=p∧48≤o):=λi e=>by
 have h1:p+48≤i∧i<p+58+kl A p+v.length:=by
  refine acH λg=>e ?_;unfold eM wr;have hc:crlf.length=2:=rfl;rw[fZ _ _ _ _ (by omega),fZ _ _ _ _ (by omega),fZ _ _ _ _ (by rw[l7];omega)]
 exact⟨p,i-p,L,by omega,⟨rfl,by omega⟩,by omega⟩
def Mo.kA (M:Mo)(p:Nat)(v:List UInt8):Mo:={M.put p {M.it p with val:=v}with v:={M.v with gr:=M.v.gr+v.length-(M.it p).val.length}}
theorem Vi{f g:Nat→Nat}{p:Nat}{l:List Nat}(nd:l.Nodup)(hp:p∈l)(h:∀q,q≠p→g q=f q):(l.map g).sum+f p=(l.map f).sum+g p:=by
 have e:=List.perm_cons_erase hp;rw[(e.map g).sum_nat,(e.map f).sum_nat,acM,acM,ac0,ac0];have:(l.erase p).map g=(l.erase p).map f:=List.map_congr_left λq hq=>h q λg=>by subst g;exact nd.not_mem_erase hq
 rw[this];omega
theorem bY.kA{B:Bx}{M:Mo}(O:bY B M){p:Nat}(hp:M.has p)(v:List UInt8)(hf:58+(M.it p).key.length+v.length≤M.C.sz (M.C.cl p)):bY ⟨B.C.wA (eM B.C.A p v),B.W,B.ty,B.E⟩ (M.kA p v):=by
 have K:=O.k;have eK:=(O.al p).2 hp;have L:=O.sM eK;obtain⟨f1,f2,f3,f4,f5,f6,f7⟩:=O.je eK;have oh:kl B.C.A p=(M.it p).key.length:=by rw[←f5];exact(dC _ _ _).symm
 have sT:=(L.toAt.bo K).2.2.1;have Xo:=K.toFix.p1;have Et:58+kl B.C.A p+v.length≤B.C.sz (B.C.cl p):=by rw[oh,show B.C.cl p=M.C.cl p from O.cl p,show B.C.sz (M.C.cl p)=M.C.sz (M.C.cl p) by rw[O.c];rfl];exact hf
 have d:=aaI B.C.A L.toAt Et;have I:=O.t.it p eK;have v32:v.length<4294967296:=by omega
 have other:∀q∈B.W.all,q≠p→nQ (eM B.C.A p v) q=nQ B.C.A q:=λq hq ne=>wo K d (O.om hq) (O.t.it q hq) (λj s=>absurd s.1 ne);have r:=λ(q:Nat) (hq:q∈B.W.all) (o w:Nat) (h2:o+w≤48)=>lA (o:=o) (w:=w) K d (O.om hq) (by have:=((O.om hq).bo K).2.1;omega) (λj g1 g2 s=>by obtain⟨_,s2⟩:=s;omega);have itp:nQ (eM B.C.A p v) p={M.it p with val:=v}:=by
  rw[←O.it p eK];unfold nQ TY vS nm rD dE;rw[C4,Ru _ _ _ v32,pI _ _ _ _ _ (.inl (by omega)),pI _ _ _ _ _ (.inl (by omega)),pI _ _ _ _ _ (.inl (by omega)),pI _ _ _ _ _ (.inl (by omega)),pI _ _ _ _ _ (.inl (by omega))]
 have eO:∀q∈B.W.all,nQ (eM B.C.A p v) q=(M.kA p v).it q:=λq hq=>by
  show _=if q=p then _ else M.it q
  by_cases e:q=p
  ·rw[if_pos e,e];exact itp
  rw[if_neg e,other q hq e];exact O.it q hq
 have key:∀q∈B.W.all,aL (eM B.C.A p v) q=aL B.C.A q:=λq hq=>by
  by_cases e:q=p
  ·rw[e];exact C4 _ _ _
  exact congrArg I3.key (other q hq e)
 have iok:∀q∈B.W.all,ic (B.C.wA (eM B.C.A p v)) q:=λq hq=>by
  have J:=O.t.it q hq;have e2:=r q hq 16 8 (by omega);have e3:=r q hq 24 8 (by omega);have e4:kl (eM B.C.A p v) q=kl B.C.A q:=r q hq 44 1 (by omega);refine⟨by rw[cS,e4];exact J.k0, ?_,by rw[cS,e2];exact J.exp,by rw[cS,e3];exact J.tch⟩;rw[cS,e4];by_cases e:q=p
  ·rw[e,H6 _ _ _ v32];exact Et
  have e5:vl (eM B.C.A p v) q=vl B.C.A q:=lA K d (O.om hq) (by have:=((O.om hq).bo K).2.1;omega) (λj g1 g2 s=>e s.1);rw[e5];exact J.fits
 have lk:∀l:List Nat,(∀q∈l,q∈B.W.all)→Ez B.C.A l→Ez (eM B.C.A p v) l:=λl=>by
  induction l with
  |nil=>exact λ_ _=>trivial
  |cons q l ih=>exact λh g=>⟨(r q (h q List.mem_cons_self) 0 4 (by omega)).trans g.1,ih (λx hx=>h x (List.mem_cons_of_mem _ hx)) g.2⟩
 have T:=O.t;have hT:dq (B.C.wA (eM B.C.A p v)) B.W:=⟨T.pw,T.po,T.st,T.mp,T.sz,T.ML,T.sm,T.mv,T.n,T.nd,λx=>lk _ (λq hq=>Tb.gk hq) (T.li x),λq hq=>(T.lv q hq).wA _,iok,
  λx q hq=>by
   show B.W.bk (cx (aL (eM B.C.A p v) q))=x;rw[key q (Tb.gk hq)];exact T.bu x q hq,
  λa ha b hb e=>by
   change aL (eM B.C.A p v) a=aL (eM B.C.A p v) b at e;rw[key a ha,key b hb]at e;exact T.kd a ha b hb e⟩
 have Q:=O.o;have hQ:iV (B.C.wA (eM B.C.A p v)) M.Q:=⟨Q.len,λi q hq=>(Q.lv i q hq).wA _,λi q hq=>iok q (O.sO hq),λi q hq=>by
   have:=r q (O.sO hq) 45 1 (by omega);show 1≤jc (eM B.C.A p v) q∧_;rw[cS,show jc (eM B.C.A p v) q=jc B.C.A q from this];exact Q.st i q hq,Q.nd,λi k hk=>by rw[cS,r _ (O.sO (acJ hk)) 4 4 (by omega)];exact Q.l1 i k hk,λi k hk=>by rw[cS,r _ (O.sO (acJ hk)) 8 4 (by omega)];exact Q.l2 i k hk⟩
 refine⟨?_,K.wA _,hT,O.ty,hQ,O.x, ?_,O.ck,O.al,λq=> ?_,O.ho,eO, ?_,O.st,O.nb,O.mg,O.mo, ?_,O.un,O.on,O.go,O.wn,O.cf,O.n,λq hq=> ?_⟩
 ·show B.C.wA _=M.C.wA _
  conv=>lhs;rw[O.c]
  rfl
 ·intro i q hq
  show dE (eM B.C.A p v) q<16;rw[show dE (eM B.C.A p v) q=dE B.C.A q from r q (O.sO hq) 46 1 (by omega)];exact O.mq i q hq
 ·refine Iff.trans ?_ (O.lv q)
  exact⟨λh=>⟨⟨h.i,h.own,h.al,h.k⟩,h.tk⟩,λh=>h.wA _⟩
 ·refine O.e.trans (List.Perm.of_eq (fU (C:=B.C) (D:=B.C.wA (eM B.C.A p v)) (M:=M) (N:=M.kA p v) λq _=>⟨?_,rfl,rfl⟩).symm)
  show(if q=p then _ else M.it q).exp=_;by_cases e:q=p
  ·rw[if_pos e,e]
  rw[if_neg e]
 ·show M.v.gr+v.length-(M.it p).val.length=(B.W.all.map λq=>((M.kA p v).it q).sz).sum
  have h1:=Vi (f:=λq=>(M.it q).sz) (g:=λq=>((M.kA p v).it q).sz) T.nd eK (λq ne=>by
   show(if q=p then _ else M.it q).sz=_;rw[if_neg ne])
  have h2:((M.kA p v).it p).sz=58+(M.it p).key.length+v.length:=by
   show(if p=p then _ else M.it p).sz=_;rw[if_pos rfl];rfl
  have h3:=O.bt;have h4:(M.it p).sz=58+(M.it p).key.length+(M.it p).val.length:=rfl;rw[h2,h4]at h1;omega
 rw[←eO q hq];show cO (aL (eM B.C.A p v) q)=true;rw[key q hq,show aL B.C.A q=(M.it q).key from congrArg I3.key (O.it q hq)];exact O.lg q hq
end Go.Proofs.YtdolmecackmjdaaGreatDoor
namespace Go.Proofs.YtdolmecackmjdaaGreatDoor
open Go Go.dL Go.Proofs.YtdolmecackmjdaaGreatDoor.Cs
theorem yJ (n:Nat):IntKind.u64.wrap (n:Int)=((n % 18446744073709551616:Nat):Int):=by
 simp[IntKind.wrap,IntKind.bits,IntKind.signed]
def YW (z:Ly)(B:Bx)(M:Mo):aa:=aN
 [ag z.y.t 145 (fA z.y.b B.W B.ty),ag B.ty.nk 163 (aJ (aA B.W.nb)),jV B.ty.ok 163 (aJ (aA B.W.ob)),ag z.y.q 139 (fP z.y.b z.qb B.C.af.length),ag z.qb 327 (M.Q.flatMap (eH B.C)),gZ z.y.cr z.y.q z.y.wh B.C.af.length (bJ z.s) (bI z.s) B.C M.x,Wl z.y.wh B.E M.tn,
  lD z.y.ck M.k,jN z.y.lu z.y.b z.y.q z.hot z.warm,oa z.y.mo z.y.b z.ub (bJ z.s) (bI z.s) (cK z.s) M.m,oz z.ub M.m,lQ M]
theorem JB{L:List aa}{A B:aa}{H:List aa}{h:Hp}(s:ak (A::B::(L++H)) h):ak (A::B::aN L::H) h:=aO (λ_=>aO λ_=>fN) s
theorem QF{L:List aa}{A B:aa}{H:List aa}{h:Hp}(s:ak (A::B::aN L::H) h):ak (A::B::(L++H)) h:=aO (λ_=>aO λ_=>tA) s
theorem Dx (z:Ly)(B:Bx)(M:Mo)(H:List aa):fE (fQ z B M++H) (gY z.s z.y (gJ M.v)) (T7 z B M++H):=
 .there (.there (.there (.there (.there (.there (.there (.there .here)))))))
theorem acb{z:Ly}{B:Bx}{M:Mo}{H:List aa}(h:Hp)(s:ak (fQ z B M++H) h):ak (ag z.s 111 (Ab z.y M.v++ [.slice M.v.wa M.v.wn M.v.wc])::Cl z.y.b B.C::YW z B M::H) h:=
 JB ((Dx z B M H).out _ s)
theorem agl{z:Ly}{B:Bx}{M:Mo}{H:List aa}(h:Hp)(s:ak (ag z.s 111 (Ab z.y M.v++ [.slice M.v.wa M.v.wn M.v.wc])::Cl z.y.b B.C::YW z B M::H) h):ak (fQ z B M++H) h:=
 (Dx z B M H).back _ (QF s)
section
variable {n:Nat} {ds:List Deferred} {F:ee} {K:Act→World→Prop} {σ:ba} {z:Ly} {M N:Mo} {H:List aa}
theorem afo (h:∀B,bY B M→G n ds F K σ (ag z.s 111 (Ab z.y M.v++ [.slice M.v.wa M.v.wn M.v.wc])::Cl z.y.b B.C::YW z B M::H)):G n ds F K σ (SH z M::H):=
 fK λB O=>aC acb (h B O)
theorem afn{B:Bx}(D:Cs)(O:bY ⟨D,B.W,B.ty,B.E⟩ N)(hb:YW z ⟨D,B.W,B.ty,B.E⟩ N=YW z B M)(h:G n ds F K σ (SH z N::H)):G n ds F K σ (ag z.s 111 (Ab z.y N.v++ [.slice N.v.wa N.v.wn N.v.wc])::Cl z.y.b D::YW z B M::H):=by
 rw[←hb];exact aC (λk s=>aQ O k (agl k s)) h
end
theorem QA (z:Ly)(M:Mo)(p t:Nat)(hp:M.has p)(ht:t<18446744073709551616):aH acw 115 [.pointer (some ⟨z.y.b,0,none⟩), .int .u64 (M.C.hd p:Int), .int .u64 (t:Int)] (λ_=>True) [SW z M] (λv H=>v= .int .i64 0∧H= [SW z (M.tok p t)]):=
 hZ (N:=M.tok p t) (T:=λv=>v= .int .i64 0) λa c=>fg λB O=>by
  have eK:=(O.al p).2 hp;have h:=(Bs z.y.b B.C O.k p t ht (O.sM eK) (O.t.it p eK).k0).fr (H:=fQ z B (M.aK a c)++ []) (R:=(fQ z B (M.aK a c)).tail) (.cons .here .nil) (λk aw=>trivial);rw[O.hd]at h;refine h.out ?_;rintro v H' ⟨H0,⟨rfl,rfl⟩,rfl⟩;exact⟨[SH z ((M.tok p t).aK a c)],⟨rfl,rfl⟩,λk s=>aQ (O.w32 eK t ht) (H:= []) k s⟩
theorem DC (z:Ly)(M:Mo)(c:Nat)(hc:c<M.iW):aH acw 113 [.pointer (some ⟨z.s,0,none⟩), .int .i64 (c:Int)] (λ_=>True) [SW z M] (λv H=>v= .int .i64 (M.C.sz c:Int)∧H= [SW z M]):=by
 have h:=FQ z M c;rw[show(ofM M.C c λi=>M.C.sz i)=M.C.sz c by unfold ofM;rw[if_pos ⟨by omega,by exact Int.ofNat_lt.2 hc⟩];rfl]at h;refine ae func113 rfl ntmps113 rfl ?_;intro F _;refine bw ?_;refine zl T.NG (h) (.cons .here .nil) (λ_ _ _=>trivial) ?_;refine aZ ?_;refine Rt [SW z M] results113 ?_;exact⟨rfl,rfl⟩
def iI (c:dI)(n:Nat):Nat:=if c.verb=12 then(n+c.dl) % 18446744073709551616 else n-c.dl
def Mo.fH (M:Mo)(p m:Nat):ff×Mo:=
 if 58+(M.it p).key.length+(bL m).length≤M.C.sz (M.C.cl p)then(⟨7,[],m,[]⟩,((((M.kA p (bL m)).lS (M.v.aM+1)).tok p (M.v.aM+1)).marks p 0).eO p)
 else if M.v.c.lim<58+(M.it p).key.length+(bL m).length then(.t bM,M)
 else match M.room (58+(M.it p).key.length+(bL m).length) (some p)with
  |(none,R)=>(.t hU,R)
  |(some r,R)=>(⟨7,[],m,[]⟩,R.gf r (some p) ⟨(M.it p).key,bL m,(M.it p).fl,(M.it p).exp,R.k.now,R.v.aM+1,0⟩)
def Mo.counts (M:Mo)(c:dI)(k:List UInt8):ff×Mo:=match M.meet k with
 |(none,N)=>(.k 4,N)
 |(some p,N)=>match lq (N.it p).val with
  |none=>(.t lW,N)
  |some n=>N.fH p (iI c n)
theorem L4 (z:Ly)(M:Mo)(c:dI)(ka:Option Addr)(kc:Nat)(da:Option Addr)(dc:Nat)(mv:Value)(iG:mv.oneCell'=true)(vW:0<M.C.spare)(k:List UInt8)(r:List (List UInt8))(jP:c.keys=k::r)(hk:cO k=true)(hw:M.jz.length<1073741824)(BO:c.dl<18446744073709551616)
  (hh:M.hole=none) (iY:M.m.st<4611686018427387904) (vY:M.v.c.lim≤1048576) (qG:M.v.aM+1<18446744073709551616) (tY:M.tn<18446744073709551615):
  Uy acw 72 [.pointer (some ⟨z.s,0,none⟩), .agg (cy c ka kc da dc mv).toArray] (λh=>dU h ka (eR c.keys)) [SW z M]
   (λv H=>∃a N,M.counts c k=(a,N)∧v=sY a∧H= [SW z N]) (λv H=>∃a N,M.counts c k=(a,N)∧v=qn (sY a)∧H= [SW z N]):=by
 obtain⟨hk0,X4⟩:=fR hk;refine kS func72 rfl ntmps72 rfl ?_;intro F hr;refine ay ?_;refine Lp (oB λb1=> ?_);refine Lp (oA T.iu λb2=> ?_);refine ay ?_;refine Hh (H':= [SW z M,ag b1 47 (cy c ka kc da dc mv),ag b2 41 [.int .i64 0,aG, .int .u64 0,aB [],aG]]) ?_;refine aZ ?_;refine Lp (MM T.NF rfl rfl (xm z M c ka kc da dc mv iG k r jP (by omega) hw) (.cons .here .nil) (λ_ le _=>hr.mono le) (by rintro v H' ⟨N,hm,rfl,rfl⟩;exact pP [SW z N] ⟨.k 4,N,by unfold Mo.counts;rw[hm],rfl,rfl⟩) ?_);rintro v H' ⟨p,N,hm,rfl,rfl⟩;refine bd ?_;obtain⟨m1,m2,m3⟩:=mH hm;have hN:N.has p:=by rw[m3];exact m1
 have hC:M.C=N.C:=by rw[m3];rfl
 have hNv:N.v.c=M.v.c∧N.v.aM=M.v.aM∧N.tn=M.tn∧N.hole=M.hole∧N.m.st=M.m.st:=by rw[m3];exact⟨rfl,rfl,rfl,rfl,rfl⟩
 have oF:(N.it p).key=k:=by rw[m3];exact m2
 obtain⟨n1,n2,n3,n4,n5⟩:=hNv;have D1:M.counts c k=match lq (N.it p).val with|none=>(.t lW,N)|some n=>N.fH p (iI c n):=by unfold Mo.counts;rw[hm]
 rw[hC];refine oR λwa wc B O=> ?_;obtain⟨v1,v2,v3,v4⟩:=O.YX (p:=p) hN;change(N.it p).val.length≤_ at v1;change(N.it p).fl<_ at v2;change(N.it p).exp<_ at v3;change(N.it p).key.length≤_ at v4;refine cN ?_;refine Lp (oC T.G9 rfl rfl (yZ z N p hN) (.cons .here .nil) (λ_ _ _=>trivial) ?_);rintro v H' ⟨H0,⟨TH,Xi,st2,hs1',hs2',hs3',rfl,rfl⟩,rfl⟩;refine bd ?_;unfold D8;refine aZ ?_;refine Lp (oA T.bW λb3=> ?_);refine Lp (eJ T.dR ?_ (h1:=by simp[D8,Value.oneCell']));refine bc ?_;refine Lp (MM T.abM rfl rfl (L3 (some ⟨Xi,0,none⟩) (N.it p).val.length (N.it p).val.length (N.it p).val rfl (by omega)) .nil (λ_ le aw=>bD (aw.nth 2 rfl)) (by rintro v H' ⟨hn,rfl,rfl⟩;exact pP [SW z N] ⟨.t lW,N,by rw[D1,hn],rfl,rfl⟩) ?_);rintro v H' ⟨⟨n,hn,ad4,rfl⟩,rfl⟩;refine bd ?_;rw[hn]at D1;dsimp only at D1;have hmlt:iI c n<18446744073709551616:=by unfold iI;split<;>omega
 refine a8 ?_;refine au ?_;refine cg (ι:=Unit) [31,32,33,34,35,36,37,8,38,39,40,41,42,43,44,45] (λu=>True) (λu=> [(8, .int .u64 ((iI c n:Nat):Int))]) (λu=> [SW z N,ag b1 47 (cy c ka kc da dc mv),ag b2 41 [.int .i64 0,aG, .int .u64 0,aB [],aG],ag b3 170 [.slice (some ⟨TH,0,none⟩) (N.it p).key.length (N.it p).key.length, .slice (some ⟨Xi,0,none⟩) (N.it p).val.length (N.it p).val.length, .int .u64 ((N.it p).fl:Int), .int .i64 ((N.it p).exp:Int), .int .i64 ((N.it p).tch:Int), .int .u64 ((N.it p).tok:Int), .int .i64 (st2:Int), .int .i64 ((N.it p).dB:Int)],own (some ⟨TH,0,none⟩) (N.it p).key.length 5 1 (ai (N.it p).key)]) ?_ ?_
 ·by_cases uS:c.verb=12
  ·have Xr:iI c n=(n+c.dl) % 18446744073709551616:=by unfold iI;rw[if_pos uS]
   rw[Xr];refine bc ?_;refine dz ?_ (e:=by exact decide_eq_true uS);refine bB ?_;refine az ?_;refine ao (t:=8) (v':=(.int .u64 (((n+c.dl) % 18446744073709551616:Nat):Int))) rfl (by exact congrArg (Value.int .u64) (by first|exact yJ (n+c.dl)|exact(yJ (n+c.dl)).symm|(rw[←yJ];rfl))) ?_;refine Me (()) (trivial)
  have Xr:iI c n=n-c.dl:=by unfold iI;rw[if_neg uS]
  rw[Xr];refine bc ?_;refine cu ?_ (e:=by exact decide_eq_false uS);by_cases bX:n<c.dl
  ·refine gU ?_
   refine bc ?_;refine dz ?_;refine a8 ?_;refine az ?_;refine Me (()) (trivial) (hs:=⟨(congrArg (λq=>some (Value.int .u64 q)) (by omega)),trivial⟩)
  refine gU ?_;refine bc ?_;refine cu ?_;refine bB ?_;refine az ?_;refine Me (()) (trivial) (hs:=⟨(congrArg (λq=>some (Value.int .u64 q)) (by omega)),trivial⟩)
 rintro u hI;generalize iI c n=m at*;have ow:N.fH p m=if 58+(N.it p).key.length+(bL m).length≤N.C.sz (N.C.cl p)then(⟨7,[],m,[]⟩,((((N.kA p (bL m)).lS (N.v.aM+1)).tok p (N.v.aM+1)).marks p 0).eO p)else if N.v.c.lim<58+(N.it p).key.length+(bL m).length then(.t bM,N)else match N.room (58+(N.it p).key.length+(bL m).length) (some p)with|(none,R)=>(.t hU,R)|(some r,R)=>(⟨7,[],m,[]⟩,R.gf r (some p) ⟨(N.it p).key,bL m,(N.it p).fl,(N.it p).exp,R.k.now,R.v.aM+1,0⟩):=rfl
 have afk:(bL m).length≤20:=by have:=xz 20 m (by omega);omega
 have hL:=O.sM ((O.al p).2 hN);have hcn:N.C.cl p<N.iW:=by
  have:=(hL.toAt.bo O.k).1;rw[show B.C.cl p=N.C.cl p from O.cl p,O.c]at this;exact this
 refine a8 ?_;refine Lp (oC T.abL rfl rfl (QG m hmlt) .nil (λ_ _ _=>trivial) ?_);rintro v H' ⟨ta,tc,rfl,rfl⟩;refine bd ?_;generalize bL m=t at*;refine z6 ?_;refine zl T.wv (Vg z N p hN) (.cons (.there .here) .nil) (λ_ _ _=>trivial) ?_;refine fF ?_;refine zl T.abK (DC z N (N.C.cl p) hcn) (.cons .here .nil) (λ_ _ _=>trivial) ?_;by_cases aw:58+(N.it p).key.length+t.length≤N.C.sz (N.C.cl p)
 ·rw[if_pos aw]at ow
  refine aZ ?_;refine dz ?_
  clear O
  refine au ?_;refine Hh (H':= [SW z N,own ta tc 5 1 (ai t),ag b1 47 (cy c ka kc da dc mv),ag b2 41 [.int .i64 0,aG, .int .u64 0,aB [],aG],ag b3 170 [.slice (some ⟨TH,0,none⟩) (N.it p).key.length (N.it p).key.length, .slice (some ⟨Xi,0,none⟩) (N.it p).val.length (N.it p).val.length, .int .u64 ((N.it p).fl:Int), .int .i64 ((N.it p).exp:Int), .int .i64 ((N.it p).tch:Int), .int .u64 ((N.it p).tok:Int), .int .i64 (st2:Int), .int .i64 ((N.it p).dB:Int)],own (some ⟨TH,0,none⟩) (N.it p).key.length 5 1 (ai (N.it p).key)]) ?_;refine yP λwa wc=>afo λB O=> ?_;have hbt:=O.aek;have eK:=(O.al p).2 hN;have Mw:(N.it p).val.length≤N.v.gr:=by
   have h1:=O.bt;have h2:=u7 (λq=>((N.aK wa wc).it q).sz) eK;have h3:((N.aK wa wc).it p).sz=58+(N.it p).key.length+(N.it p).val.length:=rfl;change N.v.gr=_ at h1;rw[←h1,h3]at h2;omega
  change N.v.gr≤_ at hbt;have oh:kl B.C.A p=(N.it p).key.length:=by rw[←show aL B.C.A p=(N.it p).key from(O.je eK).2.2.2.2.1];exact(dC _ _ _).symm
  have yr:58+((N.aK wa wc).it p).key.length+t.length≤(N.aK wa wc).C.sz ((N.aK wa wc).C.cl p):=aw;have iv:=J8 z.y.b B.C O.k p (O.sM eK) (O.t.it p eK).k0 ta t.length tc t rfl (by rw[oh,show B.C.cl p=N.C.cl p from O.cl p,show B.C.sz (N.C.cl p)=N.C.sz (N.C.cl p) by rw[O.c];rfl];exact aw);rw[show B.C.hd p=N.C.hd p from O.hd p]at iv;unfold Ab adQ;dsimp only[Mo.aK];refine bd ?_;refine gK 13 T.mix (.cons .here (.cons (.there (.there (.there (.there (.there .here))))) .nil)) λF1 iT cj aI=> ?_;obtain⟨q1,q6,_⟩:=cj;refine bK ?_;refine ao (t:=106) (v':=(.int .i64 ((N.v.gr+t.length-(N.it p).val.length:Nat):Int))) rfl (by exact congrArg (Value.int .i64) (by omega)) ?_;refine a8 ?_;refine gd aI ?_;refine bw ?_;refine zl T.abJ (iv) (.cons (.there (.there .here)) .nil) (λ_ le aw=>bD (aw.nth 3 rfl)) ?_;refine ay ?_;refine au ?_;refine Hh (H':= [ag z.s 111 (Ab z.y (N.kA p t).v++ [.slice wa N.jz.length wc]),Cl z.y.b (B.C.wA (eM B.C.A p t)),YW z B (N.aK wa wc),own ta tc 5 1 (ai t),ag b1 47 (cy c ka kc da dc mv),ag b2 41 [.int .i64 0,aG, .int .u64 0,aB [],aG],ag b3 170 [.slice (some ⟨TH,0,none⟩) (N.it p).key.length (N.it p).key.length, .slice (some ⟨Xi,0,none⟩) (N.it p).val.length (N.it p).val.length, .int .u64 ((N.it p).fl:Int), .int .i64 ((N.it p).exp:Int), .int .i64 ((N.it p).tch:Int), .int .u64 ((N.it p).tok:Int), .int .i64 (st2:Int), .int .i64 ((N.it p).dB:Int)],own (some ⟨TH,0,none⟩) (N.it p).key.length 5 1 (ai (N.it p).key)]) ?_;refine afn (N:=(N.aK wa wc).kA p t) _ (O.kA hN t yr) rfl ?_;refine Yb (M:=N.kA p t) wa wc ?_;have Xo:(N.kA p t).has p:=hN;rw[show N.C=(N.kA p t).C from rfl];have MA:(N.kA p t).v.aM=N.v.aM:=rfl;generalize hN1:N.kA p t=N1 at*;refine bB ?_;refine ao (t:=121) (v':=(.int .u64 ((N.v.aM+1:Nat):Int))) rfl (by exact congrArg (Value.int .u64) (by rw[MA];rfl)) ?_;refine a8 ?_;refine Lp (oSc (i:=19) T.jC ?_);refine ay ?_;refine au ?_;have eK:(N1.lS (N.v.aM+1)).has p:=Xo;rw[show N1.C=(N1.lS (N.v.aM+1)).C from rfl];have uR:(N1.lS (N.v.aM+1)).v.aM=N.v.aM+1:=rfl;generalize hN2:N1.lS (N.v.aM+1)=N2 at*;refine gK 10 T.mix (.cons .here .nil) λF2 yi ez dX=> ?_;obtain⟨q7,_⟩:=ez;refine aR ?_
  first
   |refine Ti (Lf T.Ns) ?_
   |refine Ti (fB T.Ns q7) ?_
  refine aR ?_
  first
   |refine Ti (Lf T.jC) ?_
   |refine Ti (fB T.jC q7) ?_
  refine gd dX ?_;rw[uR];refine Tp (oC T.abI rfl rfl (QA z N2 p (N.v.aM+1) eK (by rw[n2];exact qG)) (.cons .here .nil) (λ_ _ _=>trivial) ?_);rintro v H' ⟨rfl,rfl⟩;refine bd ?_;refine aR ?_;refine zl T.abH (FN z (N2.tok p (N.v.aM+1)) p 0 (by decide) eK) (.cons .here .nil) (λ_ _ _=>trivial) ?_;refine aR ?_;refine zl T.Ft (wY z ((N2.tok p (N.v.aM+1)).marks p 0) p eK) (.cons .here .nil) (λ_ _ _=>trivial) ?_;refine bB ?_;refine Lp (eJ T.aS ?_ (h1:=by simp[bU,Value.cells,Value.oneCell',aB,aG]));refine a8 ?_;refine pR ?_;refine ko [SW z (((N2.tok p (N.v.aM+1)).marks p 0).eO p)] T.aS results72 ?_;exact⟨⟨7,[],m,[]⟩,_,by rw[D1,ow],rfl,rfl⟩
 rw[if_neg aw]at ow;refine aZ ?_;refine cu ?_;refine bw ?_;by_cases qd:N.v.c.lim<58+(N.it p).key.length+t.length
 ·rw[if_pos qd]at ow
  refine dz ?_;refine cC ?_;refine zl T.rL (gz bM) .nil (λ_ _ _=>trivial) ?_;refine Li (T6 T.gn) ?_;refine Lp (TD ?_);refine pP [SW z N] ?_;exact⟨.t bM,N,by rw[D1,ow],rfl,rfl⟩
 rw[if_neg qd]at ow;refine cu ?_;have hR:=u9 (M:=N) (n:=58+(N.it p).key.length+t.length) (own:=some p) (o:=(N.room (58+(N.it p).key.length+t.length) (some p)).1) (N:=(N.room (58+(N.it p).key.length+t.length) (some p)).2) ⟨O.mc0,O.TF.nd,O.TF.lv,O.TF.on⟩ rfl;have zW:=uw z N (n4.trans hh) (by rw[n5];exact iY) (by rw[m3];exact vW) (N.it p).key.length t.length ⟨by rw[oF];exact hk0,v4⟩ (by omega) (some p) (λq e=>by cases e;exact hN);refine cI ?_;refine zl T.PB (zW) (.cons .here .nil) (λ_ _ _=>trivial) ?_;rcases hrm:N.room (58+(N.it p).key.length+t.length) (some p)with⟨o,R⟩
 rw[hrm]at hR ow;dsimp only at hR ow⊢;obtain⟨hRp,hRh,_⟩:=hR.s.own p rfl hN;rw[show N.C.hd p=vP R.C (some p)from hRh.symm];rcases o with _|r0
 ·dsimp only at ow
  refine cI ?_;refine cC ?_;refine zl T.rL (gz hU) .nil (λ_ _ _=>trivial) ?_;refine Li (T6 T.gn) ?_;refine Lp (TD ?_);refine pP [SW z R] ?_;exact⟨.t hU,R,by rw[D1,ow],rfl,rfl⟩
 obtain⟨g1,g2,g3,g4⟩:=hR.ok r0 rfl;have hdn:=cB hR.k.k g3.toAt;obtain⟨_,_,_,_,hd1,GQ⟩:=hdn;refine bH ?_;refine cu ?_ (e:=by exact decide_eq_false (by show¬(((R.C.hd r0:Nat):Int)=0);omega));refine fF ?_;refine zl T.PA (CD z R r0 g1 (some p) (N.it p).key t _ _ rfl rfl (λq e=>by cases e;exact⟨hRp,by rw[hR.s.it]⟩) (λe=>by cases e) (some ⟨TH,0,none⟩) ta (N.it p).key.length tc (N.it p).fl (N.it p).exp 0 (by rw[oF];exact hk) g2 v2 v3 (by decide) (by rw[hR.s.aM,n2];exact qG) (by rw[hR.s.tn,n3];exact tY)) (.cons .here .nil) (λ_ le aw=>⟨bD (aw.nth 4 rfl),bD (aw.nth 0 rfl)⟩) ?_;refine bB ?_;refine Lp (eJ T.aS ?_ (h1:=by simp[bU,Value.cells,Value.oneCell',aB,aG]));refine a8 ?_;refine pR ?_;refine ko [SW z (R.gf r0 (some p) ⟨(N.it p).key,t,(N.it p).fl,(N.it p).exp,R.k.now,R.v.aM+1,0⟩)] T.aS results72 ?_;exact⟨⟨7,[],m,[]⟩,_,by rw[D1,ow],rfl,rfl⟩
end Go.Proofs.YtdolmecackmjdaaGreatDoor
namespace Go.Proofs.YtdolmecackmjdaaGreatDoor
open Go Go.dL Go.Proofs.YtdolmecackmjdaaGreatDoor.Cs
theorem bY.ck1{B:Bx}{M:Mo}(O:bY B M){k:Ck}(h:rJ k):bY B {M with k:=k}:=
 ⟨O.c,O.k,O.t,O.ty,O.o,O.x,O.mq,h,O.al,O.lv,O.ho,O.it,O.e,O.st,O.nb,O.mg,O.mo,O.bt,O.un,O.on,O.go,O.wn,O.cf,O.n,O.lg⟩
theorem cZ.again{n:Nat}{Q:List (List Nat)}{x:Cw}(_:cZ n Q x):cZ n Q x.again:=⟨(λe=>by cases e),λ_=>⟨rfl,rfl,rfl,rfl⟩,(λ_ e=>by cases e),acS _⟩
theorem FO (z:Ly)(M:Mo)(t:Int)(hi:M.v.aM<18446744073709551616)(ht:t<9223372036854775808):aH acw 75 [.pointer (some ⟨z.y.ck,0,none⟩), .int .i64 t, .int .u64 (M.v.aM:Int)] (λ_=>True) [SW z M]
  (λv H=>v= .tuple #[]∧H= [SW z {M with k:=M.k.flush t M.v.aM}]):=
 hZ (N:={M with k:=M.k.flush t M.v.aM}) (T:=λv=>v= .tuple #[]) λa c=>fg λB O=>by
  have h:=(x7 z.y.ck M.k O.ck.n2 t M.v.aM hi ht).fr (H:=fQ z B (M.aK a c)++ []) (R:= [Cl z.y.b B.C,ag z.y.t 145 (fA z.y.b B.W B.ty),ag B.ty.nk 163 (aJ (aA B.W.nb)),jV B.ty.ok 163 (aJ (aA B.W.ob)),ag z.y.q 139 (fP z.y.b z.qb B.C.af.length),ag z.qb 327 (M.Q.flatMap (eH B.C)),gZ z.y.cr z.y.q z.y.wh B.C.af.length (bJ z.s) (bI z.s) B.C M.x,Wl z.y.wh B.E M.tn,gY z.s z.y (gJ (M.aK a c).v),
   jN z.y.lu z.y.b z.y.q z.hot z.warm,oa z.y.mo z.y.b z.ub (bJ z.s) (bI z.s) (cK z.s) M.m,oz z.ub M.m,lQ (M.aK a c)]) (.cons (.there (.there (.there (.there (.there (.there (.there (.there (.there .here))))))))) .nil) (λ_ _=>trivial)
  refine h.out ?_;rintro v H' ⟨H0,⟨rfl,rfl⟩,rfl⟩;refine⟨[SH z (({M with k:=M.k.flush t M.v.aM}:Mo).aK a c)],⟨rfl,rfl⟩,λk s=>aQ (O.ck1 (O.ck.flush t hi)) (H:= []) k ?_⟩
  revert s
  revert k
  simp only[uP,cap,agu];unfold fQ;exact Eh
theorem FR (z:Ly)(M:Mo):aH acw 76 [.pointer (some ⟨z.y.cr,0,none⟩)] (λ_=>True) [SW z M]
  (λv H=>v= .tuple #[]∧H= [SW z {M with x:=M.x.again}]):=
 hZ (N:={M with x:=M.x.again}) (T:=λv=>v= .tuple #[]) λa c=>fg λB O=>by
  have h:=(zQ z.y.cr z.y.q z.y.wh B.C.af.length (bJ z.s) (bI z.s) B.C M.x).fr (H:=fQ z B (M.aK a c)++ []) (R:= [Cl z.y.b B.C,ag z.y.t 145 (fA z.y.b B.W B.ty),ag B.ty.nk 163 (aJ (aA B.W.nb)),jV B.ty.ok 163 (aJ (aA B.W.ob)),ag z.y.q 139 (fP z.y.b z.qb B.C.af.length),ag z.qb 327 (M.Q.flatMap (eH B.C)),Wl z.y.wh B.E M.tn,gY z.s z.y (gJ (M.aK a c).v),
   lD z.y.ck M.k,jN z.y.lu z.y.b z.y.q z.hot z.warm,oa z.y.mo z.y.b z.ub (bJ z.s) (bI z.s) (cK z.s) M.m,oz z.ub M.m,lQ (M.aK a c)]) (.cons (.there (.there (.there (.there (.there (.there .here)))))) .nil) (λ_ _=>trivial)
  refine h.out ?_;rintro v H' ⟨H0,⟨rfl,rfl⟩,rfl⟩;refine⟨[SH z (({M with x:=M.x.again}:Mo).aK a c)],⟨rfl,rfl⟩,λk s=>aQ (O.cw O.x.again) (H:= []) k ?_⟩
  revert s
  revert k
  simp only[uP,cap,agu];unfold fQ;exact Eh
theorem CA (b:Nat)(cs:List Value):Jf acw 70 [.pointer (some ⟨b,0,none⟩)] .returning .returning (λ_=>True) [ag b 41 cs] (λv H=>v= .tuple #[]∧H= [ag b 41 cs]):=by
 refine OD T.Yl func70 rfl ntmps70 rfl rfl rfl rfl rfl rfl rfl rfl rfl (.inl ⟨rfl,rfl,rfl⟩) ?_;intro F _;refine a8 ?_;refine Li (Iqn T.XY) ?_;refine aZ ?_;refine jM [ag b 41 cs] results70 ?_;exact⟨rfl,rfl⟩
theorem Qr (b:Nat)(c0 c1 c2 c3 c4:Value)(a:ff):Jf acw 70 [.pointer (some ⟨b,0,none⟩)] (.panicking [pe (qn (sY a))]) (.panicking [{v:=qn (sY a),recovered:=true}]) (λ_=>True) [ag b 41 [c0,c1,c2,c3,c4]] (λv H=>v= .tuple #[]∧H= [ag b 41 (dG a.kind aG a.num a.sQ)]):=by
 refine OD T.Yl func70 rfl ntmps70 rfl rfl rfl rfl rfl rfl rfl rfl rfl (.inr ⟨rfl,rfl⟩) ?_;intro F _;unfold qn sY lV dG aG;refine a8 ?_;refine Li (Iq T.XY) ?_;refine aR ?_;refine Li (TaT T.gn) ?_;refine aZ ?_;refine Lp (oA T.EN λb1=> ?_);refine Lp (eJ T.FD ?_ (h1:=by simp[bU,Value.cells,Value.oneCell',aB,aG]));refine gR ?_;refine Lp (oSN T.aS ?_ (h1:=by simp[bU,Value.cells,Value.oneCell',aB,aG]));refine az ?_;refine jM [ag b 41 [.int .i64 (a.kind:Int), .slice none 0 0, .int .u64 (a.num:Int),aB a.sQ, .slice none 0 0]] results70 ?_;exact⟨rfl,rfl⟩
def nB:List UInt8:= [103,114,97,110,97,114,121,32,49]
def Mo.delete (M:Mo)(k:List UInt8):ff×Mo:=match M.meet k with
 |(none,N)=>(.k 4,N)
 |(some p,N)=>(.k 5,N.cD p)
def Mo.eQ (M:Mo)(c:dI):ff×Mo:=
 if 1≤c.verb∧c.verb≤4 then M.jX c.verb c.keys c.ex
 else if c.verb=12∨c.verb=13 then M.counts c (c.keys.headD [])
 else if c.verb=14 then M.cz (c.keys.headD []) c.ex
 else if c.verb=11 then M.delete (c.keys.headD [])
 else if c.verb=15 then(.k 8,{M with k:=M.k.flush c.ex M.v.aM,x:=M.x.again})
 else if c.verb=16 then(⟨10,[],0,nB⟩,M)
 else if c.verb=17 then(.k 8,M)
 else if c.verb=18 then(.k 12,M)
 else M.cU c (c.keys.headD [])
def Jc (z:Ly)(r:ff×Mo)(v:Value)(H:List aa):Prop:=∃ea ec l,l.map Prod.fst=r.1.dM∧v=lV r.1.kind (.slice ea l.length ec) r.1.num r.1.sQ∧H= [own ea ec 49 9 (fY l),gV l,SW z r.2]
theorem uF{M N:Mo}{c:dI}{k:List UInt8}{a:ff}(h:M.counts c k=(a,N)):a.dM= []:=by
 have:(M.counts c k).1.dM= []:=by
  unfold Mo.counts Mo.fH
  (repeat' split)<;>rfl
 rw[h]at this;exact this
theorem uy{M N:Mo}{c:dI}{k:List UInt8}{a:ff}(h:M.cU c k=(a,N)):a.dM= []:=by
 have:(M.cU c k).1.dM= []:=by
  unfold Mo.cU Mo.jh Mo.lays
  (repeat' split)<;>rfl
 rw[h]at this;exact this
theorem sA{M N:Mo}{k:List UInt8}{e:Int}{a:ff}(h:M.cz k e=(a,N)):a.dM= []:=by
 have:(M.cz k e).1.dM= []:=by
  unfold Mo.cz
  (repeat' split)<;>rfl
 rw[h]at this;exact this
section
variable {n t b:Nat} {F:ee} {σ:ba} {fn:Func} {z:Ly} {r:ff×Mo} {R:List aa}
theorem jF (hr:fn.results= #[.cell t 41])(he:r.1.dM= [])(ht:dL.look σ t=some (.pointer (some ⟨b,0,none⟩)):=by exact rfl):
  G n [ME 70 [] [.pointer (some ⟨b,0,none⟩)]] F (bodyPostD acw fn (λe w'=>∃v H',e= .returned v∧Jc z r v H'∧St F H' w') .ret) σ (ag b 41 (dG r.1.kind aG r.1.num r.1.sQ)::SW z r.2::R):=by
 refine aT 49 9 ?_;refine su ?_;refine RrC (e:=41) [own none 0 49 9 (fY []),gV [],SW z r.2] T.aS hr (CA b (dG r.1.kind aG r.1.num r.1.sQ)) (.cons (.there (.there .here)) .nil) (λ_ _ _=>trivial) ?_ ht;rintro v Hx ⟨rfl,rfl⟩;exact⟨_,_,_, .here,rfl,rfl,⟨none,0,[],he.symm,rfl,rfl⟩,λh s=>dK (by
  obtain⟨_,h2,_,_,l2,_,s⟩:=s;exact eF (aO (λk s=>aO (R:=SW z r.2::R) (λk s=>aO (R':= []) (λ_ _=>trivial) s) s) s) l2)⟩
theorem rY{c0 c1 c2 c3 c4:Value}(hr:fn.results= #[.cell t 41])(he:r.1.dM= [])(ht:dL.look σ t=some (.pointer (some ⟨b,0,none⟩)):=by exact rfl):
  G n [ME 70 [] [.pointer (some ⟨b,0,none⟩)]] F (bodyPostD acw fn (λe w'=>∃v H',e= .returned v∧Jc z r v H'∧St F H' w') (.panic [pe (qn (sY r.1))])) σ (ag b 41 [c0,c1,c2,c3,c4]::SW z r.2::R):=by
 refine aT 49 9 ?_;refine su ?_;refine RpC (e:=41) [own none 0 49 9 (fY []),gV [],SW z r.2] T.aS hr (Qr b c0 c1 c2 c3 c4 r.1) (.cons (.there (.there .here)) .nil) (λ_ _ _=>trivial) ?_ ht;rintro v Hx ⟨rfl,rfl⟩;exact⟨_,_,_, .here,rfl,rfl,⟨none,0,[],he.symm,rfl,rfl⟩,λh s=>dK (by
  obtain⟨_,h2,_,_,l2,_,s⟩:=s;exact eF (aO (λk s=>aO (R:=SW z r.2::R) (λk s=>aO (R':= []) (λ_ _=>trivial) s) s) s) l2)⟩
end
theorem ZA (z:Ly)(M:Mo)(c:dI)(ka:Option Addr)(kc:Nat)(da:Option Addr)(dc:Nat)(mv:Value)(iG:mv.oneCell'=true)(vW:0<M.C.spare)(hb:oH c=false)(Mz:c.keys.length<1073741824)(oh:∀k∈c.keys,k.length<281474976710656)(hw:M.jz= [])(hex:c.ex<9223372036854775808)(hda:c.data.length<281474976710656)(BO:c.dl<18446744073709551616)
  (hh:M.hole=none) (iY:M.m.st<4611686018427387904) (vY:M.v.c.lim≤1048576) (qG:M.v.aM+1<18446744073709551616) (tY:M.tn+c.keys.length<18446744073709551615):
  aH acw 35 [.pointer (some ⟨z.s,0,none⟩), .agg (cy c ka kc da dc mv).toArray] (λh=>dU h ka (eR c.keys)∧dU h da (ai c.data)) [SW z M] (Jc z (M.eQ c)):=by
 have fX:M.eQ c=if 1≤c.verb∧c.verb≤4 then M.jX c.verb c.keys c.ex else if c.verb=12∨c.verb=13 then M.counts c (c.keys.headD [])else if c.verb=14 then M.cz (c.keys.headD []) c.ex else if c.verb=11 then M.delete (c.keys.headD [])else if c.verb=15 then(.k 8,{M with k:=M.k.flush c.ex M.v.aM,x:=M.x.again})else if c.verb=16 then(⟨10,[],0,nB⟩,M)else if c.verb=17 then(.k 8,M)else if c.verb=18 then(.k 12,M)else M.cU c (c.keys.headD []):=rfl
 have Xx:oH c=(decide (aY c.verb<0∨0<aY c.verb∧c.keys.length=0∨aY c.verb=1∧1<c.keys.length) ||(decide (0<aY c.verb)&&c.keys.any λk=> !cO k) ||decide (5≤c.verb∧c.verb≤10∧4294967295<c.fl)):=rfl;rw[hb]at Xx;have Nf:=Xx.symm;simp only[Bool.or_eq_false_iff,decide_eq_false_iff_not]at Nf;obtain⟨⟨cm,bS⟩,bP⟩:=Nf;have Xm:1≤c.verb∧c.verb≤18:=by
  refine acH λg=>cm (.inl ?_);unfold aY;rw[if_neg (by omega),if_neg (by omega),if_neg (by omega)];decide
 have uh:5≤c.verb→c.verb≤14→∃k,c.keys= [k]∧cO k=true:=λh1 h2=>by
  have hvi:aY c.verb=1:=by unfold aY;rw[if_neg (by omega),if_pos (by omega)]
  rw[hvi]at cm bS;rcases hk:c.keys with _|⟨k,_|⟨k2,r⟩⟩
  ·exact absurd (.inr (.inl ⟨by decide,by rw[hk];rfl⟩)) cm
  ·refine⟨k,rfl, ?_⟩
   rw[hk]at bS
   simpa using bS
  exact absurd (.inr (.inr ⟨rfl,by rw[hk];simp⟩)) cm
 refine RJ func35 rfl ntmps35 rfl ?_;rintro F ⟨hr,hd⟩;refine ay ?_;refine Lp (oB λb1=> ?_);refine Lp (oA T.iu λb2=> ?_);refine a8 ?_;refine Li Mf ?_;refine Lp (oDv ?_);refine ay ?_;refine au ?_;refine Hh (H':= [SW z M,ag b1 47 (cy c ka kc da dc mv),ag b2 41 [.int .i64 0,aG, .int .u64 0,aB [],aG]]) ?_;refine bc ?_;refine au ?_;refine cg (ι:=Bool) [10,9,11,12,13] (λb=>b=decide (1≤c.verb∧c.verb≤4)) (λb=> [(9, .bool b)]) (λb=> [SW z M,ag b1 47 (cy c ka kc da dc mv),ag b2 41 [.int .i64 0,aG, .int .u64 0,aB [],aG]]) ?_ ?_
 ·refine gU ?_
  refine aZ ?_;refine av rfl ?_ ?_
  ·intro cn
   replace cn:=aD cn;refine ay ?_;refine Me (decide (1≤c.verb∧c.verb≤4)) (rfl) (hs:=⟨(by refine congrArg (λq=>some (Value.bool q)) ?_;first|exact(decide_eq_true (by omega)).symm|exact decide_eq_decide.2 (by omega)|exact(decide_eq_false (by omega)).symm),trivial⟩)
  intro cn;replace cn:=aD cn;refine aR ?_;refine av rfl ?_ ?_
  ·intro cm
   replace cm:=aD cm;refine ay ?_;refine Me (decide (1≤c.verb∧c.verb≤4)) (rfl) (hs:=⟨(by refine congrArg (λq=>some (Value.bool q)) ?_;first|exact(decide_eq_true (by omega)).symm|exact decide_eq_decide.2 (by omega)|exact(decide_eq_false (by omega)).symm),trivial⟩)
  intro cm;replace cm:=aD cm;refine aR ?_;refine av rfl ?_ ?_
  ·intro bS
   replace bS:=aD bS;refine ay ?_;refine Me (decide (1≤c.verb∧c.verb≤4)) (rfl) (hs:=⟨(by refine congrArg (λq=>some (Value.bool q)) ?_;first|exact(decide_eq_true (by omega)).symm|exact decide_eq_decide.2 (by omega)|exact(decide_eq_false (by omega)).symm),trivial⟩)
  intro bS;replace bS:=aD bS;refine aZ ?_;refine az ?_;refine Me (decide (1≤c.verb∧c.verb≤4)) (rfl) (hs:=⟨(by refine congrArg (λq=>some (Value.bool q)) ?_;first|exact(decide_eq_true (by omega)).symm|exact decide_eq_decide.2 (by omega)|exact(decide_eq_false (by omega)).symm),trivial⟩)
 rintro b hI;subst hI;by_cases h4:1≤c.verb∧c.verb≤4
 ·rw[if_pos h4]at fX
  rw[fX];refine dz ?_ (e:=by exact decide_eq_true h4);refine aZ ?_;refine Lp (oC T.afA rfl rfl (WI z M c ka kc da dc mv iG oh Mz hw hex tY) (.cons .here .nil) (λ_ le _=>hr.mono le) ?_);rintro v H' ⟨a,N,ea,ec,l,hg,hl,rfl,rfl⟩;refine bd ?_;refine Lp (eJ T.aS ?_ (h1:=by simp[dG,Value.oneCell',aB]));refine aR ?_;refine RrC (e:=41) [own ea ec 49 9 (fY l),gV l,SW z N] T.aS results35 (CA b2 _) (.cons (.there (.there (.there (.there .here)))) .nil) (λ_ _ _=>trivial) ?_;rintro v Hx ⟨rfl,rfl⟩;exact⟨_,_,_, .here,rfl,rfl,⟨ea,ec,l,by rw[hg];exact hl,by rw[hg];rfl,by rw[hg]⟩,Eh⟩
 rw[if_neg h4]at fX;refine cu ?_ (e:=by exact decide_eq_false h4);refine au ?_;refine cg (ι:=Bool) [18,17,19] (λb=>b=decide (c.verb=12∨c.verb=13)) (λb=> [(17, .bool b)]) (λb=> [SW z M,ag b1 47 (cy c ka kc da dc mv),ag b2 41 [.int .i64 0,aG, .int .u64 0,aB [],aG]]) ?_ ?_
 ·refine gU ?_
  refine aZ ?_;refine av rfl ?_ ?_
  ·intro cn
   replace cn:=aD cn;refine ay ?_;refine Me (decide (c.verb=12∨c.verb=13)) (rfl) (hs:=⟨(by refine congrArg (λq=>some (Value.bool q)) ?_;first|exact(decide_eq_true (by omega)).symm|exact decide_eq_decide.2 (by omega)|exact(decide_eq_false (by omega)).symm),trivial⟩)
  intro cn;replace cn:=aD cn;refine aZ ?_;refine az ?_;refine Me (decide (c.verb=12∨c.verb=13)) (rfl) (hs:=⟨(by refine congrArg (λq=>some (Value.bool q)) ?_;first|exact(decide_eq_true (by omega)).symm|exact decide_eq_decide.2 (by omega)|exact(decide_eq_false (by omega)).symm),trivial⟩)
 rintro b hI;subst hI;by_cases uS:c.verb=12∨c.verb=13
 ·rw[if_pos uS]at fX
  obtain⟨k,jP,yq⟩:=uh (by omega) (by omega);rw[jP]at fX;change M.eQ c=M.counts c k at fX;rw[fX];refine dz ?_ (e:=by exact decide_eq_true uS);refine aZ ?_;refine Lp (MM T.afz rfl rfl (L4 z M c ka kc da dc mv iG vW k [] jP yq (by rw[hw];decide) BO hh iY vY qG (by rw[jP]at tY;exact adC (ahs _ _) tY)) (.cons .here .nil) (λ_ le _=>hr.mono le) (by rintro v H' ⟨a,N,hm,rfl,rfl⟩;refine Hh (H':= [ag b2 41 [.int .i64 0,aG, .int .u64 0,aB [],aG],SW z N]) ?_;rw[hm];exact rY (z:=z) (r:=(a,N)) (R:= []) (c0:= .int .i64 0) (c1:=aG) (c2:= .int .u64 0) (c3:=aB []) (c4:=aG) results35 (uF hm)) ?_);rintro v H' ⟨a,N,hm,rfl,rfl⟩;refine bd ?_;refine Lp (eJ T.aS ?_ (h1:=by simp[dG,Value.oneCell',aB,aG]));refine aR ?_;refine Hh (H':= [ag b2 41 (dG a.kind aG a.num a.sQ),SW z N]) ?_;rw[hm];exact jF (z:=z) (r:=(a,N)) (R:= []) results35 (uF hm)
 rw[if_neg uS]at fX;refine cu ?_ (e:=by exact decide_eq_false uS);refine aR ?_;by_cases v14:c.verb=14
 ·rw[if_pos v14]at fX
  obtain⟨k,jP,yq⟩:=uh (by omega) (by omega);rw[jP]at fX;change M.eQ c=M.cz k c.ex at fX;rw[fX];refine dz ?_ (e:=by exact decide_eq_true v14);refine aZ ?_;refine Lp (MM T.afy rfl rfl (FK z M c ka kc da dc mv iG k [] jP (by have:=(fR yq).2;omega) (by rw[hw];decide) hex (by rw[jP]at tY;exact adC (ahs _ _) tY)) (.cons .here .nil) (λ_ le _=>hr.mono le) (by rintro v H' ⟨a,N,hm,rfl,rfl⟩;refine Hh (H':= [ag b2 41 [.int .i64 0,aG, .int .u64 0,aB [],aG],SW z N]) ?_;rw[hm];exact rY (z:=z) (r:=(a,N)) (R:= []) (c0:= .int .i64 0) (c1:=aG) (c2:= .int .u64 0) (c3:=aB []) (c4:=aG) results35 (sA hm)) ?_);rintro v H' ⟨a,N,hm,rfl,rfl⟩;refine bd ?_;refine Lp (eJ T.aS ?_ (h1:=by simp[dG,Value.oneCell',aB,aG]));refine aR ?_;refine Hh (H':= [ag b2 41 (dG a.kind aG a.num a.sQ),SW z N]) ?_;rw[hm];exact jF (z:=z) (r:=(a,N)) (R:= []) results35 (sA hm)
 rw[if_neg v14]at fX;refine cu ?_ (e:=by exact decide_eq_false v14);refine aR ?_;by_cases v11:c.verb=11
 ·rw[if_pos v11]at fX
  obtain⟨k,jP,yq⟩:=uh (by omega) (by omega);rw[jP]at fX;change M.eQ c=M.delete k at fX;rw[fX];refine dz ?_ (e:=by exact decide_eq_true v11);refine aZ ?_;refine Lp (MM T.NF rfl rfl (xm z M c ka kc da dc mv iG k [] jP (by have:=(fR yq).2;omega) (by rw[hw];decide)) (.cons .here .nil) (λ_ le _=>hr.mono le) (by rintro v H' ⟨N,hm,rfl,rfl⟩;refine Hh (H':= [ag b2 41 [.int .i64 0,aG, .int .u64 0,aB [],aG],SW z N]) ?_;have GO:M.delete k=(.k 4,N):=(by unfold Mo.delete;rw[hm]);rw[GO];exact rY (z:=z) (r:=(.k 4,N)) (R:= []) (c0:= .int .i64 0) (c1:=aG) (c2:= .int .u64 0) (c3:=aB []) (c4:=aG) results35 rfl) ?_);rintro v H' ⟨p,N,hm,rfl,rfl⟩;refine bd ?_;obtain⟨m1,m2,m3⟩:=mH hm;have hN:N.has p:=by rw[m3];exact m1
  have hC:M.C=N.C:=by rw[m3];rfl
  have GO:M.delete k=(.k 5,N.cD p):=by unfold Mo.delete;rw[hm]
  rw[GO,hC];refine bc ?_;refine zl T.Ha (tz z N p hN) (.cons .here .nil) (λ_ _ _=>trivial) ?_;refine aZ ?_;refine Lp (eJ T.aS ?_ (h1:=by simp[bU,Value.cells,Value.oneCell',aB,aG]));refine aR ?_;refine Hh (H':= [ag b2 41 (dG 5 aG 0 []),SW z (N.cD p)]) ?_;exact jF (z:=z) (r:=(⟨5,[],0,[]⟩,(N.cD p))) (R:= []) results35 rfl rfl
 rw[if_neg v11]at fX;refine cu ?_ (e:=by exact decide_eq_false v11);refine aR ?_;by_cases v15:c.verb=15
 ·rw[if_pos v15]at fX
  rw[fX];refine dz ?_ (e:=by exact decide_eq_true v15);refine au ?_;refine gK 11 T.mix (.cons .here (.cons .here .nil)) λF1 iT cj aI=> ?_;obtain⟨q1,q2,_⟩:=cj;refine aR ?_
  first
   |refine Ti (Lf T.ns) ?_
   |refine Ti (fB T.ns q1) ?_
  refine ay ?_
  first
   |refine Ti (Lf T.bR) ?_
   |refine Ti (fB T.bR q1) ?_
  refine aZ ?_
  first
   |refine Ti (Lf T.jC) ?_
   |refine Ti (fB T.jC q1) ?_
  refine gd aI ?_;refine Tp (oC T.Yk rfl rfl (FO z M c.ex (by omega) hex) (.cons .here .nil) (λ_ _ _=>trivial) ?_);rintro v H' ⟨rfl,rfl⟩;refine bd ?_;refine bH ?_;refine zl T.Yj (FR z {M with k:=M.k.flush c.ex M.v.aM}) (.cons .here .nil) (λ_ _ _=>trivial) ?_;refine aZ ?_;refine Lp (eJ T.aS ?_ (h1:=by simp[bU,Value.cells,Value.oneCell',aB,aG]));refine aR ?_;refine Hh (H':= [ag b2 41 (dG 8 aG 0 []),SW z {M with k:=M.k.flush c.ex M.v.aM,x:=M.x.again}]) ?_;exact jF (z:=z) (r:=(⟨8,[],0,[]⟩,{M with k:=M.k.flush c.ex M.v.aM,x:=M.x.again})) (R:= []) results35 rfl rfl
 rw[if_neg v15]at fX;refine cu ?_ (e:=by exact decide_eq_false v15);refine aR ?_;by_cases v16:c.verb=16
 ·rw[if_pos v16]at fX
  rw[fX];refine dz ?_ (e:=by exact decide_eq_true v16);refine a8 ?_;refine Lp (eJ T.aS ?_ (h1:=by simp[bU,Value.cells,Value.oneCell',aB,aG]));refine aR ?_;refine Hh (H':= [ag b2 41 (dG 10 aG 0 nB),SW z M]) ?_;exact jF (z:=z) (r:=(⟨10,[],0,nB⟩,M)) (R:= []) results35 rfl rfl
 rw[if_neg v16]at fX;refine cu ?_ (e:=by exact decide_eq_false v16);refine aR ?_;by_cases v17:c.verb=17
 ·rw[if_pos v17]at fX
  rw[fX];refine dz ?_ (e:=by exact decide_eq_true v17);refine a8 ?_;refine Lp (eJ T.aS ?_ (h1:=by simp[bU,Value.cells,Value.oneCell',aB,aG]));refine aR ?_;refine Hh (H':= [ag b2 41 (dG 8 aG 0 []),SW z M]) ?_;exact jF (z:=z) (r:=(⟨8,[],0,[]⟩,M)) (R:= []) results35 rfl rfl
 rw[if_neg v17]at fX;refine cu ?_ (e:=by exact decide_eq_false v17);refine aR ?_;by_cases v18:c.verb=18
 ·rw[if_pos v18]at fX
  rw[fX];refine dz ?_ (e:=by exact decide_eq_true v18);refine a8 ?_;refine Lp (eJ T.aS ?_ (h1:=by simp[bU,Value.cells,Value.oneCell',aB,aG]));refine aR ?_;refine Hh (H':= [ag b2 41 (dG 12 aG 0 []),SW z M]) ?_;exact jF (z:=z) (r:=(⟨12,[],0,[]⟩,M)) (R:= []) results35 rfl rfl
 rw[if_neg v18]at fX;refine cu ?_ (e:=by exact decide_eq_false v18);refine bB ?_;obtain⟨k,jP,yq⟩:=uh (by omega) (by omega);rw[jP]at fX;change M.eQ c=M.cU c k at fX;rw[fX];refine Lp (MM T.afx rfl rfl (Jz z M c ka kc da dc mv iG vW k [] jP yq (by rw[hw];decide) hex (by have:¬_:=bP;omega) hda hh iY vY qG (by rw[jP]at tY;exact adC (ahs _ _) tY)) (.cons .here .nil) (λ_ le _=>⟨hr.mono le,hd.mono le⟩) (by rintro v H' ⟨a,N,hm,rfl,rfl⟩;refine Hh (H':= [ag b2 41 [.int .i64 0,aG, .int .u64 0,aB [],aG],SW z N]) ?_;rw[hm];exact rY (z:=z) (r:=(a,N)) (R:= []) (c0:= .int .i64 0) (c1:=aG) (c2:= .int .u64 0) (c3:=aB []) (c4:=aG) results35 (uy hm)) ?_);rintro v H' ⟨a,N,hm,rfl,rfl⟩;refine bd ?_;refine Lp (eJ T.aS ?_ (h1:=by simp[dG,Value.oneCell',aB,aG]));refine a8 ?_;refine Hh (H':= [ag b2 41 (dG a.kind aG a.num a.sQ),SW z N]) ?_;rw[hm];exact jF (z:=z) (r:=(a,N)) (R:= []) results35 (uy hm)
end Go.Proofs.YtdolmecackmjdaaGreatDoor
namespace Go.dL
open Go
class YE (A:aa)(b i:Nat)(vs:List Value)(A':outParam aa):Prop where
 cut:∀h,A h→∃e cs R,i+vs.length≤cs.length∧ak (ag b e cs::R) h∧∀k,ak (ag b e (bU cs i vs)::R) k→A' k
section
variable {P:Program} {n:Nat} {ds:List Deferred} {F:ee} {Q:Exit→Act→World→Prop} {K:Act→World→Prop} {σ:ba} {H:List aa} {o:Oper} {d:Nat}
theorem adU{t k:TypeId}{x y:Operand}{A A':aa}{R:List aa}{b:Nat}{vs:List Value}(i:Nat)(hs:db P t=some k)(h:G n ds F K σ (A'::R))(ho:o.op= .store t x y:=by exact rfl)(hd:o.dst=none:=by exact rfl)
  (hx:bx σ x=some (.pointer (some ⟨b,i,none⟩)):=by exact rfl) (hy:bx σ y=some (.agg vs.toArray):=by exact rfl) (hk:vs.length=k:=by exact rfl) (c:YE A b i vs A':=by infer_instance) (h1:∀v∈vs,v.oneCell'=true:=by simp[bU,Value.cells,Value.oneCell',aB]):G n ds F (λa w=>o.wp P a w K Q) σ (A::R):=
 .mk λa w en s=>by
  obtain⟨a1,a2,a3,fr,hh,st,l,dj⟩:=s;obtain⟨k1,k2,d12,l1,l2,ha,sr⟩:=st;obtain⟨e,cs,R0,hi,s1,back⟩:=c.cut k1 ha;have s2:ak (ag b e cs::(R0++R)) hh:=pK (A:=A) (B:=A) d12 l1 l2 s1 sr;refine(tH hs ho hd hx hy hk h1 .here hi (aC (λk sk=> ?_) h)) a w en ⟨a1,a2,a3,fr,hh,s2,l,dj⟩;obtain⟨m1,m2,d',n1,n2,t1,t2⟩:=bQ (A:=ag b e (bU cs i vs)::R0) sk;exact⟨m1,m2,d',n1,n2,back m1 t1,t2⟩
theorem Fga{s f k sz:Nat}{e:TypeId}{x:Operand}{cs vs:List Value}(hk:Za P s f=some (k,e))(he:db P e=some sz)(ho:o.op= .field s x f:=by exact rfl)(hx:bx σ x=some (.agg cs.toArray):=by exact rfl)(hv:(cs.drop k).take sz=vs:=by exact rfl):Yv P n ds F σ o (.agg vs.toArray):=λa w en fr=>by
 obtain⟨h1,h2⟩:=eV (w:=w) he;unfold Za at hk;cases hu:P.underlying s with
 |none=>simp[hu]at hk
 |some d=>
  cases d<;>simp[hu]at hk
  rename_i fs
  obtain⟨y,hf,e1,e2⟩:=hk;subst e1;subst e2;have e:cs.toArray.extract y.offset (y.offset+sz)=vs.toArray:=by
   rw[←hv];simp[List.take_drop]
  simp[execOp,ho,Instr.field,en.eval hx,run_underlying hu,hf,asAgg,part,h1,h2,e];exact hv
end
end Go.dL
namespace Go.Proofs.YtdolmecackmjdaaGreatDoor
open Go Go.dL Go.Proofs.YtdolmecackmjdaaGreatDoor.Cs
theorem SE:Za acw 113 0=some (0,41):=by kernel_rfl
instance sw_mt0{z:Ly}{M:Mo}:YE (SW z M) z.s 21 [.int .i64 0, .int .i64 0, .int .i64 0, .int .i64 0, .int .i64 0, .int .i64 0, .int .i64 0] (SW z (M.bj .zero)):=⟨λh s=>by
 obtain⟨w,s⟩:=s;obtain⟨B,O,t⟩:=r7 s;refine⟨_,_,T7 z B (M.aK w.1 w.2),(by simp[k8,gJ]),t,λk sk=>⟨w,B,O.bj .zero, ?_⟩⟩;rw[show bU (k8 z.y (gJ (M.aK w.1 w.2).v)) 21 [.int .i64 0, .int .i64 0, .int .i64 0, .int .i64 0, .int .i64 0, .int .i64 0, .int .i64 0]=k8 z.y (gJ ((M.aK w.1 w.2).bj .zero).v)from rfl]at sk;exact(vJ z B ((M.aK w.1 w.2).bj .zero)).back _ sk⟩
def Mo.ue (M:Mo):Mo:={M with jz:= []}
theorem bY.ue{B:Bx}{M:Mo}(O:bY B M):bY B (M.ue.aK none 0):=
 ⟨O.c,O.k,O.t,O.ty,O.o,O.x,O.mq,O.ck,O.al,O.lv,O.ho,O.it,O.e,O.st,O.nb,O.mg,O.mo,O.bt,O.un,O.on,O.go,rfl,O.cf,O.n,O.lg⟩
instance sw_why{z:Ly}{M:Mo}:qK (SW z M) z.s 28 (.slice none 0 0) (SW z M.ue):=⟨λh s=>by
 obtain⟨w,s⟩:=s;obtain⟨B,O,t⟩:=r7 s;refine⟨_,_,T7 z B (M.aK w.1 w.2),(by simp[k8,gJ]),t,λk sk=>⟨(none,0),B,O.ue, ?_⟩⟩;rw[show(k8 z.y (gJ (M.aK w.1 w.2).v)).set 28 (.slice none 0 0)=k8 z.y (gJ (M.ue.aK none 0).v)from rfl]at sk;refine(vJ z B (M.ue.aK none 0)).back _ ?_;have s2:=qt 3 1 sk
 clear sk
 revert s2
 revert k
 unfold T7;simp only[lQ];rw[show aV (M.ue.aK none 0).jz= []from rfl];exact Eh⟩
def Mo.reset (M:Mo):Mo:=(M.bj .zero).ue
theorem qg.fj{M:Mo}(K:qg M)(w:Nat):qg (M.fj w):=⟨K.k,K.nd,K.lv,K.on⟩
structure Kd (M N:Mo)(t:Nat):Prop where
 ho:N.hole=M.hole
 st:N.m.st=M.m.st
 p:N.v.p=M.v.p
 c:N.v.c=M.v.c
 aM:N.v.aM≤M.v.aM+1
 tn:N.tn≤M.tn+t
theorem Kd.le{M N:Mo}{s t:Nat}(h:Kd M N s)(e:s≤t):Kd M N t:=⟨h.ho,h.st,h.p,h.c,h.aM,Nat.le_trans h.tn (Nat.add_le_add_left e _)⟩
theorem Kd.rf{M N:Mo}(ho:N.hole=M.hole)(st:N.m.st=M.m.st)(p:N.v.p=M.v.p)(c:N.v.c=M.v.c)(i:N.v.aM=M.v.aM)(t:N.tn=M.tn):Kd M N 0:=⟨ho,st,p,c,by omega,by omega⟩
theorem vh (M:Mo)(k:List UInt8):(M.meet k).2.hole=M.hole∧(M.meet k).2.m=M.m∧(M.meet k).2.v.p=M.v.p∧(M.meet k).2.v.c=M.v.c∧(M.meet k).2.v.aM=M.v.aM∧(M.meet k).2.tn=M.tn:=by
 unfold Mo.meet;cases M.find k with
 |none=>exact⟨rfl,rfl,rfl,rfl,rfl,rfl⟩
 |some p=>
  dsimp only
  split<;>exact⟨rfl,rfl,rfl,rfl,rfl,rfl⟩
theorem qg.meet{M N:Mo}(K:qg M){k:List UInt8}{o:Option Nat}(h:M.meet k=(o,N)):qg N:=by
 unfold Mo.meet at h;cases hf:M.find k with
 |none=>rw[hf]at h;simp only[Prod.mk.injEq]at h;rw[←h.2];exact K.fj 1
 |some p=>
  rw[hf]at h;dsimp only at h
  split at h
  ·simp only[Prod.mk.injEq]at h
   rw[←h.2];exact((K.fj _).cD (mM hf).1).1
  simp only[Prod.mk.injEq]at h;rw[←h.2];exact K.fj 0
theorem WJ (eP:Bool)(ex:Int)(s:List I3×Mo)(k:List UInt8):(Mo.cL eP ex s k).2.hole=s.2.hole∧(Mo.cL eP ex s k).2.m=s.2.m∧(Mo.cL eP ex s k).2.v.p=s.2.v.p∧(Mo.cL eP ex s k).2.v.c=s.2.v.c∧(Mo.cL eP ex s k).2.v.aM=s.2.v.aM∧(Mo.cL eP ex s k).2.tn≤s.2.tn+1:=by
 obtain⟨h1,h2,h3,h4,h5,h6⟩:=vh s.2 k;unfold Mo.cL;rcases hm:s.2.meet k with⟨_|p,N⟩<;>rw[hm]at h1 h2 h3 h4 h5 h6
 ·exact⟨h1,h2,h3,h4,h5,by dsimp only at*;omega⟩
 dsimp only at*;cases eP
 ·exact⟨h1,h2,h3,h4,h5,by show N.tn≤_;omega⟩
 refine⟨h1,h2,h3,h4,h5, ?_⟩;have:=AP N p (cF N.k.now ex);show(N.time p _).tn≤_;omega
theorem Ii (eP:Bool)(ex:Int):∀(l:List (List UInt8)) (s:List I3×Mo),(l.foldl (Mo.cL eP ex) s).2.hole=s.2.hole∧(l.foldl (Mo.cL eP ex) s).2.m=s.2.m∧(l.foldl (Mo.cL eP ex) s).2.v.p=s.2.v.p∧(l.foldl (Mo.cL eP ex) s).2.v.c=s.2.v.c∧(l.foldl (Mo.cL eP ex) s).2.v.aM=s.2.v.aM∧(l.foldl (Mo.cL eP ex) s).2.tn≤s.2.tn+l.length
 | [],s=>⟨rfl,rfl,rfl,rfl,rfl,acG _⟩
 |k::l,s=>by
  obtain⟨a1,a2,a3,a4,a5,a6⟩:=WJ eP ex s k;obtain⟨b1,b2,b3,b4,b5,b6⟩:=Ii eP ex l (Mo.cL eP ex s k);rw[List.foldl_cons,ac7];exact⟨b1.trans a1,b2.trans a2,b3.trans a3,b4.trans a4,b5.trans a5,by omega⟩
theorem Wg{M:Mo}{r:Nat}{old:Option Nat}{n:I3}:(M.gf r old n).hole=none∧(M.gf r old n).m=M.m∧(M.gf r old n).v.p=M.v.p∧(M.gf r old n).v.c=M.v.c∧(M.gf r old n).v.aM=M.v.aM+1∧(M.gf r old n).tn≤M.tn+1:=by
 cases old<;>refine⟨rfl,rfl,rfl,rfl,rfl, ?_⟩
 ·show(if 0<n.exp then M.tn+1 else M.tn)≤_
  split<;>omega
 show(if 0<n.exp then M.tn+1 else M.tn)≤_
 split<;>omega
theorem HL (M:Mo)(old:Option Nat)(ov:Bool):Kd M (M.over old ov) 0:=by
 unfold Mo.over;cases old with
 |none=>exact .rf rfl rfl rfl rfl rfl rfl
 |some p=>dsimp only;split<;>exact .rf rfl rfl rfl rfl rfl rfl
theorem Kd.mc{M N:Mo}{own:Option Nat}(s:GW M N own)(h:N.hole=M.hole):Kd M N 0:= .rf h s.st s.p s.c s.aM s.tn
theorem Kd.tr{M N O:Mo}{s t:Nat}(a:Kd M N s)(i:N.v.aM=M.v.aM)(b:Kd N O t):Kd M O (s+t):=⟨b.ho.trans a.ho,b.st.trans a.st,b.p.trans a.p,b.c.trans a.c,by have:=b.aM;omega,by have:=a.tn;have:=b.tn;omega⟩
theorem HB{M:Mo}(K:qg M)(hh:M.hole=none)(n:Nat)(own old:Option Nat)(ov:Bool)(X:Mo→Nat→I3)(a:ff)(b:ff):Kd M (match M.room n own with|(none,R)=>(a,R.over old ov)|(some r,R)=>(b,R.gf r old (X R r))).2 1:=by
 have R:=u9 K (n:=n) (own:=own) (o:=(M.room n own).1) (N:=(M.room n own).2) rfl;rcases hr:M.room n own with⟨_|r,N⟩<;>rw[hr]at R
 ·exact((Kd.mc R.s (R.no rfl)).tr R.s.aM (HL N old ov)).le (by omega)
 obtain⟨l1,l2,l3,l4,l5,l6⟩:=Wg (M:=N) (r:=r) (old:=old) (n:=X N r);exact⟨l1.trans hh.symm,by rw[l2];exact R.s.st,l3.trans R.s.p,l4.trans R.s.c,(by show(N.gf r old (X N r)).v.aM≤_;rw[l5,R.s.aM];omega),(by have h9:N.tn=M.tn:=R.s.tn;show(N.gf r old (X N r)).tn≤_;omega)⟩
theorem IB{M:Mo}(K:qg M)(hh:M.hole=none)(c:dI):Kd M (M.eQ c).2 (max c.keys.length 1):=by
 have mk:=λk=>vh M k;have K1:∀k o N,M.meet k=(o,N)→qg N∧N.hole=none∧Kd M N 0∧N.v.aM=M.v.aM:=λk o N h=>by
  obtain⟨h1,h2,h3,h4,h5,h6⟩:=mk k;rw[h]at h1 h2 h3 h4 h5 h6;exact⟨K.meet h,h1.trans hh, .rf h1 (congrArg lB.st h2) h3 h4 h5 h6,h5⟩
 unfold Mo.eQ
 split
 ·obtain⟨g1,g2,g3,g4,g5,g6⟩:=Ii (decide (c.verb=3∨c.verb=4)) c.ex c.keys ([],M)
  exact⟨g1,congrArg lB.st g2,g3,g4,by have:=g5;show _≤_;unfold Mo.jX;dsimp only at*;omega,by unfold Mo.jX;dsimp only at*;omega⟩
 split
 ·unfold Mo.counts
  rcases hm:M.meet (c.keys.headD [])with⟨_|p,N⟩<;>obtain⟨k1,k2,k3,k4⟩:=K1 _ _ _ hm
  ·exact k3.le (by omega)
  dsimp only
  split
  ·exact k3.le (by omega)
  next n _=>
  unfold Mo.fH
  split
  ·exact(k3.tr k4 (⟨rfl,rfl,rfl,rfl,(by show N.v.aM+1≤_;exact acG _),acG _⟩:Kd N ((((N.kA p (bL (iI c n))).lS (N.v.aM+1)).tok p (N.v.aM+1)).marks p 0|>.eO p) 0)).le (by omega)
  split
  ·exact k3.le (by omega)
  have:=HB k1 k2 (58+(N.it p).key.length+(bL (iI c n)).length) (some p) (some p) false (λR r=>⟨(N.it p).key,bL (iI c n),(N.it p).fl,(N.it p).exp,R.k.now,R.v.aM+1,0⟩) (.t hU) ⟨7,[],iI c n,[]⟩;refine Kd.le (k3.tr k4 (t:=1) ?_) (by omega)
  revert this
  generalize N.room (58+(N.it p).key.length+(bL (iI c n)).length) (some p)=o;rcases o with⟨_|r,R⟩
  ·exact λh=>h
  exact λh=>h
 split
 ·unfold Mo.cz
  rcases hm:M.meet (c.keys.headD [])with⟨_|p,N⟩<;>obtain⟨k1,k2,k3,k4⟩:=K1 _ _ _ hm
  ·exact k3.le (by omega)
  exact(k3.tr k4 (⟨rfl,rfl,rfl,rfl,Nat.le_succ _,AP N p _⟩:Kd N ((N.time p (cF N.k.now c.ex)).eO p) 1)).le (by omega)
 split
 ·unfold Mo.delete
  rcases hm:M.meet (c.keys.headD [])with⟨_|p,N⟩<;>obtain⟨k1,k2,k3,k4⟩:=K1 _ _ _ hm
  ·exact k3.le (by omega)
  exact(k3.tr k4 (Kd.rf rfl rfl rfl rfl rfl rfl:Kd N (N.cD p) 0)).le (by omega)
 split
 ·exact(Kd.rf (M:=M) (N:={M with k:=M.k.flush c.ex M.v.aM,x:=M.x.again}) rfl rfl rfl rfl rfl rfl).le (by omega)
 split
 ·exact(Kd.rf (N:=M) rfl rfl rfl rfl rfl rfl).le (by omega)
 split
 ·exact(Kd.rf (N:=M) rfl rfl rfl rfl rfl rfl).le (by omega)
 split
 ·exact(Kd.rf (N:=M) rfl rfl rfl rfl rfl rfl).le (by omega)
 unfold Mo.cU;rcases hm:M.meet (c.keys.headD [])with⟨o,N⟩
 obtain⟨k1,k2,k3,k4⟩:=K1 _ _ _ hm;refine Kd.le (k3.tr k4 (t:=1) ?_) (by omega);dsimp only;unfold Mo.jh
 split
 ·exact(HL _ _ _).le (by omega)
 split
 ·exact(Kd.rf (N:=N) rfl rfl rfl rfl rfl rfl).le (by omega)
 split
 ·exact(Kd.rf (N:=N) rfl rfl rfl rfl rfl rfl).le (by omega)
 next x _=>
 unfold Mo.lays;exact HB k1 k2 (58+(c.keys.headD []).length+x.1.length) o o (tX c.verb) (λR r=>⟨c.keys.headD [],x.1,x.2.1,x.2.2,R.k.now,R.v.aM+1,0⟩) (.t hU) (.k 1)
end Go.Proofs.YtdolmecackmjdaaGreatDoor
namespace Go.Proofs.YtdolmecackmjdaaGreatDoor
open Go Go.dL Go.Proofs.YtdolmecackmjdaaGreatDoor.Cs
def qM:List UInt8:= [98,97,100,32,99,111,109,109,97,110,100]
noncomputable def Mo.dO (hot warm:Nat)(M:Mo)(c:dI):ff×Mo:=
 if oH c=true then(.t qM,M.reset)
 else if aY c.verb=0 then((M.reset.eQ c).1,(M.reset.eQ c).2.beside)
 else((M.reset.eQ c).1,c.keys.foldl (Mo.behind hot warm) (M.reset.eQ c).2)
structure Bk (M N:Mo)(t:Nat):Prop where
 h:M.hole=none→N.hole=none
 st:N.m.st≤M.m.st+t
 p:N.v.p=M.v.p
 c:N.v.c=M.v.c
 aM:N.v.aM=M.v.aM
 tn:N.tn=M.tn
theorem Bk.refl (M:Mo):Bk M M 0:=⟨id,acG _,rfl,rfl,rfl,rfl⟩
theorem Bk.trans{M N O:Mo}{s t:Nat}(a:Bk M N s)(b:Bk N O t):Bk M O (s+t):=⟨λh=>b.h (a.h h),by have:=a.st;have:=b.st;omega,b.p.trans a.p,b.c.trans a.c,b.aM.trans a.aM,b.tn.trans a.tn⟩
theorem pY (M:Mo):Bk M M.beside 1:=by
 obtain⟨a1,a2,a3,a4,a5,a6,a7⟩:=mO M.fe M.fe.k.now M.fe.v.p.c;obtain⟨b1,b2⟩:=gA M.fe.jf M.fe.jf.v.p.m;have h1:Bk M M.fe 0:=⟨id,acG _,rfl,rfl,rfl,rfl⟩;have h2:Bk M.fe M.fe.jf 0:=⟨λh=>a1.trans h,by show(M.fe.cP _ _).2.m.st≤_;rw[a2];exact acG _,a3,a5,a6,a7⟩;have h3:Bk M.fe.jf M.fe.jf.j5 1:=⟨b1.h,b2,b1.p,b1.c,b1.aM,b1.tn⟩;exact(h1.trans h2).trans h3
theorem tW (hot warm:Nat)(M:Mo)(k:List UInt8):Bk M (M.behind hot warm k) 1:=by
 have h:Bk M (M.oq hot warm k) 0:=by
  unfold Mo.oq
  split
  ·exact .refl M
  exact⟨id,acG _,rfl,rfl,rfl,rfl⟩
 have:=h.trans (pY (M.oq hot warm k))
 rwa[acQ]at this
theorem ru (hot warm:Nat):∀(l:List (List UInt8)) (M:Mo),Bk M (l.foldl (Mo.behind hot warm) M) l.length
 | [],M=> .refl M
 |k::l,M=>by
  have:=(tW hot warm M k).trans (ru hot warm l (M.behind hot warm k));rw[Nat.add_comm]at this;exact this
theorem Yx (uO:oU)(z:Ly)(MP:z.hot≤100)(BL:z.warm≤100)(M:Mo)(c:dI)(ka:Option Addr)(kc:Nat)(da:Option Addr)(dc:Nat)(mv:Value)(iG:mv.oneCell'=true)(hA:ib M 1)(hA2:ib (M.reset.eQ c).2 1)(Mz:c.keys.length<1073741824)(oh:∀k∈c.keys,k.length<281474976710656)(hex:c.ex<9223372036854775808)(hda:c.data.length<281474976710656)(BO:c.dl<18446744073709551616)
  (hh:M.hole=none) (iY:M.m.st+c.keys.length<4611686018427387904) (MS:uL M.v.p) (vY:M.v.c.lim≤1048576) (qG:M.v.aM+1<18446744073709551616) (tY:M.tn+c.keys.length<18446744073709551615):
  aH acw 11 [.pointer (some ⟨z.s,0,none⟩), .agg (cy c ka kc da dc mv).toArray] (λh=>dU h ka (eR c.keys)∧dU h da (ai c.data)) [SW z M] (Jc z (M.dO z.hot z.warm c)):=by
 refine ae func11 rfl ntmps11 rfl ?_;rintro F ⟨hr,hd⟩;refine ay ?_;refine Lp (oB λb1=> ?_);refine Lp (oA T.iu λb2=> ?_);refine ay ?_;refine Hh (H':= [SW z M,ag b1 47 (cy c ka kc da dc mv),ag b2 41 [.int .i64 0,aG, .int .u64 0,aB [],aG]]) ?_;refine bB ?_;refine Lp (adU 21 T.P3 ?_);refine a8 ?_;refine Lp (oSc (i:=28) T.Nu ?_);change G _ _ _ _ _ [SW z M.reset,ag b1 47 (cy c ka kc da dc mv),ag b2 41 [.int .i64 0,aG, .int .u64 0,aB [],aG]];refine aR ?_;refine zl T.afU (acj c ka kc da dc mv iG (by omega) oh) .nil (λ_ le _=>hr.mono le) ?_;rcases hb:oH c with _|_
 ·have fX:M.dO z.hot z.warm c=if aY c.verb=0 then((M.reset.eQ c).1,(M.reset.eQ c).2.beside)else((M.reset.eQ c).1,c.keys.foldl (Mo.behind z.hot z.warm) (M.reset.eQ c).2):=by unfold Mo.dO;rw[hb,if_neg (by decide)]
  refine oR λwa wc B O=> ?_;have KD:=IB (M:=M.reset) ⟨O.mc0,O.TF.nd,O.TF.lv,O.TF.on⟩ hh c;refine bH ?_;refine Lp (oC T.afT rfl rfl (ZA z M.reset c ka kc da dc mv iG hA.sp hb Mz oh rfl hex hda BO hh (by show M.m.st<_;omega) vY qG tY) (.cons .here .nil) (λ_ le _=>⟨hr.mono le,hd.mono le⟩) ?_);rintro v H' ⟨ea,ec,l,hl,rfl,rfl⟩;refine bd ?_;generalize hR:M.reset.eQ c=r at*;obtain⟨a,N⟩:=r;dsimp only at KD hl fX hA2⊢;have hN0:N.hole=none:=KD.ho.trans hh;have hNs:N.m.st+c.keys.length<4611686018427387904:=by have:=KD.st;change N.m.st=M.m.st at this;omega
  have hNp:uL N.v.p:=by have:=KD.p;change N.v.p=M.v.p at this;rw[this];exact MS
  refine Lp (oA T.iu λb3=> ?_);refine Lp (eJ T.aS ?_ (h1:=by simp[dG,Value.oneCell',aB,aG]));refine bc ?_;refine zl T.Yr (Cy c.verb) .nil (λ_ _ _=>trivial) ?_;by_cases h0:aY c.verb=0
  ·rw[if_pos h0]at fX
   refine a8 ?_;refine dz ?_ (e:=by exact decide_eq_true h0);refine a8 ?_;refine zl T.NI (ux uO z N hN0 (by omega) hNp hA2) (.cons (.there (.there (.there .here))) .nil) (λ_ _ _=>trivial) ?_;refine aZ ?_;refine Lp (eJ T.aS ?_ (h1:=by simp[dG,Value.oneCell',aB,aG]));refine aZ ?_;refine ko [own ea ec 49 9 (fY l),gV l,SW z N.beside] T.aS results11 ?_;exact⟨ea,ec,l,by rw[fX];exact hl,by rw[fX];rfl,by rw[fX]⟩
  rw[if_neg h0]at fX;refine a8 ?_;refine cu ?_ (e:=by exact decide_eq_false h0);refine bw ?_;refine Lo (ι:=Nat×Mo) [33,34,35,7,36,37,38,39,32] (λs=>(s.1≤c.keys.length∧s.2=(c.keys.take s.1).foldl (Mo.behind z.hot z.warm) N)) (λs=> [(32, .int .i64 (s.1:Int))]) (λs=> [SW z s.2,ag b1 47 (cy c ka kc da dc mv),ag b2 41 [.int .i64 0,aG, .int .u64 0,aB [],aG],ag b3 41 (dG a.kind (.slice ea l.length ec) a.num a.sQ),own ea ec 49 9 (fY l),gV l]) (λs=>c.keys.length-s.1) ((0,N)) ⟨acS _,rfl⟩ ?_;rintro⟨i,X⟩ hI;dsimp only at hI⊢;obtain⟨hi,hX⟩:=hI;by_cases bX:i<c.keys.length
  ·have uI:=rP c.keys i bX
   have Mw:ka.isSome=true:=by obtain⟨ad,e,_⟩:=hr i _ uI;rw[e];rfl
   have sU:=oh _ (acJ bX);have hX2:X.behind z.hot z.warm c.keys[i]=(c.keys.take (i+1)).foldl (Mo.behind z.hot z.warm) N:=by rw[adE,acx bX,ah7,←hX];rfl
   have bk:=ru z.hot z.warm (c.keys.take i) N;rw[←hX]at bk;have Eu:(c.keys.take i).length=i:=by rw[List.length_take];omega
   rw[Eu]at bk;have bst:=bk.st;have hAX:ib X 1:=by rw[hX];exact hA2.ev (ib.nF (j:=0) z.hot z.warm _ hA2)
   generalize c.keys[i]=k at*;refine aZ ?_;refine au ?_;refine dz ?_;refine bc ?_;refine Li (Ix T.nR) ?_;refine bB ?_;refine zl T.afS (F7 uO z X k sU (bk.h hN0) (by omega) (by rw[bk.p];exact hNp) hAX MP BL) (.cons .here .nil) (λ_ _ _=>trivial) ?_;refine bB ?_;refine az ?_;refine Ro ((i+1,X.behind z.hot z.warm k)) (⟨bX,hX2⟩) ((by dsimp only;omega))
  refine gU ?_;refine a8 ?_;refine au ?_;refine cu ?_;refine bH ?_;refine Lp (eJ T.aS ?_ (h1:=by simp[dG,Value.oneCell',aB,aG]));refine a8 ?_;obtain rfl:i=c.keys.length:=by omega
  rw[agQ]at hX;rw[←hX]at fX;refine ko [own ea ec 49 9 (fY l),gV l,SW z X] T.aS results11 ?_;exact⟨ea,ec,l,by rw[fX];exact hl,by rw[fX];rfl,by rw[fX]⟩
 have fX:M.dO z.hot z.warm c=(.t qM,M.reset):=by unfold Mo.dO;rw[hb,if_pos rfl]
 refine aZ ?_;refine zl T.rL (gz qM) .nil (λ_ _ _=>trivial) ?_;unfold lV dG aG;refine Li (Fga SE T.aS) ?_;refine Lp (eJ T.aS ?_ (h1:=by simp[dG,Value.oneCell',aB,aG]));refine aZ ?_;refine aT 49 9 ?_;refine su ?_;refine ko [own none 0 49 9 [],gV [],SW z M.reset] T.aS results11 ?_;exact⟨none,0,[],by rw[fX];rfl,by rw[fX];rfl,by rw[fX];rfl⟩
theorem Ve (t b:Nat)(W:Tb)(y:p9):aH acw 42 [.pointer (some ⟨t,0,none⟩)] (In (ag t 145 (fA b W y))) [] (λv H=>v= .int .i64 (W.n:Int)∧H= []):=by
 unfold fA;refine ae func42 rfl ntmps42 rfl ?_;intro F h0;refine bK ?_;refine Rt [] results42 ?_;exact⟨rfl,rfl⟩
theorem QC (z:Ly)(M:Mo):aH acw 42 [.pointer (some ⟨z.y.t,0,none⟩)] (λ_=>True) [SW z M] (λv H=>v= .int .i64 (M.n:Int)∧H= [SW z M]):=
 mF λwa wc B O=>by
  have h:=Ve z.y.t z.y.b B.W B.ty;rw[show B.W.n=M.n from O.n]at h;exact⟨_,h,λk k0 le h aw=>aw.nth 1 rfl⟩
theorem UZ (z:Ly)(M:Mo):aH acw 24 [.pointer (some ⟨z.s,0,none⟩)] (λ_=>True) [SW z M] (λv H=>v= .int .i64 (M.k.now:Int)∧H= [SW z M]):=by
 refine ae func24 rfl ntmps24 rfl ?_;intro F _;refine cN ?_;refine zl T.iz (QB z M) (.cons .here .nil) (λ_ _ _=>trivial) ?_;refine aZ ?_;refine Rt [SW z M] results24 ?_;exact⟨rfl,rfl⟩
theorem U0 (z:Ly)(M:Mo):aH acw 13 [.pointer (some ⟨z.s,0,none⟩)] (λ_=>True) [SW z M] (λv H=>v= .int .i64 (M.n:Int)∧H= [SW z M]):=by
 refine ae func13 rfl ntmps13 rfl ?_;intro F _;refine cN ?_;refine zl T.afR (QC z M) (.cons .here .nil) (λ_ _ _=>trivial) ?_;refine aZ ?_;refine Rt [SW z M] results13 ?_;exact⟨rfl,rfl⟩
theorem FJ (z:Ly)(M:Mo):aH acw 23 [.pointer (some ⟨z.s,0,none⟩)] (λ_=>True) [SW z M] (λv H=>v= .int .u64 (M.v.aM:Int)∧H= [SW z M]):=by
 refine ae func23 rfl ntmps23 rfl ?_;intro F _;refine bK ?_;refine Rt [SW z M] results23 ?_;exact⟨rfl,rfl⟩
theorem Jw (z:Ly)(M:Mo)(n:Int)(hi:M.v.aM<18446744073709551616):aH acw 44 [.pointer (some ⟨z.y.ck,0,none⟩), .int .i64 n, .int .u64 (M.v.aM:Int)] (λ_=>True) [SW z M]
  (λv H=>v= .int .i64 (M.k.Ew n)∧H= [SW z {M with k:=M.k.move n M.v.aM}]):=
 hZ (N:={M with k:=M.k.move n M.v.aM}) (T:=λv=>v= .int .i64 (M.k.Ew n)) λa c=>fg λB O=>by
  have h:=(L8 z.y.ck M.k O.ck n M.v.aM hi).fr (H:=fQ z B (M.aK a c)++ []) (R:= [Cl z.y.b B.C,ag z.y.t 145 (fA z.y.b B.W B.ty),ag B.ty.nk 163 (aJ (aA B.W.nb)),jV B.ty.ok 163 (aJ (aA B.W.ob)),ag z.y.q 139 (fP z.y.b z.qb B.C.af.length),ag z.qb 327 (M.Q.flatMap (eH B.C)),gZ z.y.cr z.y.q z.y.wh B.C.af.length (bJ z.s) (bI z.s) B.C M.x,Wl z.y.wh B.E M.tn,gY z.s z.y (gJ (M.aK a c).v),
   jN z.y.lu z.y.b z.y.q z.hot z.warm,oa z.y.mo z.y.b z.ub (bJ z.s) (bI z.s) (cK z.s) M.m,oz z.ub M.m,lQ (M.aK a c)]) (.cons (.there (.there (.there (.there (.there (.there (.there (.there (.there .here))))))))) .nil) (λ_ _=>trivial)
  refine h.out ?_;rintro v H' ⟨H0,⟨rfl,rfl⟩,rfl⟩;refine⟨[SH z (({M with k:=M.k.move n M.v.aM}:Mo).aK a c)],⟨rfl,rfl⟩,λk s=>aQ (O.ck1 (O.ck.move n hi)) (H:= []) k ?_⟩
  revert s
  revert k
  simp only[uP,cap,agu];unfold fQ;exact Eh
theorem FP (uO:oU)(z:Ly)(M:Mo)(now aF:Int):aH acw 45 [.pointer (some ⟨z.y.cr,0,none⟩), .int .i64 now, .int .i64 aF] (λ_=>True) [SW z M]
  (λv H=>(∃t:Int,v= .tuple #[.int .i64 ((M.cP now aF).1:Int), .int .i64 t])∧H= [SW z (M.cP now aF).2]):=
 hZ (N:=(M.cP now aF).2) (T:=λv=>∃t:Int,v= .tuple #[.int .i64 ((M.cP now aF).1:Int), .int .i64 t]) λa c=>
  (Dr uO z (M.aK a c) now aF).out (by
   rintro v H' ⟨n,t,M',hm,rfl,rfl⟩;rw[IE]at hm;simp only[Prod.mk.injEq]at hm;obtain⟨rfl,rfl⟩:=hm;exact⟨_,⟨⟨t,rfl⟩,rfl⟩,λk s=>s⟩)
def Mo.dV (M:Mo)(n:Int):Mo:={M with k:=M.k.move n M.v.aM}
noncomputable def Mo.tick (M:Mo)(n:Int):Mo:=if M.k.Ew n=0 then((M.dV n).reset.cP (M.dV n).k.now 64).2.bj {((M.dV n).reset.cP (M.dV n).k.now 64).2.v.mt with cr:=(((M.dV n).reset.cP (M.dV n).k.now 64).1:Int)}else M
theorem U7 (uO:oU)(z:Ly)(M:Mo)(n:Int)(hi:M.v.aM<18446744073709551616):aH acw 16 [.pointer (some ⟨z.s,0,none⟩), .int .i64 n] (λ_=>True) [SW z M] (λv H=>v= .int .i64 (M.k.Ew n)∧H= [SW z (M.tick n)]):=by
 have zW:=Jw z M n hi;change aH _ _ _ _ _ (λv H=>v= .int .i64 (M.k.Ew n)∧H= [SW z (M.dV n)])at zW;have ht:M.tick n=if M.k.Ew n=0 then((M.dV n).reset.cP (M.dV n).k.now 64).2.bj {((M.dV n).reset.cP (M.dV n).k.now 64).2.v.mt with cr:=(((M.dV n).reset.cP (M.dV n).k.now 64).1:Int)}else M:=rfl
 refine ae func16 rfl ntmps16 rfl ?_;intro F _;refine aZ ?_;refine au ?_;refine gK 10 T.mix (.cons .here .nil) λF1 iT cj aI=> ?_;obtain⟨q1,_⟩:=cj;refine aR ?_
 first
  |refine Ti (Lf T.ns) ?_
  |refine Ti (fB T.ns q1) ?_
 refine aR ?_
 first
  |refine Ti (Lf T.jC) ?_
  |refine Ti (fB T.jC q1) ?_
 refine gd aI ?_;refine Tp (oC T.afQ rfl rfl (zW) (.cons .here .nil) (λ_ _ _=>trivial) ?_);rintro v H' ⟨rfl,rfl⟩;refine bd ?_;refine bH ?_;by_cases h0:M.k.Ew n=0
 ·rw[if_pos h0]at ht
  rw[h0];refine cN ?_;refine Lp (adU 21 T.P3 ?_);refine a8 ?_;refine Lp (oSc (i:=28) T.Nu ?_);change G _ _ _ _ _ [SW z (M.dV n).reset];refine ay ?_;refine au ?_;refine gK 11 T.mix (.cons .here .nil) λF2 yi ez dX=> ?_;obtain⟨q2,_⟩:=ez;refine aR ?_
  first
   |refine Ti (Lf T.wH) ?_
   |refine Ti (fB T.wH q2) ?_
  refine aR ?_
  first
   |refine Ti (Lf T.ns) ?_
   |refine Ti (fB T.ns q2) ?_
  refine Tp (oC T.iz rfl rfl (jT z (M.dV n).reset) .nil (λ_ le _=>In.mono q2 le) ?_);rintro v H' ⟨rfl,rfl⟩;refine bd ?_;refine gd dX ?_;rw[show(M.dV n).reset.k.now=(M.dV n).k.now from rfl];refine Tp (oC T.Yo rfl rfl (FP uO z (M.dV n).reset (M.dV n).k.now 64) (.cons .here .nil) (λ_ _ _=>trivial) ?_);rintro v H' ⟨⟨t,rfl⟩,rfl⟩;refine bd ?_;refine dQ ?_;refine Lp (oSc (i:=26) T.bR ?_);refine bc ?_;refine Rt [SW z (((M.dV n).reset.cP (M.dV n).k.now 64).2.bj {((M.dV n).reset.cP (M.dV n).k.now 64).2.v.mt with cr:=(((M.dV n).reset.cP (M.dV n).k.now 64).1:Int)})] results16 ?_;exact⟨rfl,by rw[ht]⟩
 rw[if_neg h0]at ht;have hM:M.dV n=M:=by unfold Mo.dV Ck.move;rw[if_neg h0]
 rw[hM];refine dz ?_ (e:=by exact congrArg (!·) (decide_eq_false h0));refine bB ?_;refine Rt [SW z M] results16 ?_;exact⟨rfl,by rw[ht]⟩
def Ni:List Value:= [aB [], .slice none 0 0, .int .u64 0, .int .i64 0, .int .u64 0, .int .i64 0, .bool false, .bool false, .bool false]
def Mo.live (M:Mo)(k:List UInt8):Option Nat:=match M.find k with
 |some p=>if M.bV p=0 then some p else none
 |none=>none
def agq (z:Ly)(M:Mo)(o:Option Nat)(v:Value)(H:List aa):Prop:=match o with
 |some p=>∃vb,v= .tuple #[.agg (jQ (M.it p) (.slice (some ⟨vb,0,none⟩) (M.it p).val.length (M.it p).val.length)).toArray, .bool true]∧H= [own (some ⟨vb,0,none⟩) (M.it p).val.length 5 1 (ai (M.it p).val),SW z M]
 |none=>v= .tuple #[.agg Ni.toArray, .bool false]∧H= [SW z M]
theorem Dd (z:Ly)(M:Mo)(k:List UInt8)(hk:k.length<281474976710656):aH acw 12 [.pointer (some ⟨z.s,0,none⟩),aB k] (λ_=>True) [SW z M] (agq z M (M.live k)):=by
 refine ae func12 rfl ntmps12 rfl ?_;intro F _;refine ay ?_;refine Lp (oA T.uc λb1=> ?_);refine a8 ?_;refine Hh (H':= [SW z M,ag b1 49 Ni]) ?_;refine oR λwa wc B O=> ?_;refine bH ?_;refine Lp (BA T.kk T.ll T.qw λkb kc rz=> ?_);refine zl T.yR (Jx z M (some ⟨kb,0,none⟩) kc _ k rfl hk) (.cons (.there .here) .nil) (λ_ le aw=>bD (aw.nth 0 rfl)) ?_;unfold Ni;rcases hf:M.find k with _|p
 ·refine Li Mv ?_
  refine bw ?_;refine zt 21 ?_ (e:=by rfl);refine gR ?_;refine Jd [SW z M] T.mD results12 ?_;unfold Mo.live;rw[hf];exact⟨rfl,rfl⟩
 obtain⟨hp,_⟩:=mM hf;refine bK ?_;refine zf 21 ?_ (e:=by rfl);refine a8 ?_;refine zl T.Yq (Jy z M p hp) (.cons .here .nil) (λ_ _ _=>trivial) ?_;by_cases h0:M.bV p=0
 ·rw[h0]
  refine cI ?_;refine Lp (oC T.Yp rfl rfl (zg z M p hp) (.cons .here .nil) (λ_ _ _=>trivial) ?_);rintro v H' ⟨vb,rfl,rfl⟩;refine bd ?_;refine Lp (eJ T.mD ?_ (h1:=by simp[jQ,Value.oneCell',aB]));refine aZ ?_;refine Jd [own (some ⟨vb,0,none⟩) (M.it p).val.length 5 1 (ai (M.it p).val),SW z M] T.mD results12 ?_;unfold Mo.live;rw[hf];dsimp only;rw[if_pos h0];exact⟨vb,rfl,rfl⟩
 refine Li Pf ?_;refine ay ?_;refine dz ?_ (e:=by exact decide_eq_true h0);refine a8 ?_;refine Lp (eJ T.mD ?_ (h1:=by simp[bU,Value.cells,Value.oneCell',aB]));refine aR ?_;refine Jd [SW z M] T.mD results12 ?_;unfold Mo.live;rw[hf];dsimp only;rw[if_neg h0];exact⟨rfl,rfl⟩
end Go.Proofs.YtdolmecackmjdaaGreatDoor
