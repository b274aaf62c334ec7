/- Part Pl of the proof. -/
import Derived.Test.YtdolmecackmjdaaGreatDoorPc1
import Derived.Test.YtdolmecackmjdaaGreatDoorPd
import Derived.Test.YtdolmecackmjdaaGreatDoorPf
import Derived.Test.YtdolmecackmjdaaGreatDoorPk
set_option maxRecDepth 100000
open Nat renaming zero_le → aay, le_refl → aan, pow_succ → adI, zero_add → aas, succ_pos → afO, lt_of_le_of_lt → adC, le_add_right → aeI
open List renaming drop_eq_getElem_cons → aeQ, getD_eq_getElem?_getD → aab, getElem?_eq_getElem → aac, length_singleton → adB, length_append → aal, length_cons → adm, getElem_mem → aam, take_add_one → adX, take_length → aeG, append_nil → adR, map_append → adt, foldl_append → afk, find?_eq_none → aef, map_cons → aao, sum_cons → aaC
open UInt8 renaming ofNat → aaB
open Bool renaming false_or → afG, eq_iff_iff → afy, not_eq_true' → afl, false_eq_true → afe
open Decidable renaming byContradiction → aak
open Go.Proofs.Tryz renaming prog → aaa
open Go.Proofs.Tryz
namespace Go.Proofs.YtdolmecackmjdaaGreatDoor
open Go Go.cV
def zZ:Nat→List UInt8→Option Nat
 |n,[]=>some n
 |n,b::r=>if b.toNat<48∨57<b.toNat∨(18446744073709551615-(b.toNat-48))/10<n then none else zZ (n*10+(b.toNat-48)) r
def pW (l:List UInt8):Option Nat:=if 0<l.length∧l.length≤20 then zZ 0 l else none
def oZ:List UInt8:= [99,97,110,110,111,116,32,105,110,99,114,101,109,101,110,116,32,111,114,32,100,101,99,114,101,109,101,110,116,32,110,111,110,45,110,117,109,101,114,105,99,32,118,97,108,117,101]
def dY (kind:Nat)(ea:Value)(num:Nat)(s7:List UInt8):List Value:= [.int .i64 (kind:Int),ea, .int .u64 (num:Int),aT s7, .slice none 0 0]
def sU (kind:Nat)(ea:Value)(num:Nat)(s7:List UInt8):Value:= .agg (dY kind ea num s7).toArray
def bc:Value:= .slice none 0 0
theorem fO (t:List UInt8):aF aaa 34 [aT t] (λ_=>True) [] (λv H=>v=sU 11 bc 0 t∧H= []):=by
 refine af func34 rfl ntmps34 rfl ?_
 intro F _
 refine aA ?_
 refine Lp (oA T.CQ λb1=> ?_)
 refine dh ?_
 refine EM [] T.DG results34 ?_
 exact⟨rfl,rfl⟩
theorem JA (a:Option Addr)(c m:Nat)(l:List UInt8)(hm:m=l.length)(hl:m<281474976710656):
  Ra aaa 111 [.slice a m c] (λh=>eB h a (ak l)) [] (λv H=>(∃n:Nat,pW l=some n∧n<18446744073709551616∧v= .int .u64 (n:Int))∧H= []) (λv H=>pW l=none∧v= .iface 113 (sU 11 bc 0 oZ)∧H= []):=by
 subst hm
 refine jQ func111 rfl ntmps111 rfl ?_
 intro F hr
 refine dh ?_
 refine aS (t:=11) rfl ?_ ?_
 ·intro h0
  replace h0:=aL h0
  have h0':0<l.length:=by simpa using h0
  refine aW ?_
  refine ay (t:=15) (v':=(.bool (decide (l.length≤20)))) rfl (by exact congrArg Value.bool (by rw[decide_eq_decide];omega)) ?_
  have ZR:pW l=if l.length≤20 then zZ 0 l else none:=by unfold pW;by_cases h:l.length≤20<;>simp[h,h0']
  generalize nF:decide (l.length≤20)=ok at*
  refine bq ?_
  refine aw ?_
  refine dJ (ι:=Bool×Nat) [16,17,18,19,20,21,6,22,23,24,7,25,26,27,28,29,30,31,32,33,34,35,36,37,38,39,40,41,4,42,43,44,45,3,46] (λs=>(s.1=true→pW l=some s.2∧s.2<18446744073709551616)∧(s.1=false→pW l=none)) (λs=> [(3, .int .u64 (s.2:Int)),(4, .bool s.1)]) (λs=> []) ?_ ?_
  ·refine iu ?_
   refine br ?_
   refine Lo (ι:=Nat×Nat) [19,20,21,6,22,23,24,7,25,26,27,28,29,30,31,32,33,34,35,36,37,38,39,40,41,4,42,43,44,45,3,46,18] (λs=>s.1≤l.length∧s.2<18446744073709551616∧(ok=true→pW l=zZ s.2 (l.drop s.1))∧(ok=false→s.1=0)) (λs=> [(3, .int .u64 (s.2:Int)),(4, .bool ok),(18, .int .i64 (s.1:Int))]) (λs=> []) (λs=>l.length-s.1) ((0,0)) ⟨aay _,by decide,λh=>by rw[ZR,if_pos (by rw[h]at nF;simpa using nF)];rfl,λ_=>rfl⟩ ?_
   rintro s hI
   obtain⟨k,nn⟩:=s
   dsimp only at hI⊢
   obtain⟨hk,hb,JU,zP⟩:=hI
   by_cases cB:k<l.length
   ·have UC:=Zo l k
    refine bq ?_
    refine aw ?_
    refine fB ?_
    refine br ?_
    refine Li (Ix T.gQ) ?_
    refine fK ?_
    rcases ok with _|_
    ·refine zt 27 ?_ (e:=by rfl)
     refine bW ?_
     refine br ?_
     refine Me ((false,nn)) (⟨λh=>(by cases h),λ_=>(by rw[ZR];have:¬l.length≤20:=(by simpa using nF);rw[if_neg this])⟩)
    have hdr:l.drop k=l[k]::l.drop (k+1):=aeQ cB
    have hi:=JU rfl
    have hbe:Cx l k=l[k].toNat:=by unfold Cx;rw[aab,aac cB];rfl
    rw[hdr]at hi
    refine zf 27 ?_ (e:=by rfl)
    refine aW ?_
    by_cases h48:Cx l k<48
    ·refine zt 31 ?_
     refine bW ?_
     refine aA ?_
     refine Me ((false,nn)) (⟨λh=>(by cases h),λ_=>(by rw[hi];unfold zZ;rw[if_pos (.inl (by omega))])⟩)
    refine zf 31 ?_
    refine ay (t:=7) (v':=(.int .u64 ((Cx l k-48:Nat):Int))) rfl (by exact congrArg (Value.int .u64) ((wrap_u64 (by omega)).trans (by omega))) ?_
    refine aW ?_
    by_cases h57:57<Cx l k
    ·refine zt 35 ?_
     refine mI ?_
     refine Me ((false,nn)) (⟨λh=>(by cases h),λ_=>(by rw[hi];unfold zZ;rw[if_pos (.inr (.inl (by omega)))])⟩)
    refine zf 35 ?_
    refine bq ?_
    refine ay (t:=38) (v':=(.int .u64 ((18446744073709551615-(Cx l k-48):Nat):Int))) rfl (by exact congrArg (Value.int .u64) (by omega)) ?_
    refine Li (QuU (q:=10)) ?_
    refine bq ?_
    by_cases wH:(18446744073709551615-(Cx l k-48))/10<nn
    ·refine fB ?_
     refine dg ?_
     refine Me ((false,nn)) (⟨λh=>(by cases h),λ_=>(by rw[hi];unfold zZ;rw[if_pos (.inr (.inr (by rw[←hbe];exact wH)))])⟩)
    refine dm ?_
    refine fK ?_
    refine aG ?_
    refine Ro ((k+1,nn*10+(Cx l k-48))) (⟨cB,(by dsimp only;omega),λ_=>(by rw[hi];rw[zZ,if_neg (by rw[←hbe];omega),←hbe]),λh=>(by cases h)⟩) ((by dsimp only;omega))
   refine iu ?_
   refine bf ?_
   refine aw ?_
   refine dm ?_
   refine aW ?_
   have pO:k=l.length:=by omega
   have aa4:ok=true:=by
    cases h:ok with
    |true=>rfl
    |false=>have:=zP h;omega
   have h1:=JU aa4
   rw[pO,List.drop_length]at h1
   refine Me ((ok,nn)) (⟨λ_=>⟨h1,hb⟩,λh=>(by rw[aa4]at h;cases h)⟩)
  rintro s hI
  obtain⟨b,nn⟩:=s
  dsimp only at hI⊢
  obtain⟨hj1,hj2⟩:=hI
  rcases b with _|_
  ·refine aw ?_
   refine br ?_
   refine fi ?_
   refine zl T.qf (fO oZ) .nil (λ_ _ _=>trivial) ?_
   refine Li (QN T.fF) ?_
   refine Lp (Qs ?_)
   refine pP [] ?_
   exact⟨hj2 rfl,rfl,rfl⟩
  refine aw ?_
  refine eC ?_
  refine pR ?_
  refine Rt [] results111 ?_
  exact⟨⟨nn,(hj1 rfl).1,(hj1 rfl).2,rfl⟩,rfl⟩
 intro h0
 replace h0:=aL h0
 have hz:l.length=0:=by omega
 have ZR:pW l=none:=by unfold pW;rw[if_neg (by omega)]
 refine fK ?_
 refine Lo (ι:=Unit) [19,20,21,6,22,23,24,7,25,26,27,28,29,30,31,32,33,34,35,36,37,38,39,40,41,4,42,43,44,45,3,46,18] (λu=>True) (λu=> [(3, .int .u64 0),(4, .bool false),(18, .int .i64 0)]) (λu=> []) (λu=>0) (()) (by simp) ?_
 rintro u hI
 refine bq ?_
 refine aw ?_
 refine dm ?_
 refine bI ?_
 refine fi ?_
 refine zl T.qf (fO oZ) .nil (λ_ _ _=>trivial) ?_
 refine Li (QN T.fF) ?_
 refine Lp (Qs ?_)
 refine pP [] ?_
 exact⟨ZR,rfl,rfl⟩
def dw (n:Nat):List UInt8:=if n<10 then [aaB (48+n)]else dw (n/10)++ [aaB (48+n % 10)]
termination_by n
theorem zk{n:Nat}(h:n<10):dw n= [aaB (48+n)]:=by rw[dw,if_pos h]
theorem Gn{n:Nat}(h:¬n<10):dw n=dw (n/10)++ [aaB (48+n % 10)]:=by rw[dw,if_neg h]
theorem PU (i:Nat):∀n,n<10^i→(dw n).length≤max i 1:=by
 induction i with
 |zero=>intro n h;rw[zk (by simp at h;omega)];exact aan _
 |succ i ih=>
  intro n h
  by_cases g:n<10
  ·rw[zk g];simp only[adB];omega
  rw[Gn g,aal,adB]
  have hi:i≠0:=λe=>by subst e;omega
  have:=ih (n/10) (by rw[adI]at h;omega)
  omega
theorem set_drop{l:List Value}{i:Nat}{v:Value}{r:List Value}(h:l.drop (i+1)=r)(hi:i<l.length):(l.set i v).drop i=v::r:=by
 rw[aeQ (by simpa using hi),List.getElem_set_self,List.drop_set_of_lt (by omega),h]
theorem NJ (n0:Nat)(hn0:n0<18446744073709551616):aF aaa 112 [.int .u64 (n0:Int)] (λ_=>True) []
  (λv H=>∃a c,v= .slice a (dw n0).length c∧H= [own a c 5 1 (ak (dw n0))]):=by
 refine af func112 rfl ntmps112 rfl ?_
 intro F _
 refine aW ?_
 refine Lp (oA T.Ww λb1=> ?_)
 refine br ?_
 refine Lo (ι:=Nat×Nat×List UInt8×List Value) [5,6,4,7,8,9,10,11,12,13,14,0,15,16,17,18,19,2] (λs=>(1≤s.1∧s.1≤20∧s.2.1<10^s.1∧s.2.1<18446744073709551616∧s.2.2.1.length=20-s.1)∧(dw s.2.1++s.2.2.1=dw n0)∧s.2.2.2.length=20∧s.2.2.2.drop s.1=ak s.2.2.1) (λs=> [(0, .int .u64 (s.2.1:Int)),(2, .slice none 0 0),(4, .int .i64 (s.1:Int))]) (λs=> [ag b1 268 s.2.2.2]) (λs=>s.2.1+1) ((20,n0,[],[.int .u8 0, .int .u8 0, .int .u8 0, .int .u8 0, .int .u8 0, .int .u8 0, .int .u8 0, .int .u8 0, .int .u8 0, .int .u8 0, .int .u8 0, .int .u8 0, .int .u8 0, .int .u8 0, .int .u8 0, .int .u8 0, .int .u8 0, .int .u8 0, .int .u8 0, .int .u8 0])) ⟨⟨Nat.le_of_ble_eq_true rfl,aan _,by dsimp only;omega,hn0,rfl⟩,by simp,rfl,rfl⟩ ?_
 rintro⟨i,n,ds,cs⟩ hI
 dsimp only at hI⊢
 obtain⟨⟨h0,h1,h2,h3,h4⟩,h5,h6,h7⟩:=hI
 obtain⟨i,rfl⟩:∃j,i=j+1:=⟨i-1,by omega⟩
 have hc:(aaB (48+n % 10)).toNat=48+n % 10:=by rw[UInt8.toNat_ofNat'];omega
 have h8:=set_drop (v:= .int .u8 ((aaB (48+n % 10)).toNat:Int)) h7 (by omega)
 have h9: .int .u8 ((aaB (48+n % 10)).toNat:Int)::ak ds=ak (aaB (48+n % 10)::ds):=rfl
 rw[h9]at h8
 rw[adI]at h2
 refine bL ?_
 refine ay (t:=4) (v':=(.int .i64 (i:Int))) rfl (by exact congrArg (Value.int .i64) (by omega)) ?_
 refine bf ?_
 refine Li (Rm (q:=10)) ?_
 refine bf ?_
 refine ay (t:=11) (v':=(.int .u8 ((aaB (48+n % 10)).toNat:Int))) rfl (by exact congrArg (Value.int .u8) (by rw[hc];first|exact(wrap_u8 (by omega)).trans (by omega)|omega)) ?_
 refine Li (Ia T.MT) ?_
 refine aW ?_
 refine Li (QuU (q:=10)) ?_
 refine bD ?_
 simp only[aas]
 by_cases hz:n/10=0
 ·have hn:n<10:=by omega
  have ZW:aaB (48+n % 10)::ds=dw n0:=by rw[←h5,zk hn,Nat.mod_eq_of_lt hn];rfl
  refine fB ?_
  refine bf ?_
  refine Li (SlA i 20 20 T.MT) ?_
  refine dK 5 1 ?_
  have zO:(dw n0).length=20-i:=by rw[←ZW,adm];omega
  refine Lp (eS T.iL T.qc rfl rfl rfl rfl .here (rfl) (dC (news:=ak (dw n0)) (m:=20-i) (by rw[oH,zO,Nat.mul_one]) λh le aq=>(by obtain⟨k,p,l⟩:=aq.nth 1 rfl;have q:=(nI (i:=i) p).mono l;rw[h8,ZW]at q;rw[aas];exact q)) (by first|exact dQ|(simp[Value.oneCell',aT])) (by first|omega|(simp;omega)) (by first|omega|(simp;omega)) rfl λa1 c1 Kj=> ?_)
  refine bD ?_
  rw[show 0+(20-i)=(dw n0).length by omega]
  refine Rt [own a1 c1 5 1 (ak (dw n0))] results112 ?_
  exact⟨a1,c1,rfl,rfl⟩
 refine dm ?_
 refine bf ?_
 have JU:1≤i:=by
  rcases i with _|i
  ·simp at h2;omega
  omega
 refine Ro ((i,n/10,aaB (48+n % 10)::ds,cs.set i (.int .u8 ((aaB (48+n % 10)).toNat:Int)))) (⟨⟨JU,(by dsimp only;omega),(by dsimp only;omega),(by dsimp only;omega),(by dsimp only[adm];omega)⟩,(by dsimp only;rw[←h5,Gn (n:=n) (by omega),List.append_assoc];rfl),(by dsimp only;rw[List.length_set];exact h6),h8⟩) ((by dsimp only;omega))
structure dB where
 verb:Int
 keys:List (List UInt8)
 fl:Nat
 ex:Int
 tok:Nat
 dl:Nat
 data:List UInt8
 nor:Bool
 lg:Bool
 what:List UInt8
def fU (l:List (List UInt8)):List Value:=l.map aT
theorem tm (l:List (List UInt8))(k:Nat)(h:k<l.length):(fU l)[k]?=some (aT l[k]):=by
 unfold fU
 rw[List.getElem?_map,aac h];rfl
def dZ (c:dB)(ka:Option Addr)(kc:Nat)(da:Option Addr)(dc:Nat)(mv:Value):List Value:=
 [.int .i64 c.verb, .slice ka c.keys.length kc, .int .u64 (c.fl:Int), .int .i64 c.ex, .int .u64 (c.tok:Int), .int .u64 (c.dl:Int), .slice da c.data.length dc, .bool c.nor, .bool c.lg,mv,aT c.what]
def bQ (v:Int):Int:=if 1≤v∧v≤4 then 2 else if 5≤v∧v≤14 then 1 else if 15≤v∧v≤18 then 0 else-1
def yi (c:dB):Bool:=decide (bQ c.verb<0∨0<bQ c.verb∧c.keys.length=0∨bQ c.verb=1∧1<c.keys.length) ||(decide (0<bQ c.verb)&&c.keys.any λk=> !dV k) ||decide (5≤c.verb∧c.verb≤10∧4294967295<c.fl)
theorem Av (v:Int):aF aaa 36 [.int .i64 v] (λ_=>True) [] (λw H=>w= .int .i64 (bQ v)∧H= []):=by
 refine af func36 rfl ntmps36 rfl ?_
 intro F _
 refine dg ?_
 refine aS (t:=6) rfl ?_ ?_
 ·intro cY
  replace cY:=aL cY
  refine br ?_
  refine ax rfl ?_ ?_
  ·intro dq
   replace dq:=aL dq
   refine bD ?_
   refine Rt [] results36 ?_
   refine⟨?_,rfl⟩
   unfold bQ
   repeat' split
   all_goals first|rfl|(exfalso;omega)
  intro dq
  replace dq:=aL dq
  refine aW ?_
  refine aS (t:=13) rfl ?_ ?_
  ·intro cX
   replace cX:=aL cX
   refine br ?_
   refine ax rfl ?_ ?_
   ·intro bU
    replace bU:=aL bU
    refine bD ?_
    refine Rt [] results36 ?_
    refine⟨?_,rfl⟩
    unfold bQ
    repeat' split
    all_goals first|rfl|(exfalso;omega)
   intro bU
   replace bU:=aL bU
   refine aW ?_
   refine aS (t:=20) rfl ?_ ?_
   ·intro de
    replace de:=aL de
    refine br ?_
    refine ax rfl ?_ ?_
    ·intro ig
     replace ig:=aL ig
     refine bD ?_
     refine Rt [] results36 ?_
     refine⟨?_,rfl⟩
     unfold bQ
     repeat' split
     all_goals first|rfl|(exfalso;omega)
    intro ig
    replace ig:=aL ig
    refine bL ?_
    refine Rt [] results36 ?_
    refine⟨?_,rfl⟩
    unfold bQ
    repeat' split
    all_goals first|rfl|(exfalso;omega)
   intro de
   replace de:=aL de
   refine gP ?_
   refine Rt [] results36 ?_
   refine⟨?_,rfl⟩
   unfold bQ
   repeat' split
   all_goals first|rfl|(exfalso;omega)
  intro cX
  replace cX:=aL cX
  refine bA ?_
  refine aS (t:=20) rfl ?_ ?_
  ·intro bU
   replace bU:=aL bU
   refine br ?_
   refine ax rfl ?_ ?_
   ·intro de
    replace de:=aL de
    refine bD ?_
    refine Rt [] results36 ?_
    refine⟨?_,rfl⟩
    unfold bQ
    repeat' split
    all_goals first|rfl|(exfalso;omega)
   intro de
   replace de:=aL de
   refine bL ?_
   refine Rt [] results36 ?_
   refine⟨?_,rfl⟩
   unfold bQ
   repeat' split
   all_goals first|rfl|(exfalso;omega)
  intro bU
  replace bU:=aL bU
  refine gP ?_
  refine Rt [] results36 ?_
  refine⟨?_,rfl⟩
  unfold bQ
  repeat' split
  all_goals first|rfl|(exfalso;omega)
 intro cY
 replace cY:=aL cY
 refine bA ?_
 refine aS (t:=13) rfl ?_ ?_
 ·intro dq
  replace dq:=aL dq
  refine br ?_
  refine ax rfl ?_ ?_
  ·intro cX
   replace cX:=aL cX
   refine bD ?_
   refine Rt [] results36 ?_
   refine⟨?_,rfl⟩
   unfold bQ
   repeat' split
   all_goals first|rfl|(exfalso;omega)
  intro cX
  replace cX:=aL cX
  refine aW ?_
  refine aS (t:=20) rfl ?_ ?_
  ·intro bU
   replace bU:=aL bU
   refine br ?_
   refine ax rfl ?_ ?_
   ·intro de
    replace de:=aL de
    refine bD ?_
    refine Rt [] results36 ?_
    refine⟨?_,rfl⟩
    unfold bQ
    repeat' split
    all_goals first|rfl|(exfalso;omega)
   intro de
   replace de:=aL de
   refine bL ?_
   refine Rt [] results36 ?_
   refine⟨?_,rfl⟩
   unfold bQ
   repeat' split
   all_goals first|rfl|(exfalso;omega)
  intro bU
  replace bU:=aL bU
  refine gP ?_
  refine Rt [] results36 ?_
  refine⟨?_,rfl⟩
  unfold bQ
  repeat' split
  all_goals first|rfl|(exfalso;omega)
 intro dq
 replace dq:=aL dq
 refine bA ?_
 refine aS (t:=20) rfl ?_ ?_
 ·intro cX
  replace cX:=aL cX
  refine br ?_
  refine ax rfl ?_ ?_
  ·intro bU
   replace bU:=aL bU
   refine bD ?_
   refine Rt [] results36 ?_
   refine⟨?_,rfl⟩
   unfold bQ
   repeat' split
   all_goals first|rfl|(exfalso;omega)
  intro bU
  replace bU:=aL bU
  refine bL ?_
  refine Rt [] results36 ?_
  refine⟨?_,rfl⟩
  unfold bQ
  repeat' split
  all_goals first|rfl|(exfalso;omega)
 intro cX
 replace cX:=aL cX
 refine gP ?_
 refine Rt [] results36 ?_
 refine⟨?_,rfl⟩
 unfold bQ
 repeat' split
 all_goals first|rfl|(exfalso;omega)
theorem Zw (c:dB)(ka:Option Addr)(kc:Nat)(da:Option Addr)(dc:Nat)(mv:Value)(j8:mv.oneCell'=true)(Uw:c.keys.length<281474976710656)(hk:∀k∈c.keys,k.length<281474976710656):
  aF aaa 33 [.agg (dZ c ka kc da dc mv).toArray] (λh=>eB h ka (fU c.keys)) [] (λw H=>w= .bool (yi c)∧H= []):=by
 have hb:yi c=(decide (bQ c.verb<0∨0<bQ c.verb∧c.keys.length=0∨bQ c.verb=1∧1<c.keys.length) ||(decide (0<bQ c.verb)&&c.keys.any λk=> !dV k) ||decide (5≤c.verb∧c.verb≤10∧4294967295<c.fl)):=rfl
 refine af func33 rfl ntmps33 rfl ?_
 intro F hr
 refine aA ?_
 refine Lp (oB λb1=> ?_)
 refine br ?_
 refine zl T.Vu (Av c.verb) .nil (λ_ _ _=>trivial) ?_
 generalize hn:bQ c.verb=n at*
 have hn4:n= -1∨n=0∨n=1∨n=2:=by
  rw[←hn];unfold bQ
  repeat' split
  all_goals omega
 have fin:decide (n<0∨0<n∧c.keys.length=0∨n=1∧1<c.keys.length)=true→yi c=true:=λh=>by rw[hb,h];rfl
 refine bf ?_
 refine aw ?_
 refine dJ (ι:=Unit) [9,10,11,12,13,14,15,16,17,18,19,20,21,22,23,24,25,26,27,28,29,30,2] (λu=>¬(n<0∨0<n∧c.keys.length=0∨n=1∧1<c.keys.length)) (λu=> []) (λu=> [ag b1 47 (dZ c ka kc da dc mv)]) ?_ ?_
 ·refine iu ?_
  refine bq ?_
  refine aS (t:=11) rfl ?_ ?_
  ·intro cY
   replace cY:=aL cY
   refine bW ?_
   refine bD ?_
   refine Rt [] results33 ?_
   exact⟨congrArg Value.bool (fin (decide_eq_true (by omega))).symm,rfl⟩
  intro cY
  replace cY:=aL cY
  refine bq ?_
  refine aS (t:=14) rfl ?_ ?_
  ·intro dq
   replace dq:=aL dq
   refine bL ?_
   refine aS (t:=21) rfl ?_ ?_
   ·intro cX
    replace cX:=aL cX
    refine qY ?_
    refine Rt [] results33 ?_
    exact⟨congrArg Value.bool (fin (decide_eq_true (by omega))).symm,rfl⟩
   intro cX
   replace cX:=aL cX
   refine bq ?_
   refine aS (t:=24) rfl ?_ ?_
   ·intro bU
    replace bU:=aL bU
    refine bL ?_
    refine ax rfl ?_ ?_
    ·intro de
     replace de:=aL de
     refine br ?_
     refine Rt [] results33 ?_
     exact⟨congrArg Value.bool (fin (decide_eq_true (by omega))).symm,rfl⟩
    intro de
    replace de:=aL de
    refine aA ?_
    refine Me (()) (by omega)
   intro bU
   replace bU:=aL bU
   refine dg ?_
   refine Me (()) (by omega)
  intro dq
  replace dq:=aL dq
  refine bA ?_
  refine aS (t:=24) rfl ?_ ?_
  ·intro cX
   replace cX:=aL cX
   refine bL ?_
   refine ax rfl ?_ ?_
   ·intro bU
    replace bU:=aL bU
    refine br ?_
    refine Rt [] results33 ?_
    exact⟨congrArg Value.bool (fin (decide_eq_true (by omega))).symm,rfl⟩
   intro bU
   replace bU:=aL bU
   refine aA ?_
   refine Me (()) (by omega)
  intro cX
  replace cX:=aL cX
  refine dg ?_
  refine Me (()) (by omega)
 rintro u hI
 have cX:yi c=((decide (0<n)&&c.keys.any λk=> !dV k) ||decide (5≤c.verb∧c.verb≤10∧4294967295<c.fl)):=by rw[hb,decide_eq_false hI,afG]
 refine aw ?_
 refine dJ (ι:=Unit) [31,32,33,34,35,36,37,38,39,5,40,41,42,43,2,44] (λu=>(decide (0<n)&&c.keys.any λk=> !dV k)=false) (λu=> []) (λu=> [ag b1 47 (dZ c ka kc da dc mv)]) ?_ ?_
 ·refine iu ?_
  refine bq ?_
  by_cases hp:0<n
  ·refine fB ?_ (e:=by exact decide_eq_true hp)
   refine bL ?_
   refine Lo (ι:=Nat) [37,38,39,5,40,41,42,43,2,44,36] (λk=>k≤c.keys.length∧∀x∈c.keys.take k,dV x=true) (λk=> [(36, .int .i64 (k:Int))]) (λk=> [ag b1 47 (dZ c ka kc da dc mv)]) (λk=>c.keys.length-k) (0) ⟨aay _,by simp⟩ ?_
   rintro k hI
   obtain⟨hk1,sP⟩:=hI
   by_cases cB:k<c.keys.length
   ·have B5:=tm c.keys k cB
    have Cp:=hk _ (aam cB)
    have Ur:ka.isSome=true:=by obtain⟨ad,e,_⟩:=hr k _ B5;rw[e];rfl
    refine bq ?_
    refine aw ?_
    refine fB ?_
    refine br ?_
    refine Li (Ix T.qa) ?_
    refine br ?_
    refine Lp (zA T.rY T.j6 T.oI λkb kcc pL=> ?_)
    refine zl T.Vp (AX (some ⟨kb,0,none⟩) kcc _ c.keys[k] rfl (by omega)) .nil (λh le aq=>bB (aq.nth 0 rfl)) ?_
    by_cases hg:dV c.keys[k]=true
    ·rw[hg]
     refine dg ?_
     refine aG ?_
     refine Ro (k+1) (⟨cB,λx hx=>(by rw[adX,aac cB,List.mem_append]at hx;rcases hx with hx|hx;exact sP x hx;obtain rfl:x=c.keys[k]:=(by simpa using hx);exact hg)⟩) (by omega)
    have hg2:dV c.keys[k]=false:=by simpa using hg
    rw[hg2]
    refine eC ?_
    refine Rt [] results33 ?_
    refine⟨congrArg Value.bool ?_,rfl⟩
    have:(c.keys.any λk=> !dV k)=true:=List.any_eq_true.2 ⟨_,aam cB,by rw[hg2];rfl⟩
    rw[cX,this,decide_eq_true hp];rfl
   refine iu ?_
   refine bf ?_
   refine aw ?_
   refine dm ?_
   refine aW ?_
   refine Me (()) ((by(have pO:k=c.keys.length:=by omega);rw[pO,aeG]at sP;rw[Bool.and_eq_false_iff];right;rw[List.any_eq_false];intro x hx;rw[sP x hx];decide))
  refine dm ?_ (e:=by exact decide_eq_false hp)
  refine aA ?_
  refine Me (()) ((by rw[decide_eq_false hp];rfl))
 rintro u hI
 rw[hI,afG]at cX
 refine br ?_
 refine aS (t:=48) rfl ?_ ?_
 ·intro cY
  replace cY:=aL cY
  refine br ?_
  refine aS (t:=53) rfl ?_ ?_
  ·intro dq
   replace dq:=aL dq
   refine bL ?_
   refine Rt [] results33 ?_
   refine⟨congrArg Value.bool ?_,rfl⟩
   rw[cX]
   first
    |exact decide_eq_decide.2 (by omega)
    |exact(decide_eq_false (by omega)).symm
  intro dq
  replace dq:=aL dq
  refine bL ?_
  refine Rt [] results33 ?_
  refine⟨congrArg Value.bool ?_,rfl⟩
  rw[cX]
  first
   |exact decide_eq_decide.2 (by omega)
   |exact(decide_eq_false (by omega)).symm
 intro cY
 replace cY:=aL cY
 refine eC ?_
 refine Rt [] results33 ?_
 refine⟨congrArg Value.bool ?_,rfl⟩
 rw[cX]
 first
  |exact decide_eq_decide.2 (by omega)
  |exact(decide_eq_false (by omega)).symm
end Go.Proofs.YtdolmecackmjdaaGreatDoor
namespace Go.cV
open Go
theorem aF.frP{P:Program}{f:FuncId}{args:List Value}{pre ui:Hp→Prop}{H As R:List aa}{T:Value→List aa→Prop}(h:aF P f args pre As T)(dG:iI H As R)(hp:∀k k0,Le k0 k→ui k0→gw R k→pre k):
  aF P f args ui H (λv H'=>∃H0,T v H0∧H'=H0++R):=by
 intro F w hF s
 obtain⟨a1,a2,a3,fr,hh,st,hl,tZ⟩:=s
 obtain⟨h1,h2,d12,l1,l2,s1,s2⟩:=bx (dG.out _ st)
 have wV:bO h2 F.h:=tZ.left l2
 let F':dy:={F with h:=fZ h2 F.h}
 have iH:Le F.h F'.h:=aU wV
 have iq:Le h2 F'.h:=a8 _ _
 have Cf:St F' As w:=⟨a1,a2,a3,bS (l2.trans hl) fr,h1,s1,l1.trans hl,(bO.fZ d12.symm (tZ.left l1).symm).symm⟩
 refine(h F' w (hp _ _ iH hF (bV s2 iq)) Cf).mono ?_
 rintro e w' ⟨v,H',rfl,hT,sw⟩
 obtain⟨b1,b2,b3,uc,Cr,st2,Cq,kW⟩:=sw
 exact⟨v,_,rfl,⟨H',hT,rfl⟩,b1,b2,b3,iH.trans uc,fZ Cr h2,bG st2 s2 (kW.right iq),bS Cq (iq.trans uc),bO.fZ (kW.right iH) wV⟩
end Go.cV
namespace Go.Proofs.YtdolmecackmjdaaGreatDoor
open Go Go.cV Go.Proofs.YtdolmecackmjdaaGreatDoor.Cs
def aaP (v:Sv):List Value:= [.int .i64 v.c.ao, .int .i64 v.c.cP, .int .i64 v.c.gA, .int .i64 v.c.dE, .int .i64 v.c.lim, .int .i64 v.c.hot, .int .i64 v.c.warm, .int .i64 v.p.b, .int .i64 v.p.l, .int .i64 v.p.c, .int .i64 v.p.m, .int .u64 (v.aO:Int), .int .i64 (v.fI:Int), .int .i64 v.mt.dr, .int .i64 v.mt.re, .int .i64 v.mt.bu, .int .i64 v.mt.li, .int .i64 v.mt.lo, .int .i64 v.mt.cr, .int .i64 v.mt.mv]
def ya (y:Sy)(v:Sv):List Value:= .pointer (some ⟨y.b,0,none⟩):: .pointer (some ⟨y.ck,0,none⟩):: .pointer (some ⟨y.t,0,none⟩):: .pointer (some ⟨y.lu,0,none⟩):: .pointer (some ⟨y.wh,0,none⟩):: .pointer (some ⟨y.cr,0,none⟩):: .pointer (some ⟨y.mo,0,none⟩):: .pointer (some ⟨y.q,0,none⟩)::aaP v
def QO (z:Ly)(B:Bx)(M:Mo):List aa:=
 [Cl z.y.b B.C,ag z.y.t 145 (eT z.y.b B.W B.ty),ag B.ty.nk 163 (aC (au B.W.nb)),jd B.ty.ok 163 (aC (au B.W.ob)),ag z.y.q 139 (fj z.y.b z.qb B.C.ae.length),ag z.qb 327 (M.Q.flatMap (dR B.C)),gu z.y.cr z.y.q z.y.wh B.C.ae.length (bo z.s) (bn z.s) B.C M.x,Wl z.y.wh B.E M.tn,
  ki z.y.ck M.k,iW z.y.lu z.y.b z.y.q z.hot z.warm,mG z.y.mo z.y.b z.ub (bo z.s) (bn z.s) (bT z.s) M.m,mN z.ub M.m,kF M]
theorem tW (z:Ly)(B:Bx)(M:Mo):eX (fk z B M) (gr z.s z.y (gd M.v)) (QO z B M):=
 .there (.there (.there (.there (.there (.there (.there (.there .here)))))))
theorem qv{z:Ly}{M:Mo}{h:Hp}(s:SH z M h):∃B,bF B M∧ai (gr z.s z.y (gd M.v)::QO z B M) h:=by
 obtain⟨B,O,t⟩:=s
 exact⟨B,O,(tW z B M).out _ t⟩
theorem AF{z:Ly}{M:Mo}(h:Hp)(s:SH z M h)(i:Nat)(v:Value)(e:(ya z.y M.v++ [.slice M.v.wa M.v.wn M.v.wc])[i]?=some v):dI h ⟨z.s,i,none⟩=some v:=by
 obtain⟨B,O,t⟩:=qv s
 obtain⟨h1,h2,_,l1,_,a,_⟩:=t
 exact cm l1 (eR a e)
instance adf{z:Ly}{M:Mo}:Cells (SH z M) z.s (ya z.y M.v++ [.slice M.v.wa M.v.wn M.v.wc]):=⟨λh s i v e=>AF h s i v e⟩
instance ade{z:Ly}{M:Mo}:Cells (SW z M) z.s (ya z.y M.v):=⟨λh s i v e=>by
 obtain⟨w,s⟩:=s
 refine AF h s i v ?_
 rw[show(M.aD w.1 w.2).v.wa=w.1 from rfl]
 exact(List.getElem?_append_left (List.getElem?_eq_some_iff.1 e).1).trans e⟩
theorem mZ{z:Ly}{M:Mo}{w:Sv}{i:Nat}{v:Value}(hO:∀B,bF B M→bF B {M with v:=w})(hw:w.wa=M.v.wa∧w.wc=M.v.wc)(hi:i<29)(hc:(jZ z.y (gd M.v)).set i v=jZ z.y (gd w)):oX (SH z M) z.s i v (SH z {M with v:=w}):=⟨λh s=>by
 obtain⟨B,O,t⟩:=qv s
 refine⟨_,_,QO z B M,(by simpa[jZ,gd]using hi),t,λk sk=>⟨B,hO B O, ?_⟩⟩
 rw[hc]at sk
 have h1:QO z B M=QO z B {M with v:=w}:=by
  unfold QO kF
  rw[hw.1,hw.2]
 rw[h1]at sk
 exact(tW z B {M with v:=w}).back _ sk⟩
theorem Lj{z:Ly}{M N:Mo}{i:Nat}{v:Value}(h:∀a c,oX (SH z (M.aD a c)) z.s i v (SH z (N.aD a c))):oX (SW z M) z.s i v (SW z N):=⟨λk s=>by
 obtain⟨w,s⟩:=s
 obtain⟨e,cs,R,hi,t,back⟩:=(h w.1 w.2).cut k s
 exact⟨e,cs,R,hi,t,λk2 s2=>⟨w,back k2 s2⟩⟩⟩
instance Xh{z:Ly}{M:Mo}{i:Nat}:oX (SH z M) z.s 19 (.int .u64 (i:Int)) (SH z (M.kG i)):=mZ (λ_ O=>O.kG i) ⟨rfl,rfl⟩ (by decide) rfl
instance sh_dr{z:Ly}{M:Mo}{x:Int}:oX (SH z M) z.s 21 (.int .i64 x) (SH z (M.aV {M.v.mt with dr:=x})):=mZ (λ_ O=>O.aV _) ⟨rfl,rfl⟩ (by decide) rfl
instance sh_re{z:Ly}{M:Mo}{x:Int}:oX (SH z M) z.s 22 (.int .i64 x) (SH z (M.aV {M.v.mt with re:=x})):=mZ (λ_ O=>O.aV _) ⟨rfl,rfl⟩ (by decide) rfl
instance sh_bu{z:Ly}{M:Mo}{x:Int}:oX (SH z M) z.s 23 (.int .i64 x) (SH z (M.aV {M.v.mt with bu:=x})):=mZ (λ_ O=>O.aV _) ⟨rfl,rfl⟩ (by decide) rfl
instance sh_li{z:Ly}{M:Mo}{x:Int}:oX (SH z M) z.s 24 (.int .i64 x) (SH z (M.aV {M.v.mt with li:=x})):=mZ (λ_ O=>O.aV _) ⟨rfl,rfl⟩ (by decide) rfl
instance sh_lo{z:Ly}{M:Mo}{x:Int}:oX (SH z M) z.s 25 (.int .i64 x) (SH z (M.aV {M.v.mt with lo:=x})):=mZ (λ_ O=>O.aV _) ⟨rfl,rfl⟩ (by decide) rfl
instance abQ{z:Ly}{M:Mo}{x:Int}:oX (SH z M) z.s 26 (.int .i64 x) (SH z (M.aV {M.v.mt with cr:=x})):=mZ (λ_ O=>O.aV _) ⟨rfl,rfl⟩ (by decide) rfl
instance sh_mv{z:Ly}{M:Mo}{x:Int}:oX (SH z M) z.s 27 (.int .i64 x) (SH z (M.aV {M.v.mt with mv:=x})):=mZ (λ_ O=>O.aV _) ⟨rfl,rfl⟩ (by decide) rfl
instance sw_iss{z:Ly}{M:Mo}{i:Nat}:oX (SW z M) z.s 19 (.int .u64 (i:Int)) (SW z (M.kG i)):=Lj λa c=>Xh (M:=M.aD a c)
instance sw_cr{z:Ly}{M:Mo}{x:Int}:oX (SW z M) z.s 26 (.int .i64 x) (SW z (M.aV {M.v.mt with cr:=x})):=Lj λa c=>abQ (M:=M.aD a c)
theorem R4{P:Program}{f:FuncId}{args:List Value}{z:Ly}{M:Mo}{ui:Hp→Prop}{T:Value→List aa→Prop}(h:∀B,bF B M→∃pre,aF P f args pre [] T∧∀k k0,Le k0 k→ui k0→gw (fk z B M) k→pre k):
  aF P f args ui [SH z M] (λv H=>∃H0,T v H0∧H=H0++ [SH z M]):=
 eF λB O=>by
  obtain⟨pre,g,hp⟩:=h B O
  rw[adR]
  refine(g.frP (H:=fk z B M) (lZ [] _) hp).out ?_
  rintro v H' ⟨H0,t,rfl⟩
  refine⟨H0++ [SH z M],⟨H0,t,rfl⟩,λk s=> ?_⟩
  obtain⟨h1,h2,d,l1,l2,s1,s2⟩:=bx s
  exact nP (A:=SH z M) (B:=SH z M) d l1 l2 s1 (xn ⟨B,O,s2⟩)
theorem Fh{P:Program}{f:FuncId}{args:List Value}{z:Ly}{M:Mo}{ui:Hp→Prop}{T:Value→List aa→Prop}(h:∀a c B,bF B (M.aD a c)→∃pre,aF P f args pre [] T∧∀k k0,Le k0 k→ui k0→gw (fk z B (M.aD a c)) k→pre k):
  aF P f args ui [SW z M] (λv H=>∃H0,T v H0∧H=H0++ [SW z M]):=
 ti λa c=>(R4 (h a c)).out λv H' ⟨H0,t,e⟩=>⟨H0++ [SW z M],⟨H0,t,rfl⟩,by
  subst e
  intro k s
  obtain⟨h1,h2,d,l1,l2,s1,s2⟩:=bx s
  obtain⟨h3,_,_,l3,_,q,_⟩:=s2
  exact nP (A:=SW z M) (B:=SW z M) (d.right l3) l1 (l3.trans l2) s1 (xn ⟨(a,c),q⟩)⟩
theorem ll{P:Program}{f:FuncId}{args:List Value}{z:Ly}{M:Mo}{ui:Hp→Prop}{T:Value→Prop}(h:∀a c B,bF B (M.aD a c)→∃pre,aF P f args pre [] (λv H=>T v∧H= [])∧∀k k0,Le k0 k→ui k0→gw (fk z B (M.aD a c)) k→pre k):
  aF P f args ui [SW z M] (λv H=>T v∧H= [SW z M]):=
 (Fh h).out λv H' ⟨H0,⟨t,e0⟩,e⟩=>⟨[SW z M],⟨t,rfl⟩,by subst e0;subst e;exact λk s=>s⟩
theorem Hk (z:Ly)(M:Mo)(a:Option Addr)(c m:Nat)(l:List UInt8)(hm:m=l.length)(hl:l.length<281474976710656):
  aF aaa 39 [.pointer (some ⟨z.y.t,0,none⟩), .slice a m c] (λh=>eB h a (ak l)) [SW z M] (λv H=>v= .tuple #[.int .u64 (ua M.C (M.find l):Int), .bool (M.find l).isSome]∧H= [SW z M]):=
 ll λwa wc B O=>by
  have h:=lj z.y.t z.y.b B.C O.k B.W B.ty O.t O.ty a m c l hm hl
  rw[O.KU,Wj O]at h
  exact⟨_,h,λk k0 le g aq=>⟨aq.nth 0 rfl,⟨aq.nth 1 rfl,aq.nth 2 rfl,aq.nth 3 rfl,trivial⟩,g.mono le⟩⟩
theorem RT (z:Ly)(M:Mo)(p:Nat)(hp:M.has p):aF aaa 80 [.pointer (some ⟨z.y.b,0,none⟩), .int .u64 (M.C.hd p:Int)] (λ_=>True) [SW z M] (λv H=>v= .tuple #[.int .i64 (p:Int), .int .i64 (M.C.cl p:Int), .int .i64 0]∧H= [SW z M]):=
 ll λwa wc B O=>by
  have h:=uG z.y.b B.C O.k p (O.qP ((O.al p).2 hp))
  rw[O.hd,show B.C.cl p=M.C.cl p from O.cl p]at h
  exact⟨_,h,λk k0 le h aq=>aq.nth 0 rfl⟩
theorem pA (z:Ly)(M:Mo)(p:Nat)(hp:M.has p):aF aaa 135 [.pointer (some ⟨z.y.b,0,none⟩), .int .u64 (M.C.hd p:Int)] (λ_=>True) [SW z M] (λv H=>v= .tuple #[.int .u64 ((M.it p).tok:Int), .int .i64 0]∧H= [SW z M]):=
 ll λwa wc B O=>by
  have dT:=(O.al p).2 hp
  have h:=xH z.y.b B.C O.k p (O.qP dT) (O.t.it p dT).k0
  rw[O.hd,show rd B.C.A (p+32) 8=(M.it p).tok from(O.iw dT).2.2.1]at h
  exact⟨_,h,λk k0 le h aq=>aq.nth 0 rfl⟩
theorem DS (z:Ly)(M:Mo)(c:Int):aF aaa 62 [.pointer (some ⟨z.y.b,0,none⟩), .int .i64 c] (λ_=>True) [SW z M] (λv H=>v= .int .i64 (ofM M.C c λi=>M.C.sz i:Nat)∧H= [SW z M]):=
 ll λwa wc B O=>by
  have h:=rU z.y.b B.C O.k c
  have e:(ofM B.C c λi=>B.C.sz i)=ofM M.C c λi=>M.C.sz i:=by
   conv=>lhs;rw[O.c]
   rfl
  rw[e]at h
  exact⟨_,h,λk k0 le h aq=>aq.nth 0 rfl⟩
theorem NF (z:Ly)(M:Mo):aF aaa 46 [.pointer (some ⟨z.y.ck,0,none⟩)] (λ_=>True) [SW z M] (λv H=>v= .int .i64 (M.k.now:Int)∧H= [SW z M]):=
 ll λwa wc B O=>⟨_,hJ z.y.ck M.k,λk k0 le h aq=>aq.nth 9 rfl⟩
theorem xl (z:Ly)(M:Mo)(p:Nat)(hp:M.has p):aF aaa 88 [.pointer (some ⟨z.y.b,0,none⟩), .int .u64 (M.C.hd p:Int)] (λ_=>True) [SW z M]
  (λv H=>∃H0,(∃kb vb st,1≤st∧st≤3∧p∈ql M.Q (qi (M.C.cl p) st)∧v= .tuple #[.agg (Ca (.slice (some ⟨kb,0,none⟩) (M.it p).key.length (M.it p).key.length) (.slice (some ⟨vb,0,none⟩) (M.it p).val.length (M.it p).val.length) (M.it p).fl (M.it p).exp (M.it p).tch (M.it p).tok st (M.it p).cQ).toArray, .int .i64 0]∧
   H0= [own (some ⟨kb,0,none⟩) (M.it p).key.length 5 1 (ak (M.it p).key),own (some ⟨vb,0,none⟩) (M.it p).val.length 5 1 (ak (M.it p).val)])∧H=H0++ [SW z M]):=
 Fh λwa wc B O=>by
  have dT:=(O.al p).2 hp
  obtain⟨f1,f2,f3,f4,f5,f6,f7⟩:=O.iw dT
  rw[show(M.aD wa wc).it p=M.it p from rfl]at f1 f2 f3 f4 f5 f6 f7
  have lk:kl B.C.A p=(M.it p).key.length:=by rw[←f5];exact(cK _ _ _).symm
  have lv:vl B.C.A p=(M.it p).val.length:=by rw[←f6];exact(cK _ _ _).symm
  have iU:∃i,p∈ql M.Q i:=hp
  obtain⟨i,hi⟩:=iU
  have hs:=O.o.st i p hi
  have h:=vq z.y.b B.C O.k p (O.qP dT) (O.t.it p dT)
  rw[O.hd,show rd B.C.A (p+40) 4=(M.it p).fl from f7,show rd B.C.A (p+16) 8=(M.it p).exp from f1,show rd B.C.A (p+24) 8=(M.it p).tch from f2,show rd B.C.A (p+32) 8=(M.it p).tok from f3,show rd B.C.A (p+46) 1=(M.it p).cQ from f4,lk,lv,f5,f6]at h
  refine⟨_,h.out ?_,λk k0 le h aq=>aq.nth 0 rfl⟩
  rintro v H ⟨kb,vb,e1,e2⟩
  refine⟨H,⟨kb,vb,ij B.C.A p,hs.1,hs.2.1, ?_,e1,e2⟩,λ_ s=>s⟩
  have:=hs.2.2
  rw[show B.C.cl p=M.C.cl p from O.cl p]at this
  rw[←this];exact hi
theorem oz{n:Nat}{ds:List Deferred}{F:dy}{K:Act→World→Prop}{σ:aR}{z:Ly}{M:Mo}{H:List aa}(h:∀a c B,bF B (M.aD a c)→G n ds F K σ (SW z M::H)):G n ds F K σ (SW z M::H):=
 xa λa c=>KP λB O=>Ve a c (h a c B O)
theorem bF.hdp{B:Bx}{M:Mo}(O:bF B M){p:Nat}(hp:M.has p):0<M.C.hd p∧M.C.hd p<18446744073709551616:=by
 have h:=bK O.k (O.mH ((O.al p).2 hp))
 rw[O.hd]at h
 obtain⟨h1,h2,h3,h4,h5,h6⟩:=h
 exact⟨by omega,by omega⟩
theorem lp{M N:Mo}{k:List UInt8}{p:Nat}(h:M.meet k=(some p,N)):M.has p∧(M.it p).key=k∧N=M.eJ 0:=by
 unfold Mo.meet at h
 cases hf:M.find k with
 |none=>rw[hf]at h;simp at h
 |some q=>
  rw[hf]at h
  dsimp only at h
  split at h
  ·simp at h
  simp only[Prod.mk.injEq,Option.some.injEq]at h
  obtain⟨rfl,rfl⟩:=h
  obtain⟨h1,h2⟩:=lz hf
  exact⟨h1,h2,rfl⟩
structure eH where
 kind:Nat
 du:List I3
 num:Nat
 s7:List UInt8
def eH.k (n:Nat):eH:=⟨n,[],0,[]⟩
def eH.t (t:List UInt8):eH:=⟨11,[],0,t⟩
def q8 (a:eH):Value:=sU a.kind bc a.num a.s7
def oy (v:Value):Value:= .iface 113 v
theorem vz (z:Ly)(M:Mo)(c:dB)(ka:Option Addr)(kc:Nat)(da:Option Addr)(dc:Nat)(mv:Value)(j8:mv.oneCell'=true)(k:List UInt8)(r:List (List UInt8))(qT:c.keys=k::r)(hk:k.length<281474976710656)(hw:M.iG.length<1073741824):
  Ra aaa 74 [.pointer (some ⟨z.s,0,none⟩), .agg (dZ c ka kc da dc mv).toArray] (λh=>eB h ka (fU c.keys)) [SW z M]
   (λv H=>∃p N,M.meet k=(some p,N)∧v= .int .u64 (M.C.hd p:Int)∧H= [SW z N]) (λv H=>∃N,M.meet k=(none,N)∧v=oy (q8 (.k 4))∧H= [SW z N]):=by
 refine jQ func74 rfl ntmps74 rfl ?_
 intro F hr
 have B5:(fU c.keys)[0]?=some (aT k):=by rw[qT];rfl
 have Ur:ka.isSome=true:=by obtain⟨ad,e,_⟩:=hr 0 _ B5;rw[e];rfl
 have Cp:0<c.keys.length:=by rw[qT];exact afO _
 refine aA ?_
 refine Lp (oB λb1=> ?_)
 refine bf ?_
 refine az (λ_ x=>cT x) ?_
 refine oz λa c B O=> ?_
 refine aW ?_
 refine Li (Ix (j:=0) T.qa) ?_
 refine aA ?_
 refine zl T.Dw (u7 z M k hk hw) (.cons .here .nil) (λ_ _ _=>trivial) ?_
 rcases hm:M.meet k with⟨_|p,N⟩
 ·refine Li As ?_
  refine bA ?_
  refine Li (QN T.fF) ?_
  refine Lp (Qs ?_)
  refine pP [SW z N] ?_
  exact⟨N,rfl,rfl,rfl⟩
 have hp:=O.hdp (lp hm).1
 change 0<M.C.hd p∧_ at hp
 refine bL ?_
 refine dm ?_ (e:=by exact decide_eq_false (by show¬(((M.C.hd p:Nat):Int)=0);omega))
 refine bL ?_
 refine pR ?_
 refine Rt [SW z N] results74 ?_
 exact⟨p,N,rfl,rfl,rfl⟩
def Mo.over (M:Mo)(old:Option Nat)(ov:Bool):Mo:=match old with|some p=>if ov=true then M.bM p else M|none=>M
theorem kO (z:Ly)(M:Mo)(old:Option Nat)(hold:∀p,old=some p→M.has p)(over:Bool)(t:List UInt8):
  Ra aaa 119 [.pointer (some ⟨z.s,0,none⟩), .int .u64 (ua M.C old:Int), .bool over,aT t] (λ_=>True) [SW z M]
   (λ_ _=>False) (λv H=>v=oy (q8 (.t t))∧H= [SW z (M.over old over)]):=by
 refine jQ func119 rfl ntmps119 rfl ?_
 intro F _
 refine oz λa c B O=> ?_
 rcases old with _|p
 ·refine aw ?_
  refine aW ?_
  refine zf 10 ?_ (e:=by rfl)
  refine dh ?_
  refine zl T.qf (fO t) .nil (λ_ _ _=>trivial) ?_
  refine Li (QN T.fF) ?_
  refine Lp (Qs ?_)
  refine pP [SW z M] ?_
  exact⟨rfl,rfl⟩
 have hp:=O.hdp (hold p rfl)
 change 0<M.C.hd p∧_ at hp
 rcases over with _|_
 ·refine aw ?_
  refine aW ?_
  refine zt 10 ?_ (e:=by exact congrArg (!·) (decide_eq_false (by show¬(((M.C.hd p:Nat):Int)=0);omega)))
  refine dh ?_
  refine zl T.qf (fO t) .nil (λ_ _ _=>trivial) ?_
  refine Li (QN T.fF) ?_
  refine Lp (Qs ?_)
  refine pP [SW z M] ?_
  exact⟨rfl,rfl⟩
 refine aw ?_
 refine aW ?_
 refine zt 10 ?_ (e:=by exact congrArg (!·) (decide_eq_false (by show¬(((M.C.hd p:Nat):Int)=0);omega)))
 refine bL ?_
 refine zl T.EY (rB z M p (hold p rfl)) (.cons .here .nil) (λ_ _ _=>trivial) ?_
 refine bq ?_
 refine zl T.qf (fO t) .nil (λ_ _ _=>trivial) ?_
 refine Li (QN T.fF) ?_
 refine Lp (Qs ?_)
 refine pP [SW z (M.bM p)] ?_
 exact⟨rfl,rfl⟩
def aN (verb:Int)(GW:Nat)(old:Option Nat)(tok:Nat→Nat):Nat:=
 if verb=6 then(if old.isSome then 2 else 0)
 else if verb=7∨verb=8∨verb=9 then(if old.isSome then 0 else 2)
 else if verb=10 then(match old with|none=>4|some p=>if tok p=GW then 0 else 3)
 else 0
theorem Ui (z:Ly)(M:Mo)(c:dB)(ka:Option Addr)(kc:Nat)(da:Option Addr)(dc:Nat)(mv:Value)(j8:mv.oneCell'=true)(old:Option Nat)(hold:∀p,old=some p→M.has p):
  Ra aaa 120 [.pointer (some ⟨z.s,0,none⟩), .agg (dZ c ka kc da dc mv).toArray, .int .u64 (ua M.C old:Int)] (λ_=>True) [SW z M]
   (λv H=>aN c.verb c.tok old (λp=>(M.it p).tok)=0∧v= .tuple #[]∧H= [SW z M]) (λv H=>∃n,aN c.verb c.tok old (λp=>(M.it p).tok)=n∧n≠0∧v=oy (q8 (.k n))∧H= [SW z M]):=by
 refine jQ func120 rfl ntmps120 rfl ?_
 intro F _
 refine aA ?_
 refine Lp (oB λb1=> ?_)
 refine aA ?_
 refine az (λ_ x=>cT x) ?_
 refine oz λa b B O=> ?_
 refine bq ?_
 refine aw ?_
 refine dJ (ι:=Nat) [9,10,12,11,13,14,6,16,15,17,18,19,20,22,21,23,24,26,27,28,29,30,31,32,25,33,34,7,8,35,36,37,38] (λn=>aN c.verb c.tok old (λp=>(M.it p).tok)=n) (λn=> [(6, .int .i64 (n:Int))]) (λn=> [SW z M]) ?_ ?_
 ·rcases old with _|p
  ·have e0:ua M.C none=0:=rfl
   refine dg ?_
   refine ax rfl ?_ ?_
   ·intro cY
    replace cY:=aL cY
    refine aW ?_
    refine ax rfl ?_ ?_
    ·intro dq
     replace dq:=aL dq
     refine aW ?_
     refine Me (aN c.verb c.tok _ _) (rfl) (hs:=⟨(by refine congrArg (λq=>some (Value.int .i64 q)) ?_;unfold aN;try dsimp only;(repeat' split)<;>first|rfl|(exfalso;omega)|simp_all),trivial⟩)
    intro dq
    replace dq:=aL dq
    refine bf ?_
    refine Me (aN c.verb c.tok _ _) (rfl) (hs:=⟨(by refine congrArg (λq=>some (Value.int .i64 q)) ?_;unfold aN;try dsimp only;(repeat' split)<;>first|rfl|(exfalso;omega)|simp_all),trivial⟩)
   intro cY
   replace cY:=aL cY
   refine br ?_
   refine ax rfl ?_ ?_
   ·intro dq
    replace dq:=aL dq
    refine bf ?_
    refine ax rfl ?_ ?_
    ·intro cX
     replace cX:=aL cX
     refine aW ?_
     refine ax rfl ?_ ?_
     ·intro bU
      replace bU:=aL bU
      refine aW ?_
      refine Me (aN c.verb c.tok _ _) (rfl) (hs:=⟨(by refine congrArg (λq=>some (Value.int .i64 q)) ?_;unfold aN;try dsimp only;(repeat' split)<;>first|rfl|(exfalso;omega)|simp_all),trivial⟩)
     intro bU
     replace bU:=aL bU
     refine bf ?_
     refine Me (aN c.verb c.tok _ _) (rfl) (hs:=⟨(by refine congrArg (λq=>some (Value.int .i64 q)) ?_;unfold aN;try dsimp only;(repeat' split)<;>first|rfl|(exfalso;omega)|simp_all),trivial⟩)
    intro cX
    replace cX:=aL cX
    refine aW ?_
    refine ax rfl ?_ ?_
    ·intro bU
     replace bU:=aL bU
     refine aW ?_
     refine ax rfl ?_ ?_
     ·intro de
      replace de:=aL de
      refine aW ?_
      refine Me (aN c.verb c.tok _ _) (rfl) (hs:=⟨(by refine congrArg (λq=>some (Value.int .i64 q)) ?_;unfold aN;try dsimp only;(repeat' split)<;>first|rfl|(exfalso;omega)|simp_all),trivial⟩)
     intro de
     replace de:=aL de
     refine bL ?_
     refine zl T.o8 ((show aF aaa 135 [.pointer (some ⟨z.y.b,0,none⟩), .int .u64 (ua M.C none:Int)] (λ_=>True) [SW z M] (λv H=>v= .tuple #[.int .u64 0, .int .i64 0]∧H= [SW z M])from λF w _ _=>by exfalso;omega)) (.cons .here .nil) (λ_ _ _=>trivial) ?_
     refine eC ?_
     refine ax rfl ?_ ?_
     ·intro ig
      replace ig:=aL ig
      refine aW ?_
      refine Me (aN c.verb c.tok _ _) (rfl) (hs:=⟨(by refine congrArg (λq=>some (Value.int .i64 q)) ?_;unfold aN;try dsimp only;(repeat' split)<;>first|rfl|(exfalso;omega)|simp_all),trivial⟩)
     intro ig
     replace ig:=aL ig
     refine bf ?_
     refine Me (aN c.verb c.tok _ _) (rfl) (hs:=⟨(by refine congrArg (λq=>some (Value.int .i64 q)) ?_;unfold aN;try dsimp only;(repeat' split)<;>first|rfl|(exfalso;omega)|simp_all),trivial⟩)
    intro bU
    replace bU:=aL bU
    refine bf ?_
    refine Me (aN c.verb c.tok _ _) (rfl) (hs:=⟨(by refine congrArg (λq=>some (Value.int .i64 q)) ?_;unfold aN;try dsimp only;(repeat' split)<;>first|rfl|(exfalso;omega)|simp_all),trivial⟩)
   intro dq
   replace dq:=aL dq
   refine aW ?_
   refine ax rfl ?_ ?_
   ·intro cX
    replace cX:=aL cX
    refine bf ?_
    refine ax rfl ?_ ?_
    ·intro bU
     replace bU:=aL bU
     refine aW ?_
     refine ax rfl ?_ ?_
     ·intro de
      replace de:=aL de
      refine aW ?_
      refine Me (aN c.verb c.tok _ _) (rfl) (hs:=⟨(by refine congrArg (λq=>some (Value.int .i64 q)) ?_;unfold aN;try dsimp only;(repeat' split)<;>first|rfl|(exfalso;omega)|simp_all),trivial⟩)
     intro de
     replace de:=aL de
     refine bf ?_
     refine Me (aN c.verb c.tok _ _) (rfl) (hs:=⟨(by refine congrArg (λq=>some (Value.int .i64 q)) ?_;unfold aN;try dsimp only;(repeat' split)<;>first|rfl|(exfalso;omega)|simp_all),trivial⟩)
    intro bU
    replace bU:=aL bU
    refine aW ?_
    refine ax rfl ?_ ?_
    ·intro de
     replace de:=aL de
     refine aW ?_
     refine ax rfl ?_ ?_
     ·intro ig
      replace ig:=aL ig
      refine aW ?_
      refine Me (aN c.verb c.tok _ _) (rfl) (hs:=⟨(by refine congrArg (λq=>some (Value.int .i64 q)) ?_;unfold aN;try dsimp only;(repeat' split)<;>first|rfl|(exfalso;omega)|simp_all),trivial⟩)
     intro ig
     replace ig:=aL ig
     refine bL ?_
     refine zl T.o8 ((show aF aaa 135 [.pointer (some ⟨z.y.b,0,none⟩), .int .u64 (ua M.C none:Int)] (λ_=>True) [SW z M] (λv H=>v= .tuple #[.int .u64 0, .int .i64 0]∧H= [SW z M])from λF w _ _=>by exfalso;omega)) (.cons .here .nil) (λ_ _ _=>trivial) ?_
     refine eC ?_
     refine ax rfl ?_ ?_
     ·intro oQ
      replace oQ:=aL oQ
      refine aW ?_
      refine Me (aN c.verb c.tok _ _) (rfl) (hs:=⟨(by refine congrArg (λq=>some (Value.int .i64 q)) ?_;unfold aN;try dsimp only;(repeat' split)<;>first|rfl|(exfalso;omega)|simp_all),trivial⟩)
     intro oQ
     replace oQ:=aL oQ
     refine bf ?_
     refine Me (aN c.verb c.tok _ _) (rfl) (hs:=⟨(by refine congrArg (λq=>some (Value.int .i64 q)) ?_;unfold aN;try dsimp only;(repeat' split)<;>first|rfl|(exfalso;omega)|simp_all),trivial⟩)
    intro de
    replace de:=aL de
    refine bf ?_
    refine Me (aN c.verb c.tok _ _) (rfl) (hs:=⟨(by refine congrArg (λq=>some (Value.int .i64 q)) ?_;unfold aN;try dsimp only;(repeat' split)<;>first|rfl|(exfalso;omega)|simp_all),trivial⟩)
   intro cX
   replace cX:=aL cX
   refine aW ?_
   refine ax rfl ?_ ?_
   ·intro bU
    replace bU:=aL bU
    refine aW ?_
    refine ax rfl ?_ ?_
    ·intro de
     replace de:=aL de
     refine aW ?_
     refine Me (aN c.verb c.tok _ _) (rfl) (hs:=⟨(by refine congrArg (λq=>some (Value.int .i64 q)) ?_;unfold aN;try dsimp only;(repeat' split)<;>first|rfl|(exfalso;omega)|simp_all),trivial⟩)
    intro de
    replace de:=aL de
    refine bf ?_
    refine Me (aN c.verb c.tok _ _) (rfl) (hs:=⟨(by refine congrArg (λq=>some (Value.int .i64 q)) ?_;unfold aN;try dsimp only;(repeat' split)<;>first|rfl|(exfalso;omega)|simp_all),trivial⟩)
   intro bU
   replace bU:=aL bU
   refine aW ?_
   refine ax rfl ?_ ?_
   ·intro de
    replace de:=aL de
    refine aW ?_
    refine ax rfl ?_ ?_
    ·intro ig
     replace ig:=aL ig
     refine aW ?_
     refine Me (aN c.verb c.tok _ _) (rfl) (hs:=⟨(by refine congrArg (λq=>some (Value.int .i64 q)) ?_;unfold aN;try dsimp only;(repeat' split)<;>first|rfl|(exfalso;omega)|simp_all),trivial⟩)
    intro ig
    replace ig:=aL ig
    refine bL ?_
    refine zl T.o8 ((show aF aaa 135 [.pointer (some ⟨z.y.b,0,none⟩), .int .u64 (ua M.C none:Int)] (λ_=>True) [SW z M] (λv H=>v= .tuple #[.int .u64 0, .int .i64 0]∧H= [SW z M])from λF w _ _=>by exfalso;omega)) (.cons .here .nil) (λ_ _ _=>trivial) ?_
    refine eC ?_
    refine ax rfl ?_ ?_
    ·intro oQ
     replace oQ:=aL oQ
     refine aW ?_
     refine Me (aN c.verb c.tok _ _) (rfl) (hs:=⟨(by refine congrArg (λq=>some (Value.int .i64 q)) ?_;unfold aN;try dsimp only;(repeat' split)<;>first|rfl|(exfalso;omega)|simp_all),trivial⟩)
    intro oQ
    replace oQ:=aL oQ
    refine bf ?_
    refine Me (aN c.verb c.tok _ _) (rfl) (hs:=⟨(by refine congrArg (λq=>some (Value.int .i64 q)) ?_;unfold aN;try dsimp only;(repeat' split)<;>first|rfl|(exfalso;omega)|simp_all),trivial⟩)
   intro de
   replace de:=aL de
   refine bf ?_
   refine Me (aN c.verb c.tok _ _) (rfl) (hs:=⟨(by refine congrArg (λq=>some (Value.int .i64 q)) ?_;unfold aN;try dsimp only;(repeat' split)<;>first|rfl|(exfalso;omega)|simp_all),trivial⟩)
  have hp:=O.hdp (hold p rfl)
  have e0:ua M.C (some p)=M.C.hd p:=rfl
  change 0<M.C.hd p∧_ at hp
  refine dg ?_
  refine ax rfl ?_ ?_
  ·intro cY
   replace cY:=aL cY
   refine aW ?_
   refine ax rfl ?_ ?_
   ·intro dq
    replace dq:=aL dq
    refine aW ?_
    refine Me (aN c.verb c.tok _ _) (rfl) (hs:=⟨(by refine congrArg (λq=>some (Value.int .i64 q)) ?_;unfold aN;try dsimp only;(repeat' split)<;>first|rfl|(exfalso;omega)|simp_all),trivial⟩)
   intro dq
   replace dq:=aL dq
   refine bf ?_
   refine Me (aN c.verb c.tok _ _) (rfl) (hs:=⟨(by refine congrArg (λq=>some (Value.int .i64 q)) ?_;unfold aN;try dsimp only;(repeat' split)<;>first|rfl|(exfalso;omega)|simp_all),trivial⟩)
  intro cY
  replace cY:=aL cY
  refine br ?_
  refine ax rfl ?_ ?_
  ·intro dq
   replace dq:=aL dq
   refine bf ?_
   refine ax rfl ?_ ?_
   ·intro cX
    replace cX:=aL cX
    refine aW ?_
    refine ax rfl ?_ ?_
    ·intro bU
     replace bU:=aL bU
     refine aW ?_
     refine Me (aN c.verb c.tok _ _) (rfl) (hs:=⟨(by refine congrArg (λq=>some (Value.int .i64 q)) ?_;unfold aN;try dsimp only;(repeat' split)<;>first|rfl|(exfalso;omega)|simp_all),trivial⟩)
    intro bU
    replace bU:=aL bU
    refine bf ?_
    refine Me (aN c.verb c.tok _ _) (rfl) (hs:=⟨(by refine congrArg (λq=>some (Value.int .i64 q)) ?_;unfold aN;try dsimp only;(repeat' split)<;>first|rfl|(exfalso;omega)|simp_all),trivial⟩)
   intro cX
   replace cX:=aL cX
   refine aW ?_
   refine ax rfl ?_ ?_
   ·intro bU
    replace bU:=aL bU
    refine aW ?_
    refine ax rfl ?_ ?_
    ·intro de
     replace de:=aL de
     refine aW ?_
     refine Me (aN c.verb c.tok _ _) (rfl) (hs:=⟨(by refine congrArg (λq=>some (Value.int .i64 q)) ?_;unfold aN;try dsimp only;(repeat' split)<;>first|rfl|(exfalso;omega)|simp_all),trivial⟩)
    intro de
    replace de:=aL de
    refine bL ?_
    refine zl T.o8 (pA z M p (hold p rfl)) (.cons .here .nil) (λ_ _ _=>trivial) ?_
    refine eC ?_
    refine ax rfl ?_ ?_
    ·intro ig
     replace ig:=aL ig
     refine aW ?_
     refine Me (aN c.verb c.tok _ _) (rfl) (hs:=⟨(by refine congrArg (λq=>some (Value.int .i64 q)) ?_;unfold aN;try dsimp only;(repeat' split)<;>first|rfl|(exfalso;omega)|simp_all),trivial⟩)
    intro ig
    replace ig:=aL ig
    refine bf ?_
    refine Me (aN c.verb c.tok _ _) (rfl) (hs:=⟨(by refine congrArg (λq=>some (Value.int .i64 q)) ?_;unfold aN;try dsimp only;(repeat' split)<;>first|rfl|(exfalso;omega)|simp_all),trivial⟩)
   intro bU
   replace bU:=aL bU
   refine bf ?_
   refine Me (aN c.verb c.tok _ _) (rfl) (hs:=⟨(by refine congrArg (λq=>some (Value.int .i64 q)) ?_;unfold aN;try dsimp only;(repeat' split)<;>first|rfl|(exfalso;omega)|simp_all),trivial⟩)
  intro dq
  replace dq:=aL dq
  refine aW ?_
  refine ax rfl ?_ ?_
  ·intro cX
   replace cX:=aL cX
   refine bf ?_
   refine ax rfl ?_ ?_
   ·intro bU
    replace bU:=aL bU
    refine aW ?_
    refine ax rfl ?_ ?_
    ·intro de
     replace de:=aL de
     refine aW ?_
     refine Me (aN c.verb c.tok _ _) (rfl) (hs:=⟨(by refine congrArg (λq=>some (Value.int .i64 q)) ?_;unfold aN;try dsimp only;(repeat' split)<;>first|rfl|(exfalso;omega)|simp_all),trivial⟩)
    intro de
    replace de:=aL de
    refine bf ?_
    refine Me (aN c.verb c.tok _ _) (rfl) (hs:=⟨(by refine congrArg (λq=>some (Value.int .i64 q)) ?_;unfold aN;try dsimp only;(repeat' split)<;>first|rfl|(exfalso;omega)|simp_all),trivial⟩)
   intro bU
   replace bU:=aL bU
   refine aW ?_
   refine ax rfl ?_ ?_
   ·intro de
    replace de:=aL de
    refine aW ?_
    refine ax rfl ?_ ?_
    ·intro ig
     replace ig:=aL ig
     refine aW ?_
     refine Me (aN c.verb c.tok _ _) (rfl) (hs:=⟨(by refine congrArg (λq=>some (Value.int .i64 q)) ?_;unfold aN;try dsimp only;(repeat' split)<;>first|rfl|(exfalso;omega)|simp_all),trivial⟩)
    intro ig
    replace ig:=aL ig
    refine bL ?_
    refine zl T.o8 (pA z M p (hold p rfl)) (.cons .here .nil) (λ_ _ _=>trivial) ?_
    refine eC ?_
    refine ax rfl ?_ ?_
    ·intro oQ
     replace oQ:=aL oQ
     refine aW ?_
     refine Me (aN c.verb c.tok _ _) (rfl) (hs:=⟨(by refine congrArg (λq=>some (Value.int .i64 q)) ?_;unfold aN;try dsimp only;(repeat' split)<;>first|rfl|(exfalso;omega)|simp_all),trivial⟩)
    intro oQ
    replace oQ:=aL oQ
    refine bf ?_
    refine Me (aN c.verb c.tok _ _) (rfl) (hs:=⟨(by refine congrArg (λq=>some (Value.int .i64 q)) ?_;unfold aN;try dsimp only;(repeat' split)<;>first|rfl|(exfalso;omega)|simp_all),trivial⟩)
   intro de
   replace de:=aL de
   refine bf ?_
   refine Me (aN c.verb c.tok _ _) (rfl) (hs:=⟨(by refine congrArg (λq=>some (Value.int .i64 q)) ?_;unfold aN;try dsimp only;(repeat' split)<;>first|rfl|(exfalso;omega)|simp_all),trivial⟩)
  intro cX
  replace cX:=aL cX
  refine aW ?_
  refine ax rfl ?_ ?_
  ·intro bU
   replace bU:=aL bU
   refine aW ?_
   refine ax rfl ?_ ?_
   ·intro de
    replace de:=aL de
    refine aW ?_
    refine Me (aN c.verb c.tok _ _) (rfl) (hs:=⟨(by refine congrArg (λq=>some (Value.int .i64 q)) ?_;unfold aN;try dsimp only;(repeat' split)<;>first|rfl|(exfalso;omega)|simp_all),trivial⟩)
   intro de
   replace de:=aL de
   refine bf ?_
   refine Me (aN c.verb c.tok _ _) (rfl) (hs:=⟨(by refine congrArg (λq=>some (Value.int .i64 q)) ?_;unfold aN;try dsimp only;(repeat' split)<;>first|rfl|(exfalso;omega)|simp_all),trivial⟩)
  intro bU
  replace bU:=aL bU
  refine aW ?_
  refine ax rfl ?_ ?_
  ·intro de
   replace de:=aL de
   refine aW ?_
   refine ax rfl ?_ ?_
   ·intro ig
    replace ig:=aL ig
    refine aW ?_
    refine Me (aN c.verb c.tok _ _) (rfl) (hs:=⟨(by refine congrArg (λq=>some (Value.int .i64 q)) ?_;unfold aN;try dsimp only;(repeat' split)<;>first|rfl|(exfalso;omega)|simp_all),trivial⟩)
   intro ig
   replace ig:=aL ig
   refine bL ?_
   refine zl T.o8 (pA z M p (hold p rfl)) (.cons .here .nil) (λ_ _ _=>trivial) ?_
   refine eC ?_
   refine ax rfl ?_ ?_
   ·intro oQ
    replace oQ:=aL oQ
    refine aW ?_
    refine Me (aN c.verb c.tok _ _) (rfl) (hs:=⟨(by refine congrArg (λq=>some (Value.int .i64 q)) ?_;unfold aN;try dsimp only;(repeat' split)<;>first|rfl|(exfalso;omega)|simp_all),trivial⟩)
   intro oQ
   replace oQ:=aL oQ
   refine bf ?_
   refine Me (aN c.verb c.tok _ _) (rfl) (hs:=⟨(by refine congrArg (λq=>some (Value.int .i64 q)) ?_;unfold aN;try dsimp only;(repeat' split)<;>first|rfl|(exfalso;omega)|simp_all),trivial⟩)
  intro de
  replace de:=aL de
  refine bf ?_
  refine Me (aN c.verb c.tok _ _) (rfl) (hs:=⟨(by refine congrArg (λq=>some (Value.int .i64 q)) ?_;unfold aN;try dsimp only;(repeat' split)<;>first|rfl|(exfalso;omega)|simp_all),trivial⟩)
 rintro n hI
 refine aW ?_
 by_cases hn:n=0
 ·refine dm ?_ (e:=by exact congrArg (!·) (decide_eq_true (by omega)))
  refine aA ?_
  refine pN ?_
  refine jA [SW z M] results120 ?_
  exact⟨hI.trans hn,rfl,rfl⟩
 refine fB ?_ (e:=by exact congrArg (!·) (decide_eq_false (by omega)))
 refine aW ?_
 refine Li (QN T.fF) ?_
 refine Lp (Qs ?_)
 refine pP [SW z M] ?_
 exact⟨n,hI,hn,rfl,rfl⟩
def Mo.ct (M:Mo)(k:List UInt8)(ex:Int):eH×Mo:=match M.meet k with
 |(none,N)=>(.k 4,N)
 |(some p,N)=>(.k 6,(N.time p (eU N.k.now ex)).jz p)
theorem DM (z:Ly)(M:Mo)(c:dB)(ka:Option Addr)(kc:Nat)(da:Option Addr)(dc:Nat)(mv:Value)(j8:mv.oneCell'=true)(k:List UInt8)(r:List (List UInt8))(qT:c.keys=k::r)(hk:k.length<281474976710656)(hw:M.iG.length<1073741824)(hex:c.ex<9223372036854775808)(rZ:M.tn<18446744073709551615):
  Ra aaa 73 [.pointer (some ⟨z.s,0,none⟩), .agg (dZ c ka kc da dc mv).toArray] (λh=>eB h ka (fU c.keys)) [SW z M]
   (λv H=>∃a N,M.ct k c.ex=(a,N)∧v=q8 a∧H= [SW z N]) (λv H=>∃a N,M.ct k c.ex=(a,N)∧v=oy (q8 a)∧H= [SW z N]):=by
 refine jQ func73 rfl ntmps73 rfl ?_
 intro F hr
 refine aA ?_
 refine Lp (oB λb1=> ?_)
 refine Lp (oA T.kj λb2=> ?_)
 refine aW ?_
 refine Lp (J6 T.KQ rfl rfl (vz z M c ka kc da dc mv j8 k r qT hk hw) (.cons (.there (.there .here)) .nil) (λ_ le _=>hr.mono le) (by rintro v H' ⟨N,hm,rfl,rfl⟩;exact pP [SW z N] ⟨.k 4,N,by unfold Mo.ct;rw[hm],rfl,rfl⟩) ?_)
 rintro v H' ⟨p,N,hm,rfl,rfl⟩
 refine bd ?_
 obtain⟨m1,m2,m3⟩:=lp hm
 have hN:N.has p:=by rw[m3];exact m1
 have hC:M.C=N.C:=by rw[m3];rfl
 rw[hC]
 refine bL ?_
 refine zl T.Dv (py z N p hN c.ex hex (by rw[m3];exact rZ)) (.cons .here .nil) (λ_ _ _=>trivial) ?_
 refine aW ?_
 have ht:=uY z (N.time p (eU N.k.now c.ex)) p hN
 rw[show(N.time p (eU N.k.now c.ex)).C.hd p=N.C.hd p from rfl]at ht
 refine zl T.Du (ht) (.cons .here .nil) (λ_ _ _=>trivial) ?_
 refine bD ?_
 refine pR ?_
 refine EM [SW z ((N.time p (eU N.k.now c.ex)).jz p)] T.cU results73 ?_
 exact⟨.k 6,_,by unfold Mo.ct;rw[hm],rfl,rfl⟩
def ff (l:List (I3×Nat)):List Value:=l.flatMap λx=>lT x.1 (.slice (some ⟨x.2,0,none⟩) x.1.val.length x.1.val.length)
def gp (l:List (I3×Nat)):aa:=aI (l.map λx=>own (some ⟨x.2,0,none⟩) x.1.val.length 5 1 (ak x.1.val))
def Mo.dt (dX:Bool)(ex:Int)(s:List I3×Mo)(k:List UInt8):List I3×Mo:=match s.2.meet k with
 |(none,N)=>(s.1,N)
 |(some p,N)=>let N2:=if dX then N.time p (eU N.k.now ex)else N;(s.1++ [N2.it p],N2.jz p)
def Mo.kX (M:Mo)(verb:Int)(keys:List (List UInt8))(ex:Int):eH×Mo:=let r:=keys.foldl (Mo.dt (decide (verb=3∨verb=4)) ex) ([],M);(⟨9,r.1,0,[]⟩,r.2)
theorem jy (l:List (I3×Nat)):(ff l).length=l.length*9:=by
 unfold ff
 rw[List.length_flatMap]
 rw[show(λx:I3×Nat=>(lT x.1 (.slice (some ⟨x.2,0,none⟩) x.1.val.length x.1.val.length)).length)=λ_=>9 from rfl]
 simp[List.map_const',Nat.mul_comm]
theorem qB{n:Nat}{ds:List Deferred}{F:dy}{K:Act→World→Prop}{σ:aR}{H:List aa}(h:G n ds F K σ (gp []::H)):G n ds F K σ H:=
 az (λk s=>sZ s) h
theorem Jz{l:List (I3×Nat)}{x:I3}{vb:Nat}{H:List aa}{h:Hp}(s:ai (gp l::own (some ⟨vb,0,none⟩) x.val.length 5 1 (ak x.val)::H) h):ai (gp (l++ [(x,vb)])::H) h:=by
 unfold gp at*
 rw[adt]
 exact vQ (M:= [own (some ⟨vb,0,none⟩) x.val.length 5 1 (ak x.val)]) s
theorem Et (l:List (I3×Nat))(x:I3)(vb:Nat):ff (l++ [(x,vb)])=ff l++lT x (.slice (some ⟨vb,0,none⟩) x.val.length x.val.length):=by
 unfold ff
 rw[List.flatMap_append]
 simp
theorem Oo (M:Mo)(k:List UInt8):(M.meet k).2.iG.length=M.iG.length+1∧(M.meet k).2.tn=M.tn:=by
 unfold Mo.meet
 cases M.find k with
 |none=>exact⟨by simp[Mo.eJ],rfl⟩
 |some p=>
  dsimp only
  split
  ·exact⟨by simp[Mo.eJ,Mo.bM],rfl⟩
  exact⟨by simp[Mo.eJ],rfl⟩
theorem yP (M:Mo)(p e:Nat):(M.time p e).tn≤M.tn+1:=by
 unfold Mo.time
 dsimp only
 split<;>omega
theorem TN (z:Ly)(M:Mo)(c:dB)(ka:Option Addr)(kc:Nat)(da:Option Addr)(dc:Nat)(mv:Value)(j8:mv.oneCell'=true)(hk:∀k∈c.keys,k.length<281474976710656)(hn:c.keys.length<1073741824)(hw:M.iG= [])(hex:c.ex<9223372036854775808)(rZ:M.tn+c.keys.length<18446744073709551615):
  aF aaa 71 [.pointer (some ⟨z.s,0,none⟩), .agg (dZ c ka kc da dc mv).toArray] (λh=>eB h ka (fU c.keys)) [SW z M]
   (λv H=>∃a N ea ec l,M.kX c.verb c.keys c.ex=(a,N)∧l.map Prod.fst=a.du∧v=sU a.kind (.slice ea l.length ec) a.num a.s7∧H= [own ea ec 49 9 (ff l),gp l,SW z N]):=by
 refine af func71 rfl ntmps71 rfl ?_
 intro F hr
 refine aA ?_
 refine Lp (oB λb1=> ?_)
 refine Lp (oA T.kj λb2=> ?_)
 refine bq ?_
 refine Lp (oA T.kj λb3=> ?_)
 refine bA ?_
 refine dK 49 9 ?_
 refine qB ?_
 refine Lo (ι:=Nat×List (I3×Nat)×Mo×Option Addr×Nat) [14,15,16,7,17,18,19,8,20,21,22,23,24,25,26,27,28,29,30,31,32,33,34,35,36,37,38,39,40,41,42,43,44,45,46,13] (λs=>(s.1≤c.keys.length∧s.2.2.1.iG.length=s.1∧s.2.2.1.tn≤M.tn+s.1∧s.2.1.length≤s.1)∧(c.keys.take s.1).foldl (Mo.dt (decide (c.verb=3∨c.verb=4)) c.ex) ([],M)=(s.2.1.map Prod.fst,s.2.2.1)) (λs=> [(13, .int .i64 (s.1:Int))]) (λs=> [SW z s.2.2.1,ag b1 47 (dZ c ka kc da dc mv),ag b2 41 [.int .i64 0,bc, .int .u64 0,aT [],bc],ag b3 41 [.int .i64 9, .slice s.2.2.2.1 s.2.1.length s.2.2.2.2, .int .u64 0,aT [],bc],own s.2.2.2.1 s.2.2.2.2 49 9 (ff s.2.1),gp s.2.1]) (λs=>c.keys.length-s.1) ((0,[],M,none,0)) ⟨⟨aay _,by rw[hw];rfl,aan _,aan _⟩,rfl⟩ ?_
 rintro⟨i,l,N,ea,ec⟩ hI
 dsimp only at hI⊢
 obtain⟨⟨hi,hwl,hNt,hll⟩,hf⟩:=hI
 by_cases cB:i<c.keys.length
 ·have B5:=tm c.keys i cB
  have Ur:ka.isSome=true:=by obtain⟨ad,e,_⟩:=hr i _ B5;rw[e];rfl
  have Cp:=hk _ (aam cB)
  have QE:(c.keys.take (i+1)).foldl (Mo.dt (decide (c.verb=3∨c.verb=4)) c.ex) ([],M)=Mo.dt (decide (c.verb=3∨c.verb=4)) c.ex (l.map Prod.fst,N) c.keys[i]:=by
   rw[adX,aac cB,afk,hf];rfl
  generalize c.keys[i]=k at*
  refine bq ?_
  refine aw ?_
  refine fB ?_
  refine oz λwa wc B O=> ?_
  refine br ?_
  refine Li (Ix T.qa) ?_
  refine bD ?_
  refine zl T.Dw (u7 z N k Cp (by omega)) (.cons .here .nil) (λ_ _ _=>trivial) ?_
  obtain⟨w1,w2⟩:=Oo N k
  rcases hm:N.meet k with⟨_|p,N1⟩
  ·rw[hm]at w1 w2
   refine oc ?_
   refine aG ?_
   refine Ro ((i+1,l,N1,ea,ec)) (⟨⟨cB,(by dsimp only at*;omega),(by dsimp only at*;omega),(by dsimp only;omega)⟩,(by dsimp only;rw[QE];unfold Mo.dt;dsimp only;rw[hm])⟩) ((by dsimp only;omega))
  rw[hm]at w1 w2
  obtain⟨m1,m2,m3⟩:=lp hm
  have hp:=O.hdp m1
  change 0<N.C.hd p∧_ at hp
  have hN1:N1.has p:=by rw[m3];exact m1
  have hC:N.C=N1.C:=by rw[m3];rfl
  rw[hC]at hp⊢
  refine bL ?_
  refine dm ?_ (e:=by exact decide_eq_false (by show¬(((N1.C.hd p:Nat):Int)=0);omega))
  refine bf ?_
  refine aw ?_
  refine dJ (ι:=Mo) [22,23,24,25,26,27,28,29,30,31,32,33,34] (λN2=>N2=(if decide (c.verb=3∨c.verb=4)=true then N1.time p (eU N1.k.now c.ex)else N1)) (λN2=> []) (λN2=> [SW z N2,ag b1 47 (dZ c ka kc da dc mv),ag b2 41 [.int .i64 0,bc, .int .u64 0,aT [],bc],ag b3 41 [.int .i64 9, .slice ea l.length ec, .int .u64 0,aT [],bc],own ea ec 49 9 (ff l),gp l]) ?_ ?_
  ·refine iu ?_
   refine aW ?_
   refine aS (t:=25) rfl ?_ ?_
   ·intro cY
    replace cY:=aL cY
    refine bI ?_
    refine zl T.Dv (py z N1 p hN1 c.ex hex (by dsimp only at w2;omega)) (.cons .here .nil) (λ_ _ _=>trivial) ?_
    refine aG ?_
    first|refine Me (N1.time p (eU N1.k.now c.ex)) (by rw[if_pos (decide_eq_true (by omega))])|refine Me N1 (by rw[if_neg (by rw[decide_eq_true_eq];omega)])
   intro cY
   replace cY:=aL cY
   refine br ?_
   refine ax rfl ?_ ?_
   ·intro dq
    replace dq:=aL dq
    refine br ?_
    refine zl T.Dv (py z N1 p hN1 c.ex hex (by dsimp only at w2;omega)) (.cons .here .nil) (λ_ _ _=>trivial) ?_
    refine aG ?_
    first|refine Me (N1.time p (eU N1.k.now c.ex)) (by rw[if_pos (decide_eq_true (by omega))])|refine Me N1 (by rw[if_neg (by rw[decide_eq_true_eq];omega)])
   intro dq
   replace dq:=aL dq
   refine aA ?_
   first|refine Me (N1.time p (eU N1.k.now c.ex)) (by rw[if_pos (decide_eq_true (by omega))])|refine Me N1 (by rw[if_neg (by rw[decide_eq_true_eq];omega)])
  rintro N2 hI
  have hN2:N2.has p:=by rw[hI];split<;>exact hN1
  have hC2:N1.C=N2.C:=by rw[hI];split<;>rfl
  have hw2:N2.iG=N1.iG∧N2.tn≤N1.tn+1:=by
   rw[hI];split
   ·exact⟨rfl,yP _ _ _⟩
   exact⟨rfl,Nat.le_succ _⟩
  have hg:Mo.dt (decide (c.verb=3∨c.verb=4)) c.ex (l.map Prod.fst,N) k=(l.map Prod.fst++ [N2.it p],N2.jz p):=by
   unfold Mo.dt;dsimp only;rw[hm,hI]
  rw[hC2]at hp⊢
  refine aw ?_
  refine ik 8 T.mix (.cons (.there (.there (.there .here))) .nil) λF1 je bR aM=> ?_
  obtain⟨q1,_⟩:=bR
  refine aW ?_
  refine Tp (oC T.Vs rfl rfl (xw z N2 p hN2) (.cons .here .nil) (λ_ _ _=>trivial) ?_)
  rintro v H' ⟨vb,rfl,rfl⟩
  refine bd ?_
  refine Tp (oT1 T.VH λb4=> ?_)
  refine Tp (cC T.VH T.ab5 rfl rfl rfl rfl (.there (.there (.there (.there .here)))) (jy l) (rfl) (by simp[lT,Value.oneCell',aT]) (by first|omega|(simp;omega)) (by first|omega|(simp;omega)) rfl λa4 c4 hc4=> ?_)
  refine aA ?_
  refine gO aM ?_
  refine bf ?_
  rw[←Et l (N2.it p) vb,show l.length+1=(l++ [(N2.it p,vb)]).length by simp]
  refine Hh (H':= [gp l,own (some ⟨vb,0,none⟩) (N2.it p).val.length 5 1 (ak (N2.it p).val),SW z N2,ag b1 47 (dZ c ka kc da dc mv),ag b2 41 [.int .i64 0,bc, .int .u64 0,aT [],bc],ag b3 41 [.int .i64 9, .slice a4 (l++ [(N2.it p,vb)]).length c4, .int .u64 0,aT [],bc],own a4 c4 49 9 (ff (l++ [(N2.it p,vb)]))]) ?_
  refine az (λh=>Jz (l:=l)) ?_
  refine bq ?_
  refine zl T.Du (uY z N2 p hN2) (.cons (.there .here) .nil) (λ_ _ _=>trivial) ?_
  refine bD ?_
  refine aG ?_
  dsimp only at w1 w2
  have Uv:(l++ [(N2.it p,vb)]).length≤i+1:=by rw[aal,adB];omega
  have hl3:(l++ [(N2.it p,vb)]).map Prod.fst=l.map Prod.fst++ [N2.it p]:=by rw[adt];rfl
  generalize l++ [(N2.it p,vb)]=l2 at*
  refine Ro ((i+1,l2,N2.jz p,a4,c4)) (⟨⟨cB,(by show N2.iG.length=i+1;rw[hw2.1];omega),(by show N2.tn≤_;omega),Uv⟩,(by dsimp only;rw[QE,hg,hl3])⟩) ((by dsimp only;omega))
 refine iu ?_
 refine bf ?_
 refine aw ?_
 refine dm ?_
 refine bL ?_
 refine Lp (gM T.cU ?_ (h1:=by simp[cR,Value.cells,Value.oneCell',aT,bc]))
 refine bf ?_
 obtain rfl:i=c.keys.length:=by omega
 rw[aeG]at hf
 refine EM [own ea ec 49 9 (ff l),gp l,SW z N] T.cU results71 ?_
 exact⟨_,N,ea,ec,l,by unfold Mo.kX;rw[hf],rfl,rfl,rfl⟩
structure og (M:Mo):Prop where
 k:Ok M.C
 nd:∀i,(ql M.Q i).Nodup
 lv:∀p,M.has p→Live M.C p
 on:M.m.on=true→M.m.pg<M.C.n∧(M.C.pg M.m.pg).own=true∧(M.C.pg M.m.pg).lv=true∧(M.C.pg M.m.pg).cl=M.m.fr
theorem bF.Qv{B:Bx}{M:Mo}(O:bF B M):og M:=by
 refine⟨O.ZI,O.o.nd,λp hp=> ?_,λh=> ?_⟩
 ·have h:=(O.qP ((O.al p).2 hp)).wA M.C.A
  rw[O.c]at h
  exact h
 have h:=O.on h
 rw[O.c]at h
 exact h
structure EL (M N:Mo)(own:Option Nat):Prop where
 it:N.it=M.it
 aO:N.v.aO=M.v.aO
 c:N.v.c=M.v.c
 p:N.v.p=M.v.p
 tn:N.tn=M.tn
 k:N.k=M.k
 w:N.iG=M.iG
 st:N.m.st=M.m.st
 ex:N.ord=M.ord
 sz:N.C.ae=M.C.ae
 own:∀p,own=some p→M.has p→N.has p∧N.C.hd p=M.C.hd p∧N.C.cl p=M.C.cl p
 has:∀q,N.has q→M.has q
theorem EL.refl (M:Mo)(own:Option Nat):EL M M own:=⟨rfl,rfl,rfl,rfl,rfl,rfl,rfl,rfl,rfl,rfl,λ_ _ h=>⟨h,rfl,rfl⟩,λ_ h=>h⟩
theorem EL.trans{M N O:Mo}{own:Option Nat}(a:EL M N own)(b:EL N O own):EL M O own:=
 ⟨b.it.trans a.it,b.aO.trans a.aO,b.c.trans a.c,b.p.trans a.p,b.tn.trans a.tn,b.k.trans a.k,b.w.trans a.w,b.st.trans a.st,b.ex.trans a.ex,b.sz.trans a.sz,λp e h=>by
  obtain⟨h1,h2,h3⟩:=a.own p e h
  obtain⟨h4,h5,h6⟩:=b.own p e h1
  exact⟨h4,h5.trans h2,h6.trans h3⟩,λq h=>a.has q (b.has q h)⟩
theorem Fs{Q:List (List Nat)}{p q:Nat}(nd:∀i,(ql Q i).Nodup):(∃i,q∈ql (gn Q p) i)↔(∃i,q∈ql Q i)∧q≠p:=by
 constructor
 ·rintro⟨i,h⟩
  rw[gU]at h
  exact⟨⟨i,List.mem_of_mem_erase h⟩,λe=>by subst e;exact(List.Nodup.not_mem_erase (nd i)) h⟩
 rintro⟨⟨i,h⟩,ne⟩
 exact⟨i,by rw[gU];exact(List.mem_erase_of_ne ne).2 h⟩
theorem og.bM{M:Mo}(K:og M){p:Nat}(hp:M.has p):og (M.bM p)∧∀own,own≠some p→EL M (M.bM p) own:=by
 have L:=K.lv p hp
 obtain⟨K2,S⟩:=gq K.k L
 have sm:=lr K.k L
 have hh:=λq=>Fs (Q:=M.Q) (p:=p) (q:=q) K.nd
 refine⟨⟨K2,λi=> ?_,λq hq=> ?_,λh=> ?_⟩,λown ne=>⟨rfl,rfl,rfl,rfl,rfl,rfl,rfl,rfl,rfl,S.ae,λq e hq=> ?_,λq hq=>((hh q).1 hq).1⟩⟩
 ·show(ql (gn M.Q p) i).Nodup
  rw[gU];exact(K.nd i).erase p
 ·obtain⟨h1,h2⟩:=(hh q).1 hq
  exact(sm.lv q h2 (K.lv q h1)).1
 ·obtain⟨a,b,c,d⟩:=K.on h
  obtain⟨e1,e2,e3⟩:=qn K.k L M.m.pg
  refine⟨a,e1.trans b,e2.trans c,e3.trans d⟩
 have h2:q≠p:=λg=>ne (by rw[e,g])
 obtain⟨g1,g2,g3⟩:=sm.lv q h2 (K.lv q hq)
 exact⟨(hh q).2 ⟨hq,h2⟩,g2,g3⟩
theorem og.take{M N:Mo}(K:og M){c r:Nat}(hc:c<M.ia)(h:M.take c=some (r,N))(own:Option Nat):og N∧EL M N own∧N.hole=some r∧N.C.cl r=c∧Live N.C r∧¬M.has r∧N={M with C:=N.C,hole:=some r}:=by
 unfold Mo.take at h
 cases ht:M.C.dH c with
 |none=>rw[ht]at h;cases h
 |some x=>
  obtain⟨p,D⟩:=x
  rw[ht]at h
  simp only[Option.some.injEq,Prod.mk.injEq]at h
  obtain⟨rfl,rfl⟩:=h
  have X:=rA K.k hc ht
  refine⟨⟨X.k,K.nd,λq hq=>(X.lv q).2 (.inl (K.lv q hq)),λg=> ?_⟩,⟨rfl,rfl,rfl,rfl,rfl,rfl,rfl,rfl,rfl,X.sz,λq _ hq=>⟨hq,(X.hd q (K.lv q hq)).1,(X.hd q (K.lv q hq)).2⟩,λ_ h=>h⟩,rfl,X.cl,(X.lv p).2 (.inr rfl),λg=>X.no (K.lv p g),rfl⟩
  obtain⟨a,b,c,d⟩:=K.on g
  obtain⟨e1,e2⟩:=X.pg _ b
  refine⟨?_,e1,(X.lf _).trans c,e2.trans d⟩
  show _<D.n
  rw[X.n];exact a
theorem og.mstop{M:Mo}(K:og M)(oK:M.m.on=true)(own:Option Nat):og M.mstop∧EL M M.mstop own:=by
 obtain⟨a,b,c,d⟩:=K.on oK
 obtain⟨K2,S⟩:=uZ K.k a b c
 have iD:=yS K.k a
 have sm:=tE S λj=>by
  rw[iD]
  by_cases e:j=M.m.pg
  ·exact⟨false,by rw[if_pos e,e]⟩
  exact⟨(M.C.pg j).lv,by rw[if_neg e]⟩
 exact⟨⟨K2,K.nd,λq hq=>(sm q).1.2 (K.lv q hq),λe=>by cases e⟩,⟨rfl,rfl,rfl,rfl,rfl,rfl,rfl,rfl,rfl,S.ae,λq _ hq=>⟨hq,(sm q).2⟩,λ_ h=>h⟩⟩
theorem og.mt{M:Mo}(K:og M)(t:Mt)(own:Option Nat):og (M.aV t)∧EL M (M.aV t) own:=⟨⟨K.k,K.nd,K.lv,K.on⟩,⟨rfl,rfl,rfl,rfl,rfl,rfl,rfl,rfl,rfl,rfl,λ_ _ h=>⟨h,rfl,rfl⟩,λ_ h=>h⟩⟩
theorem og.o0{M:Mo}(K:og M)(c:Nat)(own:Option Nat):og (M.gz c)∧EL M (M.gz c) own:=⟨⟨K.k,K.nd,K.lv,K.on⟩,⟨rfl,rfl,rfl,rfl,rfl,rfl,rfl,rfl,rfl,rfl,λ_ _ h=>⟨h,rfl,rfl⟩,λ_ h=>h⟩⟩
structure pd (M N:Mo)(n:Nat)(own o:Option Nat):Prop where
 k:og N
 s:EL M N own
 no:o=none→N.hole=M.hole
 ok:∀r,o=some r→N.hole=some r∧n≤N.C.sz (N.C.cl r)∧Live N.C r∧¬N.has r
theorem Tq{M N:Mo}(K:og M){n c p:Nat}(hc:c<M.ia)(hz:n≤M.C.sz c){own o:Option Nat}(hp:M.has p)(ne:own≠some p)(h:M.last c p=(o,N)):pd M N n own o:=by
 obtain⟨K1,S1⟩:=K.bM hp
 have S1:=S1 own ne
 have n9:c<(M.bM p).ia:=by show c<(M.bM p).C.ae.length;rw[S1.sz];exact hc
 unfold Mo.last at h
 cases ht:(M.bM p).take c with
 |none=>
  rw[ht]at h
  simp only[Prod.mk.injEq]at h
  obtain⟨rfl,rfl⟩:=h
  exact⟨K1,S1,λ_=>rfl,λr e=>by cases e⟩
 |some x=>
  obtain⟨r,D⟩:=x
  rw[ht]at h
  simp only[Prod.mk.injEq]at h
  obtain⟨rfl,rfl⟩:=h
  obtain⟨K2,S2,h1,h2,h3,h4,h5⟩:=K1.take n9 ht own
  refine⟨K2,S1.trans S2,(λe=>by cases e),λr' e=> ?_⟩
  cases e
  refine⟨h1, ?_,h3,λg=>h4 (S2.has _ g)⟩
  rw[h2]
  unfold Cs.sz
  rw[(S1.trans S2).sz];exact hz
theorem Ss{M:Mo}{c p:Nat}{own:Option Nat}(h:(M.pick c own).1=some p):M.has p∧own≠some p:=by
 obtain⟨h1,h2⟩:=N6 h
 exact⟨Sa h1,λe=>h2 e.symm⟩
theorem Bl{M N:Mo}(K:og M){n c:Nat}(hc:c<M.ia)(hz:n≤M.C.sz c){own o:Option Nat}(h:M.oD c own=(o,N)):pd M N n own o:=by
 unfold Mo.oD at h
 obtain⟨K1,S1⟩:=K.mt {M.v.mt with lo:=cJ (M.v.mt.lo+((M.pick c own).2.2:Int))} own
 have aq:=λp=>Ss (M:=M) (c:=c) (p:=p) (own:=own)
 obtain⟨M1,hM1⟩:∃M1,M1=M.aV {M.v.mt with lo:=cJ (M.v.mt.lo+((M.pick c own).2.2:Int))}:=⟨_,rfl⟩
 have hq:M1.Q=M.Q:=by rw[hM1];rfl
 have hC:M1.C=M.C:=by rw[hM1];rfl
 have hh:M1.hole=M.hole:=by rw[hM1];rfl
 rw[←hM1]at h K1 S1
 have Kj:c<M1.ia:=by unfold Mo.ia;rw[hC];exact hc
 have J8:n≤M1.C.sz c:=by rw[hC];exact hz
 have go:∀{M2 N:Mo} {p:Nat} {o:Option Nat},og M2→EL M M2 own→M2.Q=M.Q→M2.C=M.C→M2.hole=M.hole→M.has p→own≠some p→M2.last c p=(o,N)→pd M N n own o:=λK2 S2 hQ2 hC2 hh2 hp ne e=>by
  have R:=Tq K2 (n:=n) (by unfold Mo.ia;rw[hC2];exact hc) (by rw[hC2];exact hz) (own:=own) (by unfold Mo.has;rw[hQ2];exact hp) ne e
  exact⟨R.k,S2.trans R.s,λg=>(R.no g).trans hh2,R.ok⟩
 rcases hp:(M.pick c own).1 with _|p<;>rcases hd:(M.pick c own).2.1 with _|_<;>rw[hp,hd]at h<;>unfold Mo.KV at h
 ·simp only[Prod.mk.injEq]at h
  obtain⟨rfl,rfl⟩:=h
  obtain⟨K2,S2⟩:=K1.o0 c own
  exact⟨K2,S1.trans S2,λ_=>hh,λr e=>by cases e⟩
 ·simp only[Prod.mk.injEq]at h
  obtain⟨rfl,rfl⟩:=h
  exact⟨K1,S1,λ_=>hh,λr e=>by cases e⟩
 ·obtain⟨K2,S2⟩:=K1.o0 c own
  obtain⟨K3,S3⟩:=K2.mt {(M1.gz c).v.mt with dr:=cJ ((M1.gz c).v.mt.dr+1)} own
  exact go K3 ((S1.trans S2).trans S3) hq hC hh (aq p hp).1 (aq p hp).2 h
 obtain⟨K3,S3⟩:=K1.mt {M1.v.mt with re:=cJ (M1.v.mt.re+1)} own
 exact go K3 (S1.trans S3) hq hC hh (aq p hp).1 (aq p hp).2 h
theorem Fg{M N:Mo}(K:og M){n c r:Nat}(hc:c<M.ia)(hz:n≤M.C.sz c){own:Option Nat}(h:M.take c=some (r,N)):pd M N n own (some r):=by
 obtain⟨K2,S2,h1,h2,h3,h4,h5⟩:=K.take hc h own
 refine⟨K2,S2,(λe=>by cases e),λr' e=> ?_⟩
 cases e
 refine⟨h1, ?_,h3,λg=>h4 (S2.has _ g)⟩
 rw[h2]
 unfold Cs.sz
 rw[S2.sz];exact hz
theorem tq{M N:Mo}(K:og M){n:Nat}{own o:Option Nat}(h:M.room n own=(o,N)):pd M N n own o:=by
 unfold Mo.room at h
 cases hf:M.C.ae.findIdx? (λz=>decide (n≤z))with
 |none=>
  rw[hf]at h
  simp only[Prod.mk.injEq]at h
  obtain⟨rfl,rfl⟩:=h
  exact⟨K, .refl _ _,λ_=>rfl,λr e=>by cases e⟩
 |some c=>
  rw[hf]at h
  dsimp only at h
  obtain⟨hc,hz,_⟩:=List.findIdx?_eq_some_iff_getElem.1 hf
  have JR:n≤M.C.sz c:=by
   unfold Cs.sz
   rw[aab,aac hc]
   simpa using hz
  unfold Mo.ux at h
  cases ht:M.take c with
  |some x=>
   obtain⟨r,D⟩:=x
   rw[ht]at h
   simp only[Prod.mk.injEq]at h
   obtain⟨rfl,rfl⟩:=h
   exact Fg K hc JR ht
  |none=>
   rw[ht]at h
   dsimp only at h
   split at h
   ·next g=>
    obtain⟨K1,S1⟩:=K.mstop g.1 own
    have Kj:c<M.mstop.ia:=by show c<M.mstop.C.ae.length;rw[S1.sz];exact hc
    have J8:n≤M.mstop.C.sz c:=by unfold Cs.sz;rw[S1.sz];exact JR
    have fin:∀o,pd M.mstop N n own o→pd M N n own o:=λo R=>⟨R.k,S1.trans R.s,R.no,R.ok⟩
    cases pJ:M.mstop.take c with
    |some x=>
     obtain⟨r,D⟩:=x
     rw[pJ]at h
     simp only[Prod.mk.injEq]at h
     obtain⟨rfl,rfl⟩:=h
     exact fin _ (Fg K1 Kj J8 pJ)
    |none=>
     rw[pJ]at h
     exact fin _ (Bl K1 Kj J8 h)
   exact Bl K hc JR h
theorem LQ (M:Mo)(c p:Nat)(a:Option Addr)(w:Nat):(M.aD a w).last c p=((M.last c p).1,(M.last c p).2.aD a w):=by
 unfold Mo.last
 rw[show(M.aD a w).bM p=(M.bM p).aD a w from rfl,ym]
 cases (M.bM p).take c<;>rfl
theorem Gk (M:Mo)(c:Nat)(own:Option Nat)(a:Option Addr)(w:Nat):(M.aD a w).oD c own=((M.oD c own).1,(M.oD c own).2.aD a w):=by
 unfold Mo.oD
 rw[show(M.aD a w).pick c own=M.pick c own from rfl]
 rcases(M.pick c own).1 with _|p<;>rcases(M.pick c own).2.1 with _|_<;>unfold Mo.KV
 ·rfl
 ·rfl
 ·exact LQ (((M.aV {M.v.mt with lo:=cJ (M.v.mt.lo+((M.pick c own).2.2:Int))}).gz c).aV _) c p a w
 exact LQ ((M.aV {M.v.mt with lo:=cJ (M.v.mt.lo+((M.pick c own).2.2:Int))}).aV _) c p a w
theorem Xz (M:Mo)(n:Nat)(own:Option Nat)(a:Option Addr)(w:Nat):(M.aD a w).room n own=((M.room n own).1,(M.room n own).2.aD a w):=by
 unfold Mo.room
 rw[show(M.aD a w).C=M.C from rfl]
 cases M.C.ae.findIdx? (λz=>decide (n≤z))with
 |none=>rfl
 |some c=>
  dsimp only
  unfold Mo.ux
  rw[ym]
  cases M.take c with
  |some x=>rfl
  |none=>
   dsimp only[Option.map]
   rw[show(M.aD a w).m=M.m from rfl]
   split
   ·rw[show(M.aD a w).mstop=M.mstop.aD a w from rfl,ym]
    cases M.mstop.take c with
    |some x=>rfl
    |none=>exact Gk _ _ _ _ _
   exact Gk _ _ _ _ _
theorem sy (z:Ly)(M:Mo)(hh:M.hole=none)(iU:M.m.st<4611686018427387904)(um:0<M.C.spare)(kn vn:Nat)(hk:1≤kn∧kn≤250)(hv:vn≤1048576)(own:Option Nat)(yf:∀p,own=some p→M.has p):
  aF aaa 117 [.pointer (some ⟨z.s,0,none⟩), .int .i64 (kn:Int), .int .i64 (vn:Int), .int .u64 (ua M.C own:Int)] (λ_=>True) [SW z M]
   (λw H=>w= .int .u64 (ua (M.room (58+kn+vn) own).2.C (M.room (58+kn+vn) own).1:Int)∧H= [SW z (M.room (58+kn+vn) own).2]):=
 ti λa c=>(Hy z (M.aD a c) hh iU um kn vn hk hv own yf).out (by
  rintro v H' ⟨o,N,hr,rfl,rfl⟩
  rw[Xz]at hr
  simp only[Prod.mk.injEq]at hr
  obtain⟨rfl,rfl⟩:=hr
  exact⟨_,⟨rfl,rfl⟩,λk s=>fE a c k s⟩)
theorem AA (z:Ly)(M:Mo)(r:Nat)(hr:M.hole=some r)(old:Option Nat)(k v:List UInt8)(Qw Qm:Nat)(pO:Qw=k.length)(hvl:Qm=v.length)(hold:∀p,old=some p→M.has p∧(M.it p).key=k)(Wc:old=none→M.find k=none)(ka va:Option Addr)(kc vc fl ex mk:Nat)(QC:dV k=true)
  (yg:58+k.length+v.length≤M.C.sz (M.C.cl r)) (zF:fl<4294967296) (hex:ex<9223372036854775808) (tY:mk<16) (qZ:M.v.aO+1<18446744073709551616) (rZ:M.tn<18446744073709551615):
  aF aaa 118 [.pointer (some ⟨z.s,0,none⟩), .int .u64 (M.C.hd r:Int), .int .u64 (ua M.C old:Int), .agg (Ca (.slice ka Qw kc) (.slice va Qm vc) fl ex 0 0 0 mk).toArray] (λh=>eB h ka (ak k)∧eB h va (ak v)) [SW z M]
   (λw H=>w= .tuple #[]∧H= [SW z (M.fA r old ⟨k,v,fl,ex,M.k.now,M.v.aO+1,mk⟩)]):=
 ti λa c=>(R5 z (M.aD a c) r hr old k v Qw Qm pO hvl hold Wc ka va kc vc fl ex mk QC yg zF hex tY qZ rZ).out (by
  rintro w H' ⟨rfl,rfl⟩
  refine⟨_,⟨rfl,rfl⟩,λk' s=>fE a c k' ?_⟩
  rw[show(M.aD a c).fA r old ⟨k,v,fl,ex,(M.aD a c).k.now,(M.aD a c).v.aO+1,mk⟩=(M.fA r old ⟨k,v,fl,ex,M.k.now,M.v.aO+1,mk⟩).aD a c by cases old<;>rfl]at s
  exact s)
def cO:List UInt8:= [111,98,106,101,99,116,32,116,111,111,32,108,97,114,103,101,32,102,111,114,32,99,97,99,104,101]
def gx:List UInt8:= [111,117,116,32,111,102,32,109,101,109,111,114,121,32,115,116,111,114,105,110,103,32,111,98,106,101,99,116]
def Cg (verb:Int):Bool:=decide (verb≠8∧verb≠9)
def Mo.pX (M:Mo)(c:dB)(k:List UInt8)(old:Option Nat):Option (List UInt8×Nat×Nat):=
 if Cg c.verb=true then some (c.data,c.fl,eU M.k.now c.ex)else match old with
 |none=>none
 |some p=>if M.v.c.lim<58+k.length+c.data.length+(M.it p).val.length then none else some (if c.verb=8 then(M.it p).val++c.data else c.data++(M.it p).val,(M.it p).fl,(M.it p).exp)
def Mo.lays (M:Mo)(k:List UInt8)(old:Option Nat)(ov:Bool)(x:List UInt8×Nat×Nat):eH×Mo:=match M.room (58+k.length+x.1.length) old with
 |(none,R)=>(.t gx,R.over old ov)
 |(some r,R)=>(.k 1,R.fA r old ⟨k,x.1,x.2.1,x.2.2,R.k.now,R.v.aO+1,0⟩)
def Mo.iz (M:Mo)(c:dB)(k:List UInt8)(old:Option Nat):eH×Mo:=
 if c.lg=true∨M.v.c.lim<58+k.length+c.data.length then(.t cO,M.over old (Cg c.verb))
 else if aN c.verb c.tok old (λp=>(M.it p).tok)≠0 then(.k (aN c.verb c.tok old (λp=>(M.it p).tok)),M)
 else match M.pX c k old with
  |none=>(.t cO,M)
  |some x=>M.lays k old (Cg c.verb) x
def Mo.cS (M:Mo)(c:dB)(k:List UInt8):eH×Mo:=(M.meet k).2.iz c k (M.meet k).1
theorem bF.kdM{B:Bx}{M:Mo}(O:bF B M){p q:Nat}(hp:M.has p)(hq:M.has q)(e:(M.it p).key=(M.it q).key):p=q:=by
 have h1:=(O.al p).2 hp
 have h2:=(O.al q).2 hq
 refine O.t.kd p h1 q h2 ?_
 rw[(O.iw h1).2.2.2.2.1,(O.iw h2).2.2.2.2.1];exact e
theorem Gg{M:Mo}{k:List UInt8}(h:∀p,M.has p→(M.it p).key≠k):M.find k=none:=by
 unfold Mo.find
 rw[aef]
 intro p hp e
 exact h p (fh.1 hp) (by simpa using e)
theorem SO{M:Mo}{k:List UInt8}(h:M.find k=none){p:Nat}(hp:M.has p):(M.it p).key≠k:=λe=>by
 unfold Mo.find at h
 rw[aef]at h
 exact h p (fh.2 hp) (decide_eq_true e)
theorem ab6{M N:Mo}(nd:∀i,(ql M.Q i).Nodup)(kd:∀p q,M.has p→M.has q→(M.it p).key=(M.it q).key→p=q){k:List UInt8}{old:Option Nat}(h:M.meet k=(old,N)):ua M.C old=ua N.C old∧(∀p,old=some p→N.has p∧(N.it p).key=k)∧(old=none→N.find k=none):=by
 cases old with
 |some p=>
  obtain⟨h1,h2,h3⟩:=lp h
  subst h3
  exact⟨rfl,λq e=>by cases e;exact⟨h1,h2⟩,λe=>by cases e⟩
 |none=>
  refine⟨rfl,λq e=>(by cases e),λ_=> ?_⟩
  unfold Mo.meet at h
  cases hf:M.find k with
  |none=>
   rw[hf]at h
   simp only[Prod.mk.injEq,true_and]at h
   subst h
   exact hf
  |some p=>
   rw[hf]at h
   dsimp only at h
   obtain⟨hp,hk⟩:=lz hf
   split at h
   ·simp only[Prod.mk.injEq,true_and]at h
    subst h
    refine Gg λq hq e=> ?_
    obtain⟨h1,h2⟩:=(Fs nd).1 hq
    exact h2 (kd _ _ h1 hp (e.trans hk.symm))
   simp at h
theorem bF.aaN{B:Bx}{M:Mo}(O:bF B M){p:Nat}(hp:M.has p):(M.it p).val.length≤1048576∧(M.it p).fl<4294967296∧(M.it p).exp<9223372036854775808∧(M.it p).key.length≤250:=by
 have h1:=(O.al p).2 hp
 obtain⟨f1,f2,f3,f4,f5,f6,f7⟩:=O.iw h1
 have I:=O.t.it p h1
 have h2:=((O.mH h1).aX O.k).2.2.1
 have h3:=O.k.toFix.p1
 have h4:=I.fits
 have h5:(M.it p).val.length=vl B.C.A p:=by rw[←f6];exact cK _ _ _
 have h6:QI B.C.A p<256^4:=mU _ _ _
 have h7:ud B.C.A p<9223372036854775808:=I.exp
 have h8:=(fQ (O.lg p h1)).2
 refine⟨by omega,by rw[←f7];exact h6,by rw[←f1];exact h7,h8⟩
theorem inSW{z:Ly}{M:Mo}{h:Hp}(i:In (SW z M) h):In (ki z.y.ck M.k) h:=by
 obtain⟨k,⟨w,B,O,s⟩,l⟩:=i
 have:=(bV (H:=fk z B (M.aD w.1 w.2)) s l).nth 9 rfl
 exact this
theorem jb (z:Ly)(M:Mo):aF aaa 46 [.pointer (some ⟨z.y.ck,0,none⟩)] (In (SW z M)) [] (λv H=>v= .int .i64 (M.k.now:Int)∧H= []):=
 λF w hp s=>hJ z.y.ck M.k F w (inSW hp) s
theorem Hm (z:Ly)(M:Mo)(c:dB)(ka:Option Addr)(kc:Nat)(da:Option Addr)(dc:Nat)(mv:Value)(j8:mv.oneCell'=true)(um:0<M.C.spare)(k:List UInt8)(r:List (List UInt8))(qT:c.keys=k::r)(hk:dV k=true)(hw:M.iG.length<1073741824)(hex:c.ex<9223372036854775808)(zF:c.fl<4294967296)(hda:c.data.length<281474976710656)
  (hh:M.hole=none) (iU:M.m.st<4611686018427387904) (GR:M.v.c.lim≤1048576) (qZ:M.v.aO+1<18446744073709551616) (rZ:M.tn<18446744073709551615):
  Ra aaa 77 [.pointer (some ⟨z.s,0,none⟩), .agg (dZ c ka kc da dc mv).toArray] (λh=>eB h ka (fU c.keys)∧eB h da (ak c.data)) [SW z M]
   (λv H=>∃a N,M.cS c k=(a,N)∧v=q8 a∧H= [SW z N]) (λv H=>∃a N,M.cS c k=(a,N)∧v=oy (q8 a)∧H= [SW z N]):=by
 obtain⟨hk0,U7⟩:=fQ hk
 refine jQ func77 rfl ntmps77 rfl ?_
 rintro F ⟨hr,hd⟩
 have B5:(fU c.keys)[0]?=some (aT k):=by rw[qT];rfl
 have Ur:ka.isSome=true:=by obtain⟨ad,e,_⟩:=hr 0 _ B5;rw[e];rfl
 have Cp:0<c.keys.length:=by rw[qT];exact afO _
 refine aA ?_
 refine Lp (oB λb1=> ?_)
 refine Lp (oA T.kj λb2=> ?_)
 refine aA ?_
 refine Hh (H':= [SW z M,ag b1 47 (dZ c ka kc da dc mv),ag b2 41 [.int .i64 0,bc, .int .u64 0,aT [],bc]]) ?_
 refine oz λwa wc B O=> ?_
 refine bq ?_
 refine Li (Ix (j:=0) T.qa) ?_
 refine bD ?_
 refine zl T.Dw (u7 z M k (by omega) hw) (.cons .here .nil) (λ_ _ _=>trivial) ?_
 rcases hm:M.meet k with⟨old,N⟩
 have VT:M.cS c k=N.iz c k old:=by unfold Mo.cS;rw[hm]
 obtain⟨e1,e2,e3⟩:=ab6 (M:=M) O.o.nd (λp q=>O.kdM) hm
 change ua M.C old=ua N.C old at e1
 change∀p,old=some p→N.has p∧(N.it p).key=k at e2
 change old=none→N.find k=none at e3
 have hNv:N.v.c=M.v.c∧N.v.aO=M.v.aO∧N.tn=M.tn∧N.hole=M.hole∧N.m.st=M.m.st:=by
  unfold Mo.meet at hm
  rcases hf:M.find k with _|p<;>rw[hf]at hm
  ·simp only[Prod.mk.injEq]at hm;obtain⟨_,rfl⟩:=hm;exact⟨rfl,rfl,rfl,rfl,rfl⟩
  dsimp only at hm
  split at hm<;>(simp only[Prod.mk.injEq]at hm;obtain⟨_,rfl⟩:=hm;exact⟨rfl,rfl,rfl,rfl,rfl⟩)
 obtain⟨n1,n2,n3,n4,n5⟩:=hNv
 have hsN:N.C.spare=M.C.spare:=by
  have h:=(Ev.meet M k).g.sp
  rw[hm]at h
  exact h
 dsimp only
 rw[e1]
 have hold:∀p,old=some p→N.has p:=λp e=>(e2 p e).1
 refine oz λwa2 wc2 B2 O2=> ?_
 refine bf ?_
 refine aw ?_
 refine dJ (ι:=Bool) [20,21,22,23,24,25,26,27,7] (λov=>ov=Cg c.verb) (λov=> [(7, .bool ov)]) (λov=> [SW z N,ag b1 47 (dZ c ka kc da dc mv),ag b2 41 [.int .i64 0,bc, .int .u64 0,aT [],bc]]) ?_ ?_
 ·refine fi ?_
  refine aW ?_
  refine aS (t:=23) rfl ?_ ?_
  ·intro cY
   replace cY:=aL cY
   refine br ?_
   refine aG ?_
   refine Me (Cg c.verb) (rfl) (hs:=⟨(by refine congrArg (λq=>some (Value.bool q)) ?_;unfold Cg;rw[afy];simp only[afl,decide_eq_false_iff_not,decide_eq_true_eq,afe,true_iff,false_iff,iff_true,iff_false];try omega),trivial⟩)
  intro cY
  replace cY:=aL cY
  refine br ?_
  refine aG ?_
  refine Me (Cg c.verb) (rfl) (hs:=⟨(by refine congrArg (λq=>some (Value.bool q)) ?_;unfold Cg;rw[afy];simp only[afl,decide_eq_false_iff_not,decide_eq_true_eq,afe,true_iff,false_iff,iff_true,iff_false];try omega),trivial⟩)
 rintro ov hI
 subst hI
 generalize hov:Cg c.verb=ov at*
 have xZ:N.iz c k old=if c.lg=true∨N.v.c.lim<58+k.length+c.data.length then(.t cO,N.over old ov)else if aN c.verb c.tok old (λp=>(N.it p).tok)≠0 then(.k (aN c.verb c.tok old (λp=>(N.it p).tok)),N)else match N.pX c k old with|none=>(.t cO,N)|some x=>N.lays k old ov x:=by unfold Mo.iz;rw[hov]
 have hs4:(c.lg=true∨N.v.c.lim<58+k.length+c.data.length)→M.cS c k=(.t cO,N.over old ov):=λh=>by rw[VT,xZ,if_pos h]
 refine bf ?_
 refine Li (Ls T.rY) ?_
 refine bL ?_
 refine aw ?_
 refine dJ (ι:=Unit) [35,36,37,38,39,40,41,42,43,44,45,46,47,48,49] (λu=>¬(c.lg=true∨N.v.c.lim<58+k.length+c.data.length)) (λu=> []) (λu=> [SW z N,ag b1 47 (dZ c ka kc da dc mv),ag b2 41 [.int .i64 0,bc, .int .u64 0,aT [],bc]]) ?_ ?_
 ·refine iu ?_
  refine bq ?_
  refine aS (t:=37) rfl ?_ ?_
  ·intro cY
   replace cY:=aL cY
   refine fK ?_
   refine Lp (J6 T.Ds rfl rfl (kO z N old hold ov cO) (.cons .here .nil) (λ_ _ _=>trivial) (by rintro v H' ⟨rfl,rfl⟩;exact pP [SW z (N.over old ov)] ⟨.t cO,_,hs4 (by first|exact .inl (by assumption)|exact .inr (by omega)),rfl,rfl⟩) ?_)
   rintro v H' hF
   exact hF.elim
  intro cY
  replace cY:=aL cY
  refine dg ?_
  refine ax rfl ?_ ?_
  ·intro dq
   replace dq:=aL dq
   refine aW ?_
   refine Lp (J6 T.Ds rfl rfl (kO z N old hold ov cO) (.cons .here .nil) (λ_ _ _=>trivial) (by rintro v H' ⟨rfl,rfl⟩;exact pP [SW z (N.over old ov)] ⟨.t cO,_,hs4 (by first|exact .inl (by assumption)|exact .inr (by omega)),rfl,rfl⟩) ?_)
   rintro v H' hF
   exact hF.elim
  intro dq
  replace dq:=aL dq
  refine aA ?_
  refine Me (()) ((by rintro(h|h)<;>first|omega|(simp_all;done)))
 rintro u hI
 rw[if_neg hI]at xZ
 have hle:(58+k.length+c.data.length:Int)≤N.v.c.lim:=by omega
 have hd20:58+k.length+c.data.length≤1048576:=by rw[n1]at hle;omega
 refine aW ?_
 refine Lp (J6 T.YW rfl rfl (Ui z N c ka kc da dc mv j8 old hold) (.cons .here .nil) (λ_ _ _=>trivial) (by rintro v H' ⟨n,hn,hn0,rfl,rfl⟩;exact pP [SW z N] ⟨.k n,N,by rw[VT,xZ,if_pos (by rw[hn];exact hn0),hn],rfl,rfl⟩) ?_)
 rintro v H' ⟨hn,rfl,rfl⟩
 refine bd ?_
 rw[if_neg (by rw[hn];decide)]at xZ
 have Uw:N.k.now≤1099511627776∧1≤N.k.now:=⟨O2.ck.n2,O2.ck.n1⟩
 have wU:=xT N.k.now c.ex Uw.2 Uw.1
 rw[Bf]at wU
 refine aA ?_
 refine aw ?_
 refine dJ (ι:=Nat×Nat×Option Addr×Nat×Nat) [54,55,56,57,58,59,60,61,62,63,64,65,66,67,68,69,70,9] (λs=>True) (λs=> [(9, .pointer (some ⟨s.2.2.2.2,0,none⟩))]) (λs=> [SW z N,ag b1 47 (dZ c ka kc da dc mv),ag b2 41 [.int .i64 0,bc, .int .u64 0,aT [],bc],own (some ⟨s.1,0,none⟩) s.2.1 5 1 (ak k),own s.2.2.1 s.2.2.2.1 5 1 (ak c.data),ag s.2.2.2.2 170 (Ca (.slice (some ⟨s.1,0,none⟩) k.length s.2.1) (.slice s.2.2.1 c.data.length s.2.2.2.1) c.fl (eU N.k.now c.ex) 0 0 0 0)]) ?_ ?_
 ·refine Aj T.mix (.cons .here (.cons .here .nil)) λF1 je bR aM=> ?_
  obtain⟨q1,q2,_⟩:=bR
  refine Dt 0 rfl Mv ?_
  refine Dt 2 rfl (Fa T.A9) ?_
  first
   |refine Dt 3 rfl (Lf T.Ac) ?_
   |refine Dt 3 rfl (x5 T.Ac q1) ?_
  refine Dt 5 rfl (Fa T.Bb) ?_
  first
   |refine Dt 6 rfl (Lf T.ot) ?_
   |refine Dt 6 rfl (x5 T.ot q1) ?_
  refine Dt 7 rfl Mv ?_
  refine Dt 8 rfl Nc ?_
  refine Dt 9 rfl (Fa T.jx) ?_
  refine Dt 10 rfl (Fa T.xR) ?_
  first
   |refine Dt 11 rfl (Lf T.lU) ?_
   |refine Dt 11 rfl (x5 T.lU q1) ?_
  refine Dt 13 rfl (Fa T.Ba) ?_
  first
   |refine Dt 14 rfl (Lf T.dD) ?_
   |refine Dt 14 rfl (x5 T.dD q1) ?_
  refine D3 1 4 17 ?_ ?_ ?_
  ·refine Do rfl (zA T.rY T.j6 T.oI λkb kS pL=> ?_)
   refine aA ?_
   refine D2 4 17 ?_ ?_
   ·refine dK 5 1 ?_
    refine Do rfl (eS T.iL T.qc rfl rfl rfl rfl .here (rfl) (dC (m:=c.data.length) (by simp) (λh le _=>hd.mono (je.trans le))) (by first|exact dQ|(simp[Value.oneCell',aT])) (by first|omega|(simp;omega)) (by first|omega|(simp;omega)) rfl λva vc hvc=> ?_)
    refine aA ?_
    refine D2 12 17 ?_ ?_
    ·refine Do rfl (oC T.gI rfl rfl (jb z N) .nil (λ_ le _=>In.mono q1 le) ?_)
     rintro v H' ⟨rfl,rfl⟩
     refine bd ?_
     refine aA ?_
     refine D2 15 17 ?_ ?_
     ·refine Do rfl (oC T.eO rfl rfl (wU) .nil (λ_ _ _=>trivial) ?_)
      rintro v H' ⟨rfl,rfl⟩
      refine bd ?_
      refine aA ?_
      refine Dt 16 rfl (Bd T.bE T.ed) ?_
      refine Dn 17 ?_
      refine Do rfl (oA T.bE λb3=> ?_)
      refine aA ?_
      refine Dn 18 ?_
      refine Do rfl (gM T.cZ ?_)
      refine aA ?_
      refine bw (by kernel_rfl) aM ?_
      simp only[aas]
      refine Me ((kb,kS,va,vc,b3)) (trivial)
     refine Do rfl (oA T.bE λb4=> ?_)
     refine aA ?_
     refine Dn 15 ?_
     refine Do rfl (oC T.eO rfl rfl (wU) .nil (λ_ _ _=>trivial) ?_)
     rintro v H' ⟨rfl,rfl⟩
     refine bd ?_
     refine aA ?_
     refine Dt 16 rfl (Bd T.bE T.ed) ?_
     refine Dn 18 ?_
     refine Do rfl (gM T.cZ ?_)
     refine aA ?_
     refine bw (by kernel_rfl) aM ?_
     simp only[aas]
     refine Me ((kb,kS,va,vc,b4)) (trivial)
    refine Do rfl (oA T.bE λb5=> ?_)
    refine aA ?_
    refine Dn 12 ?_
    refine Do rfl (oC T.gI rfl rfl (jb z N) .nil (λ_ le _=>In.mono q1 le) ?_)
    rintro v H' ⟨rfl,rfl⟩
    refine bd ?_
    refine aA ?_
    refine Dn 15 ?_
    refine Do rfl (oC T.eO rfl rfl (wU) .nil (λ_ _ _=>trivial) ?_)
    rintro v H' ⟨rfl,rfl⟩
    refine bd ?_
    refine aA ?_
    refine Dt 16 rfl (Bd T.bE T.ed) ?_
    refine Dn 18 ?_
    refine Do rfl (gM T.cZ ?_)
    refine aA ?_
    refine bw (by kernel_rfl) aM ?_
    simp only[aas]
    refine Me ((kb,kS,va,vc,b5)) (trivial)
   refine Do rfl (oA T.bE λb6=> ?_)
   refine aA ?_
   refine dK 5 1 ?_
   refine Dn 4 ?_
   refine Do rfl (eS T.iL T.qc rfl rfl rfl rfl .here (rfl) (dC (m:=c.data.length) (by simp) (λh le _=>hd.mono (je.trans le))) (by first|exact dQ|(simp[Value.oneCell',aT])) (by first|omega|(simp;omega)) (by first|omega|(simp;omega)) rfl λva vc hvc=> ?_)
   refine aA ?_
   refine Dn 12 ?_
   refine Do rfl (oC T.gI rfl rfl (jb z N) .nil (λ_ le _=>In.mono q1 le) ?_)
   rintro v H' ⟨rfl,rfl⟩
   refine bd ?_
   refine aA ?_
   refine Dn 15 ?_
   refine Do rfl (oC T.eO rfl rfl (wU) .nil (λ_ _ _=>trivial) ?_)
   rintro v H' ⟨rfl,rfl⟩
   refine bd ?_
   refine aA ?_
   refine Dt 16 rfl (Bd T.bE T.ed) ?_
   refine Dn 18 ?_
   refine Do rfl (gM T.cZ ?_)
   refine aA ?_
   refine bw (by kernel_rfl) aM ?_
   simp only[aas]
   refine Me ((kb,kS,va,vc,b6)) (trivial)
  ·refine dK 5 1 ?_
   refine Do rfl (eS T.iL T.qc rfl rfl rfl rfl .here (rfl) (dC (m:=c.data.length) (by simp) (λh le _=>hd.mono (je.trans le))) (by first|exact dQ|(simp[Value.oneCell',aT])) (by first|omega|(simp;omega)) (by first|omega|(simp;omega)) rfl λva vc hvc=> ?_)
   refine aA ?_
   refine D3 1 12 17 ?_ ?_ ?_
   ·refine Do rfl (zA T.rY T.j6 T.oI λkb kS pL=> ?_)
    refine aA ?_
    refine D2 12 17 ?_ ?_
    ·refine Do rfl (oC T.gI rfl rfl (jb z N) .nil (λ_ le _=>In.mono q1 le) ?_)
     rintro v H' ⟨rfl,rfl⟩
     refine bd ?_
     refine aA ?_
     refine D2 15 17 ?_ ?_
     ·refine Do rfl (oC T.eO rfl rfl (wU) .nil (λ_ _ _=>trivial) ?_)
      rintro v H' ⟨rfl,rfl⟩
      refine bd ?_
      refine aA ?_
      refine Dt 16 rfl (Bd T.bE T.ed) ?_
      refine Dn 17 ?_
      refine Do rfl (oA T.bE λb7=> ?_)
      refine aA ?_
      refine Dn 18 ?_
      refine Do rfl (gM T.cZ ?_)
      refine aA ?_
      refine bw (by kernel_rfl) aM ?_
      simp only[aas]
      refine Me ((kb,kS,va,vc,b7)) (trivial)
     refine Do rfl (oA T.bE λb8=> ?_)
     refine aA ?_
     refine Dn 15 ?_
     refine Do rfl (oC T.eO rfl rfl (wU) .nil (λ_ _ _=>trivial) ?_)
     rintro v H' ⟨rfl,rfl⟩
     refine bd ?_
     refine aA ?_
     refine Dt 16 rfl (Bd T.bE T.ed) ?_
     refine Dn 18 ?_
     refine Do rfl (gM T.cZ ?_)
     refine aA ?_
     refine bw (by kernel_rfl) aM ?_
     simp only[aas]
     refine Me ((kb,kS,va,vc,b8)) (trivial)
    refine Do rfl (oA T.bE λb9=> ?_)
    refine aA ?_
    refine Dn 12 ?_
    refine Do rfl (oC T.gI rfl rfl (jb z N) .nil (λ_ le _=>In.mono q1 le) ?_)
    rintro v H' ⟨rfl,rfl⟩
    refine bd ?_
    refine aA ?_
    refine Dn 15 ?_
    refine Do rfl (oC T.eO rfl rfl (wU) .nil (λ_ _ _=>trivial) ?_)
    rintro v H' ⟨rfl,rfl⟩
    refine bd ?_
    refine aA ?_
    refine Dt 16 rfl (Bd T.bE T.ed) ?_
    refine Dn 18 ?_
    refine Do rfl (gM T.cZ ?_)
    refine aA ?_
    refine bw (by kernel_rfl) aM ?_
    simp only[aas]
    refine Me ((kb,kS,va,vc,b9)) (trivial)
   ·refine Do rfl (oC T.gI rfl rfl (jb z N) .nil (λ_ le _=>In.mono q1 le) ?_)
    rintro v H' ⟨rfl,rfl⟩
    refine bd ?_
    refine aA ?_
    refine D3 1 15 17 ?_ ?_ ?_
    ·refine Do rfl (zA T.rY T.j6 T.oI λkb kS pL=> ?_)
     refine aA ?_
     refine D2 15 17 ?_ ?_
     ·refine Do rfl (oC T.eO rfl rfl (wU) .nil (λ_ _ _=>trivial) ?_)
      rintro v H' ⟨rfl,rfl⟩
      refine bd ?_
      refine aA ?_
      refine Dt 16 rfl (Bd T.bE T.ed) ?_
      refine Dn 17 ?_
      refine Do rfl (oA T.bE λb10=> ?_)
      refine aA ?_
      refine Dn 18 ?_
      refine Do rfl (gM T.cZ ?_)
      refine aA ?_
      refine bw (by kernel_rfl) aM ?_
      simp only[aas]
      refine Me ((kb,kS,va,vc,b10)) (trivial)
     refine Do rfl (oA T.bE λb11=> ?_)
     refine aA ?_
     refine Dn 15 ?_
     refine Do rfl (oC T.eO rfl rfl (wU) .nil (λ_ _ _=>trivial) ?_)
     rintro v H' ⟨rfl,rfl⟩
     refine bd ?_
     refine aA ?_
     refine Dt 16 rfl (Bd T.bE T.ed) ?_
     refine Dn 18 ?_
     refine Do rfl (gM T.cZ ?_)
     refine aA ?_
     refine bw (by kernel_rfl) aM ?_
     simp only[aas]
     refine Me ((kb,kS,va,vc,b11)) (trivial)
    ·refine Do rfl (oC T.eO rfl rfl (wU) .nil (λ_ _ _=>trivial) ?_)
     rintro v H' ⟨rfl,rfl⟩
     refine bd ?_
     refine aA ?_
     refine D2 1 17 ?_ ?_
     ·refine Do rfl (zA T.rY T.j6 T.oI λkb kS pL=> ?_)
      refine aA ?_
      refine Dt 16 rfl (Bd T.bE T.ed) ?_
      refine Dn 17 ?_
      refine Do rfl (oA T.bE λb12=> ?_)
      refine aA ?_
      refine Dn 18 ?_
      refine Do rfl (gM T.cZ ?_)
      refine aA ?_
      refine bw (by kernel_rfl) aM ?_
      simp only[aas]
      refine Me ((kb,kS,va,vc,b12)) (trivial)
     refine Do rfl (oA T.bE λb13=> ?_)
     refine aA ?_
     refine Dn 1 ?_
     refine Do rfl (zA T.rY T.j6 T.oI λkb kS pL=> ?_)
     refine aA ?_
     refine Dt 16 rfl (Bd T.bE T.ed) ?_
     refine Dn 18 ?_
     refine Do rfl (gM T.cZ ?_)
     refine aA ?_
     refine bw (by kernel_rfl) aM ?_
     simp only[aas]
     refine Me ((kb,kS,va,vc,b13)) (trivial)
    refine Do rfl (oA T.bE λb14=> ?_)
    refine aA ?_
    refine D2 1 15 ?_ ?_
    ·refine Do rfl (zA T.rY T.j6 T.oI λkb kS pL=> ?_)
     refine aA ?_
     refine Dn 15 ?_
     refine Do rfl (oC T.eO rfl rfl (wU) .nil (λ_ _ _=>trivial) ?_)
     rintro v H' ⟨rfl,rfl⟩
     refine bd ?_
     refine aA ?_
     refine Dt 16 rfl (Bd T.bE T.ed) ?_
     refine Dn 18 ?_
     refine Do rfl (gM T.cZ ?_)
     refine aA ?_
     refine bw (by kernel_rfl) aM ?_
     simp only[aas]
     refine Me ((kb,kS,va,vc,b14)) (trivial)
    refine Do rfl (oC T.eO rfl rfl (wU) .nil (λ_ _ _=>trivial) ?_)
    rintro v H' ⟨rfl,rfl⟩
    refine bd ?_
    refine aA ?_
    refine Dn 1 ?_
    refine Do rfl (zA T.rY T.j6 T.oI λkb kS pL=> ?_)
    refine aA ?_
    refine Dt 16 rfl (Bd T.bE T.ed) ?_
    refine Dn 18 ?_
    refine Do rfl (gM T.cZ ?_)
    refine aA ?_
    refine bw (by kernel_rfl) aM ?_
    simp only[aas]
    refine Me ((kb,kS,va,vc,b14)) (trivial)
   refine Do rfl (oA T.bE λb15=> ?_)
   refine aA ?_
   refine D2 1 12 ?_ ?_
   ·refine Do rfl (zA T.rY T.j6 T.oI λkb kS pL=> ?_)
    refine aA ?_
    refine Dn 12 ?_
    refine Do rfl (oC T.gI rfl rfl (jb z N) .nil (λ_ le _=>In.mono q1 le) ?_)
    rintro v H' ⟨rfl,rfl⟩
    refine bd ?_
    refine aA ?_
    refine Dn 15 ?_
    refine Do rfl (oC T.eO rfl rfl (wU) .nil (λ_ _ _=>trivial) ?_)
    rintro v H' ⟨rfl,rfl⟩
    refine bd ?_
    refine aA ?_
    refine Dt 16 rfl (Bd T.bE T.ed) ?_
    refine Dn 18 ?_
    refine Do rfl (gM T.cZ ?_)
    refine aA ?_
    refine bw (by kernel_rfl) aM ?_
    simp only[aas]
    refine Me ((kb,kS,va,vc,b15)) (trivial)
   refine Do rfl (oC T.gI rfl rfl (jb z N) .nil (λ_ le _=>In.mono q1 le) ?_)
   rintro v H' ⟨rfl,rfl⟩
   refine bd ?_
   refine aA ?_
   refine D2 1 15 ?_ ?_
   ·refine Do rfl (zA T.rY T.j6 T.oI λkb kS pL=> ?_)
    refine aA ?_
    refine Dn 15 ?_
    refine Do rfl (oC T.eO rfl rfl (wU) .nil (λ_ _ _=>trivial) ?_)
    rintro v H' ⟨rfl,rfl⟩
    refine bd ?_
    refine aA ?_
    refine Dt 16 rfl (Bd T.bE T.ed) ?_
    refine Dn 18 ?_
    refine Do rfl (gM T.cZ ?_)
    refine aA ?_
    refine bw (by kernel_rfl) aM ?_
    simp only[aas]
    refine Me ((kb,kS,va,vc,b15)) (trivial)
   refine Do rfl (oC T.eO rfl rfl (wU) .nil (λ_ _ _=>trivial) ?_)
   rintro v H' ⟨rfl,rfl⟩
   refine bd ?_
   refine aA ?_
   refine Dn 1 ?_
   refine Do rfl (zA T.rY T.j6 T.oI λkb kS pL=> ?_)
   refine aA ?_
   refine Dt 16 rfl (Bd T.bE T.ed) ?_
   refine Dn 18 ?_
   refine Do rfl (gM T.cZ ?_)
   refine aA ?_
   refine bw (by kernel_rfl) aM ?_
   simp only[aas]
   refine Me ((kb,kS,va,vc,b15)) (trivial)
  refine Do rfl (oA T.bE λb16=> ?_)
  refine aA ?_
  refine D2 1 4 ?_ ?_
  ·refine Do rfl (zA T.rY T.j6 T.oI λkb kS pL=> ?_)
   refine aA ?_
   refine dK 5 1 ?_
   refine Dn 4 ?_
   refine Do rfl (eS T.iL T.qc rfl rfl rfl rfl .here (rfl) (dC (m:=c.data.length) (by simp) (λh le _=>hd.mono (je.trans le))) (by first|exact dQ|(simp[Value.oneCell',aT])) (by first|omega|(simp;omega)) (by first|omega|(simp;omega)) rfl λva vc hvc=> ?_)
   refine aA ?_
   refine Dn 12 ?_
   refine Do rfl (oC T.gI rfl rfl (jb z N) .nil (λ_ le _=>In.mono q1 le) ?_)
   rintro v H' ⟨rfl,rfl⟩
   refine bd ?_
   refine aA ?_
   refine Dn 15 ?_
   refine Do rfl (oC T.eO rfl rfl (wU) .nil (λ_ _ _=>trivial) ?_)
   rintro v H' ⟨rfl,rfl⟩
   refine bd ?_
   refine aA ?_
   refine Dt 16 rfl (Bd T.bE T.ed) ?_
   refine Dn 18 ?_
   refine Do rfl (gM T.cZ ?_)
   refine aA ?_
   refine bw (by kernel_rfl) aM ?_
   simp only[aas]
   refine Me ((kb,kS,va,vc,b16)) (trivial)
  refine dK 5 1 ?_
  refine Do rfl (eS T.iL T.qc rfl rfl rfl rfl .here (rfl) (dC (m:=c.data.length) (by simp) (λh le _=>hd.mono (je.trans le))) (by first|exact dQ|(simp[Value.oneCell',aT])) (by first|omega|(simp;omega)) (by first|omega|(simp;omega)) rfl λva vc hvc=> ?_)
  refine aA ?_
  refine D2 1 12 ?_ ?_
  ·refine Do rfl (zA T.rY T.j6 T.oI λkb kS pL=> ?_)
   refine aA ?_
   refine Dn 12 ?_
   refine Do rfl (oC T.gI rfl rfl (jb z N) .nil (λ_ le _=>In.mono q1 le) ?_)
   rintro v H' ⟨rfl,rfl⟩
   refine bd ?_
   refine aA ?_
   refine Dn 15 ?_
   refine Do rfl (oC T.eO rfl rfl (wU) .nil (λ_ _ _=>trivial) ?_)
   rintro v H' ⟨rfl,rfl⟩
   refine bd ?_
   refine aA ?_
   refine Dt 16 rfl (Bd T.bE T.ed) ?_
   refine Dn 18 ?_
   refine Do rfl (gM T.cZ ?_)
   refine aA ?_
   refine bw (by kernel_rfl) aM ?_
   simp only[aas]
   refine Me ((kb,kS,va,vc,b16)) (trivial)
  refine Do rfl (oC T.gI rfl rfl (jb z N) .nil (λ_ le _=>In.mono q1 le) ?_)
  rintro v H' ⟨rfl,rfl⟩
  refine bd ?_
  refine aA ?_
  refine D2 1 15 ?_ ?_
  ·refine Do rfl (zA T.rY T.j6 T.oI λkb kS pL=> ?_)
   refine aA ?_
   refine Dn 15 ?_
   refine Do rfl (oC T.eO rfl rfl (wU) .nil (λ_ _ _=>trivial) ?_)
   rintro v H' ⟨rfl,rfl⟩
   refine bd ?_
   refine aA ?_
   refine Dt 16 rfl (Bd T.bE T.ed) ?_
   refine Dn 18 ?_
   refine Do rfl (gM T.cZ ?_)
   refine aA ?_
   refine bw (by kernel_rfl) aM ?_
   simp only[aas]
   refine Me ((kb,kS,va,vc,b16)) (trivial)
  refine Do rfl (oC T.eO rfl rfl (wU) .nil (λ_ _ _=>trivial) ?_)
  rintro v H' ⟨rfl,rfl⟩
  refine bd ?_
  refine aA ?_
  refine Dn 1 ?_
  refine Do rfl (zA T.rY T.j6 T.oI λkb kS pL=> ?_)
  refine aA ?_
  refine Dt 16 rfl (Bd T.bE T.ed) ?_
  refine Dn 18 ?_
  refine Do rfl (gM T.cZ ?_)
  refine aA ?_
  refine bw (by kernel_rfl) aM ?_
  simp only[aas]
  refine Me ((kb,kS,va,vc,b16)) (trivial)
 rintro⟨kb,kS,va,vc,b9⟩ hI
 dsimp only
 refine aw ?_
 refine dJ (ι:=List UInt8×Nat×Nat×Option Addr×Nat) [71,72,74,75,76,77,78,79,80,73,81,82,10,11,83,84,85,86,87,88,89,90,91,92,93,94,95,96,97,98,99,100,101,102,103,104,105,106,107,108,109,110,111,112,113,114,115,116] (λs=>N.pX c k old=some (s.1,s.2.1,s.2.2.1)∧58+k.length+s.1.length≤1048576∧s.2.1<4294967296∧s.2.2.1<9223372036854775808) (λs=> []) (λs=> [SW z N,ag b1 47 (dZ c ka kc da dc mv),ag b2 41 [.int .i64 0,bc, .int .u64 0,aT [],bc],own (some ⟨kb,0,none⟩) kS 5 1 (ak k),own s.2.2.2.1 s.2.2.2.2 5 1 (ak s.1),ag b9 170 (Ca (.slice (some ⟨kb,0,none⟩) k.length kS) (.slice s.2.2.2.1 s.1.length s.2.2.2.2) s.2.1 s.2.2.1 0 0 0 0)]) ?_ ?_
 ·rcases ov with _|_
  ·refine iu ?_
   refine aW ?_
   cases old with
   |none=>
    exfalso
    have h89:c.verb=8∨c.verb=9:=by unfold Cg at hov;have:=of_decide_eq_false hov;omega
    unfold aN at hn
    rw[if_neg (by omega),if_pos (by omega)]at hn
    cases hn
   |some p=>
   have hp:=hold p rfl
   obtain⟨v1,v2,v3,v4⟩:=O2.aaN (p:=p) hp
   change(N.it p).val.length≤_ at v1
   change(N.it p).fl<_ at v2
   change(N.it p).exp<_ at v3
   refine bL ?_
   refine Lp (oC T.EX rfl rfl (xl z N p hp) (.cons .here .nil) (λ_ _ _=>trivial) ?_)
   rintro v H' ⟨H0,⟨Qx,Qn,st2,BZ,hs2',hs3',rfl,rfl⟩,rfl⟩
   refine bd ?_
   refine bq ?_
   refine Lp (oA T.bE λb17=> ?_)
   refine Lp (gM T.cZ ?_ (h1:=by simp[Ca,Value.oneCell']))
   refine bf ?_
   refine aw ?_
   unfold Ca
   refine ik 8 T.mix (.cons .here .nil) λF2 zM eG ez=> ?_
   obtain⟨q3,_⟩:=eG
   refine dh ?_
   refine gO ez ?_
   refine aA ?_
   refine aw ?_
   simp only[aas]
   refine Hh (H':= [SW z N,ag b1 47 (dZ c ka kc da dc mv),ag b2 41 [.int .i64 0,bc, .int .u64 0,aT [],bc],own (some ⟨kb,0,none⟩) kS 5 1 (ak k),own va vc 5 1 (ak c.data),ag b9 170 [.slice (some ⟨kb,0,none⟩) k.length kS, .slice va c.data.length vc, .int .u64 ((N.it p).fl:Int), .int .i64 ((N.it p).exp:Int), .int .i64 0, .int .u64 0, .int .i64 0, .int .i64 0],own (some ⟨Qn,0,none⟩) (N.it p).val.length 5 1 (ak (N.it p).val),ag b17 170 [.slice (some ⟨Qx,0,none⟩) (N.it p).key.length (N.it p).key.length, .slice (some ⟨Qn,0,none⟩) (N.it p).val.length (N.it p).val.length, .int .u64 ((N.it p).fl:Int), .int .i64 ((N.it p).exp:Int), .int .i64 ((N.it p).tch:Int), .int .u64 ((N.it p).tok:Int), .int .i64 (st2:Int), .int .i64 ((N.it p).cQ:Int)]]) ?_
   refine dJ (ι:=Option Addr×Nat) [89,90,91,92,93,94,95,96,97,98,99,100,101,102,103] (λs=>True) (λs=> []) (λs=> [SW z N,ag b1 47 (dZ c ka kc da dc mv),ag b2 41 [.int .i64 0,bc, .int .u64 0,aT [],bc],own (some ⟨kb,0,none⟩) kS 5 1 (ak k),own s.1 s.2 5 1 (ak (if c.verb=8 then(N.it p).val++c.data else c.data++(N.it p).val)),ag b9 170 [.slice (some ⟨kb,0,none⟩) k.length kS, .slice s.1 (if c.verb=8 then(N.it p).val++c.data else c.data++(N.it p).val).length s.2, .int .u64 ((N.it p).fl:Int), .int .i64 ((N.it p).exp:Int), .int .i64 0, .int .u64 0, .int .i64 0, .int .i64 0],ag b17 170 [.slice (some ⟨Qx,0,none⟩) (N.it p).key.length (N.it p).key.length, .slice (some ⟨Qn,0,none⟩) (N.it p).val.length (N.it p).val.length, .int .u64 ((N.it p).fl:Int), .int .i64 ((N.it p).exp:Int), .int .i64 ((N.it p).tch:Int), .int .u64 ((N.it p).tok:Int), .int .i64 (st2:Int), .int .i64 ((N.it p).cQ:Int)]]) ?_ ?_
   ·by_cases h8:c.verb=8
    ·rw[if_pos h8]
     refine br ?_
     refine fB ?_ (e:=by exact decide_eq_true h8)
     refine br ?_
     refine Lp (eS T.iL T.qc rfl rfl rfl rfl (.there (.there (.there (.there (.there (.there .here)))))) (by simp) (dC (m:=c.data.length) (by simp) (λh le aq=>bB (aq.nth 4 rfl))) (by first|exact dQ|(simp[Value.oneCell',aT])) (by first|omega|(simp;omega)) (by first|omega|(simp;omega)) rfl λa6 c6 hc6=> ?_)
     refine bf ?_
     refine aG ?_
     rw[show ak (N.it p).val++ak c.data=ak ((N.it p).val++c.data) by unfold ak;rw[adt],←aal]
     refine Me ((a6,c6)) (trivial)
    rw[if_neg h8]
    refine br ?_
    refine dm ?_ (e:=by exact decide_eq_false h8)
    refine br ?_
    refine Lp (eS T.iL T.qc rfl rfl rfl rfl (.there (.there (.there (.there .here)))) (by simp) (dC (m:=(N.it p).val.length) (by simp) (λh le aq=>bB (aq.nth 6 rfl))) (by first|exact dQ|(simp[Value.oneCell',aT])) (by first|omega|(simp;omega)) (by first|omega|(simp;omega)) rfl λa6 c6 hc6=> ?_)
    refine bf ?_
    refine aG ?_
    rw[show ak c.data++ak (N.it p).val=ak (c.data++(N.it p).val) by unfold ak;rw[adt],←aal]
    refine Me ((a6,c6)) (trivial)
   rintro⟨a6,c6⟩ hI
   dsimp only
   have hvl:(if c.verb=8 then(N.it p).val++c.data else c.data++(N.it p).val).length=c.data.length+(N.it p).val.length:=by
    split<;>rw[aal]<;>omega
   have hnw:N.pX c k (some p)=if N.v.c.lim<58+k.length+c.data.length+(N.it p).val.length then none else some (if c.verb=8 then(N.it p).val++c.data else c.data++(N.it p).val,(N.it p).fl,(N.it p).exp):=by unfold Mo.pX;rw[hov];rfl
   generalize (if c.verb=8 then(N.it p).val++c.data else c.data++(N.it p).val)=nv at*
   refine aw ?_
   refine ik 11 T.mix (.cons .here (.cons (.there (.there (.there (.there (.there .here))))) .nil)) λF3 VQ uo gJ=> ?_
   obtain⟨q4,q5,_⟩:=uo
   refine bf ?_
   first
    |refine Ti (Lf T.Ac) ?_
    |refine Ti (x5 T.Ac q4) ?_
   refine bD ?_
   first
    |refine Ti (Lf T.dD) ?_
    |refine Ti (x5 T.dD q4) ?_
   refine aA ?_
   refine gO gJ ?_
   refine aA ?_
   by_cases wH:N.v.c.lim<58+k.length+c.data.length+(N.it p).val.length
   ·rw[if_pos wH]at hnw
    refine fB ?_
    refine fi ?_
    refine zl T.qf (fO cO) .nil (λ_ _ _=>trivial) ?_
    refine Li (QN T.fF) ?_
    refine Lp (Qs ?_)
    refine pP [SW z N] ?_
    exact⟨.t cO,N,by rw[VT,xZ,hnw],rfl,rfl⟩
   rw[if_neg wH]at hnw
   refine dm ?_
   refine aA ?_
   refine Me ((nv,(N.it p).fl,(N.it p).exp,a6,c6)) (⟨hnw,(by dsimp only;rw[n1]at wH;omega),v2,v3⟩)
  refine iu ?_
  refine br ?_
  refine Me ((c.data,c.fl,eU N.k.now c.ex,va,vc)) (⟨(by unfold Mo.pX;rw[hov];rfl),hd20,zF,zi _ _ Uw.1 hex⟩)
 rintro⟨v,fl,ex,va2,vc2⟩ hI
 dsimp only at hI⊢
 obtain⟨ZR,sO,hfl2,hex2⟩:=hI
 rw[ZR]at xZ
 have hR:=tq (M:=N) (n:=58+k.length+v.length) (own:=old) (o:=(N.room (58+k.length+v.length) old).1) (N:=(N.room (58+k.length+v.length) old).2) ⟨O2.ZI,O2.Qv.nd,O2.Qv.lv,O2.Qv.on⟩ rfl
 have hly:N.lays k old ov (v,fl,ex)=match N.room (58+k.length+v.length) old with|(none,R)=>(.t gx,R.over old ov)|(some r,R)=>(.k 1,R.fA r old ⟨k,v,fl,ex,R.k.now,R.v.aO+1,0⟩):=rfl
 have x0:=sy z N (n4.trans hh) (by rw[n5];exact iU) (by rw[hsN];exact um) k.length v.length ⟨hk0,U7⟩ (by omega) old hold
 unfold Ca
 refine bq ?_
 refine Li (Ls T.rY) ?_
 refine aW ?_
 refine zl T.MF (x0) (.cons .here .nil) (λ_ _ _=>trivial) ?_
 rcases hrm:N.room (58+k.length+v.length) old with⟨o,R⟩
 rw[hrm]at hR hly
 dsimp only at hR hly⊢
 have hoR:ua N.C old=ua R.C old:=by
  rcases old with _|p
  ·rfl
  exact(hR.s.own p rfl (hold p rfl)).2.1.symm
 have U4:∀p,old=some p→R.has p:=λp e=>(hR.s.own p e (hold p e)).1
 rw[hoR]
 rcases o with _|r0
 ·dsimp only at hly
  refine eC ?_
  refine Lp (J6 T.Ds rfl rfl (kO z R old U4 ov gx) (.cons .here .nil) (λ_ _ _=>trivial) (by rintro v H' ⟨rfl,rfl⟩;exact pP [SW z (R.over old ov)] ⟨.t gx,_,by rw[VT,xZ];exact hly,rfl,rfl⟩) ?_)
  rintro v H' hF
  exact hF.elim
 obtain⟨g1,g2,g3,g4⟩:=hR.ok r0 rfl
 have hdn:=bK hR.k.k g3.toAt
 obtain⟨_,_,_,_,hd1,Ki⟩:=hdn
 refine bL ?_
 refine dm ?_ (e:=by exact decide_eq_false (by show¬(((R.C.hd r0:Nat):Int)=0);omega))
 refine bL ?_
 refine zl T.ME (AA z R r0 g1 old k v _ _ rfl rfl (λp e=>⟨U4 p e,by rw[hR.s.it];exact(e2 p e).2⟩) (λe=>Gg λq hq ek=>SO (e3 e) (hR.s.has q hq) (by rw[←hR.s.it];exact ek)) (some ⟨kb,0,none⟩) va2 kS vc2 fl ex 0 hk g2 hfl2 hex2 (by decide) (by rw[hR.s.aO,n2];exact qZ) (by rw[hR.s.tn,n3];exact rZ)) (.cons .here .nil) (λ_ le aq=>⟨bB (aq.nth 2 rfl),bB (aq.nth 3 rfl)⟩) ?_
 refine bq ?_
 refine Lp (gM T.cU ?_ (h1:=by simp[cR,Value.cells,Value.oneCell',aT,bc]))
 refine bf ?_
 refine pR ?_
 refine EM [SW z (R.fA r0 old ⟨k,v,fl,ex,R.k.now,R.v.aO+1,0⟩)] T.cU results77 ?_
 exact⟨.k 1,_,by rw[VT,xZ];exact hly,rfl,rfl⟩
theorem Oy (A:By)(p:Nat)(v:List UInt8)(q n:Nat)(h:q+n≤p+48∨p+52≤q∧q+n≤p+56+kl A p):iC (dU A p v) q n=iC A q n:=by
 unfold dU
 rw[eW _ _ _ _ _ (.inl (by omega)),eW _ _ _ _ _ (.inl (by omega)),pD _ _ _ _ _ _ (by omega)]
theorem nL (A:By)(p:Nat)(v:List UInt8)(o w:Nat)(h:o+w≤48∨52≤o∧o+w≤56):rd (dU A p v) (p+o) w=rd A (p+o) w:=by
 unfold dU
 rw[dM _ _ _ _ _ (.inl (by omega)),dM _ _ _ _ _ (.inl (by omega)),aJ _ _ _ _ _ _ (by omega)]
theorem FT (A:By)(p:Nat)(v:List UInt8)(h:v.length<4294967296):vl (dU A p v) p=v.length:=by
 unfold dU vl
 rw[dM _ _ _ _ _ (.inl (by omega)),dM _ _ _ _ _ (.inl (by omega)),ns _ _ _ _ (by omega)]
theorem FU (A:By)(p:Nat)(v:List UInt8):kl (dU A p v) p=kl A p:=nL A p v 44 1 (.inl (by omega))
theorem AY (A:By)(p:Nat)(v:List UInt8):aE (dU A p v) p=aE A p:=by
 unfold aE
 rw[FU,Oy _ _ _ _ _ (.inr ⟨by omega,by omega⟩)]
theorem Ox (A:By)(p:Nat)(v:List UInt8)(h:v.length<4294967296):mJ (dU A p v) p=v:=by
 unfold mJ
 rw[FU,FT A p v h]
 unfold dU
 rw[eW _ _ _ _ _ (.inl (by omega)),jr]
theorem XY{C:Cs}{p:Nat}{v:List UInt8}(A:By)(L:At C p)(hf:58+kl A p+v.length≤C.sz (C.cl p)):cI C A (dU A p v) (λq o=>q=p∧48≤o):=λi e=>by
 have h1:p+48≤i∧i<p+58+kl A p+v.length:=by
  refine aak λg=>e ?_
  unfold dU wr
  have hc:crlf.length=2:=rfl
  rw[fy _ _ _ _ (by omega),fy _ _ _ _ (by omega),fy _ _ _ _ (by rw[kM];omega)]
 exact⟨p,i-p,L,by omega,⟨rfl,by omega⟩,by omega⟩
def Mo.jC (M:Mo)(p:Nat)(v:List UInt8):Mo:={M.put p {M.it p with val:=v}with v:={M.v with fI:=M.v.fI+v.length-(M.it p).val.length}}
theorem RV{f g:Nat→Nat}{p:Nat}{l:List Nat}(nd:l.Nodup)(hp:p∈l)(h:∀q,q≠p→g q=f q):(l.map g).sum+f p=(l.map f).sum+g p:=by
 have e:=List.perm_cons_erase hp
 rw[(e.map g).sum_nat,(e.map f).sum_nat,aao,aao,aaC,aaC]
 have:(l.erase p).map g=(l.erase p).map f:=List.map_congr_left λq hq=>h q λg=>by subst g;exact nd.not_mem_erase hq
 rw[this];omega
theorem bF.jC{B:Bx}{M:Mo}(O:bF B M){p:Nat}(hp:M.has p)(v:List UInt8)(hf:58+(M.it p).key.length+v.length≤M.C.sz (M.C.cl p)):bF ⟨B.C.wA (dU B.C.A p v),B.W,B.ty,B.E⟩ (M.jC p v):=by
 have K:=O.k
 have dT:=(O.al p).2 hp
 have L:=O.qP dT
 obtain⟨f1,f2,f3,f4,f5,f6,f7⟩:=O.iw dT
 have pO:kl B.C.A p=(M.it p).key.length:=by rw[←f5];exact(cK _ _ _).symm
 have sO:=(L.toAt.aX K).2.2.1
 have Ut:=K.toFix.p1
 have QE:58+kl B.C.A p+v.length≤B.C.sz (B.C.cl p):=by rw[pO,show B.C.cl p=M.C.cl p from O.cl p,show B.C.sz (M.C.cl p)=M.C.sz (M.C.cl p) by rw[O.c];rfl];exact hf
 have d:=XY B.C.A L.toAt QE
 have I:=O.t.it p dT
 have v32:v.length<4294967296:=by omega
 have other:∀q∈B.W.all,q≠p→mu (dU B.C.A p v) q=mu B.C.A q:=λq hq ne=>uA K d (O.mH hq) (O.t.it q hq) (λj s=>absurd s.1 ne)
 have r:=λ(q:Nat) (hq:q∈B.W.all) (o w:Nat) (h2:o+w≤48)=>ke (o:=o) (w:=w) K d (O.mH hq) (by have:=((O.mH hq).aX K).2.1;omega) (λj g1 g2 s=>by obtain⟨_,s2⟩:=s;omega)
 have itp:mu (dU B.C.A p v) p={M.it p with val:=v}:=by
  rw[←O.it p dT]
  unfold mu QI ud lP pS cM
  rw[AY,Ox _ _ _ v32,nL _ _ _ _ _ (.inl (by omega)),nL _ _ _ _ _ (.inl (by omega)),nL _ _ _ _ _ (.inl (by omega)),nL _ _ _ _ _ (.inl (by omega)),nL _ _ _ _ _ (.inl (by omega))]
 have jz:∀q∈B.W.all,mu (dU B.C.A p v) q=(M.jC p v).it q:=λq hq=>by
  show _=if q=p then _ else M.it q
  by_cases e:q=p
  ·rw[if_pos e,e];exact itp
  rw[if_neg e,other q hq e];exact O.it q hq
 have key:∀q∈B.W.all,aE (dU B.C.A p v) q=aE B.C.A q:=λq hq=>by
  by_cases e:q=p
  ·rw[e];exact AY _ _ _
  exact congrArg I3.key (other q hq e)
 have iok:∀q∈B.W.all,gC (B.C.wA (dU B.C.A p v)) q:=λq hq=>by
  have J:=O.t.it q hq
  have e2:=r q hq 16 8 (by omega)
  have e3:=r q hq 24 8 (by omega)
  have e4:kl (dU B.C.A p v) q=kl B.C.A q:=r q hq 44 1 (by omega)
  refine⟨by rw[cg,e4];exact J.k0, ?_,by rw[cg,e2];exact J.exp,by rw[cg,e3];exact J.tch⟩
  rw[cg,e4]
  by_cases e:q=p
  ·rw[e,FT _ _ _ v32];exact QE
  have e5:vl (dU B.C.A p v) q=vl B.C.A q:=ke K d (O.mH hq) (by have:=((O.mH hq).aX K).2.1;omega) (λj g1 g2 s=>e s.1)
  rw[e5];exact J.fits
 have lk:∀l:List Nat,(∀q∈l,q∈B.W.all)→CA B.C.A l→CA (dU B.C.A p v) l:=λl=>by
  induction l with
  |nil=>exact λ_ _=>trivial
  |cons q l ih=>exact λh g=>⟨(r q (h q List.mem_cons_self) 0 4 (by omega)).trans g.1,ih (λx hx=>h x (List.mem_cons_of_mem _ hx)) g.2⟩
 have T:=O.t
 have hT:cD (B.C.wA (dU B.C.A p v)) B.W:=⟨T.pw,T.po,T.st,T.mp,T.sz,T.J5,T.sm,T.mv,T.n,T.nd,λx=>lk _ (λq hq=>Tb.fD hq) (T.li x),λq hq=>(T.lv q hq).wA _,iok,
  λx q hq=>by
   show B.W.bk (bJ (aE (dU B.C.A p v) q))=x
   rw[key q (Tb.fD hq)];exact T.bu x q hq,
  λa ha b hb e=>by
   change aE (dU B.C.A p v) a=aE (dU B.C.A p v) b at e
   rw[key a ha,key b hb]at e
   exact T.kd a ha b hb e⟩
 have Q:=O.o
 have hQ:hZ (B.C.wA (dU B.C.A p v)) M.Q:=⟨Q.len,λi q hq=>(Q.lv i q hq).wA _,λi q hq=>iok q (O.qS hq),λi q hq=>by
   have:=r q (O.qS hq) 45 1 (by omega)
   show 1≤ij (dU B.C.A p v) q∧_
   rw[cg,show ij (dU B.C.A p v) q=ij B.C.A q from this];exact Q.st i q hq,Q.nd,λi k hk=>by rw[cg,r _ (O.qS (aam hk)) 4 4 (by omega)];exact Q.l1 i k hk,λi k hk=>by rw[cg,r _ (O.qS (aam hk)) 8 4 (by omega)];exact Q.l2 i k hk⟩
 refine⟨?_,K.wA _,hT,O.ty,hQ,O.x, ?_,O.ck,O.al,λq=> ?_,O.ho,jz, ?_,O.st,O.nb,O.mg,O.mo, ?_,O.un,O.on,O.go,O.wn,O.cf,O.n,λq hq=> ?_⟩
 ·show B.C.wA _=M.C.wA _
  conv=>lhs;rw[O.c]
  rfl
 ·intro i q hq
  show cM (dU B.C.A p v) q<16
  rw[show cM (dU B.C.A p v) q=cM B.C.A q from r q (O.qS hq) 46 1 (by omega)]
  exact O.mq i q hq
 ·refine Iff.trans ?_ (O.lv q)
  exact⟨λh=>⟨⟨h.i,h.own,h.al,h.k⟩,h.tk⟩,λh=>h.wA _⟩
 ·refine O.e.trans (List.Perm.of_eq (fq (C:=B.C) (D:=B.C.wA (dU B.C.A p v)) (M:=M) (N:=M.jC p v) λq _=>⟨?_,rfl,rfl⟩).symm)
  show(if q=p then _ else M.it q).exp=_
  by_cases e:q=p
  ·rw[if_pos e,e]
  rw[if_neg e]
 ·show M.v.fI+v.length-(M.it p).val.length=(B.W.all.map λq=>((M.jC p v).it q).sz).sum
  have h1:=RV (f:=λq=>(M.it q).sz) (g:=λq=>((M.jC p v).it q).sz) T.nd dT (λq ne=>by
   show(if q=p then _ else M.it q).sz=_
   rw[if_neg ne])
  have h2:((M.jC p v).it p).sz=58+(M.it p).key.length+v.length:=by
   show(if p=p then _ else M.it p).sz=_
   rw[if_pos rfl];rfl
  have h3:=O.bt
  have h4:(M.it p).sz=58+(M.it p).key.length+(M.it p).val.length:=rfl
  rw[h2,h4]at h1
  omega
 rw[←jz q hq]
 show dV (aE (dU B.C.A p v) q)=true
 rw[key q hq,show aE B.C.A q=(M.it q).key from congrArg I3.key (O.it q hq)]
 exact O.lg q hq
end Go.Proofs.YtdolmecackmjdaaGreatDoor
namespace Go.Proofs.YtdolmecackmjdaaGreatDoor
open Go Go.cV Go.Proofs.YtdolmecackmjdaaGreatDoor.Cs
theorem Kw (n:Nat):IntKind.u64.wrap (n:Int)=((n % 18446744073709551616:Nat):Int):=by
 simp[IntKind.wrap,IntKind.bits,IntKind.signed]
def V7 (z:Ly)(B:Bx)(M:Mo):aa:=aI
 [ag z.y.t 145 (eT z.y.b B.W B.ty),ag B.ty.nk 163 (aC (au B.W.nb)),jd B.ty.ok 163 (aC (au B.W.ob)),ag z.y.q 139 (fj z.y.b z.qb B.C.ae.length),ag z.qb 327 (M.Q.flatMap (dR B.C)),gu z.y.cr z.y.q z.y.wh B.C.ae.length (bo z.s) (bn z.s) B.C M.x,Wl z.y.wh B.E M.tn,
  ki z.y.ck M.k,iW z.y.lu z.y.b z.y.q z.hot z.warm,mG z.y.mo z.y.b z.ub (bo z.s) (bn z.s) (bT z.s) M.m,mN z.ub M.m,kF M]
theorem Ho{L:List aa}{A B:aa}{H:List aa}{h:Hp}(s:ai (A::B::(L++H)) h):ai (A::B::aI L::H) h:=aH (λ_=>aH λ_=>fg) s
theorem NI{L:List aa}{A B:aa}{H:List aa}{h:Hp}(s:ai (A::B::aI L::H) h):ai (A::B::(L++H)) h:=aH (λ_=>aH λ_=>rC) s
theorem Bz (z:Ly)(B:Bx)(M:Mo)(H:List aa):eX (fk z B M++H) (gr z.s z.y (gd M.v)) (QO z B M++H):=
 .there (.there (.there (.there (.there (.there (.there (.there .here)))))))
theorem Zp{z:Ly}{B:Bx}{M:Mo}{H:List aa}(h:Hp)(s:ai (fk z B M++H) h):ai (ag z.s 111 (ya z.y M.v++ [.slice M.v.wa M.v.wn M.v.wc])::Cl z.y.b B.C::V7 z B M::H) h:=
 Ho ((Bz z B M H).out _ s)
theorem ac4{z:Ly}{B:Bx}{M:Mo}{H:List aa}(h:Hp)(s:ai (ag z.s 111 (ya z.y M.v++ [.slice M.v.wa M.v.wn M.v.wc])::Cl z.y.b B.C::V7 z B M::H) h):ai (fk z B M++H) h:=
 (Bz z B M H).back _ (NI s)
section
variable {n:Nat} {ds:List Deferred} {F:dy} {K:Act→World→Prop} {σ:aR} {z:Ly} {M N:Mo} {H:List aa}
theorem acn (h:∀B,bF B M→G n ds F K σ (ag z.s 111 (ya z.y M.v++ [.slice M.v.wa M.v.wn M.v.wc])::Cl z.y.b B.C::V7 z B M::H)):G n ds F K σ (SH z M::H):=
 fe λB O=>az Zp (h B O)
theorem acm{B:Bx}(D:Cs)(O:bF ⟨D,B.W,B.ty,B.E⟩ N)(hb:V7 z ⟨D,B.W,B.ty,B.E⟩ N=V7 z B M)(h:G n ds F K σ (SH z N::H)):G n ds F K σ (ag z.s 111 (ya z.y N.v++ [.slice N.v.wa N.v.wn N.v.wc])::Cl z.y.b D::V7 z B M::H):=by
 rw[←hb]
 exact az (λk s=>aK O k (ac4 k s)) h
end
theorem ND (z:Ly)(M:Mo)(p t:Nat)(hp:M.has p)(ht:t<18446744073709551616):aF aaa 115 [.pointer (some ⟨z.y.b,0,none⟩), .int .u64 (M.C.hd p:Int), .int .u64 (t:Int)] (λ_=>True) [SW z M] (λv H=>v= .int .i64 0∧H= [SW z (M.tok p t)]):=
 gy (N:=M.tok p t) (T:=λv=>v= .int .i64 0) λa c=>eF λB O=>by
  have dT:=(O.al p).2 hp
  have h:=(zq z.y.b B.C O.k p t ht (O.qP dT) (O.t.it p dT).k0).fr (H:=fk z B (M.aD a c)++ []) (R:=(fk z B (M.aD a c)).tail) (.cons .here .nil) (λk aq=>trivial)
  rw[O.hd]at h
  refine h.out ?_
  rintro v H' ⟨H0,⟨rfl,rfl⟩,rfl⟩
  exact⟨[SH z ((M.tok p t).aD a c)],⟨rfl,rfl⟩,λk s=>aK (O.w32 dT t ht) (H:= []) k s⟩
theorem BD (z:Ly)(M:Mo)(c:Nat)(hc:c<M.ia):aF aaa 113 [.pointer (some ⟨z.s,0,none⟩), .int .i64 (c:Int)] (λ_=>True) [SW z M] (λv H=>v= .int .i64 (M.C.sz c:Int)∧H= [SW z M]):=by
 have h:=DS z M c
 rw[show(ofM M.C c λi=>M.C.sz i)=M.C.sz c by unfold ofM;rw[if_pos ⟨by omega,by exact Int.ofNat_lt.2 hc⟩];rfl]at h
 refine af func113 rfl ntmps113 rfl ?_
 intro F _
 refine bA ?_
 refine zl T.KR (h) (.cons .here .nil) (λ_ _ _=>trivial) ?_
 refine bq ?_
 refine Rt [SW z M] results113 ?_
 exact⟨rfl,rfl⟩
def mK (c:dB)(n:Nat):Nat:=if c.verb=12 then(n+c.dl) % 18446744073709551616 else n-c.dl
def Mo.fw (M:Mo)(p m:Nat):eH×Mo:=
 if 58+(M.it p).key.length+(dw m).length≤M.C.sz (M.C.cl p)then(⟨7,[],m,[]⟩,((((M.jC p (dw m)).kG (M.v.aO+1)).tok p (M.v.aO+1)).marks p 0).jz p)
 else if M.v.c.lim<58+(M.it p).key.length+(dw m).length then(.t cO,M)
 else match M.room (58+(M.it p).key.length+(dw m).length) (some p)with
  |(none,R)=>(.t gx,R)
  |(some r,R)=>(⟨7,[],m,[]⟩,R.fA r (some p) ⟨(M.it p).key,dw m,(M.it p).fl,(M.it p).exp,R.k.now,R.v.aO+1,0⟩)
def Mo.counts (M:Mo)(c:dB)(k:List UInt8):eH×Mo:=match M.meet k with
 |(none,N)=>(.k 4,N)
 |(some p,N)=>match pW (N.it p).val with
  |none=>(.t oZ,N)
  |some n=>N.fw p (mK c n)
theorem JB (z:Ly)(M:Mo)(c:dB)(ka:Option Addr)(kc:Nat)(da:Option Addr)(dc:Nat)(mv:Value)(j8:mv.oneCell'=true)(um:0<M.C.spare)(k:List UInt8)(r:List (List UInt8))(qT:c.keys=k::r)(hk:dV k=true)(hw:M.iG.length<1073741824)(JV:c.dl<18446744073709551616)
  (hh:M.hole=none) (iU:M.m.st<4611686018427387904) (GR:M.v.c.lim≤1048576) (qZ:M.v.aO+1<18446744073709551616) (rZ:M.tn<18446744073709551615):
  Ra aaa 72 [.pointer (some ⟨z.s,0,none⟩), .agg (dZ c ka kc da dc mv).toArray] (λh=>eB h ka (fU c.keys)) [SW z M]
   (λv H=>∃a N,M.counts c k=(a,N)∧v=q8 a∧H= [SW z N]) (λv H=>∃a N,M.counts c k=(a,N)∧v=oy (q8 a)∧H= [SW z N]):=by
 obtain⟨hk0,U7⟩:=fQ hk
 refine jQ func72 rfl ntmps72 rfl ?_
 intro F hr
 refine aA ?_
 refine Lp (oB λb1=> ?_)
 refine Lp (oA T.kj λb2=> ?_)
 refine aA ?_
 refine Hh (H':= [SW z M,ag b1 47 (dZ c ka kc da dc mv),ag b2 41 [.int .i64 0,bc, .int .u64 0,aT [],bc]]) ?_
 refine bq ?_
 refine Lp (J6 T.KQ rfl rfl (vz z M c ka kc da dc mv j8 k r qT (by omega) hw) (.cons .here .nil) (λ_ le _=>hr.mono le) (by rintro v H' ⟨N,hm,rfl,rfl⟩;exact pP [SW z N] ⟨.k 4,N,by unfold Mo.counts;rw[hm],rfl,rfl⟩) ?_)
 rintro v H' ⟨p,N,hm,rfl,rfl⟩
 refine bd ?_
 obtain⟨m1,m2,m3⟩:=lp hm
 have hN:N.has p:=by rw[m3];exact m1
 have hC:M.C=N.C:=by rw[m3];rfl
 have hNv:N.v.c=M.v.c∧N.v.aO=M.v.aO∧N.tn=M.tn∧N.hole=M.hole∧N.m.st=M.m.st:=by rw[m3];exact⟨rfl,rfl,rfl,rfl,rfl⟩
 have mQ:(N.it p).key=k:=by rw[m3];exact m2
 obtain⟨n1,n2,n3,n4,n5⟩:=hNv
 have BZ:M.counts c k=match pW (N.it p).val with|none=>(.t oZ,N)|some n=>N.fw p (mK c n):=by unfold Mo.counts;rw[hm]
 rw[hC]
 refine oz λwa wc B O=> ?_
 obtain⟨v1,v2,v3,v4⟩:=O.aaN (p:=p) hN
 change(N.it p).val.length≤_ at v1
 change(N.it p).fl<_ at v2
 change(N.it p).exp<_ at v3
 change(N.it p).key.length≤_ at v4
 refine dg ?_
 refine Lp (oC T.EX rfl rfl (xl z N p hN) (.cons .here .nil) (λ_ _ _=>trivial) ?_)
 rintro v H' ⟨H0,⟨Qx,Qn,st2,hs1',hs2',hs3',rfl,rfl⟩,rfl⟩
 refine bd ?_
 unfold Ca
 refine bq ?_
 refine Lp (oA T.bE λb3=> ?_)
 refine Lp (gM T.cZ ?_ (h1:=by simp[Ca,Value.oneCell']))
 refine br ?_
 refine Lp (J6 T.Y2 rfl rfl (JA (some ⟨Qn,0,none⟩) (N.it p).val.length (N.it p).val.length (N.it p).val rfl (by omega)) .nil (λ_ le aq=>bB (aq.nth 2 rfl)) (by rintro v H' ⟨hn,rfl,rfl⟩;exact pP [SW z N] ⟨.t oZ,N,by rw[BZ,hn],rfl,rfl⟩) ?_)
 rintro v H' ⟨⟨n,hn,hn64,rfl⟩,rfl⟩
 refine bd ?_
 rw[hn]at BZ
 dsimp only at BZ
 have hmlt:mK c n<18446744073709551616:=by unfold mK;split<;>omega
 refine bf ?_
 refine aw ?_
 refine dJ (ι:=Unit) [31,32,33,34,35,36,37,8,38,39,40,41,42,43,44,45] (λu=>True) (λu=> [(8, .int .u64 ((mK c n:Nat):Int))]) (λu=> [SW z N,ag b1 47 (dZ c ka kc da dc mv),ag b2 41 [.int .i64 0,bc, .int .u64 0,aT [],bc],ag b3 170 [.slice (some ⟨Qx,0,none⟩) (N.it p).key.length (N.it p).key.length, .slice (some ⟨Qn,0,none⟩) (N.it p).val.length (N.it p).val.length, .int .u64 ((N.it p).fl:Int), .int .i64 ((N.it p).exp:Int), .int .i64 ((N.it p).tch:Int), .int .u64 ((N.it p).tok:Int), .int .i64 (st2:Int), .int .i64 ((N.it p).cQ:Int)],own (some ⟨Qx,0,none⟩) (N.it p).key.length 5 1 (ak (N.it p).key)]) ?_ ?_
 ·by_cases B8:c.verb=12
  ·have hmm:mK c n=(n+c.dl) % 18446744073709551616:=by unfold mK;rw[if_pos B8]
   rw[hmm]
   refine br ?_
   refine fB ?_ (e:=by exact decide_eq_true B8)
   refine bD ?_
   refine aG ?_
   refine ay (t:=8) (v':=(.int .u64 (((n+c.dl) % 18446744073709551616:Nat):Int))) rfl (by exact congrArg (Value.int .u64) (by first|exact Kw (n+c.dl)|exact(Kw (n+c.dl)).symm|(rw[←Kw];rfl))) ?_
   refine Me (()) (trivial)
  have hmm:mK c n=n-c.dl:=by unfold mK;rw[if_neg B8]
  rw[hmm]
  refine br ?_
  refine dm ?_ (e:=by exact decide_eq_false B8)
  by_cases cB:n<c.dl
  ·refine iu ?_
   refine br ?_
   refine fB ?_
   refine bf ?_
   refine aG ?_
   refine Me (()) (trivial) (hs:=⟨(congrArg (λq=>some (Value.int .u64 q)) (by omega)),trivial⟩)
  refine iu ?_
  refine br ?_
  refine dm ?_
  refine bD ?_
  refine aG ?_
  refine Me (()) (trivial) (hs:=⟨(congrArg (λq=>some (Value.int .u64 q)) (by omega)),trivial⟩)
 rintro u hI
 generalize mK c n=m at*
 have n9:N.fw p m=if 58+(N.it p).key.length+(dw m).length≤N.C.sz (N.C.cl p)then(⟨7,[],m,[]⟩,((((N.jC p (dw m)).kG (N.v.aO+1)).tok p (N.v.aO+1)).marks p 0).jz p)else if N.v.c.lim<58+(N.it p).key.length+(dw m).length then(.t cO,N)else match N.room (58+(N.it p).key.length+(dw m).length) (some p)with|(none,R)=>(.t gx,R)|(some r,R)=>(⟨7,[],m,[]⟩,R.fA r (some p) ⟨(N.it p).key,dw m,(N.it p).fl,(N.it p).exp,R.k.now,R.v.aO+1,0⟩):=rfl
 have hdl20:(dw m).length≤20:=by have:=PU 20 m (by omega);omega
 have hL:=O.qP ((O.al p).2 hN)
 have hcn:N.C.cl p<N.ia:=by
  have:=(hL.toAt.aX O.k).1
  rw[show B.C.cl p=N.C.cl p from O.cl p,O.c]at this
  exact this
 refine bf ?_
 refine Lp (oC T.Y1 rfl rfl (NJ m hmlt) .nil (λ_ _ _=>trivial) ?_)
 rintro v H' ⟨ta,tc,rfl,rfl⟩
 refine bd ?_
 generalize dw m=t at*
 refine CD ?_
 refine zl T.uC (RT z N p hN) (.cons (.there .here) .nil) (λ_ _ _=>trivial) ?_
 refine fK ?_
 refine zl T.Y0 (BD z N (N.C.cl p) hcn) (.cons .here .nil) (λ_ _ _=>trivial) ?_
 by_cases aq:58+(N.it p).key.length+t.length≤N.C.sz (N.C.cl p)
 ·rw[if_pos aq]at n9
  refine bq ?_
  refine fB ?_
  clear O
  refine aw ?_
  refine Hh (H':= [SW z N,own ta tc 5 1 (ak t),ag b1 47 (dZ c ka kc da dc mv),ag b2 41 [.int .i64 0,bc, .int .u64 0,aT [],bc],ag b3 170 [.slice (some ⟨Qx,0,none⟩) (N.it p).key.length (N.it p).key.length, .slice (some ⟨Qn,0,none⟩) (N.it p).val.length (N.it p).val.length, .int .u64 ((N.it p).fl:Int), .int .i64 ((N.it p).exp:Int), .int .i64 ((N.it p).tch:Int), .int .u64 ((N.it p).tok:Int), .int .i64 (st2:Int), .int .i64 ((N.it p).cQ:Int)],own (some ⟨Qx,0,none⟩) (N.it p).key.length 5 1 (ak (N.it p).key)]) ?_
  refine xa λwa wc=>acn λB O=> ?_
  have hbt:=O.abh
  have dT:=(O.al p).2 hN
  have Ur:(N.it p).val.length≤N.v.fI:=by
   have h1:=O.bt
   have h2:=tj (λq=>((N.aD wa wc).it q).sz) dT
   have h3:((N.aD wa wc).it p).sz=58+(N.it p).key.length+(N.it p).val.length:=rfl
   change N.v.fI=_ at h1
   rw[←h1,h3]at h2
   omega
  change N.v.fI≤_ at hbt
  have pO:kl B.C.A p=(N.it p).key.length:=by rw[←show aE B.C.A p=(N.it p).key from(O.iw dT).2.2.2.2.1];exact(cK _ _ _).symm
  have yg:58+((N.aD wa wc).it p).key.length+t.length≤(N.aD wa wc).C.sz ((N.aD wa wc).C.cl p):=aq
  have iv:=HU z.y.b B.C O.k p (O.qP dT) (O.t.it p dT).k0 ta t.length tc t rfl (by rw[pO,show B.C.cl p=N.C.cl p from O.cl p,show B.C.sz (N.C.cl p)=N.C.sz (N.C.cl p) by rw[O.c];rfl];exact aq)
  rw[show B.C.hd p=N.C.hd p from O.hd p]at iv
  unfold ya aaP
  dsimp only[Mo.aD]
  refine bd ?_
  refine ik 13 T.mix (.cons .here (.cons (.there (.there (.there (.there (.there .here))))) .nil)) λF1 je bR aM=> ?_
  obtain⟨q1,q6,_⟩:=bR
  refine bI ?_
  refine ay (t:=106) (v':=(.int .i64 ((N.v.fI+t.length-(N.it p).val.length:Nat):Int))) rfl (by exact congrArg (Value.int .i64) (by omega)) ?_
  refine bf ?_
  refine gO aM ?_
  refine bA ?_
  refine zl T.YZ (iv) (.cons (.there (.there .here)) .nil) (λ_ le aq=>bB (aq.nth 3 rfl)) ?_
  refine aA ?_
  refine aw ?_
  refine Hh (H':= [ag z.s 111 (ya z.y (N.jC p t).v++ [.slice wa N.iG.length wc]),Cl z.y.b (B.C.wA (dU B.C.A p t)),V7 z B (N.aD wa wc),own ta tc 5 1 (ak t),ag b1 47 (dZ c ka kc da dc mv),ag b2 41 [.int .i64 0,bc, .int .u64 0,aT [],bc],ag b3 170 [.slice (some ⟨Qx,0,none⟩) (N.it p).key.length (N.it p).key.length, .slice (some ⟨Qn,0,none⟩) (N.it p).val.length (N.it p).val.length, .int .u64 ((N.it p).fl:Int), .int .i64 ((N.it p).exp:Int), .int .i64 ((N.it p).tch:Int), .int .u64 ((N.it p).tok:Int), .int .i64 (st2:Int), .int .i64 ((N.it p).cQ:Int)],own (some ⟨Qx,0,none⟩) (N.it p).key.length 5 1 (ak (N.it p).key)]) ?_
  refine acm (N:=(N.aD wa wc).jC p t) _ (O.jC hN t yg) rfl ?_
  refine Ve (M:=N.jC p t) wa wc ?_
  have Ut:(N.jC p t).has p:=hN
  rw[show N.C=(N.jC p t).C from rfl]
  have JU:(N.jC p t).v.aO=N.v.aO:=rfl
  generalize hN1:N.jC p t=N1 at*
  refine bD ?_
  refine ay (t:=121) (v':=(.int .u64 ((N.v.aO+1:Nat):Int))) rfl (by exact congrArg (Value.int .u64) (by rw[JU];rfl)) ?_
  refine bf ?_
  refine Lp (Z7 (i:=19) T.ot ?_)
  refine aA ?_
  refine aw ?_
  have dT:(N1.kG (N.v.aO+1)).has p:=Ut
  rw[show N1.C=(N1.kG (N.v.aO+1)).C from rfl]
  have zP:(N1.kG (N.v.aO+1)).v.aO=N.v.aO+1:=rfl
  generalize hN2:N1.kG (N.v.aO+1)=N2 at*
  refine ik 10 T.mix (.cons .here .nil) λF2 zM eG ez=> ?_
  obtain⟨q7,_⟩:=eG
  refine aW ?_
  first
   |refine Ti (Lf T.KB) ?_
   |refine Ti (x5 T.KB q7) ?_
  refine aW ?_
  first
   |refine Ti (Lf T.ot) ?_
   |refine Ti (x5 T.ot q7) ?_
  refine gO ez ?_
  rw[zP]
  refine Tp (oC T.YY rfl rfl (ND z N2 p (N.v.aO+1) dT (by rw[n2];exact qZ)) (.cons .here .nil) (λ_ _ _=>trivial) ?_)
  rintro v H' ⟨rfl,rfl⟩
  refine bd ?_
  refine aW ?_
  refine zl T.YX (DP z (N2.tok p (N.v.aO+1)) p 0 (by decide) dT) (.cons .here .nil) (λ_ _ _=>trivial) ?_
  refine aW ?_
  refine zl T.Du (uY z ((N2.tok p (N.v.aO+1)).marks p 0) p dT) (.cons .here .nil) (λ_ _ _=>trivial) ?_
  refine bD ?_
  refine Lp (gM T.cU ?_ (h1:=by simp[cR,Value.cells,Value.oneCell',aT,bc]))
  refine bf ?_
  refine pR ?_
  refine EM [SW z (((N2.tok p (N.v.aO+1)).marks p 0).jz p)] T.cU results72 ?_
  exact⟨⟨7,[],m,[]⟩,_,by rw[BZ,n9],rfl,rfl⟩
 rw[if_neg aq]at n9
 refine bq ?_
 refine dm ?_
 refine bA ?_
 by_cases wH:N.v.c.lim<58+(N.it p).key.length+t.length
 ·rw[if_pos wH]at n9
  refine fB ?_
  refine fi ?_
  refine zl T.qf (fO cO) .nil (λ_ _ _=>trivial) ?_
  refine Li (QN T.fF) ?_
  refine Lp (Qs ?_)
  refine pP [SW z N] ?_
  exact⟨.t cO,N,by rw[BZ,n9],rfl,rfl⟩
 rw[if_neg wH]at n9
 refine dm ?_
 have hR:=tq (M:=N) (n:=58+(N.it p).key.length+t.length) (own:=some p) (o:=(N.room (58+(N.it p).key.length+t.length) (some p)).1) (N:=(N.room (58+(N.it p).key.length+t.length) (some p)).2) ⟨O.ZI,O.Qv.nd,O.Qv.lv,O.Qv.on⟩ rfl
 have x0:=sy z N (n4.trans hh) (by rw[n5];exact iU) (by rw[m3];exact um) (N.it p).key.length t.length ⟨by rw[mQ];exact hk0,v4⟩ (by omega) (some p) (λq e=>by cases e;exact hN)
 refine dh ?_
 refine zl T.MF (x0) (.cons .here .nil) (λ_ _ _=>trivial) ?_
 rcases hrm:N.room (58+(N.it p).key.length+t.length) (some p)with⟨o,R⟩
 rw[hrm]at hR n9
 dsimp only at hR n9⊢
 obtain⟨hRp,hRh,_⟩:=hR.s.own p rfl hN
 rw[show N.C.hd p=ua R.C (some p)from hRh.symm]
 rcases o with _|r0
 ·dsimp only at n9
  refine dh ?_
  refine fi ?_
  refine zl T.qf (fO gx) .nil (λ_ _ _=>trivial) ?_
  refine Li (QN T.fF) ?_
  refine Lp (Qs ?_)
  refine pP [SW z R] ?_
  exact⟨.t gx,R,by rw[BZ,n9],rfl,rfl⟩
 obtain⟨g1,g2,g3,g4⟩:=hR.ok r0 rfl
 have hdn:=bK hR.k.k g3.toAt
 obtain⟨_,_,_,_,hd1,Ki⟩:=hdn
 refine bL ?_
 refine dm ?_ (e:=by exact decide_eq_false (by show¬(((R.C.hd r0:Nat):Int)=0);omega))
 refine fK ?_
 refine zl T.ME (AA z R r0 g1 (some p) (N.it p).key t _ _ rfl rfl (λq e=>by cases e;exact⟨hRp,by rw[hR.s.it]⟩) (λe=>by cases e) (some ⟨Qx,0,none⟩) ta (N.it p).key.length tc (N.it p).fl (N.it p).exp 0 (by rw[mQ];exact hk) g2 v2 v3 (by decide) (by rw[hR.s.aO,n2];exact qZ) (by rw[hR.s.tn,n3];exact rZ)) (.cons .here .nil) (λ_ le aq=>⟨bB (aq.nth 4 rfl),bB (aq.nth 0 rfl)⟩) ?_
 refine bD ?_
 refine Lp (gM T.cU ?_ (h1:=by simp[cR,Value.cells,Value.oneCell',aT,bc]))
 refine bf ?_
 refine pR ?_
 refine EM [SW z (R.fA r0 (some p) ⟨(N.it p).key,t,(N.it p).fl,(N.it p).exp,R.k.now,R.v.aO+1,0⟩)] T.cU results72 ?_
 exact⟨⟨7,[],m,[]⟩,_,by rw[BZ,n9],rfl,rfl⟩
end Go.Proofs.YtdolmecackmjdaaGreatDoor
namespace Go.Proofs.YtdolmecackmjdaaGreatDoor
open Go Go.cV Go.Proofs.YtdolmecackmjdaaGreatDoor.Cs
theorem bF.ck1{B:Bx}{M:Mo}(O:bF B M){k:Ck}(h:p9 k):bF B {M with k:=k}:=
 ⟨O.c,O.k,O.t,O.ty,O.o,O.x,O.mq,h,O.al,O.lv,O.ho,O.it,O.e,O.st,O.nb,O.mg,O.mo,O.bt,O.un,O.on,O.go,O.wn,O.cf,O.n,O.lg⟩
theorem cn.again{n:Nat}{Q:List (List Nat)}{x:Cw}(_:cn n Q x):cn n Q x.again:=⟨(λe=>by cases e),λ_=>⟨rfl,rfl,rfl,rfl⟩,(λ_ e=>by cases e),aay _⟩
theorem DQ (z:Ly)(M:Mo)(t:Int)(hi:M.v.aO<18446744073709551616)(ht:t<9223372036854775808):aF aaa 75 [.pointer (some ⟨z.y.ck,0,none⟩), .int .i64 t, .int .u64 (M.v.aO:Int)] (λ_=>True) [SW z M]
  (λv H=>v= .tuple #[]∧H= [SW z {M with k:=M.k.flush t M.v.aO}]):=
 gy (N:={M with k:=M.k.flush t M.v.aO}) (T:=λv=>v= .tuple #[]) λa c=>eF λB O=>by
  have h:=(we z.y.ck M.k O.ck.n2 t M.v.aO hi ht).fr (H:=fk z B (M.aD a c)++ []) (R:= [Cl z.y.b B.C,ag z.y.t 145 (eT z.y.b B.W B.ty),ag B.ty.nk 163 (aC (au B.W.nb)),jd B.ty.ok 163 (aC (au B.W.ob)),ag z.y.q 139 (fj z.y.b z.qb B.C.ae.length),ag z.qb 327 (M.Q.flatMap (dR B.C)),gu z.y.cr z.y.q z.y.wh B.C.ae.length (bo z.s) (bn z.s) B.C M.x,Wl z.y.wh B.E M.tn,gr z.s z.y (gd (M.aD a c).v),
   iW z.y.lu z.y.b z.y.q z.hot z.warm,mG z.y.mo z.y.b z.ub (bo z.s) (bn z.s) (bT z.s) M.m,mN z.ub M.m,kF (M.aD a c)]) (.cons (.there (.there (.there (.there (.there (.there (.there (.there (.there .here))))))))) .nil) (λ_ _=>trivial)
  refine h.out ?_
  rintro v H' ⟨H0,⟨rfl,rfl⟩,rfl⟩
  refine⟨[SH z (({M with k:=M.k.flush t M.v.aO}:Mo).aD a c)],⟨rfl,rfl⟩,λk s=>aK (O.ck1 (O.ck.flush t hi)) (H:= []) k ?_⟩
  revert s
  revert k
  simp only[s8,cap,adR]
  unfold fk
  exact Eh
theorem DT (z:Ly)(M:Mo):aF aaa 76 [.pointer (some ⟨z.y.cr,0,none⟩)] (λ_=>True) [SW z M]
  (λv H=>v= .tuple #[]∧H= [SW z {M with x:=M.x.again}]):=
 gy (N:={M with x:=M.x.again}) (T:=λv=>v= .tuple #[]) λa c=>eF λB O=>by
  have h:=(xW z.y.cr z.y.q z.y.wh B.C.ae.length (bo z.s) (bn z.s) B.C M.x).fr (H:=fk z B (M.aD a c)++ []) (R:= [Cl z.y.b B.C,ag z.y.t 145 (eT z.y.b B.W B.ty),ag B.ty.nk 163 (aC (au B.W.nb)),jd B.ty.ok 163 (aC (au B.W.ob)),ag z.y.q 139 (fj z.y.b z.qb B.C.ae.length),ag z.qb 327 (M.Q.flatMap (dR B.C)),Wl z.y.wh B.E M.tn,gr z.s z.y (gd (M.aD a c).v),
   ki z.y.ck M.k,iW z.y.lu z.y.b z.y.q z.hot z.warm,mG z.y.mo z.y.b z.ub (bo z.s) (bn z.s) (bT z.s) M.m,mN z.ub M.m,kF (M.aD a c)]) (.cons (.there (.there (.there (.there (.there (.there .here)))))) .nil) (λ_ _=>trivial)
  refine h.out ?_
  rintro v H' ⟨H0,⟨rfl,rfl⟩,rfl⟩
  refine⟨[SH z (({M with x:=M.x.again}:Mo).aD a c)],⟨rfl,rfl⟩,λk s=>aK (O.cw O.x.again) (H:= []) k ?_⟩
  revert s
  revert k
  simp only[s8,cap,adR]
  unfold fk
  exact Eh
theorem Ay (b:Nat)(cs:List Value):GZ aaa 70 [.pointer (some ⟨b,0,none⟩)] .returning .returning (λ_=>True) [ag b 41 cs] (λv H=>v= .tuple #[]∧H= [ag b 41 cs]):=by
 refine LY T.Vo func70 rfl ntmps70 rfl rfl rfl rfl rfl rfl rfl rfl rfl (.inl ⟨rfl,rfl,rfl⟩) ?_
 intro F _
 refine bf ?_
 refine Li (Iqn T.U1) ?_
 refine bq ?_
 refine jA [ag b 41 cs] results70 ?_
 exact⟨rfl,rfl⟩
theorem Nv (b:Nat)(c0 c1 c2 c3 c4:Value)(a:eH):GZ aaa 70 [.pointer (some ⟨b,0,none⟩)] (.panicking [pe (oy (q8 a))]) (.panicking [{v:=oy (q8 a),recovered:=true}]) (λ_=>True) [ag b 41 [c0,c1,c2,c3,c4]] (λv H=>v= .tuple #[]∧H= [ag b 41 (dY a.kind bc a.num a.s7)]):=by
 refine LY T.Vo func70 rfl ntmps70 rfl rfl rfl rfl rfl rfl rfl rfl rfl (.inr ⟨rfl,rfl⟩) ?_
 intro F _
 unfold oy q8 sU dY bc
 refine bf ?_
 refine Li (Iq T.U1) ?_
 refine aW ?_
 refine Li (TaT T.fF) ?_
 refine bq ?_
 refine Lp (oA T.CQ λb1=> ?_)
 refine Lp (gM T.DG ?_ (h1:=by simp[cR,Value.cells,Value.oneCell',aT,bc]))
 refine gP ?_
 refine Lp (oSN T.cU ?_ (h1:=by simp[cR,Value.cells,Value.oneCell',aT,bc]))
 refine aG ?_
 refine jA [ag b 41 [.int .i64 (a.kind:Int), .slice none 0 0, .int .u64 (a.num:Int),aT a.s7, .slice none 0 0]] results70 ?_
 exact⟨rfl,rfl⟩
def qh:List UInt8:= [103,114,97,110,97,114,121,32,49]
def Mo.delete (M:Mo)(k:List UInt8):eH×Mo:=match M.meet k with
 |(none,N)=>(.k 4,N)
 |(some p,N)=>(.k 5,N.bM p)
def Mo.fb (M:Mo)(c:dB):eH×Mo:=
 if 1≤c.verb∧c.verb≤4 then M.kX c.verb c.keys c.ex
 else if c.verb=12∨c.verb=13 then M.counts c (c.keys.headD [])
 else if c.verb=14 then M.ct (c.keys.headD []) c.ex
 else if c.verb=11 then M.delete (c.keys.headD [])
 else if c.verb=15 then(.k 8,{M with k:=M.k.flush c.ex M.v.aO,x:=M.x.again})
 else if c.verb=16 then(⟨10,[],0,qh⟩,M)
 else if c.verb=17 then(.k 8,M)
 else if c.verb=18 then(.k 12,M)
 else M.cS c (c.keys.headD [])
def GX (z:Ly)(r:eH×Mo)(v:Value)(H:List aa):Prop:=∃ea ec l,l.map Prod.fst=r.1.du∧v=sU r.1.kind (.slice ea l.length ec) r.1.num r.1.s7∧H= [own ea ec 49 9 (ff l),gp l,SW z r.2]
theorem sJ{M N:Mo}{c:dB}{k:List UInt8}{a:eH}(h:M.counts c k=(a,N)):a.du= []:=by
 have:(M.counts c k).1.du= []:=by
  unfold Mo.counts Mo.fw
  (repeat' split)<;>rfl
 rw[h]at this
 exact this
theorem sB{M N:Mo}{c:dB}{k:List UInt8}{a:eH}(h:M.cS c k=(a,N)):a.du= []:=by
 have:(M.cS c k).1.du= []:=by
  unfold Mo.cS Mo.iz Mo.lays
  (repeat' split)<;>rfl
 rw[h]at this
 exact this
theorem qE{M N:Mo}{k:List UInt8}{e:Int}{a:eH}(h:M.ct k e=(a,N)):a.du= []:=by
 have:(M.ct k e).1.du= []:=by
  unfold Mo.ct
  (repeat' split)<;>rfl
 rw[h]at this
 exact this
section
variable {n t b:Nat} {F:dy} {σ:aR} {fn:Func} {z:Ly} {r:eH×Mo} {R:List aa}
theorem iM (hr:fn.results= #[.cell t 41])(he:r.1.du= [])(ht:cV.look σ t=some (.pointer (some ⟨b,0,none⟩)):=by exact rfl):
  G n [JY 70 [] [.pointer (some ⟨b,0,none⟩)]] F (bodyPostD aaa fn (λe w'=>∃v H',e= .returned v∧GX z r v H'∧St F H' w') .ret) σ (ag b 41 (dY r.1.kind bc r.1.num r.1.s7)::SW z r.2::R):=by
 refine dK 49 9 ?_
 refine qB ?_
 refine RrC (e:=41) [own none 0 49 9 (ff []),gp [],SW z r.2] T.cU hr (Ay b (dY r.1.kind bc r.1.num r.1.s7)) (.cons (.there (.there .here)) .nil) (λ_ _ _=>trivial) ?_ ht
 rintro v Hx ⟨rfl,rfl⟩
 exact⟨_,_,_, .here,rfl,rfl,⟨none,0,[],he.symm,rfl,rfl⟩,λh s=>cT (by
  obtain⟨_,h2,_,_,l2,_,s⟩:=s
  exact dL (aH (λk s=>aH (R:=SW z r.2::R) (λk s=>aH (R':= []) (λ_ _=>trivial) s) s) s) l2)⟩
theorem qq{c0 c1 c2 c3 c4:Value}(hr:fn.results= #[.cell t 41])(he:r.1.du= [])(ht:cV.look σ t=some (.pointer (some ⟨b,0,none⟩)):=by exact rfl):
  G n [JY 70 [] [.pointer (some ⟨b,0,none⟩)]] F (bodyPostD aaa fn (λe w'=>∃v H',e= .returned v∧GX z r v H'∧St F H' w') (.panic [pe (oy (q8 r.1))])) σ (ag b 41 [c0,c1,c2,c3,c4]::SW z r.2::R):=by
 refine dK 49 9 ?_
 refine qB ?_
 refine RpC (e:=41) [own none 0 49 9 (ff []),gp [],SW z r.2] T.cU hr (Nv b c0 c1 c2 c3 c4 r.1) (.cons (.there (.there .here)) .nil) (λ_ _ _=>trivial) ?_ ht
 rintro v Hx ⟨rfl,rfl⟩
 exact⟨_,_,_, .here,rfl,rfl,⟨none,0,[],he.symm,rfl,rfl⟩,λh s=>cT (by
  obtain⟨_,h2,_,_,l2,_,s⟩:=s
  exact dL (aH (λk s=>aH (R:=SW z r.2::R) (λk s=>aH (R':= []) (λ_ _=>trivial) s) s) s) l2)⟩
end
theorem WQ (z:Ly)(M:Mo)(c:dB)(ka:Option Addr)(kc:Nat)(da:Option Addr)(dc:Nat)(mv:Value)(j8:mv.oneCell'=true)(um:0<M.C.spare)(hb:yi c=false)(Uw:c.keys.length<1073741824)(pO:∀k∈c.keys,k.length<281474976710656)(hw:M.iG= [])(hex:c.ex<9223372036854775808)(hda:c.data.length<281474976710656)(JV:c.dl<18446744073709551616)
  (hh:M.hole=none) (iU:M.m.st<4611686018427387904) (GR:M.v.c.lim≤1048576) (qZ:M.v.aO+1<18446744073709551616) (rZ:M.tn+c.keys.length<18446744073709551615):
  aF aaa 35 [.pointer (some ⟨z.s,0,none⟩), .agg (dZ c ka kc da dc mv).toArray] (λh=>eB h ka (fU c.keys)∧eB h da (ak c.data)) [SW z M] (GX z (M.fb c)):=by
 have jt:M.fb c=if 1≤c.verb∧c.verb≤4 then M.kX c.verb c.keys c.ex else if c.verb=12∨c.verb=13 then M.counts c (c.keys.headD [])else if c.verb=14 then M.ct (c.keys.headD []) c.ex else if c.verb=11 then M.delete (c.keys.headD [])else if c.verb=15 then(.k 8,{M with k:=M.k.flush c.ex M.v.aO,x:=M.x.again})else if c.verb=16 then(⟨10,[],0,qh⟩,M)else if c.verb=17 then(.k 8,M)else if c.verb=18 then(.k 12,M)else M.cS c (c.keys.headD []):=rfl
 have hbf:yi c=(decide (bQ c.verb<0∨0<bQ c.verb∧c.keys.length=0∨bQ c.verb=1∧1<c.keys.length) ||(decide (0<bQ c.verb)&&c.keys.any λk=> !dV k) ||decide (5≤c.verb∧c.verb≤10∧4294967295<c.fl)):=rfl
 rw[hb]at hbf
 have aa9:=hbf.symm
 simp only[Bool.or_eq_false_iff,decide_eq_false_iff_not]at aa9
 obtain⟨⟨dq,cX⟩,bU⟩:=aa9
 have VS:1≤c.verb∧c.verb≤18:=by
  refine aak λg=>dq (.inl ?_)
  unfold bQ
  rw[if_neg (by omega),if_neg (by omega),if_neg (by omega)];decide
 have EV:5≤c.verb→c.verb≤14→∃k,c.keys= [k]∧dV k=true:=λh1 h2=>by
  have hvi:bQ c.verb=1:=by unfold bQ;rw[if_neg (by omega),if_pos (by omega)]
  rw[hvi]at dq cX
  rcases hk:c.keys with _|⟨k,_|⟨k2,r⟩⟩
  ·exact absurd (.inr (.inl ⟨by decide,by rw[hk];rfl⟩)) dq
  ·refine⟨k,rfl, ?_⟩
   rw[hk]at cX
   simpa using cX
  exact absurd (.inr (.inr ⟨rfl,by rw[hk];simp⟩)) dq
 refine OM func35 rfl ntmps35 rfl ?_
 rintro F ⟨hr,hd⟩
 refine aA ?_
 refine Lp (oB λb1=> ?_)
 refine Lp (oA T.kj λb2=> ?_)
 refine bf ?_
 refine Li Mf ?_
 refine Lp (oDv ?_)
 refine aA ?_
 refine aw ?_
 refine Hh (H':= [SW z M,ag b1 47 (dZ c ka kc da dc mv),ag b2 41 [.int .i64 0,bc, .int .u64 0,aT [],bc]]) ?_
 refine br ?_
 refine aw ?_
 refine dJ (ι:=Bool) [10,9,11,12,13] (λb=>b=decide (1≤c.verb∧c.verb≤4)) (λb=> [(9, .bool b)]) (λb=> [SW z M,ag b1 47 (dZ c ka kc da dc mv),ag b2 41 [.int .i64 0,bc, .int .u64 0,aT [],bc]]) ?_ ?_
 ·refine iu ?_
  refine bq ?_
  refine ax rfl ?_ ?_
  ·intro cY
   replace cY:=aL cY
   refine aA ?_
   refine Me (decide (1≤c.verb∧c.verb≤4)) (rfl) (hs:=⟨(by refine congrArg (λq=>some (Value.bool q)) ?_;first|exact(decide_eq_true (by omega)).symm|exact decide_eq_decide.2 (by omega)|exact(decide_eq_false (by omega)).symm),trivial⟩)
  intro cY
  replace cY:=aL cY
  refine aW ?_
  refine ax rfl ?_ ?_
  ·intro dq
   replace dq:=aL dq
   refine aA ?_
   refine Me (decide (1≤c.verb∧c.verb≤4)) (rfl) (hs:=⟨(by refine congrArg (λq=>some (Value.bool q)) ?_;first|exact(decide_eq_true (by omega)).symm|exact decide_eq_decide.2 (by omega)|exact(decide_eq_false (by omega)).symm),trivial⟩)
  intro dq
  replace dq:=aL dq
  refine aW ?_
  refine ax rfl ?_ ?_
  ·intro cX
   replace cX:=aL cX
   refine aA ?_
   refine Me (decide (1≤c.verb∧c.verb≤4)) (rfl) (hs:=⟨(by refine congrArg (λq=>some (Value.bool q)) ?_;first|exact(decide_eq_true (by omega)).symm|exact decide_eq_decide.2 (by omega)|exact(decide_eq_false (by omega)).symm),trivial⟩)
  intro cX
  replace cX:=aL cX
  refine bq ?_
  refine aG ?_
  refine Me (decide (1≤c.verb∧c.verb≤4)) (rfl) (hs:=⟨(by refine congrArg (λq=>some (Value.bool q)) ?_;first|exact(decide_eq_true (by omega)).symm|exact decide_eq_decide.2 (by omega)|exact(decide_eq_false (by omega)).symm),trivial⟩)
 rintro b hI
 subst hI
 by_cases h4:1≤c.verb∧c.verb≤4
 ·rw[if_pos h4]at jt
  rw[jt]
  refine fB ?_ (e:=by exact decide_eq_true h4)
  refine bq ?_
  refine Lp (oC T.acy rfl rfl (TN z M c ka kc da dc mv j8 pO Uw hw hex rZ) (.cons .here .nil) (λ_ le _=>hr.mono le) ?_)
  rintro v H' ⟨a,N,ea,ec,l,hg,hl,rfl,rfl⟩
  refine bd ?_
  refine Lp (gM T.cU ?_ (h1:=by simp[dY,Value.oneCell',aT]))
  refine aW ?_
  refine RrC (e:=41) [own ea ec 49 9 (ff l),gp l,SW z N] T.cU results35 (Ay b2 _) (.cons (.there (.there (.there (.there .here)))) .nil) (λ_ _ _=>trivial) ?_
  rintro v Hx ⟨rfl,rfl⟩
  exact⟨_,_,_, .here,rfl,rfl,⟨ea,ec,l,by rw[hg];exact hl,by rw[hg];rfl,by rw[hg]⟩,Eh⟩
 rw[if_neg h4]at jt
 refine dm ?_ (e:=by exact decide_eq_false h4)
 refine aw ?_
 refine dJ (ι:=Bool) [18,17,19] (λb=>b=decide (c.verb=12∨c.verb=13)) (λb=> [(17, .bool b)]) (λb=> [SW z M,ag b1 47 (dZ c ka kc da dc mv),ag b2 41 [.int .i64 0,bc, .int .u64 0,aT [],bc]]) ?_ ?_
 ·refine iu ?_
  refine bq ?_
  refine ax rfl ?_ ?_
  ·intro cY
   replace cY:=aL cY
   refine aA ?_
   refine Me (decide (c.verb=12∨c.verb=13)) (rfl) (hs:=⟨(by refine congrArg (λq=>some (Value.bool q)) ?_;first|exact(decide_eq_true (by omega)).symm|exact decide_eq_decide.2 (by omega)|exact(decide_eq_false (by omega)).symm),trivial⟩)
  intro cY
  replace cY:=aL cY
  refine bq ?_
  refine aG ?_
  refine Me (decide (c.verb=12∨c.verb=13)) (rfl) (hs:=⟨(by refine congrArg (λq=>some (Value.bool q)) ?_;first|exact(decide_eq_true (by omega)).symm|exact decide_eq_decide.2 (by omega)|exact(decide_eq_false (by omega)).symm),trivial⟩)
 rintro b hI
 subst hI
 by_cases B8:c.verb=12∨c.verb=13
 ·rw[if_pos B8]at jt
  obtain⟨k,qT,CG⟩:=EV (by omega) (by omega)
  rw[qT]at jt
  change M.fb c=M.counts c k at jt
  rw[jt]
  refine fB ?_ (e:=by exact decide_eq_true B8)
  refine bq ?_
  refine Lp (J6 T.acx rfl rfl (JB z M c ka kc da dc mv j8 um k [] qT CG (by rw[hw];decide) JV hh iU GR qZ (by rw[qT]at rZ;exact adC (aeI _ _) rZ)) (.cons .here .nil) (λ_ le _=>hr.mono le) (by rintro v H' ⟨a,N,hm,rfl,rfl⟩;refine Hh (H':= [ag b2 41 [.int .i64 0,bc, .int .u64 0,aT [],bc],SW z N]) ?_;rw[hm];exact qq (z:=z) (r:=(a,N)) (R:= []) (c0:= .int .i64 0) (c1:=bc) (c2:= .int .u64 0) (c3:=aT []) (c4:=bc) results35 (sJ hm)) ?_)
  rintro v H' ⟨a,N,hm,rfl,rfl⟩
  refine bd ?_
  refine Lp (gM T.cU ?_ (h1:=by simp[dY,Value.oneCell',aT,bc]))
  refine aW ?_
  refine Hh (H':= [ag b2 41 (dY a.kind bc a.num a.s7),SW z N]) ?_
  rw[hm]
  exact iM (z:=z) (r:=(a,N)) (R:= []) results35 (sJ hm)
 rw[if_neg B8]at jt
 refine dm ?_ (e:=by exact decide_eq_false B8)
 refine aW ?_
 by_cases v14:c.verb=14
 ·rw[if_pos v14]at jt
  obtain⟨k,qT,CG⟩:=EV (by omega) (by omega)
  rw[qT]at jt
  change M.fb c=M.ct k c.ex at jt
  rw[jt]
  refine fB ?_ (e:=by exact decide_eq_true v14)
  refine bq ?_
  refine Lp (J6 T.acw rfl rfl (DM z M c ka kc da dc mv j8 k [] qT (by have:=(fQ CG).2;omega) (by rw[hw];decide) hex (by rw[qT]at rZ;exact adC (aeI _ _) rZ)) (.cons .here .nil) (λ_ le _=>hr.mono le) (by rintro v H' ⟨a,N,hm,rfl,rfl⟩;refine Hh (H':= [ag b2 41 [.int .i64 0,bc, .int .u64 0,aT [],bc],SW z N]) ?_;rw[hm];exact qq (z:=z) (r:=(a,N)) (R:= []) (c0:= .int .i64 0) (c1:=bc) (c2:= .int .u64 0) (c3:=aT []) (c4:=bc) results35 (qE hm)) ?_)
  rintro v H' ⟨a,N,hm,rfl,rfl⟩
  refine bd ?_
  refine Lp (gM T.cU ?_ (h1:=by simp[dY,Value.oneCell',aT,bc]))
  refine aW ?_
  refine Hh (H':= [ag b2 41 (dY a.kind bc a.num a.s7),SW z N]) ?_
  rw[hm]
  exact iM (z:=z) (r:=(a,N)) (R:= []) results35 (qE hm)
 rw[if_neg v14]at jt
 refine dm ?_ (e:=by exact decide_eq_false v14)
 refine aW ?_
 by_cases v11:c.verb=11
 ·rw[if_pos v11]at jt
  obtain⟨k,qT,CG⟩:=EV (by omega) (by omega)
  rw[qT]at jt
  change M.fb c=M.delete k at jt
  rw[jt]
  refine fB ?_ (e:=by exact decide_eq_true v11)
  refine bq ?_
  refine Lp (J6 T.KQ rfl rfl (vz z M c ka kc da dc mv j8 k [] qT (by have:=(fQ CG).2;omega) (by rw[hw];decide)) (.cons .here .nil) (λ_ le _=>hr.mono le) (by rintro v H' ⟨N,hm,rfl,rfl⟩;refine Hh (H':= [ag b2 41 [.int .i64 0,bc, .int .u64 0,aT [],bc],SW z N]) ?_;have hdd:M.delete k=(.k 4,N):=(by unfold Mo.delete;rw[hm]);rw[hdd];exact qq (z:=z) (r:=(.k 4,N)) (R:= []) (c0:= .int .i64 0) (c1:=bc) (c2:= .int .u64 0) (c3:=aT []) (c4:=bc) results35 rfl) ?_)
  rintro v H' ⟨p,N,hm,rfl,rfl⟩
  refine bd ?_
  obtain⟨m1,m2,m3⟩:=lp hm
  have hN:N.has p:=by rw[m3];exact m1
  have hC:M.C=N.C:=by rw[m3];rfl
  have hdd:M.delete k=(.k 5,N.bM p):=by unfold Mo.delete;rw[hm]
  rw[hdd,hC]
  refine br ?_
  refine zl T.EY (rB z N p hN) (.cons .here .nil) (λ_ _ _=>trivial) ?_
  refine bq ?_
  refine Lp (gM T.cU ?_ (h1:=by simp[cR,Value.cells,Value.oneCell',aT,bc]))
  refine aW ?_
  refine Hh (H':= [ag b2 41 (dY 5 bc 0 []),SW z (N.bM p)]) ?_
  exact iM (z:=z) (r:=(⟨5,[],0,[]⟩,(N.bM p))) (R:= []) results35 rfl rfl
 rw[if_neg v11]at jt
 refine dm ?_ (e:=by exact decide_eq_false v11)
 refine aW ?_
 by_cases v15:c.verb=15
 ·rw[if_pos v15]at jt
  rw[jt]
  refine fB ?_ (e:=by exact decide_eq_true v15)
  refine aw ?_
  refine ik 11 T.mix (.cons .here (.cons .here .nil)) λF1 je bR aM=> ?_
  obtain⟨q1,q2,_⟩:=bR
  refine aW ?_
  first
   |refine Ti (Lf T.lU) ?_
   |refine Ti (x5 T.lU q1) ?_
  refine aA ?_
  first
   |refine Ti (Lf T.dD) ?_
   |refine Ti (x5 T.dD q1) ?_
  refine bq ?_
  first
   |refine Ti (Lf T.ot) ?_
   |refine Ti (x5 T.ot q1) ?_
  refine gO aM ?_
  refine Tp (oC T.Vn rfl rfl (DQ z M c.ex (by omega) hex) (.cons .here .nil) (λ_ _ _=>trivial) ?_)
  rintro v H' ⟨rfl,rfl⟩
  refine bd ?_
  refine bL ?_
  refine zl T.Vm (DT z {M with k:=M.k.flush c.ex M.v.aO}) (.cons .here .nil) (λ_ _ _=>trivial) ?_
  refine bq ?_
  refine Lp (gM T.cU ?_ (h1:=by simp[cR,Value.cells,Value.oneCell',aT,bc]))
  refine aW ?_
  refine Hh (H':= [ag b2 41 (dY 8 bc 0 []),SW z {M with k:=M.k.flush c.ex M.v.aO,x:=M.x.again}]) ?_
  exact iM (z:=z) (r:=(⟨8,[],0,[]⟩,{M with k:=M.k.flush c.ex M.v.aO,x:=M.x.again})) (R:= []) results35 rfl rfl
 rw[if_neg v15]at jt
 refine dm ?_ (e:=by exact decide_eq_false v15)
 refine aW ?_
 by_cases v16:c.verb=16
 ·rw[if_pos v16]at jt
  rw[jt]
  refine fB ?_ (e:=by exact decide_eq_true v16)
  refine bf ?_
  refine Lp (gM T.cU ?_ (h1:=by simp[cR,Value.cells,Value.oneCell',aT,bc]))
  refine aW ?_
  refine Hh (H':= [ag b2 41 (dY 10 bc 0 qh),SW z M]) ?_
  exact iM (z:=z) (r:=(⟨10,[],0,qh⟩,M)) (R:= []) results35 rfl rfl
 rw[if_neg v16]at jt
 refine dm ?_ (e:=by exact decide_eq_false v16)
 refine aW ?_
 by_cases v17:c.verb=17
 ·rw[if_pos v17]at jt
  rw[jt]
  refine fB ?_ (e:=by exact decide_eq_true v17)
  refine bf ?_
  refine Lp (gM T.cU ?_ (h1:=by simp[cR,Value.cells,Value.oneCell',aT,bc]))
  refine aW ?_
  refine Hh (H':= [ag b2 41 (dY 8 bc 0 []),SW z M]) ?_
  exact iM (z:=z) (r:=(⟨8,[],0,[]⟩,M)) (R:= []) results35 rfl rfl
 rw[if_neg v17]at jt
 refine dm ?_ (e:=by exact decide_eq_false v17)
 refine aW ?_
 by_cases v18:c.verb=18
 ·rw[if_pos v18]at jt
  rw[jt]
  refine fB ?_ (e:=by exact decide_eq_true v18)
  refine bf ?_
  refine Lp (gM T.cU ?_ (h1:=by simp[cR,Value.cells,Value.oneCell',aT,bc]))
  refine aW ?_
  refine Hh (H':= [ag b2 41 (dY 12 bc 0 []),SW z M]) ?_
  exact iM (z:=z) (r:=(⟨12,[],0,[]⟩,M)) (R:= []) results35 rfl rfl
 rw[if_neg v18]at jt
 refine dm ?_ (e:=by exact decide_eq_false v18)
 refine bD ?_
 obtain⟨k,qT,CG⟩:=EV (by omega) (by omega)
 rw[qT]at jt
 change M.fb c=M.cS c k at jt
 rw[jt]
 refine Lp (J6 T.acv rfl rfl (Hm z M c ka kc da dc mv j8 um k [] qT CG (by rw[hw];decide) hex (by have:¬_:=bU;omega) hda hh iU GR qZ (by rw[qT]at rZ;exact adC (aeI _ _) rZ)) (.cons .here .nil) (λ_ le _=>⟨hr.mono le,hd.mono le⟩) (by rintro v H' ⟨a,N,hm,rfl,rfl⟩;refine Hh (H':= [ag b2 41 [.int .i64 0,bc, .int .u64 0,aT [],bc],SW z N]) ?_;rw[hm];exact qq (z:=z) (r:=(a,N)) (R:= []) (c0:= .int .i64 0) (c1:=bc) (c2:= .int .u64 0) (c3:=aT []) (c4:=bc) results35 (sB hm)) ?_)
 rintro v H' ⟨a,N,hm,rfl,rfl⟩
 refine bd ?_
 refine Lp (gM T.cU ?_ (h1:=by simp[dY,Value.oneCell',aT,bc]))
 refine bf ?_
 refine Hh (H':= [ag b2 41 (dY a.kind bc a.num a.s7),SW z N]) ?_
 rw[hm]
 exact iM (z:=z) (r:=(a,N)) (R:= []) results35 (sB hm)
end Go.Proofs.YtdolmecackmjdaaGreatDoor
namespace Go.cV
open Go
class VJ (A:aa)(b i:Nat)(vs:List Value)(A':outParam aa):Prop where
 cut:∀h,A h→∃e cs R,i+vs.length≤cs.length∧ai (ag b e cs::R) h∧∀k,ai (ag b e (cR cs i vs)::R) k→A' k
section
variable {P:Program} {n:Nat} {ds:List Deferred} {F:dy} {Q:Exit→Act→World→Prop} {K:Act→World→Prop} {σ:aR} {H:List aa} {o:Oper} {d:Nat}
theorem aaU{t k:TypeId}{x y:Operand}{A A':aa}{R:List aa}{b:Nat}{vs:List Value}(i:Nat)(hs:cy P t=some k)(h:G n ds F K σ (A'::R))(ho:o.op= .store t x y:=by exact rfl)(hd:o.dst=none:=by exact rfl)
  (hx:bh σ x=some (.pointer (some ⟨b,i,none⟩)):=by exact rfl) (hy:bh σ y=some (.agg vs.toArray):=by exact rfl) (hk:vs.length=k:=by exact rfl) (c:VJ A b i vs A':=by infer_instance) (h1:∀v∈vs,v.oneCell'=true:=by simp[cR,Value.cells,Value.oneCell',aT]):G n ds F (λa w=>o.wp P a w K Q) σ (A::R):=
 .mk λa w en s=>by
  obtain⟨a1,a2,a3,fr,hh,st,l,dj⟩:=s
  obtain⟨k1,k2,d12,l1,l2,ha,sr⟩:=st
  obtain⟨e,cs,R0,hi,s1,back⟩:=c.cut k1 ha
  have s2:ai (ag b e cs::(R0++R)) hh:=nP (A:=A) (B:=A) d12 l1 l2 s1 sr
  refine(rI hs ho hd hx hy hk h1 .here hi (az (λk sk=> ?_) h)) a w en ⟨a1,a2,a3,fr,hh,s2,l,dj⟩
  obtain⟨m1,m2,d',n1,n2,t1,t2⟩:=bx (A:=ag b e (cR cs i vs)::R0) sk
  exact⟨m1,m2,d',n1,n2,back m1 t1,t2⟩
theorem Fga{s f k sz:Nat}{e:TypeId}{x:Operand}{cs vs:List Value}(hk:Wm P s f=some (k,e))(he:cy P e=some sz)(ho:o.op= .field s x f:=by exact rfl)(hx:bh σ x=some (.agg cs.toArray):=by exact rfl)(hv:(cs.drop k).take sz=vs:=by exact rfl):Yv P n ds F σ o (.agg vs.toArray):=λa w en fr=>by
 obtain⟨h1,h2⟩:=eh (w:=w) he
 unfold Wm at hk
 cases hu:P.underlying s with
 |none=>simp[hu]at hk
 |some d=>
  cases d<;>simp[hu]at hk
  rename_i fs
  obtain⟨y,hf,e1,e2⟩:=hk
  subst e1;subst e2
  have e:cs.toArray.extract y.offset (y.offset+sz)=vs.toArray:=by
   rw[←hv]
   simp[List.take_drop]
  simp[execOp,ho,Instr.field,en.eval hx,run_underlying hu,hf,asAgg,part,h1,h2,e]
  exact hv
end
end Go.cV
namespace Go.Proofs.YtdolmecackmjdaaGreatDoor
open Go Go.cV Go.Proofs.YtdolmecackmjdaaGreatDoor.Cs
theorem PM:Wm aaa 113 0=some (0,41):=by kernel_rfl
instance sw_mt0{z:Ly}{M:Mo}:VJ (SW z M) z.s 21 [.int .i64 0, .int .i64 0, .int .i64 0, .int .i64 0, .int .i64 0, .int .i64 0, .int .i64 0] (SW z (M.aV .zero)):=⟨λh s=>by
 obtain⟨w,s⟩:=s
 obtain⟨B,O,t⟩:=qv s
 refine⟨_,_,QO z B (M.aD w.1 w.2),(by simp[jZ,gd]),t,λk sk=>⟨w,B,O.aV .zero, ?_⟩⟩
 rw[show cR (jZ z.y (gd (M.aD w.1 w.2).v)) 21 [.int .i64 0, .int .i64 0, .int .i64 0, .int .i64 0, .int .i64 0, .int .i64 0, .int .i64 0]=jZ z.y (gd ((M.aD w.1 w.2).aV .zero).v)from rfl]at sk
 exact(tW z B ((M.aD w.1 w.2).aV .zero)).back _ sk⟩
def Mo.sf (M:Mo):Mo:={M with iG:= []}
theorem bF.sf{B:Bx}{M:Mo}(O:bF B M):bF B (M.sf.aD none 0):=
 ⟨O.c,O.k,O.t,O.ty,O.o,O.x,O.mq,O.ck,O.al,O.lv,O.ho,O.it,O.e,O.st,O.nb,O.mg,O.mo,O.bt,O.un,O.on,O.go,rfl,O.cf,O.n,O.lg⟩
instance sw_why{z:Ly}{M:Mo}:oX (SW z M) z.s 28 (.slice none 0 0) (SW z M.sf):=⟨λh s=>by
 obtain⟨w,s⟩:=s
 obtain⟨B,O,t⟩:=qv s
 refine⟨_,_,QO z B (M.aD w.1 w.2),(by simp[jZ,gd]),t,λk sk=>⟨(none,0),B,O.sf, ?_⟩⟩
 rw[show(jZ z.y (gd (M.aD w.1 w.2).v)).set 28 (.slice none 0 0)=jZ z.y (gd (M.sf.aD none 0).v)from rfl]at sk
 refine(tW z B (M.sf.aD none 0)).back _ ?_
 have s2:=oG 3 1 sk
 clear sk
 revert s2
 revert k
 unfold QO
 simp only[kF]
 rw[show ba (M.sf.aD none 0).iG= []from rfl]
 exact Eh⟩
def Mo.reset (M:Mo):Mo:=(M.aV .zero).sf
theorem og.eJ{M:Mo}(K:og M)(w:Nat):og (M.eJ w):=⟨K.k,K.nd,K.lv,K.on⟩
structure Kd (M N:Mo)(t:Nat):Prop where
 ho:N.hole=M.hole
 st:N.m.st=M.m.st
 p:N.v.p=M.v.p
 c:N.v.c=M.v.c
 aO:N.v.aO≤M.v.aO+1
 tn:N.tn≤M.tn+t
theorem Kd.le{M N:Mo}{s t:Nat}(h:Kd M N s)(e:s≤t):Kd M N t:=⟨h.ho,h.st,h.p,h.c,h.aO,Nat.le_trans h.tn (Nat.add_le_add_left e _)⟩
theorem Kd.rf{M N:Mo}(ho:N.hole=M.hole)(st:N.m.st=M.m.st)(p:N.v.p=M.v.p)(c:N.v.c=M.v.c)(i:N.v.aO=M.v.aO)(t:N.tn=M.tn):Kd M N 0:=⟨ho,st,p,c,by omega,by omega⟩
theorem tC (M:Mo)(k:List UInt8):(M.meet k).2.hole=M.hole∧(M.meet k).2.m=M.m∧(M.meet k).2.v.p=M.v.p∧(M.meet k).2.v.c=M.v.c∧(M.meet k).2.v.aO=M.v.aO∧(M.meet k).2.tn=M.tn:=by
 unfold Mo.meet
 cases M.find k with
 |none=>exact⟨rfl,rfl,rfl,rfl,rfl,rfl⟩
 |some p=>
  dsimp only
  split<;>exact⟨rfl,rfl,rfl,rfl,rfl,rfl⟩
theorem og.meet{M N:Mo}(K:og M){k:List UInt8}{o:Option Nat}(h:M.meet k=(o,N)):og N:=by
 unfold Mo.meet at h
 cases hf:M.find k with
 |none=>rw[hf]at h;simp only[Prod.mk.injEq]at h;rw[←h.2];exact K.eJ 1
 |some p=>
  rw[hf]at h
  dsimp only at h
  split at h
  ·simp only[Prod.mk.injEq]at h
   rw[←h.2]
   exact((K.eJ _).bM (lz hf).1).1
  simp only[Prod.mk.injEq]at h
  rw[←h.2]
  exact K.eJ 0
theorem TP (dX:Bool)(ex:Int)(s:List I3×Mo)(k:List UInt8):(Mo.dt dX ex s k).2.hole=s.2.hole∧(Mo.dt dX ex s k).2.m=s.2.m∧(Mo.dt dX ex s k).2.v.p=s.2.v.p∧(Mo.dt dX ex s k).2.v.c=s.2.v.c∧(Mo.dt dX ex s k).2.v.aO=s.2.v.aO∧(Mo.dt dX ex s k).2.tn≤s.2.tn+1:=by
 obtain⟨h1,h2,h3,h4,h5,h6⟩:=tC s.2 k
 unfold Mo.dt
 rcases hm:s.2.meet k with⟨_|p,N⟩<;>rw[hm]at h1 h2 h3 h4 h5 h6
 ·exact⟨h1,h2,h3,h4,h5,by dsimp only at*;omega⟩
 dsimp only at*
 cases dX
 ·exact⟨h1,h2,h3,h4,h5,by show N.tn≤_;omega⟩
 refine⟨h1,h2,h3,h4,h5, ?_⟩
 have:=yP N p (eU N.k.now ex)
 show(N.time p _).tn≤_
 omega
theorem F9 (dX:Bool)(ex:Int):∀(l:List (List UInt8)) (s:List I3×Mo),(l.foldl (Mo.dt dX ex) s).2.hole=s.2.hole∧(l.foldl (Mo.dt dX ex) s).2.m=s.2.m∧(l.foldl (Mo.dt dX ex) s).2.v.p=s.2.v.p∧(l.foldl (Mo.dt dX ex) s).2.v.c=s.2.v.c∧(l.foldl (Mo.dt dX ex) s).2.v.aO=s.2.v.aO∧(l.foldl (Mo.dt dX ex) s).2.tn≤s.2.tn+l.length
 | [],s=>⟨rfl,rfl,rfl,rfl,rfl,aan _⟩
 |k::l,s=>by
  obtain⟨a1,a2,a3,a4,a5,a6⟩:=TP dX ex s k
  obtain⟨b1,b2,b3,b4,b5,b6⟩:=F9 dX ex l (Mo.dt dX ex s k)
  rw[List.foldl_cons,adm]
  exact⟨b1.trans a1,b2.trans a2,b3.trans a3,b4.trans a4,b5.trans a5,by omega⟩
theorem Tg{M:Mo}{r:Nat}{old:Option Nat}{n:I3}:(M.fA r old n).hole=none∧(M.fA r old n).m=M.m∧(M.fA r old n).v.p=M.v.p∧(M.fA r old n).v.c=M.v.c∧(M.fA r old n).v.aO=M.v.aO+1∧(M.fA r old n).tn≤M.tn+1:=by
 cases old<;>refine⟨rfl,rfl,rfl,rfl,rfl, ?_⟩
 ·show(if 0<n.exp then M.tn+1 else M.tn)≤_
  split<;>omega
 show(if 0<n.exp then M.tn+1 else M.tn)≤_
 split<;>omega
theorem FA (M:Mo)(old:Option Nat)(ov:Bool):Kd M (M.over old ov) 0:=by
 unfold Mo.over
 cases old with
 |none=>exact .rf rfl rfl rfl rfl rfl rfl
 |some p=>dsimp only;split<;>exact .rf rfl rfl rfl rfl rfl rfl
theorem Kd.kQ{M N:Mo}{own:Option Nat}(s:EL M N own)(h:N.hole=M.hole):Kd M N 0:= .rf h s.st s.p s.c s.aO s.tn
theorem Kd.tr{M N O:Mo}{s t:Nat}(a:Kd M N s)(i:N.v.aO=M.v.aO)(b:Kd N O t):Kd M O (s+t):=⟨b.ho.trans a.ho,b.st.trans a.st,b.p.trans a.p,b.c.trans a.c,by have:=b.aO;omega,by have:=a.tn;have:=b.tn;omega⟩
theorem Fo{M:Mo}(K:og M)(hh:M.hole=none)(n:Nat)(own old:Option Nat)(ov:Bool)(X:Mo→Nat→I3)(a:eH)(b:eH):Kd M (match M.room n own with|(none,R)=>(a,R.over old ov)|(some r,R)=>(b,R.fA r old (X R r))).2 1:=by
 have R:=tq K (n:=n) (own:=own) (o:=(M.room n own).1) (N:=(M.room n own).2) rfl
 rcases hr:M.room n own with⟨_|r,N⟩<;>rw[hr]at R
 ·exact((Kd.kQ R.s (R.no rfl)).tr R.s.aO (FA N old ov)).le (by omega)
 obtain⟨l1,l2,l3,l4,l5,l6⟩:=Tg (M:=N) (r:=r) (old:=old) (n:=X N r)
 exact⟨l1.trans hh.symm,by rw[l2];exact R.s.st,l3.trans R.s.p,l4.trans R.s.c,(by show(N.fA r old (X N r)).v.aO≤_;rw[l5,R.s.aO];omega),(by have h9:N.tn=M.tn:=R.s.tn;show(N.fA r old (X N r)).tn≤_;omega)⟩
theorem Gl{M:Mo}(K:og M)(hh:M.hole=none)(c:dB):Kd M (M.fb c).2 (max c.keys.length 1):=by
 have mk:=λk=>tC M k
 have K1:∀k o N,M.meet k=(o,N)→og N∧N.hole=none∧Kd M N 0∧N.v.aO=M.v.aO:=λk o N h=>by
  obtain⟨h1,h2,h3,h4,h5,h6⟩:=mk k
  rw[h]at h1 h2 h3 h4 h5 h6
  exact⟨K.meet h,h1.trans hh, .rf h1 (congrArg kf.st h2) h3 h4 h5 h6,h5⟩
 unfold Mo.fb
 split
 ·obtain⟨g1,g2,g3,g4,g5,g6⟩:=F9 (decide (c.verb=3∨c.verb=4)) c.ex c.keys ([],M)
  exact⟨g1,congrArg kf.st g2,g3,g4,by have:=g5;show _≤_;unfold Mo.kX;dsimp only at*;omega,by unfold Mo.kX;dsimp only at*;omega⟩
 split
 ·unfold Mo.counts
  rcases hm:M.meet (c.keys.headD [])with⟨_|p,N⟩<;>obtain⟨k1,k2,k3,k4⟩:=K1 _ _ _ hm
  ·exact k3.le (by omega)
  dsimp only
  split
  ·exact k3.le (by omega)
  next n _=>
  unfold Mo.fw
  split
  ·exact(k3.tr k4 (⟨rfl,rfl,rfl,rfl,(by show N.v.aO+1≤_;exact aan _),aan _⟩:Kd N ((((N.jC p (dw (mK c n))).kG (N.v.aO+1)).tok p (N.v.aO+1)).marks p 0|>.jz p) 0)).le (by omega)
  split
  ·exact k3.le (by omega)
  have:=Fo k1 k2 (58+(N.it p).key.length+(dw (mK c n)).length) (some p) (some p) false (λR r=>⟨(N.it p).key,dw (mK c n),(N.it p).fl,(N.it p).exp,R.k.now,R.v.aO+1,0⟩) (.t gx) ⟨7,[],mK c n,[]⟩
  refine Kd.le (k3.tr k4 (t:=1) ?_) (by omega)
  revert this
  generalize N.room (58+(N.it p).key.length+(dw (mK c n)).length) (some p)=o
  rcases o with⟨_|r,R⟩
  ·exact λh=>h
  exact λh=>h
 split
 ·unfold Mo.ct
  rcases hm:M.meet (c.keys.headD [])with⟨_|p,N⟩<;>obtain⟨k1,k2,k3,k4⟩:=K1 _ _ _ hm
  ·exact k3.le (by omega)
  exact(k3.tr k4 (⟨rfl,rfl,rfl,rfl,Nat.le_succ _,yP N p _⟩:Kd N ((N.time p (eU N.k.now c.ex)).jz p) 1)).le (by omega)
 split
 ·unfold Mo.delete
  rcases hm:M.meet (c.keys.headD [])with⟨_|p,N⟩<;>obtain⟨k1,k2,k3,k4⟩:=K1 _ _ _ hm
  ·exact k3.le (by omega)
  exact(k3.tr k4 (Kd.rf rfl rfl rfl rfl rfl rfl:Kd N (N.bM p) 0)).le (by omega)
 split
 ·exact(Kd.rf (M:=M) (N:={M with k:=M.k.flush c.ex M.v.aO,x:=M.x.again}) rfl rfl rfl rfl rfl rfl).le (by omega)
 split
 ·exact(Kd.rf (N:=M) rfl rfl rfl rfl rfl rfl).le (by omega)
 split
 ·exact(Kd.rf (N:=M) rfl rfl rfl rfl rfl rfl).le (by omega)
 split
 ·exact(Kd.rf (N:=M) rfl rfl rfl rfl rfl rfl).le (by omega)
 unfold Mo.cS
 rcases hm:M.meet (c.keys.headD [])with⟨o,N⟩
 obtain⟨k1,k2,k3,k4⟩:=K1 _ _ _ hm
 refine Kd.le (k3.tr k4 (t:=1) ?_) (by omega)
 dsimp only
 unfold Mo.iz
 split
 ·exact(FA _ _ _).le (by omega)
 split
 ·exact(Kd.rf (N:=N) rfl rfl rfl rfl rfl rfl).le (by omega)
 split
 ·exact(Kd.rf (N:=N) rfl rfl rfl rfl rfl rfl).le (by omega)
 next x _=>
 unfold Mo.lays
 exact Fo k1 k2 (58+(c.keys.headD []).length+x.1.length) o o (Cg c.verb) (λR r=>⟨c.keys.headD [],x.1,x.2.1,x.2.2,R.k.now,R.v.aO+1,0⟩) (.t gx) (.k 1)
end Go.Proofs.YtdolmecackmjdaaGreatDoor
namespace Go.Proofs.YtdolmecackmjdaaGreatDoor
open Go Go.cV Go.Proofs.YtdolmecackmjdaaGreatDoor.Cs
def yl:List UInt8:= [98,97,100,32,99,111,109,109,97,110,100]
noncomputable def Mo.dO (hot warm:Nat)(M:Mo)(c:dB):eH×Mo:=
 if yi c=true then(.t yl,M.reset)
 else if bQ c.verb=0 then((M.reset.fb c).1,(M.reset.fb c).2.beside)
 else((M.reset.fb c).1,c.keys.foldl (Mo.behind hot warm) (M.reset.fb c).2)
structure Bk (M N:Mo)(t:Nat):Prop where
 h:M.hole=none→N.hole=none
 st:N.m.st≤M.m.st+t
 p:N.v.p=M.v.p
 c:N.v.c=M.v.c
 aO:N.v.aO=M.v.aO
 tn:N.tn=M.tn
theorem Bk.refl (M:Mo):Bk M M 0:=⟨id,aan _,rfl,rfl,rfl,rfl⟩
theorem Bk.trans{M N O:Mo}{s t:Nat}(a:Bk M N s)(b:Bk N O t):Bk M O (s+t):=⟨λh=>b.h (a.h h),by have:=a.st;have:=b.st;omega,b.p.trans a.p,b.c.trans a.c,b.aO.trans a.aO,b.tn.trans a.tn⟩
theorem nY (M:Mo):Bk M M.beside 1:=by
 obtain⟨a1,a2,a3,a4,a5,a6,a7⟩:=lB M.eD M.eD.k.now M.eD.v.p.c
 obtain⟨b1,b2⟩:=fP M.eD.iy M.eD.iy.v.p.m
 have h1:Bk M M.eD 0:=⟨id,aan _,rfl,rfl,rfl,rfl⟩
 have h2:Bk M.eD M.eD.iy 0:=⟨λh=>a1.trans h,by show(M.eD.bX _ _).2.m.st≤_;rw[a2];exact aan _,a3,a5,a6,a7⟩
 have h3:Bk M.eD.iy M.eD.iy.jk 1:=⟨b1.h,b2,b1.p,b1.c,b1.aO,b1.tn⟩
 exact(h1.trans h2).trans h3
theorem rW (hot warm:Nat)(M:Mo)(k:List UInt8):Bk M (M.behind hot warm k) 1:=by
 have h:Bk M (M.mL hot warm k) 0:=by
  unfold Mo.mL
  split
  ·exact .refl M
  exact⟨id,aan _,rfl,rfl,rfl,rfl⟩
 have:=h.trans (nY (M.mL hot warm k))
 rwa[aas]at this
theorem pI (hot warm:Nat):∀(l:List (List UInt8)) (M:Mo),Bk M (l.foldl (Mo.behind hot warm) M) l.length
 | [],M=> .refl M
 |k::l,M=>by
  have:=(rW hot warm M k).trans (pI hot warm l (M.behind hot warm k))
  rw[Nat.add_comm]at this
  exact this
theorem VB (sL:mX)(z:Ly)(J8:z.hot≤100)(JR:z.warm≤100)(M:Mo)(c:dB)(ka:Option Addr)(kc:Nat)(da:Option Addr)(dc:Nat)(mv:Value)(j8:mv.oneCell'=true)(hA:gB M 1)(hA2:gB (M.reset.fb c).2 1)(Uw:c.keys.length<1073741824)(pO:∀k∈c.keys,k.length<281474976710656)(hex:c.ex<9223372036854775808)(hda:c.data.length<281474976710656)(JV:c.dl<18446744073709551616)
  (hh:M.hole=none) (iU:M.m.st+c.keys.length<4611686018427387904) (Kc:sW M.v.p) (GR:M.v.c.lim≤1048576) (qZ:M.v.aO+1<18446744073709551616) (rZ:M.tn+c.keys.length<18446744073709551615):
  aF aaa 11 [.pointer (some ⟨z.s,0,none⟩), .agg (dZ c ka kc da dc mv).toArray] (λh=>eB h ka (fU c.keys)∧eB h da (ak c.data)) [SW z M] (GX z (M.dO z.hot z.warm c)):=by
 refine af func11 rfl ntmps11 rfl ?_
 rintro F ⟨hr,hd⟩
 refine aA ?_
 refine Lp (oB λb1=> ?_)
 refine Lp (oA T.kj λb2=> ?_)
 refine aA ?_
 refine Hh (H':= [SW z M,ag b1 47 (dZ c ka kc da dc mv),ag b2 41 [.int .i64 0,bc, .int .u64 0,aT [],bc]]) ?_
 refine bD ?_
 refine Lp (aaU 21 T.M5 ?_)
 refine bf ?_
 refine Lp (Z7 (i:=28) T.KC ?_)
 change G _ _ _ _ _ [SW z M.reset,ag b1 47 (dZ c ka kc da dc mv),ag b2 41 [.int .i64 0,bc, .int .u64 0,aT [],bc]]
 refine aW ?_
 refine zl T.acN (Zw c ka kc da dc mv j8 (by omega) pO) .nil (λ_ le _=>hr.mono le) ?_
 rcases hb:yi c with _|_
 ·have jt:M.dO z.hot z.warm c=if bQ c.verb=0 then((M.reset.fb c).1,(M.reset.fb c).2.beside)else((M.reset.fb c).1,c.keys.foldl (Mo.behind z.hot z.warm) (M.reset.fb c).2):=by unfold Mo.dO;rw[hb,if_neg (by decide)]
  refine oz λwa wc B O=> ?_
  have KD:=Gl (M:=M.reset) ⟨O.ZI,O.Qv.nd,O.Qv.lv,O.Qv.on⟩ hh c
  refine bL ?_
  refine Lp (oC T.acM rfl rfl (WQ z M.reset c ka kc da dc mv j8 hA.sp hb Uw pO rfl hex hda JV hh (by show M.m.st<_;omega) GR qZ rZ) (.cons .here .nil) (λ_ le _=>⟨hr.mono le,hd.mono le⟩) ?_)
  rintro v H' ⟨ea,ec,l,hl,rfl,rfl⟩
  refine bd ?_
  generalize hR:M.reset.fb c=r at*
  obtain⟨a,N⟩:=r
  dsimp only at KD hl jt hA2⊢
  have hN0:N.hole=none:=KD.ho.trans hh
  have hNs:N.m.st+c.keys.length<4611686018427387904:=by have:=KD.st;change N.m.st=M.m.st at this;omega
  have hNp:sW N.v.p:=by have:=KD.p;change N.v.p=M.v.p at this;rw[this];exact Kc
  refine Lp (oA T.kj λb3=> ?_)
  refine Lp (gM T.cU ?_ (h1:=by simp[dY,Value.oneCell',aT,bc]))
  refine br ?_
  refine zl T.Vu (Av c.verb) .nil (λ_ _ _=>trivial) ?_
  by_cases h0:bQ c.verb=0
  ·rw[if_pos h0]at jt
   refine bf ?_
   refine fB ?_ (e:=by exact decide_eq_true h0)
   refine bf ?_
   refine zl T.KS (sA sL z N hN0 (by omega) hNp hA2) (.cons (.there (.there (.there .here))) .nil) (λ_ _ _=>trivial) ?_
   refine bq ?_
   refine Lp (gM T.cU ?_ (h1:=by simp[dY,Value.oneCell',aT,bc]))
   refine bq ?_
   refine EM [own ea ec 49 9 (ff l),gp l,SW z N.beside] T.cU results11 ?_
   exact⟨ea,ec,l,by rw[jt];exact hl,by rw[jt];rfl,by rw[jt]⟩
  rw[if_neg h0]at jt
  refine bf ?_
  refine dm ?_ (e:=by exact decide_eq_false h0)
  refine bA ?_
  refine Lo (ι:=Nat×Mo) [33,34,35,7,36,37,38,39,32] (λs=>(s.1≤c.keys.length∧s.2=(c.keys.take s.1).foldl (Mo.behind z.hot z.warm) N)) (λs=> [(32, .int .i64 (s.1:Int))]) (λs=> [SW z s.2,ag b1 47 (dZ c ka kc da dc mv),ag b2 41 [.int .i64 0,bc, .int .u64 0,aT [],bc],ag b3 41 (dY a.kind (.slice ea l.length ec) a.num a.s7),own ea ec 49 9 (ff l),gp l]) (λs=>c.keys.length-s.1) ((0,N)) ⟨aay _,rfl⟩ ?_
  rintro⟨i,X⟩ hI
  dsimp only at hI⊢
  obtain⟨hi,hX⟩:=hI
  by_cases cB:i<c.keys.length
  ·have B5:=tm c.keys i cB
   have Ur:ka.isSome=true:=by obtain⟨ad,e,_⟩:=hr i _ B5;rw[e];rfl
   have Cp:=pO _ (aam cB)
   have hX2:X.behind z.hot z.warm c.keys[i]=(c.keys.take (i+1)).foldl (Mo.behind z.hot z.warm) N:=by rw[adX,aac cB,afk,←hX];rfl
   have bk:=pI z.hot z.warm (c.keys.take i) N
   rw[←hX]at bk
   have UC:(c.keys.take i).length=i:=by rw[List.length_take];omega
   rw[UC]at bk
   have bst:=bk.st
   have hAX:gB X 1:=by rw[hX];exact hA2.ev (gB.l9 (j:=0) z.hot z.warm _ hA2)
   generalize c.keys[i]=k at*
   refine bq ?_
   refine aw ?_
   refine fB ?_
   refine br ?_
   refine Li (Ix T.qa) ?_
   refine bD ?_
   refine zl T.acL (D6 sL z X k Cp (bk.h hN0) (by omega) (by rw[bk.p];exact hNp) hAX J8 JR) (.cons .here .nil) (λ_ _ _=>trivial) ?_
   refine bD ?_
   refine aG ?_
   refine Ro ((i+1,X.behind z.hot z.warm k)) (⟨cB,hX2⟩) ((by dsimp only;omega))
  refine iu ?_
  refine bf ?_
  refine aw ?_
  refine dm ?_
  refine bL ?_
  refine Lp (gM T.cU ?_ (h1:=by simp[dY,Value.oneCell',aT,bc]))
  refine bf ?_
  obtain rfl:i=c.keys.length:=by omega
  rw[aeG]at hX
  rw[←hX]at jt
  refine EM [own ea ec 49 9 (ff l),gp l,SW z X] T.cU results11 ?_
  exact⟨ea,ec,l,by rw[jt];exact hl,by rw[jt];rfl,by rw[jt]⟩
 have jt:M.dO z.hot z.warm c=(.t yl,M.reset):=by unfold Mo.dO;rw[hb,if_pos rfl]
 refine bq ?_
 refine zl T.qf (fO yl) .nil (λ_ _ _=>trivial) ?_
 unfold sU dY bc
 refine Li (Fga PM T.cU) ?_
 refine Lp (gM T.cU ?_ (h1:=by simp[dY,Value.oneCell',aT,bc]))
 refine bq ?_
 refine dK 49 9 ?_
 refine qB ?_
 refine EM [own none 0 49 9 [],gp [],SW z M.reset] T.cU results11 ?_
 exact⟨none,0,[],by rw[jt];rfl,by rw[jt];rfl,by rw[jt];rfl⟩
theorem RS (t b:Nat)(W:Tb)(y:oa):aF aaa 42 [.pointer (some ⟨t,0,none⟩)] (In (ag t 145 (eT b W y))) [] (λv H=>v= .int .i64 (W.n:Int)∧H= []):=by
 unfold eT
 refine af func42 rfl ntmps42 rfl ?_
 intro F h0
 refine bI ?_
 refine Rt [] results42 ?_
 exact⟨rfl,rfl⟩
theorem NG (z:Ly)(M:Mo):aF aaa 42 [.pointer (some ⟨z.y.t,0,none⟩)] (λ_=>True) [SW z M] (λv H=>v= .int .i64 (M.n:Int)∧H= [SW z M]):=
 ll λwa wc B O=>by
  have h:=RS z.y.t z.y.b B.W B.ty
  rw[show B.W.n=M.n from O.n]at h
  exact⟨_,h,λk k0 le h aq=>aq.nth 1 rfl⟩
theorem E9 (z:Ly)(M:Mo):aF aaa 24 [.pointer (some ⟨z.s,0,none⟩)] (λ_=>True) [SW z M] (λv H=>v= .int .i64 (M.k.now:Int)∧H= [SW z M]):=by
 refine af func24 rfl ntmps24 rfl ?_
 intro F _
 refine dg ?_
 refine zl T.gI (NF z M) (.cons .here .nil) (λ_ _ _=>trivial) ?_
 refine bq ?_
 refine Rt [SW z M] results24 ?_
 exact⟨rfl,rfl⟩
theorem RE (z:Ly)(M:Mo):aF aaa 13 [.pointer (some ⟨z.s,0,none⟩)] (λ_=>True) [SW z M] (λv H=>v= .int .i64 (M.n:Int)∧H= [SW z M]):=by
 refine af func13 rfl ntmps13 rfl ?_
 intro F _
 refine dg ?_
 refine zl T.acK (NG z M) (.cons .here .nil) (λ_ _ _=>trivial) ?_
 refine bq ?_
 refine Rt [SW z M] results13 ?_
 exact⟨rfl,rfl⟩
theorem vO (z:Ly)(M:Mo):aF aaa 23 [.pointer (some ⟨z.s,0,none⟩)] (λ_=>True) [SW z M] (λv H=>v= .int .u64 (M.v.aO:Int)∧H= [SW z M]):=by
 refine af func23 rfl ntmps23 rfl ?_
 intro F _
 refine bI ?_
 refine Rt [SW z M] results23 ?_
 exact⟨rfl,rfl⟩
theorem Hj (z:Ly)(M:Mo)(n:Int)(hi:M.v.aO<18446744073709551616):aF aaa 44 [.pointer (some ⟨z.y.ck,0,none⟩), .int .i64 n, .int .u64 (M.v.aO:Int)] (λ_=>True) [SW z M]
  (λv H=>v= .int .i64 (M.k.Cy n)∧H= [SW z {M with k:=M.k.move n M.v.aO}]):=
 gy (N:={M with k:=M.k.move n M.v.aO}) (T:=λv=>v= .int .i64 (M.k.Cy n)) λa c=>eF λB O=>by
  have h:=(JF z.y.ck M.k O.ck n M.v.aO hi).fr (H:=fk z B (M.aD a c)++ []) (R:= [Cl z.y.b B.C,ag z.y.t 145 (eT z.y.b B.W B.ty),ag B.ty.nk 163 (aC (au B.W.nb)),jd B.ty.ok 163 (aC (au B.W.ob)),ag z.y.q 139 (fj z.y.b z.qb B.C.ae.length),ag z.qb 327 (M.Q.flatMap (dR B.C)),gu z.y.cr z.y.q z.y.wh B.C.ae.length (bo z.s) (bn z.s) B.C M.x,Wl z.y.wh B.E M.tn,gr z.s z.y (gd (M.aD a c).v),
   iW z.y.lu z.y.b z.y.q z.hot z.warm,mG z.y.mo z.y.b z.ub (bo z.s) (bn z.s) (bT z.s) M.m,mN z.ub M.m,kF (M.aD a c)]) (.cons (.there (.there (.there (.there (.there (.there (.there (.there (.there .here))))))))) .nil) (λ_ _=>trivial)
  refine h.out ?_
  rintro v H' ⟨H0,⟨rfl,rfl⟩,rfl⟩
  refine⟨[SH z (({M with k:=M.k.move n M.v.aO}:Mo).aD a c)],⟨rfl,rfl⟩,λk s=>aK (O.ck1 (O.ck.move n hi)) (H:= []) k ?_⟩
  revert s
  revert k
  simp only[s8,cap,adR]
  unfold fk
  exact Eh
theorem DR (sL:mX)(z:Ly)(M:Mo)(now aB:Int):aF aaa 45 [.pointer (some ⟨z.y.cr,0,none⟩), .int .i64 now, .int .i64 aB] (λ_=>True) [SW z M]
  (λv H=>(∃t:Int,v= .tuple #[.int .i64 ((M.bX now aB).1:Int), .int .i64 t])∧H= [SW z (M.bX now aB).2]):=
 gy (N:=(M.bX now aB).2) (T:=λv=>∃t:Int,v= .tuple #[.int .i64 ((M.bX now aB).1:Int), .int .i64 t]) λa c=>
  (Bt sL z (M.aD a c) now aB).out (by
   rintro v H' ⟨n,t,M',hm,rfl,rfl⟩
   rw[Gq]at hm
   simp only[Prod.mk.injEq]at hm
   obtain⟨rfl,rfl⟩:=hm
   exact⟨_,⟨⟨t,rfl⟩,rfl⟩,λk s=>s⟩)
def Mo.dp (M:Mo)(n:Int):Mo:={M with k:=M.k.move n M.v.aO}
noncomputable def Mo.tick (M:Mo)(n:Int):Mo:=if M.k.Cy n=0 then((M.dp n).reset.bX (M.dp n).k.now 64).2.aV {((M.dp n).reset.bX (M.dp n).k.now 64).2.v.mt with cr:=(((M.dp n).reset.bX (M.dp n).k.now 64).1:Int)}else M
theorem Ff (sL:mX)(z:Ly)(M:Mo)(n:Int)(hi:M.v.aO<18446744073709551616):aF aaa 16 [.pointer (some ⟨z.s,0,none⟩), .int .i64 n] (λ_=>True) [SW z M] (λv H=>v= .int .i64 (M.k.Cy n)∧H= [SW z (M.tick n)]):=by
 have x0:=Hj z M n hi
 change aF _ _ _ _ _ (λv H=>v= .int .i64 (M.k.Cy n)∧H= [SW z (M.dp n)])at x0
 have ht:M.tick n=if M.k.Cy n=0 then((M.dp n).reset.bX (M.dp n).k.now 64).2.aV {((M.dp n).reset.bX (M.dp n).k.now 64).2.v.mt with cr:=(((M.dp n).reset.bX (M.dp n).k.now 64).1:Int)}else M:=rfl
 refine af func16 rfl ntmps16 rfl ?_
 intro F _
 refine bq ?_
 refine aw ?_
 refine ik 10 T.mix (.cons .here .nil) λF1 je bR aM=> ?_
 obtain⟨q1,_⟩:=bR
 refine aW ?_
 first
  |refine Ti (Lf T.lU) ?_
  |refine Ti (x5 T.lU q1) ?_
 refine aW ?_
 first
  |refine Ti (Lf T.ot) ?_
  |refine Ti (x5 T.ot q1) ?_
 refine gO aM ?_
 refine Tp (oC T.acJ rfl rfl (x0) (.cons .here .nil) (λ_ _ _=>trivial) ?_)
 rintro v H' ⟨rfl,rfl⟩
 refine bd ?_
 refine bL ?_
 by_cases h0:M.k.Cy n=0
 ·rw[if_pos h0]at ht
  rw[h0]
  refine dg ?_
  refine Lp (aaU 21 T.M5 ?_)
  refine bf ?_
  refine Lp (Z7 (i:=28) T.KC ?_)
  change G _ _ _ _ _ [SW z (M.dp n).reset]
  refine aA ?_
  refine aw ?_
  refine ik 11 T.mix (.cons .here .nil) λF2 zM eG ez=> ?_
  obtain⟨q2,_⟩:=eG
  refine aW ?_
  first
   |refine Ti (Lf T.uK) ?_
   |refine Ti (x5 T.uK q2) ?_
  refine aW ?_
  first
   |refine Ti (Lf T.lU) ?_
   |refine Ti (x5 T.lU q2) ?_
  refine Tp (oC T.gI rfl rfl (jb z (M.dp n).reset) .nil (λ_ le _=>In.mono q2 le) ?_)
  rintro v H' ⟨rfl,rfl⟩
  refine bd ?_
  refine gO ez ?_
  rw[show(M.dp n).reset.k.now=(M.dp n).k.now from rfl]
  refine Tp (oC T.Vr rfl rfl (DR sL z (M.dp n).reset (M.dp n).k.now 64) (.cons .here .nil) (λ_ _ _=>trivial) ?_)
  rintro v H' ⟨⟨t,rfl⟩,rfl⟩
  refine bd ?_
  refine eC ?_
  refine Lp (Z7 (i:=26) T.dD ?_)
  refine br ?_
  refine Rt [SW z (((M.dp n).reset.bX (M.dp n).k.now 64).2.aV {((M.dp n).reset.bX (M.dp n).k.now 64).2.v.mt with cr:=(((M.dp n).reset.bX (M.dp n).k.now 64).1:Int)})] results16 ?_
  exact⟨rfl,by rw[ht]⟩
 rw[if_neg h0]at ht
 have hM:M.dp n=M:=by unfold Mo.dp Ck.move;rw[if_neg h0]
 rw[hM]
 refine fB ?_ (e:=by exact congrArg (!·) (decide_eq_false h0))
 refine bD ?_
 refine Rt [SW z M] results16 ?_
 exact⟨rfl,by rw[ht]⟩
def Ks:List Value:= [aT [], .slice none 0 0, .int .u64 0, .int .i64 0, .int .u64 0, .int .i64 0, .bool false, .bool false, .bool false]
def Mo.live (M:Mo)(k:List UInt8):Option Nat:=match M.find k with
 |some p=>if M.bC p=0 then some p else none
 |none=>none
def adb (z:Ly)(M:Mo)(o:Option Nat)(v:Value)(H:List aa):Prop:=match o with
 |some p=>∃vb,v= .tuple #[.agg (lT (M.it p) (.slice (some ⟨vb,0,none⟩) (M.it p).val.length (M.it p).val.length)).toArray, .bool true]∧H= [own (some ⟨vb,0,none⟩) (M.it p).val.length 5 1 (ak (M.it p).val),SW z M]
 |none=>v= .tuple #[.agg Ks.toArray, .bool false]∧H= [SW z M]
theorem vC (z:Ly)(M:Mo)(k:List UInt8)(hk:k.length<281474976710656):aF aaa 12 [.pointer (some ⟨z.s,0,none⟩),aT k] (λ_=>True) [SW z M] (adb z M (M.live k)):=by
 refine af func12 rfl ntmps12 rfl ?_
 intro F _
 refine aA ?_
 refine Lp (oA T.r8 λb1=> ?_)
 refine bf ?_
 refine Hh (H':= [SW z M,ag b1 49 Ks]) ?_
 refine oz λwa wc B O=> ?_
 refine bL ?_
 refine Lp (zA T.rY T.j6 T.oI λkb kc pL=> ?_)
 refine zl T.xc (Hk z M (some ⟨kb,0,none⟩) kc _ k rfl hk) (.cons (.there .here) .nil) (λ_ le aq=>bB (aq.nth 0 rfl)) ?_
 unfold Ks
 rcases hf:M.find k with _|p
 ·refine Li Mv ?_
  refine bA ?_
  refine zt 21 ?_ (e:=by rfl)
  refine gP ?_
  refine GY [SW z M] T.lh results12 ?_
  unfold Mo.live;rw[hf];exact⟨rfl,rfl⟩
 obtain⟨hp,_⟩:=lz hf
 refine bI ?_
 refine zf 21 ?_ (e:=by rfl)
 refine bf ?_
 refine zl T.Vt (Hl z M p hp) (.cons .here .nil) (λ_ _ _=>trivial) ?_
 by_cases h0:M.bC p=0
 ·rw[h0]
  refine dh ?_
  refine Lp (oC T.Vs rfl rfl (xw z M p hp) (.cons .here .nil) (λ_ _ _=>trivial) ?_)
  rintro v H' ⟨vb,rfl,rfl⟩
  refine bd ?_
  refine Lp (gM T.lh ?_ (h1:=by simp[lT,Value.oneCell',aT]))
  refine bq ?_
  refine GY [own (some ⟨vb,0,none⟩) (M.it p).val.length 5 1 (ak (M.it p).val),SW z M] T.lh results12 ?_
  unfold Mo.live;rw[hf];dsimp only;rw[if_pos h0];exact⟨vb,rfl,rfl⟩
 refine Li Pf ?_
 refine aA ?_
 refine fB ?_ (e:=by exact decide_eq_true h0)
 refine bf ?_
 refine Lp (gM T.lh ?_ (h1:=by simp[cR,Value.cells,Value.oneCell',aT]))
 refine aW ?_
 refine GY [SW z M] T.lh results12 ?_
 unfold Mo.live;rw[hf];dsimp only;rw[if_neg h0];exact⟨rfl,rfl⟩
end Go.Proofs.YtdolmecackmjdaaGreatDoor
