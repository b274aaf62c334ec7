/- Part Pl of the proof. -/
import Derived.Test.YtcbcjolpdljbiaaGreatPk
set_option maxRecDepth 100000
open Go.Proofs.YtcbcjolpdljbiaaGreat.T
open Nat renaming zero_le -> abn, le_refl -> abc, pow_succ -> ahD, zero_add -> abj, mod_eq_of_lt -> acZ, succ_pos -> amc, lt_of_le_of_lt -> ahB, le_add_right -> alf
open List renaming drop_eq_getElem_cons -> aik, getD_eq_getElem?_getD -> aaZ, getElem?_eq_getElem -> aa0, length_singleton -> ahp, length_append -> aa9, length_cons -> abu, append_assoc -> adr, length_set -> aa8, getElem?_map -> abf, getElem_mem -> abe, take_add_one -> ahP, take_length -> alb, append_nil -> acT, map_append -> adb, foldl_append -> alN, find?_eq_none -> ahL, map_cons -> aa7, sum_cons -> abp, ext_getElem? -> ah6, getElem?_set -> ahG, getElem?_eq_none -> abb, length_reverse -> aiv, reverse_append -> alF
open UInt8 renaming ofNat -> acU
open Bool renaming false_or -> alV, eq_iff_iff -> acR, not_eq_true' -> abi, false_eq_true -> abt
open Decidable renaming byContradiction -> aba
open Go.Proofs.Tryz renaming prog -> aaY
open Go.Proofs.Tryz
open Go.Value renaming int -> DE
open Go.IntKind renaming i64 -> DD, u64 -> DB, u8 -> amn
namespace Go.Proofs.YtcbcjolpdljbiaaGreat
open Go Go.dQ
def vi:Nat->F9->FW
 |n,[]=>some n
 |n,b::r=>if b.toNat<48\/57<b.toNat\/(18446744073709551615-(b.toNat-48))/10<n then none else vi (n*10+(b.toNat-48)) r
def kV (l:F9):FW:=if 0<l.length/\l.length<=20 then vi 0 l else none
def sS:F9:= [99,97,110,110,111,116,32,105,110,99,114,101,109,101,110,116,32,111,114,32,100,101,99,114,101,109,101,110,116,32,110,111,110,45,110,117,109,101,114,105,99,32,118,97,108,117,101]
def gd (kind:Nat)(ea:Value)(num:Nat)(uT:F9):FV:= [DE DD kind,ea,DE DB num,aW uT, .slice none 0 0]
def xZ (kind:Nat)(ea:Value)(num:Nat)(uT:F9):Value:= .agg (gd kind ea num uT).toArray
def bB:Value:= .slice none 0 0
theorem iC (t:F9):aK aaY 42 [aW t] vz [] (λv H=>v=xZ 11 bB 0 t/\H= []):=by
 refine af func42 rfl ntmps42 rfl ?_;intro F _;refine aw ?_;refine Lp (oA Hd λb1=> ?_);refine cY ?_;refine GF [] Ig results42 ?_;exact⟨rfl,rfl⟩
theorem Px (a:FX)(c m:Nat)(l:F9)(hm:m=l.length)(hl:m<281474976710656):
  XZ aaY 123 [.slice a m c] (λh=>fD h a (ak l)) [] (λv H=>(∃n:Nat,kV l=some n/\n<18446744073709551616/\v=DE DB n)/\H= []) (λv H=>kV l=none/\v= .iface 102 (xZ 11 bB 0 sS)/\H= []):=by
 subst hm;refine mC func123 rfl ntmps123 rfl ?_;intro F hr;refine cY ?_;refine aM (t:=11) rfl ?_ ?_
 ·intro h0
  replace h0:=aG h0;have h0':0<l.length:=by simpa using h0
  refine aY ?_;refine az (t:=15) (v':=(.bool (decide (l.length<=20)))) rfl (by exact congrArg Value.bool (by rw[decide_eq_decide];omega)) ?_;have hnv:kV l=if l.length<=20 then vi 0 l else none:=by unfold kV;by_cases h:l.length<=20<;>simp[h,h0']
  generalize lS:decide (l.length<=20)=ok at*;refine bj ?_;refine av ?_;refine cG (ι:=Bool×Nat) (FZ [3,2,6,2,16,31]) (λs=>(s.1=true->kV l=some s.2/\s.2<18446744073709551616)/\(s.1=false->kV l=none)) (λs=> [(3,DE DB s.2),(4, .bool s.1)]) (λs=> []) ?_ ?_
  ·refine iz ?_
   refine ba ?_;refine Lo (ι:=Nat×Nat) (FZ [3,2,6,2,18,29]) (λs=>s.1<=l.length/\s.2<18446744073709551616/\(ok=true->kV l=vi s.2 (l.drop s.1))/\(ok=false->s.1=0)) (λs=> [(3,DE DB s.2),(4, .bool ok),(18,DE DD s.1)]) (λs=> []) (λs=>l.length-s.1) ((0,0)) ⟨abn _,by decide,λh=>by rw[hnv,if_pos (by rw[h]at lS;simpa using lS)];rfl,λ_=>rfl⟩ ?_;rintro s hI;obtain⟨k,nn⟩:=s
   try dsimp only at hI⊢
   obtain⟨hk,hb,PY,xh⟩:=hI;by_cases ct:k<l.length
   ·have Xu:=Ty l k
    refine bj ?_;refine av ?_;refine eJ ?_;refine ba ?_;refine Li (Ix fx) ?_;refine fu ?_;rcases ok with _|_
    ·refine zt 27 ?_ (e:=by rfl)
     refine cC ?_;refine ba ?_;refine Me ((false,nn)) (⟨λh=>(by cases h),λ_=>(by rw[hnv];have:¬l.length<=20:=(by simpa using lS);rw[if_neg this])⟩)
    have hdr:l.drop k=l[k]::l.drop (k+1):=aik ct;have hi:=PY rfl;have hbe:tJ l k=l[k].toNat:=by unfold tJ;rw[aaZ,aa0 ct];rfl
    rw[hdr]at hi;refine zf 27 ?_ (e:=by rfl);refine aY ?_;by_cases h48:tJ l k<48
    ·refine zt 31 ?_
     refine cC ?_;refine aw ?_;refine Me ((false,nn)) (⟨λh=>(by cases h),λ_=>(by rw[hi];unfold vi;rw[if_pos (.inl (by omega))])⟩)
    refine zf 31 ?_;refine az (t:=7) (v':=(DE DB (tJ l k-48:Nat))) rfl (by exact congrArg (Value.int .u64) ((wrap_u64 (by omega)).trans (by omega))) ?_;refine aY ?_;by_cases h57:57<tJ l k
    ·refine zt 35 ?_
     refine rS ?_;refine Me ((false,nn)) (⟨λh=>(by cases h),λ_=>(by rw[hi];unfold vi;rw[if_pos (.inr (.inl (by omega)))])⟩)
    refine zf 35 ?_;refine bj ?_;refine az (t:=38) (v':=(DE DB (18446744073709551615-(tJ l k-48):Nat))) rfl (by exact congrArg (Value.int .u64) (by omega)) ?_;refine Li (QuU (q:=10)) ?_;refine bj ?_;by_cases Ag:(18446744073709551615-(tJ l k-48))/10<nn
    ·refine eJ ?_
     refine cu ?_;refine Me ((false,nn)) (⟨λh=>(by cases h),λ_=>(by rw[hi];unfold vi;rw[if_pos (.inr (.inr (by rw[<-hbe];exact Ag)))])⟩)
    refine cM ?_;refine fu ?_;refine aB ?_;refine Ro ((k+1,nn*10+(tJ l k-48))) (⟨ct,(by dsimp only;omega),λ_=>(by rw[hi];rw[vi,if_neg (by rw[<-hbe];omega),<-hbe]),λh=>(by cases h)⟩) ((by dsimp only;omega))
   refine iz ?_;refine bn ?_;refine av ?_;refine cM ?_;refine aY ?_;have qh:k=l.length:=by omega
   have aiY:ok=true:=by
    cases h:ok with
    |true=>rfl
    |false=>have:=xh h;omega
   have h1:=PY aiY;rw[qh,List.drop_length]at h1;refine Me ((ok,nn)) (⟨λ_=>⟨h1,hb⟩,λh=>(by rw[aiY]at h;cases h)⟩)
  rintro s hI;obtain⟨b,nn⟩:=s
  try dsimp only at hI⊢
  obtain⟨hj1,hj2⟩:=hI;rcases b with _|_
  ·refine av ?_
   refine ba ?_;refine cq ?_;refine zl Aq (iC sS) .nil DA ?_;refine Li (XB T.ia) ?_;refine Lp (Xe ?_);refine pP [] ?_;exact⟨hj2 rfl,rfl,rfl⟩
  refine av ?_;refine cL ?_;refine pR ?_;refine Rt [] results123 ?_;exact⟨⟨nn,(hj1 rfl).1,(hj1 rfl).2,rfl⟩,rfl⟩
 intro h0;replace h0:=aG h0;have hz:l.length=0:=by omega
 have hnv:kV l=none:=by unfold kV;rw[if_neg (by omega)]
 refine fu ?_;refine Lo (ι:=Unit) (FZ [3,2,6,2,18,29]) (λu=>True) (λu=> [(3,DE DB 0),(4, .bool false),(18,DE DD 0)]) (λu=> []) (λu=>0) (()) (by simp) ?_;rintro u hI;refine bj ?_;refine av ?_;refine cM ?_;refine bO ?_;refine cq ?_;refine zl Aq (iC sS) .nil DA ?_;refine Li (XB T.ia) ?_;refine Lp (Xe ?_);refine pP [] ?_;exact⟨hnv,rfl,rfl⟩
def dZ (n:Nat):F9:=if n<10 then [acU (48+n)]else dZ (n/10)++ [acU (48+n % 10)]
termination_by n
theorem xF{n:Nat}(h:n<10):dZ n= [acU (48+n)]:=by rw[dZ,if_pos h]
theorem Du{n:Nat}(h:¬n<10):dZ n=dZ (n/10)++ [acU (48+n % 10)]:=by rw[dZ,if_neg h]
theorem yZ (i:Nat):∀n,n<10^i->(dZ n).length<=max i 1:=by
 induction i with
 |zero=>intro n h;rw[xF (by simp at h;omega)];exact abc _
 |succ i ih=>
  intro n h;by_cases g:n<10
  ·rw[xF g];simp only[ahp];omega
  rw[Du g,aa9,ahp];have hi:i≠0:=λe=>by subst e;omega
  have:=ih (n/10) (by rw[ahD]at h;omega);omega
theorem set_drop{l:FV}{i:Nat}{v:Value}{r:FV}(h:l.drop (i+1)=r)(hi:i<l.length):(l.set i v).drop i=v::r:=by
 rw[aik (by simpa using hi),List.getElem_set_self,List.drop_set_of_lt (by omega),h]
theorem Uu (n0:Nat)(hn0:n0<18446744073709551616):aK aaY 124 [DE DB n0] vz []
  (λv H=>∃a c,v= .slice a (dZ n0).length c/\H= [own a c 5 1 (ak (dZ n0))]):=by
 refine af func124 rfl ntmps124 rfl ?_;intro F _;refine aY ?_;refine Lp (oA adN λb1=> ?_);refine ba ?_;refine Lo (ι:=Nat×Nat×F9×FV) (FZ [0,1,2,1,4,16]) (λs=>(1<=s.1/\s.1<=20/\s.2.1<10^s.1/\s.2.1<18446744073709551616/\s.2.2.1.length=20-s.1)/\(dZ s.2.1++s.2.2.1=dZ n0)/\s.2.2.2.length=20/\s.2.2.2.drop s.1=ak s.2.2.1) (λs=> [(0,DE DB s.2.1),(2, .slice none 0 0),(4,DE DD s.1)]) (λs=> [ag b1 261 s.2.2.2]) (λs=>s.2.1+1) ((20,n0,[],[DE amn 0,DE amn 0,DE amn 0,DE amn 0,DE amn 0,DE amn 0,DE amn 0,DE amn 0,DE amn 0,DE amn 0,DE amn 0,DE amn 0,DE amn 0,DE amn 0,DE amn 0,DE amn 0,DE amn 0,DE amn 0,DE amn 0,DE amn 0])) ⟨⟨Nat.le_of_ble_eq_true rfl,abc _,by dsimp only;omega,hn0,rfl⟩,by simp,rfl,rfl⟩ ?_;rintro⟨i,n,ds,cs⟩ hI
 try dsimp only at hI⊢
 obtain⟨⟨h0,h1,h2,h3,h4⟩,h5,h6,h7⟩:=hI;obtain⟨i,rfl⟩:∃j,i=j+1:=⟨i-1,by omega⟩;have hc:(acU (48+n % 10)).toNat=48+n % 10:=by rw[UInt8.toNat_ofNat'];omega
 have h8:=set_drop (v:=DE amn ((acU (48+n % 10)).toNat)) h7 (by omega);have h9:DE amn ((acU (48+n % 10)).toNat)::ak ds=ak (acU (48+n % 10)::ds):=rfl;rw[h9]at h8;rw[ahD]at h2;refine bL ?_;refine az (t:=4) (v':=(DE DD i)) rfl (by exact congrArg (Value.int .i64) (by omega)) ?_;refine bn ?_;refine Li (Rm (q:=10)) ?_;refine bn ?_;refine az (t:=11) (v':=(DE amn ((acU (48+n % 10)).toNat))) rfl (by exact congrArg (Value.int .u8) (by rw[hc];first|exact(wrap_u8 (by omega)).trans (by omega)|omega)) ?_;refine Li (Ia TD) ?_;refine aY ?_;refine Li (QuU (q:=10)) ?_;refine bA ?_;simp only[abj];by_cases hz:n/10=0
 ·have hn:n<10:=by omega
  have XQ:acU (48+n % 10)::ds=dZ n0:=by rw[<-h5,xF hn,acZ hn];rfl
  refine eJ ?_;refine bn ?_;refine Li (SlA i 20 20 TD) ?_;refine cX 5 1 ?_;have DJ:(dZ n0).length=20-i:=by rw[<-XQ,abu];omega
  refine Lp (fW iT qx rfl rfl rfl rfl .here (rfl) (eQ (news:=ak (dZ n0)) (m:=20-i) (by rw[kf,DJ,Nat.mul_one]) λh le au=>(by obtain⟨k,p,l⟩:=au.nth 1 rfl;have q:=(rj (i:=i) p).mono l;rw[h8,XQ]at q;rw[abj];exact q)) (by first|exact ee|(simp[Value.oneCell',aW])) (by first|omega|(simp;omega)) (by first|omega|(simp;omega)) rfl λa1 c1 BN=> ?_);refine bA ?_;rw[show 0+(20-i)=(dZ n0).length by omega];refine Rt [own a1 c1 5 1 (ak (dZ n0))] results124 ?_;exact⟨a1,c1,rfl,rfl⟩
 refine cM ?_;refine bn ?_;have PY:1<=i:=by
  rcases i with _|i
  ·simp at h2;omega
  omega
 refine Ro ((i,n/10,acU (48+n % 10)::ds,cs.set i (DE amn ((acU (48+n % 10)).toNat)))) (⟨⟨PY,(by dsimp only;omega),(by dsimp only;omega),(by dsimp only;omega),(by dsimp only[abu];omega)⟩,(by dsimp only;rw[<-h5,Du (n:=n) (by omega),adr];rfl),(by dsimp only;rw[aa8];exact h6),h8⟩) ((by dsimp only;omega))
structure dy where
 ax:Int
 keys:List F9
 fl:Nat
 ex:Int
 tok:Nat
 dl:Nat
 data:F9
 nor:Bool
 lg:Bool
 L4:F9
def fk (l:List F9):FV:=l.map aW
theorem xn (l:List F9)(k:Nat)(h:k<l.length):(fk l)[k]?=some (aW l[k]):=by
 unfold fk;rw[abf,aa0 h];rfl
def dB (c:dy)(ka:FX)(kc:Nat)(da:FX)(dc:Nat)(mv:Value):FV:=
 [DE DD c.ax, .slice ka c.keys.length kc,DE DB c.fl,DE DD c.ex,DE DB c.tok,DE DB c.dl, .slice da c.data.length dc, .bool c.nor, .bool c.lg,mv,aW c.L4]
def bm (v:Int):Int:=if 1<=v/\v<=4 then 2 else if 5<=v/\v<=14 then 1 else if 15<=v/\v<=18 then 0 else-1
def lY (c:dy):Bool:=decide (bm c.ax<0\/0<bm c.ax/\c.keys.length=0\/bm c.ax=1/\1<c.keys.length) ||(decide (0<bm c.ax)&&c.keys.any λk=> !cU k) ||decide (5<=c.ax/\c.ax<=10/\4294967295<c.fl)
theorem EH (v:Int):aK aaY 44 [DE DD v] vz [] (λw H=>w=DE DD (bm v)/\H= []):=by
 refine af func44 rfl ntmps44 rfl ?_;intro F _;refine cu ?_;refine aM (t:=6) rfl ?_ ?_
 ·intro cB
  replace cB:=aG cB;refine ba ?_;refine aA rfl ?_ ?_
  ·intro cK
   replace cK:=aG cK;refine bA ?_;refine Rt [] results44 ?_;refine⟨?_,rfl⟩;unfold bm
   repeat' split
   all_goals first|rfl|(exfalso;omega)
  intro cK;replace cK:=aG cK;refine aY ?_;refine aM (t:=13) rfl ?_ ?_
  ·intro cy
   replace cy:=aG cy;refine ba ?_;refine aA rfl ?_ ?_
   ·intro ca
    replace ca:=aG ca;refine bA ?_;refine Rt [] results44 ?_;refine⟨?_,rfl⟩;unfold bm
    repeat' split
    all_goals first|rfl|(exfalso;omega)
   intro ca;replace ca:=aG ca;refine aY ?_;refine aM (t:=20) rfl ?_ ?_
   ·intro cZ
    replace cZ:=aG cZ;refine ba ?_;refine aA rfl ?_ ?_
    ·intro iR
     replace iR:=aG iR;refine bA ?_;refine Rt [] results44 ?_;refine⟨?_,rfl⟩;unfold bm
     repeat' split
     all_goals first|rfl|(exfalso;omega)
    intro iR;replace iR:=aG iR;refine bL ?_;refine Rt [] results44 ?_;refine⟨?_,rfl⟩;unfold bm
    repeat' split
    all_goals first|rfl|(exfalso;omega)
   intro cZ;replace cZ:=aG cZ;refine gQ ?_;refine Rt [] results44 ?_;refine⟨?_,rfl⟩;unfold bm
   repeat' split
   all_goals first|rfl|(exfalso;omega)
  intro cy;replace cy:=aG cy;refine bD ?_;refine aM (t:=20) rfl ?_ ?_
  ·intro ca
   replace ca:=aG ca;refine ba ?_;refine aA rfl ?_ ?_
   ·intro cZ
    replace cZ:=aG cZ;refine bA ?_;refine Rt [] results44 ?_;refine⟨?_,rfl⟩;unfold bm
    repeat' split
    all_goals first|rfl|(exfalso;omega)
   intro cZ;replace cZ:=aG cZ;refine bL ?_;refine Rt [] results44 ?_;refine⟨?_,rfl⟩;unfold bm
   repeat' split
   all_goals first|rfl|(exfalso;omega)
  intro ca;replace ca:=aG ca;refine gQ ?_;refine Rt [] results44 ?_;refine⟨?_,rfl⟩;unfold bm
  repeat' split
  all_goals first|rfl|(exfalso;omega)
 intro cB;replace cB:=aG cB;refine bD ?_;refine aM (t:=13) rfl ?_ ?_
 ·intro cK
  replace cK:=aG cK;refine ba ?_;refine aA rfl ?_ ?_
  ·intro cy
   replace cy:=aG cy;refine bA ?_;refine Rt [] results44 ?_;refine⟨?_,rfl⟩;unfold bm
   repeat' split
   all_goals first|rfl|(exfalso;omega)
  intro cy;replace cy:=aG cy;refine aY ?_;refine aM (t:=20) rfl ?_ ?_
  ·intro ca
   replace ca:=aG ca;refine ba ?_;refine aA rfl ?_ ?_
   ·intro cZ
    replace cZ:=aG cZ;refine bA ?_;refine Rt [] results44 ?_;refine⟨?_,rfl⟩;unfold bm
    repeat' split
    all_goals first|rfl|(exfalso;omega)
   intro cZ;replace cZ:=aG cZ;refine bL ?_;refine Rt [] results44 ?_;refine⟨?_,rfl⟩;unfold bm
   repeat' split
   all_goals first|rfl|(exfalso;omega)
  intro ca;replace ca:=aG ca;refine gQ ?_;refine Rt [] results44 ?_;refine⟨?_,rfl⟩;unfold bm
  repeat' split
  all_goals first|rfl|(exfalso;omega)
 intro cK;replace cK:=aG cK;refine bD ?_;refine aM (t:=20) rfl ?_ ?_
 ·intro cy
  replace cy:=aG cy;refine ba ?_;refine aA rfl ?_ ?_
  ·intro ca
   replace ca:=aG ca;refine bA ?_;refine Rt [] results44 ?_;refine⟨?_,rfl⟩;unfold bm
   repeat' split
   all_goals first|rfl|(exfalso;omega)
  intro ca;replace ca:=aG ca;refine bL ?_;refine Rt [] results44 ?_;refine⟨?_,rfl⟩;unfold bm
  repeat' split
  all_goals first|rfl|(exfalso;omega)
 intro cy;replace cy:=aG cy;refine gQ ?_;refine Rt [] results44 ?_;refine⟨?_,rfl⟩;unfold bm
 repeat' split
 all_goals first|rfl|(exfalso;omega)
theorem ag3 (c:dy)(ka:FX)(kc:Nat)(da:FX)(dc:Nat)(mv:Value)(kx:mv.oneCell'=true)(GQ:c.keys.length<281474976710656)(hk:∀k∈c.keys,k.length<281474976710656):
  aK aaY 41 [.agg (dB c ka kc da dc mv).toArray] (λh=>fD h ka (fk c.keys)) [] (λw H=>w= .bool (lY c)/\H= []):=by
 have hb:lY c=(decide (bm c.ax<0\/0<bm c.ax/\c.keys.length=0\/bm c.ax=1/\1<c.keys.length) ||(decide (0<bm c.ax)&&c.keys.any λk=> !cU k) ||decide (5<=c.ax/\c.ax<=10/\4294967295<c.fl)):=rfl;refine af func41 rfl ntmps41 rfl ?_;intro F hr;refine aw ?_;refine Lp (oB λb1=> ?_);refine ba ?_;refine zl Aq (EH c.ax) .nil DA ?_;generalize hn:bm c.ax=n at*;have hn4:n= -1\/n=0\/n=1\/n=2:=by
  rw[<-hn];unfold bm
  repeat' split
  all_goals omega
 have fin:decide (n<0\/0<n/\c.keys.length=0\/n=1/\1<c.keys.length)=true->lY c=true:=λh=>by rw[hb,h];rfl
 refine bn ?_;refine av ?_;refine cG (ι:=Unit) (FZ [2,1,9,22]) (λu=>¬(n<0\/0<n/\c.keys.length=0\/n=1/\1<c.keys.length)) (λu=> []) (λu=> [ag b1 42 (dB c ka kc da dc mv)]) ?_ ?_
 ·refine iz ?_
  refine bj ?_;refine aM (t:=11) rfl ?_ ?_
  ·intro cB
   replace cB:=aG cB;refine cC ?_;refine bA ?_;refine Rt [] results41 ?_;exact⟨congrArg Value.bool (fin (Au)).symm,rfl⟩
  intro cB;replace cB:=aG cB;refine bj ?_;refine aM (t:=14) rfl ?_ ?_
  ·intro cK
   replace cK:=aG cK;refine bL ?_;refine aM (t:=21) rfl ?_ ?_
   ·intro cy
    replace cy:=aG cy;refine pX ?_;refine Rt [] results41 ?_;exact⟨congrArg Value.bool (fin (Au)).symm,rfl⟩
   intro cy;replace cy:=aG cy;refine bj ?_;refine aM (t:=24) rfl ?_ ?_
   ·intro ca
    replace ca:=aG ca;refine bL ?_;refine aA rfl ?_ ?_
    ·intro cZ
     replace cZ:=aG cZ;refine ba ?_;refine Rt [] results41 ?_;exact⟨congrArg Value.bool (fin (Au)).symm,rfl⟩
    intro cZ;replace cZ:=aG cZ;refine aw ?_;refine Me (()) (by omega)
   intro ca;replace ca:=aG ca;refine cu ?_;refine Me (()) (by omega)
  intro cK;replace cK:=aG cK;refine bD ?_;refine aM (t:=24) rfl ?_ ?_
  ·intro cy
   replace cy:=aG cy;refine bL ?_;refine aA rfl ?_ ?_
   ·intro ca
    replace ca:=aG ca;refine ba ?_;refine Rt [] results41 ?_;exact⟨congrArg Value.bool (fin (Au)).symm,rfl⟩
   intro ca;replace ca:=aG ca;refine aw ?_;refine Me (()) (by omega)
  intro cy;replace cy:=aG cy;refine cu ?_;refine Me (()) (by omega)
 rintro u hI;have cy:lY c=((decide (0<n)&&c.keys.any λk=> !cU k) ||decide (5<=c.ax/\c.ax<=10/\4294967295<c.fl)):=by rw[hb,decide_eq_false hI,alV]
 refine av ?_;refine cG (ι:=Unit) (FZ [2,1,5,1,31,14]) (λu=>(decide (0<n)&&c.keys.any λk=> !cU k)=false) (λu=> []) (λu=> [ag b1 42 (dB c ka kc da dc mv)]) ?_ ?_
 ·refine iz ?_
  refine bj ?_;by_cases hp:0<n
  ·refine eJ ?_ (e:=by exact decide_eq_true hp)
   refine bL ?_;refine Lo (ι:=Nat) (FZ [2,1,5,1,36,9]) (λk=>k<=c.keys.length/\∀x∈c.keys.take k,cU x=true) (λk=> [(36,DE DD k)]) (λk=> [ag b1 42 (dB c ka kc da dc mv)]) (λk=>c.keys.length-k) (0) ⟨abn _,by simp⟩ ?_;rintro k hI;obtain⟨hk1,rM⟩:=hI;by_cases ct:k<c.keys.length
   ·have uX:=xn c.keys k ct
    have BM:=hk _ (abe ct);have Ql:ka.isSome=true:=by obtain⟨ad,e,_⟩:=hr k _ uX;rw[e];rfl
    refine bj ?_;refine av ?_;refine eJ ?_;refine ba ?_;refine Li (Ix pI) ?_;refine ba ?_;refine Lp (DH sE mK tL λkb kcc tI=> ?_);refine zl Aq (Fh (some ⟨kb,0,none⟩) kcc _ c.keys[k] rfl (by omega)) .nil (λh le au=>bK (au.nth 0 rfl)) ?_;by_cases hg:cU c.keys[k]=true
    ·rw[hg]
     refine cu ?_;refine aB ?_;refine Ro (k+1) (⟨ct,λx hx=>(by rw[ahP,aa0 ct,List.mem_append]at hx;rcases hx with hx|hx;exact rM x hx;obtain rfl:x=c.keys[k]:=(by simpa using hx);exact hg)⟩) (by omega)
    have hg2:cU c.keys[k]=false:=by simpa using hg
    rw[hg2];refine cL ?_;refine Rt [] results41 ?_;refine⟨congrArg Value.bool ?_,rfl⟩;have:(c.keys.any λk=> !cU k)=true:=List.any_eq_true.2 ⟨_,abe ct,by rw[hg2];rfl⟩;rw[cy,this,decide_eq_true hp];rfl
   refine iz ?_;refine bn ?_;refine av ?_;refine cM ?_;refine aY ?_;refine Me (()) ((by(have qh:k=c.keys.length:=by omega);rw[qh,alb]at rM;rw[Bool.and_eq_false_iff];right;rw[List.any_eq_false];intro x hx;rw[rM x hx];decide))
  refine cM ?_ (e:=by exact decide_eq_false hp);refine aw ?_;refine Me (()) ((by rw[decide_eq_false hp];rfl))
 rintro u hI;rw[hI,alV]at cy;refine ba ?_;refine aM (t:=48) rfl ?_ ?_
 ·intro cB
  replace cB:=aG cB;refine ba ?_;refine aM (t:=53) rfl ?_ ?_
  ·intro cK
   replace cK:=aG cK;refine bL ?_;refine Rt [] results41 ?_;refine⟨congrArg Value.bool ?_,rfl⟩;rw[cy]
   first
    |exact decide_eq_decide.2 (by omega)
    |exact(Ar).symm
  intro cK;replace cK:=aG cK;refine bL ?_;refine Rt [] results41 ?_;refine⟨congrArg Value.bool ?_,rfl⟩;rw[cy]
  first
   |exact decide_eq_decide.2 (by omega)
   |exact(Ar).symm
 intro cB;replace cB:=aG cB;refine cL ?_;refine Rt [] results41 ?_;refine⟨congrArg Value.bool ?_,rfl⟩;rw[cy]
 first
  |exact decide_eq_decide.2 (by omega)
  |exact(Ar).symm
end Go.Proofs.YtcbcjolpdljbiaaGreat
namespace Go.dQ
open Go
theorem aK.frP{P:Program}{f:FuncId}{args:FV}{pre xT:Hp->Prop}{H As R:Dz}{T:DF}(h:aK P f args pre As T)(dg:iM H As R)(hp:∀k k0,Le k0 k->xT k0->gW R k->pre k):
  aK P f args xT H (λv H'=>∃H0,T v H0/\H'=H0++R):=by
 intro F w hF s;obtain⟨a1,a2,a3,fr,hh,st,hl,r8⟩:=s;obtain⟨h1,h2,d12,l1,l2,s1,s2⟩:=bx (dg.out _ st);have wg:bP h2 F.h:=r8.left l2
 let F':dM:={F with h:=fH h2 F.h}
 have iw:Le F.h F'.h:=aP wg;have iy:Le h2 F'.h:=aU _ _;have xK:St F' As w:=⟨a1,a2,a3,bX (l2.trans hl) fr,h1,s1,l1.trans hl,(bP.fH d12.symm (r8.left l1).symm).symm⟩;refine(h F' w (hp _ _ iw hF (cx s2 iy)) xK).mono ?_;rintro e w' ⟨v,H',rfl,hT,sw⟩;obtain⟨b1,b2,b3,se,zZ,st2,zW,ky⟩:=sw;exact⟨v,_,rfl,⟨H',hT,rfl⟩,b1,b2,b3,iw.trans se,fH zZ h2,bH st2 s2 (ky.right iy),bX zW (iy.trans se),bP.fH (ky.right iw) wg⟩
end Go.dQ
namespace Go.Proofs.YtcbcjolpdljbiaaGreat
open Go Go.dQ Go.Proofs.YtcbcjolpdljbiaaGreat.Cs
def adk (v:Sv):FV:= [DE DD v.c.aj,DE DD v.c.pgs,DE DD v.c.fac,DE DD v.c.bE,DE DD v.c.lim,DE DD v.c.hot,DE DD v.c.warm,DE DD v.p.b,DE DD v.p.l,DE DD v.p.c,DE DD v.p.m,DE DB v.bc,DE DD v.fE,DE DD v.mt.dr,DE DD v.mt.re,DE DD v.mt.bu,DE DD v.mt.li,DE DD v.mt.lo,DE DD v.mt.cr,DE DD v.mt.mv]
def Aa (y:Sy)(v:Sv):FV:=DC y.b::DC y.ck::DC y.t::DC y.lu::DC y.wh::DC y.cr::DC y.mo::DC y.q::adk v
def XC (z:Ly)(B:Bx)(M:Mo):Dz:=
 [Cl z.y.b B.C,ag z.y.t 154 (gV z.y.b B.W B.ty),ag B.ty.nk 149 (aV (aL B.W.nb)),oe B.ty.ok 149 (aV (aL B.W.ob)),ag z.y.q 182 (iF z.y.b z.qb B.C.ae.length),ag z.qb 333 (M.Q.flatMap (di B.C)),iH z.y.cr z.y.q z.y.wh B.C.ae.length (aZ z.s) (bG z.s) B.C M.x,Wl z.y.wh B.E M.tn,
  kS z.y.ck M.k,og z.y.lu z.y.b z.y.q z.hot z.warm,nq z.y.mo z.y.b z.ub (aZ z.s) (bG z.s) (du z.s) M.m,kO z.ub M.m,jO M]
theorem xJ (z:Ly)(B:Bx)(M:Mo):fO (eh z B M) (fC z.s z.y (fm M.v)) (XC z B M):=
 .t8 .here
theorem uw{z:Ly}{M:Mo}{h:Hp}(s:SH z M h):∃B,bM B M/\ai (fC z.s z.y (fm M.v)::XC z B M) h:=by
 obtain⟨B,O,t⟩:=s;exact⟨B,O,(xJ z B M).out _ t⟩
theorem EU{z:Ly}{M:Mo}(h:Hp)(s:SH z M h)(i:Nat)(v:Value)(e:(Aa z.y M.v++ [.slice M.v.wa M.v.wn M.v.wc])[i]?=some v):eO h ⟨z.s,i,none⟩=some v:=by
 obtain⟨B,O,t⟩:=uw s;obtain⟨h1,h2,_,l1,_,a,_⟩:=t;exact dh l1 (fB a e)
instance ak7{z:Ly}{M:Mo}:Cells (SH z M) z.s (Aa z.y M.v++ [.slice M.v.wa M.v.wn M.v.wc]):=⟨λh s i v e=>EU h s i v e⟩
instance ak6{z:Ly}{M:Mo}:Cells (SW z M) z.s (Aa z.y M.v):=⟨λh s i v e=>by
 obtain⟨w,s⟩:=s;refine EU h s i v ?_;rw[show(M.aN w.1 w.2).v.wa=w.1 from rfl];exact(List.getElem?_append_left (List.getElem?_eq_some_iff.1 e).1).trans e⟩
theorem qF{z:Ly}{M:Mo}{w:Sv}{i:Nat}{v:Value}(hO:∀B,bM B M->bM B {M with v:=w})(hw:w.wa=M.v.wa/\w.wc=M.v.wc)(hi:i<29)(hc:(jc z.y (fm M.v)).set i v=jc z.y (fm w)):sQ (SH z M) z.s i v (SH z {M with v:=w}):=⟨λh s=>by
 obtain⟨B,O,t⟩:=uw s;refine⟨_,_,XC z B M,(by simpa[jc,fm]using hi),t,λk sk=>⟨B,hO B O, ?_⟩⟩;rw[hc]at sk;have h1:XC z B M=XC z B {M with v:=w}:=by
  unfold XC jO;rw[hw.1,hw.2]
 rw[h1]at sk;exact(xJ z B {M with v:=w}).back _ sk⟩
theorem Ry{z:Ly}{M N:Mo}{i:Nat}{v:Value}(h:∀a c,sQ (SH z (M.aN a c)) z.s i v (SH z (N.aN a c))):sQ (SW z M) z.s i v (SW z N):=⟨λk s=>by
 obtain⟨w,s⟩:=s;obtain⟨e,cs,R,hi,t,back⟩:=(h w.1 w.2).cut k s;exact⟨e,cs,R,hi,t,λk2 s2=>⟨w,back k2 s2⟩⟩⟩
instance aet{z:Ly}{M:Mo}{i:Nat}:sQ (SH z M) z.s 19 (DE DB i) (SH z (M.rT i)):=qF (λ_ O=>O.rT i) ⟨rfl,rfl⟩ (by decide) rfl
instance sh_dr{z:Ly}{M:Mo}{x:Int}:sQ (SH z M) z.s 21 (DE DD x) (SH z (M.aR {M.v.mt with dr:=x})):=qF (λ_ O=>O.aR _) ⟨rfl,rfl⟩ (by decide) rfl
instance sh_re{z:Ly}{M:Mo}{x:Int}:sQ (SH z M) z.s 22 (DE DD x) (SH z (M.aR {M.v.mt with re:=x})):=qF (λ_ O=>O.aR _) ⟨rfl,rfl⟩ (by decide) rfl
instance sh_bu{z:Ly}{M:Mo}{x:Int}:sQ (SH z M) z.s 23 (DE DD x) (SH z (M.aR {M.v.mt with bu:=x})):=qF (λ_ O=>O.aR _) ⟨rfl,rfl⟩ (by decide) rfl
instance sh_li{z:Ly}{M:Mo}{x:Int}:sQ (SH z M) z.s 24 (DE DD x) (SH z (M.aR {M.v.mt with li:=x})):=qF (λ_ O=>O.aR _) ⟨rfl,rfl⟩ (by decide) rfl
instance sh_lo{z:Ly}{M:Mo}{x:Int}:sQ (SH z M) z.s 25 (DE DD x) (SH z (M.aR {M.v.mt with lo:=x})):=qF (λ_ O=>O.aR _) ⟨rfl,rfl⟩ (by decide) rfl
instance ajP{z:Ly}{M:Mo}{x:Int}:sQ (SH z M) z.s 26 (DE DD x) (SH z (M.aR {M.v.mt with cr:=x})):=qF (λ_ O=>O.aR _) ⟨rfl,rfl⟩ (by decide) rfl
instance sh_mv{z:Ly}{M:Mo}{x:Int}:sQ (SH z M) z.s 27 (DE DD x) (SH z (M.aR {M.v.mt with mv:=x})):=qF (λ_ O=>O.aR _) ⟨rfl,rfl⟩ (by decide) rfl
instance sw_iss{z:Ly}{M:Mo}{i:Nat}:sQ (SW z M) z.s 19 (DE DB i) (SW z (M.rT i)):=Ry λa c=>aet (M:=M.aN a c)
instance sw_cr{z:Ly}{M:Mo}{x:Int}:sQ (SW z M) z.s 26 (DE DD x) (SW z (M.aR {M.v.mt with cr:=x})):=Ry λa c=>ajP (M:=M.aN a c)
theorem YW{P:Program}{f:FuncId}{args:FV}{z:Ly}{M:Mo}{xT:Hp->Prop}{T:DF}(h:∀B,bM B M->∃pre,aK P f args pre [] T/\∀k k0,Le k0 k->xT k0->gW (eh z B M) k->pre k):
  aK P f args xT [SH z M] (λv H=>∃H0,T v H0/\H=H0++ [SH z M]):=
 dV λB O=>by
  obtain⟨pre,g,hp⟩:=h B O;rw[acT];refine(g.frP (H:=eh z B M) (lL [] _) hp).out ?_;rintro v H' ⟨H0,t,rfl⟩;refine⟨H0++ [SH z M],⟨H0,t,rfl⟩,λk s=> ?_⟩;obtain⟨h1,h2,d,l1,l2,s1,s2⟩:=bx s;exact rz (A:=SH z M) (B:=SH z M) d l1 l2 s1 (AX ⟨B,O,s2⟩)
theorem J2{P:Program}{f:FuncId}{args:FV}{z:Ly}{M:Mo}{xT:Hp->Prop}{T:DF}(h:∀a c B,bM B (M.aN a c)->∃pre,aK P f args pre [] T/\∀k k0,Le k0 k->xT k0->gW (eh z B (M.aN a c)) k->pre k):
  aK P f args xT [SW z M] (λv H=>∃H0,T v H0/\H=H0++ [SW z M]):=
 xl λa c=>(YW (h a c)).out λv H' ⟨H0,t,e⟩=>⟨H0++ [SW z M],⟨H0,t,rfl⟩,by
  subst e;intro k s;obtain⟨h1,h2,d,l1,l2,s1,s2⟩:=bx s;obtain⟨h3,_,_,l3,_,q,_⟩:=s2;exact rz (A:=SW z M) (B:=SW z M) (d.right l3) l1 (l3.trans l2) s1 (AX ⟨(a,c),q⟩)⟩
theorem mw{P:Program}{f:FuncId}{args:FV}{z:Ly}{M:Mo}{xT:Hp->Prop}{T:Value->Prop}(h:∀a c B,bM B (M.aN a c)->∃pre,aK P f args pre [] (λv H=>T v/\H= [])/\∀k k0,Le k0 k->xT k0->gW (eh z B (M.aN a c)) k->pre k):
  aK P f args xT [SW z M] (λv H=>T v/\H= [SW z M]):=
 (J2 h).out λv H' ⟨H0,⟨t,e0⟩,e⟩=>⟨[SW z M],⟨t,rfl⟩,by subst e0;subst e;exact λk s=>s⟩
theorem MG (z:Ly)(M:Mo)(a:FX)(c m:Nat)(l:F9)(hm:m=l.length)(hl:l.length<281474976710656):
  aK aaY 47 [DC z.y.t, .slice a m c] (λh=>fD h a (ak l)) [SW z M] (λv H=>v= .tuple #[DE DB (rO M.C (M.find l)), .bool (M.find l).isSome]/\H= [SW z M]):=
 mw λwa wc B O=>by
  have h:=nI z.y.t z.y.b B.C O.k B.W B.ty O.t O.ty a m c l hm hl;rw[O.Re,QH O]at h;exact⟨_,h,λk k0 le g au=>⟨au.nth 0 rfl,⟨au.nth 1 rfl,au.nth 2 rfl,au.nth 3 rfl,trivial⟩,g.mono le⟩⟩
theorem YO (z:Ly)(M:Mo)(p:Nat)(hp:M.has p):aK aaY 90 [DC z.y.b,DE DB (M.C.hd p)] vz [SW z M] (λv H=>v= .tuple #[DE DD p,DE DD (M.C.cl p),DE DD 0]/\H= [SW z M]):=
 mw λwa wc B O=>by
  have h:=wD z.y.b B.C O.k p (O.tH ((O.al p).2 hp));rw[O.hd,show B.C.cl p=M.C.cl p from O.cl p]at h;exact⟨_,h,λk k0 le h au=>au.nth 0 rfl⟩
theorem ti (z:Ly)(M:Mo)(p:Nat)(hp:M.has p):aK aaY 148 [DC z.y.b,DE DB (M.C.hd p)] vz [SW z M] (λv H=>v= .tuple #[DE DB ((M.it p).tok),DE DD 0]/\H= [SW z M]):=
 mw λwa wc B O=>by
  have dL:=(O.al p).2 hp;have h:=Bp z.y.b B.C O.k p (O.tH dL) (O.t.it p dL).k0;rw[O.hd,show rd B.C.A (p+32) 8=(M.it p).tok from(O.jx dL).2.2.1]at h;exact⟨_,h,λk k0 le h au=>au.nth 0 rfl⟩
theorem IE (z:Ly)(M:Mo)(c:Int):aK aaY 71 [DC z.y.b,DE DD c] vz [SW z M] (λv H=>v=DE DD (ofM M.C c λi=>M.C.sz i:Nat)/\H= [SW z M]):=
 mw λwa wc B O=>by
  have h:=rJ z.y.b B.C O.k c;have e:(ofM B.C c λi=>B.C.sz i)=ofM M.C c λi=>M.C.sz i:=by
   conv=>lhs;rw[O.c]
   rfl
  rw[e]at h;exact⟨_,h,λk k0 le h au=>au.nth 0 rfl⟩
theorem AW (z:Ly)(M:Mo)(p:Nat)(hp:M.has p):aK aaY 98 [DC z.y.b,DE DB (M.C.hd p)] vz [SW z M]
  (λv H=>∃H0,(∃kb vb st,1<=st/\st<=3/\p∈ql M.Q (qi (M.C.cl p) st)/\v= .tuple #[.agg (DW (.slice (some ⟨kb,0,none⟩) (M.it p).key.length (M.it p).key.length) (.slice (some ⟨vb,0,none⟩) (M.it p).val.length (M.it p).val.length) (M.it p).fl (M.it p).exp (M.it p).tch (M.it p).tok st (M.it p).fe).toArray,DE DD 0]/\
   H0= [own (some ⟨kb,0,none⟩) (M.it p).key.length 5 1 (ak (M.it p).key),own (some ⟨vb,0,none⟩) (M.it p).val.length 5 1 (ak (M.it p).val)])/\H=H0++ [SW z M]):=
 J2 λwa wc B O=>by
  have dL:=(O.al p).2 hp;obtain⟨f1,f2,f3,f4,f5,f6,f7⟩:=O.jx dL;rw[show(M.aN wa wc).it p=M.it p from rfl]at f1 f2 f3 f4 f5 f6 f7;have lk:kl B.C.A p=(M.it p).key.length:=by rw[<-f5];exact(cI _ _ _).symm
  have lv:vl B.C.A p=(M.it p).val.length:=by rw[<-f6];exact(cI _ _ _).symm
  have fM:∃i,p∈ql M.Q i:=hp;obtain⟨i,hi⟩:=fM;have hs:=O.o.st i p hi;have h:=uD z.y.b B.C O.k p (O.tH dL) (O.t.it p dL);rw[O.hd,show rd B.C.A (p+40) 4=(M.it p).fl from f7,show rd B.C.A (p+16) 8=(M.it p).exp from f1,show rd B.C.A (p+24) 8=(M.it p).tch from f2,show rd B.C.A (p+32) 8=(M.it p).tok from f3,show rd B.C.A (p+46) 1=(M.it p).fe from f4,lk,lv,f5,f6]at h;refine⟨_,h.out ?_,λk k0 le h au=>au.nth 0 rfl⟩;rintro v H ⟨kb,vb,e1,e2⟩;refine⟨H,⟨kb,vb,gP B.C.A p,hs.1,hs.2.1, ?_,e1,e2⟩,λ_ s=>s⟩;have:=hs.2.2;rw[show B.C.cl p=M.C.cl p from O.cl p]at this;rw[<-this];exact hi
theorem qB{n:Nat}{ds:Dx}{F:dM}{K:F7}{σ:aT}{z:Ly}{M:Mo}{H:Dz}(h:∀a c B,bM B (M.aN a c)->G n ds F K σ (SW z M::H)):G n ds F K σ (SW z M::H):=
 AL λa c=>Ra λB O=>ab7 a c (h a c B O)
theorem bM.Xt{B:Bx}{M:Mo}(O:bM B M){p:Nat}(hp:M.has p):0<M.C.hd p/\M.C.hd p<18446744073709551616:=by
 have h:=bU O.k (O.nm ((O.al p).2 hp));rw[O.hd]at h;obtain⟨h1,h2,h3,h4,h5,h6⟩:=h;exact⟨by omega,by omega⟩
theorem iV{M N:Mo}{k:F9}{p:Nat}(h:M.meet k=(some p,N)):M.has p/\(M.it p).key=k/\N=M.fJ 0:=by
 unfold Mo.meet at h;cases hf:M.find k with
 |none=>rw[hf]at h;simp at h
 |some q=>
  rw[hf]at h;dsimp only at h;split at h
  ·simp at h
  simp only[Prod.mk.injEq,Option.some.injEq]at h;obtain⟨rfl,rfl⟩:=h;obtain⟨h1,h2⟩:=nP hf;exact⟨h1,h2,rfl⟩
structure fh where
 kind:Nat
 eK:List I3
 num:Nat
 uT:F9
def fh.k (n:Nat):fh:=⟨n,[],0,[]⟩
def fh.t (t:F9):fh:=⟨11,[],0,t⟩
def vq (a:fh):Value:=xZ a.kind bB a.num a.uT
def so (v:Value):Value:= .iface 102 v
theorem yT (z:Ly)(M:Mo)(c:dy)(ka:FX)(kc:Nat)(da:FX)(dc:Nat)(mv:Value)(kx:mv.oneCell'=true)(k:F9)(r:List F9)(qf:c.keys=k::r)(hk:k.length<281474976710656)(hw:M.kh.length<1073741824):
  XZ aaY 84 [DC z.s, .agg (dB c ka kc da dc mv).toArray] (λh=>fD h ka (fk c.keys)) [SW z M]
   (λv H=>∃p N,M.meet k=(some p,N)/\v=DE DB (M.C.hd p)/\H= [SW z N]) (λv H=>∃N,M.meet k=(none,N)/\v=so (vq (.k 4))/\H= [SW z N]):=by
 refine mC func84 rfl ntmps84 rfl ?_;intro F hr;have uX:(fk c.keys)[0]?=some (aW k):=by rw[qf];rfl
 have Ql:ka.isSome=true:=by obtain⟨ad,e,_⟩:=hr 0 _ uX;rw[e];rfl
 have BM:0<c.keys.length:=by rw[qf];exact amc _
 refine aw ?_;refine Lp (oB λb1=> ?_);refine bn ?_;refine ay (λ_ x=>dH x) ?_;refine qB λa c B O=> ?_;refine aY ?_;refine Li (Ix (j:=0) pI) ?_;refine aw ?_;refine zl Aq (yI z M k hk hw) (.cons .here .nil) DA ?_;rcases hm:M.meet k with⟨_|p,N⟩
 ·refine Li As ?_
  refine bD ?_;refine Li (XB T.ia) ?_;refine Lp (Xe ?_);refine pP [SW z N] ?_;exact⟨N,rfl,rfl,rfl⟩
 have hp:=O.Xt (iV hm).1;change 0<M.C.hd p/\_ at hp;refine bL ?_;refine cM ?_ (e:=by exact decide_eq_false (by show¬(((M.C.hd p:Nat):Int)=0);omega));refine bL ?_;refine pR ?_;refine Rt [SW z N] results84 ?_;exact⟨p,N,rfl,rfl,rfl⟩
def Mo.over (M:Mo)(old:FW)(ov:Bool):Mo:=match old with|some p=>if ov=true then M.bY p else M|none=>M
theorem ni (z:Ly)(M:Mo)(old:FW)(hold:∀p,old=some p->M.has p)(over:Bool)(t:F9):
  XZ aaY 132 [DC z.s,DE DB (rO M.C old), .bool over,aW t] vz [SW z M]
   (λ_ _=>False) (λv H=>v=so (vq (.t t))/\H= [SW z (M.over old over)]):=by
 refine mC func132 rfl ntmps132 rfl ?_;intro F _;refine qB λa c B O=> ?_;rcases old with _|p
 ·refine av ?_
  refine aY ?_;refine zf 10 ?_ (e:=by rfl);refine cY ?_;refine zl Aq (iC t) .nil DA ?_;refine Li (XB T.ia) ?_;refine Lp (Xe ?_);refine pP [SW z M] ?_;exact⟨rfl,rfl⟩
 have hp:=O.Xt (hold p rfl);change 0<M.C.hd p/\_ at hp;rcases over with _|_
 ·refine av ?_
  refine aY ?_;refine zt 10 ?_ (e:=by exact congrArg (!·) (decide_eq_false (by show¬(((M.C.hd p:Nat):Int)=0);omega)));refine cY ?_;refine zl Aq (iC t) .nil DA ?_;refine Li (XB T.ia) ?_;refine Lp (Xe ?_);refine pP [SW z M] ?_;exact⟨rfl,rfl⟩
 refine av ?_;refine aY ?_;refine zt 10 ?_ (e:=by exact congrArg (!·) (decide_eq_false (by show¬(((M.C.hd p:Nat):Int)=0);omega)));refine bL ?_;refine zl Aq (vG z M p (hold p rfl)) (.cons .here .nil) DA ?_;refine bj ?_;refine zl Aq (iC t) .nil DA ?_;refine Li (XB T.ia) ?_;refine Lp (Xe ?_);refine pP [SW z (M.bY p)] ?_;exact⟨rfl,rfl⟩
def cn (ax:Int)(Mh:Nat)(old:FW)(tok:Nat->Nat):Nat:=
 if ax=6 then(if old.isSome then 2 else 0)
 else if ax=7\/ax=8\/ax=9 then(if old.isSome then 0 else 2)
 else if ax=10 then(match old with|none=>4|some p=>if tok p=Mh then 0 else 3)
 else 0
theorem oh{n:Nat}{ds:Dx}{F:dM}{Q:Exit->F7}{σ:aT}{H:Dz}{ι:Type}{jN:F8}{σ0:aT}{I:ι->Prop}{L:ι->aT}{HI:ι->Dz}(j:ι)(hI:I j)(hs:qo (L j) σ:=by exact⟨(by refine congrArg (λq=>some (Value.int .i64 q)) ?_;unfold cn;try dsimp only;(repeat' split)<;>first|rfl|(exfalso;omega)|simp_all),trivial⟩)
  (hk:fK jN σ=fK jN σ0:=by exact rfl) (hh:∀h,ai H h->ai (HI j) h:=by exact Eh):G n ds F (Exit.then (EG n ds F jN σ0 I L HI) Q .normal) σ H:=acx j hI hs hk hh
theorem aaS (z:Ly)(M:Mo)(c:dy)(ka:FX)(kc:Nat)(da:FX)(dc:Nat)(mv:Value)(kx:mv.oneCell'=true)(old:FW)(hold:∀p,old=some p->M.has p):
  XZ aaY 133 [DC z.s, .agg (dB c ka kc da dc mv).toArray,DE DB (rO M.C old)] vz [SW z M]
   (λv H=>cn c.ax c.tok old (λp=>(M.it p).tok)=0/\v= .tuple #[]/\H= [SW z M]) (λv H=>∃n,cn c.ax c.tok old (λp=>(M.it p).tok)=n/\n≠0/\v=so (vq (.k n))/\H= [SW z M]):=by
 refine mC func133 rfl ntmps133 rfl ?_;intro F _;refine aw ?_;refine Lp (oB λb1=> ?_);refine aw ?_;refine ay (λ_ x=>dH x) ?_;refine qB λa b B O=> ?_;refine bj ?_;refine av ?_;refine cG (ι:=Nat) (FZ [6,33]) (λn=>cn c.ax c.tok old (λp=>(M.it p).tok)=n) (λn=> [(6,DE DD n)]) (λn=> [SW z M]) ?_ ?_
 ·rcases old with _|p
  ·have e0:rO M.C none=0:=rfl
   refine cu ?_;refine aA rfl ?_ ?_
   ·intro cB
    replace cB:=aG cB;refine aY ?_;refine aA rfl ?_ ?_
    ·intro cK
     replace cK:=aG cK;refine aY ?_;refine oh (cn c.ax c.tok _ _) rfl
    intro cK;replace cK:=aG cK;refine bn ?_;refine oh (cn c.ax c.tok _ _) rfl
   intro cB;replace cB:=aG cB;refine ba ?_;refine aA rfl ?_ ?_
   ·intro cK
    replace cK:=aG cK;refine bn ?_;refine aA rfl ?_ ?_
    ·intro cy
     replace cy:=aG cy;refine aY ?_;refine aA rfl ?_ ?_
     ·intro ca
      replace ca:=aG ca;refine aY ?_;refine oh (cn c.ax c.tok _ _) rfl
     intro ca;replace ca:=aG ca;refine bn ?_;refine oh (cn c.ax c.tok _ _) rfl
    intro cy;replace cy:=aG cy;refine aY ?_;refine aA rfl ?_ ?_
    ·intro ca
     replace ca:=aG ca;refine aY ?_;refine aA rfl ?_ ?_
     ·intro cZ
      replace cZ:=aG cZ;refine aY ?_;refine oh (cn c.ax c.tok _ _) rfl
     intro cZ;replace cZ:=aG cZ;refine bL ?_;refine zl Aq ((show aK aaY 148 [DC z.y.b,DE DB (rO M.C none)] vz [SW z M] (λv H=>v= .tuple #[DE DB 0,DE DD 0]/\H= [SW z M])from λF w _ _=>by exfalso;omega)) (.cons .here .nil) DA ?_;refine cL ?_;refine aA rfl ?_ ?_
     ·intro iR
      replace iR:=aG iR;refine aY ?_;refine oh (cn c.ax c.tok _ _) rfl
     intro iR;replace iR:=aG iR;refine bn ?_;refine oh (cn c.ax c.tok _ _) rfl
    intro ca;replace ca:=aG ca;refine bn ?_;refine oh (cn c.ax c.tok _ _) rfl
   intro cK;replace cK:=aG cK;refine aY ?_;refine aA rfl ?_ ?_
   ·intro cy
    replace cy:=aG cy;refine bn ?_;refine aA rfl ?_ ?_
    ·intro ca
     replace ca:=aG ca;refine aY ?_;refine aA rfl ?_ ?_
     ·intro cZ
      replace cZ:=aG cZ;refine aY ?_;refine oh (cn c.ax c.tok _ _) rfl
     intro cZ;replace cZ:=aG cZ;refine bn ?_;refine oh (cn c.ax c.tok _ _) rfl
    intro ca;replace ca:=aG ca;refine aY ?_;refine aA rfl ?_ ?_
    ·intro cZ
     replace cZ:=aG cZ;refine aY ?_;refine aA rfl ?_ ?_
     ·intro iR
      replace iR:=aG iR;refine aY ?_;refine oh (cn c.ax c.tok _ _) rfl
     intro iR;replace iR:=aG iR;refine bL ?_;refine zl Aq ((show aK aaY 148 [DC z.y.b,DE DB (rO M.C none)] vz [SW z M] (λv H=>v= .tuple #[DE DB 0,DE DD 0]/\H= [SW z M])from λF w _ _=>by exfalso;omega)) (.cons .here .nil) DA ?_;refine cL ?_;refine aA rfl ?_ ?_
     ·intro rP
      replace rP:=aG rP;refine aY ?_;refine oh (cn c.ax c.tok _ _) rfl
     intro rP;replace rP:=aG rP;refine bn ?_;refine oh (cn c.ax c.tok _ _) rfl
    intro cZ;replace cZ:=aG cZ;refine bn ?_;refine oh (cn c.ax c.tok _ _) rfl
   intro cy;replace cy:=aG cy;refine aY ?_;refine aA rfl ?_ ?_
   ·intro ca
    replace ca:=aG ca;refine aY ?_;refine aA rfl ?_ ?_
    ·intro cZ
     replace cZ:=aG cZ;refine aY ?_;refine oh (cn c.ax c.tok _ _) rfl
    intro cZ;replace cZ:=aG cZ;refine bn ?_;refine oh (cn c.ax c.tok _ _) rfl
   intro ca;replace ca:=aG ca;refine aY ?_;refine aA rfl ?_ ?_
   ·intro cZ
    replace cZ:=aG cZ;refine aY ?_;refine aA rfl ?_ ?_
    ·intro iR
     replace iR:=aG iR;refine aY ?_;refine oh (cn c.ax c.tok _ _) rfl
    intro iR;replace iR:=aG iR;refine bL ?_;refine zl Aq ((show aK aaY 148 [DC z.y.b,DE DB (rO M.C none)] vz [SW z M] (λv H=>v= .tuple #[DE DB 0,DE DD 0]/\H= [SW z M])from λF w _ _=>by exfalso;omega)) (.cons .here .nil) DA ?_;refine cL ?_;refine aA rfl ?_ ?_
    ·intro rP
     replace rP:=aG rP;refine aY ?_;refine oh (cn c.ax c.tok _ _) rfl
    intro rP;replace rP:=aG rP;refine bn ?_;refine oh (cn c.ax c.tok _ _) rfl
   intro cZ;replace cZ:=aG cZ;refine bn ?_;refine oh (cn c.ax c.tok _ _) rfl
  have hp:=O.Xt (hold p rfl);have e0:rO M.C (some p)=M.C.hd p:=rfl;change 0<M.C.hd p/\_ at hp;refine cu ?_;refine aA rfl ?_ ?_
  ·intro cB
   replace cB:=aG cB;refine aY ?_;refine aA rfl ?_ ?_
   ·intro cK
    replace cK:=aG cK;refine aY ?_;refine oh (cn c.ax c.tok _ _) rfl
   intro cK;replace cK:=aG cK;refine bn ?_;refine oh (cn c.ax c.tok _ _) rfl
  intro cB;replace cB:=aG cB;refine ba ?_;refine aA rfl ?_ ?_
  ·intro cK
   replace cK:=aG cK;refine bn ?_;refine aA rfl ?_ ?_
   ·intro cy
    replace cy:=aG cy;refine aY ?_;refine aA rfl ?_ ?_
    ·intro ca
     replace ca:=aG ca;refine aY ?_;refine oh (cn c.ax c.tok _ _) rfl
    intro ca;replace ca:=aG ca;refine bn ?_;refine oh (cn c.ax c.tok _ _) rfl
   intro cy;replace cy:=aG cy;refine aY ?_;refine aA rfl ?_ ?_
   ·intro ca
    replace ca:=aG ca;refine aY ?_;refine aA rfl ?_ ?_
    ·intro cZ
     replace cZ:=aG cZ;refine aY ?_;refine oh (cn c.ax c.tok _ _) rfl
    intro cZ;replace cZ:=aG cZ;refine bL ?_;refine zl Aq (ti z M p (hold p rfl)) (.cons .here .nil) DA ?_;refine cL ?_;refine aA rfl ?_ ?_
    ·intro iR
     replace iR:=aG iR;refine aY ?_;refine oh (cn c.ax c.tok _ _) rfl
    intro iR;replace iR:=aG iR;refine bn ?_;refine oh (cn c.ax c.tok _ _) rfl
   intro ca;replace ca:=aG ca;refine bn ?_;refine oh (cn c.ax c.tok _ _) rfl
  intro cK;replace cK:=aG cK;refine aY ?_;refine aA rfl ?_ ?_
  ·intro cy
   replace cy:=aG cy;refine bn ?_;refine aA rfl ?_ ?_
   ·intro ca
    replace ca:=aG ca;refine aY ?_;refine aA rfl ?_ ?_
    ·intro cZ
     replace cZ:=aG cZ;refine aY ?_;refine oh (cn c.ax c.tok _ _) rfl
    intro cZ;replace cZ:=aG cZ;refine bn ?_;refine oh (cn c.ax c.tok _ _) rfl
   intro ca;replace ca:=aG ca;refine aY ?_;refine aA rfl ?_ ?_
   ·intro cZ
    replace cZ:=aG cZ;refine aY ?_;refine aA rfl ?_ ?_
    ·intro iR
     replace iR:=aG iR;refine aY ?_;refine oh (cn c.ax c.tok _ _) rfl
    intro iR;replace iR:=aG iR;refine bL ?_;refine zl Aq (ti z M p (hold p rfl)) (.cons .here .nil) DA ?_;refine cL ?_;refine aA rfl ?_ ?_
    ·intro rP
     replace rP:=aG rP;refine aY ?_;refine oh (cn c.ax c.tok _ _) rfl
    intro rP;replace rP:=aG rP;refine bn ?_;refine oh (cn c.ax c.tok _ _) rfl
   intro cZ;replace cZ:=aG cZ;refine bn ?_;refine oh (cn c.ax c.tok _ _) rfl
  intro cy;replace cy:=aG cy;refine aY ?_;refine aA rfl ?_ ?_
  ·intro ca
   replace ca:=aG ca;refine aY ?_;refine aA rfl ?_ ?_
   ·intro cZ
    replace cZ:=aG cZ;refine aY ?_;refine oh (cn c.ax c.tok _ _) rfl
   intro cZ;replace cZ:=aG cZ;refine bn ?_;refine oh (cn c.ax c.tok _ _) rfl
  intro ca;replace ca:=aG ca;refine aY ?_;refine aA rfl ?_ ?_
  ·intro cZ
   replace cZ:=aG cZ;refine aY ?_;refine aA rfl ?_ ?_
   ·intro iR
    replace iR:=aG iR;refine aY ?_;refine oh (cn c.ax c.tok _ _) rfl
   intro iR;replace iR:=aG iR;refine bL ?_;refine zl Aq (ti z M p (hold p rfl)) (.cons .here .nil) DA ?_;refine cL ?_;refine aA rfl ?_ ?_
   ·intro rP
    replace rP:=aG rP;refine aY ?_;refine oh (cn c.ax c.tok _ _) rfl
   intro rP;replace rP:=aG rP;refine bn ?_;refine oh (cn c.ax c.tok _ _) rfl
  intro cZ;replace cZ:=aG cZ;refine bn ?_;refine oh (cn c.ax c.tok _ _) rfl
 rintro n hI;refine aY ?_;by_cases hn:n=0
 ·refine cM ?_ (e:=by exact congrArg (!·) (Au))
  refine aw ?_;refine pN ?_;refine j5 [SW z M] results133 ?_;exact⟨hI.trans hn,rfl,rfl⟩
 refine eJ ?_ (e:=by exact congrArg (!·) (Ar));refine aY ?_;refine Li (XB T.ia) ?_;refine Lp (Xe ?_);refine pP [SW z M] ?_;exact⟨n,hI,hn,rfl,rfl⟩
def Mo.gN (M:Mo)(k:F9)(ex:Int):fh×Mo:=match M.meet k with
 |(none,N)=>(.k 4,N)
 |(some p,N)=>(.k 6,(N.time p (gR N.k.now ex)).lG p)
theorem Iv (z:Ly)(M:Mo)(c:dy)(ka:FX)(kc:Nat)(da:FX)(dc:Nat)(mv:Value)(kx:mv.oneCell'=true)(k:F9)(r:List F9)(qf:c.keys=k::r)(hk:k.length<281474976710656)(hw:M.kh.length<1073741824)(hex:c.ex<9223372036854775808)(wb:M.tn<18446744073709551615):
  XZ aaY 83 [DC z.s, .agg (dB c ka kc da dc mv).toArray] (λh=>fD h ka (fk c.keys)) [SW z M]
   (λv H=>∃a N,M.gN k c.ex=(a,N)/\v=vq a/\H= [SW z N]) (λv H=>∃a N,M.gN k c.ex=(a,N)/\v=so (vq a)/\H= [SW z N]):=by
 refine mC func83 rfl ntmps83 rfl ?_;intro F hr;refine aw ?_;refine Lp (oB λb1=> ?_);refine Lp (oA nz λb2=> ?_);refine aY ?_;refine Lp (Qf Aq rfl rfl (yT z M c ka kc da dc mv kx k r qf hk hw) (.cons (.t2 .here) .nil) (λ_ le _=>hr.mono le) (by rintro v H' ⟨N,hm,rfl,rfl⟩;exact pP [SW z N] ⟨.k 4,N,by unfold Mo.gN;rw[hm],rfl,rfl⟩) ?_);rintro v H' ⟨p,N,hm,rfl,rfl⟩;refine bS ?_;obtain⟨m1,m2,m3⟩:=iV hm;have hN:N.has p:=by rw[m3];exact m1
 have hC:M.C=N.C:=by rw[m3];rfl
 rw[hC];refine bL ?_;refine zl Aq (th z N p hN c.ex hex (by rw[m3];exact wb)) (.cons .here .nil) DA ?_;refine aY ?_;have ht:=yG z (N.time p (gR N.k.now c.ex)) p hN;rw[show(N.time p (gR N.k.now c.ex)).C.hd p=N.C.hd p from rfl]at ht;refine zl Aq (ht) (.cons .here .nil) DA ?_;refine bA ?_;refine pR ?_;refine GF [SW z ((N.time p (gR N.k.now c.ex)).lG p)] ey results83 ?_;exact⟨.k 6,_,by unfold Mo.gN;rw[hm],rfl,rfl⟩
def kE (l:List (I3×Nat)):FV:=l.flatMap λx=>tR x.1 (.slice (some ⟨x.2,0,none⟩) x.1.val.length x.1.val.length)
def kD (l:List (I3×Nat)):aa:=aF (l.map λx=>own (some ⟨x.2,0,none⟩) x.1.val.length 5 1 (ak x.1.val))
def Mo.jw (ie:Bool)(ex:Int)(s:List I3×Mo)(k:F9):List I3×Mo:=match s.2.meet k with
 |(none,N)=>(s.1,N)
 |(some p,N)=>let N2:=if ie then N.time p (gR N.k.now ex)else N;(s.1++ [N2.it p],N2.lG p)
def Mo.xY (M:Mo)(ax:Int)(keys:List F9)(ex:Int):fh×Mo:=let r:=keys.foldl (Mo.jw (decide (ax=3\/ax=4)) ex) ([],M);(⟨9,r.1,0,[]⟩,r.2)
theorem O9 (l:List (I3×Nat)):(kE l).length=l.length*9:=by
 unfold kE;rw[List.length_flatMap];rw[show(λx:I3×Nat=>(tR x.1 (.slice (some ⟨x.2,0,none⟩) x.1.val.length x.1.val.length)).length)=λ_=>9 from rfl];simp[List.map_const',Nat.mul_comm]
theorem uG{n:Nat}{ds:Dx}{F:dM}{K:F7}{σ:aT}{H:Dz}(h:G n ds F K σ (kD []::H)):G n ds F K σ H:=
 ay (λk s=>xd s) h
theorem O8{l:List (I3×Nat)}{x:I3}{vb:Nat}{H:Dz}{h:Hp}(s:ai (kD l::own (some ⟨vb,0,none⟩) x.val.length 5 1 (ak x.val)::H) h):ai (kD (l++ [(x,vb)])::H) h:=by
 unfold kD at*;rw[adb];exact zi (M:= [own (some ⟨vb,0,none⟩) x.val.length 5 1 (ak x.val)]) s
theorem Je (l:List (I3×Nat))(x:I3)(vb:Nat):kE (l++ [(x,vb)])=kE l++tR x (.slice (some ⟨vb,0,none⟩) x.val.length x.val.length):=by
 unfold kE;rw[List.flatMap_append];simp
theorem Ve (M:Mo)(k:F9):(M.meet k).2.kh.length=M.kh.length+1/\(M.meet k).2.tn=M.tn:=by
 unfold Mo.meet;cases M.find k with
 |none=>exact⟨by simp[Mo.fJ],rfl⟩
 |some p=>
  dsimp only;split
  ·exact⟨by simp[Mo.fJ,Mo.bY],rfl⟩
  exact⟨by simp[Mo.fJ],rfl⟩
theorem CU (M:Mo)(p e:Nat):(M.time p e).tn<=M.tn+1:=by
 unfold Mo.time;dsimp only;split<;>omega
theorem aah (z:Ly)(M:Mo)(c:dy)(ka:FX)(kc:Nat)(da:FX)(dc:Nat)(mv:Value)(kx:mv.oneCell'=true)(hk:∀k∈c.keys,k.length<281474976710656)(hn:c.keys.length<1073741824)(hw:M.kh= [])(hex:c.ex<9223372036854775808)(wb:M.tn+c.keys.length<18446744073709551615):
  aK aaY 81 [DC z.s, .agg (dB c ka kc da dc mv).toArray] (λh=>fD h ka (fk c.keys)) [SW z M]
   (λv H=>∃a N ea ec l,M.xY c.ax c.keys c.ex=(a,N)/\l.map Prod.fst=a.eK/\v=xZ a.kind (.slice ea l.length ec) a.num a.uT/\H= [own ea ec 56 9 (kE l),kD l,SW z N]):=by
 refine af func81 rfl ntmps81 rfl ?_;intro F hr;refine aw ?_;refine Lp (oB λb1=> ?_);refine Lp (oA nz λb2=> ?_);refine bj ?_;refine Lp (oA nz λb3=> ?_);refine bD ?_;refine cX 56 9 ?_;refine uG ?_;refine Lo (ι:=Nat×List (I3×Nat)×Mo×FX×Nat) (FZ [7,2,13,34]) (λs=>(s.1<=c.keys.length/\s.2.2.1.kh.length=s.1/\s.2.2.1.tn<=M.tn+s.1/\s.2.1.length<=s.1)/\(c.keys.take s.1).foldl (Mo.jw (decide (c.ax=3\/c.ax=4)) c.ex) ([],M)=(s.2.1.map Prod.fst,s.2.2.1)) (λs=> [(13,DE DD s.1)]) (λs=> [SW z s.2.2.1,ag b1 42 (dB c ka kc da dc mv),ag b2 52 [DE DD 0,bB,DE DB 0,aW [],bB],ag b3 52 [DE DD 9, .slice s.2.2.2.1 s.2.1.length s.2.2.2.2,DE DB 0,aW [],bB],own s.2.2.2.1 s.2.2.2.2 56 9 (kE s.2.1),kD s.2.1]) (λs=>c.keys.length-s.1) ((0,[],M,none,0)) ⟨⟨abn _,by rw[hw];rfl,abc _,abc _⟩,rfl⟩ ?_;rintro⟨i,l,N,ea,ec⟩ hI
 try dsimp only at hI⊢
 obtain⟨⟨hi,hwl,hNt,hll⟩,hf⟩:=hI;by_cases ct:i<c.keys.length
 ·have uX:=xn c.keys i ct
  have Ql:ka.isSome=true:=by obtain⟨ad,e,_⟩:=hr i _ uX;rw[e];rfl
  have BM:=hk _ (abe ct);have Qr:(c.keys.take (i+1)).foldl (Mo.jw (decide (c.ax=3\/c.ax=4)) c.ex) ([],M)=Mo.jw (decide (c.ax=3\/c.ax=4)) c.ex (l.map Prod.fst,N) c.keys[i]:=by
   rw[ahP,aa0 ct,alN,hf];rfl
  generalize c.keys[i]=k at*;refine bj ?_;refine av ?_;refine eJ ?_;refine qB λwa wc B O=> ?_;refine ba ?_;refine Li (Ix pI) ?_;refine bA ?_;refine zl Aq (yI z N k BM (by omega)) (.cons .here .nil) DA ?_;obtain⟨w1,w2⟩:=Ve N k;rcases hm:N.meet k with⟨_|p,N1⟩
  ·rw[hm]at w1 w2
   refine kT ?_;refine aB ?_;refine Ro ((i+1,l,N1,ea,ec)) (⟨⟨ct,(by dsimp only at*;omega),(by dsimp only at*;omega),(by dsimp only;omega)⟩,(by dsimp only;rw[Qr];unfold Mo.jw;dsimp only;rw[hm])⟩) ((by dsimp only;omega))
  rw[hm]at w1 w2;obtain⟨m1,m2,m3⟩:=iV hm;have hp:=O.Xt m1;change 0<N.C.hd p/\_ at hp;have hN1:N1.has p:=by rw[m3];exact m1
  have hC:N.C=N1.C:=by rw[m3];rfl
  rw[hC]at hp⊢;refine bL ?_;refine cM ?_ (e:=by exact decide_eq_false (by show¬(((N1.C.hd p:Nat):Int)=0);omega));refine bn ?_;refine av ?_;refine cG (ι:=Mo) (FZ [22,13]) (λN2=>N2=(if decide (c.ax=3\/c.ax=4)=true then N1.time p (gR N1.k.now c.ex)else N1)) (λN2=> []) (λN2=> [SW z N2,ag b1 42 (dB c ka kc da dc mv),ag b2 52 [DE DD 0,bB,DE DB 0,aW [],bB],ag b3 52 [DE DD 9, .slice ea l.length ec,DE DB 0,aW [],bB],own ea ec 56 9 (kE l),kD l]) ?_ ?_
  ·refine iz ?_
   refine aY ?_;refine aM (t:=25) rfl ?_ ?_
   ·intro cB
    replace cB:=aG cB;refine bO ?_;refine zl Aq (th z N1 p hN1 c.ex hex (by dsimp only at w2;omega)) (.cons .here .nil) DA ?_;refine aB ?_
    first|refine Me (N1.time p (gR N1.k.now c.ex)) (by rw[if_pos (Au)])|refine Me N1 (by rw[if_neg (by rw[decide_eq_true_eq];omega)])
   intro cB;replace cB:=aG cB;refine ba ?_;refine aA rfl ?_ ?_
   ·intro cK
    replace cK:=aG cK;refine ba ?_;refine zl Aq (th z N1 p hN1 c.ex hex (by dsimp only at w2;omega)) (.cons .here .nil) DA ?_;refine aB ?_
    first|refine Me (N1.time p (gR N1.k.now c.ex)) (by rw[if_pos (Au)])|refine Me N1 (by rw[if_neg (by rw[decide_eq_true_eq];omega)])
   intro cK;replace cK:=aG cK;refine aw ?_
   first|refine Me (N1.time p (gR N1.k.now c.ex)) (by rw[if_pos (Au)])|refine Me N1 (by rw[if_neg (by rw[decide_eq_true_eq];omega)])
  rintro N2 hI;have hN2:N2.has p:=by rw[hI];split<;>exact hN1
  have hC2:N1.C=N2.C:=by rw[hI];split<;>rfl
  have XH:N2.kh=N1.kh/\N2.tn<=N1.tn+1:=by
   rw[hI];split
   ·exact⟨rfl,CU _ _ _⟩
   exact⟨rfl,Nat.le_succ _⟩
  have hg:Mo.jw (decide (c.ax=3\/c.ax=4)) c.ex (l.map Prod.fst,N) k=(l.map Prod.fst++ [N2.it p],N2.lG p):=by
   unfold Mo.jw;dsimp only;rw[hm,hI]
  rw[hC2]at hp⊢;refine av ?_;refine iL 8 mix (.cons (.t3 .here) .nil) λF1 jq bV aI=> ?_;obtain⟨q1,_⟩:=bV;refine aY ?_;refine Tp (oC Aq rfl rfl (A7 z N2 p hN2) (.cons .here .nil) DA ?_);rintro v H' ⟨vb,rfl,rfl⟩;refine bS ?_;refine Tp (oT1 acI λb4=> ?_);refine Tp (bI acI aj3 rfl rfl rfl rfl (.t4 .here) (O9 l) (rfl) (by simp[tR,Value.oneCell',aW]) (by first|omega|(simp;omega)) (by first|omega|(simp;omega)) rfl λa4 c4 hc4=> ?_);refine aw ?_;refine gG aI ?_;refine bn ?_;rw[<-Je l (N2.it p) vb,show l.length+1=(l++ [(N2.it p,vb)]).length by simp];refine Hh (H':= [kD l,own (some ⟨vb,0,none⟩) (N2.it p).val.length 5 1 (ak (N2.it p).val),SW z N2,ag b1 42 (dB c ka kc da dc mv),ag b2 52 [DE DD 0,bB,DE DB 0,aW [],bB],ag b3 52 [DE DD 9, .slice a4 (l++ [(N2.it p,vb)]).length c4,DE DB 0,aW [],bB],own a4 c4 56 9 (kE (l++ [(N2.it p,vb)]))]) ?_;refine ay (λh=>O8 (l:=l)) ?_;refine bj ?_;refine zl Aq (yG z N2 p hN2) (.cons (.there .here) .nil) DA ?_;refine bA ?_;refine aB ?_;dsimp only at w1 w2;have hl1:(l++ [(N2.it p,vb)]).length<=i+1:=by rw[aa9,ahp];omega
  have hl3:(l++ [(N2.it p,vb)]).map Prod.fst=l.map Prod.fst++ [N2.it p]:=by rw[adb];rfl
  generalize l++ [(N2.it p,vb)]=l2 at*;refine Ro ((i+1,l2,N2.lG p,a4,c4)) (⟨⟨ct,(by show N2.kh.length=i+1;rw[XH.1];omega),(by show N2.tn<=_;omega),hl1⟩,(by dsimp only;rw[Qr,hg,hl3])⟩) ((by dsimp only;omega))
 refine iz ?_;refine bn ?_;refine av ?_;refine cM ?_;refine bL ?_;refine Lp (gE ey ?_ (h1:=by simp[dq,Value.cells,Value.oneCell',aW,bB]));refine bn ?_;obtain rfl:i=c.keys.length:=by omega
 rw[alb]at hf;refine GF [own ea ec 56 9 (kE l),kD l,SW z N] ey results81 ?_;exact⟨_,N,ea,ec,l,by unfold Mo.xY;rw[hf],rfl,rfl,rfl⟩
structure rR (M:Mo):Prop where
 k:Ok M.C
 nd:∀i,(ql M.Q i).Nodup
 lv:∀p,M.has p->Live M.C p
 on:M.m.on=true->M.m.pg<M.C.n/\(M.C.pg M.m.pg).own=true/\(M.C.pg M.m.pg).lv=true/\(M.C.pg M.m.pg).cl=M.m.fr
theorem bM.LJ{B:Bx}{M:Mo}(O:bM B M):rR M:=by
 refine⟨O.Qi,O.o.nd,λp hp=> ?_,λh=> ?_⟩
 ·have h:=(O.tH ((O.al p).2 hp)).wA M.C.A
  rw[O.c]at h;exact h
 have h:=O.on h;rw[O.c]at h;exact h
structure Jx (M N:Mo)(own:FW):Prop where
 it:N.it=M.it
 bc:N.v.bc=M.v.bc
 c:N.v.c=M.v.c
 p:N.v.p=M.v.p
 tn:N.tn=M.tn
 k:N.k=M.k
 w:N.kh=M.kh
 st:N.m.st=M.m.st
 ex:N.ord=M.ord
 sz:N.C.ae=M.C.ae
 own:∀p,own=some p->M.has p->N.has p/\N.C.hd p=M.C.hd p/\N.C.cl p=M.C.cl p
 has:∀q,N.has q->M.has q
theorem Jx.refl (M:Mo)(own:FW):Jx M M own:=⟨rfl,rfl,rfl,rfl,rfl,rfl,rfl,rfl,rfl,rfl,λ_ _ h=>⟨h,rfl,rfl⟩,λ_ h=>h⟩
theorem Jx.trans{M N O:Mo}{own:FW}(a:Jx M N own)(b:Jx N O own):Jx M O own:=
 ⟨b.it.trans a.it,b.bc.trans a.bc,b.c.trans a.c,b.p.trans a.p,b.tn.trans a.tn,b.k.trans a.k,b.w.trans a.w,b.st.trans a.st,b.ex.trans a.ex,b.sz.trans a.sz,λp e h=>by
  obtain⟨h1,h2,h3⟩:=a.own p e h;obtain⟨h4,h5,h6⟩:=b.own p e h1;exact⟨h4,h5.trans h2,h6.trans h3⟩,λq h=>a.has q (b.has q h)⟩
theorem Kb{Q:Dy}{p q:Nat}(nd:∀i,(ql Q i).Nodup):(∃i,q∈ql (ik Q p) i)↔(∃i,q∈ql Q i)/\q≠p:=by
 constructor
 ·rintro⟨i,h⟩
  rw[iO]at h;exact⟨⟨i,List.mem_of_mem_erase h⟩,λe=>by subst e;exact(List.Nodup.not_mem_erase (nd i)) h⟩
 rintro⟨⟨i,h⟩,ne⟩;exact⟨i,by rw[iO];exact(List.mem_erase_of_ne ne).2 h⟩
theorem rR.bY{M:Mo}(K:rR M){p:Nat}(hp:M.has p):rR (M.bY p)/\∀own,own≠some p->Jx M (M.bY p) own:=by
 have L:=K.lv p hp;obtain⟨K2,S⟩:=gA K.k L;have sm:=jK K.k L;have hh:=λq=>Kb (Q:=M.Q) (p:=p) (q:=q) K.nd;refine⟨⟨K2,λi=> ?_,λq hq=> ?_,λh=> ?_⟩,λown ne=>⟨rfl,rfl,rfl,rfl,rfl,rfl,rfl,rfl,rfl,S.ae,λq e hq=> ?_,λq hq=>((hh q).1 hq).1⟩⟩
 ·show(ql (ik M.Q p) i).Nodup
  rw[iO];exact(K.nd i).erase p
 ·obtain⟨h1,h2⟩:=(hh q).1 hq
  exact(sm.lv q h2 (K.lv q h1)).1
 ·obtain⟨a,b,c,d⟩:=K.on h
  obtain⟨e1,e2,e3⟩:=oV K.k L M.m.pg;refine⟨a,e1.trans b,e2.trans c,e3.trans d⟩
 have h2:q≠p:=λg=>ne (by rw[e,g]);obtain⟨g1,g2,g3⟩:=sm.lv q h2 (K.lv q hq);exact⟨(hh q).2 ⟨hq,h2⟩,g2,g3⟩
theorem rR.take{M N:Mo}(K:rR M){c r:Nat}(hc:c<M.fP)(h:M.take c=some (r,N))(own:FW):rR N/\Jx M N own/\N.hole=some r/\N.C.cl r=c/\Live N.C r/\¬M.has r/\N={M with C:=N.C,hole:=some r}:=by
 unfold Mo.take at h;cases ht:M.C.dD c with
 |none=>rw[ht]at h;cases h
 |some x=>
  obtain⟨p,D⟩:=x;rw[ht]at h;simp only[Option.some.injEq,Prod.mk.injEq]at h;obtain⟨rfl,rfl⟩:=h;have X:=vF K.k hc ht;refine⟨⟨X.k,K.nd,λq hq=>(X.lv q).2 (.inl (K.lv q hq)),λg=> ?_⟩,⟨rfl,rfl,rfl,rfl,rfl,rfl,rfl,rfl,rfl,X.sz,λq _ hq=>⟨hq,(X.hd q (K.lv q hq)).1,(X.hd q (K.lv q hq)).2⟩,λ_ h=>h⟩,rfl,X.cl,(X.lv p).2 (.inr rfl),λg=>X.no (K.lv p g),rfl⟩;obtain⟨a,b,c,d⟩:=K.on g;obtain⟨e1,e2⟩:=X.pg _ b;refine⟨?_,e1,(X.lf _).trans c,e2.trans d⟩;show _<D.n;rw[X.n];exact a
theorem rR.mstop{M:Mo}(K:rR M)(kQ:M.m.on=true)(own:FW):rR M.mstop/\Jx M M.mstop own:=by
 obtain⟨a,b,c,d⟩:=K.on kQ;obtain⟨K2,S⟩:=uu K.k a b c;have jg:=CW K.k a;have sm:=uh S λj=>by
  rw[jg];by_cases e:j=M.m.pg
  ·exact⟨false,by rw[if_pos e,e]⟩
  exact⟨(M.C.pg j).lv,by rw[if_neg e]⟩
 exact⟨⟨K2,K.nd,λq hq=>(sm q).1.2 (K.lv q hq),λe=>by cases e⟩,⟨rfl,rfl,rfl,rfl,rfl,rfl,rfl,rfl,rfl,S.ae,λq _ hq=>⟨hq,(sm q).2⟩,λ_ h=>h⟩⟩
theorem rR.mt{M:Mo}(K:rR M)(t:Mt)(own:FW):rR (M.aR t)/\Jx M (M.aR t) own:=⟨⟨K.k,K.nd,K.lv,K.on⟩,⟨rfl,rfl,rfl,rfl,rfl,rfl,rfl,rfl,rfl,rfl,λ_ _ h=>⟨h,rfl,rfl⟩,λ_ h=>h⟩⟩
theorem rR.jT{M:Mo}(K:rR M)(c:Nat)(own:FW):rR (M.cR c)/\Jx M (M.cR c) own:=⟨⟨K.k,K.nd,K.lv,K.on⟩,⟨rfl,rfl,rfl,rfl,rfl,rfl,rfl,rfl,rfl,rfl,λ_ _ h=>⟨h,rfl,rfl⟩,λ_ h=>h⟩⟩
structure te (M N:Mo)(n:Nat)(own o:FW):Prop where
 k:rR N
 s:Jx M N own
 no:o=none->N.hole=M.hole
 ok:∀r,o=some r->N.hole=some r/\n<=N.C.sz (N.C.cl r)/\Live N.C r/\¬N.has r
theorem Z2{M N:Mo}(K:rR M){n c p:Nat}(hc:c<M.fP)(hz:n<=M.C.sz c){own o:FW}(hp:M.has p)(ne:own≠some p)(h:M.last c p=(o,N)):te M N n own o:=by
 obtain⟨K1,S1⟩:=K.bY hp;have S1:=S1 own ne;have r9:c<(M.bY p).fP:=by show c<(M.bY p).C.ae.length;rw[S1.sz];exact hc
 unfold Mo.last at h;cases ht:(M.bY p).take c with
 |none=>
  rw[ht]at h;simp only[Prod.mk.injEq]at h;obtain⟨rfl,rfl⟩:=h;exact⟨K1,S1,λ_=>rfl,λr e=>by cases e⟩
 |some x=>
  obtain⟨r,D⟩:=x;rw[ht]at h;simp only[Prod.mk.injEq]at h;obtain⟨rfl,rfl⟩:=h;obtain⟨K2,S2,h1,h2,h3,h4,h5⟩:=K1.take r9 ht own;refine⟨K2,S1.trans S2,(λe=>by cases e),λr' e=> ?_⟩;cases e;refine⟨h1, ?_,h3,λg=>h4 (S2.has _ g)⟩;rw[h2];unfold Cs.sz;rw[(S1.trans S2).sz];exact hz
theorem Zk{M:Mo}{c p:Nat}{own:FW}(h:(M.pick c own).1=some p):M.has p/\own≠some p:=by
 obtain⟨h1,h2⟩:=qS h;exact⟨oN h1,λe=>h2 e.symm⟩
theorem FG{M N:Mo}(K:rR M){n c:Nat}(hc:c<M.fP)(hz:n<=M.C.sz c){own o:FW}(h:M.iK c own=(o,N)):te M N n own o:=by
 unfold Mo.iK at h;obtain⟨K1,S1⟩:=K.mt {M.v.mt with lo:=cm (M.v.mt.lo+((M.pick c own).2.2:Int))} own;have au:=λp=>Zk (M:=M) (c:=c) (p:=p) (own:=own);obtain⟨M1,hM1⟩:∃M1,M1=M.aR {M.v.mt with lo:=cm (M.v.mt.lo+((M.pick c own).2.2:Int))}:=⟨_,rfl⟩;have hq:M1.Q=M.Q:=by rw[hM1];rfl
 have hC:M1.C=M.C:=by rw[hM1];rfl
 have hh:M1.hole=M.hole:=by rw[hM1];rfl
 rw[<-hM1]at h K1 S1;have BN:c<M1.fP:=by unfold Mo.fP;rw[hC];exact hc
 have LM:n<=M1.C.sz c:=by rw[hC];exact hz
 have go:∀{M2 N:Mo} {p:Nat} {o:FW},rR M2->Jx M M2 own->M2.Q=M.Q->M2.C=M.C->M2.hole=M.hole->M.has p->own≠some p->M2.last c p=(o,N)->te M N n own o:=λK2 S2 hQ2 hC2 hh2 hp ne e=>by
  have R:=Z2 K2 (n:=n) (by unfold Mo.fP;rw[hC2];exact hc) (by rw[hC2];exact hz) (own:=own) (by unfold Mo.has;rw[hQ2];exact hp) ne e;exact⟨R.k,S2.trans R.s,λg=>(R.no g).trans hh2,R.ok⟩
 rcases hp:(M.pick c own).1 with _|p<;>rcases hd:(M.pick c own).2.1 with _|_<;>rw[hp,hd]at h<;>unfold Mo.Ez at h
 ·simp only[Prod.mk.injEq]at h
  obtain⟨rfl,rfl⟩:=h;obtain⟨K2,S2⟩:=K1.jT c own;exact⟨K2,S1.trans S2,λ_=>hh,λr e=>by cases e⟩
 ·simp only[Prod.mk.injEq]at h
  obtain⟨rfl,rfl⟩:=h;exact⟨K1,S1,λ_=>hh,λr e=>by cases e⟩
 ·obtain⟨K2,S2⟩:=K1.jT c own
  obtain⟨K3,S3⟩:=K2.mt {(M1.cR c).v.mt with dr:=cm ((M1.cR c).v.mt.dr+1)} own;exact go K3 ((S1.trans S2).trans S3) hq hC hh (au p hp).1 (au p hp).2 h
 obtain⟨K3,S3⟩:=K1.mt {M1.v.mt with re:=cm (M1.v.mt.re+1)} own;exact go K3 (S1.trans S3) hq hC hh (au p hp).1 (au p hp).2 h
theorem JX{M N:Mo}(K:rR M){n c r:Nat}(hc:c<M.fP)(hz:n<=M.C.sz c){own:FW}(h:M.take c=some (r,N)):te M N n own (some r):=by
 obtain⟨K2,S2,h1,h2,h3,h4,h5⟩:=K.take hc h own;refine⟨K2,S2,(λe=>by cases e),λr' e=> ?_⟩;cases e;refine⟨h1, ?_,h3,λg=>h4 (S2.has _ g)⟩;rw[h2];unfold Cs.sz;rw[S2.sz];exact hz
theorem xp{M N:Mo}(K:rR M){n:Nat}{own o:FW}(h:M.room n own=(o,N)):te M N n own o:=by
 unfold Mo.room at h;cases hf:M.C.ae.findIdx? (λz=>decide (n<=z))with
 |none=>
  rw[hf]at h;simp only[Prod.mk.injEq]at h;obtain⟨rfl,rfl⟩:=h;exact⟨K, .refl _ _,λ_=>rfl,λr e=>by cases e⟩
 |some c=>
  rw[hf]at h;dsimp only at h;obtain⟨hc,hz,_⟩:=List.findIdx?_eq_some_iff_getElem.1 hf;have LL:n<=M.C.sz c:=by
   unfold Cs.sz;rw[aaZ,aa0 hc];simpa using hz
  unfold Mo.pJ at h;cases ht:M.take c with
  |some x=>
   obtain⟨r,D⟩:=x;rw[ht]at h;simp only[Prod.mk.injEq]at h;obtain⟨rfl,rfl⟩:=h;exact JX K hc LL ht
  |none=>
   rw[ht]at h;dsimp only at h;split at h
   ·next g=>
    obtain⟨K1,S1⟩:=K.mstop g.1 own;have BN:c<M.mstop.fP:=by show c<M.mstop.C.ae.length;rw[S1.sz];exact hc
    have LM:n<=M.mstop.C.sz c:=by unfold Cs.sz;rw[S1.sz];exact LL
    have fin:∀o,te M.mstop N n own o->te M N n own o:=λo R=>⟨R.k,S1.trans R.s,R.no,R.ok⟩;cases qg:M.mstop.take c with
    |some x=>
     obtain⟨r,D⟩:=x;rw[qg]at h;simp only[Prod.mk.injEq]at h;obtain⟨rfl,rfl⟩:=h;exact fin _ (JX K1 BN LM qg)
    |none=>
     rw[qg]at h;exact fin _ (FG K1 BN LM h)
   exact FG K hc LL h
theorem R8 (M:Mo)(c p:Nat)(a:FX)(w:Nat):(M.aN a w).last c p=((M.last c p).1,(M.last c p).2.aN a w):=by
 unfold Mo.last;rw[show(M.aN a w).bY p=(M.bY p).aN a w from rfl,Cd];cases (M.bY p).take c<;>rfl
theorem Ld (M:Mo)(c:Nat)(own:FW)(a:FX)(w:Nat):(M.aN a w).iK c own=((M.iK c own).1,(M.iK c own).2.aN a w):=by
 unfold Mo.iK;rw[show(M.aN a w).pick c own=M.pick c own from rfl];rcases(M.pick c own).1 with _|p<;>rcases(M.pick c own).2.1 with _|_<;>unfold Mo.Ez
 ·rfl
 ·rfl
 ·exact R8 (((M.aR {M.v.mt with lo:=cm (M.v.mt.lo+((M.pick c own).2.2:Int))}).cR c).aR _) c p a w
 exact R8 ((M.aR {M.v.mt with lo:=cm (M.v.mt.lo+((M.pick c own).2.2:Int))}).aR _) c p a w
theorem aeL (M:Mo)(n:Nat)(own:FW)(a:FX)(w:Nat):(M.aN a w).room n own=((M.room n own).1,(M.room n own).2.aN a w):=by
 unfold Mo.room;rw[show(M.aN a w).C=M.C from rfl];cases M.C.ae.findIdx? (λz=>decide (n<=z))with
 |none=>rfl
 |some c=>
  dsimp only;unfold Mo.pJ;rw[Cd];cases M.take c with
  |some x=>rfl
  |none=>
   dsimp only[Option.map];rw[show(M.aN a w).m=M.m from rfl];split
   ·rw[show(M.aN a w).mstop=M.mstop.aN a w from rfl,Cd]
    cases M.mstop.take c with
    |some x=>rfl
    |none=>exact Ld _ _ _ _ _
   exact Ld _ _ _ _ _
theorem wI (z:Ly)(M:Mo)(hh:M.hole=none)(fM:M.m.st<4611686018427387904)(kn vn:Nat)(hk:1<=kn/\kn<=250)(hv:vn<=1048576)(own:FW)(gY:∀p,own=some p->M.has p):
  aK aaY 128 [DC z.s,DE DD kn,DE DD vn,DE DB (rO M.C own)] vz [SW z M]
   (λw H=>w=DE DB (rO (M.room (58+kn+vn) own).2.C (M.room (58+kn+vn) own).1)/\H= [SW z (M.room (58+kn+vn) own).2]):=
 xl λa c=>(MQ z (M.aN a c) hh fM kn vn hk hv own gY).out (by
  rintro v H' ⟨o,N,hr,rfl,rfl⟩;rw[aeL]at hr;simp only[Prod.mk.injEq]at hr;obtain⟨rfl,rfl⟩:=hr;exact⟨_,⟨rfl,rfl⟩,λk s=>hZ a c k s⟩)
theorem EN (z:Ly)(M:Mo)(r:Nat)(hr:M.hole=some r)(old:FW)(k v:F9)(Xh W8:Nat)(qh:Xh=k.length)(hvl:W8=v.length)(hold:∀p,old=some p->M.has p/\(M.it p).key=k)(adp:old=none->M.find k=none)(ka va:FX)(kc vc fl ex mk:Nat)(Xq:cU k=true)
  (vk:58+k.length+v.length<=M.C.sz (M.C.cl r)) (rN:fl<4294967296) (hex:ex<9223372036854775808) (u9:mk<16) (vj:M.v.bc+1<18446744073709551616) (wb:M.tn<18446744073709551615):
  aK aaY 129 [DC z.s,DE DB (M.C.hd r),DE DB (rO M.C old), .agg (DW (.slice ka Xh kc) (.slice va W8 vc) fl ex 0 0 0 mk).toArray] (λh=>fD h ka (ak k)/\fD h va (ak v)) [SW z M]
   (λw H=>w= .tuple #[]/\H= [SW z (M.fZ r old ⟨k,v,fl,ex,M.k.now,M.v.bc+1,mk⟩)]):=
 xl λa c=>(YX z (M.aN a c) r hr old k v Xh W8 qh hvl hold adp ka va kc vc fl ex mk Xq vk rN hex u9 vj wb).out (by
  rintro w H' ⟨rfl,rfl⟩;refine⟨_,⟨rfl,rfl⟩,λk' s=>hZ a c k' ?_⟩;rw[show(M.aN a c).fZ r old ⟨k,v,fl,ex,(M.aN a c).k.now,(M.aN a c).v.bc+1,mk⟩=(M.fZ r old ⟨k,v,fl,ex,M.k.now,M.v.bc+1,mk⟩).aN a c by cases old<;>rfl]at s;exact s)
def dX:F9:= [111,98,106,101,99,116,32,116,111,111,32,108,97,114,103,101,32,102,111,114,32,99,97,99,104,101]
def gM:F9:= [111,117,116,32,111,102,32,109,101,109,111,114,121,32,115,116,111,114,105,110,103,32,111,98,106,101,99,116]
def DG (ax:Int):Bool:=decide (ax≠8/\ax≠9)
def Mo.rW (M:Mo)(c:dy)(k:F9)(old:FW):Option (F9×Nat×Nat):=
 if DG c.ax=true then some (c.data,c.fl,gR M.k.now c.ex)else match old with
 |none=>none
 |some p=>if M.v.c.lim<58+k.length+c.data.length+(M.it p).val.length then none else some (if c.ax=8 then(M.it p).val++c.data else c.data++(M.it p).val,(M.it p).fl,(M.it p).exp)
def Mo.lays (M:Mo)(k:F9)(old:FW)(ov:Bool)(x:F9×Nat×Nat):fh×Mo:=match M.room (58+k.length+x.1.length) old with
 |(none,R)=>(.t gM,R.over old ov)
 |(some r,R)=>(.k 1,R.fZ r old ⟨k,x.1,x.2.1,x.2.2,R.k.now,R.v.bc+1,0⟩)
def Mo.jj (M:Mo)(c:dy)(k:F9)(old:FW):fh×Mo:=
 if c.lg=true\/M.v.c.lim<58+k.length+c.data.length then(.t dX,M.over old (DG c.ax))
 else if cn c.ax c.tok old (λp=>(M.it p).tok)≠0 then(.k (cn c.ax c.tok old (λp=>(M.it p).tok)),M)
 else match M.rW c k old with
  |none=>(.t dX,M)
  |some x=>M.lays k old (DG c.ax) x
def Mo.dS (M:Mo)(c:dy)(k:F9):fh×Mo:=(M.meet k).2.jj c k (M.meet k).1
theorem bM.kdM{B:Bx}{M:Mo}(O:bM B M){p q:Nat}(hp:M.has p)(hq:M.has q)(e:(M.it p).key=(M.it q).key):p=q:=by
 have h1:=(O.al p).2 hp;have h2:=(O.al q).2 hq;refine O.t.kd p h1 q h2 ?_;rw[(O.jx h1).2.2.2.2.1,(O.jx h2).2.2.2.2.1];exact e
theorem K8{M:Mo}{k:F9}(h:∀p,M.has p->(M.it p).key≠k):M.find k=none:=by
 unfold Mo.find;rw[ahL];intro p hp e;exact h p (gz.1 hp) (by simpa using e)
theorem ZD{M:Mo}{k:F9}(h:M.find k=none){p:Nat}(hp:M.has p):(M.it p).key≠k:=λe=>by
 unfold Mo.find at h;rw[ahL]at h;exact h p (gz.2 hp) (decide_eq_true e)
theorem aj6{M N:Mo}(nd:∀i,(ql M.Q i).Nodup)(kd:∀p q,M.has p->M.has q->(M.it p).key=(M.it q).key->p=q){k:F9}{old:FW}(h:M.meet k=(old,N)):rO M.C old=rO N.C old/\(∀p,old=some p->N.has p/\(N.it p).key=k)/\(old=none->N.find k=none):=by
 cases old with
 |some p=>
  obtain⟨h1,h2,h3⟩:=iV h;subst h3;exact⟨rfl,λq e=>by cases e;exact⟨h1,h2⟩,λe=>by cases e⟩
 |none=>
  refine⟨rfl,λq e=>(by cases e),λ_=> ?_⟩;unfold Mo.meet at h;cases hf:M.find k with
  |none=>
   rw[hf]at h;simp only[Prod.mk.injEq,true_and]at h;subst h;exact hf
  |some p=>
   rw[hf]at h;dsimp only at h;obtain⟨hp,hk⟩:=nP hf;split at h
   ·simp only[Prod.mk.injEq,true_and]at h
    subst h;refine K8 λq hq e=> ?_;obtain⟨h1,h2⟩:=(Kb nd).1 hq;exact h2 (kd _ _ h1 hp (e.trans hk.symm))
   simp at h
theorem bM.aiJ{B:Bx}{M:Mo}(O:bM B M){p:Nat}(hp:M.has p):(M.it p).val.length<=1048576/\(M.it p).fl<4294967296/\(M.it p).exp<9223372036854775808/\(M.it p).key.length<=250:=by
 have h1:=(O.al p).2 hp;obtain⟨f1,f2,f3,f4,f5,f6,f7⟩:=O.jx h1;have I:=O.t.it p h1;have h2:=((O.nm h1).br O.k).2.2.1;have h3:=O.k.toFix.p1;have h4:=I.fits;have h5:(M.it p).val.length=vl B.C.A p:=by rw[<-f6];exact cI _ _ _
 have h6:Qw B.C.A p<256^4:=kB _ _ _;have h7:ve B.C.A p<9223372036854775808:=I.exp;have h8:=(fX (O.lg p h1)).2;refine⟨by omega,by rw[<-f7];exact h6,by rw[<-f1];exact h7,h8⟩
theorem inSW{z:Ly}{M:Mo}{h:Hp}(i:In (SW z M) h):In (kS z.y.ck M.k) h:=by
 obtain⟨k,⟨w,B,O,s⟩,l⟩:=i;have:=(cx (H:=eh z B (M.aN w.1 w.2)) s l).nth 9 rfl;exact this
theorem kZ (z:Ly)(M:Mo):aK aaY 38 [DC z.y.ck] (In (SW z M)) [] (λv H=>v=DE DD M.k.now/\H= []):=
 λF w hp s=>kK z.y.ck M.k F w (inSW hp) s
theorem MI (z:Ly)(M:Mo)(c:dy)(ka:FX)(kc:Nat)(da:FX)(dc:Nat)(mv:Value)(kx:mv.oneCell'=true)(k:F9)(r:List F9)(qf:c.keys=k::r)(hk:cU k=true)(hw:M.kh.length<1073741824)(hex:c.ex<9223372036854775808)(rN:c.fl<4294967296)(hda:c.data.length<281474976710656)
  (hh:M.hole=none) (fM:M.m.st<4611686018427387904) (D5:M.v.c.lim<=1048576) (vj:M.v.bc+1<18446744073709551616) (wb:M.tn<18446744073709551615):
  XZ aaY 87 [DC z.s, .agg (dB c ka kc da dc mv).toArray] (λh=>fD h ka (fk c.keys)/\fD h da (ak c.data)) [SW z M]
   (λv H=>∃a N,M.dS c k=(a,N)/\v=vq a/\H= [SW z N]) (λv H=>∃a N,M.dS c k=(a,N)/\v=so (vq a)/\H= [SW z N]):=by
 obtain⟨Qq,JH⟩:=fX hk;refine mC func87 rfl ntmps87 rfl ?_;rintro F ⟨hr,hd⟩;have uX:(fk c.keys)[0]?=some (aW k):=by rw[qf];rfl
 have Ql:ka.isSome=true:=by obtain⟨ad,e,_⟩:=hr 0 _ uX;rw[e];rfl
 have BM:0<c.keys.length:=by rw[qf];exact amc _
 refine aw ?_;refine Lp (oB λb1=> ?_);refine Lp (oA nz λb2=> ?_);refine aw ?_;refine Hh (H':= [SW z M,ag b1 42 (dB c ka kc da dc mv),ag b2 52 [DE DD 0,bB,DE DB 0,aW [],bB]]) ?_;refine qB λwa wc B O=> ?_;refine bj ?_;refine Li (Ix (j:=0) pI) ?_;refine bA ?_;refine zl Aq (yI z M k (by omega) hw) (.cons .here .nil) DA ?_;rcases hm:M.meet k with⟨old,N⟩
 have Xm:M.dS c k=N.jj c k old:=by unfold Mo.dS;rw[hm]
 obtain⟨e1,e2,e3⟩:=aj6 (M:=M) O.o.nd (λp q=>O.kdM) hm;change rO M.C old=rO N.C old at e1;change∀p,old=some p->N.has p/\(N.it p).key=k at e2;change old=none->N.find k=none at e3;have hNv:N.v.c=M.v.c/\N.v.bc=M.v.bc/\N.tn=M.tn/\N.hole=M.hole/\N.m.st=M.m.st:=by
  unfold Mo.meet at hm;rcases hf:M.find k with _|p<;>rw[hf]at hm
  ·simp only[Prod.mk.injEq]at hm;obtain⟨_,rfl⟩:=hm;exact⟨rfl,rfl,rfl,rfl,rfl⟩
  dsimp only at hm;split at hm<;>(simp only[Prod.mk.injEq]at hm;obtain⟨_,rfl⟩:=hm;exact⟨rfl,rfl,rfl,rfl,rfl⟩)
 obtain⟨n1,n2,n3,n4,n5⟩:=hNv;dsimp only;rw[e1];have hold:∀p,old=some p->N.has p:=λp e=>(e2 p e).1;refine qB λwa2 wc2 B2 O2=> ?_;refine bn ?_;refine av ?_;refine cG (ι:=Bool) (FZ [7,1,20,8]) (λov=>ov=DG c.ax) (λov=> [(7, .bool ov)]) (λov=> [SW z N,ag b1 42 (dB c ka kc da dc mv),ag b2 52 [DE DD 0,bB,DE DB 0,aW [],bB]]) ?_ ?_
 ·refine cq ?_
  refine aY ?_;refine aM (t:=23) rfl ?_ ?_
  ·intro cB
   replace cB:=aG cB;refine ba ?_;refine aB ?_;refine Me (DG c.ax) (rfl) (hs:=⟨(by refine congrArg (λq=>some (Value.bool q)) ?_;unfold DG;rw[acR];simp only[abi,decide_eq_false_iff_not,decide_eq_true_eq,abt,true_iff,false_iff,iff_true,iff_false];try omega),trivial⟩)
  intro cB;replace cB:=aG cB;refine ba ?_;refine aB ?_;refine Me (DG c.ax) (rfl) (hs:=⟨(by refine congrArg (λq=>some (Value.bool q)) ?_;unfold DG;rw[acR];simp only[abi,decide_eq_false_iff_not,decide_eq_true_eq,abt,true_iff,false_iff,iff_true,iff_false];try omega),trivial⟩)
 rintro ov hI;subst hI;generalize hov:DG c.ax=ov at*;have zO:N.jj c k old=if c.lg=true\/N.v.c.lim<58+k.length+c.data.length then(.t dX,N.over old ov)else if cn c.ax c.tok old (λp=>(N.it p).tok)≠0 then(.k (cn c.ax c.tok old (λp=>(N.it p).tok)),N)else match N.rW c k old with|none=>(.t dX,N)|some x=>N.lays k old ov x:=by unfold Mo.jj;rw[hov]
 have hs4:(c.lg=true\/N.v.c.lim<58+k.length+c.data.length)->M.dS c k=(.t dX,N.over old ov):=λh=>by rw[Xm,zO,if_pos h]
 refine bn ?_;refine Li (Ls sE) ?_;refine bL ?_;refine av ?_;refine cG (ι:=Unit) (FZ [35,15]) (λu=>¬(c.lg=true\/N.v.c.lim<58+k.length+c.data.length)) (λu=> []) (λu=> [SW z N,ag b1 42 (dB c ka kc da dc mv),ag b2 52 [DE DD 0,bB,DE DB 0,aW [],bB]]) ?_ ?_
 ·refine iz ?_
  refine bj ?_;refine aM (t:=37) rfl ?_ ?_
  ·intro cB
   replace cB:=aG cB;refine fu ?_;refine Lp (Qf Aq rfl rfl (ni z N old hold ov dX) (.cons .here .nil) DA (by rintro v H' ⟨rfl,rfl⟩;exact pP [SW z (N.over old ov)] ⟨.t dX,_,hs4 (by first|exact .inl (by assumption)|exact .inr (by omega)),rfl,rfl⟩) ?_);rintro v H' hF;exact hF.elim
  intro cB;replace cB:=aG cB;refine cu ?_;refine aA rfl ?_ ?_
  ·intro cK
   replace cK:=aG cK;refine aY ?_;refine Lp (Qf Aq rfl rfl (ni z N old hold ov dX) (.cons .here .nil) DA (by rintro v H' ⟨rfl,rfl⟩;exact pP [SW z (N.over old ov)] ⟨.t dX,_,hs4 (by first|exact .inl (by assumption)|exact .inr (by omega)),rfl,rfl⟩) ?_);rintro v H' hF;exact hF.elim
  intro cK;replace cK:=aG cK;refine aw ?_;refine Me (()) ((by rintro(h|h)<;>first|omega|(simp_all;done)))
 rintro u hI;rw[if_neg hI]at zO;have hle:(58+k.length+c.data.length:Int)<=N.v.c.lim:=by omega
 have hd20:58+k.length+c.data.length<=1048576:=by rw[n1]at hle;omega
 refine aY ?_;refine Lp (Qf Aq rfl rfl (aaS z N c ka kc da dc mv kx old hold) (.cons .here .nil) DA (by rintro v H' ⟨n,hn,hn0,rfl,rfl⟩;exact pP [SW z N] ⟨.k n,N,by rw[Xm,zO,if_pos (by rw[hn];exact hn0),hn],rfl,rfl⟩) ?_);rintro v H' ⟨hn,rfl,rfl⟩;refine bS ?_;rw[if_neg (by rw[hn];decide)]at zO;have GQ:N.k.now<=1099511627776/\1<=N.k.now:=⟨O2.ck.n2,O2.ck.n1⟩;have AA:=BA N.k.now c.ex GQ.2 GQ.1;rw[FF]at AA;refine aw ?_;refine av ?_;refine cG (ι:=Nat×Nat×FX×Nat×Nat) (FZ [9,1,54,17]) (λs=>True) (λs=> [(9,DC s.2.2.2.2)]) (λs=> [SW z N,ag b1 42 (dB c ka kc da dc mv),ag b2 52 [DE DD 0,bB,DE DB 0,aW [],bB],own (some ⟨s.1,0,none⟩) s.2.1 5 1 (ak k),own s.2.2.1 s.2.2.2.1 5 1 (ak c.data),ag s.2.2.2.2 159 (DW (.slice (some ⟨s.1,0,none⟩) k.length s.2.1) (.slice s.2.2.1 c.data.length s.2.2.2.1) c.fl (gR N.k.now c.ex) 0 0 0 0)]) ?_ ?_
 ·refine yf mix (.cons .here (.cons .here .nil)) λF1 jq bV aI=> ?_
  obtain⟨q1,q2,_⟩:=bV;refine Dt 0 rfl Mv ?_;refine Dt 2 rfl (Fa FA) ?_
  first
   |refine Dt 3 rfl (Lf Ee) ?_
   |refine Dt 3 rfl (BR Ee q1) ?_
  refine Dt 5 rfl (Fa FC) ?_
  first
   |refine Dt 6 rfl (Lf si) ?_
   |refine Dt 6 rfl (BR si q1) ?_
  refine Dt 7 rfl Mv ?_;refine Dt 8 rfl Nc ?_;refine Dt 9 rfl (Fa nN) ?_;refine Dt 10 rfl (Fa Fz) ?_
  first
   |refine Dt 11 rfl (Lf tU) ?_
   |refine Dt 11 rfl (BR tU q1) ?_
  refine Dt 13 rfl (Fa FB) ?_
  first
   |refine Dt 14 rfl (Lf bz) ?_
   |refine Dt 14 rfl (BR bz q1) ?_
  refine D3 1 4 17 ?_ ?_ ?_
  ·refine Do rfl (DH sE mK tL λkb ns tI=> ?_)
   refine aw ?_;refine D2 4 17 ?_ ?_
   ·refine cX 5 1 ?_
    refine Do rfl (fW iT qx rfl rfl rfl rfl .here (rfl) (eQ (m:=c.data.length) (by simp) (λh le _=>hd.mono (jq.trans le))) (by first|exact ee|(simp[Value.oneCell',aW])) (by first|omega|(simp;omega)) (by first|omega|(simp;omega)) rfl λva vc hvc=> ?_);refine aw ?_;refine D2 12 17 ?_ ?_
    ·refine Do rfl (oZ (Aq (n:=38)) (kZ z N) .nil (λ_ le _=>In.mono q1 le) ?_)
     refine aw ?_;refine D2 15 17 ?_ ?_
     ·refine Do rfl (oZ (Aq (n:=134)) (AA) .nil DA ?_)
      refine aw ?_;refine Dt 16 rfl (Bd bZ fF) ?_;refine Dd 17 rfl (oA bZ λb3=> ?_);refine aw ?_;refine Dd 18 rfl (gE eB ?_);refine aw ?_;refine aQ (by kernel_rfl) aI ?_;simp only[abj];refine Me ((kb,ns,va,vc,b3)) (trivial)
     refine Do rfl (oA bZ λb4=> ?_);refine aw ?_;refine Dd 15 rfl (oZ (Aq (n:=134)) (AA) .nil DA ?_);refine aw ?_;refine Dt 16 rfl (Bd bZ fF) ?_;refine Dd 18 rfl (gE eB ?_);refine aw ?_;refine aQ (by kernel_rfl) aI ?_;simp only[abj];refine Me ((kb,ns,va,vc,b4)) (trivial)
    refine Do rfl (oA bZ λb5=> ?_);refine aw ?_;refine Dd 12 rfl (oZ (Aq (n:=38)) (kZ z N) .nil (λ_ le _=>In.mono q1 le) ?_);refine aw ?_;refine Dd 15 rfl (oZ (Aq (n:=134)) (AA) .nil DA ?_);refine aw ?_;refine Dt 16 rfl (Bd bZ fF) ?_;refine Dd 18 rfl (gE eB ?_);refine aw ?_;refine aQ (by kernel_rfl) aI ?_;simp only[abj];refine Me ((kb,ns,va,vc,b5)) (trivial)
   refine Do rfl (oA bZ λb6=> ?_);refine aw ?_;refine cX 5 1 ?_;refine Dd 4 rfl (fW iT qx rfl rfl rfl rfl .here (rfl) (eQ (m:=c.data.length) (by simp) (λh le _=>hd.mono (jq.trans le))) (by first|exact ee|(simp[Value.oneCell',aW])) (by first|omega|(simp;omega)) (by first|omega|(simp;omega)) rfl λva vc hvc=> ?_);refine aw ?_;refine Dd 12 rfl (oZ (Aq (n:=38)) (kZ z N) .nil (λ_ le _=>In.mono q1 le) ?_);refine aw ?_;refine Dd 15 rfl (oZ (Aq (n:=134)) (AA) .nil DA ?_);refine aw ?_;refine Dt 16 rfl (Bd bZ fF) ?_;refine Dd 18 rfl (gE eB ?_);refine aw ?_;refine aQ (by kernel_rfl) aI ?_;simp only[abj];refine Me ((kb,ns,va,vc,b6)) (trivial)
  ·refine cX 5 1 ?_
   refine Do rfl (fW iT qx rfl rfl rfl rfl .here (rfl) (eQ (m:=c.data.length) (by simp) (λh le _=>hd.mono (jq.trans le))) (by first|exact ee|(simp[Value.oneCell',aW])) (by first|omega|(simp;omega)) (by first|omega|(simp;omega)) rfl λva vc hvc=> ?_);refine aw ?_;refine D3 1 12 17 ?_ ?_ ?_
   ·refine Do rfl (DH sE mK tL λkb ns tI=> ?_)
    refine aw ?_;refine D2 12 17 ?_ ?_
    ·refine Do rfl (oZ (Aq (n:=38)) (kZ z N) .nil (λ_ le _=>In.mono q1 le) ?_)
     refine aw ?_;refine D2 15 17 ?_ ?_
     ·refine Do rfl (oZ (Aq (n:=134)) (AA) .nil DA ?_)
      refine aw ?_;refine Dt 16 rfl (Bd bZ fF) ?_;refine Dd 17 rfl (oA bZ λb7=> ?_);refine aw ?_;refine Dd 18 rfl (gE eB ?_);refine aw ?_;refine aQ (by kernel_rfl) aI ?_;simp only[abj];refine Me ((kb,ns,va,vc,b7)) (trivial)
     refine Do rfl (oA bZ λb8=> ?_);refine aw ?_;refine Dd 15 rfl (oZ (Aq (n:=134)) (AA) .nil DA ?_);refine aw ?_;refine Dt 16 rfl (Bd bZ fF) ?_;refine Dd 18 rfl (gE eB ?_);refine aw ?_;refine aQ (by kernel_rfl) aI ?_;simp only[abj];refine Me ((kb,ns,va,vc,b8)) (trivial)
    refine Do rfl (oA bZ λb9=> ?_);refine aw ?_;refine Dd 12 rfl (oZ (Aq (n:=38)) (kZ z N) .nil (λ_ le _=>In.mono q1 le) ?_);refine aw ?_;refine Dd 15 rfl (oZ (Aq (n:=134)) (AA) .nil DA ?_);refine aw ?_;refine Dt 16 rfl (Bd bZ fF) ?_;refine Dd 18 rfl (gE eB ?_);refine aw ?_;refine aQ (by kernel_rfl) aI ?_;simp only[abj];refine Me ((kb,ns,va,vc,b9)) (trivial)
   ·refine Do rfl (oZ (Aq (n:=38)) (kZ z N) .nil (λ_ le _=>In.mono q1 le) ?_)
    refine aw ?_;refine D3 1 15 17 ?_ ?_ ?_
    ·refine Do rfl (DH sE mK tL λkb ns tI=> ?_)
     refine aw ?_;refine D2 15 17 ?_ ?_
     ·refine Do rfl (oZ (Aq (n:=134)) (AA) .nil DA ?_)
      refine aw ?_;refine Dt 16 rfl (Bd bZ fF) ?_;refine Dd 17 rfl (oA bZ λQz=> ?_);refine aw ?_;refine Dd 18 rfl (gE eB ?_);refine aw ?_;refine aQ (by kernel_rfl) aI ?_;simp only[abj];refine Me ((kb,ns,va,vc,Qz)) (trivial)
     refine Do rfl (oA bZ λb11=> ?_);refine aw ?_;refine Dd 15 rfl (oZ (Aq (n:=134)) (AA) .nil DA ?_);refine aw ?_;refine Dt 16 rfl (Bd bZ fF) ?_;refine Dd 18 rfl (gE eB ?_);refine aw ?_;refine aQ (by kernel_rfl) aI ?_;simp only[abj];refine Me ((kb,ns,va,vc,b11)) (trivial)
    ·refine Do rfl (oZ (Aq (n:=134)) (AA) .nil DA ?_)
     refine aw ?_;refine D2 1 17 ?_ ?_
     ·refine Do rfl (DH sE mK tL λkb ns tI=> ?_)
      refine aw ?_;refine Dt 16 rfl (Bd bZ fF) ?_;refine Dd 17 rfl (oA bZ λb12=> ?_);refine aw ?_;refine Dd 18 rfl (gE eB ?_);refine aw ?_;refine aQ (by kernel_rfl) aI ?_;simp only[abj];refine Me ((kb,ns,va,vc,b12)) (trivial)
     refine Do rfl (oA bZ λb13=> ?_);refine aw ?_;refine Dd 1 rfl (DH sE mK tL λkb ns tI=> ?_);refine aw ?_;refine Dt 16 rfl (Bd bZ fF) ?_;refine Dd 18 rfl (gE eB ?_);refine aw ?_;refine aQ (by kernel_rfl) aI ?_;simp only[abj];refine Me ((kb,ns,va,vc,b13)) (trivial)
    refine Do rfl (oA bZ λXV=> ?_);refine aw ?_;refine D2 1 15 ?_ ?_
    ·refine Do rfl (DH sE mK tL λkb ns tI=> ?_)
     refine aw ?_;refine Dd 15 rfl (oZ (Aq (n:=134)) (AA) .nil DA ?_);refine aw ?_;refine Dt 16 rfl (Bd bZ fF) ?_;refine Dd 18 rfl (gE eB ?_);refine aw ?_;refine aQ (by kernel_rfl) aI ?_;simp only[abj];refine Me ((kb,ns,va,vc,XV)) (trivial)
    refine Do rfl (oZ (Aq (n:=134)) (AA) .nil DA ?_);refine aw ?_;refine Dd 1 rfl (DH sE mK tL λkb ns tI=> ?_);refine aw ?_;refine Dt 16 rfl (Bd bZ fF) ?_;refine Dd 18 rfl (gE eB ?_);refine aw ?_;refine aQ (by kernel_rfl) aI ?_;simp only[abj];refine Me ((kb,ns,va,vc,XV)) (trivial)
   refine Do rfl (oA bZ λb15=> ?_);refine aw ?_;refine D2 1 12 ?_ ?_
   ·refine Do rfl (DH sE mK tL λkb ns tI=> ?_)
    refine aw ?_;refine Dd 12 rfl (oZ (Aq (n:=38)) (kZ z N) .nil (λ_ le _=>In.mono q1 le) ?_);refine aw ?_;refine Dd 15 rfl (oZ (Aq (n:=134)) (AA) .nil DA ?_);refine aw ?_;refine Dt 16 rfl (Bd bZ fF) ?_;refine Dd 18 rfl (gE eB ?_);refine aw ?_;refine aQ (by kernel_rfl) aI ?_;simp only[abj];refine Me ((kb,ns,va,vc,b15)) (trivial)
   refine Do rfl (oZ (Aq (n:=38)) (kZ z N) .nil (λ_ le _=>In.mono q1 le) ?_);refine aw ?_;refine D2 1 15 ?_ ?_
   ·refine Do rfl (DH sE mK tL λkb ns tI=> ?_)
    refine aw ?_;refine Dd 15 rfl (oZ (Aq (n:=134)) (AA) .nil DA ?_);refine aw ?_;refine Dt 16 rfl (Bd bZ fF) ?_;refine Dd 18 rfl (gE eB ?_);refine aw ?_;refine aQ (by kernel_rfl) aI ?_;simp only[abj];refine Me ((kb,ns,va,vc,b15)) (trivial)
   refine Do rfl (oZ (Aq (n:=134)) (AA) .nil DA ?_);refine aw ?_;refine Dd 1 rfl (DH sE mK tL λkb ns tI=> ?_);refine aw ?_;refine Dt 16 rfl (Bd bZ fF) ?_;refine Dd 18 rfl (gE eB ?_);refine aw ?_;refine aQ (by kernel_rfl) aI ?_;simp only[abj];refine Me ((kb,ns,va,vc,b15)) (trivial)
  refine Do rfl (oA bZ λb16=> ?_);refine aw ?_;refine D2 1 4 ?_ ?_
  ·refine Do rfl (DH sE mK tL λkb ns tI=> ?_)
   refine aw ?_;refine cX 5 1 ?_;refine Dd 4 rfl (fW iT qx rfl rfl rfl rfl .here (rfl) (eQ (m:=c.data.length) (by simp) (λh le _=>hd.mono (jq.trans le))) (by first|exact ee|(simp[Value.oneCell',aW])) (by first|omega|(simp;omega)) (by first|omega|(simp;omega)) rfl λva vc hvc=> ?_);refine aw ?_;refine Dd 12 rfl (oZ (Aq (n:=38)) (kZ z N) .nil (λ_ le _=>In.mono q1 le) ?_);refine aw ?_;refine Dd 15 rfl (oZ (Aq (n:=134)) (AA) .nil DA ?_);refine aw ?_;refine Dt 16 rfl (Bd bZ fF) ?_;refine Dd 18 rfl (gE eB ?_);refine aw ?_;refine aQ (by kernel_rfl) aI ?_;simp only[abj];refine Me ((kb,ns,va,vc,b16)) (trivial)
  refine cX 5 1 ?_;refine Do rfl (fW iT qx rfl rfl rfl rfl .here (rfl) (eQ (m:=c.data.length) (by simp) (λh le _=>hd.mono (jq.trans le))) (by first|exact ee|(simp[Value.oneCell',aW])) (by first|omega|(simp;omega)) (by first|omega|(simp;omega)) rfl λva vc hvc=> ?_);refine aw ?_;refine D2 1 12 ?_ ?_
  ·refine Do rfl (DH sE mK tL λkb ns tI=> ?_)
   refine aw ?_;refine Dd 12 rfl (oZ (Aq (n:=38)) (kZ z N) .nil (λ_ le _=>In.mono q1 le) ?_);refine aw ?_;refine Dd 15 rfl (oZ (Aq (n:=134)) (AA) .nil DA ?_);refine aw ?_;refine Dt 16 rfl (Bd bZ fF) ?_;refine Dd 18 rfl (gE eB ?_);refine aw ?_;refine aQ (by kernel_rfl) aI ?_;simp only[abj];refine Me ((kb,ns,va,vc,b16)) (trivial)
  refine Do rfl (oZ (Aq (n:=38)) (kZ z N) .nil (λ_ le _=>In.mono q1 le) ?_);refine aw ?_;refine D2 1 15 ?_ ?_
  ·refine Do rfl (DH sE mK tL λkb ns tI=> ?_)
   refine aw ?_;refine Dd 15 rfl (oZ (Aq (n:=134)) (AA) .nil DA ?_);refine aw ?_;refine Dt 16 rfl (Bd bZ fF) ?_;refine Dd 18 rfl (gE eB ?_);refine aw ?_;refine aQ (by kernel_rfl) aI ?_;simp only[abj];refine Me ((kb,ns,va,vc,b16)) (trivial)
  refine Do rfl (oZ (Aq (n:=134)) (AA) .nil DA ?_);refine aw ?_;refine Dd 1 rfl (DH sE mK tL λkb ns tI=> ?_);refine aw ?_;refine Dt 16 rfl (Bd bZ fF) ?_;refine Dd 18 rfl (gE eB ?_);refine aw ?_;refine aQ (by kernel_rfl) aI ?_;simp only[abj];refine Me ((kb,ns,va,vc,b16)) (trivial)
 rintro⟨kb,ns,va,vc,b9⟩ hI;dsimp only;refine av ?_;refine cG (ι:=F9×Nat×Nat×FX×Nat) (FZ [10,2,71,46]) (λs=>N.rW c k old=some (s.1,s.2.1,s.2.2.1)/\58+k.length+s.1.length<=1048576/\s.2.1<4294967296/\s.2.2.1<9223372036854775808) (λs=> []) (λs=> [SW z N,ag b1 42 (dB c ka kc da dc mv),ag b2 52 [DE DD 0,bB,DE DB 0,aW [],bB],own (some ⟨kb,0,none⟩) ns 5 1 (ak k),own s.2.2.2.1 s.2.2.2.2 5 1 (ak s.1),ag b9 159 (DW (.slice (some ⟨kb,0,none⟩) k.length ns) (.slice s.2.2.2.1 s.1.length s.2.2.2.2) s.2.1 s.2.2.1 0 0 0 0)]) ?_ ?_
 ·rcases ov with _|_
  ·refine iz ?_
   refine aY ?_;cases old with
   |none=>
    exfalso;have h89:c.ax=8\/c.ax=9:=by unfold DG at hov;have:=of_decide_eq_false hov;omega
    unfold cn at hn;rw[if_neg (by omega),if_pos (by omega)]at hn;cases hn
   |some p=>
   have hp:=hold p rfl;obtain⟨v1,v2,v3,v4⟩:=O2.aiJ (p:=p) hp;change(N.it p).val.length<=_ at v1;change(N.it p).fl<_ at v2;change(N.it p).exp<_ at v3;refine bL ?_;refine Lp (oC Aq rfl rfl (AW z N p hp) (.cons .here .nil) DA ?_);rintro v H' ⟨H0,⟨Xj,vb2,st2,zP,hs2',hs3',rfl,rfl⟩,rfl⟩;refine bS ?_;refine bj ?_;refine Lp (oA bZ λb17=> ?_);refine Lp (gE eB ?_ (h1:=by simp[DW,Value.oneCell']));refine bn ?_;refine av ?_;unfold DW;refine iL 8 mix (.cons .here .nil) λF2 zU eP dE=> ?_;obtain⟨q3,_⟩:=eP;refine cY ?_;refine gG dE ?_;refine aw ?_;refine av ?_;simp only[abj];refine Hh (H':= [SW z N,ag b1 42 (dB c ka kc da dc mv),ag b2 52 [DE DD 0,bB,DE DB 0,aW [],bB],own (some ⟨kb,0,none⟩) ns 5 1 (ak k),own va vc 5 1 (ak c.data),ag b9 159 [.slice (some ⟨kb,0,none⟩) k.length ns, .slice va c.data.length vc,DE DB ((N.it p).fl),DE DD ((N.it p).exp),DE DD 0,DE DB 0,DE DD 0,DE DD 0],own (some ⟨vb2,0,none⟩) (N.it p).val.length 5 1 (ak (N.it p).val),ag b17 159 [.slice (some ⟨Xj,0,none⟩) (N.it p).key.length (N.it p).key.length, .slice (some ⟨vb2,0,none⟩) (N.it p).val.length (N.it p).val.length,DE DB ((N.it p).fl),DE DD ((N.it p).exp),DE DD ((N.it p).tch),DE DB ((N.it p).tok),DE DD st2,DE DD ((N.it p).fe)]]) ?_;refine cG (ι:=FX×Nat) (FZ [89,15]) (λs=>True) (λs=> []) (λs=> [SW z N,ag b1 42 (dB c ka kc da dc mv),ag b2 52 [DE DD 0,bB,DE DB 0,aW [],bB],own (some ⟨kb,0,none⟩) ns 5 1 (ak k),own s.1 s.2 5 1 (ak (if c.ax=8 then(N.it p).val++c.data else c.data++(N.it p).val)),ag b9 159 [.slice (some ⟨kb,0,none⟩) k.length ns, .slice s.1 (if c.ax=8 then(N.it p).val++c.data else c.data++(N.it p).val).length s.2,DE DB ((N.it p).fl),DE DD ((N.it p).exp),DE DD 0,DE DB 0,DE DD 0,DE DD 0],ag b17 159 [.slice (some ⟨Xj,0,none⟩) (N.it p).key.length (N.it p).key.length, .slice (some ⟨vb2,0,none⟩) (N.it p).val.length (N.it p).val.length,DE DB ((N.it p).fl),DE DD ((N.it p).exp),DE DD ((N.it p).tch),DE DB ((N.it p).tok),DE DD st2,DE DD ((N.it p).fe)]]) ?_ ?_
   ·by_cases h8:c.ax=8
    ·rw[if_pos h8]
     refine ba ?_;refine eJ ?_ (e:=by exact decide_eq_true h8);refine ba ?_;refine Lp (fW iT qx rfl rfl rfl rfl (.t4 (.t2 .here)) (by simp) (eQ (m:=c.data.length) (by simp) (λh le au=>bK (au.nth 4 rfl))) (by first|exact ee|(simp[Value.oneCell',aW])) (by first|omega|(simp;omega)) (by first|omega|(simp;omega)) rfl λa6 c6 hc6=> ?_);refine bn ?_;refine aB ?_;rw[show ak (N.it p).val++ak c.data=ak ((N.it p).val++c.data) by unfold ak;rw[adb],<-aa9];refine Me ((a6,c6)) (trivial)
    rw[if_neg h8];refine ba ?_;refine cM ?_ (e:=by exact decide_eq_false h8);refine ba ?_;refine Lp (fW iT qx rfl rfl rfl rfl (.t4 .here) (by simp) (eQ (m:=(N.it p).val.length) (by simp) (λh le au=>bK (au.nth 6 rfl))) (by first|exact ee|(simp[Value.oneCell',aW])) (by first|omega|(simp;omega)) (by first|omega|(simp;omega)) rfl λa6 c6 hc6=> ?_);refine bn ?_;refine aB ?_;rw[show ak c.data++ak (N.it p).val=ak (c.data++(N.it p).val) by unfold ak;rw[adb],<-aa9];refine Me ((a6,c6)) (trivial)
   rintro⟨a6,c6⟩ hI;dsimp only;have hvl:(if c.ax=8 then(N.it p).val++c.data else c.data++(N.it p).val).length=c.data.length+(N.it p).val.length:=by
    split<;>rw[aa9]<;>omega
   have hnw:N.rW c k (some p)=if N.v.c.lim<58+k.length+c.data.length+(N.it p).val.length then none else some (if c.ax=8 then(N.it p).val++c.data else c.data++(N.it p).val,(N.it p).fl,(N.it p).exp):=by unfold Mo.rW;rw[hov];rfl
   generalize (if c.ax=8 then(N.it p).val++c.data else c.data++(N.it p).val)=nv at*;refine av ?_;refine iL 11 mix (.cons .here (.cons (.t4 (.there .here)) .nil)) λF3 Xg rX fA=> ?_;obtain⟨q4,q5,_⟩:=rX;refine bn ?_
   first
    |refine Ti (Lf Ee) ?_
    |refine Ti (BR Ee q4) ?_
   refine bA ?_
   first
    |refine Ti (Lf bz) ?_
    |refine Ti (BR bz q4) ?_
   refine aw ?_;refine gG fA ?_;refine aw ?_;by_cases Ag:N.v.c.lim<58+k.length+c.data.length+(N.it p).val.length
   ·rw[if_pos Ag]at hnw
    refine eJ ?_;refine cq ?_;refine zl Aq (iC dX) .nil DA ?_;refine Li (XB T.ia) ?_;refine Lp (Xe ?_);refine pP [SW z N] ?_;exact⟨.t dX,N,by rw[Xm,zO,hnw],rfl,rfl⟩
   rw[if_neg Ag]at hnw;refine cM ?_;refine aw ?_;refine Me ((nv,(N.it p).fl,(N.it p).exp,a6,c6)) (⟨hnw,(by dsimp only;rw[n1]at Ag;omega),v2,v3⟩)
  refine iz ?_;refine ba ?_;refine Me ((c.data,c.fl,gR N.k.now c.ex,va,vc)) (⟨(by unfold Mo.rW;rw[hov];rfl),hd20,rN,Dp _ _ GQ.1 hex⟩)
 rintro⟨v,fl,ex,va2,vc2⟩ hI
 try dsimp only at hI⊢
 obtain⟨hnv,tM,hfl2,hex2⟩:=hI;rw[hnv]at zO;have hR:=xp (M:=N) (n:=58+k.length+v.length) (own:=old) (o:=(N.room (58+k.length+v.length) old).1) (N:=(N.room (58+k.length+v.length) old).2) ⟨O2.Qi,O2.LJ.nd,O2.LJ.lv,O2.LJ.on⟩ rfl;have hly:N.lays k old ov (v,fl,ex)=match N.room (58+k.length+v.length) old with|(none,R)=>(.t gM,R.over old ov)|(some r,R)=>(.k 1,R.fZ r old ⟨k,v,fl,ex,R.k.now,R.v.bc+1,0⟩):=rfl
 have z6:=wI z N (n4.trans hh) (by rw[n5];exact fM) k.length v.length ⟨Qq,JH⟩ (by omega) old hold;unfold DW;refine bj ?_;refine Li (Ls sE) ?_;refine aY ?_;refine zl Aq (z6) (.cons .here .nil) DA ?_;rcases hrm:N.room (58+k.length+v.length) old with⟨o,R⟩
 rw[hrm]at hR hly;dsimp only at hR hly⊢;have hoR:rO N.C old=rO R.C old:=by
  rcases old with _|p
  ·rfl
  exact(hR.s.own p rfl (hold p rfl)).2.1.symm
 have abU:∀p,old=some p->R.has p:=λp e=>(hR.s.own p e (hold p e)).1;rw[hoR];rcases o with _|r0
 ·dsimp only at hly
  refine cL ?_;refine Lp (Qf Aq rfl rfl (ni z R old abU ov gM) (.cons .here .nil) DA (by rintro v H' ⟨rfl,rfl⟩;exact pP [SW z (R.over old ov)] ⟨.t gM,_,by rw[Xm,zO];exact hly,rfl,rfl⟩) ?_);rintro v H' hF;exact hF.elim
 obtain⟨g1,g2,g3,g4⟩:=hR.ok r0 rfl;have hdn:=bU hR.k.k g3.toAt;obtain⟨_,_,_,_,GS,GR⟩:=hdn;refine bL ?_;refine cM ?_ (e:=by exact decide_eq_false (by show¬(((R.C.hd r0:Nat):Int)=0);omega));refine bL ?_;refine zl Aq (EN z R r0 g1 old k v _ _ rfl rfl (λp e=>⟨abU p e,by rw[hR.s.it];exact(e2 p e).2⟩) (λe=>K8 λq hq ek=>ZD (e3 e) (hR.s.has q hq) (by rw[<-hR.s.it];exact ek)) (some ⟨kb,0,none⟩) va2 ns vc2 fl ex 0 hk g2 hfl2 hex2 (by decide) (by rw[hR.s.bc,n2];exact vj) (by rw[hR.s.tn,n3];exact wb)) (.cons .here .nil) (λ_ le au=>⟨bK (au.nth 2 rfl),bK (au.nth 3 rfl)⟩) ?_;refine bj ?_;refine Lp (gE ey ?_ (h1:=by simp[dq,Value.cells,Value.oneCell',aW,bB]));refine bn ?_;refine pR ?_;refine GF [SW z (R.fZ r0 old ⟨k,v,fl,ex,R.k.now,R.v.bc+1,0⟩)] ey results87 ?_;exact⟨.k 1,_,by rw[Xm,zO];exact hly,rfl,rfl⟩
theorem Vp (A:By)(p:Nat)(v:F9)(q n:Nat)(h:q+n<=p+48\/p+52<=q/\q+n<=p+56+kl A p):jZ (fg A p v) q n=jZ A q n:=by
 unfold fg;rw[gm _ _ _ _ _ (.inl (by omega)),gm _ _ _ _ _ (.inl (by omega)),tq _ _ _ _ _ _ (by omega)]
theorem rp (A:By)(p:Nat)(v:F9)(o w:Nat)(h:o+w<=48\/52<=o/\o+w<=56):rd (fg A p v) (p+o) w=rd A (p+o) w:=by
 unfold fg;rw[eX _ _ _ _ _ (.inl (by omega)),eX _ _ _ _ _ (.inl (by omega)),aS _ _ _ _ _ _ (by omega)]
theorem KE (A:By)(p:Nat)(v:F9)(h:v.length<4294967296):vl (fg A p v) p=v.length:=by
 unfold fg vl;rw[eX _ _ _ _ _ (.inl (by omega)),eX _ _ _ _ _ (.inl (by omega)),qP _ _ _ _ (by omega)]
theorem KF (A:By)(p:Nat)(v:F9):kl (fg A p v) p=kl A p:=rp A p v 44 1 (.inl (by omega))
theorem Fj (A:By)(p:Nat)(v:F9):aO (fg A p v) p=aO A p:=by
 unfold aO;rw[KF,Vp _ _ _ _ _ (.inr ⟨by omega,by omega⟩)]
theorem Vo (A:By)(p:Nat)(v:F9)(h:v.length<4294967296):ko (fg A p v) p=v:=by
 unfold ko;rw[KF,KE A p v h];unfold fg;rw[gm _ _ _ _ _ (.inl (by omega)),lM]
theorem afg{C:Cs}{p:Nat}{v:F9}(A:By)(L:At C p)(hf:58+kl A p+v.length<=C.sz (C.cl p)):dm C A (fg A p v) (λq o=>q=p/\48<=o):=λi e=>by
 have h1:p+48<=i/\i<p+58+kl A p+v.length:=by
  refine aba λg=>e ?_;unfold fg wr;have hc:crlf.length=2:=rfl;rw[gO _ _ _ _ (by omega),gO _ _ _ _ (by omega),gO _ _ _ _ (by rw[ng];omega)]
 exact⟨p,i-p,L,by omega,⟨rfl,by omega⟩,by omega⟩
def Mo.pZ (M:Mo)(p:Nat)(v:F9):Mo:={M.put p {M.it p with val:=v}with v:={M.v with fE:=M.v.fE+v.length-(M.it p).val.length}}
theorem YQ{f g:Nat->Nat}{p:Nat}{l:F8}(nd:l.Nodup)(hp:p∈l)(h:∀q,q≠p->g q=f q):(l.map g).sum+f p=(l.map f).sum+g p:=by
 have e:=List.perm_cons_erase hp;rw[(e.map g).sum_nat,(e.map f).sum_nat,aa7,aa7,abp,abp];have:(l.erase p).map g=(l.erase p).map f:=List.map_congr_left λq hq=>h q λg=>by subst g;exact nd.not_mem_erase hq
 rw[this];omega
theorem bM.pZ{B:Bx}{M:Mo}(O:bM B M){p:Nat}(hp:M.has p)(v:F9)(hf:58+(M.it p).key.length+v.length<=M.C.sz (M.C.cl p)):bM ⟨B.C.wA (fg B.C.A p v),B.W,B.ty,B.E⟩ (M.pZ p v):=by
 have K:=O.k;have dL:=(O.al p).2 hp;have L:=O.tH dL;obtain⟨f1,f2,f3,f4,f5,f6,f7⟩:=O.jx dL;have qh:kl B.C.A p=(M.it p).key.length:=by rw[<-f5];exact(cI _ _ _).symm
 have tM:=(L.toAt.br K).2.2.1;have u7:=K.toFix.p1;have Qr:58+kl B.C.A p+v.length<=B.C.sz (B.C.cl p):=by rw[qh,show B.C.cl p=M.C.cl p from O.cl p,show B.C.sz (M.C.cl p)=M.C.sz (M.C.cl p) by rw[O.c];rfl];exact hf
 have d:=afg B.C.A L.toAt Qr;have I:=O.t.it p dL;have v32:v.length<4294967296:=by omega
 have other:∀q∈B.W.all,q≠p->mM (fg B.C.A p v) q=mM B.C.A q:=λq hq ne=>wu K d (O.nm hq) (O.t.it q hq) (λj s=>absurd s.1 ne);have r:=λ(q:Nat) (hq:q∈B.W.all) (o w:Nat) (h2:o+w<=48)=>lJ (o:=o) (w:=w) K d (O.nm hq) (by have:=((O.nm hq).br K).2.1;omega) (λj g1 g2 s=>by obtain⟨_,s2⟩:=s;omega);have itp:mM (fg B.C.A p v) p={M.it p with val:=v}:=by
  rw[<-O.it p dL];unfold mM Qw ve lU sK dJ;rw[Fj,Vo _ _ _ v32,rp _ _ _ _ _ (.inl (by omega)),rp _ _ _ _ _ (.inl (by omega)),rp _ _ _ _ _ (.inl (by omega)),rp _ _ _ _ _ (.inl (by omega)),rp _ _ _ _ _ (.inl (by omega))]
 have lG:∀q∈B.W.all,mM (fg B.C.A p v) q=(M.pZ p v).it q:=λq hq=>by
  show _=if q=p then _ else M.it q
  by_cases e:q=p
  ·rw[if_pos e,e];exact itp
  rw[if_neg e,other q hq e];exact O.it q hq
 have key:∀q∈B.W.all,aO (fg B.C.A p v) q=aO B.C.A q:=λq hq=>by
  by_cases e:q=p
  ·rw[e];exact Fj _ _ _
  exact congrArg I3.key (other q hq e)
 have iok:∀q∈B.W.all,gU (B.C.wA (fg B.C.A p v)) q:=λq hq=>by
  have J:=O.t.it q hq;have e2:=r q hq 16 8 (by omega);have e3:=r q hq 24 8 (by omega);have e4:kl (fg B.C.A p v) q=kl B.C.A q:=r q hq 44 1 (by omega);refine⟨by rw[cT,e4];exact J.k0, ?_,by rw[cT,e2];exact J.exp,by rw[cT,e3];exact J.tch⟩;rw[cT,e4];by_cases e:q=p
  ·rw[e,KE _ _ _ v32];exact Qr
  have e5:vl (fg B.C.A p v) q=vl B.C.A q:=lJ K d (O.nm hq) (by have:=((O.nm hq).br K).2.1;omega) (λj g1 g2 s=>e s.1);rw[e5];exact J.fits
 have lk:∀l:F8,(∀q∈l,q∈B.W.all)->GW B.C.A l->GW (fg B.C.A p v) l:=λl=>by
  induction l with
  |nil=>exact λ_ _=>trivial
  |cons q l ih=>exact λh g=>⟨(r q (h q List.mem_cons_self) 0 4 (by omega)).trans g.1,ih (λx hx=>h x (List.mem_cons_of_mem _ hx)) g.2⟩
 have T:=O.t;have hT:dC (B.C.wA (fg B.C.A p v)) B.W:=⟨T.pw,T.po,T.st,T.mp,T.sz,T.Qc,T.sm,T.mv,T.n,T.nd,λx=>lk _ (λq hq=>Tb.hU hq) (T.li x),λq hq=>(T.lv q hq).wA _,iok,
  λx q hq=>by
   show B.W.bk (cD (aO (fg B.C.A p v) q))=x;rw[key q (Tb.hU hq)];exact T.bu x q hq,
  λa ha b hb e=>by
   change aO (fg B.C.A p v) a=aO (fg B.C.A p v) b at e;rw[key a ha,key b hb]at e;exact T.kd a ha b hb e⟩
 have Q:=O.o;have hQ:jd (B.C.wA (fg B.C.A p v)) M.Q:=⟨Q.len,λi q hq=>(Q.lv i q hq).wA _,λi q hq=>iok q (O.ot hq),λi q hq=>by
   have:=r q (O.ot hq) 45 1 (by omega);show 1<=gP (fg B.C.A p v) q/\_;rw[cT,show gP (fg B.C.A p v) q=gP B.C.A q from this];exact Q.st i q hq,Q.nd,λi k hk=>by rw[cT,r _ (O.ot (abe hk)) 4 4 (by omega)];exact Q.l1 i k hk,λi k hk=>by rw[cT,r _ (O.ot (abe hk)) 8 4 (by omega)];exact Q.l2 i k hk⟩
 refine⟨?_,K.wA _,hT,O.ty,hQ,O.x, ?_,O.ck,O.al,λq=> ?_,O.ho,lG, ?_,O.st,O.nb,O.mg,O.mo, ?_,O.un,O.on,O.go,O.wn,O.cf,O.n,λq hq=> ?_⟩
 ·show B.C.wA _=M.C.wA _
  conv=>lhs;rw[O.c]
  rfl
 ·intro i q hq
  show dJ (fg B.C.A p v) q<16;rw[show dJ (fg B.C.A p v) q=dJ B.C.A q from r q (O.ot hq) 46 1 (by omega)];exact O.mq i q hq
 ·refine Iff.trans ?_ (O.lv q)
  exact⟨λh=>⟨⟨h.i,h.own,h.al,h.k⟩,h.tk⟩,λh=>h.wA _⟩
 ·refine O.e.trans (List.Perm.of_eq (fY (C:=B.C) (D:=B.C.wA (fg B.C.A p v)) (M:=M) (N:=M.pZ p v) λq _=>⟨?_,rfl,rfl⟩).symm)
  show(if q=p then _ else M.it q).exp=_;by_cases e:q=p
  ·rw[if_pos e,e]
  rw[if_neg e]
 ·show M.v.fE+v.length-(M.it p).val.length=(B.W.all.map λq=>((M.pZ p v).it q).sz).sum
  have h1:=YQ (f:=λq=>(M.it q).sz) (g:=λq=>((M.pZ p v).it q).sz) T.nd dL (λq ne=>by
   show(if q=p then _ else M.it q).sz=_;rw[if_neg ne])
  have h2:((M.pZ p v).it p).sz=58+(M.it p).key.length+v.length:=by
   show(if p=p then _ else M.it p).sz=_;rw[if_pos rfl];rfl
  have h3:=O.bt;have h4:(M.it p).sz=58+(M.it p).key.length+(M.it p).val.length:=rfl;rw[h2,h4]at h1;omega
 rw[<-lG q hq];show cU (aO (fg B.C.A p v) q)=true;rw[key q hq,show aO B.C.A q=(M.it q).key from congrArg I3.key (O.it q hq)];exact O.lg q hq
end Go.Proofs.YtcbcjolpdljbiaaGreat
namespace Go.Proofs.YtcbcjolpdljbiaaGreat
open Go Go.dQ Go.Proofs.YtcbcjolpdljbiaaGreat.Cs
theorem AE (n:Nat):IntKind.u64.wrap (n:Int)=((n % 18446744073709551616:Nat):Int):=by
 simp[IntKind.wrap,IntKind.bits,IntKind.signed]
def BxT (z:Ly)(B:Bx)(M:Mo):aa:=aF
 [ag z.y.t 154 (gV z.y.b B.W B.ty),ag B.ty.nk 149 (aV (aL B.W.nb)),oe B.ty.ok 149 (aV (aL B.W.ob)),ag z.y.q 182 (iF z.y.b z.qb B.C.ae.length),ag z.qb 333 (M.Q.flatMap (di B.C)),iH z.y.cr z.y.q z.y.wh B.C.ae.length (aZ z.s) (bG z.s) B.C M.x,Wl z.y.wh B.E M.tn,
  kS z.y.ck M.k,og z.y.lu z.y.b z.y.q z.hot z.warm,nq z.y.mo z.y.b z.ub (aZ z.s) (bG z.s) (du z.s) M.m,kO z.ub M.m,jO M]
theorem MJ{L:Dz}{A B:aa}{H:Dz}{h:Hp}(s:ai (A::B::(L++H)) h):ai (A::B::aF L::H) h:=aJ (λ_=>aJ λ_=>eC) s
theorem Ut{L:Dz}{A B:aa}{H:Dz}{h:Hp}(s:ai (A::B::aF L::H) h):ai (A::B::(L++H)) h:=aJ (λ_=>aJ λ_=>vH) s
theorem FU (z:Ly)(B:Bx)(M:Mo)(H:Dz):fO (eh z B M++H) (fC z.s z.y (fm M.v)) (XC z B M++H):=
 .t8 .here
theorem agW{z:Ly}{B:Bx}{M:Mo}{H:Dz}(h:Hp)(s:ai (eh z B M++H) h):ai (ag z.s 96 (Aa z.y M.v++ [.slice M.v.wa M.v.wn M.v.wc])::Cl z.y.b B.C::BxT z B M::H) h:=
 MJ ((FU z B M H).out _ s)
theorem akY{z:Ly}{B:Bx}{M:Mo}{H:Dz}(h:Hp)(s:ai (ag z.s 96 (Aa z.y M.v++ [.slice M.v.wa M.v.wn M.v.wc])::Cl z.y.b B.C::BxT z B M::H) h):ai (eh z B M++H) h:=
 (FU z B M H).back _ (Ut s)
section
variable {n:Nat} {ds:Dx} {F:dM} {K:F7} {σ:aT} {z:Ly} {M N:Mo} {H:Dz}
theorem akk (h:∀B,bM B M->G n ds F K σ (ag z.s 96 (Aa z.y M.v++ [.slice M.v.wa M.v.wn M.v.wc])::Cl z.y.b B.C::BxT z B M::H)):G n ds F K σ (SH z M::H):=
 cN λB O=>ay agW (h B O)
theorem akj{B:Bx}(D:Cs)(O:bM ⟨D,B.W,B.ty,B.E⟩ N)(hb:BxT z ⟨D,B.W,B.ty,B.E⟩ N=BxT z B M)(h:G n ds F K σ (SH z N::H)):G n ds F K σ (ag z.s 96 (Aa z.y N.v++ [.slice N.v.wa N.v.wn N.v.wc])::Cl z.y.b D::BxT z B M::H):=by
 rw[<-hb];exact ay (λk s=>aD O k (akY k s)) h
end
theorem Up (z:Ly)(M:Mo)(p t:Nat)(hp:M.has p)(ht:t<18446744073709551616):aK aaY 126 [DC z.y.b,DE DB (M.C.hd p),DE DB t] vz [SW z M] (λv H=>v=DE DD 0/\H= [SW z (M.tok p t)]):=
 je (N:=M.tok p t) (T:=λv=>v=DE DD 0) λa c=>dV λB O=>by
  have dL:=(O.al p).2 hp;have h:=(amj z.y.b B.C O.k p t ht (O.tH dL) (O.t.it p dL).k0).fr (H:=eh z B (M.aN a c)++ []) (R:=(eh z B (M.aN a c)).tail) (.cons .here .nil) (λk au=>trivial);rw[O.hd]at h;refine h.out ?_;rintro v H' ⟨H0,⟨rfl,rfl⟩,rfl⟩;exact⟨[SH z ((M.tok p t).aN a c)],⟨rfl,rfl⟩,λk s=>aD (O.w32 dL t ht) (H:= []) k s⟩
theorem vx (z:Ly)(M:Mo)(c:Nat)(hc:c<M.fP):aK aaY 32 [DC z.s,DE DD c] vz [SW z M] (λv H=>v=DE DD (M.C.sz c)/\H= [SW z M]):=by
 have h:=IE z M c;rw[show(ofM M.C c λi=>M.C.sz i)=M.C.sz c by unfold ofM;rw[if_pos ⟨by omega,by exact Int.ofNat_lt.2 hc⟩];rfl]at h;refine af func32 rfl ntmps32 rfl ?_;intro F _;refine bD ?_;refine zl Aq (h) (.cons .here .nil) DA ?_;refine bj ?_;refine Rt [SW z M] results32 ?_;exact⟨rfl,rfl⟩
def gX (c:dy)(n:Nat):Nat:=if c.ax=12 then(n+c.dl) % 18446744073709551616 else n-c.dl
def Mo.qL (M:Mo)(p m:Nat):fh×Mo:=
 if 58+(M.it p).key.length+(dZ m).length<=M.C.sz (M.C.cl p)then(⟨7,[],m,[]⟩,((((M.pZ p (dZ m)).rT (M.v.bc+1)).tok p (M.v.bc+1)).marks p 0).lG p)
 else if M.v.c.lim<58+(M.it p).key.length+(dZ m).length then(.t dX,M)
 else match M.room (58+(M.it p).key.length+(dZ m).length) (some p)with
  |(none,R)=>(.t gM,R)
  |(some r,R)=>(⟨7,[],m,[]⟩,R.fZ r (some p) ⟨(M.it p).key,dZ m,(M.it p).fl,(M.it p).exp,R.k.now,R.v.bc+1,0⟩)
def Mo.counts (M:Mo)(c:dy)(k:F9):fh×Mo:=match M.meet k with
 |(none,N)=>(.k 4,N)
 |(some p,N)=>match kV (N.it p).val with
  |none=>(.t sS,N)
  |some n=>N.qL p (gX c n)
theorem Py (z:Ly)(M:Mo)(c:dy)(ka:FX)(kc:Nat)(da:FX)(dc:Nat)(mv:Value)(kx:mv.oneCell'=true)(k:F9)(r:List F9)(qf:c.keys=k::r)(hk:cU k=true)(hw:M.kh.length<1073741824)(GB:c.dl<18446744073709551616)
  (hh:M.hole=none) (fM:M.m.st<4611686018427387904) (D5:M.v.c.lim<=1048576) (vj:M.v.bc+1<18446744073709551616) (wb:M.tn<18446744073709551615):
  XZ aaY 82 [DC z.s, .agg (dB c ka kc da dc mv).toArray] (λh=>fD h ka (fk c.keys)) [SW z M]
   (λv H=>∃a N,M.counts c k=(a,N)/\v=vq a/\H= [SW z N]) (λv H=>∃a N,M.counts c k=(a,N)/\v=so (vq a)/\H= [SW z N]):=by
 obtain⟨Qq,JH⟩:=fX hk;refine mC func82 rfl ntmps82 rfl ?_;intro F hr;refine aw ?_;refine Lp (oB λb1=> ?_);refine Lp (oA nz λb2=> ?_);refine aw ?_;refine Hh (H':= [SW z M,ag b1 42 (dB c ka kc da dc mv),ag b2 52 [DE DD 0,bB,DE DB 0,aW [],bB]]) ?_;refine bj ?_;refine Lp (Qf Aq rfl rfl (yT z M c ka kc da dc mv kx k r qf (by omega) hw) (.cons .here .nil) (λ_ le _=>hr.mono le) (by rintro v H' ⟨N,hm,rfl,rfl⟩;exact pP [SW z N] ⟨.k 4,N,by unfold Mo.counts;rw[hm],rfl,rfl⟩) ?_);rintro v H' ⟨p,N,hm,rfl,rfl⟩;refine bS ?_;obtain⟨m1,m2,m3⟩:=iV hm;have hN:N.has p:=by rw[m3];exact m1
 have hC:M.C=N.C:=by rw[m3];rfl
 have hNv:N.v.c=M.v.c/\N.v.bc=M.v.bc/\N.tn=M.tn/\N.hole=M.hole/\N.m.st=M.m.st:=by rw[m3];exact⟨rfl,rfl,rfl,rfl,rfl⟩
 have oF:(N.it p).key=k:=by rw[m3];exact m2
 obtain⟨n1,n2,n3,n4,n5⟩:=hNv;have zP:M.counts c k=match kV (N.it p).val with|none=>(.t sS,N)|some n=>N.qL p (gX c n):=by unfold Mo.counts;rw[hm]
 rw[hC];refine qB λwa wc B O=> ?_;obtain⟨v1,v2,v3,v4⟩:=O.aiJ (p:=p) hN;change(N.it p).val.length<=_ at v1;change(N.it p).fl<_ at v2;change(N.it p).exp<_ at v3;change(N.it p).key.length<=_ at v4;refine cu ?_;refine Lp (oC Aq rfl rfl (AW z N p hN) (.cons .here .nil) DA ?_);rintro v H' ⟨H0,⟨Xj,vb2,st2,hs1',hs2',hs3',rfl,rfl⟩,rfl⟩;refine bS ?_;unfold DW;refine bj ?_;refine Lp (oA bZ λb3=> ?_);refine Lp (gE eB ?_ (h1:=by simp[DW,Value.oneCell']));refine ba ?_;refine Lp (Qf Aq rfl rfl (Px (some ⟨vb2,0,none⟩) (N.it p).val.length (N.it p).val.length (N.it p).val rfl (by omega)) .nil (λ_ le au=>bK (au.nth 2 rfl)) (by rintro v H' ⟨hn,rfl,rfl⟩;exact pP [SW z N] ⟨.t sS,N,by rw[zP,hn],rfl,rfl⟩) ?_);rintro v H' ⟨⟨n,hn,aiZ,rfl⟩,rfl⟩;refine bS ?_;rw[hn]at zP;dsimp only at zP;have hmlt:gX c n<18446744073709551616:=by unfold gX;split<;>omega
 refine bn ?_;refine av ?_;refine cG (ι:=Unit) (FZ [8,1,31,15]) (λu=>True) (λu=> [(8,DE DB (gX c n:Nat))]) (λu=> [SW z N,ag b1 42 (dB c ka kc da dc mv),ag b2 52 [DE DD 0,bB,DE DB 0,aW [],bB],ag b3 159 [.slice (some ⟨Xj,0,none⟩) (N.it p).key.length (N.it p).key.length, .slice (some ⟨vb2,0,none⟩) (N.it p).val.length (N.it p).val.length,DE DB ((N.it p).fl),DE DD ((N.it p).exp),DE DD ((N.it p).tch),DE DB ((N.it p).tok),DE DD st2,DE DD ((N.it p).fe)],own (some ⟨Xj,0,none⟩) (N.it p).key.length 5 1 (ak (N.it p).key)]) ?_ ?_
 ·by_cases vd:c.ax=12
  ·have hmm:gX c n=(n+c.dl) % 18446744073709551616:=by unfold gX;rw[if_pos vd]
   rw[hmm];refine ba ?_;refine eJ ?_ (e:=by exact decide_eq_true vd);refine bA ?_;refine aB ?_;refine az (t:=8) (v':=(DE DB ((n+c.dl) % 18446744073709551616:Nat))) rfl (by exact congrArg (Value.int .u64) (by first|exact AE (n+c.dl)|exact(AE (n+c.dl)).symm|(rw[<-AE];rfl))) ?_;refine Me (()) (trivial)
  have hmm:gX c n=n-c.dl:=by unfold gX;rw[if_neg vd]
  rw[hmm];refine ba ?_;refine cM ?_ (e:=by exact decide_eq_false vd);by_cases ct:n<c.dl
  ·refine iz ?_
   refine ba ?_;refine eJ ?_;refine bn ?_;refine aB ?_;refine Me (()) (trivial) (hs:=⟨(congrArg (λq=>some (Value.int .u64 q)) (by omega)),trivial⟩)
  refine iz ?_;refine ba ?_;refine cM ?_;refine bA ?_;refine aB ?_;refine Me (()) (trivial) (hs:=⟨(congrArg (λq=>some (Value.int .u64 q)) (by omega)),trivial⟩)
 rintro u hI;generalize gX c n=m at*;have r9:N.qL p m=if 58+(N.it p).key.length+(dZ m).length<=N.C.sz (N.C.cl p)then(⟨7,[],m,[]⟩,((((N.pZ p (dZ m)).rT (N.v.bc+1)).tok p (N.v.bc+1)).marks p 0).lG p)else if N.v.c.lim<58+(N.it p).key.length+(dZ m).length then(.t dX,N)else match N.room (58+(N.it p).key.length+(dZ m).length) (some p)with|(none,R)=>(.t gM,R)|(some r,R)=>(⟨7,[],m,[]⟩,R.fZ r (some p) ⟨(N.it p).key,dZ m,(N.it p).fl,(N.it p).exp,R.k.now,R.v.bc+1,0⟩):=rfl
 have akg:(dZ m).length<=20:=by have:=yZ 20 m (by omega);omega
 have hL:=O.tH ((O.al p).2 hN);have hcn:N.C.cl p<N.fP:=by
  have:=(hL.toAt.br O.k).1;rw[show B.C.cl p=N.C.cl p from O.cl p,O.c]at this;exact this
 refine bn ?_;refine Lp (oC Aq rfl rfl (Uu m hmlt) .nil DA ?_);rintro v H' ⟨ta,tc,rfl,rfl⟩;refine bS ?_;generalize dZ m=t at*;refine BV ?_;refine zl Aq (YO z N p hN) (.cons (.there .here) .nil) DA ?_;refine fu ?_;refine zl Aq (vx z N (N.C.cl p) hcn) (.cons .here .nil) DA ?_;by_cases au:58+(N.it p).key.length+t.length<=N.C.sz (N.C.cl p)
 ·rw[if_pos au]at r9
  refine bj ?_;refine eJ ?_
  clear O
  refine av ?_;refine Hh (H':= [SW z N,own ta tc 5 1 (ak t),ag b1 42 (dB c ka kc da dc mv),ag b2 52 [DE DD 0,bB,DE DB 0,aW [],bB],ag b3 159 [.slice (some ⟨Xj,0,none⟩) (N.it p).key.length (N.it p).key.length, .slice (some ⟨vb2,0,none⟩) (N.it p).val.length (N.it p).val.length,DE DB ((N.it p).fl),DE DD ((N.it p).exp),DE DD ((N.it p).tch),DE DB ((N.it p).tok),DE DD st2,DE DD ((N.it p).fe)],own (some ⟨Xj,0,none⟩) (N.it p).key.length 5 1 (ak (N.it p).key)]) ?_;refine AL λwa wc=>akk λB O=> ?_;have hbt:=O.aji;have dL:=(O.al p).2 hN;have Ql:(N.it p).val.length<=N.v.fE:=by
   have h1:=O.bt;have h2:=xm (λq=>((N.aN wa wc).it q).sz) dL;have h3:((N.aN wa wc).it p).sz=58+(N.it p).key.length+(N.it p).val.length:=rfl;change N.v.fE=_ at h1;rw[<-h1,h3]at h2;omega
  change N.v.fE<=_ at hbt;have qh:kl B.C.A p=(N.it p).key.length:=by rw[<-show aO B.C.A p=(N.it p).key from(O.jx dL).2.2.2.2.1];exact(cI _ _ _).symm
  have vk:58+((N.aN wa wc).it p).key.length+t.length<=(N.aN wa wc).C.sz ((N.aN wa wc).C.cl p):=au;have iv:=No z.y.b B.C O.k p (O.tH dL) (O.t.it p dL).k0 ta t.length tc t rfl (by rw[qh,show B.C.cl p=N.C.cl p from O.cl p,show B.C.sz (N.C.cl p)=N.C.sz (N.C.cl p) by rw[O.c];rfl];exact au);rw[show B.C.hd p=N.C.hd p from O.hd p]at iv;unfold Aa adk;dsimp only[Mo.aN];refine bS ?_;refine iL 13 mix (.cons .here (.cons (.t4 (.there .here)) .nil)) λF1 jq bV aI=> ?_;obtain⟨q1,q6,_⟩:=bV;refine bO ?_;refine az (t:=106) (v':=(DE DD (N.v.fE+t.length-(N.it p).val.length:Nat))) rfl (by exact congrArg (Value.int .i64) (by omega)) ?_;refine bn ?_;refine gG aI ?_;refine bD ?_;refine zl Aq (iv) (.cons (.t2 .here) .nil) (λ_ le au=>bK (au.nth 3 rfl)) ?_;refine aw ?_;refine av ?_;refine Hh (H':= [ag z.s 96 (Aa z.y (N.pZ p t).v++ [.slice wa N.kh.length wc]),Cl z.y.b (B.C.wA (fg B.C.A p t)),BxT z B (N.aN wa wc),own ta tc 5 1 (ak t),ag b1 42 (dB c ka kc da dc mv),ag b2 52 [DE DD 0,bB,DE DB 0,aW [],bB],ag b3 159 [.slice (some ⟨Xj,0,none⟩) (N.it p).key.length (N.it p).key.length, .slice (some ⟨vb2,0,none⟩) (N.it p).val.length (N.it p).val.length,DE DB ((N.it p).fl),DE DD ((N.it p).exp),DE DD ((N.it p).tch),DE DB ((N.it p).tok),DE DD st2,DE DD ((N.it p).fe)],own (some ⟨Xj,0,none⟩) (N.it p).key.length 5 1 (ak (N.it p).key)]) ?_;refine akj (N:=(N.aN wa wc).pZ p t) _ (O.pZ hN t vk) rfl ?_;refine ab7 (M:=N.pZ p t) wa wc ?_;have u7:(N.pZ p t).has p:=hN;rw[show N.C=(N.pZ p t).C from rfl];have PY:(N.pZ p t).v.bc=N.v.bc:=rfl;generalize hN1:N.pZ p t=N1 at*;refine bA ?_;refine az (t:=121) (v':=(DE DB (N.v.bc+1:Nat))) rfl (by exact congrArg (Value.int .u64) (by rw[PY];rfl)) ?_;refine bn ?_;refine Lp (oSc (i:=19) si ?_);refine aw ?_;refine av ?_;have dL:(N1.rT (N.v.bc+1)).has p:=u7;rw[show N1.C=(N1.rT (N.v.bc+1)).C from rfl];have xh:(N1.rT (N.v.bc+1)).v.bc=N.v.bc+1:=rfl;generalize hN2:N1.rT (N.v.bc+1)=N2 at*;refine iL 10 mix (.cons .here .nil) λF2 zU eP dE=> ?_;obtain⟨q7,_⟩:=eP;refine aY ?_
  first
   |refine Ti (Lf QV) ?_
   |refine Ti (BR QV q7) ?_
  refine aY ?_
  first
   |refine Ti (Lf si) ?_
   |refine Ti (BR si q7) ?_
  refine gG dE ?_;rw[xh];refine Tp (oZ (Aq (n:=126)) (Up z N2 p (N.v.bc+1) dL (by rw[n2];exact vj)) (.cons .here .nil) DA ?_);refine aY ?_;refine zl Aq (IB z (N2.tok p (N.v.bc+1)) p 0 (by decide) dL) (.cons .here .nil) DA ?_;refine aY ?_;refine zl Aq (yG z ((N2.tok p (N.v.bc+1)).marks p 0) p dL) (.cons .here .nil) DA ?_;refine bA ?_;refine Lp (gE ey ?_ (h1:=by simp[dq,Value.cells,Value.oneCell',aW,bB]));refine bn ?_;refine pR ?_;refine GF [SW z (((N2.tok p (N.v.bc+1)).marks p 0).lG p)] ey results82 ?_;exact⟨⟨7,[],m,[]⟩,_,by rw[zP,r9],rfl,rfl⟩
 rw[if_neg au]at r9;refine bj ?_;refine cM ?_;refine bD ?_;by_cases Ag:N.v.c.lim<58+(N.it p).key.length+t.length
 ·rw[if_pos Ag]at r9
  refine eJ ?_;refine cq ?_;refine zl Aq (iC dX) .nil DA ?_;refine Li (XB T.ia) ?_;refine Lp (Xe ?_);refine pP [SW z N] ?_;exact⟨.t dX,N,by rw[zP,r9],rfl,rfl⟩
 rw[if_neg Ag]at r9;refine cM ?_;have hR:=xp (M:=N) (n:=58+(N.it p).key.length+t.length) (own:=some p) (o:=(N.room (58+(N.it p).key.length+t.length) (some p)).1) (N:=(N.room (58+(N.it p).key.length+t.length) (some p)).2) ⟨O.Qi,O.LJ.nd,O.LJ.lv,O.LJ.on⟩ rfl;have z6:=wI z N (n4.trans hh) (by rw[n5];exact fM) (N.it p).key.length t.length ⟨by rw[oF];exact Qq,v4⟩ (by omega) (some p) (λq e=>by cases e;exact hN);refine cY ?_;refine zl Aq (z6) (.cons .here .nil) DA ?_;rcases hrm:N.room (58+(N.it p).key.length+t.length) (some p)with⟨o,R⟩
 rw[hrm]at hR r9;dsimp only at hR r9⊢;obtain⟨hRp,hRh,_⟩:=hR.s.own p rfl hN;rw[show N.C.hd p=rO R.C (some p)from hRh.symm];rcases o with _|r0
 ·dsimp only at r9
  refine cY ?_;refine cq ?_;refine zl Aq (iC gM) .nil DA ?_;refine Li (XB T.ia) ?_;refine Lp (Xe ?_);refine pP [SW z R] ?_;exact⟨.t gM,R,by rw[zP,r9],rfl,rfl⟩
 obtain⟨g1,g2,g3,g4⟩:=hR.ok r0 rfl;have hdn:=bU hR.k.k g3.toAt;obtain⟨_,_,_,_,GS,GR⟩:=hdn;refine bL ?_;refine cM ?_ (e:=by exact decide_eq_false (by show¬(((R.C.hd r0:Nat):Int)=0);omega));refine fu ?_;refine zl Aq (EN z R r0 g1 (some p) (N.it p).key t _ _ rfl rfl (λq e=>by cases e;exact⟨hRp,by rw[hR.s.it]⟩) (λe=>by cases e) (some ⟨Xj,0,none⟩) ta (N.it p).key.length tc (N.it p).fl (N.it p).exp 0 (by rw[oF];exact hk) g2 v2 v3 (by decide) (by rw[hR.s.bc,n2];exact vj) (by rw[hR.s.tn,n3];exact wb)) (.cons .here .nil) (λ_ le au=>⟨bK (au.nth 4 rfl),bK (au.nth 0 rfl)⟩) ?_;refine bA ?_;refine Lp (gE ey ?_ (h1:=by simp[dq,Value.cells,Value.oneCell',aW,bB]));refine bn ?_;refine pR ?_;refine GF [SW z (R.fZ r0 (some p) ⟨(N.it p).key,t,(N.it p).fl,(N.it p).exp,R.k.now,R.v.bc+1,0⟩)] ey results82 ?_;exact⟨⟨7,[],m,[]⟩,_,by rw[zP,r9],rfl,rfl⟩
end Go.Proofs.YtcbcjolpdljbiaaGreat
namespace Go.Proofs.YtcbcjolpdljbiaaGreat
open Go Go.dQ Go.Proofs.YtcbcjolpdljbiaaGreat.Cs
theorem bM.ck1{B:Bx}{M:Mo}(O:bM B M){k:Ck}(h:tS k):bM B {M with k:=k}:=
 ⟨O.c,O.k,O.t,O.ty,O.o,O.x,O.mq,h,O.al,O.lv,O.ho,O.it,O.e,O.st,O.nb,O.mg,O.mo,O.bt,O.un,O.on,O.go,O.wn,O.cf,O.n,O.lg⟩
theorem dt.again{n:Nat}{Q:Dy}{x:Cw}(_:dt n Q x):dt n Q x.again:=⟨(λe=>by cases e),λ_=>⟨rfl,rfl,rfl,rfl⟩,(λ_ e=>by cases e),abn _⟩
theorem IC (z:Ly)(M:Mo)(t:Int)(hi:M.v.bc<18446744073709551616)(ht:t<9223372036854775808):aK aaY 74 [DC z.y.ck,DE DD t,DE DB M.v.bc] vz [SW z M]
  (λv H=>v= .tuple #[]/\H= [SW z {M with k:=M.k.flush t M.v.bc}]):=
 je (N:={M with k:=M.k.flush t M.v.bc}) (T:=λv=>v= .tuple #[]) λa c=>dV λB O=>by
  have h:=(zD z.y.ck M.k O.ck.n2 t M.v.bc hi ht).fr (H:=eh z B (M.aN a c)++ []) (R:= [Cl z.y.b B.C,DS z B.W B.ty,zY B.ty B.W,DU B.ty B.W,DT z B.C.ae.length,ag z.qb 333 (M.Q.flatMap (di B.C)),Xr z B.C.ae.length B.C M.x,Wl z.y.wh B.E M.tn,fC z.s z.y (fm (M.aN a c).v),
   zR z,xM z M.m,kO z.ub M.m,jO (M.aN a c)]) (.cons (.t8 (.there .here)) .nil) (λ_ _=>trivial)
  refine h.out ?_;rintro v H' ⟨H0,⟨rfl,rfl⟩,rfl⟩;refine⟨[SH z (({M with k:=M.k.flush t M.v.bc}:Mo).aN a c)],⟨rfl,rfl⟩,λk s=>aD (O.ck1 (O.ck.flush t hi)) (H:= []) k ?_⟩
  revert s
  revert k
  simp only[pH,cap,acT];unfold eh;exact Eh
theorem IF (z:Ly)(M:Mo):aK aaY 86 [DC z.y.cr] vz [SW z M]
  (λv H=>v= .tuple #[]/\H= [SW z {M with x:=M.x.again}]):=
 je (N:={M with x:=M.x.again}) (T:=λv=>v= .tuple #[]) λa c=>dV λB O=>by
  have h:=(BE z.y.cr z.y.q z.y.wh B.C.ae.length (aZ z.s) (bG z.s) B.C M.x).fr (H:=eh z B (M.aN a c)++ []) (R:= [Cl z.y.b B.C,DS z B.W B.ty,zY B.ty B.W,DU B.ty B.W,DT z B.C.ae.length,ag z.qb 333 (M.Q.flatMap (di B.C)),Wl z.y.wh B.E M.tn,fC z.s z.y (fm (M.aN a c).v),
   kS z.y.ck M.k,zR z,xM z M.m,kO z.ub M.m,jO (M.aN a c)]) (.cons (.t4 (.t2 .here)) .nil) (λ_ _=>trivial)
  refine h.out ?_;rintro v H' ⟨H0,⟨rfl,rfl⟩,rfl⟩;refine⟨[SH z (({M with x:=M.x.again}:Mo).aN a c)],⟨rfl,rfl⟩,λk s=>aD (O.cw O.x.again) (H:= []) k ?_⟩
  revert s
  revert k
  simp only[pH,cap,acT];unfold eh;exact Eh
theorem EJ (b:Nat)(cs:FV):Mk aaY 80 [DC b] .returning .returning (λ_=>True) [ag b 52 cs] (λv H=>v= .tuple #[]/\H= [ag b 52 cs]):=by
 refine Se (Aq (n:=80)) func80 rfl ntmps80 rfl rfl rfl rfl rfl rfl rfl rfl rfl (.inl ⟨rfl,rfl,rfl⟩) ?_;intro F _;refine bn ?_;refine Li (Iqn T.abR) ?_;refine bj ?_;refine j5 [ag b 52 cs] results80 ?_;exact⟨rfl,rfl⟩
theorem Uf (b:Nat)(c0 c1 c2 c3 c4:Value)(a:fh):Mk aaY 80 [DC b] (.panicking [pe (so (vq a))]) (.panicking [{v:=so (vq a),recovered:=true}]) (λ_=>True) [ag b 52 [c0,c1,c2,c3,c4]] (λv H=>v= .tuple #[]/\H= [ag b 52 (gd a.kind bB a.num a.uT)]):=by
 refine Se (Aq (n:=80)) func80 rfl ntmps80 rfl rfl rfl rfl rfl rfl rfl rfl rfl (.inr ⟨rfl,rfl⟩) ?_;intro F _;unfold so vq xZ gd bB;refine bn ?_;refine Li (Iq T.abR) ?_;refine aY ?_;refine Li (TaT T.ia) ?_;refine bj ?_;refine Lp (oA Hd λb1=> ?_);refine Lp (gE Ig ?_ (h1:=by simp[dq,Value.cells,Value.oneCell',aW,bB]));refine gQ ?_;refine Lp (oSN ey ?_ (h1:=by simp[dq,Value.cells,Value.oneCell',aW,bB]));refine aB ?_;refine j5 [ag b 52 [DE DD a.kind, .slice none 0 0,DE DB a.num,aW a.uT, .slice none 0 0]] results80 ?_;exact⟨rfl,rfl⟩
def xj:F9:= [103,114,97,110,97,114,121,32,49]
def Mo.delete (M:Mo)(k:F9):fh×Mo:=match M.meet k with
 |(none,N)=>(.k 4,N)
 |(some p,N)=>(.k 5,N.bY p)
def Mo.dK (M:Mo)(c:dy):fh×Mo:=
 if 1<=c.ax/\c.ax<=4 then M.xY c.ax c.keys c.ex
 else if c.ax=12\/c.ax=13 then M.counts c (c.keys.headD [])
 else if c.ax=14 then M.gN (c.keys.headD []) c.ex
 else if c.ax=11 then M.delete (c.keys.headD [])
 else if c.ax=15 then(.k 8,{M with k:=M.k.flush c.ex M.v.bc,x:=M.x.again})
 else if c.ax=16 then(⟨10,[],0,xj⟩,M)
 else if c.ax=17 then(.k 8,M)
 else if c.ax=18 then(.k 12,M)
 else M.dS c (c.keys.headD [])
def Mj (z:Ly)(r:fh×Mo)(v:Value)(H:Dz):Prop:=∃ea ec l,l.map Prod.fst=r.1.eK/\v=xZ r.1.kind (.slice ea l.length ec) r.1.num r.1.uT/\H= [own ea ec 56 9 (kE l),kD l,SW z r.2]
theorem wT{M N:Mo}{c:dy}{k:F9}{a:fh}(h:M.counts c k=(a,N)):a.eK= []:=by
 have:(M.counts c k).1.eK= []:=by
  unfold Mo.counts Mo.qL
  (repeat' split)<;>rfl
 rw[h]at this;exact this
theorem wK{M N:Mo}{c:dy}{k:F9}{a:fh}(h:M.dS c k=(a,N)):a.eK= []:=by
 have:(M.dS c k).1.eK= []:=by
  unfold Mo.dS Mo.jj Mo.lays
  (repeat' split)<;>rfl
 rw[h]at this;exact this
theorem uK{M N:Mo}{k:F9}{e:Int}{a:fh}(h:M.gN k e=(a,N)):a.eK= []:=by
 have:(M.gN k e).1.eK= []:=by
  unfold Mo.gN
  (repeat' split)<;>rfl
 rw[h]at this;exact this
section
variable {n t b:Nat} {F:dM} {σ:aT} {fn:Func} {z:Ly} {r:fh×Mo} {R:Dz}
theorem kG (hr:fn.results= #[.cell t 52])(he:r.1.eK= [])(ht:dQ.look σ t=some (DC b):=by exact rfl):
  G n [P6 80 [] [DC b]] F (bodyPostD aaY fn (λe w'=>∃v H',e= .returned v/\Mj z r v H'/\St F H' w') .ret) σ (ag b 52 (gd r.1.kind bB r.1.num r.1.uT)::SW z r.2::R):=by
 refine cX 56 9 ?_;refine uG ?_;refine RrC (e:=52) [own none 0 56 9 (kE []),kD [],SW z r.2] ey hr (EJ b (gd r.1.kind bB r.1.num r.1.uT)) (.cons (.t2 .here) .nil) DA ?_ ht;rintro v Hx ⟨rfl,rfl⟩;exact⟨_,_,_, .here,rfl,rfl,⟨none,0,[],he.symm,rfl,rfl⟩,λh s=>dH (by
  obtain⟨_,h2,_,_,l2,_,s⟩:=s;exact eW (aJ (λk s=>aJ (R:=SW z r.2::R) (λk s=>aJ (R':= []) (λ_ _=>trivial) s) s) s) l2)⟩
theorem ur{c0 c1 c2 c3 c4:Value}(hr:fn.results= #[.cell t 52])(he:r.1.eK= [])(ht:dQ.look σ t=some (DC b):=by exact rfl):
  G n [P6 80 [] [DC b]] F (bodyPostD aaY fn (λe w'=>∃v H',e= .returned v/\Mj z r v H'/\St F H' w') (.panic [pe (so (vq r.1))])) σ (ag b 52 [c0,c1,c2,c3,c4]::SW z r.2::R):=by
 refine cX 56 9 ?_;refine uG ?_;refine RpC (e:=52) [own none 0 56 9 (kE []),kD [],SW z r.2] ey hr (Uf b c0 c1 c2 c3 c4 r.1) (.cons (.t2 .here) .nil) DA ?_ ht;rintro v Hx ⟨rfl,rfl⟩;exact⟨_,_,_, .here,rfl,rfl,⟨none,0,[],he.symm,rfl,rfl⟩,λh s=>dH (by
  obtain⟨_,h2,_,_,l2,_,s⟩:=s;exact eW (aJ (λk s=>aJ (R:=SW z r.2::R) (λk s=>aJ (R':= []) (λ_ _=>trivial) s) s) s) l2)⟩
end
theorem ad4 (z:Ly)(M:Mo)(c:dy)(ka:FX)(kc:Nat)(da:FX)(dc:Nat)(mv:Value)(kx:mv.oneCell'=true)(hb:lY c=false)(GQ:c.keys.length<1073741824)(qh:∀k∈c.keys,k.length<281474976710656)(hw:M.kh= [])(hex:c.ex<9223372036854775808)(hda:c.data.length<281474976710656)(GB:c.dl<18446744073709551616)
  (hh:M.hole=none) (fM:M.m.st<4611686018427387904) (D5:M.v.c.lim<=1048576) (vj:M.v.bc+1<18446744073709551616) (wb:M.tn+c.keys.length<18446744073709551615):
  aK aaY 43 [DC z.s, .agg (dB c ka kc da dc mv).toArray] (λh=>fD h ka (fk c.keys)/\fD h da (ak c.data)) [SW z M] (Mj z (M.dK c)):=by
 have lh:M.dK c=if 1<=c.ax/\c.ax<=4 then M.xY c.ax c.keys c.ex else if c.ax=12\/c.ax=13 then M.counts c (c.keys.headD [])else if c.ax=14 then M.gN (c.keys.headD []) c.ex else if c.ax=11 then M.delete (c.keys.headD [])else if c.ax=15 then(.k 8,{M with k:=M.k.flush c.ex M.v.bc,x:=M.x.again})else if c.ax=16 then(⟨10,[],0,xj⟩,M)else if c.ax=17 then(.k 8,M)else if c.ax=18 then(.k 12,M)else M.dS c (c.keys.headD []):=rfl
 have hbf:lY c=(decide (bm c.ax<0\/0<bm c.ax/\c.keys.length=0\/bm c.ax=1/\1<c.keys.length) ||(decide (0<bm c.ax)&&c.keys.any λk=> !cU k) ||decide (5<=c.ax/\c.ax<=10/\4294967295<c.fl)):=rfl;rw[hb]at hbf;have ai6:=hbf.symm;simp only[Bool.or_eq_false_iff,decide_eq_false_iff_not]at ai6;obtain⟨⟨cK,cy⟩,ca⟩:=ai6;have hv0:1<=c.ax/\c.ax<=18:=by
  refine aba λg=>cK (.inl ?_);unfold bm;rw[if_neg (by omega),if_neg (by omega),if_neg (by omega)];decide
 have JG:5<=c.ax->c.ax<=14->∃k,c.keys= [k]/\cU k=true:=λh1 h2=>by
  have hvi:bm c.ax=1:=by unfold bm;rw[if_neg (by omega),if_pos (by omega)]
  rw[hvi]at cK cy;rcases hk:c.keys with _|⟨k,_|⟨k2,r⟩⟩
  ·exact absurd (.inr (.inl ⟨by decide,by rw[hk];rfl⟩)) cK
  ·refine⟨k,rfl, ?_⟩
   rw[hk]at cy;simpa using cy
  exact absurd (.inr (.inr ⟨rfl,by rw[hk];simp⟩)) cK
 refine VD func43 rfl ntmps43 rfl ?_;rintro F ⟨hr,hd⟩;refine aw ?_;refine Lp (oB λb1=> ?_);refine Lp (oA nz λb2=> ?_);refine bn ?_;refine Li Mf ?_;refine Lp (oDv ?_);refine aw ?_;refine av ?_;refine Hh (H':= [SW z M,ag b1 42 (dB c ka kc da dc mv),ag b2 52 [DE DD 0,bB,DE DB 0,aW [],bB]]) ?_;refine ba ?_;refine av ?_;refine cG (ι:=Bool) [10,9,11,12,13] (λb=>b=decide (1<=c.ax/\c.ax<=4)) (λb=> [(9, .bool b)]) (λb=> [SW z M,ag b1 42 (dB c ka kc da dc mv),ag b2 52 [DE DD 0,bB,DE DB 0,aW [],bB]]) ?_ ?_
 ·refine iz ?_
  refine bj ?_;refine aA rfl ?_ ?_
  ·intro cB
   replace cB:=aG cB;refine aw ?_;refine Me (decide (1<=c.ax/\c.ax<=4)) (rfl) (hs:=⟨(by refine congrArg (λq=>some (Value.bool q)) ?_;first|exact(Au).symm|exact decide_eq_decide.2 (by omega)|exact(Ar).symm),trivial⟩)
  intro cB;replace cB:=aG cB;refine aY ?_;refine aA rfl ?_ ?_
  ·intro cK
   replace cK:=aG cK;refine aw ?_;refine Me (decide (1<=c.ax/\c.ax<=4)) (rfl) (hs:=⟨(by refine congrArg (λq=>some (Value.bool q)) ?_;first|exact(Au).symm|exact decide_eq_decide.2 (by omega)|exact(Ar).symm),trivial⟩)
  intro cK;replace cK:=aG cK;refine aY ?_;refine aA rfl ?_ ?_
  ·intro cy
   replace cy:=aG cy;refine aw ?_;refine Me (decide (1<=c.ax/\c.ax<=4)) (rfl) (hs:=⟨(by refine congrArg (λq=>some (Value.bool q)) ?_;first|exact(Au).symm|exact decide_eq_decide.2 (by omega)|exact(Ar).symm),trivial⟩)
  intro cy;replace cy:=aG cy;refine bj ?_;refine aB ?_;refine Me (decide (1<=c.ax/\c.ax<=4)) (rfl) (hs:=⟨(by refine congrArg (λq=>some (Value.bool q)) ?_;first|exact(Au).symm|exact decide_eq_decide.2 (by omega)|exact(Ar).symm),trivial⟩)
 rintro b hI;subst hI;by_cases h4:1<=c.ax/\c.ax<=4
 ·rw[if_pos h4]at lh
  rw[lh];refine eJ ?_ (e:=by exact decide_eq_true h4);refine bj ?_;refine Lp (oC Aq rfl rfl (aah z M c ka kc da dc mv kx qh GQ hw hex wb) (.cons .here .nil) (λ_ le _=>hr.mono le) ?_);rintro v H' ⟨a,N,ea,ec,l,hg,hl,rfl,rfl⟩;refine bS ?_;refine Lp (gE ey ?_ (h1:=by simp[gd,Value.oneCell',aW]));refine aY ?_;refine RrC (e:=52) [own ea ec 56 9 (kE l),kD l,SW z N] ey results43 (EJ b2 _) (.cons (.t4 .here) .nil) DA ?_;rintro v Hx ⟨rfl,rfl⟩;exact⟨_,_,_, .here,rfl,rfl,⟨ea,ec,l,by rw[hg];exact hl,by rw[hg];rfl,by rw[hg]⟩,Eh⟩
 rw[if_neg h4]at lh;refine cM ?_ (e:=by exact decide_eq_false h4);refine av ?_;refine cG (ι:=Bool) [18,17,19] (λb=>b=decide (c.ax=12\/c.ax=13)) (λb=> [(17, .bool b)]) (λb=> [SW z M,ag b1 42 (dB c ka kc da dc mv),ag b2 52 [DE DD 0,bB,DE DB 0,aW [],bB]]) ?_ ?_
 ·refine iz ?_
  refine bj ?_;refine aA rfl ?_ ?_
  ·intro cB
   replace cB:=aG cB;refine aw ?_;refine Me (decide (c.ax=12\/c.ax=13)) (rfl) (hs:=⟨(by refine congrArg (λq=>some (Value.bool q)) ?_;first|exact(Au).symm|exact decide_eq_decide.2 (by omega)|exact(Ar).symm),trivial⟩)
  intro cB;replace cB:=aG cB;refine bj ?_;refine aB ?_;refine Me (decide (c.ax=12\/c.ax=13)) (rfl) (hs:=⟨(by refine congrArg (λq=>some (Value.bool q)) ?_;first|exact(Au).symm|exact decide_eq_decide.2 (by omega)|exact(Ar).symm),trivial⟩)
 rintro b hI;subst hI;by_cases vd:c.ax=12\/c.ax=13
 ·rw[if_pos vd]at lh
  obtain⟨k,qf,Af⟩:=JG (by omega) (by omega);rw[qf]at lh;change M.dK c=M.counts c k at lh;rw[lh];refine eJ ?_ (e:=by exact decide_eq_true vd);refine bj ?_;refine Lp (Qf Aq rfl rfl (Py z M c ka kc da dc mv kx k [] qf Af (by rw[hw];decide) GB hh fM D5 vj (by rw[qf]at wb;exact ahB (alf _ _) wb)) (.cons .here .nil) (λ_ le _=>hr.mono le) (by rintro v H' ⟨a,N,hm,rfl,rfl⟩;refine Hh (H':= [ag b2 52 [DE DD 0,bB,DE DB 0,aW [],bB],SW z N]) ?_;rw[hm];exact ur (z:=z) (r:=(a,N)) (R:= []) (c0:=DE DD 0) (c1:=bB) (c2:=DE DB 0) (c3:=aW []) (c4:=bB) results43 (wT hm)) ?_);rintro v H' ⟨a,N,hm,rfl,rfl⟩;refine bS ?_;refine Lp (gE ey ?_ (h1:=by simp[gd,Value.oneCell',aW,bB]));refine aY ?_;refine Hh (H':= [ag b2 52 (gd a.kind bB a.num a.uT),SW z N]) ?_;rw[hm];exact kG (z:=z) (r:=(a,N)) (R:= []) results43 (wT hm)
 rw[if_neg vd]at lh;refine cM ?_ (e:=by exact decide_eq_false vd);refine aY ?_;by_cases v14:c.ax=14
 ·rw[if_pos v14]at lh
  obtain⟨k,qf,Af⟩:=JG (by omega) (by omega);rw[qf]at lh;change M.dK c=M.gN k c.ex at lh;rw[lh];refine eJ ?_ (e:=by exact decide_eq_true v14);refine bj ?_;refine Lp (Qf Aq rfl rfl (Iv z M c ka kc da dc mv kx k [] qf (by have:=(fX Af).2;omega) (by rw[hw];decide) hex (by rw[qf]at wb;exact ahB (alf _ _) wb)) (.cons .here .nil) (λ_ le _=>hr.mono le) (by rintro v H' ⟨a,N,hm,rfl,rfl⟩;refine Hh (H':= [ag b2 52 [DE DD 0,bB,DE DB 0,aW [],bB],SW z N]) ?_;rw[hm];exact ur (z:=z) (r:=(a,N)) (R:= []) (c0:=DE DD 0) (c1:=bB) (c2:=DE DB 0) (c3:=aW []) (c4:=bB) results43 (uK hm)) ?_);rintro v H' ⟨a,N,hm,rfl,rfl⟩;refine bS ?_;refine Lp (gE ey ?_ (h1:=by simp[gd,Value.oneCell',aW,bB]));refine aY ?_;refine Hh (H':= [ag b2 52 (gd a.kind bB a.num a.uT),SW z N]) ?_;rw[hm];exact kG (z:=z) (r:=(a,N)) (R:= []) results43 (uK hm)
 rw[if_neg v14]at lh;refine cM ?_ (e:=by exact decide_eq_false v14);refine aY ?_;by_cases v11:c.ax=11
 ·rw[if_pos v11]at lh
  obtain⟨k,qf,Af⟩:=JG (by omega) (by omega);rw[qf]at lh;change M.dK c=M.delete k at lh;rw[lh];refine eJ ?_ (e:=by exact decide_eq_true v11);refine bj ?_;refine Lp (Qf Aq rfl rfl (yT z M c ka kc da dc mv kx k [] qf (by have:=(fX Af).2;omega) (by rw[hw];decide)) (.cons .here .nil) (λ_ le _=>hr.mono le) (by rintro v H' ⟨N,hm,rfl,rfl⟩;refine Hh (H':= [ag b2 52 [DE DD 0,bB,DE DB 0,aW [],bB],SW z N]) ?_;have hdd:M.delete k=(.k 4,N):=(by unfold Mo.delete;rw[hm]);rw[hdd];exact ur (z:=z) (r:=(.k 4,N)) (R:= []) (c0:=DE DD 0) (c1:=bB) (c2:=DE DB 0) (c3:=aW []) (c4:=bB) results43 rfl) ?_);rintro v H' ⟨p,N,hm,rfl,rfl⟩;refine bS ?_;obtain⟨m1,m2,m3⟩:=iV hm;have hN:N.has p:=by rw[m3];exact m1
  have hC:M.C=N.C:=by rw[m3];rfl
  have hdd:M.delete k=(.k 5,N.bY p):=by unfold Mo.delete;rw[hm]
  rw[hdd,hC];refine ba ?_;refine zl Aq (vG z N p hN) (.cons .here .nil) DA ?_;refine bj ?_;refine Lp (gE ey ?_ (h1:=by simp[dq,Value.cells,Value.oneCell',aW,bB]));refine aY ?_;refine Hh (H':= [ag b2 52 (gd 5 bB 0 []),SW z (N.bY p)]) ?_;exact kG (z:=z) (r:=(⟨5,[],0,[]⟩,(N.bY p))) (R:= []) results43 rfl rfl
 rw[if_neg v11]at lh;refine cM ?_ (e:=by exact decide_eq_false v11);refine aY ?_;by_cases v15:c.ax=15
 ·rw[if_pos v15]at lh
  rw[lh];refine eJ ?_ (e:=by exact decide_eq_true v15);refine av ?_;refine iL 11 mix (.cons .here (.cons .here .nil)) λF1 jq bV aI=> ?_;obtain⟨q1,q2,_⟩:=bV;refine aY ?_
  first
   |refine Ti (Lf tU) ?_
   |refine Ti (BR tU q1) ?_
  refine aw ?_
  first
   |refine Ti (Lf bz) ?_
   |refine Ti (BR bz q1) ?_
  refine bj ?_
  first
   |refine Ti (Lf si) ?_
   |refine Ti (BR si q1) ?_
  refine gG aI ?_;refine Tp (oZ (Aq (n:=74)) (IC z M c.ex (by omega) hex) (.cons .here .nil) DA ?_);refine bL ?_;refine zl Aq (IF z {M with k:=M.k.flush c.ex M.v.bc}) (.cons .here .nil) DA ?_;refine bj ?_;refine Lp (gE ey ?_ (h1:=by simp[dq,Value.cells,Value.oneCell',aW,bB]));refine aY ?_;refine Hh (H':= [ag b2 52 (gd 8 bB 0 []),SW z {M with k:=M.k.flush c.ex M.v.bc,x:=M.x.again}]) ?_;exact kG (z:=z) (r:=(⟨8,[],0,[]⟩,{M with k:=M.k.flush c.ex M.v.bc,x:=M.x.again})) (R:= []) results43 rfl rfl
 rw[if_neg v15]at lh;refine cM ?_ (e:=by exact decide_eq_false v15);refine aY ?_;by_cases v16:c.ax=16
 ·rw[if_pos v16]at lh
  rw[lh];refine eJ ?_ (e:=by exact decide_eq_true v16);refine bn ?_;refine Lp (gE ey ?_ (h1:=by simp[dq,Value.cells,Value.oneCell',aW,bB]));refine aY ?_;refine Hh (H':= [ag b2 52 (gd 10 bB 0 xj),SW z M]) ?_;exact kG (z:=z) (r:=(⟨10,[],0,xj⟩,M)) (R:= []) results43 rfl rfl
 rw[if_neg v16]at lh;refine cM ?_ (e:=by exact decide_eq_false v16);refine aY ?_;by_cases v17:c.ax=17
 ·rw[if_pos v17]at lh
  rw[lh];refine eJ ?_ (e:=by exact decide_eq_true v17);refine bn ?_;refine Lp (gE ey ?_ (h1:=by simp[dq,Value.cells,Value.oneCell',aW,bB]));refine aY ?_;refine Hh (H':= [ag b2 52 (gd 8 bB 0 []),SW z M]) ?_;exact kG (z:=z) (r:=(⟨8,[],0,[]⟩,M)) (R:= []) results43 rfl rfl
 rw[if_neg v17]at lh;refine cM ?_ (e:=by exact decide_eq_false v17);refine aY ?_;by_cases v18:c.ax=18
 ·rw[if_pos v18]at lh
  rw[lh];refine eJ ?_ (e:=by exact decide_eq_true v18);refine bn ?_;refine Lp (gE ey ?_ (h1:=by simp[dq,Value.cells,Value.oneCell',aW,bB]));refine aY ?_;refine Hh (H':= [ag b2 52 (gd 12 bB 0 []),SW z M]) ?_;exact kG (z:=z) (r:=(⟨12,[],0,[]⟩,M)) (R:= []) results43 rfl rfl
 rw[if_neg v18]at lh;refine cM ?_ (e:=by exact decide_eq_false v18);refine bA ?_;obtain⟨k,qf,Af⟩:=JG (by omega) (by omega);rw[qf]at lh;change M.dK c=M.dS c k at lh;rw[lh];refine Lp (Qf Aq rfl rfl (MI z M c ka kc da dc mv kx k [] qf Af (by rw[hw];decide) hex (by have:¬_:=ca;omega) hda hh fM D5 vj (by rw[qf]at wb;exact ahB (alf _ _) wb)) (.cons .here .nil) (λ_ le _=>⟨hr.mono le,hd.mono le⟩) (by rintro v H' ⟨a,N,hm,rfl,rfl⟩;refine Hh (H':= [ag b2 52 [DE DD 0,bB,DE DB 0,aW [],bB],SW z N]) ?_;rw[hm];exact ur (z:=z) (r:=(a,N)) (R:= []) (c0:=DE DD 0) (c1:=bB) (c2:=DE DB 0) (c3:=aW []) (c4:=bB) results43 (wK hm)) ?_);rintro v H' ⟨a,N,hm,rfl,rfl⟩;refine bS ?_;refine Lp (gE ey ?_ (h1:=by simp[gd,Value.oneCell',aW,bB]));refine bn ?_;refine Hh (H':= [ag b2 52 (gd a.kind bB a.num a.uT),SW z N]) ?_;rw[hm];exact kG (z:=z) (r:=(a,N)) (R:= []) results43 (wK hm)
end Go.Proofs.YtcbcjolpdljbiaaGreat
namespace Go.dQ
open Go
class acK (A:aa)(b i:Nat)(vs:FV)(A':outParam aa):Prop where
 cut:∀h,A h->∃e cs R,i+vs.length<=cs.length/\ai (ag b e cs::R) h/\∀k,ai (ag b e (dq cs i vs)::R) k->A' k
section
variable {P:Program} {n:Nat} {ds:Dx} {F:dM} {Q:Exit->F7} {K:F7} {σ:aT} {H:Dz} {o:Oper} {d:Nat}
theorem aiP{t k:TypeId}{x y:Operand}{A A':aa}{R:Dz}{b:Nat}{vs:FV}(i:Nat)(hs:cO P t=some k)(h:G n ds F K σ (A'::R))(ho:o.op= .store t x y:=by exact rfl)(hd:o.dst=none:=by exact rfl)
  (hx:bC σ x=some (.pointer (some ⟨b,i,none⟩)):=by exact rfl) (hy:bC σ y=some (.agg vs.toArray):=by exact rfl) (hk:vs.length=k:=by exact rfl) (c:acK A b i vs A':=by infer_instance) (h1:∀v∈vs,v.oneCell'=true:=by simp[dq,Value.cells,Value.oneCell',aW]):G n ds F (λa w=>o.wp P a w K Q) σ (A::R):=
 .mk λa w en s=>by
  obtain⟨a1,a2,a3,fr,hh,st,l,dj⟩:=s;obtain⟨k1,k2,d12,l1,l2,ha,sr⟩:=st;obtain⟨e,cs,R0,hi,s1,back⟩:=c.cut k1 ha;have s2:ai (ag b e cs::(R0++R)) hh:=rz (A:=A) (B:=A) d12 l1 l2 s1 sr;refine(vO hs ho hd hx hy hk h1 .here hi (ay (λk sk=> ?_) h)) a w en ⟨a1,a2,a3,fr,hh,s2,l,dj⟩;obtain⟨m1,m2,d',n1,n2,t1,t2⟩:=bx (A:=ag b e (dq cs i vs)::R0) sk;exact⟨m1,m2,d',n1,n2,back m1 t1,t2⟩
theorem Fga{s f k sz:Nat}{e:TypeId}{x:Operand}{cs vs:FV}(hk:Ah P s f=some (k,e))(he:cO P e=some sz)(ho:o.op= .field s x f:=by exact rfl)(hx:bC σ x=some (.agg cs.toArray):=by exact rfl)(hv:(cs.drop k).take sz=vs:=by exact rfl):Yv P n ds F σ o (.agg vs.toArray):=λa w en fr=>by
 obtain⟨h1,h2⟩:=fG (w:=w) he;unfold Ah at hk;cases hu:P.underlying s with
 |none=>simp[hu]at hk
 |some d=>
  cases d<;>simp[hu]at hk;rename_i fs;obtain⟨y,hf,e1,e2⟩:=hk;subst e1;subst e2;have e:cs.toArray.extract y.offset (y.offset+sz)=vs.toArray:=by
   rw[<-hv];simp[List.take_drop]
  simp[execOp,ho,Instr.field,en.eval hx,run_underlying hu,hf,asAgg,part,h1,h2,e];exact hv
end
end Go.dQ
namespace Go.Proofs.YtcbcjolpdljbiaaGreat
open Go Go.dQ Go.Proofs.YtcbcjolpdljbiaaGreat.Cs
theorem Ww:Ah aaY 102 0=some (0,52):=by kernel_rfl
instance sw_mt0{z:Ly}{M:Mo}:acK (SW z M) z.s 21 [DE DD 0,DE DD 0,DE DD 0,DE DD 0,DE DD 0,DE DD 0,DE DD 0] (SW z (M.aR .zero)):=⟨λh s=>by
 obtain⟨w,s⟩:=s;obtain⟨B,O,t⟩:=uw s;refine⟨_,_,XC z B (M.aN w.1 w.2),(by simp[jc,fm]),t,λk sk=>⟨w,B,O.aR .zero, ?_⟩⟩;rw[show dq (jc z.y (fm (M.aN w.1 w.2).v)) 21 [DE DD 0,DE DD 0,DE DD 0,DE DD 0,DE DD 0,DE DD 0,DE DD 0]=jc z.y (fm ((M.aN w.1 w.2).aR .zero).v)from rfl]at sk;exact(xJ z B ((M.aN w.1 w.2).aR .zero)).back _ sk⟩
def Mo.wq (M:Mo):Mo:={M with kh:= []}
theorem bM.wq{B:Bx}{M:Mo}(O:bM B M):bM B (M.wq.aN none 0):=
 ⟨O.c,O.k,O.t,O.ty,O.o,O.x,O.mq,O.ck,O.al,O.lv,O.ho,O.it,O.e,O.st,O.nb,O.mg,O.mo,O.bt,O.un,O.on,O.go,rfl,O.cf,O.n,O.lg⟩
instance sw_why{z:Ly}{M:Mo}:sQ (SW z M) z.s 28 (.slice none 0 0) (SW z M.wq):=⟨λh s=>by
 obtain⟨w,s⟩:=s;obtain⟨B,O,t⟩:=uw s;refine⟨_,_,XC z B (M.aN w.1 w.2),(by simp[jc,fm]),t,λk sk=>⟨(none,0),B,O.wq, ?_⟩⟩;rw[show(jc z.y (fm (M.aN w.1 w.2).v)).set 28 (.slice none 0 0)=jc z.y (fm (M.wq.aN none 0).v)from rfl]at sk;refine(xJ z B (M.wq.aN none 0)).back _ ?_;have s2:=sB 3 1 sk
 clear sk
 revert s2
 revert k
 unfold XC;simp only[jO];rw[show aE (M.wq.aN none 0).kh= []from rfl];exact Eh⟩
def Mo.reset (M:Mo):Mo:=(M.aR .zero).wq
theorem rR.fJ{M:Mo}(K:rR M)(w:Nat):rR (M.fJ w):=⟨K.k,K.nd,K.lv,K.on⟩
structure Kd (M N:Mo)(t:Nat):Prop where
 ho:N.hole=M.hole
 st:N.m.st=M.m.st
 p:N.v.p=M.v.p
 c:N.v.c=M.v.c
 bc:N.v.bc<=M.v.bc+1
 tn:N.tn<=M.tn+t
theorem Kd.le{M N:Mo}{s t:Nat}(h:Kd M N s)(e:s<=t):Kd M N t:=⟨h.ho,h.st,h.p,h.c,h.bc,Nat.le_trans h.tn (Nat.add_le_add_left e _)⟩
theorem Kd.rf{M N:Mo}(ho:N.hole=M.hole)(st:N.m.st=M.m.st)(p:N.v.p=M.v.p)(c:N.v.c=M.v.c)(i:N.v.bc=M.v.bc)(t:N.tn=M.tn):Kd M N 0:=⟨ho,st,p,c,by omega,by omega⟩
theorem xx (M:Mo)(k:F9):(M.meet k).2.hole=M.hole/\(M.meet k).2.m=M.m/\(M.meet k).2.v.p=M.v.p/\(M.meet k).2.v.c=M.v.c/\(M.meet k).2.v.bc=M.v.bc/\(M.meet k).2.tn=M.tn:=by
 unfold Mo.meet;cases M.find k with
 |none=>exact⟨rfl,rfl,rfl,rfl,rfl,rfl⟩
 |some p=>
  dsimp only;split<;>exact⟨rfl,rfl,rfl,rfl,rfl,rfl⟩
theorem rR.meet{M N:Mo}(K:rR M){k:F9}{o:FW}(h:M.meet k=(o,N)):rR N:=by
 unfold Mo.meet at h;cases hf:M.find k with
 |none=>rw[hf]at h;simp only[Prod.mk.injEq]at h;rw[<-h.2];exact K.fJ 1
 |some p=>
  rw[hf]at h;dsimp only at h;split at h
  ·simp only[Prod.mk.injEq]at h
   rw[<-h.2];exact((K.fJ _).bY (nP hf).1).1
  simp only[Prod.mk.injEq]at h;rw[<-h.2];exact K.fJ 0
theorem aaj (ie:Bool)(ex:Int)(s:List I3×Mo)(k:F9):(Mo.jw ie ex s k).2.hole=s.2.hole/\(Mo.jw ie ex s k).2.m=s.2.m/\(Mo.jw ie ex s k).2.v.p=s.2.v.p/\(Mo.jw ie ex s k).2.v.c=s.2.v.c/\(Mo.jw ie ex s k).2.v.bc=s.2.v.bc/\(Mo.jw ie ex s k).2.tn<=s.2.tn+1:=by
 obtain⟨h1,h2,h3,h4,h5,h6⟩:=xx s.2 k;unfold Mo.jw;rcases hm:s.2.meet k with⟨_|p,N⟩<;>rw[hm]at h1 h2 h3 h4 h5 h6
 ·exact⟨h1,h2,h3,h4,h5,by dsimp only at*;omega⟩
 dsimp only at*;cases ie
 ·exact⟨h1,h2,h3,h4,h5,by show N.tn<=_;omega⟩
 refine⟨h1,h2,h3,h4,h5, ?_⟩;have:=CU N p (gR N.k.now ex);show(N.time p _).tn<=_;omega
theorem KZ (ie:Bool)(ex:Int):∀(l:List F9) (s:List I3×Mo),(l.foldl (Mo.jw ie ex) s).2.hole=s.2.hole/\(l.foldl (Mo.jw ie ex) s).2.m=s.2.m/\(l.foldl (Mo.jw ie ex) s).2.v.p=s.2.v.p/\(l.foldl (Mo.jw ie ex) s).2.v.c=s.2.v.c/\(l.foldl (Mo.jw ie ex) s).2.v.bc=s.2.v.bc/\(l.foldl (Mo.jw ie ex) s).2.tn<=s.2.tn+l.length
 | [],s=>⟨rfl,rfl,rfl,rfl,rfl,abc _⟩
 |k::l,s=>by
  obtain⟨a1,a2,a3,a4,a5,a6⟩:=aaj ie ex s k;obtain⟨b1,b2,b3,b4,b5,b6⟩:=KZ ie ex l (Mo.jw ie ex s k);rw[List.foldl_cons,abu];exact⟨b1.trans a1,b2.trans a2,b3.trans a3,b4.trans a4,b5.trans a5,by omega⟩
theorem Z0{M:Mo}{r:Nat}{old:FW}{n:I3}:(M.fZ r old n).hole=none/\(M.fZ r old n).m=M.m/\(M.fZ r old n).v.p=M.v.p/\(M.fZ r old n).v.c=M.v.c/\(M.fZ r old n).v.bc=M.v.bc+1/\(M.fZ r old n).tn<=M.tn+1:=by
 cases old<;>refine⟨rfl,rfl,rfl,rfl,rfl, ?_⟩
 ·show(if 0<n.exp then M.tn+1 else M.tn)<=_
  split<;>omega
 show(if 0<n.exp then M.tn+1 else M.tn)<=_;split<;>omega
theorem Kl (M:Mo)(old:FW)(ov:Bool):Kd M (M.over old ov) 0:=by
 unfold Mo.over;cases old with
 |none=>exact .rf rfl rfl rfl rfl rfl rfl
 |some p=>dsimp only;split<;>exact .rf rfl rfl rfl rfl rfl rfl
theorem Kd.fL{M N:Mo}{own:FW}(s:Jx M N own)(h:N.hole=M.hole):Kd M N 0:= .rf h s.st s.p s.c s.bc s.tn
theorem Kd.tr{M N O:Mo}{s t:Nat}(a:Kd M N s)(i:N.v.bc=M.v.bc)(b:Kd N O t):Kd M O (s+t):=⟨b.ho.trans a.ho,b.st.trans a.st,b.p.trans a.p,b.c.trans a.c,by have:=b.bc;omega,by have:=a.tn;have:=b.tn;omega⟩
theorem J9{M:Mo}(K:rR M)(hh:M.hole=none)(n:Nat)(own old:FW)(ov:Bool)(X:Mo->Nat->I3)(a:fh)(b:fh):Kd M (match M.room n own with|(none,R)=>(a,R.over old ov)|(some r,R)=>(b,R.fZ r old (X R r))).2 1:=by
 have R:=xp K (n:=n) (own:=own) (o:=(M.room n own).1) (N:=(M.room n own).2) rfl;rcases hr:M.room n own with⟨_|r,N⟩<;>rw[hr]at R
 ·exact((Kd.fL R.s (R.no rfl)).tr R.s.bc (Kl N old ov)).le (by omega)
 obtain⟨l1,l2,l3,l4,l5,l6⟩:=Z0 (M:=N) (r:=r) (old:=old) (n:=X N r);exact⟨l1.trans hh.symm,by rw[l2];exact R.s.st,l3.trans R.s.p,l4.trans R.s.c,(by show(N.fZ r old (X N r)).v.bc<=_;rw[l5,R.s.bc];omega),(by have h9:N.tn=M.tn:=R.s.tn;show(N.fZ r old (X N r)).tn<=_;omega)⟩
theorem Dr{M:Mo}(K:rR M)(hh:M.hole=none)(c:dy):Kd M (M.dK c).2 (max c.keys.length 1):=by
 have mk:=λk=>xx M k;have K1:∀k o N,M.meet k=(o,N)->rR N/\N.hole=none/\Kd M N 0/\N.v.bc=M.v.bc:=λk o N h=>by
  obtain⟨h1,h2,h3,h4,h5,h6⟩:=mk k;rw[h]at h1 h2 h3 h4 h5 h6;exact⟨K.meet h,h1.trans hh, .rf h1 (congrArg iA.st h2) h3 h4 h5 h6,h5⟩
 unfold Mo.dK;split
 ·obtain⟨g1,g2,g3,g4,g5,g6⟩:=KZ (decide (c.ax=3\/c.ax=4)) c.ex c.keys ([],M)
  exact⟨g1,congrArg iA.st g2,g3,g4,by have:=g5;show _<=_;unfold Mo.xY;dsimp only at*;omega,by unfold Mo.xY;dsimp only at*;omega⟩
 split
 ·unfold Mo.counts
  rcases hm:M.meet (c.keys.headD [])with⟨_|p,N⟩<;>obtain⟨k1,k2,k3,k4⟩:=K1 _ _ _ hm
  ·exact k3.le (by omega)
  dsimp only;split
  ·exact k3.le (by omega)
  next n _=>
  unfold Mo.qL;split
  ·exact(k3.tr k4 (⟨rfl,rfl,rfl,rfl,(by show N.v.bc+1<=_;exact abc _),abc _⟩:Kd N ((((N.pZ p (dZ (gX c n))).rT (N.v.bc+1)).tok p (N.v.bc+1)).marks p 0|>.lG p) 0)).le (by omega)
  split
  ·exact k3.le (by omega)
  have:=J9 k1 k2 (58+(N.it p).key.length+(dZ (gX c n)).length) (some p) (some p) false (λR r=>⟨(N.it p).key,dZ (gX c n),(N.it p).fl,(N.it p).exp,R.k.now,R.v.bc+1,0⟩) (.t gM) ⟨7,[],gX c n,[]⟩;refine Kd.le (k3.tr k4 (t:=1) ?_) (by omega)
  revert this
  generalize N.room (58+(N.it p).key.length+(dZ (gX c n)).length) (some p)=o;rcases o with⟨_|r,R⟩
  ·exact λh=>h
  exact λh=>h
 split
 ·unfold Mo.gN
  rcases hm:M.meet (c.keys.headD [])with⟨_|p,N⟩<;>obtain⟨k1,k2,k3,k4⟩:=K1 _ _ _ hm
  ·exact k3.le (by omega)
  exact(k3.tr k4 (⟨rfl,rfl,rfl,rfl,Nat.le_succ _,CU N p _⟩:Kd N ((N.time p (gR N.k.now c.ex)).lG p) 1)).le (by omega)
 split
 ·unfold Mo.delete
  rcases hm:M.meet (c.keys.headD [])with⟨_|p,N⟩<;>obtain⟨k1,k2,k3,k4⟩:=K1 _ _ _ hm
  ·exact k3.le (by omega)
  exact(k3.tr k4 (Kd.rf rfl rfl rfl rfl rfl rfl:Kd N (N.bY p) 0)).le (by omega)
 split
 ·exact(Kd.rf (M:=M) (N:={M with k:=M.k.flush c.ex M.v.bc,x:=M.x.again}) rfl rfl rfl rfl rfl rfl).le (by omega)
 split
 ·exact(Kd.rf (N:=M) rfl rfl rfl rfl rfl rfl).le (by omega)
 split
 ·exact(Kd.rf (N:=M) rfl rfl rfl rfl rfl rfl).le (by omega)
 split
 ·exact(Kd.rf (N:=M) rfl rfl rfl rfl rfl rfl).le (by omega)
 unfold Mo.dS;rcases hm:M.meet (c.keys.headD [])with⟨o,N⟩
 obtain⟨k1,k2,k3,k4⟩:=K1 _ _ _ hm;refine Kd.le (k3.tr k4 (t:=1) ?_) (by omega);dsimp only;unfold Mo.jj;split
 ·exact(Kl _ _ _).le (by omega)
 split
 ·exact(Kd.rf (N:=N) rfl rfl rfl rfl rfl rfl).le (by omega)
 split
 ·exact(Kd.rf (N:=N) rfl rfl rfl rfl rfl rfl).le (by omega)
 next x _=>
 unfold Mo.lays;exact J9 k1 k2 (58+(c.keys.headD []).length+x.1.length) o o (DG c.ax) (λR r=>⟨c.keys.headD [],x.1,x.2.1,x.2.2,R.k.now,R.v.bc+1,0⟩) (.t gM) (.k 1)
end Go.Proofs.YtcbcjolpdljbiaaGreat
namespace Go.Proofs.YtcbcjolpdljbiaaGreat
open Go Go.dQ Go.Proofs.YtcbcjolpdljbiaaGreat.Cs
def Cb:F9:= [98,97,100,32,99,111,109,109,97,110,100]
noncomputable def Mo.dO (hot warm:Nat)(M:Mo)(c:dy):fh×Mo:=
 if lY c=true then(.t Cb,M.reset)
 else if bm c.ax=0 then((M.reset.dK c).1,(M.reset.dK c).2.beside)
 else((M.reset.dK c).1,c.keys.foldl (Mo.behind hot warm) (M.reset.dK c).2)
structure Bk (M N:Mo)(t:Nat):Prop where
 h:M.hole=none->N.hole=none
 st:N.m.st<=M.m.st+t
 p:N.v.p=M.v.p
 c:N.v.c=M.v.c
 bc:N.v.bc=M.v.bc
 tn:N.tn=M.tn
theorem Bk.refl (M:Mo):Bk M M 0:=⟨id,abc _,rfl,rfl,rfl,rfl⟩
theorem Bk.trans{M N O:Mo}{s t:Nat}(a:Bk M N s)(b:Bk N O t):Bk M O (s+t):=⟨λh=>b.h (a.h h),by have:=a.st;have:=b.st;omega,b.p.trans a.p,b.c.trans a.c,b.bc.trans a.bc,b.tn.trans a.tn⟩
theorem oa (M:Mo):Bk M M.beside 1:=by
 obtain⟨a1,a2,a3,a4,a5,a6,a7⟩:=nQ M.fw M.fw.k.now M.fw.v.p.c;obtain⟨b1,b2⟩:=iD M.fw.jy M.fw.jy.v.p.m;have h1:Bk M M.fw 0:=⟨id,abc _,rfl,rfl,rfl,rfl⟩;have h2:Bk M.fw M.fw.jy 0:=⟨λh=>a1.trans h,by show(M.fw.cV _ _).2.m.st<=_;rw[a2];exact abc _,a3,a5,a6,a7⟩;have h3:Bk M.fw.jy M.fw.jy.kY 1:=⟨b1.h,b2,b1.p,b1.c,b1.bc,b1.tn⟩;exact(h1.trans h2).trans h3
theorem v7 (hot warm:Nat)(M:Mo)(k:F9):Bk M (M.behind hot warm k) 1:=by
 have h:Bk M (M.nw hot warm k) 0:=by
  unfold Mo.nw;split
  ·exact .refl M
  exact⟨id,abc _,rfl,rfl,rfl,rfl⟩
 have:=h.trans (oa (M.nw hot warm k))
 rwa[abj]at this
theorem pD (hot warm:Nat):∀(l:List F9) (M:Mo),Bk M (l.foldl (Mo.behind hot warm) M) l.length
 | [],M=> .refl M
 |k::l,M=>by
  have:=(v7 hot warm M k).trans (pD hot warm l (M.behind hot warm k));rw[Nat.add_comm]at this;exact this
theorem acz (xe:qD)(z:Ly)(LM:z.hot<=100)(LL:z.warm<=100)(M:Mo)(c:dy)(ka:FX)(kc:Nat)(da:FX)(dc:Nat)(mv:Value)(kx:mv.oneCell'=true)(GQ:c.keys.length<1073741824)(qh:∀k∈c.keys,k.length<281474976710656)(hex:c.ex<9223372036854775808)(hda:c.data.length<281474976710656)(GB:c.dl<18446744073709551616)
  (hh:M.hole=none) (fM:M.m.st+c.keys.length<4611686018427387904) (Qm:An M.v.p) (D5:M.v.c.lim<=1048576) (vj:M.v.bc+1<18446744073709551616) (wb:M.tn+c.keys.length<18446744073709551615):
  aK aaY 11 [DC z.s, .agg (dB c ka kc da dc mv).toArray] (λh=>fD h ka (fk c.keys)/\fD h da (ak c.data)) [SW z M] (Mj z (M.dO z.hot z.warm c)):=by
 refine af func11 rfl ntmps11 rfl ?_;rintro F ⟨hr,hd⟩;refine aw ?_;refine Lp (oB λb1=> ?_);refine Lp (oA nz λb2=> ?_);refine aw ?_;refine Hh (H':= [SW z M,ag b1 42 (dB c ka kc da dc mv),ag b2 52 [DE DD 0,bB,DE DB 0,aW [],bB]]) ?_;refine bA ?_;refine Lp (aiP 21 AO ?_);refine bn ?_;refine Lp (oSc (i:=28) QW ?_);change G _ _ _ _ _ [SW z M.reset,ag b1 42 (dB c ka kc da dc mv),ag b2 52 [DE DD 0,bB,DE DB 0,aW [],bB]];refine aY ?_;refine zl Aq (ag3 c ka kc da dc mv kx (by omega) qh) .nil (λ_ le _=>hr.mono le) ?_;rcases hb:lY c with _|_
 ·have lh:M.dO z.hot z.warm c=if bm c.ax=0 then((M.reset.dK c).1,(M.reset.dK c).2.beside)else((M.reset.dK c).1,c.keys.foldl (Mo.behind z.hot z.warm) (M.reset.dK c).2):=by unfold Mo.dO;rw[hb,if_neg (by decide)]
  refine qB λwa wc B O=> ?_;have KD:=Dr (M:=M.reset) ⟨O.Qi,O.LJ.nd,O.LJ.lv,O.LJ.on⟩ hh c;refine bL ?_;refine Lp (oC Aq rfl rfl (ad4 z M.reset c ka kc da dc mv kx hb GQ qh rfl hex hda GB hh (by show M.m.st<_;omega) D5 vj wb) (.cons .here .nil) (λ_ le _=>⟨hr.mono le,hd.mono le⟩) ?_);rintro v H' ⟨ea,ec,l,hl,rfl,rfl⟩;refine bS ?_;generalize hR:M.reset.dK c=r at*;obtain⟨a,N⟩:=r;dsimp only at KD hl lh⊢;have hN0:N.hole=none:=KD.ho.trans hh;have hNs:N.m.st+c.keys.length<4611686018427387904:=by have:=KD.st;change N.m.st=M.m.st at this;omega
  have hNp:An N.v.p:=by have:=KD.p;change N.v.p=M.v.p at this;rw[this];exact Qm
  refine Lp (oA nz λb3=> ?_);refine Lp (gE ey ?_ (h1:=by simp[gd,Value.oneCell',aW,bB]));refine ba ?_;refine zl Aq (EH c.ax) .nil DA ?_;by_cases h0:bm c.ax=0
  ·rw[if_pos h0]at lh
   refine bn ?_;refine eJ ?_ (e:=by exact decide_eq_true h0);refine bn ?_;refine zl Aq (wJ xe z N hN0 (by omega) hNp) (.cons (.t3 .here) .nil) DA ?_;refine bj ?_;refine Lp (gE ey ?_ (h1:=by simp[gd,Value.oneCell',aW,bB]));refine bj ?_;refine GF [own ea ec 56 9 (kE l),kD l,SW z N.beside] ey results11 ?_;exact⟨ea,ec,l,by rw[lh];exact hl,by rw[lh];rfl,by rw[lh]⟩
  rw[if_neg h0]at lh;refine bn ?_;refine cM ?_ (e:=by exact decide_eq_false h0);refine bD ?_;refine Lo (ι:=Nat×Mo) (FZ [7,1,32,8]) (λs=>(s.1<=c.keys.length/\s.2=(c.keys.take s.1).foldl (Mo.behind z.hot z.warm) N)) (λs=> [(32,DE DD s.1)]) (λs=> [SW z s.2,ag b1 42 (dB c ka kc da dc mv),ag b2 52 [DE DD 0,bB,DE DB 0,aW [],bB],ag b3 52 (gd a.kind (.slice ea l.length ec) a.num a.uT),own ea ec 56 9 (kE l),kD l]) (λs=>c.keys.length-s.1) ((0,N)) ⟨abn _,rfl⟩ ?_;rintro⟨i,X⟩ hI
  try dsimp only at hI⊢
  obtain⟨hi,hX⟩:=hI;by_cases ct:i<c.keys.length
  ·have uX:=xn c.keys i ct
   have Ql:ka.isSome=true:=by obtain⟨ad,e,_⟩:=hr i _ uX;rw[e];rfl
   have BM:=qh _ (abe ct);have LW:X.behind z.hot z.warm c.keys[i]=(c.keys.take (i+1)).foldl (Mo.behind z.hot z.warm) N:=by rw[ahP,aa0 ct,alN,<-hX];rfl
   have bk:=pD z.hot z.warm (c.keys.take i) N;rw[<-hX]at bk;have Xu:(c.keys.take i).length=i:=by rw[List.length_take];omega
   rw[Xu]at bk;have bst:=bk.st;generalize c.keys[i]=k at*;refine bj ?_;refine av ?_;refine eJ ?_;refine ba ?_;refine Li (Ix pI) ?_;refine bA ?_;refine zl Aq (IQ xe z X k BM (bk.h hN0) (by omega) (by rw[bk.p];exact hNp) LM LL) (.cons .here .nil) DA ?_;refine bA ?_;refine aB ?_;refine Ro ((i+1,X.behind z.hot z.warm k)) (⟨ct,LW⟩) ((by dsimp only;omega))
  refine iz ?_;refine bn ?_;refine av ?_;refine cM ?_;refine bL ?_;refine Lp (gE ey ?_ (h1:=by simp[gd,Value.oneCell',aW,bB]));refine bn ?_;obtain rfl:i=c.keys.length:=by omega
  rw[alb]at hX;rw[<-hX]at lh;refine GF [own ea ec 56 9 (kE l),kD l,SW z X] ey results11 ?_;exact⟨ea,ec,l,by rw[lh];exact hl,by rw[lh];rfl,by rw[lh]⟩
 have lh:M.dO z.hot z.warm c=(.t Cb,M.reset):=by unfold Mo.dO;rw[hb,if_pos rfl]
 refine bj ?_;refine zl Aq (iC Cb) .nil DA ?_;unfold xZ gd bB;refine Li (Fga Ww ey) ?_;refine Lp (gE ey ?_ (h1:=by simp[gd,Value.oneCell',aW,bB]));refine bj ?_;refine cX 56 9 ?_;refine uG ?_;refine GF [own none 0 56 9 [],kD [],SW z M.reset] ey results11 ?_;exact⟨none,0,[],by rw[lh];rfl,by rw[lh];rfl,by rw[lh];rfl⟩
theorem Iy (z:Ly)(M:Mo)(c:Int):aK aaY 66 [DC z.y.b,DE DD c] vz [SW z M] (λv H=>v=DE DD (ofM M.C c λi=>(M.C.rw i).eG:Nat)/\H= [SW z M]):=
 mw λwa wc B O=>by
  have h:=PE z.y.b B.C O.k c;have e:(ofM B.C c λi=>(B.C.rw i).eG)=ofM M.C c λi=>(M.C.rw i).eG:=by
   conv=>lhs;rw[O.c]
   rfl
  rw[e]at h;exact⟨_,h,λk k0 le h au=>au.nth 0 rfl⟩
theorem IA (z:Ly)(M:Mo)(c:Int):aK aaY 72 [DC z.y.b,DE DD c] vz [SW z M] (λv H=>v=DE DD (ofM M.C c λi=>((M.C.rw i).fL+M.C.spare)*(M.C.aj/M.C.sz i):Nat)/\H= [SW z M]):=
 mw λwa wc B O=>by
  have h:=PF z.y.b B.C O.k c;have e:(ofM B.C c λi=>((B.C.rw i).fL+B.C.spare)*(B.C.aj/B.C.sz i))=ofM M.C c λi=>((M.C.rw i).fL+M.C.spare)*(M.C.aj/M.C.sz i):=by
   conv=>lhs;rw[O.c]
   rfl
  rw[e]at h;exact⟨_,h,λk k0 le h au=>au.nth 0 rfl⟩
theorem jo (z:Ly)(M:Mo)(c:Int):aK aaY 26 [DC z.s,DE DD c] vz [SW z M] (λv H=>v=DE DD (ofM M.C c λi=>(M.C.rw i).eG:Nat)/\H= [SW z M]):=by
 refine af func26 rfl ntmps26 rfl ?_;intro F _;refine bD ?_;refine zl Aq (Iy z M c) (.cons .here .nil) DA ?_;refine bj ?_;refine Rt [SW z M] results26 ?_;exact⟨rfl,rfl⟩
theorem Mn (z:Ly)(M:Mo)(c:Int):aK aaY 34 [DC z.s,DE DD c] vz [SW z M] (λv H=>v=DE DD (ofM M.C c λi=>((M.C.rw i).fL+M.C.spare)*(M.C.aj/M.C.sz i):Nat)/\H= [SW z M]):=by
 refine af func34 rfl ntmps34 rfl ?_;intro F _;refine bD ?_;refine zl Aq (IA z M c) (.cons .here .nil) DA ?_;refine bj ?_;refine Rt [SW z M] results34 ?_;exact⟨rfl,rfl⟩
theorem YM (t b:Nat)(W:Tb)(y:pW):aK aaY 70 [DC t] (In (ag t 154 (gV b W y))) [] (λv H=>v=DE DD W.n/\H= []):=by
 unfold gV;refine af func70 rfl ntmps70 rfl ?_;intro F h0;refine bO ?_;refine Rt [] results70 ?_;exact⟨rfl,rfl⟩
theorem Uq (z:Ly)(M:Mo):aK aaY 70 [DC z.y.t] vz [SW z M] (λv H=>v=DE DD M.n/\H= [SW z M]):=
 mw λwa wc B O=>by
  have h:=YM z.y.t z.y.b B.W B.ty;rw[show B.W.n=M.n from O.n]at h;exact⟨_,h,λk k0 le h au=>au.nth 1 rfl⟩
theorem Yx (z:Ly)(M:Mo):aK aaY 31 [DC z.s] vz [SW z M] (λv H=>v=DE DD M.n/\H= [SW z M]):=by
 refine af func31 rfl ntmps31 rfl ?_;intro F _;refine cu ?_;refine zl Aq (Uq z M) (.cons .here .nil) DA ?_;refine bj ?_;refine Rt [SW z M] results31 ?_;exact⟨rfl,rfl⟩
def mtC (t:Mt):FV:= [DE DD t.dr,DE DD t.re,DE DD t.bu,DE DD t.li,DE DD t.lo,DE DD t.cr,DE DD t.mv]
theorem AU (z:Ly)(M:Mo):aK aaY 16 [DC z.s] vz [SW z M] (λv H=>v= .agg (mtC M.v.mt).toArray/\H= [SW z M]):=by
 refine af func16 rfl ntmps16 rfl ?_;intro F _;refine aw ?_;refine Lp (oA QO λb1=> ?_);refine bA ?_;refine Lp (gE AO ?_ (h1:=by simp[Aa,adk,Value.oneCell']));refine bn ?_;refine GF [SW z M] AO results16 ?_;exact⟨rfl,rfl⟩
theorem MF (z:Ly)(M:Mo)(n:Int)(hi:M.v.bc<18446744073709551616):aK aaY 36 [DC z.y.ck,DE DD n,DE DB M.v.bc] vz [SW z M]
  (λv H=>v=DE DD (M.k.QA n)/\H= [SW z {M with k:=M.k.move n M.v.bc}]):=
 je (N:={M with k:=M.k.move n M.v.bc}) (T:=λv=>v=DE DD (M.k.QA n)) λa c=>dV λB O=>by
  have h:=(PB z.y.ck M.k O.ck n M.v.bc hi).fr (H:=eh z B (M.aN a c)++ []) (R:= [Cl z.y.b B.C,DS z B.W B.ty,zY B.ty B.W,DU B.ty B.W,DT z B.C.ae.length,ag z.qb 333 (M.Q.flatMap (di B.C)),Xr z B.C.ae.length B.C M.x,Wl z.y.wh B.E M.tn,fC z.s z.y (fm (M.aN a c).v),
   zR z,xM z M.m,kO z.ub M.m,jO (M.aN a c)]) (.cons (.t8 (.there .here)) .nil) (λ_ _=>trivial)
  refine h.out ?_;rintro v H' ⟨H0,⟨rfl,rfl⟩,rfl⟩;refine⟨[SH z (({M with k:=M.k.move n M.v.bc}:Mo).aN a c)],⟨rfl,rfl⟩,λk s=>aD (O.ck1 (O.ck.move n hi)) (H:= []) k ?_⟩
  revert s
  revert k
  simp only[pH,cap,acT];unfold eh;exact Eh
theorem ID (xe:qD)(z:Ly)(M:Mo)(now aH:Int):aK aaY 37 [DC z.y.cr,DE DD now,DE DD aH] vz [SW z M]
  (λv H=>(∃t:Int,v= .tuple #[DE DD ((M.cV now aH).1),DE DD t])/\H= [SW z (M.cV now aH).2]):=
 je (N:=(M.cV now aH).2) (T:=λv=>∃t:Int,v= .tuple #[DE DD ((M.cV now aH).1),DE DD t]) λa c=>
  (FM xe z (M.aN a c) now aH).out (by
   rintro v H' ⟨n,t,M',hm,rfl,rfl⟩;rw[Lm]at hm;simp only[Prod.mk.injEq]at hm;obtain⟨rfl,rfl⟩:=hm;exact⟨_,⟨⟨t,rfl⟩,rfl⟩,λk s=>s⟩)
def Mo.eM (M:Mo)(n:Int):Mo:={M with k:=M.k.move n M.v.bc}
noncomputable def Mo.tick (M:Mo)(n:Int):Mo:=if M.k.QA n=0 then((M.eM n).reset.cV (M.eM n).k.now 64).2.aR {((M.eM n).reset.cV (M.eM n).k.now 64).2.v.mt with cr:=(((M.eM n).reset.cV (M.eM n).k.now 64).1:Int)}else M
theorem YG (xe:qD)(z:Ly)(M:Mo)(n:Int)(hi:M.v.bc<18446744073709551616):aK aaY 9 [DC z.s,DE DD n] vz [SW z M] (λv H=>v=DE DD (M.k.QA n)/\H= [SW z (M.tick n)]):=by
 have z6:=MF z M n hi;change aK _ _ _ _ _ (λv H=>v=DE DD (M.k.QA n)/\H= [SW z (M.eM n)])at z6;have ht:M.tick n=if M.k.QA n=0 then((M.eM n).reset.cV (M.eM n).k.now 64).2.aR {((M.eM n).reset.cV (M.eM n).k.now 64).2.v.mt with cr:=(((M.eM n).reset.cV (M.eM n).k.now 64).1:Int)}else M:=rfl
 refine af func9 rfl ntmps9 rfl ?_;intro F _;refine bj ?_;refine av ?_;refine iL 10 mix (.cons .here .nil) λF1 jq bV aI=> ?_;obtain⟨q1,_⟩:=bV;refine aY ?_
 first
  |refine Ti (Lf tU) ?_
  |refine Ti (BR tU q1) ?_
 refine aY ?_
 first
  |refine Ti (Lf si) ?_
  |refine Ti (BR si q1) ?_
 refine gG aI ?_;refine Tp (oZ (Aq (n:=36)) (z6) (.cons .here .nil) DA ?_);refine bL ?_;by_cases h0:M.k.QA n=0
 ·rw[if_pos h0]at ht
  rw[h0];refine cu ?_;refine Lp (aiP 21 AO ?_);refine bn ?_;refine Lp (oSc (i:=28) QW ?_);change G _ _ _ _ _ [SW z (M.eM n).reset];refine aw ?_;refine av ?_;refine iL 11 mix (.cons .here .nil) λF2 zU eP dE=> ?_;obtain⟨q2,_⟩:=eP;refine aY ?_
  first
   |refine Ti (Lf Ed) ?_
   |refine Ti (BR Ed q2) ?_
  refine aY ?_
  first
   |refine Ti (Lf tU) ?_
   |refine Ti (BR tU q2) ?_
  refine Tp (oZ (Aq (n:=38)) (kZ z (M.eM n).reset) .nil (λ_ le _=>In.mono q2 le) ?_);refine gG dE ?_;rw[show(M.eM n).reset.k.now=(M.eM n).k.now from rfl];refine Tp (oC Aq rfl rfl (ID xe z (M.eM n).reset (M.eM n).k.now 64) (.cons .here .nil) DA ?_);rintro v H' ⟨⟨t,rfl⟩,rfl⟩;refine bS ?_;refine cL ?_;refine Lp (oSc (i:=26) bz ?_);refine ba ?_;refine Rt [SW z (((M.eM n).reset.cV (M.eM n).k.now 64).2.aR {((M.eM n).reset.cV (M.eM n).k.now 64).2.v.mt with cr:=(((M.eM n).reset.cV (M.eM n).k.now 64).1:Int)})] results9 ?_;exact⟨rfl,by rw[ht]⟩
 rw[if_neg h0]at ht;have hM:M.eM n=M:=by unfold Mo.eM Ck.move;rw[if_neg h0]
 rw[hM];refine eJ ?_ (e:=by exact congrArg (!·) (decide_eq_false h0));refine bA ?_;refine Rt [SW z M] results9 ?_;exact⟨rfl,by rw[ht]⟩
def Mg:FV:= [aW [], .slice none 0 0,DE DB 0,DE DD 0,DE DB 0,DE DD 0, .bool false, .bool false, .bool false]
def Mo.live (M:Mo)(k:F9):FW:=match M.find k with
 |some p=>if M.cE p=0 then some p else none
 |none=>none
def ak5 (z:Ly)(M:Mo)(o:FW)(v:Value)(H:Dz):Prop:=match o with
 |some p=>∃vb,v= .tuple #[.agg (tR (M.it p) (.slice (some ⟨vb,0,none⟩) (M.it p).val.length (M.it p).val.length)).toArray, .bool true]/\H= [own (some ⟨vb,0,none⟩) (M.it p).val.length 5 1 (ak (M.it p).val),SW z M]
 |none=>v= .tuple #[.agg Mg.toArray, .bool false]/\H= [SW z M]
theorem yX (z:Ly)(M:Mo)(k:F9)(hk:k.length<281474976710656):aK aaY 13 [DC z.s,aW k] vz [SW z M] (ak5 z M (M.live k)):=by
 refine af func13 rfl ntmps13 rfl ?_;intro F _;refine aw ?_;refine Lp (oA wk λb1=> ?_);refine bn ?_;refine Hh (H':= [SW z M,ag b1 56 Mg]) ?_;refine qB λwa wc B O=> ?_;refine bL ?_;refine Lp (DH sE mK tL λkb kc tI=> ?_);refine zl Aq (MG z M (some ⟨kb,0,none⟩) kc _ k rfl hk) (.cons (.there .here) .nil) (λ_ le au=>bK (au.nth 0 rfl)) ?_;unfold Mg;rcases hf:M.find k with _|p
 ·refine Li Mv ?_
  refine bD ?_;refine zt 21 ?_ (e:=by rfl);refine gQ ?_;refine Ha [SW z M] nG results13 ?_;unfold Mo.live;rw[hf];exact⟨rfl,rfl⟩
 obtain⟨hp,_⟩:=nP hf;refine bO ?_;refine zf 21 ?_ (e:=by rfl);refine bn ?_;refine zl Aq (MH z M p hp) (.cons .here .nil) DA ?_;by_cases h0:M.cE p=0
 ·rw[h0]
  refine cY ?_;refine Lp (oC Aq rfl rfl (A7 z M p hp) (.cons .here .nil) DA ?_);rintro v H' ⟨vb,rfl,rfl⟩;refine bS ?_;refine Lp (gE nG ?_ (h1:=by simp[tR,Value.oneCell',aW]));refine bj ?_;refine Ha [own (some ⟨vb,0,none⟩) (M.it p).val.length 5 1 (ak (M.it p).val),SW z M] nG results13 ?_;unfold Mo.live;rw[hf];dsimp only;rw[if_pos h0];exact⟨vb,rfl,rfl⟩
 refine Li Pf ?_;refine aw ?_;refine eJ ?_ (e:=by exact decide_eq_true h0);refine bn ?_;refine Lp (gE nG ?_ (h1:=by simp[dq,Value.cells,Value.oneCell',aW]));refine aY ?_;refine Ha [SW z M] nG results13 ?_;unfold Mo.live;rw[hf];dsimp only;rw[if_neg h0];exact⟨rfl,rfl⟩
def mkN (n:Int):FW:=if n=0 then some 0 else if n=2 then some 1 else if n=4 then some 2 else if n=6 then some 3 else none
def Mo.mark (M:Mo)(k:F9)(n:Int):Bool×Mo:=match M.live k,mkN n with
 |some p,some c=>(true,M.marks p c)
 |_,_=>(false,M)
def sO (n:Nat):UInt8:=acU (48+n % 10)
theorem FH (n:Nat):(sO n).toNat=48+n % 10:=by unfold sO;simp;omega
theorem wU (b:UInt8):ak [b]= [DE amn b.toNat]:=rfl
def Jn (r:F9)(i:Nat):F9:=r.mapIdx λj b=>if j<i\/r.length<=j+i then r.getD (r.length-1-j) 0 else b
@[simp] theorem uc (r : F9) (i : Nat) : (Jn r i).length = r.length := by unfold Jn; simp
theorem Ur (r:F9):Jn r 0=r:=by
 unfold Jn;apply List.ext_getElem
 ·simp
 intro j h1 h2;rw[List.getElem_mapIdx,if_neg (by omega)]
theorem ud (r:F9)(i j:Nat)(h:j<r.length):(Jn r i)[j]?=some (if j<i\/r.length<=j+i then r.getD (r.length-1-j) 0 else r.getD j 0):=by
 unfold Jn;rw[List.getElem?_mapIdx,aa0 h];simp[aaZ,aa0 h]
theorem EO (r:F9)(i:Nat)(h:i<r.length/2):((Jn r i).set i (r.getD (r.length-1-i) 0)).set (r.length-1-i) (r.getD i 0)=Jn r (i+1):=by
 apply ah6;intro j;by_cases hj:j<r.length
 ·rw[ud r (i+1) j hj]
  rw[ahG,ahG,ud r i j hj];simp only[aa8,uc];by_cases a:r.length-1-i=j
  ·subst a
   rw[if_pos rfl,if_pos hj,if_pos (by omega)]
   congr 1
   rw[show r.length-1-(r.length-1-i)=i by omega]
  rw[if_neg a];by_cases b:i=j
  ·subst b
   rw[if_pos rfl,if_pos hj,if_pos (by omega)]
  rw[if_neg b]
  congr 1
  by_cases c:j<i\/r.length<=j+i
  ·rw[if_pos c,if_pos (by omega)]
  rw[if_neg c,if_neg (by omega)]
 rw[abb (by simp[uc];omega),abb (by rw[uc];omega)]
theorem YN (r:F9):Jn r (r.length/2)=r.reverse:=by
 apply ah6;intro j;by_cases hj:j<r.length
 ·rw[ud r _ j hj,List.getElem?_reverse hj,aa0 (by omega)]
  congr 1
  have e:∀k,(h:k<r.length)->r.getD k 0=r[k]:=λk h=>by rw[aaZ,aa0 h];rfl
  split
  ·exact e _ (by omega)
  have:j=r.length-1-j:=by omega
  rw[e _ hj]
  congr 1
 rw[abb (by rw[uc];omega),abb (by rw[aiv];omega)]
theorem pE (l:F9)(i:Nat)(b:UInt8):(ak l).set i (DE amn b.toNat)=ak (l.set i b):=by
 unfold ak;rw[List.map_set]
theorem WE{n:Nat}(h:n<10):dZ n= [sO n]:=by
 rw[xF h];unfold sO;rw[acZ h]
set_option maxHeartbeats 1000000 in
theorem Jj (n0:Nat)(hn0:n0<18446744073709551616):aK aaY 64 [DE DB n0] vz []
  (λv H=>∃a c,(dZ n0).length<=c/\v= .slice a (dZ n0).length c/\H= [own a c 5 1 (ak (dZ n0))]):=by
 have hlen:(dZ n0).length<=20:=by have:=yZ 20 n0 (by omega);omega
 refine af func64 rfl ntmps64 rfl ?_;intro F _;refine cY ?_;refine cX 5 1 ?_;refine Lo (ι:=Nat×F9×FX×Nat) (FZ [0,1,3,1,5,11]) (λs=>s.1<18446744073709551616/\dZ n0=dZ s.1++s.2.1.reverse) (λs=> [(0,DE DB s.1),(3, .slice s.2.2.1 s.2.1.length s.2.2.2)]) (λs=> [own s.2.2.1 s.2.2.2 5 1 (ak s.2.1)]) (λs=>s.1) ((n0,[],none,0)) ⟨hn0,by simp⟩ ?_;rintro⟨m,ds,a,c⟩ hI
 try dsimp only at hI⊢
 obtain⟨hm,hd⟩:=hI;have GB:ds.length<=20:=by
  have:=congrArg List.length hd;rw[aa9,aiv]at this;omega
 refine ba ?_;by_cases h9:9<m
 ·refine eJ ?_
  refine bA ?_;refine Li (Rm (q:=10)) ?_;refine bn ?_;refine az (t:=11) (v':=(DE amn ((sO m).toNat))) rfl (by exact congrArg (Value.int .u8) (by rw[FH];first|omega|exact(wrap_u8 (by omega)).trans (by omega)|exact((wrap_u8 (by omega)).trans (by omega)).symm)) ?_;refine Lp (oT iT λb1=> ?_);refine Lp (bI iT qx rfl rfl rfl rfl .here (by simp) (rfl) (by first|exact ee|(simp[Value.oneCell',aW])) (by first|omega|(simp;omega)) (by first|omega|(simp;omega)) rfl λa4 c4 hc4=> ?_);rw[<-wU,<-sC,show ds.length+1=(ds++ [sO m]).length by simp];refine aY ?_;refine Li (QuU (q:=10)) ?_;refine bj ?_;refine az (t:=0) (v':=(DE DB (m/10:Nat))) rfl (by exact congrArg (Value.int .u64) (by first|rfl|omega)) ?_;have GR:dZ n0=dZ (m/10)++(ds++ [sO m]).reverse:=by
   rw[hd,Du (by omega:¬m<10),alF,adr];rfl
  refine Ro ((m/10,ds++ [sO m],a4,c4)) (⟨(by dsimp only;omega),GR⟩) ((by dsimp only;omega))
 refine cM ?_;rw[WE (n:=m) (by omega)]at hd;refine bD ?_;refine az (t:=19) (v':=(DE amn ((sO m).toNat))) rfl (by exact congrArg (Value.int .u8) (by rw[FH];first|omega|exact(wrap_u8 (by omega)).trans (by omega)|exact((wrap_u8 (by omega)).trans (by omega)).symm)) ?_;refine Lp (oT iT λb2=> ?_);refine Lp (bI iT qx rfl rfl rfl rfl .here (by simp) (rfl) (by first|exact ee|(simp[Value.oneCell',aW])) (by first|omega|(simp;omega)) (by first|omega|(simp;omega)) rfl λa5 c5 hc5=> ?_);rw[<-wU,<-sC,show ds.length+1=(ds++ [sO m]).length by simp];have hr:(ds++ [sO m]).reverse=dZ n0:=by
  rw[hd,alF];rfl
 have hc6:(ds++ [sO m]).length<=c5:=by simpa using hc5
 have hrl:(ds++ [sO m]).length<=21:=by simp;omega
 have hrp:0<(ds++ [sO m]).length:=by simp
 generalize ds++ [sO m]=r at*;rw[show ak r=ak (Jn r 0) by rw[Ur]];refine bL ?_;refine Lo (ι:=Nat) (FZ [4,1,22,29]) (λi=>i<=r.length/2) (λi=> [(4,DE DD i)]) (λi=> [own a5 c5 5 1 (ak (Jn r i))]) (λi=>r.length/2-i) (0) (abn _) ?_;rintro i hi;refine ba ?_;refine Li (Qu (q:=2)) ?_;refine az (t:=25) (v':=(DE DD (r.length/2:Nat))) rfl (by exact congrArg (Value.int .i64) (by first|rfl|exact(Int.natCast_tdiv r.length 2).symm|exact Int.ofNat_tdiv r.length 2)) ?_;refine bn ?_;by_cases ct:i<r.length/2
 ·refine eJ ?_
  have g1:(ak (Jn r i))[i]?=some (DE amn ((r.getD i 0).toNat)):=by
   unfold ak;rw[abf,ud r i i (by omega),if_neg (by omega)];rfl
  have g2:(ak (Jn r i))[r.length-1-i]?=some (DE amn ((r.getD (r.length-1-i) 0).toNat)):=by
   unfold ak;rw[abf,ud r i _ (by omega),if_neg (by omega)];rfl
  have Xu:(ak (Jn r i)).length=r.length:=by rw[kf,uc]
  refine mZ (iU .here (λ_ o=>nK o (by omega))) λsa=> ?_;refine aY ?_;refine yf mix .nil λF1 jq bV aI=> ?_;refine Dt 0 rfl Mv ?_;refine Dt 1 rfl Mv ?_;refine Dt 2 rfl Mv ?_;refine Dt 3 rfl Mv ?_;refine Dt 4 rfl (Ln fx) ?_;refine Dt 5 rfl Im ?_;refine Dt 6 rfl Mv ?_;refine Dt 7 rfl Im ?_;refine Dt 8 rfl Mv ?_;refine Dt 9 rfl Mv ?_;refine Dt 10 rfl (Ln fx) ?_;refine Dt 11 rfl Im ?_;refine Dt 12 rfl Mv ?_;refine Dt 13 rfl Im ?_;refine Dt 14 rfl (Ix fx (j:=r.length-1-i) (hj:=by omega)) ?_;refine Dt 16 rfl Mv ?_;refine Dt 17 rfl Mv ?_;refine Dt 18 rfl (Ix fx) ?_;refine D2 15 19 ?_ ?_
  ·refine Do rfl (oL rU ?_)
   refine aw ?_;refine Dd 19 rfl (oL rU ?_);refine aw ?_;refine Dt 20 rfl (Ix fx) ?_;refine Dd 21 rfl (oSO rU ?_);refine aw ?_;refine Dt 22 rfl (Ix fx (j:=r.length-1-i) (hj:=by omega)) ?_;refine Dd 23 rfl (oSO rU ?_);refine aw ?_;refine aQ (by kernel_rfl) aI ?_;refine bA ?_;refine aB ?_;rw[pE,pE,EO r i ct];refine Ro (i+1) ((by omega)) ((by omega))
  refine Do rfl (oL rU ?_);refine aw ?_;refine Dd 15 rfl (oL rU ?_);refine aw ?_;refine Dt 20 rfl (Ix fx) ?_;refine Dd 21 rfl (oSO rU ?_);refine aw ?_;refine Dt 22 rfl (Ix fx (j:=r.length-1-i) (hj:=by omega)) ?_;refine Dd 23 rfl (oSO rU ?_);refine aw ?_;refine aQ (by kernel_rfl) aI ?_;refine bA ?_;refine aB ?_;rw[pE,pE,EO r i ct];refine Ro (i+1) ((by omega)) ((by omega))
 refine cM ?_;have xh:i=r.length/2:=by omega
 subst xh;rw[YN,hr];refine bD ?_;have tN:r.length=(dZ n0).length:=by rw[<-hr,aiv]
 rw[tN];refine Rt [own a5 c5 5 1 (ak (dZ n0))] results64 ?_;exact⟨a5,c5,by rw[<-tN];exact hc6,rfl,rfl⟩
end Go.Proofs.YtcbcjolpdljbiaaGreat
