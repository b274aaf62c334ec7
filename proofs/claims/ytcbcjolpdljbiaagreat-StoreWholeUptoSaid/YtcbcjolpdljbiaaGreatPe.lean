/- Part Pe of the proof. -/
import Derived.Test.YtcbcjolpdljbiaaGreatPa
import Derived.Test.YtcbcjolpdljbiaaGreatPb
import Derived.Test.YtcbcjolpdljbiaaGreatPc
import Derived.Test.YtcbcjolpdljbiaaGreatPc1
import Derived.Test.YtcbcjolpdljbiaaGreatPd
set_option maxRecDepth 100000
open Go.Proofs.YtcbcjolpdljbiaaGreat.T
open List renaming range -> abb, range_succ -> af7, map_congr_left -> afr, mem_range -> afu, getD_eq_getElem?_getD -> aaP, getElem?_eq_getElem -> aaQ, ext_getElem -> ajD, getElem_map -> agu, getElem_range -> agv, foldl_cons -> af8, length_cons -> afn, map_drop -> akt, map_take -> aku, map_append -> afy, length_map -> adr, length_range -> aiZ, getElem_append_left -> ai0, getElem_append_right -> ajN, length_take -> agw, length_append -> aaZ, length_singleton -> afV, getElem_mem -> aa4, getElem?_map -> aa6, take_of_length_le -> ajW, eq_nil_of_length_eq_zero -> afm, append_assoc -> afR, replicate -> aaS, length_replicate -> afQ, mem_of_getElem? -> aaT, map_cons -> aaX, sum_cons -> aa8, findIdx?_eq_some_iff_getElem -> abc, getElem?_eq_some_iff -> aaR, findIdx?_eq_none_iff -> af4, getElem?_of_mem -> agd, getElem?_cons_zero -> ajj, getElem?_cons_succ -> agk, getElem?_set_self -> aaU, getElem?_set_ne -> afA, mem_or_eq_of_mem_set -> afM, dropLast_concat_getLast -> ajH, getLast?_eq_some_getLast -> af1, nodup_append -> afL, mem_append -> af3, mem_singleton -> afq, length_set -> aaY, mem_map -> acA, mem_filter -> aba, mem_reverse -> agm, Pairwise -> agl, map_map -> ajr, mem_cons_of_mem -> aaW, mem_cons_self -> aaV, append_nil -> afs, set_set -> afN, map_set -> afO, find?_cons -> aj1, getElem?_eq_none -> aa7, filter_append -> ags
open UInt8 renaming ofNat -> afw
open Nat renaming pow_succ -> af9, zero_mul -> ajx, zero_add -> abd, add_mul -> af0, mul_assoc -> akx, mul_comm -> afS, mul_le_mul_right -> afz, div_add_mod -> agp, div_mul_le_self -> ajq, one_mul -> agb, mul_left_comm -> akf, mul_le_mul -> afG, lt_trichotomy -> akg, mul_add_div -> akp, div_eq_of_lt -> akk, mul_add_mod -> akq, mod_eq_of_lt -> afE, mul_div_cancel -> akc, mul_mod_left -> akl, add_sub_cancel_left -> ajV, le_self_pow -> ajM, pow_le_pow_right -> afX, lt_of_lt_of_le -> afZ, le_refl -> aa0, lt_of_le_of_lt -> af6, div_le_self -> afP, div_div_eq_div_mul -> ajd, min_self -> akA, mod_lt -> ai4, le_trans -> ai5, zero_le -> afk, not_lt_zero -> aiY, mul_one -> ajs, sub_zero -> ajy
open Int renaming fdiv_eq_ediv_of_nonneg -> afJ
open Decidable renaming byContradiction -> aa2
open Go.Proofs.Tryz renaming prog -> aaO
open Go.Proofs.Tryz
open Go.Value renaming int -> CO
open Go.IntKind renaming i64 -> CN, u64 -> CJ, u8 -> akN, u32 -> akO
namespace Go.Proofs.YtcbcjolpdljbiaaGreat
open Go Go.dG
abbrev Nm:=List UInt8
def cE (z:Int):Int:=IntKind.i64.wrap z
structure It where
 key:Nm
 val:Nm
 fl:Nat
 exp:Nat
 tok:Nat
 tch:Nat
 cl:Nat
 st:Nat
 act:Bool
 stale:Bool
 won:Bool
 lJ:Bool
 ord:Nat
 V9:Nat
structure nZ where
 aj:Int
 pgs:Int
 fac:Int
 bj:Int
 lim:Int
 hot:Int
 warm:Int
structure um where
 b:Int
 l:Int
 c:Int
 m:Int
structure Mt where
 dr:Int
 re:Int
 bu:Int
 li:Int
 lo:Int
 cr:Int
 mv:Int
def Mt.zero:Mt:=⟨0,0,0,0,0,0,0⟩
structure Ms where
 c:nZ
 p:um
 ae:List Nat
 Kp:List Nat
 aI:Nat
 all:List It
 owner:List (Option Nat)
 rows:List (List Nat)
 now:Nat
 GM:Nat
 cut:Nat
 kP:Nat
 GB:Nat
 bk:Nat
 Bs:Nat
 ccl:Nat
 ckd:Nat
 place:Option Nm
 left:Int
 inn:Bool
 since:List (Option Nat)
 going:Option Nat
 mt:Mt
 j6:List Nat
namespace Ms
def wide:Nat:=1048576
def len (s:Ms):Nat:=s.all.length
def stt (s:Ms)(x:It):Nat:=if 0<x.exp/\x.exp<=s.now then 2 else if x.tok<=s.cut then 3 else 0
def find (s:Ms)(k:Nm):Option It:=s.all.find? λx=>decide (x.key=k)
def qu (s:Ms)(c st:Nat):List It:=s.all.filter λx=>decide (x.cl=c)&&decide (x.st=st)
def drop (s:Ms)(k:Nm):Ms:={s with all:=s.all.filter λx=>decide (x.key≠k)}
def iP (s:Ms)(k:Nm)(f:It->It):Ms:={s with all:=s.all.map λx=>if x.key=k then f x else x}
def RR:List It->Nm->Option Nm
 |a::b::r,k=>if b.key=k then some a.key else RR (b::r) k
 |_,_=>none
def ahead (s:Ms)(x:It):Option Nm:=RR (s.qu x.cl x.st) x.key
def gone (s:Ms)(x:It):Ms:=if s.place=some x.key then{s with place:=s.ahead x,left:=s.left-1}else s
def grow (s:Ms):Ms:=if s.Bs=0/\3*s.bk<2*s.len/\s.bk<s.aI then{s with Bs:=s.bk,bk:=2*s.bk}else s
def shrink (s:Ms):Ms:=if s.Bs=0/\16<s.bk/\8*s.len<s.bk then{s with Bs:=s.bk,bk:=s.bk/2}else s
def ahW (s:Ms)(c:Nat):Nat:=s.Kp.getD c 0
def rowOf (s:Ms)(c:Nat):List Nat:=s.rows.getD c []
def lies (s:Ms)(chunk:Nat):Bool:=s.all.any λx=>decide (x.V9=chunk)
def ag0 (s:Ms)(c chunk:Nat):Ms:=if s.going=some (chunk/wide)then s else{s with rows:=s.rows.set c (s.rowOf c++ [chunk])}
def ca (s:Ms)(x:It):Ms:=(((s.gone x).drop x.key).shrink).ag0 x.cl x.V9
def count (s:Ms)(o:Option Nat):Nat:=(s.owner.filter λx=>decide (x=o)).length
def fill (s:Ms)(hZ c:Nat):Ms:=
 {s with rows:=s.rows.set c (s.rowOf c++(((abb (s.ahW c)).reverse.map λk=>hZ*wide+k).filter λch=> !s.lies ch))}
def Eu:List (Option Nat)->Option Nat
 | []=>none
 |none::_=>some 0
 |some _::r=>(Eu r).map (· +1)
def Qk (s:Ms)(c:Nat):Option (Nat×Ms):=
 match(s.rowOf c).getLast? with
 |none=>none
 |some ch=>some (ch,{s with rows:=s.rows.set c (s.rowOf c).dropLast})
def take (s:Ms)(c:Nat):Option (Nat×Ms):=
 if(s.rowOf c)= []then
  match Eu s.owner with
  |none=>none
  |some hZ=>({s with owner:=s.owner.set hZ (some c)}.fill hZ c).Qk c
 else s.Qk c
def held (s:Ms)(hZ:Nat):Nat:=(s.all.filter λx=>decide (x.V9/wide=hZ)).length
def ZN (s:Ms)(hZ:Nat):Option Nat:=s.owner.getD hZ none
def row5 (s:Ms)(c:Nat)(own:Option Nm):List It:=(((s.qu c 3).reverse++(s.qu c 2).reverse++(s.qu c 1).reverse).filter λx=>decide (some x.key≠own)).take 5
def pick (s:Ms)(c:Nat)(own:Option Nm):Option It×Bool×Nat:=
 let r:=s.row5 c own
 match r.findIdx? λx=>decide (s.stt x≠0)with
 |some i=>(r[i]?,true,i+1)
 |none=>match r.find? λx=> !x.act with
  |some x=>(some x,false,r.length)
  |none=>(r.head?,false,r.length)
def stay (s:Ms):Ms:=match s.going with
 |none=>s
 |some hZ=>{s with going:=none}.fill hZ ((s.ZN hZ).getD 0)
def jO (s:Ms)(c:Nat):Ms:={s with since:=s.since.set c (some 0)}
def room (s:Ms)(c:Nat)(own:Option Nm):Option Nat×Ms:=
 match s.take c with
 |some (ch,s)=>(some ch,s)
 |none=>
  let go (s:Ms):Option Nat×Ms:=
   let (v,dead,n):=s.pick c own
   let s:={s with mt:={s.mt with lo:=cE (s.mt.lo+n)}}
   match v with
   |none=>(none,s.jO c)
   |some x=>
    let s:=if dead then{s with mt:={s.mt with re:=cE (s.mt.re+1)}}else{s with mt:={s.mt with dr:=cE (s.mt.dr+1)}}.jO c
    match(s.ca x).take c with
    |some (ch,s)=>(some ch,s)
    |none=>(none,s.ca x)
  if s.going.bind s.ZN=some c/\s.going≠none then
   match s.stay.take c with
   |some (ch,s)=>(some ch,s)
   |none=>go s.stay
  else go s
def eP (s:Ms)(c:Nat):Bool:=match s.since.getD c none with
 |none=>false
 |some n=>decide (n<64)
def ah2 (s:Ms)(hZ c:Nat):Bool:=
 let own:=((s.rowOf c).filter λch=>decide (ch/wide=hZ)).length
 decide (1<s.count (some c))&&decide (s.held hZ+own<=(s.rowOf c).length)
def better (s:Ms)(f hZ b Dk:Nat):Bool:=
 if f≠b then decide ((s.rowOf b).length<(s.rowOf f).length\/(s.rowOf f).length=(s.rowOf b).length/\f<b)
 else decide (s.held hZ<s.held Dk)
def mB (s:Ms)(t:Nat):List (Option Nat)->Nat->Option (Nat×Nat)->Option (Nat×Nat)
 | [],_,Dk=>Dk
 |none::r,hZ,Dk=>mB s t r (hZ+1) Dk
 |some f::r,hZ,Dk=>
  if f=t\/s.eP f=true\/s.ah2 hZ f=false then mB s t r (hZ+1) Dk
  else match Dk with
   |none=>mB s t r (hZ+1) (some (hZ,f))
   |some (q,b)=>mB s t r (hZ+1) (if s.better f hZ b q then some (hZ,f)else some (q,b))
def aeT (s:Ms)(t:Nat):Option (Nat×Nat):=mB s t s.owner 0 none
def ae2 (s:Ms):Ms:=
 match(abb s.ae.length).find? λt=>s.eP t with
 |none=>s
 |some t=>
  if 0<s.count none then s
  else match s.aeT t with
   |none=>s
   |some (hZ,c)=>{s with rows:=s.rows.set c ((s.rowOf c).filter λch=>decide (ch/wide≠hZ)),going:=some hZ}
def YF (s:Ms)(hZ:Nat):Option It:=
 (s.all.filter λx=>decide (x.V9/wide=hZ)).foldl (λb x=>match b with
  |none=>some x
  |some y=>if x.V9<y.V9 then some x else some y) none
def GG:Nat->Ms->Nat->Ms×Nat
 |0,s,done=>(s,done)
 |n+1,s,done=>
  match s.going with
  |none=>(s,done)
  |some hZ=>
   match s.YF hZ with
   |none=>({s with owner:=s.owner.set hZ none,going:=none},done)
   |some x=>
    if s.stt x≠0 then GG n (s.ca x) (done+1)
    else match s.take x.cl with
     |none=>(s.stay,done)
     |some (ch,s)=>GG n (s.iP x.key λy=>{y with V9:=ch}) (done+1)
def move (s:Ms)(aI:Nat):Ms×Nat:=
 if aI=0 then(s,0)
 else
  let s:={s with since:=s.since.map λo=>o.map λn=>if n<64 then n+1 else n}
  if s.going=none then(s.ae2,0)else GG aI s 0
def time (s:Ms)(x:It)(e:Nat):Ms×It:=if 0<e then({s with GB:=s.GB+1},{x with exp:=e,ord:=s.GB+1})else(s,{x with exp:=e,ord:=0})
def lay (s:Ms)(x:It)(old:Option It)(c chunk:Nat):Ms:=
 let s:={s with GM:=s.GM+1}
 let (s,x):=s.time {x with tok:=s.GM,cl:=c,V9:=chunk,tch:=s.now,st:=1,act:=false} x.exp
 match old with
 |some o=>let s:=((s.gone o).drop o.key);{s.ag0 o.cl o.V9 with all:=x::s.all}
 |none=>{s with all:=x::s.all}.grow
def meet (s:Ms)(k:Nm):Option It×Ms:=
 match s.find k with
 |none=>(none,{s with j6:=s.j6++ [1]})
 |some x=>
  let w:=s.stt x
  let s:={s with j6:=s.j6++ [w]}
  if w≠0 then(none,s.ca x)else(some x,s)
end Ms
open Go Go.dG
abbrev By:=Nat->UInt8
def jU (A:By)(p n:Nat):List UInt8:=(abb n).map λi=>A (p+i)
def lay (A:By)(p:Nat)(l:List UInt8):By:=λj=>if p<=j/\j<p+l.length then l.getD (j-p) 0 else A j
def dI (A:By)(n:Nat):List Value:=ax (jU A 0 n)
def be:Nat->Nat->List UInt8
 |0,_=> []
 |w+1,v=>afw (v/256^w)::be w v
def nat (l:List UInt8):Nat:=l.foldl (λn c=>n*256+c.toNat) 0
def rd (A:By)(p w:Nat):Nat:=nat (jU A p w)
def wr (A:By)(p w v:Nat):By:=lay A p (be w v)
theorem cD (A:By)(p n:Nat):(jU A p n).length=n:=by simp[jU]
theorem Xh (A:By)(p n i:Nat)(h:i<n):(jU A p n)[i]?=some (A (p+i)):=by simp[jU,h]
theorem SY (A:By)(p:Nat):jU A p 0= []:=rfl
theorem SZ (A:By)(p n:Nat):jU A p (n+1)=jU A p n++ [A (p+n)]:=by simp[jU,af7]
theorem uV{A B:By}{p n:Nat}(h:∀j,p<=j->j<p+n->A j=B j):jU A p n=jU B p n:=by
 unfold jU;apply afr;intro i hi;have:=afu.1 hi;exact h _ (by omega) (by omega)
theorem QE (A:By)(p:Nat)(l:List UInt8)(i:Nat)(h:i<l.length):lay A p l (p+i)=l[i]:=by
 unfold lay;rw[if_pos (by omega),show p+i-p=i by omega,aaP,aaQ h];rfl
theorem gI (A:By)(p:Nat)(l:List UInt8)(j:Nat)(h:j<p\/p+l.length<=j):lay A p l j=A j:=by
 unfold lay;rw[if_neg (by omega)]
theorem lF (A:By)(p:Nat)(l:List UInt8):jU (lay A p l) p l.length=l:=by
 apply ajD (by simp[jU]);intro i h1 h2;simp only[jU,agu,agv];exact QE A p l i h2
theorem fV (A:By)(p:Nat)(l:List UInt8)(q n:Nat)(h:q+n<=p\/p+l.length<=q):jU (lay A p l) q n=jU A q n:=
 uV λj h1 h2=>gI A p l j (by omega)
theorem eM (A:By)(p:Nat)(l:List UInt8)(q n:Nat)(h:q+n<=p\/p+l.length<=q):rd (lay A p l) q n=rd A q n:=by
 unfold rd;rw[fV A p l q n h]
theorem nc:∀w v,(be w v).length=w
 |0,_=>rfl
 |w+1,v=>by simp[be,nc w]
theorem Tv (l:List UInt8)(c:UInt8):nat (l++ [c])=nat l*256+c.toNat:=by simp[nat]
theorem Cf:∀(l:List UInt8) (n:Nat),l.foldl (λn c=>n*256+c.toNat) n=n*256^l.length+nat l
 | [],n=>by simp[nat]
 |c::l,n=>by
  have h1:=Cf l (n*256+c.toNat);have h2:=Cf l (0*256+c.toNat);unfold nat at*;rw[af8,af8,h1,h2,afn,af9,ajx,abd,af0,akx,afS 256,Nat.add_assoc]
theorem Tw (c:UInt8)(l:List UInt8):nat (c::l)=c.toNat*256^l.length+nat l:=by
 conv=>lhs;unfold nat
 rw[af8,Cf,ajx,abd]
theorem Qw:∀w v,nat (be w v)=v % 256^w
 |0,v=>by simp[be,nat,Nat.mod_one]
 |w+1,v=>by
  rw[be,Tw,Qw w,nc];have:(afw (v/256^w)).toNat=v/256^w % 256:=by simp
  rw[this,af9,Nat.mod_mul,afS (256^w)];omega
theorem Jy:∀(l:List UInt8) (n:Nat),l.foldl (λn c=>n*256+c.toNat) n<(n+1)*256^l.length
 | [],n=>by simp
 |c::l,n=>by
  rw[af8];have h1:=Jy l (n*256+c.toNat);have h2:=c.toNat_lt;have h3:(n*256+c.toNat+1)*256^l.length<=((n+1)*256)*256^l.length:=afz _ (by omega);rw[afn,af9,afS (256^l.length) 256,<-akx];omega
theorem ac8 (l:List UInt8):nat l<256^l.length:=by
 have:=Jy l 0
 simpa[nat]using this
theorem dy (A:By)(p w v:Nat):rd (wr A p w v) p w=v % 256^w:=by
 unfold rd wr;have:=lF A p (be w v);rw[nc]at this;rw[this,Qw]
theorem aT (A:By)(p w v q n:Nat)(h:q+n<=p\/p+w<=q):rd (wr A p w v) q n=rd A q n:=eM A p _ q n (by rw[nc];exact h)
theorem sG (A:By)(p w v q n:Nat)(h:q+n<=p\/p+w<=q):jU (wr A p w v) q n=jU A q n:=fV A p _ q n (by rw[nc];exact h)
theorem ko (A:By)(p w:Nat):rd A p w<256^w:=by
 have:=ac8 (jU A p w)
 rwa[cD]at this
theorem oI (A:By)(n:Nat):(dI A n).length=n:=by simp[dI,ax,jU]
theorem Vq (A:By)(n p m:Nat)(h:p+m<=n):((dI A n).drop p).take m=ax (jU A p m):=by
 unfold dI ax;rw[<-akt,<-aku]
 congr 1
 apply ajD (by simp[jU];omega);intro i h1 h2;simp[jU]
theorem Ki (A:By)(n p:Nat)(l:List UInt8)(h:p+l.length<=n):(dI A n).take p++ax l++(dI A n).drop (p+l.length)=dI (lay A p l) n:=by
 unfold dI ax;rw[<-aku,<-akt,<-afy,<-afy]
 congr 1
 apply ajD (by simp[jU];omega);intro i h1 h2;simp only[jU,adr,aiZ]at h2;by_cases a1:i<p
 ·rw[ai0 (by simp[jU];omega),ai0 (by simp[jU];omega)]
  simp only[jU,List.getElem_take,agu,agv,abd];rw[gI A p l i (.inl a1)]
 by_cases a2:i<p+l.length
 ·rw[ai0 (by simp[jU];omega),ajN (by simp[jU];omega)]
  simp only[jU,agw,adr,aiZ,agu,agv,abd];have e:i=p+(i-p):=by omega
  conv=>rhs;rw[e]
  rw[QE A p l (i-p) (by omega)]
  congr 1
  omega
 rw[ajN (by simp[jU];omega)];simp only[jU,List.getElem_drop,agu,agv,abd,aaZ,agw,adr,aiZ];rw[gI A p l i (.inr (by omega))]
 congr 1
 omega
theorem wU (A:By)(n p:Nat)(c:UInt8)(h:p<n):(dI A n).set p (CO akN c.toNat)=dI (lay A p [c]) n:=by
 rw[<-Ki A n p [c] (by simp;omega),List.set_eq_take_append_cons_drop,if_pos (by rw[oI];exact h)];simp[ax]
theorem Yf (A:By)(p:Nat)(l m:List UInt8):lay (lay A p l) (p+l.length) m=lay A p (l++m):=by
 funext j
 unfold lay;rw[aaZ];by_cases h1:p+l.length<=j/\j<p+l.length+m.length
 ·rw[if_pos h1,if_pos (by omega),aaP,aaP,List.getElem?_append_right (by omega)]
  congr 2;omega
 rw[if_neg h1];by_cases h2:p<=j/\j<p+l.length
 ·rw[if_pos h2,if_pos (by omega),aaP,aaP,List.getElem?_append_left (by omega)]
 rw[if_neg h2,if_neg (by omega)]
theorem tC (A:By)(p:Nat):lay A p []=A:=by
 funext j;unfold lay;rw[if_neg (by simp)]
theorem ve (A:By)(p:Nat)(c:UInt8)(m:List UInt8):lay (lay A (p+1) m) p [c]=lay A p (c::m):=by
 funext j
 unfold lay;by_cases h1:p<=j/\j<p+ [c].length
 ·have:j=p:=by simp at h1;omega
  subst this;rw[if_pos h1,if_pos (by simp)];simp
 rw[if_neg h1];simp only[afV]at h1;by_cases h2:p+1<=j/\j<p+1+m.length
 ·rw[if_pos h2,if_pos (by simp;omega)]
  rw[show j-p=(j-(p+1))+1 by omega];simp
 rw[if_neg h2,if_neg (by simp;omega)]
structure Pg where
 own:Bool
 lv:Bool
 cl:Nat
 bd:List Nat
 tk:List Bool
 held:Nat
 old:List (Nat×Nat)
def Pg.no:Pg:=⟨false,false,0,[],[],0,[]⟩
structure Rw where
 free:List Nat
 dL:Nat
 pgs:Nat
 fZ:Nat
structure Cs where
 cfg:nZ
 aj:Nat
 n:Nat
 ae:List Nat
 bc:List Pg
 rows:List Rw
 spare:Nat
 A:By
namespace Cs
def pg (C:Cs)(i:Nat):Pg:=C.bc.getD i .no
def rw(C:Cs)(c:Nat):Rw:=C.rows.getD c ⟨[],0,0,0⟩
def sz (C:Cs)(c:Nat):Nat:=C.ae.getD c 0
def pn (C:Cs)(p:Nat):Nat:=p/C.aj
def cl (C:Cs)(p:Nat):Nat:=(C.pg (C.pn p)).cl
def ix (C:Cs)(p:Nat):Nat:=p % C.aj/C.sz (C.cl p)
def gen (C:Cs)(p:Nat):Nat:=(C.pg (C.pn p)).bd.getD (C.ix p) 0
def hd (C:Cs)(p:Nat):Nat:=C.gen p*4294967296+(p/8+1)
structure At (C:Cs)(p:Nat):Prop where
 i:C.pn p<C.n
 own:(C.pg (C.pn p)).own=true
 al:p % C.aj % C.sz (C.cl p)=0
 k:C.ix p<(C.pg (C.pn p)).bd.length
structure Live (C:Cs)(p:Nat):Prop extends At C p where
 tk:(C.pg (C.pn p)).tk[C.ix p]?=some true
structure Fix (C:Cs):Prop where
 p0:4096<=C.aj
 p1:C.aj<=1048576
 p8:C.aj % 8=0
 n0:1<=C.n
 n1:C.n<=1024
 l0:1<=C.ae.length
 l1:C.ae.length<=62
 s0:∀z∈C.ae,64<=z/\z<=C.aj/\z % 8=0
 pl:C.bc.length=C.n
 rl:C.rows.length=C.ae.length
def zI (C:Cs)(f:Pg->Nat):Nat:=(C.bc.map f).sum
def v7 (c:Nat)(x:Pg):Nat:=if x.own=true/\x.cl=c then x.held else 0
def uu (c:Nat)(x:Pg):Nat:=if x.own=true/\x.cl=c then 1 else 0
def yT (c:Nat)(x:Pg):Nat:=if x.own=true/\x.cl=c/\x.lv=false then 1 else 0
def y9 (x:Pg):Nat:=if x.own=true then 0 else 1
def bN (b:Bool):Nat:=if b=true then 1 else 0
structure lA (C:Cs)(x:Pg):Prop where
 cl:x.own=true->x.cl<C.ae.length
 gl:x.own=true->x.bd.length=C.aj/C.sz x.cl
 tl:x.tk.length=x.bd.length
 Zn:∀g∈x.bd,g<4294967296
 VT:∀g∈x.old,g.2<4294967296
 nd:(x.old.map (·.1)).Nodup
 held:x.held=(x.tk.map bN).sum
 no:x.own=false->x.bd= []/\x.lv=false/\x.cl=0
structure CV (C:Cs)(c p:Nat):Prop extends At C p where
 cl:C.cl p=c
 tk:(C.pg (C.pn p)).tk[C.ix p]?=some false
 lv:(C.pg (C.pn p)).lv=false
structure Ok (C:Cs):Prop extends Fix C where
 pg:∀x∈C.bc,lA C x
 fr:∀c p,p∈(C.rw c).free->CV C c p
 fn:∀c,(C.rw c).free.Nodup
 fa:∀c p,CV C c p->c<C.ae.length->p∈(C.rw c).free
 ft:∀c,c<C.ae.length->(C.rw c).dL=C.zI (v7 c)
 fp:∀c,c<C.ae.length->(C.rw c).pgs=C.zI (uu c)
 fs:∀c,c<C.ae.length->(C.rw c).fZ=C.zI (yT c)
 sp:C.spare=C.zI y9
theorem Fix.pos{C:Cs}(F:Fix C):0<C.aj:=by have:=F.p0;omega
theorem Fix.sz{C:Cs}(F:Fix C){c:Nat}(h:c<C.ae.length):64<=C.sz c/\C.sz c<=C.aj/\C.sz c % 8=0:=by
 unfold Cs.sz;rw[aaP,aaQ h];exact F.s0 _ (aa4 h)
theorem ey{C:Cs}{i:Nat}(h:i<C.bc.length):C.pg i∈C.bc:=by
 unfold Cs.pg;rw[aaP,aaQ h];exact aa4 h
theorem lT{C:Cs}{i:Nat}(h:i<C.bc.length):C.bc[i]?=some (C.pg i):=by
 unfold Cs.pg;rw[aaP,aaQ h];rfl
theorem ZH{C:Cs}{c:Nat}(h:c<C.rows.length):C.rows[c]?=some (C.rw c):=by
 unfold Cs.rw;rw[aaP,aaQ h];rfl
theorem Ok.xq{C:Cs}(K:Ok C){p:Nat}(h:C.pn p<C.n):lA C (C.pg (C.pn p)):=K.pg _ (ey (by rw[K.pl];exact h))
theorem At.bn{C:Cs}(K:Ok C){p:Nat}(L:At C p):
  C.cl p<C.ae.length/\64<=C.sz (C.cl p)/\C.sz (C.cl p)<=C.aj/\C.sz (C.cl p) % 8=0/\p % 8=0/\p=C.pn p*C.aj+C.ix p*C.sz (C.cl p)/\C.ix p*C.sz (C.cl p)+C.sz (C.cl p)<=C.aj/\p+C.sz (C.cl p)<=C.n*C.aj:=by
 have P:=K.xq L.i;have hc:C.cl p<C.ae.length:=P.cl L.own;obtain⟨h1,h2,h3⟩:=K.toFix.sz hc;have hg:=P.gl L.own;have hk:=L.k;have KH:=K.toFix.pos;have Of:=L.al;have e1:p=C.pn p*C.aj+p % C.aj:=by
  have:=agp p C.aj;unfold Cs.pn;rw[afS]at this;omega
 have e2:p % C.aj=C.ix p*C.sz (C.cl p):=by
  have:=agp (p % C.aj) (C.sz (C.cl p));unfold Cs.ix;rw[afS]at this;omega
 have e3:C.ix p*C.sz (C.cl p)+C.sz (C.cl p)<=C.aj:=by
  have:C.ix p+1<=C.aj/C.sz (C.cl p):=by
   have:(C.pg (C.pn p)).bd.length=C.aj/C.sz (C.cl p):=hg;omega
  have h4:=afz (C.sz (C.cl p)) this;have h5:=ajq C.aj (C.sz (C.cl p));rw[af0,agb]at h4;omega
 have e4:p+C.sz (C.cl p)<=C.n*C.aj:=by
  have hi:=L.i;have:=afz C.aj (show C.pn p+1<=C.n from hi);rw[af0,agb]at this;omega
 have e5:p % 8=0:=by
  have h8:=K.p8;obtain⟨a,ha⟩:∃a,C.aj=8*a:=⟨C.aj/8,by omega⟩;obtain⟨b,hb⟩:∃b,C.sz (C.cl p)=8*b:=⟨C.sz (C.cl p)/8,by omega⟩;rw[e2]at e1;rw[ha,hb]at e1;have:p=8*(C.pn p*a+C.ix p*b):=by
   rw[Nat.mul_add];have x1:C.pn p*(8*a)=8*(C.pn p*a):=by rw[akf]
   have x2:C.ix p*(8*b)=8*(C.ix p*b):=by rw[akf]
   omega
  omega
 exact⟨hc,h1,h2,h3,e5,by omega,e3,e4⟩
theorem fO{C:Cs}(F:Fix C):C.n*C.aj<=1073741824:=by
 have h1:=F.n1;have h2:=F.p1
 calc C.n*C.aj<=1024*1048576:=afG h1 h2
  _=1073741824:=by decide
theorem Live.xC{C:Cs}(K:Ok C){p:Nat}(L:At C p):C.gen p<4294967296:=by
 have P:=K.xq L.i;refine P.Zn _ ?_;unfold Cs.gen;rw[aaP,aaQ L.k];exact aa4 _
theorem bV{C:Cs}(K:Ok C){p:Nat}(L:At C p):C.hd p % 4294967296=p/8+1/\C.hd p/4294967296=C.gen p/\p/8*8=p/\p/8+1<=C.n*C.aj/8/\C.hd p<18446744073709551616/\C.hd p≠0:=by
 obtain⟨_,h2,_,_,h5,_,_,h8⟩:=L.bn K;have hg:=Live.xC K L;have hb:=fO K.toFix;unfold Cs.hd;have:p/8+1<4294967296:=by omega
 refine⟨by omega,by omega,by omega,by omega,by omega,by omega⟩
theorem iV{C:Cs}(K:Ok C){p q:Nat}(L:At C p)(M:At C q)(h:C.hd p=C.hd q):p=q:=by
 obtain⟨a1,_,a3,_⟩:=bV K L;obtain⟨b1,_,b3,_⟩:=bV K M;rw[h]at a1;omega
theorem apart{C:Cs}(K:Ok C){p q:Nat}(L:At C p)(M:At C q)(h:p≠q):p+C.sz (C.cl p)<=q\/q+C.sz (C.cl q)<=p:=by
 obtain⟨_,_,_,_,_,a6,a7,_⟩:=L.bn K;obtain⟨_,_,_,_,_,b6,b7,_⟩:=M.bn K;rcases akg (C.pn p) (C.pn q)with h1|h1|h1
 ·have:=afz C.aj (show C.pn p+1<=C.pn q from h1)
  rw[af0,agb]at this;omega
 ·have hc:C.cl p=C.cl q:=by unfold Cs.cl;rw[h1]
  rw[hc]at a6 a7⊢;rw[h1]at a6;rcases akg (C.ix p) (C.ix q)with h2|h2|h2
  ·have:=afz (C.sz (C.cl q)) (show C.ix p+1<=C.ix q from h2)
   rw[af0,agb]at this;omega
  ·rw[h2]at a6;exact absurd (a6.trans b6.symm) h
  have:=afz (C.sz (C.cl q)) (show C.ix q+1<=C.ix p from h2);rw[af0,agb]at this;omega
 have:=afz C.aj (show C.pn q+1<=C.pn p from h1);rw[af0,agb]at this;omega
def pA (C:Cs)(i k:Nat):Nat:=i*C.aj+k*C.sz (C.pg i).cl
theorem mh{C:Cs}(K:Ok C){i k:Nat}(hi:i<C.n)(ho:(C.pg i).own=true)(hk:k<(C.pg i).bd.length):C.pn (C.pA i k)=i/\C.ix (C.pA i k)=k/\At C (C.pA i k):=by
 have P:lA C (C.pg i):=K.pg _ (ey (by rw[K.pl];exact hi));have hc:=P.cl ho;obtain⟨h1,h2,h3⟩:=K.toFix.sz hc;have hg:=P.gl ho;have KH:=K.toFix.pos;have e3:k*C.sz (C.pg i).cl+C.sz (C.pg i).cl<=C.aj:=by
  have:k+1<=C.aj/C.sz (C.pg i).cl:=by omega
  have h4:=afz (C.sz (C.pg i).cl) this;have h5:=ajq C.aj (C.sz (C.pg i).cl);rw[af0,agb]at h4;omega
 have a1:C.pn (C.pA i k)=i:=by
  unfold Cs.pn Cs.pA;rw[afS,akp KH,akk (by omega)];omega
 have a2:C.pA i k % C.aj=k*C.sz (C.pg i).cl:=by
  unfold Cs.pA;rw[afS,akq,afE (by omega)]
 have a3:C.ix (C.pA i k)=k:=by
  unfold Cs.ix Cs.cl;rw[a1,a2,akc _ (by omega)]
 refine⟨a1,a3,⟨by rw[a1];exact hi,by rw[a1];exact ho, ?_,by rw[a3,a1];exact hk⟩⟩;unfold Cs.cl;rw[a1,a2,akl]
theorem GA{C:Cs}(K:Ok C){p:Nat}(L:At C p):C.pA (C.pn p) (C.ix p)=p:=by
 obtain⟨_,_,_,_,_,h6,_⟩:=L.bn K;unfold Cs.pA;exact h6.symm
end Cs
open Go Go.dG
theorem pw8 (m:Nat):(256^(m+1)-1)/256=256^m-1:=by
 have:0<256^m:=Nat.pow_pos (by decide);rw[af9];omega
theorem Hk (A:By)(n i:Nat)(h:i<n):(dI A n)[i]?=some (CO akN ((A i).toNat)):=by
 unfold dI ax;rw[aa6,Xh A 0 n i h,abd];rfl
theorem B9 (A:By)(p w:Nat):rd A p (w+1)=rd A p w*256+(A (p+w)).toNat:=by
 unfold rd;rw[SZ,Tv]
theorem aht{x:Nat}(h:x<256^1):IntKind.u8.wrap (x:Int)=(x:Int):=wrap_u8 (by rw[Nat.pow_one]at h;omega)
def iq (ab aj n:Nat):List Value:= [CO CN aj, .slice (some ⟨ab,0,none⟩) n n]
abbrev In (A:aa)(h:Hp):Prop:=∃k,A k/\Le k h
def KB (ab p m:Nat):Addr:=⟨ab,if m=0 then 0 else p,none⟩
theorem jy (a ab aj n p m:Nat)(h0:0<aj)(h1:p+m<=n)(h2:n<=1073741824)(h3:p % aj+m<=aj)(h4:aj<=1048576):
  aO aaO 261 [CM a,CO CN p,CO CN m] (In (af a 249 (iq ab aj n))) []
   (λv H=>v= .tuple #[.slice (some (KB ab p m)) m m, .bool true]/\H= []):=by
 have hc:Be (some ⟨ab,0,none⟩) p (p+m) (p*1)=some (KB ab p m):=by
  unfold Be KB;by_cases hm:m=0
  ·rw[if_pos (by omega),if_pos hm]
  rw[if_neg (by omega),if_neg hm,Option.map_some,add_lit];simp
 refine ag func261 rfl ntmps261 rfl ?_;intro F h0';unfold iq at h0';refine bE ?_;refine aw ?_;refine gT false mix ?_;refine bz ?_;refine zf 10 ?_;refine bm ?_;refine zf 14 ?_;refine cA ?_;refine zf 23 ?_;refine bW ?_;refine zf 34 ?_;refine bz ?_;by_cases hm:0<m
 ·refine zt 37 ?_
  refine bE ?_;refine Ti (Rm) ?_;refine bM ?_;refine cO ?_;refine fq ?_;refine Li (Sl p (p+m) (p+m) kk) ?_;rw[hc];refine bm ?_;refine jE [] results261 ?_;rw[ajV];exact⟨rfl,rfl⟩
 refine zf 37 ?_;refine cC ?_;refine bW ?_;refine Li (Sl p (p+m) (p+m) kk) ?_;rw[hc];refine bm ?_;refine jE [] results261 ?_;rw[ajV];exact⟨rfl,rfl⟩
theorem Ae (x:Nat):((x:Int).fdiv (2^(min 7 IntKind.u8.bits))).fdiv (2^(min 1 IntKind.u8.bits))=((x/256:Nat):Int):=by
 rw[show(2:Int)^(min 7 IntKind.u8.bits)=128 from rfl,show(2:Int)^(min 1 IntKind.u8.bits)=2 from rfl,afJ _ (by decide),afJ _ (by decide)];omega
theorem vI:aO aaO 265 [] (λ_=>True) [] (λv H=>v=CO CN 1/\H= []):=by
 refine ag func265 rfl ntmps265 rfl ?_;intro F _;refine rj ?_;refine Lo (ι:=Nat) [5,6,9,10,11,1,7,8,2] (λk=>k<=1) (λk=> [(1,CO akN (256^(1-k)-1:Nat)),(2,CO CN k)]) (λk=> []) (λk=>1-k) (0) (by simp) ?_;rintro k hI;refine bE ?_;refine aE rfl ?_ ?_
 ·intro hk
  replace hk:=aS hk;have cL:k<1:=by
   refine aa2 λhh=> ?_;rw[show 1-k=0 by omega]at hk;exact absurd hk (by decide)
  refine bG ?_;refine Li (Sr 7) ?_;refine Li (Sr 1) ?_;refine dm ?_;refine aF ?_;refine ay (t:=1) (v':=(CO akN (256^(1-(k+1))-1:Nat))) rfl (by rw[Ae,show 1-k=(1-(k+1))+1 by omega,pw8]) ?_;refine Ro (k+1) (by omega) (by omega)
 intro hk;replace hk:=aS hk;have ur:k=1:=by
  refine aa2 λhh=> ?_;have:256<=256^(1-k):=ajM (show 1-k≠0 by omega) 256;omega
 subst ur;refine bM ?_;refine Rt [] results265 ?_;exact⟨rfl,rfl⟩
theorem L4 (a ab aj n p:Nat)(A:By)(h0:0<aj)(h1:p+1<=n)(h2:n<=1073741824)(h3:p % aj+1<=aj)(h4:aj<=1048576):
  aO aaO 216 [CM a,CO CN p] (λh=>In (af a 249 (iq ab aj n)) h/\In (af ab 5 (dI A n)) h) []
   (λv H=>v= .tuple #[CO akN (rd A p 1:Nat),CO CN 0]/\H= []):=by
 refine ag func216 rfl ntmps216 rfl ?_;rintro F ⟨ha,hb⟩;refine mF ?_;refine zl CF (vI) .nil CI ?_;refine zl CF (jy a ab aj n p 1 h0 h1 h2 h3 h4) .nil (λ_ le _=>by obtain⟨k,q1,q2⟩:=ha;exact⟨k,q1,q2.trans le⟩) ?_;simp only[KB,show¬1=0 by decide,if_false];refine cC ?_;refine bm ?_;refine Lo (ι:=Nat) [25,26,27,10,28,29,30,31,32,8,33,24] (λk=>k<=1) (λk=> [(8,CO akN (rd A p k:Nat)),(24,CO CN k)]) (λk=> []) (λk=>1-k) (0) (by simp) ?_;rintro k hI;refine bz ?_;refine aw ?_;refine aE rfl ?_ ?_
 ·intro hk
  replace hk:=aS hk;have cL:k<1:=by omega
  have k1:=Hk A n (p+k) (by omega);have hl:=ko A p (k+1);have CS:256^(k+1)<=256^1:=afX (by decide) cL;have hc:=(A (p+k)).toNat_lt;have hs:=B9 A p k;refine bE ?_;refine Li ((Zv kk)) ?_;refine Lp (oL Da ?_ (hk:=xl (i:=p+k) hb k1));refine bm ?_;refine Li (Sh 7) ?_;refine Li (Sh 1) ?_;refine av ?_;refine Li ((Im (hz:=Te (by rw[<-hs];exact afZ hl CS)))) ?_;refine bR ?_;refine aF ?_;rw[<-hs];refine Ro (k+1) (by omega) (by omega)
 intro hk;replace hk:=aS hk;have ur:k=1:=by omega
 subst ur;refine bW ?_;refine jE [] results216 ?_;exact⟨rfl,rfl⟩
theorem LH (a ab aj n p v:Nat)(A:By)(hv:v<256^1)(h0:0<aj)(h1:p+1<=n)(h2:n<=1073741824)(h3:p % aj+1<=aj)(h4:aj<=1048576):
  aO aaO 276 [CM a,CO CN p,CO akN v] (In (af a 249 (iq ab aj n))) [af ab 5 (dI A n)]
   (λu H=>u=CO CN 0/\H= [af ab 5 (dI (wr A p 1 v) n)]):=by
 refine ag func276 rfl ntmps276 rfl ?_;intro F ha;refine fq ?_;refine zl CF (vI) .nil CI ?_;refine zl CF (jy a ab aj n p 1 h0 h1 h2 h3 h4) .nil (λ_ le _=>by obtain⟨k,q1,q2⟩:=ha;exact⟨k,q1,q2.trans le⟩) ?_;simp only[KB,show¬1=0 by decide,if_false];refine cC ?_;refine bA ?_;have gB:lay A (p+1) (be (1-1) v)=A:=tC A _;refine au (H':= [af ab 5 (dI (lay A (p+1) (be (1-1) v)) n)]) (by rw[gB];exact λ_ x=>x) ?_;refine Lo (ι:=Nat) [24,25,28,29,30,31,32,33,34,2,26,27,9] (λj=>j<=1) (λj=> [(2,CO akN (v/256^(1-j):Nat)),(9,CO CN ((j:Int)-1))]) (λj=> [af ab 5 (dI (lay A (p+j) (be (1-j) v)) n)]) (λj=>j) (1) (aa0 _) ?_;rintro j hI;refine bE ?_;refine aE rfl ?_ ?_
 ·intro hk
  replace hk:=aS hk;obtain⟨i,rfl⟩:∃i,j=i+1:=⟨j-1,by omega⟩;have Ky:IntKind.u8.wrap ((v/256^(1-(i+1)):Nat):Int)=((afw (v/256^(1-(i+1)))).toNat:Int):=by
   rw[IntKind.wrap_u8];simp
  have hv2:v/256^(1-(i+1))<256^1:=af6 (afP _ _) hv;have hlen:p+i<(dI (lay A (p+(i+1)) (be (1-(i+1)) v)) n).length:=by rw[oI];omega
  refine dm ?_;refine ay (t:=30) (v':=(CO akN ((afw (v/256^(1-(i+1)))).toNat:Nat))) rfl (by rw[<-Ky,aht hv2]) ?_;refine Li ((Zv kk (j:=i))) ?_;refine Lp (oS Da ?_ (i:=p+i) (hi:=hlen));rw[wU _ _ _ _ (by omega)];refine bz ?_;refine Li (Sr 7) ?_;refine Li (Sr 1) ?_;refine dm ?_;refine aF ?_;have el:lay (lay A (p+(i+1)) (be (1-(i+1)) v)) (p+i) [afw (v/256^(1-(i+1)))]=lay A (p+i) (be (1-i) v):=by
   rw[show 1-i=(1-(i+1))+1 by omega,be];exact ve A (p+i) _ _
  rw[el];refine ay (t:=2) (v':=(CO akN (v/256^(1-i):Nat))) rfl (by rw[Ae,show 1-i=(1-(i+1))+1 by omega,af9,ajd]) ?_;refine Ro (i) (by omega) (by omega)
 intro hk;replace hk:=aS hk;obtain rfl:j=0:=by omega
 refine cA ?_;refine Rt [af ab 5 (dI (wr A p 1 v) n)] results276 ?_;exact⟨rfl,rfl⟩
theorem yr (x:Nat):((x:Int).fdiv (2^(min 7 IntKind.u32.bits))).fdiv (2^(min 1 IntKind.u32.bits))=((x/256:Nat):Int):=by
 rw[show(2:Int)^(min 7 IntKind.u32.bits)=128 from rfl,show(2:Int)^(min 1 IntKind.u32.bits)=2 from rfl,afJ _ (by decide),afJ _ (by decide)];omega
theorem tU:aO aaO 263 [] (λ_=>True) [] (λv H=>v=CO CN 4/\H= []):=by
 refine ag func263 rfl ntmps263 rfl ?_;intro F _;refine rj ?_;refine Lo (ι:=Nat) [5,6,9,10,11,1,7,8,2] (λk=>k<=4) (λk=> [(1,CO akO (256^(4-k)-1:Nat)),(2,CO CN k)]) (λk=> []) (λk=>4-k) (0) (by simp) ?_;rintro k hI;refine bE ?_;refine aE rfl ?_ ?_
 ·intro hk
  replace hk:=aS hk;have cL:k<4:=by
   refine aa2 λhh=> ?_;rw[show 4-k=0 by omega]at hk;exact absurd hk (by decide)
  refine bG ?_;refine Li (Sr 7) ?_;refine Li (Sr 1) ?_;refine dm ?_;refine aF ?_;refine ay (t:=1) (v':=(CO akO (256^(4-(k+1))-1:Nat))) rfl (by rw[yr,show 4-k=(4-(k+1))+1 by omega,pw8]) ?_;refine Ro (k+1) (by omega) (by omega)
 intro hk;replace hk:=aS hk;have ur:k=4:=by
  refine aa2 λhh=> ?_;have:256<=256^(4-k):=ajM (show 4-k≠0 by omega) 256;omega
 subst ur;refine bM ?_;refine Rt [] results263 ?_;exact⟨rfl,rfl⟩
theorem Ic (a ab aj n p:Nat)(A:By)(h0:0<aj)(h1:p+4<=n)(h2:n<=1073741824)(h3:p % aj+4<=aj)(h4:aj<=1048576):
  aO aaO 214 [CM a,CO CN p] (λh=>In (af a 249 (iq ab aj n)) h/\In (af ab 5 (dI A n)) h) []
   (λv H=>v= .tuple #[CO akO (rd A p 4:Nat),CO CN 0]/\H= []):=by
 refine ag func214 rfl ntmps214 rfl ?_;rintro F ⟨ha,hb⟩;refine mF ?_;refine zl CF (tU) .nil CI ?_;refine zl CF (jy a ab aj n p 4 h0 h1 h2 h3 h4) .nil (λ_ le _=>by obtain⟨k,q1,q2⟩:=ha;exact⟨k,q1,q2.trans le⟩) ?_;simp only[KB,show¬4=0 by decide,if_false];refine cC ?_;refine bm ?_;refine Lo (ι:=Nat) [25,26,27,10,28,29,30,31,32,33,8,34,24] (λk=>k<=4) (λk=> [(8,CO akO (rd A p k:Nat)),(24,CO CN k)]) (λk=> []) (λk=>4-k) (0) (by simp) ?_;rintro k hI;refine bz ?_;refine aw ?_;refine aE rfl ?_ ?_
 ·intro hk
  replace hk:=aS hk;have cL:k<4:=by omega
  have k1:=Hk A n (p+k) (by omega);have hl:=ko A p (k+1);have CS:256^(k+1)<=256^4:=afX (by decide) cL;have hc:=(A (p+k)).toNat_lt;have hs:=B9 A p k;refine bE ?_;refine Li ((Zv kk)) ?_;refine Lp (oL Da ?_ (hk:=xl (i:=p+k) hb k1));refine bm ?_;refine Li (Sh 7) ?_;refine Li (Sh 1) ?_;refine bA ?_;refine Li ((Im (hz:=LK hc (by rw[<-hs];exact afZ hl CS)))) ?_;refine bR ?_;refine aF ?_;rw[<-hs];refine Ro (k+1) (by omega) (by omega)
 intro hk;replace hk:=aS hk;have ur:k=4:=by omega
 subst ur;refine bW ?_;refine jE [] results214 ?_;exact⟨rfl,rfl⟩
theorem yz (a ab aj n p v:Nat)(A:By)(hv:v<256^4)(h0:0<aj)(h1:p+4<=n)(h2:n<=1073741824)(h3:p % aj+4<=aj)(h4:aj<=1048576):
  aO aaO 221 [CM a,CO CN p,CO akO v] (In (af a 249 (iq ab aj n))) [af ab 5 (dI A n)]
   (λu H=>u=CO CN 0/\H= [af ab 5 (dI (wr A p 4 v) n)]):=by
 refine ag func221 rfl ntmps221 rfl ?_;intro F ha;refine fq ?_;refine zl CF (tU) .nil CI ?_;refine zl CF (jy a ab aj n p 4 h0 h1 h2 h3 h4) .nil (λ_ le _=>by obtain⟨k,q1,q2⟩:=ha;exact⟨k,q1,q2.trans le⟩) ?_;simp only[KB,show¬4=0 by decide,if_false];refine cC ?_;refine bA ?_;have gB:lay A (p+4) (be (4-4) v)=A:=tC A _;refine au (H':= [af ab 5 (dI (lay A (p+4) (be (4-4) v)) n)]) (by rw[gB];exact λ_ x=>x) ?_;refine Lo (ι:=Nat) [24,25,28,29,30,31,32,33,34,35,2,26,27,9] (λj=>j<=4) (λj=> [(2,CO akO (v/256^(4-j):Nat)),(9,CO CN ((j:Int)-1))]) (λj=> [af ab 5 (dI (lay A (p+j) (be (4-j) v)) n)]) (λj=>j) (4) (aa0 _) ?_;rintro j hI;refine bE ?_;refine aE rfl ?_ ?_
 ·intro hk
  replace hk:=aS hk;obtain⟨i,rfl⟩:∃i,j=i+1:=⟨j-1,by omega⟩;have Ky:IntKind.u8.wrap ((v/256^(4-(i+1)):Nat):Int)=((afw (v/256^(4-(i+1)))).toNat:Int):=by
   rw[IntKind.wrap_u8];simp
  have hv2:v/256^(4-(i+1))<256^4:=af6 (afP _ _) hv;have hlen:p+i<(dI (lay A (p+(i+1)) (be (4-(i+1)) v)) n).length:=by rw[oI];omega
  refine dm ?_;refine Li ((Cv sQ Gm (hz:=Ky))) ?_;refine Li ((Zv kk (j:=i))) ?_;refine Lp (oS Da ?_ (i:=p+i) (hi:=hlen));rw[wU _ _ _ _ (by omega)];refine bz ?_;refine Li (Sr 7) ?_;refine Li (Sr 1) ?_;refine dm ?_;refine aF ?_;have el:lay (lay A (p+(i+1)) (be (4-(i+1)) v)) (p+i) [afw (v/256^(4-(i+1)))]=lay A (p+i) (be (4-i) v):=by
   rw[show 4-i=(4-(i+1))+1 by omega,be];exact ve A (p+i) _ _
  rw[el];refine ay (t:=2) (v':=(CO akO (v/256^(4-i):Nat))) rfl (by rw[yr,show 4-i=(4-(i+1))+1 by omega,af9,ajd]) ?_;refine Ro (i) (by omega) (by omega)
 intro hk;replace hk:=aS hk;obtain rfl:j=0:=by omega
 refine cA ?_;refine Rt [af ab 5 (dI (wr A p 4 v) n)] results221 ?_;exact⟨rfl,rfl⟩
theorem yq (x:Nat):((x:Int).fdiv (2^(min 7 IntKind.u64.bits))).fdiv (2^(min 1 IntKind.u64.bits))=((x/256:Nat):Int):=by
 rw[show(2:Int)^(min 7 IntKind.u64.bits)=128 from rfl,show(2:Int)^(min 1 IntKind.u64.bits)=2 from rfl,afJ _ (by decide),afJ _ (by decide)];omega
theorem tT:aO aaO 264 [] (λ_=>True) [] (λv H=>v=CO CN 8/\H= []):=by
 refine ag func264 rfl ntmps264 rfl ?_;intro F _;refine rj ?_;refine Lo (ι:=Nat) [5,6,9,10,11,1,7,8,2] (λk=>k<=8) (λk=> [(1,CO CJ (256^(8-k)-1:Nat)),(2,CO CN k)]) (λk=> []) (λk=>8-k) (0) (by simp) ?_;rintro k hI;refine bE ?_;refine aE rfl ?_ ?_
 ·intro hk
  replace hk:=aS hk;have cL:k<8:=by
   refine aa2 λhh=> ?_;rw[show 8-k=0 by omega]at hk;exact absurd hk (by decide)
  refine bG ?_;refine Li (Sr 7) ?_;refine Li (Sr 1) ?_;refine dm ?_;refine aF ?_;refine ay (t:=1) (v':=(CO CJ (256^(8-(k+1))-1:Nat))) rfl (by rw[yq,show 8-k=(8-(k+1))+1 by omega,pw8]) ?_;refine Ro (k+1) (by omega) (by omega)
 intro hk;replace hk:=aS hk;have ur:k=8:=by
  refine aa2 λhh=> ?_;have:256<=256^(8-k):=ajM (show 8-k≠0 by omega) 256;omega
 subst ur;refine bM ?_;refine Rt [] results264 ?_;exact⟨rfl,rfl⟩
theorem Ib (a ab aj n p:Nat)(A:By)(h0:0<aj)(h1:p+8<=n)(h2:n<=1073741824)(h3:p % aj+8<=aj)(h4:aj<=1048576):
  aO aaO 215 [CM a,CO CN p] (λh=>In (af a 249 (iq ab aj n)) h/\In (af ab 5 (dI A n)) h) []
   (λv H=>v= .tuple #[CO CJ (rd A p 8:Nat),CO CN 0]/\H= []):=by
 refine ag func215 rfl ntmps215 rfl ?_;rintro F ⟨ha,hb⟩;refine mF ?_;refine zl CF (tT) .nil CI ?_;refine zl CF (jy a ab aj n p 8 h0 h1 h2 h3 h4) .nil (λ_ le _=>by obtain⟨k,q1,q2⟩:=ha;exact⟨k,q1,q2.trans le⟩) ?_;simp only[KB,show¬8=0 by decide,if_false];refine cC ?_;refine bm ?_;refine Lo (ι:=Nat) [25,26,27,10,28,29,30,31,32,33,8,34,24] (λk=>k<=8) (λk=> [(8,CO CJ (rd A p k:Nat)),(24,CO CN k)]) (λk=> []) (λk=>8-k) (0) (by simp) ?_;rintro k hI;refine bz ?_;refine aw ?_;refine aE rfl ?_ ?_
 ·intro hk
  replace hk:=aS hk;have cL:k<8:=by omega
  have k1:=Hk A n (p+k) (by omega);have hl:=ko A p (k+1);have CS:256^(k+1)<=256^8:=afX (by decide) cL;have hc:=(A (p+k)).toNat_lt;have hs:=B9 A p k;refine bE ?_;refine Li ((Zv kk)) ?_;refine Lp (oL Da ?_ (hk:=xl (i:=p+k) hb k1));refine bm ?_;refine Li (Sh 7) ?_;refine Li (Sh 1) ?_;refine bA ?_;refine Li ((Im (hz:=LJ hc (by rw[<-hs];exact afZ hl CS)))) ?_;refine bR ?_;refine aF ?_;rw[<-hs];refine Ro (k+1) (by omega) (by omega)
 intro hk;replace hk:=aS hk;have ur:k=8:=by omega
 subst ur;refine bW ?_;refine jE [] results215 ?_;exact⟨rfl,rfl⟩
theorem HY (a ab aj n p v:Nat)(A:By)(hv:v<256^8)(h0:0<aj)(h1:p+8<=n)(h2:n<=1073741824)(h3:p % aj+8<=aj)(h4:aj<=1048576):
  aO aaO 274 [CM a,CO CN p,CO CJ v] (In (af a 249 (iq ab aj n))) [af ab 5 (dI A n)]
   (λu H=>u=CO CN 0/\H= [af ab 5 (dI (wr A p 8 v) n)]):=by
 refine ag func274 rfl ntmps274 rfl ?_;intro F ha;refine fq ?_;refine zl CF (tT) .nil CI ?_;refine zl CF (jy a ab aj n p 8 h0 h1 h2 h3 h4) .nil (λ_ le _=>by obtain⟨k,q1,q2⟩:=ha;exact⟨k,q1,q2.trans le⟩) ?_;simp only[KB,show¬8=0 by decide,if_false];refine cC ?_;refine bA ?_;have gB:lay A (p+8) (be (8-8) v)=A:=tC A _;refine au (H':= [af ab 5 (dI (lay A (p+8) (be (8-8) v)) n)]) (by rw[gB];exact λ_ x=>x) ?_;refine Lo (ι:=Nat) [24,25,28,29,30,31,32,33,34,35,2,26,27,9] (λj=>j<=8) (λj=> [(2,CO CJ (v/256^(8-j):Nat)),(9,CO CN ((j:Int)-1))]) (λj=> [af ab 5 (dI (lay A (p+j) (be (8-j) v)) n)]) (λj=>j) (8) (aa0 _) ?_;rintro j hI;refine bE ?_;refine aE rfl ?_ ?_
 ·intro hk
  replace hk:=aS hk;obtain⟨i,rfl⟩:∃i,j=i+1:=⟨j-1,by omega⟩;have Ky:IntKind.u8.wrap ((v/256^(8-(i+1)):Nat):Int)=((afw (v/256^(8-(i+1)))).toNat:Int):=by
   rw[IntKind.wrap_u8];simp
  have hv2:v/256^(8-(i+1))<256^8:=af6 (afP _ _) hv;have hlen:p+i<(dI (lay A (p+(i+1)) (be (8-(i+1)) v)) n).length:=by rw[oI];omega
  refine dm ?_;refine Li ((Cv sQ IG (hz:=Ky))) ?_;refine Li ((Zv kk (j:=i))) ?_;refine Lp (oS Da ?_ (i:=p+i) (hi:=hlen));rw[wU _ _ _ _ (by omega)];refine bz ?_;refine Li (Sr 7) ?_;refine Li (Sr 1) ?_;refine dm ?_;refine aF ?_;have el:lay (lay A (p+(i+1)) (be (8-(i+1)) v)) (p+i) [afw (v/256^(8-(i+1)))]=lay A (p+i) (be (8-i) v):=by
   rw[show 8-i=(8-(i+1))+1 by omega,be];exact ve A (p+i) _ _
  rw[el];refine ay (t:=2) (v':=(CO CJ (v/256^(8-i):Nat))) rfl (by rw[yq,show 8-i=(8-(i+1))+1 by omega,af9,ajd]) ?_;refine Ro (i) (by omega) (by omega)
 intro hk;replace hk:=aS hk;obtain rfl:j=0:=by omega
 refine cA ?_;refine Rt [af ab 5 (dI (wr A p 8 v) n)] results274 ?_;exact⟨rfl,rfl⟩
theorem In.mono{A:aa}{h k:Hp}(i:In A h)(l:Le h k):In A k:=by
 obtain⟨m,a,b⟩:=i;exact⟨m,a,b.trans l⟩
theorem ae3{ab n p m:Nat}{A:By}{h:Hp}(hb:In (af ab 5 (dI A n)) h)(hn:p+m<=n):gg h (some (KB ab p m)) (ax (jU A p m)):=by
 obtain⟨k,q1,q2⟩:=hb;by_cases hm:m=0
 ·subst hm;rw[SY];exact gg.nil
 have:=(qz (i:=p) q1).mono q2;unfold KB;rw[if_neg hm,<-Vq A n p m hn];exact this.take m
theorem Hz (a:Option Addr)(l:List UInt8)(m c:Nat)(hm:m=l.length)(hl:l.length<=1073741824):
  aO aaO 262 [.slice a m c] (λh=>gg h a (ax l)) [] (λv H=>∃b,v= .slice (some ⟨b,0,none⟩) m m/\H= [own (some ⟨b,0,none⟩) m 5 1 (ax l)]):=by
 refine ag func262 rfl ntmps262 rfl ?_;intro F hF;refine bG ?_;refine Lp (oM (m) (m) kA λb1=> ?_);refine bE ?_;refine Lp (Ju kA rfl rfl rfl rfl .here (eH (news:=ax l) (by simp[hm]) λh le _=>hF.mono le) eO (by rw[kI];omega) rfl ?_);have hz:cZ (hU [CO akN 0] (m*1)) 0 ((ax l).take (min m m*1))=ax l:=by
  rw[akA,ajW (by simp[hm]),mN (by rw[kI];simp[hm])];simp[hm,kI]
 rw[hz];refine au (λ_ s=>bB (λ_ p=>oP p m 1 (by simp[hm]) (by simp only[maxLen];omega)) s) ?_;refine bG ?_;refine Rt [own (some ⟨b1,0,none⟩) m 5 1 (ax l)] results262 ?_;exact⟨_,rfl,rfl⟩
theorem HW (a ab aj n p m:Nat)(A:By)(h0:0<aj)(h1:p+m<=n)(h2:n<=1073741824)(h3:p % aj+m<=aj)(h4:aj<=1048576):
  aO aaO 212 [CM a,CO CN p,CO CN m] (λh=>In (af a 249 (iq ab aj n)) h/\In (af ab 5 (dI A n)) h) []
   (λv H=>∃b,v= .tuple #[.slice (some ⟨b,0,none⟩) m m,CO CN 0]/\H= [own (some ⟨b,0,none⟩) m 5 1 (ax (jU A p m))]):=by
 refine ag func212 rfl ntmps212 rfl ?_;rintro F ⟨ha,hb⟩;refine dm ?_;refine zl CF (jy a ab aj n p m h0 h1 h2 h3 h4) .nil (λ_ le _=>ha.mono le) ?_;refine rj ?_;refine Lp (oC CF rfl rfl (Hz (some (KB ab p m)) (jU A p m) m m (cD A p m).symm (by rw[cD];omega)) .nil (λ_ le _=>(ae3 hb h1).mono le) ?_);rintro v H' ⟨b,rfl,rfl⟩;refine aX ?_;refine bm ?_;refine jE [own (some ⟨b,0,none⟩) m 5 1 (ax (jU A p m))] results212 ?_;exact⟨_,rfl,rfl⟩
theorem qo (a ab aj n p m c:Nat)(A:By)(s:Option Addr)(l:List UInt8)(hm:m=l.length)(h0:0<aj)(h1:p+m<=n)(h2:n<=1073741824)(h3:p % aj+m<=aj)(h4:aj<=1048576):
  aO aaO 246 [CM a,CO CN p, .slice s m c] (λh=>In (af a 249 (iq ab aj n)) h/\gg h s (ax l)) [af ab 5 (dI A n)]
   (λv H=>v=CO CN 0/\H= [af ab 5 (dI (lay A p l) n)]):=by
 refine ag func246 rfl ntmps246 rfl ?_;rintro F ⟨ha,hb⟩;refine dm ?_;refine zl CF (jy a ab aj n p m h0 h1 h2 h3 h4) .nil (λ_ le _=>ha.mono le) ?_;refine ri ?_;have hz:cZ (dI A n) (if m=0 then 0 else p) ((ax l).take (min m m*1))=dI (lay A p l) n:=by
  rw[akA,ajW (by simp[hm])];by_cases h0:m=0
  ·have:l= []:=afm (by omega)
   subst this;rw[tC];rfl
  rw[if_neg h0,mN (by rw[oI];simp;omega),<-Ki A n p l (by omega)];simp[afR]
 refine Lp (Ju kA rfl rfl rfl rfl .here (eH (news:=ax l) (by simp[hm]) λh le _=>hb.mono le) eO (by rw[oI];split<;>omega) rfl ?_);rw[hz];refine bE ?_;refine Rt [af ab 5 (dI (lay A p l) n)] results246 ?_;exact⟨rfl,rfl⟩
theorem Ig (a ab aj n p m:Nat)(A:By)(c:UInt8)(hm:0<m)(h0:0<aj)(h1:p+m<=n)(h2:n<=1073741824)(h3:p % aj+m<=aj)(h4:aj<=1048576):
  aO aaO 220 [CM a,CO CN p,CO CN m,CO akN c.toNat] (In (af a 249 (iq ab aj n))) [af ab 5 (dI A n)]
   (λv H=>v=CO CN 0/\H= [af ab 5 (dI (lay A p (aaS m c)) n)]):=by
 refine ag func220 rfl ntmps220 rfl ?_;rintro F ha;refine bR ?_;refine zl CF (jy a ab aj n p m h0 h1 h2 h3 h4) .nil (λ_ le _=>ha.mono le) ?_;simp only[KB,show¬m=0 by omega,if_false];refine cC ?_;refine av ?_;refine au (H':= [af ab 5 (dI (lay A p (aaS 0 c)) n)]) (by rw[List.replicate_zero,tC];exact λ_ x=>x) ?_;refine Lo (ι:=Nat) [24,25,11,26,27,28,29,30,23] (λk=>k<=m) (λk=> [(23,CO CN k)]) (λk=> [af ab 5 (dI (lay A p (aaS k c)) n)]) (λk=>m-k) (0) (by simp) ?_;rintro k hI;refine bz ?_;refine aw ?_;refine aE rfl ?_ ?_
 ·intro hk
  replace hk:=aS hk;have cL:k<m:=by omega
  have hlen:p+k<(dI (lay A p (aaS k c)) n).length:=by rw[oI];omega
  refine dB ?_;refine Li ((Zv kk)) ?_;refine Lp (oS Da ?_ (i:=p+k) (hi:=hlen));rw[wU _ _ _ _ (by omega)];have el:lay (lay A p (aaS k c)) (p+k) [c]=lay A p (aaS (k+1) c):=by
   have:=Yf A p (aaS k c) [c];rw[afQ]at this;rw[this,List.replicate_succ']
  rw[el];refine bG ?_;refine aF ?_;refine Ro (k+1) (by omega) (by omega)
 intro hk;replace hk:=aS hk;obtain rfl:k=m:=by omega
 refine cA ?_;refine Rt [af ab 5 (dI (lay A p (aaS k c)) n)] results220 ?_;exact⟨rfl,rfl⟩
theorem Av (a ab aj n:Nat)(h2:n<=1073741824):
  aO aaO 204 [CM a] (In (af a 249 (iq ab aj n))) [] (λv H=>v=CO CN n/\H= []):=by
 refine ag func204 rfl ntmps204 rfl ?_;intro F h0;unfold iq at h0;refine dB ?_;refine Rt [] results204 ?_;exact⟨rfl,rfl⟩
def jN (c:nZ):List Value:= [CO CN c.aj,CO CN c.pgs,CO CN c.fac,CO CN c.bj,CO CN c.lim,CO CN c.hot,CO CN c.warm]
def aA (l:List Nat):List Value:=l.map λn:Nat=>CO CN n
def aM (l:List Nat):List Value:=l.map λn:Nat=>CO akO n
def sP (l:List Bool):List Value:=l.map λb=> .bool b
def jM (l:List (Nat×Nat)):List (Value×Value):=l.map λp=>(CO CN p.1,CO akO p.2)
def Vx (b:Option Nat)(n:Nat):Value:=match b with
 |some b=> .slice (some ⟨b,0,none⟩) n n
 |none=> .slice none 0 0
def jH (b:Option Nat)(e:TypeId)(cs:List Value):aa:=match b with
 |some b=>af b e cs
 |none=>zk
def C0 (b:Option Nat)(es:List (Value×Value)):aa:=match b with
 |some b=>mq (.int .i64) b es
 |none=>zk
structure vx where
 p:Pg
 gb:Option Nat
 tb:Option Nat
 ob:Option Nat
def dD (x:vx):List Value:= [.bool x.p.own, .bool x.p.lv,CO CN x.p.cl,Vx x.gb x.p.bd.length,Vx x.tb x.p.tk.length,CO CN x.p.held, .map x.ob]
theorem bU:∀x,(dD x).length=7:=λ_=>rfl
def lp (x:vx):aa:=aG [jH x.gb 149 (aM x.p.bd),jH x.tb 4 (sP x.p.tk),C0 x.ob (jM x.p.old)]
structure aaM (x:vx):Prop where
 g:x.gb.isSome=x.p.own
 t:x.tb.isSome=x.p.own
 o:x.ob=none->x.p.old= []
structure FW where
 r:Rw
 a:Option Addr
 c:Nat
def dZ (x:FW):List Value:= [.slice x.a x.r.free.length x.c,CO CN x.r.dL,CO CN x.r.pgs,CO CN x.r.fZ]
theorem cz:∀x,(dZ x).length=4:=λ_=>rfl
def kM (x:FW):aa:=own x.a x.c 3 1 (aA x.r.free)
structure Lc where
 a:Nat
 ab:Nat
 sa:Nat
 pb:Nat
 rb:Nat
 sc:Nat
 pl:List vx
 rl:List FW
def cH (C:Cs)(y:Lc):List Value:= [CO CN C.aj,CO CN C.n,CO CN C.cfg.fac,CO CN C.cfg.bj,CO CN C.cfg.lim,CO CN C.cfg.hot,CO CN C.cfg.warm,CM y.a, .slice (some ⟨y.sa,0,none⟩) C.ae.length y.sc, .slice (some ⟨y.pb,0,none⟩) C.n C.n, .slice (some ⟨y.rb,0,none⟩) C.ae.length C.ae.length,CO CN C.spare]
def n9 (C:Cs)(y:Lc):aa:=own (some ⟨y.sa,0,none⟩) y.sc 3 1 (aA C.ae)
def mU (b:Nat)(C:Cs)(y:Lc):List aa:=
 [af b 179 (cH C y),n9 C y,af y.pb 227 (y.pl.flatMap dD),aG (y.pl.map lp),af y.rb 196 (y.rl.flatMap dZ),aG (y.rl.map kM),
  af y.a 249 (iq y.ab C.aj (C.n*C.aj)),af y.ab 5 (dI C.A (C.n*C.aj))]
structure gN (C:Cs)(y:Lc):Prop where
 pl:y.pl.map (·.p)=C.bc
 rl:y.rl.map (·.r)=C.rows
 pk:∀x∈y.pl,aaM x
 aj:C.cfg.aj=(C.aj:Int)
 pgs:C.cfg.pgs=(C.n:Int)
def Cl (b:Nat)(C:Cs):aa:=λh=>∃y,gN C y/\aG (mU b C y) h
theorem tz{P:Program}{f:FuncId}{args:List Value}{pre:Hp->Prop}{H:List aa}{R:Value->List aa->Prop}{b:Nat}{C:Cs}(h:∀y,gN C y->aO P f args pre (mU b C y++H) R):aO P f args pre (Cl b C::H) R:=
 aO.exL λy=>aO.Dv λhy=>aO.Gr (h y hy)
theorem qk{b:Nat}{C:Cs}{y:Lc}{H:List aa}{h:Hp}(hy:gN C y)(st:ai (mU b C y++H) h):ai (Cl b C::H) h:=
 bB (λ_ p=>⟨y,hy,p⟩) (dU st)
theorem aay{b:Nat}{C:Cs}{h:Hp}(o:In (Cl b C) h):∃y,gN C y/\gP (mU b C y) h:=by
 obtain⟨k,⟨y,hy,p⟩,l⟩:=o;exact⟨y,hy,cq p l⟩
theorem tF{C:Cs}{y:Lc}(K:Cs.Ok C)(hy:gN C y){i:Nat}(hi:i<C.n):∃x,y.pl[i]?=some x/\x.p=C.pg i/\aaM x:=by
 have h1:=Cs.lT (C:=C) (i:=i) (by rw[K.pl];exact hi);rw[<-hy.pl,aa6,Option.map_eq_some_iff]at h1;obtain⟨x,h2,h3⟩:=h1;exact⟨x,h2,h3,hy.pk x (aaT h2)⟩
theorem xI{C:Cs}{y:Lc}(K:Cs.Ok C)(hy:gN C y){c:Nat}(hc:c<C.ae.length):∃x,y.rl[c]?=some x/\x.r=C.rw c:=by
 have h1:=Cs.ZH (C:=C) (c:=c) (by rw[K.rl];exact hc);rw[<-hy.rl,aa6,Option.map_eq_some_iff]at h1;exact h1
theorem eB{l:List Nat}{i n:Nat}(h:l[i]?=some n):(aA l)[i]?=some (CO CN n):=by unfold aA;rw[aa6,h];rfl
theorem ow{l:List Nat}{i n:Nat}(h:l[i]?=some n):(aM l)[i]?=some (CO akO n):=by unfold aM;rw[aa6,h];rfl
theorem BQ{l:List Bool}{i:Nat}{b:Bool}(h:l[i]?=some b):(sP l)[i]?=some (.bool b):=by unfold sP;rw[aa6,h];rfl
theorem mK{C:Cs}{c:Nat}(h:c<C.ae.length):C.ae[c]?=some (C.sz c):=by
 unfold Cs.sz;rw[aaP,aaQ h];rfl
theorem tD{C:Cs}{p:Nat}(h:C.ix p<(C.pg (C.pn p)).bd.length):(C.pg (C.pn p)).bd[C.ix p]?=some (C.gen p):=by
 unfold Cs.gen;rw[aaP,aaQ h];rfl
theorem gr{h:Hp}{b k:Nat}{cells:List Value}{v:Value}(r:gg h (some ⟨b,0,none⟩) cells)(hv:cells[k]?=some v):eZ h ⟨b,k,none⟩=some v:=by
 obtain⟨ad,e,hc⟩:=r k v hv;cases e
 rwa[add_lit,abd]at hc
structure Cv0 (b:Nat)(C:Cs)(y:Lc)(h:Hp):Prop where
 s:In (af b 179 (cH C y)) h
 z:gg h (some ⟨y.sa,0,none⟩) (aA C.ae)
 p:In (af y.pb 227 (y.pl.flatMap dD)) h
 r:In (af y.rb 196 (y.rl.flatMap dZ)) h
 a:In (af y.a 249 (iq y.ab C.aj (C.n*C.aj))) h
 A:In (af y.ab 5 (dI C.A (C.n*C.aj))) h
structure Cvp (C:Cs)(y:Lc)(i:Nat)(h:Hp)(x:vx)(gb tb:Nat):Prop where
 x1:y.pl[i]?=some x
 e:x.p=C.pg i
 g:x.gb=some gb
 t:x.tb=some tb
 k0:(y.pl.flatMap dD)[i*7]?=some (.bool true)
 k1:(y.pl.flatMap dD)[i*7+1]?=some (.bool (C.pg i).lv)
 k2:(y.pl.flatMap dD)[i*7+2]?=some (CO CN ((C.pg i).cl))
 k3:(y.pl.flatMap dD)[i*7+3]?=some (.slice (some ⟨gb,0,none⟩) (C.pg i).bd.length (C.pg i).bd.length)
 k4:(y.pl.flatMap dD)[i*7+4]?=some (.slice (some ⟨tb,0,none⟩) (C.pg i).bd.length (C.pg i).bd.length)
 k5:(y.pl.flatMap dD)[i*7+5]?=some (CO CN ((C.pg i).held))
 hg:In (af gb 149 (aM (C.pg i).bd)) h
 ht:In (af tb 4 (sP (C.pg i).tk)) h
theorem IW{b:Nat}{C:Cs}{h:Hp}(K:Cs.Ok C){y:Lc}(hy:gN C y)(hi:gP (mU b C y) h){i:Nat}(h1:i<C.n)(h2:(C.pg i).own=true):∃x gb tb,Cvp C y i h x gb tb:=by
 obtain⟨x,x1,x2,x3⟩:=tF K hy h1;have own:=h2;rw[<-x2]at own;obtain⟨gb,uk⟩:∃g,x.gb=some g:=Option.isSome_iff_exists.1 (x3.g.trans own);obtain⟨tb,ui⟩:∃g,x.tb=some g:=Option.isSome_iff_exists.1 (x3.t.trans own);have P:Cs.lA C (C.pg i):=K.pg _ (Cs.ey (by rw[K.pl];exact h1));have tl:=P.tl;have c:∀j v,(dD x)[j]?=some v->(y.pl.flatMap dD)[i*7+j]?=some v:=λj v hv=>bo bU x1 hv;obtain⟨_,_,_,h3,_⟩:=hi;obtain⟨g1,g2,_⟩:=tJ (xR h3 (aaT x1));rw[uk]at g1;rw[ui]at g2;rw[x2]at g1 g2;refine⟨x,gb,tb,x1,x2,uk,ui, ?_, ?_, ?_, ?_, ?_, ?_,g1,g2⟩
 ·have:=c 0 _ rfl;rw[own]at this;exact this
 ·have:=c 1 _ rfl;rw[x2]at this;exact this
 ·have:=c 2 _ rfl;rw[x2]at this;exact this
 ·have:=c 3 _ rfl;rw[uk,x2]at this;exact this
 ·have:=c 4 _ rfl;rw[ui,x2,tl]at this;exact this
 have:=c 5 _ rfl;rw[x2]at this;exact this
theorem Wz{b:Nat}{C:Cs}{h:Hp}(K:Cs.Ok C){y:Lc}(hy:gN C y)(hi:gP (mU b C y) h){p:Nat}(L:Cs.At C p):∃x gb tb,Cv0 b C y h/\Cvp C y (C.pn p) h x gb tb/\eZ h ⟨y.sa,C.cl p,none⟩=some (CO CN (C.sz (C.cl p))):=by
 obtain⟨x,gb,tb,V⟩:=IW K hy hi L.i L.own;obtain⟨h0,h1,h2,h3,h4,h5,h6,h7,_⟩:=hi;exact⟨x,gb,tb,⟨h0,bP h1,h2,h4,h6,h7⟩,V,gr (bP h1) (eB (mK (L.bn K).1))⟩
theorem mM{P:Program}{f:FuncId}{args:List Value}{H:List aa}{R:Value->List aa->Prop}{b:Nat}{C:Cs}(h:∀y,gN C y->aO P f args (gP (mU b C y)) H R):aO P f args (In (Cl b C)) H R:=λF w hp s=>by
 obtain⟨y,hy,hi⟩:=aay hp;exact h y hy F w hi s
theorem bS{L:List aa}{h k:Hp}(i:gP L h)(l:Le h k):gP L k:=by
 induction L with
 |nil=>trivial
 |cons A L ih=>exact⟨Yn i.1 l,ih i.2⟩
open Go Go.dG Go.Proofs.YtcbcjolpdljbiaaGreat.Cs
theorem vg (p g:Nat)(hp:p<=1073741824)(hg:g<4294967296):aO aaO 210 [CO CN p,CO akO g] (λ_=>True) [] (λv H=>v=CO CJ (g*4294967296+(p/8+1):Nat)/\H= []):=by
 refine ag func210 rfl ntmps210 rfl ?_;intro F _;refine bG ?_;refine Li ((Sh 32 (z:=((g*4294967296:Nat):Int)) (hz:=by rw[show(2:Int)^(min 32 IntKind.u64.bits)=4294967296 from rfl,wrap_u64 (by omega)];omega))) ?_;refine av ?_;refine Li (Qu (q:=8)) ?_;refine bG ?_;refine Rt [] results210 ?_;refine⟨?_,rfl⟩
 congr 1
theorem EO (b:Nat)(C:Cs)(y:Lc)(K:Ok C)(hy:gN C y)(p:Nat)(L:At C p):
  aO aaO 205 [CM b,CO CN p] (gP (mU b C y)) []
   (λv H=>v= .tuple #[.pointer (some ⟨y.pb,C.pn p*7,none⟩),CO CN (C.ix p), .bool true]/\H= []):=by
 obtain⟨n1,n2,n3,n4,n5,n6,n7,n8⟩:=L.bn K;have nb:=fO K.toFix;have f0:=K.toFix.p0;have f1:=K.toFix.p1;refine ag func205 rfl ntmps205 rfl ?_;intro F ao;obtain⟨x,gb,tb,⟨h0,_,h2,_,h6,h7⟩,V,kz⟩:=Wz K hy ao L;obtain⟨_,_,_,_,k0,_,k2,k3,k4,_,hg,ht⟩:=V;change _=some (Value.int .i64 (C.cl p:Int))at k2;unfold cH at h0;have hi:=L.i;have ek:=L.k;have Of:=L.al;have hm:=ai4 p (show 0<C.aj by omega);refine bM ?_;refine zf 12 ?_;refine bE ?_;refine zl CF (Av y.a y.ab C.aj (C.n*C.aj) nb) .nil (λ_ le _=>In.mono h6 le) ?_;refine bz ?_;refine cO ?_;refine bA ?_;refine aw ?_;refine gT false mix ?_;refine bM ?_;refine Ti (Qu) ?_;refine cC ?_;refine av ?_;refine Li (Rm) ?_;refine bA ?_;refine aw ?_;refine gT false mix ?_;refine gz ?_;refine aw ?_;refine gT false mix ?_;refine bA ?_;refine Ti (Rm) ?_;refine bA ?_;refine zf 59 ?_ (e:=by exact(by rw[Of];rfl));refine bA ?_;refine Ti (Qu) ?_;refine dm ?_;refine cO ?_ (e:=by exact decide_eq_false (by unfold Cs.ix at ek;omega));refine bA ?_;refine aw ?_;refine gT false mix ?_;refine bz ?_;refine Ti (Qu) ?_;refine bE ?_;refine Rt3 [] results205 ?_;exact⟨rfl,rfl⟩
theorem J2 (b:Nat)(C:Cs)(y:Lc)(K:Ok C)(hy:gN C y)(p:Nat)(L:Live C p):
  aO aaO 138 [CM b,CO CJ (C.hd p)] (gP (mU b C y)) []
   (λv H=>v= .tuple #[.pointer (some ⟨y.pb,C.pn p*7,none⟩),CO CN (C.ix p),CO CN p, .bool true]/\H= []):=by
 obtain⟨n1,n2,n3,n4,n5,n6⟩:=bV K L.toAt;have nb:=fO K.toFix;have hg:=Live.xC K L.toAt;refine ag func138 rfl ntmps138 rfl ?_;intro F ao;obtain⟨x,gb,tb,⟨h0,_,h2,_,h6,h7⟩,V,kz⟩:=Wz K hy ao L.toAt;obtain⟨_,_,_,_,k0,_,k2,k3,k4,_,hgn,ht⟩:=V;unfold cH at h0;have ek:=L.k;have kt:=BQ L.tk;have kg:=ow (tD ek);refine dm ?_;refine Li ((Im (hz:=aiQ n5))) ?_;rw[n1];refine bR ?_;refine zf 17 ?_;refine bE ?_;refine zl CF (Av y.a y.ab C.aj (C.n*C.aj) nb) .nil (λ_ le _=>In.mono h6 le) ?_;refine Li (Qu (q:=8)) ?_;refine bm ?_;refine cO ?_;refine dB ?_;rw[show(((p/8+1:Nat):Int)-1)*8=(p:Int) by omega];refine zl CF (EO b C y K hy p L.toAt) .nil (λ_ le _=>bS ao le) ?_;refine gz ?_;refine zf 41 ?_ (e:=by rfl);refine bM ?_;refine zf 51 ?_ (e:=by rfl);refine dm ?_;refine Li ((Sr 32 (z:=((C.gen p:Nat):Int)) (hz:=by rw[ahJ,n2]))) ?_;refine bm ?_;refine cO ?_ (e:=by exact(by rw[decide_eq_true rfl];rfl));refine dB ?_;refine Rt4 [] results138 ?_;exact⟨rfl,rfl⟩
theorem vG (b:Nat)(C:Cs)(K:Ok C)(p:Nat)(L:Live C p):
  aO aaO 90 [CM b,CO CJ (C.hd p)] (In (Cl b C)) [] (λv H=>v= .tuple #[CO CN p,CO CN (C.cl p),CO CN 0]/\H= []):=by
 refine mM λy hy=> ?_;refine ag func90 rfl ntmps90 rfl ?_;intro F ao;obtain⟨x,gb,tb,⟨h0,_,h2,_,h6,h7⟩,V,kz⟩:=Wz K hy ao L.toAt;obtain⟨_,_,_,_,k0,_,k2,k3,k4,_,hgn,ht⟩:=V;change _=some (Value.int .i64 (C.cl p:Int))at k2;refine dm ?_;refine zl CF (J2 b C y K hy p L) .nil (λ_ le _=>bS ao le) ?_;refine sT ?_;refine aw ?_;refine gT false mix ?_;refine bM ?_;refine Rt3 [] results90 ?_;exact⟨rfl,rfl⟩
theorem ZP (b:Nat)(C:Cs)(K:Ok C)(p:Nat)(L:Live C p):
  aO aaO 140 [CM b,CO CN p] (In (Cl b C)) [] (λv H=>v= .tuple #[CO CJ (C.hd p), .bool true]/\H= []):=by
 refine mM λy hy=> ?_;have nb:=fO K.toFix;obtain⟨_,_,_,_,_,_,_,n8⟩:=L.toAt.bn K;refine ag func140 rfl ntmps140 rfl ?_;intro F ao;obtain⟨x,gb,tb,⟨h0,_,h2,_,h6,h7⟩,V,kz⟩:=Wz K hy ao L.toAt;obtain⟨_,_,_,_,k0,_,k2,k3,k4,_,hgn,ht⟩:=V;have ek:=L.k;have kt:=BQ L.tk;have kg:=ow (tD ek);refine bR ?_;refine zl CF (EO b C y K hy p L.toAt) .nil (λ_ le _=>bS ao le) ?_;refine gz ?_;refine zf 18 ?_ (e:=by rfl);refine cC ?_;refine bA ?_;refine zl CF (vg p (C.gen p) (by omega) (Live.xC K L.toAt)) .nil CI ?_;refine bm ?_;refine jE [] results140 ?_;exact⟨rfl,rfl⟩
theorem xy{α:Type}(f:α->Nat)(h:∀x,f x<=1):∀l:List α,(l.map f).sum<=l.length
 | []=>aa0 _
 |x::l=>by
  have:=xy f h l;have:=h x;simp only[aaX,aa8,afn];omega
theorem Cs.Ok.le{C:Cs}(K:Ok C):C.spare<=C.n/\∀c,c<C.ae.length->(C.rw c).fZ<=C.n/\(C.rw c).pgs<=C.n:=by
 have h:∀f:Pg->Nat,(∀x,f x<=1)->C.zI f<=C.n:=λf hf=>by
  have:=xy f hf C.bc;rw[K.pl]at this;exact this
 refine⟨by rw[K.sp];exact h _ λx=>by unfold y9;split<;>omega,λc hc=>⟨by rw[K.fs c hc];exact h _ λx=>by unfold yT;split<;>omega,by rw[K.fp c hc];exact h _ λx=>by unfold uu;split<;>omega⟩⟩
structure Cvr (C:Cs)(y:Lc)(c:Nat)(h:Hp)(x:FW):Prop where
 x1:y.rl[c]?=some x
 e:x.r=C.rw c
 k0:(y.rl.flatMap dZ)[c*4]?=some (.slice x.a (C.rw c).free.length x.c)
 k1:(y.rl.flatMap dZ)[c*4+1]?=some (CO CN ((C.rw c).dL))
 k2:(y.rl.flatMap dZ)[c*4+2]?=some (CO CN ((C.rw c).pgs))
 k3:(y.rl.flatMap dZ)[c*4+3]?=some (CO CN ((C.rw c).fZ))
 f:gg h x.a (aA (C.rw c).free)
theorem DI{b:Nat}{C:Cs}{h:Hp}(K:Cs.Ok C){y:Lc}(hy:gN C y)(hi:gP (mU b C y) h){c:Nat}(hc:c<C.ae.length):∃x,Cvr C y c h x:=by
 obtain⟨x,x1,x2⟩:=xI K hy hc;have q:∀j v,(dZ x)[j]?=some v->(y.rl.flatMap dZ)[c*4+j]?=some v:=λj v hv=>bo cz x1 hv;obtain⟨_,_,_,_,_,h5,_⟩:=hi;have g1:=bP (xR h5 (aaT x1));rw[x2]at g1;refine⟨x,x1,x2, ?_, ?_, ?_, ?_,g1⟩
 ·have:=q 0 _ rfl;rw[x2]at this;exact this
 ·have:=q 1 _ rfl;rw[x2]at this;exact this
 ·have:=q 2 _ rfl;rw[x2]at this;exact this
 have:=q 3 _ rfl;rw[x2]at this;exact this
def VV (C:Cs)(c:Int):Bool:=decide (0<=c/\c<(C.ae.length:Int))
def ofM (C:Cs)(c:Int)(f:Nat->Nat):Nat:=if 0<=c/\c<(C.ae.length:Int)then f c.toNat else 0
theorem zQ (b:Nat)(C:Cs)(y:Lc)(K:Ok C)(c:Int):aO aaO 114 [CM b,CO CN c] (gP (mU b C y)) [] (λv H=>v= .bool (VV C c)/\H= []):=by
 refine ag func114 rfl ntmps114 rfl ?_;rintro F ⟨h0,_⟩;unfold cH at h0;refine bR ?_;refine br (t:=7) rfl ?_ ?_
 ·intro h
  replace h:=aS h;refine bW ?_;refine Rt [] results114 ?_;refine⟨?_,rfl⟩;unfold VV
  congr 2
  simp[h]
 intro h;replace h:=aS h;refine bW ?_;refine Rt [] results114 ?_;refine⟨?_,rfl⟩;unfold VV;rw[CG]
theorem mA (b:Nat)(C:Cs):aO aaO 69 [CM b] (In (Cl b C)) [] (λv H=>v=CO CN C.ae.length/\H= []):=by
 refine mM λy hy=> ?_;refine ag func69 rfl ntmps69 rfl ?_;rintro F ⟨h0,_⟩;unfold cH at h0;refine dB ?_;refine Rt [] results69 ?_;exact⟨rfl,rfl⟩
theorem akL (b:Nat)(C:Cs):aO aaO 197 [CM b] (In (Cl b C)) [] (λv H=>v=CO CN C.spare/\H= []):=by
 refine mM λy hy=> ?_;refine ag func197 rfl ntmps197 rfl ?_;rintro F ⟨h0,_⟩;unfold cH at h0;refine bW ?_;refine Rt [] results197 ?_;exact⟨rfl,rfl⟩
theorem AL (b:Nat)(C:Cs):aO aaO 108 [CM b] (In (Cl b C)) [] (λv H=>v= .agg (jN C.cfg).toArray/\H= []):=by
 refine mM λy hy=> ?_;have hc:jN C.cfg= [CO CN C.aj,CO CN C.n,CO CN C.cfg.fac,CO CN C.cfg.bj,CO CN C.cfg.lim,CO CN C.cfg.hot,CO CN C.cfg.warm]:=by
  unfold jN;rw[hy.aj,hy.pgs]
 rw[hc];refine ag func108 rfl ntmps108 rfl ?_;rintro F ⟨h0,_⟩;unfold cH at h0;refine av ?_;refine Lp (oA kj λb1=> ?_);refine cA ?_;refine FX [] pM results108 ?_;exact⟨rfl,rfl⟩
theorem Vs (b:Nat)(C:Cs)(y:Lc):aO aaO 211 [CM b] (gP (mU b C y)) [] (λv H=>v=CM y.a/\H= []):=by
 refine ag func211 rfl ntmps211 rfl ?_;rintro F ⟨h0,_⟩;unfold cH at h0;refine bW ?_;refine Rt [] results211 ?_;exact⟨rfl,rfl⟩
theorem qW (b:Nat)(C:Cs)(K:Ok C)(c:Int):aO aaO 71 [CM b,CO CN c] (In (Cl b C)) [] (λv H=>v=CO CN (ofM C c λi=>C.sz i:Nat)/\H= []):=by
 refine mM λy hy=> ?_;refine ag func71 rfl ntmps71 rfl ?_;intro F ao;have h0:=ao.1;have h4:=ao.2.2.2.2.1;unfold cH at h0;refine bR ?_;refine zl CF (zQ b C y K c) .nil (λ_ le _=>bS ao le) ?_;unfold ofM VV;refine bA ?_;refine aE rfl ?_ ?_
 ·intro h
  replace h:=aS h;refine bE ?_;refine Rt [] results71 ?_;refine⟨?_,rfl⟩;rw[if_neg h];rfl
 intro h;replace h:=aS h;obtain⟨i,rfl⟩:∃i:Nat,c=(i:Int):=⟨c.toNat,by omega⟩;have hi:i<C.ae.length:=by omega
 obtain⟨x,_,_,k0,k1,k2,k3,_⟩:=DI K hy ao hi;have kz:=gr (bP ao.2.1) (eB (mK hi));refine gz ?_;refine Rt [] results71 ?_;refine⟨?_,rfl⟩;rw[if_pos h];rfl
theorem AN (b:Nat)(C:Cs)(K:Ok C)(c:Int):aO aaO 65 [CM b,CO CN c] (In (Cl b C)) [] (λv H=>v=CO CN (ofM C c λi=>(C.rw i).pgs:Nat)/\H= []):=by
 refine mM λy hy=> ?_;refine ag func65 rfl ntmps65 rfl ?_;intro F ao;have h0:=ao.1;have h4:=ao.2.2.2.2.1;unfold cH at h0;refine bR ?_;refine zl CF (zQ b C y K c) .nil (λ_ le _=>bS ao le) ?_;unfold ofM VV;refine bA ?_;refine aE rfl ?_ ?_
 ·intro h
  replace h:=aS h;refine bE ?_;refine Rt [] results65 ?_;refine⟨?_,rfl⟩;rw[if_neg h];rfl
 intro h;replace h:=aS h;obtain⟨i,rfl⟩:∃i:Nat,c=(i:Int):=⟨c.toNat,by omega⟩;have hi:i<C.ae.length:=by omega
 obtain⟨x,_,_,k0,k1,k2,k3,_⟩:=DI K hy ao hi;have kz:=gr (bP ao.2.1) (eB (mK hi));refine fq ?_;refine Rt [] results65 ?_;refine⟨?_,rfl⟩;rw[if_pos h];rfl
theorem NV (b:Nat)(C:Cs)(K:Ok C)(c:Int):aO aaO 66 [CM b,CO CN c] (In (Cl b C)) [] (λv H=>v=CO CN (ofM C c λi=>(C.rw i).dL:Nat)/\H= []):=by
 refine mM λy hy=> ?_;refine ag func66 rfl ntmps66 rfl ?_;intro F ao;have h0:=ao.1;have h4:=ao.2.2.2.2.1;unfold cH at h0;refine bR ?_;refine zl CF (zQ b C y K c) .nil (λ_ le _=>bS ao le) ?_;unfold ofM VV;refine bA ?_;refine aE rfl ?_ ?_
 ·intro h
  replace h:=aS h;refine bE ?_;refine Rt [] results66 ?_;refine⟨?_,rfl⟩;rw[if_neg h];rfl
 intro h;replace h:=aS h;obtain⟨i,rfl⟩:∃i:Nat,c=(i:Int):=⟨c.toNat,by omega⟩;have hi:i<C.ae.length:=by omega
 obtain⟨x,_,_,k0,k1,k2,k3,_⟩:=DI K hy ao hi;have kz:=gr (bP ao.2.1) (eB (mK hi));refine fq ?_;refine Rt [] results66 ?_;refine⟨?_,rfl⟩;rw[if_pos h];rfl
theorem ET (b:Nat)(C:Cs)(K:Ok C)(c:Int):aO aaO 199 [CM b,CO CN c] (In (Cl b C)) [] (λv H=>v=CO CN (ofM C c λi=>(C.rw i).free.length:Nat)/\H= []):=by
 refine mM λy hy=> ?_;refine ag func199 rfl ntmps199 rfl ?_;intro F ao;have h0:=ao.1;have h4:=ao.2.2.2.2.1;unfold cH at h0;refine bR ?_;refine zl CF (zQ b C y K c) .nil (λ_ le _=>bS ao le) ?_;unfold ofM VV;refine bA ?_;refine aE rfl ?_ ?_
 ·intro h
  replace h:=aS h;refine bE ?_;refine Rt [] results199 ?_;refine⟨?_,rfl⟩;rw[if_neg h];rfl
 intro h;replace h:=aS h;obtain⟨i,rfl⟩:∃i:Nat,c=(i:Int):=⟨c.toNat,by omega⟩;have hi:i<C.ae.length:=by omega
 obtain⟨x,_,_,k0,k1,k2,k3,_⟩:=DI K hy ao hi;have kz:=gr (bP ao.2.1) (eB (mK hi));refine mF ?_;refine Rt [] results199 ?_;refine⟨?_,rfl⟩;rw[if_pos h];rfl
theorem NW (b:Nat)(C:Cs)(K:Ok C)(c:Int):aO aaO 72 [CM b,CO CN c] (In (Cl b C)) [] (λv H=>v=CO CN (ofM C c λi=>((C.rw i).fZ+C.spare)*(C.aj/C.sz i):Nat)/\H= []):=by
 refine mM λy hy=> ?_;obtain⟨l1,l2⟩:=K.le;have f1:=K.toFix.p1;have f2:=K.toFix.n1;refine ag func72 rfl ntmps72 rfl ?_;intro F ao;have h0:=ao.1;have h4:=ao.2.2.2.2.1;unfold cH at h0;refine bR ?_;refine zl CF (zQ b C y K c) .nil (λ_ le _=>bS ao le) ?_;unfold ofM VV;refine bA ?_;refine aE rfl ?_ ?_
 ·intro h
  replace h:=aS h;refine bE ?_;refine Rt [] results72 ?_;refine⟨?_,rfl⟩;rw[if_neg h];rfl
 intro h;replace h:=aS h;obtain⟨i,rfl⟩:∃i:Nat,c=(i:Int):=⟨c.toNat,by omega⟩;have hi:i<C.ae.length:=by omega
 obtain⟨x,_,_,k0,k1,k2,k3,_⟩:=DI K hy ao hi;have kz:=gr (bP ao.2.1) (eB (mK hi));obtain⟨l3,l4⟩:=l2 i hi;have hzs:=K.toFix.sz hi;have hq:((C.rw i).fZ+C.spare)*(C.aj/C.sz i)<=2048*1048576:=afG (by omega) (ai5 (afP _ _) f1);refine bA ?_;refine aw ?_;refine gT false mix ?_;refine dB ?_;refine Ti (AdN) ?_;refine dB ?_;refine Ti (Qu) ?_;refine Ti (Zu) ?_;refine bz ?_;refine Rt [] results72 ?_;refine⟨?_,rfl⟩;rw[if_pos h];rfl
theorem ady (b:Nat)(C:Cs)(K:Ok C)(n:Nat)(hn:1<=n):aO aaO 182 [CM b,CO CN n] (In (Cl b C)) []
  (λv H=>v=(match C.ae.findIdx? λz=>decide (n<=z)with
   |some c=> .tuple #[CO CN c,CO CN 0]
   |none=> .tuple #[CO CN 0,CO CN 6])/\H= []):=by
 refine mM λy hy=> ?_;have l1:=K.toFix.l1;refine ag func182 rfl ntmps182 rfl ?_;intro F ao;have h0:=ao.1;unfold cH at h0;refine cA ?_;refine cO ?_;refine dB ?_;refine Lo (ι:=Nat) [16,17,18,19,6,7,20,21,22,23,4,5,24,15] (λk=>k<=C.ae.length/\∀j,j<k->C.sz j<n) (λk=> [(15,CO CN k)]) (λk=> []) (λk=>C.ae.length-k) (0) ⟨afk _,λj hj=>absurd hj (aiY j)⟩ ?_;rintro k ⟨VJ,rp⟩;refine bz ?_;refine aw ?_;refine aE rfl ?_ ?_
 ·intro hk
  replace hk:=aS hk;have cL:k<C.ae.length:=by omega
  have ks:=mK cL;have kz:=gr (bP ao.2.1) (eB ks);refine rj ?_;refine aE rfl ?_ ?_
  ·intro hq
   replace hq:=aS hq;refine bW ?_;refine jE [] results182 ?_;refine⟨?_,rfl⟩;have:C.ae.findIdx? (λz=>decide (n<=z))=some k:=by
    rw[abc];obtain⟨h1,h2⟩:=aaR.1 ks;refine⟨h1,by rw[h2];simp;omega,λj hj=> ?_⟩;have h3:=rp j hj;obtain⟨h4,h5⟩:=aaR.1 (mK (C:=C) (c:=j) (by omega));rw[h5];simp;omega
   rw[this]
  intro hq;replace hq:=aS hq;refine bG ?_;refine aF ?_;refine Ro (k+1) (⟨by omega,λj hj=> ?_⟩) (by omega);by_cases Ob:j=k
  ·subst Ob;omega
  exact rp j (by omega)
 intro hk;replace hk:=aS hk;obtain rfl:k=C.ae.length:=by omega
 refine bM ?_;refine jE [] results182 ?_;refine⟨?_,rfl⟩;have:C.ae.findIdx? (λz=>decide (n<=z))=none:=by
  rw[af4];intro z hz;obtain⟨j,hj⟩:=agd hz;have hjl:=(aaR.1 hj).1;have h1:=rp j hjl;rw[mK hjl]at hj;cases hj;simp;omega
 rw[this]
theorem nF (b:Nat)(C:Cs)(y:Lc)(K:Ok C)(hy:gN C y)(i:Nat)(hi:i<C.n):aO aaO 256 [CM b,CO CN i] (gP (mU b C y)) []
  (λv H=>v= .pointer (if(C.pg i).own=true then some ⟨y.pb,i*7,none⟩else none)/\H= []):=by
 have f2:=K.toFix.n1;obtain⟨x,x1,x2,x3⟩:=tF K hy hi;have k0:(y.pl.flatMap dD)[i*7]?=some (.bool (C.pg i).own):=by
  have:=bo bU x1 (j:=0) rfl;rw[x2]at this;exact this
 refine ag func256 rfl ntmps256 rfl ?_;intro F ao;have h0:=ao.1;have h2:=ao.2.2.1;unfold cH at h0;refine dm ?_;refine zf 7 ?_;refine cA ?_;refine zf 16 ?_;refine bW ?_;refine aE rfl ?_ ?_
 ·intro h
  replace h:=aS h;refine bE ?_;refine Rt [] results256 ?_;refine⟨?_,rfl⟩;rw[if_neg (by rw[h];simp)]
 intro h;replace h:=aS h;refine dB ?_;refine Rt [] results256 ?_;refine⟨?_,rfl⟩;rw[if_pos (by simpa using h)]
theorem Td (b:Nat)(C:Cs)(K:Ok C)(i:Nat)(hi:i<C.n):aO aaO 254 [CM b,CO CN i] (In (Cl b C)) []
  (λv H=>v=CO CN (if(C.pg i).own=true then((C.pg i).cl:Int)else-1)/\H= []):=by
 refine mM λy hy=> ?_;refine ag func254 rfl ntmps254 rfl ?_;intro F ao;have h2:=ao.2.2.1;refine bG ?_;refine zl CF (nF b C y K hy i hi) .nil (λ_ le _=>bS ao le) ?_;by_cases ho:(C.pg i).own=true
 ·rw[if_pos ho,if_pos ho]
  obtain⟨x,gb,tb,_,_,_,_,_,_,k2,_⟩:=IW K hy ao hi ho;refine sT ?_;refine Rt [] results254 ?_;exact⟨rfl,rfl⟩
 rw[if_neg ho,if_neg ho];refine gz ?_;refine Rt [] results254 ?_;exact⟨rfl,rfl⟩
theorem Yr (b:Nat)(C:Cs)(K:Ok C)(i:Nat)(hi:i<C.n)(ho:(C.pg i).own=true):aO aaO 255 [CM b,CO CN i] (In (Cl b C)) []
  (λv H=>v=CO CN ((C.pg i).held)/\H= []):=by
 refine mM λy hy=> ?_;refine ag func255 rfl ntmps255 rfl ?_;intro F ao;have h2:=ao.2.2.1;refine bG ?_;refine zl CF (nF b C y K hy i hi) .nil (λ_ le _=>bS ao le) ?_;rw[if_pos ho];obtain⟨x,gb,tb,_,_,_,_,_,_,k2,_,_,k5,_⟩:=IW K hy ao hi ho;refine sT ?_;refine Rt [] results255 ?_;exact⟨rfl,rfl⟩
theorem U0 (b:Nat)(C:Cs)(K:Ok C)(i:Nat)(hi:i<C.n)(ho:(C.pg i).own=true):aO aaO 202 [CM b,CO CN i] (In (Cl b C)) []
  (λv H=>v=(match(C.pg i).tk.findIdx? id with
   |some k=> .tuple #[CO CJ (C.hd (C.pA i k)), .bool true]
   |none=> .tuple #[CO CJ 0, .bool false])/\H= []):=by
 refine mM λy hy=> ?_;have P:lA C (C.pg i):=K.pg _ (ey (by rw[K.pl];exact hi));have tl:=P.tl;have gl:=P.gl ho;have hc:=P.cl ho;have f1:=K.toFix.p1;have f2:=K.toFix.n1;have hzs:=K.toFix.sz hc;have hgl:(C.pg i).bd.length<=C.aj:=by rw[gl];exact afP _ _
 refine ag func202 rfl ntmps202 rfl ?_;intro F ao;have h0:=ao.1;have h2:=ao.2.2.1;unfold cH at h0;refine bR ?_;refine zl CF (nF b C y K hy i hi) .nil (λ_ le _=>bS ao le) ?_;rw[if_pos ho];obtain⟨x,gb,tb,_,_,_,_,_,_,k2,k3,k4,k5,hg,ht⟩:=IW K hy ao hi ho;have kz:=gr (bP ao.2.1) (eB (mK hc));refine cC ?_;refine Lo (ι:=Nat) [20,21,22,23,7,8,24,25,26,27,28,29,30,31,32,33,34,35,36,37,38,39,40,41,42,43,44,45,46,47,48,49,50,51,52,4,5,53,19] (λk=>k<=(C.pg i).bd.length/\∀j,j<k->(C.pg i).tk[j]?=some false) (λk=> [(19,CO CN k)]) (λk=> []) (λk=>(C.pg i).bd.length-k) (0) ⟨afk _,λj hj=>absurd hj (aiY j)⟩ ?_;rintro k ⟨VJ,rp⟩;refine bz ?_;refine aw ?_;refine aE rfl ?_ ?_
 ·intro hk
  replace hk:=aS hk;have cL:k<(C.pg i).bd.length:=by omega
  have et:(C.pg i).tk[k]?=some ((C.pg i).tk[k]'(by omega)):=aaQ _;generalize (C.pg i).tk[k]'(by omega)=t at et;have kt:=BQ et;obtain⟨m1,m2,m3⟩:=mh K hi ho cL;have kg:=ow (l:=(C.pg i).bd) (i:=k) (n:=C.gen (C.pA i k)) (by have:=tD (C:=C) (p:=C.pA i k) (by rw[m1,m2];exact cL);rw[m1,m2]at this;exact this);obtain⟨_,_,_,_,_,n6,n7,n8⟩:=m3.bn K;have nb:=fO K.toFix;have hgt:=Live.xC K m3;refine fq ?_;refine aE rfl ?_ ?_
  ·intro CR
   replace CR:=aS CR;obtain rfl:t=true:=CR;have q1:i*C.aj<=1024*1048576:=afG (by omega) f1;have q2:k*C.sz (C.pg i).cl<=1048576*1048576:=afG (by omega) (by omega);have e3:C.pA i k=i*C.aj+k*C.sz (C.pg i).cl:=rfl;refine aw ?_;refine gT false mix ?_;refine bG ?_;refine Ti (Zu) ?_;refine bW ?_;refine Ti (Zu) ?_;refine Ti (AdN) ?_;rw[<-e3];refine bR ?_;refine Tp (oC CF rfl rfl (vg (C.pA i k) (C.gen (C.pA i k)) (by omega) hgt) .nil CI ?_);rintro v H' ⟨rfl,rfl⟩;refine aX ?_;refine cA ?_;refine jE [] results202 ?_;refine⟨?_,rfl⟩;have:(C.pg i).tk.findIdx? id=some k:=by
    rw[abc];obtain⟨q1,q2⟩:=aaR.1 et;refine⟨q1,by rw[q2];rfl,λj hj=> ?_⟩;obtain⟨q3,q4⟩:=aaR.1 (rp j hj);rw[q4];simp
   rw[this];rfl
  intro CR;replace CR:=aS CR;obtain rfl:t=false:=CR;refine bG ?_;refine aF ?_;refine Ro (k+1) (⟨by omega,λj hj=> ?_⟩) (by omega);by_cases Ob:j=k
  ·subst Ob;exact et
  exact rp j (by omega)
 intro hk;replace hk:=aS hk;obtain rfl:k=(C.pg i).bd.length:=by omega
 refine bM ?_;refine jE [] results202 ?_;refine⟨?_,rfl⟩;have:(C.pg i).tk.findIdx? id=none:=by
  rw[af4];intro z hz;obtain⟨j,hj⟩:=agd hz;have hjl:=(aaR.1 hj).1;rw[rp j (by omega)]at hj;cases hj;rfl
 rw[this]
open Go Go.dG
theorem BX{α:Type}(f:α->Nat):∀{l:List α} {i:Nat} {x:α} (_:l[i]?=some x) (y:α),((l.set i y).map f).sum+f x=(l.map f).sum+f y
 | [],i,x,h,y=>by simp at h
 |z::l,0,x,h,y=>by
  simp only[ajj,Option.some.injEq]at h;subst h;simp only[List.set_cons_zero,aaX,aa8];omega
 |z::l,i+1,x,h,y=>by
  simp only[agk]at h;have:=BX f h y;simp only[List.set_cons_succ,aaX,aa8];omega
theorem jX{α:Type}(f:α->Nat):∀{l:List α} {i:Nat} {x:α},l[i]?=some x->f x<=(l.map f).sum
 | [],i,x,h=>by simp at h
 |z::l,0,x,h=>by
  simp only[ajj,Option.some.injEq]at h;subst h;simp only[aaX,aa8];omega
 |z::l,i+1,x,h=>by
  simp only[agk]at h;have:=jX f h;simp only[aaX,aa8];omega
namespace Cs
def zN (C:Cs)(i:Nat)(x:Pg):Cs:={C with bc:=C.bc.set i x}
def ZF (C:Cs)(c:Nat)(r:Rw):Cs:={C with rows:=C.rows.set c r}
theorem Bq (C:Cs)(i j:Nat)(x:Pg)(h:i<C.bc.length):(C.zN i x).pg j=if j=i then x else C.pg j:=by
 unfold Cs.pg zN;rw[aaP,aaP];by_cases e:j=i
 ·subst e;rw[if_pos rfl,aaU h];rfl
 rw[if_neg e,afA (λq=>e q.symm)]
theorem xz (C:Cs)(c d:Nat)(r:Rw)(h:c<C.rows.length):(C.ZF c r).rw d=if d=c then r else C.rw d:=by
 unfold Cs.rw ZF;rw[aaP,aaP];by_cases e:d=c
 ·subst e;rw[if_pos rfl,aaU h];rfl
 rw[if_neg e,afA (λq=>e q.symm)]
theorem YU{C:Cs}{i:Nat}(h:i<C.bc.length)(f:Pg->Nat)(x:Pg):(C.zN i x).zI f+f (C.pg i)=C.zI f+f x:=BX f (lT h) x
structure OX (x y:Pg):Prop where
 own:y.own=x.own
 cl:y.cl=x.cl
 gl:y.bd.length=x.bd.length
structure C8 (C D:Cs):Prop where
 aj:D.aj=C.aj
 n:D.n=C.n
 ae:D.ae=C.ae
 pg:∀i,OX (C.pg i) (D.pg i)
theorem C8.sz{C D:Cs}(S:C8 C D)(c:Nat):D.sz c=C.sz c:=by unfold Cs.sz;rw[S.ae]
theorem C8.pn{C D:Cs}(S:C8 C D)(p:Nat):D.pn p=C.pn p:=by unfold Cs.pn;rw[S.aj]
theorem C8.cl{C D:Cs}(S:C8 C D)(p:Nat):D.cl p=C.cl p:=by unfold Cs.cl;rw[S.pn,(S.pg _).cl]
theorem C8.ix{C D:Cs}(S:C8 C D)(p:Nat):D.ix p=C.ix p:=by unfold Cs.ix;rw[S.cl,S.sz,S.aj]
theorem C8.at{C D:Cs}(S:C8 C D){p:Nat}:At D p↔At C p:=by
 constructor
 ·intro h;exact⟨by rw[<-S.pn,<-S.n];exact h.i,by rw[<-S.pn,<-(S.pg _).own];exact h.own,by rw[<-S.aj,<-S.cl,<-S.sz];exact h.al,by rw[<-S.ix,<-S.pn,<-(S.pg _).gl];exact h.k⟩
 intro h;exact⟨by rw[S.pn,S.n];exact h.i,by rw[S.pn,(S.pg _).own];exact h.own,by rw[S.aj,S.cl,S.sz];exact h.al,by rw[S.ix,S.pn,(S.pg _).gl];exact h.k⟩
theorem W7{C:Cs}{i:Nat}(h:i<C.bc.length){x:Pg}(l:OX (C.pg i) x):C8 C (C.zN i x):=⟨rfl,rfl,rfl,λj=>by
 rw[Bq C i j x h]
 split
 ·rename_i e;subst e;exact l
 exact⟨rfl,rfl,rfl⟩⟩
def put (C:Cs)(i:Nat)(x:Pg)(c:Nat)(r:Rw)(sp:Nat)(A:By):Cs:={C with bc:=C.bc.set i x,rows:=C.rows.set c r,spare:=sp,A:=A}
def iJ (C:Cs)(c p:Nat):Cs:=
 C.put (C.pn p) {C.pg (C.pn p)with tk:=(C.pg (C.pn p)).tk.set (C.ix p) true,held:=(C.pg (C.pn p)).held+1} c {C.rw c with free:=(C.rw c).free.dropLast,dL:=(C.rw c).dL+1} C.spare
  (wr (lay C.A p (aaS 56 0)) (p+12) 4 (C.gen p))
def bq (C:Cs)(p:Nat):Cs:=
 C.put (C.pn p) {C.pg (C.pn p)with tk:=(C.pg (C.pn p)).tk.set (C.ix p) false,held:=(C.pg (C.pn p)).held-1,bd:=(C.pg (C.pn p)).bd.set (C.ix p) ((C.gen p+1) % 4294967296)} (C.cl p)
  {C.rw (C.cl p)with free:=if(C.pg (C.pn p)).lv=true then(C.rw (C.cl p)).free else(C.rw (C.cl p)).free++ [p],dL:=(C.rw (C.cl p)).dL-1} C.spare C.A
def iW (C:Cs)(i c:Nat)(tk:List Bool):List Nat:=(((abb tk.length).reverse.filter λk=>tk[k]?==some false).map λk=>i*C.aj+k*C.sz c)
def Db (l:List (Nat×Nat))(k:Nat):Nat:=((l.find? λe=>decide (e.1=k)).map (·.2)).getD 0
def fF (C:Cs)(i c:Nat):Pg:=
 {C.pg i with own:=true,cl:=c,bd:=(abb (C.aj/C.sz c)).map λk=>Db (C.pg i).old (k*C.sz c),tk:=aaS (C.aj/C.sz c) false}
def ct (C:Cs)(i c:Nat):Cs:=
 C.put i (C.fF i c) c {C.rw c with pgs:=(C.rw c).pgs+1,fZ:=(C.rw c).fZ+1,free:=(C.rw c).free++C.iW i c (aaS (C.aj/C.sz c) false)} (C.spare-1) C.A
def eJ (C:Cs)(i:Nat):Cs:=
 C.put i {C.pg i with lv:=true} (C.pg i).cl {C.rw (C.pg i).cl with fZ:=(C.rw (C.pg i).cl).fZ-1,free:=(C.rw (C.pg i).cl).free.filter λp=>decide (C.pn p≠i)} C.spare C.A
def iu (C:Cs)(i:Nat):Cs:=
 C.put i {C.pg i with lv:=false} (C.pg i).cl {C.rw (C.pg i).cl with fZ:=(C.rw (C.pg i).cl).fZ+1,free:=(C.rw (C.pg i).cl).free++C.iW i (C.pg i).cl (C.pg i).tk} C.spare C.A
def rV (l:List (Nat×Nat))(k g:Nat):List (Nat×Nat):=if k∈l.map (·.1)then l.map (λp=>if p.1=k then(k,g)else p)else l++ [(k,g)]
def rX (C:Cs)(x:Pg):List (Nat×Nat):=(abb x.bd.length).foldl (λl k=>rV l (k*C.sz x.cl) (x.bd.getD k 0)) x.old
def bw (C:Cs)(i:Nat):Cs:=
 C.put i {Pg.no with old:=C.rX (C.pg i)} (C.pg i).cl {C.rw (C.pg i).cl with pgs:=(C.rw (C.pg i).cl).pgs-1} (C.spare+1) C.A
def gA (C:Cs):Option Nat:=C.bc.findIdx? λx=> !x.own
def eD (C:Cs)(c:Nat):Option (Nat×Cs):=
 match(C.rw c).free.getLast? with
 |some p=>some (p,C.iJ c p)
 |none=>match C.gA with
  |none=>none
  |some i=>match((C.ct i c).rw c).free.getLast? with
   |some p=>some (p,(C.ct i c).iJ c p)
   |none=>none
theorem RK{l:List Bool}{k:Nat}{b:Bool}(h:l[k]?=some b)(c:Bool):((l.set k c).map bN).sum+bN b=(l.map bN).sum+bN c:=BX bN h c
theorem H2{C:Cs}{i:Nat}{x z:Pg}(h:z∈(C.zN i x).bc):z=x\/z∈C.bc:=by
 unfold zN at h;exact(afM h).symm
theorem mX{C:Cs}{i c sp:Nat}{x:Pg}{r:Rw}{A:By}(h:i<C.bc.length)(j:Nat):(C.put i x c r sp A).pg j=if j=i then x else C.pg j:=Bq C i j x h
theorem acX{C:Cs}{i c sp:Nat}{x:Pg}{r:Rw}{A:By}(h:c<C.rows.length)(d:Nat):(C.put i x c r sp A).rw d=if d=c then r else C.rw d:=xz C c d r h
theorem wK{C:Cs}{i c sp:Nat}{x:Pg}{r:Rw}{A:By}(h:i<C.bc.length)(l:OX (C.pg i) x):C8 C (C.put i x c r sp A):=⟨rfl,rfl,rfl,(W7 h l).pg⟩
structure Nfr (C:Cs)(x:Pg)(c q:Nat):Prop where
 own:x.own=true
 al:q % C.aj % C.sz c=0
 tk:x.tk[q % C.aj/C.sz c]?=some false
 lv:x.lv=false
theorem lA.put{C:Cs}{i c sp:Nat}{y:Pg}{r:Rw}{A:By}{x:Pg}(P:lA C x):lA (C.put i y c r sp A) x:=⟨P.cl,P.gl,P.tl,P.Zn,P.VT,P.nd,P.held,P.no⟩
theorem JZ{C:Cs}(K:Ok C){d q:Nat}(h:C.pn q<C.n):CV C d q↔C.cl q=d/\Nfr C (C.pg (C.pn q)) d q:=by
 constructor
 ·intro G
  have c:=G.cl;exact⟨c,G.own,by have:=G.al;rwa[c]at this,by have:=G.tk;unfold Cs.ix at this;rwa[c]at this,G.lv⟩
 rintro⟨rfl,G⟩;have P:=K.xq h;refine⟨⟨h,G.own,G.al, ?_⟩,rfl,G.tk,G.lv⟩;have:=(aaR.1 G.tk).1;rw[P.tl]at this;exact this
theorem uF{C:Cs}(K:Ok C){i c sp:Nat}{x:Pg}{r:Rw}{A:By}(hi:i<C.n)(hG:c<C.ae.length)(ho:(C.pg i).own=true->(C.pg i).cl=c)(hx:x.own=true->x.cl=c)(P:lA C x)(yR:r.free.Nodup)
  (FD:∀q,q∈r.free↔(CV C c q/\C.pn q≠i)\/(C.pn q=i/\Nfr C x c q))
  (ht:r.dL+v7 c (C.pg i)=(C.rw c).dL+v7 c x) (hp:r.pgs+uu c (C.pg i)=(C.rw c).pgs+uu c x) (hs:r.fZ+yT c (C.pg i)=(C.rw c).fZ+yT c x) (VF:sp+y9 (C.pg i)=C.spare+y9 x):Ok (C.put i x c r sp A):=by
 have hpl:i<C.bc.length:=by rw[K.pl];exact hi
 have cR:c<C.rows.length:=by rw[K.rl];exact hG
 have iD:=mX (C:=C) (c:=c) (sp:=sp) (x:=x) (r:=r) (A:=A) hpl;have hrw:=acX (C:=C) (i:=i) (sp:=sp) (x:=x) (r:=r) (A:=A) cR;have Wv:∀f,(C.put i x c r sp A).zI f+f (C.pg i)=C.zI f+f x:=λf=>YU hpl f x;have hPg:∀z∈(C.put i x c r sp A).bc,lA (C.put i x c r sp A) z:=by
  intro z hz;rcases H2 (C:=C) hz with rfl|hz
  ·exact P.put
  exact(K.pg z hz).put
 have ahf:∀d q,CV (C.put i x c r sp A) d q↔(CV C d q/\C.pn q≠i)\/(d=c/\C.pn q=i/\Nfr C x c q):=by
  intro d q;have IA:(C.put i x c r sp A).pn q=C.pn q:=rfl;by_cases e:C.pn q=i
  ·have uB:(C.put i x c r sp A).cl q=x.cl:=by unfold Cs.cl;rw[IA,iD,if_pos e]
   have FC:(C.put i x c r sp A).ix q=q % C.aj/C.sz x.cl:=by unfold Cs.ix;rw[uB];rfl
   constructor
   ·intro G
    have g1:=G.own;have g2:=G.tk;have g3:=G.lv;have g4:=G.al;have g5:=G.cl;rw[IA,iD,if_pos e]at g1 g2 g3;rw[uB]at g4 g5;rw[FC]at g2;have hc:=hx g1;rw[hc]at g2 g4 g5;exact .inr ⟨g5.symm,e,g1,g4,g2,g3⟩
   rintro(⟨_,b⟩|⟨rfl,_,G⟩)
   ·exact absurd e b
   have hc:=hx G.own;refine⟨⟨by rw[IA,e];exact hi,by rw[IA,iD,if_pos e];exact G.own,by rw[uB,hc];exact G.al, ?_⟩,by rw[uB,hc], ?_,by rw[IA,iD,if_pos e];exact G.lv⟩
   ·rw[IA,iD,if_pos e,FC,hc,<-P.tl]
    exact(aaR.1 G.tk).1
   rw[IA,iD,if_pos e,FC,hc];exact G.tk
  have dE:(C.put i x c r sp A).pg (C.pn q)=C.pg (C.pn q):=by rw[iD,if_neg e]
  have uB:(C.put i x c r sp A).cl q=C.cl q:=by unfold Cs.cl;rw[IA,dE]
  have FC:(C.put i x c r sp A).ix q=C.ix q:=by unfold Cs.ix;rw[uB];rfl
  constructor
  ·intro G
   exact .inl ⟨⟨⟨G.i,by rw[<-dE];exact G.own,by rw[<-uB];exact G.al,by rw[<-FC,<-dE];exact G.k⟩,by rw[<-uB];exact G.cl,by rw[<-FC,<-dE];exact G.tk,by rw[<-dE];exact G.lv⟩,e⟩
  rintro(⟨G,_⟩|⟨_,b,_⟩)
  ·exact⟨⟨G.i,by rw[IA,dE];exact G.own,by rw[uB];exact G.al,by rw[FC,IA,dE];exact G.k⟩,by rw[uB];exact G.cl,by rw[FC,IA,dE];exact G.tk,by rw[IA,dE];exact G.lv⟩
  exact absurd b e
 refine⟨⟨K.p0,K.p1,K.p8,K.n0,K.n1,K.l0,K.l1,K.s0,by simp[put,K.pl],by simp[put,K.rl]⟩,hPg, ?_, ?_, ?_, ?_, ?_, ?_, ?_⟩
 ·intro d q hq
  rw[hrw]at hq;refine(ahf d q).2 ?_;by_cases e:d=c
  ·subst e
   rw[if_pos rfl]at hq;rcases(FD q).1 hq with h1|h1
   ·exact .inl h1
   exact .inr ⟨rfl,h1⟩
  rw[if_neg e]at hq;have G:=K.fr d q hq;refine .inl ⟨G,λe2=>e ?_⟩;have g1:=G.own;rw[e2]at g1;rw[<-G.cl,<-ho g1,<-e2];rfl
 ·intro d
  rw[hrw]
  split
  ·exact yR
  exact K.fn d
 ·intro d q G hd
  rw[hrw];rcases(ahf d q).1 G with⟨G1,h2⟩|⟨rfl,h1⟩
  ·split
   ·rename_i e;subst e;exact(FD q).2 (.inl ⟨G1,h2⟩)
   exact K.fa d q G1 hd
  rw[if_pos rfl];exact(FD q).2 (.inr h1)
 all_goals try intro d hd
 all_goals try (have h1:=Wv (v7 d);have h2:=K.ft d hd;have h3:=Wv (uu d);have h4:=K.fp d hd;have h5:=Wv (yT d);have h6:=K.fs d hd;rw[hrw])
 ·by_cases e:d=c
  ·subst e;rw[if_pos rfl];omega
  rw[if_neg e];have q1:v7 d (C.pg i)=0:=by unfold v7;rw[if_neg λq=>e (q.2.symm.trans (ho q.1))]
  have q2:v7 d x=0:=by unfold v7;rw[if_neg λq=>e (q.2.symm.trans (hx q.1))]
  omega
 ·by_cases e:d=c
  ·subst e;rw[if_pos rfl];omega
  rw[if_neg e];have q1:uu d (C.pg i)=0:=by unfold uu;rw[if_neg λq=>e (q.2.symm.trans (ho q.1))]
  have q2:uu d x=0:=by unfold uu;rw[if_neg λq=>e (q.2.symm.trans (hx q.1))]
  omega
 ·by_cases e:d=c
  ·subst e;rw[if_pos rfl];omega
  rw[if_neg e];have q1:yT d (C.pg i)=0:=by unfold yT;rw[if_neg λq=>e (q.2.1.symm.trans (ho q.1))]
  have q2:yT d x=0:=by unfold yT;rw[if_neg λq=>e (q.2.1.symm.trans (hx q.1))]
  omega
 have h1:=Wv y9;have h2:=K.sp;show sp=_;omega
theorem xm{C:Cs}(K:Ok C){p q:Nat}(L:At C p)(M:At C q)(e:C.pn q=C.pn p)(h:q≠p):C.ix q≠C.ix p:=λe2=>h (by rw[<-GA K M,<-GA K L,e,e2])
theorem xN{C:Cs}(K:Ok C){p c:Nat}(h:(C.rw c).free.getLast?=some p):Ok (C.iJ c p)/\C8 C (C.iJ c p)/\CV C c p:=by
 have hm:p∈(C.rw c).free:=List.mem_of_getLast? h;have F:=K.fr c p hm;have L:=F.toAt;have fN:(C.rw c).free≠ []:=List.ne_nil_of_mem hm;have qZ:(C.rw c).free=(C.rw c).free.dropLast++ [p]:=by
  have:=ajH fN;rw[af1 fN]at h;rw[Option.some.inj h]at this;exact this.symm
 have yR:=K.fn c;rw[qZ]at yR;rw[afL]at yR;have OB:p∉(C.rw c).free.dropLast:=λhq=>yR.2.2 p hq p (List.mem_singleton_self p) rfl;have P:=K.xq L.i;have hG:c<C.ae.length:=by rw[<-F.cl];exact(L.bn K).1
 have hs:=RK F.tk true;have hh:=P.held;rw[show bN false=0 from rfl,show bN true=1 from rfl]at hs;have fT:∀y:Pg,y.own=true->y.cl=c->v7 c y=y.held:=λy a b=>by unfold v7;rw[if_pos ⟨a,b⟩]
 have hl:OX (C.pg (C.pn p)) {C.pg (C.pn p)with tk:=(C.pg (C.pn p)).tk.set (C.ix p) true,held:=(C.pg (C.pn p)).held+1}:=⟨rfl,rfl,rfl⟩;refine⟨uF K L.i hG (λ_=>F.cl) (λ_=>F.cl) ⟨P.cl,P.gl,by simpa using P.tl,P.Zn,P.VT,P.nd,by dsimp only;omega,λh=>absurd (L.own.symm.trans h) (by simp)⟩ yR.1 (λq=> ?_) (by have q1:=fT (C.pg (C.pn p)) L.own F.cl;have q2:=fT {C.pg (C.pn p)with tk:=(C.pg (C.pn p)).tk.set (C.ix p) true,held:=(C.pg (C.pn p)).held+1} L.own F.cl;dsimp only at q1 q2⊢;omega) rfl rfl rfl,wK (by rw[K.pl];exact L.i) hl,F⟩;have wk:q∈(C.rw c).free↔CV C c q:=⟨K.fr c q,λG=>K.fa c q G hG⟩;have hq:q∈(C.rw c).free.dropLast↔CV C c q/\q≠p:=by
  rw[<-wk]
  constructor
  ·intro h1;exact⟨by rw[qZ];exact List.mem_append_left _ h1,λe=>OB (e▸h1)⟩
  rintro⟨h1,h2⟩;rw[qZ]at h1;exact(af3.1 h1).resolve_right λh3=>h2 (afq.1 h3)
 dsimp only;rw[hq];have FC:∀z,C.pn z=C.pn p->z % C.aj/C.sz c=C.ix z:=λz e=>by
  unfold Cs.ix Cs.cl;rw[e];have:=F.cl;unfold Cs.cl at this;rw[this]
 constructor
 ·rintro⟨G,fN⟩
  by_cases e:C.pn q=C.pn p
  ·have g2:=((JZ K G.i).1 G).2
   refine .inr ⟨e,L.own,g2.al, ?_,by rw[<-e];exact G.lv⟩;rw[FC q e];rw[afA (λz=>xm K L G.toAt e fN z.symm),<-e];exact G.tk
  exact .inl ⟨G,e⟩
 rintro(⟨G,e⟩|⟨e,N⟩)
 ·exact⟨G,λz=>e (by rw[z])⟩
 have t:=N.tk;rw[FC q e]at t;have fN:q≠p:=by
  rintro rfl;rw[aaU (aaR.1 F.tk).1]at t;cases t
 have hcq:C.cl q=c:=by unfold Cs.cl;rw[e];exact F.cl
 have a:At C q:=⟨by rw[e];exact L.i,by rw[e];exact L.own,by rw[hcq];exact N.al,by
  have:=(aaR.1 t).1;rw[aaY,P.tl]at this;rw[e];exact this⟩
 rw[afA (λz=>xm K L a e fN z.symm)]at t;exact⟨⟨a,hcq,by rw[e];exact t,by rw[e];exact N.lv⟩,fN⟩
theorem HZ{C:Cs}(F:Fix C){c:Nat}(hc:c<C.ae.length){i k:Nat}(hk:k<C.aj/C.sz c):C.pn (i*C.aj+k*C.sz c)=i/\(i*C.aj+k*C.sz c) % C.aj=k*C.sz c/\k*C.sz c % C.sz c=0/\k*C.sz c/C.sz c=k:=by
 obtain⟨h1,h2,h3⟩:=F.sz hc;have KH:=F.pos;have e3:k*C.sz c+C.sz c<=C.aj:=by
  have h4:=afz (C.sz c) (show k+1<=C.aj/C.sz c from hk);have h5:=ajq C.aj (C.sz c);rw[af0,agb]at h4;omega
 refine⟨?_, ?_,akl _ _,akc _ (by omega)⟩
 ·unfold Cs.pn
  rw[afS,akp KH,akk (by omega)];omega
 rw[afS,akq,afE (by omega)]
theorem qO{C:Cs}(F:Fix C){i c:Nat}(hc:c<C.ae.length){tk:List Bool}(ht:tk.length<=C.aj/C.sz c)(q:Nat):
  q∈C.iW i c tk↔C.pn q=i/\q % C.aj % C.sz c=0/\tk[q % C.aj/C.sz c]?=some false:=by
 unfold iW;rw[acA]
 constructor
 ·rintro⟨k,hk,rfl⟩
  rw[aba,agm,afu]at hk;obtain⟨a1,a2,a3,a4⟩:=HZ F hc (i:=i) (k:=k) (by omega);rw[a1,a2];refine⟨rfl,a3, ?_⟩;rw[a4];simpa using hk.2
 rintro⟨h1,h2,h3⟩;have hk:=(aaR.1 h3).1;refine⟨q % C.aj/C.sz c, ?_, ?_⟩
 ·rw[aba,agm,afu]
  exact⟨hk,by rw[h3];rfl⟩
 have e1:=agp q C.aj;have e2:=agp (q % C.aj) (C.sz c);unfold Cs.pn at h1;rw[h1]at e1;rw[afS]at e1 e2;omega
theorem AF{C:Cs}(F:Fix C){i c:Nat}(hc:c<C.ae.length)(tk:List Bool):(C.iW i c tk).Nodup:=by
 obtain⟨h1,_⟩:=F.sz hc;unfold iW;rw[List.Nodup,List.pairwise_map];have hr:((abb tk.length).reverse).Pairwise (λa b:Nat=>a≠b):=by
  rw[List.pairwise_reverse];exact agl.imp (λ{a b} h e=>h e.symm) (List.nodup_range (n:=tk.length))
 refine agl.imp (λ{a b} h e=> ?_) (agl.filter _ hr);have:a*C.sz c=b*C.sz c:=by omega
 exact h (Nat.eq_of_mul_eq_mul_right (by omega) this)
theorem BO{c:Nat}{y:Pg}(a:y.own=true)(b:y.cl=c):v7 c y=y.held:=by unfold v7;rw[if_pos ⟨a,b⟩]
theorem FC{C:Cs}{c i:Nat}(hc:(C.pg i).cl=c){z:Nat}(e:C.pn z=i):z % C.aj/C.sz c=C.ix z:=by
 unfold Cs.ix Cs.cl;rw[e,hc]
theorem XS{C:Cs}(K:Ok C){i:Nat}(hi:i<C.n)(ho:(C.pg i).own=true){x:Pg}(hl:x.tk.length=(C.pg i).tk.length){q:Nat}(e:C.pn q=i)(N:Nfr C x (C.pg i).cl q):At C q/\C.cl q=(C.pg i).cl/\x.tk[C.ix q]?=some false:=by
 have t:=N.tk;rw[FC rfl e]at t;have hcq:C.cl q=(C.pg i).cl:=by unfold Cs.cl;rw[e]
 have P:lA C (C.pg i):=K.pg _ (ey (by rw[K.pl];exact hi));refine⟨⟨by rw[e];exact hi,by rw[e];exact ho,by rw[hcq];exact N.al, ?_⟩,hcq,t⟩;have:=(aaR.1 t).1;rw[hl,P.tl]at this;rw[e];exact this
theorem SO (x:Pg)(tk:List Bool)(h:Nat)(g:List Nat)(hg:g.length=x.bd.length):OX x {x with tk:=tk,held:=h,bd:=g}:=⟨rfl,rfl,hg⟩
theorem gY{C:Cs}(K:Ok C){p:Nat}(L:Live C p):Ok (C.bq p)/\C8 C (C.bq p):=by
 have P:=K.xq L.i;have hG:=(L.toAt.bn K).1;have hs:=RK L.tk false;have hh:=P.held;rw[show bN false=0 from rfl,show bN true=1 from rfl]at hs;have hT:=K.ft _ hG;have hTl:(C.pg (C.pn p)).held<=(C.rw (C.cl p)).dL:=by
  have h1:=jX (v7 (C.cl p)) (lT (C:=C) (i:=C.pn p) (by rw[K.pl];exact L.i));rw[BO (c:=C.cl p) L.own rfl]at h1;rw[hT];exact h1
 have hlen:(C.pg (C.pn p)).bd.length=((C.pg (C.pn p)).bd.set (C.ix p) ((C.gen p+1) % 4294967296)).length:=by simp
 have wk:∀q,q∈(C.rw (C.cl p)).free↔CV C (C.cl p) q:=λq=>⟨K.fr _ q,λG=>K.fa _ q G hG⟩;have hnp:p∉(C.rw (C.cl p)).free:=λh=>by
  have:=((wk p).1 h).tk;rw[L.tk]at this;cases this
 refine⟨uF K L.i hG (λ_=>rfl) (λ_=>rfl) ⟨P.cl,λh=>by rw[<-hlen];exact P.gl h,by simpa using P.tl, ?_,P.VT,P.nd,by dsimp only;omega,λh=>absurd (L.own.symm.trans h) (by simp)⟩ ?_ (λq=> ?_) ?_ rfl rfl rfl,wK (by rw[K.pl];exact L.i) (SO _ _ _ _ hlen.symm)⟩
 ·intro g hg
  rcases afM hg with h|rfl
  ·exact P.Zn g h
  exact ai4 _ (by decide)
 ·dsimp only
  split
  ·exact K.fn _
  rw[afL];exact⟨K.fn _,by simp,λa ha b hb e=>hnp ((e.trans (afq.1 hb))▸ha)⟩
 ·dsimp only
  have key:∀q,C.pn q=C.pn p->Nfr C {C.pg (C.pn p)with tk:=(C.pg (C.pn p)).tk.set (C.ix p) false,held:=(C.pg (C.pn p)).held-1,bd:=(C.pg (C.pn p)).bd.set (C.ix p) ((C.gen p+1) % 4294967296)} (C.cl p) q->(C.pg (C.pn p)).lv=false/\(q=p\/CV C (C.cl p) q):=by
   intro q e N;obtain⟨a,b,t⟩:=XS K L.i L.own (x:={C.pg (C.pn p)with tk:=(C.pg (C.pn p)).tk.set (C.ix p) false,held:=(C.pg (C.pn p)).held-1,bd:=(C.pg (C.pn p)).bd.set (C.ix p) ((C.gen p+1) % 4294967296)}) (by simp) e N;refine⟨N.lv, ?_⟩;by_cases fN:q=p
   ·exact .inl fN
   dsimp only at t;rw[afA (λz=>xm K L.toAt a e fN z.symm)]at t;exact .inr ⟨a,b,by rw[e];exact t,by rw[e];exact N.lv⟩
  have back:∀q,C.pn q=C.pn p->(C.pg (C.pn p)).lv=false->(q=p\/CV C (C.cl p) q)->Nfr C {C.pg (C.pn p)with tk:=(C.pg (C.pn p)).tk.set (C.ix p) false,held:=(C.pg (C.pn p)).held-1,bd:=(C.pg (C.pn p)).bd.set (C.ix p) ((C.gen p+1) % 4294967296)} (C.cl p) q:=by
   intro q e jV h;have hk:C.ix p<(C.pg (C.pn p)).tk.length:=(aaR.1 L.tk).1;rcases h with rfl|G
   ·refine⟨L.own,L.al, ?_,jV⟩
    rw[FC (c:=C.cl q) (i:=C.pn q) rfl rfl,aaU hk]
   have a2:=((JZ K G.i).1 G).2;refine⟨L.own,a2.al, ?_,jV⟩;have fN:q≠p:=λz=>by
    have:=G.tk;rw[z,L.tk]at this;cases this
   rw[FC (c:=C.cl p) (i:=C.pn p) rfl e,afA (λz=>xm K L.toAt G.toAt e fN z.symm),<-e];exact G.tk
  by_cases jV:(C.pg (C.pn p)).lv=true
  ·rw[if_pos jV,wk]
   constructor
   ·intro G
    by_cases e:C.pn q=C.pn p
    ·have:=G.lv
     rw[e,jV]at this;cases this
    exact .inl ⟨G,e⟩
   rintro(⟨G,_⟩|⟨e,N⟩)
   ·exact G
   have:=(key q e N).1;rw[jV]at this;cases this
  have hlv2:(C.pg (C.pn p)).lv=false:=by simpa using jV
  rw[if_neg jV,af3,wk,afq]
  constructor
  ·intro h
   by_cases e:C.pn q=C.pn p
   ·exact .inr ⟨e,back q e hlv2 h.symm⟩
   rcases h with G|rfl
   ·exact .inl ⟨G,e⟩
   exact absurd rfl e
  rintro(⟨G,_⟩|⟨e,N⟩)
  ·exact .inl G
  exact((key q e N).2).symm
 have q1:=BO (c:=C.cl p) (y:=C.pg (C.pn p)) L.own rfl;have q2:=BO (c:=C.cl p) (y:={C.pg (C.pn p)with tk:=(C.pg (C.pn p)).tk.set (C.ix p) false,held:=(C.pg (C.pn p)).held-1,bd:=(C.pg (C.pn p)).bd.set (C.ix p) ((C.gen p+1) % 4294967296)}) L.own rfl;dsimp only at q1 q2⊢;omega
theorem Aw{C:Cs}(K:Ok C){i:Nat}(hi:i<C.n)(ho:(C.pg i).own=true)(jV:(C.pg i).lv=false):Ok (C.eJ i)/\C8 C (C.eJ i):=by
 have P:lA C (C.pg i):=K.pg _ (ey (by rw[K.pl];exact hi));have hG:=P.cl ho;have hS:1<=(C.rw (C.pg i).cl).fZ:=by
  have h1:=jX (yT (C.pg i).cl) (lT (C:=C) (i:=i) (by rw[K.pl];exact hi));rw[K.fs _ hG];have:yT (C.pg i).cl (C.pg i)=1:=by unfold yT;rw[if_pos ⟨ho,rfl,jV⟩]
  rw[this]at h1;exact h1
 refine⟨uF K hi hG (λ_=>rfl) (λ_=>rfl) ⟨P.cl,P.gl,P.tl,P.Zn,P.VT,P.nd,P.held,λh=>absurd (ho.symm.trans h) (by simp)⟩ ((K.fn _).filter _) (λq=> ?_) ?_ ?_ ?_ rfl,wK (by rw[K.pl];exact hi) ⟨rfl,rfl,rfl⟩⟩
 ·dsimp only
  rw[aba]
  constructor
  ·rintro⟨h1,h2⟩;exact .inl ⟨K.fr _ q h1,by simpa using h2⟩
  rintro(⟨G,e⟩|⟨_,N⟩)
  ·exact⟨K.fa _ q G hG,by simpa using e⟩
  have:=N.lv;cases this
 ·simp[v7,ho]
 ·simp[uu,ho]
 simp only[yT,ho,jV];simp;omega
theorem xQ{C:Cs}(K:Ok C){i:Nat}(hi:i<C.n)(ho:(C.pg i).own=true)(jV:(C.pg i).lv=true):Ok (C.iu i)/\C8 C (C.iu i):=by
 have P:lA C (C.pg i):=K.pg _ (ey (by rw[K.pl];exact hi));have hG:=P.cl ho;have htl:(C.pg i).tk.length<=C.aj/C.sz (C.pg i).cl:=by rw[P.tl,P.gl ho];exact aa0 _
 have OB:∀q∈(C.rw (C.pg i).cl).free,C.pn q≠i:=λq hq e=>by
  have:=(K.fr _ q hq).lv;rw[e,jV]at this;cases this
 refine⟨uF K hi hG (λ_=>rfl) (λ_=>rfl) ⟨P.cl,P.gl,P.tl,P.Zn,P.VT,P.nd,P.held,λh=>absurd (ho.symm.trans h) (by simp)⟩ ?_ (λq=> ?_) ?_ ?_ ?_ rfl,wK (by rw[K.pl];exact hi) ⟨rfl,rfl,rfl⟩⟩
 ·dsimp only
  rw[afL];refine⟨K.fn _,AF K.toFix hG _,λa ha b hb e=>OB a ha ?_⟩;rw[e];exact((qO K.toFix hG htl b).1 hb).1
 ·dsimp only
  rw[af3,qO K.toFix hG htl]
  constructor
  ·rintro(h|⟨h1,h2,h3⟩)
   ·exact .inl ⟨K.fr _ q h,OB q h⟩
   exact .inr ⟨h1,ho,h2,h3,rfl⟩
  rintro(⟨G,_⟩|⟨h1,N⟩)
  ·exact .inl (K.fa _ q G hG)
  exact .inr ⟨h1,N.al,N.tk⟩
 ·simp[v7,ho]
 ·simp[uu,ho]
 simp only[yT,ho,jV];simp
theorem XQ{l:List (Nat×Nat)}(h:∀g∈l,g.2<4294967296)(k:Nat):Db l k<4294967296:=by
 unfold Db;cases e:l.find? λe=>decide (e.1=k)with
 |none=>simp
 |some v=>simpa using h v (List.mem_of_find?_eq_some e)
theorem ae5 (n:Nat):((aaS n false).map bN).sum=0:=by
 induction n with
 |zero=>rfl
 |succ n ih=>simp[List.replicate_succ,bN]
theorem zY{C:Cs}(K:Ok C){i c:Nat}(hi:i<C.n)(hG:c<C.ae.length)(ho:(C.pg i).own=false):Ok (C.ct i c):=by
 have P:lA C (C.pg i):=K.pg _ (ey (by rw[K.pl];exact hi));obtain⟨q1,q2,q3⟩:=P.no ho;have hh:=P.held;have CR:(C.pg i).tk= []:=afm (by rw[P.tl,q1];rfl);rw[CR]at hh;simp only[List.map_nil,List.sum_nil]at hh;have OB:∀q∈(C.rw c).free,C.pn q≠i:=λq hq e=>by
  have:=(K.fr _ q hq).own;rw[e,ho]at this;cases this
 have VF:1<=C.spare:=by
  have h1:=jX y9 (lT (C:=C) (i:=i) (by rw[K.pl];exact hi));rw[K.sp];have:y9 (C.pg i)=1:=by unfold y9;rw[if_neg (by rw[ho];simp)]
  rw[this]at h1;exact h1
 have htl:(aaS (C.aj/C.sz c) false).length<=C.aj/C.sz c:=by simp
 refine uF K hi hG (λh=>absurd (ho.symm.trans h) (by simp)) (λ_=>rfl) ⟨λ_=>hG,λ_=>by simp[fF],by simp[fF], ?_,P.VT,P.nd, ?_,λh=>absurd h (by simp[fF])⟩ ?_ (λq=> ?_) ?_ ?_ ?_ ?_
 ·intro g hg
  simp only[fF,acA]at hg;obtain⟨k,_,rfl⟩:=hg;exact XQ P.VT _
 ·show(C.pg i).held=_
  rw[hh];exact(ae5 _).symm
 ·dsimp only
  rw[afL];refine⟨K.fn _,AF K.toFix hG _,λa ha b hb e=>OB a ha ?_⟩;rw[e];exact((qO K.toFix hG htl b).1 hb).1
 ·dsimp only
  rw[af3,qO K.toFix hG htl]
  constructor
  ·rintro(h|⟨h1,h2,h3⟩)
   ·exact .inl ⟨K.fr _ q h,OB q h⟩
   exact .inr ⟨h1,rfl,h2,h3,q2⟩
  rintro(⟨G,_⟩|⟨h1,N⟩)
  ·exact .inl (K.fa _ q G hG)
  exact .inr ⟨h1,N.al,N.tk⟩
 ·simp[v7,ho,fF,hh]
 ·simp[uu,ho,fF]
 ·simp[yT,ho,fF,q2]
 simp[y9,ho,fF];omega
theorem Sg{l:List (Nat×Nat)}{k g:Nat}{e:Nat×Nat}(h:e∈rV l k g):e∈l\/e=(k,g):=by
 unfold rV at h
 split at h
 ·obtain⟨p,hp,rfl⟩:=acA.1 h
  split
  ·exact .inr rfl
  exact .inl hp
 rcases af3.1 h with h|h
 ·exact .inl h
 exact .inr (afq.1 h)
theorem KU (l:List (Nat×Nat))(k g:Nat):(rV l k g).map (·.1)=if k∈l.map (·.1)then l.map (·.1)else l.map (·.1)++ [k]:=by
 unfold rV
 split
 ·rw[ajr]
  apply afr;intro p _;simp only[Function.comp]
  split
  ·rename_i e;exact e.symm
  rfl
 simp
theorem WM{l:List (Nat×Nat)}{k g:Nat}(h:(l.map (·.1)).Nodup):((rV l k g).map (·.1)).Nodup:=by
 rw[KU]
 split
 ·exact h
 rename_i hk
 rw[afL];exact⟨h,by simp,λa ha b hb e=>hk (by rw[afq.1 hb]at e;rw[<-e];exact ha)⟩
theorem XP (C:Cs)(x:Pg)(h1:∀g∈x.bd,g<4294967296)(h2:∀g∈x.old,g.2<4294967296)(h3:(x.old.map (·.1)).Nodup):(∀g∈C.rX x,g.2<4294967296)/\((C.rX x).map (·.1)).Nodup:=by
 unfold rX;have:∀(ks:List Nat) (l:List (Nat×Nat)),(∀g∈l,g.2<4294967296)->(l.map (·.1)).Nodup->(∀k∈ks,k<x.bd.length)->
   (∀g∈ks.foldl (λl k=>rV l (k*C.sz x.cl) (x.bd.getD k 0)) l,g.2<4294967296)/\((ks.foldl (λl k=>rV l (k*C.sz x.cl) (x.bd.getD k 0)) l).map (·.1)).Nodup:=by
  intro ks
  induction ks with
  |nil=>intro l a b _;exact⟨a,b⟩
  |cons k ks ih=>
   intro l a b c;rw[af8];refine ih _ (λg hg=> ?_) (WM b) λj hj=>c j (aaW _ hj);rcases Sg hg with h|rfl
   ·exact a g h
   have hk:=c k (aaV ..);dsimp only;rw[aaP,aaQ hk];exact h1 _ (aa4 _)
 exact this _ _ h2 h3 λk hk=>afu.1 hk
theorem vO{C:Cs}(K:Ok C){i:Nat}(hi:i<C.n)(ho:(C.pg i).own=true)(jV:(C.pg i).lv=true)(hh:(C.pg i).held=0):Ok (C.bw i):=by
 have P:lA C (C.pg i):=K.pg _ (ey (by rw[K.pl];exact hi));have hG:=P.cl ho;obtain⟨o1,o2⟩:=XP C (C.pg i) P.Zn P.VT P.nd;have hP:1<=(C.rw (C.pg i).cl).pgs:=by
  have h1:=jX (uu (C.pg i).cl) (lT (C:=C) (i:=i) (by rw[K.pl];exact hi));rw[K.fp _ hG];have:uu (C.pg i).cl (C.pg i)=1:=by unfold uu;rw[if_pos ⟨ho,rfl⟩]
  rw[this]at h1;exact h1
 have OB:∀q∈(C.rw (C.pg i).cl).free,C.pn q≠i:=λq hq e=>by
  have:=(K.fr _ q hq).lv;rw[e,jV]at this;cases this
 refine uF K hi hG (λ_=>rfl) (λh=>absurd h (by simp[Pg.no])) ⟨λh=>absurd h (by simp[Pg.no]),λh=>absurd h (by simp[Pg.no]),rfl,by simp[Pg.no],o1,o2,rfl,λ_=>⟨rfl,rfl,rfl⟩⟩ (K.fn _) (λq=> ?_) ?_ ?_ ?_ ?_
 ·dsimp only
  constructor
  ·intro h;exact .inl ⟨K.fr _ q h,OB q h⟩
  rintro(⟨G,_⟩|⟨_,N⟩)
  ·exact K.fa _ q G hG
  have:=N.own;cases this
 ·simp[v7,ho,hh,Pg.no]
 ·simp[uu,ho,Pg.no];omega
 ·simp[yT,ho,jV,Pg.no]
 simp[y9,ho,Pg.no]
end Cs
open Go Go.dG Go.Proofs.YtcbcjolpdljbiaaGreat.Cs
def dn (C:Cs)(i c:Nat)(tk:List Bool):Nat->List Nat
 |0=> []
 |k+1=>(if tk[k]?=some false then [i*C.aj+k*C.sz c]else [])++dn C i c tk k
theorem aeO (C:Cs)(i c:Nat)(tk:List Bool)(n:Nat):(((abb n).reverse.filter λk=>tk[k]?==some false).map λk=>i*C.aj+k*C.sz c)=dn C i c tk n:=by
 induction n with
 |zero=>rfl
 |succ n ih=>
  rw[af7,List.reverse_append,List.reverse_singleton,List.singleton_append,dn,List.filter_cons];by_cases h:tk[n]?=some false
  ·rw[if_pos (by rw[h];rfl),if_pos h,aaX,ih];rfl
  rw[if_neg (by simpa using h),if_neg h,ih];rfl
theorem aeN (C:Cs)(i c:Nat)(tk:List Bool)(n:Nat):(dn C i c tk n).length<=n:=by
 induction n with
 |zero=>exact aa0 _
 |succ n ih=>rw[dn,aaZ];split<;>simp<;>omega
def k7 (C:Cs)(i:Nat):Cs:=
 {C with rows:=C.rows.set (C.pg i).cl {C.rw (C.pg i).cl with fZ:=(C.rw (C.pg i).cl).fZ+1,free:=(C.rw (C.pg i).cl).free++C.iW i (C.pg i).cl (C.pg i).tk}}
theorem gy (l m:List Nat):aA (l++m)=aA l++aA m:=by simp[aA]
theorem fg (l:List Nat):(aA l).length=l.length:=by simp[aA]
theorem adl{α:Type}{f:α->aa}{L:List α}{F:dC}{H R:List aa}{x:α}{ad:Addr}{v:Value}(hx:x∈L)(hv:∀h,In (f x) h->eZ h ad=some v)(s:fD H (aG (L.map f)) R):On F H (some ad) v:=
 ⟨_,rfl,λh _ ao=>hv h (xR (r9 s h ao) hx)⟩
theorem ahV{x:vx}{tb k:Nat}{v:Value}(ht:x.tb=some tb)(hv:(sP x.p.tk)[k]?=some v):∀h,In (lp x) h->eZ h ⟨tb,k,none⟩=some v:=λh o=>by
 obtain⟨_,⟨j,q,l⟩,_⟩:=tJ o;rw[ht]at q;exact cU l (fJ q hv)
theorem PC{C:Cs}{y:Lc}{F:dC}{H R:List aa}{c:Nat}(hc:c<C.ae.length)(s:fD H (n9 C y) R):On F H (some ⟨y.sa,c,none⟩) (CO CN (C.sz c)):=
 ⟨_,rfl,λh _ ao=>gr (bP (r9 s h ao)) (eB (mK hc))⟩
theorem JR (b:Nat)(C:Cs)(y:Lc)(K:Fix C)(hy:gN C y)(i:Nat)(hi:i<C.n)(x:vx)(tb:Nat)(x1:y.pl[i]?=some x)(ht:x.tb=some tb)(hc:(C.pg i).cl<C.ae.length)(htl:(C.pg i).tk.length<=C.aj/C.sz (C.pg i).cl)
  (qZ:(C.rw (C.pg i).cl).free.length<=1099511627776) (gB:(C.rw (C.pg i).cl).fZ<=1099511627776):
  aO aaO 266 [CM b,CO CN i] (λ_=>True) (mU b C y)
   (λv H=>v= .tuple #[]/\∃z,y.rl[(C.pg i).cl]?=some z/\∃a c,H=mU b (k7 C i) {y with rl:=y.rl.set (C.pg i).cl ⟨(k7 C i).rw (C.pg i).cl,a,c⟩}/\gN (k7 C i) {y with rl:=y.rl.set (C.pg i).cl ⟨(k7 C i).rw (C.pg i).cl,a,c⟩}):=by
 have f1:=K.p1;have f2:=K.n1;have hzs:=K.sz hc;have hdv:=afP C.aj (C.sz (C.pg i).cl);have x2:x.p=C.pg i:=by
  have h1:=lT (C:=C) (i:=i) (by rw[K.pl];exact hi);rw[<-hy.pl,aa6,x1]at h1;exact Option.some.inj h1
 obtain⟨z,z1,z2⟩:∃z,y.rl[(C.pg i).cl]?=some z/\z.r=C.rw (C.pg i).cl:=by
  have h1:=ZH (C:=C) (c:=(C.pg i).cl) (by rw[K.rl];exact hc);rw[<-hy.rl,aa6,Option.map_eq_some_iff]at h1;exact h1
 have hjr:(k7 C i).rw (C.pg i).cl={C.rw (C.pg i).cl with fZ:=(C.rw (C.pg i).cl).fZ+1,free:=(C.rw (C.pg i).cl).free++C.iW i (C.pg i).cl (C.pg i).tk}:=by
  have:=xz C (C.pg i).cl (C.pg i).cl {C.rw (C.pg i).cl with fZ:=(C.rw (C.pg i).cl).fZ+1,free:=(C.rw (C.pg i).cl).free++C.iW i (C.pg i).cl (C.pg i).tk} (by rw[K.rl];exact hc);rw[if_pos rfl]at this;exact this
 rw[hjr];have hfi:C.iW i (C.pg i).cl (C.pg i).tk=dn C i (C.pg i).cl (C.pg i).tk (C.pg i).tk.length:=aeO C i _ _ _;generalize cR:(C.pg i).cl=c at*;generalize CR:(C.pg i).tk=tk at*;have k2:(y.pl.flatMap dD)[i*7+2]?=some (CO CN c):=by
  have:=bo bU x1 (j:=2) rfl;rw[x2,cR]at this;exact this
 have k4:(y.pl.flatMap dD)[i*7+4]?=some (.slice (some ⟨tb,0,none⟩) tk.length tk.length):=by
  have:=bo bU x1 (j:=4) rfl;rw[ht,x2,CR]at this;exact this
 have r3:(y.rl.flatMap dZ)[c*4+3]?=some (CO CN ((C.rw c).fZ)):=by
  have:=bo cz z1 (j:=3) rfl;rw[z2]at this;exact this
 have hlen:c*4+4<=(y.rl.flatMap dZ).length:=by
  rw[eK cz];have:=(aaR.1 z1).1;omega
 refine ag func266 rfl ntmps266 rfl ?_;intro F _;unfold mU;change G _ _ _ _ _ [af b 179 (cH C y),n9 C y,af y.pb 227 (y.pl.flatMap dD),aG (y.pl.map lp),af y.rb 196 (y.rl.flatMap dZ),aG (y.rl.map kM),af y.a 249 (iq y.ab C.aj (C.n*C.aj)),af y.ab 5 (dI C.A (C.n*C.aj))];refine Hh (H':= [aG (y.rl.map kM),af y.rb 196 (y.rl.flatMap dZ),af b 179 (cH C y),af y.pb 227 (y.pl.flatMap dD),n9 C y,aG (y.pl.map lp),af y.a 249 (iq y.ab C.aj (C.n*C.aj)),af y.ab 5 (dI C.A (C.n*C.aj))]) ?_;refine au (λk s=>wV z1 s) ?_;have hrz:kM z=own z.a z.c 3 1 (aA (C.rw c).free):=by unfold kM;rw[z2]
 rw[hrz];refine cA ?_;refine aw ?_;refine gT false mix ?_;refine cC ?_;refine bW ?_;have e3:(y.rl.flatMap dZ).set (c*4+3) (CO CN ((C.rw c).fZ+1))=(y.rl.set c ⟨{C.rw c with fZ:=(C.rw c).fZ+1},z.a,z.c⟩).flatMap dZ:=cj cz z1 (by unfold dZ;rw[z2];rfl) (by decide);rw[e3];refine au (H':= [own z.a z.c 3 1 (aA ((C.rw c).free++ [])),aG ((y.rl.eraseIdx c).map kM),af y.rb 196 ((y.rl.set c ⟨⟨(C.rw c).free++ [],(C.rw c).dL,(C.rw c).pgs,(C.rw c).fZ+1⟩,z.a,z.c⟩).flatMap dZ),af b 179 (cH C y),af y.pb 227 (y.pl.flatMap dD),n9 C y,aG (y.pl.map lp),af y.a 249 (iq y.ab C.aj (C.n*C.aj)),af y.ab 5 (dI C.A (C.n*C.aj))]) (by rw[afs];exact Eh) ?_;refine Lo (ι:=Nat×List Nat×Option Addr×Nat) [35,36,39,40,41,42,43,44,45,46,47,48,49,50,51,52,53,54,55,56,57,58,59,60,61,62,63,64,65,66,67,68,69,70,71,72,73,74,75,37,38,6] (λ(j,pre,a,cc)=>j<=tk.length/\pre++dn C i c tk j=dn C i c tk tk.length) (λ(j,pre,a,cc)=> [(6,CO CN ((j:Int)-1))]) (λ(j,pre,a,cc)=> [own a cc 3 1 (aA ((C.rw c).free++pre)),aG ((y.rl.eraseIdx c).map kM),af y.rb 196 ((y.rl.set c ⟨⟨(C.rw c).free++pre,(C.rw c).dL,(C.rw c).pgs,(C.rw c).fZ+1⟩,a,cc⟩).flatMap dZ),af b 179 (cH C y),af y.pb 227 (y.pl.flatMap dD),n9 C y,aG (y.pl.map lp),af y.a 249 (iq y.ab C.aj (C.n*C.aj)),af y.ab 5 (dI C.A (C.n*C.aj))]) (λ(j,pre,a,cc)=>j) ((tk.length,[],z.a,z.c)) ⟨aa0 _,rfl⟩ ?_;rintro⟨j,pre,a,cc⟩ ⟨hj,iH⟩
 try dsimp only at hI⊢
 dsimp only at hj iH⊢;refine bE ?_;refine aE rfl ?_ ?_
 ·intro hk
  replace hk:=aS hk;obtain⟨k,rfl⟩:∃k,j=k+1:=⟨j-1,by omega⟩;have et:tk[k]?=some (tk[k]'(by omega)):=aaQ _;have uj:k<tk.length:=by omega
  generalize tk[k]'(by omega)=t at et;have VW:=aaT x1;refine ay (t:=6) (v':=(CO CN k)) rfl (by refine congrArg (Value.int .i64) ?_;omega) ?_;refine bW ?_;refine Lp (oL gj ?_ (hk:=adl VW (ahV ht (BQ (by rw[x2,CR];exact et))) (by repeat (first|exact fD.here|apply fD.there))));refine bA ?_;have hkz:k*C.sz c<=1048576*1048576:=afG (by omega) (by omega);have hip:i*C.aj<=1024*1048576:=afG (by omega) f1;refine aE rfl ?_ ?_
  ·intro hq
   replace hq:=aS hq;obtain rfl:t=false:=by simpa using hq
   have hlr:(C.rw c).free.length+pre.length+1<=2199023255552:=by
    have h1:=congrArg List.length iH;rw[aaZ]at h1;have h2:=aeN C i c tk tk.length;omega
   have r0:((y.rl.set c ⟨⟨(C.rw c).free++pre,(C.rw c).dL,(C.rw c).pgs,(C.rw c).fZ+1⟩,a,cc⟩).flatMap dZ)[c*4]?=some (.slice a ((C.rw c).free++pre).length cc):=bo cz (j:=0) (aaU (aaR.1 z1).1) rfl;have hl4:c*4<((y.rl.set c ⟨⟨(C.rw c).free++pre,(C.rw c).dL,(C.rw c).pgs,(C.rw c).fZ+1⟩,a,cc⟩).flatMap dZ).length:=by rw[eK cz,aaY];rw[eK cz]at hlen;omega
   refine hJ 27 mix (.cons (.there (.there .here)) (.cons (.there (.there .here)) (.cons (.there (.there .here)) (.cons (.there (.there .here)) .nil)))) λF1 jf bZ aN=> ?_;obtain⟨q1,q2,q3,q4,_⟩:=bZ;have kz:=gr (bP q4) (eB (mK hc));refine bW ?_;refine Ti (Zu) ?_;refine bW ?_;refine Ti (Zu) ?_;refine Ti (AdN) ?_;refine Tp (oT fU λb1=> ?_);refine Tp (bT fU pK rfl rfl rfl rfl .here (by rw[fg,ajs]) (rfl) (by simp[Value.oneCell']) (by rw[aaZ];omega) (by rw[aaZ];omega) rfl λa1 c1 h1=> ?_);refine gd aN ?_;refine bM ?_;refine aF ?_;have e5:aA ((C.rw c).free++pre)++ [Value.int .i64 ((i*C.aj+k*C.sz c:Nat):Int)]=aA ((C.rw c).free++(pre++ [i*C.aj+k*C.sz c])):=by rw[<-afR,gy _ [_]];rfl
   have e4:((y.rl.set c ⟨⟨(C.rw c).free++pre,(C.rw c).dL,(C.rw c).pgs,(C.rw c).fZ+1⟩,a,cc⟩).flatMap dZ).set (c*4+0) (.slice a1 (((C.rw c).free++pre).length+1) c1)=(y.rl.set c ⟨⟨(C.rw c).free++(pre++ [i*C.aj+k*C.sz c]),(C.rw c).dL,(C.rw c).pgs,(C.rw c).fZ+1⟩,a1,c1⟩).flatMap dZ:=by
    have:=cj (j:=0) (v:= .slice a1 (((C.rw c).free++pre).length+1) c1) (a':=⟨⟨(C.rw c).free++(pre++ [i*C.aj+k*C.sz c]),(C.rw c).dL,(C.rw c).pgs,(C.rw c).fZ+1⟩,a1,c1⟩) cz (aaU (a:=(⟨⟨(C.rw c).free++pre,(C.rw c).dL,(C.rw c).pgs,(C.rw c).fZ+1⟩,a,cc⟩:FW)) (aaR.1 z1).1) (by simp[dZ];omega) (by decide);rw[afN]at this;exact this
   rw[e4,e5];refine Ro ((k,pre++ [i*C.aj+k*C.sz c],a1,c1)) (⟨by dsimp only;omega,by dsimp only;rw[<-iH,dn,if_pos et,afR]⟩) ((by dsimp only;omega))
  intro hq;replace hq:=aS hq;obtain rfl:t=true:=by simpa using hq
  refine bR ?_;refine aF ?_;refine Ro ((k,pre,a,cc)) (⟨by dsimp only;omega,by dsimp only;rw[<-iH,dn,if_neg (by rw[et];simp)];rfl⟩) ((by dsimp only;omega))
 intro hk;replace hk:=aS hk;obtain rfl:j=0:=by omega
 rw[dn,afs]at iH;subst iH;rw[hfi];refine bm ?_;refine au (λk s=>uN (f:=kM) z1 ⟨⟨(C.rw c).free++dn C i c tk tk.length,(C.rw c).dL,(C.rw c).pgs,(C.rw c).fZ+1⟩,a,cc⟩ s) ?_;refine jW [af b 179 (cH C y),n9 C y,af y.pb 227 (y.pl.flatMap dD),aG (y.pl.map lp),af y.rb 196 ((y.rl.set c ⟨⟨(C.rw c).free++dn C i c tk tk.length,(C.rw c).dL,(C.rw c).pgs,(C.rw c).fZ+1⟩,a,cc⟩).flatMap dZ),aG ((y.rl.set c ⟨⟨(C.rw c).free++dn C i c tk tk.length,(C.rw c).dL,(C.rw c).pgs,(C.rw c).fZ+1⟩,a,cc⟩).map kM),af y.a 249 (iq y.ab C.aj (C.n*C.aj)),af y.ab 5 (dI C.A (C.n*C.aj))] results266 ?_;refine⟨rfl,z,z1,a,cc,rfl,hy.pl, ?_,hy.pk,hy.aj,hy.pgs⟩;show List.map _ _=(k7 C i).rows;unfold k7;rw[afO,hy.rl,cR,CR,hfi]
theorem oQlO{P:Program}{n:Nat}{ds:List Deferred}{F:dC}{Q:Exit->Act->World->Prop}{K:Act->World->Prop}{σ:aZ}{H:List aa}{o:Oper}{d:Nat}{t k e:TypeId}{z:Value}{m x:Operand}{b:Option Nat}{es:List (Value×Value)}{kv:Value}{R:List aa}
  (ht:xc P t=some (k, .int .i64,e,z)) (h:G n ds F K ((d,(uh es kv).getD z)::σ) H) (he:b=none->es= []) (ho:o.op= .lookup t m x false:=by exact rfl) (hd:o.dst=some d:=by exact rfl)
  (hm:bJ σ m=some (.map b):=by exact rfl) (hx:bJ σ x=some kv:=by exact rfl) (hk:VE (.int .i64) kv=true:=by exact rfl) (hs:fD H (C0 b es) R:=by repeat (first|exact fD.here|apply fD.there)) (hdn:Nat.blt d n=true:=by exact rfl):G n ds F (λa w=>o.wp P a w K Q) σ H:=by
 cases b with
 |some b=>exact oQl (b:=b) (es:=es) ht h ho hd hm hx hk hs hdn
 |none=>
  refine sf hd hdn (λa w en s=> ?_) h;obtain⟨N8,C1,i,hi,hz⟩:=nR ht;have:uh es kv=none:=by rw[he rfl];exact Eg λe h=>by cases h
  rw[this];simp[execOp,ho,en.eval hm,en.eval hx,Instr.lookup,run_underlying N8,MapKept.run_checkKey C1 (jw hk),MapKept.run_findKey C1 (show Instr.findNow (.int .i64) kv [] 0=some none from rfl),zeroValue,typeInfo,hi,hz,Result.andThen]
theorem XO{l:List (Nat×Nat)}(k:Nat):(uh (jM l) (CO CN k)).getD (CO akO 0)=CO akO (Db l k:Nat):=by
 classical
 unfold uh jM Db
 induction l with
 |nil=>rfl
 |cons p l ih=>
  rw[aaX,aj1,aj1];by_cases h:p.1=k
  ·subst h;simp
  have h1:¬((Value.int .i64 (p.1:Int),Value.int .u32 (p.2:Int)):Value×Value).1=CO CN k:=by simp;omega
  rw[decide_eq_false h1,decide_eq_false h];exact ih
theorem Gj (n:Nat):hU [CO akO 0] (n*1)=aM (aaS n 0):=by rw[pZ,ajs];simp[aM]
theorem OY (n:Nat):hU [.bool false] (n*1)=sP (aaS n false):=by rw[pZ,ajs];simp[sP]
theorem DO (l:List Nat)(k g:Nat):(aM l).set k (CO akO g)=aM (l.set k g):=by unfold aM;rw[afO]
theorem mc (l:List Nat):(aM l).length=l.length:=by simp[aM]
theorem Kh (l:List Bool):(sP l).length=l.length:=by simp[sP]
theorem Fl{C:Cs}(h:∀j,j<C.bc.length->(C.pg j).own=true):C.gA=none:=by
 unfold gA;rw[af4];intro x hx;obtain⟨j,hj⟩:=agd hx;have hl:=(aaR.1 hj).1;have:=h j hl;rw[lT hl]at hj;cases hj;simp[this]
theorem Fk{C:Cs}{i:Nat}(hi:i<C.bc.length)(ho:(C.pg i).own=false)(h:∀j,j<i->(C.pg j).own=true):C.gA=some i:=by
 unfold gA;rw[abc];have e:∀j (hj:j<C.bc.length),C.bc[j]=C.pg j:=λj hj=>by
  have:=lT (C:=C) hj;rw[aaQ hj]at this;exact Option.some.inj this
 refine⟨hi,by rw[e];simp[ho],λj hj=> ?_⟩;rw[e j (by omega),h j hj];simp
theorem Qt:∀(N:Nat) (l:List Nat),l.Nodup->(∀x∈l,x<N)->l.length<=N
 |0,l,_,h=>by
  cases l with
  |nil=>exact aa0 _
  |cons a l=>exact absurd (h a (aaV ..)) (by omega)
 |N+1,l,hn,h=>by
  have h1:=Qt N (l.erase N) (hn.erase N) (λx hx=>by
   have h2:=(List.Nodup.mem_erase_iff hn).1 hx;have:=h x h2.2;have:=h2.1;omega)
  have:=List.length_erase (a:=N) (l:=l)
  split at this<;>omega
theorem kF{C:Cs}(K:Ok C)(c:Nat):(C.rw c).free.length<=1073741824:=by
 have h:=Qt (C.n*C.aj) _ (K.fn c) (λp hp=>by
  have:=((K.fr c p hp).toAt.bn K);omega)
 have:=fO K.toFix;omega
theorem R8 (b:Nat)(C:Cs)(y:Lc)(K:Ok C)(hy:gN C y)(c:Nat)(hc:c<C.ae.length):aO aaO 219 [CM b,CO CN c] (λ_=>True) (mU b C y)
  (λv H=>match C.gA with
   |none=>v= .bool false/\H=mU b C y
   |some i=>v= .bool true/\∃Y,gN (C.ct i c) Y/\Y.rb=y.rb/\H=mU b (C.ct i c) Y):=by
 have f1:=K.toFix.p1;have f2:=K.toFix.n1;have hzs:=K.toFix.sz hc;have hdv:=afP C.aj (C.sz c);obtain⟨l1,l2⟩:=K.le;refine ag func219 rfl ntmps219 rfl ?_;intro F _;change G _ _ _ _ _ [af b 179 (cH C y),n9 C y,af y.pb 227 (y.pl.flatMap dD),aG (y.pl.map lp),af y.rb 196 (y.rl.flatMap dZ),aG (y.rl.map kM),af y.a 249 (iq y.ab C.aj (C.n*C.aj)),af y.ab 5 (dI C.A (C.n*C.aj))];refine gz ?_;refine Lo (ι:=Nat) [15,16,5,17,18,19,20,21,22,6,23,24,25,26,27,28,29,30,31,32,33,34,35,36,37,38,39,7,40,41,42,43,44,45,46,47,48,49,50,51,52,53,54,55,56,57,58,59,60,61,62,63,64,8,65,66,67,68,69,70,71,72,73,74,75,76,77,78,79,80,81,82,83,84,85,86,87,88,89,90,91,92,93,94,95,96,97,98,99,100,101,102,103,104,105,106,4,107,14] (λk=>k<=C.n/\∀j,j<k->(C.pg j).own=true) (λk=> [(14,CO CN k)]) (λk=> [af b 179 (cH C y),n9 C y,af y.pb 227 (y.pl.flatMap dD),aG (y.pl.map lp),af y.rb 196 (y.rl.flatMap dZ),aG (y.rl.map kM),af y.a 249 (iq y.ab C.aj (C.n*C.aj)),af y.ab 5 (dI C.A (C.n*C.aj))]) (λk=>C.n-k) (0) ⟨afk _,λj hj=>absurd hj (aiY j)⟩ ?_;rintro k ⟨VJ,rp⟩;refine bz ?_;refine aw ?_;refine aE rfl ?_ ?_
 ·intro hk
  replace hk:=aS hk;have cL:k<C.n:=by omega
  obtain⟨x,x1,x2,x3⟩:=tF K hy cL;have k0:(y.pl.flatMap dD)[k*7]?=some (.bool (C.pg k).own):=by
   have:=bo bU x1 (j:=0) rfl;rw[x2]at this;exact this
  refine cC ?_;refine bm ?_;refine aE rfl ?_ ?_
  ·intro ho
   replace ho:=aS ho;refine bR ?_;refine aF ?_;refine Ro (k+1) (⟨by omega,λj hj=> ?_⟩) (by omega);by_cases Ob:j=k
   ·subst Ob;exact ho
   exact rp j (by omega)
  intro ho;replace ho:=aS ho;have P:lA C (C.pg k):=K.pg _ (ey (by rw[K.pl];exact cL));obtain⟨p1,p2,p3⟩:=P.no ho;have p4:(C.pg k).tk= []:=afm (by rw[P.tl,p1];rfl);have uk:x.gb=none:=by have:=x3.g;rw[x2,ho]at this;simpa using this
  have ui:x.tb=none:=by have:=x3.t;rw[x2,ho]at this;simpa using this
  have hxo:x.ob=none->jM (C.pg k).old= []:=λh=>by rw[<-x2,x3.o h];rfl
  have hfp:=Fk (C:=C) (by rw[K.pl];exact cL) ho rp;have hpgx:dD x= [.bool false, .bool false,CO CN 0, .slice none 0 0, .slice none 0 0,CO CN ((C.pg k).held), .map x.ob]:=by
   unfold dD;rw[uk,ui,x2,ho,p2,p3];rfl
  rw[hfp];refine Hh (H':= [aG (y.pl.map lp),af y.pb 227 (y.pl.flatMap dD),n9 C y,af b 179 (cH C y),af y.rb 196 (y.rl.flatMap dZ),aG (y.rl.map kM),af y.a 249 (iq y.ab C.aj (C.n*C.aj)),af y.ab 5 (dI C.A (C.n*C.aj))]) ?_;refine au (λ_ s=>wV x1 s) ?_;refine mP ?_;rw[uk,ui,x2];refine Hh (H':= [C0 x.ob (jM (C.pg k).old),aG ((y.pl.eraseIdx k).map lp),af y.pb 227 (y.pl.flatMap dD),n9 C y,af b 179 (cH C y),af y.rb 196 (y.rl.flatMap dZ),aG (y.rl.map kM),af y.a 249 (iq y.ab C.aj (C.n*C.aj)),af y.ab 5 (dI C.A (C.n*C.aj))]) ?_;have hl7:k*7+7<=(y.pl.flatMap dD).length:=by
   rw[eK bU];have:=(aaR.1 x1).1;omega
  obtain⟨m,hm⟩:∃m,m=C.aj/C.sz c:=⟨_,rfl⟩;obtain⟨gs,hgs⟩:∃gs,gs=(abb m).map λk'=>Db (C.pg k).old (k'*C.sz c):=⟨_,rfl⟩;have e2:((y.pl.flatMap dD).set (k*7+0) (.bool true)).set (k*7+2) (CO CN c)=(y.pl.set k ⟨{C.pg k with own:=true,cl:=c},none,none,x.ob⟩).flatMap dD:=by
   have h1:=cj (j:=0) (v:= .bool true) (a':=(⟨{C.pg k with own:=true},none,none,x.ob⟩:vx)) bU x1 (by rw[hpgx];unfold dD;dsimp only;rw[p2,p3];rfl) (by decide);have h2:=cj (j:=2) (v:=CO CN c) (a':=(⟨{C.pg k with own:=true,cl:=c},none,none,x.ob⟩:vx)) bU (aaU (a:=(⟨{C.pg k with own:=true},none,none,x.ob⟩:vx)) (aaR.1 x1).1) (by unfold dD;dsimp only;rfl) (by decide);rw[h1,h2,afN]
  have e8:∀gb tb:Nat,(((y.pl.set k ⟨{C.pg k with own:=true,cl:=c},none,none,x.ob⟩).flatMap dD).set (k*7+3) (.slice (some ⟨gb,0,none⟩) m m)).set (k*7+4) (.slice (some ⟨tb,0,none⟩) m m)=(y.pl.set k ⟨{C.pg k with own:=true,cl:=c,bd:=gs,tk:=aaS m false},some gb,some tb,x.ob⟩).flatMap dD:=by
   intro gb tb;have hk7:=(aaR.1 x1).1;have h1:=cj (l:=y.pl.set k ⟨{C.pg k with own:=true,cl:=c},none,none,x.ob⟩) (i:=k) (j:=3) (v:= .slice (some ⟨gb,0,none⟩) m m) (a':=(⟨{C.pg k with own:=true,cl:=c,bd:=gs},some gb,none,x.ob⟩:vx)) bU (aaU (a:=(⟨{C.pg k with own:=true,cl:=c},none,none,x.ob⟩:vx)) hk7) (by unfold dD;dsimp only;rw[hgs,adr,aiZ];rfl) (by decide);have h2:=cj (l:=(y.pl.set k ⟨{C.pg k with own:=true,cl:=c},none,none,x.ob⟩).set k ⟨{C.pg k with own:=true,cl:=c,bd:=gs},some gb,none,x.ob⟩) (i:=k) (j:=4) (v:= .slice (some ⟨tb,0,none⟩) m m) (a':=(⟨{C.pg k with own:=true,cl:=c,bd:=gs,tk:=aaS m false},some gb,some tb,x.ob⟩:vx)) bU (aaU (a:=(⟨{C.pg k with own:=true,cl:=c,bd:=gs},some gb,none,x.ob⟩:vx)) (by simpa using hk7)) (by unfold dD;dsimp only;rw[afQ];rfl) (by decide);rw[h1,h2,afN,afN]
  generalize hG:y.pl.flatMap dD=cs at*;refine bA ?_;refine aw ?_;refine gT false mix ?_;refine bW ?_;refine Tp (oL bC ?_ (hk:=PC hc (by repeat (first|exact fD.here|apply fD.there))));refine Ti (Qu) ?_;refine gz ?_;refine aw ?_;rw[<-hm,e2];have hl8:k*7+7<=((y.pl.set k ⟨{C.pg k with own:=true,cl:=c},none,none,x.ob⟩).flatMap dD).length:=by
   rw[eK bU,aaY];have:=(aaR.1 x1).1;omega
  generalize hds:(y.pl.set k ⟨{C.pg k with own:=true,cl:=c},none,none,x.ob⟩).flatMap dD=dc at*;refine dt (ι:=Nat×Nat) [47,48,49,50,51,52,53,54,55,56] (λ(gb,tb)=>True) (λ(gb,tb)=> []) (λ(gb,tb)=> [af gb 149 (aM (aaS m 0)),af tb 4 (sP (aaS m false)),C0 x.ob (jM (C.pg k).old),aG ((y.pl.eraseIdx k).map lp),af y.pb 227 ((dc.set (k*7+3) (.slice (some ⟨gb,0,none⟩) m m)).set (k*7+4) (.slice (some ⟨tb,0,none⟩) m m)),n9 C y,af b 179 (cH C y),af y.rb 196 (y.rl.flatMap dZ),aG (y.rl.map kM),af y.a 249 (iq y.ab C.aj (C.n*C.aj)),af y.ab 5 (dI C.A (C.n*C.aj))]) ?_ ?_
  ·refine zT mix .nil λF1 jf bZ aN=> ?_
   refine Dt 0 rfl Mv ?_;refine Dt 1 rfl Mv ?_;refine Dt 2 rfl Mv ?_;refine Dt 4 rfl Mv ?_;refine D2 3 5 ?_ ?_
   ·refine Do rfl (oM (m) (m) BS λb1=> ?_)
    refine av ?_;refine Dt 6 rfl Nc ?_;refine Dt 7 rfl (Fa vh) ?_;refine D2 5 8 ?_ ?_
    ·refine Do rfl (oM (m) (m) Hl λb2=> ?_)
     refine av ?_;refine Dn 8 ?_;refine Do rfl (oS Bo ?_);refine av ?_;refine Dt 9 rfl Nc ?_;refine Dt 10 rfl (Fa qS) ?_;refine Dn 11 ?_;refine Do rfl (oS Bn ?_);refine av ?_;refine aV (by kernel_rfl) aN ?_;rw[Gj,OY];refine Me ((b1,b2)) (trivial)
    refine Do rfl (oS Bo ?_);refine av ?_;refine Dn 5 ?_;refine Do rfl (oM (m) (m) Hl λb3=> ?_);refine av ?_;refine Dt 9 rfl Nc ?_;refine Dt 10 rfl (Fa qS) ?_;refine Dn 11 ?_;refine Do rfl (oS Bn ?_);refine av ?_;refine aV (by kernel_rfl) aN ?_;rw[Gj,OY];refine Me ((b1,b3)) (trivial)
   refine Do rfl (oM (m) (m) Hl λb4=> ?_);refine av ?_;refine Dn 3 ?_;refine Do rfl (oM (m) (m) BS λb5=> ?_);refine av ?_;refine Dt 6 rfl Nc ?_;refine Dt 7 rfl (Fa vh) ?_;refine Dn 8 ?_;refine Do rfl (oS Bo ?_);refine av ?_;refine Dt 9 rfl Nc ?_;refine Dt 10 rfl (Fa qS) ?_;refine Dn 11 ?_;refine Do rfl (oS Bn ?_);refine av ?_;refine aV (by kernel_rfl) aN ?_;rw[Gj,OY];refine Me ((b5,b4)) (trivial)
  rintro⟨gb,tb⟩ hI
  try dsimp only at hI⊢
  rw[e8 gb tb];have hk7:=(aaR.1 x1).1;have n1:(y.pl.set k ⟨{C.pg k with own:=true,cl:=c,bd:=gs,tk:=aaS m false},some gb,some tb,x.ob⟩)[k]?=some (⟨{C.pg k with own:=true,cl:=c,bd:=gs,tk:=aaS m false},some gb,some tb,x.ob⟩:vx):=aaU hk7;have hgl:gs.length=m:=by rw[hgs];simp
  have k3:((y.pl.set k ⟨{C.pg k with own:=true,cl:=c,bd:=gs,tk:=aaS m false},some gb,some tb,x.ob⟩).flatMap dD)[k*7+3]?=some (.slice (some ⟨gb,0,none⟩) m m):=by
   have:=bo bU n1 (j:=3) (v:= .slice (some ⟨gb,0,none⟩) gs.length gs.length) rfl;rw[hgl]at this;exact this
  have k6:((y.pl.set k ⟨{C.pg k with own:=true,cl:=c,bd:=gs,tk:=aaS m false},some gb,some tb,x.ob⟩).flatMap dD)[k*7+6]?=some (.map x.ob):=bo bU n1 (j:=6) rfl;generalize Zk:(y.pl.set k ⟨{C.pg k with own:=true,cl:=c,bd:=gs,tk:=aaS m false},some gb,some tb,x.ob⟩).flatMap dD=es at*;refine bM ?_;refine Lo (ι:=Nat×List Nat) [63,64,8,65,66,67,68,69,70,71,72,73,74,75,76,77,78,79,80,81,82,83,84,85,62] (λ(j,L)=>j<=m/\L.length=m/\∀i,i<j->L[i]?=gs[i]?) (λ(j,L)=> [(62,CO CN j)]) (λ(j,L)=> [af gb 149 (aM L),af tb 4 (sP (aaS m false)),C0 x.ob (jM (C.pg k).old),aG ((y.pl.eraseIdx k).map lp),af y.pb 227 es,n9 C y,af b 179 (cH C y),af y.rb 196 (y.rl.flatMap dZ),aG (y.rl.map kM),af y.a 249 (iq y.ab C.aj (C.n*C.aj)),af y.ab 5 (dI C.A (C.n*C.aj))]) (λ(j,L)=>m-j) ((0,aaS m 0)) ⟨afk _,by simp,λi hi=>absurd hi (aiY i)⟩ ?_;rintro⟨j,L⟩ ⟨hj0,hL,lV⟩
  try dsimp only at hI⊢
  try dsimp only at hj0 hL lV⊢
  refine bz ?_;refine aw ?_;refine aE rfl ?_ ?_
  ·intro hj
   replace hj:=aS hj;have hjm:j<m:=by omega
   have hjz:j*C.sz c<=1048576*1048576:=afG (by omega) (by omega);have hlL:j<(aM L).length:=by rw[mc];omega
   refine dm ?_;refine hJ 20 mix (.cons (.there (.there (.there (.there .here)))) (.cons (.there (.there (.there (.there .here)))) (.cons (.there (.there (.there (.there .here)))) .nil))) λF2 yO ez cQ=> ?_;obtain⟨q4,q5,q6,_⟩:=ez;have kz:=gr (bP q5) (eB (mK hc));refine ri ?_;refine Ti (Zu) ?_;refine Tp (oQlO T.Br ?_ hxo);refine ay (t:=83) (v':=(CO akO (Db (C.pg k).old (j*C.sz c):Nat))) rfl (by exact XO _) ?_;refine av ?_;refine gd cQ ?_;refine bR ?_;refine aF ?_;rw[DO];refine Ro ((j+1,L.set j (Db (C.pg k).old (j*C.sz c)))) (⟨by dsimp only;omega,by rw[aaY];exact hL,λi hi=> ?_⟩) ((by dsimp only;omega));by_cases Zi:i=j
   ·subst Zi
    rw[aaU (by omega),hgs,aa6,List.getElem?_range (by omega)];rfl
   rw[afA (λq=>Zi q.symm)];exact lV i (by dsimp only at hi;omega)
  intro hj;replace hj:=aS hj;obtain rfl:j=m:=by omega
  obtain rfl:L=gs:=by
   apply List.ext_getElem?;intro i;by_cases hi:i<j
   ·exact lV i hi
   rw[aa7 (by omega),aa7 (by omega)]
  clear lV hj
  have hW:C.fF k c={C.pg k with own:=true,cl:=c,bd:=L,tk:=aaS j false}:=by unfold fF;rw[<-hm,<-hgs]
  rw[<-hW]at n1 Zk;obtain⟨z,z1,z2⟩:=xI K hy hc;have FV:c<C.rows.length:=by rw[K.rl];exact hc
  have r2:(y.rl.flatMap dZ)[c*4+2]?=some (CO CN ((C.rw c).pgs)):=by
   have:=bo cz z1 (j:=2) rfl;rw[z2]at this;exact this
  have l3:=l2 c hc;have hl4:c*4+4<=(y.rl.flatMap dZ).length:=by
   rw[eK cz];have:=(aaR.1 z1).1;omega
  obtain⟨D,hD⟩:∃D:Cs,D={C with bc:=C.bc.set k (C.fF k c),rows:=C.rows.set c {C.rw c with pgs:=(C.rw c).pgs+1}}:=⟨_,rfl⟩;obtain⟨y2,yV⟩:∃y2:Lc,y2={y with pl:=y.pl.set k ⟨C.fF k c,some gb,some tb,x.ob⟩,rl:=y.rl.set c ⟨{C.rw c with pgs:=(C.rw c).pgs+1},z.a,z.c⟩}:=⟨_,rfl⟩;have Iz:(y.rl.flatMap dZ).set (c*4+2) (CO CN ((C.rw c).pgs+1))=y2.rl.flatMap dZ:=by
   rw[yV];exact cj cz z1 (by unfold dZ;rw[z2];rfl) (by decide)
  have hDp:D.pg k=C.fF k c:=by
   have:=Bq C k k (C.fF k c) (by rw[K.pl];exact cL);rw[if_pos rfl]at this;rw[hD];exact this
  have hDr:D.rw c={C.rw c with pgs:=(C.rw c).pgs+1}:=by
   have:=xz C c c {C.rw c with pgs:=(C.rw c).pgs+1} FV;rw[if_pos rfl]at this;rw[hD];exact this
  have hDF:Fix D:=by rw[hD];exact⟨K.p0,K.p1,K.p8,K.n0,K.n1,K.l0,K.l1,K.s0,by simp[K.pl],by simp[K.rl]⟩
  have hDy:gN D y2:=by
   rw[hD,yV];refine⟨by rw[afO,hy.pl],by rw[afO,hy.rl],λu hu=> ?_,hy.aj,hy.pgs⟩;rcases afM hu with h|rfl
   ·exact hy.pk u h
   exact⟨rfl,rfl,λh=>by have:=x3.o h;rw[x2]at this;exact this⟩
  have cR:(D.pg k).cl=c:=by rw[hDp];rfl
  have J:=JR b D y2 hDF hDy k (by rw[hD];exact cL) ⟨C.fF k c,some gb,some tb,x.ob⟩ tb (by rw[yV];exact aaU hk7) rfl (by rw[cR,hD];exact hc) (by rw[cR,hDp,hD,hW];simp[hm];exact aa0 _) (by rw[cR,hDr];have:=kF K c;dsimp only;omega) (by rw[cR,hDr];dsimp only;omega);rw[cR]at J;refine cC ?_;refine bA ?_;rw[Iz];have iD:lp ⟨C.fF k c,some gb,some tb,x.ob⟩=aG [af gb 149 (aM L),af tb 4 (sP (aaS j false)),C0 x.ob (jM (C.pg k).old)]:=by rw[hW];rfl
  refine au (λ_ s=>dU (L:= [_,_,_]) s) ?_;rw[<-iD];refine au (λ_ s=>uN (f:=lp) x1 _ s) ?_;have hrm:aG (y.rl.map kM)=aG (y2.rl.map kM):=by
   rw[yV];show aG (y.rl.map kM)=aG ((y.rl.set c _).map kM);rw[afO,show kM ⟨{C.rw c with pgs:=(C.rw c).pgs+1},z.a,z.c⟩=kM z from by unfold kM;rw[z2],gn (by rw[aa6,z1];rfl)]
  rw[hrm];have hpl2:y.pl.set k ⟨C.fF k c,some gb,some tb,x.ob⟩=y2.pl:=by rw[yV]
  rw[hpl2]at Zk⊢;rw[<-Zk];refine au (H':=mU b D y2) (by rw[hD,yV];exact Eh) ?_;unfold mU;refine Lp (oC CF rfl rfl (J) (.cons .here (.cons .here (.cons .here (.cons .here (.cons .here (.cons .here (.cons .here (.cons .here .nil)))))))) CI ?_);rintro v H' ⟨rfl,zz,hzz,a3,c3,rfl,nj⟩;refine aX ?_;obtain⟨Y,hY⟩:∃Y:Lc,Y={y2 with rl:=y2.rl.set c ⟨(k7 D k).rw c,a3,c3⟩}:=⟨_,rfl⟩;rw[<-hY]at nj;have hsp1:1<=C.spare:=by
   have h1:=jX y9 (lT (C:=C) (i:=k) (by rw[K.pl];exact cL));rw[K.sp];have:y9 (C.pg k)=1:=by unfold y9;rw[if_neg (by rw[ho];simp)]
   rw[this]at h1;exact h1
  have De:(cH (k7 D k) Y).set (0+11) (CO CN ((C.spare:Int)-1))=cH (C.ct k c) Y:=by
   rw[show((C.spare:Int)-1)=((C.spare-1:Nat):Int) by omega,hD];rfl
  have h11:(cH (k7 D k) Y)[0+11]?=some (CO CN C.spare):=by rw[hD];rfl
  have hlc:gN (C.ct k c) Y:=by
   refine⟨?_, ?_,nj.pk,by have:=nj.aj;rw[hD]at this;exact this,by have:=nj.pgs;rw[hD]at this;exact this⟩
   ·rw[nj.pl,hD];rfl
   rw[nj.rl];unfold k7;dsimp only;rw[cR,hDr,hDp];have e1:D.iW k c (C.fF k c).tk=C.iW k c (aaS (C.aj/C.sz c) false):=by rw[hD];rfl
   rw[e1,hD];dsimp only;rw[afN];rfl
  refine au (H':= [af b 179 (cH (k7 D k) Y),n9 C y,af y.pb 227 (Y.pl.flatMap dD),aG (Y.pl.map lp),af y.rb 196 (Y.rl.flatMap dZ),aG (Y.rl.map kM),af y.a 249 (iq y.ab C.aj (C.n*C.aj)),af y.ab 5 (dI C.A (C.n*C.aj))]) (by rw[hY,hD,yV];exact Eh) ?_;have AW:0+11<(cH (k7 D k) Y).length:=by unfold cH;simp
  obtain⟨sc,hsc⟩:∃sc,sc=cH (k7 D k) Y:=⟨_,rfl⟩;rw[<-hsc]at h11 AW De⊢;refine cC ?_;rw[De];refine au (H':=mU b (C.ct k c) Y) (by rw[hY,yV];exact Eh) ?_;unfold mU;refine Rt [af b 179 (cH (C.ct k c) Y),n9 (C.ct k c) Y,af Y.pb 227 (Y.pl.flatMap dD),aG (Y.pl.map lp),af Y.rb 196 (Y.rl.flatMap dZ),aG (Y.rl.map kM),af Y.a 249 (iq Y.ab (C.ct k c).aj ((C.ct k c).n*(C.ct k c).aj)),af Y.ab 5 (dI (C.ct k c).A ((C.ct k c).n*(C.ct k c).aj))] results219 ?_;exact⟨rfl,Y,hlc,by rw[hY,yV],rfl⟩
 intro hk;replace hk:=aS hk;obtain rfl:k=C.n:=by omega
 rw[Fl (by rw[K.pl];exact rp)];refine cA ?_;refine Rt [af b 179 (cH C y),n9 C y,af y.pb 227 (y.pl.flatMap dD),aG (y.pl.map lp),af y.rb 196 (y.rl.flatMap dZ),aG (y.rl.map kM),af y.a 249 (iq y.ab C.aj (C.n*C.aj)),af y.ab 5 (dI C.A (C.n*C.aj))] results219 ?_;exact⟨rfl,rfl⟩
theorem XX{p P o:Nat}(h:p % P+o<P):(p+o) % P=p % P+o:=by
 rw[Nat.add_mod,afE (show o<P by omega),afE h]
theorem Kg (l:List Bool)(k:Nat)(b:Bool):(sP l).set k (.bool b)=sP (l.set k b):=by unfold sP;rw[afO]
theorem Tc{C:Cs}{x:vx}{i gb tb:Nat}(e:x.p=C.pg i)(hg:x.gb=some gb)(ht:x.tb=some tb):lp x=aG [af gb 149 (aM (C.pg i).bd),af tb 4 (sP (C.pg i).tk),C0 x.ob (jM (C.pg i).old)]:=by
 unfold lp;rw[hg,ht,e];rfl
theorem XE{a:Option Addr}{c e:Nat}{xs ys:List Value}{H:List aa}{k:Hp}(s:ai (own a c e 1 (xs++ys)::H) k):ai (own a c e 1 xs::H) k:=bB (λ_ p=>XF p) s
def OR (b:Nat)(C:Cs)(y:Lc)(i c gb tb:Nat)(x:vx)(z:FW):List aa:=
 [own z.a z.c 3 1 (aA (C.rw c).free),af gb 149 (aM (C.pg i).bd),af tb 4 (sP (C.pg i).tk),af y.pb 227 (y.pl.flatMap dD),af y.rb 196 (y.rl.flatMap dZ),af b 179 (cH C y),n9 C y,
  af y.a 249 (iq y.ab C.aj (C.n*C.aj)),af y.ab 5 (dI C.A (C.n*C.aj)),C0 x.ob (jM (C.pg i).old),aG ((y.pl.eraseIdx i).map lp),aG ((y.rl.eraseIdx c).map kM)]
theorem Bz{b:Nat}{C:Cs}{y:Lc}{i c gb tb:Nat}{x:vx}{z:FW}{n:Nat}{ds:List Deferred}{F:dC}{K:Act->World->Prop}{σ:aZ}
  (x1:y.pl[i]?=some x) (e:x.p=C.pg i) (hg:x.gb=some gb) (ht:x.tb=some tb) (z1:y.rl[c]?=some z) (ze:z.r=C.rw c)
  (h:G n ds F K σ (OR b C y i c gb tb x z)):G n ds F K σ (mU b C y):=by
 unfold mU;refine Hh (H':= [aG (y.pl.map lp),aG (y.rl.map kM),af b 179 (cH C y),n9 C y,af y.pb 227 (y.pl.flatMap dD),af y.rb 196 (y.rl.flatMap dZ),af y.a 249 (iq y.ab C.aj (C.n*C.aj)),af y.ab 5 (dI C.A (C.n*C.aj))]) ?_;refine au (λ_ s=>wV x1 s) ?_;rw[Tc e hg ht];refine mP ?_;refine Hh (H':= [aG (y.rl.map kM),af gb 149 (aM (C.pg i).bd),af tb 4 (sP (C.pg i).tk),C0 x.ob (jM (C.pg i).old),aG ((y.pl.eraseIdx i).map lp),af b 179 (cH C y),n9 C y,af y.pb 227 (y.pl.flatMap dD),af y.rb 196 (y.rl.flatMap dZ),af y.a 249 (iq y.ab C.aj (C.n*C.aj)),af y.ab 5 (dI C.A (C.n*C.aj))]) ?_;refine au (λ_ s=>wV z1 s) ?_;rw[show kM z=own z.a z.c 3 1 (aA (C.rw c).free)from by unfold kM;rw[ze]];exact Hh h
theorem sI{b:Nat}{C D:Cs}{y:Lc}{i c gb tb:Nat}{x:vx}{z:FW}{fr:List Nat}{bd:List Nat}{tk:List Bool}{a:Option Addr}{cc:Nat}{r:Rw}{p:Pg}{k:Hp}(hy:gN C y)
  (x1:y.pl[i]?=some x) (e:x.p=C.pg i) (hg:x.gb=some gb) (ht:x.tb=some tb) (z1:y.rl[c]?=some z)
  (hD:D.bc=C.bc.set i p) (hR:D.rows=C.rows.set c r) (h1:D.aj=C.aj) (h2:D.n=C.n) (h3:D.ae=C.ae) (h4:D.spare=C.spare) (h5:D.cfg=C.cfg) (FD:r.free=fr) (iD:p.bd=bd) (hpt:p.tk=tk) (hpo:p.own=(C.pg i).own) (hold:p.old=(C.pg i).old)
  (s:ai [own a cc 3 1 (aA fr),af gb 149 (aM bd),af tb 4 (sP tk),af y.pb 227 ((y.pl.set i ⟨p,some gb,some tb,x.ob⟩).flatMap dD),af y.rb 196 ((y.rl.set c ⟨r,a,cc⟩).flatMap dZ),af b 179 (cH C y),n9 C y,
   af y.a 249 (iq y.ab C.aj (C.n*C.aj)),af y.ab 5 (dI D.A (C.n*C.aj)),C0 x.ob (jM (C.pg i).old),aG ((y.pl.eraseIdx i).map lp),aG ((y.rl.eraseIdx c).map kM)] k):ai [Cl b D] k:=by
 have e2:aG [af gb 149 (aM bd),af tb 4 (sP tk),C0 x.ob (jM (C.pg i).old)]=lp ⟨p,some gb,some tb,x.ob⟩:=by
  unfold lp;rw[<-iD,<-hpt,<-hold];rfl
 have e3:own a cc 3 1 (aA fr)=kM ⟨r,a,cc⟩:=by unfold kM;rw[FD]
 have s1:ai [af gb 149 (aM bd),af tb 4 (sP tk),C0 x.ob (jM (C.pg i).old),aG ((y.pl.eraseIdx i).map lp),own a cc 3 1 (aA fr),aG ((y.rl.eraseIdx c).map kM),af y.pb 227 ((y.pl.set i ⟨p,some gb,some tb,x.ob⟩).flatMap dD),af y.rb 196 ((y.rl.set c ⟨r,a,cc⟩).flatMap dZ),af b 179 (cH C y),n9 C y,af y.a 249 (iq y.ab C.aj (C.n*C.aj)),af y.ab 5 (dI D.A (C.n*C.aj))] k:=by refine(?_:∀h,ai _ h->ai _ h) k s;exact Eh
 have s2:=dU (L:= [_,_,_]) s1;rw[e2]at s2;have s3:=uN (f:=lp) x1 _ s2;rw[e3]at s3;have s4:ai [kM ⟨r,a,cc⟩,aG ((y.rl.eraseIdx c).map kM),aG ((y.pl.set i ⟨p,some gb,some tb,x.ob⟩).map lp),af y.pb 227 ((y.pl.set i ⟨p,some gb,some tb,x.ob⟩).flatMap dD),af y.rb 196 ((y.rl.set c ⟨r,a,cc⟩).flatMap dZ),af b 179 (cH C y),n9 C y,af y.a 249 (iq y.ab C.aj (C.n*C.aj)),af y.ab 5 (dI D.A (C.n*C.aj))] k:=by refine(?_:∀h,ai _ h->ai _ h) k s3;exact Eh
 have s5:=uN (f:=kM) z1 _ s4;have yV:gN D {y with pl:=y.pl.set i ⟨p,some gb,some tb,x.ob⟩,rl:=y.rl.set c ⟨r,a,cc⟩}:=by
  refine⟨by rw[hD,<-hy.pl,afO],by rw[hR,<-hy.rl,afO],λu hu=> ?_,by rw[h5,h1];exact hy.aj,by rw[h5,h2];exact hy.pgs⟩;have P:=hy.pk x (aaT x1);rcases afM hu with h|rfl
  ·exact hy.pk u h
  refine⟨?_, ?_,λh=> ?_⟩
  ·dsimp only;rw[hpo,<-e,<-P.g,hg]
  ·dsimp only;rw[hpo,<-e,<-P.t,ht]
  dsimp only;rw[hold,<-e];exact P.o h
 refine qk (H:= []) yV ?_;have hs:cH D {y with pl:=y.pl.set i ⟨p,some gb,some tb,x.ob⟩,rl:=y.rl.set c ⟨r,a,cc⟩}=cH C y:=by unfold cH;rw[h1,h2,h3,h4,h5]
 have hz:n9 D {y with pl:=y.pl.set i ⟨p,some gb,some tb,x.ob⟩,rl:=y.rl.set c ⟨r,a,cc⟩}=n9 C y:=by unfold n9;rw[h3]
 unfold mU;rw[hs,hz,h1,h2];refine(?_:∀h,ai _ h->ai _ h) k s5;exact Eh
theorem aiN (a:Option Addr)(m:Nat):Be a 0 m (0*1)=a:=by
 unfold Be
 split
 ·rfl
 ·cases a<;>simp[Addr.add]
theorem AE{C:Cs}{i c m:Nat}(hm:0<m):C.iW i c (aaS m false)≠ []:=by
 unfold iW;intro h;rw[List.map_eq_nil_iff,List.filter_eq_nil_iff]at h;refine h 0 (by simp;omega) ?_;rw[List.getElem?_replicate,if_pos hm];rfl
theorem TW{α:Type}(l:List α){m:List α}(h:m≠ []):(l++m).getLast?=m.getLast?:=by
 rw[List.getLast?_append,af1 h];rfl
theorem yh{C:Cs}(K:Ok C){i c:Nat}(hc:c<C.ae.length):∃p,((C.ct i c).rw c).free.getLast?=some p:=by
 have h:=xz C c c {C.rw c with pgs:=(C.rw c).pgs+1,fZ:=(C.rw c).fZ+1,free:=(C.rw c).free++C.iW i c (aaS (C.aj/C.sz c) false)} (by rw[K.rl];exact hc);rw[if_pos rfl]at h;have h2:(C.ct i c).rw c=_:=h;obtain⟨z1,z2,_⟩:=K.toFix.sz hc;have hm:0<C.aj/C.sz c:=Nat.div_pos z2 (by omega);rw[h2];dsimp only;rw[TW _ (AE hm)];exact⟨_,af1 (AE hm)⟩
theorem Jc{α:Type}(f:α->Nat)(B:Nat):∀l:List α,(∀x∈l,f x<=B)->(l.map f).sum<=l.length*B
 | [],_=>by simp
 |x::l,h=>by
  have h1:=Jc f B l λy hy=>h y (aaW _ hy);have h2:=h x (aaV ..);simp only[aaX,aa8,afn,af0,agb];omega
theorem wQ{C:Cs}(K:Ok C){x:Pg}(hx:x∈C.bc):x.held<=1048576:=by
 have P:=K.pg x hx;have f1:=K.toFix.p1;rw[P.held];have h1:(x.tk.map bN).sum<=x.tk.length:=xy bN (λb=>by cases b<;>decide) _;have h4:=P.tl;by_cases ho:x.own=true
 ·have h2:=P.gl ho
  have h3:=afP C.aj (C.sz x.cl);omega
 have:=(P.no (by simpa using ho)).1;rw[this]at h4;simp at h4;rw[h4]at h1⊢;simp
theorem Bj{C:Cs}(K:Ok C){c:Nat}(hc:c<C.ae.length):(C.rw c).dL<=1073741824:=by
 rw[K.ft c hc];have h1:=Jc (v7 c) 1048576 C.bc λx hx=>by
  unfold v7
  split
  ·exact wQ K hx
  omega
 have h2:=K.toFix.n1;have h3:=K.toFix.pl;unfold zI;omega
theorem I8 (b:Nat)(C:Cs)(K:Ok C)(c:Nat)(hc:c<C.ae.length):aO aaO 157 [CM b,CO CN c] (λ_=>True) [Cl b C]
  (λv H=>match C.eD c with
   |none=>v= .tuple #[CO CJ 0,CO CN 21]/\H= [Cl b C]
   |some (p,D)=>v= .tuple #[CO CJ (D.hd p),CO CN 0]/\H= [Cl b D]):=by
 refine tz λy hy=> ?_;have l1:=K.toFix.l1;refine ag func157 rfl ntmps157 rfl ?_;intro F _;change G _ _ _ _ _ [af b 179 (cH C y),n9 C y,af y.pb 227 (y.pl.flatMap dD),aG (y.pl.map lp),af y.rb 196 (y.rl.flatMap dZ),aG (y.rl.map kM),af y.a 249 (iq y.ab C.aj (C.n*C.aj)),af y.ab 5 (dI C.A (C.n*C.aj))];refine dm ?_;refine zl CF (zQ b C y K (c:Int)) .nil (λ_ _ ao=>⟨ao.nth 0 rfl,ao.nth 1 rfl,ao.nth 2 rfl,ao.nth 3 rfl,ao.nth 4 rfl,ao.nth 5 rfl,ao.nth 6 rfl,ao.nth 7 rfl,trivial⟩) ?_;rw[show VV C (c:Int)=true from decide_eq_true ⟨by omega,by omega⟩];obtain⟨z,z1,z2⟩:=xI K hy hc;have r0:(y.rl.flatMap dZ)[c*4]?=some (.slice z.a (C.rw c).free.length z.c):=by
  have:=bo cz z1 (j:=0) rfl;rw[z2]at this;exact this
 refine mF ?_;refine aw ?_;refine dt (ι:=Bool×Cs×Lc×Nat) [20,21,22,23,24,25,26,27,28,29,30,31] (λ(ok,D,Y,p)=>(ok=true->Ok D/\gN D Y/\Y.rb=y.rb/\c<D.ae.length/\(D.rw c).free.getLast?=some p/\C.eD c=some (p,D.iJ c p))/\(ok=false->D=C/\Y=y/\C.eD c=none)) (λ(ok,D,Y,p)=> [(31, .bool (!ok))]) (λ(ok,D,Y,p)=> [af b 179 (cH D Y),n9 D Y,af Y.pb 227 (Y.pl.flatMap dD),aG (Y.pl.map lp),af Y.rb 196 (Y.rl.flatMap dZ),aG (Y.rl.map kM),af Y.a 249 (iq Y.ab D.aj (D.n*D.aj)),af Y.ab 5 (dI D.A (D.n*D.aj))]) ?_ ?_
 ·rcases e:(C.rw c).free.getLast? with _|p
  ·have hem:(C.rw c).free= []:=List.getLast?_eq_none_iff.1 e
   refine dm ?_;refine zt 26 ?_ (e:=by exact decide_eq_true (by rw[hem];rfl));refine bA ?_;refine Lp (oC CF rfl rfl (R8 b C y K hy c hc) (.cons .here (.cons .here (.cons .here (.cons .here (.cons .here (.cons .here (.cons .here (.cons .here .nil)))))))) CI ?_);rintro v H' hw;refine aX ?_;rcases e2:C.gA with _|i
   ·rw[e2]at hw
    obtain⟨rfl,rfl⟩:=hw;refine bA ?_;refine aF ?_;refine Me ((false,C,y,0)) (⟨λh=>(by cases h),λ_=>⟨rfl,rfl,by unfold eD;rw[e,e2]⟩⟩)
   rw[e2]at hw;obtain⟨rfl,Y,hY,FN,rfl⟩:=hw;obtain⟨p,hp⟩:=yh K (i:=i) hc;have hi:i<C.n/\(C.pg i).own=false:=by
    unfold gA at e2;rw[abc]at e2;obtain⟨q1,q2,_⟩:=e2;refine⟨by rw[<-K.pl];exact q1, ?_⟩;have:=lT (C:=C) q1;rw[aaQ q1]at this;rw[<-Option.some.inj this];simpa using q2
   refine bA ?_;refine aF ?_;refine Me ((true,C.ct i c,Y,p)) (⟨λ_=>⟨zY K hi.1 hc hi.2,hY,FN,hc,hp,by unfold eD;rw[e,e2];dsimp only;rw[hp]⟩,λh=>(by cases h)⟩)
  have fN:(C.rw c).free≠ []:=λh=>by rw[h]at e;cases e
  have KH:0<(C.rw c).free.length:=List.length_pos_iff.2 fN;refine dm ?_;refine zf 26 ?_;refine bE ?_;refine aF ?_;refine Me ((true,C,y,p)) (⟨λ_=>⟨K,hy,rfl,hc,e,by unfold eD;rw[e]⟩,λh=>by cases h⟩)
 rintro⟨ok,D,Y,p⟩ ⟨h1,h2⟩
 try dsimp only at hI⊢
 rcases ok with _|_
 ·obtain⟨rfl,rfl,h3⟩:=h2 rfl
  rw[h3];refine bR ?_;refine au (H':= [Cl b D]) (λ_ s=>qk (H:= []) hy s) ?_;refine jE [Cl b D] results157 ?_;exact⟨rfl,rfl⟩
 obtain⟨KD,hY,FN,hcD,hp,CR⟩:=h1 rfl;rw[CR];dsimp only
 clear h1 h2 CR
 refine av ?_;rw[<-FN];obtain⟨KO,S,Fp⟩:=xN KD hp;have L:=Fp.toAt;have cR:=Fp.cl;obtain⟨n1,n2,n3,n4,n5,n6,n7,n8⟩:=L.bn KD;have nb:=fO KD.toFix;have g0:=KD.toFix.p0;have g1:=KD.toFix.p1;have hgl:=Live.xC KD L;rw[cR]at n2 n3 n4 n6 n7 n8;obtain⟨x,x1,x2,x3⟩:=tF KD hY L.i;obtain⟨gb,uk⟩:∃g,x.gb=some g:=Option.isSome_iff_exists.1 (x3.g.trans (by rw[x2];exact L.own));obtain⟨tb,ui⟩:∃g,x.tb=some g:=Option.isSome_iff_exists.1 (x3.t.trans (by rw[x2];exact L.own));obtain⟨z3,w1,w2⟩:=xI KD hY hcD;have P:=KD.xq L.i;have ek:=L.k;have etk:=Fp.tk;have hixp:p % D.aj/D.sz c=D.ix p:=FC (c:=c) (i:=D.pn p) cR rfl;have hTl:=wQ KD (ey (C:=D) (i:=D.pn p) (by rw[KD.pl];exact L.i));have hTk:=Bj KD hcD;have hfb:=kF KD c;have fN:(D.rw c).free≠ []:=λh=>by rw[h]at hp;cases hp
 have qZ:(D.rw c).free=(D.rw c).free.dropLast++ [p]:=by
  have:=ajH fN;rw[af1 fN]at hp;rw[Option.some.inj hp]at this;exact this.symm
 obtain⟨f0,hf0⟩:∃f0,f0=(D.rw c).free.dropLast:=⟨_,rfl⟩;rw[<-hf0]at qZ;have hlen:(D.rw c).free.length=f0.length+1:=by rw[qZ];simp
 have r0:(Y.rl.flatMap dZ)[c*4]?=some (.slice z3.a (f0.length+1) z3.c):=by
  have:=bo cz w1 (j:=0) (v:= .slice z3.a z3.r.free.length z3.c) rfl;rw[w2,hlen]at this;exact this
 have pk3:(Y.pl.flatMap dD)[D.pn p*7+3]?=some (.slice (some ⟨gb,0,none⟩) (D.pg (D.pn p)).bd.length (D.pg (D.pn p)).bd.length):=by
  have:=bo bU x1 (j:=3) rfl;rw[uk,x2]at this;exact this
 have pk4:(Y.pl.flatMap dD)[D.pn p*7+4]?=some (.slice (some ⟨tb,0,none⟩) (D.pg (D.pn p)).bd.length (D.pg (D.pn p)).bd.length):=by
  have:=bo bU x1 (j:=4) rfl;rw[ui,x2,P.tl]at this;exact this
 have pk5:(Y.pl.flatMap dD)[D.pn p*7+5]?=some (CO CN ((D.pg (D.pn p)).held)):=by
  have:=bo bU x1 (j:=5) rfl;rw[x2]at this;exact this
 refine Bz x1 x2 uk ui w1 w2 ?_;unfold OR;rw[qZ];refine kT (gp .here λ_ o=>(oD o).some (by rw[fg];simp)) λsa=> ?_;refine kT (gp .here XG) λscap=> ?_;rw[fg,aaZ,afV]at scap;have kl:(aA (f0++ [p]))[f0.length]?=some (CO CN p):=eB (by simp);refine bA ?_;refine aw ?_;refine gT false mix ?_;refine bM ?_;refine Ti ((Ix ja (j:=f0.length) (hj:=by omega))) ?_;refine bz ?_;refine aw ?_;refine gT false mix ?_;refine bW ?_;refine Ti (Sl 0 f0.length z3.c ja) ?_;rw[aiN];have e1:(Y.rl.flatMap dZ).set (c*4+0) (.slice z3.a f0.length z3.c)=(Y.rl.set c ⟨{D.rw c with free:=f0},z3.a,z3.c⟩).flatMap dZ:=cj cz w1 (by unfold dZ;rw[w2];rfl) (by decide);have e2:((Y.rl.set c ⟨{D.rw c with free:=f0},z3.a,z3.c⟩).flatMap dZ).set (c*4+1) (CO CN ((D.rw c).dL+1))=(Y.rl.set c ⟨{D.rw c with free:=f0,dL:=(D.rw c).dL+1},z3.a,z3.c⟩).flatMap dZ:=by
  have:=cj (l:=Y.rl.set c ⟨{D.rw c with free:=f0},z3.a,z3.c⟩) (i:=c) (j:=1) (v:=CO CN ((D.rw c).dL+1)) (a':=(⟨{D.rw c with free:=f0,dL:=(D.rw c).dL+1},z3.a,z3.c⟩:FW)) cz (aaU (aaR.1 w1).1) (by unfold dZ;rfl) (by decide);rw[afN]at this;exact this
 have r1:((Y.rl.set c ⟨{D.rw c with free:=f0},z3.a,z3.c⟩).flatMap dZ)[c*4+1]?=some (CO CN ((D.rw c).dL)):=bo cz (aaU (aaR.1 w1).1) rfl;have hl4:c*4+4<=(Y.rl.flatMap dZ).length:=by
  rw[eK cz];have:=(aaR.1 w1).1;omega
 have hl5:c*4+4<=((Y.rl.set c ⟨{D.rw c with free:=f0},z3.a,z3.c⟩).flatMap dZ).length:=by
  rw[eK cz,aaY];have:=(aaR.1 w1).1;omega
 generalize AV:Y.rl.flatMap dZ=c1 at*;refine bm ?_;refine aw ?_;rw[ajy,ajy,e1];generalize rB:(Y.rl.set c ⟨{D.rw c with free:=f0},z3.a,z3.c⟩).flatMap dZ=c2 at*;refine bM ?_;refine aw ?_;rw[e2];have e3:(Y.pl.flatMap dD).set (p/D.aj*7+5) (CO CN ((D.pg (D.pn p)).held+1))=(Y.pl.set (D.pn p) ⟨{D.pg (D.pn p)with tk:=(D.pg (D.pn p)).tk.set (D.ix p) true,held:=(D.pg (D.pn p)).held+1},some gb,some tb,x.ob⟩).flatMap dD:=
  cj (j:=5) bU x1 (by unfold dD;rw[x2,uk,ui];dsimp only;rw[aaY];rfl) (by decide)
 have hmp:=ai4 p (show 0<D.aj by omega);have pk3b:((Y.pl.set (D.pn p) ⟨{D.pg (D.pn p)with tk:=(D.pg (D.pn p)).tk.set (D.ix p) true,held:=(D.pg (D.pn p)).held+1},some gb,some tb,x.ob⟩).flatMap dD)[D.pn p*7+3]?=some (.slice (some ⟨gb,0,none⟩) (D.pg (D.pn p)).bd.length (D.pg (D.pn p)).bd.length):=bo bU (j:=3) (aaU (aaR.1 x1).1) rfl;have hl7:p/D.aj*7+7<=(Y.pl.flatMap dD).length:=by
  rw[eK bU];have:=(aaR.1 x1).1;unfold Cs.pn at this;omega
 generalize hc3:Y.pl.flatMap dD=c3 at*;have hi:=L.i;have hti:D.ix p<(sP (D.pg (D.pn p)).tk).length:=by rw[Kh,P.tl];exact ek
 have kg:=ow (tD ek);refine gT false mix ?_;refine bM ?_;refine Ti (Qu) ?_;refine bz ?_;refine aw ?_;refine gT false mix ?_;refine bG ?_;refine Ti (Rm) ?_;refine bG ?_;refine Tp (oL bC ?_ (hk:=PC hcD (by repeat (first|exact fD.here|apply fD.there))));refine Ti (Qu) ?_;refine bA ?_;refine aw ?_;rw[hixp];refine cA ?_;refine aw ?_;rw[Kg];refine bM ?_;refine aw ?_;rw[e3];have pm:p % D.aj=D.ix p*D.sz c:=by
  have h1:=agp p D.aj;rw[afS]at h1;unfold Cs.pn at n6;omega
 refine bG ?_;refine zl CF (Ig Y.a Y.ab D.aj (D.n*D.aj) p 56 D.A 0 (by decide) (by omega) (by omega) (by omega) (by omega) g1) (.cons (.there (.there (.there (.there (.there (.there (.there (.there .here)))))))) .nil) (λ_ _ ao=>ao.nth 7 rfl) ?_;refine av ?_;refine aw ?_;refine gT false mix ?_;refine gz ?_;refine Tp (oC CF rfl rfl (yz Y.a Y.ab D.aj (D.n*D.aj) (p+12) (D.gen p) (lay D.A p (aaS 56 0)) hgl (by omega) (by omega) (by omega) (by rw[XX (by omega)];omega) g1) (.cons .here .nil) (λ_ _ ao=>ao.nth 7 rfl) ?_);rintro v H' ⟨rfl,rfl⟩;refine aX ?_;refine bM ?_;refine zl CF (vg p (D.gen p) (by omega) hgl) .nil CI ?_;refine bm ?_;rw[gy f0 [p]];refine Hh (H':= [own z3.a z3.c 3 1 (aA f0++aA [p]),af gb 149 (aM (D.pg (D.pn p)).bd),af tb 4 (sP ((D.pg (D.pn p)).tk.set (D.ix p) true)),af Y.pb 227 ((Y.pl.set (D.pn p) ⟨{D.pg (D.pn p)with tk:=(D.pg (D.pn p)).tk.set (D.ix p) true,held:=(D.pg (D.pn p)).held+1},some gb,some tb,x.ob⟩).flatMap dD),af Y.rb 196 ((Y.rl.set c ⟨{D.rw c with free:=f0,dL:=(D.rw c).dL+1},z3.a,z3.c⟩).flatMap dZ),af b 179 (cH D Y),n9 D Y,af Y.a 249 (iq Y.ab D.aj (D.n*D.aj)),af Y.ab 5 (dI (wr (lay D.A p (aaS 56 0)) (p+12) 4 (D.gen p)) (D.n*D.aj)),C0 x.ob (jM (D.pg (D.pn p)).old),aG ((Y.pl.eraseIdx (D.pn p)).map lp),aG ((Y.rl.eraseIdx c).map kM)]) ?_;refine au (λ_ s=>XE s) ?_;refine au (H':= [Cl b (D.iJ c p)]) (λ_ s=>sI (D:=D.iJ c p) (r:={D.rw c with free:=f0,dL:=(D.rw c).dL+1}) (p:={D.pg (D.pn p)with tk:=(D.pg (D.pn p)).tk.set (D.ix p) true,held:=(D.pg (D.pn p)).held+1}) hY x1 x2 uk ui w1 rfl (by unfold iJ put;rw[<-hf0]) rfl rfl rfl rfl rfl rfl rfl rfl rfl rfl s) ?_;refine jE [Cl b (D.iJ c p)] results157 ?_;refine⟨?_,rfl⟩;have e5:(D.iJ c p).hd p=D.gen p*4294967296+(p/8+1):=by
  unfold Cs.hd;have:(D.iJ c p).gen p=D.gen p:=by
   unfold Cs.gen;rw[S.pn,S.ix,show(D.iJ c p).pg (D.pn p)=_ from mX (by rw[KD.pl];exact L.i) _,if_pos rfl]
  rw[this]
 rw[e5]
theorem yw{α:Type}{f:α->List Value}{k:Nat}(hf:∀a,(f a).length=k){l:List α}{i j:Nat}{b a':α}{v:Value}(h:i<l.length)(hv:(f b).set j v=f a')(hj:j<k):((l.set i b).flatMap f).set (i*k+j) v=(l.set i a').flatMap f:=by
 have:=cj (l:=l.set i b) (i:=i) (j:=j) (v:=v) (a':=a') hf (aaU h) hv hj;rw[afN]at this;exact this
structure Pv (C:Cs)(y:Lc)(i c gb tb:Nat)(x:vx)(z:FW):Prop where
 x1:y.pl[i]?=some x
 x2:x.p=C.pg i
 g:x.gb=some gb
 t:x.tb=some tb
 z1:y.rl[c]?=some z
 z2:z.r=C.rw c
 p1:(y.pl.flatMap dD)[i*7+1]?=some (.bool (C.pg i).lv)
 p2:(y.pl.flatMap dD)[i*7+2]?=some (CO CN c)
 p3:(y.pl.flatMap dD)[i*7+3]?=some (.slice (some ⟨gb,0,none⟩) (C.pg i).bd.length (C.pg i).bd.length)
 p4:(y.pl.flatMap dD)[i*7+4]?=some (.slice (some ⟨tb,0,none⟩) (C.pg i).bd.length (C.pg i).bd.length)
 p5:(y.pl.flatMap dD)[i*7+5]?=some (CO CN ((C.pg i).held))
 p6:(y.pl.flatMap dD)[i*7+6]?=some (.map x.ob)
 r0:(y.rl.flatMap dZ)[c*4+0]?=some (.slice z.a (C.rw c).free.length z.c)
 r1:(y.rl.flatMap dZ)[c*4+1]?=some (CO CN ((C.rw c).dL))
 r2:(y.rl.flatMap dZ)[c*4+2]?=some (CO CN ((C.rw c).pgs))
 r3:(y.rl.flatMap dZ)[c*4+3]?=some (CO CN ((C.rw c).fZ))
 hp:i*7+7<=(y.pl.flatMap dD).length
 hr:c*4+4<=(y.rl.flatMap dZ).length
 ip:i<y.pl.length
 ir:c<y.rl.length
theorem II{C:Cs}{y:Lc}(K:Ok C)(hy:gN C y){i c:Nat}(hi:i<C.n)(ho:(C.pg i).own=true)(hc:(C.pg i).cl=c):∃gb tb x z,Pv C y i c gb tb x z:=by
 obtain⟨x,x1,x2,x3⟩:=tF K hy hi;obtain⟨gb,uk⟩:∃g,x.gb=some g:=Option.isSome_iff_exists.1 (x3.g.trans (by rw[x2];exact ho));obtain⟨tb,ui⟩:∃g,x.tb=some g:=Option.isSome_iff_exists.1 (x3.t.trans (by rw[x2];exact ho));have P:lA C (C.pg i):=K.pg _ (ey (by rw[K.pl];exact hi));have hG:c<C.ae.length:=by rw[<-hc];exact P.cl ho
 obtain⟨z,z1,z2⟩:=xI K hy hG;have tl:=P.tl;have q:∀j v,(dD x)[j]?=some v->(y.pl.flatMap dD)[i*7+j]?=some v:=λj v hv=>bo bU x1 hv;have r:∀j v,(dZ z)[j]?=some v->(y.rl.flatMap dZ)[c*4+j]?=some v:=λj v hv=>bo cz z1 hv;have ip:=(aaR.1 x1).1;have ir:=(aaR.1 z1).1;refine⟨gb,tb,x,z,x1,x2,uk,ui,z1,z2, ?_, ?_, ?_, ?_, ?_, ?_, ?_, ?_, ?_, ?_,by rw[eK bU];omega,by rw[eK cz];omega,ip,ir⟩
 ·have:=q 1 _ rfl;rw[x2]at this;exact this
 ·have:=q 2 _ rfl;rw[x2,hc]at this;exact this
 ·have:=q 3 _ rfl;rw[uk,x2]at this;exact this
 ·have:=q 4 _ rfl;rw[ui,x2,tl]at this;exact this
 ·have:=q 5 _ rfl;rw[x2]at this;exact this
 ·have:=q 6 _ rfl;exact this
 ·have:=r 0 _ rfl;rw[z2]at this;exact this
 ·have:=r 1 _ rfl;rw[z2]at this;exact this
 ·have:=r 2 _ rfl;rw[z2]at this;exact this
 have:=r 3 _ rfl;rw[z2]at this;exact this
theorem WN (g:Nat):gG .add .u32 (g:Int) 1=some (((g+1) % 4294967296:Nat):Int):=congrArg some (by rw[IntKind.wrap_u32];omega)
set_option maxHeartbeats 1000000 in
theorem JW (b:Nat)(C:Cs)(K:Ok C)(p:Nat)(L:Live C p):aO aaO 163 [CM b,CO CJ (C.hd p)] (λ_=>True) [Cl b C] (λv H=>v=CO CN 0/\H= [Cl b (C.bq p)]):=by
 refine tz λy hy=> ?_;have hG:=(L.toAt.bn K).1;obtain⟨_,_,_,_,_,n6,n7,n8⟩:=L.toAt.bn K;have nb:=fO K.toFix;have hheld:=wQ K (ey (C:=C) (i:=C.pn p) (by rw[K.pl];exact L.i));have htkn:=Bj K hG;have Z2:=kF K (C.cl p);obtain⟨gb,tb,x,z,V⟩:=II (c:=C.cl p) K hy L.i L.own rfl;obtain⟨x1,x2,uk,ui,z1,z2,p1,p2,p3,p4,p5,p6,r0,r1,r2,r3,hp7,FO,ip,ir⟩:=V;have P:=K.xq L.i;have hti:C.ix p<(sP (C.pg (C.pn p)).tk).length:=by rw[Kh,P.tl];exact L.k
 have hgi:C.ix p<(aM (C.pg (C.pn p)).bd).length:=by rw[mc];exact L.k
 have kg:=ow (tD L.k);have ek:=L.k;have hh1:1<=(C.pg (C.pn p)).held:=by
  rw[P.held];have:=jX bN L.tk;exact this
 have ht1:1<=(C.rw (C.cl p)).dL:=by
  rw[K.ft _ hG];have h1:=jX (v7 (C.cl p)) (lT (C:=C) (i:=C.pn p) (by rw[K.pl];exact L.i));rw[BO (c:=C.cl p) L.own rfl]at h1;exact ai5 hh1 h1
 refine ag func163 rfl ntmps163 rfl ?_;intro F _;change G _ _ _ _ _ (mU b C y);unfold mU;refine bG ?_;refine zl CF (J2 b C y K hy p L) .nil (λ_ _ ao=>⟨ao.nth 0 rfl,ao.nth 1 rfl,ao.nth 2 rfl,ao.nth 3 rfl,ao.nth 4 rfl,ao.nth 5 rfl,ao.nth 6 rfl,ao.nth 7 rfl,trivial⟩) ?_;refine rj ?_;change G _ _ _ _ _ (mU b C y);refine Bz (c:=C.cl p) x1 x2 uk ui z1 z2 ?_;unfold OR;have e5:(y.pl.flatMap dD).set (C.pn p*7+5) (CO CN ((C.pg (C.pn p)).held-1))=(y.pl.set (C.pn p) ⟨{C.pg (C.pn p)with tk:=(C.pg (C.pn p)).tk.set (C.ix p) false,held:=(C.pg (C.pn p)).held-1,bd:=(C.pg (C.pn p)).bd.set (C.ix p) ((C.gen p+1) % 4294967296)},some gb,some tb,x.ob⟩).flatMap dD:=
  cj (j:=5) bU x1 (by unfold dD;rw[x2,uk,ui,show((C.pg (C.pn p)).held-1:Int)=(((C.pg (C.pn p)).held-1:Nat):Int) by omega];dsimp only;rw[aaY,aaY];rfl) (by decide)
 have q1:((y.pl.set (C.pn p) ⟨{C.pg (C.pn p)with tk:=(C.pg (C.pn p)).tk.set (C.ix p) false,held:=(C.pg (C.pn p)).held-1,bd:=(C.pg (C.pn p)).bd.set (C.ix p) ((C.gen p+1) % 4294967296)},some gb,some tb,x.ob⟩).flatMap dD)[C.pn p*7+1]?=some (.bool (C.pg (C.pn p)).lv):=bo bU (j:=1) (aaU ip) rfl;have q2:((y.pl.set (C.pn p) ⟨{C.pg (C.pn p)with tk:=(C.pg (C.pn p)).tk.set (C.ix p) false,held:=(C.pg (C.pn p)).held-1,bd:=(C.pg (C.pn p)).bd.set (C.ix p) ((C.gen p+1) % 4294967296)},some gb,some tb,x.ob⟩).flatMap dD)[C.pn p*7+2]?=some (CO CN (C.cl p)):=bo bU (j:=2) (aaU ip) rfl;have q3:((y.pl.set (C.pn p) ⟨{C.pg (C.pn p)with tk:=(C.pg (C.pn p)).tk.set (C.ix p) false,held:=(C.pg (C.pn p)).held-1,bd:=(C.pg (C.pn p)).bd.set (C.ix p) ((C.gen p+1) % 4294967296)},some gb,some tb,x.ob⟩).flatMap dD)[C.pn p*7+3]?=some (.slice (some ⟨gb,0,none⟩) (C.pg (C.pn p)).bd.length (C.pg (C.pn p)).bd.length):=by
  have:=bo bU (l:=y.pl.set (C.pn p) ⟨{C.pg (C.pn p)with tk:=(C.pg (C.pn p)).tk.set (C.ix p) false,held:=(C.pg (C.pn p)).held-1,bd:=(C.pg (C.pn p)).bd.set (C.ix p) ((C.gen p+1) % 4294967296)},some gb,some tb,x.ob⟩) (i:=C.pn p) (j:=3) (aaU ip) rfl;dsimp only at this;rw[aaY]at this;exact this
 generalize AV:y.pl.flatMap dD=c1 at*;refine bW ?_;refine aw ?_;rw[Kg];refine bM ?_;refine aw ?_;rw[e5];generalize rB:(y.pl.set (C.pn p) ⟨{C.pg (C.pn p)with tk:=(C.pg (C.pn p)).tk.set (C.ix p) false,held:=(C.pg (C.pn p)).held-1,bd:=(C.pg (C.pn p)).bd.set (C.ix p) ((C.gen p+1) % 4294967296)},some gb,some tb,x.ob⟩).flatMap dD=c2 at*;refine dm ?_;refine Li ((Im (z:=(((C.gen p+1) % 4294967296:Nat):Int)) (hz:=WN _))) ?_;refine bz ?_;refine aw ?_;rw[DO];refine gT false mix ?_;refine C9 ?_;obtain⟨fr,FD⟩:∃fr,fr=if(C.pg (C.pn p)).lv=true then(C.rw (C.cl p)).free else(C.rw (C.cl p)).free++ [p]:=⟨_,rfl⟩
 refine dt (ι:=Option Addr×Nat) [56,57,58,59,60,61,62,63,64,65] (λ(a,cc)=>True) (λ(a,cc)=> []) (λ(a,cc)=> [own a cc 3 1 (aA fr),af y.rb 196 ((y.rl.set (C.cl p) ⟨{C.rw (C.cl p)with free:=fr},a,cc⟩).flatMap dZ),aG ((y.pl.eraseIdx (C.pn p)).map lp),aG ((y.rl.eraseIdx (C.cl p)).map kM),C0 x.ob (jM (C.pg (C.pn p)).old),af gb 149 (aM ((C.pg (C.pn p)).bd.set (C.ix p) ((C.gen p+1) % 4294967296))),af tb 4 (sP ((C.pg (C.pn p)).tk.set (C.ix p) false)),af y.pb 227 c2,af b 179 (cH C y),n9 C y,af y.a 249 (iq y.ab C.aj (C.n*C.aj)),af y.ab 5 (dI C.A (C.n*C.aj))]) ?_ ?_
 ·refine aE rfl ?_ ?_
  ·intro jV
   replace jV:=aS jV;have CS:(C.pg (C.pn p)).lv=false:=by simpa using jV
   rw[CS]at FD;simp only[Bool.false_eq_true,if_false]at FD;refine bR ?_;refine Lp (oT fU λb1=> ?_);refine Lp (bT fU pK rfl rfl rfl rfl .here (by rw[fg,ajs]) (rfl) (by simp[Value.oneCell']) (by omega) (by omega) rfl λa1 c1 h1=> ?_);have e7:aA (C.rw (C.cl p)).free++ [Value.int .i64 (p:Int)]=aA fr:=by rw[FD,gy _ [_]];rfl
   have e8:(y.rl.flatMap dZ).set (C.cl p*4+0) (.slice a1 ((C.rw (C.cl p)).free.length+1) c1)=(y.rl.set (C.cl p) ⟨{C.rw (C.cl p)with free:=fr},a1,c1⟩).flatMap dZ:=cj (j:=0) cz z1 (by unfold dZ;rw[z2,FD];simp) (by decide);refine bz ?_;refine aF ?_;rw[e7,e8];refine Me ((a1,c1)) (trivial)
  intro jV;replace jV:=aS jV;have CS:(C.pg (C.pn p)).lv=true:=by simpa using jV
  rw[CS]at FD;simp only[if_true]at FD;refine av ?_;have e8:y.rl.flatMap dZ=(y.rl.set (C.cl p) ⟨{C.rw (C.cl p)with free:=fr},z.a,z.c⟩).flatMap dZ:=by
   rw[gn (x:=(⟨{C.rw (C.cl p)with free:=fr},z.a,z.c⟩:FW)) (by rw[z1,FD,<-z2])]
  rw[e8,<-FD];refine Me ((z.a,z.c)) (trivial)
 rintro⟨a,cc⟩ hI
 try dsimp only at hI⊢
 have e9:((y.rl.set (C.cl p) ⟨{C.rw (C.cl p)with free:=fr},a,cc⟩).flatMap dZ).set (C.cl p*4+1) (CO CN ((C.rw (C.cl p)).dL-1))=(y.rl.set (C.cl p) ⟨{C.rw (C.cl p)with free:=fr,dL:=(C.rw (C.cl p)).dL-1},a,cc⟩).flatMap dZ:=
  yw cz ir (by unfold dZ;rw[show((C.rw (C.cl p)).dL-1:Int)=(((C.rw (C.cl p)).dL-1:Nat):Int) by omega];rfl) (by decide)
 have s1:((y.rl.set (C.cl p) ⟨{C.rw (C.cl p)with free:=fr},a,cc⟩).flatMap dZ)[C.cl p*4+1]?=some (CO CN ((C.rw (C.cl p)).dL)):=bo cz (aaU ir) rfl;have hr5:C.cl p*4+4<=((y.rl.set (C.cl p) ⟨{C.rw (C.cl p)with free:=fr},a,cc⟩).flatMap dZ).length:=by rw[eK cz,aaY];omega
 generalize hc3:(y.rl.set (C.cl p) ⟨{C.rw (C.cl p)with free:=fr},a,cc⟩).flatMap dZ=c3 at*;refine fq ?_;rw[e9];rw[<-rB];refine Hh (H':= [own a cc 3 1 (aA fr),af gb 149 (aM ((C.pg (C.pn p)).bd.set (C.ix p) ((C.gen p+1) % 4294967296))),af tb 4 (sP ((C.pg (C.pn p)).tk.set (C.ix p) false)),af y.pb 227 ((y.pl.set (C.pn p) ⟨{C.pg (C.pn p)with tk:=(C.pg (C.pn p)).tk.set (C.ix p) false,held:=(C.pg (C.pn p)).held-1,bd:=(C.pg (C.pn p)).bd.set (C.ix p) ((C.gen p+1) % 4294967296)},some gb,some tb,x.ob⟩).flatMap dD),af y.rb 196 ((y.rl.set (C.cl p) ⟨{C.rw (C.cl p)with free:=fr,dL:=(C.rw (C.cl p)).dL-1},a,cc⟩).flatMap dZ),af b 179 (cH C y),n9 C y,af y.a 249 (iq y.ab C.aj (C.n*C.aj)),af y.ab 5 (dI C.A (C.n*C.aj)),C0 x.ob (jM (C.pg (C.pn p)).old),aG ((y.pl.eraseIdx (C.pn p)).map lp),aG ((y.rl.eraseIdx (C.cl p)).map kM)]) ?_;refine au (H':= [Cl b (C.bq p)]) (λ_ s=>sI (D:=C.bq p) (r:={C.rw (C.cl p)with free:=fr,dL:=(C.rw (C.cl p)).dL-1}) (p:={C.pg (C.pn p)with tk:=(C.pg (C.pn p)).tk.set (C.ix p) false,held:=(C.pg (C.pn p)).held-1,bd:=(C.pg (C.pn p)).bd.set (C.ix p) ((C.gen p+1) % 4294967296)}) hy x1 x2 uk ui z1 rfl (by unfold bq put;rw[FD]) rfl rfl rfl rfl rfl rfl rfl rfl rfl rfl s) ?_;refine Rt [Cl b (C.bq p)] results163 ?_;exact⟨rfl,rfl⟩
set_option maxHeartbeats 1000000 in
theorem W5 (b:Nat)(C:Cs)(K:Ok C)(i:Nat)(hi:i<C.n)(ho:(C.pg i).own=true)(jV:(C.pg i).lv=true):aO aaO 248 [CM b,CO CN i] (λ_=>True) [Cl b C] (λv H=>v=CO CN 0/\H= [Cl b (C.iu i)]):=by
 refine tz λy hy=> ?_;have P:lA C (C.pg i):=K.pg _ (ey (by rw[K.pl];exact hi));have hG:=P.cl ho;obtain⟨gb,tb,x,z,V⟩:=II (c:=(C.pg i).cl) K hy hi ho rfl;obtain⟨x1,x2,uk,ui,z1,z2,p1,p2,p3,p4,p5,p6,r0,r1,r2,r3,hp7,FO,ip,ir⟩:=V;have X:=hy.pk x (aaT x1);refine ag func248 rfl ntmps248 rfl ?_;intro F _;change G _ _ _ _ _ (mU b C y);unfold mU;have iD:lp x=lp ⟨{C.pg i with lv:=false},some gb,some tb,x.ob⟩:=by unfold lp;rw[x2,uk,ui]
 have e1:(y.pl.flatMap dD).set (i*7+1) (.bool false)=(y.pl.set i ⟨{C.pg i with lv:=false},some gb,some tb,x.ob⟩).flatMap dD:=cj (j:=1) bU x1 (by unfold dD;rw[x2,uk,ui];rfl) (by decide);have e2:aG (y.pl.map lp)=aG ((y.pl.set i ⟨{C.pg i with lv:=false},some gb,some tb,x.ob⟩).map lp):=by rw[afO,<-iD,gn (by rw[aa6,x1];rfl)]
 rw[jV]at p1;obtain⟨D,hD⟩:∃D:Cs,D={C with bc:=C.bc.set i {C.pg i with lv:=false}}:=⟨_,rfl⟩;obtain⟨y2,yV⟩:∃y2:Lc,y2={y with pl:=y.pl.set i ⟨{C.pg i with lv:=false},some gb,some tb,x.ob⟩}:=⟨_,rfl⟩;have hDp:D.pg i={C.pg i with lv:=false}:=by
  have:=Bq C i i {C.pg i with lv:=false} (by rw[K.pl];exact hi);rw[if_pos rfl]at this;rw[hD];exact this
 have hDr:∀c,D.rw c=C.rw c:=λc=>by rw[hD];rfl
 have hDF:Fix D:=by rw[hD];exact⟨K.p0,K.p1,K.p8,K.n0,K.n1,K.l0,K.l1,K.s0,by simp[K.pl],K.rl⟩
 have hDy:gN D y2:=by
  rw[hD,yV];refine⟨by rw[afO,hy.pl],hy.rl,λu hu=> ?_,hy.aj,hy.pgs⟩;rcases afM hu with h|rfl
  ·exact hy.pk u h
  exact⟨by dsimp only;rw[ho];rfl,by dsimp only;rw[ho];rfl,λh=>by have:=X.o h;rw[x2]at this;exact this⟩
 have cR:(D.pg i).cl=(C.pg i).cl:=by rw[hDp]
 have l2:=(K.le).2 _ hG;have f2:=K.toFix.n1;have J:=JR b D y2 hDF hDy i (by rw[hD];exact hi) ⟨{C.pg i with lv:=false},some gb,some tb,x.ob⟩ tb (by rw[yV];exact aaU ip) rfl (by rw[cR,hD];exact hG) (by rw[cR,hDp,hD];dsimp only;rw[P.tl,P.gl ho];exact aa0 _) (by rw[cR,hDr];have:=kF K (C.pg i).cl;omega) (by rw[cR,hDr];omega);rw[cR]at J;generalize AV:y.pl.flatMap dD=c1 at*;refine bG ?_;refine zl CF (nF b C y K hy i hi) .nil (λ_ _ ao=>⟨ao.nth 0 rfl,ao.nth 1 rfl,by have:=ao.nth 2 rfl;rw[<-AV]at this;exact this,ao.nth 3 rfl,ao.nth 4 rfl,ao.nth 5 rfl,ao.nth 6 rfl,ao.nth 7 rfl,trivial⟩) ?_;rw[if_pos ho];refine bR ?_;refine zf 11 ?_ (e:=by rfl);refine rj ?_;refine aw ?_;rw[e1,e2];refine au (H':=mU b D y2) (by rw[hD,yV];exact Eh) ?_;unfold mU;refine bz ?_;refine Lp (oC CF rfl rfl (J) (.cons .here (.cons .here (.cons .here (.cons .here (.cons .here (.cons .here (.cons .here (.cons .here .nil)))))))) CI ?_);rintro v H' ⟨rfl,zz,hzz,a3,c3,rfl,nj⟩;refine aX ?_;refine bE ?_;refine au (H':= [Cl b (C.iu i)]) (λ_ s=>qk (H:= []) (y:={y2 with rl:=y2.rl.set (C.pg i).cl ⟨(k7 D i).rw (C.pg i).cl,a3,c3⟩}) ⟨by rw[nj.pl,hD];rfl, ?_,nj.pk,by have:=nj.aj;rw[hD]at this;exact this,by have:=nj.pgs;rw[hD]at this;exact this⟩ (by rw[hD]at s⊢;exact s)) ?_
 ·rw[nj.rl]
  unfold k7;dsimp only;rw[cR,hDr,hDp,hD];rfl
 refine Rt [Cl b (C.iu i)] results248 ?_;exact⟨rfl,rfl⟩
set_option maxHeartbeats 1000000 in
theorem TP (b:Nat)(C:Cs)(K:Ok C)(i:Nat)(hi:i<C.n)(ho:(C.pg i).own=true)(jV:(C.pg i).lv=false):aO aaO 201 [CM b,CO CN i] (λ_=>True) [Cl b C] (λv H=>v=CO CN 0/\H= [Cl b (C.eJ i)]):=by
 refine tz λy hy=> ?_;have P:lA C (C.pg i):=K.pg _ (ey (by rw[K.pl];exact hi));have hG:=P.cl ho;have f0:=K.toFix.p0;have f1:=K.toFix.p1;have f2:=K.toFix.n1;have Z2:=kF K (C.pg i).cl;have l2:=(K.le).2 _ hG;have hS:1<=(C.rw (C.pg i).cl).fZ:=by
  have h1:=jX (yT (C.pg i).cl) (lT (C:=C) (i:=i) (by rw[K.pl];exact hi));rw[K.fs _ hG];have:yT (C.pg i).cl (C.pg i)=1:=by unfold yT;rw[if_pos ⟨ho,rfl,jV⟩]
  rw[this]at h1;exact h1
 obtain⟨c,hc⟩:∃c,(C.pg i).cl=c:=⟨_,rfl⟩;obtain⟨gb,tb,x,z,V⟩:=II (c:=c) K hy hi ho hc;obtain⟨x1,x2,uk,ui,z1,z2,p1,p2,p3,p4,p5,p6,r0,r1,r2,r3,hp7,FO,ip,ir⟩:=V;rw[hc]at Z2 l2 hS hG;rw[jV]at p1;have e1:(y.pl.flatMap dD).set (i*7+1) (.bool true)=(y.pl.set i ⟨{C.pg i with lv:=true},some gb,some tb,x.ob⟩).flatMap dD:=cj (j:=1) bU x1 (by unfold dD;rw[x2,uk,ui];rfl) (by decide);have q2:((y.pl.set i ⟨{C.pg i with lv:=true},some gb,some tb,x.ob⟩).flatMap dD)[i*7+2]?=some (CO CN c):=by
  have:=bo bU (l:=y.pl.set i ⟨{C.pg i with lv:=true},some gb,some tb,x.ob⟩) (i:=i) (j:=2) (aaU ip) rfl;rw[hc]at this;exact this
 have e3:(y.rl.flatMap dZ).set (c*4+3) (CO CN ((C.rw c).fZ-1))=(y.rl.set c ⟨{C.rw c with fZ:=(C.rw c).fZ-1},z.a,z.c⟩).flatMap dZ:=cj (j:=3) cz z1 (by unfold dZ;rw[z2,show((C.rw c).fZ-1:Int)=(((C.rw c).fZ-1:Nat):Int) by omega];rfl) (by decide);have s0:((y.rl.set c ⟨{C.rw c with fZ:=(C.rw c).fZ-1},z.a,z.c⟩).flatMap dZ)[c*4+0]?=some (.slice z.a (C.rw c).free.length z.c):=bo cz (aaU ir) rfl;have e4:∀(L:List Nat) (a:Option Addr) (cc:Nat),((y.rl.set c ⟨{C.rw c with fZ:=(C.rw c).fZ-1},z.a,z.c⟩).flatMap dZ).set (c*4+0) (.slice a L.length cc)=(y.rl.set c ⟨{C.rw c with fZ:=(C.rw c).fZ-1,free:=L},a,cc⟩).flatMap dZ:=λL a cc=>yw cz ir (by unfold dZ;rfl) (by decide);have hr5:c*4+4<=((y.rl.set c ⟨{C.rw c with fZ:=(C.rw c).fZ-1},z.a,z.c⟩).flatMap dZ).length:=by rw[eK cz,aaY];omega
 refine ag func201 rfl ntmps201 rfl ?_;intro F _;change G _ _ _ _ _ (mU b C y);unfold mU;refine bG ?_;refine zl CF (nF b C y K hy i hi) .nil (λ_ _ ao=>⟨ao.nth 0 rfl,ao.nth 1 rfl,ao.nth 2 rfl,ao.nth 3 rfl,ao.nth 4 rfl,ao.nth 5 rfl,ao.nth 6 rfl,ao.nth 7 rfl,trivial⟩) ?_;rw[if_pos ho];change G _ _ _ _ _ (mU b C y);refine Bz (c:=c) x1 x2 uk ui z1 z2 ?_;unfold OR;generalize AV:y.pl.flatMap dD=c1 at*;generalize rB:(y.pl.set i ⟨{C.pg i with lv:=true},some gb,some tb,x.ob⟩).flatMap dD=c2 at*;generalize hc3:y.rl.flatMap dZ=c3 at*;generalize hc4:(y.rl.set c ⟨{C.rw c with fZ:=(C.rw c).fZ-1},z.a,z.c⟩).flatMap dZ=c4 at*;refine cC ?_;refine bG ?_;refine aw ?_;rw[e1];refine gT false mix ?_;refine cC ?_;refine av ?_;refine aw ?_;rw[e3];refine gz ?_;refine dw 3 1 ?_;refine Lo (ι:=Nat×List Nat×Option Addr×Nat) [44,45,46,9,47,48,49,50,51,52,53,54,55,56,57,58,59,7,60,43] (λ(k,L,a,cc)=>k<=(C.rw c).free.length/\L=((C.rw c).free.take k).filter (λp=>decide (C.pn p≠i))/\L.length<=k) (λ(k,L,a,cc)=> [(43,CO CN k),(7, .slice a L.length cc)]) (λ(k,L,a,cc)=> [own a cc 3 1 (aA L),own z.a z.c 3 1 (aA (C.rw c).free),af y.rb 196 c4,af gb 149 (aM (C.pg i).bd),af tb 4 (sP (C.pg i).tk),af y.pb 227 c2,af b 179 (cH C y),n9 C y,af y.a 249 (iq y.ab C.aj (C.n*C.aj)),af y.ab 5 (dI C.A (C.n*C.aj)),C0 x.ob (jM (C.pg i).old),aG ((y.pl.eraseIdx i).map lp),aG ((y.rl.eraseIdx c).map kM)]) (λ(k,L,a,cc)=>(C.rw c).free.length-k) ((0,[],none,0)) ⟨afk _,rfl,aa0 _⟩ ?_;rintro⟨k,L,a,cc⟩ ⟨VJ,hL,hLl⟩
 try dsimp only at hI⊢
 try dsimp only at VJ hL hLl⊢
 refine bz ?_;refine aw ?_;refine aE rfl ?_ ?_
 ·intro hk
  replace hk:=aS hk;have cL:k<(C.rw c).free.length:=by omega
  have ef:(C.rw c).free[k]?=some (C.rw c).free[k]:=aaQ cL;have ht1:(C.rw c).free.take (k+1)=(C.rw c).free.take k++ [(C.rw c).free[k]]:=by rw[List.take_add_one,ef];rfl
  have hqb:(C.rw c).free[k]<C.n*C.aj:=by
   have:=((K.fr c _ (aa4 cL)).toAt.bn K);omega
  have nb:=fO K.toFix;generalize (C.rw c).free[k]=q at*;have kq:=eB ef;refine kT (gp (.there .here) λ_ o=>(oD o).some (by rw[fg];omega)) λsa=> ?_;refine bE ?_;refine Li (Ix ja) ?_;refine bM ?_;refine Li (Qu) ?_;refine bz ?_;refine aE rfl ?_ ?_
  ·intro hq
   replace hq:=aS hq;have Ku:C.pn q≠i:=λe=>hq (by unfold Cs.pn at e;rw[e]);refine bz ?_;refine Lp (oT fU λb1=> ?_);refine Lp (bT fU pK rfl rfl rfl rfl .here (by rw[fg,ajs]) (rfl) (by simp[Value.oneCell']) (by omega) (by omega) rfl λa1 c1 h1=> ?_);refine bR ?_;refine aF ?_;have e7:aA L++ [Value.int .i64 (q:Int)]=aA (L++ [q]):=by rw[gy _ [_]];rfl
   rw[e7,show L.length+1=(L++ [q]).length by simp];refine Ro ((k+1,L++ [q],a1,c1)) (⟨by dsimp only;omega,by dsimp only;rw[ht1,ags,<-hL,List.filter_cons_of_pos (by simpa using Ku)];rfl,by simp;omega⟩) ((by dsimp only;omega))
  intro hq;replace hq:=aS hq;have Ku:C.pn q=i:=by unfold Cs.pn;omega
  refine bG ?_;refine aF ?_;refine Ro ((k+1,L,a,cc)) (⟨by dsimp only;omega,by dsimp only;rw[ht1,ags,<-hL,List.filter_cons_of_neg (by simpa using Ku)];simp,by dsimp only;omega⟩) ((by dsimp only;omega))
 intro hk;replace hk:=aS hk;obtain rfl:k=(C.rw c).free.length:=by omega
 rw[List.take_length]at hL;refine rj ?_;rw[e4 L a cc];rw[<-rB];refine Hh (H':= [own a cc 3 1 (aA L),af gb 149 (aM (C.pg i).bd),af tb 4 (sP (C.pg i).tk),af y.pb 227 ((y.pl.set i ⟨{C.pg i with lv:=true},some gb,some tb,x.ob⟩).flatMap dD),af y.rb 196 ((y.rl.set c ⟨{C.rw c with fZ:=(C.rw c).fZ-1,free:=L},a,cc⟩).flatMap dZ),af b 179 (cH C y),n9 C y,af y.a 249 (iq y.ab C.aj (C.n*C.aj)),af y.ab 5 (dI C.A (C.n*C.aj)),C0 x.ob (jM (C.pg i).old),aG ((y.pl.eraseIdx i).map lp),aG ((y.rl.eraseIdx c).map kM)]) ?_;refine au (H':= [Cl b (C.eJ i)]) (λ_ s=>sI (D:=C.eJ i) (r:={C.rw c with fZ:=(C.rw c).fZ-1,free:=L}) (p:={C.pg i with lv:=true}) hy x1 x2 uk ui z1 rfl (by unfold eJ put;rw[hc,hL]) rfl rfl rfl rfl rfl rfl rfl rfl rfl rfl s) ?_;refine Rt [Cl b (C.eJ i)] results201 ?_;exact⟨rfl,rfl⟩
theorem MqO{P:Program}{n:Nat}{ds:List Deferred}{F:dC}{σ:aZ}{o:Oper}{t k e yt:TypeId}{dd:TypeDesc}{z:Value}{x:Operand}{m:Option Nat}(ht:xc P t=some (k,dd,e,z))(ho:o.op= .binOp .eql t x (.const (.map none)) yt:=by exact rfl)(hx:bJ σ x=some (.map m):=by exact rfl):Yv P n ds F σ o (.bool m.isNone):=λa w en _=>by
 obtain⟨N8,_,_,_,_⟩:=nR ht;have hc:a.eval (.const (.map none))= .map none:=rfl;have q:(Op.equalIn 10000 t (.map m) (.map none)).run P w= .ok m.isNone w:=by
  unfold Op.equalIn;simp only[Sem.run_bind,run_underlying N8,Result.andThen_ok];cases m<;>rfl
 simp only[execOp,ho,en.eval hx,hc];have q2:(Op.equal t (.map m) (.map none)).run P w= .ok m.isNone w:=q;simp[binOp,eqGuard,q2]
theorem XN (l:List (Nat×Nat))(k g:Nat):CY (jM l) (CO CN k) (CO akO g)=jM (rV l k g):=by
 classical
 have hm:(∃e∈jM l,e.1=Value.int .i64 (k:Int))↔k∈l.map (·.1):=by
  constructor
  ·rintro⟨e,he,h⟩
   obtain⟨p,hp,rfl⟩:=acA.1 he;refine acA.2 ⟨p,hp, ?_⟩;simp at h;omega
  intro h;obtain⟨p,hp,rfl⟩:=acA.1 h;exact⟨_,acA.2 ⟨p,hp,rfl⟩,rfl⟩
 unfold rV;by_cases h:k∈l.map (·.1)
 ·rw[BU (hm.2 h),if_pos h]
  unfold jM;rw[ajr,ajr];apply afr;intro p _;simp only[Function.comp];by_cases hp:p.1=k
  ·rw[if_pos hp,if_pos (by rw[hp])]
  rw[if_neg hp,if_neg (by simp;omega)]
 rw[BV (λe he q=>h (hm.1 ⟨e,he,q⟩)),if_neg h];simp[jM]
set_option maxHeartbeats 1000000 in
theorem HV (b:Nat)(C:Cs)(K:Ok C)(i:Nat)(hi:i<C.n)(ho:(C.pg i).own=true)(jV:(C.pg i).lv=true)(hh:(C.pg i).held=0):aO aaO 203 [CM b,CO CN i] (λ_=>True) [Cl b C] (λv H=>v=CO CN 0/\H= [Cl b (C.bw i)]):=by
 refine tz λy hy=> ?_;have P:lA C (C.pg i):=K.pg _ (ey (by rw[K.pl];exact hi));have hG:=P.cl ho;have f1:=K.toFix.p1;have f2:=K.toFix.n1;obtain⟨l1,l2'⟩:=K.le;have l2:=l2' _ hG;have hzs:=K.toFix.sz hG;have hgl:(C.pg i).bd.length<=C.aj:=by rw[P.gl ho];exact afP _ _
 have hP:1<=(C.rw (C.pg i).cl).pgs:=by
  have h1:=jX (uu (C.pg i).cl) (lT (C:=C) (i:=i) (by rw[K.pl];exact hi));rw[K.fp _ hG];have:uu (C.pg i).cl (C.pg i)=1:=by unfold uu;rw[if_pos ⟨ho,rfl⟩]
  rw[this]at h1;exact h1
 obtain⟨c,hc⟩:∃c,(C.pg i).cl=c:=⟨_,rfl⟩;obtain⟨gb,tb,x,z,V⟩:=II (c:=c) K hy hi ho hc;obtain⟨x1,x2,uk,ui,z1,z2,p1,p2,p3,p4,p5,p6,r0,r1,r2,r3,hp7,FO,ip,ir⟩:=V;have X:=hy.pk x (aaT x1);rw[hc]at l2 hP hG hzs;rw[jV]at p1;rw[hh]at p5;refine ag func203 rfl ntmps203 rfl ?_;intro F _;change G _ _ _ _ _ (mU b C y);unfold mU;refine bG ?_;refine zl CF (nF b C y K hy i hi) .nil (λ_ _ ao=>⟨ao.nth 0 rfl,ao.nth 1 rfl,ao.nth 2 rfl,ao.nth 3 rfl,ao.nth 4 rfl,ao.nth 5 rfl,ao.nth 6 rfl,ao.nth 7 rfl,trivial⟩) ?_;rw[if_pos ho];change G _ _ _ _ _ (mU b C y);refine Bz (c:=c) x1 x2 uk ui z1 z2 ?_;unfold OR;refine bR ?_;refine zf 13 ?_ (e:=by rfl);refine cC ?_;refine av ?_;refine aw ?_;refine dt (ι:=Nat) [25,26,27,28,29,30,31,32,33] (λm=>True) (λm=> []) (λm=> [mq (.int .i64) m (jM (C.pg i).old),af y.pb 227 ((y.pl.set i ⟨C.pg i,some gb,some tb,some m⟩).flatMap dD),own z.a z.c 3 1 (aA (C.rw c).free),af gb 149 (aM (C.pg i).bd),af tb 4 (sP (C.pg i).tk),af y.rb 196 (y.rl.flatMap dZ),af b 179 (cH C y),n9 C y,af y.a 249 (iq y.ab C.aj (C.n*C.aj)),af y.ab 5 (dI C.A (C.n*C.aj)),aG ((y.pl.eraseIdx i).map lp),aG ((y.rl.eraseIdx c).map kM)]) ?_ ?_
 ·rcases hob:x.ob with _|m
  ·rw[hob]at p6
   have hold:(C.pg i).old= []:=by rw[<-x2];exact X.o hob
   have e6:∀m:Nat,(y.pl.flatMap dD).set (i*7+6) (.map (some m))=(y.pl.set i ⟨C.pg i,some gb,some tb,some m⟩).flatMap dD:=λm=>cj (j:=6) bU x1 (by unfold dD;rw[x2,uk,ui];rfl) (by decide);generalize AV:y.pl.flatMap dD=c1 at*;refine bE ?_;refine Li ((MqO T.Br)) ?_;refine bm ?_;refine Lp (oQm (.int .i64) λm1=> ?_);refine bz ?_;refine aF ?_;rw[e6 m1,hold];refine Me (m1) (trivial)
  rw[hob]at p6;have e6:y.pl.flatMap dD=(y.pl.set i ⟨C.pg i,some gb,some tb,some m⟩).flatMap dD:=by
   rw[gn (x:=(⟨C.pg i,some gb,some tb,some m⟩:vx))];rw[x1]
   congr 1
   cases x
   simp_all
  refine bE ?_;refine Li ((MqO T.Br)) ?_;refine bz ?_;rw[e6];refine Me (m) (trivial)
 rintro m hI;have n3:((y.pl.set i ⟨C.pg i,some gb,some tb,some m⟩).flatMap dD)[i*7+3]?=some (.slice (some ⟨gb,0,none⟩) (C.pg i).bd.length (C.pg i).bd.length):=bo bU (j:=3) (aaU ip) rfl;have n2:((y.pl.set i ⟨C.pg i,some gb,some tb,some m⟩).flatMap dD)[i*7+2]?=some (CO CN c):=by
  have:=bo bU (l:=y.pl.set i ⟨C.pg i,some gb,some tb,some m⟩) (i:=i) (j:=2) (aaU ip) rfl;rw[hc]at this;exact this
 have n6:((y.pl.set i ⟨C.pg i,some gb,some tb,some m⟩).flatMap dD)[i*7+6]?=some (.map (some m)):=bo bU (j:=6) (aaU ip) rfl;have e14:cZ ((y.pl.set i ⟨C.pg i,some gb,some tb,some m⟩).flatMap dD) (i*7) [.bool false, .bool false,CO CN 0, .slice none 0 0, .slice none 0 0,CO CN 0, .map (some m)]=(y.pl.set i ⟨{Pg.no with old:=C.rX (C.pg i)},none,none,some m⟩).flatMap dD:=by
  have:=SV (f:=dD) (l:=y.pl.set i ⟨C.pg i,some gb,some tb,some m⟩) (i:=i) (a':=(⟨{Pg.no with old:=C.rX (C.pg i)},none,none,some m⟩:vx)) bU (aaU ip);rw[afN]at this;exact this
 have hp8:i*7+7<=((y.pl.set i ⟨C.pg i,some gb,some tb,some m⟩).flatMap dD).length:=by rw[eK bU,aaY];omega
 have e13:(y.rl.flatMap dZ).set (c*4+2) (CO CN ((C.rw c).pgs-1))=(y.rl.set c ⟨{C.rw c with pgs:=(C.rw c).pgs-1},z.a,z.c⟩).flatMap dZ:=cj (j:=2) cz z1 (by unfold dZ;rw[z2,show((C.rw c).pgs-1:Int)=(((C.rw c).pgs-1:Nat):Int) by omega];rfl) (by decide);generalize AV:(y.pl.set i ⟨C.pg i,some gb,some tb,some m⟩).flatMap dD=c1 at*;generalize hc3:y.rl.flatMap dZ=c3 at*;refine bM ?_;refine Lo (ι:=Nat) [40,41,42,43,6,7,44,45,46,47,48,49,50,51,52,53,54,55,56,57,58,59,60,61,39] (λk=>k<=(C.pg i).bd.length) (λk=> [(39,CO CN k)]) (λk=> [mq (.int .i64) m (jM ((abb k).foldl (λl k=>rV l (k*C.sz c) ((C.pg i).bd.getD k 0)) (C.pg i).old)),af y.pb 227 c1,own z.a z.c 3 1 (aA (C.rw c).free),af gb 149 (aM (C.pg i).bd),af tb 4 (sP (C.pg i).tk),af y.rb 196 c3,af b 179 (cH C y),n9 C y,af y.a 249 (iq y.ab C.aj (C.n*C.aj)),af y.ab 5 (dI C.A (C.n*C.aj)),aG ((y.pl.eraseIdx i).map lp),aG ((y.rl.eraseIdx c).map kM)]) (λk=>(C.pg i).bd.length-k) (0) (by simp) ?_;rintro k hI;refine bz ?_;refine aw ?_;refine aE rfl ?_ ?_
 ·intro hk
  replace hk:=aS hk;have uj:k<(C.pg i).bd.length:=by omega
  have kg:(aM (C.pg i).bd)[k]?=some (CO akO ((C.pg i).bd.getD k 0:Nat)):=ow (by rw[aaP,aaQ uj];rfl);have hkz:k*C.sz c<=1048576*1048576:=afG (by omega) (by omega);refine bW ?_;refine gT false mix ?_;refine fq ?_;refine Tp (oL bC ?_ (hk:=PC hG (by repeat (first|exact fD.here|apply fD.there))));refine Ti (Zu) ?_;refine av ?_;refine Tp (oQi T.Br ?_);refine bG ?_;refine aF ?_;rw[XN,show rV ((abb k).foldl (λl k=>rV l (k*C.sz c) ((C.pg i).bd.getD k 0)) (C.pg i).old) (k*C.sz c) ((C.pg i).bd.getD k 0)=(abb (k+1)).foldl (λl k=>rV l (k*C.sz c) ((C.pg i).bd.getD k 0)) (C.pg i).old by rw[af7,List.foldl_append];rfl];refine Ro (k+1) (by omega) (by omega)
 intro hk;replace hk:=aS hk;obtain rfl:k=(C.pg i).bd.length:=by omega
 have hop:(abb (C.pg i).bd.length).foldl (λl k=>rV l (k*C.sz c) ((C.pg i).bd.getD k 0)) (C.pg i).old=C.rX (C.pg i):=by unfold rX;rw[hc]
 rw[hop];have V5:(cH C y)[0+10]?=some (.slice (some ⟨y.rb,0,none⟩) C.ae.length C.ae.length):=rfl;have h11:(cH C y)[0+11]?=some (CO CN C.spare):=rfl;have AW:0+11<(cH C y).length:=by unfold cH;simp
 obtain⟨y2,yV⟩:∃y2:Lc,y2={y with pl:=y.pl.set i ⟨{Pg.no with old:=C.rX (C.pg i)},none,none,some m⟩,rl:=y.rl.set c ⟨{C.rw c with pgs:=(C.rw c).pgs-1},z.a,z.c⟩}:=⟨_,rfl⟩;have De:(cH C y).set (0+11) (CO CN ((C.spare:Int)+1))=cH (C.bw i) y2:=by rw[yV];rfl
 have hlc:gN (C.bw i) y2:=by
  rw[yV];refine⟨by rw[afO,hy.pl];rfl, ?_,λu hu=> ?_,hy.aj,hy.pgs⟩
  ·rw[afO,hy.rl];unfold bw put;rw[hc]
  rcases afM hu with h|rfl
  ·exact hy.pk u h
  exact⟨rfl,rfl,λh=>(by cases h)⟩
 generalize hsc:cH C y=sc at*;refine bE ?_;refine aw ?_;refine gT false mix ?_;refine rj ?_;refine aw ?_;rw[e13];refine dm ?_;refine Lp (oSN afg ?_ (vs:= [.bool false, .bool false,CO CN 0, .slice none 0 0, .slice none 0 0,CO CN 0, .map (some m)]) (hi:=hp8));rw[e14];refine mF ?_;rw[De];refine au (λ_ s=>gx (A:=zk) (λ_=>trivial) (gx (A:=zk) (λ_=>trivial) s)) ?_;refine Hh (H':= [zk,zk,mq (.int .i64) m (jM (C.rX (C.pg i))),aG ((y.pl.eraseIdx i).map lp),own z.a z.c 3 1 (aA (C.rw c).free),aG ((y.rl.eraseIdx c).map kM),af b 179 (cH (C.bw i) y2),n9 C y,af y.pb 227 ((y.pl.set i ⟨{Pg.no with old:=C.rX (C.pg i)},none,none,some m⟩).flatMap dD),af y.rb 196 ((y.rl.set c ⟨{C.rw c with pgs:=(C.rw c).pgs-1},z.a,z.c⟩).flatMap dZ),af y.a 249 (iq y.ab C.aj (C.n*C.aj)),af y.ab 5 (dI C.A (C.n*C.aj))]) ?_;refine au (λ_ s=>dU (L:= [_,_,_]) s) ?_;change G _ _ _ _ _ (lp ⟨{Pg.no with old:=C.rX (C.pg i)},none,none,some m⟩::_);refine au (λ_ s=>uN (f:=lp) x1 _ s) ?_;refine Hh (H':= [own z.a z.c 3 1 (aA (C.rw c).free),aG ((y.rl.eraseIdx c).map kM),aG ((y.pl.set i ⟨{Pg.no with old:=C.rX (C.pg i)},none,none,some m⟩).map lp),af b 179 (cH (C.bw i) y2),n9 C y,af y.pb 227 ((y.pl.set i ⟨{Pg.no with old:=C.rX (C.pg i)},none,none,some m⟩).flatMap dD),af y.rb 196 ((y.rl.set c ⟨{C.rw c with pgs:=(C.rw c).pgs-1},z.a,z.c⟩).flatMap dZ),af y.a 249 (iq y.ab C.aj (C.n*C.aj)),af y.ab 5 (dI C.A (C.n*C.aj))]) ?_;change G _ _ _ _ _ (kM ⟨{C.rw c with pgs:=(C.rw c).pgs-1},z.a,z.c⟩::_);refine au (λ_ s=>uN (f:=kM) z1 _ s) ?_;refine au (H':=mU b (C.bw i) y2) (by rw[yV];exact Eh) ?_;refine au (H':= [Cl b (C.bw i)]) (λ_ s=>qk (H:= []) hlc s) ?_;refine Rt [Cl b (C.bw i)] results203 ?_;exact⟨rfl,rfl⟩
end Go.Proofs.YtcbcjolpdljbiaaGreat
