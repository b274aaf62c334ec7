/- Part Pe of the proof. -/
import Derived.Test.YtcbcjolpdljbiaaGreatPd
set_option maxRecDepth 100000
open Go.Proofs.YtcbcjolpdljbiaaGreat.T
open List renaming range -> acA, range_succ -> aim, map_congr_left -> ahn, mem_range -> ac3, getD_eq_getElem?_getD -> aaZ, getElem?_eq_getElem -> aa0, ext_getElem -> ala, getElem_map -> ahW, getElem_range -> ahX, foldl_cons -> ahC, length_cons -> abu, map_drop -> al5, map_take -> al6, map_append -> adb, length_map -> abo, length_range -> ah4, getElem_append_left -> ah5, getElem_append_right -> alm, length_take -> ahY, length_append -> aa9, length_singleton -> ahp, getElem_mem -> abe, getElem?_map -> abf, take_of_length_le -> alw, eq_nil_of_length_eq_zero -> abr, append_assoc -> adr, replicate -> aa2, length_replicate -> ahl, mem_of_getElem? -> aa3, map_cons -> aa7, sum_cons -> abp, findIdx?_eq_some_iff_getElem -> abl, getElem?_eq_some_iff -> aa1, findIdx?_eq_none_iff -> ahz, getElem?_of_mem -> ahH, getElem?_cons_zero -> aip, getElem?_cons_succ -> ahM, getElem?_set_self -> aa4, getElem?_set_ne -> acX, mem_or_eq_of_mem_set -> ada, dropLast_concat_getLast -> ale, getLast?_eq_some_getLast -> ahv, nodup_append -> ac9, mem_append -> ahy, mem_singleton -> acQ, length_set -> aa8, mem_map -> abk, mem_filter -> abm, mem_reverse -> ahN, Pairwise -> ah3, map_map -> aiy, mem_cons_of_mem -> aa6, mem_cons_self -> aa5, append_nil -> acT, set_set -> ade, map_set -> adf, find?_cons -> alB, getElem?_eq_none -> abb, filter_append -> ahU
open UInt8 renaming ofNat -> acU
open Nat renaming pow_succ -> ahD, zero_mul -> aiE, zero_add -> abj, add_mul -> ahu, mul_assoc -> al7, mul_comm -> ahm, mul_le_mul_right -> acW, div_add_mod -> ahR, div_mul_le_self -> aix, one_mul -> ahE, mul_left_comm -> alP, mul_le_mul -> ac8, lt_trichotomy -> alQ, mul_add_div -> al1, div_eq_of_lt -> alW, mul_add_mod -> al2, mod_eq_of_lt -> acZ, mul_div_cancel -> alM, mul_mod_left -> alX, add_sub_cancel_left -> alv, le_self_pow -> alk, pow_le_pow_right -> ahr, lt_of_lt_of_le -> aht, le_refl -> abc, lt_of_le_of_lt -> ahB, div_le_self -> ahk, div_div_eq_div_mul -> aij, min_self -> ama, mod_lt -> aia, le_trans -> ahO, zero_le -> abn, not_lt_zero -> ah2, mul_one -> aiz, sub_zero -> aiF
open Int renaming fdiv_eq_ediv_of_nonneg -> ac6
open Decidable renaming byContradiction -> aba
open Go.Proofs.Tryz renaming prog -> aaY
open Go.Proofs.Tryz
open Go.Value renaming int -> DE
open Go.IntKind renaming i64 -> DD, u64 -> DB, u8 -> amn, u32 -> amo
namespace Go.Proofs.YtcbcjolpdljbiaaGreat
open Go Go.dQ
abbrev Nm:=F9
def cm (z:Int):Int:=IntKind.i64.wrap z
structure It where
 key:Nm
 val:Nm
 fl:Nat
 exp:Nat
 tok:Nat
 tch:Nat
 cl:Nat
 st:Nat
 act:Bool
 stale:Bool
 won:Bool
 lG:Bool
 ord:Nat
 XU:Nat
structure oo where
 aj:Int
 pgs:Int
 fac:Int
 bE:Int
 lim:Int
 hot:Int
 warm:Int
structure tO where
 b:Int
 l:Int
 c:Int
 m:Int
structure Mt where
 dr:Int
 re:Int
 bu:Int
 li:Int
 lo:Int
 cr:Int
 mv:Int
def Mt.zero:Mt:=⟨0,0,0,0,0,0,0⟩
structure Ms where
 c:oo
 p:tO
 ae:F8
 per:F8
 aH:Nat
 all:List It
 owner:List FW
 rows:Dy
 now:Nat
 HC:Nat
 cut:Nat
 ku:Nat
 Hs:Nat
 bk:Nat
 Cn:Nat
 ccl:Nat
 ckd:Nat
 place:Option Nm
 left:Int
 inn:Bool
 since:List FW
 going:FW
 mt:Mt
 kh:F8
namespace Ms
def wide:Nat:=1048576
def len (s:Ms):Nat:=s.all.length
def stt (s:Ms)(x:It):Nat:=if 0<x.exp/\x.exp<=s.now then 2 else if x.tok<=s.cut then 3 else 0
def find (s:Ms)(k:Nm):Option It:=s.all.find? λx=>decide (x.key=k)
def qu (s:Ms)(c st:Nat):List It:=s.all.filter λx=>decide (x.cl=c)&&decide (x.st=st)
def drop (s:Ms)(k:Nm):Ms:={s with all:=s.all.filter λx=>decide (x.key≠k)}
def ie (s:Ms)(k:Nm)(f:It->It):Ms:={s with all:=s.all.map λx=>if x.key=k then f x else x}
def TH:List It->Nm->Option Nm
 |a::b::r,k=>if b.key=k then some a.key else TH (b::r) k
 |_,_=>none
def ahead (s:Ms)(x:It):Option Nm:=TH (s.qu x.cl x.st) x.key
def gone (s:Ms)(x:It):Ms:=if s.place=some x.key then{s with place:=s.ahead x,left:=s.left-1}else s
def grow (s:Ms):Ms:=if s.Cn=0/\3*s.bk<2*s.len/\s.bk<s.aH then{s with Cn:=s.bk,bk:=2*s.bk}else s
def shrink (s:Ms):Ms:=if s.Cn=0/\16<s.bk/\8*s.len<s.bk then{s with Cn:=s.bk,bk:=s.bk/2}else s
def aj1 (s:Ms)(c:Nat):Nat:=s.per.getD c 0
def rowOf (s:Ms)(c:Nat):F8:=s.rows.getD c []
def lies (s:Ms)(chunk:Nat):Bool:=s.all.any λx=>decide (x.XU=chunk)
def ai9 (s:Ms)(c chunk:Nat):Ms:=if s.going=some (chunk/wide)then s else{s with rows:=s.rows.set c (s.rowOf c++ [chunk])}
def bY (s:Ms)(x:It):Ms:=(((s.gone x).drop x.key).shrink).ai9 x.cl x.XU
def count (s:Ms)(o:FW):Nat:=(s.owner.filter λx=>decide (x=o)).length
def fill (s:Ms)(iq c:Nat):Ms:=
 {s with rows:=s.rows.set c (s.rowOf c++(((acA (s.aj1 c)).reverse.map λk=>iq*wide+k).filter λch=> !s.lies ch))}
def Fu:List FW->FW
 | []=>none
 |none::_=>some 0
 |some _::r=>(Fu r).map (· +1)
def RH (s:Ms)(c:Nat):Option (Nat×Ms):=
 match(s.rowOf c).getLast? with
 |none=>none
 |some ch=>some (ch,{s with rows:=s.rows.set c (s.rowOf c).dropLast})
def take (s:Ms)(c:Nat):Option (Nat×Ms):=
 if(s.rowOf c)= []then
  match Fu s.owner with
  |none=>none
  |some iq=>({s with owner:=s.owner.set iq (some c)}.fill iq c).RH c
 else s.RH c
def held (s:Ms)(iq:Nat):Nat:=(s.all.filter λx=>decide (x.XU/wide=iq)).length
def abK (s:Ms)(iq:Nat):FW:=s.owner.getD iq none
def row5 (s:Ms)(c:Nat)(own:Option Nm):List It:=(((s.qu c 3).reverse++(s.qu c 2).reverse++(s.qu c 1).reverse).filter λx=>decide (some x.key≠own)).take 5
def pick (s:Ms)(c:Nat)(own:Option Nm):Option It×Bool×Nat:=
 let r:=s.row5 c own
 match r.findIdx? λx=>decide (s.stt x≠0)with
 |some i=>(r[i]?,true,i+1)
 |none=>match r.find? λx=> !x.act with
  |some x=>(some x,false,r.length)
  |none=>(r.head?,false,r.length)
def stay (s:Ms):Ms:=match s.going with
 |none=>s
 |some iq=>{s with going:=none}.fill iq ((s.abK iq).getD 0)
def jT (s:Ms)(c:Nat):Ms:={s with since:=s.since.set c (some 0)}
def room (s:Ms)(c:Nat)(own:Option Nm):FW×Ms:=
 match s.take c with
 |some (ch,s)=>(some ch,s)
 |none=>
  let go (s:Ms):FW×Ms:=
   let (v,dead,n):=s.pick c own
   let s:={s with mt:={s.mt with lo:=cm (s.mt.lo+n)}}
   match v with
   |none=>(none,s.jT c)
   |some x=>
    let s:=if dead then{s with mt:={s.mt with re:=cm (s.mt.re+1)}}else{s with mt:={s.mt with dr:=cm (s.mt.dr+1)}}.jT c
    match(s.bY x).take c with
    |some (ch,s)=>(some ch,s)
    |none=>(none,s.bY x)
  if s.going.bind s.abK=some c/\s.going≠none then
   match s.stay.take c with
   |some (ch,s)=>(some ch,s)
   |none=>go s.stay
  else go s
def eZ (s:Ms)(c:Nat):Bool:=match s.since.getD c none with
 |none=>false
 |some n=>decide (n<64)
def aj7 (s:Ms)(iq c:Nat):Bool:=
 let own:=((s.rowOf c).filter λch=>decide (ch/wide=iq)).length
 decide (1<s.count (some c))&&decide (s.held iq+own<=(s.rowOf c).length)
def better (s:Ms)(f iq b D9:Nat):Bool:=
 if f≠b then decide ((s.rowOf b).length<(s.rowOf f).length\/(s.rowOf f).length=(s.rowOf b).length/\f<b)
 else decide (s.held iq<s.held D9)
def mI (s:Ms)(t:Nat):List FW->Nat->Option (Nat×Nat)->Option (Nat×Nat)
 | [],_,D9=>D9
 |none::r,iq,D9=>mI s t r (iq+1) D9
 |some f::r,iq,D9=>
  if f=t\/s.eZ f=true\/s.aj7 iq f=false then mI s t r (iq+1) D9
  else match D9 with
   |none=>mI s t r (iq+1) (some (iq,f))
   |some (q,b)=>mI s t r (iq+1) (if s.better f iq b q then some (iq,f)else some (q,b))
def agT (s:Ms)(t:Nat):Option (Nat×Nat):=mI s t s.owner 0 none
def ag1 (s:Ms):Ms:=
 match(acA s.ae.length).find? λt=>s.eZ t with
 |none=>s
 |some t=>
  if 0<s.count none then s
  else match s.agT t with
   |none=>s
   |some (iq,c)=>{s with rows:=s.rows.set c ((s.rowOf c).filter λch=>decide (ch/wide≠iq)),going:=some iq}
def aap (s:Ms)(iq:Nat):Option It:=
 (s.all.filter λx=>decide (x.XU/wide=iq)).foldl (λb x=>match b with
  |none=>some x
  |some y=>if x.XU<y.XU then some x else some y) none
def Hv:Nat->Ms->Nat->Ms×Nat
 |0,s,done=>(s,done)
 |n+1,s,done=>
  match s.going with
  |none=>(s,done)
  |some iq=>
   match s.aap iq with
   |none=>({s with owner:=s.owner.set iq none,going:=none},done)
   |some x=>
    if s.stt x≠0 then Hv n (s.bY x) (done+1)
    else match s.take x.cl with
     |none=>(s.stay,done)
     |some (ch,s)=>Hv n (s.ie x.key λy=>{y with XU:=ch}) (done+1)
def move (s:Ms)(aH:Nat):Ms×Nat:=
 if aH=0 then(s,0)
 else
  let s:={s with since:=s.since.map λo=>o.map λn=>if n<64 then n+1 else n}
  if s.going=none then(s.ag1,0)else Hv aH s 0
def time (s:Ms)(x:It)(e:Nat):Ms×It:=if 0<e then({s with Hs:=s.Hs+1},{x with exp:=e,ord:=s.Hs+1})else(s,{x with exp:=e,ord:=0})
def lay (s:Ms)(x:It)(old:Option It)(c chunk:Nat):Ms:=
 let s:={s with HC:=s.HC+1}
 let (s,x):=s.time {x with tok:=s.HC,cl:=c,XU:=chunk,tch:=s.now,st:=1,act:=false} x.exp
 match old with
 |some o=>let s:=((s.gone o).drop o.key);{s.ai9 o.cl o.XU with all:=x::s.all}
 |none=>{s with all:=x::s.all}.grow
def meet (s:Ms)(k:Nm):Option It×Ms:=
 match s.find k with
 |none=>(none,{s with kh:=s.kh++ [1]})
 |some x=>
  let w:=s.stt x
  let s:={s with kh:=s.kh++ [w]}
  if w≠0 then(none,s.bY x)else(some x,s)
end Ms
open Go Go.dQ
abbrev By:=Nat->UInt8
def jZ (A:By)(p n:Nat):F9:=(acA n).map λi=>A (p+i)
def lay (A:By)(p:Nat)(l:F9):By:=λj=>if p<=j/\j<p+l.length then l.getD (j-p) 0 else A j
def dY (A:By)(n:Nat):FV:=ak (jZ A 0 n)
def be:Nat->Nat->F9
 |0,_=> []
 |w+1,v=>acU (v/256^w)::be w v
def nat (l:F9):Nat:=l.foldl (λn c=>n*256+c.toNat) 0
def rd (A:By)(p w:Nat):Nat:=nat (jZ A p w)
def wr (A:By)(p w v:Nat):By:=lay A p (be w v)
theorem cI (A:By)(p n:Nat):(jZ A p n).length=n:=by simp[jZ]
theorem Y5 (A:By)(p n i:Nat)(h:i<n):(jZ A p n)[i]?=some (A (p+i)):=by simp[jZ,h]
theorem UG (A:By)(p:Nat):jZ A p 0= []:=rfl
theorem UH (A:By)(p n:Nat):jZ A p (n+1)=jZ A p n++ [A (p+n)]:=by simp[jZ,aim]
theorem vL{A B:By}{p n:Nat}(h:∀j,p<=j->j<p+n->A j=B j):jZ A p n=jZ B p n:=by
 unfold jZ;apply ahn;intro i hi;have:=ac3.1 hi;exact h _ (by omega) (by omega)
theorem R6 (A:By)(p:Nat)(l:F9)(i:Nat)(h:i<l.length):lay A p l (p+i)=l[i]:=by
 unfold lay;rw[if_pos (by omega),show p+i-p=i by omega,aaZ,aa0 h];rfl
theorem gO (A:By)(p:Nat)(l:F9)(j:Nat)(h:j<p\/p+l.length<=j):lay A p l j=A j:=by
 unfold lay;rw[if_neg (by omega)]
theorem lM (A:By)(p:Nat)(l:F9):jZ (lay A p l) p l.length=l:=by
 apply ala (by simp[jZ]);intro i h1 h2;simp only[jZ,ahW,ahX];exact R6 A p l i h2
theorem gm (A:By)(p:Nat)(l:F9)(q n:Nat)(h:q+n<=p\/p+l.length<=q):jZ (lay A p l) q n=jZ A q n:=
 vL λj h1 h2=>gO A p l j (by omega)
theorem eX (A:By)(p:Nat)(l:F9)(q n:Nat)(h:q+n<=p\/p+l.length<=q):rd (lay A p l) q n=rd A q n:=by
 unfold rd;rw[gm A p l q n h]
theorem ng:∀w v,(be w v).length=w
 |0,_=>rfl
 |w+1,v=>by simp[be,ng w]
theorem U6 (l:F9)(c:UInt8):nat (l++ [c])=nat l*256+c.toNat:=by simp[nat]
theorem Da:∀(l:F9) (n:Nat),l.foldl (λn c=>n*256+c.toNat) n=n*256^l.length+nat l
 | [],n=>by simp[nat]
 |c::l,n=>by
  have h1:=Da l (n*256+c.toNat);have h2:=Da l (0*256+c.toNat);unfold nat at*;rw[ahC,ahC,h1,h2,abu,ahD,aiE,abj,ahu,al7,ahm 256,Nat.add_assoc]
theorem U7 (c:UInt8)(l:F9):nat (c::l)=c.toNat*256^l.length+nat l:=by
 conv=>lhs;unfold nat
 rw[ahC,Da,aiE,abj]
theorem RU:∀w v,nat (be w v)=v % 256^w
 |0,v=>by simp[be,nat,Nat.mod_one]
 |w+1,v=>by
  rw[be,U7,RU w,ng];have:(acU (v/256^w)).toNat=v/256^w % 256:=by simp
  rw[this,ahD,Nat.mod_mul,ahm (256^w)];omega
theorem Kt:∀(l:F9) (n:Nat),l.foldl (λn c=>n*256+c.toNat) n<(n+1)*256^l.length
 | [],n=>by simp
 |c::l,n=>by
  rw[ahC];have h1:=Kt l (n*256+c.toNat);have h2:=c.toNat_lt;have h3:(n*256+c.toNat+1)*256^l.length<=((n+1)*256)*256^l.length:=acW _ (by omega);rw[abu,ahD,ahm (256^l.length) 256,<-al7];omega
theorem ae7 (l:F9):nat l<256^l.length:=by
 have:=Kt l 0;simpa[nat]using this
theorem dI (A:By)(p w v:Nat):rd (wr A p w v) p w=v % 256^w:=by
 unfold rd wr;have:=lM A p (be w v);rw[ng]at this;rw[this,RU]
theorem aS (A:By)(p w v q n:Nat)(h:q+n<=p\/p+w<=q):rd (wr A p w v) q n=rd A q n:=eX A p _ q n (by rw[ng];exact h)
theorem tq (A:By)(p w v q n:Nat)(h:q+n<=p\/p+w<=q):jZ (wr A p w v) q n=jZ A q n:=gm A p _ q n (by rw[ng];exact h)
theorem kB (A:By)(p w:Nat):rd A p w<256^w:=by
 have:=ae7 (jZ A p w)
 rwa[cI]at this
theorem oX (A:By)(n:Nat):(dY A n).length=n:=by simp[dY,ak,jZ]
theorem WZ (A:By)(n p m:Nat)(h:p+m<=n):((dY A n).drop p).take m=ak (jZ A p m):=by
 unfold dY ak;rw[<-al5,<-al6]
 congr 1
 apply ala (by simp[jZ];omega);intro i h1 h2;simp[jZ]
theorem LB (A:By)(n p:Nat)(l:F9)(h:p+l.length<=n):(dY A n).take p++ak l++(dY A n).drop (p+l.length)=dY (lay A p l) n:=by
 unfold dY ak;rw[<-al6,<-al5,<-adb,<-adb]
 congr 1
 apply ala (by simp[jZ];omega);intro i h1 h2;simp only[jZ,abo,ah4]at h2;by_cases a1:i<p
 ·rw[ah5 (by simp[jZ];omega),ah5 (by simp[jZ];omega)]
  simp only[jZ,List.getElem_take,ahW,ahX,abj];rw[gO A p l i (.inl a1)]
 by_cases a2:i<p+l.length
 ·rw[ah5 (by simp[jZ];omega),alm (by simp[jZ];omega)]
  simp only[jZ,ahY,abo,ah4,ahW,ahX,abj];have e:i=p+(i-p):=by omega
  conv=>rhs;rw[e]
  rw[R6 A p l (i-p) (by omega)]
  congr 1
  omega
 rw[alm (by simp[jZ];omega)];simp only[jZ,List.getElem_drop,ahW,ahX,abj,aa9,ahY,abo,ah4];rw[gO A p l i (.inr (by omega))]
 congr 1
 omega
theorem xG (A:By)(n p:Nat)(c:UInt8)(h:p<n):(dY A n).set p (DE amn c.toNat)=dY (lay A p [c]) n:=by
 rw[<-LB A n p [c] (by simp;omega),List.set_eq_take_append_cons_drop,if_pos (by rw[oX];exact h)];simp[ak]
theorem ZZ (A:By)(p:Nat)(l m:F9):lay (lay A p l) (p+l.length) m=lay A p (l++m):=by
 funext j
 unfold lay;rw[aa9];by_cases h1:p+l.length<=j/\j<p+l.length+m.length
 ·rw[if_pos h1,if_pos (by omega),aaZ,aaZ,List.getElem?_append_right (by omega)]
  congr 2;omega
 rw[if_neg h1];by_cases h2:p<=j/\j<p+l.length
 ·rw[if_pos h2,if_pos (by omega),aaZ,aaZ,List.getElem?_append_left (by omega)]
 rw[if_neg h2,if_neg (by omega)]
theorem ui (A:By)(p:Nat):lay A p []=A:=by
 funext j;unfold lay;rw[if_neg (by simp)]
theorem vT (A:By)(p:Nat)(c:UInt8)(m:F9):lay (lay A (p+1) m) p [c]=lay A p (c::m):=by
 funext j
 unfold lay;by_cases h1:p<=j/\j<p+ [c].length
 ·have:j=p:=by simp at h1;omega
  subst this;rw[if_pos h1,if_pos (by simp)];simp
 rw[if_neg h1];simp only[ahp]at h1;by_cases h2:p+1<=j/\j<p+1+m.length
 ·rw[if_pos h2,if_pos (by simp;omega)]
  rw[show j-p=(j-(p+1))+1 by omega];simp
 rw[if_neg h2,if_neg (by simp;omega)]
structure Pg where
 own:Bool
 lv:Bool
 cl:Nat
 bb:F8
 tk:List Bool
 held:Nat
 old:List (Nat×Nat)
def Pg.no:Pg:=⟨false,false,0,[],[],0,[]⟩
structure Rw where
 free:F8
 eG:Nat
 pgs:Nat
 fL:Nat
structure Cs where
 cfg:oo
 aj:Nat
 n:Nat
 ae:F8
 bQ:List Pg
 rows:List Rw
 spare:Nat
 A:By
namespace Cs
def pg (C:Cs)(i:Nat):Pg:=C.bQ.getD i .no
def rw(C:Cs)(c:Nat):Rw:=C.rows.getD c ⟨[],0,0,0⟩
def sz (C:Cs)(c:Nat):Nat:=C.ae.getD c 0
def pn (C:Cs)(p:Nat):Nat:=p/C.aj
def cl (C:Cs)(p:Nat):Nat:=(C.pg (C.pn p)).cl
def ix (C:Cs)(p:Nat):Nat:=p % C.aj/C.sz (C.cl p)
def gen (C:Cs)(p:Nat):Nat:=(C.pg (C.pn p)).bb.getD (C.ix p) 0
def hd (C:Cs)(p:Nat):Nat:=C.gen p*4294967296+(p/8+1)
structure At (C:Cs)(p:Nat):Prop where
 i:C.pn p<C.n
 own:(C.pg (C.pn p)).own=true
 al:p % C.aj % C.sz (C.cl p)=0
 k:C.ix p<(C.pg (C.pn p)).bb.length
structure Live (C:Cs)(p:Nat):Prop extends At C p where
 tk:(C.pg (C.pn p)).tk[C.ix p]?=some true
structure Fix (C:Cs):Prop where
 p0:4096<=C.aj
 p1:C.aj<=1048576
 p8:C.aj % 8=0
 n0:1<=C.n
 n1:C.n<=1024
 l0:1<=C.ae.length
 l1:C.ae.length<=62
 s0:∀z∈C.ae,64<=z/\z<=C.aj/\z % 8=0
 pl:C.bQ.length=C.n
 rl:C.rows.length=C.ae.length
def BP (C:Cs)(f:Pg->Nat):Nat:=(C.bQ.map f).sum
def we (c:Nat)(x:Pg):Nat:=if x.own=true/\x.cl=c then x.held else 0
def uY (c:Nat)(x:Pg):Nat:=if x.own=true/\x.cl=c then 1 else 0
def xP (c:Nat)(x:Pg):Nat:=if x.own=true/\x.cl=c/\x.lv=false then 1 else 0
def Az (x:Pg):Nat:=if x.own=true then 0 else 1
def bN (b:Bool):Nat:=if b=true then 1 else 0
structure lI (C:Cs)(x:Pg):Prop where
 cl:x.own=true->x.cl<C.ae.length
 gl:x.own=true->x.bb.length=C.aj/C.sz x.cl
 tl:x.tk.length=x.bb.length
 g32:∀g∈x.bb,g<4294967296
 XD:∀g∈x.old,g.2<4294967296
 nd:(x.old.map (·.1)).Nodup
 held:x.held=(x.tk.map bN).sum
 no:x.own=false->x.bb= []/\x.lv=false/\x.cl=0
structure BS (C:Cs)(c p:Nat):Prop extends At C p where
 cl:C.cl p=c
 tk:(C.pg (C.pn p)).tk[C.ix p]?=some false
 lv:(C.pg (C.pn p)).lv=false
structure Ok (C:Cs):Prop extends Fix C where
 pg:∀x∈C.bQ,lI C x
 fr:∀c p,p∈(C.rw c).free->BS C c p
 fn:∀c,(C.rw c).free.Nodup
 fa:∀c p,BS C c p->c<C.ae.length->p∈(C.rw c).free
 ft:∀c,c<C.ae.length->(C.rw c).eG=C.BP (we c)
 fp:∀c,c<C.ae.length->(C.rw c).pgs=C.BP (uY c)
 fs:∀c,c<C.ae.length->(C.rw c).fL=C.BP (xP c)
 sp:C.spare=C.BP Az
theorem Fix.pos{C:Cs}(F:Fix C):0<C.aj:=by have:=F.p0;omega
theorem Fix.sz{C:Cs}(F:Fix C){c:Nat}(h:c<C.ae.length):64<=C.sz c/\C.sz c<=C.aj/\C.sz c % 8=0:=by
 unfold Cs.sz;rw[aaZ,aa0 h];exact F.s0 _ (abe h)
theorem eA{C:Cs}{i:Nat}(h:i<C.bQ.length):C.pg i∈C.bQ:=by
 unfold Cs.pg;rw[aaZ,aa0 h];exact abe h
theorem lA{C:Cs}{i:Nat}(h:i<C.bQ.length):C.bQ[i]?=some (C.pg i):=by
 unfold Cs.pg;rw[aaZ,aa0 h];rfl
theorem abF{C:Cs}{c:Nat}(h:c<C.rows.length):C.rows[c]?=some (C.rw c):=by
 unfold Cs.rw;rw[aaZ,aa0 h];rfl
theorem Ok.yh{C:Cs}(K:Ok C){p:Nat}(h:C.pn p<C.n):lI C (C.pg (C.pn p)):=K.pg _ (eA (by rw[K.pl];exact h))
theorem At.br{C:Cs}(K:Ok C){p:Nat}(L:At C p):
  C.cl p<C.ae.length/\64<=C.sz (C.cl p)/\C.sz (C.cl p)<=C.aj/\C.sz (C.cl p) % 8=0/\p % 8=0/\p=C.pn p*C.aj+C.ix p*C.sz (C.cl p)/\C.ix p*C.sz (C.cl p)+C.sz (C.cl p)<=C.aj/\p+C.sz (C.cl p)<=C.n*C.aj:=by
 have P:=K.yh L.i;have hc:C.cl p<C.ae.length:=P.cl L.own;obtain⟨h1,h2,h3⟩:=K.toFix.sz hc;have hg:=P.gl L.own;have hk:=L.k;have L9:=K.toFix.pos;have P3:=L.al;have e1:p=C.pn p*C.aj+p % C.aj:=by
  have:=ahR p C.aj;unfold Cs.pn;rw[ahm]at this;omega
 have e2:p % C.aj=C.ix p*C.sz (C.cl p):=by
  have:=ahR (p % C.aj) (C.sz (C.cl p));unfold Cs.ix;rw[ahm]at this;omega
 have e3:C.ix p*C.sz (C.cl p)+C.sz (C.cl p)<=C.aj:=by
  have:C.ix p+1<=C.aj/C.sz (C.cl p):=by
   have:(C.pg (C.pn p)).bb.length=C.aj/C.sz (C.cl p):=hg;omega
  have h4:=acW (C.sz (C.cl p)) this;have h5:=aix C.aj (C.sz (C.cl p));rw[ahu,ahE]at h4;omega
 have e4:p+C.sz (C.cl p)<=C.n*C.aj:=by
  have hi:=L.i;have:=acW C.aj (show C.pn p+1<=C.n from hi);rw[ahu,ahE]at this;omega
 have e5:p % 8=0:=by
  have h8:=K.p8;obtain⟨a,ha⟩:∃a,C.aj=8*a:=⟨C.aj/8,by omega⟩;obtain⟨b,hb⟩:∃b,C.sz (C.cl p)=8*b:=⟨C.sz (C.cl p)/8,by omega⟩;rw[e2]at e1;rw[ha,hb]at e1;have:p=8*(C.pn p*a+C.ix p*b):=by
   rw[Nat.mul_add];have x1:C.pn p*(8*a)=8*(C.pn p*a):=by rw[alP]
   have x2:C.ix p*(8*b)=8*(C.ix p*b):=by rw[alP]
   omega
  omega
 exact⟨hc,h1,h2,h3,e5,by omega,e3,e4⟩
theorem gg{C:Cs}(F:Fix C):C.n*C.aj<=1073741824:=by
 have h1:=F.n1;have h2:=F.p1
 calc C.n*C.aj<=1024*1048576:=ac8 h1 h2
  _=1073741824:=by decide
theorem Live.yq{C:Cs}(K:Ok C){p:Nat}(L:At C p):C.gen p<4294967296:=by
 have P:=K.yh L.i;refine P.g32 _ ?_;unfold Cs.gen;rw[aaZ,aa0 L.k];exact abe _
theorem bU{C:Cs}(K:Ok C){p:Nat}(L:At C p):C.hd p % 4294967296=p/8+1/\C.hd p/4294967296=C.gen p/\p/8*8=p/\p/8+1<=C.n*C.aj/8/\C.hd p<18446744073709551616/\C.hd p≠0:=by
 obtain⟨_,h2,_,_,h5,_,_,h8⟩:=L.br K;have hg:=Live.yq K L;have hb:=gg K.toFix;unfold Cs.hd;have:p/8+1<4294967296:=by omega
 refine⟨by omega,by omega,by omega,by omega,by omega,by omega⟩
theorem jm{C:Cs}(K:Ok C){p q:Nat}(L:At C p)(M:At C q)(h:C.hd p=C.hd q):p=q:=by
 obtain⟨a1,_,a3,_⟩:=bU K L;obtain⟨b1,_,b3,_⟩:=bU K M;rw[h]at a1;omega
theorem apart{C:Cs}(K:Ok C){p q:Nat}(L:At C p)(M:At C q)(h:p≠q):p+C.sz (C.cl p)<=q\/q+C.sz (C.cl q)<=p:=by
 obtain⟨_,_,_,_,_,a6,a7,_⟩:=L.br K;obtain⟨_,_,_,_,_,b6,b7,_⟩:=M.br K;rcases alQ (C.pn p) (C.pn q)with h1|h1|h1
 ·have:=acW C.aj (show C.pn p+1<=C.pn q from h1)
  rw[ahu,ahE]at this;omega
 ·have hc:C.cl p=C.cl q:=by unfold Cs.cl;rw[h1]
  rw[hc]at a6 a7⊢;rw[h1]at a6;rcases alQ (C.ix p) (C.ix q)with h2|h2|h2
  ·have:=acW (C.sz (C.cl q)) (show C.ix p+1<=C.ix q from h2)
   rw[ahu,ahE]at this;omega
  ·rw[h2]at a6;exact absurd (a6.trans b6.symm) h
  have:=acW (C.sz (C.cl q)) (show C.ix q+1<=C.ix p from h2);rw[ahu,ahE]at this;omega
 have:=acW C.aj (show C.pn q+1<=C.pn p from h1);rw[ahu,ahE]at this;omega
def pS (C:Cs)(i k:Nat):Nat:=i*C.aj+k*C.sz (C.pg i).cl
theorem kH{C:Cs}(K:Ok C){i k:Nat}(hi:i<C.n)(ho:(C.pg i).own=true)(hk:k<(C.pg i).bb.length):C.pn (C.pS i k)=i/\C.ix (C.pS i k)=k/\At C (C.pS i k):=by
 have P:lI C (C.pg i):=K.pg _ (eA (by rw[K.pl];exact hi));have hc:=P.cl ho;obtain⟨h1,h2,h3⟩:=K.toFix.sz hc;have hg:=P.gl ho;have L9:=K.toFix.pos;have e3:k*C.sz (C.pg i).cl+C.sz (C.pg i).cl<=C.aj:=by
  have:k+1<=C.aj/C.sz (C.pg i).cl:=by omega
  have h4:=acW (C.sz (C.pg i).cl) this;have h5:=aix C.aj (C.sz (C.pg i).cl);rw[ahu,ahE]at h4;omega
 have a1:C.pn (C.pS i k)=i:=by
  unfold Cs.pn Cs.pS;rw[ahm,al1 L9,alW (by omega)];omega
 have a2:C.pS i k % C.aj=k*C.sz (C.pg i).cl:=by
  unfold Cs.pS;rw[ahm,al2,acZ (by omega)]
 have a3:C.ix (C.pS i k)=k:=by
  unfold Cs.ix Cs.cl;rw[a1,a2,alM _ (by omega)]
 refine⟨a1,a3,⟨by rw[a1];exact hi,by rw[a1];exact ho, ?_,by rw[a3,a1];exact hk⟩⟩;unfold Cs.cl;rw[a1,a2,alX]
theorem Hr{C:Cs}(K:Ok C){p:Nat}(L:At C p):C.pS (C.pn p) (C.ix p)=p:=by
 obtain⟨_,_,_,_,_,h6,_⟩:=L.br K;unfold Cs.pS;exact h6.symm
end Cs
open Go Go.dQ
theorem pw8 (m:Nat):(256^(m+1)-1)/256=256^m-1:=by
 have:0<256^m:=Nat.pow_pos (by decide);rw[ahD];omega
theorem H9 (A:By)(n i:Nat)(h:i<n):(dY A n)[i]?=some (DE amn ((A i).toNat)):=by
 unfold dY ak;rw[abf,Y5 A 0 n i h,abj];rfl
theorem C4 (A:By)(p w:Nat):rd A p (w+1)=rd A p w*256+(A (p+w)).toNat:=by
 unfold rd;rw[UH,U6]
theorem ajy{x:Nat}(h:x<256^1):IntKind.u8.wrap (x:Int)=(x:Int):=wrap_u8 (by rw[Nat.pow_one]at h;omega)
def iI (ab aj n:Nat):FV:= [DE DD aj, .slice (some ⟨ab,0,none⟩) n n]
abbrev In (A:aa)(h:Hp):Prop:=∃k,A k/\Le k h
def LZ (ab p m:Nat):Addr:=⟨ab,if m=0 then 0 else p,none⟩
theorem jI (a ab aj n p m:Nat)(h0:0<aj)(h1:p+m<=n)(h2:n<=1073741824)(h3:p % aj+m<=aj)(h4:aj<=1048576):
  aK aaY 261 [DC a,DE DD p,DE DD m] (In (ag a 249 (iI ab aj n))) []
   (λv H=>v= .tuple #[.slice (some (LZ ab p m)) m m, .bool true]/\H= []):=by
 have hc:B8 (some ⟨ab,0,none⟩) p (p+m) (p*1)=some (LZ ab p m):=by
  unfold B8 LZ;by_cases hm:m=0
  ·rw[if_pos (by omega),if_pos hm]
  rw[if_neg (by omega),if_neg hm,Option.map_some,add_lit];simp
 refine af func261 rfl ntmps261 rfl ?_;intro F h0';unfold iI at h0';refine ba ?_;refine av ?_;refine gT false mix ?_;refine bj ?_;refine zf 10 ?_;refine aY ?_;refine zf 14 ?_;refine cu ?_;refine zf 23 ?_;refine bO ?_;refine zf 34 ?_;refine bj ?_;by_cases hm:0<m
 ·refine zt 37 ?_
  refine ba ?_;refine Ti (Rm) ?_;refine bD ?_;refine cM ?_;refine fu ?_;refine Li (Sl p (p+m) (p+m) fx) ?_;rw[hc];refine aY ?_;refine js [] results261 ?_;rw[alv];exact⟨rfl,rfl⟩
 refine zf 37 ?_;refine cC ?_;refine bO ?_;refine Li (Sl p (p+m) (p+m) fx) ?_;rw[hc];refine aY ?_;refine js [] results261 ?_;rw[alv];exact⟨rfl,rfl⟩
theorem AY (x:Nat):((x:Int).fdiv (2^(min 7 IntKind.u8.bits))).fdiv (2^(min 1 IntKind.u8.bits))=((x/256:Nat):Int):=by
 rw[show(2:Int)^(min 7 IntKind.u8.bits)=128 from rfl,show(2:Int)^(min 1 IntKind.u8.bits)=2 from rfl,ac6 _ (by decide),ac6 _ (by decide)];omega
theorem wF:aK aaY 265 [] vz [] (λv H=>v=DE DD 1/\H= []):=by
 refine af func265 rfl ntmps265 rfl ?_;intro F _;refine pX ?_;refine Lo (ι:=Nat) (FZ [1,2,5,7]) (λk=>k<=1) (λk=> [(1,DE amn (256^(1-k)-1:Nat)),(2,DE DD k)]) (λk=> []) (λk=>1-k) (0) (by simp) ?_;rintro k hI;refine ba ?_;refine aA rfl ?_ ?_
 ·intro hk
  replace hk:=aG hk;have ct:k<1:=by
   refine aba λhh=> ?_;rw[show 1-k=0 by omega]at hk;exact absurd hk (by decide)
  refine bA ?_;refine Li (Sr 7) ?_;refine Li (Sr 1) ?_;refine cY ?_;refine aB ?_;refine az (t:=1) (v':=(DE amn (256^(1-(k+1))-1:Nat))) rfl (by rw[AY,show 1-k=(1-(k+1))+1 by omega,pw8]) ?_;refine Ro (k+1) (by omega) (by omega)
 intro hk;replace hk:=aG hk;have rM:k=1:=by
  refine aba λhh=> ?_;have:256<=256^(1-k):=alk (show 1-k≠0 by omega) 256;omega
 subst rM;refine bD ?_;refine Rt [] results265 ?_;exact⟨rfl,rfl⟩
theorem Nr (a ab aj n p:Nat)(A:By)(h0:0<aj)(h1:p+1<=n)(h2:n<=1073741824)(h3:p % aj+1<=aj)(h4:aj<=1048576):
  aK aaY 216 [DC a,DE DD p] (λh=>In (ag a 249 (iI ab aj n)) h/\In (ag ab 5 (dY A n)) h) []
   (λv H=>v= .tuple #[DE amn (rd A p 1:Nat),DE DD 0]/\H= []):=by
 refine af func216 rfl ntmps216 rfl ?_;rintro F ⟨ha,hb⟩;refine kT ?_;refine zl Aq (wF) .nil DA ?_;refine zl Aq (jI a ab aj n p 1 h0 h1 h2 h3 h4) .nil (λ_ le _=>by obtain⟨k,q1,q2⟩:=ha;exact⟨k,q1,q2.trans le⟩) ?_;simp only[LZ,show¬1=0 by decide,if_false];refine cC ?_;refine aY ?_;refine Lo (ι:=Nat) (FZ [8,1,10,1,24,10]) (λk=>k<=1) (λk=> [(8,DE amn (rd A p k:Nat)),(24,DE DD k)]) (λk=> []) (λk=>1-k) (0) (by simp) ?_;rintro k hI;refine bj ?_;refine av ?_;refine aA rfl ?_ ?_
 ·intro hk
  replace hk:=aG hk;have ct:k<1:=by omega
  have k1:=H9 A n (p+k) (by omega);have hl:=kB A p (k+1);have DJ:256^(k+1)<=256^1:=ahr (by decide) ct;have hc:=(A (p+k)).toNat_lt;have hs:=C4 A p k;refine ba ?_;refine Li ((IxB fx)) ?_;refine Lp (oL rU ?_ (hk:=yd (i:=p+k) hb k1));refine aY ?_;refine Li (Sh 7) ?_;refine Li (Sh 1) ?_;refine aw ?_;refine Li ((Im (hz:=UT (by rw[<-hs];exact aht hl DJ)))) ?_;refine bL ?_;refine aB ?_;rw[<-hs];refine Ro (k+1) (by omega) (by omega)
 intro hk;replace hk:=aG hk;have rM:k=1:=by omega
 subst rM;refine bO ?_;refine js [] results216 ?_;exact⟨rfl,rfl⟩
theorem MX (a ab aj n p v:Nat)(A:By)(hv:v<256^1)(h0:0<aj)(h1:p+1<=n)(h2:n<=1073741824)(h3:p % aj+1<=aj)(h4:aj<=1048576):
  aK aaY 276 [DC a,DE DD p,DE amn v] (In (ag a 249 (iI ab aj n))) [ag ab 5 (dY A n)]
   (λu H=>u=DE DD 0/\H= [ag ab 5 (dY (wr A p 1 v) n)]):=by
 refine af func276 rfl ntmps276 rfl ?_;intro F ha;refine fu ?_;refine zl Aq (wF) .nil DA ?_;refine zl Aq (jI a ab aj n p 1 h0 h1 h2 h3 h4) .nil (λ_ le _=>by obtain⟨k,q1,q2⟩:=ha;exact⟨k,q1,q2.trans le⟩) ?_;simp only[LZ,show¬1=0 by decide,if_false];refine cC ?_;refine bn ?_;have fM:lay A (p+1) (be (1-1) v)=A:=ui A _;refine ay (H':= [ag ab 5 (dY (lay A (p+1) (be (1-1) v)) n)]) (by rw[fM];exact λ_ x=>x) ?_;refine Lo (ι:=Nat) (FZ [2,1,9,1,24,11]) (λj=>j<=1) (λj=> [(2,DE amn (v/256^(1-j):Nat)),(9,DE DD ((j:Int)-1))]) (λj=> [ag ab 5 (dY (lay A (p+j) (be (1-j) v)) n)]) (λj=>j) (1) (abc _) ?_;rintro j hI;refine ba ?_;refine aA rfl ?_ ?_
 ·intro hk
  replace hk:=aG hk;obtain⟨i,rfl⟩:∃i,j=i+1:=⟨j-1,by omega⟩;have LV:IntKind.u8.wrap ((v/256^(1-(i+1)):Nat):Int)=((acU (v/256^(1-(i+1)))).toNat:Int):=by
   rw[IntKind.wrap_u8];simp
  have hv2:v/256^(1-(i+1))<256^1:=ahB (ahk _ _) hv;have hlen:p+i<(dY (lay A (p+(i+1)) (be (1-(i+1)) v)) n).length:=by rw[oX];omega
  refine cY ?_;refine az (t:=30) (v':=(DE amn ((acU (v/256^(1-(i+1)))).toNat:Nat))) rfl (by rw[<-LV,ajy hv2]) ?_;refine Li ((IxB fx (j:=i))) ?_;refine Lp (oS rU ?_ (i:=p+i) (hi:=hlen));rw[xG _ _ _ _ (by omega)];refine bj ?_;refine Li (Sr 7) ?_;refine Li (Sr 1) ?_;refine cY ?_;refine aB ?_;have el:lay (lay A (p+(i+1)) (be (1-(i+1)) v)) (p+i) [acU (v/256^(1-(i+1)))]=lay A (p+i) (be (1-i) v):=by
   rw[show 1-i=(1-(i+1))+1 by omega,be];exact vT A (p+i) _ _
  rw[el];refine az (t:=2) (v':=(DE amn (v/256^(1-i):Nat))) rfl (by rw[AY,show 1-i=(1-(i+1))+1 by omega,ahD,aij]) ?_;refine Ro (i) (by omega) (by omega)
 intro hk;replace hk:=aG hk;obtain rfl:j=0:=by omega
 refine cu ?_;refine Rt [ag ab 5 (dY (wr A p 1 v) n)] results276 ?_;exact⟨rfl,rfl⟩
theorem zn (x:Nat):((x:Int).fdiv (2^(min 7 IntKind.u32.bits))).fdiv (2^(min 1 IntKind.u32.bits))=((x/256:Nat):Int):=by
 rw[show(2:Int)^(min 7 IntKind.u32.bits)=128 from rfl,show(2:Int)^(min 1 IntKind.u32.bits)=2 from rfl,ac6 _ (by decide),ac6 _ (by decide)];omega
theorem uJ:aK aaY 263 [] vz [] (λv H=>v=DE DD 4/\H= []):=by
 refine af func263 rfl ntmps263 rfl ?_;intro F _;refine pX ?_;refine Lo (ι:=Nat) (FZ [1,2,5,7]) (λk=>k<=4) (λk=> [(1,DE amo (256^(4-k)-1:Nat)),(2,DE DD k)]) (λk=> []) (λk=>4-k) (0) (by simp) ?_;rintro k hI;refine ba ?_;refine aA rfl ?_ ?_
 ·intro hk
  replace hk:=aG hk;have ct:k<4:=by
   refine aba λhh=> ?_;rw[show 4-k=0 by omega]at hk;exact absurd hk (by decide)
  refine bA ?_;refine Li (Sr 7) ?_;refine Li (Sr 1) ?_;refine cY ?_;refine aB ?_;refine az (t:=1) (v':=(DE amo (256^(4-(k+1))-1:Nat))) rfl (by rw[zn,show 4-k=(4-(k+1))+1 by omega,pw8]) ?_;refine Ro (k+1) (by omega) (by omega)
 intro hk;replace hk:=aG hk;have rM:k=4:=by
  refine aba λhh=> ?_;have:256<=256^(4-k):=alk (show 4-k≠0 by omega) 256;omega
 subst rM;refine bD ?_;refine Rt [] results263 ?_;exact⟨rfl,rfl⟩
theorem Ja (a ab aj n p:Nat)(A:By)(h0:0<aj)(h1:p+4<=n)(h2:n<=1073741824)(h3:p % aj+4<=aj)(h4:aj<=1048576):
  aK aaY 214 [DC a,DE DD p] (λh=>In (ag a 249 (iI ab aj n)) h/\In (ag ab 5 (dY A n)) h) []
   (λv H=>v= .tuple #[DE amo (rd A p 4:Nat),DE DD 0]/\H= []):=by
 refine af func214 rfl ntmps214 rfl ?_;rintro F ⟨ha,hb⟩;refine kT ?_;refine zl Aq (uJ) .nil DA ?_;refine zl Aq (jI a ab aj n p 4 h0 h1 h2 h3 h4) .nil (λ_ le _=>by obtain⟨k,q1,q2⟩:=ha;exact⟨k,q1,q2.trans le⟩) ?_;simp only[LZ,show¬4=0 by decide,if_false];refine cC ?_;refine aY ?_;refine Lo (ι:=Nat) (FZ [8,1,10,1,24,11]) (λk=>k<=4) (λk=> [(8,DE amo (rd A p k:Nat)),(24,DE DD k)]) (λk=> []) (λk=>4-k) (0) (by simp) ?_;rintro k hI;refine bj ?_;refine av ?_;refine aA rfl ?_ ?_
 ·intro hk
  replace hk:=aG hk;have ct:k<4:=by omega
  have k1:=H9 A n (p+k) (by omega);have hl:=kB A p (k+1);have DJ:256^(k+1)<=256^4:=ahr (by decide) ct;have hc:=(A (p+k)).toNat_lt;have hs:=C4 A p k;refine ba ?_;refine Li ((IxB fx)) ?_;refine Lp (oL rU ?_ (hk:=yd (i:=p+k) hb k1));refine aY ?_;refine Li (Sh 7) ?_;refine Li (Sh 1) ?_;refine bn ?_;refine Li ((Im (hz:=M5 hc (by rw[<-hs];exact aht hl DJ)))) ?_;refine bL ?_;refine aB ?_;rw[<-hs];refine Ro (k+1) (by omega) (by omega)
 intro hk;replace hk:=aG hk;have rM:k=4:=by omega
 subst rM;refine bO ?_;refine js [] results214 ?_;exact⟨rfl,rfl⟩
theorem zw (a ab aj n p v:Nat)(A:By)(hv:v<256^4)(h0:0<aj)(h1:p+4<=n)(h2:n<=1073741824)(h3:p % aj+4<=aj)(h4:aj<=1048576):
  aK aaY 221 [DC a,DE DD p,DE amo v] (In (ag a 249 (iI ab aj n))) [ag ab 5 (dY A n)]
   (λu H=>u=DE DD 0/\H= [ag ab 5 (dY (wr A p 4 v) n)]):=by
 refine af func221 rfl ntmps221 rfl ?_;intro F ha;refine fu ?_;refine zl Aq (uJ) .nil DA ?_;refine zl Aq (jI a ab aj n p 4 h0 h1 h2 h3 h4) .nil (λ_ le _=>by obtain⟨k,q1,q2⟩:=ha;exact⟨k,q1,q2.trans le⟩) ?_;simp only[LZ,show¬4=0 by decide,if_false];refine cC ?_;refine bn ?_;have fM:lay A (p+4) (be (4-4) v)=A:=ui A _;refine ay (H':= [ag ab 5 (dY (lay A (p+4) (be (4-4) v)) n)]) (by rw[fM];exact λ_ x=>x) ?_;refine Lo (ι:=Nat) (FZ [2,1,9,1,24,12]) (λj=>j<=4) (λj=> [(2,DE amo (v/256^(4-j):Nat)),(9,DE DD ((j:Int)-1))]) (λj=> [ag ab 5 (dY (lay A (p+j) (be (4-j) v)) n)]) (λj=>j) (4) (abc _) ?_;rintro j hI;refine ba ?_;refine aA rfl ?_ ?_
 ·intro hk
  replace hk:=aG hk;obtain⟨i,rfl⟩:∃i,j=i+1:=⟨j-1,by omega⟩;have LV:IntKind.u8.wrap ((v/256^(4-(i+1)):Nat):Int)=((acU (v/256^(4-(i+1)))).toNat:Int):=by
   rw[IntKind.wrap_u8];simp
  have hv2:v/256^(4-(i+1))<256^4:=ahB (ahk _ _) hv;have hlen:p+i<(dY (lay A (p+(i+1)) (be (4-(i+1)) v)) n).length:=by rw[oX];omega
  refine cY ?_;refine Li ((Cv tL He (hz:=LV))) ?_;refine Li ((IxB fx (j:=i))) ?_;refine Lp (oS rU ?_ (i:=p+i) (hi:=hlen));rw[xG _ _ _ _ (by omega)];refine bj ?_;refine Li (Sr 7) ?_;refine Li (Sr 1) ?_;refine cY ?_;refine aB ?_;have el:lay (lay A (p+(i+1)) (be (4-(i+1)) v)) (p+i) [acU (v/256^(4-(i+1)))]=lay A (p+i) (be (4-i) v):=by
   rw[show 4-i=(4-(i+1))+1 by omega,be];exact vT A (p+i) _ _
  rw[el];refine az (t:=2) (v':=(DE amo (v/256^(4-i):Nat))) rfl (by rw[zn,show 4-i=(4-(i+1))+1 by omega,ahD,aij]) ?_;refine Ro (i) (by omega) (by omega)
 intro hk;replace hk:=aG hk;obtain rfl:j=0:=by omega
 refine cu ?_;refine Rt [ag ab 5 (dY (wr A p 4 v) n)] results221 ?_;exact⟨rfl,rfl⟩
theorem zm (x:Nat):((x:Int).fdiv (2^(min 7 IntKind.u64.bits))).fdiv (2^(min 1 IntKind.u64.bits))=((x/256:Nat):Int):=by
 rw[show(2:Int)^(min 7 IntKind.u64.bits)=128 from rfl,show(2:Int)^(min 1 IntKind.u64.bits)=2 from rfl,ac6 _ (by decide),ac6 _ (by decide)];omega
theorem uI:aK aaY 264 [] vz [] (λv H=>v=DE DD 8/\H= []):=by
 refine af func264 rfl ntmps264 rfl ?_;intro F _;refine pX ?_;refine Lo (ι:=Nat) (FZ [1,2,5,7]) (λk=>k<=8) (λk=> [(1,DE DB (256^(8-k)-1:Nat)),(2,DE DD k)]) (λk=> []) (λk=>8-k) (0) (by simp) ?_;rintro k hI;refine ba ?_;refine aA rfl ?_ ?_
 ·intro hk
  replace hk:=aG hk;have ct:k<8:=by
   refine aba λhh=> ?_;rw[show 8-k=0 by omega]at hk;exact absurd hk (by decide)
  refine bA ?_;refine Li (Sr 7) ?_;refine Li (Sr 1) ?_;refine cY ?_;refine aB ?_;refine az (t:=1) (v':=(DE DB (256^(8-(k+1))-1:Nat))) rfl (by rw[zm,show 8-k=(8-(k+1))+1 by omega,pw8]) ?_;refine Ro (k+1) (by omega) (by omega)
 intro hk;replace hk:=aG hk;have rM:k=8:=by
  refine aba λhh=> ?_;have:256<=256^(8-k):=alk (show 8-k≠0 by omega) 256;omega
 subst rM;refine bD ?_;refine Rt [] results264 ?_;exact⟨rfl,rfl⟩
theorem I9 (a ab aj n p:Nat)(A:By)(h0:0<aj)(h1:p+8<=n)(h2:n<=1073741824)(h3:p % aj+8<=aj)(h4:aj<=1048576):
  aK aaY 215 [DC a,DE DD p] (λh=>In (ag a 249 (iI ab aj n)) h/\In (ag ab 5 (dY A n)) h) []
   (λv H=>v= .tuple #[DE DB (rd A p 8:Nat),DE DD 0]/\H= []):=by
 refine af func215 rfl ntmps215 rfl ?_;rintro F ⟨ha,hb⟩;refine kT ?_;refine zl Aq (uI) .nil DA ?_;refine zl Aq (jI a ab aj n p 8 h0 h1 h2 h3 h4) .nil (λ_ le _=>by obtain⟨k,q1,q2⟩:=ha;exact⟨k,q1,q2.trans le⟩) ?_;simp only[LZ,show¬8=0 by decide,if_false];refine cC ?_;refine aY ?_;refine Lo (ι:=Nat) (FZ [8,1,10,1,24,11]) (λk=>k<=8) (λk=> [(8,DE DB (rd A p k:Nat)),(24,DE DD k)]) (λk=> []) (λk=>8-k) (0) (by simp) ?_;rintro k hI;refine bj ?_;refine av ?_;refine aA rfl ?_ ?_
 ·intro hk
  replace hk:=aG hk;have ct:k<8:=by omega
  have k1:=H9 A n (p+k) (by omega);have hl:=kB A p (k+1);have DJ:256^(k+1)<=256^8:=ahr (by decide) ct;have hc:=(A (p+k)).toNat_lt;have hs:=C4 A p k;refine ba ?_;refine Li ((IxB fx)) ?_;refine Lp (oL rU ?_ (hk:=yd (i:=p+k) hb k1));refine aY ?_;refine Li (Sh 7) ?_;refine Li (Sh 1) ?_;refine bn ?_;refine Li ((Im (hz:=MZ hc (by rw[<-hs];exact aht hl DJ)))) ?_;refine bL ?_;refine aB ?_;rw[<-hs];refine Ro (k+1) (by omega) (by omega)
 intro hk;replace hk:=aG hk;have rM:k=8:=by omega
 subst rM;refine bO ?_;refine js [] results215 ?_;exact⟨rfl,rfl⟩
theorem IV (a ab aj n p v:Nat)(A:By)(hv:v<256^8)(h0:0<aj)(h1:p+8<=n)(h2:n<=1073741824)(h3:p % aj+8<=aj)(h4:aj<=1048576):
  aK aaY 274 [DC a,DE DD p,DE DB v] (In (ag a 249 (iI ab aj n))) [ag ab 5 (dY A n)]
   (λu H=>u=DE DD 0/\H= [ag ab 5 (dY (wr A p 8 v) n)]):=by
 refine af func274 rfl ntmps274 rfl ?_;intro F ha;refine fu ?_;refine zl Aq (uI) .nil DA ?_;refine zl Aq (jI a ab aj n p 8 h0 h1 h2 h3 h4) .nil (λ_ le _=>by obtain⟨k,q1,q2⟩:=ha;exact⟨k,q1,q2.trans le⟩) ?_;simp only[LZ,show¬8=0 by decide,if_false];refine cC ?_;refine bn ?_;have fM:lay A (p+8) (be (8-8) v)=A:=ui A _;refine ay (H':= [ag ab 5 (dY (lay A (p+8) (be (8-8) v)) n)]) (by rw[fM];exact λ_ x=>x) ?_;refine Lo (ι:=Nat) (FZ [2,1,9,1,24,12]) (λj=>j<=8) (λj=> [(2,DE DB (v/256^(8-j):Nat)),(9,DE DD ((j:Int)-1))]) (λj=> [ag ab 5 (dY (lay A (p+j) (be (8-j) v)) n)]) (λj=>j) (8) (abc _) ?_;rintro j hI;refine ba ?_;refine aA rfl ?_ ?_
 ·intro hk
  replace hk:=aG hk;obtain⟨i,rfl⟩:∃i,j=i+1:=⟨j-1,by omega⟩;have LV:IntKind.u8.wrap ((v/256^(8-(i+1)):Nat):Int)=((acU (v/256^(8-(i+1)))).toNat:Int):=by
   rw[IntKind.wrap_u8];simp
  have hv2:v/256^(8-(i+1))<256^8:=ahB (ahk _ _) hv;have hlen:p+i<(dY (lay A (p+(i+1)) (be (8-(i+1)) v)) n).length:=by rw[oX];omega
  refine cY ?_;refine Li ((Cv tL Jy (hz:=LV))) ?_;refine Li ((IxB fx (j:=i))) ?_;refine Lp (oS rU ?_ (i:=p+i) (hi:=hlen));rw[xG _ _ _ _ (by omega)];refine bj ?_;refine Li (Sr 7) ?_;refine Li (Sr 1) ?_;refine cY ?_;refine aB ?_;have el:lay (lay A (p+(i+1)) (be (8-(i+1)) v)) (p+i) [acU (v/256^(8-(i+1)))]=lay A (p+i) (be (8-i) v):=by
   rw[show 8-i=(8-(i+1))+1 by omega,be];exact vT A (p+i) _ _
  rw[el];refine az (t:=2) (v':=(DE DB (v/256^(8-i):Nat))) rfl (by rw[zm,show 8-i=(8-(i+1))+1 by omega,ahD,aij]) ?_;refine Ro (i) (by omega) (by omega)
 intro hk;replace hk:=aG hk;obtain rfl:j=0:=by omega
 refine cu ?_;refine Rt [ag ab 5 (dY (wr A p 8 v) n)] results274 ?_;exact⟨rfl,rfl⟩
theorem In.mono{A:aa}{h k:Hp}(i:In A h)(l:Le h k):In A k:=by
 obtain⟨m,a,b⟩:=i;exact⟨m,a,b.trans l⟩
theorem ag2{ab n p m:Nat}{A:By}{h:Hp}(hb:In (ag ab 5 (dY A n)) h)(hn:p+m<=n):fD h (some (LZ ab p m)) (ak (jZ A p m)):=by
 obtain⟨k,q1,q2⟩:=hb;by_cases hm:m=0
 ·subst hm;rw[UG];exact fD.nil
 have:=(rj (i:=p) q1).mono q2;unfold LZ;rw[if_neg hm,<-WZ A n p m hn];exact this.take m
theorem Iw (a:FX)(l:F9)(m c:Nat)(hm:m=l.length)(hl:l.length<=1073741824):
  aK aaY 262 [.slice a m c] (λh=>fD h a (ak l)) [] (λv H=>∃b,v= .slice (some ⟨b,0,none⟩) m m/\H= [own (some ⟨b,0,none⟩) m 5 1 (ak l)]):=by
 refine af func262 rfl ntmps262 rfl ?_;intro F hF;refine bA ?_;refine Lp (oM (m) (m) iT λb1=> ?_);refine ba ?_;refine Lp (Kp iT rfl rfl rfl rfl .here (eQ (news:=ak l) (by simp[hm]) λh le _=>hF.mono le) ee (by rw[kL];omega) rfl ?_);have hz:dq (ij [DE amn 0] (m*1)) 0 ((ak l).take (min m m*1))=ak l:=by
  rw[ama,alw (by simp[hm]),mO (by rw[kL];simp[hm])];simp[hm,kL]
 rw[hz];refine ay (λ_ s=>bo (λ_ p=>pq p m 1 (by simp[hm]) (by simp only[maxLen];omega)) s) ?_;refine bA ?_;refine Rt [own (some ⟨b1,0,none⟩) m 5 1 (ak l)] results262 ?_;exact⟨_,rfl,rfl⟩
theorem IT (a ab aj n p m:Nat)(A:By)(h0:0<aj)(h1:p+m<=n)(h2:n<=1073741824)(h3:p % aj+m<=aj)(h4:aj<=1048576):
  aK aaY 212 [DC a,DE DD p,DE DD m] (λh=>In (ag a 249 (iI ab aj n)) h/\In (ag ab 5 (dY A n)) h) []
   (λv H=>∃b,v= .tuple #[.slice (some ⟨b,0,none⟩) m m,DE DD 0]/\H= [own (some ⟨b,0,none⟩) m 5 1 (ak (jZ A p m))]):=by
 refine af func212 rfl ntmps212 rfl ?_;rintro F ⟨ha,hb⟩;refine cY ?_;refine zl Aq (jI a ab aj n p m h0 h1 h2 h3 h4) .nil (λ_ le _=>ha.mono le) ?_;refine pX ?_;refine Lp (oC Aq rfl rfl (Iw (some (LZ ab p m)) (jZ A p m) m m (cI A p m).symm (by rw[cI];omega)) .nil (λ_ le _=>(ag2 hb h1).mono le) ?_);rintro v H' ⟨b,rfl,rfl⟩;refine bS ?_;refine aY ?_;refine js [own (some ⟨b,0,none⟩) m 5 1 (ak (jZ A p m))] results212 ?_;exact⟨_,rfl,rfl⟩
theorem qY (a ab aj n p m c:Nat)(A:By)(s:FX)(l:F9)(hm:m=l.length)(h0:0<aj)(h1:p+m<=n)(h2:n<=1073741824)(h3:p % aj+m<=aj)(h4:aj<=1048576):
  aK aaY 246 [DC a,DE DD p, .slice s m c] (λh=>In (ag a 249 (iI ab aj n)) h/\fD h s (ak l)) [ag ab 5 (dY A n)]
   (λv H=>v=DE DD 0/\H= [ag ab 5 (dY (lay A p l) n)]):=by
 refine af func246 rfl ntmps246 rfl ?_;rintro F ⟨ha,hb⟩;refine cY ?_;refine zl Aq (jI a ab aj n p m h0 h1 h2 h3 h4) .nil (λ_ le _=>ha.mono le) ?_;refine rS ?_;have hz:dq (dY A n) (if m=0 then 0 else p) ((ak l).take (min m m*1))=dY (lay A p l) n:=by
  rw[ama,alw (by simp[hm])];by_cases h0:m=0
  ·have:l= []:=abr (by omega)
   subst this;rw[ui];rfl
  rw[if_neg h0,mO (by rw[oX];simp;omega),<-LB A n p l (by omega)];simp[adr]
 refine Lp (Kp iT rfl rfl rfl rfl .here (eQ (news:=ak l) (by simp[hm]) λh le _=>hb.mono le) ee (by rw[oX];split<;>omega) rfl ?_);rw[hz];refine ba ?_;refine Rt [ag ab 5 (dY (lay A p l) n)] results246 ?_;exact⟨rfl,rfl⟩
theorem Jc (a ab aj n p m:Nat)(A:By)(c:UInt8)(hm:0<m)(h0:0<aj)(h1:p+m<=n)(h2:n<=1073741824)(h3:p % aj+m<=aj)(h4:aj<=1048576):
  aK aaY 220 [DC a,DE DD p,DE DD m,DE amn c.toNat] (In (ag a 249 (iI ab aj n))) [ag ab 5 (dY A n)]
   (λv H=>v=DE DD 0/\H= [ag ab 5 (dY (lay A p (aa2 m c)) n)]):=by
 refine af func220 rfl ntmps220 rfl ?_;rintro F ha;refine bL ?_;refine zl Aq (jI a ab aj n p m h0 h1 h2 h3 h4) .nil (λ_ le _=>ha.mono le) ?_;simp only[LZ,show¬m=0 by omega,if_false];refine cC ?_;refine aw ?_;refine ay (H':= [ag ab 5 (dY (lay A p (aa2 0 c)) n)]) (by rw[List.replicate_zero,ui];exact λ_ x=>x) ?_;refine Lo (ι:=Nat) (FZ [11,1,23,8]) (λk=>k<=m) (λk=> [(23,DE DD k)]) (λk=> [ag ab 5 (dY (lay A p (aa2 k c)) n)]) (λk=>m-k) (0) (by simp) ?_;rintro k hI;refine bj ?_;refine av ?_;refine aA rfl ?_ ?_
 ·intro hk
  replace hk:=aG hk;have ct:k<m:=by omega
  have hlen:p+k<(dY (lay A p (aa2 k c)) n).length:=by rw[oX];omega
  refine cL ?_;refine Li ((IxB fx)) ?_;refine Lp (oS rU ?_ (i:=p+k) (hi:=hlen));rw[xG _ _ _ _ (by omega)];have el:lay (lay A p (aa2 k c)) (p+k) [c]=lay A p (aa2 (k+1) c):=by
   have:=ZZ A p (aa2 k c) [c];rw[ahl]at this;rw[this,List.replicate_succ']
  rw[el];refine bA ?_;refine aB ?_;refine Ro (k+1) (by omega) (by omega)
 intro hk;replace hk:=aG hk;obtain rfl:k=m:=by omega
 refine cu ?_;refine Rt [ag ab 5 (dY (lay A p (aa2 k c)) n)] results220 ?_;exact⟨rfl,rfl⟩
theorem Bj (a ab aj n:Nat)(h2:n<=1073741824):
  aK aaY 204 [DC a] (In (ag a 249 (iI ab aj n))) [] (λv H=>v=DE DD n/\H= []):=by
 refine af func204 rfl ntmps204 rfl ?_;intro F h0;unfold iI at h0;refine cL ?_;refine Rt [] results204 ?_;exact⟨rfl,rfl⟩
def jR (c:oo):FV:= [DE DD c.aj,DE DD c.pgs,DE DD c.fac,DE DD c.bE,DE DD c.lim,DE DD c.hot,DE DD c.warm]
def aE (l:F8):FV:=l.map λn:Nat=>DE DD n
def aV (l:F8):FV:=l.map λn:Nat=>DE amo n
def tK (l:List Bool):FV:=l.map λb=> .bool b
def jP (l:List (Nat×Nat)):List (Value×Value):=l.map λp=>(DE DD p.1,DE amo p.2)
def W9 (b:FW)(n:Nat):Value:=match b with
 |some b=> .slice (some ⟨b,0,none⟩) n n
 |none=> .slice none 0 0
def oe (b:FW)(e:TypeId)(cs:FV):aa:=match b with
 |some b=>ag b e cs
 |none=>Ai
def DP (b:FW)(es:List (Value×Value)):aa:=match b with
 |some b=>mq (.int .i64) b es
 |none=>Ai
structure wj where
 p:Pg
 gb:FW
 tb:FW
 ob:FW
def dU (x:wj):FV:= [.bool x.p.own, .bool x.p.lv,DE DD x.p.cl,W9 x.gb x.p.bb.length,W9 x.tb x.p.tk.length,DE DD x.p.held, .map x.ob]
theorem bT:∀x,(dU x).length=7:=λ_=>rfl
def lF (x:wj):aa:=aF [oe x.gb 149 (aV x.p.bb),oe x.tb 4 (tK x.p.tk),DP x.ob (jP x.p.old)]
structure acN (x:wj):Prop where
 g:x.gb.isSome=x.p.own
 t:x.tb.isSome=x.p.own
 o:x.ob=none->x.p.old= []
structure GV where
 r:Rw
 a:FX
 c:Nat
def eH (x:GV):FV:= [.slice x.a x.r.free.length x.c,DE DD x.r.eG,DE DD x.r.pgs,DE DD x.r.fL]
theorem cF:∀x,(eH x).length=4:=λ_=>rfl
def kP (x:GV):aa:=own x.a x.c 3 1 (aE x.r.free)
structure Lc where
 a:Nat
 ab:Nat
 sa:Nat
 pb:Nat
 rb:Nat
 sc:Nat
 pl:List wj
 rl:List GV
def cP (C:Cs)(y:Lc):FV:= [DE DD C.aj,DE DD C.n,DE DD C.cfg.fac,DE DD C.cfg.bE,DE DD C.cfg.lim,DE DD C.cfg.hot,DE DD C.cfg.warm,DC y.a, .slice (some ⟨y.sa,0,none⟩) C.ae.length y.sc, .slice (some ⟨y.pb,0,none⟩) C.n C.n, .slice (some ⟨y.rb,0,none⟩) C.ae.length C.ae.length,DE DD C.spare]
def oq (C:Cs)(y:Lc):aa:=own (some ⟨y.sa,0,none⟩) y.sc 3 1 (aE C.ae)
def mU (b:Nat)(C:Cs)(y:Lc):Dz:=
 [ag b 179 (cP C y),oq C y,ag y.pb 227 (y.pl.flatMap dU),aF (y.pl.map lF),ag y.rb 196 (y.rl.flatMap eH),aF (y.rl.map kP),
  ag y.a 249 (iI y.ab C.aj (C.n*C.aj)),ag y.ab 5 (dY C.A (C.n*C.aj))]
structure gS (C:Cs)(y:Lc):Prop where
 pl:y.pl.map (·.p)=C.bQ
 rl:y.rl.map (·.r)=C.rows
 pk:∀x∈y.pl,acN x
 aj:C.cfg.aj=(C.aj:Int)
 pgs:C.cfg.pgs=(C.n:Int)
def Cl (b:Nat)(C:Cs):aa:=λh=>∃y,gS C y/\aF (mU b C y) h
theorem uf{P:Program}{f:FuncId}{args:FV}{pre:Hp->Prop}{H:Dz}{R:DF}{b:Nat}{C:Cs}(h:∀y,gS C y->aK P f args pre (mU b C y++H) R):aK P f args pre (Cl b C::H) R:=
 aK.exL λy=>aK.Eg λhy=>aK.Hj (h y hy)
theorem qU{b:Nat}{C:Cs}{y:Lc}{H:Dz}{h:Hp}(hy:gS C y)(st:ai (mU b C y++H) h):ai (Cl b C::H) h:=
 bo (λ_ p=>⟨y,hy,p⟩) (eC st)
theorem acB{b:Nat}{C:Cs}{h:Hp}(o:In (Cl b C) h):∃y,gS C y/\gW (mU b C y) h:=by
 obtain⟨k,⟨y,hy,p⟩,l⟩:=o;exact⟨y,hy,cx p l⟩
theorem um{C:Cs}{y:Lc}(K:Cs.Ok C)(hy:gS C y){i:Nat}(hi:i<C.n):∃x,y.pl[i]?=some x/\x.p=C.pg i/\acN x:=by
 have h1:=Cs.lA (C:=C) (i:=i) (by rw[K.pl];exact hi);rw[<-hy.pl,abf,Option.map_eq_some_iff]at h1;obtain⟨x,h2,h3⟩:=h1;exact⟨x,h2,h3,hy.pk x (aa3 h2)⟩
theorem yy{C:Cs}{y:Lc}(K:Cs.Ok C)(hy:gS C y){c:Nat}(hc:c<C.ae.length):∃x,y.rl[c]?=some x/\x.r=C.rw c:=by
 have h1:=Cs.abF (C:=C) (c:=c) (by rw[K.rl];exact hc);rw[<-hy.rl,abf,Option.map_eq_some_iff]at h1;exact h1
theorem eL{l:F8}{i n:Nat}(h:l[i]?=some n):(aE l)[i]?=some (DE DD n):=by unfold aE;rw[abf,h];rfl
theorem oK{l:F8}{i n:Nat}(h:l[i]?=some n):(aV l)[i]?=some (DE amo n):=by unfold aV;rw[abf,h];rfl
theorem CP{l:List Bool}{i:Nat}{b:Bool}(h:l[i]?=some b):(tK l)[i]?=some (.bool b):=by unfold tK;rw[abf,h];rfl
theorem nB{C:Cs}{c:Nat}(h:c<C.ae.length):C.ae[c]?=some (C.sz c):=by
 unfold Cs.sz;rw[aaZ,aa0 h];rfl
theorem uj{C:Cs}{p:Nat}(h:C.ix p<(C.pg (C.pn p)).bb.length):(C.pg (C.pn p)).bb[C.ix p]?=some (C.gen p):=by
 unfold Cs.gen;rw[aaZ,aa0 h];rfl
theorem gx{h:Hp}{b k:Nat}{cells:FV}{v:Value}(r:fD h (some ⟨b,0,none⟩) cells)(hv:cells[k]?=some v):eO h ⟨b,k,none⟩=some v:=by
 obtain⟨ad,e,hc⟩:=r k v hv;cases e
 rwa[add_lit,abj]at hc
structure Cv0 (b:Nat)(C:Cs)(y:Lc)(h:Hp):Prop where
 s:In (ag b 179 (cP C y)) h
 z:fD h (some ⟨y.sa,0,none⟩) (aE C.ae)
 p:In (ag y.pb 227 (y.pl.flatMap dU)) h
 r:In (ag y.rb 196 (y.rl.flatMap eH)) h
 a:In (ag y.a 249 (iI y.ab C.aj (C.n*C.aj))) h
 A:In (ag y.ab 5 (dY C.A (C.n*C.aj))) h
structure Cvp (C:Cs)(y:Lc)(i:Nat)(h:Hp)(x:wj)(gb tb:Nat):Prop where
 x1:y.pl[i]?=some x
 e:x.p=C.pg i
 g:x.gb=some gb
 t:x.tb=some tb
 k0:(y.pl.flatMap dU)[i*7]?=some (.bool true)
 k1:(y.pl.flatMap dU)[i*7+1]?=some (.bool (C.pg i).lv)
 k2:(y.pl.flatMap dU)[i*7+2]?=some (DE DD ((C.pg i).cl))
 k3:(y.pl.flatMap dU)[i*7+3]?=some (.slice (some ⟨gb,0,none⟩) (C.pg i).bb.length (C.pg i).bb.length)
 k4:(y.pl.flatMap dU)[i*7+4]?=some (.slice (some ⟨tb,0,none⟩) (C.pg i).bb.length (C.pg i).bb.length)
 k5:(y.pl.flatMap dU)[i*7+5]?=some (DE DD ((C.pg i).held))
 hg:In (ag gb 149 (aV (C.pg i).bb)) h
 ht:In (ag tb 4 (tK (C.pg i).tk)) h
theorem JP{b:Nat}{C:Cs}{h:Hp}(K:Cs.Ok C){y:Lc}(hy:gS C y)(hi:gW (mU b C y) h){i:Nat}(h1:i<C.n)(h2:(C.pg i).own=true):∃x gb tb,Cvp C y i h x gb tb:=by
 obtain⟨x,x1,x2,x3⟩:=um K hy h1;have own:=h2;rw[<-x2]at own;obtain⟨gb,uW⟩:∃g,x.gb=some g:=Option.isSome_iff_exists.1 (x3.g.trans own);obtain⟨tb,uV⟩:∃g,x.tb=some g:=Option.isSome_iff_exists.1 (x3.t.trans own);have P:Cs.lI C (C.pg i):=K.pg _ (Cs.eA (by rw[K.pl];exact h1));have tl:=P.tl;have c:∀j v,(dU x)[j]?=some v->(y.pl.flatMap dU)[i*7+j]?=some v:=λj v hv=>bq bT x1 hv;obtain⟨_,_,_,h3,_⟩:=hi;obtain⟨g1,g2,_⟩:=uv (yH h3 (aa3 x1));rw[uW]at g1;rw[uV]at g2;rw[x2]at g1 g2;refine⟨x,gb,tb,x1,x2,uW,uV, ?_, ?_, ?_, ?_, ?_, ?_,g1,g2⟩
 ·have:=c 0 _ rfl;rw[own]at this;exact this
 ·have:=c 1 _ rfl;rw[x2]at this;exact this
 ·have:=c 2 _ rfl;rw[x2]at this;exact this
 ·have:=c 3 _ rfl;rw[uW,x2]at this;exact this
 ·have:=c 4 _ rfl;rw[uV,x2,tl]at this;exact this
 have:=c 5 _ rfl;rw[x2]at this;exact this
theorem Ym{b:Nat}{C:Cs}{h:Hp}(K:Cs.Ok C){y:Lc}(hy:gS C y)(hi:gW (mU b C y) h){p:Nat}(L:Cs.At C p):∃x gb tb,Cv0 b C y h/\Cvp C y (C.pn p) h x gb tb/\eO h ⟨y.sa,C.cl p,none⟩=some (DE DD (C.sz (C.cl p))):=by
 obtain⟨x,gb,tb,V⟩:=JP K hy hi L.i L.own;obtain⟨h0,h1,h2,h3,h4,h5,h6,h7,_⟩:=hi;exact⟨x,gb,tb,⟨h0,bK h1,h2,h4,h6,h7⟩,V,gx (bK h1) (eL (nB (L.br K).1))⟩
theorem mN{P:Program}{f:FuncId}{args:FV}{H:Dz}{R:DF}{b:Nat}{C:Cs}(h:∀y,gS C y->aK P f args (gW (mU b C y)) H R):aK P f args (In (Cl b C)) H R:=λF w hp s=>by
 obtain⟨y,hy,hi⟩:=acB hp;exact h y hy F w hi s
theorem bR{L:Dz}{h k:Hp}(i:gW L h)(l:Le h k):gW L k:=by
 induction L with
 |nil=>trivial
 |cons A L ih=>exact⟨Z7 i.1 l,ih i.2⟩
open Go Go.dQ Go.Proofs.YtcbcjolpdljbiaaGreat.Cs
theorem vV (p g:Nat)(hp:p<=1073741824)(hg:g<4294967296):aK aaY 210 [DE DD p,DE amo g] vz [] (λv H=>v=DE DB (g*4294967296+(p/8+1):Nat)/\H= []):=by
 refine af func210 rfl ntmps210 rfl ?_;intro F _;refine bA ?_;refine Li ((Sh 32 (z:=((g*4294967296:Nat):Int)) (hz:=by rw[show(2:Int)^(min 32 IntKind.u64.bits)=4294967296 from rfl,wrap_u64 (by omega)];omega))) ?_;refine aw ?_;refine Li (Qu (q:=8)) ?_;refine bA ?_;refine Rt [] results210 ?_;refine⟨?_,rfl⟩
 congr 1
theorem FL (b:Nat)(C:Cs)(y:Lc)(K:Ok C)(hy:gS C y)(p:Nat)(L:At C p):
  aK aaY 205 [DC b,DE DD p] (gW (mU b C y)) []
   (λv H=>v= .tuple #[.pointer (some ⟨y.pb,C.pn p*7,none⟩),DE DD (C.ix p), .bool true]/\H= []):=by
 obtain⟨n1,n2,n3,n4,n5,n6,n7,n8⟩:=L.br K;have nb:=gg K.toFix;have f0:=K.toFix.p0;have f1:=K.toFix.p1;refine af func205 rfl ntmps205 rfl ?_;intro F au;obtain⟨x,gb,tb,⟨h0,_,h2,_,h6,h7⟩,V,kz⟩:=Ym K hy au L;obtain⟨_,_,_,_,k0,_,k2,k3,k4,_,hg,ht⟩:=V;change _=some (Value.int .i64 (C.cl p:Int))at k2;unfold cP at h0;have hi:=L.i;have ek:=L.k;have P3:=L.al;have hm:=aia p (show 0<C.aj by omega);refine bD ?_;refine zf 12 ?_;refine ba ?_;refine zl Aq (Bj y.a y.ab C.aj (C.n*C.aj) nb) .nil (λ_ le _=>In.mono h6 le) ?_;refine bj ?_;refine cM ?_;refine bn ?_;refine av ?_;refine gT false mix ?_;refine bD ?_;refine Ti (Qu) ?_;refine cC ?_;refine aw ?_;refine Li (Rm) ?_;refine bn ?_;refine av ?_;refine gT false mix ?_;refine gQ ?_;refine av ?_;refine gT false mix ?_;refine bn ?_;refine Ti (Rm) ?_;refine bn ?_;refine zf 59 ?_ (e:=by exact(by rw[P3];rfl));refine bn ?_;refine Ti (Qu) ?_;refine cY ?_;refine cM ?_ (e:=by exact decide_eq_false (by unfold Cs.ix at ek;omega));refine bn ?_;refine av ?_;refine gT false mix ?_;refine bj ?_;refine Ti (Qu) ?_;refine ba ?_;refine Rt3 [] results205 ?_;exact⟨rfl,rfl⟩
theorem K9 (b:Nat)(C:Cs)(y:Lc)(K:Ok C)(hy:gS C y)(p:Nat)(L:Live C p):
  aK aaY 138 [DC b,DE DB (C.hd p)] (gW (mU b C y)) []
   (λv H=>v= .tuple #[.pointer (some ⟨y.pb,C.pn p*7,none⟩),DE DD (C.ix p),DE DD p, .bool true]/\H= []):=by
 obtain⟨n1,n2,n3,n4,n5,n6⟩:=bU K L.toAt;have nb:=gg K.toFix;have hg:=Live.yq K L.toAt;refine af func138 rfl ntmps138 rfl ?_;intro F au;obtain⟨x,gb,tb,⟨h0,_,h2,_,h6,h7⟩,V,kz⟩:=Ym K hy au L.toAt;obtain⟨_,_,_,_,k0,_,k2,k3,k4,_,hgn,ht⟩:=V;unfold cP at h0;have ek:=L.k;have kt:=CP L.tk;have kg:=oK (uj ek);refine cY ?_;refine Li ((Im (hz:=ak0 n5))) ?_;rw[n1];refine bL ?_;refine zf 17 ?_;refine ba ?_;refine zl Aq (Bj y.a y.ab C.aj (C.n*C.aj) nb) .nil (λ_ le _=>In.mono h6 le) ?_;refine Li (Qu (q:=8)) ?_;refine aY ?_;refine cM ?_;refine cL ?_;rw[show(((p/8+1:Nat):Int)-1)*8=(p:Int) by omega];refine zl Aq (FL b C y K hy p L.toAt) .nil (λ_ le _=>bR au le) ?_;refine gQ ?_;refine zf 41 ?_ (e:=by rfl);refine bD ?_;refine zf 51 ?_ (e:=by rfl);refine cY ?_;refine Li ((Sr 32 (z:=((C.gen p:Nat):Int)) (hz:=by rw[ajO,n2]))) ?_;refine aY ?_;refine cM ?_ (e:=by exact(by rw[decide_eq_true rfl];rfl));refine cL ?_;refine Rt4 [] results138 ?_;exact⟨rfl,rfl⟩
theorem wD (b:Nat)(C:Cs)(K:Ok C)(p:Nat)(L:Live C p):
  aK aaY 90 [DC b,DE DB (C.hd p)] (In (Cl b C)) [] (λv H=>v= .tuple #[DE DD p,DE DD (C.cl p),DE DD 0]/\H= []):=by
 refine mN λy hy=> ?_;refine af func90 rfl ntmps90 rfl ?_;intro F au;obtain⟨x,gb,tb,⟨h0,_,h2,_,h6,h7⟩,V,kz⟩:=Ym K hy au L.toAt;obtain⟨_,_,_,_,k0,_,k2,k3,k4,_,hgn,ht⟩:=V;change _=some (Value.int .i64 (C.cl p:Int))at k2;refine cY ?_;refine zl Aq (K9 b C y K hy p L) .nil (λ_ le _=>bR au le) ?_;refine sI ?_;refine av ?_;refine gT false mix ?_;refine bD ?_;refine Rt3 [] results90 ?_;exact⟨rfl,rfl⟩
theorem abM (b:Nat)(C:Cs)(K:Ok C)(p:Nat)(L:Live C p):
  aK aaY 140 [DC b,DE DD p] (In (Cl b C)) [] (λv H=>v= .tuple #[DE DB (C.hd p), .bool true]/\H= []):=by
 refine mN λy hy=> ?_;have nb:=gg K.toFix;obtain⟨_,_,_,_,_,_,_,n8⟩:=L.toAt.br K;refine af func140 rfl ntmps140 rfl ?_;intro F au;obtain⟨x,gb,tb,⟨h0,_,h2,_,h6,h7⟩,V,kz⟩:=Ym K hy au L.toAt;obtain⟨_,_,_,_,k0,_,k2,k3,k4,_,hgn,ht⟩:=V;have ek:=L.k;have kt:=CP L.tk;have kg:=oK (uj ek);refine bL ?_;refine zl Aq (FL b C y K hy p L.toAt) .nil (λ_ le _=>bR au le) ?_;refine gQ ?_;refine zf 18 ?_ (e:=by rfl);refine cC ?_;refine bn ?_;refine zl Aq (vV p (C.gen p) (by omega) (Live.yq K L.toAt)) .nil DA ?_;refine aY ?_;refine js [] results140 ?_;exact⟨rfl,rfl⟩
theorem yn{α:Type}(f:α->Nat)(h:∀x,f x<=1):∀l:List α,(l.map f).sum<=l.length
 | []=>abc _
 |x::l=>by
  have:=yn f h l;have:=h x;simp only[aa7,abp,abu];omega
theorem Cs.Ok.le{C:Cs}(K:Ok C):C.spare<=C.n/\∀c,c<C.ae.length->(C.rw c).fL<=C.n/\(C.rw c).pgs<=C.n:=by
 have h:∀f:Pg->Nat,(∀x,f x<=1)->C.BP f<=C.n:=λf hf=>by
  have:=yn f hf C.bQ;rw[K.pl]at this;exact this
 refine⟨by rw[K.sp];exact h _ λx=>by unfold Az;split<;>omega,λc hc=>⟨by rw[K.fs c hc];exact h _ λx=>by unfold xP;split<;>omega,by rw[K.fp c hc];exact h _ λx=>by unfold uY;split<;>omega⟩⟩
structure Cvr (C:Cs)(y:Lc)(c:Nat)(h:Hp)(x:GV):Prop where
 x1:y.rl[c]?=some x
 e:x.r=C.rw c
 k0:(y.rl.flatMap eH)[c*4]?=some (.slice x.a (C.rw c).free.length x.c)
 k1:(y.rl.flatMap eH)[c*4+1]?=some (DE DD ((C.rw c).eG))
 k2:(y.rl.flatMap eH)[c*4+2]?=some (DE DD ((C.rw c).pgs))
 k3:(y.rl.flatMap eH)[c*4+3]?=some (DE DD ((C.rw c).fL))
 f:fD h x.a (aE (C.rw c).free)
theorem EA{b:Nat}{C:Cs}{h:Hp}(K:Cs.Ok C){y:Lc}(hy:gS C y)(hi:gW (mU b C y) h){c:Nat}(hc:c<C.ae.length):∃x,Cvr C y c h x:=by
 obtain⟨x,x1,x2⟩:=yy K hy hc;have q:∀j v,(eH x)[j]?=some v->(y.rl.flatMap eH)[c*4+j]?=some v:=λj v hv=>bq cF x1 hv;obtain⟨_,_,_,_,_,h5,_⟩:=hi;have g1:=bK (yH h5 (aa3 x1));rw[x2]at g1;refine⟨x,x1,x2, ?_, ?_, ?_, ?_,g1⟩
 ·have:=q 0 _ rfl;rw[x2]at this;exact this
 ·have:=q 1 _ rfl;rw[x2]at this;exact this
 ·have:=q 2 _ rfl;rw[x2]at this;exact this
 have:=q 3 _ rfl;rw[x2]at this;exact this
def XF (C:Cs)(c:Int):Bool:=decide (0<=c/\c<(C.ae.length:Int))
def ofM (C:Cs)(c:Int)(f:Nat->Nat):Nat:=if 0<=c/\c<(C.ae.length:Int)then f c.toNat else 0
theorem AJ (b:Nat)(C:Cs)(y:Lc)(K:Ok C)(c:Int):aK aaY 114 [DC b,DE DD c] (gW (mU b C y)) [] (λv H=>v= .bool (XF C c)/\H= []):=by
 refine af func114 rfl ntmps114 rfl ?_;rintro F ⟨h0,_⟩;unfold cP at h0;refine bL ?_;refine aM (t:=7) rfl ?_ ?_
 ·intro h
  replace h:=aG h;refine bO ?_;refine Rt [] results114 ?_;refine⟨?_,rfl⟩;unfold XF
  congr 2
  simp[h]
 intro h;replace h:=aG h;refine bO ?_;refine Rt [] results114 ?_;refine⟨?_,rfl⟩;unfold XF;rw[Ar]
theorem py (b:Nat)(C:Cs):aK aaY 69 [DC b] (In (Cl b C)) [] (λv H=>v=DE DD C.ae.length/\H= []):=by
 refine mN λy hy=> ?_;refine af func69 rfl ntmps69 rfl ?_;rintro F ⟨h0,_⟩;unfold cP at h0;refine cL ?_;refine Rt [] results69 ?_;exact⟨rfl,rfl⟩
theorem amm (b:Nat)(C:Cs):aK aaY 197 [DC b] (In (Cl b C)) [] (λv H=>v=DE DD C.spare/\H= []):=by
 refine mN λy hy=> ?_;refine af func197 rfl ntmps197 rfl ?_;rintro F ⟨h0,_⟩;unfold cP at h0;refine bO ?_;refine Rt [] results197 ?_;exact⟨rfl,rfl⟩
theorem BC (b:Nat)(C:Cs):aK aaY 108 [DC b] (In (Cl b C)) [] (λv H=>v= .agg (jR C.cfg).toArray/\H= []):=by
 refine mN λy hy=> ?_;have hc:jR C.cfg= [DE DD C.aj,DE DD C.n,DE DD C.cfg.fac,DE DD C.cfg.bE,DE DD C.cfg.lim,DE DD C.cfg.hot,DE DD C.cfg.warm]:=by
  unfold jR;rw[hy.aj,hy.pgs]
 rw[hc];refine af func108 rfl ntmps108 rfl ?_;rintro F ⟨h0,_⟩;unfold cP at h0;refine aw ?_;refine Lp (oA kA λb1=> ?_);refine cu ?_;refine GF [] qC results108 ?_;exact⟨rfl,rfl⟩
theorem W4 (b:Nat)(C:Cs)(y:Lc):aK aaY 211 [DC b] (gW (mU b C y)) [] (λv H=>v=DC y.a/\H= []):=by
 refine af func211 rfl ntmps211 rfl ?_;rintro F ⟨h0,_⟩;unfold cP at h0;refine bO ?_;refine Rt [] results211 ?_;exact⟨rfl,rfl⟩
theorem rJ (b:Nat)(C:Cs)(K:Ok C)(c:Int):aK aaY 71 [DC b,DE DD c] (In (Cl b C)) [] (λv H=>v=DE DD (ofM C c λi=>C.sz i:Nat)/\H= []):=by
 refine mN λy hy=> ?_;refine af func71 rfl ntmps71 rfl ?_;intro F au;have h0:=au.1;have h4:=au.2.2.2.2.1;unfold cP at h0;refine bL ?_;refine zl Aq (AJ b C y K c) .nil (λ_ le _=>bR au le) ?_;unfold ofM XF;refine bn ?_;refine aA rfl ?_ ?_
 ·intro h
  replace h:=aG h;refine ba ?_;refine Rt [] results71 ?_;refine⟨?_,rfl⟩;rw[if_neg h];rfl
 intro h;replace h:=aG h;obtain⟨i,rfl⟩:∃i:Nat,c=(i:Int):=⟨c.toNat,by omega⟩;have hi:i<C.ae.length:=by omega
 obtain⟨x,_,_,k0,k1,k2,k3,_⟩:=EA K hy au hi;have kz:=gx (bK au.2.1) (eL (nB hi));refine gQ ?_;refine Rt [] results71 ?_;refine⟨?_,rfl⟩;rw[if_pos h];rfl
theorem PG (b:Nat)(C:Cs)(K:Ok C)(c:Int):aK aaY 65 [DC b,DE DD c] (In (Cl b C)) [] (λv H=>v=DE DD (ofM C c λi=>(C.rw i).pgs:Nat)/\H= []):=by
 refine mN λy hy=> ?_;refine af func65 rfl ntmps65 rfl ?_;intro F au;have h0:=au.1;have h4:=au.2.2.2.2.1;unfold cP at h0;refine bL ?_;refine zl Aq (AJ b C y K c) .nil (λ_ le _=>bR au le) ?_;unfold ofM XF;refine bn ?_;refine aA rfl ?_ ?_
 ·intro h
  replace h:=aG h;refine ba ?_;refine Rt [] results65 ?_;refine⟨?_,rfl⟩;rw[if_neg h];rfl
 intro h;replace h:=aG h;obtain⟨i,rfl⟩:∃i:Nat,c=(i:Int):=⟨c.toNat,by omega⟩;have hi:i<C.ae.length:=by omega
 obtain⟨x,_,_,k0,k1,k2,k3,_⟩:=EA K hy au hi;have kz:=gx (bK au.2.1) (eL (nB hi));refine fu ?_;refine Rt [] results65 ?_;refine⟨?_,rfl⟩;rw[if_pos h];rfl
theorem PE (b:Nat)(C:Cs)(K:Ok C)(c:Int):aK aaY 66 [DC b,DE DD c] (In (Cl b C)) [] (λv H=>v=DE DD (ofM C c λi=>(C.rw i).eG:Nat)/\H= []):=by
 refine mN λy hy=> ?_;refine af func66 rfl ntmps66 rfl ?_;intro F au;have h0:=au.1;have h4:=au.2.2.2.2.1;unfold cP at h0;refine bL ?_;refine zl Aq (AJ b C y K c) .nil (λ_ le _=>bR au le) ?_;unfold ofM XF;refine bn ?_;refine aA rfl ?_ ?_
 ·intro h
  replace h:=aG h;refine ba ?_;refine Rt [] results66 ?_;refine⟨?_,rfl⟩;rw[if_neg h];rfl
 intro h;replace h:=aG h;obtain⟨i,rfl⟩:∃i:Nat,c=(i:Int):=⟨c.toNat,by omega⟩;have hi:i<C.ae.length:=by omega
 obtain⟨x,_,_,k0,k1,k2,k3,_⟩:=EA K hy au hi;have kz:=gx (bK au.2.1) (eL (nB hi));refine fu ?_;refine Rt [] results66 ?_;refine⟨?_,rfl⟩;rw[if_pos h];rfl
theorem FP (b:Nat)(C:Cs)(K:Ok C)(c:Int):aK aaY 199 [DC b,DE DD c] (In (Cl b C)) [] (λv H=>v=DE DD (ofM C c λi=>(C.rw i).free.length:Nat)/\H= []):=by
 refine mN λy hy=> ?_;refine af func199 rfl ntmps199 rfl ?_;intro F au;have h0:=au.1;have h4:=au.2.2.2.2.1;unfold cP at h0;refine bL ?_;refine zl Aq (AJ b C y K c) .nil (λ_ le _=>bR au le) ?_;unfold ofM XF;refine bn ?_;refine aA rfl ?_ ?_
 ·intro h
  replace h:=aG h;refine ba ?_;refine Rt [] results199 ?_;refine⟨?_,rfl⟩;rw[if_neg h];rfl
 intro h;replace h:=aG h;obtain⟨i,rfl⟩:∃i:Nat,c=(i:Int):=⟨c.toNat,by omega⟩;have hi:i<C.ae.length:=by omega
 obtain⟨x,_,_,k0,k1,k2,k3,_⟩:=EA K hy au hi;have kz:=gx (bK au.2.1) (eL (nB hi));refine kT ?_;refine Rt [] results199 ?_;refine⟨?_,rfl⟩;rw[if_pos h];rfl
theorem PF (b:Nat)(C:Cs)(K:Ok C)(c:Int):aK aaY 72 [DC b,DE DD c] (In (Cl b C)) [] (λv H=>v=DE DD (ofM C c λi=>((C.rw i).fL+C.spare)*(C.aj/C.sz i):Nat)/\H= []):=by
 refine mN λy hy=> ?_;obtain⟨l1,l2⟩:=K.le;have f1:=K.toFix.p1;have f2:=K.toFix.n1;refine af func72 rfl ntmps72 rfl ?_;intro F au;have h0:=au.1;have h4:=au.2.2.2.2.1;unfold cP at h0;refine bL ?_;refine zl Aq (AJ b C y K c) .nil (λ_ le _=>bR au le) ?_;unfold ofM XF;refine bn ?_;refine aA rfl ?_ ?_
 ·intro h
  replace h:=aG h;refine ba ?_;refine Rt [] results72 ?_;refine⟨?_,rfl⟩;rw[if_neg h];rfl
 intro h;replace h:=aG h;obtain⟨i,rfl⟩:∃i:Nat,c=(i:Int):=⟨c.toNat,by omega⟩;have hi:i<C.ae.length:=by omega
 obtain⟨x,_,_,k0,k1,k2,k3,_⟩:=EA K hy au hi;have kz:=gx (bK au.2.1) (eL (nB hi));obtain⟨l3,l4⟩:=l2 i hi;have hzs:=K.toFix.sz hi;have hq:((C.rw i).fL+C.spare)*(C.aj/C.sz i)<=2048*1048576:=ac8 (by omega) (ahO (ahk _ _) f1);refine bn ?_;refine av ?_;refine gT false mix ?_;refine cL ?_;refine Ti (AdN) ?_;refine cL ?_;refine Ti (Qu) ?_;refine Ti (MuN) ?_;refine bj ?_;refine Rt [] results72 ?_;refine⟨?_,rfl⟩;rw[if_pos h];rfl
theorem afv (b:Nat)(C:Cs)(K:Ok C)(n:Nat)(hn:1<=n):aK aaY 182 [DC b,DE DD n] (In (Cl b C)) []
  (λv H=>v=(match C.ae.findIdx? λz=>decide (n<=z)with
   |some c=> .tuple #[DE DD c,DE DD 0]
   |none=> .tuple #[DE DD 0,DE DD 6])/\H= []):=by
 refine mN λy hy=> ?_;have l1:=K.toFix.l1;refine af func182 rfl ntmps182 rfl ?_;intro F au;have h0:=au.1;unfold cP at h0;refine cu ?_;refine cM ?_;refine cL ?_;refine Lo (ι:=Nat) (FZ [4,4,15,10]) (λk=>k<=C.ae.length/\∀j,j<k->C.sz j<n) (λk=> [(15,DE DD k)]) (λk=> []) (λk=>C.ae.length-k) (0) ⟨abn _,λj hj=>absurd hj (ah2 j)⟩ ?_;rintro k ⟨Qq,rY⟩;refine bj ?_;refine av ?_;refine aA rfl ?_ ?_
 ·intro hk
  replace hk:=aG hk;have ct:k<C.ae.length:=by omega
  have ks:=nB ct;have kz:=gx (bK au.2.1) (eL ks);refine pX ?_;refine aA rfl ?_ ?_
  ·intro hq
   replace hq:=aG hq;refine bO ?_;refine js [] results182 ?_;refine⟨?_,rfl⟩;have:C.ae.findIdx? (λz=>decide (n<=z))=some k:=by
    rw[abl];obtain⟨h1,h2⟩:=aa1.1 ks;refine⟨h1,by rw[h2];simp;omega,λj hj=> ?_⟩;have h3:=rY j hj;obtain⟨h4,h5⟩:=aa1.1 (nB (C:=C) (c:=j) (by omega));rw[h5];simp;omega
   rw[this]
  intro hq;replace hq:=aG hq;refine bA ?_;refine aB ?_;refine Ro (k+1) (⟨by omega,λj hj=> ?_⟩) (by omega);by_cases PX:j=k
  ·subst PX;omega
  exact rY j (by omega)
 intro hk;replace hk:=aG hk;obtain rfl:k=C.ae.length:=by omega
 refine bD ?_;refine js [] results182 ?_;refine⟨?_,rfl⟩;have:C.ae.findIdx? (λz=>decide (n<=z))=none:=by
  rw[ahz];intro z hz;obtain⟨j,hj⟩:=ahH hz;have hjl:=(aa1.1 hj).1;have h1:=rY j hjl;rw[nB hjl]at hj;cases hj;simp;omega
 rw[this]
theorem nJ (b:Nat)(C:Cs)(y:Lc)(K:Ok C)(hy:gS C y)(i:Nat)(hi:i<C.n):aK aaY 256 [DC b,DE DD i] (gW (mU b C y)) []
  (λv H=>v= .pointer (if(C.pg i).own=true then some ⟨y.pb,i*7,none⟩else none)/\H= []):=by
 have f2:=K.toFix.n1;obtain⟨x,x1,x2,x3⟩:=um K hy hi;have k0:(y.pl.flatMap dU)[i*7]?=some (.bool (C.pg i).own):=by
  have:=bq bT x1 (j:=0) rfl;rw[x2]at this;exact this
 refine af func256 rfl ntmps256 rfl ?_;intro F au;have h0:=au.1;have h2:=au.2.2.1;unfold cP at h0;refine cY ?_;refine zf 7 ?_;refine cu ?_;refine zf 16 ?_;refine bO ?_;refine aA rfl ?_ ?_
 ·intro h
  replace h:=aG h;refine ba ?_;refine Rt [] results256 ?_;refine⟨?_,rfl⟩;rw[if_neg (by rw[h];simp)]
 intro h;replace h:=aG h;refine cL ?_;refine Rt [] results256 ?_;refine⟨?_,rfl⟩;rw[if_pos (by simpa using h)]
theorem US (b:Nat)(C:Cs)(K:Ok C)(i:Nat)(hi:i<C.n):aK aaY 254 [DC b,DE DD i] (In (Cl b C)) []
  (λv H=>v=DE DD (if(C.pg i).own=true then((C.pg i).cl:Int)else-1)/\H= []):=by
 refine mN λy hy=> ?_;refine af func254 rfl ntmps254 rfl ?_;intro F au;have h2:=au.2.2.1;refine bA ?_;refine zl Aq (nJ b C y K hy i hi) .nil (λ_ le _=>bR au le) ?_;by_cases ho:(C.pg i).own=true
 ·rw[if_pos ho,if_pos ho]
  obtain⟨x,gb,tb,_,_,_,_,_,_,k2,_⟩:=JP K hy au hi ho;refine sI ?_;refine Rt [] results254 ?_;exact⟨rfl,rfl⟩
 rw[if_neg ho,if_neg ho];refine gQ ?_;refine Rt [] results254 ?_;exact⟨rfl,rfl⟩
theorem aab (b:Nat)(C:Cs)(K:Ok C)(i:Nat)(hi:i<C.n)(ho:(C.pg i).own=true):aK aaY 255 [DC b,DE DD i] (In (Cl b C)) []
  (λv H=>v=DE DD ((C.pg i).held)/\H= []):=by
 refine mN λy hy=> ?_;refine af func255 rfl ntmps255 rfl ?_;intro F au;have h2:=au.2.2.1;refine bA ?_;refine zl Aq (nJ b C y K hy i hi) .nil (λ_ le _=>bR au le) ?_;rw[if_pos ho];obtain⟨x,gb,tb,_,_,_,_,_,_,k2,_,_,k5,_⟩:=JP K hy au hi ho;refine sI ?_;refine Rt [] results255 ?_;exact⟨rfl,rfl⟩
theorem Wv (b:Nat)(C:Cs)(K:Ok C)(i:Nat)(hi:i<C.n)(ho:(C.pg i).own=true):aK aaY 202 [DC b,DE DD i] (In (Cl b C)) []
  (λv H=>v=(match(C.pg i).tk.findIdx? id with
   |some k=> .tuple #[DE DB (C.hd (C.pS i k)), .bool true]
   |none=> .tuple #[DE DB 0, .bool false])/\H= []):=by
 refine mN λy hy=> ?_;have P:lI C (C.pg i):=K.pg _ (eA (by rw[K.pl];exact hi));have tl:=P.tl;have gl:=P.gl ho;have hc:=P.cl ho;have f1:=K.toFix.p1;have f2:=K.toFix.n1;have hzs:=K.toFix.sz hc;have hgl:(C.pg i).bb.length<=C.aj:=by rw[gl];exact ahk _ _
 refine af func202 rfl ntmps202 rfl ?_;intro F au;have h0:=au.1;have h2:=au.2.2.1;unfold cP at h0;refine bL ?_;refine zl Aq (nJ b C y K hy i hi) .nil (λ_ le _=>bR au le) ?_;rw[if_pos ho];obtain⟨x,gb,tb,_,_,_,_,_,_,k2,k3,k4,k5,hg,ht⟩:=JP K hy au hi ho;have kz:=gx (bK au.2.1) (eL (nB hc));refine cC ?_;refine Lo (ι:=Nat) (FZ [4,2,7,2,19,35]) (λk=>k<=(C.pg i).bb.length/\∀j,j<k->(C.pg i).tk[j]?=some false) (λk=> [(19,DE DD k)]) (λk=> []) (λk=>(C.pg i).bb.length-k) (0) ⟨abn _,λj hj=>absurd hj (ah2 j)⟩ ?_;rintro k ⟨Qq,rY⟩;refine bj ?_;refine av ?_;refine aA rfl ?_ ?_
 ·intro hk
  replace hk:=aG hk;have ct:k<(C.pg i).bb.length:=by omega
  have et:(C.pg i).tk[k]?=some ((C.pg i).tk[k]'(by omega)):=aa0 _;generalize (C.pg i).tk[k]'(by omega)=t at et;have kt:=CP et;obtain⟨m1,m2,m3⟩:=kH K hi ho ct;have kg:=oK (l:=(C.pg i).bb) (i:=k) (n:=C.gen (C.pS i k)) (by have:=uj (C:=C) (p:=C.pS i k) (by rw[m1,m2];exact ct);rw[m1,m2]at this;exact this);obtain⟨_,_,_,_,_,n6,n7,n8⟩:=m3.br K;have nb:=gg K.toFix;have hgt:=Live.yq K m3;refine fu ?_;refine aA rfl ?_ ?_
  ·intro Ax
   replace Ax:=aG Ax;obtain rfl:t=true:=Ax;have q1:i*C.aj<=1024*1048576:=ac8 (by omega) f1;have q2:k*C.sz (C.pg i).cl<=1048576*1048576:=ac8 (by omega) (by omega);have e3:C.pS i k=i*C.aj+k*C.sz (C.pg i).cl:=rfl;refine av ?_;refine gT false mix ?_;refine bA ?_;refine Ti (MuN) ?_;refine bO ?_;refine Ti (MuN) ?_;refine Ti (AdN) ?_;rw[<-e3];refine bL ?_;refine Tp (oZ (Aq (n:=210)) (vV (C.pS i k) (C.gen (C.pS i k)) (by omega) hgt) .nil DA ?_);refine cu ?_;refine js [] results202 ?_;refine⟨?_,rfl⟩;have:(C.pg i).tk.findIdx? id=some k:=by
    rw[abl];obtain⟨q1,q2⟩:=aa1.1 et;refine⟨q1,by rw[q2];rfl,λj hj=> ?_⟩;obtain⟨q3,q4⟩:=aa1.1 (rY j hj);rw[q4];simp
   rw[this];rfl
  intro Ax;replace Ax:=aG Ax;obtain rfl:t=false:=Ax;refine bA ?_;refine aB ?_;refine Ro (k+1) (⟨by omega,λj hj=> ?_⟩) (by omega);by_cases PX:j=k
  ·subst PX;exact et
  exact rY j (by omega)
 intro hk;replace hk:=aG hk;obtain rfl:k=(C.pg i).bb.length:=by omega
 refine bD ?_;refine js [] results202 ?_;refine⟨?_,rfl⟩;have:(C.pg i).tk.findIdx? id=none:=by
  rw[ahz];intro z hz;obtain⟨j,hj⟩:=ahH hz;have hjl:=(aa1.1 hj).1;rw[rY j (by omega)]at hj;cases hj;rfl
 rw[this]
open Go Go.dQ
theorem CV{α:Type}(f:α->Nat):∀{l:List α} {i:Nat} {x:α} (_:l[i]?=some x) (y:α),((l.set i y).map f).sum+f x=(l.map f).sum+f y
 | [],i,x,h,y=>by simp at h
 |z::l,0,x,h,y=>by
  simp only[aip,Option.some.injEq]at h;subst h;simp only[List.set_cons_zero,aa7,abp];omega
 |z::l,i+1,x,h,y=>by
  simp only[ahM]at h;have:=CV f h y;simp only[List.set_cons_succ,aa7,abp];omega
theorem j7{α:Type}(f:α->Nat):∀{l:List α} {i:Nat} {x:α},l[i]?=some x->f x<=(l.map f).sum
 | [],i,x,h=>by simp at h
 |z::l,0,x,h=>by
  simp only[aip,Option.some.injEq]at h;subst h;simp only[aa7,abp];omega
 |z::l,i+1,x,h=>by
  simp only[ahM]at h;have:=j7 f h;simp only[aa7,abp];omega
namespace Cs
def AH (C:Cs)(i:Nat)(x:Pg):Cs:={C with bQ:=C.bQ.set i x}
def abD (C:Cs)(c:Nat)(r:Rw):Cs:={C with rows:=C.rows.set c r}
theorem Ci (C:Cs)(i j:Nat)(x:Pg)(h:i<C.bQ.length):(C.AH i x).pg j=if j=i then x else C.pg j:=by
 unfold Cs.pg AH;rw[aaZ,aaZ];by_cases e:j=i
 ·subst e;rw[if_pos rfl,aa4 h];rfl
 rw[if_neg e,acX (λq=>e q.symm)]
theorem qH (C:Cs)(c d:Nat)(r:Rw)(h:c<C.rows.length):(C.abD c r).rw d=if d=c then r else C.rw d:=by
 unfold Cs.rw abD;rw[aaZ,aaZ];by_cases e:d=c
 ·subst e;rw[if_pos rfl,aa4 h];rfl
 rw[if_neg e,acX (λq=>e q.symm)]
theorem aaI{C:Cs}{i:Nat}(h:i<C.bQ.length)(f:Pg->Nat)(x:Pg):(C.AH i x).BP f+f (C.pg i)=C.BP f+f x:=CV f (lA h) x
structure QL (x y:Pg):Prop where
 own:y.own=x.own
 cl:y.cl=x.cl
 gl:y.bb.length=x.bb.length
structure DZ (C D:Cs):Prop where
 aj:D.aj=C.aj
 n:D.n=C.n
 ae:D.ae=C.ae
 pg:∀i,QL (C.pg i) (D.pg i)
theorem DZ.sz{C D:Cs}(S:DZ C D)(c:Nat):D.sz c=C.sz c:=by unfold Cs.sz;rw[S.ae]
theorem DZ.pn{C D:Cs}(S:DZ C D)(p:Nat):D.pn p=C.pn p:=by unfold Cs.pn;rw[S.aj]
theorem DZ.cl{C D:Cs}(S:DZ C D)(p:Nat):D.cl p=C.cl p:=by unfold Cs.cl;rw[S.pn,(S.pg _).cl]
theorem DZ.ix{C D:Cs}(S:DZ C D)(p:Nat):D.ix p=C.ix p:=by unfold Cs.ix;rw[S.cl,S.sz,S.aj]
theorem DZ.at{C D:Cs}(S:DZ C D){p:Nat}:At D p↔At C p:=by
 constructor
 ·intro h;exact⟨by rw[<-S.pn,<-S.n];exact h.i,by rw[<-S.pn,<-(S.pg _).own];exact h.own,by rw[<-S.aj,<-S.cl,<-S.sz];exact h.al,by rw[<-S.ix,<-S.pn,<-(S.pg _).gl];exact h.k⟩
 intro h;exact⟨by rw[S.pn,S.n];exact h.i,by rw[S.pn,(S.pg _).own];exact h.own,by rw[S.aj,S.cl,S.sz];exact h.al,by rw[S.ix,S.pn,(S.pg _).gl];exact h.k⟩
theorem YU{C:Cs}{i:Nat}(h:i<C.bQ.length){x:Pg}(l:QL (C.pg i) x):DZ C (C.AH i x):=⟨rfl,rfl,rfl,λj=>by
 rw[Ci C i j x h];split
 ·rename_i e;subst e;exact l
 exact⟨rfl,rfl,rfl⟩⟩
def put (C:Cs)(i:Nat)(x:Pg)(c:Nat)(r:Rw)(sp:Nat)(A:By):Cs:={C with bQ:=C.bQ.set i x,rows:=C.rows.set c r,spare:=sp,A:=A}
def iS (C:Cs)(c p:Nat):Cs:=
 C.put (C.pn p) {C.pg (C.pn p)with tk:=(C.pg (C.pn p)).tk.set (C.ix p) true,held:=(C.pg (C.pn p)).held+1} c {C.rw c with free:=(C.rw c).free.dropLast,eG:=(C.rw c).eG+1} C.spare
  (wr (lay C.A p (aa2 56 0)) (p+12) 4 (C.gen p))
def bh (C:Cs)(p:Nat):Cs:=
 C.put (C.pn p) {C.pg (C.pn p)with tk:=(C.pg (C.pn p)).tk.set (C.ix p) false,held:=(C.pg (C.pn p)).held-1,bb:=(C.pg (C.pn p)).bb.set (C.ix p) ((C.gen p+1) % 4294967296)} (C.cl p)
  {C.rw (C.cl p)with free:=if(C.pg (C.pn p)).lv=true then(C.rw (C.cl p)).free else(C.rw (C.cl p)).free++ [p],eG:=(C.rw (C.cl p)).eG-1} C.spare C.A
def hJ (C:Cs)(i c:Nat)(tk:List Bool):F8:=(((acA tk.length).reverse.filter λk=>tk[k]?==some false).map λk=>i*C.aj+k*C.sz c)
def D0 (l:List (Nat×Nat))(k:Nat):Nat:=((l.find? λe=>decide (e.1=k)).map (·.2)).getD 0
def fR (C:Cs)(i c:Nat):Pg:=
 {C.pg i with own:=true,cl:=c,bb:=(acA (C.aj/C.sz c)).map λk=>D0 (C.pg i).old (k*C.sz c),tk:=aa2 (C.aj/C.sz c) false}
def cz (C:Cs)(i c:Nat):Cs:=
 C.put i (C.fR i c) c {C.rw c with pgs:=(C.rw c).pgs+1,fL:=(C.rw c).fL+1,free:=(C.rw c).free++C.hJ i c (aa2 (C.aj/C.sz c) false)} (C.spare-1) C.A
def eT (C:Cs)(i:Nat):Cs:=
 C.put i {C.pg i with lv:=true} (C.pg i).cl {C.rw (C.pg i).cl with fL:=(C.rw (C.pg i).cl).fL-1,free:=(C.rw (C.pg i).cl).free.filter λp=>decide (C.pn p≠i)} C.spare C.A
def gr (C:Cs)(i:Nat):Cs:=
 C.put i {C.pg i with lv:=false} (C.pg i).cl {C.rw (C.pg i).cl with fL:=(C.rw (C.pg i).cl).fL+1,free:=(C.rw (C.pg i).cl).free++C.hJ i (C.pg i).cl (C.pg i).tk} C.spare C.A
def sJ (l:List (Nat×Nat))(k g:Nat):List (Nat×Nat):=if k∈l.map (·.1)then l.map (λp=>if p.1=k then(k,g)else p)else l++ [(k,g)]
def sL (C:Cs)(x:Pg):List (Nat×Nat):=(acA x.bb.length).foldl (λl k=>sJ l (k*C.sz x.cl) (x.bb.getD k 0)) x.old
def bw (C:Cs)(i:Nat):Cs:=
 C.put i {Pg.no with old:=C.sL (C.pg i)} (C.pg i).cl {C.rw (C.pg i).cl with pgs:=(C.rw (C.pg i).cl).pgs-1} (C.spare+1) C.A
def gD (C:Cs):FW:=C.bQ.findIdx? λx=> !x.own
def dD (C:Cs)(c:Nat):Option (Nat×Cs):=
 match(C.rw c).free.getLast? with
 |some p=>some (p,C.iS c p)
 |none=>match C.gD with
  |none=>none
  |some i=>match((C.cz i c).rw c).free.getLast? with
   |some p=>some (p,(C.cz i c).iS c p)
   |none=>none
theorem TC{l:List Bool}{k:Nat}{b:Bool}(h:l[k]?=some b)(c:Bool):((l.set k c).map bN).sum+bN b=(l.map bN).sum+bN c:=CV bN h c
theorem IY{C:Cs}{i:Nat}{x z:Pg}(h:z∈(C.AH i x).bQ):z=x\/z∈C.bQ:=by
 unfold AH at h;exact(ada h).symm
theorem mX{C:Cs}{i c sp:Nat}{x:Pg}{r:Rw}{A:By}(h:i<C.bQ.length)(j:Nat):(C.put i x c r sp A).pg j=if j=i then x else C.pg j:=Ci C i j x h
theorem aeV{C:Cs}{i c sp:Nat}{x:Pg}{r:Rw}{A:By}(h:c<C.rows.length)(d:Nat):(C.put i x c r sp A).rw d=if d=c then r else C.rw d:=qH C c d r h
theorem xu{C:Cs}{i c sp:Nat}{x:Pg}{r:Rw}{A:By}(h:i<C.bQ.length)(l:QL (C.pg i) x):DZ C (C.put i x c r sp A):=⟨rfl,rfl,rfl,(YU h l).pg⟩
structure Nfr (C:Cs)(x:Pg)(c q:Nat):Prop where
 own:x.own=true
 al:q % C.aj % C.sz c=0
 tk:x.tk[q % C.aj/C.sz c]?=some false
 lv:x.lv=false
theorem lI.put{C:Cs}{i c sp:Nat}{y:Pg}{r:Rw}{A:By}{x:Pg}(P:lI C x):lI (C.put i y c r sp A) x:=⟨P.cl,P.gl,P.tl,P.g32,P.XD,P.nd,P.held,P.no⟩
theorem K6{C:Cs}(K:Ok C){d q:Nat}(h:C.pn q<C.n):BS C d q↔C.cl q=d/\Nfr C (C.pg (C.pn q)) d q:=by
 constructor
 ·intro G
  have c:=G.cl;exact⟨c,G.own,by have:=G.al;rwa[c]at this,by have:=G.tk;unfold Cs.ix at this;rwa[c]at this,G.lv⟩
 rintro⟨rfl,G⟩;have P:=K.yh h;refine⟨⟨h,G.own,G.al, ?_⟩,rfl,G.tk,G.lv⟩;have:=(aa1.1 G.tk).1;rw[P.tl]at this;exact this
theorem vu{C:Cs}(K:Ok C){i c sp:Nat}{x:Pg}{r:Rw}{A:By}(hi:i<C.n)(ig:c<C.ae.length)(ho:(C.pg i).own=true->(C.pg i).cl=c)(hx:x.own=true->x.cl=c)(P:lI C x)(zQ:r.free.Nodup)
  (GA:∀q,q∈r.free↔(BS C c q/\C.pn q≠i)\/(C.pn q=i/\Nfr C x c q))
  (ht:r.eG+we c (C.pg i)=(C.rw c).eG+we c x) (hp:r.pgs+uY c (C.pg i)=(C.rw c).pgs+uY c x) (hs:r.fL+xP c (C.pg i)=(C.rw c).fL+xP c x) (PU:sp+Az (C.pg i)=C.spare+Az x):Ok (C.put i x c r sp A):=by
 have hpl:i<C.bQ.length:=by rw[K.pl];exact hi
 have dx:c<C.rows.length:=by rw[K.rl];exact ig
 have jg:=mX (C:=C) (c:=c) (sp:=sp) (x:=x) (r:=r) (A:=A) hpl;have hrw:=aeV (C:=C) (i:=i) (sp:=sp) (x:=x) (r:=r) (A:=A) dx;have Yi:∀f,(C.put i x c r sp A).BP f+f (C.pg i)=C.BP f+f x:=λf=>aaI hpl f x;have hPg:∀z∈(C.put i x c r sp A).bQ,lI (C.put i x c r sp A) z:=by
  intro z hz;rcases IY (C:=C) hz with rfl|hz
  ·exact P.put
  exact(K.pg z hz).put
 have ajl:∀d q,BS (C.put i x c r sp A) d q↔(BS C d q/\C.pn q≠i)\/(d=c/\C.pn q=i/\Nfr C x c q):=by
  intro d q;have Jt:(C.put i x c r sp A).pn q=C.pn q:=rfl;by_cases e:C.pn q=i
  ·have vp:(C.put i x c r sp A).cl q=x.cl:=by unfold Cs.cl;rw[Jt,jg,if_pos e]
   have Gz:(C.put i x c r sp A).ix q=q % C.aj/C.sz x.cl:=by unfold Cs.ix;rw[vp];rfl
   constructor
   ·intro G
    have g1:=G.own;have g2:=G.tk;have g3:=G.lv;have g4:=G.al;have g5:=G.cl;rw[Jt,jg,if_pos e]at g1 g2 g3;rw[vp]at g4 g5;rw[Gz]at g2;have hc:=hx g1;rw[hc]at g2 g4 g5;exact .inr ⟨g5.symm,e,g1,g4,g2,g3⟩
   rintro(⟨_,b⟩|⟨rfl,_,G⟩)
   ·exact absurd e b
   have hc:=hx G.own;refine⟨⟨by rw[Jt,e];exact hi,by rw[Jt,jg,if_pos e];exact G.own,by rw[vp,hc];exact G.al, ?_⟩,by rw[vp,hc], ?_,by rw[Jt,jg,if_pos e];exact G.lv⟩
   ·rw[Jt,jg,if_pos e,Gz,hc,<-P.tl]
    exact(aa1.1 G.tk).1
   rw[Jt,jg,if_pos e,Gz,hc];exact G.tk
  have dL:(C.put i x c r sp A).pg (C.pn q)=C.pg (C.pn q):=by rw[jg,if_neg e]
  have vp:(C.put i x c r sp A).cl q=C.cl q:=by unfold Cs.cl;rw[Jt,dL]
  have Gz:(C.put i x c r sp A).ix q=C.ix q:=by unfold Cs.ix;rw[vp];rfl
  constructor
  ·intro G
   exact .inl ⟨⟨⟨G.i,by rw[<-dL];exact G.own,by rw[<-vp];exact G.al,by rw[<-Gz,<-dL];exact G.k⟩,by rw[<-vp];exact G.cl,by rw[<-Gz,<-dL];exact G.tk,by rw[<-dL];exact G.lv⟩,e⟩
  rintro(⟨G,_⟩|⟨_,b,_⟩)
  ·exact⟨⟨G.i,by rw[Jt,dL];exact G.own,by rw[vp];exact G.al,by rw[Gz,Jt,dL];exact G.k⟩,by rw[vp];exact G.cl,by rw[Gz,Jt,dL];exact G.tk,by rw[Jt,dL];exact G.lv⟩
  exact absurd b e
 refine⟨⟨K.p0,K.p1,K.p8,K.n0,K.n1,K.l0,K.l1,K.s0,by simp[put,K.pl],by simp[put,K.rl]⟩,hPg, ?_, ?_, ?_, ?_, ?_, ?_, ?_⟩
 ·intro d q hq
  rw[hrw]at hq;refine(ajl d q).2 ?_;by_cases e:d=c
  ·subst e
   rw[if_pos rfl]at hq;rcases(GA q).1 hq with h1|h1
   ·exact .inl h1
   exact .inr ⟨rfl,h1⟩
  rw[if_neg e]at hq;have G:=K.fr d q hq;refine .inl ⟨G,λe2=>e ?_⟩;have g1:=G.own;rw[e2]at g1;rw[<-G.cl,<-ho g1,<-e2];rfl
 ·intro d
  rw[hrw];split
  ·exact zQ
  exact K.fn d
 ·intro d q G hd
  rw[hrw];rcases(ajl d q).1 G with⟨G1,h2⟩|⟨rfl,h1⟩
  ·split
   ·rename_i e;subst e;exact(GA q).2 (.inl ⟨G1,h2⟩)
   exact K.fa d q G1 hd
  rw[if_pos rfl];exact(GA q).2 (.inr h1)
 all_goals try intro d hd
 all_goals try (have h1:=Yi (we d);have h2:=K.ft d hd;have h3:=Yi (uY d);have h4:=K.fp d hd;have h5:=Yi (xP d);have h6:=K.fs d hd;rw[hrw])
 ·by_cases e:d=c
  ·subst e;rw[if_pos rfl];omega
  rw[if_neg e];have q1:we d (C.pg i)=0:=by unfold we;rw[if_neg λq=>e (q.2.symm.trans (ho q.1))]
  have q2:we d x=0:=by unfold we;rw[if_neg λq=>e (q.2.symm.trans (hx q.1))]
  omega
 ·by_cases e:d=c
  ·subst e;rw[if_pos rfl];omega
  rw[if_neg e];have q1:uY d (C.pg i)=0:=by unfold uY;rw[if_neg λq=>e (q.2.symm.trans (ho q.1))]
  have q2:uY d x=0:=by unfold uY;rw[if_neg λq=>e (q.2.symm.trans (hx q.1))]
  omega
 ·by_cases e:d=c
  ·subst e;rw[if_pos rfl];omega
  rw[if_neg e];have q1:xP d (C.pg i)=0:=by unfold xP;rw[if_neg λq=>e (q.2.1.symm.trans (ho q.1))]
  have q2:xP d x=0:=by unfold xP;rw[if_neg λq=>e (q.2.1.symm.trans (hx q.1))]
  omega
 have h1:=Yi Az;have h2:=K.sp;show sp=_;omega
theorem ye{C:Cs}(K:Ok C){p q:Nat}(L:At C p)(M:At C q)(e:C.pn q=C.pn p)(h:q≠p):C.ix q≠C.ix p:=λe2=>h (by rw[<-Hr K M,<-Hr K L,e,e2])
theorem yE{C:Cs}(K:Ok C){p c:Nat}(h:(C.rw c).free.getLast?=some p):Ok (C.iS c p)/\DZ C (C.iS c p)/\BS C c p:=by
 have hm:p∈(C.rw c).free:=List.mem_of_getLast? h;have F:=K.fr c p hm;have L:=F.toAt;have fN:(C.rw c).free≠ []:=List.ne_nil_of_mem hm;have rN:(C.rw c).free=(C.rw c).free.dropLast++ [p]:=by
  have:=ale fN;rw[ahv fN]at h;rw[Option.some.inj h]at this;exact this.symm
 have zQ:=K.fn c;rw[rN]at zQ;rw[ac9]at zQ;have Qn:p∉(C.rw c).free.dropLast:=λhq=>zQ.2.2 p hq p (List.mem_singleton_self p) rfl;have P:=K.yh L.i;have ig:c<C.ae.length:=by rw[<-F.cl];exact(L.br K).1
 have hs:=TC F.tk true;have hh:=P.held;rw[show bN false=0 from rfl,show bN true=1 from rfl]at hs;have fT:∀y:Pg,y.own=true->y.cl=c->we c y=y.held:=λy a b=>by unfold we;rw[if_pos ⟨a,b⟩]
 have hl:QL (C.pg (C.pn p)) {C.pg (C.pn p)with tk:=(C.pg (C.pn p)).tk.set (C.ix p) true,held:=(C.pg (C.pn p)).held+1}:=⟨rfl,rfl,rfl⟩;refine⟨vu K L.i ig (λ_=>F.cl) (λ_=>F.cl) ⟨P.cl,P.gl,by simpa using P.tl,P.g32,P.XD,P.nd,by dsimp only;omega,λh=>absurd (L.own.symm.trans h) (by simp)⟩ zQ.1 (λq=> ?_) (by have q1:=fT (C.pg (C.pn p)) L.own F.cl;have q2:=fT {C.pg (C.pn p)with tk:=(C.pg (C.pn p)).tk.set (C.ix p) true,held:=(C.pg (C.pn p)).held+1} L.own F.cl;dsimp only at q1 q2⊢;omega) rfl rfl rfl,xu (by rw[K.pl];exact L.i) hl,F⟩;have xa:q∈(C.rw c).free↔BS C c q:=⟨K.fr c q,λG=>K.fa c q G ig⟩;have hq:q∈(C.rw c).free.dropLast↔BS C c q/\q≠p:=by
  rw[<-xa];constructor
  ·intro h1;exact⟨by rw[rN];exact List.mem_append_left _ h1,λe=>Qn (e▸h1)⟩
  rintro⟨h1,h2⟩;rw[rN]at h1;exact(ahy.1 h1).resolve_right λh3=>h2 (acQ.1 h3)
 dsimp only;rw[hq];have Gz:∀z,C.pn z=C.pn p->z % C.aj/C.sz c=C.ix z:=λz e=>by
  unfold Cs.ix Cs.cl;rw[e];have:=F.cl;unfold Cs.cl at this;rw[this]
 constructor
 ·rintro⟨G,fN⟩
  by_cases e:C.pn q=C.pn p
  ·have g2:=((K6 K G.i).1 G).2
   refine .inr ⟨e,L.own,g2.al, ?_,by rw[<-e];exact G.lv⟩;rw[Gz q e];rw[acX (λz=>ye K L G.toAt e fN z.symm),<-e];exact G.tk
  exact .inl ⟨G,e⟩
 rintro(⟨G,e⟩|⟨e,N⟩)
 ·exact⟨G,λz=>e (by rw[z])⟩
 have t:=N.tk;rw[Gz q e]at t;have fN:q≠p:=by
  rintro rfl;rw[aa4 (aa1.1 F.tk).1]at t;cases t
 have hcq:C.cl q=c:=by unfold Cs.cl;rw[e];exact F.cl
 have a:At C q:=⟨by rw[e];exact L.i,by rw[e];exact L.own,by rw[hcq];exact N.al,by
  have:=(aa1.1 t).1;rw[aa8,P.tl]at this;rw[e];exact this⟩
 rw[acX (λz=>ye K L a e fN z.symm)]at t;exact⟨⟨a,hcq,by rw[e];exact t,by rw[e];exact N.lv⟩,fN⟩
theorem IW{C:Cs}(F:Fix C){c:Nat}(hc:c<C.ae.length){i k:Nat}(hk:k<C.aj/C.sz c):C.pn (i*C.aj+k*C.sz c)=i/\(i*C.aj+k*C.sz c) % C.aj=k*C.sz c/\k*C.sz c % C.sz c=0/\k*C.sz c/C.sz c=k:=by
 obtain⟨h1,h2,h3⟩:=F.sz hc;have L9:=F.pos;have e3:k*C.sz c+C.sz c<=C.aj:=by
  have h4:=acW (C.sz c) (show k+1<=C.aj/C.sz c from hk);have h5:=aix C.aj (C.sz c);rw[ahu,ahE]at h4;omega
 refine⟨?_, ?_,alX _ _,alM _ (by omega)⟩
 ·unfold Cs.pn
  rw[ahm,al1 L9,alW (by omega)];omega
 rw[ahm,al2,acZ (by omega)]
theorem rD{C:Cs}(F:Fix C){i c:Nat}(hc:c<C.ae.length){tk:List Bool}(ht:tk.length<=C.aj/C.sz c)(q:Nat):
  q∈C.hJ i c tk↔C.pn q=i/\q % C.aj % C.sz c=0/\tk[q % C.aj/C.sz c]?=some false:=by
 unfold hJ;rw[abk];constructor
 ·rintro⟨k,hk,rfl⟩
  rw[abm,ahN,ac3]at hk;obtain⟨a1,a2,a3,a4⟩:=IW F hc (i:=i) (k:=k) (by omega);rw[a1,a2];refine⟨rfl,a3, ?_⟩;rw[a4];simpa using hk.2
 rintro⟨h1,h2,h3⟩;have hk:=(aa1.1 h3).1;refine⟨q % C.aj/C.sz c, ?_, ?_⟩
 ·rw[abm,ahN,ac3]
  exact⟨hk,by rw[h3];rfl⟩
 have e1:=ahR q C.aj;have e2:=ahR (q % C.aj) (C.sz c);unfold Cs.pn at h1;rw[h1]at e1;rw[ahm]at e1 e2;omega
theorem Bu{C:Cs}(F:Fix C){i c:Nat}(hc:c<C.ae.length)(tk:List Bool):(C.hJ i c tk).Nodup:=by
 obtain⟨h1,_⟩:=F.sz hc;unfold hJ;rw[List.Nodup,List.pairwise_map];have hr:((acA tk.length).reverse).Pairwise (λa b:Nat=>a≠b):=by
  rw[List.pairwise_reverse];exact ah3.imp (λ{a b} h e=>h e.symm) (List.nodup_range (n:=tk.length))
 refine ah3.imp (λ{a b} h e=> ?_) (ah3.filter _ hr);have:a*C.sz c=b*C.sz c:=by omega
 exact h (Nat.eq_of_mul_eq_mul_right (by omega) this)
theorem CN{c:Nat}{y:Pg}(a:y.own=true)(b:y.cl=c):we c y=y.held:=by unfold we;rw[if_pos ⟨a,b⟩]
theorem Gz{C:Cs}{c i:Nat}(hc:(C.pg i).cl=c){z:Nat}(e:C.pn z=i):z % C.aj/C.sz c=C.ix z:=by
 unfold Cs.ix Cs.cl;rw[e,hc]
theorem ZE{C:Cs}(K:Ok C){i:Nat}(hi:i<C.n)(ho:(C.pg i).own=true){x:Pg}(hl:x.tk.length=(C.pg i).tk.length){q:Nat}(e:C.pn q=i)(N:Nfr C x (C.pg i).cl q):At C q/\C.cl q=(C.pg i).cl/\x.tk[C.ix q]?=some false:=by
 have t:=N.tk;rw[Gz rfl e]at t;have hcq:C.cl q=(C.pg i).cl:=by unfold Cs.cl;rw[e]
 have P:lI C (C.pg i):=K.pg _ (eA (by rw[K.pl];exact hi));refine⟨⟨by rw[e];exact hi,by rw[e];exact ho,by rw[hcq];exact N.al, ?_⟩,hcq,t⟩;have:=(aa1.1 t).1;rw[hl,P.tl]at this;rw[e];exact this
theorem Uy (x:Pg)(tk:List Bool)(h:Nat)(g:F8)(hg:g.length=x.bb.length):QL x {x with tk:=tk,held:=h,bb:=g}:=⟨rfl,rfl,hg⟩
theorem gA{C:Cs}(K:Ok C){p:Nat}(L:Live C p):Ok (C.bh p)/\DZ C (C.bh p):=by
 have P:=K.yh L.i;have ig:=(L.toAt.br K).1;have hs:=TC L.tk false;have hh:=P.held;rw[show bN false=0 from rfl,show bN true=1 from rfl]at hs;have hT:=K.ft _ ig;have hTl:(C.pg (C.pn p)).held<=(C.rw (C.cl p)).eG:=by
  have h1:=j7 (we (C.cl p)) (lA (C:=C) (i:=C.pn p) (by rw[K.pl];exact L.i));rw[CN (c:=C.cl p) L.own rfl]at h1;rw[hT];exact h1
 have hlen:(C.pg (C.pn p)).bb.length=((C.pg (C.pn p)).bb.set (C.ix p) ((C.gen p+1) % 4294967296)).length:=by simp
 have xa:∀q,q∈(C.rw (C.cl p)).free↔BS C (C.cl p) q:=λq=>⟨K.fr _ q,λG=>K.fa _ q G ig⟩;have hnp:p∉(C.rw (C.cl p)).free:=λh=>by
  have:=((xa p).1 h).tk;rw[L.tk]at this;cases this
 refine⟨vu K L.i ig (λ_=>rfl) (λ_=>rfl) ⟨P.cl,λh=>by rw[<-hlen];exact P.gl h,by simpa using P.tl, ?_,P.XD,P.nd,by dsimp only;omega,λh=>absurd (L.own.symm.trans h) (by simp)⟩ ?_ (λq=> ?_) ?_ rfl rfl rfl,xu (by rw[K.pl];exact L.i) (Uy _ _ _ _ hlen.symm)⟩
 ·intro g hg
  rcases ada hg with h|rfl
  ·exact P.g32 g h
  exact aia _ (by decide)
 ·dsimp only
  split
  ·exact K.fn _
  rw[ac9];exact⟨K.fn _,by simp,λa ha b hb e=>hnp ((e.trans (acQ.1 hb))▸ha)⟩
 ·dsimp only
  have key:∀q,C.pn q=C.pn p->Nfr C {C.pg (C.pn p)with tk:=(C.pg (C.pn p)).tk.set (C.ix p) false,held:=(C.pg (C.pn p)).held-1,bb:=(C.pg (C.pn p)).bb.set (C.ix p) ((C.gen p+1) % 4294967296)} (C.cl p) q->(C.pg (C.pn p)).lv=false/\(q=p\/BS C (C.cl p) q):=by
   intro q e N;obtain⟨a,b,t⟩:=ZE K L.i L.own (x:={C.pg (C.pn p)with tk:=(C.pg (C.pn p)).tk.set (C.ix p) false,held:=(C.pg (C.pn p)).held-1,bb:=(C.pg (C.pn p)).bb.set (C.ix p) ((C.gen p+1) % 4294967296)}) (by simp) e N;refine⟨N.lv, ?_⟩;by_cases fN:q=p
   ·exact .inl fN
   dsimp only at t;rw[acX (λz=>ye K L.toAt a e fN z.symm)]at t;exact .inr ⟨a,b,by rw[e];exact t,by rw[e];exact N.lv⟩
  have back:∀q,C.pn q=C.pn p->(C.pg (C.pn p)).lv=false->(q=p\/BS C (C.cl p) q)->Nfr C {C.pg (C.pn p)with tk:=(C.pg (C.pn p)).tk.set (C.ix p) false,held:=(C.pg (C.pn p)).held-1,bb:=(C.pg (C.pn p)).bb.set (C.ix p) ((C.gen p+1) % 4294967296)} (C.cl p) q:=by
   intro q e iG h;have hk:C.ix p<(C.pg (C.pn p)).tk.length:=(aa1.1 L.tk).1;rcases h with rfl|G
   ·refine⟨L.own,L.al, ?_,iG⟩
    rw[Gz (c:=C.cl q) (i:=C.pn q) rfl rfl,aa4 hk]
   have a2:=((K6 K G.i).1 G).2;refine⟨L.own,a2.al, ?_,iG⟩;have fN:q≠p:=λz=>by
    have:=G.tk;rw[z,L.tk]at this;cases this
   rw[Gz (c:=C.cl p) (i:=C.pn p) rfl e,acX (λz=>ye K L.toAt G.toAt e fN z.symm),<-e];exact G.tk
  by_cases iG:(C.pg (C.pn p)).lv=true
  ·rw[if_pos iG,xa]
   constructor
   ·intro G
    by_cases e:C.pn q=C.pn p
    ·have:=G.lv
     rw[e,iG]at this;cases this
    exact .inl ⟨G,e⟩
   rintro(⟨G,_⟩|⟨e,N⟩)
   ·exact G
   have:=(key q e N).1;rw[iG]at this;cases this
  have hlv2:(C.pg (C.pn p)).lv=false:=by simpa using iG
  rw[if_neg iG,ahy,xa,acQ];constructor
  ·intro h
   by_cases e:C.pn q=C.pn p
   ·exact .inr ⟨e,back q e hlv2 h.symm⟩
   rcases h with G|rfl
   ·exact .inl ⟨G,e⟩
   exact absurd rfl e
  rintro(⟨G,_⟩|⟨e,N⟩)
  ·exact .inl G
  exact((key q e N).2).symm
 have q1:=CN (c:=C.cl p) (y:=C.pg (C.pn p)) L.own rfl;have q2:=CN (c:=C.cl p) (y:={C.pg (C.pn p)with tk:=(C.pg (C.pn p)).tk.set (C.ix p) false,held:=(C.pg (C.pn p)).held-1,bb:=(C.pg (C.pn p)).bb.set (C.ix p) ((C.gen p+1) % 4294967296)}) L.own rfl;dsimp only at q1 q2⊢;omega
theorem Bl{C:Cs}(K:Ok C){i:Nat}(hi:i<C.n)(ho:(C.pg i).own=true)(iG:(C.pg i).lv=false):Ok (C.eT i)/\DZ C (C.eT i):=by
 have P:lI C (C.pg i):=K.pg _ (eA (by rw[K.pl];exact hi));have ig:=P.cl ho;have hS:1<=(C.rw (C.pg i).cl).fL:=by
  have h1:=j7 (xP (C.pg i).cl) (lA (C:=C) (i:=i) (by rw[K.pl];exact hi));rw[K.fs _ ig];have:xP (C.pg i).cl (C.pg i)=1:=by unfold xP;rw[if_pos ⟨ho,rfl,iG⟩]
  rw[this]at h1;exact h1
 refine⟨vu K hi ig (λ_=>rfl) (λ_=>rfl) ⟨P.cl,P.gl,P.tl,P.g32,P.XD,P.nd,P.held,λh=>absurd (ho.symm.trans h) (by simp)⟩ ((K.fn _).filter _) (λq=> ?_) ?_ ?_ ?_ rfl,xu (by rw[K.pl];exact hi) ⟨rfl,rfl,rfl⟩⟩
 ·dsimp only
  rw[abm];constructor
  ·rintro⟨h1,h2⟩;exact .inl ⟨K.fr _ q h1,by simpa using h2⟩
  rintro(⟨G,e⟩|⟨_,N⟩)
  ·exact⟨K.fa _ q G ig,by simpa using e⟩
  have:=N.lv;cases this
 ·simp[we,ho]
 ·simp[uY,ho]
 simp only[xP,ho,iG];simp;omega
theorem uu{C:Cs}(K:Ok C){i:Nat}(hi:i<C.n)(ho:(C.pg i).own=true)(iG:(C.pg i).lv=true):Ok (C.gr i)/\DZ C (C.gr i):=by
 have P:lI C (C.pg i):=K.pg _ (eA (by rw[K.pl];exact hi));have ig:=P.cl ho;have htl:(C.pg i).tk.length<=C.aj/C.sz (C.pg i).cl:=by rw[P.tl,P.gl ho];exact abc _
 have Qn:∀q∈(C.rw (C.pg i).cl).free,C.pn q≠i:=λq hq e=>by
  have:=(K.fr _ q hq).lv;rw[e,iG]at this;cases this
 refine⟨vu K hi ig (λ_=>rfl) (λ_=>rfl) ⟨P.cl,P.gl,P.tl,P.g32,P.XD,P.nd,P.held,λh=>absurd (ho.symm.trans h) (by simp)⟩ ?_ (λq=> ?_) ?_ ?_ ?_ rfl,xu (by rw[K.pl];exact hi) ⟨rfl,rfl,rfl⟩⟩
 ·dsimp only
  rw[ac9];refine⟨K.fn _,Bu K.toFix ig _,λa ha b hb e=>Qn a ha ?_⟩;rw[e];exact((rD K.toFix ig htl b).1 hb).1
 ·dsimp only
  rw[ahy,rD K.toFix ig htl];constructor
  ·rintro(h|⟨h1,h2,h3⟩)
   ·exact .inl ⟨K.fr _ q h,Qn q h⟩
   exact .inr ⟨h1,ho,h2,h3,rfl⟩
  rintro(⟨G,_⟩|⟨h1,N⟩)
  ·exact .inl (K.fa _ q G ig)
  exact .inr ⟨h1,N.al,N.tk⟩
 ·simp[we,ho]
 ·simp[uY,ho]
 simp only[xP,ho,iG];simp
theorem ZB{l:List (Nat×Nat)}(h:∀g∈l,g.2<4294967296)(k:Nat):D0 l k<4294967296:=by
 unfold D0;cases e:l.find? λe=>decide (e.1=k)with
 |none=>simp
 |some v=>simpa using h v (List.mem_of_find?_eq_some e)
theorem ag4 (n:Nat):((aa2 n false).map bN).sum=0:=by
 induction n with
 |zero=>rfl
 |succ n ih=>simp[List.replicate_succ,bN]
theorem AR{C:Cs}(K:Ok C){i c:Nat}(hi:i<C.n)(ig:c<C.ae.length)(ho:(C.pg i).own=false):Ok (C.cz i c):=by
 have P:lI C (C.pg i):=K.pg _ (eA (by rw[K.pl];exact hi));obtain⟨q1,q2,q3⟩:=P.no ho;have hh:=P.held;have Ax:(C.pg i).tk= []:=abr (by rw[P.tl,q1];rfl);rw[Ax]at hh;simp only[List.map_nil,List.sum_nil]at hh;have Qn:∀q∈(C.rw c).free,C.pn q≠i:=λq hq e=>by
  have:=(K.fr _ q hq).own;rw[e,ho]at this;cases this
 have PU:1<=C.spare:=by
  have h1:=j7 Az (lA (C:=C) (i:=i) (by rw[K.pl];exact hi));rw[K.sp];have:Az (C.pg i)=1:=by unfold Az;rw[if_neg (by rw[ho];simp)]
  rw[this]at h1;exact h1
 have htl:(aa2 (C.aj/C.sz c) false).length<=C.aj/C.sz c:=by simp
 refine vu K hi ig (λh=>absurd (ho.symm.trans h) (by simp)) (λ_=>rfl) ⟨λ_=>ig,λ_=>by simp[fR],by simp[fR], ?_,P.XD,P.nd, ?_,λh=>absurd h (by simp[fR])⟩ ?_ (λq=> ?_) ?_ ?_ ?_ ?_
 ·intro g hg
  simp only[fR,abk]at hg;obtain⟨k,_,rfl⟩:=hg;exact ZB P.XD _
 ·show(C.pg i).held=_
  rw[hh];exact(ag4 _).symm
 ·dsimp only
  rw[ac9];refine⟨K.fn _,Bu K.toFix ig _,λa ha b hb e=>Qn a ha ?_⟩;rw[e];exact((rD K.toFix ig htl b).1 hb).1
 ·dsimp only
  rw[ahy,rD K.toFix ig htl];constructor
  ·rintro(h|⟨h1,h2,h3⟩)
   ·exact .inl ⟨K.fr _ q h,Qn q h⟩
   exact .inr ⟨h1,rfl,h2,h3,q2⟩
  rintro(⟨G,_⟩|⟨h1,N⟩)
  ·exact .inl (K.fa _ q G ig)
  exact .inr ⟨h1,N.al,N.tk⟩
 ·simp[we,ho,fR,hh]
 ·simp[uY,ho,fR]
 ·simp[xP,ho,fR,q2]
 simp[Az,ho,fR];omega
theorem Ue{l:List (Nat×Nat)}{k g:Nat}{e:Nat×Nat}(h:e∈sJ l k g):e∈l\/e=(k,g):=by
 unfold sJ at h;split at h
 ·obtain⟨p,hp,rfl⟩:=abk.1 h
  split
  ·exact .inr rfl
  exact .inl hp
 rcases ahy.1 h with h|h
 ·exact .inl h
 exact .inr (acQ.1 h)
theorem Mp (l:List (Nat×Nat))(k g:Nat):(sJ l k g).map (·.1)=if k∈l.map (·.1)then l.map (·.1)else l.map (·.1)++ [k]:=by
 unfold sJ;split
 ·rw[aiy]
  apply ahn;intro p _;simp only[Function.comp];split
  ·rename_i e;exact e.symm
  rfl
 simp
theorem YA{l:List (Nat×Nat)}{k g:Nat}(h:(l.map (·.1)).Nodup):((sJ l k g).map (·.1)).Nodup:=by
 rw[Mp];split
 ·exact h
 rename_i hk;rw[ac9];exact⟨h,by simp,λa ha b hb e=>hk (by rw[acQ.1 hb]at e;rw[<-e];exact ha)⟩
theorem ZA (C:Cs)(x:Pg)(h1:∀g∈x.bb,g<4294967296)(h2:∀g∈x.old,g.2<4294967296)(h3:(x.old.map (·.1)).Nodup):(∀g∈C.sL x,g.2<4294967296)/\((C.sL x).map (·.1)).Nodup:=by
 unfold sL;have:∀(ks:F8) (l:List (Nat×Nat)),(∀g∈l,g.2<4294967296)->(l.map (·.1)).Nodup->(∀k∈ks,k<x.bb.length)->
   (∀g∈ks.foldl (λl k=>sJ l (k*C.sz x.cl) (x.bb.getD k 0)) l,g.2<4294967296)/\((ks.foldl (λl k=>sJ l (k*C.sz x.cl) (x.bb.getD k 0)) l).map (·.1)).Nodup:=by
  intro ks;induction ks with
  |nil=>intro l a b _;exact⟨a,b⟩
  |cons k ks ih=>
   intro l a b c;rw[ahC];refine ih _ (λg hg=> ?_) (YA b) λj hj=>c j (aa6 _ hj);rcases Ue hg with h|rfl
   ·exact a g h
   have hk:=c k (aa5 ..);dsimp only;rw[aaZ,aa0 hk];exact h1 _ (abe _)
 exact this _ _ h2 h3 λk hk=>ac3.1 hk
theorem wM{C:Cs}(K:Ok C){i:Nat}(hi:i<C.n)(ho:(C.pg i).own=true)(iG:(C.pg i).lv=true)(hh:(C.pg i).held=0):Ok (C.bw i):=by
 have P:lI C (C.pg i):=K.pg _ (eA (by rw[K.pl];exact hi));have ig:=P.cl ho;obtain⟨o1,o2⟩:=ZA C (C.pg i) P.g32 P.XD P.nd;have hP:1<=(C.rw (C.pg i).cl).pgs:=by
  have h1:=j7 (uY (C.pg i).cl) (lA (C:=C) (i:=i) (by rw[K.pl];exact hi));rw[K.fp _ ig];have:uY (C.pg i).cl (C.pg i)=1:=by unfold uY;rw[if_pos ⟨ho,rfl⟩]
  rw[this]at h1;exact h1
 have Qn:∀q∈(C.rw (C.pg i).cl).free,C.pn q≠i:=λq hq e=>by
  have:=(K.fr _ q hq).lv;rw[e,iG]at this;cases this
 refine vu K hi ig (λ_=>rfl) (λh=>absurd h (by simp[Pg.no])) ⟨λh=>absurd h (by simp[Pg.no]),λh=>absurd h (by simp[Pg.no]),rfl,by simp[Pg.no],o1,o2,rfl,λ_=>⟨rfl,rfl,rfl⟩⟩ (K.fn _) (λq=> ?_) ?_ ?_ ?_ ?_
 ·dsimp only
  constructor
  ·intro h;exact .inl ⟨K.fr _ q h,Qn q h⟩
  rintro(⟨G,_⟩|⟨_,N⟩)
  ·exact K.fa _ q G ig
  have:=N.own;cases this
 ·simp[we,ho,hh,Pg.no]
 ·simp[uY,ho,Pg.no];omega
 ·simp[xP,ho,iG,Pg.no]
 simp[Az,ho,Pg.no]
end Cs
open Go Go.dQ Go.Proofs.YtcbcjolpdljbiaaGreat.Cs
def dn (C:Cs)(i c:Nat)(tk:List Bool):Nat->F8
 |0=> []
 |k+1=>(if tk[k]?=some false then [i*C.aj+k*C.sz c]else [])++dn C i c tk k
theorem agN (C:Cs)(i c:Nat)(tk:List Bool)(n:Nat):(((acA n).reverse.filter λk=>tk[k]?==some false).map λk=>i*C.aj+k*C.sz c)=dn C i c tk n:=by
 induction n with
 |zero=>rfl
 |succ n ih=>
  rw[aim,List.reverse_append,List.reverse_singleton,List.singleton_append,dn,List.filter_cons];by_cases h:tk[n]?=some false
  ·rw[if_pos (by rw[h];rfl),if_pos h,aa7,ih];rfl
  rw[if_neg (by simpa using h),if_neg h,ih];rfl
theorem agM (C:Cs)(i c:Nat)(tk:List Bool)(n:Nat):(dn C i c tk n).length<=n:=by
 induction n with
 |zero=>exact abc _
 |succ n ih=>rw[dn,aa9];split<;>simp<;>omega
def lC (C:Cs)(i:Nat):Cs:=
 {C with rows:=C.rows.set (C.pg i).cl {C.rw (C.pg i).cl with fL:=(C.rw (C.pg i).cl).fL+1,free:=(C.rw (C.pg i).cl).free++C.hJ i (C.pg i).cl (C.pg i).tk}}
theorem gC (l m:F8):aE (l++m)=aE l++aE m:=by simp[aE]
theorem fq (l:F8):(aE l).length=l.length:=by simp[aE]
theorem afi{α:Type}{f:α->aa}{L:List α}{F:dM}{H R:Dz}{x:α}{ad:Addr}{v:Value}(hx:x∈L)(hv:∀h,In (f x) h->eO h ad=some v)(s:fO H (aF (L.map f)) R):Qa F H (some ad) v:=
 ⟨_,rfl,λh _ au=>hv h (yH (sT s h au) hx)⟩
theorem aj0{x:wj}{tb k:Nat}{v:Value}(ht:x.tb=some tb)(hv:(tK x.p.tk)[k]?=some v):∀h,In (lF x) h->eO h ⟨tb,k,none⟩=some v:=λh o=>by
 obtain⟨_,⟨j,q,l⟩,_⟩:=uv o;rw[ht]at q;exact dh l (fB q hv)
theorem Q0{C:Cs}{y:Lc}{F:dM}{H R:Dz}{c:Nat}(hc:c<C.ae.length)(s:fO H (oq C y) R):Qa F H (some ⟨y.sa,c,none⟩) (DE DD (C.sz c)):=
 ⟨_,rfl,λh _ au=>gx (bK (sT s h au)) (eL (nB hc))⟩
theorem KQ (b:Nat)(C:Cs)(y:Lc)(K:Fix C)(hy:gS C y)(i:Nat)(hi:i<C.n)(x:wj)(tb:Nat)(x1:y.pl[i]?=some x)(ht:x.tb=some tb)(hc:(C.pg i).cl<C.ae.length)(htl:(C.pg i).tk.length<=C.aj/C.sz (C.pg i).cl)
  (rN:(C.rw (C.pg i).cl).free.length<=1099511627776) (fM:(C.rw (C.pg i).cl).fL<=1099511627776):
  aK aaY 266 [DC b,DE DD i] (λ_=>True) (mU b C y)
   (λv H=>v= .tuple #[]/\∃z,y.rl[(C.pg i).cl]?=some z/\∃a c,H=mU b (lC C i) {y with rl:=y.rl.set (C.pg i).cl ⟨(lC C i).rw (C.pg i).cl,a,c⟩}/\gS (lC C i) {y with rl:=y.rl.set (C.pg i).cl ⟨(lC C i).rw (C.pg i).cl,a,c⟩}):=by
 have f1:=K.p1;have f2:=K.n1;have hzs:=K.sz hc;have hdv:=ahk C.aj (C.sz (C.pg i).cl);have x2:x.p=C.pg i:=by
  have h1:=lA (C:=C) (i:=i) (by rw[K.pl];exact hi);rw[<-hy.pl,abf,x1]at h1;exact Option.some.inj h1
 obtain⟨z,z1,z2⟩:∃z,y.rl[(C.pg i).cl]?=some z/\z.r=C.rw (C.pg i).cl:=by
  have h1:=abF (C:=C) (c:=(C.pg i).cl) (by rw[K.rl];exact hc);rw[<-hy.rl,abf,Option.map_eq_some_iff]at h1;exact h1
 have hjr:(lC C i).rw (C.pg i).cl={C.rw (C.pg i).cl with fL:=(C.rw (C.pg i).cl).fL+1,free:=(C.rw (C.pg i).cl).free++C.hJ i (C.pg i).cl (C.pg i).tk}:=by
  have:=qH C (C.pg i).cl (C.pg i).cl {C.rw (C.pg i).cl with fL:=(C.rw (C.pg i).cl).fL+1,free:=(C.rw (C.pg i).cl).free++C.hJ i (C.pg i).cl (C.pg i).tk} (by rw[K.rl];exact hc);rw[if_pos rfl]at this;exact this
 rw[hjr];have hfi:C.hJ i (C.pg i).cl (C.pg i).tk=dn C i (C.pg i).cl (C.pg i).tk (C.pg i).tk.length:=agN C i _ _ _;generalize dx:(C.pg i).cl=c at*;generalize Ax:(C.pg i).tk=tk at*;have k2:(y.pl.flatMap dU)[i*7+2]?=some (DE DD c):=by
  have:=bq bT x1 (j:=2) rfl;rw[x2,dx]at this;exact this
 have k4:(y.pl.flatMap dU)[i*7+4]?=some (.slice (some ⟨tb,0,none⟩) tk.length tk.length):=by
  have:=bq bT x1 (j:=4) rfl;rw[ht,x2,Ax]at this;exact this
 have r3:(y.rl.flatMap eH)[c*4+3]?=some (DE DD ((C.rw c).fL)):=by
  have:=bq cF z1 (j:=3) rfl;rw[z2]at this;exact this
 have hlen:c*4+4<=(y.rl.flatMap eH).length:=by
  rw[eU cF];have:=(aa1.1 z1).1;omega
 refine af func266 rfl ntmps266 rfl ?_;intro F _;unfold mU;change G _ _ _ _ _ [ag b 179 (cP C y),oq C y,ag y.pb 227 (y.pl.flatMap dU),aF (y.pl.map lF),ag y.rb 196 (y.rl.flatMap eH),aF (y.rl.map kP),ag y.a 249 (iI y.ab C.aj (C.n*C.aj)),ag y.ab 5 (dY C.A (C.n*C.aj))];refine Hh (H':= [aF (y.rl.map kP),ag y.rb 196 (y.rl.flatMap eH),ag b 179 (cP C y),ag y.pb 227 (y.pl.flatMap dU),oq C y,aF (y.pl.map lF),ag y.a 249 (iI y.ab C.aj (C.n*C.aj)),ag y.ab 5 (dY C.A (C.n*C.aj))]) ?_;refine ay (λk s=>xH z1 s) ?_;have hrz:kP z=own z.a z.c 3 1 (aE (C.rw c).free):=by unfold kP;rw[z2]
 rw[hrz];refine cu ?_;refine av ?_;refine gT false mix ?_;refine cC ?_;refine bO ?_;have e3:(y.rl.flatMap eH).set (c*4+3) (DE DD ((C.rw c).fL+1))=(y.rl.set c ⟨{C.rw c with fL:=(C.rw c).fL+1},z.a,z.c⟩).flatMap eH:=cb cF z1 (by unfold eH;rw[z2];rfl) (by decide);rw[e3];refine ay (H':= [own z.a z.c 3 1 (aE ((C.rw c).free++ [])),aF ((y.rl.eraseIdx c).map kP),ag y.rb 196 ((y.rl.set c ⟨⟨(C.rw c).free++ [],(C.rw c).eG,(C.rw c).pgs,(C.rw c).fL+1⟩,z.a,z.c⟩).flatMap eH),ag b 179 (cP C y),ag y.pb 227 (y.pl.flatMap dU),oq C y,aF (y.pl.map lF),ag y.a 249 (iI y.ab C.aj (C.n*C.aj)),ag y.ab 5 (dY C.A (C.n*C.aj))]) (by rw[acT];exact Eh) ?_;refine Lo (ι:=Nat×F8×FX×Nat) (FZ [6,1,35,41]) (λ(j,pre,a,cc)=>j<=tk.length/\pre++dn C i c tk j=dn C i c tk tk.length) (λ(j,pre,a,cc)=> [(6,DE DD ((j:Int)-1))]) (λ(j,pre,a,cc)=> [own a cc 3 1 (aE ((C.rw c).free++pre)),aF ((y.rl.eraseIdx c).map kP),ag y.rb 196 ((y.rl.set c ⟨⟨(C.rw c).free++pre,(C.rw c).eG,(C.rw c).pgs,(C.rw c).fL+1⟩,a,cc⟩).flatMap eH),ag b 179 (cP C y),ag y.pb 227 (y.pl.flatMap dU),oq C y,aF (y.pl.map lF),ag y.a 249 (iI y.ab C.aj (C.n*C.aj)),ag y.ab 5 (dY C.A (C.n*C.aj))]) (λ(j,pre,a,cc)=>j) ((tk.length,[],z.a,z.c)) ⟨abc _,rfl⟩ ?_;rintro⟨j,pre,a,cc⟩ ⟨hj,iu⟩
 try dsimp only at hI⊢
 dsimp only at hj iu⊢;refine ba ?_;refine aA rfl ?_ ?_
 ·intro hk
  replace hk:=aG hk;obtain⟨k,rfl⟩:∃k,j=k+1:=⟨j-1,by omega⟩;have et:tk[k]?=some (tk[k]'(by omega)):=aa0 _;have qh:k<tk.length:=by omega
  generalize tk[k]'(by omega)=t at et;have XG:=aa3 x1;refine az (t:=6) (v':=(DE DD k)) rfl (by refine congrArg (Value.int .i64) ?_;omega) ?_;refine bO ?_;refine Lp (oL gq ?_ (hk:=afi XG (aj0 ht (CP (by rw[x2,Ax];exact et))) (by repeat (first|exact fO.here|apply fO.there))));refine bn ?_;have hkz:k*C.sz c<=1048576*1048576:=ac8 (by omega) (by omega);have hip:i*C.aj<=1024*1048576:=ac8 (by omega) f1;refine aA rfl ?_ ?_
  ·intro hq
   replace hq:=aG hq;obtain rfl:t=false:=by simpa using hq
   have hlr:(C.rw c).free.length+pre.length+1<=2199023255552:=by
    have h1:=congrArg List.length iu;rw[aa9]at h1;have h2:=agM C i c tk tk.length;omega
   have r0:((y.rl.set c ⟨⟨(C.rw c).free++pre,(C.rw c).eG,(C.rw c).pgs,(C.rw c).fL+1⟩,a,cc⟩).flatMap eH)[c*4]?=some (.slice a ((C.rw c).free++pre).length cc):=bq cF (j:=0) (aa4 (aa1.1 z1).1) rfl;have hl4:c*4<((y.rl.set c ⟨⟨(C.rw c).free++pre,(C.rw c).eG,(C.rw c).pgs,(C.rw c).fL+1⟩,a,cc⟩).flatMap eH).length:=by rw[eU cF,aa8];rw[eU cF]at hlen;omega
   refine iL 27 mix (.cons (.t2 .here) (.cons (.t2 .here) (.cons (.t2 .here) (.cons (.t2 .here) .nil)))) λF1 jq bV aI=> ?_;obtain⟨q1,q2,q3,q4,_⟩:=bV;have kz:=gx (bK q4) (eL (nB hc));refine bO ?_;refine Ti (MuN) ?_;refine bO ?_;refine Ti (MuN) ?_;refine Ti (AdN) ?_;refine Tp (oT gk λb1=> ?_);refine Tp (bI gk qy rfl rfl rfl rfl .here (by rw[fq,aiz]) (rfl) (by simp[Value.oneCell']) (by rw[aa9];omega) (by rw[aa9];omega) rfl λa1 c1 h1=> ?_);refine gG aI ?_;refine bD ?_;refine aB ?_;have e5:aE ((C.rw c).free++pre)++ [Value.int .i64 ((i*C.aj+k*C.sz c:Nat):Int)]=aE ((C.rw c).free++(pre++ [i*C.aj+k*C.sz c])):=by rw[<-adr,gC _ [_]];rfl
   have e4:((y.rl.set c ⟨⟨(C.rw c).free++pre,(C.rw c).eG,(C.rw c).pgs,(C.rw c).fL+1⟩,a,cc⟩).flatMap eH).set (c*4+0) (.slice a1 (((C.rw c).free++pre).length+1) c1)=(y.rl.set c ⟨⟨(C.rw c).free++(pre++ [i*C.aj+k*C.sz c]),(C.rw c).eG,(C.rw c).pgs,(C.rw c).fL+1⟩,a1,c1⟩).flatMap eH:=by
    have:=cb (j:=0) (v:= .slice a1 (((C.rw c).free++pre).length+1) c1) (a':=⟨⟨(C.rw c).free++(pre++ [i*C.aj+k*C.sz c]),(C.rw c).eG,(C.rw c).pgs,(C.rw c).fL+1⟩,a1,c1⟩) cF (aa4 (a:=(⟨⟨(C.rw c).free++pre,(C.rw c).eG,(C.rw c).pgs,(C.rw c).fL+1⟩,a,cc⟩:GV)) (aa1.1 z1).1) (by simp[eH];omega) (by decide);rw[ade]at this;exact this
   rw[e4,e5];refine Ro ((k,pre++ [i*C.aj+k*C.sz c],a1,c1)) (⟨by dsimp only;omega,by dsimp only;rw[<-iu,dn,if_pos et,adr]⟩) ((by dsimp only;omega))
  intro hq;replace hq:=aG hq;obtain rfl:t=true:=by simpa using hq
  refine bL ?_;refine aB ?_;refine Ro ((k,pre,a,cc)) (⟨by dsimp only;omega,by dsimp only;rw[<-iu,dn,if_neg (by rw[et];simp)];rfl⟩) ((by dsimp only;omega))
 intro hk;replace hk:=aG hk;obtain rfl:j=0:=by omega
 rw[dn,acT]at iu;subst iu;rw[hfi];refine aY ?_;refine ay (λk s=>vD (f:=kP) z1 ⟨⟨(C.rw c).free++dn C i c tk tk.length,(C.rw c).eG,(C.rw c).pgs,(C.rw c).fL+1⟩,a,cc⟩ s) ?_;refine j5 [ag b 179 (cP C y),oq C y,ag y.pb 227 (y.pl.flatMap dU),aF (y.pl.map lF),ag y.rb 196 ((y.rl.set c ⟨⟨(C.rw c).free++dn C i c tk tk.length,(C.rw c).eG,(C.rw c).pgs,(C.rw c).fL+1⟩,a,cc⟩).flatMap eH),aF ((y.rl.set c ⟨⟨(C.rw c).free++dn C i c tk tk.length,(C.rw c).eG,(C.rw c).pgs,(C.rw c).fL+1⟩,a,cc⟩).map kP),ag y.a 249 (iI y.ab C.aj (C.n*C.aj)),ag y.ab 5 (dY C.A (C.n*C.aj))] results266 ?_;refine⟨rfl,z,z1,a,cc,rfl,hy.pl, ?_,hy.pk,hy.aj,hy.pgs⟩;show List.map _ _=(lC C i).rows;unfold lC;rw[adf,hy.rl,dx,Ax,hfi]
theorem oQlO{P:Program}{n:Nat}{ds:Dx}{F:dM}{Q:Exit->F7}{K:F7}{σ:aT}{H:Dz}{o:Oper}{d:Nat}{t k e:TypeId}{z:Value}{m x:Operand}{b:FW}{es:List (Value×Value)}{kv:Value}{R:Dz}
  (ht:xU P t=some (k, .int .i64,e,z)) (h:G n ds F K ((d,(uU es kv).getD z)::σ) H) (he:b=none->es= []) (ho:o.op= .lookup t m x false:=by exact rfl) (hd:o.dst=some d:=by exact rfl)
  (hm:bC σ m=some (.map b):=by exact rfl) (hx:bC σ x=some kv:=by exact rfl) (hk:Xk (.int .i64) kv=true:=by exact rfl) (hs:fO H (DP b es) R:=by repeat (first|exact fO.here|apply fO.there)) (hdn:Nat.blt d n=true:=by exact rfl):G n ds F (λa w=>o.wp P a w K Q) σ H:=by
 cases b with
 |some b=>exact oQl (b:=b) (es:=es) ht h ho hd hm hx hk hs hdn
 |none=>
  refine sV hd hdn (λa w en s=> ?_) h;obtain⟨PT,DQ,i,hi,hz⟩:=nU ht;have:uU es kv=none:=by rw[he rfl];exact Fg λe h=>by cases h
  rw[this];simp[execOp,ho,en.eval hm,en.eval hx,Instr.lookup,run_underlying PT,MapKept.run_checkKey DQ (jF hk),MapKept.run_findKey DQ (show Instr.findNow (.int .i64) kv [] 0=some none from rfl),zeroValue,typeInfo,hi,hz,Result.andThen]
theorem Zz{l:List (Nat×Nat)}(k:Nat):(uU (jP l) (DE DD k)).getD (DE amo 0)=DE amo (D0 l k:Nat):=by
 classical
 unfold uU jP D0;induction l with
 |nil=>rfl
 |cons p l ih=>
  rw[aa7,alB,alB];by_cases h:p.1=k
  ·subst h;simp
  have h1:¬((Value.int .i64 (p.1:Int),Value.int .u32 (p.2:Int)):Value×Value).1=DE DD k:=by simp;omega
  rw[decide_eq_false h1,decide_eq_false h];exact ih
theorem Hb (n:Nat):ij [DE amo 0] (n*1)=aV (aa2 n 0):=by rw[qM,aiz];simp[aV]
theorem QM (n:Nat):ij [.bool false] (n*1)=tK (aa2 n false):=by rw[qM,aiz];simp[tK]
theorem EI (l:F8)(k g:Nat):(aV l).set k (DE amo g)=aV (l.set k g):=by unfold aV;rw[adf]
theorem mu (l:F8):(aV l).length=l.length:=by simp[aV]
theorem LA (l:List Bool):(tK l).length=l.length:=by simp[tK]
theorem Gm{C:Cs}(h:∀j,j<C.bQ.length->(C.pg j).own=true):C.gD=none:=by
 unfold gD;rw[ahz];intro x hx;obtain⟨j,hj⟩:=ahH hx;have hl:=(aa1.1 hj).1;have:=h j hl;rw[lA hl]at hj;cases hj;simp[this]
theorem Gl{C:Cs}{i:Nat}(hi:i<C.bQ.length)(ho:(C.pg i).own=false)(h:∀j,j<i->(C.pg j).own=true):C.gD=some i:=by
 unfold gD;rw[abl];have e:∀j (hj:j<C.bQ.length),C.bQ[j]=C.pg j:=λj hj=>by
  have:=lA (C:=C) hj;rw[aa0 hj]at this;exact Option.some.inj this
 refine⟨hi,by rw[e];simp[ho],λj hj=> ?_⟩;rw[e j (by omega),h j hj];simp
theorem RS:∀(N:Nat) (l:F8),l.Nodup->(∀x∈l,x<N)->l.length<=N
 |0,l,_,h=>by
  cases l with
  |nil=>exact abc _
  |cons a l=>exact absurd (h a (aa5 ..)) (by omega)
 |N+1,l,hn,h=>by
  have h1:=RS N (l.erase N) (hn.erase N) (λx hx=>by
   have h2:=(List.Nodup.mem_erase_iff hn).1 hx;have:=h x h2.2;have:=h2.1;omega)
  have:=List.length_erase (a:=N) (l:=l);split at this<;>omega
theorem kJ{C:Cs}(K:Ok C)(c:Nat):(C.rw c).free.length<=1073741824:=by
 have h:=RS (C.n*C.aj) _ (K.fn c) (λp hp=>by
  have:=((K.fr c p hp).toAt.br K);omega)
 have:=gg K.toFix;omega
theorem T5 (b:Nat)(C:Cs)(y:Lc)(K:Ok C)(hy:gS C y)(c:Nat)(hc:c<C.ae.length):aK aaY 219 [DC b,DE DD c] (λ_=>True) (mU b C y)
  (λv H=>match C.gD with
   |none=>v= .bool false/\H=mU b C y
   |some i=>v= .bool true/\∃Y,gS (C.cz i c) Y/\Y.rb=y.rb/\H=mU b (C.cz i c) Y):=by
 have f1:=K.toFix.p1;have f2:=K.toFix.n1;have hzs:=K.toFix.sz hc;have hdv:=ahk C.aj (C.sz c);obtain⟨l1,l2⟩:=K.le;refine af func219 rfl ntmps219 rfl ?_;intro F _;change G _ _ _ _ _ [ag b 179 (cP C y),oq C y,ag y.pb 227 (y.pl.flatMap dU),aF (y.pl.map lF),ag y.rb 196 (y.rl.flatMap eH),aF (y.rl.map kP),ag y.a 249 (iI y.ab C.aj (C.n*C.aj)),ag y.ab 5 (dY C.A (C.n*C.aj))];refine gQ ?_;refine Lo (ι:=Nat) (FZ [4,5,14,94]) (λk=>k<=C.n/\∀j,j<k->(C.pg j).own=true) (λk=> [(14,DE DD k)]) (λk=> [ag b 179 (cP C y),oq C y,ag y.pb 227 (y.pl.flatMap dU),aF (y.pl.map lF),ag y.rb 196 (y.rl.flatMap eH),aF (y.rl.map kP),ag y.a 249 (iI y.ab C.aj (C.n*C.aj)),ag y.ab 5 (dY C.A (C.n*C.aj))]) (λk=>C.n-k) (0) ⟨abn _,λj hj=>absurd hj (ah2 j)⟩ ?_;rintro k ⟨Qq,rY⟩;refine bj ?_;refine av ?_;refine aA rfl ?_ ?_
 ·intro hk
  replace hk:=aG hk;have ct:k<C.n:=by omega
  obtain⟨x,x1,x2,x3⟩:=um K hy ct;have k0:(y.pl.flatMap dU)[k*7]?=some (.bool (C.pg k).own):=by
   have:=bq bT x1 (j:=0) rfl;rw[x2]at this;exact this
  refine cC ?_;refine aY ?_;refine aA rfl ?_ ?_
  ·intro ho
   replace ho:=aG ho;refine bL ?_;refine aB ?_;refine Ro (k+1) (⟨by omega,λj hj=> ?_⟩) (by omega);by_cases PX:j=k
   ·subst PX;exact ho
   exact rY j (by omega)
  intro ho;replace ho:=aG ho;have P:lI C (C.pg k):=K.pg _ (eA (by rw[K.pl];exact ct));obtain⟨p1,p2,p3⟩:=P.no ho;have p4:(C.pg k).tk= []:=abr (by rw[P.tl,p1];rfl);have uW:x.gb=none:=by have:=x3.g;rw[x2,ho]at this;simpa using this
  have uV:x.tb=none:=by have:=x3.t;rw[x2,ho]at this;simpa using this
  have hxo:x.ob=none->jP (C.pg k).old= []:=λh=>by rw[<-x2,x3.o h];rfl
  have hfp:=Gl (C:=C) (by rw[K.pl];exact ct) ho rY;have hpgx:dU x= [.bool false, .bool false,DE DD 0, .slice none 0 0, .slice none 0 0,DE DD ((C.pg k).held), .map x.ob]:=by
   unfold dU;rw[uW,uV,x2,ho,p2,p3];rfl
  rw[hfp];refine Hh (H':= [aF (y.pl.map lF),ag y.pb 227 (y.pl.flatMap dU),oq C y,ag b 179 (cP C y),ag y.rb 196 (y.rl.flatMap eH),aF (y.rl.map kP),ag y.a 249 (iI y.ab C.aj (C.n*C.aj)),ag y.ab 5 (dY C.A (C.n*C.aj))]) ?_;refine ay (λ_ s=>xH x1 s) ?_;refine mQ ?_;rw[uW,uV,x2];refine Hh (H':= [DP x.ob (jP (C.pg k).old),aF ((y.pl.eraseIdx k).map lF),ag y.pb 227 (y.pl.flatMap dU),oq C y,ag b 179 (cP C y),ag y.rb 196 (y.rl.flatMap eH),aF (y.rl.map kP),ag y.a 249 (iI y.ab C.aj (C.n*C.aj)),ag y.ab 5 (dY C.A (C.n*C.aj))]) ?_;have hl7:k*7+7<=(y.pl.flatMap dU).length:=by
   rw[eU bT];have:=(aa1.1 x1).1;omega
  obtain⟨m,hm⟩:∃m,m=C.aj/C.sz c:=⟨_,rfl⟩;obtain⟨gs,hgs⟩:∃gs,gs=(acA m).map λk'=>D0 (C.pg k).old (k'*C.sz c):=⟨_,rfl⟩;have e2:((y.pl.flatMap dU).set (k*7+0) (.bool true)).set (k*7+2) (DE DD c)=(y.pl.set k ⟨{C.pg k with own:=true,cl:=c},none,none,x.ob⟩).flatMap dU:=by
   have h1:=cb (j:=0) (v:= .bool true) (a':=(⟨{C.pg k with own:=true},none,none,x.ob⟩:wj)) bT x1 (by rw[hpgx];unfold dU;dsimp only;rw[p2,p3];rfl) (by decide);have h2:=cb (j:=2) (v:=DE DD c) (a':=(⟨{C.pg k with own:=true,cl:=c},none,none,x.ob⟩:wj)) bT (aa4 (a:=(⟨{C.pg k with own:=true},none,none,x.ob⟩:wj)) (aa1.1 x1).1) (by unfold dU;dsimp only;rfl) (by decide);rw[h1,h2,ade]
  have e8:∀gb tb:Nat,(((y.pl.set k ⟨{C.pg k with own:=true,cl:=c},none,none,x.ob⟩).flatMap dU).set (k*7+3) (.slice (some ⟨gb,0,none⟩) m m)).set (k*7+4) (.slice (some ⟨tb,0,none⟩) m m)=(y.pl.set k ⟨{C.pg k with own:=true,cl:=c,bb:=gs,tk:=aa2 m false},some gb,some tb,x.ob⟩).flatMap dU:=by
   intro gb tb;have hk7:=(aa1.1 x1).1;have h1:=cb (l:=y.pl.set k ⟨{C.pg k with own:=true,cl:=c},none,none,x.ob⟩) (i:=k) (j:=3) (v:= .slice (some ⟨gb,0,none⟩) m m) (a':=(⟨{C.pg k with own:=true,cl:=c,bb:=gs},some gb,none,x.ob⟩:wj)) bT (aa4 (a:=(⟨{C.pg k with own:=true,cl:=c},none,none,x.ob⟩:wj)) hk7) (by unfold dU;dsimp only;rw[hgs,abo,ah4];rfl) (by decide);have h2:=cb (l:=(y.pl.set k ⟨{C.pg k with own:=true,cl:=c},none,none,x.ob⟩).set k ⟨{C.pg k with own:=true,cl:=c,bb:=gs},some gb,none,x.ob⟩) (i:=k) (j:=4) (v:= .slice (some ⟨tb,0,none⟩) m m) (a':=(⟨{C.pg k with own:=true,cl:=c,bb:=gs,tk:=aa2 m false},some gb,some tb,x.ob⟩:wj)) bT (aa4 (a:=(⟨{C.pg k with own:=true,cl:=c,bb:=gs},some gb,none,x.ob⟩:wj)) (by simpa using hk7)) (by unfold dU;dsimp only;rw[ahl];rfl) (by decide);rw[h1,h2,ade,ade]
  generalize ig:y.pl.flatMap dU=cs at*;refine bn ?_;refine av ?_;refine gT false mix ?_;refine bO ?_;refine Tp (oL bz ?_ (hk:=Q0 hc (by repeat (first|exact fO.here|apply fO.there))));refine Ti (Qu) ?_;refine gQ ?_;refine av ?_;rw[<-hm,e2];have hl8:k*7+7<=((y.pl.set k ⟨{C.pg k with own:=true,cl:=c},none,none,x.ob⟩).flatMap dU).length:=by
   rw[eU bT,aa8];have:=(aa1.1 x1).1;omega
  generalize hds:(y.pl.set k ⟨{C.pg k with own:=true,cl:=c},none,none,x.ob⟩).flatMap dU=dc at*;refine cG (ι:=Nat×Nat) (FZ [47,10]) (λ(gb,tb)=>True) (λ(gb,tb)=> []) (λ(gb,tb)=> [ag gb 149 (aV (aa2 m 0)),ag tb 4 (tK (aa2 m false)),DP x.ob (jP (C.pg k).old),aF ((y.pl.eraseIdx k).map lF),ag y.pb 227 ((dc.set (k*7+3) (.slice (some ⟨gb,0,none⟩) m m)).set (k*7+4) (.slice (some ⟨tb,0,none⟩) m m)),oq C y,ag b 179 (cP C y),ag y.rb 196 (y.rl.flatMap eH),aF (y.rl.map kP),ag y.a 249 (iI y.ab C.aj (C.n*C.aj)),ag y.ab 5 (dY C.A (C.n*C.aj))]) ?_ ?_
  ·refine yf mix .nil λF1 jq bV aI=> ?_
   refine Dt 0 rfl Mv ?_;refine Dt 1 rfl Mv ?_;refine Dt 2 rfl Mv ?_;refine Dt 4 rfl Mv ?_;refine D2 3 5 ?_ ?_
   ·refine Do rfl (oM (m) (m) CR λb1=> ?_)
    refine aw ?_;refine Dt 6 rfl Nc ?_;refine Dt 7 rfl (Fa vW) ?_;refine D2 5 8 ?_ ?_
    ·refine Do rfl (oM (m) (m) Ib λb2=> ?_)
     refine aw ?_;refine Dd 8 rfl (oS Cg ?_);refine aw ?_;refine Dt 9 rfl Nc ?_;refine Dt 10 rfl (Fa rG) ?_;refine Dd 11 rfl (oS Cf ?_);refine aw ?_;refine aQ (by kernel_rfl) aI ?_;rw[Hb,QM];refine Me ((b1,b2)) (trivial)
    refine Do rfl (oS Cg ?_);refine aw ?_;refine Dd 5 rfl (oM (m) (m) Ib λb3=> ?_);refine aw ?_;refine Dt 9 rfl Nc ?_;refine Dt 10 rfl (Fa rG) ?_;refine Dd 11 rfl (oS Cf ?_);refine aw ?_;refine aQ (by kernel_rfl) aI ?_;rw[Hb,QM];refine Me ((b1,b3)) (trivial)
   refine Do rfl (oM (m) (m) Ib λb4=> ?_);refine aw ?_;refine Dd 3 rfl (oM (m) (m) CR λb5=> ?_);refine aw ?_;refine Dt 6 rfl Nc ?_;refine Dt 7 rfl (Fa vW) ?_;refine Dd 8 rfl (oS Cg ?_);refine aw ?_;refine Dt 9 rfl Nc ?_;refine Dt 10 rfl (Fa rG) ?_;refine Dd 11 rfl (oS Cf ?_);refine aw ?_;refine aQ (by kernel_rfl) aI ?_;rw[Hb,QM];refine Me ((b5,b4)) (trivial)
  rintro⟨gb,tb⟩ hI
  try dsimp only at hI⊢
  rw[e8 gb tb];have hk7:=(aa1.1 x1).1;have n1:(y.pl.set k ⟨{C.pg k with own:=true,cl:=c,bb:=gs,tk:=aa2 m false},some gb,some tb,x.ob⟩)[k]?=some (⟨{C.pg k with own:=true,cl:=c,bb:=gs,tk:=aa2 m false},some gb,some tb,x.ob⟩:wj):=aa4 hk7;have hgl:gs.length=m:=by rw[hgs];simp
  have k3:((y.pl.set k ⟨{C.pg k with own:=true,cl:=c,bb:=gs,tk:=aa2 m false},some gb,some tb,x.ob⟩).flatMap dU)[k*7+3]?=some (.slice (some ⟨gb,0,none⟩) m m):=by
   have:=bq bT n1 (j:=3) (v:= .slice (some ⟨gb,0,none⟩) gs.length gs.length) rfl;rw[hgl]at this;exact this
  have k6:((y.pl.set k ⟨{C.pg k with own:=true,cl:=c,bb:=gs,tk:=aa2 m false},some gb,some tb,x.ob⟩).flatMap dU)[k*7+6]?=some (.map x.ob):=bq bT n1 (j:=6) rfl;generalize hes:(y.pl.set k ⟨{C.pg k with own:=true,cl:=c,bb:=gs,tk:=aa2 m false},some gb,some tb,x.ob⟩).flatMap dU=es at*;refine bD ?_;refine Lo (ι:=Nat×F8) (FZ [8,1,62,24]) (λ(j,L)=>j<=m/\L.length=m/\∀i,i<j->L[i]?=gs[i]?) (λ(j,L)=> [(62,DE DD j)]) (λ(j,L)=> [ag gb 149 (aV L),ag tb 4 (tK (aa2 m false)),DP x.ob (jP (C.pg k).old),aF ((y.pl.eraseIdx k).map lF),ag y.pb 227 es,oq C y,ag b 179 (cP C y),ag y.rb 196 (y.rl.flatMap eH),aF (y.rl.map kP),ag y.a 249 (iI y.ab C.aj (C.n*C.aj)),ag y.ab 5 (dY C.A (C.n*C.aj))]) (λ(j,L)=>m-j) ((0,aa2 m 0)) ⟨abn _,by simp,λi hi=>absurd hi (ah2 i)⟩ ?_;rintro⟨j,L⟩ ⟨hj0,hL,l8⟩
  try dsimp only at hI⊢
  try dsimp only at hj0 hL l8⊢
  refine bj ?_;refine av ?_;refine aA rfl ?_ ?_
  ·intro hj
   replace hj:=aG hj;have hjm:j<m:=by omega
   have hjz:j*C.sz c<=1048576*1048576:=ac8 (by omega) (by omega);have hlL:j<(aV L).length:=by rw[mu];omega
   refine cY ?_;refine iL 20 mix (.cons (.t4 .here) (.cons (.t4 .here) (.cons (.t4 .here) .nil))) λF2 zU eP dE=> ?_;obtain⟨q4,q5,q6,_⟩:=eP;have kz:=gx (bK q5) (eL (nB hc));refine rS ?_;refine Ti (MuN) ?_;refine Tp (oQlO T.Cj ?_ hxo);refine az (t:=83) (v':=(DE amo (D0 (C.pg k).old (j*C.sz c):Nat))) rfl (by exact Zz _) ?_;refine aw ?_;refine gG dE ?_;refine bL ?_;refine aB ?_;rw[EI];refine Ro ((j+1,L.set j (D0 (C.pg k).old (j*C.sz c)))) (⟨by dsimp only;omega,by rw[aa8];exact hL,λi hi=> ?_⟩) ((by dsimp only;omega));by_cases hij:i=j
   ·subst hij
    rw[aa4 (by omega),hgs,abf,List.getElem?_range (by omega)];rfl
   rw[acX (λq=>hij q.symm)];exact l8 i (by dsimp only at hi;omega)
  intro hj;replace hj:=aG hj;obtain rfl:j=m:=by omega
  obtain rfl:L=gs:=by
   apply List.ext_getElem?;intro i;by_cases hi:i<j
   ·exact l8 i hi
   rw[abb (by omega),abb (by omega)]
  clear l8 hj
  have hW:C.fR k c={C.pg k with own:=true,cl:=c,bb:=L,tk:=aa2 j false}:=by unfold fR;rw[<-hm,<-hgs]
  rw[<-hW]at n1 hes;obtain⟨z,z1,z2⟩:=yy K hy hc;have GU:c<C.rows.length:=by rw[K.rl];exact hc
  have r2:(y.rl.flatMap eH)[c*4+2]?=some (DE DD ((C.rw c).pgs)):=by
   have:=bq cF z1 (j:=2) rfl;rw[z2]at this;exact this
  have l3:=l2 c hc;have hl4:c*4+4<=(y.rl.flatMap eH).length:=by
   rw[eU cF];have:=(aa1.1 z1).1;omega
  obtain⟨D,hD⟩:∃D:Cs,D={C with bQ:=C.bQ.set k (C.fR k c),rows:=C.rows.set c {C.rw c with pgs:=(C.rw c).pgs+1}}:=⟨_,rfl⟩;obtain⟨y2,zV⟩:∃y2:Lc,y2={y with pl:=y.pl.set k ⟨C.fR k c,some gb,some tb,x.ob⟩,rl:=y.rl.set c ⟨{C.rw c with pgs:=(C.rw c).pgs+1},z.a,z.c⟩}:=⟨_,rfl⟩;have Js:(y.rl.flatMap eH).set (c*4+2) (DE DD ((C.rw c).pgs+1))=y2.rl.flatMap eH:=by
   rw[zV];exact cb cF z1 (by unfold eH;rw[z2];rfl) (by decide)
  have hDp:D.pg k=C.fR k c:=by
   have:=Ci C k k (C.fR k c) (by rw[K.pl];exact ct);rw[if_pos rfl]at this;rw[hD];exact this
  have hDr:D.rw c={C.rw c with pgs:=(C.rw c).pgs+1}:=by
   have:=qH C c c {C.rw c with pgs:=(C.rw c).pgs+1} GU;rw[if_pos rfl]at this;rw[hD];exact this
  have hDF:Fix D:=by rw[hD];exact⟨K.p0,K.p1,K.p8,K.n0,K.n1,K.l0,K.l1,K.s0,by simp[K.pl],by simp[K.rl]⟩
  have hDy:gS D y2:=by
   rw[hD,zV];refine⟨by rw[adf,hy.pl],by rw[adf,hy.rl],λu hu=> ?_,hy.aj,hy.pgs⟩;rcases ada hu with h|rfl
   ·exact hy.pk u h
   exact⟨rfl,rfl,λh=>by have:=x3.o h;rw[x2]at this;exact this⟩
  have dx:(D.pg k).cl=c:=by rw[hDp];rfl
  have J:=KQ b D y2 hDF hDy k (by rw[hD];exact ct) ⟨C.fR k c,some gb,some tb,x.ob⟩ tb (by rw[zV];exact aa4 hk7) rfl (by rw[dx,hD];exact hc) (by rw[dx,hDp,hD,hW];simp[hm];exact abc _) (by rw[dx,hDr];have:=kJ K c;dsimp only;omega) (by rw[dx,hDr];dsimp only;omega);rw[dx]at J;refine cC ?_;refine bn ?_;rw[Js];have jg:lF ⟨C.fR k c,some gb,some tb,x.ob⟩=aF [ag gb 149 (aV L),ag tb 4 (tK (aa2 j false)),DP x.ob (jP (C.pg k).old)]:=by rw[hW];rfl
  refine ay (λ_ s=>eC (L:= [_,_,_]) s) ?_;rw[<-jg];refine ay (λ_ s=>vD (f:=lF) x1 _ s) ?_;have hrm:aF (y.rl.map kP)=aF (y2.rl.map kP):=by
   rw[zV];show aF (y.rl.map kP)=aF ((y.rl.set c _).map kP);rw[adf,show kP ⟨{C.rw c with pgs:=(C.rw c).pgs+1},z.a,z.c⟩=kP z from by unfold kP;rw[z2],gw (by rw[abf,z1];rfl)]
  rw[hrm];have hpl2:y.pl.set k ⟨C.fR k c,some gb,some tb,x.ob⟩=y2.pl:=by rw[zV]
  rw[hpl2]at hes⊢;rw[<-hes];refine ay (H':=mU b D y2) (by rw[hD,zV];exact Eh) ?_;unfold mU;refine Lp (oC Aq rfl rfl (J) (.cons .here (.cons .here (.cons .here (.cons .here (.cons .here (.cons .here (.cons .here (.cons .here .nil)))))))) DA ?_);rintro v H' ⟨rfl,zz,hzz,a3,c3,rfl,lS⟩;refine bS ?_;obtain⟨Y,hY⟩:∃Y:Lc,Y={y2 with rl:=y2.rl.set c ⟨(lC D k).rw c,a3,c3⟩}:=⟨_,rfl⟩;rw[<-hY]at lS;have hsp1:1<=C.spare:=by
   have h1:=j7 Az (lA (C:=C) (i:=k) (by rw[K.pl];exact ct));rw[K.sp];have:Az (C.pg k)=1:=by unfold Az;rw[if_neg (by rw[ho];simp)]
   rw[this]at h1;exact h1
  have D4:(cP (lC D k) Y).set (0+11) (DE DD ((C.spare:Int)-1))=cP (C.cz k c) Y:=by
   rw[show((C.spare:Int)-1)=((C.spare-1:Nat):Int) by omega,hD];rfl
  have Qv:(cP (lC D k) Y)[0+11]?=some (DE DD C.spare):=by rw[hD];rfl
  have hlc:gS (C.cz k c) Y:=by
   refine⟨?_, ?_,lS.pk,by have:=lS.aj;rw[hD]at this;exact this,by have:=lS.pgs;rw[hD]at this;exact this⟩
   ·rw[lS.pl,hD];rfl
   rw[lS.rl];unfold lC;dsimp only;rw[dx,hDr,hDp];have e1:D.hJ k c (C.fR k c).tk=C.hJ k c (aa2 (C.aj/C.sz c) false):=by rw[hD];rfl
   rw[e1,hD];dsimp only;rw[ade];rfl
  refine ay (H':= [ag b 179 (cP (lC D k) Y),oq C y,ag y.pb 227 (Y.pl.flatMap dU),aF (Y.pl.map lF),ag y.rb 196 (Y.rl.flatMap eH),aF (Y.rl.map kP),ag y.a 249 (iI y.ab C.aj (C.n*C.aj)),ag y.ab 5 (dY C.A (C.n*C.aj))]) (by rw[hY,hD,zV];exact Eh) ?_;have vd:0+11<(cP (lC D k) Y).length:=by unfold cP;simp
  obtain⟨sc,hsc⟩:∃sc,sc=cP (lC D k) Y:=⟨_,rfl⟩;rw[<-hsc]at Qv vd D4⊢;refine cC ?_;rw[D4];refine ay (H':=mU b (C.cz k c) Y) (by rw[hY,zV];exact Eh) ?_;unfold mU;refine Rt [ag b 179 (cP (C.cz k c) Y),oq (C.cz k c) Y,ag Y.pb 227 (Y.pl.flatMap dU),aF (Y.pl.map lF),ag Y.rb 196 (Y.rl.flatMap eH),aF (Y.rl.map kP),ag Y.a 249 (iI Y.ab (C.cz k c).aj ((C.cz k c).n*(C.cz k c).aj)),ag Y.ab 5 (dY (C.cz k c).A ((C.cz k c).n*(C.cz k c).aj))] results219 ?_;exact⟨rfl,Y,hlc,by rw[hY,zV],rfl⟩
 intro hk;replace hk:=aG hk;obtain rfl:k=C.n:=by omega
 rw[Gm (by rw[K.pl];exact rY)];refine cu ?_;refine Rt [ag b 179 (cP C y),oq C y,ag y.pb 227 (y.pl.flatMap dU),aF (y.pl.map lF),ag y.rb 196 (y.rl.flatMap eH),aF (y.rl.map kP),ag y.a 249 (iI y.ab C.aj (C.n*C.aj)),ag y.ab 5 (dY C.A (C.n*C.aj))] results219 ?_;exact⟨rfl,rfl⟩
theorem ZJ{p P o:Nat}(h:p % P+o<P):(p+o) % P=p % P+o:=by
 rw[Nat.add_mod,acZ (show o<P by omega),acZ h]
theorem Lz (l:List Bool)(k:Nat)(b:Bool):(tK l).set k (.bool b)=tK (l.set k b):=by unfold tK;rw[adf]
theorem UR{C:Cs}{x:wj}{i gb tb:Nat}(e:x.p=C.pg i)(hg:x.gb=some gb)(ht:x.tb=some tb):lF x=aF [ag gb 149 (aV (C.pg i).bb),ag tb 4 (tK (C.pg i).tk),DP x.ob (jP (C.pg i).old)]:=by
 unfold lF;rw[hg,ht,e];rfl
theorem Zo{a:FX}{c e:Nat}{xs ys:FV}{H:Dz}{k:Hp}(s:ai (own a c e 1 (xs++ys)::H) k):ai (own a c e 1 xs::H) k:=bo (λ_ p=>Zp p) s
def QF (b:Nat)(C:Cs)(y:Lc)(i c gb tb:Nat)(x:wj)(z:GV):Dz:=
 [own z.a z.c 3 1 (aE (C.rw c).free),ag gb 149 (aV (C.pg i).bb),ag tb 4 (tK (C.pg i).tk),ag y.pb 227 (y.pl.flatMap dU),ag y.rb 196 (y.rl.flatMap eH),ag b 179 (cP C y),oq C y,
  ag y.a 249 (iI y.ab C.aj (C.n*C.aj)),ag y.ab 5 (dY C.A (C.n*C.aj)),DP x.ob (jP (C.pg i).old),aF ((y.pl.eraseIdx i).map lF),aF ((y.rl.eraseIdx c).map kP)]
theorem Ct{b:Nat}{C:Cs}{y:Lc}{i c gb tb:Nat}{x:wj}{z:GV}{n:Nat}{ds:Dx}{F:dM}{K:F7}{σ:aT}
  (x1:y.pl[i]?=some x) (e:x.p=C.pg i) (hg:x.gb=some gb) (ht:x.tb=some tb) (z1:y.rl[c]?=some z) (ze:z.r=C.rw c)
  (h:G n ds F K σ (QF b C y i c gb tb x z)):G n ds F K σ (mU b C y):=by
 unfold mU;refine Hh (H':= [aF (y.pl.map lF),aF (y.rl.map kP),ag b 179 (cP C y),oq C y,ag y.pb 227 (y.pl.flatMap dU),ag y.rb 196 (y.rl.flatMap eH),ag y.a 249 (iI y.ab C.aj (C.n*C.aj)),ag y.ab 5 (dY C.A (C.n*C.aj))]) ?_;refine ay (λ_ s=>xH x1 s) ?_;rw[UR e hg ht];refine mQ ?_;refine Hh (H':= [aF (y.rl.map kP),ag gb 149 (aV (C.pg i).bb),ag tb 4 (tK (C.pg i).tk),DP x.ob (jP (C.pg i).old),aF ((y.pl.eraseIdx i).map lF),ag b 179 (cP C y),oq C y,ag y.pb 227 (y.pl.flatMap dU),ag y.rb 196 (y.rl.flatMap eH),ag y.a 249 (iI y.ab C.aj (C.n*C.aj)),ag y.ab 5 (dY C.A (C.n*C.aj))]) ?_;refine ay (λ_ s=>xH z1 s) ?_;rw[show kP z=own z.a z.c 3 1 (aE (C.rw c).free)from by unfold kP;rw[ze]];exact Hh h
theorem tz{b:Nat}{C D:Cs}{y:Lc}{i c gb tb:Nat}{x:wj}{z:GV}{fr:F8}{bb:F8}{tk:List Bool}{a:FX}{cc:Nat}{r:Rw}{p:Pg}{k:Hp}(hy:gS C y)
  (x1:y.pl[i]?=some x) (e:x.p=C.pg i) (hg:x.gb=some gb) (ht:x.tb=some tb) (z1:y.rl[c]?=some z)
  (hD:D.bQ=C.bQ.set i p) (hR:D.rows=C.rows.set c r) (h1:D.aj=C.aj) (h2:D.n=C.n) (h3:D.ae=C.ae) (h4:D.spare=C.spare) (h5:D.cfg=C.cfg) (GA:r.free=fr) (jg:p.bb=bb) (hpt:p.tk=tk) (hpo:p.own=(C.pg i).own) (hold:p.old=(C.pg i).old)
  (s:ai [own a cc 3 1 (aE fr),ag gb 149 (aV bb),ag tb 4 (tK tk),ag y.pb 227 ((y.pl.set i ⟨p,some gb,some tb,x.ob⟩).flatMap dU),ag y.rb 196 ((y.rl.set c ⟨r,a,cc⟩).flatMap eH),ag b 179 (cP C y),oq C y,
   ag y.a 249 (iI y.ab C.aj (C.n*C.aj)),ag y.ab 5 (dY D.A (C.n*C.aj)),DP x.ob (jP (C.pg i).old),aF ((y.pl.eraseIdx i).map lF),aF ((y.rl.eraseIdx c).map kP)] k):ai [Cl b D] k:=by
 have e2:aF [ag gb 149 (aV bb),ag tb 4 (tK tk),DP x.ob (jP (C.pg i).old)]=lF ⟨p,some gb,some tb,x.ob⟩:=by
  unfold lF;rw[<-jg,<-hpt,<-hold];rfl
 have e3:own a cc 3 1 (aE fr)=kP ⟨r,a,cc⟩:=by unfold kP;rw[GA]
 have s1:ai [ag gb 149 (aV bb),ag tb 4 (tK tk),DP x.ob (jP (C.pg i).old),aF ((y.pl.eraseIdx i).map lF),own a cc 3 1 (aE fr),aF ((y.rl.eraseIdx c).map kP),ag y.pb 227 ((y.pl.set i ⟨p,some gb,some tb,x.ob⟩).flatMap dU),ag y.rb 196 ((y.rl.set c ⟨r,a,cc⟩).flatMap eH),ag b 179 (cP C y),oq C y,ag y.a 249 (iI y.ab C.aj (C.n*C.aj)),ag y.ab 5 (dY D.A (C.n*C.aj))] k:=by refine(?_:∀h,ai _ h->ai _ h) k s;exact Eh
 have s2:=eC (L:= [_,_,_]) s1;rw[e2]at s2;have s3:=vD (f:=lF) x1 _ s2;rw[e3]at s3;have s4:ai [kP ⟨r,a,cc⟩,aF ((y.rl.eraseIdx c).map kP),aF ((y.pl.set i ⟨p,some gb,some tb,x.ob⟩).map lF),ag y.pb 227 ((y.pl.set i ⟨p,some gb,some tb,x.ob⟩).flatMap dU),ag y.rb 196 ((y.rl.set c ⟨r,a,cc⟩).flatMap eH),ag b 179 (cP C y),oq C y,ag y.a 249 (iI y.ab C.aj (C.n*C.aj)),ag y.ab 5 (dY D.A (C.n*C.aj))] k:=by refine(?_:∀h,ai _ h->ai _ h) k s3;exact Eh
 have s5:=vD (f:=kP) z1 _ s4;have zV:gS D {y with pl:=y.pl.set i ⟨p,some gb,some tb,x.ob⟩,rl:=y.rl.set c ⟨r,a,cc⟩}:=by
  refine⟨by rw[hD,<-hy.pl,adf],by rw[hR,<-hy.rl,adf],λu hu=> ?_,by rw[h5,h1];exact hy.aj,by rw[h5,h2];exact hy.pgs⟩;have P:=hy.pk x (aa3 x1);rcases ada hu with h|rfl
  ·exact hy.pk u h
  refine⟨?_, ?_,λh=> ?_⟩
  ·dsimp only;rw[hpo,<-e,<-P.g,hg]
  ·dsimp only;rw[hpo,<-e,<-P.t,ht]
  dsimp only;rw[hold,<-e];exact P.o h
 refine qU (H:= []) zV ?_;have hs:cP D {y with pl:=y.pl.set i ⟨p,some gb,some tb,x.ob⟩,rl:=y.rl.set c ⟨r,a,cc⟩}=cP C y:=by unfold cP;rw[h1,h2,h3,h4,h5]
 have hz:oq D {y with pl:=y.pl.set i ⟨p,some gb,some tb,x.ob⟩,rl:=y.rl.set c ⟨r,a,cc⟩}=oq C y:=by unfold oq;rw[h3]
 unfold mU;rw[hs,hz,h1,h2];refine(?_:∀h,ai _ h->ai _ h) k s5;exact Eh
theorem akX (a:FX)(m:Nat):B8 a 0 m (0*1)=a:=by
 unfold B8;split
 ·rfl
 ·cases a<;>simp[Addr.add]
theorem Bt{C:Cs}{i c m:Nat}(hm:0<m):C.hJ i c (aa2 m false)≠ []:=by
 unfold hJ;intro h;rw[List.map_eq_nil_iff,List.filter_eq_nil_iff]at h;refine h 0 (by simp;omega) ?_;rw[List.getElem?_replicate,if_pos hm];rfl
theorem Vs{α:Type}(l:List α){m:List α}(h:m≠ []):(l++m).getLast?=m.getLast?:=by
 rw[List.getLast?_append,ahv h];rfl
theorem y8{C:Cs}(K:Ok C){i c:Nat}(hc:c<C.ae.length):∃p,((C.cz i c).rw c).free.getLast?=some p:=by
 have h:=qH C c c {C.rw c with pgs:=(C.rw c).pgs+1,fL:=(C.rw c).fL+1,free:=(C.rw c).free++C.hJ i c (aa2 (C.aj/C.sz c) false)} (by rw[K.rl];exact hc);rw[if_pos rfl]at h;have h2:(C.cz i c).rw c=_:=h;obtain⟨z1,z2,_⟩:=K.toFix.sz hc;have hm:0<C.aj/C.sz c:=Nat.div_pos z2 (by omega);rw[h2];dsimp only;rw[Vs _ (Bt hm)];exact⟨_,ahv (Bt hm)⟩
theorem J4{α:Type}(f:α->Nat)(B:Nat):∀l:List α,(∀x∈l,f x<=B)->(l.map f).sum<=l.length*B
 | [],_=>by simp
 |x::l,h=>by
  have h1:=J4 f B l λy hy=>h y (aa6 _ hy);have h2:=h x (aa5 ..);simp only[aa7,abp,abu,ahu,ahE];omega
theorem xB{C:Cs}(K:Ok C){x:Pg}(hx:x∈C.bQ):x.held<=1048576:=by
 have P:=K.pg x hx;have f1:=K.toFix.p1;rw[P.held];have h1:(x.tk.map bN).sum<=x.tk.length:=yn bN (λb=>by cases b<;>decide) _;have h4:=P.tl;by_cases ho:x.own=true
 ·have h2:=P.gl ho
  have h3:=ahk C.aj (C.sz x.cl);omega
 have:=(P.no (by simpa using ho)).1;rw[this]at h4;simp at h4;rw[h4]at h1⊢;simp
theorem Cc{C:Cs}(K:Ok C){c:Nat}(hc:c<C.ae.length):(C.rw c).eG<=1073741824:=by
 rw[K.ft c hc];have h1:=J4 (we c) 1048576 C.bQ λx hx=>by
  unfold we;split
  ·exact xB K hx
  omega
 have h2:=K.toFix.n1;have h3:=K.toFix.pl;unfold BP;omega
theorem JZ (b:Nat)(C:Cs)(K:Ok C)(c:Nat)(hc:c<C.ae.length):aK aaY 157 [DC b,DE DD c] vz [Cl b C]
  (λv H=>match C.dD c with
   |none=>v= .tuple #[DE DB 0,DE DD 21]/\H= [Cl b C]
   |some (p,D)=>v= .tuple #[DE DB (D.hd p),DE DD 0]/\H= [Cl b D]):=by
 refine uf λy hy=> ?_;have l1:=K.toFix.l1;refine af func157 rfl ntmps157 rfl ?_;intro F _;change G _ _ _ _ _ [ag b 179 (cP C y),oq C y,ag y.pb 227 (y.pl.flatMap dU),aF (y.pl.map lF),ag y.rb 196 (y.rl.flatMap eH),aF (y.rl.map kP),ag y.a 249 (iI y.ab C.aj (C.n*C.aj)),ag y.ab 5 (dY C.A (C.n*C.aj))];refine cY ?_;refine zl Aq (AJ b C y K (c:Int)) .nil (λ_ _ au=>⟨au.nth 0 rfl,au.nth 1 rfl,au.nth 2 rfl,au.nth 3 rfl,au.nth 4 rfl,au.nth 5 rfl,au.nth 6 rfl,au.nth 7 rfl,trivial⟩) ?_;rw[show XF C (c:Int)=true from decide_eq_true ⟨by omega,by omega⟩];obtain⟨z,z1,z2⟩:=yy K hy hc;have r0:(y.rl.flatMap eH)[c*4]?=some (.slice z.a (C.rw c).free.length z.c):=by
  have:=bq cF z1 (j:=0) rfl;rw[z2]at this;exact this
 refine kT ?_;refine av ?_;refine cG (ι:=Bool×Cs×Lc×Nat) (FZ [20,12]) (λ(ok,D,Y,p)=>(ok=true->Ok D/\gS D Y/\Y.rb=y.rb/\c<D.ae.length/\(D.rw c).free.getLast?=some p/\C.dD c=some (p,D.iS c p))/\(ok=false->D=C/\Y=y/\C.dD c=none)) (λ(ok,D,Y,p)=> [(31, .bool (!ok))]) (λ(ok,D,Y,p)=> [ag b 179 (cP D Y),oq D Y,ag Y.pb 227 (Y.pl.flatMap dU),aF (Y.pl.map lF),ag Y.rb 196 (Y.rl.flatMap eH),aF (Y.rl.map kP),ag Y.a 249 (iI Y.ab D.aj (D.n*D.aj)),ag Y.ab 5 (dY D.A (D.n*D.aj))]) ?_ ?_
 ·rcases e:(C.rw c).free.getLast? with _|p
  ·have hem:(C.rw c).free= []:=List.getLast?_eq_none_iff.1 e
   refine cY ?_;refine zt 26 ?_ (e:=by exact decide_eq_true (by rw[hem];rfl));refine bn ?_;refine Lp (oC Aq rfl rfl (T5 b C y K hy c hc) (.cons .here (.cons .here (.cons .here (.cons .here (.cons .here (.cons .here (.cons .here (.cons .here .nil)))))))) DA ?_);rintro v H' hw;refine bS ?_;rcases e2:C.gD with _|i
   ·rw[e2]at hw
    obtain⟨rfl,rfl⟩:=hw;refine bn ?_;refine aB ?_;refine Me ((false,C,y,0)) (⟨λh=>(by cases h),λ_=>⟨rfl,rfl,by unfold dD;rw[e,e2]⟩⟩)
   rw[e2]at hw;obtain⟨rfl,Y,hY,GL,rfl⟩:=hw;obtain⟨p,hp⟩:=y8 K (i:=i) hc;have hi:i<C.n/\(C.pg i).own=false:=by
    unfold gD at e2;rw[abl]at e2;obtain⟨q1,q2,_⟩:=e2;refine⟨by rw[<-K.pl];exact q1, ?_⟩;have:=lA (C:=C) q1;rw[aa0 q1]at this;rw[<-Option.some.inj this];simpa using q2
   refine bn ?_;refine aB ?_;refine Me ((true,C.cz i c,Y,p)) (⟨λ_=>⟨AR K hi.1 hc hi.2,hY,GL,hc,hp,by unfold dD;rw[e,e2];dsimp only;rw[hp]⟩,λh=>(by cases h)⟩)
  have fN:(C.rw c).free≠ []:=λh=>by rw[h]at e;cases e
  have L9:0<(C.rw c).free.length:=List.length_pos_iff.2 fN;refine cY ?_;refine zf 26 ?_;refine ba ?_;refine aB ?_;refine Me ((true,C,y,p)) (⟨λ_=>⟨K,hy,rfl,hc,e,by unfold dD;rw[e]⟩,λh=>by cases h⟩)
 rintro⟨ok,D,Y,p⟩ ⟨h1,h2⟩
 try dsimp only at hI⊢
 rcases ok with _|_
 ·obtain⟨rfl,rfl,h3⟩:=h2 rfl
  rw[h3];refine bL ?_;refine ay (H':= [Cl b D]) (λ_ s=>qU (H:= []) hy s) ?_;refine js [Cl b D] results157 ?_;exact⟨rfl,rfl⟩
 obtain⟨KD,hY,GL,hcD,hp,Ax⟩:=h1 rfl;rw[Ax];dsimp only
 clear h1 h2 Ax
 refine aw ?_;rw[<-GL];obtain⟨KO,S,Fp⟩:=yE KD hp;have L:=Fp.toAt;have dx:=Fp.cl;obtain⟨n1,n2,n3,n4,n5,n6,n7,n8⟩:=L.br KD;have nb:=gg KD.toFix;have g0:=KD.toFix.p0;have g1:=KD.toFix.p1;have hgl:=Live.yq KD L;rw[dx]at n2 n3 n4 n6 n7 n8;obtain⟨x,x1,x2,x3⟩:=um KD hY L.i;obtain⟨gb,uW⟩:∃g,x.gb=some g:=Option.isSome_iff_exists.1 (x3.g.trans (by rw[x2];exact L.own));obtain⟨tb,uV⟩:∃g,x.tb=some g:=Option.isSome_iff_exists.1 (x3.t.trans (by rw[x2];exact L.own));obtain⟨z3,w1,w2⟩:=yy KD hY hcD;have P:=KD.yh L.i;have ek:=L.k;have etk:=Fp.tk;have hixp:p % D.aj/D.sz c=D.ix p:=Gz (c:=c) (i:=D.pn p) dx rfl;have hTl:=xB KD (eA (C:=D) (i:=D.pn p) (by rw[KD.pl];exact L.i));have hTk:=Cc KD hcD;have hfb:=kJ KD c;have fN:(D.rw c).free≠ []:=λh=>by rw[h]at hp;cases hp
 have rN:(D.rw c).free=(D.rw c).free.dropLast++ [p]:=by
  have:=ale fN;rw[ahv fN]at hp;rw[Option.some.inj hp]at this;exact this.symm
 obtain⟨f0,hf0⟩:∃f0,f0=(D.rw c).free.dropLast:=⟨_,rfl⟩;rw[<-hf0]at rN;have hlen:(D.rw c).free.length=f0.length+1:=by rw[rN];simp
 have r0:(Y.rl.flatMap eH)[c*4]?=some (.slice z3.a (f0.length+1) z3.c):=by
  have:=bq cF w1 (j:=0) (v:= .slice z3.a z3.r.free.length z3.c) rfl;rw[w2,hlen]at this;exact this
 have pk3:(Y.pl.flatMap dU)[D.pn p*7+3]?=some (.slice (some ⟨gb,0,none⟩) (D.pg (D.pn p)).bb.length (D.pg (D.pn p)).bb.length):=by
  have:=bq bT x1 (j:=3) rfl;rw[uW,x2]at this;exact this
 have pk4:(Y.pl.flatMap dU)[D.pn p*7+4]?=some (.slice (some ⟨tb,0,none⟩) (D.pg (D.pn p)).bb.length (D.pg (D.pn p)).bb.length):=by
  have:=bq bT x1 (j:=4) rfl;rw[uV,x2,P.tl]at this;exact this
 have pk5:(Y.pl.flatMap dU)[D.pn p*7+5]?=some (DE DD ((D.pg (D.pn p)).held)):=by
  have:=bq bT x1 (j:=5) rfl;rw[x2]at this;exact this
 refine Ct x1 x2 uW uV w1 w2 ?_;unfold QF;rw[rN];refine mZ (iU .here λ_ o=>(oP o).some (by rw[fq];simp)) λsa=> ?_;refine mZ (iU .here Zq) λscap=> ?_;rw[fq,aa9,ahp]at scap;have kl:(aE (f0++ [p]))[f0.length]?=some (DE DD p):=eL (by simp);refine bn ?_;refine av ?_;refine gT false mix ?_;refine bD ?_;refine Ti ((Ix lp (j:=f0.length) (hj:=by omega))) ?_;refine bj ?_;refine av ?_;refine gT false mix ?_;refine bO ?_;refine Ti (Sl 0 f0.length z3.c lp) ?_;rw[akX];have e1:(Y.rl.flatMap eH).set (c*4+0) (.slice z3.a f0.length z3.c)=(Y.rl.set c ⟨{D.rw c with free:=f0},z3.a,z3.c⟩).flatMap eH:=cb cF w1 (by unfold eH;rw[w2];rfl) (by decide);have e2:((Y.rl.set c ⟨{D.rw c with free:=f0},z3.a,z3.c⟩).flatMap eH).set (c*4+1) (DE DD ((D.rw c).eG+1))=(Y.rl.set c ⟨{D.rw c with free:=f0,eG:=(D.rw c).eG+1},z3.a,z3.c⟩).flatMap eH:=by
  have:=cb (l:=Y.rl.set c ⟨{D.rw c with free:=f0},z3.a,z3.c⟩) (i:=c) (j:=1) (v:=DE DD ((D.rw c).eG+1)) (a':=(⟨{D.rw c with free:=f0,eG:=(D.rw c).eG+1},z3.a,z3.c⟩:GV)) cF (aa4 (aa1.1 w1).1) (by unfold eH;rfl) (by decide);rw[ade]at this;exact this
 have r1:((Y.rl.set c ⟨{D.rw c with free:=f0},z3.a,z3.c⟩).flatMap eH)[c*4+1]?=some (DE DD ((D.rw c).eG)):=bq cF (aa4 (aa1.1 w1).1) rfl;have hl4:c*4+4<=(Y.rl.flatMap eH).length:=by
  rw[eU cF];have:=(aa1.1 w1).1;omega
 have hl5:c*4+4<=((Y.rl.set c ⟨{D.rw c with free:=f0},z3.a,z3.c⟩).flatMap eH).length:=by
  rw[eU cF,aa8];have:=(aa1.1 w1).1;omega
 generalize BN:Y.rl.flatMap eH=c1 at*;refine aY ?_;refine av ?_;rw[aiF,aiF,e1];generalize r9:(Y.rl.set c ⟨{D.rw c with free:=f0},z3.a,z3.c⟩).flatMap eH=c2 at*;refine bD ?_;refine av ?_;rw[e2];have e3:(Y.pl.flatMap dU).set (p/D.aj*7+5) (DE DD ((D.pg (D.pn p)).held+1))=(Y.pl.set (D.pn p) ⟨{D.pg (D.pn p)with tk:=(D.pg (D.pn p)).tk.set (D.ix p) true,held:=(D.pg (D.pn p)).held+1},some gb,some tb,x.ob⟩).flatMap dU:=
  cb (j:=5) bT x1 (by unfold dU;rw[x2,uW,uV];dsimp only;rw[aa8];rfl) (by decide)
 have hmp:=aia p (show 0<D.aj by omega);have pk3b:((Y.pl.set (D.pn p) ⟨{D.pg (D.pn p)with tk:=(D.pg (D.pn p)).tk.set (D.ix p) true,held:=(D.pg (D.pn p)).held+1},some gb,some tb,x.ob⟩).flatMap dU)[D.pn p*7+3]?=some (.slice (some ⟨gb,0,none⟩) (D.pg (D.pn p)).bb.length (D.pg (D.pn p)).bb.length):=bq bT (j:=3) (aa4 (aa1.1 x1).1) rfl;have hl7:p/D.aj*7+7<=(Y.pl.flatMap dU).length:=by
  rw[eU bT];have:=(aa1.1 x1).1;unfold Cs.pn at this;omega
 generalize hc3:Y.pl.flatMap dU=c3 at*;have hi:=L.i;have hti:D.ix p<(tK (D.pg (D.pn p)).tk).length:=by rw[LA,P.tl];exact ek
 have kg:=oK (uj ek);refine gT false mix ?_;refine bD ?_;refine Ti (Qu) ?_;refine bj ?_;refine av ?_;refine gT false mix ?_;refine bA ?_;refine Ti (Rm) ?_;refine bA ?_;refine Tp (oL bz ?_ (hk:=Q0 hcD (by repeat (first|exact fO.here|apply fO.there))));refine Ti (Qu) ?_;refine bn ?_;refine av ?_;rw[hixp];refine cu ?_;refine av ?_;rw[Lz];refine bD ?_;refine av ?_;rw[e3];have pm:p % D.aj=D.ix p*D.sz c:=by
  have h1:=ahR p D.aj;rw[ahm]at h1;unfold Cs.pn at n6;omega
 refine bA ?_;refine zl Aq (Jc Y.a Y.ab D.aj (D.n*D.aj) p 56 D.A 0 (by decide) (by omega) (by omega) (by omega) (by omega) g1) (.cons (.t8 .here) .nil) (λ_ _ au=>au.nth 7 rfl) ?_;refine aw ?_;refine av ?_;refine gT false mix ?_;refine gQ ?_;refine Tp (oZ (Aq (n:=221)) (zw Y.a Y.ab D.aj (D.n*D.aj) (p+12) (D.gen p) (lay D.A p (aa2 56 0)) hgl (by omega) (by omega) (by omega) (by rw[ZJ (by omega)];omega) g1) (.cons .here .nil) (λ_ _ au=>au.nth 7 rfl) ?_);refine bD ?_;refine zl Aq (vV p (D.gen p) (by omega) hgl) .nil DA ?_;refine aY ?_;rw[gC f0 [p]];refine Hh (H':= [own z3.a z3.c 3 1 (aE f0++aE [p]),ag gb 149 (aV (D.pg (D.pn p)).bb),ag tb 4 (tK ((D.pg (D.pn p)).tk.set (D.ix p) true)),ag Y.pb 227 ((Y.pl.set (D.pn p) ⟨{D.pg (D.pn p)with tk:=(D.pg (D.pn p)).tk.set (D.ix p) true,held:=(D.pg (D.pn p)).held+1},some gb,some tb,x.ob⟩).flatMap dU),ag Y.rb 196 ((Y.rl.set c ⟨{D.rw c with free:=f0,eG:=(D.rw c).eG+1},z3.a,z3.c⟩).flatMap eH),ag b 179 (cP D Y),oq D Y,ag Y.a 249 (iI Y.ab D.aj (D.n*D.aj)),ag Y.ab 5 (dY (wr (lay D.A p (aa2 56 0)) (p+12) 4 (D.gen p)) (D.n*D.aj)),DP x.ob (jP (D.pg (D.pn p)).old),aF ((Y.pl.eraseIdx (D.pn p)).map lF),aF ((Y.rl.eraseIdx c).map kP)]) ?_;refine ay (λ_ s=>Zo s) ?_;refine ay (H':= [Cl b (D.iS c p)]) (λ_ s=>tz (D:=D.iS c p) (r:={D.rw c with free:=f0,eG:=(D.rw c).eG+1}) (p:={D.pg (D.pn p)with tk:=(D.pg (D.pn p)).tk.set (D.ix p) true,held:=(D.pg (D.pn p)).held+1}) hY x1 x2 uW uV w1 rfl (by unfold iS put;rw[<-hf0]) rfl rfl rfl rfl rfl rfl rfl rfl rfl rfl s) ?_;refine js [Cl b (D.iS c p)] results157 ?_;refine⟨?_,rfl⟩;have e5:(D.iS c p).hd p=D.gen p*4294967296+(p/8+1):=by
  unfold Cs.hd;have:(D.iS c p).gen p=D.gen p:=by
   unfold Cs.gen;rw[S.pn,S.ix,show(D.iS c p).pg (D.pn p)=_ from mX (by rw[KD.pl];exact L.i) _,if_pos rfl]
  rw[this]
 rw[e5]
theorem zq{α:Type}{f:α->FV}{k:Nat}(hf:∀a,(f a).length=k){l:List α}{i j:Nat}{b a':α}{v:Value}(h:i<l.length)(hv:(f b).set j v=f a')(hj:j<k):((l.set i b).flatMap f).set (i*k+j) v=(l.set i a').flatMap f:=by
 have:=cb (l:=l.set i b) (i:=i) (j:=j) (v:=v) (a':=a') hf (aa4 h) hv hj;rw[ade]at this;exact this
structure Pv (C:Cs)(y:Lc)(i c gb tb:Nat)(x:wj)(z:GV):Prop where
 x1:y.pl[i]?=some x
 x2:x.p=C.pg i
 g:x.gb=some gb
 t:x.tb=some tb
 z1:y.rl[c]?=some z
 z2:z.r=C.rw c
 p1:(y.pl.flatMap dU)[i*7+1]?=some (.bool (C.pg i).lv)
 p2:(y.pl.flatMap dU)[i*7+2]?=some (DE DD c)
 p3:(y.pl.flatMap dU)[i*7+3]?=some (.slice (some ⟨gb,0,none⟩) (C.pg i).bb.length (C.pg i).bb.length)
 p4:(y.pl.flatMap dU)[i*7+4]?=some (.slice (some ⟨tb,0,none⟩) (C.pg i).bb.length (C.pg i).bb.length)
 p5:(y.pl.flatMap dU)[i*7+5]?=some (DE DD ((C.pg i).held))
 p6:(y.pl.flatMap dU)[i*7+6]?=some (.map x.ob)
 r0:(y.rl.flatMap eH)[c*4+0]?=some (.slice z.a (C.rw c).free.length z.c)
 r1:(y.rl.flatMap eH)[c*4+1]?=some (DE DD ((C.rw c).eG))
 r2:(y.rl.flatMap eH)[c*4+2]?=some (DE DD ((C.rw c).pgs))
 r3:(y.rl.flatMap eH)[c*4+3]?=some (DE DD ((C.rw c).fL))
 hp:i*7+7<=(y.pl.flatMap dU).length
 hr:c*4+4<=(y.rl.flatMap eH).length
 ip:i<y.pl.length
 ir:c<y.rl.length
theorem JA{C:Cs}{y:Lc}(K:Ok C)(hy:gS C y){i c:Nat}(hi:i<C.n)(ho:(C.pg i).own=true)(hc:(C.pg i).cl=c):∃gb tb x z,Pv C y i c gb tb x z:=by
 obtain⟨x,x1,x2,x3⟩:=um K hy hi;obtain⟨gb,uW⟩:∃g,x.gb=some g:=Option.isSome_iff_exists.1 (x3.g.trans (by rw[x2];exact ho));obtain⟨tb,uV⟩:∃g,x.tb=some g:=Option.isSome_iff_exists.1 (x3.t.trans (by rw[x2];exact ho));have P:lI C (C.pg i):=K.pg _ (eA (by rw[K.pl];exact hi));have ig:c<C.ae.length:=by rw[<-hc];exact P.cl ho
 obtain⟨z,z1,z2⟩:=yy K hy ig;have tl:=P.tl;have q:∀j v,(dU x)[j]?=some v->(y.pl.flatMap dU)[i*7+j]?=some v:=λj v hv=>bq bT x1 hv;have r:∀j v,(eH z)[j]?=some v->(y.rl.flatMap eH)[c*4+j]?=some v:=λj v hv=>bq cF z1 hv;have ip:=(aa1.1 x1).1;have ir:=(aa1.1 z1).1;refine⟨gb,tb,x,z,x1,x2,uW,uV,z1,z2, ?_, ?_, ?_, ?_, ?_, ?_, ?_, ?_, ?_, ?_,by rw[eU bT];omega,by rw[eU cF];omega,ip,ir⟩
 ·have:=q 1 _ rfl;rw[x2]at this;exact this
 ·have:=q 2 _ rfl;rw[x2,hc]at this;exact this
 ·have:=q 3 _ rfl;rw[uW,x2]at this;exact this
 ·have:=q 4 _ rfl;rw[uV,x2,tl]at this;exact this
 ·have:=q 5 _ rfl;rw[x2]at this;exact this
 ·have:=q 6 _ rfl;exact this
 ·have:=r 0 _ rfl;rw[z2]at this;exact this
 ·have:=r 1 _ rfl;rw[z2]at this;exact this
 ·have:=r 2 _ rfl;rw[z2]at this;exact this
 have:=r 3 _ rfl;rw[z2]at this;exact this
theorem YB (g:Nat):gL .add .u32 (g:Int) 1=some (((g+1) % 4294967296:Nat):Int):=congrArg some (by rw[IntKind.wrap_u32];omega)
set_option maxHeartbeats 1000000 in
theorem KX (b:Nat)(C:Cs)(K:Ok C)(p:Nat)(L:Live C p):aK aaY 163 [DC b,DE DB (C.hd p)] vz [Cl b C] (λv H=>v=DE DD 0/\H= [Cl b (C.bh p)]):=by
 refine uf λy hy=> ?_;have ig:=(L.toAt.br K).1;obtain⟨_,_,_,_,_,n6,n7,n8⟩:=L.toAt.br K;have nb:=gg K.toFix;have hheld:=xB K (eA (C:=C) (i:=C.pn p) (by rw[K.pl];exact L.i));have htkn:=Cc K ig;have abX:=kJ K (C.cl p);obtain⟨gb,tb,x,z,V⟩:=JA (c:=C.cl p) K hy L.i L.own rfl;obtain⟨x1,x2,uW,uV,z1,z2,p1,p2,p3,p4,p5,p6,r0,r1,r2,r3,hp7,GM,ip,ir⟩:=V;have P:=K.yh L.i;have hti:C.ix p<(tK (C.pg (C.pn p)).tk).length:=by rw[LA,P.tl];exact L.k
 have hgi:C.ix p<(aV (C.pg (C.pn p)).bb).length:=by rw[mu];exact L.k
 have kg:=oK (uj L.k);have ek:=L.k;have hh1:1<=(C.pg (C.pn p)).held:=by
  rw[P.held];have:=j7 bN L.tk;exact this
 have ht1:1<=(C.rw (C.cl p)).eG:=by
  rw[K.ft _ ig];have h1:=j7 (we (C.cl p)) (lA (C:=C) (i:=C.pn p) (by rw[K.pl];exact L.i));rw[CN (c:=C.cl p) L.own rfl]at h1;exact ahO hh1 h1
 refine af func163 rfl ntmps163 rfl ?_;intro F _;change G _ _ _ _ _ (mU b C y);unfold mU;refine bA ?_;refine zl Aq (K9 b C y K hy p L) .nil (λ_ _ au=>⟨au.nth 0 rfl,au.nth 1 rfl,au.nth 2 rfl,au.nth 3 rfl,au.nth 4 rfl,au.nth 5 rfl,au.nth 6 rfl,au.nth 7 rfl,trivial⟩) ?_;refine pX ?_;change G _ _ _ _ _ (mU b C y);refine Ct (c:=C.cl p) x1 x2 uW uV z1 z2 ?_;unfold QF;have e5:(y.pl.flatMap dU).set (C.pn p*7+5) (DE DD ((C.pg (C.pn p)).held-1))=(y.pl.set (C.pn p) ⟨{C.pg (C.pn p)with tk:=(C.pg (C.pn p)).tk.set (C.ix p) false,held:=(C.pg (C.pn p)).held-1,bb:=(C.pg (C.pn p)).bb.set (C.ix p) ((C.gen p+1) % 4294967296)},some gb,some tb,x.ob⟩).flatMap dU:=
  cb (j:=5) bT x1 (by unfold dU;rw[x2,uW,uV,show((C.pg (C.pn p)).held-1:Int)=(((C.pg (C.pn p)).held-1:Nat):Int) by omega];dsimp only;rw[aa8,aa8];rfl) (by decide)
 have q1:((y.pl.set (C.pn p) ⟨{C.pg (C.pn p)with tk:=(C.pg (C.pn p)).tk.set (C.ix p) false,held:=(C.pg (C.pn p)).held-1,bb:=(C.pg (C.pn p)).bb.set (C.ix p) ((C.gen p+1) % 4294967296)},some gb,some tb,x.ob⟩).flatMap dU)[C.pn p*7+1]?=some (.bool (C.pg (C.pn p)).lv):=bq bT (j:=1) (aa4 ip) rfl;have q2:((y.pl.set (C.pn p) ⟨{C.pg (C.pn p)with tk:=(C.pg (C.pn p)).tk.set (C.ix p) false,held:=(C.pg (C.pn p)).held-1,bb:=(C.pg (C.pn p)).bb.set (C.ix p) ((C.gen p+1) % 4294967296)},some gb,some tb,x.ob⟩).flatMap dU)[C.pn p*7+2]?=some (DE DD (C.cl p)):=bq bT (j:=2) (aa4 ip) rfl;have q3:((y.pl.set (C.pn p) ⟨{C.pg (C.pn p)with tk:=(C.pg (C.pn p)).tk.set (C.ix p) false,held:=(C.pg (C.pn p)).held-1,bb:=(C.pg (C.pn p)).bb.set (C.ix p) ((C.gen p+1) % 4294967296)},some gb,some tb,x.ob⟩).flatMap dU)[C.pn p*7+3]?=some (.slice (some ⟨gb,0,none⟩) (C.pg (C.pn p)).bb.length (C.pg (C.pn p)).bb.length):=by
  have:=bq bT (l:=y.pl.set (C.pn p) ⟨{C.pg (C.pn p)with tk:=(C.pg (C.pn p)).tk.set (C.ix p) false,held:=(C.pg (C.pn p)).held-1,bb:=(C.pg (C.pn p)).bb.set (C.ix p) ((C.gen p+1) % 4294967296)},some gb,some tb,x.ob⟩) (i:=C.pn p) (j:=3) (aa4 ip) rfl;dsimp only at this;rw[aa8]at this;exact this
 generalize BN:y.pl.flatMap dU=c1 at*;refine bO ?_;refine av ?_;rw[Lz];refine bD ?_;refine av ?_;rw[e5];generalize r9:(y.pl.set (C.pn p) ⟨{C.pg (C.pn p)with tk:=(C.pg (C.pn p)).tk.set (C.ix p) false,held:=(C.pg (C.pn p)).held-1,bb:=(C.pg (C.pn p)).bb.set (C.ix p) ((C.gen p+1) % 4294967296)},some gb,some tb,x.ob⟩).flatMap dU=c2 at*;refine cY ?_;refine Li ((Im (z:=(((C.gen p+1) % 4294967296:Nat):Int)) (hz:=YB _))) ?_;refine bj ?_;refine av ?_;rw[EI];refine gT false mix ?_;refine BV ?_;obtain⟨fr,GA⟩:∃fr,fr=if(C.pg (C.pn p)).lv=true then(C.rw (C.cl p)).free else(C.rw (C.cl p)).free++ [p]:=⟨_,rfl⟩
 refine cG (ι:=FX×Nat) (FZ [56,10]) (λ(a,cc)=>True) (λ(a,cc)=> []) (λ(a,cc)=> [own a cc 3 1 (aE fr),ag y.rb 196 ((y.rl.set (C.cl p) ⟨{C.rw (C.cl p)with free:=fr},a,cc⟩).flatMap eH),aF ((y.pl.eraseIdx (C.pn p)).map lF),aF ((y.rl.eraseIdx (C.cl p)).map kP),DP x.ob (jP (C.pg (C.pn p)).old),ag gb 149 (aV ((C.pg (C.pn p)).bb.set (C.ix p) ((C.gen p+1) % 4294967296))),ag tb 4 (tK ((C.pg (C.pn p)).tk.set (C.ix p) false)),ag y.pb 227 c2,ag b 179 (cP C y),oq C y,ag y.a 249 (iI y.ab C.aj (C.n*C.aj)),ag y.ab 5 (dY C.A (C.n*C.aj))]) ?_ ?_
 ·refine aA rfl ?_ ?_
  ·intro iG
   replace iG:=aG iG;have DJ:(C.pg (C.pn p)).lv=false:=by simpa using iG
   rw[DJ]at GA;simp only[Bool.false_eq_true,if_false]at GA;refine bL ?_;refine Lp (oT gk λb1=> ?_);refine Lp (bI gk qy rfl rfl rfl rfl .here (by rw[fq,aiz]) (rfl) (by simp[Value.oneCell']) (by omega) (by omega) rfl λa1 c1 h1=> ?_);have e7:aE (C.rw (C.cl p)).free++ [Value.int .i64 (p:Int)]=aE fr:=by rw[GA,gC _ [_]];rfl
   have e8:(y.rl.flatMap eH).set (C.cl p*4+0) (.slice a1 ((C.rw (C.cl p)).free.length+1) c1)=(y.rl.set (C.cl p) ⟨{C.rw (C.cl p)with free:=fr},a1,c1⟩).flatMap eH:=cb (j:=0) cF z1 (by unfold eH;rw[z2,GA];simp) (by decide);refine bj ?_;refine aB ?_;rw[e7,e8];refine Me ((a1,c1)) (trivial)
  intro iG;replace iG:=aG iG;have DJ:(C.pg (C.pn p)).lv=true:=by simpa using iG
  rw[DJ]at GA;simp only[if_true]at GA;refine aw ?_;have e8:y.rl.flatMap eH=(y.rl.set (C.cl p) ⟨{C.rw (C.cl p)with free:=fr},z.a,z.c⟩).flatMap eH:=by
   rw[gw (x:=(⟨{C.rw (C.cl p)with free:=fr},z.a,z.c⟩:GV)) (by rw[z1,GA,<-z2])]
  rw[e8,<-GA];refine Me ((z.a,z.c)) (trivial)
 rintro⟨a,cc⟩ hI
 try dsimp only at hI⊢
 have e9:((y.rl.set (C.cl p) ⟨{C.rw (C.cl p)with free:=fr},a,cc⟩).flatMap eH).set (C.cl p*4+1) (DE DD ((C.rw (C.cl p)).eG-1))=(y.rl.set (C.cl p) ⟨{C.rw (C.cl p)with free:=fr,eG:=(C.rw (C.cl p)).eG-1},a,cc⟩).flatMap eH:=
  zq cF ir (by unfold eH;rw[show((C.rw (C.cl p)).eG-1:Int)=(((C.rw (C.cl p)).eG-1:Nat):Int) by omega];rfl) (by decide)
 have s1:((y.rl.set (C.cl p) ⟨{C.rw (C.cl p)with free:=fr},a,cc⟩).flatMap eH)[C.cl p*4+1]?=some (DE DD ((C.rw (C.cl p)).eG)):=bq cF (aa4 ir) rfl;have hr5:C.cl p*4+4<=((y.rl.set (C.cl p) ⟨{C.rw (C.cl p)with free:=fr},a,cc⟩).flatMap eH).length:=by rw[eU cF,aa8];omega
 generalize hc3:(y.rl.set (C.cl p) ⟨{C.rw (C.cl p)with free:=fr},a,cc⟩).flatMap eH=c3 at*;refine fu ?_;rw[e9];rw[<-r9];refine Hh (H':= [own a cc 3 1 (aE fr),ag gb 149 (aV ((C.pg (C.pn p)).bb.set (C.ix p) ((C.gen p+1) % 4294967296))),ag tb 4 (tK ((C.pg (C.pn p)).tk.set (C.ix p) false)),ag y.pb 227 ((y.pl.set (C.pn p) ⟨{C.pg (C.pn p)with tk:=(C.pg (C.pn p)).tk.set (C.ix p) false,held:=(C.pg (C.pn p)).held-1,bb:=(C.pg (C.pn p)).bb.set (C.ix p) ((C.gen p+1) % 4294967296)},some gb,some tb,x.ob⟩).flatMap dU),ag y.rb 196 ((y.rl.set (C.cl p) ⟨{C.rw (C.cl p)with free:=fr,eG:=(C.rw (C.cl p)).eG-1},a,cc⟩).flatMap eH),ag b 179 (cP C y),oq C y,ag y.a 249 (iI y.ab C.aj (C.n*C.aj)),ag y.ab 5 (dY C.A (C.n*C.aj)),DP x.ob (jP (C.pg (C.pn p)).old),aF ((y.pl.eraseIdx (C.pn p)).map lF),aF ((y.rl.eraseIdx (C.cl p)).map kP)]) ?_;refine ay (H':= [Cl b (C.bh p)]) (λ_ s=>tz (D:=C.bh p) (r:={C.rw (C.cl p)with free:=fr,eG:=(C.rw (C.cl p)).eG-1}) (p:={C.pg (C.pn p)with tk:=(C.pg (C.pn p)).tk.set (C.ix p) false,held:=(C.pg (C.pn p)).held-1,bb:=(C.pg (C.pn p)).bb.set (C.ix p) ((C.gen p+1) % 4294967296)}) hy x1 x2 uW uV z1 rfl (by unfold bh put;rw[GA]) rfl rfl rfl rfl rfl rfl rfl rfl rfl rfl s) ?_;refine Rt [Cl b (C.bh p)] results163 ?_;exact⟨rfl,rfl⟩
set_option maxHeartbeats 1000000 in
theorem YS (b:Nat)(C:Cs)(K:Ok C)(i:Nat)(hi:i<C.n)(ho:(C.pg i).own=true)(iG:(C.pg i).lv=true):aK aaY 248 [DC b,DE DD i] vz [Cl b C] (λv H=>v=DE DD 0/\H= [Cl b (C.gr i)]):=by
 refine uf λy hy=> ?_;have P:lI C (C.pg i):=K.pg _ (eA (by rw[K.pl];exact hi));have ig:=P.cl ho;obtain⟨gb,tb,x,z,V⟩:=JA (c:=(C.pg i).cl) K hy hi ho rfl;obtain⟨x1,x2,uW,uV,z1,z2,p1,p2,p3,p4,p5,p6,r0,r1,r2,r3,hp7,GM,ip,ir⟩:=V;have X:=hy.pk x (aa3 x1);refine af func248 rfl ntmps248 rfl ?_;intro F _;change G _ _ _ _ _ (mU b C y);unfold mU;have jg:lF x=lF ⟨{C.pg i with lv:=false},some gb,some tb,x.ob⟩:=by unfold lF;rw[x2,uW,uV]
 have e1:(y.pl.flatMap dU).set (i*7+1) (.bool false)=(y.pl.set i ⟨{C.pg i with lv:=false},some gb,some tb,x.ob⟩).flatMap dU:=cb (j:=1) bT x1 (by unfold dU;rw[x2,uW,uV];rfl) (by decide);have e2:aF (y.pl.map lF)=aF ((y.pl.set i ⟨{C.pg i with lv:=false},some gb,some tb,x.ob⟩).map lF):=by rw[adf,<-jg,gw (by rw[abf,x1];rfl)]
 rw[iG]at p1;obtain⟨D,hD⟩:∃D:Cs,D={C with bQ:=C.bQ.set i {C.pg i with lv:=false}}:=⟨_,rfl⟩;obtain⟨y2,zV⟩:∃y2:Lc,y2={y with pl:=y.pl.set i ⟨{C.pg i with lv:=false},some gb,some tb,x.ob⟩}:=⟨_,rfl⟩;have hDp:D.pg i={C.pg i with lv:=false}:=by
  have:=Ci C i i {C.pg i with lv:=false} (by rw[K.pl];exact hi);rw[if_pos rfl]at this;rw[hD];exact this
 have hDr:∀c,D.rw c=C.rw c:=λc=>by rw[hD];rfl
 have hDF:Fix D:=by rw[hD];exact⟨K.p0,K.p1,K.p8,K.n0,K.n1,K.l0,K.l1,K.s0,by simp[K.pl],K.rl⟩
 have hDy:gS D y2:=by
  rw[hD,zV];refine⟨by rw[adf,hy.pl],hy.rl,λu hu=> ?_,hy.aj,hy.pgs⟩;rcases ada hu with h|rfl
  ·exact hy.pk u h
  exact⟨by dsimp only;rw[ho];rfl,by dsimp only;rw[ho];rfl,λh=>by have:=X.o h;rw[x2]at this;exact this⟩
 have dx:(D.pg i).cl=(C.pg i).cl:=by rw[hDp]
 have l2:=(K.le).2 _ ig;have f2:=K.toFix.n1;have J:=KQ b D y2 hDF hDy i (by rw[hD];exact hi) ⟨{C.pg i with lv:=false},some gb,some tb,x.ob⟩ tb (by rw[zV];exact aa4 ip) rfl (by rw[dx,hD];exact ig) (by rw[dx,hDp,hD];dsimp only;rw[P.tl,P.gl ho];exact abc _) (by rw[dx,hDr];have:=kJ K (C.pg i).cl;omega) (by rw[dx,hDr];omega);rw[dx]at J;generalize BN:y.pl.flatMap dU=c1 at*;refine bA ?_;refine zl Aq (nJ b C y K hy i hi) .nil (λ_ _ au=>⟨au.nth 0 rfl,au.nth 1 rfl,by have:=au.nth 2 rfl;rw[<-BN]at this;exact this,au.nth 3 rfl,au.nth 4 rfl,au.nth 5 rfl,au.nth 6 rfl,au.nth 7 rfl,trivial⟩) ?_;rw[if_pos ho];refine bL ?_;refine zf 11 ?_ (e:=by rfl);refine pX ?_;refine av ?_;rw[e1,e2];refine ay (H':=mU b D y2) (by rw[hD,zV];exact Eh) ?_;unfold mU;refine bj ?_;refine Lp (oC Aq rfl rfl (J) (.cons .here (.cons .here (.cons .here (.cons .here (.cons .here (.cons .here (.cons .here (.cons .here .nil)))))))) DA ?_);rintro v H' ⟨rfl,zz,hzz,a3,c3,rfl,lS⟩;refine bS ?_;refine ba ?_;refine ay (H':= [Cl b (C.gr i)]) (λ_ s=>qU (H:= []) (y:={y2 with rl:=y2.rl.set (C.pg i).cl ⟨(lC D i).rw (C.pg i).cl,a3,c3⟩}) ⟨by rw[lS.pl,hD];rfl, ?_,lS.pk,by have:=lS.aj;rw[hD]at this;exact this,by have:=lS.pgs;rw[hD]at this;exact this⟩ (by rw[hD]at s⊢;exact s)) ?_
 ·rw[lS.rl]
  unfold lC;dsimp only;rw[dx,hDr,hDp,hD];rfl
 refine Rt [Cl b (C.gr i)] results248 ?_;exact⟨rfl,rfl⟩
set_option maxHeartbeats 1000000 in
theorem Vn (b:Nat)(C:Cs)(K:Ok C)(i:Nat)(hi:i<C.n)(ho:(C.pg i).own=true)(iG:(C.pg i).lv=false):aK aaY 201 [DC b,DE DD i] vz [Cl b C] (λv H=>v=DE DD 0/\H= [Cl b (C.eT i)]):=by
 refine uf λy hy=> ?_;have P:lI C (C.pg i):=K.pg _ (eA (by rw[K.pl];exact hi));have ig:=P.cl ho;have f0:=K.toFix.p0;have f1:=K.toFix.p1;have f2:=K.toFix.n1;have abX:=kJ K (C.pg i).cl;have l2:=(K.le).2 _ ig;have hS:1<=(C.rw (C.pg i).cl).fL:=by
  have h1:=j7 (xP (C.pg i).cl) (lA (C:=C) (i:=i) (by rw[K.pl];exact hi));rw[K.fs _ ig];have:xP (C.pg i).cl (C.pg i)=1:=by unfold xP;rw[if_pos ⟨ho,rfl,iG⟩]
  rw[this]at h1;exact h1
 obtain⟨c,hc⟩:∃c,(C.pg i).cl=c:=⟨_,rfl⟩;obtain⟨gb,tb,x,z,V⟩:=JA (c:=c) K hy hi ho hc;obtain⟨x1,x2,uW,uV,z1,z2,p1,p2,p3,p4,p5,p6,r0,r1,r2,r3,hp7,GM,ip,ir⟩:=V;rw[hc]at abX l2 hS ig;rw[iG]at p1;have e1:(y.pl.flatMap dU).set (i*7+1) (.bool true)=(y.pl.set i ⟨{C.pg i with lv:=true},some gb,some tb,x.ob⟩).flatMap dU:=cb (j:=1) bT x1 (by unfold dU;rw[x2,uW,uV];rfl) (by decide);have q2:((y.pl.set i ⟨{C.pg i with lv:=true},some gb,some tb,x.ob⟩).flatMap dU)[i*7+2]?=some (DE DD c):=by
  have:=bq bT (l:=y.pl.set i ⟨{C.pg i with lv:=true},some gb,some tb,x.ob⟩) (i:=i) (j:=2) (aa4 ip) rfl;rw[hc]at this;exact this
 have e3:(y.rl.flatMap eH).set (c*4+3) (DE DD ((C.rw c).fL-1))=(y.rl.set c ⟨{C.rw c with fL:=(C.rw c).fL-1},z.a,z.c⟩).flatMap eH:=cb (j:=3) cF z1 (by unfold eH;rw[z2,show((C.rw c).fL-1:Int)=(((C.rw c).fL-1:Nat):Int) by omega];rfl) (by decide);have s0:((y.rl.set c ⟨{C.rw c with fL:=(C.rw c).fL-1},z.a,z.c⟩).flatMap eH)[c*4+0]?=some (.slice z.a (C.rw c).free.length z.c):=bq cF (aa4 ir) rfl;have e4:∀(L:F8) (a:FX) (cc:Nat),((y.rl.set c ⟨{C.rw c with fL:=(C.rw c).fL-1},z.a,z.c⟩).flatMap eH).set (c*4+0) (.slice a L.length cc)=(y.rl.set c ⟨{C.rw c with fL:=(C.rw c).fL-1,free:=L},a,cc⟩).flatMap eH:=λL a cc=>zq cF ir (by unfold eH;rfl) (by decide);have hr5:c*4+4<=((y.rl.set c ⟨{C.rw c with fL:=(C.rw c).fL-1},z.a,z.c⟩).flatMap eH).length:=by rw[eU cF,aa8];omega
 refine af func201 rfl ntmps201 rfl ?_;intro F _;change G _ _ _ _ _ (mU b C y);unfold mU;refine bA ?_;refine zl Aq (nJ b C y K hy i hi) .nil (λ_ _ au=>⟨au.nth 0 rfl,au.nth 1 rfl,au.nth 2 rfl,au.nth 3 rfl,au.nth 4 rfl,au.nth 5 rfl,au.nth 6 rfl,au.nth 7 rfl,trivial⟩) ?_;rw[if_pos ho];change G _ _ _ _ _ (mU b C y);refine Ct (c:=c) x1 x2 uW uV z1 z2 ?_;unfold QF;generalize BN:y.pl.flatMap dU=c1 at*;generalize r9:(y.pl.set i ⟨{C.pg i with lv:=true},some gb,some tb,x.ob⟩).flatMap dU=c2 at*;generalize hc3:y.rl.flatMap eH=c3 at*;generalize hc4:(y.rl.set c ⟨{C.rw c with fL:=(C.rw c).fL-1},z.a,z.c⟩).flatMap eH=c4 at*;refine cC ?_;refine bA ?_;refine av ?_;rw[e1];refine gT false mix ?_;refine cC ?_;refine aw ?_;refine av ?_;rw[e3];refine gQ ?_;refine cX 3 1 ?_;refine Lo (ι:=Nat×F8×FX×Nat) (FZ [7,1,9,1,43,18]) (λ(k,L,a,cc)=>k<=(C.rw c).free.length/\L=((C.rw c).free.take k).filter (λp=>decide (C.pn p≠i))/\L.length<=k) (λ(k,L,a,cc)=> [(43,DE DD k),(7, .slice a L.length cc)]) (λ(k,L,a,cc)=> [own a cc 3 1 (aE L),own z.a z.c 3 1 (aE (C.rw c).free),ag y.rb 196 c4,ag gb 149 (aV (C.pg i).bb),ag tb 4 (tK (C.pg i).tk),ag y.pb 227 c2,ag b 179 (cP C y),oq C y,ag y.a 249 (iI y.ab C.aj (C.n*C.aj)),ag y.ab 5 (dY C.A (C.n*C.aj)),DP x.ob (jP (C.pg i).old),aF ((y.pl.eraseIdx i).map lF),aF ((y.rl.eraseIdx c).map kP)]) (λ(k,L,a,cc)=>(C.rw c).free.length-k) ((0,[],none,0)) ⟨abn _,rfl,abc _⟩ ?_;rintro⟨k,L,a,cc⟩ ⟨Qq,hL,hLl⟩
 try dsimp only at hI⊢
 try dsimp only at Qq hL hLl⊢
 refine bj ?_;refine av ?_;refine aA rfl ?_ ?_
 ·intro hk
  replace hk:=aG hk;have ct:k<(C.rw c).free.length:=by omega
  have ef:(C.rw c).free[k]?=some (C.rw c).free[k]:=aa0 ct;have ht1:(C.rw c).free.take (k+1)=(C.rw c).free.take k++ [(C.rw c).free[k]]:=by rw[List.take_add_one,ef];rfl
  have hqb:(C.rw c).free[k]<C.n*C.aj:=by
   have:=((K.fr c _ (abe ct)).toAt.br K);omega
  have nb:=gg K.toFix;generalize (C.rw c).free[k]=q at*;have kq:=eL ef;refine mZ (iU (.there .here) λ_ o=>(oP o).some (by rw[fq];omega)) λsa=> ?_;refine ba ?_;refine Li (Ix lp) ?_;refine bD ?_;refine Li (Qu) ?_;refine bj ?_;refine aA rfl ?_ ?_
  ·intro hq
   replace hq:=aG hq;have LN:C.pn q≠i:=λe=>hq (by unfold Cs.pn at e;rw[e]);refine bj ?_;refine Lp (oT gk λb1=> ?_);refine Lp (bI gk qy rfl rfl rfl rfl .here (by rw[fq,aiz]) (rfl) (by simp[Value.oneCell']) (by omega) (by omega) rfl λa1 c1 h1=> ?_);refine bL ?_;refine aB ?_;have e7:aE L++ [Value.int .i64 (q:Int)]=aE (L++ [q]):=by rw[gC _ [_]];rfl
   rw[e7,show L.length+1=(L++ [q]).length by simp];refine Ro ((k+1,L++ [q],a1,c1)) (⟨by dsimp only;omega,by dsimp only;rw[ht1,ahU,<-hL,List.filter_cons_of_pos (by simpa using LN)];rfl,by simp;omega⟩) ((by dsimp only;omega))
  intro hq;replace hq:=aG hq;have LN:C.pn q=i:=by unfold Cs.pn;omega
  refine bA ?_;refine aB ?_;refine Ro ((k+1,L,a,cc)) (⟨by dsimp only;omega,by dsimp only;rw[ht1,ahU,<-hL,List.filter_cons_of_neg (by simpa using LN)];simp,by dsimp only;omega⟩) ((by dsimp only;omega))
 intro hk;replace hk:=aG hk;obtain rfl:k=(C.rw c).free.length:=by omega
 rw[List.take_length]at hL;refine pX ?_;rw[e4 L a cc];rw[<-r9];refine Hh (H':= [own a cc 3 1 (aE L),ag gb 149 (aV (C.pg i).bb),ag tb 4 (tK (C.pg i).tk),ag y.pb 227 ((y.pl.set i ⟨{C.pg i with lv:=true},some gb,some tb,x.ob⟩).flatMap dU),ag y.rb 196 ((y.rl.set c ⟨{C.rw c with fL:=(C.rw c).fL-1,free:=L},a,cc⟩).flatMap eH),ag b 179 (cP C y),oq C y,ag y.a 249 (iI y.ab C.aj (C.n*C.aj)),ag y.ab 5 (dY C.A (C.n*C.aj)),DP x.ob (jP (C.pg i).old),aF ((y.pl.eraseIdx i).map lF),aF ((y.rl.eraseIdx c).map kP)]) ?_;refine ay (H':= [Cl b (C.eT i)]) (λ_ s=>tz (D:=C.eT i) (r:={C.rw c with fL:=(C.rw c).fL-1,free:=L}) (p:={C.pg i with lv:=true}) hy x1 x2 uW uV z1 rfl (by unfold eT put;rw[hc,hL]) rfl rfl rfl rfl rfl rfl rfl rfl rfl rfl s) ?_;refine Rt [Cl b (C.eT i)] results201 ?_;exact⟨rfl,rfl⟩
theorem MqO{P:Program}{n:Nat}{ds:Dx}{F:dM}{σ:aT}{o:Oper}{t k e yt:TypeId}{dd:TypeDesc}{z:Value}{x:Operand}{m:FW}(ht:xU P t=some (k,dd,e,z))(ho:o.op= .binOp .eql t x (.const (.map none)) yt:=by exact rfl)(hx:bC σ x=some (.map m):=by exact rfl):Yv P n ds F σ o (.bool m.isNone):=λa w en _=>by
 obtain⟨PT,_,_,_,_⟩:=nU ht;have hc:a.eval (.const (.map none))= .map none:=rfl;have q:(Op.equalIn 10000 t (.map m) (.map none)).run P w= .ok m.isNone w:=by
  unfold Op.equalIn;simp only[Sem.run_bind,run_underlying PT,Result.andThen_ok];cases m<;>rfl
 simp only[execOp,ho,en.eval hx,hc];have q2:(Op.equal t (.map m) (.map none)).run P w= .ok m.isNone w:=q;simp[binOp,eqGuard,q2]
theorem Zy (l:List (Nat×Nat))(k g:Nat):DN (jP l) (DE DD k) (DE amo g)=jP (sJ l k g):=by
 classical
 have hm:(∃e∈jP l,e.1=Value.int .i64 (k:Int))↔k∈l.map (·.1):=by
  constructor
  ·rintro⟨e,he,h⟩
   obtain⟨p,hp,rfl⟩:=abk.1 he;refine abk.2 ⟨p,hp, ?_⟩;simp at h;omega
  intro h;obtain⟨p,hp,rfl⟩:=abk.1 h;exact⟨_,abk.2 ⟨p,hp,rfl⟩,rfl⟩
 unfold sJ;by_cases h:k∈l.map (·.1)
 ·rw[CS (hm.2 h),if_pos h]
  unfold jP;rw[aiy,aiy];apply ahn;intro p _;simp only[Function.comp];by_cases hp:p.1=k
  ·rw[if_pos hp,if_pos (by rw[hp])]
  rw[if_neg hp,if_neg (by simp;omega)]
 rw[CT (λe he q=>h (hm.1 ⟨e,he,q⟩)),if_neg h];simp[jP]
set_option maxHeartbeats 1000000 in
theorem IS (b:Nat)(C:Cs)(K:Ok C)(i:Nat)(hi:i<C.n)(ho:(C.pg i).own=true)(iG:(C.pg i).lv=true)(hh:(C.pg i).held=0):aK aaY 203 [DC b,DE DD i] vz [Cl b C] (λv H=>v=DE DD 0/\H= [Cl b (C.bw i)]):=by
 refine uf λy hy=> ?_;have P:lI C (C.pg i):=K.pg _ (eA (by rw[K.pl];exact hi));have ig:=P.cl ho;have f1:=K.toFix.p1;have f2:=K.toFix.n1;obtain⟨l1,l2'⟩:=K.le;have l2:=l2' _ ig;have hzs:=K.toFix.sz ig;have hgl:(C.pg i).bb.length<=C.aj:=by rw[P.gl ho];exact ahk _ _
 have hP:1<=(C.rw (C.pg i).cl).pgs:=by
  have h1:=j7 (uY (C.pg i).cl) (lA (C:=C) (i:=i) (by rw[K.pl];exact hi));rw[K.fp _ ig];have:uY (C.pg i).cl (C.pg i)=1:=by unfold uY;rw[if_pos ⟨ho,rfl⟩]
  rw[this]at h1;exact h1
 obtain⟨c,hc⟩:∃c,(C.pg i).cl=c:=⟨_,rfl⟩;obtain⟨gb,tb,x,z,V⟩:=JA (c:=c) K hy hi ho hc;obtain⟨x1,x2,uW,uV,z1,z2,p1,p2,p3,p4,p5,p6,r0,r1,r2,r3,hp7,GM,ip,ir⟩:=V;have X:=hy.pk x (aa3 x1);rw[hc]at l2 hP ig hzs;rw[iG]at p1;rw[hh]at p5;refine af func203 rfl ntmps203 rfl ?_;intro F _;change G _ _ _ _ _ (mU b C y);unfold mU;refine bA ?_;refine zl Aq (nJ b C y K hy i hi) .nil (λ_ _ au=>⟨au.nth 0 rfl,au.nth 1 rfl,au.nth 2 rfl,au.nth 3 rfl,au.nth 4 rfl,au.nth 5 rfl,au.nth 6 rfl,au.nth 7 rfl,trivial⟩) ?_;rw[if_pos ho];change G _ _ _ _ _ (mU b C y);refine Ct (c:=c) x1 x2 uW uV z1 z2 ?_;unfold QF;refine bL ?_;refine zf 13 ?_ (e:=by rfl);refine cC ?_;refine aw ?_;refine av ?_;refine cG (ι:=Nat) (FZ [25,9]) (λm=>True) (λm=> []) (λm=> [mq (.int .i64) m (jP (C.pg i).old),ag y.pb 227 ((y.pl.set i ⟨C.pg i,some gb,some tb,some m⟩).flatMap dU),own z.a z.c 3 1 (aE (C.rw c).free),ag gb 149 (aV (C.pg i).bb),ag tb 4 (tK (C.pg i).tk),ag y.rb 196 (y.rl.flatMap eH),ag b 179 (cP C y),oq C y,ag y.a 249 (iI y.ab C.aj (C.n*C.aj)),ag y.ab 5 (dY C.A (C.n*C.aj)),aF ((y.pl.eraseIdx i).map lF),aF ((y.rl.eraseIdx c).map kP)]) ?_ ?_
 ·rcases hob:x.ob with _|m
  ·rw[hob]at p6
   have hold:(C.pg i).old= []:=by rw[<-x2];exact X.o hob
   have e6:∀m:Nat,(y.pl.flatMap dU).set (i*7+6) (.map (some m))=(y.pl.set i ⟨C.pg i,some gb,some tb,some m⟩).flatMap dU:=λm=>cb (j:=6) bT x1 (by unfold dU;rw[x2,uW,uV];rfl) (by decide);generalize BN:y.pl.flatMap dU=c1 at*;refine ba ?_;refine Li ((MqO T.Cj)) ?_;refine aY ?_;refine Lp (oQm (.int .i64) λm1=> ?_);refine bj ?_;refine aB ?_;rw[e6 m1,hold];refine Me (m1) (trivial)
  rw[hob]at p6;have e6:y.pl.flatMap dU=(y.pl.set i ⟨C.pg i,some gb,some tb,some m⟩).flatMap dU:=by
   rw[gw (x:=(⟨C.pg i,some gb,some tb,some m⟩:wj))];rw[x1]
   congr 1
   cases x
   simp_all
  refine ba ?_;refine Li ((MqO T.Cj)) ?_;refine bj ?_;rw[e6];refine Me (m) (trivial)
 rintro m hI;have n3:((y.pl.set i ⟨C.pg i,some gb,some tb,some m⟩).flatMap dU)[i*7+3]?=some (.slice (some ⟨gb,0,none⟩) (C.pg i).bb.length (C.pg i).bb.length):=bq bT (j:=3) (aa4 ip) rfl;have n2:((y.pl.set i ⟨C.pg i,some gb,some tb,some m⟩).flatMap dU)[i*7+2]?=some (DE DD c):=by
  have:=bq bT (l:=y.pl.set i ⟨C.pg i,some gb,some tb,some m⟩) (i:=i) (j:=2) (aa4 ip) rfl;rw[hc]at this;exact this
 have n6:((y.pl.set i ⟨C.pg i,some gb,some tb,some m⟩).flatMap dU)[i*7+6]?=some (.map (some m)):=bq bT (j:=6) (aa4 ip) rfl;have e14:dq ((y.pl.set i ⟨C.pg i,some gb,some tb,some m⟩).flatMap dU) (i*7) [.bool false, .bool false,DE DD 0, .slice none 0 0, .slice none 0 0,DE DD 0, .map (some m)]=(y.pl.set i ⟨{Pg.no with old:=C.sL (C.pg i)},none,none,some m⟩).flatMap dU:=by
  have:=UD (f:=dU) (l:=y.pl.set i ⟨C.pg i,some gb,some tb,some m⟩) (i:=i) (a':=(⟨{Pg.no with old:=C.sL (C.pg i)},none,none,some m⟩:wj)) bT (aa4 ip);rw[ade]at this;exact this
 have hp8:i*7+7<=((y.pl.set i ⟨C.pg i,some gb,some tb,some m⟩).flatMap dU).length:=by rw[eU bT,aa8];omega
 have e13:(y.rl.flatMap eH).set (c*4+2) (DE DD ((C.rw c).pgs-1))=(y.rl.set c ⟨{C.rw c with pgs:=(C.rw c).pgs-1},z.a,z.c⟩).flatMap eH:=cb (j:=2) cF z1 (by unfold eH;rw[z2,show((C.rw c).pgs-1:Int)=(((C.rw c).pgs-1:Nat):Int) by omega];rfl) (by decide);generalize BN:(y.pl.set i ⟨C.pg i,some gb,some tb,some m⟩).flatMap dU=c1 at*;generalize hc3:y.rl.flatMap eH=c3 at*;refine bD ?_;refine Lo (ι:=Nat) (FZ [6,2,39,23]) (λk=>k<=(C.pg i).bb.length) (λk=> [(39,DE DD k)]) (λk=> [mq (.int .i64) m (jP ((acA k).foldl (λl k=>sJ l (k*C.sz c) ((C.pg i).bb.getD k 0)) (C.pg i).old)),ag y.pb 227 c1,own z.a z.c 3 1 (aE (C.rw c).free),ag gb 149 (aV (C.pg i).bb),ag tb 4 (tK (C.pg i).tk),ag y.rb 196 c3,ag b 179 (cP C y),oq C y,ag y.a 249 (iI y.ab C.aj (C.n*C.aj)),ag y.ab 5 (dY C.A (C.n*C.aj)),aF ((y.pl.eraseIdx i).map lF),aF ((y.rl.eraseIdx c).map kP)]) (λk=>(C.pg i).bb.length-k) (0) (by simp) ?_;rintro k hI;refine bj ?_;refine av ?_;refine aA rfl ?_ ?_
 ·intro hk
  replace hk:=aG hk;have qh:k<(C.pg i).bb.length:=by omega
  have kg:(aV (C.pg i).bb)[k]?=some (DE amo ((C.pg i).bb.getD k 0:Nat)):=oK (by rw[aaZ,aa0 qh];rfl);have hkz:k*C.sz c<=1048576*1048576:=ac8 (by omega) (by omega);refine bO ?_;refine gT false mix ?_;refine fu ?_;refine Tp (oL bz ?_ (hk:=Q0 ig (by repeat (first|exact fO.here|apply fO.there))));refine Ti (MuN) ?_;refine aw ?_;refine Tp (oQi T.Cj ?_);refine bA ?_;refine aB ?_;rw[Zy,show sJ ((acA k).foldl (λl k=>sJ l (k*C.sz c) ((C.pg i).bb.getD k 0)) (C.pg i).old) (k*C.sz c) ((C.pg i).bb.getD k 0)=(acA (k+1)).foldl (λl k=>sJ l (k*C.sz c) ((C.pg i).bb.getD k 0)) (C.pg i).old by rw[aim,List.foldl_append];rfl];refine Ro (k+1) (by omega) (by omega)
 intro hk;replace hk:=aG hk;obtain rfl:k=(C.pg i).bb.length:=by omega
 have hop:(acA (C.pg i).bb.length).foldl (λl k=>sJ l (k*C.sz c) ((C.pg i).bb.getD k 0)) (C.pg i).old=C.sL (C.pg i):=by unfold sL;rw[hc]
 rw[hop];have XQ:(cP C y)[0+10]?=some (.slice (some ⟨y.rb,0,none⟩) C.ae.length C.ae.length):=rfl;have Qv:(cP C y)[0+11]?=some (DE DD C.spare):=rfl;have vd:0+11<(cP C y).length:=by unfold cP;simp
 obtain⟨y2,zV⟩:∃y2:Lc,y2={y with pl:=y.pl.set i ⟨{Pg.no with old:=C.sL (C.pg i)},none,none,some m⟩,rl:=y.rl.set c ⟨{C.rw c with pgs:=(C.rw c).pgs-1},z.a,z.c⟩}:=⟨_,rfl⟩;have D4:(cP C y).set (0+11) (DE DD ((C.spare:Int)+1))=cP (C.bw i) y2:=by rw[zV];rfl
 have hlc:gS (C.bw i) y2:=by
  rw[zV];refine⟨by rw[adf,hy.pl];rfl, ?_,λu hu=> ?_,hy.aj,hy.pgs⟩
  ·rw[adf,hy.rl];unfold bw put;rw[hc]
  rcases ada hu with h|rfl
  ·exact hy.pk u h
  exact⟨rfl,rfl,λh=>(by cases h)⟩
 generalize hsc:cP C y=sc at*;refine ba ?_;refine av ?_;refine gT false mix ?_;refine pX ?_;refine av ?_;rw[e13];refine cY ?_;refine Lp (oSN ahg ?_ (vs:= [.bool false, .bool false,DE DD 0, .slice none 0 0, .slice none 0 0,DE DD 0, .map (some m)]) (hi:=hp8));rw[e14];refine kT ?_;rw[D4];refine ay (λ_ s=>gB (A:=Ai) (λ_=>trivial) (gB (A:=Ai) (λ_=>trivial) s)) ?_;refine Hh (H':= [Ai,Ai,mq (.int .i64) m (jP (C.sL (C.pg i))),aF ((y.pl.eraseIdx i).map lF),own z.a z.c 3 1 (aE (C.rw c).free),aF ((y.rl.eraseIdx c).map kP),ag b 179 (cP (C.bw i) y2),oq C y,ag y.pb 227 ((y.pl.set i ⟨{Pg.no with old:=C.sL (C.pg i)},none,none,some m⟩).flatMap dU),ag y.rb 196 ((y.rl.set c ⟨{C.rw c with pgs:=(C.rw c).pgs-1},z.a,z.c⟩).flatMap eH),ag y.a 249 (iI y.ab C.aj (C.n*C.aj)),ag y.ab 5 (dY C.A (C.n*C.aj))]) ?_;refine ay (λ_ s=>eC (L:= [_,_,_]) s) ?_;change G _ _ _ _ _ (lF ⟨{Pg.no with old:=C.sL (C.pg i)},none,none,some m⟩::_);refine ay (λ_ s=>vD (f:=lF) x1 _ s) ?_;refine Hh (H':= [own z.a z.c 3 1 (aE (C.rw c).free),aF ((y.rl.eraseIdx c).map kP),aF ((y.pl.set i ⟨{Pg.no with old:=C.sL (C.pg i)},none,none,some m⟩).map lF),ag b 179 (cP (C.bw i) y2),oq C y,ag y.pb 227 ((y.pl.set i ⟨{Pg.no with old:=C.sL (C.pg i)},none,none,some m⟩).flatMap dU),ag y.rb 196 ((y.rl.set c ⟨{C.rw c with pgs:=(C.rw c).pgs-1},z.a,z.c⟩).flatMap eH),ag y.a 249 (iI y.ab C.aj (C.n*C.aj)),ag y.ab 5 (dY C.A (C.n*C.aj))]) ?_;change G _ _ _ _ _ (kP ⟨{C.rw c with pgs:=(C.rw c).pgs-1},z.a,z.c⟩::_);refine ay (λ_ s=>vD (f:=kP) z1 _ s) ?_;refine ay (H':=mU b (C.bw i) y2) (by rw[zV];exact Eh) ?_;refine ay (H':= [Cl b (C.bw i)]) (λ_ s=>qU (H:= []) hlc s) ?_;refine Rt [Cl b (C.bw i)] results203 ?_;exact⟨rfl,rfl⟩
end Go.Proofs.YtcbcjolpdljbiaaGreat
