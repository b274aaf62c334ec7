/- Part Pe of the proof. -/
import Derived.Test.YtcbcjolpdljbiaaGreatPd
set_option maxRecDepth 100000
open Go.Proofs.YtcbcjolpdljbiaaGreat.T
open List renaming range -> abM, range_succ -> ag3, map_congr_left -> acA, mem_range -> ab0, getD_eq_getElem?_getD -> aab, getElem?_eq_getElem -> aac, ext_getElem -> ajR, getElem_map -> agS, getElem_range -> agT, foldl_cons -> agn, length_cons -> abU, map_drop -> akO, map_take -> akP, map_append -> af1, length_map -> abI, length_range -> ag0, getElem_append_left -> ag1, getElem_append_right -> aj3, length_take -> agU, length_append -> aby, length_singleton -> agm, getElem_mem -> abC, getElem?_map -> abD, take_of_length_le -> akb, eq_nil_of_length_eq_zero -> abO, append_assoc -> af9, replicate -> aae, length_replicate -> aga, mem_of_getElem? -> aaf, map_cons -> aaj, sum_cons -> abJ, findIdx?_eq_some_iff_getElem -> abK, getElem?_eq_some_iff -> aad, findIdx?_eq_none_iff -> ago, getElem?_of_mem -> agA, getElem?_cons_zero -> ajG, getElem?_cons_succ -> agF, getElem?_set_self -> aah, getElem?_set_ne -> abX, mem_or_eq_of_mem_set -> af5, dropLast_concat_getLast -> ajW, getLast?_eq_some_getLast -> agk, nodup_append -> af4, mem_append -> agb, mem_singleton -> abR, length_set -> aak, mem_map -> abF, mem_filter -> abG, mem_reverse -> agH, Pairwise -> agG, map_map -> agN, mem_cons_of_mem -> aai, mem_cons_self -> aag, append_nil -> abT, set_set -> af6, map_set -> af7, find?_cons -> akh, getElem?_eq_none -> aal, filter_append -> agQ
open UInt8 renaming ofNat -> abP
open Nat renaming pow_succ -> agu, zero_mul -> akR, zero_add -> abH, add_mul -> agr, mul_assoc -> akS, mul_comm -> agc, mul_le_mul_right -> abW, div_add_mod -> agM, div_mul_le_self -> ajL, one_mul -> agw, mul_left_comm -> aky, mul_le_mul -> af8, lt_trichotomy -> akz, mul_add_div -> akK, div_eq_of_lt -> akE, mul_add_mod -> akL, mod_eq_of_lt -> abZ, mul_div_cancel -> aks, mul_mod_left -> akF, add_sub_cancel_left -> aka, le_self_pow -> aj0, pow_le_pow_right -> agf, lt_of_lt_of_le -> agj, le_refl -> aam, lt_of_le_of_lt -> agq, div_le_self -> agh, div_div_eq_div_mul -> ahe, min_self -> akV, mod_lt -> ag6, zero_le -> abL, not_lt_zero -> agZ, mul_one -> ajM, sub_zero -> ajO
open Int renaming fdiv_eq_ediv_of_nonneg -> af2
open Decidable renaming byContradiction -> abz
open Go.Proofs.Tryz renaming prog -> aaa
open Go.Proofs.Tryz
open Go.Value renaming int -> Dm
open Go.IntKind renaming i64 -> Dl, u64 -> Dj, u8 -> ala, u32 -> alb
namespace Go.Proofs.YtcbcjolpdljbiaaGreat
open Go Go.dC
abbrev Nm:=FI
def cM (z:Int):Int:=IntKind.i64.wrap z
structure It where
 key:Nm
 val:Nm
 fl:Nat
 exp:Nat
 tok:Nat
 tch:Nat
 cl:Nat
 st:Nat
 act:Bool
 stale:Bool
 won:Bool
 lq:Bool
 ord:Nat
 WV:Nat
structure ra where
 ao:Int
 bA:Int
 iG:Int
 eI:Int
 lim:Int
 hot:Int
 warm:Int
structure pD where
 b:Int
 l:Int
 c:Int
 m:Int
structure Mt where
 dr:Int
 re:Int
 bu:Int
 li:Int
 lo:Int
 cr:Int
 mv:Int
def Mt.zero:Mt:=⟨0,0,0,0,0,0,0⟩
structure Ms where
 c:ra
 p:pD
 ae:FH
 DA:FH
 most:Nat
 all:List It
 owner:List FK
 rows:F7
 now:Nat
 Hg:Nat
 cut:Nat
 kJ:Nat
 G8:Nat
 bk:Nat
 BW:Nat
 ccl:Nat
 ckd:Nat
 place:Option Nm
 left:Int
 inn:Bool
 since:List FK
 going:FK
 mt:Mt
 jZ:FH
namespace Ms
def wide:Nat:=1048576
def len (s:Ms):Nat:=s.all.length
def stt (s:Ms)(x:It):Nat:=if 0<x.exp/\x.exp<=s.now then 2 else if x.tok<=s.cut then 3 else 0
def find (s:Ms)(k:Nm):Option It:=s.all.find? λx=>decide (x.key=k)
def qu (s:Ms)(c st:Nat):List It:=s.all.filter λx=>decide (x.cl=c)&&decide (x.st=st)
def drop (s:Ms)(k:Nm):Ms:={s with all:=s.all.filter λx=>decide (x.key≠k)}
def iE (s:Ms)(k:Nm)(f:It->It):Ms:={s with all:=s.all.map λx=>if x.key=k then f x else x}
def SX:List It->Nm->Option Nm
 |a::b::r,k=>if b.key=k then some a.key else SX (b::r) k
 |_,_=>none
def ahead (s:Ms)(x:It):Option Nm:=SX (s.qu x.cl x.st) x.key
def gone (s:Ms)(x:It):Ms:=if s.place=some x.key then{s with place:=s.ahead x,left:=s.left-1}else s
def grow (s:Ms):Ms:=if s.BW=0/\3*s.bk<2*s.len/\s.bk<s.most then{s with BW:=s.bk,bk:=2*s.bk}else s
def shrink (s:Ms):Ms:=if s.BW=0/\16<s.bk/\8*s.len<s.bk then{s with BW:=s.bk,bk:=s.bk/2}else s
def aiH (s:Ms)(c:Nat):Nat:=s.DA.getD c 0
def rowOf (s:Ms)(c:Nat):FH:=s.rows.getD c []
def lies (s:Ms)(chunk:Nat):Bool:=s.all.any λx=>decide (x.WV=chunk)
def ahM (s:Ms)(c chunk:Nat):Ms:=if s.going=some (chunk/wide)then s else{s with rows:=s.rows.set c (s.rowOf c++ [chunk])}
def bw (s:Ms)(x:It):Ms:=(((s.gone x).drop x.key).shrink).ahM x.cl x.WV
def count (s:Ms)(o:FK):Nat:=(s.owner.filter λx=>decide (x=o)).length
def fill (s:Ms)(gW c:Nat):Ms:=
 {s with rows:=s.rows.set c (s.rowOf c++(((abM (s.aiH c)).reverse.map λk=>gW*wide+k).filter λch=> !s.lies ch))}
def Fb:List FK->FK
 | []=>none
 |none::_=>some 0
 |some _::r=>(Fb r).map (· +1)
def Q7 (s:Ms)(c:Nat):Option (Nat×Ms):=
 match(s.rowOf c).getLast? with
 |none=>none
 |some ch=>some (ch,{s with rows:=s.rows.set c (s.rowOf c).dropLast})
def take (s:Ms)(c:Nat):Option (Nat×Ms):=
 if(s.rowOf c)= []then
  match Fb s.owner with
  |none=>none
  |some gW=>({s with owner:=s.owner.set gW (some c)}.fill gW c).Q7 c
 else s.Q7 c
def held (s:Ms)(gW:Nat):Nat:=(s.all.filter λx=>decide (x.WV/wide=gW)).length
def aaC (s:Ms)(gW:Nat):FK:=s.owner.getD gW none
def row5 (s:Ms)(c:Nat)(own:Option Nm):List It:=(((s.qu c 3).reverse++(s.qu c 2).reverse++(s.qu c 1).reverse).filter λx=>decide (some x.key≠own)).take 5
def pick (s:Ms)(c:Nat)(own:Option Nm):Option It×Bool×Nat:=
 let r:=s.row5 c own
 match r.findIdx? λx=>decide (s.stt x≠0)with
 |some i=>(r[i]?,true,i+1)
 |none=>match r.find? λx=> !x.act with
  |some x=>(some x,false,r.length)
  |none=>(r.head?,false,r.length)
def stay (s:Ms):Ms:=match s.going with
 |none=>s
 |some gW=>{s with going:=none}.fill gW ((s.aaC gW).getD 0)
def jr (s:Ms)(c:Nat):Ms:={s with since:=s.since.set c (some 0)}
def room (s:Ms)(c:Nat)(own:Option Nm):FK×Ms:=
 match s.take c with
 |some (ch,s)=>(some ch,s)
 |none=>
  let go (s:Ms):FK×Ms:=
   let (v,dead,n):=s.pick c own
   let s:={s with mt:={s.mt with lo:=cM (s.mt.lo+n)}}
   match v with
   |none=>(none,s.jr c)
   |some x=>
    let s:=if dead then{s with mt:={s.mt with re:=cM (s.mt.re+1)}}else{s with mt:={s.mt with dr:=cM (s.mt.dr+1)}}.jr c
    match(s.bw x).take c with
    |some (ch,s)=>(some ch,s)
    |none=>(none,s.bw x)
  if s.going.bind s.aaC=some c/\s.going≠none then
   match s.stay.take c with
   |some (ch,s)=>(some ch,s)
   |none=>go s.stay
  else go s
def cD (s:Ms)(c:Nat):Bool:=match s.since.getD c none with
 |none=>false
 |some n=>decide (n<64)
def aiN (s:Ms)(gW c:Nat):Bool:=
 let own:=((s.rowOf c).filter λch=>decide (ch/wide=gW)).length
 decide (1<s.count (some c))&&decide (s.held gW+own<=(s.rowOf c).length)
def better (s:Ms)(f gW b D0:Nat):Bool:=
 if f≠b then decide ((s.rowOf b).length<(s.rowOf f).length\/(s.rowOf f).length=(s.rowOf b).length/\f<b)
 else decide (s.held gW<s.held D0)
def ma (s:Ms)(t:Nat):List FK->Nat->Option (Nat×Nat)->Option (Nat×Nat)
 | [],_,D0=>D0
 |none::r,gW,D0=>ma s t r (gW+1) D0
 |some f::r,gW,D0=>
  if f=t\/s.cD f=true\/s.aiN gW f=false then ma s t r (gW+1) D0
  else match D0 with
   |none=>ma s t r (gW+1) (some (gW,f))
   |some (q,b)=>ma s t r (gW+1) (if s.better f gW b q then some (gW,f)else some (q,b))
def afy (s:Ms)(t:Nat):Option (Nat×Nat):=ma s t s.owner 0 none
def afI (s:Ms):Ms:=
 match(abM s.ae.length).find? λt=>s.cD t with
 |none=>s
 |some t=>
  if 0<s.count none then s
  else match s.afy t with
   |none=>s
   |some (gW,c)=>{s with rows:=s.rows.set c ((s.rowOf c).filter λch=>decide (ch/wide≠gW)),going:=some gW}
def Zn (s:Ms)(gW:Nat):Option It:=
 (s.all.filter λx=>decide (x.WV/wide=gW)).foldl (λb x=>match b with
  |none=>some x
  |some y=>if x.WV<y.WV then some x else some y) none
def Hb:Nat->Ms->Nat->Ms×Nat
 |0,s,done=>(s,done)
 |n+1,s,done=>
  match s.going with
  |none=>(s,done)
  |some gW=>
   match s.Zn gW with
   |none=>({s with owner:=s.owner.set gW none,going:=none},done)
   |some x=>
    if s.stt x≠0 then Hb n (s.bw x) (done+1)
    else match s.take x.cl with
     |none=>(s.stay,done)
     |some (ch,s)=>Hb n (s.iE x.key λy=>{y with WV:=ch}) (done+1)
def move (s:Ms)(most:Nat):Ms×Nat:=
 if most=0 then(s,0)
 else
  let s:={s with since:=s.since.map λo=>o.map λn=>if n<64 then n+1 else n}
  if s.going=none then(s.afI,0)else Hb most s 0
def time (s:Ms)(x:It)(e:Nat):Ms×It:=if 0<e then({s with G8:=s.G8+1},{x with exp:=e,ord:=s.G8+1})else(s,{x with exp:=e,ord:=0})
def lay (s:Ms)(x:It)(old:Option It)(c chunk:Nat):Ms:=
 let s:={s with Hg:=s.Hg+1}
 let (s,x):=s.time {x with tok:=s.Hg,cl:=c,WV:=chunk,tch:=s.now,st:=1,act:=false} x.exp
 match old with
 |some o=>let s:=((s.gone o).drop o.key);{s.ahM o.cl o.WV with all:=x::s.all}
 |none=>{s with all:=x::s.all}.grow
def meet (s:Ms)(k:Nm):Option It×Ms:=
 match s.find k with
 |none=>(none,{s with jZ:=s.jZ++ [1]})
 |some x=>
  let w:=s.stt x
  let s:={s with jZ:=s.jZ++ [w]}
  if w≠0 then(none,s.bw x)else(some x,s)
end Ms
open Go Go.dC
abbrev By:=Nat->UInt8
def jS (A:By)(p n:Nat):FI:=(abM n).map λi=>A (p+i)
def lay (A:By)(p:Nat)(l:FI):By:=λj=>if p<=j/\j<p+l.length then l.getD (j-p) 0 else A j
def dK (A:By)(n:Nat):FJ:=aj (jS A 0 n)
def be:Nat->Nat->FI
 |0,_=> []
 |w+1,v=>abP (v/256^w)::be w v
def nat (l:FI):Nat:=l.foldl (λn c=>n*256+c.toNat) 0
def rd (A:By)(p w:Nat):Nat:=nat (jS A p w)
def wr (A:By)(p w v:Nat):By:=lay A p (be w v)
theorem cE (A:By)(p n:Nat):(jS A p n).length=n:=by simp[jS]
theorem X9 (A:By)(p n i:Nat)(h:i<n):(jS A p n)[i]?=some (A (p+i)):=by simp[jS,h]
theorem T6 (A:By)(p:Nat):jS A p 0= []:=rfl
theorem T7 (A:By)(p n:Nat):jS A p (n+1)=jS A p n++ [A (p+n)]:=by simp[jS,ag3]
theorem ve{A B:By}{p n:Nat}(h:∀j,p<=j->j<p+n->A j=B j):jS A p n=jS B p n:=by
 unfold jS;apply acA;intro i hi;have:=ab0.1 hi;exact h _ (by omega) (by omega)
theorem Rr (A:By)(p:Nat)(l:FI)(i:Nat)(h:i<l.length):lay A p l (p+i)=l[i]:=by
 unfold lay;rw[if_pos (by omega),show p+i-p=i by omega,aab,aac h];rfl
theorem gy (A:By)(p:Nat)(l:FI)(j:Nat)(h:j<p\/p+l.length<=j):lay A p l j=A j:=by
 unfold lay;rw[if_neg (by omega)]
theorem k8 (A:By)(p:Nat)(l:FI):jS (lay A p l) p l.length=l:=by
 apply ajR (by simp[jS]);intro i h1 h2;simp only[jS,agS,agT];exact Rr A p l i h2
theorem fW (A:By)(p:Nat)(l:FI)(q n:Nat)(h:q+n<=p\/p+l.length<=q):jS (lay A p l) q n=jS A q n:=
 ve λj h1 h2=>gy A p l j (by omega)
theorem eX (A:By)(p:Nat)(l:FI)(q n:Nat)(h:q+n<=p\/p+l.length<=q):rd (lay A p l) q n=rd A q n:=by
 unfold rd;rw[fW A p l q n h]
theorem mH:∀w v,(be w v).length=w
 |0,_=>rfl
 |w+1,v=>by simp[be,mH w]
theorem Ut (l:FI)(c:UInt8):nat (l++ [c])=nat l*256+c.toNat:=by simp[nat]
theorem CT:∀(l:FI) (n:Nat),l.foldl (λn c=>n*256+c.toNat) n=n*256^l.length+nat l
 | [],n=>by simp[nat]
 |c::l,n=>by
  have h1:=CT l (n*256+c.toNat);have h2:=CT l (0*256+c.toNat);unfold nat at*;rw[agn,agn,h1,h2,abU,agu,akR,abH,agr,akS,agc 256,Nat.add_assoc]
theorem Uu (c:UInt8)(l:FI):nat (c::l)=c.toNat*256^l.length+nat l:=by
 conv=>lhs;unfold nat
 rw[agn,CT,akR,abH]
theorem Rg:∀w v,nat (be w v)=v % 256^w
 |0,v=>by simp[be,nat,Nat.mod_one]
 |w+1,v=>by
  rw[be,Uu,Rg w,mH];have:(abP (v/256^w)).toNat=v/256^w % 256:=by simp
  rw[this,agu,Nat.mod_mul,agc (256^w)];omega
theorem J2:∀(l:FI) (n:Nat),l.foldl (λn c=>n*256+c.toNat) n<(n+1)*256^l.length
 | [],n=>by simp
 |c::l,n=>by
  rw[agn];have h1:=J2 l (n*256+c.toNat);have h2:=c.toNat_lt;have h3:(n*256+c.toNat+1)*256^l.length<=((n+1)*256)*256^l.length:=abW _ (by omega);rw[abU,agu,agc (256^l.length) 256,<-akS];omega
theorem adQ (l:FI):nat l<256^l.length:=by
 have:=J2 l 0;simpa[nat]using this
theorem dz (A:By)(p w v:Nat):rd (wr A p w v) p w=v % 256^w:=by
 unfold rd wr;have:=k8 A p (be w v);rw[mH]at this;rw[this,Rg]
theorem aM (A:By)(p w v q n:Nat)(h:q+n<=p\/p+w<=q):rd (wr A p w v) q n=rd A q n:=eX A p _ q n (by rw[mH];exact h)
theorem so (A:By)(p w v q n:Nat)(h:q+n<=p\/p+w<=q):jS (wr A p w v) q n=jS A q n:=fW A p _ q n (by rw[mH];exact h)
theorem kh (A:By)(p w:Nat):rd A p w<256^w:=by
 have:=adQ (jS A p w)
 rwa[cE]at this
theorem oD (A:By)(n:Nat):(dK A n).length=n:=by simp[dK,aj,jS]
theorem VZ (A:By)(n p m:Nat)(h:p+m<=n):((dK A n).drop p).take m=aj (jS A p m):=by
 unfold dK aj;rw[<-akO,<-akP]
 congr 1
 apply ajR (by simp[jS];omega);intro i h1 h2;simp[jS]
theorem KR (A:By)(n p:Nat)(l:FI)(h:p+l.length<=n):(dK A n).take p++aj l++(dK A n).drop (p+l.length)=dK (lay A p l) n:=by
 unfold dK aj;rw[<-akP,<-akO,<-af1,<-af1]
 congr 1
 apply ajR (by simp[jS];omega);intro i h1 h2;simp only[jS,abI,ag0]at h2;by_cases a1:i<p
 ·rw[ag1 (by simp[jS];omega),ag1 (by simp[jS];omega)]
  simp only[jS,List.getElem_take,agS,agT,abH];rw[gy A p l i (.inl a1)]
 by_cases a2:i<p+l.length
 ·rw[ag1 (by simp[jS];omega),aj3 (by simp[jS];omega)]
  simp only[jS,agU,abI,ag0,agS,agT,abH];have e:i=p+(i-p):=by omega
  conv=>rhs;rw[e]
  rw[Rr A p l (i-p) (by omega)]
  congr 1
  omega
 rw[aj3 (by simp[jS];omega)];simp only[jS,List.getElem_drop,agS,agT,abH,aby,agU,abI,ag0];rw[gy A p l i (.inr (by omega))]
 congr 1
 omega
theorem xm (A:By)(n p:Nat)(c:UInt8)(h:p<n):(dK A n).set p (Dm ala c.toNat)=dK (lay A p [c]) n:=by
 rw[<-KR A n p [c] (by simp;omega),List.set_eq_take_append_cons_drop,if_pos (by rw[oD];exact h)];simp[aj]
theorem YY (A:By)(p:Nat)(l m:FI):lay (lay A p l) (p+l.length) m=lay A p (l++m):=by
 funext j
 unfold lay;rw[aby];by_cases h1:p+l.length<=j/\j<p+l.length+m.length
 ·rw[if_pos h1,if_pos (by omega),aab,aab,List.getElem?_append_right (by omega)]
  congr 2;omega
 rw[if_neg h1];by_cases h2:p<=j/\j<p+l.length
 ·rw[if_pos h2,if_pos (by omega),aab,aab,List.getElem?_append_left (by omega)]
 rw[if_neg h2,if_neg (by omega)]
theorem tB (A:By)(p:Nat):lay A p []=A:=by
 funext j;unfold lay;rw[if_neg (by simp)]
theorem vk (A:By)(p:Nat)(c:UInt8)(m:FI):lay (lay A (p+1) m) p [c]=lay A p (c::m):=by
 funext j
 unfold lay;by_cases h1:p<=j/\j<p+ [c].length
 ·have:j=p:=by simp at h1;omega
  subst this;rw[if_pos h1,if_pos (by simp)];simp
 rw[if_neg h1];simp only[agm]at h1;by_cases h2:p+1<=j/\j<p+1+m.length
 ·rw[if_pos h2,if_pos (by simp;omega)]
  rw[show j-p=(j-(p+1))+1 by omega];simp
 rw[if_neg h2,if_neg (by simp;omega)]
structure Pg where
 own:Bool
 lv:Bool
 cl:Nat
 aX:FH
 tk:List Bool
 held:Nat
 old:List (Nat×Nat)
def Pg.no:Pg:=⟨false,false,0,[],[],0,[]⟩
structure Rw where
 free:FH
 ct:Nat
 bA:Nat
 ig:Nat
structure Cs where
 cfg:ra
 ao:Nat
 n:Nat
 ae:FH
 bm:List Pg
 rows:List Rw
 spare:Nat
 A:By
namespace Cs
def pg (C:Cs)(i:Nat):Pg:=C.bm.getD i .no
def rw(C:Cs)(c:Nat):Rw:=C.rows.getD c ⟨[],0,0,0⟩
def sz (C:Cs)(c:Nat):Nat:=C.ae.getD c 0
def pn (C:Cs)(p:Nat):Nat:=p/C.ao
def cl (C:Cs)(p:Nat):Nat:=(C.pg (C.pn p)).cl
def ix (C:Cs)(p:Nat):Nat:=p % C.ao/C.sz (C.cl p)
def gen (C:Cs)(p:Nat):Nat:=(C.pg (C.pn p)).aX.getD (C.ix p) 0
def hd (C:Cs)(p:Nat):Nat:=C.gen p*4294967296+(p/8+1)
structure At (C:Cs)(p:Nat):Prop where
 i:C.pn p<C.n
 own:(C.pg (C.pn p)).own=true
 al:p % C.ao % C.sz (C.cl p)=0
 k:C.ix p<(C.pg (C.pn p)).aX.length
structure Live (C:Cs)(p:Nat):Prop extends At C p where
 tk:(C.pg (C.pn p)).tk[C.ix p]?=some true
structure Fix (C:Cs):Prop where
 p0:4096<=C.ao
 p1:C.ao<=1048576
 p8:C.ao % 8=0
 n0:1<=C.n
 n1:C.n<=1024
 l0:1<=C.ae.length
 l1:C.ae.length<=62
 s0:∀z∈C.ae,64<=z/\z<=C.ao/\z % 8=0
 pl:C.bm.length=C.n
 rl:C.rows.length=C.ae.length
def wR (C:Cs)(f:Pg->Nat):Nat:=(C.bm.map f).sum
def uC (c:Nat)(x:Pg):Nat:=if x.own=true/\x.cl=c then x.held else 0
def sJ (c:Nat)(x:Pg):Nat:=if x.own=true/\x.cl=c then 1 else 0
def xD (c:Nat)(x:Pg):Nat:=if x.own=true/\x.cl=c/\x.lv=false then 1 else 0
def wQ (x:Pg):Nat:=if x.own=true then 0 else 1
def bN (b:Bool):Nat:=if b=true then 1 else 0
structure kN (C:Cs)(x:Pg):Prop where
 cl:x.own=true->x.cl<C.ae.length
 gl:x.own=true->x.aX.length=C.ao/C.sz x.cl
 tl:x.tk.length=x.aX.length
 g32:∀g∈x.aX,g<4294967296
 Wy:∀g∈x.old,g.2<4294967296
 nd:(x.old.map (·.1)).Nodup
 held:x.held=(x.tk.map bN).sum
 no:x.own=false->x.aX= []/\x.lv=false/\x.cl=0
structure zO (C:Cs)(c p:Nat):Prop extends At C p where
 cl:C.cl p=c
 tk:(C.pg (C.pn p)).tk[C.ix p]?=some false
 lv:(C.pg (C.pn p)).lv=false
structure Ok (C:Cs):Prop extends Fix C where
 pg:∀x∈C.bm,kN C x
 fr:∀c p,p∈(C.rw c).free->zO C c p
 fn:∀c,(C.rw c).free.Nodup
 fa:∀c p,zO C c p->c<C.ae.length->p∈(C.rw c).free
 ft:∀c,c<C.ae.length->(C.rw c).ct=C.wR (uC c)
 fp:∀c,c<C.ae.length->(C.rw c).bA=C.wR (sJ c)
 fs:∀c,c<C.ae.length->(C.rw c).ig=C.wR (xD c)
 sp:C.spare=C.wR wQ
theorem Fix.pos{C:Cs}(F:Fix C):0<C.ao:=by have:=F.p0;omega
theorem Fix.sz{C:Cs}(F:Fix C){c:Nat}(h:c<C.ae.length):64<=C.sz c/\C.sz c<=C.ao/\C.sz c % 8=0:=by
 unfold Cs.sz;rw[aab,aac h];exact F.s0 _ (abC h)
theorem dh{C:Cs}{i:Nat}(h:i<C.bm.length):C.pg i∈C.bm:=by
 unfold Cs.pg;rw[aab,aac h];exact abC h
theorem ki{C:Cs}{i:Nat}(h:i<C.bm.length):C.bm[i]?=some (C.pg i):=by
 unfold Cs.pg;rw[aab,aac h];rfl
theorem aaw{C:Cs}{c:Nat}(h:c<C.rows.length):C.rows[c]?=some (C.rw c):=by
 unfold Cs.rw;rw[aab,aac h];rfl
theorem Ok.s9{C:Cs}(K:Ok C){p:Nat}(h:C.pn p<C.n):kN C (C.pg (C.pn p)):=K.pg _ (dh (by rw[K.pl];exact h))
theorem At.ba{C:Cs}(K:Ok C){p:Nat}(L:At C p):
  C.cl p<C.ae.length/\64<=C.sz (C.cl p)/\C.sz (C.cl p)<=C.ao/\C.sz (C.cl p) % 8=0/\p % 8=0/\p=C.pn p*C.ao+C.ix p*C.sz (C.cl p)/\C.ix p*C.sz (C.cl p)+C.sz (C.cl p)<=C.ao/\p+C.sz (C.cl p)<=C.n*C.ao:=by
 have P:=K.s9 L.i;have hc:C.cl p<C.ae.length:=P.cl L.own;obtain⟨h1,h2,h3⟩:=K.toFix.sz hc;have hg:=P.gl L.own;have hk:=L.k;have LB:=K.toFix.pos;have Pu:=L.al;have e1:p=C.pn p*C.ao+p % C.ao:=by
  have:=agM p C.ao;unfold Cs.pn;rw[agc]at this;omega
 have e2:p % C.ao=C.ix p*C.sz (C.cl p):=by
  have:=agM (p % C.ao) (C.sz (C.cl p));unfold Cs.ix;rw[agc]at this;omega
 have e3:C.ix p*C.sz (C.cl p)+C.sz (C.cl p)<=C.ao:=by
  have:C.ix p+1<=C.ao/C.sz (C.cl p):=by
   have:(C.pg (C.pn p)).aX.length=C.ao/C.sz (C.cl p):=hg;omega
  have h4:=abW (C.sz (C.cl p)) this;have h5:=ajL C.ao (C.sz (C.cl p));rw[agr,agw]at h4;omega
 have e4:p+C.sz (C.cl p)<=C.n*C.ao:=by
  have hi:=L.i;have:=abW C.ao (show C.pn p+1<=C.n from hi);rw[agr,agw]at this;omega
 have e5:p % 8=0:=by
  have h8:=K.p8;obtain⟨a,ha⟩:∃a,C.ao=8*a:=⟨C.ao/8,by omega⟩;obtain⟨b,hb⟩:∃b,C.sz (C.cl p)=8*b:=⟨C.sz (C.cl p)/8,by omega⟩;rw[e2]at e1;rw[ha,hb]at e1;have:p=8*(C.pn p*a+C.ix p*b):=by
   rw[Nat.mul_add];have x1:C.pn p*(8*a)=8*(C.pn p*a):=by rw[aky]
   have x2:C.ix p*(8*b)=8*(C.ix p*b):=by rw[aky]
   omega
  omega
 exact⟨hc,h1,h2,h3,e5,by omega,e3,e4⟩
theorem fU{C:Cs}(F:Fix C):C.n*C.ao<=1073741824:=by
 have h1:=F.n1;have h2:=F.p1
 calc C.n*C.ao<=1024*1048576:=af8 h1 h2
  _=1073741824:=by decide
theorem Live.ya{C:Cs}(K:Ok C){p:Nat}(L:At C p):C.gen p<4294967296:=by
 have P:=K.s9 L.i;refine P.g32 _ ?_;unfold Cs.gen;rw[aab,aac L.k];exact abC _
theorem bM{C:Cs}(K:Ok C){p:Nat}(L:At C p):C.hd p % 4294967296=p/8+1/\C.hd p/4294967296=C.gen p/\p/8*8=p/\p/8+1<=C.n*C.ao/8/\C.hd p<18446744073709551616/\C.hd p≠0:=by
 obtain⟨_,h2,_,_,h5,_,_,h8⟩:=L.ba K;have hg:=Live.ya K L;have hb:=fU K.toFix;unfold Cs.hd;have:p/8+1<4294967296:=by omega
 refine⟨by omega,by omega,by omega,by omega,by omega,by omega⟩
theorem je{C:Cs}(K:Ok C){p q:Nat}(L:At C p)(M:At C q)(h:C.hd p=C.hd q):p=q:=by
 obtain⟨a1,_,a3,_⟩:=bM K L;obtain⟨b1,_,b3,_⟩:=bM K M;rw[h]at a1;omega
theorem apart{C:Cs}(K:Ok C){p q:Nat}(L:At C p)(M:At C q)(h:p≠q):p+C.sz (C.cl p)<=q\/q+C.sz (C.cl q)<=p:=by
 obtain⟨_,_,_,_,_,a6,a7,_⟩:=L.ba K;obtain⟨_,_,_,_,_,b6,b7,_⟩:=M.ba K;rcases akz (C.pn p) (C.pn q)with h1|h1|h1
 ·have:=abW C.ao (show C.pn p+1<=C.pn q from h1)
  rw[agr,agw]at this;omega
 ·have hc:C.cl p=C.cl q:=by unfold Cs.cl;rw[h1]
  rw[hc]at a6 a7⊢;rw[h1]at a6;rcases akz (C.ix p) (C.ix q)with h2|h2|h2
  ·have:=abW (C.sz (C.cl q)) (show C.ix p+1<=C.ix q from h2)
   rw[agr,agw]at this;omega
  ·rw[h2]at a6;exact absurd (a6.trans b6.symm) h
  have:=abW (C.sz (C.cl q)) (show C.ix q+1<=C.ix p from h2);rw[agr,agw]at this;omega
 have:=abW C.ao (show C.pn q+1<=C.pn p from h1);rw[agr,agw]at this;omega
def mB (C:Cs)(i k:Nat):Nat:=i*C.ao+k*C.sz (C.pg i).cl
theorem iM{C:Cs}(K:Ok C){i k:Nat}(hi:i<C.n)(ho:(C.pg i).own=true)(hk:k<(C.pg i).aX.length):C.pn (C.mB i k)=i/\C.ix (C.mB i k)=k/\At C (C.mB i k):=by
 have P:kN C (C.pg i):=K.pg _ (dh (by rw[K.pl];exact hi));have hc:=P.cl ho;obtain⟨h1,h2,h3⟩:=K.toFix.sz hc;have hg:=P.gl ho;have LB:=K.toFix.pos;have e3:k*C.sz (C.pg i).cl+C.sz (C.pg i).cl<=C.ao:=by
  have:k+1<=C.ao/C.sz (C.pg i).cl:=by omega
  have h4:=abW (C.sz (C.pg i).cl) this;have h5:=ajL C.ao (C.sz (C.pg i).cl);rw[agr,agw]at h4;omega
 have a1:C.pn (C.mB i k)=i:=by
  unfold Cs.pn Cs.mB;rw[agc,akK LB,akE (by omega)];omega
 have a2:C.mB i k % C.ao=k*C.sz (C.pg i).cl:=by
  unfold Cs.mB;rw[agc,akL,abZ (by omega)]
 have a3:C.ix (C.mB i k)=k:=by
  unfold Cs.ix Cs.cl;rw[a1,a2,aks _ (by omega)]
 refine⟨a1,a3,⟨by rw[a1];exact hi,by rw[a1];exact ho, ?_,by rw[a3,a1];exact hk⟩⟩;unfold Cs.cl;rw[a1,a2,akF]
theorem G7{C:Cs}(K:Ok C){p:Nat}(L:At C p):C.mB (C.pn p) (C.ix p)=p:=by
 obtain⟨_,_,_,_,_,h6,_⟩:=L.ba K;unfold Cs.mB;exact h6.symm
end Cs
open Go Go.dC
theorem pw8 (m:Nat):(256^(m+1)-1)/256=256^m-1:=by
 have:0<256^m:=Nat.pow_pos (by decide);rw[agu];omega
theorem HQ (A:By)(n i:Nat)(h:i<n):(dK A n)[i]?=some (Dm ala ((A i).toNat)):=by
 unfold dK aj;rw[abD,X9 A 0 n i h,abH];rfl
theorem CI (A:By)(p w:Nat):rd A p (w+1)=rd A p w*256+(A (p+w)).toNat:=by
 unfold rd;rw[T7,Ut]
theorem aif{x:Nat}(h:x<256^1):IntKind.u8.wrap (x:Int)=(x:Int):=wrap_u8 (by rw[Nat.pow_one]at h;omega)
def iq (ab ao n:Nat):FJ:= [Dm Dl ao, .slice (some ⟨ab,0,none⟩) n n]
abbrev In (A:aa)(h:Hp):Prop:=∃k,A k/\Le k h
def Ll (ab p m:Nat):Addr:=⟨ab,if m=0 then 0 else p,none⟩
theorem jy (a ab ao n p m:Nat)(h0:0<ao)(h1:p+m<=n)(h2:n<=1073741824)(h3:p % ao+m<=ao)(h4:ao<=1048576):
  aG aaa 261 [Dk a,Dm Dl p,Dm Dl m] (In (ag a 249 (iq ab ao n))) []
   (λv H=>v= .tuple #[.slice (some (Ll ab p m)) m m, .bool true]/\H= []):=by
 have hc:BJ (some ⟨ab,0,none⟩) p (p+m) (p*1)=some (Ll ab p m):=by
  unfold BJ Ll;by_cases hm:m=0
  ·rw[if_pos (by omega),if_pos hm]
  rw[if_neg (by omega),if_neg hm,Option.map_some,add_lit];simp
 refine af func261 rfl ntmps261 rfl ?_;intro F h0';unfold iq at h0';refine bn ?_;refine av ?_;refine gT false mix ?_;refine bq ?_;refine zf 10 ?_;refine bc ?_;refine zf 14 ?_;refine cA ?_;refine zf 23 ?_;refine bP ?_;refine zf 34 ?_;refine bq ?_;by_cases hm:0<m
 ·refine zt 37 ?_
  refine bn ?_;refine Ti (Rm) ?_;refine bB ?_;refine cN ?_;refine fX ?_;refine Li (Sl p (p+m) (p+m) fS) ?_;rw[hc];refine bc ?_;refine jT [] results261 ?_;rw[aka];exact⟨rfl,rfl⟩
 refine zf 37 ?_;refine cK ?_;refine bP ?_;refine Li (Sl p (p+m) (p+m) fS) ?_;rw[hc];refine bc ?_;refine jT [] results261 ?_;rw[aka];exact⟨rfl,rfl⟩
theorem AJ (x:Nat):((x:Int).fdiv (2^(min 7 IntKind.u8.bits))).fdiv (2^(min 1 IntKind.u8.bits))=((x/256:Nat):Int):=by
 rw[show(2:Int)^(min 7 IntKind.u8.bits)=128 from rfl,show(2:Int)^(min 1 IntKind.u8.bits)=2 from rfl,af2 _ (by decide),af2 _ (by decide)];omega
theorem vU:aG aaa 265 [] uT [] (λv H=>v=Dm Dl 1/\H= []):=by
 refine af func265 rfl ntmps265 rfl ?_;intro F _;refine ri ?_;refine Lo (ι:=Nat) (FN [1,2,5,7]) (λk=>k<=1) (λk=> [(1,Dm ala (256^(1-k)-1:Nat)),(2,Dm Dl k)]) (λk=> []) (λk=>1-k) (0) (by simp) ?_;rintro k hI;refine bn ?_;refine az rfl ?_ ?_
 ·intro hk
  replace hk:=aO hk;have cJ:k<1:=by
   refine abz λhh=> ?_;rw[show 1-k=0 by omega]at hk;exact absurd hk (by decide)
  refine bs ?_;refine Li (Sr 7) ?_;refine Li (Sr 1) ?_;refine cV ?_;refine aD ?_;refine aA (t:=1) (v':=(Dm ala (256^(1-(k+1))-1:Nat))) rfl (by rw[AJ,show 1-k=(1-(k+1))+1 by omega,pw8]) ?_;refine Ro (k+1) (by omega) (by omega)
 intro hk;replace hk:=aO hk;have wy:k=1:=by
  refine abz λhh=> ?_;have:256<=256^(1-k):=aj0 (show 1-k≠0 by omega) 256;omega
 subst wy;refine bB ?_;refine Rt [] results265 ?_;exact⟨rfl,rfl⟩
theorem MS (a ab ao n p:Nat)(A:By)(h0:0<ao)(h1:p+1<=n)(h2:n<=1073741824)(h3:p % ao+1<=ao)(h4:ao<=1048576):
  aG aaa 216 [Dk a,Dm Dl p] (λh=>In (ag a 249 (iq ab ao n)) h/\In (ag ab 5 (dK A n)) h) []
   (λv H=>v= .tuple #[Dm ala (rd A p 1:Nat),Dm Dl 0]/\H= []):=by
 refine af func216 rfl ntmps216 rfl ?_;rintro F ⟨ha,hb⟩;refine lx ?_;refine zl Aa (vU) .nil Di ?_;refine zl Aa (jy a ab ao n p 1 h0 h1 h2 h3 h4) .nil (λ_ le _=>by obtain⟨k,q1,q2⟩:=ha;exact⟨k,q1,q2.trans le⟩) ?_;simp only[Ll,show¬1=0 by decide,if_false];refine cK ?_;refine bc ?_;refine Lo (ι:=Nat) (FN [8,1,10,1,24,10]) (λk=>k<=1) (λk=> [(8,Dm ala (rd A p k:Nat)),(24,Dm Dl k)]) (λk=> []) (λk=>1-k) (0) (by simp) ?_;rintro k hI;refine bq ?_;refine av ?_;refine az rfl ?_ ?_
 ·intro hk
  replace hk:=aO hk;have cJ:k<1:=by omega
  have k1:=HQ A n (p+k) (by omega);have hl:=kh A p (k+1);have DF:256^(k+1)<=256^1:=agf (by decide) cJ;have hc:=(A (p+k)).toNat_lt;have hs:=CI A p k;refine bn ?_;refine Li ((IxB fS)) ?_;refine Lp (oL rk ?_ (hk:=xU (i:=p+k) hb k1));refine bc ?_;refine Li (Sh 7) ?_;refine Li (Sh 1) ?_;refine aw ?_;refine Li ((Im (hz:=Uj (by rw[<-hs];exact agj hl DF)))) ?_;refine bK ?_;refine aD ?_;rw[<-hs];refine Ro (k+1) (by omega) (by omega)
 intro hk;replace hk:=aO hk;have wy:k=1:=by omega
 subst wy;refine bP ?_;refine jT [] results216 ?_;exact⟨rfl,rfl⟩
theorem Mx (a ab ao n p v:Nat)(A:By)(hv:v<256^1)(h0:0<ao)(h1:p+1<=n)(h2:n<=1073741824)(h3:p % ao+1<=ao)(h4:ao<=1048576):
  aG aaa 276 [Dk a,Dm Dl p,Dm ala v] (In (ag a 249 (iq ab ao n))) [ag ab 5 (dK A n)]
   (λu H=>u=Dm Dl 0/\H= [ag ab 5 (dK (wr A p 1 v) n)]):=by
 refine af func276 rfl ntmps276 rfl ?_;intro F ha;refine fX ?_;refine zl Aa (vU) .nil Di ?_;refine zl Aa (jy a ab ao n p 1 h0 h1 h2 h3 h4) .nil (λ_ le _=>by obtain⟨k,q1,q2⟩:=ha;exact⟨k,q1,q2.trans le⟩) ?_;simp only[Ll,show¬1=0 by decide,if_false];refine cK ?_;refine bd ?_;have fA:lay A (p+1) (be (1-1) v)=A:=tB A _;refine au (H':= [ag ab 5 (dK (lay A (p+1) (be (1-1) v)) n)]) (by rw[fA];exact λ_ x=>x) ?_;refine Lo (ι:=Nat) (FN [2,1,9,1,24,11]) (λj=>j<=1) (λj=> [(2,Dm ala (v/256^(1-j):Nat)),(9,Dm Dl ((j:Int)-1))]) (λj=> [ag ab 5 (dK (lay A (p+j) (be (1-j) v)) n)]) (λj=>j) (1) (aam _) ?_;rintro j hI;refine bn ?_;refine az rfl ?_ ?_
 ·intro hk
  replace hk:=aO hk;obtain⟨i,rfl⟩:∃i,j=i+1:=⟨j-1,by omega⟩;have hb8:IntKind.u8.wrap ((v/256^(1-(i+1)):Nat):Int)=((abP (v/256^(1-(i+1)))).toNat:Int):=by
   rw[IntKind.wrap_u8];simp
  have hv2:v/256^(1-(i+1))<256^1:=agq (agh _ _) hv;have hlen:p+i<(dK (lay A (p+(i+1)) (be (1-(i+1)) v)) n).length:=by rw[oD];omega
  refine cV ?_;refine aA (t:=30) (v':=(Dm ala ((abP (v/256^(1-(i+1)))).toNat:Nat))) rfl (by rw[<-hb8,aif hv2]) ?_;refine Li ((IxB fS (j:=i))) ?_;refine Lp (oS rk ?_ (i:=p+i) (hi:=hlen));rw[xm _ _ _ _ (by omega)];refine bq ?_;refine Li (Sr 7) ?_;refine Li (Sr 1) ?_;refine cV ?_;refine aD ?_;have el:lay (lay A (p+(i+1)) (be (1-(i+1)) v)) (p+i) [abP (v/256^(1-(i+1)))]=lay A (p+i) (be (1-i) v):=by
   rw[show 1-i=(1-(i+1))+1 by omega,be];exact vk A (p+i) _ _
  rw[el];refine aA (t:=2) (v':=(Dm ala (v/256^(1-i):Nat))) rfl (by rw[AJ,show 1-i=(1-(i+1))+1 by omega,agu,ahe]) ?_;refine Ro (i) (by omega) (by omega)
 intro hk;replace hk:=aO hk;obtain rfl:j=0:=by omega
 refine cA ?_;refine Rt [ag ab 5 (dK (wr A p 1 v) n)] results276 ?_;exact⟨rfl,rfl⟩
theorem y7 (x:Nat):((x:Int).fdiv (2^(min 7 IntKind.u32.bits))).fdiv (2^(min 1 IntKind.u32.bits))=((x/256:Nat):Int):=by
 rw[show(2:Int)^(min 7 IntKind.u32.bits)=128 from rfl,show(2:Int)^(min 1 IntKind.u32.bits)=2 from rfl,af2 _ (by decide),af2 _ (by decide)];omega
theorem uc:aG aaa 263 [] uT [] (λv H=>v=Dm Dl 4/\H= []):=by
 refine af func263 rfl ntmps263 rfl ?_;intro F _;refine ri ?_;refine Lo (ι:=Nat) (FN [1,2,5,7]) (λk=>k<=4) (λk=> [(1,Dm alb (256^(4-k)-1:Nat)),(2,Dm Dl k)]) (λk=> []) (λk=>4-k) (0) (by simp) ?_;rintro k hI;refine bn ?_;refine az rfl ?_ ?_
 ·intro hk
  replace hk:=aO hk;have cJ:k<4:=by
   refine abz λhh=> ?_;rw[show 4-k=0 by omega]at hk;exact absurd hk (by decide)
  refine bs ?_;refine Li (Sr 7) ?_;refine Li (Sr 1) ?_;refine cV ?_;refine aD ?_;refine aA (t:=1) (v':=(Dm alb (256^(4-(k+1))-1:Nat))) rfl (by rw[y7,show 4-k=(4-(k+1))+1 by omega,pw8]) ?_;refine Ro (k+1) (by omega) (by omega)
 intro hk;replace hk:=aO hk;have wy:k=4:=by
  refine abz λhh=> ?_;have:256<=256^(4-k):=aj0 (show 4-k≠0 by omega) 256;omega
 subst wy;refine bB ?_;refine Rt [] results263 ?_;exact⟨rfl,rfl⟩
theorem IL (a ab ao n p:Nat)(A:By)(h0:0<ao)(h1:p+4<=n)(h2:n<=1073741824)(h3:p % ao+4<=ao)(h4:ao<=1048576):
  aG aaa 214 [Dk a,Dm Dl p] (λh=>In (ag a 249 (iq ab ao n)) h/\In (ag ab 5 (dK A n)) h) []
   (λv H=>v= .tuple #[Dm alb (rd A p 4:Nat),Dm Dl 0]/\H= []):=by
 refine af func214 rfl ntmps214 rfl ?_;rintro F ⟨ha,hb⟩;refine lx ?_;refine zl Aa (uc) .nil Di ?_;refine zl Aa (jy a ab ao n p 4 h0 h1 h2 h3 h4) .nil (λ_ le _=>by obtain⟨k,q1,q2⟩:=ha;exact⟨k,q1,q2.trans le⟩) ?_;simp only[Ll,show¬4=0 by decide,if_false];refine cK ?_;refine bc ?_;refine Lo (ι:=Nat) (FN [8,1,10,1,24,11]) (λk=>k<=4) (λk=> [(8,Dm alb (rd A p k:Nat)),(24,Dm Dl k)]) (λk=> []) (λk=>4-k) (0) (by simp) ?_;rintro k hI;refine bq ?_;refine av ?_;refine az rfl ?_ ?_
 ·intro hk
  replace hk:=aO hk;have cJ:k<4:=by omega
  have k1:=HQ A n (p+k) (by omega);have hl:=kh A p (k+1);have DF:256^(k+1)<=256^4:=agf (by decide) cJ;have hc:=(A (p+k)).toNat_lt;have hs:=CI A p k;refine bn ?_;refine Li ((IxB fS)) ?_;refine Lp (oL rk ?_ (hk:=xU (i:=p+k) hb k1));refine bc ?_;refine Li (Sh 7) ?_;refine Li (Sh 1) ?_;refine bd ?_;refine Li ((Im (hz:=MB hc (by rw[<-hs];exact agj hl DF)))) ?_;refine bK ?_;refine aD ?_;rw[<-hs];refine Ro (k+1) (by omega) (by omega)
 intro hk;replace hk:=aO hk;have wy:k=4:=by omega
 subst wy;refine bP ?_;refine jT [] results214 ?_;exact⟨rfl,rfl⟩
theorem zg (a ab ao n p v:Nat)(A:By)(hv:v<256^4)(h0:0<ao)(h1:p+4<=n)(h2:n<=1073741824)(h3:p % ao+4<=ao)(h4:ao<=1048576):
  aG aaa 221 [Dk a,Dm Dl p,Dm alb v] (In (ag a 249 (iq ab ao n))) [ag ab 5 (dK A n)]
   (λu H=>u=Dm Dl 0/\H= [ag ab 5 (dK (wr A p 4 v) n)]):=by
 refine af func221 rfl ntmps221 rfl ?_;intro F ha;refine fX ?_;refine zl Aa (uc) .nil Di ?_;refine zl Aa (jy a ab ao n p 4 h0 h1 h2 h3 h4) .nil (λ_ le _=>by obtain⟨k,q1,q2⟩:=ha;exact⟨k,q1,q2.trans le⟩) ?_;simp only[Ll,show¬4=0 by decide,if_false];refine cK ?_;refine bd ?_;have fA:lay A (p+4) (be (4-4) v)=A:=tB A _;refine au (H':= [ag ab 5 (dK (lay A (p+4) (be (4-4) v)) n)]) (by rw[fA];exact λ_ x=>x) ?_;refine Lo (ι:=Nat) (FN [2,1,9,1,24,12]) (λj=>j<=4) (λj=> [(2,Dm alb (v/256^(4-j):Nat)),(9,Dm Dl ((j:Int)-1))]) (λj=> [ag ab 5 (dK (lay A (p+j) (be (4-j) v)) n)]) (λj=>j) (4) (aam _) ?_;rintro j hI;refine bn ?_;refine az rfl ?_ ?_
 ·intro hk
  replace hk:=aO hk;obtain⟨i,rfl⟩:∃i,j=i+1:=⟨j-1,by omega⟩;have hb8:IntKind.u8.wrap ((v/256^(4-(i+1)):Nat):Int)=((abP (v/256^(4-(i+1)))).toNat:Int):=by
   rw[IntKind.wrap_u8];simp
  have hv2:v/256^(4-(i+1))<256^4:=agq (agh _ _) hv;have hlen:p+i<(dK (lay A (p+(i+1)) (be (4-(i+1)) v)) n).length:=by rw[oD];omega
  refine cV ?_;refine Li ((Cv sE GS (hz:=hb8))) ?_;refine Li ((IxB fS (j:=i))) ?_;refine Lp (oS rk ?_ (i:=p+i) (hi:=hlen));rw[xm _ _ _ _ (by omega)];refine bq ?_;refine Li (Sr 7) ?_;refine Li (Sr 1) ?_;refine cV ?_;refine aD ?_;have el:lay (lay A (p+(i+1)) (be (4-(i+1)) v)) (p+i) [abP (v/256^(4-(i+1)))]=lay A (p+i) (be (4-i) v):=by
   rw[show 4-i=(4-(i+1))+1 by omega,be];exact vk A (p+i) _ _
  rw[el];refine aA (t:=2) (v':=(Dm alb (v/256^(4-i):Nat))) rfl (by rw[y7,show 4-i=(4-(i+1))+1 by omega,agu,ahe]) ?_;refine Ro (i) (by omega) (by omega)
 intro hk;replace hk:=aO hk;obtain rfl:j=0:=by omega
 refine cA ?_;refine Rt [ag ab 5 (dK (wr A p 4 v) n)] results221 ?_;exact⟨rfl,rfl⟩
theorem y6 (x:Nat):((x:Int).fdiv (2^(min 7 IntKind.u64.bits))).fdiv (2^(min 1 IntKind.u64.bits))=((x/256:Nat):Int):=by
 rw[show(2:Int)^(min 7 IntKind.u64.bits)=128 from rfl,show(2:Int)^(min 1 IntKind.u64.bits)=2 from rfl,af2 _ (by decide),af2 _ (by decide)];omega
theorem ua:aG aaa 264 [] uT [] (λv H=>v=Dm Dl 8/\H= []):=by
 refine af func264 rfl ntmps264 rfl ?_;intro F _;refine ri ?_;refine Lo (ι:=Nat) (FN [1,2,5,7]) (λk=>k<=8) (λk=> [(1,Dm Dj (256^(8-k)-1:Nat)),(2,Dm Dl k)]) (λk=> []) (λk=>8-k) (0) (by simp) ?_;rintro k hI;refine bn ?_;refine az rfl ?_ ?_
 ·intro hk
  replace hk:=aO hk;have cJ:k<8:=by
   refine abz λhh=> ?_;rw[show 8-k=0 by omega]at hk;exact absurd hk (by decide)
  refine bs ?_;refine Li (Sr 7) ?_;refine Li (Sr 1) ?_;refine cV ?_;refine aD ?_;refine aA (t:=1) (v':=(Dm Dj (256^(8-(k+1))-1:Nat))) rfl (by rw[y6,show 8-k=(8-(k+1))+1 by omega,pw8]) ?_;refine Ro (k+1) (by omega) (by omega)
 intro hk;replace hk:=aO hk;have wy:k=8:=by
  refine abz λhh=> ?_;have:256<=256^(8-k):=aj0 (show 8-k≠0 by omega) 256;omega
 subst wy;refine bB ?_;refine Rt [] results264 ?_;exact⟨rfl,rfl⟩
theorem IK (a ab ao n p:Nat)(A:By)(h0:0<ao)(h1:p+8<=n)(h2:n<=1073741824)(h3:p % ao+8<=ao)(h4:ao<=1048576):
  aG aaa 215 [Dk a,Dm Dl p] (λh=>In (ag a 249 (iq ab ao n)) h/\In (ag ab 5 (dK A n)) h) []
   (λv H=>v= .tuple #[Dm Dj (rd A p 8:Nat),Dm Dl 0]/\H= []):=by
 refine af func215 rfl ntmps215 rfl ?_;rintro F ⟨ha,hb⟩;refine lx ?_;refine zl Aa (ua) .nil Di ?_;refine zl Aa (jy a ab ao n p 8 h0 h1 h2 h3 h4) .nil (λ_ le _=>by obtain⟨k,q1,q2⟩:=ha;exact⟨k,q1,q2.trans le⟩) ?_;simp only[Ll,show¬8=0 by decide,if_false];refine cK ?_;refine bc ?_;refine Lo (ι:=Nat) (FN [8,1,10,1,24,11]) (λk=>k<=8) (λk=> [(8,Dm Dj (rd A p k:Nat)),(24,Dm Dl k)]) (λk=> []) (λk=>8-k) (0) (by simp) ?_;rintro k hI;refine bq ?_;refine av ?_;refine az rfl ?_ ?_
 ·intro hk
  replace hk:=aO hk;have cJ:k<8:=by omega
  have k1:=HQ A n (p+k) (by omega);have hl:=kh A p (k+1);have DF:256^(k+1)<=256^8:=agf (by decide) cJ;have hc:=(A (p+k)).toNat_lt;have hs:=CI A p k;refine bn ?_;refine Li ((IxB fS)) ?_;refine Lp (oL rk ?_ (hk:=xU (i:=p+k) hb k1));refine bc ?_;refine Li (Sh 7) ?_;refine Li (Sh 1) ?_;refine bd ?_;refine Li ((Im (hz:=MA hc (by rw[<-hs];exact agj hl DF)))) ?_;refine bK ?_;refine aD ?_;rw[<-hs];refine Ro (k+1) (by omega) (by omega)
 intro hk;replace hk:=aO hk;have wy:k=8:=by omega
 subst wy;refine bP ?_;refine jT [] results215 ?_;exact⟨rfl,rfl⟩
theorem IB (a ab ao n p v:Nat)(A:By)(hv:v<256^8)(h0:0<ao)(h1:p+8<=n)(h2:n<=1073741824)(h3:p % ao+8<=ao)(h4:ao<=1048576):
  aG aaa 274 [Dk a,Dm Dl p,Dm Dj v] (In (ag a 249 (iq ab ao n))) [ag ab 5 (dK A n)]
   (λu H=>u=Dm Dl 0/\H= [ag ab 5 (dK (wr A p 8 v) n)]):=by
 refine af func274 rfl ntmps274 rfl ?_;intro F ha;refine fX ?_;refine zl Aa (ua) .nil Di ?_;refine zl Aa (jy a ab ao n p 8 h0 h1 h2 h3 h4) .nil (λ_ le _=>by obtain⟨k,q1,q2⟩:=ha;exact⟨k,q1,q2.trans le⟩) ?_;simp only[Ll,show¬8=0 by decide,if_false];refine cK ?_;refine bd ?_;have fA:lay A (p+8) (be (8-8) v)=A:=tB A _;refine au (H':= [ag ab 5 (dK (lay A (p+8) (be (8-8) v)) n)]) (by rw[fA];exact λ_ x=>x) ?_;refine Lo (ι:=Nat) (FN [2,1,9,1,24,12]) (λj=>j<=8) (λj=> [(2,Dm Dj (v/256^(8-j):Nat)),(9,Dm Dl ((j:Int)-1))]) (λj=> [ag ab 5 (dK (lay A (p+j) (be (8-j) v)) n)]) (λj=>j) (8) (aam _) ?_;rintro j hI;refine bn ?_;refine az rfl ?_ ?_
 ·intro hk
  replace hk:=aO hk;obtain⟨i,rfl⟩:∃i,j=i+1:=⟨j-1,by omega⟩;have hb8:IntKind.u8.wrap ((v/256^(8-(i+1)):Nat):Int)=((abP (v/256^(8-(i+1)))).toNat:Int):=by
   rw[IntKind.wrap_u8];simp
  have hv2:v/256^(8-(i+1))<256^8:=agq (agh _ _) hv;have hlen:p+i<(dK (lay A (p+(i+1)) (be (8-(i+1)) v)) n).length:=by rw[oD];omega
  refine cV ?_;refine Li ((Cv sE Jd (hz:=hb8))) ?_;refine Li ((IxB fS (j:=i))) ?_;refine Lp (oS rk ?_ (i:=p+i) (hi:=hlen));rw[xm _ _ _ _ (by omega)];refine bq ?_;refine Li (Sr 7) ?_;refine Li (Sr 1) ?_;refine cV ?_;refine aD ?_;have el:lay (lay A (p+(i+1)) (be (8-(i+1)) v)) (p+i) [abP (v/256^(8-(i+1)))]=lay A (p+i) (be (8-i) v):=by
   rw[show 8-i=(8-(i+1))+1 by omega,be];exact vk A (p+i) _ _
  rw[el];refine aA (t:=2) (v':=(Dm Dj (v/256^(8-i):Nat))) rfl (by rw[y6,show 8-i=(8-(i+1))+1 by omega,agu,ahe]) ?_;refine Ro (i) (by omega) (by omega)
 intro hk;replace hk:=aO hk;obtain rfl:j=0:=by omega
 refine cA ?_;refine Rt [ag ab 5 (dK (wr A p 8 v) n)] results274 ?_;exact⟨rfl,rfl⟩
theorem In.mono{A:aa}{h k:Hp}(i:In A h)(l:Le h k):In A k:=by
 obtain⟨m,a,b⟩:=i;exact⟨m,a,b.trans l⟩
theorem afJ{ab n p m:Nat}{A:By}{h:Hp}(hb:In (ag ab 5 (dK A n)) h)(hn:p+m<=n):gF h (some (Ll ab p m)) (aj (jS A p m)):=by
 obtain⟨k,q1,q2⟩:=hb;by_cases hm:m=0
 ·subst hm;rw[T6];exact gF.nil
 have:=(qB (i:=p) q1).mono q2;unfold Ll;rw[if_neg hm,<-VZ A n p m hn];exact this.take m
theorem H5 (a:FL)(l:FI)(m c:Nat)(hm:m=l.length)(hl:l.length<=1073741824):
  aG aaa 262 [.slice a m c] (λh=>gF h a (aj l)) [] (λv H=>∃b,v= .slice (some ⟨b,0,none⟩) m m/\H= [own (some ⟨b,0,none⟩) m 5 1 (aj l)]):=by
 refine af func262 rfl ntmps262 rfl ?_;intro F hF;refine bs ?_;refine Lp (oM (m) (m) iJ λb1=> ?_);refine bn ?_;refine Lp (J0 iJ rfl rfl rfl rfl .here (fN (news:=aj l) (by simp[hm]) λh le _=>hF.mono le) eB (by rw[kC];omega) rfl ?_);have hz:cL (gV [Dm ala 0] (m*1)) 0 ((aj l).take (min m m*1))=aj l:=by
  rw[akV,akb (by simp[hm]),ml (by rw[kC];simp[hm])];simp[hm,kC]
 rw[hz];refine au (λ_ s=>aZ (λ_ p=>oI p m 1 (by simp[hm]) (by simp only[maxLen];omega)) s) ?_;refine bs ?_;refine Rt [own (some ⟨b1,0,none⟩) m 5 1 (aj l)] results262 ?_;exact⟨_,rfl,rfl⟩
theorem Iz (a ab ao n p m:Nat)(A:By)(h0:0<ao)(h1:p+m<=n)(h2:n<=1073741824)(h3:p % ao+m<=ao)(h4:ao<=1048576):
  aG aaa 212 [Dk a,Dm Dl p,Dm Dl m] (λh=>In (ag a 249 (iq ab ao n)) h/\In (ag ab 5 (dK A n)) h) []
   (λv H=>∃b,v= .tuple #[.slice (some ⟨b,0,none⟩) m m,Dm Dl 0]/\H= [own (some ⟨b,0,none⟩) m 5 1 (aj (jS A p m))]):=by
 refine af func212 rfl ntmps212 rfl ?_;rintro F ⟨ha,hb⟩;refine cV ?_;refine zl Aa (jy a ab ao n p m h0 h1 h2 h3 h4) .nil (λ_ le _=>ha.mono le) ?_;refine ri ?_;refine Lp (oC Aa rfl rfl (H5 (some (Ll ab p m)) (jS A p m) m m (cE A p m).symm (by rw[cE];omega)) .nil (λ_ le _=>(afJ hb h1).mono le) ?_);rintro v H' ⟨b,rfl,rfl⟩;refine bR ?_;refine bc ?_;refine jT [own (some ⟨b,0,none⟩) m 5 1 (aj (jS A p m))] results212 ?_;exact⟨_,rfl,rfl⟩
theorem qt (a ab ao n p m c:Nat)(A:By)(s:FL)(l:FI)(hm:m=l.length)(h0:0<ao)(h1:p+m<=n)(h2:n<=1073741824)(h3:p % ao+m<=ao)(h4:ao<=1048576):
  aG aaa 246 [Dk a,Dm Dl p, .slice s m c] (λh=>In (ag a 249 (iq ab ao n)) h/\gF h s (aj l)) [ag ab 5 (dK A n)]
   (λv H=>v=Dm Dl 0/\H= [ag ab 5 (dK (lay A p l) n)]):=by
 refine af func246 rfl ntmps246 rfl ?_;rintro F ⟨ha,hb⟩;refine cV ?_;refine zl Aa (jy a ab ao n p m h0 h1 h2 h3 h4) .nil (λ_ le _=>ha.mono le) ?_;refine rh ?_;have hz:cL (dK A n) (if m=0 then 0 else p) ((aj l).take (min m m*1))=dK (lay A p l) n:=by
  rw[akV,akb (by simp[hm])];by_cases h0:m=0
  ·have:l= []:=abO (by omega)
   subst this;rw[tB];rfl
  rw[if_neg h0,ml (by rw[oD];simp;omega),<-KR A n p l (by omega)];simp[af9]
 refine Lp (J0 iJ rfl rfl rfl rfl .here (fN (news:=aj l) (by simp[hm]) λh le _=>hb.mono le) eB (by rw[oD];split<;>omega) rfl ?_);rw[hz];refine bn ?_;refine Rt [ag ab 5 (dK (lay A p l) n)] results246 ?_;exact⟨rfl,rfl⟩
theorem IN (a ab ao n p m:Nat)(A:By)(c:UInt8)(hm:0<m)(h0:0<ao)(h1:p+m<=n)(h2:n<=1073741824)(h3:p % ao+m<=ao)(h4:ao<=1048576):
  aG aaa 220 [Dk a,Dm Dl p,Dm Dl m,Dm ala c.toNat] (In (ag a 249 (iq ab ao n))) [ag ab 5 (dK A n)]
   (λv H=>v=Dm Dl 0/\H= [ag ab 5 (dK (lay A p (aae m c)) n)]):=by
 refine af func220 rfl ntmps220 rfl ?_;rintro F ha;refine bK ?_;refine zl Aa (jy a ab ao n p m h0 h1 h2 h3 h4) .nil (λ_ le _=>ha.mono le) ?_;simp only[Ll,show¬m=0 by omega,if_false];refine cK ?_;refine aw ?_;refine au (H':= [ag ab 5 (dK (lay A p (aae 0 c)) n)]) (by rw[List.replicate_zero,tB];exact λ_ x=>x) ?_;refine Lo (ι:=Nat) (FN [11,1,23,8]) (λk=>k<=m) (λk=> [(23,Dm Dl k)]) (λk=> [ag ab 5 (dK (lay A p (aae k c)) n)]) (λk=>m-k) (0) (by simp) ?_;rintro k hI;refine bq ?_;refine av ?_;refine az rfl ?_ ?_
 ·intro hk
  replace hk:=aO hk;have cJ:k<m:=by omega
  have hlen:p+k<(dK (lay A p (aae k c)) n).length:=by rw[oD];omega
  refine dL ?_;refine Li ((IxB fS)) ?_;refine Lp (oS rk ?_ (i:=p+k) (hi:=hlen));rw[xm _ _ _ _ (by omega)];have el:lay (lay A p (aae k c)) (p+k) [c]=lay A p (aae (k+1) c):=by
   have:=YY A p (aae k c) [c];rw[aga]at this;rw[this,List.replicate_succ']
  rw[el];refine bs ?_;refine aD ?_;refine Ro (k+1) (by omega) (by omega)
 intro hk;replace hk:=aO hk;obtain rfl:k=m:=by omega
 refine cA ?_;refine Rt [ag ab 5 (dK (lay A p (aae k c)) n)] results220 ?_;exact⟨rfl,rfl⟩
theorem AX (a ab ao n:Nat)(h2:n<=1073741824):
  aG aaa 204 [Dk a] (In (ag a 249 (iq ab ao n))) [] (λv H=>v=Dm Dl n/\H= []):=by
 refine af func204 rfl ntmps204 rfl ?_;intro F h0;unfold iq at h0;refine dL ?_;refine Rt [] results204 ?_;exact⟨rfl,rfl⟩
def mT (c:ra):FJ:= [Dm Dl c.ao,Dm Dl c.bA,Dm Dl c.iG,Dm Dl c.eI,Dm Dl c.lim,Dm Dl c.hot,Dm Dl c.warm]
def aY (l:FH):FJ:=l.map λn:Nat=>Dm Dl n
def aS (l:FH):FJ:=l.map λn:Nat=>Dm alb n
def sK (l:List Bool):FJ:=l.map λb=> .bool b
def jK (l:List (Nat×Nat)):List (Value×Value):=l.map λp=>(Dm Dl p.1,Dm alb p.2)
def V9 (b:FK)(n:Nat):Value:=match b with
 |some b=> .slice (some ⟨b,0,none⟩) n n
 |none=> .slice none 0 0
def nL (b:FK)(e:TypeId)(cs:FJ):aa:=match b with
 |some b=>ag b e cs
 |none=>zV
def DC (b:FK)(es:List (Value×Value)):aa:=match b with
 |some b=>mq (.int .i64) b es
 |none=>zV
structure vG where
 p:Pg
 gb:FK
 tb:FK
 ob:FK
def dI (x:vG):FJ:= [.bool x.p.own, .bool x.p.lv,Dm Dl x.p.cl,V9 x.gb x.p.aX.length,V9 x.tb x.p.tk.length,Dm Dl x.p.held, .map x.ob]
theorem bL:∀x,(dI x).length=7:=λ_=>rfl
def kW (x:vG):aa:=aB [nL x.gb 149 (aS x.p.aX),nL x.tb 4 (sK x.p.tk),DC x.ob (jK x.p.old)]
structure abw (x:vG):Prop where
 g:x.gb.isSome=x.p.own
 t:x.tb.isSome=x.p.own
 o:x.ob=none->x.p.old= []
structure GA where
 r:Rw
 a:FL
 c:Nat
def ey (x:GA):FJ:= [.slice x.a x.r.free.length x.c,Dm Dl x.r.ct,Dm Dl x.r.bA,Dm Dl x.r.ig]
theorem cq:∀x,(ey x).length=4:=λ_=>rfl
def kG (x:GA):aa:=own x.a x.c 3 1 (aY x.r.free)
structure Lc where
 a:Nat
 ab:Nat
 sa:Nat
 pb:Nat
 rb:Nat
 sc:Nat
 pl:List vG
 rl:List GA
def cI (C:Cs)(y:Lc):FJ:= [Dm Dl C.ao,Dm Dl C.n,Dm Dl C.cfg.iG,Dm Dl C.cfg.eI,Dm Dl C.cfg.lim,Dm Dl C.cfg.hot,Dm Dl C.cfg.warm,Dk y.a, .slice (some ⟨y.sa,0,none⟩) C.ae.length y.sc, .slice (some ⟨y.pb,0,none⟩) C.n C.n, .slice (some ⟨y.rb,0,none⟩) C.ae.length C.ae.length,Dm Dl C.spare]
def nP (C:Cs)(y:Lc):aa:=own (some ⟨y.sa,0,none⟩) y.sc 3 1 (aY C.ae)
def mC (b:Nat)(C:Cs)(y:Lc):F8:=
 [ag b 179 (cI C y),nP C y,ag y.pb 227 (y.pl.flatMap dI),aB (y.pl.map kW),ag y.rb 196 (y.rl.flatMap ey),aB (y.rl.map kG),
  ag y.a 249 (iq y.ab C.ao (C.n*C.ao)),ag y.ab 5 (dK C.A (C.n*C.ao))]
structure gC (C:Cs)(y:Lc):Prop where
 pl:y.pl.map (·.p)=C.bm
 rl:y.rl.map (·.r)=C.rows
 pk:∀x∈y.pl,abw x
 ao:C.cfg.ao=(C.ao:Int)
 bA:C.cfg.bA=(C.n:Int)
def Cl (b:Nat)(C:Cs):aa:=λh=>∃y,gC C y/\aB (mC b C y) h
theorem tx{P:Program}{f:FuncId}{args:FJ}{pre:Hp->Prop}{H:F8}{R:Dp}{b:Nat}{C:Cs}(h:∀y,gC C y->aG P f args pre (mC b C y++H) R):aG P f args pre (Cl b C::H) R:=
 aG.exL λy=>aG.D8 λhy=>aG.GV (h y hy)
theorem qo{b:Nat}{C:Cs}{y:Lc}{H:F8}{h:Hp}(hy:gC C y)(st:ai (mC b C y++H) h):ai (Cl b C::H) h:=
 aZ (λ_ p=>⟨y,hy,p⟩) (dZ st)
theorem abj{b:Nat}{C:Cs}{h:Hp}(o:In (Cl b C) h):∃y,gC C y/\gG (mC b C y) h:=by
 obtain⟨k,⟨y,hy,p⟩,l⟩:=o;exact⟨y,hy,cj p l⟩
theorem tG{C:Cs}{y:Lc}(K:Cs.Ok C)(hy:gC C y){i:Nat}(hi:i<C.n):∃x,y.pl[i]?=some x/\x.p=C.pg i/\abw x:=by
 have h1:=Cs.ki (C:=C) (i:=i) (by rw[K.pl];exact hi);rw[<-hy.pl,abD,Option.map_eq_some_iff]at h1;obtain⟨x,h2,h3⟩:=h1;exact⟨x,h2,h3,hy.pk x (aaf h2)⟩
theorem yi{C:Cs}{y:Lc}(K:Cs.Ok C)(hy:gC C y){c:Nat}(hc:c<C.ae.length):∃x,y.rl[c]?=some x/\x.r=C.rw c:=by
 have h1:=Cs.aaw (C:=C) (c:=c) (by rw[K.rl];exact hc);rw[<-hy.rl,abD,Option.map_eq_some_iff]at h1;exact h1
theorem gk{l:FH}{i n:Nat}(h:l[i]?=some n):(aY l)[i]?=some (Dm Dl n):=by unfold aY;rw[abD,h];rfl
theorem og{l:FH}{i n:Nat}(h:l[i]?=some n):(aS l)[i]?=some (Dm alb n):=by unfold aS;rw[abD,h];rfl
theorem Ct{l:List Bool}{i:Nat}{b:Bool}(h:l[i]?=some b):(sK l)[i]?=some (.bool b):=by unfold sK;rw[abD,h];rfl
theorem o5{C:Cs}{c:Nat}(h:c<C.ae.length):C.ae[c]?=some (C.sz c):=by
 unfold Cs.sz;rw[aab,aac h];rfl
theorem tC{C:Cs}{p:Nat}(h:C.ix p<(C.pg (C.pn p)).aX.length):(C.pg (C.pn p)).aX[C.ix p]?=some (C.gen p):=by
 unfold Cs.gen;rw[aab,aac h];rfl
theorem gO{h:Hp}{b k:Nat}{cells:FJ}{v:Value}(r:gF h (some ⟨b,0,none⟩) cells)(hv:cells[k]?=some v):eJ h ⟨b,k,none⟩=some v:=by
 obtain⟨ad,e,hc⟩:=r k v hv;cases e
 rwa[add_lit,abH]at hc
structure Cv0 (b:Nat)(C:Cs)(y:Lc)(h:Hp):Prop where
 s:In (ag b 179 (cI C y)) h
 z:gF h (some ⟨y.sa,0,none⟩) (aY C.ae)
 p:In (ag y.pb 227 (y.pl.flatMap dI)) h
 r:In (ag y.rb 196 (y.rl.flatMap ey)) h
 a:In (ag y.a 249 (iq y.ab C.ao (C.n*C.ao))) h
 A:In (ag y.ab 5 (dK C.A (C.n*C.ao))) h
structure Cvp (C:Cs)(y:Lc)(i:Nat)(h:Hp)(x:vG)(gb tb:Nat):Prop where
 x1:y.pl[i]?=some x
 e:x.p=C.pg i
 g:x.gb=some gb
 t:x.tb=some tb
 k0:(y.pl.flatMap dI)[i*7]?=some (.bool true)
 k1:(y.pl.flatMap dI)[i*7+1]?=some (.bool (C.pg i).lv)
 k2:(y.pl.flatMap dI)[i*7+2]?=some (Dm Dl ((C.pg i).cl))
 k3:(y.pl.flatMap dI)[i*7+3]?=some (.slice (some ⟨gb,0,none⟩) (C.pg i).aX.length (C.pg i).aX.length)
 k4:(y.pl.flatMap dI)[i*7+4]?=some (.slice (some ⟨tb,0,none⟩) (C.pg i).aX.length (C.pg i).aX.length)
 k5:(y.pl.flatMap dI)[i*7+5]?=some (Dm Dl ((C.pg i).held))
 hg:In (ag gb 149 (aS (C.pg i).aX)) h
 ht:In (ag tb 4 (sK (C.pg i).tk)) h
theorem Jv{b:Nat}{C:Cs}{h:Hp}(K:Cs.Ok C){y:Lc}(hy:gC C y)(hi:gG (mC b C y) h){i:Nat}(h1:i<C.n)(h2:(C.pg i).own=true):∃x gb tb,Cvp C y i h x gb tb:=by
 obtain⟨x,x1,x2,x3⟩:=tG K hy h1;have own:=h2;rw[<-x2]at own;obtain⟨gb,uu⟩:∃g,x.gb=some g:=Option.isSome_iff_exists.1 (x3.g.trans own);obtain⟨tb,ur⟩:∃g,x.tb=some g:=Option.isSome_iff_exists.1 (x3.t.trans own);have P:Cs.kN C (C.pg i):=K.pg _ (Cs.dh (by rw[K.pl];exact h1));have tl:=P.tl;have c:∀j v,(dI x)[j]?=some v->(y.pl.flatMap dI)[i*7+j]?=some v:=λj v hv=>bb bL x1 hv;obtain⟨_,_,_,h3,_⟩:=hi;obtain⟨g1,g2,_⟩:=tL (yr h3 (aaf x1));rw[uu]at g1;rw[ur]at g2;rw[x2]at g1 g2;refine⟨x,gb,tb,x1,x2,uu,ur, ?_, ?_, ?_, ?_, ?_, ?_,g1,g2⟩
 ·have:=c 0 _ rfl;rw[own]at this;exact this
 ·have:=c 1 _ rfl;rw[x2]at this;exact this
 ·have:=c 2 _ rfl;rw[x2]at this;exact this
 ·have:=c 3 _ rfl;rw[uu,x2]at this;exact this
 ·have:=c 4 _ rfl;rw[ur,x2,tl]at this;exact this
 have:=c 5 _ rfl;rw[x2]at this;exact this
theorem Xr{b:Nat}{C:Cs}{h:Hp}(K:Cs.Ok C){y:Lc}(hy:gC C y)(hi:gG (mC b C y) h){p:Nat}(L:Cs.At C p):∃x gb tb,Cv0 b C y h/\Cvp C y (C.pn p) h x gb tb/\eJ h ⟨y.sa,C.cl p,none⟩=some (Dm Dl (C.sz (C.cl p))):=by
 obtain⟨x,gb,tb,V⟩:=Jv K hy hi L.i L.own;obtain⟨h0,h1,h2,h3,h4,h5,h6,h7,_⟩:=hi;exact⟨x,gb,tb,⟨h0,bX h1,h2,h4,h6,h7⟩,V,gO (bX h1) (gk (o5 (L.ba K).1))⟩
theorem mZ{P:Program}{f:FuncId}{args:FJ}{H:F8}{R:Dp}{b:Nat}{C:Cs}(h:∀y,gC C y->aG P f args (gG (mC b C y)) H R):aG P f args (In (Cl b C)) H R:=λF w hp s=>by
 obtain⟨y,hy,hi⟩:=abj hp;exact h y hy F w hi s
theorem bO{L:F8}{h k:Hp}(i:gG L h)(l:Le h k):gG L k:=by
 induction L with
 |nil=>trivial
 |cons A L ih=>exact⟨Y7 i.1 l,ih i.2⟩
open Go Go.dC Go.Proofs.YtcbcjolpdljbiaaGreat.Cs
theorem vq (p g:Nat)(hp:p<=1073741824)(hg:g<4294967296):aG aaa 210 [Dm Dl p,Dm alb g] uT [] (λv H=>v=Dm Dj (g*4294967296+(p/8+1):Nat)/\H= []):=by
 refine af func210 rfl ntmps210 rfl ?_;intro F _;refine bs ?_;refine Li ((Sh 32 (z:=((g*4294967296:Nat):Int)) (hz:=by rw[show(2:Int)^(min 32 IntKind.u64.bits)=4294967296 from rfl,wrap_u64 (by omega)];omega))) ?_;refine aw ?_;refine Li (Qu (q:=8)) ?_;refine bs ?_;refine Rt [] results210 ?_;refine⟨?_,rfl⟩
 congr 1
theorem Fy (b:Nat)(C:Cs)(y:Lc)(K:Ok C)(hy:gC C y)(p:Nat)(L:At C p):
  aG aaa 205 [Dk b,Dm Dl p] (gG (mC b C y)) []
   (λv H=>v= .tuple #[.pointer (some ⟨y.pb,C.pn p*7,none⟩),Dm Dl (C.ix p), .bool true]/\H= []):=by
 obtain⟨n1,n2,n3,n4,n5,n6,n7,n8⟩:=L.ba K;have nb:=fU K.toFix;have f0:=K.toFix.p0;have f1:=K.toFix.p1;refine af func205 rfl ntmps205 rfl ?_;intro F ak;obtain⟨x,gb,tb,⟨h0,_,h2,_,h6,h7⟩,V,kz⟩:=Xr K hy ak L;obtain⟨_,_,_,_,k0,_,k2,k3,k4,_,hg,ht⟩:=V;change _=some (Value.int .i64 (C.cl p:Int))at k2;unfold cI at h0;have hi:=L.i;have ek:=L.k;have Pu:=L.al;have hm:=ag6 p (show 0<C.ao by omega);refine bB ?_;refine zf 12 ?_;refine bn ?_;refine zl Aa (AX y.a y.ab C.ao (C.n*C.ao) nb) .nil (λ_ le _=>In.mono h6 le) ?_;refine bq ?_;refine cN ?_;refine bd ?_;refine av ?_;refine gT false mix ?_;refine bB ?_;refine Ti (Qu) ?_;refine cK ?_;refine aw ?_;refine Li (Rm) ?_;refine bd ?_;refine av ?_;refine gT false mix ?_;refine gJ ?_;refine av ?_;refine gT false mix ?_;refine bd ?_;refine Ti (Rm) ?_;refine bd ?_;refine zf 59 ?_ (e:=by exact(by rw[Pu];rfl));refine bd ?_;refine Ti (Qu) ?_;refine cV ?_;refine cN ?_ (e:=by exact decide_eq_false (by unfold Cs.ix at ek;omega));refine bd ?_;refine av ?_;refine gT false mix ?_;refine bq ?_;refine Ti (Qu) ?_;refine bn ?_;refine Rt3 [] results205 ?_;exact⟨rfl,rfl⟩
theorem Kz (b:Nat)(C:Cs)(y:Lc)(K:Ok C)(hy:gC C y)(p:Nat)(L:Live C p):
  aG aaa 138 [Dk b,Dm Dj (C.hd p)] (gG (mC b C y)) []
   (λv H=>v= .tuple #[.pointer (some ⟨y.pb,C.pn p*7,none⟩),Dm Dl (C.ix p),Dm Dl p, .bool true]/\H= []):=by
 obtain⟨n1,n2,n3,n4,n5,n6⟩:=bM K L.toAt;have nb:=fU K.toFix;have hg:=Live.ya K L.toAt;refine af func138 rfl ntmps138 rfl ?_;intro F ak;obtain⟨x,gb,tb,⟨h0,_,h2,_,h6,h7⟩,V,kz⟩:=Xr K hy ak L.toAt;obtain⟨_,_,_,_,k0,_,k2,k3,k4,_,hgn,ht⟩:=V;unfold cI at h0;have ek:=L.k;have kt:=Ct L.tk;have kg:=og (tC ek);refine cV ?_;refine Li ((Im (hz:=ajw n5))) ?_;rw[n1];refine bK ?_;refine zf 17 ?_;refine bn ?_;refine zl Aa (AX y.a y.ab C.ao (C.n*C.ao) nb) .nil (λ_ le _=>In.mono h6 le) ?_;refine Li (Qu (q:=8)) ?_;refine bc ?_;refine cN ?_;refine dL ?_;rw[show(((p/8+1:Nat):Int)-1)*8=(p:Int) by omega];refine zl Aa (Fy b C y K hy p L.toAt) .nil (λ_ le _=>bO ak le) ?_;refine gJ ?_;refine zf 41 ?_ (e:=by rfl);refine bB ?_;refine zf 51 ?_ (e:=by rfl);refine cV ?_;refine Li ((Sr 32 (z:=((C.gen p:Nat):Int)) (hz:=by rw[aiy,n2]))) ?_;refine bc ?_;refine cN ?_ (e:=by exact(by rw[decide_eq_true rfl];rfl));refine dL ?_;refine Rt4 [] results138 ?_;exact⟨rfl,rfl⟩
theorem vS (b:Nat)(C:Cs)(K:Ok C)(p:Nat)(L:Live C p):
  aG aaa 90 [Dk b,Dm Dj (C.hd p)] (In (Cl b C)) [] (λv H=>v= .tuple #[Dm Dl p,Dm Dl (C.cl p),Dm Dl 0]/\H= []):=by
 refine mZ λy hy=> ?_;refine af func90 rfl ntmps90 rfl ?_;intro F ak;obtain⟨x,gb,tb,⟨h0,_,h2,_,h6,h7⟩,V,kz⟩:=Xr K hy ak L.toAt;obtain⟨_,_,_,_,k0,_,k2,k3,k4,_,hgn,ht⟩:=V;change _=some (Value.int .i64 (C.cl p:Int))at k2;refine cV ?_;refine zl Aa (Kz b C y K hy p L) .nil (λ_ le _=>bO ak le) ?_;refine rM ?_;refine av ?_;refine gT false mix ?_;refine bB ?_;refine Rt3 [] results90 ?_;exact⟨rfl,rfl⟩
theorem aaE (b:Nat)(C:Cs)(K:Ok C)(p:Nat)(L:Live C p):
  aG aaa 140 [Dk b,Dm Dl p] (In (Cl b C)) [] (λv H=>v= .tuple #[Dm Dj (C.hd p), .bool true]/\H= []):=by
 refine mZ λy hy=> ?_;have nb:=fU K.toFix;obtain⟨_,_,_,_,_,_,_,n8⟩:=L.toAt.ba K;refine af func140 rfl ntmps140 rfl ?_;intro F ak;obtain⟨x,gb,tb,⟨h0,_,h2,_,h6,h7⟩,V,kz⟩:=Xr K hy ak L.toAt;obtain⟨_,_,_,_,k0,_,k2,k3,k4,_,hgn,ht⟩:=V;have ek:=L.k;have kt:=Ct L.tk;have kg:=og (tC ek);refine bK ?_;refine zl Aa (Fy b C y K hy p L.toAt) .nil (λ_ le _=>bO ak le) ?_;refine gJ ?_;refine zf 18 ?_ (e:=by rfl);refine cK ?_;refine bd ?_;refine zl Aa (vq p (C.gen p) (by omega) (Live.ya K L.toAt)) .nil Di ?_;refine bc ?_;refine jT [] results140 ?_;exact⟨rfl,rfl⟩
theorem x7{α:Type}(f:α->Nat)(h:∀x,f x<=1):∀l:List α,(l.map f).sum<=l.length
 | []=>aam _
 |x::l=>by
  have:=x7 f h l;have:=h x;simp only[aaj,abJ,abU];omega
theorem Cs.Ok.le{C:Cs}(K:Ok C):C.spare<=C.n/\∀c,c<C.ae.length->(C.rw c).ig<=C.n/\(C.rw c).bA<=C.n:=by
 have h:∀f:Pg->Nat,(∀x,f x<=1)->C.wR f<=C.n:=λf hf=>by
  have:=x7 f hf C.bm;rw[K.pl]at this;exact this
 refine⟨by rw[K.sp];exact h _ λx=>by unfold wQ;split<;>omega,λc hc=>⟨by rw[K.fs c hc];exact h _ λx=>by unfold xD;split<;>omega,by rw[K.fp c hc];exact h _ λx=>by unfold sJ;split<;>omega⟩⟩
structure Cvr (C:Cs)(y:Lc)(c:Nat)(h:Hp)(x:GA):Prop where
 x1:y.rl[c]?=some x
 e:x.r=C.rw c
 k0:(y.rl.flatMap ey)[c*4]?=some (.slice x.a (C.rw c).free.length x.c)
 k1:(y.rl.flatMap ey)[c*4+1]?=some (Dm Dl ((C.rw c).ct))
 k2:(y.rl.flatMap ey)[c*4+2]?=some (Dm Dl ((C.rw c).bA))
 k3:(y.rl.flatMap ey)[c*4+3]?=some (Dm Dl ((C.rw c).ig))
 f:gF h x.a (aY (C.rw c).free)
theorem Ju{b:Nat}{C:Cs}{h:Hp}(K:Cs.Ok C){y:Lc}(hy:gC C y)(hi:gG (mC b C y) h){c:Nat}(hc:c<C.ae.length):∃x,Cvr C y c h x:=by
 obtain⟨x,x1,x2⟩:=yi K hy hc;have q:∀j v,(ey x)[j]?=some v->(y.rl.flatMap ey)[c*4+j]?=some v:=λj v hv=>bb cq x1 hv;obtain⟨_,_,_,_,_,h5,_⟩:=hi;have g1:=bX (yr h5 (aaf x1));rw[x2]at g1;refine⟨x,x1,x2, ?_, ?_, ?_, ?_,g1⟩
 ·have:=q 0 _ rfl;rw[x2]at this;exact this
 ·have:=q 1 _ rfl;rw[x2]at this;exact this
 ·have:=q 2 _ rfl;rw[x2]at this;exact this
 have:=q 3 _ rfl;rw[x2]at this;exact this
def ZZ (C:Cs)(c:Int):Bool:=decide (0<=c/\c<(C.ae.length:Int))
def ofM (C:Cs)(c:Int)(f:Nat->Nat):Nat:=if 0<=c/\c<(C.ae.length:Int)then f c.toNat else 0
theorem Ec (b:Nat)(C:Cs)(y:Lc)(K:Ok C)(c:Int):aG aaa 114 [Dk b,Dm Dl c] (gG (mC b C y)) [] (λv H=>v= .bool (ZZ C c)/\H= []):=by
 refine af func114 rfl ntmps114 rfl ?_;rintro F ⟨h0,_⟩;unfold cI at h0;refine bK ?_;refine bJ (t:=7) rfl ?_ ?_
 ·intro h
  replace h:=aO h;refine bP ?_;refine Rt [] results114 ?_;refine⟨?_,rfl⟩;unfold ZZ
  congr 2
  simp[h]
 intro h;replace h:=aO h;refine bP ?_;refine Rt [] results114 ?_;refine⟨?_,rfl⟩;unfold ZZ;rw[Ab]
theorem oK (b:Nat)(C:Cs):aG aaa 69 [Dk b] (In (Cl b C)) [] (λv H=>v=Dm Dl C.ae.length/\H= []):=by
 refine mZ λy hy=> ?_;refine af func69 rfl ntmps69 rfl ?_;rintro F ⟨h0,_⟩;unfold cI at h0;refine dL ?_;refine Rt [] results69 ?_;exact⟨rfl,rfl⟩
theorem fM (b:Nat)(C:Cs):aG aaa 197 [Dk b] (In (Cl b C)) [] (λv H=>v=Dm Dl C.spare/\H= []):=by
 refine mZ λy hy=> ?_;refine af func197 rfl ntmps197 rfl ?_;rintro F ⟨h0,_⟩;unfold cI at h0;refine bP ?_;refine Rt [] results197 ?_;exact⟨rfl,rfl⟩
theorem Bi (b:Nat)(C:Cs):aG aaa 108 [Dk b] (In (Cl b C)) [] (λv H=>v= .agg (mT C.cfg).toArray/\H= []):=by
 refine mZ λy hy=> ?_;have hc:mT C.cfg= [Dm Dl C.ao,Dm Dl C.n,Dm Dl C.cfg.iG,Dm Dl C.cfg.eI,Dm Dl C.cfg.lim,Dm Dl C.cfg.hot,Dm Dl C.cfg.warm]:=by
  unfold mT;rw[hy.ao,hy.bA]
 rw[hc];refine af func108 rfl ntmps108 rfl ?_;rintro F ⟨h0,_⟩;unfold cI at h0;refine aw ?_;refine Lp (oA Qe λb1=> ?_);refine cA ?_;refine Jc [] QM results108 ?_;exact⟨rfl,rfl⟩
theorem V4 (b:Nat)(C:Cs)(y:Lc):aG aaa 211 [Dk b] (gG (mC b C y)) [] (λv H=>v=Dk y.a/\H= []):=by
 refine af func211 rfl ntmps211 rfl ?_;rintro F ⟨h0,_⟩;unfold cI at h0;refine bP ?_;refine Rt [] results211 ?_;exact⟨rfl,rfl⟩
theorem qW (b:Nat)(C:Cs)(K:Ok C)(c:Int):aG aaa 71 [Dk b,Dm Dl c] (In (Cl b C)) [] (λv H=>v=Dm Dl (ofM C c λi=>C.sz i:Nat)/\H= []):=by
 refine mZ λy hy=> ?_;refine af func71 rfl ntmps71 rfl ?_;intro F ak;have h0:=ak.1;have h4:=ak.2.2.2.2.1;unfold cI at h0;refine bK ?_;refine zl Aa (Ec b C y K c) .nil (λ_ le _=>bO ak le) ?_;unfold ofM ZZ;refine bd ?_;refine az rfl ?_ ?_
 ·intro h
  replace h:=aO h;refine bn ?_;refine Rt [] results71 ?_;refine⟨?_,rfl⟩;rw[if_neg h];rfl
 intro h;replace h:=aO h;obtain⟨i,rfl⟩:∃i:Nat,c=(i:Int):=⟨c.toNat,by omega⟩;have hi:i<C.ae.length:=by omega
 obtain⟨x,_,_,k0,k1,k2,k3,_⟩:=Ju K hy ak hi;have kz:=gO (bX ak.2.1) (gk (o5 hi));refine gJ ?_;refine Rt [] results71 ?_;refine⟨?_,rfl⟩;rw[if_pos h];rfl
theorem Bl (b:Nat)(C:Cs)(K:Ok C)(c:Int):aG aaa 65 [Dk b,Dm Dl c] (In (Cl b C)) [] (λv H=>v=Dm Dl (ofM C c λi=>(C.rw i).bA:Nat)/\H= []):=by
 refine mZ λy hy=> ?_;refine af func65 rfl ntmps65 rfl ?_;intro F ak;have h0:=ak.1;have h4:=ak.2.2.2.2.1;unfold cI at h0;refine bK ?_;refine zl Aa (Ec b C y K c) .nil (λ_ le _=>bO ak le) ?_;unfold ofM ZZ;refine bd ?_;refine az rfl ?_ ?_
 ·intro h
  replace h:=aO h;refine bn ?_;refine Rt [] results65 ?_;refine⟨?_,rfl⟩;rw[if_neg h];rfl
 intro h;replace h:=aO h;obtain⟨i,rfl⟩:∃i:Nat,c=(i:Int):=⟨c.toNat,by omega⟩;have hi:i<C.ae.length:=by omega
 obtain⟨x,_,_,k0,k1,k2,k3,_⟩:=Ju K hy ak hi;have kz:=gO (bX ak.2.1) (gk (o5 hi));refine fX ?_;refine Rt [] results65 ?_;refine⟨?_,rfl⟩;rw[if_pos h];rfl
theorem OI (b:Nat)(C:Cs)(K:Ok C)(c:Int):aG aaa 66 [Dk b,Dm Dl c] (In (Cl b C)) [] (λv H=>v=Dm Dl (ofM C c λi=>(C.rw i).ct:Nat)/\H= []):=by
 refine mZ λy hy=> ?_;refine af func66 rfl ntmps66 rfl ?_;intro F ak;have h0:=ak.1;have h4:=ak.2.2.2.2.1;unfold cI at h0;refine bK ?_;refine zl Aa (Ec b C y K c) .nil (λ_ le _=>bO ak le) ?_;unfold ofM ZZ;refine bd ?_;refine az rfl ?_ ?_
 ·intro h
  replace h:=aO h;refine bn ?_;refine Rt [] results66 ?_;refine⟨?_,rfl⟩;rw[if_neg h];rfl
 intro h;replace h:=aO h;obtain⟨i,rfl⟩:∃i:Nat,c=(i:Int):=⟨c.toNat,by omega⟩;have hi:i<C.ae.length:=by omega
 obtain⟨x,_,_,k0,k1,k2,k3,_⟩:=Ju K hy ak hi;have kz:=gO (bX ak.2.1) (gk (o5 hi));refine fX ?_;refine Rt [] results66 ?_;refine⟨?_,rfl⟩;rw[if_pos h];rfl
theorem FC (b:Nat)(C:Cs)(K:Ok C)(c:Int):aG aaa 199 [Dk b,Dm Dl c] (In (Cl b C)) [] (λv H=>v=Dm Dl (ofM C c λi=>(C.rw i).free.length:Nat)/\H= []):=by
 refine mZ λy hy=> ?_;refine af func199 rfl ntmps199 rfl ?_;intro F ak;have h0:=ak.1;have h4:=ak.2.2.2.2.1;unfold cI at h0;refine bK ?_;refine zl Aa (Ec b C y K c) .nil (λ_ le _=>bO ak le) ?_;unfold ofM ZZ;refine bd ?_;refine az rfl ?_ ?_
 ·intro h
  replace h:=aO h;refine bn ?_;refine Rt [] results199 ?_;refine⟨?_,rfl⟩;rw[if_neg h];rfl
 intro h;replace h:=aO h;obtain⟨i,rfl⟩:∃i:Nat,c=(i:Int):=⟨c.toNat,by omega⟩;have hi:i<C.ae.length:=by omega
 obtain⟨x,_,_,k0,k1,k2,k3,_⟩:=Ju K hy ak hi;have kz:=gO (bX ak.2.1) (gk (o5 hi));refine lx ?_;refine Rt [] results199 ?_;refine⟨?_,rfl⟩;rw[if_pos h];rfl
theorem aed (b:Nat)(C:Cs)(K:Ok C)(n:Nat)(hn:1<=n):aG aaa 182 [Dk b,Dm Dl n] (In (Cl b C)) []
  (λv H=>v=(match C.ae.findIdx? λz=>decide (n<=z)with
   |some c=> .tuple #[Dm Dl c,Dm Dl 0]
   |none=> .tuple #[Dm Dl 0,Dm Dl 6])/\H= []):=by
 refine mZ λy hy=> ?_;have l1:=K.toFix.l1;refine af func182 rfl ntmps182 rfl ?_;intro F ak;have h0:=ak.1;unfold cI at h0;refine cA ?_;refine cN ?_;refine dL ?_;refine Lo (ι:=Nat) (FN [4,4,15,10]) (λk=>k<=C.ae.length/\∀j,j<k->C.sz j<n) (λk=> [(15,Dm Dl k)]) (λk=> []) (λk=>C.ae.length-k) (0) ⟨abL _,λj hj=>absurd hj (agZ j)⟩ ?_;rintro k ⟨Wo,rp⟩;refine bq ?_;refine av ?_;refine az rfl ?_ ?_
 ·intro hk
  replace hk:=aO hk;have cJ:k<C.ae.length:=by omega
  have ks:=o5 cJ;have kz:=gO (bX ak.2.1) (gk ks);refine ri ?_;refine az rfl ?_ ?_
  ·intro hq
   replace hq:=aO hq;refine bP ?_;refine jT [] results182 ?_;refine⟨?_,rfl⟩;have:C.ae.findIdx? (λz=>decide (n<=z))=some k:=by
    rw[abK];obtain⟨h1,h2⟩:=aad.1 ks;refine⟨h1,by rw[h2];simp;omega,λj hj=> ?_⟩;have h3:=rp j hj;obtain⟨h4,h5⟩:=aad.1 (o5 (C:=C) (c:=j) (by omega));rw[h5];simp;omega
   rw[this]
  intro hq;replace hq:=aO hq;refine bs ?_;refine aD ?_;refine Ro (k+1) (⟨by omega,λj hj=> ?_⟩) (by omega);by_cases O0:j=k
  ·subst O0;omega
  exact rp j (by omega)
 intro hk;replace hk:=aO hk;obtain rfl:k=C.ae.length:=by omega
 refine bB ?_;refine jT [] results182 ?_;refine⟨?_,rfl⟩;have:C.ae.findIdx? (λz=>decide (n<=z))=none:=by
  rw[ago];intro z hz;obtain⟨j,hj⟩:=agA hz;have hjl:=(aad.1 hj).1;have h1:=rp j hjl;rw[o5 hjl]at hj;cases hj;simp;omega
 rw[this]
theorem nj (b:Nat)(C:Cs)(y:Lc)(K:Ok C)(hy:gC C y)(i:Nat)(hi:i<C.n):aG aaa 256 [Dk b,Dm Dl i] (gG (mC b C y)) []
  (λv H=>v= .pointer (if(C.pg i).own=true then some ⟨y.pb,i*7,none⟩else none)/\H= []):=by
 have f2:=K.toFix.n1;obtain⟨x,x1,x2,x3⟩:=tG K hy hi;have k0:(y.pl.flatMap dI)[i*7]?=some (.bool (C.pg i).own):=by
  have:=bb bL x1 (j:=0) rfl;rw[x2]at this;exact this
 refine af func256 rfl ntmps256 rfl ?_;intro F ak;have h0:=ak.1;have h2:=ak.2.2.1;unfold cI at h0;refine cV ?_;refine zf 7 ?_;refine cA ?_;refine zf 16 ?_;refine bP ?_;refine az rfl ?_ ?_
 ·intro h
  replace h:=aO h;refine bn ?_;refine Rt [] results256 ?_;refine⟨?_,rfl⟩;rw[if_neg (by rw[h];simp)]
 intro h;replace h:=aO h;refine dL ?_;refine Rt [] results256 ?_;refine⟨?_,rfl⟩;rw[if_pos (by simpa using h)]
theorem Ui (b:Nat)(C:Cs)(K:Ok C)(i:Nat)(hi:i<C.n):aG aaa 254 [Dk b,Dm Dl i] (In (Cl b C)) []
  (λv H=>v=Dm Dl (if(C.pg i).own=true then((C.pg i).cl:Int)else-1)/\H= []):=by
 refine mZ λy hy=> ?_;refine af func254 rfl ntmps254 rfl ?_;intro F ak;have h2:=ak.2.2.1;refine bs ?_;refine zl Aa (nj b C y K hy i hi) .nil (λ_ le _=>bO ak le) ?_;by_cases ho:(C.pg i).own=true
 ·rw[if_pos ho,if_pos ho]
  obtain⟨x,gb,tb,_,_,_,_,_,_,k2,_⟩:=Jv K hy ak hi ho;refine rM ?_;refine Rt [] results254 ?_;exact⟨rfl,rfl⟩
 rw[if_neg ho,if_neg ho];refine gJ ?_;refine Rt [] results254 ?_;exact⟨rfl,rfl⟩
theorem Zb (b:Nat)(C:Cs)(K:Ok C)(i:Nat)(hi:i<C.n)(ho:(C.pg i).own=true):aG aaa 255 [Dk b,Dm Dl i] (In (Cl b C)) []
  (λv H=>v=Dm Dl ((C.pg i).held)/\H= []):=by
 refine mZ λy hy=> ?_;refine af func255 rfl ntmps255 rfl ?_;intro F ak;have h2:=ak.2.2.1;refine bs ?_;refine zl Aa (nj b C y K hy i hi) .nil (λ_ le _=>bO ak le) ?_;rw[if_pos ho];obtain⟨x,gb,tb,_,_,_,_,_,_,k2,_,_,k5,_⟩:=Jv K hy ak hi ho;refine rM ?_;refine Rt [] results255 ?_;exact⟨rfl,rfl⟩
theorem VE (b:Nat)(C:Cs)(K:Ok C)(i:Nat)(hi:i<C.n)(ho:(C.pg i).own=true):aG aaa 202 [Dk b,Dm Dl i] (In (Cl b C)) []
  (λv H=>v=(match(C.pg i).tk.findIdx? id with
   |some k=> .tuple #[Dm Dj (C.hd (C.mB i k)), .bool true]
   |none=> .tuple #[Dm Dj 0, .bool false])/\H= []):=by
 refine mZ λy hy=> ?_;have P:kN C (C.pg i):=K.pg _ (dh (by rw[K.pl];exact hi));have tl:=P.tl;have gl:=P.gl ho;have hc:=P.cl ho;have f1:=K.toFix.p1;have f2:=K.toFix.n1;have hzs:=K.toFix.sz hc;have hgl:(C.pg i).aX.length<=C.ao:=by rw[gl];exact agh _ _
 refine af func202 rfl ntmps202 rfl ?_;intro F ak;have h0:=ak.1;have h2:=ak.2.2.1;unfold cI at h0;refine bK ?_;refine zl Aa (nj b C y K hy i hi) .nil (λ_ le _=>bO ak le) ?_;rw[if_pos ho];obtain⟨x,gb,tb,_,_,_,_,_,_,k2,k3,k4,k5,hg,ht⟩:=Jv K hy ak hi ho;have kz:=gO (bX ak.2.1) (gk (o5 hc));refine cK ?_;refine Lo (ι:=Nat) (FN [4,2,7,2,19,35]) (λk=>k<=(C.pg i).aX.length/\∀j,j<k->(C.pg i).tk[j]?=some false) (λk=> [(19,Dm Dl k)]) (λk=> []) (λk=>(C.pg i).aX.length-k) (0) ⟨abL _,λj hj=>absurd hj (agZ j)⟩ ?_;rintro k ⟨Wo,rp⟩;refine bq ?_;refine av ?_;refine az rfl ?_ ?_
 ·intro hk
  replace hk:=aO hk;have cJ:k<(C.pg i).aX.length:=by omega
  have et:(C.pg i).tk[k]?=some ((C.pg i).tk[k]'(by omega)):=aac _;generalize (C.pg i).tk[k]'(by omega)=t at et;have kt:=Ct et;obtain⟨m1,m2,m3⟩:=iM K hi ho cJ;have kg:=og (l:=(C.pg i).aX) (i:=k) (n:=C.gen (C.mB i k)) (by have:=tC (C:=C) (p:=C.mB i k) (by rw[m1,m2];exact cJ);rw[m1,m2]at this;exact this);obtain⟨_,_,_,_,_,n6,n7,n8⟩:=m3.ba K;have nb:=fU K.toFix;have hgt:=Live.ya K m3;refine fX ?_;refine az rfl ?_ ?_
  ·intro Dv
   replace Dv:=aO Dv;obtain rfl:t=true:=Dv;have q1:i*C.ao<=1024*1048576:=af8 (by omega) f1;have q2:k*C.sz (C.pg i).cl<=1048576*1048576:=af8 (by omega) (by omega);have e3:C.mB i k=i*C.ao+k*C.sz (C.pg i).cl:=rfl;refine av ?_;refine gT false mix ?_;refine bs ?_;refine Ti (MuN) ?_;refine bP ?_;refine Ti (MuN) ?_;refine Ti (AdN) ?_;rw[<-e3];refine bK ?_;refine Tp (oZ (Aa (n:=210)) (vq (C.mB i k) (C.gen (C.mB i k)) (by omega) hgt) .nil Di ?_);refine cA ?_;refine jT [] results202 ?_;refine⟨?_,rfl⟩;have:(C.pg i).tk.findIdx? id=some k:=by
    rw[abK];obtain⟨q1,q2⟩:=aad.1 et;refine⟨q1,by rw[q2];rfl,λj hj=> ?_⟩;obtain⟨q3,q4⟩:=aad.1 (rp j hj);rw[q4];simp
   rw[this];rfl
  intro Dv;replace Dv:=aO Dv;obtain rfl:t=false:=Dv;refine bs ?_;refine aD ?_;refine Ro (k+1) (⟨by omega,λj hj=> ?_⟩) (by omega);by_cases O0:j=k
  ·subst O0;exact et
  exact rp j (by omega)
 intro hk;replace hk:=aO hk;obtain rfl:k=(C.pg i).aX.length:=by omega
 refine bB ?_;refine jT [] results202 ?_;refine⟨?_,rfl⟩;have:(C.pg i).tk.findIdx? id=none:=by
  rw[ago];intro z hz;obtain⟨j,hj⟩:=agA hz;have hjl:=(aad.1 hj).1;rw[rp j (by omega)]at hj;cases hj;rfl
 rw[this]
open Go Go.dC
theorem CD{α:Type}(f:α->Nat):∀{l:List α} {i:Nat} {x:α} (_:l[i]?=some x) (y:α),((l.set i y).map f).sum+f x=(l.map f).sum+f y
 | [],i,x,h,y=>by simp at h
 |z::l,0,x,h,y=>by
  simp only[ajG,Option.some.injEq]at h;subst h;simp only[List.set_cons_zero,aaj,abJ];omega
 |z::l,i+1,x,h,y=>by
  simp only[agF]at h;have:=CD f h y;simp only[List.set_cons_succ,aaj,abJ];omega
theorem iX{α:Type}(f:α->Nat):∀{l:List α} {i:Nat} {x:α},l[i]?=some x->f x<=(l.map f).sum
 | [],i,x,h=>by simp at h
 |z::l,0,x,h=>by
  simp only[ajG,Option.some.injEq]at h;subst h;simp only[aaj,abJ];omega
 |z::l,i+1,x,h=>by
  simp only[agF]at h;have:=iX f h;simp only[aaj,abJ];omega
namespace Cs
def Am (C:Cs)(i:Nat)(x:Pg):Cs:={C with bm:=C.bm.set i x}
def aau (C:Cs)(c:Nat)(r:Rw):Cs:={C with rows:=C.rows.set c r}
theorem BU (C:Cs)(i j:Nat)(x:Pg)(h:i<C.bm.length):(C.Am i x).pg j=if j=i then x else C.pg j:=by
 unfold Cs.pg Am;rw[aab,aab];by_cases e:j=i
 ·subst e;rw[if_pos rfl,aah h];rfl
 rw[if_neg e,abX (λq=>e q.symm)]
theorem uM (C:Cs)(c d:Nat)(r:Rw)(h:c<C.rows.length):(C.aau c r).rw d=if d=c then r else C.rw d:=by
 unfold Cs.rw aau;rw[aab,aab];by_cases e:d=c
 ·subst e;rw[if_pos rfl,aah h];rfl
 rw[if_neg e,abX (λq=>e q.symm)]
theorem ZF{C:Cs}{i:Nat}(h:i<C.bm.length)(f:Pg->Nat)(x:Pg):(C.Am i x).wR f+f (C.pg i)=C.wR f+f x:=CD f (ki h) x
structure Qc (x y:Pg):Prop where
 own:y.own=x.own
 cl:y.cl=x.cl
 gl:y.aX.length=x.aX.length
structure DP (C D:Cs):Prop where
 ao:D.ao=C.ao
 n:D.n=C.n
 ae:D.ae=C.ae
 pg:∀i,Qc (C.pg i) (D.pg i)
theorem DP.sz{C D:Cs}(S:DP C D)(c:Nat):D.sz c=C.sz c:=by unfold Cs.sz;rw[S.ae]
theorem DP.pn{C D:Cs}(S:DP C D)(p:Nat):D.pn p=C.pn p:=by unfold Cs.pn;rw[S.ao]
theorem DP.cl{C D:Cs}(S:DP C D)(p:Nat):D.cl p=C.cl p:=by unfold Cs.cl;rw[S.pn,(S.pg _).cl]
theorem DP.ix{C D:Cs}(S:DP C D)(p:Nat):D.ix p=C.ix p:=by unfold Cs.ix;rw[S.cl,S.sz,S.ao]
theorem DP.at{C D:Cs}(S:DP C D){p:Nat}:At D p↔At C p:=by
 constructor
 ·intro h;exact⟨by rw[<-S.pn,<-S.n];exact h.i,by rw[<-S.pn,<-(S.pg _).own];exact h.own,by rw[<-S.ao,<-S.cl,<-S.sz];exact h.al,by rw[<-S.ix,<-S.pn,<-(S.pg _).gl];exact h.k⟩
 intro h;exact⟨by rw[S.pn,S.n];exact h.i,by rw[S.pn,(S.pg _).own];exact h.own,by rw[S.ao,S.cl,S.sz];exact h.al,by rw[S.ix,S.pn,(S.pg _).gl];exact h.k⟩
theorem XU{C:Cs}{i:Nat}(h:i<C.bm.length){x:Pg}(l:Qc (C.pg i) x):DP C (C.Am i x):=⟨rfl,rfl,rfl,λj=>by
 rw[BU C i j x h];split
 ·rename_i e;subst e;exact l
 exact⟨rfl,rfl,rfl⟩⟩
def put (C:Cs)(i:Nat)(x:Pg)(c:Nat)(r:Rw)(sp:Nat)(A:By):Cs:={C with bm:=C.bm.set i x,rows:=C.rows.set c r,spare:=sp,A:=A}
def fR (C:Cs)(c p:Nat):Cs:=
 C.put (C.pn p) {C.pg (C.pn p)with tk:=(C.pg (C.pn p)).tk.set (C.ix p) true,held:=(C.pg (C.pn p)).held+1} c {C.rw c with free:=(C.rw c).free.dropLast,ct:=(C.rw c).ct+1} C.spare
  (wr (lay C.A p (aae 56 0)) (p+12) 4 (C.gen p))
def aL (C:Cs)(p:Nat):Cs:=
 C.put (C.pn p) {C.pg (C.pn p)with tk:=(C.pg (C.pn p)).tk.set (C.ix p) false,held:=(C.pg (C.pn p)).held-1,aX:=(C.pg (C.pn p)).aX.set (C.ix p) ((C.gen p+1) % 4294967296)} (C.cl p)
  {C.rw (C.cl p)with free:=if(C.pg (C.pn p)).lv=true then(C.rw (C.cl p)).free else(C.rw (C.cl p)).free++ [p],ct:=(C.rw (C.cl p)).ct-1} C.spare C.A
def iD (C:Cs)(i c:Nat)(tk:List Bool):FH:=(((abM tk.length).reverse.filter λk=>tk[k]?==some false).map λk=>i*C.ao+k*C.sz c)
def DS (l:List (Nat×Nat))(k:Nat):Nat:=((l.find? λe=>decide (e.1=k)).map (·.2)).getD 0
def fK (C:Cs)(i c:Nat):Pg:=
 {C.pg i with own:=true,cl:=c,aX:=(abM (C.ao/C.sz c)).map λk=>DS (C.pg i).old (k*C.sz c),tk:=aae (C.ao/C.sz c) false}
def bE (C:Cs)(i c:Nat):Cs:=
 C.put i (C.fK i c) c {C.rw c with bA:=(C.rw c).bA+1,ig:=(C.rw c).ig+1,free:=(C.rw c).free++C.iD i c (aae (C.ao/C.sz c) false)} (C.spare-1) C.A
def cS (C:Cs)(i:Nat):Cs:=
 C.put i {C.pg i with lv:=true} (C.pg i).cl {C.rw (C.pg i).cl with ig:=(C.rw (C.pg i).cl).ig-1,free:=(C.rw (C.pg i).cl).free.filter λp=>decide (C.pn p≠i)} C.spare C.A
def iu (C:Cs)(i:Nat):Cs:=
 C.put i {C.pg i with lv:=false} (C.pg i).cl {C.rw (C.pg i).cl with ig:=(C.rw (C.pg i).cl).ig+1,free:=(C.rw (C.pg i).cl).free++C.iD i (C.pg i).cl (C.pg i).tk} C.spare C.A
def rN (l:List (Nat×Nat))(k g:Nat):List (Nat×Nat):=if k∈l.map (·.1)then l.map (λp=>if p.1=k then(k,g)else p)else l++ [(k,g)]
def rP (C:Cs)(x:Pg):List (Nat×Nat):=(abM x.aX.length).foldl (λl k=>rN l (k*C.sz x.cl) (x.aX.getD k 0)) x.old
def aU (C:Cs)(i:Nat):Cs:=
 C.put i {Pg.no with old:=C.rP (C.pg i)} (C.pg i).cl {C.rw (C.pg i).cl with bA:=(C.rw (C.pg i).cl).bA-1} (C.spare+1) C.A
def gr (C:Cs):FK:=C.bm.findIdx? λx=> !x.own
def ca (C:Cs)(c:Nat):Option (Nat×Cs):=
 match(C.rw c).free.getLast? with
 |some p=>some (p,C.fR c p)
 |none=>match C.gr with
  |none=>none
  |some i=>match((C.bE i c).rw c).free.getLast? with
   |some p=>some (p,(C.bE i c).fR c p)
   |none=>none
theorem ain{C:Cs}(K:Ok C){p:Nat}(L:At C p):∃b,(C.pg (C.pn p)).tk[C.ix p]?=some b:=by
 have P:=K.s9 L.i;exact⟨_,aac (by rw[P.tl];exact L.k)⟩
theorem SP{l:List Bool}{k:Nat}{b:Bool}(h:l[k]?=some b)(c:Bool):((l.set k c).map bN).sum+bN b=(l.map bN).sum+bN c:=CD bN h c
theorem ID{C:Cs}{i:Nat}{x z:Pg}(h:z∈(C.Am i x).bm):z=x\/z∈C.bm:=by
 unfold Am at h;exact(af5 h).symm
theorem kO{C:Cs}{i c sp:Nat}{x:Pg}{r:Rw}{A:By}(h:i<C.bm.length)(j:Nat):(C.put i x c r sp A).pg j=if j=i then x else C.pg j:=BU C i j x h
theorem rX{C:Cs}{i c sp:Nat}{x:Pg}{r:Rw}{A:By}(h:c<C.rows.length)(d:Nat):(C.put i x c r sp A).rw d=if d=c then r else C.rw d:=uM C c d r h
theorem w7{C:Cs}{i c sp:Nat}{x:Pg}{r:Rw}{A:By}(h:i<C.bm.length)(l:Qc (C.pg i) x):DP C (C.put i x c r sp A):=⟨rfl,rfl,rfl,(XU h l).pg⟩
structure Nfr (C:Cs)(x:Pg)(c q:Nat):Prop where
 own:x.own=true
 al:q % C.ao % C.sz c=0
 tk:x.tk[q % C.ao/C.sz c]?=some false
 lv:x.lv=false
theorem kN.put{C:Cs}{i c sp:Nat}{y:Pg}{r:Rw}{A:By}{x:Pg}(P:kN C x):kN (C.put i y c r sp A) x:=⟨P.cl,P.gl,P.tl,P.g32,P.Wy,P.nd,P.held,P.no⟩
theorem Kv{C:Cs}(K:Ok C){d q:Nat}(h:C.pn q<C.n):zO C d q↔C.cl q=d/\Nfr C (C.pg (C.pn q)) d q:=by
 constructor
 ·intro G
  have c:=G.cl;exact⟨c,G.own,by have:=G.al;rwa[c]at this,by have:=G.tk;unfold Cs.ix at this;rwa[c]at this,G.lv⟩
 rintro⟨rfl,G⟩;have P:=K.s9 h;refine⟨⟨h,G.own,G.al, ?_⟩,rfl,G.tk,G.lv⟩;have:=(aad.1 G.tk).1;rw[P.tl]at this;exact this
theorem uO{C:Cs}(K:Ok C){i c sp:Nat}{x:Pg}{r:Rw}{A:By}(hi:i<C.n)(gS:c<C.ae.length)(ho:(C.pg i).own=true->(C.pg i).cl=c)(hx:x.own=true->x.cl=c)(P:kN C x)(zE:r.free.Nodup)
  (Bs:∀q,q∈r.free↔(zO C c q/\C.pn q≠i)\/(C.pn q=i/\Nfr C x c q))
  (ht:r.ct+uC c (C.pg i)=(C.rw c).ct+uC c x) (hp:r.bA+sJ c (C.pg i)=(C.rw c).bA+sJ c x) (hs:r.ig+xD c (C.pg i)=(C.rw c).ig+xD c x) (Gj:sp+wQ (C.pg i)=C.spare+wQ x):Ok (C.put i x c r sp A):=by
 have hpl:i<C.bm.length:=by rw[K.pl];exact hi
 have cQ:c<C.rows.length:=by rw[K.rl];exact gS
 have iF:=kO (C:=C) (c:=c) (sp:=sp) (x:=x) (r:=r) (A:=A) hpl;have hrw:=rX (C:=C) (i:=i) (sp:=sp) (x:=x) (r:=r) (A:=A) cQ;have Xk:∀f,(C.put i x c r sp A).wR f+f (C.pg i)=C.wR f+f x:=λf=>ZF hpl f x;have hPg:∀z∈(C.put i x c r sp A).bm,kN (C.put i x c r sp A) z:=by
  intro z hz;rcases ID (C:=C) hz with rfl|hz
  ·exact P.put
  exact(K.pg z hz).put
 have ah1:∀d q,zO (C.put i x c r sp A) d q↔(zO C d q/\C.pn q≠i)\/(d=c/\C.pn q=i/\Nfr C x c q):=by
  intro d q;have I8:(C.put i x c r sp A).pn q=C.pn q:=rfl;by_cases e:C.pn q=i
  ·have uH:(C.put i x c r sp A).cl q=x.cl:=by unfold Cs.cl;rw[I8,iF,if_pos e]
   have Gk:(C.put i x c r sp A).ix q=q % C.ao/C.sz x.cl:=by unfold Cs.ix;rw[uH];rfl
   constructor
   ·intro G
    have g1:=G.own;have g2:=G.tk;have g3:=G.lv;have g4:=G.al;have g5:=G.cl;rw[I8,iF,if_pos e]at g1 g2 g3;rw[uH]at g4 g5;rw[Gk]at g2;have hc:=hx g1;rw[hc]at g2 g4 g5;exact .inr ⟨g5.symm,e,g1,g4,g2,g3⟩
   rintro(⟨_,b⟩|⟨rfl,_,G⟩)
   ·exact absurd e b
   have hc:=hx G.own;refine⟨⟨by rw[I8,e];exact hi,by rw[I8,iF,if_pos e];exact G.own,by rw[uH,hc];exact G.al, ?_⟩,by rw[uH,hc], ?_,by rw[I8,iF,if_pos e];exact G.lv⟩
   ·rw[I8,iF,if_pos e,Gk,hc,<-P.tl]
    exact(aad.1 G.tk).1
   rw[I8,iF,if_pos e,Gk,hc];exact G.tk
  have dD:(C.put i x c r sp A).pg (C.pn q)=C.pg (C.pn q):=by rw[iF,if_neg e]
  have uH:(C.put i x c r sp A).cl q=C.cl q:=by unfold Cs.cl;rw[I8,dD]
  have Gk:(C.put i x c r sp A).ix q=C.ix q:=by unfold Cs.ix;rw[uH];rfl
  constructor
  ·intro G
   exact .inl ⟨⟨⟨G.i,by rw[<-dD];exact G.own,by rw[<-uH];exact G.al,by rw[<-Gk,<-dD];exact G.k⟩,by rw[<-uH];exact G.cl,by rw[<-Gk,<-dD];exact G.tk,by rw[<-dD];exact G.lv⟩,e⟩
  rintro(⟨G,_⟩|⟨_,b,_⟩)
  ·exact⟨⟨G.i,by rw[I8,dD];exact G.own,by rw[uH];exact G.al,by rw[Gk,I8,dD];exact G.k⟩,by rw[uH];exact G.cl,by rw[Gk,I8,dD];exact G.tk,by rw[I8,dD];exact G.lv⟩
  exact absurd b e
 refine⟨⟨K.p0,K.p1,K.p8,K.n0,K.n1,K.l0,K.l1,K.s0,by simp[put,K.pl],by simp[put,K.rl]⟩,hPg, ?_, ?_, ?_, ?_, ?_, ?_, ?_⟩
 ·intro d q hq
  rw[hrw]at hq;refine(ah1 d q).2 ?_;by_cases e:d=c
  ·subst e
   rw[if_pos rfl]at hq;rcases(Bs q).1 hq with h1|h1
   ·exact .inl h1
   exact .inr ⟨rfl,h1⟩
  rw[if_neg e]at hq;have G:=K.fr d q hq;refine .inl ⟨G,λe2=>e ?_⟩;have g1:=G.own;rw[e2]at g1;rw[<-G.cl,<-ho g1,<-e2];rfl
 ·intro d
  rw[hrw];split
  ·exact zE
  exact K.fn d
 ·intro d q G hd
  rw[hrw];rcases(ah1 d q).1 G with⟨G1,h2⟩|⟨rfl,h1⟩
  ·split
   ·rename_i e;subst e;exact(Bs q).2 (.inl ⟨G1,h2⟩)
   exact K.fa d q G1 hd
  rw[if_pos rfl];exact(Bs q).2 (.inr h1)
 all_goals try intro d hd
 all_goals try (have h1:=Xk (uC d);have h2:=K.ft d hd;have h3:=Xk (sJ d);have h4:=K.fp d hd;have h5:=Xk (xD d);have h6:=K.fs d hd;rw[hrw])
 ·by_cases e:d=c
  ·subst e;rw[if_pos rfl];omega
  rw[if_neg e];have q1:uC d (C.pg i)=0:=by unfold uC;rw[if_neg λq=>e (q.2.symm.trans (ho q.1))]
  have q2:uC d x=0:=by unfold uC;rw[if_neg λq=>e (q.2.symm.trans (hx q.1))]
  omega
 ·by_cases e:d=c
  ·subst e;rw[if_pos rfl];omega
  rw[if_neg e];have q1:sJ d (C.pg i)=0:=by unfold sJ;rw[if_neg λq=>e (q.2.symm.trans (ho q.1))]
  have q2:sJ d x=0:=by unfold sJ;rw[if_neg λq=>e (q.2.symm.trans (hx q.1))]
  omega
 ·by_cases e:d=c
  ·subst e;rw[if_pos rfl];omega
  rw[if_neg e];have q1:xD d (C.pg i)=0:=by unfold xD;rw[if_neg λq=>e (q.2.1.symm.trans (ho q.1))]
  have q2:xD d x=0:=by unfold xD;rw[if_neg λq=>e (q.2.1.symm.trans (hx q.1))]
  omega
 have h1:=Xk wQ;have h2:=K.sp;show sp=_;omega
theorem xV{C:Cs}(K:Ok C){p q:Nat}(L:At C p)(M:At C q)(e:C.pn q=C.pn p)(h:q≠p):C.ix q≠C.ix p:=λe2=>h (by rw[<-G7 K M,<-G7 K L,e,e2])
theorem tK{C:Cs}(K:Ok C){p c:Nat}(h:(C.rw c).free.getLast?=some p):Ok (C.fR c p)/\DP C (C.fR c p)/\zO C c p:=by
 have hm:p∈(C.rw c).free:=List.mem_of_getLast? h;have F:=K.fr c p hm;have L:=F.toAt;have fQ:(C.rw c).free≠ []:=List.ne_nil_of_mem hm;have mP:(C.rw c).free=(C.rw c).free.dropLast++ [p]:=by
  have:=ajW fQ;rw[agk fQ]at h;rw[Option.some.inj h]at this;exact this.symm
 have zE:=K.fn c;rw[mP]at zE;rw[af4]at zE;have PO:p∉(C.rw c).free.dropLast:=λhq=>zE.2.2 p hq p (List.mem_singleton_self p) rfl;have P:=K.s9 L.i;have gS:c<C.ae.length:=by rw[<-F.cl];exact(L.ba K).1
 have hs:=SP F.tk true;have hh:=P.held;rw[show bN false=0 from rfl,show bN true=1 from rfl]at hs;have fT:∀y:Pg,y.own=true->y.cl=c->uC c y=y.held:=λy a b=>by unfold uC;rw[if_pos ⟨a,b⟩]
 have hl:Qc (C.pg (C.pn p)) {C.pg (C.pn p)with tk:=(C.pg (C.pn p)).tk.set (C.ix p) true,held:=(C.pg (C.pn p)).held+1}:=⟨rfl,rfl,rfl⟩;refine⟨uO K L.i gS (λ_=>F.cl) (λ_=>F.cl) ⟨P.cl,P.gl,by simpa using P.tl,P.g32,P.Wy,P.nd,by dsimp only;omega,λh=>absurd (L.own.symm.trans h) (by simp)⟩ zE.1 (λq=> ?_) (by have q1:=fT (C.pg (C.pn p)) L.own F.cl;have q2:=fT {C.pg (C.pn p)with tk:=(C.pg (C.pn p)).tk.set (C.ix p) true,held:=(C.pg (C.pn p)).held+1} L.own F.cl;dsimp only at q1 q2⊢;omega) rfl rfl rfl,w7 (by rw[K.pl];exact L.i) hl,F⟩;have wH:q∈(C.rw c).free↔zO C c q:=⟨K.fr c q,λG=>K.fa c q G gS⟩;have hq:q∈(C.rw c).free.dropLast↔zO C c q/\q≠p:=by
  rw[<-wH];constructor
  ·intro h1;exact⟨by rw[mP];exact List.mem_append_left _ h1,λe=>PO (e▸h1)⟩
  rintro⟨h1,h2⟩;rw[mP]at h1;exact(agb.1 h1).resolve_right λh3=>h2 (abR.1 h3)
 dsimp only;rw[hq];have Gk:∀z,C.pn z=C.pn p->z % C.ao/C.sz c=C.ix z:=λz e=>by
  unfold Cs.ix Cs.cl;rw[e];have:=F.cl;unfold Cs.cl at this;rw[this]
 constructor
 ·rintro⟨G,fQ⟩
  by_cases e:C.pn q=C.pn p
  ·have g2:=((Kv K G.i).1 G).2
   refine .inr ⟨e,L.own,g2.al, ?_,by rw[<-e];exact G.lv⟩;rw[Gk q e];rw[abX (λz=>xV K L G.toAt e fQ z.symm),<-e];exact G.tk
  exact .inl ⟨G,e⟩
 rintro(⟨G,e⟩|⟨e,N⟩)
 ·exact⟨G,λz=>e (by rw[z])⟩
 have t:=N.tk;rw[Gk q e]at t;have fQ:q≠p:=by
  rintro rfl;rw[aah (aad.1 F.tk).1]at t;cases t
 have hcq:C.cl q=c:=by unfold Cs.cl;rw[e];exact F.cl
 have a:At C q:=⟨by rw[e];exact L.i,by rw[e];exact L.own,by rw[hcq];exact N.al,by
  have:=(aad.1 t).1;rw[aak,P.tl]at this;rw[e];exact this⟩
 rw[abX (λz=>xV K L a e fQ z.symm)]at t;exact⟨⟨a,hcq,by rw[e];exact t,by rw[e];exact N.lv⟩,fQ⟩
theorem IC{C:Cs}(F:Fix C){c:Nat}(hc:c<C.ae.length){i k:Nat}(hk:k<C.ao/C.sz c):C.pn (i*C.ao+k*C.sz c)=i/\(i*C.ao+k*C.sz c) % C.ao=k*C.sz c/\k*C.sz c % C.sz c=0/\k*C.sz c/C.sz c=k:=by
 obtain⟨h1,h2,h3⟩:=F.sz hc;have LB:=F.pos;have e3:k*C.sz c+C.sz c<=C.ao:=by
  have h4:=abW (C.sz c) (show k+1<=C.ao/C.sz c from hk);have h5:=ajL C.ao (C.sz c);rw[agr,agw]at h4;omega
 refine⟨?_, ?_,akF _ _,aks _ (by omega)⟩
 ·unfold Cs.pn
  rw[agc,akK LB,akE (by omega)];omega
 rw[agc,akL,abZ (by omega)]
theorem qO{C:Cs}(F:Fix C){i c:Nat}(hc:c<C.ae.length){tk:List Bool}(ht:tk.length<=C.ao/C.sz c)(q:Nat):
  q∈C.iD i c tk↔C.pn q=i/\q % C.ao % C.sz c=0/\tk[q % C.ao/C.sz c]?=some false:=by
 unfold iD;rw[abF];constructor
 ·rintro⟨k,hk,rfl⟩
  rw[abG,agH,ab0]at hk;obtain⟨a1,a2,a3,a4⟩:=IC F hc (i:=i) (k:=k) (by omega);rw[a1,a2];refine⟨rfl,a3, ?_⟩;rw[a4];simpa using hk.2
 rintro⟨h1,h2,h3⟩;have hk:=(aad.1 h3).1;refine⟨q % C.ao/C.sz c, ?_, ?_⟩
 ·rw[abG,agH,ab0]
  exact⟨hk,by rw[h3];rfl⟩
 have e1:=agM q C.ao;have e2:=agM (q % C.ao) (C.sz c);unfold Cs.pn at h1;rw[h1]at e1;rw[agc]at e1 e2;omega
theorem Bb{C:Cs}(F:Fix C){i c:Nat}(hc:c<C.ae.length)(tk:List Bool):(C.iD i c tk).Nodup:=by
 obtain⟨h1,_⟩:=F.sz hc;unfold iD;rw[List.Nodup,List.pairwise_map];have hr:((abM tk.length).reverse).Pairwise (λa b:Nat=>a≠b):=by
  rw[List.pairwise_reverse];exact agG.imp (λ{a b} h e=>h e.symm) (List.nodup_range (n:=tk.length))
 refine agG.imp (λ{a b} h e=> ?_) (agG.filter _ hr);have:a*C.sz c=b*C.sz c:=by omega
 exact h (Nat.eq_of_mul_eq_mul_right (by omega) this)
theorem uU{c:Nat}{y:Pg}(a:y.own=true)(b:y.cl=c):uC c y=y.held:=by unfold uC;rw[if_pos ⟨a,b⟩]
theorem Gk{C:Cs}{c i:Nat}(hc:(C.pg i).cl=c){z:Nat}(e:C.pn z=i):z % C.ao/C.sz c=C.ix z:=by
 unfold Cs.ix Cs.cl;rw[e,hc]
theorem YF{C:Cs}(K:Ok C){i:Nat}(hi:i<C.n)(ho:(C.pg i).own=true){x:Pg}(hl:x.tk.length=(C.pg i).tk.length){q:Nat}(e:C.pn q=i)(N:Nfr C x (C.pg i).cl q):At C q/\C.cl q=(C.pg i).cl/\x.tk[C.ix q]?=some false:=by
 have t:=N.tk;rw[Gk rfl e]at t;have hcq:C.cl q=(C.pg i).cl:=by unfold Cs.cl;rw[e]
 have P:kN C (C.pg i):=K.pg _ (dh (by rw[K.pl];exact hi));refine⟨⟨by rw[e];exact hi,by rw[e];exact ho,by rw[hcq];exact N.al, ?_⟩,hcq,t⟩;have:=(aad.1 t).1;rw[hl,P.tl]at this;rw[e];exact this
theorem TQ (x:Pg)(tk:List Bool)(h:Nat)(g:FH)(hg:g.length=x.aX.length):Qc x {x with tk:=tk,held:=h,aX:=g}:=⟨rfl,rfl,hg⟩
theorem gR{C:Cs}(K:Ok C){p:Nat}(L:Live C p):Ok (C.aL p)/\DP C (C.aL p):=by
 have P:=K.s9 L.i;have gS:=(L.toAt.ba K).1;have hs:=SP L.tk false;have hh:=P.held;rw[show bN false=0 from rfl,show bN true=1 from rfl]at hs;have hT:=K.ft _ gS;have hTl:(C.pg (C.pn p)).held<=(C.rw (C.cl p)).ct:=by
  have h1:=iX (uC (C.cl p)) (ki (C:=C) (i:=C.pn p) (by rw[K.pl];exact L.i));rw[uU (c:=C.cl p) L.own rfl]at h1;rw[hT];exact h1
 have hlen:(C.pg (C.pn p)).aX.length=((C.pg (C.pn p)).aX.set (C.ix p) ((C.gen p+1) % 4294967296)).length:=by simp
 have wH:∀q,q∈(C.rw (C.cl p)).free↔zO C (C.cl p) q:=λq=>⟨K.fr _ q,λG=>K.fa _ q G gS⟩;have hnp:p∉(C.rw (C.cl p)).free:=λh=>by
  have:=((wH p).1 h).tk;rw[L.tk]at this;cases this
 refine⟨uO K L.i gS (λ_=>rfl) (λ_=>rfl) ⟨P.cl,λh=>by rw[<-hlen];exact P.gl h,by simpa using P.tl, ?_,P.Wy,P.nd,by dsimp only;omega,λh=>absurd (L.own.symm.trans h) (by simp)⟩ ?_ (λq=> ?_) ?_ rfl rfl rfl,w7 (by rw[K.pl];exact L.i) (TQ _ _ _ _ hlen.symm)⟩
 ·intro g hg
  rcases af5 hg with h|rfl
  ·exact P.g32 g h
  exact ag6 _ (by decide)
 ·dsimp only
  split
  ·exact K.fn _
  rw[af4];exact⟨K.fn _,by simp,λa ha b hb e=>hnp ((e.trans (abR.1 hb))▸ha)⟩
 ·dsimp only
  have key:∀q,C.pn q=C.pn p->Nfr C {C.pg (C.pn p)with tk:=(C.pg (C.pn p)).tk.set (C.ix p) false,held:=(C.pg (C.pn p)).held-1,aX:=(C.pg (C.pn p)).aX.set (C.ix p) ((C.gen p+1) % 4294967296)} (C.cl p) q->(C.pg (C.pn p)).lv=false/\(q=p\/zO C (C.cl p) q):=by
   intro q e N;obtain⟨a,b,t⟩:=YF K L.i L.own (x:={C.pg (C.pn p)with tk:=(C.pg (C.pn p)).tk.set (C.ix p) false,held:=(C.pg (C.pn p)).held-1,aX:=(C.pg (C.pn p)).aX.set (C.ix p) ((C.gen p+1) % 4294967296)}) (by simp) e N;refine⟨N.lv, ?_⟩;by_cases fQ:q=p
   ·exact .inl fQ
   dsimp only at t;rw[abX (λz=>xV K L.toAt a e fQ z.symm)]at t;exact .inr ⟨a,b,by rw[e];exact t,by rw[e];exact N.lv⟩
  have back:∀q,C.pn q=C.pn p->(C.pg (C.pn p)).lv=false->(q=p\/zO C (C.cl p) q)->Nfr C {C.pg (C.pn p)with tk:=(C.pg (C.pn p)).tk.set (C.ix p) false,held:=(C.pg (C.pn p)).held-1,aX:=(C.pg (C.pn p)).aX.set (C.ix p) ((C.gen p+1) % 4294967296)} (C.cl p) q:=by
   intro q e jC h;have hk:C.ix p<(C.pg (C.pn p)).tk.length:=(aad.1 L.tk).1;rcases h with rfl|G
   ·refine⟨L.own,L.al, ?_,jC⟩
    rw[Gk (c:=C.cl q) (i:=C.pn q) rfl rfl,aah hk]
   have a2:=((Kv K G.i).1 G).2;refine⟨L.own,a2.al, ?_,jC⟩;have fQ:q≠p:=λz=>by
    have:=G.tk;rw[z,L.tk]at this;cases this
   rw[Gk (c:=C.cl p) (i:=C.pn p) rfl e,abX (λz=>xV K L.toAt G.toAt e fQ z.symm),<-e];exact G.tk
  by_cases jC:(C.pg (C.pn p)).lv=true
  ·rw[if_pos jC,wH]
   constructor
   ·intro G
    by_cases e:C.pn q=C.pn p
    ·have:=G.lv
     rw[e,jC]at this;cases this
    exact .inl ⟨G,e⟩
   rintro(⟨G,_⟩|⟨e,N⟩)
   ·exact G
   have:=(key q e N).1;rw[jC]at this;cases this
  have hlv2:(C.pg (C.pn p)).lv=false:=by simpa using jC
  rw[if_neg jC,agb,wH,abR];constructor
  ·intro h
   by_cases e:C.pn q=C.pn p
   ·exact .inr ⟨e,back q e hlv2 h.symm⟩
   rcases h with G|rfl
   ·exact .inl ⟨G,e⟩
   exact absurd rfl e
  rintro(⟨G,_⟩|⟨e,N⟩)
  ·exact .inl G
  exact((key q e N).2).symm
 have q1:=uU (c:=C.cl p) (y:=C.pg (C.pn p)) L.own rfl;have q2:=uU (c:=C.cl p) (y:={C.pg (C.pn p)with tk:=(C.pg (C.pn p)).tk.set (C.ix p) false,held:=(C.pg (C.pn p)).held-1,aX:=(C.pg (C.pn p)).aX.set (C.ix p) ((C.gen p+1) % 4294967296)}) L.own rfl;dsimp only at q1 q2⊢;omega
theorem AY{C:Cs}(K:Ok C){i:Nat}(hi:i<C.n)(ho:(C.pg i).own=true)(jC:(C.pg i).lv=false):Ok (C.cS i)/\DP C (C.cS i):=by
 have P:kN C (C.pg i):=K.pg _ (dh (by rw[K.pl];exact hi));have gS:=P.cl ho;have hS:1<=(C.rw (C.pg i).cl).ig:=by
  have h1:=iX (xD (C.pg i).cl) (ki (C:=C) (i:=i) (by rw[K.pl];exact hi));rw[K.fs _ gS];have:xD (C.pg i).cl (C.pg i)=1:=by unfold xD;rw[if_pos ⟨ho,rfl,jC⟩]
  rw[this]at h1;exact h1
 refine⟨uO K hi gS (λ_=>rfl) (λ_=>rfl) ⟨P.cl,P.gl,P.tl,P.g32,P.Wy,P.nd,P.held,λh=>absurd (ho.symm.trans h) (by simp)⟩ ((K.fn _).filter _) (λq=> ?_) ?_ ?_ ?_ rfl,w7 (by rw[K.pl];exact hi) ⟨rfl,rfl,rfl⟩⟩
 ·dsimp only
  rw[abG];constructor
  ·rintro⟨h1,h2⟩;exact .inl ⟨K.fr _ q h1,by simpa using h2⟩
  rintro(⟨G,e⟩|⟨_,N⟩)
  ·exact⟨K.fa _ q G gS,by simpa using e⟩
  have:=N.lv;cases this
 ·simp[uC,ho]
 ·simp[sJ,ho]
 simp only[xD,ho,jC];simp;omega
theorem yq{C:Cs}(K:Ok C){i:Nat}(hi:i<C.n)(ho:(C.pg i).own=true)(jC:(C.pg i).lv=true):Ok (C.iu i)/\DP C (C.iu i):=by
 have P:kN C (C.pg i):=K.pg _ (dh (by rw[K.pl];exact hi));have gS:=P.cl ho;have htl:(C.pg i).tk.length<=C.ao/C.sz (C.pg i).cl:=by rw[P.tl,P.gl ho];exact aam _
 have PO:∀q∈(C.rw (C.pg i).cl).free,C.pn q≠i:=λq hq e=>by
  have:=(K.fr _ q hq).lv;rw[e,jC]at this;cases this
 refine⟨uO K hi gS (λ_=>rfl) (λ_=>rfl) ⟨P.cl,P.gl,P.tl,P.g32,P.Wy,P.nd,P.held,λh=>absurd (ho.symm.trans h) (by simp)⟩ ?_ (λq=> ?_) ?_ ?_ ?_ rfl,w7 (by rw[K.pl];exact hi) ⟨rfl,rfl,rfl⟩⟩
 ·dsimp only
  rw[af4];refine⟨K.fn _,Bb K.toFix gS _,λa ha b hb e=>PO a ha ?_⟩;rw[e];exact((qO K.toFix gS htl b).1 hb).1
 ·dsimp only
  rw[agb,qO K.toFix gS htl];constructor
  ·rintro(h|⟨h1,h2,h3⟩)
   ·exact .inl ⟨K.fr _ q h,PO q h⟩
   exact .inr ⟨h1,ho,h2,h3,rfl⟩
  rintro(⟨G,_⟩|⟨h1,N⟩)
  ·exact .inl (K.fa _ q G gS)
  exact .inr ⟨h1,N.al,N.tk⟩
 ·simp[uC,ho]
 ·simp[sJ,ho]
 simp only[xD,ho,jC];simp
theorem YD{l:List (Nat×Nat)}(h:∀g∈l,g.2<4294967296)(k:Nat):DS l k<4294967296:=by
 unfold DS;cases e:l.find? λe=>decide (e.1=k)with
 |none=>simp
 |some v=>simpa using h v (List.mem_of_find?_eq_some e)
theorem afL (n:Nat):((aae n false).map bN).sum=0:=by
 induction n with
 |zero=>rfl
 |succ n ih=>simp[List.replicate_succ,bN]
theorem Az{C:Cs}(K:Ok C){i c:Nat}(hi:i<C.n)(gS:c<C.ae.length)(ho:(C.pg i).own=false):Ok (C.bE i c):=by
 have P:kN C (C.pg i):=K.pg _ (dh (by rw[K.pl];exact hi));obtain⟨q1,q2,q3⟩:=P.no ho;have hh:=P.held;have Dv:(C.pg i).tk= []:=abO (by rw[P.tl,q1];rfl);rw[Dv]at hh;simp only[List.map_nil,List.sum_nil]at hh;have PO:∀q∈(C.rw c).free,C.pn q≠i:=λq hq e=>by
  have:=(K.fr _ q hq).own;rw[e,ho]at this;cases this
 have Gj:1<=C.spare:=by
  have h1:=iX wQ (ki (C:=C) (i:=i) (by rw[K.pl];exact hi));rw[K.sp];have:wQ (C.pg i)=1:=by unfold wQ;rw[if_neg (by rw[ho];simp)]
  rw[this]at h1;exact h1
 have htl:(aae (C.ao/C.sz c) false).length<=C.ao/C.sz c:=by simp
 refine uO K hi gS (λh=>absurd (ho.symm.trans h) (by simp)) (λ_=>rfl) ⟨λ_=>gS,λ_=>by simp[fK],by simp[fK], ?_,P.Wy,P.nd, ?_,λh=>absurd h (by simp[fK])⟩ ?_ (λq=> ?_) ?_ ?_ ?_ ?_
 ·intro g hg
  simp only[fK,abF]at hg;obtain⟨k,_,rfl⟩:=hg;exact YD P.Wy _
 ·show(C.pg i).held=_
  rw[hh];exact(afL _).symm
 ·dsimp only
  rw[af4];refine⟨K.fn _,Bb K.toFix gS _,λa ha b hb e=>PO a ha ?_⟩;rw[e];exact((qO K.toFix gS htl b).1 hb).1
 ·dsimp only
  rw[agb,qO K.toFix gS htl];constructor
  ·rintro(h|⟨h1,h2,h3⟩)
   ·exact .inl ⟨K.fr _ q h,PO q h⟩
   exact .inr ⟨h1,rfl,h2,h3,q2⟩
  rintro(⟨G,_⟩|⟨h1,N⟩)
  ·exact .inl (K.fa _ q G gS)
  exact .inr ⟨h1,N.al,N.tk⟩
 ·simp[uC,ho,fK,hh]
 ·simp[sJ,ho,fK]
 ·simp[xD,ho,fK,q2]
 simp[wQ,ho,fK];omega
theorem Tu{l:List (Nat×Nat)}{k g:Nat}{e:Nat×Nat}(h:e∈rN l k g):e∈l\/e=(k,g):=by
 unfold rN at h;split at h
 ·obtain⟨p,hp,rfl⟩:=abF.1 h
  split
  ·exact .inr rfl
  exact .inl hp
 rcases agb.1 h with h|h
 ·exact .inl h
 exact .inr (abR.1 h)
theorem LO (l:List (Nat×Nat))(k g:Nat):(rN l k g).map (·.1)=if k∈l.map (·.1)then l.map (·.1)else l.map (·.1)++ [k]:=by
 unfold rN;split
 ·rw[agN]
  apply acA;intro p _;simp only[Function.comp];split
  ·rename_i e;exact e.symm
  rfl
 simp
theorem XD{l:List (Nat×Nat)}{k g:Nat}(h:(l.map (·.1)).Nodup):((rN l k g).map (·.1)).Nodup:=by
 rw[LO];split
 ·exact h
 rename_i hk;rw[af4];exact⟨h,by simp,λa ha b hb e=>hk (by rw[abR.1 hb]at e;rw[<-e];exact ha)⟩
theorem YC (C:Cs)(x:Pg)(h1:∀g∈x.aX,g<4294967296)(h2:∀g∈x.old,g.2<4294967296)(h3:(x.old.map (·.1)).Nodup):(∀g∈C.rP x,g.2<4294967296)/\((C.rP x).map (·.1)).Nodup:=by
 unfold rP;have:∀(ks:FH) (l:List (Nat×Nat)),(∀g∈l,g.2<4294967296)->(l.map (·.1)).Nodup->(∀k∈ks,k<x.aX.length)->
   (∀g∈ks.foldl (λl k=>rN l (k*C.sz x.cl) (x.aX.getD k 0)) l,g.2<4294967296)/\((ks.foldl (λl k=>rN l (k*C.sz x.cl) (x.aX.getD k 0)) l).map (·.1)).Nodup:=by
  intro ks;induction ks with
  |nil=>intro l a b _;exact⟨a,b⟩
  |cons k ks ih=>
   intro l a b c;rw[agn];refine ih _ (λg hg=> ?_) (XD b) λj hj=>c j (aai _ hj);rcases Tu hg with h|rfl
   ·exact a g h
   have hk:=c k (aag ..);dsimp only;rw[aab,aac hk];exact h1 _ (abC _)
 exact this _ _ h2 h3 λk hk=>ab0.1 hk
theorem v8{C:Cs}(K:Ok C){i:Nat}(hi:i<C.n)(ho:(C.pg i).own=true)(jC:(C.pg i).lv=true)(hh:(C.pg i).held=0):Ok (C.aU i):=by
 have P:kN C (C.pg i):=K.pg _ (dh (by rw[K.pl];exact hi));have gS:=P.cl ho;obtain⟨o1,o2⟩:=YC C (C.pg i) P.g32 P.Wy P.nd;have hP:1<=(C.rw (C.pg i).cl).bA:=by
  have h1:=iX (sJ (C.pg i).cl) (ki (C:=C) (i:=i) (by rw[K.pl];exact hi));rw[K.fp _ gS];have:sJ (C.pg i).cl (C.pg i)=1:=by unfold sJ;rw[if_pos ⟨ho,rfl⟩]
  rw[this]at h1;exact h1
 have PO:∀q∈(C.rw (C.pg i).cl).free,C.pn q≠i:=λq hq e=>by
  have:=(K.fr _ q hq).lv;rw[e,jC]at this;cases this
 refine uO K hi gS (λ_=>rfl) (λh=>absurd h (by simp[Pg.no])) ⟨λh=>absurd h (by simp[Pg.no]),λh=>absurd h (by simp[Pg.no]),rfl,by simp[Pg.no],o1,o2,rfl,λ_=>⟨rfl,rfl,rfl⟩⟩ (K.fn _) (λq=> ?_) ?_ ?_ ?_ ?_
 ·dsimp only
  constructor
  ·intro h;exact .inl ⟨K.fr _ q h,PO q h⟩
  rintro(⟨G,_⟩|⟨_,N⟩)
  ·exact K.fa _ q G gS
  have:=N.own;cases this
 ·simp[uC,ho,hh,Pg.no]
 ·simp[sJ,ho,Pg.no];omega
 ·simp[xD,ho,jC,Pg.no]
 simp[wQ,ho,Pg.no]
end Cs
open Go Go.dC Go.Proofs.YtcbcjolpdljbiaaGreat.Cs
def dn (C:Cs)(i c:Nat)(tk:List Bool):Nat->FH
 |0=> []
 |k+1=>(if tk[k]?=some false then [i*C.ao+k*C.sz c]else [])++dn C i c tk k
theorem afs (C:Cs)(i c:Nat)(tk:List Bool)(n:Nat):(((abM n).reverse.filter λk=>tk[k]?==some false).map λk=>i*C.ao+k*C.sz c)=dn C i c tk n:=by
 induction n with
 |zero=>rfl
 |succ n ih=>
  rw[ag3,List.reverse_append,List.reverse_singleton,List.singleton_append,dn,List.filter_cons];by_cases h:tk[n]?=some false
  ·rw[if_pos (by rw[h];rfl),if_pos h,aaj,ih];rfl
  rw[if_neg (by simpa using h),if_neg h,ih];rfl
theorem afr (C:Cs)(i c:Nat)(tk:List Bool)(n:Nat):(dn C i c tk n).length<=n:=by
 induction n with
 |zero=>exact aam _
 |succ n ih=>rw[dn,aby];split<;>simp<;>omega
def kV (C:Cs)(i:Nat):Cs:=
 {C with rows:=C.rows.set (C.pg i).cl {C.rw (C.pg i).cl with ig:=(C.rw (C.pg i).cl).ig+1,free:=(C.rw (C.pg i).cl).free++C.iD i (C.pg i).cl (C.pg i).tk}}
theorem lp (l m:FH):aY (l++m)=aY l++aY m:=by simp[aY]
theorem ib (l:FH):(aY l).length=l.length:=by simp[aY]
theorem ad1{α:Type}{f:α->aa}{L:List α}{F:dG}{H R:F8}{x:α}{ad:Addr}{v:Value}(hx:x∈L)(hv:∀h,In (f x) h->eJ h ad=some v)(s:fP H (aB (L.map f)) R):PB F H (some ad) v:=
 ⟨_,rfl,λh _ ak=>hv h (yr (rW s h ak) hx)⟩
theorem aiG{x:vG}{tb k:Nat}{v:Value}(ht:x.tb=some tb)(hv:(sK x.p.tk)[k]?=some v):∀h,In (kW x) h->eJ h ⟨tb,k,none⟩=some v:=λh o=>by
 obtain⟨_,⟨j,q,l⟩,_⟩:=tL o;rw[ht]at q;exact cU l (fx q hv)
theorem Qv{C:Cs}{y:Lc}{F:dG}{H R:F8}{c:Nat}(hc:c<C.ae.length)(s:fP H (nP C y) R):PB F H (some ⟨y.sa,c,none⟩) (Dm Dl (C.sz c)):=
 ⟨_,rfl,λh _ ak=>gO (bX (rW s h ak)) (gk (o5 hc))⟩
theorem Kl (b:Nat)(C:Cs)(y:Lc)(K:Fix C)(hy:gC C y)(i:Nat)(hi:i<C.n)(x:vG)(tb:Nat)(x1:y.pl[i]?=some x)(ht:x.tb=some tb)(hc:(C.pg i).cl<C.ae.length)(htl:(C.pg i).tk.length<=C.ao/C.sz (C.pg i).cl)
  (mP:(C.rw (C.pg i).cl).free.length<=1099511627776) (fA:(C.rw (C.pg i).cl).ig<=1099511627776):
  aG aaa 266 [Dk b,Dm Dl i] (λ_=>True) (mC b C y)
   (λv H=>v= .tuple #[]/\∃z,y.rl[(C.pg i).cl]?=some z/\∃a c,H=mC b (kV C i) {y with rl:=y.rl.set (C.pg i).cl ⟨(kV C i).rw (C.pg i).cl,a,c⟩}/\gC (kV C i) {y with rl:=y.rl.set (C.pg i).cl ⟨(kV C i).rw (C.pg i).cl,a,c⟩}):=by
 have f1:=K.p1;have f2:=K.n1;have hzs:=K.sz hc;have hdv:=agh C.ao (C.sz (C.pg i).cl);have x2:x.p=C.pg i:=by
  have h1:=ki (C:=C) (i:=i) (by rw[K.pl];exact hi);rw[<-hy.pl,abD,x1]at h1;exact Option.some.inj h1
 obtain⟨z,z1,z2⟩:∃z,y.rl[(C.pg i).cl]?=some z/\z.r=C.rw (C.pg i).cl:=by
  have h1:=aaw (C:=C) (c:=(C.pg i).cl) (by rw[K.rl];exact hc);rw[<-hy.rl,abD,Option.map_eq_some_iff]at h1;exact h1
 have hjr:(kV C i).rw (C.pg i).cl={C.rw (C.pg i).cl with ig:=(C.rw (C.pg i).cl).ig+1,free:=(C.rw (C.pg i).cl).free++C.iD i (C.pg i).cl (C.pg i).tk}:=by
  have:=uM C (C.pg i).cl (C.pg i).cl {C.rw (C.pg i).cl with ig:=(C.rw (C.pg i).cl).ig+1,free:=(C.rw (C.pg i).cl).free++C.iD i (C.pg i).cl (C.pg i).tk} (by rw[K.rl];exact hc);rw[if_pos rfl]at this;exact this
 rw[hjr];have hfi:C.iD i (C.pg i).cl (C.pg i).tk=dn C i (C.pg i).cl (C.pg i).tk (C.pg i).tk.length:=afs C i _ _ _;generalize cQ:(C.pg i).cl=c at*;generalize Dv:(C.pg i).tk=tk at*;have k2:(y.pl.flatMap dI)[i*7+2]?=some (Dm Dl c):=by
  have:=bb bL x1 (j:=2) rfl;rw[x2,cQ]at this;exact this
 have k4:(y.pl.flatMap dI)[i*7+4]?=some (.slice (some ⟨tb,0,none⟩) tk.length tk.length):=by
  have:=bb bL x1 (j:=4) rfl;rw[ht,x2,Dv]at this;exact this
 have r3:(y.rl.flatMap ey)[c*4+3]?=some (Dm Dl ((C.rw c).ig)):=by
  have:=bb cq z1 (j:=3) rfl;rw[z2]at this;exact this
 have hlen:c*4+4<=(y.rl.flatMap ey).length:=by
  rw[eQ cq];have:=(aad.1 z1).1;omega
 refine af func266 rfl ntmps266 rfl ?_;intro F _;unfold mC;change G _ _ _ _ _ [ag b 179 (cI C y),nP C y,ag y.pb 227 (y.pl.flatMap dI),aB (y.pl.map kW),ag y.rb 196 (y.rl.flatMap ey),aB (y.rl.map kG),ag y.a 249 (iq y.ab C.ao (C.n*C.ao)),ag y.ab 5 (dK C.A (C.n*C.ao))];refine Hh (H':= [aB (y.rl.map kG),ag y.rb 196 (y.rl.flatMap ey),ag b 179 (cI C y),ag y.pb 227 (y.pl.flatMap dI),nP C y,aB (y.pl.map kW),ag y.a 249 (iq y.ab C.ao (C.n*C.ao)),ag y.ab 5 (dK C.A (C.n*C.ao))]) ?_;refine au (λk s=>xn z1 s) ?_;have hrz:kG z=own z.a z.c 3 1 (aY (C.rw c).free):=by unfold kG;rw[z2]
 rw[hrz];refine cA ?_;refine av ?_;refine gT false mix ?_;refine cK ?_;refine bP ?_;have e3:(y.rl.flatMap ey).set (c*4+3) (Dm Dl ((C.rw c).ig+1))=(y.rl.set c ⟨{C.rw c with ig:=(C.rw c).ig+1},z.a,z.c⟩).flatMap ey:=bU cq z1 (by unfold ey;rw[z2];rfl) (by decide);rw[e3];refine au (H':= [own z.a z.c 3 1 (aY ((C.rw c).free++ [])),aB ((y.rl.eraseIdx c).map kG),ag y.rb 196 ((y.rl.set c ⟨⟨(C.rw c).free++ [],(C.rw c).ct,(C.rw c).bA,(C.rw c).ig+1⟩,z.a,z.c⟩).flatMap ey),ag b 179 (cI C y),ag y.pb 227 (y.pl.flatMap dI),nP C y,aB (y.pl.map kW),ag y.a 249 (iq y.ab C.ao (C.n*C.ao)),ag y.ab 5 (dK C.A (C.n*C.ao))]) (by rw[abT];exact Eh) ?_;refine Lo (ι:=Nat×FH×FL×Nat) (FN [6,1,35,41]) (λ(j,pre,a,cc)=>j<=tk.length/\pre++dn C i c tk j=dn C i c tk tk.length) (λ(j,pre,a,cc)=> [(6,Dm Dl ((j:Int)-1))]) (λ(j,pre,a,cc)=> [own a cc 3 1 (aY ((C.rw c).free++pre)),aB ((y.rl.eraseIdx c).map kG),ag y.rb 196 ((y.rl.set c ⟨⟨(C.rw c).free++pre,(C.rw c).ct,(C.rw c).bA,(C.rw c).ig+1⟩,a,cc⟩).flatMap ey),ag b 179 (cI C y),ag y.pb 227 (y.pl.flatMap dI),nP C y,aB (y.pl.map kW),ag y.a 249 (iq y.ab C.ao (C.n*C.ao)),ag y.ab 5 (dK C.A (C.n*C.ao))]) (λ(j,pre,a,cc)=>j) ((tk.length,[],z.a,z.c)) ⟨aam _,rfl⟩ ?_;rintro⟨j,pre,a,cc⟩ ⟨hj,gX⟩
 try dsimp only at hI⊢
 dsimp only at hj gX⊢;refine bn ?_;refine az rfl ?_ ?_
 ·intro hk
  replace hk:=aO hk;obtain⟨k,rfl⟩:∃k,j=k+1:=⟨j-1,by omega⟩;have et:tk[k]?=some (tk[k]'(by omega)):=aac _;have uz:k<tk.length:=by omega
  generalize tk[k]'(by omega)=t at et;have WD:=aaf x1;refine aA (t:=6) (v':=(Dm Dl k)) rfl (by refine congrArg (Value.int .i64) ?_;omega) ?_;refine bP ?_;refine Lp (oL gg ?_ (hk:=ad1 WD (aiG ht (Ct (by rw[x2,Dv];exact et))) (by repeat (first|exact fP.here|apply fP.there))));refine bd ?_;have hkz:k*C.sz c<=1048576*1048576:=af8 (by omega) (by omega);have hip:i*C.ao<=1024*1048576:=af8 (by omega) f1;refine az rfl ?_ ?_
  ·intro hq
   replace hq:=aO hq;obtain rfl:t=false:=by simpa using hq
   have hlr:(C.rw c).free.length+pre.length+1<=2199023255552:=by
    have h1:=congrArg List.length gX;rw[aby]at h1;have h2:=afr C i c tk tk.length;omega
   have r0:((y.rl.set c ⟨⟨(C.rw c).free++pre,(C.rw c).ct,(C.rw c).bA,(C.rw c).ig+1⟩,a,cc⟩).flatMap ey)[c*4]?=some (.slice a ((C.rw c).free++pre).length cc):=bb cq (j:=0) (aah (aad.1 z1).1) rfl;have hl4:c*4<((y.rl.set c ⟨⟨(C.rw c).free++pre,(C.rw c).ct,(C.rw c).bA,(C.rw c).ig+1⟩,a,cc⟩).flatMap ey).length:=by rw[eQ cq,aak];rw[eQ cq]at hlen;omega
   refine iU 27 mix (.cons (.t2 .here) (.cons (.t2 .here) (.cons (.t2 .here) (.cons (.t2 .here) .nil)))) λF1 jD bV aI=> ?_;obtain⟨q1,q2,q3,q4,_⟩:=bV;have kz:=gO (bX q4) (gk (o5 hc));refine bP ?_;refine Ti (MuN) ?_;refine bP ?_;refine Ti (MuN) ?_;refine Ti (AdN) ?_;refine Tp (oT jI λb1=> ?_);refine Tp (cm jI xS rfl rfl rfl rfl .here (by rw[ib,ajM]) (rfl) (by simp[Value.oneCell']) (by rw[aby];omega) (by rw[aby];omega) rfl λa1 c1 h1=> ?_);refine gI aI ?_;refine bB ?_;refine aD ?_;have e5:aY ((C.rw c).free++pre)++ [Value.int .i64 ((i*C.ao+k*C.sz c:Nat):Int)]=aY ((C.rw c).free++(pre++ [i*C.ao+k*C.sz c])):=by rw[<-af9,lp _ [_]];rfl
   have e4:((y.rl.set c ⟨⟨(C.rw c).free++pre,(C.rw c).ct,(C.rw c).bA,(C.rw c).ig+1⟩,a,cc⟩).flatMap ey).set (c*4+0) (.slice a1 (((C.rw c).free++pre).length+1) c1)=(y.rl.set c ⟨⟨(C.rw c).free++(pre++ [i*C.ao+k*C.sz c]),(C.rw c).ct,(C.rw c).bA,(C.rw c).ig+1⟩,a1,c1⟩).flatMap ey:=by
    have:=bU (j:=0) (v:= .slice a1 (((C.rw c).free++pre).length+1) c1) (a':=⟨⟨(C.rw c).free++(pre++ [i*C.ao+k*C.sz c]),(C.rw c).ct,(C.rw c).bA,(C.rw c).ig+1⟩,a1,c1⟩) cq (aah (a:=(⟨⟨(C.rw c).free++pre,(C.rw c).ct,(C.rw c).bA,(C.rw c).ig+1⟩,a,cc⟩:GA)) (aad.1 z1).1) (by simp[ey];omega) (by decide);rw[af6]at this;exact this
   rw[e4,e5];refine Ro ((k,pre++ [i*C.ao+k*C.sz c],a1,c1)) (⟨by dsimp only;omega,by dsimp only;rw[<-gX,dn,if_pos et,af9]⟩) ((by dsimp only;omega))
  intro hq;replace hq:=aO hq;obtain rfl:t=true:=by simpa using hq
  refine bK ?_;refine aD ?_;refine Ro ((k,pre,a,cc)) (⟨by dsimp only;omega,by dsimp only;rw[<-gX,dn,if_neg (by rw[et];simp)];rfl⟩) ((by dsimp only;omega))
 intro hk;replace hk:=aO hk;obtain rfl:j=0:=by omega
 rw[dn,abT]at gX;subst gX;rw[hfi];refine bc ?_;refine au (λk s=>uW (f:=kG) z1 ⟨⟨(C.rw c).free++dn C i c tk tk.length,(C.rw c).ct,(C.rw c).bA,(C.rw c).ig+1⟩,a,cc⟩ s) ?_;refine jU [ag b 179 (cI C y),nP C y,ag y.pb 227 (y.pl.flatMap dI),aB (y.pl.map kW),ag y.rb 196 ((y.rl.set c ⟨⟨(C.rw c).free++dn C i c tk tk.length,(C.rw c).ct,(C.rw c).bA,(C.rw c).ig+1⟩,a,cc⟩).flatMap ey),aB ((y.rl.set c ⟨⟨(C.rw c).free++dn C i c tk tk.length,(C.rw c).ct,(C.rw c).bA,(C.rw c).ig+1⟩,a,cc⟩).map kG),ag y.a 249 (iq y.ab C.ao (C.n*C.ao)),ag y.ab 5 (dK C.A (C.n*C.ao))] results266 ?_;refine⟨rfl,z,z1,a,cc,rfl,hy.pl, ?_,hy.pk,hy.ao,hy.bA⟩;show List.map _ _=(kV C i).rows;unfold kV;rw[af7,hy.rl,cQ,Dv,hfi]
theorem oQlO{P:Program}{n:Nat}{ds:Dq}{F:dG}{Q:Exit->F9}{K:F9}{σ:aP}{H:F8}{o:Oper}{d:Nat}{t k e:TypeId}{z:Value}{m x:Operand}{b:FK}{es:List (Value×Value)}{kv:Value}{R:F8}
  (ht:xH P t=some (k, .int .i64,e,z)) (h:G n ds F K ((d,(uq es kv).getD z)::σ) H) (he:b=none->es= []) (ho:o.op= .lookup t m x false:=by exact rfl) (hd:o.dst=some d:=by exact rfl)
  (hm:bo σ m=some (.map b):=by exact rfl) (hx:bo σ x=some kv:=by exact rfl) (hk:Wi (.int .i64) kv=true:=by exact rfl) (hs:fP H (DC b es) R:=by repeat (first|exact fP.here|apply fP.there)) (hdn:Nat.blt d n=true:=by exact rfl):G n ds F (λa w=>o.wp P a w K Q) σ H:=by
 cases b with
 |some b=>exact oQl (b:=b) (es:=es) ht h ho hd hm hx hk hs hdn
 |none=>
  refine rY hd hdn (λa w en s=> ?_) h;obtain⟨OX,DD,i,hi,hz⟩:=nD ht;have:uq es kv=none:=by rw[he rfl];exact EZ λe h=>by cases h
  rw[this];simp[execOp,ho,en.eval hm,en.eval hx,Instr.lookup,run_underlying OX,MapKept.run_checkKey DD (jw hk),MapKept.run_findKey DD (show Instr.findNow (.int .i64) kv [] 0=some none from rfl),zeroValue,typeInfo,hi,hz,Result.andThen]
theorem YB{l:List (Nat×Nat)}(k:Nat):(uq (jK l) (Dm Dl k)).getD (Dm alb 0)=Dm alb (DS l k:Nat):=by
 classical
 unfold uq jK DS;induction l with
 |nil=>rfl
 |cons p l ih=>
  rw[aaj,akh,akh];by_cases h:p.1=k
  ·subst h;simp
  have h1:¬((Value.int .i64 (p.1:Int),Value.int .u32 (p.2:Int)):Value×Value).1=Dm Dl k:=by simp;omega
  rw[decide_eq_false h1,decide_eq_false h];exact ih
theorem GP (n:Nat):gV [Dm alb 0] (n*1)=aS (aae n 0):=by rw[qc,ajM];simp[aS]
theorem Qd (n:Nat):gV [.bool false] (n*1)=sK (aae n false):=by rw[qc,ajM];simp[sK]
theorem Et (l:FH)(k g:Nat):(aS l).set k (Dm alb g)=aS (l.set k g):=by unfold aS;rw[af7]
theorem lS (l:FH):(aS l).length=l.length:=by simp[aS]
theorem KQ (l:List Bool):(sK l).length=l.length:=by simp[sK]
theorem lM{C:Cs}(h:∀j,j<C.bm.length->(C.pg j).own=true):C.gr=none:=by
 unfold gr;rw[ago];intro x hx;obtain⟨j,hj⟩:=agA hx;have hl:=(aad.1 hj).1;have:=h j hl;rw[ki hl]at hj;cases hj;simp[this]
theorem jq{C:Cs}{i:Nat}(hi:i<C.bm.length)(ho:(C.pg i).own=false)(h:∀j,j<i->(C.pg j).own=true):C.gr=some i:=by
 unfold gr;rw[abK];have e:∀j (hj:j<C.bm.length),C.bm[j]=C.pg j:=λj hj=>by
  have:=ki (C:=C) hj;rw[aac hj]at this;exact Option.some.inj this
 refine⟨hi,by rw[e];simp[ho],λj hj=> ?_⟩;rw[e j (by omega),h j hj];simp
theorem Re:∀(N:Nat) (l:FH),l.Nodup->(∀x∈l,x<N)->l.length<=N
 |0,l,_,h=>by
  cases l with
  |nil=>exact aam _
  |cons a l=>exact absurd (h a (aag ..)) (by omega)
 |N+1,l,hn,h=>by
  have h1:=Re N (l.erase N) (hn.erase N) (λx hx=>by
   have h2:=(List.Nodup.mem_erase_iff hn).1 hx;have:=h x h2.2;have:=h2.1;omega)
  have:=List.length_erase (a:=N) (l:=l);split at this<;>omega
theorem kA{C:Cs}(K:Ok C)(c:Nat):(C.rw c).free.length<=1073741824:=by
 have h:=Re (C.n*C.ao) _ (K.fn c) (λp hp=>by
  have:=((K.fr c p hp).toAt.ba K);omega)
 have:=fU K.toFix;omega
theorem Tg (b:Nat)(C:Cs)(y:Lc)(K:Ok C)(hy:gC C y)(c:Nat)(hc:c<C.ae.length):aG aaa 219 [Dk b,Dm Dl c] (λ_=>True) (mC b C y)
  (λv H=>match C.gr with
   |none=>v= .bool false/\H=mC b C y
   |some i=>v= .bool true/\∃Y,gC (C.bE i c) Y/\Y.rb=y.rb/\H=mC b (C.bE i c) Y):=by
 have f1:=K.toFix.p1;have f2:=K.toFix.n1;have hzs:=K.toFix.sz hc;have hdv:=agh C.ao (C.sz c);obtain⟨l1,l2⟩:=K.le;refine af func219 rfl ntmps219 rfl ?_;intro F _;change G _ _ _ _ _ [ag b 179 (cI C y),nP C y,ag y.pb 227 (y.pl.flatMap dI),aB (y.pl.map kW),ag y.rb 196 (y.rl.flatMap ey),aB (y.rl.map kG),ag y.a 249 (iq y.ab C.ao (C.n*C.ao)),ag y.ab 5 (dK C.A (C.n*C.ao))];refine gJ ?_;refine Lo (ι:=Nat) (FN [4,5,14,94]) (λk=>k<=C.n/\∀j,j<k->(C.pg j).own=true) (λk=> [(14,Dm Dl k)]) (λk=> [ag b 179 (cI C y),nP C y,ag y.pb 227 (y.pl.flatMap dI),aB (y.pl.map kW),ag y.rb 196 (y.rl.flatMap ey),aB (y.rl.map kG),ag y.a 249 (iq y.ab C.ao (C.n*C.ao)),ag y.ab 5 (dK C.A (C.n*C.ao))]) (λk=>C.n-k) (0) ⟨abL _,λj hj=>absurd hj (agZ j)⟩ ?_;rintro k ⟨Wo,rp⟩;refine bq ?_;refine av ?_;refine az rfl ?_ ?_
 ·intro hk
  replace hk:=aO hk;have cJ:k<C.n:=by omega
  obtain⟨x,x1,x2,x3⟩:=tG K hy cJ;have k0:(y.pl.flatMap dI)[k*7]?=some (.bool (C.pg k).own):=by
   have:=bb bL x1 (j:=0) rfl;rw[x2]at this;exact this
  refine cK ?_;refine bc ?_;refine az rfl ?_ ?_
  ·intro ho
   replace ho:=aO ho;refine bK ?_;refine aD ?_;refine Ro (k+1) (⟨by omega,λj hj=> ?_⟩) (by omega);by_cases O0:j=k
   ·subst O0;exact ho
   exact rp j (by omega)
  intro ho;replace ho:=aO ho;have P:kN C (C.pg k):=K.pg _ (dh (by rw[K.pl];exact cJ));obtain⟨p1,p2,p3⟩:=P.no ho;have p4:(C.pg k).tk= []:=abO (by rw[P.tl,p1];rfl);have uu:x.gb=none:=by have:=x3.g;rw[x2,ho]at this;simpa using this
  have ur:x.tb=none:=by have:=x3.t;rw[x2,ho]at this;simpa using this
  have hxo:x.ob=none->jK (C.pg k).old= []:=λh=>by rw[<-x2,x3.o h];rfl
  have hfp:=jq (C:=C) (by rw[K.pl];exact cJ) ho rp;have hpgx:dI x= [.bool false, .bool false,Dm Dl 0, .slice none 0 0, .slice none 0 0,Dm Dl ((C.pg k).held), .map x.ob]:=by
   unfold dI;rw[uu,ur,x2,ho,p2,p3];rfl
  rw[hfp];refine Hh (H':= [aB (y.pl.map kW),ag y.pb 227 (y.pl.flatMap dI),nP C y,ag b 179 (cI C y),ag y.rb 196 (y.rl.flatMap ey),aB (y.rl.map kG),ag y.a 249 (iq y.ab C.ao (C.n*C.ao)),ag y.ab 5 (dK C.A (C.n*C.ao))]) ?_;refine au (λ_ s=>xn x1 s) ?_;refine mu ?_;rw[uu,ur,x2];refine Hh (H':= [DC x.ob (jK (C.pg k).old),aB ((y.pl.eraseIdx k).map kW),ag y.pb 227 (y.pl.flatMap dI),nP C y,ag b 179 (cI C y),ag y.rb 196 (y.rl.flatMap ey),aB (y.rl.map kG),ag y.a 249 (iq y.ab C.ao (C.n*C.ao)),ag y.ab 5 (dK C.A (C.n*C.ao))]) ?_;have hl7:k*7+7<=(y.pl.flatMap dI).length:=by
   rw[eQ bL];have:=(aad.1 x1).1;omega
  obtain⟨m,hm⟩:∃m,m=C.ao/C.sz c:=⟨_,rfl⟩;obtain⟨gs,hgs⟩:∃gs,gs=(abM m).map λk'=>DS (C.pg k).old (k'*C.sz c):=⟨_,rfl⟩;have e2:((y.pl.flatMap dI).set (k*7+0) (.bool true)).set (k*7+2) (Dm Dl c)=(y.pl.set k ⟨{C.pg k with own:=true,cl:=c},none,none,x.ob⟩).flatMap dI:=by
   have h1:=bU (j:=0) (v:= .bool true) (a':=(⟨{C.pg k with own:=true},none,none,x.ob⟩:vG)) bL x1 (by rw[hpgx];unfold dI;dsimp only;rw[p2,p3];rfl) (by decide);have h2:=bU (j:=2) (v:=Dm Dl c) (a':=(⟨{C.pg k with own:=true,cl:=c},none,none,x.ob⟩:vG)) bL (aah (a:=(⟨{C.pg k with own:=true},none,none,x.ob⟩:vG)) (aad.1 x1).1) (by unfold dI;dsimp only;rfl) (by decide);rw[h1,h2,af6]
  have e8:∀gb tb:Nat,(((y.pl.set k ⟨{C.pg k with own:=true,cl:=c},none,none,x.ob⟩).flatMap dI).set (k*7+3) (.slice (some ⟨gb,0,none⟩) m m)).set (k*7+4) (.slice (some ⟨tb,0,none⟩) m m)=(y.pl.set k ⟨{C.pg k with own:=true,cl:=c,aX:=gs,tk:=aae m false},some gb,some tb,x.ob⟩).flatMap dI:=by
   intro gb tb;have hk7:=(aad.1 x1).1;have h1:=bU (l:=y.pl.set k ⟨{C.pg k with own:=true,cl:=c},none,none,x.ob⟩) (i:=k) (j:=3) (v:= .slice (some ⟨gb,0,none⟩) m m) (a':=(⟨{C.pg k with own:=true,cl:=c,aX:=gs},some gb,none,x.ob⟩:vG)) bL (aah (a:=(⟨{C.pg k with own:=true,cl:=c},none,none,x.ob⟩:vG)) hk7) (by unfold dI;dsimp only;rw[hgs,abI,ag0];rfl) (by decide);have h2:=bU (l:=(y.pl.set k ⟨{C.pg k with own:=true,cl:=c},none,none,x.ob⟩).set k ⟨{C.pg k with own:=true,cl:=c,aX:=gs},some gb,none,x.ob⟩) (i:=k) (j:=4) (v:= .slice (some ⟨tb,0,none⟩) m m) (a':=(⟨{C.pg k with own:=true,cl:=c,aX:=gs,tk:=aae m false},some gb,some tb,x.ob⟩:vG)) bL (aah (a:=(⟨{C.pg k with own:=true,cl:=c,aX:=gs},some gb,none,x.ob⟩:vG)) (by simpa using hk7)) (by unfold dI;dsimp only;rw[aga];rfl) (by decide);rw[h1,h2,af6,af6]
  generalize gS:y.pl.flatMap dI=cs at*;refine bd ?_;refine av ?_;refine gT false mix ?_;refine bP ?_;refine Tp (oL bj ?_ (hk:=Qv hc (by repeat (first|exact fP.here|apply fP.there))));refine Ti (Qu) ?_;refine gJ ?_;refine av ?_;rw[<-hm,e2];have hl8:k*7+7<=((y.pl.set k ⟨{C.pg k with own:=true,cl:=c},none,none,x.ob⟩).flatMap dI).length:=by
   rw[eQ bL,aak];have:=(aad.1 x1).1;omega
  generalize hds:(y.pl.set k ⟨{C.pg k with own:=true,cl:=c},none,none,x.ob⟩).flatMap dI=dc at*;refine eK (ι:=Nat×Nat) (FN [47,10]) (λ(gb,tb)=>True) (λ(gb,tb)=> []) (λ(gb,tb)=> [ag gb 149 (aS (aae m 0)),ag tb 4 (sK (aae m false)),DC x.ob (jK (C.pg k).old),aB ((y.pl.eraseIdx k).map kW),ag y.pb 227 ((dc.set (k*7+3) (.slice (some ⟨gb,0,none⟩) m m)).set (k*7+4) (.slice (some ⟨tb,0,none⟩) m m)),nP C y,ag b 179 (cI C y),ag y.rb 196 (y.rl.flatMap ey),aB (y.rl.map kG),ag y.a 249 (iq y.ab C.ao (C.n*C.ao)),ag y.ab 5 (dK C.A (C.n*C.ao))]) ?_ ?_
  ·refine Aq mix .nil λF1 jD bV aI=> ?_
   refine Dt 0 rfl Mv ?_;refine Dt 1 rfl Mv ?_;refine Dt 2 rfl Mv ?_;refine Dt 4 rfl Mv ?_;refine D2 3 5 ?_ ?_
   ·refine Do rfl (oM (m) (m) Cy λb1=> ?_)
    refine aw ?_;refine Dt 6 rfl Nc ?_;refine Dt 7 rfl (Fa vu) ?_;refine D2 5 8 ?_ ?_
    ·refine Do rfl (oM (m) (m) HR λb2=> ?_)
     refine aw ?_;refine Dd 8 rfl (oS BS ?_);refine aw ?_;refine Dt 9 rfl Nc ?_;refine Dt 10 rfl (Fa qS) ?_;refine Dd 11 rfl (oS BR ?_);refine aw ?_;refine aT (by kernel_rfl) aI ?_;rw[GP,Qd];refine Me ((b1,b2)) (trivial)
    refine Do rfl (oS BS ?_);refine aw ?_;refine Dd 5 rfl (oM (m) (m) HR λb3=> ?_);refine aw ?_;refine Dt 9 rfl Nc ?_;refine Dt 10 rfl (Fa qS) ?_;refine Dd 11 rfl (oS BR ?_);refine aw ?_;refine aT (by kernel_rfl) aI ?_;rw[GP,Qd];refine Me ((b1,b3)) (trivial)
   refine Do rfl (oM (m) (m) HR λb4=> ?_);refine aw ?_;refine Dd 3 rfl (oM (m) (m) Cy λb5=> ?_);refine aw ?_;refine Dt 6 rfl Nc ?_;refine Dt 7 rfl (Fa vu) ?_;refine Dd 8 rfl (oS BS ?_);refine aw ?_;refine Dt 9 rfl Nc ?_;refine Dt 10 rfl (Fa qS) ?_;refine Dd 11 rfl (oS BR ?_);refine aw ?_;refine aT (by kernel_rfl) aI ?_;rw[GP,Qd];refine Me ((b5,b4)) (trivial)
  rintro⟨gb,tb⟩ hI
  try dsimp only at hI⊢
  rw[e8 gb tb];have hk7:=(aad.1 x1).1;have n1:(y.pl.set k ⟨{C.pg k with own:=true,cl:=c,aX:=gs,tk:=aae m false},some gb,some tb,x.ob⟩)[k]?=some (⟨{C.pg k with own:=true,cl:=c,aX:=gs,tk:=aae m false},some gb,some tb,x.ob⟩:vG):=aah hk7;have hgl:gs.length=m:=by rw[hgs];simp
  have k3:((y.pl.set k ⟨{C.pg k with own:=true,cl:=c,aX:=gs,tk:=aae m false},some gb,some tb,x.ob⟩).flatMap dI)[k*7+3]?=some (.slice (some ⟨gb,0,none⟩) m m):=by
   have:=bb bL n1 (j:=3) (v:= .slice (some ⟨gb,0,none⟩) gs.length gs.length) rfl;rw[hgl]at this;exact this
  have k6:((y.pl.set k ⟨{C.pg k with own:=true,cl:=c,aX:=gs,tk:=aae m false},some gb,some tb,x.ob⟩).flatMap dI)[k*7+6]?=some (.map x.ob):=bb bL n1 (j:=6) rfl;generalize Z9:(y.pl.set k ⟨{C.pg k with own:=true,cl:=c,aX:=gs,tk:=aae m false},some gb,some tb,x.ob⟩).flatMap dI=es at*;refine bB ?_;refine Lo (ι:=Nat×FH) (FN [8,1,62,24]) (λ(j,L)=>j<=m/\L.length=m/\∀i,i<j->L[i]?=gs[i]?) (λ(j,L)=> [(62,Dm Dl j)]) (λ(j,L)=> [ag gb 149 (aS L),ag tb 4 (sK (aae m false)),DC x.ob (jK (C.pg k).old),aB ((y.pl.eraseIdx k).map kW),ag y.pb 227 es,nP C y,ag b 179 (cI C y),ag y.rb 196 (y.rl.flatMap ey),aB (y.rl.map kG),ag y.a 249 (iq y.ab C.ao (C.n*C.ao)),ag y.ab 5 (dK C.A (C.n*C.ao))]) (λ(j,L)=>m-j) ((0,aae m 0)) ⟨abL _,by simp,λi hi=>absurd hi (agZ i)⟩ ?_;rintro⟨j,L⟩ ⟨hj0,hL,lI⟩
  try dsimp only at hI⊢
  try dsimp only at hj0 hL lI⊢
  refine bq ?_;refine av ?_;refine az rfl ?_ ?_
  ·intro hj
   replace hj:=aO hj;have hjm:j<m:=by omega
   have hjz:j*C.sz c<=1048576*1048576:=af8 (by omega) (by omega);have hlL:j<(aS L).length:=by rw[lS];omega
   refine cV ?_;refine iU 20 mix (.cons (.t4 .here) (.cons (.t4 .here) (.cons (.t4 .here) .nil))) λF2 zH eL dw=> ?_;obtain⟨q4,q5,q6,_⟩:=eL;have kz:=gO (bX q5) (gk (o5 hc));refine rh ?_;refine Ti (MuN) ?_;refine Tp (oQlO T.BV ?_ hxo);refine aA (t:=83) (v':=(Dm alb (DS (C.pg k).old (j*C.sz c):Nat))) rfl (by exact YB _) ?_;refine aw ?_;refine gI dw ?_;refine bK ?_;refine aD ?_;rw[Et];refine Ro ((j+1,L.set j (DS (C.pg k).old (j*C.sz c)))) (⟨by dsimp only;omega,by rw[aak];exact hL,λi hi=> ?_⟩) ((by dsimp only;omega));by_cases Z7:i=j
   ·subst Z7
    rw[aah (by omega),hgs,abD,List.getElem?_range (by omega)];rfl
   rw[abX (λq=>Z7 q.symm)];exact lI i (by dsimp only at hi;omega)
  intro hj;replace hj:=aO hj;obtain rfl:j=m:=by omega
  obtain rfl:L=gs:=by
   apply List.ext_getElem?;intro i;by_cases hi:i<j
   ·exact lI i hi
   rw[aal (by omega),aal (by omega)]
  clear lI hj
  have hW:C.fK k c={C.pg k with own:=true,cl:=c,aX:=L,tk:=aae j false}:=by unfold fK;rw[<-hm,<-hgs]
  rw[<-hW]at n1 Z9;obtain⟨z,z1,z2⟩:=yi K hy hc;have wz:c<C.rows.length:=by rw[K.rl];exact hc
  have r2:(y.rl.flatMap ey)[c*4+2]?=some (Dm Dl ((C.rw c).bA)):=by
   have:=bb cq z1 (j:=2) rfl;rw[z2]at this;exact this
  have l3:=l2 c hc;have hl4:c*4+4<=(y.rl.flatMap ey).length:=by
   rw[eQ cq];have:=(aad.1 z1).1;omega
  obtain⟨D,hD⟩:∃D:Cs,D={C with bm:=C.bm.set k (C.fK k c),rows:=C.rows.set c {C.rw c with bA:=(C.rw c).bA+1}}:=⟨_,rfl⟩;obtain⟨y2,zI⟩:∃y2:Lc,y2={y with pl:=y.pl.set k ⟨C.fK k c,some gb,some tb,x.ob⟩,rl:=y.rl.set c ⟨{C.rw c with bA:=(C.rw c).bA+1},z.a,z.c⟩}:=⟨_,rfl⟩;have I7:(y.rl.flatMap ey).set (c*4+2) (Dm Dl ((C.rw c).bA+1))=y2.rl.flatMap ey:=by
   rw[zI];exact bU cq z1 (by unfold ey;rw[z2];rfl) (by decide)
  have hDp:D.pg k=C.fK k c:=by
   have:=BU C k k (C.fK k c) (by rw[K.pl];exact cJ);rw[if_pos rfl]at this;rw[hD];exact this
  have hDr:D.rw c={C.rw c with bA:=(C.rw c).bA+1}:=by
   have:=uM C c c {C.rw c with bA:=(C.rw c).bA+1} wz;rw[if_pos rfl]at this;rw[hD];exact this
  have hDF:Fix D:=by rw[hD];exact⟨K.p0,K.p1,K.p8,K.n0,K.n1,K.l0,K.l1,K.s0,by simp[K.pl],by simp[K.rl]⟩
  have hDy:gC D y2:=by
   rw[hD,zI];refine⟨by rw[af7,hy.pl],by rw[af7,hy.rl],λu hu=> ?_,hy.ao,hy.bA⟩;rcases af5 hu with h|rfl
   ·exact hy.pk u h
   exact⟨rfl,rfl,λh=>by have:=x3.o h;rw[x2]at this;exact this⟩
  have cQ:(D.pg k).cl=c:=by rw[hDp];rfl
  have J:=Kl b D y2 hDF hDy k (by rw[hD];exact cJ) ⟨C.fK k c,some gb,some tb,x.ob⟩ tb (by rw[zI];exact aah hk7) rfl (by rw[cQ,hD];exact hc) (by rw[cQ,hDp,hD,hW];simp[hm];exact aam _) (by rw[cQ,hDr];have:=kA K c;dsimp only;omega) (by rw[cQ,hDr];dsimp only;omega);rw[cQ]at J;refine cK ?_;refine bd ?_;rw[I7];have iF:kW ⟨C.fK k c,some gb,some tb,x.ob⟩=aB [ag gb 149 (aS L),ag tb 4 (sK (aae j false)),DC x.ob (jK (C.pg k).old)]:=by rw[hW];rfl
  refine au (λ_ s=>dZ (L:= [_,_,_]) s) ?_;rw[<-iF];refine au (λ_ s=>uW (f:=kW) x1 _ s) ?_;have hrm:aB (y.rl.map kG)=aB (y2.rl.map kG):=by
   rw[zI];show aB (y.rl.map kG)=aB ((y.rl.set c _).map kG);rw[af7,show kG ⟨{C.rw c with bA:=(C.rw c).bA+1},z.a,z.c⟩=kG z from by unfold kG;rw[z2],gj (by rw[abD,z1];rfl)]
  rw[hrm];have hpl2:y.pl.set k ⟨C.fK k c,some gb,some tb,x.ob⟩=y2.pl:=by rw[zI]
  rw[hpl2]at Z9⊢;rw[<-Z9];refine au (H':=mC b D y2) (by rw[hD,zI];exact Eh) ?_;unfold mC;refine Lp (oC Aa rfl rfl (J) (.cons .here (.cons .here (.cons .here (.cons .here (.cons .here (.cons .here (.cons .here (.cons .here .nil)))))))) Di ?_);rintro v H' ⟨rfl,zz,hzz,a3,c3,rfl,pC⟩;refine bR ?_;obtain⟨Y,hY⟩:∃Y:Lc,Y={y2 with rl:=y2.rl.set c ⟨(kV D k).rw c,a3,c3⟩}:=⟨_,rfl⟩;rw[<-hY]at pC;have hsp1:1<=C.spare:=by
   have h1:=iX wQ (ki (C:=C) (i:=k) (by rw[K.pl];exact cJ));rw[K.sp];have:wQ (C.pg k)=1:=by unfold wQ;rw[if_neg (by rw[ho];simp)]
   rw[this]at h1;exact h1
  have DW:(cI (kV D k) Y).set (0+11) (Dm Dl ((C.spare:Int)-1))=cI (C.bE k c) Y:=by
   rw[show((C.spare:Int)-1)=((C.spare-1:Nat):Int) by omega,hD];rfl
  have h11:(cI (kV D k) Y)[0+11]?=some (Dm Dl C.spare):=by rw[hD];rfl
  have hlc:gC (C.bE k c) Y:=by
   refine⟨?_, ?_,pC.pk,by have:=pC.ao;rw[hD]at this;exact this,by have:=pC.bA;rw[hD]at this;exact this⟩
   ·rw[pC.pl,hD];rfl
   rw[pC.rl];unfold kV;dsimp only;rw[cQ,hDr,hDp];have e1:D.iD k c (C.fK k c).tk=C.iD k c (aae (C.ao/C.sz c) false):=by rw[hD];rfl
   rw[e1,hD];dsimp only;rw[af6];rfl
  refine au (H':= [ag b 179 (cI (kV D k) Y),nP C y,ag y.pb 227 (Y.pl.flatMap dI),aB (Y.pl.map kW),ag y.rb 196 (Y.rl.flatMap ey),aB (Y.rl.map kG),ag y.a 249 (iq y.ab C.ao (C.n*C.ao)),ag y.ab 5 (dK C.A (C.n*C.ao))]) (by rw[hY,hD,zI];exact Eh) ?_;have DK:0+11<(cI (kV D k) Y).length:=by unfold cI;simp
  obtain⟨sc,hsc⟩:∃sc,sc=cI (kV D k) Y:=⟨_,rfl⟩;rw[<-hsc]at h11 DK DW⊢;refine cK ?_;rw[DW];refine au (H':=mC b (C.bE k c) Y) (by rw[hY,zI];exact Eh) ?_;unfold mC;refine Rt [ag b 179 (cI (C.bE k c) Y),nP (C.bE k c) Y,ag Y.pb 227 (Y.pl.flatMap dI),aB (Y.pl.map kW),ag Y.rb 196 (Y.rl.flatMap ey),aB (Y.rl.map kG),ag Y.a 249 (iq Y.ab (C.bE k c).ao ((C.bE k c).n*(C.bE k c).ao)),ag Y.ab 5 (dK (C.bE k c).A ((C.bE k c).n*(C.bE k c).ao))] results219 ?_;exact⟨rfl,Y,hlc,by rw[hY,zI],rfl⟩
 intro hk;replace hk:=aO hk;obtain rfl:k=C.n:=by omega
 rw[lM (by rw[K.pl];exact rp)];refine cA ?_;refine Rt [ag b 179 (cI C y),nP C y,ag y.pb 227 (y.pl.flatMap dI),aB (y.pl.map kW),ag y.rb 196 (y.rl.flatMap ey),aB (y.rl.map kG),ag y.a 249 (iq y.ab C.ao (C.n*C.ao)),ag y.ab 5 (dK C.A (C.n*C.ao))] results219 ?_;exact⟨rfl,rfl⟩
theorem YK{p P o:Nat}(h:p % P+o<P):(p+o) % P=p % P+o:=by
 rw[Nat.add_mod,abZ (show o<P by omega),abZ h]
theorem KP (l:List Bool)(k:Nat)(b:Bool):(sK l).set k (.bool b)=sK (l.set k b):=by unfold sK;rw[af7]
theorem Uh{C:Cs}{x:vG}{i gb tb:Nat}(e:x.p=C.pg i)(hg:x.gb=some gb)(ht:x.tb=some tb):kW x=aB [ag gb 149 (aS (C.pg i).aX),ag tb 4 (sK (C.pg i).tk),DC x.ob (jK (C.pg i).old)]:=by
 unfold kW;rw[hg,ht,e];rfl
theorem Yq{a:FL}{c e:Nat}{xs ys:FJ}{H:F8}{k:Hp}(s:ai (own a c e 1 (xs++ys)::H) k):ai (own a c e 1 xs::H) k:=aZ (λ_ p=>Yr p) s
def P4 (b:Nat)(C:Cs)(y:Lc)(i c gb tb:Nat)(x:vG)(z:GA):F8:=
 [own z.a z.c 3 1 (aY (C.rw c).free),ag gb 149 (aS (C.pg i).aX),ag tb 4 (sK (C.pg i).tk),ag y.pb 227 (y.pl.flatMap dI),ag y.rb 196 (y.rl.flatMap ey),ag b 179 (cI C y),nP C y,
  ag y.a 249 (iq y.ab C.ao (C.n*C.ao)),ag y.ab 5 (dK C.A (C.n*C.ao)),DC x.ob (jK (C.pg i).old),aB ((y.pl.eraseIdx i).map kW),aB ((y.rl.eraseIdx c).map kG)]
theorem B8{b:Nat}{C:Cs}{y:Lc}{i c gb tb:Nat}{x:vG}{z:GA}{n:Nat}{ds:Dq}{F:dG}{K:F9}{σ:aP}
  (x1:y.pl[i]?=some x) (e:x.p=C.pg i) (hg:x.gb=some gb) (ht:x.tb=some tb) (z1:y.rl[c]?=some z) (ze:z.r=C.rw c)
  (h:G n ds F K σ (P4 b C y i c gb tb x z)):G n ds F K σ (mC b C y):=by
 unfold mC;refine Hh (H':= [aB (y.pl.map kW),aB (y.rl.map kG),ag b 179 (cI C y),nP C y,ag y.pb 227 (y.pl.flatMap dI),ag y.rb 196 (y.rl.flatMap ey),ag y.a 249 (iq y.ab C.ao (C.n*C.ao)),ag y.ab 5 (dK C.A (C.n*C.ao))]) ?_;refine au (λ_ s=>xn x1 s) ?_;rw[Uh e hg ht];refine mu ?_;refine Hh (H':= [aB (y.rl.map kG),ag gb 149 (aS (C.pg i).aX),ag tb 4 (sK (C.pg i).tk),DC x.ob (jK (C.pg i).old),aB ((y.pl.eraseIdx i).map kW),ag b 179 (cI C y),nP C y,ag y.pb 227 (y.pl.flatMap dI),ag y.rb 196 (y.rl.flatMap ey),ag y.a 249 (iq y.ab C.ao (C.n*C.ao)),ag y.ab 5 (dK C.A (C.n*C.ao))]) ?_;refine au (λ_ s=>xn z1 s) ?_;rw[show kG z=own z.a z.c 3 1 (aY (C.rw c).free)from by unfold kG;rw[ze]];exact Hh h
theorem su{b:Nat}{C D:Cs}{y:Lc}{i c gb tb:Nat}{x:vG}{z:GA}{fr:FH}{aX:FH}{tk:List Bool}{a:FL}{cc:Nat}{r:Rw}{p:Pg}{k:Hp}(hy:gC C y)
  (x1:y.pl[i]?=some x) (e:x.p=C.pg i) (hg:x.gb=some gb) (ht:x.tb=some tb) (z1:y.rl[c]?=some z)
  (hD:D.bm=C.bm.set i p) (hR:D.rows=C.rows.set c r) (h1:D.ao=C.ao) (h2:D.n=C.n) (h3:D.ae=C.ae) (h4:D.spare=C.spare) (h5:D.cfg=C.cfg) (Bs:r.free=fr) (iF:p.aX=aX) (hpt:p.tk=tk) (hpo:p.own=(C.pg i).own) (hold:p.old=(C.pg i).old)
  (s:ai [own a cc 3 1 (aY fr),ag gb 149 (aS aX),ag tb 4 (sK tk),ag y.pb 227 ((y.pl.set i ⟨p,some gb,some tb,x.ob⟩).flatMap dI),ag y.rb 196 ((y.rl.set c ⟨r,a,cc⟩).flatMap ey),ag b 179 (cI C y),nP C y,
   ag y.a 249 (iq y.ab C.ao (C.n*C.ao)),ag y.ab 5 (dK D.A (C.n*C.ao)),DC x.ob (jK (C.pg i).old),aB ((y.pl.eraseIdx i).map kW),aB ((y.rl.eraseIdx c).map kG)] k):ai [Cl b D] k:=by
 have e2:aB [ag gb 149 (aS aX),ag tb 4 (sK tk),DC x.ob (jK (C.pg i).old)]=kW ⟨p,some gb,some tb,x.ob⟩:=by
  unfold kW;rw[<-iF,<-hpt,<-hold];rfl
 have e3:own a cc 3 1 (aY fr)=kG ⟨r,a,cc⟩:=by unfold kG;rw[Bs]
 have s1:ai [ag gb 149 (aS aX),ag tb 4 (sK tk),DC x.ob (jK (C.pg i).old),aB ((y.pl.eraseIdx i).map kW),own a cc 3 1 (aY fr),aB ((y.rl.eraseIdx c).map kG),ag y.pb 227 ((y.pl.set i ⟨p,some gb,some tb,x.ob⟩).flatMap dI),ag y.rb 196 ((y.rl.set c ⟨r,a,cc⟩).flatMap ey),ag b 179 (cI C y),nP C y,ag y.a 249 (iq y.ab C.ao (C.n*C.ao)),ag y.ab 5 (dK D.A (C.n*C.ao))] k:=by refine(?_:∀h,ai _ h->ai _ h) k s;exact Eh
 have s2:=dZ (L:= [_,_,_]) s1;rw[e2]at s2;have s3:=uW (f:=kW) x1 _ s2;rw[e3]at s3;have s4:ai [kG ⟨r,a,cc⟩,aB ((y.rl.eraseIdx c).map kG),aB ((y.pl.set i ⟨p,some gb,some tb,x.ob⟩).map kW),ag y.pb 227 ((y.pl.set i ⟨p,some gb,some tb,x.ob⟩).flatMap dI),ag y.rb 196 ((y.rl.set c ⟨r,a,cc⟩).flatMap ey),ag b 179 (cI C y),nP C y,ag y.a 249 (iq y.ab C.ao (C.n*C.ao)),ag y.ab 5 (dK D.A (C.n*C.ao))] k:=by refine(?_:∀h,ai _ h->ai _ h) k s3;exact Eh
 have s5:=uW (f:=kG) z1 _ s4;have zI:gC D {y with pl:=y.pl.set i ⟨p,some gb,some tb,x.ob⟩,rl:=y.rl.set c ⟨r,a,cc⟩}:=by
  refine⟨by rw[hD,<-hy.pl,af7],by rw[hR,<-hy.rl,af7],λu hu=> ?_,by rw[h5,h1];exact hy.ao,by rw[h5,h2];exact hy.bA⟩;have P:=hy.pk x (aaf x1);rcases af5 hu with h|rfl
  ·exact hy.pk u h
  refine⟨?_, ?_,λh=> ?_⟩
  ·dsimp only;rw[hpo,<-e,<-P.g,hg]
  ·dsimp only;rw[hpo,<-e,<-P.t,ht]
  dsimp only;rw[hold,<-e];exact P.o h
 refine qo (H:= []) zI ?_;have hs:cI D {y with pl:=y.pl.set i ⟨p,some gb,some tb,x.ob⟩,rl:=y.rl.set c ⟨r,a,cc⟩}=cI C y:=by unfold cI;rw[h1,h2,h3,h4,h5]
 have hz:nP D {y with pl:=y.pl.set i ⟨p,some gb,some tb,x.ob⟩,rl:=y.rl.set c ⟨r,a,cc⟩}=nP C y:=by unfold nP;rw[h3]
 unfold mC;rw[hs,hz,h1,h2];refine(?_:∀h,ai _ h->ai _ h) k s5;exact Eh
theorem ajt (a:FL)(m:Nat):BJ a 0 m (0*1)=a:=by
 unfold BJ;split
 ·rfl
 ·cases a<;>simp[Addr.add]
theorem Ba{C:Cs}{i c m:Nat}(hm:0<m):C.iD i c (aae m false)≠ []:=by
 unfold iD;intro h;rw[List.map_eq_nil_iff,List.filter_eq_nil_iff]at h;refine h 0 (by simp;omega) ?_;rw[List.getElem?_replicate,if_pos hm];rfl
theorem UN{α:Type}(l:List α){m:List α}(h:m≠ []):(l++m).getLast?=m.getLast?:=by
 rw[List.getLast?_append,agk h];rfl
theorem yU{C:Cs}(K:Ok C){i c:Nat}(hc:c<C.ae.length):∃p,((C.bE i c).rw c).free.getLast?=some p:=by
 have h:=uM C c c {C.rw c with bA:=(C.rw c).bA+1,ig:=(C.rw c).ig+1,free:=(C.rw c).free++C.iD i c (aae (C.ao/C.sz c) false)} (by rw[K.rl];exact hc);rw[if_pos rfl]at h;have h2:(C.bE i c).rw c=_:=h;obtain⟨z1,z2,_⟩:=K.toFix.sz hc;have hm:0<C.ao/C.sz c:=Nat.div_pos z2 (by omega);rw[h2];dsimp only;rw[UN _ (Ba hm)];exact⟨_,agk (Ba hm)⟩
theorem JG{α:Type}(f:α->Nat)(B:Nat):∀l:List α,(∀x∈l,f x<=B)->(l.map f).sum<=l.length*B
 | [],_=>by simp
 |x::l,h=>by
  have h1:=JG f B l λy hy=>h y (aai _ hy);have h2:=h x (aag ..);simp only[aaj,abJ,abU,agr,agw];omega
theorem xf{C:Cs}(K:Ok C){x:Pg}(hx:x∈C.bm):x.held<=1048576:=by
 have P:=K.pg x hx;have f1:=K.toFix.p1;rw[P.held];have h1:(x.tk.map bN).sum<=x.tk.length:=x7 bN (λb=>by cases b<;>decide) _;have h4:=P.tl;by_cases ho:x.own=true
 ·have h2:=P.gl ho
  have h3:=agh C.ao (C.sz x.cl);omega
 have:=(P.no (by simpa using ho)).1;rw[this]at h4;simp at h4;rw[h4]at h1⊢;simp
theorem x5{C:Cs}(K:Ok C){c:Nat}(hc:c<C.ae.length):(C.rw c).ct<=1073741824:=by
 rw[K.ft c hc];have h1:=JG (uC c) 1048576 C.bm λx hx=>by
  unfold uC;split
  ·exact xf K hx
  omega
 have h2:=K.toFix.n1;have h3:=K.toFix.pl;unfold wR;omega
theorem JD (b:Nat)(C:Cs)(K:Ok C)(c:Nat)(hc:c<C.ae.length):aG aaa 157 [Dk b,Dm Dl c] uT [Cl b C]
  (λv H=>match C.ca c with
   |none=>v= .tuple #[Dm Dj 0,Dm Dl 21]/\H= [Cl b C]
   |some (p,D)=>v= .tuple #[Dm Dj (D.hd p),Dm Dl 0]/\H= [Cl b D]):=by
 refine tx λy hy=> ?_;have l1:=K.toFix.l1;refine af func157 rfl ntmps157 rfl ?_;intro F _;change G _ _ _ _ _ [ag b 179 (cI C y),nP C y,ag y.pb 227 (y.pl.flatMap dI),aB (y.pl.map kW),ag y.rb 196 (y.rl.flatMap ey),aB (y.rl.map kG),ag y.a 249 (iq y.ab C.ao (C.n*C.ao)),ag y.ab 5 (dK C.A (C.n*C.ao))];refine cV ?_;refine zl Aa (Ec b C y K (c:Int)) .nil (λ_ _ ak=>⟨ak.nth 0 rfl,ak.nth 1 rfl,ak.nth 2 rfl,ak.nth 3 rfl,ak.nth 4 rfl,ak.nth 5 rfl,ak.nth 6 rfl,ak.nth 7 rfl,trivial⟩) ?_;rw[show ZZ C (c:Int)=true from decide_eq_true ⟨by omega,by omega⟩];obtain⟨z,z1,z2⟩:=yi K hy hc;have r0:(y.rl.flatMap ey)[c*4]?=some (.slice z.a (C.rw c).free.length z.c):=by
  have:=bb cq z1 (j:=0) rfl;rw[z2]at this;exact this
 refine lx ?_;refine av ?_;refine eK (ι:=Bool×Cs×Lc×Nat) (FN [20,12]) (λ(ok,D,Y,p)=>(ok=true->Ok D/\gC D Y/\Y.rb=y.rb/\c<D.ae.length/\(D.rw c).free.getLast?=some p/\C.ca c=some (p,D.fR c p))/\(ok=false->D=C/\Y=y/\C.ca c=none)) (λ(ok,D,Y,p)=> [(31, .bool (!ok))]) (λ(ok,D,Y,p)=> [ag b 179 (cI D Y),nP D Y,ag Y.pb 227 (Y.pl.flatMap dI),aB (Y.pl.map kW),ag Y.rb 196 (Y.rl.flatMap ey),aB (Y.rl.map kG),ag Y.a 249 (iq Y.ab D.ao (D.n*D.ao)),ag Y.ab 5 (dK D.A (D.n*D.ao))]) ?_ ?_
 ·rcases e:(C.rw c).free.getLast? with _|p
  ·have hem:(C.rw c).free= []:=List.getLast?_eq_none_iff.1 e
   refine cV ?_;refine zt 26 ?_ (e:=by exact decide_eq_true (by rw[hem];rfl));refine bd ?_;refine Lp (oC Aa rfl rfl (Tg b C y K hy c hc) (.cons .here (.cons .here (.cons .here (.cons .here (.cons .here (.cons .here (.cons .here (.cons .here .nil)))))))) Di ?_);rintro v H' hw;refine bR ?_;rcases e2:C.gr with _|i
   ·rw[e2]at hw
    obtain⟨rfl,rfl⟩:=hw;refine bd ?_;refine aD ?_;refine Me ((false,C,y,0)) (⟨λh=>(by cases h),λ_=>⟨rfl,rfl,by unfold ca;rw[e,e2]⟩⟩)
   rw[e2]at hw;obtain⟨rfl,Y,hY,hrb,rfl⟩:=hw;obtain⟨p,hp⟩:=yU K (i:=i) hc;have hi:i<C.n/\(C.pg i).own=false:=by
    unfold gr at e2;rw[abK]at e2;obtain⟨q1,q2,_⟩:=e2;refine⟨by rw[<-K.pl];exact q1, ?_⟩;have:=ki (C:=C) q1;rw[aac q1]at this;rw[<-Option.some.inj this];simpa using q2
   refine bd ?_;refine aD ?_;refine Me ((true,C.bE i c,Y,p)) (⟨λ_=>⟨Az K hi.1 hc hi.2,hY,hrb,hc,hp,by unfold ca;rw[e,e2];dsimp only;rw[hp]⟩,λh=>(by cases h)⟩)
  have fQ:(C.rw c).free≠ []:=λh=>by rw[h]at e;cases e
  have LB:0<(C.rw c).free.length:=List.length_pos_iff.2 fQ;refine cV ?_;refine zf 26 ?_;refine bn ?_;refine aD ?_;refine Me ((true,C,y,p)) (⟨λ_=>⟨K,hy,rfl,hc,e,by unfold ca;rw[e]⟩,λh=>by cases h⟩)
 rintro⟨ok,D,Y,p⟩ ⟨h1,h2⟩
 try dsimp only at hI⊢
 rcases ok with _|_
 ·obtain⟨rfl,rfl,h3⟩:=h2 rfl
  rw[h3];refine bK ?_;refine au (H':= [Cl b D]) (λ_ s=>qo (H:= []) hy s) ?_;refine jT [Cl b D] results157 ?_;exact⟨rfl,rfl⟩
 obtain⟨KD,hY,hrb,hcD,hp,Dv⟩:=h1 rfl;rw[Dv];dsimp only
 clear h1 h2 Dv
 refine aw ?_;rw[<-hrb];obtain⟨KO,S,Fp⟩:=tK KD hp;have L:=Fp.toAt;have cQ:=Fp.cl;obtain⟨n1,n2,n3,n4,n5,n6,n7,n8⟩:=L.ba KD;have nb:=fU KD.toFix;have g0:=KD.toFix.p0;have g1:=KD.toFix.p1;have hgl:=Live.ya KD L;rw[cQ]at n2 n3 n4 n6 n7 n8;obtain⟨x,x1,x2,x3⟩:=tG KD hY L.i;obtain⟨gb,uu⟩:∃g,x.gb=some g:=Option.isSome_iff_exists.1 (x3.g.trans (by rw[x2];exact L.own));obtain⟨tb,ur⟩:∃g,x.tb=some g:=Option.isSome_iff_exists.1 (x3.t.trans (by rw[x2];exact L.own));obtain⟨z3,w1,w2⟩:=yi KD hY hcD;have P:=KD.s9 L.i;have ek:=L.k;have etk:=Fp.tk;have hixp:p % D.ao/D.sz c=D.ix p:=Gk (c:=c) (i:=D.pn p) cQ rfl;have hTl:=xf KD (dh (C:=D) (i:=D.pn p) (by rw[KD.pl];exact L.i));have hTk:=x5 KD hcD;have hfb:=kA KD c;have fQ:(D.rw c).free≠ []:=λh=>by rw[h]at hp;cases hp
 have mP:(D.rw c).free=(D.rw c).free.dropLast++ [p]:=by
  have:=ajW fQ;rw[agk fQ]at hp;rw[Option.some.inj hp]at this;exact this.symm
 obtain⟨f0,hf0⟩:∃f0,f0=(D.rw c).free.dropLast:=⟨_,rfl⟩;rw[<-hf0]at mP;have hlen:(D.rw c).free.length=f0.length+1:=by rw[mP];simp
 have r0:(Y.rl.flatMap ey)[c*4]?=some (.slice z3.a (f0.length+1) z3.c):=by
  have:=bb cq w1 (j:=0) (v:= .slice z3.a z3.r.free.length z3.c) rfl;rw[w2,hlen]at this;exact this
 have pk3:(Y.pl.flatMap dI)[D.pn p*7+3]?=some (.slice (some ⟨gb,0,none⟩) (D.pg (D.pn p)).aX.length (D.pg (D.pn p)).aX.length):=by
  have:=bb bL x1 (j:=3) rfl;rw[uu,x2]at this;exact this
 have pk4:(Y.pl.flatMap dI)[D.pn p*7+4]?=some (.slice (some ⟨tb,0,none⟩) (D.pg (D.pn p)).aX.length (D.pg (D.pn p)).aX.length):=by
  have:=bb bL x1 (j:=4) rfl;rw[ur,x2,P.tl]at this;exact this
 have pk5:(Y.pl.flatMap dI)[D.pn p*7+5]?=some (Dm Dl ((D.pg (D.pn p)).held)):=by
  have:=bb bL x1 (j:=5) rfl;rw[x2]at this;exact this
 refine B8 x1 x2 uu ur w1 w2 ?_;unfold P4;rw[mP];refine mE (iK .here λ_ o=>(oo o).some (by rw[ib];simp)) λsa=> ?_;refine mE (iK .here Ys) λscap=> ?_;rw[ib,aby,agm]at scap;have kl:(aY (f0++ [p]))[f0.length]?=some (Dm Dl p):=gk (by simp);refine bd ?_;refine av ?_;refine gT false mix ?_;refine bB ?_;refine Ti ((Ix rA (j:=f0.length) (hj:=by omega))) ?_;refine bq ?_;refine av ?_;refine gT false mix ?_;refine bP ?_;refine Ti (Sl 0 f0.length z3.c rA) ?_;rw[ajt];have e1:(Y.rl.flatMap ey).set (c*4+0) (.slice z3.a f0.length z3.c)=(Y.rl.set c ⟨{D.rw c with free:=f0},z3.a,z3.c⟩).flatMap ey:=bU cq w1 (by unfold ey;rw[w2];rfl) (by decide);have e2:((Y.rl.set c ⟨{D.rw c with free:=f0},z3.a,z3.c⟩).flatMap ey).set (c*4+1) (Dm Dl ((D.rw c).ct+1))=(Y.rl.set c ⟨{D.rw c with free:=f0,ct:=(D.rw c).ct+1},z3.a,z3.c⟩).flatMap ey:=by
  have:=bU (l:=Y.rl.set c ⟨{D.rw c with free:=f0},z3.a,z3.c⟩) (i:=c) (j:=1) (v:=Dm Dl ((D.rw c).ct+1)) (a':=(⟨{D.rw c with free:=f0,ct:=(D.rw c).ct+1},z3.a,z3.c⟩:GA)) cq (aah (aad.1 w1).1) (by unfold ey;rfl) (by decide);rw[af6]at this;exact this
 have r1:((Y.rl.set c ⟨{D.rw c with free:=f0},z3.a,z3.c⟩).flatMap ey)[c*4+1]?=some (Dm Dl ((D.rw c).ct)):=bb cq (aah (aad.1 w1).1) rfl;have hl4:c*4+4<=(Y.rl.flatMap ey).length:=by
  rw[eQ cq];have:=(aad.1 w1).1;omega
 have hl5:c*4+4<=((Y.rl.set c ⟨{D.rw c with free:=f0},z3.a,z3.c⟩).flatMap ey).length:=by
  rw[eQ cq,aak];have:=(aad.1 w1).1;omega
 generalize Bt:Y.rl.flatMap ey=c1 at*;refine bc ?_;refine av ?_;rw[ajO,ajO,e1];generalize qx:(Y.rl.set c ⟨{D.rw c with free:=f0},z3.a,z3.c⟩).flatMap ey=c2 at*;refine bB ?_;refine av ?_;rw[e2];have e3:(Y.pl.flatMap dI).set (p/D.ao*7+5) (Dm Dl ((D.pg (D.pn p)).held+1))=(Y.pl.set (D.pn p) ⟨{D.pg (D.pn p)with tk:=(D.pg (D.pn p)).tk.set (D.ix p) true,held:=(D.pg (D.pn p)).held+1},some gb,some tb,x.ob⟩).flatMap dI:=
  bU (j:=5) bL x1 (by unfold dI;rw[x2,uu,ur];dsimp only;rw[aak];rfl) (by decide)
 have hmp:=ag6 p (show 0<D.ao by omega);have pk3b:((Y.pl.set (D.pn p) ⟨{D.pg (D.pn p)with tk:=(D.pg (D.pn p)).tk.set (D.ix p) true,held:=(D.pg (D.pn p)).held+1},some gb,some tb,x.ob⟩).flatMap dI)[D.pn p*7+3]?=some (.slice (some ⟨gb,0,none⟩) (D.pg (D.pn p)).aX.length (D.pg (D.pn p)).aX.length):=bb bL (j:=3) (aah (aad.1 x1).1) rfl;have hl7:p/D.ao*7+7<=(Y.pl.flatMap dI).length:=by
  rw[eQ bL];have:=(aad.1 x1).1;unfold Cs.pn at this;omega
 generalize hc3:Y.pl.flatMap dI=c3 at*;have hi:=L.i;have hti:D.ix p<(sK (D.pg (D.pn p)).tk).length:=by rw[KQ,P.tl];exact ek
 have kg:=og (tC ek);refine gT false mix ?_;refine bB ?_;refine Ti (Qu) ?_;refine bq ?_;refine av ?_;refine gT false mix ?_;refine bs ?_;refine Ti (Rm) ?_;refine bs ?_;refine Tp (oL bj ?_ (hk:=Qv hcD (by repeat (first|exact fP.here|apply fP.there))));refine Ti (Qu) ?_;refine bd ?_;refine av ?_;rw[hixp];refine cA ?_;refine av ?_;rw[KP];refine bB ?_;refine av ?_;rw[e3];have pm:p % D.ao=D.ix p*D.sz c:=by
  have h1:=agM p D.ao;rw[agc]at h1;unfold Cs.pn at n6;omega
 refine bs ?_;refine zl Aa (IN Y.a Y.ab D.ao (D.n*D.ao) p 56 D.A 0 (by decide) (by omega) (by omega) (by omega) (by omega) g1) (.cons (.t8 .here) .nil) (λ_ _ ak=>ak.nth 7 rfl) ?_;refine aw ?_;refine av ?_;refine gT false mix ?_;refine gJ ?_;refine Tp (oZ (Aa (n:=221)) (zg Y.a Y.ab D.ao (D.n*D.ao) (p+12) (D.gen p) (lay D.A p (aae 56 0)) hgl (by omega) (by omega) (by omega) (by rw[YK (by omega)];omega) g1) (.cons .here .nil) (λ_ _ ak=>ak.nth 7 rfl) ?_);refine bB ?_;refine zl Aa (vq p (D.gen p) (by omega) hgl) .nil Di ?_;refine bc ?_;rw[lp f0 [p]];refine Hh (H':= [own z3.a z3.c 3 1 (aY f0++aY [p]),ag gb 149 (aS (D.pg (D.pn p)).aX),ag tb 4 (sK ((D.pg (D.pn p)).tk.set (D.ix p) true)),ag Y.pb 227 ((Y.pl.set (D.pn p) ⟨{D.pg (D.pn p)with tk:=(D.pg (D.pn p)).tk.set (D.ix p) true,held:=(D.pg (D.pn p)).held+1},some gb,some tb,x.ob⟩).flatMap dI),ag Y.rb 196 ((Y.rl.set c ⟨{D.rw c with free:=f0,ct:=(D.rw c).ct+1},z3.a,z3.c⟩).flatMap ey),ag b 179 (cI D Y),nP D Y,ag Y.a 249 (iq Y.ab D.ao (D.n*D.ao)),ag Y.ab 5 (dK (wr (lay D.A p (aae 56 0)) (p+12) 4 (D.gen p)) (D.n*D.ao)),DC x.ob (jK (D.pg (D.pn p)).old),aB ((Y.pl.eraseIdx (D.pn p)).map kW),aB ((Y.rl.eraseIdx c).map kG)]) ?_;refine au (λ_ s=>Yq s) ?_;refine au (H':= [Cl b (D.fR c p)]) (λ_ s=>su (D:=D.fR c p) (r:={D.rw c with free:=f0,ct:=(D.rw c).ct+1}) (p:={D.pg (D.pn p)with tk:=(D.pg (D.pn p)).tk.set (D.ix p) true,held:=(D.pg (D.pn p)).held+1}) hY x1 x2 uu ur w1 rfl (by unfold fR put;rw[<-hf0]) rfl rfl rfl rfl rfl rfl rfl rfl rfl rfl s) ?_;refine jT [Cl b (D.fR c p)] results157 ?_;refine⟨?_,rfl⟩;have e5:(D.fR c p).hd p=D.gen p*4294967296+(p/8+1):=by
  unfold Cs.hd;have:(D.fR c p).gen p=D.gen p:=by
   unfold Cs.gen;rw[S.pn,S.ix,show(D.fR c p).pg (D.pn p)=_ from kO (by rw[KD.pl];exact L.i) _,if_pos rfl]
  rw[this]
 rw[e5]
theorem za{α:Type}{f:α->FJ}{k:Nat}(hf:∀a,(f a).length=k){l:List α}{i j:Nat}{b a':α}{v:Value}(h:i<l.length)(hv:(f b).set j v=f a')(hj:j<k):((l.set i b).flatMap f).set (i*k+j) v=(l.set i a').flatMap f:=by
 have:=bU (l:=l.set i b) (i:=i) (j:=j) (v:=v) (a':=a') hf (aah h) hv hj;rw[af6]at this;exact this
structure Pv (C:Cs)(y:Lc)(i c gb tb:Nat)(x:vG)(z:GA):Prop where
 x1:y.pl[i]?=some x
 x2:x.p=C.pg i
 g:x.gb=some gb
 t:x.tb=some tb
 z1:y.rl[c]?=some z
 z2:z.r=C.rw c
 p1:(y.pl.flatMap dI)[i*7+1]?=some (.bool (C.pg i).lv)
 p2:(y.pl.flatMap dI)[i*7+2]?=some (Dm Dl c)
 p3:(y.pl.flatMap dI)[i*7+3]?=some (.slice (some ⟨gb,0,none⟩) (C.pg i).aX.length (C.pg i).aX.length)
 p4:(y.pl.flatMap dI)[i*7+4]?=some (.slice (some ⟨tb,0,none⟩) (C.pg i).aX.length (C.pg i).aX.length)
 p5:(y.pl.flatMap dI)[i*7+5]?=some (Dm Dl ((C.pg i).held))
 p6:(y.pl.flatMap dI)[i*7+6]?=some (.map x.ob)
 r0:(y.rl.flatMap ey)[c*4+0]?=some (.slice z.a (C.rw c).free.length z.c)
 r1:(y.rl.flatMap ey)[c*4+1]?=some (Dm Dl ((C.rw c).ct))
 r2:(y.rl.flatMap ey)[c*4+2]?=some (Dm Dl ((C.rw c).bA))
 r3:(y.rl.flatMap ey)[c*4+3]?=some (Dm Dl ((C.rw c).ig))
 hp:i*7+7<=(y.pl.flatMap dI).length
 hr:c*4+4<=(y.rl.flatMap ey).length
 ip:i<y.pl.length
 ir:c<y.rl.length
theorem Jf{C:Cs}{y:Lc}(K:Ok C)(hy:gC C y){i c:Nat}(hi:i<C.n)(ho:(C.pg i).own=true)(hc:(C.pg i).cl=c):∃gb tb x z,Pv C y i c gb tb x z:=by
 obtain⟨x,x1,x2,x3⟩:=tG K hy hi;obtain⟨gb,uu⟩:∃g,x.gb=some g:=Option.isSome_iff_exists.1 (x3.g.trans (by rw[x2];exact ho));obtain⟨tb,ur⟩:∃g,x.tb=some g:=Option.isSome_iff_exists.1 (x3.t.trans (by rw[x2];exact ho));have P:kN C (C.pg i):=K.pg _ (dh (by rw[K.pl];exact hi));have gS:c<C.ae.length:=by rw[<-hc];exact P.cl ho
 obtain⟨z,z1,z2⟩:=yi K hy gS;have tl:=P.tl;have q:∀j v,(dI x)[j]?=some v->(y.pl.flatMap dI)[i*7+j]?=some v:=λj v hv=>bb bL x1 hv;have r:∀j v,(ey z)[j]?=some v->(y.rl.flatMap ey)[c*4+j]?=some v:=λj v hv=>bb cq z1 hv;have ip:=(aad.1 x1).1;have ir:=(aad.1 z1).1;refine⟨gb,tb,x,z,x1,x2,uu,ur,z1,z2, ?_, ?_, ?_, ?_, ?_, ?_, ?_, ?_, ?_, ?_,by rw[eQ bL];omega,by rw[eQ cq];omega,ip,ir⟩
 ·have:=q 1 _ rfl;rw[x2]at this;exact this
 ·have:=q 2 _ rfl;rw[x2,hc]at this;exact this
 ·have:=q 3 _ rfl;rw[uu,x2]at this;exact this
 ·have:=q 4 _ rfl;rw[ur,x2,tl]at this;exact this
 ·have:=q 5 _ rfl;rw[x2]at this;exact this
 ·have:=q 6 _ rfl;exact this
 ·have:=r 0 _ rfl;rw[z2]at this;exact this
 ·have:=r 1 _ rfl;rw[z2]at this;exact this
 ·have:=r 2 _ rfl;rw[z2]at this;exact this
 have:=r 3 _ rfl;rw[z2]at this;exact this
theorem XE (g:Nat):gh .add .u32 (g:Int) 1=some (((g+1) % 4294967296:Nat):Int):=congrArg some (by rw[IntKind.wrap_u32];omega)
set_option maxHeartbeats 1000000 in
theorem Ks (b:Nat)(C:Cs)(K:Ok C)(p:Nat)(L:Live C p):aG aaa 163 [Dk b,Dm Dj (C.hd p)] uT [Cl b C] (λv H=>v=Dm Dl 0/\H= [Cl b (C.aL p)]):=by
 refine tx λy hy=> ?_;have gS:=(L.toAt.ba K).1;obtain⟨_,_,_,_,_,n6,n7,n8⟩:=L.toAt.ba K;have nb:=fU K.toFix;have hheld:=xf K (dh (C:=C) (i:=C.pn p) (by rw[K.pl];exact L.i));have htkn:=x5 K gS;have aaN:=kA K (C.cl p);obtain⟨gb,tb,x,z,V⟩:=Jf (c:=C.cl p) K hy L.i L.own rfl;obtain⟨x1,x2,uu,ur,z1,z2,p1,p2,p3,p4,p5,p6,r0,r1,r2,r3,hp7,Gs,ip,ir⟩:=V;have P:=K.s9 L.i;have hti:C.ix p<(sK (C.pg (C.pn p)).tk).length:=by rw[KQ,P.tl];exact L.k
 have hgi:C.ix p<(aS (C.pg (C.pn p)).aX).length:=by rw[lS];exact L.k
 have kg:=og (tC L.k);have ek:=L.k;have hh1:1<=(C.pg (C.pn p)).held:=by
  rw[P.held];have:=iX bN L.tk;exact this
 have Wj:1<=(C.rw (C.cl p)).ct:=by
  rw[K.ft _ gS];have h1:=iX (uC (C.cl p)) (ki (C:=C) (i:=C.pn p) (by rw[K.pl];exact L.i));rw[uU (c:=C.cl p) L.own rfl]at h1;exact Nat.le_trans hh1 h1
 refine af func163 rfl ntmps163 rfl ?_;intro F _;change G _ _ _ _ _ (mC b C y);unfold mC;refine bs ?_;refine zl Aa (Kz b C y K hy p L) .nil (λ_ _ ak=>⟨ak.nth 0 rfl,ak.nth 1 rfl,ak.nth 2 rfl,ak.nth 3 rfl,ak.nth 4 rfl,ak.nth 5 rfl,ak.nth 6 rfl,ak.nth 7 rfl,trivial⟩) ?_;refine ri ?_;change G _ _ _ _ _ (mC b C y);refine B8 (c:=C.cl p) x1 x2 uu ur z1 z2 ?_;unfold P4;have e5:(y.pl.flatMap dI).set (C.pn p*7+5) (Dm Dl ((C.pg (C.pn p)).held-1))=(y.pl.set (C.pn p) ⟨{C.pg (C.pn p)with tk:=(C.pg (C.pn p)).tk.set (C.ix p) false,held:=(C.pg (C.pn p)).held-1,aX:=(C.pg (C.pn p)).aX.set (C.ix p) ((C.gen p+1) % 4294967296)},some gb,some tb,x.ob⟩).flatMap dI:=
  bU (j:=5) bL x1 (by unfold dI;rw[x2,uu,ur,show((C.pg (C.pn p)).held-1:Int)=(((C.pg (C.pn p)).held-1:Nat):Int) by omega];dsimp only;rw[aak,aak];rfl) (by decide)
 have q1:((y.pl.set (C.pn p) ⟨{C.pg (C.pn p)with tk:=(C.pg (C.pn p)).tk.set (C.ix p) false,held:=(C.pg (C.pn p)).held-1,aX:=(C.pg (C.pn p)).aX.set (C.ix p) ((C.gen p+1) % 4294967296)},some gb,some tb,x.ob⟩).flatMap dI)[C.pn p*7+1]?=some (.bool (C.pg (C.pn p)).lv):=bb bL (j:=1) (aah ip) rfl;have q2:((y.pl.set (C.pn p) ⟨{C.pg (C.pn p)with tk:=(C.pg (C.pn p)).tk.set (C.ix p) false,held:=(C.pg (C.pn p)).held-1,aX:=(C.pg (C.pn p)).aX.set (C.ix p) ((C.gen p+1) % 4294967296)},some gb,some tb,x.ob⟩).flatMap dI)[C.pn p*7+2]?=some (Dm Dl (C.cl p)):=bb bL (j:=2) (aah ip) rfl;have q3:((y.pl.set (C.pn p) ⟨{C.pg (C.pn p)with tk:=(C.pg (C.pn p)).tk.set (C.ix p) false,held:=(C.pg (C.pn p)).held-1,aX:=(C.pg (C.pn p)).aX.set (C.ix p) ((C.gen p+1) % 4294967296)},some gb,some tb,x.ob⟩).flatMap dI)[C.pn p*7+3]?=some (.slice (some ⟨gb,0,none⟩) (C.pg (C.pn p)).aX.length (C.pg (C.pn p)).aX.length):=by
  have:=bb bL (l:=y.pl.set (C.pn p) ⟨{C.pg (C.pn p)with tk:=(C.pg (C.pn p)).tk.set (C.ix p) false,held:=(C.pg (C.pn p)).held-1,aX:=(C.pg (C.pn p)).aX.set (C.ix p) ((C.gen p+1) % 4294967296)},some gb,some tb,x.ob⟩) (i:=C.pn p) (j:=3) (aah ip) rfl;dsimp only at this;rw[aak]at this;exact this
 generalize Bt:y.pl.flatMap dI=c1 at*;refine bP ?_;refine av ?_;rw[KP];refine bB ?_;refine av ?_;rw[e5];generalize qx:(y.pl.set (C.pn p) ⟨{C.pg (C.pn p)with tk:=(C.pg (C.pn p)).tk.set (C.ix p) false,held:=(C.pg (C.pn p)).held-1,aX:=(C.pg (C.pn p)).aX.set (C.ix p) ((C.gen p+1) % 4294967296)},some gb,some tb,x.ob⟩).flatMap dI=c2 at*;refine cV ?_;refine Li ((Im (z:=(((C.gen p+1) % 4294967296:Nat):Int)) (hz:=XE _))) ?_;refine bq ?_;refine av ?_;rw[Et];refine gT false mix ?_;refine Lu ?_;obtain⟨fr,Bs⟩:∃fr,fr=if(C.pg (C.pn p)).lv=true then(C.rw (C.cl p)).free else(C.rw (C.cl p)).free++ [p]:=⟨_,rfl⟩
 refine eK (ι:=FL×Nat) (FN [56,10]) (λ(a,cc)=>True) (λ(a,cc)=> []) (λ(a,cc)=> [own a cc 3 1 (aY fr),ag y.rb 196 ((y.rl.set (C.cl p) ⟨{C.rw (C.cl p)with free:=fr},a,cc⟩).flatMap ey),aB ((y.pl.eraseIdx (C.pn p)).map kW),aB ((y.rl.eraseIdx (C.cl p)).map kG),DC x.ob (jK (C.pg (C.pn p)).old),ag gb 149 (aS ((C.pg (C.pn p)).aX.set (C.ix p) ((C.gen p+1) % 4294967296))),ag tb 4 (sK ((C.pg (C.pn p)).tk.set (C.ix p) false)),ag y.pb 227 c2,ag b 179 (cI C y),nP C y,ag y.a 249 (iq y.ab C.ao (C.n*C.ao)),ag y.ab 5 (dK C.A (C.n*C.ao))]) ?_ ?_
 ·refine az rfl ?_ ?_
  ·intro jC
   replace jC:=aO jC;have DF:(C.pg (C.pn p)).lv=false:=by simpa using jC
   rw[DF]at Bs;simp only[Bool.false_eq_true,if_false]at Bs;refine bK ?_;refine Lp (oT jI λb1=> ?_);refine Lp (cm jI xS rfl rfl rfl rfl .here (by rw[ib,ajM]) (rfl) (by simp[Value.oneCell']) (by omega) (by omega) rfl λa1 c1 h1=> ?_);have e7:aY (C.rw (C.cl p)).free++ [Value.int .i64 (p:Int)]=aY fr:=by rw[Bs,lp _ [_]];rfl
   have e8:(y.rl.flatMap ey).set (C.cl p*4+0) (.slice a1 ((C.rw (C.cl p)).free.length+1) c1)=(y.rl.set (C.cl p) ⟨{C.rw (C.cl p)with free:=fr},a1,c1⟩).flatMap ey:=bU (j:=0) cq z1 (by unfold ey;rw[z2,Bs];simp) (by decide);refine bq ?_;refine aD ?_;rw[e7,e8];refine Me ((a1,c1)) (trivial)
  intro jC;replace jC:=aO jC;have DF:(C.pg (C.pn p)).lv=true:=by simpa using jC
  rw[DF]at Bs;simp only[if_true]at Bs;refine aw ?_;have e8:y.rl.flatMap ey=(y.rl.set (C.cl p) ⟨{C.rw (C.cl p)with free:=fr},z.a,z.c⟩).flatMap ey:=by
   rw[gj (x:=(⟨{C.rw (C.cl p)with free:=fr},z.a,z.c⟩:GA)) (by rw[z1,Bs,<-z2])]
  rw[e8,<-Bs];refine Me ((z.a,z.c)) (trivial)
 rintro⟨a,cc⟩ hI
 try dsimp only at hI⊢
 have e9:((y.rl.set (C.cl p) ⟨{C.rw (C.cl p)with free:=fr},a,cc⟩).flatMap ey).set (C.cl p*4+1) (Dm Dl ((C.rw (C.cl p)).ct-1))=(y.rl.set (C.cl p) ⟨{C.rw (C.cl p)with free:=fr,ct:=(C.rw (C.cl p)).ct-1},a,cc⟩).flatMap ey:=
  za cq ir (by unfold ey;rw[show((C.rw (C.cl p)).ct-1:Int)=(((C.rw (C.cl p)).ct-1:Nat):Int) by omega];rfl) (by decide)
 have s1:((y.rl.set (C.cl p) ⟨{C.rw (C.cl p)with free:=fr},a,cc⟩).flatMap ey)[C.cl p*4+1]?=some (Dm Dl ((C.rw (C.cl p)).ct)):=bb cq (aah ir) rfl;have hr5:C.cl p*4+4<=((y.rl.set (C.cl p) ⟨{C.rw (C.cl p)with free:=fr},a,cc⟩).flatMap ey).length:=by rw[eQ cq,aak];omega
 generalize hc3:(y.rl.set (C.cl p) ⟨{C.rw (C.cl p)with free:=fr},a,cc⟩).flatMap ey=c3 at*;refine fX ?_;rw[e9];rw[<-qx];refine Hh (H':= [own a cc 3 1 (aY fr),ag gb 149 (aS ((C.pg (C.pn p)).aX.set (C.ix p) ((C.gen p+1) % 4294967296))),ag tb 4 (sK ((C.pg (C.pn p)).tk.set (C.ix p) false)),ag y.pb 227 ((y.pl.set (C.pn p) ⟨{C.pg (C.pn p)with tk:=(C.pg (C.pn p)).tk.set (C.ix p) false,held:=(C.pg (C.pn p)).held-1,aX:=(C.pg (C.pn p)).aX.set (C.ix p) ((C.gen p+1) % 4294967296)},some gb,some tb,x.ob⟩).flatMap dI),ag y.rb 196 ((y.rl.set (C.cl p) ⟨{C.rw (C.cl p)with free:=fr,ct:=(C.rw (C.cl p)).ct-1},a,cc⟩).flatMap ey),ag b 179 (cI C y),nP C y,ag y.a 249 (iq y.ab C.ao (C.n*C.ao)),ag y.ab 5 (dK C.A (C.n*C.ao)),DC x.ob (jK (C.pg (C.pn p)).old),aB ((y.pl.eraseIdx (C.pn p)).map kW),aB ((y.rl.eraseIdx (C.cl p)).map kG)]) ?_;refine au (H':= [Cl b (C.aL p)]) (λ_ s=>su (D:=C.aL p) (r:={C.rw (C.cl p)with free:=fr,ct:=(C.rw (C.cl p)).ct-1}) (p:={C.pg (C.pn p)with tk:=(C.pg (C.pn p)).tk.set (C.ix p) false,held:=(C.pg (C.pn p)).held-1,aX:=(C.pg (C.pn p)).aX.set (C.ix p) ((C.gen p+1) % 4294967296)}) hy x1 x2 uu ur z1 rfl (by unfold aL put;rw[Bs]) rfl rfl rfl rfl rfl rfl rfl rfl rfl rfl s) ?_;refine Rt [Cl b (C.aL p)] results163 ?_;exact⟨rfl,rfl⟩
set_option maxHeartbeats 1000000 in
theorem XS (b:Nat)(C:Cs)(K:Ok C)(i:Nat)(hi:i<C.n)(ho:(C.pg i).own=true)(jC:(C.pg i).lv=true):aG aaa 248 [Dk b,Dm Dl i] uT [Cl b C] (λv H=>v=Dm Dl 0/\H= [Cl b (C.iu i)]):=by
 refine tx λy hy=> ?_;have P:kN C (C.pg i):=K.pg _ (dh (by rw[K.pl];exact hi));have gS:=P.cl ho;obtain⟨gb,tb,x,z,V⟩:=Jf (c:=(C.pg i).cl) K hy hi ho rfl;obtain⟨x1,x2,uu,ur,z1,z2,p1,p2,p3,p4,p5,p6,r0,r1,r2,r3,hp7,Gs,ip,ir⟩:=V;have X:=hy.pk x (aaf x1);refine af func248 rfl ntmps248 rfl ?_;intro F _;change G _ _ _ _ _ (mC b C y);unfold mC;have iF:kW x=kW ⟨{C.pg i with lv:=false},some gb,some tb,x.ob⟩:=by unfold kW;rw[x2,uu,ur]
 have e1:(y.pl.flatMap dI).set (i*7+1) (.bool false)=(y.pl.set i ⟨{C.pg i with lv:=false},some gb,some tb,x.ob⟩).flatMap dI:=bU (j:=1) bL x1 (by unfold dI;rw[x2,uu,ur];rfl) (by decide);have e2:aB (y.pl.map kW)=aB ((y.pl.set i ⟨{C.pg i with lv:=false},some gb,some tb,x.ob⟩).map kW):=by rw[af7,<-iF,gj (by rw[abD,x1];rfl)]
 rw[jC]at p1;obtain⟨D,hD⟩:∃D:Cs,D={C with bm:=C.bm.set i {C.pg i with lv:=false}}:=⟨_,rfl⟩;obtain⟨y2,zI⟩:∃y2:Lc,y2={y with pl:=y.pl.set i ⟨{C.pg i with lv:=false},some gb,some tb,x.ob⟩}:=⟨_,rfl⟩;have hDp:D.pg i={C.pg i with lv:=false}:=by
  have:=BU C i i {C.pg i with lv:=false} (by rw[K.pl];exact hi);rw[if_pos rfl]at this;rw[hD];exact this
 have hDr:∀c,D.rw c=C.rw c:=λc=>by rw[hD];rfl
 have hDF:Fix D:=by rw[hD];exact⟨K.p0,K.p1,K.p8,K.n0,K.n1,K.l0,K.l1,K.s0,by simp[K.pl],K.rl⟩
 have hDy:gC D y2:=by
  rw[hD,zI];refine⟨by rw[af7,hy.pl],hy.rl,λu hu=> ?_,hy.ao,hy.bA⟩;rcases af5 hu with h|rfl
  ·exact hy.pk u h
  exact⟨by dsimp only;rw[ho];rfl,by dsimp only;rw[ho];rfl,λh=>by have:=X.o h;rw[x2]at this;exact this⟩
 have cQ:(D.pg i).cl=(C.pg i).cl:=by rw[hDp]
 have l2:=(K.le).2 _ gS;have f2:=K.toFix.n1;have J:=Kl b D y2 hDF hDy i (by rw[hD];exact hi) ⟨{C.pg i with lv:=false},some gb,some tb,x.ob⟩ tb (by rw[zI];exact aah ip) rfl (by rw[cQ,hD];exact gS) (by rw[cQ,hDp,hD];dsimp only;rw[P.tl,P.gl ho];exact aam _) (by rw[cQ,hDr];have:=kA K (C.pg i).cl;omega) (by rw[cQ,hDr];omega);rw[cQ]at J;generalize Bt:y.pl.flatMap dI=c1 at*;refine bs ?_;refine zl Aa (nj b C y K hy i hi) .nil (λ_ _ ak=>⟨ak.nth 0 rfl,ak.nth 1 rfl,by have:=ak.nth 2 rfl;rw[<-Bt]at this;exact this,ak.nth 3 rfl,ak.nth 4 rfl,ak.nth 5 rfl,ak.nth 6 rfl,ak.nth 7 rfl,trivial⟩) ?_;rw[if_pos ho];refine bK ?_;refine zf 11 ?_ (e:=by rfl);refine ri ?_;refine av ?_;rw[e1,e2];refine au (H':=mC b D y2) (by rw[hD,zI];exact Eh) ?_;unfold mC;refine bq ?_;refine Lp (oC Aa rfl rfl (J) (.cons .here (.cons .here (.cons .here (.cons .here (.cons .here (.cons .here (.cons .here (.cons .here .nil)))))))) Di ?_);rintro v H' ⟨rfl,zz,hzz,a3,c3,rfl,pC⟩;refine bR ?_;refine bn ?_;refine au (H':= [Cl b (C.iu i)]) (λ_ s=>qo (H:= []) (y:={y2 with rl:=y2.rl.set (C.pg i).cl ⟨(kV D i).rw (C.pg i).cl,a3,c3⟩}) ⟨by rw[pC.pl,hD];rfl, ?_,pC.pk,by have:=pC.ao;rw[hD]at this;exact this,by have:=pC.bA;rw[hD]at this;exact this⟩ (by rw[hD]at s⊢;exact s)) ?_
 ·rw[pC.rl]
  unfold kV;dsimp only;rw[cQ,hDr,hDp,hD];rfl
 refine Rt [Cl b (C.iu i)] results248 ?_;exact⟨rfl,rfl⟩
set_option maxHeartbeats 1000000 in
theorem UI (b:Nat)(C:Cs)(K:Ok C)(i:Nat)(hi:i<C.n)(ho:(C.pg i).own=true)(jC:(C.pg i).lv=false):aG aaa 201 [Dk b,Dm Dl i] uT [Cl b C] (λv H=>v=Dm Dl 0/\H= [Cl b (C.cS i)]):=by
 refine tx λy hy=> ?_;have P:kN C (C.pg i):=K.pg _ (dh (by rw[K.pl];exact hi));have gS:=P.cl ho;have f0:=K.toFix.p0;have f1:=K.toFix.p1;have f2:=K.toFix.n1;have aaN:=kA K (C.pg i).cl;have l2:=(K.le).2 _ gS;have hS:1<=(C.rw (C.pg i).cl).ig:=by
  have h1:=iX (xD (C.pg i).cl) (ki (C:=C) (i:=i) (by rw[K.pl];exact hi));rw[K.fs _ gS];have:xD (C.pg i).cl (C.pg i)=1:=by unfold xD;rw[if_pos ⟨ho,rfl,jC⟩]
  rw[this]at h1;exact h1
 obtain⟨c,hc⟩:∃c,(C.pg i).cl=c:=⟨_,rfl⟩;obtain⟨gb,tb,x,z,V⟩:=Jf (c:=c) K hy hi ho hc;obtain⟨x1,x2,uu,ur,z1,z2,p1,p2,p3,p4,p5,p6,r0,r1,r2,r3,hp7,Gs,ip,ir⟩:=V;rw[hc]at aaN l2 hS gS;rw[jC]at p1;have e1:(y.pl.flatMap dI).set (i*7+1) (.bool true)=(y.pl.set i ⟨{C.pg i with lv:=true},some gb,some tb,x.ob⟩).flatMap dI:=bU (j:=1) bL x1 (by unfold dI;rw[x2,uu,ur];rfl) (by decide);have q2:((y.pl.set i ⟨{C.pg i with lv:=true},some gb,some tb,x.ob⟩).flatMap dI)[i*7+2]?=some (Dm Dl c):=by
  have:=bb bL (l:=y.pl.set i ⟨{C.pg i with lv:=true},some gb,some tb,x.ob⟩) (i:=i) (j:=2) (aah ip) rfl;rw[hc]at this;exact this
 have e3:(y.rl.flatMap ey).set (c*4+3) (Dm Dl ((C.rw c).ig-1))=(y.rl.set c ⟨{C.rw c with ig:=(C.rw c).ig-1},z.a,z.c⟩).flatMap ey:=bU (j:=3) cq z1 (by unfold ey;rw[z2,show((C.rw c).ig-1:Int)=(((C.rw c).ig-1:Nat):Int) by omega];rfl) (by decide);have s0:((y.rl.set c ⟨{C.rw c with ig:=(C.rw c).ig-1},z.a,z.c⟩).flatMap ey)[c*4+0]?=some (.slice z.a (C.rw c).free.length z.c):=bb cq (aah ir) rfl;have e4:∀(L:FH) (a:FL) (cc:Nat),((y.rl.set c ⟨{C.rw c with ig:=(C.rw c).ig-1},z.a,z.c⟩).flatMap ey).set (c*4+0) (.slice a L.length cc)=(y.rl.set c ⟨{C.rw c with ig:=(C.rw c).ig-1,free:=L},a,cc⟩).flatMap ey:=λL a cc=>za cq ir (by unfold ey;rfl) (by decide);have hr5:c*4+4<=((y.rl.set c ⟨{C.rw c with ig:=(C.rw c).ig-1},z.a,z.c⟩).flatMap ey).length:=by rw[eQ cq,aak];omega
 refine af func201 rfl ntmps201 rfl ?_;intro F _;change G _ _ _ _ _ (mC b C y);unfold mC;refine bs ?_;refine zl Aa (nj b C y K hy i hi) .nil (λ_ _ ak=>⟨ak.nth 0 rfl,ak.nth 1 rfl,ak.nth 2 rfl,ak.nth 3 rfl,ak.nth 4 rfl,ak.nth 5 rfl,ak.nth 6 rfl,ak.nth 7 rfl,trivial⟩) ?_;rw[if_pos ho];change G _ _ _ _ _ (mC b C y);refine B8 (c:=c) x1 x2 uu ur z1 z2 ?_;unfold P4;generalize Bt:y.pl.flatMap dI=c1 at*;generalize qx:(y.pl.set i ⟨{C.pg i with lv:=true},some gb,some tb,x.ob⟩).flatMap dI=c2 at*;generalize hc3:y.rl.flatMap ey=c3 at*;generalize hc4:(y.rl.set c ⟨{C.rw c with ig:=(C.rw c).ig-1},z.a,z.c⟩).flatMap ey=c4 at*;refine cK ?_;refine bs ?_;refine av ?_;rw[e1];refine gT false mix ?_;refine cK ?_;refine aw ?_;refine av ?_;rw[e3];refine gJ ?_;refine eT 3 1 ?_;refine Lo (ι:=Nat×FH×FL×Nat) (FN [7,1,9,1,43,18]) (λ(k,L,a,cc)=>k<=(C.rw c).free.length/\L=((C.rw c).free.take k).filter (λp=>decide (C.pn p≠i))/\L.length<=k) (λ(k,L,a,cc)=> [(43,Dm Dl k),(7, .slice a L.length cc)]) (λ(k,L,a,cc)=> [own a cc 3 1 (aY L),own z.a z.c 3 1 (aY (C.rw c).free),ag y.rb 196 c4,ag gb 149 (aS (C.pg i).aX),ag tb 4 (sK (C.pg i).tk),ag y.pb 227 c2,ag b 179 (cI C y),nP C y,ag y.a 249 (iq y.ab C.ao (C.n*C.ao)),ag y.ab 5 (dK C.A (C.n*C.ao)),DC x.ob (jK (C.pg i).old),aB ((y.pl.eraseIdx i).map kW),aB ((y.rl.eraseIdx c).map kG)]) (λ(k,L,a,cc)=>(C.rw c).free.length-k) ((0,[],none,0)) ⟨abL _,rfl,aam _⟩ ?_;rintro⟨k,L,a,cc⟩ ⟨Wo,hL,hLl⟩
 try dsimp only at hI⊢
 try dsimp only at Wo hL hLl⊢
 refine bq ?_;refine av ?_;refine az rfl ?_ ?_
 ·intro hk
  replace hk:=aO hk;have cJ:k<(C.rw c).free.length:=by omega
  have ef:(C.rw c).free[k]?=some (C.rw c).free[k]:=aac cJ;have Wj:(C.rw c).free.take (k+1)=(C.rw c).free.take k++ [(C.rw c).free[k]]:=by rw[List.take_add_one,ef];rfl
  have hqb:(C.rw c).free[k]<C.n*C.ao:=by
   have:=((K.fr c _ (abC cJ)).toAt.ba K);omega
  have nb:=fU K.toFix;generalize (C.rw c).free[k]=q at*;have kq:=gk ef;refine mE (iK (.there .here) λ_ o=>(oo o).some (by rw[ib];omega)) λsa=> ?_;refine bn ?_;refine Li (Ix rA) ?_;refine bB ?_;refine Li (Qu) ?_;refine bq ?_;refine az rfl ?_ ?_
  ·intro hq
   replace hq:=aO hq;have K6:C.pn q≠i:=λe=>hq (by unfold Cs.pn at e;rw[e]);refine bq ?_;refine Lp (oT jI λb1=> ?_);refine Lp (cm jI xS rfl rfl rfl rfl .here (by rw[ib,ajM]) (rfl) (by simp[Value.oneCell']) (by omega) (by omega) rfl λa1 c1 h1=> ?_);refine bK ?_;refine aD ?_;have e7:aY L++ [Value.int .i64 (q:Int)]=aY (L++ [q]):=by rw[lp _ [_]];rfl
   rw[e7,show L.length+1=(L++ [q]).length by simp];refine Ro ((k+1,L++ [q],a1,c1)) (⟨by dsimp only;omega,by dsimp only;rw[Wj,agQ,<-hL,List.filter_cons_of_pos (by simpa using K6)];rfl,by simp;omega⟩) ((by dsimp only;omega))
  intro hq;replace hq:=aO hq;have K6:C.pn q=i:=by unfold Cs.pn;omega
  refine bs ?_;refine aD ?_;refine Ro ((k+1,L,a,cc)) (⟨by dsimp only;omega,by dsimp only;rw[Wj,agQ,<-hL,List.filter_cons_of_neg (by simpa using K6)];simp,by dsimp only;omega⟩) ((by dsimp only;omega))
 intro hk;replace hk:=aO hk;obtain rfl:k=(C.rw c).free.length:=by omega
 rw[List.take_length]at hL;refine ri ?_;rw[e4 L a cc];rw[<-qx];refine Hh (H':= [own a cc 3 1 (aY L),ag gb 149 (aS (C.pg i).aX),ag tb 4 (sK (C.pg i).tk),ag y.pb 227 ((y.pl.set i ⟨{C.pg i with lv:=true},some gb,some tb,x.ob⟩).flatMap dI),ag y.rb 196 ((y.rl.set c ⟨{C.rw c with ig:=(C.rw c).ig-1,free:=L},a,cc⟩).flatMap ey),ag b 179 (cI C y),nP C y,ag y.a 249 (iq y.ab C.ao (C.n*C.ao)),ag y.ab 5 (dK C.A (C.n*C.ao)),DC x.ob (jK (C.pg i).old),aB ((y.pl.eraseIdx i).map kW),aB ((y.rl.eraseIdx c).map kG)]) ?_;refine au (H':= [Cl b (C.cS i)]) (λ_ s=>su (D:=C.cS i) (r:={C.rw c with ig:=(C.rw c).ig-1,free:=L}) (p:={C.pg i with lv:=true}) hy x1 x2 uu ur z1 rfl (by unfold cS put;rw[hc,hL]) rfl rfl rfl rfl rfl rfl rfl rfl rfl rfl s) ?_;refine Rt [Cl b (C.cS i)] results201 ?_;exact⟨rfl,rfl⟩
theorem MqO{P:Program}{n:Nat}{ds:Dq}{F:dG}{σ:aP}{o:Oper}{t k e yt:TypeId}{dd:TypeDesc}{z:Value}{x:Operand}{m:FK}(ht:xH P t=some (k,dd,e,z))(ho:o.op= .binOp .eql t x (.const (.map none)) yt:=by exact rfl)(hx:bo σ x=some (.map m):=by exact rfl):Yv P n ds F σ o (.bool m.isNone):=λa w en _=>by
 obtain⟨OX,_,_,_,_⟩:=nD ht;have hc:a.eval (.const (.map none))= .map none:=rfl;have q:(Op.equalIn 10000 t (.map m) (.map none)).run P w= .ok m.isNone w:=by
  unfold Op.equalIn;simp only[Sem.run_bind,run_underlying OX,Result.andThen_ok];cases m<;>rfl
 simp only[execOp,ho,en.eval hx,hc];have q2:(Op.equal t (.map m) (.map none)).run P w= .ok m.isNone w:=q;simp[binOp,eqGuard,q2]
theorem YA (l:List (Nat×Nat))(k g:Nat):Dz (jK l) (Dm Dl k) (Dm alb g)=jK (rN l k g):=by
 classical
 have hm:(∃e∈jK l,e.1=Value.int .i64 (k:Int))↔k∈l.map (·.1):=by
  constructor
  ·rintro⟨e,he,h⟩
   obtain⟨p,hp,rfl⟩:=abF.1 he;refine abF.2 ⟨p,hp, ?_⟩;simp at h;omega
  intro h;obtain⟨p,hp,rfl⟩:=abF.1 h;exact⟨_,abF.2 ⟨p,hp,rfl⟩,rfl⟩
 unfold rN;by_cases h:k∈l.map (·.1)
 ·rw[Cz (hm.2 h),if_pos h]
  unfold jK;rw[agN,agN];apply acA;intro p _;simp only[Function.comp];by_cases hp:p.1=k
  ·rw[if_pos hp,if_pos (by rw[hp])]
  rw[if_neg hp,if_neg (by simp;omega)]
 rw[CA (λe he q=>h (hm.1 ⟨e,he,q⟩)),if_neg h];simp[jK]
set_option maxHeartbeats 1000000 in
theorem Iy (b:Nat)(C:Cs)(K:Ok C)(i:Nat)(hi:i<C.n)(ho:(C.pg i).own=true)(jC:(C.pg i).lv=true)(hh:(C.pg i).held=0):aG aaa 203 [Dk b,Dm Dl i] uT [Cl b C] (λv H=>v=Dm Dl 0/\H= [Cl b (C.aU i)]):=by
 refine tx λy hy=> ?_;have P:kN C (C.pg i):=K.pg _ (dh (by rw[K.pl];exact hi));have gS:=P.cl ho;have f1:=K.toFix.p1;have f2:=K.toFix.n1;obtain⟨l1,l2'⟩:=K.le;have l2:=l2' _ gS;have hzs:=K.toFix.sz gS;have hgl:(C.pg i).aX.length<=C.ao:=by rw[P.gl ho];exact agh _ _
 have hP:1<=(C.rw (C.pg i).cl).bA:=by
  have h1:=iX (sJ (C.pg i).cl) (ki (C:=C) (i:=i) (by rw[K.pl];exact hi));rw[K.fp _ gS];have:sJ (C.pg i).cl (C.pg i)=1:=by unfold sJ;rw[if_pos ⟨ho,rfl⟩]
  rw[this]at h1;exact h1
 obtain⟨c,hc⟩:∃c,(C.pg i).cl=c:=⟨_,rfl⟩;obtain⟨gb,tb,x,z,V⟩:=Jf (c:=c) K hy hi ho hc;obtain⟨x1,x2,uu,ur,z1,z2,p1,p2,p3,p4,p5,p6,r0,r1,r2,r3,hp7,Gs,ip,ir⟩:=V;have X:=hy.pk x (aaf x1);rw[hc]at l2 hP gS hzs;rw[jC]at p1;rw[hh]at p5;refine af func203 rfl ntmps203 rfl ?_;intro F _;change G _ _ _ _ _ (mC b C y);unfold mC;refine bs ?_;refine zl Aa (nj b C y K hy i hi) .nil (λ_ _ ak=>⟨ak.nth 0 rfl,ak.nth 1 rfl,ak.nth 2 rfl,ak.nth 3 rfl,ak.nth 4 rfl,ak.nth 5 rfl,ak.nth 6 rfl,ak.nth 7 rfl,trivial⟩) ?_;rw[if_pos ho];change G _ _ _ _ _ (mC b C y);refine B8 (c:=c) x1 x2 uu ur z1 z2 ?_;unfold P4;refine bK ?_;refine zf 13 ?_ (e:=by rfl);refine cK ?_;refine aw ?_;refine av ?_;refine eK (ι:=Nat) (FN [25,9]) (λm=>True) (λm=> []) (λm=> [mq (.int .i64) m (jK (C.pg i).old),ag y.pb 227 ((y.pl.set i ⟨C.pg i,some gb,some tb,some m⟩).flatMap dI),own z.a z.c 3 1 (aY (C.rw c).free),ag gb 149 (aS (C.pg i).aX),ag tb 4 (sK (C.pg i).tk),ag y.rb 196 (y.rl.flatMap ey),ag b 179 (cI C y),nP C y,ag y.a 249 (iq y.ab C.ao (C.n*C.ao)),ag y.ab 5 (dK C.A (C.n*C.ao)),aB ((y.pl.eraseIdx i).map kW),aB ((y.rl.eraseIdx c).map kG)]) ?_ ?_
 ·rcases hob:x.ob with _|m
  ·rw[hob]at p6
   have hold:(C.pg i).old= []:=by rw[<-x2];exact X.o hob
   have e6:∀m:Nat,(y.pl.flatMap dI).set (i*7+6) (.map (some m))=(y.pl.set i ⟨C.pg i,some gb,some tb,some m⟩).flatMap dI:=λm=>bU (j:=6) bL x1 (by unfold dI;rw[x2,uu,ur];rfl) (by decide);generalize Bt:y.pl.flatMap dI=c1 at*;refine bn ?_;refine Li ((MqO T.BV)) ?_;refine bc ?_;refine Lp (oQm (.int .i64) λm1=> ?_);refine bq ?_;refine aD ?_;rw[e6 m1,hold];refine Me (m1) (trivial)
  rw[hob]at p6;have e6:y.pl.flatMap dI=(y.pl.set i ⟨C.pg i,some gb,some tb,some m⟩).flatMap dI:=by
   rw[gj (x:=(⟨C.pg i,some gb,some tb,some m⟩:vG))];rw[x1]
   congr 1
   cases x
   simp_all
  refine bn ?_;refine Li ((MqO T.BV)) ?_;refine bq ?_;rw[e6];refine Me (m) (trivial)
 rintro m hI;have n3:((y.pl.set i ⟨C.pg i,some gb,some tb,some m⟩).flatMap dI)[i*7+3]?=some (.slice (some ⟨gb,0,none⟩) (C.pg i).aX.length (C.pg i).aX.length):=bb bL (j:=3) (aah ip) rfl;have n2:((y.pl.set i ⟨C.pg i,some gb,some tb,some m⟩).flatMap dI)[i*7+2]?=some (Dm Dl c):=by
  have:=bb bL (l:=y.pl.set i ⟨C.pg i,some gb,some tb,some m⟩) (i:=i) (j:=2) (aah ip) rfl;rw[hc]at this;exact this
 have n6:((y.pl.set i ⟨C.pg i,some gb,some tb,some m⟩).flatMap dI)[i*7+6]?=some (.map (some m)):=bb bL (j:=6) (aah ip) rfl;have e14:cL ((y.pl.set i ⟨C.pg i,some gb,some tb,some m⟩).flatMap dI) (i*7) [.bool false, .bool false,Dm Dl 0, .slice none 0 0, .slice none 0 0,Dm Dl 0, .map (some m)]=(y.pl.set i ⟨{Pg.no with old:=C.rP (C.pg i)},none,none,some m⟩).flatMap dI:=by
  have:=T0 (f:=dI) (l:=y.pl.set i ⟨C.pg i,some gb,some tb,some m⟩) (i:=i) (a':=(⟨{Pg.no with old:=C.rP (C.pg i)},none,none,some m⟩:vG)) bL (aah ip);rw[af6]at this;exact this
 have hp8:i*7+7<=((y.pl.set i ⟨C.pg i,some gb,some tb,some m⟩).flatMap dI).length:=by rw[eQ bL,aak];omega
 have e13:(y.rl.flatMap ey).set (c*4+2) (Dm Dl ((C.rw c).bA-1))=(y.rl.set c ⟨{C.rw c with bA:=(C.rw c).bA-1},z.a,z.c⟩).flatMap ey:=bU (j:=2) cq z1 (by unfold ey;rw[z2,show((C.rw c).bA-1:Int)=(((C.rw c).bA-1:Nat):Int) by omega];rfl) (by decide);generalize Bt:(y.pl.set i ⟨C.pg i,some gb,some tb,some m⟩).flatMap dI=c1 at*;generalize hc3:y.rl.flatMap ey=c3 at*;refine bB ?_;refine Lo (ι:=Nat) (FN [6,2,39,23]) (λk=>k<=(C.pg i).aX.length) (λk=> [(39,Dm Dl k)]) (λk=> [mq (.int .i64) m (jK ((abM k).foldl (λl k=>rN l (k*C.sz c) ((C.pg i).aX.getD k 0)) (C.pg i).old)),ag y.pb 227 c1,own z.a z.c 3 1 (aY (C.rw c).free),ag gb 149 (aS (C.pg i).aX),ag tb 4 (sK (C.pg i).tk),ag y.rb 196 c3,ag b 179 (cI C y),nP C y,ag y.a 249 (iq y.ab C.ao (C.n*C.ao)),ag y.ab 5 (dK C.A (C.n*C.ao)),aB ((y.pl.eraseIdx i).map kW),aB ((y.rl.eraseIdx c).map kG)]) (λk=>(C.pg i).aX.length-k) (0) (by simp) ?_;rintro k hI;refine bq ?_;refine av ?_;refine az rfl ?_ ?_
 ·intro hk
  replace hk:=aO hk;have uz:k<(C.pg i).aX.length:=by omega
  have kg:(aS (C.pg i).aX)[k]?=some (Dm alb ((C.pg i).aX.getD k 0:Nat)):=og (by rw[aab,aac uz];rfl);have hkz:k*C.sz c<=1048576*1048576:=af8 (by omega) (by omega);refine bP ?_;refine gT false mix ?_;refine fX ?_;refine Tp (oL bj ?_ (hk:=Qv gS (by repeat (first|exact fP.here|apply fP.there))));refine Ti (MuN) ?_;refine aw ?_;refine Tp (oQi T.BV ?_);refine bs ?_;refine aD ?_;rw[YA,show rN ((abM k).foldl (λl k=>rN l (k*C.sz c) ((C.pg i).aX.getD k 0)) (C.pg i).old) (k*C.sz c) ((C.pg i).aX.getD k 0)=(abM (k+1)).foldl (λl k=>rN l (k*C.sz c) ((C.pg i).aX.getD k 0)) (C.pg i).old by rw[ag3,List.foldl_append];rfl];refine Ro (k+1) (by omega) (by omega)
 intro hk;replace hk:=aO hk;obtain rfl:k=(C.pg i).aX.length:=by omega
 have hop:(abM (C.pg i).aX.length).foldl (λl k=>rN l (k*C.sz c) ((C.pg i).aX.getD k 0)) (C.pg i).old=C.rP (C.pg i):=by unfold rP;rw[hc]
 rw[hop];have h10:(cI C y)[0+10]?=some (.slice (some ⟨y.rb,0,none⟩) C.ae.length C.ae.length):=rfl;have h11:(cI C y)[0+11]?=some (Dm Dl C.spare):=rfl;have DK:0+11<(cI C y).length:=by unfold cI;simp
 obtain⟨y2,zI⟩:∃y2:Lc,y2={y with pl:=y.pl.set i ⟨{Pg.no with old:=C.rP (C.pg i)},none,none,some m⟩,rl:=y.rl.set c ⟨{C.rw c with bA:=(C.rw c).bA-1},z.a,z.c⟩}:=⟨_,rfl⟩;have DW:(cI C y).set (0+11) (Dm Dl ((C.spare:Int)+1))=cI (C.aU i) y2:=by rw[zI];rfl
 have hlc:gC (C.aU i) y2:=by
  rw[zI];refine⟨by rw[af7,hy.pl];rfl, ?_,λu hu=> ?_,hy.ao,hy.bA⟩
  ·rw[af7,hy.rl];unfold aU put;rw[hc]
  rcases af5 hu with h|rfl
  ·exact hy.pk u h
  exact⟨rfl,rfl,λh=>(by cases h)⟩
 generalize hsc:cI C y=sc at*;refine bn ?_;refine av ?_;refine gT false mix ?_;refine ri ?_;refine av ?_;rw[e13];refine cV ?_;refine Lp (oSN afW ?_ (vs:= [.bool false, .bool false,Dm Dl 0, .slice none 0 0, .slice none 0 0,Dm Dl 0, .map (some m)]) (hi:=hp8));rw[e14];refine lx ?_;rw[DW];refine au (λ_ s=>gm (A:=zV) (λ_=>trivial) (gm (A:=zV) (λ_=>trivial) s)) ?_;refine Hh (H':= [zV,zV,mq (.int .i64) m (jK (C.rP (C.pg i))),aB ((y.pl.eraseIdx i).map kW),own z.a z.c 3 1 (aY (C.rw c).free),aB ((y.rl.eraseIdx c).map kG),ag b 179 (cI (C.aU i) y2),nP C y,ag y.pb 227 ((y.pl.set i ⟨{Pg.no with old:=C.rP (C.pg i)},none,none,some m⟩).flatMap dI),ag y.rb 196 ((y.rl.set c ⟨{C.rw c with bA:=(C.rw c).bA-1},z.a,z.c⟩).flatMap ey),ag y.a 249 (iq y.ab C.ao (C.n*C.ao)),ag y.ab 5 (dK C.A (C.n*C.ao))]) ?_;refine au (λ_ s=>dZ (L:= [_,_,_]) s) ?_;change G _ _ _ _ _ (kW ⟨{Pg.no with old:=C.rP (C.pg i)},none,none,some m⟩::_);refine au (λ_ s=>uW (f:=kW) x1 _ s) ?_;refine Hh (H':= [own z.a z.c 3 1 (aY (C.rw c).free),aB ((y.rl.eraseIdx c).map kG),aB ((y.pl.set i ⟨{Pg.no with old:=C.rP (C.pg i)},none,none,some m⟩).map kW),ag b 179 (cI (C.aU i) y2),nP C y,ag y.pb 227 ((y.pl.set i ⟨{Pg.no with old:=C.rP (C.pg i)},none,none,some m⟩).flatMap dI),ag y.rb 196 ((y.rl.set c ⟨{C.rw c with bA:=(C.rw c).bA-1},z.a,z.c⟩).flatMap ey),ag y.a 249 (iq y.ab C.ao (C.n*C.ao)),ag y.ab 5 (dK C.A (C.n*C.ao))]) ?_;change G _ _ _ _ _ (kG ⟨{C.rw c with bA:=(C.rw c).bA-1},z.a,z.c⟩::_);refine au (λ_ s=>uW (f:=kG) z1 _ s) ?_;refine au (H':=mC b (C.aU i) y2) (by rw[zI];exact Eh) ?_;refine au (H':= [Cl b (C.aU i)]) (λ_ s=>qo (H:= []) hlc s) ?_;refine Rt [Cl b (C.aU i)] results203 ?_;exact⟨rfl,rfl⟩
end Go.Proofs.YtcbcjolpdljbiaaGreat
