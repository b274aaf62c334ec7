/- Part Pe of the proof. -/
import Derived.Test.YtdolmecackmjdaaGreatDoorPa
import Derived.Test.YtdolmecackmjdaaGreatDoorPb
import Derived.Test.YtdolmecackmjdaaGreatDoorPc
import Derived.Test.YtdolmecackmjdaaGreatDoorPc1
import Derived.Test.YtdolmecackmjdaaGreatDoorPd
set_option maxRecDepth 100000
open List renaming range → adJ, range_succ → afs, map_congr_left → adT, mem_range → aeo, getD_eq_getElem?_getD → aab, getElem?_eq_getElem → aac, ext_getElem → aeD, getElem_map → ad4, getElem_range → ad5, foldl_cons → adl, length_cons → adm, map_drop → afE, map_take → afF, map_append → adt, length_map → aax, length_range → ad9, getElem_append_left → aea, getElem_append_right → aeP, length_take → ad6, length_append → aal, length_singleton → adB, getElem_mem → aam, getElem?_map → aap, take_of_length_le → aeY, eq_nil_of_length_eq_zero → aaw, append_assoc → adp, replicate → aae, length_replicate → ado, mem_of_getElem? → aaf, map_cons → aao, sum_cons → aaC, findIdx?_eq_some_iff_getElem → aav, getElem?_eq_some_iff → aad, findIdx?_eq_none_iff → adV, getElem?_of_mem → aez, getElem?_cons_zero → aep, getElem?_cons_succ → adU, getElem?_set_self → aah, getElem?_set_ne → aaF, mem_or_eq_of_mem_set → adH, dropLast_concat_getLast → aeH, getLast?_eq_some_getLast → adz, nodup_append → adk, mem_append → adP, mem_singleton → aaA, length_set → aaj, mem_map → adi, mem_filter → acA, mem_reverse → aeq, Pairwise → aeV, mem_cons_of_mem → aag, mem_cons_self → aai, append_nil → adR, set_set → adw, map_set → adF, find?_cons → afv, getElem?_eq_none → aat
open UInt8 renaming ofNat → aaB
open Nat renaming pow_succ → adI, zero_mul → afH, zero_add → aas, add_mul → adD, mul_assoc → afI, mul_comm → adq, mul_le_mul_right → aaD, div_add_mod → adZ, div_mul_le_self → aeu, one_mul → adK, mul_left_comm → afo, mul_le_mul → adE, lt_trichotomy → afp, mul_add_div → afz, div_eq_of_lt → aft, mul_add_mod → afA, mod_eq_of_lt → aaH, mul_div_cancel → afi, mul_mod_left → afu, add_sub_cancel_left → aeX, le_self_pow → aeL, pow_le_pow_right → adv, lt_of_lt_of_le → adG, le_refl → aan, lt_of_le_of_lt → adC, div_le_self → adO, div_div_eq_div_mul → aek, min_self → afL, mod_lt → aed, zero_le → aay, not_lt_zero → aev, mul_one → aeM, sub_zero → aeA
open Int renaming fdiv_eq_ediv_of_nonneg → adh
open Decidable renaming byContradiction → aak
open Go.Proofs.Tryz renaming prog → aaa
open Go.Proofs.Tryz
namespace Go.Proofs.YtdolmecackmjdaaGreatDoor
open Go Go.cV
abbrev Nm:=List UInt8
def cJ (z:Int):Int:=IntKind.i64.wrap z
structure It where
 key:Nm
 val:Nm
 fl:Nat
 exp:Nat
 tok:Nat
 tch:Nat
 cl:Nat
 st:Nat
 act:Bool
 stale:Bool
 won:Bool
 jz:Bool
 ord:Nat
 Q6:Nat
structure oU where
 ao:Int
 cP:Int
 gA:Int
 dE:Int
 lim:Int
 hot:Int
 warm:Int
structure sQ where
 b:Int
 l:Int
 c:Int
 m:Int
structure Mt where
 dr:Int
 re:Int
 bu:Int
 li:Int
 lo:Int
 cr:Int
 mv:Int
def Mt.zero:Mt:=⟨0,0,0,0,0,0,0⟩
structure Ms where
 c:oU
 p:sQ
 ae:List Nat
 per:List Nat
 aB:Nat
 all:List It
 owner:List (Option Nat)
 rows:List (List Nat)
 now:Nat
 C9:Nat
 cut:Nat
 iX:Nat
 C4:Nat
 bk:Nat
 yv:Nat
 ccl:Nat
 ckd:Nat
 place:Option Nm
 left:Int
 inn:Bool
 since:List (Option Nat)
 going:Option Nat
 mt:Mt
 iG:List Nat
namespace Ms
def wide:Nat:=1048576
def len (s:Ms):Nat:=s.all.length
def stt (s:Ms)(x:It):Nat:=if 0<x.exp∧x.exp≤s.now then 2 else if x.tok≤s.cut then 3 else 0
def find (s:Ms)(k:Nm):Option It:=s.all.find? λx=>decide (x.key=k)
def qu (s:Ms)(c st:Nat):List It:=s.all.filter λx=>decide (x.cl=c)&&decide (x.st=st)
def drop (s:Ms)(k:Nm):Ms:={s with all:=s.all.filter λx=>decide (x.key≠k)}
def dX (s:Ms)(k:Nm)(f:It→It):Ms:={s with all:=s.all.map λx=>if x.key=k then f x else x}
def MX:List It→Nm→Option Nm
 |a::b::r,k=>if b.key=k then some a.key else MX (b::r) k
 |_,_=>none
def ahead (s:Ms)(x:It):Option Nm:=MX (s.qu x.cl x.st) x.key
def gone (s:Ms)(x:It):Ms:=if s.place=some x.key then{s with place:=s.ahead x,left:=s.left-1}else s
def grow (s:Ms):Ms:=if s.yv=0∧3*s.bk<2*s.len∧s.bk<s.aB then{s with yv:=s.bk,bk:=2*s.bk}else s
def shrink (s:Ms):Ms:=if s.yv=0∧16<s.bk∧8*s.len<s.bk then{s with yv:=s.bk,bk:=s.bk/2}else s
def ab2 (s:Ms)(c:Nat):Nat:=s.per.getD c 0
def rowOf (s:Ms)(c:Nat):List Nat:=s.rows.getD c []
def lies (s:Ms)(chunk:Nat):Bool:=s.all.any λx=>decide (x.Q6=chunk)
def abb (s:Ms)(c chunk:Nat):Ms:=if s.going=some (chunk/wide)then s else{s with rows:=s.rows.set c (s.rowOf c++ [chunk])}
def bM (s:Ms)(x:It):Ms:=(((s.gone x).drop x.key).shrink).abb x.cl x.Q6
def count (s:Ms)(o:Option Nat):Nat:=(s.owner.filter λx=>decide (x=o)).length
def fill (s:Ms)(fL c:Nat):Ms:=
 {s with rows:=s.rows.set c (s.rowOf c++(((adJ (s.ab2 c)).reverse.map λk=>fL*wide+k).filter λch=> !s.lies ch))}
def A7:List (Option Nat)→Option Nat
 | []=>none
 |none::_=>some 0
 |some _::r=>(A7 r).map (· +1)
def Lv (s:Ms)(c:Nat):Option (Nat×Ms):=
 match(s.rowOf c).getLast? with
 |none=>none
 |some ch=>some (ch,{s with rows:=s.rows.set c (s.rowOf c).dropLast})
def take (s:Ms)(c:Nat):Option (Nat×Ms):=
 if(s.rowOf c)= []then
  match A7 s.owner with
  |none=>none
  |some fL=>({s with owner:=s.owner.set fL (some c)}.fill fL c).Lv c
 else s.Lv c
def held (s:Ms)(fL:Nat):Nat:=(s.all.filter λx=>decide (x.Q6/wide=fL)).length
def UR (s:Ms)(fL:Nat):Option Nat:=s.owner.getD fL none
def row5 (s:Ms)(c:Nat)(own:Option Nm):List It:=(((s.qu c 3).reverse++(s.qu c 2).reverse++(s.qu c 1).reverse).filter λx=>decide (some x.key≠own)).take 5
def pick (s:Ms)(c:Nat)(own:Option Nm):Option It×Bool×Nat:=
 let r:=s.row5 c own
 match r.findIdx? λx=>decide (s.stt x≠0)with
 |some i=>(r[i]?,true,i+1)
 |none=>match r.find? λx=> !x.act with
  |some x=>(some x,false,r.length)
  |none=>(r.head?,false,r.length)
def stay (s:Ms):Ms:=match s.going with
 |none=>s
 |some fL=>{s with going:=none}.fill fL ((s.UR fL).getD 0)
def o0 (s:Ms)(c:Nat):Ms:={s with since:=s.since.set c (some 0)}
def room (s:Ms)(c:Nat)(own:Option Nm):Option Nat×Ms:=
 match s.take c with
 |some (ch,s)=>(some ch,s)
 |none=>
  let go (s:Ms):Option Nat×Ms:=
   let (v,dead,n):=s.pick c own
   let s:={s with mt:={s.mt with lo:=cJ (s.mt.lo+n)}}
   match v with
   |none=>(none,s.o0 c)
   |some x=>
    let s:=if dead then{s with mt:={s.mt with re:=cJ (s.mt.re+1)}}else{s with mt:={s.mt with dr:=cJ (s.mt.dr+1)}}.o0 c
    match(s.bM x).take c with
    |some (ch,s)=>(some ch,s)
    |none=>(none,s.bM x)
  if s.going.bind s.UR=some c∧s.going≠none then
   match s.stay.take c with
   |some (ch,s)=>(some ch,s)
   |none=>go s.stay
  else go s
def jo (s:Ms)(c:Nat):Bool:=match s.since.getD c none with
 |none=>false
 |some n=>decide (n<64)
def ab7 (s:Ms)(fL c:Nat):Bool:=
 let own:=((s.rowOf c).filter λch=>decide (ch/wide=fL)).length
 decide (1<s.count (some c))&&decide (s.held fL+own≤(s.rowOf c).length)
def better (s:Ms)(f fL b Aa:Nat):Bool:=
 if f≠b then decide ((s.rowOf b).length<(s.rowOf f).length∨(s.rowOf f).length=(s.rowOf b).length∧f<b)
 else decide (s.held fL<s.held Aa)
def jY (s:Ms)(t:Nat):List (Option Nat)→Nat→Option (Nat×Nat)→Option (Nat×Nat)
 | [],_,Aa=>Aa
 |none::r,fL,Aa=>jY s t r (fL+1) Aa
 |some f::r,fL,Aa=>
  if f=t∨s.jo f=true∨s.ab7 fL f=false then jY s t r (fL+1) Aa
  else match Aa with
   |none=>jY s t r (fL+1) (some (fL,f))
   |some (q,b)=>jY s t r (fL+1) (if s.better f fL b q then some (fL,f)else some (q,b))
def Zl (s:Ms)(t:Nat):Option (Nat×Nat):=jY s t s.owner 0 none
def Zu (s:Ms):Ms:=
 match(adJ s.ae.length).find? λt=>s.jo t with
 |none=>s
 |some t=>
  if 0<s.count none then s
  else match s.Zl t with
   |none=>s
   |some (fL,c)=>{s with rows:=s.rows.set c ((s.rowOf c).filter λch=>decide (ch/wide≠fL)),going:=some fL}
def TW (s:Ms)(fL:Nat):Option It:=
 (s.all.filter λx=>decide (x.Q6/wide=fL)).foldl (λb x=>match b with
  |none=>some x
  |some y=>if x.Q6<y.Q6 then some x else some y) none
def C5:Nat→Ms→Nat→Ms×Nat
 |0,s,done=>(s,done)
 |n+1,s,done=>
  match s.going with
  |none=>(s,done)
  |some fL=>
   match s.TW fL with
   |none=>({s with owner:=s.owner.set fL none,going:=none},done)
   |some x=>
    if s.stt x≠0 then C5 n (s.bM x) (done+1)
    else match s.take x.cl with
     |none=>(s.stay,done)
     |some (ch,s)=>C5 n (s.dX x.key λy=>{y with Q6:=ch}) (done+1)
def move (s:Ms)(aB:Nat):Ms×Nat:=
 if aB=0 then(s,0)
 else
  let s:={s with since:=s.since.map λo=>o.map λn=>if n<64 then n+1 else n}
  if s.going=none then(s.Zu,0)else C5 aB s 0
def time (s:Ms)(x:It)(e:Nat):Ms×It:=if 0<e then({s with C4:=s.C4+1},{x with exp:=e,ord:=s.C4+1})else(s,{x with exp:=e,ord:=0})
def lay (s:Ms)(x:It)(old:Option It)(c chunk:Nat):Ms:=
 let s:={s with C9:=s.C9+1}
 let (s,x):=s.time {x with tok:=s.C9,cl:=c,Q6:=chunk,tch:=s.now,st:=1,act:=false} x.exp
 match old with
 |some o=>let s:=((s.gone o).drop o.key);{s.abb o.cl o.Q6 with all:=x::s.all}
 |none=>{s with all:=x::s.all}.grow
def meet (s:Ms)(k:Nm):Option It×Ms:=
 match s.find k with
 |none=>(none,{s with iG:=s.iG++ [1]})
 |some x=>
  let w:=s.stt x
  let s:={s with iG:=s.iG++ [w]}
  if w≠0 then(none,s.bM x)else(some x,s)
end Ms
open Go Go.cV
abbrev By:=Nat→UInt8
def iC (A:By)(p n:Nat):List UInt8:=(adJ n).map λi=>A (p+i)
def lay (A:By)(p:Nat)(l:List UInt8):By:=λj=>if p≤j∧j<p+l.length then l.getD (j-p) 0 else A j
def di (A:By)(n:Nat):List Value:=ak (iC A 0 n)
def be:Nat→Nat→List UInt8
 |0,_=> []
 |w+1,v=>aaB (v/256^w)::be w v
def nat (l:List UInt8):Nat:=l.foldl (λn c=>n*256+c.toNat) 0
def rd (A:By)(p w:Nat):Nat:=nat (iC A p w)
def wr (A:By)(p w v:Nat):By:=lay A p (be w v)
theorem cK (A:By)(p n:Nat):(iC A p n).length=n:=by simp[iC]
theorem Sc (A:By)(p n i:Nat)(h:i<n):(iC A p n)[i]?=some (A (p+i)):=by simp[iC,h]
theorem NU (A:By)(p:Nat):iC A p 0= []:=rfl
theorem NV (A:By)(p n:Nat):iC A p (n+1)=iC A p n++ [A (p+n)]:=by simp[iC,afs]
theorem rG{A B:By}{p n:Nat}(h:∀j,p≤j→j<p+n→A j=B j):iC A p n=iC B p n:=by
 unfold iC
 apply adT
 intro i hi
 have:=aeo.1 hi
 exact h _ (by omega) (by omega)
theorem LO (A:By)(p:Nat)(l:List UInt8)(i:Nat)(h:i<l.length):lay A p l (p+i)=l[i]:=by
 unfold lay
 rw[if_pos (by omega),show p+i-p=i by omega,aab,aac h];rfl
theorem fy (A:By)(p:Nat)(l:List UInt8)(j:Nat)(h:j<p∨p+l.length≤j):lay A p l j=A j:=by
 unfold lay;rw[if_neg (by omega)]
theorem jr (A:By)(p:Nat)(l:List UInt8):iC (lay A p l) p l.length=l:=by
 apply aeD (by simp[iC])
 intro i h1 h2
 simp only[iC,ad4,ad5]
 exact LO A p l i h2
theorem eW (A:By)(p:Nat)(l:List UInt8)(q n:Nat)(h:q+n≤p∨p+l.length≤q):iC (lay A p l) q n=iC A q n:=
 rG λj h1 h2=>fy A p l j (by omega)
theorem dM (A:By)(p:Nat)(l:List UInt8)(q n:Nat)(h:q+n≤p∨p+l.length≤q):rd (lay A p l) q n=rd A q n:=by
 unfold rd;rw[eW A p l q n h]
theorem kM:∀w v,(be w v).length=w
 |0,_=>rfl
 |w+1,v=>by simp[be,kM w]
theorem Og (l:List UInt8)(c:UInt8):nat (l++ [c])=nat l*256+c.toNat:=by simp[nat]
theorem y5:∀(l:List UInt8) (n:Nat),l.foldl (λn c=>n*256+c.toNat) n=n*256^l.length+nat l
 | [],n=>by simp[nat]
 |c::l,n=>by
  have h1:=y5 l (n*256+c.toNat)
  have h2:=y5 l (0*256+c.toNat)
  unfold nat at*
  rw[adl,adl,h1,h2,adm,adI,afH,aas,adD,afI,adq 256,Nat.add_assoc]
theorem Oh (c:UInt8)(l:List UInt8):nat (c::l)=c.toNat*256^l.length+nat l:=by
 conv=>lhs;unfold nat
 rw[adl,y5,afH,aas]
theorem LI:∀w v,nat (be w v)=v % 256^w
 |0,v=>by simp[be,nat,Nat.mod_one]
 |w+1,v=>by
  rw[be,Oh,LI w,kM]
  have:(aaB (v/256^w)).toNat=v/256^w % 256:=by simp
  rw[this,adI,Nat.mod_mul,adq (256^w)]
  omega
theorem FJ:∀(l:List UInt8) (n:Nat),l.foldl (λn c=>n*256+c.toNat) n<(n+1)*256^l.length
 | [],n=>by simp
 |c::l,n=>by
  rw[adl]
  have h1:=FJ l (n*256+c.toNat)
  have h2:=c.toNat_lt
  have h3:(n*256+c.toNat+1)*256^l.length≤((n+1)*256)*256^l.length:=aaD _ (by omega)
  rw[adm,adI,adq (256^l.length) 256,←afI]
  omega
theorem XO (l:List UInt8):nat l<256^l.length:=by
 have:=FJ l 0
 simpa[nat]using this
theorem cG (A:By)(p w v:Nat):rd (wr A p w v) p w=v % 256^w:=by
 unfold rd wr
 have:=jr A p (be w v)
 rw[kM]at this
 rw[this,LI]
theorem aJ (A:By)(p w v q n:Nat)(h:q+n≤p∨p+w≤q):rd (wr A p w v) q n=rd A q n:=dM A p _ q n (by rw[kM];exact h)
theorem pD (A:By)(p w v q n:Nat)(h:q+n≤p∨p+w≤q):iC (wr A p w v) q n=iC A q n:=eW A p _ q n (by rw[kM];exact h)
theorem mU (A:By)(p w:Nat):rd A p w<256^w:=by
 have:=XO (iC A p w)
 rwa[cK]at this
theorem ma (A:By)(n:Nat):(di A n).length=n:=by simp[di,ak,iC]
theorem Qf (A:By)(n p m:Nat)(h:p+m≤n):((di A n).drop p).take m=ak (iC A p m):=by
 unfold di ak
 rw[←afE,←afF]
 congr 1
 apply aeD (by simp[iC];omega)
 intro i h1 h2
 simp[iC]
theorem Gx (A:By)(n p:Nat)(l:List UInt8)(h:p+l.length≤n):(di A n).take p++ak l++(di A n).drop (p+l.length)=di (lay A p l) n:=by
 unfold di ak
 rw[←afF,←afE,←adt,←adt]
 congr 1
 apply aeD (by simp[iC];omega)
 intro i h1 h2
 simp only[iC,aax,ad9]at h2
 by_cases a1:i<p
 ·rw[aea (by simp[iC];omega),aea (by simp[iC];omega)]
  simp only[iC,List.getElem_take,ad4,ad5,aas]
  rw[fy A p l i (.inl a1)]
 by_cases a2:i<p+l.length
 ·rw[aea (by simp[iC];omega),aeP (by simp[iC];omega)]
  simp only[iC,ad6,aax,ad9,ad4,ad5,aas]
  have e:i=p+(i-p):=by omega
  conv=>rhs;rw[e]
  rw[LO A p l (i-p) (by omega)]
  congr 1
  omega
 rw[aeP (by simp[iC];omega)]
 simp only[iC,List.getElem_drop,ad4,ad5,aas,aal,ad6,aax,ad9]
 rw[fy A p l i (.inr (by omega))]
 congr 1
 omega
theorem tS (A:By)(n p:Nat)(c:UInt8)(h:p<n):(di A n).set p (.int .u8 c.toNat)=di (lay A p [c]) n:=by
 rw[←Gx A n p [c] (by simp;omega),List.set_eq_take_append_cons_drop,if_pos (by rw[ma];exact h)]
 simp[ak]
theorem Tf (A:By)(p:Nat)(l m:List UInt8):lay (lay A p l) (p+l.length) m=lay A p (l++m):=by
 funext j
 unfold lay
 rw[aal]
 by_cases h1:p+l.length≤j∧j<p+l.length+m.length
 ·rw[if_pos h1,if_pos (by omega),aab,aab,List.getElem?_append_right (by omega)]
  congr 2;omega
 rw[if_neg h1]
 by_cases h2:p≤j∧j<p+l.length
 ·rw[if_pos h2,if_pos (by omega),aab,aab,List.getElem?_append_left (by omega)]
 rw[if_neg h2,if_neg (by omega)]
theorem qm (A:By)(p:Nat):lay A p []=A:=by
 funext j;unfold lay;rw[if_neg (by simp)]
theorem rO (A:By)(p:Nat)(c:UInt8)(m:List UInt8):lay (lay A (p+1) m) p [c]=lay A p (c::m):=by
 funext j
 unfold lay
 by_cases h1:p≤j∧j<p+ [c].length
 ·have:j=p:=by simp at h1;omega
  subst this
  rw[if_pos h1,if_pos (by simp)];simp
 rw[if_neg h1]
 simp only[adB]at h1
 by_cases h2:p+1≤j∧j<p+1+m.length
 ·rw[if_pos h2,if_pos (by simp;omega)]
  rw[show j-p=(j-(p+1))+1 by omega];simp
 rw[if_neg h2,if_neg (by simp;omega)]
structure Pg where
 own:Bool
 lv:Bool
 cl:Nat
 aZ:List Nat
 tk:List Bool
 held:Nat
 old:List (Nat×Nat)
def Pg.no:Pg:=⟨false,false,0,[],[],0,[]⟩
structure Rw where
 free:List Nat
 gm:Nat
 cP:Nat
 kQ:Nat
structure Cs where
 cfg:oU
 ao:Nat
 n:Nat
 ae:List Nat
 bZ:List Pg
 rows:List Rw
 spare:Nat
 A:By
namespace Cs
def pg (C:Cs)(i:Nat):Pg:=C.bZ.getD i .no
def rw(C:Cs)(c:Nat):Rw:=C.rows.getD c ⟨[],0,0,0⟩
def sz (C:Cs)(c:Nat):Nat:=C.ae.getD c 0
def pn (C:Cs)(p:Nat):Nat:=p/C.ao
def cl (C:Cs)(p:Nat):Nat:=(C.pg (C.pn p)).cl
def ix (C:Cs)(p:Nat):Nat:=p % C.ao/C.sz (C.cl p)
def gen (C:Cs)(p:Nat):Nat:=(C.pg (C.pn p)).aZ.getD (C.ix p) 0
def hd (C:Cs)(p:Nat):Nat:=C.gen p*4294967296+(p/8+1)
structure At (C:Cs)(p:Nat):Prop where
 i:C.pn p<C.n
 own:(C.pg (C.pn p)).own=true
 al:p % C.ao % C.sz (C.cl p)=0
 k:C.ix p<(C.pg (C.pn p)).aZ.length
structure Live (C:Cs)(p:Nat):Prop extends At C p where
 tk:(C.pg (C.pn p)).tk[C.ix p]?=some true
structure Fix (C:Cs):Prop where
 p0:4096≤C.ao
 p1:C.ao≤1048576
 p8:C.ao % 8=0
 n0:1≤C.n
 n1:C.n≤1024
 l0:1≤C.ae.length
 l1:C.ae.length≤62
 s0:∀z∈C.ae,64≤z∧z≤C.ao∧z % 8=0
 pl:C.bZ.length=C.n
 rl:C.rows.length=C.ae.length
def Cb (C:Cs)(f:Pg→Nat):Nat:=(C.bZ.map f).sum
def wq (c:Nat)(x:Pg):Nat:=if x.own=true∧x.cl=c then x.held else 0
def x4 (c:Nat)(x:Pg):Nat:=if x.own=true∧x.cl=c then 1 else 0
def zQ (c:Nat)(x:Pg):Nat:=if x.own=true∧x.cl=c∧x.lv=false then 1 else 0
def wz (x:Pg):Nat:=if x.own=true then 0 else 1
def bN (b:Bool):Nat:=if b=true then 1 else 0
structure kY (C:Cs)(x:Pg):Prop where
 cl:x.own=true→x.cl<C.ae.length
 gl:x.own=true→x.aZ.length=C.ao/C.sz x.cl
 tl:x.tk.length=x.aZ.length
 UD:∀g∈x.aZ,g<4294967296
 QR:∀g∈x.old,g.2<4294967296
 nd:(x.old.map (·.1)).Nodup
 held:x.held=(x.tk.map bN).sum
 no:x.own=false→x.aZ= []∧x.lv=false∧x.cl=0
structure x6 (C:Cs)(c p:Nat):Prop extends At C p where
 cl:C.cl p=c
 tk:(C.pg (C.pn p)).tk[C.ix p]?=some false
 lv:(C.pg (C.pn p)).lv=false
structure Ok (C:Cs):Prop extends Fix C where
 pg:∀x∈C.bZ,kY C x
 fr:∀c p,p∈(C.rw c).free→x6 C c p
 fn:∀c,(C.rw c).free.Nodup
 fa:∀c p,x6 C c p→c<C.ae.length→p∈(C.rw c).free
 ft:∀c,c<C.ae.length→(C.rw c).gm=C.Cb (wq c)
 fp:∀c,c<C.ae.length→(C.rw c).cP=C.Cb (x4 c)
 fs:∀c,c<C.ae.length→(C.rw c).kQ=C.Cb (zQ c)
 sp:C.spare=C.Cb wz
theorem Fix.pos{C:Cs}(F:Fix C):0<C.ao:=by have:=F.p0;omega
theorem Fix.sz{C:Cs}(F:Fix C){c:Nat}(h:c<C.ae.length):64≤C.sz c∧C.sz c≤C.ao∧C.sz c % 8=0:=by
 unfold Cs.sz
 rw[aab,aac h]
 exact F.s0 _ (aam h)
theorem gg{C:Cs}{i:Nat}(h:i<C.bZ.length):C.pg i∈C.bZ:=by
 unfold Cs.pg
 rw[aab,aac h]
 exact aam h
theorem k8{C:Cs}{i:Nat}(h:i<C.bZ.length):C.bZ[i]?=some (C.pg i):=by
 unfold Cs.pg
 rw[aab,aac h];rfl
theorem UN{C:Cs}{c:Nat}(h:c<C.rows.length):C.rows[c]?=some (C.rw c):=by
 unfold Cs.rw
 rw[aab,aac h];rfl
theorem Ok.uF{C:Cs}(K:Ok C){p:Nat}(h:C.pn p<C.n):kY C (C.pg (C.pn p)):=K.pg _ (gg (by rw[K.pl];exact h))
theorem At.aX{C:Cs}(K:Ok C){p:Nat}(L:At C p):
  C.cl p<C.ae.length∧64≤C.sz (C.cl p)∧C.sz (C.cl p)≤C.ao∧C.sz (C.cl p) % 8=0∧p % 8=0∧p=C.pn p*C.ao+C.ix p*C.sz (C.cl p)∧C.ix p*C.sz (C.cl p)+C.sz (C.cl p)≤C.ao∧p+C.sz (C.cl p)≤C.n*C.ao:=by
 have P:=K.uF L.i
 have hc:C.cl p<C.ae.length:=P.cl L.own
 obtain⟨h1,h2,h3⟩:=K.toFix.sz hc
 have hg:=P.gl L.own
 have hk:=L.k
 have GQ:=K.toFix.pos
 have ZU:=L.al
 have e1:p=C.pn p*C.ao+p % C.ao:=by
  have:=adZ p C.ao
  unfold Cs.pn
  rw[adq]at this
  omega
 have e2:p % C.ao=C.ix p*C.sz (C.cl p):=by
  have:=adZ (p % C.ao) (C.sz (C.cl p))
  unfold Cs.ix
  rw[adq]at this
  omega
 have e3:C.ix p*C.sz (C.cl p)+C.sz (C.cl p)≤C.ao:=by
  have:C.ix p+1≤C.ao/C.sz (C.cl p):=by
   have:(C.pg (C.pn p)).aZ.length=C.ao/C.sz (C.cl p):=hg
   omega
  have h4:=aaD (C.sz (C.cl p)) this
  have h5:=aeu C.ao (C.sz (C.cl p))
  rw[adD,adK]at h4
  omega
 have e4:p+C.sz (C.cl p)≤C.n*C.ao:=by
  have hi:=L.i
  have:=aaD C.ao (show C.pn p+1≤C.n from hi)
  rw[adD,adK]at this
  omega
 have e5:p % 8=0:=by
  have h8:=K.p8
  obtain⟨a,ha⟩:∃a,C.ao=8*a:=⟨C.ao/8,by omega⟩
  obtain⟨b,hb⟩:∃b,C.sz (C.cl p)=8*b:=⟨C.sz (C.cl p)/8,by omega⟩
  rw[e2]at e1
  rw[ha,hb]at e1
  have:p=8*(C.pn p*a+C.ix p*b):=by
   rw[Nat.mul_add]
   have x1:C.pn p*(8*a)=8*(C.pn p*a):=by rw[afo]
   have x2:C.ix p*(8*b)=8*(C.ix p*b):=by rw[afo]
   omega
  omega
 exact⟨hc,h1,h2,h3,e5,by omega,e3,e4⟩
theorem fC{C:Cs}(F:Fix C):C.n*C.ao≤1073741824:=by
 have h1:=F.n1
 have h2:=F.p1
 calc C.n*C.ao≤1024*1048576:=adE h1 h2
  _=1073741824:=by decide
theorem Live.yy{C:Cs}(K:Ok C){p:Nat}(L:At C p):C.gen p<4294967296:=by
 have P:=K.uF L.i
 refine P.UD _ ?_
 unfold Cs.gen
 rw[aab,aac L.k]
 exact aam _
theorem bK{C:Cs}(K:Ok C){p:Nat}(L:At C p):C.hd p % 4294967296=p/8+1∧C.hd p/4294967296=C.gen p∧p/8*8=p∧p/8+1≤C.n*C.ao/8∧C.hd p<18446744073709551616∧C.hd p≠0:=by
 obtain⟨_,h2,_,_,h5,_,_,h8⟩:=L.aX K
 have hg:=Live.yy K L
 have hb:=fC K.toFix
 unfold Cs.hd
 have:p/8+1<4294967296:=by omega
 refine⟨by omega,by omega,by omega,by omega,by omega,by omega⟩
theorem lW{C:Cs}(K:Ok C){p q:Nat}(L:At C p)(M:At C q)(h:C.hd p=C.hd q):p=q:=by
 obtain⟨a1,_,a3,_⟩:=bK K L
 obtain⟨b1,_,b3,_⟩:=bK K M
 rw[h]at a1
 omega
theorem apart{C:Cs}(K:Ok C){p q:Nat}(L:At C p)(M:At C q)(h:p≠q):p+C.sz (C.cl p)≤q∨q+C.sz (C.cl q)≤p:=by
 obtain⟨_,_,_,_,_,a6,a7,_⟩:=L.aX K
 obtain⟨_,_,_,_,_,b6,b7,_⟩:=M.aX K
 rcases afp (C.pn p) (C.pn q)with h1|h1|h1
 ·have:=aaD C.ao (show C.pn p+1≤C.pn q from h1)
  rw[adD,adK]at this
  omega
 ·have hc:C.cl p=C.cl q:=by unfold Cs.cl;rw[h1]
  rw[hc]at a6 a7⊢
  rw[h1]at a6
  rcases afp (C.ix p) (C.ix q)with h2|h2|h2
  ·have:=aaD (C.sz (C.cl q)) (show C.ix p+1≤C.ix q from h2)
   rw[adD,adK]at this
   omega
  ·rw[h2]at a6;exact absurd (a6.trans b6.symm) h
  have:=aaD (C.sz (C.cl q)) (show C.ix q+1≤C.ix p from h2)
  rw[adD,adK]at this
  omega
 have:=aaD C.ao (show C.pn q+1≤C.pn p from h1)
 rw[adD,adK]at this
 omega
def wv (C:Cs)(i k:Nat):Nat:=i*C.ao+k*C.sz (C.pg i).cl
theorem AN{C:Cs}(K:Ok C){i k:Nat}(hi:i<C.n)(ho:(C.pg i).own=true)(hk:k<(C.pg i).aZ.length):C.pn (C.wv i k)=i∧C.ix (C.wv i k)=k∧At C (C.wv i k):=by
 have P:kY C (C.pg i):=K.pg _ (gg (by rw[K.pl];exact hi))
 have hc:=P.cl ho
 obtain⟨h1,h2,h3⟩:=K.toFix.sz hc
 have hg:=P.gl ho
 have GQ:=K.toFix.pos
 have e3:k*C.sz (C.pg i).cl+C.sz (C.pg i).cl≤C.ao:=by
  have:k+1≤C.ao/C.sz (C.pg i).cl:=by omega
  have h4:=aaD (C.sz (C.pg i).cl) this
  have h5:=aeu C.ao (C.sz (C.pg i).cl)
  rw[adD,adK]at h4
  omega
 have a1:C.pn (C.wv i k)=i:=by
  unfold Cs.pn Cs.wv
  rw[adq,afz GQ,aft (by omega)];omega
 have a2:C.wv i k % C.ao=k*C.sz (C.pg i).cl:=by
  unfold Cs.wv
  rw[adq,afA,aaH (by omega)]
 have a3:C.ix (C.wv i k)=k:=by
  unfold Cs.ix Cs.cl
  rw[a1,a2,afi _ (by omega)]
 refine⟨a1,a3,⟨by rw[a1];exact hi,by rw[a1];exact ho, ?_,by rw[a3,a1];exact hk⟩⟩
 unfold Cs.cl
 rw[a1,a2,afu]
theorem Lw{C:Cs}(K:Ok C){p:Nat}(L:At C p):C.wv (C.pn p) (C.ix p)=p:=by
 obtain⟨_,_,_,_,_,h6,_⟩:=L.aX K
 unfold Cs.wv
 exact h6.symm
end Cs
open Go Go.cV
theorem pw8 (m:Nat):(256^(m+1)-1)/256=256^m-1:=by
 have:0<256^m:=Nat.pow_pos (by decide)
 rw[adI];omega
theorem DD (A:By)(n i:Nat)(h:i<n):(di A n)[i]?=some (.int .u8 ((A i).toNat:Int)):=by
 unfold di ak
 rw[aap,Sc A 0 n i h,aas];rfl
theorem yV (A:By)(p w:Nat):rd A p (w+1)=rd A p w*256+(A (p+w)).toNat:=by
 unfold rd;rw[NV,Og]
theorem abz{x:Nat}(h:x<256^1):IntKind.u8.wrap (x:Int)=(x:Int):=wrap_u8 (by rw[Nat.pow_one]at h;omega)
def gG (ab ao n:Nat):List Value:= [.int .i64 (ao:Int), .slice (some ⟨ab,0,none⟩) n n]
abbrev In (A:aa)(h:Hp):Prop:=∃k,A k∧Le k h
def GL (ab p m:Nat):Addr:=⟨ab,if m=0 then 0 else p,none⟩
theorem gX (a ab ao n p m:Nat)(h0:0<ao)(h1:p+m≤n)(h2:n≤1073741824)(h3:p % ao+m≤ao)(h4:ao≤1048576):
  aF aaa 216 [.pointer (some ⟨a,0,none⟩), .int .i64 (p:Int), .int .i64 (m:Int)] (In (ag a 192 (gG ab ao n))) []
   (λv H=>v= .tuple #[.slice (some (GL ab p m)) m m, .bool true]∧H= []):=by
 have hc:yh (some ⟨ab,0,none⟩) p (p+m) (p*1)=some (GL ab p m):=by
  unfold yh GL
  by_cases hm:m=0
  ·rw[if_pos (by omega),if_pos hm]
  rw[if_neg (by omega),if_neg hm,Option.map_some,add_lit];simp
 refine af func216 rfl ntmps216 rfl ?_
 intro F h0'
 unfold gG at h0'
 refine br ?_
 refine aw ?_
 refine gT false T.mix ?_
 refine bq ?_
 refine zf 10 ?_
 refine aW ?_
 refine zf 14 ?_
 refine dg ?_
 refine zf 23 ?_
 refine bI ?_
 refine zf 34 ?_
 refine bq ?_
 by_cases hm:0<m
 ·refine zt 37 ?_
  refine br ?_
  refine Ti (Rm) ?_
  refine bA ?_
  refine dm ?_
  refine fK ?_
  refine Li (Sl p (p+m) (p+m) T.gQ) ?_
  rw[hc]
  refine aW ?_
  refine iV [] results216 ?_
  rw[aeX]
  exact⟨rfl,rfl⟩
 refine zf 37 ?_
 refine bW ?_
 refine bI ?_
 refine Li (Sl p (p+m) (p+m) T.gQ) ?_
 rw[hc]
 refine aW ?_
 refine iV [] results216 ?_
 rw[aeX]
 exact⟨rfl,rfl⟩
theorem xp (x:Nat):((x:Int).fdiv (2^(min 7 IntKind.u8.bits))).fdiv (2^(min 1 IntKind.u8.bits))=((x/256:Nat):Int):=by
 rw[show(2:Int)^(min 7 IntKind.u8.bits)=128 from rfl,show(2:Int)^(min 1 IntKind.u8.bits)=2 from rfl,adh _ (by decide),adh _ (by decide)]
 omega
theorem sq:aF aaa 241 [] (λ_=>True) [] (λv H=>v= .int .i64 1∧H= []):=by
 refine af func241 rfl ntmps241 rfl ?_
 intro F _
 refine qY ?_
 refine Lo (ι:=Nat) [5,6,9,10,11,1,7,8,2] (λk=>k≤1) (λk=> [(1, .int .u8 ((256^(1-k)-1:Nat):Int)),(2, .int .i64 (k:Int))]) (λk=> []) (λk=>1-k) (0) (by simp) ?_
 rintro k hI
 refine br ?_
 refine ax rfl ?_ ?_
 ·intro hk
  replace hk:=aL hk
  have cB:k<1:=by
   refine aak λhh=> ?_
   rw[show 1-k=0 by omega]at hk
   exact absurd hk (by decide)
  refine bD ?_
  refine Li (Sr 7) ?_
  refine Li (Sr 1) ?_
  refine dh ?_
  refine aG ?_
  refine ay (t:=1) (v':=(.int .u8 ((256^(1-(k+1))-1:Nat):Int))) rfl (by rw[xp,show 1-k=(1-(k+1))+1 by omega,pw8]) ?_
  refine Ro (k+1) (by omega) (by omega)
 intro hk
 replace hk:=aL hk
 have sP:k=1:=by
  refine aak λhh=> ?_
  have:256≤256^(1-k):=aeL (show 1-k≠0 by omega) 256
  omega
 subst sP
 refine bA ?_
 refine Rt [] results241 ?_
 exact⟨rfl,rfl⟩
theorem HW (a ab ao n p:Nat)(A:By)(h0:0<ao)(h1:p+1≤n)(h2:n≤1073741824)(h3:p % ao+1≤ao)(h4:ao≤1048576):
  aF aaa 204 [.pointer (some ⟨a,0,none⟩), .int .i64 (p:Int)] (λh=>In (ag a 192 (gG ab ao n)) h∧In (ag ab 5 (di A n)) h) []
   (λv H=>v= .tuple #[.int .u8 ((rd A p 1:Nat):Int), .int .i64 0]∧H= []):=by
 refine af func204 rfl ntmps204 rfl ?_
 rintro F ⟨ha,hb⟩
 refine oc ?_
 refine zl T.L5 (sq) .nil (λ_ _ _=>trivial) ?_
 refine zl T.lX (gX a ab ao n p 1 h0 h1 h2 h3 h4) .nil (λ_ le _=>by obtain⟨k,q1,q2⟩:=ha;exact⟨k,q1,q2.trans le⟩) ?_
 simp only[GL,show¬1=0 by decide,if_false]
 refine bW ?_
 refine aW ?_
 refine Lo (ι:=Nat) [25,26,27,10,28,29,30,31,32,8,33,24] (λk=>k≤1) (λk=> [(8, .int .u8 ((rd A p k:Nat):Int)),(24, .int .i64 (k:Int))]) (λk=> []) (λk=>1-k) (0) (by simp) ?_
 rintro k hI
 refine bq ?_
 refine aw ?_
 refine ax rfl ?_ ?_
 ·intro hk
  replace hk:=aL hk
  have cB:k<1:=by omega
  have k1:=DD A n (p+k) (by omega)
  have hl:=mU A p (k+1)
  have zO:256^(k+1)≤256^1:=adv (by decide) cB
  have hc:=(A (p+k)).toNat_lt
  have hs:=yV A p k
  refine br ?_
  refine Li ((UE T.gQ)) ?_
  refine Lp (oL T.zX ?_ (hk:=uy (i:=p+k) hb k1))
  refine aW ?_
  refine Li (Sh 7) ?_
  refine Li (Sh 1) ?_
  refine aA ?_
  refine Li ((Im (hz:=N8 (by rw[←hs];exact adG hl zO)))) ?_
  refine bL ?_
  refine aG ?_
  rw[←hs]
  refine Ro (k+1) (by omega) (by omega)
 intro hk
 replace hk:=aL hk
 have sP:k=1:=by omega
 subst sP
 refine bI ?_
 refine iV [] results204 ?_
 exact⟨rfl,rfl⟩
theorem HF (a ab ao n p v:Nat)(A:By)(hv:v<256^1)(h0:0<ao)(h1:p+1≤n)(h2:n≤1073741824)(h3:p % ao+1≤ao)(h4:ao≤1048576):
  aF aaa 255 [.pointer (some ⟨a,0,none⟩), .int .i64 (p:Int), .int .u8 (v:Int)] (In (ag a 192 (gG ab ao n))) [ag ab 5 (di A n)]
   (λu H=>u= .int .i64 0∧H= [ag ab 5 (di (wr A p 1 v) n)]):=by
 refine af func255 rfl ntmps255 rfl ?_
 intro F ha
 refine fK ?_
 refine zl T.L5 (sq) .nil (λ_ _ _=>trivial) ?_
 refine zl T.lX (gX a ab ao n p 1 h0 h1 h2 h3 h4) .nil (λ_ le _=>by obtain⟨k,q1,q2⟩:=ha;exact⟨k,q1,q2.trans le⟩) ?_
 simp only[GL,show¬1=0 by decide,if_false]
 refine bW ?_
 refine bf ?_
 have iU:lay A (p+1) (be (1-1) v)=A:=qm A _
 refine az (H':= [ag ab 5 (di (lay A (p+1) (be (1-1) v)) n)]) (by rw[iU];exact λ_ x=>x) ?_
 refine Lo (ι:=Nat) [24,25,28,29,30,31,32,33,34,2,26,27,9] (λj=>j≤1) (λj=> [(2, .int .u8 ((v/256^(1-j):Nat):Int)),(9, .int .i64 ((j:Int)-1))]) (λj=> [ag ab 5 (di (lay A (p+j) (be (1-j) v)) n)]) (λj=>j) (1) (aan _) ?_
 rintro j hI
 refine br ?_
 refine ax rfl ?_ ?_
 ·intro hk
  replace hk:=aL hk
  obtain⟨i,rfl⟩:∃i,j=i+1:=⟨j-1,by omega⟩
  have V1:IntKind.u8.wrap ((v/256^(1-(i+1)):Nat):Int)=((aaB (v/256^(1-(i+1)))).toNat:Int):=by
   rw[IntKind.wrap_u8];simp
  have hv2:v/256^(1-(i+1))<256^1:=adC (adO _ _) hv
  have hlen:p+i<(di (lay A (p+(i+1)) (be (1-(i+1)) v)) n).length:=by rw[ma];omega
  refine dh ?_
  refine ay (t:=30) (v':=(.int .u8 (((aaB (v/256^(1-(i+1)))).toNat:Nat):Int))) rfl (by rw[←V1,abz hv2]) ?_
  refine Li ((UE T.gQ (j:=i))) ?_
  refine Lp (oS T.zX ?_ (i:=p+i) (hi:=hlen))
  rw[tS _ _ _ _ (by omega)]
  refine bq ?_
  refine Li (Sr 7) ?_
  refine Li (Sr 1) ?_
  refine dh ?_
  refine aG ?_
  have el:lay (lay A (p+(i+1)) (be (1-(i+1)) v)) (p+i) [aaB (v/256^(1-(i+1)))]=lay A (p+i) (be (1-i) v):=by
   rw[show 1-i=(1-(i+1))+1 by omega,be]
   exact rO A (p+i) _ _
  rw[el]
  refine ay (t:=2) (v':=(.int .u8 ((v/256^(1-i):Nat):Int))) rfl (by rw[xp,show 1-i=(1-(i+1))+1 by omega,adI,aek]) ?_
  refine Ro (i) (by omega) (by omega)
 intro hk
 replace hk:=aL hk
 obtain rfl:j=0:=by omega
 refine dg ?_
 refine Rt [ag ab 5 (di (wr A p 1 v) n)] results255 ?_
 exact⟨rfl,rfl⟩
theorem vT (x:Nat):((x:Int).fdiv (2^(min 7 IntKind.u32.bits))).fdiv (2^(min 1 IntKind.u32.bits))=((x/256:Nat):Int):=by
 rw[show(2:Int)^(min 7 IntKind.u32.bits)=128 from rfl,show(2:Int)^(min 1 IntKind.u32.bits)=2 from rfl,adh _ (by decide),adh _ (by decide)]
 omega
theorem qD:aF aaa 217 [] (λ_=>True) [] (λv H=>v= .int .i64 4∧H= []):=by
 refine af func217 rfl ntmps217 rfl ?_
 intro F _
 refine qY ?_
 refine Lo (ι:=Nat) [5,6,9,10,11,1,7,8,2] (λk=>k≤4) (λk=> [(1, .int .u32 ((256^(4-k)-1:Nat):Int)),(2, .int .i64 (k:Int))]) (λk=> []) (λk=>4-k) (0) (by simp) ?_
 rintro k hI
 refine br ?_
 refine ax rfl ?_ ?_
 ·intro hk
  replace hk:=aL hk
  have cB:k<4:=by
   refine aak λhh=> ?_
   rw[show 4-k=0 by omega]at hk
   exact absurd hk (by decide)
  refine bD ?_
  refine Li (Sr 7) ?_
  refine Li (Sr 1) ?_
  refine dh ?_
  refine aG ?_
  refine ay (t:=1) (v':=(.int .u32 ((256^(4-(k+1))-1:Nat):Int))) rfl (by rw[vT,show 4-k=(4-(k+1))+1 by omega,pw8]) ?_
  refine Ro (k+1) (by omega) (by omega)
 intro hk
 replace hk:=aL hk
 have sP:k=4:=by
  refine aak λhh=> ?_
  have:256≤256^(4-k):=aeL (show 4-k≠0 by omega) 256
  omega
 subst sP
 refine bA ?_
 refine Rt [] results217 ?_
 exact⟨rfl,rfl⟩
theorem Em (a ab ao n p:Nat)(A:By)(h0:0<ao)(h1:p+4≤n)(h2:n≤1073741824)(h3:p % ao+4≤ao)(h4:ao≤1048576):
  aF aaa 202 [.pointer (some ⟨a,0,none⟩), .int .i64 (p:Int)] (λh=>In (ag a 192 (gG ab ao n)) h∧In (ag ab 5 (di A n)) h) []
   (λv H=>v= .tuple #[.int .u32 ((rd A p 4:Nat):Int), .int .i64 0]∧H= []):=by
 refine af func202 rfl ntmps202 rfl ?_
 rintro F ⟨ha,hb⟩
 refine oc ?_
 refine zl T.Md (qD) .nil (λ_ _ _=>trivial) ?_
 refine zl T.lX (gX a ab ao n p 4 h0 h1 h2 h3 h4) .nil (λ_ le _=>by obtain⟨k,q1,q2⟩:=ha;exact⟨k,q1,q2.trans le⟩) ?_
 simp only[GL,show¬4=0 by decide,if_false]
 refine bW ?_
 refine aW ?_
 refine Lo (ι:=Nat) [25,26,27,10,28,29,30,31,32,33,8,34,24] (λk=>k≤4) (λk=> [(8, .int .u32 ((rd A p k:Nat):Int)),(24, .int .i64 (k:Int))]) (λk=> []) (λk=>4-k) (0) (by simp) ?_
 rintro k hI
 refine bq ?_
 refine aw ?_
 refine ax rfl ?_ ?_
 ·intro hk
  replace hk:=aL hk
  have cB:k<4:=by omega
  have k1:=DD A n (p+k) (by omega)
  have hl:=mU A p (k+1)
  have zO:256^(k+1)≤256^4:=adv (by decide) cB
  have hc:=(A (p+k)).toNat_lt
  have hs:=yV A p k
  refine br ?_
  refine Li ((UE T.gQ)) ?_
  refine Lp (oL T.zX ?_ (hk:=uy (i:=p+k) hb k1))
  refine aW ?_
  refine Li (Sh 7) ?_
  refine Li (Sh 1) ?_
  refine bf ?_
  refine Li ((Im (hz:=HH hc (by rw[←hs];exact adG hl zO)))) ?_
  refine bL ?_
  refine aG ?_
  rw[←hs]
  refine Ro (k+1) (by omega) (by omega)
 intro hk
 replace hk:=aL hk
 have sP:k=4:=by omega
 subst sP
 refine bI ?_
 refine iV [] results202 ?_
 exact⟨rfl,rfl⟩
theorem vX (a ab ao n p v:Nat)(A:By)(hv:v<256^4)(h0:0<ao)(h1:p+4≤n)(h2:n≤1073741824)(h3:p % ao+4≤ao)(h4:ao≤1048576):
  aF aaa 158 [.pointer (some ⟨a,0,none⟩), .int .i64 (p:Int), .int .u32 (v:Int)] (In (ag a 192 (gG ab ao n))) [ag ab 5 (di A n)]
   (λu H=>u= .int .i64 0∧H= [ag ab 5 (di (wr A p 4 v) n)]):=by
 refine af func158 rfl ntmps158 rfl ?_
 intro F ha
 refine fK ?_
 refine zl T.Md (qD) .nil (λ_ _ _=>trivial) ?_
 refine zl T.lX (gX a ab ao n p 4 h0 h1 h2 h3 h4) .nil (λ_ le _=>by obtain⟨k,q1,q2⟩:=ha;exact⟨k,q1,q2.trans le⟩) ?_
 simp only[GL,show¬4=0 by decide,if_false]
 refine bW ?_
 refine bf ?_
 have iU:lay A (p+4) (be (4-4) v)=A:=qm A _
 refine az (H':= [ag ab 5 (di (lay A (p+4) (be (4-4) v)) n)]) (by rw[iU];exact λ_ x=>x) ?_
 refine Lo (ι:=Nat) [24,25,28,29,30,31,32,33,34,35,2,26,27,9] (λj=>j≤4) (λj=> [(2, .int .u32 ((v/256^(4-j):Nat):Int)),(9, .int .i64 ((j:Int)-1))]) (λj=> [ag ab 5 (di (lay A (p+j) (be (4-j) v)) n)]) (λj=>j) (4) (aan _) ?_
 rintro j hI
 refine br ?_
 refine ax rfl ?_ ?_
 ·intro hk
  replace hk:=aL hk
  obtain⟨i,rfl⟩:∃i,j=i+1:=⟨j-1,by omega⟩
  have V1:IntKind.u8.wrap ((v/256^(4-(i+1)):Nat):Int)=((aaB (v/256^(4-(i+1)))).toNat:Int):=by
   rw[IntKind.wrap_u8];simp
  have hv2:v/256^(4-(i+1))<256^4:=adC (adO _ _) hv
  have hlen:p+i<(di (lay A (p+(i+1)) (be (4-(i+1)) v)) n).length:=by rw[ma];omega
  refine dh ?_
  refine Li ((Cv T.oI T.CS (hz:=V1))) ?_
  refine Li ((UE T.gQ (j:=i))) ?_
  refine Lp (oS T.zX ?_ (i:=p+i) (hi:=hlen))
  rw[tS _ _ _ _ (by omega)]
  refine bq ?_
  refine Li (Sr 7) ?_
  refine Li (Sr 1) ?_
  refine dh ?_
  refine aG ?_
  have el:lay (lay A (p+(i+1)) (be (4-(i+1)) v)) (p+i) [aaB (v/256^(4-(i+1)))]=lay A (p+i) (be (4-i) v):=by
   rw[show 4-i=(4-(i+1))+1 by omega,be]
   exact rO A (p+i) _ _
  rw[el]
  refine ay (t:=2) (v':=(.int .u32 ((v/256^(4-i):Nat):Int))) rfl (by rw[vT,show 4-i=(4-(i+1))+1 by omega,adI,aek]) ?_
  refine Ro (i) (by omega) (by omega)
 intro hk
 replace hk:=aL hk
 obtain rfl:j=0:=by omega
 refine dg ?_
 refine Rt [ag ab 5 (di (wr A p 4 v) n)] results158 ?_
 exact⟨rfl,rfl⟩
theorem vS (x:Nat):((x:Int).fdiv (2^(min 7 IntKind.u64.bits))).fdiv (2^(min 1 IntKind.u64.bits))=((x/256:Nat):Int):=by
 rw[show(2:Int)^(min 7 IntKind.u64.bits)=128 from rfl,show(2:Int)^(min 1 IntKind.u64.bits)=2 from rfl,adh _ (by decide),adh _ (by decide)]
 omega
theorem qC:aF aaa 240 [] (λ_=>True) [] (λv H=>v= .int .i64 8∧H= []):=by
 refine af func240 rfl ntmps240 rfl ?_
 intro F _
 refine qY ?_
 refine Lo (ι:=Nat) [5,6,9,10,11,1,7,8,2] (λk=>k≤8) (λk=> [(1, .int .u64 ((256^(8-k)-1:Nat):Int)),(2, .int .i64 (k:Int))]) (λk=> []) (λk=>8-k) (0) (by simp) ?_
 rintro k hI
 refine br ?_
 refine ax rfl ?_ ?_
 ·intro hk
  replace hk:=aL hk
  have cB:k<8:=by
   refine aak λhh=> ?_
   rw[show 8-k=0 by omega]at hk
   exact absurd hk (by decide)
  refine bD ?_
  refine Li (Sr 7) ?_
  refine Li (Sr 1) ?_
  refine dh ?_
  refine aG ?_
  refine ay (t:=1) (v':=(.int .u64 ((256^(8-(k+1))-1:Nat):Int))) rfl (by rw[vS,show 8-k=(8-(k+1))+1 by omega,pw8]) ?_
  refine Ro (k+1) (by omega) (by omega)
 intro hk
 replace hk:=aL hk
 have sP:k=8:=by
  refine aak λhh=> ?_
  have:256≤256^(8-k):=aeL (show 8-k≠0 by omega) 256
  omega
 subst sP
 refine bA ?_
 refine Rt [] results240 ?_
 exact⟨rfl,rfl⟩
theorem El (a ab ao n p:Nat)(A:By)(h0:0<ao)(h1:p+8≤n)(h2:n≤1073741824)(h3:p % ao+8≤ao)(h4:ao≤1048576):
  aF aaa 203 [.pointer (some ⟨a,0,none⟩), .int .i64 (p:Int)] (λh=>In (ag a 192 (gG ab ao n)) h∧In (ag ab 5 (di A n)) h) []
   (λv H=>v= .tuple #[.int .u64 ((rd A p 8:Nat):Int), .int .i64 0]∧H= []):=by
 refine af func203 rfl ntmps203 rfl ?_
 rintro F ⟨ha,hb⟩
 refine oc ?_
 refine zl T.L6 (qC) .nil (λ_ _ _=>trivial) ?_
 refine zl T.lX (gX a ab ao n p 8 h0 h1 h2 h3 h4) .nil (λ_ le _=>by obtain⟨k,q1,q2⟩:=ha;exact⟨k,q1,q2.trans le⟩) ?_
 simp only[GL,show¬8=0 by decide,if_false]
 refine bW ?_
 refine aW ?_
 refine Lo (ι:=Nat) [25,26,27,10,28,29,30,31,32,33,8,34,24] (λk=>k≤8) (λk=> [(8, .int .u64 ((rd A p k:Nat):Int)),(24, .int .i64 (k:Int))]) (λk=> []) (λk=>8-k) (0) (by simp) ?_
 rintro k hI
 refine bq ?_
 refine aw ?_
 refine ax rfl ?_ ?_
 ·intro hk
  replace hk:=aL hk
  have cB:k<8:=by omega
  have k1:=DD A n (p+k) (by omega)
  have hl:=mU A p (k+1)
  have zO:256^(k+1)≤256^8:=adv (by decide) cB
  have hc:=(A (p+k)).toNat_lt
  have hs:=yV A p k
  refine br ?_
  refine Li ((UE T.gQ)) ?_
  refine Lp (oL T.zX ?_ (hk:=uy (i:=p+k) hb k1))
  refine aW ?_
  refine Li (Sh 7) ?_
  refine Li (Sh 1) ?_
  refine bf ?_
  refine Li ((Im (hz:=HG hc (by rw[←hs];exact adG hl zO)))) ?_
  refine bL ?_
  refine aG ?_
  rw[←hs]
  refine Ro (k+1) (by omega) (by omega)
 intro hk
 replace hk:=aL hk
 have sP:k=8:=by omega
 subst sP
 refine bI ?_
 refine iV [] results203 ?_
 exact⟨rfl,rfl⟩
theorem Eb (a ab ao n p v:Nat)(A:By)(hv:v<256^8)(h0:0<ao)(h1:p+8≤n)(h2:n≤1073741824)(h3:p % ao+8≤ao)(h4:ao≤1048576):
  aF aaa 254 [.pointer (some ⟨a,0,none⟩), .int .i64 (p:Int), .int .u64 (v:Int)] (In (ag a 192 (gG ab ao n))) [ag ab 5 (di A n)]
   (λu H=>u= .int .i64 0∧H= [ag ab 5 (di (wr A p 8 v) n)]):=by
 refine af func254 rfl ntmps254 rfl ?_
 intro F ha
 refine fK ?_
 refine zl T.L6 (qC) .nil (λ_ _ _=>trivial) ?_
 refine zl T.lX (gX a ab ao n p 8 h0 h1 h2 h3 h4) .nil (λ_ le _=>by obtain⟨k,q1,q2⟩:=ha;exact⟨k,q1,q2.trans le⟩) ?_
 simp only[GL,show¬8=0 by decide,if_false]
 refine bW ?_
 refine bf ?_
 have iU:lay A (p+8) (be (8-8) v)=A:=qm A _
 refine az (H':= [ag ab 5 (di (lay A (p+8) (be (8-8) v)) n)]) (by rw[iU];exact λ_ x=>x) ?_
 refine Lo (ι:=Nat) [24,25,28,29,30,31,32,33,34,35,2,26,27,9] (λj=>j≤8) (λj=> [(2, .int .u64 ((v/256^(8-j):Nat):Int)),(9, .int .i64 ((j:Int)-1))]) (λj=> [ag ab 5 (di (lay A (p+j) (be (8-j) v)) n)]) (λj=>j) (8) (aan _) ?_
 rintro j hI
 refine br ?_
 refine ax rfl ?_ ?_
 ·intro hk
  replace hk:=aL hk
  obtain⟨i,rfl⟩:∃i,j=i+1:=⟨j-1,by omega⟩
  have V1:IntKind.u8.wrap ((v/256^(8-(i+1)):Nat):Int)=((aaB (v/256^(8-(i+1)))).toNat:Int):=by
   rw[IntKind.wrap_u8];simp
  have hv2:v/256^(8-(i+1))<256^8:=adC (adO _ _) hv
  have hlen:p+i<(di (lay A (p+(i+1)) (be (8-(i+1)) v)) n).length:=by rw[ma];omega
  refine dh ?_
  refine Li ((Cv T.oI T.EO (hz:=V1))) ?_
  refine Li ((UE T.gQ (j:=i))) ?_
  refine Lp (oS T.zX ?_ (i:=p+i) (hi:=hlen))
  rw[tS _ _ _ _ (by omega)]
  refine bq ?_
  refine Li (Sr 7) ?_
  refine Li (Sr 1) ?_
  refine dh ?_
  refine aG ?_
  have el:lay (lay A (p+(i+1)) (be (8-(i+1)) v)) (p+i) [aaB (v/256^(8-(i+1)))]=lay A (p+i) (be (8-i) v):=by
   rw[show 8-i=(8-(i+1))+1 by omega,be]
   exact rO A (p+i) _ _
  rw[el]
  refine ay (t:=2) (v':=(.int .u64 ((v/256^(8-i):Nat):Int))) rfl (by rw[vS,show 8-i=(8-(i+1))+1 by omega,adI,aek]) ?_
  refine Ro (i) (by omega) (by omega)
 intro hk
 replace hk:=aL hk
 obtain rfl:j=0:=by omega
 refine dg ?_
 refine Rt [ag ab 5 (di (wr A p 8 v) n)] results254 ?_
 exact⟨rfl,rfl⟩
theorem In.mono{A:aa}{h k:Hp}(i:In A h)(l:Le h k):In A k:=by
 obtain⟨m,a,b⟩:=i
 exact⟨m,a,b.trans l⟩
theorem Zv{ab n p m:Nat}{A:By}{h:Hp}(hb:In (ag ab 5 (di A n)) h)(hn:p+m≤n):eB h (some (GL ab p m)) (ak (iC A p m)):=by
 obtain⟨k,q1,q2⟩:=hb
 by_cases hm:m=0
 ·subst hm;rw[NU];exact eB.nil
 have:=(nI (i:=p) q1).mono q2
 unfold GL
 rw[if_neg hm,←Qf A n p m hn]
 exact this.take m
theorem DN (a:Option Addr)(l:List UInt8)(m c:Nat)(hm:m=l.length)(hl:l.length≤1073741824):
  aF aaa 239 [.slice a m c] (λh=>eB h a (ak l)) [] (λv H=>∃b,v= .slice (some ⟨b,0,none⟩) m m∧H= [own (some ⟨b,0,none⟩) m 5 1 (ak l)]):=by
 refine af func239 rfl ntmps239 rfl ?_
 intro F hF
 refine bD ?_
 refine Lp (oM (m) (m) T.iL λb1=> ?_)
 refine br ?_
 refine Lp (FF T.iL rfl rfl rfl rfl .here (dC (news:=ak l) (by simp[hm]) λh le _=>hF.mono le) dQ (by rw[iR];omega) rfl ?_)
 have hz:cR (fJ [.int .u8 0] (m*1)) 0 ((ak l).take (min m m*1))=ak l:=by
  rw[afL,aeY (by simp[hm]),ky (by rw[iR];simp[hm])]
  simp[hm,iR]
 rw[hz]
 refine az (λ_ s=>aY (λ_ p=>mh p m 1 (by simp[hm]) (by simp only[maxLen];omega)) s) ?_
 refine bD ?_
 refine Rt [own (some ⟨b1,0,none⟩) m 5 1 (ak l)] results239 ?_
 exact⟨_,rfl,rfl⟩
theorem D9 (a ab ao n p m:Nat)(A:By)(h0:0<ao)(h1:p+m≤n)(h2:n≤1073741824)(h3:p % ao+m≤ao)(h4:ao≤1048576):
  aF aaa 200 [.pointer (some ⟨a,0,none⟩), .int .i64 (p:Int), .int .i64 (m:Int)] (λh=>In (ag a 192 (gG ab ao n)) h∧In (ag ab 5 (di A n)) h) []
   (λv H=>∃b,v= .tuple #[.slice (some ⟨b,0,none⟩) m m, .int .i64 0]∧H= [own (some ⟨b,0,none⟩) m 5 1 (ak (iC A p m))]):=by
 refine af func200 rfl ntmps200 rfl ?_
 rintro F ⟨ha,hb⟩
 refine dh ?_
 refine zl T.lX (gX a ab ao n p m h0 h1 h2 h3 h4) .nil (λ_ le _=>ha.mono le) ?_
 refine qY ?_
 refine Lp (oC T.Yh rfl rfl (DN (some (GL ab p m)) (iC A p m) m m (cK A p m).symm (by rw[cK];omega)) .nil (λ_ le _=>(Zv hb h1).mono le) ?_)
 rintro v H' ⟨b,rfl,rfl⟩
 refine bd ?_
 refine aW ?_
 refine iV [own (some ⟨b,0,none⟩) m 5 1 (ak (iC A p m))] results200 ?_
 exact⟨_,rfl,rfl⟩
theorem nC (a ab ao n p m c:Nat)(A:By)(s:Option Addr)(l:List UInt8)(hm:m=l.length)(h0:0<ao)(h1:p+m≤n)(h2:n≤1073741824)(h3:p % ao+m≤ao)(h4:ao≤1048576):
  aF aaa 222 [.pointer (some ⟨a,0,none⟩), .int .i64 (p:Int), .slice s m c] (λh=>In (ag a 192 (gG ab ao n)) h∧eB h s (ak l)) [ag ab 5 (di A n)]
   (λv H=>v= .int .i64 0∧H= [ag ab 5 (di (lay A p l) n)]):=by
 refine af func222 rfl ntmps222 rfl ?_
 rintro F ⟨ha,hb⟩
 refine dh ?_
 refine zl T.lX (gX a ab ao n p m h0 h1 h2 h3 h4) .nil (λ_ le _=>ha.mono le) ?_
 refine mI ?_
 have hz:cR (di A n) (if m=0 then 0 else p) ((ak l).take (min m m*1))=di (lay A p l) n:=by
  rw[afL,aeY (by simp[hm])]
  by_cases h0:m=0
  ·have:l= []:=aaw (by omega)
   subst this
   rw[qm];rfl
  rw[if_neg h0,ky (by rw[ma];simp;omega),←Gx A n p l (by omega)]
  simp[adp]
 refine Lp (FF T.iL rfl rfl rfl rfl .here (dC (news:=ak l) (by simp[hm]) λh le _=>hb.mono le) dQ (by rw[ma];split<;>omega) rfl ?_)
 rw[hz]
 refine br ?_
 refine Rt [ag ab 5 (di (lay A p l) n)] results222 ?_
 exact⟨rfl,rfl⟩
theorem Er (a ab ao n p m:Nat)(A:By)(c:UInt8)(hm:0<m)(h0:0<ao)(h1:p+m≤n)(h2:n≤1073741824)(h3:p % ao+m≤ao)(h4:ao≤1048576):
  aF aaa 157 [.pointer (some ⟨a,0,none⟩), .int .i64 (p:Int), .int .i64 (m:Int), .int .u8 (c.toNat:Int)] (In (ag a 192 (gG ab ao n))) [ag ab 5 (di A n)]
   (λv H=>v= .int .i64 0∧H= [ag ab 5 (di (lay A p (aae m c)) n)]):=by
 refine af func157 rfl ntmps157 rfl ?_
 rintro F ha
 refine bL ?_
 refine zl T.lX (gX a ab ao n p m h0 h1 h2 h3 h4) .nil (λ_ le _=>ha.mono le) ?_
 simp only[GL,show¬m=0 by omega,if_false]
 refine bW ?_
 refine aA ?_
 refine az (H':= [ag ab 5 (di (lay A p (aae 0 c)) n)]) (by rw[List.replicate_zero,qm];exact λ_ x=>x) ?_
 refine Lo (ι:=Nat) [24,25,11,26,27,28,29,30,23] (λk=>k≤m) (λk=> [(23, .int .i64 (k:Int))]) (λk=> [ag ab 5 (di (lay A p (aae k c)) n)]) (λk=>m-k) (0) (by simp) ?_
 rintro k hI
 refine bq ?_
 refine aw ?_
 refine ax rfl ?_ ?_
 ·intro hk
  replace hk:=aL hk
  have cB:k<m:=by omega
  have hlen:p+k<(di (lay A p (aae k c)) n).length:=by rw[ma];omega
  refine eC ?_
  refine Li ((UE T.gQ)) ?_
  refine Lp (oS T.zX ?_ (i:=p+k) (hi:=hlen))
  rw[tS _ _ _ _ (by omega)]
  have el:lay (lay A p (aae k c)) (p+k) [c]=lay A p (aae (k+1) c):=by
   have:=Tf A p (aae k c) [c]
   rw[ado]at this
   rw[this,List.replicate_succ']
  rw[el]
  refine bD ?_
  refine aG ?_
  refine Ro (k+1) (by omega) (by omega)
 intro hk
 replace hk:=aL hk
 obtain rfl:k=m:=by omega
 refine dg ?_
 refine Rt [ag ab 5 (di (lay A p (aae k c)) n)] results157 ?_
 exact⟨rfl,rfl⟩
theorem xE (a ab ao n:Nat)(h2:n≤1073741824):
  aF aaa 192 [.pointer (some ⟨a,0,none⟩)] (In (ag a 192 (gG ab ao n))) [] (λv H=>v= .int .i64 (n:Int)∧H= []):=by
 refine af func192 rfl ntmps192 rfl ?_
 intro F h0
 unfold gG at h0
 refine eC ?_
 refine Rt [] results192 ?_
 exact⟨rfl,rfl⟩
def j9 (c:oU):List Value:= [.int .i64 c.ao, .int .i64 c.cP, .int .i64 c.gA, .int .i64 c.dE, .int .i64 c.lim, .int .i64 c.hot, .int .i64 c.warm]
def ba (l:List Nat):List Value:=l.map λn:Nat=> .int .i64 (n:Int)
def aC (l:List Nat):List Value:=l.map λn:Nat=> .int .u32 (n:Int)
def r7 (l:List Bool):List Value:=l.map λb=> .bool b
def mP (l:List (Nat×Nat)):List (Value×Value):=l.map λp=>(.int .i64 (p.1:Int), .int .u32 (p.2:Int))
def Qo (b:Option Nat)(n:Nat):Value:=match b with
 |some b=> .slice (some ⟨b,0,none⟩) n n
 |none=> .slice none 0 0
def jd (b:Option Nat)(e:TypeId)(cs:List Value):aa:=match b with
 |some b=>ag b e cs
 |none=>GV
def Ch (b:Option Nat)(es:List (Value×Value)):aa:=match b with
 |some b=>mq (.int .i64) b es
 |none=>GV
structure te where
 p:Pg
 gb:Option Nat
 tb:Option Nat
 ob:Option Nat
def eA (x:te):List Value:= [.bool x.p.own, .bool x.p.lv, .int .i64 (x.p.cl:Int),Qo x.gb x.p.aZ.length,Qo x.tb x.p.tk.length, .int .i64 (x.p.held:Int), .map x.ob]
theorem cx:∀x,(eA x).length=7:=λ_=>rfl
def mM (x:te):aa:=aI [jd x.gb 163 (aC x.p.aZ),jd x.tb 4 (r7 x.p.tk),Ch x.ob (mP x.p.old)]
structure VL (x:te):Prop where
 g:x.gb.isSome=x.p.own
 t:x.tb.isSome=x.p.own
 o:x.ob=none→x.p.old= []
structure Cz where
 r:Rw
 a:Option Addr
 c:Nat
def eo (x:Cz):List Value:= [.slice x.a x.r.free.length x.c, .int .i64 (x.r.gm:Int), .int .i64 (x.r.cP:Int), .int .i64 (x.r.kQ:Int)]
theorem cu:∀x,(eo x).length=4:=λ_=>rfl
def kh (x:Cz):aa:=own x.a x.c 3 1 (ba x.r.free)
structure Lc where
 a:Nat
 ab:Nat
 sa:Nat
 pb:Nat
 rb:Nat
 sc:Nat
 pl:List te
 rl:List Cz
def dz (C:Cs)(y:Lc):List Value:= [.int .i64 (C.ao:Int), .int .i64 (C.n:Int), .int .i64 C.cfg.gA, .int .i64 C.cfg.dE, .int .i64 C.cfg.lim, .int .i64 C.cfg.hot, .int .i64 C.cfg.warm, .pointer (some ⟨y.a,0,none⟩), .slice (some ⟨y.sa,0,none⟩) C.ae.length y.sc, .slice (some ⟨y.pb,0,none⟩) C.n C.n, .slice (some ⟨y.rb,0,none⟩) C.ae.length C.ae.length, .int .i64 (C.spare:Int)]
def nZ (C:Cs)(y:Lc):aa:=own (some ⟨y.sa,0,none⟩) y.sc 3 1 (ba C.ae)
def oR (b:Nat)(C:Cs)(y:Lc):List aa:=
 [ag b 136 (dz C y),nZ C y,ag y.pb 224 (y.pl.flatMap eA),aI (y.pl.map mM),ag y.rb 253 (y.rl.flatMap eo),aI (y.rl.map kh),
  ag y.a 192 (gG y.ab C.ao (C.n*C.ao)),ag y.ab 5 (di C.A (C.n*C.ao))]
structure gf (C:Cs)(y:Lc):Prop where
 pl:y.pl.map (·.p)=C.bZ
 rl:y.rl.map (·.r)=C.rows
 pk:∀x∈y.pl,VL x
 ao:C.cfg.ao=(C.ao:Int)
 cP:C.cfg.cP=(C.n:Int)
def Cl (b:Nat)(C:Cs):aa:=λh=>∃y,gf C y∧aI (oR b C y) h
theorem FD{P:Program}{f:FuncId}{args:List Value}{pre:Hp→Prop}{H:List aa}{R:Value→List aa→Prop}{b:Nat}{C:Cs}(h:∀y,gf C y→aF P f args pre (oR b C y++H) R):aF P f args pre (Cl b C::H) R:=
 aF.ZY λy=>aF.Ae λhy=>aF.CW (h y hy)
theorem vG{b:Nat}{C:Cs}{y:Lc}{H:List aa}{h:Hp}(hy:gf C y)(st:ai (oR b C y++H) h):ai (Cl b C::H) h:=
 aY (λ_ p=>⟨y,hy,p⟩) (fg st)
theorem VC{b:Nat}{C:Cs}{h:Hp}(o:In (Cl b C) h):∃y,gf C y∧gw (oR b C y) h:=by
 obtain⟨k,⟨y,hy,p⟩,l⟩:=o
 exact⟨y,hy,bV p l⟩
theorem tR{C:Cs}{y:Lc}(K:Cs.Ok C)(hy:gf C y){i:Nat}(hi:i<C.n):∃x,y.pl[i]?=some x∧x.p=C.pg i∧VL x:=by
 have h1:=Cs.k8 (C:=C) (i:=i) (by rw[K.pl];exact hi)
 rw[←hy.pl,aap,Option.map_eq_some_iff]at h1
 obtain⟨x,h2,h3⟩:=h1
 exact⟨x,h2,h3,hy.pk x (aaf h2)⟩
theorem uR{C:Cs}{y:Lc}(K:Cs.Ok C)(hy:gf C y){c:Nat}(hc:c<C.ae.length):∃x,y.rl[c]?=some x∧x.r=C.rw c:=by
 have h1:=Cs.UN (C:=C) (c:=c) (by rw[K.rl];exact hc)
 rw[←hy.rl,aap,Option.map_eq_some_iff]at h1
 exact h1
theorem jO{l:List Nat}{i n:Nat}(h:l[i]?=some n):(ba l)[i]?=some (.int .i64 (n:Int)):=by unfold ba;rw[aap,h];rfl
theorem qg{l:List Nat}{i n:Nat}(h:l[i]?=some n):(aC l)[i]?=some (.int .u32 (n:Int)):=by unfold aC;rw[aap,h];rfl
theorem DC{l:List Bool}{i:Nat}{b:Bool}(h:l[i]?=some b):(r7 l)[i]?=some (.bool b):=by unfold r7;rw[aap,h];rfl
theorem r9{C:Cs}{c:Nat}(h:c<C.ae.length):C.ae[c]?=some (C.sz c):=by
 unfold Cs.sz
 rw[aab,aac h];rfl
theorem tJ{C:Cs}{p:Nat}(h:C.ix p<(C.pg (C.pn p)).aZ.length):(C.pg (C.pn p)).aZ[C.ix p]?=some (C.gen p):=by
 unfold Cs.gen
 rw[aab,aac h];rfl
theorem jN{h:Hp}{b k:Nat}{cells:List Value}{v:Value}(r:eB h (some ⟨b,0,none⟩) cells)(hv:cells[k]?=some v):dI h ⟨b,k,none⟩=some v:=by
 obtain⟨ad,e,hc⟩:=r k v hv
 cases e
 rwa[add_lit,aas]at hc
structure Cv0 (b:Nat)(C:Cs)(y:Lc)(h:Hp):Prop where
 s:In (ag b 136 (dz C y)) h
 z:eB h (some ⟨y.sa,0,none⟩) (ba C.ae)
 p:In (ag y.pb 224 (y.pl.flatMap eA)) h
 r:In (ag y.rb 253 (y.rl.flatMap eo)) h
 a:In (ag y.a 192 (gG y.ab C.ao (C.n*C.ao))) h
 A:In (ag y.ab 5 (di C.A (C.n*C.ao))) h
structure Cvp (C:Cs)(y:Lc)(i:Nat)(h:Hp)(x:te)(gb tb:Nat):Prop where
 x1:y.pl[i]?=some x
 e:x.p=C.pg i
 g:x.gb=some gb
 t:x.tb=some tb
 k0:(y.pl.flatMap eA)[i*7]?=some (.bool true)
 k1:(y.pl.flatMap eA)[i*7+1]?=some (.bool (C.pg i).lv)
 k2:(y.pl.flatMap eA)[i*7+2]?=some (.int .i64 ((C.pg i).cl:Int))
 k3:(y.pl.flatMap eA)[i*7+3]?=some (.slice (some ⟨gb,0,none⟩) (C.pg i).aZ.length (C.pg i).aZ.length)
 k4:(y.pl.flatMap eA)[i*7+4]?=some (.slice (some ⟨tb,0,none⟩) (C.pg i).aZ.length (C.pg i).aZ.length)
 k5:(y.pl.flatMap eA)[i*7+5]?=some (.int .i64 ((C.pg i).held:Int))
 hg:In (ag gb 163 (aC (C.pg i).aZ)) h
 ht:In (ag tb 4 (r7 (C.pg i).tk)) h
theorem ac3{b:Nat}{C:Cs}{h:Hp}(K:Cs.Ok C){y:Lc}(hy:gf C y)(hi:gw (oR b C y) h){i:Nat}(h1:i<C.n)(h2:(C.pg i).own=true):∃x gb tb,Cvp C y i h x gb tb:=by
 obtain⟨x,x1,x2,x3⟩:=tR K hy h1
 have own:=h2
 rw[←x2]at own
 obtain⟨gb,zE⟩:∃g,x.gb=some g:=Option.isSome_iff_exists.1 (x3.g.trans own)
 obtain⟨tb,zC⟩:∃g,x.tb=some g:=Option.isSome_iff_exists.1 (x3.t.trans own)
 have P:Cs.kY C (C.pg i):=K.pg _ (Cs.gg (by rw[K.pl];exact h1))
 have tl:=P.tl
 have c:∀j v,(eA x)[j]?=some v→(y.pl.flatMap eA)[i*7+j]?=some v:=λj v hv=>bj cx x1 hv
 obtain⟨_,_,_,h3,_⟩:=hi
 obtain⟨g1,g2,_⟩:=qs (qt h3 (aaf x1))
 rw[zE]at g1
 rw[zC]at g2
 rw[x2]at g1 g2
 refine⟨x,gb,tb,x1,x2,zE,zC, ?_, ?_, ?_, ?_, ?_, ?_,g1,g2⟩
 ·have:=c 0 _ rfl;rw[own]at this;exact this
 ·have:=c 1 _ rfl;rw[x2]at this;exact this
 ·have:=c 2 _ rfl;rw[x2]at this;exact this
 ·have:=c 3 _ rfl;rw[zE,x2]at this;exact this
 ·have:=c 4 _ rfl;rw[zC,x2,tl]at this;exact this
 have:=c 5 _ rfl;rw[x2]at this;exact this
theorem Rv{b:Nat}{C:Cs}{h:Hp}(K:Cs.Ok C){y:Lc}(hy:gf C y)(hi:gw (oR b C y) h){p:Nat}(L:Cs.At C p):∃x gb tb,Cv0 b C y h∧Cvp C y (C.pn p) h x gb tb∧dI h ⟨y.sa,C.cl p,none⟩=some (.int .i64 (C.sz (C.cl p):Int)):=by
 obtain⟨x,gb,tb,V⟩:=ac3 K hy hi L.i L.own
 obtain⟨h0,h1,h2,h3,h4,h5,h6,h7,_⟩:=hi
 exact⟨x,gb,tb,⟨h0,bB h1,h2,h4,h6,h7⟩,V,jN (bB h1) (jO (r9 (L.aX K).1))⟩
theorem uB{P:Program}{f:FuncId}{args:List Value}{H:List aa}{R:Value→List aa→Prop}{b:Nat}{C:Cs}(h:∀y,gf C y→aF P f args (gw (oR b C y)) H R):aF P f args (In (Cl b C)) H R:=λF w hp s=>by
 obtain⟨y,hy,hi⟩:=VC hp
 exact h y hy F w hi s
theorem cF{L:List aa}{h k:Hp}(i:gw L h)(l:Le h k):gw L k:=by
 induction L with
 |nil=>trivial
 |cons A L ih=>exact⟨TA i.1 l,ih i.2⟩
open Go Go.cV Go.Proofs.YtdolmecackmjdaaGreatDoor.Cs
theorem xJ (p g:Nat)(hp:p≤1073741824)(hg:g<4294967296):aF aaa 159 [.int .i64 (p:Int), .int .u32 (g:Int)] (λ_=>True) [] (λv H=>v= .int .u64 ((g*4294967296+(p/8+1):Nat):Int)∧H= []):=by
 refine af func159 rfl ntmps159 rfl ?_
 intro F _
 refine bD ?_
 refine Li ((Sh 32 (z:=((g*4294967296:Nat):Int)) (hz:=by rw[show(2:Int)^(min 32 IntKind.u64.bits)=4294967296 from rfl,wrap_u64 (by omega)];omega))) ?_
 refine aA ?_
 refine Li (Qu (q:=8)) ?_
 refine bD ?_
 refine Rt [] results159 ?_
 refine⟨?_,rfl⟩
 congr 1
theorem Br (b:Nat)(C:Cs)(y:Lc)(K:Ok C)(hy:gf C y)(p:Nat)(L:At C p):
  aF aaa 193 [.pointer (some ⟨b,0,none⟩), .int .i64 (p:Int)] (gw (oR b C y)) []
   (λv H=>v= .tuple #[.pointer (some ⟨y.pb,C.pn p*7,none⟩), .int .i64 (C.ix p:Int), .bool true]∧H= []):=by
 obtain⟨n1,n2,n3,n4,n5,n6,n7,n8⟩:=L.aX K
 have nb:=fC K.toFix
 have f0:=K.toFix.p0
 have f1:=K.toFix.p1
 refine af func193 rfl ntmps193 rfl ?_
 intro F aq
 obtain⟨x,gb,tb,⟨h0,_,h2,_,h6,h7⟩,V,kz⟩:=Rv K hy aq L
 obtain⟨_,_,_,_,k0,_,k2,k3,k4,_,hg,ht⟩:=V
 change _=some (Value.int .i64 (C.cl p:Int))at k2
 unfold dz at h0
 have hi:=L.i
 have ek:=L.k
 have ZU:=L.al
 have hm:=aed p (show 0<C.ao by omega)
 refine bA ?_
 refine zf 12 ?_
 refine br ?_
 refine zl T.Mm (xE y.a y.ab C.ao (C.n*C.ao) nb) .nil (λ_ le _=>In.mono h6 le) ?_
 refine bq ?_
 refine dm ?_
 refine bf ?_
 refine aw ?_
 refine gT false T.mix ?_
 refine bA ?_
 refine Ti (Qu) ?_
 refine bW ?_
 refine aA ?_
 refine Li (Rm) ?_
 refine bf ?_
 refine aw ?_
 refine gT false T.mix ?_
 refine gP ?_
 refine aw ?_
 refine gT false T.mix ?_
 refine bf ?_
 refine Ti (Rm) ?_
 refine bf ?_
 refine zf 59 ?_ (e:=by exact(by rw[ZU];rfl))
 refine bf ?_
 refine Ti (Qu) ?_
 refine dh ?_
 refine dm ?_ (e:=by exact decide_eq_false (by unfold Cs.ix at ek;omega))
 refine bf ?_
 refine aw ?_
 refine gT false T.mix ?_
 refine bq ?_
 refine Ti (Qu) ?_
 refine br ?_
 refine Rt3 [] results193 ?_
 exact⟨rfl,rfl⟩
theorem Gh (b:Nat)(C:Cs)(y:Lc)(K:Ok C)(hy:gf C y)(p:Nat)(L:Live C p):
  aF aaa 125 [.pointer (some ⟨b,0,none⟩), .int .u64 (C.hd p:Int)] (gw (oR b C y)) []
   (λv H=>v= .tuple #[.pointer (some ⟨y.pb,C.pn p*7,none⟩), .int .i64 (C.ix p:Int), .int .i64 (p:Int), .bool true]∧H= []):=by
 obtain⟨n1,n2,n3,n4,n5,n6⟩:=bK K L.toAt
 have nb:=fC K.toFix
 have hg:=Live.yy K L.toAt
 refine af func125 rfl ntmps125 rfl ?_
 intro F aq
 obtain⟨x,gb,tb,⟨h0,_,h2,_,h6,h7⟩,V,kz⟩:=Rv K hy aq L.toAt
 obtain⟨_,_,_,_,k0,_,k2,k3,k4,_,hgn,ht⟩:=V
 unfold dz at h0
 have ek:=L.k
 have kt:=DC L.tk
 have kg:=qg (tJ ek)
 refine dh ?_
 refine Li ((Im (hz:=ac9 n5))) ?_
 rw[n1]
 refine bL ?_
 refine zf 17 ?_
 refine br ?_
 refine zl T.Mm (xE y.a y.ab C.ao (C.n*C.ao) nb) .nil (λ_ le _=>In.mono h6 le) ?_
 refine Li (Qu (q:=8)) ?_
 refine aW ?_
 refine dm ?_
 refine eC ?_
 rw[show(((p/8+1:Nat):Int)-1)*8=(p:Int) by omega]
 refine zl T.Ml (Br b C y K hy p L.toAt) .nil (λ_ le _=>cF aq le) ?_
 refine gP ?_
 refine zf 41 ?_ (e:=by rfl)
 refine bA ?_
 refine zf 51 ?_ (e:=by rfl)
 refine dh ?_
 refine Li ((Sr 32 (z:=((C.gen p:Nat):Int)) (hz:=by rw[abP,n2]))) ?_
 refine aW ?_
 refine dm ?_ (e:=by exact(by rw[decide_eq_true rfl];rfl))
 refine eC ?_
 refine Rt4 [] results125 ?_
 exact⟨rfl,rfl⟩
theorem uG (b:Nat)(C:Cs)(K:Ok C)(p:Nat)(L:Live C p):
  aF aaa 80 [.pointer (some ⟨b,0,none⟩), .int .u64 (C.hd p:Int)] (In (Cl b C)) [] (λv H=>v= .tuple #[.int .i64 (p:Int), .int .i64 (C.cl p:Int), .int .i64 0]∧H= []):=by
 refine uB λy hy=> ?_
 refine af func80 rfl ntmps80 rfl ?_
 intro F aq
 obtain⟨x,gb,tb,⟨h0,_,h2,_,h6,h7⟩,V,kz⟩:=Rv K hy aq L.toAt
 obtain⟨_,_,_,_,k0,_,k2,k3,k4,_,hgn,ht⟩:=V
 change _=some (Value.int .i64 (C.cl p:Int))at k2
 refine dh ?_
 refine zl T.MD (Gh b C y K hy p L) .nil (λ_ le _=>cF aq le) ?_
 refine x7 ?_
 refine aw ?_
 refine gT false T.mix ?_
 refine bA ?_
 refine Rt3 [] results80 ?_
 exact⟨rfl,rfl⟩
theorem UT (b:Nat)(C:Cs)(K:Ok C)(p:Nat)(L:Live C p):
  aF aaa 127 [.pointer (some ⟨b,0,none⟩), .int .i64 (p:Int)] (In (Cl b C)) [] (λv H=>v= .tuple #[.int .u64 (C.hd p:Int), .bool true]∧H= []):=by
 refine uB λy hy=> ?_
 have nb:=fC K.toFix
 obtain⟨_,_,_,_,_,_,_,n8⟩:=L.toAt.aX K
 refine af func127 rfl ntmps127 rfl ?_
 intro F aq
 obtain⟨x,gb,tb,⟨h0,_,h2,_,h6,h7⟩,V,kz⟩:=Rv K hy aq L.toAt
 obtain⟨_,_,_,_,k0,_,k2,k3,k4,_,hgn,ht⟩:=V
 have ek:=L.k
 have kt:=DC L.tk
 have kg:=qg (tJ ek)
 refine bL ?_
 refine zl T.Ml (Br b C y K hy p L.toAt) .nil (λ_ le _=>cF aq le) ?_
 refine gP ?_
 refine zf 18 ?_ (e:=by rfl)
 refine bW ?_
 refine bf ?_
 refine zl T.Mw (xJ p (C.gen p) (by omega) (Live.yy K L.toAt)) .nil (λ_ _ _=>trivial) ?_
 refine aW ?_
 refine iV [] results127 ?_
 exact⟨rfl,rfl⟩
theorem yo{α:Type}(f:α→Nat)(h:∀x,f x≤1):∀l:List α,(l.map f).sum≤l.length
 | []=>aan _
 |x::l=>by
  have:=yo f h l
  have:=h x
  simp only[aao,aaC,adm];omega
theorem Cs.Ok.le{C:Cs}(K:Ok C):C.spare≤C.n∧∀c,c<C.ae.length→(C.rw c).kQ≤C.n∧(C.rw c).cP≤C.n:=by
 have h:∀f:Pg→Nat,(∀x,f x≤1)→C.Cb f≤C.n:=λf hf=>by
  have:=yo f hf C.bZ
  rw[K.pl]at this;exact this
 refine⟨by rw[K.sp];exact h _ λx=>by unfold wz;split<;>omega,λc hc=>⟨by rw[K.fs c hc];exact h _ λx=>by unfold zQ;split<;>omega,by rw[K.fp c hc];exact h _ λx=>by unfold x4;split<;>omega⟩⟩
structure Cvr (C:Cs)(y:Lc)(c:Nat)(h:Hp)(x:Cz):Prop where
 x1:y.rl[c]?=some x
 e:x.r=C.rw c
 k0:(y.rl.flatMap eo)[c*4]?=some (.slice x.a (C.rw c).free.length x.c)
 k1:(y.rl.flatMap eo)[c*4+1]?=some (.int .i64 ((C.rw c).gm:Int))
 k2:(y.rl.flatMap eo)[c*4+2]?=some (.int .i64 ((C.rw c).cP:Int))
 k3:(y.rl.flatMap eo)[c*4+3]?=some (.int .i64 ((C.rw c).kQ:Int))
 f:eB h x.a (ba (C.rw c).free)
theorem ac2{b:Nat}{C:Cs}{h:Hp}(K:Cs.Ok C){y:Lc}(hy:gf C y)(hi:gw (oR b C y) h){c:Nat}(hc:c<C.ae.length):∃x,Cvr C y c h x:=by
 obtain⟨x,x1,x2⟩:=uR K hy hc
 have q:∀j v,(eo x)[j]?=some v→(y.rl.flatMap eo)[c*4+j]?=some v:=λj v hv=>bj cu x1 hv
 obtain⟨_,_,_,_,_,h5,_⟩:=hi
 have g1:=bB (qt h5 (aaf x1))
 rw[x2]at g1
 refine⟨x,x1,x2, ?_, ?_, ?_, ?_,g1⟩
 ·have:=q 0 _ rfl;rw[x2]at this;exact this
 ·have:=q 1 _ rfl;rw[x2]at this;exact this
 ·have:=q 2 _ rfl;rw[x2]at this;exact this
 have:=q 3 _ rfl;rw[x2]at this;exact this
def isM (C:Cs)(c:Int):Bool:=decide (0≤c∧c<(C.ae.length:Int))
def ofM (C:Cs)(c:Int)(f:Nat→Nat):Nat:=if 0≤c∧c<(C.ae.length:Int)then f c.toNat else 0
theorem U0 (b:Nat)(C:Cs)(y:Lc)(K:Ok C)(c:Int):aF aaa 98 [.pointer (some ⟨b,0,none⟩), .int .i64 c] (gw (oR b C y)) [] (λv H=>v= .bool (isM C c)∧H= []):=by
 refine af func98 rfl ntmps98 rfl ?_
 rintro F ⟨h0,_⟩
 unfold dz at h0
 refine bL ?_
 refine aS (t:=7) rfl ?_ ?_
 ·intro h
  replace h:=aL h
  refine bI ?_
  refine Rt [] results98 ?_
  refine⟨?_,rfl⟩
  unfold isM
  congr 2
  simp[h]
 intro h
 replace h:=aL h
 refine bI ?_
 refine Rt [] results98 ?_
 refine⟨?_,rfl⟩
 unfold isM
 rw[decide_eq_false (by omega)]
theorem mj (b:Nat)(C:Cs):aF aaa 60 [.pointer (some ⟨b,0,none⟩)] (In (Cl b C)) [] (λv H=>v= .int .i64 (C.ae.length:Int)∧H= []):=by
 refine uB λy hy=> ?_
 refine af func60 rfl ntmps60 rfl ?_
 rintro F ⟨h0,_⟩
 unfold dz at h0
 refine eC ?_
 refine Rt [] results60 ?_
 exact⟨rfl,rfl⟩
theorem zw (b:Nat)(C:Cs):aF aaa 185 [.pointer (some ⟨b,0,none⟩)] (In (Cl b C)) [] (λv H=>v= .int .i64 (C.spare:Int)∧H= []):=by
 refine uB λy hy=> ?_
 refine af func185 rfl ntmps185 rfl ?_
 rintro F ⟨h0,_⟩
 unfold dz at h0
 refine bI ?_
 refine Rt [] results185 ?_
 exact⟨rfl,rfl⟩
theorem JC (b:Nat)(C:Cs):aF aaa 61 [.pointer (some ⟨b,0,none⟩)] (In (Cl b C)) [] (λv H=>v= .agg (j9 C.cfg).toArray∧H= []):=by
 refine uB λy hy=> ?_
 have hc:j9 C.cfg= [.int .i64 (C.ao:Int), .int .i64 (C.n:Int), .int .i64 C.cfg.gA, .int .i64 C.cfg.dE, .int .i64 C.cfg.lim, .int .i64 C.cfg.hot, .int .i64 C.cfg.warm]:=by
  unfold j9;rw[hy.ao,hy.cP]
 rw[hc]
 refine af func61 rfl ntmps61 rfl ?_
 rintro F ⟨h0,_⟩
 unfold dz at h0
 refine aA ?_
 refine Lp (oA T.Kv λb1=> ?_)
 refine dg ?_
 refine EM [] T.Aq results61 ?_
 exact⟨rfl,rfl⟩
theorem Qi (b:Nat)(C:Cs)(y:Lc):aF aaa 199 [.pointer (some ⟨b,0,none⟩)] (gw (oR b C y)) [] (λv H=>v= .pointer (some ⟨y.a,0,none⟩)∧H= []):=by
 refine af func199 rfl ntmps199 rfl ?_
 rintro F ⟨h0,_⟩
 unfold dz at h0
 refine bI ?_
 refine Rt [] results199 ?_
 exact⟨rfl,rfl⟩
theorem rU (b:Nat)(C:Cs)(K:Ok C)(c:Int):aF aaa 62 [.pointer (some ⟨b,0,none⟩), .int .i64 c] (In (Cl b C)) [] (λv H=>v= .int .i64 (ofM C c λi=>C.sz i:Nat)∧H= []):=by
 refine uB λy hy=> ?_
 refine af func62 rfl ntmps62 rfl ?_
 intro F aq
 have h0:=aq.1
 have h4:=aq.2.2.2.2.1
 unfold dz at h0
 refine bL ?_
 refine zl T.Vf (U0 b C y K c) .nil (λ_ le _=>cF aq le) ?_
 unfold ofM isM
 refine bf ?_
 refine ax rfl ?_ ?_
 ·intro h
  replace h:=aL h
  refine br ?_
  refine Rt [] results62 ?_
  refine⟨?_,rfl⟩
  rw[if_neg h];rfl
 intro h
 replace h:=aL h
 obtain⟨i,rfl⟩:∃i:Nat,c=(i:Int):=⟨c.toNat,by omega⟩
 have hi:i<C.ae.length:=by omega
 obtain⟨x,_,_,k0,k1,k2,k3,_⟩:=ac2 K hy aq hi
 have kz:=jN (bB aq.2.1) (jO (r9 hi))
 refine gP ?_
 refine Rt [] results62 ?_
 refine⟨?_,rfl⟩
 rw[if_pos h];rfl
theorem Ye (b:Nat)(C:Cs)(K:Ok C)(n:Nat)(hn:1≤n):aF aaa 179 [.pointer (some ⟨b,0,none⟩), .int .i64 (n:Int)] (In (Cl b C)) []
  (λv H=>v=(match C.ae.findIdx? λz=>decide (n≤z)with
   |some c=> .tuple #[.int .i64 (c:Int), .int .i64 0]
   |none=> .tuple #[.int .i64 0, .int .i64 6])∧H= []):=by
 refine uB λy hy=> ?_
 have l1:=K.toFix.l1
 refine af func179 rfl ntmps179 rfl ?_
 intro F aq
 have h0:=aq.1
 unfold dz at h0
 refine dg ?_
 refine dm ?_
 refine eC ?_
 refine Lo (ι:=Nat) [16,17,18,19,6,7,20,21,22,23,4,5,24,15] (λk=>k≤C.ae.length∧∀j,j<k→C.sz j<n) (λk=> [(15, .int .i64 (k:Int))]) (λk=> []) (λk=>C.ae.length-k) (0) ⟨aay _,λj hj=>absurd hj (aev j)⟩ ?_
 rintro k ⟨hk0,pZ⟩
 refine bq ?_
 refine aw ?_
 refine ax rfl ?_ ?_
 ·intro hk
  replace hk:=aL hk
  have cB:k<C.ae.length:=by omega
  have ks:=r9 cB
  have kz:=jN (bB aq.2.1) (jO ks)
  refine qY ?_
  refine ax rfl ?_ ?_
  ·intro hq
   replace hq:=aL hq
   refine bI ?_
   refine iV [] results179 ?_
   refine⟨?_,rfl⟩
   have:C.ae.findIdx? (λz=>decide (n≤z))=some k:=by
    rw[aav]
    obtain⟨h1,h2⟩:=aad.1 ks
    refine⟨h1,by rw[h2];simp;omega,λj hj=> ?_⟩
    have h3:=pZ j hj
    obtain⟨h4,h5⟩:=aad.1 (r9 (C:=C) (c:=j) (by omega))
    rw[h5];simp;omega
   rw[this]
  intro hq
  replace hq:=aL hq
  refine bD ?_
  refine aG ?_
  refine Ro (k+1) (⟨by omega,λj hj=> ?_⟩) (by omega)
  by_cases QD:j=k
  ·subst QD;omega
  exact pZ j (by omega)
 intro hk
 replace hk:=aL hk
 obtain rfl:k=C.ae.length:=by omega
 refine bA ?_
 refine iV [] results179 ?_
 refine⟨?_,rfl⟩
 have:C.ae.findIdx? (λz=>decide (n≤z))=none:=by
  rw[adV]
  intro z hz
  obtain⟨j,hj⟩:=aez hz
  have hjl:=(aad.1 hj).1
  have h1:=pZ j hjl
  rw[r9 hjl]at hj
  cases hj
  simp;omega
 rw[this]
open Go Go.cV
theorem yR{α:Type}(f:α→Nat):∀{l:List α} {i:Nat} {x:α} (_:l[i]?=some x) (y:α),((l.set i y).map f).sum+f x=(l.map f).sum+f y
 | [],i,x,h,y=>by simp at h
 |z::l,0,x,h,y=>by
  simp only[aep,Option.some.injEq]at h
  subst h
  simp only[List.set_cons_zero,aao,aaC];omega
 |z::l,i+1,x,h,y=>by
  simp only[adU]at h
  have:=yR f h y
  simp only[List.set_cons_succ,aao,aaC];omega
theorem kx{α:Type}(f:α→Nat):∀{l:List α} {i:Nat} {x:α},l[i]?=some x→f x≤(l.map f).sum
 | [],i,x,h=>by simp at h
 |z::l,0,x,h=>by
  simp only[aep,Option.some.injEq]at h
  subst h
  simp only[aao,aaC];omega
 |z::l,i+1,x,h=>by
  simp only[adU]at h
  have:=kx f h
  simp only[aao,aaC];omega
namespace Cs
def wY (C:Cs)(i:Nat)(x:Pg):Cs:={C with bZ:=C.bZ.set i x}
def UM (C:Cs)(c:Nat)(r:Rw):Cs:={C with rows:=C.rows.set c r}
theorem C1 (C:Cs)(i j:Nat)(x:Pg)(h:i<C.bZ.length):(C.wY i x).pg j=if j=i then x else C.pg j:=by
 unfold Cs.pg wY
 rw[aab,aab]
 by_cases e:j=i
 ·subst e;rw[if_pos rfl,aah h];rfl
 rw[if_neg e,aaF (λq=>e q.symm)]
theorem uL (C:Cs)(c d:Nat)(r:Rw)(h:c<C.rows.length):(C.UM c r).rw d=if d=c then r else C.rw d:=by
 unfold Cs.rw UM
 rw[aab,aab]
 by_cases e:d=c
 ·subst e;rw[if_pos rfl,aah h];rfl
 rw[if_neg e,aaF (λq=>e q.symm)]
theorem Ub{C:Cs}{i:Nat}(h:i<C.bZ.length)(f:Pg→Nat)(x:Pg):(C.wY i x).Cb f+f (C.pg i)=C.Cb f+f x:=yR f (k8 h) x
structure Kt (x y:Pg):Prop where
 own:y.own=x.own
 cl:y.cl=x.cl
 gl:y.aZ.length=x.aZ.length
structure zU (C D:Cs):Prop where
 ao:D.ao=C.ao
 n:D.n=C.n
 ae:D.ae=C.ae
 pg:∀i,Kt (C.pg i) (D.pg i)
theorem zU.sz{C D:Cs}(S:zU C D)(c:Nat):D.sz c=C.sz c:=by unfold Cs.sz;rw[S.ae]
theorem zU.pn{C D:Cs}(S:zU C D)(p:Nat):D.pn p=C.pn p:=by unfold Cs.pn;rw[S.ao]
theorem zU.cl{C D:Cs}(S:zU C D)(p:Nat):D.cl p=C.cl p:=by unfold Cs.cl;rw[S.pn,(S.pg _).cl]
theorem zU.ix{C D:Cs}(S:zU C D)(p:Nat):D.ix p=C.ix p:=by unfold Cs.ix;rw[S.cl,S.sz,S.ao]
theorem zU.at{C D:Cs}(S:zU C D){p:Nat}:At D p↔At C p:=by
 constructor
 ·intro h;exact⟨by rw[←S.pn,←S.n];exact h.i,by rw[←S.pn,←(S.pg _).own];exact h.own,by rw[←S.ao,←S.cl,←S.sz];exact h.al,by rw[←S.ix,←S.pn,←(S.pg _).gl];exact h.k⟩
 intro h;exact⟨by rw[S.pn,S.n];exact h.i,by rw[S.pn,(S.pg _).own];exact h.own,by rw[S.ao,S.cl,S.sz];exact h.al,by rw[S.ix,S.pn,(S.pg _).gl];exact h.k⟩
theorem RY{C:Cs}{i:Nat}(h:i<C.bZ.length){x:Pg}(l:Kt (C.pg i) x):zU C (C.wY i x):=⟨rfl,rfl,rfl,λj=>by
 rw[C1 C i j x h]
 split
 ·rename_i e;subst e;exact l
 exact⟨rfl,rfl,rfl⟩⟩
def put (C:Cs)(i:Nat)(x:Pg)(c:Nat)(r:Rw)(sp:Nat)(A:By):Cs:={C with bZ:=C.bZ.set i x,rows:=C.rows.set c r,spare:=sp,A:=A}
def eI (C:Cs)(c p:Nat):Cs:=
 C.put (C.pn p) {C.pg (C.pn p)with tk:=(C.pg (C.pn p)).tk.set (C.ix p) true,held:=(C.pg (C.pn p)).held+1} c {C.rw c with free:=(C.rw c).free.dropLast,gm:=(C.rw c).gm+1} C.spare
  (wr (lay C.A p (aae 56 0)) (p+12) 4 (C.gen p))
def bb (C:Cs)(p:Nat):Cs:=
 C.put (C.pn p) {C.pg (C.pn p)with tk:=(C.pg (C.pn p)).tk.set (C.ix p) false,held:=(C.pg (C.pn p)).held-1,aZ:=(C.pg (C.pn p)).aZ.set (C.ix p) ((C.gen p+1) % 4294967296)} (C.cl p)
  {C.rw (C.cl p)with free:=if(C.pg (C.pn p)).lv=true then(C.rw (C.cl p)).free else(C.rw (C.cl p)).free++ [p],gm:=(C.rw (C.cl p)).gm-1} C.spare C.A
def gk (C:Cs)(i c:Nat)(tk:List Bool):List Nat:=(((adJ tk.length).reverse.filter λk=>tk[k]?==some false).map λk=>i*C.ao+k*C.sz c)
def zY (l:List (Nat×Nat))(k:Nat):Nat:=((l.find? λe=>decide (e.1=k)).map (·.2)).getD 0
def eL (C:Cs)(i c:Nat):Pg:=
 {C.pg i with own:=true,cl:=c,aZ:=(adJ (C.ao/C.sz c)).map λk=>zY (C.pg i).old (k*C.sz c),tk:=aae (C.ao/C.sz c) false}
def bm (C:Cs)(i c:Nat):Cs:=
 C.put i (C.eL i c) c {C.rw c with cP:=(C.rw c).cP+1,kQ:=(C.rw c).kQ+1,free:=(C.rw c).free++C.gk i c (aae (C.ao/C.sz c) false)} (C.spare-1) C.A
def lV (C:Cs)(i:Nat):Cs:=
 C.put i {C.pg i with lv:=true} (C.pg i).cl {C.rw (C.pg i).cl with kQ:=(C.rw (C.pg i).cl).kQ-1,free:=(C.rw (C.pg i).cl).free.filter λp=>decide (C.pn p≠i)} C.spare C.A
def kk (C:Cs)(i:Nat):Cs:=
 C.put i {C.pg i with lv:=false} (C.pg i).cl {C.rw (C.pg i).cl with kQ:=(C.rw (C.pg i).cl).kQ+1,free:=(C.rw (C.pg i).cl).free++C.gk i (C.pg i).cl (C.pg i).tk} C.spare C.A
def zV (l:List (Nat×Nat))(k g:Nat):List (Nat×Nat):=if k∈l.map (·.1)then l.map (λp=>if p.1=k then(k,g)else p)else l++ [(k,g)]
def Kp (C:Cs)(x:Pg):List (Nat×Nat):=(adJ x.aZ.length).foldl (λl k=>zV l (k*C.sz x.cl) (x.aZ.getD k 0)) x.old
def eQ (C:Cs)(i:Nat):Cs:=
 C.put i {Pg.no with old:=C.Kp (C.pg i)} (C.pg i).cl {C.rw (C.pg i).cl with cP:=(C.rw (C.pg i).cl).cP-1} (C.spare+1) C.A
def fu (C:Cs):Option Nat:=C.bZ.findIdx? λx=> !x.own
def dH (C:Cs)(c:Nat):Option (Nat×Cs):=
 match(C.rw c).free.getLast? with
 |some p=>some (p,C.eI c p)
 |none=>match C.fu with
  |none=>none
  |some i=>match((C.bm i c).rw c).free.getLast? with
   |some p=>some (p,(C.bm i c).eI c p)
   |none=>none
theorem MS{l:List Bool}{k:Nat}{b:Bool}(h:l[k]?=some b)(c:Bool):((l.set k c).map bN).sum+bN b=(l.map bN).sum+bN c:=yR bN h c
theorem Ed{C:Cs}{i:Nat}{x z:Pg}(h:z∈(C.wY i x).bZ):z=x∨z∈C.bZ:=by
 unfold wY at h
 exact(adH h).symm
theorem kI{C:Cs}{i c sp:Nat}{x:Pg}{r:Rw}{A:By}(h:i<C.bZ.length)(j:Nat):(C.put i x c r sp A).pg j=if j=i then x else C.pg j:=C1 C i j x h
theorem yr{C:Cs}{i c sp:Nat}{x:Pg}{r:Rw}{A:By}(h:c<C.rows.length)(d:Nat):(C.put i x c r sp A).rw d=if d=c then r else C.rw d:=uL C c d r h
theorem tB{C:Cs}{i c sp:Nat}{x:Pg}{r:Rw}{A:By}(h:i<C.bZ.length)(l:Kt (C.pg i) x):zU C (C.put i x c r sp A):=⟨rfl,rfl,rfl,(RY h l).pg⟩
structure Z1 (C:Cs)(x:Pg)(c q:Nat):Prop where
 own:x.own=true
 al:q % C.ao % C.sz c=0
 tk:x.tk[q % C.ao/C.sz c]?=some false
 lv:x.lv=false
theorem kY.put{C:Cs}{i c sp:Nat}{y:Pg}{r:Rw}{A:By}{x:Pg}(P:kY C x):kY (C.put i y c r sp A) x:=⟨P.cl,P.gl,P.tl,P.UD,P.QR,P.nd,P.held,P.no⟩
theorem Gd{C:Cs}(K:Ok C){d q:Nat}(h:C.pn q<C.n):x6 C d q↔C.cl q=d∧Z1 C (C.pg (C.pn q)) d q:=by
 constructor
 ·intro G
  have c:=G.cl
  exact⟨c,G.own,by have:=G.al;rwa[c]at this,by have:=G.tk;unfold Cs.ix at this;rwa[c]at this,G.lv⟩
 rintro⟨rfl,G⟩
 have P:=K.uF h
 refine⟨⟨h,G.own,G.al, ?_⟩,rfl,G.tk,G.lv⟩
 have:=(aad.1 G.tk).1
 rw[P.tl]at this
 exact this
theorem ri{C:Cs}(K:Ok C){i c sp:Nat}{x:Pg}{r:Rw}{A:By}(hi:i<C.n)(iE:c<C.ae.length)(ho:(C.pg i).own=true→(C.pg i).cl=c)(hx:x.own=true→x.cl=c)(P:kY C x)(wT:r.free.Nodup)
  (Ct:∀q,q∈r.free↔(x6 C c q∧C.pn q≠i)∨(C.pn q=i∧Z1 C x c q))
  (ht:r.gm+wq c (C.pg i)=(C.rw c).gm+wq c x) (hp:r.cP+x4 c (C.pg i)=(C.rw c).cP+x4 c x) (hs:r.kQ+zQ c (C.pg i)=(C.rw c).kQ+zQ c x) (QB:sp+wz (C.pg i)=C.spare+wz x):Ok (C.put i x c r sp A):=by
 have hpl:i<C.bZ.length:=by rw[K.pl];exact hi
 have fx:c<C.rows.length:=by rw[K.rl];exact iE
 have iD:=kI (C:=C) (c:=c) (sp:=sp) (x:=x) (r:=r) (A:=A) hpl
 have hrw:=yr (C:=C) (i:=i) (sp:=sp) (x:=x) (r:=r) (A:=A) fx
 have Rp:∀f,(C.put i x c r sp A).Cb f+f (C.pg i)=C.Cb f+f x:=λf=>Ub hpl f x
 have hPg:∀z∈(C.put i x c r sp A).bZ,kY (C.put i x c r sp A) z:=by
  intro z hz
  rcases Ed (C:=C) hz with rfl|hz
  ·exact P.put
  exact(K.pg z hz).put
 have abl:∀d q,x6 (C.put i x c r sp A) d q↔(x6 C d q∧C.pn q≠i)∨(d=c∧C.pn q=i∧Z1 C x c q):=by
  intro d q
  have EF:(C.put i x c r sp A).pn q=C.pn q:=rfl
  by_cases e:C.pn q=i
  ·have wG:(C.put i x c r sp A).cl q=x.cl:=by unfold Cs.cl;rw[EF,iD,if_pos e]
   have B0:(C.put i x c r sp A).ix q=q % C.ao/C.sz x.cl:=by unfold Cs.ix;rw[wG];rfl
   constructor
   ·intro G
    have g1:=G.own
    have g2:=G.tk
    have g3:=G.lv
    have g4:=G.al
    have g5:=G.cl
    rw[EF,iD,if_pos e]at g1 g2 g3
    rw[wG]at g4 g5
    rw[B0]at g2
    have hc:=hx g1
    rw[hc]at g2 g4 g5
    exact .inr ⟨g5.symm,e,g1,g4,g2,g3⟩
   rintro(⟨_,b⟩|⟨rfl,_,G⟩)
   ·exact absurd e b
   have hc:=hx G.own
   refine⟨⟨by rw[EF,e];exact hi,by rw[EF,iD,if_pos e];exact G.own,by rw[wG,hc];exact G.al, ?_⟩,by rw[wG,hc], ?_,by rw[EF,iD,if_pos e];exact G.lv⟩
   ·rw[EF,iD,if_pos e,B0,hc,←P.tl]
    exact(aad.1 G.tk).1
   rw[EF,iD,if_pos e,B0,hc];exact G.tk
  have dT:(C.put i x c r sp A).pg (C.pn q)=C.pg (C.pn q):=by rw[iD,if_neg e]
  have wG:(C.put i x c r sp A).cl q=C.cl q:=by unfold Cs.cl;rw[EF,dT]
  have B0:(C.put i x c r sp A).ix q=C.ix q:=by unfold Cs.ix;rw[wG];rfl
  constructor
  ·intro G
   exact .inl ⟨⟨⟨G.i,by rw[←dT];exact G.own,by rw[←wG];exact G.al,by rw[←B0,←dT];exact G.k⟩,by rw[←wG];exact G.cl,by rw[←B0,←dT];exact G.tk,by rw[←dT];exact G.lv⟩,e⟩
  rintro(⟨G,_⟩|⟨_,b,_⟩)
  ·exact⟨⟨G.i,by rw[EF,dT];exact G.own,by rw[wG];exact G.al,by rw[B0,EF,dT];exact G.k⟩,by rw[wG];exact G.cl,by rw[B0,EF,dT];exact G.tk,by rw[EF,dT];exact G.lv⟩
  exact absurd b e
 refine⟨⟨K.p0,K.p1,K.p8,K.n0,K.n1,K.l0,K.l1,K.s0,by simp[put,K.pl],by simp[put,K.rl]⟩,hPg, ?_, ?_, ?_, ?_, ?_, ?_, ?_⟩
 ·intro d q hq
  rw[hrw]at hq
  refine(abl d q).2 ?_
  by_cases e:d=c
  ·subst e
   rw[if_pos rfl]at hq
   rcases(Ct q).1 hq with h1|h1
   ·exact .inl h1
   exact .inr ⟨rfl,h1⟩
  rw[if_neg e]at hq
  have G:=K.fr d q hq
  refine .inl ⟨G,λe2=>e ?_⟩
  have g1:=G.own
  rw[e2]at g1
  rw[←G.cl,←ho g1,←e2];rfl
 ·intro d
  rw[hrw]
  split
  ·exact wT
  exact K.fn d
 ·intro d q G hd
  rw[hrw]
  rcases(abl d q).1 G with⟨G1,h2⟩|⟨rfl,h1⟩
  ·split
   ·rename_i e;subst e;exact(Ct q).2 (.inl ⟨G1,h2⟩)
   exact K.fa d q G1 hd
  rw[if_pos rfl];exact(Ct q).2 (.inr h1)
 all_goals try intro d hd
 all_goals try (have h1:=Rp (wq d);have h2:=K.ft d hd;have h3:=Rp (x4 d);have h4:=K.fp d hd;have h5:=Rp (zQ d);have h6:=K.fs d hd;rw[hrw])
 ·by_cases e:d=c
  ·subst e;rw[if_pos rfl];omega
  rw[if_neg e]
  have q1:wq d (C.pg i)=0:=by unfold wq;rw[if_neg λq=>e (q.2.symm.trans (ho q.1))]
  have q2:wq d x=0:=by unfold wq;rw[if_neg λq=>e (q.2.symm.trans (hx q.1))]
  omega
 ·by_cases e:d=c
  ·subst e;rw[if_pos rfl];omega
  rw[if_neg e]
  have q1:x4 d (C.pg i)=0:=by unfold x4;rw[if_neg λq=>e (q.2.symm.trans (ho q.1))]
  have q2:x4 d x=0:=by unfold x4;rw[if_neg λq=>e (q.2.symm.trans (hx q.1))]
  omega
 ·by_cases e:d=c
  ·subst e;rw[if_pos rfl];omega
  rw[if_neg e]
  have q1:zQ d (C.pg i)=0:=by unfold zQ;rw[if_neg λq=>e (q.2.1.symm.trans (ho q.1))]
  have q2:zQ d x=0:=by unfold zQ;rw[if_neg λq=>e (q.2.1.symm.trans (hx q.1))]
  omega
 have h1:=Rp wz
 have h2:=K.sp
 show sp=_
 omega
theorem uz{C:Cs}(K:Ok C){p q:Nat}(L:At C p)(M:At C q)(e:C.pn q=C.pn p)(h:q≠p):C.ix q≠C.ix p:=λe2=>h (by rw[←Lw K M,←Lw K L,e,e2])
theorem uW{C:Cs}(K:Ok C){p c:Nat}(h:(C.rw c).free.getLast?=some p):Ok (C.eI c p)∧zU C (C.eI c p)∧x6 C c p:=by
 have hm:p∈(C.rw c).free:=List.mem_of_getLast? h
 have F:=K.fr c p hm
 have L:=F.toAt
 have ie:(C.rw c).free≠ []:=List.ne_nil_of_mem hm
 have zF:(C.rw c).free=(C.rw c).free.dropLast++ [p]:=by
  have:=aeH ie
  rw[adz ie]at h
  rw[Option.some.inj h]at this
  exact this.symm
 have wT:=K.fn c
 rw[zF]at wT
 rw[adk]at wT
 have Ke:p∉(C.rw c).free.dropLast:=λhq=>wT.2.2 p hq p (List.mem_singleton_self p) rfl
 have P:=K.uF L.i
 have iE:c<C.ae.length:=by rw[←F.cl];exact(L.aX K).1
 have hs:=MS F.tk true
 have hh:=P.held
 rw[show bN false=0 from rfl,show bN true=1 from rfl]at hs
 have fT:∀y:Pg,y.own=true→y.cl=c→wq c y=y.held:=λy a b=>by unfold wq;rw[if_pos ⟨a,b⟩]
 have hl:Kt (C.pg (C.pn p)) {C.pg (C.pn p)with tk:=(C.pg (C.pn p)).tk.set (C.ix p) true,held:=(C.pg (C.pn p)).held+1}:=⟨rfl,rfl,rfl⟩
 refine⟨ri K L.i iE (λ_=>F.cl) (λ_=>F.cl) ⟨P.cl,P.gl,by simpa using P.tl,P.UD,P.QR,P.nd,by dsimp only;omega,λh=>absurd (L.own.symm.trans h) (by simp)⟩ wT.1 (λq=> ?_) (by have q1:=fT (C.pg (C.pn p)) L.own F.cl;have q2:=fT {C.pg (C.pn p)with tk:=(C.pg (C.pn p)).tk.set (C.ix p) true,held:=(C.pg (C.pn p)).held+1} L.own F.cl;dsimp only at q1 q2⊢;omega) rfl rfl rfl,tB (by rw[K.pl];exact L.i) hl,F⟩
 have sT:q∈(C.rw c).free↔x6 C c q:=⟨K.fr c q,λG=>K.fa c q G iE⟩
 have hq:q∈(C.rw c).free.dropLast↔x6 C c q∧q≠p:=by
  rw[←sT]
  constructor
  ·intro h1;exact⟨by rw[zF];exact List.mem_append_left _ h1,λe=>Ke (e▸h1)⟩
  rintro⟨h1,h2⟩
  rw[zF]at h1
  exact(adP.1 h1).resolve_right λh3=>h2 (aaA.1 h3)
 dsimp only
 rw[hq]
 have B0:∀z,C.pn z=C.pn p→z % C.ao/C.sz c=C.ix z:=λz e=>by
  unfold Cs.ix Cs.cl;rw[e]
  have:=F.cl;unfold Cs.cl at this;rw[this]
 constructor
 ·rintro⟨G,ie⟩
  by_cases e:C.pn q=C.pn p
  ·have g2:=((Gd K G.i).1 G).2
   refine .inr ⟨e,L.own,g2.al, ?_,by rw[←e];exact G.lv⟩
   rw[B0 q e]
   rw[aaF (λz=>uz K L G.toAt e ie z.symm),←e];exact G.tk
  exact .inl ⟨G,e⟩
 rintro(⟨G,e⟩|⟨e,N⟩)
 ·exact⟨G,λz=>e (by rw[z])⟩
 have t:=N.tk
 rw[B0 q e]at t
 have ie:q≠p:=by
  rintro rfl
  rw[aah (aad.1 F.tk).1]at t
  cases t
 have hcq:C.cl q=c:=by unfold Cs.cl;rw[e];exact F.cl
 have a:At C q:=⟨by rw[e];exact L.i,by rw[e];exact L.own,by rw[hcq];exact N.al,by
  have:=(aad.1 t).1
  rw[aaj,P.tl]at this
  rw[e];exact this⟩
 rw[aaF (λz=>uz K L a e ie z.symm)]at t
 exact⟨⟨a,hcq,by rw[e];exact t,by rw[e];exact N.lv⟩,ie⟩
theorem Ec{C:Cs}(F:Fix C){c:Nat}(hc:c<C.ae.length){i k:Nat}(hk:k<C.ao/C.sz c):C.pn (i*C.ao+k*C.sz c)=i∧(i*C.ao+k*C.sz c) % C.ao=k*C.sz c∧k*C.sz c % C.sz c=0∧k*C.sz c/C.sz c=k:=by
 obtain⟨h1,h2,h3⟩:=F.sz hc
 have GQ:=F.pos
 have e3:k*C.sz c+C.sz c≤C.ao:=by
  have h4:=aaD (C.sz c) (show k+1≤C.ao/C.sz c from hk)
  have h5:=aeu C.ao (C.sz c)
  rw[adD,adK]at h4
  omega
 refine⟨?_, ?_,afu _ _,afi _ (by omega)⟩
 ·unfold Cs.pn
  rw[adq,afz GQ,aft (by omega)];omega
 rw[adq,afA,aaH (by omega)]
theorem nS{C:Cs}(F:Fix C){i c:Nat}(hc:c<C.ae.length){tk:List Bool}(ht:tk.length≤C.ao/C.sz c)(q:Nat):
  q∈C.gk i c tk↔C.pn q=i∧q % C.ao % C.sz c=0∧tk[q % C.ao/C.sz c]?=some false:=by
 unfold gk
 rw[adi]
 constructor
 ·rintro⟨k,hk,rfl⟩
  rw[acA,aeq,aeo]at hk
  obtain⟨a1,a2,a3,a4⟩:=Ec F hc (i:=i) (k:=k) (by omega)
  rw[a1,a2]
  refine⟨rfl,a3, ?_⟩
  rw[a4];simpa using hk.2
 rintro⟨h1,h2,h3⟩
 have hk:=(aad.1 h3).1
 refine⟨q % C.ao/C.sz c, ?_, ?_⟩
 ·rw[acA,aeq,aeo]
  exact⟨hk,by rw[h3];rfl⟩
 have e1:=adZ q C.ao
 have e2:=adZ (q % C.ao) (C.sz c)
 unfold Cs.pn at h1
 rw[h1]at e1
 rw[adq]at e1 e2
 omega
theorem xM{C:Cs}(F:Fix C){i c:Nat}(hc:c<C.ae.length)(tk:List Bool):(C.gk i c tk).Nodup:=by
 obtain⟨h1,_⟩:=F.sz hc
 unfold gk
 rw[List.Nodup,List.pairwise_map]
 have hr:((adJ tk.length).reverse).Pairwise (λa b:Nat=>a≠b):=by
  rw[List.pairwise_reverse]
  exact aeV.imp (λ{a b} h e=>h e.symm) (List.nodup_range (n:=tk.length))
 refine aeV.imp (λ{a b} h e=> ?_) (aeV.filter _ hr)
 have:a*C.sz c=b*C.sz c:=by omega
 exact h (Nat.eq_of_mul_eq_mul_right (by omega) this)
theorem yL{c:Nat}{y:Pg}(a:y.own=true)(b:y.cl=c):wq c y=y.held:=by unfold wq;rw[if_pos ⟨a,b⟩]
theorem B0{C:Cs}{c i:Nat}(hc:(C.pg i).cl=c){z:Nat}(e:C.pn z=i):z % C.ao/C.sz c=C.ix z:=by
 unfold Cs.ix Cs.cl;rw[e,hc]
theorem SP{C:Cs}(K:Ok C){i:Nat}(hi:i<C.n)(ho:(C.pg i).own=true){x:Pg}(hl:x.tk.length=(C.pg i).tk.length){q:Nat}(e:C.pn q=i)(N:Z1 C x (C.pg i).cl q):At C q∧C.cl q=(C.pg i).cl∧x.tk[C.ix q]?=some false:=by
 have t:=N.tk
 rw[B0 rfl e]at t
 have hcq:C.cl q=(C.pg i).cl:=by unfold Cs.cl;rw[e]
 have P:kY C (C.pg i):=K.pg _ (gg (by rw[K.pl];exact hi))
 refine⟨⟨by rw[e];exact hi,by rw[e];exact ho,by rw[hcq];exact N.al, ?_⟩,hcq,t⟩
 have:=(aad.1 t).1
 rw[hl,P.tl]at this
 rw[e];exact this
theorem NP (x:Pg)(tk:List Bool)(h:Nat)(g:List Nat)(hg:g.length=x.aZ.length):Kt x {x with tk:=tk,held:=h,aZ:=g}:=⟨rfl,rfl,hg⟩
theorem gq{C:Cs}(K:Ok C){p:Nat}(L:Live C p):Ok (C.bb p)∧zU C (C.bb p):=by
 have P:=K.uF L.i
 have iE:=(L.toAt.aX K).1
 have hs:=MS L.tk false
 have hh:=P.held
 rw[show bN false=0 from rfl,show bN true=1 from rfl]at hs
 have hT:=K.ft _ iE
 have hTl:(C.pg (C.pn p)).held≤(C.rw (C.cl p)).gm:=by
  have h1:=kx (wq (C.cl p)) (k8 (C:=C) (i:=C.pn p) (by rw[K.pl];exact L.i))
  rw[yL (c:=C.cl p) L.own rfl]at h1
  rw[hT];exact h1
 have hlen:(C.pg (C.pn p)).aZ.length=((C.pg (C.pn p)).aZ.set (C.ix p) ((C.gen p+1) % 4294967296)).length:=by simp
 have sT:∀q,q∈(C.rw (C.cl p)).free↔x6 C (C.cl p) q:=λq=>⟨K.fr _ q,λG=>K.fa _ q G iE⟩
 have hnp:p∉(C.rw (C.cl p)).free:=λh=>by
  have:=((sT p).1 h).tk
  rw[L.tk]at this;cases this
 refine⟨ri K L.i iE (λ_=>rfl) (λ_=>rfl) ⟨P.cl,λh=>by rw[←hlen];exact P.gl h,by simpa using P.tl, ?_,P.QR,P.nd,by dsimp only;omega,λh=>absurd (L.own.symm.trans h) (by simp)⟩ ?_ (λq=> ?_) ?_ rfl rfl rfl,tB (by rw[K.pl];exact L.i) (NP _ _ _ _ hlen.symm)⟩
 ·intro g hg
  rcases adH hg with h|rfl
  ·exact P.UD g h
  exact aed _ (by decide)
 ·dsimp only
  split
  ·exact K.fn _
  rw[adk]
  exact⟨K.fn _,by simp,λa ha b hb e=>hnp ((e.trans (aaA.1 hb))▸ha)⟩
 ·dsimp only
  have key:∀q,C.pn q=C.pn p→Z1 C {C.pg (C.pn p)with tk:=(C.pg (C.pn p)).tk.set (C.ix p) false,held:=(C.pg (C.pn p)).held-1,aZ:=(C.pg (C.pn p)).aZ.set (C.ix p) ((C.gen p+1) % 4294967296)} (C.cl p) q→(C.pg (C.pn p)).lv=false∧(q=p∨x6 C (C.cl p) q):=by
   intro q e N
   obtain⟨a,b,t⟩:=SP K L.i L.own (x:={C.pg (C.pn p)with tk:=(C.pg (C.pn p)).tk.set (C.ix p) false,held:=(C.pg (C.pn p)).held-1,aZ:=(C.pg (C.pn p)).aZ.set (C.ix p) ((C.gen p+1) % 4294967296)}) (by simp) e N
   refine⟨N.lv, ?_⟩
   by_cases ie:q=p
   ·exact .inl ie
   dsimp only at t
   rw[aaF (λz=>uz K L.toAt a e ie z.symm)]at t
   exact .inr ⟨a,b,by rw[e];exact t,by rw[e];exact N.lv⟩
  have back:∀q,C.pn q=C.pn p→(C.pg (C.pn p)).lv=false→(q=p∨x6 C (C.cl p) q)→Z1 C {C.pg (C.pn p)with tk:=(C.pg (C.pn p)).tk.set (C.ix p) false,held:=(C.pg (C.pn p)).held-1,aZ:=(C.pg (C.pn p)).aZ.set (C.ix p) ((C.gen p+1) % 4294967296)} (C.cl p) q:=by
   intro q e lL h
   have hk:C.ix p<(C.pg (C.pn p)).tk.length:=(aad.1 L.tk).1
   rcases h with rfl|G
   ·refine⟨L.own,L.al, ?_,lL⟩
    rw[B0 (c:=C.cl q) (i:=C.pn q) rfl rfl,aah hk]
   have a2:=((Gd K G.i).1 G).2
   refine⟨L.own,a2.al, ?_,lL⟩
   have ie:q≠p:=λz=>by
    have:=G.tk
    rw[z,L.tk]at this;cases this
   rw[B0 (c:=C.cl p) (i:=C.pn p) rfl e,aaF (λz=>uz K L.toAt G.toAt e ie z.symm),←e]
   exact G.tk
  by_cases lL:(C.pg (C.pn p)).lv=true
  ·rw[if_pos lL,sT]
   constructor
   ·intro G
    by_cases e:C.pn q=C.pn p
    ·have:=G.lv
     rw[e,lL]at this;cases this
    exact .inl ⟨G,e⟩
   rintro(⟨G,_⟩|⟨e,N⟩)
   ·exact G
   have:=(key q e N).1
   rw[lL]at this;cases this
  have hlv2:(C.pg (C.pn p)).lv=false:=by simpa using lL
  rw[if_neg lL,adP,sT,aaA]
  constructor
  ·intro h
   by_cases e:C.pn q=C.pn p
   ·exact .inr ⟨e,back q e hlv2 h.symm⟩
   rcases h with G|rfl
   ·exact .inl ⟨G,e⟩
   exact absurd rfl e
  rintro(⟨G,_⟩|⟨e,N⟩)
  ·exact .inl G
  exact((key q e N).2).symm
 have q1:=yL (c:=C.cl p) (y:=C.pg (C.pn p)) L.own rfl
 have q2:=yL (c:=C.cl p) (y:={C.pg (C.pn p)with tk:=(C.pg (C.pn p)).tk.set (C.ix p) false,held:=(C.pg (C.pn p)).held-1,aZ:=(C.pg (C.pn p)).aZ.set (C.ix p) ((C.gen p+1) % 4294967296)}) L.own rfl
 dsimp only at q1 q2⊢;omega
theorem HP{C:Cs}(K:Ok C){i:Nat}(hi:i<C.n)(ho:(C.pg i).own=true)(lL:(C.pg i).lv=false):Ok (C.lV i)∧zU C (C.lV i):=by
 have P:kY C (C.pg i):=K.pg _ (gg (by rw[K.pl];exact hi))
 have iE:=P.cl ho
 have hS:1≤(C.rw (C.pg i).cl).kQ:=by
  have h1:=kx (zQ (C.pg i).cl) (k8 (C:=C) (i:=i) (by rw[K.pl];exact hi))
  rw[K.fs _ iE]
  have:zQ (C.pg i).cl (C.pg i)=1:=by unfold zQ;rw[if_pos ⟨ho,rfl,lL⟩]
  rw[this]at h1;exact h1
 refine⟨ri K hi iE (λ_=>rfl) (λ_=>rfl) ⟨P.cl,P.gl,P.tl,P.UD,P.QR,P.nd,P.held,λh=>absurd (ho.symm.trans h) (by simp)⟩ ((K.fn _).filter _) (λq=> ?_) ?_ ?_ ?_ rfl,tB (by rw[K.pl];exact hi) ⟨rfl,rfl,rfl⟩⟩
 ·dsimp only
  rw[acA]
  constructor
  ·rintro⟨h1,h2⟩;exact .inl ⟨K.fr _ q h1,by simpa using h2⟩
  rintro(⟨G,e⟩|⟨_,N⟩)
  ·exact⟨K.fa _ q G iE,by simpa using e⟩
  have:=N.lv;cases this
 ·simp[wq,ho]
 ·simp[x4,ho]
 simp only[zQ,ho,lL]
 simp
 omega
theorem uZ{C:Cs}(K:Ok C){i:Nat}(hi:i<C.n)(ho:(C.pg i).own=true)(lL:(C.pg i).lv=true):Ok (C.kk i)∧zU C (C.kk i):=by
 have P:kY C (C.pg i):=K.pg _ (gg (by rw[K.pl];exact hi))
 have iE:=P.cl ho
 have ZN:(C.pg i).tk.length≤C.ao/C.sz (C.pg i).cl:=by rw[P.tl,P.gl ho];exact aan _
 have Ke:∀q∈(C.rw (C.pg i).cl).free,C.pn q≠i:=λq hq e=>by
  have:=(K.fr _ q hq).lv
  rw[e,lL]at this;cases this
 refine⟨ri K hi iE (λ_=>rfl) (λ_=>rfl) ⟨P.cl,P.gl,P.tl,P.UD,P.QR,P.nd,P.held,λh=>absurd (ho.symm.trans h) (by simp)⟩ ?_ (λq=> ?_) ?_ ?_ ?_ rfl,tB (by rw[K.pl];exact hi) ⟨rfl,rfl,rfl⟩⟩
 ·dsimp only
  rw[adk]
  refine⟨K.fn _,xM K.toFix iE _,λa ha b hb e=>Ke a ha ?_⟩
  rw[e];exact((nS K.toFix iE ZN b).1 hb).1
 ·dsimp only
  rw[adP,nS K.toFix iE ZN]
  constructor
  ·rintro(h|⟨h1,h2,h3⟩)
   ·exact .inl ⟨K.fr _ q h,Ke q h⟩
   exact .inr ⟨h1,ho,h2,h3,rfl⟩
  rintro(⟨G,_⟩|⟨h1,N⟩)
  ·exact .inl (K.fa _ q G iE)
  exact .inr ⟨h1,N.al,N.tk⟩
 ·simp[wq,ho]
 ·simp[x4,ho]
 simp only[zQ,ho,lL]
 simp
theorem SN{l:List (Nat×Nat)}(h:∀g∈l,g.2<4294967296)(k:Nat):zY l k<4294967296:=by
 unfold zY
 cases e:l.find? λe=>decide (e.1=k)with
 |none=>simp
 |some v=>simpa using h v (List.mem_of_find?_eq_some e)
theorem Zx (n:Nat):((aae n false).map bN).sum=0:=by
 induction n with
 |zero=>rfl
 |succ n ih=>simp[List.replicate_succ,bN]
theorem xh{C:Cs}(K:Ok C){i c:Nat}(hi:i<C.n)(iE:c<C.ae.length)(ho:(C.pg i).own=false):Ok (C.bm i c):=by
 have P:kY C (C.pg i):=K.pg _ (gg (by rw[K.pl];exact hi))
 obtain⟨q1,q2,q3⟩:=P.no ho
 have hh:=P.held
 have Kb:(C.pg i).tk= []:=aaw (by rw[P.tl,q1];rfl)
 rw[Kb]at hh
 simp only[List.map_nil,List.sum_nil]at hh
 have Ke:∀q∈(C.rw c).free,C.pn q≠i:=λq hq e=>by
  have:=(K.fr _ q hq).own
  rw[e,ho]at this;cases this
 have QB:1≤C.spare:=by
  have h1:=kx wz (k8 (C:=C) (i:=i) (by rw[K.pl];exact hi))
  rw[K.sp]
  have:wz (C.pg i)=1:=by unfold wz;rw[if_neg (by rw[ho];simp)]
  rw[this]at h1;exact h1
 have ZN:(aae (C.ao/C.sz c) false).length≤C.ao/C.sz c:=by simp
 refine ri K hi iE (λh=>absurd (ho.symm.trans h) (by simp)) (λ_=>rfl) ⟨λ_=>iE,λ_=>by simp[eL],by simp[eL], ?_,P.QR,P.nd, ?_,λh=>absurd h (by simp[eL])⟩ ?_ (λq=> ?_) ?_ ?_ ?_ ?_
 ·intro g hg
  simp only[eL,adi]at hg
  obtain⟨k,_,rfl⟩:=hg
  exact SN P.QR _
 ·show(C.pg i).held=_
  rw[hh];exact(Zx _).symm
 ·dsimp only
  rw[adk]
  refine⟨K.fn _,xM K.toFix iE _,λa ha b hb e=>Ke a ha ?_⟩
  rw[e];exact((nS K.toFix iE ZN b).1 hb).1
 ·dsimp only
  rw[adP,nS K.toFix iE ZN]
  constructor
  ·rintro(h|⟨h1,h2,h3⟩)
   ·exact .inl ⟨K.fr _ q h,Ke q h⟩
   exact .inr ⟨h1,rfl,h2,h3,q2⟩
  rintro(⟨G,_⟩|⟨h1,N⟩)
  ·exact .inl (K.fa _ q G iE)
  exact .inr ⟨h1,N.al,N.tk⟩
 ·simp[wq,ho,eL,hh]
 ·simp[x4,ho,eL]
 ·simp[zQ,ho,eL,q2]
 simp[wz,ho,eL];omega
theorem Nu{l:List (Nat×Nat)}{k g:Nat}{e:Nat×Nat}(h:e∈zV l k g):e∈l∨e=(k,g):=by
 unfold zV at h
 split at h
 ·obtain⟨p,hp,rfl⟩:=adi.1 h
  split
  ·exact .inr rfl
  exact .inl hp
 rcases adP.1 h with h|h
 ·exact .inl h
 exact .inr (aaA.1 h)
theorem G7 (l:List (Nat×Nat))(k g:Nat):(zV l k g).map (·.1)=if k∈l.map (·.1)then l.map (·.1)else l.map (·.1)++ [k]:=by
 unfold zV
 split
 ·rw[List.map_map]
  apply adT
  intro p _
  simp only[Function.comp]
  split
  ·rename_i e;exact e.symm
  rfl
 simp
theorem RI{l:List (Nat×Nat)}{k g:Nat}(h:(l.map (·.1)).Nodup):((zV l k g).map (·.1)).Nodup:=by
 rw[G7]
 split
 ·exact h
 rename_i hk
 rw[adk]
 exact⟨h,by simp,λa ha b hb e=>hk (by rw[aaA.1 hb]at e;rw[←e];exact ha)⟩
theorem SJ (C:Cs)(x:Pg)(h1:∀g∈x.aZ,g<4294967296)(h2:∀g∈x.old,g.2<4294967296)(h3:(x.old.map (·.1)).Nodup):(∀g∈C.Kp x,g.2<4294967296)∧((C.Kp x).map (·.1)).Nodup:=by
 unfold Kp
 have:∀(ks:List Nat) (l:List (Nat×Nat)),(∀g∈l,g.2<4294967296)→(l.map (·.1)).Nodup→(∀k∈ks,k<x.aZ.length)→
   (∀g∈ks.foldl (λl k=>zV l (k*C.sz x.cl) (x.aZ.getD k 0)) l,g.2<4294967296)∧((ks.foldl (λl k=>zV l (k*C.sz x.cl) (x.aZ.getD k 0)) l).map (·.1)).Nodup:=by
  intro ks
  induction ks with
  |nil=>intro l a b _;exact⟨a,b⟩
  |cons k ks ih=>
   intro l a b c
   rw[adl]
   refine ih _ (λg hg=> ?_) (RI b) λj hj=>c j (aag _ hj)
   rcases Nu hg with h|rfl
   ·exact a g h
   have hk:=c k (aai ..)
   dsimp only
   rw[aab,aac hk]
   exact h1 _ (aam _)
 exact this _ _ h2 h3 λk hk=>aeo.1 hk
theorem BG{C:Cs}(K:Ok C){i:Nat}(hi:i<C.n)(ho:(C.pg i).own=true)(lL:(C.pg i).lv=true)(hh:(C.pg i).held=0):Ok (C.eQ i):=by
 have P:kY C (C.pg i):=K.pg _ (gg (by rw[K.pl];exact hi))
 have iE:=P.cl ho
 obtain⟨o1,o2⟩:=SJ C (C.pg i) P.UD P.QR P.nd
 have hP:1≤(C.rw (C.pg i).cl).cP:=by
  have h1:=kx (x4 (C.pg i).cl) (k8 (C:=C) (i:=i) (by rw[K.pl];exact hi))
  rw[K.fp _ iE]
  have:x4 (C.pg i).cl (C.pg i)=1:=by unfold x4;rw[if_pos ⟨ho,rfl⟩]
  rw[this]at h1;exact h1
 have Ke:∀q∈(C.rw (C.pg i).cl).free,C.pn q≠i:=λq hq e=>by
  have:=(K.fr _ q hq).lv
  rw[e,lL]at this;cases this
 refine ri K hi iE (λ_=>rfl) (λh=>absurd h (by simp[Pg.no])) ⟨λh=>absurd h (by simp[Pg.no]),λh=>absurd h (by simp[Pg.no]),rfl,by simp[Pg.no],o1,o2,rfl,λ_=>⟨rfl,rfl,rfl⟩⟩ (K.fn _) (λq=> ?_) ?_ ?_ ?_ ?_
 ·dsimp only
  constructor
  ·intro h;exact .inl ⟨K.fr _ q h,Ke q h⟩
  rintro(⟨G,_⟩|⟨_,N⟩)
  ·exact K.fa _ q G iE
  have:=N.own;cases this
 ·simp[wq,ho,hh,Pg.no]
 ·simp[x4,ho,Pg.no];omega
 ·simp[zQ,ho,lL,Pg.no]
 simp[wz,ho,Pg.no]
end Cs
open Go Go.cV Go.Proofs.YtdolmecackmjdaaGreatDoor.Cs
def dn (C:Cs)(i c:Nat)(tk:List Bool):Nat→List Nat
 |0=> []
 |k+1=>(if tk[k]?=some false then [i*C.ao+k*C.sz c]else [])++dn C i c tk k
theorem Zh (C:Cs)(i c:Nat)(tk:List Bool)(n:Nat):(((adJ n).reverse.filter λk=>tk[k]?==some false).map λk=>i*C.ao+k*C.sz c)=dn C i c tk n:=by
 induction n with
 |zero=>rfl
 |succ n ih=>
  rw[afs,List.reverse_append,List.reverse_singleton,List.singleton_append,dn,List.filter_cons]
  by_cases h:tk[n]?=some false
  ·rw[if_pos (by rw[h];rfl),if_pos h,aao,ih];rfl
  rw[if_neg (by simpa using h),if_neg h,ih];rfl
theorem Zg (C:Cs)(i c:Nat)(tk:List Bool)(n:Nat):(dn C i c tk n).length≤n:=by
 induction n with
 |zero=>exact aan _
 |succ n ih=>rw[dn,aal];split<;>simp<;>omega
def ku (C:Cs)(i:Nat):Cs:=
 {C with rows:=C.rows.set (C.pg i).cl {C.rw (C.pg i).cl with kQ:=(C.rw (C.pg i).cl).kQ+1,free:=(C.rw (C.pg i).cl).free++C.gk i (C.pg i).cl (C.pg i).tk}}
theorem lF (l m:List Nat):ba (l++m)=ba l++ba m:=by simp[ba]
theorem jw (l:List Nat):(ba l).length=l.length:=by simp[ba]
theorem X1{α:Type}{f:α→aa}{L:List α}{F:dy}{H R:List aa}{x:α}{ad:Addr}{v:Value}(hx:x∈L)(hv:∀h,In (f x) h→dI h ad=some v)(s:eX H (aI (L.map f)) R):J2 F H (some ad) v:=
 ⟨_,rfl,λh _ aq=>hv h (qt (o3 s h aq) hx)⟩
theorem ab1{x:te}{tb k:Nat}{v:Value}(ht:x.tb=some tb)(hv:(r7 x.p.tk)[k]?=some v):∀h,In (mM x) h→dI h ⟨tb,k,none⟩=some v:=λh o=>by
 obtain⟨_,⟨j,q,l⟩,_⟩:=qs o
 rw[ht]at q
 exact cm l (eR q hv)
theorem UZ{C:Cs}{y:Lc}{F:dy}{H R:List aa}{c:Nat}(hc:c<C.ae.length)(s:eX H (nZ C y) R):J2 F H (some ⟨y.sa,c,none⟩) (.int .i64 (C.sz c:Int)):=
 ⟨_,rfl,λh _ aq=>jN (bB (o3 s h aq)) (jO (r9 hc))⟩
theorem Tw (b:Nat)(C:Cs)(y:Lc)(K:Fix C)(hy:gf C y)(i:Nat)(hi:i<C.n)(x:te)(tb:Nat)(x1:y.pl[i]?=some x)(ht:x.tb=some tb)(hc:(C.pg i).cl<C.ae.length)(ZN:(C.pg i).tk.length≤C.ao/C.sz (C.pg i).cl)
  (zF:(C.rw (C.pg i).cl).free.length≤1099511627776) (iU:(C.rw (C.pg i).cl).kQ≤1099511627776):
  aF aaa 215 [.pointer (some ⟨b,0,none⟩), .int .i64 (i:Int)] (λ_=>True) (oR b C y)
   (λv H=>v= .tuple #[]∧∃z,y.rl[(C.pg i).cl]?=some z∧∃a c,H=oR b (ku C i) {y with rl:=y.rl.set (C.pg i).cl ⟨(ku C i).rw (C.pg i).cl,a,c⟩}∧gf (ku C i) {y with rl:=y.rl.set (C.pg i).cl ⟨(ku C i).rw (C.pg i).cl,a,c⟩}):=by
 have f1:=K.p1
 have f2:=K.n1
 have hzs:=K.sz hc
 have hdv:=adO C.ao (C.sz (C.pg i).cl)
 have x2:x.p=C.pg i:=by
  have h1:=k8 (C:=C) (i:=i) (by rw[K.pl];exact hi)
  rw[←hy.pl,aap,x1]at h1
  exact Option.some.inj h1
 obtain⟨z,z1,z2⟩:∃z,y.rl[(C.pg i).cl]?=some z∧z.r=C.rw (C.pg i).cl:=by
  have h1:=UN (C:=C) (c:=(C.pg i).cl) (by rw[K.rl];exact hc)
  rw[←hy.rl,aap,Option.map_eq_some_iff]at h1
  exact h1
 have hjr:(ku C i).rw (C.pg i).cl={C.rw (C.pg i).cl with kQ:=(C.rw (C.pg i).cl).kQ+1,free:=(C.rw (C.pg i).cl).free++C.gk i (C.pg i).cl (C.pg i).tk}:=by
  have:=uL C (C.pg i).cl (C.pg i).cl {C.rw (C.pg i).cl with kQ:=(C.rw (C.pg i).cl).kQ+1,free:=(C.rw (C.pg i).cl).free++C.gk i (C.pg i).cl (C.pg i).tk} (by rw[K.rl];exact hc)
  rw[if_pos rfl]at this
  exact this
 rw[hjr]
 have hfi:C.gk i (C.pg i).cl (C.pg i).tk=dn C i (C.pg i).cl (C.pg i).tk (C.pg i).tk.length:=Zh C i _ _ _
 generalize fx:(C.pg i).cl=c at*
 generalize Kb:(C.pg i).tk=tk at*
 have k2:(y.pl.flatMap eA)[i*7+2]?=some (.int .i64 (c:Int)):=by
  have:=bj cx x1 (j:=2) rfl
  rw[x2,fx]at this;exact this
 have k4:(y.pl.flatMap eA)[i*7+4]?=some (.slice (some ⟨tb,0,none⟩) tk.length tk.length):=by
  have:=bj cx x1 (j:=4) rfl
  rw[ht,x2,Kb]at this;exact this
 have r3:(y.rl.flatMap eo)[c*4+3]?=some (.int .i64 ((C.rw c).kQ:Int)):=by
  have:=bj cu z1 (j:=3) rfl
  rw[z2]at this;exact this
 have hlen:c*4+4≤(y.rl.flatMap eo).length:=by
  rw[eP cu]
  have:=(aad.1 z1).1
  omega
 refine af func215 rfl ntmps215 rfl ?_
 intro F _
 unfold oR
 change G _ _ _ _ _ [ag b 136 (dz C y),nZ C y,ag y.pb 224 (y.pl.flatMap eA),aI (y.pl.map mM),ag y.rb 253 (y.rl.flatMap eo),aI (y.rl.map kh),ag y.a 192 (gG y.ab C.ao (C.n*C.ao)),ag y.ab 5 (di C.A (C.n*C.ao))]
 refine Hh (H':= [aI (y.rl.map kh),ag y.rb 253 (y.rl.flatMap eo),ag b 136 (dz C y),ag y.pb 224 (y.pl.flatMap eA),nZ C y,aI (y.pl.map mM),ag y.a 192 (gG y.ab C.ao (C.n*C.ao)),ag y.ab 5 (di C.A (C.n*C.ao))]) ?_
 refine az (λk s=>tT z1 s) ?_
 have hrz:kh z=own z.a z.c 3 1 (ba (C.rw c).free):=by unfold kh;rw[z2]
 rw[hrz]
 refine dg ?_
 refine aw ?_
 refine gT false T.mix ?_
 refine bW ?_
 refine bI ?_
 have e3:(y.rl.flatMap eo).set (c*4+3) (.int .i64 ((C.rw c).kQ+1:Int))=(y.rl.set c ⟨{C.rw c with kQ:=(C.rw c).kQ+1},z.a,z.c⟩).flatMap eo:=cq cu z1 (by unfold eo;rw[z2];rfl) (by decide)
 rw[e3]
 refine az (H':= [own z.a z.c 3 1 (ba ((C.rw c).free++ [])),aI ((y.rl.eraseIdx c).map kh),ag y.rb 253 ((y.rl.set c ⟨⟨(C.rw c).free++ [],(C.rw c).gm,(C.rw c).cP,(C.rw c).kQ+1⟩,z.a,z.c⟩).flatMap eo),ag b 136 (dz C y),ag y.pb 224 (y.pl.flatMap eA),nZ C y,aI (y.pl.map mM),ag y.a 192 (gG y.ab C.ao (C.n*C.ao)),ag y.ab 5 (di C.A (C.n*C.ao))]) (by rw[adR];exact Eh) ?_
 refine Lo (ι:=Nat×List Nat×Option Addr×Nat) [35,36,39,40,41,42,43,44,45,46,47,48,49,50,51,52,53,54,55,56,57,58,59,60,61,62,63,64,65,66,67,68,69,70,71,72,73,74,75,37,38,6] (λ(j,pre,a,cc)=>j≤tk.length∧pre++dn C i c tk j=dn C i c tk tk.length) (λ(j,pre,a,cc)=> [(6, .int .i64 ((j:Int)-1))]) (λ(j,pre,a,cc)=> [own a cc 3 1 (ba ((C.rw c).free++pre)),aI ((y.rl.eraseIdx c).map kh),ag y.rb 253 ((y.rl.set c ⟨⟨(C.rw c).free++pre,(C.rw c).gm,(C.rw c).cP,(C.rw c).kQ+1⟩,a,cc⟩).flatMap eo),ag b 136 (dz C y),ag y.pb 224 (y.pl.flatMap eA),nZ C y,aI (y.pl.map mM),ag y.a 192 (gG y.ab C.ao (C.n*C.ao)),ag y.ab 5 (di C.A (C.n*C.ao))]) (λ(j,pre,a,cc)=>j) ((tk.length,[],z.a,z.c)) ⟨aan _,rfl⟩ ?_
 rintro⟨j,pre,a,cc⟩ ⟨hj,ic⟩
 try dsimp only at hI⊢
 dsimp only at hj ic⊢
 refine br ?_
 refine ax rfl ?_ ?_
 ·intro hk
  replace hk:=aL hk
  obtain⟨k,rfl⟩:∃k,j=k+1:=⟨j-1,by omega⟩
  have et:tk[k]?=some (tk[k]'(by omega)):=aac _
  have pO:k<tk.length:=by omega
  generalize tk[k]'(by omega)=t at et
  have ZL:=aaf x1
  refine ay (t:=6) (v':=(.int .i64 (k:Int))) rfl (by refine congrArg (Value.int .i64) ?_;omega) ?_
  refine bI ?_
  refine Lp (oL T.aaR ?_ (hk:=X1 ZL (ab1 ht (DC (by rw[x2,Kb];exact et))) (by repeat (first|exact eX.here|apply eX.there))))
  refine bf ?_
  have hkz:k*C.sz c≤1048576*1048576:=adE (by omega) (by omega)
  have hip:i*C.ao≤1024*1048576:=adE (by omega) f1
  refine ax rfl ?_ ?_
  ·intro hq
   replace hq:=aL hq
   obtain rfl:t=false:=by simpa using hq
   have hlr:(C.rw c).free.length+pre.length+1≤2199023255552:=by
    have h1:=congrArg List.length ic
    rw[aal]at h1
    have h2:=Zg C i c tk tk.length
    omega
   have r0:((y.rl.set c ⟨⟨(C.rw c).free++pre,(C.rw c).gm,(C.rw c).cP,(C.rw c).kQ+1⟩,a,cc⟩).flatMap eo)[c*4]?=some (.slice a ((C.rw c).free++pre).length cc):=bj cu (j:=0) (aah (aad.1 z1).1) rfl
   have hl4:c*4<((y.rl.set c ⟨⟨(C.rw c).free++pre,(C.rw c).gm,(C.rw c).cP,(C.rw c).kQ+1⟩,a,cc⟩).flatMap eo).length:=by rw[eP cu,aaj];rw[eP cu]at hlen;omega
   refine ik 27 T.mix (.cons (.there (.there .here)) (.cons (.there (.there .here)) (.cons (.there (.there .here)) (.cons (.there (.there .here)) .nil)))) λF1 je bR aM=> ?_
   obtain⟨q1,q2,q3,q4,_⟩:=bR
   have kz:=jN (bB q4) (jO (r9 hc))
   refine bI ?_
   refine Ti (MuN) ?_
   refine bI ?_
   refine Ti (MuN) ?_
   refine Ti (AdN) ?_
   refine Tp (oT T.jg λb1=> ?_)
   refine Tp (cC T.jg T.wZ rfl rfl rfl rfl .here (by rw[jw,aeM]) (rfl) (by simp[Value.oneCell']) (by rw[aal];omega) (by rw[aal];omega) rfl λa1 c1 h1=> ?_)
   refine gO aM ?_
   refine bA ?_
   refine aG ?_
   have e5:ba ((C.rw c).free++pre)++ [Value.int .i64 ((i*C.ao+k*C.sz c:Nat):Int)]=ba ((C.rw c).free++(pre++ [i*C.ao+k*C.sz c])):=by rw[←adp,lF _ [_]];rfl
   have e4:((y.rl.set c ⟨⟨(C.rw c).free++pre,(C.rw c).gm,(C.rw c).cP,(C.rw c).kQ+1⟩,a,cc⟩).flatMap eo).set (c*4+0) (.slice a1 (((C.rw c).free++pre).length+1) c1)=(y.rl.set c ⟨⟨(C.rw c).free++(pre++ [i*C.ao+k*C.sz c]),(C.rw c).gm,(C.rw c).cP,(C.rw c).kQ+1⟩,a1,c1⟩).flatMap eo:=by
    have:=cq (j:=0) (v:= .slice a1 (((C.rw c).free++pre).length+1) c1) (a':=⟨⟨(C.rw c).free++(pre++ [i*C.ao+k*C.sz c]),(C.rw c).gm,(C.rw c).cP,(C.rw c).kQ+1⟩,a1,c1⟩) cu (aah (a:=(⟨⟨(C.rw c).free++pre,(C.rw c).gm,(C.rw c).cP,(C.rw c).kQ+1⟩,a,cc⟩:Cz)) (aad.1 z1).1) (by simp[eo];omega) (by decide)
    rw[adw]at this
    exact this
   rw[e4,e5]
   refine Ro ((k,pre++ [i*C.ao+k*C.sz c],a1,c1)) (⟨by dsimp only;omega,by dsimp only;rw[←ic,dn,if_pos et,adp]⟩) ((by dsimp only;omega))
  intro hq
  replace hq:=aL hq
  obtain rfl:t=true:=by simpa using hq
  refine bL ?_
  refine aG ?_
  refine Ro ((k,pre,a,cc)) (⟨by dsimp only;omega,by dsimp only;rw[←ic,dn,if_neg (by rw[et];simp)];rfl⟩) ((by dsimp only;omega))
 intro hk
 replace hk:=aL hk
 obtain rfl:j=0:=by omega
 rw[dn,adR]at ic
 subst ic
 rw[hfi]
 refine aW ?_
 refine az (λk s=>yM (f:=kh) z1 ⟨⟨(C.rw c).free++dn C i c tk tk.length,(C.rw c).gm,(C.rw c).cP,(C.rw c).kQ+1⟩,a,cc⟩ s) ?_
 refine jA [ag b 136 (dz C y),nZ C y,ag y.pb 224 (y.pl.flatMap eA),aI (y.pl.map mM),ag y.rb 253 ((y.rl.set c ⟨⟨(C.rw c).free++dn C i c tk tk.length,(C.rw c).gm,(C.rw c).cP,(C.rw c).kQ+1⟩,a,cc⟩).flatMap eo),aI ((y.rl.set c ⟨⟨(C.rw c).free++dn C i c tk tk.length,(C.rw c).gm,(C.rw c).cP,(C.rw c).kQ+1⟩,a,cc⟩).map kh),ag y.a 192 (gG y.ab C.ao (C.n*C.ao)),ag y.ab 5 (di C.A (C.n*C.ao))] results215 ?_
 refine⟨rfl,z,z1,a,cc,rfl,hy.pl, ?_,hy.pk,hy.ao,hy.cP⟩
 show List.map _ _=(ku C i).rows
 unfold ku
 rw[adF,hy.rl,fx,Kb,hfi]
theorem oQlO{P:Program}{n:Nat}{ds:List Deferred}{F:dy}{Q:Exit→Act→World→Prop}{K:Act→World→Prop}{σ:aR}{H:List aa}{o:Oper}{d:Nat}{t k e:TypeId}{z:Value}{m x:Operand}{b:Option Nat}{es:List (Value×Value)}{kv:Value}{R:List aa}
  (ht:wC P t=some (k, .int .i64,e,z)) (h:G n ds F K ((d,(qQ es kv).getD z)::σ) H) (he:b=none→es= []) (ho:o.op= .lookup t m x false:=by exact rfl) (hd:o.dst=some d:=by exact rfl)
  (hm:bh σ m=some (.map b):=by exact rfl) (hx:bh σ x=some kv:=by exact rfl) (hk:Qy (.int .i64) kv=true:=by exact rfl) (hs:eX H (Ch b es) R:=by repeat (first|exact eX.here|apply eX.there)) (hdn:Nat.blt d n=true:=by exact rfl):G n ds F (λa w=>o.wp P a w K Q) σ H:=by
 cases b with
 |some b=>exact oQl (b:=b) (es:=es) ht h ho hd hm hx hk hs hdn
 |none=>
  refine o6 hd hdn (λa w en s=> ?_) h
  obtain⟨QA,zN,i,hi,hz⟩:=nQ ht
  have:qQ es kv=none:=by rw[he rfl];exact AV λe h=>by cases h
  rw[this]
  simp[execOp,ho,en.eval hm,en.eval hx,Instr.lookup,run_underlying QA,MapKept.run_checkKey zN (gW hk),MapKept.run_findKey zN (show Instr.findNow (.int .i64) kv [] 0=some none from rfl),zeroValue,typeInfo,hi,hz,Result.andThen]
theorem SG{l:List (Nat×Nat)}(k:Nat):(qQ (mP l) (.int .i64 (k:Int))).getD (.int .u32 0)= .int .u32 ((zY l k:Nat):Int):=by
 classical
 unfold qQ mP zY
 induction l with
 |nil=>rfl
 |cons p l ih=>
  rw[aao,afv,afv]
  by_cases h:p.1=k
  ·subst h;simp
  have h1:¬((Value.int .i64 (p.1:Int),Value.int .u32 (p.2:Int)):Value×Value).1= .int .i64 (k:Int):=by simp;omega
  rw[decide_eq_false h1,decide_eq_false h]
  exact ih
theorem CP (n:Nat):fJ [.int .u32 0] (n*1)=aC (aae n 0):=by rw[nj,aeM];simp[aC]
theorem Ku (n:Nat):fJ [.bool false] (n*1)=r7 (aae n false):=by rw[nj,aeM];simp[r7]
theorem Ax (l:List Nat)(k g:Nat):(aC l).set k (.int .u32 (g:Int))=aC (l.set k g):=by unfold aC;rw[adF]
theorem jM (l:List Nat):(aC l).length=l.length:=by simp[aC]
theorem Gw (l:List Bool):(r7 l).length=l.length:=by simp[r7]
theorem BR{C:Cs}(h:∀j,j<C.bZ.length→(C.pg j).own=true):C.fu=none:=by
 unfold fu
 rw[adV]
 intro x hx
 obtain⟨j,hj⟩:=aez hx
 have hl:=(aad.1 hj).1
 have:=h j hl
 rw[k8 hl]at hj
 cases hj
 simp[this]
theorem BQ{C:Cs}{i:Nat}(hi:i<C.bZ.length)(ho:(C.pg i).own=false)(h:∀j,j<i→(C.pg j).own=true):C.fu=some i:=by
 unfold fu
 rw[aav]
 have e:∀j (hj:j<C.bZ.length),C.bZ[j]=C.pg j:=λj hj=>by
  have:=k8 (C:=C) hj
  rw[aac hj]at this
  exact Option.some.inj this
 refine⟨hi,by rw[e];simp[ho],λj hj=> ?_⟩
 rw[e j (by omega),h j hj];simp
theorem LG:∀(N:Nat) (l:List Nat),l.Nodup→(∀x∈l,x<N)→l.length≤N
 |0,l,_,h=>by
  cases l with
  |nil=>exact aan _
  |cons a l=>exact absurd (h a (aai ..)) (by omega)
 |N+1,l,hn,h=>by
  have h1:=LG N (l.erase N) (hn.erase N) (λx hx=>by
   have h2:=(List.Nodup.mem_erase_iff hn).1 hx
   have:=h x h2.2
   have:=h2.1
   omega)
  have:=List.length_erase (a:=N) (l:=l)
  split at this<;>omega
theorem vy{C:Cs}(K:Ok C)(c:Nat):(C.rw c).free.length≤1073741824:=by
 have h:=LG (C.n*C.ao) _ (K.fn c) (λp hp=>by
  have:=((K.fr c p hp).toAt.aX K)
  omega)
 have:=fC K.toFix
 omega
theorem Nn (b:Nat)(C:Cs)(y:Lc)(K:Ok C)(hy:gf C y)(c:Nat)(hc:c<C.ae.length):aF aaa 156 [.pointer (some ⟨b,0,none⟩), .int .i64 (c:Int)] (λ_=>True) (oR b C y)
  (λv H=>match C.fu with
   |none=>v= .bool false∧H=oR b C y
   |some i=>v= .bool true∧∃Y,gf (C.bm i c) Y∧Y.rb=y.rb∧H=oR b (C.bm i c) Y):=by
 have f1:=K.toFix.p1
 have f2:=K.toFix.n1
 have hzs:=K.toFix.sz hc
 have hdv:=adO C.ao (C.sz c)
 obtain⟨l1,l2⟩:=K.le
 refine af func156 rfl ntmps156 rfl ?_
 intro F _
 change G _ _ _ _ _ [ag b 136 (dz C y),nZ C y,ag y.pb 224 (y.pl.flatMap eA),aI (y.pl.map mM),ag y.rb 253 (y.rl.flatMap eo),aI (y.rl.map kh),ag y.a 192 (gG y.ab C.ao (C.n*C.ao)),ag y.ab 5 (di C.A (C.n*C.ao))]
 refine gP ?_
 refine Lo (ι:=Nat) [15,16,5,17,18,19,20,21,22,6,23,24,25,26,27,28,29,30,31,32,33,34,35,36,37,38,39,7,40,41,42,43,44,45,46,47,48,49,50,51,52,53,54,55,56,57,58,59,60,61,62,63,64,8,65,66,67,68,69,70,71,72,73,74,75,76,77,78,79,80,81,82,83,84,85,86,87,88,89,90,91,92,93,94,95,96,97,98,99,100,101,102,103,104,105,106,4,107,14] (λk=>k≤C.n∧∀j,j<k→(C.pg j).own=true) (λk=> [(14, .int .i64 (k:Int))]) (λk=> [ag b 136 (dz C y),nZ C y,ag y.pb 224 (y.pl.flatMap eA),aI (y.pl.map mM),ag y.rb 253 (y.rl.flatMap eo),aI (y.rl.map kh),ag y.a 192 (gG y.ab C.ao (C.n*C.ao)),ag y.ab 5 (di C.A (C.n*C.ao))]) (λk=>C.n-k) (0) ⟨aay _,λj hj=>absurd hj (aev j)⟩ ?_
 rintro k ⟨hk0,pZ⟩
 refine bq ?_
 refine aw ?_
 refine ax rfl ?_ ?_
 ·intro hk
  replace hk:=aL hk
  have cB:k<C.n:=by omega
  obtain⟨x,x1,x2,x3⟩:=tR K hy cB
  have k0:(y.pl.flatMap eA)[k*7]?=some (.bool (C.pg k).own):=by
   have:=bj cx x1 (j:=0) rfl
   rw[x2]at this;exact this
  refine bW ?_
  refine aW ?_
  refine ax rfl ?_ ?_
  ·intro ho
   replace ho:=aL ho
   refine bL ?_
   refine aG ?_
   refine Ro (k+1) (⟨by omega,λj hj=> ?_⟩) (by omega)
   by_cases QD:j=k
   ·subst QD;exact ho
   exact pZ j (by omega)
  intro ho
  replace ho:=aL ho
  have P:kY C (C.pg k):=K.pg _ (gg (by rw[K.pl];exact cB))
  obtain⟨p1,p2,p3⟩:=P.no ho
  have p4:(C.pg k).tk= []:=aaw (by rw[P.tl,p1];rfl)
  have zE:x.gb=none:=by have:=x3.g;rw[x2,ho]at this;simpa using this
  have zC:x.tb=none:=by have:=x3.t;rw[x2,ho]at this;simpa using this
  have hxo:x.ob=none→mP (C.pg k).old= []:=λh=>by rw[←x2,x3.o h];rfl
  have hfp:=BQ (C:=C) (by rw[K.pl];exact cB) ho pZ
  have hpgx:eA x= [.bool false, .bool false, .int .i64 0, .slice none 0 0, .slice none 0 0, .int .i64 ((C.pg k).held:Int), .map x.ob]:=by
   unfold eA
   rw[zE,zC,x2,ho,p2,p3];rfl
  rw[hfp]
  refine Hh (H':= [aI (y.pl.map mM),ag y.pb 224 (y.pl.flatMap eA),nZ C y,ag b 136 (dz C y),ag y.rb 253 (y.rl.flatMap eo),aI (y.rl.map kh),ag y.a 192 (gG y.ab C.ao (C.n*C.ao)),ag y.ab 5 (di C.A (C.n*C.ao))]) ?_
  refine az (λ_ s=>tT x1 s) ?_
  refine tK ?_
  rw[zE,zC,x2]
  refine Hh (H':= [Ch x.ob (mP (C.pg k).old),aI ((y.pl.eraseIdx k).map mM),ag y.pb 224 (y.pl.flatMap eA),nZ C y,ag b 136 (dz C y),ag y.rb 253 (y.rl.flatMap eo),aI (y.rl.map kh),ag y.a 192 (gG y.ab C.ao (C.n*C.ao)),ag y.ab 5 (di C.A (C.n*C.ao))]) ?_
  have hl7:k*7+7≤(y.pl.flatMap eA).length:=by
   rw[eP cx]
   have:=(aad.1 x1).1
   omega
  obtain⟨m,hm⟩:∃m,m=C.ao/C.sz c:=⟨_,rfl⟩
  obtain⟨gs,hgs⟩:∃gs,gs=(adJ m).map λk'=>zY (C.pg k).old (k'*C.sz c):=⟨_,rfl⟩
  have e2:((y.pl.flatMap eA).set (k*7+0) (.bool true)).set (k*7+2) (.int .i64 (c:Int))=(y.pl.set k ⟨{C.pg k with own:=true,cl:=c},none,none,x.ob⟩).flatMap eA:=by
   have h1:=cq (j:=0) (v:= .bool true) (a':=(⟨{C.pg k with own:=true},none,none,x.ob⟩:te)) cx x1 (by rw[hpgx];unfold eA;dsimp only;rw[p2,p3];rfl) (by decide)
   have h2:=cq (j:=2) (v:= .int .i64 (c:Int)) (a':=(⟨{C.pg k with own:=true,cl:=c},none,none,x.ob⟩:te)) cx (aah (a:=(⟨{C.pg k with own:=true},none,none,x.ob⟩:te)) (aad.1 x1).1) (by unfold eA;dsimp only;rfl) (by decide)
   rw[h1,h2,adw]
  have e8:∀gb tb:Nat,(((y.pl.set k ⟨{C.pg k with own:=true,cl:=c},none,none,x.ob⟩).flatMap eA).set (k*7+3) (.slice (some ⟨gb,0,none⟩) m m)).set (k*7+4) (.slice (some ⟨tb,0,none⟩) m m)=(y.pl.set k ⟨{C.pg k with own:=true,cl:=c,aZ:=gs,tk:=aae m false},some gb,some tb,x.ob⟩).flatMap eA:=by
   intro gb tb
   have hk7:=(aad.1 x1).1
   have h1:=cq (l:=y.pl.set k ⟨{C.pg k with own:=true,cl:=c},none,none,x.ob⟩) (i:=k) (j:=3) (v:= .slice (some ⟨gb,0,none⟩) m m) (a':=(⟨{C.pg k with own:=true,cl:=c,aZ:=gs},some gb,none,x.ob⟩:te)) cx (aah (a:=(⟨{C.pg k with own:=true,cl:=c},none,none,x.ob⟩:te)) hk7) (by unfold eA;dsimp only;rw[hgs,aax,ad9];rfl) (by decide)
   have h2:=cq (l:=(y.pl.set k ⟨{C.pg k with own:=true,cl:=c},none,none,x.ob⟩).set k ⟨{C.pg k with own:=true,cl:=c,aZ:=gs},some gb,none,x.ob⟩) (i:=k) (j:=4) (v:= .slice (some ⟨tb,0,none⟩) m m) (a':=(⟨{C.pg k with own:=true,cl:=c,aZ:=gs,tk:=aae m false},some gb,some tb,x.ob⟩:te)) cx (aah (a:=(⟨{C.pg k with own:=true,cl:=c,aZ:=gs},some gb,none,x.ob⟩:te)) (by simpa using hk7)) (by unfold eA;dsimp only;rw[ado];rfl) (by decide)
   rw[h1,h2,adw,adw]
  generalize iE:y.pl.flatMap eA=cs at*
  refine bf ?_
  refine aw ?_
  refine gT false T.mix ?_
  refine bI ?_
  refine Tp (oL T.dD ?_ (hk:=UZ hc (by repeat (first|exact eX.here|apply eX.there))))
  refine Ti (Qu) ?_
  refine gP ?_
  refine aw ?_
  rw[←hm,e2]
  have hl8:k*7+7≤((y.pl.set k ⟨{C.pg k with own:=true,cl:=c},none,none,x.ob⟩).flatMap eA).length:=by
   rw[eP cx,aaj]
   have:=(aad.1 x1).1
   omega
  generalize hds:(y.pl.set k ⟨{C.pg k with own:=true,cl:=c},none,none,x.ob⟩).flatMap eA=dc at*
  refine dJ (ι:=Nat×Nat) [47,48,49,50,51,52,53,54,55,56] (λ(gb,tb)=>True) (λ(gb,tb)=> []) (λ(gb,tb)=> [ag gb 163 (aC (aae m 0)),ag tb 4 (r7 (aae m false)),Ch x.ob (mP (C.pg k).old),aI ((y.pl.eraseIdx k).map mM),ag y.pb 224 ((dc.set (k*7+3) (.slice (some ⟨gb,0,none⟩) m m)).set (k*7+4) (.slice (some ⟨tb,0,none⟩) m m)),nZ C y,ag b 136 (dz C y),ag y.rb 253 (y.rl.flatMap eo),aI (y.rl.map kh),ag y.a 192 (gG y.ab C.ao (C.n*C.ao)),ag y.ab 5 (di C.A (C.n*C.ao))]) ?_ ?_
  ·refine Aj T.mix .nil λF1 je bR aM=> ?_
   refine Dt 0 rfl Mv ?_
   refine Dt 1 rfl Mv ?_
   refine Dt 2 rfl Mv ?_
   refine Dt 4 rfl Mv ?_
   refine D2 3 5 ?_ ?_
   ·refine Do rfl (oM (m) (m) T.yO λb1=> ?_)
    refine aA ?_
    refine Dt 6 rfl Nc ?_
    refine Dt 7 rfl (Fa T.rR) ?_
    refine D2 5 8 ?_ ?_
    ·refine Do rfl (oM (m) (m) T.DE λb2=> ?_)
     refine aA ?_
     refine Dn 8 ?_
     refine Do rfl (oS T.yq ?_)
     refine aA ?_
     refine Dt 9 rfl Nc ?_
     refine Dt 10 rfl (Fa T.nV) ?_
     refine Dn 11 ?_
     refine Do rfl (oS T.yp ?_)
     refine aA ?_
     refine bw (by kernel_rfl) aM ?_
     rw[CP,Ku]
     refine Me ((b1,b2)) (trivial)
    refine Do rfl (oS T.yq ?_)
    refine aA ?_
    refine Dn 5 ?_
    refine Do rfl (oM (m) (m) T.DE λb3=> ?_)
    refine aA ?_
    refine Dt 9 rfl Nc ?_
    refine Dt 10 rfl (Fa T.nV) ?_
    refine Dn 11 ?_
    refine Do rfl (oS T.yp ?_)
    refine aA ?_
    refine bw (by kernel_rfl) aM ?_
    rw[CP,Ku]
    refine Me ((b1,b3)) (trivial)
   refine Do rfl (oM (m) (m) T.DE λb4=> ?_)
   refine aA ?_
   refine Dn 3 ?_
   refine Do rfl (oM (m) (m) T.yO λb5=> ?_)
   refine aA ?_
   refine Dt 6 rfl Nc ?_
   refine Dt 7 rfl (Fa T.rR) ?_
   refine Dn 8 ?_
   refine Do rfl (oS T.yq ?_)
   refine aA ?_
   refine Dt 9 rfl Nc ?_
   refine Dt 10 rfl (Fa T.nV) ?_
   refine Dn 11 ?_
   refine Do rfl (oS T.yp ?_)
   refine aA ?_
   refine bw (by kernel_rfl) aM ?_
   rw[CP,Ku]
   refine Me ((b5,b4)) (trivial)
  rintro⟨gb,tb⟩ hI
  try dsimp only at hI⊢
  rw[e8 gb tb]
  have hk7:=(aad.1 x1).1
  have n1:(y.pl.set k ⟨{C.pg k with own:=true,cl:=c,aZ:=gs,tk:=aae m false},some gb,some tb,x.ob⟩)[k]?=some (⟨{C.pg k with own:=true,cl:=c,aZ:=gs,tk:=aae m false},some gb,some tb,x.ob⟩:te):=aah hk7
  have hgl:gs.length=m:=by rw[hgs];simp
  have k3:((y.pl.set k ⟨{C.pg k with own:=true,cl:=c,aZ:=gs,tk:=aae m false},some gb,some tb,x.ob⟩).flatMap eA)[k*7+3]?=some (.slice (some ⟨gb,0,none⟩) m m):=by
   have:=bj cx n1 (j:=3) (v:= .slice (some ⟨gb,0,none⟩) gs.length gs.length) rfl
   rw[hgl]at this;exact this
  have k6:((y.pl.set k ⟨{C.pg k with own:=true,cl:=c,aZ:=gs,tk:=aae m false},some gb,some tb,x.ob⟩).flatMap eA)[k*7+6]?=some (.map x.ob):=bj cx n1 (j:=6) rfl
  generalize UA:(y.pl.set k ⟨{C.pg k with own:=true,cl:=c,aZ:=gs,tk:=aae m false},some gb,some tb,x.ob⟩).flatMap eA=es at*
  refine bA ?_
  refine Lo (ι:=Nat×List Nat) [63,64,8,65,66,67,68,69,70,71,72,73,74,75,76,77,78,79,80,81,82,83,84,85,62] (λ(j,L)=>j≤m∧L.length=m∧∀i,i<j→L[i]?=gs[i]?) (λ(j,L)=> [(62, .int .i64 (j:Int))]) (λ(j,L)=> [ag gb 163 (aC L),ag tb 4 (r7 (aae m false)),Ch x.ob (mP (C.pg k).old),aI ((y.pl.eraseIdx k).map mM),ag y.pb 224 es,nZ C y,ag b 136 (dz C y),ag y.rb 253 (y.rl.flatMap eo),aI (y.rl.map kh),ag y.a 192 (gG y.ab C.ao (C.n*C.ao)),ag y.ab 5 (di C.A (C.n*C.ao))]) (λ(j,L)=>m-j) ((0,aae m 0)) ⟨aay _,by simp,λi hi=>absurd hi (aev i)⟩ ?_
  rintro⟨j,L⟩ ⟨hj0,hL,jG⟩
  try dsimp only at hI⊢
  try dsimp only at hj0 hL jG⊢
  refine bq ?_
  refine aw ?_
  refine ax rfl ?_ ?_
  ·intro hj
   replace hj:=aL hj
   have hjm:j<m:=by omega
   have hjz:j*C.sz c≤1048576*1048576:=adE (by omega) (by omega)
   have hlL:j<(aC L).length:=by rw[jM];omega
   refine dh ?_
   refine ik 20 T.mix (.cons (.there (.there (.there (.there .here)))) (.cons (.there (.there (.there (.there .here)))) (.cons (.there (.there (.there (.there .here)))) .nil))) λF2 zM eG ez=> ?_
   obtain⟨q4,q5,q6,_⟩:=eG
   have kz:=jN (bB q5) (jO (r9 hc))
   refine mI ?_
   refine Ti (MuN) ?_
   refine Tp (oQlO T.XQ ?_ hxo)
   refine ay (t:=83) (v':=(.int .u32 ((zY (C.pg k).old (j*C.sz c):Nat):Int))) rfl (by exact SG _) ?_
   refine aA ?_
   refine gO ez ?_
   refine bL ?_
   refine aG ?_
   rw[Ax]
   refine Ro ((j+1,L.set j (zY (C.pg k).old (j*C.sz c)))) (⟨by dsimp only;omega,by rw[aaj];exact hL,λi hi=> ?_⟩) ((by dsimp only;omega))
   by_cases Uy:i=j
   ·subst Uy
    rw[aah (by omega),hgs,aap,List.getElem?_range (by omega)];rfl
   rw[aaF (λq=>Uy q.symm)]
   exact jG i (by dsimp only at hi;omega)
  intro hj
  replace hj:=aL hj
  obtain rfl:j=m:=by omega
  obtain rfl:L=gs:=by
   apply List.ext_getElem?
   intro i
   by_cases hi:i<j
   ·exact jG i hi
   rw[aat (by omega),aat (by omega)]
  clear jG hj
  have hW:C.eL k c={C.pg k with own:=true,cl:=c,aZ:=L,tk:=aae j false}:=by unfold eL;rw[←hm,←hgs]
  rw[←hW]at n1 UA
  obtain⟨z,z1,z2⟩:=uR K hy hc
  have EH:c<C.rows.length:=by rw[K.rl];exact hc
  have r2:(y.rl.flatMap eo)[c*4+2]?=some (.int .i64 ((C.rw c).cP:Int)):=by
   have:=bj cu z1 (j:=2) rfl
   rw[z2]at this;exact this
  have l3:=l2 c hc
  have hl4:c*4+4≤(y.rl.flatMap eo).length:=by
   rw[eP cu]
   have:=(aad.1 z1).1
   omega
  obtain⟨D,hD⟩:∃D:Cs,D={C with bZ:=C.bZ.set k (C.eL k c),rows:=C.rows.set c {C.rw c with cP:=(C.rw c).cP+1}}:=⟨_,rfl⟩
  obtain⟨y2,GG⟩:∃y2:Lc,y2={y with pl:=y.pl.set k ⟨C.eL k c,some gb,some tb,x.ob⟩,rl:=y.rl.set c ⟨{C.rw c with cP:=(C.rw c).cP+1},z.a,z.c⟩}:=⟨_,rfl⟩
  have Us:(y.rl.flatMap eo).set (c*4+2) (.int .i64 ((C.rw c).cP+1:Int))=y2.rl.flatMap eo:=by
   rw[GG]
   exact cq cu z1 (by unfold eo;rw[z2];rfl) (by decide)
  have hDp:D.pg k=C.eL k c:=by
   have:=C1 C k k (C.eL k c) (by rw[K.pl];exact cB)
   rw[if_pos rfl]at this
   rw[hD];exact this
  have hDr:D.rw c={C.rw c with cP:=(C.rw c).cP+1}:=by
   have:=uL C c c {C.rw c with cP:=(C.rw c).cP+1} EH
   rw[if_pos rfl]at this
   rw[hD];exact this
  have hDF:Fix D:=by rw[hD];exact⟨K.p0,K.p1,K.p8,K.n0,K.n1,K.l0,K.l1,K.s0,by simp[K.pl],by simp[K.rl]⟩
  have hDy:gf D y2:=by
   rw[hD,GG]
   refine⟨by rw[adF,hy.pl],by rw[adF,hy.rl],λu hu=> ?_,hy.ao,hy.cP⟩
   rcases adH hu with h|rfl
   ·exact hy.pk u h
   exact⟨rfl,rfl,λh=>by have:=x3.o h;rw[x2]at this;exact this⟩
  have fx:(D.pg k).cl=c:=by rw[hDp];rfl
  have J:=Tw b D y2 hDF hDy k (by rw[hD];exact cB) ⟨C.eL k c,some gb,some tb,x.ob⟩ tb (by rw[GG];exact aah hk7) rfl (by rw[fx,hD];exact hc) (by rw[fx,hDp,hD,hW];simp[hm];exact aan _) (by rw[fx,hDr];have:=vy K c;dsimp only;omega) (by rw[fx,hDr];dsimp only;omega)
  rw[fx]at J
  refine bW ?_
  refine bf ?_
  rw[Us]
  have iD:mM ⟨C.eL k c,some gb,some tb,x.ob⟩=aI [ag gb 163 (aC L),ag tb 4 (r7 (aae j false)),Ch x.ob (mP (C.pg k).old)]:=by rw[hW];rfl
  refine az (λ_ s=>fg (L:= [_,_,_]) s) ?_
  rw[←iD]
  refine az (λ_ s=>yM (f:=mM) x1 _ s) ?_
  have hrm:aI (y.rl.map kh)=aI (y2.rl.map kh):=by
   rw[GG]
   show aI (y.rl.map kh)=aI ((y.rl.set c _).map kh)
   rw[adF,show kh ⟨{C.rw c with cP:=(C.rw c).cP+1},z.a,z.c⟩=kh z from by unfold kh;rw[z2],gY (by rw[aap,z1];rfl)]
  rw[hrm]
  have hpl2:y.pl.set k ⟨C.eL k c,some gb,some tb,x.ob⟩=y2.pl:=by rw[GG]
  rw[hpl2]at UA⊢
  rw[←UA]
  refine az (H':=oR b D y2) (by rw[hD,GG];exact Eh) ?_
  unfold oR
  refine Lp (oC T.Yl rfl rfl (J) (.cons .here (.cons .here (.cons .here (.cons .here (.cons .here (.cons .here (.cons .here (.cons .here .nil)))))))) (λ_ _ _=>trivial) ?_)
  rintro v H' ⟨rfl,zz,hzz,a3,c3,rfl,nF⟩
  refine bd ?_
  obtain⟨Y,hY⟩:∃Y:Lc,Y={y2 with rl:=y2.rl.set c ⟨(ku D k).rw c,a3,c3⟩}:=⟨_,rfl⟩
  rw[←hY]at nF
  have hsp1:1≤C.spare:=by
   have h1:=kx wz (k8 (C:=C) (i:=k) (by rw[K.pl];exact cB))
   rw[K.sp]
   have:wz (C.pg k)=1:=by unfold wz;rw[if_neg (by rw[ho];simp)]
   rw[this]at h1;exact h1
  have Rk:(dz (ku D k) Y).set (0+11) (.int .i64 ((C.spare:Int)-1))=dz (C.bm k c) Y:=by
   rw[show((C.spare:Int)-1)=((C.spare-1:Nat):Int) by omega,hD];rfl
  have h11:(dz (ku D k) Y)[0+11]?=some (.int .i64 (C.spare:Int)):=by rw[hD];rfl
  have hlc:gf (C.bm k c) Y:=by
   refine⟨?_, ?_,nF.pk,by have:=nF.ao;rw[hD]at this;exact this,by have:=nF.cP;rw[hD]at this;exact this⟩
   ·rw[nF.pl,hD];rfl
   rw[nF.rl]
   unfold ku
   dsimp only
   rw[fx,hDr,hDp]
   have e1:D.gk k c (C.eL k c).tk=C.gk k c (aae (C.ao/C.sz c) false):=by rw[hD];rfl
   rw[e1,hD]
   dsimp only
   rw[adw];rfl
  refine az (H':= [ag b 136 (dz (ku D k) Y),nZ C y,ag y.pb 224 (Y.pl.flatMap eA),aI (Y.pl.map mM),ag y.rb 253 (Y.rl.flatMap eo),aI (Y.rl.map kh),ag y.a 192 (gG y.ab C.ao (C.n*C.ao)),ag y.ab 5 (di C.A (C.n*C.ao))]) (by rw[hY,hD,GG];exact Eh) ?_
  have B8:0+11<(dz (ku D k) Y).length:=by unfold dz;simp
  obtain⟨sc,hsc⟩:∃sc,sc=dz (ku D k) Y:=⟨_,rfl⟩
  rw[←hsc]at h11 B8 Rk⊢
  refine bW ?_
  rw[Rk]
  refine az (H':=oR b (C.bm k c) Y) (by rw[hY,GG];exact Eh) ?_
  unfold oR
  refine Rt [ag b 136 (dz (C.bm k c) Y),nZ (C.bm k c) Y,ag Y.pb 224 (Y.pl.flatMap eA),aI (Y.pl.map mM),ag Y.rb 253 (Y.rl.flatMap eo),aI (Y.rl.map kh),ag Y.a 192 (gG Y.ab (C.bm k c).ao ((C.bm k c).n*(C.bm k c).ao)),ag Y.ab 5 (di (C.bm k c).A ((C.bm k c).n*(C.bm k c).ao))] results156 ?_
  exact⟨rfl,Y,hlc,by rw[hY,GG],rfl⟩
 intro hk
 replace hk:=aL hk
 obtain rfl:k=C.n:=by omega
 rw[BR (by rw[K.pl];exact pZ)]
 refine dg ?_
 refine Rt [ag b 136 (dz C y),nZ C y,ag y.pb 224 (y.pl.flatMap eA),aI (y.pl.map mM),ag y.rb 253 (y.rl.flatMap eo),aI (y.rl.map kh),ag y.a 192 (gG y.ab C.ao (C.n*C.ao)),ag y.ab 5 (di C.A (C.n*C.ao))] results156 ?_
 exact⟨rfl,rfl⟩
theorem SV{p P o:Nat}(h:p % P+o<P):(p+o) % P=p % P+o:=by
 rw[Nat.add_mod,aaH (show o<P by omega),aaH h]
theorem Gu (l:List Bool)(k:Nat)(b:Bool):(r7 l).set k (.bool b)=r7 (l.set k b):=by unfold r7;rw[adF]
theorem N7{C:Cs}{x:te}{i gb tb:Nat}(e:x.p=C.pg i)(hg:x.gb=some gb)(ht:x.tb=some tb):mM x=aI [ag gb 163 (aC (C.pg i).aZ),ag tb 4 (r7 (C.pg i).tk),Ch x.ob (mP (C.pg i).old)]:=by
 unfold mM;rw[hg,ht,e];rfl
theorem Su{a:Option Addr}{c e:Nat}{xs ys:List Value}{H:List aa}{k:Hp}(s:ai (own a c e 1 (xs++ys)::H) k):ai (own a c e 1 xs::H) k:=aY (λ_ p=>Sw p) s
def Wa (b:Nat)(C:Cs)(y:Lc)(i c gb tb:Nat)(x:te)(z:Cz):List aa:=
 [own z.a z.c 3 1 (ba (C.rw c).free),ag gb 163 (aC (C.pg i).aZ),ag tb 4 (r7 (C.pg i).tk),ag y.pb 224 (y.pl.flatMap eA),ag y.rb 253 (y.rl.flatMap eo),ag b 136 (dz C y),nZ C y,
  ag y.a 192 (gG y.ab C.ao (C.n*C.ao)),ag y.ab 5 (di C.A (C.n*C.ao)),Ch x.ob (mP (C.pg i).old),aI ((y.pl.eraseIdx i).map mM),aI ((y.rl.eraseIdx c).map kh)]
theorem LW{b:Nat}{C:Cs}{y:Lc}{i c gb tb:Nat}{x:te}{z:Cz}{n:Nat}{ds:List Deferred}{F:dy}{K:Act→World→Prop}{σ:aR}
  (x1:y.pl[i]?=some x) (e:x.p=C.pg i) (hg:x.gb=some gb) (ht:x.tb=some tb) (z1:y.rl[c]?=some z) (ze:z.r=C.rw c)
  (h:G n ds F K σ (Wa b C y i c gb tb x z)):G n ds F K σ (oR b C y):=by
 unfold oR
 refine Hh (H':= [aI (y.pl.map mM),aI (y.rl.map kh),ag b 136 (dz C y),nZ C y,ag y.pb 224 (y.pl.flatMap eA),ag y.rb 253 (y.rl.flatMap eo),ag y.a 192 (gG y.ab C.ao (C.n*C.ao)),ag y.ab 5 (di C.A (C.n*C.ao))]) ?_
 refine az (λ_ s=>tT x1 s) ?_
 rw[N7 e hg ht]
 refine tK ?_
 refine Hh (H':= [aI (y.rl.map kh),ag gb 163 (aC (C.pg i).aZ),ag tb 4 (r7 (C.pg i).tk),Ch x.ob (mP (C.pg i).old),aI ((y.pl.eraseIdx i).map mM),ag b 136 (dz C y),nZ C y,ag y.pb 224 (y.pl.flatMap eA),ag y.rb 253 (y.rl.flatMap eo),ag y.a 192 (gG y.ab C.ao (C.n*C.ao)),ag y.ab 5 (di C.A (C.n*C.ao))]) ?_
 refine az (λ_ s=>tT z1 s) ?_
 rw[show kh z=own z.a z.c 3 1 (ba (C.rw c).free)from by unfold kh;rw[ze]]
 exact Hh h
theorem vY{b:Nat}{C D:Cs}{y:Lc}{i c gb tb:Nat}{x:te}{z:Cz}{fr:List Nat}{aZ:List Nat}{tk:List Bool}{a:Option Addr}{cc:Nat}{r:Rw}{p:Pg}{k:Hp}(hy:gf C y)
  (x1:y.pl[i]?=some x) (e:x.p=C.pg i) (hg:x.gb=some gb) (ht:x.tb=some tb) (z1:y.rl[c]?=some z)
  (hD:D.bZ=C.bZ.set i p) (hR:D.rows=C.rows.set c r) (h1:D.ao=C.ao) (h2:D.n=C.n) (h3:D.ae=C.ae) (h4:D.spare=C.spare) (h5:D.cfg=C.cfg) (Ct:r.free=fr) (iD:p.aZ=aZ) (hpt:p.tk=tk) (hpo:p.own=(C.pg i).own) (hold:p.old=(C.pg i).old)
  (s:ai [own a cc 3 1 (ba fr),ag gb 163 (aC aZ),ag tb 4 (r7 tk),ag y.pb 224 ((y.pl.set i ⟨p,some gb,some tb,x.ob⟩).flatMap eA),ag y.rb 253 ((y.rl.set c ⟨r,a,cc⟩).flatMap eo),ag b 136 (dz C y),nZ C y,
   ag y.a 192 (gG y.ab C.ao (C.n*C.ao)),ag y.ab 5 (di D.A (C.n*C.ao)),Ch x.ob (mP (C.pg i).old),aI ((y.pl.eraseIdx i).map mM),aI ((y.rl.eraseIdx c).map kh)] k):ai [Cl b D] k:=by
 have e2:aI [ag gb 163 (aC aZ),ag tb 4 (r7 tk),Ch x.ob (mP (C.pg i).old)]=mM ⟨p,some gb,some tb,x.ob⟩:=by
  unfold mM;rw[←iD,←hpt,←hold];rfl
 have e3:own a cc 3 1 (ba fr)=kh ⟨r,a,cc⟩:=by unfold kh;rw[Ct]
 have s1:ai [ag gb 163 (aC aZ),ag tb 4 (r7 tk),Ch x.ob (mP (C.pg i).old),aI ((y.pl.eraseIdx i).map mM),own a cc 3 1 (ba fr),aI ((y.rl.eraseIdx c).map kh),ag y.pb 224 ((y.pl.set i ⟨p,some gb,some tb,x.ob⟩).flatMap eA),ag y.rb 253 ((y.rl.set c ⟨r,a,cc⟩).flatMap eo),ag b 136 (dz C y),nZ C y,ag y.a 192 (gG y.ab C.ao (C.n*C.ao)),ag y.ab 5 (di D.A (C.n*C.ao))] k:=by refine(?_:∀h,ai _ h→ai _ h) k s;exact Eh
 have s2:=fg (L:= [_,_,_]) s1
 rw[e2]at s2
 have s3:=yM (f:=mM) x1 _ s2
 rw[e3]at s3
 have s4:ai [kh ⟨r,a,cc⟩,aI ((y.rl.eraseIdx c).map kh),aI ((y.pl.set i ⟨p,some gb,some tb,x.ob⟩).map mM),ag y.pb 224 ((y.pl.set i ⟨p,some gb,some tb,x.ob⟩).flatMap eA),ag y.rb 253 ((y.rl.set c ⟨r,a,cc⟩).flatMap eo),ag b 136 (dz C y),nZ C y,ag y.a 192 (gG y.ab C.ao (C.n*C.ao)),ag y.ab 5 (di D.A (C.n*C.ao))] k:=by refine(?_:∀h,ai _ h→ai _ h) k s3;exact Eh
 have s5:=yM (f:=kh) z1 _ s4
 have GG:gf D {y with pl:=y.pl.set i ⟨p,some gb,some tb,x.ob⟩,rl:=y.rl.set c ⟨r,a,cc⟩}:=by
  refine⟨by rw[hD,←hy.pl,adF],by rw[hR,←hy.rl,adF],λu hu=> ?_,by rw[h5,h1];exact hy.ao,by rw[h5,h2];exact hy.cP⟩
  have P:=hy.pk x (aaf x1)
  rcases adH hu with h|rfl
  ·exact hy.pk u h
  refine⟨?_, ?_,λh=> ?_⟩
  ·dsimp only;rw[hpo,←e,←P.g,hg]
  ·dsimp only;rw[hpo,←e,←P.t,ht]
  dsimp only;rw[hold,←e];exact P.o h
 refine vG (H:= []) GG ?_
 have hs:dz D {y with pl:=y.pl.set i ⟨p,some gb,some tb,x.ob⟩,rl:=y.rl.set c ⟨r,a,cc⟩}=dz C y:=by unfold dz;rw[h1,h2,h3,h4,h5]
 have hz:nZ D {y with pl:=y.pl.set i ⟨p,some gb,some tb,x.ob⟩,rl:=y.rl.set c ⟨r,a,cc⟩}=nZ C y:=by unfold nZ;rw[h3]
 unfold oR
 rw[hs,hz,h1,h2]
 refine(?_:∀h,ai _ h→ai _ h) k s5;exact Eh
theorem ac1 (a:Option Addr)(m:Nat):yh a 0 m (0*1)=a:=by
 unfold yh
 split
 ·rfl
 ·cases a<;>simp[Addr.add]
theorem xL{C:Cs}{i c m:Nat}(hm:0<m):C.gk i c (aae m false)≠ []:=by
 unfold gk
 intro h
 rw[List.map_eq_nil_iff,List.filter_eq_nil_iff]at h
 refine h 0 (by simp;omega) ?_
 rw[List.getElem?_replicate,if_pos hm];rfl
theorem OD{α:Type}(l:List α){m:List α}(h:m≠ []):(l++m).getLast?=m.getLast?:=by
 rw[List.getLast?_append,adz h];rfl
theorem vL{C:Cs}(K:Ok C){i c:Nat}(hc:c<C.ae.length):∃p,((C.bm i c).rw c).free.getLast?=some p:=by
 have h:=uL C c c {C.rw c with cP:=(C.rw c).cP+1,kQ:=(C.rw c).kQ+1,free:=(C.rw c).free++C.gk i c (aae (C.ao/C.sz c) false)} (by rw[K.rl];exact hc)
 rw[if_pos rfl]at h
 have h2:(C.bm i c).rw c=_:=h
 obtain⟨z1,z2,_⟩:=K.toFix.sz hc
 have hm:0<C.ao/C.sz c:=Nat.div_pos z2 (by omega)
 rw[h2]
 dsimp only
 rw[OD _ (xL hm)]
 exact⟨_,adz (xL hm)⟩
theorem Fj{α:Type}(f:α→Nat)(B:Nat):∀l:List α,(∀x∈l,f x≤B)→(l.map f).sum≤l.length*B
 | [],_=>by simp
 |x::l,h=>by
  have h1:=Fj f B l λy hy=>h y (aag _ hy)
  have h2:=h x (aai ..)
  simp only[aao,aaC,adm,adD,adK];omega
theorem zd{C:Cs}(K:Ok C){x:Pg}(hx:x∈C.bZ):x.held≤1048576:=by
 have P:=K.pg x hx
 have f1:=K.toFix.p1
 rw[P.held]
 have h1:(x.tk.map bN).sum≤x.tk.length:=yo bN (λb=>by cases b<;>decide) _
 have h4:=P.tl
 by_cases ho:x.own=true
 ·have h2:=P.gl ho
  have h3:=adO C.ao (C.sz x.cl)
  omega
 have:=(P.no (by simpa using ho)).1
 rw[this]at h4
 simp at h4
 rw[h4]at h1⊢
 simp
theorem Lb{C:Cs}(K:Ok C){c:Nat}(hc:c<C.ae.length):(C.rw c).gm≤1073741824:=by
 rw[K.ft c hc]
 have h1:=Fj (wq c) 1048576 C.bZ λx hx=>by
  unfold wq
  split
  ·exact zd K hx
  omega
 have h2:=K.toFix.n1
 have h3:=K.toFix.pl
 unfold Cb
 omega
theorem RN (b:Nat)(C:Cs)(K:Ok C)(c:Nat)(hc:c<C.ae.length):aF aaa 101 [.pointer (some ⟨b,0,none⟩), .int .i64 (c:Int)] (λ_=>True) [Cl b C]
  (λv H=>match C.dH c with
   |none=>v= .tuple #[.int .u64 0, .int .i64 21]∧H= [Cl b C]
   |some (p,D)=>v= .tuple #[.int .u64 (D.hd p:Int), .int .i64 0]∧H= [Cl b D]):=by
 refine FD λy hy=> ?_
 have l1:=K.toFix.l1
 refine af func101 rfl ntmps101 rfl ?_
 intro F _
 change G _ _ _ _ _ [ag b 136 (dz C y),nZ C y,ag y.pb 224 (y.pl.flatMap eA),aI (y.pl.map mM),ag y.rb 253 (y.rl.flatMap eo),aI (y.rl.map kh),ag y.a 192 (gG y.ab C.ao (C.n*C.ao)),ag y.ab 5 (di C.A (C.n*C.ao))]
 refine dh ?_
 refine zl T.Vf (U0 b C y K (c:Int)) .nil (λ_ _ aq=>⟨aq.nth 0 rfl,aq.nth 1 rfl,aq.nth 2 rfl,aq.nth 3 rfl,aq.nth 4 rfl,aq.nth 5 rfl,aq.nth 6 rfl,aq.nth 7 rfl,trivial⟩) ?_
 rw[show isM C (c:Int)=true from decide_eq_true ⟨by omega,by omega⟩]
 obtain⟨z,z1,z2⟩:=uR K hy hc
 have r0:(y.rl.flatMap eo)[c*4]?=some (.slice z.a (C.rw c).free.length z.c):=by
  have:=bj cu z1 (j:=0) rfl
  rw[z2]at this;exact this
 refine oc ?_
 refine aw ?_
 refine dJ (ι:=Bool×Cs×Lc×Nat) [20,21,22,23,24,25,26,27,28,29,30,31] (λ(ok,D,Y,p)=>(ok=true→Ok D∧gf D Y∧Y.rb=y.rb∧c<D.ae.length∧(D.rw c).free.getLast?=some p∧C.dH c=some (p,D.eI c p))∧(ok=false→D=C∧Y=y∧C.dH c=none)) (λ(ok,D,Y,p)=> [(31, .bool (!ok))]) (λ(ok,D,Y,p)=> [ag b 136 (dz D Y),nZ D Y,ag Y.pb 224 (Y.pl.flatMap eA),aI (Y.pl.map mM),ag Y.rb 253 (Y.rl.flatMap eo),aI (Y.rl.map kh),ag Y.a 192 (gG Y.ab D.ao (D.n*D.ao)),ag Y.ab 5 (di D.A (D.n*D.ao))]) ?_ ?_
 ·rcases e:(C.rw c).free.getLast? with _|p
  ·have hem:(C.rw c).free= []:=List.getLast?_eq_none_iff.1 e
   refine dh ?_
   refine zt 26 ?_ (e:=by exact decide_eq_true (by rw[hem];rfl))
   refine bf ?_
   refine Lp (oC T.YI rfl rfl (Nn b C y K hy c hc) (.cons .here (.cons .here (.cons .here (.cons .here (.cons .here (.cons .here (.cons .here (.cons .here .nil)))))))) (λ_ _ _=>trivial) ?_)
   rintro v H' hw
   refine bd ?_
   rcases e2:C.fu with _|i
   ·rw[e2]at hw
    obtain⟨rfl,rfl⟩:=hw
    refine bf ?_
    refine aG ?_
    refine Me ((false,C,y,0)) (⟨λh=>(by cases h),λ_=>⟨rfl,rfl,by unfold dH;rw[e,e2]⟩⟩)
   rw[e2]at hw
   obtain⟨rfl,Y,hY,hrb,rfl⟩:=hw
   obtain⟨p,hp⟩:=vL K (i:=i) hc
   have hi:i<C.n∧(C.pg i).own=false:=by
    unfold fu at e2
    rw[aav]at e2
    obtain⟨q1,q2,_⟩:=e2
    refine⟨by rw[←K.pl];exact q1, ?_⟩
    have:=k8 (C:=C) q1
    rw[aac q1]at this
    rw[←Option.some.inj this];simpa using q2
   refine bf ?_
   refine aG ?_
   refine Me ((true,C.bm i c,Y,p)) (⟨λ_=>⟨xh K hi.1 hc hi.2,hY,hrb,hc,hp,by unfold dH;rw[e,e2];dsimp only;rw[hp]⟩,λh=>(by cases h)⟩)
  have ie:(C.rw c).free≠ []:=λh=>by rw[h]at e;cases e
  have GQ:0<(C.rw c).free.length:=List.length_pos_iff.2 ie
  refine dh ?_
  refine zf 26 ?_
  refine br ?_
  refine aG ?_
  refine Me ((true,C,y,p)) (⟨λ_=>⟨K,hy,rfl,hc,e,by unfold dH;rw[e]⟩,λh=>by cases h⟩)
 rintro⟨ok,D,Y,p⟩ ⟨h1,h2⟩
 try dsimp only at hI⊢
 rcases ok with _|_
 ·obtain⟨rfl,rfl,h3⟩:=h2 rfl
  rw[h3]
  refine bL ?_
  refine az (H':= [Cl b D]) (λ_ s=>vG (H:= []) hy s) ?_
  refine iV [Cl b D] results101 ?_
  exact⟨rfl,rfl⟩
 obtain⟨KD,hY,hrb,hcD,hp,Kb⟩:=h1 rfl
 rw[Kb]
 dsimp only
 clear h1 h2 Kb
 refine aA ?_
 rw[←hrb]
 obtain⟨KO,S,Fp⟩:=uW KD hp
 have L:=Fp.toAt
 have fx:=Fp.cl
 obtain⟨n1,n2,n3,n4,n5,n6,n7,n8⟩:=L.aX KD
 have nb:=fC KD.toFix
 have g0:=KD.toFix.p0
 have g1:=KD.toFix.p1
 have hgl:=Live.yy KD L
 rw[fx]at n2 n3 n4 n6 n7 n8
 obtain⟨x,x1,x2,x3⟩:=tR KD hY L.i
 obtain⟨gb,zE⟩:∃g,x.gb=some g:=Option.isSome_iff_exists.1 (x3.g.trans (by rw[x2];exact L.own))
 obtain⟨tb,zC⟩:∃g,x.tb=some g:=Option.isSome_iff_exists.1 (x3.t.trans (by rw[x2];exact L.own))
 obtain⟨z3,w1,w2⟩:=uR KD hY hcD
 have P:=KD.uF L.i
 have ek:=L.k
 have etk:=Fp.tk
 have hixp:p % D.ao/D.sz c=D.ix p:=B0 (c:=c) (i:=D.pn p) fx rfl
 have hTl:=zd KD (gg (C:=D) (i:=D.pn p) (by rw[KD.pl];exact L.i))
 have hTk:=Lb KD hcD
 have hfb:=vy KD c
 have ie:(D.rw c).free≠ []:=λh=>by rw[h]at hp;cases hp
 have zF:(D.rw c).free=(D.rw c).free.dropLast++ [p]:=by
  have:=aeH ie
  rw[adz ie]at hp
  rw[Option.some.inj hp]at this
  exact this.symm
 obtain⟨f0,hf0⟩:∃f0,f0=(D.rw c).free.dropLast:=⟨_,rfl⟩
 rw[←hf0]at zF
 have hlen:(D.rw c).free.length=f0.length+1:=by rw[zF];simp
 have r0:(Y.rl.flatMap eo)[c*4]?=some (.slice z3.a (f0.length+1) z3.c):=by
  have:=bj cu w1 (j:=0) (v:= .slice z3.a z3.r.free.length z3.c) rfl
  rw[w2,hlen]at this;exact this
 have pk3:(Y.pl.flatMap eA)[D.pn p*7+3]?=some (.slice (some ⟨gb,0,none⟩) (D.pg (D.pn p)).aZ.length (D.pg (D.pn p)).aZ.length):=by
  have:=bj cx x1 (j:=3) rfl
  rw[zE,x2]at this;exact this
 have pk4:(Y.pl.flatMap eA)[D.pn p*7+4]?=some (.slice (some ⟨tb,0,none⟩) (D.pg (D.pn p)).aZ.length (D.pg (D.pn p)).aZ.length):=by
  have:=bj cx x1 (j:=4) rfl
  rw[zC,x2,P.tl]at this;exact this
 have pk5:(Y.pl.flatMap eA)[D.pn p*7+5]?=some (.int .i64 ((D.pg (D.pn p)).held:Int)):=by
  have:=bj cx x1 (j:=5) rfl
  rw[x2]at this;exact this
 refine LW x1 x2 zE zC w1 w2 ?_
 unfold Wa
 rw[zF]
 refine kK (iN .here λ_ o=>(nJ o).some (by rw[jw];simp)) λsa=> ?_
 refine kK (iN .here Sx) λscap=> ?_
 rw[jw,aal,adB]at scap
 have kl:(ba (f0++ [p]))[f0.length]?=some (.int .i64 (p:Int)):=jO (by simp)
 refine bf ?_
 refine aw ?_
 refine gT false T.mix ?_
 refine bA ?_
 refine Ti ((Ix T.se (j:=f0.length) (hj:=by omega))) ?_
 refine bq ?_
 refine aw ?_
 refine gT false T.mix ?_
 refine bI ?_
 refine Ti (Sl 0 f0.length z3.c T.se) ?_
 rw[ac1]
 have e1:(Y.rl.flatMap eo).set (c*4+0) (.slice z3.a f0.length z3.c)=(Y.rl.set c ⟨{D.rw c with free:=f0},z3.a,z3.c⟩).flatMap eo:=cq cu w1 (by unfold eo;rw[w2];rfl) (by decide)
 have e2:((Y.rl.set c ⟨{D.rw c with free:=f0},z3.a,z3.c⟩).flatMap eo).set (c*4+1) (.int .i64 ((D.rw c).gm+1:Int))=(Y.rl.set c ⟨{D.rw c with free:=f0,gm:=(D.rw c).gm+1},z3.a,z3.c⟩).flatMap eo:=by
  have:=cq (l:=Y.rl.set c ⟨{D.rw c with free:=f0},z3.a,z3.c⟩) (i:=c) (j:=1) (v:= .int .i64 ((D.rw c).gm+1:Int)) (a':=(⟨{D.rw c with free:=f0,gm:=(D.rw c).gm+1},z3.a,z3.c⟩:Cz)) cu (aah (aad.1 w1).1) (by unfold eo;rfl) (by decide)
  rw[adw]at this
  exact this
 have r1:((Y.rl.set c ⟨{D.rw c with free:=f0},z3.a,z3.c⟩).flatMap eo)[c*4+1]?=some (.int .i64 ((D.rw c).gm:Int)):=bj cu (aah (aad.1 w1).1) rfl
 have hl4:c*4+4≤(Y.rl.flatMap eo).length:=by
  rw[eP cu]
  have:=(aad.1 w1).1
  omega
 have hl5:c*4+4≤((Y.rl.set c ⟨{D.rw c with free:=f0},z3.a,z3.c⟩).flatMap eo).length:=by
  rw[eP cu,aaj]
  have:=(aad.1 w1).1
  omega
 generalize Kj:Y.rl.flatMap eo=c1 at*
 refine aW ?_
 refine aw ?_
 rw[aeA,aeA,e1]
 generalize n9:(Y.rl.set c ⟨{D.rw c with free:=f0},z3.a,z3.c⟩).flatMap eo=c2 at*
 refine bA ?_
 refine aw ?_
 rw[e2]
 have e3:(Y.pl.flatMap eA).set (p/D.ao*7+5) (.int .i64 ((D.pg (D.pn p)).held+1:Int))=(Y.pl.set (D.pn p) ⟨{D.pg (D.pn p)with tk:=(D.pg (D.pn p)).tk.set (D.ix p) true,held:=(D.pg (D.pn p)).held+1},some gb,some tb,x.ob⟩).flatMap eA:=
  cq (j:=5) cx x1 (by unfold eA;rw[x2,zE,zC];dsimp only;rw[aaj];rfl) (by decide)
 have VW:=aed p (show 0<D.ao by omega)
 have pk3b:((Y.pl.set (D.pn p) ⟨{D.pg (D.pn p)with tk:=(D.pg (D.pn p)).tk.set (D.ix p) true,held:=(D.pg (D.pn p)).held+1},some gb,some tb,x.ob⟩).flatMap eA)[D.pn p*7+3]?=some (.slice (some ⟨gb,0,none⟩) (D.pg (D.pn p)).aZ.length (D.pg (D.pn p)).aZ.length):=bj cx (j:=3) (aah (aad.1 x1).1) rfl
 have hl7:p/D.ao*7+7≤(Y.pl.flatMap eA).length:=by
  rw[eP cx]
  have:=(aad.1 x1).1
  unfold Cs.pn at this
  omega
 generalize hc3:Y.pl.flatMap eA=c3 at*
 have hi:=L.i
 have hti:D.ix p<(r7 (D.pg (D.pn p)).tk).length:=by rw[Gw,P.tl];exact ek
 have kg:=qg (tJ ek)
 refine gT false T.mix ?_
 refine bA ?_
 refine Ti (Qu) ?_
 refine bq ?_
 refine aw ?_
 refine gT false T.mix ?_
 refine bD ?_
 refine Ti (Rm) ?_
 refine bD ?_
 refine Tp (oL T.dD ?_ (hk:=UZ hcD (by repeat (first|exact eX.here|apply eX.there))))
 refine Ti (Qu) ?_
 refine bf ?_
 refine aw ?_
 rw[hixp]
 refine dg ?_
 refine aw ?_
 rw[Gu]
 refine bA ?_
 refine aw ?_
 rw[e3]
 have pm:p % D.ao=D.ix p*D.sz c:=by
  have h1:=adZ p D.ao
  rw[adq]at h1
  unfold Cs.pn at n6
  omega
 refine bD ?_
 refine zl T.YH (Er Y.a Y.ab D.ao (D.n*D.ao) p 56 D.A 0 (by decide) (by omega) (by omega) (by omega) (by omega) g1) (.cons (.there (.there (.there (.there (.there (.there (.there (.there .here)))))))) .nil) (λ_ _ aq=>aq.nth 7 rfl) ?_
 refine aA ?_
 refine aw ?_
 refine gT false T.mix ?_
 refine gP ?_
 refine Tp (oC T.Mx rfl rfl (vX Y.a Y.ab D.ao (D.n*D.ao) (p+12) (D.gen p) (lay D.A p (aae 56 0)) hgl (by omega) (by omega) (by omega) (by rw[SV (by omega)];omega) g1) (.cons .here .nil) (λ_ _ aq=>aq.nth 7 rfl) ?_)
 rintro v H' ⟨rfl,rfl⟩
 refine bd ?_
 refine bA ?_
 refine zl T.Mw (xJ p (D.gen p) (by omega) hgl) .nil (λ_ _ _=>trivial) ?_
 refine aW ?_
 rw[lF f0 [p]]
 refine Hh (H':= [own z3.a z3.c 3 1 (ba f0++ba [p]),ag gb 163 (aC (D.pg (D.pn p)).aZ),ag tb 4 (r7 ((D.pg (D.pn p)).tk.set (D.ix p) true)),ag Y.pb 224 ((Y.pl.set (D.pn p) ⟨{D.pg (D.pn p)with tk:=(D.pg (D.pn p)).tk.set (D.ix p) true,held:=(D.pg (D.pn p)).held+1},some gb,some tb,x.ob⟩).flatMap eA),ag Y.rb 253 ((Y.rl.set c ⟨{D.rw c with free:=f0,gm:=(D.rw c).gm+1},z3.a,z3.c⟩).flatMap eo),ag b 136 (dz D Y),nZ D Y,ag Y.a 192 (gG Y.ab D.ao (D.n*D.ao)),ag Y.ab 5 (di (wr (lay D.A p (aae 56 0)) (p+12) 4 (D.gen p)) (D.n*D.ao)),Ch x.ob (mP (D.pg (D.pn p)).old),aI ((Y.pl.eraseIdx (D.pn p)).map mM),aI ((Y.rl.eraseIdx c).map kh)]) ?_
 refine az (λ_ s=>Su s) ?_
 refine az (H':= [Cl b (D.eI c p)]) (λ_ s=>vY (D:=D.eI c p) (r:={D.rw c with free:=f0,gm:=(D.rw c).gm+1}) (p:={D.pg (D.pn p)with tk:=(D.pg (D.pn p)).tk.set (D.ix p) true,held:=(D.pg (D.pn p)).held+1}) hY x1 x2 zE zC w1 rfl (by unfold eI put;rw[←hf0]) rfl rfl rfl rfl rfl rfl rfl rfl rfl rfl s) ?_
 refine iV [Cl b (D.eI c p)] results101 ?_
 refine⟨?_,rfl⟩
 have e5:(D.eI c p).hd p=D.gen p*4294967296+(p/8+1):=by
  unfold Cs.hd
  have:(D.eI c p).gen p=D.gen p:=by
   unfold Cs.gen
   rw[S.pn,S.ix,show(D.eI c p).pg (D.pn p)=_ from kI (by rw[KD.pl];exact L.i) _,if_pos rfl]
  rw[this]
 rw[e5]
theorem D7{α:Type}{f:α→List Value}{k:Nat}(hf:∀a,(f a).length=k){l:List α}{i j:Nat}{b a':α}{v:Value}(h:i<l.length)(hv:(f b).set j v=f a')(hj:j<k):((l.set i b).flatMap f).set (i*k+j) v=(l.set i a').flatMap f:=by
 have:=cq (l:=l.set i b) (i:=i) (j:=j) (v:=v) (a':=a') hf (aah h) hv hj
 rw[adw]at this
 exact this
structure Pv (C:Cs)(y:Lc)(i c gb tb:Nat)(x:te)(z:Cz):Prop where
 x1:y.pl[i]?=some x
 x2:x.p=C.pg i
 g:x.gb=some gb
 t:x.tb=some tb
 z1:y.rl[c]?=some z
 z2:z.r=C.rw c
 p1:(y.pl.flatMap eA)[i*7+1]?=some (.bool (C.pg i).lv)
 p2:(y.pl.flatMap eA)[i*7+2]?=some (.int .i64 (c:Int))
 p3:(y.pl.flatMap eA)[i*7+3]?=some (.slice (some ⟨gb,0,none⟩) (C.pg i).aZ.length (C.pg i).aZ.length)
 p4:(y.pl.flatMap eA)[i*7+4]?=some (.slice (some ⟨tb,0,none⟩) (C.pg i).aZ.length (C.pg i).aZ.length)
 p5:(y.pl.flatMap eA)[i*7+5]?=some (.int .i64 ((C.pg i).held:Int))
 p6:(y.pl.flatMap eA)[i*7+6]?=some (.map x.ob)
 r0:(y.rl.flatMap eo)[c*4+0]?=some (.slice z.a (C.rw c).free.length z.c)
 r1:(y.rl.flatMap eo)[c*4+1]?=some (.int .i64 ((C.rw c).gm:Int))
 r2:(y.rl.flatMap eo)[c*4+2]?=some (.int .i64 ((C.rw c).cP:Int))
 r3:(y.rl.flatMap eo)[c*4+3]?=some (.int .i64 ((C.rw c).kQ:Int))
 hp:i*7+7≤(y.pl.flatMap eA).length
 hr:c*4+4≤(y.rl.flatMap eo).length
 ip:i<y.pl.length
 ir:c<y.rl.length
theorem ab0{C:Cs}{y:Lc}(K:Ok C)(hy:gf C y){i c:Nat}(hi:i<C.n)(ho:(C.pg i).own=true)(hc:(C.pg i).cl=c):∃gb tb x z,Pv C y i c gb tb x z:=by
 obtain⟨x,x1,x2,x3⟩:=tR K hy hi
 obtain⟨gb,zE⟩:∃g,x.gb=some g:=Option.isSome_iff_exists.1 (x3.g.trans (by rw[x2];exact ho))
 obtain⟨tb,zC⟩:∃g,x.tb=some g:=Option.isSome_iff_exists.1 (x3.t.trans (by rw[x2];exact ho))
 have P:kY C (C.pg i):=K.pg _ (gg (by rw[K.pl];exact hi))
 have iE:c<C.ae.length:=by rw[←hc];exact P.cl ho
 obtain⟨z,z1,z2⟩:=uR K hy iE
 have tl:=P.tl
 have q:∀j v,(eA x)[j]?=some v→(y.pl.flatMap eA)[i*7+j]?=some v:=λj v hv=>bj cx x1 hv
 have r:∀j v,(eo z)[j]?=some v→(y.rl.flatMap eo)[c*4+j]?=some v:=λj v hv=>bj cu z1 hv
 have ip:=(aad.1 x1).1
 have ir:=(aad.1 z1).1
 refine⟨gb,tb,x,z,x1,x2,zE,zC,z1,z2, ?_, ?_, ?_, ?_, ?_, ?_, ?_, ?_, ?_, ?_,by rw[eP cx];omega,by rw[eP cu];omega,ip,ir⟩
 ·have:=q 1 _ rfl;rw[x2]at this;exact this
 ·have:=q 2 _ rfl;rw[x2,hc]at this;exact this
 ·have:=q 3 _ rfl;rw[zE,x2]at this;exact this
 ·have:=q 4 _ rfl;rw[zC,x2,tl]at this;exact this
 ·have:=q 5 _ rfl;rw[x2]at this;exact this
 ·have:=q 6 _ rfl;exact this
 ·have:=r 0 _ rfl;rw[z2]at this;exact this
 ·have:=r 1 _ rfl;rw[z2]at this;exact this
 ·have:=r 2 _ rfl;rw[z2]at this;exact this
 have:=r 3 _ rfl;rw[z2]at this;exact this
theorem RJ (g:Nat):fX .add .u32 (g:Int) 1=some (((g+1) % 4294967296:Nat):Int):=congrArg some (by rw[IntKind.wrap_u32];omega)
set_option maxHeartbeats 1000000 in
theorem TJ (b:Nat)(C:Cs)(K:Ok C)(p:Nat)(L:Live C p):aF aaa 107 [.pointer (some ⟨b,0,none⟩), .int .u64 (C.hd p:Int)] (λ_=>True) [Cl b C] (λv H=>v= .int .i64 0∧H= [Cl b (C.bb p)]):=by
 refine FD λy hy=> ?_
 have iE:=(L.toAt.aX K).1
 obtain⟨_,_,_,_,_,n6,n7,n8⟩:=L.toAt.aX K
 have nb:=fC K.toFix
 have hheld:=zd K (gg (C:=C) (i:=C.pn p) (by rw[K.pl];exact L.i))
 have htkn:=Lb K iE
 have hfree:=vy K (C.cl p)
 obtain⟨gb,tb,x,z,V⟩:=ab0 (c:=C.cl p) K hy L.i L.own rfl
 obtain⟨x1,x2,zE,zC,z1,z2,p1,p2,p3,p4,p5,p6,r0,r1,r2,r3,hp7,hr4,ip,ir⟩:=V
 have P:=K.uF L.i
 have hti:C.ix p<(r7 (C.pg (C.pn p)).tk).length:=by rw[Gw,P.tl];exact L.k
 have hgi:C.ix p<(aC (C.pg (C.pn p)).aZ).length:=by rw[jM];exact L.k
 have kg:=qg (tJ L.k)
 have ek:=L.k
 have hh1:1≤(C.pg (C.pn p)).held:=by
  rw[P.held]
  have:=kx bN L.tk
  exact this
 have ht1:1≤(C.rw (C.cl p)).gm:=by
  rw[K.ft _ iE]
  have h1:=kx (wq (C.cl p)) (k8 (C:=C) (i:=C.pn p) (by rw[K.pl];exact L.i))
  rw[yL (c:=C.cl p) L.own rfl]at h1
  exact Nat.le_trans hh1 h1
 refine af func107 rfl ntmps107 rfl ?_
 intro F _
 change G _ _ _ _ _ (oR b C y)
 unfold oR
 refine bD ?_
 refine zl T.MD (Gh b C y K hy p L) .nil (λ_ _ aq=>⟨aq.nth 0 rfl,aq.nth 1 rfl,aq.nth 2 rfl,aq.nth 3 rfl,aq.nth 4 rfl,aq.nth 5 rfl,aq.nth 6 rfl,aq.nth 7 rfl,trivial⟩) ?_
 refine qY ?_
 change G _ _ _ _ _ (oR b C y)
 refine LW (c:=C.cl p) x1 x2 zE zC z1 z2 ?_
 unfold Wa
 have e5:(y.pl.flatMap eA).set (C.pn p*7+5) (.int .i64 ((C.pg (C.pn p)).held-1:Int))=(y.pl.set (C.pn p) ⟨{C.pg (C.pn p)with tk:=(C.pg (C.pn p)).tk.set (C.ix p) false,held:=(C.pg (C.pn p)).held-1,aZ:=(C.pg (C.pn p)).aZ.set (C.ix p) ((C.gen p+1) % 4294967296)},some gb,some tb,x.ob⟩).flatMap eA:=
  cq (j:=5) cx x1 (by unfold eA;rw[x2,zE,zC,show((C.pg (C.pn p)).held-1:Int)=(((C.pg (C.pn p)).held-1:Nat):Int) by omega];dsimp only;rw[aaj,aaj];rfl) (by decide)
 have q1:((y.pl.set (C.pn p) ⟨{C.pg (C.pn p)with tk:=(C.pg (C.pn p)).tk.set (C.ix p) false,held:=(C.pg (C.pn p)).held-1,aZ:=(C.pg (C.pn p)).aZ.set (C.ix p) ((C.gen p+1) % 4294967296)},some gb,some tb,x.ob⟩).flatMap eA)[C.pn p*7+1]?=some (.bool (C.pg (C.pn p)).lv):=bj cx (j:=1) (aah ip) rfl
 have q2:((y.pl.set (C.pn p) ⟨{C.pg (C.pn p)with tk:=(C.pg (C.pn p)).tk.set (C.ix p) false,held:=(C.pg (C.pn p)).held-1,aZ:=(C.pg (C.pn p)).aZ.set (C.ix p) ((C.gen p+1) % 4294967296)},some gb,some tb,x.ob⟩).flatMap eA)[C.pn p*7+2]?=some (.int .i64 (C.cl p:Int)):=bj cx (j:=2) (aah ip) rfl
 have q3:((y.pl.set (C.pn p) ⟨{C.pg (C.pn p)with tk:=(C.pg (C.pn p)).tk.set (C.ix p) false,held:=(C.pg (C.pn p)).held-1,aZ:=(C.pg (C.pn p)).aZ.set (C.ix p) ((C.gen p+1) % 4294967296)},some gb,some tb,x.ob⟩).flatMap eA)[C.pn p*7+3]?=some (.slice (some ⟨gb,0,none⟩) (C.pg (C.pn p)).aZ.length (C.pg (C.pn p)).aZ.length):=by
  have:=bj cx (l:=y.pl.set (C.pn p) ⟨{C.pg (C.pn p)with tk:=(C.pg (C.pn p)).tk.set (C.ix p) false,held:=(C.pg (C.pn p)).held-1,aZ:=(C.pg (C.pn p)).aZ.set (C.ix p) ((C.gen p+1) % 4294967296)},some gb,some tb,x.ob⟩) (i:=C.pn p) (j:=3) (aah ip) rfl
  dsimp only at this
  rw[aaj]at this
  exact this
 generalize Kj:y.pl.flatMap eA=c1 at*
 refine bI ?_
 refine aw ?_
 rw[Gu]
 refine bA ?_
 refine aw ?_
 rw[e5]
 generalize n9:(y.pl.set (C.pn p) ⟨{C.pg (C.pn p)with tk:=(C.pg (C.pn p)).tk.set (C.ix p) false,held:=(C.pg (C.pn p)).held-1,aZ:=(C.pg (C.pn p)).aZ.set (C.ix p) ((C.gen p+1) % 4294967296)},some gb,some tb,x.ob⟩).flatMap eA=c2 at*
 refine dh ?_
 refine Li ((Im (z:=(((C.gen p+1) % 4294967296:Nat):Int)) (hz:=RJ _))) ?_
 refine bq ?_
 refine aw ?_
 rw[Ax]
 refine gT false T.mix ?_
 refine CD ?_
 obtain⟨fr,Ct⟩:∃fr,fr=if(C.pg (C.pn p)).lv=true then(C.rw (C.cl p)).free else(C.rw (C.cl p)).free++ [p]:=⟨_,rfl⟩
 refine dJ (ι:=Option Addr×Nat) [56,57,58,59,60,61,62,63,64,65] (λ(a,cc)=>True) (λ(a,cc)=> []) (λ(a,cc)=> [own a cc 3 1 (ba fr),ag y.rb 253 ((y.rl.set (C.cl p) ⟨{C.rw (C.cl p)with free:=fr},a,cc⟩).flatMap eo),aI ((y.pl.eraseIdx (C.pn p)).map mM),aI ((y.rl.eraseIdx (C.cl p)).map kh),Ch x.ob (mP (C.pg (C.pn p)).old),ag gb 163 (aC ((C.pg (C.pn p)).aZ.set (C.ix p) ((C.gen p+1) % 4294967296))),ag tb 4 (r7 ((C.pg (C.pn p)).tk.set (C.ix p) false)),ag y.pb 224 c2,ag b 136 (dz C y),nZ C y,ag y.a 192 (gG y.ab C.ao (C.n*C.ao)),ag y.ab 5 (di C.A (C.n*C.ao))]) ?_ ?_
 ·refine ax rfl ?_ ?_
  ·intro lL
   replace lL:=aL lL
   have zO:(C.pg (C.pn p)).lv=false:=by simpa using lL
   rw[zO]at Ct
   simp only[Bool.false_eq_true,if_false]at Ct
   refine bL ?_
   refine Lp (oT T.jg λb1=> ?_)
   refine Lp (cC T.jg T.wZ rfl rfl rfl rfl .here (by rw[jw,aeM]) (rfl) (by simp[Value.oneCell']) (by omega) (by omega) rfl λa1 c1 h1=> ?_)
   have e7:ba (C.rw (C.cl p)).free++ [Value.int .i64 (p:Int)]=ba fr:=by rw[Ct,lF _ [_]];rfl
   have e8:(y.rl.flatMap eo).set (C.cl p*4+0) (.slice a1 ((C.rw (C.cl p)).free.length+1) c1)=(y.rl.set (C.cl p) ⟨{C.rw (C.cl p)with free:=fr},a1,c1⟩).flatMap eo:=cq (j:=0) cu z1 (by unfold eo;rw[z2,Ct];simp) (by decide)
   refine bq ?_
   refine aG ?_
   rw[e7,e8]
   refine Me ((a1,c1)) (trivial)
  intro lL
  replace lL:=aL lL
  have zO:(C.pg (C.pn p)).lv=true:=by simpa using lL
  rw[zO]at Ct
  simp only[if_true]at Ct
  refine aA ?_
  have e8:y.rl.flatMap eo=(y.rl.set (C.cl p) ⟨{C.rw (C.cl p)with free:=fr},z.a,z.c⟩).flatMap eo:=by
   rw[gY (x:=(⟨{C.rw (C.cl p)with free:=fr},z.a,z.c⟩:Cz)) (by rw[z1,Ct,←z2])]
  rw[e8,←Ct]
  refine Me ((z.a,z.c)) (trivial)
 rintro⟨a,cc⟩ hI
 try dsimp only at hI⊢
 have e9:((y.rl.set (C.cl p) ⟨{C.rw (C.cl p)with free:=fr},a,cc⟩).flatMap eo).set (C.cl p*4+1) (.int .i64 ((C.rw (C.cl p)).gm-1:Int))=(y.rl.set (C.cl p) ⟨{C.rw (C.cl p)with free:=fr,gm:=(C.rw (C.cl p)).gm-1},a,cc⟩).flatMap eo:=
  D7 cu ir (by unfold eo;rw[show((C.rw (C.cl p)).gm-1:Int)=(((C.rw (C.cl p)).gm-1:Nat):Int) by omega];rfl) (by decide)
 have s1:((y.rl.set (C.cl p) ⟨{C.rw (C.cl p)with free:=fr},a,cc⟩).flatMap eo)[C.cl p*4+1]?=some (.int .i64 ((C.rw (C.cl p)).gm:Int)):=bj cu (aah ir) rfl
 have hr5:C.cl p*4+4≤((y.rl.set (C.cl p) ⟨{C.rw (C.cl p)with free:=fr},a,cc⟩).flatMap eo).length:=by rw[eP cu,aaj];omega
 generalize hc3:(y.rl.set (C.cl p) ⟨{C.rw (C.cl p)with free:=fr},a,cc⟩).flatMap eo=c3 at*
 refine fK ?_
 rw[e9]
 rw[←n9]
 refine Hh (H':= [own a cc 3 1 (ba fr),ag gb 163 (aC ((C.pg (C.pn p)).aZ.set (C.ix p) ((C.gen p+1) % 4294967296))),ag tb 4 (r7 ((C.pg (C.pn p)).tk.set (C.ix p) false)),ag y.pb 224 ((y.pl.set (C.pn p) ⟨{C.pg (C.pn p)with tk:=(C.pg (C.pn p)).tk.set (C.ix p) false,held:=(C.pg (C.pn p)).held-1,aZ:=(C.pg (C.pn p)).aZ.set (C.ix p) ((C.gen p+1) % 4294967296)},some gb,some tb,x.ob⟩).flatMap eA),ag y.rb 253 ((y.rl.set (C.cl p) ⟨{C.rw (C.cl p)with free:=fr,gm:=(C.rw (C.cl p)).gm-1},a,cc⟩).flatMap eo),ag b 136 (dz C y),nZ C y,ag y.a 192 (gG y.ab C.ao (C.n*C.ao)),ag y.ab 5 (di C.A (C.n*C.ao)),Ch x.ob (mP (C.pg (C.pn p)).old),aI ((y.pl.eraseIdx (C.pn p)).map mM),aI ((y.rl.eraseIdx (C.cl p)).map kh)]) ?_
 refine az (H':= [Cl b (C.bb p)]) (λ_ s=>vY (D:=C.bb p) (r:={C.rw (C.cl p)with free:=fr,gm:=(C.rw (C.cl p)).gm-1}) (p:={C.pg (C.pn p)with tk:=(C.pg (C.pn p)).tk.set (C.ix p) false,held:=(C.pg (C.pn p)).held-1,aZ:=(C.pg (C.pn p)).aZ.set (C.ix p) ((C.gen p+1) % 4294967296)}) hy x1 x2 zE zC z1 rfl (by unfold bb put;rw[Ct]) rfl rfl rfl rfl rfl rfl rfl rfl rfl rfl s) ?_
 refine Rt [Cl b (C.bb p)] results107 ?_
 exact⟨rfl,rfl⟩
end Go.Proofs.YtdolmecackmjdaaGreatDoor
