/- Part Pe of the proof. -/
import Derived.Test.YtdolmecackmjdaaGreatDoorPa
import Derived.Test.YtdolmecackmjdaaGreatDoorPb
import Derived.Test.YtdolmecackmjdaaGreatDoorPc
import Derived.Test.YtdolmecackmjdaaGreatDoorPc1
import Derived.Test.YtdolmecackmjdaaGreatDoorPd
set_option maxRecDepth 100000
open List renaming range → adL, range_succ → aif, map_congr_left → agB, mem_range → ag6, getD_eq_getElem?_getD → acy, getElem?_eq_getElem → acx, ext_getElem → ahn, getElem_map → agN, getElem_range → agO, foldl_cons → adm, length_cons → ac7, map_drop → air, map_take → ais, map_append → adq, length_map → acU, length_range → agT, getElem_append_left → agU, getElem_append_right → ahA, length_take → agP, length_append → acI, length_singleton → adv, getElem_mem → acJ, getElem?_map → acL, take_of_length_le → ahM, eq_nil_of_length_eq_zero → acW, append_assoc → adr, replicate → acA, length_replicate → adp, mem_of_getElem? → acB, map_cons → acM, sum_cons → ac0, findIdx?_eq_some_iff_getElem → acV, getElem?_eq_some_iff → acz, findIdx?_eq_none_iff → agE, getElem?_of_mem → ahh, getElem?_cons_zero → agL, getElem?_cons_succ → adI, getElem?_set_self → acD, getElem?_set_ne → ac5, mem_or_eq_of_mem_set → adJ, dropLast_concat_getLast → ahq, getLast?_eq_some_getLast → adB, nodup_append → adl, mem_append → adw, mem_singleton → acX, length_set → acE, mem_map → adi, mem_filter → adf, mem_reverse → ag7, Pairwise → ahI, mem_cons_of_mem → acC, mem_cons_self → acF, append_nil → agu, set_set → adn, map_set → adG, find?_cons → aij, getElem?_eq_none → acK
open UInt8 renaming ofNat → acZ
open Nat renaming pow_succ → adK, zero_mul → aiq, zero_add → acQ, add_mul → adD, mul_assoc → ait, mul_comm → ads, mul_le_mul_right → ac2, div_add_mod → agG, div_mul_le_self → ahc, one_mul → agt, mul_left_comm → aia, mul_le_mul → adF, lt_trichotomy → aib, mul_add_div → aim, div_eq_of_lt → aih, mul_add_mod → ain, mod_eq_of_lt → ac9, mul_div_cancel → ah6, mul_mod_left → aii, add_sub_cancel_left → ahL, le_self_pow → ahw, pow_le_pow_right → ady, lt_of_lt_of_le → adH, le_refl → acG, lt_of_le_of_lt → adC, div_le_self → agy, div_div_eq_div_mul → ag3, min_self → aiw, mod_lt → agX, zero_le → acS, not_lt_zero → agH, mul_one → ahx, sub_zero → ahi
open Int renaming fdiv_eq_ediv_of_nonneg → adj
open Decidable renaming byContradiction → acH
open Go.Proofs.Tryz renaming prog → acw
open Go.Proofs.Tryz
namespace Go.Proofs.YtdolmecackmjdaaGreatDoor
open Go Go.dL
abbrev Nm:=List UInt8
def dy (z:Int):Int:=IntKind.i64.wrap z
structure It where
 key:Nm
 val:Nm
 fl:Nat
 exp:Nat
 tok:Nat
 tch:Nat
 cl:Nat
 st:Nat
 act:Bool
 stale:Bool
 won:Bool
 eO:Bool
 ord:Nat
 Uu:Nat
structure pB where
 aq:Int
 cH:Int
 fac:Int
 bO:Int
 lim:Int
 hot:Int
 warm:Int
structure ua where
 b:Int
 l:Int
 c:Int
 m:Int
structure Mt where
 dr:Int
 re:Int
 bu:Int
 li:Int
 lo:Int
 cr:Int
 mv:Int
def Mt.zero:Mt:=⟨0,0,0,0,0,0,0⟩
structure Ms where
 c:pB
 p:ua
 af:List Nat
 per:List Nat
 aF:Nat
 all:List It
 owner:List (Option Nat)
 rows:List (List Nat)
 now:Nat
 E6:Nat
 cut:Nat
 dH:Nat
 E1:Nat
 bk:Nat
 Au:Nat
 ccl:Nat
 ckd:Nat
 place:Option Nm
 left:Int
 inn:Bool
 since:List (Option Nat)
 going:Option Nat
 mt:Mt
 jz:List Nat
namespace Ms
def wide:Nat:=1048576
def len (s:Ms):Nat:=s.all.length
def stt (s:Ms)(x:It):Nat:=if 0<x.exp∧x.exp≤s.now then 2 else if x.tok≤s.cut then 3 else 0
def find (s:Ms)(k:Nm):Option It:=s.all.find? λx=>decide (x.key=k)
def qu (s:Ms)(c st:Nat):List It:=s.all.filter λx=>decide (x.cl=c)&&decide (x.st=st)
def drop (s:Ms)(k:Nm):Ms:={s with all:=s.all.filter λx=>decide (x.key≠k)}
def eP (s:Ms)(k:Nm)(f:It→It):Ms:={s with all:=s.all.map λx=>if x.key=k then f x else x}
def PX:List It→Nm→Option Nm
 |a::b::r,k=>if b.key=k then some a.key else PX (b::r) k
 |_,_=>none
def ahead (s:Ms)(x:It):Option Nm:=PX (s.qu x.cl x.st) x.key
def gone (s:Ms)(x:It):Ms:=if s.place=some x.key then{s with place:=s.ahead x,left:=s.left-1}else s
def grow (s:Ms):Ms:=if s.Au=0∧3*s.bk<2*s.len∧s.bk<s.aF then{s with Au:=s.bk,bk:=2*s.bk}else s
def shrink (s:Ms):Ms:=if s.Au=0∧16<s.bk∧8*s.len<s.bk then{s with Au:=s.bk,bk:=s.bk/2}else s
def ae5 (s:Ms)(c:Nat):Nat:=s.per.getD c 0
def rowOf (s:Ms)(c:Nat):List Nat:=s.rows.getD c []
def lies (s:Ms)(chunk:Nat):Bool:=s.all.any λx=>decide (x.Uu=chunk)
def aec (s:Ms)(c chunk:Nat):Ms:=if s.going=some (chunk/wide)then s else{s with rows:=s.rows.set c (s.rowOf c++ [chunk])}
def cD (s:Ms)(x:It):Ms:=(((s.gone x).drop x.key).shrink).aec x.cl x.Uu
def count (s:Ms)(o:Option Nat):Nat:=(s.owner.filter λx=>decide (x=o)).length
def fill (s:Ms)(gv c:Nat):Ms:=
 {s with rows:=s.rows.set c (s.rowOf c++(((adL (s.ae5 c)).reverse.map λk=>gv*wide+k).filter λch=> !s.lies ch))}
def C8:List (Option Nat)→Option Nat
 | []=>none
 |none::_=>some 0
 |some _::r=>(C8 r).map (· +1)
def Ob (s:Ms)(c:Nat):Option (Nat×Ms):=
 match(s.rowOf c).getLast? with
 |none=>none
 |some ch=>some (ch,{s with rows:=s.rows.set c (s.rowOf c).dropLast})
def take (s:Ms)(c:Nat):Option (Nat×Ms):=
 if(s.rowOf c)= []then
  match C8 s.owner with
  |none=>none
  |some gv=>({s with owner:=s.owner.set gv (some c)}.fill gv c).Ob c
 else s.Ob c
def held (s:Ms)(gv:Nat):Nat:=(s.all.filter λx=>decide (x.Uu/wide=gv)).length
def XN (s:Ms)(gv:Nat):Option Nat:=s.owner.getD gv none
def row5 (s:Ms)(c:Nat)(own:Option Nm):List It:=(((s.qu c 3).reverse++(s.qu c 2).reverse++(s.qu c 1).reverse).filter λx=>decide (some x.key≠own)).take 5
def pick (s:Ms)(c:Nat)(own:Option Nm):Option It×Bool×Nat:=
 let r:=s.row5 c own
 match r.findIdx? λx=>decide (s.stt x≠0)with
 |some i=>(r[i]?,true,i+1)
 |none=>match r.find? λx=> !x.act with
  |some x=>(some x,false,r.length)
  |none=>(r.head?,false,r.length)
def stay (s:Ms):Ms:=match s.going with
 |none=>s
 |some gv=>{s with going:=none}.fill gv ((s.XN gv).getD 0)
def qN (s:Ms)(c:Nat):Ms:={s with since:=s.since.set c (some 0)}
def room (s:Ms)(c:Nat)(own:Option Nm):Option Nat×Ms:=
 match s.take c with
 |some (ch,s)=>(some ch,s)
 |none=>
  let go (s:Ms):Option Nat×Ms:=
   let (v,dead,n):=s.pick c own
   let s:={s with mt:={s.mt with lo:=dy (s.mt.lo+n)}}
   match v with
   |none=>(none,s.qN c)
   |some x=>
    let s:=if dead then{s with mt:={s.mt with re:=dy (s.mt.re+1)}}else{s with mt:={s.mt with dr:=dy (s.mt.dr+1)}}.qN c
    match(s.cD x).take c with
    |some (ch,s)=>(some ch,s)
    |none=>(none,s.cD x)
  if s.going.bind s.XN=some c∧s.going≠none then
   match s.stay.take c with
   |some (ch,s)=>(some ch,s)
   |none=>go s.stay
  else go s
def j8 (s:Ms)(c:Nat):Bool:=match s.since.getD c none with
 |none=>false
 |some n=>decide (n<64)
def ae9 (s:Ms)(gv c:Nat):Bool:=
 let own:=((s.rowOf c).filter λch=>decide (ch/wide=gv)).length
 decide (1<s.count (some c))&&decide (s.held gv+own≤(s.rowOf c).length)
def better (s:Ms)(f gv b B8:Nat):Bool:=
 if f≠b then decide ((s.rowOf b).length<(s.rowOf f).length∨(s.rowOf f).length=(s.rowOf b).length∧f<b)
 else decide (s.held gv<s.held B8)
def k7 (s:Ms)(t:Nat):List (Option Nat)→Nat→Option (Nat×Nat)→Option (Nat×Nat)
 | [],_,B8=>B8
 |none::r,gv,B8=>k7 s t r (gv+1) B8
 |some f::r,gv,B8=>
  if f=t∨s.j8 f=true∨s.ae9 gv f=false then k7 s t r (gv+1) B8
  else match B8 with
   |none=>k7 s t r (gv+1) (some (gv,f))
   |some (q,b)=>k7 s t r (gv+1) (if s.better f gv b q then some (gv,f)else some (q,b))
def ab8 (s:Ms)(t:Nat):Option (Nat×Nat):=k7 s t s.owner 0 none
def ach (s:Ms):Ms:=
 match(adL s.af.length).find? λt=>s.j8 t with
 |none=>s
 |some t=>
  if 0<s.count none then s
  else match s.ab8 t with
   |none=>s
   |some (gv,c)=>{s with rows:=s.rows.set c ((s.rowOf c).filter λch=>decide (ch/wide≠gv)),going:=some gv}
def WR (s:Ms)(gv:Nat):Option It:=
 (s.all.filter λx=>decide (x.Uu/wide=gv)).foldl (λb x=>match b with
  |none=>some x
  |some y=>if x.Uu<y.Uu then some x else some y) none
def E2:Nat→Ms→Nat→Ms×Nat
 |0,s,done=>(s,done)
 |n+1,s,done=>
  match s.going with
  |none=>(s,done)
  |some gv=>
   match s.WR gv with
   |none=>({s with owner:=s.owner.set gv none,going:=none},done)
   |some x=>
    if s.stt x≠0 then E2 n (s.cD x) (done+1)
    else match s.take x.cl with
     |none=>(s.stay,done)
     |some (ch,s)=>E2 n (s.eP x.key λy=>{y with Uu:=ch}) (done+1)
def move (s:Ms)(aF:Nat):Ms×Nat:=
 if aF=0 then(s,0)
 else
  let s:={s with since:=s.since.map λo=>o.map λn=>if n<64 then n+1 else n}
  if s.going=none then(s.ach,0)else E2 aF s 0
def time (s:Ms)(x:It)(e:Nat):Ms×It:=if 0<e then({s with E1:=s.E1+1},{x with exp:=e,ord:=s.E1+1})else(s,{x with exp:=e,ord:=0})
def lay (s:Ms)(x:It)(old:Option It)(c chunk:Nat):Ms:=
 let s:={s with E6:=s.E6+1}
 let (s,x):=s.time {x with tok:=s.E6,cl:=c,Uu:=chunk,tch:=s.now,st:=1,act:=false} x.exp
 match old with
 |some o=>let s:=((s.gone o).drop o.key);{s.aec o.cl o.Uu with all:=x::s.all}
 |none=>{s with all:=x::s.all}.grow
def meet (s:Ms)(k:Nm):Option It×Ms:=
 match s.find k with
 |none=>(none,{s with jz:=s.jz++ [1]})
 |some x=>
  let w:=s.stt x
  let s:={s with jz:=s.jz++ [w]}
  if w≠0 then(none,s.cD x)else(some x,s)
end Ms
open Go Go.dL
abbrev By:=Nat→UInt8
def jt (A:By)(p n:Nat):List UInt8:=(adL n).map λi=>A (p+i)
def lay (A:By)(p:Nat)(l:List UInt8):By:=λj=>if p≤j∧j<p+l.length then l.getD (j-p) 0 else A j
def dT (A:By)(n:Nat):List Value:=ai (jt A 0 n)
def be:Nat→Nat→List UInt8
 |0,_=> []
 |w+1,v=>acZ (v/256^w)::be w v
def nat (l:List UInt8):Nat:=l.foldl (λn c=>n*256+c.toNat) 0
def rd (A:By)(p w:Nat):Nat:=nat (jt A p w)
def wr (A:By)(p w v:Nat):By:=lay A p (be w v)
theorem dC (A:By)(p n:Nat):(jt A p n).length=n:=by simp[jt]
theorem Vu (A:By)(p n i:Nat)(h:i<n):(jt A p n)[i]?=some (A (p+i)):=by simp[jt,h]
theorem QR (A:By)(p:Nat):jt A p 0= []:=rfl
theorem QS (A:By)(p n:Nat):jt A p (n+1)=jt A p n++ [A (p+n)]:=by simp[jt,aif]
theorem tE{A B:By}{p n:Nat}(h:∀j,p≤j→j<p+n→A j=B j):jt A p n=jt B p n:=by
 unfold jt;apply agB;intro i hi;have:=ag6.1 hi;exact h _ (by omega) (by omega)
theorem Ov (A:By)(p:Nat)(l:List UInt8)(i:Nat)(h:i<l.length):lay A p l (p+i)=l[i]:=by
 unfold lay;rw[if_pos (by omega),show p+i-p=i by omega,acy,acx h];rfl
theorem fZ (A:By)(p:Nat)(l:List UInt8)(j:Nat)(h:j<p∨p+l.length≤j):lay A p l j=A j:=by
 unfold lay;rw[if_neg (by omega)]
theorem ke (A:By)(p:Nat)(l:List UInt8):jt (lay A p l) p l.length=l:=by
 apply ahn (by simp[jt]);intro i h1 h2;simp only[jt,agN,agO];exact Ov A p l i h2
theorem fD (A:By)(p:Nat)(l:List UInt8)(q n:Nat)(h:q+n≤p∨p+l.length≤q):jt (lay A p l) q n=jt A q n:=
 tE λj h1 h2=>fZ A p l j (by omega)
theorem eG (A:By)(p:Nat)(l:List UInt8)(q n:Nat)(h:q+n≤p∨p+l.length≤q):rd (lay A p l) q n=rd A q n:=by
 unfold rd;rw[fD A p l q n h]
theorem l7:∀w v,(be w v).length=w
 |0,_=>rfl
 |w+1,v=>by simp[be,l7 w]
theorem Re (l:List UInt8)(c:UInt8):nat (l++ [c])=nat l*256+c.toNat:=by simp[nat]
theorem A7:∀(l:List UInt8) (n:Nat),l.foldl (λn c=>n*256+c.toNat) n=n*256^l.length+nat l
 | [],n=>by simp[nat]
 |c::l,n=>by
  have h1:=A7 l (n*256+c.toNat);have h2:=A7 l (0*256+c.toNat);unfold nat at*;rw[adm,adm,h1,h2,ac7,adK,aiq,acQ,adD,ait,ads 256,Nat.add_assoc]
theorem Rf (c:UInt8)(l:List UInt8):nat (c::l)=c.toNat*256^l.length+nat l:=by
 conv=>lhs;unfold nat
 rw[adm,A7,aiq,acQ]
theorem Om:∀w v,nat (be w v)=v % 256^w
 |0,v=>by simp[be,nat,Nat.mod_one]
 |w+1,v=>by
  rw[be,Rf,Om w,l7];have:(acZ (v/256^w)).toNat=v/256^w % 256:=by simp
  rw[this,adK,Nat.mod_mul,ads (256^w)];omega
theorem HU:∀(l:List UInt8) (n:Nat),l.foldl (λn c=>n*256+c.toNat) n<(n+1)*256^l.length
 | [],n=>by simp
 |c::l,n=>by
  rw[adm];have h1:=HU l (n*256+c.toNat);have h2:=c.toNat_lt;have h3:(n*256+c.toNat+1)*256^l.length≤((n+1)*256)*256^l.length:=ac2 _ (by omega);rw[ac7,adK,ads (256^l.length) 256,←ait];omega
theorem aay (l:List UInt8):nat l<256^l.length:=by
 have:=HU l 0
 simpa[nat]using this
theorem du (A:By)(p w v:Nat):rd (wr A p w v) p w=v % 256^w:=by
 unfold rd wr;have:=ke A p (be w v);rw[l7]at this;rw[this,Om]
theorem aP (A:By)(p w v q n:Nat)(h:q+n≤p∨p+w≤q):rd (wr A p w v) q n=rd A q n:=eG A p _ q n (by rw[l7];exact h)
theorem ri (A:By)(p w v q n:Nat)(h:q+n≤p∨p+w≤q):jt (wr A p w v) q n=jt A q n:=fD A p _ q n (by rw[l7];exact h)
theorem oO (A:By)(p w:Nat):rd A p w<256^w:=by
 have:=aay (jt A p w)
 rwa[dC]at this
theorem nG (A:By)(n:Nat):(dT A n).length=n:=by simp[dT,ai,jt]
theorem Tj (A:By)(n p m:Nat)(h:p+m≤n):((dT A n).drop p).take m=ai (jt A p m):=by
 unfold dT ai;rw[←air,←ais]
 congr 1
 apply ahn (by simp[jt];omega);intro i h1 h2;simp[jt]
theorem IK (A:By)(n p:Nat)(l:List UInt8)(h:p+l.length≤n):(dT A n).take p++ai l++(dT A n).drop (p+l.length)=dT (lay A p l) n:=by
 unfold dT ai;rw[←ais,←air,←adq,←adq]
 congr 1
 apply ahn (by simp[jt];omega);intro i h1 h2;simp only[jt,acU,agT]at h2;by_cases a1:i<p
 ·rw[agU (by simp[jt];omega),agU (by simp[jt];omega)]
  simp only[jt,List.getElem_take,agN,agO,acQ];rw[fZ A p l i (.inl a1)]
 by_cases a2:i<p+l.length
 ·rw[agU (by simp[jt];omega),ahA (by simp[jt];omega)]
  simp only[jt,agP,acU,agT,agN,agO,acQ];have e:i=p+(i-p):=by omega
  conv=>rhs;rw[e]
  rw[Ov A p l (i-p) (by omega)]
  congr 1
  omega
 rw[ahA (by simp[jt];omega)];simp only[jt,List.getElem_drop,agN,agO,acQ,acI,agP,acU,agT];rw[fZ A p l i (.inr (by omega))]
 congr 1
 omega
theorem vF (A:By)(n p:Nat)(c:UInt8)(h:p<n):(dT A n).set p (.int .u8 c.toNat)=dT (lay A p [c]) n:=by
 rw[←IK A n p [c] (by simp;omega),List.set_eq_take_append_cons_drop,if_pos (by rw[nG];exact h)];simp[ai]
theorem Wf (A:By)(p:Nat)(l m:List UInt8):lay (lay A p l) (p+l.length) m=lay A p (l++m):=by
 funext j
 unfold lay;rw[acI];by_cases h1:p+l.length≤j∧j<p+l.length+m.length
 ·rw[if_pos h1,if_pos (by omega),acy,acy,List.getElem?_append_right (by omega)]
  congr 2;omega
 rw[if_neg h1];by_cases h2:p≤j∧j<p+l.length
 ·rw[if_pos h2,if_pos (by omega),acy,acy,List.getElem?_append_left (by omega)]
 rw[if_neg h2,if_neg (by omega)]
theorem rT (A:By)(p:Nat):lay A p []=A:=by
 funext j;unfold lay;rw[if_neg (by simp)]
theorem tN (A:By)(p:Nat)(c:UInt8)(m:List UInt8):lay (lay A (p+1) m) p [c]=lay A p (c::m):=by
 funext j
 unfold lay;by_cases h1:p≤j∧j<p+ [c].length
 ·have:j=p:=by simp at h1;omega
  subst this;rw[if_pos h1,if_pos (by simp)];simp
 rw[if_neg h1];simp only[adv]at h1;by_cases h2:p+1≤j∧j<p+1+m.length
 ·rw[if_pos h2,if_pos (by simp;omega)]
  rw[show j-p=(j-(p+1))+1 by omega];simp
 rw[if_neg h2,if_neg (by simp;omega)]
structure Pg where
 own:Bool
 lv:Bool
 cl:Nat
 bq:List Nat
 tk:List Bool
 held:Nat
 old:List (Nat×Nat)
def Pg.no:Pg:=⟨false,false,0,[],[],0,[]⟩
structure Rw where
 free:List Nat
 gQ:Nat
 cH:Nat
 mc:Nat
structure Cs where
 cfg:pB
 aq:Nat
 n:Nat
 af:List Nat
 cR:List Pg
 rows:List Rw
 spare:Nat
 A:By
namespace Cs
def pg (C:Cs)(i:Nat):Pg:=C.cR.getD i .no
def rw(C:Cs)(c:Nat):Rw:=C.rows.getD c ⟨[],0,0,0⟩
def sz (C:Cs)(c:Nat):Nat:=C.af.getD c 0
def pn (C:Cs)(p:Nat):Nat:=p/C.aq
def cl (C:Cs)(p:Nat):Nat:=(C.pg (C.pn p)).cl
def ix (C:Cs)(p:Nat):Nat:=p % C.aq/C.sz (C.cl p)
def gen (C:Cs)(p:Nat):Nat:=(C.pg (C.pn p)).bq.getD (C.ix p) 0
def hd (C:Cs)(p:Nat):Nat:=C.gen p*4294967296+(p/8+1)
structure At (C:Cs)(p:Nat):Prop where
 i:C.pn p<C.n
 own:(C.pg (C.pn p)).own=true
 al:p % C.aq % C.sz (C.cl p)=0
 k:C.ix p<(C.pg (C.pn p)).bq.length
structure Live (C:Cs)(p:Nat):Prop extends At C p where
 tk:(C.pg (C.pn p)).tk[C.ix p]?=some true
structure Fix (C:Cs):Prop where
 p0:4096≤C.aq
 p1:C.aq≤1048576
 p8:C.aq % 8=0
 n0:1≤C.n
 n1:C.n≤1024
 l0:1≤C.af.length
 l1:C.af.length≤62
 s0:∀z∈C.af,64≤z∧z≤C.aq∧z % 8=0
 pl:C.cR.length=C.n
 rl:C.rows.length=C.af.length
def D9 (C:Cs)(f:Pg→Nat):Nat:=(C.cR.map f).sum
def yf (c:Nat)(x:Pg):Nat:=if x.own=true∧x.cl=c then x.held else 0
def zX (c:Nat)(x:Pg):Nat:=if x.own=true∧x.cl=c then 1 else 0
def BP (c:Nat)(x:Pg):Nat:=if x.own=true∧x.cl=c∧x.lv=false then 1 else 0
def yk (x:Pg):Nat:=if x.own=true then 0 else 1
def bN (b:Bool):Nat:=if b=true then 1 else 0
structure mw (C:Cs)(x:Pg):Prop where
 cl:x.own=true→x.cl<C.af.length
 gl:x.own=true→x.bq.length=C.aq/C.sz x.cl
 tl:x.tk.length=x.bq.length
 Xy:∀g∈x.bq,g<4294967296
 Ua:∀g∈x.old,g.2<4294967296
 nd:(x.old.map (·.1)).Nodup
 held:x.held=(x.tk.map bN).sum
 no:x.own=false→x.bq= []∧x.lv=false∧x.cl=0
structure zZ (C:Cs)(c p:Nat):Prop extends At C p where
 cl:C.cl p=c
 tk:(C.pg (C.pn p)).tk[C.ix p]?=some false
 lv:(C.pg (C.pn p)).lv=false
structure Ok (C:Cs):Prop extends Fix C where
 pg:∀x∈C.cR,mw C x
 fr:∀c p,p∈(C.rw c).free→zZ C c p
 fn:∀c,(C.rw c).free.Nodup
 fa:∀c p,zZ C c p→c<C.af.length→p∈(C.rw c).free
 ft:∀c,c<C.af.length→(C.rw c).gQ=C.D9 (yf c)
 fp:∀c,c<C.af.length→(C.rw c).cH=C.D9 (zX c)
 fs:∀c,c<C.af.length→(C.rw c).mc=C.D9 (BP c)
 sp:C.spare=C.D9 yk
theorem Fix.pos{C:Cs}(F:Fix C):0<C.aq:=by have:=F.p0;omega
theorem Fix.sz{C:Cs}(F:Fix C){c:Nat}(h:c<C.af.length):64≤C.sz c∧C.sz c≤C.aq∧C.sz c % 8=0:=by
 unfold Cs.sz;rw[acy,acx h];exact F.s0 _ (acJ h)
theorem gM{C:Cs}{i:Nat}(h:i<C.cR.length):C.pg i∈C.cR:=by
 unfold Cs.pg;rw[acy,acx h];exact acJ h
theorem mA{C:Cs}{i:Nat}(h:i<C.cR.length):C.cR[i]?=some (C.pg i):=by
 unfold Cs.pg;rw[acy,acx h];rfl
theorem XJ{C:Cs}{c:Nat}(h:c<C.rows.length):C.rows[c]?=some (C.rw c):=by
 unfold Cs.rw;rw[acy,acx h];rfl
theorem Ok.wB{C:Cs}(K:Ok C){p:Nat}(h:C.pn p<C.n):mw C (C.pg (C.pn p)):=K.pg _ (gM (by rw[K.pl];exact h))
theorem At.bo{C:Cs}(K:Ok C){p:Nat}(L:At C p):
  C.cl p<C.af.length∧64≤C.sz (C.cl p)∧C.sz (C.cl p)≤C.aq∧C.sz (C.cl p) % 8=0∧p % 8=0∧p=C.pn p*C.aq+C.ix p*C.sz (C.cl p)∧C.ix p*C.sz (C.cl p)+C.sz (C.cl p)≤C.aq∧p+C.sz (C.cl p)≤C.n*C.aq:=by
 have P:=K.wB L.i;have hc:C.cl p<C.af.length:=P.cl L.own;obtain⟨h1,h2,h3⟩:=K.toFix.sz hc;have hg:=P.gl L.own;have hk:=L.k;have I9:=K.toFix.pos;have hal:=L.al;have e1:p=C.pn p*C.aq+p % C.aq:=by
  have:=agG p C.aq;unfold Cs.pn;rw[ads]at this;omega
 have e2:p % C.aq=C.ix p*C.sz (C.cl p):=by
  have:=agG (p % C.aq) (C.sz (C.cl p));unfold Cs.ix;rw[ads]at this;omega
 have e3:C.ix p*C.sz (C.cl p)+C.sz (C.cl p)≤C.aq:=by
  have:C.ix p+1≤C.aq/C.sz (C.cl p):=by
   have:(C.pg (C.pn p)).bq.length=C.aq/C.sz (C.cl p):=hg;omega
  have h4:=ac2 (C.sz (C.cl p)) this;have h5:=ahc C.aq (C.sz (C.cl p));rw[adD,agt]at h4;omega
 have e4:p+C.sz (C.cl p)≤C.n*C.aq:=by
  have hi:=L.i;have:=ac2 C.aq (show C.pn p+1≤C.n from hi);rw[adD,agt]at this;omega
 have e5:p % 8=0:=by
  have h8:=K.p8;obtain⟨a,ha⟩:∃a,C.aq=8*a:=⟨C.aq/8,by omega⟩;obtain⟨b,hb⟩:∃b,C.sz (C.cl p)=8*b:=⟨C.sz (C.cl p)/8,by omega⟩;rw[e2]at e1;rw[ha,hb]at e1;have:p=8*(C.pn p*a+C.ix p*b):=by
   rw[Nat.mul_add];have x1:C.pn p*(8*a)=8*(C.pn p*a):=by rw[aia]
   have x2:C.ix p*(8*b)=8*(C.ix p*b):=by rw[aia]
   omega
  omega
 exact⟨hc,h1,h2,h3,e5,by omega,e3,e4⟩
theorem gh{C:Cs}(F:Fix C):C.n*C.aq≤1073741824:=by
 have h1:=F.n1;have h2:=F.p1
 calc C.n*C.aq≤1024*1048576:=adF h1 h2
  _=1073741824:=by decide
theorem Live.Ax{C:Cs}(K:Ok C){p:Nat}(L:At C p):C.gen p<4294967296:=by
 have P:=K.wB L.i;refine P.Xy _ ?_;unfold Cs.gen;rw[acy,acx L.k];exact acJ _
theorem cB{C:Cs}(K:Ok C){p:Nat}(L:At C p):C.hd p % 4294967296=p/8+1∧C.hd p/4294967296=C.gen p∧p/8*8=p∧p/8+1≤C.n*C.aq/8∧C.hd p<18446744073709551616∧C.hd p≠0:=by
 obtain⟨_,h2,_,_,h5,_,_,h8⟩:=L.bo K;have hg:=Live.Ax K L;have hb:=gh K.toFix;unfold Cs.hd;have:p/8+1<4294967296:=by omega
 refine⟨by omega,by omega,by omega,by omega,by omega,by omega⟩
theorem nu{C:Cs}(K:Ok C){p q:Nat}(L:At C p)(M:At C q)(h:C.hd p=C.hd q):p=q:=by
 obtain⟨a1,_,a3,_⟩:=cB K L;obtain⟨b1,_,b3,_⟩:=cB K M;rw[h]at a1;omega
theorem apart{C:Cs}(K:Ok C){p q:Nat}(L:At C p)(M:At C q)(h:p≠q):p+C.sz (C.cl p)≤q∨q+C.sz (C.cl q)≤p:=by
 obtain⟨_,_,_,_,_,a6,a7,_⟩:=L.bo K;obtain⟨_,_,_,_,_,b6,b7,_⟩:=M.bo K;rcases aib (C.pn p) (C.pn q)with h1|h1|h1
 ·have:=ac2 C.aq (show C.pn p+1≤C.pn q from h1)
  rw[adD,agt]at this;omega
 ·have hc:C.cl p=C.cl q:=by unfold Cs.cl;rw[h1]
  rw[hc]at a6 a7⊢;rw[h1]at a6;rcases aib (C.ix p) (C.ix q)with h2|h2|h2
  ·have:=ac2 (C.sz (C.cl q)) (show C.ix p+1≤C.ix q from h2)
   rw[adD,agt]at this;omega
  ·rw[h2]at a6;exact absurd (a6.trans b6.symm) h
  have:=ac2 (C.sz (C.cl q)) (show C.ix q+1≤C.ix p from h2);rw[adD,agt]at this;omega
 have:=ac2 C.aq (show C.pn q+1≤C.pn p from h1);rw[adD,agt]at this;omega
def yh (C:Cs)(i k:Nat):Nat:=i*C.aq+k*C.sz (C.pg i).cl
theorem CR{C:Cs}(K:Ok C){i k:Nat}(hi:i<C.n)(ho:(C.pg i).own=true)(hk:k<(C.pg i).bq.length):C.pn (C.yh i k)=i∧C.ix (C.yh i k)=k∧At C (C.yh i k):=by
 have P:mw C (C.pg i):=K.pg _ (gM (by rw[K.pl];exact hi));have hc:=P.cl ho;obtain⟨h1,h2,h3⟩:=K.toFix.sz hc;have hg:=P.gl ho;have I9:=K.toFix.pos;have e3:k*C.sz (C.pg i).cl+C.sz (C.pg i).cl≤C.aq:=by
  have:k+1≤C.aq/C.sz (C.pg i).cl:=by omega
  have h4:=ac2 (C.sz (C.pg i).cl) this;have h5:=ahc C.aq (C.sz (C.pg i).cl);rw[adD,agt]at h4;omega
 have a1:C.pn (C.yh i k)=i:=by
  unfold Cs.pn Cs.yh;rw[ads,aim I9,aih (by omega)];omega
 have a2:C.yh i k % C.aq=k*C.sz (C.pg i).cl:=by
  unfold Cs.yh;rw[ads,ain,ac9 (by omega)]
 have a3:C.ix (C.yh i k)=k:=by
  unfold Cs.ix Cs.cl;rw[a1,a2,ah6 _ (by omega)]
 refine⟨a1,a3,⟨by rw[a1];exact hi,by rw[a1];exact ho, ?_,by rw[a3,a1];exact hk⟩⟩;unfold Cs.cl;rw[a1,a2,aii]
theorem Oc{C:Cs}(K:Ok C){p:Nat}(L:At C p):C.yh (C.pn p) (C.ix p)=p:=by
 obtain⟨_,_,_,_,_,h6,_⟩:=L.bo K;unfold Cs.yh;exact h6.symm
end Cs
open Go Go.dL
theorem pw8 (m:Nat):(256^(m+1)-1)/256=256^m-1:=by
 have:0<256^m:=Nat.pow_pos (by decide);rw[adK];omega
theorem FA (A:By)(n i:Nat)(h:i<n):(dT A n)[i]?=some (.int .u8 ((A i).toNat:Int)):=by
 unfold dT ai;rw[acL,Vu A 0 n i h,acQ];rfl
theorem AU (A:By)(p w:Nat):rd A p (w+1)=rd A p w*256+(A (p+w)).toNat:=by
 unfold rd;rw[QS,Re]
theorem aeC{x:Nat}(h:x<256^1):IntKind.u8.wrap (x:Int)=(x:Int):=wrap_u8 (by rw[Nat.pow_one]at h;omega)
def iq (ab aq n:Nat):List Value:= [.int .i64 (aq:Int), .slice (some ⟨ab,0,none⟩) n n]
abbrev In (A:aa)(h:Hp):Prop:=∃k,A k∧Le k h
def IZ (ab p m:Nat):Addr:=⟨ab,if m=0 then 0 else p,none⟩
theorem iO (a ab aq n p m:Nat)(h0:0<aq)(h1:p+m≤n)(h2:n≤1073741824)(h3:p % aq+m≤aq)(h4:aq≤1048576):
  aH acw 216 [.pointer (some ⟨a,0,none⟩), .int .i64 (p:Int), .int .i64 (m:Int)] (In (ag a 192 (iq ab aq n))) []
   (λv H=>v= .tuple #[.slice (some (IZ ab p m)) m m, .bool true]∧H= []):=by
 have hc:Ai (some ⟨ab,0,none⟩) p (p+m) (p*1)=some (IZ ab p m):=by
  unfold Ai IZ;by_cases hm:m=0
  ·rw[if_pos (by omega),if_pos hm]
  rw[if_neg (by omega),if_neg hm,Option.map_some,add_lit];simp
 refine ae func216 rfl ntmps216 rfl ?_;intro F h0';unfold iq at h0';refine bc ?_;refine au ?_;refine gT false T.mix ?_;refine aZ ?_;refine zf 10 ?_;refine aR ?_;refine zf 14 ?_;refine cN ?_;refine zf 23 ?_;refine bK ?_;refine zf 34 ?_;refine aZ ?_;by_cases hm:0<m
 ·refine zt 37 ?_
  refine bc ?_;refine Ti (Rm) ?_;refine bw ?_;refine cu ?_;refine fF ?_;refine Li (Sl p (p+m) (p+m) T.eC) ?_;rw[hc];refine aR ?_;refine iH [] results216 ?_;rw[ahL];exact⟨rfl,rfl⟩
 refine zf 37 ?_;refine bT ?_;refine bK ?_;refine Li (Sl p (p+m) (p+m) T.eC) ?_;rw[hc];refine aR ?_;refine iH [] results216 ?_;rw[ahL];exact⟨rfl,rfl⟩
theorem y5 (x:Nat):((x:Int).fdiv (2^(min 7 IntKind.u8.bits))).fdiv (2^(min 1 IntKind.u8.bits))=((x/256:Nat):Int):=by
 rw[show(2:Int)^(min 7 IntKind.u8.bits)=128 from rfl,show(2:Int)^(min 1 IntKind.u8.bits)=2 from rfl,adj _ (by decide),adj _ (by decide)];omega
theorem ur:aH acw 241 [] (λ_=>True) [] (λv H=>v= .int .i64 1∧H= []):=by
 refine ae func241 rfl ntmps241 rfl ?_;intro F _;refine qa ?_;refine Lo (ι:=Nat) [5,6,9,10,11,1,7,8,2] (λk=>k≤1) (λk=> [(1, .int .u8 ((256^(1-k)-1:Nat):Int)),(2, .int .i64 (k:Int))]) (λk=> []) (λk=>1-k) (0) (by simp) ?_;rintro k hI;refine bc ?_;refine av rfl ?_ ?_
 ·intro hk
  replace hk:=aD hk;have bX:k<1:=by
   refine acH λhh=> ?_;rw[show 1-k=0 by omega]at hk;exact absurd hk (by decide)
  refine bB ?_;refine Li (Sr 7) ?_;refine Li (Sr 1) ?_;refine cI ?_;refine az ?_;refine ao (t:=1) (v':=(.int .u8 ((256^(1-(k+1))-1:Nat):Int))) rfl (by rw[y5,show 1-k=(1-(k+1))+1 by omega,pw8]) ?_;refine Ro (k+1) (by omega) (by omega)
 intro hk;replace hk:=aD hk;have rB:k=1:=by
  refine acH λhh=> ?_;have:256≤256^(1-k):=ahw (show 1-k≠0 by omega) 256;omega
 subst rB;refine bw ?_;refine Rt [] results241 ?_;exact⟨rfl,rfl⟩
theorem Ka (a ab aq n p:Nat)(A:By)(h0:0<aq)(h1:p+1≤n)(h2:n≤1073741824)(h3:p % aq+1≤aq)(h4:aq≤1048576):
  aH acw 204 [.pointer (some ⟨a,0,none⟩), .int .i64 (p:Int)] (λh=>In (ag a 192 (iq ab aq n)) h∧In (ag ab 5 (dT A n)) h) []
   (λv H=>v= .tuple #[.int .u8 ((rd A p 1:Nat):Int), .int .i64 0]∧H= []):=by
 refine ae func204 rfl ntmps204 rfl ?_;rintro F ⟨ha,hb⟩;refine nj ?_;refine zl T.OI (ur) .nil (λ_ _ _=>trivial) ?_;refine zl T.nw (iO a ab aq n p 1 h0 h1 h2 h3 h4) .nil (λ_ le _=>by obtain⟨k,q1,q2⟩:=ha;exact⟨k,q1,q2.trans le⟩) ?_;simp only[IZ,show¬1=0 by decide,if_false];refine bT ?_;refine aR ?_;refine Lo (ι:=Nat) [25,26,27,10,28,29,30,31,32,8,33,24] (λk=>k≤1) (λk=> [(8, .int .u8 ((rd A p k:Nat):Int)),(24, .int .i64 (k:Int))]) (λk=> []) (λk=>1-k) (0) (by simp) ?_;rintro k hI;refine aZ ?_;refine au ?_;refine av rfl ?_ ?_
 ·intro hk
  replace hk:=aD hk;have bX:k<1:=by omega
  have k1:=FA A n (p+k) (by omega);have hl:=oO A p (k+1);have D5:256^(k+1)≤256^1:=ady (by decide) bX;have hc:=(A (p+k)).toNat_lt;have hs:=AU A p k;refine bc ?_;refine Li ((Xz T.eC)) ?_;refine Lp (oL T.qc ?_ (hk:=wk (i:=p+k) hb k1));refine aR ?_;refine Li (Sh 7) ?_;refine Li (Sh 1) ?_;refine ay ?_;refine Li ((Im (hz:=Q6 (by rw[←hs];exact adH hl D5)))) ?_;refine bH ?_;refine az ?_;rw[←hs];refine Ro (k+1) (by omega) (by omega)
 intro hk;replace hk:=aD hk;have rB:k=1:=by omega
 subst rB;refine bK ?_;refine iH [] results204 ?_;exact⟨rfl,rfl⟩
theorem JS (a ab aq n p v:Nat)(A:By)(hv:v<256^1)(h0:0<aq)(h1:p+1≤n)(h2:n≤1073741824)(h3:p % aq+1≤aq)(h4:aq≤1048576):
  aH acw 255 [.pointer (some ⟨a,0,none⟩), .int .i64 (p:Int), .int .u8 (v:Int)] (In (ag a 192 (iq ab aq n))) [ag ab 5 (dT A n)]
   (λu H=>u= .int .i64 0∧H= [ag ab 5 (dT (wr A p 1 v) n)]):=by
 refine ae func255 rfl ntmps255 rfl ?_;intro F ha;refine fF ?_;refine zl T.OI (ur) .nil (λ_ _ _=>trivial) ?_;refine zl T.nw (iO a ab aq n p 1 h0 h1 h2 h3 h4) .nil (λ_ le _=>by obtain⟨k,q1,q2⟩:=ha;exact⟨k,q1,q2.trans le⟩) ?_;simp only[IZ,show¬1=0 by decide,if_false];refine bT ?_;refine a8 ?_;have iY:lay A (p+1) (be (1-1) v)=A:=rT A _;refine aC (H':= [ag ab 5 (dT (lay A (p+1) (be (1-1) v)) n)]) (by rw[iY];exact λ_ x=>x) ?_;refine Lo (ι:=Nat) [24,25,28,29,30,31,32,33,34,2,26,27,9] (λj=>j≤1) (λj=> [(2, .int .u8 ((v/256^(1-j):Nat):Int)),(9, .int .i64 ((j:Int)-1))]) (λj=> [ag ab 5 (dT (lay A (p+j) (be (1-j) v)) n)]) (λj=>j) (1) (acG _) ?_;rintro j hI;refine bc ?_;refine av rfl ?_ ?_
 ·intro hk
  replace hk:=aD hk;obtain⟨i,rfl⟩:∃i,j=i+1:=⟨j-1,by omega⟩;have IY:IntKind.u8.wrap ((v/256^(1-(i+1)):Nat):Int)=((acZ (v/256^(1-(i+1)))).toNat:Int):=by
   rw[IntKind.wrap_u8];simp
  have hv2:v/256^(1-(i+1))<256^1:=adC (agy _ _) hv;have hlen:p+i<(dT (lay A (p+(i+1)) (be (1-(i+1)) v)) n).length:=by rw[nG];omega
  refine cI ?_;refine ao (t:=30) (v':=(.int .u8 (((acZ (v/256^(1-(i+1)))).toNat:Nat):Int))) rfl (by rw[←IY,aeC hv2]) ?_;refine Li ((Xz T.eC (j:=i))) ?_;refine Lp (oS T.qc ?_ (i:=p+i) (hi:=hlen));rw[vF _ _ _ _ (by omega)];refine aZ ?_;refine Li (Sr 7) ?_;refine Li (Sr 1) ?_;refine cI ?_;refine az ?_;have el:lay (lay A (p+(i+1)) (be (1-(i+1)) v)) (p+i) [acZ (v/256^(1-(i+1)))]=lay A (p+i) (be (1-i) v):=by
   rw[show 1-i=(1-(i+1))+1 by omega,be];exact tN A (p+i) _ _
  rw[el];refine ao (t:=2) (v':=(.int .u8 ((v/256^(1-i):Nat):Int))) rfl (by rw[y5,show 1-i=(1-(i+1))+1 by omega,adK,ag3]) ?_;refine Ro (i) (by omega) (by omega)
 intro hk;replace hk:=aD hk;obtain rfl:j=0:=by omega
 refine cN ?_;refine Rt [ag ab 5 (dT (wr A p 1 v) n)] results255 ?_;exact⟨rfl,rfl⟩
theorem xS (x:Nat):((x:Int).fdiv (2^(min 7 IntKind.u32.bits))).fdiv (2^(min 1 IntKind.u32.bits))=((x/256:Nat):Int):=by
 rw[show(2:Int)^(min 7 IntKind.u32.bits)=128 from rfl,show(2:Int)^(min 1 IntKind.u32.bits)=2 from rfl,adj _ (by decide),adj _ (by decide)];omega
theorem sy:aH acw 217 [] (λ_=>True) [] (λv H=>v= .int .i64 4∧H= []):=by
 refine ae func217 rfl ntmps217 rfl ?_;intro F _;refine qa ?_;refine Lo (ι:=Nat) [5,6,9,10,11,1,7,8,2] (λk=>k≤4) (λk=> [(1, .int .u32 ((256^(4-k)-1:Nat):Int)),(2, .int .i64 (k:Int))]) (λk=> []) (λk=>4-k) (0) (by simp) ?_;rintro k hI;refine bc ?_;refine av rfl ?_ ?_
 ·intro hk
  replace hk:=aD hk;have bX:k<4:=by
   refine acH λhh=> ?_;rw[show 4-k=0 by omega]at hk;exact absurd hk (by decide)
  refine bB ?_;refine Li (Sr 7) ?_;refine Li (Sr 1) ?_;refine cI ?_;refine az ?_;refine ao (t:=1) (v':=(.int .u32 ((256^(4-(k+1))-1:Nat):Int))) rfl (by rw[xS,show 4-k=(4-(k+1))+1 by omega,pw8]) ?_;refine Ro (k+1) (by omega) (by omega)
 intro hk;replace hk:=aD hk;have rB:k=4:=by
  refine acH λhh=> ?_;have:256≤256^(4-k):=ahw (show 4-k≠0 by omega) 256;omega
 subst rB;refine bw ?_;refine Rt [] results217 ?_;exact⟨rfl,rfl⟩
theorem Gm (a ab aq n p:Nat)(A:By)(h0:0<aq)(h1:p+4≤n)(h2:n≤1073741824)(h3:p % aq+4≤aq)(h4:aq≤1048576):
  aH acw 202 [.pointer (some ⟨a,0,none⟩), .int .i64 (p:Int)] (λh=>In (ag a 192 (iq ab aq n)) h∧In (ag ab 5 (dT A n)) h) []
   (λv H=>v= .tuple #[.int .u32 ((rd A p 4:Nat):Int), .int .i64 0]∧H= []):=by
 refine ae func202 rfl ntmps202 rfl ?_;rintro F ⟨ha,hb⟩;refine nj ?_;refine zl T.OP (sy) .nil (λ_ _ _=>trivial) ?_;refine zl T.nw (iO a ab aq n p 4 h0 h1 h2 h3 h4) .nil (λ_ le _=>by obtain⟨k,q1,q2⟩:=ha;exact⟨k,q1,q2.trans le⟩) ?_;simp only[IZ,show¬4=0 by decide,if_false];refine bT ?_;refine aR ?_;refine Lo (ι:=Nat) [25,26,27,10,28,29,30,31,32,33,8,34,24] (λk=>k≤4) (λk=> [(8, .int .u32 ((rd A p k:Nat):Int)),(24, .int .i64 (k:Int))]) (λk=> []) (λk=>4-k) (0) (by simp) ?_;rintro k hI;refine aZ ?_;refine au ?_;refine av rfl ?_ ?_
 ·intro hk
  replace hk:=aD hk;have bX:k<4:=by omega
  have k1:=FA A n (p+k) (by omega);have hl:=oO A p (k+1);have D5:256^(k+1)≤256^4:=ady (by decide) bX;have hc:=(A (p+k)).toNat_lt;have hs:=AU A p k;refine bc ?_;refine Li ((Xz T.eC)) ?_;refine Lp (oL T.qc ?_ (hk:=wk (i:=p+k) hb k1));refine aR ?_;refine Li (Sh 7) ?_;refine Li (Sh 1) ?_;refine a8 ?_;refine Li ((Im (hz:=JU hc (by rw[←hs];exact adH hl D5)))) ?_;refine bH ?_;refine az ?_;rw[←hs];refine Ro (k+1) (by omega) (by omega)
 intro hk;replace hk:=aD hk;have rB:k=4:=by omega
 subst rB;refine bK ?_;refine iH [] results202 ?_;exact⟨rfl,rfl⟩
theorem xW (a ab aq n p v:Nat)(A:By)(hv:v<256^4)(h0:0<aq)(h1:p+4≤n)(h2:n≤1073741824)(h3:p % aq+4≤aq)(h4:aq≤1048576):
  aH acw 158 [.pointer (some ⟨a,0,none⟩), .int .i64 (p:Int), .int .u32 (v:Int)] (In (ag a 192 (iq ab aq n))) [ag ab 5 (dT A n)]
   (λu H=>u= .int .i64 0∧H= [ag ab 5 (dT (wr A p 4 v) n)]):=by
 refine ae func158 rfl ntmps158 rfl ?_;intro F ha;refine fF ?_;refine zl T.OP (sy) .nil (λ_ _ _=>trivial) ?_;refine zl T.nw (iO a ab aq n p 4 h0 h1 h2 h3 h4) .nil (λ_ le _=>by obtain⟨k,q1,q2⟩:=ha;exact⟨k,q1,q2.trans le⟩) ?_;simp only[IZ,show¬4=0 by decide,if_false];refine bT ?_;refine a8 ?_;have iY:lay A (p+4) (be (4-4) v)=A:=rT A _;refine aC (H':= [ag ab 5 (dT (lay A (p+4) (be (4-4) v)) n)]) (by rw[iY];exact λ_ x=>x) ?_;refine Lo (ι:=Nat) [24,25,28,29,30,31,32,33,34,35,2,26,27,9] (λj=>j≤4) (λj=> [(2, .int .u32 ((v/256^(4-j):Nat):Int)),(9, .int .i64 ((j:Int)-1))]) (λj=> [ag ab 5 (dT (lay A (p+j) (be (4-j) v)) n)]) (λj=>j) (4) (acG _) ?_;rintro j hI;refine bc ?_;refine av rfl ?_ ?_
 ·intro hk
  replace hk:=aD hk;obtain⟨i,rfl⟩:∃i,j=i+1:=⟨j-1,by omega⟩;have IY:IntKind.u8.wrap ((v/256^(4-(i+1)):Nat):Int)=((acZ (v/256^(4-(i+1)))).toNat:Int):=by
   rw[IntKind.wrap_u8];simp
  have hv2:v/256^(4-(i+1))<256^4:=adC (agy _ _) hv;have hlen:p+i<(dT (lay A (p+(i+1)) (be (4-(i+1)) v)) n).length:=by rw[nG];omega
  refine cI ?_;refine Li ((Cv T.qw T.EP (hz:=IY))) ?_;refine Li ((Xz T.eC (j:=i))) ?_;refine Lp (oS T.qc ?_ (i:=p+i) (hi:=hlen));rw[vF _ _ _ _ (by omega)];refine aZ ?_;refine Li (Sr 7) ?_;refine Li (Sr 1) ?_;refine cI ?_;refine az ?_;have el:lay (lay A (p+(i+1)) (be (4-(i+1)) v)) (p+i) [acZ (v/256^(4-(i+1)))]=lay A (p+i) (be (4-i) v):=by
   rw[show 4-i=(4-(i+1))+1 by omega,be];exact tN A (p+i) _ _
  rw[el];refine ao (t:=2) (v':=(.int .u32 ((v/256^(4-i):Nat):Int))) rfl (by rw[xS,show 4-i=(4-(i+1))+1 by omega,adK,ag3]) ?_;refine Ro (i) (by omega) (by omega)
 intro hk;replace hk:=aD hk;obtain rfl:j=0:=by omega
 refine cN ?_;refine Rt [ag ab 5 (dT (wr A p 4 v) n)] results158 ?_;exact⟨rfl,rfl⟩
theorem xR (x:Nat):((x:Int).fdiv (2^(min 7 IntKind.u64.bits))).fdiv (2^(min 1 IntKind.u64.bits))=((x/256:Nat):Int):=by
 rw[show(2:Int)^(min 7 IntKind.u64.bits)=128 from rfl,show(2:Int)^(min 1 IntKind.u64.bits)=2 from rfl,adj _ (by decide),adj _ (by decide)];omega
theorem sx:aH acw 240 [] (λ_=>True) [] (λv H=>v= .int .i64 8∧H= []):=by
 refine ae func240 rfl ntmps240 rfl ?_;intro F _;refine qa ?_;refine Lo (ι:=Nat) [5,6,9,10,11,1,7,8,2] (λk=>k≤8) (λk=> [(1, .int .u64 ((256^(8-k)-1:Nat):Int)),(2, .int .i64 (k:Int))]) (λk=> []) (λk=>8-k) (0) (by simp) ?_;rintro k hI;refine bc ?_;refine av rfl ?_ ?_
 ·intro hk
  replace hk:=aD hk;have bX:k<8:=by
   refine acH λhh=> ?_;rw[show 8-k=0 by omega]at hk;exact absurd hk (by decide)
  refine bB ?_;refine Li (Sr 7) ?_;refine Li (Sr 1) ?_;refine cI ?_;refine az ?_;refine ao (t:=1) (v':=(.int .u64 ((256^(8-(k+1))-1:Nat):Int))) rfl (by rw[xR,show 8-k=(8-(k+1))+1 by omega,pw8]) ?_;refine Ro (k+1) (by omega) (by omega)
 intro hk;replace hk:=aD hk;have rB:k=8:=by
  refine acH λhh=> ?_;have:256≤256^(8-k):=ahw (show 8-k≠0 by omega) 256;omega
 subst rB;refine bw ?_;refine Rt [] results240 ?_;exact⟨rfl,rfl⟩
theorem Gl (a ab aq n p:Nat)(A:By)(h0:0<aq)(h1:p+8≤n)(h2:n≤1073741824)(h3:p % aq+8≤aq)(h4:aq≤1048576):
  aH acw 203 [.pointer (some ⟨a,0,none⟩), .int .i64 (p:Int)] (λh=>In (ag a 192 (iq ab aq n)) h∧In (ag ab 5 (dT A n)) h) []
   (λv H=>v= .tuple #[.int .u64 ((rd A p 8:Nat):Int), .int .i64 0]∧H= []):=by
 refine ae func203 rfl ntmps203 rfl ?_;rintro F ⟨ha,hb⟩;refine nj ?_;refine zl T.OJ (sx) .nil (λ_ _ _=>trivial) ?_;refine zl T.nw (iO a ab aq n p 8 h0 h1 h2 h3 h4) .nil (λ_ le _=>by obtain⟨k,q1,q2⟩:=ha;exact⟨k,q1,q2.trans le⟩) ?_;simp only[IZ,show¬8=0 by decide,if_false];refine bT ?_;refine aR ?_;refine Lo (ι:=Nat) [25,26,27,10,28,29,30,31,32,33,8,34,24] (λk=>k≤8) (λk=> [(8, .int .u64 ((rd A p k:Nat):Int)),(24, .int .i64 (k:Int))]) (λk=> []) (λk=>8-k) (0) (by simp) ?_;rintro k hI;refine aZ ?_;refine au ?_;refine av rfl ?_ ?_
 ·intro hk
  replace hk:=aD hk;have bX:k<8:=by omega
  have k1:=FA A n (p+k) (by omega);have hl:=oO A p (k+1);have D5:256^(k+1)≤256^8:=ady (by decide) bX;have hc:=(A (p+k)).toNat_lt;have hs:=AU A p k;refine bc ?_;refine Li ((Xz T.eC)) ?_;refine Lp (oL T.qc ?_ (hk:=wk (i:=p+k) hb k1));refine aR ?_;refine Li (Sh 7) ?_;refine Li (Sh 1) ?_;refine a8 ?_;refine Li ((Im (hz:=JT hc (by rw[←hs];exact adH hl D5)))) ?_;refine bH ?_;refine az ?_;rw[←hs];refine Ro (k+1) (by omega) (by omega)
 intro hk;replace hk:=aD hk;have rB:k=8:=by omega
 subst rB;refine bK ?_;refine iH [] results203 ?_;exact⟨rfl,rfl⟩
theorem Gc (a ab aq n p v:Nat)(A:By)(hv:v<256^8)(h0:0<aq)(h1:p+8≤n)(h2:n≤1073741824)(h3:p % aq+8≤aq)(h4:aq≤1048576):
  aH acw 254 [.pointer (some ⟨a,0,none⟩), .int .i64 (p:Int), .int .u64 (v:Int)] (In (ag a 192 (iq ab aq n))) [ag ab 5 (dT A n)]
   (λu H=>u= .int .i64 0∧H= [ag ab 5 (dT (wr A p 8 v) n)]):=by
 refine ae func254 rfl ntmps254 rfl ?_;intro F ha;refine fF ?_;refine zl T.OJ (sx) .nil (λ_ _ _=>trivial) ?_;refine zl T.nw (iO a ab aq n p 8 h0 h1 h2 h3 h4) .nil (λ_ le _=>by obtain⟨k,q1,q2⟩:=ha;exact⟨k,q1,q2.trans le⟩) ?_;simp only[IZ,show¬8=0 by decide,if_false];refine bT ?_;refine a8 ?_;have iY:lay A (p+8) (be (8-8) v)=A:=rT A _;refine aC (H':= [ag ab 5 (dT (lay A (p+8) (be (8-8) v)) n)]) (by rw[iY];exact λ_ x=>x) ?_;refine Lo (ι:=Nat) [24,25,28,29,30,31,32,33,34,35,2,26,27,9] (λj=>j≤8) (λj=> [(2, .int .u64 ((v/256^(8-j):Nat):Int)),(9, .int .i64 ((j:Int)-1))]) (λj=> [ag ab 5 (dT (lay A (p+j) (be (8-j) v)) n)]) (λj=>j) (8) (acG _) ?_;rintro j hI;refine bc ?_;refine av rfl ?_ ?_
 ·intro hk
  replace hk:=aD hk;obtain⟨i,rfl⟩:∃i,j=i+1:=⟨j-1,by omega⟩;have IY:IntKind.u8.wrap ((v/256^(8-(i+1)):Nat):Int)=((acZ (v/256^(8-(i+1)))).toNat:Int):=by
   rw[IntKind.wrap_u8];simp
  have hv2:v/256^(8-(i+1))<256^8:=adC (agy _ _) hv;have hlen:p+i<(dT (lay A (p+(i+1)) (be (8-(i+1)) v)) n).length:=by rw[nG];omega
  refine cI ?_;refine Li ((Cv T.qw T.GX (hz:=IY))) ?_;refine Li ((Xz T.eC (j:=i))) ?_;refine Lp (oS T.qc ?_ (i:=p+i) (hi:=hlen));rw[vF _ _ _ _ (by omega)];refine aZ ?_;refine Li (Sr 7) ?_;refine Li (Sr 1) ?_;refine cI ?_;refine az ?_;have el:lay (lay A (p+(i+1)) (be (8-(i+1)) v)) (p+i) [acZ (v/256^(8-(i+1)))]=lay A (p+i) (be (8-i) v):=by
   rw[show 8-i=(8-(i+1))+1 by omega,be];exact tN A (p+i) _ _
  rw[el];refine ao (t:=2) (v':=(.int .u64 ((v/256^(8-i):Nat):Int))) rfl (by rw[xR,show 8-i=(8-(i+1))+1 by omega,adK,ag3]) ?_;refine Ro (i) (by omega) (by omega)
 intro hk;replace hk:=aD hk;obtain rfl:j=0:=by omega
 refine cN ?_;refine Rt [ag ab 5 (dT (wr A p 8 v) n)] results254 ?_;exact⟨rfl,rfl⟩
theorem In.mono{A:aa}{h k:Hp}(i:In A h)(l:Le h k):In A k:=by
 obtain⟨m,a,b⟩:=i;exact⟨m,a,b.trans l⟩
theorem aci{ab n p m:Nat}{A:By}{h:Hp}(hb:In (ag ab 5 (dT A n)) h)(hn:p+m≤n):dU h (some (IZ ab p m)) (ai (jt A p m)):=by
 obtain⟨k,q1,q2⟩:=hb;by_cases hm:m=0
 ·subst hm;rw[QR];exact dU.nil
 have:=(pF (i:=p) q1).mono q2;unfold IZ;rw[if_neg hm,←Tj A n p m hn];exact this.take m
theorem FL (a:Option Addr)(l:List UInt8)(m c:Nat)(hm:m=l.length)(hl:l.length≤1073741824):
  aH acw 239 [.slice a m c] (λh=>dU h a (ai l)) [] (λv H=>∃b,v= .slice (some ⟨b,0,none⟩) m m∧H= [own (some ⟨b,0,none⟩) m 5 1 (ai l)]):=by
 refine ae func239 rfl ntmps239 rfl ?_;intro F hF;refine bB ?_;refine Lp (oM (m) (m) T.gj λb1=> ?_);refine bc ?_;refine Lp (HQ T.gj rfl rfl rfl rfl .here (dJ (news:=ai l) (by simp[hm]) λh le _=>hF.mono le) cY (by rw[jJ];omega) rfl ?_);have hz:bU (gu [.int .u8 0] (m*1)) 0 ((ai l).take (min m m*1))=ai l:=by
  rw[aiw,ahM (by simp[hm]),lI (by rw[jJ];simp[hm])];simp[hm,jJ]
 rw[hz];refine aC (λ_ s=>bm (λ_ p=>nK p m 1 (by simp[hm]) (by simp only[maxLen];omega)) s) ?_;refine bB ?_;refine Rt [own (some ⟨b1,0,none⟩) m 5 1 (ai l)] results239 ?_;exact⟨_,rfl,rfl⟩
theorem Ga (a ab aq n p m:Nat)(A:By)(h0:0<aq)(h1:p+m≤n)(h2:n≤1073741824)(h3:p % aq+m≤aq)(h4:aq≤1048576):
  aH acw 200 [.pointer (some ⟨a,0,none⟩), .int .i64 (p:Int), .int .i64 (m:Int)] (λh=>In (ag a 192 (iq ab aq n)) h∧In (ag ab 5 (dT A n)) h) []
   (λv H=>∃b,v= .tuple #[.slice (some ⟨b,0,none⟩) m m, .int .i64 0]∧H= [own (some ⟨b,0,none⟩) m 5 1 (ai (jt A p m))]):=by
 refine ae func200 rfl ntmps200 rfl ?_;rintro F ⟨ha,hb⟩;refine cI ?_;refine zl T.nw (iO a ab aq n p m h0 h1 h2 h3 h4) .nil (λ_ le _=>ha.mono le) ?_;refine qa ?_;refine Lp (oC T.aa0 rfl rfl (FL (some (IZ ab p m)) (jt A p m) m m (dC A p m).symm (by rw[dC];omega)) .nil (λ_ le _=>(aci hb h1).mono le) ?_);rintro v H' ⟨b,rfl,rfl⟩;refine bd ?_;refine aR ?_;refine iH [own (some ⟨b,0,none⟩) m 5 1 (ai (jt A p m))] results200 ?_;exact⟨_,rfl,rfl⟩
theorem pq (a ab aq n p m c:Nat)(A:By)(s:Option Addr)(l:List UInt8)(hm:m=l.length)(h0:0<aq)(h1:p+m≤n)(h2:n≤1073741824)(h3:p % aq+m≤aq)(h4:aq≤1048576):
  aH acw 222 [.pointer (some ⟨a,0,none⟩), .int .i64 (p:Int), .slice s m c] (λh=>In (ag a 192 (iq ab aq n)) h∧dU h s (ai l)) [ag ab 5 (dT A n)]
   (λv H=>v= .int .i64 0∧H= [ag ab 5 (dT (lay A p l) n)]):=by
 refine ae func222 rfl ntmps222 rfl ?_;rintro F ⟨ha,hb⟩;refine cI ?_;refine zl T.nw (iO a ab aq n p m h0 h1 h2 h3 h4) .nil (λ_ le _=>ha.mono le) ?_;refine kx ?_;have hz:bU (dT A n) (if m=0 then 0 else p) ((ai l).take (min m m*1))=dT (lay A p l) n:=by
  rw[aiw,ahM (by simp[hm])];by_cases h0:m=0
  ·have:l= []:=acW (by omega)
   subst this;rw[rT];rfl
  rw[if_neg h0,lI (by rw[nG];simp;omega),←IK A n p l (by omega)];simp[adr]
 refine Lp (HQ T.gj rfl rfl rfl rfl .here (dJ (news:=ai l) (by simp[hm]) λh le _=>hb.mono le) cY (by rw[nG];split<;>omega) rfl ?_);rw[hz];refine bc ?_;refine Rt [ag ab 5 (dT (lay A p l) n)] results222 ?_;exact⟨rfl,rfl⟩
theorem Gq (a ab aq n p m:Nat)(A:By)(c:UInt8)(hm:0<m)(h0:0<aq)(h1:p+m≤n)(h2:n≤1073741824)(h3:p % aq+m≤aq)(h4:aq≤1048576):
  aH acw 157 [.pointer (some ⟨a,0,none⟩), .int .i64 (p:Int), .int .i64 (m:Int), .int .u8 (c.toNat:Int)] (In (ag a 192 (iq ab aq n))) [ag ab 5 (dT A n)]
   (λv H=>v= .int .i64 0∧H= [ag ab 5 (dT (lay A p (acA m c)) n)]):=by
 refine ae func157 rfl ntmps157 rfl ?_;rintro F ha;refine bH ?_;refine zl T.nw (iO a ab aq n p m h0 h1 h2 h3 h4) .nil (λ_ le _=>ha.mono le) ?_;simp only[IZ,show¬m=0 by omega,if_false];refine bT ?_;refine ay ?_;refine aC (H':= [ag ab 5 (dT (lay A p (acA 0 c)) n)]) (by rw[List.replicate_zero,rT];exact λ_ x=>x) ?_;refine Lo (ι:=Nat) [24,25,11,26,27,28,29,30,23] (λk=>k≤m) (λk=> [(23, .int .i64 (k:Int))]) (λk=> [ag ab 5 (dT (lay A p (acA k c)) n)]) (λk=>m-k) (0) (by simp) ?_;rintro k hI;refine aZ ?_;refine au ?_;refine av rfl ?_ ?_
 ·intro hk
  replace hk:=aD hk;have bX:k<m:=by omega
  have hlen:p+k<(dT (lay A p (acA k c)) n).length:=by rw[nG];omega
  refine dQ ?_;refine Li ((Xz T.eC)) ?_;refine Lp (oS T.qc ?_ (i:=p+k) (hi:=hlen));rw[vF _ _ _ _ (by omega)];have el:lay (lay A p (acA k c)) (p+k) [c]=lay A p (acA (k+1) c):=by
   have:=Wf A p (acA k c) [c];rw[adp]at this;rw[this,List.replicate_succ']
  rw[el];refine bB ?_;refine az ?_;refine Ro (k+1) (by omega) (by omega)
 intro hk;replace hk:=aD hk;obtain rfl:k=m:=by omega
 refine cN ?_;refine Rt [ag ab 5 (dT (lay A p (acA k c)) n)] results157 ?_;exact⟨rfl,rfl⟩
theorem zr (a ab aq n:Nat)(h2:n≤1073741824):
  aH acw 192 [.pointer (some ⟨a,0,none⟩)] (In (ag a 192 (iq ab aq n))) [] (λv H=>v= .int .i64 (n:Int)∧H= []):=by
 refine ae func192 rfl ntmps192 rfl ?_;intro F h0;unfold iq at h0;refine dQ ?_;refine Rt [] results192 ?_;exact⟨rfl,rfl⟩
def jZ (c:pB):List Value:= [.int .i64 c.aq, .int .i64 c.cH, .int .i64 c.fac, .int .i64 c.bO, .int .i64 c.lim, .int .i64 c.hot, .int .i64 c.warm]
def aV (l:List Nat):List Value:=l.map λn:Nat=> .int .i64 (n:Int)
def aJ (l:List Nat):List Value:=l.map λn:Nat=> .int .u32 (n:Int)
def tZ (l:List Bool):List Value:=l.map λb=> .bool b
def oE (l:List (Nat×Nat)):List (Value×Value):=l.map λp=>(.int .i64 (p.1:Int), .int .u32 (p.2:Int))
def Tz (b:Option Nat)(n:Nat):Value:=match b with
 |some b=> .slice (some ⟨b,0,none⟩) n n
 |none=> .slice none 0 0
def jV (b:Option Nat)(e:TypeId)(cs:List Value):aa:=match b with
 |some b=>ag b e cs
 |none=>Jb
def Eg (b:Option Nat)(es:List (Value×Value)):aa:=match b with
 |some b=>mq (.int .i64) b es
 |none=>Jb
structure uT where
 p:Pg
 gb:Option Nat
 tb:Option Nat
 ob:Option Nat
def eZ (x:uT):List Value:= [.bool x.p.own, .bool x.p.lv, .int .i64 (x.p.cl:Int),Tz x.gb x.p.bq.length,Tz x.tb x.p.tk.length, .int .i64 (x.p.held:Int), .map x.ob]
theorem dh:∀x,(eZ x).length=7:=λ_=>rfl
def ot (x:uT):aa:=aN [jV x.gb 163 (aJ x.p.bq),jV x.tb 4 (tZ x.p.tk),Eg x.ob (oE x.p.old)]
structure YG (x:uT):Prop where
 g:x.gb.isSome=x.p.own
 t:x.tb.isSome=x.p.own
 o:x.ob=none→x.p.old= []
structure Ey where
 r:Rw
 a:Option Addr
 c:Nat
def eW (x:Ey):List Value:= [.slice x.a x.r.free.length x.c, .int .i64 (x.r.gQ:Int), .int .i64 (x.r.cH:Int), .int .i64 (x.r.mc:Int)]
theorem dg:∀x,(eW x).length=4:=λ_=>rfl
def lC (x:Ey):aa:=own x.a x.c 3 1 (aV x.r.free)
structure Lc where
 a:Nat
 ab:Nat
 sa:Nat
 pb:Nat
 rb:Nat
 sc:Nat
 pl:List uT
 rl:List Ey
def eh (C:Cs)(y:Lc):List Value:= [.int .i64 (C.aq:Int), .int .i64 (C.n:Int), .int .i64 C.cfg.fac, .int .i64 C.cfg.bO, .int .i64 C.cfg.lim, .int .i64 C.cfg.hot, .int .i64 C.cfg.warm, .pointer (some ⟨y.a,0,none⟩), .slice (some ⟨y.sa,0,none⟩) C.af.length y.sc, .slice (some ⟨y.pb,0,none⟩) C.n C.n, .slice (some ⟨y.rb,0,none⟩) C.af.length C.af.length, .int .i64 (C.spare:Int)]
def p7 (C:Cs)(y:Lc):aa:=own (some ⟨y.sa,0,none⟩) y.sc 3 1 (aV C.af)
def qC (b:Nat)(C:Cs)(y:Lc):List aa:=
 [ag b 136 (eh C y),p7 C y,ag y.pb 224 (y.pl.flatMap eZ),aN (y.pl.map ot),ag y.rb 253 (y.rl.flatMap eW),aN (y.rl.map lC),
  ag y.a 192 (iq y.ab C.aq (C.n*C.aq)),ag y.ab 5 (dT C.A (C.n*C.aq))]
structure gL (C:Cs)(y:Lc):Prop where
 pl:y.pl.map (·.p)=C.cR
 rl:y.rl.map (·.r)=C.rows
 pk:∀x∈y.pl,YG x
 aq:C.cfg.aq=(C.aq:Int)
 cH:C.cfg.cH=(C.n:Int)
def Cl (b:Nat)(C:Cs):aa:=λh=>∃y,gL C y∧aN (qC b C y) h
theorem HO{P:Program}{f:FuncId}{args:List Value}{pre:Hp→Prop}{H:List aa}{R:Value→List aa→Prop}{b:Nat}{C:Cs}(h:∀y,gL C y→aH P f args pre (qC b C y++H) R):aH P f args pre (Cl b C::H) R:=
 aH.exL λy=>aH.Cb λhy=>aH.EU (h y hy)
theorem xB{b:Nat}{C:Cs}{y:Lc}{H:List aa}{h:Hp}(hy:gL C y)(st:ak (qC b C y++H) h):ak (Cl b C::H) h:=
 bm (λ_ p=>⟨y,hy,p⟩) (fN st)
theorem Yy{b:Nat}{C:Cs}{h:Hp}(o:In (Cl b C) h):∃y,gL C y∧hJ (qC b C y) h:=by
 obtain⟨k,⟨y,hy,p⟩,l⟩:=o;exact⟨y,hy,cM p l⟩
theorem vE{C:Cs}{y:Lc}(K:Cs.Ok C)(hy:gL C y){i:Nat}(hi:i<C.n):∃x,y.pl[i]?=some x∧x.p=C.pg i∧YG x:=by
 have h1:=Cs.mA (C:=C) (i:=i) (by rw[K.pl];exact hi);rw[←hy.pl,acL,Option.map_eq_some_iff]at h1;obtain⟨x,h2,h3⟩:=h1;exact⟨x,h2,h3,hy.pk x (acB h2)⟩
theorem wO{C:Cs}{y:Lc}(K:Cs.Ok C)(hy:gL C y){c:Nat}(hc:c<C.af.length):∃x,y.rl[c]?=some x∧x.r=C.rw c:=by
 have h1:=Cs.XJ (C:=C) (c:=c) (by rw[K.rl];exact hc);rw[←hy.rl,acL,Option.map_eq_some_iff]at h1;exact h1
theorem jG{l:List Nat}{i n:Nat}(h:l[i]?=some n):(aV l)[i]?=some (.int .i64 (n:Int)):=by unfold aV;rw[acL,h];rfl
theorem rM{l:List Nat}{i n:Nat}(h:l[i]?=some n):(aJ l)[i]?=some (.int .u32 (n:Int)):=by unfold aJ;rw[acL,h];rfl
theorem Fz{l:List Bool}{i:Nat}{b:Bool}(h:l[i]?=some b):(tZ l)[i]?=some (.bool b):=by unfold tZ;rw[acL,h];rfl
theorem ud{C:Cs}{c:Nat}(h:c<C.af.length):C.af[c]?=some (C.sz c):=by
 unfold Cs.sz;rw[acy,acx h];rfl
theorem vu{C:Cs}{p:Nat}(h:C.ix p<(C.pg (C.pn p)).bq.length):(C.pg (C.pn p)).bq[C.ix p]?=some (C.gen p):=by
 unfold Cs.gen;rw[acy,acx h];rfl
theorem kP{h:Hp}{b k:Nat}{cells:List Value}{v:Value}(r:dU h (some ⟨b,0,none⟩) cells)(hv:cells[k]?=some v):dY h ⟨b,k,none⟩=some v:=by
 obtain⟨ad,e,hc⟩:=r k v hv;cases e
 rwa[add_lit,acQ]at hc
structure Cv0 (b:Nat)(C:Cs)(y:Lc)(h:Hp):Prop where
 s:In (ag b 136 (eh C y)) h
 z:dU h (some ⟨y.sa,0,none⟩) (aV C.af)
 p:In (ag y.pb 224 (y.pl.flatMap eZ)) h
 r:In (ag y.rb 253 (y.rl.flatMap eW)) h
 a:In (ag y.a 192 (iq y.ab C.aq (C.n*C.aq))) h
 A:In (ag y.ab 5 (dT C.A (C.n*C.aq))) h
structure Cvp (C:Cs)(y:Lc)(i:Nat)(h:Hp)(x:uT)(gb tb:Nat):Prop where
 x1:y.pl[i]?=some x
 e:x.p=C.pg i
 g:x.gb=some gb
 t:x.tb=some tb
 k0:(y.pl.flatMap eZ)[i*7]?=some (.bool true)
 k1:(y.pl.flatMap eZ)[i*7+1]?=some (.bool (C.pg i).lv)
 k2:(y.pl.flatMap eZ)[i*7+2]?=some (.int .i64 ((C.pg i).cl:Int))
 k3:(y.pl.flatMap eZ)[i*7+3]?=some (.slice (some ⟨gb,0,none⟩) (C.pg i).bq.length (C.pg i).bq.length)
 k4:(y.pl.flatMap eZ)[i*7+4]?=some (.slice (some ⟨tb,0,none⟩) (C.pg i).bq.length (C.pg i).bq.length)
 k5:(y.pl.flatMap eZ)[i*7+5]?=some (.int .i64 ((C.pg i).held:Int))
 hg:In (ag gb 163 (aJ (C.pg i).bq)) h
 ht:In (ag tb 4 (tZ (C.pg i).tk)) h
theorem agk{b:Nat}{C:Cs}{h:Hp}(K:Cs.Ok C){y:Lc}(hy:gL C y)(hi:hJ (qC b C y) h){i:Nat}(h1:i<C.n)(h2:(C.pg i).own=true):∃x gb tb,Cvp C y i h x gb tb:=by
 obtain⟨x,x1,x2,x3⟩:=vE K hy h1;have own:=h2;rw[←x2]at own;obtain⟨gb,BD⟩:∃g,x.gb=some g:=Option.isSome_iff_exists.1 (x3.g.trans own);obtain⟨tb,BC⟩:∃g,x.tb=some g:=Option.isSome_iff_exists.1 (x3.t.trans own);have P:Cs.mw C (C.pg i):=K.pg _ (Cs.gM (by rw[K.pl];exact h1));have tl:=P.tl;have c:∀j v,(eZ x)[j]?=some v→(y.pl.flatMap eZ)[i*7+j]?=some v:=λj v hv=>bE dh x1 hv;obtain⟨_,_,_,h3,_⟩:=hi;obtain⟨g1,g2,_⟩:=rZ (o5 h3 (acB x1));rw[BD]at g1;rw[BC]at g2;rw[x2]at g1 g2;refine⟨x,gb,tb,x1,x2,BD,BC, ?_, ?_, ?_, ?_, ?_, ?_,g1,g2⟩
 ·have:=c 0 _ rfl;rw[own]at this;exact this
 ·have:=c 1 _ rfl;rw[x2]at this;exact this
 ·have:=c 2 _ rfl;rw[x2]at this;exact this
 ·have:=c 3 _ rfl;rw[BD,x2]at this;exact this
 ·have:=c 4 _ rfl;rw[BC,x2,tl]at this;exact this
 have:=c 5 _ rfl;rw[x2]at this;exact this
theorem UQ{b:Nat}{C:Cs}{h:Hp}(K:Cs.Ok C){y:Lc}(hy:gL C y)(hi:hJ (qC b C y) h){p:Nat}(L:Cs.At C p):∃x gb tb,Cv0 b C y h∧Cvp C y (C.pn p) h x gb tb∧dY h ⟨y.sa,C.cl p,none⟩=some (.int .i64 (C.sz (C.cl p):Int)):=by
 obtain⟨x,gb,tb,V⟩:=agk K hy hi L.i L.own;obtain⟨h0,h1,h2,h3,h4,h5,h6,h7,_⟩:=hi;exact⟨x,gb,tb,⟨h0,bD h1,h2,h4,h6,h7⟩,V,kP (bD h1) (jG (ud (L.bo K).1))⟩
theorem wq{P:Program}{f:FuncId}{args:List Value}{H:List aa}{R:Value→List aa→Prop}{b:Nat}{C:Cs}(h:∀y,gL C y→aH P f args (hJ (qC b C y)) H R):aH P f args (In (Cl b C)) H R:=λF w hp s=>by
 obtain⟨y,hy,hi⟩:=Yy hp;exact h y hy F w hi s
theorem dt{L:List aa}{h k:Hp}(i:hJ L h)(l:Le h k):hJ L k:=by
 induction L with
 |nil=>trivial
 |cons A L ih=>exact⟨Wv i.1 l,ih i.2⟩
open Go Go.dL Go.Proofs.YtdolmecackmjdaaGreatDoor.Cs
theorem zA (p g:Nat)(hp:p≤1073741824)(hg:g<4294967296):aH acw 159 [.int .i64 (p:Int), .int .u32 (g:Int)] (λ_=>True) [] (λv H=>v= .int .u64 ((g*4294967296+(p/8+1):Nat):Int)∧H= []):=by
 refine ae func159 rfl ntmps159 rfl ?_;intro F _;refine bB ?_;refine Li ((Sh 32 (z:=((g*4294967296:Nat):Int)) (hz:=by rw[show(2:Int)^(min 32 IntKind.u64.bits)=4294967296 from rfl,wrap_u64 (by omega)];omega))) ?_;refine ay ?_;refine Li (Qu (q:=8)) ?_;refine bB ?_;refine Rt [] results159 ?_;refine⟨?_,rfl⟩
 congr 1
theorem Dp (b:Nat)(C:Cs)(y:Lc)(K:Ok C)(hy:gL C y)(p:Nat)(L:At C p):
  aH acw 193 [.pointer (some ⟨b,0,none⟩), .int .i64 (p:Int)] (hJ (qC b C y)) []
   (λv H=>v= .tuple #[.pointer (some ⟨y.pb,C.pn p*7,none⟩), .int .i64 (C.ix p:Int), .bool true]∧H= []):=by
 obtain⟨n1,n2,n3,n4,n5,n6,n7,n8⟩:=L.bo K;have nb:=gh K.toFix;have f0:=K.toFix.p0;have f1:=K.toFix.p1;refine ae func193 rfl ntmps193 rfl ?_;intro F aw;obtain⟨x,gb,tb,⟨h0,_,h2,_,h6,h7⟩,V,kz⟩:=UQ K hy aw L;obtain⟨_,_,_,_,k0,_,k2,k3,k4,_,hg,ht⟩:=V;change _=some (Value.int .i64 (C.cl p:Int))at k2;unfold eh at h0;have hi:=L.i;have ek:=L.k;have hal:=L.al;have hm:=agX p (show 0<C.aq by omega);refine bw ?_;refine zf 12 ?_;refine bc ?_;refine zl T.OV (zr y.a y.ab C.aq (C.n*C.aq) nb) .nil (λ_ le _=>In.mono h6 le) ?_;refine aZ ?_;refine cu ?_;refine a8 ?_;refine au ?_;refine gT false T.mix ?_;refine bw ?_;refine Ti (Qu) ?_;refine bT ?_;refine ay ?_;refine Li (Rm) ?_;refine a8 ?_;refine au ?_;refine gT false T.mix ?_;refine gR ?_;refine au ?_;refine gT false T.mix ?_;refine a8 ?_;refine Ti (Rm) ?_;refine a8 ?_;refine zf 59 ?_ (e:=by exact(by rw[hal];rfl));refine a8 ?_;refine Ti (Qu) ?_;refine cI ?_;refine cu ?_ (e:=by exact decide_eq_false (by unfold Cs.ix at ek;omega));refine a8 ?_;refine au ?_;refine gT false T.mix ?_;refine aZ ?_;refine Ti (Qu) ?_;refine bc ?_;refine Rt3 [] results193 ?_;exact⟨rfl,rfl⟩
theorem Iv (b:Nat)(C:Cs)(y:Lc)(K:Ok C)(hy:gL C y)(p:Nat)(L:Live C p):
  aH acw 125 [.pointer (some ⟨b,0,none⟩), .int .u64 (C.hd p:Int)] (hJ (qC b C y)) []
   (λv H=>v= .tuple #[.pointer (some ⟨y.pb,C.pn p*7,none⟩), .int .i64 (C.ix p:Int), .int .i64 (p:Int), .bool true]∧H= []):=by
 obtain⟨n1,n2,n3,n4,n5,n6⟩:=cB K L.toAt;have nb:=gh K.toFix;have hg:=Live.Ax K L.toAt;refine ae func125 rfl ntmps125 rfl ?_;intro F aw;obtain⟨x,gb,tb,⟨h0,_,h2,_,h6,h7⟩,V,kz⟩:=UQ K hy aw L.toAt;obtain⟨_,_,_,_,k0,_,k2,k3,k4,_,hgn,ht⟩:=V;unfold eh at h0;have ek:=L.k;have kt:=Fz L.tk;have kg:=rM (vu ek);refine cI ?_;refine Li ((Im (hz:=ago n5))) ?_;rw[n1];refine bH ?_;refine zf 17 ?_;refine bc ?_;refine zl T.OV (zr y.a y.ab C.aq (C.n*C.aq) nb) .nil (λ_ le _=>In.mono h6 le) ?_;refine Li (Qu (q:=8)) ?_;refine aR ?_;refine cu ?_;refine dQ ?_;rw[show(((p/8+1:Nat):Int)-1)*8=(p:Int) by omega];refine zl T.OU (Dp b C y K hy p L.toAt) .nil (λ_ le _=>dt aw le) ?_;refine gR ?_;refine zf 41 ?_ (e:=by rfl);refine bw ?_;refine zf 51 ?_ (e:=by rfl);refine cI ?_;refine Li ((Sr 32 (z:=((C.gen p:Nat):Int)) (hz:=by rw[aeT,n2]))) ?_;refine aR ?_;refine cu ?_ (e:=by exact(by rw[decide_eq_true rfl];rfl));refine dQ ?_;refine Rt4 [] results125 ?_;exact⟨rfl,rfl⟩
theorem wC (b:Nat)(C:Cs)(K:Ok C)(p:Nat)(L:Live C p):
  aH acw 80 [.pointer (some ⟨b,0,none⟩), .int .u64 (C.hd p:Int)] (In (Cl b C)) [] (λv H=>v= .tuple #[.int .i64 (p:Int), .int .i64 (C.cl p:Int), .int .i64 0]∧H= []):=by
 refine wq λy hy=> ?_;refine ae func80 rfl ntmps80 rfl ?_;intro F aw;obtain⟨x,gb,tb,⟨h0,_,h2,_,h6,h7⟩,V,kz⟩:=UQ K hy aw L.toAt;obtain⟨_,_,_,_,k0,_,k2,k3,k4,_,hgn,ht⟩:=V;change _=some (Value.int .i64 (C.cl p:Int))at k2;refine cI ?_;refine zl T.Pz (Iv b C y K hy p L) .nil (λ_ le _=>dt aw le) ?_;refine z7 ?_;refine au ?_;refine gT false T.mix ?_;refine bw ?_;refine Rt3 [] results80 ?_;exact⟨rfl,rfl⟩
theorem XP (b:Nat)(C:Cs)(K:Ok C)(p:Nat)(L:Live C p):
  aH acw 127 [.pointer (some ⟨b,0,none⟩), .int .i64 (p:Int)] (In (Cl b C)) [] (λv H=>v= .tuple #[.int .u64 (C.hd p:Int), .bool true]∧H= []):=by
 refine wq λy hy=> ?_;have nb:=gh K.toFix;obtain⟨_,_,_,_,_,_,_,n8⟩:=L.toAt.bo K;refine ae func127 rfl ntmps127 rfl ?_;intro F aw;obtain⟨x,gb,tb,⟨h0,_,h2,_,h6,h7⟩,V,kz⟩:=UQ K hy aw L.toAt;obtain⟨_,_,_,_,k0,_,k2,k3,k4,_,hgn,ht⟩:=V;have ek:=L.k;have kt:=Fz L.tk;have kg:=rM (vu ek);refine bH ?_;refine zl T.OU (Dp b C y K hy p L.toAt) .nil (λ_ le _=>dt aw le) ?_;refine gR ?_;refine zf 18 ?_ (e:=by rfl);refine bT ?_;refine a8 ?_;refine zl T.O8 (zA p (C.gen p) (by omega) (Live.Ax K L.toAt)) .nil (λ_ _ _=>trivial) ?_;refine aR ?_;refine iH [] results127 ?_;exact⟨rfl,rfl⟩
theorem An{α:Type}(f:α→Nat)(h:∀x,f x≤1):∀l:List α,(l.map f).sum≤l.length
 | []=>acG _
 |x::l=>by
  have:=An f h l;have:=h x;simp only[acM,ac0,ac7];omega
theorem Cs.Ok.le{C:Cs}(K:Ok C):C.spare≤C.n∧∀c,c<C.af.length→(C.rw c).mc≤C.n∧(C.rw c).cH≤C.n:=by
 have h:∀f:Pg→Nat,(∀x,f x≤1)→C.D9 f≤C.n:=λf hf=>by
  have:=An f hf C.cR;rw[K.pl]at this;exact this
 refine⟨by rw[K.sp];exact h _ λx=>by unfold yk;split<;>omega,λc hc=>⟨by rw[K.fs c hc];exact h _ λx=>by unfold BP;split<;>omega,by rw[K.fp c hc];exact h _ λx=>by unfold zX;split<;>omega⟩⟩
structure Cvr (C:Cs)(y:Lc)(c:Nat)(h:Hp)(x:Ey):Prop where
 x1:y.rl[c]?=some x
 e:x.r=C.rw c
 k0:(y.rl.flatMap eW)[c*4]?=some (.slice x.a (C.rw c).free.length x.c)
 k1:(y.rl.flatMap eW)[c*4+1]?=some (.int .i64 ((C.rw c).gQ:Int))
 k2:(y.rl.flatMap eW)[c*4+2]?=some (.int .i64 ((C.rw c).cH:Int))
 k3:(y.rl.flatMap eW)[c*4+3]?=some (.int .i64 ((C.rw c).mc:Int))
 f:dU h x.a (aV (C.rw c).free)
theorem agj{b:Nat}{C:Cs}{h:Hp}(K:Cs.Ok C){y:Lc}(hy:gL C y)(hi:hJ (qC b C y) h){c:Nat}(hc:c<C.af.length):∃x,Cvr C y c h x:=by
 obtain⟨x,x1,x2⟩:=wO K hy hc;have q:∀j v,(eW x)[j]?=some v→(y.rl.flatMap eW)[c*4+j]?=some v:=λj v hv=>bE dg x1 hv;obtain⟨_,_,_,_,_,h5,_⟩:=hi;have g1:=bD (o5 h5 (acB x1));rw[x2]at g1;refine⟨x,x1,x2, ?_, ?_, ?_, ?_,g1⟩
 ·have:=q 0 _ rfl;rw[x2]at this;exact this
 ·have:=q 1 _ rfl;rw[x2]at this;exact this
 ·have:=q 2 _ rfl;rw[x2]at this;exact this
 have:=q 3 _ rfl;rw[x2]at this;exact this
def isM (C:Cs)(c:Int):Bool:=decide (0≤c∧c<(C.af.length:Int))
def ofM (C:Cs)(c:Int)(f:Nat→Nat):Nat:=if 0≤c∧c<(C.af.length:Int)then f c.toNat else 0
theorem XX (b:Nat)(C:Cs)(y:Lc)(K:Ok C)(c:Int):aH acw 98 [.pointer (some ⟨b,0,none⟩), .int .i64 c] (hJ (qC b C y)) [] (λv H=>v= .bool (isM C c)∧H= []):=by
 refine ae func98 rfl ntmps98 rfl ?_;rintro F ⟨h0,_⟩;unfold eh at h0;refine bH ?_;refine aE (t:=7) rfl ?_ ?_
 ·intro h
  replace h:=aD h;refine bK ?_;refine Rt [] results98 ?_;refine⟨?_,rfl⟩;unfold isM
  congr 2
  simp[h]
 intro h;replace h:=aD h;refine bK ?_;refine Rt [] results98 ?_;refine⟨?_,rfl⟩;unfold isM;rw[decide_eq_false (by omega)]
theorem nL (b:Nat)(C:Cs):aH acw 60 [.pointer (some ⟨b,0,none⟩)] (In (Cl b C)) [] (λv H=>v= .int .i64 (C.af.length:Int)∧H= []):=by
 refine wq λy hy=> ?_;refine ae func60 rfl ntmps60 rfl ?_;rintro F ⟨h0,_⟩;unfold eh at h0;refine dQ ?_;refine Rt [] results60 ?_;exact⟨rfl,rfl⟩
theorem Bv (b:Nat)(C:Cs):aH acw 185 [.pointer (some ⟨b,0,none⟩)] (In (Cl b C)) [] (λv H=>v= .int .i64 (C.spare:Int)∧H= []):=by
 refine wq λy hy=> ?_;refine ae func185 rfl ntmps185 rfl ?_;rintro F ⟨h0,_⟩;unfold eh at h0;refine bK ?_;refine Rt [] results185 ?_;exact⟨rfl,rfl⟩
theorem L5 (b:Nat)(C:Cs):aH acw 61 [.pointer (some ⟨b,0,none⟩)] (In (Cl b C)) [] (λv H=>v= .agg (jZ C.cfg).toArray∧H= []):=by
 refine wq λy hy=> ?_;have hc:jZ C.cfg= [.int .i64 (C.aq:Int), .int .i64 (C.n:Int), .int .i64 C.cfg.fac, .int .i64 C.cfg.bO, .int .i64 C.cfg.lim, .int .i64 C.cfg.hot, .int .i64 C.cfg.warm]:=by
  unfold jZ;rw[hy.aq,hy.cH]
 rw[hc];refine ae func61 rfl ntmps61 rfl ?_;rintro F ⟨h0,_⟩;unfold eh at h0;refine ay ?_;refine Lp (oA T.Nl λb1=> ?_);refine cN ?_;refine ko [] T.Cq results61 ?_;exact⟨rfl,rfl⟩
theorem Tt (b:Nat)(C:Cs)(y:Lc):aH acw 199 [.pointer (some ⟨b,0,none⟩)] (hJ (qC b C y)) [] (λv H=>v= .pointer (some ⟨y.a,0,none⟩)∧H= []):=by
 refine ae func199 rfl ntmps199 rfl ?_;rintro F ⟨h0,_⟩;unfold eh at h0;refine bK ?_;refine Rt [] results199 ?_;exact⟨rfl,rfl⟩
theorem tU (b:Nat)(C:Cs)(K:Ok C)(c:Int):aH acw 62 [.pointer (some ⟨b,0,none⟩), .int .i64 c] (In (Cl b C)) [] (λv H=>v= .int .i64 (ofM C c λi=>C.sz i:Nat)∧H= []):=by
 refine wq λy hy=> ?_;refine ae func62 rfl ntmps62 rfl ?_;intro F aw;have h0:=aw.1;have h4:=aw.2.2.2.2.1;unfold eh at h0;refine bH ?_;refine zl T.Yc (XX b C y K c) .nil (λ_ le _=>dt aw le) ?_;unfold ofM isM;refine a8 ?_;refine av rfl ?_ ?_
 ·intro h
  replace h:=aD h;refine bc ?_;refine Rt [] results62 ?_;refine⟨?_,rfl⟩;rw[if_neg h];rfl
 intro h;replace h:=aD h;obtain⟨i,rfl⟩:∃i:Nat,c=(i:Int):=⟨c.toNat,by omega⟩;have hi:i<C.af.length:=by omega
 obtain⟨x,_,_,k0,k1,k2,k3,_⟩:=agj K hy aw hi;have kz:=kP (bD aw.2.1) (jG (ud hi));refine gR ?_;refine Rt [] results62 ?_;refine⟨?_,rfl⟩;rw[if_pos h];rfl
theorem aaX (b:Nat)(C:Cs)(K:Ok C)(n:Nat)(hn:1≤n):aH acw 179 [.pointer (some ⟨b,0,none⟩), .int .i64 (n:Int)] (In (Cl b C)) []
  (λv H=>v=(match C.af.findIdx? λz=>decide (n≤z)with
   |some c=> .tuple #[.int .i64 (c:Int), .int .i64 0]
   |none=> .tuple #[.int .i64 0, .int .i64 6])∧H= []):=by
 refine wq λy hy=> ?_;have l1:=K.toFix.l1;refine ae func179 rfl ntmps179 rfl ?_;intro F aw;have h0:=aw.1;unfold eh at h0;refine cN ?_;refine cu ?_;refine dQ ?_;refine Lo (ι:=Nat) [16,17,18,19,6,7,20,21,22,23,4,5,24,15] (λk=>k≤C.af.length∧∀j,j<k→C.sz j<n) (λk=> [(15, .int .i64 (k:Int))]) (λk=> []) (λk=>C.af.length-k) (0) ⟨acS _,λj hj=>absurd hj (agH j)⟩ ?_;rintro k ⟨hk0,rH⟩;refine aZ ?_;refine au ?_;refine av rfl ?_ ?_
 ·intro hk
  replace hk:=aD hk;have bX:k<C.af.length:=by omega
  have ks:=ud bX;have kz:=kP (bD aw.2.1) (jG ks);refine qa ?_;refine av rfl ?_ ?_
  ·intro hq
   replace hq:=aD hq;refine bK ?_;refine iH [] results179 ?_;refine⟨?_,rfl⟩;have:C.af.findIdx? (λz=>decide (n≤z))=some k:=by
    rw[acV];obtain⟨h1,h2⟩:=acz.1 ks;refine⟨h1,by rw[h2];simp;omega,λj hj=> ?_⟩;have h3:=rH j hj;obtain⟨h4,h5⟩:=acz.1 (ud (C:=C) (c:=j) (by omega));rw[h5];simp;omega
   rw[this]
  intro hq;replace hq:=aD hq;refine bB ?_;refine az ?_;refine Ro (k+1) (⟨by omega,λj hj=> ?_⟩) (by omega);by_cases TQ:j=k
  ·subst TQ;omega
  exact rH j (by omega)
 intro hk;replace hk:=aD hk;obtain rfl:k=C.af.length:=by omega
 refine bw ?_;refine iH [] results179 ?_;refine⟨?_,rfl⟩;have:C.af.findIdx? (λz=>decide (n≤z))=none:=by
  rw[agE];intro z hz;obtain⟨j,hj⟩:=ahh hz;have MV:=(acz.1 hj).1;have h1:=rH j MV;rw[ud MV]at hj;cases hj;simp;omega
 rw[this]
open Go Go.dL
theorem AQ{α:Type}(f:α→Nat):∀{l:List α} {i:Nat} {x:α} (_:l[i]?=some x) (y:α),((l.set i y).map f).sum+f x=(l.map f).sum+f y
 | [],i,x,h,y=>by simp at h
 |z::l,0,x,h,y=>by
  simp only[agL,Option.some.injEq]at h;subst h;simp only[List.set_cons_zero,acM,ac0];omega
 |z::l,i+1,x,h,y=>by
  simp only[adI]at h;have:=AQ f h y;simp only[List.set_cons_succ,acM,ac0];omega
theorem lH{α:Type}(f:α→Nat):∀{l:List α} {i:Nat} {x:α},l[i]?=some x→f x≤(l.map f).sum
 | [],i,x,h=>by simp at h
 |z::l,0,x,h=>by
  simp only[agL,Option.some.injEq]at h;subst h;simp only[acM,ac0];omega
 |z::l,i+1,x,h=>by
  simp only[adI]at h;have:=lH f h;simp only[acM,ac0];omega
namespace Cs
def yL (C:Cs)(i:Nat)(x:Pg):Cs:={C with cR:=C.cR.set i x}
def XI (C:Cs)(c:Nat)(r:Rw):Cs:={C with rows:=C.rows.set c r}
theorem EZ (C:Cs)(i j:Nat)(x:Pg)(h:i<C.cR.length):(C.yL i x).pg j=if j=i then x else C.pg j:=by
 unfold Cs.pg yL;rw[acy,acy];by_cases e:j=i
 ·subst e;rw[if_pos rfl,acD h];rfl
 rw[if_neg e,ac5 (λq=>e q.symm)]
theorem wI (C:Cs)(c d:Nat)(r:Rw)(h:c<C.rows.length):(C.XI c r).rw d=if d=c then r else C.rw d:=by
 unfold Cs.rw XI;rw[acy,acy];by_cases e:d=c
 ·subst e;rw[if_pos rfl,acD h];rfl
 rw[if_neg e,ac5 (λq=>e q.symm)]
theorem W5{C:Cs}{i:Nat}(h:i<C.cR.length)(f:Pg→Nat)(x:Pg):(C.yL i x).D9 f+f (C.pg i)=C.D9 f+f x:=AQ f (mA h) x
structure Nj (x y:Pg):Prop where
 own:y.own=x.own
 cl:y.cl=x.cl
 gl:y.bq.length=x.bq.length
structure BT (C D:Cs):Prop where
 aq:D.aq=C.aq
 n:D.n=C.n
 af:D.af=C.af
 pg:∀i,Nj (C.pg i) (D.pg i)
theorem BT.sz{C D:Cs}(S:BT C D)(c:Nat):D.sz c=C.sz c:=by unfold Cs.sz;rw[S.af]
theorem BT.pn{C D:Cs}(S:BT C D)(p:Nat):D.pn p=C.pn p:=by unfold Cs.pn;rw[S.aq]
theorem BT.cl{C D:Cs}(S:BT C D)(p:Nat):D.cl p=C.cl p:=by unfold Cs.cl;rw[S.pn,(S.pg _).cl]
theorem BT.ix{C D:Cs}(S:BT C D)(p:Nat):D.ix p=C.ix p:=by unfold Cs.ix;rw[S.cl,S.sz,S.aq]
theorem BT.at{C D:Cs}(S:BT C D){p:Nat}:At D p↔At C p:=by
 constructor
 ·intro h;exact⟨by rw[←S.pn,←S.n];exact h.i,by rw[←S.pn,←(S.pg _).own];exact h.own,by rw[←S.aq,←S.cl,←S.sz];exact h.al,by rw[←S.ix,←S.pn,←(S.pg _).gl];exact h.k⟩
 intro h;exact⟨by rw[S.pn,S.n];exact h.i,by rw[S.pn,(S.pg _).own];exact h.own,by rw[S.aq,S.cl,S.sz];exact h.al,by rw[S.ix,S.pn,(S.pg _).gl];exact h.k⟩
theorem Vl{C:Cs}{i:Nat}(h:i<C.cR.length){x:Pg}(l:Nj (C.pg i) x):BT C (C.yL i x):=⟨rfl,rfl,rfl,λj=>by
 rw[EZ C i j x h]
 split
 ·rename_i e;subst e;exact l
 exact⟨rfl,rfl,rfl⟩⟩
def put (C:Cs)(i:Nat)(x:Pg)(c:Nat)(r:Rw)(sp:Nat)(A:By):Cs:={C with cR:=C.cR.set i x,rows:=C.rows.set c r,spare:=sp,A:=A}
def fi (C:Cs)(c p:Nat):Cs:=
 C.put (C.pn p) {C.pg (C.pn p)with tk:=(C.pg (C.pn p)).tk.set (C.ix p) true,held:=(C.pg (C.pn p)).held+1} c {C.rw c with free:=(C.rw c).free.dropLast,gQ:=(C.rw c).gQ+1} C.spare
  (wr (lay C.A p (acA 56 0)) (p+12) 4 (C.gen p))
def bz (C:Cs)(p:Nat):Cs:=
 C.put (C.pn p) {C.pg (C.pn p)with tk:=(C.pg (C.pn p)).tk.set (C.ix p) false,held:=(C.pg (C.pn p)).held-1,bq:=(C.pg (C.pn p)).bq.set (C.ix p) ((C.gen p+1) % 4294967296)} (C.cl p)
  {C.rw (C.cl p)with free:=if(C.pg (C.pn p)).lv=true then(C.rw (C.cl p)).free else(C.rw (C.cl p)).free++ [p],gQ:=(C.rw (C.cl p)).gQ-1} C.spare C.A
def gP (C:Cs)(i c:Nat)(tk:List Bool):List Nat:=(((adL tk.length).reverse.filter λk=>tk[k]?==some false).map λk=>i*C.aq+k*C.sz c)
def BW (l:List (Nat×Nat))(k:Nat):Nat:=((l.find? λe=>decide (e.1=k)).map (·.2)).getD 0
def fq (C:Cs)(i c:Nat):Pg:=
 {C.pg i with own:=true,cl:=c,bq:=(adL (C.aq/C.sz c)).map λk=>BW (C.pg i).old (k*C.sz c),tk:=acA (C.aq/C.sz c) false}
def bG (C:Cs)(i c:Nat):Cs:=
 C.put i (C.fq i c) c {C.rw c with cH:=(C.rw c).cH+1,mc:=(C.rw c).mc+1,free:=(C.rw c).free++C.gP i c (acA (C.aq/C.sz c) false)} (C.spare-1) C.A
def nt (C:Cs)(i:Nat):Cs:=
 C.put i {C.pg i with lv:=true} (C.pg i).cl {C.rw (C.pg i).cl with mc:=(C.rw (C.pg i).cl).mc-1,free:=(C.rw (C.pg i).cl).free.filter λp=>decide (C.pn p≠i)} C.spare C.A
def lE (C:Cs)(i:Nat):Cs:=
 C.put i {C.pg i with lv:=false} (C.pg i).cl {C.rw (C.pg i).cl with mc:=(C.rw (C.pg i).cl).mc+1,free:=(C.rw (C.pg i).cl).free++C.gP i (C.pg i).cl (C.pg i).tk} C.spare C.A
def BU (l:List (Nat×Nat))(k g:Nat):List (Nat×Nat):=if k∈l.map (·.1)then l.map (λp=>if p.1=k then(k,g)else p)else l++ [(k,g)]
def M8 (C:Cs)(x:Pg):List (Nat×Nat):=(adL x.bq.length).foldl (λl k=>BU l (k*C.sz x.cl) (x.bq.getD k 0)) x.old
def fx (C:Cs)(i:Nat):Cs:=
 C.put i {Pg.no with old:=C.M8 (C.pg i)} (C.pg i).cl {C.rw (C.pg i).cl with cH:=(C.rw (C.pg i).cl).cH-1} (C.spare+1) C.A
def fW (C:Cs):Option Nat:=C.cR.findIdx? λx=> !x.own
def eA (C:Cs)(c:Nat):Option (Nat×Cs):=
 match(C.rw c).free.getLast? with
 |some p=>some (p,C.fi c p)
 |none=>match C.fW with
  |none=>none
  |some i=>match((C.bG i c).rw c).free.getLast? with
   |some p=>some (p,(C.bG i c).fi c p)
   |none=>none
theorem PS{l:List Bool}{k:Nat}{b:Bool}(h:l[k]?=some b)(c:Bool):((l.set k c).map bN).sum+bN b=(l.map bN).sum+bN c:=AQ bN h c
theorem Ge{C:Cs}{i:Nat}{x z:Pg}(h:z∈(C.yL i x).cR):z=x∨z∈C.cR:=by
 unfold yL at h;exact(adJ h).symm
theorem lY{C:Cs}{i c sp:Nat}{x:Pg}{r:Rw}{A:By}(h:i<C.cR.length)(j:Nat):(C.put i x c r sp A).pg j=if j=i then x else C.pg j:=EZ C i j x h
theorem Aq{C:Cs}{i c sp:Nat}{x:Pg}{r:Rw}{A:By}(h:c<C.rows.length)(d:Nat):(C.put i x c r sp A).rw d=if d=c then r else C.rw d:=wI C c d r h
theorem vg{C:Cs}{i c sp:Nat}{x:Pg}{r:Rw}{A:By}(h:i<C.cR.length)(l:Nj (C.pg i) x):BT C (C.put i x c r sp A):=⟨rfl,rfl,rfl,(Vl h l).pg⟩
structure Nfr (C:Cs)(x:Pg)(c q:Nat):Prop where
 own:x.own=true
 al:q % C.aq % C.sz c=0
 tk:x.tk[q % C.aq/C.sz c]?=some false
 lv:x.lv=false
theorem mw.put{C:Cs}{i c sp:Nat}{y:Pg}{r:Rw}{A:By}{x:Pg}(P:mw C x):mw (C.put i y c r sp A) x:=⟨P.cl,P.gl,P.tl,P.Xy,P.Ua,P.nd,P.held,P.no⟩
theorem Ip{C:Cs}(K:Ok C){d q:Nat}(h:C.pn q<C.n):zZ C d q↔C.cl q=d∧Nfr C (C.pg (C.pn q)) d q:=by
 constructor
 ·intro G
  have c:=G.cl;exact⟨c,G.own,by have:=G.al;rwa[c]at this,by have:=G.tk;unfold Cs.ix at this;rwa[c]at this,G.lv⟩
 rintro⟨rfl,G⟩;have P:=K.wB h;refine⟨⟨h,G.own,G.al, ?_⟩,rfl,G.tk,G.lv⟩;have:=(acz.1 G.tk).1;rw[P.tl]at this;exact this
theorem s8{C:Cs}(K:Ok C){i c sp:Nat}{x:Pg}{r:Rw}{A:By}(hi:i<C.n)(jw:c<C.af.length)(ho:(C.pg i).own=true→(C.pg i).cl=c)(hx:x.own=true→x.cl=c)(P:mw C x)(yF:r.free.Nodup)
  (Es:∀q,q∈r.free↔(zZ C c q∧C.pn q≠i)∨(C.pn q=i∧Nfr C x c q))
  (ht:r.gQ+yf c (C.pg i)=(C.rw c).gQ+yf c x) (hp:r.cH+zX c (C.pg i)=(C.rw c).cH+zX c x) (hs:r.mc+BP c (C.pg i)=(C.rw c).mc+BP c x) (Mu:sp+yk (C.pg i)=C.spare+yk x):Ok (C.put i x c r sp A):=by
 have hpl:i<C.cR.length:=by rw[K.pl];exact hi
 have fb:c<C.rows.length:=by rw[K.rl];exact jw
 have jv:=lY (C:=C) (c:=c) (sp:=sp) (x:=x) (r:=r) (A:=A) hpl;have hrw:=Aq (C:=C) (i:=i) (sp:=sp) (x:=x) (r:=r) (A:=A) fb;have UL:∀f,(C.put i x c r sp A).D9 f+f (C.pg i)=C.D9 f+f x:=λf=>W5 hpl f x;have hPg:∀z∈(C.put i x c r sp A).cR,mw (C.put i x c r sp A) z:=by
  intro z hz;rcases Ge (C:=C) hz with rfl|hz
  ·exact P.put
  exact(K.pg z hz).put
 have aeo:∀d q,zZ (C.put i x c r sp A) d q↔(zZ C d q∧C.pn q≠i)∨(d=c∧C.pn q=i∧Nfr C x c q):=by
  intro d q;have GM:(C.put i x c r sp A).pn q=C.pn q:=rfl;by_cases e:C.pn q=i
  ·have yu:(C.put i x c r sp A).cl q=x.cl:=by unfold Cs.cl;rw[GM,jv,if_pos e]
   have D6:(C.put i x c r sp A).ix q=q % C.aq/C.sz x.cl:=by unfold Cs.ix;rw[yu];rfl
   constructor
   ·intro G
    have g1:=G.own;have g2:=G.tk;have g3:=G.lv;have g4:=G.al;have g5:=G.cl;rw[GM,jv,if_pos e]at g1 g2 g3;rw[yu]at g4 g5;rw[D6]at g2;have hc:=hx g1;rw[hc]at g2 g4 g5;exact .inr ⟨g5.symm,e,g1,g4,g2,g3⟩
   rintro(⟨_,b⟩|⟨rfl,_,G⟩)
   ·exact absurd e b
   have hc:=hx G.own;refine⟨⟨by rw[GM,e];exact hi,by rw[GM,jv,if_pos e];exact G.own,by rw[yu,hc];exact G.al, ?_⟩,by rw[yu,hc], ?_,by rw[GM,jv,if_pos e];exact G.lv⟩
   ·rw[GM,jv,if_pos e,D6,hc,←P.tl]
    exact(acz.1 G.tk).1
   rw[GM,jv,if_pos e,D6,hc];exact G.tk
  have eK:(C.put i x c r sp A).pg (C.pn q)=C.pg (C.pn q):=by rw[jv,if_neg e]
  have yu:(C.put i x c r sp A).cl q=C.cl q:=by unfold Cs.cl;rw[GM,eK]
  have D6:(C.put i x c r sp A).ix q=C.ix q:=by unfold Cs.ix;rw[yu];rfl
  constructor
  ·intro G
   exact .inl ⟨⟨⟨G.i,by rw[←eK];exact G.own,by rw[←yu];exact G.al,by rw[←D6,←eK];exact G.k⟩,by rw[←yu];exact G.cl,by rw[←D6,←eK];exact G.tk,by rw[←eK];exact G.lv⟩,e⟩
  rintro(⟨G,_⟩|⟨_,b,_⟩)
  ·exact⟨⟨G.i,by rw[GM,eK];exact G.own,by rw[yu];exact G.al,by rw[D6,GM,eK];exact G.k⟩,by rw[yu];exact G.cl,by rw[D6,GM,eK];exact G.tk,by rw[GM,eK];exact G.lv⟩
  exact absurd b e
 refine⟨⟨K.p0,K.p1,K.p8,K.n0,K.n1,K.l0,K.l1,K.s0,by simp[put,K.pl],by simp[put,K.rl]⟩,hPg, ?_, ?_, ?_, ?_, ?_, ?_, ?_⟩
 ·intro d q hq
  rw[hrw]at hq;refine(aeo d q).2 ?_;by_cases e:d=c
  ·subst e
   rw[if_pos rfl]at hq;rcases(Es q).1 hq with h1|h1
   ·exact .inl h1
   exact .inr ⟨rfl,h1⟩
  rw[if_neg e]at hq;have G:=K.fr d q hq;refine .inl ⟨G,λe2=>e ?_⟩;have g1:=G.own;rw[e2]at g1;rw[←G.cl,←ho g1,←e2];rfl
 ·intro d
  rw[hrw]
  split
  ·exact yF
  exact K.fn d
 ·intro d q G hd
  rw[hrw];rcases(aeo d q).1 G with⟨G1,h2⟩|⟨rfl,h1⟩
  ·split
   ·rename_i e;subst e;exact(Es q).2 (.inl ⟨G1,h2⟩)
   exact K.fa d q G1 hd
  rw[if_pos rfl];exact(Es q).2 (.inr h1)
 all_goals try intro d hd
 all_goals try (have h1:=UL (yf d);have h2:=K.ft d hd;have h3:=UL (zX d);have h4:=K.fp d hd;have h5:=UL (BP d);have h6:=K.fs d hd;rw[hrw])
 ·by_cases e:d=c
  ·subst e;rw[if_pos rfl];omega
  rw[if_neg e];have q1:yf d (C.pg i)=0:=by unfold yf;rw[if_neg λq=>e (q.2.symm.trans (ho q.1))]
  have q2:yf d x=0:=by unfold yf;rw[if_neg λq=>e (q.2.symm.trans (hx q.1))]
  omega
 ·by_cases e:d=c
  ·subst e;rw[if_pos rfl];omega
  rw[if_neg e];have q1:zX d (C.pg i)=0:=by unfold zX;rw[if_neg λq=>e (q.2.symm.trans (ho q.1))]
  have q2:zX d x=0:=by unfold zX;rw[if_neg λq=>e (q.2.symm.trans (hx q.1))]
  omega
 ·by_cases e:d=c
  ·subst e;rw[if_pos rfl];omega
  rw[if_neg e];have q1:BP d (C.pg i)=0:=by unfold BP;rw[if_neg λq=>e (q.2.1.symm.trans (ho q.1))]
  have q2:BP d x=0:=by unfold BP;rw[if_neg λq=>e (q.2.1.symm.trans (hx q.1))]
  omega
 have h1:=UL yk;have h2:=K.sp;show sp=_;omega
theorem wm{C:Cs}(K:Ok C){p q:Nat}(L:At C p)(M:At C q)(e:C.pn q=C.pn p)(h:q≠p):C.ix q≠C.ix p:=λe2=>h (by rw[←Oc K M,←Oc K L,e,e2])
theorem wW{C:Cs}(K:Ok C){p c:Nat}(h:(C.rw c).free.getLast?=some p):Ok (C.fi c p)∧BT C (C.fi c p)∧zZ C c p:=by
 have hm:p∈(C.rw c).free:=List.mem_of_getLast? h;have F:=K.fr c p hm;have L:=F.toAt;have ja:(C.rw c).free≠ []:=List.ne_nil_of_mem hm;have BE:(C.rw c).free=(C.rw c).free.dropLast++ [p]:=by
  have:=ahq ja;rw[adB ja]at h;rw[Option.some.inj h]at this;exact this.symm
 have yF:=K.fn c;rw[BE]at yF;rw[adl]at yF;have MT:p∉(C.rw c).free.dropLast:=λhq=>yF.2.2 p hq p (List.mem_singleton_self p) rfl;have P:=K.wB L.i;have jw:c<C.af.length:=by rw[←F.cl];exact(L.bo K).1
 have hs:=PS F.tk true;have hh:=P.held;rw[show bN false=0 from rfl,show bN true=1 from rfl]at hs;have fT:∀y:Pg,y.own=true→y.cl=c→yf c y=y.held:=λy a b=>by unfold yf;rw[if_pos ⟨a,b⟩]
 have hl:Nj (C.pg (C.pn p)) {C.pg (C.pn p)with tk:=(C.pg (C.pn p)).tk.set (C.ix p) true,held:=(C.pg (C.pn p)).held+1}:=⟨rfl,rfl,rfl⟩;refine⟨s8 K L.i jw (λ_=>F.cl) (λ_=>F.cl) ⟨P.cl,P.gl,by simpa using P.tl,P.Xy,P.Ua,P.nd,by dsimp only;omega,λh=>absurd (L.own.symm.trans h) (by simp)⟩ yF.1 (λq=> ?_) (by have q1:=fT (C.pg (C.pn p)) L.own F.cl;have q2:=fT {C.pg (C.pn p)with tk:=(C.pg (C.pn p)).tk.set (C.ix p) true,held:=(C.pg (C.pn p)).held+1} L.own F.cl;dsimp only at q1 q2⊢;omega) rfl rfl rfl,vg (by rw[K.pl];exact L.i) hl,F⟩;have lU:q∈(C.rw c).free↔zZ C c q:=⟨K.fr c q,λG=>K.fa c q G jw⟩;have hq:q∈(C.rw c).free.dropLast↔zZ C c q∧q≠p:=by
  rw[←lU]
  constructor
  ·intro h1;exact⟨by rw[BE];exact List.mem_append_left _ h1,λe=>MT (e▸h1)⟩
  rintro⟨h1,h2⟩;rw[BE]at h1;exact(adw.1 h1).resolve_right λh3=>h2 (acX.1 h3)
 dsimp only;rw[hq];have D6:∀z,C.pn z=C.pn p→z % C.aq/C.sz c=C.ix z:=λz e=>by
  unfold Cs.ix Cs.cl;rw[e];have:=F.cl;unfold Cs.cl at this;rw[this]
 constructor
 ·rintro⟨G,ja⟩
  by_cases e:C.pn q=C.pn p
  ·have g2:=((Ip K G.i).1 G).2
   refine .inr ⟨e,L.own,g2.al, ?_,by rw[←e];exact G.lv⟩;rw[D6 q e];rw[ac5 (λz=>wm K L G.toAt e ja z.symm),←e];exact G.tk
  exact .inl ⟨G,e⟩
 rintro(⟨G,e⟩|⟨e,N⟩)
 ·exact⟨G,λz=>e (by rw[z])⟩
 have t:=N.tk;rw[D6 q e]at t;have ja:q≠p:=by
  rintro rfl;rw[acD (acz.1 F.tk).1]at t;cases t
 have hcq:C.cl q=c:=by unfold Cs.cl;rw[e];exact F.cl
 have a:At C q:=⟨by rw[e];exact L.i,by rw[e];exact L.own,by rw[hcq];exact N.al,by
  have:=(acz.1 t).1;rw[acE,P.tl]at this;rw[e];exact this⟩
 rw[ac5 (λz=>wm K L a e ja z.symm)]at t;exact⟨⟨a,hcq,by rw[e];exact t,by rw[e];exact N.lv⟩,ja⟩
theorem Gd{C:Cs}(F:Fix C){c:Nat}(hc:c<C.af.length){i k:Nat}(hk:k<C.aq/C.sz c):C.pn (i*C.aq+k*C.sz c)=i∧(i*C.aq+k*C.sz c) % C.aq=k*C.sz c∧k*C.sz c % C.sz c=0∧k*C.sz c/C.sz c=k:=by
 obtain⟨h1,h2,h3⟩:=F.sz hc;have I9:=F.pos;have e3:k*C.sz c+C.sz c≤C.aq:=by
  have h4:=ac2 (C.sz c) (show k+1≤C.aq/C.sz c from hk);have h5:=ahc C.aq (C.sz c);rw[adD,agt]at h4;omega
 refine⟨?_, ?_,aii _ _,ah6 _ (by omega)⟩
 ·unfold Cs.pn
  rw[ads,aim I9,aih (by omega)];omega
 rw[ads,ain,ac9 (by omega)]
theorem pO{C:Cs}(F:Fix C){i c:Nat}(hc:c<C.af.length){tk:List Bool}(ht:tk.length≤C.aq/C.sz c)(q:Nat):
  q∈C.gP i c tk↔C.pn q=i∧q % C.aq % C.sz c=0∧tk[q % C.aq/C.sz c]?=some false:=by
 unfold gP;rw[adi]
 constructor
 ·rintro⟨k,hk,rfl⟩
  rw[adf,ag7,ag6]at hk;obtain⟨a1,a2,a3,a4⟩:=Gd F hc (i:=i) (k:=k) (by omega);rw[a1,a2];refine⟨rfl,a3, ?_⟩;rw[a4];simpa using hk.2
 rintro⟨h1,h2,h3⟩;have hk:=(acz.1 h3).1;refine⟨q % C.aq/C.sz c, ?_, ?_⟩
 ·rw[adf,ag7,ag6]
  exact⟨hk,by rw[h3];rfl⟩
 have e1:=agG q C.aq;have e2:=agG (q % C.aq) (C.sz c);unfold Cs.pn at h1;rw[h1]at e1;rw[ads]at e1 e2;omega
theorem zD{C:Cs}(F:Fix C){i c:Nat}(hc:c<C.af.length)(tk:List Bool):(C.gP i c tk).Nodup:=by
 obtain⟨h1,_⟩:=F.sz hc;unfold gP;rw[List.Nodup,List.pairwise_map];have hr:((adL tk.length).reverse).Pairwise (λa b:Nat=>a≠b):=by
  rw[List.pairwise_reverse];exact ahI.imp (λ{a b} h e=>h e.symm) (List.nodup_range (n:=tk.length))
 refine ahI.imp (λ{a b} h e=> ?_) (ahI.filter _ hr);have:a*C.sz c=b*C.sz c:=by omega
 exact h (Nat.eq_of_mul_eq_mul_right (by omega) this)
theorem AL{c:Nat}{y:Pg}(a:y.own=true)(b:y.cl=c):yf c y=y.held:=by unfold yf;rw[if_pos ⟨a,b⟩]
theorem D6{C:Cs}{c i:Nat}(hc:(C.pg i).cl=c){z:Nat}(e:C.pn z=i):z % C.aq/C.sz c=C.ix z:=by
 unfold Cs.ix Cs.cl;rw[e,hc]
theorem VW{C:Cs}(K:Ok C){i:Nat}(hi:i<C.n)(ho:(C.pg i).own=true){x:Pg}(hl:x.tk.length=(C.pg i).tk.length){q:Nat}(e:C.pn q=i)(N:Nfr C x (C.pg i).cl q):At C q∧C.cl q=(C.pg i).cl∧x.tk[C.ix q]?=some false:=by
 have t:=N.tk;rw[D6 rfl e]at t;have hcq:C.cl q=(C.pg i).cl:=by unfold Cs.cl;rw[e]
 have P:mw C (C.pg i):=K.pg _ (gM (by rw[K.pl];exact hi));refine⟨⟨by rw[e];exact hi,by rw[e];exact ho,by rw[hcq];exact N.al, ?_⟩,hcq,t⟩;have:=(acz.1 t).1;rw[hl,P.tl]at this;rw[e];exact this
theorem QL (x:Pg)(tk:List Bool)(h:Nat)(g:List Nat)(hg:g.length=x.bq.length):Nj x {x with tk:=tk,held:=h,bq:=g}:=⟨rfl,rfl,hg⟩
theorem gX{C:Cs}(K:Ok C){p:Nat}(L:Live C p):Ok (C.bz p)∧BT C (C.bz p):=by
 have P:=K.wB L.i;have jw:=(L.toAt.bo K).1;have hs:=PS L.tk false;have hh:=P.held;rw[show bN false=0 from rfl,show bN true=1 from rfl]at hs;have hT:=K.ft _ jw;have hTl:(C.pg (C.pn p)).held≤(C.rw (C.cl p)).gQ:=by
  have h1:=lH (yf (C.cl p)) (mA (C:=C) (i:=C.pn p) (by rw[K.pl];exact L.i));rw[AL (c:=C.cl p) L.own rfl]at h1;rw[hT];exact h1
 have hlen:(C.pg (C.pn p)).bq.length=((C.pg (C.pn p)).bq.set (C.ix p) ((C.gen p+1) % 4294967296)).length:=by simp
 have lU:∀q,q∈(C.rw (C.cl p)).free↔zZ C (C.cl p) q:=λq=>⟨K.fr _ q,λG=>K.fa _ q G jw⟩;have hnp:p∉(C.rw (C.cl p)).free:=λh=>by
  have:=((lU p).1 h).tk;rw[L.tk]at this;cases this
 refine⟨s8 K L.i jw (λ_=>rfl) (λ_=>rfl) ⟨P.cl,λh=>by rw[←hlen];exact P.gl h,by simpa using P.tl, ?_,P.Ua,P.nd,by dsimp only;omega,λh=>absurd (L.own.symm.trans h) (by simp)⟩ ?_ (λq=> ?_) ?_ rfl rfl rfl,vg (by rw[K.pl];exact L.i) (QL _ _ _ _ hlen.symm)⟩
 ·intro g hg
  rcases adJ hg with h|rfl
  ·exact P.Xy g h
  exact agX _ (by decide)
 ·dsimp only
  split
  ·exact K.fn _
  rw[adl];exact⟨K.fn _,by simp,λa ha b hb e=>hnp ((e.trans (acX.1 hb))▸ha)⟩
 ·dsimp only
  have key:∀q,C.pn q=C.pn p→Nfr C {C.pg (C.pn p)with tk:=(C.pg (C.pn p)).tk.set (C.ix p) false,held:=(C.pg (C.pn p)).held-1,bq:=(C.pg (C.pn p)).bq.set (C.ix p) ((C.gen p+1) % 4294967296)} (C.cl p) q→(C.pg (C.pn p)).lv=false∧(q=p∨zZ C (C.cl p) q):=by
   intro q e N;obtain⟨a,b,t⟩:=VW K L.i L.own (x:={C.pg (C.pn p)with tk:=(C.pg (C.pn p)).tk.set (C.ix p) false,held:=(C.pg (C.pn p)).held-1,bq:=(C.pg (C.pn p)).bq.set (C.ix p) ((C.gen p+1) % 4294967296)}) (by simp) e N;refine⟨N.lv, ?_⟩;by_cases ja:q=p
   ·exact .inl ja
   dsimp only at t;rw[ac5 (λz=>wm K L.toAt a e ja z.symm)]at t;exact .inr ⟨a,b,by rw[e];exact t,by rw[e];exact N.lv⟩
  have back:∀q,C.pn q=C.pn p→(C.pg (C.pn p)).lv=false→(q=p∨zZ C (C.cl p) q)→Nfr C {C.pg (C.pn p)with tk:=(C.pg (C.pn p)).tk.set (C.ix p) false,held:=(C.pg (C.pn p)).held-1,bq:=(C.pg (C.pn p)).bq.set (C.ix p) ((C.gen p+1) % 4294967296)} (C.cl p) q:=by
   intro q e jO h;have hk:C.ix p<(C.pg (C.pn p)).tk.length:=(acz.1 L.tk).1;rcases h with rfl|G
   ·refine⟨L.own,L.al, ?_,jO⟩
    rw[D6 (c:=C.cl q) (i:=C.pn q) rfl rfl,acD hk]
   have a2:=((Ip K G.i).1 G).2;refine⟨L.own,a2.al, ?_,jO⟩;have ja:q≠p:=λz=>by
    have:=G.tk;rw[z,L.tk]at this;cases this
   rw[D6 (c:=C.cl p) (i:=C.pn p) rfl e,ac5 (λz=>wm K L.toAt G.toAt e ja z.symm),←e];exact G.tk
  by_cases jO:(C.pg (C.pn p)).lv=true
  ·rw[if_pos jO,lU]
   constructor
   ·intro G
    by_cases e:C.pn q=C.pn p
    ·have:=G.lv
     rw[e,jO]at this;cases this
    exact .inl ⟨G,e⟩
   rintro(⟨G,_⟩|⟨e,N⟩)
   ·exact G
   have:=(key q e N).1;rw[jO]at this;cases this
  have hlv2:(C.pg (C.pn p)).lv=false:=by simpa using jO
  rw[if_neg jO,adw,lU,acX]
  constructor
  ·intro h
   by_cases e:C.pn q=C.pn p
   ·exact .inr ⟨e,back q e hlv2 h.symm⟩
   rcases h with G|rfl
   ·exact .inl ⟨G,e⟩
   exact absurd rfl e
  rintro(⟨G,_⟩|⟨e,N⟩)
  ·exact .inl G
  exact((key q e N).2).symm
 have q1:=AL (c:=C.cl p) (y:=C.pg (C.pn p)) L.own rfl;have q2:=AL (c:=C.cl p) (y:={C.pg (C.pn p)with tk:=(C.pg (C.pn p)).tk.set (C.ix p) false,held:=(C.pg (C.pn p)).held-1,bq:=(C.pg (C.pn p)).bq.set (C.ix p) ((C.gen p+1) % 4294967296)}) L.own rfl;dsimp only at q1 q2⊢;omega
theorem J3{C:Cs}(K:Ok C){i:Nat}(hi:i<C.n)(ho:(C.pg i).own=true)(jO:(C.pg i).lv=false):Ok (C.nt i)∧BT C (C.nt i):=by
 have P:mw C (C.pg i):=K.pg _ (gM (by rw[K.pl];exact hi));have jw:=P.cl ho;have hS:1≤(C.rw (C.pg i).cl).mc:=by
  have h1:=lH (BP (C.pg i).cl) (mA (C:=C) (i:=i) (by rw[K.pl];exact hi));rw[K.fs _ jw];have:BP (C.pg i).cl (C.pg i)=1:=by unfold BP;rw[if_pos ⟨ho,rfl,jO⟩]
  rw[this]at h1;exact h1
 refine⟨s8 K hi jw (λ_=>rfl) (λ_=>rfl) ⟨P.cl,P.gl,P.tl,P.Xy,P.Ua,P.nd,P.held,λh=>absurd (ho.symm.trans h) (by simp)⟩ ((K.fn _).filter _) (λq=> ?_) ?_ ?_ ?_ rfl,vg (by rw[K.pl];exact hi) ⟨rfl,rfl,rfl⟩⟩
 ·dsimp only
  rw[adf]
  constructor
  ·rintro⟨h1,h2⟩;exact .inl ⟨K.fr _ q h1,by simpa using h2⟩
  rintro(⟨G,e⟩|⟨_,N⟩)
  ·exact⟨K.fa _ q G jw,by simpa using e⟩
  have:=N.lv;cases this
 ·simp[yf,ho]
 ·simp[zX,ho]
 simp only[BP,ho,jO];simp;omega
theorem wZ{C:Cs}(K:Ok C){i:Nat}(hi:i<C.n)(ho:(C.pg i).own=true)(jO:(C.pg i).lv=true):Ok (C.lE i)∧BT C (C.lE i):=by
 have P:mw C (C.pg i):=K.pg _ (gM (by rw[K.pl];exact hi));have jw:=P.cl ho;have htl:(C.pg i).tk.length≤C.aq/C.sz (C.pg i).cl:=by rw[P.tl,P.gl ho];exact acG _
 have MT:∀q∈(C.rw (C.pg i).cl).free,C.pn q≠i:=λq hq e=>by
  have:=(K.fr _ q hq).lv;rw[e,jO]at this;cases this
 refine⟨s8 K hi jw (λ_=>rfl) (λ_=>rfl) ⟨P.cl,P.gl,P.tl,P.Xy,P.Ua,P.nd,P.held,λh=>absurd (ho.symm.trans h) (by simp)⟩ ?_ (λq=> ?_) ?_ ?_ ?_ rfl,vg (by rw[K.pl];exact hi) ⟨rfl,rfl,rfl⟩⟩
 ·dsimp only
  rw[adl];refine⟨K.fn _,zD K.toFix jw _,λa ha b hb e=>MT a ha ?_⟩;rw[e];exact((pO K.toFix jw htl b).1 hb).1
 ·dsimp only
  rw[adw,pO K.toFix jw htl]
  constructor
  ·rintro(h|⟨h1,h2,h3⟩)
   ·exact .inl ⟨K.fr _ q h,MT q h⟩
   exact .inr ⟨h1,ho,h2,h3,rfl⟩
  rintro(⟨G,_⟩|⟨h1,N⟩)
  ·exact .inl (K.fa _ q G jw)
  exact .inr ⟨h1,N.al,N.tk⟩
 ·simp[yf,ho]
 ·simp[zX,ho]
 simp only[BP,ho,jO];simp
theorem VT{l:List (Nat×Nat)}(h:∀g∈l,g.2<4294967296)(k:Nat):BW l k<4294967296:=by
 unfold BW;cases e:l.find? λe=>decide (e.1=k)with
 |none=>simp
 |some v=>simpa using h v (List.mem_of_find?_eq_some e)
theorem ack (n:Nat):((acA n false).map bN).sum=0:=by
 induction n with
 |zero=>rfl
 |succ n ih=>simp[List.replicate_succ,bN]
theorem yW{C:Cs}(K:Ok C){i c:Nat}(hi:i<C.n)(jw:c<C.af.length)(ho:(C.pg i).own=false):Ok (C.bG i c):=by
 have P:mw C (C.pg i):=K.pg _ (gM (by rw[K.pl];exact hi));obtain⟨q1,q2,q3⟩:=P.no ho;have hh:=P.held;have Ej:(C.pg i).tk= []:=acW (by rw[P.tl,q1];rfl);rw[Ej]at hh;simp only[List.map_nil,List.sum_nil]at hh;have MT:∀q∈(C.rw c).free,C.pn q≠i:=λq hq e=>by
  have:=(K.fr _ q hq).own;rw[e,ho]at this;cases this
 have Mu:1≤C.spare:=by
  have h1:=lH yk (mA (C:=C) (i:=i) (by rw[K.pl];exact hi));rw[K.sp];have:yk (C.pg i)=1:=by unfold yk;rw[if_neg (by rw[ho];simp)]
  rw[this]at h1;exact h1
 have htl:(acA (C.aq/C.sz c) false).length≤C.aq/C.sz c:=by simp
 refine s8 K hi jw (λh=>absurd (ho.symm.trans h) (by simp)) (λ_=>rfl) ⟨λ_=>jw,λ_=>by simp[fq],by simp[fq], ?_,P.Ua,P.nd, ?_,λh=>absurd h (by simp[fq])⟩ ?_ (λq=> ?_) ?_ ?_ ?_ ?_
 ·intro g hg
  simp only[fq,adi]at hg;obtain⟨k,_,rfl⟩:=hg;exact VT P.Ua _
 ·show(C.pg i).held=_
  rw[hh];exact(ack _).symm
 ·dsimp only
  rw[adl];refine⟨K.fn _,zD K.toFix jw _,λa ha b hb e=>MT a ha ?_⟩;rw[e];exact((pO K.toFix jw htl b).1 hb).1
 ·dsimp only
  rw[adw,pO K.toFix jw htl]
  constructor
  ·rintro(h|⟨h1,h2,h3⟩)
   ·exact .inl ⟨K.fr _ q h,MT q h⟩
   exact .inr ⟨h1,rfl,h2,h3,q2⟩
  rintro(⟨G,_⟩|⟨h1,N⟩)
  ·exact .inl (K.fa _ q G jw)
  exact .inr ⟨h1,N.al,N.tk⟩
 ·simp[yf,ho,fq,hh]
 ·simp[zX,ho,fq]
 ·simp[BP,ho,fq,q2]
 simp[yk,ho,fq];omega
theorem Qq{l:List (Nat×Nat)}{k g:Nat}{e:Nat×Nat}(h:e∈BU l k g):e∈l∨e=(k,g):=by
 unfold BU at h
 split at h
 ·obtain⟨p,hp,rfl⟩:=adi.1 h
  split
  ·exact .inr rfl
  exact .inl hp
 rcases adw.1 h with h|h
 ·exact .inl h
 exact .inr (acX.1 h)
theorem Jk (l:List (Nat×Nat))(k g:Nat):(BU l k g).map (·.1)=if k∈l.map (·.1)then l.map (·.1)else l.map (·.1)++ [k]:=by
 unfold BU
 split
 ·rw[List.map_map]
  apply agB;intro p _;simp only[Function.comp]
  split
  ·rename_i e;exact e.symm
  rfl
 simp
theorem U4{l:List (Nat×Nat)}{k g:Nat}(h:(l.map (·.1)).Nodup):((BU l k g).map (·.1)).Nodup:=by
 rw[Jk]
 split
 ·exact h
 rename_i hk
 rw[adl];exact⟨h,by simp,λa ha b hb e=>hk (by rw[acX.1 hb]at e;rw[←e];exact ha)⟩
theorem VS (C:Cs)(x:Pg)(h1:∀g∈x.bq,g<4294967296)(h2:∀g∈x.old,g.2<4294967296)(h3:(x.old.map (·.1)).Nodup):(∀g∈C.M8 x,g.2<4294967296)∧((C.M8 x).map (·.1)).Nodup:=by
 unfold M8;have:∀(ks:List Nat) (l:List (Nat×Nat)),(∀g∈l,g.2<4294967296)→(l.map (·.1)).Nodup→(∀k∈ks,k<x.bq.length)→
   (∀g∈ks.foldl (λl k=>BU l (k*C.sz x.cl) (x.bq.getD k 0)) l,g.2<4294967296)∧((ks.foldl (λl k=>BU l (k*C.sz x.cl) (x.bq.getD k 0)) l).map (·.1)).Nodup:=by
  intro ks
  induction ks with
  |nil=>intro l a b _;exact⟨a,b⟩
  |cons k ks ih=>
   intro l a b c;rw[adm];refine ih _ (λg hg=> ?_) (U4 b) λj hj=>c j (acC _ hj);rcases Qq hg with h|rfl
   ·exact a g h
   have hk:=c k (acF ..);dsimp only;rw[acy,acx hk];exact h1 _ (acJ _)
 exact this _ _ h2 h3 λk hk=>ag6.1 hk
theorem DF{C:Cs}(K:Ok C){i:Nat}(hi:i<C.n)(ho:(C.pg i).own=true)(jO:(C.pg i).lv=true)(hh:(C.pg i).held=0):Ok (C.fx i):=by
 have P:mw C (C.pg i):=K.pg _ (gM (by rw[K.pl];exact hi));have jw:=P.cl ho;obtain⟨o1,o2⟩:=VS C (C.pg i) P.Xy P.Ua P.nd;have hP:1≤(C.rw (C.pg i).cl).cH:=by
  have h1:=lH (zX (C.pg i).cl) (mA (C:=C) (i:=i) (by rw[K.pl];exact hi));rw[K.fp _ jw];have:zX (C.pg i).cl (C.pg i)=1:=by unfold zX;rw[if_pos ⟨ho,rfl⟩]
  rw[this]at h1;exact h1
 have MT:∀q∈(C.rw (C.pg i).cl).free,C.pn q≠i:=λq hq e=>by
  have:=(K.fr _ q hq).lv;rw[e,jO]at this;cases this
 refine s8 K hi jw (λ_=>rfl) (λh=>absurd h (by simp[Pg.no])) ⟨λh=>absurd h (by simp[Pg.no]),λh=>absurd h (by simp[Pg.no]),rfl,by simp[Pg.no],o1,o2,rfl,λ_=>⟨rfl,rfl,rfl⟩⟩ (K.fn _) (λq=> ?_) ?_ ?_ ?_ ?_
 ·dsimp only
  constructor
  ·intro h;exact .inl ⟨K.fr _ q h,MT q h⟩
  rintro(⟨G,_⟩|⟨_,N⟩)
  ·exact K.fa _ q G jw
  have:=N.own;cases this
 ·simp[yf,ho,hh,Pg.no]
 ·simp[zX,ho,Pg.no];omega
 ·simp[BP,ho,jO,Pg.no]
 simp[yk,ho,Pg.no]
end Cs
open Go Go.dL Go.Proofs.YtdolmecackmjdaaGreatDoor.Cs
def dn (C:Cs)(i c:Nat)(tk:List Bool):Nat→List Nat
 |0=> []
 |k+1=>(if tk[k]?=some false then [i*C.aq+k*C.sz c]else [])++dn C i c tk k
theorem ab4 (C:Cs)(i c:Nat)(tk:List Bool)(n:Nat):(((adL n).reverse.filter λk=>tk[k]?==some false).map λk=>i*C.aq+k*C.sz c)=dn C i c tk n:=by
 induction n with
 |zero=>rfl
 |succ n ih=>
  rw[aif,List.reverse_append,List.reverse_singleton,List.singleton_append,dn,List.filter_cons];by_cases h:tk[n]?=some false
  ·rw[if_pos (by rw[h];rfl),if_pos h,acM,ih];rfl
  rw[if_neg (by simpa using h),if_neg h,ih];rfl
theorem ab3 (C:Cs)(i c:Nat)(tk:List Bool)(n:Nat):(dn C i c tk n).length≤n:=by
 induction n with
 |zero=>exact acG _
 |succ n ih=>rw[dn,acI];split<;>simp<;>omega
def lG (C:Cs)(i:Nat):Cs:=
 {C with rows:=C.rows.set (C.pg i).cl {C.rw (C.pg i).cl with mc:=(C.rw (C.pg i).cl).mc+1,free:=(C.rw (C.pg i).cl).free++C.gP i (C.pg i).cl (C.pg i).tk}}
theorem jm (l m:List Nat):aV (l++m)=aV l++aV m:=by simp[aV]
theorem jk (l:List Nat):(aV l).length=l.length:=by simp[aV]
theorem aaL{α:Type}{f:α→aa}{L:List α}{F:ee}{H R:List aa}{x:α}{ad:Addr}{v:Value}(hx:x∈L)(hv:∀h,In (f x) h→dY h ad=some v)(s:fE H (aN (L.map f)) R):MI F H (some ad) v:=
 ⟨_,rfl,λh _ aw=>hv h (o5 (qO s h aw) hx)⟩
theorem ae4{x:uT}{tb k:Nat}{v:Value}(ht:x.tb=some tb)(hv:(tZ x.p.tk)[k]?=some v):∀h,In (ot x) h→dY h ⟨tb,k,none⟩=some v:=λh o=>by
 obtain⟨_,⟨j,q,l⟩,_⟩:=rZ o;rw[ht]at q;exact cX l (eS q hv)
theorem XW{C:Cs}{y:Lc}{F:ee}{H R:List aa}{c:Nat}(hc:c<C.af.length)(s:fE H (p7 C y) R):MI F H (some ⟨y.sa,c,none⟩) (.int .i64 (C.sz c:Int)):=
 ⟨_,rfl,λh _ aw=>kP (bD (qO s h aw)) (jG (ud hc))⟩
theorem Ws (b:Nat)(C:Cs)(y:Lc)(K:Fix C)(hy:gL C y)(i:Nat)(hi:i<C.n)(x:uT)(tb:Nat)(x1:y.pl[i]?=some x)(ht:x.tb=some tb)(hc:(C.pg i).cl<C.af.length)(htl:(C.pg i).tk.length≤C.aq/C.sz (C.pg i).cl)
  (BE:(C.rw (C.pg i).cl).free.length≤1099511627776) (iY:(C.rw (C.pg i).cl).mc≤1099511627776):
  aH acw 215 [.pointer (some ⟨b,0,none⟩), .int .i64 (i:Int)] (λ_=>True) (qC b C y)
   (λv H=>v= .tuple #[]∧∃z,y.rl[(C.pg i).cl]?=some z∧∃a c,H=qC b (lG C i) {y with rl:=y.rl.set (C.pg i).cl ⟨(lG C i).rw (C.pg i).cl,a,c⟩}∧gL (lG C i) {y with rl:=y.rl.set (C.pg i).cl ⟨(lG C i).rw (C.pg i).cl,a,c⟩}):=by
 have f1:=K.p1;have f2:=K.n1;have hzs:=K.sz hc;have hdv:=agy C.aq (C.sz (C.pg i).cl);have x2:x.p=C.pg i:=by
  have h1:=mA (C:=C) (i:=i) (by rw[K.pl];exact hi);rw[←hy.pl,acL,x1]at h1;exact Option.some.inj h1
 obtain⟨z,z1,z2⟩:∃z,y.rl[(C.pg i).cl]?=some z∧z.r=C.rw (C.pg i).cl:=by
  have h1:=XJ (C:=C) (c:=(C.pg i).cl) (by rw[K.rl];exact hc);rw[←hy.rl,acL,Option.map_eq_some_iff]at h1;exact h1
 have hjr:(lG C i).rw (C.pg i).cl={C.rw (C.pg i).cl with mc:=(C.rw (C.pg i).cl).mc+1,free:=(C.rw (C.pg i).cl).free++C.gP i (C.pg i).cl (C.pg i).tk}:=by
  have:=wI C (C.pg i).cl (C.pg i).cl {C.rw (C.pg i).cl with mc:=(C.rw (C.pg i).cl).mc+1,free:=(C.rw (C.pg i).cl).free++C.gP i (C.pg i).cl (C.pg i).tk} (by rw[K.rl];exact hc);rw[if_pos rfl]at this;exact this
 rw[hjr];have hfi:C.gP i (C.pg i).cl (C.pg i).tk=dn C i (C.pg i).cl (C.pg i).tk (C.pg i).tk.length:=ab4 C i _ _ _;generalize fb:(C.pg i).cl=c at*;generalize Ej:(C.pg i).tk=tk at*;have k2:(y.pl.flatMap eZ)[i*7+2]?=some (.int .i64 (c:Int)):=by
  have:=bE dh x1 (j:=2) rfl;rw[x2,fb]at this;exact this
 have k4:(y.pl.flatMap eZ)[i*7+4]?=some (.slice (some ⟨tb,0,none⟩) tk.length tk.length):=by
  have:=bE dh x1 (j:=4) rfl;rw[ht,x2,Ej]at this;exact this
 have r3:(y.rl.flatMap eW)[c*4+3]?=some (.int .i64 ((C.rw c).mc:Int)):=by
  have:=bE dg z1 (j:=3) rfl;rw[z2]at this;exact this
 have hlen:c*4+4≤(y.rl.flatMap eW).length:=by
  rw[fw dg];have:=(acz.1 z1).1;omega
 refine ae func215 rfl ntmps215 rfl ?_;intro F _;unfold qC;change G _ _ _ _ _ [ag b 136 (eh C y),p7 C y,ag y.pb 224 (y.pl.flatMap eZ),aN (y.pl.map ot),ag y.rb 253 (y.rl.flatMap eW),aN (y.rl.map lC),ag y.a 192 (iq y.ab C.aq (C.n*C.aq)),ag y.ab 5 (dT C.A (C.n*C.aq))];refine Hh (H':= [aN (y.rl.map lC),ag y.rb 253 (y.rl.flatMap eW),ag b 136 (eh C y),ag y.pb 224 (y.pl.flatMap eZ),p7 C y,aN (y.pl.map ot),ag y.a 192 (iq y.ab C.aq (C.n*C.aq)),ag y.ab 5 (dT C.A (C.n*C.aq))]) ?_;refine aC (λk s=>vG z1 s) ?_;have hrz:lC z=own z.a z.c 3 1 (aV (C.rw c).free):=by unfold lC;rw[z2]
 rw[hrz];refine cN ?_;refine au ?_;refine gT false T.mix ?_;refine bT ?_;refine bK ?_;have e3:(y.rl.flatMap eW).set (c*4+3) (.int .i64 ((C.rw c).mc+1:Int))=(y.rl.set c ⟨{C.rw c with mc:=(C.rw c).mc+1},z.a,z.c⟩).flatMap eW:=de dg z1 (by unfold eW;rw[z2];rfl) (by decide);rw[e3];refine aC (H':= [own z.a z.c 3 1 (aV ((C.rw c).free++ [])),aN ((y.rl.eraseIdx c).map lC),ag y.rb 253 ((y.rl.set c ⟨⟨(C.rw c).free++ [],(C.rw c).gQ,(C.rw c).cH,(C.rw c).mc+1⟩,z.a,z.c⟩).flatMap eW),ag b 136 (eh C y),ag y.pb 224 (y.pl.flatMap eZ),p7 C y,aN (y.pl.map ot),ag y.a 192 (iq y.ab C.aq (C.n*C.aq)),ag y.ab 5 (dT C.A (C.n*C.aq))]) (by rw[agu];exact Eh) ?_;refine Lo (ι:=Nat×List Nat×Option Addr×Nat) [35,36,39,40,41,42,43,44,45,46,47,48,49,50,51,52,53,54,55,56,57,58,59,60,61,62,63,64,65,66,67,68,69,70,71,72,73,74,75,37,38,6] (λ(j,pre,a,cc)=>j≤tk.length∧pre++dn C i c tk j=dn C i c tk tk.length) (λ(j,pre,a,cc)=> [(6, .int .i64 ((j:Int)-1))]) (λ(j,pre,a,cc)=> [own a cc 3 1 (aV ((C.rw c).free++pre)),aN ((y.rl.eraseIdx c).map lC),ag y.rb 253 ((y.rl.set c ⟨⟨(C.rw c).free++pre,(C.rw c).gQ,(C.rw c).cH,(C.rw c).mc+1⟩,a,cc⟩).flatMap eW),ag b 136 (eh C y),ag y.pb 224 (y.pl.flatMap eZ),p7 C y,aN (y.pl.map ot),ag y.a 192 (iq y.ab C.aq (C.n*C.aq)),ag y.ab 5 (dT C.A (C.n*C.aq))]) (λ(j,pre,a,cc)=>j) ((tk.length,[],z.a,z.c)) ⟨acG _,rfl⟩ ?_;rintro⟨j,pre,a,cc⟩ ⟨hj,iX⟩
 try dsimp only at hI⊢
 dsimp only at hj iX⊢;refine bc ?_;refine av rfl ?_ ?_
 ·intro hk
  replace hk:=aD hk;obtain⟨k,rfl⟩:∃k,j=k+1:=⟨j-1,by omega⟩;have et:tk[k]?=some (tk[k]'(by omega)):=acx _;have oh:k<tk.length:=by omega
  generalize tk[k]'(by omega)=t at et;have hxm:=acB x1;refine ao (t:=6) (v':=(.int .i64 (k:Int))) rfl (by refine congrArg (Value.int .i64) ?_;omega) ?_;refine bK ?_;refine Lp (oL T.UD ?_ (hk:=aaL hxm (ae4 ht (Fz (by rw[x2,Ej];exact et))) (by repeat (first|exact fE.here|apply fE.there))));refine a8 ?_;have hkz:k*C.sz c≤1048576*1048576:=adF (by omega) (by omega);have hip:i*C.aq≤1024*1048576:=adF (by omega) f1;refine av rfl ?_ ?_
  ·intro hq
   replace hq:=aD hq;obtain rfl:t=false:=by simpa using hq
   have hlr:(C.rw c).free.length+pre.length+1≤2199023255552:=by
    have h1:=congrArg List.length iX;rw[acI]at h1;have h2:=ab3 C i c tk tk.length;omega
   have r0:((y.rl.set c ⟨⟨(C.rw c).free++pre,(C.rw c).gQ,(C.rw c).cH,(C.rw c).mc+1⟩,a,cc⟩).flatMap eW)[c*4]?=some (.slice a ((C.rw c).free++pre).length cc):=bE dg (j:=0) (acD (acz.1 z1).1) rfl;have hl4:c*4<((y.rl.set c ⟨⟨(C.rw c).free++pre,(C.rw c).gQ,(C.rw c).cH,(C.rw c).mc+1⟩,a,cc⟩).flatMap eW).length:=by rw[fw dg,acE];rw[fw dg]at hlen;omega
   refine gK 27 T.mix (.cons (.there (.there .here)) (.cons (.there (.there .here)) (.cons (.there (.there .here)) (.cons (.there (.there .here)) .nil)))) λF1 iT cj aI=> ?_;obtain⟨q1,q2,q3,q4,_⟩:=cj;have kz:=kP (bD q4) (jG (ud hc));refine bK ?_;refine Ti (MuN) ?_;refine bK ?_;refine Ti (MuN) ?_;refine Ti (AdN) ?_;refine Tp (oT T.iA λb1=> ?_);refine Tp (bF T.iA T.uf rfl rfl rfl rfl .here (by rw[jk,ahx]) (rfl) (by simp[Value.oneCell']) (by rw[acI];omega) (by rw[acI];omega) rfl λa1 c1 h1=> ?_);refine gd aI ?_;refine bw ?_;refine az ?_;have e5:aV ((C.rw c).free++pre)++ [Value.int .i64 ((i*C.aq+k*C.sz c:Nat):Int)]=aV ((C.rw c).free++(pre++ [i*C.aq+k*C.sz c])):=by rw[←adr,jm _ [_]];rfl
   have e4:((y.rl.set c ⟨⟨(C.rw c).free++pre,(C.rw c).gQ,(C.rw c).cH,(C.rw c).mc+1⟩,a,cc⟩).flatMap eW).set (c*4+0) (.slice a1 (((C.rw c).free++pre).length+1) c1)=(y.rl.set c ⟨⟨(C.rw c).free++(pre++ [i*C.aq+k*C.sz c]),(C.rw c).gQ,(C.rw c).cH,(C.rw c).mc+1⟩,a1,c1⟩).flatMap eW:=by
    have:=de (j:=0) (v:= .slice a1 (((C.rw c).free++pre).length+1) c1) (a':=⟨⟨(C.rw c).free++(pre++ [i*C.aq+k*C.sz c]),(C.rw c).gQ,(C.rw c).cH,(C.rw c).mc+1⟩,a1,c1⟩) dg (acD (a:=(⟨⟨(C.rw c).free++pre,(C.rw c).gQ,(C.rw c).cH,(C.rw c).mc+1⟩,a,cc⟩:Ey)) (acz.1 z1).1) (by simp[eW];omega) (by decide);rw[adn]at this;exact this
   rw[e4,e5];refine Ro ((k,pre++ [i*C.aq+k*C.sz c],a1,c1)) (⟨by dsimp only;omega,by dsimp only;rw[←iX,dn,if_pos et,adr]⟩) ((by dsimp only;omega))
  intro hq;replace hq:=aD hq;obtain rfl:t=true:=by simpa using hq
  refine bH ?_;refine az ?_;refine Ro ((k,pre,a,cc)) (⟨by dsimp only;omega,by dsimp only;rw[←iX,dn,if_neg (by rw[et];simp)];rfl⟩) ((by dsimp only;omega))
 intro hk;replace hk:=aD hk;obtain rfl:j=0:=by omega
 rw[dn,agu]at iX;subst iX;rw[hfi];refine aR ?_;refine aC (λk s=>AM (f:=lC) z1 ⟨⟨(C.rw c).free++dn C i c tk tk.length,(C.rw c).gQ,(C.rw c).cH,(C.rw c).mc+1⟩,a,cc⟩ s) ?_;refine jM [ag b 136 (eh C y),p7 C y,ag y.pb 224 (y.pl.flatMap eZ),aN (y.pl.map ot),ag y.rb 253 ((y.rl.set c ⟨⟨(C.rw c).free++dn C i c tk tk.length,(C.rw c).gQ,(C.rw c).cH,(C.rw c).mc+1⟩,a,cc⟩).flatMap eW),aN ((y.rl.set c ⟨⟨(C.rw c).free++dn C i c tk tk.length,(C.rw c).gQ,(C.rw c).cH,(C.rw c).mc+1⟩,a,cc⟩).map lC),ag y.a 192 (iq y.ab C.aq (C.n*C.aq)),ag y.ab 5 (dT C.A (C.n*C.aq))] results215 ?_;refine⟨rfl,z,z1,a,cc,rfl,hy.pl, ?_,hy.pk,hy.aq,hy.cH⟩;show List.map _ _=(lG C i).rows;unfold lG;rw[adG,hy.rl,fb,Ej,hfi]
theorem oQlO{P:Program}{n:Nat}{ds:List Deferred}{F:ee}{Q:Exit→Act→World→Prop}{K:Act→World→Prop}{σ:ba}{H:List aa}{o:Oper}{d:Nat}{t k e:TypeId}{z:Value}{m x:Operand}{b:Option Nat}{es:List (Value×Value)}{kv:Value}{R:List aa}
  (ht:yn P t=some (k, .int .i64,e,z)) (h:G n ds F K ((d,(sN es kv).getD z)::σ) H) (he:b=none→es= []) (ho:o.op= .lookup t m x false:=by exact rfl) (hd:o.dst=some d:=by exact rfl)
  (hm:bx σ m=some (.map b):=by exact rfl) (hx:bx σ x=some kv:=by exact rfl) (hk:TI (.int .i64) kv=true:=by exact rfl) (hs:fE H (Eg b es) R:=by repeat (first|exact fE.here|apply fE.there)) (hdn:Nat.blt d n=true:=by exact rfl):G n ds F (λa w=>o.wp P a w K Q) σ H:=by
 cases b with
 |some b=>exact oQl (b:=b) (es:=es) ht h ho hd hm hx hk hs hdn
 |none=>
  refine qS hd hdn (λa w en s=> ?_) h;obtain⟨TM,BM,i,hi,hz⟩:=pL ht;have:sN es kv=none:=by rw[he rfl];exact C0 λe h=>by cases h
  rw[this];simp[execOp,ho,en.eval hm,en.eval hx,Instr.lookup,run_underlying TM,MapKept.run_checkKey BM (iN hk),MapKept.run_findKey BM (show Instr.findNow (.int .i64) kv [] 0=some none from rfl),zeroValue,typeInfo,hi,hz,Result.andThen]
theorem VR{l:List (Nat×Nat)}(k:Nat):(sN (oE l) (.int .i64 (k:Int))).getD (.int .u32 0)= .int .u32 ((BW l k:Nat):Int):=by
 classical
 unfold sN oE BW
 induction l with
 |nil=>rfl
 |cons p l ih=>
  rw[acM,aij,aij];by_cases h:p.1=k
  ·subst h;simp
  have h1:¬((Value.int .i64 (p.1:Int),Value.int .u32 (p.2:Int)):Value×Value).1= .int .i64 (k:Int):=by simp;omega
  rw[decide_eq_false h1,decide_eq_false h];exact ih
theorem EM (n:Nat):gu [.int .u32 0] (n*1)=aJ (acA n 0):=by rw[o0,ahx];simp[aJ]
theorem Nk (n:Nat):gu [.bool false] (n*1)=tZ (acA n false):=by rw[o0,ahx];simp[tZ]
theorem Cz (l:List Nat)(k g:Nat):(aJ l).set k (.int .u32 (g:Int))=aJ (l.set k g):=by unfold aJ;rw[adG]
theorem kN (l:List Nat):(aJ l).length=l.length:=by simp[aJ]
theorem IJ (l:List Bool):(tZ l).length=l.length:=by simp[tZ]
theorem DR{C:Cs}(h:∀j,j<C.cR.length→(C.pg j).own=true):C.fW=none:=by
 unfold fW;rw[agE];intro x hx;obtain⟨j,hj⟩:=ahh hx;have hl:=(acz.1 hj).1;have:=h j hl;rw[mA hl]at hj;cases hj;simp[this]
theorem DQ{C:Cs}{i:Nat}(hi:i<C.cR.length)(ho:(C.pg i).own=false)(h:∀j,j<i→(C.pg j).own=true):C.fW=some i:=by
 unfold fW;rw[acV];have e:∀j (hj:j<C.cR.length),C.cR[j]=C.pg j:=λj hj=>by
  have:=mA (C:=C) hj;rw[acx hj]at this;exact Option.some.inj this
 refine⟨hi,by rw[e];simp[ho],λj hj=> ?_⟩;rw[e j (by omega),h j hj];simp
theorem Oj:∀(N:Nat) (l:List Nat),l.Nodup→(∀x∈l,x<N)→l.length≤N
 |0,l,_,h=>by
  cases l with
  |nil=>exact acG _
  |cons a l=>exact absurd (h a (acF ..)) (by omega)
 |N+1,l,hn,h=>by
  have h1:=Oj N (l.erase N) (hn.erase N) (λx hx=>by
   have h2:=(List.Nodup.mem_erase_iff hn).1 hx;have:=h x h2.2;have:=h2.1;omega)
  have:=List.length_erase (a:=N) (l:=l)
  split at this<;>omega
theorem xl{C:Cs}(K:Ok C)(c:Nat):(C.rw c).free.length≤1073741824:=by
 have h:=Oj (C.n*C.aq) _ (K.fn c) (λp hp=>by
  have:=((K.fr c p hp).toAt.bo K);omega)
 have:=gh K.toFix;omega
theorem Qi (b:Nat)(C:Cs)(y:Lc)(K:Ok C)(hy:gL C y)(c:Nat)(hc:c<C.af.length):aH acw 156 [.pointer (some ⟨b,0,none⟩), .int .i64 (c:Int)] (λ_=>True) (qC b C y)
  (λv H=>match C.fW with
   |none=>v= .bool false∧H=qC b C y
   |some i=>v= .bool true∧∃Y,gL (C.bG i c) Y∧Y.rb=y.rb∧H=qC b (C.bG i c) Y):=by
 have f1:=K.toFix.p1;have f2:=K.toFix.n1;have hzs:=K.toFix.sz hc;have hdv:=agy C.aq (C.sz c);obtain⟨l1,l2⟩:=K.le;refine ae func156 rfl ntmps156 rfl ?_;intro F _;change G _ _ _ _ _ [ag b 136 (eh C y),p7 C y,ag y.pb 224 (y.pl.flatMap eZ),aN (y.pl.map ot),ag y.rb 253 (y.rl.flatMap eW),aN (y.rl.map lC),ag y.a 192 (iq y.ab C.aq (C.n*C.aq)),ag y.ab 5 (dT C.A (C.n*C.aq))];refine gR ?_;refine Lo (ι:=Nat) [15,16,5,17,18,19,20,21,22,6,23,24,25,26,27,28,29,30,31,32,33,34,35,36,37,38,39,7,40,41,42,43,44,45,46,47,48,49,50,51,52,53,54,55,56,57,58,59,60,61,62,63,64,8,65,66,67,68,69,70,71,72,73,74,75,76,77,78,79,80,81,82,83,84,85,86,87,88,89,90,91,92,93,94,95,96,97,98,99,100,101,102,103,104,105,106,4,107,14] (λk=>k≤C.n∧∀j,j<k→(C.pg j).own=true) (λk=> [(14, .int .i64 (k:Int))]) (λk=> [ag b 136 (eh C y),p7 C y,ag y.pb 224 (y.pl.flatMap eZ),aN (y.pl.map ot),ag y.rb 253 (y.rl.flatMap eW),aN (y.rl.map lC),ag y.a 192 (iq y.ab C.aq (C.n*C.aq)),ag y.ab 5 (dT C.A (C.n*C.aq))]) (λk=>C.n-k) (0) ⟨acS _,λj hj=>absurd hj (agH j)⟩ ?_;rintro k ⟨hk0,rH⟩;refine aZ ?_;refine au ?_;refine av rfl ?_ ?_
 ·intro hk
  replace hk:=aD hk;have bX:k<C.n:=by omega
  obtain⟨x,x1,x2,x3⟩:=vE K hy bX;have k0:(y.pl.flatMap eZ)[k*7]?=some (.bool (C.pg k).own):=by
   have:=bE dh x1 (j:=0) rfl;rw[x2]at this;exact this
  refine bT ?_;refine aR ?_;refine av rfl ?_ ?_
  ·intro ho
   replace ho:=aD ho;refine bH ?_;refine az ?_;refine Ro (k+1) (⟨by omega,λj hj=> ?_⟩) (by omega);by_cases TQ:j=k
   ·subst TQ;exact ho
   exact rH j (by omega)
  intro ho;replace ho:=aD ho;have P:mw C (C.pg k):=K.pg _ (gM (by rw[K.pl];exact bX));obtain⟨p1,p2,p3⟩:=P.no ho;have p4:(C.pg k).tk= []:=acW (by rw[P.tl,p1];rfl);have BD:x.gb=none:=by have:=x3.g;rw[x2,ho]at this;simpa using this
  have BC:x.tb=none:=by have:=x3.t;rw[x2,ho]at this;simpa using this
  have hxo:x.ob=none→oE (C.pg k).old= []:=λh=>by rw[←x2,x3.o h];rfl
  have hfp:=DQ (C:=C) (by rw[K.pl];exact bX) ho rH;have hpgx:eZ x= [.bool false, .bool false, .int .i64 0, .slice none 0 0, .slice none 0 0, .int .i64 ((C.pg k).held:Int), .map x.ob]:=by
   unfold eZ;rw[BD,BC,x2,ho,p2,p3];rfl
  rw[hfp];refine Hh (H':= [aN (y.pl.map ot),ag y.pb 224 (y.pl.flatMap eZ),p7 C y,ag b 136 (eh C y),ag y.rb 253 (y.rl.flatMap eW),aN (y.rl.map lC),ag y.a 192 (iq y.ab C.aq (C.n*C.aq)),ag y.ab 5 (dT C.A (C.n*C.aq))]) ?_;refine aC (λ_ s=>vG x1 s) ?_;refine vv ?_;rw[BD,BC,x2];refine Hh (H':= [Eg x.ob (oE (C.pg k).old),aN ((y.pl.eraseIdx k).map ot),ag y.pb 224 (y.pl.flatMap eZ),p7 C y,ag b 136 (eh C y),ag y.rb 253 (y.rl.flatMap eW),aN (y.rl.map lC),ag y.a 192 (iq y.ab C.aq (C.n*C.aq)),ag y.ab 5 (dT C.A (C.n*C.aq))]) ?_;have hl7:k*7+7≤(y.pl.flatMap eZ).length:=by
   rw[fw dh];have:=(acz.1 x1).1;omega
  obtain⟨m,hm⟩:∃m,m=C.aq/C.sz c:=⟨_,rfl⟩;obtain⟨gs,hgs⟩:∃gs,gs=(adL m).map λk'=>BW (C.pg k).old (k'*C.sz c):=⟨_,rfl⟩;have e2:((y.pl.flatMap eZ).set (k*7+0) (.bool true)).set (k*7+2) (.int .i64 (c:Int))=(y.pl.set k ⟨{C.pg k with own:=true,cl:=c},none,none,x.ob⟩).flatMap eZ:=by
   have h1:=de (j:=0) (v:= .bool true) (a':=(⟨{C.pg k with own:=true},none,none,x.ob⟩:uT)) dh x1 (by rw[hpgx];unfold eZ;dsimp only;rw[p2,p3];rfl) (by decide);have h2:=de (j:=2) (v:= .int .i64 (c:Int)) (a':=(⟨{C.pg k with own:=true,cl:=c},none,none,x.ob⟩:uT)) dh (acD (a:=(⟨{C.pg k with own:=true},none,none,x.ob⟩:uT)) (acz.1 x1).1) (by unfold eZ;dsimp only;rfl) (by decide);rw[h1,h2,adn]
  have e8:∀gb tb:Nat,(((y.pl.set k ⟨{C.pg k with own:=true,cl:=c},none,none,x.ob⟩).flatMap eZ).set (k*7+3) (.slice (some ⟨gb,0,none⟩) m m)).set (k*7+4) (.slice (some ⟨tb,0,none⟩) m m)=(y.pl.set k ⟨{C.pg k with own:=true,cl:=c,bq:=gs,tk:=acA m false},some gb,some tb,x.ob⟩).flatMap eZ:=by
   intro gb tb;have hk7:=(acz.1 x1).1;have h1:=de (l:=y.pl.set k ⟨{C.pg k with own:=true,cl:=c},none,none,x.ob⟩) (i:=k) (j:=3) (v:= .slice (some ⟨gb,0,none⟩) m m) (a':=(⟨{C.pg k with own:=true,cl:=c,bq:=gs},some gb,none,x.ob⟩:uT)) dh (acD (a:=(⟨{C.pg k with own:=true,cl:=c},none,none,x.ob⟩:uT)) hk7) (by unfold eZ;dsimp only;rw[hgs,acU,agT];rfl) (by decide);have h2:=de (l:=(y.pl.set k ⟨{C.pg k with own:=true,cl:=c},none,none,x.ob⟩).set k ⟨{C.pg k with own:=true,cl:=c,bq:=gs},some gb,none,x.ob⟩) (i:=k) (j:=4) (v:= .slice (some ⟨tb,0,none⟩) m m) (a':=(⟨{C.pg k with own:=true,cl:=c,bq:=gs,tk:=acA m false},some gb,some tb,x.ob⟩:uT)) dh (acD (a:=(⟨{C.pg k with own:=true,cl:=c,bq:=gs},some gb,none,x.ob⟩:uT)) (by simpa using hk7)) (by unfold eZ;dsimp only;rw[adp];rfl) (by decide);rw[h1,h2,adn,adn]
  generalize jw:y.pl.flatMap eZ=cs at*;refine a8 ?_;refine au ?_;refine gT false T.mix ?_;refine bK ?_;refine Tp (oL T.bR ?_ (hk:=XW hc (by repeat (first|exact fE.here|apply fE.there))));refine Ti (Qu) ?_;refine gR ?_;refine au ?_;rw[←hm,e2];have hl8:k*7+7≤((y.pl.set k ⟨{C.pg k with own:=true,cl:=c},none,none,x.ob⟩).flatMap eZ).length:=by
   rw[fw dh,acE];have:=(acz.1 x1).1;omega
  generalize hds:(y.pl.set k ⟨{C.pg k with own:=true,cl:=c},none,none,x.ob⟩).flatMap eZ=dc at*;refine cg (ι:=Nat×Nat) [47,48,49,50,51,52,53,54,55,56] (λ(gb,tb)=>True) (λ(gb,tb)=> []) (λ(gb,tb)=> [ag gb 163 (aJ (acA m 0)),ag tb 4 (tZ (acA m false)),Eg x.ob (oE (C.pg k).old),aN ((y.pl.eraseIdx k).map ot),ag y.pb 224 ((dc.set (k*7+3) (.slice (some ⟨gb,0,none⟩) m m)).set (k*7+4) (.slice (some ⟨tb,0,none⟩) m m)),p7 C y,ag b 136 (eh C y),ag y.rb 253 (y.rl.flatMap eW),aN (y.rl.map lC),ag y.a 192 (iq y.ab C.aq (C.n*C.aq)),ag y.ab 5 (dT C.A (C.n*C.aq))]) ?_ ?_
  ·refine wu T.mix .nil λF1 iT cj aI=> ?_
   refine Dt 0 rfl Mv ?_;refine Dt 1 rfl Mv ?_;refine Dt 2 rfl Mv ?_;refine Dt 4 rfl Mv ?_;refine D2 3 5 ?_ ?_
   ·refine Do rfl (oM (m) (m) T.AO λb1=> ?_)
    refine ay ?_;refine Dt 6 rfl Nc ?_;refine Dt 7 rfl (Fa T.tR) ?_;refine D2 5 8 ?_ ?_
    ·refine Do rfl (oM (m) (m) T.FB λb2=> ?_)
     refine ay ?_;refine Dn 8 ?_;refine Do rfl (oS T.Ap ?_);refine ay ?_;refine Dt 9 rfl Nc ?_;refine Dt 10 rfl (Fa T.pU) ?_;refine Dn 11 ?_;refine Do rfl (oS T.Ao ?_);refine ay ?_;refine bC (by kernel_rfl) aI ?_;rw[EM,Nk];refine Me ((b1,b2)) (trivial)
    refine Do rfl (oS T.Ap ?_);refine ay ?_;refine Dn 5 ?_;refine Do rfl (oM (m) (m) T.FB λb3=> ?_);refine ay ?_;refine Dt 9 rfl Nc ?_;refine Dt 10 rfl (Fa T.pU) ?_;refine Dn 11 ?_;refine Do rfl (oS T.Ao ?_);refine ay ?_;refine bC (by kernel_rfl) aI ?_;rw[EM,Nk];refine Me ((b1,b3)) (trivial)
   refine Do rfl (oM (m) (m) T.FB λb4=> ?_);refine ay ?_;refine Dn 3 ?_;refine Do rfl (oM (m) (m) T.AO λb5=> ?_);refine ay ?_;refine Dt 6 rfl Nc ?_;refine Dt 7 rfl (Fa T.tR) ?_;refine Dn 8 ?_;refine Do rfl (oS T.Ap ?_);refine ay ?_;refine Dt 9 rfl Nc ?_;refine Dt 10 rfl (Fa T.pU) ?_;refine Dn 11 ?_;refine Do rfl (oS T.Ao ?_);refine ay ?_;refine bC (by kernel_rfl) aI ?_;rw[EM,Nk];refine Me ((b5,b4)) (trivial)
  rintro⟨gb,tb⟩ hI
  try dsimp only at hI⊢
  rw[e8 gb tb];have hk7:=(acz.1 x1).1;have n1:(y.pl.set k ⟨{C.pg k with own:=true,cl:=c,bq:=gs,tk:=acA m false},some gb,some tb,x.ob⟩)[k]?=some (⟨{C.pg k with own:=true,cl:=c,bq:=gs,tk:=acA m false},some gb,some tb,x.ob⟩:uT):=acD hk7;have hgl:gs.length=m:=by rw[hgs];simp
  have k3:((y.pl.set k ⟨{C.pg k with own:=true,cl:=c,bq:=gs,tk:=acA m false},some gb,some tb,x.ob⟩).flatMap eZ)[k*7+3]?=some (.slice (some ⟨gb,0,none⟩) m m):=by
   have:=bE dh n1 (j:=3) (v:= .slice (some ⟨gb,0,none⟩) gs.length gs.length) rfl;rw[hgl]at this;exact this
  have k6:((y.pl.set k ⟨{C.pg k with own:=true,cl:=c,bq:=gs,tk:=acA m false},some gb,some tb,x.ob⟩).flatMap eZ)[k*7+6]?=some (.map x.ob):=bE dh n1 (j:=6) rfl;generalize hes:(y.pl.set k ⟨{C.pg k with own:=true,cl:=c,bq:=gs,tk:=acA m false},some gb,some tb,x.ob⟩).flatMap eZ=es at*;refine bw ?_;refine Lo (ι:=Nat×List Nat) [63,64,8,65,66,67,68,69,70,71,72,73,74,75,76,77,78,79,80,81,82,83,84,85,62] (λ(j,L)=>j≤m∧L.length=m∧∀i,i<j→L[i]?=gs[i]?) (λ(j,L)=> [(62, .int .i64 (j:Int))]) (λ(j,L)=> [ag gb 163 (aJ L),ag tb 4 (tZ (acA m false)),Eg x.ob (oE (C.pg k).old),aN ((y.pl.eraseIdx k).map ot),ag y.pb 224 es,p7 C y,ag b 136 (eh C y),ag y.rb 253 (y.rl.flatMap eW),aN (y.rl.map lC),ag y.a 192 (iq y.ab C.aq (C.n*C.aq)),ag y.ab 5 (dT C.A (C.n*C.aq))]) (λ(j,L)=>m-j) ((0,acA m 0)) ⟨acS _,by simp,λi hi=>absurd hi (agH i)⟩ ?_;rintro⟨j,L⟩ ⟨hj0,hL,kF⟩
  try dsimp only at hI⊢
  try dsimp only at hj0 hL kF⊢
  refine aZ ?_;refine au ?_;refine av rfl ?_ ?_
  ·intro hj
   replace hj:=aD hj;have hjm:j<m:=by omega
   have hjz:j*C.sz c≤1048576*1048576:=adF (by omega) (by omega);have hlL:j<(aJ L).length:=by rw[kN];omega
   refine cI ?_;refine gK 20 T.mix (.cons (.there (.there (.there (.there .here)))) (.cons (.there (.there (.there (.there .here)))) (.cons (.there (.there (.there (.there .here)))) .nil))) λF2 yi ez dX=> ?_;obtain⟨q4,q5,q6,_⟩:=ez;have kz:=kP (bD q5) (jG (ud hc));refine kx ?_;refine Ti (MuN) ?_;refine Tp (oQlO T.aaA ?_ hxo);refine ao (t:=83) (v':=(.int .u32 ((BW (C.pg k).old (j*C.sz c):Nat):Int))) rfl (by exact VR _) ?_;refine ay ?_;refine gd dX ?_;refine bH ?_;refine az ?_;rw[Cz];refine Ro ((j+1,L.set j (BW (C.pg k).old (j*C.sz c)))) (⟨by dsimp only;omega,by rw[acE];exact hL,λi hi=> ?_⟩) ((by dsimp only;omega));by_cases Uk:i=j
   ·subst Uk
    rw[acD (by omega),hgs,acL,List.getElem?_range (by omega)];rfl
   rw[ac5 (λq=>Uk q.symm)];exact kF i (by dsimp only at hi;omega)
  intro hj;replace hj:=aD hj;obtain rfl:j=m:=by omega
  obtain rfl:L=gs:=by
   apply List.ext_getElem?;intro i;by_cases hi:i<j
   ·exact kF i hi
   rw[acK (by omega),acK (by omega)]
  clear kF hj
  have hW:C.fq k c={C.pg k with own:=true,cl:=c,bq:=L,tk:=acA j false}:=by unfold fq;rw[←hm,←hgs]
  rw[←hW]at n1 hes;obtain⟨z,z1,z2⟩:=wO K hy hc;have GR:c<C.rows.length:=by rw[K.rl];exact hc
  have r2:(y.rl.flatMap eW)[c*4+2]?=some (.int .i64 ((C.rw c).cH:Int)):=by
   have:=bE dg z1 (j:=2) rfl;rw[z2]at this;exact this
  have l3:=l2 c hc;have hl4:c*4+4≤(y.rl.flatMap eW).length:=by
   rw[fw dg];have:=(acz.1 z1).1;omega
  obtain⟨D,hD⟩:∃D:Cs,D={C with cR:=C.cR.set k (C.fq k c),rows:=C.rows.set c {C.rw c with cH:=(C.rw c).cH+1}}:=⟨_,rfl⟩;obtain⟨y2,IT⟩:∃y2:Lc,y2={y with pl:=y.pl.set k ⟨C.fq k c,some gb,some tb,x.ob⟩,rl:=y.rl.set c ⟨{C.rw c with cH:=(C.rw c).cH+1},z.a,z.c⟩}:=⟨_,rfl⟩;have Xn:(y.rl.flatMap eW).set (c*4+2) (.int .i64 ((C.rw c).cH+1:Int))=y2.rl.flatMap eW:=by
   rw[IT];exact de dg z1 (by unfold eW;rw[z2];rfl) (by decide)
  have hDp:D.pg k=C.fq k c:=by
   have:=EZ C k k (C.fq k c) (by rw[K.pl];exact bX);rw[if_pos rfl]at this;rw[hD];exact this
  have hDr:D.rw c={C.rw c with cH:=(C.rw c).cH+1}:=by
   have:=wI C c c {C.rw c with cH:=(C.rw c).cH+1} GR;rw[if_pos rfl]at this;rw[hD];exact this
  have hDF:Fix D:=by rw[hD];exact⟨K.p0,K.p1,K.p8,K.n0,K.n1,K.l0,K.l1,K.s0,by simp[K.pl],by simp[K.rl]⟩
  have hDy:gL D y2:=by
   rw[hD,IT];refine⟨by rw[adG,hy.pl],by rw[adG,hy.rl],λu hu=> ?_,hy.aq,hy.cH⟩;rcases adJ hu with h|rfl
   ·exact hy.pk u h
   exact⟨rfl,rfl,λh=>by have:=x3.o h;rw[x2]at this;exact this⟩
  have fb:(D.pg k).cl=c:=by rw[hDp];rfl
  have J:=Ws b D y2 hDF hDy k (by rw[hD];exact bX) ⟨C.fq k c,some gb,some tb,x.ob⟩ tb (by rw[IT];exact acD hk7) rfl (by rw[fb,hD];exact hc) (by rw[fb,hDp,hD,hW];simp[hm];exact acG _) (by rw[fb,hDr];have:=xl K c;dsimp only;omega) (by rw[fb,hDr];dsimp only;omega);rw[fb]at J;refine bT ?_;refine a8 ?_;rw[Xn];have jv:ot ⟨C.fq k c,some gb,some tb,x.ob⟩=aN [ag gb 163 (aJ L),ag tb 4 (tZ (acA j false)),Eg x.ob (oE (C.pg k).old)]:=by rw[hW];rfl
  refine aC (λ_ s=>fN (L:= [_,_,_]) s) ?_;rw[←jv];refine aC (λ_ s=>AM (f:=ot) x1 _ s) ?_;have hrm:aN (y.rl.map lC)=aN (y2.rl.map lC):=by
   rw[IT];show aN (y.rl.map lC)=aN ((y.rl.set c _).map lC);rw[adG,show lC ⟨{C.rw c with cH:=(C.rw c).cH+1},z.a,z.c⟩=lC z from by unfold lC;rw[z2],gW (by rw[acL,z1];rfl)]
  rw[hrm];have hpl2:y.pl.set k ⟨C.fq k c,some gb,some tb,x.ob⟩=y2.pl:=by rw[IT]
  rw[hpl2]at hes⊢;rw[←hes];refine aC (H':=qC b D y2) (by rw[hD,IT];exact Eh) ?_;unfold qC;refine Lp (oC T.aa4 rfl rfl (J) (.cons .here (.cons .here (.cons .here (.cons .here (.cons .here (.cons .here (.cons .here (.cons .here .nil)))))))) (λ_ _ _=>trivial) ?_);rintro v H' ⟨rfl,zz,Xk,a3,c3,rfl,pA⟩;refine bd ?_;obtain⟨Y,hY⟩:∃Y:Lc,Y={y2 with rl:=y2.rl.set c ⟨(lG D k).rw c,a3,c3⟩}:=⟨_,rfl⟩;rw[←hY]at pA;have hsp1:1≤C.spare:=by
   have h1:=lH yk (mA (C:=C) (i:=k) (by rw[K.pl];exact bX));rw[K.sp];have:yk (C.pg k)=1:=by unfold yk;rw[if_neg (by rw[ho];simp)]
   rw[this]at h1;exact h1
  have BZ:(eh (lG D k) Y).set (0+11) (.int .i64 ((C.spare:Int)-1))=eh (C.bG k c) Y:=by
   rw[show((C.spare:Int)-1)=((C.spare-1:Nat):Int) by omega,hD];rfl
  have Un:(eh (lG D k) Y)[0+11]?=some (.int .i64 (C.spare:Int)):=by rw[hD];rfl
  have hlc:gL (C.bG k c) Y:=by
   refine⟨?_, ?_,pA.pk,by have:=pA.aq;rw[hD]at this;exact this,by have:=pA.cH;rw[hD]at this;exact this⟩
   ·rw[pA.pl,hD];rfl
   rw[pA.rl];unfold lG;dsimp only;rw[fb,hDr,hDp];have e1:D.gP k c (C.fq k c).tk=C.gP k c (acA (C.aq/C.sz c) false):=by rw[hD];rfl
   rw[e1,hD];dsimp only;rw[adn];rfl
  refine aC (H':= [ag b 136 (eh (lG D k) Y),p7 C y,ag y.pb 224 (Y.pl.flatMap eZ),aN (Y.pl.map ot),ag y.rb 253 (Y.rl.flatMap eW),aN (Y.rl.map lC),ag y.a 192 (iq y.ab C.aq (C.n*C.aq)),ag y.ab 5 (dT C.A (C.n*C.aq))]) (by rw[hY,hD,IT];exact Eh) ?_;have uS:0+11<(eh (lG D k) Y).length:=by unfold eh;simp
  obtain⟨sc,hsc⟩:∃sc,sc=eh (lG D k) Y:=⟨_,rfl⟩;rw[←hsc]at Un uS BZ⊢;refine bT ?_;rw[BZ];refine aC (H':=qC b (C.bG k c) Y) (by rw[hY,IT];exact Eh) ?_;unfold qC;refine Rt [ag b 136 (eh (C.bG k c) Y),p7 (C.bG k c) Y,ag Y.pb 224 (Y.pl.flatMap eZ),aN (Y.pl.map ot),ag Y.rb 253 (Y.rl.flatMap eW),aN (Y.rl.map lC),ag Y.a 192 (iq Y.ab (C.bG k c).aq ((C.bG k c).n*(C.bG k c).aq)),ag Y.ab 5 (dT (C.bG k c).A ((C.bG k c).n*(C.bG k c).aq))] results156 ?_;exact⟨rfl,Y,hlc,by rw[hY,IT],rfl⟩
 intro hk;replace hk:=aD hk;obtain rfl:k=C.n:=by omega
 rw[DR (by rw[K.pl];exact rH)];refine cN ?_;refine Rt [ag b 136 (eh C y),p7 C y,ag y.pb 224 (y.pl.flatMap eZ),aN (y.pl.map ot),ag y.rb 253 (y.rl.flatMap eW),aN (y.rl.map lC),ag y.a 192 (iq y.ab C.aq (C.n*C.aq)),ag y.ab 5 (dT C.A (C.n*C.aq))] results156 ?_;exact⟨rfl,rfl⟩
theorem V0{p P o:Nat}(h:p % P+o<P):(p+o) % P=p % P+o:=by
 rw[Nat.add_mod,ac9 (show o<P by omega),ac9 h]
theorem II (l:List Bool)(k:Nat)(b:Bool):(tZ l).set k (.bool b)=tZ (l.set k b):=by unfold tZ;rw[adG]
theorem Q4{C:Cs}{x:uT}{i gb tb:Nat}(e:x.p=C.pg i)(hg:x.gb=some gb)(ht:x.tb=some tb):ot x=aN [ag gb 163 (aJ (C.pg i).bq),ag tb 4 (tZ (C.pg i).tk),Eg x.ob (oE (C.pg i).old)]:=by
 unfold ot;rw[hg,ht,e];rfl
theorem VI{a:Option Addr}{c e:Nat}{xs ys:List Value}{H:List aa}{k:Hp}(s:ak (own a c e 1 (xs++ys)::H) k):ak (own a c e 1 xs::H) k:=bm (λ_ p=>VJ p) s
def Y0 (b:Nat)(C:Cs)(y:Lc)(i c gb tb:Nat)(x:uT)(z:Ey):List aa:=
 [own z.a z.c 3 1 (aV (C.rw c).free),ag gb 163 (aJ (C.pg i).bq),ag tb 4 (tZ (C.pg i).tk),ag y.pb 224 (y.pl.flatMap eZ),ag y.rb 253 (y.rl.flatMap eW),ag b 136 (eh C y),p7 C y,
  ag y.a 192 (iq y.ab C.aq (C.n*C.aq)),ag y.ab 5 (dT C.A (C.n*C.aq)),Eg x.ob (oE (C.pg i).old),aN ((y.pl.eraseIdx i).map ot),aN ((y.rl.eraseIdx c).map lC)]
theorem OB{b:Nat}{C:Cs}{y:Lc}{i c gb tb:Nat}{x:uT}{z:Ey}{n:Nat}{ds:List Deferred}{F:ee}{K:Act→World→Prop}{σ:ba}
  (x1:y.pl[i]?=some x) (e:x.p=C.pg i) (hg:x.gb=some gb) (ht:x.tb=some tb) (z1:y.rl[c]?=some z) (ze:z.r=C.rw c)
  (h:G n ds F K σ (Y0 b C y i c gb tb x z)):G n ds F K σ (qC b C y):=by
 unfold qC;refine Hh (H':= [aN (y.pl.map ot),aN (y.rl.map lC),ag b 136 (eh C y),p7 C y,ag y.pb 224 (y.pl.flatMap eZ),ag y.rb 253 (y.rl.flatMap eW),ag y.a 192 (iq y.ab C.aq (C.n*C.aq)),ag y.ab 5 (dT C.A (C.n*C.aq))]) ?_;refine aC (λ_ s=>vG x1 s) ?_;rw[Q4 e hg ht];refine vv ?_;refine Hh (H':= [aN (y.rl.map lC),ag gb 163 (aJ (C.pg i).bq),ag tb 4 (tZ (C.pg i).tk),Eg x.ob (oE (C.pg i).old),aN ((y.pl.eraseIdx i).map ot),ag b 136 (eh C y),p7 C y,ag y.pb 224 (y.pl.flatMap eZ),ag y.rb 253 (y.rl.flatMap eW),ag y.a 192 (iq y.ab C.aq (C.n*C.aq)),ag y.ab 5 (dT C.A (C.n*C.aq))]) ?_;refine aC (λ_ s=>vG z1 s) ?_;rw[show lC z=own z.a z.c 3 1 (aV (C.rw c).free)from by unfold lC;rw[ze]];exact Hh h
theorem xX{b:Nat}{C D:Cs}{y:Lc}{i c gb tb:Nat}{x:uT}{z:Ey}{fr:List Nat}{bq:List Nat}{tk:List Bool}{a:Option Addr}{cc:Nat}{r:Rw}{p:Pg}{k:Hp}(hy:gL C y)
  (x1:y.pl[i]?=some x) (e:x.p=C.pg i) (hg:x.gb=some gb) (ht:x.tb=some tb) (z1:y.rl[c]?=some z)
  (hD:D.cR=C.cR.set i p) (hR:D.rows=C.rows.set c r) (h1:D.aq=C.aq) (h2:D.n=C.n) (h3:D.af=C.af) (h4:D.spare=C.spare) (h5:D.cfg=C.cfg) (Es:r.free=fr) (jv:p.bq=bq) (hpt:p.tk=tk) (hpo:p.own=(C.pg i).own) (hold:p.old=(C.pg i).old)
  (s:ak [own a cc 3 1 (aV fr),ag gb 163 (aJ bq),ag tb 4 (tZ tk),ag y.pb 224 ((y.pl.set i ⟨p,some gb,some tb,x.ob⟩).flatMap eZ),ag y.rb 253 ((y.rl.set c ⟨r,a,cc⟩).flatMap eW),ag b 136 (eh C y),p7 C y,
   ag y.a 192 (iq y.ab C.aq (C.n*C.aq)),ag y.ab 5 (dT D.A (C.n*C.aq)),Eg x.ob (oE (C.pg i).old),aN ((y.pl.eraseIdx i).map ot),aN ((y.rl.eraseIdx c).map lC)] k):ak [Cl b D] k:=by
 have e2:aN [ag gb 163 (aJ bq),ag tb 4 (tZ tk),Eg x.ob (oE (C.pg i).old)]=ot ⟨p,some gb,some tb,x.ob⟩:=by
  unfold ot;rw[←jv,←hpt,←hold];rfl
 have e3:own a cc 3 1 (aV fr)=lC ⟨r,a,cc⟩:=by unfold lC;rw[Es]
 have s1:ak [ag gb 163 (aJ bq),ag tb 4 (tZ tk),Eg x.ob (oE (C.pg i).old),aN ((y.pl.eraseIdx i).map ot),own a cc 3 1 (aV fr),aN ((y.rl.eraseIdx c).map lC),ag y.pb 224 ((y.pl.set i ⟨p,some gb,some tb,x.ob⟩).flatMap eZ),ag y.rb 253 ((y.rl.set c ⟨r,a,cc⟩).flatMap eW),ag b 136 (eh C y),p7 C y,ag y.a 192 (iq y.ab C.aq (C.n*C.aq)),ag y.ab 5 (dT D.A (C.n*C.aq))] k:=by refine(?_:∀h,ak _ h→ak _ h) k s;exact Eh
 have s2:=fN (L:= [_,_,_]) s1;rw[e2]at s2;have s3:=AM (f:=ot) x1 _ s2;rw[e3]at s3;have s4:ak [lC ⟨r,a,cc⟩,aN ((y.rl.eraseIdx c).map lC),aN ((y.pl.set i ⟨p,some gb,some tb,x.ob⟩).map ot),ag y.pb 224 ((y.pl.set i ⟨p,some gb,some tb,x.ob⟩).flatMap eZ),ag y.rb 253 ((y.rl.set c ⟨r,a,cc⟩).flatMap eW),ag b 136 (eh C y),p7 C y,ag y.a 192 (iq y.ab C.aq (C.n*C.aq)),ag y.ab 5 (dT D.A (C.n*C.aq))] k:=by refine(?_:∀h,ak _ h→ak _ h) k s3;exact Eh
 have s5:=AM (f:=lC) z1 _ s4;have IT:gL D {y with pl:=y.pl.set i ⟨p,some gb,some tb,x.ob⟩,rl:=y.rl.set c ⟨r,a,cc⟩}:=by
  refine⟨by rw[hD,←hy.pl,adG],by rw[hR,←hy.rl,adG],λu hu=> ?_,by rw[h5,h1];exact hy.aq,by rw[h5,h2];exact hy.cH⟩;have P:=hy.pk x (acB x1);rcases adJ hu with h|rfl
  ·exact hy.pk u h
  refine⟨?_, ?_,λh=> ?_⟩
  ·dsimp only;rw[hpo,←e,←P.g,hg]
  ·dsimp only;rw[hpo,←e,←P.t,ht]
  dsimp only;rw[hold,←e];exact P.o h
 refine xB (H:= []) IT ?_;have hs:eh D {y with pl:=y.pl.set i ⟨p,some gb,some tb,x.ob⟩,rl:=y.rl.set c ⟨r,a,cc⟩}=eh C y:=by unfold eh;rw[h1,h2,h3,h4,h5]
 have hz:p7 D {y with pl:=y.pl.set i ⟨p,some gb,some tb,x.ob⟩,rl:=y.rl.set c ⟨r,a,cc⟩}=p7 C y:=by unfold p7;rw[h3]
 unfold qC;rw[hs,hz,h1,h2];refine(?_:∀h,ak _ h→ak _ h) k s5;exact Eh
theorem agh (a:Option Addr)(m:Nat):Ai a 0 m (0*1)=a:=by
 unfold Ai
 split
 ·rfl
 ·cases a<;>simp[Addr.add]
theorem zC{C:Cs}{i c m:Nat}(hm:0<m):C.gP i c (acA m false)≠ []:=by
 unfold gP;intro h;rw[List.map_eq_nil_iff,List.filter_eq_nil_iff]at h;refine h 0 (by simp;omega) ?_;rw[List.getElem?_replicate,if_pos hm];rfl
theorem RB{α:Type}(l:List α){m:List α}(h:m≠ []):(l++m).getLast?=m.getLast?:=by
 rw[List.getLast?_append,adB h];rfl
theorem xH{C:Cs}(K:Ok C){i c:Nat}(hc:c<C.af.length):∃p,((C.bG i c).rw c).free.getLast?=some p:=by
 have h:=wI C c c {C.rw c with cH:=(C.rw c).cH+1,mc:=(C.rw c).mc+1,free:=(C.rw c).free++C.gP i c (acA (C.aq/C.sz c) false)} (by rw[K.rl];exact hc);rw[if_pos rfl]at h;have h2:(C.bG i c).rw c=_:=h;obtain⟨z1,z2,_⟩:=K.toFix.sz hc;have hm:0<C.aq/C.sz c:=Nat.div_pos z2 (by omega);rw[h2];dsimp only;rw[RB _ (zC hm)];exact⟨_,adB (zC hm)⟩
theorem Hw{α:Type}(f:α→Nat)(B:Nat):∀l:List α,(∀x∈l,f x≤B)→(l.map f).sum≤l.length*B
 | [],_=>by simp
 |x::l,h=>by
  have h1:=Hw f B l λy hy=>h y (acC _ hy);have h2:=h x (acF ..);simp only[acM,ac0,ac7,adD,agt];omega
theorem Bf{C:Cs}(K:Ok C){x:Pg}(hx:x∈C.cR):x.held≤1048576:=by
 have P:=K.pg x hx;have f1:=K.toFix.p1;rw[P.held];have h1:(x.tk.map bN).sum≤x.tk.length:=An bN (λb=>by cases b<;>decide) _;have h4:=P.tl;by_cases ho:x.own=true
 ·have h2:=P.gl ho
  have h3:=agy C.aq (C.sz x.cl);omega
 have:=(P.no (by simpa using ho)).1;rw[this]at h4;simp at h4;rw[h4]at h1⊢;simp
theorem NX{C:Cs}(K:Ok C){c:Nat}(hc:c<C.af.length):(C.rw c).gQ≤1073741824:=by
 rw[K.ft c hc];have h1:=Hw (yf c) 1048576 C.cR λx hx=>by
  unfold yf
  split
  ·exact Bf K hx
  omega
 have h2:=K.toFix.n1;have h3:=K.toFix.pl;unfold D9;omega
theorem Va (b:Nat)(C:Cs)(K:Ok C)(c:Nat)(hc:c<C.af.length):aH acw 101 [.pointer (some ⟨b,0,none⟩), .int .i64 (c:Int)] (λ_=>True) [Cl b C]
  (λv H=>match C.eA c with
   |none=>v= .tuple #[.int .u64 0, .int .i64 21]∧H= [Cl b C]
   |some (p,D)=>v= .tuple #[.int .u64 (D.hd p:Int), .int .i64 0]∧H= [Cl b D]):=by
 refine HO λy hy=> ?_;have l1:=K.toFix.l1;refine ae func101 rfl ntmps101 rfl ?_;intro F _;change G _ _ _ _ _ [ag b 136 (eh C y),p7 C y,ag y.pb 224 (y.pl.flatMap eZ),aN (y.pl.map ot),ag y.rb 253 (y.rl.flatMap eW),aN (y.rl.map lC),ag y.a 192 (iq y.ab C.aq (C.n*C.aq)),ag y.ab 5 (dT C.A (C.n*C.aq))];refine cI ?_;refine zl T.Yc (XX b C y K (c:Int)) .nil (λ_ _ aw=>⟨aw.nth 0 rfl,aw.nth 1 rfl,aw.nth 2 rfl,aw.nth 3 rfl,aw.nth 4 rfl,aw.nth 5 rfl,aw.nth 6 rfl,aw.nth 7 rfl,trivial⟩) ?_;rw[show isM C (c:Int)=true from decide_eq_true ⟨by omega,by omega⟩];obtain⟨z,z1,z2⟩:=wO K hy hc;have r0:(y.rl.flatMap eW)[c*4]?=some (.slice z.a (C.rw c).free.length z.c):=by
  have:=bE dg z1 (j:=0) rfl;rw[z2]at this;exact this
 refine nj ?_;refine au ?_;refine cg (ι:=Bool×Cs×Lc×Nat) [20,21,22,23,24,25,26,27,28,29,30,31] (λ(ok,D,Y,p)=>(ok=true→Ok D∧gL D Y∧Y.rb=y.rb∧c<D.af.length∧(D.rw c).free.getLast?=some p∧C.eA c=some (p,D.fi c p))∧(ok=false→D=C∧Y=y∧C.eA c=none)) (λ(ok,D,Y,p)=> [(31, .bool (!ok))]) (λ(ok,D,Y,p)=> [ag b 136 (eh D Y),p7 D Y,ag Y.pb 224 (Y.pl.flatMap eZ),aN (Y.pl.map ot),ag Y.rb 253 (Y.rl.flatMap eW),aN (Y.rl.map lC),ag Y.a 192 (iq Y.ab D.aq (D.n*D.aq)),ag Y.ab 5 (dT D.A (D.n*D.aq))]) ?_ ?_
 ·rcases e:(C.rw c).free.getLast? with _|p
  ·have hem:(C.rw c).free= []:=List.getLast?_eq_none_iff.1 e
   refine cI ?_;refine zt 26 ?_ (e:=by exact decide_eq_true (by rw[hem];rfl));refine a8 ?_;refine Lp (oC T.abq rfl rfl (Qi b C y K hy c hc) (.cons .here (.cons .here (.cons .here (.cons .here (.cons .here (.cons .here (.cons .here (.cons .here .nil)))))))) (λ_ _ _=>trivial) ?_);rintro v H' hw;refine bd ?_;rcases e2:C.fW with _|i
   ·rw[e2]at hw
    obtain⟨rfl,rfl⟩:=hw;refine a8 ?_;refine az ?_;refine Me ((false,C,y,0)) (⟨λh=>(by cases h),λ_=>⟨rfl,rfl,by unfold eA;rw[e,e2]⟩⟩)
   rw[e2]at hw;obtain⟨rfl,Y,hY,Ek,rfl⟩:=hw;obtain⟨p,hp⟩:=xH K (i:=i) hc;have hi:i<C.n∧(C.pg i).own=false:=by
    unfold fW at e2;rw[acV]at e2;obtain⟨q1,q2,_⟩:=e2;refine⟨by rw[←K.pl];exact q1, ?_⟩;have:=mA (C:=C) q1;rw[acx q1]at this;rw[←Option.some.inj this];simpa using q2
   refine a8 ?_;refine az ?_;refine Me ((true,C.bG i c,Y,p)) (⟨λ_=>⟨yW K hi.1 hc hi.2,hY,Ek,hc,hp,by unfold eA;rw[e,e2];dsimp only;rw[hp]⟩,λh=>(by cases h)⟩)
  have ja:(C.rw c).free≠ []:=λh=>by rw[h]at e;cases e
  have I9:0<(C.rw c).free.length:=List.length_pos_iff.2 ja;refine cI ?_;refine zf 26 ?_;refine bc ?_;refine az ?_;refine Me ((true,C,y,p)) (⟨λ_=>⟨K,hy,rfl,hc,e,by unfold eA;rw[e]⟩,λh=>by cases h⟩)
 rintro⟨ok,D,Y,p⟩ ⟨h1,h2⟩
 try dsimp only at hI⊢
 rcases ok with _|_
 ·obtain⟨rfl,rfl,h3⟩:=h2 rfl
  rw[h3];refine bH ?_;refine aC (H':= [Cl b D]) (λ_ s=>xB (H:= []) hy s) ?_;refine iH [Cl b D] results101 ?_;exact⟨rfl,rfl⟩
 obtain⟨KD,hY,Ek,hcD,hp,Ej⟩:=h1 rfl;rw[Ej];dsimp only
 clear h1 h2 Ej
 refine ay ?_;rw[←Ek];obtain⟨KO,S,Fp⟩:=wW KD hp;have L:=Fp.toAt;have fb:=Fp.cl;obtain⟨n1,n2,n3,n4,n5,n6,n7,n8⟩:=L.bo KD;have nb:=gh KD.toFix;have g0:=KD.toFix.p0;have g1:=KD.toFix.p1;have hgl:=Live.Ax KD L;rw[fb]at n2 n3 n4 n6 n7 n8;obtain⟨x,x1,x2,x3⟩:=vE KD hY L.i;obtain⟨gb,BD⟩:∃g,x.gb=some g:=Option.isSome_iff_exists.1 (x3.g.trans (by rw[x2];exact L.own));obtain⟨tb,BC⟩:∃g,x.tb=some g:=Option.isSome_iff_exists.1 (x3.t.trans (by rw[x2];exact L.own));obtain⟨z3,w1,w2⟩:=wO KD hY hcD;have P:=KD.wB L.i;have ek:=L.k;have etk:=Fp.tk;have hixp:p % D.aq/D.sz c=D.ix p:=D6 (c:=c) (i:=D.pn p) fb rfl;have hTl:=Bf KD (gM (C:=D) (i:=D.pn p) (by rw[KD.pl];exact L.i));have hTk:=NX KD hcD;have hfb:=xl KD c;have ja:(D.rw c).free≠ []:=λh=>by rw[h]at hp;cases hp
 have BE:(D.rw c).free=(D.rw c).free.dropLast++ [p]:=by
  have:=ahq ja;rw[adB ja]at hp;rw[Option.some.inj hp]at this;exact this.symm
 obtain⟨f0,hf0⟩:∃f0,f0=(D.rw c).free.dropLast:=⟨_,rfl⟩;rw[←hf0]at BE;have hlen:(D.rw c).free.length=f0.length+1:=by rw[BE];simp
 have r0:(Y.rl.flatMap eW)[c*4]?=some (.slice z3.a (f0.length+1) z3.c):=by
  have:=bE dg w1 (j:=0) (v:= .slice z3.a z3.r.free.length z3.c) rfl;rw[w2,hlen]at this;exact this
 have pk3:(Y.pl.flatMap eZ)[D.pn p*7+3]?=some (.slice (some ⟨gb,0,none⟩) (D.pg (D.pn p)).bq.length (D.pg (D.pn p)).bq.length):=by
  have:=bE dh x1 (j:=3) rfl;rw[BD,x2]at this;exact this
 have pk4:(Y.pl.flatMap eZ)[D.pn p*7+4]?=some (.slice (some ⟨tb,0,none⟩) (D.pg (D.pn p)).bq.length (D.pg (D.pn p)).bq.length):=by
  have:=bE dh x1 (j:=4) rfl;rw[BC,x2,P.tl]at this;exact this
 have pk5:(Y.pl.flatMap eZ)[D.pn p*7+5]?=some (.int .i64 ((D.pg (D.pn p)).held:Int)):=by
  have:=bE dh x1 (j:=5) rfl;rw[x2]at this;exact this
 refine OB x1 x2 BD BC w1 w2 ?_;unfold Y0;rw[BE];refine fV (dZ .here λ_ o=>(pG o).some (by rw[jk];simp)) λsa=> ?_;refine fV (dZ .here VK) λscap=> ?_;rw[jk,acI,adv]at scap;have kl:(aV (f0++ [p]))[f0.length]?=some (.int .i64 (p:Int)):=jG (by simp);refine a8 ?_;refine au ?_;refine gT false T.mix ?_;refine bw ?_;refine Ti ((Ix T.qk (j:=f0.length) (hj:=by omega))) ?_;refine aZ ?_;refine au ?_;refine gT false T.mix ?_;refine bK ?_;refine Ti (Sl 0 f0.length z3.c T.qk) ?_;rw[agh];have e1:(Y.rl.flatMap eW).set (c*4+0) (.slice z3.a f0.length z3.c)=(Y.rl.set c ⟨{D.rw c with free:=f0},z3.a,z3.c⟩).flatMap eW:=de dg w1 (by unfold eW;rw[w2];rfl) (by decide);have e2:((Y.rl.set c ⟨{D.rw c with free:=f0},z3.a,z3.c⟩).flatMap eW).set (c*4+1) (.int .i64 ((D.rw c).gQ+1:Int))=(Y.rl.set c ⟨{D.rw c with free:=f0,gQ:=(D.rw c).gQ+1},z3.a,z3.c⟩).flatMap eW:=by
  have:=de (l:=Y.rl.set c ⟨{D.rw c with free:=f0},z3.a,z3.c⟩) (i:=c) (j:=1) (v:= .int .i64 ((D.rw c).gQ+1:Int)) (a':=(⟨{D.rw c with free:=f0,gQ:=(D.rw c).gQ+1},z3.a,z3.c⟩:Ey)) dg (acD (acz.1 w1).1) (by unfold eW;rfl) (by decide);rw[adn]at this;exact this
 have r1:((Y.rl.set c ⟨{D.rw c with free:=f0},z3.a,z3.c⟩).flatMap eW)[c*4+1]?=some (.int .i64 ((D.rw c).gQ:Int)):=bE dg (acD (acz.1 w1).1) rfl;have hl4:c*4+4≤(Y.rl.flatMap eW).length:=by
  rw[fw dg];have:=(acz.1 w1).1;omega
 have hl5:c*4+4≤((Y.rl.set c ⟨{D.rw c with free:=f0},z3.a,z3.c⟩).flatMap eW).length:=by
  rw[fw dg,acE];have:=(acz.1 w1).1;omega
 generalize IX:Y.rl.flatMap eW=c1 at*;refine aR ?_;refine au ?_;rw[ahi,ahi,e1];generalize ow:(Y.rl.set c ⟨{D.rw c with free:=f0},z3.a,z3.c⟩).flatMap eW=c2 at*;refine bw ?_;refine au ?_;rw[e2];have e3:(Y.pl.flatMap eZ).set (p/D.aq*7+5) (.int .i64 ((D.pg (D.pn p)).held+1:Int))=(Y.pl.set (D.pn p) ⟨{D.pg (D.pn p)with tk:=(D.pg (D.pn p)).tk.set (D.ix p) true,held:=(D.pg (D.pn p)).held+1},some gb,some tb,x.ob⟩).flatMap eZ:=
  de (j:=5) dh x1 (by unfold eZ;rw[x2,BD,BC];dsimp only;rw[acE];rfl) (by decide)
 have YP:=agX p (show 0<D.aq by omega);have pk3b:((Y.pl.set (D.pn p) ⟨{D.pg (D.pn p)with tk:=(D.pg (D.pn p)).tk.set (D.ix p) true,held:=(D.pg (D.pn p)).held+1},some gb,some tb,x.ob⟩).flatMap eZ)[D.pn p*7+3]?=some (.slice (some ⟨gb,0,none⟩) (D.pg (D.pn p)).bq.length (D.pg (D.pn p)).bq.length):=bE dh (j:=3) (acD (acz.1 x1).1) rfl;have hl7:p/D.aq*7+7≤(Y.pl.flatMap eZ).length:=by
  rw[fw dh];have:=(acz.1 x1).1;unfold Cs.pn at this;omega
 generalize hc3:Y.pl.flatMap eZ=c3 at*;have hi:=L.i;have hti:D.ix p<(tZ (D.pg (D.pn p)).tk).length:=by rw[IJ,P.tl];exact ek
 have kg:=rM (vu ek);refine gT false T.mix ?_;refine bw ?_;refine Ti (Qu) ?_;refine aZ ?_;refine au ?_;refine gT false T.mix ?_;refine bB ?_;refine Ti (Rm) ?_;refine bB ?_;refine Tp (oL T.bR ?_ (hk:=XW hcD (by repeat (first|exact fE.here|apply fE.there))));refine Ti (Qu) ?_;refine a8 ?_;refine au ?_;rw[hixp];refine cN ?_;refine au ?_;rw[II];refine bw ?_;refine au ?_;rw[e3];have pm:p % D.aq=D.ix p*D.sz c:=by
  have h1:=agG p D.aq;rw[ads]at h1;unfold Cs.pn at n6;omega
 refine bB ?_;refine zl T.abp (Gq Y.a Y.ab D.aq (D.n*D.aq) p 56 D.A 0 (by decide) (by omega) (by omega) (by omega) (by omega) g1) (.cons (.there (.there (.there (.there (.there (.there (.there (.there .here)))))))) .nil) (λ_ _ aw=>aw.nth 7 rfl) ?_;refine ay ?_;refine au ?_;refine gT false T.mix ?_;refine gR ?_;refine Tp (oC T.O9 rfl rfl (xW Y.a Y.ab D.aq (D.n*D.aq) (p+12) (D.gen p) (lay D.A p (acA 56 0)) hgl (by omega) (by omega) (by omega) (by rw[V0 (by omega)];omega) g1) (.cons .here .nil) (λ_ _ aw=>aw.nth 7 rfl) ?_);rintro v H' ⟨rfl,rfl⟩;refine bd ?_;refine bw ?_;refine zl T.O8 (zA p (D.gen p) (by omega) hgl) .nil (λ_ _ _=>trivial) ?_;refine aR ?_;rw[jm f0 [p]];refine Hh (H':= [own z3.a z3.c 3 1 (aV f0++aV [p]),ag gb 163 (aJ (D.pg (D.pn p)).bq),ag tb 4 (tZ ((D.pg (D.pn p)).tk.set (D.ix p) true)),ag Y.pb 224 ((Y.pl.set (D.pn p) ⟨{D.pg (D.pn p)with tk:=(D.pg (D.pn p)).tk.set (D.ix p) true,held:=(D.pg (D.pn p)).held+1},some gb,some tb,x.ob⟩).flatMap eZ),ag Y.rb 253 ((Y.rl.set c ⟨{D.rw c with free:=f0,gQ:=(D.rw c).gQ+1},z3.a,z3.c⟩).flatMap eW),ag b 136 (eh D Y),p7 D Y,ag Y.a 192 (iq Y.ab D.aq (D.n*D.aq)),ag Y.ab 5 (dT (wr (lay D.A p (acA 56 0)) (p+12) 4 (D.gen p)) (D.n*D.aq)),Eg x.ob (oE (D.pg (D.pn p)).old),aN ((Y.pl.eraseIdx (D.pn p)).map ot),aN ((Y.rl.eraseIdx c).map lC)]) ?_;refine aC (λ_ s=>VI s) ?_;refine aC (H':= [Cl b (D.fi c p)]) (λ_ s=>xX (D:=D.fi c p) (r:={D.rw c with free:=f0,gQ:=(D.rw c).gQ+1}) (p:={D.pg (D.pn p)with tk:=(D.pg (D.pn p)).tk.set (D.ix p) true,held:=(D.pg (D.pn p)).held+1}) hY x1 x2 BD BC w1 rfl (by unfold fi put;rw[←hf0]) rfl rfl rfl rfl rfl rfl rfl rfl rfl rfl s) ?_;refine iH [Cl b (D.fi c p)] results101 ?_;refine⟨?_,rfl⟩;have e5:(D.fi c p).hd p=D.gen p*4294967296+(p/8+1):=by
  unfold Cs.hd;have:(D.fi c p).gen p=D.gen p:=by
   unfold Cs.gen;rw[S.pn,S.ix,show(D.fi c p).pg (D.pn p)=_ from lY (by rw[KD.pl];exact L.i) _,if_pos rfl]
  rw[this]
 rw[e5]
theorem F8{α:Type}{f:α→List Value}{k:Nat}(hf:∀a,(f a).length=k){l:List α}{i j:Nat}{b a':α}{v:Value}(h:i<l.length)(hv:(f b).set j v=f a')(hj:j<k):((l.set i b).flatMap f).set (i*k+j) v=(l.set i a').flatMap f:=by
 have:=de (l:=l.set i b) (i:=i) (j:=j) (v:=v) (a':=a') hf (acD h) hv hj;rw[adn]at this;exact this
structure Pv (C:Cs)(y:Lc)(i c gb tb:Nat)(x:uT)(z:Ey):Prop where
 x1:y.pl[i]?=some x
 x2:x.p=C.pg i
 g:x.gb=some gb
 t:x.tb=some tb
 z1:y.rl[c]?=some z
 z2:z.r=C.rw c
 p1:(y.pl.flatMap eZ)[i*7+1]?=some (.bool (C.pg i).lv)
 p2:(y.pl.flatMap eZ)[i*7+2]?=some (.int .i64 (c:Int))
 p3:(y.pl.flatMap eZ)[i*7+3]?=some (.slice (some ⟨gb,0,none⟩) (C.pg i).bq.length (C.pg i).bq.length)
 p4:(y.pl.flatMap eZ)[i*7+4]?=some (.slice (some ⟨tb,0,none⟩) (C.pg i).bq.length (C.pg i).bq.length)
 p5:(y.pl.flatMap eZ)[i*7+5]?=some (.int .i64 ((C.pg i).held:Int))
 p6:(y.pl.flatMap eZ)[i*7+6]?=some (.map x.ob)
 r0:(y.rl.flatMap eW)[c*4+0]?=some (.slice z.a (C.rw c).free.length z.c)
 r1:(y.rl.flatMap eW)[c*4+1]?=some (.int .i64 ((C.rw c).gQ:Int))
 r2:(y.rl.flatMap eW)[c*4+2]?=some (.int .i64 ((C.rw c).cH:Int))
 r3:(y.rl.flatMap eW)[c*4+3]?=some (.int .i64 ((C.rw c).mc:Int))
 hp:i*7+7≤(y.pl.flatMap eZ).length
 hr:c*4+4≤(y.rl.flatMap eW).length
 ip:i<y.pl.length
 ir:c<y.rl.length
theorem ae3{C:Cs}{y:Lc}(K:Ok C)(hy:gL C y){i c:Nat}(hi:i<C.n)(ho:(C.pg i).own=true)(hc:(C.pg i).cl=c):∃gb tb x z,Pv C y i c gb tb x z:=by
 obtain⟨x,x1,x2,x3⟩:=vE K hy hi;obtain⟨gb,BD⟩:∃g,x.gb=some g:=Option.isSome_iff_exists.1 (x3.g.trans (by rw[x2];exact ho));obtain⟨tb,BC⟩:∃g,x.tb=some g:=Option.isSome_iff_exists.1 (x3.t.trans (by rw[x2];exact ho));have P:mw C (C.pg i):=K.pg _ (gM (by rw[K.pl];exact hi));have jw:c<C.af.length:=by rw[←hc];exact P.cl ho
 obtain⟨z,z1,z2⟩:=wO K hy jw;have tl:=P.tl;have q:∀j v,(eZ x)[j]?=some v→(y.pl.flatMap eZ)[i*7+j]?=some v:=λj v hv=>bE dh x1 hv;have r:∀j v,(eW z)[j]?=some v→(y.rl.flatMap eW)[c*4+j]?=some v:=λj v hv=>bE dg z1 hv;have ip:=(acz.1 x1).1;have ir:=(acz.1 z1).1;refine⟨gb,tb,x,z,x1,x2,BD,BC,z1,z2, ?_, ?_, ?_, ?_, ?_, ?_, ?_, ?_, ?_, ?_,by rw[fw dh];omega,by rw[fw dg];omega,ip,ir⟩
 ·have:=q 1 _ rfl;rw[x2]at this;exact this
 ·have:=q 2 _ rfl;rw[x2,hc]at this;exact this
 ·have:=q 3 _ rfl;rw[BD,x2]at this;exact this
 ·have:=q 4 _ rfl;rw[BC,x2,tl]at this;exact this
 ·have:=q 5 _ rfl;rw[x2]at this;exact this
 ·have:=q 6 _ rfl;exact this
 ·have:=r 0 _ rfl;rw[z2]at this;exact this
 ·have:=r 1 _ rfl;rw[z2]at this;exact this
 ·have:=r 2 _ rfl;rw[z2]at this;exact this
 have:=r 3 _ rfl;rw[z2]at this;exact this
theorem U5 (g:Nat):gG .add .u32 (g:Int) 1=some (((g+1) % 4294967296:Nat):Int):=congrArg some (by rw[IntKind.wrap_u32];omega)
set_option maxHeartbeats 1000000 in
theorem WG (b:Nat)(C:Cs)(K:Ok C)(p:Nat)(L:Live C p):aH acw 107 [.pointer (some ⟨b,0,none⟩), .int .u64 (C.hd p:Int)] (λ_=>True) [Cl b C] (λv H=>v= .int .i64 0∧H= [Cl b (C.bz p)]):=by
 refine HO λy hy=> ?_;have jw:=(L.toAt.bo K).1;obtain⟨_,_,_,_,_,n6,n7,n8⟩:=L.toAt.bo K;have nb:=gh K.toFix;have hheld:=Bf K (gM (C:=C) (i:=C.pn p) (by rw[K.pl];exact L.i));have htkn:=NX K jw;have hfree:=xl K (C.cl p);obtain⟨gb,tb,x,z,V⟩:=ae3 (c:=C.cl p) K hy L.i L.own rfl;obtain⟨x1,x2,BD,BC,z1,z2,p1,p2,p3,p4,p5,p6,r0,r1,r2,r3,hp7,hr4,ip,ir⟩:=V;have P:=K.wB L.i;have hti:C.ix p<(tZ (C.pg (C.pn p)).tk).length:=by rw[IJ,P.tl];exact L.k
 have hgi:C.ix p<(aJ (C.pg (C.pn p)).bq).length:=by rw[kN];exact L.k
 have kg:=rM (vu L.k);have ek:=L.k;have hh1:1≤(C.pg (C.pn p)).held:=by
  rw[P.held];have:=lH bN L.tk;exact this
 have ht1:1≤(C.rw (C.cl p)).gQ:=by
  rw[K.ft _ jw];have h1:=lH (yf (C.cl p)) (mA (C:=C) (i:=C.pn p) (by rw[K.pl];exact L.i));rw[AL (c:=C.cl p) L.own rfl]at h1;exact Nat.le_trans hh1 h1
 refine ae func107 rfl ntmps107 rfl ?_;intro F _;change G _ _ _ _ _ (qC b C y);unfold qC;refine bB ?_;refine zl T.Pz (Iv b C y K hy p L) .nil (λ_ _ aw=>⟨aw.nth 0 rfl,aw.nth 1 rfl,aw.nth 2 rfl,aw.nth 3 rfl,aw.nth 4 rfl,aw.nth 5 rfl,aw.nth 6 rfl,aw.nth 7 rfl,trivial⟩) ?_;refine qa ?_;change G _ _ _ _ _ (qC b C y);refine OB (c:=C.cl p) x1 x2 BD BC z1 z2 ?_;unfold Y0;have e5:(y.pl.flatMap eZ).set (C.pn p*7+5) (.int .i64 ((C.pg (C.pn p)).held-1:Int))=(y.pl.set (C.pn p) ⟨{C.pg (C.pn p)with tk:=(C.pg (C.pn p)).tk.set (C.ix p) false,held:=(C.pg (C.pn p)).held-1,bq:=(C.pg (C.pn p)).bq.set (C.ix p) ((C.gen p+1) % 4294967296)},some gb,some tb,x.ob⟩).flatMap eZ:=
  de (j:=5) dh x1 (by unfold eZ;rw[x2,BD,BC,show((C.pg (C.pn p)).held-1:Int)=(((C.pg (C.pn p)).held-1:Nat):Int) by omega];dsimp only;rw[acE,acE];rfl) (by decide)
 have q1:((y.pl.set (C.pn p) ⟨{C.pg (C.pn p)with tk:=(C.pg (C.pn p)).tk.set (C.ix p) false,held:=(C.pg (C.pn p)).held-1,bq:=(C.pg (C.pn p)).bq.set (C.ix p) ((C.gen p+1) % 4294967296)},some gb,some tb,x.ob⟩).flatMap eZ)[C.pn p*7+1]?=some (.bool (C.pg (C.pn p)).lv):=bE dh (j:=1) (acD ip) rfl;have q2:((y.pl.set (C.pn p) ⟨{C.pg (C.pn p)with tk:=(C.pg (C.pn p)).tk.set (C.ix p) false,held:=(C.pg (C.pn p)).held-1,bq:=(C.pg (C.pn p)).bq.set (C.ix p) ((C.gen p+1) % 4294967296)},some gb,some tb,x.ob⟩).flatMap eZ)[C.pn p*7+2]?=some (.int .i64 (C.cl p:Int)):=bE dh (j:=2) (acD ip) rfl;have q3:((y.pl.set (C.pn p) ⟨{C.pg (C.pn p)with tk:=(C.pg (C.pn p)).tk.set (C.ix p) false,held:=(C.pg (C.pn p)).held-1,bq:=(C.pg (C.pn p)).bq.set (C.ix p) ((C.gen p+1) % 4294967296)},some gb,some tb,x.ob⟩).flatMap eZ)[C.pn p*7+3]?=some (.slice (some ⟨gb,0,none⟩) (C.pg (C.pn p)).bq.length (C.pg (C.pn p)).bq.length):=by
  have:=bE dh (l:=y.pl.set (C.pn p) ⟨{C.pg (C.pn p)with tk:=(C.pg (C.pn p)).tk.set (C.ix p) false,held:=(C.pg (C.pn p)).held-1,bq:=(C.pg (C.pn p)).bq.set (C.ix p) ((C.gen p+1) % 4294967296)},some gb,some tb,x.ob⟩) (i:=C.pn p) (j:=3) (acD ip) rfl;dsimp only at this;rw[acE]at this;exact this
 generalize IX:y.pl.flatMap eZ=c1 at*;refine bK ?_;refine au ?_;rw[II];refine bw ?_;refine au ?_;rw[e5];generalize ow:(y.pl.set (C.pn p) ⟨{C.pg (C.pn p)with tk:=(C.pg (C.pn p)).tk.set (C.ix p) false,held:=(C.pg (C.pn p)).held-1,bq:=(C.pg (C.pn p)).bq.set (C.ix p) ((C.gen p+1) % 4294967296)},some gb,some tb,x.ob⟩).flatMap eZ=c2 at*;refine cI ?_;refine Li ((Im (z:=(((C.gen p+1) % 4294967296:Nat):Int)) (hz:=U5 _))) ?_;refine aZ ?_;refine au ?_;rw[Cz];refine gT false T.mix ?_;refine z6 ?_;obtain⟨fr,Es⟩:∃fr,fr=if(C.pg (C.pn p)).lv=true then(C.rw (C.cl p)).free else(C.rw (C.cl p)).free++ [p]:=⟨_,rfl⟩
 refine cg (ι:=Option Addr×Nat) [56,57,58,59,60,61,62,63,64,65] (λ(a,cc)=>True) (λ(a,cc)=> []) (λ(a,cc)=> [own a cc 3 1 (aV fr),ag y.rb 253 ((y.rl.set (C.cl p) ⟨{C.rw (C.cl p)with free:=fr},a,cc⟩).flatMap eW),aN ((y.pl.eraseIdx (C.pn p)).map ot),aN ((y.rl.eraseIdx (C.cl p)).map lC),Eg x.ob (oE (C.pg (C.pn p)).old),ag gb 163 (aJ ((C.pg (C.pn p)).bq.set (C.ix p) ((C.gen p+1) % 4294967296))),ag tb 4 (tZ ((C.pg (C.pn p)).tk.set (C.ix p) false)),ag y.pb 224 c2,ag b 136 (eh C y),p7 C y,ag y.a 192 (iq y.ab C.aq (C.n*C.aq)),ag y.ab 5 (dT C.A (C.n*C.aq))]) ?_ ?_
 ·refine av rfl ?_ ?_
  ·intro jO
   replace jO:=aD jO;have D5:(C.pg (C.pn p)).lv=false:=by simpa using jO
   rw[D5]at Es;simp only[Bool.false_eq_true,if_false]at Es;refine bH ?_;refine Lp (oT T.iA λb1=> ?_);refine Lp (bF T.iA T.uf rfl rfl rfl rfl .here (by rw[jk,ahx]) (rfl) (by simp[Value.oneCell']) (by omega) (by omega) rfl λa1 c1 h1=> ?_);have e7:aV (C.rw (C.cl p)).free++ [Value.int .i64 (p:Int)]=aV fr:=by rw[Es,jm _ [_]];rfl
   have e8:(y.rl.flatMap eW).set (C.cl p*4+0) (.slice a1 ((C.rw (C.cl p)).free.length+1) c1)=(y.rl.set (C.cl p) ⟨{C.rw (C.cl p)with free:=fr},a1,c1⟩).flatMap eW:=de (j:=0) dg z1 (by unfold eW;rw[z2,Es];simp) (by decide);refine aZ ?_;refine az ?_;rw[e7,e8];refine Me ((a1,c1)) (trivial)
  intro jO;replace jO:=aD jO;have D5:(C.pg (C.pn p)).lv=true:=by simpa using jO
  rw[D5]at Es;simp only[if_true]at Es;refine ay ?_;have e8:y.rl.flatMap eW=(y.rl.set (C.cl p) ⟨{C.rw (C.cl p)with free:=fr},z.a,z.c⟩).flatMap eW:=by
   rw[gW (x:=(⟨{C.rw (C.cl p)with free:=fr},z.a,z.c⟩:Ey)) (by rw[z1,Es,←z2])]
  rw[e8,←Es];refine Me ((z.a,z.c)) (trivial)
 rintro⟨a,cc⟩ hI
 try dsimp only at hI⊢
 have e9:((y.rl.set (C.cl p) ⟨{C.rw (C.cl p)with free:=fr},a,cc⟩).flatMap eW).set (C.cl p*4+1) (.int .i64 ((C.rw (C.cl p)).gQ-1:Int))=(y.rl.set (C.cl p) ⟨{C.rw (C.cl p)with free:=fr,gQ:=(C.rw (C.cl p)).gQ-1},a,cc⟩).flatMap eW:=
  F8 dg ir (by unfold eW;rw[show((C.rw (C.cl p)).gQ-1:Int)=(((C.rw (C.cl p)).gQ-1:Nat):Int) by omega];rfl) (by decide)
 have s1:((y.rl.set (C.cl p) ⟨{C.rw (C.cl p)with free:=fr},a,cc⟩).flatMap eW)[C.cl p*4+1]?=some (.int .i64 ((C.rw (C.cl p)).gQ:Int)):=bE dg (acD ir) rfl;have hr5:C.cl p*4+4≤((y.rl.set (C.cl p) ⟨{C.rw (C.cl p)with free:=fr},a,cc⟩).flatMap eW).length:=by rw[fw dg,acE];omega
 generalize hc3:(y.rl.set (C.cl p) ⟨{C.rw (C.cl p)with free:=fr},a,cc⟩).flatMap eW=c3 at*;refine fF ?_;rw[e9];rw[←ow];refine Hh (H':= [own a cc 3 1 (aV fr),ag gb 163 (aJ ((C.pg (C.pn p)).bq.set (C.ix p) ((C.gen p+1) % 4294967296))),ag tb 4 (tZ ((C.pg (C.pn p)).tk.set (C.ix p) false)),ag y.pb 224 ((y.pl.set (C.pn p) ⟨{C.pg (C.pn p)with tk:=(C.pg (C.pn p)).tk.set (C.ix p) false,held:=(C.pg (C.pn p)).held-1,bq:=(C.pg (C.pn p)).bq.set (C.ix p) ((C.gen p+1) % 4294967296)},some gb,some tb,x.ob⟩).flatMap eZ),ag y.rb 253 ((y.rl.set (C.cl p) ⟨{C.rw (C.cl p)with free:=fr,gQ:=(C.rw (C.cl p)).gQ-1},a,cc⟩).flatMap eW),ag b 136 (eh C y),p7 C y,ag y.a 192 (iq y.ab C.aq (C.n*C.aq)),ag y.ab 5 (dT C.A (C.n*C.aq)),Eg x.ob (oE (C.pg (C.pn p)).old),aN ((y.pl.eraseIdx (C.pn p)).map ot),aN ((y.rl.eraseIdx (C.cl p)).map lC)]) ?_;refine aC (H':= [Cl b (C.bz p)]) (λ_ s=>xX (D:=C.bz p) (r:={C.rw (C.cl p)with free:=fr,gQ:=(C.rw (C.cl p)).gQ-1}) (p:={C.pg (C.pn p)with tk:=(C.pg (C.pn p)).tk.set (C.ix p) false,held:=(C.pg (C.pn p)).held-1,bq:=(C.pg (C.pn p)).bq.set (C.ix p) ((C.gen p+1) % 4294967296)}) hy x1 x2 BD BC z1 rfl (by unfold bz put;rw[Es]) rfl rfl rfl rfl rfl rfl rfl rfl rfl rfl s) ?_;refine Rt [Cl b (C.bz p)] results107 ?_;exact⟨rfl,rfl⟩
end Go.Proofs.YtdolmecackmjdaaGreatDoor
