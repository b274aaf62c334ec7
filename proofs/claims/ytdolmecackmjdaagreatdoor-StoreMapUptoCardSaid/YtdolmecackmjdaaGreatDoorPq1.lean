/- Part Pq1 of the proof. -/
import Derived.Test.YtdolmecackmjdaaGreatDoorPc
import Derived.Test.YtdolmecackmjdaaGreatDoorPd
import Derived.Test.YtdolmecackmjdaaGreatDoorPl
import Derived.Test.YtdolmecackmjdaaGreatDoorPo
import Derived.Test.YtdolmecackmjdaaGreatDoorPo1
import Derived.Test.YtdolmecackmjdaaGreatDoorPq
set_option maxRecDepth 100000
open List renaming flatMap_cons → adb, getElem?_cons_zero → agL, getElem?_cons_succ → adI, length_append → acI, getElem?_eq_getElem → acx, getElem_of_mem → acR, getElem?_eq_some_iff → acz, flatMap_append → agD, take_add_one → adE, append_nil → agu, take_length → agQ, getElem_mem → acJ, mem_append → adw, getD_eq_getElem?_getD → acy, mem_of_getElem? → acB, getElem?_set → ac4, pairwise_iff_getElem → ahC, mem_singleton → acX, length_set → acE, set_set → adn, map_append → adq, length → ahr, ext_getElem? → ahE, getElem?_eq_none → acK, length_reverse → ahb, reverse_append → ahX, getElem?_map → acL
open Nat renaming zero_mul → aiq, zero_le → acS, not_lt_zero → agH, le_trans → agC, le_succ_of_le → ahm, le_refl → acG, add_comm → aix
open Bool renaming false_or → aie
open Decidable renaming byContradiction → acH
open Go.Proofs.Tryz renaming prog → acw
open Go.Proofs.Tryz
namespace Go.Proofs.YtdolmecackmjdaaGreatDoor
open Go Go.dL Go.Proofs.YtdolmecackmjdaaGreatDoor.Cs
structure Th where
 key:List UInt8
 val:List UInt8
 va:Option Addr
 vc:Nat
 fl:Nat
 exp:Nat
 tok:Nat
 room:Nat
 rd:Nat
 eO:Bool
def vK (t:Th):List Value:= [aB t.key, .slice t.va t.val.length t.vc, .int .u64 (t.fl:Int), .int .i64 (t.exp:Int), .int .u64 (t.tok:Int), .int .i64 (t.room:Int), .int .i64 (t.rd:Int), .bool t.eO]
def aW (l:List Th):List Value:=l.flatMap vK
def Th.x (t:Th):I3:=⟨t.key,t.val,t.fl,t.exp,t.rd,t.tok,if t.eO=true then 8 else 0⟩
structure gC where
 l:List Th
 now:Nat
 aM:Nat
 cut:Nat
 dH:Nat
 lost:Nat
def bA (B:gC)(la:Option Addr)(lc:Nat):List Value:= [.slice la B.l.length lc, .int .i64 (B.now:Int), .int .u64 (B.aM:Int), .int .u64 (B.cut:Int), .int .i64 (B.dH:Int), .int .i64 (B.lost:Int)]
def gC.dead (B:gC)(t:Th):Prop:=(0<t.exp∧t.exp≤B.now)∨t.tok≤B.cut
def oI:Option Nat→Int
 |some i=>(i:Int)
 |none=>-1
theorem wF (l:List Th)(i:Nat)(x:Th)(h:l[i]?=some x):((aW l).drop (i*8)).take 8=vK x:=by
 unfold aW
 induction l generalizing i with
 |nil=>simp at h
 |cons q r ih=>
  have hq:(vK q).length=8:=rfl;rw[adb];cases i with
  |zero=>
   simp only[agL,Option.some.injEq]at h;subst h;rw[aiq,List.drop_zero,List.take_append_of_le_length (by omega),List.take_of_length_le (by omega)]
  |succ i=>
   rw[adI]at h;rw[List.drop_append,List.drop_of_length_le (by omega),List.nil_append,hq,show(i+1)*8-8=i*8 from by omega];exact ih i h
theorem j7 (l:List Th)(i:Nat)(x:Th)(h:l[i]?=some x)(j:Nat)(hj:j<8):(aW l)[i*8+j]?=(vK x)[j]?:=by
 have e:=congrArg (·[j]?) (wF l i x h);simp only[List.getElem?_take,if_pos hj,List.getElem?_drop]at e;exact e
theorem gw (l:List Th):(aW l).length=l.length*8:=by
 unfold aW
 induction l with
 |nil=>rfl
 |cons q r ih=>rw[adb,acI,ih,List.length_cons,show(vK q).length=8 from rfl];omega
def AtR (l:List Th)(k:List UInt8):Option Nat→Prop
 |some i=>∃t,l[i]?=some t∧t.key=k
 |none=>∀t∈l,t.key≠k
theorem acm (b:Nat)(B:gC)(la:Option Addr)(lc:Nat)(hl:B.l.length≤1000)(k:List UInt8):aH acw 56 [.pointer (some ⟨b,0,none⟩),aB k] (λh=>In (ag b 61 (bA B la lc)) h∧dU h la (aW B.l)) []
  (λv H=>∃o,v= .int .i64 (oI o)∧AtR B.l k o∧H= []):=by
 unfold bA;refine ae func56 rfl ntmps56 rfl ?_;rintro F ⟨hb,hr⟩;refine cI ?_;refine Lo (ι:=Nat) [6,7,8,9,10,11,12,15,16,17,18,19,20,21,22,23,24,25,4,13,14,5] (λi=>i≤B.l.length∧∀j t,j<i→B.l[j]?=some t→t.key≠k) (λi=> [(5, .int .i64 (i:Int))]) (λi=> []) (λi=>B.l.length-i) (0) ⟨acS _,λj t h=>absurd h (agH _)⟩ ?_;rintro i hI;obtain⟨hi,hn⟩:=hI;refine bw ?_;by_cases bX:i<B.l.length
 ·refine dz ?_
  obtain⟨t,e1⟩:∃t,B.l[i]?=some t:=⟨_,acx bX⟩;have p0:(aW B.l)[i*8+0]?=some (aB t.key):=j7 _ i t e1 0 (by omega);have sU:=gw B.l;have sa:la.isSome=true:=hr.some (by omega);refine bw ?_;refine Li (Ix T.fI) ?_;refine Li (qD T.mK) ?_;refine a8 ?_;refine Li Sq ?_;refine ay ?_;by_cases hk:t.key=k
  ·refine dz ?_ (e:=by exact(by simp[hk]))
   refine bw ?_;refine Rt [] results56 ?_;exact⟨some i,rfl,⟨t,e1,hk⟩,rfl⟩
  refine cu ?_ (e:=by exact(by simp[hk]));refine bH ?_;refine az ?_;have Xq:∀j t,j<i+1→B.l[j]?=some t→t.key≠k:=λj u hj hu=>by
   by_cases h:j=i
   ·subst h
    rw[e1]at hu;cases hu;exact hk
   exact hn j u (by omega) hu
  refine Ro (i+1) (⟨bX,Xq⟩) ((by omega))
 refine cu ?_;refine cN ?_;refine Rt [] results56 ?_;exact⟨none,rfl,λt ht=>(by obtain⟨j,hj,rfl⟩:=acR ht;exact hn j _ (by omega) (acx hj)),rfl⟩
def Je (B:gC)(k:List UInt8):Option Nat→Prop
 |some i=>∃t,B.l[i]?=some t∧t.key=k∧¬B.dead t
 |none=>∀t∈B.l,t.key=k→B.dead t
def Unk (l:List Th):Prop:=∀(i j:Nat) (t u:Th),l[i]?=some t→l[j]?=some u→t.key=u.key→i=j
theorem zp{B:gC}(hu:Unk B.l){i:Nat}{t:Th}{k:List UInt8}(e1:B.l[i]?=some t)(hk:t.key=k)(hd:B.dead t):Je B k none:=λu hm e=>by
 obtain⟨j,hj,rfl⟩:=acR hm;have:=hu i j t _ e1 (acx hj) (hk.trans e.symm);subst this;rw[acx hj]at e1;cases e1;exact hd
theorem pf (b:Nat)(B:gC)(la:Option Addr)(lc:Nat)(hl:B.l.length≤1000)(hu:Unk B.l)(k:List UInt8):aH acw 25 [.pointer (some ⟨b,0,none⟩),aB k] (λh=>In (ag b 61 (bA B la lc)) h∧dU h la (aW B.l)) []
  (λv H=>∃o,v= .int .i64 (oI o)∧Je B k o∧H= []):=by
 have ha:=acm b B la lc hl k;unfold bA at*;refine ae func25 rfl ntmps25 rfl ?_;rintro F ⟨hb,hr⟩;refine bB ?_;refine Lp (oC T.afI rfl rfl (ha) .nil (λ_ le _=>⟨In.mono hb le,hr.mono le⟩) ?_);rintro v H' ⟨o,rfl,ho,rfl⟩;refine bd ?_;rcases o with _|i
 ·dsimp only[oI]
  refine aZ ?_;refine au ?_;refine gT true T.mix ?_;refine aZ ?_;refine zf 11 ?_ (e:=by rfl);refine bT ?_;refine bT ?_;refine cN ?_;refine Rt [] results25 ?_;exact⟨none,rfl,λt ht e=>absurd e (ho t ht),rfl⟩
 dsimp only[oI];obtain⟨t,e1,hk⟩:=ho;have bX:i<B.l.length:=(acz.1 e1).1;have p3:(aW B.l)[i*8+3]?=some (.int .i64 (t.exp:Int)):=j7 _ i t e1 3 (by omega);have p4:(aW B.l)[i*8+4]?=some (.int .u64 (t.tok:Int)):=j7 _ i t e1 4 (by omega);have sU:=gw B.l;have sa:la.isSome=true:=hr.some (by omega);refine aZ ?_;refine au ?_;refine cg (ι:=Bool) [9,10,11,12,13,14,15,16,17,18,19,20,21,22,23,24,25,26,27,28,29,30,31,32,33,34,35,36,37,38,39,40,41,42,43,44,45,46,47,48,49,50,51] (λq=>q=true↔B.dead t) (λq=> [(51, .bool q)]) (λq=> []) ?_ ?_
 ·refine gT true T.mix ?_
  refine aZ ?_;refine zt 11 ?_;refine bc ?_;refine Ti (Ix T.fI) ?_;refine Ti (qD T.mJ) ?_;refine aZ ?_;by_cases h1:0<t.exp
  ·refine zt 21 ?_
   refine bc ?_;refine Ti (Ix T.fI) ?_;refine Ti (qD T.mJ) ?_;refine cI ?_;by_cases h2:t.exp≤B.now
   ·refine zt 36 ?_
    refine nj ?_;refine Tn ?_;refine Me (true) ((by simp[gC.dead,h1,h2]))
   refine zf 36 ?_;refine bc ?_;refine Ti (Ix T.fI) ?_;refine Ti (qD T.so) ?_;refine cI ?_;refine Tn ?_;refine Me (decide (t.tok≤B.cut)) ((by simp[gC.dead,h2]))
  refine zf 21 ?_;refine bT ?_;refine Ti (Ix T.fI) ?_;refine Ti (qD T.so) ?_;refine cI ?_;refine Tn ?_;refine Me (decide (t.tok≤B.cut)) ((by simp[gC.dead,h1]))
 rintro q hq;rcases q with _|_
 ·refine cu ?_ (e:=by rfl)
  refine bH ?_;refine Rt [] results25 ?_;exact⟨some i,rfl,⟨t,e1,hk,λh=>by have:=hq.2 h;cases this⟩,rfl⟩
 refine dz ?_ (e:=by rfl);refine bc ?_;refine Rt [] results25 ?_;exact⟨none,rfl,zp hu e1 hk (hq.1 rfl),rfl⟩
theorem wV (b:Nat)(B:gC)(la:Option Addr)(lc:Nat)(h1:1≤B.now)(h2:B.now≤1099511627776)(t:Int):aH acw 52 [.pointer (some ⟨b,0,none⟩), .int .i64 t] (In (ag b 61 (bA B la lc))) []
  (λv H=>v= .int .i64 (cF B.now t:Int)∧H= []):=by
 have he:=xx B.now t;rw[←he];unfold EH bA;refine ae func52 rfl ntmps52 rfl ?_;intro F hb;by_cases c1:t<0
 ·rw[if_neg (by omega),if_pos c1]
  refine bw ?_;refine dz ?_ (e:=by exact decide_eq_true c1);refine bw ?_;refine Rt [] results52 ?_;exact⟨rfl,rfl⟩
 by_cases c2:0<t
 ·rw[if_neg (by omega),if_neg c1]
  by_cases c3:t≤2592000
  ·rw[if_pos c3]
   refine bw ?_;refine cu ?_ (e:=by exact decide_eq_false c1);refine aR ?_;refine zt 15 ?_ (e:=by exact decide_eq_true c2);refine bc ?_;refine dz ?_ (e:=by exact decide_eq_true c3);refine dQ ?_;refine Rt [] results52 ?_;exact⟨rfl,rfl⟩
  rw[if_neg c3];refine bw ?_;refine cu ?_ (e:=by exact decide_eq_false c1);refine aR ?_;refine zt 15 ?_ (e:=by exact decide_eq_true c2);refine bc ?_;refine cu ?_ (e:=by exact decide_eq_false c3);refine cI ?_;refine Rt [] results52 ?_;exact⟨rfl,rfl⟩
 have:t=0:=by omega
 subst this;rw[if_pos rfl];refine nj ?_;refine zf 15 ?_ (e:=by rfl);refine fF ?_;refine Rt [] results52 ?_;exact⟨rfl,rfl⟩
def gC.tick (B:gC)(n:Nat):gC:=if 0<B.dH∧B.dH≤B.now+n then{B with now:=B.now+n,cut:=B.aM,dH:=0}else{B with now:=B.now+n}
theorem Tk (b:Nat)(B:gC)(la:Option Addr)(lc:Nat)(n:Nat)(h:B.now+n≤1099511627776):aH acw 17 [.pointer (some ⟨b,0,none⟩), .int .i64 (n:Int)] (λ_=>True) [ag b 61 (bA B la lc)]
  (λ_ H=>H= [ag b 61 (bA (B.tick n) la lc)]):=by
 unfold bA gC.tick;refine ae func17 rfl ntmps17 rfl ?_;intro F _;refine cI ?_;refine ao (t:=10) (v':=(.int .i64 ((B.now+n:Nat):Int))) rfl (by exact congrArg (Value.int .i64) (by first|rfl|(push_cast;rfl)|omega)) ?_;by_cases h1:0<B.dH
 ·refine Li Nc ?_
  refine aZ ?_;refine au ?_;refine gK 16 T.mix (.cons .here .nil) λF1 iT cj aI=> ?_;obtain⟨q1,_⟩:=cj;refine aZ ?_
  first
   |refine Ti (Lf T.bR) ?_
   |refine Ti (fB T.bR q1) ?_
  refine a8 ?_;refine zt 18 ?_;refine aZ ?_
  first
   |refine Ti (Lf T.bR) ?_
   |refine Ti (fB T.bR q1) ?_
  refine aZ ?_
  first
   |refine Ti (Lf T.bR) ?_
   |refine Ti (fB T.bR q1) ?_
  refine a8 ?_;refine gd aI ?_;refine ay ?_;by_cases h2:B.dH≤B.now+n
  ·rw[if_pos ⟨h1,h2⟩]
   refine dz ?_;refine nj ?_;refine az ?_;refine jM [ag b 61 (bA {B with now:=B.now+n,cut:=B.aM,dH:=0} la lc)] results17 ?_;exact rfl
  rw[if_neg (by omega)];refine cu ?_;refine ay ?_;refine jM [ag b 61 (bA {B with now:=B.now+n} la lc)] results17 ?_;exact rfl
 rw[if_neg (by omega)];refine aR ?_;refine au ?_;refine gK 16 T.mix (.cons .here .nil) λF2 yi ez dX=> ?_;obtain⟨q1,_⟩:=ez;refine aZ ?_
 first
  |refine Ti (Lf T.bR) ?_
  |refine Ti (fB T.bR q1) ?_
 refine a8 ?_;refine zf 18 ?_;refine bw ?_;refine gd dX ?_;refine aZ ?_;refine jM [ag b 61 (bA {B with now:=B.now+n} la lc)] results17 ?_;exact rfl
theorem ik (t:List UInt8):aH acw 19 [aB t] (λ_=>True) [] (λv H=>v=lV 11 aG 0 t∧H= []):=by
 refine ae func19 rfl ntmps19 rfl ?_;intro F _;refine ay ?_;refine Lp (oA T.iu λb1=> ?_);refine bH ?_;refine ko [] T.aS results19 ?_;exact⟨rfl,rfl⟩
theorem zS (t:Th):aH acw 27 [.agg (vK t).toArray] (λ_=>True) [] (λv H=>v= .agg (jQ t.x (.slice t.va t.val.length t.vc)).toArray∧H= []):=by
 obtain⟨key,val,va,vc,fl,exp,tok,room,rd,eO⟩:=t;unfold vK Th.x jQ;cases eO
 ·
  refine ae func27 rfl ntmps27 rfl ?_;intro F _;refine ay ?_;refine Lp (oB λb1=> ?_);refine Lp (oA T.uc λb2=> ?_);refine bT ?_;refine ko [] T.mD results27 ?_;exact⟨by simp[bU,Value.cells,aB],rfl⟩
 ·
  refine ae func27 rfl ntmps27 rfl ?_;intro F _;refine ay ?_;refine Lp (oB λb1=> ?_);refine Lp (oA T.uc λb2=> ?_);refine bT ?_;refine ko [] T.mD results27 ?_;exact⟨by simp[bU,Value.cells,aB],rfl⟩
theorem tO (a d:Option Addr)(x y:List UInt8)(c1 c2:Nat)(hx:x.length≤16777216)(hy:y.length≤16777216):aH acw 93 [.slice a x.length c1, .slice d y.length c2] (λh=>dU h a (ai x)∧dU h d (ai y)) []
  (λv H=>∃a' c',(x++y).length≤c'∧v= .slice a' (x++y).length c'∧H= [own a' c' 5 1 (ai (x++y))]):=by
 refine ae func93 rfl ntmps93 rfl ?_;rintro F ⟨hA,hD⟩;refine cN ?_;refine aT 5 1 ?_;refine Lp (eo T.gj T.mB rfl rfl rfl rfl .here (rfl) (dJ (m:=x.length) (by simp) λh le _=>hA.mono le) (by first|exact cY|(simp[Value.oneCell',aB])) (by first|omega|(simp;omega)) (by first|omega|(simp;omega)) rfl λa4 c4 Ul=> ?_);refine bc ?_;refine Lp (eo T.gj T.mB rfl rfl rfl rfl .here (by simp) (dJ (m:=y.length) (by simp) λh le _=>hD.mono le) (by first|exact cY|(simp[Value.oneCell',aB])) (by first|omega|(simp;omega)) (by first|omega|(simp;omega)) rfl λa5 c5 Xv=> ?_);refine aZ ?_;refine Rt [own a5 c5 5 1 (ai (x++y))] results93 ?_;exact⟨a5,c5,by simpa using Xv,by simp,by simp⟩
def ny (sl:List Nat)(n:Nat):Nat:=(sl.find? λz=>decide (n≤z)).getD 0
theorem zP{sl:List Nat}{n i:Nat}{z:Nat}(hi:∀(j w:Nat),j<i→sl[j]?=some w→w<n)(h:sl[i]?=some z)(hz:n≤z):ny sl n=z:=by
 unfold ny;have:sl.find? (λz=>decide (n≤z))=some z:=by
  rw[List.find?_eq_some_iff_getElem];obtain⟨hl,e⟩:=acz.1 h;exact⟨decide_eq_true hz,i,hl,e,λj hj=>by
   have:=hi j (sl[j]'(by omega)) hj (acx (by omega));simp;omega⟩
 rw[this];rfl
theorem L9{sl:List Nat}{n:Nat}(hi:∀(j w:Nat),sl[j]?=some w→w<n):ny sl n=0:=by
 unfold ny;have:sl.find? (λz=>decide (n≤z))=none:=by
  rw[List.find?_eq_none];intro z hz;obtain⟨j,hj,rfl⟩:=acR hz;have:=hi j _ (acx hj);simp;omega
 rw[this];rfl
theorem Mb (a:Option Addr)(c:Nat)(sl:List Nat)(hl:sl.length≤1000)(n:Nat):aH acw 147 [.slice a sl.length c, .int .i64 (n:Int)] (λh=>dU h a (aV sl)) []
  (λv H=>v= .int .i64 (ny sl n:Int)∧H= []):=by
 refine ae func147 rfl ntmps147 rfl ?_;intro F hr;refine cI ?_;refine Lo (ι:=Nat) [6,7,8,9,12,13,14,15,16,17,18,19,20,21,4,10,11,5] (λi=>i≤sl.length∧∀(j w:Nat),j<i→sl[j]?=some w→w<n) (λi=> [(5, .int .i64 (i:Int))]) (λi=> []) (λi=>sl.length-i) (0) ⟨acS _,λj t h=>absurd h (agH _)⟩ ?_;rintro i hI;obtain⟨hi,hn⟩:=hI;refine bH ?_;by_cases bX:i<sl.length
 ·refine dz ?_
  obtain⟨z,e1⟩:∃t,sl[i]?=some t:=⟨_,acx bX⟩;have p0:=jG e1;have sU:=jk sl;have sa:a.isSome=true:=hr.some (by omega);refine cI ?_;refine Li (Ix T.qk) ?_;refine aZ ?_;by_cases hk:n≤z
  ·refine dz ?_
   refine aZ ?_;refine Li (Ix T.qk) ?_;refine cN ?_;refine Rt [] results147 ?_;exact⟨by rw[zP hn e1 hk],rfl⟩
  refine cu ?_;refine bH ?_;refine az ?_;have Xq:∀(j w:Nat),j<i+1→sl[j]?=some w→w<n:=λj u hj hu=>by
   by_cases h:j=i
   ·subst h
    rw[e1]at hu;cases hu;omega
   exact hn j u (by omega) hu
  refine Ro (i+1) (⟨bX,Xq⟩) ((by omega))
 refine cu ?_;refine cN ?_;refine Rt [] results147 ?_;exact⟨by rw[L9 λj w h=>hn j w (by have:=(acz.1 h).1;omega) h];rfl,rfl⟩
theorem Hr (l m:List Th):aW (l++m)=aW l++aW m:=by
 unfold aW;exact agD
theorem CB (t:Th):aW [t]=vK t:=by simp[aW]
def fL (l:List Th)(k:List UInt8):List Th:=l.filter λt=>decide (t.key≠k)
theorem mW (l:List Th)(k:List UInt8):(fL l k).length≤l.length:=List.length_filter_le ..
theorem Gx{l:List Th}{k:List UInt8}{i:Nat}{t:Th}(h:l[i]?=some t):fL (l.take (i+1)) k=fL (l.take i) k++(if t.key≠k then [t]else []):=by
 unfold fL;rw[adE,h,Option.toList_some,List.filter_append];by_cases g:t.key=k
 ·simp[g]
 simp[g]
def gC.drop (B:gC)(k:List UInt8):gC:={B with l:=fL B.l k}
theorem NY (t:Th):∀v∈vK t,v.oneCell'=true:=by
 intro v hv;simp only[vK,List.mem_cons,List.mem_nil_iff,or_false]at hv;rcases hv with rfl|rfl|rfl|rfl|rfl|rfl|rfl|rfl<;>rfl
theorem xE (b:Nat)(B:gC)(la:Option Addr)(lc:Nat)(hl:B.l.length≤1000)(k:List UInt8):aH acw 51 [.pointer (some ⟨b,0,none⟩),aB k] (λ_=>True) [ag b 61 (bA B la lc),own la lc 73 8 (aW B.l)]
  (λ_ H=>∃qy qx,H= [ag b 61 (bA (B.drop k) qy qx),own qy qx 73 8 (aW (B.drop k).l)]):=by
 unfold bA gC.drop;refine ae func51 rfl ntmps51 rfl ?_;intro F _;refine cI ?_;refine aT 73 8 ?_;refine Lo (ι:=Nat×List Th×Option Addr×Nat) [6,7,8,9,10,11,12,15,16,17,18,19,20,21,22,23,24,25,26,27,28,29,30,31,32,33,34,4,13,14,5] (λs=>s.1≤B.l.length∧s.2.1=fL (B.l.take s.1) k) (λs=> [(5, .int .i64 (s.1:Int)),(4, .slice s.2.2.1 s.2.1.length s.2.2.2)]) (λs=> [ag b 61 [.slice la B.l.length lc, .int .i64 (B.now:Int), .int .u64 (B.aM:Int), .int .u64 (B.cut:Int), .int .i64 (B.dH:Int), .int .i64 (B.lost:Int)],own la lc 73 8 (aW B.l),own s.2.2.1 s.2.2.2 73 8 (aW s.2.1)]) (λs=>B.l.length-s.1) ((0,[],none,0)) ⟨acS _,rfl⟩ ?_;rintro⟨i,m,a2,c2⟩ hI;dsimp only at hI⊢;obtain⟨hi,hm⟩:=hI;have hml:m.length≤i:=by
  rw[hm];exact agC (mW _ _) (by rw[List.length_take];omega)
 refine bw ?_;by_cases bX:i<B.l.length
 ·refine dz ?_
  obtain⟨t,e1⟩:∃t,B.l[i]?=some t:=⟨_,acx bX⟩;have hs:=Gx (k:=k) e1;rw[←hm]at hs;have p0:(aW B.l)[i*8+0]?=some (aB t.key):=j7 _ i t e1 0 (by omega);have p8:((aW B.l).drop (i*8)).take 8=vK t:=wF _ i t e1;have sU:=gw B.l;have TP:=gw m;refine fV (dZ (.there .here) (λ_ o=>fy o (by omega))) λsa=> ?_;refine bw ?_;refine Li (Ix T.fI) ?_;refine Li (qD T.mK) ?_;refine a8 ?_;refine Li Sq ?_;refine ay ?_;by_cases hk:t.key=k
  ·rw[if_neg (not_not_intro hk),agu]at hs
   refine cu ?_ (e:=by exact(by simp[hk]));refine bH ?_;refine az ?_;refine Ro ((i+1,m,a2,c2)) (⟨bX,hs.symm⟩) ((by dsimp only;omega))
  rw[if_pos hk]at hs;refine dz ?_ (e:=by exact(by simp[hk]));refine bH ?_;refine Li (Ix T.fI) ?_;refine ay ?_;refine Lp (oT1 T.Hg λb1=> ?_);refine Lp (bF T.Hg T.XR rfl rfl rfl rfl (.there (.there .here)) (gw m) (rfl) (NY t) (by first|omega|(simp;omega)) (by first|omega|(simp;omega)) rfl λa4 c4 Ul=> ?_);rw[←CB t,←Hr,show m.length+1=(m++ [t]).length by simp];refine cI ?_;refine az ?_;refine Ro ((i+1,m++ [t],a4,c4)) (⟨bX,hs.symm⟩) ((by dsimp only;omega))
 have uR:i=B.l.length:=by omega
 subst uR;rw[agQ]at hm;refine cu ?_;refine bK ?_;refine az ?_;refine jM [ag b 61 [.slice a2 m.length c2, .int .i64 (B.now:Int), .int .u64 (B.aM:Int), .int .u64 (B.cut:Int), .int .i64 (B.dH:Int), .int .i64 (B.lost:Int)],own a2 c2 73 8 (aW m)] results51 ?_;exact⟨a2,c2,by rw[hm]⟩
theorem QU (v:Int):aH acw 47 [.int .i64 v] (λ_=>True) [] (λw H=>w= .int .i64 (aY v)∧H= []):=by
 refine ae func47 rfl ntmps47 rfl ?_;intro F _;refine cI ?_;refine aE (t:=5) rfl ?_ ?_
 ·intro cn
  replace cn:=aD cn;refine aR ?_;refine av rfl ?_ ?_
  ·intro cm
   replace cm:=aD cm;refine bc ?_;refine Rt [] results47 ?_;refine⟨?_,rfl⟩;unfold aY
   repeat' split
   all_goals first|rfl|(exfalso;omega)
  intro cm;replace cm:=aD cm;refine bH ?_;refine aE (t:=11) rfl ?_ ?_
  ·intro bS
   replace bS:=aD bS;refine aR ?_;refine av rfl ?_ ?_
   ·intro bP
    replace bP:=aD bP;refine bc ?_;refine Rt [] results47 ?_;refine⟨?_,rfl⟩;unfold aY
    repeat' split
    all_goals first|rfl|(exfalso;omega)
   intro bP;replace bP:=aD bP;refine bH ?_;refine aE (t:=17) rfl ?_ ?_
   ·intro cG
    replace cG:=aD cG;refine aR ?_;refine av rfl ?_ ?_
    ·intro gg
     replace gg:=aD gg;refine bc ?_;refine Rt [] results47 ?_;refine⟨?_,rfl⟩;unfold aY
     repeat' split
     all_goals first|rfl|(exfalso;omega)
    intro gg;replace gg:=aD gg;refine bB ?_;refine Rt [] results47 ?_;refine⟨?_,rfl⟩;unfold aY
    repeat' split
    all_goals first|rfl|(exfalso;omega)
   intro cG;replace cG:=aD cG;refine bK ?_;refine Rt [] results47 ?_;refine⟨?_,rfl⟩;unfold aY
   repeat' split
   all_goals first|rfl|(exfalso;omega)
  intro bS;replace bS:=aD bS;refine dQ ?_;refine aE (t:=17) rfl ?_ ?_
  ·intro bP
   replace bP:=aD bP;refine aR ?_;refine av rfl ?_ ?_
   ·intro cG
    replace cG:=aD cG;refine bc ?_;refine Rt [] results47 ?_;refine⟨?_,rfl⟩;unfold aY
    repeat' split
    all_goals first|rfl|(exfalso;omega)
   intro cG;replace cG:=aD cG;refine bB ?_;refine Rt [] results47 ?_;refine⟨?_,rfl⟩;unfold aY
   repeat' split
   all_goals first|rfl|(exfalso;omega)
  intro bP;replace bP:=aD bP;refine bK ?_;refine Rt [] results47 ?_;refine⟨?_,rfl⟩;unfold aY
  repeat' split
  all_goals first|rfl|(exfalso;omega)
 intro cn;replace cn:=aD cn;refine dQ ?_;refine aE (t:=11) rfl ?_ ?_
 ·intro cm
  replace cm:=aD cm;refine aR ?_;refine av rfl ?_ ?_
  ·intro bS
   replace bS:=aD bS;refine bc ?_;refine Rt [] results47 ?_;refine⟨?_,rfl⟩;unfold aY
   repeat' split
   all_goals first|rfl|(exfalso;omega)
  intro bS;replace bS:=aD bS;refine bH ?_;refine aE (t:=17) rfl ?_ ?_
  ·intro bP
   replace bP:=aD bP;refine aR ?_;refine av rfl ?_ ?_
   ·intro cG
    replace cG:=aD cG;refine bc ?_;refine Rt [] results47 ?_;refine⟨?_,rfl⟩;unfold aY
    repeat' split
    all_goals first|rfl|(exfalso;omega)
   intro cG;replace cG:=aD cG;refine bB ?_;refine Rt [] results47 ?_;refine⟨?_,rfl⟩;unfold aY
   repeat' split
   all_goals first|rfl|(exfalso;omega)
  intro bP;replace bP:=aD bP;refine bK ?_;refine Rt [] results47 ?_;refine⟨?_,rfl⟩;unfold aY
  repeat' split
  all_goals first|rfl|(exfalso;omega)
 intro cm;replace cm:=aD cm;refine dQ ?_;refine aE (t:=17) rfl ?_ ?_
 ·intro bS
  replace bS:=aD bS;refine aR ?_;refine av rfl ?_ ?_
  ·intro bP
   replace bP:=aD bP;refine bc ?_;refine Rt [] results47 ?_;refine⟨?_,rfl⟩;unfold aY
   repeat' split
   all_goals first|rfl|(exfalso;omega)
  intro bP;replace bP:=aD bP;refine bB ?_;refine Rt [] results47 ?_;refine⟨?_,rfl⟩;unfold aY
  repeat' split
  all_goals first|rfl|(exfalso;omega)
 intro bS;replace bS:=aD bS;refine bK ?_;refine Rt [] results47 ?_;refine⟨?_,rfl⟩;unfold aY
 repeat' split
 all_goals first|rfl|(exfalso;omega)
theorem JP (l:List UInt8)(hl:l.length<281474976710656):
  aH acw 48 [aB l] (λ_=>True) [] (λv H=>v= .bool (cO l)∧H= []):=by
 refine ae func48 rfl ntmps48 rfl ?_;intro F r;refine bB ?_;refine Li (Ls T.kk) ?_;refine a8 ?_;refine aE (t:=7) rfl ?_ ?_
 ·intro h1
  replace h1:=aD h1;refine bK ?_;refine Rt [] results48 ?_;refine⟨?_,rfl⟩;unfold cO;rw[decide_eq_false (by omega)];rfl
 intro h1;replace h1:=aD h1;refine ay ?_;refine Li (Ls T.kk) ?_;refine aZ ?_;refine av rfl ?_ ?_
 ·intro h2
  replace h2:=aD h2;refine bc ?_;refine Rt [] results48 ?_;refine⟨?_,rfl⟩;unfold cO;rw[decide_eq_false (by omega)];rfl
 intro h2;replace h2:=aD h2;refine bH ?_;refine Lo (ι:=Nat) [12,13,14,15,18,19,20,21,22,23,24,25,26,27,2,16,17,3] (λk=>k≤l.length∧∀i (h:i<l.length),i<k→okB l[i]=true) (λk=> [(3, .int .i64 (k:Int))]) (λk=> []) (λk=>l.length-k) (0) ⟨acS _,λi _ h=>absurd h (agH _)⟩ ?_;rintro k hI;refine aR ?_;refine Li (Ls T.kk) ?_;refine a8 ?_;refine av rfl ?_ ?_
 ·intro hk
  replace hk:=aD hk;have bX:k<l.length:=by omega
  have hb:l[k]?=some l[k]:=acx bX;have hc:=l[k].toNat_lt;refine bH ?_;refine Li (Is T.kk) ?_;refine a8 ?_;refine aE (t:=22) rfl ?_ ?_
  ·intro h3
   replace h3:=aD h3;refine qa ?_;refine Rt [] results48 ?_;exact⟨by rw[si bX (decide_eq_false (by omega))],rfl⟩
  intro h3;replace h3:=aD h3;refine a8 ?_;refine Li (Is T.kk) ?_;refine aZ ?_;refine av rfl ?_ ?_
  ·intro h4
   replace h4:=aD h4;refine cN ?_;refine Rt [] results48 ?_;exact⟨by rw[si bX (decide_eq_false (by omega))],rfl⟩
  intro h4;replace h4:=aD h4;refine bH ?_;refine az ?_;refine Ro (k+1) (⟨by omega,CV hI.2 bX (decide_eq_true (by omega))⟩) ((by omega))
 intro hk;replace hk:=aD hk;refine cN ?_;refine Rt [] results48 ?_;refine⟨?_,rfl⟩;unfold cO;rw[decide_eq_true (by omega),Bool.true_and];rw[eq_comm,Value.bool.injEq,List.all_eq_true];intro x hx;obtain⟨i,hi,rfl⟩:=acR hx;exact hI.2 i hi (by omega)
theorem HG (c:dI)(ka:Option Addr)(kc:Nat)(da:Option Addr)(dc:Nat)(mv:Value)(iG:mv.oneCell'=true)(Mz:c.keys.length<281474976710656)(hk:∀k∈c.keys,k.length<281474976710656):
  aH acw 20 [.agg (cy c ka kc da dc mv).toArray] (λh=>dU h ka (eR c.keys)) [] (λw H=>w= .bool (oH c)∧H= []):=by
 have hb:oH c=(decide (aY c.verb<0∨0<aY c.verb∧c.keys.length=0∨aY c.verb=1∧1<c.keys.length) ||(decide (0<aY c.verb)&&c.keys.any λk=> !cO k) ||decide (5≤c.verb∧c.verb≤10∧4294967295<c.fl)):=rfl;refine ae func20 rfl ntmps20 rfl ?_;intro F hr;refine ay ?_;refine Lp (oB λb1=> ?_);refine bc ?_;refine zl T.afP (QU c.verb) .nil (λ_ _ _=>trivial) ?_;generalize hn:aY c.verb=n at*;have hn4:n= -1∨n=0∨n=1∨n=2:=by
  rw[←hn];unfold aY
  repeat' split
  all_goals omega
 have fin:decide (n<0∨0<n∧c.keys.length=0∨n=1∧1<c.keys.length)=true→oH c=true:=λh=>by rw[hb,h];rfl
 refine a8 ?_;refine au ?_;refine cg (ι:=Unit) [8,9,10,11,12,13,14,15,16,17,18,19,20,21,22,23,24,25,26,27,28,29,2] (λu=>¬(n<0∨0<n∧c.keys.length=0∨n=1∧1<c.keys.length)) (λu=> []) (λu=> [ag b1 47 (cy c ka kc da dc mv)]) ?_ ?_
 ·refine gU ?_
  refine aZ ?_;refine aE (t:=10) rfl ?_ ?_
  ·intro cn
   replace cn:=aD cn;refine bT ?_;refine bB ?_;refine Rt [] results20 ?_;exact⟨congrArg Value.bool (fin (decide_eq_true (by omega))).symm,rfl⟩
  intro cn;replace cn:=aD cn;refine aZ ?_;refine aE (t:=13) rfl ?_ ?_
  ·intro cm
   replace cm:=aD cm;refine bH ?_;refine aE (t:=20) rfl ?_ ?_
   ·intro bS
    replace bS:=aD bS;refine qa ?_;refine Rt [] results20 ?_;exact⟨congrArg Value.bool (fin (decide_eq_true (by omega))).symm,rfl⟩
   intro bS;replace bS:=aD bS;refine aZ ?_;refine aE (t:=23) rfl ?_ ?_
   ·intro bP
    replace bP:=aD bP;refine bH ?_;refine av rfl ?_ ?_
    ·intro cG
     replace cG:=aD cG;refine bc ?_;refine Rt [] results20 ?_;exact⟨congrArg Value.bool (fin (decide_eq_true (by omega))).symm,rfl⟩
    intro cG;replace cG:=aD cG;refine ay ?_;refine Me (()) (by omega)
   intro bP;replace bP:=aD bP;refine cN ?_;refine Me (()) (by omega)
  intro cm;replace cm:=aD cm;refine bw ?_;refine aE (t:=23) rfl ?_ ?_
  ·intro bS
   replace bS:=aD bS;refine bH ?_;refine av rfl ?_ ?_
   ·intro bP
    replace bP:=aD bP;refine bc ?_;refine Rt [] results20 ?_;exact⟨congrArg Value.bool (fin (decide_eq_true (by omega))).symm,rfl⟩
   intro bP;replace bP:=aD bP;refine ay ?_;refine Me (()) (by omega)
  intro bS;replace bS:=aD bS;refine cN ?_;refine Me (()) (by omega)
 rintro u hI;have bS:oH c=((decide (0<n)&&c.keys.any λk=> !cO k) ||decide (5≤c.verb∧c.verb≤10∧4294967295<c.fl)):=by rw[hb,decide_eq_false hI,aie]
 refine bc ?_;refine Lo (ι:=Nat) [30,31,32,33,34,35,36,37,38,41,42,43,44,45,46,47,2,39,40,4] (λk=>k≤c.keys.length∧(0<k→0<n)∧∀x∈c.keys.take k,cO x=true) (λk=> [(4, .int .i64 (k:Int))]) (λk=> [ag b1 47 (cy c ka kc da dc mv)]) (λk=>c.keys.length-k) (0) ⟨acS _,λh=>absurd h (Nat.lt_irrefl _),by simp⟩ ?_;rintro k hI;obtain⟨hk1,hk0,rB⟩:=hI;by_cases bX:0<n∧k<c.keys.length
 ·have uI:=rP c.keys k bX.2
  have sU:=hk _ (acJ bX.2);have Mw:ka.isSome=true:=by obtain⟨ad,e,_⟩:=hr k _ uI;rw[e];rfl
  refine bc ?_;refine zt 32 ?_;refine bH ?_;refine dz ?_;refine cI ?_;refine Li (Ix T.nR) ?_;refine ay ?_;refine zl T.afO (JP c.keys[k] sU) .nil (λ_ _ _=>trivial) ?_;by_cases hg:cO c.keys[k]=true
  ·rw[hg]
   refine bw ?_;refine az ?_;refine Ro (k+1) (⟨bX.2,λ_=>bX.1,λx hx=>(by rw[adE,acx bX.2,adw]at hx;rcases hx with hx|hx;exact rB x hx;obtain rfl:x=c.keys[k]:=(by simpa using hx);exact hg)⟩) (by omega)
  have hg2:cO c.keys[k]=false:=by simpa using hg
  rw[hg2];refine dQ ?_;refine Rt [] results20 ?_;refine⟨congrArg Value.bool ?_,rfl⟩;have:(c.keys.any λk=> !cO k)=true:=List.any_eq_true.2 ⟨_,acJ bX.2,by rw[hg2];rfl⟩;rw[bS,this,decide_eq_true bX.1];rfl
 refine au ?_;refine au ?_;refine cg (ι:=Unit) [30,31,32,33,34,35,36,37,38] (λu=>True) (λu=> [(38, .bool false)]) (λu=> [ag b1 47 (cy c ka kc da dc mv)]) ?_ ?_
 ·by_cases hp:0<n
  ·refine cC ?_
   refine aZ ?_;refine zt 32 ?_;refine bB ?_;refine az ?_;refine ao (t:=38) (v':=(.bool false)) rfl (by exact congrArg Value.bool (decide_eq_false (by omega))) ?_;refine Me (()) (trivial)
  refine cC ?_;refine aZ ?_;refine zf 32 ?_;refine bB ?_;refine az ?_;refine Me (()) (trivial)
 rintro u hI;have hz:(decide (0<n)&&c.keys.any λk=> !cO k)=false:=by
  by_cases hp:0<n
  ·have oh:k=c.keys.length:=by omega
   rw[oh,agQ]at rB;rw[Bool.and_eq_false_iff]
   right
   rw[List.any_eq_false];intro x hx;rw[rB x hx];decide
  rw[decide_eq_false hp];rfl
 rw[hz,aie]at bS;refine bK ?_;refine aE (t:=51) rfl ?_ ?_
 ·intro cn
  replace cn:=aD cn;refine bc ?_;refine aE (t:=56) rfl ?_ ?_
  ·intro cm
   replace cm:=aD cm;refine bH ?_;refine Rt [] results20 ?_;refine⟨congrArg Value.bool ?_,rfl⟩;rw[bS]
   first
    |exact decide_eq_decide.2 (by omega)
    |exact(decide_eq_false (by omega)).symm
  intro cm;replace cm:=aD cm;refine bH ?_;refine Rt [] results20 ?_;refine⟨congrArg Value.bool ?_,rfl⟩;rw[bS]
  first
   |exact decide_eq_decide.2 (by omega)
   |exact(decide_eq_false (by omega)).symm
 intro cn;replace cn:=aD cn;refine dQ ?_;refine Rt [] results20 ?_;refine⟨congrArg Value.bool ?_,rfl⟩;rw[bS]
 first
  |exact decide_eq_decide.2 (by omega)
  |exact(decide_eq_false (by omega)).symm
def Th.lay (t:Th)(sl:List Nat)(tok now:Nat):Th:={t with room:=if t.room<58+t.key.length+t.val.length then ny sl (58+t.key.length+t.val.length)else t.room,tok:=tok,rd:=now}
def gC.put (B:gC)(t:Th)(sl:List Nat):gC:={B with aM:=B.aM+1,l:=fL B.l t.key++ [t.lay sl (B.aM+1) B.now]}
theorem rW (b:Nat)(B:gC)(la:Option Addr)(lc:Nat)(hl:B.l.length≤999)(t:Th)(hk:t.key.length≤16777216)(hv:t.val.length≤16777216)(hi:B.aM<1000000000)(sa:Option Addr)(sc:Nat)(sl:List Nat)(TN:sl.length≤1000):
  aH acw 94 [.pointer (some ⟨b,0,none⟩), .agg (vK t).toArray, .slice sa sl.length sc] (λh=>dU h sa (aV sl)) [ag b 61 (bA B la lc),own la lc 73 8 (aW B.l)]
  (λ_ H=>∃qy qx,H= [ag b 61 (bA (B.put t sl) qy qx),own qy qx 73 8 (aW (B.put t sl).l)]):=by
 have hd:=xE b B la lc (by omega) t.key;have BO:=mW B.l t.key;have hc:=Mb sa sc sl TN (58+t.key.length+t.val.length);refine ae func94 rfl ntmps94 rfl ?_;intro F hr;refine ay ?_;refine Lp (oB λb1=> ?_);refine bc ?_;refine Lp (oC T.NH rfl rfl (hd) (.cons (.there .here) (.cons (.there .here) .nil)) (λ_ _ _=>trivial) ?_);rintro v H' ⟨la1,lc1,rfl⟩;refine bd ?_;refine ay ?_;refine au ?_;refine Hh (H':= [ag b 61 (bA (B.drop t.key) la1 lc1),own la1 lc1 73 8 (aW (fL B.l t.key)),ag b1 73 (vK t)]) ?_;unfold vK bA gC.drop;dsimp only;refine cg (ι:=Unit) [10,11,12,13,14,15,16,17,18,19,20,21,22,23,24,25,26,27,28,29,30,31] (λu=>True) (λu=> []) (λu=> [ag b 61 [.slice la1 (fL B.l t.key).length lc1, .int .i64 (B.now:Int), .int .u64 (B.aM:Int), .int .u64 (B.cut:Int), .int .i64 (B.dH:Int), .int .i64 (B.lost:Int)],own la1 lc1 73 8 (aW (fL B.l t.key)),ag b1 73 [aB t.key, .slice t.va t.val.length t.vc, .int .u64 (t.fl:Int), .int .i64 (t.exp:Int), .int .u64 (t.tok:Int), .int .i64 ((if t.room<58+t.key.length+t.val.length then ny sl (58+t.key.length+t.val.length)else t.room:Nat):Int), .int .i64 (t.rd:Int), .bool t.eO]]) ?_ ?_
 ·by_cases h1:t.room<58+t.key.length+t.val.length
  ·rw[if_pos h1]
   refine aZ ?_;refine Li (Ls T.kk) ?_;refine cN ?_;refine dz ?_;refine aR ?_;refine Li (Ls T.kk) ?_;refine bc ?_;refine ao (t:=29) (v':=(.int .i64 ((58+t.key.length+t.val.length:Nat):Int))) rfl (by exact congrArg (Value.int .i64) (by omega)) ?_;refine zl T.abu (hc) .nil (λ_ le _=>hr.mono le) ?_;refine a8 ?_;refine az ?_;refine Me (()) (trivial)
  rw[if_neg h1];refine aZ ?_;refine Li (Ls T.kk) ?_;refine cN ?_;refine cu ?_;refine ay ?_;refine Me (()) (trivial)
 rintro u hI;generalize kE:(if t.room<58+t.key.length+t.val.length then ny sl (58+t.key.length+t.val.length)else t.room)=room;refine bB ?_;refine ao (t:=36) (v':=(.int .u64 ((B.aM+1:Nat):Int))) rfl (by exact congrArg (Value.int .u64) (by first|rfl|omega)) ?_;refine bT ?_;refine gK 8 T.mix (.cons .here (.cons (.there .here) .nil)) λF1 iT cj aI=> ?_;obtain⟨q1,q2,_⟩:=cj;refine aR ?_
 first
  |refine Ti (Lf T.eD) ?_
  |refine Ti (fB T.eD q1) ?_
  |refine Ti (fB T.eD q2) ?_
 refine ay ?_;refine Tp (oT1 T.Hg λb2=> ?_);refine Tp (bF T.Hg T.XR rfl rfl rfl rfl .here (gw _) (rfl) (by simp[Value.oneCell',aB]) (by first|omega|(simp;omega)) (by first|omega|(simp;omega)) rfl λa4 c4 Ul=> ?_);refine gd aI ?_;refine aZ ?_;refine Tn ?_;have e1:aW (fL B.l t.key)++ [aB t.key, .slice t.va t.val.length t.vc, .int .u64 (t.fl:Int), .int .i64 (t.exp:Int), .int .u64 ((B.aM+1:Nat):Int), .int .i64 (room:Int), .int .i64 (B.now:Int), .bool t.eO]=aW (B.put t sl).l:=by
  unfold gC.put;dsimp only;rw[Hr,CB];unfold Th.lay vK;dsimp only;rw[kE]
 have e2:(fL B.l t.key).length+1=(B.put t sl).l.length:=by unfold gC.put;simp
 refine Hh (H':= [ag b 61 [.slice a4 ((fL B.l t.key).length+1) c4, .int .i64 (B.now:Int), .int .u64 ((B.aM+1:Nat):Int), .int .u64 (B.cut:Int), .int .i64 (B.dH:Int), .int .i64 (B.lost:Int)],own a4 c4 73 8 (aW (fL B.l t.key)++ [aB t.key, .slice t.va t.val.length t.vc, .int .u64 (t.fl:Int), .int .i64 (t.exp:Int), .int .u64 ((B.aM+1:Nat):Int), .int .i64 (room:Int), .int .i64 (B.now:Int), .bool t.eO])]) ?_;rw[e1,e2];refine jM [ag b 61 [.slice a4 (B.put t sl).l.length c4, .int .i64 (B.now:Int), .int .u64 ((B.aM+1:Nat):Int), .int .u64 (B.cut:Int), .int .i64 (B.dH:Int), .int .i64 (B.lost:Int)],own a4 c4 73 8 (aW (B.put t sl).l)] results94 ?_;exact⟨a4,c4,rfl⟩
theorem JX (a:Option Addr)(c:Nat)(l:List UInt8)(hl:l.length<281474976710656):aH acw 95 [.slice a l.length c] (λh=>dU h a (ai l)) []
  (λv H=>∃(n:Nat) (ok:Bool),v= .tuple #[.int .u64 (n:Int), .bool ok]∧(ok=true→lq l=some n∧n<18446744073709551616)∧(ok=false→lq l=none)∧H= []):=by
 have ou:sX 0 l=none→lq l=none:=λh=>by unfold lq;rw[h];split<;>rfl
 refine ae func95 rfl ntmps95 rfl ?_;intro F hr;refine dQ ?_;refine Lo (ι:=Nat×Nat) [6,7,8,9,12,13,14,15,16,17,18,19,20,21,22,23,24,25,26,27,28,29,30,31,32,33,34,35,36,37,38,2,3,39,40,41,42,43,44,45,46,47,4,10,11,5] (λs=>s.1≤l.length∧s.2<18446744073709551616∧sX 0 l=sX s.2 (l.drop s.1)) (λs=> [(4, .int .u64 (s.2:Int)),(5, .int .i64 (s.1:Int))]) (λs=> []) (λs=>l.length-s.1) ((0,0)) ⟨acS _,by decide,rfl⟩ ?_;rintro⟨k,n⟩ hI;dsimp only at hI⊢;obtain⟨hk,hb,hi⟩:=hI;by_cases bX:k<l.length
 ·have Eu:=PO l k
  have sa:a.isSome=true:=hr.some (by rw[jy];omega);have TU:l.drop k=l[k]::l.drop (k+1):=List.drop_eq_getElem_cons bX;have hbe:rC l k=l[k].toNat:=by unfold rC;rw[acy,acx bX];rfl
  rw[TU,sX]at hi;rw[←hbe]at hi;refine bH ?_;refine dz ?_;refine bc ?_;refine au ?_;refine cg (ι:=Bool) [12,13,14,15,16,17,18,19,20,21,22,23,24,25,26,27,28,29,30,31,32,33,34,35,36,37,38] (λq=>q=true↔(rC l k<48∨57<rC l k∨(18446744073709551615-(rC l k-48))/10<n)) (λq=> [(38, .bool q)]) (λq=> []) ?_ ?_
  ·refine cC ?_
   refine a8 ?_;refine Li (Ix T.eC) ?_;refine aZ ?_;by_cases c1:rC l k<48
   ·refine zt 17 ?_
    refine bT ?_;refine ay ?_;refine az ?_;refine Me (true) ((by simp[c1]))
   refine zf 17 ?_;refine a8 ?_;refine Li (Ix T.eC) ?_;refine aR ?_;by_cases c2:57<rC l k
   ·refine zt 24 ?_
    refine fF ?_;refine az ?_;refine Me (true) ((by simp[c2]))
   refine zf 24 ?_;refine aR ?_;by_cases c3:1844674407370955161<n
   ·refine zt 28 ?_
    refine bw ?_;refine az ?_;refine Me (true) ((by simp only[true_iff];omega))
   refine zf 28 ?_;refine aZ ?_;by_cases c4:n=1844674407370955161
   ·refine zt 31 ?_
    refine a8 ?_;refine Li (Ix T.eC) ?_;refine aR ?_;refine az ?_;refine Me (decide (53<rC l k)) ((by rw[decide_eq_true_eq];omega))
   refine zf 31 ?_;refine bH ?_;refine az ?_;refine Me (false) ((by simp only[Bool.false_eq_true,false_iff];omega))
  rintro q hq;rcases q with _|_
  ·have hnq:¬(rC l k<48∨57<rC l k∨(18446744073709551615-(rC l k-48))/10<n):=λh=>by have:=hq.2 h;cases this
   rw[if_neg hnq]at hi;refine cI ?_;refine Li (Ix T.eC) ?_;refine a8 ?_;refine ao (t:=45) (v':=(.int .u8 ((rC l k-48:Nat):Int))) rfl (by exact congrArg (Value.int .u8) (by first|omega|(unfold IntKind.wrap;simp;omega))) ?_;refine bw ?_;refine az ?_;refine ao (t:=4) (v':=(.int .u64 ((n*10+(rC l k-48):Nat):Int))) rfl (by exact congrArg (Value.int .u64) (by omega)) ?_;refine Ro ((k+1,n*10+(rC l k-48))) (⟨bX,(by dsimp only;omega),hi⟩) ((by dsimp only;omega))
  rw[if_pos (hq.1 rfl)]at hi;refine dQ ?_;refine iH [] results95 ?_;exact⟨0,false,rfl,λh=>(by cases h),λ_=>ou hi,rfl⟩
 have oh:k=l.length:=by omega
 subst oh;rw[List.drop_length,sX]at hi;refine bH ?_;refine cu ?_;refine bK ?_;by_cases h0:0<l.length
 ·refine zt 52 ?_
  refine cI ?_;refine iH [] results95 ?_;exact⟨n,decide (l.length≤20),congrArg (λq=>Value.tuple #[.int .u64 (n:Int), .bool q]) (by rw[decide_eq_decide];omega),λh=>⟨by unfold lq;rw[if_pos ⟨h0,by simpa using h⟩,hi],hb⟩,λh=>by unfold lq;rw[if_neg λg=>by have:=g.2;simp at h;omega],rfl⟩
 refine zf 52 ?_;refine cI ?_;refine iH [] results95 ?_;exact⟨n,false,rfl,λh=>(by cases h),λ_=>by unfold lq;rw[if_neg λg=>h0 g.1],rfl⟩
def Cr (b k:Nat):Prop:=b=k∨(k=1099511627777∧(b=0∨1099511627776<b))
structure ku (B:gC)(P:bn):Prop where
 now:P.k.now=B.now
 n1:1≤B.now
 n2:B.now≤1099511627776
 aM:P.i=B.aM
 cut:P.k.cut=B.cut
 ci:B.cut≤B.aM
 pd:Cr B.dH P.k.dH
 u:Unk B.l
 tk:∀t∈B.l,t.tok≤B.aM
 kl:∀t∈B.l,t.key.length≤250
 al:∀t∈B.l,¬B.dead t→∃c,P.f t.key=some (t.x,c)∧P.z[c]?=some t.room
 no:∀k,(∀t∈B.l,t.key=k→B.dead t)→P.f k=none
theorem wT{k:Ck}{B:gC}(h1:k.now=B.now)(h2:k.cut=B.cut)(t:Th):lP k t.x=0↔¬B.dead t:=by
 unfold lP gC.dead Th.x;dsimp only;rw[h1,h2];by_cases a:0<t.exp∧t.exp≤B.now
 ·simp[a]
 by_cases b:t.tok≤B.cut
 ·simp[a,b]
 simp[a,b]
theorem ku.EC{B:gC}{P:bn}(R:ku B P){k:List UInt8}{i:Nat}(h:Je B k (some i)):∃t c,B.l[i]?=some t∧t.key=k∧¬B.dead t∧P.f k=some (t.x,c)∧P.z[c]?=some t.room:=by
 obtain⟨t,e1,hk,hd⟩:=h;obtain⟨c,h1,h2⟩:=R.al t (acB e1) hd;exact⟨t,c,e1,hk,hd,by rw[←hk];exact h1,h2⟩
theorem ku.I8{B:gC}{P:bn}(R:ku B P){k:List UInt8}(h:Je B k none):P.f k=none:=R.no k h
theorem ku.set{B:gC}{P:bn}(R:ku B P){i:Nat}{t t':Th}{c:Nat}(e1:B.l[i]?=some t)(hk:t'.key=t.key)(hc:P.z[c]?=some t'.room)(ht:t'.tok≤B.aM):
  ku {B with l:=B.l.set i t'} (P.put t'.x c):=by
 have hi:i<B.l.length:=(acz.1 e1).1;have hw:∀s,lP P.k s.x=0↔¬B.dead s:=wT R.now R.cut;have ED:∀(j:Nat) (s:Th),(B.l.set i t')[j]?=some s→(j=i∧s=t')∨(j≠i∧B.l[j]?=some s):=λj s h=>by
  rw[ac4]at h;by_cases e:i=j
  ·rw[if_pos e,if_pos hi]at h
   exact .inl ⟨e.symm,by cases h;rfl⟩
  rw[if_neg e]at h;exact .inr ⟨λg=>e g.symm,h⟩
 have lU:∀s∈B.l.set i t',s=t'∨(s∈B.l∧s.key≠t.key):=λs hs=>by
  obtain⟨j,hj,e⟩:=acR hs;rcases ED j s (by rw[acx hj,e])with⟨_,h⟩|⟨h,h2⟩
  ·exact .inl h
  exact .inr ⟨acB h2,λg=>h (R.u j i s t h2 e1 g)⟩
 have Ug:t'.x.key=t.key:=hk;refine⟨R.now,R.n1,R.n2,R.aM,R.cut,R.ci,R.pd,λj q s v h1 h2 jP=> ?_,λs hs=> ?_,λs hs=> ?_,λs hs hd=> ?_,λk h=> ?_⟩
 ·have a:=ED j s h1
  have b:=ED q v h2;rcases a with⟨rfl,rfl⟩|⟨a1,a2⟩<;>rcases b with⟨rfl,rfl⟩|⟨b1,b2⟩
  ·rfl
  ·exact absurd (R.u _ _ t v e1 b2 (hk.symm.trans jP)).symm b1
  ·exact absurd (R.u _ _ s t a2 e1 (jP.trans hk)) a1
  exact R.u _ _ s v a2 b2 jP
 ·rcases lU s hs with rfl|⟨a,_⟩
  ·exact ht
  exact R.tk s a
 ·rcases lU s hs with rfl|⟨a,_⟩
  ·rw[hk];exact R.kl t (acB e1)
  exact R.kl s a
 ·show∃c',(if s.key=t'.x.key then _ else P.f s.key)=_∧P.z[c']?=_
  rcases lU s hs with rfl|⟨a,b⟩
  ·refine⟨c, ?_,hc⟩
   rw[if_pos (show s.key=s.x.key from rfl),if_pos ((hw s).2 hd)]
  rw[if_neg (by rw[Ug];exact b)];exact R.al s a hd
 show(if k=t'.x.key then _ else P.f k)=_;by_cases Uh:k=t.key
 ·rw[if_pos (by rw[Ug];exact Uh)]
  have:B.dead t':=h t' (acB (by rw[ac4,if_pos rfl,if_pos hi])) (hk.trans Uh.symm);rw[if_neg λg=>(hw t').1 g this]
 rw[if_neg (by rw[Ug];exact Uh)];refine R.no k λs hs e=> ?_;obtain⟨j,hj,e2⟩:=acR hs;have TR:j≠i:=λg=>by
  subst g;rw[acx hj,e2]at e1;cases e1;exact Uh e.symm
 exact h s (acB (i:=j) (by rw[ac4,if_neg λg=>TR g.symm,acx hj,e2])) e
theorem xK{l:List Th}(h:Unk l)(p:Th→Bool):Unk (l.filter p):=by
 have h2:l.Pairwise λt u=>t.key≠u.key:=by
  rw[ahC];intro i j hi hj Uk e;have:=h i j _ _ (acx hi) (acx hj) e;omega
 have h3:=h2.filter p;rw[ahC]at h3;intro i j t v a b e;obtain⟨a1,rfl⟩:=acz.1 a;obtain⟨b1,rfl⟩:=acz.1 b;refine acH λg=> ?_;rcases Nat.lt_or_gt_of_ne g with q|q
 ·exact h3 i j a1 b1 q e
 exact h3 j i b1 a1 q e.symm
theorem iD{l:List Th}{k:List UInt8}{t:Th}:t∈fL l k↔t∈l∧t.key≠k:=by
 unfold fL;rw[List.mem_filter,decide_eq_true_eq]
theorem ku.drop{B:gC}{P:bn}(R:ku B P)(k:List UInt8):ku (B.drop k) (P.set k none):=by
 refine⟨R.now,R.n1,R.n2,R.aM,R.cut,R.ci,R.pd,xK R.u _,λs hs=>R.tk s (iD.1 hs).1,λs hs=>R.kl s (iD.1 hs).1,λs hs hd=> ?_,λy h=> ?_⟩
 ·obtain⟨a,b⟩:=iD.1 hs
  show∃c',(if s.key=k then _ else P.f s.key)=_∧P.z[c']?=_;rw[if_neg b];exact R.al s a hd
 show(if y=k then _ else P.f y)=_;by_cases e:y=k
 ·rw[if_pos e]
 rw[if_neg e];exact R.no y λs hs g=>h s (iD.2 ⟨hs,λq=>e (g.symm.trans q)⟩) g
theorem ku.put{B:gC}{P:bn}(R:ku B P)(t:Th)(oh:t.key.length≤250)(sl:List Nat){c:Nat}(hc:P.z[c]?=some (t.lay sl (B.aM+1) B.now).room):
  ku (B.put t sl) ((P.put (t.lay sl (B.aM+1) B.now).x c).num (P.i+1)):=by
 have hk:(t.lay sl (B.aM+1) B.now).key=t.key:=rfl;generalize hq:t.lay sl (B.aM+1) B.now=t' at*;have Ej:t'.tok=B.aM+1:=by rw[←hq];rfl
 have hB:B.put t sl={B with aM:=B.aM+1,l:=fL B.l t.key++ [t']}:=by unfold gC.put;rw[hq]
 rw[hB];have hw:∀s,lP P.k s.x=0↔¬B.dead s:=wT R.now R.cut;have GO:∀s,gC.dead {B with aM:=B.aM+1,l:=fL B.l t.key++ [t']} s↔B.dead s:=λs=>Iff.rfl;have hm:∀s,s∈fL B.l t.key++ [t']↔(s∈B.l∧s.key≠t.key)∨s=t':=λs=>by rw[adw,iD,acX]
 have Ug:t'.x.key=t.key:=hk;refine⟨R.now,R.n1,R.n2,by show P.i+1=B.aM+1;rw[R.aM],R.cut,ahm R.ci,R.pd, ?_,λs hs=> ?_,λs hs=> ?_,λs hs hd=> ?_,λy h=> ?_⟩
 ·have hu:=xK R.u λs=>decide (s.key≠t.key)
  change Unk (fL B.l t.key)at hu;have rK:∀(j:Nat) (s:Th),(fL B.l t.key++ [t'])[j]?=some s→(j<(fL B.l t.key).length∧(fL B.l t.key)[j]?=some s∧s.key≠t.key)∨(j=(fL B.l t.key).length∧s=t'):=λj s h=>by
   rw[List.getElem?_append]at h
   split at h
   ·next g=>exact .inl ⟨g,h,(iD.1 (acB h)).2⟩
   next g=>
   obtain⟨a,b⟩:=acz.1 h;simp only[List.length_singleton]at a;have hj:j=(fL B.l t.key).length:=by omega
   subst hj;refine .inr ⟨rfl, ?_⟩;rw[←b];simp
  intro i j s v a b e;have a:=rK i s a;have b:=rK j v b;rcases a with⟨a1,a2,a3⟩|⟨a1,rfl⟩<;>rcases b with⟨b1,b2,b3⟩|⟨b1,rfl⟩
  ·exact hu i j s v a2 b2 e
  ·exact absurd (e.trans hk) a3
  ·exact absurd (e.symm.trans hk) b3
  omega
 ·show s.tok≤B.aM+1
  rcases(hm s).1 hs with⟨a,_⟩|rfl
  ·exact ahm (R.tk s a)
  omega
 ·rcases(hm s).1 hs with⟨a,_⟩|rfl
  ·exact R.kl s a
  rw[hk];exact oh
 ·show∃c',(if s.key=t'.x.key then _ else P.f s.key)=_∧P.z[c']?=_
  rcases(hm s).1 hs with⟨a,b⟩|rfl
  ·rw[if_neg (by rw[Ug];exact b)]
   exact R.al s a (λg=>hd ((GO s).2 g))
  refine⟨c, ?_,hc⟩;rw[if_pos (show s.key=s.x.key from rfl),if_pos ((hw s).2 (λg=>hd ((GO s).2 g)))]
 show(if y=t'.x.key then _ else P.f y)=_;by_cases Uh:y=t.key
 ·rw[if_pos (by rw[Ug];exact Uh)]
  have:B.dead t':=(GO t').1 (h t' ((hm t').2 (.inr rfl)) (hk.trans Uh.symm));rw[if_neg λg=>(hw t').1 g this]
 rw[if_neg (by rw[Ug];exact Uh)];exact R.no y λs hs e=>(GO s).1 (h s ((hm s).2 (.inl ⟨hs,λg=>Uh (e.symm.trans g)⟩)) e)
theorem ku.clock{B B':gC}{P:bn}(R:ku B P){k':Ck}(hl:B'.l=B.l)(hi:B'.aM=B.aM)(h1:k'.now=B'.now)(h2:k'.cut=B'.cut)(hp:Cr B'.dH k'.dH)(hn:B.now≤B'.now)(Xq:B'.now≤1099511627776)(hc:B.cut≤B'.cut)(Xu:B'.cut≤B.aM):
  ku B' (P.clock k'):=by
 have hm:∀s,B.dead s→B'.dead s:=λs h=>by
  unfold gC.dead at*;omega
 have hw:∀s,lP k' s.x=0↔¬B'.dead s:=wT h1 h2;refine⟨h1,agC R.n1 hn,Xq,R.aM.trans hi.symm,h2,by rw[hi];exact Xu,hp,by rw[hl];exact R.u,by rw[hl,hi];exact R.tk,by rw[hl];exact R.kl,λs hs hd=> ?_,λy h=> ?_⟩
 ·rw[hl]at hs
  obtain⟨c,e1,e2⟩:=R.al s hs λg=>hd (hm s g);refine⟨c, ?_,e2⟩;show(match P.f s.key with|some x=>if lP k' x.1=0 then some x else none|none=>none)=_;rw[e1];dsimp only;rw[if_pos ((hw s).2 hd)]
 rw[hl]at h;show(match P.f y with|some x=>if lP k' x.1=0 then some x else none|none=>none)=_;by_cases g:∃s∈B.l,s.key=y∧¬B.dead s
 ·obtain⟨s,hs,e,hd⟩:=g
  obtain⟨c,e1,_⟩:=R.al s hs hd;rw[←e,e1];dsimp only;rw[if_neg λq=>(hw s).1 q (h s hs e)]
 rw[R.no y λs hs e=>Classical.byContradiction λq=>g ⟨s,hs,e,q⟩]
theorem ku.tick{B:gC}{P:bn}(R:ku B P){n:Nat}(hn:1≤n)(h:B.now+n≤1099511627776):P.k.Ew (n:Int)=0∧ku (B.tick n) (P.tick (n:Int)):=by
 have e0:=R.now;have ha:P.k.Ew (n:Int)=0:=by
  unfold Ck.Ew;rw[if_neg (by omega),if_neg (by omega)]
 refine⟨ha, ?_⟩;unfold bn.tick;rw[if_pos ha];have Xu:=R.ci;have hcu:=R.cut;have his:=R.aM;have hpd:=R.pd;unfold Cr at hpd;unfold Ck.move;rw[if_pos ha,Int.toNat_natCast];unfold Ck.tick gC.tick;dsimp only;by_cases hp:0<B.dH∧B.dH≤B.now+n
 ·have hk:0<P.k.dH∧P.k.dH≤P.k.now+n:=by omega
  rw[if_pos hp,if_pos hk];refine R.clock rfl rfl ?_ ?_ ?_ ?_ ?_ ?_ ?_
  ·unfold Ck.flush;rw[if_pos (by decide)];show P.k.now+n=_;rw[e0]
  ·unfold Ck.flush;rw[if_pos (by decide)];show max P.k.cut P.i=B.aM;omega
  ·unfold Ck.flush;rw[if_pos (by decide)];exact .inl rfl
  ·show B.now≤B.now+n;omega
  ·exact h
  ·exact Xu
  exact acG _
 have hk:¬(0<P.k.dH∧P.k.dH≤P.k.now+n):=by omega
 rw[if_neg hp,if_neg hk];refine R.clock rfl rfl ?_ hcu R.pd ?_ ?_ ?_ ?_
 ·show P.k.now+n=_;rw[e0]
 ·show B.now≤B.now+n;omega
 ·exact h
 ·exact acG _
 exact Xu
def gC.flush (B:gC)(ex:Int):gC:=if ex≤0 then{B with dH:=0,cut:=B.aM}else if ex≤1099511627776 then{B with dH:=B.now+ex.toNat}else{B with dH:=0}
theorem ku.flush{B:gC}{P:bn}(R:ku B P)(ex:Int):ku (B.flush ex) (P.clock (P.k.flush ex P.i)):=by
 have e0:=R.now;have Xu:=R.ci;have hcu:=R.cut;have his:=R.aM;have h2:=R.n2;unfold gC.flush Ck.flush;by_cases h:ex≤0
 ·rw[if_pos h,if_pos h]
  exact R.clock rfl rfl e0 (show max P.k.cut P.i=B.aM by omega) (.inl rfl) (acG _) R.n2 Xu (acG _)
 rw[if_neg h,if_neg h];by_cases g:ex≤1099511627776
 ·rw[if_pos g]
  refine R.clock rfl rfl e0 hcu ?_ (acG _) R.n2 (acG _) Xu;unfold Cr;dsimp only;omega
 rw[if_neg g];refine R.clock rfl rfl e0 hcu ?_ (acG _) R.n2 (acG _) Xu;unfold Cr;dsimp only;omega
theorem kj (l:List Th)(i j:Nat)(t t':Th)(v:Value)(h:l[i]?=some t)(hj:j<8)(e:(vK t).set j v=vK t'):(aW l).set (i*8+j) v=aW (l.set i t'):=by
 unfold aW
 induction l generalizing i with
 |nil=>simp at h
 |cons q r ih=>
  have hq:(vK q).length=8:=rfl;rw[adb];cases i with
  |zero=>
   simp only[agL,Option.some.injEq]at h;subst h;rw[List.set_cons_zero,adb,aiq,Nat.zero_add,List.set_append_left _ _ (by omega),e]
  |succ i=>
   rw[adI]at h;rw[List.set_cons_succ,adb,List.set_append_right _ _ (by omega),hq,show(i+1)*8+j-8=i*8+j by omega,ih i h]
def jb (V:List (Option Addr×Nat×List UInt8))(a:Option Addr)(x:List UInt8):Prop:=∃c,(a,c,x)∈V
def zY (V:List (Option Addr×Nat×List UInt8))(l:List Th):Prop:=∀t∈l,jb V t.va t.val
def bf (V:List (Option Addr×Nat×List UInt8)):aa:=aN (V.map λp=>own p.1 p.2.1 5 1 (ai p.2.2))
theorem rR{V:List (Option Addr×Nat×List UInt8)}{h:Hp}(o:∃k,bf V k∧Le k h){a:Option Addr}{x:List UInt8}(hv:jb V a x):dU h a (ai x):=by
 obtain⟨c,hc⟩:=hv;exact bD (o5 (f:=λp:Option Addr×Nat×List UInt8=>own p.1 p.2.1 5 1 (ai p.2.2)) o hc)
theorem zY.set{V:List (Option Addr×Nat×List UInt8)}{l:List Th}(h:zY V l){i:Nat}{t:Th}(ht:jb V t.va t.val):zY V (l.set i t):=λs hs=>by
 rcases List.mem_or_eq_of_mem_set hs with g|rfl
 ·exact h s g
 exact ht
theorem ZC (t:Th)(now:Nat):({t with rd:=now,eO:=true}:Th).x=t.x.qF now:=by
 obtain⟨k,v,va,vc,fl,ex,tk,rm,rd,eO⟩:=t;cases eO<;>simp[Th.x,I3.qF]
def Th.lx (t:Th)(u:Bool)(now:Nat)(ex:Int):Th:=if u=true then{t with exp:=cF now ex}else t
theorem abS (t:Th)(u:Bool)(now:Nat)(ex:Int):(t.lx u now ex).x=(if u=true then{t.x with exp:=cF now ex}else t.x):=by
 unfold Th.lx
 split<;>rfl
theorem Iw (t:Th)(u:Bool)(now:Nat)(ex:Int):(t.lx u now ex).key=t.key∧(t.lx u now ex).room=t.room∧(t.lx u now ex).tok=t.tok∧(t.lx u now ex).va=t.va∧(t.lx u now ex).val=t.val:=by
 unfold Th.lx
 split<;>exact⟨rfl,rfl,rfl,rfl,rfl⟩
theorem ku.read{B:gC}{P:bn}(R:ku B P){k:List UInt8}{i:Nat}(h:Je B k (some i))(u:Bool)(ex:Int):∃t,B.l[i]?=some t∧¬B.dead t∧
  ∀s:List I3,bn.cL u ex (s,P) k=(s++ [(t.lx u B.now ex).x],(bn.cL u ex (s,P) k).2)∧ku {B with l:=B.l.set i {t.lx u B.now ex with rd:=B.now,eO:=true}} (bn.cL u ex (s,P) k).2:=by
 obtain⟨t,c,e1,hk,hd,hf,hz⟩:=R.EC h;obtain⟨x1,x2,x3,_,_⟩:=Iw t u B.now ex;refine⟨t,e1,hd,λs=> ?_⟩;have e:bn.cL u ex (s,P) k=(s++ [(t.lx u B.now ex).x],P.put ((t.lx u B.now ex).x.qF B.now) c):=by
  unfold bn.cL;dsimp only;rw[hf];dsimp only;rw[R.now,←abS]
 rw[e];refine⟨rfl, ?_⟩;have:=R.set (t':={t.lx u B.now ex with rd:=B.now,eO:=true}) (c:=c) e1 x1 (by show _=some (t.lx u B.now ex).room;rw[x2];exact hz) (by show(t.lx u B.now ex).tok≤_;rw[x3];exact R.tk t (acB e1));rw[ZC]at this;exact this
theorem JN{B:gC}{P:bn}(R:ku B P){k:List UInt8}(h:Je B k none)(u:Bool)(ex:Int)(s:List I3):bn.cL u ex (s,P) k=(s,P):=by
 unfold bn.cL;dsimp only;rw[R.I8 h]
theorem LZ (l m:List (I3×Option Addr×Nat)):fm (l++m)=fm l++fm m:=by unfold fm;exact agD
theorem Gs (p:I3×Option Addr×Nat):fm [p]=jQ p.1 (.slice p.2.1 p.1.val.length p.2.2):=by simp[fm]
set_option maxHeartbeats 1000000 in
theorem Tl (b:Nat)(B:gC)(la:Option Addr)(lc:Nat)(P:bn)(R:ku B P)(hl:B.l.length≤1000)(V:List (Option Addr×Nat×List UInt8))(hV:zY V B.l)(c:dI)(ka:Option Addr)(kc:Nat)(da:Option Addr)(dc:Nat)(mv:Value)(iG:mv.oneCell'=true)(Mz:c.keys.length≤1048576):
  aH acw 49 [.pointer (some ⟨b,0,none⟩), .agg (cy c ka kc da dc mv).toArray] (λh=>dU h ka (eR c.keys)) [ag b 61 (bA B la lc),own la lc 73 8 (aW B.l)]
   (λv H=>∃(B':gC) (m:List (I3×Option Addr×Nat)) (ea:Option Addr) (ec:Nat),ku B' (P.jX c.verb c.keys c.ex).2∧m.map Prod.fst=(P.jX c.verb c.keys c.ex).1.dM∧zY V B'.l∧(∀p∈m,jb V p.2.1 p.1.val)∧B'.l.length=B.l.length∧
    v=lV 9 (.slice ea m.length ec) 0 []∧H= [own ea ec 49 9 (fm m),ag b 61 (bA B' la lc),own la lc 73 8 (aW B'.l)]):=by
 unfold bn.jX;dsimp only;refine ae func49 rfl ntmps49 rfl ?_;intro F hr;refine ay ?_;refine Lp (oB λb1=> ?_);refine Lp (oA T.iu λb2=> ?_);refine aZ ?_;refine Lp (oA T.iu λb3=> ?_);refine a8 ?_;refine au ?_;refine Hh (H':= [ag b 61 (bA B la lc),own la lc 73 8 (aW B.l),ag b1 47 (cy c ka kc da dc mv),ag b2 41 [.int .i64 0,aG, .int .u64 0,aB [],aG],ag b3 41 [.int .i64 9,aG, .int .u64 0,aB [],aG]]) ?_;refine aR ?_;refine aT 49 9 ?_;refine Lo (ι:=Nat×gC×List (I3×Option Addr×Nat)×Option Addr×Nat) [9,10,11,12,13,16,17,18,19,20,21,22,7,23,24,25,26,27,28,29,30,31,32,33,34,35,36,37,38,39,40,41,42,43,44,45,46,47,48,49,50,51,52,53,54,55,56,57,58,59,60,61,62,63,64,65,66,67,68,69,70,71,72,73,74,14,15,6] (λs=>(s.1≤c.keys.length∧s.2.1.l.length=B.l.length∧s.2.2.1.length≤s.1)∧(ku s.2.1 ((c.keys.take s.1).foldl (bn.cL (decide (c.verb=3∨c.verb=4)) c.ex) ([],P)).2∧s.2.2.1.map Prod.fst=((c.keys.take s.1).foldl (bn.cL (decide (c.verb=3∨c.verb=4)) c.ex) ([],P)).1)∧zY V s.2.1.l∧∀p∈s.2.2.1,jb V p.2.1 p.1.val) (λs=> [(6, .int .i64 (s.1:Int))]) (λs=> [ag b 61 (bA s.2.1 la lc),own la lc 73 8 (aW s.2.1.l),ag b1 47 (cy c ka kc da dc mv),ag b2 41 [.int .i64 0,aG, .int .u64 0,aB [],aG],ag b3 41 [.int .i64 9, .slice s.2.2.2.1 s.2.2.1.length s.2.2.2.2, .int .u64 0,aB [],aG],own s.2.2.2.1 s.2.2.2.2 49 9 (fm s.2.2.1)]) (λs=>c.keys.length-s.1) ((0,B,[],none,0)) ⟨⟨acS _,rfl,acG _⟩,⟨R,rfl⟩,hV,λp h=>by cases h⟩ ?_;rintro⟨i,B1,m,ea,ec⟩ hI;dsimp only at hI⊢;obtain⟨⟨hi,Eu,hml⟩,⟨R1,hm⟩,hV1,YQ⟩:=hI;by_cases bX:i<c.keys.length
 ·have uI:=rP c.keys i bX
  have Mw:ka.isSome=true:=by obtain⟨ad,e,_⟩:=hr i _ uI;rw[e];rfl
  have Et:(c.keys.take (i+1)).foldl (bn.cL (decide (c.verb=3∨c.verb=4)) c.ex) ([],P)=bn.cL (decide (c.verb=3∨c.verb=4)) c.ex ((c.keys.take i).foldl (bn.cL (decide (c.verb=3∨c.verb=4)) c.ex) ([],P)) c.keys[i]:=by
   rw[adE,acx bX,List.foldl_append];rfl
  generalize (c.keys.take i).foldl (bn.cL (decide (c.verb=3∨c.verb=4)) c.ex) ([],P)=s1 at*;generalize c.keys[i]=k at*;obtain⟨e0,P1⟩:=s1;dsimp only at R1 hm;have jO:=pf b B1 la lc (by omega) R1.u k;refine cI ?_;refine dz ?_;refine cN ?_;refine Li (Ix T.nR) ?_;refine ay ?_;refine Lp (oC T.yS rfl rfl (jO) .nil (λ_ le aw=>⟨aw.nth 0 rfl,bD (aw.nth 1 rfl)⟩) ?_);rintro v H' ⟨o,rfl,ho,rfl⟩;refine bd ?_;rcases o with _|j
  ·rw[JN R1 ho]at Et
   dsimp only[oI];refine qa ?_;refine az ?_;refine Ro ((i+1,B1,m,ea,ec)) (⟨⟨bX,Eu,ahm hml⟩,(by dsimp only;rw[Et];exact⟨R1,hm⟩),hV1,YQ⟩) ((by dsimp only;omega))
  obtain⟨t,e1,hd,hrd⟩:=R1.read ho (decide (c.verb=3∨c.verb=4)) c.ex;obtain⟨g1,R2⟩:=hrd e0;have TW:jb V t.va t.val:=hV1 t (acB e1);have MV:j<B1.l.length:=(acz.1 e1).1;have sU:=gw B1.l;dsimp only[oI];refine fV (dZ (.there .here) (λ_ o=>fy o (by omega))) λsa=> ?_;have n1:=R1.n1;have n2:=R1.n2;have GK:=wV b B1 la lc n1 n2 c.ex;refine bH ?_;refine cu ?_;refine a8 ?_;refine au ?_;obtain⟨x1,x2,x3,x4,x5⟩:=Iw t (decide (c.verb=3∨c.verb=4)) B1.now c.ex;refine cg (ι:=Unit) [25,26,27,28,29,30,31,32,33,34,35,36,37,38,39,40,41,42,43] (λu=>True) (λu=> []) (λu=> [ag b 61 (bA B1 la lc),own la lc 73 8 (aW (B1.l.set j (t.lx (decide (c.verb=3∨c.verb=4)) B1.now c.ex))),ag b1 47 (cy c ka kc da dc mv),ag b2 41 [.int .i64 0,aG, .int .u64 0,aB [],aG],ag b3 41 [.int .i64 9, .slice ea m.length ec, .int .u64 0,aB [],aG],own ea ec 49 9 (fm m)]) ?_ ?_
  ·by_cases h34:c.verb=3∨c.verb=4
   ·have BZ:(aW B1.l).set (j*8+3) (.int .i64 ((cF B1.now c.ex:Nat):Int))=aW (B1.l.set j (t.lx (decide (c.verb=3∨c.verb=4)) B1.now c.ex)):=kj B1.l j 3 t _ _ e1 (by omega) (by unfold Th.lx;rw[if_pos (decide_eq_true h34)];rfl)
    refine au ?_;refine cg (ι:=Unit) [25,26,27,28,29,30,31,32] (λu=>True) (λu=> [(32, .bool true)]) (λu=> [ag b 61 (bA B1 la lc),own la lc 73 8 (aW B1.l),ag b1 47 (cy c ka kc da dc mv),ag b2 41 [.int .i64 0,aG, .int .u64 0,aB [],aG],ag b3 41 [.int .i64 9, .slice ea m.length ec, .int .u64 0,aB [],aG],own ea ec 49 9 (fm m)]) ?_ ?_
    ·by_cases h3:c.verb=3
     ·refine cC ?_
      refine aR ?_;refine zt 28 ?_ (e:=by exact decide_eq_true h3);refine aR ?_;refine az ?_;refine Me (()) (trivial)
     refine cC ?_;refine aR ?_;refine zf 28 ?_ (e:=by exact decide_eq_false h3);refine aR ?_;refine az ?_;refine ao (t:=32) (v':=(.bool true)) rfl (by exact congrArg Value.bool (decide_eq_true (by omega))) ?_;refine Me (()) (trivial)
    rintro u hI;refine ay ?_;refine gK 9 T.mix (.cons .here (.cons (.there .here) .nil)) λF1 iT cj aI=> ?_;obtain⟨q1,q2,_⟩:=cj;refine aZ ?_
    first
     |refine Ti (Lf T.eD) ?_
     |refine Ti (fB T.eD q1) ?_
     |refine Ti (fB T.eD q2) ?_
    refine aZ ?_
    first
     |refine Ti (Lf T.bR) ?_
     |refine Ti (fB T.bR q1) ?_
     |refine Ti (fB T.bR q2) ?_
    refine Tp (oC T.Cj rfl rfl (GK) .nil (λ_ le _=>In.mono q1 le) ?_);rintro v H' ⟨rfl,rfl⟩;refine bd ?_;refine gd aI ?_;refine Ti (Ix T.fI) ?_;refine Ti (qD T.mJ) ?_;refine Tp (TC T.bR ?_);refine Tn ?_;rw[BZ];refine Me (()) (trivial)
   have BZ:B1.l.set j (t.lx (decide (c.verb=3∨c.verb=4)) B1.now c.ex)=B1.l:=by
    unfold Th.lx;rw[if_neg (by simpa using h34)];exact gW e1
   rw[BZ];refine bc ?_;refine zf 28 ?_;refine bc ?_;refine cu ?_;refine ay ?_;refine Me (()) (trivial)
  rintro u hI;generalize t.lx (decide (c.verb=3∨c.verb=4)) B1.now c.ex=t1 at*;have e2:(B1.l.set j t1)[j]?=some t1:=by rw[ac4,if_pos rfl,if_pos MV]
  have p8:((aW (B1.l.set j t1)).drop (j*8)).take 8=vK t1:=wF _ j t1 e2;have TP:=jo m;have hln2:(aW (B1.l.set j t1)).length=B1.l.length*8:=by rw[gw,acE]
  have s6:(aW (B1.l.set j t1)).set (j*8+6) (.int .i64 (B1.now:Int))=aW (B1.l.set j {t1 with rd:=B1.now}):=by rw[kj _ j 6 t1 {t1 with rd:=B1.now} _ e2 (by omega) rfl,adn]
  have e3:(B1.l.set j {t1 with rd:=B1.now})[j]?=some {t1 with rd:=B1.now}:=by rw[ac4,if_pos rfl,if_pos MV]
  have s7:(aW (B1.l.set j {t1 with rd:=B1.now})).set (j*8+7) (.bool true)=aW (B1.l.set j {t1 with rd:=B1.now,eO:=true}):=by rw[kj _ j 7 {t1 with rd:=B1.now} {t1 with rd:=B1.now,eO:=true} _ e3 (by omega) rfl,adn]
  have eE:fm m++jQ t1.x (.slice t1.va t1.val.length t1.vc)=fm (m++ [(t1.x,t1.va,t1.vc)]):=by rw[LZ,Gs];rfl
  have eB:bA B1 la lc=bA {B1 with l:=B1.l.set j {t1 with rd:=B1.now,eO:=true}} la lc:=by
   unfold bA;dsimp only;rw[acE]
  have eL:m.length+1=(m++ [(t1.x,t1.va,t1.vc)]).length:=by simp
  refine au ?_;refine gK 12 T.mix (.cons .here (.cons .here (.cons (.there (.there .here)) .nil))) λF2 yi ez dX=> ?_;obtain⟨q1,q2,q5,_⟩:=ez;have kr:=bD q2;refine ay ?_
  first
   |refine Ti (Lf T.GY) ?_
   |refine Ti (fB T.GY q1) ?_
   |refine Ti (fB T.GY q5) ?_
  refine aZ ?_
  first
   |refine Ti (Lf T.eD) ?_
   |refine Ti (fB T.eD q1) ?_
   |refine Ti (fB T.eD q5) ?_
  refine ay ?_;refine Ti (Ix T.fI) ?_;refine ay ?_;refine Tp (oC T.Yt rfl rfl (zS t1) .nil (λ_ _ _=>trivial) ?_);rintro v H' ⟨rfl,rfl⟩;refine bd ?_;refine Tp (oT1 T.Hj λb4=> ?_);refine Tp (bF T.Hj T.XS rfl rfl rfl rfl (.there (.there .here)) (jo m) (rfl) (by simp[jQ,Value.oneCell',aB]) (by first|omega|(simp;omega)) (by first|omega|(simp;omega)) rfl λa4 c4 Ul=> ?_);refine gd dX ?_;refine aZ ?_;refine au ?_;refine gT false T.mix ?_;refine cN ?_;refine Ti (Ix T.fI) ?_;refine Ti (qD T.xp) ?_;refine Tp (TC T.bR ?_);refine bH ?_;refine Li (Ix T.fI) ?_;refine Li (qD T.xn) ?_;refine Lp (TC T.UD ?_);refine bH ?_;refine az ?_;rw[s6,s7,eE,eL,eB];have aea:jb V t1.va t1.val:=by rw[x4,x5];exact TW
  refine Ro ((i+1,{B1 with l:=B1.l.set j {t1 with rd:=B1.now,eO:=true}},m++ [(t1.x,t1.va,t1.vc)],a4,c4)) (⟨⟨bX,(by dsimp only;rw[acE];exact Eu),(by dsimp only;rw[←eL];omega)⟩,(by dsimp only;rw[Et,g1];exact⟨R2,(by rw[adq,hm];rfl)⟩),hV1.set aea,(by intro p hp;rcases adw.1 hp with q|q;exact YQ p q;rw[acX]at q;subst q;exact aea)⟩) ((by dsimp only;omega))
 have uR:i=c.keys.length:=by omega
 subst uR;rw[agQ]at R1 hm;refine cI ?_;refine cu ?_;refine bH ?_;refine Lp (eJ T.aS ?_ (h1:=by simp[Value.oneCell',aB,aG]));refine a8 ?_;refine ko [own ea ec 49 9 (fm m),ag b 61 (bA B1 la lc),own la lc 73 8 (aW B1.l)] T.aS results49 ?_;exact⟨B1,m,ea,ec,R1,hm,hV1,YQ,Eu,rfl,rfl⟩
def jg (b n0:Nat)(r:ff×bn)(v:Value)(H:List aa):Prop:=∃(B':gC) (qy:Option Addr) (qx:Nat) (V':List (Option Addr×Nat×List UInt8)) (m:List (I3×Option Addr×Nat)) (ea:Option Addr) (ec:Nat),
 (ku B' r.2∧zY V' B'.l∧B'.l.length≤n0)∧(m.map Prod.fst=r.1.dM∧∀p∈m,jb V' p.2.1 p.1.val)∧v=lV r.1.kind (.slice ea m.length ec) r.1.num r.1.sQ∧
  H= [own ea ec 49 9 (fm m),ag b 61 (bA B' qy qx),own qy qx 73 8 (aW B'.l),bf V']
theorem jg.plain{b n0:Nat}{r:ff×bn}{B':gC}{qy:Option Addr}{qx:Nat}{V':List (Option Addr×Nat×List UInt8)}(R:ku B' r.2)(hV:zY V' B'.l)(hn:B'.l.length≤n0)(he:r.1.dM= []):
  jg b n0 r (lV r.1.kind aG r.1.num r.1.sQ) [own none 0 49 9 [],ag b 61 (bA B' qy qx),own qy qx 73 8 (aW B'.l),bf V']:=
 ⟨B',qy,qx,V',[],none,0,⟨R,hV,hn⟩,⟨he.symm,λp h=>by cases h⟩,rfl,rfl⟩
theorem zO{sl:List Nat}{n c:Nat}(h:sl.findIdx? (λz=>decide (n≤z))=some c):sl[nX sl n]?=some (ny sl n):=by
 have e:nX sl n=c:=by unfold nX;rw[h];rfl
 rw[e];obtain⟨hl,h1,h2⟩:=List.findIdx?_eq_some_iff_getElem.1 h;have h1:=of_decide_eq_true h1;rw[acx hl,zP (λj w hj hw=> ?_) (acx hl) h1];obtain⟨a,rfl⟩:=acz.1 hw;have:=h2 j hj
 simpa using this
theorem mR{V:List (Option Addr×Nat×List UInt8)}{a:Option Addr}{c:Nat}{x:List UInt8}{H:List aa}{h:Hp}(s:ak (own a c 5 1 (ai x)::bf V::H) h):ak (bf (V++ [(a,c,x)])::H) h:=by
 unfold bf at*;rw[adq];exact xO s
theorem jb.app{V:List (Option Addr×Nat×List UInt8)}{a:Option Addr}{x:List UInt8}(h:jb V a x)(W:List (Option Addr×Nat×List UInt8)):jb (V++W) a x:=by
 obtain⟨c,hc⟩:=h;exact⟨c,List.mem_append_left _ hc⟩
theorem jb.last (V:List (Option Addr×Nat×List UInt8))(a:Option Addr)(c:Nat)(x:List UInt8):jb (V++ [(a,c,x)]) a x:=⟨c,List.mem_append_right _ List.mem_cons_self⟩
theorem zY.put{V:List (Option Addr×Nat×List UInt8)}{B:gC}(h:zY V B.l)(t:Th)(sl:List Nat)(c:Nat):zY (V++ [(t.va,c,t.val)]) (B.put t sl).l:=λs hs=>by
 rcases adw.1 hs with g|g
 ·exact(h s (iD.1 g).1).app _
 rw[acX]at g;subst g;exact jb.last V t.va c t.val
theorem AW (B:gC)(t:Th)(sl:List Nat):(B.put t sl).l.length≤B.l.length+1:=by
 unfold gC.put;have:=mW B.l t.key;simp;omega
theorem ku.lays{B:gC}{P:bn}(R:ku B P)(F:P.Fits){k:List UInt8}(oh:k.length≤250){x:List UInt8×Nat×Nat}(hx:((58+k.length+x.1.length:Nat):Int)≤P.c.lim)(va:Option Addr)(vc:Nat)(ov:Bool):
  ∃P',P.lays lh k ov x=(.k 1,P')∧ku (B.put ⟨k,x.1,va,vc,x.2.1,x.2.2,0,0,0,false⟩ P.z) P':=by
 obtain⟨c,hc⟩:=F _ hx;refine⟨_,rfl, ?_⟩;have:=R.put ⟨k,x.1,va,vc,x.2.1,x.2.2,0,0,0,false⟩ oh P.z (c:=nX P.z (58+k.length+x.1.length)) (by
  rw[zO hc];unfold Th.lay;dsimp only;rw[if_pos (by omega)])
 unfold bn.rm lh;dsimp only;rw[R.now,R.aM]at*;exact this
theorem ku.over{B:gC}{P:bn}(R:ku B P)(k:List UInt8):ku (B.drop k) (P.over k true):=R.drop k
theorem zY.drop{V:List (Option Addr×Nat×List UInt8)}{B:gC}(h:zY V B.l)(k:List UInt8):zY V (B.drop k).l:=λs hs=>h s (iD.1 hs).1
theorem js (verb:Int)(vZ:Nat):qq verb vZ none=if verb=6 then 0 else if verb=7∨verb=8∨verb=9 then 2 else if verb=10 then 4 else 0:=rfl
theorem jr (verb:Int)(vZ:Nat)(x:I3×Nat):qq verb vZ (some x)=if verb=6 then 2 else if verb=7∨verb=8∨verb=9 then 0 else if verb=10 then(if x.1.tok=vZ then 0 else 3)else 0:=rfl
set_option maxHeartbeats 2000000 in
theorem GB (b:Nat)(B:gC)(la:Option Addr)(lc:Nat)(P:bn)(R:ku B P)(F:P.Fits)(hl:B.l.length≤999)(hi:B.aM<1000000000)(V:List (Option Addr×Nat×List UInt8))(hV:zY V B.l)(IU:∀t∈B.l,¬B.dead t→t.val.length≤1048576)(c:dI)(ka:Option Addr)(kc:Nat)(da:Option Addr)(dc:Nat)(mv:Value)(iG:mv.oneCell'=true)
  (k:List UInt8) (r:List (List UInt8)) (jP:c.keys=k::r) (oh:k.length≤250) (hdn:c.data.length≤1048576) (hv:5≤c.verb∧c.verb≤10) (sa:Option Addr) (sc:Nat) (hz:P.z.length≤1000) (vY:P.c.lim≤1048576):
  aH acw 50 [.pointer (some ⟨b,0,none⟩), .agg (cy c ka kc da dc mv).toArray, .int .i64 P.c.lim, .slice sa P.z.length sc] (λh=>dU h ka (eR c.keys)∧dU h da (ai c.data)∧dU h sa (aV P.z)) [ag b 61 (bA B la lc),own la lc 73 8 (aW B.l),bf V]
   (λv H=>jg b (B.l.length+1) (P.cU lh c k) v H):=by
 have jO:=pf b B la lc (by omega) R.u k;have TU:=xE b B la lc (by omega) k;have n1:=R.n1;have n2:=R.n2;have GK:=wV b B la lc n1 n2 c.ex;have hj0:=tO da none c.data [] dc 0 (by omega) (acS _);simp only[agu]at hj0;have h0:P.cU lh c k=if c.lg=true∨P.c.lim<58+k.length+c.data.length then(.t bM,P.over k (tX c.verb))else if qq c.verb c.tok (P.f k)≠0 then(.k (qq c.verb c.tok (P.f k)),P)else match P.mm c k (P.f k)with
  |none=>(.t bM,P)
  |some x=>P.lays lh k (tX c.verb) x:=rfl
 refine ae func50 rfl ntmps50 rfl ?_;rintro F' ⟨hr,hd,hs⟩;have uI:(eR c.keys)[0]?=some (aB k):=by rw[jP];rfl
 have Mw:ka.isSome=true:=by obtain⟨ad,e,_⟩:=hr 0 _ uI;rw[e];rfl
 have yq:c.keys.length=r.length+1:=by rw[jP];rfl
 refine ay ?_;refine Lp (oB λb1=> ?_);refine Lp (oA T.iu λb2=> ?_);refine ay ?_;refine Hh (H':= [ag b 61 (bA B la lc),own la lc 73 8 (aW B.l),bf V,ag b1 47 (cy c ka kc da dc mv),ag b2 41 [.int .i64 0,aG, .int .u64 0,aB [],aG]]) ?_;refine aZ ?_;refine Li (Ix (j:=0) T.nR) ?_;refine bB ?_;refine Lp (oC T.yS rfl rfl (jO) .nil (λ_ le aw=>⟨aw.nth 0 rfl,bD (aw.nth 1 rfl)⟩) ?_);rintro v H' ⟨o,rfl,ho,rfl⟩;refine bd ?_;refine a8 ?_;refine au ?_;refine cg (ι:=Unit) [20,21,22,23,24,25,26,27,11] (λu=>True) (λu=> [(11, .bool (decide (c.verb=8∨c.verb=9)))]) (λu=> [ag b 61 (bA B la lc),own la lc 73 8 (aW B.l),bf V,ag b1 47 (cy c ka kc da dc mv),ag b2 41 [.int .i64 0,aG, .int .u64 0,aB [],aG]]) ?_ ?_
 ·by_cases h8:c.verb=8
  ·refine cC ?_
   refine aR ?_;refine zt 23 ?_ (e:=by exact decide_eq_true h8);refine bc ?_;refine az ?_;refine ao (t:=11) (v':=(.bool (decide (c.verb=8∨c.verb=9)))) rfl (by exact congrArg Value.bool (decide_eq_true (.inl h8)).symm) ?_;refine Me (()) (trivial)
  refine cC ?_;refine aR ?_;refine zf 23 ?_ (e:=by exact decide_eq_false h8);refine bc ?_;refine az ?_;refine ao (t:=11) (v':=(.bool (decide (c.verb=8∨c.verb=9)))) rfl (by exact congrArg Value.bool (decide_eq_decide.2 (by omega))) ?_;refine Me (()) (trivial)
 rintro u hI;by_cases qd:c.lg=true∨P.c.lim<58+k.length+c.data.length
 ·rw[if_pos qd]at h0
  rw[h0];refine ay ?_;refine au ?_;refine cg (ι:=Unit) [28,29,30,31,32,33,34,35,36,37,38,39,40] (λu=>True) (λu=> [(40, .bool true)]) (λu=> [ag b 61 (bA B la lc),own la lc 73 8 (aW B.l),bf V,ag b1 47 (cy c ka kc da dc mv),ag b2 41 [.int .i64 0,aG, .int .u64 0,aB [],aG]]) ?_ ?_
  ·by_cases D4:c.lg=true
   ·refine cC ?_
    refine aZ ?_;refine zt 30 ?_ (e:=by exact D4);refine bw ?_;refine az ?_;refine Me (()) (trivial)
   refine cC ?_;refine aZ ?_;refine zf 30 ?_ (e:=by exact(by simpa using D4));refine ay ?_;refine Li (Ls T.kk) ?_;refine cI ?_;refine az ?_;have bS:=qd.resolve_left D4;refine ao (t:=40) (v':=(.bool true)) rfl (by exact congrArg Value.bool (decide_eq_true (by omega))) ?_;refine Me (()) (trivial)
  rintro u hI;by_cases hb:c.verb=8∨c.verb=9
  ·have Uf:tX c.verb=false:=by unfold tX;exact decide_eq_false (by omega)
   rw[Uf];refine bB ?_;refine cu ?_ (e:=by exact(by simp[hb]));refine aZ ?_;refine zl T.wx (ik bM) .nil (λ_ _ _=>trivial) ?_;refine Lp (eJ T.aS ?_ (h1:=by simp[dG,Value.oneCell',aB,aG]));refine aZ ?_;refine aT 49 9 ?_;refine ko [own none 0 49 9 [],ag b 61 (bA B la lc),own la lc 73 8 (aW B.l),bf V] T.aS results50 ?_;exact jg.plain (r:=(.t bM,P.over k false)) R hV (by omega) rfl
  have Uf:tX c.verb=true:=by unfold tX;exact decide_eq_true (by omega)
  rw[Uf];refine bB ?_;refine dz ?_ (e:=by exact(by simp[hb]));refine aZ ?_;refine Lp (oC T.NH rfl rfl (TU) (.cons .here (.cons .here .nil)) (λ_ _ _=>trivial) ?_);rintro v H' ⟨oe,oc,rfl⟩;refine bd ?_;refine a8 ?_;refine zl T.wx (ik bM) .nil (λ_ _ _=>trivial) ?_;refine Lp (eJ T.aS ?_ (h1:=by simp[dG,Value.oneCell',aB,aG]));refine aZ ?_;refine aT 49 9 ?_;refine ko [own none 0 49 9 [],ag b 61 (bA (B.drop k) oe oc),own oe oc 73 8 (aW (B.drop k).l),bf V] T.aS results50 ?_;exact jg.plain (r:=(.t bM,P.over k true)) (R.over k) (hV.drop k) (agC (mW _ _) (by omega)) rfl
 rw[if_neg qd]at h0;have D4:c.lg=false:=by
  cases h:c.lg
  ·rfl
  exact absurd (.inl h) qd
 have yr:¬P.c.lim<58+k.length+c.data.length:=λh=>qd (.inr h);refine bc ?_;refine zf 30 ?_ (e:=by exact D4);refine ay ?_;refine Li (Ls T.kk) ?_;refine cN ?_;refine cu ?_;refine a8 ?_;refine au ?_;refine cg (ι:=Option Addr×Nat×Nat) [47,48,49,50,51,52,53,54,55,56,57,12] (λ(a1,c1,tb)=>True) (λ(a1,c1,tb)=> [(12, .pointer (some ⟨tb,0,none⟩))]) (λ(a1,c1,tb)=> [ag b 61 (bA B la lc),own la lc 73 8 (aW B.l),bf V,ag b1 47 (cy c ka kc da dc mv),ag b2 41 [.int .i64 0,aG, .int .u64 0,aB [],aG],ag tb 73 (vK ⟨k,c.data,a1,c1,c.fl,cF B.now c.ex,0,0,0,false⟩),own a1 c1 5 1 (ai c.data)]) ?_ ?_
 ·refine wu T.mix (.cons .here (.cons (.there (.there .here)) .nil)) λF1 iT cj aI=> ?_
  obtain⟨q1,q4,_⟩:=cj;refine Dt 0 rfl Mv ?_;refine Dt 1 rfl (Fa T.xr) ?_
  first
   |refine Dt 2 rfl (Lf T.iw) ?_
   |refine Dt 2 rfl (fB T.iw q1) ?_
   |refine Dt 2 rfl (fB T.iw q4) ?_
  refine Dt 4 rfl (Fa T.xv) ?_
  first
   |refine Dt 5 rfl (Lf T.jC) ?_
   |refine Dt 5 rfl (fB T.jC q1) ?_
   |refine Dt 5 rfl (fB T.jC q4) ?_
  refine Dt 6 rfl Mv ?_;refine Dt 7 rfl (Fa T.xu) ?_
  first
   |refine Dt 8 rfl (Lf T.bR) ?_
   |refine Dt 8 rfl (fB T.bR q1) ?_
   |refine Dt 8 rfl (fB T.bR q4) ?_
  refine D2 3 11 ?_ ?_
  ·refine Do rfl (oC T.G8 rfl rfl (hj0) .nil ((λ_ le _=>⟨hd.mono (iT.trans le),dU.nil⟩)) ?_)
   rintro v H' ⟨a1,c1,IX,rfl,rfl⟩;refine bd ?_;refine ay ?_;refine D2 9 11 ?_ ?_
   ·refine Do rfl (oC T.Cj rfl rfl (GK) .nil ((λ_ le _=>In.mono q1 le)) ?_)
    rintro v H' ⟨rfl,rfl⟩;refine bd ?_;refine ay ?_;refine Dt 10 rfl (Bd T.wg T.Nq) ?_;refine Dn 11 ?_;refine Do rfl (oA T.wg λb3=> ?_);refine ay ?_;refine Dn 12 ?_;refine Do rfl (eJ T.Cp ?_ (h1:=by simp[bU,Value.cells,Value.oneCell',aB]));refine ay ?_;refine bC (by kernel_rfl) aI ?_;refine Me ((a1,c1,b3)) (trivial)
   refine Do rfl (oA T.wg λb4=> ?_);refine ay ?_;refine Dn 9 ?_;refine Do rfl (oC T.Cj rfl rfl (GK) .nil ((λ_ le _=>In.mono q1 le)) ?_);rintro v H' ⟨rfl,rfl⟩;refine bd ?_;refine ay ?_;refine Dt 10 rfl (Bd T.wg T.Nq) ?_;refine Dn 12 ?_;refine Do rfl (eJ T.Cp ?_ (h1:=by simp[bU,Value.cells,Value.oneCell',aB]));refine ay ?_;refine bC (by kernel_rfl) aI ?_;refine Me ((a1,c1,b4)) (trivial)
  refine Do rfl (oA T.wg λb5=> ?_);refine ay ?_;refine Dn 3 ?_;refine Do rfl (oC T.G8 rfl rfl (hj0) .nil ((λ_ le _=>⟨hd.mono (iT.trans le),dU.nil⟩)) ?_);rintro v H' ⟨a1,c1,IX,rfl,rfl⟩;refine bd ?_;refine ay ?_;refine Dn 9 ?_;refine Do rfl (oC T.Cj rfl rfl (GK) .nil ((λ_ le _=>In.mono q1 le)) ?_);rintro v H' ⟨rfl,rfl⟩;refine bd ?_;refine ay ?_;refine Dt 10 rfl (Bd T.wg T.Nq) ?_;refine Dn 12 ?_;refine Do rfl (eJ T.Cp ?_ (h1:=by simp[bU,Value.cells,Value.oneCell',aB]));refine ay ?_;refine bC (by kernel_rfl) aI ?_;refine Me ((a1,c1,b5)) (trivial)
 rintro⟨a1,c1,tb⟩ hI
 try dsimp only at hI⊢
 have L:∀n:Nat,qq c.verb c.tok (P.f k)=n→n≠0→jg b (B.l.length+1) (P.cU lh c k) (lV n aG 0 []) [own none 0 49 9 [],ag b 61 (bA B la lc),own la lc 73 8 (aW B.l),bf V]:=λn h hn=>by
  rw[h0,if_pos (by rw[h];exact hn),h];exact jg.plain (r:=(.k n,P)) R hV (by omega) rfl
 refine au ?_;refine cg (ι:=Unit) [59,60,61,62,63,64,65,58,66,67,68,69,70,71,72,73,74,75,76,78,79,80,81,82,83,84,77,85,87,88,89,90,91,92,93,94,95,96,97,98,99,100,101,102,86,103] (λu=>qq c.verb c.tok (P.f k)=0) (λu=> []) (λu=> [ag b 61 (bA B la lc),own la lc 73 8 (aW B.l),bf V,ag b1 47 (cy c ka kc da dc mv),ag b2 41 [.int .i64 0,aG, .int .u64 0,aB [],aG],ag tb 73 (vK ⟨k,c.data,a1,c1,c.fl,cF B.now c.ex,0,0,0,false⟩),own a1 c1 5 1 (ai c.data)]) ?_ ?_
 ·have h6:c.verb=5∨c.verb=6∨c.verb=7∨(c.verb=8∨c.verb=9)∨c.verb=10:=by omega
  rcases o with _|j
  ·have hf:=R.I8 ho
   dsimp only[oI];rcases h6 with h6|h6|h6|h6|h6
   ·refine fh ?_
    refine bB ?_;refine zf 62 ?_ (e:=by first|rfl|exact decide_eq_true (by omega)|exact decide_eq_false (by omega));refine bK ?_;refine zf 69 ?_ (e:=by first|rfl|exact decide_eq_true (by omega)|exact decide_eq_false (by omega));refine aZ ?_;refine zf 72 ?_ (e:=by first|rfl|exact decide_eq_true (by omega)|exact decide_eq_false (by omega));refine bK ?_;refine zf 81 ?_ (e:=by first|rfl|exact decide_eq_true (by omega)|exact decide_eq_false (by omega));refine bB ?_;refine au ?_;refine gT false T.mix ?_;refine aR ?_;refine zf 90 ?_ (e:=by first|rfl|exact decide_eq_true (by omega)|exact decide_eq_false (by omega));refine kx ?_;refine Me (()) ((by rw[hf,js];(repeat' split)<;>first|rfl|(exfalso;omega)))
   ·refine fh ?_
    refine bB ?_;refine zt 62 ?_ (e:=by first|rfl|exact decide_eq_true (by omega)|exact decide_eq_false (by omega));refine bc ?_;refine cu ?_ (e:=by first|rfl|exact decide_eq_true (by omega)|exact decide_eq_false (by omega));refine bc ?_;refine zf 69 ?_ (e:=by first|rfl|exact decide_eq_true (by omega)|exact decide_eq_false (by omega));refine aZ ?_;refine zf 72 ?_ (e:=by first|rfl|exact decide_eq_true (by omega)|exact decide_eq_false (by omega));refine bK ?_;refine zf 81 ?_ (e:=by first|rfl|exact decide_eq_true (by omega)|exact decide_eq_false (by omega));refine bB ?_;refine au ?_;refine gT false T.mix ?_;refine aR ?_;refine zf 90 ?_ (e:=by first|rfl|exact decide_eq_true (by omega)|exact decide_eq_false (by omega));refine kx ?_;refine Me (()) ((by rw[hf,js];(repeat' split)<;>first|rfl|(exfalso;omega)))
   ·refine fh ?_
    refine bB ?_;refine zf 62 ?_ (e:=by first|rfl|exact decide_eq_true (by omega)|exact decide_eq_false (by omega));refine bK ?_;refine zt 69 ?_ (e:=by first|rfl|exact decide_eq_true (by omega)|exact decide_eq_false (by omega));refine cI ?_;refine dz ?_ (e:=by first|rfl|exact decide_eq_true (by omega)|exact decide_eq_false (by omega));refine a8 ?_;refine Lp (eJ T.aS ?_ (h1:=by simp[bU,Value.cells,Value.oneCell',aB]));refine aR ?_;refine aT 49 9 ?_;refine ko [own none 0 49 9 [],ag b 61 (bA B la lc),own la lc 73 8 (aW B.l),bf V] T.aS results50 ?_;exact L 2 (by rw[hf,js];(repeat' split)<;>first|rfl|(exfalso;omega)) (by decide)
   ·refine fh ?_
    refine bB ?_;refine zf 62 ?_ (e:=by first|rfl|exact decide_eq_true (by omega)|exact decide_eq_false (by omega));refine bK ?_;refine zf 69 ?_ (e:=by first|rfl|exact decide_eq_true (by omega)|exact decide_eq_false (by omega));refine aZ ?_;refine zt 72 ?_ (e:=by first|rfl|exact decide_eq_true (by omega)|exact decide_eq_false (by omega));refine bc ?_;refine dz ?_ (e:=by first|rfl|exact decide_eq_true (by omega)|exact decide_eq_false (by omega));refine a8 ?_;refine Lp (eJ T.aS ?_ (h1:=by simp[bU,Value.cells,Value.oneCell',aB]));refine aR ?_;refine aT 49 9 ?_;refine ko [own none 0 49 9 [],ag b 61 (bA B la lc),own la lc 73 8 (aW B.l),bf V] T.aS results50 ?_;exact L 2 (by rw[hf,js];(repeat' split)<;>first|rfl|(exfalso;omega)) (by decide)
   refine fh ?_;refine bB ?_;refine zf 62 ?_ (e:=by first|rfl|exact decide_eq_true (by omega)|exact decide_eq_false (by omega));refine bK ?_;refine zf 69 ?_ (e:=by first|rfl|exact decide_eq_true (by omega)|exact decide_eq_false (by omega));refine aZ ?_;refine zf 72 ?_ (e:=by first|rfl|exact decide_eq_true (by omega)|exact decide_eq_false (by omega));refine bK ?_;refine zt 81 ?_ (e:=by first|rfl|exact decide_eq_true (by omega)|exact decide_eq_false (by omega));refine bc ?_;refine dz ?_ (e:=by first|rfl|exact decide_eq_true (by omega)|exact decide_eq_false (by omega));refine a8 ?_;refine Lp (eJ T.aS ?_ (h1:=by simp[bU,Value.cells,Value.oneCell',aB]));refine aR ?_;refine aT 49 9 ?_;refine ko [own none 0 49 9 [],ag b 61 (bA B la lc),own la lc 73 8 (aW B.l),bf V] T.aS results50 ?_;exact L 4 (by rw[hf,js];(repeat' split)<;>first|rfl|(exfalso;omega)) (by decide)
  obtain⟨t,cc,e1,hk,GO,hf,Xk⟩:=R.EC ho;have MV:j<B.l.length:=(acz.1 e1).1;have sU:=gw B.l;have p4:(aW B.l)[j*8+4]?=some (.int .u64 (t.tok:Int)):=j7 _ j t e1 4 (by omega);have hxt:t.x.tok=t.tok:=rfl;refine fV (dZ (.there .here) (λ_ o=>fy o (by omega))) λsla=> ?_;dsimp only[oI];rcases h6 with h6|h6|h6|h6|h6
  ·refine fh ?_
   refine bB ?_;refine zf 62 ?_ (e:=by first|rfl|exact decide_eq_true (by omega)|exact decide_eq_false (by omega));refine bK ?_;refine zf 69 ?_ (e:=by first|rfl|exact decide_eq_true (by omega)|exact decide_eq_false (by omega));refine aZ ?_;refine zf 72 ?_ (e:=by first|rfl|exact decide_eq_true (by omega)|exact decide_eq_false (by omega));refine bK ?_;refine zf 81 ?_ (e:=by first|rfl|exact decide_eq_true (by omega)|exact decide_eq_false (by omega));refine bB ?_;refine au ?_;refine gT false T.mix ?_;refine aR ?_;refine zf 90 ?_ (e:=by first|rfl|exact decide_eq_true (by omega)|exact decide_eq_false (by omega));refine kx ?_;refine Me (()) ((by rw[hf,jr];dsimp only;(repeat' split)<;>first|rfl|(exfalso;omega)))
  ·refine fh ?_
   refine bB ?_;refine zt 62 ?_ (e:=by first|rfl|exact decide_eq_true (by omega)|exact decide_eq_false (by omega));refine bc ?_;refine dz ?_ (e:=by first|rfl|exact decide_eq_true (by omega)|exact decide_eq_false (by omega));refine a8 ?_;refine dz ?_ (e:=by first|rfl|exact decide_eq_true (by omega)|exact decide_eq_false (by omega));refine a8 ?_;refine Lp (eJ T.aS ?_ (h1:=by simp[bU,Value.cells,Value.oneCell',aB]));refine aR ?_;refine aT 49 9 ?_;refine ko [own none 0 49 9 [],ag b 61 (bA B la lc),own la lc 73 8 (aW B.l),bf V] T.aS results50 ?_;exact L 2 (by rw[hf,jr];dsimp only;(repeat' split)<;>first|rfl|(exfalso;omega)) (by decide)
  ·refine fh ?_
   refine bB ?_;refine zf 62 ?_ (e:=by first|rfl|exact decide_eq_true (by omega)|exact decide_eq_false (by omega));refine bK ?_;refine zt 69 ?_ (e:=by first|rfl|exact decide_eq_true (by omega)|exact decide_eq_false (by omega));refine cI ?_;refine cu ?_ (e:=by first|rfl|exact decide_eq_true (by omega)|exact decide_eq_false (by omega));refine bc ?_;refine zf 81 ?_ (e:=by first|rfl|exact decide_eq_true (by omega)|exact decide_eq_false (by omega));refine bB ?_;refine au ?_;refine gT false T.mix ?_;refine aR ?_;refine zf 90 ?_ (e:=by first|rfl|exact decide_eq_true (by omega)|exact decide_eq_false (by omega));refine kx ?_;refine Me (()) ((by rw[hf,jr];dsimp only;(repeat' split)<;>first|rfl|(exfalso;omega)))
  ·refine fh ?_
   refine bB ?_;refine zf 62 ?_ (e:=by first|rfl|exact decide_eq_true (by omega)|exact decide_eq_false (by omega));refine bK ?_;refine zf 69 ?_ (e:=by first|rfl|exact decide_eq_true (by omega)|exact decide_eq_false (by omega));refine aZ ?_;refine zt 72 ?_ (e:=by first|rfl|exact decide_eq_true (by omega)|exact decide_eq_false (by omega));refine bc ?_;refine cu ?_ (e:=by first|rfl|exact decide_eq_true (by omega)|exact decide_eq_false (by omega));refine bc ?_;refine zf 81 ?_ (e:=by first|rfl|exact decide_eq_true (by omega)|exact decide_eq_false (by omega));refine bB ?_;refine au ?_;refine gT false T.mix ?_;refine aR ?_;refine zf 90 ?_ (e:=by first|rfl|exact decide_eq_true (by omega)|exact decide_eq_false (by omega));refine kx ?_;refine Me (()) ((by rw[hf,jr];dsimp only;(repeat' split)<;>first|rfl|(exfalso;omega)))
  refine fh ?_;refine bB ?_;refine zf 62 ?_ (e:=by first|rfl|exact decide_eq_true (by omega)|exact decide_eq_false (by omega));refine bK ?_;refine zf 69 ?_ (e:=by first|rfl|exact decide_eq_true (by omega)|exact decide_eq_false (by omega));refine aZ ?_;refine zf 72 ?_ (e:=by first|rfl|exact decide_eq_true (by omega)|exact decide_eq_false (by omega));refine bK ?_;refine zt 81 ?_ (e:=by first|rfl|exact decide_eq_true (by omega)|exact decide_eq_false (by omega));refine bc ?_;refine cu ?_ (e:=by first|rfl|exact decide_eq_true (by omega)|exact decide_eq_false (by omega));refine au ?_;refine gT false T.mix ?_;refine aR ?_;refine zt 90 ?_ (e:=by first|rfl|exact decide_eq_true (by omega)|exact decide_eq_false (by omega));refine bc ?_;refine Ti (Ix T.fI) ?_;refine Ti (qD T.so) ?_;refine bH ?_;by_cases Ej:t.tok=c.tok
  ·refine cu ?_ (e:=by exact(by simp[Ej]))
   refine a8 ?_;refine Me (()) ((by rw[hf,jr];dsimp only;(repeat' split)<;>first|rfl|(exfalso;omega)))
  refine dz ?_ (e:=by exact(by simp;omega));refine a8 ?_;refine Lp (eJ T.aS ?_ (h1:=by simp[bU,Value.cells,Value.oneCell',aB]));refine aR ?_;refine aT 49 9 ?_;refine ko [own none 0 49 9 [],ag b 61 (bA B la lc),own la lc 73 8 (aW B.l),bf V] T.aS results50 ?_;exact L 3 (by rw[hf,jr];dsimp only;(repeat' split)<;>first|rfl|(exfalso;omega)) (by decide)
 rintro u has;rw[if_neg (by simp[has])]at h0;have fin:∀x:List UInt8×Nat×Nat,P.mm c k (P.f k)=some x→((58+k.length+x.1.length:Nat):Int)≤P.c.lim→∀(va:Option Addr) (vc vcc:Nat),∀(oe:Option Addr) (oc:Nat),jg b (B.l.length+1) (P.cU lh c k) (lV 1 aG 0 []) [own none 0 49 9 [],ag b 61 (bA (B.put ⟨k,x.1,va,vc,x.2.1,x.2.2,0,0,0,false⟩ P.z) oe oc),own oe oc 73 8 (aW (B.put ⟨k,x.1,va,vc,x.2.1,x.2.2,0,0,0,false⟩ P.z).l),bf (V++ [(va,vcc,x.1)])]:=λx hx hl va vc vcc oe oc=>by
  obtain⟨P',e,R'⟩:=R.lays F oh hl va vc (tX c.verb);rw[h0,hx];dsimp only;rw[e];exact jg.plain (r:=(.k 1,P')) R' (hV.put ⟨k,x.1,va,vc,x.2.1,x.2.2,0,0,0,false⟩ P.z vcc) (AW ..) rfl
 by_cases hb:c.verb=8∨c.verb=9
 ·refine au ?_
  refine aZ ?_;refine dz ?_ (e:=by exact decide_eq_true hb);rcases o with _|j
  ·exfalso
   rw[R.I8 ho,js,if_neg (by omega),if_pos (by omega)]at has;cases has
  obtain⟨t,cc,e1,hk,GO,hf,Xk⟩:=R.EC ho;have MV:j<B.l.length:=(acz.1 e1).1;have sU:=gw B.l;have p1:(aW B.l)[j*8+1]?=some (.slice t.va t.val.length t.vc):=j7 _ j t e1 1 (by omega);have p2:(aW B.l)[j*8+2]?=some (.int .u64 (t.fl:Int)):=j7 _ j t e1 2 (by omega);have p3:(aW B.l)[j*8+3]?=some (.int .i64 (t.exp:Int)):=j7 _ j t e1 3 (by omega);have TW:jb V t.va t.val:=hV t (acB e1);have htv:=IU t (acB e1) GO;have hjA:=tO t.va da t.val c.data t.vc dc (by omega) (by omega);have hjB:=tO da t.va c.data t.val dc t.vc (by omega) (by omega);have BN:P.mm c k (P.f k)=if P.c.lim<58+k.length+c.data.length+t.val.length then none else some (if c.verb=8 then t.val++c.data else c.data++t.val,t.fl,t.exp):=by
   unfold bn.mm;rw[if_neg (show¬tX c.verb=true by unfold tX;simp;omega),hf];rfl
  refine fV (dZ (.there .here) (λ_ o=>fy o (by omega))) λsla=> ?_;dsimp only[oI];refine Hh (H':= [ag b 61 (bA B la lc),own la lc 73 8 (aW B.l),bf V,ag b1 47 (cy c ka kc da dc mv),ag b2 41 [.int .i64 0,aG, .int .u64 0,aB [],aG],ag tb 73 [aB k, .slice a1 (c.data).length c1, .int .u64 (c.fl:Int), .int .i64 ((cF B.now c.ex:Nat):Int), .int .u64 0, .int .i64 0, .int .i64 0, .bool false]]) ?_;refine bB ?_;refine Li (Ix T.fI) ?_;refine Li (qD T.Da) ?_;refine bw ?_;refine Li (Ix T.fI) ?_;refine Li (qD T.mJ) ?_;refine aR ?_;refine Hh (H':= [ag b 61 (bA B la lc),own la lc 73 8 (aW B.l),bf V,ag b1 47 (cy c ka kc da dc mv),ag b2 41 [.int .i64 0,aG, .int .u64 0,aB [],aG],ag tb 73 [aB k, .slice a1 (c.data).length c1, .int .u64 (t.fl:Int), .int .i64 (t.exp:Int), .int .u64 0, .int .i64 0, .int .i64 0, .bool false]]) ?_;refine au ?_;refine gK 11 T.mix (.cons .here (.cons .here (.cons (.there .here) .nil))) λF2 yi ez dX=> ?_;obtain⟨q1,q2,q4,_⟩:=ez;have kr:=bD q2;refine aZ ?_
  first
   |refine Ti (Lf T.eD) ?_
   |refine Ti (fB T.eD q1) ?_
   |refine Ti (fB T.eD q4) ?_
  refine ay ?_;refine Ti (Ix T.fI) ?_;refine Ti (qD T.xq) ?_
  first
   |refine Ti (Lf T.iw) ?_
   |refine Ti (fB T.iw q1) ?_
   |refine Ti (fB T.iw q4) ?_
  refine ay ?_
  first
   |refine Ti (Lf T.iw) ?_
   |refine Ti (fB T.iw q1) ?_
   |refine Ti (fB T.iw q4) ?_
  refine Tp (oC T.G8 rfl rfl (hjA) .nil (λ_ le aw=>⟨rR (aw.nth 0 rfl) TW,hd.mono (Le.trans yi le)⟩) ?_);rintro v H' ⟨a2,c2,ow,rfl,rfl⟩;refine bd ?_;refine gd dX ?_;refine cN ?_;refine Hh (H':= [own a2 c2 5 1 (ai (t.val++c.data)),ag b 61 (bA B la lc),own la lc 73 8 (aW B.l),bf V,ag b1 47 (cy c ka kc da dc mv),ag b2 41 [.int .i64 0,aG, .int .u64 0,aB [],aG],ag tb 73 [aB k, .slice a2 (t.val++c.data).length c2, .int .u64 (t.fl:Int), .int .i64 (t.exp:Int), .int .u64 0, .int .i64 0, .int .i64 0, .bool false]]) ?_;by_cases h8:c.verb=8
  ·refine cu ?_
   have hxl:(t.val++c.data).length=c.data.length+t.val.length:=by simp[aix]
   by_cases hbg:P.c.lim<58+k.length+c.data.length+t.val.length
   ·rw[if_pos hbg]at BN
    refine aR ?_;refine Li (Ls T.kk) ?_;refine cI ?_;refine dz ?_;refine ay ?_;refine zl T.wx (ik bM) .nil (λ_ _ _=>trivial) ?_;refine Lp (eJ T.aS ?_ (h1:=by simp[bU,Value.cells,dG,Value.oneCell',aB,aG]));refine aZ ?_;refine aT 49 9 ?_;refine ko [own none 0 49 9 [],ag b 61 (bA B la lc),own la lc 73 8 (aW B.l),bf V] T.aS results50 ?_;rw[h0,BN];exact jg.plain (r:=(.t bM,P)) R hV (by omega) rfl
   rw[if_neg hbg,if_pos h8]at BN;have Ah:=rW b B la lc hl ⟨k,t.val++c.data,a2,c2,t.fl,t.exp,0,0,0,false⟩ (show k.length≤16777216 by omega) (by show ahr _≤_;rw[hxl];omega) hi sa sc P.z hz;refine aR ?_;refine Li (Ls T.kk) ?_;refine cI ?_;refine cu ?_;refine bB ?_;refine Lp (oC T.Cg rfl rfl (Ah) (.cons (.there .here) (.cons (.there .here) .nil)) (λ_ le _=>hs.mono le) ?_);rintro v H' ⟨oe,oc,rfl⟩;refine bd ?_;refine aZ ?_;refine Lp (eJ T.aS ?_ (h1:=by simp[bU,Value.cells,Value.oneCell',aB]));refine a8 ?_;refine aT 49 9 ?_;refine Hh (H':= [own a2 c2 5 1 (ai (t.val++c.data)),bf V,own none 0 49 9 [],ag b 61 (bA (B.put ⟨k,t.val++c.data,a2,c2,t.fl,t.exp,0,0,0,false⟩ P.z) oe oc),own oe oc 73 8 (aW (B.put ⟨k,t.val++c.data,a2,c2,t.fl,t.exp,0,0,0,false⟩ P.z).l),ag b2 41 [.int .i64 1,aG, .int .u64 0,aB [],aG]]) ?_;refine aC (λ_ s=>mR s) ?_;refine ko [own none 0 49 9 [],ag b 61 (bA (B.put ⟨k,t.val++c.data,a2,c2,t.fl,t.exp,0,0,0,false⟩ P.z) oe oc),own oe oc 73 8 (aW (B.put ⟨k,t.val++c.data,a2,c2,t.fl,t.exp,0,0,0,false⟩ P.z).l),bf (V++ [(a2,c2,t.val++c.data)])] T.aS results50 ?_;exact fin _ BN (by dsimp only;omega) a2 c2 c2 oe oc
  refine dz ?_;have hxw:(c.data++t.val).length=c.data.length+t.val.length:=by simp
  refine gK 11 T.mix (.cons (.there .here) (.cons (.there .here) (.cons (.there (.there .here)) .nil))) λF3 MN qH fM=> ?_;obtain⟨q5,q7,q6,_⟩:=qH;have kr2:=bD q7;refine ay ?_
  first
   |refine Ti (Lf T.iw) ?_
   |refine Ti (fB T.iw q5) ?_
   |refine Ti (fB T.iw q6) ?_
  refine aZ ?_
  first
   |refine Ti (Lf T.eD) ?_
   |refine Ti (fB T.eD q5) ?_
   |refine Ti (fB T.eD q6) ?_
  refine ay ?_;refine Ti (Ix T.fI) ?_;refine Ti (qD T.xq) ?_
  first
   |refine Ti (Lf T.iw) ?_
   |refine Ti (fB T.iw q5) ?_
   |refine Ti (fB T.iw q6) ?_
  refine Tp (oC T.G8 rfl rfl (hjB) .nil (λ_ le aw=>⟨hd.mono (Le.trans MN le),rR (aw.nth 1 rfl) TW⟩) ?_);rintro v H' ⟨a3,c3,hc3,rfl,rfl⟩;refine bd ?_;refine gd fM ?_;refine bc ?_;refine Li (Ls T.kk) ?_;refine cI ?_;refine Hh (H':= [own a3 c3 5 1 (ai (c.data++t.val)),ag b 61 (bA B la lc),own la lc 73 8 (aW B.l),bf V,ag b1 47 (cy c ka kc da dc mv),ag b2 41 [.int .i64 0,aG, .int .u64 0,aB [],aG],ag tb 73 [aB k, .slice a3 (c.data++t.val).length c3, .int .u64 (t.fl:Int), .int .i64 (t.exp:Int), .int .u64 0, .int .i64 0, .int .i64 0, .bool false]]) ?_;have hxl:(c.data++t.val).length=c.data.length+t.val.length:=by simp[aix]
  by_cases hbg:P.c.lim<58+k.length+c.data.length+t.val.length
  ·rw[if_pos hbg]at BN
   refine dz ?_;refine ay ?_;refine zl T.wx (ik bM) .nil (λ_ _ _=>trivial) ?_;refine Lp (eJ T.aS ?_ (h1:=by simp[bU,Value.cells,dG,Value.oneCell',aB,aG]));refine aZ ?_;refine aT 49 9 ?_;refine ko [own none 0 49 9 [],ag b 61 (bA B la lc),own la lc 73 8 (aW B.l),bf V] T.aS results50 ?_;rw[h0,BN];exact jg.plain (r:=(.t bM,P)) R hV (by omega) rfl
  rw[if_neg hbg,if_neg h8]at BN;have Ah:=rW b B la lc hl ⟨k,c.data++t.val,a3,c3,t.fl,t.exp,0,0,0,false⟩ (show k.length≤16777216 by omega) (by show ahr _≤_;rw[hxl];omega) hi sa sc P.z hz;refine cu ?_;refine bB ?_;refine Lp (oC T.Cg rfl rfl (Ah) (.cons (.there .here) (.cons (.there .here) .nil)) (λ_ le _=>hs.mono le) ?_);rintro v H' ⟨oe,oc,rfl⟩;refine bd ?_;refine aZ ?_;refine Lp (eJ T.aS ?_ (h1:=by simp[bU,Value.cells,Value.oneCell',aB]));refine a8 ?_;refine aT 49 9 ?_;refine Hh (H':= [own a3 c3 5 1 (ai (c.data++t.val)),bf V,own none 0 49 9 [],ag b 61 (bA (B.put ⟨k,c.data++t.val,a3,c3,t.fl,t.exp,0,0,0,false⟩ P.z) oe oc),own oe oc 73 8 (aW (B.put ⟨k,c.data++t.val,a3,c3,t.fl,t.exp,0,0,0,false⟩ P.z).l),ag b2 41 [.int .i64 1,aG, .int .u64 0,aB [],aG]]) ?_;refine aC (λ_ s=>mR s) ?_;refine ko [own none 0 49 9 [],ag b 61 (bA (B.put ⟨k,c.data++t.val,a3,c3,t.fl,t.exp,0,0,0,false⟩ P.z) oe oc),own oe oc 73 8 (aW (B.put ⟨k,c.data++t.val,a3,c3,t.fl,t.exp,0,0,0,false⟩ P.z).l),bf (V++ [(a3,c3,c.data++t.val)])] T.aS results50 ?_;exact fin _ BN (by dsimp only;omega) a3 c3 c3 oe oc
 have BN:P.mm c k (P.f k)=some (c.data,c.fl,cF B.now c.ex):=by
  unfold bn.mm;rw[if_pos (show tX c.verb=true by unfold tX;exact decide_eq_true (by omega)),R.now]
 have Ah:=rW b B la lc hl ⟨k,c.data,a1,c1,c.fl,cF B.now c.ex,0,0,0,false⟩ (show k.length≤16777216 by omega) (show c.data.length≤16777216 by omega) hi sa sc P.z hz;refine aR ?_;refine cu ?_ (e:=by exact decide_eq_false hb);refine bB ?_;refine Lp (oC T.Cg rfl rfl (Ah) (.cons .here (.cons .here .nil)) (λ_ le _=>hs.mono le) ?_);rintro v H' ⟨oe,oc,rfl⟩;refine bd ?_;refine aZ ?_;refine Lp (eJ T.aS ?_ (h1:=by simp[bU,Value.cells,Value.oneCell',aB]));refine a8 ?_;refine aT 49 9 ?_;refine Hh (H':= [own a1 c1 5 1 (ai c.data),bf V,own none 0 49 9 [],ag b 61 (bA (B.put ⟨k,c.data,a1,c1,c.fl,cF B.now c.ex,0,0,0,false⟩ P.z) oe oc),own oe oc 73 8 (aW (B.put ⟨k,c.data,a1,c1,c.fl,cF B.now c.ex,0,0,0,false⟩ P.z).l),ag b2 41 [.int .i64 1,aG, .int .u64 0,aB [],aG]]) ?_;refine aC (λ_ s=>mR s) ?_;refine ko [own none 0 49 9 [],ag b 61 (bA (B.put ⟨k,c.data,a1,c1,c.fl,cF B.now c.ex,0,0,0,false⟩ P.z) oe oc),own oe oc 73 8 (aW (B.put ⟨k,c.data,a1,c1,c.fl,cF B.now c.ex,0,0,0,false⟩ P.z).l),bf (V++ [(a1,c1,c.data)])] T.aS results50 ?_;exact fin _ BN (by dsimp only;omega) a1 c1 c1 oe oc
def qJ (n:Nat):UInt8:=UInt8.ofNat (48+n % 10)
theorem Di (n:Nat):(qJ n).toNat=48+n % 10:=by unfold qJ;simp;omega
theorem uG (b:UInt8):ai [b]= [.int .u8 (b.toNat:Int)]:=rfl
def GI (r:List UInt8)(i:Nat):List UInt8:=r.mapIdx λj b=>if j<i∨r.length≤j+i then r.getD (r.length-1-j) 0 else b
@[simp] theorem rN (r : List UInt8) (i : Nat) : (GI r i).length = r.length := by unfold GI; simp
theorem QD (r:List UInt8):GI r 0=r:=by
 unfold GI;apply List.ext_getElem
 ·simp
 intro j h1 h2;rw[List.getElem_mapIdx,if_neg (by omega)]
theorem rO (r:List UInt8)(i j:Nat)(h:j<r.length):(GI r i)[j]?=some (if j<i∨r.length≤j+i then r.getD (r.length-1-j) 0 else r.getD j 0):=by
 unfold GI;rw[List.getElem?_mapIdx,acx h];simp[acy,acx h]
theorem CE (r:List UInt8)(i:Nat)(h:i<r.length/2):((GI r i).set i (r.getD (r.length-1-i) 0)).set (r.length-1-i) (r.getD i 0)=GI r (i+1):=by
 apply ahE;intro j;by_cases hj:j<r.length
 ·rw[rO r (i+1) j hj]
  rw[ac4,ac4,rO r i j hj];simp only[acE,rN];by_cases a:r.length-1-i=j
  ·subst a
   rw[if_pos rfl,if_pos hj,if_pos (by omega)]
   congr 1
   rw[show r.length-1-(r.length-1-i)=i by omega]
  rw[if_neg a];by_cases b:i=j
  ·subst b
   rw[if_pos rfl,if_pos hj,if_pos (by omega)]
  rw[if_neg b]
  congr 1
  by_cases c:j<i∨r.length≤j+i
  ·rw[if_pos c,if_pos (by omega)]
  rw[if_neg c,if_neg (by omega)]
 rw[acK (by simp[rN];omega),acK (by rw[rN];omega)]
theorem Vf (r:List UInt8):GI r (r.length/2)=r.reverse:=by
 apply ahE;intro j;by_cases hj:j<r.length
 ·rw[rO r _ j hj,List.getElem?_reverse hj,acx (by omega)]
  congr 1
  have e:∀k,(h:k<r.length)→r.getD k 0=r[k]:=λk h=>by rw[acy,acx h];rfl
  split
  ·exact e _ (by omega)
  have:j=r.length-1-j:=by omega
  rw[e _ hj]
  congr 1
 rw[acK (by rw[rN];omega),acK (by rw[ahb];omega)]
theorem nP (l:List UInt8)(i:Nat)(b:UInt8):(ai l).set i (.int .u8 (b.toNat:Int))=ai (l.set i b):=by
 unfold ai;rw[List.map_set]
theorem SU{n:Nat}(h:n<10):bL n= [qJ n]:=by
 rw[vB h];unfold qJ;rw[Nat.mod_eq_of_lt h]
set_option maxHeartbeats 1000000 in
theorem GC (n0:Nat)(hn0:n0<18446744073709551616):aH acw 96 [.int .u64 (n0:Int)] (λ_=>True) []
  (λv H=>∃a c,(bL n0).length≤c∧v= .slice a (bL n0).length c∧H= [own a c 5 1 (ai (bL n0))]):=by
 have hlen:(bL n0).length≤20:=by have:=xz 20 n0 (by omega);omega
 refine ae func96 rfl ntmps96 rfl ?_;intro F _;refine cI ?_;refine aT 5 1 ?_;refine Lo (ι:=Nat×List UInt8×Option Addr×Nat) [5,6,7,8,9,10,11,12,13,3,14,15,0] (λs=>s.1<18446744073709551616∧bL n0=bL s.1++s.2.1.reverse) (λs=> [(0, .int .u64 (s.1:Int)),(3, .slice s.2.2.1 s.2.1.length s.2.2.2)]) (λs=> [own s.2.2.1 s.2.2.2 5 1 (ai s.2.1)]) (λs=>s.1) ((n0,[],none,0)) ⟨hn0,by simp⟩ ?_;rintro⟨m,ds,a,c⟩ hI;dsimp only at hI⊢;obtain⟨hm,hd⟩:=hI;have BO:ds.length≤20:=by
  have:=congrArg ahr hd;rw[acI,ahb]at this;omega
 refine bc ?_;by_cases h9:9<m
 ·refine dz ?_
  refine bB ?_;refine Li (Go.dL.Rm (q:=10)) ?_;refine a8 ?_;refine ao (t:=11) (v':=(.int .u8 ((qJ m).toNat:Int))) rfl (by exact congrArg (Value.int .u8) (by rw[Di];first|omega|exact(wrap_u8 (by omega)).trans (by omega)|exact((wrap_u8 (by omega)).trans (by omega)).symm)) ?_;refine Lp (oT T.gj λb1=> ?_);refine Lp (bF T.gj T.mB rfl rfl rfl rfl .here (by simp) (rfl) (by first|exact cY|(simp[Value.oneCell',aB])) (by first|omega|(simp;omega)) (by first|omega|(simp;omega)) rfl λa4 c4 Ul=> ?_);rw[←uG,←qv,show ds.length+1=(ds++ [qJ m]).length by simp];refine aR ?_;refine Li (QuU (q:=10)) ?_;refine aZ ?_;refine ao (t:=0) (v':=(.int .u64 ((m/10:Nat):Int))) rfl (by exact congrArg (Value.int .u64) (by first|rfl|omega)) ?_;have GQ:bL n0=bL (m/10)++(ds++ [qJ m]).reverse:=by
   rw[hd,Bm (by omega:¬m<10),ahX,List.append_assoc];rfl
  refine Ro ((m/10,ds++ [qJ m],a4,c4)) (⟨(by dsimp only;omega),GQ⟩) ((by dsimp only;omega))
 refine cu ?_;rw[SU (n:=m) (by omega)]at hd;refine bw ?_;refine ao (t:=19) (v':=(.int .u8 ((qJ m).toNat:Int))) rfl (by exact congrArg (Value.int .u8) (by rw[Di];first|omega|exact(wrap_u8 (by omega)).trans (by omega)|exact((wrap_u8 (by omega)).trans (by omega)).symm)) ?_;refine Lp (oT T.gj λb2=> ?_);refine Lp (bF T.gj T.mB rfl rfl rfl rfl .here (by simp) (rfl) (by first|exact cY|(simp[Value.oneCell',aB])) (by first|omega|(simp;omega)) (by first|omega|(simp;omega)) rfl λa5 c5 Xv=> ?_);rw[←uG,←qv,show ds.length+1=(ds++ [qJ m]).length by simp];have hr:(ds++ [qJ m]).reverse=bL n0:=by
  rw[hd,ahX];rfl
 have hc6:(ds++ [qJ m]).length≤c5:=by simpa using Xv
 have hrl:(ds++ [qJ m]).length≤21:=by simp;omega
 have hrp:0<(ds++ [qJ m]).length:=by simp
 generalize ds++ [qJ m]=r at*;rw[show ai r=ai (GI r 0) by rw[QD]];refine bH ?_;refine Lo (ι:=Nat) [22,23,24,25,26,29,30,31,32,33,34,35,36,37,38,39,40,41,42,43,44,45,46,47,48,49,50,27,28,4] (λi=>i≤r.length/2) (λi=> [(4, .int .i64 (i:Int))]) (λi=> [own a5 c5 5 1 (ai (GI r i))]) (λi=>r.length/2-i) (0) (acS _) ?_;rintro i hi;refine bc ?_;refine Li (Qu (q:=2)) ?_;refine ao (t:=25) (v':=(.int .i64 ((r.length/2:Nat):Int))) rfl (by exact congrArg (Value.int .i64) (by first|rfl|exact(Int.natCast_tdiv r.length 2).symm|exact Int.ofNat_tdiv r.length 2)) ?_;refine a8 ?_;by_cases bX:i<r.length/2
 ·refine dz ?_
  have g1:(ai (GI r i))[i]?=some (.int .u8 ((r.getD i 0).toNat:Int)):=by
   unfold ai;rw[acL,rO r i i (by omega),if_neg (by omega)];rfl
  have g2:(ai (GI r i))[r.length-1-i]?=some (.int .u8 ((r.getD (r.length-1-i) 0).toNat:Int)):=by
   unfold ai;rw[acL,rO r i _ (by omega),if_neg (by omega)];rfl
  have Eu:(ai (GI r i)).length=r.length:=by rw[jy,rN]
  refine fV (dZ .here (λ_ o=>fy o (by omega))) λsa=> ?_;refine aR ?_;refine wu T.mix .nil λF1 iT cj aI=> ?_;refine Dt 0 rfl Mv ?_;refine Dt 1 rfl Mv ?_;refine Dt 2 rfl Mv ?_;refine Dt 3 rfl Mv ?_;refine Dt 4 rfl (Ln T.eC) ?_;refine Dt 5 rfl Im ?_;refine Dt 6 rfl Mv ?_;refine Dt 7 rfl Im ?_;refine Dt 8 rfl Mv ?_;refine Dt 9 rfl Mv ?_;refine Dt 10 rfl (Ln T.eC) ?_;refine Dt 11 rfl Im ?_;refine Dt 12 rfl Mv ?_;refine Dt 13 rfl Im ?_;refine Dt 14 rfl (Ix T.eC (j:=r.length-1-i) (hj:=by omega)) ?_;refine Dt 16 rfl Mv ?_;refine Dt 17 rfl Mv ?_;refine Dt 18 rfl (Ix T.eC) ?_;refine D2 15 19 ?_ ?_
  ·refine Do rfl (oL T.qc ?_)
   refine ay ?_;refine Dn 19 ?_;refine Do rfl (oL T.qc ?_);refine ay ?_;refine Dt 20 rfl (Ix T.eC) ?_;refine Dn 21 ?_;refine Do rfl (TC T.qc ?_);refine ay ?_;refine Dt 22 rfl (Ix T.eC (j:=r.length-1-i) (hj:=by omega)) ?_;refine Dn 23 ?_;refine Do rfl (TC T.qc ?_);refine ay ?_;refine bC (by kernel_rfl) aI ?_;refine bB ?_;refine az ?_;rw[nP,nP,CE r i bX];refine Ro (i+1) ((by omega)) ((by omega))
  refine Do rfl (oL T.qc ?_);refine ay ?_;refine Dn 15 ?_;refine Do rfl (oL T.qc ?_);refine ay ?_;refine Dt 20 rfl (Ix T.eC) ?_;refine Dn 21 ?_;refine Do rfl (TC T.qc ?_);refine ay ?_;refine Dt 22 rfl (Ix T.eC (j:=r.length-1-i) (hj:=by omega)) ?_;refine Dn 23 ?_;refine Do rfl (TC T.qc ?_);refine ay ?_;refine bC (by kernel_rfl) aI ?_;refine bB ?_;refine az ?_;rw[nP,nP,CE r i bX];refine Ro (i+1) ((by omega)) ((by omega))
 refine cu ?_;have uR:i=r.length/2:=by omega
 subst uR;rw[Vf,hr];refine bw ?_;have yj:r.length=(bL n0).length:=by rw[←hr,ahb]
 rw[yj];refine Rt [own a5 c5 5 1 (ai (bL n0))] results96 ?_;exact⟨a5,c5,by rw[←yj];exact hc6,rfl,rfl⟩
theorem W3 (n:Nat)(h:n<18446744073709551616):(bL n).length≤20:=by have:=xz 20 n (by omega);omega
theorem VU (c:dI)(n:Nat)(h:n<18446744073709551616):iI c n<18446744073709551616:=by unfold iI;split<;>omega
theorem agi (t:Th)(d:List UInt8)(a:Option Addr)(cc now tok:Nat)(sl:List Nat)(hr:¬t.room<58+t.key.length+d.length):(({t with val:=d,va:=a,vc:=cc,eO:=true}:Th).lay sl tok now).x=(({t.x with val:=d,tok:=tok,dB:=t.x.dB-t.x.dB/2 % 4*2}:I3).qF now)∧(({t with val:=d,va:=a,vc:=cc,eO:=true}:Th).lay sl tok now).room=t.room:=by
 obtain⟨k,v,va,vc,fl,ex,tk,rm,rd,eO⟩:=t;unfold Th.lay;dsimp only at hr⊢;rw[if_neg hr];refine⟨?_,rfl⟩;cases eO<;>simp[Th.x,I3.qF]
set_option maxHeartbeats 2000000 in
theorem GD (b:Nat)(B:gC)(la:Option Addr)(lc:Nat)(P:bn)(R:ku B P)(F:P.Fits)(hl:B.l.length≤999)(hi:B.aM<1000000000)(V:List (Option Addr×Nat×List UInt8))(hV:zY V B.l)(IU:∀t∈B.l,¬B.dead t→t.val.length≤1048576)(c:dI)(ka:Option Addr)(kc:Nat)(da:Option Addr)(dc:Nat)(mv:Value)(iG:mv.oneCell'=true)
  (k:List UInt8) (r:List (List UInt8)) (jP:c.keys=k::r) (hv:c.verb=12∨c.verb=13) (BO:c.dl<18446744073709551616) (sa:Option Addr) (sc:Nat) (hz:P.z.length≤1000) (vY:P.c.lim≤1048576):
  aH acw 53 [.pointer (some ⟨b,0,none⟩), .agg (cy c ka kc da dc mv).toArray, .int .i64 P.c.lim, .slice sa P.z.length sc] (λh=>dU h ka (eR c.keys)∧dU h sa (aV P.z)) [ag b 61 (bA B la lc),own la lc 73 8 (aW B.l),bf V]
   (λv H=>jg b (B.l.length+1) (P.counts lh c k) v H):=by
 have jO:=pf b B la lc (by omega) R.u k;refine ae func53 rfl ntmps53 rfl ?_;rintro F' ⟨hr,hs⟩;have uI:(eR c.keys)[0]?=some (aB k):=by rw[jP];rfl
 have Mw:ka.isSome=true:=by obtain⟨ad,e,_⟩:=hr 0 _ uI;rw[e];rfl
 have yq:c.keys.length=r.length+1:=by rw[jP];rfl
 refine ay ?_;refine Lp (oB λb1=> ?_);refine Lp (oA T.iu λb2=> ?_);refine ay ?_;refine Hh (H':= [ag b 61 (bA B la lc),own la lc 73 8 (aW B.l),bf V,ag b1 47 (cy c ka kc da dc mv),ag b2 41 [.int .i64 0,aG, .int .u64 0,aB [],aG]]) ?_;refine aR ?_;refine Li (Ix (j:=0) T.nR) ?_;refine ay ?_;refine Lp (oC T.yS rfl rfl (jO) .nil (λ_ le aw=>⟨aw.nth 0 rfl,bD (aw.nth 1 rfl)⟩) ?_);rintro v H' ⟨o,rfl,ho,rfl⟩;refine bd ?_;rcases o with _|j
 ·have h0:P.counts lh c k=(.k 4,P):=by unfold bn.counts;rw[R.I8 ho]
  rw[h0];dsimp only[oI];refine fF ?_;refine aT 49 9 ?_;refine ko [own none 0 49 9 [],ag b 61 (bA B la lc),own la lc 73 8 (aW B.l),bf V] T.aS results53 ?_;exact jg.plain (r:=(.k 4,P)) R hV (by omega) rfl
 obtain⟨t,cc,e1,hk,GO,hf,Xk⟩:=R.EC ho;have MV:j<B.l.length:=(acz.1 e1).1;have sU:=gw B.l;have og:=acB e1;have TW:jb V t.va t.val:=hV t og;have htv:=IU t og GO;have Ej:=R.kl t og;have p8:((aW B.l).drop (j*8)).take 8=vK t:=wF _ j t e1;have h0:P.counts lh c k=match lq t.val with
  |none=>(.t lW,P)
  |some n=>P.fH lh (t.x,cc) (iI c n):=by
  unfold bn.counts;rw[hf];rfl
 have hnu:=JX t.va t.vc t.val (by omega);refine fV (dZ (.there .here) (λ_ o=>fy o (by omega))) λsla=> ?_;dsimp only[oI];refine bH ?_;refine cu ?_;refine cI ?_;refine Li (Ix T.fI) ?_;refine ay ?_;refine Lp (oA T.wg λb3=> ?_);refine Lp (eJ T.Cp ?_ (h1:=by exact NY t));refine ay ?_;refine Hh (H':= [ag b 61 (bA B la lc),own la lc 73 8 (aW B.l),bf V,ag b1 47 (cy c ka kc da dc mv),ag b2 41 [.int .i64 0,aG, .int .u64 0,aB [],aG],ag b3 73 [aB t.key, .slice t.va t.val.length t.vc, .int .u64 (t.fl:Int), .int .i64 (t.exp:Int), .int .u64 (t.tok:Int), .int .i64 (t.room:Int), .int .i64 (t.rd:Int), .bool t.eO]]) ?_;refine aZ ?_;refine Lp (oC T.aft rfl rfl (hnu) .nil (λ_ le aw=>rR (aw.nth 2 rfl) TW) ?_);rintro v H' ⟨n,ok,rfl,hok1,hok2,rfl⟩;refine bd ?_;rcases ok with _|_
 ·rw[hok2 rfl]at h0
  refine gR ?_;refine zl T.wx (ik lW) .nil (λ_ _ _=>trivial) ?_;refine Lp (eJ T.aS ?_ (h1:=by simp[bU,Value.cells,dG,Value.oneCell',aB,aG]));refine aZ ?_;refine aT 49 9 ?_;refine ko [own none 0 49 9 [],ag b 61 (bA B la lc),own la lc 73 8 (aW B.l),bf V] T.aS results53 ?_;rw[h0];exact jg.plain (r:=(.t lW,P)) R hV (by omega) rfl
 obtain⟨hn,ad4⟩:=hok1 rfl;rw[hn]at h0;dsimp only at h0;have ad5:=VU c n ad4;have hdg:=GC (iI c n) ad5;have afk:=W3 (iI c n) ad5;refine bT ?_;refine ay ?_;refine au ?_;refine cg (ι:=Unit) [44,45,46,13,47,48,49,50,51,52,53,54] (λu=>True) (λu=> [(13, .int .u64 ((iI c n:Nat):Int))]) (λu=> [ag b 61 (bA B la lc),own la lc 73 8 (aW B.l),bf V,ag b1 47 (cy c ka kc da dc mv),ag b2 41 [.int .i64 0,aG, .int .u64 0,aB [],aG],ag b3 73 [aB t.key, .slice t.va t.val.length t.vc, .int .u64 (t.fl:Int), .int .i64 (t.exp:Int), .int .u64 (t.tok:Int), .int .i64 (t.room:Int), .int .i64 (t.rd:Int), .bool t.eO]]) ?_ ?_
 ·by_cases h13:c.verb=13
  ·have Xr:iI c n=n-c.dl:=by unfold iI;rw[if_neg (by omega)]
   rw[Xr];refine bc ?_;refine dz ?_ (e:=by exact decide_eq_true h13);refine cN ?_;by_cases hgt:c.dl<n
   ·refine dz ?_
    refine bB ?_;refine az ?_;refine ao (t:=13) (v':=(.int .u64 ((n-c.dl:Nat):Int))) rfl (by exact congrArg (Value.int .u64) (by first|omega|exact(wrap_u64 (by omega)).trans (by omega))) ?_;refine Me (()) (trivial)
   refine cu ?_;refine ay ?_;refine ao (t:=13) (v':=(.int .u64 ((n-c.dl:Nat):Int))) rfl (by exact congrArg (Value.int .u64) (by omega)) ?_;refine Me (()) (trivial)
  have Xr:iI c n=(n+c.dl) % 18446744073709551616:=by unfold iI;rw[if_pos (by omega)]
  rw[Xr];refine bc ?_;refine cu ?_ (e:=by exact decide_eq_false h13);refine ay ?_;refine ao (t:=13) (v':=(.int .u64 (((n+c.dl) % 18446744073709551616:Nat):Int))) rfl (by exact congrArg (Value.int .u64) (by first|exact yJ (n+c.dl)|exact(yJ (n+c.dl)).symm|(rw[←yJ];rfl))) ?_;refine Me (()) (trivial)
 rintro u hI;generalize hm:iI c n=m at*;refine a8 ?_;refine Lp (oC T.afs rfl rfl (hdg) .nil (λ_ _ _=>trivial) ?_);rintro v H' ⟨a5,c5,Xv,rfl,rfl⟩;refine bd ?_;by_cases kE:t.room<58+t.key.length+(bL m).length
 ·have BL:¬58+t.key.length+(bL m).length≤P.z.getD cc 0:=by rw[acy,Xk];show¬_≤t.room;omega
  by_cases TP:P.c.lim<58+t.key.length+(bL m).length
  ·have h1:P.counts lh c k=(.t bM,P):=by
    rw[h0];exact(if_neg BL).trans (if_pos TP)
   refine bB ?_;refine Li (Ls T.kk) ?_;refine bH ?_;refine zt 66 ?_;refine a8 ?_;refine Li (Ls T.kk) ?_;refine cN ?_;refine dz ?_;refine ay ?_;refine zl T.wx (ik bM) .nil (λ_ _ _=>trivial) ?_;refine Lp (eJ T.aS ?_ (h1:=by simp[bU,Value.cells,dG,Value.oneCell',aB,aG]));refine aZ ?_;refine aT 49 9 ?_;refine ko [own none 0 49 9 [],ag b 61 (bA B la lc),own la lc 73 8 (aW B.l),bf V] T.aS results53 ?_;rw[h1];exact jg.plain (r:=(.t bM,P)) R hV (by omega) rfl
  obtain⟨c0,hc0⟩:=F (58+t.key.length+(bL m).length) (by omega);have Ah:=rW b B la lc hl {t with val:=bL m,va:=a5,vc:=c5,eO:=false} (show t.key.length≤16777216 by omega) (show(bL m).length≤16777216 by omega) hi sa sc P.z hz;have hR:=R.put {t with val:=bL m,va:=a5,vc:=c5,eO:=false} (R.kl t og) P.z (c:=nX P.z (58+t.key.length+(bL m).length)) (by rw[zO hc0];unfold Th.lay;dsimp only;rw[if_pos kE]);have h1:P.counts lh c k=(⟨7,[],m,[]⟩,(P.put (({t with val:=bL m,va:=a5,vc:=c5,eO:=false}:Th).lay P.z (B.aM+1) B.now).x (nX P.z (58+t.key.length+(bL m).length))).num (P.i+1)):=by
   rw[h0];refine(if_neg BL).trans ((if_neg TP).trans ((if_pos rfl).trans ?_));unfold bn.rm lh;dsimp only;rw[R.now,R.aM];rfl
  refine bB ?_;refine Li (Ls T.kk) ?_;refine bH ?_;refine zf 66 ?_;refine bT ?_;refine aZ ?_;refine Li (Ls T.kk) ?_;refine bH ?_;refine ao (t:=90) (v':=(.bool false)) rfl (by exact congrArg Value.bool (decide_eq_false (by omega))) ?_;refine bH ?_;refine Lp (oC T.Cg rfl rfl (Ah) (.cons (.there .here) (.cons (.there .here) .nil)) (λ_ le _=>hs.mono le) ?_);rintro v H' ⟨oe,oc,rfl⟩;refine bd ?_;refine aR ?_;refine Lp (eJ T.aS ?_ (h1:=by simp[bU,Value.cells,Value.oneCell',aB]));refine a8 ?_;refine aT 49 9 ?_;refine Hh (H':= [own a5 c5 5 1 (ai (bL m)),bf V,own none 0 49 9 [],ag b 61 (bA (B.put {t with val:=bL m,va:=a5,vc:=c5,eO:=false} P.z) oe oc),own oe oc 73 8 (aW (B.put {t with val:=bL m,va:=a5,vc:=c5,eO:=false} P.z).l),ag b2 41 [.int .i64 7,aG, .int .u64 (m:Int),aB [],aG]]) ?_;refine aC (λ_ s=>mR s) ?_;refine ko [own none 0 49 9 [],ag b 61 (bA (B.put {t with val:=bL m,va:=a5,vc:=c5,eO:=false} P.z) oe oc),own oe oc 73 8 (aW (B.put {t with val:=bL m,va:=a5,vc:=c5,eO:=false} P.z).l),bf (V++ [(a5,c5,bL m)])] T.aS results53 ?_;rw[h1];exact jg.plain (r:=(⟨7,[],m,[]⟩,_)) hR (hV.put {t with val:=bL m,va:=a5,vc:=c5,eO:=false} P.z c5) (AW ..) rfl
 have BL:58+t.key.length+(bL m).length≤P.z.getD cc 0:=by rw[acy,Xk];show _≤t.room;omega
 obtain⟨Mr,TJ⟩:=agi t (bL m) a5 c5 B.now (B.aM+1) P.z kE;have Ah:=rW b B la lc hl {t with val:=bL m,va:=a5,vc:=c5,eO:=true} (show t.key.length≤16777216 by omega) (show(bL m).length≤16777216 by omega) hi sa sc P.z hz;have hR:=R.put {t with val:=bL m,va:=a5,vc:=c5,eO:=true} (R.kl t og) P.z (c:=cc) (by rw[TJ];exact Xk);have h1:P.counts lh c k=(⟨7,[],m,[]⟩,(P.put (({t with val:=bL m,va:=a5,vc:=c5,eO:=true}:Th).lay P.z (B.aM+1) B.now).x cc).num (P.i+1)):=by
  rw[h0,Mr];refine(if_pos BL).trans ?_;rw[R.now,R.aM]
 refine aZ ?_;refine au ?_;refine cg (ι:=Unit) [57,58,59,60,61,62,63,64,65,66,67,68,69,70,71,72,73,74,75,76,77] (λu=>True) (λu=> [(77, .bool false)]) (λu=> [own a5 c5 5 1 (ai (bL m)),ag b 61 (bA B la lc),own la lc 73 8 (aW B.l),bf V,ag b1 47 (cy c ka kc da dc mv),ag b2 41 [.int .i64 0,aG, .int .u64 0,aB [],aG],ag b3 73 [aB t.key, .slice t.va t.val.length t.vc, .int .u64 (t.fl:Int), .int .i64 (t.exp:Int), .int .u64 (t.tok:Int), .int .i64 (t.room:Int), .int .i64 (t.rd:Int), .bool t.eO]]) ?_ ?_
 ·by_cases TP:P.c.lim<58+t.key.length+(bL m).length
  ·refine cC ?_
   refine a8 ?_;refine Li (Ls T.kk) ?_;refine bH ?_;refine zt 66 ?_;refine a8 ?_;refine Li (Ls T.kk) ?_;refine cI ?_;refine az ?_;refine ao (t:=77) (v':=(.bool false)) rfl (by exact congrArg Value.bool (decide_eq_false (by omega))) ?_;refine Me (()) (trivial)
  refine cC ?_;refine a8 ?_;refine Li (Ls T.kk) ?_;refine bH ?_;refine zf 66 ?_;refine bK ?_;refine az ?_;refine Me (()) (trivial)
 rintro u hI;refine bK ?_;refine Li (Ls T.kk) ?_;refine bH ?_;refine ao (t:=90) (v':=(.bool true)) rfl (by exact congrArg Value.bool (decide_eq_true (by omega))) ?_;refine bH ?_;refine Lp (oC T.Cg rfl rfl (Ah) (.cons (.there .here) (.cons (.there .here) .nil)) (λ_ le _=>hs.mono le) ?_);rintro v H' ⟨oe,oc,rfl⟩;refine bd ?_;refine aR ?_;refine Lp (eJ T.aS ?_ (h1:=by simp[bU,Value.cells,Value.oneCell',aB]));refine a8 ?_;refine aT 49 9 ?_;refine Hh (H':= [own a5 c5 5 1 (ai (bL m)),bf V,own none 0 49 9 [],ag b 61 (bA (B.put {t with val:=bL m,va:=a5,vc:=c5,eO:=true} P.z) oe oc),own oe oc 73 8 (aW (B.put {t with val:=bL m,va:=a5,vc:=c5,eO:=true} P.z).l),ag b2 41 [.int .i64 7,aG, .int .u64 (m:Int),aB [],aG]]) ?_;refine aC (λ_ s=>mR s) ?_;refine ko [own none 0 49 9 [],ag b 61 (bA (B.put {t with val:=bL m,va:=a5,vc:=c5,eO:=true} P.z) oe oc),own oe oc 73 8 (aW (B.put {t with val:=bL m,va:=a5,vc:=c5,eO:=true} P.z).l),bf (V++ [(a5,c5,bL m)])] T.aS results53 ?_;rw[h1];exact jg.plain (r:=(⟨7,[],m,[]⟩,_)) hR (hV.put {t with val:=bL m,va:=a5,vc:=c5,eO:=true} P.z c5) (AW ..) rfl
theorem Ml{c:dI}(hb:oH c=false):(1≤c.verb∧c.verb≤18)∧(5≤c.verb→c.verb≤14→∃k,c.keys= [k]∧cO k=true):=by
 have Xx:oH c=(decide (aY c.verb<0∨0<aY c.verb∧c.keys.length=0∨aY c.verb=1∧1<c.keys.length) ||(decide (0<aY c.verb)&&c.keys.any λk=> !cO k) ||decide (5≤c.verb∧c.verb≤10∧4294967295<c.fl)):=rfl;rw[hb]at Xx;have Nf:=Xx.symm;simp only[Bool.or_eq_false_iff,decide_eq_false_iff_not]at Nf;obtain⟨⟨cm,bS⟩,_⟩:=Nf;refine⟨?_,λh1 h2=> ?_⟩
 ·refine acH λg=>cm (.inl ?_)
  unfold aY;rw[if_neg (by omega),if_neg (by omega),if_neg (by omega)];decide
 have hvi:aY c.verb=1:=by unfold aY;rw[if_neg (by omega),if_pos (by omega)]
 rw[hvi]at cm bS;rcases hk:c.keys with _|⟨k,_|⟨k2,r⟩⟩
 ·exact absurd (.inr (.inl ⟨by decide,by rw[hk];rfl⟩)) cm
 ·refine⟨k,rfl, ?_⟩
  rw[hk]at bS
  simpa using bS
 exact absurd (.inr (.inr ⟨rfl,by rw[hk];simp⟩)) cm
theorem Jm{P:bn}{k:List UInt8}{x:I3×Nat}(h:P.f k=some x)(ex:Int):P.cz k ex=(.k 6,(bn.cL true ex ([],P) k).2):=by
 unfold bn.cz bn.cL;dsimp only;rw[h];rfl
set_option maxHeartbeats 2000000 in
theorem To (b:Nat)(B:gC)(la:Option Addr)(lc:Nat)(P:bn)(R:ku B P)(F:P.Fits)(hl:B.l.length≤999)(hi:B.aM<1000000000)(V:List (Option Addr×Nat×List UInt8))(hV:zY V B.l)(IU:∀t∈B.l,¬B.dead t→t.val.length≤1048576)(c:dI)(ka:Option Addr)(kc:Nat)(da:Option Addr)(dc:Nat)(mv:Value)(iG:mv.oneCell'=true)
  (hb:oH c=false) (Mz:c.keys.length≤1048576) (hdn:c.data.length≤1048576) (BO:c.dl<18446744073709551616) (sa:Option Addr) (sc:Nat) (hz:P.z.length≤1000) (vY:P.c.lim≤1048576):
  aH acw 21 [.pointer (some ⟨b,0,none⟩), .agg (cy c ka kc da dc mv).toArray, .int .i64 P.c.lim, .slice sa P.z.length sc] (λh=>dU h ka (eR c.keys)∧dU h da (ai c.data)∧dU h sa (aV P.z)) [ag b 61 (bA B la lc),own la lc 73 8 (aW B.l),bf V]
   (λv H=>jg b (B.l.length+1) (P.eQ lh c) v H):=by
 obtain⟨Xm,uh⟩:=Ml hb;have n1:=R.n1;have n2:=R.n2;have fX:P.eQ lh c=if 1≤c.verb∧c.verb≤4 then P.jX c.verb c.keys c.ex else if c.verb=12∨c.verb=13 then P.counts lh c (c.keys.headD [])else if c.verb=14 then P.cz (c.keys.headD []) c.ex else if c.verb=11 then P.delete (c.keys.headD [])else if c.verb=15 then(.k 8,P.clock (P.k.flush c.ex P.i))else if c.verb=16 then(⟨10,[],0,nB⟩,P)else if c.verb=17 then(.k 8,P)else if c.verb=18 then(.k 12,P)else P.cU lh c (c.keys.headD []):=rfl
 have hg:=Tl b B la lc P R (by omega) V hV c ka kc da dc mv iG Mz;refine ae func21 rfl ntmps21 rfl ?_;rintro F' ⟨hr,hd,hs⟩;refine ay ?_;refine Lp (oB λb1=> ?_);refine Lp (oA T.iu λb2=> ?_);refine ay ?_;refine au ?_;refine Hh (H':= [ag b 61 (bA B la lc),own la lc 73 8 (aW B.l),bf V,ag b1 47 (cy c ka kc da dc mv),ag b2 41 [.int .i64 0,aG, .int .u64 0,aB [],aG]]) ?_;refine bc ?_;refine au ?_;refine cg (ι:=Unit) [13,12,14,15,16] (λu=>True) (λu=> [(12, .bool (decide (c.verb≤4)))]) (λu=> [ag b 61 (bA B la lc),own la lc 73 8 (aW B.l),bf V,ag b1 47 (cy c ka kc da dc mv),ag b2 41 [.int .i64 0,aG, .int .u64 0,aB [],aG]]) ?_ ?_
 ·refine gU ?_
  refine aZ ?_;refine av rfl ?_ ?_
  ·intro cn
   replace cn:=aD cn;refine ay ?_;refine ao (t:=12) (v':=(.bool (decide (c.verb≤4)))) rfl (by exact congrArg Value.bool (by first|exact(decide_eq_true (by omega)).symm|(rw[decide_eq_decide];omega))) ?_;refine Me (()) (trivial)
  intro cn;replace cn:=aD cn;refine aR ?_;refine av rfl ?_ ?_
  ·intro cm
   replace cm:=aD cm;refine ay ?_;refine ao (t:=12) (v':=(.bool (decide (c.verb≤4)))) rfl (by exact congrArg Value.bool (by first|exact(decide_eq_true (by omega)).symm|(rw[decide_eq_decide];omega))) ?_;refine Me (()) (trivial)
  intro cm;replace cm:=aD cm;refine aR ?_;refine av rfl ?_ ?_
  ·intro bS
   replace bS:=aD bS;refine ay ?_;refine ao (t:=12) (v':=(.bool (decide (c.verb≤4)))) rfl (by exact congrArg Value.bool (by first|exact(decide_eq_true (by omega)).symm|(rw[decide_eq_decide];omega))) ?_;refine Me (()) (trivial)
  intro bS;replace bS:=aD bS;refine aZ ?_;refine az ?_;refine ao (t:=12) (v':=(.bool (decide (c.verb≤4)))) rfl (by exact congrArg Value.bool (by first|exact(decide_eq_true (by omega)).symm|(rw[decide_eq_decide];omega))) ?_;refine Me (()) (trivial)
 rintro u hI;by_cases h4:c.verb≤4
 ·rw[if_pos (by omega)]at fX
  rw[fX];refine dz ?_ (e:=by exact decide_eq_true h4);refine aZ ?_;refine Lp (oC T.afN rfl rfl (hg) (.cons .here (.cons .here .nil)) (λ_ le _=>hr.mono le) ?_);rintro v H' ⟨B',m,ea,ec,R',hm,hV',YQ,Eu,rfl,rfl⟩;refine bd ?_;refine Lp (eJ T.aS ?_ (h1:=by simp[dG,Value.oneCell',aB,aG]));refine aR ?_;refine ko [own ea ec 49 9 (fm m),ag b 61 (bA B' la lc),own la lc 73 8 (aW B'.l),bf V] T.aS results21 ?_;exact⟨B',la,lc,V,m,ea,ec,⟨R',hV',by omega⟩,⟨hm,YQ⟩,rfl,rfl⟩
 rw[if_neg (by omega)]at fX;refine cu ?_ (e:=by exact decide_eq_false h4);refine au ?_;refine cg (ι:=Unit) [21,20,22,23,24,25,26] (λu=>True) (λu=> [(20, .bool (decide (5≤c.verb∧c.verb≤10)))]) (λu=> [ag b 61 (bA B la lc),own la lc 73 8 (aW B.l),bf V,ag b1 47 (cy c ka kc da dc mv),ag b2 41 [.int .i64 0,aG, .int .u64 0,aB [],aG]]) ?_ ?_
 ·refine gU ?_
  refine aZ ?_;refine av rfl ?_ ?_
  ·intro cn
   replace cn:=aD cn;refine ay ?_;refine ao (t:=20) (v':=(.bool (decide (5≤c.verb∧c.verb≤10)))) rfl (by exact congrArg Value.bool (by first|exact(decide_eq_true (by omega)).symm|(rw[decide_eq_decide];omega))) ?_;refine Me (()) (trivial)
  intro cn;replace cn:=aD cn;refine aR ?_;refine av rfl ?_ ?_
  ·intro cm
   replace cm:=aD cm;refine ay ?_;refine ao (t:=20) (v':=(.bool (decide (5≤c.verb∧c.verb≤10)))) rfl (by exact congrArg Value.bool (by first|exact(decide_eq_true (by omega)).symm|(rw[decide_eq_decide];omega))) ?_;refine Me (()) (trivial)
  intro cm;replace cm:=aD cm;refine aR ?_;refine av rfl ?_ ?_
  ·intro bS
   replace bS:=aD bS;refine ay ?_;refine ao (t:=20) (v':=(.bool (decide (5≤c.verb∧c.verb≤10)))) rfl (by exact congrArg Value.bool (by first|exact(decide_eq_true (by omega)).symm|(rw[decide_eq_decide];omega))) ?_;refine Me (()) (trivial)
  intro bS;replace bS:=aD bS;refine aR ?_;refine av rfl ?_ ?_
  ·intro bP
   replace bP:=aD bP;refine ay ?_;refine ao (t:=20) (v':=(.bool (decide (5≤c.verb∧c.verb≤10)))) rfl (by exact congrArg Value.bool (by first|exact(decide_eq_true (by omega)).symm|(rw[decide_eq_decide];omega))) ?_;refine Me (()) (trivial)
  intro bP;replace bP:=aD bP;refine aR ?_;refine av rfl ?_ ?_
  ·intro cG
   replace cG:=aD cG;refine ay ?_;refine ao (t:=20) (v':=(.bool (decide (5≤c.verb∧c.verb≤10)))) rfl (by exact congrArg Value.bool (by first|exact(decide_eq_true (by omega)).symm|(rw[decide_eq_decide];omega))) ?_;refine Me (()) (trivial)
  intro cG;replace cG:=aD cG;refine aZ ?_;refine az ?_;refine ao (t:=20) (v':=(.bool (decide (5≤c.verb∧c.verb≤10)))) rfl (by exact congrArg Value.bool (by first|exact(decide_eq_true (by omega)).symm|(rw[decide_eq_decide];omega))) ?_;refine Me (()) (trivial)
 rintro u hI;by_cases Uo:c.verb≤10
 ·obtain⟨k,jP,hkg⟩:=uh (by omega) (by omega)
  have iY:=GB b B la lc P R F hl hi V hV IU c ka kc da dc mv iG k [] jP (fR hkg).2 hdn (by omega) sa sc hz vY;rw[if_neg (by omega),if_neg (by omega),if_neg (by omega),if_neg (by omega),if_neg (by omega),if_neg (by omega),if_neg (by omega),jP]at fX;rw[fX];refine dz ?_;refine bc ?_;refine Lp (oC T.afM rfl rfl (iY) (.cons .here (.cons .here (.cons .here .nil))) (λ_ le _=>⟨hr.mono le,hd.mono le,hs.mono le⟩) ?_);rintro v H' ⟨B',qy,qx,V',m,ea,ec,h1,h2,rfl,rfl⟩;refine bd ?_;unfold lV;refine Lp (eJ T.aS ?_ (h1:=by simp[dG,Value.oneCell',aB,aG]));refine aR ?_;refine ko [own ea ec 49 9 (fm m),ag b 61 (bA B' qy qx),own qy qx 73 8 (aW B'.l),bf V'] T.aS results21 ?_;exact⟨B',qy,qx,V',m,ea,ec,h1,h2,rfl,rfl⟩
 refine cu ?_;refine au ?_;refine cg (ι:=Unit) [33,32,34] (λu=>True) (λu=> [(32, .bool (decide (c.verb=11∨c.verb=14)))]) (λu=> [ag b 61 (bA B la lc),own la lc 73 8 (aW B.l),bf V,ag b1 47 (cy c ka kc da dc mv),ag b2 41 [.int .i64 0,aG, .int .u64 0,aB [],aG]]) ?_ ?_
 ·refine gU ?_
  refine aZ ?_;refine av rfl ?_ ?_
  ·intro cn
   replace cn:=aD cn;refine ay ?_;refine ao (t:=32) (v':=(.bool (decide (c.verb=11∨c.verb=14)))) rfl (by exact congrArg Value.bool (by first|exact(decide_eq_true (by omega)).symm|(rw[decide_eq_decide];omega))) ?_;refine Me (()) (trivial)
  intro cn;replace cn:=aD cn;refine aZ ?_;refine az ?_;refine ao (t:=32) (v':=(.bool (decide (c.verb=11∨c.verb=14)))) rfl (by exact congrArg Value.bool (by first|exact(decide_eq_true (by omega)).symm|(rw[decide_eq_decide];omega))) ?_;refine Me (()) (trivial)
 rintro u hI;by_cases Un:c.verb=11∨c.verb=14
 ·obtain⟨k,jP,hkg⟩:=uh (by omega) (by omega)
  have uI:(eR c.keys)[0]?=some (aB k):=by rw[jP];rfl
  have Mw:ka.isSome=true:=by obtain⟨ad,e,_⟩:=hr 0 _ uI;rw[e];rfl
  have yq:c.keys.length=1:=by rw[jP];rfl
  have jO:=pf b B la lc (by omega) R.u k;have TU:=xE b B la lc (by omega) k;have GK:=wV b B la lc n1 n2 c.ex;refine dz ?_ (e:=by exact decide_eq_true Un);refine aR ?_;refine Li (Ix (j:=0) T.nR) ?_;refine ay ?_;refine Lp (oC T.yS rfl rfl (jO) .nil (λ_ le aw=>⟨aw.nth 0 rfl,bD (aw.nth 1 rfl)⟩) ?_);rintro v H' ⟨o,rfl,ho,rfl⟩;refine bd ?_;rcases o with _|j
  ·have hf:=R.I8 ho
   have h1:P.eQ lh c=(.k 4,P):=by
    rw[fX,jP];rcases Un with h|h
    ·rw[if_neg (by omega),if_neg (by omega),if_pos h]
     show P.delete k=_;unfold bn.delete;rw[hf]
    rw[if_neg (by omega),if_pos h];show P.cz k c.ex=_;unfold bn.cz;rw[hf]
   rw[h1];dsimp only[oI];refine bw ?_;refine Lp (eJ T.aS ?_ (h1:=by simp[bU,Value.cells,Value.oneCell',aB]));refine bc ?_;refine aT 49 9 ?_;refine ko [own none 0 49 9 [],ag b 61 (bA B la lc),own la lc 73 8 (aW B.l),bf V] T.aS results21 ?_;exact jg.plain (r:=(.k 4,P)) R hV (by omega) rfl
  dsimp only[oI];refine bH ?_;refine cu ?_;refine cI ?_;by_cases Y7:c.verb=11
  ·obtain⟨t,cc,e1,hk,GO,hf,Xk⟩:=R.EC ho
   have h1:P.eQ lh c=(.k 5,P.set k none):=by
    rw[fX,jP,if_neg (by omega),if_neg (by omega),if_pos Y7];show P.delete k=_;unfold bn.delete;rw[hf]
   rw[h1];refine dz ?_ (e:=by exact decide_eq_true Y7);refine aR ?_;refine Li (Ix (j:=0) T.nR) ?_;refine ay ?_;refine Lp (oC T.NH rfl rfl (TU) (.cons .here (.cons .here .nil)) (λ_ _ _=>trivial) ?_);rintro v H' ⟨oe,oc,rfl⟩;refine bd ?_;refine aZ ?_;refine Lp (eJ T.aS ?_ (h1:=by simp[bU,Value.cells,Value.oneCell',aB]));refine bc ?_;refine aT 49 9 ?_;refine ko [own none 0 49 9 [],ag b 61 (bA (B.drop k) oe oc),own oe oc 73 8 (aW (B.drop k).l),bf V] T.aS results21 ?_;exact jg.plain (r:=(.k 5,P.set k none)) (R.drop k) (hV.drop k) (agC (mW _ _) (by omega)) rfl
  obtain⟨t,cc,e1',Xt,hdd',hf,Xk⟩:=R.EC ho;obtain⟨t,e1,GQ,hrd⟩:=R.read ho true c.ex;obtain⟨-,R2⟩:=hrd [];have h1:P.eQ lh c=(.k 6,(bn.cL true c.ex ([],P) k).2):=by
   rw[fX,jP,if_neg (by omega),if_pos (by omega)];exact Jm hf c.ex
  rw[h1];have TW:jb V t.va t.val:=hV t (acB e1);have MV:j<B.l.length:=(acz.1 e1).1;have sU:=gw B.l;have ht1:t.lx true B.now c.ex={t with exp:=cF B.now c.ex}:=rfl;rw[ht1]at R2;have s3:(aW B.l).set (j*8+3) (.int .i64 ((cF B.now c.ex:Nat):Int))=aW (B.l.set j {t with exp:=cF B.now c.ex}):=kj B.l j 3 t _ _ e1 (by omega) rfl;have e2:(B.l.set j {t with exp:=cF B.now c.ex})[j]?=some {t with exp:=cF B.now c.ex}:=by rw[ac4,if_pos rfl,if_pos MV]
  have s6:(aW (B.l.set j {t with exp:=cF B.now c.ex})).set (j*8+6) (.int .i64 (B.now:Int))=aW (B.l.set j {t with exp:=cF B.now c.ex,rd:=B.now}):=by rw[kj _ j 6 {t with exp:=cF B.now c.ex} {t with exp:=cF B.now c.ex,rd:=B.now} _ e2 (by omega) rfl,adn]
  have e3:(B.l.set j {t with exp:=cF B.now c.ex,rd:=B.now})[j]?=some {t with exp:=cF B.now c.ex,rd:=B.now}:=by rw[ac4,if_pos rfl,if_pos MV]
  have s7:(aW (B.l.set j {t with exp:=cF B.now c.ex,rd:=B.now})).set (j*8+7) (.bool true)=aW (B.l.set j {t with exp:=cF B.now c.ex,rd:=B.now,eO:=true}):=by rw[kj _ j 7 {t with exp:=cF B.now c.ex,rd:=B.now} {t with exp:=cF B.now c.ex,rd:=B.now,eO:=true} _ e3 (by omega) rfl,adn]
  have eB:bA B la lc=bA {B with l:=B.l.set j {t with exp:=cF B.now c.ex,rd:=B.now,eO:=true}} la lc:=by
   unfold bA;dsimp only;rw[acE]
  refine fV (dZ (.there .here) (λ_ o=>fy o (by omega))) λsla=> ?_;refine cu ?_ (e:=by exact decide_eq_false Y7);refine a8 ?_;refine au ?_;refine gK 9 T.mix (.cons .here (.cons (.there (.there .here)) .nil)) λF1 iT cj aI=> ?_;obtain⟨q1,q2,_⟩:=cj;refine aZ ?_
  first
   |refine Ti (Lf T.eD) ?_
   |refine Ti (fB T.eD q1) ?_
   |refine Ti (fB T.eD q2) ?_
  refine aZ ?_
  first
   |refine Ti (Lf T.bR) ?_
   |refine Ti (fB T.bR q1) ?_
   |refine Ti (fB T.bR q2) ?_
  refine Tp (oC T.Cj rfl rfl (GK) .nil (λ_ le _=>In.mono q1 le) ?_);rintro v H' ⟨rfl,rfl⟩;refine bd ?_;refine gd aI ?_;refine Ti (Ix T.fI) ?_;refine Ti (qD T.mJ) ?_;refine Tp (TC T.bR ?_);refine ay ?_;refine au ?_;refine gT false T.mix ?_;refine cN ?_;refine Ti (Ix T.fI) ?_;refine Ti (qD T.xp) ?_;refine Tp (TC T.bR ?_);refine bH ?_;refine Li (Ix T.fI) ?_;refine Li (qD T.xn) ?_;refine Lp (TC T.UD ?_);refine aZ ?_;refine Lp (eJ T.aS ?_ (h1:=by simp[bU,Value.cells,Value.oneCell',aB]));refine aR ?_;rw[s3,s6,s7,eB];refine aT 49 9 ?_;refine ko [own none 0 49 9 [],ag b 61 (bA {B with l:=B.l.set j {t with exp:=cF B.now c.ex,rd:=B.now,eO:=true}} la lc),own la lc 73 8 (aW (B.l.set j {t with exp:=cF B.now c.ex,rd:=B.now,eO:=true})),bf V] T.aS results21 ?_;exact jg.plain (r:=(.k 6,_)) R2 (hV.set TW) (by show ahr (List.set _ _ _)≤_;rw[acE];omega) rfl
 refine cu ?_ (e:=by exact decide_eq_false Un);refine au ?_;refine cg (ι:=Unit) [85,84,86] (λu=>True) (λu=> [(84, .bool (decide (c.verb=12∨c.verb=13)))]) (λu=> [ag b 61 (bA B la lc),own la lc 73 8 (aW B.l),bf V,ag b1 47 (cy c ka kc da dc mv),ag b2 41 [.int .i64 0,aG, .int .u64 0,aB [],aG]]) ?_ ?_
 ·refine gU ?_
  refine aZ ?_;refine av rfl ?_ ?_
  ·intro cn
   replace cn:=aD cn;refine ay ?_;refine ao (t:=84) (v':=(.bool (decide (c.verb=12∨c.verb=13)))) rfl (by exact congrArg Value.bool (by first|exact(decide_eq_true (by omega)).symm|(rw[decide_eq_decide];omega))) ?_;refine Me (()) (trivial)
  intro cn;replace cn:=aD cn;refine aZ ?_;refine az ?_;refine ao (t:=84) (v':=(.bool (decide (c.verb=12∨c.verb=13)))) rfl (by exact congrArg Value.bool (by first|exact(decide_eq_true (by omega)).symm|(rw[decide_eq_decide];omega))) ?_;refine Me (()) (trivial)
 rintro u hI;by_cases uS:c.verb=12∨c.verb=13
 ·obtain⟨k,jP,hkg⟩:=uh (by omega) (by omega)
  have hct:=GD b B la lc P R F hl hi V hV IU c ka kc da dc mv iG k [] jP uS BO sa sc hz vY;rw[if_pos uS,jP]at fX;rw[fX];refine dz ?_ (e:=by exact decide_eq_true uS);refine bc ?_;refine Lp (oC T.afL rfl rfl (hct) (.cons .here (.cons .here (.cons .here .nil))) (λ_ le _=>⟨hr.mono le,hs.mono le⟩) ?_);rintro v H' ⟨B',qy,qx,V',m,ea,ec,h1,h2,rfl,rfl⟩;refine bd ?_;unfold lV;refine Lp (eJ T.aS ?_ (h1:=by simp[dG,Value.oneCell',aB,aG]));refine aR ?_;refine ko [own ea ec 49 9 (fm m),ag b 61 (bA B' qy qx),own qy qx 73 8 (aW B'.l),bf V'] T.aS results21 ?_;exact⟨B',qy,qx,V',m,ea,ec,h1,h2,rfl,rfl⟩
 rw[if_neg uS,if_neg (by omega),if_neg (by omega)]at fX;refine cu ?_ (e:=by exact decide_eq_false uS);refine aR ?_;by_cases h15:c.verb=15
 ·rw[if_pos h15]at fX
  rw[fX];have R2:=R.flush c.ex;unfold gC.flush at R2;refine Hh (H':= [ag b 61 [.slice la B.l.length lc, .int .i64 (B.now:Int), .int .u64 (B.aM:Int), .int .u64 (B.cut:Int), .int .i64 (B.dH:Int), .int .i64 (B.lost:Int)],own la lc 73 8 (aW B.l),bf V,ag b1 47 (cy c ka kc da dc mv),ag b2 41 [.int .i64 0,aG, .int .u64 0,aB [],aG]]) ?_;refine dz ?_ (e:=by exact decide_eq_true h15);refine dQ ?_;by_cases x1:c.ex≤0
  ·rw[if_pos x1]at R2
   refine dz ?_ (e:=by exact decide_eq_true x1);refine dQ ?_;refine Lp (eJ T.aS ?_ (h1:=by simp[bU,Value.cells,Value.oneCell',aB]));refine aR ?_;refine aT 49 9 ?_;refine ko [own none 0 49 9 [],ag b 61 (bA {B with dH:=0,cut:=B.aM} la lc),own la lc 73 8 (aW B.l),bf V] T.aS results21 ?_;exact jg.plain (r:=(.k 8,_)) R2 hV (by show B.l.length≤_;omega) rfl
  rw[if_neg x1]at R2;refine cu ?_ (e:=by exact decide_eq_false x1);refine bc ?_;by_cases x2:c.ex≤1099511627776
  ·rw[if_pos x2]at R2
   refine dz ?_ (e:=by exact decide_eq_true x2);refine gT false T.mix ?_;refine cI ?_;refine ao (t:=117) (v':=(.int .i64 ((B.now+c.ex.toNat:Nat):Int))) rfl (by exact congrArg (Value.int .i64) (by omega)) ?_;refine bB ?_;refine Lp (eJ T.aS ?_ (h1:=by simp[bU,Value.cells,Value.oneCell',aB]));refine aR ?_;refine aT 49 9 ?_;refine ko [own none 0 49 9 [],ag b 61 (bA {B with dH:=B.now+c.ex.toNat} la lc),own la lc 73 8 (aW B.l),bf V] T.aS results21 ?_;exact jg.plain (r:=(.k 8,_)) R2 hV (by show B.l.length≤_;omega) rfl
  rw[if_neg x2]at R2;refine cu ?_ (e:=by exact decide_eq_false x2);refine aR ?_;refine Lp (eJ T.aS ?_ (h1:=by simp[bU,Value.cells,Value.oneCell',aB]));refine aR ?_;refine aT 49 9 ?_;refine ko [own none 0 49 9 [],ag b 61 (bA {B with dH:=0} la lc),own la lc 73 8 (aW B.l),bf V] T.aS results21 ?_;exact jg.plain (r:=(.k 8,_)) R2 hV (by show B.l.length≤_;omega) rfl
 rw[if_neg h15]at fX;refine cu ?_ (e:=by exact decide_eq_false h15);refine aR ?_;by_cases MB:c.verb=16
 ·rw[if_pos MB]at fX
  rw[fX];refine dz ?_ (e:=by exact decide_eq_true MB);refine a8 ?_;refine Lp (eJ T.aS ?_ (h1:=by simp[bU,Value.cells,Value.oneCell',aB]));refine aR ?_;refine aT 49 9 ?_;refine ko [own none 0 49 9 [],ag b 61 (bA B la lc),own la lc 73 8 (aW B.l),bf V] T.aS results21 ?_;exact jg.plain (r:=(⟨10,[],0,nB⟩,P)) R hV (by omega) rfl
 rw[if_neg MB]at fX;refine cu ?_ (e:=by exact decide_eq_false MB);refine aR ?_;by_cases h17:c.verb=17
 ·rw[if_pos h17]at fX
  rw[fX];refine dz ?_ (e:=by exact decide_eq_true h17);refine a8 ?_;refine Lp (eJ T.aS ?_ (h1:=by simp[bU,Value.cells,Value.oneCell',aB]));refine aR ?_;refine aT 49 9 ?_;refine ko [own none 0 49 9 [],ag b 61 (bA B la lc),own la lc 73 8 (aW B.l),bf V] T.aS results21 ?_;exact jg.plain (r:=(.k 8,P)) R hV (by omega) rfl
 rw[if_neg h17,if_pos (by omega)]at fX;rw[fX];refine cu ?_ (e:=by exact decide_eq_false h17);refine bc ?_;refine Lp (eJ T.aS ?_ (h1:=by simp[bU,Value.cells,Value.oneCell',aB]));refine a8 ?_;refine aT 49 9 ?_;refine ko [own none 0 49 9 [],ag b 61 (bA B la lc),own la lc 73 8 (aW B.l),bf V] T.aS results21 ?_;exact jg.plain (r:=(.k 12,P)) R hV (by omega) rfl
end Go.Proofs.YtdolmecackmjdaaGreatDoor
