/- Part Pi of the proof. -/
import Derived.Test.YtcbcjolpdljbiaaGreatPd
import Derived.Test.YtcbcjolpdljbiaaGreatPj
set_option maxRecDepth 100000
open Go.Proofs.YtcbcjolpdljbiaaGreat.T
open List renaming getD_eq_getElem?_getD -> aaP, getElem?_eq_getElem -> aaQ, getElem?_set -> agi, Perm -> aa1, getElem?_append_left -> agf, length_append -> aaZ, length_singleton -> afV, getElem?_dropLast -> ajX, length_dropLast -> afF, length_set -> aaY, mem_cons_of_mem -> aaW, mem_cons_self -> aaV, map_cons -> aaX, filter_cons -> afT, getElem?_map -> aa6, mem_of_getElem? -> aaT, getElem_of_mem -> aft, flatMap_cons -> af2, length_cons -> afn, ext_getElem? -> ajg, getElem?_eq_none -> aa7, set_set -> afN, nodup_cons -> aa3, filter_eq_self -> aj7, mem_map -> acA, mem_filter -> aba, perm_append_comm -> afl, flatMap_append -> ago, take_append_of_le_length -> ajG, map_append -> afy, nodup_append -> afL, map_nil -> akr, mem_singleton -> afq, mem_cons -> aa5, mem_of_mem_eraseIdx -> ajS, nodup_nil -> ai3, not_mem_nil -> agh, filter_sublist -> afY, getElem?_eq_some_iff -> aaR, take_add_one -> agn, filter_append -> ags, length_take -> agw, range -> abb, length_map -> adr, take_eq_take_min -> ajZ, pairwise_cons -> agx
open Nat renaming sub_zero -> ajy, le_refl -> aa0, not_lt_zero -> aiY
open Bool renaming and_eq_true -> aki
open Go.Proofs.Tryz renaming prog -> aaO
open Go.Proofs.Tryz
open Go.Value renaming int -> CO
open Go.IntKind renaming i64 -> CN, u64 -> CJ
namespace Go.Proofs.YtcbcjolpdljbiaaGreat
open Go Go.dG
structure En where
 h:Nat
 ex:Nat
 tu:Nat
namespace En
def lt (a b:En):Prop:=a.ex<b.ex\/a.ex=b.ex/\a.tu<b.tu
def le (a b:En):Prop:=a.ex<b.ex\/a.ex=b.ex/\a.tu<=b.tu
theorem le_trans{a b c:En}(h:le a b)(g:le b c):le a c:=by unfold le at*;omega
theorem le_of_lt{a b:En}(h:lt a b):le a b:=by unfold lt le at*;omega
theorem vd{a b:En}(h:¬lt a b):le b a:=by unfold lt le at*;omega
theorem le_refl (a:En):le a a:=by unfold le;omega
instance (a b:En):Decidable (lt a b):=by unfold lt;infer_instance
end En
namespace Wh
def at_ (M:List En)(j:Nat):En:=M.getD j ⟨0,0,0⟩
def par (j:Nat):Nat:=(j-1)/2
def zw (M:List En):Prop:=∀j,0<j->j<M.length->En.le (at_ M (par j)) (at_ M j)
structure Hx (M:List En)(i:Nat):Prop where
 a:∀j,0<j->j<M.length->j≠i->par j≠i->En.le (at_ M (par j)) (at_ M j)
 b:∀j,0<i->j<M.length->0<j->par j=i->En.le (at_ M (par i)) (at_ M j)
theorem fS{M:List En}{j:Nat}(h:j<M.length):M[j]?=some (at_ M j):=by
 unfold at_;rw[aaP,aaQ h];rfl
theorem l9{M:List En}{i:Nat}(h:i<M.length)(x:En)(j:Nat):at_ (M.set i x) j=if j=i then x else at_ M j:=by
 unfold at_;rw[aaP,aaP,agi];by_cases e:i=j
 ·rw[if_pos e,if_pos h,if_pos e.symm];rfl
 rw[if_neg e,if_neg (λg=>e g.symm)]
def sw (M:List En)(i c:Nat):List En:=(M.set i (at_ M c)).set c (at_ M i)
theorem mW (M:List En)(i c:Nat):(sw M i c).length=M.length:=by unfold sw;simp
theorem Dm{M:List En}{i c:Nat}(hi:i<M.length)(hc:c<M.length)(j:Nat):at_ (sw M i c) j=if j=c then at_ M i else if j=i then at_ M c else at_ M j:=by
 unfold sw;rw[l9 (by simpa using hc),l9 hi]
theorem Jb{M:List En}{i c:Nat}(hi:i<M.length)(hc:c<M.length)(ne:i≠c):(sw M i c).Perm M:=by
 have h1:=iO (fS hi) (at_ M c);have h0:=iO (fS hi) (at_ M i);rw[gn (fS hi)]at h0;have rB:(M.set i (at_ M c))[c]?=some (at_ M c):=by rw[agi,if_neg ne];exact fS hc
 have h2:=iO rB (at_ M i);have h3:=iO rB (at_ M c);rw[gn rB]at h3;have h4:((M.set i (at_ M c)).eraseIdx c).Perm (M.eraseIdx i):=(aa1.cons_inv (h3.symm.trans h1));exact h2.trans ((aa1.cons _ h4).trans h0.symm)
theorem iU{j:Nat}(h:0<j):par j<j:=by unfold par;omega
theorem ah4{M:List En}{i:Nat}(H:Hx M i)(h0:0<i)(hi:i<M.length)(lt:En.lt (at_ M i) (at_ M (par i))):Hx (sw M i (par i)) (par i):=by
 have hu:=iU h0;have hul:par i<M.length:=by omega
 have A:=Dm hi hul;generalize hp:par i=u at*;refine⟨λj j0 jl n1 n2=> ?_,λj u0 jl j0 pj=> ?_⟩
 ·rw[mW]at jl
  have ji:j≠i:=λe=>n2 (by rw[e,hp]);rw[A,A,if_neg n2,if_neg n1,if_neg ji];by_cases e:par j=i
  ·rw[if_pos e,<-hp];exact H.b j h0 jl j0 e
  rw[if_neg e];exact H.a j j0 jl ji e
 rw[mW]at jl;have pu:=iU u0;have hpu:En.le (at_ M (par u)) (at_ M u):=H.a u u0 hul (by omega) (by omega);rw[A,A,if_neg (by omega),if_neg (by omega)];have ju:j≠u:=by have:=iU j0;omega
 rw[if_neg ju];by_cases e:j=i
 ·rw[if_pos e];exact hpu
 rw[if_neg e];refine En.le_trans hpu ?_;have:=H.a j j0 jl e (by omega)
 rwa[pj]at this
theorem Yp{M:List En}{i c:Nat}(H:Hx M i)(hi:i<M.length)(c0:0<c)(hc:c<M.length)(pc:par c=i)(mn:∀j,0<j->j<M.length->par j=i->En.le (at_ M c) (at_ M j))(le:En.le (at_ M c) (at_ M i)):
  Hx (sw M i c) c/\En.le (at_ (sw M i c) (par c)) (at_ (sw M i c) c):=by
 have A:=Dm hi hc;have hic:i<c:=by have:=iU c0;omega
 refine⟨⟨λj j0 jl n1 n2=> ?_,λj _ jl j0 pj=> ?_⟩, ?_⟩
 ·rw[mW]at jl
  rw[A,A,if_neg n2,if_neg n1];by_cases e:j=i
  ·have:=iU j0
   rw[if_neg (by omega),if_pos e,e];exact H.b c (by omega) hc c0 pc
  rw[if_neg e];by_cases e2:par j=i
  ·rw[if_pos e2];exact mn j j0 jl e2
  rw[if_neg e2];exact H.a j j0 jl e e2
 ·rw[mW]at jl
  have:=iU j0;rw[A,A,pc,if_neg (by omega),if_pos rfl,if_neg (by omega),if_neg (by omega)];have:=H.a j j0 jl (by omega) (by omega)
  rwa[pj]at this
 rw[A,A,pc,if_neg (by omega),if_pos rfl,if_pos rfl];exact le
theorem Yq{M:List En}{i:Nat}(H:Hx M i)(u:0<i->En.le (at_ M (par i)) (at_ M i))(d:∀j,0<j->j<M.length->par j=i->En.le (at_ M i) (at_ M j)):zw M:=λj j0 jl=>by
 by_cases e:j=i
 ·subst e;exact u j0
 by_cases e2:par j=i
 ·rw[e2];exact d j j0 jl e2
 exact H.a j j0 jl e e2
theorem Ys{M:List En}(H:zw M)(i:Nat):Hx M i:=⟨λj j0 jl _ _=>H j j0 jl,λj i0 jl j0 e=>by
 have h1:=H j j0 jl;have hi:par j<M.length:=by have:=iU j0;omega
 rw[e]at h1 hi;exact En.le_trans (H i i0 hi) h1⟩
theorem Yo{M:List En}(H:zw M)(x:En):Hx (M++ [x]) M.length:=by
 have a:∀j,j<M.length->at_ (M++ [x]) j=at_ M j:=λj h=>by
  unfold at_;rw[aaP,aaP,agf h]
 refine⟨λj j0 jl n1 _=> ?_,λj _ jl j0 e=> ?_⟩
 ·rw[aaZ,afV]at jl
  have:=iU j0;rw[a _ (by omega),a _ (by omega)];exact H j j0 (by omega)
 rw[aaZ,afV]at jl;have:=iU j0;omega
theorem AB{M:List En}(H:zw M):zw M.dropLast:=λj j0 jl=>by
 have a:∀j,j<M.dropLast.length->at_ M.dropLast j=at_ M j:=λj h=>by
  unfold at_;rw[aaP,aaP,ajX,if_pos (by simpa using h)]
 have:=iU j0;rw[a _ (by omega),a _ jl];exact H j j0 (by rw[afF]at jl;omega)
theorem adm{M:List En}(H:zw M){i:Nat}(hi:i<M.length)(x:En):Hx (M.set i x) i:=by
 have A:=l9 hi x;have Z:=Ys H i;refine⟨λj j0 jl n1 n2=> ?_,λj i0 jl j0 e=> ?_⟩
 ·rw[aaY]at jl
  rw[A,A,if_neg n2,if_neg n1];exact H j j0 jl
 rw[aaY]at jl;have:=iU i0;have:=iU j0;rw[A,A,if_neg (by omega),if_neg (by omega)];exact Z.b j i0 jl j0 e
end Wh
open Go Go.dG
theorem gX (e:Value×Value)(es:List (Value×Value))(k:Value)[Decidable (e.1=k)]:uh (e::es) k=if e.1=k then some e.2 else uh es k:=by
 unfold uh;rw[List.find?_cons];by_cases h:e.1=k
 ·rw[if_pos h];simp[h]
 rw[if_neg h];simp[h]
theorem Ci (k:Value):uh [] k=none:=rfl
theorem X9 (es:List (Value×Value))(k v k':Value)(hn:∀e∈es,e.1≠k):uh (es++ [(k,v)]) k'=(by classical exact if k'=k then some v else uh es k'):=by
 classical
 induction es with
 |nil=>
  rw[List.nil_append,gX,Ci];by_cases h:k'=k
  ·rw[if_pos h.symm,if_pos h]
  rw[if_neg (λg=>h g.symm),if_neg h]
 |cons e es ih=>
  rw[List.cons_append,gX,gX,ih (λx hx=>hn x (aaW _ hx))];by_cases h:e.1=k'
  ·rw[if_pos h,if_pos h,if_neg (λg=>hn e aaV (h.trans g))]
  rw[if_neg h,if_neg h]
theorem X7 (es:List (Value×Value))(k v k':Value):uh (CY es k v) k'=(by classical exact if k'=k then some v else uh es k'):=by
 classical
 by_cases hx:∃e∈es,e.1=k
 ·rw[BU hx]
  have hk:uh es k≠none:=by
   obtain⟨e,he,hk⟩:=hx;intro g;simp only[uh,Option.map_eq_none_iff,List.find?_eq_none]at g;have:=g e he;simp[hk]at this
  clear hx
  induction es with
  |nil=>exact absurd (Ci k) hk
  |cons e es ih=>
   rw[aaX,gX,gX];rw[gX]at hk;by_cases h:e.1=k
   ·rw[if_pos h]
    by_cases g:k'=k
    ·rw[if_pos g,if_pos g.symm]
    rw[if_neg g,if_neg (λz=>g z.symm),if_neg (λz=>g (z.symm.trans h))]
    clear ih hk
    induction es with
    |nil=>rfl
    |cons x es ih=>
     rw[aaX,gX,gX,ih];by_cases hx:x.1=k
     ·rw[if_pos hx,if_neg (λz=>g z.symm),if_neg (λz=>g (z.symm.trans hx))]
     rw[if_neg hx]
   rw[if_neg h]at hk⊢;rw[ih hk];by_cases g:k'=k
   ·rw[if_pos g,if_pos g,if_neg (λz=>h (z.trans g))]
   rw[if_neg g,if_neg g]
 rw[BV (λe he g=>hx ⟨e,he,g⟩)];exact X9 es k v k' (λe he g=>hx ⟨e,he,g⟩)
theorem X8 (es:List (Value×Value))(k k':Value):uh (FF es k) k'=(by classical exact if k'=k then none else uh es k'):=by
 classical
 unfold FF
 induction es with
 |nil=>by_cases h:k'=k<;>simp[h,Ci]
 |cons e es ih=>
  rw[afT];by_cases h:e.1=k
  ·rw[if_neg (by simp[h]),ih,gX]
   by_cases g:k'=k
   ·rw[if_pos g,if_pos g]
   rw[if_neg g,if_neg g,if_neg (λz=>g (z.symm.trans h))]
  rw[if_pos (by simp[h]),gX,ih,gX];by_cases g:k'=k
  ·rw[if_pos g,if_pos g,if_neg (λz=>h (z.trans g))]
  rw[if_neg g,if_neg g]
def zn (a b:Int):Int:=if a<b then-1 else if b<a then 1 else 0
theorem Az (a:Int):aO aaO 238 [CO CN a] (λ_=>True) [] (λv H=>v= .bool false/\H= []):=by
 refine ag func238 rfl ntmps238 rfl ?_;intro F _;refine bM ?_;refine Rt [] results238 ?_;exact⟨by rw[decide_eq_true rfl];rfl,rfl⟩
theorem Fs (a b:Int):aO aaO 167 [CO CN a,CO CN b] (λ_=>True) [] (λv H=>v=CO CN (zn a b)/\H= []):=by
 unfold zn;refine ag func167 rfl ntmps167 rfl ?_;intro F _;refine bE ?_;refine zl CF (Az a) .nil CI ?_;refine bm ?_;refine zl CF (Az b) .nil CI ?_;refine cC ?_;refine bA ?_;refine aE rfl ?_ ?_
 ·intro h1
  replace h1:=aS h1;refine bE ?_;refine Rt [] results167 ?_;exact⟨by rw[if_pos (by omega)],rfl⟩
 intro h1;replace h1:=aS h1;refine dm ?_;refine aE rfl ?_ ?_
 ·intro h2
  replace h2:=aS h2;refine bE ?_;refine Rt [] results167 ?_;exact⟨by rw[if_neg (by omega),if_pos (by omega)],rfl⟩
 intro h2;replace h2:=aS h2;refine bG ?_;refine Rt [] results167 ?_;exact⟨by rw[if_neg (by omega),if_neg (by omega)],rfl⟩
theorem ua (a:Int):aO aaO 239 [CO CJ a] (λ_=>True) [] (λv H=>v= .bool false/\H= []):=by
 refine ag func239 rfl ntmps239 rfl ?_;intro F _;refine bM ?_;refine Rt [] results239 ?_;exact⟨by rw[decide_eq_true rfl];rfl,rfl⟩
theorem yM (a b:Int):aO aaO 168 [CO CJ a,CO CJ b] (λ_=>True) [] (λv H=>v=CO CN (zn a b)/\H= []):=by
 unfold zn;refine ag func168 rfl ntmps168 rfl ?_;intro F _;refine bE ?_;refine zl CF (ua a) .nil CI ?_;refine bm ?_;refine zl CF (ua b) .nil CI ?_;refine cC ?_;refine bA ?_;refine aE rfl ?_ ?_
 ·intro h1
  replace h1:=aS h1;refine bE ?_;refine Rt [] results168 ?_;exact⟨by rw[if_pos (by omega)],rfl⟩
 intro h1;replace h1:=aS h1;refine dm ?_;refine aE rfl ?_ ?_
 ·intro h2
  replace h2:=aS h2;refine bE ?_;refine Rt [] results168 ?_;exact⟨by rw[if_neg (by omega),if_pos (by omega)],rfl⟩
 intro h2;replace h2:=aS h2;refine bG ?_;refine Rt [] results168 ?_;exact⟨by rw[if_neg (by omega),if_neg (by omega)],rfl⟩
theorem ac0 (s x y:Int)(a:Nat):aO aaO 166 [.slice (some ⟨a,0,none⟩) 2 2] (In (af a 3 [CO CN x,CO CN y])) [] (λv H=>v=CO CN (if x=0 then y else x)/\H= []):=by
 refine ag func166 rfl ntmps166 rfl ?_;intro F ao;refine gz ?_;refine Lo (ι:=Nat) [9,10,11,5,12,13,14,15,2,16,8] (λi=>i<=2/\(1<=i->x=0)/\(2<=i->y=0)) (λi=> [(8,CO CN i)]) (λi=> []) (λi=>2-i) (0) ⟨by omega,by omega,by omega⟩ ?_;rintro i hI;obtain⟨g1,g2,g3⟩:=hI;refine bz ?_;refine aw ?_;by_cases h0:i=0
 ·subst h0
  refine bG ?_;refine Li (Ix ja) ?_;refine dm ?_;refine aE rfl ?_ ?_
  ·intro h2
   replace h2:=aS h2;refine bM ?_;refine Rt [] results166 ?_;exact⟨by rw[if_neg (by omega)],rfl⟩
  intro h2;replace h2:=aS h2;refine bG ?_;refine aF ?_;refine Ro (1) (⟨by omega,λ_=>by omega,by omega⟩) (by omega)
 by_cases h1:i=1
 ·subst h1
  refine bG ?_;refine Li (Ix ja) ?_;refine dm ?_;refine aE rfl ?_ ?_
  ·intro h2
   replace h2:=aS h2;refine bM ?_;refine Rt [] results166 ?_;exact⟨by rw[if_pos (g2 (by omega))],rfl⟩
  intro h2;replace h2:=aS h2;refine bG ?_;refine aF ?_;refine Ro (2) (⟨by omega,by omega,λ_=>by omega⟩) (by omega)
 refine cO ?_;refine bM ?_;refine Rt [] results166 ?_;exact⟨by rw[if_pos (g2 (by omega)),g3 (by omega)],rfl⟩
def eN (e:En):List Value:= [CO CJ e.h,CO CN e.ex,CO CJ e.tu]
def enV (e:En):Value:= .agg (eN e).toArray
def F8 (a b:En):Int:=if zn (a.ex:Int) (b.ex:Int)=0 then zn (a.tu:Int) (b.tu:Int)else zn (a.ex:Int) (b.ex:Int)
theorem oE (a b:En):F8 a b<0↔En.lt a b:=by
 unfold F8 zn En.lt
 split<;>(repeat' split)<;>(try split at*)<;>omega
theorem tN (a b:En):aO aaO 116 [enV a,enV b] (λ_=>True) [] (λv H=>v=CO CN (F8 a b)/\H= []):=by
 unfold enV eN;refine ag func116 rfl ntmps116 rfl ?_;intro F _;refine av ?_;refine Lp (oB λb1=> ?_);refine Lp (oB λb2=> ?_);refine bA ?_;refine aw ?_;refine hJ 13 mix (.cons .here (.cons .here .nil)) λF1 jf bZ aN=> ?_;obtain⟨q1,q2,_⟩:=bZ;refine bm ?_;refine Tp (oC CF rfl rfl (Fs (a.ex:Int) (b.ex:Int)) .nil CI ?_);rintro v H' ⟨rfl,rfl⟩;refine aX ?_;refine bm ?_;refine Tp (oC CF rfl rfl (yM (a.tu:Int) (b.tu:Int)) .nil CI ?_);rintro v H' ⟨rfl,rfl⟩;refine aX ?_;refine Tp (oT fU λb3=> ?_);refine Tp (oC CF rfl rfl (ac0 0 (zn (a.ex:Int) (b.ex:Int)) (zn (a.tu:Int) (b.tu:Int)) _) .nil (λ_ le ao=>ao.1) ?_);rintro v H' ⟨rfl,rfl⟩;refine aX ?_;refine av ?_;refine gd aN ?_;refine bA ?_;refine Rt [] results116 ?_;exact⟨rfl,rfl⟩
def Iu (a:Option Addr)(n c mb tn:Nat):List Value:= [.slice a n c, .map (some mb),CO CJ tn]
def hv (h:Nat):Value:=CO CJ h
def iv (i:Nat):Value:=CO CN i
theorem tm (w n c mb tn i:Nat)(a:Option Addr)(x:En)(cs:List Value)(es:List (Value×Value))(hi:i<n)(hc:n*3<=cs.length)(ha:a.isSome=true):
  aO aaO 227 [CM w,CO CN i,enV x] (In (af w 200 (Iu a n c mb tn))) [own a c 202 3 cs,mq (.int .u64) mb es]
   (λv H=>v= .tuple #[]/\H= [own a c 202 3 (cZ cs (i*3) (eN x)),mq (.int .u64) mb (CY es (hv x.h) (iv i))]):=by
 unfold enV;refine ag func227 rfl ntmps227 rfl ?_;rintro F hw;unfold Iu at hw;refine av ?_;refine Lp (oB λb1=> ?_);refine av ?_;refine aw ?_;refine gT false mix ?_;refine bG ?_;refine Ti (Ix iB) ?_;refine Tp (oSON uO ?_ (vs:=eN x) (h1:=by simp[eN,Value.oneCell']) (hj:=by show _+3<=_;omega) (h0:=by show 0<3;omega));unfold eN;refine av ?_;refine hJ 8 mix (.cons .here .nil) λF1 jf bZ aN=> ?_;obtain⟨q1,_⟩:=bZ;replace hw:=In.mono hw jf;refine bR ?_;refine Tp (oQi T.pX ?_);refine gd aN ?_;refine Tn ?_;refine jW [own a c 202 3 (cZ cs (i*3) (eN x)),mq (.int .u64) mb (CY es (hv x.h) (iv i))] results227 ?_;exact⟨rfl,rfl⟩
namespace Wh
def Nd (M:List En):Prop:=(M.map En.h).Nodup
def OL (es:List (Value×Value))(pl:Nat->Option Nat):Prop:=∀h,uh es (hv h)=(pl h).map iv
def iP (pl:Nat->Option Nat)(h j:Nat):Nat->Option Nat:=λx=>if x=h then some j else pl x
def del (pl:Nat->Option Nat)(h:Nat):Nat->Option Nat:=λx=>if x=h then none else pl x
theorem Bv{a b:Nat}:hv a=hv b↔a=b:=by
 unfold hv
 constructor
 ·intro h;injection h with _ h;omega
 intro h;rw[h]
theorem OL.iP{es:List (Value×Value)}{pl:Nat->Option Nat}(R:OL es pl)(h j:Nat):OL (CY es (hv h) (iv j)) (iP pl h j):=λx=>by
 rw[X7];unfold Wh.iP;by_cases e:x=h
 ·rw[if_pos (Bv.2 e),if_pos e];rfl
 rw[if_neg (λg=>e (Bv.1 g)),if_neg e];exact R x
theorem OL.del{es:List (Value×Value)}{pl:Nat->Option Nat}(R:OL es pl)(h:Nat):OL (FF es (hv h)) (del pl h):=λx=>by
 rw[X8];unfold Wh.del;by_cases e:x=h
 ·rw[if_pos (Bv.2 e),if_pos e];rfl
 rw[if_neg (λg=>e (Bv.1 g)),if_neg e];exact R x
theorem xk{M:List En}(N:Nd M){j k:Nat}(hj:j<M.length)(hk:k<M.length)(e:(at_ M j).h=(at_ M k).h):j=k:=by
 have h1:=fS hj;have h2:=fS hk;exact iC N (x:=(at_ M j).h) (by rw[aa6,h1];rfl) (by rw[aa6,h2,e];rfl)
theorem jZ{M L:List En}(p:L.Perm M)(N:Nd M):Nd L:=(p.map En.h).nodup_iff.2 N
structure Wc (M:List En)(i:Nat)(pl:Nat->Option Nat):Prop where
 a:∀j,j<M.length->j≠i->pl (at_ M j).h=some j
 b:∀h,pl h≠none->∃k,k<M.length/\(at_ M k).h=h
structure wo (M:List En)(pl:Nat->Option Nat):Prop where
 a:∀j,j<M.length->pl (at_ M j).h=some j
 b:∀h,pl h≠none->∃k,k<M.length/\(at_ M k).h=h
theorem Wc.sw{M:List En}{i c:Nat}{pl:Nat->Option Nat}(P:Wc M i pl)(N:Nd M)(hi:i<M.length)(hc:c<M.length)(ne:i≠c):Wc (sw M i c) c (iP pl (at_ M c).h i):=by
 have A:=Dm hi hc;refine⟨λj jl n=> ?_,λh g=> ?_⟩
 ·rw[mW]at jl
  rw[A,if_neg n];unfold iP;by_cases e:j=i
  ·rw[if_pos e,if_pos rfl,e]
  rw[if_neg e,if_neg (λz=>n (xk N jl hc z))];exact P.a j jl e
 unfold iP at g;rw[mW];by_cases e:h=(at_ M c).h
 ·exact⟨i,hi,by rw[A,if_neg ne,if_pos rfl,e]⟩
 rw[if_neg e]at g;obtain⟨k,k1,k2⟩:=P.b h g;by_cases e1:k=i
 ·exact⟨c,hc,by rw[A,if_pos rfl,<-e1,k2]⟩
 have e2:k≠c:=λz=>e (by rw[<-k2,z]);exact⟨k,k1,by rw[A,if_neg e2,if_neg e1,k2]⟩
theorem Wc.done{M:List En}{i:Nat}{pl:Nat->Option Nat}(P:Wc M i pl)(N:Nd M)(hi:i<M.length):wo M (iP pl (at_ M i).h i):=by
 refine⟨λj jl=> ?_,λh g=> ?_⟩
 ·unfold iP
  by_cases e:j=i
  ·rw[if_pos (by rw[e]),e]
  rw[if_neg (λz=>e (xk N jl hi z))];exact P.a j jl e
 unfold iP at g;by_cases e:h=(at_ M i).h
 ·exact⟨i,hi,e.symm⟩
 rw[if_neg e]at g;exact P.b h g
theorem wo.none{M:List En}{pl:Nat->Option Nat}(P:wo M pl){h:Nat}(n:∀x∈M,x.h≠h):pl h=none:=by
 cases e:pl h with
 |none=>rfl
 |some j=>
  obtain⟨k,k1,k2⟩:=P.b h (by rw[e];simp);exact absurd k2 (n _ (aaT (fS k1)))
theorem wo.at{M:List En}{pl:Nat->Option Nat}(P:wo M pl){x:En}(hx:x∈M):∃k,k<M.length/\at_ M k=x/\pl x.h=some k:=by
 obtain⟨k,hk,e⟩:=aft hx;have:at_ M k=x:=by
  have:=fS hk;rw[aaQ hk,e]at this;exact(Option.some.inj this).symm
 exact⟨k,hk,this,by rw[<-this];exact P.a k hk⟩
def cells (M:List En)(sp:List Value):List Value:=M.flatMap eN++sp
theorem l8:∀x,(eN x).length=3:=λ_=>rfl
theorem NT (M:List En)(sp:List Value):(cells M sp).length=M.length*3+sp.length:=by
 unfold cells;rw[aaZ]
 congr 1
 induction M with
 |nil=>rfl
 |cons a l ih=>rw[af2,aaZ,ih,l8,afn];omega
theorem dV (M:List En):(M.flatMap eN).length=M.length*3:=by
 have:=NT M [];unfold cells at this
 simpa using this
theorem iM:∀{M:List En} {j:Nat} (x:En),j<M.length->cZ (M.flatMap eN) (j*3) (eN x)=(M.set j x).flatMap eN
 |a::M,0,x,_=>by
  rw[af2,mN (by rw[aaZ,l8,l8];omega),List.set_cons_zero,af2];rfl
 |a::M,j+1,x,h=>by
  have ih:=iM (M:=M) (j:=j) x (by simpa using h);have hl:=dV M;have h2:j<M.length:=by simpa using h
  rw[mN (by rw[hl,l8];omega)]at ih;rw[af2,mN (by rw[aaZ,l8,l8,hl];omega),List.set_cons_succ,af2,<-ih];rw[show(j+1)*3=j*3+3 by omega,show j*3+3+(eN x).length=j*3+(eN x).length+3 by omega];rfl
theorem ik{M:List En}{j:Nat}(h:j<M.length):((M.flatMap eN).drop (j*3)).take 3=eN (at_ M j):=by
 have hl:=dV M;apply ajg;intro k;rw[List.getElem?_take]
 split
 ·next hk=>
  rw[List.getElem?_drop];have h3:k<(eN (at_ M j)).length:=hk;rw[bo l8 (fS h) (aaQ h3)];exact(aaQ h3).symm
 next hk=>exact(aa7 (by rw[l8];omega)).symm
theorem Qg{M:List En}{i c:Nat}(y:En)(hi:i<M.length)(hc:c<M.length)(ne:i≠c):(M.set i y).set i (at_ M c)=(sw M i c).set c (at_ M c):=by
 unfold sw;rw[afN,afN];have h:(M.set i (at_ M c))[c]?=some (at_ M c):=by rw[agi,if_neg ne];exact fS hc
 exact(gn h).symm
end Wh
open Go Go.dG Go.Proofs.YtcbcjolpdljbiaaGreat.Wh
theorem Qh{P:Program}{n:Nat}{ds:List Deferred}{F:dC}{σ:aZ}{o:Oper}{t yt:TypeId}{x y:Operand}{i:Nat}(hi:i<4611686018427387904)(ho:o.op= .binOp .quo t x y yt:=by exact rfl)(hx:bJ σ x=some (CO CN ((i:Int)-1)):=by exact rfl)(hy:bJ σ y=some (CO CN 2):=by exact rfl):Yv P n ds F σ o (CO CN (par i)):=
 xj ho hx hy (by
  show(if(2:Int)=0 then none else some (IntKind.i64.wrap (((i:Int)-1).tdiv 2)))=_;rw[if_neg (by decide)];have:((i:Int)-1).tdiv 2=(par i:Int):=by
   unfold par;rcases i with _|i
   ·rfl
   rw[show(((i+1:Nat):Int)-1)=(i:Int) by omega,Nat.add_sub_cancel,Int.tdiv_eq_ediv_of_nonneg (by omega)];omega
  rw[this,wrap_i64 (by unfold par;omega)])
structure SI (L M:List En)(i:Nat)(e:En)(es:List (Value×Value))(pl:Nat->Option Nat):Prop where
 hx:Hx M i
 pm:M.Perm L
 px:Wc M i pl
 pr:OL es pl
 ln:M.length=L.length
 lt:i<M.length
 e:at_ M i=e
structure aiT (L M:List En)(es:List (Value×Value)):Prop where
 hp:zw M
 pm:M.Perm L
 ok:∃pl,OL es pl/\wo M pl
theorem yj (w c mb tn i:Nat)(a:Option Addr)(L:List En)(es:List (Value×Value))(pl:Nat->Option Nat)(hi:i<L.length)(hx:Hx L i)(N:Nd L)(hp:Wc L i pl)(R:OL es pl)(hm:L.length<4611686018427387904)(ha:a.isSome=true):
  aO aaO 241 [CM w,CO CN i] (λ_=>True) [af w 200 (Iu a L.length c mb tn),own a c 202 3 (L.flatMap eN),mq (.int .u64) mb es]
   (λv H=>v= .tuple #[]/\∃M es',H= [af w 200 (Iu a L.length c mb tn),own a c 202 3 (M.flatMap eN),mq (.int .u64) mb es']/\aiT L M es'):=by
 have qZ:=dV L;have Zj:=ik hi;unfold Iu;have ZY:L.set i (at_ L i)=L:=gn (fS hi);obtain⟨e,he⟩:∃e,e=at_ L i:=⟨_,rfl⟩;rw[<-he]at Zj ZY;refine ag func241 rfl ntmps241 rfl ?_;intro F _;refine bG ?_;refine Li (Ix iB) ?_;refine av ?_;refine Lp (oA xu λb1=> ?_);refine Lp (iF uO ?_ (h1:=by simp[eN,Value.oneCell']));refine bE ?_;refine Li ((Qh (i:=i) (by omega))) ?_;refine bA ?_;refine dt (ι:=List En×Nat×List En×List (Value×Value)×(Nat->Option Nat)) [17,18,19,20,21,22,23,24,25,26,27,28,29,30,34,35,36,37,38,39,40,41,42,43,44,1,31,32,33,5] (λs=>SI L s.1 s.2.1 e s.2.2.2.1 s.2.2.2.2/\(∃z,s.2.2.1=s.1.set s.2.1 z)/\(0<s.2.1->En.le (at_ s.1 (par s.2.1)) (at_ s.1 s.2.1))) (λs=> [(1,CO CN s.2.1)]) (λs=> [af b1 202 (eN e),af w 200 [.slice a L.length c, .map (some mb),CO CJ tn],own a c 202 3 (s.2.2.1.flatMap eN),mq (.int .u64) mb s.2.2.2.1]) ?_ ?_
 ·refine qD ?_
  refine Lo (ι:=List En×Nat×List En×List (Value×Value)×(Nat->Option Nat)) [17,18,19,20,21,22,23,24,25,26,27,28,29,30,34,35,36,37,38,39,40,41,42,43,44,1,31,32,33,5] (λs=>SI L s.1 s.2.1 e s.2.2.2.1 s.2.2.2.2/\∃z,s.2.2.1=s.1.set s.2.1 z) (λs=> [(1,CO CN s.2.1),(5,CO CN (par s.2.1))]) (λs=> [af b1 202 (eN e),af w 200 [.slice a L.length c, .map (some mb),CO CJ tn],own a c 202 3 (s.2.2.1.flatMap eN),mq (.int .u64) mb s.2.2.2.1]) (λs=>s.2.1) ((L,i,L,es,pl)) ⟨⟨hx,aa1.refl _,hp,R,rfl,hi,he.symm⟩,e,ZY.symm⟩ ?_;rintro⟨M,k,P,FE,p1⟩ hI;dsimp only at hI⊢;obtain⟨S,z,hP⟩:=hI;have hk:=S.lt;have FA:=S.ln;have hPl:P.length=M.length:=by rw[hP,aaY]
  have hfp:=dV P;have NM:=jZ S.pm N;by_cases h0:0<k
  ·have hpk:=iU h0
   have hft2:=ik (M:=P) (j:=par k) (by omega);have w7:at_ P (par k)=at_ M (par k):=by rw[hP,l9 hk,if_neg (by omega)]
   rw[w7]at hft2;have Zg:=oE e (at_ M (par k));refine av ?_;refine aw ?_;refine hJ 13 mix (.cons .here (.cons .here (.cons .here .nil))) λF1 jf bZ aN=> ?_;obtain⟨q1,q2,q3,_⟩:=bZ;have r3:=bP q3;refine bz ?_;refine zt 19 ?_;refine bG ?_;refine Ti (Ix iB) ?_;refine av ?_;refine Tp (oC CF rfl rfl (tN e (at_ M (par k))) .nil CI ?_);rintro v H' ⟨rfl,rfl⟩;refine aX ?_;refine av ?_;refine gd aN ?_;refine bA ?_;by_cases cL:En.lt e (at_ M (par k))
   ·refine eU ?_ (e:=by exact decide_eq_true (Zg.2 cL))
    refine dB ?_;refine Li (Ix iB) ?_;refine av ?_;refine zl CF (tm w L.length c mb tn k a (at_ M (par k)) (P.flatMap eN) FE (by omega) (by omega) ha) (.cons (.there (.there .here)) (.cons (.there (.there .here)) .nil)) (λ_ le ao=>ao.nth 1 rfl) ?_;rw[Wh.iM _ (by omega)];refine bM ?_;refine Li ((Qh (i:=par k) (by omega))) ?_;refine av ?_;refine aF ?_;refine Ro ((sw M k (par k),par k,P.set k (at_ M (par k)),CY FE (hv (at_ M (par k)).h) (iv k),iP p1 (at_ M (par k)).h k)) (⟨⟨ah4 S.hx h0 hk (by rw[S.e];exact cL),(Jb hk (by omega) (by omega)).trans S.pm,S.px.sw NM hk (by omega) (by omega),S.pr.iP _ _,(by rw[mW];exact FA),(show par k<(sw M k (par k)).length by rw[mW];omega),(by rw[Dm hk (by omega),if_pos rfl];exact S.e)⟩,at_ M (par k),(by rw[hP];exact Qg z hk (by omega) (by omega))⟩) ((by dsimp only;omega))
   refine cO ?_ (e:=by exact decide_eq_false (λg=>cL (Zg.1 g)));refine bm ?_;refine Me ((M,k,P,FE,p1)) (⟨S,⟨z,hP⟩,λ_=>(by rw[S.e];exact En.vd cL)⟩)
  obtain rfl:k=0:=by omega
  refine av ?_;refine aw ?_;refine hJ 13 mix (.cons .here (.cons .here (.cons .here .nil))) λF2 yO ez cQ=> ?_;obtain⟨q1,q2,q3,_⟩:=ez;refine bz ?_;refine zf 19 ?_ (e:=by rfl);refine bM ?_;refine gd cQ ?_;refine bR ?_;refine Me ((M,0,P,FE,p1)) (⟨S,⟨z,hP⟩,λh=>absurd h (Nat.lt_irrefl 0)⟩)
 rintro s hI;obtain⟨M0,k0,P0,es0,p0⟩:=s;dsimp only at hI⊢;obtain⟨S0,z0,hu0⟩:=hI;refine aw ?_;refine dt (ι:=List En×Nat×List En×List (Value×Value)×(Nat->Option Nat)) [45,46,47,6,48,49,50,51,52,53,54,55,56,57,58,59,60,61,62,63,64,65,66,67,68,69,70,71,72,73,74,75,76,77,78,79,80,81,82,83,84,85,86,87,88,89,90,91,92,93,94,95,96,97,98,99,100,101,102,103,104,105,106,1] (λs=>(SI L s.1 s.2.1 e s.2.2.2.1 s.2.2.2.2/\(∃z,s.2.2.1=s.1.set s.2.1 z)/\(0<s.2.1->En.le (at_ s.1 (par s.2.1)) (at_ s.1 s.2.1)))/\∀j,0<j->j<s.1.length->par j=s.2.1->En.le e (at_ s.1 j)) (λs=> [(1,CO CN s.2.1)]) (λs=> [af b1 202 (eN e),af w 200 [.slice a L.length c, .map (some mb),CO CJ tn],own a c 202 3 (s.2.2.1.flatMap eN),mq (.int .u64) mb s.2.2.2.1]) ?_ ?_
 ·refine qD ?_
  refine Lo (ι:=List En×Nat×List En×List (Value×Value)×(Nat->Option Nat)) [45,46,47,6,48,49,50,51,52,53,54,55,56,57,58,59,60,61,62,63,64,65,66,67,68,69,70,71,72,73,74,75,76,77,78,79,80,81,82,83,84,85,86,87,88,89,90,91,92,93,94,95,96,97,98,99,100,101,102,103,104,105,106,1] (λs=>SI L s.1 s.2.1 e s.2.2.2.1 s.2.2.2.2/\(∃z,s.2.2.1=s.1.set s.2.1 z)/\(0<s.2.1->En.le (at_ s.1 (par s.2.1)) (at_ s.1 s.2.1))) (λs=> [(1,CO CN s.2.1)]) (λs=> [af b1 202 (eN e),af w 200 [.slice a L.length c, .map (some mb),CO CJ tn],own a c 202 3 (s.2.2.1.flatMap eN),mq (.int .u64) mb s.2.2.2.1]) (λs=>L.length-s.2.1) ((M0,k0,P0,es0,p0)) ⟨S0,z0,hu0⟩ ?_;rintro⟨M,k,P,FE,p1⟩ hI;dsimp only at hI⊢;obtain⟨S,⟨z,hP⟩,hu⟩:=hI;have hk:=S.lt;have FA:=S.ln;have hPl:P.length=M.length:=by rw[hP,aaY]
  have hfp:=dV P;have NM:=jZ S.pm N;refine dm ?_;refine aw ?_;refine ay (t:=6) (v':=(CO CN (2*k+1:Nat))) rfl (by rfl) ?_;refine dt (ι:=Bool) [48,49,50,51,52,53,54,55,56,57,58,59,60,61,62,63,64,65,66,67,68,69,70,71,72,73,74] (λt=>t=decide (2*k+2<L.length/\En.lt (at_ M (2*k+2)) (at_ M (2*k+1)))) (λt=> [(74, .bool t)]) (λt=> [af b1 202 (eN e),af w 200 [.slice a L.length c, .map (some mb),CO CJ tn],own a c 202 3 (P.flatMap eN),mq (.int .u64) mb FE]) ?_ ?_
  ·by_cases h2:2*k+2<L.length
   ·have f1:=ik (M:=P) (j:=2*k+2) (by omega)
    have f2:=ik (M:=P) (j:=2*k+1) (by omega);rw[show at_ P (2*k+2)=at_ M (2*k+2) by rw[hP,l9 hk,if_neg (by omega)]]at f1;rw[show at_ P (2*k+1)=at_ M (2*k+1) by rw[hP,l9 hk,if_neg (by omega)]]at f2;have Zg:=oE (at_ M (2*k+2)) (at_ M (2*k+1));refine hJ 26 mix (.cons .here (.cons .here (.cons .here .nil))) λF3 Ow pt eI=> ?_;obtain⟨q1,q2,q3,_⟩:=pt;have r3:=bP q3;refine cA ?_;refine zt 56 ?_;refine bG ?_;refine Ti (Ix iB (j:=2*k+2) (hj:=by omega)) ?_;refine bG ?_;refine Ti (Ix iB (j:=2*k+1) (hj:=by omega)) ?_;refine av ?_;refine Tp (oC CF rfl rfl (tN (at_ M (2*k+2)) (at_ M (2*k+1))) .nil CI ?_);rintro v H' ⟨rfl,rfl⟩;refine aX ?_;refine av ?_;refine gd eI ?_;refine av ?_;refine Tn ?_;refine Me ((decide (F8 (at_ M (2*k+2)) (at_ M (2*k+1))<0))) ((decide_eq_decide.2 ⟨λg=>⟨h2,Zg.1 g⟩,λg=>Zg.2 g.2⟩))
   refine hJ 26 mix (.cons .here (.cons .here (.cons .here .nil))) λF4 le4 Dg o6=> ?_;obtain⟨q1,q2,q3,_⟩:=Dg;refine cA ?_;refine zf 56 ?_;refine ri ?_;refine gd o6 ?_;refine av ?_;refine Tn ?_;refine Me (false) ((by rw[decide_eq_false (λg=>h2 g.1)]))
  rintro t ht;refine dt (ι:=Nat) [75,76,6] (λd=>(2*k+1<=d/\d<=2*k+2)/\∀j,0<j->j<M.length->par j=k->d<M.length/\En.le (at_ M d) (at_ M j)) (λd=> [(6,CO CN d)]) (λd=> [af b1 202 (eN e),af w 200 [.slice a L.length c, .map (some mb),CO CJ tn],own a c 202 3 (P.flatMap eN),mq (.int .u64) mb FE]) ?_ ?_
  ·refine aE rfl ?_ ?_
   ·intro hc
    replace hc:=aS hc;rw[hc]at ht;have qq:=of_decide_eq_true ht.symm;refine bm ?_;refine aF ?_;refine Me ((2*k+2)) (⟨⟨(by omega),(by omega)⟩,λj j0 jl pj=>⟨(by omega),(by have hj:j=2*k+1\/j=2*k+2:=(by unfold par at pj;omega);rcases hj with rfl|rfl;exact En.le_of_lt qq.2;exact En.le_refl _)⟩⟩)
   intro hc;replace hc:=aS hc;rw[hc]at ht;have qq:=of_decide_eq_false ht.symm;refine av ?_;refine Me ((2*k+1)) (⟨⟨(by omega),(by omega)⟩,λj j0 jl pj=>⟨(by unfold par at pj;omega),(by have hj:j=2*k+1\/j=2*k+2:=(by unfold par at pj;omega);rcases hj with rfl|rfl;exact En.le_refl _;exact En.vd λg=>qq ⟨(by omega),g⟩)⟩⟩)
  rintro d hd;refine av ?_;refine aw ?_;by_cases hdn:d<L.length
  ·have f1:=ik (M:=P) (j:=d) (by omega)
   rw[show at_ P d=at_ M d by rw[hP,l9 hk,if_neg (by omega)]]at f1;have Zg:=oE e (at_ M d);refine hJ 19 mix (.cons .here (.cons .here (.cons .here .nil))) λF5 le5 Wu vF=> ?_;obtain⟨q1,q2,q3,_⟩:=Wu;have r3:=bP q3;refine dm ?_;refine zf 84 ?_;refine bG ?_;refine Ti (Ix iB) ?_;refine av ?_;refine Tp (oC CF rfl rfl (tN e (at_ M d)) .nil CI ?_);rintro v H' ⟨rfl,rfl⟩;refine aX ?_;refine bA ?_;refine gd vF ?_;refine av ?_;by_cases cL:En.lt e (at_ M d)
   ·refine eU ?_ (e:=by exact decide_eq_true (Zg.2 cL))
    refine bE ?_;refine Me ((M,k,P,FE,p1)) (⟨⟨S,⟨z,hP⟩,hu⟩,λj j0 jl pj=>En.le_trans (En.le_of_lt cL) (hd.2 j j0 jl pj).2⟩)
   refine cO ?_ (e:=by exact decide_eq_false (λg=>cL (Zg.1 g)));have hle:=En.vd cL;have hpd:par d=k:=by unfold par;omega
   have hdw:=Yp S.hx hk (c:=d) (by omega) (by omega) hpd (λj j0 jl pj=>(hd.2 j j0 jl pj).2) (by rw[S.e];exact hle);refine bM ?_;refine Li (Ix iB) ?_;refine av ?_;refine zl CF (tm w L.length c mb tn k a (at_ M d) (P.flatMap eN) FE (by omega) (by omega) ha) (.cons (.there (.there .here)) (.cons (.there (.there .here)) .nil)) (λ_ le ao=>ao.nth 1 rfl) ?_;rw[Wh.iM _ (by omega)];refine bG ?_;refine Ro ((sw M k d,d,P.set k (at_ M d),CY FE (hv (at_ M d).h) (iv k),iP p1 (at_ M d).h k)) (⟨⟨hdw.1,(Jb hk (by omega) (by omega)).trans S.pm,S.px.sw NM hk (by omega) (by omega),S.pr.iP _ _,(by rw[mW];exact FA),(show d<(sw M k d).length by rw[mW];omega),(by rw[Dm hk (by omega),if_pos rfl];exact S.e)⟩,⟨at_ M d,(by rw[hP];exact Qg z hk (by omega) (by omega))⟩,λ_=>hdw.2⟩) ((by dsimp only;omega))
  refine hJ 19 mix (.cons .here (.cons .here (.cons .here .nil))) λF6 le6 hin6 aiP=> ?_;obtain⟨q1,q2,q3,_⟩:=hin6;refine dm ?_;refine zt 84 ?_;refine bW ?_;refine gd aiP ?_;refine bR ?_;refine Me ((M,k,P,FE,p1)) (⟨⟨S,⟨z,hP⟩,hu⟩,λj j0 jl pj=>absurd (hd.2 j j0 jl pj).1 (by omega)⟩)
 rintro s hI;obtain⟨M,k,P,FE,p1⟩:=s;dsimp only at hI⊢;obtain⟨⟨S,⟨z,hP⟩,hu⟩,hch⟩:=hI;have hk:=S.lt;have FA:=S.ln;have hPl:P.length=M.length:=by rw[hP,aaY]
 have hfp:=dV P;have NM:=jZ S.pm N;refine bm ?_;refine zl CF (tm w L.length c mb tn k a e (P.flatMap eN) FE (by omega) (by omega) ha) (.cons (.there (.there .here)) (.cons (.there (.there .here)) .nil)) (λ_ le ao=>ao.nth 1 rfl) ?_;rw[Wh.iM _ (by omega)];have hPM:P.set k e=M:=by
  rw[hP,afN];exact gn (by rw[fS hk,S.e])
 rw[hPM];refine aF ?_;refine jW [af w 200 [.slice a L.length c, .map (some mb),CO CJ tn],own a c 202 3 (M.flatMap eN),mq (.int .u64) mb (CY FE (hv e.h) (iv k))] results241 ?_;refine⟨rfl,M,CY FE (hv e.h) (iv k),rfl,Yq S.hx hu (by rw[S.e];exact hch),S.pm,iP p1 e.h k,S.pr.iP _ _, ?_⟩;have:=S.px.done NM hk
 rwa[S.e]at this
structure Om where
 a:Option Addr
 c:Nat
 mb:Nat
 es:List (Value×Value)
structure r7 (M:List En)(y:Om)(tn:Nat):Prop where
 hp:zw M
 nd:Nd M
 pl:∃pl,OL y.es pl/\wo M pl
 tu:∀x∈M,x.tu<=tn
 td:(M.map En.tu).Nodup
 sm:M≠ []->y.a.isSome=true
 ln:M.length<2147483648
 cp:M.length<=y.c
 ex:∀x∈M,0<x.ex
def yN (w:Nat)(y:Om)(M:List En)(tn:Nat):List aa:= [af w 200 (Iu y.a M.length y.c y.mb tn),own y.a y.c 202 3 (M.flatMap eN),mq (.int .u64) y.mb y.es]
def Wl (w:Nat)(E:List En)(tn:Nat):aa:=λh=>∃y M,M.Perm E/\r7 M y tn/\aG (yN w y M tn) h
def eX (E:List En)(h:Nat):List En:=E.filter λx=>decide (x.h≠h)
def lK (E:List En)(h ex tn:Nat):List En:=if 0<ex then⟨h,ex,tn+1⟩::eX E h else eX E h
def pG (E:List En)(f t:Nat):List En:=if f∈E.map En.h/\f≠t then(eX E t).map λx=>if x.h=f then{x with h:=t}else x else E
theorem yi{x:En}{M L:List En}(p:(x::L).Perm M)(N:Nd M):L.Perm (eX M x.h):=by
 have n2:Nd (x::L):=jZ p N;unfold Nd at n2;rw[aaX,aa3]at n2;have e:(x::L).filter (λz=>decide (z.h≠x.h))=L:=by
  rw[afT,if_neg (by simp),aj7];intro z hz;simp only[decide_eq_true_eq];intro g;exact n2.1 (acA.2 ⟨z,hz,g⟩)
 have:=p.filter (λz=>decide (z.h≠x.h));rw[e]at this;exact this
theorem Sc{M:List En}{h:Nat}(n:∀x∈M,x.h≠h):eX M h=M:=by
 unfold eX;rw[aj7];intro x hx
 simpa using n x hx
theorem oN{M L:List En}(p:M.Perm L)(h:Nat):(eX M h).Perm (eX L h):=p.filter _
theorem zZ{M:List En}{h:Nat}:∀x∈eX M h,x∈M/\x.h≠h:=λx hx=>by
 have:=aba.1 hx;exact⟨this.1,by simpa using this.2⟩
theorem Qc{M L:List En}{tn:Nat}{x:En}(p:(x::L).Perm M)(t:∀z∈M,z.tu<=tn)(d:(M.map En.tu).Nodup):(∀z∈L,z.tu<=tn)/\(L.map En.tu).Nodup:=by
 refine⟨λz hz=>t z (p.mem_iff.1 (aaW _ hz)), ?_⟩;have:=(p.map En.tu).nodup_iff.2 d;rw[aaX,aa3]at this;exact this.2
theorem Cp{M:List En}(h:0<M.length):M=M.dropLast++ [at_ M (M.length-1)]:=by
 have h1:=List.dropLast_concat_getLast (l:=M) (by intro e;rw[e]at h;cases h);have h2:M.getLast (by intro e;rw[e]at h;cases h)=at_ M (M.length-1):=by
  have:=fS (M:=M) (j:=M.length-1) (by omega);rw[List.getLast_eq_getElem,<-Option.some_inj,<-this,aaQ]
 rw[<-h2];exact h1.symm
theorem DL{M:List En}{j:Nat}(h:j<M.length-1):at_ M.dropLast j=at_ M j:=by
 unfold at_;rw[aaP,aaP,ajX,if_pos h]
theorem K6{M:List En}{pl:Nat->Option Nat}(h:0<M.length)(N:Nd M)(P:wo M pl):(at_ M (M.length-1)::M.dropLast).Perm M/\wo M.dropLast (del pl (at_ M (M.length-1)).h):=by
 have hl:=Cp h;refine⟨?_,λj jl=> ?_,λk g=> ?_⟩
 ·exact(afl (l₁:= [at_ M (M.length-1)])).trans (by rw[<-hl])
 ·rw[afF]at jl
  rw[DL jl];unfold del;rw[if_neg (λe=>by have:=xk N (by omega) (by omega) e;omega)];exact P.a j (by omega)
 unfold del at g;by_cases e:k=(at_ M (M.length-1)).h
 ·rw[if_pos e]at g;exact absurd rfl g
 rw[if_neg e]at g;obtain⟨u,u1,u2⟩:=P.b k g;have ne:u≠M.length-1:=λz=>e (by rw[<-u2,z]);exact⟨u,by rw[afF];omega,by rw[DL (by omega)];exact u2⟩
theorem Sp{M:List En}{pl:Nat->Option Nat}{i:Nat}(hi:i<M.length-1)(H:zw M)(N:Nd M)(P:wo M pl):
  (at_ M i::M.dropLast.set i (at_ M (M.length-1))).Perm M/\Hx (M.dropLast.set i (at_ M (M.length-1))) i/\Wc (M.dropLast.set i (at_ M (M.length-1))) i (iP (del pl (at_ M i).h) (at_ M (M.length-1)).h i):=by
 have hl:=Cp (M:=M) (by omega);have hd:i<M.dropLast.length:=by rw[afF];exact hi
 refine⟨?_,adm (AB H) hd _,λj jl n=> ?_,λk g=> ?_⟩
 ·have h0:=iO (fS hd) (at_ M.dropLast i)
  rw[gn (fS hd),DL hi]at h0;have h1:=iO (fS hd) (at_ M (M.length-1));refine(aa1.cons _ h1).trans ((aa1.swap _ _ _).trans ((aa1.cons _ h0.symm).trans ?_));exact(afl (l₁:= [at_ M (M.length-1)])).trans (by rw[<-hl])
 ·rw[aaY,afF]at jl
  rw[l9 hd,if_neg n,DL jl];unfold iP del;rw[if_neg (λe=>by have:=xk N (by omega) (by omega) e;omega),if_neg (λe=>n (xk N (by omega) (by omega) e))];exact P.a j (by omega)
 rw[aaY,afF];unfold iP del at g;by_cases e:k=(at_ M (M.length-1)).h
 ·exact⟨i,hi,by rw[l9 hd,if_pos rfl,e]⟩
 rw[if_neg e]at g;by_cases e2:k=(at_ M i).h
 ·rw[if_pos e2]at g;exact absurd rfl g
 rw[if_neg e2]at g;obtain⟨u,u1,u2⟩:=P.b k g;have n1:u≠M.length-1:=λz=>e (by rw[<-u2,z]);have n2:u≠i:=λz=>e2 (by rw[<-u2,z]);exact⟨u,by omega,by rw[l9 hd,if_neg n2,DL (by omega)];exact u2⟩
theorem YD{M:List En}(h:0<M.length):(M.flatMap eN).take ((M.length-1)*3)=M.dropLast.flatMap eN:=by
 have hl:=Cp h;have h2:M.flatMap eN=M.dropLast.flatMap eN++eN (at_ M (M.length-1)):=by
  have:M.flatMap eN=(M.dropLast++ [at_ M (M.length-1)]).flatMap eN:=by rw[<-hl]
  rw[this,ago];simp
 have h3:=Wh.dV M.dropLast;rw[afF]at h3;rw[h2,ajG (by omega),List.take_of_length_le (by omega)]
theorem W6{M:List En}{pl:Nat->Option Nat}(P:wo M pl)(x:En):Wc (M++ [x]) M.length pl:=by
 have a:∀j,j<M.length->at_ (M++ [x]) j=at_ M j:=λj h=>by
  unfold at_;rw[aaP,aaP,agf h]
 refine⟨λj jl n=> ?_,λh g=> ?_⟩
 ·rw[aaZ,afV]at jl
  rw[a j (by omega)];exact P.a j (by omega)
 obtain⟨k,k1,k2⟩:=P.b h g;exact⟨k,by rw[aaZ];omega,by rw[a k k1];exact k2⟩
structure TkOk (M:List En)(h tn:Nat)(y':Om)(M':List En):Prop where
 ok:r7 M' y' tn
 pm:M'.Perm (eX M h)
theorem RE (a:Option Addr)(m k:Nat):Be a 0 m (0*k)=a:=by
 unfold Be
 split
 ·rfl
 ·rw[Nat.zero_mul];cases a<;>simp[add_zero']
theorem uZ{M:List En}(h:0<M.length):M≠ []:=λe=>by rw[e]at h;cases h
theorem tH (w:Nat)(y:Om)(M:List En)(tn h:Nat)(W:r7 M y tn):
  aO aaO 194 [CM w,CO CJ h] (λ_=>True) (yN w y M tn)
   (λv H=>∃y' M',v= .bool (decide (h∈M.map En.h))/\H=yN w y' M' tn/\TkOk M h tn y' M'):=by
 obtain⟨pl,R,P⟩:=W.pl;have hR:=R h;unfold hv at hR;by_cases hx:∃x∈M,x.h=h
 ·obtain⟨x,VW,Zb⟩:=hx
  obtain⟨i,hi,w7,hpl⟩:=P.at VW;rw[Zb]at hpl;rw[hpl,Option.map_some]at hR;have ao:h∈M.map En.h:=acA.2 ⟨x,VW,Zb⟩;have ha:=W.sm (λe=>by rw[e]at VW;cases VW);have qZ:=Wh.dV M;have FA:=W.ln;have hcp:=W.cp;have Zj:=Wh.ik (M:=M) (j:=M.length-1) (by omega);rw[decide_eq_true ao];unfold yN Iu;generalize Zk:y.es=es at*;refine ag func194 rfl ntmps194 rfl ?_;intro F _;refine cA ?_;refine Lp (Wm T.pX ?_);refine bW ?_;rw[hR,Option.getD_some,Option.isSome_some];unfold iv;refine cA ?_;refine Lp (oQd T.pX ?_);refine bM ?_;refine aw ?_;refine ay (t:=7) (v':=(CO CN (M.length-1:Nat))) rfl (by(congr 1;omega)) ?_;refine bG ?_;refine Li (Ix iB) ?_;refine av ?_;refine Lp (oA xu λb1=> ?_);refine Lp (iF uO ?_ (h1:=by simp[eN,Value.oneCell']));refine dm ?_;refine Li (Sl 0 _ _ iB) ?_;refine bM ?_;rw[RE,ajy,ajy];refine Hh (H':= [af b1 202 (eN (at_ M (M.length-1))),af w 200 [.slice y.a (M.length-1) y.c, .map (some y.mb),CO CJ tn],own y.a y.c 202 3 (M.flatMap eN),mq (.int .u64) y.mb (FF es (CO CJ h))]) ?_;refine au (λ_ s=>aK (λ_ s=>aK (λ_ s=>bB (λ_ p=>xZ p ((M.length-1)*3)) s) s) s) ?_;rw[YD (by omega)];have Od:M.dropLast.length=M.length-1:=afF;have hfd:=Wh.dV M.dropLast;have R1:=R.del h;unfold hv at R1;have hnh:(at_ M i).h=h:=by rw[w7,Zb]
  by_cases hl:i<M.length-1
  ·obtain⟨t1,t2,t3⟩:=Sp hl W.hp W.nd P
   rw[hnh]at t3;have N2:Nd (M.dropLast.set i (at_ M (M.length-1))):=by
    have:=jZ t1 W.nd;unfold Nd at this;rw[aaX,aa3]at this;exact this.2
   have S:=Qc t1 W.tu W.td;have pm:=yi t1 W.nd;rw[hnh]at pm;have Dz:(M.dropLast.set i (at_ M (M.length-1))).length=M.length-1:=by rw[aaY,Od]
   have st:=yj w y.c y.mb tn i y.a (M.dropLast.set i (at_ M (M.length-1))) (CY (FF es (CO CJ h)) (hv (at_ M (M.length-1)).h) (iv i)) _ (by omega) t2 N2 t3 (R1.iP _ _) (by omega) ha;rw[Dz]at st;have hex:∀z∈M.dropLast.set i (at_ M (M.length-1)),0<z.ex:=λz hz=>W.ex z (t1.mem_iff.1 (aaW _ hz));generalize hM2:M.dropLast.set i (at_ M (M.length-1))=M2 at*;refine eU ?_;refine bm ?_;refine zl CF (tm w (M.length-1) y.c y.mb tn i y.a (at_ M (M.length-1)) (M.dropLast.flatMap eN) (FF es (CO CJ h)) (by omega) (by omega) ha) (.cons (.there (.there .here)) (.cons (.there (.there .here)) .nil)) (λ_ le ao=>ao.nth 1 rfl) ?_;rw[Wh.iM _ (by omega),hM2];refine bm ?_;refine Lp (oC CF rfl rfl (st) (.cons (.there (.there (.there .here))) (.cons .here (.cons .here .nil))) CI ?_);rintro v H' ⟨rfl,M3,es3,rfl,S3⟩;refine aX ?_;have l3:M3.length=M.length-1:=by rw[S3.pm.length_eq,Dz]
   rw[<-l3];refine bE ?_;refine Rt [af w 200 [.slice y.a M3.length y.c, .map (some y.mb),CO CJ tn],own y.a y.c 202 3 (M3.flatMap eN),mq (.int .u64) y.mb es3] results194 ?_;refine⟨⟨y.a,y.c,y.mb,es3⟩,M3,rfl,rfl,⟨S3.hp,jZ S3.pm N2,S3.ok,λz hz=>S.1 z (S3.pm.mem_iff.1 hz),(S3.pm.map En.tu).nodup_iff.2 S.2,λ_=>ha,by omega,by show _<=y.c;omega,λz hz=>hex z (S3.pm.mem_iff.1 hz)⟩,S3.pm.trans pm⟩
  obtain rfl:i=M.length-1:=by omega
  obtain⟨t1,t2⟩:=K6 (by omega) W.nd P;rw[hnh]at t2;have S:=Qc t1 W.tu W.td;have pm:=yi t1 W.nd;rw[hnh]at pm;have N2:Nd M.dropLast:=by
   have:=jZ t1 W.nd;unfold Nd at this;rw[aaX,aa3]at this;exact this.2
  rw[<-Od];refine cO ?_;refine bG ?_;refine Rt [af w 200 [.slice y.a M.dropLast.length y.c, .map (some y.mb),CO CJ tn],own y.a y.c 202 3 (M.dropLast.flatMap eN),mq (.int .u64) y.mb (FF es (CO CJ h))] results194 ?_;exact⟨⟨y.a,y.c,y.mb,FF es (CO CJ h)⟩,M.dropLast,rfl,rfl,⟨AB W.hp,N2,⟨_,R1,t2⟩,S.1,S.2,λ_=>ha,by omega,by show _<=y.c;omega,λz hz=>W.ex z (t1.mem_iff.1 (aaW _ hz))⟩,pm⟩
 have mD:∀x∈M,x.h≠h:=λx h1 h2=>hx ⟨x,h1,h2⟩;have ao:¬h∈M.map En.h:=λg=>by
  obtain⟨x,h1,h2⟩:=acA.1 g;exact hx ⟨x,h1,h2⟩
 rw[P.none mD,Option.map_none]at hR;rw[decide_eq_false ao];unfold yN Iu;generalize Zk:y.es=es at*;refine ag func194 rfl ntmps194 rfl ?_;intro F _;refine cA ?_;refine Lp (Wm T.pX ?_);refine bW ?_;rw[hR,Option.getD_none,Option.isSome_none];refine bG ?_;refine Rt [af w 200 [.slice y.a M.length y.c, .map (some y.mb),CO CJ tn],own y.a y.c 202 3 (M.flatMap eN),mq (.int .u64) y.mb es] results194 ?_;exact⟨y,M,rfl,by rw[Zk],W,by rw[Sc mD]⟩
structure aaI (M:List En)(h ex tn:Nat)(y':Om)(M':List En):Prop where
 ok:r7 M' y' (if 0<ex then tn+1 else tn)
 pm:M'.Perm (lK M h ex tn)
theorem Sd (w:Nat)(y:Om)(M:List En)(tn h:Nat)(ex:Int)(W:r7 M y tn)(he:ex<=0):
  aO aaO 173 [CM w,CO CJ h,CO CN ex] (λ_=>True) (yN w y M tn)
   (λv H=>∃y' M',v= .tuple #[]/\H=yN w y' M' tn/\aaI M h 0 tn y' M'):=by
 unfold yN;refine ag func173 rfl ntmps173 rfl ?_;intro F _;refine bz ?_;refine Lp (oC CF rfl rfl (tH w y M tn h W) (.cons .here (.cons .here (.cons .here .nil))) CI ?_);rintro v H' ⟨y1,M1,rfl,rfl,T1⟩;refine aX ?_;refine bG ?_;refine eU ?_ (e:=by exact decide_eq_true he);refine bA ?_;refine Rt0 [af w 200 (Iu y1.a M1.length y1.c y1.mb tn),own y1.a y1.c 202 3 (M1.flatMap eN),mq (.int .u64) y1.mb y1.es] results173 ?_;exact⟨y1,M1,rfl,rfl,T1.ok,T1.pm⟩
theorem WI (w:Nat)(y:Om)(M:List En)(tn h ex:Nat)(W:r7 M y tn)(he:0<ex)(ht:tn<18446744073709551615)(hm:M.length<2147483647):
  aO aaO 173 [CM w,CO CJ h,CO CN ex] (λ_=>True) (yN w y M tn)
   (λv H=>∃y' M',v= .tuple #[]/\H=yN w y' M' (tn+1)/\aaI M h ex tn y' M'):=by
 unfold yN;refine ag func173 rfl ntmps173 rfl ?_;intro F _;refine bz ?_;refine Lp (oC CF rfl rfl (tH w y M tn h W) (.cons .here (.cons .here (.cons .here .nil))) CI ?_);rintro v H' ⟨y1,M1,rfl,rfl,T1⟩;refine aX ?_;have W1:=T1.ok;have hl1:M1.length<=M.length:=by rw[T1.pm.length_eq];exact List.length_filter_le _ _
 have qZ:=Wh.dV M1;refine Hh (H':= [af w 200 [.slice y1.a M1.length y1.c, .map (some y1.mb),CO CJ tn],own y1.a y1.c 202 3 (M1.flatMap eN),mq (.int .u64) y1.mb y1.es]) ?_;refine bG ?_;refine cO ?_;refine dB ?_;refine aw ?_;refine hJ 14 mix (.cons .here .nil) λF1 jf bZ aN=> ?_;obtain⟨q1,_⟩:=bZ;refine dB ?_;refine Tp (oT1 BR λb1=> ?_);refine Tp (bT BR Qr rfl rfl rfl rfl .here (by omega) (rfl) (by simp[cZ,Value.cells,Value.oneCell']) (by omega) (by omega) rfl λa2 c2 rB=> ?_);refine gd aN ?_;obtain⟨x,hx⟩:∃x:En,x=⟨h,ex,tn+1⟩:=⟨_,rfl⟩;have OE:(M1++ [x]).flatMap eN=M1.flatMap eN++ [CO CJ h,CO CN ex,CO CJ ((tn:Int)+1)]:=by
  rw[ago,hx];rfl
 have hlen:(M1++ [x]).length=M1.length+1:=by simp
 have hnot:∀z∈M1,z.h≠h:=λz hz=>(zZ z (T1.pm.mem_iff.1 hz)).2;have htu:=W1.tu;obtain⟨pl,R,P⟩:=W1.pl;have N2:Nd (M1++ [x]):=by
  unfold Nd;rw[afy,afL];refine⟨W1.nd,by simp,λu hu v hv e=> ?_⟩;obtain⟨z,hz,rfl⟩:=acA.1 hu;simp only[aaX,akr,afq]at hv;rw[hv,hx]at e;exact hnot z hz e
 refine dB ?_;refine ay (t:=40) (v':=(CO CN M1.length)) rfl (by(congr 1;omega)) ?_;refine Hh (H':= [af w 200 [.slice a2 (M1.length+1) c2, .map (some y1.mb),CO CJ ((tn:Int)+1)],own a2 c2 202 3 (M1.flatMap eN++ [CO CJ h,CO CN ex,CO CJ ((tn:Int)+1)]),mq (.int .u64) y1.mb y1.es]) ?_;rw[<-OE,<-hlen];refine kT (gp (.there .here) (λk o=>kD o (by rw[Wh.dV,hlen];omega))) λha=> ?_;refine Lp (oC CF rfl rfl (yj w c2 y1.mb (tn+1) M1.length a2 (M1++ [x]) y1.es pl (by omega) (Yo W1.hp x) N2 (W6 P x) R (by omega) ha) (.cons .here (.cons .here (.cons .here .nil))) CI ?_);rintro v H' ⟨rfl,M3,es3,rfl,S3⟩;refine aX ?_;have l3:M3.length=(M1++ [x]).length:=S3.pm.length_eq;rw[<-l3];refine aF ?_;refine jW [af w 200 (Iu a2 M3.length c2 y1.mb (tn+1)),own a2 c2 202 3 (M3.flatMap eN),mq (.int .u64) y1.mb es3] results173 ?_;have mem:∀z,z∈M3->z∈M1\/z=x:=λz hz=>by simpa using S3.pm.mem_iff.1 hz
 refine⟨⟨a2,c2,y1.mb,es3⟩,M3,rfl,rfl,⟨S3.hp,jZ S3.pm N2,S3.ok,λz hz=> ?_,(S3.pm.map En.tu).nodup_iff.2 ?_,λ_=>ha,by omega,by show _<=c2;omega,λz hz=> ?_⟩, ?_⟩
 ·rw[if_pos he]
  rcases mem z hz with g|g
  ·have:=htu z g;omega
  rw[g,hx];exact aa0 _
 ·rw[afy,afL]
  refine⟨W1.td,by simp,λu hu v hv e=> ?_⟩;obtain⟨z,hz,rfl⟩:=acA.1 hu;simp only[aaX,akr,afq]at hv;rw[hv,hx]at e;have:=htu z hz;change z.tu=tn+1 at e;omega
 ·rcases mem z hz with g|g
  ·exact W1.ex z g
  rw[g,hx];exact he
 unfold lK;rw[if_pos he,<-hx];exact S3.pm.trans ((afl (l₂:= [x])).trans (aa1.cons x T1.pm))
structure aiS (M:List En)(f t tn:Nat)(y':Om)(M':List En):Prop where
 ok:r7 M' y' tn
 pm:M'.Perm (pG M f t)
def gH (f t:Nat)(x:En):En:=if x.h=f then{x with h:=t}else x
theorem ah0{M:List En}{y:Om}{tn f t i:Nat}{es2:List (Value×Value)}{pl:Nat->Option Nat}(W:r7 M y tn)(P:wo M pl)(hi:i<M.length)(hf:(at_ M i).h=f)(ht:∀x∈M,x.h≠t)
  (R:OL es2 (iP (del pl f) t i)):r7 (M.set i {at_ M i with h:=t}) {y with es:=es2} tn/\M.set i {at_ M i with h:=t}=M.map (gH f t):=by
 have A:=l9 hi {at_ M i with h:=t};have hl:(M.set i {at_ M i with h:=t}).length=M.length:=aaY;have b0:=iO (fS hi) (at_ M i);rw[gn (fS hi)]at b0;have b1:=iO (fS hi) {at_ M i with h:=t};have mem:∀z∈M.set i {at_ M i with h:=t},∃x∈M,z.ex=x.ex/\z.tu=x.tu:=λz hz=>by
  rcases aa5.1 (b1.mem_iff.1 hz)with e|e
  ·exact⟨at_ M i,aaT (fS hi),by rw[e],by rw[e]⟩
  exact⟨z,ajS e,rfl,rfl⟩
 refine⟨⟨λj j0 jl=> ?_, ?_,⟨_,R,λj jl=> ?_,λh g=> ?_⟩,λz hz=> ?_, ?_,λ_=>W.sm (uZ (by omega)),by rw[hl];exact W.ln,by rw[hl];exact W.cp,λz hz=> ?_⟩, ?_⟩
 ·rw[hl]at jl
  have h:=W.hp j j0 jl;have q:∀u,(at_ (M.set i {at_ M i with h:=t}) u).ex=(at_ M u).ex/\(at_ (M.set i {at_ M i with h:=t}) u).tu=(at_ M u).tu:=λu=>by
   rw[A];by_cases e:u=i
   ·rw[if_pos e,e];exact⟨rfl,rfl⟩
   rw[if_neg e];exact⟨rfl,rfl⟩
  unfold En.le at*;rw[(q j).1,(q j).2,(q (par j)).1,(q (par j)).2];exact h
 ·refine jZ b1 ?_
  have n0:=jZ b0.symm W.nd;unfold Nd at*;rw[aaX,aa3]at n0⊢;refine⟨λg=> ?_,n0.2⟩;obtain⟨z,hz,e⟩:=acA.1 g;exact ht z (ajS hz) e
 ·rw[hl]at jl
  rw[A];unfold iP del;by_cases e:j=i
  ·rw[if_pos e,if_pos rfl,e]
  have hj:=aaT (fS jl);rw[if_neg e,if_neg (ht _ hj),if_neg (λz=>e (xk W.nd jl hi (by rw[z,hf])))];exact P.a j jl
 ·rw[hl]
  unfold iP del at g;by_cases e:h=t
  ·exact⟨i,hi,by rw[A,if_pos rfl,e]⟩
  rw[if_neg e]at g;by_cases e2:h=f
  ·rw[if_pos e2]at g;exact absurd rfl g
  rw[if_neg e2]at g;obtain⟨u,u1,u2⟩:=P.b h g;have n1:u≠i:=λz=>e2 (by rw[<-u2,z,hf]);exact⟨u,u1,by rw[A,if_neg n1];exact u2⟩
 ·obtain⟨x,hx,_,e⟩:=mem z hz
  rw[e];exact W.tu x hx
 ·have n0:=(b0.map En.tu).nodup_iff.1 W.td
  rw[aaX]at n0;refine(b1.map En.tu).nodup_iff.2 ?_;rw[aaX];exact n0
 ·obtain⟨x,hx,e,_⟩:=mem z hz
  rw[e];exact W.ex x hx
 apply ajg;intro j;rw[agi,aa6];by_cases e:i=j
 ·subst e
  rw[if_pos rfl,if_pos hi,fS hi,Option.map_some];unfold gH;rw[if_pos hf]
 rw[if_neg e];by_cases hj:j<M.length
 ·rw[fS hj,Option.map_some]
  unfold gH;rw[if_neg (λz=>e (xk W.nd hi hj (by rw[z,hf])))]
 rw[aa7 (by omega)];rfl
theorem Se (w:Nat)(y:Om)(M:List En)(tn f t:Nat)(W:r7 M y tn)(ft:f≠t):
  aO aaO 161 [CM w,CO CJ f,CO CJ t] (λ_=>True) (yN w y M tn)
   (λv H=>∃y' M',v= .bool (decide (f∈M.map En.h))/\H=yN w y' M' tn/\aiS M f t tn y' M'):=by
 obtain⟨pl,R,P⟩:=W.pl;have hR:=R f;unfold hv at hR;by_cases ao:f∈M.map En.h
 ·obtain⟨x,VW,Zb⟩:=acA.1 ao
  obtain⟨i,hi,w7,hpl⟩:=P.at VW;rw[Zb]at hpl;rw[hpl,Option.map_some]at hR;rw[decide_eq_true ao];unfold yN;refine ag func161 rfl ntmps161 rfl ?_;intro F _;unfold Iu;refine cA ?_;refine Lp (Wm T.pX ?_);refine bW ?_;rw[hR,Option.getD_some,Option.isSome_some];refine zf 22 ?_ (e:=by rfl);refine bE ?_;refine cO ?_;refine bE ?_;refine Lp (oC CF rfl rfl (tH w y M tn t W) (.cons .here (.cons .here (.cons .here .nil))) CI ?_);rintro v H' ⟨y1,M1,rfl,rfl,T1⟩;refine aX ?_;have W1:=T1.ok;obtain⟨pl1,R1,P1⟩:=W1.pl;have N7:x∈M1:=T1.pm.mem_iff.2 (aba.2 ⟨VW,by simp only[decide_eq_true_eq];rw[Zb];exact ft⟩);obtain⟨j,hj,hatj,agP⟩:=P1.at N7;rw[Zb]at agP;have hR1:=R1 f;rw[agP,Option.map_some]at hR1;unfold hv iv at hR1;have qZ:=Wh.dV M1;have Zj:=Wh.ik (M:=M1) (j:=j) hj;have ha:=W1.sm (uZ (by omega));refine Hh (H':= [af w 200 [.slice y1.a M1.length y1.c, .map (some y1.mb),CO CJ tn],own y1.a y1.c 202 3 (M1.flatMap eN),mq (.int .u64) y1.mb y1.es]) ?_;refine bR ?_;refine Lp (oQl T.pX ?_);refine bA ?_;refine aw ?_;rw[hR1,Option.getD_some];refine bG ?_;refine Li (Ix iB) ?_;refine av ?_;refine Lp (oA xu λb1=> ?_);refine Lp (iF uO ?_ (h1:=by simp[eN,Value.oneCell']));refine av ?_;refine aw ?_;unfold eN;refine bE ?_;refine aw ?_;refine Hh (H':= [af b1 202 (eN {at_ M1 j with h:=t}),af w 200 [.slice y1.a M1.length y1.c, .map (some y1.mb),CO CJ tn],own y1.a y1.c 202 3 (M1.flatMap eN),mq (.int .u64) y1.mb y1.es]) ?_;refine bG ?_;refine Lp (oQd T.pX ?_);refine bE ?_;refine zl CF (tm w M1.length y1.c y1.mb tn j y1.a {at_ M1 j with h:=t} (M1.flatMap eN) (FF y1.es (hv f)) (by omega) (by omega) ha) (.cons (.there (.there .here)) (.cons (.there (.there .here)) .nil)) (λ_ le ao=>ao.nth 1 rfl) ?_;rw[Wh.iM _ (by omega)];have ht1:∀z∈M1,z.h≠t:=λz hz=>(zZ z (T1.pm.mem_iff.1 hz)).2;have hfj:(at_ M1 j).h=f:=by rw[hatj,Zb]
  obtain⟨V,eV⟩:=ah0 W1 P1 hj hfj ht1 ((R1.del f).iP t j);have CS:(M1.set j {at_ M1 j with h:=t}).length=M1.length:=aaY;have pm:(M1.set j {at_ M1 j with h:=t}).Perm (pG M f t):=by
   rw[eV];unfold pG;rw[if_pos ⟨ao,ft⟩];exact T1.pm.map _
  generalize M1.set j {at_ M1 j with h:=t}=M2 at*;rw[<-CS];refine bE ?_;refine Rt [af w 200 [.slice y1.a M2.length y1.c, .map (some y1.mb),CO CJ tn],own y1.a y1.c 202 3 (M2.flatMap eN),mq (.int .u64) y1.mb (CY (FF y1.es (hv f)) (hv t) (iv j))] results161 ?_;exact⟨⟨y1.a,y1.c,y1.mb,_⟩,M2,rfl,rfl,V,pm⟩
 have mD:∀x∈M,x.h≠f:=λx h1 h2=>ao (acA.2 ⟨x,h1,h2⟩);rw[P.none mD,Option.map_none]at hR;rw[decide_eq_false ao];unfold yN Iu;generalize Zk:y.es=es at*;refine ag func161 rfl ntmps161 rfl ?_;intro F _;refine cA ?_;refine Lp (Wm T.pX ?_);refine bW ?_;rw[hR,Option.getD_none,Option.isSome_none];refine zt 22 ?_ (e:=by rfl);refine dB ?_;refine Rt [af w 200 [.slice y.a M.length y.c, .map (some y.mb),CO CJ tn],own y.a y.c 202 3 (M.flatMap eN),mq (.int .u64) y.mb es] results161 ?_;exact⟨y,M,rfl,by rw[Zk],W,by unfold pG;rw[if_neg (λg=>ao g.1)]⟩
theorem GC{P:Program}{f:FuncId}{args:List Value}{pre:Hp->Prop}{H:List aa}{R:Value->List aa->Prop}{w tn:Nat}{E:List En}(h:∀y M,M.Perm E->r7 M y tn->aO P f args pre (yN w y M tn++H) R):aO P f args pre (Wl w E tn::H) R:=
 aO.exL λy=>aO.exL λM=>aO.Dv λp=>aO.Dv λW=>aO.Gr (h y M p W)
theorem tE{w tn:Nat}{E M:List En}{y:Om}{H:List aa}{h:Hp}(p:M.Perm E)(W:r7 M y tn)(st:ai (yN w y M tn++H) h):ai (Wl w E tn::H) h:=
 bB (λ_ s=>⟨y,M,p,W,s⟩) (dU st)
theorem abF{w tn:Nat}{E:List En}{h:Hp}(o:In (Wl w E tn) h):∃y M,M.Perm E/\r7 M y tn/\gP (yN w y M tn) h:=by
 obtain⟨k,⟨y,M,p,W,st⟩,le⟩:=o;exact⟨y,M,p,W,cq st le⟩
theorem JD{M E:List En}(p:M.Perm E)(h:Nat):decide (h∈M.map En.h)=decide (h∈E.map En.h):=decide_eq_decide.2 (p.map En.h).mem_iff
theorem Vu (w:Nat)(E:List En)(tn h:Nat):
  aO aaO 194 [CM w,CO CJ h] (λ_=>True) [Wl w E tn]
   (λv H=>v= .bool (decide (h∈E.map En.h))/\H= [Wl w (eX E h) tn]):=by
 refine GC λy M p W=>(tH w y M tn h W).out λv H' hr=> ?_;obtain⟨y1,M1,rfl,rfl,T⟩:=hr;exact⟨_,⟨by rw[JD p],rfl⟩,λk s=>tE (T.pm.trans (oN p h)) T.ok (by simpa using s)⟩
theorem z6{M E:List En}(p:M.Perm E)(h ex tn:Nat):(lK M h ex tn).Perm (lK E h ex tn):=by
 unfold lK
 split
 ·exact aa1.cons _ (oN p h)
 exact oN p h
theorem Kn (w:Nat)(E:List En)(tn h:Nat)(ex:Nat)(ht:tn<18446744073709551615)(hm:E.length<2147483647):
  aO aaO 173 [CM w,CO CJ h,CO CN ex] (λ_=>True) [Wl w E tn]
   (λv H=>v= .tuple #[]/\H= [Wl w (lK E h ex tn) (if 0<ex then tn+1 else tn)]):=by
 refine GC λy M p W=> ?_;by_cases he:0<ex
 ·refine(WI w y M tn h ex W he ht (by rw[p.length_eq];exact hm)).out λv H' hr=> ?_
  obtain⟨y1,M1,rfl,rfl,T⟩:=hr;have ok:=T.ok;rw[if_pos he]at ok⊢;exact⟨_,⟨rfl,rfl⟩,λk s=>tE (T.pm.trans (z6 p h ex tn)) ok (by simpa using s)⟩
 obtain rfl:ex=0:=by omega
 refine(Sd w y M tn h 0 W (by omega)).out λv H' hr=> ?_;obtain⟨y1,M1,rfl,rfl,T⟩:=hr;have ok:=T.ok;rw[if_neg he]at ok⊢;exact⟨_,⟨rfl,rfl⟩,λk s=>tE (T.pm.trans (z6 p h 0 tn)) ok (by simpa using s)⟩
theorem Hw{M E:List En}(p:M.Perm E)(f t:Nat):(pG M f t).Perm (pG E f t):=by
 unfold pG;have e:(f∈M.map En.h)↔(f∈E.map En.h):=(p.map En.h).mem_iff;by_cases h:f∈M.map En.h/\f≠t
 ·rw[if_pos h,if_pos ⟨e.1 h.1,h.2⟩]
  exact(oN p t).map _
 rw[if_neg h,if_neg (λg=>h ⟨e.2 g.1,g.2⟩)];exact p
theorem Vv (w:Nat)(E:List En)(tn f t:Nat)(ft:f≠t):
  aO aaO 161 [CM w,CO CJ f,CO CJ t] (λ_=>True) [Wl w E tn]
   (λv H=>v= .bool (decide (f∈E.map En.h))/\H= [Wl w (pG E f t) tn]):=by
 refine GC λy M p W=>(Se w y M tn f t W ft).out λv H' hr=> ?_;obtain⟨y1,M1,rfl,rfl,T⟩:=hr;exact⟨_,⟨by rw[JD p],rfl⟩,λk s=>tE (T.pm.trans (Hw p f t)) T.ok (by simpa using s)⟩
theorem Y5:aO aaO 110 [] (λ_=>True) [] (λv H=>∃w,v=CM w/\H= [Wl w [] 0]):=by
 have h:aO aaO 110 [] (λ_=>True) [] (λv H=>∃w mb,v=CM w/\H=yN w ⟨none,0,mb,[]⟩ [] 0):=by
  unfold yN Iu;refine ag func110 rfl ntmps110 rfl ?_;intro F _;refine bm ?_;refine Lp (oQm (.int .u64) λm1=> ?_);refine av ?_;refine Lp (oB λb1=> ?_);refine bz ?_;refine dw 202 3 ?_;refine Rt [af b1 200 [.slice none 0 0, .map (some m1),CO CJ 0],own none 0 202 3 [],mq (.int .u64) m1 []] results110 ?_;exact⟨b1,m1,rfl,rfl⟩
 refine h.out λv H' hr=> ?_;obtain⟨w,mb,rfl,rfl⟩:=hr;refine⟨_,⟨w,rfl,rfl⟩,λk s=>tE (H:= []) (y:=⟨none,0,mb,[]⟩) (aa1.refl []) ⟨λj h1 h2=>absurd h2 (aiY _),ai3,⟨λ_=>none,λh=>rfl,λj h=>absurd h (aiY _),λh g=>absurd rfl g⟩,(λx h=>by cases h),ai3,λh=>absurd rfl h,by decide,aa0 0,(λx h=>by cases h)⟩ (by simpa using s)⟩
def rZ (M:List En)(now:Int)(i:Nat):Bool:=decide (i<M.length)&&decide (((at_ M i).ex:Int)<=now)
def Ol (D:List Nat):List Nat:=D.flatMap λi=> [2*i+1,2*i+2]
theorem Kc{D:List Nat}{j:Nat}:j∈Ol D↔0<j/\par j∈D:=by
 unfold Ol;rw[List.mem_flatMap]
 constructor
 ·rintro⟨i,hi,h⟩
  simp only[aa5,agh,or_false]at h;have:0<j/\par j=i:=by unfold par;omega
  exact⟨this.1,by rw[this.2];exact hi⟩
 rintro⟨h0,hp⟩;exact⟨par j,hp,by simp only[aa5,agh,or_false];unfold par;omega⟩
theorem Vg (D:List Nat)(i:Nat):Ol (D++ [i])=Ol D++ [2*i+1,2*i+2]:=by unfold Ol;rw[ago];simp
structure FI (M:List En)(now:Int)(k:Nat)(look D:List Nat):Prop where
 lk:look=0::Ol D
 dk:D=(look.take k).filter (rZ M now)
 nd:look.Nodup
 kl:k<=look.length
theorem FI.start (M:List En)(now:Int):FI M now 0 [0] []:=⟨rfl,rfl,by simp,by simp⟩
theorem FI.dN{M:List En}{now:Int}{k:Nat}{look D:List Nat}(B:FI M now k look D):D.Nodup/\(∀i∈D,i<M.length)/\D.length<=M.length:=by
 have h1:D.Nodup:=by rw[B.dk];exact(B.nd.sublist (List.take_sublist _ _)).sublist afY
 have h2:∀i∈D,i<M.length:=λi hi=>by
  rw[B.dk]at hi;have:=(aba.1 hi).2;unfold rZ at this;simp only[aki,decide_eq_true_eq]at this;exact this.1
 exact⟨h1,h2,nQ _ _ h1 h2⟩
theorem YW (D:List Nat):(Ol D).length=D.length*2:=by
 induction D with
 |nil=>rfl
 |cons a l ih=>
  have:Ol (a::l)= [2*a+1,2*a+2]++Ol l:=rfl;rw[this,aaZ,ih];simp;omega
theorem FI.len{M:List En}{now:Int}{k:Nat}{look D:List Nat}(B:FI M now k look D):look.length=D.length*2+1/\look.length<=2*M.length+1:=by
 have:=B.dN.2.2;have h:look.length=D.length*2+1:=by rw[B.lk,afn,YW]
 exact⟨h,by omega⟩
theorem FI.skip{M:List En}{now:Int}{k i:Nat}{look D:List Nat}(B:FI M now k look D)(hk:look[k]?=some i)(hg:rZ M now i=false):FI M now (k+1) look D:=by
 have cL:=(aaR.1 hk).1;refine⟨B.lk, ?_,B.nd,cL⟩;rw[agn,hk,ags,<-B.dk];simp[hg]
theorem FI.add{M:List En}{now:Int}{k i:Nat}{look D:List Nat}(B:FI M now k look D)(hk:look[k]?=some i)(hg:rZ M now i=true):FI M now (k+1) (look++ [2*i+1,2*i+2]) (D++ [i]):=by
 have cL:=(aaR.1 hk).1;have hiD:i∉D:=λh=>by
  rw[B.dk]at h;have h2:=(aba.1 h).1;obtain⟨m,hm,e⟩:=aft h2;rw[List.getElem_take]at e;have hm2:=hm;rw[agw]at hm2;have h3:look[m]?=some i:=aaR.2 ⟨by omega,e⟩;have:=iC B.nd h3 hk;rw[agw]at hm;omega
 have mD:∀j,0<j->par j=i->j∉look:=λj j0 pj h=>by
  rw[B.lk]at h;rcases aa5.1 h with e|e
  ·omega
  have:=(Kc.1 e).2;rw[pj]at this;exact hiD this
 refine⟨by rw[Vg,B.lk];rfl, ?_, ?_,by rw[aaZ];omega⟩
 ·rw[ajG (by omega),agn,hk,ags,<-B.dk]
  simp[hg]
 rw[afL];refine⟨B.nd,by simp,λa ha b hb e=> ?_⟩;subst e;simp only[aa5,agh,or_false]at hb;exact mD a (by omega) (by unfold par;omega) ha
theorem FI.done{M:List En}{now:Int}{k:Nat}{look D:List Nat}(H:zw M)(B:FI M now k look D)(hk:k=look.length):(D.map (at_ M)).Perm (M.filter λx=>decide ((x.ex:Int)<=now)):=by
 have hD:D=look.filter (rZ M now):=by
  have:=B.dk
  rwa[hk,List.take_length]at this
 have all:∀i,rZ M now i=true->i∈D:=λi=>by
  induction i using Nat.strongRecOn with
  |ind i ih=>
   intro hg;have ao:i∈look:=by
    rw[B.lk];rcases Nat.eq_zero_or_pos i with e|e
    ·rw[e];exact aaV
    refine aaW _ (Kc.2 ⟨e,ih (par i) (iU e) ?_⟩);unfold rZ at hg⊢;simp only[aki,decide_eq_true_eq]at hg⊢;have hle:=H i e hg.1;have:=iU e;refine⟨by omega, ?_⟩;unfold En.le at hle;omega
   rw[hD];exact aba.2 ⟨ao,hg⟩
 have hM:M=(abb M.length).map (at_ M):=by
  apply ajg;intro j;rw[aa6];by_cases h:j<M.length
  ·rw[fS h,List.getElem?_range h];rfl
  rw[aa7 (by omega),aa7 (by rw[List.length_range];omega)];rfl
 have p1:D.Perm ((abb M.length).filter λi=>decide (((at_ M i).ex:Int)<=now)):=by
  refine(List.perm_ext_iff_of_nodup B.dN.1 (List.nodup_range.sublist afY)).2 λi=> ?_;rw[aba,List.mem_range]
  constructor
  ·intro h
   have h2:=(aba.1 (hD▸h)).2;unfold rZ at h2
   simpa using h2
  intro h;exact all i (by unfold rZ;simpa using h)
 have p2:=p1.map (at_ M);have e:((abb M.length).filter λi=>decide (((at_ M i).ex:Int)<=now)).map (at_ M)=M.filter λx=>decide ((x.ex:Int)<=now):=by
  conv=>rhs;rw[hM]
  rw[List.filter_map];rfl
 rw[e]at p2;exact p2
noncomputable def iw (L:List En):List En:=L.mergeSort λx y=>decide (¬En.lt y x)
theorem gZ (L:List En):(iw L).Perm L:=List.mergeSort_perm _ _
noncomputable def pF (E:List En)(now:Int)(aI:Int):List Nat:=((iw (E.filter λx=>decide ((x.ex:Int)<=now))).take aI.toNat).map En.h
def CT (l:List Nat):List Value:=l.map λ(h:Nat)=>Value.int .u64 (h:Int)
def pO:Prop:=∀(a:Option Addr) (cap:Nat) (L:List En),L.length<=cap->(L.map En.tu).Nodup->L.length<2147483648->aO aaO 115 [.slice a L.length cap, .func (.func 116) #[] #[]] (λ_=>True) [own a cap 202 3 (L.flatMap eN)] (λv H=>v= .tuple #[]/\H= [own a cap 202 3 ((iw L).flatMap eN)])
theorem WJ (wy:pO)(w:Nat)(y:Om)(M:List En)(tn:Nat)(now aI:Int)(W:r7 M y tn):
  aO aaO 75 [CM w,CO CN now,CO CN aI] (gP (yN w y M tn)) []
   (λv H=>∃a c L,v= .slice a L.length c/\H= [own a c 104 1 (CT L)]/\∃D:List En,D.Perm (M.filter λx=>decide ((x.ex:Int)<=now))/\L=((iw D).take aI.toNat).map En.h):=by
 have FA:=W.ln;unfold yN Iu;refine ag func75 rfl ntmps75 rfl ?_;rintro F ⟨hw,ho,_⟩;have hr:=bP ho;have qZ:=Wh.dV M;refine bR ?_;refine Lp (oT fU λb1=> ?_);refine bG ?_;refine au (λ_ s=>bB (λ_ p=>oP p 1 1 rfl (by decide)) s) ?_;refine dw 202 3 ?_;refine dt (ι:=List Nat×Option Addr×Nat) [15,16,17,18,21,22,23,24,10,25,26,27,28,29,30,31,32,33,34,35,36,37,38,39,40,41,42,43,44,45,46,47,48,49,50,51,52,53,7,54,55,56,57,58,59,60,61,62,8,19,20,9] (λs=>(s.1.map (at_ M)).Perm (M.filter λx=>decide ((x.ex:Int)<=now))/\s.1.length<=M.length/\s.1.length<=s.2.2) (λs=> [(7, .slice s.2.1 s.1.length s.2.2)]) (λs=> [own s.2.1 s.2.2 202 3 ((s.1.map (at_ M)).flatMap eN)]) ?_ ?_
 ·refine qD ?_
  refine Lo (ι:=Nat×List Nat×List Nat×(Option Addr×Nat)×(Option Addr×Nat)) [15,16,17,18,21,22,23,24,10,25,26,27,28,29,30,31,32,33,34,35,36,37,38,39,40,41,42,43,44,45,46,47,48,49,50,51,52,53,7,54,55,56,57,58,59,60,61,62,8,19,20,9] (λs=>FI M now s.1 s.2.1 s.2.2.1/\s.2.1.length<=s.2.2.2.1.2/\s.2.2.1.length<=s.2.2.2.2.2) (λs=> [(9,CO CN s.1),(8, .slice s.2.2.2.1.1 s.2.1.length s.2.2.2.1.2),(7, .slice s.2.2.2.2.1 s.2.2.1.length s.2.2.2.2.2)]) (λs=> [own s.2.2.2.2.1 s.2.2.2.2.2 202 3 ((s.2.2.1.map (at_ M)).flatMap eN),own s.2.2.2.1.1 s.2.2.2.1.2 3 1 (aA s.2.1)]) (λs=>2*M.length+1-s.1) ((0,[0],[],(some ⟨b1,0,none⟩,1),(none,0))) ⟨FI.start M now,aa0 1,aa0 0⟩ ?_;rintro⟨k,look,D,⟨al,cl⟩,⟨ad,cd⟩⟩ hI;dsimp only at hI⊢;obtain⟨B,cR,hcd⟩:=hI;obtain⟨q1,q2⟩:=B.len;have q3:=B.dN.2.2;have uj:=B.kl;refine bR ?_;by_cases hk:k<look.length
  ·obtain⟨i,hi⟩:∃i,look[k]?=some i:=⟨look[k],aaQ hk⟩
   have hic:(aA look)[k]?=some (CO CN i):=by unfold aA;rw[aa6,hi];rfl
   have hnl:(aA look).length=look.length:=fg look;refine kT (gp (.there .here) (λ_ o=>kD o (by rw[hnl];omega))) λOf=> ?_;refine eU ?_;refine bR ?_;refine Li (Ix ja) ?_;refine gz ?_;by_cases ao:i<M.length
   ·have Zj:=Wh.ik ao
    have hex:(M.flatMap eN)[i*3+1]?=some (CO CN ((at_ M i).ex)):=bo l8 (fS ao) rfl;have ha:=W.sm (uZ (by omega));refine zf 32 ?_;refine bE ?_;refine Li (Ix iB) ?_;refine Li (Fam AG) ?_;refine bE ?_;by_cases hx:((at_ M i).ex:Int)<=now
    ·have hg:rZ M now i=true:=by unfold rZ;rw[decide_eq_true ao,decide_eq_true hx];rfl
     have B2:=B.add hi hg;have hfD:((D.map (at_ M)).flatMap eN).length=D.length*3:=by rw[Wh.dV,adr]
     refine cO ?_;refine cA ?_;refine Li (Ix iB) ?_;refine av ?_;refine Lp (oT1 BR λb2=> ?_);refine Lp (bT BR Qr rfl rfl rfl rfl .here (by omega) (rfl) (by simp[eN,cZ,Value.cells,Value.oneCell']) (by omega) (by omega) rfl λa2 c2 rB=> ?_);refine bM ?_;refine Lp (oT fU λb3=> ?_);refine Lp (bT fU pK rfl rfl rfl rfl (.there .here) (by omega) (rfl) (by simp[cZ,Value.cells,Value.oneCell']) (by omega) (by omega) rfl λa3 c3 hc3=> ?_);refine dm ?_;refine aF ?_;have e1:((D++ [i]).map (at_ M)).flatMap eN=(D.map (at_ M)).flatMap eN++eN (at_ M i):=by rw[afy,ago];simp
     have e2:aA (look++ [2*i+1,2*i+2])=aA look++ [CO CN (2*(i:Int)+1),CO CN (2*(i:Int)+2)]:=by rw[gy];rfl
     have l1:(D++ [i]).length=D.length+1:=by simp
     have l2:(look++ [2*i+1,2*i+2]).length=look.length+2:=by simp
     refine Hh (H':= [own a2 c2 202 3 ((D.map (at_ M)).flatMap eN++eN (at_ M i)),own a3 c3 3 1 (aA look++ [CO CN (2*(i:Int)+1),CO CN (2*(i:Int)+2)])]) ?_;rw[<-e1,<-e2,<-l1,<-l2];refine Ro ((k+1,look++ [2*i+1,2*i+2],D++ [i],(a3,c3),(a2,c2))) (⟨B2,(by dsimp only;omega),(by dsimp only;omega)⟩) ((by dsimp only;omega))
    have hg:rZ M now i=false:=by unfold rZ;rw[decide_eq_false hx,Bool.and_false]
    refine eU ?_;refine dm ?_;refine aF ?_;refine Ro ((k+1,look,D,(al,cl),(ad,cd))) (⟨B.skip hi hg,cR,hcd⟩) ((by dsimp only;omega))
   have hg:rZ M now i=false:=by unfold rZ;rw[decide_eq_false ao,Bool.false_and]
   refine zt 32 ?_;refine cC ?_;refine av ?_;refine aF ?_;refine Ro ((k+1,look,D,(al,cl),(ad,cd))) (⟨B.skip hi hg,cR,hcd⟩) ((by dsimp only;omega))
  refine cO ?_;refine bm ?_;refine Me ((D,ad,cd)) (⟨B.done W.hp (by omega),q3,hcd⟩)
 rintro s hI;obtain⟨D,ad,cd⟩:=s;dsimp only at hI⊢;obtain⟨hp,hDl,hDc⟩:=hI;have hLl:(D.map (at_ M)).length=D.length:=adr ..;have hLt:((D.map (at_ M)).map En.tu).Nodup:=(hp.map En.tu).nodup_iff.2 (W.td.sublist (afY.map _));rw[<-hLl];rw[<-hLl]at hDl hDc;generalize D.map (at_ M)=L at*;have Ze:(iw L).length=L.length:=(gZ L).length_eq;have hfS:=Wh.dV (iw L);obtain⟨m,hm⟩:∃m,m=min L.length aI.toNat:=⟨_,rfl⟩;refine bA ?_;refine zl CF (wy ad cd L hDc hLt (by omega)) (.cons .here .nil) CI ?_;generalize hS:iw L=S at*;refine bM ?_;refine Li Ma ?_;refine Li Mi ?_;refine ay (t:=70) (v':=(CO CN m)) rfl (by(congr 1;omega)) ?_;refine Li (Sl 0 _ _ iB) ?_;rw[RE,ajy,ajy];refine bz ?_;refine dw 104 1 ?_;refine av ?_;refine Lo (ι:=Nat×Option Addr×Nat) [74,75,76,13,77,78,79,80,81,11,82,73] (λs=>s.1<=m/\s.1<=s.2.2) (λs=> [(73,CO CN s.1),(11, .slice s.2.1 s.1 s.2.2)]) (λs=> [own s.2.1 s.2.2 104 1 (CT ((S.take s.1).map En.h)),own ad cd 202 3 (S.flatMap eN)]) (λs=>m-s.1) ((0,none,0)) ⟨Nat.zero_le _,aa0 0⟩ ?_;rintro⟨j,a,c⟩ hI;dsimp only at hI⊢;have hj:=hI.1;by_cases hjm:j<m
 ·have Zj:=Wh.ik (M:=S) (j:=j) (by omega)
  have hx:=fS (M:=S) (j:=j) (by omega);have hh:(CT ((S.take j).map En.h)).length=j:=by unfold CT;rw[adr,adr,agw];omega
  have e1:CT ((S.take (j+1)).map En.h)=CT ((S.take j).map En.h)++ [CO CJ ((at_ S j).h)]:=by
   unfold CT;rw[agn,hx,afy,afy];rfl
  refine kT (gp (.there .here) (λ_ o=>kD o (by omega))) λOf=> ?_;refine bz ?_;refine aw ?_;refine eU ?_;refine bE ?_;refine Li (Ix iB) ?_;refine av ?_;refine Lp (oA xu λb4=> ?_);refine Lp (iF uO ?_ (h1:=by simp[eN,Value.oneCell']));refine av ?_;rw[show eN (at_ S j)= [CO CJ ((at_ S j).h),CO CN ((at_ S j).ex),CO CJ ((at_ S j).tu)]from rfl];refine bm ?_;refine Lp (oT RP λb5=> ?_);refine Lp (bT RP ac5 rfl rfl rfl rfl (.there .here) (by omega) (rfl) (by simp[cZ,Value.cells,Value.oneCell']) (by omega) (by omega) rfl λa2 c2 rB=> ?_);refine bR ?_;refine aF ?_;refine Hh (H':= [own a2 c2 104 1 (CT ((S.take j).map En.h)++ [CO CJ ((at_ S j).h)]),own ad cd 202 3 (S.flatMap eN)]) ?_;rw[<-e1];refine Ro ((j+1,a2,c2)) (⟨hjm,rB⟩) ((by dsimp only;omega))
 refine gK ?_;refine bA ?_;refine aw ?_;refine cO ?_;refine bM ?_;obtain rfl:j=m:=by omega
 have e1:S.take j=S.take aI.toNat:=by
  rw[ajZ,ajZ (i:=aI.toNat),Ze,hm]
  congr 1;omega
 have hl:((S.take aI.toNat).map En.h).length=j:=by rw[adr,agw];omega
 rw[e1,<-hl];refine Rt [own a c 104 1 (CT ((S.take aI.toNat).map En.h))] results75 ?_;exact⟨a,c,_,rfl,rfl,L,hp,by rw[hS]⟩
theorem ZJ{R:En->En->Prop}:∀{L M:List En},L.Perm M->L.Pairwise R->M.Pairwise R->(∀a∈L,∀b∈L,R a b->R b a->a=b)->L=M
 | [],M,p,_,_,_=>(List.nil_perm.1 p).symm
 |a::L,[],p,_,_,_=>by have:=p.length_eq;simp at this
 |a::L,b::M,p,hl,hm,an=>by
  have e:a=b:=by
   have hb:b∈a::L:=p.mem_iff.2 aaV;have ha:a∈b::M:=p.mem_iff.1 aaV;rcases aa5.1 hb with h|h
   ·exact h.symm
   rcases aa5.1 ha with g|g
   ·exact g
   exact an a aaV b hb ((agx.1 hl).1 b h) ((agx.1 hm).1 a g)
  subst e;rw[ZJ (aa1.cons_inv p) (agx.1 hl).2 (agx.1 hm).2 (λx hx y hy=>an x (aaW _ hx) y (aaW _ hy))]
theorem ab0{L:List En}(d:(L.map En.tu).Nodup){a b:En}(ha:a∈L)(hb:b∈L)(e:a.tu=b.tu):a=b:=by
 obtain⟨i,hi,ea⟩:=aft ha;obtain⟨j,hj,eb⟩:=aft hb;have h1:(L.map En.tu)[i]?=some a.tu:=by rw[aa6,aaQ hi,ea];rfl
 have h2:(L.map En.tu)[j]?=some a.tu:=by rw[aa6,aaQ hj,eb,e];rfl
 have:=iC d h1 h2;subst this;rw[<-ea,<-eb]
theorem DV (L:List En):(iw L).Pairwise λx y=>¬En.lt y x:=by
 have h:=List.pairwise_mergeSort (le:=λx y:En=>decide (¬En.lt y x)) (λa b c h1 h2=>by
  simp only[decide_eq_true_eq]at*;unfold En.lt at*;omega) (λa b=>by
  simp only[Bool.or_eq_true,decide_eq_true_eq];unfold En.lt;omega) L
 refine h.imp λ{a b} g=> ?_;exact of_decide_eq_true g
theorem Je{L M:List En}(p:L.Perm M)(d:(M.map En.tu).Nodup)(hl:L.Pairwise λx y=>¬En.lt y x):L=iw M:=by
 have d2:(L.map En.tu).Nodup:=(p.map En.tu).nodup_iff.2 d;refine ZJ (p.trans (gZ M).symm) hl (DV M) λa ha b hb h1 h2=>ab0 d2 ha hb ?_;unfold En.lt at h1 h2;omega
theorem yp{L M:List En}(p:L.Perm M)(d:(M.map En.tu).Nodup):iw L=iw M:=Je ((gZ L).trans p) d (DV L)
theorem Y6 (wy:pO)(w:Nat)(E:List En)(tn:Nat)(now aI:Int):
  aO aaO 75 [CM w,CO CN now,CO CN aI] (In (Wl w E tn)) []
   (λv H=>∃a c,v= .slice a (pF E now aI).length c/\H= [own a c 104 1 (CT (pF E now aI))]):=by
 refine aO.Qn (X:=∃y M,M.Perm E/\r7 M y tn) (λk hk=> ?_) ?_
 ·obtain⟨y,M,p,W,_⟩:=abF hk
  exact⟨y,M,p,W⟩
 intro _;intro F W0 hk s;obtain⟨y,M,p,W,ao⟩:=abF hk;refine((WJ wy w y M tn now aI W) F W0 ao s).mono λe w' hh=> ?_;obtain⟨v,H',he,⟨a,c,L,rfl,rfl,D,hD,rfl⟩,st⟩:=hh;have hs:iw D=iw (E.filter λx=>decide ((x.ex:Int)<=now)):=by
  refine yp (hD.trans (p.filter _)) ?_;exact((p.map En.tu).nodup_iff.1 W.td).sublist (afY.map _)
 refine⟨_,_,he,⟨a,c, ?_, ?_⟩,st⟩
 ·unfold pF;rw[hs]
 unfold pF;rw[hs]
end Go.Proofs.YtcbcjolpdljbiaaGreat
