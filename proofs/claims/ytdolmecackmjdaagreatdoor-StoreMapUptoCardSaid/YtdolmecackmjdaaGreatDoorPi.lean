/- Part Pi of the proof. -/
import Derived.Test.YtdolmecackmjdaaGreatDoorPd
import Derived.Test.YtdolmecackmjdaaGreatDoorPj
set_option maxRecDepth 100000
open List renaming getD_eq_getElem?_getD → acy, getElem?_eq_getElem → acx, getElem?_set → ac4, Perm → acN, getElem?_append_left → agx, length_append → acI, length_singleton → adv, getElem?_dropLast → ahN, length_dropLast → adg, length_set → acE, mem_cons_of_mem → acC, mem_cons_self → acF, map_cons → acM, filter_cons → agz, getElem?_map → acL, getElem_of_mem → acR, flatMap_cons → adb, length_cons → ac7, ext_getElem? → ahE, getElem?_eq_none → acK, set_set → adn, nodup_cons → acP, filter_eq_self → ahY, mem_map → adi, mem_filter → adf, perm_append_comm → agI, flatMap_append → agD, take_append_of_le_length → ahp, map_append → adq, nodup_append → adl, map_nil → aiu, mem_singleton → acX, nodup_nil → agW, mem_cons → acT, not_mem_nil → agA, filter_sublist → adz, getElem?_eq_some_iff → acz, take_add_one → adE, filter_append → ah5, length_take → agP, range → adL, length_map → acU, take_eq_take_min → ahQ, pairwise_cons → agR
open Nat renaming sub_zero → ahi, le_refl → acG, not_lt_zero → agH
open Bool renaming and_eq_true → aic
open Go.Proofs.Tryz renaming prog → acw
open Go.Proofs.Tryz
namespace Go.Proofs.YtdolmecackmjdaaGreatDoor
open Go Go.dL
structure En where
 h:Nat
 ex:Nat
 tu:Nat
namespace En
def lt (a b:En):Prop:=a.ex<b.ex∨a.ex=b.ex∧a.tu<b.tu
def le (a b:En):Prop:=a.ex<b.ex∨a.ex=b.ex∧a.tu≤b.tu
theorem le_trans{a b c:En}(h:le a b)(g:le b c):le a c:=by unfold le at*;omega
theorem le_of_lt{a b:En}(h:lt a b):le a b:=by unfold lt le at*;omega
theorem tM{a b:En}(h:¬lt a b):le b a:=by unfold lt le at*;omega
theorem le_refl (a:En):le a a:=by unfold le;omega
instance (a b:En):Decidable (lt a b):=by unfold lt;infer_instance
end En
namespace Wh
def at_ (M:List En)(j:Nat):En:=M.getD j ⟨0,0,0⟩
def par (j:Nat):Nat:=(j-1)/2
def yy (M:List En):Prop:=∀j,0<j→j<M.length→En.le (at_ M (par j)) (at_ M j)
structure Hx (M:List En)(i:Nat):Prop where
 a:∀j,0<j→j<M.length→j≠i→par j≠i→En.le (at_ M (par j)) (at_ M j)
 b:∀j,0<i→j<M.length→0<j→par j=i→En.le (at_ M (par i)) (at_ M j)
theorem iK{M:List En}{j:Nat}(h:j<M.length):M[j]?=some (at_ M j):=by
 unfold at_;rw[acy,acx h];rfl
theorem l8{M:List En}{i:Nat}(h:i<M.length)(x:En)(j:Nat):at_ (M.set i x) j=if j=i then x else at_ M j:=by
 unfold at_;rw[acy,acy,ac4];by_cases e:i=j
 ·rw[if_pos e,if_pos h,if_pos e.symm];rfl
 rw[if_neg e,if_neg (λg=>e g.symm)]
def sw (M:List En)(i c:Nat):List En:=(M.set i (at_ M c)).set c (at_ M i)
theorem lX (M:List En)(i c:Nat):(sw M i c).length=M.length:=by unfold sw;simp
theorem B9{M:List En}{i c:Nat}(hi:i<M.length)(hc:c<M.length)(j:Nat):at_ (sw M i c) j=if j=c then at_ M i else if j=i then at_ M c else at_ M j:=by
 unfold sw;rw[l8 (by simpa using hc),l8 hi]
theorem Hv{M:List En}{i c:Nat}(hi:i<M.length)(hc:c<M.length)(ne:i≠c):(sw M i c).Perm M:=by
 have h1:=jI (iK hi) (at_ M c);have h0:=jI (iK hi) (at_ M i);rw[gW (iK hi)]at h0;have ow:(M.set i (at_ M c))[c]?=some (at_ M c):=by rw[ac4,if_neg ne];exact iK hc
 have h2:=jI ow (at_ M i);have h3:=jI ow (at_ M c);rw[gW ow]at h3;have h4:((M.set i (at_ M c)).eraseIdx c).Perm (M.eraseIdx i):=(acN.cons_inv (h3.symm.trans h1));exact h2.trans ((acN.cons _ h4).trans h0.symm)
theorem ij{j:Nat}(h:0<j):par j<j:=by unfold par;omega
theorem afc{M:List En}{i:Nat}(H:Hx M i)(h0:0<i)(hi:i<M.length)(lt:En.lt (at_ M i) (at_ M (par i))):Hx (sw M i (par i)) (par i):=by
 have hu:=ij h0;have hul:par i<M.length:=by omega
 have A:=B9 hi hul;generalize hp:par i=u at*;refine⟨λj j0 jl n1 n2=> ?_,λj u0 jl j0 pj=> ?_⟩
 ·rw[lX]at jl
  have ji:j≠i:=λe=>n2 (by rw[e,hp]);rw[A,A,if_neg n2,if_neg n1,if_neg ji];by_cases e:par j=i
  ·rw[if_pos e,←hp];exact H.b j h0 jl j0 e
  rw[if_neg e];exact H.a j j0 jl ji e
 rw[lX]at jl;have pu:=ij u0;have hpu:En.le (at_ M (par u)) (at_ M u):=H.a u u0 hul (by omega) (by omega);rw[A,A,if_neg (by omega),if_neg (by omega)];have ju:j≠u:=by have:=ij j0;omega
 rw[if_neg ju];by_cases e:j=i
 ·rw[if_pos e];exact hpu
 rw[if_neg e];refine En.le_trans hpu ?_;have:=H.a j j0 jl e (by omega)
 rwa[pj]at this
theorem Wy{M:List En}{i c:Nat}(H:Hx M i)(hi:i<M.length)(c0:0<c)(hc:c<M.length)(pc:par c=i)(mn:∀j,0<j→j<M.length→par j=i→En.le (at_ M c) (at_ M j))(le:En.le (at_ M c) (at_ M i)):
  Hx (sw M i c) c∧En.le (at_ (sw M i c) (par c)) (at_ (sw M i c) c):=by
 have A:=B9 hi hc;have hic:i<c:=by have:=ij c0;omega
 refine⟨⟨λj j0 jl n1 n2=> ?_,λj _ jl j0 pj=> ?_⟩, ?_⟩
 ·rw[lX]at jl
  rw[A,A,if_neg n2,if_neg n1];by_cases e:j=i
  ·have:=ij j0
   rw[if_neg (by omega),if_pos e,e];exact H.b c (by omega) hc c0 pc
  rw[if_neg e];by_cases e2:par j=i
  ·rw[if_pos e2];exact mn j j0 jl e2
  rw[if_neg e2];exact H.a j j0 jl e e2
 ·rw[lX]at jl
  have:=ij j0;rw[A,A,pc,if_neg (by omega),if_pos rfl,if_neg (by omega),if_neg (by omega)];have:=H.a j j0 jl (by omega) (by omega)
  rwa[pj]at this
 rw[A,A,pc,if_neg (by omega),if_pos rfl,if_pos rfl];exact le
theorem Wz{M:List En}{i:Nat}(H:Hx M i)(u:0<i→En.le (at_ M (par i)) (at_ M i))(d:∀j,0<j→j<M.length→par j=i→En.le (at_ M i) (at_ M j)):yy M:=λj j0 jl=>by
 by_cases e:j=i
 ·subst e;exact u j0
 by_cases e2:par j=i
 ·rw[e2];exact d j j0 jl e2
 exact H.a j j0 jl e e2
theorem WB{M:List En}(H:yy M)(i:Nat):Hx M i:=⟨λj j0 jl _ _=>H j j0 jl,λj i0 jl j0 e=>by
 have h1:=H j j0 jl;have hi:par j<M.length:=by have:=ij j0;omega
 rw[e]at h1 hi;exact En.le_trans (H i i0 hi) h1⟩
theorem Wx{M:List En}(H:yy M)(x:En):Hx (M++ [x]) M.length:=by
 have a:∀j,j<M.length→at_ (M++ [x]) j=at_ M j:=λj h=>by
  unfold at_;rw[acy,acy,agx h]
 refine⟨λj j0 jl n1 _=> ?_,λj _ jl j0 e=> ?_⟩
 ·rw[acI,adv]at jl
  have:=ij j0;rw[a _ (by omega),a _ (by omega)];exact H j j0 (by omega)
 rw[acI,adv]at jl;have:=ij j0;omega
theorem zy{M:List En}(H:yy M):yy M.dropLast:=λj j0 jl=>by
 have a:∀j,j<M.dropLast.length→at_ M.dropLast j=at_ M j:=λj h=>by
  unfold at_;rw[acy,acy,ahN,if_pos (by simpa using h)]
 have:=ij j0;rw[a _ (by omega),a _ jl];exact H j j0 (by rw[adg]at jl;omega)
theorem aaM{M:List En}(H:yy M){i:Nat}(hi:i<M.length)(x:En):Hx (M.set i x) i:=by
 have A:=l8 hi x;have Z:=WB H i;refine⟨λj j0 jl n1 n2=> ?_,λj i0 jl j0 e=> ?_⟩
 ·rw[acE]at jl
  rw[A,A,if_neg n2,if_neg n1];exact H j j0 jl
 rw[acE]at jl;have:=ij i0;have:=ij j0;rw[A,A,if_neg (by omega),if_neg (by omega)];exact Z.b j i0 jl j0 e
end Wh
open Go Go.dL
theorem gp (e:Value×Value)(es:List (Value×Value))(k:Value)[Decidable (e.1=k)]:sN (e::es) k=if e.1=k then some e.2 else sN es k:=by
 unfold sN;rw[List.find?_cons];by_cases h:e.1=k
 ·rw[if_pos h];simp[h]
 rw[if_neg h];simp[h]
theorem A9 (k:Value):sN [] k=none:=rfl
theorem V9 (es:List (Value×Value))(k v k':Value)(hn:∀e∈es,e.1≠k):sN (es++ [(k,v)]) k'=(by classical exact if k'=k then some v else sN es k'):=by
 classical
 induction es with
 |nil=>
  rw[List.nil_append,gp,A9];by_cases h:k'=k
  ·rw[if_pos h.symm,if_pos h]
  rw[if_neg (λg=>h g.symm),if_neg h]
 |cons e es ih=>
  rw[List.cons_append,gp,gp,ih (λx hx=>hn x (acC _ hx))];by_cases h:e.1=k'
  ·rw[if_pos h,if_pos h,if_neg (λg=>hn e acF (h.trans g))]
  rw[if_neg h,if_neg h]
theorem V7 (es:List (Value×Value))(k v k':Value):sN (Ed es k v) k'=(by classical exact if k'=k then some v else sN es k'):=by
 classical
 by_cases hx:∃e∈es,e.1=k
 ·rw[Hn hx]
  have hk:sN es k≠none:=by
   obtain⟨e,he,hk⟩:=hx;intro g;simp only[sN,Option.map_eq_none_iff,List.find?_eq_none]at g;have:=g e he;simp[hk]at this
  clear hx
  induction es with
  |nil=>exact absurd (A9 k) hk
  |cons e es ih=>
   rw[acM,gp,gp];rw[gp]at hk;by_cases h:e.1=k
   ·rw[if_pos h]
    by_cases g:k'=k
    ·rw[if_pos g,if_pos g.symm]
    rw[if_neg g,if_neg (λz=>g z.symm),if_neg (λz=>g (z.symm.trans h))]
    clear ih hk
    induction es with
    |nil=>rfl
    |cons x es ih=>
     rw[acM,gp,gp,ih];by_cases hx:x.1=k
     ·rw[if_pos hx,if_neg (λz=>g z.symm),if_neg (λz=>g (z.symm.trans hx))]
     rw[if_neg hx]
   rw[if_neg h]at hk⊢;rw[ih hk];by_cases g:k'=k
   ·rw[if_pos g,if_pos g,if_neg (λz=>h (z.trans g))]
   rw[if_neg g,if_neg g]
 rw[Ho (λe he g=>hx ⟨e,he,g⟩)];exact V9 es k v k' (λe he g=>hx ⟨e,he,g⟩)
theorem V8 (es:List (Value×Value))(k k':Value):sN (GU es k) k'=(by classical exact if k'=k then none else sN es k'):=by
 classical
 unfold GU
 induction es with
 |nil=>by_cases h:k'=k<;>simp[h,A9]
 |cons e es ih=>
  rw[agz];by_cases h:e.1=k
  ·rw[if_neg (by simp[h]),ih,gp]
   by_cases g:k'=k
   ·rw[if_pos g,if_pos g]
   rw[if_neg g,if_neg g,if_neg (λz=>g (z.symm.trans h))]
  rw[if_pos (by simp[h]),gp,ih,gp];by_cases g:k'=k
  ·rw[if_pos g,if_pos g,if_neg (λz=>h (z.trans g))]
  rw[if_neg g,if_neg g]
def yw (a b:Int):Int:=if a<b then-1 else if b<a then 1 else 0
theorem zw (a:Int):aH acw 252 [.int .i64 a] (λ_=>True) [] (λv H=>v= .bool false∧H= []):=by
 refine ae func252 rfl ntmps252 rfl ?_;intro F _;refine bw ?_;refine Rt [] results252 ?_;exact⟨by rw[decide_eq_true rfl];rfl,rfl⟩
theorem DW (a b:Int):aH acw 208 [.int .i64 a, .int .i64 b] (λ_=>True) [] (λv H=>v= .int .i64 (yw a b)∧H= []):=by
 unfold yw;refine ae func208 rfl ntmps208 rfl ?_;intro F _;refine bc ?_;refine zl T.OH (zw a) .nil (λ_ _ _=>trivial) ?_;refine aR ?_;refine zl T.OH (zw b) .nil (λ_ _ _=>trivial) ?_;refine bT ?_;refine a8 ?_;refine av rfl ?_ ?_
 ·intro h1
  replace h1:=aD h1;refine bc ?_;refine Rt [] results208 ?_;exact⟨by rw[if_pos (by omega)],rfl⟩
 intro h1;replace h1:=aD h1;refine cI ?_;refine av rfl ?_ ?_
 ·intro h2
  replace h2:=aD h2;refine bc ?_;refine Rt [] results208 ?_;exact⟨by rw[if_neg (by omega),if_pos (by omega)],rfl⟩
 intro h2;replace h2:=aD h2;refine bB ?_;refine Rt [] results208 ?_;exact⟨by rw[if_neg (by omega),if_neg (by omega)],rfl⟩
theorem sD (a:Int):aH acw 253 [.int .u64 a] (λ_=>True) [] (λv H=>v= .bool false∧H= []):=by
 refine ae func253 rfl ntmps253 rfl ?_;intro F _;refine bw ?_;refine Rt [] results253 ?_;exact⟨by rw[decide_eq_true rfl];rfl,rfl⟩
theorem ye (a b:Int):aH acw 209 [.int .u64 a, .int .u64 b] (λ_=>True) [] (λv H=>v= .int .i64 (yw a b)∧H= []):=by
 unfold yw;refine ae func209 rfl ntmps209 rfl ?_;intro F _;refine bc ?_;refine zl T.OG (sD a) .nil (λ_ _ _=>trivial) ?_;refine aR ?_;refine zl T.OG (sD b) .nil (λ_ _ _=>trivial) ?_;refine bT ?_;refine a8 ?_;refine av rfl ?_ ?_
 ·intro h1
  replace h1:=aD h1;refine bc ?_;refine Rt [] results209 ?_;exact⟨by rw[if_pos (by omega)],rfl⟩
 intro h1;replace h1:=aD h1;refine cI ?_;refine av rfl ?_ ?_
 ·intro h2
  replace h2:=aD h2;refine bc ?_;refine Rt [] results209 ?_;exact⟨by rw[if_neg (by omega),if_pos (by omega)],rfl⟩
 intro h2;replace h2:=aD h2;refine bB ?_;refine Rt [] results209 ?_;exact⟨by rw[if_neg (by omega),if_neg (by omega)],rfl⟩
theorem aar (s x y:Int)(a:Nat):aH acw 207 [.slice (some ⟨a,0,none⟩) 2 2] (In (ag a 3 [.int .i64 x, .int .i64 y])) [] (λv H=>v= .int .i64 (if x=0 then y else x)∧H= []):=by
 refine ae func207 rfl ntmps207 rfl ?_;intro F aw;refine gR ?_;refine Lo (ι:=Nat) [9,10,11,5,12,13,14,15,2,16,8] (λi=>i≤2∧(1≤i→x=0)∧(2≤i→y=0)) (λi=> [(8, .int .i64 (i:Int))]) (λi=> []) (λi=>2-i) (0) ⟨by omega,by omega,by omega⟩ ?_;rintro i hI;obtain⟨g1,g2,g3⟩:=hI;refine aZ ?_;refine au ?_;by_cases h0:i=0
 ·subst h0
  refine bB ?_;refine Li (Ix T.qk) ?_;refine cI ?_;refine av rfl ?_ ?_
  ·intro h2
   replace h2:=aD h2;refine bw ?_;refine Rt [] results207 ?_;exact⟨by rw[if_neg (by omega)],rfl⟩
  intro h2;replace h2:=aD h2;refine bB ?_;refine az ?_;refine Ro (1) (⟨by omega,λ_=>by omega,by omega⟩) (by omega)
 by_cases h1:i=1
 ·subst h1
  refine bB ?_;refine Li (Ix T.qk) ?_;refine cI ?_;refine av rfl ?_ ?_
  ·intro h2
   replace h2:=aD h2;refine bw ?_;refine Rt [] results207 ?_;exact⟨by rw[if_pos (g2 (by omega))],rfl⟩
  intro h2;replace h2:=aD h2;refine bB ?_;refine az ?_;refine Ro (2) (⟨by omega,by omega,λ_=>by omega⟩) (by omega)
 refine cu ?_;refine bw ?_;refine Rt [] results207 ?_;exact⟨by rw[if_pos (g2 (by omega)),g3 (by omega)],rfl⟩
def eN (e:En):List Value:= [.int .u64 (e.h:Int), .int .i64 (e.ex:Int), .int .u64 (e.tu:Int)]
def enV (e:En):Value:= .agg (eN e).toArray
def EA (a b:En):Int:=if yw (a.ex:Int) (b.ex:Int)=0 then yw (a.tu:Int) (b.tu:Int)else yw (a.ex:Int) (b.ex:Int)
theorem nD (a b:En):EA a b<0↔En.lt a b:=by
 unfold EA yw En.lt
 split<;>(repeat' split)<;>(try split at*)<;>omega
theorem se (a b:En):aH acw 143 [enV a,enV b] (λ_=>True) [] (λv H=>v= .int .i64 (EA a b)∧H= []):=by
 unfold enV eN;refine ae func143 rfl ntmps143 rfl ?_;intro F _;refine ay ?_;refine Lp (oB λb1=> ?_);refine Lp (oB λb2=> ?_);refine a8 ?_;refine au ?_;refine gK 13 T.mix (.cons .here (.cons .here .nil)) λF1 iT cj aI=> ?_;obtain⟨q1,q2,_⟩:=cj;refine aR ?_;refine Tp (oC T.aa7 rfl rfl (DW (a.ex:Int) (b.ex:Int)) .nil (λ_ _ _=>trivial) ?_);rintro v H' ⟨rfl,rfl⟩;refine bd ?_;refine aR ?_;refine Tp (oC T.aa6 rfl rfl (ye (a.tu:Int) (b.tu:Int)) .nil (λ_ _ _=>trivial) ?_);rintro v H' ⟨rfl,rfl⟩;refine bd ?_;refine Tp (oT T.iA λb3=> ?_);refine Tp (oC T.aa8 rfl rfl (aar 0 (yw (a.ex:Int) (b.ex:Int)) (yw (a.tu:Int) (b.tu:Int)) _) .nil (λ_ le aw=>aw.1) ?_);rintro v H' ⟨rfl,rfl⟩;refine bd ?_;refine ay ?_;refine gd aI ?_;refine a8 ?_;refine Rt [] results143 ?_;exact⟨rfl,rfl⟩
def Mn (a:Option Addr)(n c mb tn:Nat):List Value:= [.slice a n c, .map (some mb), .int .u64 (tn:Int)]
def hv (h:Nat):Value:= .int .u64 (h:Int)
def iv (i:Nat):Value:= .int .i64 (i:Int)
theorem uW (w n c mb tn i:Nat)(a:Option Addr)(x:En)(cs:List Value)(es:List (Value×Value))(hi:i<n)(hc:n*3≤cs.length)(ha:a.isSome=true):
  aH acw 168 [.pointer (some ⟨w,0,none⟩), .int .i64 (i:Int),enV x] (In (ag w 197 (Mn a n c mb tn))) [own a c 243 3 cs,mq (.int .u64) mb es]
   (λv H=>v= .tuple #[]∧H= [own a c 243 3 (bU cs (i*3) (eN x)),mq (.int .u64) mb (Ed es (hv x.h) (iv i))]):=by
 unfold enV;refine ae func168 rfl ntmps168 rfl ?_;rintro F hw;unfold Mn at hw;refine ay ?_;refine Lp (oB λb1=> ?_);refine ay ?_;refine au ?_;refine gT false T.mix ?_;refine bB ?_;refine Ti (Ix T.ig) ?_;refine Tp (oSON T.wQ ?_ (vs:=eN x) (h1:=by simp[eN,Value.oneCell']) (hj:=by show _+3≤_;omega) (h0:=by show 0<3;omega));unfold eN;refine ay ?_;refine gK 8 T.mix (.cons .here .nil) λF1 iT cj aI=> ?_;obtain⟨q1,_⟩:=cj;replace hw:=In.mono hw iT;refine bH ?_;refine Tp (oQi T.Ar ?_);refine gd aI ?_;refine Tn ?_;refine jM [own a c 243 3 (bU cs (i*3) (eN x)),mq (.int .u64) mb (Ed es (hv x.h) (iv i))] results168 ?_;exact⟨rfl,rfl⟩
namespace Wh
def Nd (M:List En):Prop:=(M.map En.h).Nodup
def T5 (es:List (Value×Value))(pl:Nat→Option Nat):Prop:=∀h,sN es (hv h)=(pl h).map iv
def eP (pl:Nat→Option Nat)(h j:Nat):Nat→Option Nat:=λx=>if x=h then some j else pl x
def del (pl:Nat→Option Nat)(h:Nat):Nat→Option Nat:=λx=>if x=h then none else pl x
theorem Aw{a b:Nat}:hv a=hv b↔a=b:=by
 unfold hv
 constructor
 ·intro h;injection h with _ h;omega
 intro h;rw[h]
theorem T5.eP{es:List (Value×Value)}{pl:Nat→Option Nat}(R:T5 es pl)(h j:Nat):T5 (Ed es (hv h) (iv j)) (eP pl h j):=λx=>by
 rw[V7];unfold Wh.eP;by_cases e:x=h
 ·rw[if_pos (Aw.2 e),if_pos e];rfl
 rw[if_neg (λg=>e (Aw.1 g)),if_neg e];exact R x
theorem T5.del{es:List (Value×Value)}{pl:Nat→Option Nat}(R:T5 es pl)(h:Nat):T5 (GU es (hv h)) (del pl h):=λx=>by
 rw[V8];unfold Wh.del;by_cases e:x=h
 ·rw[if_pos (Aw.2 e),if_pos e];rfl
 rw[if_neg (λg=>e (Aw.1 g)),if_neg e];exact R x
theorem Cd{M:List En}(N:Nd M){j k:Nat}(hj:j<M.length)(hk:k<M.length)(e:(at_ M j).h=(at_ M k).h):j=k:=by
 have h1:=iK hj;have h2:=iK hk;exact gN N (x:=(at_ M j).h) (by rw[acL,h1];rfl) (by rw[acL,h2,e];rfl)
theorem lK{M L:List En}(p:L.Perm M)(N:Nd M):Nd L:=(p.map En.h).nodup_iff.2 N
structure Uw (M:List En)(i:Nat)(pl:Nat→Option Nat):Prop where
 a:∀j,j<M.length→j≠i→pl (at_ M j).h=some j
 b:∀h,pl h≠none→∃k,k<M.length∧(at_ M k).h=h
structure wb (M:List En)(pl:Nat→Option Nat):Prop where
 a:∀j,j<M.length→pl (at_ M j).h=some j
 b:∀h,pl h≠none→∃k,k<M.length∧(at_ M k).h=h
theorem Uw.sw{M:List En}{i c:Nat}{pl:Nat→Option Nat}(P:Uw M i pl)(N:Nd M)(hi:i<M.length)(hc:c<M.length)(ne:i≠c):Uw (sw M i c) c (eP pl (at_ M c).h i):=by
 have A:=B9 hi hc;refine⟨λj jl n=> ?_,λh g=> ?_⟩
 ·rw[lX]at jl
  rw[A,if_neg n];unfold eP;by_cases e:j=i
  ·rw[if_pos e,if_pos rfl,e]
  rw[if_neg e,if_neg (λz=>n (Cd N jl hc z))];exact P.a j jl e
 unfold eP at g;rw[lX];by_cases e:h=(at_ M c).h
 ·exact⟨i,hi,by rw[A,if_neg ne,if_pos rfl,e]⟩
 rw[if_neg e]at g;obtain⟨k,k1,k2⟩:=P.b h g;by_cases e1:k=i
 ·exact⟨c,hc,by rw[A,if_pos rfl,←e1,k2]⟩
 have e2:k≠c:=λz=>e (by rw[←k2,z]);exact⟨k,k1,by rw[A,if_neg e2,if_neg e1,k2]⟩
theorem Uw.done{M:List En}{i:Nat}{pl:Nat→Option Nat}(P:Uw M i pl)(N:Nd M)(hi:i<M.length):wb M (eP pl (at_ M i).h i):=by
 refine⟨λj jl=> ?_,λh g=> ?_⟩
 ·unfold eP
  by_cases e:j=i
  ·rw[if_pos (by rw[e]),e]
  rw[if_neg (λz=>e (Cd N jl hi z))];exact P.a j jl e
 unfold eP at g;by_cases e:h=(at_ M i).h
 ·exact⟨i,hi,e.symm⟩
 rw[if_neg e]at g;exact P.b h g
theorem wb.none{M:List En}{pl:Nat→Option Nat}(P:wb M pl){h:Nat}(n:∀x∈M,x.h≠h):pl h=none:=by
 cases e:pl h with
 |none=>rfl
 |some j=>
  obtain⟨k,k1,k2⟩:=P.b h (by rw[e];simp);exact absurd k2 (n _ (List.mem_of_getElem? (iK k1)))
theorem wb.at{M:List En}{pl:Nat→Option Nat}(P:wb M pl){x:En}(hx:x∈M):∃k,k<M.length∧at_ M k=x∧pl x.h=some k:=by
 obtain⟨k,hk,e⟩:=acR hx;have:at_ M k=x:=by
  have:=iK hk;rw[acx hk,e]at this;exact(Option.some.inj this).symm
 exact⟨k,hk,this,by rw[←this];exact P.a k hk⟩
def cells (M:List En)(sp:List Value):List Value:=M.flatMap eN++sp
theorem kM:∀x,(eN x).length=3:=λ_=>rfl
theorem Mc (M:List En)(sp:List Value):(cells M sp).length=M.length*3+sp.length:=by
 unfold cells;rw[acI]
 congr 1
 induction M with
 |nil=>rfl
 |cons a l ih=>rw[adb,acI,ih,kM,ac7];omega
theorem ed (M:List En):(M.flatMap eN).length=M.length*3:=by
 have:=Mc M [];unfold cells at this
 simpa using this
theorem iQ:∀{M:List En} {j:Nat} (x:En),j<M.length→bU (M.flatMap eN) (j*3) (eN x)=(M.set j x).flatMap eN
 |a::M,0,x,_=>by
  rw[adb,lI (by rw[acI,kM,kM];omega),List.set_cons_zero,adb];rfl
 |a::M,j+1,x,h=>by
  have ih:=iQ (M:=M) (j:=j) x (by simpa using h);have hl:=ed M;have h2:j<M.length:=by simpa using h
  rw[lI (by rw[hl,kM];omega)]at ih;rw[adb,lI (by rw[acI,kM,kM,hl];omega),List.set_cons_succ,adb,←ih];rw[show(j+1)*3=j*3+3 by omega,show j*3+3+(eN x).length=j*3+(eN x).length+3 by omega];rfl
theorem iC{M:List En}{j:Nat}(h:j<M.length):((M.flatMap eN).drop (j*3)).take 3=eN (at_ M j):=by
 have hl:=ed M;apply ahE;intro k;rw[List.getElem?_take]
 split
 ·next hk=>
  rw[List.getElem?_drop];have h3:k<(eN (at_ M j)).length:=hk;rw[bE kM (iK h) (acx h3)];exact(acx h3).symm
 next hk=>exact(acK (by rw[kM];omega)).symm
theorem Oa{M:List En}{i c:Nat}(y:En)(hi:i<M.length)(hc:c<M.length)(ne:i≠c):(M.set i y).set i (at_ M c)=(sw M i c).set c (at_ M c):=by
 unfold sw;rw[adn,adn];have h:(M.set i (at_ M c))[c]?=some (at_ M c):=by rw[ac4,if_neg ne];exact iK hc
 exact(gW h).symm
end Wh
open Go Go.dL Go.Proofs.YtdolmecackmjdaaGreatDoor.Wh
theorem Qh{P:Program}{n:Nat}{ds:List Deferred}{F:ee}{σ:ba}{o:Oper}{t yt:TypeId}{x y:Operand}{i:Nat}(hi:i<4611686018427387904)(ho:o.op= .binOp .quo t x y yt:=by exact rfl)(hx:bx σ x=some (.int .i64 ((i:Int)-1)):=by exact rfl)(hy:bx σ y=some (.int .i64 2):=by exact rfl):Yv P n ds F σ o (.int .i64 (par i:Int)):=
 wi ho hx hy (by
  show(if(2:Int)=0 then none else some (IntKind.i64.wrap (((i:Int)-1).tdiv 2)))=_;rw[if_neg (by decide)];have:((i:Int)-1).tdiv 2=(par i:Int):=by
   unfold par;rcases i with _|i
   ·rfl
   rw[show(((i+1:Nat):Int)-1)=(i:Int) by omega,Nat.add_sub_cancel,Int.tdiv_eq_ediv_of_nonneg (by omega)];omega
  rw[this,wrap_i64 (by unfold par;omega)])
structure SI (L M:List En)(i:Nat)(e:En)(es:List (Value×Value))(pl:Nat→Option Nat):Prop where
 hx:Hx M i
 pm:M.Perm L
 px:Uw M i pl
 pr:T5 es pl
 ln:M.length=L.length
 lt:i<M.length
 e:at_ M i=e
structure agp (L M:List En)(es:List (Value×Value)):Prop where
 hp:yy M
 pm:M.Perm L
 ok:∃pl,T5 es pl∧wb M pl
theorem xJ (w c mb tn i:Nat)(a:Option Addr)(L:List En)(es:List (Value×Value))(pl:Nat→Option Nat)(hi:i<L.length)(hx:Hx L i)(N:Nd L)(hp:Uw L i pl)(R:T5 es pl)(hm:L.length<4611686018427387904)(ha:a.isSome=true):
  aH acw 213 [.pointer (some ⟨w,0,none⟩), .int .i64 (i:Int)] (λ_=>True) [ag w 197 (Mn a L.length c mb tn),own a c 243 3 (L.flatMap eN),mq (.int .u64) mb es]
   (λv H=>v= .tuple #[]∧∃M es',H= [ag w 197 (Mn a L.length c mb tn),own a c 243 3 (M.flatMap eN),mq (.int .u64) mb es']∧agp L M es'):=by
 have BE:=ed L;have YS:=iC hi;unfold Mn;have XZ:L.set i (at_ L i)=L:=gW (iK hi);obtain⟨e,he⟩:∃e,e=at_ L i:=⟨_,rfl⟩;rw[←he]at YS XZ;refine ae func213 rfl ntmps213 rfl ?_;intro F _;refine bB ?_;refine Li (Ix T.ig) ?_;refine ay ?_;refine Lp (oA T.Ak λb1=> ?_);refine Lp (eJ T.wQ ?_ (h1:=by simp[eN,Value.oneCell']));refine bc ?_;refine Li ((Qh (i:=i) (by omega))) ?_;refine a8 ?_;refine cg (ι:=List En×Nat×List En×List (Value×Value)×(Nat→Option Nat)) [17,18,19,20,21,22,23,24,25,26,27,28,29,30,34,35,36,37,38,39,40,41,42,43,44,1,31,32,33,5] (λs=>SI L s.1 s.2.1 e s.2.2.2.1 s.2.2.2.2∧(∃z,s.2.2.1=s.1.set s.2.1 z)∧(0<s.2.1→En.le (at_ s.1 (par s.2.1)) (at_ s.1 s.2.1))) (λs=> [(1, .int .i64 (s.2.1:Int))]) (λs=> [ag b1 243 (eN e),ag w 197 [.slice a L.length c, .map (some mb), .int .u64 (tn:Int)],own a c 243 3 (s.2.2.1.flatMap eN),mq (.int .u64) mb s.2.2.2.1]) ?_ ?_
 ·refine fh ?_
  refine Lo (ι:=List En×Nat×List En×List (Value×Value)×(Nat→Option Nat)) [17,18,19,20,21,22,23,24,25,26,27,28,29,30,34,35,36,37,38,39,40,41,42,43,44,1,31,32,33,5] (λs=>SI L s.1 s.2.1 e s.2.2.2.1 s.2.2.2.2∧∃z,s.2.2.1=s.1.set s.2.1 z) (λs=> [(1, .int .i64 (s.2.1:Int)),(5, .int .i64 (par s.2.1:Int))]) (λs=> [ag b1 243 (eN e),ag w 197 [.slice a L.length c, .map (some mb), .int .u64 (tn:Int)],own a c 243 3 (s.2.2.1.flatMap eN),mq (.int .u64) mb s.2.2.2.1]) (λs=>s.2.1) ((L,i,L,es,pl)) ⟨⟨hx,acN.refl _,hp,R,rfl,hi,he.symm⟩,e,XZ.symm⟩ ?_;rintro⟨M,k,P,D7,p1⟩ hI;dsimp only at hI⊢;obtain⟨S,z,hP⟩:=hI;have hk:=S.lt;have sU:=S.ln;have hPl:P.length=M.length:=by rw[hP,acE]
  have hfp:=ed P;have NM:=lK S.pm N;by_cases h0:0<k
  ·have hpk:=ij h0
   have hft2:=iC (M:=P) (j:=par k) (by omega);have uI:at_ P (par k)=at_ M (par k):=by rw[hP,l8 hk,if_neg (by omega)]
   rw[uI]at hft2;have Xp:=nD e (at_ M (par k));refine ay ?_;refine au ?_;refine gK 13 T.mix (.cons .here (.cons .here (.cons .here .nil))) λF1 iT cj aI=> ?_;obtain⟨q1,q2,q3,_⟩:=cj;have r3:=bD q3;refine aZ ?_;refine zt 19 ?_;refine bB ?_;refine Ti (Ix T.ig) ?_;refine ay ?_;refine Tp (oC T.Fm rfl rfl (se e (at_ M (par k))) .nil (λ_ _ _=>trivial) ?_);rintro v H' ⟨rfl,rfl⟩;refine bd ?_;refine ay ?_;refine gd aI ?_;refine a8 ?_;by_cases bX:En.lt e (at_ M (par k))
   ·refine dz ?_ (e:=by exact decide_eq_true (Xp.2 bX))
    refine dQ ?_;refine Li (Ix T.ig) ?_;refine ay ?_;refine zl T.AH (uW w L.length c mb tn k a (at_ M (par k)) (P.flatMap eN) D7 (by omega) (by omega) ha) (.cons (.there (.there .here)) (.cons (.there (.there .here)) .nil)) (λ_ le aw=>aw.nth 1 rfl) ?_;rw[Wh.iQ _ (by omega)];refine bw ?_;refine Li ((Qh (i:=par k) (by omega))) ?_;refine ay ?_;refine az ?_;refine Ro ((sw M k (par k),par k,P.set k (at_ M (par k)),Ed D7 (hv (at_ M (par k)).h) (iv k),eP p1 (at_ M (par k)).h k)) (⟨⟨afc S.hx h0 hk (by rw[S.e];exact bX),(Hv hk (by omega) (by omega)).trans S.pm,S.px.sw NM hk (by omega) (by omega),S.pr.eP _ _,(by rw[lX];exact sU),(show par k<(sw M k (par k)).length by rw[lX];omega),(by rw[B9 hk (by omega),if_pos rfl];exact S.e)⟩,at_ M (par k),(by rw[hP];exact Oa z hk (by omega) (by omega))⟩) ((by dsimp only;omega))
   refine cu ?_ (e:=by exact decide_eq_false (λg=>bX (Xp.1 g)));refine aR ?_;refine Me ((M,k,P,D7,p1)) (⟨S,⟨z,hP⟩,λ_=>(by rw[S.e];exact En.tM bX)⟩)
  obtain rfl:k=0:=by omega
  refine ay ?_;refine au ?_;refine gK 13 T.mix (.cons .here (.cons .here (.cons .here .nil))) λF2 yi ez dX=> ?_;obtain⟨q1,q2,q3,_⟩:=ez;refine aZ ?_;refine zf 19 ?_ (e:=by rfl);refine bw ?_;refine gd dX ?_;refine bH ?_;refine Me ((M,0,P,D7,p1)) (⟨S,⟨z,hP⟩,λh=>absurd h (Nat.lt_irrefl 0)⟩)
 rintro s hI;obtain⟨M0,k0,P0,es0,p0⟩:=s;dsimp only at hI⊢;obtain⟨S0,z0,hu0⟩:=hI;refine au ?_;refine cg (ι:=List En×Nat×List En×List (Value×Value)×(Nat→Option Nat)) [45,46,47,6,48,49,50,51,52,53,54,55,56,57,58,59,60,61,62,63,64,65,66,67,68,69,70,71,72,73,74,75,76,77,78,79,80,81,82,83,84,85,86,87,88,89,90,91,92,93,94,95,96,97,98,99,100,101,102,103,104,105,106,1] (λs=>(SI L s.1 s.2.1 e s.2.2.2.1 s.2.2.2.2∧(∃z,s.2.2.1=s.1.set s.2.1 z)∧(0<s.2.1→En.le (at_ s.1 (par s.2.1)) (at_ s.1 s.2.1)))∧∀j,0<j→j<s.1.length→par j=s.2.1→En.le e (at_ s.1 j)) (λs=> [(1, .int .i64 (s.2.1:Int))]) (λs=> [ag b1 243 (eN e),ag w 197 [.slice a L.length c, .map (some mb), .int .u64 (tn:Int)],own a c 243 3 (s.2.2.1.flatMap eN),mq (.int .u64) mb s.2.2.2.1]) ?_ ?_
 ·refine fh ?_
  refine Lo (ι:=List En×Nat×List En×List (Value×Value)×(Nat→Option Nat)) [45,46,47,6,48,49,50,51,52,53,54,55,56,57,58,59,60,61,62,63,64,65,66,67,68,69,70,71,72,73,74,75,76,77,78,79,80,81,82,83,84,85,86,87,88,89,90,91,92,93,94,95,96,97,98,99,100,101,102,103,104,105,106,1] (λs=>SI L s.1 s.2.1 e s.2.2.2.1 s.2.2.2.2∧(∃z,s.2.2.1=s.1.set s.2.1 z)∧(0<s.2.1→En.le (at_ s.1 (par s.2.1)) (at_ s.1 s.2.1))) (λs=> [(1, .int .i64 (s.2.1:Int))]) (λs=> [ag b1 243 (eN e),ag w 197 [.slice a L.length c, .map (some mb), .int .u64 (tn:Int)],own a c 243 3 (s.2.2.1.flatMap eN),mq (.int .u64) mb s.2.2.2.1]) (λs=>L.length-s.2.1) ((M0,k0,P0,es0,p0)) ⟨S0,z0,hu0⟩ ?_;rintro⟨M,k,P,D7,p1⟩ hI;dsimp only at hI⊢;obtain⟨S,⟨z,hP⟩,hu⟩:=hI;have hk:=S.lt;have sU:=S.ln;have hPl:P.length=M.length:=by rw[hP,acE]
  have hfp:=ed P;have NM:=lK S.pm N;refine cI ?_;refine au ?_;refine ao (t:=6) (v':=(.int .i64 ((2*k+1:Nat):Int))) rfl (by rfl) ?_;refine cg (ι:=Bool) [48,49,50,51,52,53,54,55,56,57,58,59,60,61,62,63,64,65,66,67,68,69,70,71,72,73,74] (λt=>t=decide (2*k+2<L.length∧En.lt (at_ M (2*k+2)) (at_ M (2*k+1)))) (λt=> [(74, .bool t)]) (λt=> [ag b1 243 (eN e),ag w 197 [.slice a L.length c, .map (some mb), .int .u64 (tn:Int)],own a c 243 3 (P.flatMap eN),mq (.int .u64) mb D7]) ?_ ?_
  ·by_cases h2:2*k+2<L.length
   ·have f1:=iC (M:=P) (j:=2*k+2) (by omega)
    have f2:=iC (M:=P) (j:=2*k+1) (by omega);rw[show at_ P (2*k+2)=at_ M (2*k+2) by rw[hP,l8 hk,if_neg (by omega)]]at f1;rw[show at_ P (2*k+1)=at_ M (2*k+1) by rw[hP,l8 hk,if_neg (by omega)]]at f2;have Xp:=nD (at_ M (2*k+2)) (at_ M (2*k+1));refine gK 26 T.mix (.cons .here (.cons .here (.cons .here .nil))) λF3 MN qH fM=> ?_;obtain⟨q1,q2,q3,_⟩:=qH;have r3:=bD q3;refine cN ?_;refine zt 56 ?_;refine bB ?_;refine Ti (Ix T.ig (j:=2*k+2) (hj:=by omega)) ?_;refine bB ?_;refine Ti (Ix T.ig (j:=2*k+1) (hj:=by omega)) ?_;refine ay ?_;refine Tp (oC T.Fm rfl rfl (se (at_ M (2*k+2)) (at_ M (2*k+1))) .nil (λ_ _ _=>trivial) ?_);rintro v H' ⟨rfl,rfl⟩;refine bd ?_;refine ay ?_;refine gd fM ?_;refine ay ?_;refine Tn ?_;refine Me ((decide (EA (at_ M (2*k+2)) (at_ M (2*k+1))<0))) ((decide_eq_decide.2 ⟨λg=>⟨h2,Xp.1 g⟩,λg=>Xp.2 g.2⟩))
   refine gK 26 T.mix (.cons .here (.cons .here (.cons .here .nil))) λF4 le4 Nb Cn=> ?_;obtain⟨q1,q2,q3,_⟩:=Nb;refine cN ?_;refine zf 56 ?_;refine kx ?_;refine gd Cn ?_;refine ay ?_;refine Tn ?_;refine Me (false) ((by rw[decide_eq_false (λg=>h2 g.1)]))
  rintro t ht;refine cg (ι:=Nat) [75,76,6] (λd=>(2*k+1≤d∧d≤2*k+2)∧∀j,0<j→j<M.length→par j=k→d<M.length∧En.le (at_ M d) (at_ M j)) (λd=> [(6, .int .i64 (d:Int))]) (λd=> [ag b1 243 (eN e),ag w 197 [.slice a L.length c, .map (some mb), .int .u64 (tn:Int)],own a c 243 3 (P.flatMap eN),mq (.int .u64) mb D7]) ?_ ?_
  ·refine av rfl ?_ ?_
   ·intro hc
    replace hc:=aD hc;rw[hc]at ht;have ry:=of_decide_eq_true ht.symm;refine aR ?_;refine az ?_;refine Me ((2*k+2)) (⟨⟨(by omega),(by omega)⟩,λj j0 jl pj=>⟨(by omega),(by have hj:j=2*k+1∨j=2*k+2:=(by unfold par at pj;omega);rcases hj with rfl|rfl;exact En.le_of_lt ry.2;exact En.le_refl _)⟩⟩)
   intro hc;replace hc:=aD hc;rw[hc]at ht;have ry:=of_decide_eq_false ht.symm;refine ay ?_;refine Me ((2*k+1)) (⟨⟨(by omega),(by omega)⟩,λj j0 jl pj=>⟨(by unfold par at pj;omega),(by have hj:j=2*k+1∨j=2*k+2:=(by unfold par at pj;omega);rcases hj with rfl|rfl;exact En.le_refl _;exact En.tM λg=>ry ⟨(by omega),g⟩)⟩⟩)
  rintro d hd;refine ay ?_;refine au ?_;by_cases hdn:d<L.length
  ·have f1:=iC (M:=P) (j:=d) (by omega)
   rw[show at_ P d=at_ M d by rw[hP,l8 hk,if_neg (by omega)]]at f1;have Xp:=nD e (at_ M d);refine gK 19 T.mix (.cons .here (.cons .here (.cons .here .nil))) λF5 le5 Y5 NP=> ?_;obtain⟨q1,q2,q3,_⟩:=Y5;have r3:=bD q3;refine cI ?_;refine zf 84 ?_;refine bB ?_;refine Ti (Ix T.ig) ?_;refine ay ?_;refine Tp (oC T.Fm rfl rfl (se e (at_ M d)) .nil (λ_ _ _=>trivial) ?_);rintro v H' ⟨rfl,rfl⟩;refine bd ?_;refine a8 ?_;refine gd NP ?_;refine ay ?_;by_cases bX:En.lt e (at_ M d)
   ·refine dz ?_ (e:=by exact decide_eq_true (Xp.2 bX))
    refine bc ?_;refine Me ((M,k,P,D7,p1)) (⟨⟨S,⟨z,hP⟩,hu⟩,λj j0 jl pj=>En.le_trans (En.le_of_lt bX) (hd.2 j j0 jl pj).2⟩)
   refine cu ?_ (e:=by exact decide_eq_false (λg=>bX (Xp.1 g)));have hle:=En.tM bX;have hpd:par d=k:=by unfold par;omega
   have hdw:=Wy S.hx hk (c:=d) (by omega) (by omega) hpd (λj j0 jl pj=>(hd.2 j j0 jl pj).2) (by rw[S.e];exact hle);refine bw ?_;refine Li (Ix T.ig) ?_;refine ay ?_;refine zl T.AH (uW w L.length c mb tn k a (at_ M d) (P.flatMap eN) D7 (by omega) (by omega) ha) (.cons (.there (.there .here)) (.cons (.there (.there .here)) .nil)) (λ_ le aw=>aw.nth 1 rfl) ?_;rw[Wh.iQ _ (by omega)];refine bB ?_;refine Ro ((sw M k d,d,P.set k (at_ M d),Ed D7 (hv (at_ M d).h) (iv k),eP p1 (at_ M d).h k)) (⟨⟨hdw.1,(Hv hk (by omega) (by omega)).trans S.pm,S.px.sw NM hk (by omega) (by omega),S.pr.eP _ _,(by rw[lX];exact sU),(show d<(sw M k d).length by rw[lX];omega),(by rw[B9 hk (by omega),if_pos rfl];exact S.e)⟩,⟨at_ M d,(by rw[hP];exact Oa z hk (by omega) (by omega))⟩,λ_=>hdw.2⟩) ((by dsimp only;omega))
  refine gK 19 T.mix (.cons .here (.cons .here (.cons .here .nil))) λF6 le6 Y4 NO=> ?_;obtain⟨q1,q2,q3,_⟩:=Y4;refine cI ?_;refine zt 84 ?_;refine bK ?_;refine gd NO ?_;refine bH ?_;refine Me ((M,k,P,D7,p1)) (⟨⟨S,⟨z,hP⟩,hu⟩,λj j0 jl pj=>absurd (hd.2 j j0 jl pj).1 (by omega)⟩)
 rintro s hI;obtain⟨M,k,P,D7,p1⟩:=s;dsimp only at hI⊢;obtain⟨⟨S,⟨z,hP⟩,hu⟩,hch⟩:=hI;have hk:=S.lt;have sU:=S.ln;have hPl:P.length=M.length:=by rw[hP,acE]
 have hfp:=ed P;have NM:=lK S.pm N;refine aR ?_;refine zl T.AH (uW w L.length c mb tn k a e (P.flatMap eN) D7 (by omega) (by omega) ha) (.cons (.there (.there .here)) (.cons (.there (.there .here)) .nil)) (λ_ le aw=>aw.nth 1 rfl) ?_;rw[Wh.iQ _ (by omega)];have hPM:P.set k e=M:=by
  rw[hP,adn];exact gW (by rw[iK hk,S.e])
 rw[hPM];refine az ?_;refine jM [ag w 197 [.slice a L.length c, .map (some mb), .int .u64 (tn:Int)],own a c 243 3 (M.flatMap eN),mq (.int .u64) mb (Ed D7 (hv e.h) (iv k))] results213 ?_;refine⟨rfl,M,Ed D7 (hv e.h) (iv k),rfl,Wz S.hx hu (by rw[S.e];exact hch),S.pm,eP p1 e.h k,S.pr.eP _ _, ?_⟩;have:=S.px.done NM hk
 rwa[S.e]at this
structure Uv where
 a:Option Addr
 c:Nat
 mb:Nat
 es:List (Value×Value)
structure v7 (M:List En)(y:Uv)(tn:Nat):Prop where
 hp:yy M
 nd:Nd M
 pl:∃pl,T5 y.es pl∧wb M pl
 tu:∀x∈M,x.tu≤tn
 td:(M.map En.tu).Nodup
 sm:M≠ []→y.a.isSome=true
 ln:M.length<2147483648
 cp:M.length≤y.c
 ex:∀x∈M,0<x.ex
def Bz (w:Nat)(y:Uv)(M:List En)(tn:Nat):List aa:= [ag w 197 (Mn y.a M.length y.c y.mb tn),own y.a y.c 243 3 (M.flatMap eN),mq (.int .u64) y.mb y.es]
def Wl (w:Nat)(E:List En)(tn:Nat):aa:=λh=>∃y M,M.Perm E∧v7 M y tn∧aN (Bz w y M tn) h
def eX (E:List En)(h:Nat):List En:=E.filter λx=>decide (x.h≠h)
def ky (E:List En)(h ex tn:Nat):List En:=if 0<ex then⟨h,ex,tn+1⟩::eX E h else eX E h
theorem xI{x:En}{M L:List En}(p:(x::L).Perm M)(N:Nd M):L.Perm (eX M x.h):=by
 have n2:Nd (x::L):=lK p N;unfold Nd at n2;rw[acM,acP]at n2;have e:(x::L).filter (λz=>decide (z.h≠x.h))=L:=by
  rw[agz,if_neg (by simp),ahY];intro z hz;simp only[decide_eq_true_eq];intro g;exact n2.1 (adi.2 ⟨z,hz,g⟩)
 have:=p.filter (λz=>decide (z.h≠x.h));rw[e]at this;exact this
theorem Ql{M:List En}{h:Nat}(n:∀x∈M,x.h≠h):eX M h=M:=by
 unfold eX;rw[ahY];intro x hx
 simpa using n x hx
theorem qZ{M L:List En}(p:M.Perm L)(h:Nat):(eX M h).Perm (eX L h):=p.filter _
theorem Ji{M:List En}{h:Nat}:∀x∈eX M h,x∈M∧x.h≠h:=λx hx=>by
 have:=adf.1 hx;exact⟨this.1,by simpa using this.2⟩
theorem N6{M L:List En}{tn:Nat}{x:En}(p:(x::L).Perm M)(t:∀z∈M,z.tu≤tn)(d:(M.map En.tu).Nodup):(∀z∈L,z.tu≤tn)∧(L.map En.tu).Nodup:=by
 refine⟨λz hz=>t z (p.mem_iff.1 (acC _ hz)), ?_⟩;have:=(p.map En.tu).nodup_iff.2 d;rw[acM,acP]at this;exact this.2
theorem Bb{M:List En}(h:0<M.length):M=M.dropLast++ [at_ M (M.length-1)]:=by
 have h1:=List.dropLast_concat_getLast (l:=M) (by intro e;rw[e]at h;cases h);have h2:M.getLast (by intro e;rw[e]at h;cases h)=at_ M (M.length-1):=by
  have:=iK (M:=M) (j:=M.length-1) (by omega);rw[List.getLast_eq_getElem,←Option.some_inj,←this,acx]
 rw[←h2];exact h1.symm
theorem Co{M:List En}{j:Nat}(h:j<M.length-1):at_ M.dropLast j=at_ M j:=by
 unfold at_;rw[acy,acy,ahN,if_pos h]
theorem Jq{M:List En}{pl:Nat→Option Nat}(h:0<M.length)(N:Nd M)(P:wb M pl):(at_ M (M.length-1)::M.dropLast).Perm M∧wb M.dropLast (del pl (at_ M (M.length-1)).h):=by
 have hl:=Bb h;refine⟨?_,λj jl=> ?_,λk g=> ?_⟩
 ·exact(agI (l₁:= [at_ M (M.length-1)])).trans (by rw[←hl])
 ·rw[adg]at jl
  rw[Co jl];unfold del;rw[if_neg (λe=>by have:=Cd N (by omega) (by omega) e;omega)];exact P.a j (by omega)
 unfold del at g;by_cases e:k=(at_ M (M.length-1)).h
 ·rw[if_pos e]at g;exact absurd rfl g
 rw[if_neg e]at g;obtain⟨u,u1,u2⟩:=P.b k g;have ne:u≠M.length-1:=λz=>e (by rw[←u2,z]);exact⟨u,by rw[adg];omega,by rw[Co (by omega)];exact u2⟩
theorem Qt{M:List En}{pl:Nat→Option Nat}{i:Nat}(hi:i<M.length-1)(H:yy M)(N:Nd M)(P:wb M pl):
  (at_ M i::M.dropLast.set i (at_ M (M.length-1))).Perm M∧Hx (M.dropLast.set i (at_ M (M.length-1))) i∧Uw (M.dropLast.set i (at_ M (M.length-1))) i (eP (del pl (at_ M i).h) (at_ M (M.length-1)).h i):=by
 have hl:=Bb (M:=M) (by omega);have hd:i<M.dropLast.length:=by rw[adg];exact hi
 refine⟨?_,aaM (zy H) hd _,λj jl n=> ?_,λk g=> ?_⟩
 ·have h0:=jI (iK hd) (at_ M.dropLast i)
  rw[gW (iK hd),Co hi]at h0;have h1:=jI (iK hd) (at_ M (M.length-1));refine(acN.cons _ h1).trans ((acN.swap _ _ _).trans ((acN.cons _ h0.symm).trans ?_));exact(agI (l₁:= [at_ M (M.length-1)])).trans (by rw[←hl])
 ·rw[acE,adg]at jl
  rw[l8 hd,if_neg n,Co jl];unfold eP del;rw[if_neg (λe=>by have:=Cd N (by omega) (by omega) e;omega),if_neg (λe=>n (Cd N (by omega) (by omega) e))];exact P.a j (by omega)
 rw[acE,adg];unfold eP del at g;by_cases e:k=(at_ M (M.length-1)).h
 ·exact⟨i,hi,by rw[l8 hd,if_pos rfl,e]⟩
 rw[if_neg e]at g;by_cases e2:k=(at_ M i).h
 ·rw[if_pos e2]at g;exact absurd rfl g
 rw[if_neg e2]at g;obtain⟨u,u1,u2⟩:=P.b k g;have n1:u≠M.length-1:=λz=>e (by rw[←u2,z]);have n2:u≠i:=λz=>e2 (by rw[←u2,z]);exact⟨u,by omega,by rw[l8 hd,if_neg n2,Co (by omega)];exact u2⟩
theorem WQ{M:List En}(h:0<M.length):(M.flatMap eN).take ((M.length-1)*3)=M.dropLast.flatMap eN:=by
 have hl:=Bb h;have h2:M.flatMap eN=M.dropLast.flatMap eN++eN (at_ M (M.length-1)):=by
  have:M.flatMap eN=(M.dropLast++ [at_ M (M.length-1)]).flatMap eN:=by rw[←hl]
  rw[this,agD];simp
 have h3:=Wh.ed M.dropLast;rw[adg]at h3;rw[h2,ahp (by omega),List.take_of_length_le (by omega)]
theorem Vk{M:List En}{pl:Nat→Option Nat}(P:wb M pl)(x:En):Uw (M++ [x]) M.length pl:=by
 have a:∀j,j<M.length→at_ (M++ [x]) j=at_ M j:=λj h=>by
  unfold at_;rw[acy,acy,agx h]
 refine⟨λj jl n=> ?_,λh g=> ?_⟩
 ·rw[acI,adv]at jl
  rw[a j (by omega)];exact P.a j (by omega)
 obtain⟨k,k1,k2⟩:=P.b h g;exact⟨k,by rw[acI];omega,by rw[a k k1];exact k2⟩
structure TkOk (M:List En)(h tn:Nat)(y':Uv)(M':List En):Prop where
 ok:v7 M' y' tn
 pm:M'.Perm (eX M h)
theorem PL (a:Option Addr)(m k:Nat):Ai a 0 m (0*k)=a:=by
 unfold Ai
 split
 ·rfl
 ·rw[Nat.zero_mul];cases a<;>simp[add_zero']
theorem JZ{M:List En}(h:0<M.length):M≠ []:=λe=>by rw[e]at h;cases h
theorem wU (w:Nat)(y:Uv)(M:List En)(tn h:Nat)(W:v7 M y tn):
  aH acw 154 [.pointer (some ⟨w,0,none⟩), .int .u64 (h:Int)] (λ_=>True) (Bz w y M tn)
   (λv H=>∃y' M',v= .bool (decide (h∈M.map En.h))∧H=Bz w y' M' tn∧TkOk M h tn y' M'):=by
 obtain⟨pl,R,P⟩:=W.pl;have hR:=R h;unfold hv at hR;by_cases hx:∃x∈M,x.h=h
 ·obtain⟨x,hxm,hxh⟩:=hx
  obtain⟨i,hi,uI,hpl⟩:=P.at hxm;rw[hxh]at hpl;rw[hpl,Option.map_some]at hR;have aw:h∈M.map En.h:=adi.2 ⟨x,hxm,hxh⟩;have ha:=W.sm (λe=>by rw[e]at hxm;cases hxm);have BE:=Wh.ed M;have sU:=W.ln;have hcp:=W.cp;have YS:=Wh.iC (M:=M) (j:=M.length-1) (by omega);rw[decide_eq_true aw];unfold Bz Mn;generalize hes:y.es=es at*;refine ae func154 rfl ntmps154 rfl ?_;intro F _;refine cN ?_;refine Lp (adW T.Ar ?_);refine bK ?_;rw[hR,Option.getD_some,Option.isSome_some];unfold iv;refine cN ?_;refine Lp (oQd T.Ar ?_);refine bw ?_;refine au ?_;refine ao (t:=7) (v':=(.int .i64 ((M.length-1:Nat):Int))) rfl (by(congr 1;omega)) ?_;refine bB ?_;refine Li (Ix T.ig) ?_;refine ay ?_;refine Lp (oA T.Ak λb1=> ?_);refine Lp (eJ T.wQ ?_ (h1:=by simp[eN,Value.oneCell']));refine cI ?_;refine Li (Sl 0 _ _ T.ig) ?_;refine bw ?_;rw[PL,ahi,ahi];refine Hh (H':= [ag b1 243 (eN (at_ M (M.length-1))),ag w 197 [.slice y.a (M.length-1) y.c, .map (some y.mb), .int .u64 (tn:Int)],own y.a y.c 243 3 (M.flatMap eN),mq (.int .u64) y.mb (GU es (.int .u64 (h:Int)))]) ?_;refine aC (λ_ s=>aO (λ_ s=>aO (λ_ s=>bm (λ_ p=>xc p ((M.length-1)*3)) s) s) s) ?_;rw[WQ (by omega)];have BO:M.dropLast.length=M.length-1:=adg;have hfd:=Wh.ed M.dropLast;have R1:=R.del h;unfold hv at R1;have hnh:(at_ M i).h=h:=by rw[uI,hxh]
  by_cases hl:i<M.length-1
  ·obtain⟨t1,t2,t3⟩:=Qt hl W.hp W.nd P
   rw[hnh]at t3;have N2:Nd (M.dropLast.set i (at_ M (M.length-1))):=by
    have:=lK t1 W.nd;unfold Nd at this;rw[acM,acP]at this;exact this.2
   have S:=N6 t1 W.tu W.td;have pm:=xI t1 W.nd;rw[hnh]at pm;have X3:(M.dropLast.set i (at_ M (M.length-1))).length=M.length-1:=by rw[acE,BO]
   have st:=xJ w y.c y.mb tn i y.a (M.dropLast.set i (at_ M (M.length-1))) (Ed (GU es (.int .u64 (h:Int))) (hv (at_ M (M.length-1)).h) (iv i)) _ (by omega) t2 N2 t3 (R1.eP _ _) (by omega) ha;rw[X3]at st;have hex:∀z∈M.dropLast.set i (at_ M (M.length-1)),0<z.ex:=λz hz=>W.ex z (t1.mem_iff.1 (acC _ hz));generalize hM2:M.dropLast.set i (at_ M (M.length-1))=M2 at*;refine dz ?_;refine aR ?_;refine zl T.AH (uW w (M.length-1) y.c y.mb tn i y.a (at_ M (M.length-1)) (M.dropLast.flatMap eN) (GU es (.int .u64 (h:Int))) (by omega) (by omega) ha) (.cons (.there (.there .here)) (.cons (.there (.there .here)) .nil)) (λ_ le aw=>aw.nth 1 rfl) ?_;rw[Wh.iQ _ (by omega),hM2];refine aR ?_;refine Lp (oC T.OR rfl rfl (st) (.cons (.there (.there (.there .here))) (.cons .here (.cons .here .nil))) (λ_ _ _=>trivial) ?_);rintro v H' ⟨rfl,M3,es3,rfl,S3⟩;refine bd ?_;have l3:M3.length=M.length-1:=by rw[S3.pm.length_eq,X3]
   rw[←l3];refine bc ?_;refine Rt [ag w 197 [.slice y.a M3.length y.c, .map (some y.mb), .int .u64 (tn:Int)],own y.a y.c 243 3 (M3.flatMap eN),mq (.int .u64) y.mb es3] results154 ?_;refine⟨⟨y.a,y.c,y.mb,es3⟩,M3,rfl,rfl,⟨S3.hp,lK S3.pm N2,S3.ok,λz hz=>S.1 z (S3.pm.mem_iff.1 hz),(S3.pm.map En.tu).nodup_iff.2 S.2,λ_=>ha,by omega,by show _≤y.c;omega,λz hz=>hex z (S3.pm.mem_iff.1 hz)⟩,S3.pm.trans pm⟩
  obtain rfl:i=M.length-1:=by omega
  obtain⟨t1,t2⟩:=Jq (by omega) W.nd P;rw[hnh]at t2;have S:=N6 t1 W.tu W.td;have pm:=xI t1 W.nd;rw[hnh]at pm;have N2:Nd M.dropLast:=by
   have:=lK t1 W.nd;unfold Nd at this;rw[acM,acP]at this;exact this.2
  rw[←BO];refine cu ?_;refine bB ?_;refine Rt [ag w 197 [.slice y.a M.dropLast.length y.c, .map (some y.mb), .int .u64 (tn:Int)],own y.a y.c 243 3 (M.dropLast.flatMap eN),mq (.int .u64) y.mb (GU es (.int .u64 (h:Int)))] results154 ?_;exact⟨⟨y.a,y.c,y.mb,GU es (.int .u64 (h:Int))⟩,M.dropLast,rfl,rfl,⟨zy W.hp,N2,⟨_,R1,t2⟩,S.1,S.2,λ_=>ha,by omega,by show _≤y.c;omega,λz hz=>W.ex z (t1.mem_iff.1 (acC _ hz))⟩,pm⟩
 have ou:∀x∈M,x.h≠h:=λx h1 h2=>hx ⟨x,h1,h2⟩;have aw:¬h∈M.map En.h:=λg=>by
  obtain⟨x,h1,h2⟩:=adi.1 g;exact hx ⟨x,h1,h2⟩
 rw[P.none ou,Option.map_none]at hR;rw[decide_eq_false aw];unfold Bz Mn;generalize hes:y.es=es at*;refine ae func154 rfl ntmps154 rfl ?_;intro F _;refine cN ?_;refine Lp (adW T.Ar ?_);refine bK ?_;rw[hR,Option.getD_none,Option.isSome_none];refine bB ?_;refine Rt [ag w 197 [.slice y.a M.length y.c, .map (some y.mb), .int .u64 (tn:Int)],own y.a y.c 243 3 (M.flatMap eN),mq (.int .u64) y.mb es] results154 ?_;exact⟨y,M,rfl,by rw[hes],W,by rw[Ql ou]⟩
structure YD (M:List En)(h ex tn:Nat)(y':Uv)(M':List En):Prop where
 ok:v7 M' y' (if 0<ex then tn+1 else tn)
 pm:M'.Perm (ky M h ex tn)
theorem Qm (w:Nat)(y:Uv)(M:List En)(tn h:Nat)(ex:Int)(W:v7 M y tn)(he:ex≤0):
  aH acw 170 [.pointer (some ⟨w,0,none⟩), .int .u64 (h:Int), .int .i64 ex] (λ_=>True) (Bz w y M tn)
   (λv H=>∃y' M',v= .tuple #[]∧H=Bz w y' M' tn∧YD M h 0 tn y' M'):=by
 unfold Bz;refine ae func170 rfl ntmps170 rfl ?_;intro F _;refine aZ ?_;refine Lp (oC T.Fj rfl rfl (wU w y M tn h W) (.cons .here (.cons .here (.cons .here .nil))) (λ_ _ _=>trivial) ?_);rintro v H' ⟨y1,M1,rfl,rfl,T1⟩;refine bd ?_;refine bB ?_;refine dz ?_ (e:=by exact decide_eq_true he);refine a8 ?_;refine Rt0 [ag w 197 (Mn y1.a M1.length y1.c y1.mb tn),own y1.a y1.c 243 3 (M1.flatMap eN),mq (.int .u64) y1.mb y1.es] results170 ?_;exact⟨y1,M1,rfl,rfl,T1.ok,T1.pm⟩
theorem UY (w:Nat)(y:Uv)(M:List En)(tn h ex:Nat)(W:v7 M y tn)(he:0<ex)(ht:tn<18446744073709551615)(hm:M.length<2147483647):
  aH acw 170 [.pointer (some ⟨w,0,none⟩), .int .u64 (h:Int), .int .i64 (ex:Int)] (λ_=>True) (Bz w y M tn)
   (λv H=>∃y' M',v= .tuple #[]∧H=Bz w y' M' (tn+1)∧YD M h ex tn y' M'):=by
 unfold Bz;refine ae func170 rfl ntmps170 rfl ?_;intro F _;refine aZ ?_;refine Lp (oC T.Fj rfl rfl (wU w y M tn h W) (.cons .here (.cons .here (.cons .here .nil))) (λ_ _ _=>trivial) ?_);rintro v H' ⟨y1,M1,rfl,rfl,T1⟩;refine bd ?_;have W1:=T1.ok;have Xs:M1.length≤M.length:=by rw[T1.pm.length_eq];exact List.length_filter_le _ _
 have BE:=Wh.ed M1;refine Hh (H':= [ag w 197 [.slice y1.a M1.length y1.c, .map (some y1.mb), .int .u64 (tn:Int)],own y1.a y1.c 243 3 (M1.flatMap eN),mq (.int .u64) y1.mb y1.es]) ?_;refine bB ?_;refine cu ?_;refine dQ ?_;refine au ?_;refine gK 14 T.mix (.cons .here .nil) λF1 iT cj aI=> ?_;obtain⟨q1,_⟩:=cj;refine dQ ?_;refine Tp (oT1 T.AN λb1=> ?_);refine Tp (bF T.AN T.Oh rfl rfl rfl rfl .here (by omega) (rfl) (by simp[bU,Value.cells,Value.oneCell']) (by omega) (by omega) rfl λa2 c2 ow=> ?_);refine gd aI ?_;obtain⟨x,hx⟩:∃x:En,x=⟨h,ex,tn+1⟩:=⟨_,rfl⟩;have MY:(M1++ [x]).flatMap eN=M1.flatMap eN++ [.int .u64 (h:Int), .int .i64 (ex:Int), .int .u64 ((tn:Int)+1)]:=by
  rw[agD,hx];rfl
 have hlen:(M1++ [x]).length=M1.length+1:=by simp
 have hnot:∀z∈M1,z.h≠h:=λz hz=>(Ji z (T1.pm.mem_iff.1 hz)).2;have htu:=W1.tu;obtain⟨pl,R,P⟩:=W1.pl;have N2:Nd (M1++ [x]):=by
  unfold Nd;rw[adq,adl];refine⟨W1.nd,by simp,λu hu v hv e=> ?_⟩;obtain⟨z,hz,rfl⟩:=adi.1 hu;simp only[acM,aiu,acX]at hv;rw[hv,hx]at e;exact hnot z hz e
 refine dQ ?_;refine ao (t:=40) (v':=(.int .i64 (M1.length:Int))) rfl (by(congr 1;omega)) ?_;refine Hh (H':= [ag w 197 [.slice a2 (M1.length+1) c2, .map (some y1.mb), .int .u64 ((tn:Int)+1)],own a2 c2 243 3 (M1.flatMap eN++ [.int .u64 (h:Int), .int .i64 (ex:Int), .int .u64 ((tn:Int)+1)]),mq (.int .u64) y1.mb y1.es]) ?_;rw[←MY,←hlen];refine fV (dZ (.there .here) (λk o=>fy o (by rw[Wh.ed,hlen];omega))) λha=> ?_;refine Lp (oC T.OR rfl rfl (xJ w c2 y1.mb (tn+1) M1.length a2 (M1++ [x]) y1.es pl (by omega) (Wx W1.hp x) N2 (Vk P x) R (by omega) ha) (.cons .here (.cons .here (.cons .here .nil))) (λ_ _ _=>trivial) ?_);rintro v H' ⟨rfl,M3,es3,rfl,S3⟩;refine bd ?_;have l3:M3.length=(M1++ [x]).length:=S3.pm.length_eq;rw[←l3];refine az ?_;refine jM [ag w 197 (Mn a2 M3.length c2 y1.mb (tn+1)),own a2 c2 243 3 (M3.flatMap eN),mq (.int .u64) y1.mb es3] results170 ?_;have mem:∀z,z∈M3→z∈M1∨z=x:=λz hz=>by simpa using S3.pm.mem_iff.1 hz
 refine⟨⟨a2,c2,y1.mb,es3⟩,M3,rfl,rfl,⟨S3.hp,lK S3.pm N2,S3.ok,λz hz=> ?_,(S3.pm.map En.tu).nodup_iff.2 ?_,λ_=>ha,by omega,by show _≤c2;omega,λz hz=> ?_⟩, ?_⟩
 ·rw[if_pos he]
  rcases mem z hz with g|g
  ·have:=htu z g;omega
  rw[g,hx];exact acG _
 ·rw[adq,adl]
  refine⟨W1.td,by simp,λu hu v hv e=> ?_⟩;obtain⟨z,hz,rfl⟩:=adi.1 hu;simp only[acM,aiu,acX]at hv;rw[hv,hx]at e;have:=htu z hz;change z.tu=tn+1 at e;omega
 ·rcases mem z hz with g|g
  ·exact W1.ex z g
  rw[g,hx];exact he
 unfold ky;rw[if_pos he,←hx];exact S3.pm.trans ((agI (l₂:= [x])).trans (acN.cons x T1.pm))
theorem Oe{P:Program}{f:FuncId}{args:List Value}{pre:Hp→Prop}{H:List aa}{R:Value→List aa→Prop}{w tn:Nat}{E:List En}(h:∀y M,M.Perm E→v7 M y tn→aH P f args pre (Bz w y M tn++H) R):aH P f args pre (Wl w E tn::H) R:=
 aH.exL λy=>aH.exL λM=>aH.Cb λp=>aH.Cb λW=>aH.EU (h y M p W)
theorem vD{w tn:Nat}{E M:List En}{y:Uv}{H:List aa}{h:Hp}(p:M.Perm E)(W:v7 M y tn)(st:ak (Bz w y M tn++H) h):ak (Wl w E tn::H) h:=
 bm (λ_ s=>⟨y,M,p,W,s⟩) (fN st)
theorem Zf{w tn:Nat}{E:List En}{h:Hp}(o:In (Wl w E tn) h):∃y M,M.Perm E∧v7 M y tn∧hJ (Bz w y M tn) h:=by
 obtain⟨k,⟨y,M,p,W,st⟩,le⟩:=o;exact⟨y,M,p,W,cM st le⟩
theorem V3{M E:List En}(p:M.Perm E)(h:Nat):decide (h∈M.map En.h)=decide (h∈E.map En.h):=decide_eq_decide.2 (p.map En.h).mem_iff
theorem Tw (w:Nat)(E:List En)(tn h:Nat):
  aH acw 154 [.pointer (some ⟨w,0,none⟩), .int .u64 (h:Int)] (λ_=>True) [Wl w E tn]
   (λv H=>v= .bool (decide (h∈E.map En.h))∧H= [Wl w (eX E h) tn]):=by
 refine Oe λy M p W=>(wU w y M tn h W).out λv H' hr=> ?_;obtain⟨y1,M1,rfl,rfl,T⟩:=hr;exact⟨_,⟨by rw[V3 p],rfl⟩,λk s=>vD (T.pm.trans (qZ p h)) T.ok (by simpa using s)⟩
theorem yX{M E:List En}(p:M.Perm E)(h ex tn:Nat):(ky M h ex tn).Perm (ky E h ex tn):=by
 unfold ky
 split
 ·exact acN.cons _ (qZ p h)
 exact qZ p h
theorem IQ (w:Nat)(E:List En)(tn h:Nat)(ex:Nat)(ht:tn<18446744073709551615)(hm:E.length<2147483647):
  aH acw 170 [.pointer (some ⟨w,0,none⟩), .int .u64 (h:Int), .int .i64 (ex:Int)] (λ_=>True) [Wl w E tn]
   (λv H=>v= .tuple #[]∧H= [Wl w (ky E h ex tn) (if 0<ex then tn+1 else tn)]):=by
 refine Oe λy M p W=> ?_;by_cases he:0<ex
 ·refine(UY w y M tn h ex W he ht (by rw[p.length_eq];exact hm)).out λv H' hr=> ?_
  obtain⟨y1,M1,rfl,rfl,T⟩:=hr;have ok:=T.ok;rw[if_pos he]at ok⊢;exact⟨_,⟨rfl,rfl⟩,λk s=>vD (T.pm.trans (yX p h ex tn)) ok (by simpa using s)⟩
 obtain rfl:ex=0:=by omega
 refine(Qm w y M tn h 0 W (by omega)).out λv H' hr=> ?_;obtain⟨y1,M1,rfl,rfl,T⟩:=hr;have ok:=T.ok;rw[if_neg he]at ok⊢;exact⟨_,⟨rfl,rfl⟩,λk s=>vD (T.pm.trans (yX p h 0 tn)) ok (by simpa using s)⟩
theorem Xg:aH acw 64 [] (λ_=>True) [] (λv H=>∃w,v= .pointer (some ⟨w,0,none⟩)∧H= [Wl w [] 0]):=by
 have h:aH acw 64 [] (λ_=>True) [] (λv H=>∃w mb,v= .pointer (some ⟨w,0,none⟩)∧H=Bz w ⟨none,0,mb,[]⟩ [] 0):=by
  unfold Bz Mn;refine ae func64 rfl ntmps64 rfl ?_;intro F _;refine aR ?_;refine Lp (oQm (.int .u64) λm1=> ?_);refine ay ?_;refine Lp (oB λb1=> ?_);refine aZ ?_;refine aT 243 3 ?_;refine Rt [ag b1 197 [.slice none 0 0, .map (some m1), .int .u64 0],own none 0 243 3 [],mq (.int .u64) m1 []] results64 ?_;exact⟨b1,m1,rfl,rfl⟩
 refine h.out λv H' hr=> ?_;obtain⟨w,mb,rfl,rfl⟩:=hr;refine⟨_,⟨w,rfl,rfl⟩,λk s=>vD (H:= []) (y:=⟨none,0,mb,[]⟩) (acN.refl []) ⟨λj h1 h2=>absurd h2 (agH _),agW,⟨λ_=>none,λh=>rfl,λj h=>absurd h (agH _),λh g=>absurd rfl g⟩,(λx h=>by cases h),agW,λh=>absurd rfl h,by decide,acG 0,(λx h=>by cases h)⟩ (by simpa using s)⟩
def qI (M:List En)(now:Int)(i:Nat):Bool:=decide (i<M.length)&&decide (((at_ M i).ex:Int)≤now)
def MF (D:List Nat):List Nat:=D.flatMap λi=> [2*i+1,2*i+2]
theorem IG{D:List Nat}{j:Nat}:j∈MF D↔0<j∧par j∈D:=by
 unfold MF;rw[List.mem_flatMap]
 constructor
 ·rintro⟨i,hi,h⟩
  simp only[acT,agA,or_false]at h;have:0<j∧par j=i:=by unfold par;omega
  exact⟨this.1,by rw[this.2];exact hi⟩
 rintro⟨h0,hp⟩;exact⟨par j,hp,by simp only[acT,agA,or_false];unfold par;omega⟩
theorem S5 (D:List Nat)(i:Nat):MF (D++ [i])=MF D++ [2*i+1,2*i+2]:=by unfold MF;rw[agD];simp
structure Ec (M:List En)(now:Int)(k:Nat)(look D:List Nat):Prop where
 lk:look=0::MF D
 dk:D=(look.take k).filter (qI M now)
 nd:look.Nodup
 kl:k≤look.length
theorem Ec.start (M:List En)(now:Int):Ec M now 0 [0] []:=⟨rfl,rfl,by simp,by simp⟩
theorem Ec.dN{M:List En}{now:Int}{k:Nat}{look D:List Nat}(B:Ec M now k look D):D.Nodup∧(∀i∈D,i<M.length)∧D.length≤M.length:=by
 have h1:D.Nodup:=by rw[B.dk];exact(B.nd.sublist (List.take_sublist _ _)).sublist adz
 have h2:∀i∈D,i<M.length:=λi hi=>by
  rw[B.dk]at hi;have:=(adf.1 hi).2;unfold qI at this;simp only[aic,decide_eq_true_eq]at this;exact this.1
 exact⟨h1,h2,mS _ _ h1 h2⟩
theorem W7 (D:List Nat):(MF D).length=D.length*2:=by
 induction D with
 |nil=>rfl
 |cons a l ih=>
  have:MF (a::l)= [2*a+1,2*a+2]++MF l:=rfl;rw[this,acI,ih];simp;omega
theorem Ec.len{M:List En}{now:Int}{k:Nat}{look D:List Nat}(B:Ec M now k look D):look.length=D.length*2+1∧look.length≤2*M.length+1:=by
 have:=B.dN.2.2;have h:look.length=D.length*2+1:=by rw[B.lk,ac7,W7]
 exact⟨h,by omega⟩
theorem Ec.skip{M:List En}{now:Int}{k i:Nat}{look D:List Nat}(B:Ec M now k look D)(hk:look[k]?=some i)(hg:qI M now i=false):Ec M now (k+1) look D:=by
 have bX:=(acz.1 hk).1;refine⟨B.lk, ?_,B.nd,bX⟩;rw[adE,hk,ah5,←B.dk];simp[hg]
theorem Ec.add{M:List En}{now:Int}{k i:Nat}{look D:List Nat}(B:Ec M now k look D)(hk:look[k]?=some i)(hg:qI M now i=true):Ec M now (k+1) (look++ [2*i+1,2*i+2]) (D++ [i]):=by
 have bX:=(acz.1 hk).1;have hiD:i∉D:=λh=>by
  rw[B.dk]at h;have h2:=(adf.1 h).1;obtain⟨m,hm,e⟩:=acR h2;rw[List.getElem_take]at e;have hm2:=hm;rw[agP]at hm2;have h3:look[m]?=some i:=acz.2 ⟨by omega,e⟩;have:=gN B.nd h3 hk;rw[agP]at hm;omega
 have ou:∀j,0<j→par j=i→j∉look:=λj j0 pj h=>by
  rw[B.lk]at h;rcases acT.1 h with e|e
  ·omega
  have:=(IG.1 e).2;rw[pj]at this;exact hiD this
 refine⟨by rw[S5,B.lk];rfl, ?_, ?_,by rw[acI];omega⟩
 ·rw[ahp (by omega),adE,hk,ah5,←B.dk]
  simp[hg]
 rw[adl];refine⟨B.nd,by simp,λa ha b hb e=> ?_⟩;subst e;simp only[acT,agA,or_false]at hb;exact ou a (by omega) (by unfold par;omega) ha
theorem Ec.done{M:List En}{now:Int}{k:Nat}{look D:List Nat}(H:yy M)(B:Ec M now k look D)(hk:k=look.length):(D.map (at_ M)).Perm (M.filter λx=>decide ((x.ex:Int)≤now)):=by
 have hD:D=look.filter (qI M now):=by
  have:=B.dk
  rwa[hk,List.take_length]at this
 have all:∀i,qI M now i=true→i∈D:=λi=>by
  induction i using Nat.strongRecOn with
  |ind i ih=>
   intro hg;have aw:i∈look:=by
    rw[B.lk];rcases Nat.eq_zero_or_pos i with e|e
    ·rw[e];exact acF
    refine acC _ (IG.2 ⟨e,ih (par i) (ij e) ?_⟩);unfold qI at hg⊢;simp only[aic,decide_eq_true_eq]at hg⊢;have hle:=H i e hg.1;have:=ij e;refine⟨by omega, ?_⟩;unfold En.le at hle;omega
   rw[hD];exact adf.2 ⟨aw,hg⟩
 have hM:M=(adL M.length).map (at_ M):=by
  apply ahE;intro j;rw[acL];by_cases h:j<M.length
  ·rw[iK h,List.getElem?_range h];rfl
  rw[acK (by omega),acK (by rw[List.length_range];omega)];rfl
 have p1:D.Perm ((adL M.length).filter λi=>decide (((at_ M i).ex:Int)≤now)):=by
  refine(List.perm_ext_iff_of_nodup B.dN.1 (List.nodup_range.sublist adz)).2 λi=> ?_;rw[adf,List.mem_range]
  constructor
  ·intro h
   have h2:=(adf.1 (hD▸h)).2;unfold qI at h2
   simpa using h2
  intro h;exact all i (by unfold qI;simpa using h)
 have p2:=p1.map (at_ M);have e:((adL M.length).filter λi=>decide (((at_ M i).ex:Int)≤now)).map (at_ M)=M.filter λx=>decide ((x.ex:Int)≤now):=by
  conv=>rhs;rw[hM]
  rw[List.filter_map];rfl
 rw[e]at p2;exact p2
noncomputable def gE (L:List En):List En:=L.mergeSort λx y=>decide (¬En.lt y x)
theorem gq (L:List En):(gE L).Perm L:=List.mergeSort_perm _ _
noncomputable def oG (E:List En)(now:Int)(aF:Int):List Nat:=((gE (E.filter λx=>decide ((x.ex:Int)≤now))).take aF.toNat).map En.h
def BG (l:List Nat):List Value:=l.map λ(h:Nat)=>Value.int .u64 (h:Int)
def oU:Prop:=∀(a:Option Addr) (cap:Nat) (L:List En),L.length≤cap→(L.map En.tu).Nodup→L.length<2147483648→aH acw 142 [.slice a L.length cap, .func (.func 143) #[] #[]] (λ_=>True) [own a cap 243 3 (L.flatMap eN)] (λv H=>v= .tuple #[]∧H= [own a cap 243 3 ((gE L).flatMap eN)])
theorem U1 (uO:oU)(w:Nat)(y:Uv)(M:List En)(tn:Nat)(now aF:Int)(W:v7 M y tn):
  aH acw 89 [.pointer (some ⟨w,0,none⟩), .int .i64 now, .int .i64 aF] (hJ (Bz w y M tn)) []
   (λv H=>∃a c L,v= .slice a L.length c∧H= [own a c 117 1 (BG L)]∧∃D:List En,D.Perm (M.filter λx=>decide ((x.ex:Int)≤now))∧L=((gE D).take aF.toNat).map En.h):=by
 have sU:=W.ln;unfold Bz Mn;refine ae func89 rfl ntmps89 rfl ?_;rintro F ⟨hw,ho,_⟩;have hr:=bD ho;have BE:=Wh.ed M;refine bH ?_;refine Lp (oT T.iA λb1=> ?_);refine bB ?_;refine aC (λ_ s=>bm (λ_ p=>nK p 1 1 rfl (by decide)) s) ?_;refine aT 243 3 ?_;refine cg (ι:=List Nat×Option Addr×Nat) [15,16,17,18,21,22,23,24,10,25,26,27,28,29,30,31,32,33,34,35,36,37,38,39,40,41,42,43,44,45,46,47,48,49,50,51,52,53,7,54,55,56,57,58,59,60,61,62,8,19,20,9] (λs=>(s.1.map (at_ M)).Perm (M.filter λx=>decide ((x.ex:Int)≤now))∧s.1.length≤M.length∧s.1.length≤s.2.2) (λs=> [(7, .slice s.2.1 s.1.length s.2.2)]) (λs=> [own s.2.1 s.2.2 243 3 ((s.1.map (at_ M)).flatMap eN)]) ?_ ?_
 ·refine fh ?_
  refine Lo (ι:=Nat×List Nat×List Nat×(Option Addr×Nat)×(Option Addr×Nat)) [15,16,17,18,21,22,23,24,10,25,26,27,28,29,30,31,32,33,34,35,36,37,38,39,40,41,42,43,44,45,46,47,48,49,50,51,52,53,7,54,55,56,57,58,59,60,61,62,8,19,20,9] (λs=>Ec M now s.1 s.2.1 s.2.2.1∧s.2.1.length≤s.2.2.2.1.2∧s.2.2.1.length≤s.2.2.2.2.2) (λs=> [(9, .int .i64 (s.1:Int)),(8, .slice s.2.2.2.1.1 s.2.1.length s.2.2.2.1.2),(7, .slice s.2.2.2.2.1 s.2.2.1.length s.2.2.2.2.2)]) (λs=> [own s.2.2.2.2.1 s.2.2.2.2.2 243 3 ((s.2.2.1.map (at_ M)).flatMap eN),own s.2.2.2.1.1 s.2.2.2.1.2 3 1 (aV s.2.1)]) (λs=>2*M.length+1-s.1) ((0,[0],[],(some ⟨b1,0,none⟩,1),(none,0))) ⟨Ec.start M now,acG 1,acG 0⟩ ?_;rintro⟨k,look,D,⟨al,cl⟩,⟨ad,cd⟩⟩ hI;dsimp only at hI⊢;obtain⟨B,fb,hcd⟩:=hI;obtain⟨q1,q2⟩:=B.len;have q3:=B.dN.2.2;have oh:=B.kl;refine bH ?_;by_cases hk:k<look.length
  ·obtain⟨i,hi⟩:∃i,look[k]?=some i:=⟨look[k],acx hk⟩
   have hic:(aV look)[k]?=some (.int .i64 (i:Int)):=by unfold aV;rw[acL,hi];rfl
   have YO:(aV look).length=look.length:=jk look;refine fV (dZ (.there .here) (λ_ o=>fy o (by rw[YO];omega))) λhal=> ?_;refine dz ?_;refine bH ?_;refine Li (Ix T.qk) ?_;refine gR ?_;by_cases aw:i<M.length
   ·have YS:=Wh.iC aw
    have hex:(M.flatMap eN)[i*3+1]?=some (.int .i64 ((at_ M i).ex:Int)):=bE kM (iK aw) rfl;have ha:=W.sm (JZ (by omega));refine zf 32 ?_;refine bc ?_;refine Li (Ix T.ig) ?_;refine Li (qD T.zE) ?_;refine bc ?_;by_cases hx:((at_ M i).ex:Int)≤now
    ·have hg:qI M now i=true:=by unfold qI;rw[decide_eq_true aw,decide_eq_true hx];rfl
     have B2:=B.add hi hg;have hfD:((D.map (at_ M)).flatMap eN).length=D.length*3:=by rw[Wh.ed,acU]
     refine cu ?_;refine cN ?_;refine Li (Ix T.ig) ?_;refine ay ?_;refine Lp (oT1 T.AN λb2=> ?_);refine Lp (bF T.AN T.Oh rfl rfl rfl rfl .here (by omega) (rfl) (by simp[eN,bU,Value.cells,Value.oneCell']) (by omega) (by omega) rfl λa2 c2 ow=> ?_);refine bw ?_;refine Lp (oT T.iA λb3=> ?_);refine Lp (bF T.iA T.uf rfl rfl rfl rfl (.there .here) (by omega) (rfl) (by simp[bU,Value.cells,Value.oneCell']) (by omega) (by omega) rfl λa3 c3 hc3=> ?_);refine cI ?_;refine az ?_;have e1:((D++ [i]).map (at_ M)).flatMap eN=(D.map (at_ M)).flatMap eN++eN (at_ M i):=by rw[adq,agD];simp
     have e2:aV (look++ [2*i+1,2*i+2])=aV look++ [.int .i64 (2*(i:Int)+1), .int .i64 (2*(i:Int)+2)]:=by rw[jm];rfl
     have l1:(D++ [i]).length=D.length+1:=by simp
     have l2:(look++ [2*i+1,2*i+2]).length=look.length+2:=by simp
     refine Hh (H':= [own a2 c2 243 3 ((D.map (at_ M)).flatMap eN++eN (at_ M i)),own a3 c3 3 1 (aV look++ [.int .i64 (2*(i:Int)+1), .int .i64 (2*(i:Int)+2)])]) ?_;rw[←e1,←e2,←l1,←l2];refine Ro ((k+1,look++ [2*i+1,2*i+2],D++ [i],(a3,c3),(a2,c2))) (⟨B2,(by dsimp only;omega),(by dsimp only;omega)⟩) ((by dsimp only;omega))
    have hg:qI M now i=false:=by unfold qI;rw[decide_eq_false hx,Bool.and_false]
    refine dz ?_;refine cI ?_;refine az ?_;refine Ro ((k+1,look,D,(al,cl),(ad,cd))) (⟨B.skip hi hg,fb,hcd⟩) ((by dsimp only;omega))
   have hg:qI M now i=false:=by unfold qI;rw[decide_eq_false aw,Bool.false_and]
   refine zt 32 ?_;refine bT ?_;refine ay ?_;refine az ?_;refine Ro ((k+1,look,D,(al,cl),(ad,cd))) (⟨B.skip hi hg,fb,hcd⟩) ((by dsimp only;omega))
  refine cu ?_;refine aR ?_;refine Me ((D,ad,cd)) (⟨B.done W.hp (by omega),q3,hcd⟩)
 rintro s hI;obtain⟨D,ad,cd⟩:=s;dsimp only at hI⊢;obtain⟨hp,hDl,hDc⟩:=hI;have hLl:(D.map (at_ M)).length=D.length:=acU ..;have hLt:((D.map (at_ M)).map En.tu).Nodup:=(hp.map En.tu).nodup_iff.2 (W.td.sublist (adz.map _));rw[←hLl];rw[←hLl]at hDl hDc;generalize D.map (at_ M)=L at*;have TN:(gE L).length=L.length:=(gq L).length_eq;have hfS:=Wh.ed (gE L);obtain⟨m,hm⟩:∃m,m=min L.length aF.toNat:=⟨_,rfl⟩;refine a8 ?_;refine zl T.abx (uO ad cd L hDc hLt (by omega)) (.cons .here .nil) (λ_ _ _=>trivial) ?_;generalize hS:gE L=S at*;refine bw ?_;refine Li Ma ?_;refine Li Mi ?_;refine ao (t:=70) (v':=(.int .i64 (m:Int))) rfl (by(congr 1;omega)) ?_;refine Li (Sl 0 _ _ T.ig) ?_;rw[PL,ahi,ahi];refine aZ ?_;refine aT 117 1 ?_;refine ay ?_;refine Lo (ι:=Nat×Option Addr×Nat) [74,75,76,13,77,78,79,80,81,11,82,73] (λs=>s.1≤m∧s.1≤s.2.2) (λs=> [(73, .int .i64 (s.1:Int)),(11, .slice s.2.1 s.1 s.2.2)]) (λs=> [own s.2.1 s.2.2 117 1 (BG ((S.take s.1).map En.h)),own ad cd 243 3 (S.flatMap eN)]) (λs=>m-s.1) ((0,none,0)) ⟨Nat.zero_le _,acG 0⟩ ?_;rintro⟨j,a,c⟩ hI;dsimp only at hI⊢;have hj:=hI.1;by_cases hjm:j<m
 ·have YS:=Wh.iC (M:=S) (j:=j) (by omega)
  have hx:=iK (M:=S) (j:=j) (by omega);have hh:(BG ((S.take j).map En.h)).length=j:=by unfold BG;rw[acU,acU,agP];omega
  have e1:BG ((S.take (j+1)).map En.h)=BG ((S.take j).map En.h)++ [.int .u64 ((at_ S j).h:Int)]:=by
   unfold BG;rw[adE,hx,adq,adq];rfl
  refine fV (dZ (.there .here) (λ_ o=>fy o (by omega))) λhal=> ?_;refine aZ ?_;refine au ?_;refine dz ?_;refine bc ?_;refine Li (Ix T.ig) ?_;refine ay ?_;refine Lp (oA T.Ak λb4=> ?_);refine Lp (eJ T.wQ ?_ (h1:=by simp[eN,Value.oneCell']));refine ay ?_;rw[show eN (at_ S j)= [.int .u64 ((at_ S j).h:Int), .int .i64 ((at_ S j).ex:Int), .int .u64 ((at_ S j).tu:Int)]from rfl];refine aR ?_;refine Lp (oT T.PU λb5=> ?_);refine Lp (bF T.PU T.aaw rfl rfl rfl rfl (.there .here) (by omega) (rfl) (by simp[bU,Value.cells,Value.oneCell']) (by omega) (by omega) rfl λa2 c2 ow=> ?_);refine bH ?_;refine az ?_;refine Hh (H':= [own a2 c2 117 1 (BG ((S.take j).map En.h)++ [.int .u64 ((at_ S j).h:Int)]),own ad cd 243 3 (S.flatMap eN)]) ?_;rw[←e1];refine Ro ((j+1,a2,c2)) (⟨hjm,ow⟩) ((by dsimp only;omega))
 refine gU ?_;refine a8 ?_;refine au ?_;refine cu ?_;refine bw ?_;obtain rfl:j=m:=by omega
 have e1:S.take j=S.take aF.toNat:=by
  rw[ahQ,ahQ (i:=aF.toNat),TN,hm]
  congr 1;omega
 have hl:((S.take aF.toNat).map En.h).length=j:=by rw[acU,agP];omega
 rw[e1,←hl];refine Rt [own a c 117 1 (BG ((S.take aF.toNat).map En.h))] results89 ?_;exact⟨a,c,_,rfl,rfl,L,hp,by rw[hS]⟩
theorem XL{R:En→En→Prop}:∀{L M:List En},L.Perm M→L.Pairwise R→M.Pairwise R→(∀a∈L,∀b∈L,R a b→R b a→a=b)→L=M
 | [],M,p,_,_,_=>(List.nil_perm.1 p).symm
 |a::L,[],p,_,_,_=>by have:=p.length_eq;simp at this
 |a::L,b::M,p,hl,hm,an=>by
  have e:a=b:=by
   have hb:b∈a::L:=p.mem_iff.2 acF;have ha:a∈b::M:=p.mem_iff.1 acF;rcases acT.1 hb with h|h
   ·exact h.symm
   rcases acT.1 ha with g|g
   ·exact g
   exact an a acF b hb ((agR.1 hl).1 b h) ((agR.1 hm).1 a g)
  subst e;rw[XL (acN.cons_inv p) (agR.1 hl).2 (agR.1 hm).2 (λx hx y hy=>an x (acC _ hx) y (acC _ hy))]
theorem Zz{L:List En}(d:(L.map En.tu).Nodup){a b:En}(ha:a∈L)(hb:b∈L)(e:a.tu=b.tu):a=b:=by
 obtain⟨i,hi,ea⟩:=acR ha;obtain⟨j,hj,eb⟩:=acR hb;have h1:(L.map En.tu)[i]?=some a.tu:=by rw[acL,acx hi,ea];rfl
 have h2:(L.map En.tu)[j]?=some a.tu:=by rw[acL,acx hj,eb,e];rfl
 have:=gN d h1 h2;subst this;rw[←ea,←eb]
theorem CH (L:List En):(gE L).Pairwise λx y=>¬En.lt y x:=by
 have h:=List.pairwise_mergeSort (le:=λx y:En=>decide (¬En.lt y x)) (λa b c h1 h2=>by
  simp only[decide_eq_true_eq]at*;unfold En.lt at*;omega) (λa b=>by
  simp only[Bool.or_eq_true,decide_eq_true_eq];unfold En.lt;omega) L
 refine h.imp λ{a b} g=> ?_;exact of_decide_eq_true g
theorem Hz{L M:List En}(p:L.Perm M)(d:(M.map En.tu).Nodup)(hl:L.Pairwise λx y=>¬En.lt y x):L=gE M:=by
 have d2:(L.map En.tu).Nodup:=(p.map En.tu).nodup_iff.2 d;refine XL (p.trans (gq M).symm) hl (CH M) λa ha b hb h1 h2=>Zz d2 ha hb ?_;unfold En.lt at h1 h2;omega
theorem xQ{L M:List En}(p:L.Perm M)(d:(M.map En.tu).Nodup):gE L=gE M:=Hz ((gq L).trans p) d (CH L)
theorem Xh (uO:oU)(w:Nat)(E:List En)(tn:Nat)(now aF:Int):
  aH acw 89 [.pointer (some ⟨w,0,none⟩), .int .i64 now, .int .i64 aF] (In (Wl w E tn)) []
   (λv H=>∃a c,v= .slice a (oG E now aF).length c∧H= [own a c 117 1 (BG (oG E now aF))]):=by
 refine aH.aau (X:=∃y M,M.Perm E∧v7 M y tn) (λk hk=> ?_) ?_
 ·obtain⟨y,M,p,W,_⟩:=Zf hk
  exact⟨y,M,p,W⟩
 intro _;intro F W0 hk s;obtain⟨y,M,p,W,aw⟩:=Zf hk;refine((U1 uO w y M tn now aF W) F W0 aw s).mono λe w' hh=> ?_;obtain⟨v,H',he,⟨a,c,L,rfl,rfl,D,hD,rfl⟩,st⟩:=hh;have hs:gE D=gE (E.filter λx=>decide ((x.ex:Int)≤now)):=by
  refine xQ (hD.trans (p.filter _)) ?_;exact((p.map En.tu).nodup_iff.1 W.td).sublist (adz.map _)
 refine⟨_,_,he,⟨a,c, ?_, ?_⟩,st⟩
 ·unfold oG;rw[hs]
 unfold oG;rw[hs]
end Go.Proofs.YtdolmecackmjdaaGreatDoor
