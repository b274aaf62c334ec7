/- Part Pi of the proof. -/
import Derived.Test.YtdolmecackmjdaaGreatDoorPd
import Derived.Test.YtdolmecackmjdaaGreatDoorPj
set_option maxRecDepth 100000
open List renaming getD_eq_getElem?_getD → aab, getElem?_eq_getElem → aac, getElem?_set → aem, Perm → aaq, getElem?_append_left → adN, length_append → aal, length_singleton → adB, getElem?_dropLast → aeZ, length_dropLast → adg, length_set → aaj, mem_cons_of_mem → aag, mem_cons_self → aai, map_cons → aao, filter_cons → adQ, getElem?_map → aap, getElem_of_mem → aaz, flatMap_cons → adA, length_cons → adm, ext_getElem? → afj, getElem?_eq_none → aat, set_set → adw, nodup_cons → aar, filter_eq_self → ae9, mem_map → adi, mem_filter → acA, perm_append_comm → ad0, flatMap_append → adY, take_append_of_le_length → aeF, map_append → adt, nodup_append → adk, map_nil → afJ, mem_singleton → aaA, nodup_nil → aec, mem_cons → aau, not_mem_nil → adS, filter_sublist → adx, getElem?_eq_some_iff → aad, take_add_one → adX, filter_append → afh, length_take → ad6, range → adJ, length_map → aax, take_eq_take_min → ae2, pairwise_cons → ad7
open Nat renaming sub_zero → aeA, le_refl → aan, not_lt_zero → aev
open Bool renaming and_eq_true → afq
open Go.Proofs.Tryz renaming prog → aaa
open Go.Proofs.Tryz
namespace Go.Proofs.YtdolmecackmjdaaGreatDoor
open Go Go.cV
structure En where
 h:Nat
 ex:Nat
 tu:Nat
namespace En
def lt (a b:En):Prop:=a.ex<b.ex∨a.ex=b.ex∧a.tu<b.tu
def le (a b:En):Prop:=a.ex<b.ex∨a.ex=b.ex∧a.tu≤b.tu
theorem le_trans{a b c:En}(h:le a b)(g:le b c):le a c:=by unfold le at*;omega
theorem le_of_lt{a b:En}(h:lt a b):le a b:=by unfold lt le at*;omega
theorem rN{a b:En}(h:¬lt a b):le b a:=by unfold lt le at*;omega
theorem le_refl (a:En):le a a:=by unfold le;omega
instance (a b:En):Decidable (lt a b):=by unfold lt;infer_instance
end En
namespace Wh
def at_ (M:List En)(j:Nat):En:=M.getD j ⟨0,0,0⟩
def par (j:Nat):Nat:=(j-1)/2
def wL (M:List En):Prop:=∀j,0<j→j<M.length→En.le (at_ M (par j)) (at_ M j)
structure Hx (M:List En)(i:Nat):Prop where
 a:∀j,0<j→j<M.length→j≠i→par j≠i→En.le (at_ M (par j)) (at_ M j)
 b:∀j,0<i→j<M.length→0<j→par j=i→En.le (at_ M (par i)) (at_ M j)
theorem gS{M:List En}{j:Nat}(h:j<M.length):M[j]?=some (at_ M j):=by
 unfold at_
 rw[aab,aac h];rfl
theorem kN{M:List En}{i:Nat}(h:i<M.length)(x:En)(j:Nat):at_ (M.set i x) j=if j=i then x else at_ M j:=by
 unfold at_
 rw[aab,aab,aem]
 by_cases e:i=j
 ·rw[if_pos e,if_pos h,if_pos e.symm];rfl
 rw[if_neg e,if_neg (λg=>e g.symm)]
def sw (M:List En)(i c:Nat):List En:=(M.set i (at_ M c)).set c (at_ M i)
theorem kH (M:List En)(i c:Nat):(sw M i c).length=M.length:=by unfold sw;simp
theorem Ab{M:List En}{i c:Nat}(hi:i<M.length)(hc:c<M.length)(j:Nat):at_ (sw M i c) j=if j=c then at_ M i else if j=i then at_ M c else at_ M j:=by
 unfold sw
 rw[kN (by simpa using hc),kN hi]
theorem Fi{M:List En}{i c:Nat}(hi:i<M.length)(hc:c<M.length)(ne:i≠c):(sw M i c).Perm M:=by
 have h1:=iQ (gS hi) (at_ M c)
 have h0:=iQ (gS hi) (at_ M i)
 rw[gY (gS hi)]at h0
 have n9:(M.set i (at_ M c))[c]?=some (at_ M c):=by rw[aem,if_neg ne];exact gS hc
 have h2:=iQ n9 (at_ M i)
 have h3:=iQ n9 (at_ M c)
 rw[gY n9]at h3
 have h4:((M.set i (at_ M c)).eraseIdx c).Perm (M.eraseIdx i):=(aaq.cons_inv (h3.symm.trans h1))
 exact h2.trans ((aaq.cons _ h4).trans h0.symm)
theorem gF{j:Nat}(h:0<j):par j<j:=by unfold par;omega
theorem aca{M:List En}{i:Nat}(H:Hx M i)(h0:0<i)(hi:i<M.length)(lt:En.lt (at_ M i) (at_ M (par i))):Hx (sw M i (par i)) (par i):=by
 have hu:=gF h0
 have hul:par i<M.length:=by omega
 have A:=Ab hi hul
 generalize hp:par i=u at*
 refine⟨λj j0 jl n1 n2=> ?_,λj u0 jl j0 pj=> ?_⟩
 ·rw[kH]at jl
  have ji:j≠i:=λe=>n2 (by rw[e,hp])
  rw[A,A,if_neg n2,if_neg n1,if_neg ji]
  by_cases e:par j=i
  ·rw[if_pos e,←hp];exact H.b j h0 jl j0 e
  rw[if_neg e];exact H.a j j0 jl ji e
 rw[kH]at jl
 have pu:=gF u0
 have hpu:En.le (at_ M (par u)) (at_ M u):=H.a u u0 hul (by omega) (by omega)
 rw[A,A,if_neg (by omega),if_neg (by omega)]
 have ju:j≠u:=by have:=gF j0;omega
 rw[if_neg ju]
 by_cases e:j=i
 ·rw[if_pos e];exact hpu
 rw[if_neg e]
 refine En.le_trans hpu ?_
 have:=H.a j j0 jl e (by omega)
 rwa[pj]at this
theorem TD{M:List En}{i c:Nat}(H:Hx M i)(hi:i<M.length)(c0:0<c)(hc:c<M.length)(pc:par c=i)(mn:∀j,0<j→j<M.length→par j=i→En.le (at_ M c) (at_ M j))(le:En.le (at_ M c) (at_ M i)):
  Hx (sw M i c) c∧En.le (at_ (sw M i c) (par c)) (at_ (sw M i c) c):=by
 have A:=Ab hi hc
 have hic:i<c:=by have:=gF c0;omega
 refine⟨⟨λj j0 jl n1 n2=> ?_,λj _ jl j0 pj=> ?_⟩, ?_⟩
 ·rw[kH]at jl
  rw[A,A,if_neg n2,if_neg n1]
  by_cases e:j=i
  ·have:=gF j0
   rw[if_neg (by omega),if_pos e,e]
   exact H.b c (by omega) hc c0 pc
  rw[if_neg e]
  by_cases e2:par j=i
  ·rw[if_pos e2];exact mn j j0 jl e2
  rw[if_neg e2];exact H.a j j0 jl e e2
 ·rw[kH]at jl
  have:=gF j0
  rw[A,A,pc,if_neg (by omega),if_pos rfl,if_neg (by omega),if_neg (by omega)]
  have:=H.a j j0 jl (by omega) (by omega)
  rwa[pj]at this
 rw[A,A,pc,if_neg (by omega),if_pos rfl,if_pos rfl];exact le
theorem TE{M:List En}{i:Nat}(H:Hx M i)(u:0<i→En.le (at_ M (par i)) (at_ M i))(d:∀j,0<j→j<M.length→par j=i→En.le (at_ M i) (at_ M j)):wL M:=λj j0 jl=>by
 by_cases e:j=i
 ·subst e;exact u j0
 by_cases e2:par j=i
 ·rw[e2];exact d j j0 jl e2
 exact H.a j j0 jl e e2
theorem TF{M:List En}(H:wL M)(i:Nat):Hx M i:=⟨λj j0 jl _ _=>H j j0 jl,λj i0 jl j0 e=>by
 have h1:=H j j0 jl
 have hi:par j<M.length:=by have:=gF j0;omega
 rw[e]at h1 hi
 exact En.le_trans (H i i0 hi) h1⟩
theorem TC{M:List En}(H:wL M)(x:En):Hx (M++ [x]) M.length:=by
 have a:∀j,j<M.length→at_ (M++ [x]) j=at_ M j:=λj h=>by
  unfold at_
  rw[aab,aab,adN h]
 refine⟨λj j0 jl n1 _=> ?_,λj _ jl j0 e=> ?_⟩
 ·rw[aal,adB]at jl
  have:=gF j0
  rw[a _ (by omega),a _ (by omega)]
  exact H j j0 (by omega)
 rw[aal,adB]at jl
 have:=gF j0
 omega
theorem xI{M:List En}(H:wL M):wL M.dropLast:=λj j0 jl=>by
 have a:∀j,j<M.dropLast.length→at_ M.dropLast j=at_ M j:=λj h=>by
  unfold at_
  rw[aab,aab,aeZ,if_pos (by simpa using h)]
 have:=gF j0
 rw[a _ (by omega),a _ jl]
 exact H j j0 (by rw[adg]at jl;omega)
theorem X3{M:List En}(H:wL M){i:Nat}(hi:i<M.length)(x:En):Hx (M.set i x) i:=by
 have A:=kN hi x
 have Z:=TF H i
 refine⟨λj j0 jl n1 n2=> ?_,λj i0 jl j0 e=> ?_⟩
 ·rw[aaj]at jl
  rw[A,A,if_neg n2,if_neg n1];exact H j j0 jl
 rw[aaj]at jl
 have:=gF i0
 have:=gF j0
 rw[A,A,if_neg (by omega),if_neg (by omega)];exact Z.b j i0 jl j0 e
end Wh
open Go Go.cV
theorem fG (e:Value×Value)(es:List (Value×Value))(k:Value)[Decidable (e.1=k)]:qQ (e::es) k=if e.1=k then some e.2 else qQ es k:=by
 unfold qQ
 rw[List.find?_cons]
 by_cases h:e.1=k
 ·rw[if_pos h];simp[h]
 rw[if_neg h];simp[h]
theorem y7 (k:Value):qQ [] k=none:=rfl
theorem S8 (es:List (Value×Value))(k v k':Value)(hn:∀e∈es,e.1≠k):qQ (es++ [(k,v)]) k'=(by classical exact if k'=k then some v else qQ es k'):=by
 classical
 induction es with
 |nil=>
  rw[List.nil_append,fG,y7]
  by_cases h:k'=k
  ·rw[if_pos h.symm,if_pos h]
  rw[if_neg (λg=>h g.symm),if_neg h]
 |cons e es ih=>
  rw[List.cons_append,fG,fG,ih (λx hx=>hn x (aag _ hx))]
  by_cases h:e.1=k'
  ·rw[if_pos h,if_pos h,if_neg (λg=>hn e aai (h.trans g))]
  rw[if_neg h,if_neg h]
theorem S6 (es:List (Value×Value))(k v k':Value):qQ (Ce es k v) k'=(by classical exact if k'=k then some v else qQ es k'):=by
 classical
 by_cases hx:∃e∈es,e.1=k
 ·rw[Fb hx]
  have hk:qQ es k≠none:=by
   obtain⟨e,he,hk⟩:=hx
   intro g
   simp only[qQ,Option.map_eq_none_iff,List.find?_eq_none]at g
   have:=g e he
   simp[hk]at this
  clear hx
  induction es with
  |nil=>exact absurd (y7 k) hk
  |cons e es ih=>
   rw[aao,fG,fG]
   rw[fG]at hk
   by_cases h:e.1=k
   ·rw[if_pos h]
    by_cases g:k'=k
    ·rw[if_pos g,if_pos g.symm]
    rw[if_neg g,if_neg (λz=>g z.symm),if_neg (λz=>g (z.symm.trans h))]
    clear ih hk
    induction es with
    |nil=>rfl
    |cons x es ih=>
     rw[aao,fG,fG,ih]
     by_cases hx:x.1=k
     ·rw[if_pos hx,if_neg (λz=>g z.symm),if_neg (λz=>g (z.symm.trans hx))]
     rw[if_neg hx]
   rw[if_neg h]at hk⊢
   rw[ih hk]
   by_cases g:k'=k
   ·rw[if_pos g,if_pos g,if_neg (λz=>h (z.trans g))]
   rw[if_neg g,if_neg g]
 rw[Fc (λe he g=>hx ⟨e,he,g⟩)]
 exact S8 es k v k' (λe he g=>hx ⟨e,he,g⟩)
theorem S7 (es:List (Value×Value))(k k':Value):qQ (EI es k) k'=(by classical exact if k'=k then none else qQ es k'):=by
 classical
 unfold EI
 induction es with
 |nil=>by_cases h:k'=k<;>simp[h,y7]
 |cons e es ih=>
  rw[adQ]
  by_cases h:e.1=k
  ·rw[if_neg (by simp[h]),ih,fG]
   by_cases g:k'=k
   ·rw[if_pos g,if_pos g]
   rw[if_neg g,if_neg g,if_neg (λz=>g (z.symm.trans h))]
  rw[if_pos (by simp[h]),fG,ih,fG]
  by_cases g:k'=k
  ·rw[if_pos g,if_pos g,if_neg (λz=>h (z.trans g))]
  rw[if_neg g,if_neg g]
def wJ (a b:Int):Int:=if a<b then-1 else if b<a then 1 else 0
theorem xG (a:Int):aF aaa 252 [.int .i64 a] (λ_=>True) [] (λv H=>v= .bool false∧H= []):=by
 refine af func252 rfl ntmps252 rfl ?_
 intro F _
 refine bA ?_
 refine Rt [] results252 ?_
 exact⟨by rw[decide_eq_true rfl];rfl,rfl⟩
theorem BV (a b:Int):aF aaa 208 [.int .i64 a, .int .i64 b] (λ_=>True) [] (λv H=>v= .int .i64 (wJ a b)∧H= []):=by
 unfold wJ
 refine af func208 rfl ntmps208 rfl ?_
 intro F _
 refine br ?_
 refine zl T.L4 (xG a) .nil (λ_ _ _=>trivial) ?_
 refine aW ?_
 refine zl T.L4 (xG b) .nil (λ_ _ _=>trivial) ?_
 refine bW ?_
 refine bf ?_
 refine ax rfl ?_ ?_
 ·intro h1
  replace h1:=aL h1
  refine br ?_
  refine Rt [] results208 ?_
  exact⟨by rw[if_pos (by omega)],rfl⟩
 intro h1
 replace h1:=aL h1
 refine dh ?_
 refine ax rfl ?_ ?_
 ·intro h2
  replace h2:=aL h2
  refine br ?_
  refine Rt [] results208 ?_
  exact⟨by rw[if_neg (by omega),if_pos (by omega)],rfl⟩
 intro h2
 replace h2:=aL h2
 refine bD ?_
 refine Rt [] results208 ?_
 exact⟨by rw[if_neg (by omega),if_neg (by omega)],rfl⟩
theorem qH (a:Int):aF aaa 253 [.int .u64 a] (λ_=>True) [] (λv H=>v= .bool false∧H= []):=by
 refine af func253 rfl ntmps253 rfl ?_
 intro F _
 refine bA ?_
 refine Rt [] results253 ?_
 exact⟨by rw[decide_eq_true rfl];rfl,rfl⟩
theorem wo (a b:Int):aF aaa 209 [.int .u64 a, .int .u64 b] (λ_=>True) [] (λv H=>v= .int .i64 (wJ a b)∧H= []):=by
 unfold wJ
 refine af func209 rfl ntmps209 rfl ?_
 intro F _
 refine br ?_
 refine zl T.L3 (qH a) .nil (λ_ _ _=>trivial) ?_
 refine aW ?_
 refine zl T.L3 (qH b) .nil (λ_ _ _=>trivial) ?_
 refine bW ?_
 refine bf ?_
 refine ax rfl ?_ ?_
 ·intro h1
  replace h1:=aL h1
  refine br ?_
  refine Rt [] results209 ?_
  exact⟨by rw[if_pos (by omega)],rfl⟩
 intro h1
 replace h1:=aL h1
 refine dh ?_
 refine ax rfl ?_ ?_
 ·intro h2
  replace h2:=aL h2
  refine br ?_
  refine Rt [] results209 ?_
  exact⟨by rw[if_neg (by omega),if_pos (by omega)],rfl⟩
 intro h2
 replace h2:=aL h2
 refine bD ?_
 refine Rt [] results209 ?_
 exact⟨by rw[if_neg (by omega),if_neg (by omega)],rfl⟩
theorem XI (s x y:Int)(a:Nat):aF aaa 207 [.slice (some ⟨a,0,none⟩) 2 2] (In (ag a 3 [.int .i64 x, .int .i64 y])) [] (λv H=>v= .int .i64 (if x=0 then y else x)∧H= []):=by
 refine af func207 rfl ntmps207 rfl ?_
 intro F aq
 refine gP ?_
 refine Lo (ι:=Nat) [9,10,11,5,12,13,14,15,2,16,8] (λi=>i≤2∧(1≤i→x=0)∧(2≤i→y=0)) (λi=> [(8, .int .i64 (i:Int))]) (λi=> []) (λi=>2-i) (0) ⟨by omega,by omega,by omega⟩ ?_
 rintro i hI
 obtain⟨g1,g2,g3⟩:=hI
 refine bq ?_
 refine aw ?_
 by_cases h0:i=0
 ·subst h0
  refine bD ?_
  refine Li (Ix T.se) ?_
  refine dh ?_
  refine ax rfl ?_ ?_
  ·intro h2
   replace h2:=aL h2
   refine bA ?_
   refine Rt [] results207 ?_
   exact⟨by rw[if_neg (by omega)],rfl⟩
  intro h2
  replace h2:=aL h2
  refine bD ?_
  refine aG ?_
  refine Ro (1) (⟨by omega,λ_=>by omega,by omega⟩) (by omega)
 by_cases h1:i=1
 ·subst h1
  refine bD ?_
  refine Li (Ix T.se) ?_
  refine dh ?_
  refine ax rfl ?_ ?_
  ·intro h2
   replace h2:=aL h2
   refine bA ?_
   refine Rt [] results207 ?_
   exact⟨by rw[if_pos (g2 (by omega))],rfl⟩
  intro h2
  replace h2:=aL h2
  refine bD ?_
  refine aG ?_
  refine Ro (2) (⟨by omega,by omega,λ_=>by omega⟩) (by omega)
 refine dm ?_
 refine bA ?_
 refine Rt [] results207 ?_
 exact⟨by rw[if_pos (g2 (by omega)),g3 (by omega)],rfl⟩
def eN (e:En):List Value:= [.int .u64 (e.h:Int), .int .i64 (e.ex:Int), .int .u64 (e.tu:Int)]
def enV (e:En):Value:= .agg (eN e).toArray
def CE (a b:En):Int:=if wJ (a.ex:Int) (b.ex:Int)=0 then wJ (a.tu:Int) (b.tu:Int)else wJ (a.ex:Int) (b.ex:Int)
theorem l7 (a b:En):CE a b<0↔En.lt a b:=by
 unfold CE wJ En.lt
 split<;>(repeat' split)<;>(try split at*)<;>omega
theorem qx (a b:En):aF aaa 143 [enV a,enV b] (λ_=>True) [] (λv H=>v= .int .i64 (CE a b)∧H= []):=by
 unfold enV eN
 refine af func143 rfl ntmps143 rfl ?_
 intro F _
 refine aA ?_
 refine Lp (oB λb1=> ?_)
 refine Lp (oB λb2=> ?_)
 refine bf ?_
 refine aw ?_
 refine ik 13 T.mix (.cons .here (.cons .here .nil)) λF1 je bR aM=> ?_
 obtain⟨q1,q2,_⟩:=bR
 refine aW ?_
 refine Tp (oC T.Yo rfl rfl (BV (a.ex:Int) (b.ex:Int)) .nil (λ_ _ _=>trivial) ?_)
 rintro v H' ⟨rfl,rfl⟩
 refine bd ?_
 refine aW ?_
 refine Tp (oC T.Yn rfl rfl (wo (a.tu:Int) (b.tu:Int)) .nil (λ_ _ _=>trivial) ?_)
 rintro v H' ⟨rfl,rfl⟩
 refine bd ?_
 refine Tp (oT T.jg λb3=> ?_)
 refine Tp (oC T.Yp rfl rfl (XI 0 (wJ (a.ex:Int) (b.ex:Int)) (wJ (a.tu:Int) (b.tu:Int)) _) .nil (λ_ le aq=>aq.1) ?_)
 rintro v H' ⟨rfl,rfl⟩
 refine bd ?_
 refine aA ?_
 refine gO aM ?_
 refine bf ?_
 refine Rt [] results143 ?_
 exact⟨rfl,rfl⟩
def JO (a:Option Addr)(n c mb tn:Nat):List Value:= [.slice a n c, .map (some mb), .int .u64 (tn:Int)]
def hv (h:Nat):Value:= .int .u64 (h:Int)
def iv (i:Nat):Value:= .int .i64 (i:Int)
theorem tg (w n c mb tn i:Nat)(a:Option Addr)(x:En)(cs:List Value)(es:List (Value×Value))(hi:i<n)(hc:n*3≤cs.length)(ha:a.isSome=true):
  aF aaa 168 [.pointer (some ⟨w,0,none⟩), .int .i64 (i:Int),enV x] (In (ag w 197 (JO a n c mb tn))) [own a c 243 3 cs,mq (.int .u64) mb es]
   (λv H=>v= .tuple #[]∧H= [own a c 243 3 (cR cs (i*3) (eN x)),mq (.int .u64) mb (Ce es (hv x.h) (iv i))]):=by
 unfold enV
 refine af func168 rfl ntmps168 rfl ?_
 rintro F hw
 unfold JO at hw
 refine aA ?_
 refine Lp (oB λb1=> ?_)
 refine aA ?_
 refine aw ?_
 refine gT false T.mix ?_
 refine bD ?_
 refine Ti (Ix T.gE) ?_
 refine Tp (oSON T.uS ?_ (vs:=eN x) (h1:=by simp[eN,Value.oneCell']) (hj:=by show _+3≤_;omega) (h0:=by show 0<3;omega))
 unfold eN
 refine aA ?_
 refine ik 8 T.mix (.cons .here .nil) λF1 je bR aM=> ?_
 obtain⟨q1,_⟩:=bR
 replace hw:=In.mono hw je
 refine bL ?_
 refine Tp (oQi T.yu ?_)
 refine gO aM ?_
 refine Tn ?_
 refine jA [own a c 243 3 (cR cs (i*3) (eN x)),mq (.int .u64) mb (Ce es (hv x.h) (iv i))] results168 ?_
 exact⟨rfl,rfl⟩
namespace Wh
def Nd (M:List En):Prop:=(M.map En.h).Nodup
def QM (es:List (Value×Value))(pl:Nat→Option Nat):Prop:=∀h,qQ es (hv h)=(pl h).map iv
def dX (pl:Nat→Option Nat)(h j:Nat):Nat→Option Nat:=λx=>if x=h then some j else pl x
def del (pl:Nat→Option Nat)(h:Nat):Nat→Option Nat:=λx=>if x=h then none else pl x
theorem yx{a b:Nat}:hv a=hv b↔a=b:=by
 unfold hv
 constructor
 ·intro h;injection h with _ h;omega
 intro h;rw[h]
theorem QM.dX{es:List (Value×Value)}{pl:Nat→Option Nat}(R:QM es pl)(h j:Nat):QM (Ce es (hv h) (iv j)) (dX pl h j):=λx=>by
 rw[S6]
 unfold Wh.dX
 by_cases e:x=h
 ·rw[if_pos (yx.2 e),if_pos e];rfl
 rw[if_neg (λg=>e (yx.1 g)),if_neg e];exact R x
theorem QM.del{es:List (Value×Value)}{pl:Nat→Option Nat}(R:QM es pl)(h:Nat):QM (EI es (hv h)) (del pl h):=λx=>by
 rw[S7]
 unfold Wh.del
 by_cases e:x=h
 ·rw[if_pos (yx.2 e),if_pos e];rfl
 rw[if_neg (λg=>e (yx.1 g)),if_neg e];exact R x
theorem Ag{M:List En}(N:Nd M){j k:Nat}(hj:j<M.length)(hk:k<M.length)(e:(at_ M j).h=(at_ M k).h):j=k:=by
 have h1:=gS hj
 have h2:=gS hk
 exact gh N (x:=(at_ M j).h) (by rw[aap,h1];rfl) (by rw[aap,h2,e];rfl)
theorem kB{M L:List En}(p:L.Perm M)(N:Nd M):Nd L:=(p.map En.h).nodup_iff.2 N
structure Q8 (M:List En)(i:Nat)(pl:Nat→Option Nat):Prop where
 a:∀j,j<M.length→j≠i→pl (at_ M j).h=some j
 b:∀h,pl h≠none→∃k,k<M.length∧(at_ M k).h=h
structure uu (M:List En)(pl:Nat→Option Nat):Prop where
 a:∀j,j<M.length→pl (at_ M j).h=some j
 b:∀h,pl h≠none→∃k,k<M.length∧(at_ M k).h=h
theorem Q8.sw{M:List En}{i c:Nat}{pl:Nat→Option Nat}(P:Q8 M i pl)(N:Nd M)(hi:i<M.length)(hc:c<M.length)(ne:i≠c):Q8 (sw M i c) c (dX pl (at_ M c).h i):=by
 have A:=Ab hi hc
 refine⟨λj jl n=> ?_,λh g=> ?_⟩
 ·rw[kH]at jl
  rw[A,if_neg n]
  unfold dX
  by_cases e:j=i
  ·rw[if_pos e,if_pos rfl,e]
  rw[if_neg e,if_neg (λz=>n (Ag N jl hc z))]
  exact P.a j jl e
 unfold dX at g
 rw[kH]
 by_cases e:h=(at_ M c).h
 ·exact⟨i,hi,by rw[A,if_neg ne,if_pos rfl,e]⟩
 rw[if_neg e]at g
 obtain⟨k,k1,k2⟩:=P.b h g
 by_cases e1:k=i
 ·exact⟨c,hc,by rw[A,if_pos rfl,←e1,k2]⟩
 have e2:k≠c:=λz=>e (by rw[←k2,z])
 exact⟨k,k1,by rw[A,if_neg e2,if_neg e1,k2]⟩
theorem Q8.done{M:List En}{i:Nat}{pl:Nat→Option Nat}(P:Q8 M i pl)(N:Nd M)(hi:i<M.length):uu M (dX pl (at_ M i).h i):=by
 refine⟨λj jl=> ?_,λh g=> ?_⟩
 ·unfold dX
  by_cases e:j=i
  ·rw[if_pos (by rw[e]),e]
  rw[if_neg (λz=>e (Ag N jl hi z))];exact P.a j jl e
 unfold dX at g
 by_cases e:h=(at_ M i).h
 ·exact⟨i,hi,e.symm⟩
 rw[if_neg e]at g;exact P.b h g
theorem uu.none{M:List En}{pl:Nat→Option Nat}(P:uu M pl){h:Nat}(n:∀x∈M,x.h≠h):pl h=none:=by
 cases e:pl h with
 |none=>rfl
 |some j=>
  obtain⟨k,k1,k2⟩:=P.b h (by rw[e];simp)
  exact absurd k2 (n _ (List.mem_of_getElem? (gS k1)))
theorem uu.at{M:List En}{pl:Nat→Option Nat}(P:uu M pl){x:En}(hx:x∈M):∃k,k<M.length∧at_ M k=x∧pl x.h=some k:=by
 obtain⟨k,hk,e⟩:=aaz hx
 have:at_ M k=x:=by
  have:=gS hk
  rw[aac hk,e]at this
  exact(Option.some.inj this).symm
 exact⟨k,hk,this,by rw[←this];exact P.a k hk⟩
def cells (M:List En)(sp:List Value):List Value:=M.flatMap eN++sp
theorem jL:∀x,(eN x).length=3:=λ_=>rfl
theorem JG (M:List En)(sp:List Value):(cells M sp).length=M.length*3+sp.length:=by
 unfold cells
 rw[aal]
 congr 1
 induction M with
 |nil=>rfl
 |cons a l ih=>rw[adA,aal,ih,jL,adm];omega
theorem dx (M:List En):(M.flatMap eN).length=M.length*3:=by
 have:=JG M []
 unfold cells at this
 simpa using this
theorem hG:∀{M:List En} {j:Nat} (x:En),j<M.length→cR (M.flatMap eN) (j*3) (eN x)=(M.set j x).flatMap eN
 |a::M,0,x,_=>by
  rw[adA,ky (by rw[aal,jL,jL];omega),List.set_cons_zero,adA]
  rfl
 |a::M,j+1,x,h=>by
  have ih:=hG (M:=M) (j:=j) x (by simpa using h)
  have hl:=dx M
  have h2:j<M.length:=by simpa using h
  rw[ky (by rw[hl,jL];omega)]at ih
  rw[adA,ky (by rw[aal,jL,jL,hl];omega),List.set_cons_succ,adA,←ih]
  rw[show(j+1)*3=j*3+3 by omega,show j*3+3+(eN x).length=j*3+(eN x).length+3 by omega]
  rfl
theorem gL{M:List En}{j:Nat}(h:j<M.length):((M.flatMap eN).drop (j*3)).take 3=eN (at_ M j):=by
 have hl:=dx M
 apply afj
 intro k
 rw[List.getElem?_take]
 split
 ·next hk=>
  rw[List.getElem?_drop]
  have h3:k<(eN (at_ M j)).length:=hk
  rw[bj jL (gS h) (aac h3)]
  exact(aac h3).symm
 next hk=>exact(aat (by rw[jL];omega)).symm
theorem Lu{M:List En}{i c:Nat}(y:En)(hi:i<M.length)(hc:c<M.length)(ne:i≠c):(M.set i y).set i (at_ M c)=(sw M i c).set c (at_ M c):=by
 unfold sw
 rw[adw,adw]
 have h:(M.set i (at_ M c))[c]?=some (at_ M c):=by rw[aem,if_neg ne];exact gS hc
 exact(gY h).symm
end Wh
open Go Go.cV Go.Proofs.YtdolmecackmjdaaGreatDoor.Wh
theorem Qh{P:Program}{n:Nat}{ds:List Deferred}{F:dy}{σ:aR}{o:Oper}{t yt:TypeId}{x y:Operand}{i:Nat}(hi:i<4611686018427387904)(ho:o.op= .binOp .quo t x y yt:=by exact rfl)(hx:bh σ x=some (.int .i64 ((i:Int)-1)):=by exact rfl)(hy:bh σ y=some (.int .i64 2):=by exact rfl):Yv P n ds F σ o (.int .i64 (par i:Int)):=
 uw ho hx hy (by
  show(if(2:Int)=0 then none else some (IntKind.i64.wrap (((i:Int)-1).tdiv 2)))=_
  rw[if_neg (by decide)]
  have:((i:Int)-1).tdiv 2=(par i:Int):=by
   unfold par
   rcases i with _|i
   ·rfl
   rw[show(((i+1:Nat):Int)-1)=(i:Int) by omega,Nat.add_sub_cancel,Int.tdiv_eq_ediv_of_nonneg (by omega)]
   omega
  rw[this,wrap_i64 (by unfold par;omega)])
structure SI (L M:List En)(i:Nat)(e:En)(es:List (Value×Value))(pl:Nat→Option Nat):Prop where
 hx:Hx M i
 pm:M.Perm L
 px:Q8 M i pl
 pr:QM es pl
 ln:M.length=L.length
 lt:i<M.length
 e:at_ M i=e
structure ada (L M:List En)(es:List (Value×Value)):Prop where
 hp:wL M
 pm:M.Perm L
 ok:∃pl,QM es pl∧uu M pl
theorem vN (w c mb tn i:Nat)(a:Option Addr)(L:List En)(es:List (Value×Value))(pl:Nat→Option Nat)(hi:i<L.length)(hx:Hx L i)(N:Nd L)(hp:Q8 L i pl)(R:QM es pl)(hm:L.length<4611686018427387904)(ha:a.isSome=true):
  aF aaa 213 [.pointer (some ⟨w,0,none⟩), .int .i64 (i:Int)] (λ_=>True) [ag w 197 (JO a L.length c mb tn),own a c 243 3 (L.flatMap eN),mq (.int .u64) mb es]
   (λv H=>v= .tuple #[]∧∃M es',H= [ag w 197 (JO a L.length c mb tn),own a c 243 3 (M.flatMap eN),mq (.int .u64) mb es']∧ada L M es'):=by
 have zF:=dx L
 have VZ:=gL hi
 unfold JO
 have U3:L.set i (at_ L i)=L:=gY (gS hi)
 obtain⟨e,he⟩:∃e,e=at_ L i:=⟨_,rfl⟩
 rw[←he]at VZ U3
 refine af func213 rfl ntmps213 rfl ?_
 intro F _
 refine bD ?_
 refine Li (Ix T.gE) ?_
 refine aA ?_
 refine Lp (oA T.yk λb1=> ?_)
 refine Lp (gM T.uS ?_ (h1:=by simp[eN,Value.oneCell']))
 refine br ?_
 refine Li ((Qh (i:=i) (by omega))) ?_
 refine bf ?_
 refine dJ (ι:=List En×Nat×List En×List (Value×Value)×(Nat→Option Nat)) [17,18,19,20,21,22,23,24,25,26,27,28,29,30,34,35,36,37,38,39,40,41,42,43,44,1,31,32,33,5] (λs=>SI L s.1 s.2.1 e s.2.2.2.1 s.2.2.2.2∧(∃z,s.2.2.1=s.1.set s.2.1 z)∧(0<s.2.1→En.le (at_ s.1 (par s.2.1)) (at_ s.1 s.2.1))) (λs=> [(1, .int .i64 (s.2.1:Int))]) (λs=> [ag b1 243 (eN e),ag w 197 [.slice a L.length c, .map (some mb), .int .u64 (tn:Int)],own a c 243 3 (s.2.2.1.flatMap eN),mq (.int .u64) mb s.2.2.2.1]) ?_ ?_
 ·refine nM ?_
  refine Lo (ι:=List En×Nat×List En×List (Value×Value)×(Nat→Option Nat)) [17,18,19,20,21,22,23,24,25,26,27,28,29,30,34,35,36,37,38,39,40,41,42,43,44,1,31,32,33,5] (λs=>SI L s.1 s.2.1 e s.2.2.2.1 s.2.2.2.2∧∃z,s.2.2.1=s.1.set s.2.1 z) (λs=> [(1, .int .i64 (s.2.1:Int)),(5, .int .i64 (par s.2.1:Int))]) (λs=> [ag b1 243 (eN e),ag w 197 [.slice a L.length c, .map (some mb), .int .u64 (tn:Int)],own a c 243 3 (s.2.2.1.flatMap eN),mq (.int .u64) mb s.2.2.2.1]) (λs=>s.2.1) ((L,i,L,es,pl)) ⟨⟨hx,aaq.refl _,hp,R,rfl,hi,he.symm⟩,e,U3.symm⟩ ?_
  rintro⟨M,k,P,B9,p1⟩ hI
  dsimp only at hI⊢
  obtain⟨S,z,hP⟩:=hI
  have hk:=S.lt
  have Cp:=S.ln
  have hPl:P.length=M.length:=by rw[hP,aaj]
  have hfp:=dx P
  have NM:=kB S.pm N
  by_cases h0:0<k
  ·have hpk:=gF h0
   have hft2:=gL (M:=P) (j:=par k) (by omega)
   have B5:at_ P (par k)=at_ M (par k):=by rw[hP,kN hk,if_neg (by omega)]
   rw[B5]at hft2
   have Uu:=l7 e (at_ M (par k))
   refine aA ?_
   refine aw ?_
   refine ik 13 T.mix (.cons .here (.cons .here (.cons .here .nil))) λF1 je bR aM=> ?_
   obtain⟨q1,q2,q3,_⟩:=bR
   have r3:=bB q3
   refine bq ?_
   refine zt 19 ?_
   refine bD ?_
   refine Ti (Ix T.gE) ?_
   refine aA ?_
   refine Tp (oC T.Dp rfl rfl (qx e (at_ M (par k))) .nil (λ_ _ _=>trivial) ?_)
   rintro v H' ⟨rfl,rfl⟩
   refine bd ?_
   refine aA ?_
   refine gO aM ?_
   refine bf ?_
   by_cases cB:En.lt e (at_ M (par k))
   ·refine fB ?_ (e:=by exact decide_eq_true (Uu.2 cB))
    refine eC ?_
    refine Li (Ix T.gE) ?_
    refine aA ?_
    refine zl T.yH (tg w L.length c mb tn k a (at_ M (par k)) (P.flatMap eN) B9 (by omega) (by omega) ha) (.cons (.there (.there .here)) (.cons (.there (.there .here)) .nil)) (λ_ le aq=>aq.nth 1 rfl) ?_
    rw[Wh.hG _ (by omega)]
    refine bA ?_
    refine Li ((Qh (i:=par k) (by omega))) ?_
    refine aA ?_
    refine aG ?_
    refine Ro ((sw M k (par k),par k,P.set k (at_ M (par k)),Ce B9 (hv (at_ M (par k)).h) (iv k),dX p1 (at_ M (par k)).h k)) (⟨⟨aca S.hx h0 hk (by rw[S.e];exact cB),(Fi hk (by omega) (by omega)).trans S.pm,S.px.sw NM hk (by omega) (by omega),S.pr.dX _ _,(by rw[kH];exact Cp),(show par k<(sw M k (par k)).length by rw[kH];omega),(by rw[Ab hk (by omega),if_pos rfl];exact S.e)⟩,at_ M (par k),(by rw[hP];exact Lu z hk (by omega) (by omega))⟩) ((by dsimp only;omega))
   refine dm ?_ (e:=by exact decide_eq_false (λg=>cB (Uu.1 g)))
   refine aW ?_
   refine Me ((M,k,P,B9,p1)) (⟨S,⟨z,hP⟩,λ_=>(by rw[S.e];exact En.rN cB)⟩)
  obtain rfl:k=0:=by omega
  refine aA ?_
  refine aw ?_
  refine ik 13 T.mix (.cons .here (.cons .here (.cons .here .nil))) λF2 zM eG ez=> ?_
  obtain⟨q1,q2,q3,_⟩:=eG
  refine bq ?_
  refine zf 19 ?_ (e:=by rfl)
  refine bA ?_
  refine gO ez ?_
  refine bL ?_
  refine Me ((M,0,P,B9,p1)) (⟨S,⟨z,hP⟩,λh=>absurd h (Nat.lt_irrefl 0)⟩)
 rintro s hI
 obtain⟨M0,k0,P0,es0,p0⟩:=s
 dsimp only at hI⊢
 obtain⟨S0,z0,hu0⟩:=hI
 refine aw ?_
 refine dJ (ι:=List En×Nat×List En×List (Value×Value)×(Nat→Option Nat)) [45,46,47,6,48,49,50,51,52,53,54,55,56,57,58,59,60,61,62,63,64,65,66,67,68,69,70,71,72,73,74,75,76,77,78,79,80,81,82,83,84,85,86,87,88,89,90,91,92,93,94,95,96,97,98,99,100,101,102,103,104,105,106,1] (λs=>(SI L s.1 s.2.1 e s.2.2.2.1 s.2.2.2.2∧(∃z,s.2.2.1=s.1.set s.2.1 z)∧(0<s.2.1→En.le (at_ s.1 (par s.2.1)) (at_ s.1 s.2.1)))∧∀j,0<j→j<s.1.length→par j=s.2.1→En.le e (at_ s.1 j)) (λs=> [(1, .int .i64 (s.2.1:Int))]) (λs=> [ag b1 243 (eN e),ag w 197 [.slice a L.length c, .map (some mb), .int .u64 (tn:Int)],own a c 243 3 (s.2.2.1.flatMap eN),mq (.int .u64) mb s.2.2.2.1]) ?_ ?_
 ·refine nM ?_
  refine Lo (ι:=List En×Nat×List En×List (Value×Value)×(Nat→Option Nat)) [45,46,47,6,48,49,50,51,52,53,54,55,56,57,58,59,60,61,62,63,64,65,66,67,68,69,70,71,72,73,74,75,76,77,78,79,80,81,82,83,84,85,86,87,88,89,90,91,92,93,94,95,96,97,98,99,100,101,102,103,104,105,106,1] (λs=>SI L s.1 s.2.1 e s.2.2.2.1 s.2.2.2.2∧(∃z,s.2.2.1=s.1.set s.2.1 z)∧(0<s.2.1→En.le (at_ s.1 (par s.2.1)) (at_ s.1 s.2.1))) (λs=> [(1, .int .i64 (s.2.1:Int))]) (λs=> [ag b1 243 (eN e),ag w 197 [.slice a L.length c, .map (some mb), .int .u64 (tn:Int)],own a c 243 3 (s.2.2.1.flatMap eN),mq (.int .u64) mb s.2.2.2.1]) (λs=>L.length-s.2.1) ((M0,k0,P0,es0,p0)) ⟨S0,z0,hu0⟩ ?_
  rintro⟨M,k,P,B9,p1⟩ hI
  dsimp only at hI⊢
  obtain⟨S,⟨z,hP⟩,hu⟩:=hI
  have hk:=S.lt
  have Cp:=S.ln
  have hPl:P.length=M.length:=by rw[hP,aaj]
  have hfp:=dx P
  have NM:=kB S.pm N
  refine dh ?_
  refine aw ?_
  refine ay (t:=6) (v':=(.int .i64 ((2*k+1:Nat):Int))) rfl (by rfl) ?_
  refine dJ (ι:=Bool) [48,49,50,51,52,53,54,55,56,57,58,59,60,61,62,63,64,65,66,67,68,69,70,71,72,73,74] (λt=>t=decide (2*k+2<L.length∧En.lt (at_ M (2*k+2)) (at_ M (2*k+1)))) (λt=> [(74, .bool t)]) (λt=> [ag b1 243 (eN e),ag w 197 [.slice a L.length c, .map (some mb), .int .u64 (tn:Int)],own a c 243 3 (P.flatMap eN),mq (.int .u64) mb B9]) ?_ ?_
  ·by_cases h2:2*k+2<L.length
   ·have f1:=gL (M:=P) (j:=2*k+2) (by omega)
    have f2:=gL (M:=P) (j:=2*k+1) (by omega)
    rw[show at_ P (2*k+2)=at_ M (2*k+2) by rw[hP,kN hk,if_neg (by omega)]]at f1
    rw[show at_ P (2*k+1)=at_ M (2*k+1) by rw[hP,kN hk,if_neg (by omega)]]at f2
    have Uu:=l7 (at_ M (2*k+2)) (at_ M (2*k+1))
    refine ik 26 T.mix (.cons .here (.cons .here (.cons .here .nil))) λF3 VQ uo gJ=> ?_
    obtain⟨q1,q2,q3,_⟩:=uo
    have r3:=bB q3
    refine dg ?_
    refine zt 56 ?_
    refine bD ?_
    refine Ti (Ix T.gE (j:=2*k+2) (hj:=by omega)) ?_
    refine bD ?_
    refine Ti (Ix T.gE (j:=2*k+1) (hj:=by omega)) ?_
    refine aA ?_
    refine Tp (oC T.Dp rfl rfl (qx (at_ M (2*k+2)) (at_ M (2*k+1))) .nil (λ_ _ _=>trivial) ?_)
    rintro v H' ⟨rfl,rfl⟩
    refine bd ?_
    refine aA ?_
    refine gO gJ ?_
    refine aA ?_
    refine Tn ?_
    refine Me ((decide (CE (at_ M (2*k+2)) (at_ M (2*k+1))<0))) ((decide_eq_decide.2 ⟨λg=>⟨h2,Uu.1 g⟩,λg=>Uu.2 g.2⟩))
   refine ik 26 T.mix (.cons .here (.cons .here (.cons .here .nil))) λF4 le4 We KY=> ?_
   obtain⟨q1,q2,q3,_⟩:=We
   refine dg ?_
   refine zf 56 ?_
   refine mI ?_
   refine gO KY ?_
   refine aA ?_
   refine Tn ?_
   refine Me (false) ((by rw[decide_eq_false (λg=>h2 g.1)]))
  rintro t ht
  refine dJ (ι:=Nat) [75,76,6] (λd=>(2*k+1≤d∧d≤2*k+2)∧∀j,0<j→j<M.length→par j=k→d<M.length∧En.le (at_ M d) (at_ M j)) (λd=> [(6, .int .i64 (d:Int))]) (λd=> [ag b1 243 (eN e),ag w 197 [.slice a L.length c, .map (some mb), .int .u64 (tn:Int)],own a c 243 3 (P.flatMap eN),mq (.int .u64) mb B9]) ?_ ?_
  ·refine ax rfl ?_ ?_
   ·intro hc
    replace hc:=aL hc
    rw[hc]at ht
    have pJ:=of_decide_eq_true ht.symm
    refine aW ?_
    refine aG ?_
    refine Me ((2*k+2)) (⟨⟨(by omega),(by omega)⟩,λj j0 jl pj=>⟨(by omega),(by have hj:j=2*k+1∨j=2*k+2:=(by unfold par at pj;omega);rcases hj with rfl|rfl;exact En.le_of_lt pJ.2;exact En.le_refl _)⟩⟩)
   intro hc
   replace hc:=aL hc
   rw[hc]at ht
   have pJ:=of_decide_eq_false ht.symm
   refine aA ?_
   refine Me ((2*k+1)) (⟨⟨(by omega),(by omega)⟩,λj j0 jl pj=>⟨(by unfold par at pj;omega),(by have hj:j=2*k+1∨j=2*k+2:=(by unfold par at pj;omega);rcases hj with rfl|rfl;exact En.le_refl _;exact En.rN λg=>pJ ⟨(by omega),g⟩)⟩⟩)
  rintro d hd
  refine aA ?_
  refine aw ?_
  by_cases hdn:d<L.length
  ·have f1:=gL (M:=P) (j:=d) (by omega)
   rw[show at_ P d=at_ M d by rw[hP,kN hk,if_neg (by omega)]]at f1
   have Uu:=l7 e (at_ M d)
   refine ik 19 T.mix (.cons .here (.cons .here (.cons .here .nil))) λF5 le5 hin5 ac6=> ?_
   obtain⟨q1,q2,q3,_⟩:=hin5
   have r3:=bB q3
   refine dh ?_
   refine zf 84 ?_
   refine bD ?_
   refine Ti (Ix T.gE) ?_
   refine aA ?_
   refine Tp (oC T.Dp rfl rfl (qx e (at_ M d)) .nil (λ_ _ _=>trivial) ?_)
   rintro v H' ⟨rfl,rfl⟩
   refine bd ?_
   refine bf ?_
   refine gO ac6 ?_
   refine aA ?_
   by_cases cB:En.lt e (at_ M d)
   ·refine fB ?_ (e:=by exact decide_eq_true (Uu.2 cB))
    refine br ?_
    refine Me ((M,k,P,B9,p1)) (⟨⟨S,⟨z,hP⟩,hu⟩,λj j0 jl pj=>En.le_trans (En.le_of_lt cB) (hd.2 j j0 jl pj).2⟩)
   refine dm ?_ (e:=by exact decide_eq_false (λg=>cB (Uu.1 g)))
   have hle:=En.rN cB
   have hpd:par d=k:=by unfold par;omega
   have hdw:=TD S.hx hk (c:=d) (by omega) (by omega) hpd (λj j0 jl pj=>(hd.2 j j0 jl pj).2) (by rw[S.e];exact hle)
   refine bA ?_
   refine Li (Ix T.gE) ?_
   refine aA ?_
   refine zl T.yH (tg w L.length c mb tn k a (at_ M d) (P.flatMap eN) B9 (by omega) (by omega) ha) (.cons (.there (.there .here)) (.cons (.there (.there .here)) .nil)) (λ_ le aq=>aq.nth 1 rfl) ?_
   rw[Wh.hG _ (by omega)]
   refine bD ?_
   refine Ro ((sw M k d,d,P.set k (at_ M d),Ce B9 (hv (at_ M d).h) (iv k),dX p1 (at_ M d).h k)) (⟨⟨hdw.1,(Fi hk (by omega) (by omega)).trans S.pm,S.px.sw NM hk (by omega) (by omega),S.pr.dX _ _,(by rw[kH];exact Cp),(show d<(sw M k d).length by rw[kH];omega),(by rw[Ab hk (by omega),if_pos rfl];exact S.e)⟩,⟨at_ M d,(by rw[hP];exact Lu z hk (by omega) (by omega))⟩,λ_=>hdw.2⟩) ((by dsimp only;omega))
  refine ik 19 T.mix (.cons .here (.cons .here (.cons .here .nil))) λF6 le6 hin6 ac5=> ?_
  obtain⟨q1,q2,q3,_⟩:=hin6
  refine dh ?_
  refine zt 84 ?_
  refine bI ?_
  refine gO ac5 ?_
  refine bL ?_
  refine Me ((M,k,P,B9,p1)) (⟨⟨S,⟨z,hP⟩,hu⟩,λj j0 jl pj=>absurd (hd.2 j j0 jl pj).1 (by omega)⟩)
 rintro s hI
 obtain⟨M,k,P,B9,p1⟩:=s
 dsimp only at hI⊢
 obtain⟨⟨S,⟨z,hP⟩,hu⟩,hch⟩:=hI
 have hk:=S.lt
 have Cp:=S.ln
 have hPl:P.length=M.length:=by rw[hP,aaj]
 have hfp:=dx P
 have NM:=kB S.pm N
 refine aW ?_
 refine zl T.yH (tg w L.length c mb tn k a e (P.flatMap eN) B9 (by omega) (by omega) ha) (.cons (.there (.there .here)) (.cons (.there (.there .here)) .nil)) (λ_ le aq=>aq.nth 1 rfl) ?_
 rw[Wh.hG _ (by omega)]
 have hPM:P.set k e=M:=by
  rw[hP,adw]
  exact gY (by rw[gS hk,S.e])
 rw[hPM]
 refine aG ?_
 refine jA [ag w 197 [.slice a L.length c, .map (some mb), .int .u64 (tn:Int)],own a c 243 3 (M.flatMap eN),mq (.int .u64) mb (Ce B9 (hv e.h) (iv k))] results213 ?_
 refine⟨rfl,M,Ce B9 (hv e.h) (iv k),rfl,TE S.hx hu (by rw[S.e];exact hch),S.pm,dX p1 e.h k,S.pr.dX _ _, ?_⟩
 have:=S.px.done NM hk
 rwa[S.e]at this
structure Q7 where
 a:Option Addr
 c:Nat
 mb:Nat
 es:List (Value×Value)
structure uq (M:List En)(y:Q7)(tn:Nat):Prop where
 hp:wL M
 nd:Nd M
 pl:∃pl,QM y.es pl∧uu M pl
 tu:∀x∈M,x.tu≤tn
 td:(M.map En.tu).Nodup
 sm:M≠ []→y.a.isSome=true
 ln:M.length<2147483648
 cp:M.length≤y.c
 ex:∀x∈M,0<x.ex
def zy (w:Nat)(y:Q7)(M:List En)(tn:Nat):List aa:= [ag w 197 (JO y.a M.length y.c y.mb tn),own y.a y.c 243 3 (M.flatMap eN),mq (.int .u64) y.mb y.es]
def Wl (w:Nat)(E:List En)(tn:Nat):aa:=λh=>∃y M,M.Perm E∧uq M y tn∧aI (zy w y M tn) h
def ey (E:List En)(h:Nat):List En:=E.filter λx=>decide (x.h≠h)
def jB (E:List En)(h ex tn:Nat):List En:=if 0<ex then⟨h,ex,tn+1⟩::ey E h else ey E h
theorem vM{x:En}{M L:List En}(p:(x::L).Perm M)(N:Nd M):L.Perm (ey M x.h):=by
 have n2:Nd (x::L):=kB p N
 unfold Nd at n2
 rw[aao,aar]at n2
 have e:(x::L).filter (λz=>decide (z.h≠x.h))=L:=by
  rw[adQ,if_neg (by simp),ae9]
  intro z hz
  simp only[decide_eq_true_eq]
  intro g
  exact n2.1 (adi.2 ⟨z,hz,g⟩)
 have:=p.filter (λz=>decide (z.h≠x.h))
 rw[e]at this
 exact this
theorem Nq{M:List En}{h:Nat}(n:∀x∈M,x.h≠h):ey M h=M:=by
 unfold ey
 rw[ae9]
 intro x hx
 simpa using n x hx
theorem pq{M L:List En}(p:M.Perm L)(h:Nat):(ey M h).Perm (ey L h):=p.filter _
theorem G5{M:List En}{h:Nat}:∀x∈ey M h,x∈M∧x.h≠h:=λx hx=>by
 have:=acA.1 hx
 exact⟨this.1,by simpa using this.2⟩
theorem Ll{M L:List En}{tn:Nat}{x:En}(p:(x::L).Perm M)(t:∀z∈M,z.tu≤tn)(d:(M.map En.tu).Nodup):(∀z∈L,z.tu≤tn)∧(L.map En.tu).Nodup:=by
 refine⟨λz hz=>t z (p.mem_iff.1 (aag _ hz)), ?_⟩
 have:=(p.map En.tu).nodup_iff.2 d
 rw[aao,aar]at this
 exact this.2
theorem y9{M:List En}(h:0<M.length):M=M.dropLast++ [at_ M (M.length-1)]:=by
 have h1:=List.dropLast_concat_getLast (l:=M) (by intro e;rw[e]at h;cases h)
 have h2:M.getLast (by intro e;rw[e]at h;cases h)=at_ M (M.length-1):=by
  have:=gS (M:=M) (j:=M.length-1) (by omega)
  rw[List.getLast_eq_getElem,←Option.some_inj,←this,aac]
 rw[←h2]
 exact h1.symm
theorem Ap{M:List En}{j:Nat}(h:j<M.length-1):at_ M.dropLast j=at_ M j:=by
 unfold at_
 rw[aab,aab,aeZ,if_pos h]
theorem Hc{M:List En}{pl:Nat→Option Nat}(h:0<M.length)(N:Nd M)(P:uu M pl):(at_ M (M.length-1)::M.dropLast).Perm M∧uu M.dropLast (del pl (at_ M (M.length-1)).h):=by
 have hl:=y9 h
 refine⟨?_,λj jl=> ?_,λk g=> ?_⟩
 ·exact(ad0 (l₁:= [at_ M (M.length-1)])).trans (by rw[←hl])
 ·rw[adg]at jl
  rw[Ap jl]
  unfold del
  rw[if_neg (λe=>by have:=Ag N (by omega) (by omega) e;omega)]
  exact P.a j (by omega)
 unfold del at g
 by_cases e:k=(at_ M (M.length-1)).h
 ·rw[if_pos e]at g;exact absurd rfl g
 rw[if_neg e]at g
 obtain⟨u,u1,u2⟩:=P.b k g
 have ne:u≠M.length-1:=λz=>e (by rw[←u2,z])
 exact⟨u,by rw[adg];omega,by rw[Ap (by omega)];exact u2⟩
theorem Nx{M:List En}{pl:Nat→Option Nat}{i:Nat}(hi:i<M.length-1)(H:wL M)(N:Nd M)(P:uu M pl):
  (at_ M i::M.dropLast.set i (at_ M (M.length-1))).Perm M∧Hx (M.dropLast.set i (at_ M (M.length-1))) i∧Q8 (M.dropLast.set i (at_ M (M.length-1))) i (dX (del pl (at_ M i).h) (at_ M (M.length-1)).h i):=by
 have hl:=y9 (M:=M) (by omega)
 have hd:i<M.dropLast.length:=by rw[adg];exact hi
 refine⟨?_,X3 (xI H) hd _,λj jl n=> ?_,λk g=> ?_⟩
 ·have h0:=iQ (gS hd) (at_ M.dropLast i)
  rw[gY (gS hd),Ap hi]at h0
  have h1:=iQ (gS hd) (at_ M (M.length-1))
  refine(aaq.cons _ h1).trans ((aaq.swap _ _ _).trans ((aaq.cons _ h0.symm).trans ?_))
  exact(ad0 (l₁:= [at_ M (M.length-1)])).trans (by rw[←hl])
 ·rw[aaj,adg]at jl
  rw[kN hd,if_neg n,Ap jl]
  unfold dX del
  rw[if_neg (λe=>by have:=Ag N (by omega) (by omega) e;omega),if_neg (λe=>n (Ag N (by omega) (by omega) e))]
  exact P.a j (by omega)
 rw[aaj,adg]
 unfold dX del at g
 by_cases e:k=(at_ M (M.length-1)).h
 ·exact⟨i,hi,by rw[kN hd,if_pos rfl,e]⟩
 rw[if_neg e]at g
 by_cases e2:k=(at_ M i).h
 ·rw[if_pos e2]at g;exact absurd rfl g
 rw[if_neg e2]at g
 obtain⟨u,u1,u2⟩:=P.b k g
 have n1:u≠M.length-1:=λz=>e (by rw[←u2,z])
 have n2:u≠i:=λz=>e2 (by rw[←u2,z])
 exact⟨u,by omega,by rw[kN hd,if_neg n2,Ap (by omega)];exact u2⟩
theorem TV{M:List En}(h:0<M.length):(M.flatMap eN).take ((M.length-1)*3)=M.dropLast.flatMap eN:=by
 have hl:=y9 h
 have h2:M.flatMap eN=M.dropLast.flatMap eN++eN (at_ M (M.length-1)):=by
  have:M.flatMap eN=(M.dropLast++ [at_ M (M.length-1)]).flatMap eN:=by rw[←hl]
  rw[this,adY];simp
 have h3:=Wh.dx M.dropLast
 rw[adg]at h3
 rw[h2,aeF (by omega),List.take_of_length_le (by omega)]
theorem RX{M:List En}{pl:Nat→Option Nat}(P:uu M pl)(x:En):Q8 (M++ [x]) M.length pl:=by
 have a:∀j,j<M.length→at_ (M++ [x]) j=at_ M j:=λj h=>by
  unfold at_
  rw[aab,aab,adN h]
 refine⟨λj jl n=> ?_,λh g=> ?_⟩
 ·rw[aal,adB]at jl
  rw[a j (by omega)];exact P.a j (by omega)
 obtain⟨k,k1,k2⟩:=P.b h g
 exact⟨k,by rw[aal];omega,by rw[a k k1];exact k2⟩
structure TkOk (M:List En)(h tn:Nat)(y':Q7)(M':List En):Prop where
 ok:uq M' y' tn
 pm:M'.Perm (ey M h)
theorem MO (a:Option Addr)(m k:Nat):yh a 0 m (0*k)=a:=by
 unfold yh
 split
 ·rfl
 ·rw[Nat.zero_mul];cases a<;>simp[add_zero']
theorem HL{M:List En}(h:0<M.length):M≠ []:=λe=>by rw[e]at h;cases h
theorem uV (w:Nat)(y:Q7)(M:List En)(tn h:Nat)(W:uq M y tn):
  aF aaa 154 [.pointer (some ⟨w,0,none⟩), .int .u64 (h:Int)] (λ_=>True) (zy w y M tn)
   (λv H=>∃y' M',v= .bool (decide (h∈M.map En.h))∧H=zy w y' M' tn∧TkOk M h tn y' M'):=by
 obtain⟨pl,R,P⟩:=W.pl
 have hR:=R h
 unfold hv at hR
 by_cases hx:∃x∈M,x.h=h
 ·obtain⟨x,ZL,hxh⟩:=hx
  obtain⟨i,hi,B5,hpl⟩:=P.at ZL
  rw[hxh]at hpl
  rw[hpl,Option.map_some]at hR
  have aq:h∈M.map En.h:=adi.2 ⟨x,ZL,hxh⟩
  have ha:=W.sm (λe=>by rw[e]at ZL;cases ZL)
  have zF:=Wh.dx M
  have Cp:=W.ln
  have hcp:=W.cp
  have VZ:=Wh.gL (M:=M) (j:=M.length-1) (by omega)
  rw[decide_eq_true aq]
  unfold zy JO
  generalize UA:y.es=es at*
  refine af func154 rfl ntmps154 rfl ?_
  intro F _
  refine dg ?_
  refine Lp (aaW T.yu ?_)
  refine bI ?_
  rw[hR,Option.getD_some,Option.isSome_some]
  unfold iv
  refine dg ?_
  refine Lp (oQd T.yu ?_)
  refine bA ?_
  refine aw ?_
  refine ay (t:=7) (v':=(.int .i64 ((M.length-1:Nat):Int))) rfl (by(congr 1;omega)) ?_
  refine bD ?_
  refine Li (Ix T.gE) ?_
  refine aA ?_
  refine Lp (oA T.yk λb1=> ?_)
  refine Lp (gM T.uS ?_ (h1:=by simp[eN,Value.oneCell']))
  refine dh ?_
  refine Li (Sl 0 _ _ T.gE) ?_
  refine bA ?_
  rw[MO,aeA,aeA]
  refine Hh (H':= [ag b1 243 (eN (at_ M (M.length-1))),ag w 197 [.slice y.a (M.length-1) y.c, .map (some y.mb), .int .u64 (tn:Int)],own y.a y.c 243 3 (M.flatMap eN),mq (.int .u64) y.mb (EI es (.int .u64 (h:Int)))]) ?_
  refine az (λ_ s=>aH (λ_ s=>aH (λ_ s=>aY (λ_ p=>vi p ((M.length-1)*3)) s) s) s) ?_
  rw[TV (by omega)]
  have JV:M.dropLast.length=M.length-1:=adg
  have Uz:=Wh.dx M.dropLast
  have R1:=R.del h
  unfold hv at R1
  have hnh:(at_ M i).h=h:=by rw[B5,hxh]
  by_cases hl:i<M.length-1
  ·obtain⟨t1,t2,t3⟩:=Nx hl W.hp W.nd P
   rw[hnh]at t3
   have N2:Nd (M.dropLast.set i (at_ M (M.length-1))):=by
    have:=kB t1 W.nd
    unfold Nd at this
    rw[aao,aar]at this
    exact this.2
   have S:=Ll t1 W.tu W.td
   have pm:=vM t1 W.nd
   rw[hnh]at pm
   have U6:(M.dropLast.set i (at_ M (M.length-1))).length=M.length-1:=by rw[aaj,JV]
   have st:=vN w y.c y.mb tn i y.a (M.dropLast.set i (at_ M (M.length-1))) (Ce (EI es (.int .u64 (h:Int))) (hv (at_ M (M.length-1)).h) (iv i)) _ (by omega) t2 N2 t3 (R1.dX _ _) (by omega) ha
   rw[U6]at st
   have hex:∀z∈M.dropLast.set i (at_ M (M.length-1)),0<z.ex:=λz hz=>W.ex z (t1.mem_iff.1 (aag _ hz))
   generalize hM2:M.dropLast.set i (at_ M (M.length-1))=M2 at*
   refine fB ?_
   refine aW ?_
   refine zl T.yH (tg w (M.length-1) y.c y.mb tn i y.a (at_ M (M.length-1)) (M.dropLast.flatMap eN) (EI es (.int .u64 (h:Int))) (by omega) (by omega) ha) (.cons (.there (.there .here)) (.cons (.there (.there .here)) .nil)) (λ_ le aq=>aq.nth 1 rfl) ?_
   rw[Wh.hG _ (by omega),hM2]
   refine aW ?_
   refine Lp (oC T.Mh rfl rfl (st) (.cons (.there (.there (.there .here))) (.cons .here (.cons .here .nil))) (λ_ _ _=>trivial) ?_)
   rintro v H' ⟨rfl,M3,es3,rfl,S3⟩
   refine bd ?_
   have l3:M3.length=M.length-1:=by rw[S3.pm.length_eq,U6]
   rw[←l3]
   refine br ?_
   refine Rt [ag w 197 [.slice y.a M3.length y.c, .map (some y.mb), .int .u64 (tn:Int)],own y.a y.c 243 3 (M3.flatMap eN),mq (.int .u64) y.mb es3] results154 ?_
   refine⟨⟨y.a,y.c,y.mb,es3⟩,M3,rfl,rfl,⟨S3.hp,kB S3.pm N2,S3.ok,λz hz=>S.1 z (S3.pm.mem_iff.1 hz),(S3.pm.map En.tu).nodup_iff.2 S.2,λ_=>ha,by omega,by show _≤y.c;omega,λz hz=>hex z (S3.pm.mem_iff.1 hz)⟩,S3.pm.trans pm⟩
  obtain rfl:i=M.length-1:=by omega
  obtain⟨t1,t2⟩:=Hc (by omega) W.nd P
  rw[hnh]at t2
  have S:=Ll t1 W.tu W.td
  have pm:=vM t1 W.nd
  rw[hnh]at pm
  have N2:Nd M.dropLast:=by
   have:=kB t1 W.nd
   unfold Nd at this
   rw[aao,aar]at this
   exact this.2
  rw[←JV]
  refine dm ?_
  refine bD ?_
  refine Rt [ag w 197 [.slice y.a M.dropLast.length y.c, .map (some y.mb), .int .u64 (tn:Int)],own y.a y.c 243 3 (M.dropLast.flatMap eN),mq (.int .u64) y.mb (EI es (.int .u64 (h:Int)))] results154 ?_
  exact⟨⟨y.a,y.c,y.mb,EI es (.int .u64 (h:Int))⟩,M.dropLast,rfl,rfl,⟨xI W.hp,N2,⟨_,R1,t2⟩,S.1,S.2,λ_=>ha,by omega,by show _≤y.c;omega,λz hz=>W.ex z (t1.mem_iff.1 (aag _ hz))⟩,pm⟩
 have oN:∀x∈M,x.h≠h:=λx h1 h2=>hx ⟨x,h1,h2⟩
 have aq:¬h∈M.map En.h:=λg=>by
  obtain⟨x,h1,h2⟩:=adi.1 g
  exact hx ⟨x,h1,h2⟩
 rw[P.none oN,Option.map_none]at hR
 rw[decide_eq_false aq]
 unfold zy JO
 generalize UA:y.es=es at*
 refine af func154 rfl ntmps154 rfl ?_
 intro F _
 refine dg ?_
 refine Lp (aaW T.yu ?_)
 refine bI ?_
 rw[hR,Option.getD_none,Option.isSome_none]
 refine bD ?_
 refine Rt [ag w 197 [.slice y.a M.length y.c, .map (some y.mb), .int .u64 (tn:Int)],own y.a y.c 243 3 (M.flatMap eN),mq (.int .u64) y.mb es] results154 ?_
 exact⟨y,M,rfl,by rw[UA],W,by rw[Nq oN]⟩
structure VI (M:List En)(h ex tn:Nat)(y':Q7)(M':List En):Prop where
 ok:uq M' y' (if 0<ex then tn+1 else tn)
 pm:M'.Perm (jB M h ex tn)
theorem Nr (w:Nat)(y:Q7)(M:List En)(tn h:Nat)(ex:Int)(W:uq M y tn)(he:ex≤0):
  aF aaa 170 [.pointer (some ⟨w,0,none⟩), .int .u64 (h:Int), .int .i64 ex] (λ_=>True) (zy w y M tn)
   (λv H=>∃y' M',v= .tuple #[]∧H=zy w y' M' tn∧VI M h 0 tn y' M'):=by
 unfold zy
 refine af func170 rfl ntmps170 rfl ?_
 intro F _
 refine bq ?_
 refine Lp (oC T.Dk rfl rfl (uV w y M tn h W) (.cons .here (.cons .here (.cons .here .nil))) (λ_ _ _=>trivial) ?_)
 rintro v H' ⟨y1,M1,rfl,rfl,T1⟩
 refine bd ?_
 refine bD ?_
 refine fB ?_ (e:=by exact decide_eq_true he)
 refine bf ?_
 refine Rt0 [ag w 197 (JO y1.a M1.length y1.c y1.mb tn),own y1.a y1.c 243 3 (M1.flatMap eN),mq (.int .u64) y1.mb y1.es] results170 ?_
 exact⟨y1,M1,rfl,rfl,T1.ok,T1.pm⟩
theorem RD (w:Nat)(y:Q7)(M:List En)(tn h ex:Nat)(W:uq M y tn)(he:0<ex)(ht:tn<18446744073709551615)(hm:M.length<2147483647):
  aF aaa 170 [.pointer (some ⟨w,0,none⟩), .int .u64 (h:Int), .int .i64 (ex:Int)] (λ_=>True) (zy w y M tn)
   (λv H=>∃y' M',v= .tuple #[]∧H=zy w y' M' (tn+1)∧VI M h ex tn y' M'):=by
 unfold zy
 refine af func170 rfl ntmps170 rfl ?_
 intro F _
 refine bq ?_
 refine Lp (oC T.Dk rfl rfl (uV w y M tn h W) (.cons .here (.cons .here (.cons .here .nil))) (λ_ _ _=>trivial) ?_)
 rintro v H' ⟨y1,M1,rfl,rfl,T1⟩
 refine bd ?_
 have W1:=T1.ok
 have Uv:M1.length≤M.length:=by rw[T1.pm.length_eq];exact List.length_filter_le _ _
 have zF:=Wh.dx M1
 refine Hh (H':= [ag w 197 [.slice y1.a M1.length y1.c, .map (some y1.mb), .int .u64 (tn:Int)],own y1.a y1.c 243 3 (M1.flatMap eN),mq (.int .u64) y1.mb y1.es]) ?_
 refine bD ?_
 refine dm ?_
 refine eC ?_
 refine aw ?_
 refine ik 14 T.mix (.cons .here .nil) λF1 je bR aM=> ?_
 obtain⟨q1,_⟩:=bR
 refine eC ?_
 refine Tp (oT1 T.yN λb1=> ?_)
 refine Tp (cC T.yN T.LD rfl rfl rfl rfl .here (by omega) (rfl) (by simp[cR,Value.cells,Value.oneCell']) (by omega) (by omega) rfl λa2 c2 n9=> ?_)
 refine gO aM ?_
 obtain⟨x,hx⟩:∃x:En,x=⟨h,ex,tn+1⟩:=⟨_,rfl⟩
 have Kk:(M1++ [x]).flatMap eN=M1.flatMap eN++ [.int .u64 (h:Int), .int .i64 (ex:Int), .int .u64 ((tn:Int)+1)]:=by
  rw[adY,hx];rfl
 have hlen:(M1++ [x]).length=M1.length+1:=by simp
 have hnot:∀z∈M1,z.h≠h:=λz hz=>(G5 z (T1.pm.mem_iff.1 hz)).2
 have htu:=W1.tu
 obtain⟨pl,R,P⟩:=W1.pl
 have N2:Nd (M1++ [x]):=by
  unfold Nd
  rw[adt,adk]
  refine⟨W1.nd,by simp,λu hu v hv e=> ?_⟩
  obtain⟨z,hz,rfl⟩:=adi.1 hu
  simp only[aao,afJ,aaA]at hv
  rw[hv,hx]at e
  exact hnot z hz e
 refine eC ?_
 refine ay (t:=40) (v':=(.int .i64 (M1.length:Int))) rfl (by(congr 1;omega)) ?_
 refine Hh (H':= [ag w 197 [.slice a2 (M1.length+1) c2, .map (some y1.mb), .int .u64 ((tn:Int)+1)],own a2 c2 243 3 (M1.flatMap eN++ [.int .u64 (h:Int), .int .i64 (ex:Int), .int .u64 ((tn:Int)+1)]),mq (.int .u64) y1.mb y1.es]) ?_
 rw[←Kk,←hlen]
 refine kK (iN (.there .here) (λk o=>nu o (by rw[Wh.dx,hlen];omega))) λha=> ?_
 refine Lp (oC T.Mh rfl rfl (vN w c2 y1.mb (tn+1) M1.length a2 (M1++ [x]) y1.es pl (by omega) (TC W1.hp x) N2 (RX P x) R (by omega) ha) (.cons .here (.cons .here (.cons .here .nil))) (λ_ _ _=>trivial) ?_)
 rintro v H' ⟨rfl,M3,es3,rfl,S3⟩
 refine bd ?_
 have l3:M3.length=(M1++ [x]).length:=S3.pm.length_eq
 rw[←l3]
 refine aG ?_
 refine jA [ag w 197 (JO a2 M3.length c2 y1.mb (tn+1)),own a2 c2 243 3 (M3.flatMap eN),mq (.int .u64) y1.mb es3] results170 ?_
 have mem:∀z,z∈M3→z∈M1∨z=x:=λz hz=>by simpa using S3.pm.mem_iff.1 hz
 refine⟨⟨a2,c2,y1.mb,es3⟩,M3,rfl,rfl,⟨S3.hp,kB S3.pm N2,S3.ok,λz hz=> ?_,(S3.pm.map En.tu).nodup_iff.2 ?_,λ_=>ha,by omega,by show _≤c2;omega,λz hz=> ?_⟩, ?_⟩
 ·rw[if_pos he]
  rcases mem z hz with g|g
  ·have:=htu z g;omega
  rw[g,hx];exact aan _
 ·rw[adt,adk]
  refine⟨W1.td,by simp,λu hu v hv e=> ?_⟩
  obtain⟨z,hz,rfl⟩:=adi.1 hu
  simp only[aao,afJ,aaA]at hv
  rw[hv,hx]at e
  have:=htu z hz
  change z.tu=tn+1 at e
  omega
 ·rcases mem z hz with g|g
  ·exact W1.ex z g
  rw[g,hx];exact he
 unfold jB
 rw[if_pos he,←hx]
 exact S3.pm.trans ((ad0 (l₂:= [x])).trans (aaq.cons x T1.pm))
theorem LA{P:Program}{f:FuncId}{args:List Value}{pre:Hp→Prop}{H:List aa}{R:Value→List aa→Prop}{w tn:Nat}{E:List En}(h:∀y M,M.Perm E→uq M y tn→aF P f args pre (zy w y M tn++H) R):aF P f args pre (Wl w E tn::H) R:=
 aF.ZY λy=>aF.ZY λM=>aF.Ae λp=>aF.Ae λW=>aF.CW (h y M p W)
theorem tQ{w tn:Nat}{E M:List En}{y:Q7}{H:List aa}{h:Hp}(p:M.Perm E)(W:uq M y tn)(st:ai (zy w y M tn++H) h):ai (Wl w E tn::H) h:=
 aY (λ_ s=>⟨y,M,p,W,s⟩) (fg st)
theorem Ws{w tn:Nat}{E:List En}{h:Hp}(o:In (Wl w E tn) h):∃y M,M.Perm E∧uq M y tn∧gw (zy w y M tn) h:=by
 obtain⟨k,⟨y,M,p,W,st⟩,le⟩:=o
 exact⟨y,M,p,W,bV st le⟩
theorem SY{M E:List En}(p:M.Perm E)(h:Nat):decide (h∈M.map En.h)=decide (h∈E.map En.h):=decide_eq_decide.2 (p.map En.h).mem_iff
theorem Ql (w:Nat)(E:List En)(tn h:Nat):
  aF aaa 154 [.pointer (some ⟨w,0,none⟩), .int .u64 (h:Int)] (λ_=>True) [Wl w E tn]
   (λv H=>v= .bool (decide (h∈E.map En.h))∧H= [Wl w (ey E h) tn]):=by
 refine LA λy M p W=>(uV w y M tn h W).out λv H' hr=> ?_
 obtain⟨y1,M1,rfl,rfl,T⟩:=hr
 exact⟨_,⟨by rw[SY p],rfl⟩,λk s=>tQ (T.pm.trans (pq p h)) T.ok (by simpa using s)⟩
theorem xj{M E:List En}(p:M.Perm E)(h ex tn:Nat):(jB M h ex tn).Perm (jB E h ex tn):=by
 unfold jB
 split
 ·exact aaq.cons _ (pq p h)
 exact pq p h
theorem GC (w:Nat)(E:List En)(tn h:Nat)(ex:Nat)(ht:tn<18446744073709551615)(hm:E.length<2147483647):
  aF aaa 170 [.pointer (some ⟨w,0,none⟩), .int .u64 (h:Int), .int .i64 (ex:Int)] (λ_=>True) [Wl w E tn]
   (λv H=>v= .tuple #[]∧H= [Wl w (jB E h ex tn) (if 0<ex then tn+1 else tn)]):=by
 refine LA λy M p W=> ?_
 by_cases he:0<ex
 ·refine(RD w y M tn h ex W he ht (by rw[p.length_eq];exact hm)).out λv H' hr=> ?_
  obtain⟨y1,M1,rfl,rfl,T⟩:=hr
  have ok:=T.ok
  rw[if_pos he]at ok⊢
  exact⟨_,⟨rfl,rfl⟩,λk s=>tQ (T.pm.trans (xj p h ex tn)) ok (by simpa using s)⟩
 obtain rfl:ex=0:=by omega
 refine(Nr w y M tn h 0 W (by omega)).out λv H' hr=> ?_
 obtain⟨y1,M1,rfl,rfl,T⟩:=hr
 have ok:=T.ok
 rw[if_neg he]at ok⊢
 exact⟨_,⟨rfl,rfl⟩,λk s=>tQ (T.pm.trans (xj p h 0 tn)) ok (by simpa using s)⟩
theorem Um:aF aaa 64 [] (λ_=>True) [] (λv H=>∃w,v= .pointer (some ⟨w,0,none⟩)∧H= [Wl w [] 0]):=by
 have h:aF aaa 64 [] (λ_=>True) [] (λv H=>∃w mb,v= .pointer (some ⟨w,0,none⟩)∧H=zy w ⟨none,0,mb,[]⟩ [] 0):=by
  unfold zy JO
  refine af func64 rfl ntmps64 rfl ?_
  intro F _
  refine aW ?_
  refine Lp (oQm (.int .u64) λm1=> ?_)
  refine aA ?_
  refine Lp (oB λb1=> ?_)
  refine bq ?_
  refine dK 243 3 ?_
  refine Rt [ag b1 197 [.slice none 0 0, .map (some m1), .int .u64 0],own none 0 243 3 [],mq (.int .u64) m1 []] results64 ?_
  exact⟨b1,m1,rfl,rfl⟩
 refine h.out λv H' hr=> ?_
 obtain⟨w,mb,rfl,rfl⟩:=hr
 refine⟨_,⟨w,rfl,rfl⟩,λk s=>tQ (H:= []) (y:=⟨none,0,mb,[]⟩) (aaq.refl []) ⟨λj h1 h2=>absurd h2 (aev _),aec,⟨λ_=>none,λh=>rfl,λj h=>absurd h (aev _),λh g=>absurd rfl g⟩,(λx h=>by cases h),aec,λh=>absurd rfl h,by decide,aan 0,(λx h=>by cases h)⟩ (by simpa using s)⟩
def oW (M:List En)(now:Int)(i:Nat):Bool:=decide (i<M.length)&&decide (((at_ M i).ex:Int)≤now)
def JZ (D:List Nat):List Nat:=D.flatMap λi=> [2*i+1,2*i+2]
theorem Gs{D:List Nat}{j:Nat}:j∈JZ D↔0<j∧par j∈D:=by
 unfold JZ
 rw[List.mem_flatMap]
 constructor
 ·rintro⟨i,hi,h⟩
  simp only[aau,adS,or_false]at h
  have:0<j∧par j=i:=by unfold par;omega
  exact⟨this.1,by rw[this.2];exact hi⟩
 rintro⟨h0,hp⟩
 exact⟨par j,hp,by simp only[aau,adS,or_false];unfold par;omega⟩
theorem P3 (D:List Nat)(i:Nat):JZ (D++ [i])=JZ D++ [2*i+1,2*i+2]:=by unfold JZ;rw[adY];simp
structure Cd (M:List En)(now:Int)(k:Nat)(look D:List Nat):Prop where
 lk:look=0::JZ D
 dk:D=(look.take k).filter (oW M now)
 nd:look.Nodup
 kl:k≤look.length
theorem Cd.start (M:List En)(now:Int):Cd M now 0 [0] []:=⟨rfl,rfl,by simp,by simp⟩
theorem Cd.dN{M:List En}{now:Int}{k:Nat}{look D:List Nat}(B:Cd M now k look D):D.Nodup∧(∀i∈D,i<M.length)∧D.length≤M.length:=by
 have h1:D.Nodup:=by rw[B.dk];exact(B.nd.sublist (List.take_sublist _ _)).sublist adx
 have h2:∀i∈D,i<M.length:=λi hi=>by
  rw[B.dk]at hi
  have:=(acA.1 hi).2
  unfold oW at this
  simp only[afq,decide_eq_true_eq]at this
  exact this.1
 exact⟨h1,h2,lE _ _ h1 h2⟩
theorem Ud (D:List Nat):(JZ D).length=D.length*2:=by
 induction D with
 |nil=>rfl
 |cons a l ih=>
  have:JZ (a::l)= [2*a+1,2*a+2]++JZ l:=rfl
  rw[this,aal,ih];simp;omega
theorem Cd.len{M:List En}{now:Int}{k:Nat}{look D:List Nat}(B:Cd M now k look D):look.length=D.length*2+1∧look.length≤2*M.length+1:=by
 have:=B.dN.2.2
 have h:look.length=D.length*2+1:=by rw[B.lk,adm,Ud]
 exact⟨h,by omega⟩
theorem Cd.skip{M:List En}{now:Int}{k i:Nat}{look D:List Nat}(B:Cd M now k look D)(hk:look[k]?=some i)(hg:oW M now i=false):Cd M now (k+1) look D:=by
 have cB:=(aad.1 hk).1
 refine⟨B.lk, ?_,B.nd,cB⟩
 rw[adX,hk,afh,←B.dk]
 simp[hg]
theorem Cd.add{M:List En}{now:Int}{k i:Nat}{look D:List Nat}(B:Cd M now k look D)(hk:look[k]?=some i)(hg:oW M now i=true):Cd M now (k+1) (look++ [2*i+1,2*i+2]) (D++ [i]):=by
 have cB:=(aad.1 hk).1
 have hiD:i∉D:=λh=>by
  rw[B.dk]at h
  have h2:=(acA.1 h).1
  obtain⟨m,hm,e⟩:=aaz h2
  rw[List.getElem_take]at e
  have hm2:=hm
  rw[ad6]at hm2
  have h3:look[m]?=some i:=aad.2 ⟨by omega,e⟩
  have:=gh B.nd h3 hk
  rw[ad6]at hm
  omega
 have oN:∀j,0<j→par j=i→j∉look:=λj j0 pj h=>by
  rw[B.lk]at h
  rcases aau.1 h with e|e
  ·omega
  have:=(Gs.1 e).2
  rw[pj]at this
  exact hiD this
 refine⟨by rw[P3,B.lk];rfl, ?_, ?_,by rw[aal];omega⟩
 ·rw[aeF (by omega),adX,hk,afh,←B.dk]
  simp[hg]
 rw[adk]
 refine⟨B.nd,by simp,λa ha b hb e=> ?_⟩
 subst e
 simp only[aau,adS,or_false]at hb
 exact oN a (by omega) (by unfold par;omega) ha
theorem Cd.done{M:List En}{now:Int}{k:Nat}{look D:List Nat}(H:wL M)(B:Cd M now k look D)(hk:k=look.length):(D.map (at_ M)).Perm (M.filter λx=>decide ((x.ex:Int)≤now)):=by
 have hD:D=look.filter (oW M now):=by
  have:=B.dk
  rwa[hk,List.take_length]at this
 have all:∀i,oW M now i=true→i∈D:=λi=>by
  induction i using Nat.strongRecOn with
  |ind i ih=>
   intro hg
   have aq:i∈look:=by
    rw[B.lk]
    rcases Nat.eq_zero_or_pos i with e|e
    ·rw[e];exact aai
    refine aag _ (Gs.2 ⟨e,ih (par i) (gF e) ?_⟩)
    unfold oW at hg⊢
    simp only[afq,decide_eq_true_eq]at hg⊢
    have hle:=H i e hg.1
    have:=gF e
    refine⟨by omega, ?_⟩
    unfold En.le at hle
    omega
   rw[hD]
   exact acA.2 ⟨aq,hg⟩
 have hM:M=(adJ M.length).map (at_ M):=by
  apply afj
  intro j
  rw[aap]
  by_cases h:j<M.length
  ·rw[gS h,List.getElem?_range h];rfl
  rw[aat (by omega),aat (by rw[List.length_range];omega)];rfl
 have p1:D.Perm ((adJ M.length).filter λi=>decide (((at_ M i).ex:Int)≤now)):=by
  refine(List.perm_ext_iff_of_nodup B.dN.1 (List.nodup_range.sublist adx)).2 λi=> ?_
  rw[acA,List.mem_range]
  constructor
  ·intro h
   have h2:=(acA.1 (hD▸h)).2
   unfold oW at h2
   simpa using h2
  intro h
  exact all i (by unfold oW;simpa using h)
 have p2:=p1.map (at_ M)
 have e:((adJ M.length).filter λi=>decide (((at_ M i).ex:Int)≤now)).map (at_ M)=M.filter λx=>decide ((x.ex:Int)≤now):=by
  conv=>rhs;rw[hM]
  rw[List.filter_map];rfl
 rw[e]at p2
 exact p2
noncomputable def fV (L:List En):List En:=L.mergeSort λx y=>decide (¬En.lt y x)
theorem fH (L:List En):(fV L).Perm L:=List.mergeSort_perm _ _
noncomputable def mR (E:List En)(now:Int)(aB:Int):List Nat:=((fV (E.filter λx=>decide ((x.ex:Int)≤now))).take aB.toNat).map En.h
def zH (l:List Nat):List Value:=l.map λ(h:Nat)=>Value.int .u64 (h:Int)
def mX:Prop:=∀(a:Option Addr) (cap:Nat) (L:List En),L.length≤cap→(L.map En.tu).Nodup→L.length<2147483648→aF aaa 142 [.slice a L.length cap, .func (.func 143) #[] #[]] (λ_=>True) [own a cap 243 3 (L.flatMap eN)] (λv H=>v= .tuple #[]∧H= [own a cap 243 3 ((fV L).flatMap eN)])
theorem RF (sL:mX)(w:Nat)(y:Q7)(M:List En)(tn:Nat)(now aB:Int)(W:uq M y tn):
  aF aaa 89 [.pointer (some ⟨w,0,none⟩), .int .i64 now, .int .i64 aB] (gw (zy w y M tn)) []
   (λv H=>∃a c L,v= .slice a L.length c∧H= [own a c 117 1 (zH L)]∧∃D:List En,D.Perm (M.filter λx=>decide ((x.ex:Int)≤now))∧L=((fV D).take aB.toNat).map En.h):=by
 have Cp:=W.ln
 unfold zy JO
 refine af func89 rfl ntmps89 rfl ?_
 rintro F ⟨hw,ho,_⟩
 have hr:=bB ho
 have zF:=Wh.dx M
 refine bL ?_
 refine Lp (oT T.jg λb1=> ?_)
 refine bD ?_
 refine az (λ_ s=>aY (λ_ p=>mh p 1 1 rfl (by decide)) s) ?_
 refine dK 243 3 ?_
 refine dJ (ι:=List Nat×Option Addr×Nat) [15,16,17,18,21,22,23,24,10,25,26,27,28,29,30,31,32,33,34,35,36,37,38,39,40,41,42,43,44,45,46,47,48,49,50,51,52,53,7,54,55,56,57,58,59,60,61,62,8,19,20,9] (λs=>(s.1.map (at_ M)).Perm (M.filter λx=>decide ((x.ex:Int)≤now))∧s.1.length≤M.length∧s.1.length≤s.2.2) (λs=> [(7, .slice s.2.1 s.1.length s.2.2)]) (λs=> [own s.2.1 s.2.2 243 3 ((s.1.map (at_ M)).flatMap eN)]) ?_ ?_
 ·refine nM ?_
  refine Lo (ι:=Nat×List Nat×List Nat×(Option Addr×Nat)×(Option Addr×Nat)) [15,16,17,18,21,22,23,24,10,25,26,27,28,29,30,31,32,33,34,35,36,37,38,39,40,41,42,43,44,45,46,47,48,49,50,51,52,53,7,54,55,56,57,58,59,60,61,62,8,19,20,9] (λs=>Cd M now s.1 s.2.1 s.2.2.1∧s.2.1.length≤s.2.2.2.1.2∧s.2.2.1.length≤s.2.2.2.2.2) (λs=> [(9, .int .i64 (s.1:Int)),(8, .slice s.2.2.2.1.1 s.2.1.length s.2.2.2.1.2),(7, .slice s.2.2.2.2.1 s.2.2.1.length s.2.2.2.2.2)]) (λs=> [own s.2.2.2.2.1 s.2.2.2.2.2 243 3 ((s.2.2.1.map (at_ M)).flatMap eN),own s.2.2.2.1.1 s.2.2.2.1.2 3 1 (ba s.2.1)]) (λs=>2*M.length+1-s.1) ((0,[0],[],(some ⟨b1,0,none⟩,1),(none,0))) ⟨Cd.start M now,aan 1,aan 0⟩ ?_
  rintro⟨k,look,D,⟨al,cl⟩,⟨ad,cd⟩⟩ hI
  dsimp only at hI⊢
  obtain⟨B,fx,hcd⟩:=hI
  obtain⟨q1,q2⟩:=B.len
  have q3:=B.dN.2.2
  have pO:=B.kl
  refine bL ?_
  by_cases hk:k<look.length
  ·obtain⟨i,hi⟩:∃i,look[k]?=some i:=⟨look[k],aac hk⟩
   have hic:(ba look)[k]?=some (.int .i64 (i:Int)):=by unfold ba;rw[aap,hi];rfl
   have VV:(ba look).length=look.length:=jw look
   refine kK (iN (.there .here) (λ_ o=>nu o (by rw[VV];omega))) λZU=> ?_
   refine fB ?_
   refine bL ?_
   refine Li (Ix T.se) ?_
   refine gP ?_
   by_cases aq:i<M.length
   ·have VZ:=Wh.gL aq
    have hex:(M.flatMap eN)[i*3+1]?=some (.int .i64 ((at_ M i).ex:Int)):=bj jL (gS aq) rfl
    have ha:=W.sm (HL (by omega))
    refine zf 32 ?_
    refine br ?_
    refine Li (Ix T.gE) ?_
    refine Li (EN T.xN) ?_
    refine br ?_
    by_cases hx:((at_ M i).ex:Int)≤now
    ·have hg:oW M now i=true:=by unfold oW;rw[decide_eq_true aq,decide_eq_true hx];rfl
     have B2:=B.add hi hg
     have hfD:((D.map (at_ M)).flatMap eN).length=D.length*3:=by rw[Wh.dx,aax]
     refine dm ?_
     refine dg ?_
     refine Li (Ix T.gE) ?_
     refine aA ?_
     refine Lp (oT1 T.yN λb2=> ?_)
     refine Lp (cC T.yN T.LD rfl rfl rfl rfl .here (by omega) (rfl) (by simp[eN,cR,Value.cells,Value.oneCell']) (by omega) (by omega) rfl λa2 c2 n9=> ?_)
     refine bA ?_
     refine Lp (oT T.jg λb3=> ?_)
     refine Lp (cC T.jg T.wZ rfl rfl rfl rfl (.there .here) (by omega) (rfl) (by simp[cR,Value.cells,Value.oneCell']) (by omega) (by omega) rfl λa3 c3 hc3=> ?_)
     refine dh ?_
     refine aG ?_
     have e1:((D++ [i]).map (at_ M)).flatMap eN=(D.map (at_ M)).flatMap eN++eN (at_ M i):=by rw[adt,adY];simp
     have e2:ba (look++ [2*i+1,2*i+2])=ba look++ [.int .i64 (2*(i:Int)+1), .int .i64 (2*(i:Int)+2)]:=by rw[lF];rfl
     have l1:(D++ [i]).length=D.length+1:=by simp
     have l2:(look++ [2*i+1,2*i+2]).length=look.length+2:=by simp
     refine Hh (H':= [own a2 c2 243 3 ((D.map (at_ M)).flatMap eN++eN (at_ M i)),own a3 c3 3 1 (ba look++ [.int .i64 (2*(i:Int)+1), .int .i64 (2*(i:Int)+2)])]) ?_
     rw[←e1,←e2,←l1,←l2]
     refine Ro ((k+1,look++ [2*i+1,2*i+2],D++ [i],(a3,c3),(a2,c2))) (⟨B2,(by dsimp only;omega),(by dsimp only;omega)⟩) ((by dsimp only;omega))
    have hg:oW M now i=false:=by unfold oW;rw[decide_eq_false hx,Bool.and_false]
    refine fB ?_
    refine dh ?_
    refine aG ?_
    refine Ro ((k+1,look,D,(al,cl),(ad,cd))) (⟨B.skip hi hg,fx,hcd⟩) ((by dsimp only;omega))
   have hg:oW M now i=false:=by unfold oW;rw[decide_eq_false aq,Bool.false_and]
   refine zt 32 ?_
   refine bW ?_
   refine aA ?_
   refine aG ?_
   refine Ro ((k+1,look,D,(al,cl),(ad,cd))) (⟨B.skip hi hg,fx,hcd⟩) ((by dsimp only;omega))
  refine dm ?_
  refine aW ?_
  refine Me ((D,ad,cd)) (⟨B.done W.hp (by omega),q3,hcd⟩)
 rintro s hI
 obtain⟨D,ad,cd⟩:=s
 dsimp only at hI⊢
 obtain⟨hp,hDl,hDc⟩:=hI
 have hLl:(D.map (at_ M)).length=D.length:=aax ..
 have hLt:((D.map (at_ M)).map En.tu).Nodup:=(hp.map En.tu).nodup_iff.2 (W.td.sublist (adx.map _))
 rw[←hLl]
 rw[←hLl]at hDl hDc
 generalize D.map (at_ M)=L at*
 have ZP:(fV L).length=L.length:=(fH L).length_eq
 have hfS:=Wh.dx (fV L)
 obtain⟨m,hm⟩:∃m,m=min L.length aB.toNat:=⟨_,rfl⟩
 refine bf ?_
 refine zl T.YN (sL ad cd L hDc hLt (by omega)) (.cons .here .nil) (λ_ _ _=>trivial) ?_
 generalize hS:fV L=S at*
 refine bA ?_
 refine Li Ma ?_
 refine Li Mi ?_
 refine ay (t:=70) (v':=(.int .i64 (m:Int))) rfl (by(congr 1;omega)) ?_
 refine Li (Sl 0 _ _ T.gE) ?_
 rw[MO,aeA,aeA]
 refine bq ?_
 refine dK 117 1 ?_
 refine aA ?_
 refine Lo (ι:=Nat×Option Addr×Nat) [74,75,76,13,77,78,79,80,81,11,82,73] (λs=>s.1≤m∧s.1≤s.2.2) (λs=> [(73, .int .i64 (s.1:Int)),(11, .slice s.2.1 s.1 s.2.2)]) (λs=> [own s.2.1 s.2.2 117 1 (zH ((S.take s.1).map En.h)),own ad cd 243 3 (S.flatMap eN)]) (λs=>m-s.1) ((0,none,0)) ⟨Nat.zero_le _,aan 0⟩ ?_
 rintro⟨j,a,c⟩ hI
 dsimp only at hI⊢
 have hj:=hI.1
 by_cases hjm:j<m
 ·have VZ:=Wh.gL (M:=S) (j:=j) (by omega)
  have hx:=gS (M:=S) (j:=j) (by omega)
  have hh:(zH ((S.take j).map En.h)).length=j:=by unfold zH;rw[aax,aax,ad6];omega
  have e1:zH ((S.take (j+1)).map En.h)=zH ((S.take j).map En.h)++ [.int .u64 ((at_ S j).h:Int)]:=by
   unfold zH
   rw[adX,hx,adt,adt];rfl
  refine kK (iN (.there .here) (λ_ o=>nu o (by omega))) λZU=> ?_
  refine bq ?_
  refine aw ?_
  refine fB ?_
  refine br ?_
  refine Li (Ix T.gE) ?_
  refine aA ?_
  refine Lp (oA T.yk λb4=> ?_)
  refine Lp (gM T.uS ?_ (h1:=by simp[eN,Value.oneCell']))
  refine aA ?_
  rw[show eN (at_ S j)= [.int .u64 ((at_ S j).h:Int), .int .i64 ((at_ S j).ex:Int), .int .u64 ((at_ S j).tu:Int)]from rfl]
  refine aW ?_
  refine Lp (oT T.MU λb5=> ?_)
  refine Lp (cC T.MU T.XM rfl rfl rfl rfl (.there .here) (by omega) (rfl) (by simp[cR,Value.cells,Value.oneCell']) (by omega) (by omega) rfl λa2 c2 n9=> ?_)
  refine bL ?_
  refine aG ?_
  refine Hh (H':= [own a2 c2 117 1 (zH ((S.take j).map En.h)++ [.int .u64 ((at_ S j).h:Int)]),own ad cd 243 3 (S.flatMap eN)]) ?_
  rw[←e1]
  refine Ro ((j+1,a2,c2)) (⟨hjm,n9⟩) ((by dsimp only;omega))
 refine iu ?_
 refine bf ?_
 refine aw ?_
 refine dm ?_
 refine bA ?_
 obtain rfl:j=m:=by omega
 have e1:S.take j=S.take aB.toNat:=by
  rw[ae2,ae2 (i:=aB.toNat),ZP,hm]
  congr 1;omega
 have hl:((S.take aB.toNat).map En.h).length=j:=by rw[aax,ad6];omega
 rw[e1,←hl]
 refine Rt [own a c 117 1 (zH ((S.take aB.toNat).map En.h))] results89 ?_
 exact⟨a,c,_,rfl,rfl,L,hp,by rw[hS]⟩
theorem UP{R:En→En→Prop}:∀{L M:List En},L.Perm M→L.Pairwise R→M.Pairwise R→(∀a∈L,∀b∈L,R a b→R b a→a=b)→L=M
 | [],M,p,_,_,_=>(List.nil_perm.1 p).symm
 |a::L,[],p,_,_,_=>by have:=p.length_eq;simp at this
 |a::L,b::M,p,hl,hm,an=>by
  have e:a=b:=by
   have hb:b∈a::L:=p.mem_iff.2 aai
   have ha:a∈b::M:=p.mem_iff.1 aai
   rcases aau.1 hb with h|h
   ·exact h.symm
   rcases aau.1 ha with g|g
   ·exact g
   exact an a aai b hb ((ad7.1 hl).1 b h) ((ad7.1 hm).1 a g)
  subst e
  rw[UP (aaq.cons_inv p) (ad7.1 hl).2 (ad7.1 hm).2 (λx hx y hy=>an x (aag _ hx) y (aag _ hy))]
theorem WO{L:List En}(d:(L.map En.tu).Nodup){a b:En}(ha:a∈L)(hb:b∈L)(e:a.tu=b.tu):a=b:=by
 obtain⟨i,hi,ea⟩:=aaz ha
 obtain⟨j,hj,eb⟩:=aaz hb
 have h1:(L.map En.tu)[i]?=some a.tu:=by rw[aap,aac hi,ea];rfl
 have h2:(L.map En.tu)[j]?=some a.tu:=by rw[aap,aac hj,eb,e];rfl
 have:=gh d h1 h2
 subst this
 rw[←ea,←eb]
theorem AE (L:List En):(fV L).Pairwise λx y=>¬En.lt y x:=by
 have h:=List.pairwise_mergeSort (le:=λx y:En=>decide (¬En.lt y x)) (λa b c h1 h2=>by
  simp only[decide_eq_true_eq]at*
  unfold En.lt at*
  omega) (λa b=>by
  simp only[Bool.or_eq_true,decide_eq_true_eq]
  unfold En.lt
  omega) L
 refine h.imp λ{a b} g=> ?_
 exact of_decide_eq_true g
theorem Fl{L M:List En}(p:L.Perm M)(d:(M.map En.tu).Nodup)(hl:L.Pairwise λx y=>¬En.lt y x):L=fV M:=by
 have d2:(L.map En.tu).Nodup:=(p.map En.tu).nodup_iff.2 d
 refine UP (p.trans (fH M).symm) hl (AE M) λa ha b hb h1 h2=>WO d2 ha hb ?_
 unfold En.lt at h1 h2
 omega
theorem vR{L M:List En}(p:L.Perm M)(d:(M.map En.tu).Nodup):fV L=fV M:=Fl ((fH L).trans p) d (AE L)
theorem Un (sL:mX)(w:Nat)(E:List En)(tn:Nat)(now aB:Int):
  aF aaa 89 [.pointer (some ⟨w,0,none⟩), .int .i64 now, .int .i64 aB] (In (Wl w E tn)) []
   (λv H=>∃a c,v= .slice a (mR E now aB).length c∧H= [own a c 117 1 (zH (mR E now aB))]):=by
 refine aF.XL (X:=∃y M,M.Perm E∧uq M y tn) (λk hk=> ?_) ?_
 ·obtain⟨y,M,p,W,_⟩:=Ws hk
  exact⟨y,M,p,W⟩
 intro _
 intro F W0 hk s
 obtain⟨y,M,p,W,aq⟩:=Ws hk
 refine((RF sL w y M tn now aB W) F W0 aq s).mono λe w' hh=> ?_
 obtain⟨v,H',he,⟨a,c,L,rfl,rfl,D,hD,rfl⟩,st⟩:=hh
 have hs:fV D=fV (E.filter λx=>decide ((x.ex:Int)≤now)):=by
  refine vR (hD.trans (p.filter _)) ?_
  exact((p.map En.tu).nodup_iff.1 W.td).sublist (adx.map _)
 refine⟨_,_,he,⟨a,c, ?_, ?_⟩,st⟩
 ·unfold mR;rw[hs]
 unfold mR;rw[hs]
end Go.Proofs.YtdolmecackmjdaaGreatDoor
