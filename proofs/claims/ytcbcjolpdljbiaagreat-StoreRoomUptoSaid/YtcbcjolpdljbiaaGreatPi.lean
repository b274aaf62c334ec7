/- Part Pi of the proof. -/
import Derived.Test.YtcbcjolpdljbiaaGreatPj
set_option maxRecDepth 100000
open Go.Proofs.YtcbcjolpdljbiaaGreat.T
open List renaming getD_eq_getElem?_getD -> aaZ, getElem?_eq_getElem -> aa0, getElem?_set -> ahG, Perm -> abd, getElem?_append_left -> ahI, length_append -> aa9, length_singleton -> ahp, getElem?_dropLast -> alx, length_dropLast -> ac2, length_set -> aa8, mem_cons_of_mem -> aa6, mem_cons_self -> aa5, map_cons -> aa7, filter_cons -> ahJ, getElem?_map -> abf, mem_of_getElem? -> aa3, getElem_of_mem -> acS, flatMap_cons -> ahw, length_cons -> abu, ext_getElem? -> ah6, getElem?_eq_none -> abb, set_set -> ade, nodup_cons -> abg, filter_eq_self -> alH, mem_map -> abk, mem_filter -> abm, perm_append_comm -> abq, flatMap_append -> ahQ, take_append_of_le_length -> ald, map_append -> adb, nodup_append -> ac9, map_nil -> al8, mem_singleton -> acQ, mem_cons -> abh, mem_of_mem_eraseIdx -> alr, nodup_nil -> ah9, not_mem_nil -> ahK, filter_sublist -> ahs, getElem?_eq_some_iff -> aa1, take_add_one -> ahP, filter_append -> ahU, length_take -> ahY, range -> acA, length_map -> abo, take_eq_take_min -> alz, pairwise_cons -> ahZ
open Nat renaming sub_zero -> aiF, le_refl -> abc, not_lt_zero -> ah2
open Bool renaming and_eq_true -> alT
open Go.Proofs.Tryz renaming prog -> aaY
open Go.Proofs.Tryz
open Go.Value renaming int -> DE
open Go.IntKind renaming i64 -> DD, u64 -> DB
namespace Go.Proofs.YtcbcjolpdljbiaaGreat
open Go Go.dQ
structure En where
 h:Nat
 ex:Nat
 tu:Nat
namespace En
def lt (a b:En):Prop:=a.ex<b.ex\/a.ex=b.ex/\a.tu<b.tu
def le (a b:En):Prop:=a.ex<b.ex\/a.ex=b.ex/\a.tu<=b.tu
theorem le_trans{a b c:En}(h:le a b)(g:le b c):le a c:=by unfold le at*;omega
theorem le_of_lt{a b:En}(h:lt a b):le a b:=by unfold lt le at*;omega
theorem vS{a b:En}(h:¬lt a b):le b a:=by unfold lt le at*;omega
theorem le_refl (a:En):le a a:=by unfold le;omega
instance (a b:En):Decidable (lt a b):=by unfold lt;infer_instance
end En
namespace Wh
def at_ (M:List En)(j:Nat):En:=M.getD j ⟨0,0,0⟩
def par (j:Nat):Nat:=(j-1)/2
def Ao (M:List En):Prop:=∀j,0<j->j<M.length->En.le (at_ M (par j)) (at_ M j)
structure Hx (M:List En)(i:Nat):Prop where
 a:∀j,0<j->j<M.length->j≠i->par j≠i->En.le (at_ M (par j)) (at_ M j)
 b:∀j,0<i->j<M.length->0<j->par j=i->En.le (at_ M (par i)) (at_ M j)
theorem gj{M:List En}{j:Nat}(h:j<M.length):M[j]?=some (at_ M j):=by
 unfold at_;rw[aaZ,aa0 h];rfl
theorem ml{M:List En}{i:Nat}(h:i<M.length)(x:En)(j:Nat):at_ (M.set i x) j=if j=i then x else at_ M j:=by
 unfold at_;rw[aaZ,aaZ,ahG];by_cases e:i=j
 ·rw[if_pos e,if_pos h,if_pos e.symm];rfl
 rw[if_neg e,if_neg (λg=>e g.symm)]
def sw (M:List En)(i c:Nat):List En:=(M.set i (at_ M c)).set c (at_ M i)
theorem mW (M:List En)(i c:Nat):(sw M i c).length=M.length:=by unfold sw;simp
theorem Eb{M:List En}{i c:Nat}(hi:i<M.length)(hc:c<M.length)(j:Nat):at_ (sw M i c) j=if j=c then at_ M i else if j=i then at_ M c else at_ M j:=by
 unfold sw;rw[ml (by simpa using hc),ml hi]
theorem J3{M:List En}{i c:Nat}(hi:i<M.length)(hc:c<M.length)(ne:i≠c):(sw M i c).Perm M:=by
 have h1:=jb (gj hi) (at_ M c);have h0:=jb (gj hi) (at_ M i);rw[gw (gj hi)]at h0;have r9:(M.set i (at_ M c))[c]?=some (at_ M c):=by rw[ahG,if_neg ne];exact gj hc
 have h2:=jb r9 (at_ M i);have h3:=jb r9 (at_ M c);rw[gw r9]at h3;have h4:((M.set i (at_ M c)).eraseIdx c).Perm (M.eraseIdx i):=(abd.cons_inv (h3.symm.trans h1));exact h2.trans ((abd.cons _ h4).trans h0.symm)
theorem jk{j:Nat}(h:0<j):par j<j:=by unfold par;omega
theorem aj9{M:List En}{i:Nat}(H:Hx M i)(h0:0<i)(hi:i<M.length)(lt:En.lt (at_ M i) (at_ M (par i))):Hx (sw M i (par i)) (par i):=by
 have hu:=jk h0;have hul:par i<M.length:=by omega
 have A:=Eb hi hul;generalize hp:par i=u at*;refine⟨λj j0 jl n1 n2=> ?_,λj u0 jl j0 pj=> ?_⟩
 ·rw[mW]at jl
  have ji:j≠i:=λe=>n2 (by rw[e,hp]);rw[A,A,if_neg n2,if_neg n1,if_neg ji];by_cases e:par j=i
  ·rw[if_pos e,<-hp];exact H.b j h0 jl j0 e
  rw[if_neg e];exact H.a j j0 jl ji e
 rw[mW]at jl;have pu:=jk u0;have hpu:En.le (at_ M (par u)) (at_ M u):=H.a u u0 hul (by omega) (by omega);rw[A,A,if_neg (by omega),if_neg (by omega)];have ju:j≠u:=by have:=jk j0;omega
 rw[if_neg ju];by_cases e:j=i
 ·rw[if_pos e];exact hpu
 rw[if_neg e];refine En.le_trans hpu ?_;have:=H.a j j0 jl e (by omega)
 rwa[pj]at this
theorem Z9{M:List En}{i c:Nat}(H:Hx M i)(hi:i<M.length)(c0:0<c)(hc:c<M.length)(pc:par c=i)(mn:∀j,0<j->j<M.length->par j=i->En.le (at_ M c) (at_ M j))(le:En.le (at_ M c) (at_ M i)):
  Hx (sw M i c) c/\En.le (at_ (sw M i c) (par c)) (at_ (sw M i c) c):=by
 have A:=Eb hi hc;have hic:i<c:=by have:=jk c0;omega
 refine⟨⟨λj j0 jl n1 n2=> ?_,λj _ jl j0 pj=> ?_⟩, ?_⟩
 ·rw[mW]at jl
  rw[A,A,if_neg n2,if_neg n1];by_cases e:j=i
  ·have:=jk j0
   rw[if_neg (by omega),if_pos e,e];exact H.b c (by omega) hc c0 pc
  rw[if_neg e];by_cases e2:par j=i
  ·rw[if_pos e2];exact mn j j0 jl e2
  rw[if_neg e2];exact H.a j j0 jl e e2
 ·rw[mW]at jl
  have:=jk j0;rw[A,A,pc,if_neg (by omega),if_pos rfl,if_neg (by omega),if_neg (by omega)];have:=H.a j j0 jl (by omega) (by omega)
  rwa[pj]at this
 rw[A,A,pc,if_neg (by omega),if_pos rfl,if_pos rfl];exact le
theorem aaa{M:List En}{i:Nat}(H:Hx M i)(u:0<i->En.le (at_ M (par i)) (at_ M i))(d:∀j,0<j->j<M.length->par j=i->En.le (at_ M i) (at_ M j)):Ao M:=λj j0 jl=>by
 by_cases e:j=i
 ·subst e;exact u j0
 by_cases e2:par j=i
 ·rw[e2];exact d j j0 jl e2
 exact H.a j j0 jl e e2
theorem aac{M:List En}(H:Ao M)(i:Nat):Hx M i:=⟨λj j0 jl _ _=>H j j0 jl,λj i0 jl j0 e=>by
 have h1:=H j j0 jl;have hi:par j<M.length:=by have:=jk j0;omega
 rw[e]at h1 hi;exact En.le_trans (H i i0 hi) h1⟩
theorem Z8{M:List En}(H:Ao M)(x:En):Hx (M++ [x]) M.length:=by
 have a:∀j,j<M.length->at_ (M++ [x]) j=at_ M j:=λj h=>by
  unfold at_;rw[aaZ,aaZ,ahI h]
 refine⟨λj j0 jl n1 _=> ?_,λj _ jl j0 e=> ?_⟩
 ·rw[aa9,ahp]at jl
  have:=jk j0;rw[a _ (by omega),a _ (by omega)];exact H j j0 (by omega)
 rw[aa9,ahp]at jl;have:=jk j0;omega
theorem Br{M:List En}(H:Ao M):Ao M.dropLast:=λj j0 jl=>by
 have a:∀j,j<M.dropLast.length->at_ M.dropLast j=at_ M j:=λj h=>by
  unfold at_;rw[aaZ,aaZ,alx,if_pos (by simpa using h)]
 have:=jk j0;rw[a _ (by omega),a _ jl];exact H j j0 (by rw[ac2]at jl;omega)
theorem afj{M:List En}(H:Ao M){i:Nat}(hi:i<M.length)(x:En):Hx (M.set i x) i:=by
 have A:=ml hi x;have Z:=aac H i;refine⟨λj j0 jl n1 n2=> ?_,λj i0 jl j0 e=> ?_⟩
 ·rw[aa8]at jl
  rw[A,A,if_neg n2,if_neg n1];exact H j j0 jl
 rw[aa8]at jl;have:=jk i0;have:=jk j0;rw[A,A,if_neg (by omega),if_neg (by omega)];exact Z.b j i0 jl j0 e
end Wh
open Go Go.dQ
theorem ib (e:Value×Value)(es:List (Value×Value))(k:Value)[Decidable (e.1=k)]:uU (e::es) k=if e.1=k then some e.2 else uU es k:=by
 unfold uU;rw[List.find?_cons];by_cases h:e.1=k
 ·rw[if_pos h];simp[h]
 rw[if_neg h];simp[h]
theorem De (k:Value):uU [] k=none:=rfl
theorem ZS (es:List (Value×Value))(k v k':Value)(hn:∀e∈es,e.1≠k):uU (es++ [(k,v)]) k'=(by classical exact if k'=k then some v else uU es k'):=by
 classical
 induction es with
 |nil=>
  rw[List.nil_append,ib,De];by_cases h:k'=k
  ·rw[if_pos h.symm,if_pos h]
  rw[if_neg (λg=>h g.symm),if_neg h]
 |cons e es ih=>
  rw[List.cons_append,ib,ib,ih (λx hx=>hn x (aa6 _ hx))];by_cases h:e.1=k'
  ·rw[if_pos h,if_pos h,if_neg (λg=>hn e aa5 (h.trans g))]
  rw[if_neg h,if_neg h]
theorem ZP (es:List (Value×Value))(k v k':Value):uU (DN es k v) k'=(by classical exact if k'=k then some v else uU es k'):=by
 classical
 by_cases hx:∃e∈es,e.1=k
 ·rw[CS hx]
  have hk:uU es k≠none:=by
   obtain⟨e,he,hk⟩:=hx;intro g;simp only[uU,Option.map_eq_none_iff,List.find?_eq_none]at g;have:=g e he;simp[hk]at this
  clear hx
  induction es with
  |nil=>exact absurd (De k) hk
  |cons e es ih=>
   rw[aa7,ib,ib];rw[ib]at hk;by_cases h:e.1=k
   ·rw[if_pos h]
    by_cases g:k'=k
    ·rw[if_pos g,if_pos g.symm]
    rw[if_neg g,if_neg (λz=>g z.symm),if_neg (λz=>g (z.symm.trans h))]
    clear ih hk
    induction es with
    |nil=>rfl
    |cons x es ih=>
     rw[aa7,ib,ib,ih];by_cases hx:x.1=k
     ·rw[if_pos hx,if_neg (λz=>g z.symm),if_neg (λz=>g (z.symm.trans hx))]
     rw[if_neg hx]
   rw[if_neg h]at hk⊢;rw[ih hk];by_cases g:k'=k
   ·rw[if_pos g,if_pos g,if_neg (λz=>h (z.trans g))]
   rw[if_neg g,if_neg g]
 rw[CT (λe he g=>hx ⟨e,he,g⟩)];exact ZS es k v k' (λe he g=>hx ⟨e,he,g⟩)
theorem ZQ (es:List (Value×Value))(k k':Value):uU (GC es k) k'=(by classical exact if k'=k then none else uU es k'):=by
 classical
 unfold GC;induction es with
 |nil=>by_cases h:k'=k<;>simp[h,De]
 |cons e es ih=>
  rw[ahJ];by_cases h:e.1=k
  ·rw[if_neg (by simp[h]),ih,ib]
   by_cases g:k'=k
   ·rw[if_pos g,if_pos g]
   rw[if_neg g,if_neg g,if_neg (λz=>g (z.symm.trans h))]
  rw[if_pos (by simp[h]),ib,ih,ib];by_cases g:k'=k
  ·rw[if_pos g,if_pos g,if_neg (λz=>h (z.trans g))]
  rw[if_neg g,if_neg g]
def Ak (a b:Int):Int:=if a<b then-1 else if b<a then 1 else 0
theorem Bo (a:Int):aK aaY 238 [DE DD a] vz [] (λv H=>v= .bool false/\H= []):=by
 refine af func238 rfl ntmps238 rfl ?_;intro F _;refine bD ?_;refine Rt [] results238 ?_;exact⟨by rw[decide_eq_true rfl];rfl,rfl⟩
theorem Gr (a b:Int):aK aaY 167 [DE DD a,DE DD b] vz [] (λv H=>v=DE DD (Ak a b)/\H= []):=by
 unfold Ak;refine af func167 rfl ntmps167 rfl ?_;intro F _;refine ba ?_;refine zl Aq (Bo a) .nil DA ?_;refine aY ?_;refine zl Aq (Bo b) .nil DA ?_;refine cC ?_;refine bn ?_;refine aA rfl ?_ ?_
 ·intro h1
  replace h1:=aG h1;refine ba ?_;refine Rt [] results167 ?_;exact⟨by rw[if_pos (by omega)],rfl⟩
 intro h1;replace h1:=aG h1;refine cY ?_;refine aA rfl ?_ ?_
 ·intro h2
  replace h2:=aG h2;refine ba ?_;refine Rt [] results167 ?_;exact⟨by rw[if_neg (by omega),if_pos (by omega)],rfl⟩
 intro h2;replace h2:=aG h2;refine bA ?_;refine Rt [] results167 ?_;exact⟨by rw[if_neg (by omega),if_neg (by omega)],rfl⟩
theorem uO (a:Int):aK aaY 239 [DE DB a] vz [] (λv H=>v= .bool false/\H= []):=by
 refine af func239 rfl ntmps239 rfl ?_;intro F _;refine bD ?_;refine Rt [] results239 ?_;exact⟨by rw[decide_eq_true rfl];rfl,rfl⟩
theorem zM (a b:Int):aK aaY 168 [DE DB a,DE DB b] vz [] (λv H=>v=DE DD (Ak a b)/\H= []):=by
 unfold Ak;refine af func168 rfl ntmps168 rfl ?_;intro F _;refine ba ?_;refine zl Aq (uO a) .nil DA ?_;refine aY ?_;refine zl Aq (uO b) .nil DA ?_;refine cC ?_;refine bn ?_;refine aA rfl ?_ ?_
 ·intro h1
  replace h1:=aG h1;refine ba ?_;refine Rt [] results168 ?_;exact⟨by rw[if_pos (by omega)],rfl⟩
 intro h1;replace h1:=aG h1;refine cY ?_;refine aA rfl ?_ ?_
 ·intro h2
  replace h2:=aG h2;refine ba ?_;refine Rt [] results168 ?_;exact⟨by rw[if_neg (by omega),if_pos (by omega)],rfl⟩
 intro h2;replace h2:=aG h2;refine bA ?_;refine Rt [] results168 ?_;exact⟨by rw[if_neg (by omega),if_neg (by omega)],rfl⟩
theorem aeY (s x y:Int)(a:Nat):aK aaY 166 [.slice (some ⟨a,0,none⟩) 2 2] (In (ag a 3 [DE DD x,DE DD y])) [] (λv H=>v=DE DD (if x=0 then y else x)/\H= []):=by
 refine af func166 rfl ntmps166 rfl ?_;intro F au;refine gQ ?_;refine Lo (ι:=Nat) (FZ [2,1,5,1,8,9]) (λi=>i<=2/\(1<=i->x=0)/\(2<=i->y=0)) (λi=> [(8,DE DD i)]) (λi=> []) (λi=>2-i) (0) ⟨by omega,by omega,by omega⟩ ?_;rintro i hI;obtain⟨g1,g2,g3⟩:=hI;refine bj ?_;refine av ?_;by_cases h0:i=0
 ·subst h0
  refine bA ?_;refine Li (Ix lp) ?_;refine cY ?_;refine aA rfl ?_ ?_
  ·intro h2
   replace h2:=aG h2;refine bD ?_;refine Rt [] results166 ?_;exact⟨by rw[if_neg (by omega)],rfl⟩
  intro h2;replace h2:=aG h2;refine bA ?_;refine aB ?_;refine Ro (1) (⟨by omega,λ_=>by omega,by omega⟩) (by omega)
 by_cases h1:i=1
 ·subst h1
  refine bA ?_;refine Li (Ix lp) ?_;refine cY ?_;refine aA rfl ?_ ?_
  ·intro h2
   replace h2:=aG h2;refine bD ?_;refine Rt [] results166 ?_;exact⟨by rw[if_pos (g2 (by omega))],rfl⟩
  intro h2;replace h2:=aG h2;refine bA ?_;refine aB ?_;refine Ro (2) (⟨by omega,by omega,λ_=>by omega⟩) (by omega)
 refine cM ?_;refine bD ?_;refine Rt [] results166 ?_;exact⟨by rw[if_pos (g2 (by omega)),g3 (by omega)],rfl⟩
def eN (e:En):FV:= [DE DB e.h,DE DD e.ex,DE DB e.tu]
def enV (e:En):Value:= .agg (eN e).toArray
def G0 (a b:En):Int:=if Ak (a.ex:Int) (b.ex:Int)=0 then Ak (a.tu:Int) (b.tu:Int)else Ak (a.ex:Int) (b.ex:Int)
theorem oQ (a b:En):G0 a b<0↔En.lt a b:=by
 unfold G0 Ak En.lt;split<;>(repeat' split)<;>(try split at*)<;>omega
theorem uA (a b:En):aK aaY 116 [enV a,enV b] vz [] (λv H=>v=DE DD (G0 a b)/\H= []):=by
 unfold enV eN;refine af func116 rfl ntmps116 rfl ?_;intro F _;refine aw ?_;refine Lp (oB λb1=> ?_);refine Lp (oB λb2=> ?_);refine bn ?_;refine av ?_;refine iL 13 mix (.cons .here (.cons .here .nil)) λF1 jq bV aI=> ?_;obtain⟨q1,q2,_⟩:=bV;refine aY ?_;refine Tp (oZ (Aq (n:=167)) (Gr (a.ex:Int) (b.ex:Int)) .nil DA ?_);refine aY ?_;refine Tp (oZ (Aq (n:=168)) (zM (a.tu:Int) (b.tu:Int)) .nil DA ?_);refine Tp (oT gk λb3=> ?_);refine Tp (oZ (Aq (n:=166)) (aeY 0 (Ak (a.ex:Int) (b.ex:Int)) (Ak (a.tu:Int) (b.tu:Int)) _) .nil (λ_ le au=>au.1) ?_);refine aw ?_;refine gG aI ?_;refine bn ?_;refine Rt [] results116 ?_;exact⟨rfl,rfl⟩
def Jm (a:FX)(n c mb tn:Nat):FV:= [.slice a n c, .map (some mb),DE DB tn]
def hv (h:Nat):Value:=DE DB h
def iv (i:Nat):Value:=DE DD i
theorem tZ (w n c mb tn i:Nat)(a:FX)(x:En)(cs:FV)(es:List (Value×Value))(hi:i<n)(hc:n*3<=cs.length)(ha:a.isSome=true):
  aK aaY 227 [DC w,DE DD i,enV x] (In (ag w 200 (Jm a n c mb tn))) [own a c 202 3 cs,mq (.int .u64) mb es]
   (λv H=>v= .tuple #[]/\H= [own a c 202 3 (dq cs (i*3) (eN x)),mq (.int .u64) mb (DN es (hv x.h) (iv i))]):=by
 unfold enV;refine af func227 rfl ntmps227 rfl ?_;rintro F hw;unfold Jm at hw;refine aw ?_;refine Lp (oB λb1=> ?_);refine aw ?_;refine av ?_;refine gT false mix ?_;refine bA ?_;refine Ti (Ix iN) ?_;refine Tp (oSON vE ?_ (vs:=eN x) (h1:=by simp[eN,Value.oneCell']) (hj:=by show _+3<=_;omega) (h0:=by show 0<3;omega));unfold eN;refine aw ?_;refine iL 8 mix (.cons .here .nil) λF1 jq bV aI=> ?_;obtain⟨q1,_⟩:=bV;replace hw:=In.mono hw jq;refine bL ?_;refine Tp (oQi T.qJ ?_);refine gG aI ?_;refine Tn ?_;refine j5 [own a c 202 3 (dq cs (i*3) (eN x)),mq (.int .u64) mb (DN es (hv x.h) (iv i))] results227 ?_;exact⟨rfl,rfl⟩
namespace Wh
def Nd (M:List En):Prop:=(M.map En.h).Nodup
def QB (es:List (Value×Value))(pl:Nat->FW):Prop:=∀h,uU es (hv h)=(pl h).map iv
def ie (pl:Nat->FW)(h j:Nat):Nat->FW:=λx=>if x=h then some j else pl x
def del (pl:Nat->FW)(h:Nat):Nat->FW:=λx=>if x=h then none else pl x
theorem Cq{a b:Nat}:hv a=hv b↔a=b:=by
 unfold hv;constructor
 ·intro h;injection h with _ h;omega
 intro h;rw[h]
theorem QB.ie{es:List (Value×Value)}{pl:Nat->FW}(R:QB es pl)(h j:Nat):QB (DN es (hv h) (iv j)) (ie pl h j):=λx=>by
 rw[ZP];unfold Wh.ie;by_cases e:x=h
 ·rw[if_pos (Cq.2 e),if_pos e];rfl
 rw[if_neg (λg=>e (Cq.1 g)),if_neg e];exact R x
theorem QB.del{es:List (Value×Value)}{pl:Nat->FW}(R:QB es pl)(h:Nat):QB (GC es (hv h)) (del pl h):=λx=>by
 rw[ZQ];unfold Wh.del;by_cases e:x=h
 ·rw[if_pos (Cq.2 e),if_pos e];rfl
 rw[if_neg (λg=>e (Cq.1 g)),if_neg e];exact R x
theorem yc{M:List En}(N:Nd M){j k:Nat}(hj:j<M.length)(hk:k<M.length)(e:(at_ M j).h=(at_ M k).h):j=k:=by
 have h1:=gj hj;have h2:=gj hk;exact iP N (x:=(at_ M j).h) (by rw[abf,h1];rfl) (by rw[abf,h2,e];rfl)
theorem j9{M L:List En}(p:L.Perm M)(N:Nd M):Nd L:=(p.map En.h).nodup_iff.2 N
structure XX (M:List En)(i:Nat)(pl:Nat->FW):Prop where
 a:∀j,j<M.length->j≠i->pl (at_ M j).h=some j
 b:∀h,pl h≠none->∃k,k<M.length/\(at_ M k).h=h
structure xb (M:List En)(pl:Nat->FW):Prop where
 a:∀j,j<M.length->pl (at_ M j).h=some j
 b:∀h,pl h≠none->∃k,k<M.length/\(at_ M k).h=h
theorem XX.sw{M:List En}{i c:Nat}{pl:Nat->FW}(P:XX M i pl)(N:Nd M)(hi:i<M.length)(hc:c<M.length)(ne:i≠c):XX (sw M i c) c (ie pl (at_ M c).h i):=by
 have A:=Eb hi hc;refine⟨λj jl n=> ?_,λh g=> ?_⟩
 ·rw[mW]at jl
  rw[A,if_neg n];unfold ie;by_cases e:j=i
  ·rw[if_pos e,if_pos rfl,e]
  rw[if_neg e,if_neg (λz=>n (yc N jl hc z))];exact P.a j jl e
 unfold ie at g;rw[mW];by_cases e:h=(at_ M c).h
 ·exact⟨i,hi,by rw[A,if_neg ne,if_pos rfl,e]⟩
 rw[if_neg e]at g;obtain⟨k,k1,k2⟩:=P.b h g;by_cases e1:k=i
 ·exact⟨c,hc,by rw[A,if_pos rfl,<-e1,k2]⟩
 have e2:k≠c:=λz=>e (by rw[<-k2,z]);exact⟨k,k1,by rw[A,if_neg e2,if_neg e1,k2]⟩
theorem XX.done{M:List En}{i:Nat}{pl:Nat->FW}(P:XX M i pl)(N:Nd M)(hi:i<M.length):xb M (ie pl (at_ M i).h i):=by
 refine⟨λj jl=> ?_,λh g=> ?_⟩
 ·unfold ie
  by_cases e:j=i
  ·rw[if_pos (by rw[e]),e]
  rw[if_neg (λz=>e (yc N jl hi z))];exact P.a j jl e
 unfold ie at g;by_cases e:h=(at_ M i).h
 ·exact⟨i,hi,e.symm⟩
 rw[if_neg e]at g;exact P.b h g
theorem xb.none{M:List En}{pl:Nat->FW}(P:xb M pl){h:Nat}(n:∀x∈M,x.h≠h):pl h=none:=by
 cases e:pl h with
 |none=>rfl
 |some j=>
  obtain⟨k,k1,k2⟩:=P.b h (by rw[e];simp);exact absurd k2 (n _ (aa3 (gj k1)))
theorem xb.at{M:List En}{pl:Nat->FW}(P:xb M pl){x:En}(hx:x∈M):∃k,k<M.length/\at_ M k=x/\pl x.h=some k:=by
 obtain⟨k,hk,e⟩:=acS hx;have:at_ M k=x:=by
  have:=gj hk;rw[aa0 hk,e]at this;exact(Option.some.inj this).symm
 exact⟨k,hk,this,by rw[<-this];exact P.a k hk⟩
def cells (M:List En)(sp:FV):FV:=M.flatMap eN++sp
theorem mj:∀x,(eN x).length=3:=λ_=>rfl
theorem PC (M:List En)(sp:FV):(cells M sp).length=M.length*3+sp.length:=by
 unfold cells;rw[aa9]
 congr 1
 induction M with
 |nil=>rfl
 |cons a l ih=>rw[ahw,aa9,ih,mj,abu];omega
theorem eD (M:List En):(M.flatMap eN).length=M.length*3:=by
 have:=PC M [];unfold cells at this;simpa using this
theorem iX:∀{M:List En} {j:Nat} (x:En),j<M.length->dq (M.flatMap eN) (j*3) (eN x)=(M.set j x).flatMap eN
 |a::M,0,x,_=>by
  rw[ahw,mO (by rw[aa9,mj,mj];omega),List.set_cons_zero,ahw];rfl
 |a::M,j+1,x,h=>by
  have ih:=iX (M:=M) (j:=j) x (by simpa using h);have hl:=eD M;have h2:j<M.length:=by simpa using h
  rw[mO (by rw[hl,mj];omega)]at ih;rw[ahw,mO (by rw[aa9,mj,mj,hl];omega),List.set_cons_succ,ahw,<-ih];rw[show(j+1)*3=j*3+3 by omega,show j*3+3+(eN x).length=j*3+(eN x).length+3 by omega];rfl
theorem iE{M:List En}{j:Nat}(h:j<M.length):((M.flatMap eN).drop (j*3)).take 3=eN (at_ M j):=by
 have hl:=eD M;apply ah6;intro k;rw[List.getElem?_take];split
 ·next hk=>
  rw[List.getElem?_drop];have h3:k<(eN (at_ M j)).length:=hk;rw[bq mj (gj h) (aa0 h3)];exact(aa0 h3).symm
 next hk=>exact(abb (by rw[mj];omega)).symm
theorem RE{M:List En}{i c:Nat}(y:En)(hi:i<M.length)(hc:c<M.length)(ne:i≠c):(M.set i y).set i (at_ M c)=(sw M i c).set c (at_ M c):=by
 unfold sw;rw[ade,ade];have h:(M.set i (at_ M c))[c]?=some (at_ M c):=by rw[ahG,if_neg ne];exact gj hc
 exact(gw h).symm
end Wh
open Go Go.dQ Go.Proofs.YtcbcjolpdljbiaaGreat.Wh
theorem Qh{P:Program}{n:Nat}{ds:Dx}{F:dM}{σ:aT}{o:Oper}{t yt:TypeId}{x y:Operand}{i:Nat}(hi:i<4611686018427387904)(ho:o.op= .binOp .quo t x y yt:=by exact rfl)(hx:bC σ x=some (DE DD ((i:Int)-1)):=by exact rfl)(hy:bC σ y=some (DE DD 2):=by exact rfl):Yv P n ds F σ o (DE DD (par i)):=
 ya ho hx hy (by
  show(if(2:Int)=0 then none else some (IntKind.i64.wrap (((i:Int)-1).tdiv 2)))=_;rw[if_neg (by decide)];have:((i:Int)-1).tdiv 2=(par i:Int):=by
   unfold par;rcases i with _|i
   ·rfl
   rw[show(((i+1:Nat):Int)-1)=(i:Int) by omega,Nat.add_sub_cancel,Int.tdiv_eq_ediv_of_nonneg (by omega)];omega
  rw[this,wrap_i64 (by unfold par;omega)])
structure SI (L M:List En)(i:Nat)(e:En)(es:List (Value×Value))(pl:Nat->FW):Prop where
 hx:Hx M i
 pm:M.Perm L
 px:XX M i pl
 pr:QB es pl
 ln:M.length=L.length
 lt:i<M.length
 e:at_ M i=e
structure ak3 (L M:List En)(es:List (Value×Value)):Prop where
 hp:Ao M
 pm:M.Perm L
 ok:∃pl,QB es pl/\xb M pl
theorem za (w c mb tn i:Nat)(a:FX)(L:List En)(es:List (Value×Value))(pl:Nat->FW)(hi:i<L.length)(hx:Hx L i)(N:Nd L)(hp:XX L i pl)(R:QB es pl)(hm:L.length<4611686018427387904)(ha:a.isSome=true):
  aK aaY 241 [DC w,DE DD i] vz [ag w 200 (Jm a L.length c mb tn),own a c 202 3 (L.flatMap eN),mq (.int .u64) mb es]
   (λv H=>v= .tuple #[]/\∃M es',H= [ag w 200 (Jm a L.length c mb tn),own a c 202 3 (M.flatMap eN),mq (.int .u64) mb es']/\ak3 L M es'):=by
 have rN:=eD L;have hft:=iE hi;unfold Jm;have abT:L.set i (at_ L i)=L:=gw (gj hi);obtain⟨e,he⟩:∃e,e=at_ L i:=⟨_,rfl⟩;rw[<-he]at hft abT;refine af func241 rfl ntmps241 rfl ?_;intro F _;refine bA ?_;refine Li (Ix iN) ?_;refine aw ?_;refine Lp (oA yj λb1=> ?_);refine Lp (gE vE ?_ (h1:=by simp[eN,Value.oneCell']));refine ba ?_;refine Li ((Qh (i:=i) (by omega))) ?_;refine bn ?_;refine cG (ι:=List En×Nat×List En×List (Value×Value)×(Nat->FW)) (FZ [1,1,5,1,17,28]) (λs=>SI L s.1 s.2.1 e s.2.2.2.1 s.2.2.2.2/\(∃z,s.2.2.1=s.1.set s.2.1 z)/\(0<s.2.1->En.le (at_ s.1 (par s.2.1)) (at_ s.1 s.2.1))) (λs=> [(1,DE DD s.2.1)]) (λs=> [ag b1 202 (eN e),ag w 200 [.slice a L.length c, .map (some mb),DE DB tn],own a c 202 3 (s.2.2.1.flatMap eN),mq (.int .u64) mb s.2.2.2.1]) ?_ ?_
 ·refine oW ?_
  refine Lo (ι:=List En×Nat×List En×List (Value×Value)×(Nat->FW)) (FZ [1,1,5,1,17,28]) (λs=>SI L s.1 s.2.1 e s.2.2.2.1 s.2.2.2.2/\∃z,s.2.2.1=s.1.set s.2.1 z) (λs=> [(1,DE DD s.2.1),(5,DE DD (par s.2.1))]) (λs=> [ag b1 202 (eN e),ag w 200 [.slice a L.length c, .map (some mb),DE DB tn],own a c 202 3 (s.2.2.1.flatMap eN),mq (.int .u64) mb s.2.2.2.1]) (λs=>s.2.1) ((L,i,L,es,pl)) ⟨⟨hx,abd.refl _,hp,R,rfl,hi,he.symm⟩,e,abT.symm⟩ ?_;rintro⟨M,k,P,DV,p1⟩ hI
  try dsimp only at hI⊢
  obtain⟨S,z,hP⟩:=hI;have hk:=S.lt;have BM:=S.ln;have hPl:P.length=M.length:=by rw[hP,aa8]
  have hfp:=eD P;have NM:=j9 S.pm N;by_cases h0:0<k
  ·have hpk:=jk h0
   have hft2:=iE (M:=P) (j:=par k) (by omega);have uX:at_ P (par k)=at_ M (par k):=by rw[hP,ml hk,if_neg (by omega)]
   rw[uX]at hft2;have hor:=oQ e (at_ M (par k));refine aw ?_;refine av ?_;refine iL 13 mix (.cons .here (.cons .here (.cons .here .nil))) λF1 jq bV aI=> ?_;obtain⟨q1,q2,q3,_⟩:=bV;have r3:=bK q3;refine bj ?_;refine zt 19 ?_;refine bA ?_;refine Ti (Ix iN) ?_;refine aw ?_;refine Tp (oZ (Aq (n:=116)) (uA e (at_ M (par k))) .nil DA ?_);refine aw ?_;refine gG aI ?_;refine bn ?_;by_cases ct:En.lt e (at_ M (par k))
   ·refine eJ ?_ (e:=by exact decide_eq_true (hor.2 ct))
    refine cL ?_;refine Li (Ix iN) ?_;refine aw ?_;refine zl Aq (tZ w L.length c mb tn k a (at_ M (par k)) (P.flatMap eN) DV (by omega) (by omega) ha) (.cons (.t2 .here) (.cons (.t2 .here) .nil)) (λ_ le au=>au.nth 1 rfl) ?_;rw[Wh.iX _ (by omega)];refine bD ?_;refine Li ((Qh (i:=par k) (by omega))) ?_;refine aw ?_;refine aB ?_;refine Ro ((sw M k (par k),par k,P.set k (at_ M (par k)),DN DV (hv (at_ M (par k)).h) (iv k),ie p1 (at_ M (par k)).h k)) (⟨⟨aj9 S.hx h0 hk (by rw[S.e];exact ct),(J3 hk (by omega) (by omega)).trans S.pm,S.px.sw NM hk (by omega) (by omega),S.pr.ie _ _,(by rw[mW];exact BM),(show par k<(sw M k (par k)).length by rw[mW];omega),(by rw[Eb hk (by omega),if_pos rfl];exact S.e)⟩,at_ M (par k),(by rw[hP];exact RE z hk (by omega) (by omega))⟩) ((by dsimp only;omega))
   refine cM ?_ (e:=by exact decide_eq_false (λg=>ct (hor.1 g)));refine aY ?_;refine Me ((M,k,P,DV,p1)) (⟨S,⟨z,hP⟩,λ_=>(by rw[S.e];exact En.vS ct)⟩)
  obtain rfl:k=0:=by omega
  refine aw ?_;refine av ?_;refine iL 13 mix (.cons .here (.cons .here (.cons .here .nil))) λF2 zU eP dE=> ?_;obtain⟨q1,q2,q3,_⟩:=eP;refine bj ?_;refine zf 19 ?_ (e:=by rfl);refine bD ?_;refine gG dE ?_;refine bL ?_;refine Me ((M,0,P,DV,p1)) (⟨S,⟨z,hP⟩,λh=>absurd h (Nat.lt_irrefl 0)⟩)
 rintro s hI;obtain⟨M0,k0,P0,es0,p0⟩:=s
 try dsimp only at hI⊢
 obtain⟨S0,z0,hu0⟩:=hI;refine av ?_;refine cG (ι:=List En×Nat×List En×List (Value×Value)×(Nat->FW)) (FZ [1,1,6,1,45,62]) (λs=>(SI L s.1 s.2.1 e s.2.2.2.1 s.2.2.2.2/\(∃z,s.2.2.1=s.1.set s.2.1 z)/\(0<s.2.1->En.le (at_ s.1 (par s.2.1)) (at_ s.1 s.2.1)))/\∀j,0<j->j<s.1.length->par j=s.2.1->En.le e (at_ s.1 j)) (λs=> [(1,DE DD s.2.1)]) (λs=> [ag b1 202 (eN e),ag w 200 [.slice a L.length c, .map (some mb),DE DB tn],own a c 202 3 (s.2.2.1.flatMap eN),mq (.int .u64) mb s.2.2.2.1]) ?_ ?_
 ·refine oW ?_
  refine Lo (ι:=List En×Nat×List En×List (Value×Value)×(Nat->FW)) (FZ [1,1,6,1,45,62]) (λs=>SI L s.1 s.2.1 e s.2.2.2.1 s.2.2.2.2/\(∃z,s.2.2.1=s.1.set s.2.1 z)/\(0<s.2.1->En.le (at_ s.1 (par s.2.1)) (at_ s.1 s.2.1))) (λs=> [(1,DE DD s.2.1)]) (λs=> [ag b1 202 (eN e),ag w 200 [.slice a L.length c, .map (some mb),DE DB tn],own a c 202 3 (s.2.2.1.flatMap eN),mq (.int .u64) mb s.2.2.2.1]) (λs=>L.length-s.2.1) ((M0,k0,P0,es0,p0)) ⟨S0,z0,hu0⟩ ?_;rintro⟨M,k,P,DV,p1⟩ hI
  try dsimp only at hI⊢
  obtain⟨S,⟨z,hP⟩,hu⟩:=hI;have hk:=S.lt;have BM:=S.ln;have hPl:P.length=M.length:=by rw[hP,aa8]
  have hfp:=eD P;have NM:=j9 S.pm N;refine cY ?_;refine av ?_;refine az (t:=6) (v':=(DE DD (2*k+1:Nat))) rfl (by rfl) ?_;refine cG (ι:=Bool) (FZ [48,27]) (λt=>t=decide (2*k+2<L.length/\En.lt (at_ M (2*k+2)) (at_ M (2*k+1)))) (λt=> [(74, .bool t)]) (λt=> [ag b1 202 (eN e),ag w 200 [.slice a L.length c, .map (some mb),DE DB tn],own a c 202 3 (P.flatMap eN),mq (.int .u64) mb DV]) ?_ ?_
  ·by_cases h2:2*k+2<L.length
   ·have f1:=iE (M:=P) (j:=2*k+2) (by omega)
    have f2:=iE (M:=P) (j:=2*k+1) (by omega);rw[show at_ P (2*k+2)=at_ M (2*k+2) by rw[hP,ml hk,if_neg (by omega)]]at f1;rw[show at_ P (2*k+1)=at_ M (2*k+1) by rw[hP,ml hk,if_neg (by omega)]]at f2;have hor:=oQ (at_ M (2*k+2)) (at_ M (2*k+1));refine iL 26 mix (.cons .here (.cons .here (.cons .here .nil))) λF3 Xg rX fA=> ?_;obtain⟨q1,q2,q3,_⟩:=rX;have r3:=bK q3;refine cu ?_;refine zt 56 ?_;refine bA ?_;refine Ti (Ix iN (j:=2*k+2) (hj:=by omega)) ?_;refine bA ?_;refine Ti (Ix iN (j:=2*k+1) (hj:=by omega)) ?_;refine aw ?_;refine Tp (oZ (Aq (n:=116)) (uA (at_ M (2*k+2)) (at_ M (2*k+1))) .nil DA ?_);refine aw ?_;refine gG fA ?_;refine aw ?_;refine Tn ?_;refine Me ((decide (G0 (at_ M (2*k+2)) (at_ M (2*k+1))<0))) ((decide_eq_decide.2 ⟨λg=>⟨h2,hor.1 g⟩,λg=>hor.2 g.2⟩))
   refine iL 26 mix (.cons .here (.cons .here (.cons .here .nil))) λF4 le4 Mc sx=> ?_;obtain⟨q1,q2,q3,_⟩:=Mc;refine cu ?_;refine zf 56 ?_;refine rS ?_;refine gG sx ?_;refine aw ?_;refine Tn ?_;refine Me (false) ((by rw[decide_eq_false (λg=>h2 g.1)]))
  rintro t ht;refine cG (ι:=Nat) [75,76,6] (λd=>(2*k+1<=d/\d<=2*k+2)/\∀j,0<j->j<M.length->par j=k->d<M.length/\En.le (at_ M d) (at_ M j)) (λd=> [(6,DE DD d)]) (λd=> [ag b1 202 (eN e),ag w 200 [.slice a L.length c, .map (some mb),DE DB tn],own a c 202 3 (P.flatMap eN),mq (.int .u64) mb DV]) ?_ ?_
  ·refine aA rfl ?_ ?_
   ·intro hc
    replace hc:=aG hc;rw[hc]at ht;have qg:=of_decide_eq_true ht.symm;refine aY ?_;refine aB ?_;refine Me ((2*k+2)) (⟨⟨(by omega),(by omega)⟩,λj j0 jl pj=>⟨(by omega),(by have hj:j=2*k+1\/j=2*k+2:=(by unfold par at pj;omega);rcases hj with rfl|rfl;exact En.le_of_lt qg.2;exact En.le_refl _)⟩⟩)
   intro hc;replace hc:=aG hc;rw[hc]at ht;have qg:=of_decide_eq_false ht.symm;refine aw ?_;refine Me ((2*k+1)) (⟨⟨(by omega),(by omega)⟩,λj j0 jl pj=>⟨(by unfold par at pj;omega),(by have hj:j=2*k+1\/j=2*k+2:=(by unfold par at pj;omega);rcases hj with rfl|rfl;exact En.le_refl _;exact En.vS λg=>qg ⟨(by omega),g⟩)⟩⟩)
  rintro d hd;refine aw ?_;refine av ?_;by_cases hdn:d<L.length
  ·have f1:=iE (M:=P) (j:=d) (by omega)
   rw[show at_ P d=at_ M d by rw[hP,ml hk,if_neg (by omega)]]at f1;have hor:=oQ e (at_ M d);refine iL 19 mix (.cons .here (.cons .here (.cons .here .nil))) λF5 le5 Yh wC=> ?_;obtain⟨q1,q2,q3,_⟩:=Yh;have r3:=bK q3;refine cY ?_;refine zf 84 ?_;refine bA ?_;refine Ti (Ix iN) ?_;refine aw ?_;refine Tp (oZ (Aq (n:=116)) (uA e (at_ M d)) .nil DA ?_);refine bn ?_;refine gG wC ?_;refine aw ?_;by_cases ct:En.lt e (at_ M d)
   ·refine eJ ?_ (e:=by exact decide_eq_true (hor.2 ct))
    refine ba ?_;refine Me ((M,k,P,DV,p1)) (⟨⟨S,⟨z,hP⟩,hu⟩,λj j0 jl pj=>En.le_trans (En.le_of_lt ct) (hd.2 j j0 jl pj).2⟩)
   refine cM ?_ (e:=by exact decide_eq_false (λg=>ct (hor.1 g)));have hle:=En.vS ct;have hpd:par d=k:=by unfold par;omega
   have hdw:=Z9 S.hx hk (c:=d) (by omega) (by omega) hpd (λj j0 jl pj=>(hd.2 j j0 jl pj).2) (by rw[S.e];exact hle);refine bD ?_;refine Li (Ix iN) ?_;refine aw ?_;refine zl Aq (tZ w L.length c mb tn k a (at_ M d) (P.flatMap eN) DV (by omega) (by omega) ha) (.cons (.t2 .here) (.cons (.t2 .here) .nil)) (λ_ le au=>au.nth 1 rfl) ?_;rw[Wh.iX _ (by omega)];refine bA ?_;refine Ro ((sw M k d,d,P.set k (at_ M d),DN DV (hv (at_ M d).h) (iv k),ie p1 (at_ M d).h k)) (⟨⟨hdw.1,(J3 hk (by omega) (by omega)).trans S.pm,S.px.sw NM hk (by omega) (by omega),S.pr.ie _ _,(by rw[mW];exact BM),(show d<(sw M k d).length by rw[mW];omega),(by rw[Eb hk (by omega),if_pos rfl];exact S.e)⟩,⟨at_ M d,(by rw[hP];exact RE z hk (by omega) (by omega))⟩,λ_=>hdw.2⟩) ((by dsimp only;omega))
  refine iL 19 mix (.cons .here (.cons .here (.cons .here .nil))) λF6 le6 hin6 akZ=> ?_;obtain⟨q1,q2,q3,_⟩:=hin6;refine cY ?_;refine zt 84 ?_;refine bO ?_;refine gG akZ ?_;refine bL ?_;refine Me ((M,k,P,DV,p1)) (⟨⟨S,⟨z,hP⟩,hu⟩,λj j0 jl pj=>absurd (hd.2 j j0 jl pj).1 (by omega)⟩)
 rintro s hI;obtain⟨M,k,P,DV,p1⟩:=s
 try dsimp only at hI⊢
 obtain⟨⟨S,⟨z,hP⟩,hu⟩,hch⟩:=hI;have hk:=S.lt;have BM:=S.ln;have hPl:P.length=M.length:=by rw[hP,aa8]
 have hfp:=eD P;have NM:=j9 S.pm N;refine aY ?_;refine zl Aq (tZ w L.length c mb tn k a e (P.flatMap eN) DV (by omega) (by omega) ha) (.cons (.t2 .here) (.cons (.t2 .here) .nil)) (λ_ le au=>au.nth 1 rfl) ?_;rw[Wh.iX _ (by omega)];have hPM:P.set k e=M:=by
  rw[hP,ade];exact gw (by rw[gj hk,S.e])
 rw[hPM];refine aB ?_;refine j5 [ag w 200 [.slice a L.length c, .map (some mb),DE DB tn],own a c 202 3 (M.flatMap eN),mq (.int .u64) mb (DN DV (hv e.h) (iv k))] results241 ?_;refine⟨rfl,M,DN DV (hv e.h) (iv k),rfl,aaa S.hx hu (by rw[S.e];exact hch),S.pm,ie p1 e.h k,S.pr.ie _ _, ?_⟩;have:=S.px.done NM hk
 rwa[S.e]at this
structure P9 where
 a:FX
 c:Nat
 mb:Nat
 es:List (Value×Value)
structure sP (M:List En)(y:P9)(tn:Nat):Prop where
 hp:Ao M
 nd:Nd M
 pl:∃pl,QB y.es pl/\xb M pl
 tu:∀x∈M,x.tu<=tn
 td:(M.map En.tu).Nodup
 sm:M≠ []->y.a.isSome=true
 ln:M.length<2147483648
 cp:M.length<=y.c
 ex:∀x∈M,0<x.ex
def zN (w:Nat)(y:P9)(M:List En)(tn:Nat):Dz:= [ag w 200 (Jm y.a M.length y.c y.mb tn),own y.a y.c 202 3 (M.flatMap eN),mq (.int .u64) y.mb y.es]
def Wl (w:Nat)(E:List En)(tn:Nat):aa:=λh=>∃y M,M.Perm E/\sP M y tn/\aF (zN w y M tn) h
def fi (E:List En)(h:Nat):List En:=E.filter λx=>decide (x.h≠h)
def lT (E:List En)(h ex tn:Nat):List En:=if 0<ex then⟨h,ex,tn+1⟩::fi E h else fi E h
def qq (E:List En)(f t:Nat):List En:=if f∈E.map En.h/\f≠t then(fi E t).map λx=>if x.h=f then{x with h:=t}else x else E
theorem y9{x:En}{M L:List En}(p:(x::L).Perm M)(N:Nd M):L.Perm (fi M x.h):=by
 have n2:Nd (x::L):=j9 p N;unfold Nd at n2;rw[aa7,abg]at n2;have e:(x::L).filter (λz=>decide (z.h≠x.h))=L:=by
  rw[ahJ,if_neg (by simp),alH];intro z hz;simp only[decide_eq_true_eq];intro g;exact n2.1 (abk.2 ⟨z,hz,g⟩)
 have:=p.filter (λz=>decide (z.h≠x.h));rw[e]at this;exact this
theorem Ua{M:List En}{h:Nat}(n:∀x∈M,x.h≠h):fi M h=M:=by
 unfold fi;rw[alH];intro x hx;simpa using n x hx
theorem pf{M L:List En}(p:M.Perm L)(h:Nat):(fi M h).Perm (fi L h):=p.filter _
theorem AS{M:List En}{h:Nat}:∀x∈fi M h,x∈M/\x.h≠h:=λx hx=>by
 have:=abm.1 hx;exact⟨this.1,by simpa using this.2⟩
theorem Rz{M L:List En}{tn:Nat}{x:En}(p:(x::L).Perm M)(t:∀z∈M,z.tu<=tn)(d:(M.map En.tu).Nodup):(∀z∈L,z.tu<=tn)/\(L.map En.tu).Nodup:=by
 refine⟨λz hz=>t z (p.mem_iff.1 (aa6 _ hz)), ?_⟩;have:=(p.map En.tu).nodup_iff.2 d;rw[aa7,abg]at this;exact this.2
theorem Di{M:List En}(h:0<M.length):M=M.dropLast++ [at_ M (M.length-1)]:=by
 have h1:=List.dropLast_concat_getLast (l:=M) (by intro e;rw[e]at h;cases h);have h2:M.getLast (by intro e;rw[e]at h;cases h)=at_ M (M.length-1):=by
  have:=gj (M:=M) (j:=M.length-1) (by omega);rw[List.getLast_eq_getElem,<-Option.some_inj,<-this,aa0]
 rw[<-h2];exact h1.symm
theorem ED{M:List En}{j:Nat}(h:j<M.length-1):at_ M.dropLast j=at_ M j:=by
 unfold at_;rw[aaZ,aaZ,alx,if_pos h]
theorem My{M:List En}{pl:Nat->FW}(h:0<M.length)(N:Nd M)(P:xb M pl):(at_ M (M.length-1)::M.dropLast).Perm M/\xb M.dropLast (del pl (at_ M (M.length-1)).h):=by
 have hl:=Di h;refine⟨?_,λj jl=> ?_,λk g=> ?_⟩
 ·exact(abq (l₁:= [at_ M (M.length-1)])).trans (by rw[<-hl])
 ·rw[ac2]at jl
  rw[ED jl];unfold del;rw[if_neg (λe=>by have:=yc N (by omega) (by omega) e;omega)];exact P.a j (by omega)
 unfold del at g;by_cases e:k=(at_ M (M.length-1)).h
 ·rw[if_pos e]at g;exact absurd rfl g
 rw[if_neg e]at g;obtain⟨u,u1,u2⟩:=P.b k g;have ne:u≠M.length-1:=λz=>e (by rw[<-u2,z]);exact⟨u,by rw[ac2];omega,by rw[ED (by omega)];exact u2⟩
theorem Uj{M:List En}{pl:Nat->FW}{i:Nat}(hi:i<M.length-1)(H:Ao M)(N:Nd M)(P:xb M pl):
  (at_ M i::M.dropLast.set i (at_ M (M.length-1))).Perm M/\Hx (M.dropLast.set i (at_ M (M.length-1))) i/\XX (M.dropLast.set i (at_ M (M.length-1))) i (ie (del pl (at_ M i).h) (at_ M (M.length-1)).h i):=by
 have hl:=Di (M:=M) (by omega);have hd:i<M.dropLast.length:=by rw[ac2];exact hi
 refine⟨?_,afj (Br H) hd _,λj jl n=> ?_,λk g=> ?_⟩
 ·have h0:=jb (gj hd) (at_ M.dropLast i)
  rw[gw (gj hd),ED hi]at h0;have h1:=jb (gj hd) (at_ M (M.length-1));refine(abd.cons _ h1).trans ((abd.swap _ _ _).trans ((abd.cons _ h0.symm).trans ?_));exact(abq (l₁:= [at_ M (M.length-1)])).trans (by rw[<-hl])
 ·rw[aa8,ac2]at jl
  rw[ml hd,if_neg n,ED jl];unfold ie del;rw[if_neg (λe=>by have:=yc N (by omega) (by omega) e;omega),if_neg (λe=>n (yc N (by omega) (by omega) e))];exact P.a j (by omega)
 rw[aa8,ac2];unfold ie del at g;by_cases e:k=(at_ M (M.length-1)).h
 ·exact⟨i,hi,by rw[ml hd,if_pos rfl,e]⟩
 rw[if_neg e]at g;by_cases e2:k=(at_ M i).h
 ·rw[if_pos e2]at g;exact absurd rfl g
 rw[if_neg e2]at g;obtain⟨u,u1,u2⟩:=P.b k g;have n1:u≠M.length-1:=λz=>e (by rw[<-u2,z]);have n2:u≠i:=λz=>e2 (by rw[<-u2,z]);exact⟨u,by omega,by rw[ml hd,if_neg n2,ED (by omega)];exact u2⟩
theorem aan{M:List En}(h:0<M.length):(M.flatMap eN).take ((M.length-1)*3)=M.dropLast.flatMap eN:=by
 have hl:=Di h;have h2:M.flatMap eN=M.dropLast.flatMap eN++eN (at_ M (M.length-1)):=by
  have:M.flatMap eN=(M.dropLast++ [at_ M (M.length-1)]).flatMap eN:=by rw[<-hl]
  rw[this,ahQ];simp
 have h3:=Wh.eD M.dropLast;rw[ac2]at h3;rw[h2,ald (by omega),List.take_of_length_le (by omega)]
theorem YT{M:List En}{pl:Nat->FW}(P:xb M pl)(x:En):XX (M++ [x]) M.length pl:=by
 have a:∀j,j<M.length->at_ (M++ [x]) j=at_ M j:=λj h=>by
  unfold at_;rw[aaZ,aaZ,ahI h]
 refine⟨λj jl n=> ?_,λh g=> ?_⟩
 ·rw[aa9,ahp]at jl
  rw[a j (by omega)];exact P.a j (by omega)
 obtain⟨k,k1,k2⟩:=P.b h g;exact⟨k,by rw[aa9];omega,by rw[a k k1];exact k2⟩
structure TkOk (M:List En)(h tn:Nat)(y':P9)(M':List En):Prop where
 ok:sP M' y' tn
 pm:M'.Perm (fi M h)
theorem Tt (a:FX)(m k:Nat):B8 a 0 m (0*k)=a:=by
 unfold B8;split
 ·rfl
 ·rw[Nat.zero_mul];cases a<;>simp[add_zero']
theorem vP{M:List En}(h:0<M.length):M≠ []:=λe=>by rw[e]at h;cases h
theorem uq (w:Nat)(y:P9)(M:List En)(tn h:Nat)(W:sP M y tn):
  aK aaY 194 [DC w,DE DB h] (λ_=>True) (zN w y M tn)
   (λv H=>∃y' M',v= .bool (decide (h∈M.map En.h))/\H=zN w y' M' tn/\TkOk M h tn y' M'):=by
 obtain⟨pl,R,P⟩:=W.pl;have hR:=R h;unfold hv at hR;by_cases hx:∃x∈M,x.h=h
 ·obtain⟨x,XG,hxh⟩:=hx
  obtain⟨i,hi,uX,hpl⟩:=P.at XG;rw[hxh]at hpl;rw[hpl,Option.map_some]at hR;have au:h∈M.map En.h:=abk.2 ⟨x,XG,hxh⟩;have ha:=W.sm (λe=>by rw[e]at XG;cases XG);have rN:=Wh.eD M;have BM:=W.ln;have hcp:=W.cp;have hft:=Wh.iE (M:=M) (j:=M.length-1) (by omega);rw[decide_eq_true au];unfold zN Jm;generalize hes:y.es=es at*;refine af func194 rfl ntmps194 rfl ?_;intro F _;refine cu ?_;refine Lp (X9 T.qJ ?_);refine bO ?_;rw[hR,Option.getD_some,Option.isSome_some];unfold iv;refine cu ?_;refine Lp (oQd T.qJ ?_);refine bD ?_;refine av ?_;refine az (t:=7) (v':=(DE DD (M.length-1:Nat))) rfl (by(congr 1;omega)) ?_;refine bA ?_;refine Li (Ix iN) ?_;refine aw ?_;refine Lp (oA yj λb1=> ?_);refine Lp (gE vE ?_ (h1:=by simp[eN,Value.oneCell']));refine cY ?_;refine Li (Sl 0 _ _ iN) ?_;refine bD ?_;rw[Tt,aiF,aiF];refine Hh (H':= [ag b1 202 (eN (at_ M (M.length-1))),ag w 200 [.slice y.a (M.length-1) y.c, .map (some y.mb),DE DB tn],own y.a y.c 202 3 (M.flatMap eN),mq (.int .u64) y.mb (GC es (DE DB h))]) ?_;refine ay (λ_ s=>aJ (λ_ s=>aJ (λ_ s=>bo (λ_ p=>yO p ((M.length-1)*3)) s) s) s) ?_;rw[aan (by omega)];have GB:M.dropLast.length=M.length-1:=ac2;have hfd:=Wh.eD M.dropLast;have R1:=R.del h;unfold hv at R1;have hnh:(at_ M i).h=h:=by rw[uX,hxh]
  by_cases hl:i<M.length-1
  ·obtain⟨t1,t2,t3⟩:=Uj hl W.hp W.nd P
   rw[hnh]at t3;have N2:Nd (M.dropLast.set i (at_ M (M.length-1))):=by
    have:=j9 t1 W.nd;unfold Nd at this;rw[aa7,abg]at this;exact this.2
   have S:=Rz t1 W.tu W.td;have pm:=y9 t1 W.nd;rw[hnh]at pm;have Eo:(M.dropLast.set i (at_ M (M.length-1))).length=M.length-1:=by rw[aa8,GB]
   have st:=za w y.c y.mb tn i y.a (M.dropLast.set i (at_ M (M.length-1))) (DN (GC es (DE DB h)) (hv (at_ M (M.length-1)).h) (iv i)) _ (by omega) t2 N2 t3 (R1.ie _ _) (by omega) ha;rw[Eo]at st;have hex:∀z∈M.dropLast.set i (at_ M (M.length-1)),0<z.ex:=λz hz=>W.ex z (t1.mem_iff.1 (aa6 _ hz));generalize hM2:M.dropLast.set i (at_ M (M.length-1))=M2 at*;refine eJ ?_;refine aY ?_;refine zl Aq (tZ w (M.length-1) y.c y.mb tn i y.a (at_ M (M.length-1)) (M.dropLast.flatMap eN) (GC es (DE DB h)) (by omega) (by omega) ha) (.cons (.t2 .here) (.cons (.t2 .here) .nil)) (λ_ le au=>au.nth 1 rfl) ?_;rw[Wh.iX _ (by omega),hM2];refine aY ?_;refine Lp (oC Aq rfl rfl (st) (.cons (.t3 .here) (.cons .here (.cons .here .nil))) DA ?_);rintro v H' ⟨rfl,M3,es3,rfl,S3⟩;refine bS ?_;have l3:M3.length=M.length-1:=by rw[S3.pm.length_eq,Eo]
   rw[<-l3];refine ba ?_;refine Rt [ag w 200 [.slice y.a M3.length y.c, .map (some y.mb),DE DB tn],own y.a y.c 202 3 (M3.flatMap eN),mq (.int .u64) y.mb es3] results194 ?_;refine⟨⟨y.a,y.c,y.mb,es3⟩,M3,rfl,rfl,⟨S3.hp,j9 S3.pm N2,S3.ok,λz hz=>S.1 z (S3.pm.mem_iff.1 hz),(S3.pm.map En.tu).nodup_iff.2 S.2,λ_=>ha,by omega,by show _<=y.c;omega,λz hz=>hex z (S3.pm.mem_iff.1 hz)⟩,S3.pm.trans pm⟩
  obtain rfl:i=M.length-1:=by omega
  obtain⟨t1,t2⟩:=My (by omega) W.nd P;rw[hnh]at t2;have S:=Rz t1 W.tu W.td;have pm:=y9 t1 W.nd;rw[hnh]at pm;have N2:Nd M.dropLast:=by
   have:=j9 t1 W.nd;unfold Nd at this;rw[aa7,abg]at this;exact this.2
  rw[<-GB];refine cM ?_;refine bA ?_;refine Rt [ag w 200 [.slice y.a M.dropLast.length y.c, .map (some y.mb),DE DB tn],own y.a y.c 202 3 (M.dropLast.flatMap eN),mq (.int .u64) y.mb (GC es (DE DB h))] results194 ?_;exact⟨⟨y.a,y.c,y.mb,GC es (DE DB h)⟩,M.dropLast,rfl,rfl,⟨Br W.hp,N2,⟨_,R1,t2⟩,S.1,S.2,λ_=>ha,by omega,by show _<=y.c;omega,λz hz=>W.ex z (t1.mem_iff.1 (aa6 _ hz))⟩,pm⟩
 have lP:∀x∈M,x.h≠h:=λx h1 h2=>hx ⟨x,h1,h2⟩;have au:¬h∈M.map En.h:=λg=>by
  obtain⟨x,h1,h2⟩:=abk.1 g;exact hx ⟨x,h1,h2⟩
 rw[P.none lP,Option.map_none]at hR;rw[decide_eq_false au];unfold zN Jm;generalize hes:y.es=es at*;refine af func194 rfl ntmps194 rfl ?_;intro F _;refine cu ?_;refine Lp (X9 T.qJ ?_);refine bO ?_;rw[hR,Option.getD_none,Option.isSome_none];refine bA ?_;refine Rt [ag w 200 [.slice y.a M.length y.c, .map (some y.mb),DE DB tn],own y.a y.c 202 3 (M.flatMap eN),mq (.int .u64) y.mb es] results194 ?_;exact⟨y,M,rfl,by rw[hes],W,by rw[Ua lP]⟩
structure acJ (M:List En)(h ex tn:Nat)(y':P9)(M':List En):Prop where
 ok:sP M' y' (if 0<ex then tn+1 else tn)
 pm:M'.Perm (lT M h ex tn)
theorem Ub (w:Nat)(y:P9)(M:List En)(tn h:Nat)(ex:Int)(W:sP M y tn)(he:ex<=0):
  aK aaY 173 [DC w,DE DB h,DE DD ex] (λ_=>True) (zN w y M tn)
   (λv H=>∃y' M',v= .tuple #[]/\H=zN w y' M' tn/\acJ M h 0 tn y' M'):=by
 unfold zN;refine af func173 rfl ntmps173 rfl ?_;intro F _;refine bj ?_;refine Lp (oC Aq rfl rfl (uq w y M tn h W) (.cons .here (.cons .here (.cons .here .nil))) DA ?_);rintro v H' ⟨y1,M1,rfl,rfl,T1⟩;refine bS ?_;refine bA ?_;refine eJ ?_ (e:=by exact decide_eq_true he);refine bn ?_;refine Rt0 [ag w 200 (Jm y1.a M1.length y1.c y1.mb tn),own y1.a y1.c 202 3 (M1.flatMap eN),mq (.int .u64) y1.mb y1.es] results173 ?_;exact⟨y1,M1,rfl,rfl,T1.ok,T1.pm⟩
theorem Yw (w:Nat)(y:P9)(M:List En)(tn h ex:Nat)(W:sP M y tn)(he:0<ex)(ht:tn<18446744073709551615)(hm:M.length<2147483647):
  aK aaY 173 [DC w,DE DB h,DE DD ex] (λ_=>True) (zN w y M tn)
   (λv H=>∃y' M',v= .tuple #[]/\H=zN w y' M' (tn+1)/\acJ M h ex tn y' M'):=by
 unfold zN;refine af func173 rfl ntmps173 rfl ?_;intro F _;refine bj ?_;refine Lp (oC Aq rfl rfl (uq w y M tn h W) (.cons .here (.cons .here (.cons .here .nil))) DA ?_);rintro v H' ⟨y1,M1,rfl,rfl,T1⟩;refine bS ?_;have W1:=T1.ok;have hl1:M1.length<=M.length:=by rw[T1.pm.length_eq];exact List.length_filter_le _ _
 have rN:=Wh.eD M1;refine Hh (H':= [ag w 200 [.slice y1.a M1.length y1.c, .map (some y1.mb),DE DB tn],own y1.a y1.c 202 3 (M1.flatMap eN),mq (.int .u64) y1.mb y1.es]) ?_;refine bA ?_;refine cM ?_;refine cL ?_;refine av ?_;refine iL 14 mix (.cons .here .nil) λF1 jq bV aI=> ?_;obtain⟨q1,_⟩:=bV;refine cL ?_;refine Tp (oT1 CQ λb1=> ?_);refine Tp (bI CQ RN rfl rfl rfl rfl .here (by omega) (rfl) (by simp[dq,Value.cells,Value.oneCell']) (by omega) (by omega) rfl λa2 c2 r9=> ?_);refine gG aI ?_;obtain⟨x,hx⟩:∃x:En,x=⟨h,ex,tn+1⟩:=⟨_,rfl⟩;have Qt:(M1++ [x]).flatMap eN=M1.flatMap eN++ [DE DB h,DE DD ex,DE DB ((tn:Int)+1)]:=by
  rw[ahQ,hx];rfl
 have hlen:(M1++ [x]).length=M1.length+1:=by simp
 have hnot:∀z∈M1,z.h≠h:=λz hz=>(AS z (T1.pm.mem_iff.1 hz)).2;have htu:=W1.tu;obtain⟨pl,R,P⟩:=W1.pl;have N2:Nd (M1++ [x]):=by
  unfold Nd;rw[adb,ac9];refine⟨W1.nd,by simp,λu hu v hv e=> ?_⟩;obtain⟨z,hz,rfl⟩:=abk.1 hu;simp only[aa7,al8,acQ]at hv;rw[hv,hx]at e;exact hnot z hz e
 refine cL ?_;refine az (t:=40) (v':=(DE DD M1.length)) rfl (by(congr 1;omega)) ?_;refine Hh (H':= [ag w 200 [.slice a2 (M1.length+1) c2, .map (some y1.mb),DE DB ((tn:Int)+1)],own a2 c2 202 3 (M1.flatMap eN++ [DE DB h,DE DD ex,DE DB ((tn:Int)+1)]),mq (.int .u64) y1.mb y1.es]) ?_;rw[<-Qt,<-hlen];refine mZ (iU (.there .here) (λk o=>nK o (by rw[Wh.eD,hlen];omega))) λha=> ?_;refine Lp (oC Aq rfl rfl (za w c2 y1.mb (tn+1) M1.length a2 (M1++ [x]) y1.es pl (by omega) (Z8 W1.hp x) N2 (YT P x) R (by omega) ha) (.cons .here (.cons .here (.cons .here .nil))) DA ?_);rintro v H' ⟨rfl,M3,es3,rfl,S3⟩;refine bS ?_;have l3:M3.length=(M1++ [x]).length:=S3.pm.length_eq;rw[<-l3];refine aB ?_;refine j5 [ag w 200 (Jm a2 M3.length c2 y1.mb (tn+1)),own a2 c2 202 3 (M3.flatMap eN),mq (.int .u64) y1.mb es3] results173 ?_;have mem:∀z,z∈M3->z∈M1\/z=x:=λz hz=>by simpa using S3.pm.mem_iff.1 hz
 refine⟨⟨a2,c2,y1.mb,es3⟩,M3,rfl,rfl,⟨S3.hp,j9 S3.pm N2,S3.ok,λz hz=> ?_,(S3.pm.map En.tu).nodup_iff.2 ?_,λ_=>ha,by omega,by show _<=c2;omega,λz hz=> ?_⟩, ?_⟩
 ·rw[if_pos he]
  rcases mem z hz with g|g
  ·have:=htu z g;omega
  rw[g,hx];exact abc _
 ·rw[adb,ac9]
  refine⟨W1.td,by simp,λu hu v hv e=> ?_⟩;obtain⟨z,hz,rfl⟩:=abk.1 hu;simp only[aa7,al8,acQ]at hv;rw[hv,hx]at e;have:=htu z hz;change z.tu=tn+1 at e;omega
 ·rcases mem z hz with g|g
  ·exact W1.ex z g
  rw[g,hx];exact he
 unfold lT;rw[if_pos he,<-hx];exact S3.pm.trans ((abq (l₂:= [x])).trans (abd.cons x T1.pm))
structure ak2 (M:List En)(f t tn:Nat)(y':P9)(M':List En):Prop where
 ok:sP M' y' tn
 pm:M'.Perm (qq M f t)
def gH (f t:Nat)(x:En):En:=if x.h=f then{x with h:=t}else x
theorem aj5{M:List En}{y:P9}{tn f t i:Nat}{es2:List (Value×Value)}{pl:Nat->FW}(W:sP M y tn)(P:xb M pl)(hi:i<M.length)(hf:(at_ M i).h=f)(ht:∀x∈M,x.h≠t)
  (R:QB es2 (ie (del pl f) t i)):sP (M.set i {at_ M i with h:=t}) {y with es:=es2} tn/\M.set i {at_ M i with h:=t}=M.map (gH f t):=by
 have A:=ml hi {at_ M i with h:=t};have hl:(M.set i {at_ M i with h:=t}).length=M.length:=aa8;have b0:=jb (gj hi) (at_ M i);rw[gw (gj hi)]at b0;have b1:=jb (gj hi) {at_ M i with h:=t};have mem:∀z∈M.set i {at_ M i with h:=t},∃x∈M,z.ex=x.ex/\z.tu=x.tu:=λz hz=>by
  rcases abh.1 (b1.mem_iff.1 hz)with e|e
  ·exact⟨at_ M i,aa3 (gj hi),by rw[e],by rw[e]⟩
  exact⟨z,alr e,rfl,rfl⟩
 refine⟨⟨λj j0 jl=> ?_, ?_,⟨_,R,λj jl=> ?_,λh g=> ?_⟩,λz hz=> ?_, ?_,λ_=>W.sm (vP (by omega)),by rw[hl];exact W.ln,by rw[hl];exact W.cp,λz hz=> ?_⟩, ?_⟩
 ·rw[hl]at jl
  have h:=W.hp j j0 jl;have q:∀u,(at_ (M.set i {at_ M i with h:=t}) u).ex=(at_ M u).ex/\(at_ (M.set i {at_ M i with h:=t}) u).tu=(at_ M u).tu:=λu=>by
   rw[A];by_cases e:u=i
   ·rw[if_pos e,e];exact⟨rfl,rfl⟩
   rw[if_neg e];exact⟨rfl,rfl⟩
  unfold En.le at*;rw[(q j).1,(q j).2,(q (par j)).1,(q (par j)).2];exact h
 ·refine j9 b1 ?_
  have n0:=j9 b0.symm W.nd;unfold Nd at*;rw[aa7,abg]at n0⊢;refine⟨λg=> ?_,n0.2⟩;obtain⟨z,hz,e⟩:=abk.1 g;exact ht z (alr hz) e
 ·rw[hl]at jl
  rw[A];unfold ie del;by_cases e:j=i
  ·rw[if_pos e,if_pos rfl,e]
  have hj:=aa3 (gj jl);rw[if_neg e,if_neg (ht _ hj),if_neg (λz=>e (yc W.nd jl hi (by rw[z,hf])))];exact P.a j jl
 ·rw[hl]
  unfold ie del at g;by_cases e:h=t
  ·exact⟨i,hi,by rw[A,if_pos rfl,e]⟩
  rw[if_neg e]at g;by_cases e2:h=f
  ·rw[if_pos e2]at g;exact absurd rfl g
  rw[if_neg e2]at g;obtain⟨u,u1,u2⟩:=P.b h g;have n1:u≠i:=λz=>e2 (by rw[<-u2,z,hf]);exact⟨u,u1,by rw[A,if_neg n1];exact u2⟩
 ·obtain⟨x,hx,_,e⟩:=mem z hz
  rw[e];exact W.tu x hx
 ·have n0:=(b0.map En.tu).nodup_iff.1 W.td
  rw[aa7]at n0;refine(b1.map En.tu).nodup_iff.2 ?_;rw[aa7];exact n0
 ·obtain⟨x,hx,e,_⟩:=mem z hz
  rw[e];exact W.ex x hx
 apply ah6;intro j;rw[ahG,abf];by_cases e:i=j
 ·subst e
  rw[if_pos rfl,if_pos hi,gj hi,Option.map_some];unfold gH;rw[if_pos hf]
 rw[if_neg e];by_cases hj:j<M.length
 ·rw[gj hj,Option.map_some]
  unfold gH;rw[if_neg (λz=>e (yc W.nd hi hj (by rw[z,hf])))]
 rw[abb (by omega)];rfl
theorem Uc (w:Nat)(y:P9)(M:List En)(tn f t:Nat)(W:sP M y tn)(ft:f≠t):
  aK aaY 161 [DC w,DE DB f,DE DB t] (λ_=>True) (zN w y M tn)
   (λv H=>∃y' M',v= .bool (decide (f∈M.map En.h))/\H=zN w y' M' tn/\ak2 M f t tn y' M'):=by
 obtain⟨pl,R,P⟩:=W.pl;have hR:=R f;unfold hv at hR;by_cases au:f∈M.map En.h
 ·obtain⟨x,XG,hxh⟩:=abk.1 au
  obtain⟨i,hi,uX,hpl⟩:=P.at XG;rw[hxh]at hpl;rw[hpl,Option.map_some]at hR;rw[decide_eq_true au];unfold zN;refine af func161 rfl ntmps161 rfl ?_;intro F _;unfold Jm;refine cu ?_;refine Lp (X9 T.qJ ?_);refine bO ?_;rw[hR,Option.getD_some,Option.isSome_some];refine zf 22 ?_ (e:=by rfl);refine ba ?_;refine cM ?_;refine ba ?_;refine Lp (oC Aq rfl rfl (uq w y M tn t W) (.cons .here (.cons .here (.cons .here .nil))) DA ?_);rintro v H' ⟨y1,M1,rfl,rfl,T1⟩;refine bS ?_;have W1:=T1.ok;obtain⟨pl1,R1,P1⟩:=W1.pl;have PS:x∈M1:=T1.pm.mem_iff.2 (abm.2 ⟨XG,by simp only[decide_eq_true_eq];rw[hxh];exact ft⟩);obtain⟨j,hj,hatj,aiW⟩:=P1.at PS;rw[hxh]at aiW;have hR1:=R1 f;rw[aiW,Option.map_some]at hR1;unfold hv iv at hR1;have rN:=Wh.eD M1;have hft:=Wh.iE (M:=M1) (j:=j) hj;have ha:=W1.sm (vP (by omega));refine Hh (H':= [ag w 200 [.slice y1.a M1.length y1.c, .map (some y1.mb),DE DB tn],own y1.a y1.c 202 3 (M1.flatMap eN),mq (.int .u64) y1.mb y1.es]) ?_;refine bL ?_;refine Lp (oQl T.qJ ?_);refine bn ?_;refine av ?_;rw[hR1,Option.getD_some];refine bA ?_;refine Li (Ix iN) ?_;refine aw ?_;refine Lp (oA yj λb1=> ?_);refine Lp (gE vE ?_ (h1:=by simp[eN,Value.oneCell']));refine aw ?_;refine av ?_;unfold eN;refine ba ?_;refine av ?_;refine Hh (H':= [ag b1 202 (eN {at_ M1 j with h:=t}),ag w 200 [.slice y1.a M1.length y1.c, .map (some y1.mb),DE DB tn],own y1.a y1.c 202 3 (M1.flatMap eN),mq (.int .u64) y1.mb y1.es]) ?_;refine bA ?_;refine Lp (oQd T.qJ ?_);refine ba ?_;refine zl Aq (tZ w M1.length y1.c y1.mb tn j y1.a {at_ M1 j with h:=t} (M1.flatMap eN) (GC y1.es (hv f)) (by omega) (by omega) ha) (.cons (.t2 .here) (.cons (.t2 .here) .nil)) (λ_ le au=>au.nth 1 rfl) ?_;rw[Wh.iX _ (by omega)];have ht1:∀z∈M1,z.h≠t:=λz hz=>(AS z (T1.pm.mem_iff.1 hz)).2;have hfj:(at_ M1 j).h=f:=by rw[hatj,hxh]
  obtain⟨V,eV⟩:=aj5 W1 P1 hj hfj ht1 ((R1.del f).ie t j);have DJ:(M1.set j {at_ M1 j with h:=t}).length=M1.length:=aa8;have pm:(M1.set j {at_ M1 j with h:=t}).Perm (qq M f t):=by
   rw[eV];unfold qq;rw[if_pos ⟨au,ft⟩];exact T1.pm.map _
  generalize M1.set j {at_ M1 j with h:=t}=M2 at*;rw[<-DJ];refine ba ?_;refine Rt [ag w 200 [.slice y1.a M2.length y1.c, .map (some y1.mb),DE DB tn],own y1.a y1.c 202 3 (M2.flatMap eN),mq (.int .u64) y1.mb (DN (GC y1.es (hv f)) (hv t) (iv j))] results161 ?_;exact⟨⟨y1.a,y1.c,y1.mb,_⟩,M2,rfl,rfl,V,pm⟩
 have lP:∀x∈M,x.h≠f:=λx h1 h2=>au (abk.2 ⟨x,h1,h2⟩);rw[P.none lP,Option.map_none]at hR;rw[decide_eq_false au];unfold zN Jm;generalize hes:y.es=es at*;refine af func161 rfl ntmps161 rfl ?_;intro F _;refine cu ?_;refine Lp (X9 T.qJ ?_);refine bO ?_;rw[hR,Option.getD_none,Option.isSome_none];refine zt 22 ?_ (e:=by rfl);refine cL ?_;refine Rt [ag w 200 [.slice y.a M.length y.c, .map (some y.mb),DE DB tn],own y.a y.c 202 3 (M.flatMap eN),mq (.int .u64) y.mb es] results161 ?_;exact⟨y,M,rfl,by rw[hes],W,by unfold qq;rw[if_neg (λg=>au g.1)]⟩
theorem Ht{P:Program}{f:FuncId}{args:FV}{pre:Hp->Prop}{H:Dz}{R:DF}{w tn:Nat}{E:List En}(h:∀y M,M.Perm E->sP M y tn->aK P f args pre (zN w y M tn++H) R):aK P f args pre (Wl w E tn::H) R:=
 aK.exL λy=>aK.exL λM=>aK.Eg λp=>aK.Eg λW=>aK.Hj (h y M p W)
theorem uk{w tn:Nat}{E M:List En}{y:P9}{H:Dz}{h:Hp}(p:M.Perm E)(W:sP M y tn)(st:ai (zN w y M tn++H) h):ai (Wl w E tn::H) h:=
 bo (λ_ s=>⟨y,M,p,W,s⟩) (eC st)
theorem adI{w tn:Nat}{E:List En}{h:Hp}(o:In (Wl w E tn) h):∃y M,M.Perm E/\sP M y tn/\gW (zN w y M tn) h:=by
 obtain⟨k,⟨y,M,p,W,st⟩,le⟩:=o;exact⟨y,M,p,W,cx st le⟩
theorem Kx{M E:List En}(p:M.Perm E)(h:Nat):decide (h∈M.map En.h)=decide (h∈E.map En.h):=decide_eq_decide.2 (p.map En.h).mem_iff
theorem W6 (w:Nat)(E:List En)(tn h:Nat):
  aK aaY 194 [DC w,DE DB h] vz [Wl w E tn]
   (λv H=>v= .bool (decide (h∈E.map En.h))/\H= [Wl w (fi E h) tn]):=by
 refine Ht λy M p W=>(uq w y M tn h W).out λv H' hr=> ?_;obtain⟨y1,M1,rfl,rfl,T⟩:=hr;exact⟨_,⟨by rw[Kx p],rfl⟩,λk s=>uk (T.pm.trans (pf p h)) T.ok (by simpa using s)⟩
theorem AT{M E:List En}(p:M.Perm E)(h ex tn:Nat):(lT M h ex tn).Perm (lT E h ex tn):=by
 unfold lT;split
 ·exact abd.cons _ (pf p h)
 exact pf p h
theorem LH (w:Nat)(E:List En)(tn h:Nat)(ex:Nat)(ht:tn<18446744073709551615)(hm:E.length<2147483647):
  aK aaY 173 [DC w,DE DB h,DE DD ex] vz [Wl w E tn]
   (λv H=>v= .tuple #[]/\H= [Wl w (lT E h ex tn) (if 0<ex then tn+1 else tn)]):=by
 refine Ht λy M p W=> ?_;by_cases he:0<ex
 ·refine(Yw w y M tn h ex W he ht (by rw[p.length_eq];exact hm)).out λv H' hr=> ?_
  obtain⟨y1,M1,rfl,rfl,T⟩:=hr;have ok:=T.ok;rw[if_pos he]at ok⊢;exact⟨_,⟨rfl,rfl⟩,λk s=>uk (T.pm.trans (AT p h ex tn)) ok (by simpa using s)⟩
 obtain rfl:ex=0:=by omega
 refine(Ub w y M tn h 0 W (by omega)).out λv H' hr=> ?_;obtain⟨y1,M1,rfl,rfl,T⟩:=hr;have ok:=T.ok;rw[if_neg he]at ok⊢;exact⟨_,⟨rfl,rfl⟩,λk s=>uk (T.pm.trans (AT p h 0 tn)) ok (by simpa using s)⟩
theorem Iu{M E:List En}(p:M.Perm E)(f t:Nat):(qq M f t).Perm (qq E f t):=by
 unfold qq;have e:(f∈M.map En.h)↔(f∈E.map En.h):=(p.map En.h).mem_iff;by_cases h:f∈M.map En.h/\f≠t
 ·rw[if_pos h,if_pos ⟨e.1 h.1,h.2⟩]
  exact(pf p t).map _
 rw[if_neg h,if_neg (λg=>h ⟨e.2 g.1,g.2⟩)];exact p
theorem W7 (w:Nat)(E:List En)(tn f t:Nat)(ft:f≠t):
  aK aaY 161 [DC w,DE DB f,DE DB t] vz [Wl w E tn]
   (λv H=>v= .bool (decide (f∈E.map En.h))/\H= [Wl w (qq E f t) tn]):=by
 refine Ht λy M p W=>(Uc w y M tn f t W ft).out λv H' hr=> ?_;obtain⟨y1,M1,rfl,rfl,T⟩:=hr;exact⟨_,⟨by rw[Kx p],rfl⟩,λk s=>uk (T.pm.trans (Iu p f t)) T.ok (by simpa using s)⟩
theorem aaW:aK aaY 110 [] vz [] (λv H=>∃w,v=DC w/\H= [Wl w [] 0]):=by
 have h:aK aaY 110 [] vz [] (λv H=>∃w mb,v=DC w/\H=zN w ⟨none,0,mb,[]⟩ [] 0):=by
  unfold zN Jm;refine af func110 rfl ntmps110 rfl ?_;intro F _;refine aY ?_;refine Lp (oQm (.int .u64) λm1=> ?_);refine aw ?_;refine Lp (oB λb1=> ?_);refine bj ?_;refine cX 202 3 ?_;refine Rt [ag b1 200 [.slice none 0 0, .map (some m1),DE DB 0],own none 0 202 3 [],mq (.int .u64) m1 []] results110 ?_;exact⟨b1,m1,rfl,rfl⟩
 refine h.out λv H' hr=> ?_;obtain⟨w,mb,rfl,rfl⟩:=hr;refine⟨_,⟨w,rfl,rfl⟩,λk s=>uk (H:= []) (y:=⟨none,0,mb,[]⟩) (abd.refl []) ⟨λj h1 h2=>absurd h2 (ah2 _),ah9,⟨λ_=>none,λh=>rfl,λj h=>absurd h (ah2 _),λh g=>absurd rfl g⟩,(λx h=>by cases h),ah9,λh=>absurd rfl h,by decide,abc 0,(λx h=>by cases h)⟩ (by simpa using s)⟩
def sN (M:List En)(now:Int)(i:Nat):Bool:=decide (i<M.length)&&decide (((at_ M i).ex:Int)<=now)
def P7 (D:F8):F8:=D.flatMap λi=> [2*i+1,2*i+2]
theorem Lv{D:F8}{j:Nat}:j∈P7 D↔0<j/\par j∈D:=by
 unfold P7;rw[List.mem_flatMap];constructor
 ·rintro⟨i,hi,h⟩
  simp only[abh,ahK,or_false]at h;have:0<j/\par j=i:=by unfold par;omega
  exact⟨this.1,by rw[this.2];exact hi⟩
 rintro⟨h0,hp⟩;exact⟨par j,hp,by simp only[abh,ahK,or_false];unfold par;omega⟩
theorem WO (D:F8)(i:Nat):P7 (D++ [i])=P7 D++ [2*i+1,2*i+2]:=by unfold P7;rw[ahQ];simp
structure GG (M:List En)(now:Int)(k:Nat)(look D:F8):Prop where
 lk:look=0::P7 D
 dk:D=(look.take k).filter (sN M now)
 nd:look.Nodup
 kl:k<=look.length
theorem GG.start (M:List En)(now:Int):GG M now 0 [0] []:=⟨rfl,rfl,by simp,by simp⟩
theorem GG.dN{M:List En}{now:Int}{k:Nat}{look D:F8}(B:GG M now k look D):D.Nodup/\(∀i∈D,i<M.length)/\D.length<=M.length:=by
 have h1:D.Nodup:=by rw[B.dk];exact(B.nd.sublist (List.take_sublist _ _)).sublist ahs
 have h2:∀i∈D,i<M.length:=λi hi=>by
  rw[B.dk]at hi;have:=(abm.1 hi).2;unfold sN at this;simp only[alT,decide_eq_true_eq]at this;exact this.1
 exact⟨h1,h2,nT _ _ h1 h2⟩
theorem aaN (D:F8):(P7 D).length=D.length*2:=by
 induction D with
 |nil=>rfl
 |cons a l ih=>
  have:P7 (a::l)= [2*a+1,2*a+2]++P7 l:=rfl;rw[this,aa9,ih];simp;omega
theorem GG.len{M:List En}{now:Int}{k:Nat}{look D:F8}(B:GG M now k look D):look.length=D.length*2+1/\look.length<=2*M.length+1:=by
 have:=B.dN.2.2;have h:look.length=D.length*2+1:=by rw[B.lk,abu,aaN]
 exact⟨h,by omega⟩
theorem GG.skip{M:List En}{now:Int}{k i:Nat}{look D:F8}(B:GG M now k look D)(hk:look[k]?=some i)(hg:sN M now i=false):GG M now (k+1) look D:=by
 have ct:=(aa1.1 hk).1;refine⟨B.lk, ?_,B.nd,ct⟩;rw[ahP,hk,ahU,<-B.dk];simp[hg]
theorem GG.add{M:List En}{now:Int}{k i:Nat}{look D:F8}(B:GG M now k look D)(hk:look[k]?=some i)(hg:sN M now i=true):GG M now (k+1) (look++ [2*i+1,2*i+2]) (D++ [i]):=by
 have ct:=(aa1.1 hk).1;have hiD:i∉D:=λh=>by
  rw[B.dk]at h;have h2:=(abm.1 h).1;obtain⟨m,hm,e⟩:=acS h2;rw[List.getElem_take]at e;have hm2:=hm;rw[ahY]at hm2;have h3:look[m]?=some i:=aa1.2 ⟨by omega,e⟩;have:=iP B.nd h3 hk;rw[ahY]at hm;omega
 have lP:∀j,0<j->par j=i->j∉look:=λj j0 pj h=>by
  rw[B.lk]at h;rcases abh.1 h with e|e
  ·omega
  have:=(Lv.1 e).2;rw[pj]at this;exact hiD this
 refine⟨by rw[WO,B.lk];rfl, ?_, ?_,by rw[aa9];omega⟩
 ·rw[ald (by omega),ahP,hk,ahU,<-B.dk]
  simp[hg]
 rw[ac9];refine⟨B.nd,by simp,λa ha b hb e=> ?_⟩;subst e;simp only[abh,ahK,or_false]at hb;exact lP a (by omega) (by unfold par;omega) ha
theorem GG.done{M:List En}{now:Int}{k:Nat}{look D:F8}(H:Ao M)(B:GG M now k look D)(hk:k=look.length):(D.map (at_ M)).Perm (M.filter λx=>decide ((x.ex:Int)<=now)):=by
 have hD:D=look.filter (sN M now):=by
  have:=B.dk
  rwa[hk,List.take_length]at this
 have all:∀i,sN M now i=true->i∈D:=λi=>by
  induction i using Nat.strongRecOn with
  |ind i ih=>
   intro hg;have au:i∈look:=by
    rw[B.lk];rcases Nat.eq_zero_or_pos i with e|e
    ·rw[e];exact aa5
    refine aa6 _ (Lv.2 ⟨e,ih (par i) (jk e) ?_⟩);unfold sN at hg⊢;simp only[alT,decide_eq_true_eq]at hg⊢;have hle:=H i e hg.1;have:=jk e;refine⟨by omega, ?_⟩;unfold En.le at hle;omega
   rw[hD];exact abm.2 ⟨au,hg⟩
 have hM:M=(acA M.length).map (at_ M):=by
  apply ah6;intro j;rw[abf];by_cases h:j<M.length
  ·rw[gj h,List.getElem?_range h];rfl
  rw[abb (by omega),abb (by rw[List.length_range];omega)];rfl
 have p1:D.Perm ((acA M.length).filter λi=>decide (((at_ M i).ex:Int)<=now)):=by
  refine(List.perm_ext_iff_of_nodup B.dN.1 (List.nodup_range.sublist ahs)).2 λi=> ?_;rw[abm,List.mem_range];constructor
  ·intro h
   have h2:=(abm.1 (hD▸h)).2;unfold sN at h2;simpa using h2
  intro h;exact all i (by unfold sN;simpa using h)
 have p2:=p1.map (at_ M);have e:((acA M.length).filter λi=>decide (((at_ M i).ex:Int)<=now)).map (at_ M)=M.filter λx=>decide ((x.ex:Int)<=now):=by
  conv=>rhs;rw[hM]
  rw[List.filter_map];rfl
 rw[e]at p2;exact p2
noncomputable def iJ (L:List En):List En:=L.mergeSort λx y=>decide (¬En.lt y x)
theorem ic (L:List En):(iJ L).Perm L:=List.mergeSort_perm _ _
noncomputable def qn (E:List En)(now:Int)(aH:Int):F8:=((iJ (E.filter λx=>decide ((x.ex:Int)<=now))).take aH.toNat).map En.h
def DK (l:F8):FV:=l.map λ(h:Nat)=>Value.int .u64 (h:Int)
def qD:Prop:=∀(a:FX) (cap:Nat) (L:List En),L.length<=cap->(L.map En.tu).Nodup->L.length<2147483648->aK aaY 115 [.slice a L.length cap, .func (.func 116) #[] #[]] vz [own a cap 202 3 (L.flatMap eN)] (λv H=>v= .tuple #[]/\H= [own a cap 202 3 ((iJ L).flatMap eN)])
theorem Yy (xe:qD)(w:Nat)(y:P9)(M:List En)(tn:Nat)(now aH:Int)(W:sP M y tn):
  aK aaY 75 [DC w,DE DD now,DE DD aH] (gW (zN w y M tn)) []
   (λv H=>∃a c L,v= .slice a L.length c/\H= [own a c 104 1 (DK L)]/\∃D:List En,D.Perm (M.filter λx=>decide ((x.ex:Int)<=now))/\L=((iJ D).take aH.toNat).map En.h):=by
 have BM:=W.ln;unfold zN Jm;refine af func75 rfl ntmps75 rfl ?_;rintro F ⟨hw,ho,_⟩;have hr:=bK ho;have rN:=Wh.eD M;refine bL ?_;refine Lp (oT gk λb1=> ?_);refine bA ?_;refine ay (λ_ s=>bo (λ_ p=>pq p 1 1 rfl (by decide)) s) ?_;refine cX 202 3 ?_;refine cG (ι:=F8×FX×Nat) (FZ [7,4,15,48]) (λs=>(s.1.map (at_ M)).Perm (M.filter λx=>decide ((x.ex:Int)<=now))/\s.1.length<=M.length/\s.1.length<=s.2.2) (λs=> [(7, .slice s.2.1 s.1.length s.2.2)]) (λs=> [own s.2.1 s.2.2 202 3 ((s.1.map (at_ M)).flatMap eN)]) ?_ ?_
 ·refine oW ?_
  refine Lo (ι:=Nat×F8×F8×(FX×Nat)×(FX×Nat)) (FZ [7,4,15,48]) (λs=>GG M now s.1 s.2.1 s.2.2.1/\s.2.1.length<=s.2.2.2.1.2/\s.2.2.1.length<=s.2.2.2.2.2) (λs=> [(9,DE DD s.1),(8, .slice s.2.2.2.1.1 s.2.1.length s.2.2.2.1.2),(7, .slice s.2.2.2.2.1 s.2.2.1.length s.2.2.2.2.2)]) (λs=> [own s.2.2.2.2.1 s.2.2.2.2.2 202 3 ((s.2.2.1.map (at_ M)).flatMap eN),own s.2.2.2.1.1 s.2.2.2.1.2 3 1 (aE s.2.1)]) (λs=>2*M.length+1-s.1) ((0,[0],[],(some ⟨b1,0,none⟩,1),(none,0))) ⟨GG.start M now,abc 1,abc 0⟩ ?_;rintro⟨k,look,D,⟨al,cl⟩,⟨ad,cd⟩⟩ hI
  try dsimp only at hI⊢
  obtain⟨B,dx,hcd⟩:=hI;obtain⟨q1,q2⟩:=B.len;have q3:=B.dN.2.2;have qh:=B.kl;refine bL ?_;by_cases hk:k<look.length
  ·obtain⟨i,hi⟩:∃i,look[k]?=some i:=⟨look[k],aa0 hk⟩
   have hic:(aE look)[k]?=some (DE DD i):=by unfold aE;rw[abf,hi];rfl
   have hnl:(aE look).length=look.length:=fq look;refine mZ (iU (.there .here) (λ_ o=>nK o (by rw[hnl];omega))) λP3=> ?_;refine eJ ?_;refine bL ?_;refine Li (Ix lp) ?_;refine gQ ?_;by_cases au:i<M.length
   ·have hft:=Wh.iE au
    have hex:(M.flatMap eN)[i*3+1]?=some (DE DD ((at_ M i).ex)):=bq mj (gj au) rfl;have ha:=W.sm (vP (by omega));refine zf 32 ?_;refine ba ?_;refine Li (Ix iN) ?_;refine Li (Fam Bv) ?_;refine ba ?_;by_cases hx:((at_ M i).ex:Int)<=now
    ·have hg:sN M now i=true:=by unfold sN;rw[decide_eq_true au,decide_eq_true hx];rfl
     have B2:=B.add hi hg;have hfD:((D.map (at_ M)).flatMap eN).length=D.length*3:=by rw[Wh.eD,abo]
     refine cM ?_;refine cu ?_;refine Li (Ix iN) ?_;refine aw ?_;refine Lp (oT1 CQ λb2=> ?_);refine Lp (bI CQ RN rfl rfl rfl rfl .here (by omega) (rfl) (by simp[eN,dq,Value.cells,Value.oneCell']) (by omega) (by omega) rfl λa2 c2 r9=> ?_);refine bD ?_;refine Lp (oT gk λb3=> ?_);refine Lp (bI gk qy rfl rfl rfl rfl (.there .here) (by omega) (rfl) (by simp[dq,Value.cells,Value.oneCell']) (by omega) (by omega) rfl λa3 c3 hc3=> ?_);refine cY ?_;refine aB ?_;have e1:((D++ [i]).map (at_ M)).flatMap eN=(D.map (at_ M)).flatMap eN++eN (at_ M i):=by rw[adb,ahQ];simp
     have e2:aE (look++ [2*i+1,2*i+2])=aE look++ [DE DD (2*(i:Int)+1),DE DD (2*(i:Int)+2)]:=by rw[gC];rfl
     have l1:(D++ [i]).length=D.length+1:=by simp
     have l2:(look++ [2*i+1,2*i+2]).length=look.length+2:=by simp
     refine Hh (H':= [own a2 c2 202 3 ((D.map (at_ M)).flatMap eN++eN (at_ M i)),own a3 c3 3 1 (aE look++ [DE DD (2*(i:Int)+1),DE DD (2*(i:Int)+2)])]) ?_;rw[<-e1,<-e2,<-l1,<-l2];refine Ro ((k+1,look++ [2*i+1,2*i+2],D++ [i],(a3,c3),(a2,c2))) (⟨B2,(by dsimp only;omega),(by dsimp only;omega)⟩) ((by dsimp only;omega))
    have hg:sN M now i=false:=by unfold sN;rw[decide_eq_false hx,Bool.and_false]
    refine eJ ?_;refine cY ?_;refine aB ?_;refine Ro ((k+1,look,D,(al,cl),(ad,cd))) (⟨B.skip hi hg,dx,hcd⟩) ((by dsimp only;omega))
   have hg:sN M now i=false:=by unfold sN;rw[decide_eq_false au,Bool.false_and]
   refine zt 32 ?_;refine cC ?_;refine aw ?_;refine aB ?_;refine Ro ((k+1,look,D,(al,cl),(ad,cd))) (⟨B.skip hi hg,dx,hcd⟩) ((by dsimp only;omega))
  refine cM ?_;refine aY ?_;refine Me ((D,ad,cd)) (⟨B.done W.hp (by omega),q3,hcd⟩)
 rintro s hI;obtain⟨D,ad,cd⟩:=s
 try dsimp only at hI⊢
 obtain⟨hp,hDl,hDc⟩:=hI;have hLl:(D.map (at_ M)).length=D.length:=abo ..;have hLt:((D.map (at_ M)).map En.tu).Nodup:=(hp.map En.tu).nodup_iff.2 (W.td.sublist (ahs.map _));rw[<-hLl];rw[<-hLl]at hDl hDc;generalize D.map (at_ M)=L at*;have hsl:(iJ L).length=L.length:=(ic L).length_eq;have hfS:=Wh.eD (iJ L);obtain⟨m,hm⟩:∃m,m=min L.length aH.toNat:=⟨_,rfl⟩;refine bn ?_;refine zl Aq (xe ad cd L hDc hLt (by omega)) (.cons .here .nil) DA ?_;generalize hS:iJ L=S at*;refine bD ?_;refine Li Ma ?_;refine Li Mi ?_;refine az (t:=70) (v':=(DE DD m)) rfl (by(congr 1;omega)) ?_;refine Li (Sl 0 _ _ iN) ?_;rw[Tt,aiF,aiF];refine bj ?_;refine cX 104 1 ?_;refine aw ?_;refine Lo (ι:=Nat×FX×Nat) (FZ [11,1,13,1,73,10]) (λs=>s.1<=m/\s.1<=s.2.2) (λs=> [(73,DE DD s.1),(11, .slice s.2.1 s.1 s.2.2)]) (λs=> [own s.2.1 s.2.2 104 1 (DK ((S.take s.1).map En.h)),own ad cd 202 3 (S.flatMap eN)]) (λs=>m-s.1) ((0,none,0)) ⟨Nat.zero_le _,abc 0⟩ ?_;rintro⟨j,a,c⟩ hI
 try dsimp only at hI⊢
 have hj:=hI.1;by_cases hjm:j<m
 ·have hft:=Wh.iE (M:=S) (j:=j) (by omega)
  have hx:=gj (M:=S) (j:=j) (by omega);have hh:(DK ((S.take j).map En.h)).length=j:=by unfold DK;rw[abo,abo,ahY];omega
  have e1:DK ((S.take (j+1)).map En.h)=DK ((S.take j).map En.h)++ [DE DB ((at_ S j).h)]:=by
   unfold DK;rw[ahP,hx,adb,adb];rfl
  refine mZ (iU (.there .here) (λ_ o=>nK o (by omega))) λP3=> ?_;refine bj ?_;refine av ?_;refine eJ ?_;refine ba ?_;refine Li (Ix iN) ?_;refine aw ?_;refine Lp (oA yj λb4=> ?_);refine Lp (gE vE ?_ (h1:=by simp[eN,Value.oneCell']));refine aw ?_;rw[show eN (at_ S j)= [DE DB ((at_ S j).h),DE DD ((at_ S j).ex),DE DB ((at_ S j).tu)]from rfl];refine aY ?_;refine Lp (oT TG λb5=> ?_);refine Lp (bI TG ae4 rfl rfl rfl rfl (.there .here) (by omega) (rfl) (by simp[dq,Value.cells,Value.oneCell']) (by omega) (by omega) rfl λa2 c2 r9=> ?_);refine bL ?_;refine aB ?_;refine Hh (H':= [own a2 c2 104 1 (DK ((S.take j).map En.h)++ [DE DB ((at_ S j).h)]),own ad cd 202 3 (S.flatMap eN)]) ?_;rw[<-e1];refine Ro ((j+1,a2,c2)) (⟨hjm,r9⟩) ((by dsimp only;omega))
 refine iz ?_;refine bn ?_;refine av ?_;refine cM ?_;refine bD ?_;obtain rfl:j=m:=by omega
 have e1:S.take j=S.take aH.toNat:=by
  rw[alz,alz (i:=aH.toNat),hsl,hm]
  congr 1;omega
 have hl:((S.take aH.toNat).map En.h).length=j:=by rw[abo,ahY];omega
 rw[e1,<-hl];refine Rt [own a c 104 1 (DK ((S.take aH.toNat).map En.h))] results75 ?_;exact⟨a,c,_,rfl,rfl,L,hp,by rw[hS]⟩
theorem abI{R:En->En->Prop}:∀{L M:List En},L.Perm M->L.Pairwise R->M.Pairwise R->(∀a∈L,∀b∈L,R a b->R b a->a=b)->L=M
 | [],M,p,_,_,_=>(List.nil_perm.1 p).symm
 |a::L,[],p,_,_,_=>by have:=p.length_eq;simp at this
 |a::L,b::M,p,hl,hm,an=>by
  have e:a=b:=by
   have hb:b∈a::L:=p.mem_iff.2 aa5;have ha:a∈b::M:=p.mem_iff.1 aa5;rcases abh.1 hb with h|h
   ·exact h.symm
   rcases abh.1 ha with g|g
   ·exact g
   exact an a aa5 b hb ((ahZ.1 hl).1 b h) ((ahZ.1 hm).1 a g)
  subst e;rw[abI (abd.cons_inv p) (ahZ.1 hl).2 (ahZ.1 hm).2 (λx hx y hy=>an x (aa6 _ hx) y (aa6 _ hy))]
theorem ad3{L:List En}(d:(L.map En.tu).Nodup){a b:En}(ha:a∈L)(hb:b∈L)(e:a.tu=b.tu):a=b:=by
 obtain⟨i,hi,ea⟩:=acS ha;obtain⟨j,hj,eb⟩:=acS hb;have h1:(L.map En.tu)[i]?=some a.tu:=by rw[abf,aa0 hi,ea];rfl
 have h2:(L.map En.tu)[j]?=some a.tu:=by rw[abf,aa0 hj,eb,e];rfl
 have:=iP d h1 h2;subst this;rw[<-ea,<-eb]
theorem ES (L:List En):(iJ L).Pairwise λx y=>¬En.lt y x:=by
 have h:=List.pairwise_mergeSort (le:=λx y:En=>decide (¬En.lt y x)) (λa b c h1 h2=>by
  simp only[decide_eq_true_eq]at*;unfold En.lt at*;omega) (λa b=>by
  simp only[Bool.or_eq_true,decide_eq_true_eq];unfold En.lt;omega) L
 refine h.imp λ{a b} g=> ?_;exact of_decide_eq_true g
theorem J6{L M:List En}(p:L.Perm M)(d:(M.map En.tu).Nodup)(hl:L.Pairwise λx y=>¬En.lt y x):L=iJ M:=by
 have d2:(L.map En.tu).Nodup:=(p.map En.tu).nodup_iff.2 d;refine abI (p.trans (ic M).symm) hl (ES M) λa ha b hb h1 h2=>ad3 d2 ha hb ?_;unfold En.lt at h1 h2;omega
theorem zk{L M:List En}(p:L.Perm M)(d:(M.map En.tu).Nodup):iJ L=iJ M:=J6 ((ic L).trans p) d (ES L)
theorem aaX (xe:qD)(w:Nat)(E:List En)(tn:Nat)(now aH:Int):
  aK aaY 75 [DC w,DE DD now,DE DD aH] (In (Wl w E tn)) []
   (λv H=>∃a c,v= .slice a (qn E now aH).length c/\H= [own a c 104 1 (DK (qn E now aH))]):=by
 refine aK.RK (X:=∃y M,M.Perm E/\sP M y tn) (λk hk=> ?_) ?_
 ·obtain⟨y,M,p,W,_⟩:=adI hk
  exact⟨y,M,p,W⟩
 intro _;intro F W0 hk s;obtain⟨y,M,p,W,au⟩:=adI hk;refine((Yy xe w y M tn now aH W) F W0 au s).mono λe w' hh=> ?_;obtain⟨v,H',he,⟨a,c,L,rfl,rfl,D,hD,rfl⟩,st⟩:=hh;have hs:iJ D=iJ (E.filter λx=>decide ((x.ex:Int)<=now)):=by
  refine zk (hD.trans (p.filter _)) ?_;exact((p.map En.tu).nodup_iff.1 W.td).sublist (ahs.map _)
 refine⟨_,_,he,⟨a,c, ?_, ?_⟩,st⟩
 ·unfold qn;rw[hs]
 unfold qn;rw[hs]
end Go.Proofs.YtcbcjolpdljbiaaGreat
