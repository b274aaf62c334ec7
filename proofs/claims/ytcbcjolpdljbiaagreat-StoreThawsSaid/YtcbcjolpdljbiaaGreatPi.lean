/- Part Pi of the proof. -/
import Derived.Test.YtcbcjolpdljbiaaGreatPj
set_option maxRecDepth 100000
open Go.Proofs.YtcbcjolpdljbiaaGreat.T
open List renaming getD_eq_getElem?_getD -> aab, getElem?_eq_getElem -> aac, getElem?_set -> agy, Perm -> abA, getElem?_append_left -> agC, length_append -> aby, length_singleton -> agm, getElem?_dropLast -> akd, length_dropLast -> adr, length_set -> aak, mem_cons_of_mem -> aai, mem_cons_self -> aag, map_cons -> aaj, filter_cons -> agd, getElem?_map -> abD, mem_of_getElem? -> aaf, getElem_of_mem -> abS, flatMap_cons -> agz, length_cons -> abU, ext_getElem? -> agJ, getElem?_eq_none -> aal, set_set -> af6, nodup_cons -> abB, filter_eq_self -> akn, mem_map -> abF, mem_filter -> abG, perm_append_comm -> abN, flatMap_append -> agL, take_append_of_le_length -> ajU, map_append -> af1, nodup_append -> af4, map_nil -> akT, mem_singleton -> abR, mem_cons -> abE, mem_of_mem_eraseIdx -> aj7, nodup_nil -> ag5, not_mem_nil -> agD, filter_sublist -> agi, getElem?_eq_some_iff -> aad, take_add_one -> agK, filter_append -> agQ, length_take -> agU, range -> abM, length_map -> abI, take_eq_take_min -> akf, pairwise_cons -> agV
open Nat renaming sub_zero -> ajO, le_refl -> aam, not_lt_zero -> agZ
open Bool renaming and_eq_true -> akB
open Go.Proofs.Tryz renaming prog -> aaa
open Go.Proofs.Tryz
open Go.Value renaming int -> Dm
open Go.IntKind renaming i64 -> Dl, u64 -> Dj
namespace Go.Proofs.YtcbcjolpdljbiaaGreat
open Go Go.dC
structure En where
 h:Nat
 ex:Nat
 tu:Nat
namespace En
def lt (a b:En):Prop:=a.ex<b.ex\/a.ex=b.ex/\a.tu<b.tu
def le (a b:En):Prop:=a.ex<b.ex\/a.ex=b.ex/\a.tu<=b.tu
theorem le_trans{a b c:En}(h:le a b)(g:le b c):le a c:=by unfold le at*;omega
theorem le_of_lt{a b:En}(h:lt a b):le a b:=by unfold lt le at*;omega
theorem vj{a b:En}(h:¬lt a b):le b a:=by unfold lt le at*;omega
theorem le_refl (a:En):le a a:=by unfold le;omega
instance (a b:En):Decidable (lt a b):=by unfold lt;infer_instance
end En
namespace Wh
def at_ (M:List En)(j:Nat):En:=M.getD j ⟨0,0,0⟩
def par (j:Nat):Nat:=(j-1)/2
def z6 (M:List En):Prop:=∀j,0<j->j<M.length->En.le (at_ M (par j)) (at_ M j)
structure Hx (M:List En)(i:Nat):Prop where
 a:∀j,0<j->j<M.length->j≠i->par j≠i->En.le (at_ M (par j)) (at_ M j)
 b:∀j,0<i->j<M.length->0<j->par j=i->En.le (at_ M (par i)) (at_ M j)
theorem fV{M:List En}{j:Nat}(h:j<M.length):M[j]?=some (at_ M j):=by
 unfold at_;rw[aab,aac h];rfl
theorem lP{M:List En}{i:Nat}(h:i<M.length)(x:En)(j:Nat):at_ (M.set i x) j=if j=i then x else at_ M j:=by
 unfold at_;rw[aab,aab,agy];by_cases e:i=j
 ·rw[if_pos e,if_pos h,if_pos e.symm];rfl
 rw[if_neg e,if_neg (λg=>e g.symm)]
def sw (M:List En)(i c:Nat):List En:=(M.set i (at_ M c)).set c (at_ M i)
theorem mD (M:List En)(i c:Nat):(sw M i c).length=M.length:=by unfold sw;simp
theorem D4{M:List En}{i c:Nat}(hi:i<M.length)(hc:c<M.length)(j:Nat):at_ (sw M i c) j=if j=c then at_ M i else if j=i then at_ M c else at_ M j:=by
 unfold sw;rw[lP (by simpa using hc),lP hi]
theorem JF{M:List En}{i c:Nat}(hi:i<M.length)(hc:c<M.length)(ne:i≠c):(sw M i c).Perm M:=by
 have h1:=iS (fV hi) (at_ M c);have h0:=iS (fV hi) (at_ M i);rw[gj (fV hi)]at h0;have qx:(M.set i (at_ M c))[c]?=some (at_ M c):=by rw[agy,if_neg ne];exact fV hc
 have h2:=iS qx (at_ M i);have h3:=iS qx (at_ M c);rw[gj qx]at h3;have h4:((M.set i (at_ M c)).eraseIdx c).Perm (M.eraseIdx i):=(abA.cons_inv (h3.symm.trans h1));exact h2.trans ((abA.cons _ h4).trans h0.symm)
theorem jd{j:Nat}(h:0<j):par j<j:=by unfold par;omega
theorem aiP{M:List En}{i:Nat}(H:Hx M i)(h0:0<i)(hi:i<M.length)(lt:En.lt (at_ M i) (at_ M (par i))):Hx (sw M i (par i)) (par i):=by
 have hu:=jd h0;have hul:par i<M.length:=by omega
 have A:=D4 hi hul;generalize hp:par i=u at*;refine⟨λj j0 jl n1 n2=> ?_,λj u0 jl j0 pj=> ?_⟩
 ·rw[mD]at jl
  have ji:j≠i:=λe=>n2 (by rw[e,hp]);rw[A,A,if_neg n2,if_neg n1,if_neg ji];by_cases e:par j=i
  ·rw[if_pos e,<-hp];exact H.b j h0 jl j0 e
  rw[if_neg e];exact H.a j j0 jl ji e
 rw[mD]at jl;have pu:=jd u0;have hpu:En.le (at_ M (par u)) (at_ M u):=H.a u u0 hul (by omega) (by omega);rw[A,A,if_neg (by omega),if_neg (by omega)];have ju:j≠u:=by have:=jd j0;omega
 rw[if_neg ju];by_cases e:j=i
 ·rw[if_pos e];exact hpu
 rw[if_neg e];refine En.le_trans hpu ?_;have:=H.a j j0 jl e (by omega)
 rwa[pj]at this
theorem Y9{M:List En}{i c:Nat}(H:Hx M i)(hi:i<M.length)(c0:0<c)(hc:c<M.length)(pc:par c=i)(mn:∀j,0<j->j<M.length->par j=i->En.le (at_ M c) (at_ M j))(le:En.le (at_ M c) (at_ M i)):
  Hx (sw M i c) c/\En.le (at_ (sw M i c) (par c)) (at_ (sw M i c) c):=by
 have A:=D4 hi hc;have hic:i<c:=by have:=jd c0;omega
 refine⟨⟨λj j0 jl n1 n2=> ?_,λj _ jl j0 pj=> ?_⟩, ?_⟩
 ·rw[mD]at jl
  rw[A,A,if_neg n2,if_neg n1];by_cases e:j=i
  ·have:=jd j0
   rw[if_neg (by omega),if_pos e,e];exact H.b c (by omega) hc c0 pc
  rw[if_neg e];by_cases e2:par j=i
  ·rw[if_pos e2];exact mn j j0 jl e2
  rw[if_neg e2];exact H.a j j0 jl e e2
 ·rw[mD]at jl
  have:=jd j0;rw[A,A,pc,if_neg (by omega),if_pos rfl,if_neg (by omega),if_neg (by omega)];have:=H.a j j0 jl (by omega) (by omega)
  rwa[pj]at this
 rw[A,A,pc,if_neg (by omega),if_pos rfl,if_pos rfl];exact le
theorem Za{M:List En}{i:Nat}(H:Hx M i)(u:0<i->En.le (at_ M (par i)) (at_ M i))(d:∀j,0<j->j<M.length->par j=i->En.le (at_ M i) (at_ M j)):z6 M:=λj j0 jl=>by
 by_cases e:j=i
 ·subst e;exact u j0
 by_cases e2:par j=i
 ·rw[e2];exact d j j0 jl e2
 exact H.a j j0 jl e e2
theorem Zc{M:List En}(H:z6 M)(i:Nat):Hx M i:=⟨λj j0 jl _ _=>H j j0 jl,λj i0 jl j0 e=>by
 have h1:=H j j0 jl;have hi:par j<M.length:=by have:=jd j0;omega
 rw[e]at h1 hi;exact En.le_trans (H i i0 hi) h1⟩
theorem Y8{M:List En}(H:z6 M)(x:En):Hx (M++ [x]) M.length:=by
 have a:∀j,j<M.length->at_ (M++ [x]) j=at_ M j:=λj h=>by
  unfold at_;rw[aab,aab,agC h]
 refine⟨λj j0 jl n1 _=> ?_,λj _ jl j0 e=> ?_⟩
 ·rw[aby,agm]at jl
  have:=jd j0;rw[a _ (by omega),a _ (by omega)];exact H j j0 (by omega)
 rw[aby,agm]at jl;have:=jd j0;omega
theorem A9{M:List En}(H:z6 M):z6 M.dropLast:=λj j0 jl=>by
 have a:∀j,j<M.dropLast.length->at_ M.dropLast j=at_ M j:=λj h=>by
  unfold at_;rw[aab,aab,akd,if_pos (by simpa using h)]
 have:=jd j0;rw[a _ (by omega),a _ jl];exact H j j0 (by rw[adr]at jl;omega)
theorem ad2{M:List En}(H:z6 M){i:Nat}(hi:i<M.length)(x:En):Hx (M.set i x) i:=by
 have A:=lP hi x;have Z:=Zc H i;refine⟨λj j0 jl n1 n2=> ?_,λj i0 jl j0 e=> ?_⟩
 ·rw[aak]at jl
  rw[A,A,if_neg n2,if_neg n1];exact H j j0 jl
 rw[aak]at jl;have:=jd i0;have:=jd j0;rw[A,A,if_neg (by omega),if_neg (by omega)];exact Z.b j i0 jl j0 e
end Wh
open Go Go.dC
theorem gQ (e:Value×Value)(es:List (Value×Value))(k:Value)[Decidable (e.1=k)]:uq (e::es) k=if e.1=k then some e.2 else uq es k:=by
 unfold uq;rw[List.find?_cons];by_cases h:e.1=k
 ·rw[if_pos h];simp[h]
 rw[if_neg h];simp[h]
theorem CY (k:Value):uq [] k=none:=rfl
theorem YT (es:List (Value×Value))(k v k':Value)(hn:∀e∈es,e.1≠k):uq (es++ [(k,v)]) k'=(by classical exact if k'=k then some v else uq es k'):=by
 classical
 induction es with
 |nil=>
  rw[List.nil_append,gQ,CY];by_cases h:k'=k
  ·rw[if_pos h.symm,if_pos h]
  rw[if_neg (λg=>h g.symm),if_neg h]
 |cons e es ih=>
  rw[List.cons_append,gQ,gQ,ih (λx hx=>hn x (aai _ hx))];by_cases h:e.1=k'
  ·rw[if_pos h,if_pos h,if_neg (λg=>hn e aag (h.trans g))]
  rw[if_neg h,if_neg h]
theorem YQ (es:List (Value×Value))(k v k':Value):uq (Dz es k v) k'=(by classical exact if k'=k then some v else uq es k'):=by
 classical
 by_cases hx:∃e∈es,e.1=k
 ·rw[Cz hx]
  have hk:uq es k≠none:=by
   obtain⟨e,he,hk⟩:=hx;intro g;simp only[uq,Option.map_eq_none_iff,List.find?_eq_none]at g;have:=g e he;simp[hk]at this
  clear hx
  induction es with
  |nil=>exact absurd (CY k) hk
  |cons e es ih=>
   rw[aaj,gQ,gQ];rw[gQ]at hk;by_cases h:e.1=k
   ·rw[if_pos h]
    by_cases g:k'=k
    ·rw[if_pos g,if_pos g.symm]
    rw[if_neg g,if_neg (λz=>g z.symm),if_neg (λz=>g (z.symm.trans h))]
    clear ih hk
    induction es with
    |nil=>rfl
    |cons x es ih=>
     rw[aaj,gQ,gQ,ih];by_cases hx:x.1=k
     ·rw[if_pos hx,if_neg (λz=>g z.symm),if_neg (λz=>g (z.symm.trans hx))]
     rw[if_neg hx]
   rw[if_neg h]at hk⊢;rw[ih hk];by_cases g:k'=k
   ·rw[if_pos g,if_pos g,if_neg (λz=>h (z.trans g))]
   rw[if_neg g,if_neg g]
 rw[CA (λe he g=>hx ⟨e,he,g⟩)];exact YT es k v k' (λe he g=>hx ⟨e,he,g⟩)
theorem YS (es:List (Value×Value))(k k':Value):uq (Gl es k) k'=(by classical exact if k'=k then none else uq es k'):=by
 classical
 unfold Gl;induction es with
 |nil=>by_cases h:k'=k<;>simp[h,CY]
 |cons e es ih=>
  rw[agd];by_cases h:e.1=k
  ·rw[if_neg (by simp[h]),ih,gQ]
   by_cases g:k'=k
   ·rw[if_pos g,if_pos g]
   rw[if_neg g,if_neg g,if_neg (λz=>g (z.symm.trans h))]
  rw[if_pos (by simp[h]),gQ,ih,gQ];by_cases g:k'=k
  ·rw[if_pos g,if_pos g,if_neg (λz=>h (z.trans g))]
  rw[if_neg g,if_neg g]
def zX (a b:Int):Int:=if a<b then-1 else if b<a then 1 else 0
theorem A7 (a:Int):aG aaa 238 [Dm Dl a] uT [] (λv H=>v= .bool false/\H= []):=by
 refine af func238 rfl ntmps238 rfl ?_;intro F _;refine bB ?_;refine Rt [] results238 ?_;exact⟨by rw[decide_eq_true rfl];rfl,rfl⟩
theorem Gc (a b:Int):aG aaa 167 [Dm Dl a,Dm Dl b] uT [] (λv H=>v=Dm Dl (zX a b)/\H= []):=by
 unfold zX;refine af func167 rfl ntmps167 rfl ?_;intro F _;refine bn ?_;refine zl Aa (A7 a) .nil Di ?_;refine bc ?_;refine zl Aa (A7 b) .nil Di ?_;refine cK ?_;refine bd ?_;refine az rfl ?_ ?_
 ·intro h1
  replace h1:=aO h1;refine bn ?_;refine Rt [] results167 ?_;exact⟨by rw[if_pos (by omega)],rfl⟩
 intro h1;replace h1:=aO h1;refine cV ?_;refine az rfl ?_ ?_
 ·intro h2
  replace h2:=aO h2;refine bn ?_;refine Rt [] results167 ?_;exact⟨by rw[if_neg (by omega),if_pos (by omega)],rfl⟩
 intro h2;replace h2:=aO h2;refine bs ?_;refine Rt [] results167 ?_;exact⟨by rw[if_neg (by omega),if_neg (by omega)],rfl⟩
theorem uh (a:Int):aG aaa 239 [Dm Dj a] uT [] (λv H=>v= .bool false/\H= []):=by
 refine af func239 rfl ntmps239 rfl ?_;intro F _;refine bB ?_;refine Rt [] results239 ?_;exact⟨by rw[decide_eq_true rfl];rfl,rfl⟩
theorem zy (a b:Int):aG aaa 168 [Dm Dj a,Dm Dj b] uT [] (λv H=>v=Dm Dl (zX a b)/\H= []):=by
 unfold zX;refine af func168 rfl ntmps168 rfl ?_;intro F _;refine bn ?_;refine zl Aa (uh a) .nil Di ?_;refine bc ?_;refine zl Aa (uh b) .nil Di ?_;refine cK ?_;refine bd ?_;refine az rfl ?_ ?_
 ·intro h1
  replace h1:=aO h1;refine bn ?_;refine Rt [] results168 ?_;exact⟨by rw[if_pos (by omega)],rfl⟩
 intro h1;replace h1:=aO h1;refine cV ?_;refine az rfl ?_ ?_
 ·intro h2
  replace h2:=aO h2;refine bn ?_;refine Rt [] results168 ?_;exact⟨by rw[if_neg (by omega),if_pos (by omega)],rfl⟩
 intro h2;replace h2:=aO h2;refine bs ?_;refine Rt [] results168 ?_;exact⟨by rw[if_neg (by omega),if_neg (by omega)],rfl⟩
theorem adJ (s x y:Int)(a:Nat):aG aaa 166 [.slice (some ⟨a,0,none⟩) 2 2] (In (ag a 3 [Dm Dl x,Dm Dl y])) [] (λv H=>v=Dm Dl (if x=0 then y else x)/\H= []):=by
 refine af func166 rfl ntmps166 rfl ?_;intro F ak;refine gJ ?_;refine Lo (ι:=Nat) (FN [2,1,5,1,8,9]) (λi=>i<=2/\(1<=i->x=0)/\(2<=i->y=0)) (λi=> [(8,Dm Dl i)]) (λi=> []) (λi=>2-i) (0) ⟨by omega,by omega,by omega⟩ ?_;rintro i hI;obtain⟨g1,g2,g3⟩:=hI;refine bq ?_;refine av ?_;by_cases h0:i=0
 ·subst h0
  refine bs ?_;refine Li (Ix rA) ?_;refine cV ?_;refine az rfl ?_ ?_
  ·intro h2
   replace h2:=aO h2;refine bB ?_;refine Rt [] results166 ?_;exact⟨by rw[if_neg (by omega)],rfl⟩
  intro h2;replace h2:=aO h2;refine bs ?_;refine aD ?_;refine Ro (1) (⟨by omega,λ_=>by omega,by omega⟩) (by omega)
 by_cases h1:i=1
 ·subst h1
  refine bs ?_;refine Li (Ix rA) ?_;refine cV ?_;refine az rfl ?_ ?_
  ·intro h2
   replace h2:=aO h2;refine bB ?_;refine Rt [] results166 ?_;exact⟨by rw[if_pos (g2 (by omega))],rfl⟩
  intro h2;replace h2:=aO h2;refine bs ?_;refine aD ?_;refine Ro (2) (⟨by omega,by omega,λ_=>by omega⟩) (by omega)
 refine cN ?_;refine bB ?_;refine Rt [] results166 ?_;exact⟨by rw[if_pos (g2 (by omega)),g3 (by omega)],rfl⟩
def eN (e:En):FJ:= [Dm Dj e.h,Dm Dl e.ex,Dm Dj e.tu]
def enV (e:En):Value:= .agg (eN e).toArray
def GF (a b:En):Int:=if zX (a.ex:Int) (b.ex:Int)=0 then zX (a.tu:Int) (b.tu:Int)else zX (a.ex:Int) (b.ex:Int)
theorem oq (a b:En):GF a b<0↔En.lt a b:=by
 unfold GF zX En.lt;split<;>(repeat' split)<;>(try split at*)<;>omega
theorem tQ (a b:En):aG aaa 116 [enV a,enV b] uT [] (λv H=>v=Dm Dl (GF a b)/\H= []):=by
 unfold enV eN;refine af func116 rfl ntmps116 rfl ?_;intro F _;refine aw ?_;refine Lp (oB λb1=> ?_);refine Lp (oB λb2=> ?_);refine bd ?_;refine av ?_;refine iU 13 mix (.cons .here (.cons .here .nil)) λF1 jD bV aI=> ?_;obtain⟨q1,q2,_⟩:=bV;refine bc ?_;refine Tp (oZ (Aa (n:=167)) (Gc (a.ex:Int) (b.ex:Int)) .nil Di ?_);refine bc ?_;refine Tp (oZ (Aa (n:=168)) (zy (a.tu:Int) (b.tu:Int)) .nil Di ?_);refine Tp (oT jI λb3=> ?_);refine Tp (oZ (Aa (n:=166)) (adJ 0 (zX (a.ex:Int) (b.ex:Int)) (zX (a.tu:Int) (b.tu:Int)) _) .nil (λ_ le ak=>ak.1) ?_);refine aw ?_;refine gI aI ?_;refine bd ?_;refine Rt [] results116 ?_;exact⟨rfl,rfl⟩
def IY (a:FL)(n c mb tn:Nat):FJ:= [.slice a n c, .map (some mb),Dm Dj tn]
def hv (h:Nat):Value:=Dm Dj h
def iv (i:Nat):Value:=Dm Dl i
theorem tg (w n c mb tn i:Nat)(a:FL)(x:En)(cs:FJ)(es:List (Value×Value))(hi:i<n)(hc:n*3<=cs.length)(ha:a.isSome=true):
  aG aaa 227 [Dk w,Dm Dl i,enV x] (In (ag w 200 (IY a n c mb tn))) [own a c 202 3 cs,mq (.int .u64) mb es]
   (λv H=>v= .tuple #[]/\H= [own a c 202 3 (cL cs (i*3) (eN x)),mq (.int .u64) mb (Dz es (hv x.h) (iv i))]):=by
 unfold enV;refine af func227 rfl ntmps227 rfl ?_;rintro F hw;unfold IY at hw;refine aw ?_;refine Lp (oB λb1=> ?_);refine aw ?_;refine av ?_;refine gT false mix ?_;refine bs ?_;refine Ti (Ix iB) ?_;refine Tp (oSON uX ?_ (vs:=eN x) (h1:=by simp[eN,Value.oneCell']) (hj:=by show _+3<=_;omega) (h0:=by show 0<3;omega));unfold eN;refine aw ?_;refine iU 8 mix (.cons .here .nil) λF1 jD bV aI=> ?_;obtain⟨q1,_⟩:=bV;replace hw:=In.mono hw jD;refine bK ?_;refine Tp (oQi T.p9 ?_);refine gI aI ?_;refine Tn ?_;refine jU [own a c 202 3 (cL cs (i*3) (eN x)),mq (.int .u64) mb (Dz es (hv x.h) (iv i))] results227 ?_;exact⟨rfl,rfl⟩
namespace Wh
def Nd (M:List En):Prop:=(M.map En.h).Nodup
def PZ (es:List (Value×Value))(pl:Nat->FK):Prop:=∀h,uq es (hv h)=(pl h).map iv
def iE (pl:Nat->FK)(h j:Nat):Nat->FK:=λx=>if x=h then some j else pl x
def del (pl:Nat->FK)(h:Nat):Nat->FK:=λx=>if x=h then none else pl x
theorem B0{a b:Nat}:hv a=hv b↔a=b:=by
 unfold hv;constructor
 ·intro h;injection h with _ h;omega
 intro h;rw[h]
theorem PZ.iE{es:List (Value×Value)}{pl:Nat->FK}(R:PZ es pl)(h j:Nat):PZ (Dz es (hv h) (iv j)) (iE pl h j):=λx=>by
 rw[YQ];unfold Wh.iE;by_cases e:x=h
 ·rw[if_pos (B0.2 e),if_pos e];rfl
 rw[if_neg (λg=>e (B0.1 g)),if_neg e];exact R x
theorem PZ.del{es:List (Value×Value)}{pl:Nat->FK}(R:PZ es pl)(h:Nat):PZ (Gl es (hv h)) (del pl h):=λx=>by
 rw[YS];unfold Wh.del;by_cases e:x=h
 ·rw[if_pos (B0.2 e),if_pos e];rfl
 rw[if_neg (λg=>e (B0.1 g)),if_neg e];exact R x
theorem xT{M:List En}(N:Nd M){j k:Nat}(hj:j<M.length)(hk:k<M.length)(e:(at_ M j).h=(at_ M k).h):j=k:=by
 have h1:=fV hj;have h2:=fV hk;exact iC N (x:=(at_ M j).h) (by rw[abD,h1];rfl) (by rw[abD,h2,e];rfl)
theorem jX{M L:List En}(p:L.Perm M)(N:Nd M):Nd L:=(p.map En.h).nodup_iff.2 N
structure WZ (M:List En)(i:Nat)(pl:Nat->FK):Prop where
 a:∀j,j<M.length->j≠i->pl (at_ M j).h=some j
 b:∀h,pl h≠none->∃k,k<M.length/\(at_ M k).h=h
structure wJ (M:List En)(pl:Nat->FK):Prop where
 a:∀j,j<M.length->pl (at_ M j).h=some j
 b:∀h,pl h≠none->∃k,k<M.length/\(at_ M k).h=h
theorem WZ.sw{M:List En}{i c:Nat}{pl:Nat->FK}(P:WZ M i pl)(N:Nd M)(hi:i<M.length)(hc:c<M.length)(ne:i≠c):WZ (sw M i c) c (iE pl (at_ M c).h i):=by
 have A:=D4 hi hc;refine⟨λj jl n=> ?_,λh g=> ?_⟩
 ·rw[mD]at jl
  rw[A,if_neg n];unfold iE;by_cases e:j=i
  ·rw[if_pos e,if_pos rfl,e]
  rw[if_neg e,if_neg (λz=>n (xT N jl hc z))];exact P.a j jl e
 unfold iE at g;rw[mD];by_cases e:h=(at_ M c).h
 ·exact⟨i,hi,by rw[A,if_neg ne,if_pos rfl,e]⟩
 rw[if_neg e]at g;obtain⟨k,k1,k2⟩:=P.b h g;by_cases e1:k=i
 ·exact⟨c,hc,by rw[A,if_pos rfl,<-e1,k2]⟩
 have e2:k≠c:=λz=>e (by rw[<-k2,z]);exact⟨k,k1,by rw[A,if_neg e2,if_neg e1,k2]⟩
theorem WZ.done{M:List En}{i:Nat}{pl:Nat->FK}(P:WZ M i pl)(N:Nd M)(hi:i<M.length):wJ M (iE pl (at_ M i).h i):=by
 refine⟨λj jl=> ?_,λh g=> ?_⟩
 ·unfold iE
  by_cases e:j=i
  ·rw[if_pos (by rw[e]),e]
  rw[if_neg (λz=>e (xT N jl hi z))];exact P.a j jl e
 unfold iE at g;by_cases e:h=(at_ M i).h
 ·exact⟨i,hi,e.symm⟩
 rw[if_neg e]at g;exact P.b h g
theorem wJ.none{M:List En}{pl:Nat->FK}(P:wJ M pl){h:Nat}(n:∀x∈M,x.h≠h):pl h=none:=by
 cases e:pl h with
 |none=>rfl
 |some j=>
  obtain⟨k,k1,k2⟩:=P.b h (by rw[e];simp);exact absurd k2 (n _ (aaf (fV k1)))
theorem wJ.at{M:List En}{pl:Nat->FK}(P:wJ M pl){x:En}(hx:x∈M):∃k,k<M.length/\at_ M k=x/\pl x.h=some k:=by
 obtain⟨k,hk,e⟩:=abS hx;have:at_ M k=x:=by
  have:=fV hk;rw[aac hk,e]at this;exact(Option.some.inj this).symm
 exact⟨k,hk,this,by rw[<-this];exact P.a k hk⟩
def cells (M:List En)(sp:FJ):FJ:=M.flatMap eN++sp
theorem lN:∀x,(eN x).length=3:=λ_=>rfl
theorem OG (M:List En)(sp:FJ):(cells M sp).length=M.length*3+sp.length:=by
 unfold cells;rw[aby]
 congr 1
 induction M with
 |nil=>rfl
 |cons a l ih=>rw[agz,aby,ih,lN,abU];omega
theorem ed (M:List En):(M.flatMap eN).length=M.length*3:=by
 have:=OG M [];unfold cells at this;simpa using this
theorem iP:∀{M:List En} {j:Nat} (x:En),j<M.length->cL (M.flatMap eN) (j*3) (eN x)=(M.set j x).flatMap eN
 |a::M,0,x,_=>by
  rw[agz,ml (by rw[aby,lN,lN];omega),List.set_cons_zero,agz];rfl
 |a::M,j+1,x,h=>by
  have ih:=iP (M:=M) (j:=j) x (by simpa using h);have hl:=ed M;have h2:j<M.length:=by simpa using h
  rw[ml (by rw[hl,lN];omega)]at ih;rw[agz,ml (by rw[aby,lN,lN,hl];omega),List.set_cons_succ,agz,<-ih];rw[show(j+1)*3=j*3+3 by omega,show j*3+3+(eN x).length=j*3+(eN x).length+3 by omega];rfl
theorem ie{M:List En}{j:Nat}(h:j<M.length):((M.flatMap eN).drop (j*3)).take 3=eN (at_ M j):=by
 have hl:=ed M;apply agJ;intro k;rw[List.getElem?_take];split
 ·next hk=>
  rw[List.getElem?_drop];have h3:k<(eN (at_ M j)).length:=hk;rw[bb lN (fV h) (aac h3)];exact(aac h3).symm
 next hk=>exact(aal (by rw[lN];omega)).symm
theorem Q5{M:List En}{i c:Nat}(y:En)(hi:i<M.length)(hc:c<M.length)(ne:i≠c):(M.set i y).set i (at_ M c)=(sw M i c).set c (at_ M c):=by
 unfold sw;rw[af6,af6];have h:(M.set i (at_ M c))[c]?=some (at_ M c):=by rw[agy,if_neg ne];exact fV hc
 exact(gj h).symm
end Wh
open Go Go.dC Go.Proofs.YtcbcjolpdljbiaaGreat.Wh
theorem Qh{P:Program}{n:Nat}{ds:Dq}{F:dG}{σ:aP}{o:Oper}{t yt:TypeId}{x y:Operand}{i:Nat}(hi:i<4611686018427387904)(ho:o.op= .binOp .quo t x y yt:=by exact rfl)(hx:bo σ x=some (Dm Dl ((i:Int)-1)):=by exact rfl)(hy:bo σ y=some (Dm Dl 2):=by exact rfl):Yv P n ds F σ o (Dm Dl (par i)):=
 xQ ho hx hy (by
  show(if(2:Int)=0 then none else some (IntKind.i64.wrap (((i:Int)-1).tdiv 2)))=_;rw[if_neg (by decide)];have:((i:Int)-1).tdiv 2=(par i:Int):=by
   unfold par;rcases i with _|i
   ·rfl
   rw[show(((i+1:Nat):Int)-1)=(i:Int) by omega,Nat.add_sub_cancel,Int.tdiv_eq_ediv_of_nonneg (by omega)];omega
  rw[this,wrap_i64 (by unfold par;omega)])
structure SI (L M:List En)(i:Nat)(e:En)(es:List (Value×Value))(pl:Nat->FK):Prop where
 hx:Hx M i
 pm:M.Perm L
 px:WZ M i pl
 pr:PZ es pl
 ln:M.length=L.length
 lt:i<M.length
 e:at_ M i=e
structure ajz (L M:List En)(es:List (Value×Value)):Prop where
 hp:z6 M
 pm:M.Perm L
 ok:∃pl,PZ es pl/\wJ M pl
theorem yW (w c mb tn i:Nat)(a:FL)(L:List En)(es:List (Value×Value))(pl:Nat->FK)(hi:i<L.length)(hx:Hx L i)(N:Nd L)(hp:WZ L i pl)(R:PZ es pl)(hm:L.length<4611686018427387904)(ha:a.isSome=true):
  aG aaa 241 [Dk w,Dm Dl i] uT [ag w 200 (IY a L.length c mb tn),own a c 202 3 (L.flatMap eN),mq (.int .u64) mb es]
   (λv H=>v= .tuple #[]/\∃M es',H= [ag w 200 (IY a L.length c mb tn),own a c 202 3 (M.flatMap eN),mq (.int .u64) mb es']/\ajz L M es'):=by
 have mP:=ed L;have Z8:=ie hi;unfold IY;have aaK:L.set i (at_ L i)=L:=gj (fV hi);obtain⟨e,he⟩:∃e,e=at_ L i:=⟨_,rfl⟩;rw[<-he]at Z8 aaK;refine af func241 rfl ntmps241 rfl ?_;intro F _;refine bs ?_;refine Li (Ix iB) ?_;refine aw ?_;refine Lp (oA xZ λb1=> ?_);refine Lp (jh uX ?_ (h1:=by simp[eN,Value.oneCell']));refine bn ?_;refine Li ((Qh (i:=i) (by omega))) ?_;refine bd ?_;refine eK (ι:=List En×Nat×List En×List (Value×Value)×(Nat->FK)) (FN [1,1,5,1,17,28]) (λs=>SI L s.1 s.2.1 e s.2.2.2.1 s.2.2.2.2/\(∃z,s.2.2.1=s.1.set s.2.1 z)/\(0<s.2.1->En.le (at_ s.1 (par s.2.1)) (at_ s.1 s.2.1))) (λs=> [(1,Dm Dl s.2.1)]) (λs=> [ag b1 202 (eN e),ag w 200 [.slice a L.length c, .map (some mb),Dm Dj tn],own a c 202 3 (s.2.2.1.flatMap eN),mq (.int .u64) mb s.2.2.2.1]) ?_ ?_
 ·refine qE ?_
  refine Lo (ι:=List En×Nat×List En×List (Value×Value)×(Nat->FK)) (FN [1,1,5,1,17,28]) (λs=>SI L s.1 s.2.1 e s.2.2.2.1 s.2.2.2.2/\∃z,s.2.2.1=s.1.set s.2.1 z) (λs=> [(1,Dm Dl s.2.1),(5,Dm Dl (par s.2.1))]) (λs=> [ag b1 202 (eN e),ag w 200 [.slice a L.length c, .map (some mb),Dm Dj tn],own a c 202 3 (s.2.2.1.flatMap eN),mq (.int .u64) mb s.2.2.2.1]) (λs=>s.2.1) ((L,i,L,es,pl)) ⟨⟨hx,abA.refl _,hp,R,rfl,hi,he.symm⟩,e,aaK.symm⟩ ?_;rintro⟨M,k,P,Gz,p1⟩ hI
  try dsimp only at hI⊢
  obtain⟨S,z,hP⟩:=hI;have hk:=S.lt;have Gw:=S.ln;have hPl:P.length=M.length:=by rw[hP,aak]
  have hfp:=ed P;have NM:=jX S.pm N;by_cases h0:0<k
  ·have WH:=jd h0
   have hft2:=ie (M:=P) (j:=par k) (by omega);have xA:at_ P (par k)=at_ M (par k):=by rw[hP,lP hk,if_neg (by omega)]
   rw[xA]at hft2;have Z5:=oq e (at_ M (par k));refine aw ?_;refine av ?_;refine iU 13 mix (.cons .here (.cons .here (.cons .here .nil))) λF1 jD bV aI=> ?_;obtain⟨q1,q2,q3,_⟩:=bV;have r3:=bX q3;refine bq ?_;refine zt 19 ?_;refine bs ?_;refine Ti (Ix iB) ?_;refine aw ?_;refine Tp (oZ (Aa (n:=116)) (tQ e (at_ M (par k))) .nil Di ?_);refine aw ?_;refine gI aI ?_;refine bd ?_;by_cases cJ:En.lt e (at_ M (par k))
   ·refine fe ?_ (e:=by exact decide_eq_true (Z5.2 cJ))
    refine dL ?_;refine Li (Ix iB) ?_;refine aw ?_;refine zl Aa (tg w L.length c mb tn k a (at_ M (par k)) (P.flatMap eN) Gz (by omega) (by omega) ha) (.cons (.t2 .here) (.cons (.t2 .here) .nil)) (λ_ le ak=>ak.nth 1 rfl) ?_;rw[Wh.iP _ (by omega)];refine bB ?_;refine Li ((Qh (i:=par k) (by omega))) ?_;refine aw ?_;refine aD ?_;refine Ro ((sw M k (par k),par k,P.set k (at_ M (par k)),Dz Gz (hv (at_ M (par k)).h) (iv k),iE p1 (at_ M (par k)).h k)) (⟨⟨aiP S.hx h0 hk (by rw[S.e];exact cJ),(JF hk (by omega) (by omega)).trans S.pm,S.px.sw NM hk (by omega) (by omega),S.pr.iE _ _,(by rw[mD];exact Gw),(show par k<(sw M k (par k)).length by rw[mD];omega),(by rw[D4 hk (by omega),if_pos rfl];exact S.e)⟩,at_ M (par k),(by rw[hP];exact Q5 z hk (by omega) (by omega))⟩) ((by dsimp only;omega))
   refine cN ?_ (e:=by exact decide_eq_false (λg=>cJ (Z5.1 g)));refine bc ?_;refine Me ((M,k,P,Gz,p1)) (⟨S,⟨z,hP⟩,λ_=>(by rw[S.e];exact En.vj cJ)⟩)
  obtain rfl:k=0:=by omega
  refine aw ?_;refine av ?_;refine iU 13 mix (.cons .here (.cons .here (.cons .here .nil))) λF2 zH eL dw=> ?_;obtain⟨q1,q2,q3,_⟩:=eL;refine bq ?_;refine zf 19 ?_ (e:=by rfl);refine bB ?_;refine gI dw ?_;refine bK ?_;refine Me ((M,0,P,Gz,p1)) (⟨S,⟨z,hP⟩,λh=>absurd h (Nat.lt_irrefl 0)⟩)
 rintro s hI;obtain⟨M0,k0,P0,es0,p0⟩:=s
 try dsimp only at hI⊢
 obtain⟨S0,z0,hu0⟩:=hI;refine av ?_;refine eK (ι:=List En×Nat×List En×List (Value×Value)×(Nat->FK)) (FN [1,1,6,1,45,62]) (λs=>(SI L s.1 s.2.1 e s.2.2.2.1 s.2.2.2.2/\(∃z,s.2.2.1=s.1.set s.2.1 z)/\(0<s.2.1->En.le (at_ s.1 (par s.2.1)) (at_ s.1 s.2.1)))/\∀j,0<j->j<s.1.length->par j=s.2.1->En.le e (at_ s.1 j)) (λs=> [(1,Dm Dl s.2.1)]) (λs=> [ag b1 202 (eN e),ag w 200 [.slice a L.length c, .map (some mb),Dm Dj tn],own a c 202 3 (s.2.2.1.flatMap eN),mq (.int .u64) mb s.2.2.2.1]) ?_ ?_
 ·refine qE ?_
  refine Lo (ι:=List En×Nat×List En×List (Value×Value)×(Nat->FK)) (FN [1,1,6,1,45,62]) (λs=>SI L s.1 s.2.1 e s.2.2.2.1 s.2.2.2.2/\(∃z,s.2.2.1=s.1.set s.2.1 z)/\(0<s.2.1->En.le (at_ s.1 (par s.2.1)) (at_ s.1 s.2.1))) (λs=> [(1,Dm Dl s.2.1)]) (λs=> [ag b1 202 (eN e),ag w 200 [.slice a L.length c, .map (some mb),Dm Dj tn],own a c 202 3 (s.2.2.1.flatMap eN),mq (.int .u64) mb s.2.2.2.1]) (λs=>L.length-s.2.1) ((M0,k0,P0,es0,p0)) ⟨S0,z0,hu0⟩ ?_;rintro⟨M,k,P,Gz,p1⟩ hI
  try dsimp only at hI⊢
  obtain⟨S,⟨z,hP⟩,hu⟩:=hI;have hk:=S.lt;have Gw:=S.ln;have hPl:P.length=M.length:=by rw[hP,aak]
  have hfp:=ed P;have NM:=jX S.pm N;refine cV ?_;refine av ?_;refine aA (t:=6) (v':=(Dm Dl (2*k+1:Nat))) rfl (by rfl) ?_;refine eK (ι:=Bool) (FN [48,27]) (λt=>t=decide (2*k+2<L.length/\En.lt (at_ M (2*k+2)) (at_ M (2*k+1)))) (λt=> [(74, .bool t)]) (λt=> [ag b1 202 (eN e),ag w 200 [.slice a L.length c, .map (some mb),Dm Dj tn],own a c 202 3 (P.flatMap eN),mq (.int .u64) mb Gz]) ?_ ?_
  ·by_cases h2:2*k+2<L.length
   ·have f1:=ie (M:=P) (j:=2*k+2) (by omega)
    have f2:=ie (M:=P) (j:=2*k+1) (by omega);rw[show at_ P (2*k+2)=at_ M (2*k+2) by rw[hP,lP hk,if_neg (by omega)]]at f1;rw[show at_ P (2*k+1)=at_ M (2*k+1) by rw[hP,lP hk,if_neg (by omega)]]at f2;have Z5:=oq (at_ M (2*k+2)) (at_ M (2*k+1));refine iU 26 mix (.cons .here (.cons .here (.cons .here .nil))) λF3 WC sP fJ=> ?_;obtain⟨q1,q2,q3,_⟩:=sP;have r3:=bX q3;refine cA ?_;refine zt 56 ?_;refine bs ?_;refine Ti (Ix iB (j:=2*k+2) (hj:=by omega)) ?_;refine bs ?_;refine Ti (Ix iB (j:=2*k+1) (hj:=by omega)) ?_;refine aw ?_;refine Tp (oZ (Aa (n:=116)) (tQ (at_ M (2*k+2)) (at_ M (2*k+1))) .nil Di ?_);refine aw ?_;refine gI fJ ?_;refine aw ?_;refine Tn ?_;refine Me ((decide (GF (at_ M (2*k+2)) (at_ M (2*k+1))<0))) ((decide_eq_decide.2 ⟨λg=>⟨h2,Z5.1 g⟩,λg=>Z5.2 g.2⟩))
   refine iU 26 mix (.cons .here (.cons .here (.cons .here .nil))) λF4 le4 LF rF=> ?_;obtain⟨q1,q2,q3,_⟩:=LF;refine cA ?_;refine zf 56 ?_;refine rh ?_;refine gI rF ?_;refine aw ?_;refine Tn ?_;refine Me (false) ((by rw[decide_eq_false (λg=>h2 g.1)]))
  rintro t ht;refine eK (ι:=Nat) [75,76,6] (λd=>(2*k+1<=d/\d<=2*k+2)/\∀j,0<j->j<M.length->par j=k->d<M.length/\En.le (at_ M d) (at_ M j)) (λd=> [(6,Dm Dl d)]) (λd=> [ag b1 202 (eN e),ag w 200 [.slice a L.length c, .map (some mb),Dm Dj tn],own a c 202 3 (P.flatMap eN),mq (.int .u64) mb Gz]) ?_ ?_
  ·refine az rfl ?_ ?_
   ·intro hc
    replace hc:=aO hc;rw[hc]at ht;have oV:=of_decide_eq_true ht.symm;refine bc ?_;refine aD ?_;refine Me ((2*k+2)) (⟨⟨(by omega),(by omega)⟩,λj j0 jl pj=>⟨(by omega),(by have hj:j=2*k+1\/j=2*k+2:=(by unfold par at pj;omega);rcases hj with rfl|rfl;exact En.le_of_lt oV.2;exact En.le_refl _)⟩⟩)
   intro hc;replace hc:=aO hc;rw[hc]at ht;have oV:=of_decide_eq_false ht.symm;refine aw ?_;refine Me ((2*k+1)) (⟨⟨(by omega),(by omega)⟩,λj j0 jl pj=>⟨(by unfold par at pj;omega),(by have hj:j=2*k+1\/j=2*k+2:=(by unfold par at pj;omega);rcases hj with rfl|rfl;exact En.le_refl _;exact En.vj λg=>oV ⟨(by omega),g⟩)⟩⟩)
  rintro d hd;refine aw ?_;refine av ?_;by_cases hdn:d<L.length
  ·have f1:=ie (M:=P) (j:=d) (by omega)
   rw[show at_ P d=at_ M d by rw[hP,lP hk,if_neg (by omega)]]at f1;have Z5:=oq e (at_ M d);refine iU 19 mix (.cons .here (.cons .here (.cons .here .nil))) λF5 le5 Xj vR=> ?_;obtain⟨q1,q2,q3,_⟩:=Xj;have r3:=bX q3;refine cV ?_;refine zf 84 ?_;refine bs ?_;refine Ti (Ix iB) ?_;refine aw ?_;refine Tp (oZ (Aa (n:=116)) (tQ e (at_ M d)) .nil Di ?_);refine bd ?_;refine gI vR ?_;refine aw ?_;by_cases cJ:En.lt e (at_ M d)
   ·refine fe ?_ (e:=by exact decide_eq_true (Z5.2 cJ))
    refine bn ?_;refine Me ((M,k,P,Gz,p1)) (⟨⟨S,⟨z,hP⟩,hu⟩,λj j0 jl pj=>En.le_trans (En.le_of_lt cJ) (hd.2 j j0 jl pj).2⟩)
   refine cN ?_ (e:=by exact decide_eq_false (λg=>cJ (Z5.1 g)));have hle:=En.vj cJ;have hpd:par d=k:=by unfold par;omega
   have hdw:=Y9 S.hx hk (c:=d) (by omega) (by omega) hpd (λj j0 jl pj=>(hd.2 j j0 jl pj).2) (by rw[S.e];exact hle);refine bB ?_;refine Li (Ix iB) ?_;refine aw ?_;refine zl Aa (tg w L.length c mb tn k a (at_ M d) (P.flatMap eN) Gz (by omega) (by omega) ha) (.cons (.t2 .here) (.cons (.t2 .here) .nil)) (λ_ le ak=>ak.nth 1 rfl) ?_;rw[Wh.iP _ (by omega)];refine bs ?_;refine Ro ((sw M k d,d,P.set k (at_ M d),Dz Gz (hv (at_ M d).h) (iv k),iE p1 (at_ M d).h k)) (⟨⟨hdw.1,(JF hk (by omega) (by omega)).trans S.pm,S.px.sw NM hk (by omega) (by omega),S.pr.iE _ _,(by rw[mD];exact Gw),(show d<(sw M k d).length by rw[mD];omega),(by rw[D4 hk (by omega),if_pos rfl];exact S.e)⟩,⟨at_ M d,(by rw[hP];exact Q5 z hk (by omega) (by omega))⟩,λ_=>hdw.2⟩) ((by dsimp only;omega))
  refine iU 19 mix (.cons .here (.cons .here (.cons .here .nil))) λF6 le6 hin6 ajv=> ?_;obtain⟨q1,q2,q3,_⟩:=hin6;refine cV ?_;refine zt 84 ?_;refine bP ?_;refine gI ajv ?_;refine bK ?_;refine Me ((M,k,P,Gz,p1)) (⟨⟨S,⟨z,hP⟩,hu⟩,λj j0 jl pj=>absurd (hd.2 j j0 jl pj).1 (by omega)⟩)
 rintro s hI;obtain⟨M,k,P,Gz,p1⟩:=s
 try dsimp only at hI⊢
 obtain⟨⟨S,⟨z,hP⟩,hu⟩,hch⟩:=hI;have hk:=S.lt;have Gw:=S.ln;have hPl:P.length=M.length:=by rw[hP,aak]
 have hfp:=ed P;have NM:=jX S.pm N;refine bc ?_;refine zl Aa (tg w L.length c mb tn k a e (P.flatMap eN) Gz (by omega) (by omega) ha) (.cons (.t2 .here) (.cons (.t2 .here) .nil)) (λ_ le ak=>ak.nth 1 rfl) ?_;rw[Wh.iP _ (by omega)];have hPM:P.set k e=M:=by
  rw[hP,af6];exact gj (by rw[fV hk,S.e])
 rw[hPM];refine aD ?_;refine jU [ag w 200 [.slice a L.length c, .map (some mb),Dm Dj tn],own a c 202 3 (M.flatMap eN),mq (.int .u64) mb (Dz Gz (hv e.h) (iv k))] results241 ?_;refine⟨rfl,M,Dz Gz (hv e.h) (iv k),rfl,Za S.hx hu (by rw[S.e];exact hch),S.pm,iE p1 e.h k,S.pr.iE _ _, ?_⟩;have:=S.px.done NM hk
 rwa[S.e]at this
structure PA where
 a:FL
 c:Nat
 mb:Nat
 es:List (Value×Value)
structure rU (M:List En)(y:PA)(tn:Nat):Prop where
 hp:z6 M
 nd:Nd M
 pl:∃pl,PZ y.es pl/\wJ M pl
 tu:∀x∈M,x.tu<=tn
 td:(M.map En.tu).Nodup
 sm:M≠ []->y.a.isSome=true
 ln:M.length<2147483648
 cp:M.length<=y.c
 ex:∀x∈M,0<x.ex
def zA (w:Nat)(y:PA)(M:List En)(tn:Nat):F8:= [ag w 200 (IY y.a M.length y.c y.mb tn),own y.a y.c 202 3 (M.flatMap eN),mq (.int .u64) y.mb y.es]
def Wl (w:Nat)(E:List En)(tn:Nat):aa:=λh=>∃y M,M.Perm E/\rU M y tn/\aB (zA w y M tn) h
def fb (E:List En)(h:Nat):List En:=E.filter λx=>decide (x.h≠h)
def lz (E:List En)(h ex tn:Nat):List En:=if 0<ex then⟨h,ex,tn+1⟩::fb E h else fb E h
def pI (E:List En)(f t:Nat):List En:=if f∈E.map En.h/\f≠t then(fb E t).map λx=>if x.h=f then{x with h:=t}else x else E
theorem yV{x:En}{M L:List En}(p:(x::L).Perm M)(N:Nd M):L.Perm (fb M x.h):=by
 have n2:Nd (x::L):=jX p N;unfold Nd at n2;rw[aaj,abB]at n2;have e:(x::L).filter (λz=>decide (z.h≠x.h))=L:=by
  rw[agd,if_neg (by simp),akn];intro z hz;simp only[decide_eq_true_eq];intro g;exact n2.1 (abF.2 ⟨z,hz,g⟩)
 have:=p.filter (λz=>decide (z.h≠x.h));rw[e]at this;exact this
theorem Tl{M:List En}{h:Nat}(n:∀x∈M,x.h≠h):fb M h=M:=by
 unfold fb;rw[akn];intro x hx;simpa using n x hx
theorem oG{M L:List En}(p:M.Perm L)(h:Nat):(fb M h).Perm (fb L h):=p.filter _
theorem AA{M:List En}{h:Nat}:∀x∈fb M h,x∈M/\x.h≠h:=λx hx=>by
 have:=abG.1 hx;exact⟨this.1,by simpa using this.2⟩
theorem QZ{M L:List En}{tn:Nat}{x:En}(p:(x::L).Perm M)(t:∀z∈M,z.tu<=tn)(d:(M.map En.tu).Nodup):(∀z∈L,z.tu<=tn)/\(L.map En.tu).Nodup:=by
 refine⟨λz hz=>t z (p.mem_iff.1 (aai _ hz)), ?_⟩;have:=(p.map En.tu).nodup_iff.2 d;rw[aaj,abB]at this;exact this.2
theorem C4{M:List En}(h:0<M.length):M=M.dropLast++ [at_ M (M.length-1)]:=by
 have h1:=List.dropLast_concat_getLast (l:=M) (by intro e;rw[e]at h;cases h);have h2:M.getLast (by intro e;rw[e]at h;cases h)=at_ M (M.length-1):=by
  have:=fV (M:=M) (j:=M.length-1) (by omega);rw[List.getLast_eq_getElem,<-Option.some_inj,<-this,aac]
 rw[<-h2];exact h1.symm
theorem Em{M:List En}{j:Nat}(h:j<M.length-1):at_ M.dropLast j=at_ M j:=by
 unfold at_;rw[aab,aab,akd,if_pos h]
theorem LY{M:List En}{pl:Nat->FK}(h:0<M.length)(N:Nd M)(P:wJ M pl):(at_ M (M.length-1)::M.dropLast).Perm M/\wJ M.dropLast (del pl (at_ M (M.length-1)).h):=by
 have hl:=C4 h;refine⟨?_,λj jl=> ?_,λk g=> ?_⟩
 ·exact(abN (l₁:= [at_ M (M.length-1)])).trans (by rw[<-hl])
 ·rw[adr]at jl
  rw[Em jl];unfold del;rw[if_neg (λe=>by have:=xT N (by omega) (by omega) e;omega)];exact P.a j (by omega)
 unfold del at g;by_cases e:k=(at_ M (M.length-1)).h
 ·rw[if_pos e]at g;exact absurd rfl g
 rw[if_neg e]at g;obtain⟨u,u1,u2⟩:=P.b k g;have ne:u≠M.length-1:=λz=>e (by rw[<-u2,z]);exact⟨u,by rw[adr];omega,by rw[Em (by omega)];exact u2⟩
theorem Ty{M:List En}{pl:Nat->FK}{i:Nat}(hi:i<M.length-1)(H:z6 M)(N:Nd M)(P:wJ M pl):
  (at_ M i::M.dropLast.set i (at_ M (M.length-1))).Perm M/\Hx (M.dropLast.set i (at_ M (M.length-1))) i/\WZ (M.dropLast.set i (at_ M (M.length-1))) i (iE (del pl (at_ M i).h) (at_ M (M.length-1)).h i):=by
 have hl:=C4 (M:=M) (by omega);have hd:i<M.dropLast.length:=by rw[adr];exact hi
 refine⟨?_,ad2 (A9 H) hd _,λj jl n=> ?_,λk g=> ?_⟩
 ·have h0:=iS (fV hd) (at_ M.dropLast i)
  rw[gj (fV hd),Em hi]at h0;have h1:=iS (fV hd) (at_ M (M.length-1));refine(abA.cons _ h1).trans ((abA.swap _ _ _).trans ((abA.cons _ h0.symm).trans ?_));exact(abN (l₁:= [at_ M (M.length-1)])).trans (by rw[<-hl])
 ·rw[aak,adr]at jl
  rw[lP hd,if_neg n,Em jl];unfold iE del;rw[if_neg (λe=>by have:=xT N (by omega) (by omega) e;omega),if_neg (λe=>n (xT N (by omega) (by omega) e))];exact P.a j (by omega)
 rw[aak,adr];unfold iE del at g;by_cases e:k=(at_ M (M.length-1)).h
 ·exact⟨i,hi,by rw[lP hd,if_pos rfl,e]⟩
 rw[if_neg e]at g;by_cases e2:k=(at_ M i).h
 ·rw[if_pos e2]at g;exact absurd rfl g
 rw[if_neg e2]at g;obtain⟨u,u1,u2⟩:=P.b k g;have n1:u≠M.length-1:=λz=>e (by rw[<-u2,z]);have n2:u≠i:=λz=>e2 (by rw[<-u2,z]);exact⟨u,by omega,by rw[lP hd,if_neg n2,Em (by omega)];exact u2⟩
theorem Zl{M:List En}(h:0<M.length):(M.flatMap eN).take ((M.length-1)*3)=M.dropLast.flatMap eN:=by
 have hl:=C4 h;have h2:M.flatMap eN=M.dropLast.flatMap eN++eN (at_ M (M.length-1)):=by
  have:M.flatMap eN=(M.dropLast++ [at_ M (M.length-1)]).flatMap eN:=by rw[<-hl]
  rw[this,agL];simp
 have h3:=Wh.ed M.dropLast;rw[adr]at h3;rw[h2,ajU (by omega),List.take_of_length_le (by omega)]
theorem XT{M:List En}{pl:Nat->FK}(P:wJ M pl)(x:En):WZ (M++ [x]) M.length pl:=by
 have a:∀j,j<M.length->at_ (M++ [x]) j=at_ M j:=λj h=>by
  unfold at_;rw[aab,aab,agC h]
 refine⟨λj jl n=> ?_,λh g=> ?_⟩
 ·rw[aby,agm]at jl
  rw[a j (by omega)];exact P.a j (by omega)
 obtain⟨k,k1,k2⟩:=P.b h g;exact⟨k,by rw[aby];omega,by rw[a k k1];exact k2⟩
structure TkOk (M:List En)(h tn:Nat)(y':PA)(M':List En):Prop where
 ok:rU M' y' tn
 pm:M'.Perm (fb M h)
theorem SD (a:FL)(m k:Nat):BJ a 0 m (0*k)=a:=by
 unfold BJ;split
 ·rfl
 ·rw[Nat.zero_mul];cases a<;>simp[add_zero']
theorem vg{M:List En}(h:0<M.length):M≠ []:=λe=>by rw[e]at h;cases h
theorem tH (w:Nat)(y:PA)(M:List En)(tn h:Nat)(W:rU M y tn):
  aG aaa 194 [Dk w,Dm Dj h] (λ_=>True) (zA w y M tn)
   (λv H=>∃y' M',v= .bool (decide (h∈M.map En.h))/\H=zA w y' M' tn/\TkOk M h tn y' M'):=by
 obtain⟨pl,R,P⟩:=W.pl;have hR:=R h;unfold hv at hR;by_cases hx:∃x∈M,x.h=h
 ·obtain⟨x,WD,Z0⟩:=hx
  obtain⟨i,hi,xA,hpl⟩:=P.at WD;rw[Z0]at hpl;rw[hpl,Option.map_some]at hR;have ak:h∈M.map En.h:=abF.2 ⟨x,WD,Z0⟩;have ha:=W.sm (λe=>by rw[e]at WD;cases WD);have mP:=Wh.ed M;have Gw:=W.ln;have hcp:=W.cp;have Z8:=Wh.ie (M:=M) (j:=M.length-1) (by omega);rw[decide_eq_true ak];unfold zA IY;generalize Z9:y.es=es at*;refine af func194 rfl ntmps194 rfl ?_;intro F _;refine cA ?_;refine Lp (Xa T.p9 ?_);refine bP ?_;rw[hR,Option.getD_some,Option.isSome_some];unfold iv;refine cA ?_;refine Lp (oQd T.p9 ?_);refine bB ?_;refine av ?_;refine aA (t:=7) (v':=(Dm Dl (M.length-1:Nat))) rfl (by(congr 1;omega)) ?_;refine bs ?_;refine Li (Ix iB) ?_;refine aw ?_;refine Lp (oA xZ λb1=> ?_);refine Lp (jh uX ?_ (h1:=by simp[eN,Value.oneCell']));refine cV ?_;refine Li (Sl 0 _ _ iB) ?_;refine bB ?_;rw[SD,ajO,ajO];refine Hh (H':= [ag b1 202 (eN (at_ M (M.length-1))),ag w 200 [.slice y.a (M.length-1) y.c, .map (some y.mb),Dm Dj tn],own y.a y.c 202 3 (M.flatMap eN),mq (.int .u64) y.mb (Gl es (Dm Dj h))]) ?_;refine au (λ_ s=>aE (λ_ s=>aE (λ_ s=>aZ (λ_ p=>yE p ((M.length-1)*3)) s) s) s) ?_;rw[Zl (by omega)];have PT:M.dropLast.length=M.length-1:=adr;have hfd:=Wh.ed M.dropLast;have R1:=R.del h;unfold hv at R1;have hnh:(at_ M i).h=h:=by rw[xA,Z0]
  by_cases hl:i<M.length-1
  ·obtain⟨t1,t2,t3⟩:=Ty hl W.hp W.nd P
   rw[hnh]at t3;have N2:Nd (M.dropLast.set i (at_ M (M.length-1))):=by
    have:=jX t1 W.nd;unfold Nd at this;rw[aaj,abB]at this;exact this.2
   have S:=QZ t1 W.tu W.td;have pm:=yV t1 W.nd;rw[hnh]at pm;have Ed:(M.dropLast.set i (at_ M (M.length-1))).length=M.length-1:=by rw[aak,PT]
   have st:=yW w y.c y.mb tn i y.a (M.dropLast.set i (at_ M (M.length-1))) (Dz (Gl es (Dm Dj h)) (hv (at_ M (M.length-1)).h) (iv i)) _ (by omega) t2 N2 t3 (R1.iE _ _) (by omega) ha;rw[Ed]at st;have hex:∀z∈M.dropLast.set i (at_ M (M.length-1)),0<z.ex:=λz hz=>W.ex z (t1.mem_iff.1 (aai _ hz));generalize hM2:M.dropLast.set i (at_ M (M.length-1))=M2 at*;refine fe ?_;refine bc ?_;refine zl Aa (tg w (M.length-1) y.c y.mb tn i y.a (at_ M (M.length-1)) (M.dropLast.flatMap eN) (Gl es (Dm Dj h)) (by omega) (by omega) ha) (.cons (.t2 .here) (.cons (.t2 .here) .nil)) (λ_ le ak=>ak.nth 1 rfl) ?_;rw[Wh.iP _ (by omega),hM2];refine bc ?_;refine Lp (oC Aa rfl rfl (st) (.cons (.t3 .here) (.cons .here (.cons .here .nil))) Di ?_);rintro v H' ⟨rfl,M3,es3,rfl,S3⟩;refine bR ?_;have l3:M3.length=M.length-1:=by rw[S3.pm.length_eq,Ed]
   rw[<-l3];refine bn ?_;refine Rt [ag w 200 [.slice y.a M3.length y.c, .map (some y.mb),Dm Dj tn],own y.a y.c 202 3 (M3.flatMap eN),mq (.int .u64) y.mb es3] results194 ?_;refine⟨⟨y.a,y.c,y.mb,es3⟩,M3,rfl,rfl,⟨S3.hp,jX S3.pm N2,S3.ok,λz hz=>S.1 z (S3.pm.mem_iff.1 hz),(S3.pm.map En.tu).nodup_iff.2 S.2,λ_=>ha,by omega,by show _<=y.c;omega,λz hz=>hex z (S3.pm.mem_iff.1 hz)⟩,S3.pm.trans pm⟩
  obtain rfl:i=M.length-1:=by omega
  obtain⟨t1,t2⟩:=LY (by omega) W.nd P;rw[hnh]at t2;have S:=QZ t1 W.tu W.td;have pm:=yV t1 W.nd;rw[hnh]at pm;have N2:Nd M.dropLast:=by
   have:=jX t1 W.nd;unfold Nd at this;rw[aaj,abB]at this;exact this.2
  rw[<-PT];refine cN ?_;refine bs ?_;refine Rt [ag w 200 [.slice y.a M.dropLast.length y.c, .map (some y.mb),Dm Dj tn],own y.a y.c 202 3 (M.dropLast.flatMap eN),mq (.int .u64) y.mb (Gl es (Dm Dj h))] results194 ?_;exact⟨⟨y.a,y.c,y.mb,Gl es (Dm Dj h)⟩,M.dropLast,rfl,rfl,⟨A9 W.hp,N2,⟨_,R1,t2⟩,S.1,S.2,λ_=>ha,by omega,by show _<=y.c;omega,λz hz=>W.ex z (t1.mem_iff.1 (aai _ hz))⟩,pm⟩
 have mc:∀x∈M,x.h≠h:=λx h1 h2=>hx ⟨x,h1,h2⟩;have ak:¬h∈M.map En.h:=λg=>by
  obtain⟨x,h1,h2⟩:=abF.1 g;exact hx ⟨x,h1,h2⟩
 rw[P.none mc,Option.map_none]at hR;rw[decide_eq_false ak];unfold zA IY;generalize Z9:y.es=es at*;refine af func194 rfl ntmps194 rfl ?_;intro F _;refine cA ?_;refine Lp (Xa T.p9 ?_);refine bP ?_;rw[hR,Option.getD_none,Option.isSome_none];refine bs ?_;refine Rt [ag w 200 [.slice y.a M.length y.c, .map (some y.mb),Dm Dj tn],own y.a y.c 202 3 (M.flatMap eN),mq (.int .u64) y.mb es] results194 ?_;exact⟨y,M,rfl,by rw[Z9],W,by rw[Tl mc]⟩
structure abr (M:List En)(h ex tn:Nat)(y':PA)(M':List En):Prop where
 ok:rU M' y' (if 0<ex then tn+1 else tn)
 pm:M'.Perm (lz M h ex tn)
theorem To (w:Nat)(y:PA)(M:List En)(tn h:Nat)(ex:Int)(W:rU M y tn)(he:ex<=0):
  aG aaa 173 [Dk w,Dm Dj h,Dm Dl ex] (λ_=>True) (zA w y M tn)
   (λv H=>∃y' M',v= .tuple #[]/\H=zA w y' M' tn/\abr M h 0 tn y' M'):=by
 unfold zA;refine af func173 rfl ntmps173 rfl ?_;intro F _;refine bq ?_;refine Lp (oC Aa rfl rfl (tH w y M tn h W) (.cons .here (.cons .here (.cons .here .nil))) Di ?_);rintro v H' ⟨y1,M1,rfl,rfl,T1⟩;refine bR ?_;refine bs ?_;refine fe ?_ (e:=by exact decide_eq_true he);refine bd ?_;refine Rt0 [ag w 200 (IY y1.a M1.length y1.c y1.mb tn),own y1.a y1.c 202 3 (M1.flatMap eN),mq (.int .u64) y1.mb y1.es] results173 ?_;exact⟨y1,M1,rfl,rfl,T1.ok,T1.pm⟩
theorem Xz (w:Nat)(y:PA)(M:List En)(tn h ex:Nat)(W:rU M y tn)(he:0<ex)(ht:tn<18446744073709551615)(hm:M.length<2147483647):
  aG aaa 173 [Dk w,Dm Dj h,Dm Dl ex] (λ_=>True) (zA w y M tn)
   (λv H=>∃y' M',v= .tuple #[]/\H=zA w y' M' (tn+1)/\abr M h ex tn y' M'):=by
 unfold zA;refine af func173 rfl ntmps173 rfl ?_;intro F _;refine bq ?_;refine Lp (oC Aa rfl rfl (tH w y M tn h W) (.cons .here (.cons .here (.cons .here .nil))) Di ?_);rintro v H' ⟨y1,M1,rfl,rfl,T1⟩;refine bR ?_;have W1:=T1.ok;have hl1:M1.length<=M.length:=by rw[T1.pm.length_eq];exact List.length_filter_le _ _
 have mP:=Wh.ed M1;refine Hh (H':= [ag w 200 [.slice y1.a M1.length y1.c, .map (some y1.mb),Dm Dj tn],own y1.a y1.c 202 3 (M1.flatMap eN),mq (.int .u64) y1.mb y1.es]) ?_;refine bs ?_;refine cN ?_;refine dL ?_;refine av ?_;refine iU 14 mix (.cons .here .nil) λF1 jD bV aI=> ?_;obtain⟨q1,_⟩:=bV;refine dL ?_;refine Tp (oT1 Cx λb1=> ?_);refine Tp (cm Cx Rb rfl rfl rfl rfl .here (by omega) (rfl) (by simp[cL,Value.cells,Value.oneCell']) (by omega) (by omega) rfl λa2 c2 qx=> ?_);refine gI aI ?_;obtain⟨x,hx⟩:∃x:En,x=⟨h,ex,tn+1⟩:=⟨_,rfl⟩;have PU:(M1++ [x]).flatMap eN=M1.flatMap eN++ [Dm Dj h,Dm Dl ex,Dm Dj ((tn:Int)+1)]:=by
  rw[agL,hx];rfl
 have hlen:(M1++ [x]).length=M1.length+1:=by simp
 have hnot:∀z∈M1,z.h≠h:=λz hz=>(AA z (T1.pm.mem_iff.1 hz)).2;have htu:=W1.tu;obtain⟨pl,R,P⟩:=W1.pl;have N2:Nd (M1++ [x]):=by
  unfold Nd;rw[af1,af4];refine⟨W1.nd,by simp,λu hu v hv e=> ?_⟩;obtain⟨z,hz,rfl⟩:=abF.1 hu;simp only[aaj,akT,abR]at hv;rw[hv,hx]at e;exact hnot z hz e
 refine dL ?_;refine aA (t:=40) (v':=(Dm Dl M1.length)) rfl (by(congr 1;omega)) ?_;refine Hh (H':= [ag w 200 [.slice a2 (M1.length+1) c2, .map (some y1.mb),Dm Dj ((tn:Int)+1)],own a2 c2 202 3 (M1.flatMap eN++ [Dm Dj h,Dm Dl ex,Dm Dj ((tn:Int)+1)]),mq (.int .u64) y1.mb y1.es]) ?_;rw[<-PU,<-hlen];refine mE (iK (.there .here) (λk o=>np o (by rw[Wh.ed,hlen];omega))) λha=> ?_;refine Lp (oC Aa rfl rfl (yW w c2 y1.mb (tn+1) M1.length a2 (M1++ [x]) y1.es pl (by omega) (Y8 W1.hp x) N2 (XT P x) R (by omega) ha) (.cons .here (.cons .here (.cons .here .nil))) Di ?_);rintro v H' ⟨rfl,M3,es3,rfl,S3⟩;refine bR ?_;have l3:M3.length=(M1++ [x]).length:=S3.pm.length_eq;rw[<-l3];refine aD ?_;refine jU [ag w 200 (IY a2 M3.length c2 y1.mb (tn+1)),own a2 c2 202 3 (M3.flatMap eN),mq (.int .u64) y1.mb es3] results173 ?_;have mem:∀z,z∈M3->z∈M1\/z=x:=λz hz=>by simpa using S3.pm.mem_iff.1 hz
 refine⟨⟨a2,c2,y1.mb,es3⟩,M3,rfl,rfl,⟨S3.hp,jX S3.pm N2,S3.ok,λz hz=> ?_,(S3.pm.map En.tu).nodup_iff.2 ?_,λ_=>ha,by omega,by show _<=c2;omega,λz hz=> ?_⟩, ?_⟩
 ·rw[if_pos he]
  rcases mem z hz with g|g
  ·have:=htu z g;omega
  rw[g,hx];exact aam _
 ·rw[af1,af4]
  refine⟨W1.td,by simp,λu hu v hv e=> ?_⟩;obtain⟨z,hz,rfl⟩:=abF.1 hu;simp only[aaj,akT,abR]at hv;rw[hv,hx]at e;have:=htu z hz;change z.tu=tn+1 at e;omega
 ·rcases mem z hz with g|g
  ·exact W1.ex z g
  rw[g,hx];exact he
 unfold lz;rw[if_pos he,<-hx];exact S3.pm.trans ((abN (l₂:= [x])).trans (abA.cons x T1.pm))
structure ajy (M:List En)(f t tn:Nat)(y':PA)(M':List En):Prop where
 ok:rU M' y' tn
 pm:M'.Perm (pI M f t)
def gH (f t:Nat)(x:En):En:=if x.h=f then{x with h:=t}else x
theorem aiK{M:List En}{y:PA}{tn f t i:Nat}{es2:List (Value×Value)}{pl:Nat->FK}(W:rU M y tn)(P:wJ M pl)(hi:i<M.length)(hf:(at_ M i).h=f)(ht:∀x∈M,x.h≠t)
  (R:PZ es2 (iE (del pl f) t i)):rU (M.set i {at_ M i with h:=t}) {y with es:=es2} tn/\M.set i {at_ M i with h:=t}=M.map (gH f t):=by
 have A:=lP hi {at_ M i with h:=t};have hl:(M.set i {at_ M i with h:=t}).length=M.length:=aak;have b0:=iS (fV hi) (at_ M i);rw[gj (fV hi)]at b0;have b1:=iS (fV hi) {at_ M i with h:=t};have mem:∀z∈M.set i {at_ M i with h:=t},∃x∈M,z.ex=x.ex/\z.tu=x.tu:=λz hz=>by
  rcases abE.1 (b1.mem_iff.1 hz)with e|e
  ·exact⟨at_ M i,aaf (fV hi),by rw[e],by rw[e]⟩
  exact⟨z,aj7 e,rfl,rfl⟩
 refine⟨⟨λj j0 jl=> ?_, ?_,⟨_,R,λj jl=> ?_,λh g=> ?_⟩,λz hz=> ?_, ?_,λ_=>W.sm (vg (by omega)),by rw[hl];exact W.ln,by rw[hl];exact W.cp,λz hz=> ?_⟩, ?_⟩
 ·rw[hl]at jl
  have h:=W.hp j j0 jl;have q:∀u,(at_ (M.set i {at_ M i with h:=t}) u).ex=(at_ M u).ex/\(at_ (M.set i {at_ M i with h:=t}) u).tu=(at_ M u).tu:=λu=>by
   rw[A];by_cases e:u=i
   ·rw[if_pos e,e];exact⟨rfl,rfl⟩
   rw[if_neg e];exact⟨rfl,rfl⟩
  unfold En.le at*;rw[(q j).1,(q j).2,(q (par j)).1,(q (par j)).2];exact h
 ·refine jX b1 ?_
  have n0:=jX b0.symm W.nd;unfold Nd at*;rw[aaj,abB]at n0⊢;refine⟨λg=> ?_,n0.2⟩;obtain⟨z,hz,e⟩:=abF.1 g;exact ht z (aj7 hz) e
 ·rw[hl]at jl
  rw[A];unfold iE del;by_cases e:j=i
  ·rw[if_pos e,if_pos rfl,e]
  have hj:=aaf (fV jl);rw[if_neg e,if_neg (ht _ hj),if_neg (λz=>e (xT W.nd jl hi (by rw[z,hf])))];exact P.a j jl
 ·rw[hl]
  unfold iE del at g;by_cases e:h=t
  ·exact⟨i,hi,by rw[A,if_pos rfl,e]⟩
  rw[if_neg e]at g;by_cases e2:h=f
  ·rw[if_pos e2]at g;exact absurd rfl g
  rw[if_neg e2]at g;obtain⟨u,u1,u2⟩:=P.b h g;have n1:u≠i:=λz=>e2 (by rw[<-u2,z,hf]);exact⟨u,u1,by rw[A,if_neg n1];exact u2⟩
 ·obtain⟨x,hx,_,e⟩:=mem z hz
  rw[e];exact W.tu x hx
 ·have n0:=(b0.map En.tu).nodup_iff.1 W.td
  rw[aaj]at n0;refine(b1.map En.tu).nodup_iff.2 ?_;rw[aaj];exact n0
 ·obtain⟨x,hx,e,_⟩:=mem z hz
  rw[e];exact W.ex x hx
 apply agJ;intro j;rw[agy,abD];by_cases e:i=j
 ·subst e
  rw[if_pos rfl,if_pos hi,fV hi,Option.map_some];unfold gH;rw[if_pos hf]
 rw[if_neg e];by_cases hj:j<M.length
 ·rw[fV hj,Option.map_some]
  unfold gH;rw[if_neg (λz=>e (xT W.nd hi hj (by rw[z,hf])))]
 rw[aal (by omega)];rfl
theorem Tq (w:Nat)(y:PA)(M:List En)(tn f t:Nat)(W:rU M y tn)(ft:f≠t):
  aG aaa 161 [Dk w,Dm Dj f,Dm Dj t] (λ_=>True) (zA w y M tn)
   (λv H=>∃y' M',v= .bool (decide (f∈M.map En.h))/\H=zA w y' M' tn/\ajy M f t tn y' M'):=by
 obtain⟨pl,R,P⟩:=W.pl;have hR:=R f;unfold hv at hR;by_cases ak:f∈M.map En.h
 ·obtain⟨x,WD,Z0⟩:=abF.1 ak
  obtain⟨i,hi,xA,hpl⟩:=P.at WD;rw[Z0]at hpl;rw[hpl,Option.map_some]at hR;rw[decide_eq_true ak];unfold zA;refine af func161 rfl ntmps161 rfl ?_;intro F _;unfold IY;refine cA ?_;refine Lp (Xa T.p9 ?_);refine bP ?_;rw[hR,Option.getD_some,Option.isSome_some];refine zf 22 ?_ (e:=by rfl);refine bn ?_;refine cN ?_;refine bn ?_;refine Lp (oC Aa rfl rfl (tH w y M tn t W) (.cons .here (.cons .here (.cons .here .nil))) Di ?_);rintro v H' ⟨y1,M1,rfl,rfl,T1⟩;refine bR ?_;have W1:=T1.ok;obtain⟨pl1,R1,P1⟩:=W1.pl;have OW:x∈M1:=T1.pm.mem_iff.2 (abG.2 ⟨WD,by simp only[decide_eq_true_eq];rw[Z0];exact ft⟩);obtain⟨j,hj,hatj,ahz⟩:=P1.at OW;rw[Z0]at ahz;have hR1:=R1 f;rw[ahz,Option.map_some]at hR1;unfold hv iv at hR1;have mP:=Wh.ed M1;have Z8:=Wh.ie (M:=M1) (j:=j) hj;have ha:=W1.sm (vg (by omega));refine Hh (H':= [ag w 200 [.slice y1.a M1.length y1.c, .map (some y1.mb),Dm Dj tn],own y1.a y1.c 202 3 (M1.flatMap eN),mq (.int .u64) y1.mb y1.es]) ?_;refine bK ?_;refine Lp (oQl T.p9 ?_);refine bd ?_;refine av ?_;rw[hR1,Option.getD_some];refine bs ?_;refine Li (Ix iB) ?_;refine aw ?_;refine Lp (oA xZ λb1=> ?_);refine Lp (jh uX ?_ (h1:=by simp[eN,Value.oneCell']));refine aw ?_;refine av ?_;unfold eN;refine bn ?_;refine av ?_;refine Hh (H':= [ag b1 202 (eN {at_ M1 j with h:=t}),ag w 200 [.slice y1.a M1.length y1.c, .map (some y1.mb),Dm Dj tn],own y1.a y1.c 202 3 (M1.flatMap eN),mq (.int .u64) y1.mb y1.es]) ?_;refine bs ?_;refine Lp (oQd T.p9 ?_);refine bn ?_;refine zl Aa (tg w M1.length y1.c y1.mb tn j y1.a {at_ M1 j with h:=t} (M1.flatMap eN) (Gl y1.es (hv f)) (by omega) (by omega) ha) (.cons (.t2 .here) (.cons (.t2 .here) .nil)) (λ_ le ak=>ak.nth 1 rfl) ?_;rw[Wh.iP _ (by omega)];have Wj:∀z∈M1,z.h≠t:=λz hz=>(AA z (T1.pm.mem_iff.1 hz)).2;have hfj:(at_ M1 j).h=f:=by rw[hatj,Z0]
  obtain⟨V,eV⟩:=aiK W1 P1 hj hfj Wj ((R1.del f).iE t j);have DF:(M1.set j {at_ M1 j with h:=t}).length=M1.length:=aak;have pm:(M1.set j {at_ M1 j with h:=t}).Perm (pI M f t):=by
   rw[eV];unfold pI;rw[if_pos ⟨ak,ft⟩];exact T1.pm.map _
  generalize M1.set j {at_ M1 j with h:=t}=M2 at*;rw[<-DF];refine bn ?_;refine Rt [ag w 200 [.slice y1.a M2.length y1.c, .map (some y1.mb),Dm Dj tn],own y1.a y1.c 202 3 (M2.flatMap eN),mq (.int .u64) y1.mb (Dz (Gl y1.es (hv f)) (hv t) (iv j))] results161 ?_;exact⟨⟨y1.a,y1.c,y1.mb,_⟩,M2,rfl,rfl,V,pm⟩
 have mc:∀x∈M,x.h≠f:=λx h1 h2=>ak (abF.2 ⟨x,h1,h2⟩);rw[P.none mc,Option.map_none]at hR;rw[decide_eq_false ak];unfold zA IY;generalize Z9:y.es=es at*;refine af func161 rfl ntmps161 rfl ?_;intro F _;refine cA ?_;refine Lp (Xa T.p9 ?_);refine bP ?_;rw[hR,Option.getD_none,Option.isSome_none];refine zt 22 ?_ (e:=by rfl);refine dL ?_;refine Rt [ag w 200 [.slice y.a M.length y.c, .map (some y.mb),Dm Dj tn],own y.a y.c 202 3 (M.flatMap eN),mq (.int .u64) y.mb es] results161 ?_;exact⟨y,M,rfl,by rw[Z9],W,by unfold pI;rw[if_neg (λg=>ak g.1)]⟩
theorem G9{P:Program}{f:FuncId}{args:FJ}{pre:Hp->Prop}{H:F8}{R:Dp}{w tn:Nat}{E:List En}(h:∀y M,M.Perm E->rU M y tn->aG P f args pre (zA w y M tn++H) R):aG P f args pre (Wl w E tn::H) R:=
 aG.exL λy=>aG.exL λM=>aG.D8 λp=>aG.D8 λW=>aG.GV (h y M p W)
theorem tF{w tn:Nat}{E M:List En}{y:PA}{H:F8}{h:Hp}(p:M.Perm E)(W:rU M y tn)(st:ai (zA w y M tn++H) h):ai (Wl w E tn::H) h:=
 aZ (λ_ s=>⟨y,M,p,W,s⟩) (dZ st)
theorem acv{w tn:Nat}{E:List En}{h:Hp}(o:In (Wl w E tn) h):∃y M,M.Perm E/\rU M y tn/\gG (zA w y M tn) h:=by
 obtain⟨k,⟨y,M,p,W,st⟩,le⟩:=o;exact⟨y,M,p,W,cj st le⟩
theorem J6{M E:List En}(p:M.Perm E)(h:Nat):decide (h∈M.map En.h)=decide (h∈E.map En.h):=decide_eq_decide.2 (p.map En.h).mem_iff
theorem V6 (w:Nat)(E:List En)(tn h:Nat):
  aG aaa 194 [Dk w,Dm Dj h] uT [Wl w E tn]
   (λv H=>v= .bool (decide (h∈E.map En.h))/\H= [Wl w (fb E h) tn]):=by
 refine G9 λy M p W=>(tH w y M tn h W).out λv H' hr=> ?_;obtain⟨y1,M1,rfl,rfl,T⟩:=hr;exact⟨_,⟨by rw[J6 p],rfl⟩,λk s=>tF (T.pm.trans (oG p h)) T.ok (by simpa using s)⟩
theorem AB{M E:List En}(p:M.Perm E)(h ex tn:Nat):(lz M h ex tn).Perm (lz E h ex tn):=by
 unfold lz;split
 ·exact abA.cons _ (oG p h)
 exact oG p h
theorem KV (w:Nat)(E:List En)(tn h:Nat)(ex:Nat)(ht:tn<18446744073709551615)(hm:E.length<2147483647):
  aG aaa 173 [Dk w,Dm Dj h,Dm Dl ex] uT [Wl w E tn]
   (λv H=>v= .tuple #[]/\H= [Wl w (lz E h ex tn) (if 0<ex then tn+1 else tn)]):=by
 refine G9 λy M p W=> ?_;by_cases he:0<ex
 ·refine(Xz w y M tn h ex W he ht (by rw[p.length_eq];exact hm)).out λv H' hr=> ?_
  obtain⟨y1,M1,rfl,rfl,T⟩:=hr;have ok:=T.ok;rw[if_pos he]at ok⊢;exact⟨_,⟨rfl,rfl⟩,λk s=>tF (T.pm.trans (AB p h ex tn)) ok (by simpa using s)⟩
 obtain rfl:ex=0:=by omega
 refine(To w y M tn h 0 W (by omega)).out λv H' hr=> ?_;obtain⟨y1,M1,rfl,rfl,T⟩:=hr;have ok:=T.ok;rw[if_neg he]at ok⊢;exact⟨_,⟨rfl,rfl⟩,λk s=>tF (T.pm.trans (AB p h 0 tn)) ok (by simpa using s)⟩
theorem H3{M E:List En}(p:M.Perm E)(f t:Nat):(pI M f t).Perm (pI E f t):=by
 unfold pI;have e:(f∈M.map En.h)↔(f∈E.map En.h):=(p.map En.h).mem_iff;by_cases h:f∈M.map En.h/\f≠t
 ·rw[if_pos h,if_pos ⟨e.1 h.1,h.2⟩]
  exact(oG p t).map _
 rw[if_neg h,if_neg (λg=>h ⟨e.2 g.1,g.2⟩)];exact p
theorem V7 (w:Nat)(E:List En)(tn f t:Nat)(ft:f≠t):
  aG aaa 161 [Dk w,Dm Dj f,Dm Dj t] uT [Wl w E tn]
   (λv H=>v= .bool (decide (f∈E.map En.h))/\H= [Wl w (pI E f t) tn]):=by
 refine G9 λy M p W=>(Tq w y M tn f t W ft).out λv H' hr=> ?_;obtain⟨y1,M1,rfl,rfl,T⟩:=hr;exact⟨_,⟨by rw[J6 p],rfl⟩,λk s=>tF (T.pm.trans (H3 p f t)) T.ok (by simpa using s)⟩
theorem ZQ:aG aaa 110 [] uT [] (λv H=>∃w,v=Dk w/\H= [Wl w [] 0]):=by
 have h:aG aaa 110 [] uT [] (λv H=>∃w mb,v=Dk w/\H=zA w ⟨none,0,mb,[]⟩ [] 0):=by
  unfold zA IY;refine af func110 rfl ntmps110 rfl ?_;intro F _;refine bc ?_;refine Lp (oQm (.int .u64) λm1=> ?_);refine aw ?_;refine Lp (oB λb1=> ?_);refine bq ?_;refine eT 202 3 ?_;refine Rt [ag b1 200 [.slice none 0 0, .map (some m1),Dm Dj 0],own none 0 202 3 [],mq (.int .u64) m1 []] results110 ?_;exact⟨b1,m1,rfl,rfl⟩
 refine h.out λv H' hr=> ?_;obtain⟨w,mb,rfl,rfl⟩:=hr;refine⟨_,⟨w,rfl,rfl⟩,λk s=>tF (H:= []) (y:=⟨none,0,mb,[]⟩) (abA.refl []) ⟨λj h1 h2=>absurd h2 (agZ _),ag5,⟨λ_=>none,λh=>rfl,λj h=>absurd h (agZ _),λh g=>absurd rfl g⟩,(λx h=>by cases h),ag5,λh=>absurd rfl h,by decide,aam 0,(λx h=>by cases h)⟩ (by simpa using s)⟩
def rS (M:List En)(now:Int)(i:Nat):Bool:=decide (i<M.length)&&decide (((at_ M i).ex:Int)<=now)
def Pz (D:FH):FH:=D.flatMap λi=> [2*i+1,2*i+2]
theorem KL{D:FH}{j:Nat}:j∈Pz D↔0<j/\par j∈D:=by
 unfold Pz;rw[List.mem_flatMap];constructor
 ·rintro⟨i,hi,h⟩
  simp only[abE,agD,or_false]at h;have:0<j/\par j=i:=by unfold par;omega
  exact⟨this.1,by rw[this.2];exact hi⟩
 rintro⟨h0,hp⟩;exact⟨par j,hp,by simp only[abE,agD,or_false];unfold par;omega⟩
theorem VR (D:FH)(i:Nat):Pz (D++ [i])=Pz D++ [2*i+1,2*i+2]:=by unfold Pz;rw[agL];simp
structure Gn (M:List En)(now:Int)(k:Nat)(look D:FH):Prop where
 lk:look=0::Pz D
 dk:D=(look.take k).filter (rS M now)
 nd:look.Nodup
 kl:k<=look.length
theorem Gn.start (M:List En)(now:Int):Gn M now 0 [0] []:=⟨rfl,rfl,by simp,by simp⟩
theorem Gn.dN{M:List En}{now:Int}{k:Nat}{look D:FH}(B:Gn M now k look D):D.Nodup/\(∀i∈D,i<M.length)/\D.length<=M.length:=by
 have h1:D.Nodup:=by rw[B.dk];exact(B.nd.sublist (List.take_sublist _ _)).sublist agi
 have h2:∀i∈D,i<M.length:=λi hi=>by
  rw[B.dk]at hi;have:=(abG.1 hi).2;unfold rS at this;simp only[akB,decide_eq_true_eq]at this;exact this.1
 exact⟨h1,h2,nC _ _ h1 h2⟩
theorem ZH (D:FH):(Pz D).length=D.length*2:=by
 induction D with
 |nil=>rfl
 |cons a l ih=>
  have:Pz (a::l)= [2*a+1,2*a+2]++Pz l:=rfl;rw[this,aby,ih];simp;omega
theorem Gn.len{M:List En}{now:Int}{k:Nat}{look D:FH}(B:Gn M now k look D):look.length=D.length*2+1/\look.length<=2*M.length+1:=by
 have:=B.dN.2.2;have h:look.length=D.length*2+1:=by rw[B.lk,abU,ZH]
 exact⟨h,by omega⟩
theorem Gn.skip{M:List En}{now:Int}{k i:Nat}{look D:FH}(B:Gn M now k look D)(hk:look[k]?=some i)(hg:rS M now i=false):Gn M now (k+1) look D:=by
 have cJ:=(aad.1 hk).1;refine⟨B.lk, ?_,B.nd,cJ⟩;rw[agK,hk,agQ,<-B.dk];simp[hg]
theorem Gn.add{M:List En}{now:Int}{k i:Nat}{look D:FH}(B:Gn M now k look D)(hk:look[k]?=some i)(hg:rS M now i=true):Gn M now (k+1) (look++ [2*i+1,2*i+2]) (D++ [i]):=by
 have cJ:=(aad.1 hk).1;have hiD:i∉D:=λh=>by
  rw[B.dk]at h;have h2:=(abG.1 h).1;obtain⟨m,hm,e⟩:=abS h2;rw[List.getElem_take]at e;have hm2:=hm;rw[agU]at hm2;have h3:look[m]?=some i:=aad.2 ⟨by omega,e⟩;have:=iC B.nd h3 hk;rw[agU]at hm;omega
 have mc:∀j,0<j->par j=i->j∉look:=λj j0 pj h=>by
  rw[B.lk]at h;rcases abE.1 h with e|e
  ·omega
  have:=(KL.1 e).2;rw[pj]at this;exact hiD this
 refine⟨by rw[VR,B.lk];rfl, ?_, ?_,by rw[aby];omega⟩
 ·rw[ajU (by omega),agK,hk,agQ,<-B.dk]
  simp[hg]
 rw[af4];refine⟨B.nd,by simp,λa ha b hb e=> ?_⟩;subst e;simp only[abE,agD,or_false]at hb;exact mc a (by omega) (by unfold par;omega) ha
theorem Gn.done{M:List En}{now:Int}{k:Nat}{look D:FH}(H:z6 M)(B:Gn M now k look D)(hk:k=look.length):(D.map (at_ M)).Perm (M.filter λx=>decide ((x.ex:Int)<=now)):=by
 have hD:D=look.filter (rS M now):=by
  have:=B.dk
  rwa[hk,List.take_length]at this
 have all:∀i,rS M now i=true->i∈D:=λi=>by
  induction i using Nat.strongRecOn with
  |ind i ih=>
   intro hg;have ak:i∈look:=by
    rw[B.lk];rcases Nat.eq_zero_or_pos i with e|e
    ·rw[e];exact aag
    refine aai _ (KL.2 ⟨e,ih (par i) (jd e) ?_⟩);unfold rS at hg⊢;simp only[akB,decide_eq_true_eq]at hg⊢;have hle:=H i e hg.1;have:=jd e;refine⟨by omega, ?_⟩;unfold En.le at hle;omega
   rw[hD];exact abG.2 ⟨ak,hg⟩
 have hM:M=(abM M.length).map (at_ M):=by
  apply agJ;intro j;rw[abD];by_cases h:j<M.length
  ·rw[fV h,List.getElem?_range h];rfl
  rw[aal (by omega),aal (by rw[List.length_range];omega)];rfl
 have p1:D.Perm ((abM M.length).filter λi=>decide (((at_ M i).ex:Int)<=now)):=by
  refine(List.perm_ext_iff_of_nodup B.dN.1 (List.nodup_range.sublist agi)).2 λi=> ?_;rw[abG,List.mem_range];constructor
  ·intro h
   have h2:=(abG.1 (hD▸h)).2;unfold rS at h2;simpa using h2
  intro h;exact all i (by unfold rS;simpa using h)
 have p2:=p1.map (at_ M);have e:((abM M.length).filter λi=>decide (((at_ M i).ex:Int)<=now)).map (at_ M)=M.filter λx=>decide ((x.ex:Int)<=now):=by
  conv=>rhs;rw[hM]
  rw[List.filter_map];rfl
 rw[e]at p2;exact p2
noncomputable def iw (L:List En):List En:=L.mergeSort λx y=>decide (¬En.lt y x)
theorem eW (L:List En):(iw L).Perm L:=List.mergeSort_perm _ _
noncomputable def nY (E:List En)(now:Int)(most:Int):FH:=((iw (E.filter λx=>decide ((x.ex:Int)<=now))).take most.toNat).map En.h
def Dw (l:FH):FJ:=l.map λ(h:Nat)=>Value.int .u64 (h:Int)
def pT:Prop:=∀(a:FL) (cap:Nat) (L:List En),L.length<=cap->(L.map En.tu).Nodup->L.length<2147483648->aG aaa 115 [.slice a L.length cap, .func (.func 116) #[] #[]] uT [own a cap 202 3 (L.flatMap eN)] (λv H=>v= .tuple #[]/\H= [own a cap 202 3 ((iw L).flatMap eN)])
theorem XB (wN:pT)(w:Nat)(y:PA)(M:List En)(tn:Nat)(now most:Int)(W:rU M y tn):
  aG aaa 75 [Dk w,Dm Dl now,Dm Dl most] (gG (zA w y M tn)) []
   (λv H=>∃a c L,v= .slice a L.length c/\H= [own a c 104 1 (Dw L)]/\∃D:List En,D.Perm (M.filter λx=>decide ((x.ex:Int)<=now))/\L=((iw D).take most.toNat).map En.h):=by
 have Gw:=W.ln;unfold zA IY;refine af func75 rfl ntmps75 rfl ?_;rintro F ⟨hw,ho,_⟩;have hr:=bX ho;have mP:=Wh.ed M;refine bK ?_;refine Lp (oT jI λb1=> ?_);refine bs ?_;refine au (λ_ s=>aZ (λ_ p=>oI p 1 1 rfl (by decide)) s) ?_;refine eT 202 3 ?_;refine eK (ι:=FH×FL×Nat) (FN [7,4,15,48]) (λs=>(s.1.map (at_ M)).Perm (M.filter λx=>decide ((x.ex:Int)<=now))/\s.1.length<=M.length/\s.1.length<=s.2.2) (λs=> [(7, .slice s.2.1 s.1.length s.2.2)]) (λs=> [own s.2.1 s.2.2 202 3 ((s.1.map (at_ M)).flatMap eN)]) ?_ ?_
 ·refine qE ?_
  refine Lo (ι:=Nat×FH×FH×(FL×Nat)×(FL×Nat)) (FN [7,4,15,48]) (λs=>Gn M now s.1 s.2.1 s.2.2.1/\s.2.1.length<=s.2.2.2.1.2/\s.2.2.1.length<=s.2.2.2.2.2) (λs=> [(9,Dm Dl s.1),(8, .slice s.2.2.2.1.1 s.2.1.length s.2.2.2.1.2),(7, .slice s.2.2.2.2.1 s.2.2.1.length s.2.2.2.2.2)]) (λs=> [own s.2.2.2.2.1 s.2.2.2.2.2 202 3 ((s.2.2.1.map (at_ M)).flatMap eN),own s.2.2.2.1.1 s.2.2.2.1.2 3 1 (aY s.2.1)]) (λs=>2*M.length+1-s.1) ((0,[0],[],(some ⟨b1,0,none⟩,1),(none,0))) ⟨Gn.start M now,aam 1,aam 0⟩ ?_;rintro⟨k,look,D,⟨al,cl⟩,⟨ad,cd⟩⟩ hI
  try dsimp only at hI⊢
  obtain⟨B,cQ,hcd⟩:=hI;obtain⟨q1,q2⟩:=B.len;have q3:=B.dN.2.2;have uz:=B.kl;refine bK ?_;by_cases hk:k<look.length
  ·obtain⟨i,hi⟩:∃i,look[k]?=some i:=⟨look[k],aac hk⟩
   have hic:(aY look)[k]?=some (Dm Dl i):=by unfold aY;rw[abD,hi];rfl
   have hnl:(aY look).length=look.length:=ib look;refine mE (iK (.there .here) (λ_ o=>np o (by rw[hnl];omega))) λPu=> ?_;refine fe ?_;refine bK ?_;refine Li (Ix rA) ?_;refine gJ ?_;by_cases ak:i<M.length
   ·have Z8:=Wh.ie ak
    have hex:(M.flatMap eN)[i*3+1]?=some (Dm Dl ((at_ M i).ex)):=bb lN (fV ak) rfl;have ha:=W.sm (vg (by omega));refine zf 32 ?_;refine bn ?_;refine Li (Ix iB) ?_;refine Li (Fam Bc) ?_;refine bn ?_;by_cases hx:((at_ M i).ex:Int)<=now
    ·have hg:rS M now i=true:=by unfold rS;rw[decide_eq_true ak,decide_eq_true hx];rfl
     have B2:=B.add hi hg;have hfD:((D.map (at_ M)).flatMap eN).length=D.length*3:=by rw[Wh.ed,abI]
     refine cN ?_;refine cA ?_;refine Li (Ix iB) ?_;refine aw ?_;refine Lp (oT1 Cx λb2=> ?_);refine Lp (cm Cx Rb rfl rfl rfl rfl .here (by omega) (rfl) (by simp[eN,cL,Value.cells,Value.oneCell']) (by omega) (by omega) rfl λa2 c2 qx=> ?_);refine bB ?_;refine Lp (oT jI λb3=> ?_);refine Lp (cm jI xS rfl rfl rfl rfl (.there .here) (by omega) (rfl) (by simp[cL,Value.cells,Value.oneCell']) (by omega) (by omega) rfl λa3 c3 hc3=> ?_);refine cV ?_;refine aD ?_;have e1:((D++ [i]).map (at_ M)).flatMap eN=(D.map (at_ M)).flatMap eN++eN (at_ M i):=by rw[af1,agL];simp
     have e2:aY (look++ [2*i+1,2*i+2])=aY look++ [Dm Dl (2*(i:Int)+1),Dm Dl (2*(i:Int)+2)]:=by rw[lp];rfl
     have l1:(D++ [i]).length=D.length+1:=by simp
     have l2:(look++ [2*i+1,2*i+2]).length=look.length+2:=by simp
     refine Hh (H':= [own a2 c2 202 3 ((D.map (at_ M)).flatMap eN++eN (at_ M i)),own a3 c3 3 1 (aY look++ [Dm Dl (2*(i:Int)+1),Dm Dl (2*(i:Int)+2)])]) ?_;rw[<-e1,<-e2,<-l1,<-l2];refine Ro ((k+1,look++ [2*i+1,2*i+2],D++ [i],(a3,c3),(a2,c2))) (⟨B2,(by dsimp only;omega),(by dsimp only;omega)⟩) ((by dsimp only;omega))
    have hg:rS M now i=false:=by unfold rS;rw[decide_eq_false hx,Bool.and_false]
    refine fe ?_;refine cV ?_;refine aD ?_;refine Ro ((k+1,look,D,(al,cl),(ad,cd))) (⟨B.skip hi hg,cQ,hcd⟩) ((by dsimp only;omega))
   have hg:rS M now i=false:=by unfold rS;rw[decide_eq_false ak,Bool.false_and]
   refine zt 32 ?_;refine cK ?_;refine aw ?_;refine aD ?_;refine Ro ((k+1,look,D,(al,cl),(ad,cd))) (⟨B.skip hi hg,cQ,hcd⟩) ((by dsimp only;omega))
  refine cN ?_;refine bc ?_;refine Me ((D,ad,cd)) (⟨B.done W.hp (by omega),q3,hcd⟩)
 rintro s hI;obtain⟨D,ad,cd⟩:=s
 try dsimp only at hI⊢
 obtain⟨hp,hDl,hDc⟩:=hI;have hLl:(D.map (at_ M)).length=D.length:=abI ..;have hLt:((D.map (at_ M)).map En.tu).Nodup:=(hp.map En.tu).nodup_iff.2 (W.td.sublist (agi.map _));rw[<-hLl];rw[<-hLl]at hDl hDc;generalize D.map (at_ M)=L at*;have hsl:(iw L).length=L.length:=(eW L).length_eq;have hfS:=Wh.ed (iw L);obtain⟨m,hm⟩:∃m,m=min L.length most.toNat:=⟨_,rfl⟩;refine bd ?_;refine zl Aa (wN ad cd L hDc hLt (by omega)) (.cons .here .nil) Di ?_;generalize hS:iw L=S at*;refine bB ?_;refine Li Ma ?_;refine Li Mi ?_;refine aA (t:=70) (v':=(Dm Dl m)) rfl (by(congr 1;omega)) ?_;refine Li (Sl 0 _ _ iB) ?_;rw[SD,ajO,ajO];refine bq ?_;refine eT 104 1 ?_;refine aw ?_;refine Lo (ι:=Nat×FL×Nat) (FN [11,1,13,1,73,10]) (λs=>s.1<=m/\s.1<=s.2.2) (λs=> [(73,Dm Dl s.1),(11, .slice s.2.1 s.1 s.2.2)]) (λs=> [own s.2.1 s.2.2 104 1 (Dw ((S.take s.1).map En.h)),own ad cd 202 3 (S.flatMap eN)]) (λs=>m-s.1) ((0,none,0)) ⟨Nat.zero_le _,aam 0⟩ ?_;rintro⟨j,a,c⟩ hI
 try dsimp only at hI⊢
 have hj:=hI.1;by_cases hjm:j<m
 ·have Z8:=Wh.ie (M:=S) (j:=j) (by omega)
  have hx:=fV (M:=S) (j:=j) (by omega);have hh:(Dw ((S.take j).map En.h)).length=j:=by unfold Dw;rw[abI,abI,agU];omega
  have e1:Dw ((S.take (j+1)).map En.h)=Dw ((S.take j).map En.h)++ [Dm Dj ((at_ S j).h)]:=by
   unfold Dw;rw[agK,hx,af1,af1];rfl
  refine mE (iK (.there .here) (λ_ o=>np o (by omega))) λPu=> ?_;refine bq ?_;refine av ?_;refine fe ?_;refine bn ?_;refine Li (Ix iB) ?_;refine aw ?_;refine Lp (oA xZ λb4=> ?_);refine Lp (jh uX ?_ (h1:=by simp[eN,Value.oneCell']));refine aw ?_;rw[show eN (at_ S j)= [Dm Dj ((at_ S j).h),Dm Dl ((at_ S j).ex),Dm Dj ((at_ S j).tu)]from rfl];refine bc ?_;refine Lp (oT SV λb5=> ?_);refine Lp (cm SV adN rfl rfl rfl rfl (.there .here) (by omega) (rfl) (by simp[cL,Value.cells,Value.oneCell']) (by omega) (by omega) rfl λa2 c2 qx=> ?_);refine bK ?_;refine aD ?_;refine Hh (H':= [own a2 c2 104 1 (Dw ((S.take j).map En.h)++ [Dm Dj ((at_ S j).h)]),own ad cd 202 3 (S.flatMap eN)]) ?_;rw[<-e1];refine Ro ((j+1,a2,c2)) (⟨hjm,qx⟩) ((by dsimp only;omega))
 refine gK ?_;refine bd ?_;refine av ?_;refine cN ?_;refine bB ?_;obtain rfl:j=m:=by omega
 have e1:S.take j=S.take most.toNat:=by
  rw[akf,akf (i:=most.toNat),hsl,hm]
  congr 1;omega
 have hl:((S.take most.toNat).map En.h).length=j:=by rw[abI,agU];omega
 rw[e1,<-hl];refine Rt [own a c 104 1 (Dw ((S.take most.toNat).map En.h))] results75 ?_;exact⟨a,c,_,rfl,rfl,L,hp,by rw[hS]⟩
theorem aaz{R:En->En->Prop}:∀{L M:List En},L.Perm M->L.Pairwise R->M.Pairwise R->(∀a∈L,∀b∈L,R a b->R b a->a=b)->L=M
 | [],M,p,_,_,_=>(List.nil_perm.1 p).symm
 |a::L,[],p,_,_,_=>by have:=p.length_eq;simp at this
 |a::L,b::M,p,hl,hm,an=>by
  have e:a=b:=by
   have hb:b∈a::L:=p.mem_iff.2 aag;have ha:a∈b::M:=p.mem_iff.1 aag;rcases abE.1 hb with h|h
   ·exact h.symm
   rcases abE.1 ha with g|g
   ·exact g
   exact an a aag b hb ((agV.1 hl).1 b h) ((agV.1 hm).1 a g)
  subst e;rw[aaz (abA.cons_inv p) (agV.1 hl).2 (agV.1 hm).2 (λx hx y hy=>an x (aai _ hx) y (aai _ hy))]
theorem acR{L:List En}(d:(L.map En.tu).Nodup){a b:En}(ha:a∈L)(hb:b∈L)(e:a.tu=b.tu):a=b:=by
 obtain⟨i,hi,ea⟩:=abS ha;obtain⟨j,hj,eb⟩:=abS hb;have h1:(L.map En.tu)[i]?=some a.tu:=by rw[abD,aac hi,ea];rfl
 have h2:(L.map En.tu)[j]?=some a.tu:=by rw[abD,aac hj,eb,e];rfl
 have:=iC d h1 h2;subst this;rw[<-ea,<-eb]
theorem EE (L:List En):(iw L).Pairwise λx y=>¬En.lt y x:=by
 have h:=List.pairwise_mergeSort (le:=λx y:En=>decide (¬En.lt y x)) (λa b c h1 h2=>by
  simp only[decide_eq_true_eq]at*;unfold En.lt at*;omega) (λa b=>by
  simp only[Bool.or_eq_true,decide_eq_true_eq];unfold En.lt;omega) L
 refine h.imp λ{a b} g=> ?_;exact of_decide_eq_true g
theorem JI{L M:List En}(p:L.Perm M)(d:(M.map En.tu).Nodup)(hl:L.Pairwise λx y=>¬En.lt y x):L=iw M:=by
 have d2:(L.map En.tu).Nodup:=(p.map En.tu).nodup_iff.2 d;refine aaz (p.trans (eW M).symm) hl (EE M) λa ha b hb h1 h2=>acR d2 ha hb ?_;unfold En.lt at h1 h2;omega
theorem y5{L M:List En}(p:L.Perm M)(d:(M.map En.tu).Nodup):iw L=iw M:=JI ((eW L).trans p) d (EE L)
theorem ZS (wN:pT)(w:Nat)(E:List En)(tn:Nat)(now most:Int):
  aG aaa 75 [Dk w,Dm Dl now,Dm Dl most] (In (Wl w E tn)) []
   (λv H=>∃a c,v= .slice a (nY E now most).length c/\H= [own a c 104 1 (Dw (nY E now most))]):=by
 refine aG.Q9 (X:=∃y M,M.Perm E/\rU M y tn) (λk hk=> ?_) ?_
 ·obtain⟨y,M,p,W,_⟩:=acv hk
  exact⟨y,M,p,W⟩
 intro _;intro F W0 hk s;obtain⟨y,M,p,W,ak⟩:=acv hk;refine((XB wN w y M tn now most W) F W0 ak s).mono λe w' hh=> ?_;obtain⟨v,H',he,⟨a,c,L,rfl,rfl,D,hD,rfl⟩,st⟩:=hh;have hs:iw D=iw (E.filter λx=>decide ((x.ex:Int)<=now)):=by
  refine y5 (hD.trans (p.filter _)) ?_;exact((p.map En.tu).nodup_iff.1 W.td).sublist (agi.map _)
 refine⟨_,_,he,⟨a,c, ?_, ?_⟩,st⟩
 ·unfold nY;rw[hs]
 unfold nY;rw[hs]
end Go.Proofs.YtcbcjolpdljbiaaGreat
