/- Part Po1 of the proof. -/
import Derived.Test.YtcbcjolpdljbiaaGreatPo
import Derived.Test.YtcbcjolpdljbiaaGreatPq
set_option maxRecDepth 100000
open Nat renaming add_mul -> af0, zero_mul -> ajx, min_eq_left -> aks, le_refl -> aa0, add_comm -> aj2, add_le_add -> ajT, le_trans -> ai5, add_zero -> akD, mul_le_mul -> afG
open List renaming flatMap_cons -> af2, length_cons -> afn, range -> abb, filter_cons -> afT, map_cons -> aaX, sum_cons -> aa8, getD_cons_zero -> aj8, length_map -> adr, getElem?_eq_none -> aa7, mem_range -> afu, mem_map -> acA, mem_filter -> aba, getElem?_eq_getElem -> aaQ, getD_eq_getElem?_getD -> aaP, Pairwise -> agl, nodup_range -> akh, map_map -> ajr, sum -> akw, map_congr_left -> afr, mem_cons_of_mem -> aaW, mem_cons_self -> aaV, range_succ -> af7, map_append -> afy, sum_append -> age, map_nil -> akr, sum_nil -> aky
open Int renaming tmod_lt_of_pos -> ajw
open Go.Value renaming int -> CO
open Go.IntKind renaming i64 -> CN
namespace Go.Proofs.YtcbcjolpdljbiaaGreat
open Go Go.dG Go.Proofs.YtcbcjolpdljbiaaGreat.Cs
structure zq (k i:Nat):Prop where
 h:k<=i*1048577
theorem zq.add{k i n:Nat}(h:zq k i)(hn:n<=1048577):zq (k+n) (i+1):=⟨by
 have:=h.h;rw[af0];omega⟩
theorem zq.up{k i:Nat}(h:zq k i):zq k (i+1):=h.add (n:=0) (Nat.zero_le _)
structure ry where
 c:fe
 ka:Option Addr
 kc:Nat
 da:Option Addr
 dc:Nat
 mv:Value
 tick:Int
def Dj (d:ry):List Value:=fu d.c d.ka d.kc d.da d.dc d.mv++ [CO CN d.tick]
def rL (l:List ry):List Value:=l.flatMap Dj
structure xr (h:Hp)(d:ry):Prop where
 one:d.mv.oneCell'=true
 keys:gg h d.ka (iK d.c.keys)
 data:gg h d.da (ax d.c.data)
 kn:d.c.keys.length<=1048576
 kl:∀k∈d.c.keys,k.length<281474976710656
 ex:d.c.ex<9223372036854775808
 dn:d.c.data.length<140737488351232
 dl:d.c.dl<18446744073709551616
theorem EL (d:ry):(Dj d).length=12:=rfl
theorem J9 (l:List ry)(i:Nat)(x:ry)(h:l[i]?=some x):((rL l).drop (i*12)).take 12=Dj x:=by
 unfold rL
 induction l generalizing i with
 |nil=>simp at h
 |cons q r ih=>
  have hq:=EL q;rw[af2];cases i with
  |zero=>
   simp only[List.getElem?_cons_zero,Option.some.injEq]at h;subst h;rw[ajx,List.drop_zero,List.take_append_of_le_length (by omega),List.take_of_length_le (by omega)]
  |succ i=>
   rw[List.getElem?_cons_succ]at h;rw[List.drop_append,List.drop_of_length_le (by omega),List.nil_append,hq,show(i+1)*12-12=i*12 from by omega];exact ih i h
theorem Vc (l:List ry)(i:Nat)(x:ry)(h:l[i]?=some x)(o k:Nat)(hk:o+k<=12):((rL l).drop (i*12+o)).take k=((Dj x).drop o).take k:=by
 have e:=congrArg (λq=>(q.drop o).take k) (J9 l i x h);simp only[List.drop_take,List.drop_drop,List.take_take,aks (show k<=12-o by omega)]at e;exact e
theorem Va (l:List ry)(i:Nat)(x:ry)(h:l[i]?=some x)(j:Nat)(hj:j<12):(rL l)[i*12+j]?=(Dj x)[j]?:=by
 have e:=congrArg (·[j]?) (J9 l i x h);simp only[List.getElem?_take,if_pos hj,List.getElem?_drop]at e;exact e
theorem Vb (l:List ry):(rL l).length=l.length*12:=by
 unfold rL
 induction l with
 |nil=>rfl
 |cons q r ih=>rw[af2,List.length_append,ih,EL,afn];omega
theorem yy:∀l:List Bool,((abb l.length).filter λk=>l.getD k false).length=(l.map bN).sum
 | []=>rfl
 |b::l=>by
  have ih:=yy l;rw[afn,List.range_succ_eq_map,afT,aaX,aa8];have e:((abb l.length).map Nat.succ).filter (λk=>(b::l).getD k false)=((abb l.length).filter λk=>l.getD k false).map Nat.succ:=by
   rw[List.filter_map];rfl
  rw[e];cases b
  ·simp only[aj8,Bool.false_eq_true,if_false,adr,ih,bN]
   omega
  simp only[aj8,if_true,afn,adr,ih,bN];omega
theorem vP{C:Cs}(K:Ok C):C.bc=(abb C.n).map C.pg:=by
 apply List.ext_getElem?;intro i;by_cases hi:i<C.n
 ·rw[List.getElem?_map,List.getElem?_range hi,lT (by rw[K.pl];exact hi)]
  rfl
 rw[aa7 (by rw[K.pl];omega),aa7 (by rw[adr,List.length_range];omega)]
def tkL (C:Cs)(c:Nat):List Nat:=(abb C.n).flatMap λi=>if(C.pg i).own=true/\(C.pg i).cl=c then((abb (C.pg i).tk.length).filter λk=>(C.pg i).tk.getD k false).map (C.pA i)else []
theorem WQ{C:Cs}(K:Ok C){c p:Nat}:p∈tkL C c↔Live C p/\C.cl p=c:=by
 unfold tkL;rw[List.mem_flatMap]
 constructor
 ·rintro⟨i,hi,hp⟩
  rw[afu]at hi
  split at hp
  ·next ho=>
   obtain⟨k,hk,rfl⟩:=acA.1 hp;rw[aba,afu]at hk;have P:=K.pg _ (ey (by rw[K.pl];exact hi));obtain⟨e1,e2,a⟩:=mh K hi ho.1 (k:=k) (by rw[<-P.tl];exact hk.1);refine⟨⟨a, ?_⟩,by unfold Cs.cl;rw[e1];exact ho.2⟩;rw[e1,e2,aaQ hk.1];have:=hk.2;rw[aaP,aaQ hk.1]at this;exact congrArg some this
  cases hp
 rintro⟨L,hc⟩;refine⟨C.pn p,afu.2 L.i, ?_⟩;rw[if_pos ⟨L.own,hc⟩];refine acA.2 ⟨C.ix p, ?_,GA K L.toAt⟩;have ht:=L.tk;obtain⟨hk,e⟩:=List.getElem?_eq_some_iff.1 ht;rw[aba,afu];exact⟨hk,by rw[aaP,ht];rfl⟩
theorem KY{C:Cs}(K:Ok C)(c:Nat):(tkL C c).Nodup:=by
 have ao:∀i,i<C.n->∀p,p∈(if(C.pg i).own=true/\(C.pg i).cl=c then((abb (C.pg i).tk.length).filter λk=>(C.pg i).tk.getD k false).map (C.pA i)else [])->C.pn p=i:=by
  intro i hi p hp
  split at hp
  ·next ho=>
   obtain⟨k,hk,rfl⟩:=acA.1 hp;rw[aba,afu]at hk;have P:=K.pg _ (ey (by rw[K.pl];exact hi));exact(mh K hi ho.1 (k:=k) (by rw[<-P.tl];exact hk.1)).1
  cases hp
 unfold tkL;unfold List.Nodup;rw[List.pairwise_flatMap];refine⟨λi hi=> ?_, ?_⟩
 ·rw[afu]at hi
  split
  ·next ho=>
   have P:=K.pg _ (ey (by rw[K.pl];exact hi));rw[List.pairwise_map];have yR:((abb (C.pg i).tk.length).filter λk=>(C.pg i).tk.getD k false).Pairwise (·≠·):=agl.filter _ akh;refine agl.imp_of_mem ?_ yR;intro a b ha hb fN e;rw[aba,afu]at ha hb;have e1:=(mh K hi ho.1 (k:=a) (by rw[<-P.tl];exact ha.1)).2.1;have e2:=(mh K hi ho.1 (k:=b) (by rw[<-P.tl];exact hb.1)).2.1;rw[e,e2]at e1;exact fN e1.symm
  exact agl.nil
 refine agl.imp_of_mem ?_ (akh (n:=C.n));intro i j hi hj fN p hp q hq e;rw[afu]at hi hj;have e1:=ao i hi p hp;have e2:=ao j hj q hq;rw[e,e2]at e1;exact fN e1.symm
theorem WR{C:Cs}(K:Ok C){c:Nat}(hc:c<C.ae.length):(tkL C c).length=(C.rw c).dL:=by
 rw[K.ft c hc];unfold Cs.zI tkL;rw[vP K,List.length_flatMap,ajr];refine congrArg akw (afr λi hi=> ?_);rw[afu]at hi;have P:=K.pg _ (ey (by rw[K.pl];exact hi));show _=v7 c (C.pg i);unfold v7
 split
 ·rw[adr,yy,P.held]
 rfl
theorem E1{C:Cs}(K:Ok C){L:List Nat}(hn:L.Nodup)(hm:∀p,p∈L↔Live C p){c:Nat}(hc:c<C.ae.length):(L.filter λp=>decide (C.cl p=c)).length=(C.rw c).dL:=by
 rw[<-WR K hc];refine List.Perm.length_eq ((List.perm_ext_iff_of_nodup (agl.filter _ hn) (KY K c)).2 λp=> ?_);rw[aba,WQ K,hm p,decide_eq_true_eq]
theorem qH{α:Type}(f:α->Nat)(g:α->Nat):∀(L:List α) (n:Nat),(∀x∈L,g x<n)->((abb n).map λc=>((L.filter λx=>decide (g x=c)).map f).sum).sum=(L.map f).sum
 | [],n,_=>by
  have:∀m:List Nat,(m.map λ_=>0).sum=0:=λm=>by induction m with
   |nil=>rfl
   |cons a m ih=>simpa using ih
  simpa using this (abb n)
 |x::L,n,h=>by
  have ih:=qH f g L n λy hy=>h y (aaW _ hy);have hx:=h x aaV;rw[aaX,aa8,<-ih];have e:∀c,(((x::L).filter λy=>decide (g y=c)).map f).sum=(if g x=c then f x else 0)+((L.filter λy=>decide (g y=c)).map f).sum:=λc=>by
   rw[afT];by_cases hc:g x=c
   ·rw[if_pos (decide_eq_true hc),if_pos hc,aaX,aa8]
   rw[if_neg (by simpa using hc),if_neg hc,Nat.zero_add]
  rw[afr (g:=λc=>(if g x=c then f x else 0)+((L.filter λy=>decide (g y=c)).map f).sum) λc _=>e c];have s:∀(m:List Nat) (u v:Nat->Nat),(m.map λc=>u c+v c).sum=(m.map u).sum+(m.map v).sum:=λm u v=>by
   induction m with
   |nil=>rfl
   |cons a m ih=>simp only[aaX,aa8,ih];omega
  rw[s]
  congr 1
  have o:∀n k:Nat,k<n->((abb n).map λc=>if k=c then f x else 0).sum=f x:=λn k hk=>by
   induction n with
   |zero=>omega
   |succ n ih=>
    rw[af7,afy,age];by_cases FB:k<n
    ·rw[ih FB]
     simp[show k≠n by omega]
    have:k=n:=by omega
    subst this;have z:∀m,m<=k->((abb m).map λc=>if k=c then f x else 0).sum=0:=λm hm=>by
     induction m with
     |zero=>rfl
     |succ m ihm=>
      rw[af7,afy,age,ihm (by omega)];simp[show k≠m by omega]
    rw[z k (aa0 _)];simp
  exact o n (g x) hx
theorem bL.clM{B:Bx}{M:Mo}(O:bL B M)(p:Nat):B.C.cl p=M.C.cl p:=by rw[O.c];rfl
theorem bL.res{B:Bx}{M:Mo}(O:bL B M)(hh:M.hole=none){c:Nat}(hc:c<M.C.ae.length):(B.W.all.filter λp=>decide (M.C.cl p=c)).length=(M.C.rw c).dL:=by
 have h:=E1 O.k (L:=B.W.all) O.t.nd (λp=>by rw[O.lv p,hh];simp) (c:=c) (by rw[O.c];exact hc);rw[show(B.C.rw c).dL=(M.C.rw c).dL by rw[O.c];rfl]at h;rw[<-h]
 congr 1
 refine List.filter_congr λp _=> ?_;rw[O.clM p]
theorem bL.ag8{B:Bx}{M:Mo}(O:bL B M){p:Nat}(hp:p∈B.W.all):M.C.cl p<M.C.ae.length:=by
 have h:=(O.t.lv p hp).toAt.bn O.k;rw[<-O.clM p,show M.C.ae=B.C.ae by rw[O.c];rfl];exact h.1
theorem p9{α:Type}:∀L:List α,(L.map λ_=>1).sum=L.length
 | []=>rfl
 |x::L=>by rw[aaX,aa8,p9 L,afn,aj2]
theorem qG{α:Type}(f:α->Nat)(k:Nat):∀L:List α,(∀x∈L,f x=k)->(L.map f).sum=k*L.length
 | [],_=>by simp
 |x::L,h=>by
  rw[aaX,aa8,h x aaV,qG f k L λy hy=>h y (aaW _ hy),afn,Nat.mul_succ,aj2]
theorem BY{α:Type}(f g:α->Nat):∀L:List α,(∀x∈L,f x<=g x)->(L.map f).sum<=(L.map g).sum
 | [],_=>aa0 _
 |x::L,h=>by
  rw[aaX,aaX,aa8,aa8];exact ajT (h x aaV) (BY f g L λy hy=>h y (aaW _ hy))
theorem bL.len{B:Bx}{M:Mo}(O:bL B M)(hh:M.hole=none):((abb M.C.ae.length).map λc=>(M.C.rw c).dL).sum=M.n:=by
 rw[<-O.n,O.t.n,<-p9 B.W.all,<-qH (λ_=>1) M.C.cl B.W.all M.C.ae.length λp hp=>O.ag8 hp];refine congrArg akw (afr λc hc=> ?_);rw[p9,O.res hh (afu.1 hc)]
theorem bL.mC{B:Bx}{M:Mo}(O:bL B M){p:Nat}(hp:p∈B.W.all):59<=(M.it p).sz/\(M.it p).sz<=M.C.sz (M.C.cl p):=by
 have h1:=(O.t.it p hp).fits;have h2:=O.it p hp;have h3:=fL (O.lg p hp);have hk:(M.it p).key.length=kl B.C.A p:=by rw[<-h2];exact cD ..
 have hv:(M.it p).val.length=vl B.C.A p:=by rw[<-h2];exact cD ..
 have hs:B.C.sz (B.C.cl p)=M.C.sz (M.C.cl p):=by rw[O.clM p,O.c];rfl
 unfold I3.sz;rw[hs]at h1;omega
theorem bL.bytes{B:Bx}{M:Mo}(O:bL B M)(hh:M.hole=none):59*M.n<=M.v.eW/\M.v.eW<=((abb M.C.ae.length).map λc=>M.C.sz c*(M.C.rw c).dL).sum:=by
 rw[O.bt]
 constructor
 ·rw[<-O.n,O.t.n,<-qG (λ_=>59) 59 B.W.all λ_ _=>rfl]
  exact BY _ _ _ λp hp=>(O.mC hp).1
 refine ai5 (BY _ (λp=>M.C.sz (M.C.cl p)) _ λp hp=>(O.mC hp).2) (Nat.le_of_eq ?_);rw[<-qH (λp=>M.C.sz (M.C.cl p)) M.C.cl B.W.all M.C.ae.length λp hp=>O.ag8 hp];refine congrArg akw (afr λc hc=> ?_);rw[qG _ (M.C.sz c) _ λp hp=>by rw[aba,decide_eq_true_eq]at hp;rw[hp.2],O.res hh (afu.1 hc)]
theorem Ok.XB{C:Cs}(K:Ok C):((abb C.ae.length).map λc=>(C.rw c).pgs).sum+C.spare=C.n:=by
 have e1:∀c∈abb C.ae.length,(C.rw c).pgs=(((C.bc.filter λx=>x.own).filter λx=>decide (x.cl=c)).map λ_=>1).sum:=λc hc=>by
  rw[K.fp c (afu.1 hc),p9];unfold Cs.zI;generalize C.bc=L
  induction L with
  |nil=>rfl
  |cons x L ih=>
   rw[aaX,aa8,ih,afT];unfold uu;cases ho:x.own
   ·simp[ho]
   by_cases hx:x.cl=c
   ·simp[ho,hx,aj2]
   simp[ho,hx]
 rw[afr e1,qH (λ_=>1) (λx:Pg=>x.cl) (C.bc.filter λx=>x.own) C.ae.length λx hx=>by
  rw[aba]at hx;exact(K.pg x hx.1).cl hx.2,p9,K.sp,<-K.pl]
 unfold Cs.zI;generalize C.bc=L
 induction L with
 |nil=>rfl
 |cons x L ih=>
  rw[aaX,aa8,afT,afn];unfold y9 at*;cases ho:x.own
  ·simp[ho];omega
  simp[ho];omega
theorem Ok.Bj{C:Cs}(K:Ok C){c:Nat}(hc:c<C.ae.length):(C.rw c).dL<=(C.rw c).pgs*(C.aj/C.sz c):=by
 rw[K.ft c hc,K.fp c hc];unfold Cs.zI;have h:∀x∈C.bc,v7 c x<=uu c x*(C.aj/C.sz c):=λx hx=>by
  have P:=K.pg x hx;unfold v7 uu;by_cases ho:x.own=true/\x.cl=c
  ·rw[if_pos ho,if_pos ho,Nat.one_mul,P.held,<-ho.2,<-P.gl ho.1,<-P.tl]
   have:∀l:List Bool,(l.map bN).sum<=l.length:=λl=>by
    induction l with
    |nil=>exact aa0 _
    |cons b l ih=>
     rw[aaX,aa8,afn];have:bN b<=1:=by unfold bN;split<;>omega
     omega
   exact this _
  rw[if_neg ho,if_neg ho,ajx];exact aa0 _
 generalize C.bc=L at h
 induction L with
 |nil=>simp
 |cons x L ih=>
  rw[aaX,aa8,aaX,aa8,af0];exact ajT (h x aaV) (ih λy hy=>h y (aaW _ hy))
theorem Ok.leaves{C:Cs}(K:Ok C){j:Nat}(h1:∀i,(C.pg i).lv=true->i=j){c:Nat}(hc:c<C.ae.length):(C.rw c).pgs=(C.rw c).fZ+(if(C.pg j).lv=true/\(C.pg j).own=true/\(C.pg j).cl=c then 1 else 0):=by
 rw[K.fp c hc,K.fs c hc];unfold Cs.zI;rw[vP K,ajr,ajr];have e:∀n,((abb n).map (uu c∘C.pg)).sum=((abb n).map (yT c∘C.pg)).sum+(if j<n/\(C.pg j).lv=true/\(C.pg j).own=true/\(C.pg j).cl=c then 1 else 0):=λn=>by
  induction n with
  |zero=>simp
  |succ n ih=>
   rw[af7,afy,afy,age,age,ih];simp only[aaX,akr,aa8,aky,Function.comp_apply,akD];unfold uu yT;by_cases hj:j=n
   ·subst hj
    rw[if_neg (c:=j<j/\_) (by omega)];cases hl:(C.pg j).lv<;>cases ho:(C.pg j).own<;>by_cases cR:(C.pg j).cl=c<;>simp[hl,ho,cR]
   have hl:(C.pg n).lv=false:=by
    cases h:(C.pg n).lv
    ·rfl
    exact absurd (h1 n h).symm hj
   have e2:(j<n+1/\(C.pg j).lv=true/\(C.pg j).own=true/\(C.pg j).cl=c)↔(j<n/\(C.pg j).lv=true/\(C.pg j).own=true/\(C.pg j).cl=c):=by
    constructor<;>rintro⟨a,b⟩<;>exact⟨by omega,b⟩
   simp only[e2];cases ho:(C.pg n).own<;>by_cases cR:(C.pg n).cl=c<;>simp[hl,ho,cR]<;>omega
 rw[e]
 congr 1
 by_cases hj:j<C.n
 ·simp[hj]
 have mD:(C.pg j).own=false:=by
  unfold Cs.pg;rw[aaP,aa7 (by rw[K.pl];omega)];rfl
 simp[hj,mD]
end Go.Proofs.YtcbcjolpdljbiaaGreat
namespace Go.Proofs.YtcbcjolpdljbiaaGreat
open Go Go.dG Go.Proofs.YtcbcjolpdljbiaaGreat.Cs
structure Shq (C D:Cs):Prop where
 sz:D.ae=C.ae
 n:D.n=C.n
 ps:D.aj=C.aj
theorem Shq.trans{C D E:Cs}(a:Shq C D)(b:Shq D E):Shq C E:=⟨b.sz.trans a.sz,b.n.trans a.n,b.ps.trans a.ps⟩
structure Oz (R:Cs)(M:Mo):Prop where
 z:M.m.on=true->M.C.spare=0
 q:Shq R M.C
variable {R:Cs}
theorem Oz.ev{M N:Mo}(h:Oz R M)(E:Ev M N):Oz R N:=⟨λo=>by rw[E.g.sp];exact h.z (by rw[<-E.on];exact o),h.q.trans ⟨E.g.sz,E.g.n,E.g.ps⟩⟩
theorem Oz.of{M N:Mo}(h:Oz R M)(h1:N.m.on=M.m.on)(h2:N.C.spare=M.C.spare)(h3:Shq M.C N.C:=by exact⟨rfl,rfl,rfl⟩):Oz R N:=⟨λo=>by rw[h2];exact h.z (by rw[<-h1];exact o),h.q.trans h3⟩
theorem Oz.off{M N:Mo}(h0:Oz R M)(h:N.m.on=false)(h3:Shq M.C N.C:=by exact⟨rfl,rfl,rfl⟩):Oz R N:=⟨λo=>(by rw[h]at o;cases o),h0.q.trans h3⟩
theorem Oz.take{M N:Mo}{c r:Nat}(h:Oz R M)(e:M.take c=some (r,N)):Oz R N:=by
 unfold Mo.take at e
 split at e
 ·next p D hD=>
  cases e;unfold Cs.eD at hD
  split at hD
  ·cases hD;exact⟨h.z,h.q.trans ⟨rfl,rfl,rfl⟩⟩
  split at hD
  ·cases hD
  split at hD
  ·cases hD
   refine⟨λo=> ?_,h.q.trans ⟨rfl,rfl,rfl⟩⟩;have h0:=h.z o;show M.C.spare-1=0;omega
  cases hD
 cases e
theorem Oz.shift{M N:Mo}{p:Nat}(h:Oz R M)(e:M.shift p=some N):Oz R N:=by
 unfold Mo.shift at e
 split at e
 ·next r D hD=>
  cases e;exact(h.take hD).of rfl rfl
 cases e
theorem Oz.eh{M:Mo}(h:Oz R M):Oz R M.eh.2:=by
 unfold Mo.eh
 split
 ·exact h.off rfl
 split
 ·exact h.ev (Ev.ca _ _)
 split
 ·next N hN=>exact h.shift hN
 exact h.off rfl
theorem Oz.du:∀(f:Nat) {M:Mo},Oz R M->Oz R (M.du f).2
 |0,_,h=>h
 |f+1,M,h=>by
  unfold Mo.du
  split
  ·exact Oz.du f h.eh
  exact h.eh
theorem Oz.gF{M:Mo}(h:Oz R M)(aI:Int):Oz R (M.gF aI).2:=by
 have ht:Oz R M.fB:=h.of rfl rfl;unfold Mo.gF
 split
 ·exact h
 split
 ·exact Oz.du _ ht
 show Oz R M.fB.fH;unfold Mo.fH
 split
 ·exact ht
 next hs=>
 split
 ·exact ht
 split
 ·exact ht
 exact⟨λ_=>by
  show M.fB.C.spare=0;omega,ht.q.trans ⟨rfl,rfl,rfl⟩⟩
theorem Oz.beside{M:Mo}(h:Oz R M):Oz R M.beside:=by
 have h1:Ev M M.fw:= .rf rfl rfl;have h2:Ev M M.fw.jG:=(h1.trans (Ev.cN M.fw M.fw.k.now M.fw.v.p.c)).trans (.rf rfl rfl);exact((h.ev h2).gF M.fw.jG.v.p.m).of rfl rfl
theorem Oz.behind{M:Mo}(h:Oz R M)(hot warm:Nat)(k:List UInt8):Oz R (M.behind hot warm k):=(h.ev (Km hot warm M k)).beside
theorem Oz.mQ (hot warm:Nat):∀(l:List (List UInt8)) {M:Mo},Oz R M->Oz R (l.foldl (Mo.behind hot warm) M)
 | [],_,h=>h
 |k::l,_,h=>Oz.mQ hot warm l (h.behind hot warm k)
theorem Oz.last{M:Mo}(h:Oz R M)(c p:Nat):Oz R (M.last c p).2:=by
 unfold Mo.last
 split
 ·next r N hN=>exact(h.ev (Ev.ca _ _)).take hN
 exact h.ev (Ev.ca _ _)
theorem Oz.iy{M:Mo}(h:Oz R M)(c:Nat)(own:Option Nat):Oz R (M.iy c own).2:=by
 unfold Mo.iy;have h1:Oz R (M.aU {M.v.mt with lo:=cE (M.v.mt.lo+((M.pick c own).2.2:Int))}):=h.of rfl rfl;generalize M.aU _=X at*;generalize (M.pick c own).1=o;generalize (M.pick c own).2.1=d;have gB:Oz R (X.cP c):=h1.of rfl rfl;cases o<;>cases d
 ·exact gB
 ·exact h1
 ·refine Oz.last ?_ c _
  exact Oz.of (M:=X.cP c) gB rfl rfl
 refine Oz.last ?_ c _;exact Oz.of (M:=X) h1 rfl rfl
theorem Oz.room{M:Mo}(h:Oz R M)(n:Nat)(own:Option Nat):Oz R (M.room n own).2:=by
 unfold Mo.room
 split
 ·exact h
 unfold Mo.pI
 split
 ·next r N hN=>exact h.take hN
 split
 ·have hs:Oz R M.mstop:=h.off rfl
  split
  ·next r N hN=>exact hs.take hN
  exact hs.iy _ _
 exact h.iy _ _
theorem Oz.lays{M:Mo}(h:Oz R M)(k:List UInt8)(old:Option Nat)(ov:Bool)(x:List UInt8×Nat×Nat):Oz R (M.lays k old ov x).2:=by
 have Iz:=h.room (58+k.length+x.1.length) old;unfold Mo.lays;rcases hr:M.room (58+k.length+x.1.length) old with⟨_|r,N⟩<;>rw[hr]at Iz
 ·exact Iz.ev (Ev.over _ _ _)
 exact Iz.ev (Ev.gk _ _ _ _)
theorem Oz.fW{M:Mo}(h:Oz R M)(c:fe):Oz R (M.fW c).2:=by
 unfold Mo.fW
 split
 ·exact h.ev (Ev.zi _ _ c.keys ([],M))
 split
 ·have e:=h.ev (Ev.meet M (c.keys.headD []))
  unfold Mo.counts;rcases hm:M.meet (c.keys.headD [])with⟨_|p,N⟩<;>rw[hm]at e
  ·exact e
  dsimp only at e⊢;cases uy (N.it p).val with
  |none=>exact e
  |some n=>
   dsimp only;unfold Mo.sq
   split
   ·exact e.of rfl rfl
   split
   ·exact e
   have Iz:=e.room (58+(N.it p).key.length+(gQ (pq c n)).length) (some p);rcases hr:N.room (58+(N.it p).key.length+(gQ (pq c n)).length) (some p)with⟨_|r,R⟩<;>rw[hr]at Iz
   ·exact Iz
   refine Oz.ev (M:=R) Iz ?_;dsimp only;exact Ev.gk _ _ _ _
 split
 ·have e:=h.ev (Ev.meet M (c.keys.headD []))
  unfold Mo.ic;rcases hm:M.meet (c.keys.headD [])with⟨_|p,N⟩<;>rw[hm]at e
  ·exact e
  exact Oz.of (M:=N) e rfl rfl
 split
 ·have e:=h.ev (Ev.meet M (c.keys.headD []))
  unfold Mo.delete;rcases hm:M.meet (c.keys.headD [])with⟨_|p,N⟩<;>rw[hm]at e
  ·exact e
  exact Oz.ev (M:=N) e (Ev.ca _ _)
 split
 ·exact h.of rfl rfl
 split
 ·exact h
 split
 ·exact h
 split
 ·exact h
 have e:=h.ev (Ev.meet M (c.keys.headD []));unfold Mo.dJ Mo.jo
 split
 ·exact e.ev (Ev.over _ _ _)
 split
 ·exact e
 split
 ·exact e
 exact e.lays _ _ _ _
theorem Oz.dO{M:Mo}(h:Oz R M)(hot warm:Nat)(c:fe):Oz R (M.dO hot warm c).2:=by
 have h0:Oz R M.reset:=h.of rfl rfl;unfold Mo.dO
 split
 ·exact h0
 have h1:=h0.fW c
 split
 ·exact h1.beside
 exact Oz.mQ hot warm _ h1
theorem Sj (M:Mo)(n:Int):Ev M (M.tick n):=by
 unfold Mo.tick
 split
 ·exact(Ev.rf rfl rfl:Ev M (M.eC n).reset).trans ((Ev.cN _ _ _).trans (.rf rfl rfl))
 exact .rf rfl rfl
theorem Oz.tick{M:Mo}(h:Oz R M)(n:Int):Oz R (M.tick n):=h.ev (Sj M n)
end Go.Proofs.YtcbcjolpdljbiaaGreat
namespace Go.Proofs.YtcbcjolpdljbiaaGreat
open Go Go.dG Go.Proofs.YtcbcjolpdljbiaaGreat.Cs
def Mo.je (M:Mo)(c:Nat):Nat:=if M.m.on=true/\M.m.fr=c then 1 else 0
theorem bL.fZ{B:Bx}{M:Mo}(O:bL B M){c:Nat}(hc:c<M.C.ae.length):(M.C.rw c).pgs=(M.C.rw c).fZ+M.je c:=by
 have hcB:c<B.C.ae.length:=by rw[O.c];exact hc
 have h:=Ok.leaves O.k (j:=M.m.pg) (λi hi=>(O.go i hi).2) hcB;have e1:(B.C.rw c).pgs=(M.C.rw c).pgs:=by rw[O.c];rfl
 have e2:(B.C.rw c).fZ=(M.C.rw c).fZ:=by rw[O.c];rfl
 rw[e1,e2]at h;rw[h]
 congr 1
 unfold Mo.je;by_cases jF:M.m.on=true
 ·obtain⟨_,a,b,d⟩:=O.on jF
  by_cases hf:M.m.fr=c
  ·rw[if_pos ⟨b,a,d.trans hf⟩,if_pos ⟨jF,hf⟩]
  rw[if_neg λg=>hf (d.symm.trans g.2.2),if_neg λg=>hf g.2]
 rw[if_neg λg=>jF (O.go _ g.1).1,if_neg λg=>jF g.1]
theorem bL.ahT{B:Bx}{M:Mo}(O:bL B M){c:Nat}(hc:c<M.C.ae.length):
  ((M.C.rw c).fZ+M.C.spare)*(M.C.aj/M.C.sz c)+M.je c*(M.C.aj/M.C.sz c)=((M.C.rw c).pgs+M.C.spare)*(M.C.aj/M.C.sz c):=by
 rw[<-af0,O.fZ hc]
 congr 1
 omega
theorem bL.hold{B:Bx}{M:Mo}(O:bL B M){c:Nat}(hc:c<M.C.ae.length):(M.C.rw c).dL<=(M.C.rw c).pgs*(M.C.aj/M.C.sz c):=by
 have h:=Ok.Bj O.k (c:=c) (by rw[O.c];exact hc);rw[O.c]at h;exact h
theorem bL.bc{B:Bx}{M:Mo}(O:bL B M):((abb M.C.ae.length).map λc=>(M.C.rw c).pgs).sum+M.C.spare=M.C.n:=by
 have h:=Ok.XB O.k;rw[O.c]at h;exact h
theorem Mo.T7{M:Mo}:∀n,((abb n).map M.je).sum<=1:=λn=>by
 have h:∀n,((abb n).map M.je).sum=if M.m.on=true/\M.m.fr<n then 1 else 0:=λn=>by
  induction n with
  |zero=>simp
  |succ n ih=>
   rw[af7,afy,age,ih];simp only[aaX,akr,aa8,aky,akD];unfold Mo.je;by_cases ho:M.m.on=true
   ·by_cases h1:M.m.fr<n
    ·rw[if_pos ⟨ho,h1⟩,if_neg λg=>by omega,if_pos ⟨ho,by omega⟩]
    by_cases h2:M.m.fr=n
    ·rw[if_neg λg=>h1 g.2,if_pos ⟨ho,h2⟩,if_pos ⟨ho,by omega⟩]
    rw[if_neg λg=>h1 g.2,if_neg λg=>h2 g.2,if_neg λg=>by omega]
   rw[if_neg λg=>ho g.1,if_neg λg=>ho g.1,if_neg λg=>ho g.1]
 rw[h]
 split<;>omega
theorem Oz.je{R:Cs}{M:Mo}(Z:Oz R M){n:Nat}(h:((abb n).map M.je).sum≠0):M.C.spare=0:=by
 refine Z.z (Decidable.byContradiction λho=>h ?_);have:∀c,M.je c=0:=λc=>if_neg λg=>ho g.1;rw[afr λc _=>this c];exact(qG (λ_:Nat=>0) 0 _ λ_ _=>rfl).trans (ajx _)
def aJ (n lo hi:Int):Int:=lo+(if n.tmod (hi-lo+1)<0 then n.tmod (hi-lo+1)+(hi-lo+1)else n.tmod (hi-lo+1))
theorem gu{n lo hi:Int}(h:lo<=hi):lo<=aJ n lo hi/\aJ n lo hi<=hi:=by
 unfold aJ;have h1:=ajw n (b:=hi-lo+1) (by omega);have h2: -(hi-lo+1)<n.tmod (hi-lo+1):=by
  have:=ajw (-n) (b:=hi-lo+1) (by omega);rw[Int.neg_tmod]at this;omega
 split<;>omega
structure rU where
 bc:Int
 fac:Int
 bj:Int
 lim:Int
 hot:Int
 warm:Int
def rU.cM (t:rU):Int:=8*aJ t.bj 8 64
def rU.cfg (t:rU)(pgs:Int):nZ:=⟨4096,pgs,aJ t.fac 150 400,t.cM,aJ t.lim t.cM 4096,aJ t.hot 1 45,aJ t.warm 1 45⟩
theorem rU.wL (t:rU):64<=t.cM/\t.cM<=512/\t.cM % 8=0:=by
 unfold rU.cM;have:=gu (n:=t.bj) (lo:=8) (hi:=64) (by decide);omega
theorem rU.right (t:rU){pgs:Int}(h1:1<=pgs)(h2:pgs<=1024):jQ (t.cfg pgs)=true:=by
 obtain⟨a,b,c⟩:=t.wL;have f:=gu (n:=t.fac) (lo:=150) (hi:=400) (by decide);have l:=gu (n:=t.lim) (lo:=t.cM) (hi:=4096) (by omega);unfold jQ rU.cfg;dsimp only;exact decide_eq_true ⟨by decide,by decide,by decide,h1,h2,by omega,by omega,a,b,c,l.1,l.2⟩
theorem jt{fac last:Nat}(hf:150<=fac)(hl:last<=4096){t u m:Nat}(hu:3*t<=2*u->False\/True)(h:∀k n,u<=n->(mC fac last k n).length<=m+1)(htu:2*u<=3*t+1):∀k n,t<=n->(mC fac last k n).length<=m+2
 |0,n,_=>by unfold mC;simp
 |k+1,n,hn=>by
  unfold mC
  split
  ·simp
  next FA=>
  rw[afn];have hx:u<=(n*fac+799)/800*8:=by
   have h1:n*150<=n*fac:=Nat.mul_le_mul_left n hf;have h2:n*fac+799<((n*fac+799)/800+1)*800:=by
    have:=Nat.div_add_mod (n*fac+799) 800;have:=Nat.mod_lt (n*fac+799) (show 0<800 by decide);omega
   omega
  by_cases hm:last<=(n*fac+799)/800*8
  ·rw[aks hm]
   have:(mC fac last k last).length<=1:=by
    cases k with
    |zero=>unfold mC;simp
    |succ k=>unfold mC;simp
   omega
  rw[Nat.min_eq_right (by omega)];have:=h k _ hx;omega
theorem Sz{fac last:Nat}:∀k n,last<=n->(mC fac last k n).length<=1
 |0,n,_=>by unfold mC;simp
 |k+1,n,h=>by unfold mC;rw[if_pos h];simp
theorem ab2{fac last:Nat}(hf:150<=fac)(hl:last<=4096)(k n:Nat)(h:64<=n):(mC fac last k n).length<=12:=by
 have a0:∀k n,4096<=n->(mC fac last k n).length<=0+1:=λk n h=>Sz k n (by omega);have a1:=jt (t:=2731) (u:=4096) hf hl (λ_=> .inr trivial) a0 (by decide);have a2:=jt (t:=1821) (u:=2731) hf hl (λ_=> .inr trivial) a1 (by decide);have a3:=jt (t:=1214) (u:=1821) hf hl (λ_=> .inr trivial) a2 (by decide);have a4:=jt (t:=809) (u:=1214) hf hl (λ_=> .inr trivial) a3 (by decide);have a5:=jt (t:=539) (u:=809) hf hl (λ_=> .inr trivial) a4 (by decide);have a6:=jt (t:=359) (u:=539) hf hl (λ_=> .inr trivial) a5 (by decide);have a7:=jt (t:=239) (u:=359) hf hl (λ_=> .inr trivial) a6 (by decide);have a8:=jt (t:=159) (u:=239) hf hl (λ_=> .inr trivial) a7 (by decide);have a9:=jt (t:=106) (u:=159) hf hl (λ_=> .inr trivial) a8 (by decide);have b0:=jt (t:=71) (u:=106) hf hl (λ_=> .inr trivial) a9 (by decide);have b1:=jt (t:=47) (u:=71) hf hl (λ_=> .inr trivial) b0 (by decide);exact b1 k n (by omega)
theorem rU.len (t:rU)(pgs:Int):1<=(bH (t.cfg pgs)).length/\(bH (t.cfg pgs)).length<=12:=by
 obtain⟨a,b,c⟩:=t.wL;have f:=gu (n:=t.fac) (lo:=150) (hi:=400) (by decide);have l:=gu (n:=t.lim) (lo:=t.cM) (hi:=4096) (by omega);unfold bH;refine⟨(tq _ _ _ _).1,ab2 ?_ ?_ _ _ ?_⟩
 ·show 150<=(aJ t.fac 150 400).toNat
  omega
 ·show((aJ t.lim t.cM 4096).toNat+7)/8*8<=4096
  omega
 show 64<=t.cM.toNat;omega
theorem rU.mC (t:rU)(p q:Int):bH (t.cfg p)=bH (t.cfg q):=rfl
theorem rU.cls (t:rU){pgs:Int}(h1:((bH (t.cfg 1024)).length:Int)<=pgs)(h2:pgs<=1024):lx (t.cfg pgs)=0:=by
 obtain⟨a,b⟩:=t.len 1024;have e:=t.mC pgs 1024;unfold lx;rw[e,if_pos (t.right (by omega) h2),if_neg (by omega),if_neg (by show¬pgs<_;omega)]
theorem rU.new (t:rU){pgs:Int}(h1:((bH (t.cfg 1024)).length:Int)<=pgs)(h2:pgs<=1024)(p:um):rY (t.cfg pgs) (xb p)=0:=by
 have hh:=gu (n:=t.hot) (lo:=1) (hi:=45) (by decide);have hw:=gu (n:=t.warm) (lo:=1) (hi:=45) (by decide);unfold rY;rw[if_pos (t.cls h1 h2),if_pos,if_pos]
 ·exact decide_eq_true ⟨lC _,lC _,lC _,lC _⟩
 unfold rU.cfg;dsimp only
 first|exact decide_eq_true ⟨hh.1,by omega,hw.1,by omega,by omega⟩|exact⟨hh.1,by omega,hw.1,by omega,by omega⟩|(simp;omega)|omega
structure yU (c:nZ)(M:Mo)(s:Nat):Prop where
 h:M.hole=none
 r:VQ M s
 p:zr M.v.p
 cf:M.v.c=c
 o:Oz (dp c) M
theorem yU.start{c:nZ}(p:um):yU c (fP c (xb p) ⟨1,0,0⟩) 0:=⟨rfl,Jv _ _ _,XD p,rfl,⟨λo=>(by cases o),⟨rfl,rfl,rfl⟩⟩⟩
theorem yU.dO{c:nZ}{M:Mo}{s:Nat}(S:yU c M s)(K:rh M.reset)(hot warm:Nat)(x:fe):yU c (M.dO hot warm x).2 (s+x.keys.length+1):=by
 have r1:=S.r.st;have r2:=S.r.tn;have r3:=S.r.bh;have o:=S.o.dO hot warm x
 revert o
 unfold Mo.dO
 split
 ·exact λo=>⟨S.h,⟨by show M.m.st<=_;omega,by show M.tn<=_;omega,by show M.v.bh<=_;omega⟩,S.p,S.cf,o⟩
 have KD:=CB K S.h x;have k0:_=M.hole:=KD.ho;have k1:_=M.m.st:=KD.st;have k2:_<=M.v.bh+1:=KD.bh;have k3:_<=M.tn+max x.keys.length 1:=KD.tn;have k4:_=M.v.p:=KD.p;have k5:_=M.v.c:=KD.c;generalize (M.reset.fW x).2=N at*
 split
 ·have B:=nX N
  have b1:=B.st;have b2:=B.bh;have b3:=B.tn;exact λo=>⟨B.h (k0.trans S.h),⟨by dsimp only;omega,by dsimp only;omega,by dsimp only;omega⟩,by have:=S.p;rw[<-k4,<-B.p]at this;exact this,B.c.trans (k5.trans S.cf),o⟩
 have B:=oV hot warm x.keys N;have b1:=B.st;have b2:=B.bh;have b3:=B.tn;exact λo=>⟨B.h (k0.trans S.h),⟨by dsimp only;omega,by dsimp only;omega,by dsimp only;omega⟩,by have:=S.p;rw[<-k4,<-B.p]at this;exact this,B.c.trans (k5.trans S.cf),o⟩
theorem KZ{M:Mo}(h:M.hole=none)(n:Int):(M.tick n).hole=none:=by
 unfold Mo.tick
 split
 ·obtain⟨a1,_⟩:=nM (M.eC n).reset (M.eC n).k.now 64
  exact a1.trans h
 exact h
theorem yU.tick{c:nZ}{M:Mo}{s:Nat}(S:yU c M s)(n:Int):yU c (M.tick n) s:=by
 obtain⟨_,_,_,e,f⟩:=yk M n;exact⟨KZ S.h n,S.r.tick n,by rw[e];exact S.p,f.trans S.cf,S.o.tick n⟩
theorem yU.zs{c:nZ}{M:Mo}{s:Nat}(S:yU c M s):M.C.ae=bH c/\M.C.n=c.pgs.toNat/\M.C.aj=c.aj.toNat:=⟨S.o.q.sz,S.o.q.n,S.o.q.ps⟩
def lh (f:Nat->Nat)(k:Nat):Nat:=((abb k).map f).sum
theorem ZL (f:Nat->Nat):lh f 0=0:=rfl
theorem lS (f:Nat->Nat)(k:Nat):lh f (k+1)=lh f k+f k:=by
 unfold lh;rw[af7,afy,age];simp
theorem Gz (f:Nat->Nat){k n:Nat}(h:k<=n):lh f k<=lh f n:=by
 induction n with
 |zero=>rw[Nat.le_zero.1 h];exact aa0 _
 |succ n ih=>
  rw[lS];by_cases e:k=n+1
  ·rw[e,lS];exact aa0 _
  have:=ih (by omega);omega
theorem Xs (f:Nat->Nat){k n:Nat}(h:k<n):f k<=lh f n:=by
 have h1:=Gz f (show k+1<=n from h);rw[lS]at h1;omega
theorem ZK (f:Nat->Nat){b:Nat}(k:Nat)(h:∀i,i<k->f i<=b):lh f k<=k*b:=by
 induction k with
 |zero=>rw[ajx];exact aa0 _
 |succ k ih=>
  rw[lS,Nat.succ_mul];exact ajT (ih λi hi=>h i (Nat.lt_succ_of_lt hi)) (h k (Nat.lt_succ_self k))
structure zu (l:List Nat)(pgs:Nat)(M:Mo):Prop where
 z:M.C.ae=l
 ps:M.C.aj=4096
 np:pgs<=1024
 nl:l.length<=12
 tk:∀c,c<l.length->(M.C.rw c).dL<=(M.C.rw c).pgs*(4096/M.C.sz c)
 q:∀c,c<l.length->((M.C.rw c).fZ+M.C.spare)*(4096/M.C.sz c)+M.je c*(4096/M.C.sz c)=((M.C.rw c).pgs+M.C.spare)*(4096/M.C.sz c)
 Kp:∀c,c<l.length->1<=4096/M.C.sz c/\4096/M.C.sz c<=64/\64<=M.C.sz c/\M.C.sz c<=4096
 g1:∀c,M.je c<=1
 pg:lh (λc=>(M.C.rw c).pgs) l.length+M.C.spare=pgs
 gs:lh M.je l.length<=1
 go:lh M.je l.length≠0->M.C.spare=0
 len:lh (λc=>(M.C.rw c).dL) l.length=M.n
 lo:59*M.n<=M.v.eW
 hi:M.v.eW<=lh (λc=>M.C.sz c*(M.C.rw c).dL) l.length
theorem yU.bn{t:rU}{p:Int}{M:Mo}{s:Nat}{B:Bx}(S:yU (t.cfg p) M s)(O:bL B M)(hp:p<=1024):zu (bH (t.cfg p)) p.toNat M:=by
 obtain⟨e1,e2,e3⟩:=S.zs;have e2:M.C.n=p.toNat:=e2;have e3:M.C.aj=4096:=e3;have hb:=O.bytes S.h;have hl:=O.len S.h;have iD:=O.bc;rw[e1]at hb hl iD;have hz:∀c,c<(bH (t.cfg p)).length->64<=M.C.sz c/\M.C.sz c<=4096:=λc hc=>by
  have h:=Fix.sz O.mc0.toFix (c:=c) (by rw[e1];exact hc);rw[e3]at h;exact⟨h.1,h.2.1⟩
 refine⟨e1,e3,by omega,(t.len p).2,λc hc=> ?_,λc hc=> ?_,λc hc=> ?_,λc=> ?_, ?_,Mo.T7 _,λh=>S.o.je h,hl,hb.1,hb.2⟩
 ·have h:=O.hold (c:=c) (by rw[e1];exact hc)
  rw[e3]at h;exact h
 ·have h:=O.ahT (c:=c) (by rw[e1];exact hc)
  rw[e3]at h;exact h
 ·obtain⟨h1,h2⟩:=hz c hc
  refine⟨(Nat.le_div_iff_mul_le (by omega)).2 (by omega), ?_,h1,h2⟩;have:=Nat.div_le_div_left (a:=4096) h1 (by decide);omega
 ·unfold Mo.je
  split<;>omega
 exact iD.trans e2
theorem zu.pgl{l:List Nat}{pgs:Nat}{M:Mo}(N:zu l pgs M){c:Nat}(hc:c<l.length):(M.C.rw c).pgs<=1024/\(M.C.rw c).dL<=65536/\M.C.sz c*(M.C.rw c).dL<=268435456:=by
 have h1:=Xs (λc=>(M.C.rw c).pgs) hc;have h2:=N.pg;have h3:=N.np;have h1:(M.C.rw c).pgs<=1024:=by first|omega|(dsimp only at h1;omega)
 obtain⟨_,a,_,b⟩:=N.Kp c hc;have h4:=ai5 (N.tk c hc) (afG h1 a);exact⟨h1,h4,afG b h4⟩
theorem zu.OP{l:List Nat}{pgs:Nat}{M:Mo}(N:zu l pgs M){k:Nat}(hk:k<=l.length):lh (λc=>(M.C.rw c).pgs) k<=1024/\lh (λc=>(M.C.rw c).dL) k<=786432/\lh (λc=>M.C.sz c*(M.C.rw c).dL) k<=3221225472/\lh M.je k<=1:=by
 have h2:=N.pg;have h3:=N.np;have h4:=N.nl;have a:=Gz (λc=>(M.C.rw c).pgs) hk;have b:=ZK (λc=>(M.C.rw c).dL) (b:=65536) k λi hi=>(N.pgl (by omega)).2.1;have d:=ZK (λc=>M.C.sz c*(M.C.rw c).dL) (b:=268435456) k λi hi=>(N.pgl (by omega)).2.2;have e:=Gz M.je hk;have f:=N.gs;refine⟨by omega,by omega,by omega,by omega⟩
end Go.Proofs.YtcbcjolpdljbiaaGreat
