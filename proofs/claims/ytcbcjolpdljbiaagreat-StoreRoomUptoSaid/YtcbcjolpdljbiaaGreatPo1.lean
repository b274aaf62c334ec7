/- Part Po1 of the proof. -/
import Derived.Test.YtcbcjolpdljbiaaGreatPq
set_option maxRecDepth 100000
open Nat renaming add_mul -> ahu, zero_mul -> aiE, min_eq_left -> al4, le_refl -> abc, add_le_add -> als, add_zero -> amd
open List renaming flatMap_cons -> ahw, length_cons -> abu, range -> acA, map_cons -> aa7, sum_cons -> abp, getD_cons_zero -> alI, length_map -> abo, getElem?_eq_none -> abb, mem_range -> ac3, mem_map -> abk, mem_filter -> abm, getElem?_eq_getElem -> aa0, getD_eq_getElem?_getD -> aaZ, Pairwise -> ah3, nodup_range -> alS, map_map -> aiy, mem_cons_self -> aa5, mem_cons_of_mem -> aa6, range_succ -> aim, map_append -> adb, sum_append -> ali, getElem_of_mem -> acS
open Int renaming tmod_lt_of_pos -> aiD
open Go.Value renaming int -> DE
open Go.IntKind renaming i64 -> DD
namespace Go.Proofs.YtcbcjolpdljbiaaGreat
open Go Go.dQ Go.Proofs.YtcbcjolpdljbiaaGreat.Cs
structure Am (k i:Nat):Prop where
 h:k<=i*1048577
theorem Am.add{k i n:Nat}(h:Am k i)(hn:n<=1048577):Am (k+n) (i+1):=⟨by
 have:=h.h;rw[ahu];omega⟩
theorem Am.up{k i:Nat}(h:Am k i):Am k (i+1):=h.add (n:=0) (Nat.zero_le _)
structure rZ where
 c:dy
 ka:FX
 kc:Nat
 da:FX
 dc:Nat
 mv:Value
 tick:Int
def D8 (d:rZ):FV:=dB d.c d.ka d.kc d.da d.dc d.mv++ [DE DD d.tick]
def su (l:List rZ):FV:=l.flatMap D8
structure yi (h:Hp)(d:rZ):Prop where
 one:d.mv.oneCell'=true
 keys:fD h d.ka (fk d.c.keys)
 data:fD h d.da (ak d.c.data)
 kn:d.c.keys.length<=1048576
 kl:∀k∈d.c.keys,k.length<281474976710656
 ex:d.c.ex<9223372036854775808
 dn:d.c.data.length<140737488351232
 dl:d.c.dl<18446744073709551616
theorem FI (d:rZ):(D8 d).length=12:=rfl
theorem Ll (l:List rZ)(i:Nat)(x:rZ)(h:l[i]?=some x):((su l).drop (i*12)).take 12=D8 x:=by
 unfold su;induction l generalizing i with
 |nil=>simp at h
 |cons q r ih=>
  have hq:=FI q;rw[ahw];cases i with
  |zero=>
   simp only[List.getElem?_cons_zero,Option.some.injEq]at h;subst h;rw[aiE,List.drop_zero,List.take_append_of_le_length (by omega),List.take_of_length_le (by omega)]
  |succ i=>
   rw[List.getElem?_cons_succ]at h;rw[List.drop_append,List.drop_of_length_le (by omega),List.nil_append,hq,show(i+1)*12-12=i*12 from by omega];exact ih i h
theorem WI (l:List rZ)(i:Nat)(x:rZ)(h:l[i]?=some x)(o k:Nat)(hk:o+k<=12):((su l).drop (i*12+o)).take k=((D8 x).drop o).take k:=by
 have e:=congrArg (λq=>(q.drop o).take k) (Ll l i x h);simp only[List.drop_take,List.drop_drop,List.take_take,al4 (show k<=12-o by omega)]at e;exact e
theorem WG (l:List rZ)(i:Nat)(x:rZ)(h:l[i]?=some x)(j:Nat)(hj:j<12):(su l)[i*12+j]?=(D8 x)[j]?:=by
 have e:=congrArg (·[j]?) (Ll l i x h);simp only[List.getElem?_take,if_pos hj,List.getElem?_drop]at e;exact e
theorem WH (l:List rZ):(su l).length=l.length*12:=by
 unfold su;induction l with
 |nil=>rfl
 |cons q r ih=>rw[ahw,List.length_append,ih,FI,abu];omega
theorem zu:∀l:List Bool,((acA l.length).filter λk=>l.getD k false).length=(l.map bN).sum
 | []=>rfl
 |b::l=>by
  have ih:=zu l;rw[abu,List.range_succ_eq_map,List.filter_cons,aa7,abp];have e:((acA l.length).map Nat.succ).filter (λk=>(b::l).getD k false)=((acA l.length).filter λk=>l.getD k false).map Nat.succ:=by
   rw[List.filter_map];rfl
  rw[e];cases b
  ·simp only[alI,Bool.false_eq_true,if_false,abo,ih,bN]
   omega
  simp only[alI,if_true,abu,abo,ih,bN];omega
theorem wN{C:Cs}(K:Ok C):C.bQ=(acA C.n).map C.pg:=by
 apply List.ext_getElem?;intro i;by_cases hi:i<C.n
 ·rw[List.getElem?_map,List.getElem?_range hi,lA (by rw[K.pl];exact hi)]
  rfl
 rw[abb (by rw[K.pl];omega),abb (by rw[abo,List.length_range];omega)]
def tkL (C:Cs)(c:Nat):F8:=(acA C.n).flatMap λi=>if(C.pg i).own=true/\(C.pg i).cl=c then((acA (C.pg i).tk.length).filter λk=>(C.pg i).tk.getD k false).map (C.pS i)else []
theorem YE{C:Cs}(K:Ok C){c p:Nat}:p∈tkL C c↔Live C p/\C.cl p=c:=by
 unfold tkL;rw[List.mem_flatMap];constructor
 ·rintro⟨i,hi,hp⟩
  rw[ac3]at hi;split at hp
  ·next ho=>
   obtain⟨k,hk,rfl⟩:=abk.1 hp;rw[abm,ac3]at hk;have P:=K.pg _ (eA (by rw[K.pl];exact hi));obtain⟨e1,e2,a⟩:=kH K hi ho.1 (k:=k) (by rw[<-P.tl];exact hk.1);refine⟨⟨a, ?_⟩,by unfold Cs.cl;rw[e1];exact ho.2⟩;rw[e1,e2,aa0 hk.1];have:=hk.2;rw[aaZ,aa0 hk.1]at this;exact congrArg some this
  cases hp
 rintro⟨L,hc⟩;refine⟨C.pn p,ac3.2 L.i, ?_⟩;rw[if_pos ⟨L.own,hc⟩];refine abk.2 ⟨C.ix p, ?_,Hr K L.toAt⟩;have ht:=L.tk;obtain⟨hk,e⟩:=List.getElem?_eq_some_iff.1 ht;rw[abm,ac3];exact⟨hk,by rw[aaZ,ht];rfl⟩
theorem Mu{C:Cs}(K:Ok C)(c:Nat):(tkL C c).Nodup:=by
 have au:∀i,i<C.n->∀p,p∈(if(C.pg i).own=true/\(C.pg i).cl=c then((acA (C.pg i).tk.length).filter λk=>(C.pg i).tk.getD k false).map (C.pS i)else [])->C.pn p=i:=by
  intro i hi p hp;split at hp
  ·next ho=>
   obtain⟨k,hk,rfl⟩:=abk.1 hp;rw[abm,ac3]at hk;have P:=K.pg _ (eA (by rw[K.pl];exact hi));exact(kH K hi ho.1 (k:=k) (by rw[<-P.tl];exact hk.1)).1
  cases hp
 unfold tkL;unfold List.Nodup;rw[List.pairwise_flatMap];refine⟨λi hi=> ?_, ?_⟩
 ·rw[ac3]at hi
  split
  ·next ho=>
   have P:=K.pg _ (eA (by rw[K.pl];exact hi));rw[List.pairwise_map];have zQ:((acA (C.pg i).tk.length).filter λk=>(C.pg i).tk.getD k false).Pairwise (·≠·):=ah3.filter _ alS;refine ah3.imp_of_mem ?_ zQ;intro a b ha hb fN e;rw[abm,ac3]at ha hb;have e1:=(kH K hi ho.1 (k:=a) (by rw[<-P.tl];exact ha.1)).2.1;have e2:=(kH K hi ho.1 (k:=b) (by rw[<-P.tl];exact hb.1)).2.1;rw[e,e2]at e1;exact fN e1.symm
  exact ah3.nil
 refine ah3.imp_of_mem ?_ (alS (n:=C.n));intro i j hi hj fN p hp q hq e;rw[ac3]at hi hj;have e1:=au i hi p hp;have e2:=au j hj q hq;rw[e,e2]at e1;exact fN e1.symm
theorem YF{C:Cs}(K:Ok C){c:Nat}(hc:c<C.ae.length):(tkL C c).length=(C.rw c).eG:=by
 rw[K.ft c hc];unfold Cs.BP tkL;rw[wN K,List.length_flatMap,aiy];refine congrArg List.sum (List.map_congr_left λi hi=> ?_);rw[ac3]at hi;have P:=K.pg _ (eA (by rw[K.pl];exact hi));show _=we c (C.pg i);unfold we;split
 ·rw[abo,zu,P.held]
 rfl
theorem bM.clM{B:Bx}{M:Mo}(O:bM B M)(p:Nat):B.C.cl p=M.C.cl p:=by rw[O.c];rfl
theorem bM.cllt{B:Bx}{M:Mo}(O:bM B M){p:Nat}(hp:p∈B.W.all):M.C.cl p<M.C.ae.length:=by
 have h:=(O.t.lv p hp).toAt.br O.k;rw[<-O.clM p,show M.C.ae=B.C.ae by rw[O.c];rfl];exact h.1
theorem bM.lE{B:Bx}{M:Mo}(O:bM B M){p:Nat}(hp:p∈B.W.all):59<=(M.it p).sz/\(M.it p).sz<=M.C.sz (M.C.cl p):=by
 have h1:=(O.t.it p hp).fits;have h2:=O.it p hp;have h3:=fX (O.lg p hp);have hk:(M.it p).key.length=kl B.C.A p:=by rw[<-h2];exact cI ..
 have hv:(M.it p).val.length=vl B.C.A p:=by rw[<-h2];exact cI ..
 have hs:B.C.sz (B.C.cl p)=M.C.sz (M.C.cl p):=by rw[O.clM p,O.c];rfl
 unfold I3.sz;rw[hs]at h1;omega
theorem Ok.Cc{C:Cs}(K:Ok C){c:Nat}(hc:c<C.ae.length):(C.rw c).eG<=(C.rw c).pgs*(C.aj/C.sz c):=by
 rw[K.ft c hc,K.fp c hc];unfold Cs.BP;have h:∀x∈C.bQ,we c x<=uY c x*(C.aj/C.sz c):=λx hx=>by
  have P:=K.pg x hx;unfold we uY;by_cases ho:x.own=true/\x.cl=c
  ·rw[if_pos ho,if_pos ho,Nat.one_mul,P.held,<-ho.2,<-P.gl ho.1,<-P.tl]
   have:∀l:List Bool,(l.map bN).sum<=l.length:=λl=>by
    induction l with
    |nil=>exact abc _
    |cons b l ih=>
     rw[aa7,abp,abu];have:bN b<=1:=by unfold bN;split<;>omega
     omega
   exact this _
  rw[if_neg ho,if_neg ho,aiE];exact abc _
 generalize C.bQ=L at h;induction L with
 |nil=>simp
 |cons x L ih=>
  rw[aa7,abp,aa7,abp,ahu];exact als (h x aa5) (ih λy hy=>h y (aa6 _ hy))
theorem Ok.leaves{C:Cs}(K:Ok C){j:Nat}(h1:∀i,(C.pg i).lv=true->i=j){c:Nat}(hc:c<C.ae.length):(C.rw c).pgs=(C.rw c).fL+(if(C.pg j).lv=true/\(C.pg j).own=true/\(C.pg j).cl=c then 1 else 0):=by
 rw[K.fp c hc,K.fs c hc];unfold Cs.BP;rw[wN K,aiy,aiy];have e:∀n,((acA n).map (uY c∘C.pg)).sum=((acA n).map (xP c∘C.pg)).sum+(if j<n/\(C.pg j).lv=true/\(C.pg j).own=true/\(C.pg j).cl=c then 1 else 0):=λn=>by
  induction n with
  |zero=>simp
  |succ n ih=>
   rw[aim,adb,adb,ali,ali,ih];simp only[aa7,List.map_nil,abp,List.sum_nil,Function.comp_apply,amd];unfold uY xP;by_cases hj:j=n
   ·subst hj
    rw[if_neg (c:=j<j/\_) (by omega)];cases hl:(C.pg j).lv<;>cases ho:(C.pg j).own<;>by_cases dx:(C.pg j).cl=c<;>simp[hl,ho,dx]
   have hl:(C.pg n).lv=false:=by
    cases h:(C.pg n).lv
    ·rfl
    exact absurd (h1 n h).symm hj
   have e2:(j<n+1/\(C.pg j).lv=true/\(C.pg j).own=true/\(C.pg j).cl=c)↔(j<n/\(C.pg j).lv=true/\(C.pg j).own=true/\(C.pg j).cl=c):=by
    constructor<;>rintro⟨a,b⟩<;>exact⟨by omega,b⟩
   simp only[e2];cases ho:(C.pg n).own<;>by_cases dx:(C.pg n).cl=c<;>simp[hl,ho,dx]<;>omega
 rw[e]
 congr 1
 by_cases hj:j<C.n
 ·simp[hj]
 have lP:(C.pg j).own=false:=by
  unfold Cs.pg;rw[aaZ,abb (by rw[K.pl];omega)];rfl
 simp[hj,lP]
end Go.Proofs.YtcbcjolpdljbiaaGreat
namespace Go.Proofs.YtcbcjolpdljbiaaGreat
open Go Go.dQ Go.Proofs.YtcbcjolpdljbiaaGreat.Cs
structure Shq (C D:Cs):Prop where
 sz:D.ae=C.ae
 n:D.n=C.n
 ps:D.aj=C.aj
theorem Shq.trans{C D E:Cs}(a:Shq C D)(b:Shq D E):Shq C E:=⟨b.sz.trans a.sz,b.n.trans a.n,b.ps.trans a.ps⟩
structure Oz (R:Cs)(M:Mo):Prop where
 z:M.m.on=true->M.C.spare=0
 q:Shq R M.C
variable {R:Cs}
theorem Oz.ev{M N:Mo}(h:Oz R M)(E:Ev M N):Oz R N:=⟨λo=>by rw[E.g.sp];exact h.z (by rw[<-E.on];exact o),h.q.trans ⟨E.g.sz,E.g.n,E.g.ps⟩⟩
theorem Oz.of{M N:Mo}(h:Oz R M)(h1:N.m.on=M.m.on)(h2:N.C.spare=M.C.spare)(h3:Shq M.C N.C:=by exact⟨rfl,rfl,rfl⟩):Oz R N:=⟨λo=>by rw[h2];exact h.z (by rw[<-h1];exact o),h.q.trans h3⟩
theorem Oz.off{M N:Mo}(h0:Oz R M)(h:N.m.on=false)(h3:Shq M.C N.C:=by exact⟨rfl,rfl,rfl⟩):Oz R N:=⟨λo=>(by rw[h]at o;cases o),h0.q.trans h3⟩
theorem Oz.take{M N:Mo}{c r:Nat}(h:Oz R M)(e:M.take c=some (r,N)):Oz R N:=by
 unfold Mo.take at e;split at e
 ·next p D hD=>
  cases e;unfold Cs.dD at hD;split at hD
  ·cases hD;exact⟨h.z,h.q.trans ⟨rfl,rfl,rfl⟩⟩
  split at hD
  ·cases hD
  split at hD
  ·cases hD
   refine⟨λo=> ?_,h.q.trans ⟨rfl,rfl,rfl⟩⟩;have h0:=h.z o;show M.C.spare-1=0;omega
  cases hD
 cases e
theorem Oz.shift{M N:Mo}{p:Nat}(h:Oz R M)(e:M.shift p=some N):Oz R N:=by
 unfold Mo.shift at e;split at e
 ·next r D hD=>
  cases e;exact(h.take hD).of rfl rfl
 cases e
theorem Oz.eI{M:Mo}(h:Oz R M):Oz R M.eI.2:=by
 unfold Mo.eI;split
 ·exact h.off rfl
 split
 ·exact h.ev (Ev.bY _ _)
 split
 ·next N hN=>exact h.shift hN
 exact h.off rfl
theorem Oz.dG:∀(f:Nat) {M:Mo},Oz R M->Oz R (M.dG f).2
 |0,_,h=>h
 |f+1,M,h=>by
  unfold Mo.dG;split
  ·exact Oz.dG f h.eI
  exact h.eI
theorem Oz.gK{M:Mo}(h:Oz R M)(aH:Int):Oz R (M.gK aH).2:=by
 have ht:Oz R M.fI:=h.of rfl rfl;unfold Mo.gK;split
 ·exact h
 split
 ·exact Oz.dG _ ht
 show Oz R M.fI.fU;unfold Mo.fU;split
 ·exact ht
 next hs=>
 split
 ·exact ht
 split
 ·exact ht
 exact⟨λ_=>by
  show M.fI.C.spare=0;omega,ht.q.trans ⟨rfl,rfl,rfl⟩⟩
theorem Oz.beside{M:Mo}(h:Oz R M):Oz R M.beside:=by
 have h1:Ev M M.fw:= .rf rfl rfl;have h2:Ev M M.fw.jy:=(h1.trans (Ev.cV M.fw M.fw.k.now M.fw.v.p.c)).trans (.rf rfl rfl);exact((h.ev h2).gK M.fw.jy.v.p.m).of rfl rfl
theorem Oz.behind{M:Mo}(h:Oz R M)(hot warm:Nat)(k:F9):Oz R (M.behind hot warm k):=(h.ev (LG hot warm M k)).beside
theorem Oz.jG (hot warm:Nat):∀(l:List F9) {M:Mo},Oz R M->Oz R (l.foldl (Mo.behind hot warm) M)
 | [],_,h=>h
 |k::l,_,h=>Oz.jG hot warm l (h.behind hot warm k)
theorem Oz.last{M:Mo}(h:Oz R M)(c p:Nat):Oz R (M.last c p).2:=by
 unfold Mo.last;split
 ·next r N hN=>exact(h.ev (Ev.bY _ _)).take hN
 exact h.ev (Ev.bY _ _)
theorem Oz.iK{M:Mo}(h:Oz R M)(c:Nat)(own:FW):Oz R (M.iK c own).2:=by
 unfold Mo.iK;have h1:Oz R (M.aR {M.v.mt with lo:=cm (M.v.mt.lo+((M.pick c own).2.2:Int))}):=h.of rfl rfl;generalize M.aR _=X at*;generalize (M.pick c own).1=o;generalize (M.pick c own).2.1=d;have fM:Oz R (X.cR c):=h1.of rfl rfl;cases o<;>cases d
 ·exact fM
 ·exact h1
 ·refine Oz.last ?_ c _
  exact Oz.of (M:=X.cR c) fM rfl rfl
 refine Oz.last ?_ c _;exact Oz.of (M:=X) h1 rfl rfl
theorem Oz.room{M:Mo}(h:Oz R M)(n:Nat)(own:FW):Oz R (M.room n own).2:=by
 unfold Mo.room;split
 ·exact h
 unfold Mo.pJ;split
 ·next r N hN=>exact h.take hN
 split
 ·have hs:Oz R M.mstop:=h.off rfl
  split
  ·next r N hN=>exact hs.take hN
  exact hs.iK _ _
 exact h.iK _ _
theorem Oz.lays{M:Mo}(h:Oz R M)(k:F9)(old:FW)(ov:Bool)(x:F9×Nat×Nat):Oz R (M.lays k old ov x).2:=by
 have Js:=h.room (58+k.length+x.1.length) old;unfold Mo.lays;rcases hr:M.room (58+k.length+x.1.length) old with⟨_|r,N⟩<;>rw[hr]at Js
 ·exact Js.ev (Ev.over _ _ _)
 exact Js.ev (Ev.fZ _ _ _ _)
theorem Oz.dK{M:Mo}(h:Oz R M)(c:dy):Oz R (M.dK c).2:=by
 unfold Mo.dK;split
 ·exact h.ev (Ev.xY _ _ c.keys ([],M))
 split
 ·have e:=h.ev (Ev.meet M (c.keys.headD []))
  unfold Mo.counts;rcases hm:M.meet (c.keys.headD [])with⟨_|p,N⟩<;>rw[hm]at e
  ·exact e
  try dsimp only at e⊢
  cases kV (N.it p).val with
  |none=>exact e
  |some n=>
   dsimp only;unfold Mo.qL;split
   ·exact e.of rfl rfl
   split
   ·exact e
   have Js:=e.room (58+(N.it p).key.length+(dZ (gX c n)).length) (some p);rcases hr:N.room (58+(N.it p).key.length+(dZ (gX c n)).length) (some p)with⟨_|r,R⟩<;>rw[hr]at Js
   ·exact Js
   refine Oz.ev (M:=R) Js ?_;dsimp only;exact Ev.fZ _ _ _ _
 split
 ·have e:=h.ev (Ev.meet M (c.keys.headD []))
  unfold Mo.gN;rcases hm:M.meet (c.keys.headD [])with⟨_|p,N⟩<;>rw[hm]at e
  ·exact e
  exact Oz.of (M:=N) e rfl rfl
 split
 ·have e:=h.ev (Ev.meet M (c.keys.headD []))
  unfold Mo.delete;rcases hm:M.meet (c.keys.headD [])with⟨_|p,N⟩<;>rw[hm]at e
  ·exact e
  exact Oz.ev (M:=N) e (Ev.bY _ _)
 split
 ·exact h.of rfl rfl
 split
 ·exact h
 split
 ·exact h
 split
 ·exact h
 have e:=h.ev (Ev.meet M (c.keys.headD []));unfold Mo.dS Mo.jj;split
 ·exact e.ev (Ev.over _ _ _)
 split
 ·exact e
 split
 ·exact e
 exact e.lays _ _ _ _
theorem Oz.dO{M:Mo}(h:Oz R M)(hot warm:Nat)(c:dy):Oz R (M.dO hot warm c).2:=by
 have h0:Oz R M.reset:=h.of rfl rfl;unfold Mo.dO;split
 ·exact h0
 have h1:=h0.dK c;split
 ·exact h1.beside
 exact Oz.jG hot warm _ h1
theorem Ug (M:Mo)(n:Int):Ev M (M.tick n):=by
 unfold Mo.tick;split
 ·exact(Ev.rf rfl rfl:Ev M (M.eM n).reset).trans ((Ev.cV _ _ _).trans (.rf rfl rfl))
 exact .rf rfl rfl
theorem Oz.tick{M:Mo}(h:Oz R M)(n:Int):Oz R (M.tick n):=h.ev (Ug M n)
end Go.Proofs.YtcbcjolpdljbiaaGreat
namespace Go.Proofs.YtcbcjolpdljbiaaGreat
open Go Go.dQ Go.Proofs.YtcbcjolpdljbiaaGreat.Cs
theorem bM.hold{B:Bx}{M:Mo}(O:bM B M){c:Nat}(hc:c<M.C.ae.length):(M.C.rw c).eG<=(M.C.rw c).pgs*(M.C.aj/M.C.sz c):=by
 have h:=Ok.Cc O.k (c:=c) (by rw[O.c];exact hc);rw[O.c]at h;exact h
def dR (n lo hi:Int):Int:=lo+(if n.tmod (hi-lo+1)<0 then n.tmod (hi-lo+1)+(hi-lo+1)else n.tmod (hi-lo+1))
theorem gy{n lo hi:Int}(h:lo<=hi):lo<=dR n lo hi/\dR n lo hi<=hi:=by
 unfold dR;have h1:=aiD n (b:=hi-lo+1) (by omega);have h2: -(hi-lo+1)<n.tmod (hi-lo+1):=by
  have:=aiD (-n) (b:=hi-lo+1) (by omega);rw[Int.neg_tmod]at this;omega
 split<;>omega
structure q9 where
 bQ:Int
 fac:Int
 bE:Int
 lim:Int
 hot:Int
 warm:Int
def q9.lV (t:q9):Int:=8*dR t.bE 8 64
def q9.cfg (t:q9)(pgs:Int):oo:=⟨4096,pgs,dR t.fac 150 400,t.lV,dR t.lim t.lV 4096,dR t.hot 1 45,dR t.warm 1 45⟩
theorem q9.xv (t:q9):64<=t.lV/\t.lV<=512/\t.lV % 8=0:=by
 unfold q9.lV;have:=gy (n:=t.bE) (lo:=8) (hi:=64) (by decide);omega
theorem q9.right (t:q9){pgs:Int}(h1:1<=pgs)(h2:pgs<=1024):jV (t.cfg pgs)=true:=by
 obtain⟨a,b,c⟩:=t.xv;have f:=gy (n:=t.fac) (lo:=150) (hi:=400) (by decide);have l:=gy (n:=t.lim) (lo:=t.lV) (hi:=4096) (by omega);unfold jV q9.cfg;dsimp only;exact decide_eq_true ⟨by decide,by decide,by decide,h1,h2,by omega,by omega,a,b,c,l.1,l.2⟩
theorem jD{fac last:Nat}(hf:150<=fac)(hl:last<=4096){t u m:Nat}(hu:3*t<=2*u->False\/True)(h:∀k n,u<=n->(lE fac last k n).length<=m+1)(htu:2*u<=3*t+1):∀k n,t<=n->(lE fac last k n).length<=m+2
 |0,n,_=>by unfold lE;simp
 |k+1,n,hn=>by
  unfold lE;split
  ·simp
  next BM=>
  rw[abu];have hx:u<=(n*fac+799)/800*8:=by
   have h1:n*150<=n*fac:=Nat.mul_le_mul_left n hf;have h2:n*fac+799<((n*fac+799)/800+1)*800:=by
    have:=Nat.div_add_mod (n*fac+799) 800;have:=Nat.mod_lt (n*fac+799) (show 0<800 by decide);omega
   omega
  by_cases hm:last<=(n*fac+799)/800*8
  ·rw[al4 hm]
   have:(lE fac last k last).length<=1:=by
    cases k with
    |zero=>unfold lE;simp
    |succ k=>unfold lE;simp
   omega
  rw[Nat.min_eq_right (by omega)];have:=h k _ hx;omega
theorem Uo{fac last:Nat}:∀k n,last<=n->(lE fac last k n).length<=1
 |0,n,_=>by unfold lE;simp
 |k+1,n,h=>by unfold lE;rw[if_pos h];simp
theorem ad5{fac last:Nat}(hf:150<=fac)(hl:last<=4096)(k n:Nat)(h:64<=n):(lE fac last k n).length<=12:=by
 have a0:∀k n,4096<=n->(lE fac last k n).length<=0+1:=λk n h=>Uo k n (by omega);have a1:=jD (t:=2731) (u:=4096) hf hl (λ_=> .inr trivial) a0 (by decide);have a2:=jD (t:=1821) (u:=2731) hf hl (λ_=> .inr trivial) a1 (by decide);have a3:=jD (t:=1214) (u:=1821) hf hl (λ_=> .inr trivial) a2 (by decide);have a4:=jD (t:=809) (u:=1214) hf hl (λ_=> .inr trivial) a3 (by decide);have a5:=jD (t:=539) (u:=809) hf hl (λ_=> .inr trivial) a4 (by decide);have a6:=jD (t:=359) (u:=539) hf hl (λ_=> .inr trivial) a5 (by decide);have a7:=jD (t:=239) (u:=359) hf hl (λ_=> .inr trivial) a6 (by decide);have a8:=jD (t:=159) (u:=239) hf hl (λ_=> .inr trivial) a7 (by decide);have a9:=jD (t:=106) (u:=159) hf hl (λ_=> .inr trivial) a8 (by decide);have b0:=jD (t:=71) (u:=106) hf hl (λ_=> .inr trivial) a9 (by decide);have b1:=jD (t:=47) (u:=71) hf hl (λ_=> .inr trivial) b0 (by decide);exact b1 k n (by omega)
theorem q9.len (t:q9)(pgs:Int):1<=(bF (t.cfg pgs)).length/\(bF (t.cfg pgs)).length<=12:=by
 obtain⟨a,b,c⟩:=t.xv;have f:=gy (n:=t.fac) (lo:=150) (hi:=400) (by decide);have l:=gy (n:=t.lim) (lo:=t.lV) (hi:=4096) (by omega);unfold bF;refine⟨(ua _ _ _ _).1,ad5 ?_ ?_ _ _ ?_⟩
 ·show 150<=(dR t.fac 150 400).toNat
  omega
 ·show((dR t.lim t.lV 4096).toNat+7)/8*8<=4096
  omega
 show 64<=t.lV.toNat;omega
theorem q9.lE (t:q9)(p q:Int):bF (t.cfg p)=bF (t.cfg q):=rfl
theorem q9.cls (t:q9){pgs:Int}(h1:((bF (t.cfg 1024)).length:Int)<=pgs)(h2:pgs<=1024):lH (t.cfg pgs)=0:=by
 obtain⟨a,b⟩:=t.len 1024;have e:=t.lE pgs 1024;unfold lH;rw[e,if_pos (t.right (by omega) h2),if_neg (by omega),if_neg (by show¬pgs<_;omega)]
theorem q9.new (t:q9){pgs:Int}(h1:((bF (t.cfg 1024)).length:Int)<=pgs)(h2:pgs<=1024)(p:tO):sM (t.cfg pgs) (Ac p)=0:=by
 have hh:=gy (n:=t.hot) (lo:=1) (hi:=45) (by decide);have hw:=gy (n:=t.warm) (lo:=1) (hi:=45) (by decide);unfold sM;rw[if_pos (t.cls h1 h2),if_pos,if_pos]
 ·exact decide_eq_true ⟨lK _,lK _,lK _,lK _⟩
 unfold q9.cfg;dsimp only
 first|exact decide_eq_true ⟨hh.1,by omega,hw.1,by omega,by omega⟩|exact⟨hh.1,by omega,hw.1,by omega,by omega⟩|(simp;omega)|omega
structure xQ (c:oo)(M:Mo)(s:Nat):Prop where
 h:M.hole=none
 r:XA M s
 p:An M.v.p
 cf:M.v.c=c
 o:Oz (dz c) M
theorem xQ.start{c:oo}(p:tO):xQ c (gu c (Ac p) ⟨1,0,0⟩) 0:=⟨rfl,Kq _ _ _,Zn p,rfl,⟨λo=>(by cases o),⟨rfl,rfl,rfl⟩⟩⟩
theorem xQ.dO{c:oo}{M:Mo}{s:Nat}(S:xQ c M s)(K:rR M.reset)(hot warm:Nat)(x:dy):xQ c (M.dO hot warm x).2 (s+x.keys.length+1):=by
 have r1:=S.r.st;have r2:=S.r.tn;have r3:=S.r.bc;have o:=S.o.dO hot warm x
 revert o
 unfold Mo.dO;split
 ·exact λo=>⟨S.h,⟨by show M.m.st<=_;omega,by show M.tn<=_;omega,by show M.v.bc<=_;omega⟩,S.p,S.cf,o⟩
 have KD:=Dr K S.h x;have k0:_=M.hole:=KD.ho;have k1:_=M.m.st:=KD.st;have k2:_<=M.v.bc+1:=KD.bc;have k3:_<=M.tn+max x.keys.length 1:=KD.tn;have k4:_=M.v.p:=KD.p;have k5:_=M.v.c:=KD.c;generalize (M.reset.dK x).2=N at*;split
 ·have B:=oa N
  have b1:=B.st;have b2:=B.bc;have b3:=B.tn;exact λo=>⟨B.h (k0.trans S.h),⟨by dsimp only;omega,by dsimp only;omega,by dsimp only;omega⟩,by have:=S.p;rw[<-k4,<-B.p]at this;exact this,B.c.trans (k5.trans S.cf),o⟩
 have B:=pD hot warm x.keys N;have b1:=B.st;have b2:=B.bc;have b3:=B.tn;exact λo=>⟨B.h (k0.trans S.h),⟨by dsimp only;omega,by dsimp only;omega,by dsimp only;omega⟩,by have:=S.p;rw[<-k4,<-B.p]at this;exact this,B.c.trans (k5.trans S.cf),o⟩
theorem Mw{M:Mo}(h:M.hole=none)(n:Int):(M.tick n).hole=none:=by
 unfold Mo.tick;split
 ·obtain⟨a1,_⟩:=nQ (M.eM n).reset (M.eM n).k.now 64
  exact a1.trans h
 exact h
theorem xQ.tick{c:oo}{M:Mo}{s:Nat}(S:xQ c M s)(n:Int):xQ c (M.tick n) s:=by
 obtain⟨_,_,_,e,f⟩:=zc M n;exact⟨Mw S.h n,S.r.tick n,by rw[e];exact S.p,f.trans S.cf,S.o.tick n⟩
theorem xQ.zs{c:oo}{M:Mo}{s:Nat}(S:xQ c M s):M.C.ae=bF c/\M.C.n=c.pgs.toNat/\M.C.aj=c.aj.toNat:=⟨S.o.q.sz,S.o.q.n,S.o.q.ps⟩
def GI (f:Nat->Nat)(k:Nat):Nat:=((acA k).map f).sum
theorem QZ (f:Nat->Nat)(k:Nat):GI f (k+1)=GI f k+f k:=by
 unfold GI;rw[aim,adb,ali];simp
theorem ajZ (f:Nat->Nat){b:Nat}(k:Nat)(h:∀i,i<k->f i<=b):GI f k<=k*b:=by
 induction k with
 |zero=>rw[aiE];exact abc _
 |succ k ih=>
  rw[QZ,Nat.succ_mul];exact als (ih λi hi=>h i (Nat.lt_succ_of_lt hi)) (h k (Nat.lt_succ_self k))
theorem zg{α:Type}(f g:α->Nat)(k:Nat):∀L:List α,(∀x∈L,f x*k<=g x)->(L.map f).sum*k<=(L.map g).sum
 | [],_=>by simp
 |x::L,h=>by
  rw[aa7,aa7,abp,abp,ahu];exact als (h x aa5) (zg f g k L λy hy=>h y (aa6 _ hy))
theorem FT:∀l:List Bool,(∀b∈l,b=true)->(l.map bN).sum=l.length
 | [],_=>rfl
 |b::l,h=>by
  rw[aa7,abp,FT l λc hc=>h c (aa6 _ hc),h b aa5,abu,Nat.add_comm];rfl
theorem Mz{C:Cs}(K:Ok C){c:Nat}(hc:c<C.ae.length)(h:C.dD c=none):(C.rw c).fL*(C.aj/C.sz c)<=(C.rw c).eG/\C.spare=0:=by
 have h0:C.spare=0:=by
  rcases Nat.eq_zero_or_pos C.spare with e|e
  ·exact e
  obtain⟨p,D,hD,_⟩:=wH K hc e;rw[h]at hD;cases hD
 refine⟨?_,h0⟩;have hf:(C.rw c).free= []:=by
  unfold Cs.dD at h;cases hl:(C.rw c).free.getLast? with
  |none=>exact List.getLast?_eq_none_iff.1 hl
  |some p=>rw[hl]at h;cases h
 rw[K.ft c hc,K.fs c hc];unfold Cs.BP;refine zg _ _ _ _ λx hx=> ?_;obtain⟨i,hi,rfl⟩:=acS hx;have hi:i<C.bQ.length:=hi;have ex:C.bQ[i]=C.pg i:=by
  have:=lA hi;rw[aa0 hi]at this;exact Option.some.inj this
 rw[ex];have hi:i<C.n:=by rw[<-K.pl];exact hi
 have P:=K.pg _ (eA (C:=C) (i:=i) (by rw[K.pl];exact hi));unfold xP we;by_cases g:(C.pg i).own=true/\(C.pg i).cl=c/\(C.pg i).lv=false
 ·rw[if_pos g,if_pos ⟨g.1,g.2.1⟩,Nat.one_mul,P.held,FT,P.tl,P.gl g.1,g.2.1]
  ·exact abc _
  intro b hb;obtain⟨k,hk,rfl⟩:=acS hb;obtain⟨a,b,d⟩:=kH K hi g.1 (k:=k) (by rw[<-P.tl];exact hk);cases hb:(C.pg i).tk[k]with
  |true=>rfl
  |false=>
   have hF:BS C c (C.pS i k):=⟨d,by unfold Cs.cl;rw[a];exact g.2.1,by rw[a,b,aa0 hk,hb],by rw[a];exact g.2.2⟩;have:=K.fa c _ hF hc;rw[hf]at this;cases this
 rw[if_neg g,aiE];exact Nat.zero_le _
theorem Nq{C:Cs}(K:Ok C){p:Nat}(L:Live C p)(h:(C.pg (C.pn p)).lv=false):(C.bh p).dD (C.cl p)≠none:=by
 have hr:C.cl p<C.rows.length:=by rw[K.rl];exact(L.toAt.br K).1
 have e:(C.bh p).rw (C.cl p)=_:=qH C (C.cl p) (C.cl p) {C.rw (C.cl p)with free:=if(C.pg (C.pn p)).lv=true then(C.rw (C.cl p)).free else(C.rw (C.cl p)).free++ [p],eG:=(C.rw (C.cl p)).eG-1} hr;rw[if_pos rfl]at e;unfold Cs.dD;rw[e];dsimp only;rw[if_neg (by rw[h];decide),List.getLast?_concat];simp
def qp (M:Mo):Prop:=∀c p,p∈jh M.Q c↔M.has p/\M.C.cl p=c
theorem C0{Q:Dy}{c p:Nat}:p∈jh Q c↔∃s,(1<=s/\s<=3)/\p∈ql Q (qi c s):=by
 unfold jh;simp only[List.mem_append,List.mem_reverse];constructor
 ·rintro((h|h)|h)
  ·exact⟨3,by omega,h⟩
  ·exact⟨2,by omega,h⟩
  exact⟨1,by omega,h⟩
 rintro⟨s,hs,h⟩;rcases(show s=1\/s=2\/s=3 by omega)with rfl|rfl|rfl
 ·exact .inr h
 ·exact .inl (.inr h)
 exact .inl (.inl h)
theorem bM.row{B:Bx}{M:Mo}(O:bM B M):qp M:=λc p=>by
 rw[C0];have st:=λi (h:p∈ql M.Q i)=>O.o.st i p h;constructor
 ·rintro⟨s,hs,h⟩
  refine⟨⟨_,h⟩, ?_⟩;obtain⟨a,b,e⟩:=st _ h;rw[O.clM p]at e;unfold qi at e;omega
 rintro⟨⟨i,h⟩,e⟩;obtain⟨a,b,d⟩:=st i h;rw[O.clM p,e]at d;exact⟨_,⟨a,b⟩,d▸h⟩
theorem Y6{Q:Dy}{c p q:Nat}(nd:∀i,(ql Q i).Nodup):q∈jh (ik Q p) c↔q∈jh Q c/\q≠p:=by
 rw[C0,C0];constructor
 ·rintro⟨s,hs,h⟩
  rw[iO]at h;exact⟨⟨s,hs,List.mem_of_mem_erase h⟩,λe=>by subst e;exact List.Nodup.not_mem_erase (nd _) h⟩
 rintro⟨⟨s,hs,h⟩,ne⟩;exact⟨s,hs,by rw[iO];exact(List.mem_erase_of_ne ne).2 h⟩
theorem qp.bY{M:Mo}(R:qp M)(K:Mi M){p:Nat}(hp:M.has p):qp (M.bY p):=λc q=>by
 have L:=(K.lv p).2 (.inl hp);have e:(M.bY p).C.cl q=M.C.cl q:=(gA K.k L).2.cl q;show q∈jh (ik M.Q p) c↔_;rw[Y6 K.p.nd,R c q,e];exact⟨λh=>⟨(jf K.p).2 ⟨h.1.1,h.2⟩,h.1.2⟩,λh=>⟨⟨((jf K.p).1 h.1).1,h.2⟩,((jf K.p).1 h.1).2⟩⟩
theorem qp.meet{M:Mo}(R:qp M)(K:Mi M)(k:F9):qp (M.meet k).2:=by
 unfold Mo.meet;cases hf:M.find k with
 |none=>exact R
 |some p=>
  have hp:=((iY K.p).1 hf).1;dsimp only;split
  ·exact qp.bY (M:=M.fJ _) R (K.uF _).i hp
  exact R
theorem YD{M:Mo}(K:Mi M)(R:qp M)(hh:M.hole=none){c:Nat}(hc:c<M.C.ae.length){own:FW}(h:cJ own (jh M.Q c)= []):(M.C.rw c).eG=0\/(M.C.rw c).eG=1/\∃p,own=some p/\M.has p/\M.C.cl p=c:=by
 have e:=YF K.k hc;have nd:=Mu K.k c;have hm:∀p∈tkL M.C c,own=some p/\M.has p/\M.C.cl p=c:=λp hp=>by
  obtain⟨L,dx⟩:=(YE K.k).1 hp;have hs:M.has p:=((K.lv p).1 L).resolve_right (by rw[hh];simp);have hr:=(R c p).2 ⟨hs,dx⟩;refine⟨Decidable.byContradiction λg=> ?_,hs,dx⟩;have:p∈cJ own (jh M.Q c):=by
   unfold cJ;rw[abm];exact⟨hr,by simpa using λe=>g e.symm⟩
  rw[h]at this;cases this
 generalize tkL M.C c=l at*
 match l,nd,hm with
 | [],_,_=>exact .inl e.symm
 | [p],_,hm=>exact .inr ⟨e.symm,p,hm p aa5⟩
 |p::q::l,nd,hm=>
  have h1:=(hm p aa5).1;have h2:=(hm q (aa6 _ aa5)).1;rw[h1]at h2;cases h2;simp at nd
theorem UP{dd act:Nat->Bool}{own p:FW}{l:F8}{d:Bool}{k:Nat}(h:lz dd act own 5 l=(p,d,k)):k<=5/\(p=none->k=0/\cJ own l= [])/\(p≠none->1<=k):=by
 have hl:((cJ own l).take 5).length<=5:=by rw[List.length_take];omega
 have h0:(cJ own l).take 5= []->cJ own l= []:=λe=>by
  rw[List.take_eq_nil_iff]at e;exact e.resolve_left (by decide)
 unfold lz yb at h;generalize (cJ own l).take 5=r at*;cases hf:r.findIdx? dd with
 |some i=>
  rw[hf]at h;cases h;obtain⟨hi,_⟩:=List.findIdx?_eq_some_iff_getElem.1 hf;rw[aa0 hi];exact⟨by omega,(λe=>by cases e),λ_=>by omega⟩
 |none=>
  rw[hf]at h;cases h;refine⟨hl,λe=> ?_,λe=> ?_⟩
  ·cases r with
   |nil=>exact⟨rfl,h0 rfl⟩
   |cons x r=>
    exfalso;split at e
    ·cases e
    cases e
  cases r with
  |nil=>exact absurd rfl e
  |cons x r=>rw[abu];omega
structure vh (M:Mo):Prop where
 dr:M.v.mt.dr=0
 re:M.v.mt.re=0
 lo:M.v.mt.lo=0
theorem vh.of{M N:Mo}(h:vh M)(e:N.v.mt=M.v.mt):vh N:=⟨by rw[e];exact h.dr,by rw[e];exact h.re,by rw[e];exact h.lo⟩
structure EE (M:Mo)(c:Nat)(own o:FW)(N:Mo):Prop where
 lo:0<=N.v.mt.lo/\N.v.mt.lo<=5
 g:(N.v.mt.dr=0/\N.v.mt.re=0)\/(N.v.mt.dr=1/\N.v.mt.re=0\/N.v.mt.dr=0/\N.v.mt.re=1)/\1<=N.v.mt.lo/\o≠none
 no:o=none->vh N/\(om M N/\N.Q=M.Q/\N.it=M.it/\N.hole=M.hole)/\(M.C.rw c).pgs*(M.C.aj/M.C.sz c)<=(M.C.rw c).eG/\cJ own (jh M.Q c)= []
 ro:(M.C.rw c).eG+1<=((M.C.rw c).fL+M.C.spare)*(M.C.aj/M.C.sz c)->o≠none/\vh N
theorem EE.had{M N:Mo}{c r:Nat}{own:FW}(z:vh N):EE M c own (some r) N:=⟨by rw[z.lo];decide, .inl ⟨z.dr,z.re⟩,(λe=>by cases e),λ_=>⟨by simp,z⟩⟩
theorem Hi{M N:Mo}{c r:Nat}(h:M.take c=some (r,N)):N.v=M.v:=by
 unfold Mo.take at h;cases ht:M.C.dD c with
 |none=>rw[ht]at h;cases h
 |some x=>rw[ht]at h;cases h;rfl
theorem JY{M:Mo}{c:Nat}(h:M.take c=none):M.C.dD c=none:=by
 unfold Mo.take at h;cases ht:M.C.dD c with
 |none=>rfl
 |some x=>rw[ht]at h;cases h
theorem R9{Y N:Mo}(K:Mi Y){c p:Nat}(hp:Y.has p)(dx:Y.C.cl p=c)(hl:(Y.C.pg (Y.C.pn p)).lv=false){o:FW}(h:Y.last c p=(o,N)):o≠none/\N.v.mt=Y.v.mt:=by
 have g:=Nq K.k ((K.lv p).2 (.inl hp)) hl;rw[dx]at g;unfold Mo.last at h;cases ht:(Y.bY p).take c with
 |none=>exact absurd (JY ht) g
 |some x=>
  obtain⟨r,D⟩:=x;rw[ht]at h;cases h;have e:=congrArg Sv.mt (Hi ht);exact⟨by simp,e⟩
theorem adl{n:Int}(h:0<=n/\n<=5):cm n=n:=wrap_i64 (by omega)
theorem Lg{X:Mo}(K:Mi X)(R:qp X)(z:vh X){c:Nat}(hc:c<X.C.ae.length)(ht:X.take c=none)(hl:¬(X.m.on=true/\X.m.fr=c))(own:FW){o:FW}{N:Mo}(h:X.iK c own=(o,N)):EE X c own o N:=by
 obtain⟨tF,sp⟩:=Mz K.k hc (JY ht);have lf:=Ok.leaves K.k (j:=X.m.pg) (λi hi=>(K.go i hi).2) hc;rw[if_neg λg=>hl ⟨(K.go _ g.1).1,by rw[<-(K.on (K.go _ g.1).1).2.2.2];exact g.2.2⟩,amd]at lf;have ro:∀{p:Prop},(X.C.rw c).eG+1<=((X.C.rw c).fL+X.C.spare)*(X.C.aj/X.C.sz c)->p:=λg=>by
  have e0:(X.C.rw c).fL+X.C.spare=(X.C.rw c).fL:=by omega
  rw[e0]at g;omega
 unfold Mo.iK at h;rcases hpk:X.pick c own with⟨v,d,k⟩
 rw[hpk]at h;dsimp only at h;obtain⟨k5,k0,k1⟩:=UP hpk;have ek:cm (X.v.mt.lo+(k:Int))=k:=by rw[z.lo,Int.zero_add];exact adl (by omega)
 rcases v with _|p
 ·obtain⟨rfl,hf⟩:=k0 rfl
  have z2:vh (X.aR {X.v.mt with lo:=cm (X.v.mt.lo+((0:Nat):Int))}):=⟨z.dr,z.re,ek⟩;have z3:vh ((X.aR {X.v.mt with lo:=cm (X.v.mt.lo+((0:Nat):Int))}).cR c):=⟨z.dr,z.re,ek⟩;cases d with
  |true=>cases h;exact⟨by rw[z2.lo];decide, .inl ⟨z2.dr,z2.re⟩,λ_=>⟨z2,⟨K.qA _,rfl,rfl,rfl⟩,by rw[lf];exact tF,hf⟩,ro⟩
  |false=>cases h;exact⟨by rw[z3.lo];decide, .inl ⟨z3.dr,z3.re⟩,λ_=>⟨z3,⟨(K.qA _).trans ((K.qA _).i.Bs c),rfl,rfl,rfl⟩,by rw[lf];exact tF,hf⟩,ro⟩
 obtain⟨m1,m2,m3⟩:=UQ hpk;obtain⟨hp,dx⟩:=(R c p).1 m1;have iG:(X.C.pg (X.C.pn p)).lv=false:=by
  cases e:(X.C.pg (X.C.pn p)).lv with
  |false=>rfl
  |true=>
   obtain⟨g1,g2⟩:=K.go _ e;refine absurd ⟨g1, ?_⟩ hl;rw[<-(K.on g1).2.2.2,<-g2];exact dx
 have k2:=k1 (by simp);cases d with
 |true=>
  have G:=(K.qA {X.v.mt with lo:=cm (X.v.mt.lo+(k:Int))}).i.qA {(X.aR {X.v.mt with lo:=cm (X.v.mt.lo+(k:Int))}).v.mt with re:=cm ((X.aR {X.v.mt with lo:=cm (X.v.mt.lo+(k:Int))}).v.mt.re+1)};obtain⟨n1,n2⟩:=R9 G.i (p:=p) hp dx iG h;have e1:N.v.mt.lo=k:=by rw[n2];exact ek
  have e2:N.v.mt.dr=0:=by rw[n2];exact z.dr
  have e3:N.v.mt.re=1:=by rw[n2];show cm (X.v.mt.re+1)=1;rw[z.re];exact adl (by decide)
  exact⟨by omega, .inr ⟨.inr ⟨e2,e3⟩,by omega,n1⟩,λe=>absurd e n1,ro⟩
 |false=>
  have G:=((K.qA {X.v.mt with lo:=cm (X.v.mt.lo+(k:Int))}).i.Bs c).i.qA {((X.aR {X.v.mt with lo:=cm (X.v.mt.lo+(k:Int))}).cR c).v.mt with dr:=cm (((X.aR {X.v.mt with lo:=cm (X.v.mt.lo+(k:Int))}).cR c).v.mt.dr+1)};obtain⟨n1,n2⟩:=R9 G.i (p:=p) hp dx iG h;have e1:N.v.mt.lo=k:=by rw[n2];exact ek
  have e2:N.v.mt.re=0:=by rw[n2];exact z.re
  have e3:N.v.mt.dr=1:=by rw[n2];show cm (X.v.mt.dr+1)=1;rw[z.dr];exact adl (by decide)
  exact⟨by omega, .inr ⟨.inl ⟨e3,e2⟩,by omega,n1⟩,λe=>absurd e n1,ro⟩
theorem Y4{M:Mo}(K:Mi M)(R:qp M)(z:vh M){c:Nat}(hc:c<M.C.ae.length)(own:FW){o:FW}{N:Mo}(h:M.pJ c own=(o,N)):EE M c own o N:=by
 unfold Mo.pJ at h;cases ht:M.take c with
 |some x=>
  obtain⟨r,D⟩:=x;rw[ht]at h;cases h;exact .had (z.of (congrArg Sv.mt (Hi ht)))
 |none=>
  rw[ht]at h;dsimp only at h;split at h
  ·next g=>
   obtain⟨G,_⟩:=K.mstop g.1;have z1:vh M.mstop:=z.of rfl;cases qg:M.mstop.take c with
   |some x=>
    obtain⟨r,D⟩:=x;rw[qg]at h;cases h;exact .had (z1.of (congrArg Sv.mt (Hi qg)))
   |none=>
    rw[qg]at h;obtain⟨a,b,_,f⟩:=K.on g.1;obtain⟨_,S⟩:=uu K.k a b (K.on g.1).2.2.1;have R1:qp M.mstop:=λc p=>by
     show p∈jh M.Q c↔M.has p/\(M.C.gr M.m.pg).cl p=c;rw[S.cl];exact R c p
    have D:=Lg G.i R1 z1 (c:=c) (by show c<(M.C.gr M.m.pg).ae.length;rw[S.ae];exact hc) qg (λe=>by cases e.1) own h;have e:M.mstop.C.rw c={M.C.rw c with fL:=(M.C.rw c).fL+1,free:=(M.C.rw c).free++M.C.hJ M.m.pg c (M.C.pg M.m.pg).tk}:=by
     have e0:(M.C.gr M.m.pg).rw c=_:=qH M.C (M.C.pg M.m.pg).cl c {M.C.rw (M.C.pg M.m.pg).cl with fL:=(M.C.rw (M.C.pg M.m.pg).cl).fL+1,free:=(M.C.rw (M.C.pg M.m.pg).cl).free++M.C.hJ M.m.pg (M.C.pg M.m.pg).cl (M.C.pg M.m.pg).tk} (by rw[f,K.k.rl,g.2];exact hc);rw[f,g.2,if_pos rfl]at e0;exact e0
    have ep:M.mstop.C.aj/M.mstop.C.sz c=M.C.aj/M.C.sz c:=rfl;have es:M.mstop.C.spare=M.C.spare:=rfl;refine⟨D.lo,D.g,λeo=> ?_,λhq=>D.ro ?_⟩
    ·obtain⟨d1,d2,d3⟩:=D.no eo
     rw[e,ep]at d3;exact⟨d1,⟨G.trans d2.1,d2.2.1,d2.2.2.1,d2.2.2.2⟩,d3⟩
    rw[e,ep,es];refine Nat.le_trans hq (Nat.mul_le_mul_right _ ?_);dsimp only;omega
  next g=>exact Lg K R z hc ht g own h
end Go.Proofs.YtcbcjolpdljbiaaGreat
