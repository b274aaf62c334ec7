/- Part Po1 of the proof. -/
import Derived.Test.YtcbcjolpdljbiaaGreatPq
set_option maxRecDepth 100000
open Go.Proofs.YtcbcjolpdljbiaaGreat.T
open List renaming range -> abM, map_cons -> aaj, sum_cons -> abJ, mem_cons_self -> aag, mem_cons_of_mem -> aai, length_cons -> abU, getElem_of_mem -> abS, getElem?_eq_getElem -> aac, getLast?_eq_none_iff -> agX, mem_append -> agb, findIdx?_eq_some_iff_getElem -> abK, replicate -> aae, length_pos_of_mem -> akc, mem_range -> ab0, length_append -> aby, length_map -> abI
open Nat renaming le_refl -> aam, lt_succ_self -> akl, lt_or_eq_of_le -> akx, le_of_lt_succ -> akD
open Decidable renaming byContradiction -> abz
open Int renaming le_trans -> ak0, le_refl -> akr
namespace Go.Proofs.YtcbcjolpdljbiaaGreat
open Go Go.dC Go.Proofs.YtcbcjolpdljbiaaGreat.Cs
structure Wst (c:ra)(M:Mo)(s:Nat):Prop where
 h:M.hole=none
 r:Ran M s
 p:xO M.v.p
 cf:M.v.c=c
 o:Oz (dp c) M
theorem Wst.dO{c:ra}{M:Mo}{s:Nat}(S:Wst c M s)(K:q9 M.reset)(hot warm:Nat)(x:fi):Wst c (M.dO hot warm x).2 (s+x.keys.length+1):=by
 have r1:=S.r.st;have r2:=S.r.tn;have r3:=S.r.aQ;have o:=S.o.dO hot warm x
 revert o
 unfold Mo.dO;split
 ·exact λo=>⟨S.h,⟨by show M.m.st<=_;omega,by show M.tn<=_;omega,by show M.v.aQ<=_;omega⟩,S.p,S.cf,o⟩
 have KD:=De K S.h x;have k0:_=M.hole:=KD.ho;have k1:_=M.m.st:=KD.st;have k2:_<=M.v.aQ+1:=KD.aQ;have k3:_<=M.tn+max x.keys.length 1:=KD.tn;have k4:_=M.v.p:=KD.p;have k5:_=M.v.c:=KD.c;generalize (M.reset.fC x).2=N at*;split
 ·have B:=nJ N
  have b1:=B.st;have b2:=B.aQ;have b3:=B.tn;exact λo=>⟨B.h (k0.trans S.h),⟨by dsimp only;omega,by dsimp only;omega,by dsimp only;omega⟩,by have:=S.p;rw[<-k4,<-B.p]at this;exact this,B.c.trans (k5.trans S.cf),o⟩
 have B:=oP hot warm x.keys N;have b1:=B.st;have b2:=B.aQ;have b3:=B.tn;exact λo=>⟨B.h (k0.trans S.h),⟨by dsimp only;omega,by dsimp only;omega,by dsimp only;omega⟩,by have:=S.p;rw[<-k4,<-B.p]at this;exact this,B.c.trans (k5.trans S.cf),o⟩
def OT (f:Nat->Nat)(k:Nat):Nat:=((abM k).map f).sum
theorem aaA (f:Nat->Nat):OT f 0=0:=rfl
theorem Ao (f:Nat->Nat)(k:Nat):OT f (k+1)=OT f k+f k:=by
 unfold OT;rw[List.range_succ,List.map_append,List.sum_append];simp
theorem Q6 (f:Nat->Nat){k n:Nat}(h:k<=n):OT f k<=OT f n:=by
 induction n with
 |zero=>rw[Nat.le_zero.1 h];exact aam _
 |succ n ih=>
  rw[Ao];by_cases e:k=n+1
  ·rw[e,Ao];exact aam _
  have:=ih (by omega);omega
theorem Yg (f:Nat->Nat){k n:Nat}(h:k<n):f k<=OT f n:=by
 have h1:=Q6 f (show k+1<=n from h);rw[Ao]at h1;omega
theorem yY{α:Type}(f g:α->Nat)(k:Nat):∀L:List α,(∀x∈L,f x*k<=g x)->(L.map f).sum*k<=(L.map g).sum
 | [],_=>by simp
 |x::L,h=>by
  rw[aaj,aaj,abJ,abJ,Nat.add_mul];exact Nat.add_le_add (h x aag) (yY f g k L λy hy=>h y (aai _ hy))
theorem FF:∀l:List Bool,(∀b∈l,b=true)->(l.map bN).sum=l.length
 | [],_=>rfl
 |b::l,h=>by
  rw[aaj,abJ,FF l λc hc=>h c (aai _ hc),h b aag,abU,Nat.add_comm];rfl
theorem vt{C:Cs}(K:Ok C){c:Nat}(hc:c<C.ae.length)(hf:(C.rw c).free= []):(C.rw c).ig*(C.ao/C.sz c)<=(C.rw c).ct:=by
 rw[K.ft c hc,K.fs c hc];unfold Cs.wR;refine yY _ _ _ _ λx hx=> ?_;obtain⟨i,hi,rfl⟩:=abS hx;have hi:i<C.bm.length:=hi;have ex:C.bm[i]=C.pg i:=by
  have:=ki hi;rw[aac hi]at this;exact Option.some.inj this
 rw[ex];have hi:i<C.n:=by rw[<-K.pl];exact hi
 have P:=K.pg _ (dh (C:=C) (i:=i) (by rw[K.pl];exact hi));unfold xD uC;by_cases g:(C.pg i).own=true/\(C.pg i).cl=c/\(C.pg i).lv=false
 ·rw[if_pos g,if_pos ⟨g.1,g.2.1⟩,Nat.one_mul,P.held,FF,P.tl,P.gl g.1,g.2.1]
  ·exact aam _
  intro b hb;obtain⟨k,hk,rfl⟩:=abS hb;obtain⟨a,b,d⟩:=iM K hi g.1 (k:=k) (by rw[<-P.tl];exact hk);cases hb:(C.pg i).tk[k]with
  |true=>rfl
  |false=>
   have hF:zO C c (C.mB i k):=⟨d,by unfold Cs.cl;rw[a];exact g.2.1,by rw[a,b,aac hk,hb],by rw[a];exact g.2.2⟩;have:=K.fa c _ hF hc;rw[hf]at this;cases this
 rw[if_neg g,Nat.zero_mul];exact Nat.zero_le _
theorem AE{C:Cs}(K:Ok C){c:Nat}(hc:c<C.ae.length)(h:C.ca c=none):(C.rw c).ig*(C.ao/C.sz c)<=(C.rw c).ct/\C.spare=0:=by
 have h0:C.spare=0:=by
  rcases Nat.eq_zero_or_pos C.spare with e|e
  ·exact e
  obtain⟨p,D,hD,_⟩:=vW K hc e;rw[h]at hD;cases hD
 refine⟨?_,h0⟩;refine vt K hc ?_;unfold Cs.ca at h;cases hl:(C.rw c).free.getLast? with
 |none=>exact agX.1 hl
 |some p=>rw[hl]at h;cases h
theorem MR{C:Cs}(K:Ok C){p:Nat}(L:Live C p)(h:(C.pg (C.pn p)).lv=false):(C.aL p).ca (C.cl p)≠none:=by
 have hr:C.cl p<C.rows.length:=by rw[K.rl];exact(L.toAt.ba K).1
 have e:(C.aL p).rw (C.cl p)=_:=uM C (C.cl p) (C.cl p) {C.rw (C.cl p)with free:=if(C.pg (C.pn p)).lv=true then(C.rw (C.cl p)).free else(C.rw (C.cl p)).free++ [p],ct:=(C.rw (C.cl p)).ct-1} hr;rw[if_pos rfl]at e;unfold Cs.ca;rw[e];dsimp only;rw[if_neg (by rw[h];decide),List.getLast?_concat];simp
def LJ (M:Mo):Prop:=∀c p,p∈j9 M.Q c↔M.has p/\M.C.cl p=c
theorem X7{Q:F7}{c p:Nat}:p∈j9 Q c↔∃s,(1<=s/\s<=3)/\p∈ql Q (qi c s):=by
 unfold j9;simp only[agb,List.mem_reverse];constructor
 ·rintro((h|h)|h)
  ·exact⟨3,by omega,h⟩
  ·exact⟨2,by omega,h⟩
  exact⟨1,by omega,h⟩
 rintro⟨s,hs,h⟩;rcases(show s=1\/s=2\/s=3 by omega)with rfl|rfl|rfl
 ·exact .inr h
 ·exact .inl (.inr h)
 exact .inl (.inl h)
theorem bH.row{B:Bx}{M:Mo}(O:bH B M):LJ M:=λc p=>by
 rw[X7];have st:=λi (h:p∈ql M.Q i)=>O.o.st i p h;constructor
 ·rintro⟨s,hs,h⟩
  refine⟨⟨_,h⟩, ?_⟩;obtain⟨a,b,e⟩:=st _ h;rw[O.clM p]at e;unfold qi at e;omega
 rintro⟨⟨i,h⟩,e⟩;obtain⟨a,b,d⟩:=st i h;rw[O.clM p,e]at d;exact⟨_,⟨a,b⟩,d▸h⟩
theorem XF{M:Mo}(K:Mi M)(R:LJ M)(hh:M.hole=none){c:Nat}(hc:c<M.C.ae.length){own:FK}(h:cz own (j9 M.Q c)= []):(M.C.rw c).ct=0\/(M.C.rw c).ct=1/\∃p,own=some p/\M.has p/\M.C.cl p=c:=by
 have e:=ti K.k hc;have nd:=LW K.k c;have hm:∀p∈KX M.C c,own=some p/\M.has p/\M.C.cl p=c:=λp hp=>by
  obtain⟨L,cQ⟩:=(th K.k).1 hp;have hs:M.has p:=((K.lv p).1 L).resolve_right (by rw[hh];simp);have hr:=(R c p).2 ⟨hs,cQ⟩;refine⟨abz λg=> ?_,hs,cQ⟩;have:p∈cz own (j9 M.Q c):=by
   unfold cz;rw[List.mem_filter];exact⟨hr,by simpa using λe=>g e.symm⟩
  rw[h]at this;cases this
 generalize KX M.C c=l at*
 match l,nd,hm with
 | [],_,_=>exact .inl e.symm
 | [p],_,hm=>exact .inr ⟨e.symm,p,hm p aag⟩
 |p::q::l,nd,hm=>
  have h1:=(hm p aag).1;have h2:=(hm q (aai _ aag)).1;rw[h1]at h2;cases h2;simp at nd
theorem Uf{dd act:Nat->Bool}{own p:FK}{l:FH}{d:Bool}{k:Nat}(h:kT dd act own 5 l=(p,d,k)):k<=5/\(p=none->k=0/\cz own l= [])/\(p≠none->1<=k):=by
 have hl:((cz own l).take 5).length<=5:=by rw[List.length_take];omega
 have h0:(cz own l).take 5= []->cz own l= []:=λe=>by
  rw[List.take_eq_nil_iff]at e;exact e.resolve_left (by decide)
 unfold kT xR at h;generalize (cz own l).take 5=r at*;cases hf:r.findIdx? dd with
 |some i=>
  rw[hf]at h;cases h;obtain⟨hi,_⟩:=abK.1 hf;rw[aac hi];exact⟨by omega,(λe=>by cases e),λ_=>by omega⟩
 |none=>
  rw[hf]at h;cases h;refine⟨hl,λe=> ?_,λe=> ?_⟩
  ·cases r with
   |nil=>exact⟨rfl,h0 rfl⟩
   |cons x r=>
    exfalso;split at e
    ·cases e
    cases e
  cases r with
  |nil=>exact absurd rfl e
  |cons x r=>rw[abU];omega
structure Mt0 (M:Mo):Prop where
 dr:M.v.mt.dr=0
 re:M.v.mt.re=0
 lo:M.v.mt.lo=0
theorem XI{M:Mo}{c:Nat}(h:M.take c=none):M.C.ca c=none:=by
 unfold Mo.take at h;cases ht:M.C.ca c with
 |none=>rfl
 |some x=>rw[ht]at h;cases h
theorem qd{C D:Cs}(K:Ok C){c p:Nat}(hc:c<C.ae.length)(h:C.ca c=some (p,D)):(D.rw c).ct=(C.rw c).ct+1/\(∀d,d≠c->D.rw d=C.rw d)/\
  ((C.rw c).free≠ []/\(D.rw c).bA=(C.rw c).bA/\D.spare=C.spare/\D=C.fR c p/\zO C c p\/(C.rw c).free= []/\(D.rw c).bA=(C.rw c).bA+1/\D.spare+1=C.spare):=by
 have wz:c<C.rows.length:=by rw[K.rl];exact hc
 unfold Cs.ca at h;split at h
 ·next hl=>
  cases h;have hw:∀d,(C.fR c p).rw d=if d=c then{C.rw c with free:=(C.rw c).free.dropLast,ct:=(C.rw c).ct+1}else C.rw d:=λd=>rX wz d
  refine⟨by rw[hw,if_pos rfl],λd e=>by rw[hw,if_neg e], .inl ⟨λe=> ?_,by rw[hw,if_pos rfl],rfl,rfl,(tK K hl).2.2⟩⟩;rw[e]at hl;cases hl
 next he=>
 split at h
 ·cases h
 next i hi=>
 split at h
 ·cases h
  obtain⟨h1,h2⟩:=wg K hi;have hs:1<=C.spare:=by
   have e:=iX wQ (ki (C:=C) (i:=i) (by rw[K.pl];exact h1));rw[K.sp];unfold Cs.wR;have e2:wQ (C.pg i)=1:=by unfold wQ;rw[if_neg (by rw[h2];decide)]
   omega
  have hv:∀d,(C.bE i c).rw d=if d=c then{C.rw c with bA:=(C.rw c).bA+1,ig:=(C.rw c).ig+1,free:=(C.rw c).free++C.iD i c (aae (C.ao/C.sz c) false)}else C.rw d:=λd=>rX wz d
  have hcr2:c<(C.bE i c).rows.length:=by
   show c<(C.rows.set c _).length;rw[List.length_set];exact wz
  have hw:∀d,((C.bE i c).fR c p).rw d=if d=c then{(C.bE i c).rw c with free:=((C.bE i c).rw c).free.dropLast,ct:=((C.bE i c).rw c).ct+1}else(C.bE i c).rw d:=λd=>rX hcr2 d
  refine⟨?_,λd e=>by rw[hw,if_neg e,hv,if_neg e], .inr ⟨agX.1 he, ?_, ?_⟩⟩
  ·rw[hw,if_pos rfl]
   show((C.bE i c).rw c).ct+1=_;rw[hv,if_pos rfl]
  ·rw[hw,if_pos rfl]
   show((C.bE i c).rw c).bA=_;rw[hv,if_pos rfl]
  show C.spare-1+1=C.spare;omega
 cases h
theorem AD{C:Cs}(K:Ok C){c p:Nat}(F:zO C c p){j:Nat}(h:j≠C.pn p):(C.fR c p).pg j=C.pg j:=by
 have e:(C.fR c p).pg j=_:=kO (C:=C) (c:=c) (sp:=C.spare) (r:={C.rw c with free:=(C.rw c).free.dropLast,ct:=(C.rw c).ct+1}) (A:=wr (lay C.A p (aae 56 0)) (p+12) 4 (C.gen p)) (x:={C.pg (C.pn p)with tk:=(C.pg (C.pn p)).tk.set (C.ix p) true,held:=(C.pg (C.pn p)).held+1}) (by rw[K.pl];exact F.i) j;rw[e,if_neg h]
theorem qn{C:Cs}(K:Ok C){p:Nat}(L:Live C p):((C.aL p).rw (C.cl p)).ct+1=(C.rw (C.cl p)).ct/\(∀d,d≠C.cl p->(C.aL p).rw d=C.rw d)/\(∀d,((C.aL p).rw d).bA=(C.rw d).bA)/\
  ((C.aL p).pg (C.pn p)).held+1=(C.pg (C.pn p)).held/\(∀j,j≠C.pn p->(C.aL p).pg j=C.pg j)/\((C.pg (C.pn p)).lv=false->((C.aL p).rw (C.cl p)).free≠ []):=by
 have n1:=L.toAt.ba K;have wz:C.cl p<C.rows.length:=by rw[K.rl];exact n1.1
 have hw:∀d,(C.aL p).rw d=if d=C.cl p then{C.rw (C.cl p)with free:=if(C.pg (C.pn p)).lv=true then(C.rw (C.cl p)).free else(C.rw (C.cl p)).free++ [p],ct:=(C.rw (C.cl p)).ct-1}else C.rw d:=λd=>rX wz d
 have hp:∀j,(C.aL p).pg j=if j=C.pn p then{C.pg (C.pn p)with tk:=(C.pg (C.pn p)).tk.set (C.ix p) false,held:=(C.pg (C.pn p)).held-1,aX:=(C.pg (C.pn p)).aX.set (C.ix p) ((C.gen p+1) % 4294967296)}else C.pg j:=λj=>kO (by rw[K.pl];exact L.i) j
 have ht:1<=(C.rw (C.cl p)).ct:=by
  rw[<-ti K n1.1];exact akc ((th K).2 ⟨L,rfl⟩)
 have hh:1<=(C.pg (C.pn p)).held:=by
  rw[(K.s9 L.i).held];have:=iX bN L.tk;exact this
 refine⟨?_,λd e=>by rw[hw,if_neg e],λd=> ?_, ?_,λj e=>by rw[hp,if_neg e],λe g=> ?_⟩
 ·rw[hw,if_pos rfl]
  show(C.rw (C.cl p)).ct-1+1=_;omega
 ·rw[hw]
  split
  ·next e=>rw[e]
  rfl
 ·rw[hp,if_pos rfl]
  show(C.pg (C.pn p)).held-1+1=_;omega
 rw[hw,if_pos rfl]at g;dsimp only at g;rw[if_neg (by rw[e];decide)]at g;simp at g
theorem FO{C:Cs}(K:Ok C){i:Nat}(hi:i<C.n)(ho:(C.pg i).own=true):(∀d,((C.aU i).rw d).ct=(C.rw d).ct)/\((C.aU i).rw (C.pg i).cl).bA=(C.rw (C.pg i).cl).bA-1/\(∀d,d≠(C.pg i).cl->(C.aU i).rw d=C.rw d):=by
 have wz:(C.pg i).cl<C.rows.length:=by rw[K.rl];exact(K.pg _ (dh (by rw[K.pl];exact hi))).cl ho
 have hw:∀d,(C.aU i).rw d=if d=(C.pg i).cl then{C.rw (C.pg i).cl with bA:=(C.rw (C.pg i).cl).bA-1}else C.rw d:=λd=>rX wz d
 refine⟨λd=> ?_,by rw[hw,if_pos rfl],λd e=>by rw[hw,if_neg e]⟩;rw[hw];split
 ·next e=>rw[e]
 rfl
theorem MJ{C:Cs}(K:Ok C){i:Nat}(hi:i<C.n)(ho:(C.pg i).own=true):∀d,((C.cS i).rw d).ct=(C.rw d).ct/\((C.cS i).rw d).bA=(C.rw d).bA:=by
 have wz:(C.pg i).cl<C.rows.length:=by rw[K.rl];exact(K.pg _ (dh (by rw[K.pl];exact hi))).cl ho
 have hw:∀d,(C.cS i).rw d=if d=(C.pg i).cl then{C.rw (C.pg i).cl with ig:=(C.rw (C.pg i).cl).ig-1,free:=(C.rw (C.pg i).cl).free.filter λp=>decide (C.pn p≠i)}else C.rw d:=λd=>rX wz d
 intro d;rw[hw];split
 ·next e=>rw[e];exact⟨rfl,rfl⟩
 exact⟨rfl,rfl⟩
theorem CE{α:Type}[DecidableEq α]:∀{l m:List α},l.Nodup->(∀x∈l,x∈m)->l.length<=m.length
 | [],_,_,_=>Nat.zero_le _
 |x::l,m,nd,h=>by
  obtain⟨n1,n2⟩:=List.nodup_cons.1 nd;have hm:=h x aag;have:=CE (m:=m.erase x) n2 λy hy=>(List.mem_erase_of_ne λe:y=x=>n1 (by rw[<-e];exact hy)).2 (h y (aai _ hy));rw[List.length_erase_of_mem hm]at this;have:=akc hm;rw[abU];omega
theorem KJ{C:Cs}(K:Ok C)(f:Pg->Nat):C.wR f=OT (λi=>f (C.pg i)) C.n:=by
 unfold Cs.wR OT;rw[qv K,List.map_map];rfl
theorem JU{f:Nat->Nat}:∀{n:Nat},1<=OT f n->∃i,i<n/\1<=f i
 |0,h=>absurd h (by rw[aaA];decide)
 |n+1,h=>by
  rw[Ao]at h;by_cases g:1<=f n
  ·exact⟨n,akl n,g⟩
  obtain⟨i,a,b⟩:=JU (f:=f) (n:=n) (by omega);exact⟨i,by omega,b⟩
theorem JT{f:Nat->Nat}(h1:∀i,f i<=1):∀{n:Nat},2<=OT f n->∃i j,i<j/\j<n/\f i=1/\f j=1
 |0,h=>absurd h (by rw[aaA];decide)
 |n+1,h=>by
  rw[Ao]at h;have hn:=h1 n;by_cases g:f n=0
  ·obtain⟨i,j,a,b,c⟩:=JT h1 (n:=n) (by omega)
   exact⟨i,j,a,by omega,c⟩
  obtain⟨i,a,b⟩:=JU (f:=f) (n:=n) (by omega);have:=h1 i;exact⟨i,n,a,akl n,by omega,by omega⟩
theorem Ud (f:Nat->Nat){i j n:Nat}(h:i<j)(g:j<n):f i+f j<=OT f n:=by
 have h1:=Q6 f (show j+1<=n from g);have h2:=Yg f h;rw[Ao]at h1;omega
def Lz (C:Cs)(c i:Nat):FH:=(abM (C.ao/C.sz c)).map (C.mB i)
theorem LU{C:Cs}(K:Ok C){c:Nat}(hc:c<C.ae.length)(h2:2<=(C.rw c).bA)(hl:∀i,(C.pg i).lv=false):∃i j,i<C.n/\j<C.n/\(C.pg i).own=true/\(C.pg i).cl=c/\(C.pg j).own=true/\(C.pg j).cl=c/\(C.pg i).held+(C.pg j).held<=(C.rw c).ct/\2*(C.ao/C.sz c)<=(C.rw c).ct+(C.rw c).free.length:=by
 rw[K.fp c hc,KJ K]at h2;obtain⟨i,j,h,hj,a,b⟩:=JT (λi=>by unfold sJ;split<;>omega) h2;have own:∀i,sJ c (C.pg i)=1->(C.pg i).own=true/\(C.pg i).cl=c:=λi g=>by
  unfold sJ at g;split at g
  ·next e=>exact e
  cases g
 obtain⟨o1,c1⟩:=own i a;obtain⟨o2,c2⟩:=own j b;have ht:=Ud (λi=>uC c (C.pg i)) h hj;rw[uU o1 c1,uU o2 c2,<-KJ K,<-K.ft c hc]at ht;refine⟨i,j,by omega,hj,o1,c1,o2,c2,ht, ?_⟩;have pl:∀i,i<C.n->(C.pg i).own=true->(C.pg i).cl=c->∀k,k<C.ao/C.sz c->C.pn (C.mB i k)=i/\C.ix (C.mB i k)=k/\At C (C.mB i k):=λi hi ho cQ k hk=>by
  have P:=K.pg _ (dh (C:=C) (i:=i) (by rw[K.pl];exact hi));exact iM K hi ho (by rw[P.gl ho,cQ];exact hk)
 have nd:∀i,i<C.n->(C.pg i).own=true->(C.pg i).cl=c->(Lz C c i).Nodup:=λi hi ho cQ=>by
  unfold Lz List.Nodup;rw[List.pairwise_map];refine List.Pairwise.imp_of_mem ?_ (List.nodup_range (n:=C.ao/C.sz c));intro x y hx hy ne e;rw[ab0]at hx hy;have e1:=(pl i hi ho cQ x hx).2.1;rw[e,(pl i hi ho cQ y hy).2.1]at e1;exact ne e1.symm
 have mem:∀i,i<C.n->(C.pg i).own=true->(C.pg i).cl=c->∀p∈Lz C c i,C.pn p=i/\p∈KX C c++(C.rw c).free:=λi hi ho cQ p hp=>by
  obtain⟨k,hk,rfl⟩:=List.mem_map.1 hp;obtain⟨e1,e2,A⟩:=pl i hi ho cQ k (ab0.1 hk);refine⟨e1,agb.2 ?_⟩;have ecl:C.cl (C.mB i k)=c:=by unfold Cs.cl;rw[e1];exact cQ
  obtain⟨b,hb⟩:=ain K A;cases b with
  |true=>exact .inl ((th K).2 ⟨⟨A,hb⟩,ecl⟩)
  |false=>exact .inr (K.fa c _ ⟨A,ecl,hb,hl _⟩ hc)
 have hs:=CE (l:=Lz C c i++Lz C c j) (m:=KX C c++(C.rw c).free) (by
  refine List.nodup_append.2 ⟨nd i (by omega) o1 c1,nd j hj o2 c2,λx hx y hy e=> ?_⟩;have e1:=(mem i (by omega) o1 c1 x hx).1;have e2:=(mem j hj o2 c2 y hy).1;rw[e,e2]at e1;omega) (λp hp=>(agb.1 hp).elim (λg=>(mem i (by omega) o1 c1 p g).2) λg=>(mem j hj o2 c2 p g).2)
 rw[aby,aby,ti K hc]at hs;unfold Lz at hs;rw[abI,abI,List.length_range]at hs;omega
theorem xb{C:Cs}{f each:Nat}:∀{m k:Nat},k<m->(C.pg k).own=true->(C.pg k).cl=f->each<=(C.rw f).free.length->∃q,uw C f each m=some q/\(C.pg q).held<=(C.pg k).held
 |m+1,k,h,ho,hc,hf=>by
  by_cases b:WB C f each m (uw C f each m)
  ·rw[CW b]
   refine⟨m,rfl, ?_⟩;rcases akx (akD h)with g|g
   ·obtain⟨q,e,l⟩:=xb g ho hc hf
    exact Nat.le_trans (Nat.le_of_lt (b.2.2.2 q e)) l
   rw[g];exact aam _
  rw[BX b];rcases akx (akD h)with g|g
  ·exact xb g ho hc hf
  subst g;cases e:uw C f each k with
  |none=>exact absurd ⟨ho,hc,by omega,λq hq=>by rw[e]at hq;cases hq⟩ b
  |some q=>
   refine⟨q,rfl,abz λl=>b ⟨ho,hc,by omega,λr hr=> ?_⟩⟩;rw[e]at hr;cases hr;omega
theorem AZ{C:Cs}(K:Ok C){c:Nat}(hc:c<C.ae.length)(h2:2<=(C.rw c).bA)(hl:∀i,(C.pg i).lv=false)(ht:(C.rw c).ct<=C.ao/C.sz c):∃q,gq C c=some q/\2*(C.pg q).held<=(C.rw c).ct:=by
 obtain⟨i,j,hi,hj,o1,c1,o2,c2,hs,hf⟩:=LU K hc h2 hl;unfold gq;rw[if_neg (by omega)];obtain⟨q,e,l⟩:=xb (each:=C.ao/C.sz c) hi o1 c1 (by omega);obtain⟨r,e2,l2⟩:=xb (each:=C.ao/C.sz c) hj o2 c2 (by omega);rw[e]at e2;cases e2;exact⟨q,e,by omega⟩
end Go.Proofs.YtcbcjolpdljbiaaGreat
namespace Go.Proofs.YtcbcjolpdljbiaaGreat
open Go Go.dC Go.Proofs.YtcbcjolpdljbiaaGreat.Cs
def Cq (e:Nat)(x:I3×Nat):Prop:=x.1.exp=(if x.2=0 then e else 0)/\1<=x.1.tok
structure Th (n e:Nat)(M:Mo):Prop where
 i:Mi M
 h:M.hole=none
 z:M.C.ae= [64,128]
 ps:M.C.ao=4096
 nn:M.C.n=n
 k:M.k=⟨1,0,0⟩
 e0:e=0\/1<e
 it:∀p,M.has p->Cq e (M.vw p)
 un:∃u,M.m.un= [0,u]
 on:M.m.on=true->M.m.fr=0/\(M.C.pg M.m.pg).held<=28/\2<=(M.C.rw 0).bA/\M.C.spare=0
variable {n e:Nat} {M N:Mo}
theorem Th.al (T:Th n e M){p:Nat}(hp:M.has p):M.bF p=0:=by
 obtain⟨h1,h2⟩:=T.it p hp;have h1:(M.it p).exp=_:=h1;have h2:1<=(M.it p).tok:=h2;have he:=T.e0;unfold Mo.bF;rw[T.k,h1];have hx:¬(0<(if(M.vw p).2=0 then e else 0)/\(if(M.vw p).2=0 then e else 0)<=1):=by split<;>omega
 rw[if_neg hx,if_neg (by show¬(M.it p).tok<=0;omega)]
theorem Th.of (T:Th n e M)(G:la M N)(hh:N.hole=none)(S:Shq M.C N.C)(hu:N.m.un=M.m.un)(on:N.m.on=true->N.m.fr=0/\(N.C.pg N.m.pg).held<=28/\2<=(N.C.rw 0).bA/\N.C.spare=0):Th n e N:=
 ⟨G.i,hh,S.sz.trans T.z,S.ps.trans T.ps,S.n.trans T.nn,G.s.k.trans T.k,T.e0,λq hq=>by obtain⟨p,a,b⟩:=G.s.d q hq;rw[b];exact T.it p a,by rw[hu];exact T.un,on⟩
theorem Th.go (T:Th n e M)(G:la M N)(hh:N.hole=none)(hC:N.C=M.C)(hm:N.m=M.m):Th n e N:=T.of G hh ⟨by rw[hC],by rw[hC],by rw[hC]⟩ (by rw[hm]) (by rw[hC,hm];exact T.on)
theorem Th.DA (T:Th n e M):M.C.ao/M.C.sz 0=64/\M.C.ao/M.C.sz 1=32/\M.C.ae.length=2:=by
 unfold Cs.sz;rw[T.ps,T.z];exact⟨rfl,rfl,rfl⟩
theorem Th.sum (T:Th n e M):(M.C.rw 0).bA+(M.C.rw 1).bA+M.C.spare=n:=by
 have h:=Ok.Yn T.i.k;rw[T.z,T.nn]at h;have e2:((abM [64,128].length).map λc=>(M.C.rw c).bA).sum=(M.C.rw 0).bA+((M.C.rw 1).bA+0):=rfl;rw[e2]at h;omega
theorem Th.fit (T:Th n e M):(M.C.rw 0).ct<=64*(M.C.rw 0).bA/\(M.C.rw 1).ct<=32*(M.C.rw 1).bA:=by
 obtain⟨a,b,l⟩:=T.DA;have h0:=Ok.x5 T.i.k (c:=0) (by rw[l];decide);have h1:=Ok.x5 T.i.k (c:=1) (by rw[l];decide);rw[a]at h0;rw[b]at h1;exact⟨by omega,by omega⟩
theorem Th.stay (T:Th n e M){c:Nat}(hc:c<2):(M.C.rw c).bA=(M.C.rw c).ig+(if M.m.on=true/\c=0 then 1 else 0):=by
 have h:=Ok.leaves T.i.k (j:=M.m.pg) (λi hi=>(T.i.go i hi).2) (c:=c) (by rw[T.DA.2.2];exact hc);rw[h]
 congr 1
 by_cases eo:M.m.on=true
 ·obtain⟨_,a,b,d⟩:=T.i.on eo
  have f:=(T.on eo).1;by_cases hc0:c=0
  ·rw[if_pos ⟨b,a,by rw[d,f,hc0]⟩,if_pos ⟨eo,hc0⟩]
  rw[if_neg λg=>hc0 (by rw[<-g.2.2,d,f]),if_neg λg=>hc0 g.2]
 rw[if_neg λg=>eo (T.i.go _ g.1).1,if_neg λg=>eo g.1]
def nQ (n:Nat)(M:Mo):Int:=32*((n:Int)-1)+30*(((M.C.rw 0).bA:Int)-1)-((M.C.rw 1).ct:Int)-(if M.m.on=true then 29-((M.C.pg M.m.pg).held:Int)else 0)
structure Lt (n e:Nat)(M N:Mo):Prop where
 t:Th n e N
 g:la M N
 t0:(N.C.rw 0).ct=(M.C.rw 0).ct
 t1:(N.C.rw 1).ct=(M.C.rw 1).ct
 p0:1<=(M.C.rw 0).bA->1<=(N.C.rw 0).bA
 un:N.m.un=M.m.un
 ph:nQ n N<=nQ n M
theorem Lt.trans{O:Mo}(a:Lt n e M N)(b:Lt n e N O):Lt n e M O:=⟨b.t,a.g.trans b.g,b.t0.trans a.t0,b.t1.trans a.t1,λh=>b.p0 (a.p0 h),b.un.trans a.un,ak0 b.ph a.ph⟩
theorem Th.c8 (T:Th n e M)(ht:(M.C.rw 0).ct<=56)(eo:M.m.on=true):Lt n e M M.c8.2/\nQ n M.c8.2+1<=nQ n M/\(M.c8.1=true->M.c8.2.m.on=true):=by
 have K:=T.i.k;obtain⟨a,b,c,d⟩:=T.i.on eo;obtain⟨o1,o2,o3,o4⟩:=T.on eo;obtain⟨p0,p1,l⟩:=T.DA;unfold Mo.c8;cases hf:(M.C.pg M.m.pg).tk.findIdx? id with
 |none=>
  have h0:=(QB K a hf).1;obtain⟨r1,r2,r3⟩:=FO K a b;rw[d,o1]at r2 r3;have G:=T.i.release eo hf;have e1:nQ n {M with C:=M.C.aU M.m.pg,m:=M.m.off}+1=nQ n M:=by
   unfold nQ;dsimp only;rw[r2,r1,if_neg (show¬M.m.off.on=true from λh=>by cases h),if_pos eo,h0];omega
  exact⟨⟨T.of G T.h ⟨rfl,rfl,rfl⟩ rfl (λh=>by cases h),G,r1 0,r1 1,λ_=>by show 1<=((M.C.aU M.m.pg).rw 0).bA;rw[r2];omega,rfl,by dsimp only;omega⟩,by dsimp only;omega,λh=>by cases h⟩
 |some k=>
  have hp:=T.i.BN T.h a b hf;have P:kN M.C (M.C.pg M.m.pg):=K.pg _ (dh (by rw[K.pl];exact a));have hk:=(abK.1 hf).1;obtain⟨q1,_,_⟩:=iM K a b (k:=k) (by rw[<-P.tl];exact hk);dsimp only;generalize M.C.mB M.m.pg k=p at*;have cQ:M.C.cl p=0:=by unfold Cs.cl;rw[q1,d,o1]
  rw[if_neg (by rw[T.al hp];decide)];have Bs:(M.C.rw 0).free≠ []:=λhf0=>by
   have h:=vt K (c:=0) (by rw[l];decide) hf0;have h2:=T.stay (c:=0) (by decide);rw[if_pos ⟨eo,rfl⟩]at h2;rw[p0]at h;omega
  cases hs:M.shift p with
  |none=>
   exfalso;unfold Mo.shift at hs;rw[cQ]at hs;cases ht:M.take 0 with
   |some x=>rw[ht]at hs;cases hs
   |none=>
    have h2:=XI ht;unfold Cs.ca at h2;cases hl:(M.C.rw 0).free.getLast? with
    |none=>exact Bs (agX.1 hl)
    |some r=>rw[hl]at h2;cases h2
  |some N=>
   dsimp only;obtain⟨G,hN⟩:=T.i.shift T.h hp hs;have hm:=(yw hs).2;unfold Mo.shift at hs;rw[cQ]at hs;cases oV:M.take 0 with
   |none=>rw[oV]at hs;cases hs
   |some x=>
    obtain⟨r,O⟩:=x;rw[oV]at hs;cases hs;unfold Mo.take at oV;cases hD:M.C.ca 0 with
    |none=>rw[hD]at oV;cases oV
    |some x=>
     obtain⟨r',D⟩:=x;rw[hD]at oV;cases oV;have TK:=nz K (by rw[l];decide) hD;obtain⟨n1,n2,n3⟩:=qd K (c:=0) (by rw[l];decide) hD;rcases n3 with⟨_,n3,n4,n5,F⟩|⟨g,_⟩
     ·have L:=(T.i.lv p).2 (.inl hp)
      have LD:Live D p:=(TK.lv p).2 (.inl L);have eD:D.cl p=0:=(TK.hd p L).2.trans cQ;obtain⟨g1,g2,g3,g4,g5,g6⟩:=qn TK.k LD;rw[eD]at g1 g2;have epn:D.pn p=M.m.pg:=by
       rw[<-q1];unfold Cs.pn;rw[TK.ps]
      have ne:M.m.pg≠M.C.pn r:=λe2=>by
       have:=F.lv;rw[<-e2,c]at this;cases this
      have hh:D.pg M.m.pg=M.C.pg M.m.pg:=by rw[n5];exact AD K F ne
      rw[epn,hh]at g4;have x0:((D.aL p).rw 0).ct=(M.C.rw 0).ct:=by omega
      have x1:(D.aL p).rw 1=M.C.rw 1:=(g2 1 (by decide)).trans (n2 1 (by decide));have x2:((D.aL p).rw 0).bA=(M.C.rw 0).bA:=(g3 0).trans n3;have e1:nQ n ((({M with C:=D,hole:=some r}:Mo).swap p r).pO p)+1=nQ n M:=by
       unfold nQ;show 32*((n:Int)-1)+30*((((D.aL p).rw 0).bA:Int)-1)-(((D.aL p).rw 1).ct:Int)-(if M.m.on=true then 29-(((D.aL p).pg M.m.pg).held:Int)else 0)+1=_;rw[x1,x2,if_pos eo,if_pos eo];omega
      refine⟨⟨T.of G hN ⟨TK.sz,TK.n,TK.ps⟩ rfl λ_=>⟨o1, ?_, ?_, ?_⟩,G,x0,congrArg Rw.ct x1,λ_=> ?_,rfl,by omega⟩,by omega,λ_=>eo⟩
      ·show((D.aL p).pg M.m.pg).held<=28
       omega
      ·show 2<=((D.aL p).rw 0).bA
       omega
      ·show D.spare=0
       omega
      show 1<=((D.aL p).rw 0).bA;omega
     exact absurd g Bs
theorem Th.mvd (T:Th n e M):Lt n e M M:=⟨T,⟨T.i, .refl T.i.p⟩,rfl,rfl,id,rfl,akr _⟩
theorem Th.cx:∀(f:Nat) {M:Mo},Th n e M->(M.C.rw 0).ct<=56->M.m.on=true->Lt n e M (M.cx f).2/\(1<=f->nQ n (M.cx f).2+1<=nQ n M)
 |0,_,T,_,_=>⟨T.mvd,λh=>absurd h (by decide)⟩
 |f+1,M,T,ht,eo=>by
  obtain⟨V,h1,h2⟩:=T.c8 ht eo;unfold Mo.cx;split
  ·next g=>
   obtain⟨W,_⟩:=Th.cx f V.t (by rw[V.t0];exact ht) (h2 g);exact⟨V.trans W,λ_=>by have:=W.ph;dsimp only;omega⟩
  exact⟨V,λ_=>h1⟩
theorem Th.ahv (T:Th n e M)(eo:M.m.on=false)(i:Nat):(M.C.pg i).lv=false:=by
 cases h:(M.C.pg i).lv with
 |false=>rfl
 |true=>have:=(T.i.go i h).1;rw[eo]at this;cases this
theorem Th.dM (T:Th n e M)(ht:(M.C.rw 0).ct<=56)(eo:M.m.on=false){u:Nat}(hu:M.m.un= [0,u]):Lt n e M M.dM/\(M.C.spare=0->M.m.st<u->2<=(M.C.rw 0).bA->nQ n M.dM+1<=nQ n M):=by
 obtain⟨p0,p1,l⟩:=T.DA;have s0:M.m.cD 0=false:=by unfold gp.cD;rw[hu];rfl
 have s1:M.m.cD 1=decide (M.m.st<u):=by unfold gp.cD;rw[hu];rfl
 unfold Mo.dM;by_cases Gj:0<M.C.spare
 ·rw[if_pos Gj]
  exact⟨T.mvd,λh=>by omega⟩
 rw[if_neg Gj];rw[show M.fG=2 from l];by_cases fA:M.m.st<u
 ·rw[Bf (k:=1) (by decide) (λj hj=>by obtain rfl:j=0:=(by omega);exact s0) (by rw[s1];exact decide_eq_true fA)]
  have e2:fw M.m M.C 2=fw M.m M.C 1:=sC (.inl (by rw[s1];exact decide_eq_true fA));have g0:¬(M.m.cD 0=true\/(∃o,fw M.m M.C 0=some o/\ko M.C 0<=ko M.C o.2)):=λg=>by
   rcases g with g|⟨o,g,_⟩
   ·rw[s0]at g;cases g
   cases g
  dsimp only;rw[e2];cases hl:gq M.C 0 with
  |none=>
   rw[sD hl];refine⟨T.mvd,λ_ _ h2=> ?_⟩;obtain⟨q,e3,_⟩:=AZ T.i.k (by rw[l];decide) h2 (T.ahv eo) (by rw[p0];omega);rw[hl]at e3;cases e3
  |some q=>
   rw[vC g0 hl];obtain⟨b1,b2,b3⟩:=zk hl;have h2:2<=(M.C.rw 0).bA:=by
    unfold gq at hl;split at hl
    ·cases hl
    omega
   obtain⟨r,e3,e4⟩:=AZ T.i.k (by rw[l];decide) h2 (T.ahv eo) (by rw[p0];omega);rw[hl]at e3;cases e3;have G:=T.i.leave (t:=1) eo b1 b2 b3;have n1:=MJ T.i.k b1 b2;have iF:=yF T.i.k b1;have hh:((M.C.cS q).pg q).held=(M.C.pg q).held:=by rw[iF,if_pos rfl]
   have e1:nQ n {M with C:=M.C.cS q,m:={M.m with pg:=q,fr:=0,tt:=1,on:=true}}+1<=nQ n M:=by
    unfold nQ;dsimp only;rw[(n1 0).2,(n1 1).1,if_pos rfl,if_neg (by rw[eo];decide),hh];omega
   refine⟨⟨T.of G T.h ⟨rfl,rfl,rfl⟩ rfl λ_=>⟨rfl, ?_, ?_, ?_⟩,G,(n1 0).1,(n1 1).1,λ_=> ?_,rfl,ak0 (Int.le_add_one (akr _)) e1⟩,λ_ _ _=>e1⟩
   ·show((M.C.cS q).pg q).held<=28
    rw[hh];omega
   ·show 2<=((M.C.cS q).rw 0).bA
    rw[(n1 0).2];exact h2
   ·show M.C.spare=0
    omega
   show 1<=((M.C.cS q).rw 0).bA;rw[(n1 0).2];omega
 rw[vv (n:=2) λj hj=>by
  rcases(show j=0\/j=1 by omega)with rfl|rfl
  ·exact s0
  rw[s1];exact decide_eq_false fA]
 exact⟨T.mvd,λ_ h=>absurd h fA⟩
theorem Th.eG (T:Th n e M)(ht:(M.C.rw 0).ct<=56){most:Int}(hm:1<=most){u:Nat}(hu:M.m.un= [0,u]):Lt n e M (M.eG most).2/\(M.m.on=true\/M.C.spare=0/\M.m.st+1<u/\2<=(M.C.rw 0).bA->nQ n (M.eG most).2+1<=nQ n M):=by
 have G0:la M M.dQ:=⟨T.i.rf T.i.x rfl rfl rfl rfl rfl rfl rfl rfl,eA T.i.p rfl rfl rfl⟩;have T1:Th n e M.dQ:=T.of G0 T.h ⟨rfl,rfl,rfl⟩ rfl T.on;have V0:Lt n e M M.dQ:=⟨T1,G0,rfl,rfl,id,rfl,akr _⟩;have e0:nQ n M.dQ=nQ n M:=rfl;unfold Mo.eG;rw[if_neg (by omega)];cases eo:M.m.on with
 |true=>
  rw[if_pos rfl];obtain⟨V,h⟩:=T1.cx (min most 1048576).toNat ht eo;exact⟨V0.trans V,λ_=>by have:=h (by omega);omega⟩
 |false=>
  rw[if_neg (by decide)];obtain⟨V,h⟩:=T1.dM ht eo (u:=u) hu;exact⟨V0.trans V,λg=>by
   rcases g with g|⟨g1,g2,g3⟩
   ·cases g
   have:=h g1 g2 g3;dsimp only;omega⟩
theorem Th.aiM (T:Th n e M)(eo:M.m.on=false)(hu:M.m.un= [0,0])(most:Int):∃s,(M.eG most).2={M with m:={M.m with st:=s}}:=by
 have s0:∀j,j<2->M.dQ.m.cD j=false:=λj hj=>by
  unfold gp.cD Mo.dQ;rw[hu];rcases(show j=0\/j=1 by omega)with rfl|rfl<;>exact decide_eq_false (Nat.not_lt_zero _)
 unfold Mo.eG;split
 ·exact⟨M.m.st,rfl⟩
 rw[if_neg (by rw[eo];decide)];refine⟨M.m.st+1, ?_⟩;show M.dQ.dM=_;unfold Mo.dM;split
 ·rfl
 rw[show M.dQ.fG=2 from T.DA.2.2,vv s0];rfl
end Go.Proofs.YtcbcjolpdljbiaaGreat
