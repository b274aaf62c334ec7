/- Part Po2 of the proof. -/
import Derived.Test.YtcbcjolpdljbiaaGreatPq1
set_option maxRecDepth 100000
open List renaming findIdx?_eq_some_iff_getElem -> abl, length_cons -> abu
open Bool renaming or_eq_false_iff -> ak9
open Decidable renaming byContradiction -> aba
open Nat renaming le_trans -> ahO
namespace Go.Proofs.YtcbcjolpdljbiaaGreat
open Go Go.dQ Go.Proofs.YtcbcjolpdljbiaaGreat.Cs
def fh.noRoom (a:fh):Bool:=decide (a.kind=11/\a.uT=gM)
def Mo.jS (M:Mo)(c:dy)(k:F9)(o:FW):Nat:=
 if c.ax=8\/c.ax=9 then(match o with|none=>0|some p=>58+k.length+c.data.length+(M.it p).val.length)
 else if c.ax=12\/c.ax=13 then(match o with|none=>0|some p=>match kV (M.it p).val with|none=>0|some n=>58+k.length+(dZ (gX c n)).length)
 else 58+k.length+c.data.length
def oH (ax:Int):Bool:=decide (ax=8\/ax=9\/ax=12\/ax=13)
theorem E9 (n:Nat):(fh.k n).noRoom=false:=by
 unfold fh.noRoom fh.k;exact decide_eq_false λh=>by cases h.2
theorem pF:(fh.t dX).noRoom=false:=by decide
theorem IX:(fh.t sS).noRoom=false:=by decide
theorem U2 (m:Nat):(⟨7,[],m,[]⟩:fh).noRoom=false:=decide_eq_false λh=>by cases h.1
inductive Yo (N:Mo) (w:Nat) (o:FW) (st:Bool) (r:fh×Mo):Prop where
 |calm (z:vh r.2) (h:r.1.noRoom=false):Yo N w o st r
 |had (x:Nat) (X:Mo) (h:N.room w o=(some x,X)) (k:r.1.kind=1\/r.1.kind=7) (e:r.2.v.mt=X.v.mt) (l:w<=N.v.c.lim) (w0:w≠0):Yo N w o st r
 |no (X:Mo) (h:N.room w o=(none,X)) (a:r.1= .t gM) (e:r.2=X.over o (!st)) (l:w<=N.v.c.lim) (w0:w≠0):Yo N w o st r
theorem xw (M:Mo)(k:F9):(M.meet k).2.v.mt=M.v.mt/\(M.meet k).2.it=M.it/\(M.meet k).2.v.c=M.v.c:=by
 unfold Mo.meet;split
 ·exact⟨rfl,rfl,rfl⟩
 ·split<;>exact⟨rfl,rfl,rfl⟩
theorem Kk (M:Mo)(o:FW)(ov:Bool):(M.over o ov).v.mt=M.v.mt:=by
 unfold Mo.over;split
 ·split<;>rfl
 rfl
theorem KG (M:Mo)(r:Nat)(o:FW)(n:I3):(M.fZ r o n).v.mt=M.v.mt:=by
 unfold Mo.fZ;split<;>rfl
theorem Pu{M:Mo}(z:vh M)(c:dy)(hv:5<=c.ax/\c.ax<=13/\c.ax≠11)(k:F9)(hk:c.keys.headD []=k):Yo (M.meet k).2 (M.jS c k (M.meet k).1) (M.meet k).1 (oH c.ax) (M.dK c):=by
 obtain⟨m1,m2,m3⟩:=xw M k;have z1:vh (M.meet k).2:=z.of m1;unfold Mo.dK;rw[if_neg (by omega),hk];by_cases vd:c.ax=12\/c.ax=13
 ·rw[if_pos vd]
  have hw:M.jS c k (M.meet k).1=(match(M.meet k).1 with|none=>0|some p=>match kV (M.it p).val with|none=>0|some n=>58+k.length+(dZ (gX c n)).length):=by
   unfold Mo.jS;rw[if_neg (by omega),if_pos vd]
  rw[hw];unfold Mo.counts;rcases hm:M.meet k with⟨_|p,N⟩
  ·rw[hm]at z1
   exact .calm z1 (E9 _)
  rw[hm]at z1 m2;dsimp only at z1 m2⊢;obtain⟨_,rM,_⟩:=iV hm;rw[m2];cases hn:kV (M.it p).val with
  |none=>exact .calm z1 IX
  |some n=>
   dsimp only;unfold Mo.qL;rw[m2,rM];split
   ·exact .calm (z1.of rfl) (U2 _)
   split
   ·exact .calm z1 pF
   next D5=>
   have hl:((58+k.length+(dZ (gX c n)).length:Nat):Int)<=N.v.c.lim:=by omega
   have h0:58+k.length+(dZ (gX c n)).length≠0:=by omega
   rcases hr:N.room (58+k.length+(dZ (gX c n)).length) (some p)with⟨_|r,R⟩
   ·refine .no R hr rfl ?_ hl h0
    rw[show oH c.ax=true from Au];rfl
   exact .had r R hr (.inr rfl) (KG _ _ _ _) hl h0
 rw[if_neg vd,if_neg (by omega),if_neg (by omega),if_neg (by omega),if_neg (by omega),if_neg (by omega),if_neg (by omega)];unfold Mo.dS Mo.jj;generalize (M.meet k).2=N at*;generalize (M.meet k).1=o at*;split
 ·exact .calm (z1.of (Kk _ _ _)) pF
 next D5=>
 split
 ·exact .calm z1 (E9 _)
 next has=>
 have fM:oH c.ax= !DG c.ax:=by
  unfold oH DG;rw[Bool.eq_iff_iff];simp only[decide_eq_true_eq,Bool.not_eq_true',decide_eq_false_iff_not];omega
 cases hx:N.rW c k o with
 |none=>exact .calm z1 pF
 |some x=>
  have hw:M.jS c k o=58+k.length+x.1.length/\58+k.length+x.1.length<=N.v.c.lim:=by
   unfold Mo.rW at hx;unfold Mo.jS;by_cases ho:DG c.ax=true
   ·rw[if_pos ho]at hx
    cases hx;have h89:c.ax≠8/\c.ax≠9:=of_decide_eq_true ho;rw[if_neg (by omega),if_neg vd];exact⟨rfl,by dsimp only;omega⟩
   rw[if_neg ho]at hx;have h89:¬(c.ax≠8/\c.ax≠9):=λg=>ho (decide_eq_true g);rw[if_pos (by omega)];cases o with
   |none=>cases hx
   |some p=>
    try dsimp only at hx⊢
    split at hx
    ·cases hx
    next hl=>
    cases hx;rw[m2]at hl⊢;dsimp only;split<;>(rw[List.length_append];omega)
  rw[hw.1];unfold Mo.lays;dsimp only;rcases hr:N.room (58+k.length+x.1.length) o with⟨_|r,R⟩
  ·refine .no R hr rfl ?_ hw.2 (by omega)
   rw[fM,Bool.not_not]
  exact .had r R hr (.inl rfl) (KG _ _ _ _) hw.2 (by omega)
theorem Vz (C:Cs)(p c:Nat):((C.bh p).rw c).fL=(C.rw c).fL:=by
 by_cases g:C.cl p<C.rows.length
 ·have e:(C.bh p).rw c=_:=qH C (C.cl p) c {C.rw (C.cl p)with free:=if(C.pg (C.pn p)).lv=true then(C.rw (C.cl p)).free else(C.rw (C.cl p)).free++ [p],eG:=(C.rw (C.cl p)).eG-1} g
  by_cases i:c=C.cl p
  ·rw[if_pos i]at e
   rw[e,i]
  rw[if_neg i]at e;rw[e]
 unfold Cs.bh Cs.put Cs.rw;dsimp only;rw[List.set_eq_of_length_le (by omega)]
theorem Vf (M:Mo)(k:F9)(c:Nat):((M.meet k).2.C.rw c).fL=(M.C.rw c).fL:=by
 unfold Mo.meet;split
 ·rfl
 split
 ·exact Vz M.C _ c
 rfl
structure yA (M:Mo)(c:dy)(k:F9)(r:fh×Mo):Prop where
 lo:0<=r.2.v.mt.lo/\r.2.v.mt.lo<=5
 g:(r.2.v.mt.dr=0/\r.2.v.mt.re=0)\/(r.2.v.mt.dr=1/\r.2.v.mt.re=0\/r.2.v.mt.dr=0/\r.2.v.mt.re=1)/\1<=r.2.v.mt.lo/\r.1.noRoom=false/\(r.1.kind=1\/r.1.kind=7)
 calm:(M.jS c k (M.live k)=0\/M.C.ae.findIdx? (λz=>decide (M.jS c k (M.live k)<=z))=none)->r.1.noRoom=false/\r.2.v.mt.dr=0/\r.2.v.mt.re=0
 room:∀i,M.C.ae.findIdx? (λz=>decide (M.jS c k (M.live k)<=z))=some i->(M.C.rw i).eG+1<=BZ M i->r.1.noRoom=false/\vh r.2
 no:∀i,M.C.ae.findIdx? (λz=>decide (M.jS c k (M.live k)<=z))=some i->r.1.noRoom=true->
  vh r.2/\((M.C.rw i).eG=0\/(M.C.rw i).eG=1/\∃p,M.live k=some p/\M.C.cl p=i)/\(r.2.live k).isSome=((M.live k).isSome&&oH c.ax)
theorem tC{l:F8}{n i:Nat}(h:l.findIdx? (λz=>decide (n<=z))=some i):i<l.length:=(abl.1 h).1
theorem nV (M:Mo)(k:F9):(M.live k).isSome=(M.kU k).isSome:=by unfold Mo.kU;cases M.live k<;>rfl
theorem Jh{M:Mo}(K:Mi M)(Rw:qp M)(hh:M.hole=none)(z:vh M)(ht:∀c,c<M.C.ae.length->(M.C.rw c).eG<=(M.C.rw c).pgs*(M.C.aj/M.C.sz c))(hf:∀n:Nat,(n:Int)<=M.v.c.lim->M.C.ae.findIdx? (λz=>decide (n<=z))≠none)(c:dy)(hv:5<=c.ax/\c.ax<=13/\c.ax≠11)(k:F9)(hk:c.keys.headD []=k):yA M c k (M.dK c)/\((M.dK c).1.noRoom=true->Mi (M.dK c).2/\(M.dK c).2.hole=none):=by
 have D:=Pu z c hv k hk;obtain⟨G,hl,hh1⟩:=K.meet k;obtain⟨m1,m2,m3⟩:=xw M k;have Ev:=Ev.meet M k;have R1:=Rw.meet K k;have fL:=Vf M k;rw[hl]at D;obtain⟨w,hw⟩:∃w,M.jS c k (M.live k)=w:=⟨_,rfl⟩;rw[hw]at D;generalize hN:(M.meet k).2=N at*;have ez:N.C.ae=M.C.ae:=Ev.g.sz;have es:∀i,N.C.sz i=M.C.sz i:=λi=>by unfold Cs.sz;rw[ez]
 have ep:N.C.aj=M.C.aj:=Ev.g.ps;have z1:vh N:=z.of m1;have calm:vh (M.dK c).2->(M.dK c).1.noRoom=false->yA M c k (M.dK c)/\((M.dK c).1.noRoom=true->Mi (M.dK c).2/\(M.dK c).2.hole=none):=λa b=>⟨⟨by rw[a.lo];decide, .inl ⟨a.dr,a.re⟩,λ_=>⟨b,a.dr,a.re⟩,λ_ _ _=>⟨b,a⟩,λ_ _ e=>by rw[b]at e;cases e⟩,λe=>by rw[b]at e;cases e⟩;have abG:∀o X,N.room w (M.live k)=(o,X)->∀i,M.C.ae.findIdx? (λz=>decide (w<=z))=some i->EE N i (M.live k) o X:=λo X h i hi=>by
  unfold Mo.room at h;rw[ez,hi]at h;exact Y4 G.i R1 z1 (by rw[ez];exact tC hi) _ h
 cases D with
 |calm a b=>exact calm a b
 |had x X h kd e l w0=>
  have fN:=hf w (by rw[<-m3];exact l);cases hi:M.C.ae.findIdx? (λz=>decide (w<=z))with
  |none=>exact absurd hi fN
  |some i=>
   have S:=abG _ _ h i hi;have nr:(M.dK c).1.noRoom=false:=decide_eq_false λq=>by omega
   refine⟨⟨by rw[e];exact S.lo, ?_, ?_, ?_, ?_⟩,λq=>by rw[nr]at q;cases q⟩
   ·rw[e]
    exact S.g.imp id λq=>⟨q.1,q.2.1,nr,kd⟩
   ·rw[hw]
    rintro(q|q)
    ·exact absurd q w0
    rw[hi]at q;cases q
   ·rw[hw]
    intro j hj hq;rw[hi]at hj;cases hj;refine⟨nr,(S.ro ?_).2.of e⟩;have t1:=Ev.g.tk i;rw[fL,Ev.g.sp,ep,es];unfold BZ at hq;omega
   intro j hj q;rw[nr]at q;cases q
 |no X h a e l w0=>
  have fN:=hf w (by rw[<-m3];exact l);cases hi:M.C.ae.findIdx? (λz=>decide (w<=z))with
  |none=>exact absurd hi fN
  |some i=>
   have S:=abG _ _ h i hi;obtain⟨zX,⟨GX,hQ,hIt,hH⟩,full,fo⟩:=S.no rfl;have hil:=tC hi;have z2:vh (M.dK c).2:=by rw[e];exact zX.of (Kk _ _ _)
   have K2:Mi (M.dK c).2/\(M.dK c).2.hole=none:=by
    rw[e];have hX:X.hole=none:=hH.trans (hh1.trans hh);unfold Mo.over;cases ho:M.live k with
    |none=>exact⟨GX.i,hX⟩
    |some p=>
     dsimp only;split
     ·have hm:M.meet k=(some p,N):=by rw[<-hN,<-ho,<-hl]
      obtain⟨q1,_,eN⟩:=iV hm;exact⟨GX.i.bY (by unfold Mo.has;rw[hQ,eN];exact q1),hX⟩
     exact⟨GX.i,hX⟩
   refine⟨⟨by rw[z2.lo];decide, .inl ⟨z2.dr,z2.re⟩, ?_, ?_, ?_⟩,λ_=>K2⟩
   ·rw[hw]
    rintro(q|q)
    ·exact absurd q w0
    rw[hi]at q;cases q
   ·rw[hw]
    intro j hj hq;rw[hi]at hj;cases hj;refine absurd rfl (S.ro ?_).1;have t1:=Ev.g.tk i;rw[fL,Ev.g.sp,ep,es];unfold BZ at hq;omega
   rw[hw];intro j hj _;rw[hi]at hj;cases hj;refine⟨z2, ?_, ?_⟩
   ·have t1:=ht i hil
    rw[Ev.g.pg,ep,es]at full;have to:=YD G.i R1 (hh1.trans hh) (c:=i) (by rw[ez];exact hil) fo;rcases to with t0|⟨t0,p,q1,q2,q3⟩
    ·exact .inl (by omega)
    rcases(show(M.C.rw i).eG=0\/(M.C.rw i).eG=1 by omega)with u|u
    ·exact .inl u
    refine .inr ⟨u,p,q1, ?_⟩;have hm:M.meet k=(some p,N):=by rw[<-hN,<-q1,<-hl]
    obtain⟨_,_,eN⟩:=iV hm;rw[eN]at q3;exact q3
   rw[nV,nV,e];have sX:X.kU k=M.kU k:=(GX.s.s G.i.p k).trans (G.s.s K.p k);cases ho:M.live k with
   |none=>
    have:M.kU k=none:=by unfold Mo.kU;rw[ho];rfl
    unfold Mo.over;dsimp only;rw[sX,this];rfl
   |some p=>
    have:(M.kU k).isSome=true:=by rw[<-nV,ho];rfl
    rw[this,Bool.true_and];unfold Mo.over;dsimp only;cases hs:oH c.ax with
    |true=>
     rw[if_neg (by decide),sX,this]
    |false=>
     rw[if_pos (by decide)];have hm:M.meet k=(some p,N):=by rw[<-hN,<-ho,<-hl]
     obtain⟨q1,q2,eN⟩:=iV hm;have hpX:X.has p/\(X.it p).key=k:=⟨by unfold Mo.has;rw[hQ,eN];exact q1,by rw[hIt,eN];exact q2⟩;have U:=GX.i.yD hpX.1;have:=U.s k;rw[hpX.2,if_pos rfl]at this;rw[this];rfl
structure MtE (M N:Mo):Prop where
 dr:N.v.mt.dr=M.v.mt.dr
 re:N.v.mt.re=M.v.mt.re
 lo:N.v.mt.lo=M.v.mt.lo
theorem BG (M:Mo):MtE M M.beside:=by
 unfold Mo.beside Mo.kY Mo.jy Mo.fw Mo.aR;exact⟨rfl,rfl,rfl⟩
theorem PL (hot warm:Nat)(M:Mo)(k:F9):MtE M (M.behind hot warm k):=by
 unfold Mo.behind;have h:=BG (M.nw hot warm k);refine⟨h.dr.trans ?_,h.re.trans ?_,h.lo.trans ?_⟩<;>(unfold Mo.nw;split<;>rfl)
theorem tE (hot warm:Nat):∀(l:List F9) (M:Mo),MtE M (l.foldl (Mo.behind hot warm) M)
 | [],_=>⟨rfl,rfl,rfl⟩
 |k::l,M=>by
  have a:=PL hot warm M k;have b:=tE hot warm l (M.behind hot warm k);exact⟨b.dr.trans a.dr,b.re.trans a.re,b.lo.trans a.lo⟩
theorem MtE.z{M N:Mo}(h:MtE M N)(z:vh M):vh N:=⟨h.dr.trans z.dr,h.re.trans z.re,h.lo.trans z.lo⟩
theorem Mi.jG (hot warm:Nat):∀(l:List F9) {M:Mo},Mi M->M.hole=none->om M (l.foldl (Mo.behind hot warm) M)
 | [],_,K,_=>⟨K, .refl K.p⟩
 |k::l,M,K,hh=>by
  obtain⟨a,b⟩:=K.behind hh hot warm k;exact a.trans (Mi.jG hot warm l a.i b)
theorem C1 (M:Mo):vh M.reset:=⟨rfl,rfl,rfl⟩
theorem WJ{M:Mo}(K:Mi M)(Rw:qp M)(hh:M.hole=none)(ht:∀c,c<M.C.ae.length->(M.C.rw c).eG<=(M.C.rw c).pgs*(M.C.aj/M.C.sz c))(hf:∀n:Nat,(n:Int)<=M.v.c.lim->M.C.ae.findIdx? (λz=>decide (n<=z))≠none)(c:dy)(hb:lY c=false)(hv:5<=c.ax/\c.ax<=13/\c.ax≠11)(k:F9)(hk:c.keys.headD []=k)(hot warm:Nat):yA M c k (M.dO hot warm c):=by
 obtain⟨P,hP⟩:=Jh (M:=M.reset) K.Fs.i Rw hh (C1 M) ht hf c hv k hk;unfold Mo.dO;rw[if_neg (by rw[hb];decide),if_neg (by unfold bm;rw[if_neg (by omega),if_pos (by omega)];decide)];have E:=tE hot warm c.keys (M.reset.dK c).2;refine⟨?_, ?_, ?_, ?_, ?_⟩
 ·rw[E.lo];exact P.lo
 ·dsimp only
  rw[E.lo,E.dr,E.re];exact P.g
 ·intro h
  obtain⟨a,b,d⟩:=P.calm h;exact⟨a,E.dr.trans b,E.re.trans d⟩
 ·intro i hi h
  obtain⟨a,b⟩:=P.room i hi h;exact⟨a,E.z b⟩
 intro i hi h;obtain⟨a,b,d⟩:=P.no i hi h;refine⟨E.z a,b, ?_⟩;obtain⟨K2,h2⟩:=hP h;have s:=(Mi.jG hot warm c.keys K2 h2).s.s K2.p k;rw[nV]at d;rw[nV];exact(congrArg Option.isSome s).trans d
theorem aai (ie:Bool)(ex:Int)(s:List I3×Mo)(y:F9):(Mo.jw ie ex s y).2.v.mt=s.2.v.mt:=by
 have e:=(xw s.2 y).1;unfold Mo.jw;rcases hm:s.2.meet y with⟨_|p,N⟩<;>rw[hm]at e
 ·exact e
 ·cases ie<;>exact e
theorem KY (ie:Bool)(ex:Int):∀(l:List F9) (s:List I3×Mo),(l.foldl (Mo.jw ie ex) s).2.v.mt=s.2.v.mt
 | [],_=>rfl
 |y::l,s=>by rw[List.foldl_cons,KY ie ex l,aai]
theorem Pw{M:Mo}(z:vh M)(c:dy)(hb:lY c=false)(hv:¬(5<=c.ax/\c.ax<=13/\c.ax≠11)):vh (M.dK c).2:=by
 have hvb:¬bm c.ax<0:=λh=>by
  unfold lY at hb;rw[ak9,ak9,decide_eq_false_iff_not]at hb;exact hb.1.1 (.inl h)
 have h18:1<=c.ax/\c.ax<=18:=by
  refine aba λg=>hvb ?_;unfold bm;rw[if_neg (by omega),if_neg (by omega),if_neg (by omega)];decide
 have e:=(xw M (c.keys.headD [])).1;unfold Mo.dK;split
 ·refine z.of ?_
  unfold Mo.xY;dsimp only;rw[KY]
 split
 ·omega
 split
 ·refine z.of ?_
  unfold Mo.gN;rcases hm:M.meet (c.keys.headD [])with⟨_|p,N⟩<;>rw[hm]at e<;>exact e
 split
 ·refine z.of ?_
  unfold Mo.delete;rcases hm:M.meet (c.keys.headD [])with⟨_|p,N⟩<;>rw[hm]at e<;>exact e
 split
 ·exact z.of rfl
 split
 ·exact z
 split
 ·exact z
 split
 ·exact z
 omega
theorem aaH{M:Mo}(c:dy)(hv:lY c=false->¬(5<=c.ax/\c.ax<=13/\c.ax≠11))(hot warm:Nat):vh (M.dO hot warm c).2:=by
 unfold Mo.dO;split
 ·exact C1 M
 next h=>
 have hb:lY c=false:=by simpa using h
 have D:=Pw (C1 M) c hb (hv hb);split
 ·exact(BG _).z D
 exact(tE hot warm _ _).z D
structure Yp (l:F8)(M:Mo):Prop where
 z:M.C.ae=l
 tk:∀c,c<l.length->(M.C.rw c).eG<=65536
 sz:∀c,c<l.length->M.C.sz c<=4096
theorem Tv (f:Pg->Nat)(h:∀x,f x<=1):∀L:List Pg,(L.map f).sum<=L.length
 | []=>Nat.le_refl _
 |x::L=>by
  rw[List.map_cons,List.sum_cons,abu];have:=Tv f h L;have:=h x;omega
theorem xQ.numr{t:q9}{p:Int}{M:Mo}{s:Nat}{B:Bx}(S:xQ (t.cfg p) M s)(O:bM B M):Yp (bF (t.cfg p)) M:=by
 obtain⟨e1,e2,e3⟩:=S.zs;have e3:M.C.aj=4096:=e3;refine⟨e1,λc hc=> ?_,λc hc=> ?_⟩
 ·rw[<-e1]at hc
  have h:=O.hold hc;rw[e3]at h;have h1:(M.C.rw c).pgs<=1024:=by
   rw[O.Qi.fp c hc];refine ahO (Tv (uY c) (λx=>by unfold uY;split<;>omega) M.C.bQ) ?_;rw[O.Qi.pl];exact O.Qi.n1
  have h2:=Nat.div_le_div_left (a:=4096) (Fix.sz O.Qi.toFix hc).1 (by decide);exact ahO h (Nat.mul_le_mul h1 h2)
 rw[<-e1]at hc;have h:=(Fix.sz O.Qi.toFix hc).2.1;rw[e3]at h;exact h
theorem Yp.sums{l:F8}{M:Mo}(N:Yp l M)(hl:l.length<=12){k:Nat}(hk:k<=l.length):GI (λc=>(M.C.rw c).eG) k<=786432:=by
 have b:=ajZ (λc=>(M.C.rw c).eG) (b:=65536) k λi hi=>N.tk i (by omega);omega
theorem J0 (fac last:Nat):∀k n,(lE fac last k n).length<=k->∃z∈lE fac last k n,last<=z
 |0,n,h=>by unfold lE at h;simp at h
 |k+1,n,h=>by
  unfold lE at h⊢;split
  ·next g=>exact⟨n,List.mem_cons_self,g⟩
  next g=>
  rw[if_neg g,abu]at h;obtain⟨z,hz,hl⟩:=J0 fac last k _ (Nat.le_of_succ_le_succ h);exact⟨z,List.mem_cons_of_mem _ hz,hl⟩
theorem q9.fits (t:q9)(p:Int){n:Nat}(h:(n:Int)<=(t.cfg p).lim):(bF (t.cfg p)).findIdx? (λz=>decide (n<=z))≠none:=λe=>by
 obtain⟨z,hz,hl⟩:=J0 (t.cfg p).fac.toNat (fQ (t.cfg p)) 62 (t.cfg p).bE.toNat (ahO (t.len p).2 (by decide));have:=List.findIdx?_eq_none_iff.1 e z hz;rw[decide_eq_false_iff_not]at this;unfold fQ at hl;omega
theorem bM.own{B:Bx}{M:Mo}(O:bM B M){p:Nat}(hp:M.has p):58+(M.it p).key.length+(M.it p).val.length<=M.C.sz (M.C.cl p)/\M.C.cl p<M.C.ae.length:=by
 have h2:=(O.al p).2 hp;exact⟨(O.lE h2).2,O.cllt h2⟩
def qd (l:F8)(n:Nat):Int:=match l.findIdx? (λz=>decide (n<=z))with|some i=>(i:Int)|none=>-1
theorem aaL{l:F8}{n i:Nat}(hi:i<l.length)(h:n<=l.getD i 0):qd l n<=i:=by
 unfold qd;cases e:l.findIdx? (λz=>decide (n<=z))with
 |none=>show(-1:Int)<=i;omega
 |some j=>
  show(j:Int)<=i;obtain⟨hj,_,ct⟩:=abl.1 e;refine aba λg=> ?_;have:=ct i (by omega);rw[List.getD_eq_getElem?_getD,List.getElem?_eq_getElem hi]at h;simp at this h;omega
theorem Ni{M:Mo}(K:Mi M){k:F9}{p:Nat}(h:M.live k=some p):M.has p/\(M.it p).key=k:=by
 unfold Mo.live at h;cases hf:M.find k with
 |none=>rw[hf]at h;cases h
 |some q=>
  rw[hf]at h;dsimp only at h;split at h
  ·cases h
   exact(iY K.p).1 hf
  cases h
end Go.Proofs.YtcbcjolpdljbiaaGreat
