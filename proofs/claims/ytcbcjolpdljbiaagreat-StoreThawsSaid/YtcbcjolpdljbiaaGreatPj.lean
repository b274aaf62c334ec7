/- Part Pj of the proof. -/
import Derived.Test.YtcbcjolpdljbiaaGreatPh
set_option maxRecDepth 100000
open Go.Proofs.YtcbcjolpdljbiaaGreat.T
open Nat renaming mul_le_mul_left -> akp, not_lt_zero -> agZ
open List renaming mem_of_getLast? -> age, getElem_idxOf -> akq
open Go.Proofs.Tryz renaming prog -> aaa
open Go.Proofs.Tryz
open Go.Value renaming int -> Dm
open Go.IntKind renaming i64 -> Dl, u64 -> Dj
namespace Go.Proofs.YtcbcjolpdljbiaaGreat
open Go Go.dC Go.Proofs.YtcbcjolpdljbiaaGreat.Cs
def dB (A:By)(p:Nat):Nat:=rd A (p+46) 1
def DN (A:By)(p:Nat):Bool:=decide (dB A p % 2=1)
def mkSet (m:Nat)(on:Bool):Nat:=m/2*2+(if on then 1 else 0)
def wv (A:By)(p:Nat)(on:Bool):By:=wr A (p+46) 1 (mkSet (dB A p) on)
theorem VW:∀m:Nat,m<16->gh .and .i64 (m:Int) 1=some ((m % 2:Nat):Int):=by decide+kernel
theorem VV:∀m:Nat,m<16->gh .andNot .i64 (m:Int) 1=some ((m/2*2:Nat):Int):=by decide+kernel
theorem ZK:∀m:Nat,m<16->gh .or .i64 ((m/2*2:Nat):Int) 1=some ((m/2*2+1:Nat):Int):=by decide+kernel
def I5 (b q hot warm:Nat):FJ:= [Dk b,Dk q,Dm Dl hot,Dm Dl warm]
def nM (a b q hot warm:Nat):aa:=ag a 184 (I5 b q hot warm)
theorem sy (a b q hot warm:Nat)(C:Cs)(K:Ok C)(p:Nat)(L:Live C p)(hk:kl C.A p≠0)(hm:dB C.A p<16):
  aG aaa 207 [Dk a,Dm Dj (C.hd p)] (λh=>In (Cl b C) h/\In (nM a b q hot warm) h) []
   (λv H=>v= .bool (DN C.A p)/\H= []):=by
 have ha:=VW _ hm;unfold nM I5 DN;unfold dB at*;refine af func207 rfl ntmps207 rfl ?_;rintro F ⟨hc,hl⟩;refine cA ?_;refine zl Aa (qQ b C K p L hk) .nil (λ_ le _=>In.mono hc le) ?_;refine bB ?_;refine zt 18 ?_ (e:=by rfl);refine bd ?_;refine aA (t:=20) (v':=(Dm Dl (rd C.A (p+46) 1 % 2:Nat))) rfl (by exact congrArg (λx=>Value.int .i64 (x.getD 0)) ha) ?_;refine bn ?_;refine Rt [] results207 ?_;refine⟨?_,rfl⟩;by_cases h:rd C.A (p+46) 1 % 2=1
 ·rw[h];rfl
 rw[show rd C.A (p+46) 1 % 2=0 by omega];rfl
theorem yH (a b q hot warm:Nat)(C:Cs)(K:Ok C)(p:Nat)(L:Live C p)(hk:kl C.A p≠0)(hm:dB C.A p<16)(on:Bool):
  aG aaa 209 [Dk a,Dm Dj (C.hd p), .bool on] (In (nM a b q hot warm)) [Cl b C]
   (λv H=>v= .tuple #[]/\H= [Cl b (C.wA (wv C.A p on))]):=by
 have ha:=VV _ hm;have hb:=ZK _ hm;unfold nM I5 wv mkSet;unfold dB at*;refine af func209 rfl ntmps209 rfl ?_;rintro F hl;refine bs ?_;refine zl Aa (qQ b C K p L hk) .nil (λ_ le ak=>ak.1) ?_;refine cK ?_;refine bq ?_;refine aA (t:=6) (v':=(Dm Dl (rd C.A (p+46) 1/2*2:Nat))) rfl (by exact congrArg (λx=>Value.int .i64 (x.getD 0)) ha) ?_;rcases on with _|_
 ·refine cN ?_ (e:=by rfl)
  refine cA ?_;refine zl Aa (k9 b C K p (rd C.A (p+46) 1/2*2) (by omega) L hk) (.cons .here .nil) Di ?_;refine aD ?_;refine jU [Cl b (C.wA (wr C.A (p+46) 1 (rd C.A (p+46) 1/2*2+0)))] results209 ?_;exact⟨rfl,rfl⟩
 refine fe ?_ (e:=by rfl);refine bn ?_;refine aA (t:=6) (v':=(Dm Dl (rd C.A (p+46) 1/2*2+1:Nat))) rfl (by exact congrArg (λx=>Value.int .i64 (x.getD 0)) hb) ?_;refine bK ?_;refine zl Aa (k9 b C K p (rd C.A (p+46) 1/2*2+1) (by omega) L hk) (.cons .here .nil) Di ?_;refine aD ?_;refine jU [Cl b (C.wA (wr C.A (p+46) 1 (rd C.A (p+46) 1/2*2+1)))] results209 ?_;exact⟨rfl,rfl⟩
def SM (p:Nat)(q o:Nat):Prop:=o=46/\q=p
def SL (p:Nat)(q o:Nat):Prop:=4<=o/\o<12\/(o=45\/o=46)/\q=p
theorem lV{m:Nat}(h:m<16)(on:Bool):mkSet m on<16:=by
 unfold mkSet;split<;>omega
theorem Xc{C:Cs}(K:Ok C)(A:By){p:Nat}(L:Live C p)(on:Bool):cZ C A (wv A p on) (SM p):=
 xE A L.toAt (by have:=(L.toAt.ba K).2.1;omega) λj h1 h2=>⟨by omega,rfl⟩
theorem Jg{C:Cs}(K:Ok C)(A:By){p x:Nat}(L:Live C p)(X:Live C x)(on:Bool):dB (wv A p on) x=if x=p then mkSet (dB A p) on % 256 else dB A x:=by
 unfold dB wv;split
 ·next e=>rw[e,dz];rfl
 next e=>exact lK (C:=C.wA A) (K.wA A) (X.wA A).toAt (L.wA A).toAt (a:=46) (n:=1) (o:=46) (w:=1) (by have:=(L.toAt.ba K).2.1;show _<=C.sz (C.cl p);omega) (by have:=(X.toAt.ba K).2.1;show _<=C.sz (C.cl x);omega) (λg=>absurd g e)
theorem SM.nX{p q o:Nat}(h:SM p q o):mh o:=by
 unfold SM at h;unfold mh;omega
theorem Y4 (a b q hot warm:Nat)(C:Cs)(K:Ok C)(p:Nat)(L:Live C p)(hk:kl C.A p≠0)(hm:dB C.A p<16)(hs:1<=gz C.A p/\gz C.A p<=3):
  aG aaa 174 [Dk a,Dm Dj (C.hd p)] (In (nM a b q hot warm)) [Cl b C]
   (λv H=>v=Dm Dl 0/\H= [Cl b (C.wA (wv C.A p true))]):=by
 have hm2:=hm;unfold gz at*;refine af func174 rfl ntmps174 rfl ?_;rintro F wP;have hl:=wP;unfold nM I5 at hl;refine cA ?_;refine zl Aa (qP b C K p L hk) .nil (λ_ le ak=>ak.1) ?_;refine bP ?_;refine zf 18 ?_ (e:=by rfl);refine bc ?_;refine zf 22 ?_;refine bc ?_;refine cN ?_;refine bn ?_;refine zl Aa (yH a b q hot warm C K p L hk hm true) (.cons .here .nil) (λ_ le ak=>In.mono wP le) ?_;refine bn ?_;refine Rt [Cl b (C.wA (wv C.A p true))] results174 ?_;exact⟨rfl,rfl⟩
theorem Kj (a q b qb hot warm:Nat)(C:Cs)(K:Ok C)(Q:F7)(O:iV C Q)(c:Nat)(hc:c<C.ae.length):
  aG aaa 277 [Dk a,Dm Dl c] (λh=>In (nM a b q hot warm) h/\gG (qY q b qb C Q) h) []
   (λv H=>v= .tuple #[Dm Dl ((ql Q (qi c 1)).length),Dm Dl ((ql Q (qi c 2)).length),Dm Dl ((ql Q (qi c 3)).length)]/\H= []):=by
 refine af func277 rfl ntmps277 rfl ?_;rintro F ⟨hl,hq⟩;unfold nM I5 at hl;refine bn ?_;refine av ?_;refine gT true mix ?_;refine bn ?_;refine Tp (oZ (Aa (n:=170)) (tw q b qb C K Q O c 1 hc (by omega)) .nil (λ_ le _=>bO hq le) ?_);refine bn ?_;refine Tp (oZ (Aa (n:=170)) (tw q b qb C K Q O c 2 hc (by omega)) .nil (λ_ le _=>bO hq le) ?_);refine bn ?_;refine Tp (oZ (Aa (n:=170)) (tw q b qb C K Q O c 3 hc (by omega)) .nil (λ_ le _=>bO hq le) ?_);refine bn ?_;refine Rt3 [] results277 ?_;exact⟨rfl,rfl⟩
def o7 (Q:F7)(c s share:Nat):Bool:=decide (((ql Q (qi c 1)).length+(ql Q (qi c 2)).length+(ql Q (qi c 3)).length)*share<100*(ql Q (qi c s)).length)
theorem FY (a q b qb hot warm:Nat)(C:Cs)(K:Ok C)(Q:F7)(O:iV C Q)(c:Nat)(hc:c<C.ae.length)(hh:hot<=100):
  aG aaa 257 [Dk a,Dm Dl c] (λh=>In (nM a b q hot warm) h/\gG (qY q b qb C Q) h) []
   (λv H=>v= .bool (o7 Q c 1 hot)/\H= []):=by
 have n1:=xF K O (qi c 1);have n2:=xF K O (qi c 2);have n3:=xF K O (qi c 3);unfold o7;refine af func257 rfl ntmps257 rfl ?_;rintro F ⟨wP,hq⟩;have hl:=wP;unfold nM I5 at hl;refine bs ?_;refine zl Aa (Kj a q b qb hot warm C K Q O c hc) .nil (λ_ le _=>⟨In.mono wP le,bO hq le⟩) ?_;generalize (ql Q (qi c 1)).length=x at*;generalize (ql Q (qi c 2)).length=y at*;generalize (ql Q (qi c 3)).length=z at*;have hmul:(x+y+z)*hot<=(x+y+z)*100:=akp _ hh;have e:((x:Int)+(y:Int)+(z:Int))*(hot:Int)=(((x+y+z)*hot:Nat):Int):=by push_cast;rfl
 generalize ((x+y+z)*hot)=m at*;refine cK ?_;refine aw ?_;refine aA (t:=26) (v':=(Dm Dl m)) rfl (by exact congrArg (Value.int .i64) e) ?_;refine bc ?_;refine Rt [] results257 ?_;refine⟨congrArg Value.bool (decide_eq_decide.2 ?_),rfl⟩;omega
theorem ak6 (a q b qb hot warm:Nat)(C:Cs)(K:Ok C)(Q:F7)(O:iV C Q)(c:Nat)(hc:c<C.ae.length)(hh:warm<=100):
  aG aaa 258 [Dk a,Dm Dl c] (λh=>In (nM a b q hot warm) h/\gG (qY q b qb C Q) h) []
   (λv H=>v= .bool (o7 Q c 2 warm)/\H= []):=by
 have n1:=xF K O (qi c 1);have n2:=xF K O (qi c 2);have n3:=xF K O (qi c 3);unfold o7;refine af func258 rfl ntmps258 rfl ?_;rintro F ⟨wP,hq⟩;have hl:=wP;unfold nM I5 at hl;refine bs ?_;refine zl Aa (Kj a q b qb hot warm C K Q O c hc) .nil (λ_ le _=>⟨In.mono wP le,bO hq le⟩) ?_;generalize (ql Q (qi c 1)).length=x at*;generalize (ql Q (qi c 2)).length=y at*;generalize (ql Q (qi c 3)).length=z at*;have hmul:(x+y+z)*warm<=(x+y+z)*100:=akp _ hh;have e:((x:Int)+(y:Int)+(z:Int))*(warm:Int)=(((x+y+z)*warm:Nat):Int):=by push_cast;rfl
 generalize ((x+y+z)*warm)=m at*;refine cK ?_;refine aw ?_;refine aA (t:=26) (v':=(Dm Dl m)) rfl (by exact congrArg (Value.int .i64) e) ?_;refine bc ?_;refine Rt [] results258 ?_;refine⟨congrArg Value.bool (decide_eq_decide.2 ?_),rfl⟩;omega
def MkQ (C:Cs)(Q:F7):Prop:=∀i,∀p∈ql Q i,dB C.A p<16
structure QO (C:Cs)(p:Nat)(A:By)(Q:F7):Prop where
 o:iV (C.wA A) Q
 d:cZ C C.A A (SL p)
 mr:dB A p=mkSet (dB C.A p) false
theorem CV{C:Cs}(K:Ok C){A B:By}{S:Nat->Nat->Prop}(d:cZ C A B S){x:Nat}(X:Live C x)(h:¬S x 46):dB B x=dB A x:=
 kX K d X.toAt (by have:=(X.toAt.ba K).2.1;omega) λj h1 h2 s=>h (by rwa[show j=46 by omega]at s)
theorem aay{C:Cs}(K:Ok C){Q:F7}(O:iV C Q){p:Nat}(L:Live C p)(on:Bool):iV (C.wA (wv C.A p on)) Q:=
 Lw K O (Xc K C.A L on) λi x hx j s=>⟨s.nX,by unfold SM at s;omega,by unfold SM at s;omega⟩
theorem A6 (a q b qb hot warm:Nat)(C:Cs)(K:Ok C)(Q:F7)(O:iV C Q)(p:Nat)(P:gw C (some p))(hm:dB C.A p<16)(hn:¬(1<=gz C.A p/\gz C.A p<=3)):
  aG aaa 189 [Dk a,Dm Dj (C.hd p)] (In (nM a b q hot warm)) (Cl b C::qY q b qb C Q)
   (λv H=>v=Dm Dl 0/\∃A,H=Cl b (C.wA A)::qY q b qb (C.wA A) (Q.set (qi (C.cl p) 1) (p::ql Q (qi (C.cl p) 1)))/\QO C p A (Q.set (qi (C.cl p) 1) (p::ql Q (qi (C.cl p) 1)))):=by
 have L:=(P p rfl).1;unfold qY;refine af func189 rfl ntmps189 rfl ?_;rintro F wP;have hl:=wP;unfold nM I5 at hl;refine cA ?_;refine Lp (oC Aa rfl rfl (EL q b qb C K Q O p 1 (by omega) P hn) (.cons .here (.cons .here (.cons .here .nil))) Di ?_);rintro v H' ⟨rfl,A,rfl,E⟩;refine bR ?_;have hmp:dB A p=dB C.A p:=CV K E.d L (by unfold SQ;omega);have P2:gw (C.wA A) (some p):=mY K E.d P (λ_ _ j s=>s.nX);refine bP ?_;refine zl Aa (yH a b q hot warm (C.wA A) (K.wA A) p (P2 p rfl).1 (P2.kl p rfl) (by rw[cH,hmp];exact hm) false) (.cons .here .nil) (λ_ le ak=>In.mono wP le) ?_;refine bs ?_;refine Rt [Cl b (C.wA (wv A p false)),ag q 182 (ij b qb C.ae.length),ag qb 333 ((Q.set (qi (C.cl p) 1) (p::ql Q (qi (C.cl p) 1))).flatMap (cX C))] results189 ?_;refine⟨rfl,wv A p false,rfl,aay (K.wA A) E.o (P2 p rfl).1 false,(E.d.mono λq o s=> ?_).trans ((Xc (K.wA A) A (P2 p rfl).1 false).wA.mono λq o s=> ?_), ?_⟩
 ·unfold SQ at s;unfold SL;omega
 ·unfold SM at s;unfold SL;omega
 rw[Jg K A L L,if_pos rfl,hmp];have:=lV hm false;omega
theorem MM (a q b qb hot warm:Nat)(C:Cs)(K:Ok C)(Q:F7)(O:iV C Q)(i k p:Nat)(hk:(ql Q i)[k]?=some p):
  aG aaa 193 [Dk a,Dm Dj (C.hd p)] (In (nM a b q hot warm)) (Cl b C::qY q b qb C Q)
   (λv H=>v=Dm Dl 0/\∃A,H=Cl b (C.wA A)::qY q b qb (C.wA A) (Q.set i ((ql Q i).eraseIdx k))/\S5 C p A (Q.set i ((ql Q i).eraseIdx k))):=by
 unfold qY;refine af func193 rfl ntmps193 rfl ?_;rintro F hl;unfold nM I5 at hl;refine cA ?_;refine Lp (oC Aa rfl rfl (yA q b qb C K Q O i k p hk) (.cons .here (.cons .here (.cons .here .nil))) Di ?_);rintro v H' ⟨rfl,A,rfl,E⟩;refine bR ?_;refine bq ?_;refine Rt [Cl b (C.wA A),ag q 182 (ij b qb C.ae.length),ag qb 333 ((Q.set i ((ql Q i).eraseIdx k)).flatMap (cX C))] results193 ?_;exact⟨rfl,A,rfl,E⟩
def xX (C:Cs)(Q:F7)(c:Nat):Bool:=match(ql Q (qi c 3)).getLast? with
 |none=>false
 |some p=>DN C.A p
theorem UR (a q b qb hot warm:Nat)(C:Cs)(K:Ok C)(Q:F7)(O:iV C Q)(M:MkQ C Q)(c:Nat)(hc:c<C.ae.length):
  aG aaa 259 [Dk a,Dm Dl c] (λh=>In (Cl b C) h/\In (nM a b q hot warm) h/\gG (qY q b qb C Q) h) []
   (λv H=>v= .bool (xX C Q c)/\H= []):=by
 have hp:=λx (h:(ql Q (qi c 3)).getLast?=some x)=>age h;unfold xX;refine af func259 rfl ntmps259 rfl ?_;rintro F ⟨cQ,wP,hq⟩;have hl:=wP;unfold nM I5 at hl;refine cA ?_;refine zl Aa (tO q b qb C K Q O c 3 hc (by omega)) .nil (λ_ le _=>bO hq le) ?_;rcases hg:(ql Q (qi c 3)).getLast? with _|p
 ·refine Li Mv ?_
  refine cV ?_;refine zf 17 ?_ (e:=by rfl);refine bK ?_;refine Rt [] results259 ?_;exact⟨rfl,rfl⟩
 have Af:=hp p hg;refine cA ?_;refine zt 17 ?_ (e:=by rfl);refine bd ?_;refine zl Aa (sy a b q hot warm C K p (O.lv _ p Af) (O.it _ p Af).k0 (M _ p Af)) .nil (λ_ le _=>⟨In.mono cQ le,In.mono wP le⟩) ?_;refine bc ?_;refine Rt [] results259 ?_;exact⟨rfl,rfl⟩
def ruC:FJ:= [Dm Dl 1, .func (.func 257) #[] #[],Dm Dl 2, .func (.func 258) #[] #[],Dm Dl 3, .func (.func 259) #[] #[]]
theorem TW:aG aaa 206 [] uT [] (λv H=>v=Value.agg ruC.toArray/\H= []):=by
 refine af func206 rfl ntmps206 rfl ?_;intro F _;refine aw ?_;refine Lp (oA QP λb1=> ?_);refine bn ?_;refine Li (Bda QP afR) ?_;refine bq ?_;refine Hh (H':= [ag b1 276 ruC]) ?_;refine Jc [] SZ results206 ?_;exact⟨rfl,rfl⟩
structure Cw where
 dn:Int
 bg:Bool
 cl:Nat
 kd:Nat
 nx:FK
 lf:Nat
def ahd (l:FH)(p:Nat):FK:=pv l (l.idxOf p)
namespace Cw
def kL (Q:F7)(x:Cw)(c k:Nat):Cw:={x with bg:=true,cl:=c,kd:=k,nx:=(ql Q (qi c k)).getLast?,lf:=(ql Q (qi c k)).length}
def pass (Q:F7)(x:Cw):Cw:=match x.nx with
 |none=>x
 |some p=>{x with nx:=if 1<x.lf then ahd (ql Q (qi x.cl x.kd)) p else none,lf:=x.lf-1}
def left (Q:F7)(x:Cw)(p:Nat):Cw:=if x.nx=some p then x.pass Q else x
def cO (x:Cw)(p r:Nat):Cw:=if x.nx=some p then{x with nx:=some r}else x
def again (x:Cw):Cw:={x with bg:=false,cl:=0,kd:=0,nx:=none,lf:=0}
end Cw
structure db (n:Nat)(Q:F7)(x:Cw):Prop where
 go:x.bg=true->x.cl<n/\1<=x.kd/\x.kd<=3
 no:x.bg=false->x.nx=none/\x.cl=0/\x.kd=0/\x.lf=0
 nx:∀p,x.nx=some p->p∈ql Q (qi x.cl x.kd)/\1<=x.lf
 lf:x.lf<=1073741824
theorem db.bg{n:Nat}{Q:F7}{x:Cw}(h:db n Q x){p:Nat}(e:x.nx=some p):x.bg=true:=by
 rcases hb:x.bg with _|_
 ·rw[(h.no hb).1]at e;cases e
 rfl
theorem db.kL{C:Cs}(K:Ok C){n:Nat}{Q:F7}(O:iV C Q){x:Cw}{c k:Nat}(hc:c<n)(hk:1<=k/\k<=3):db n Q (x.kL Q c k):=
 ⟨λ_=>⟨hc,hk⟩,(λh=>by cases h),(λ_ hp=>⟨age hp,List.length_pos_of_mem (age hp)⟩),xF K O _⟩
theorem ZP{l:FH}{p q:Nat}(h:ahd l p=some q):q∈l:=pZ h
theorem db.pass{n:Nat}{Q:F7}{x:Cw}(h:db n Q x):db n Q (x.pass Q):=by
 unfold Cw.pass;split
 ·exact h
 next p hp=>
 have hb:=h.bg hp;obtain⟨h1,h2⟩:=h.nx p hp;refine⟨h.go,λhh=>(by rw[hb]at hh;cases hh),λr hr=> ?_,by have:=h.lf;show x.lf-1<=_;omega⟩;change(if 1<x.lf then _ else none)=some r at hr;split at hr
 ·next g=>exact⟨ZP hr,by show 1<=x.lf-1;omega⟩
 cases hr
theorem db.left{n:Nat}{Q:F7}{x:Cw}(h:db n Q x)(p:Nat):db n Q (x.left Q p):=by
 unfold Cw.left;split
 ·exact h.pass
 exact h
def pE (q w n:Nat)(dv tv:Value)(C:Cs)(x:Cw):FJ:= [Dk q,Dk w,Dm Dl n,dv,tv,Dm Dl x.dn, .bool x.bg,Dm Dl x.cl,Dm Dl x.kd,Dm Dj (hO C x.nx),Dm Dl x.lf]
def ik (a q w n:Nat)(dv tv:Value)(C:Cs)(x:Cw):aa:=ag a 137 (pE q w n dv tv C x)
theorem C7{l:FH}{p:Nat}(h:p∈l):l.idxOf p<l.length/\l[l.idxOf p]?=some p:=by
 have h1:=List.idxOf_lt_length_of_mem h;exact⟨h1,by rw[List.getElem?_eq_getElem h1,akq]⟩
theorem Bm (a q w n:Nat)(dv tv:Value)(C:Cs)(x:Cw):
  aG aaa 86 [Dk a] uT [ik a q w n dv tv C x]
   (λv H=>v= .tuple #[]/\H= [ik a q w n dv tv C x.again]):=by
 unfold ik pE;refine af func86 rfl ntmps86 rfl ?_;intro F _;refine cK ?_;refine aw ?_;refine aD ?_;refine jU [ag a 137 (pE q w n dv tv C x.again)] results86 ?_;exact⟨rfl,rfl⟩
theorem VT (a q w n b qb:Nat)(dv tv:Value)(C:Cs)(K:Ok C)(Q:F7)(O:iV C Q)(x:Cw)(c k:Nat)(hc:c<C.ae.length)(hk:1<=k/\k<=3):
  aG aaa 118 [Dk a,Dm Dl c,Dm Dl k] (gG (qY q b qb C Q)) [ik a q w n dv tv C x]
   (λv H=>v= .tuple #[]/\H= [ik a q w n dv tv C (x.kL Q c k)]):=by
 unfold ik pE;refine af func118 rfl ntmps118 rfl ?_;rintro F hq;refine cK ?_;refine bc ?_;refine zl Aa (tO q b qb C K Q O c k hc hk) .nil (λ_ le _=>bO hq le) ?_;refine lx ?_;refine zl Aa (tw q b qb C K Q O c k hc hk) .nil (λ_ le _=>bO hq le) ?_;refine bq ?_;refine aD ?_;refine jU [ag a 137 (pE q w n dv tv C (x.kL Q c k))] results118 ?_;exact⟨rfl,rfl⟩
theorem FA (a q w n b qb:Nat)(dv tv:Value)(C:Cs)(K:Ok C)(Q:F7)(O:iV C Q)(x:Cw)(X:db n Q x)(p:Nat)(hp:x.nx=some p):
  aG aaa 78 [Dk a] (λh=>In (Cl b C) h/\gG (qY q b qb C Q) h) [ik a q w n dv tv C x]
   (λv H=>v=Dm Dj (C.hd p)/\H= [ik a q w n dv tv C (x.pass Q)]):=by
 obtain⟨h1,h2⟩:=X.nx p hp;have h3:=X.lf;obtain⟨i1,i2⟩:=C7 h1;have ace:(ql Q (qi x.cl x.kd))[(ql Q (qi x.cl x.kd)).idxOf p]'i1=p:=akq i1;have ah:=AS q b qb C K Q O (qi x.cl x.kd) ((ql Q (qi x.cl x.kd)).idxOf p) i1;rw[ace]at ah;have e1:((x.lf:Int)-1)=((x.lf-1:Nat):Int):=by omega
 have ex:x.pass Q={x with nx:=if 1<x.lf then ahd (ql Q (qi x.cl x.kd)) p else none,lf:=x.lf-1}:=by unfold Cw.pass;rw[hp]
 rw[ex];unfold ahd;by_cases hl:1<x.lf
 ·rw[if_pos hl]
  unfold ik pE;rw[hp];dsimp only;rw[<-e1];refine af func78 rfl ntmps78 rfl ?_;rintro F ⟨cQ,hq⟩;refine cK ?_;refine fX ?_;refine fe ?_;refine bK ?_;refine zl Aa (ah) .nil (λ_ le _=>⟨In.mono cQ le,In.mono hq.1 le⟩) ?_;refine dL ?_;refine Rt [ag a 137 [Dk q,Dk w,Dm Dl n,dv,tv,Dm Dl x.dn, .bool x.bg,Dm Dl x.cl,Dm Dl x.kd,Dm Dj (hO C (pv (ql Q (qi x.cl x.kd)) ((ql Q (qi x.cl x.kd)).idxOf p))),Dm Dl ((x.lf:Int)-1)]] results78 ?_;exact⟨rfl,rfl⟩
 rw[if_neg hl];unfold ik pE;rw[hp];dsimp only;rw[<-e1];refine af func78 rfl ntmps78 rfl ?_;rintro F ⟨cQ,hq⟩;refine cK ?_;refine fX ?_;refine cN ?_;refine bK ?_;refine Rt [ag a 137 [Dk q,Dk w,Dm Dl n,dv,tv,Dm Dl x.dn, .bool x.bg,Dm Dl x.cl,Dm Dl x.kd,Dm Dj 0,Dm Dl ((x.lf:Int)-1)]] results78 ?_;exact⟨rfl,rfl⟩
theorem FB (a q w n b qb:Nat)(dv tv:Value)(C:Cs)(K:Ok C)(Q:F7)(O:iV C Q)(x:Cw)(X:db n Q x)(p:Nat)(L:Live C p):
  aG aaa 92 [Dk a,Dm Dj (C.hd p)] (λh=>In (Cl b C) h/\gG (qY q b qb C Q) h) [ik a q w n dv tv C x]
   (λv H=>v= .tuple #[]/\H= [ik a q w n dv tv C (x.left Q p)]):=by
 obtain⟨m1,m2,m3,m4,m5,m6⟩:=bM K L.toAt;rcases hb:x.bg with _|_
 ·have hx:x.left Q p=x:=by unfold Cw.left;rw[(X.no hb).1,if_neg (by simp)]
  rw[hx];unfold ik pE;rw[hb];refine af func92 rfl ntmps92 rfl ?_;rintro F ⟨cQ,hq⟩;refine bs ?_;refine zf 8 ?_ (e:=by rfl);refine fX ?_;refine jU [ag a 137 [Dk q,Dk w,Dm Dl n,dv,tv,Dm Dl x.dn, .bool false,Dm Dl x.cl,Dm Dl x.kd,Dm Dj (hO C x.nx),Dm Dl x.lf]] results92 ?_;exact⟨rfl,rfl⟩
 by_cases hp:x.nx=some p
 ·have hx:x.left Q p=x.pass Q:=by unfold Cw.left;rw[if_pos hp]
  rw[hx];have ps:=FA a q w n b qb dv tv C K Q O x X p hp;unfold ik pE at ps⊢;rw[hp,hb]at ps;rw[hp,hb];generalize hy:x.pass Q=y at*;refine af func92 rfl ntmps92 rfl ?_;rintro F ⟨cQ,hq⟩;refine bs ?_;refine zt 8 ?_ (e:=by rfl);refine bc ?_;refine zt 12 ?_ (e:=by exact congrArg (!·) (Ab));refine cV ?_;refine fe ?_ (e:=by exact decide_eq_true rfl);refine bd ?_;refine zl Aa (ps) (.cons .here .nil) (λ_ le _=>⟨In.mono cQ le,bO hq le⟩) ?_;refine aD ?_;refine jU [ag a 137 [Dk q,Dk w,Dm Dl n,dv,tv,Dm Dl y.dn, .bool y.bg,Dm Dl y.cl,Dm Dl y.kd,Dm Dj (hO C y.nx),Dm Dl y.lf]] results92 ?_;exact⟨rfl,rfl⟩
 have hx:x.left Q p=x:=by unfold Cw.left;rw[if_neg hp]
 rw[hx];have fQ:¬((C.hd p:Int)=(hO C x.nx:Int)):=λe=>by
  rcases K9:x.nx with _|r
  ·rw[K9]at e
   change(C.hd p:Int)=((0:Nat):Int)at e;omega
  have hr:=(X.nx r K9).1;rw[K9,bZ]at e;exact hp (by rw[K9,je K (O.lv _ r hr).toAt L.toAt (by omega)])
 unfold ik pE;rw[hb];refine af func92 rfl ntmps92 rfl ?_;rintro F ⟨cQ,hq⟩;refine bs ?_;refine zt 8 ?_ (e:=by rfl);refine bc ?_;refine zt 12 ?_ (e:=by exact congrArg (!·) (Ab));refine cV ?_;refine cN ?_ (e:=by exact decide_eq_false fQ);refine aw ?_;refine jU [ag a 137 [Dk q,Dk w,Dm Dl n,dv,tv,Dm Dl x.dn, .bool true,Dm Dl x.cl,Dm Dl x.kd,Dm Dj (hO C x.nx),Dm Dl x.lf]] results92 ?_;exact⟨rfl,rfl⟩
open Go Go.dC Go.Proofs.YtcbcjolpdljbiaaGreat.Cs
theorem OJ (a q w n:Nat)(dv tv:Value)(C:Cs)(K:Ok C)(Q:F7)(O:iV C Q)(x:Cw)(X:db n Q x)(p r:Nat)(L:Live C p):
  aG aaa 162 [Dk a,Dm Dj (C.hd p),Dm Dj (C.hd r)] uT [ik a q w n dv tv C x]
   (λv H=>v= .tuple #[]/\H= [ik a q w n dv tv C (x.cO p r)]):=by
 obtain⟨m1,m2,m3,m4,m5,m6⟩:=bM K L.toAt;rcases hb:x.bg with _|_
 ·have hx:x.cO p r=x:=by unfold Cw.cO;rw[(X.no hb).1,if_neg (by simp)]
  rw[hx];unfold ik pE;rw[hb];refine af func162 rfl ntmps162 rfl ?_;intro F _;refine bs ?_;refine zf 10 ?_ (e:=by rfl);refine fX ?_;refine jU [ag a 137 [Dk q,Dk w,Dm Dl n,dv,tv,Dm Dl x.dn, .bool false,Dm Dl x.cl,Dm Dl x.kd,Dm Dj (hO C x.nx),Dm Dl x.lf]] results162 ?_;exact⟨rfl,rfl⟩
 by_cases hp:x.nx=some p
 ·have hx:x.cO p r={x with nx:=some r}:=by unfold Cw.cO;rw[if_pos hp]
  rw[hx];unfold ik pE;rw[hp];dsimp only;rw[hb];refine af func162 rfl ntmps162 rfl ?_;intro F _;refine bs ?_;refine zt 10 ?_ (e:=by rfl);refine bc ?_;refine zt 14 ?_ (e:=by exact congrArg (!·) (Ab));refine cV ?_;refine fe ?_ (e:=by exact decide_eq_true rfl);refine bs ?_;refine aD ?_;refine jU [ag a 137 [Dk q,Dk w,Dm Dl n,dv,tv,Dm Dl x.dn, .bool true,Dm Dl x.cl,Dm Dl x.kd,Dm Dj (C.hd r),Dm Dl x.lf]] results162 ?_;exact⟨rfl,rfl⟩
 have hx:x.cO p r=x:=by unfold Cw.cO;rw[if_neg hp]
 rw[hx];have fQ:¬((C.hd p:Int)=(hO C x.nx:Int)):=λe=>by
  rcases K9:x.nx with _|u
  ·rw[K9]at e
   change(C.hd p:Int)=((0:Nat):Int)at e;omega
  have hr:=(X.nx u K9).1;rw[K9,bZ]at e;exact hp (by rw[K9,je K (O.lv _ u hr).toAt L.toAt (by omega)])
 unfold ik pE;rw[hb];refine af func162 rfl ntmps162 rfl ?_;intro F _;refine bs ?_;refine zt 10 ?_ (e:=by rfl);refine bc ?_;refine zt 14 ?_ (e:=by exact congrArg (!·) (Ab));refine cV ?_;refine cN ?_ (e:=by exact decide_eq_false fQ);refine aw ?_;refine jU [ag a 137 [Dk q,Dk w,Dm Dl n,dv,tv,Dm Dl x.dn, .bool true,Dm Dl x.cl,Dm Dl x.kd,Dm Dj (hO C x.nx),Dm Dl x.lf]] results162 ?_;exact⟨rfl,rfl⟩
namespace Cw
def Px (n:Nat)(Q:F7):Nat->Cw->Bool×Cw
 |0,x=>(false,x)
 |f+1,x=>
  if x.nx≠none then(true,x)
  else if 1<x.kd then Px n Q f (x.kL Q x.cl (x.kd-1))
  else if x.cl+1<n then Px n Q f (x.kL Q (x.cl+1) 3)
  else(false,{x.again with dn:=IntKind.i64.wrap (x.dn+1)})
def ms (n:Nat)(x:Cw):Nat:=(n-x.cl)*3+x.kd
def start (Q:F7)(x:Cw):Cw:=if x.bg then x else x.kL Q 0 3
def find (n:Nat)(Q:F7)(x:Cw):Bool×Cw:=Px n Q (3*n+4) (x.start Q)
theorem yb{n:Nat}{Q:F7}:∀{f g:Nat} {x:Cw},1<=x.kd->x.ms n<f->x.ms n<g->Px n Q f x=Px n Q g x
 |0,_,_,_,h,_=>absurd h (agZ _)
 |_,0,_,_,_,h=>absurd h (agZ _)
 |f+1,g+1,x,hk,h1,h2=>by
  unfold Px;by_cases e1:x.nx≠none
  ·rw[if_pos e1,if_pos e1]
  rw[if_neg e1,if_neg e1];unfold ms at h1 h2;by_cases e2:1<x.kd
  ·rw[if_pos e2,if_pos e2]
   exact yb (by show 1<=x.kd-1;omega) (by unfold ms kL;dsimp only;omega) (by unfold ms kL;dsimp only;omega)
  rw[if_neg e2,if_neg e2];by_cases e3:x.cl+1<n
  ·rw[if_pos e3,if_pos e3]
   exact yb (by show 1<=3;omega) (by unfold ms kL;dsimp only;omega) (by unfold ms kL;dsimp only;omega)
  rw[if_neg e3,if_neg e3]
end Cw
theorem VS (a q w b qb:Nat)(dv tv:Value)(C:Cs)(K:Ok C)(Q:F7)(O:iV C Q)(x:Cw)(X:db C.ae.length Q x):
  aG aaa 77 [Dk a] (gG (qY q b qb C Q)) [ik a q w C.ae.length dv tv C x]
   (λv H=>∃r y,v= .bool r/\H= [ik a q w C.ae.length dv tv C y]/\x.find C.ae.length Q=(r,y)/\db C.ae.length Q y/\(r=true->y.nx≠none)):=by
 have n0:=K.toFix.l0;have n1:=K.toFix.l1;have zD:db C.ae.length Q (x.start Q)/\(x.start Q).bg=true:=by
  unfold Cw.start;split
  ·next h=>exact⟨X,h⟩
  exact⟨db.kL K O (by omega) (by omega),rfl⟩
 have hR:x.find C.ae.length Q=Cw.Px C.ae.length Q (3*C.ae.length+4) (x.start Q):=rfl;generalize hr:x.find C.ae.length Q=R at*;have hfu:∀f,(x.start Q).ms C.ae.length<f->Cw.Px C.ae.length Q f (x.start Q)=R:=λf hf=>by
  rw[hR];have h2:=zD.1.go zD.2;exact Cw.yb h2.2.1 hf (by unfold Cw.ms;omega)
 have hlen:∀z:Cw,z.cl<C.ae.length->1<=z.kd->z.kd<=3->z.nx=none->z.ms C.ae.length<=3*C.ae.length+3:=λz h1 h2 h3 _=>by unfold Cw.ms;omega
 have kL:=λ(z:Cw) (c k:Nat) (hc:c<C.ae.length) (hk:1<=k/\k<=3)=>VT a q w C.ae.length b qb dv tv C K Q O z c k hc hk;have SE:=λ(z:Cw) (c k:Nat) (hc:c<C.ae.length) (hk:1<=k/\k<=3)=>db.kL K O (x:=z) hc hk;generalize hn:C.ae.length=n at*;unfold ik pE at*;refine af func77 rfl ntmps77 rfl ?_;intro F hq;refine bP ?_;refine eK (ι:=Cw) [8,9] (λz=>z=x.start Q) (λz=> []) (λz=> [ag a 137 [Dk q,Dk w,Dm Dl n,dv,tv,Dm Dl z.dn, .bool z.bg,Dm Dl z.cl,Dm Dl z.kd,Dm Dj (hO C z.nx),Dm Dl z.lf]]) ?_ ?_
 ·refine az rfl ?_ ?_
  ·intro hb
   replace hb:=aO hb;refine bd ?_;refine zl Aa (kL x 0 3 (by omega) (by omega)) (.cons .here .nil) (λ_ le _=>bO hq le) ?_;refine aD ?_;refine Me ((x.kL Q 0 3)) ((by unfold Cw.start;rw[if_neg (by simp[hb])]))
  intro hb;replace hb:=aO hb;refine aw ?_;refine Me (x) ((by unfold Cw.start;rw[if_pos hb]))
 rintro z hz;subst hz;generalize x.start Q=s0 at*;refine bd ?_;refine Lo (ι:=Cw) (FN [2,1,10,49]) (λz=>(db n Q z/\z.bg=true)/\∀f,z.ms n<f->Cw.Px n Q f z=R) (λz=> []) (λz=> [ag a 137 [Dk q,Dk w,Dm Dl n,dv,tv,Dm Dl z.dn, .bool z.bg,Dm Dl z.cl,Dm Dl z.kd,Dm Dj (hO C z.nx),Dm Dl z.lf]]) (λz=>z.ms n) (s0) ⟨zD,hfu⟩ ?_;rintro z hI
 try dsimp only at hI⊢
 obtain⟨⟨Z,zb⟩,hf⟩:=hI;obtain⟨g1,g2,g3⟩:=Z.go zb;have Wq:=hf (z.ms n+1) (Nat.lt_succ_self _);unfold Cw.Px at Wq;rcases hz:z.nx with _|p
 ·rw[hz,if_neg (by simp)]at Wq
  refine cA ?_;by_cases h1:1<z.kd
  ·refine B5 ?_
   refine bP ?_;refine fe ?_;refine iU 10 mix (.cons .here .nil) λF1 jD bV aI=> ?_;obtain⟨q1,_⟩:=bV;refine bB ?_;refine gI aI ?_;have ek:((z.kd:Int)-1)=((z.kd-1:Nat):Int):=by omega
   rw[ek];refine Tp (oZ (Aa (n:=118)) ((by have h:=kL z z.cl (z.kd-1) g1 (by omega);rw[hz]at h;exact h)) (.cons .here .nil) (λ_ le _=>bO hq le) ?_);refine bq ?_;refine Ro ((z.kL Q z.cl (z.kd-1))) (⟨⟨SE z z.cl (z.kd-1) g1 (by omega),rfl⟩,λf PR=>(by rw[if_pos h1]at Wq;exact(Cw.yb (by show 1<=z.kd-1;omega) PR (by unfold Cw.ms Cw.kL;dsimp only;omega)).trans Wq)⟩) ((by unfold Cw.ms Cw.kL;dsimp only;omega))
  refine B5 ?_;refine bP ?_;refine cN ?_;by_cases h2:z.cl+1<n
  ·refine av ?_
   refine iU 10 mix (.cons .here .nil) λF2 zH eL dw=> ?_;obtain⟨q1,_⟩:=eL;refine bB ?_;refine gI dw ?_;refine bd ?_;refine fe ?_;refine bK ?_;refine zl (Aa (n:=118)) ((by have h:=kL z (z.cl+1) 3 h2 (by omega);rw[hz]at h;exact h)) (.cons .here .nil) (λ_ le _=>bO hq le) ?_;refine bq ?_;refine Ro ((z.kL Q (z.cl+1) 3)) (⟨⟨SE z (z.cl+1) 3 h2 (by omega),rfl⟩,λf PR=>(by rw[if_neg h1,if_pos h2]at Wq;exact(Cw.yb (by show 1<=3;omega) PR (by unfold Cw.ms Cw.kL;dsimp only;omega)).trans Wq)⟩) ((by unfold Cw.ms Cw.kL;dsimp only;omega))
  refine av ?_;refine iU 10 mix (.cons .here .nil) λF3 WC sP fJ=> ?_;obtain⟨q1,_⟩:=sP;refine bB ?_;refine gI fJ ?_;refine bd ?_;refine cN ?_;refine bd ?_;refine zl (Aa (n:=86)) ((by have h:=Bm a q w n dv tv C z;unfold ik pE at h;rw[hz]at h;exact h)) (.cons .here .nil) Di ?_;unfold Cw.again;refine cK ?_;rw[if_neg h1,if_neg h2]at Wq;refine Rt [ag a 137 [Dk q,Dk w,Dm Dl n,dv,tv,Dm Dl (IntKind.i64.wrap (z.dn+1)), .bool false,Dm Dl 0,Dm Dl 0,Dm Dj 0,Dm Dl 0]] results77 ?_;refine⟨false,{z.again with dn:=IntKind.i64.wrap (z.dn+1)},rfl,rfl,Wq.symm,⟨(λh=>by cases h),λ_=>⟨rfl,rfl,rfl,rfl⟩,(λ_ h=>by cases h),Nat.zero_le _⟩,(λh=>by cases h)⟩
 rw[hz,if_pos (by simp)]at Wq;have hp:=(Z.nx p hz).1;obtain⟨m1,m2,m3,m4,m5,m6⟩:=bM K (O.lv _ p hp).toAt;rw[bZ];refine cV ?_;refine cN ?_;refine cA ?_;refine Rt [ag a 137 [Dk q,Dk w,Dm Dl n,dv,tv,Dm Dl z.dn, .bool z.bg,Dm Dl z.cl,Dm Dl z.kd,Dm Dj (C.hd p),Dm Dl z.lf]] results77 ?_;exact⟨true,z,rfl,by rw[hz,bZ],Wq.symm,Z,λ_=>by rw[hz];simp⟩
end Go.Proofs.YtcbcjolpdljbiaaGreat
