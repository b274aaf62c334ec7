/- Part Pj of the proof. -/
import Derived.Test.YtcbcjolpdljbiaaGreatPd
import Derived.Test.YtcbcjolpdljbiaaGreatPh
set_option maxRecDepth 100000
open Go.Proofs.YtcbcjolpdljbiaaGreat.T
open Nat renaming mul_le_mul_left -> aka, not_lt_zero -> aiY
open List renaming mem_of_getLast? -> afU, getElem_idxOf -> akb
open Go.Proofs.Tryz renaming prog -> aaO
open Go.Proofs.Tryz
open Go.Value renaming int -> CO
open Go.IntKind renaming i64 -> CN, u64 -> CJ
namespace Go.Proofs.YtcbcjolpdljbiaaGreat
open Go Go.dG Go.Proofs.YtcbcjolpdljbiaaGreat.Cs
def dz (A:By)(p:Nat):Nat:=rd A (p+46) 1
def C7 (A:By)(p:Nat):Bool:=decide (dz A p % 2=1)
def mkSet (m:Nat)(on:Bool):Nat:=m/2*2+(if on then 1 else 0)
def vX (A:By)(p:Nat)(on:Bool):By:=wr A (p+46) 1 (mkSet (dz A p) on)
theorem Vn:∀m:Nat,m<16->gG .and .i64 (m:Int) 1=some ((m % 2:Nat):Int):=by decide+kernel
theorem Vm:∀m:Nat,m<16->gG .andNot .i64 (m:Int) 1=some ((m/2*2:Nat):Int):=by decide+kernel
theorem YZ:∀m:Nat,m<16->gG .or .i64 ((m/2*2:Nat):Int) 1=some ((m/2*2+1:Nat):Int):=by decide+kernel
def Iy (b q hot warm:Nat):List Value:= [CM b,CM q,CO CN hot,CO CN warm]
def jb (a b q hot warm:Nat):aa:=af a 184 (Iy b q hot warm)
theorem sK (a b q hot warm:Nat)(C:Cs)(K:Ok C)(p:Nat)(L:Live C p)(hk:kl C.A p≠0)(hm:dz C.A p<16):
  aO aaO 207 [CM a,CO CJ (C.hd p)] (λh=>In (Cl b C) h/\In (jb a b q hot warm) h) []
   (λv H=>v= .bool (C7 C.A p)/\H= []):=by
 have ha:=Vn _ hm;unfold jb Iy C7;unfold dz at*;refine ag func207 rfl ntmps207 rfl ?_;rintro F ⟨hc,hl⟩;refine cA ?_;refine zl CF (qQ b C K p L hk) .nil (λ_ le _=>In.mono hc le) ?_;refine bM ?_;refine zt 18 ?_ (e:=by rfl);refine bA ?_;refine ay (t:=20) (v':=(CO CN (rd C.A (p+46) 1 % 2:Nat))) rfl (by exact congrArg (λx=>Value.int .i64 (x.getD 0)) ha) ?_;refine bE ?_;refine Rt [] results207 ?_;refine⟨?_,rfl⟩;by_cases h:rd C.A (p+46) 1 % 2=1
 ·rw[h];rfl
 rw[show rd C.A (p+46) 1 % 2=0 by omega];rfl
theorem x4 (a b q hot warm:Nat)(C:Cs)(K:Ok C)(p:Nat)(L:Live C p)(hk:kl C.A p≠0)(hm:dz C.A p<16)(on:Bool):
  aO aaO 209 [CM a,CO CJ (C.hd p), .bool on] (In (jb a b q hot warm)) [Cl b C]
   (λv H=>v= .tuple #[]/\H= [Cl b (C.wA (vX C.A p on))]):=by
 have ha:=Vm _ hm;have hb:=YZ _ hm;unfold jb Iy vX mkSet;unfold dz at*;refine ag func209 rfl ntmps209 rfl ?_;rintro F hl;refine bG ?_;refine zl CF (qQ b C K p L hk) .nil (λ_ le ao=>ao.1) ?_;refine cC ?_;refine bz ?_;refine ay (t:=6) (v':=(CO CN (rd C.A (p+46) 1/2*2:Nat))) rfl (by exact congrArg (λx=>Value.int .i64 (x.getD 0)) ha) ?_;rcases on with _|_
 ·refine cO ?_ (e:=by rfl)
  refine cA ?_;refine zl CF (lG b C K p (rd C.A (p+46) 1/2*2) (by omega) L hk) (.cons .here .nil) CI ?_;refine aF ?_;refine jW [Cl b (C.wA (wr C.A (p+46) 1 (rd C.A (p+46) 1/2*2+0)))] results209 ?_;exact⟨rfl,rfl⟩
 refine eU ?_ (e:=by rfl);refine bE ?_;refine ay (t:=6) (v':=(CO CN (rd C.A (p+46) 1/2*2+1:Nat))) rfl (by exact congrArg (λx=>Value.int .i64 (x.getD 0)) hb) ?_;refine bR ?_;refine zl CF (lG b C K p (rd C.A (p+46) 1/2*2+1) (by omega) L hk) (.cons .here .nil) CI ?_;refine aF ?_;refine jW [Cl b (C.wA (wr C.A (p+46) 1 (rd C.A (p+46) 1/2*2+1)))] results209 ?_;exact⟨rfl,rfl⟩
def SM (p:Nat)(q o:Nat):Prop:=o=46/\q=p
def SL (p:Nat)(q o:Nat):Prop:=4<=o/\o<12\/(o=45\/o=46)/\q=p
theorem mj{m:Nat}(h:m<16)(on:Bool):mkSet m on<16:=by
 unfold mkSet
 split<;>omega
theorem Wo{C:Cs}(K:Ok C)(A:By){p:Nat}(L:Live C p)(on:Bool):cX C A (vX A p on) (SM p):=
 w8 A L.toAt (by have:=(L.toAt.bn K).2.1;omega) λj h1 h2=>⟨by omega,rfl⟩
theorem IJ{C:Cs}(K:Ok C)(A:By){p x:Nat}(L:Live C p)(X:Live C x)(on:Bool):dz (vX A p on) x=if x=p then mkSet (dz A p) on % 256 else dz A x:=by
 unfold dz vX
 split
 ·next e=>rw[e,dy];rfl
 next e=>exact lY (C:=C.wA A) (K.wA A) (X.wA A).toAt (L.wA A).toAt (a:=46) (n:=1) (o:=46) (w:=1) (by have:=(L.toAt.bn K).2.1;show _<=C.sz (C.cl p);omega) (by have:=(X.toAt.bn K).2.1;show _<=C.sz (C.cl x);omega) (λg=>absurd g e)
theorem SM.oq{p q o:Nat}(h:SM p q o):mI o:=by
 unfold SM at h;unfold mI;omega
theorem Yk (a b q hot warm:Nat)(C:Cs)(K:Ok C)(p:Nat)(L:Live C p)(hk:kl C.A p≠0)(hm:dz C.A p<16)(hs:1<=gJ C.A p/\gJ C.A p<=3):
  aO aaO 174 [CM a,CO CJ (C.hd p)] (In (jb a b q hot warm)) [Cl b C]
   (λv H=>v=CO CN 0/\H= [Cl b (C.wA (vX C.A p true))]):=by
 have hm2:=hm;unfold gJ at*;refine ag func174 rfl ntmps174 rfl ?_;rintro F wB;have hl:=wB;unfold jb Iy at hl;refine cA ?_;refine zl CF (qP b C K p L hk) .nil (λ_ le ao=>ao.1) ?_;refine bW ?_;refine zf 18 ?_ (e:=by rfl);refine bm ?_;refine zf 22 ?_;refine bm ?_;refine cO ?_;refine bE ?_;refine zl CF (x4 a b q hot warm C K p L hk hm true) (.cons .here .nil) (λ_ le ao=>In.mono wB le) ?_;refine bE ?_;refine Rt [Cl b (C.wA (vX C.A p true))] results174 ?_;exact⟨rfl,rfl⟩
theorem JP (a q b qb hot warm:Nat)(C:Cs)(K:Ok C)(Q:List (List Nat))(O:iR C Q)(c:Nat)(hc:c<C.ae.length):
  aO aaO 277 [CM a,CO CN c] (λh=>In (jb a b q hot warm) h/\gP (qY q b qb C Q) h) []
   (λv H=>v= .tuple #[CO CN ((ql Q (qi c 1)).length),CO CN ((ql Q (qi c 2)).length),CO CN ((ql Q (qi c 3)).length)]/\H= []):=by
 refine ag func277 rfl ntmps277 rfl ?_;rintro F ⟨hl,hq⟩;unfold jb Iy at hl;refine bE ?_;refine aw ?_;refine gT true mix ?_;refine bE ?_;refine Tp (oC CF rfl rfl (tx q b qb C K Q O c 1 hc (by omega)) .nil (λ_ le _=>bS hq le) ?_);rintro v H' ⟨rfl,rfl⟩;refine aX ?_;refine bE ?_;refine Tp (oC CF rfl rfl (tx q b qb C K Q O c 2 hc (by omega)) .nil (λ_ le _=>bS hq le) ?_);rintro v H' ⟨rfl,rfl⟩;refine aX ?_;refine bE ?_;refine Tp (oC CF rfl rfl (tx q b qb C K Q O c 3 hc (by omega)) .nil (λ_ le _=>bS hq le) ?_);rintro v H' ⟨rfl,rfl⟩;refine aX ?_;refine bE ?_;refine Rt3 [] results277 ?_;exact⟨rfl,rfl⟩
def o0 (Q:List (List Nat))(c s share:Nat):Bool:=decide (((ql Q (qi c 1)).length+(ql Q (qi c 2)).length+(ql Q (qi c 3)).length)*share<100*(ql Q (qi c s)).length)
theorem Fh (a q b qb hot warm:Nat)(C:Cs)(K:Ok C)(Q:List (List Nat))(O:iR C Q)(c:Nat)(hc:c<C.ae.length)(hh:hot<=100):
  aO aaO 257 [CM a,CO CN c] (λh=>In (jb a b q hot warm) h/\gP (qY q b qb C Q) h) []
   (λv H=>v= .bool (o0 Q c 1 hot)/\H= []):=by
 have n1:=w9 K O (qi c 1);have n2:=w9 K O (qi c 2);have n3:=w9 K O (qi c 3);unfold o0;refine ag func257 rfl ntmps257 rfl ?_;rintro F ⟨wB,hq⟩;have hl:=wB;unfold jb Iy at hl;refine bG ?_;refine zl CF (JP a q b qb hot warm C K Q O c hc) .nil (λ_ le _=>⟨In.mono wB le,bS hq le⟩) ?_;generalize (ql Q (qi c 1)).length=x at*;generalize (ql Q (qi c 2)).length=y at*;generalize (ql Q (qi c 3)).length=z at*;have hmul:(x+y+z)*hot<=(x+y+z)*100:=aka _ hh;have e:((x:Int)+(y:Int)+(z:Int))*(hot:Int)=(((x+y+z)*hot:Nat):Int):=by push_cast;rfl
 generalize ((x+y+z)*hot)=m at*;refine cC ?_;refine av ?_;refine ay (t:=26) (v':=(CO CN m)) rfl (by exact congrArg (Value.int .i64) e) ?_;refine bm ?_;refine Rt [] results257 ?_;refine⟨congrArg Value.bool (decide_eq_decide.2 ?_),rfl⟩;omega
theorem akH (a q b qb hot warm:Nat)(C:Cs)(K:Ok C)(Q:List (List Nat))(O:iR C Q)(c:Nat)(hc:c<C.ae.length)(hh:warm<=100):
  aO aaO 258 [CM a,CO CN c] (λh=>In (jb a b q hot warm) h/\gP (qY q b qb C Q) h) []
   (λv H=>v= .bool (o0 Q c 2 warm)/\H= []):=by
 have n1:=w9 K O (qi c 1);have n2:=w9 K O (qi c 2);have n3:=w9 K O (qi c 3);unfold o0;refine ag func258 rfl ntmps258 rfl ?_;rintro F ⟨wB,hq⟩;have hl:=wB;unfold jb Iy at hl;refine bG ?_;refine zl CF (JP a q b qb hot warm C K Q O c hc) .nil (λ_ le _=>⟨In.mono wB le,bS hq le⟩) ?_;generalize (ql Q (qi c 1)).length=x at*;generalize (ql Q (qi c 2)).length=y at*;generalize (ql Q (qi c 3)).length=z at*;have hmul:(x+y+z)*warm<=(x+y+z)*100:=aka _ hh;have e:((x:Int)+(y:Int)+(z:Int))*(warm:Int)=(((x+y+z)*warm:Nat):Int):=by push_cast;rfl
 generalize ((x+y+z)*warm)=m at*;refine cC ?_;refine av ?_;refine ay (t:=26) (v':=(CO CN m)) rfl (by exact congrArg (Value.int .i64) e) ?_;refine bm ?_;refine Rt [] results258 ?_;refine⟨congrArg Value.bool (decide_eq_decide.2 ?_),rfl⟩;omega
def MkQ (C:Cs)(Q:List (List Nat)):Prop:=∀i,∀p∈ql Q i,dz C.A p<16
structure PZ (C:Cs)(p:Nat)(A:By)(Q:List (List Nat)):Prop where
 o:iR (C.wA A) Q
 d:cX C C.A A (SL p)
 mr:dz A p=mkSet (dz C.A p) false
theorem Cg{C:Cs}(K:Ok C){A B:By}{S:Nat->Nat->Prop}(d:cX C A B S){x:Nat}(X:Live C x)(h:¬S x 46):dz B x=dz A x:=
 lB K d X.toAt (by have:=(X.toAt.bn K).2.1;omega) λj h1 h2 s=>h (by rwa[show j=46 by omega]at s)
theorem ZI{C:Cs}(K:Ok C){Q:List (List Nat)}(O:iR C Q){p:Nat}(L:Live C p)(on:Bool):iR (C.wA (vX C.A p on)) Q:=
 KF K O (Wo K C.A L on) λi x hx j s=>⟨s.oq,by unfold SM at s;omega,by unfold SM at s;omega⟩
theorem Ay (a q b qb hot warm:Nat)(C:Cs)(K:Ok C)(Q:List (List Nat))(O:iR C Q)(p:Nat)(P:gD C (some p))(hm:dz C.A p<16)(hn:¬(1<=gJ C.A p/\gJ C.A p<=3)):
  aO aaO 189 [CM a,CO CJ (C.hd p)] (In (jb a b q hot warm)) (Cl b C::qY q b qb C Q)
   (λv H=>v=CO CN 0/\∃A,H=Cl b (C.wA A)::qY q b qb (C.wA A) (Q.set (qi (C.cl p) 1) (p::ql Q (qi (C.cl p) 1)))/\PZ C p A (Q.set (qi (C.cl p) 1) (p::ql Q (qi (C.cl p) 1)))):=by
 have L:=(P p rfl).1;unfold qY;refine ag func189 rfl ntmps189 rfl ?_;rintro F wB;have hl:=wB;unfold jb Iy at hl;refine cA ?_;refine Lp (oC CF rfl rfl (D4 q b qb C K Q O p 1 (by omega) P hn) (.cons .here (.cons .here (.cons .here .nil))) CI ?_);rintro v H' ⟨rfl,A,rfl,E⟩;refine aX ?_;have hmp:dz A p=dz C.A p:=Cg K E.d L (by unfold SQ;omega);have P2:gD (C.wA A) (some p):=nB K E.d P (λ_ _ j s=>s.oq);refine bW ?_;refine zl CF (x4 a b q hot warm (C.wA A) (K.wA A) p (P2 p rfl).1 (P2.kl p rfl) (by rw[cK,hmp];exact hm) false) (.cons .here .nil) (λ_ le ao=>In.mono wB le) ?_;refine bG ?_;refine Rt [Cl b (C.wA (vX A p false)),af q 182 (fC b qb C.ae.length),af qb 333 ((Q.set (qi (C.cl p) 1) (p::ql Q (qi (C.cl p) 1))).flatMap (cV C))] results189 ?_;refine⟨rfl,vX A p false,rfl,ZI (K.wA A) E.o (P2 p rfl).1 false,(E.d.mono λq o s=> ?_).trans ((Wo (K.wA A) A (P2 p rfl).1 false).wA.mono λq o s=> ?_), ?_⟩
 ·unfold SQ at s;unfold SL;omega
 ·unfold SM at s;unfold SL;omega
 rw[IJ K A L L,if_pos rfl,hmp];have:=mj hm false;omega
theorem LX (a q b qb hot warm:Nat)(C:Cs)(K:Ok C)(Q:List (List Nat))(O:iR C Q)(i k p:Nat)(hk:(ql Q i)[k]?=some p):
  aO aaO 193 [CM a,CO CJ (C.hd p)] (In (jb a b q hot warm)) (Cl b C::qY q b qb C Q)
   (λv H=>v=CO CN 0/\∃A,H=Cl b (C.wA A)::qY q b qb (C.wA A) (Q.set i ((ql Q i).eraseIdx k))/\RV C p A (Q.set i ((ql Q i).eraseIdx k))):=by
 unfold qY;refine ag func193 rfl ntmps193 rfl ?_;rintro F hl;unfold jb Iy at hl;refine cA ?_;refine Lp (oC CF rfl rfl (xW q b qb C K Q O i k p hk) (.cons .here (.cons .here (.cons .here .nil))) CI ?_);rintro v H' ⟨rfl,A,rfl,E⟩;refine aX ?_;refine bz ?_;refine Rt [Cl b (C.wA A),af q 182 (fC b qb C.ae.length),af qb 333 ((Q.set i ((ql Q i).eraseIdx k)).flatMap (cV C))] results193 ?_;exact⟨rfl,A,rfl,E⟩
def xp (C:Cs)(Q:List (List Nat))(c:Nat):Bool:=match(ql Q (qi c 3)).getLast? with
 |none=>false
 |some p=>C7 C.A p
theorem T0 (a q b qb hot warm:Nat)(C:Cs)(K:Ok C)(Q:List (List Nat))(O:iR C Q)(M:MkQ C Q)(c:Nat)(hc:c<C.ae.length):
  aO aaO 259 [CM a,CO CN c] (λh=>In (Cl b C) h/\In (jb a b q hot warm) h/\gP (qY q b qb C Q) h) []
   (λv H=>v= .bool (xp C Q c)/\H= []):=by
 have hp:=λx (h:(ql Q (qi c 3)).getLast?=some x)=>afU h;unfold xp;refine ag func259 rfl ntmps259 rfl ?_;rintro F ⟨cR,wB,hq⟩;have hl:=wB;unfold jb Iy at hl;refine cA ?_;refine zl CF (tM q b qb C K Q O c 3 hc (by omega)) .nil (λ_ le _=>bS hq le) ?_;rcases hg:(ql Q (qi c 3)).getLast? with _|p
 ·refine Li Mv ?_
  refine dm ?_;refine zf 17 ?_ (e:=by rfl);refine bR ?_;refine Rt [] results259 ?_;exact⟨rfl,rfl⟩
 have zF:=hp p hg;refine cA ?_;refine zt 17 ?_ (e:=by rfl);refine bA ?_;refine zl CF (sK a b q hot warm C K p (O.lv _ p zF) (O.it _ p zF).k0 (M _ p zF)) .nil (λ_ le _=>⟨In.mono cR le,In.mono wB le⟩) ?_;refine bm ?_;refine Rt [] results259 ?_;exact⟨rfl,rfl⟩
def ruC:List Value:= [CO CN 1, .func (.func 257) #[] #[],CO CN 2, .func (.func 258) #[] #[],CO CN 3, .func (.func 259) #[] #[]]
theorem SU:aO aaO 206 [] (λ_=>True) [] (λv H=>v=Value.agg ruC.toArray/\H= []):=by
 refine ag func206 rfl ntmps206 rfl ?_;intro F _;refine av ?_;refine Lp (oA P3 λb1=> ?_);refine bE ?_;refine Li (Bda P3 afb) ?_;refine bz ?_;refine Hh (H':= [af b1 276 ruC]) ?_;refine FX [] RT results206 ?_;exact⟨rfl,rfl⟩
structure Cw where
 dn:Int
 bg:Bool
 cl:Nat
 kd:Nat
 nx:Option Nat
 lf:Nat
def ahd (l:List Nat)(p:Nat):Option Nat:=pv l (l.idxOf p)
namespace Cw
def kR (Q:List (List Nat))(x:Cw)(c k:Nat):Cw:={x with bg:=true,cl:=c,kd:=k,nx:=(ql Q (qi c k)).getLast?,lf:=(ql Q (qi c k)).length}
def pass (Q:List (List Nat))(x:Cw):Cw:=match x.nx with
 |none=>x
 |some p=>{x with nx:=if 1<x.lf then ahd (ql Q (qi x.cl x.kd)) p else none,lf:=x.lf-1}
def left (Q:List (List Nat))(x:Cw)(p:Nat):Cw:=if x.nx=some p then x.pass Q else x
def cY (x:Cw)(p r:Nat):Cw:=if x.nx=some p then{x with nx:=some r}else x
def again (x:Cw):Cw:={x with bg:=false,cl:=0,kd:=0,nx:=none,lf:=0}
end Cw
structure dh (n:Nat)(Q:List (List Nat))(x:Cw):Prop where
 go:x.bg=true->x.cl<n/\1<=x.kd/\x.kd<=3
 no:x.bg=false->x.nx=none/\x.cl=0/\x.kd=0/\x.lf=0
 nx:∀p,x.nx=some p->p∈ql Q (qi x.cl x.kd)/\1<=x.lf
 lf:x.lf<=1073741824
theorem dh.bg{n:Nat}{Q:List (List Nat)}{x:Cw}(h:dh n Q x){p:Nat}(e:x.nx=some p):x.bg=true:=by
 rcases hb:x.bg with _|_
 ·rw[(h.no hb).1]at e;cases e
 rfl
theorem dh.kR{C:Cs}(K:Ok C){n:Nat}{Q:List (List Nat)}(O:iR C Q){x:Cw}{c k:Nat}(hc:c<n)(hk:1<=k/\k<=3):dh n Q (x.kR Q c k):=
 ⟨λ_=>⟨hc,hk⟩,(λh=>by cases h),(λ_ hp=>⟨afU hp,List.length_pos_of_mem (afU hp)⟩),w9 K O _⟩
theorem Y4{l:List Nat}{p q:Nat}(h:ahd l p=some q):q∈l:=pW h
theorem dh.pass{n:Nat}{Q:List (List Nat)}{x:Cw}(h:dh n Q x):dh n Q (x.pass Q):=by
 unfold Cw.pass
 split
 ·exact h
 next p hp=>
 have hb:=h.bg hp;obtain⟨h1,h2⟩:=h.nx p hp;refine⟨h.go,λhh=>(by rw[hb]at hh;cases hh),λr hr=> ?_,by have:=h.lf;show x.lf-1<=_;omega⟩;change(if 1<x.lf then _ else none)=some r at hr
 split at hr
 ·next g=>exact⟨Y4 hr,by show 1<=x.lf-1;omega⟩
 cases hr
theorem dh.left{n:Nat}{Q:List (List Nat)}{x:Cw}(h:dh n Q x)(p:Nat):dh n Q (x.left Q p):=by
 unfold Cw.left
 split
 ·exact h.pass
 exact h
def pB (q w n:Nat)(dv tv:Value)(C:Cs)(x:Cw):List Value:= [CM q,CM w,CO CN n,dv,tv,CO CN x.dn, .bool x.bg,CO CN x.cl,CO CN x.kd,CO CJ (hO C x.nx),CO CN x.lf]
def gh (a q w n:Nat)(dv tv:Value)(C:Cs)(x:Cw):aa:=af a 137 (pB q w n dv tv C x)
theorem Cr{l:List Nat}{p:Nat}(h:p∈l):l.idxOf p<l.length/\l[l.idxOf p]?=some p:=by
 have h1:=List.idxOf_lt_length_of_mem h;exact⟨h1,by rw[List.getElem?_eq_getElem h1,akb]⟩
theorem AO (a q w n:Nat)(dv tv:Value)(C:Cs)(x:Cw):
  aO aaO 86 [CM a] (λ_=>True) [gh a q w n dv tv C x]
   (λv H=>v= .tuple #[]/\H= [gh a q w n dv tv C x.again]):=by
 unfold gh pB;refine ag func86 rfl ntmps86 rfl ?_;intro F _;refine cC ?_;refine av ?_;refine aF ?_;refine jW [af a 137 (pB q w n dv tv C x.again)] results86 ?_;exact⟨rfl,rfl⟩
theorem Vi (a q w n b qb:Nat)(dv tv:Value)(C:Cs)(K:Ok C)(Q:List (List Nat))(O:iR C Q)(x:Cw)(c k:Nat)(hc:c<C.ae.length)(hk:1<=k/\k<=3):
  aO aaO 118 [CM a,CO CN c,CO CN k] (gP (qY q b qb C Q)) [gh a q w n dv tv C x]
   (λv H=>v= .tuple #[]/\H= [gh a q w n dv tv C (x.kR Q c k)]):=by
 unfold gh pB;refine ag func118 rfl ntmps118 rfl ?_;rintro F hq;refine cC ?_;refine bm ?_;refine zl CF (tM q b qb C K Q O c k hc hk) .nil (λ_ le _=>bS hq le) ?_;refine mF ?_;refine zl CF (tx q b qb C K Q O c k hc hk) .nil (λ_ le _=>bS hq le) ?_;refine bz ?_;refine aF ?_;refine jW [af a 137 (pB q w n dv tv C (x.kR Q c k))] results118 ?_;exact⟨rfl,rfl⟩
theorem ER (a q w n b qb:Nat)(dv tv:Value)(C:Cs)(K:Ok C)(Q:List (List Nat))(O:iR C Q)(x:Cw)(X:dh n Q x)(p:Nat)(hp:x.nx=some p):
  aO aaO 78 [CM a] (λh=>In (Cl b C) h/\gP (qY q b qb C Q) h) [gh a q w n dv tv C x]
   (λv H=>v=CO CJ (C.hd p)/\H= [gh a q w n dv tv C (x.pass Q)]):=by
 obtain⟨h1,h2⟩:=X.nx p hp;have h3:=X.lf;obtain⟨i1,i2⟩:=Cr h1;have abo:(ql Q (qi x.cl x.kd))[(ql Q (qi x.cl x.kd)).idxOf p]'i1=p:=akb i1;have ah:=Ao q b qb C K Q O (qi x.cl x.kd) ((ql Q (qi x.cl x.kd)).idxOf p) i1;rw[abo]at ah;have e1:((x.lf:Int)-1)=((x.lf-1:Nat):Int):=by omega
 have ex:x.pass Q={x with nx:=if 1<x.lf then ahd (ql Q (qi x.cl x.kd)) p else none,lf:=x.lf-1}:=by unfold Cw.pass;rw[hp]
 rw[ex];unfold ahd;by_cases hl:1<x.lf
 ·rw[if_pos hl]
  unfold gh pB;rw[hp];dsimp only;rw[<-e1];refine ag func78 rfl ntmps78 rfl ?_;rintro F ⟨cR,hq⟩;refine cC ?_;refine fq ?_;refine eU ?_;refine bR ?_;refine zl CF (ah) .nil (λ_ le _=>⟨In.mono cR le,In.mono hq.1 le⟩) ?_;refine dB ?_;refine Rt [af a 137 [CM q,CM w,CO CN n,dv,tv,CO CN x.dn, .bool x.bg,CO CN x.cl,CO CN x.kd,CO CJ (hO C (pv (ql Q (qi x.cl x.kd)) ((ql Q (qi x.cl x.kd)).idxOf p))),CO CN ((x.lf:Int)-1)]] results78 ?_;exact⟨rfl,rfl⟩
 rw[if_neg hl];unfold gh pB;rw[hp];dsimp only;rw[<-e1];refine ag func78 rfl ntmps78 rfl ?_;rintro F ⟨cR,hq⟩;refine cC ?_;refine fq ?_;refine cO ?_;refine bR ?_;refine Rt [af a 137 [CM q,CM w,CO CN n,dv,tv,CO CN x.dn, .bool x.bg,CO CN x.cl,CO CN x.kd,CO CJ 0,CO CN ((x.lf:Int)-1)]] results78 ?_;exact⟨rfl,rfl⟩
theorem ES (a q w n b qb:Nat)(dv tv:Value)(C:Cs)(K:Ok C)(Q:List (List Nat))(O:iR C Q)(x:Cw)(X:dh n Q x)(p:Nat)(L:Live C p):
  aO aaO 92 [CM a,CO CJ (C.hd p)] (λh=>In (Cl b C) h/\gP (qY q b qb C Q) h) [gh a q w n dv tv C x]
   (λv H=>v= .tuple #[]/\H= [gh a q w n dv tv C (x.left Q p)]):=by
 obtain⟨m1,m2,m3,m4,m5,m6⟩:=bV K L.toAt;rcases hb:x.bg with _|_
 ·have hx:x.left Q p=x:=by unfold Cw.left;rw[(X.no hb).1,if_neg (by simp)]
  rw[hx];unfold gh pB;rw[hb];refine ag func92 rfl ntmps92 rfl ?_;rintro F ⟨cR,hq⟩;refine bG ?_;refine zf 8 ?_ (e:=by rfl);refine fq ?_;refine jW [af a 137 [CM q,CM w,CO CN n,dv,tv,CO CN x.dn, .bool false,CO CN x.cl,CO CN x.kd,CO CJ (hO C x.nx),CO CN x.lf]] results92 ?_;exact⟨rfl,rfl⟩
 by_cases hp:x.nx=some p
 ·have hx:x.left Q p=x.pass Q:=by unfold Cw.left;rw[if_pos hp]
  rw[hx];have ps:=ER a q w n b qb dv tv C K Q O x X p hp;unfold gh pB at ps⊢;rw[hp,hb]at ps;rw[hp,hb];generalize hy:x.pass Q=y at*;refine ag func92 rfl ntmps92 rfl ?_;rintro F ⟨cR,hq⟩;refine bG ?_;refine zt 8 ?_ (e:=by rfl);refine bm ?_;refine zt 12 ?_ (e:=by exact congrArg (!·) (CG));refine dm ?_;refine eU ?_ (e:=by exact decide_eq_true rfl);refine bA ?_;refine zl CF (ps) (.cons .here .nil) (λ_ le _=>⟨In.mono cR le,bS hq le⟩) ?_;refine aF ?_;refine jW [af a 137 [CM q,CM w,CO CN n,dv,tv,CO CN y.dn, .bool y.bg,CO CN y.cl,CO CN y.kd,CO CJ (hO C y.nx),CO CN y.lf]] results92 ?_;exact⟨rfl,rfl⟩
 have hx:x.left Q p=x:=by unfold Cw.left;rw[if_neg hp]
 rw[hx];have fN:¬((C.hd p:Int)=(hO C x.nx:Int)):=λe=>by
  rcases FR:x.nx with _|r
  ·rw[FR]at e
   change(C.hd p:Int)=((0:Nat):Int)at e;omega
  have hr:=(X.nx r FR).1;rw[FR,cm]at e;exact hp (by rw[FR,iV K (O.lv _ r hr).toAt L.toAt (by omega)])
 unfold gh pB;rw[hb];refine ag func92 rfl ntmps92 rfl ?_;rintro F ⟨cR,hq⟩;refine bG ?_;refine zt 8 ?_ (e:=by rfl);refine bm ?_;refine zt 12 ?_ (e:=by exact congrArg (!·) (CG));refine dm ?_;refine cO ?_ (e:=by exact decide_eq_false fN);refine av ?_;refine jW [af a 137 [CM q,CM w,CO CN n,dv,tv,CO CN x.dn, .bool true,CO CN x.cl,CO CN x.kd,CO CJ (hO C x.nx),CO CN x.lf]] results92 ?_;exact⟨rfl,rfl⟩
open Go Go.dG Go.Proofs.YtcbcjolpdljbiaaGreat.Cs
theorem NX (a q w n:Nat)(dv tv:Value)(C:Cs)(K:Ok C)(Q:List (List Nat))(O:iR C Q)(x:Cw)(X:dh n Q x)(p r:Nat)(L:Live C p):
  aO aaO 162 [CM a,CO CJ (C.hd p),CO CJ (C.hd r)] (λ_=>True) [gh a q w n dv tv C x]
   (λv H=>v= .tuple #[]/\H= [gh a q w n dv tv C (x.cY p r)]):=by
 obtain⟨m1,m2,m3,m4,m5,m6⟩:=bV K L.toAt;rcases hb:x.bg with _|_
 ·have hx:x.cY p r=x:=by unfold Cw.cY;rw[(X.no hb).1,if_neg (by simp)]
  rw[hx];unfold gh pB;rw[hb];refine ag func162 rfl ntmps162 rfl ?_;intro F _;refine bG ?_;refine zf 10 ?_ (e:=by rfl);refine fq ?_;refine jW [af a 137 [CM q,CM w,CO CN n,dv,tv,CO CN x.dn, .bool false,CO CN x.cl,CO CN x.kd,CO CJ (hO C x.nx),CO CN x.lf]] results162 ?_;exact⟨rfl,rfl⟩
 by_cases hp:x.nx=some p
 ·have hx:x.cY p r={x with nx:=some r}:=by unfold Cw.cY;rw[if_pos hp]
  rw[hx];unfold gh pB;rw[hp];dsimp only;rw[hb];refine ag func162 rfl ntmps162 rfl ?_;intro F _;refine bG ?_;refine zt 10 ?_ (e:=by rfl);refine bm ?_;refine zt 14 ?_ (e:=by exact congrArg (!·) (CG));refine dm ?_;refine eU ?_ (e:=by exact decide_eq_true rfl);refine bG ?_;refine aF ?_;refine jW [af a 137 [CM q,CM w,CO CN n,dv,tv,CO CN x.dn, .bool true,CO CN x.cl,CO CN x.kd,CO CJ (C.hd r),CO CN x.lf]] results162 ?_;exact⟨rfl,rfl⟩
 have hx:x.cY p r=x:=by unfold Cw.cY;rw[if_neg hp]
 rw[hx];have fN:¬((C.hd p:Int)=(hO C x.nx:Int)):=λe=>by
  rcases FR:x.nx with _|u
  ·rw[FR]at e
   change(C.hd p:Int)=((0:Nat):Int)at e;omega
  have hr:=(X.nx u FR).1;rw[FR,cm]at e;exact hp (by rw[FR,iV K (O.lv _ u hr).toAt L.toAt (by omega)])
 unfold gh pB;rw[hb];refine ag func162 rfl ntmps162 rfl ?_;intro F _;refine bG ?_;refine zt 10 ?_ (e:=by rfl);refine bm ?_;refine zt 14 ?_ (e:=by exact congrArg (!·) (CG));refine dm ?_;refine cO ?_ (e:=by exact decide_eq_false fN);refine av ?_;refine jW [af a 137 [CM q,CM w,CO CN n,dv,tv,CO CN x.dn, .bool true,CO CN x.cl,CO CN x.kd,CO CJ (hO C x.nx),CO CN x.lf]] results162 ?_;exact⟨rfl,rfl⟩
namespace Cw
def Oi (n:Nat)(Q:List (List Nat)):Nat->Cw->Bool×Cw
 |0,x=>(false,x)
 |f+1,x=>
  if x.nx≠none then(true,x)
  else if 1<x.kd then Oi n Q f (x.kR Q x.cl (x.kd-1))
  else if x.cl+1<n then Oi n Q f (x.kR Q (x.cl+1) 3)
  else(false,{x.again with dn:=IntKind.i64.wrap (x.dn+1)})
def ms (n:Nat)(x:Cw):Nat:=(n-x.cl)*3+x.kd
def start (Q:List (List Nat))(x:Cw):Cw:=if x.bg then x else x.kR Q 0 3
def find (n:Nat)(Q:List (List Nat))(x:Cw):Bool×Cw:=Oi n Q (3*n+4) (x.start Q)
theorem xD{n:Nat}{Q:List (List Nat)}:∀{f g:Nat} {x:Cw},1<=x.kd->x.ms n<f->x.ms n<g->Oi n Q f x=Oi n Q g x
 |0,_,_,_,h,_=>absurd h (aiY _)
 |_,0,_,_,_,h=>absurd h (aiY _)
 |f+1,g+1,x,hk,h1,h2=>by
  unfold Oi;by_cases e1:x.nx≠none
  ·rw[if_pos e1,if_pos e1]
  rw[if_neg e1,if_neg e1];unfold ms at h1 h2;by_cases e2:1<x.kd
  ·rw[if_pos e2,if_pos e2]
   exact xD (by show 1<=x.kd-1;omega) (by unfold ms kR;dsimp only;omega) (by unfold ms kR;dsimp only;omega)
  rw[if_neg e2,if_neg e2];by_cases e3:x.cl+1<n
  ·rw[if_pos e3,if_pos e3]
   exact xD (by show 1<=3;omega) (by unfold ms kR;dsimp only;omega) (by unfold ms kR;dsimp only;omega)
  rw[if_neg e3,if_neg e3]
end Cw
theorem Vh (a q w b qb:Nat)(dv tv:Value)(C:Cs)(K:Ok C)(Q:List (List Nat))(O:iR C Q)(x:Cw)(X:dh C.ae.length Q x):
  aO aaO 77 [CM a] (gP (qY q b qb C Q)) [gh a q w C.ae.length dv tv C x]
   (λv H=>∃r y,v= .bool r/\H= [gh a q w C.ae.length dv tv C y]/\x.find C.ae.length Q=(r,y)/\dh C.ae.length Q y/\(r=true->y.nx≠none)):=by
 have n0:=K.toFix.l0;have n1:=K.toFix.l1;have yQ:dh C.ae.length Q (x.start Q)/\(x.start Q).bg=true:=by
  unfold Cw.start
  split
  ·next h=>exact⟨X,h⟩
  exact⟨dh.kR K O (by omega) (by omega),rfl⟩
 have hR:x.find C.ae.length Q=Cw.Oi C.ae.length Q (3*C.ae.length+4) (x.start Q):=rfl;generalize hr:x.find C.ae.length Q=R at*;have hfu:∀f,(x.start Q).ms C.ae.length<f->Cw.Oi C.ae.length Q f (x.start Q)=R:=λf hf=>by
  rw[hR];have h2:=yQ.1.go yQ.2;exact Cw.xD h2.2.1 hf (by unfold Cw.ms;omega)
 have hlen:∀z:Cw,z.cl<C.ae.length->1<=z.kd->z.kd<=3->z.nx=none->z.ms C.ae.length<=3*C.ae.length+3:=λz h1 h2 h3 _=>by unfold Cw.ms;omega
 have kR:=λ(z:Cw) (c k:Nat) (hc:c<C.ae.length) (hk:1<=k/\k<=3)=>Vi a q w C.ae.length b qb dv tv C K Q O z c k hc hk;have RF:=λ(z:Cw) (c k:Nat) (hc:c<C.ae.length) (hk:1<=k/\k<=3)=>dh.kR K O (x:=z) hc hk;generalize hn:C.ae.length=n at*;unfold gh pB at*;refine ag func77 rfl ntmps77 rfl ?_;intro F hq;refine bW ?_;refine dt (ι:=Cw) [8,9] (λz=>z=x.start Q) (λz=> []) (λz=> [af a 137 [CM q,CM w,CO CN n,dv,tv,CO CN z.dn, .bool z.bg,CO CN z.cl,CO CN z.kd,CO CJ (hO C z.nx),CO CN z.lf]]) ?_ ?_
 ·refine aE rfl ?_ ?_
  ·intro hb
   replace hb:=aS hb;refine bA ?_;refine zl CF (kR x 0 3 (by omega) (by omega)) (.cons .here .nil) (λ_ le _=>bS hq le) ?_;refine aF ?_;refine Me ((x.kR Q 0 3)) ((by unfold Cw.start;rw[if_neg (by simp[hb])]))
  intro hb;replace hb:=aS hb;refine av ?_;refine Me (x) ((by unfold Cw.start;rw[if_pos hb]))
 rintro z hz;subst hz;generalize x.start Q=s0 at*;refine bA ?_;refine Lo (ι:=Cw) [10,11,12,13,14,25,26,27,28,29,24,30,31,32,33,34,35,36,37,38,39,40,42,43,44,45,46,47,48,49,50,51,41,52,53,54,55,56,57,58,15,16,17,18,19,20,21,22,23,2] (λz=>(dh n Q z/\z.bg=true)/\∀f,z.ms n<f->Cw.Oi n Q f z=R) (λz=> []) (λz=> [af a 137 [CM q,CM w,CO CN n,dv,tv,CO CN z.dn, .bool z.bg,CO CN z.cl,CO CN z.kd,CO CJ (hO C z.nx),CO CN z.lf]]) (λz=>z.ms n) (s0) ⟨yQ,hfu⟩ ?_;rintro z hI;dsimp only at hI⊢;obtain⟨⟨Z,zb⟩,hf⟩:=hI;obtain⟨g1,g2,g3⟩:=Z.go zb;have VL:=hf (z.ms n+1) (Nat.lt_succ_self _);unfold Cw.Oi at VL;rcases hz:z.nx with _|p
 ·rw[hz,if_neg (by simp)]at VL
  refine cA ?_;by_cases h1:1<z.kd
  ·refine Bw ?_
   refine bW ?_;refine eU ?_;refine hJ 10 mix (.cons .here .nil) λF1 jf bZ aN=> ?_;obtain⟨q1,_⟩:=bZ;refine bM ?_;refine gd aN ?_;have ek:((z.kd:Int)-1)=((z.kd-1:Nat):Int):=by omega
   rw[ek];refine Tp (oC (CF (n:=118)) rfl rfl ((by have h:=kR z z.cl (z.kd-1) g1 (by omega);rw[hz]at h;exact h)) (.cons .here .nil) (λ_ le _=>bS hq le) ?_);rintro v H' ⟨rfl,rfl⟩;refine aX ?_;refine bz ?_;refine Ro ((z.kR Q z.cl (z.kd-1))) (⟨⟨RF z z.cl (z.kd-1) g1 (by omega),rfl⟩,λf VK=>(by rw[if_pos h1]at VL;exact(Cw.xD (by show 1<=z.kd-1;omega) VK (by unfold Cw.ms Cw.kR;dsimp only;omega)).trans VL)⟩) ((by unfold Cw.ms Cw.kR;dsimp only;omega))
  refine Bw ?_;refine bW ?_;refine cO ?_;by_cases h2:z.cl+1<n
  ·refine aw ?_
   refine hJ 10 mix (.cons .here .nil) λF2 yO ez cQ=> ?_;obtain⟨q1,_⟩:=ez;refine bM ?_;refine gd cQ ?_;refine bA ?_;refine eU ?_;refine bR ?_;refine zl (CF (n:=118)) ((by have h:=kR z (z.cl+1) 3 h2 (by omega);rw[hz]at h;exact h)) (.cons .here .nil) (λ_ le _=>bS hq le) ?_;refine bz ?_;refine Ro ((z.kR Q (z.cl+1) 3)) (⟨⟨RF z (z.cl+1) 3 h2 (by omega),rfl⟩,λf VK=>(by rw[if_neg h1,if_pos h2]at VL;exact(Cw.xD (by show 1<=3;omega) VK (by unfold Cw.ms Cw.kR;dsimp only;omega)).trans VL)⟩) ((by unfold Cw.ms Cw.kR;dsimp only;omega))
  refine aw ?_;refine hJ 10 mix (.cons .here .nil) λF3 Ow pt eI=> ?_;obtain⟨q1,_⟩:=pt;refine bM ?_;refine gd eI ?_;refine bA ?_;refine cO ?_;refine bA ?_;refine zl (CF (n:=86)) ((by have h:=AO a q w n dv tv C z;unfold gh pB at h;rw[hz]at h;exact h)) (.cons .here .nil) CI ?_;unfold Cw.again;refine cC ?_;rw[if_neg h1,if_neg h2]at VL;refine Rt [af a 137 [CM q,CM w,CO CN n,dv,tv,CO CN (IntKind.i64.wrap (z.dn+1)), .bool false,CO CN 0,CO CN 0,CO CJ 0,CO CN 0]] results77 ?_;refine⟨false,{z.again with dn:=IntKind.i64.wrap (z.dn+1)},rfl,rfl,VL.symm,⟨(λh=>by cases h),λ_=>⟨rfl,rfl,rfl,rfl⟩,(λ_ h=>by cases h),Nat.zero_le _⟩,(λh=>by cases h)⟩
 rw[hz,if_pos (by simp)]at VL;have hp:=(Z.nx p hz).1;obtain⟨m1,m2,m3,m4,m5,m6⟩:=bV K (O.lv _ p hp).toAt;rw[cm];refine dm ?_;refine cO ?_;refine cA ?_;refine Rt [af a 137 [CM q,CM w,CO CN n,dv,tv,CO CN z.dn, .bool z.bg,CO CN z.cl,CO CN z.kd,CO CJ (C.hd p),CO CN z.lf]] results77 ?_;exact⟨true,z,rfl,by rw[hz,cm],VL.symm,Z,λ_=>by rw[hz];simp⟩
end Go.Proofs.YtcbcjolpdljbiaaGreat
