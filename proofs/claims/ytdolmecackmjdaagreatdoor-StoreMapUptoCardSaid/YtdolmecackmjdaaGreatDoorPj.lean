/- Part Pj of the proof. -/
import Derived.Test.YtdolmecackmjdaaGreatDoorPd
import Derived.Test.YtdolmecackmjdaaGreatDoorPh
set_option maxRecDepth 100000
open Nat renaming mul_le_mul_left → ah3, not_lt_zero → agH
open List renaming mem_of_getLast? → adu, getElem_idxOf → ah4
open Go.Proofs.Tryz renaming prog → acw
open Go.Proofs.Tryz
namespace Go.Proofs.YtdolmecackmjdaaGreatDoor
open Go Go.dL Go.Proofs.YtdolmecackmjdaaGreatDoor.Cs
def dE (A:By)(p:Nat):Nat:=rd A (p+46) 1
def I0 (A:By)(p:Nat):Bool:=decide (dE A p % 2=1)
def mkSet (m:Nat)(on:Bool):Nat:=m/2*2+(if on then 1 else 0)
def uH (A:By)(p:Nat)(on:Bool):By:=wr A (p+46) 1 (mkSet (dE A p) on)
theorem Te:∀m:Nat,m<16→gG .and .i64 (m:Int) 1=some ((m % 2:Nat):Int):=by decide+kernel
theorem Td:∀m:Nat,m<16→gG .andNot .i64 (m:Int) 1=some ((m/2*2:Nat):Int):=by decide+kernel
theorem Xa:∀m:Nat,m<16→gG .or .i64 ((m/2*2:Nat):Int) 1=some ((m/2*2+1:Nat):Int):=by decide+kernel
def Mq (b q hot warm:Nat):List Value:= [.pointer (some ⟨b,0,none⟩), .pointer (some ⟨q,0,none⟩), .int .i64 (hot:Int), .int .i64 (warm:Int)]
def jN (a b q hot warm:Nat):aa:=ag a 141 (Mq b q hot warm)
theorem xZ (a b q hot warm:Nat)(C:Cs)(K:Ok C)(p:Nat)(L:Live C p)(hk:kl C.A p≠0)(hm:dE C.A p<16):
  aH acw 196 [.pointer (some ⟨a,0,none⟩), .int .u64 (C.hd p:Int)] (λh=>In (Cl b C) h∧In (jN a b q hot warm) h) []
   (λv H=>v= .bool (I0 C.A p)∧H= []):=by
 have ha:=Te _ hm;unfold jN Mq I0;unfold dE at*;refine ae func196 rfl ntmps196 rfl ?_;rintro F ⟨hc,hl⟩;refine cN ?_;refine zl T.AG (pQ b C K p L hk) .nil (λ_ le _=>In.mono hc le) ?_;refine bw ?_;refine zt 18 ?_ (e:=by rfl);refine a8 ?_;refine ao (t:=20) (v':=(.int .i64 ((rd C.A (p+46) 1 % 2:Nat):Int))) rfl (by exact congrArg (λx=>Value.int .i64 (x.getD 0)) ha) ?_;refine bc ?_;refine Rt [] results196 ?_;refine⟨?_,rfl⟩;by_cases h:rd C.A (p+46) 1 % 2=1
 ·rw[h];rfl
 rw[show rd C.A (p+46) 1 % 2=0 by omega];rfl
theorem xe (a b q hot warm:Nat)(C:Cs)(K:Ok C)(p:Nat)(L:Live C p)(hk:kl C.A p≠0)(hm:dE C.A p<16)(on:Bool):
  aH acw 198 [.pointer (some ⟨a,0,none⟩), .int .u64 (C.hd p:Int), .bool on] (In (jN a b q hot warm)) [Cl b C]
   (λv H=>v= .tuple #[]∧H= [Cl b (C.wA (uH C.A p on))]):=by
 have ha:=Td _ hm;have hb:=Xa _ hm;unfold jN Mq uH mkSet;unfold dE at*;refine ae func198 rfl ntmps198 rfl ?_;rintro F hl;refine bB ?_;refine zl T.AG (pQ b C K p L hk) .nil (λ_ le aw=>aw.1) ?_;refine bT ?_;refine aZ ?_;refine ao (t:=6) (v':=(.int .i64 ((rd C.A (p+46) 1/2*2:Nat):Int))) rfl (by exact congrArg (λx=>Value.int .i64 (x.getD 0)) ha) ?_;rcases on with _|_
 ·refine cu ?_ (e:=by rfl)
  refine cN ?_;refine zl T.AF (kf b C K p (rd C.A (p+46) 1/2*2) (by omega) L hk) (.cons .here .nil) (λ_ _ _=>trivial) ?_;refine az ?_;refine jM [Cl b (C.wA (wr C.A (p+46) 1 (rd C.A (p+46) 1/2*2+0)))] results198 ?_;exact⟨rfl,rfl⟩
 refine dz ?_ (e:=by rfl);refine bc ?_;refine ao (t:=6) (v':=(.int .i64 ((rd C.A (p+46) 1/2*2+1:Nat):Int))) rfl (by exact congrArg (λx=>Value.int .i64 (x.getD 0)) hb) ?_;refine bH ?_;refine zl T.AF (kf b C K p (rd C.A (p+46) 1/2*2+1) (by omega) L hk) (.cons .here .nil) (λ_ _ _=>trivial) ?_;refine az ?_;refine jM [Cl b (C.wA (wr C.A (p+46) 1 (rd C.A (p+46) 1/2*2+1)))] results198 ?_;exact⟨rfl,rfl⟩
def SM (p:Nat)(q o:Nat):Prop:=o=46∧q=p
def SL (p:Nat)(q o:Nat):Prop:=4≤o∧o<12∨(o=45∨o=46)∧q=p
theorem kQ{m:Nat}(h:m<16)(on:Bool):mkSet m on<16:=by
 unfold mkSet
 split<;>omega
theorem UE{C:Cs}(K:Ok C)(A:By){p:Nat}(L:Live C p)(on:Bool):dx C A (uH A p on) (SM p):=
 vU A L.toAt (by have:=(L.toAt.bo K).2.1;omega) λj h1 h2=>⟨by omega,rfl⟩
theorem G3{C:Cs}(K:Ok C)(A:By){p x:Nat}(L:Live C p)(X:Live C x)(on:Bool):dE (uH A p on) x=if x=p then mkSet (dE A p) on % 256 else dE A x:=by
 unfold dE uH
 split
 ·next e=>rw[e,du];rfl
 next e=>exact kJ (C:=C.wA A) (K.wA A) (X.wA A).toAt (L.wA A).toAt (a:=46) (n:=1) (o:=46) (w:=1) (by have:=(L.toAt.bo K).2.1;show _≤C.sz (C.cl p);omega) (by have:=(X.toAt.bo K).2.1;show _≤C.sz (C.cl x);omega) (λg=>absurd g e)
theorem SM.rI{p q o:Nat}(h:SM p q o):mz o:=by
 unfold SM at h;unfold mz;omega
theorem Wq (a b q hot warm:Nat)(C:Cs)(K:Ok C)(p:Nat)(L:Live C p)(hk:kl C.A p≠0)(hm:dE C.A p<16)(hs:1≤jc C.A p∧jc C.A p≤3):
  aH acw 171 [.pointer (some ⟨a,0,none⟩), .int .u64 (C.hd p:Int)] (In (jN a b q hot warm)) [Cl b C]
   (λv H=>v= .int .i64 0∧H= [Cl b (C.wA (uH C.A p true))]):=by
 have hm2:=hm;unfold jc at*;refine ae func171 rfl ntmps171 rfl ?_;rintro F uQ;have hl:=uQ;unfold jN Mq at hl;refine cN ?_;refine zl T.Fg (tQ b C K p L hk) .nil (λ_ le aw=>aw.1) ?_;refine bK ?_;refine zf 18 ?_ (e:=by rfl);refine aR ?_;refine zf 22 ?_;refine aR ?_;refine cu ?_;refine bc ?_;refine zl T.Fc (xe a b q hot warm C K p L hk hm true) (.cons .here .nil) (λ_ le aw=>In.mono uQ le) ?_;refine bc ?_;refine Rt [Cl b (C.wA (uH C.A p true))] results171 ?_;exact⟨rfl,rfl⟩
theorem Ib (a q b qb hot warm:Nat)(C:Cs)(K:Ok C)(Q:List (List Nat))(O:iV C Q)(c:Nat)(hc:c<C.af.length):
  aH acw 257 [.pointer (some ⟨a,0,none⟩), .int .i64 (c:Int)] (λh=>In (jN a b q hot warm) h∧hJ (sL q b qb C Q) h) []
   (λv H=>v= .tuple #[.int .i64 ((ql Q (qi c 1)).length:Int), .int .i64 ((ql Q (qi c 2)).length:Int), .int .i64 ((ql Q (qi c 3)).length:Int)]∧H= []):=by
 refine ae func257 rfl ntmps257 rfl ?_;rintro F ⟨hl,hq⟩;unfold jN Mq at hl;refine bc ?_;refine au ?_;refine gT true T.mix ?_;refine bc ?_;refine Tp (oC T.AD rfl rfl (vf q b qb C K Q O c 1 hc (by omega)) .nil (λ_ le _=>dt hq le) ?_);rintro v H' ⟨rfl,rfl⟩;refine bd ?_;refine bc ?_;refine Tp (oC T.AD rfl rfl (vf q b qb C K Q O c 2 hc (by omega)) .nil (λ_ le _=>dt hq le) ?_);rintro v H' ⟨rfl,rfl⟩;refine bd ?_;refine bc ?_;refine Tp (oC T.AD rfl rfl (vf q b qb C K Q O c 3 hc (by omega)) .nil (λ_ le _=>dt hq le) ?_);rintro v H' ⟨rfl,rfl⟩;refine bd ?_;refine bc ?_;refine Rt3 [] results257 ?_;exact⟨rfl,rfl⟩
def nU (Q:List (List Nat))(c s share:Nat):Bool:=decide (((ql Q (qi c 1)).length+(ql Q (qi c 2)).length+(ql Q (qi c 3)).length)*share<100*(ql Q (qi c s)).length)
theorem DN (a q b qb hot warm:Nat)(C:Cs)(K:Ok C)(Q:List (List Nat))(O:iV C Q)(c:Nat)(hc:c<C.af.length)(hh:hot≤100):
  aH acw 236 [.pointer (some ⟨a,0,none⟩), .int .i64 (c:Int)] (λh=>In (jN a b q hot warm) h∧hJ (sL q b qb C Q) h) []
   (λv H=>v= .bool (nU Q c 1 hot)∧H= []):=by
 have n1:=Ad K O (qi c 1);have n2:=Ad K O (qi c 2);have n3:=Ad K O (qi c 3);unfold nU;refine ae func236 rfl ntmps236 rfl ?_;rintro F ⟨uQ,hq⟩;have hl:=uQ;unfold jN Mq at hl;refine bB ?_;refine zl T.OE (Ib a q b qb hot warm C K Q O c hc) .nil (λ_ le _=>⟨In.mono uQ le,dt hq le⟩) ?_;generalize (ql Q (qi c 1)).length=x at*;generalize (ql Q (qi c 2)).length=y at*;generalize (ql Q (qi c 3)).length=z at*;have hmul:(x+y+z)*hot≤(x+y+z)*100:=ah3 _ hh;have e:((x:Int)+(y:Int)+(z:Int))*(hot:Int)=(((x+y+z)*hot:Nat):Int):=by push_cast;rfl
 generalize ((x+y+z)*hot)=m at*;refine bT ?_;refine ay ?_;refine ao (t:=26) (v':=(.int .i64 (m:Int))) rfl (by exact congrArg (Value.int .i64) e) ?_;refine aR ?_;refine Rt [] results236 ?_;refine⟨congrArg Value.bool (decide_eq_decide.2 ?_),rfl⟩;omega
theorem Br (a q b qb hot warm:Nat)(C:Cs)(K:Ok C)(Q:List (List Nat))(O:iV C Q)(c:Nat)(hc:c<C.af.length)(hh:warm≤100):
  aH acw 237 [.pointer (some ⟨a,0,none⟩), .int .i64 (c:Int)] (λh=>In (jN a b q hot warm) h∧hJ (sL q b qb C Q) h) []
   (λv H=>v= .bool (nU Q c 2 warm)∧H= []):=by
 have n1:=Ad K O (qi c 1);have n2:=Ad K O (qi c 2);have n3:=Ad K O (qi c 3);unfold nU;refine ae func237 rfl ntmps237 rfl ?_;rintro F ⟨uQ,hq⟩;have hl:=uQ;unfold jN Mq at hl;refine bB ?_;refine zl T.OE (Ib a q b qb hot warm C K Q O c hc) .nil (λ_ le _=>⟨In.mono uQ le,dt hq le⟩) ?_;generalize (ql Q (qi c 1)).length=x at*;generalize (ql Q (qi c 2)).length=y at*;generalize (ql Q (qi c 3)).length=z at*;have hmul:(x+y+z)*warm≤(x+y+z)*100:=ah3 _ hh;have e:((x:Int)+(y:Int)+(z:Int))*(warm:Int)=(((x+y+z)*warm:Nat):Int):=by push_cast;rfl
 generalize ((x+y+z)*warm)=m at*;refine bT ?_;refine ay ?_;refine ao (t:=26) (v':=(.int .i64 (m:Int))) rfl (by exact congrArg (Value.int .i64) e) ?_;refine aR ?_;refine Rt [] results237 ?_;refine⟨congrArg Value.bool (decide_eq_decide.2 ?_),rfl⟩;omega
def MkQ (C:Cs)(Q:List (List Nat)):Prop:=∀i,∀p∈ql Q i,dE C.A p<16
structure NS (C:Cs)(p:Nat)(A:By)(Q:List (List Nat)):Prop where
 o:iV (C.wA A) Q
 d:dx C C.A A (SL p)
 mr:dE A p=mkSet (dE C.A p) false
theorem A8{C:Cs}(K:Ok C){A B:By}{S:Nat→Nat→Prop}(d:dx C A B S){x:Nat}(X:Live C x)(h:¬S x 46):dE B x=dE A x:=
 lA K d X.toAt (by have:=(X.toAt.bo K).2.1;omega) λj h1 h2 s=>h (by rwa[show j=46 by omega]at s)
theorem XK{C:Cs}(K:Ok C){Q:List (List Nat)}(O:iV C Q){p:Nat}(L:Live C p)(on:Bool):iV (C.wA (uH C.A p on)) Q:=
 M7 K O (UE K C.A L on) λi x hx j s=>⟨s.rI,by unfold SM at s;omega,by unfold SM at s;omega⟩
theorem zu (a q b qb hot warm:Nat)(C:Cs)(K:Ok C)(Q:List (List Nat))(O:iV C Q)(p:Nat)(P:hG C (some p))(hm:dE C.A p<16)(hn:¬(1≤jc C.A p∧jc C.A p≤3)):
  aH acw 184 [.pointer (some ⟨a,0,none⟩), .int .u64 (C.hd p:Int)] (In (jN a b q hot warm)) (Cl b C::sL q b qb C Q)
   (λv H=>v= .int .i64 0∧∃A,H=Cl b (C.wA A)::sL q b qb (C.wA A) (Q.set (qi (C.cl p) 1) (p::ql Q (qi (C.cl p) 1)))∧NS C p A (Q.set (qi (C.cl p) 1) (p::ql Q (qi (C.cl p) 1)))):=by
 have L:=(P p rfl).1;unfold sL;refine ae func184 rfl ntmps184 rfl ?_;rintro F uQ;have hl:=uQ;unfold jN Mq at hl;refine cN ?_;refine Lp (oC T.OK rfl rfl (CO q b qb C K Q O p 1 (by omega) P hn) (.cons .here (.cons .here (.cons .here .nil))) (λ_ _ _=>trivial) ?_);rintro v H' ⟨rfl,A,rfl,E⟩;refine bd ?_;have YP:dE A p=dE C.A p:=A8 K E.d L (by unfold SQ;omega);have P2:hG (C.wA A) (some p):=ug K E.d P (λ_ _ j s=>s.rI);refine bK ?_;refine zl T.Fc (xe a b q hot warm (C.wA A) (K.wA A) p (P2 p rfl).1 (P2.kl p rfl) (by rw[cS,YP];exact hm) false) (.cons .here .nil) (λ_ le aw=>In.mono uQ le) ?_;refine bB ?_;refine Rt [Cl b (C.wA (uH A p false)),ag q 139 (fP b qb C.af.length),ag qb 327 ((Q.set (qi (C.cl p) 1) (p::ql Q (qi (C.cl p) 1))).flatMap (eH C))] results184 ?_;refine⟨rfl,uH A p false,rfl,XK (K.wA A) E.o (P2 p rfl).1 false,(E.d.mono λq o s=> ?_).trans ((UE (K.wA A) A (P2 p rfl).1 false).wA.mono λq o s=> ?_), ?_⟩
 ·unfold SQ at s;unfold SL;omega
 ·unfold SM at s;unfold SL;omega
 rw[G3 K A L L,if_pos rfl,YP];have:=kQ hm false;omega
theorem J6 (a q b qb hot warm:Nat)(C:Cs)(K:Ok C)(Q:List (List Nat))(O:iV C Q)(i k p:Nat)(hk:(ql Q i)[k]?=some p):
  aH acw 153 [.pointer (some ⟨a,0,none⟩), .int .u64 (C.hd p:Int)] (In (jN a b q hot warm)) (Cl b C::sL q b qb C Q)
   (λv H=>v= .int .i64 0∧∃A,H=Cl b (C.wA A)::sL q b qb (C.wA A) (Q.set i ((ql Q i).eraseIdx k))∧P6 C p A (Q.set i ((ql Q i).eraseIdx k))):=by
 unfold sL;refine ae func153 rfl ntmps153 rfl ?_;rintro F hl;unfold jN Mq at hl;refine cN ?_;refine Lp (oC T.O0 rfl rfl (CP q b qb C K Q O i k p hk) (.cons .here (.cons .here (.cons .here .nil))) (λ_ _ _=>trivial) ?_);rintro v H' ⟨rfl,A,rfl,E⟩;refine bd ?_;refine aZ ?_;refine Rt [Cl b (C.wA A),ag q 139 (fP b qb C.af.length),ag qb 327 ((Q.set i ((ql Q i).eraseIdx k)).flatMap (eH C))] results153 ?_;exact⟨rfl,A,rfl,E⟩
def wz (C:Cs)(Q:List (List Nat))(c:Nat):Bool:=match(ql Q (qi c 3)).getLast? with
 |none=>false
 |some p=>I0 C.A p
theorem RE (a q b qb hot warm:Nat)(C:Cs)(K:Ok C)(Q:List (List Nat))(O:iV C Q)(M:MkQ C Q)(c:Nat)(hc:c<C.af.length):
  aH acw 238 [.pointer (some ⟨a,0,none⟩), .int .i64 (c:Int)] (λh=>In (Cl b C) h∧In (jN a b q hot warm) h∧hJ (sL q b qb C Q) h) []
   (λv H=>v= .bool (wz C Q c)∧H= []):=by
 have hp:=λx (h:(ql Q (qi c 3)).getLast?=some x)=>adu h;unfold wz;refine ae func238 rfl ntmps238 rfl ?_;rintro F ⟨fb,uQ,hq⟩;have hl:=uQ;unfold jN Mq at hl;refine cN ?_;refine zl T.Fe (w9 q b qb C K Q O c 3 hc (by omega)) .nil (λ_ le _=>dt hq le) ?_;rcases hg:(ql Q (qi c 3)).getLast? with _|p
 ·refine Li Mv ?_
  refine cI ?_;refine zf 17 ?_ (e:=by rfl);refine bH ?_;refine Rt [] results238 ?_;exact⟨rfl,rfl⟩
 have yE:=hp p hg;refine cN ?_;refine zt 17 ?_ (e:=by rfl);refine a8 ?_;refine zl T.OT (xZ a b q hot warm C K p (O.lv _ p yE) (O.it _ p yE).k0 (M _ p yE)) .nil (λ_ le _=>⟨In.mono fb le,In.mono uQ le⟩) ?_;refine aR ?_;refine Rt [] results238 ?_;exact⟨rfl,rfl⟩
def ruC:List Value:= [.int .i64 1, .func (.func 236) #[] #[], .int .i64 2, .func (.func 237) #[] #[], .int .i64 3, .func (.func 238) #[] #[]]
theorem QP:aH acw 194 [] (λ_=>True) [] (λv H=>v=Value.agg ruC.toArray∧H= []):=by
 refine ae func194 rfl ntmps194 rfl ?_;intro F _;refine ay ?_;refine Lp (oA T.NU λb1=> ?_);refine bc ?_;refine Li (Bda T.NU T.acp) ?_;refine aZ ?_;refine Hh (H':= [ag b1 280 ruC]) ?_;refine ko [] T.PZ results194 ?_;exact⟨rfl,rfl⟩
structure Cw where
 dn:Int
 bg:Bool
 cl:Nat
 kd:Nat
 nx:Option Nat
 lf:Nat
def ahd (l:List Nat)(p:Nat):Option Nat:=pv l (l.idxOf p)
namespace Cw
def jS (Q:List (List Nat))(x:Cw)(c k:Nat):Cw:={x with bg:=true,cl:=c,kd:=k,nx:=(ql Q (qi c k)).getLast?,lf:=(ql Q (qi c k)).length}
def pass (Q:List (List Nat))(x:Cw):Cw:=match x.nx with
 |none=>x
 |some p=>{x with nx:=if 1<x.lf then ahd (ql Q (qi x.cl x.kd)) p else none,lf:=x.lf-1}
def left (Q:List (List Nat))(x:Cw)(p:Nat):Cw:=if x.nx=some p then x.pass Q else x
def yM (x:Cw)(p r:Nat):Cw:=if x.nx=some p then{x with nx:=some r}else x
def again (x:Cw):Cw:={x with bg:=false,cl:=0,kd:=0,nx:=none,lf:=0}
end Cw
structure cZ (n:Nat)(Q:List (List Nat))(x:Cw):Prop where
 go:x.bg=true→x.cl<n∧1≤x.kd∧x.kd≤3
 no:x.bg=false→x.nx=none∧x.cl=0∧x.kd=0∧x.lf=0
 nx:∀p,x.nx=some p→p∈ql Q (qi x.cl x.kd)∧1≤x.lf
 lf:x.lf≤1073741824
theorem cZ.bg{n:Nat}{Q:List (List Nat)}{x:Cw}(h:cZ n Q x){p:Nat}(e:x.nx=some p):x.bg=true:=by
 rcases hb:x.bg with _|_
 ·rw[(h.no hb).1]at e;cases e
 rfl
theorem cZ.jS{C:Cs}(K:Ok C){n:Nat}{Q:List (List Nat)}(O:iV C Q){x:Cw}{c k:Nat}(hc:c<n)(hk:1≤k∧k≤3):cZ n Q (x.jS Q c k):=
 ⟨λ_=>⟨hc,hk⟩,(λh=>by cases h),(λ_ hp=>⟨adu hp,List.length_pos_of_mem (adu hp)⟩),Ad K O _⟩
theorem Xf{l:List Nat}{p q:Nat}(h:ahd l p=some q):q∈l:=qQ h
theorem cZ.pass{n:Nat}{Q:List (List Nat)}{x:Cw}(h:cZ n Q x):cZ n Q (x.pass Q):=by
 unfold Cw.pass
 split
 ·exact h
 next p hp=>
 have hb:=h.bg hp;obtain⟨h1,h2⟩:=h.nx p hp;refine⟨h.go,λhh=>(by rw[hb]at hh;cases hh),λr hr=> ?_,by have:=h.lf;show x.lf-1≤_;omega⟩;change(if 1<x.lf then _ else none)=some r at hr
 split at hr
 ·next g=>exact⟨Xf hr,by show 1≤x.lf-1;omega⟩
 cases hr
theorem cZ.left{n:Nat}{Q:List (List Nat)}{x:Cw}(h:cZ n Q x)(p:Nat):cZ n Q (x.left Q p):=by
 unfold Cw.left
 split
 ·exact h.pass
 exact h
def vT (q w n:Nat)(dv tv:Value)(C:Cs)(x:Cw):List Value:= [.pointer (some ⟨q,0,none⟩), .pointer (some ⟨w,0,none⟩), .int .i64 (n:Int),dv,tv, .int .i64 x.dn, .bool x.bg, .int .i64 (x.cl:Int), .int .i64 (x.kd:Int), .int .u64 (hO C x.nx:Int), .int .i64 (x.lf:Int)]
def gZ (a q w n:Nat)(dv tv:Value)(C:Cs)(x:Cw):aa:=ag a 177 (vT q w n dv tv C x)
theorem Be{l:List Nat}{p:Nat}(h:p∈l):l.idxOf p<l.length∧l[l.idxOf p]?=some p:=by
 have h1:=List.idxOf_lt_length_of_mem h;exact⟨h1,by rw[List.getElem?_eq_getElem h1,ah4]⟩
theorem zQ (a q w n:Nat)(dv tv:Value)(C:Cs)(x:Cw):
  aH acw 76 [.pointer (some ⟨a,0,none⟩)] (λ_=>True) [gZ a q w n dv tv C x]
   (λv H=>v= .tuple #[]∧H= [gZ a q w n dv tv C x.again]):=by
 unfold gZ vT;refine ae func76 rfl ntmps76 rfl ?_;intro F _;refine bT ?_;refine ay ?_;refine az ?_;refine jM [ag a 177 (vT q w n dv tv C x.again)] results76 ?_;exact⟨rfl,rfl⟩
theorem S8 (a q w n b qb:Nat)(dv tv:Value)(C:Cs)(K:Ok C)(Q:List (List Nat))(O:iV C Q)(x:Cw)(c k:Nat)(hc:c<C.af.length)(hk:1≤k∧k≤3):
  aH acw 145 [.pointer (some ⟨a,0,none⟩), .int .i64 (c:Int), .int .i64 (k:Int)] (hJ (sL q b qb C Q)) [gZ a q w n dv tv C x]
   (λv H=>v= .tuple #[]∧H= [gZ a q w n dv tv C (x.jS Q c k)]):=by
 unfold gZ vT;refine ae func145 rfl ntmps145 rfl ?_;rintro F hq;refine bT ?_;refine aR ?_;refine zl T.Fe (w9 q b qb C K Q O c k hc hk) .nil (λ_ le _=>dt hq le) ?_;refine nj ?_;refine zl T.AD (vf q b qb C K Q O c k hc hk) .nil (λ_ le _=>dt hq le) ?_;refine aZ ?_;refine az ?_;refine jM [ag a 177 (vT q w n dv tv C (x.jS Q c k))] results145 ?_;exact⟨rfl,rfl⟩
theorem Ds (a q w n b qb:Nat)(dv tv:Value)(C:Cs)(K:Ok C)(Q:List (List Nat))(O:iV C Q)(x:Cw)(X:cZ n Q x)(p:Nat)(hp:x.nx=some p):
  aH acw 92 [.pointer (some ⟨a,0,none⟩)] (λh=>In (Cl b C) h∧hJ (sL q b qb C Q) h) [gZ a q w n dv tv C x]
   (λv H=>v= .int .u64 (C.hd p:Int)∧H= [gZ a q w n dv tv C (x.pass Q)]):=by
 obtain⟨h1,h2⟩:=X.nx p hp;have h3:=X.lf;obtain⟨i1,i2⟩:=Be h1;have ED:(ql Q (qi x.cl x.kd))[(ql Q (qi x.cl x.kd)).idxOf p]'i1=p:=ah4 i1;have ah:=JR q b qb C K Q O (qi x.cl x.kd) ((ql Q (qi x.cl x.kd)).idxOf p) i1;rw[ED]at ah;have e1:((x.lf:Int)-1)=((x.lf-1:Nat):Int):=by omega
 have ex:x.pass Q={x with nx:=if 1<x.lf then ahd (ql Q (qi x.cl x.kd)) p else none,lf:=x.lf-1}:=by unfold Cw.pass;rw[hp]
 rw[ex];unfold ahd;by_cases hl:1<x.lf
 ·rw[if_pos hl]
  unfold gZ vT;rw[hp];dsimp only;rw[←e1];refine ae func92 rfl ntmps92 rfl ?_;rintro F ⟨fb,hq⟩;refine bT ?_;refine fF ?_;refine dz ?_;refine bH ?_;refine zl T.abv (ah) .nil (λ_ le _=>⟨In.mono fb le,In.mono hq.1 le⟩) ?_;refine dQ ?_;refine Rt [ag a 177 [.pointer (some ⟨q,0,none⟩), .pointer (some ⟨w,0,none⟩), .int .i64 (n:Int),dv,tv, .int .i64 x.dn, .bool x.bg, .int .i64 (x.cl:Int), .int .i64 (x.kd:Int), .int .u64 (hO C (pv (ql Q (qi x.cl x.kd)) ((ql Q (qi x.cl x.kd)).idxOf p)):Int), .int .i64 ((x.lf:Int)-1)]] results92 ?_;exact⟨rfl,rfl⟩
 rw[if_neg hl];unfold gZ vT;rw[hp];dsimp only;rw[←e1];refine ae func92 rfl ntmps92 rfl ?_;rintro F ⟨fb,hq⟩;refine bT ?_;refine fF ?_;refine cu ?_;refine bH ?_;refine Rt [ag a 177 [.pointer (some ⟨q,0,none⟩), .pointer (some ⟨w,0,none⟩), .int .i64 (n:Int),dv,tv, .int .i64 x.dn, .bool x.bg, .int .i64 (x.cl:Int), .int .i64 (x.kd:Int), .int .u64 0, .int .i64 ((x.lf:Int)-1)]] results92 ?_;exact⟨rfl,rfl⟩
theorem Du (a q w n b qb:Nat)(dv tv:Value)(C:Cs)(K:Ok C)(Q:List (List Nat))(O:iV C Q)(x:Cw)(X:cZ n Q x)(p:Nat)(L:Live C p):
  aH acw 82 [.pointer (some ⟨a,0,none⟩), .int .u64 (C.hd p:Int)] (λh=>In (Cl b C) h∧hJ (sL q b qb C Q) h) [gZ a q w n dv tv C x]
   (λv H=>v= .tuple #[]∧H= [gZ a q w n dv tv C (x.left Q p)]):=by
 obtain⟨m1,m2,m3,m4,m5,m6⟩:=cB K L.toAt;rcases hb:x.bg with _|_
 ·have hx:x.left Q p=x:=by unfold Cw.left;rw[(X.no hb).1,if_neg (by simp)]
  rw[hx];unfold gZ vT;rw[hb];refine ae func82 rfl ntmps82 rfl ?_;rintro F ⟨fb,hq⟩;refine bB ?_;refine zf 8 ?_ (e:=by rfl);refine fF ?_;refine jM [ag a 177 [.pointer (some ⟨q,0,none⟩), .pointer (some ⟨w,0,none⟩), .int .i64 (n:Int),dv,tv, .int .i64 x.dn, .bool false, .int .i64 (x.cl:Int), .int .i64 (x.kd:Int), .int .u64 (hO C x.nx:Int), .int .i64 (x.lf:Int)]] results82 ?_;exact⟨rfl,rfl⟩
 by_cases hp:x.nx=some p
 ·have hx:x.left Q p=x.pass Q:=by unfold Cw.left;rw[if_pos hp]
  rw[hx];have ps:=Ds a q w n b qb dv tv C K Q O x X p hp;unfold gZ vT at ps⊢;rw[hp,hb]at ps;rw[hp,hb];generalize hy:x.pass Q=y at*;refine ae func82 rfl ntmps82 rfl ?_;rintro F ⟨fb,hq⟩;refine bB ?_;refine zt 8 ?_ (e:=by rfl);refine aR ?_;refine zt 12 ?_ (e:=by exact congrArg (!·) (decide_eq_false (by omega)));refine cI ?_;refine dz ?_ (e:=by exact decide_eq_true rfl);refine a8 ?_;refine zl T.Yd (ps) (.cons .here .nil) (λ_ le _=>⟨In.mono fb le,dt hq le⟩) ?_;refine az ?_;refine jM [ag a 177 [.pointer (some ⟨q,0,none⟩), .pointer (some ⟨w,0,none⟩), .int .i64 (n:Int),dv,tv, .int .i64 y.dn, .bool y.bg, .int .i64 (y.cl:Int), .int .i64 (y.kd:Int), .int .u64 (hO C y.nx:Int), .int .i64 (y.lf:Int)]] results82 ?_;exact⟨rfl,rfl⟩
 have hx:x.left Q p=x:=by unfold Cw.left;rw[if_neg hp]
 rw[hx];have ja:¬((C.hd p:Int)=(hO C x.nx:Int)):=λe=>by
  rcases hnx:x.nx with _|r
  ·rw[hnx]at e
   change(C.hd p:Int)=((0:Nat):Int)at e;omega
  have hr:=(X.nx r hnx).1;rw[hnx,cQ]at e;exact hp (by rw[hnx,nu K (O.lv _ r hr).toAt L.toAt (by omega)])
 unfold gZ vT;rw[hb];refine ae func82 rfl ntmps82 rfl ?_;rintro F ⟨fb,hq⟩;refine bB ?_;refine zt 8 ?_ (e:=by rfl);refine aR ?_;refine zt 12 ?_ (e:=by exact congrArg (!·) (decide_eq_false (by omega)));refine cI ?_;refine cu ?_ (e:=by exact decide_eq_false ja);refine ay ?_;refine jM [ag a 177 [.pointer (some ⟨q,0,none⟩), .pointer (some ⟨w,0,none⟩), .int .i64 (n:Int),dv,tv, .int .i64 x.dn, .bool true, .int .i64 (x.cl:Int), .int .i64 (x.kd:Int), .int .u64 (hO C x.nx:Int), .int .i64 (x.lf:Int)]] results82 ?_;exact⟨rfl,rfl⟩
open Go Go.dL Go.Proofs.YtdolmecackmjdaaGreatDoor.Cs
namespace Cw
def MC (n:Nat)(Q:List (List Nat)):Nat→Cw→Bool×Cw
 |0,x=>(false,x)
 |f+1,x=>
  if x.nx≠none then(true,x)
  else if 1<x.kd then MC n Q f (x.jS Q x.cl (x.kd-1))
  else if x.cl+1<n then MC n Q f (x.jS Q (x.cl+1) 3)
  else(false,{x.again with dn:=IntKind.i64.wrap (x.dn+1)})
def ms (n:Nat)(x:Cw):Nat:=(n-x.cl)*3+x.kd
def start (Q:List (List Nat))(x:Cw):Cw:=if x.bg then x else x.jS Q 0 3
def find (n:Nat)(Q:List (List Nat))(x:Cw):Bool×Cw:=MC n Q (3*n+4) (x.start Q)
theorem wL{n:Nat}{Q:List (List Nat)}:∀{f g:Nat} {x:Cw},1≤x.kd→x.ms n<f→x.ms n<g→MC n Q f x=MC n Q g x
 |0,_,_,_,h,_=>absurd h (agH _)
 |_,0,_,_,_,h=>absurd h (agH _)
 |f+1,g+1,x,hk,h1,h2=>by
  unfold MC;by_cases e1:x.nx≠none
  ·rw[if_pos e1,if_pos e1]
  rw[if_neg e1,if_neg e1];unfold ms at h1 h2;by_cases e2:1<x.kd
  ·rw[if_pos e2,if_pos e2]
   exact wL (by show 1≤x.kd-1;omega) (by unfold ms jS;dsimp only;omega) (by unfold ms jS;dsimp only;omega)
  rw[if_neg e2,if_neg e2];by_cases e3:x.cl+1<n
  ·rw[if_pos e3,if_pos e3]
   exact wL (by show 1≤3;omega) (by unfold ms jS;dsimp only;omega) (by unfold ms jS;dsimp only;omega)
  rw[if_neg e3,if_neg e3]
end Cw
theorem S7 (a q w b qb:Nat)(dv tv:Value)(C:Cs)(K:Ok C)(Q:List (List Nat))(O:iV C Q)(x:Cw)(X:cZ C.af.length Q x):
  aH acw 91 [.pointer (some ⟨a,0,none⟩)] (hJ (sL q b qb C Q)) [gZ a q w C.af.length dv tv C x]
   (λv H=>∃r y,v= .bool r∧H= [gZ a q w C.af.length dv tv C y]∧x.find C.af.length Q=(r,y)∧cZ C.af.length Q y∧(r=true→y.nx≠none)):=by
 have n0:=K.toFix.l0;have n1:=K.toFix.l1;have D1:cZ C.af.length Q (x.start Q)∧(x.start Q).bg=true:=by
  unfold Cw.start
  split
  ·next h=>exact⟨X,h⟩
  exact⟨cZ.jS K O (by omega) (by omega),rfl⟩
 have hR:x.find C.af.length Q=Cw.MC C.af.length Q (3*C.af.length+4) (x.start Q):=rfl;generalize hr:x.find C.af.length Q=R at*;have hfu:∀f,(x.start Q).ms C.af.length<f→Cw.MC C.af.length Q f (x.start Q)=R:=λf hf=>by
  rw[hR];have h2:=D1.1.go D1.2;exact Cw.wL h2.2.1 hf (by unfold Cw.ms;omega)
 have hlen:∀z:Cw,z.cl<C.af.length→1≤z.kd→z.kd≤3→z.nx=none→z.ms C.af.length≤3*C.af.length+3:=λz h1 h2 h3 _=>by unfold Cw.ms;omega
 have jS:=λ(z:Cw) (c k:Nat) (hc:c<C.af.length) (hk:1≤k∧k≤3)=>S8 a q w C.af.length b qb dv tv C K Q O z c k hc hk;have PM:=λ(z:Cw) (c k:Nat) (hc:c<C.af.length) (hk:1≤k∧k≤3)=>cZ.jS K O (x:=z) hc hk;generalize hn:C.af.length=n at*;unfold gZ vT at*;refine ae func91 rfl ntmps91 rfl ?_;intro F hq;refine bK ?_;refine cg (ι:=Cw) [8,9] (λz=>z=x.start Q) (λz=> []) (λz=> [ag a 177 [.pointer (some ⟨q,0,none⟩), .pointer (some ⟨w,0,none⟩), .int .i64 (n:Int),dv,tv, .int .i64 z.dn, .bool z.bg, .int .i64 (z.cl:Int), .int .i64 (z.kd:Int), .int .u64 (hO C z.nx:Int), .int .i64 (z.lf:Int)]]) ?_ ?_
 ·refine av rfl ?_ ?_
  ·intro hb
   replace hb:=aD hb;refine a8 ?_;refine zl T.Fl (jS x 0 3 (by omega) (by omega)) (.cons .here .nil) (λ_ le _=>dt hq le) ?_;refine az ?_;refine Me ((x.jS Q 0 3)) ((by unfold Cw.start;rw[if_neg (by simp[hb])]))
  intro hb;replace hb:=aD hb;refine ay ?_;refine Me (x) ((by unfold Cw.start;rw[if_pos hb]))
 rintro z hz;subst hz;generalize x.start Q=s0 at*;refine a8 ?_;refine Lo (ι:=Cw) [10,11,12,13,14,25,26,27,28,29,24,30,31,32,33,34,35,36,37,38,39,40,42,43,44,45,46,47,48,49,50,51,41,52,53,54,55,56,57,58,15,16,17,18,19,20,21,22,23,2] (λz=>(cZ n Q z∧z.bg=true)∧∀f,z.ms n<f→Cw.MC n Q f z=R) (λz=> []) (λz=> [ag a 177 [.pointer (some ⟨q,0,none⟩), .pointer (some ⟨w,0,none⟩), .int .i64 (n:Int),dv,tv, .int .i64 z.dn, .bool z.bg, .int .i64 (z.cl:Int), .int .i64 (z.kd:Int), .int .u64 (hO C z.nx:Int), .int .i64 (z.lf:Int)]]) (λz=>z.ms n) (s0) ⟨D1,hfu⟩ ?_;rintro z hI;dsimp only at hI⊢;obtain⟨⟨Z,zb⟩,hf⟩:=hI;obtain⟨g1,g2,g3⟩:=Z.go zb;have TS:=hf (z.ms n+1) (Nat.lt_succ_self _);unfold Cw.MC at TS;rcases hz:z.nx with _|p
 ·rw[hz,if_neg (by simp)]at TS
  refine cN ?_;by_cases h1:1<z.kd
  ·refine Ay ?_
   refine bK ?_;refine dz ?_;refine gK 10 T.mix (.cons .here .nil) λF1 iT cj aI=> ?_;obtain⟨q1,_⟩:=cj;refine bw ?_;refine gd aI ?_;have ek:((z.kd:Int)-1)=((z.kd-1:Nat):Int):=by omega
   rw[ek];refine Tp (oC T.Fl rfl rfl ((by have h:=jS z z.cl (z.kd-1) g1 (by omega);rw[hz]at h;exact h)) (.cons .here .nil) (λ_ le _=>dt hq le) ?_);rintro v H' ⟨rfl,rfl⟩;refine bd ?_;refine aZ ?_;refine Ro ((z.jS Q z.cl (z.kd-1))) (⟨⟨PM z z.cl (z.kd-1) g1 (by omega),rfl⟩,λf Et=>(by rw[if_pos h1]at TS;exact(Cw.wL (by show 1≤z.kd-1;omega) Et (by unfold Cw.ms Cw.jS;dsimp only;omega)).trans TS)⟩) ((by unfold Cw.ms Cw.jS;dsimp only;omega))
  refine Ay ?_;refine bK ?_;refine cu ?_;by_cases h2:z.cl+1<n
  ·refine au ?_
   refine gK 10 T.mix (.cons .here .nil) λF2 yi ez dX=> ?_;obtain⟨q1,_⟩:=ez;refine bw ?_;refine gd dX ?_;refine a8 ?_;refine dz ?_;refine bH ?_;refine zl T.Fl ((by have h:=jS z (z.cl+1) 3 h2 (by omega);rw[hz]at h;exact h)) (.cons .here .nil) (λ_ le _=>dt hq le) ?_;refine aZ ?_;refine Ro ((z.jS Q (z.cl+1) 3)) (⟨⟨PM z (z.cl+1) 3 h2 (by omega),rfl⟩,λf Et=>(by rw[if_neg h1,if_pos h2]at TS;exact(Cw.wL (by show 1≤3;omega) Et (by unfold Cw.ms Cw.jS;dsimp only;omega)).trans TS)⟩) ((by unfold Cw.ms Cw.jS;dsimp only;omega))
  refine au ?_;refine gK 10 T.mix (.cons .here .nil) λF3 MN qH fM=> ?_;obtain⟨q1,_⟩:=qH;refine bw ?_;refine gd fM ?_;refine a8 ?_;refine cu ?_;refine a8 ?_;refine zl T.Yj ((by have h:=zQ a q w n dv tv C z;unfold gZ vT at h;rw[hz]at h;exact h)) (.cons .here .nil) (λ_ _ _=>trivial) ?_;unfold Cw.again;refine bT ?_;rw[if_neg h1,if_neg h2]at TS;refine Rt [ag a 177 [.pointer (some ⟨q,0,none⟩), .pointer (some ⟨w,0,none⟩), .int .i64 (n:Int),dv,tv, .int .i64 (IntKind.i64.wrap (z.dn+1)), .bool false, .int .i64 0, .int .i64 0, .int .u64 0, .int .i64 0]] results91 ?_;refine⟨false,{z.again with dn:=IntKind.i64.wrap (z.dn+1)},rfl,rfl,TS.symm,⟨(λh=>by cases h),λ_=>⟨rfl,rfl,rfl,rfl⟩,(λ_ h=>by cases h),Nat.zero_le _⟩,(λh=>by cases h)⟩
 rw[hz,if_pos (by simp)]at TS;have hp:=(Z.nx p hz).1;obtain⟨m1,m2,m3,m4,m5,m6⟩:=cB K (O.lv _ p hp).toAt;rw[cQ];refine cI ?_;refine cu ?_;refine cN ?_;refine Rt [ag a 177 [.pointer (some ⟨q,0,none⟩), .pointer (some ⟨w,0,none⟩), .int .i64 (n:Int),dv,tv, .int .i64 z.dn, .bool z.bg, .int .i64 (z.cl:Int), .int .i64 (z.kd:Int), .int .u64 (C.hd p:Int), .int .i64 (z.lf:Int)]] results91 ?_;exact⟨true,z,rfl,by rw[hz,cQ],TS.symm,Z,λ_=>by rw[hz];simp⟩
end Go.Proofs.YtdolmecackmjdaaGreatDoor
