/- Part Pj of the proof. -/
import Derived.Test.YtdolmecackmjdaaGreatDoorPd
import Derived.Test.YtdolmecackmjdaaGreatDoorPh
set_option maxRecDepth 100000
open Nat renaming mul_le_mul_left → aff, not_lt_zero → aev
open List renaming mem_of_getLast? → ads, getElem_idxOf → afg
open Go.Proofs.Tryz renaming prog → aaa
open Go.Proofs.Tryz
namespace Go.Proofs.YtdolmecackmjdaaGreatDoor
open Go Go.cV Go.Proofs.YtdolmecackmjdaaGreatDoor.Cs
def cM (A:By)(p:Nat):Nat:=rd A (p+46) 1
def GM (A:By)(p:Nat):Bool:=decide (cM A p % 2=1)
def mkSet (m:Nat)(on:Bool):Nat:=m/2*2+(if on then 1 else 0)
def sN (A:By)(p:Nat)(on:Bool):By:=wr A (p+46) 1 (mkSet (cM A p) on)
theorem Qc:∀m:Nat,m<16→fX .and .i64 (m:Int) 1=some ((m % 2:Nat):Int):=by decide+kernel
theorem Qb:∀m:Nat,m<16→fX .andNot .i64 (m:Int) 1=some ((m/2*2:Nat):Int):=by decide+kernel
theorem Ug:∀m:Nat,m<16→fX .or .i64 ((m/2*2:Nat):Int) 1=some ((m/2*2+1:Nat):Int):=by decide+kernel
def JQ (b q hot warm:Nat):List Value:= [.pointer (some ⟨b,0,none⟩), .pointer (some ⟨q,0,none⟩), .int .i64 (hot:Int), .int .i64 (warm:Int)]
def iW (a b q hot warm:Nat):aa:=ag a 141 (JQ b q hot warm)
theorem v7 (a b q hot warm:Nat)(C:Cs)(K:Ok C)(p:Nat)(L:Live C p)(hk:kl C.A p≠0)(hm:cM C.A p<16):
  aF aaa 196 [.pointer (some ⟨a,0,none⟩), .int .u64 (C.hd p:Int)] (λh=>In (Cl b C) h∧In (iW a b q hot warm) h) []
   (λv H=>v= .bool (GM C.A p)∧H= []):=by
 have ha:=Qc _ hm
 unfold iW JQ GM
 unfold cM at*
 refine af func196 rfl ntmps196 rfl ?_
 rintro F ⟨hc,hl⟩
 refine dg ?_
 refine zl T.yG (nT b C K p L hk) .nil (λ_ le _=>In.mono hc le) ?_
 refine bA ?_
 refine zt 18 ?_ (e:=by rfl)
 refine bf ?_
 refine ay (t:=20) (v':=(.int .i64 ((rd C.A (p+46) 1 % 2:Nat):Int))) rfl (by exact congrArg (λx=>Value.int .i64 (x.getD 0)) ha) ?_
 refine br ?_
 refine Rt [] results196 ?_
 refine⟨?_,rfl⟩
 by_cases h:rd C.A (p+46) 1 % 2=1
 ·rw[h];rfl
 rw[show rd C.A (p+46) 1 % 2=0 by omega];rfl
theorem vp (a b q hot warm:Nat)(C:Cs)(K:Ok C)(p:Nat)(L:Live C p)(hk:kl C.A p≠0)(hm:cM C.A p<16)(on:Bool):
  aF aaa 198 [.pointer (some ⟨a,0,none⟩), .int .u64 (C.hd p:Int), .bool on] (In (iW a b q hot warm)) [Cl b C]
   (λv H=>v= .tuple #[]∧H= [Cl b (C.wA (sN C.A p on))]):=by
 have ha:=Qb _ hm
 have hb:=Ug _ hm
 unfold iW JQ sN mkSet
 unfold cM at*
 refine af func198 rfl ntmps198 rfl ?_
 rintro F hl
 refine bD ?_
 refine zl T.yG (nT b C K p L hk) .nil (λ_ le aq=>aq.1) ?_
 refine bW ?_
 refine bq ?_
 refine ay (t:=6) (v':=(.int .i64 ((rd C.A (p+46) 1/2*2:Nat):Int))) rfl (by exact congrArg (λx=>Value.int .i64 (x.getD 0)) ha) ?_
 rcases on with _|_
 ·refine dm ?_ (e:=by rfl)
  refine dg ?_
  refine zl T.yF (js b C K p (rd C.A (p+46) 1/2*2) (by omega) L hk) (.cons .here .nil) (λ_ _ _=>trivial) ?_
  refine aG ?_
  refine jA [Cl b (C.wA (wr C.A (p+46) 1 (rd C.A (p+46) 1/2*2+0)))] results198 ?_
  exact⟨rfl,rfl⟩
 refine fB ?_ (e:=by rfl)
 refine br ?_
 refine ay (t:=6) (v':=(.int .i64 ((rd C.A (p+46) 1/2*2+1:Nat):Int))) rfl (by exact congrArg (λx=>Value.int .i64 (x.getD 0)) hb) ?_
 refine bL ?_
 refine zl T.yF (js b C K p (rd C.A (p+46) 1/2*2+1) (by omega) L hk) (.cons .here .nil) (λ_ _ _=>trivial) ?_
 refine aG ?_
 refine jA [Cl b (C.wA (wr C.A (p+46) 1 (rd C.A (p+46) 1/2*2+1)))] results198 ?_
 exact⟨rfl,rfl⟩
def SM (p:Nat)(q o:Nat):Prop:=o=46∧q=p
def SL (p:Nat)(q o:Nat):Prop:=4≤o∧o<12∨(o=45∨o=46)∧q=p
theorem jP{m:Nat}(h:m<16)(on:Bool):mkSet m on<16:=by
 unfold mkSet
 split<;>omega
theorem Rg{C:Cs}(K:Ok C)(A:By){p:Nat}(L:Live C p)(on:Bool):cI C A (sN A p on) (SM p):=
 uh A L.toAt (by have:=(L.toAt.aX K).2.1;omega) λj h1 h2=>⟨by omega,rfl⟩
theorem ER{C:Cs}(K:Ok C)(A:By){p x:Nat}(L:Live C p)(X:Live C x)(on:Bool):cM (sN A p on) x=if x=p then mkSet (cM A p) on % 256 else cM A x:=by
 unfold cM sN
 split
 ·next e=>rw[e,cG];rfl
 next e=>exact jJ (C:=C.wA A) (K.wA A) (X.wA A).toAt (L.wA A).toAt (a:=46) (n:=1) (o:=46) (w:=1) (by have:=(L.toAt.aX K).2.1;show _≤C.sz (C.cl p);omega) (by have:=(X.toAt.aX K).2.1;show _≤C.sz (C.cl x);omega) (λg=>absurd g e)
theorem SM.p7{p q o:Nat}(h:SM p q o):k7 o:=by
 unfold SM at h
 unfold k7
 omega
theorem Tu (a b q hot warm:Nat)(C:Cs)(K:Ok C)(p:Nat)(L:Live C p)(hk:kl C.A p≠0)(hm:cM C.A p<16)(hs:1≤ij C.A p∧ij C.A p≤3):
  aF aaa 171 [.pointer (some ⟨a,0,none⟩), .int .u64 (C.hd p:Int)] (In (iW a b q hot warm)) [Cl b C]
   (λv H=>v= .int .i64 0∧H= [Cl b (C.wA (sN C.A p true))]):=by
 have hm2:=hm
 unfold ij at*
 refine af func171 rfl ntmps171 rfl ?_
 rintro F s9
 have hl:=s9
 unfold iW JQ at hl
 refine dg ?_
 refine zl T.Dh (rQ b C K p L hk) .nil (λ_ le aq=>aq.1) ?_
 refine bI ?_
 refine zf 18 ?_ (e:=by rfl)
 refine aW ?_
 refine zf 22 ?_
 refine aW ?_
 refine dm ?_
 refine br ?_
 refine zl T.De (vp a b q hot warm C K p L hk hm true) (.cons .here .nil) (λ_ le aq=>In.mono s9 le) ?_
 refine br ?_
 refine Rt [Cl b (C.wA (sN C.A p true))] results171 ?_
 exact⟨rfl,rfl⟩
theorem FX (a q b qb hot warm:Nat)(C:Cs)(K:Ok C)(Q:List (List Nat))(O:hZ C Q)(c:Nat)(hc:c<C.ae.length):
  aF aaa 257 [.pointer (some ⟨a,0,none⟩), .int .i64 (c:Int)] (λh=>In (iW a b q hot warm) h∧gw (qO q b qb C Q) h) []
   (λv H=>v= .tuple #[.int .i64 ((ql Q (qi c 1)).length:Int), .int .i64 ((ql Q (qi c 2)).length:Int), .int .i64 ((ql Q (qi c 3)).length:Int)]∧H= []):=by
 refine af func257 rfl ntmps257 rfl ?_
 rintro F ⟨hl,hq⟩
 unfold iW JQ at hl
 refine br ?_
 refine aw ?_
 refine gT true T.mix ?_
 refine br ?_
 refine Tp (oC T.yD rfl rfl (tA q b qb C K Q O c 1 hc (by omega)) .nil (λ_ le _=>cF hq le) ?_)
 rintro v H' ⟨rfl,rfl⟩
 refine bd ?_
 refine br ?_
 refine Tp (oC T.yD rfl rfl (tA q b qb C K Q O c 2 hc (by omega)) .nil (λ_ le _=>cF hq le) ?_)
 rintro v H' ⟨rfl,rfl⟩
 refine bd ?_
 refine br ?_
 refine Tp (oC T.yD rfl rfl (tA q b qb C K Q O c 3 hc (by omega)) .nil (λ_ le _=>cF hq le) ?_)
 rintro v H' ⟨rfl,rfl⟩
 refine bd ?_
 refine br ?_
 refine Rt3 [] results257 ?_
 exact⟨rfl,rfl⟩
def mB (Q:List (List Nat))(c s share:Nat):Bool:=decide (((ql Q (qi c 1)).length+(ql Q (qi c 2)).length+(ql Q (qi c 3)).length)*share<100*(ql Q (qi c s)).length)
theorem BN (a q b qb hot warm:Nat)(C:Cs)(K:Ok C)(Q:List (List Nat))(O:hZ C Q)(c:Nat)(hc:c<C.ae.length)(hh:hot≤100):
  aF aaa 236 [.pointer (some ⟨a,0,none⟩), .int .i64 (c:Int)] (λh=>In (iW a b q hot warm) h∧gw (qO q b qb C Q) h) []
   (λv H=>v= .bool (mB Q c 1 hot)∧H= []):=by
 have n1:=yb K O (qi c 1)
 have n2:=yb K O (qi c 2)
 have n3:=yb K O (qi c 3)
 unfold mB
 refine af func236 rfl ntmps236 rfl ?_
 rintro F ⟨s9,hq⟩
 have hl:=s9
 unfold iW JQ at hl
 refine bD ?_
 refine zl T.LZ (FX a q b qb hot warm C K Q O c hc) .nil (λ_ le _=>⟨In.mono s9 le,cF hq le⟩) ?_
 generalize (ql Q (qi c 1)).length=x at*
 generalize (ql Q (qi c 2)).length=y at*
 generalize (ql Q (qi c 3)).length=z at*
 have hmul:(x+y+z)*hot≤(x+y+z)*100:=aff _ hh
 have e:((x:Int)+(y:Int)+(z:Int))*(hot:Int)=(((x+y+z)*hot:Nat):Int):=by push_cast;rfl
 generalize ((x+y+z)*hot)=m at*
 refine bW ?_
 refine aA ?_
 refine ay (t:=26) (v':=(.int .i64 (m:Int))) rfl (by exact congrArg (Value.int .i64) e) ?_
 refine aW ?_
 refine Rt [] results236 ?_
 refine⟨congrArg Value.bool (decide_eq_decide.2 ?_),rfl⟩
 omega
theorem zp (a q b qb hot warm:Nat)(C:Cs)(K:Ok C)(Q:List (List Nat))(O:hZ C Q)(c:Nat)(hc:c<C.ae.length)(hh:warm≤100):
  aF aaa 237 [.pointer (some ⟨a,0,none⟩), .int .i64 (c:Int)] (λh=>In (iW a b q hot warm) h∧gw (qO q b qb C Q) h) []
   (λv H=>v= .bool (mB Q c 2 warm)∧H= []):=by
 have n1:=yb K O (qi c 1)
 have n2:=yb K O (qi c 2)
 have n3:=yb K O (qi c 3)
 unfold mB
 refine af func237 rfl ntmps237 rfl ?_
 rintro F ⟨s9,hq⟩
 have hl:=s9
 unfold iW JQ at hl
 refine bD ?_
 refine zl T.LZ (FX a q b qb hot warm C K Q O c hc) .nil (λ_ le _=>⟨In.mono s9 le,cF hq le⟩) ?_
 generalize (ql Q (qi c 1)).length=x at*
 generalize (ql Q (qi c 2)).length=y at*
 generalize (ql Q (qi c 3)).length=z at*
 have hmul:(x+y+z)*warm≤(x+y+z)*100:=aff _ hh
 have e:((x:Int)+(y:Int)+(z:Int))*(warm:Int)=(((x+y+z)*warm:Nat):Int):=by push_cast;rfl
 generalize ((x+y+z)*warm)=m at*
 refine bW ?_
 refine aA ?_
 refine ay (t:=26) (v':=(.int .i64 (m:Int))) rfl (by exact congrArg (Value.int .i64) e) ?_
 refine aW ?_
 refine Rt [] results237 ?_
 refine⟨congrArg Value.bool (decide_eq_decide.2 ?_),rfl⟩
 omega
def MkQ (C:Cs)(Q:List (List Nat)):Prop:=∀i,∀p∈ql Q i,cM C.A p<16
structure K6 (C:Cs)(p:Nat)(A:By)(Q:List (List Nat)):Prop where
 o:hZ (C.wA A) Q
 d:cI C C.A A (SL p)
 mr:cM A p=mkSet (cM C.A p) false
theorem y6{C:Cs}(K:Ok C){A B:By}{S:Nat→Nat→Prop}(d:cI C A B S){x:Nat}(X:Live C x)(h:¬S x 46):cM B x=cM A x:=
 ke K d X.toAt (by have:=(X.toAt.aX K).2.1;omega) λj h1 h2 s=>h (by rwa[show j=46 by omega]at s)
theorem UO{C:Cs}(K:Ok C){Q:List (List Nat)}(O:hZ C Q){p:Nat}(L:Live C p)(on:Bool):hZ (C.wA (sN C.A p on)) Q:=
 Ko K O (Rg K C.A L on) λi x hx j s=>⟨s.p7,by unfold SM at s;omega,by unfold SM at s;omega⟩
theorem xF (a q b qb hot warm:Nat)(C:Cs)(K:Ok C)(Q:List (List Nat))(O:hZ C Q)(p:Nat)(P:gv C (some p))(hm:cM C.A p<16)(hn:¬(1≤ij C.A p∧ij C.A p≤3)):
  aF aaa 184 [.pointer (some ⟨a,0,none⟩), .int .u64 (C.hd p:Int)] (In (iW a b q hot warm)) (Cl b C::qO q b qb C Q)
   (λv H=>v= .int .i64 0∧∃A,H=Cl b (C.wA A)::qO q b qb (C.wA A) (Q.set (qi (C.cl p) 1) (p::ql Q (qi (C.cl p) 1)))∧K6 C p A (Q.set (qi (C.cl p) 1) (p::ql Q (qi (C.cl p) 1)))):=by
 have L:=(P p rfl).1
 unfold qO
 refine af func184 rfl ntmps184 rfl ?_
 rintro F s9
 have hl:=s9
 unfold iW JQ at hl
 refine dg ?_
 refine Lp (oC T.L7 rfl rfl (AK q b qb C K Q O p 1 (by omega) P hn) (.cons .here (.cons .here (.cons .here .nil))) (λ_ _ _=>trivial) ?_)
 rintro v H' ⟨rfl,A,rfl,E⟩
 refine bd ?_
 have VW:cM A p=cM C.A p:=y6 K E.d L (by unfold SQ;omega)
 have P2:gv (C.wA A) (some p):=sg K E.d P (λ_ _ j s=>s.p7)
 refine bI ?_
 refine zl T.De (vp a b q hot warm (C.wA A) (K.wA A) p (P2 p rfl).1 (P2.kl p rfl) (by rw[cg,VW];exact hm) false) (.cons .here .nil) (λ_ le aq=>In.mono s9 le) ?_
 refine bD ?_
 refine Rt [Cl b (C.wA (sN A p false)),ag q 139 (fj b qb C.ae.length),ag qb 327 ((Q.set (qi (C.cl p) 1) (p::ql Q (qi (C.cl p) 1))).flatMap (dR C))] results184 ?_
 refine⟨rfl,sN A p false,rfl,UO (K.wA A) E.o (P2 p rfl).1 false,(E.d.mono λq o s=> ?_).trans ((Rg (K.wA A) A (P2 p rfl).1 false).wA.mono λq o s=> ?_), ?_⟩
 ·unfold SQ at s;unfold SL;omega
 ·unfold SM at s;unfold SL;omega
 rw[ER K A L L,if_pos rfl,VW]
 have:=jP hm false
 omega
theorem HS (a q b qb hot warm:Nat)(C:Cs)(K:Ok C)(Q:List (List Nat))(O:hZ C Q)(i k p:Nat)(hk:(ql Q i)[k]?=some p):
  aF aaa 153 [.pointer (some ⟨a,0,none⟩), .int .u64 (C.hd p:Int)] (In (iW a b q hot warm)) (Cl b C::qO q b qb C Q)
   (λv H=>v= .int .i64 0∧∃A,H=Cl b (C.wA A)::qO q b qb (C.wA A) (Q.set i ((ql Q i).eraseIdx k))∧M8 C p A (Q.set i ((ql Q i).eraseIdx k))):=by
 unfold qO
 refine af func153 rfl ntmps153 rfl ?_
 rintro F hl
 unfold iW JQ at hl
 refine dg ?_
 refine Lp (oC T.Mu rfl rfl (AL q b qb C K Q O i k p hk) (.cons .here (.cons .here (.cons .here .nil))) (λ_ _ _=>trivial) ?_)
 rintro v H' ⟨rfl,A,rfl,E⟩
 refine bd ?_
 refine bq ?_
 refine Rt [Cl b (C.wA A),ag q 139 (fj b qb C.ae.length),ag qb 327 ((Q.set i ((ql Q i).eraseIdx k)).flatMap (dR C))] results153 ?_
 exact⟨rfl,A,rfl,E⟩
def uE (C:Cs)(Q:List (List Nat))(c:Nat):Bool:=match(ql Q (qi c 3)).getLast? with
 |none=>false
 |some p=>GM C.A p
theorem OH (a q b qb hot warm:Nat)(C:Cs)(K:Ok C)(Q:List (List Nat))(O:hZ C Q)(M:MkQ C Q)(c:Nat)(hc:c<C.ae.length):
  aF aaa 238 [.pointer (some ⟨a,0,none⟩), .int .i64 (c:Int)] (λh=>In (Cl b C) h∧In (iW a b q hot warm) h∧gw (qO q b qb C Q) h) []
   (λv H=>v= .bool (uE C Q c)∧H= []):=by
 have hp:=λx (h:(ql Q (qi c 3)).getLast?=some x)=>ads h
 unfold uE
 refine af func238 rfl ntmps238 rfl ?_
 rintro F ⟨fx,s9,hq⟩
 have hl:=s9
 unfold iW JQ at hl
 refine dg ?_
 refine zl T.Df (vd q b qb C K Q O c 3 hc (by omega)) .nil (λ_ le _=>cF hq le) ?_
 rcases hg:(ql Q (qi c 3)).getLast? with _|p
 ·refine Li Mv ?_
  refine dh ?_
  refine zf 17 ?_ (e:=by rfl)
  refine bL ?_
  refine Rt [] results238 ?_
  exact⟨rfl,rfl⟩
 have wS:=hp p hg
 refine dg ?_
 refine zt 17 ?_ (e:=by rfl)
 refine bf ?_
 refine zl T.Mk (v7 a b q hot warm C K p (O.lv _ p wS) (O.it _ p wS).k0 (M _ p wS)) .nil (λ_ le _=>⟨In.mono fx le,In.mono s9 le⟩) ?_
 refine aW ?_
 refine Rt [] results238 ?_
 exact⟨rfl,rfl⟩
def ruC:List Value:= [.int .i64 1, .func (.func 236) #[] #[], .int .i64 2, .func (.func 237) #[] #[], .int .i64 3, .func (.func 238) #[] #[]]
theorem NT:aF aaa 194 [] (λ_=>True) [] (λv H=>v=Value.agg ruC.toArray∧H= []):=by
 refine af func194 rfl ntmps194 rfl ?_
 intro F _
 refine aA ?_
 refine Lp (oA T.K8 λb1=> ?_)
 refine br ?_
 refine Li (Bda T.K8 T.ZA) ?_
 refine bq ?_
 refine Hh (H':= [ag b1 280 ruC]) ?_
 refine EM [] T.MZ results194 ?_
 exact⟨rfl,rfl⟩
structure Cw where
 dn:Int
 bg:Bool
 cl:Nat
 kd:Nat
 nx:Option Nat
 lf:Nat
def Z0 (l:List Nat)(p:Nat):Option Nat:=pv l (l.idxOf p)
namespace Cw
def ja (Q:List (List Nat))(x:Cw)(c k:Nat):Cw:={x with bg:=true,cl:=c,kd:=k,nx:=(ql Q (qi c k)).getLast?,lf:=(ql Q (qi c k)).length}
def pass (Q:List (List Nat))(x:Cw):Cw:=match x.nx with
 |none=>x
 |some p=>{x with nx:=if 1<x.lf then Z0 (ql Q (qi x.cl x.kd)) p else none,lf:=x.lf-1}
def left (Q:List (List Nat))(x:Cw)(p:Nat):Cw:=if x.nx=some p then x.pass Q else x
def w7 (x:Cw)(p r:Nat):Cw:=if x.nx=some p then{x with nx:=some r}else x
def again (x:Cw):Cw:={x with bg:=false,cl:=0,kd:=0,nx:=none,lf:=0}
end Cw
structure cn (n:Nat)(Q:List (List Nat))(x:Cw):Prop where
 go:x.bg=true→x.cl<n∧1≤x.kd∧x.kd≤3
 no:x.bg=false→x.nx=none∧x.cl=0∧x.kd=0∧x.lf=0
 nx:∀p,x.nx=some p→p∈ql Q (qi x.cl x.kd)∧1≤x.lf
 lf:x.lf≤1073741824
theorem cn.bg{n:Nat}{Q:List (List Nat)}{x:Cw}(h:cn n Q x){p:Nat}(e:x.nx=some p):x.bg=true:=by
 rcases hb:x.bg with _|_
 ·rw[(h.no hb).1]at e;cases e
 rfl
theorem cn.ja{C:Cs}(K:Ok C){n:Nat}{Q:List (List Nat)}(O:hZ C Q){x:Cw}{c k:Nat}(hc:c<n)(hk:1≤k∧k≤3):cn n Q (x.ja Q c k):=
 ⟨λ_=>⟨hc,hk⟩,(λh=>by cases h),(λ_ hp=>⟨ads hp,List.length_pos_of_mem (ads hp)⟩),yb K O _⟩
theorem Ul{l:List Nat}{p q:Nat}(h:Z0 l p=some q):q∈l:=o5 h
theorem cn.pass{n:Nat}{Q:List (List Nat)}{x:Cw}(h:cn n Q x):cn n Q (x.pass Q):=by
 unfold Cw.pass
 split
 ·exact h
 next p hp=>
 have hb:=h.bg hp
 obtain⟨h1,h2⟩:=h.nx p hp
 refine⟨h.go,λhh=>(by rw[hb]at hh;cases hh),λr hr=> ?_,by have:=h.lf;show x.lf-1≤_;omega⟩
 change(if 1<x.lf then _ else none)=some r at hr
 split at hr
 ·next g=>exact⟨Ul hr,by show 1≤x.lf-1;omega⟩
 cases hr
theorem cn.left{n:Nat}{Q:List (List Nat)}{x:Cw}(h:cn n Q x)(p:Nat):cn n Q (x.left Q p):=by
 unfold Cw.left
 split
 ·exact h.pass
 exact h
def ue (q w n:Nat)(dv tv:Value)(C:Cs)(x:Cw):List Value:= [.pointer (some ⟨q,0,none⟩), .pointer (some ⟨w,0,none⟩), .int .i64 (n:Int),dv,tv, .int .i64 x.dn, .bool x.bg, .int .i64 (x.cl:Int), .int .i64 (x.kd:Int), .int .u64 (hO C x.nx:Int), .int .i64 (x.lf:Int)]
def gu (a q w n:Nat)(dv tv:Value)(C:Cs)(x:Cw):aa:=ag a 177 (ue q w n dv tv C x)
theorem zc{l:List Nat}{p:Nat}(h:p∈l):l.idxOf p<l.length∧l[l.idxOf p]?=some p:=by
 have h1:=List.idxOf_lt_length_of_mem h
 exact⟨h1,by rw[List.getElem?_eq_getElem h1,afg]⟩
theorem xW (a q w n:Nat)(dv tv:Value)(C:Cs)(x:Cw):
  aF aaa 76 [.pointer (some ⟨a,0,none⟩)] (λ_=>True) [gu a q w n dv tv C x]
   (λv H=>v= .tuple #[]∧H= [gu a q w n dv tv C x.again]):=by
 unfold gu ue
 refine af func76 rfl ntmps76 rfl ?_
 intro F _
 refine bW ?_
 refine aA ?_
 refine aG ?_
 refine jA [ag a 177 (ue q w n dv tv C x.again)] results76 ?_
 exact⟨rfl,rfl⟩
theorem P6 (a q w n b qb:Nat)(dv tv:Value)(C:Cs)(K:Ok C)(Q:List (List Nat))(O:hZ C Q)(x:Cw)(c k:Nat)(hc:c<C.ae.length)(hk:1≤k∧k≤3):
  aF aaa 145 [.pointer (some ⟨a,0,none⟩), .int .i64 (c:Int), .int .i64 (k:Int)] (gw (qO q b qb C Q)) [gu a q w n dv tv C x]
   (λv H=>v= .tuple #[]∧H= [gu a q w n dv tv C (x.ja Q c k)]):=by
 unfold gu ue
 refine af func145 rfl ntmps145 rfl ?_
 rintro F hq
 refine bW ?_
 refine aW ?_
 refine zl T.Df (vd q b qb C K Q O c k hc hk) .nil (λ_ le _=>cF hq le) ?_
 refine oc ?_
 refine zl T.yD (tA q b qb C K Q O c k hc hk) .nil (λ_ le _=>cF hq le) ?_
 refine bq ?_
 refine aG ?_
 refine jA [ag a 177 (ue q w n dv tv C (x.ja Q c k))] results145 ?_
 exact⟨rfl,rfl⟩
theorem Bu (a q w n b qb:Nat)(dv tv:Value)(C:Cs)(K:Ok C)(Q:List (List Nat))(O:hZ C Q)(x:Cw)(X:cn n Q x)(p:Nat)(hp:x.nx=some p):
  aF aaa 92 [.pointer (some ⟨a,0,none⟩)] (λh=>In (Cl b C) h∧gw (qO q b qb C Q) h) [gu a q w n dv tv C x]
   (λv H=>v= .int .u64 (C.hd p:Int)∧H= [gu a q w n dv tv C (x.pass Q)]):=by
 obtain⟨h1,h2⟩:=X.nx p hp
 have h3:=X.lf
 obtain⟨i1,i2⟩:=zc h1
 have Wf:(ql Q (qi x.cl x.kd))[(ql Q (qi x.cl x.kd)).idxOf p]'i1=p:=afg i1
 have ah:=HE q b qb C K Q O (qi x.cl x.kd) ((ql Q (qi x.cl x.kd)).idxOf p) i1
 rw[Wf]at ah
 have e1:((x.lf:Int)-1)=((x.lf-1:Nat):Int):=by omega
 have ex:x.pass Q={x with nx:=if 1<x.lf then Z0 (ql Q (qi x.cl x.kd)) p else none,lf:=x.lf-1}:=by unfold Cw.pass;rw[hp]
 rw[ex]
 unfold Z0
 by_cases hl:1<x.lf
 ·rw[if_pos hl]
  unfold gu ue
  rw[hp]
  dsimp only
  rw[←e1]
  refine af func92 rfl ntmps92 rfl ?_
  rintro F ⟨fx,hq⟩
  refine bW ?_
  refine fK ?_
  refine fB ?_
  refine bL ?_
  refine zl T.YL (ah) .nil (λ_ le _=>⟨In.mono fx le,In.mono hq.1 le⟩) ?_
  refine eC ?_
  refine Rt [ag a 177 [.pointer (some ⟨q,0,none⟩), .pointer (some ⟨w,0,none⟩), .int .i64 (n:Int),dv,tv, .int .i64 x.dn, .bool x.bg, .int .i64 (x.cl:Int), .int .i64 (x.kd:Int), .int .u64 (hO C (pv (ql Q (qi x.cl x.kd)) ((ql Q (qi x.cl x.kd)).idxOf p)):Int), .int .i64 ((x.lf:Int)-1)]] results92 ?_
  exact⟨rfl,rfl⟩
 rw[if_neg hl]
 unfold gu ue
 rw[hp]
 dsimp only
 rw[←e1]
 refine af func92 rfl ntmps92 rfl ?_
 rintro F ⟨fx,hq⟩
 refine bW ?_
 refine fK ?_
 refine dm ?_
 refine bL ?_
 refine Rt [ag a 177 [.pointer (some ⟨q,0,none⟩), .pointer (some ⟨w,0,none⟩), .int .i64 (n:Int),dv,tv, .int .i64 x.dn, .bool x.bg, .int .i64 (x.cl:Int), .int .i64 (x.kd:Int), .int .u64 0, .int .i64 ((x.lf:Int)-1)]] results92 ?_
 exact⟨rfl,rfl⟩
theorem Bv (a q w n b qb:Nat)(dv tv:Value)(C:Cs)(K:Ok C)(Q:List (List Nat))(O:hZ C Q)(x:Cw)(X:cn n Q x)(p:Nat)(L:Live C p):
  aF aaa 82 [.pointer (some ⟨a,0,none⟩), .int .u64 (C.hd p:Int)] (λh=>In (Cl b C) h∧gw (qO q b qb C Q) h) [gu a q w n dv tv C x]
   (λv H=>v= .tuple #[]∧H= [gu a q w n dv tv C (x.left Q p)]):=by
 obtain⟨m1,m2,m3,m4,m5,m6⟩:=bK K L.toAt
 rcases hb:x.bg with _|_
 ·have hx:x.left Q p=x:=by unfold Cw.left;rw[(X.no hb).1,if_neg (by simp)]
  rw[hx]
  unfold gu ue
  rw[hb]
  refine af func82 rfl ntmps82 rfl ?_
  rintro F ⟨fx,hq⟩
  refine bD ?_
  refine zf 8 ?_ (e:=by rfl)
  refine fK ?_
  refine jA [ag a 177 [.pointer (some ⟨q,0,none⟩), .pointer (some ⟨w,0,none⟩), .int .i64 (n:Int),dv,tv, .int .i64 x.dn, .bool false, .int .i64 (x.cl:Int), .int .i64 (x.kd:Int), .int .u64 (hO C x.nx:Int), .int .i64 (x.lf:Int)]] results82 ?_
  exact⟨rfl,rfl⟩
 by_cases hp:x.nx=some p
 ·have hx:x.left Q p=x.pass Q:=by unfold Cw.left;rw[if_pos hp]
  rw[hx]
  have ps:=Bu a q w n b qb dv tv C K Q O x X p hp
  unfold gu ue at ps⊢
  rw[hp,hb]at ps
  rw[hp,hb]
  generalize hy:x.pass Q=y at*
  refine af func82 rfl ntmps82 rfl ?_
  rintro F ⟨fx,hq⟩
  refine bD ?_
  refine zt 8 ?_ (e:=by rfl)
  refine aW ?_
  refine zt 12 ?_ (e:=by exact congrArg (!·) (decide_eq_false (by omega)))
  refine dh ?_
  refine fB ?_ (e:=by exact decide_eq_true rfl)
  refine bf ?_
  refine zl T.Vg (ps) (.cons .here .nil) (λ_ le _=>⟨In.mono fx le,cF hq le⟩) ?_
  refine aG ?_
  refine jA [ag a 177 [.pointer (some ⟨q,0,none⟩), .pointer (some ⟨w,0,none⟩), .int .i64 (n:Int),dv,tv, .int .i64 y.dn, .bool y.bg, .int .i64 (y.cl:Int), .int .i64 (y.kd:Int), .int .u64 (hO C y.nx:Int), .int .i64 (y.lf:Int)]] results82 ?_
  exact⟨rfl,rfl⟩
 have hx:x.left Q p=x:=by unfold Cw.left;rw[if_neg hp]
 rw[hx]
 have ie:¬((C.hd p:Int)=(hO C x.nx:Int)):=λe=>by
  rcases hnx:x.nx with _|r
  ·rw[hnx]at e
   change(C.hd p:Int)=((0:Nat):Int)at e
   omega
  have hr:=(X.nx r hnx).1
  rw[hnx,bY]at e
  exact hp (by rw[hnx,lW K (O.lv _ r hr).toAt L.toAt (by omega)])
 unfold gu ue
 rw[hb]
 refine af func82 rfl ntmps82 rfl ?_
 rintro F ⟨fx,hq⟩
 refine bD ?_
 refine zt 8 ?_ (e:=by rfl)
 refine aW ?_
 refine zt 12 ?_ (e:=by exact congrArg (!·) (decide_eq_false (by omega)))
 refine dh ?_
 refine dm ?_ (e:=by exact decide_eq_false ie)
 refine aA ?_
 refine jA [ag a 177 [.pointer (some ⟨q,0,none⟩), .pointer (some ⟨w,0,none⟩), .int .i64 (n:Int),dv,tv, .int .i64 x.dn, .bool true, .int .i64 (x.cl:Int), .int .i64 (x.kd:Int), .int .u64 (hO C x.nx:Int), .int .i64 (x.lf:Int)]] results82 ?_
 exact⟨rfl,rfl⟩
open Go Go.cV Go.Proofs.YtdolmecackmjdaaGreatDoor.Cs
namespace Cw
def JW (n:Nat)(Q:List (List Nat)):Nat→Cw→Bool×Cw
 |0,x=>(false,x)
 |f+1,x=>
  if x.nx≠none then(true,x)
  else if 1<x.kd then JW n Q f (x.ja Q x.cl (x.kd-1))
  else if x.cl+1<n then JW n Q f (x.ja Q (x.cl+1) 3)
  else(false,{x.again with dn:=IntKind.i64.wrap (x.dn+1)})
def ms (n:Nat)(x:Cw):Nat:=(n-x.cl)*3+x.kd
def start (Q:List (List Nat))(x:Cw):Cw:=if x.bg then x else x.ja Q 0 3
def find (n:Nat)(Q:List (List Nat))(x:Cw):Bool×Cw:=JW n Q (3*n+4) (x.start Q)
theorem uO{n:Nat}{Q:List (List Nat)}:∀{f g:Nat} {x:Cw},1≤x.kd→x.ms n<f→x.ms n<g→JW n Q f x=JW n Q g x
 |0,_,_,_,h,_=>absurd h (aev _)
 |_,0,_,_,_,h=>absurd h (aev _)
 |f+1,g+1,x,hk,h1,h2=>by
  unfold JW
  by_cases e1:x.nx≠none
  ·rw[if_pos e1,if_pos e1]
  rw[if_neg e1,if_neg e1]
  unfold ms at h1 h2
  by_cases e2:1<x.kd
  ·rw[if_pos e2,if_pos e2]
   exact uO (by show 1≤x.kd-1;omega) (by unfold ms ja;dsimp only;omega) (by unfold ms ja;dsimp only;omega)
  rw[if_neg e2,if_neg e2]
  by_cases e3:x.cl+1<n
  ·rw[if_pos e3,if_pos e3]
   exact uO (by show 1≤3;omega) (by unfold ms ja;dsimp only;omega) (by unfold ms ja;dsimp only;omega)
  rw[if_neg e3,if_neg e3]
end Cw
theorem P5 (a q w b qb:Nat)(dv tv:Value)(C:Cs)(K:Ok C)(Q:List (List Nat))(O:hZ C Q)(x:Cw)(X:cn C.ae.length Q x):
  aF aaa 91 [.pointer (some ⟨a,0,none⟩)] (gw (qO q b qb C Q)) [gu a q w C.ae.length dv tv C x]
   (λv H=>∃r y,v= .bool r∧H= [gu a q w C.ae.length dv tv C y]∧x.find C.ae.length Q=(r,y)∧cn C.ae.length Q y∧(r=true→y.nx≠none)):=by
 have n0:=K.toFix.l0
 have n1:=K.toFix.l1
 have BZ:cn C.ae.length Q (x.start Q)∧(x.start Q).bg=true:=by
  unfold Cw.start
  split
  ·next h=>exact⟨X,h⟩
  exact⟨cn.ja K O (by omega) (by omega),rfl⟩
 have hR:x.find C.ae.length Q=Cw.JW C.ae.length Q (3*C.ae.length+4) (x.start Q):=rfl
 generalize hr:x.find C.ae.length Q=R at*
 have hfu:∀f,(x.start Q).ms C.ae.length<f→Cw.JW C.ae.length Q f (x.start Q)=R:=λf hf=>by
  rw[hR]
  have h2:=BZ.1.go BZ.2
  exact Cw.uO h2.2.1 hf (by unfold Cw.ms;omega)
 have hlen:∀z:Cw,z.cl<C.ae.length→1≤z.kd→z.kd≤3→z.nx=none→z.ms C.ae.length≤3*C.ae.length+3:=λz h1 h2 h3 _=>by unfold Cw.ms;omega
 have ja:=λ(z:Cw) (c k:Nat) (hc:c<C.ae.length) (hk:1≤k∧k≤3)=>P6 a q w C.ae.length b qb dv tv C K Q O z c k hc hk
 have MP:=λ(z:Cw) (c k:Nat) (hc:c<C.ae.length) (hk:1≤k∧k≤3)=>cn.ja K O (x:=z) hc hk
 generalize hn:C.ae.length=n at*
 unfold gu ue at*
 refine af func91 rfl ntmps91 rfl ?_
 intro F hq
 refine bI ?_
 refine dJ (ι:=Cw) [8,9] (λz=>z=x.start Q) (λz=> []) (λz=> [ag a 177 [.pointer (some ⟨q,0,none⟩), .pointer (some ⟨w,0,none⟩), .int .i64 (n:Int),dv,tv, .int .i64 z.dn, .bool z.bg, .int .i64 (z.cl:Int), .int .i64 (z.kd:Int), .int .u64 (hO C z.nx:Int), .int .i64 (z.lf:Int)]]) ?_ ?_
 ·refine ax rfl ?_ ?_
  ·intro hb
   replace hb:=aL hb
   refine bf ?_
   refine zl T.Dm (ja x 0 3 (by omega) (by omega)) (.cons .here .nil) (λ_ le _=>cF hq le) ?_
   refine aG ?_
   refine Me ((x.ja Q 0 3)) ((by unfold Cw.start;rw[if_neg (by simp[hb])]))
  intro hb
  replace hb:=aL hb
  refine aA ?_
  refine Me (x) ((by unfold Cw.start;rw[if_pos hb]))
 rintro z hz
 subst hz
 generalize x.start Q=s0 at*
 refine bf ?_
 refine Lo (ι:=Cw) [10,11,12,13,14,25,26,27,28,29,24,30,31,32,33,34,35,36,37,38,39,40,42,43,44,45,46,47,48,49,50,51,41,52,53,54,55,56,57,58,15,16,17,18,19,20,21,22,23,2] (λz=>(cn n Q z∧z.bg=true)∧∀f,z.ms n<f→Cw.JW n Q f z=R) (λz=> []) (λz=> [ag a 177 [.pointer (some ⟨q,0,none⟩), .pointer (some ⟨w,0,none⟩), .int .i64 (n:Int),dv,tv, .int .i64 z.dn, .bool z.bg, .int .i64 (z.cl:Int), .int .i64 (z.kd:Int), .int .u64 (hO C z.nx:Int), .int .i64 (z.lf:Int)]]) (λz=>z.ms n) (s0) ⟨BZ,hfu⟩ ?_
 rintro z hI
 dsimp only at hI⊢
 obtain⟨⟨Z,zb⟩,hf⟩:=hI
 obtain⟨g1,g2,g3⟩:=Z.go zb
 have QF:=hf (z.ms n+1) (Nat.lt_succ_self _)
 unfold Cw.JW at QF
 rcases hz:z.nx with _|p
 ·rw[hz,if_neg (by simp)]at QF
  refine dg ?_
  by_cases h1:1<z.kd
  ·refine yz ?_
   refine bI ?_
   refine fB ?_
   refine ik 10 T.mix (.cons .here .nil) λF1 je bR aM=> ?_
   obtain⟨q1,_⟩:=bR
   refine bA ?_
   refine gO aM ?_
   have ek:((z.kd:Int)-1)=((z.kd-1:Nat):Int):=by omega
   rw[ek]
   refine Tp (oC T.Dm rfl rfl ((by have h:=ja z z.cl (z.kd-1) g1 (by omega);rw[hz]at h;exact h)) (.cons .here .nil) (λ_ le _=>cF hq le) ?_)
   rintro v H' ⟨rfl,rfl⟩
   refine bd ?_
   refine bq ?_
   refine Ro ((z.ja Q z.cl (z.kd-1))) (⟨⟨MP z z.cl (z.kd-1) g1 (by omega),rfl⟩,λf QE=>(by rw[if_pos h1]at QF;exact(Cw.uO (by show 1≤z.kd-1;omega) QE (by unfold Cw.ms Cw.ja;dsimp only;omega)).trans QF)⟩) ((by unfold Cw.ms Cw.ja;dsimp only;omega))
  refine yz ?_
  refine bI ?_
  refine dm ?_
  by_cases h2:z.cl+1<n
  ·refine aw ?_
   refine ik 10 T.mix (.cons .here .nil) λF2 zM eG ez=> ?_
   obtain⟨q1,_⟩:=eG
   refine bA ?_
   refine gO ez ?_
   refine bf ?_
   refine fB ?_
   refine bL ?_
   refine zl T.Dm ((by have h:=ja z (z.cl+1) 3 h2 (by omega);rw[hz]at h;exact h)) (.cons .here .nil) (λ_ le _=>cF hq le) ?_
   refine bq ?_
   refine Ro ((z.ja Q (z.cl+1) 3)) (⟨⟨MP z (z.cl+1) 3 h2 (by omega),rfl⟩,λf QE=>(by rw[if_neg h1,if_pos h2]at QF;exact(Cw.uO (by show 1≤3;omega) QE (by unfold Cw.ms Cw.ja;dsimp only;omega)).trans QF)⟩) ((by unfold Cw.ms Cw.ja;dsimp only;omega))
  refine aw ?_
  refine ik 10 T.mix (.cons .here .nil) λF3 VQ uo gJ=> ?_
  obtain⟨q1,_⟩:=uo
  refine bA ?_
  refine gO gJ ?_
  refine bf ?_
  refine dm ?_
  refine bf ?_
  refine zl T.Vm ((by have h:=xW a q w n dv tv C z;unfold gu ue at h;rw[hz]at h;exact h)) (.cons .here .nil) (λ_ _ _=>trivial) ?_
  unfold Cw.again
  refine bW ?_
  rw[if_neg h1,if_neg h2]at QF
  refine Rt [ag a 177 [.pointer (some ⟨q,0,none⟩), .pointer (some ⟨w,0,none⟩), .int .i64 (n:Int),dv,tv, .int .i64 (IntKind.i64.wrap (z.dn+1)), .bool false, .int .i64 0, .int .i64 0, .int .u64 0, .int .i64 0]] results91 ?_
  refine⟨false,{z.again with dn:=IntKind.i64.wrap (z.dn+1)},rfl,rfl,QF.symm,⟨(λh=>by cases h),λ_=>⟨rfl,rfl,rfl,rfl⟩,(λ_ h=>by cases h),Nat.zero_le _⟩,(λh=>by cases h)⟩
 rw[hz,if_pos (by simp)]at QF
 have hp:=(Z.nx p hz).1
 obtain⟨m1,m2,m3,m4,m5,m6⟩:=bK K (O.lv _ p hp).toAt
 rw[bY]
 refine dh ?_
 refine dm ?_
 refine dg ?_
 refine Rt [ag a 177 [.pointer (some ⟨q,0,none⟩), .pointer (some ⟨w,0,none⟩), .int .i64 (n:Int),dv,tv, .int .i64 z.dn, .bool z.bg, .int .i64 (z.cl:Int), .int .i64 (z.kd:Int), .int .u64 (C.hd p:Int), .int .i64 (z.lf:Int)]] results91 ?_
 exact⟨true,z,rfl,by rw[hz,bY],QF.symm,Z,λ_=>by rw[hz];simp⟩
end Go.Proofs.YtdolmecackmjdaaGreatDoor
