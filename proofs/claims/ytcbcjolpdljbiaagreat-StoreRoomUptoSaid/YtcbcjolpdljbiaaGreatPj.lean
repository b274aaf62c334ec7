/- Part Pj of the proof. -/
import Derived.Test.YtcbcjolpdljbiaaGreatPh
set_option maxRecDepth 100000
open Go.Proofs.YtcbcjolpdljbiaaGreat.T
open Nat renaming mul_le_mul_left -> alK, not_lt_zero -> ah2
open List renaming mem_of_getLast? -> aho, getElem_idxOf -> alL
open Go.Proofs.Tryz renaming prog -> aaY
open Go.Proofs.Tryz
open Go.Value renaming int -> DE
open Go.IntKind renaming i64 -> DD, u64 -> DB
namespace Go.Proofs.YtcbcjolpdljbiaaGreat
open Go Go.dQ Go.Proofs.YtcbcjolpdljbiaaGreat.Cs
def dJ (A:By)(p:Nat):Nat:=rd A (p+46) 1
def DY (A:By)(p:Nat):Bool:=decide (dJ A p % 2=1)
def mkSet (m:Nat)(on:Bool):Nat:=m/2*2+(if on then 1 else 0)
def wV (A:By)(p:Nat)(on:Bool):By:=wr A (p+46) 1 (mkSet (dJ A p) on)
theorem WW:∀m:Nat,m<16->gL .and .i64 (m:Int) 1=some ((m % 2:Nat):Int):=by decide+kernel
theorem WV:∀m:Nat,m<16->gL .andNot .i64 (m:Int) 1=some ((m/2*2:Nat):Int):=by decide+kernel
theorem aaQ:∀m:Nat,m<16->gL .or .i64 ((m/2*2:Nat):Int) 1=some ((m/2*2+1:Nat):Int):=by decide+kernel
def Jq (b q hot warm:Nat):FV:= [DC b,DC q,DE DD hot,DE DD warm]
def og (a b q hot warm:Nat):aa:=ag a 184 (Jq b q hot warm)
theorem tB (a b q hot warm:Nat)(C:Cs)(K:Ok C)(p:Nat)(L:Live C p)(hk:kl C.A p≠0)(hm:dJ C.A p<16):
  aK aaY 207 [DC a,DE DB (C.hd p)] (λh=>In (Cl b C) h/\In (og a b q hot warm) h) []
   (λv H=>v= .bool (DY C.A p)/\H= []):=by
 have ha:=WW _ hm;unfold og Jq DY;unfold dJ at*;refine af func207 rfl ntmps207 rfl ?_;rintro F ⟨hc,hl⟩;refine cu ?_;refine zl Aq (rF b C K p L hk) .nil (λ_ le _=>In.mono hc le) ?_;refine bD ?_;refine zt 18 ?_ (e:=by rfl);refine bn ?_;refine az (t:=20) (v':=(DE DD (rd C.A (p+46) 1 % 2:Nat))) rfl (by exact congrArg (λx=>Value.int .i64 (x.getD 0)) ha) ?_;refine ba ?_;refine Rt [] results207 ?_;refine⟨?_,rfl⟩;by_cases h:rd C.A (p+46) 1 % 2=1
 ·rw[h];rfl
 rw[show rd C.A (p+46) 1 % 2=0 by omega];rfl
theorem yQ (a b q hot warm:Nat)(C:Cs)(K:Ok C)(p:Nat)(L:Live C p)(hk:kl C.A p≠0)(hm:dJ C.A p<16)(on:Bool):
  aK aaY 209 [DC a,DE DB (C.hd p), .bool on] (In (og a b q hot warm)) [Cl b C]
   (λv H=>v= .tuple #[]/\H= [Cl b (C.wA (wV C.A p on))]):=by
 have ha:=WV _ hm;have hb:=aaQ _ hm;unfold og Jq wV mkSet;unfold dJ at*;refine af func209 rfl ntmps209 rfl ?_;rintro F hl;refine bA ?_;refine zl Aq (rF b C K p L hk) .nil (λ_ le au=>au.1) ?_;refine cC ?_;refine bj ?_;refine az (t:=6) (v':=(DE DD (rd C.A (p+46) 1/2*2:Nat))) rfl (by exact congrArg (λx=>Value.int .i64 (x.getD 0)) ha) ?_;rcases on with _|_
 ·refine cM ?_ (e:=by rfl)
  refine cu ?_;refine zl Aq (lN b C K p (rd C.A (p+46) 1/2*2) (by omega) L hk) (.cons .here .nil) DA ?_;refine aB ?_;refine j5 [Cl b (C.wA (wr C.A (p+46) 1 (rd C.A (p+46) 1/2*2+0)))] results209 ?_;exact⟨rfl,rfl⟩
 refine eJ ?_ (e:=by rfl);refine ba ?_;refine az (t:=6) (v':=(DE DD (rd C.A (p+46) 1/2*2+1:Nat))) rfl (by exact congrArg (λx=>Value.int .i64 (x.getD 0)) hb) ?_;refine bL ?_;refine zl Aq (lN b C K p (rd C.A (p+46) 1/2*2+1) (by omega) L hk) (.cons .here .nil) DA ?_;refine aB ?_;refine j5 [Cl b (C.wA (wr C.A (p+46) 1 (rd C.A (p+46) 1/2*2+1)))] results209 ?_;exact⟨rfl,rfl⟩
def SM (p:Nat)(q o:Nat):Prop:=o=46/\q=p
def SL (p:Nat)(q o:Nat):Prop:=4<=o/\o<12\/(o=45\/o=46)/\q=p
theorem mA{m:Nat}(h:m<16)(on:Bool):mkSet m on<16:=by
 unfold mkSet;split<;>omega
theorem Yb{C:Cs}(K:Ok C)(A:By){p:Nat}(L:Live C p)(on:Bool):dm C A (wV A p on) (SM p):=
 xR A L.toAt (by have:=(L.toAt.br K).2.1;omega) λj h1 h2=>⟨by omega,rfl⟩
theorem JC{C:Cs}(K:Ok C)(A:By){p x:Nat}(L:Live C p)(X:Live C x)(on:Bool):dJ (wV A p on) x=if x=p then mkSet (dJ A p) on % 256 else dJ A x:=by
 unfold dJ wV;split
 ·next e=>rw[e,dI];rfl
 next e=>exact mc (C:=C.wA A) (K.wA A) (X.wA A).toAt (L.wA A).toAt (a:=46) (n:=1) (o:=46) (w:=1) (by have:=(L.toAt.br K).2.1;show _<=C.sz (C.cl p);omega) (by have:=(X.toAt.br K).2.1;show _<=C.sz (C.cl x);omega) (λg=>absurd g e)
theorem SM.oG{p q o:Nat}(h:SM p q o):mL o:=by
 unfold SM at h;unfold mL;omega
theorem Z4 (a b q hot warm:Nat)(C:Cs)(K:Ok C)(p:Nat)(L:Live C p)(hk:kl C.A p≠0)(hm:dJ C.A p<16)(hs:1<=gP C.A p/\gP C.A p<=3):
  aK aaY 174 [DC a,DE DB (C.hd p)] (In (og a b q hot warm)) [Cl b C]
   (λv H=>v=DE DD 0/\H= [Cl b (C.wA (wV C.A p true))]):=by
 have hm2:=hm;unfold gP at*;refine af func174 rfl ntmps174 rfl ?_;rintro F xg;have hl:=xg;unfold og Jq at hl;refine cu ?_;refine zl Aq (rE b C K p L hk) .nil (λ_ le au=>au.1) ?_;refine bO ?_;refine zf 18 ?_ (e:=by rfl);refine aY ?_;refine zf 22 ?_;refine aY ?_;refine cM ?_;refine ba ?_;refine zl Aq (yQ a b q hot warm C K p L hk hm true) (.cons .here .nil) (λ_ le au=>In.mono xg le) ?_;refine ba ?_;refine Rt [Cl b (C.wA (wV C.A p true))] results174 ?_;exact⟨rfl,rfl⟩
theorem KL (a q b qb hot warm:Nat)(C:Cs)(K:Ok C)(Q:Dy)(O:jd C Q)(c:Nat)(hc:c<C.ae.length):
  aK aaY 277 [DC a,DE DD c] (λh=>In (og a b q hot warm) h/\gW (rL q b qb C Q) h) []
   (λv H=>v= .tuple #[DE DD ((ql Q (qi c 1)).length),DE DD ((ql Q (qi c 2)).length),DE DD ((ql Q (qi c 3)).length)]/\H= []):=by
 refine af func277 rfl ntmps277 rfl ?_;rintro F ⟨hl,hq⟩;unfold og Jq at hl;refine ba ?_;refine av ?_;refine gT true mix ?_;refine ba ?_;refine Tp (oZ (Aq (n:=170)) (ue q b qb C K Q O c 1 hc (by omega)) .nil (λ_ le _=>bR hq le) ?_);refine ba ?_;refine Tp (oZ (Aq (n:=170)) (ue q b qb C K Q O c 2 hc (by omega)) .nil (λ_ le _=>bR hq le) ?_);refine ba ?_;refine Tp (oZ (Aq (n:=170)) (ue q b qb C K Q O c 3 hc (by omega)) .nil (λ_ le _=>bR hq le) ?_);refine ba ?_;refine Rt3 [] results277 ?_;exact⟨rfl,rfl⟩
def pL (Q:Dy)(c s share:Nat):Bool:=decide (((ql Q (qi c 1)).length+(ql Q (qi c 2)).length+(ql Q (qi c 3)).length)*share<100*(ql Q (qi c s)).length)
theorem Gi (a q b qb hot warm:Nat)(C:Cs)(K:Ok C)(Q:Dy)(O:jd C Q)(c:Nat)(hc:c<C.ae.length)(hh:hot<=100):
  aK aaY 257 [DC a,DE DD c] (λh=>In (og a b q hot warm) h/\gW (rL q b qb C Q) h) []
   (λv H=>v= .bool (pL Q c 1 hot)/\H= []):=by
 have n1:=xS K O (qi c 1);have n2:=xS K O (qi c 2);have n3:=xS K O (qi c 3);unfold pL;refine af func257 rfl ntmps257 rfl ?_;rintro F ⟨xg,hq⟩;have hl:=xg;unfold og Jq at hl;refine bA ?_;refine zl Aq (KL a q b qb hot warm C K Q O c hc) .nil (λ_ le _=>⟨In.mono xg le,bR hq le⟩) ?_;generalize (ql Q (qi c 1)).length=x at*;generalize (ql Q (qi c 2)).length=y at*;generalize (ql Q (qi c 3)).length=z at*;have hmul:(x+y+z)*hot<=(x+y+z)*100:=alK _ hh;have e:((x:Int)+(y:Int)+(z:Int))*(hot:Int)=(((x+y+z)*hot:Nat):Int):=by push_cast;rfl
 generalize ((x+y+z)*hot)=m at*;refine cC ?_;refine aw ?_;refine az (t:=26) (v':=(DE DD m)) rfl (by exact congrArg (Value.int .i64) e) ?_;refine aY ?_;refine Rt [] results257 ?_;refine⟨congrArg Value.bool (decide_eq_decide.2 ?_),rfl⟩;omega
theorem ami (a q b qb hot warm:Nat)(C:Cs)(K:Ok C)(Q:Dy)(O:jd C Q)(c:Nat)(hc:c<C.ae.length)(hh:warm<=100):
  aK aaY 258 [DC a,DE DD c] (λh=>In (og a b q hot warm) h/\gW (rL q b qb C Q) h) []
   (λv H=>v= .bool (pL Q c 2 warm)/\H= []):=by
 have n1:=xS K O (qi c 1);have n2:=xS K O (qi c 2);have n3:=xS K O (qi c 3);unfold pL;refine af func258 rfl ntmps258 rfl ?_;rintro F ⟨xg,hq⟩;have hl:=xg;unfold og Jq at hl;refine bA ?_;refine zl Aq (KL a q b qb hot warm C K Q O c hc) .nil (λ_ le _=>⟨In.mono xg le,bR hq le⟩) ?_;generalize (ql Q (qi c 1)).length=x at*;generalize (ql Q (qi c 2)).length=y at*;generalize (ql Q (qi c 3)).length=z at*;have hmul:(x+y+z)*warm<=(x+y+z)*100:=alK _ hh;have e:((x:Int)+(y:Int)+(z:Int))*(warm:Int)=(((x+y+z)*warm:Nat):Int):=by push_cast;rfl
 generalize ((x+y+z)*warm)=m at*;refine cC ?_;refine aw ?_;refine az (t:=26) (v':=(DE DD m)) rfl (by exact congrArg (Value.int .i64) e) ?_;refine aY ?_;refine Rt [] results258 ?_;refine⟨congrArg Value.bool (decide_eq_decide.2 ?_),rfl⟩;omega
def MkQ (C:Cs)(Q:Dy):Prop:=∀i,∀p∈ql Q i,dJ C.A p<16
structure Rk (C:Cs)(p:Nat)(A:By)(Q:Dy):Prop where
 o:jd (C.wA A) Q
 d:dm C C.A A (SL p)
 mr:dJ A p=mkSet (dJ C.A p) false
theorem Db{C:Cs}(K:Ok C){A B:By}{S:Nat->Nat->Prop}(d:dm C A B S){x:Nat}(X:Live C x)(h:¬S x 46):dJ B x=dJ A x:=
 lJ K d X.toAt (by have:=(X.toAt.br K).2.1;omega) λj h1 h2 s=>h (by rwa[show j=46 by omega]at s)
theorem abH{C:Cs}(K:Ok C){Q:Dy}(O:jd C Q){p:Nat}(L:Live C p)(on:Bool):jd (C.wA (wV C.A p on)) Q:=
 L7 K O (Yb K C.A L on) λi x hx j s=>⟨s.oG,by unfold SM at s;omega,by unfold SM at s;omega⟩
theorem Bn (a q b qb hot warm:Nat)(C:Cs)(K:Ok C)(Q:Dy)(O:jd C Q)(p:Nat)(P:gI C (some p))(hm:dJ C.A p<16)(hn:¬(1<=gP C.A p/\gP C.A p<=3)):
  aK aaY 189 [DC a,DE DB (C.hd p)] (In (og a b q hot warm)) (Cl b C::rL q b qb C Q)
   (λv H=>v=DE DD 0/\∃A,H=Cl b (C.wA A)::rL q b qb (C.wA A) (Q.set (qi (C.cl p) 1) (p::ql Q (qi (C.cl p) 1)))/\Rk C p A (Q.set (qi (C.cl p) 1) (p::ql Q (qi (C.cl p) 1)))):=by
 have L:=(P p rfl).1;unfold rL;refine af func189 rfl ntmps189 rfl ?_;rintro F xg;have hl:=xg;unfold og Jq at hl;refine cu ?_;refine Lp (oC Aq rfl rfl (EZ q b qb C K Q O p 1 (by omega) P hn) (.cons .here (.cons .here (.cons .here .nil))) DA ?_);rintro v H' ⟨rfl,A,rfl,E⟩;refine bS ?_;have hmp:dJ A p=dJ C.A p:=Db K E.d L (by unfold SQ;omega);have P2:gI (C.wA A) (some p):=nE K E.d P (λ_ _ j s=>s.oG);refine bO ?_;refine zl Aq (yQ a b q hot warm (C.wA A) (K.wA A) p (P2 p rfl).1 (P2.kl p rfl) (by rw[cT,hmp];exact hm) false) (.cons .here .nil) (λ_ le au=>In.mono xg le) ?_;refine bA ?_;refine Rt [Cl b (C.wA (wV A p false)),ag q 182 (iF b qb C.ae.length),ag qb 333 ((Q.set (qi (C.cl p) 1) (p::ql Q (qi (C.cl p) 1))).flatMap (di C))] results189 ?_;refine⟨rfl,wV A p false,rfl,abH (K.wA A) E.o (P2 p rfl).1 false,(E.d.mono λq o s=> ?_).trans ((Yb (K.wA A) A (P2 p rfl).1 false).wA.mono λq o s=> ?_), ?_⟩
 ·unfold SQ at s;unfold SL;omega
 ·unfold SM at s;unfold SL;omega
 rw[JC K A L L,if_pos rfl,hmp];have:=mA hm false;omega
theorem Nl (a q b qb hot warm:Nat)(C:Cs)(K:Ok C)(Q:Dy)(O:jd C Q)(i k p:Nat)(hk:(ql Q i)[k]?=some p):
  aK aaY 193 [DC a,DE DB (C.hd p)] (In (og a b q hot warm)) (Cl b C::rL q b qb C Q)
   (λv H=>v=DE DD 0/\∃A,H=Cl b (C.wA A)::rL q b qb (C.wA A) (Q.set i ((ql Q i).eraseIdx k))/\TN C p A (Q.set i ((ql Q i).eraseIdx k))):=by
 unfold rL;refine af func193 rfl ntmps193 rfl ?_;rintro F hl;unfold og Jq at hl;refine cu ?_;refine Lp (oC Aq rfl rfl (yM q b qb C K Q O i k p hk) (.cons .here (.cons .here (.cons .here .nil))) DA ?_);rintro v H' ⟨rfl,A,rfl,E⟩;refine bS ?_;refine bj ?_;refine Rt [Cl b (C.wA A),ag q 182 (iF b qb C.ae.length),ag qb 333 ((Q.set i ((ql Q i).eraseIdx k)).flatMap (di C))] results193 ?_;exact⟨rfl,A,rfl,E⟩
def yg (C:Cs)(Q:Dy)(c:Nat):Bool:=match(ql Q (qi c 3)).getLast? with
 |none=>false
 |some p=>DY C.A p
theorem Vw (a q b qb hot warm:Nat)(C:Cs)(K:Ok C)(Q:Dy)(O:jd C Q)(M:MkQ C Q)(c:Nat)(hc:c<C.ae.length):
  aK aaY 259 [DC a,DE DD c] (λh=>In (Cl b C) h/\In (og a b q hot warm) h/\gW (rL q b qb C Q) h) []
   (λv H=>v= .bool (yg C Q c)/\H= []):=by
 have hp:=λx (h:(ql Q (qi c 3)).getLast?=some x)=>aho h;unfold yg;refine af func259 rfl ntmps259 rfl ?_;rintro F ⟨dx,xg,hq⟩;have hl:=xg;unfold og Jq at hl;refine cu ?_;refine zl Aq (uy q b qb C K Q O c 3 hc (by omega)) .nil (λ_ le _=>bR hq le) ?_;rcases hg:(ql Q (qi c 3)).getLast? with _|p
 ·refine Li Mv ?_
  refine cY ?_;refine zf 17 ?_ (e:=by rfl);refine bL ?_;refine Rt [] results259 ?_;exact⟨rfl,rfl⟩
 have Ay:=hp p hg;refine cu ?_;refine zt 17 ?_ (e:=by rfl);refine bn ?_;refine zl Aq (tB a b q hot warm C K p (O.lv _ p Ay) (O.it _ p Ay).k0 (M _ p Ay)) .nil (λ_ le _=>⟨In.mono dx le,In.mono xg le⟩) ?_;refine aY ?_;refine Rt [] results259 ?_;exact⟨rfl,rfl⟩
def ruC:FV:= [DE DD 1, .func (.func 257) #[] #[],DE DD 2, .func (.func 258) #[] #[],DE DD 3, .func (.func 259) #[] #[]]
theorem UC:aK aaY 206 [] vz [] (λv H=>v=Value.agg ruC.toArray/\H= []):=by
 refine af func206 rfl ntmps206 rfl ?_;intro F _;refine aw ?_;refine Lp (oA Rl λb1=> ?_);refine ba ?_;refine Li (Bda Rl aha) ?_;refine bj ?_;refine Hh (H':= [ag b1 276 ruC]) ?_;refine GF [] TJ results206 ?_;exact⟨rfl,rfl⟩
structure Cw where
 dn:Int
 bg:Bool
 cl:Nat
 kd:Nat
 nx:FW
 lf:Nat
def ahd (l:F8)(p:Nat):FW:=pv l (l.idxOf p)
namespace Cw
def kX (Q:Dy)(x:Cw)(c k:Nat):Cw:={x with bg:=true,cl:=c,kd:=k,nx:=(ql Q (qi c k)).getLast?,lf:=(ql Q (qi c k)).length}
def pass (Q:Dy)(x:Cw):Cw:=match x.nx with
 |none=>x
 |some p=>{x with nx:=if 1<x.lf then ahd (ql Q (qi x.cl x.kd)) p else none,lf:=x.lf-1}
def left (Q:Dy)(x:Cw)(p:Nat):Cw:=if x.nx=some p then x.pass Q else x
def dp (x:Cw)(p r:Nat):Cw:=if x.nx=some p then{x with nx:=some r}else x
def again (x:Cw):Cw:={x with bg:=false,cl:=0,kd:=0,nx:=none,lf:=0}
end Cw
structure dt (n:Nat)(Q:Dy)(x:Cw):Prop where
 go:x.bg=true->x.cl<n/\1<=x.kd/\x.kd<=3
 no:x.bg=false->x.nx=none/\x.cl=0/\x.kd=0/\x.lf=0
 nx:∀p,x.nx=some p->p∈ql Q (qi x.cl x.kd)/\1<=x.lf
 lf:x.lf<=1073741824
theorem dt.bg{n:Nat}{Q:Dy}{x:Cw}(h:dt n Q x){p:Nat}(e:x.nx=some p):x.bg=true:=by
 rcases hb:x.bg with _|_
 ·rw[(h.no hb).1]at e;cases e
 rfl
theorem dt.kX{C:Cs}(K:Ok C){n:Nat}{Q:Dy}(O:jd C Q){x:Cw}{c k:Nat}(hc:c<n)(hk:1<=k/\k<=3):dt n Q (x.kX Q c k):=
 ⟨λ_=>⟨hc,hk⟩,(λh=>by cases h),(λ_ hp=>⟨aho hp,List.length_pos_of_mem (aho hp)⟩),xS K O _⟩
theorem aaV{l:F8}{p q:Nat}(h:ahd l p=some q):q∈l:=qI h
theorem dt.pass{n:Nat}{Q:Dy}{x:Cw}(h:dt n Q x):dt n Q (x.pass Q):=by
 unfold Cw.pass;split
 ·exact h
 next p hp=>
 have hb:=h.bg hp;obtain⟨h1,h2⟩:=h.nx p hp;refine⟨h.go,λhh=>(by rw[hb]at hh;cases hh),λr hr=> ?_,by have:=h.lf;show x.lf-1<=_;omega⟩;change(if 1<x.lf then _ else none)=some r at hr;split at hr
 ·next g=>exact⟨aaV hr,by show 1<=x.lf-1;omega⟩
 cases hr
theorem dt.left{n:Nat}{Q:Dy}{x:Cw}(h:dt n Q x)(p:Nat):dt n Q (x.left Q p):=by
 unfold Cw.left;split
 ·exact h.pass
 exact h
def qj (q w n:Nat)(dv tv:Value)(C:Cs)(x:Cw):FV:= [DC q,DC w,DE DD n,dv,tv,DE DD x.dn, .bool x.bg,DE DD x.cl,DE DD x.kd,DE DB (hO C x.nx),DE DD x.lf]
def iH (a q w n:Nat)(dv tv:Value)(C:Cs)(x:Cw):aa:=ag a 137 (qj q w n dv tv C x)
theorem Dk{l:F8}{p:Nat}(h:p∈l):l.idxOf p<l.length/\l[l.idxOf p]?=some p:=by
 have h1:=List.idxOf_lt_length_of_mem h;exact⟨h1,by rw[List.getElem?_eq_getElem h1,alL]⟩
theorem BE (a q w n:Nat)(dv tv:Value)(C:Cs)(x:Cw):
  aK aaY 86 [DC a] vz [iH a q w n dv tv C x]
   (λv H=>v= .tuple #[]/\H= [iH a q w n dv tv C x.again]):=by
 unfold iH qj;refine af func86 rfl ntmps86 rfl ?_;intro F _;refine cC ?_;refine aw ?_;refine aB ?_;refine j5 [ag a 137 (qj q w n dv tv C x.again)] results86 ?_;exact⟨rfl,rfl⟩
theorem WR (a q w n b qb:Nat)(dv tv:Value)(C:Cs)(K:Ok C)(Q:Dy)(O:jd C Q)(x:Cw)(c k:Nat)(hc:c<C.ae.length)(hk:1<=k/\k<=3):
  aK aaY 118 [DC a,DE DD c,DE DD k] (gW (rL q b qb C Q)) [iH a q w n dv tv C x]
   (λv H=>v= .tuple #[]/\H= [iH a q w n dv tv C (x.kX Q c k)]):=by
 unfold iH qj;refine af func118 rfl ntmps118 rfl ?_;rintro F hq;refine cC ?_;refine aY ?_;refine zl Aq (uy q b qb C K Q O c k hc hk) .nil (λ_ le _=>bR hq le) ?_;refine kT ?_;refine zl Aq (ue q b qb C K Q O c k hc hk) .nil (λ_ le _=>bR hq le) ?_;refine bj ?_;refine aB ?_;refine j5 [ag a 137 (qj q w n dv tv C (x.kX Q c k))] results118 ?_;exact⟨rfl,rfl⟩
theorem FN (a q w n b qb:Nat)(dv tv:Value)(C:Cs)(K:Ok C)(Q:Dy)(O:jd C Q)(x:Cw)(X:dt n Q x)(p:Nat)(hp:x.nx=some p):
  aK aaY 78 [DC a] (λh=>In (Cl b C) h/\gW (rL q b qb C Q) h) [iH a q w n dv tv C x]
   (λv H=>v=DE DB (C.hd p)/\H= [iH a q w n dv tv C (x.pass Q)]):=by
 obtain⟨h1,h2⟩:=X.nx p hp;have h3:=X.lf;obtain⟨i1,i2⟩:=Dk h1;have adt:(ql Q (qi x.cl x.kd))[(ql Q (qi x.cl x.kd)).idxOf p]'i1=p:=alL i1;have ah:=Be q b qb C K Q O (qi x.cl x.kd) ((ql Q (qi x.cl x.kd)).idxOf p) i1;rw[adt]at ah;have e1:((x.lf:Int)-1)=((x.lf-1:Nat):Int):=by omega
 have ex:x.pass Q={x with nx:=if 1<x.lf then ahd (ql Q (qi x.cl x.kd)) p else none,lf:=x.lf-1}:=by unfold Cw.pass;rw[hp]
 rw[ex];unfold ahd;by_cases hl:1<x.lf
 ·rw[if_pos hl]
  unfold iH qj;rw[hp];dsimp only;rw[<-e1];refine af func78 rfl ntmps78 rfl ?_;rintro F ⟨dx,hq⟩;refine cC ?_;refine fu ?_;refine eJ ?_;refine bL ?_;refine zl Aq (ah) .nil (λ_ le _=>⟨In.mono dx le,In.mono hq.1 le⟩) ?_;refine cL ?_;refine Rt [ag a 137 [DC q,DC w,DE DD n,dv,tv,DE DD x.dn, .bool x.bg,DE DD x.cl,DE DD x.kd,DE DB (hO C (pv (ql Q (qi x.cl x.kd)) ((ql Q (qi x.cl x.kd)).idxOf p))),DE DD ((x.lf:Int)-1)]] results78 ?_;exact⟨rfl,rfl⟩
 rw[if_neg hl];unfold iH qj;rw[hp];dsimp only;rw[<-e1];refine af func78 rfl ntmps78 rfl ?_;rintro F ⟨dx,hq⟩;refine cC ?_;refine fu ?_;refine cM ?_;refine bL ?_;refine Rt [ag a 137 [DC q,DC w,DE DD n,dv,tv,DE DD x.dn, .bool x.bg,DE DD x.cl,DE DD x.kd,DE DB 0,DE DD ((x.lf:Int)-1)]] results78 ?_;exact⟨rfl,rfl⟩
theorem FO (a q w n b qb:Nat)(dv tv:Value)(C:Cs)(K:Ok C)(Q:Dy)(O:jd C Q)(x:Cw)(X:dt n Q x)(p:Nat)(L:Live C p):
  aK aaY 92 [DC a,DE DB (C.hd p)] (λh=>In (Cl b C) h/\gW (rL q b qb C Q) h) [iH a q w n dv tv C x]
   (λv H=>v= .tuple #[]/\H= [iH a q w n dv tv C (x.left Q p)]):=by
 obtain⟨m1,m2,m3,m4,m5,m6⟩:=bU K L.toAt;rcases hb:x.bg with _|_
 ·have hx:x.left Q p=x:=by unfold Cw.left;rw[(X.no hb).1,if_neg (by simp)]
  rw[hx];unfold iH qj;rw[hb];refine af func92 rfl ntmps92 rfl ?_;rintro F ⟨dx,hq⟩;refine bA ?_;refine zf 8 ?_ (e:=by rfl);refine fu ?_;refine j5 [ag a 137 [DC q,DC w,DE DD n,dv,tv,DE DD x.dn, .bool false,DE DD x.cl,DE DD x.kd,DE DB (hO C x.nx),DE DD x.lf]] results92 ?_;exact⟨rfl,rfl⟩
 by_cases hp:x.nx=some p
 ·have hx:x.left Q p=x.pass Q:=by unfold Cw.left;rw[if_pos hp]
  rw[hx];have ps:=FN a q w n b qb dv tv C K Q O x X p hp;unfold iH qj at ps⊢;rw[hp,hb]at ps;rw[hp,hb];generalize hy:x.pass Q=y at*;refine af func92 rfl ntmps92 rfl ?_;rintro F ⟨dx,hq⟩;refine bA ?_;refine zt 8 ?_ (e:=by rfl);refine aY ?_;refine zt 12 ?_ (e:=by exact congrArg (!·) (Ar));refine cY ?_;refine eJ ?_ (e:=by exact decide_eq_true rfl);refine bn ?_;refine zl Aq (ps) (.cons .here .nil) (λ_ le _=>⟨In.mono dx le,bR hq le⟩) ?_;refine aB ?_;refine j5 [ag a 137 [DC q,DC w,DE DD n,dv,tv,DE DD y.dn, .bool y.bg,DE DD y.cl,DE DD y.kd,DE DB (hO C y.nx),DE DD y.lf]] results92 ?_;exact⟨rfl,rfl⟩
 have hx:x.left Q p=x:=by unfold Cw.left;rw[if_neg hp]
 rw[hx];have fN:¬((C.hd p:Int)=(hO C x.nx:Int)):=λe=>by
  rcases GO:x.nx with _|r
  ·rw[GO]at e
   change(C.hd p:Int)=((0:Nat):Int)at e;omega
  have hr:=(X.nx r GO).1;rw[GO,cj]at e;exact hp (by rw[GO,jm K (O.lv _ r hr).toAt L.toAt (by omega)])
 unfold iH qj;rw[hb];refine af func92 rfl ntmps92 rfl ?_;rintro F ⟨dx,hq⟩;refine bA ?_;refine zt 8 ?_ (e:=by rfl);refine aY ?_;refine zt 12 ?_ (e:=by exact congrArg (!·) (Ar));refine cY ?_;refine cM ?_ (e:=by exact decide_eq_false fN);refine aw ?_;refine j5 [ag a 137 [DC q,DC w,DE DD n,dv,tv,DE DD x.dn, .bool true,DE DD x.cl,DE DD x.kd,DE DB (hO C x.nx),DE DD x.lf]] results92 ?_;exact⟨rfl,rfl⟩
open Go Go.dQ Go.Proofs.YtcbcjolpdljbiaaGreat.Cs
theorem PH (a q w n:Nat)(dv tv:Value)(C:Cs)(K:Ok C)(Q:Dy)(O:jd C Q)(x:Cw)(X:dt n Q x)(p r:Nat)(L:Live C p):
  aK aaY 162 [DC a,DE DB (C.hd p),DE DB (C.hd r)] vz [iH a q w n dv tv C x]
   (λv H=>v= .tuple #[]/\H= [iH a q w n dv tv C (x.dp p r)]):=by
 obtain⟨m1,m2,m3,m4,m5,m6⟩:=bU K L.toAt;rcases hb:x.bg with _|_
 ·have hx:x.dp p r=x:=by unfold Cw.dp;rw[(X.no hb).1,if_neg (by simp)]
  rw[hx];unfold iH qj;rw[hb];refine af func162 rfl ntmps162 rfl ?_;intro F _;refine bA ?_;refine zf 10 ?_ (e:=by rfl);refine fu ?_;refine j5 [ag a 137 [DC q,DC w,DE DD n,dv,tv,DE DD x.dn, .bool false,DE DD x.cl,DE DD x.kd,DE DB (hO C x.nx),DE DD x.lf]] results162 ?_;exact⟨rfl,rfl⟩
 by_cases hp:x.nx=some p
 ·have hx:x.dp p r={x with nx:=some r}:=by unfold Cw.dp;rw[if_pos hp]
  rw[hx];unfold iH qj;rw[hp];dsimp only;rw[hb];refine af func162 rfl ntmps162 rfl ?_;intro F _;refine bA ?_;refine zt 10 ?_ (e:=by rfl);refine aY ?_;refine zt 14 ?_ (e:=by exact congrArg (!·) (Ar));refine cY ?_;refine eJ ?_ (e:=by exact decide_eq_true rfl);refine bA ?_;refine aB ?_;refine j5 [ag a 137 [DC q,DC w,DE DD n,dv,tv,DE DD x.dn, .bool true,DE DD x.cl,DE DD x.kd,DE DB (C.hd r),DE DD x.lf]] results162 ?_;exact⟨rfl,rfl⟩
 have hx:x.dp p r=x:=by unfold Cw.dp;rw[if_neg hp]
 rw[hx];have fN:¬((C.hd p:Int)=(hO C x.nx:Int)):=λe=>by
  rcases GO:x.nx with _|u
  ·rw[GO]at e
   change(C.hd p:Int)=((0:Nat):Int)at e;omega
  have hr:=(X.nx u GO).1;rw[GO,cj]at e;exact hp (by rw[GO,jm K (O.lv _ u hr).toAt L.toAt (by omega)])
 unfold iH qj;rw[hb];refine af func162 rfl ntmps162 rfl ?_;intro F _;refine bA ?_;refine zt 10 ?_ (e:=by rfl);refine aY ?_;refine zt 14 ?_ (e:=by exact congrArg (!·) (Ar));refine cY ?_;refine cM ?_ (e:=by exact decide_eq_false fN);refine aw ?_;refine j5 [ag a 137 [DC q,DC w,DE DD n,dv,tv,DE DD x.dn, .bool true,DE DD x.cl,DE DD x.kd,DE DB (hO C x.nx),DE DD x.lf]] results162 ?_;exact⟨rfl,rfl⟩
namespace Cw
def P5 (n:Nat)(Q:Dy):Nat->Cw->Bool×Cw
 |0,x=>(false,x)
 |f+1,x=>
  if x.nx≠none then(true,x)
  else if 1<x.kd then P5 n Q f (x.kX Q x.cl (x.kd-1))
  else if x.cl+1<n then P5 n Q f (x.kX Q (x.cl+1) 3)
  else(false,{x.again with dn:=IntKind.i64.wrap (x.dn+1)})
def ms (n:Nat)(x:Cw):Nat:=(n-x.cl)*3+x.kd
def start (Q:Dy)(x:Cw):Cw:=if x.bg then x else x.kX Q 0 3
def find (n:Nat)(Q:Dy)(x:Cw):Bool×Cw:=P5 n Q (3*n+4) (x.start Q)
theorem yr{n:Nat}{Q:Dy}:∀{f g:Nat} {x:Cw},1<=x.kd->x.ms n<f->x.ms n<g->P5 n Q f x=P5 n Q g x
 |0,_,_,_,h,_=>absurd h (ah2 _)
 |_,0,_,_,_,h=>absurd h (ah2 _)
 |f+1,g+1,x,hk,h1,h2=>by
  unfold P5;by_cases e1:x.nx≠none
  ·rw[if_pos e1,if_pos e1]
  rw[if_neg e1,if_neg e1];unfold ms at h1 h2;by_cases e2:1<x.kd
  ·rw[if_pos e2,if_pos e2]
   exact yr (by show 1<=x.kd-1;omega) (by unfold ms kX;dsimp only;omega) (by unfold ms kX;dsimp only;omega)
  rw[if_neg e2,if_neg e2];by_cases e3:x.cl+1<n
  ·rw[if_pos e3,if_pos e3]
   exact yr (by show 1<=3;omega) (by unfold ms kX;dsimp only;omega) (by unfold ms kX;dsimp only;omega)
  rw[if_neg e3,if_neg e3]
end Cw
theorem WQ (a q w b qb:Nat)(dv tv:Value)(C:Cs)(K:Ok C)(Q:Dy)(O:jd C Q)(x:Cw)(X:dt C.ae.length Q x):
  aK aaY 77 [DC a] (gW (rL q b qb C Q)) [iH a q w C.ae.length dv tv C x]
   (λv H=>∃r y,v= .bool r/\H= [iH a q w C.ae.length dv tv C y]/\x.find C.ae.length Q=(r,y)/\dt C.ae.length Q y/\(r=true->y.nx≠none)):=by
 have n0:=K.toFix.l0;have n1:=K.toFix.l1;have zP:dt C.ae.length Q (x.start Q)/\(x.start Q).bg=true:=by
  unfold Cw.start;split
  ·next h=>exact⟨X,h⟩
  exact⟨dt.kX K O (by omega) (by omega),rfl⟩
 have hR:x.find C.ae.length Q=Cw.P5 C.ae.length Q (3*C.ae.length+4) (x.start Q):=rfl;generalize hr:x.find C.ae.length Q=R at*;have hfu:∀f,(x.start Q).ms C.ae.length<f->Cw.P5 C.ae.length Q f (x.start Q)=R:=λf hf=>by
  rw[hR];have h2:=zP.1.go zP.2;exact Cw.yr h2.2.1 hf (by unfold Cw.ms;omega)
 have hlen:∀z:Cw,z.cl<C.ae.length->1<=z.kd->z.kd<=3->z.nx=none->z.ms C.ae.length<=3*C.ae.length+3:=λz h1 h2 h3 _=>by unfold Cw.ms;omega
 have kX:=λ(z:Cw) (c k:Nat) (hc:c<C.ae.length) (hk:1<=k/\k<=3)=>WR a q w C.ae.length b qb dv tv C K Q O z c k hc hk;have Tu:=λ(z:Cw) (c k:Nat) (hc:c<C.ae.length) (hk:1<=k/\k<=3)=>dt.kX K O (x:=z) hc hk;generalize hn:C.ae.length=n at*;unfold iH qj at*;refine af func77 rfl ntmps77 rfl ?_;intro F hq;refine bO ?_;refine cG (ι:=Cw) [8,9] (λz=>z=x.start Q) (λz=> []) (λz=> [ag a 137 [DC q,DC w,DE DD n,dv,tv,DE DD z.dn, .bool z.bg,DE DD z.cl,DE DD z.kd,DE DB (hO C z.nx),DE DD z.lf]]) ?_ ?_
 ·refine aA rfl ?_ ?_
  ·intro hb
   replace hb:=aG hb;refine bn ?_;refine zl Aq (kX x 0 3 (by omega) (by omega)) (.cons .here .nil) (λ_ le _=>bR hq le) ?_;refine aB ?_;refine Me ((x.kX Q 0 3)) ((by unfold Cw.start;rw[if_neg (by simp[hb])]))
  intro hb;replace hb:=aG hb;refine aw ?_;refine Me (x) ((by unfold Cw.start;rw[if_pos hb]))
 rintro z hz;subst hz;generalize x.start Q=s0 at*;refine bn ?_;refine Lo (ι:=Cw) (FZ [2,1,10,49]) (λz=>(dt n Q z/\z.bg=true)/\∀f,z.ms n<f->Cw.P5 n Q f z=R) (λz=> []) (λz=> [ag a 137 [DC q,DC w,DE DD n,dv,tv,DE DD z.dn, .bool z.bg,DE DD z.cl,DE DD z.kd,DE DB (hO C z.nx),DE DD z.lf]]) (λz=>z.ms n) (s0) ⟨zP,hfu⟩ ?_;rintro z hI
 try dsimp only at hI⊢
 obtain⟨⟨Z,zb⟩,hf⟩:=hI;obtain⟨g1,g2,g3⟩:=Z.go zb;have Xs:=hf (z.ms n+1) (Nat.lt_succ_self _);unfold Cw.P5 at Xs;rcases hz:z.nx with _|p
 ·rw[hz,if_neg (by simp)]at Xs
  refine cu ?_;by_cases h1:1<z.kd
  ·refine Cr ?_
   refine bO ?_;refine eJ ?_;refine iL 10 mix (.cons .here .nil) λF1 jq bV aI=> ?_;obtain⟨q1,_⟩:=bV;refine bD ?_;refine gG aI ?_;have ek:((z.kd:Int)-1)=((z.kd-1:Nat):Int):=by omega
   rw[ek];refine Tp (oZ (Aq (n:=118)) ((by have h:=kX z z.cl (z.kd-1) g1 (by omega);rw[hz]at h;exact h)) (.cons .here .nil) (λ_ le _=>bR hq le) ?_);refine bj ?_;refine Ro ((z.kX Q z.cl (z.kd-1))) (⟨⟨Tu z z.cl (z.kd-1) g1 (by omega),rfl⟩,λf Qr=>(by rw[if_pos h1]at Xs;exact(Cw.yr (by show 1<=z.kd-1;omega) Qr (by unfold Cw.ms Cw.kX;dsimp only;omega)).trans Xs)⟩) ((by unfold Cw.ms Cw.kX;dsimp only;omega))
  refine Cr ?_;refine bO ?_;refine cM ?_;by_cases h2:z.cl+1<n
  ·refine av ?_
   refine iL 10 mix (.cons .here .nil) λF2 zU eP dE=> ?_;obtain⟨q1,_⟩:=eP;refine bD ?_;refine gG dE ?_;refine bn ?_;refine eJ ?_;refine bL ?_;refine zl (Aq (n:=118)) ((by have h:=kX z (z.cl+1) 3 h2 (by omega);rw[hz]at h;exact h)) (.cons .here .nil) (λ_ le _=>bR hq le) ?_;refine bj ?_;refine Ro ((z.kX Q (z.cl+1) 3)) (⟨⟨Tu z (z.cl+1) 3 h2 (by omega),rfl⟩,λf Qr=>(by rw[if_neg h1,if_pos h2]at Xs;exact(Cw.yr (by show 1<=3;omega) Qr (by unfold Cw.ms Cw.kX;dsimp only;omega)).trans Xs)⟩) ((by unfold Cw.ms Cw.kX;dsimp only;omega))
  refine av ?_;refine iL 10 mix (.cons .here .nil) λF3 Xg rX fA=> ?_;obtain⟨q1,_⟩:=rX;refine bD ?_;refine gG fA ?_;refine bn ?_;refine cM ?_;refine bn ?_;refine zl (Aq (n:=86)) ((by have h:=BE a q w n dv tv C z;unfold iH qj at h;rw[hz]at h;exact h)) (.cons .here .nil) DA ?_;unfold Cw.again;refine cC ?_;rw[if_neg h1,if_neg h2]at Xs;refine Rt [ag a 137 [DC q,DC w,DE DD n,dv,tv,DE DD (IntKind.i64.wrap (z.dn+1)), .bool false,DE DD 0,DE DD 0,DE DB 0,DE DD 0]] results77 ?_;refine⟨false,{z.again with dn:=IntKind.i64.wrap (z.dn+1)},rfl,rfl,Xs.symm,⟨(λh=>by cases h),λ_=>⟨rfl,rfl,rfl,rfl⟩,(λ_ h=>by cases h),Nat.zero_le _⟩,(λh=>by cases h)⟩
 rw[hz,if_pos (by simp)]at Xs;have hp:=(Z.nx p hz).1;obtain⟨m1,m2,m3,m4,m5,m6⟩:=bU K (O.lv _ p hp).toAt;rw[cj];refine cY ?_;refine cM ?_;refine cu ?_;refine Rt [ag a 137 [DC q,DC w,DE DD n,dv,tv,DE DD z.dn, .bool z.bg,DE DD z.cl,DE DD z.kd,DE DB (C.hd p),DE DD z.lf]] results77 ?_;exact⟨true,z,rfl,by rw[hz,cj],Xs.symm,Z,λ_=>by rw[hz];simp⟩
end Go.Proofs.YtcbcjolpdljbiaaGreat
