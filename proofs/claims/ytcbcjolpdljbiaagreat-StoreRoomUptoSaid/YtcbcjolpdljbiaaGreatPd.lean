/- Part Pd of the proof. -/
import Derived.Test.YtcbcjolpdljbiaaGreatPc1
import Derived.KernelRfl
set_option maxRecDepth 100000
open Go.Proofs.YtcbcjolpdljbiaaGreat.T
namespace Go.dQ
open Go
variable {P:Program}
class ou (P:Program)(t:Nat):Prop where p:de P t=true
class Cus (P:Program)(t:Nat):Prop where p:(P.underlying t).isSome=true
class L3 (P:Program)(t:Nat)(k:outParam (TypeId×Nat)):Prop where p:ed P t=some k
class BT (P:Program)(t:Nat)(k:outParam (Nat)):Prop where p:cO P t=some k
class wY (P:Program)(t:Nat)(k:outParam FV):Prop where p:bW P t=some k
class wZ (P:Program)(t:Nat)(k:outParam (List (Nat×Nat))):Prop where p:jt P t=some k
class Cu (P:Program)(t:Nat)(k:outParam (TypeDesc)):Prop where p:P.underlying t=some k
class aX (P:Program)(t i:Nat)(k:outParam Nat):Prop where p:ao P t i=some k
variable {n:Nat} {ds:Dx} {F:dM} {Q:Exit->F7} {K:F7} {σ:aT} {H:Dz} {o:Oper} {d:Nat} {ops:Array Oper} {rest:List Oper}
theorem FaK{s f k b i:Nat}{x:Operand}(ho:o.op= .fieldAddr s x f:=by exact rfl)(hk:ao P s f=some k:=by exact aX.p)(hx:bC σ x=some (.pointer (some ⟨b,i,none⟩)):=by exact rfl):Yv P n ds F σ o (.pointer (some ⟨b,i+k,none⟩)):=Fa (hk:=hk) (ho:=ho) (hx:=hx)
theorem PnK{op:BinOp}{t yt e:TypeId}{x y:Operand}{p:FX}{b:Bool}(ho:o.op= .binOp op t x y yt:=by exact rfl)(ht:P.underlying t=some (.pointer e):=by exact Cu.p)(hx:bC σ x=some (.pointer p):=by exact rfl)(hy:bC σ y=some (.pointer none):=by exact rfl)(hop:(op= .eql/\b=p.isNone)\/(op= .neq/\b= !p.isNone):=by first|exact .inl ⟨rfl,rfl⟩|exact .inr ⟨rfl,rfl⟩):Yv P n ds F σ o (.bool b):=Pn (ht:=ht) (ho:=ho) (hx:=hx) (hy:=hy) (hop:=hop)
theorem LnK{t:TypeId}{x:Operand}{a:FX}{l c:Nat}{ek:TypeId×Nat}(ho:o.op= .call {callee:= .builtin .len,args:= #[x],argTypes:= #[t]}:=by exact rfl)(ht:ed P t=some ek:=by exact L3.p)(hx:bC σ x=some (.slice a l c):=by exact rfl):Yv P n ds F σ o (.int .i64 l):=Ln (ht:=ht) (ho:=ho) (hx:=hx)
theorem aiS{t k:TypeId}{x:Operand}{p:FX}{vs:FV}(h:G n ds F K ((d, .agg vs.toArray)::σ) H)(ho:o.op= .load t x:=by exact rfl)(hs:cO P t=some k:=by exact BT.p)(hd:o.dst=some d:=by exact rfl)(hx:bC σ x=some (.pointer p):=by exact rfl)(hk:x9 F H p k vs:=by
   first
   |exact Fm (by repeat (first|exact fO.here|apply fO.there)) (by exact rfl)
   |exact Dj (by repeat (first|exact fO.here|apply fO.there)) (by exact rfl)
   |exact Co (by assumption) (by first|assumption|exact rfl) (by first|rfl|assumption)
   |exact Cp (by assumption) (by exact rfl)
   |exact KP (by first|rfl|assumption) (by repeat (first|exact fO.here|apply fO.there)) (by first|assumption|exact rfl)) (hl:vs.length=k:=by first|rfl|(simp;omega)) (hdn:Nat.blt d n=true:=by exact rfl):G n ds F (λa w=>o.wp P a w K Q) σ H:=oLN (hs:=hs) (h:=h) (ho:=ho) (hd:=hd) (hx:=hx) (hk:=hk) (hl:=hl) (hdn:=hdn)
theorem LfNK{t k:TypeId}{x:Operand}{p:FX}{vs:FV}(ho:o.op= .load t x:=by exact rfl)(hs:cO P t=some k:=by exact BT.p)(hx:bC σ x=some (.pointer p):=by exact rfl)(hk:x9 F [] p k vs:=by
   first
   |exact Co (by assumption) (by first|assumption|exact rfl) (by first|rfl|assumption)
   |exact Cp (by assumption) (by exact rfl)) (hl:vs.length=k:=by first|rfl|(simp;omega)):Yv P n ds F σ o (.agg vs.toArray):=LfN (hs:=hs) (ho:=ho) (hx:=hx) (hk:=hk) (hl:=hl)
theorem oSWK{t k:TypeId}{x y:Operand}{b:Nat}{e:TypeId}{cs vs:FV}{f:aa->Dz}(h:G n ds F K σ (f (ag b e vs)))(ho:o.op= .store t x y:=by exact rfl)(hs:cO P t=some k:=by exact BT.p)(hd:o.dst=none:=by exact rfl)(hx:bC σ x=some (.pointer (some ⟨b,0,none⟩)):=by exact rfl)(hy:bC σ y=some (.agg vs.toArray):=by exact rfl)(hk:vs.length=k:=by exact rfl)(h1:∀v∈vs,v.oneCell'=true:=by simp[dq,Value.cells,Value.oneCell',aW])(hu:Pos H (ag b e cs) f:=by repeat (first|exact Pos.here|apply Pos.there))(hl:cs.length=k:=by exact rfl):G n ds F (λa w=>o.wp P a w K Q) σ H:=gE (hs:=hs) (h:=h) (ho:=ho) (hd:=hd) (hx:=hx) (hy:=hy) (hk:=hk) (h1:=h1) (hu:=hu) (hl:=hl)
theorem ajk{t e sz m b:Nat}{x y:Operand}{l c j:Nat}{k:IntKind}{i:Int}(ho:o.op= .indexAddr t x y:=by exact rfl)(ht:ed P t=some (e,sz):=by exact L3.p)(hx:bC σ x=some (.slice (some ⟨b,0,none⟩) l c):=by exact rfl)(hy:bC σ y=some (.int k i):=by exact rfl)(hj:i=(j:Int):=by first|exact rfl|omega)(hl:j<l:=by first|omega|assumption)(hm:j*sz=m:=by first|exact Nat.mul_one _|rfl):Yv P n ds F σ o (.pointer (some ⟨b,m,none⟩)):=IxZ (ht:=ht) (ho:=ho) (hx:=hx) (hy:=hy) (hj:=hj) (hl:=hl) (hm:=hm)
theorem CvK{s t:TypeId}{x:Operand}{k k':IntKind}{i z:Int}(ho:o.op= .convert s t x:=by exact rfl)(ht:P.underlying t=some (.int k):=by exact Cu.p)(hs:(P.underlying s).isSome=true:=by exact Cus.p)(hx:bC σ x=some (.int k' i):=by exact rfl)(hz:k.wrap i=z:=by first|exact wrap_i64 (by omega)|exact wrap_u64 (by omega)|exact wrap_u32 (by omega)|exact wrap_u16 (by omega)|exact wrap_u8 (by omega)|exact wrap_i32 (by omega)|exact rfl):Yv P n ds F σ o (.int k z):=Cv (ht:=ht) (hs:=hs) (ho:=ho) (hx:=hx) (hz:=hz)
theorem BdK{t:TypeId}{pl:List (Nat×Nat)}{zs vs cs:FV}{parts:List (Nat×Operand)}(ho:o.op= .build t parts.toArray:=by exact rfl)(hz:bW P t=some zs:=by exact wY.p)(hpl:jt P t=some pl:=by exact wZ.p)(hv:jQ σ (parts.map (·.2))=some vs:=by exact rfl)(hc:pO (λi=>pl[i]?) zs ((parts.map (·.1)).zip vs)=some cs:=by exact rfl):Yv P n ds F σ o (.agg cs.toArray):=Bd (hz:=hz) (hpl:=hpl) (ho:=ho) (hv:=hv) (hc:=hc)
theorem oLK{t:TypeId}{x:Operand}{p:FX}{v:Value}(h:G n ds F K ((d,v)::σ) H)(ho:o.op= .load t x:=by exact rfl)(hs:de P t=true:=by exact ou.p)(hd:o.dst=some d:=by exact rfl)(hx:bC σ x=some (.pointer p):=by exact rfl)(hk:Qa F H p v:=by
   first
   |exact Sa (by repeat (first|exact fO.here|apply fO.there)) (by first|exact rfl|assumption)
   |exact El (by assumption) (by first|assumption|exact rfl)
   |exact JE (by assumption) (by omega)
   |exact yd (by assumption) (by first|exact rfl|assumption)
   |exact Sc (by first|rfl|assumption) (by repeat (first|exact fO.here|apply fO.there)) (by first|assumption|exact rfl)
   |exact Yd (by assumption)) (hdn:Nat.blt d n=true:=by exact rfl):G n ds F (λa w=>o.wp P a w K Q) σ H:=oL (hs:=hs) (h:=h) (ho:=ho) (hd:=hd) (hx:=hx) (hk:=hk) (hdn:=hdn)
theorem oSK{t:TypeId}{x y:Operand}{b i:Nat}{e:TypeId}{cs:FV}{f:aa->Dz}{v:Value}(h:G n ds F K σ (f (ag b e (cs.set i v))))(ho:o.op= .store t x y:=by exact rfl)(hs:de P t=true:=by exact ou.p)(hd:o.dst=none:=by exact rfl)(hx:bC σ x=some (.pointer (some ⟨b,i,none⟩)):=by exact rfl)(hy:bC σ y=some v:=by exact rfl)(hu:Pos H (ag b e cs) f:=by repeat (first|exact Pos.here|apply Pos.there))(h1:v.oneCell'=true:=by first|rfl|decide|simp)(hi:i<cs.length:=by first|decide|(simp;done)|(simp;omega)|omega):
    G n ds F (λa w=>o.wp P a w K Q) σ H:=oS (hs:=hs) (h:=h) (ho:=ho) (hd:=hd) (hx:=hx) (hy:=hy) (hu:=hu) (h1:=h1) (hi:=hi)
theorem LfK{t:TypeId}{x:Operand}{p:FX}{v:Value}(ho:o.op= .load t x:=by exact rfl)(hs:de P t=true:=by exact ou.p)(hx:bC σ x=some (.pointer p):=by exact rfl)(hk:Qa F [] p v:=by
   first
   |exact El (by assumption) (by first|assumption|exact rfl)
   |exact JE (by assumption) (by omega)
   |exact yd (by assumption) (by first|exact rfl|assumption)
   |exact Yd (by assumption)):Yv P n ds F σ o v:=Lf (hs:=hs) (ho:=ho) (hx:=hx) (hk:=hk)
theorem aiR{t:TypeId}{x:Operand}{b i:Nat}{cs:FV}{v:Value}(h:G n ds F K ((d,v)::σ) H)(ho:o.op= .load t x:=by exact rfl)(hs:de P t=true:=by exact ou.p)(hd:o.dst=some d:=by exact rfl)(hx:bC σ x=some (.pointer (some ⟨b,i,none⟩)):=by exact rfl)(c:oJ H b cs:=by infer_instance)(hv:cs[i]?=some v:=by exact rfl)(hdn:Nat.blt d n=true:=by exact rfl):G n ds F (λa w=>o.wp P a w K Q) σ H:=oLc (hs:=hs) (h:=h) (ho:=ho) (hd:=hd) (hx:=hx) (c:=c) (hv:=hv) (hdn:=hdn)
theorem abN{t k:TypeId}{x:Operand}{b i:Nat}{cs vs:FV}(h:G n ds F K ((d, .agg vs.toArray)::σ) H)(ho:o.op= .load t x:=by exact rfl)(hs:cO P t=some k:=by exact BT.p)(hd:o.dst=some d:=by exact rfl)(hx:bC σ x=some (.pointer (some ⟨b,i,none⟩)):=by exact rfl)(c:oJ H b cs:=by infer_instance)(hv:(cs.drop i).take k=vs:=by exact rfl)(hl:vs.length=k:=by exact rfl)(hdn:Nat.blt d n=true:=by exact rfl):G n ds F (λa w=>o.wp P a w K Q) σ H:=oLcN (hs:=hs) (h:=h) (ho:=ho) (hd:=hd) (hx:=hx) (c:=c) (hv:=hv) (hl:=hl) (hdn:=hdn)
theorem aiQ{t:TypeId}{x y:Operand}{b i:Nat}{v:Value}{H':Dz}(h:G n ds F K σ H')(ho:o.op= .store t x y:=by exact rfl)(hs:de P t=true:=by exact ou.p)(hd:o.dst=none:=by exact rfl)(hx:bC σ x=some (.pointer (some ⟨b,i,none⟩)):=by exact rfl)(hy:bC σ y=some v:=by exact rfl)(c:G9 H b i v H':=by infer_instance)(h1:v.oneCell'=true:=by first|rfl|decide|simp):G n ds F (λa w=>o.wp P a w K Q) σ H:=oSc (hs:=hs) (h:=h) (ho:=ho) (hd:=hd) (hx:=hx) (hy:=hy) (c:=c) (h1:=h1)
theorem zf{K:F7}(t:Nat){b:Bool}(h:G n ds F K ((t, .bool false)::σ) H)(hl:look σ t=some (.bool b):=by exact rfl)(e:b=false:=by exact decide_eq_false (by omega)):G n ds F K σ H:=az hl (congrArg Value.bool e) h
theorem cM{c:Operand}{x y:Code}{b:Bool}(h:G n ds F (y.wp P Q) σ H)(hc:bC σ c=some (.bool b):=by exact rfl)(e:b=false:=by exact decide_eq_false (by omega)):G n ds F ((Code.cond c x y).wp P Q) σ H:=yS hc e h
theorem zt{K:F7}(t:Nat){b:Bool}(h:G n ds F K ((t, .bool true)::σ) H)(hl:look σ t=some (.bool b):=by exact rfl)(e:b=true:=by exact decide_eq_true (by omega)):G n ds F K σ H:=az hl (congrArg Value.bool e) h
theorem eJ{c:Operand}{x y:Code}{b:Bool}(h:G n ds F (x.wp P Q) σ H)(hc:bC σ c=some (.bool b):=by exact rfl)(e:b=true:=by exact decide_eq_true (by omega)):G n ds F ((Code.cond c x y).wp P Q) σ H:=yR hc e h
structure Hid (q:Prop):Prop where out:q
theorem aw{p q:Prop}(h:q)(f:Hid q->p:=by
  intro h
  first
    |with_reducible refine g_ne ?_
    |with_reducible refine iz ?_
    |with_reducible refine av ?_
    |with_reducible refine CO ?_
    |with_reducible refine akl ?_
    |with_reducible refine Cr ?_
    |with_reducible refine cq ?_
    |with_reducible refine aag ?_
    |with_reducible refine aB ?_
    |with_reducible refine Jf ?_
    |with_reducible refine Gn ?_
    |with_reducible refine aay ?_
    |with_reducible refine oW ?_
    |with_reducible refine afs ?_
    |with_reducible refine Gp ?_
    |refine Li Mv ?_
    |refine Li As ?_
    |refine Li FaK ?_
    |refine Li Cm ?_
    |refine Lp (oLK ?_)
    |refine Li Nc ?_
    |refine Lx ?_
    |refine Ti Mv ?_
    |refine Li Ex ?_
    |refine Ti FaK ?_
    |refine Li Im ?_
    |refine Tx ?_
    |refine Ti Nc ?_
    |refine Li Pf ?_
    |refine Ti LfK ?_
    |refine Li Pt ?_
    |refine Lp (oSK ?_)
    |refine Gq ?_
    |refine Li Nt ?_
    |refine Li LnK ?_
    |refine Tp (oLK ?_)
    |refine Ti As ?_
    |refine Lp (aiS ?_)
    |refine Ti Cm ?_
    |refine Li BdK ?_
    |refine yS rfl rfl ?_
    |refine yR rfl rfl ?_
    |refine yS rfl (by rfl) ?_
    |refine yR rfl (by rfl) ?_
    |refine Li CvK ?_
    |refine Ti Im ?_
    |refine Li PnK ?_
    |refine Li ajk ?_
    |refine Ti LfNK ?_
    |refine Lp (oSWK ?_)
    |refine Ti Pf ?_
    |refine Ti ajk ?_
    |refine Ti LnK ?_
    |refine Ti Pt ?_
    |refine Ti Ex ?_
    |refine Tp (oSK ?_)
    |refine Ti BdK ?_
    |refine fV rfl ?_
    |refine Lp (aiR ?_)
    |refine Lp (abN ?_)
    |refine Lp (aiQ ?_)
    |refine Tp (aiQ ?_)
    |refine Tp (aiR ?_)
    |refine Tp (aiS ?_)
    |refine Tp (abN ?_)
    |refine Tne ?_
    |refine Tn ?_
  exact h.out):p:=f ⟨h⟩
theorem bS{p q:Prop}(h:q)(f:Hid q->p:=by
  intro h
  try simp only[pH,cap]
  exact h.out):p:=f ⟨h⟩
theorem bn{p q:Prop}(h:q)(f:Hid q->p:=by
  intro h;refine aw ?_;refine aw ?_;exact h.out):p:=f ⟨h⟩
theorem bj{p q:Prop}(h:q)(f:Hid q->p:=by
  intro h;refine aw ?_;refine bn ?_;exact h.out):p:=f ⟨h⟩
theorem aY{p q:Prop}(h:q)(f:Hid q->p:=by
  intro h;refine bn ?_;refine bn ?_;exact h.out):p:=f ⟨h⟩
theorem ba{p q:Prop}(h:q)(f:Hid q->p:=by
  intro h;refine bn ?_;refine bj ?_;exact h.out):p:=f ⟨h⟩
theorem bA{p q:Prop}(h:q)(f:Hid q->p:=by
  intro h;refine bj ?_;refine bj ?_;exact h.out):p:=f ⟨h⟩
theorem bL{p q:Prop}(h:q)(f:Hid q->p:=by
  intro h;refine bj ?_;refine aY ?_;exact h.out):p:=f ⟨h⟩
theorem cY{p q:Prop}(h:q)(f:Hid q->p:=by
  intro h;refine aY ?_;refine aY ?_;exact h.out):p:=f ⟨h⟩
theorem cu{p q:Prop}(h:q)(f:Hid q->p:=by
  intro h;refine aY ?_;refine ba ?_;exact h.out):p:=f ⟨h⟩
theorem bD{p q:Prop}(h:q)(f:Hid q->p:=by
  intro h;refine ba ?_;refine ba ?_;exact h.out):p:=f ⟨h⟩
theorem bO{p q:Prop}(h:q)(f:Hid q->p:=by
  intro h;refine ba ?_;refine bA ?_;exact h.out):p:=f ⟨h⟩
theorem cL{p q:Prop}(h:q)(f:Hid q->p:=by
  intro h;refine bA ?_;refine bA ?_;exact h.out):p:=f ⟨h⟩
theorem gQ{p q:Prop}(h:q)(f:Hid q->p:=by
  intro h;refine bA ?_;refine bL ?_;exact h.out):p:=f ⟨h⟩
theorem fu{p q:Prop}(h:q)(f:Hid q->p:=by
  intro h;refine bL ?_;refine bL ?_;exact h.out):p:=f ⟨h⟩
theorem kT{p q:Prop}(h:q)(f:Hid q->p:=by
  intro h;refine bL ?_;refine cY ?_;exact h.out):p:=f ⟨h⟩
theorem pX{p q:Prop}(h:q)(f:Hid q->p:=by
  intro h;refine cY ?_;refine cY ?_;exact h.out):p:=f ⟨h⟩
theorem rS{p q:Prop}(h:q)(f:Hid q->p:=by
  intro h;refine cY ?_;refine cu ?_;exact h.out):p:=f ⟨h⟩
theorem sI{p q:Prop}(h:q)(f:Hid q->p:=by
  intro h;refine cu ?_;refine cu ?_;exact h.out):p:=f ⟨h⟩
theorem BV{p q:Prop}(h:q)(f:Hid q->p:=by
  intro h;refine cu ?_;refine bD ?_;exact h.out):p:=f ⟨h⟩
theorem cC{p q:Prop}(h:q)(f:Hid q->p:=by
  intro h;refine bD ?_;refine bD ?_;exact h.out):p:=f ⟨h⟩
theorem Dd{listed:Array Bool}{fuel:Nat}{S:World->Prop}{oi:Oper}(i:Nat)(hi:ops[i]?=some oi)(h:G n ds F (λa w=>oi.wp P a w (λa' w'=>S w'/\wpAnyH P .any ops Q S fuel (listed.setIfInBounds i true) a' w') Q) σ H)(hr:Region.ready .any ops listed= [i]:=by kernel_rfl)(hg:LY ops oi σ=true:=by exact rfl):G n ds F (wpAnyH P .any ops Q S (fuel+1) listed) σ H:=Dn i (Do hi h hg) hr
theorem oZ{f:FuncId}{xs:List Operand}{vs:FV}{rQ:Array TypeId}{pre:Hp->Prop}{A2 R:Dz}{x:Value}{y:Dz}{q:Prop}(kR:aC P f=true)(hc:aK P f vs pre A2 (λv H=>v=x/\H=y))(dg:iM H A2 R)(iu:∀h,Le F.h h->gW R h->pre h)(h:q)
 (ho:o.op= .call {callee:= .value (.func f),args:=xs.toArray,argTypes:=rQ}:=by exact rfl) (hv:jQ σ xs=some vs:=by exact rfl) (hd:o.dst=some d:=by exact rfl) (hdn:Nat.blt d n=true:=by exact rfl)
 (g:Hid q->G n ds F K ((d,x)::σ) (y++R):=by
  intro h
  try simp only[pH,cap]
  exact h.out):G n ds F (λa w=>o.wp P a w K Q) σ H:=oC kR ho hv hc dg iu (by rintro v H' ⟨rfl,rfl⟩;exact g ⟨h⟩) hd hdn
theorem zl{f:FuncId}{xs:List Operand}{vs:FV}{rQ:Array TypeId}{pre:Hp->Prop}{A2 R:Dz}{x:Value}{y:Dz}{q:Prop}(kR:aC P f=true)(hc:aK P f vs pre A2 (λv H=>v=x/\H=y))(dg:iM H A2 R)(iu:∀h,Le F.h h->gW R h->pre h)(h:q)
 (ho:o.op= .call {callee:= .value (.func f),args:=xs.toArray,argTypes:=rQ}:=by exact rfl) (hv:jQ σ xs=some vs:=by exact rfl) (hg:LY ops o σ=true:=by exact rfl) (hd:o.dst=some d:=by exact rfl) (hdn:Nat.blt d n=true:=by exact rfl)
 (g:Hid q->G n ds F (wpList P ops Q rest) ((d,x)::σ) (y++R):=by
  intro h
  try simp only[pH,cap]
  exact h.out):G n ds F (wpList P ops Q (o::rest)) σ H:=Lp (oC kR ho hv hc dg iu (by rintro v H' ⟨rfl,rfl⟩;exact g ⟨h⟩) hd hdn) hg
end Go.dQ
namespace Go.Proofs.YtcbcjolpdljbiaaGreat
open Tryz renaming prog -> FY
open Go Go.dQ
instance:BT FY 102 (5):=⟨Ig⟩
instance:BT FY 159 (8):=⟨eB⟩
instance:BT FY 202 (3):=⟨vE⟩
instance:BT FY 218 (4):=⟨s9⟩
instance:BT FY 23 (4):=⟨Rj⟩
instance:BT FY 231 (4):=⟨Ie⟩
instance:BT FY 26 (11):=⟨by kernel_rfl⟩
instance:BT FY 275 (2):=⟨by kernel_rfl⟩
instance:BT FY 276 (6):=⟨TJ⟩
instance:BT FY 29 (7):=⟨qC⟩
instance:BT FY 42 (11):=⟨JS⟩
instance:BT FY 52 (5):=⟨ey⟩
instance:BT FY 56 (9):=⟨nG⟩
instance:BT FY 62 (7):=⟨AO⟩
instance:BT FY 79 (3):=⟨Ri⟩
instance:aX FY 102 0 (0):=⟨by kernel_rfl⟩
instance:aX FY 124 0 (0):=⟨by kernel_rfl⟩
instance:aX FY 124 2 (2):=⟨by kernel_rfl⟩
instance:aX FY 124 3 (3):=⟨by kernel_rfl⟩
instance:aX FY 132 0 (0):=⟨by kernel_rfl⟩
instance:aX FY 132 1 (1):=⟨by kernel_rfl⟩
instance:aX FY 132 2 (2):=⟨by kernel_rfl⟩
instance:aX FY 137 0 (0):=⟨by kernel_rfl⟩
instance:aX FY 137 1 (1):=⟨by kernel_rfl⟩
instance:aX FY 137 10 (10):=⟨by kernel_rfl⟩
instance:aX FY 137 2 (2):=⟨by kernel_rfl⟩
instance:aX FY 137 3 (3):=⟨by kernel_rfl⟩
instance:aX FY 137 4 (4):=⟨by kernel_rfl⟩
instance:aX FY 137 5 (5):=⟨by kernel_rfl⟩
instance:aX FY 137 6 (6):=⟨by kernel_rfl⟩
instance:aX FY 137 7 (7):=⟨by kernel_rfl⟩
instance:aX FY 137 8 (8):=⟨by kernel_rfl⟩
instance:aX FY 137 9 (9):=⟨by kernel_rfl⟩
instance:aX FY 154 0 (0):=⟨by kernel_rfl⟩
instance:aX FY 154 1 (1):=⟨by kernel_rfl⟩
instance:aX FY 154 2 (2):=⟨by kernel_rfl⟩
instance:aX FY 154 3 (3):=⟨by kernel_rfl⟩
instance:aX FY 154 4 (4):=⟨by kernel_rfl⟩
instance:aX FY 154 5 (5):=⟨by kernel_rfl⟩
instance:aX FY 154 6 (6):=⟨by kernel_rfl⟩
instance:aX FY 154 7 (7):=⟨by kernel_rfl⟩
instance:aX FY 159 0 (0):=⟨by kernel_rfl⟩
instance:aX FY 159 1 (1):=⟨by kernel_rfl⟩
instance:aX FY 159 2 (2):=⟨by kernel_rfl⟩
instance:aX FY 159 3 (3):=⟨by kernel_rfl⟩
instance:aX FY 159 4 (4):=⟨by kernel_rfl⟩
instance:aX FY 159 5 (5):=⟨by kernel_rfl⟩
instance:aX FY 159 6 (6):=⟨by kernel_rfl⟩
instance:aX FY 159 7 (7):=⟨by kernel_rfl⟩
instance:aX FY 179 0 (0):=⟨by kernel_rfl⟩
instance:aX FY 179 1 (7):=⟨by kernel_rfl⟩
instance:aX FY 179 2 (8):=⟨by kernel_rfl⟩
instance:aX FY 179 3 (9):=⟨by kernel_rfl⟩
instance:aX FY 179 4 (10):=⟨by kernel_rfl⟩
instance:aX FY 179 5 (11):=⟨by kernel_rfl⟩
instance:aX FY 182 0 (0):=⟨by kernel_rfl⟩
instance:aX FY 182 1 (1):=⟨by kernel_rfl⟩
instance:aX FY 184 0 (0):=⟨by kernel_rfl⟩
instance:aX FY 184 1 (1):=⟨Bw⟩
instance:aX FY 184 2 (2):=⟨by kernel_rfl⟩
instance:aX FY 184 3 (3):=⟨by kernel_rfl⟩
instance:aX FY 196 0 (0):=⟨by kernel_rfl⟩
instance:aX FY 196 1 (1):=⟨by kernel_rfl⟩
instance:aX FY 196 2 (2):=⟨by kernel_rfl⟩
instance:aX FY 196 3 (3):=⟨by kernel_rfl⟩
instance:aX FY 200 0 (0):=⟨by kernel_rfl⟩
instance:aX FY 200 1 (1):=⟨by kernel_rfl⟩
instance:aX FY 200 2 (2):=⟨by kernel_rfl⟩
instance:aX FY 202 0 (0):=⟨by kernel_rfl⟩
instance:aX FY 202 1 (1):=⟨Bv⟩
instance:aX FY 202 2 (2):=⟨by kernel_rfl⟩
instance:aX FY 218 0 (0):=⟨by kernel_rfl⟩
instance:aX FY 218 1 (1):=⟨by kernel_rfl⟩
instance:aX FY 218 3 (3):=⟨by kernel_rfl⟩
instance:aX FY 220 0 (0):=⟨by kernel_rfl⟩
instance:aX FY 220 1 (1):=⟨by kernel_rfl⟩
instance:aX FY 220 2 (2):=⟨by kernel_rfl⟩
instance:aX FY 220 3 (3):=⟨by kernel_rfl⟩
instance:aX FY 220 4 (4):=⟨by kernel_rfl⟩
instance:aX FY 220 5 (5):=⟨by kernel_rfl⟩
instance:aX FY 220 6 (6):=⟨by kernel_rfl⟩
instance:aX FY 227 0 (0):=⟨by kernel_rfl⟩
instance:aX FY 227 1 (1):=⟨by kernel_rfl⟩
instance:aX FY 227 2 (2):=⟨by kernel_rfl⟩
instance:aX FY 227 3 (3):=⟨vW⟩
instance:aX FY 227 4 (4):=⟨rG⟩
instance:aX FY 227 5 (5):=⟨by kernel_rfl⟩
instance:aX FY 227 6 (6):=⟨by kernel_rfl⟩
instance:aX FY 231 0 (0):=⟨by kernel_rfl⟩
instance:aX FY 231 1 (1):=⟨by kernel_rfl⟩
instance:aX FY 231 2 (2):=⟨by kernel_rfl⟩
instance:aX FY 231 3 (3):=⟨by kernel_rfl⟩
instance:aX FY 23 0 (0):=⟨by kernel_rfl⟩
instance:aX FY 23 1 (1):=⟨by kernel_rfl⟩
instance:aX FY 23 2 (2):=⟨by kernel_rfl⟩
instance:aX FY 23 3 (3):=⟨FD⟩
instance:aX FY 249 0 (0):=⟨by kernel_rfl⟩
instance:aX FY 249 1 (1):=⟨by kernel_rfl⟩
instance:aX FY 26 0 (0):=⟨by kernel_rfl⟩
instance:aX FY 26 3 (3):=⟨by kernel_rfl⟩
instance:aX FY 26 6 (6):=⟨by kernel_rfl⟩
instance:aX FY 26 7 (10):=⟨by kernel_rfl⟩
instance:aX FY 275 0 (0):=⟨by kernel_rfl⟩
instance:aX FY 275 1 (1):=⟨by kernel_rfl⟩
instance:aX FY 29 0 (0):=⟨by kernel_rfl⟩
instance:aX FY 29 1 (1):=⟨yW⟩
instance:aX FY 29 2 (2):=⟨by kernel_rfl⟩
instance:aX FY 29 3 (3):=⟨by kernel_rfl⟩
instance:aX FY 29 4 (4):=⟨by kernel_rfl⟩
instance:aX FY 29 5 (5):=⟨by kernel_rfl⟩
instance:aX FY 29 6 (6):=⟨by kernel_rfl⟩
instance:aX FY 312 0 (0):=⟨by kernel_rfl⟩
instance:aX FY 312 1 (1):=⟨by kernel_rfl⟩
instance:aX FY 312 2 (2):=⟨by kernel_rfl⟩
instance:aX FY 42 0 (0):=⟨by kernel_rfl⟩
instance:aX FY 42 1 (1):=⟨by kernel_rfl⟩
instance:aX FY 42 2 (2):=⟨FC⟩
instance:aX FY 42 3 (3):=⟨FB⟩
instance:aX FY 42 4 (4):=⟨by kernel_rfl⟩
instance:aX FY 42 5 (5):=⟨by kernel_rfl⟩
instance:aX FY 42 6 (6):=⟨FA⟩
instance:aX FY 42 8 (8):=⟨by kernel_rfl⟩
instance:aX FY 52 0 (0):=⟨by kernel_rfl⟩
instance:aX FY 52 1 (1):=⟨by kernel_rfl⟩
instance:aX FY 52 3 (3):=⟨by kernel_rfl⟩
instance:aX FY 56 0 (0):=⟨by kernel_rfl⟩
instance:aX FY 56 1 (1):=⟨by kernel_rfl⟩
instance:aX FY 56 4 (4):=⟨by kernel_rfl⟩
instance:aX FY 62 0 (0):=⟨by kernel_rfl⟩
instance:aX FY 62 1 (1):=⟨by kernel_rfl⟩
instance:aX FY 62 2 (2):=⟨by kernel_rfl⟩
instance:aX FY 62 3 (3):=⟨by kernel_rfl⟩
instance:aX FY 62 4 (4):=⟨by kernel_rfl⟩
instance:aX FY 62 5 (5):=⟨by kernel_rfl⟩
instance:aX FY 79 0 (0):=⟨by kernel_rfl⟩
instance:aX FY 79 1 (1):=⟨by kernel_rfl⟩
instance:aX FY 79 2 (2):=⟨by kernel_rfl⟩
instance:aX FY 94 0 (0):=⟨by kernel_rfl⟩
instance:aX FY 94 1 (1):=⟨Fz⟩
instance:aX FY 94 2 (2):=⟨by kernel_rfl⟩
instance:aX FY 94 3 (3):=⟨by kernel_rfl⟩
instance:aX FY 94 4 (4):=⟨Fy⟩
instance:aX FY 94 5 (5):=⟨yU⟩
instance:aX FY 94 6 (6):=⟨Fx⟩
instance:aX FY 94 7 (7):=⟨by kernel_rfl⟩
instance:aX FY 96 0 (0):=⟨nN⟩
instance:aX FY 96 1 (8):=⟨by kernel_rfl⟩
instance:aX FY 96 2 (15):=⟨Fw⟩
instance:aX FY 96 3 (19):=⟨by kernel_rfl⟩
instance:aX FY 96 4 (20):=⟨by kernel_rfl⟩
instance:aX FY 96 5 (21):=⟨iW⟩
instance:aX FY 96 6 (28):=⟨by kernel_rfl⟩
instance:ou FY 104:=⟨bJ⟩
instance:ou FY 107:=⟨Hk⟩
instance:ou FY 135:=⟨by kernel_rfl⟩
instance:ou FY 140:=⟨by kernel_rfl⟩
instance:ou FY 149:=⟨qG⟩
instance:ou FY 152:=⟨Cg⟩
instance:ou FY 173:=⟨by kernel_rfl⟩
instance:ou FY 176:=⟨by kernel_rfl⟩
instance:ou FY 177:=⟨by kernel_rfl⟩
instance:ou FY 180:=⟨by kernel_rfl⟩
instance:ou FY 193:=⟨by kernel_rfl⟩
instance:ou FY 197:=⟨by kernel_rfl⟩
instance:ou FY 198:=⟨by kernel_rfl⟩
instance:ou FY 224:=⟨Cf⟩
instance:ou FY 225:=⟨by kernel_rfl⟩
instance:ou FY 24:=⟨by kernel_rfl⟩
instance:ou FY 273:=⟨by kernel_rfl⟩
instance:ou FY 3:=⟨bz⟩
instance:ou FY 30:=⟨QW⟩
instance:ou FY 35:=⟨si⟩
instance:ou FY 38:=⟨by kernel_rfl⟩
instance:ou FY 39:=⟨Ee⟩
instance:ou FY 4:=⟨gq⟩
instance:ou FY 49:=⟨by kernel_rfl⟩
instance:ou FY 5:=⟨rU⟩
instance:ou FY 85:=⟨QV⟩
instance:ou FY 86:=⟨tU⟩
instance:ou FY 87:=⟨by kernel_rfl⟩
instance:ou FY 88:=⟨Jz⟩
instance:ou FY 89:=⟨QU⟩
instance:ou FY 9:=⟨by kernel_rfl⟩
instance:ou FY 90:=⟨Ed⟩
instance:ou FY 91:=⟨AI⟩
instance:ou FY 92:=⟨abE⟩
instance:L3 FY 134 ((104,1)):=⟨RD⟩
instance:L3 FY 152 ((149,1)):=⟨by kernel_rfl⟩
instance:L3 FY 176 ((227,7)):=⟨by kernel_rfl⟩
instance:L3 FY 177 ((196,4)):=⟨by kernel_rfl⟩
instance:L3 FY 180 ((333,9)):=⟨by kernel_rfl⟩
instance:L3 FY 197 ((202,3)):=⟨iN⟩
instance:L3 FY 224 ((4,1)):=⟨by kernel_rfl⟩
instance:L3 FY 24 ((44,12)):=⟨Ec⟩
instance:L3 FY 30 ((3,1)):=⟨lp⟩
instance:L3 FY 38 ((9,1)):=⟨pI⟩
instance:L3 FY 39 ((5,1)):=⟨fx⟩
instance:wZ FY 102 ([(0,5)]):=⟨by kernel_rfl⟩
instance:wZ FY 124 ([(0,1),(1,1),(2,1),(3,1)]):=⟨by kernel_rfl⟩
instance:wZ FY 132 ([(0,1),(1,1),(2,1)]):=⟨by kernel_rfl⟩
instance:wZ FY 137 ([(0,1),(1,1),(2,1),(3,1),(4,1),(5,1),(6,1),(7,1),(8,1),(9,1),(10,1)]):=⟨by kernel_rfl⟩
instance:wZ FY 154 ([(0,1),(1,1),(2,1),(3,1),(4,1),(5,1),(6,1),(7,1)]):=⟨by kernel_rfl⟩
instance:wZ FY 159 ([(0,1),(1,1),(2,1),(3,1),(4,1),(5,1),(6,1),(7,1)]):=⟨fF⟩
instance:wZ FY 182 ([(0,1),(1,1)]):=⟨by kernel_rfl⟩
instance:wZ FY 184 ([(0,1),(1,1),(2,1),(3,1)]):=⟨by kernel_rfl⟩
instance:wZ FY 200 ([(0,1),(1,1),(2,1)]):=⟨by kernel_rfl⟩
instance:wZ FY 202 ([(0,1),(1,1),(2,1)]):=⟨by kernel_rfl⟩
instance:wZ FY 218 ([(0,1),(1,1),(2,1),(3,1)]):=⟨by kernel_rfl⟩
instance:wZ FY 220 ([(0,1),(1,1),(2,1),(3,1),(4,1),(5,1),(6,4)]):=⟨by kernel_rfl⟩
instance:wZ FY 227 ([(0,1),(1,1),(2,1),(3,1),(4,1),(5,1),(6,1)]):=⟨by kernel_rfl⟩
instance:wZ FY 23 ([(0,1),(1,1),(2,1),(3,1)]):=⟨by kernel_rfl⟩
instance:wZ FY 231 ([(0,1),(1,1),(2,1),(3,1)]):=⟨by kernel_rfl⟩
instance:wZ FY 249 ([(0,1),(1,1)]):=⟨by kernel_rfl⟩
instance:wZ FY 275 ([(0,1),(1,1)]):=⟨by kernel_rfl⟩
instance:wZ FY 29 ([(0,1),(1,1),(2,1),(3,1),(4,1),(5,1),(6,1)]):=⟨AG⟩
instance:wZ FY 42 ([(0,1),(1,1),(2,1),(3,1),(4,1),(5,1),(6,1),(7,1),(8,1),(9,1),(10,1)]):=⟨by kernel_rfl⟩
instance:wZ FY 52 ([(0,1),(1,1),(2,1),(3,1),(4,1)]):=⟨by kernel_rfl⟩
instance:wZ FY 56 ([(0,1),(1,1),(2,1),(3,1),(4,1),(5,1),(6,1),(7,1),(8,1)]):=⟨by kernel_rfl⟩
instance:wZ FY 62 ([(0,1),(1,1),(2,1),(3,1),(4,1),(5,1),(6,1)]):=⟨by kernel_rfl⟩
instance:wZ FY 94 ([(0,1),(1,1),(2,1),(3,1),(4,1),(5,1),(6,1),(7,1)]):=⟨by kernel_rfl⟩
instance:wZ FY 96 ([(0,8),(8,7),(15,4),(19,1),(20,1),(21,7),(28,1)]):=⟨by kernel_rfl⟩
instance:Cu FY 104 ((.int .u64)):=⟨by kernel_rfl⟩
instance:Cu FY 149 ((.int .u32)):=⟨QR⟩
instance:Cu FY 173 ((.pointer 249)):=⟨by kernel_rfl⟩
instance:Cu FY 221 ((.pointer 227)):=⟨by kernel_rfl⟩
instance:Cu FY 247 ((.int .u64)):=⟨by kernel_rfl⟩
instance:Cu FY 27 ((.pointer 96)):=⟨by kernel_rfl⟩
instance:Cu FY 295 ((.pointer 312)):=⟨abA⟩
instance:Cu FY 3 ((.int .i64)):=⟨u_3⟩
instance:Cu FY 35 ((.int .u64)):=⟨QE⟩
instance:Cu FY 5 ((.int .u8)):=⟨tL⟩
instance:Cu FY 85 ((.pointer 179)):=⟨by kernel_rfl⟩
instance:Cu FY 89 ((.pointer 200)):=⟨by kernel_rfl⟩
instance:Cu FY 92 ((.pointer 182)):=⟨by kernel_rfl⟩
instance:Cus FY 104:=⟨Hf⟩
instance:Cus FY 149:=⟨He⟩
instance:Cus FY 3:=⟨X0⟩
instance:Cus FY 35:=⟨Jy⟩
instance:Cus FY 5:=⟨adi⟩
instance:wY FY 102 ([vA,(.slice none 0 0),(.int .u64 0),(.string {data:= #[]}),(.slice none 0 0)]):=⟨Hd⟩
instance:wY FY 124 ([vA,(.int .u64 0),(.int .u64 0),vA]):=⟨by kernel_rfl⟩
instance:wY FY 132 ([vA,vA,(.int .u64 0)]):=⟨by kernel_rfl⟩
instance:wY FY 137 ([(.pointer none),(.pointer none),vA, .nilFunc, .nilFunc,vA,(.bool false),vA,vA,(.int .u64 0),vA]):=⟨by kernel_rfl⟩
instance:wY FY 154 ([(.pointer none),vA,vA,vA,(.slice none 0 0),(.slice none 0 0),vA,vA]):=⟨by kernel_rfl⟩
instance:wY FY 159 ([(.slice none 0 0),(.slice none 0 0),(.int .u64 0),vA,vA,(.int .u64 0),vA,vA]):=⟨bZ⟩
instance:wY FY 182 ([(.pointer none),(.slice none 0 0)]):=⟨by kernel_rfl⟩
instance:wY FY 184 ([(.pointer none),(.pointer none),vA,vA]):=⟨by kernel_rfl⟩
instance:wY FY 200 ([(.slice none 0 0),(.map none),(.int .u64 0)]):=⟨by kernel_rfl⟩
instance:wY FY 202 ([(.int .u64 0),vA,(.int .u64 0)]):=⟨yj⟩
instance:wY FY 218 ([vA,vA,vA,(.bool false)]):=⟨Rp⟩
instance:wY FY 220 ([(.pointer none), .nilFunc, .nilFunc, .nilFunc,(.slice none 0 0),vA,vA,vA,vA,(.bool false)]):=⟨by kernel_rfl⟩
instance:wY FY 227 ([(.bool false),(.bool false),vA,(.slice none 0 0),(.slice none 0 0),vA,(.map none)]):=⟨by kernel_rfl⟩
instance:wY FY 23 ([vA,vA,vA,vA]):=⟨abx⟩
instance:wY FY 231 ([(.pointer none),vA,vA,vA]):=⟨gZ⟩
instance:wY FY 249 ([vA,(.slice none 0 0)]):=⟨by kernel_rfl⟩
instance:wY FY 275 ([vA, .nilFunc]):=⟨Rn⟩
instance:wY FY 29 ([vA,vA,vA,vA,vA,vA,vA]):=⟨kA⟩
instance:wY FY 42 ([vA,(.slice none 0 0),(.int .u64 0),vA,(.int .u64 0),(.int .u64 0),(.slice none 0 0),(.bool false),(.bool false),(.slice none 0 0),(.string {data:= #[]})]):=⟨QP⟩
instance:wY FY 52 ([vA,(.slice none 0 0),(.int .u64 0),(.string {data:= #[]}),(.slice none 0 0)]):=⟨nz⟩
instance:wY FY 56 ([(.string {data:= #[]}),(.slice none 0 0),(.int .u64 0),vA,(.int .u64 0),vA,(.bool false),(.bool false),(.bool false)]):=⟨wk⟩
instance:wY FY 62 ([vA,vA,vA,vA,vA,vA,vA]):=⟨QO⟩
instance:wY FY 94 ([(.pointer none),(.pointer none),(.pointer none),(.pointer none),(.pointer none),(.pointer none),(.pointer none),(.pointer none)]):=⟨by kernel_rfl⟩
instance:wY FY 96 ([(.pointer none),(.pointer none),(.pointer none),(.pointer none),(.pointer none),(.pointer none),(.pointer none),(.pointer none),vA,vA,vA,vA,vA,vA,vA,vA,vA,vA,vA,(.int .u64 0),vA,vA,vA,vA,vA,vA,vA,vA,(.slice none 0 0)]):=⟨by kernel_rfl⟩
abbrev DC (b:Nat):Value:= .pointer (some ⟨b,0,none⟩)
theorem Au{p:Prop}[Decidable p](h:p:=by omega):decide p=true:=decide_eq_true h
theorem Ar{p:Prop}[Decidable p](h:¬p:=by omega):decide p=false:=decide_eq_false h
theorem DA{F:dM}{R:Dz}:∀h,Le F.h h->gW R h->True:=λ_ _ _=>trivial
end Go.Proofs.YtcbcjolpdljbiaaGreat
