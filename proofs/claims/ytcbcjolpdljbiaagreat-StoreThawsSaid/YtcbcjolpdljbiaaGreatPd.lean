/- Part Pd of the proof. -/
import Derived.Test.YtcbcjolpdljbiaaGreatPc1
import Derived.KernelRfl
set_option maxRecDepth 100000
open Go.Proofs.YtcbcjolpdljbiaaGreat.T
namespace Go.dC
open Go
variable {P:Program}
class oX (P:Program)(t:Nat):Prop where p:cY P t=true
class Cus (P:Program)(t:Nat):Prop where p:(P.underlying t).isSome=true
class PE (P:Program)(t:Nat)(k:outParam (TypeId×Nat)):Prop where p:dV P t=some k
class DQ (P:Program)(t:Nat)(k:outParam (Nat)):Prop where p:cP P t=some k
class wC (P:Program)(t:Nat)(k:outParam FJ):Prop where p:bS P t=some k
class wD (P:Program)(t:Nat)(k:outParam (List (Nat×Nat))):Prop where p:jj P t=some k
class Cu (P:Program)(t:Nat)(k:outParam (TypeDesc)):Prop where p:P.underlying t=some k
class aW (P:Program)(t i:Nat)(k:outParam Nat):Prop where p:aq P t i=some k
variable {n:Nat} {ds:Dq} {F:dG} {Q:Exit->F9} {K:F9} {σ:aP} {H:F8} {o:Oper} {d:Nat} {ops:Array Oper} {rest:List Oper}
theorem FaK{s f k b i:Nat}{x:Operand}(ho:o.op= .fieldAddr s x f:=by exact rfl)(hk:aq P s f=some k:=by exact aW.p)(hx:bo σ x=some (.pointer (some ⟨b,i,none⟩)):=by exact rfl):Yv P n ds F σ o (.pointer (some ⟨b,i+k,none⟩)):=Fa (hk:=hk) (ho:=ho) (hx:=hx)
theorem PnK{op:BinOp}{t yt e:TypeId}{x y:Operand}{p:FL}{b:Bool}(ho:o.op= .binOp op t x y yt:=by exact rfl)(ht:P.underlying t=some (.pointer e):=by exact Cu.p)(hx:bo σ x=some (.pointer p):=by exact rfl)(hy:bo σ y=some (.pointer none):=by exact rfl)(hop:(op= .eql/\b=p.isNone)\/(op= .neq/\b= !p.isNone):=by first|exact .inl ⟨rfl,rfl⟩|exact .inr ⟨rfl,rfl⟩):Yv P n ds F σ o (.bool b):=Pn (ht:=ht) (ho:=ho) (hx:=hx) (hy:=hy) (hop:=hop)
theorem LnK{t:TypeId}{x:Operand}{a:FL}{l c:Nat}{ek:TypeId×Nat}(ho:o.op= .call {callee:= .builtin .len,args:= #[x],argTypes:= #[t]}:=by exact rfl)(ht:dV P t=some ek:=by exact PE.p)(hx:bo σ x=some (.slice a l c):=by exact rfl):Yv P n ds F σ o (.int .i64 l):=Ln (ht:=ht) (ho:=ho) (hx:=hx)
theorem aht{t k:TypeId}{x:Operand}{p:FL}{vs:FJ}(h:G n ds F K ((d, .agg vs.toArray)::σ) H)(ho:o.op= .load t x:=by exact rfl)(hs:cP P t=some k:=by exact DQ.p)(hd:o.dst=some d:=by exact rfl)(hx:bo σ x=some (.pointer p):=by exact rfl)(hk:xP F H p k vs:=by
   first
   |exact E6 (by repeat (first|exact fP.here|apply fP.there)) (by exact rfl)
   |exact C5 (by repeat (first|exact fP.here|apply fP.there)) (by exact rfl)
   |exact BY (by assumption) (by first|assumption|exact rfl) (by first|rfl|assumption)
   |exact BZ (by assumption) (by exact rfl)
   |exact Kk (by first|rfl|assumption) (by repeat (first|exact fP.here|apply fP.there)) (by first|assumption|exact rfl)) (hl:vs.length=k:=by first|rfl|(simp;omega)) (hdn:Nat.blt d n=true:=by exact rfl):G n ds F (λa w=>o.wp P a w K Q) σ H:=oLN (hs:=hs) (h:=h) (ho:=ho) (hd:=hd) (hx:=hx) (hk:=hk) (hl:=hl) (hdn:=hdn)
theorem LfNK{t k:TypeId}{x:Operand}{p:FL}{vs:FJ}(ho:o.op= .load t x:=by exact rfl)(hs:cP P t=some k:=by exact DQ.p)(hx:bo σ x=some (.pointer p):=by exact rfl)(hk:xP F [] p k vs:=by
   first
   |exact BY (by assumption) (by first|assumption|exact rfl) (by first|rfl|assumption)
   |exact BZ (by assumption) (by exact rfl)) (hl:vs.length=k:=by first|rfl|(simp;omega)):Yv P n ds F σ o (.agg vs.toArray):=LfN (hs:=hs) (ho:=ho) (hx:=hx) (hk:=hk) (hl:=hl)
theorem oSWK{t k:TypeId}{x y:Operand}{b:Nat}{e:TypeId}{cs vs:FJ}{f:aa->F8}(h:G n ds F K σ (f (ag b e vs)))(ho:o.op= .store t x y:=by exact rfl)(hs:cP P t=some k:=by exact DQ.p)(hd:o.dst=none:=by exact rfl)(hx:bo σ x=some (.pointer (some ⟨b,0,none⟩)):=by exact rfl)(hy:bo σ y=some (.agg vs.toArray):=by exact rfl)(hk:vs.length=k:=by exact rfl)(h1:∀v∈vs,v.oneCell'=true:=by simp[cL,Value.cells,Value.oneCell',a8])(hu:Pos H (ag b e cs) f:=by repeat (first|exact Pos.here|apply Pos.there))(hl:cs.length=k:=by exact rfl):G n ds F (λa w=>o.wp P a w K Q) σ H:=jh (hs:=hs) (h:=h) (ho:=ho) (hd:=hd) (hx:=hx) (hy:=hy) (hk:=hk) (h1:=h1) (hu:=hu) (hl:=hl)
theorem ah0{t e sz m b:Nat}{x y:Operand}{l c j:Nat}{k:IntKind}{i:Int}(ho:o.op= .indexAddr t x y:=by exact rfl)(ht:dV P t=some (e,sz):=by exact PE.p)(hx:bo σ x=some (.slice (some ⟨b,0,none⟩) l c):=by exact rfl)(hy:bo σ y=some (.int k i):=by exact rfl)(hj:i=(j:Int):=by first|exact rfl|omega)(hl:j<l:=by first|omega|assumption)(hm:j*sz=m:=by first|exact Nat.mul_one _|rfl):Yv P n ds F σ o (.pointer (some ⟨b,m,none⟩)):=IxZ (ht:=ht) (ho:=ho) (hx:=hx) (hy:=hy) (hj:=hj) (hl:=hl) (hm:=hm)
theorem CvK{s t:TypeId}{x:Operand}{k k':IntKind}{i z:Int}(ho:o.op= .convert s t x:=by exact rfl)(ht:P.underlying t=some (.int k):=by exact Cu.p)(hs:(P.underlying s).isSome=true:=by exact Cus.p)(hx:bo σ x=some (.int k' i):=by exact rfl)(hz:k.wrap i=z:=by first|exact wrap_i64 (by omega)|exact wrap_u64 (by omega)|exact wrap_u32 (by omega)|exact wrap_u16 (by omega)|exact wrap_u8 (by omega)|exact wrap_i32 (by omega)|exact rfl):Yv P n ds F σ o (.int k z):=Cv (ht:=ht) (hs:=hs) (ho:=ho) (hx:=hx) (hz:=hz)
theorem BdK{t:TypeId}{pl:List (Nat×Nat)}{zs vs cs:FJ}{parts:List (Nat×Operand)}(ho:o.op= .build t parts.toArray:=by exact rfl)(hz:bS P t=some zs:=by exact wC.p)(hpl:jj P t=some pl:=by exact wD.p)(hv:jL σ (parts.map (·.2))=some vs:=by exact rfl)(hc:o9 (λi=>pl[i]?) zs ((parts.map (·.1)).zip vs)=some cs:=by exact rfl):Yv P n ds F σ o (.agg cs.toArray):=Bd (hz:=hz) (hpl:=hpl) (ho:=ho) (hv:=hv) (hc:=hc)
theorem oLK{t:TypeId}{x:Operand}{p:FL}{v:Value}(h:G n ds F K ((d,v)::σ) H)(ho:o.op= .load t x:=by exact rfl)(hs:cY P t=true:=by exact oX.p)(hd:o.dst=some d:=by exact rfl)(hx:bo σ x=some (.pointer p):=by exact rfl)(hk:PB F H p v:=by
   first
   |exact Rv (by repeat (first|exact fP.here|apply fP.there)) (by first|exact rfl|assumption)
   |exact Ea (by assumption) (by first|assumption|exact rfl)
   |exact Ji (by assumption) (by omega)
   |exact xU (by assumption) (by first|exact rfl|assumption)
   |exact Rx (by first|rfl|assumption) (by repeat (first|exact fP.here|apply fP.there)) (by first|assumption|exact rfl)
   |exact Xe (by assumption)) (hdn:Nat.blt d n=true:=by exact rfl):G n ds F (λa w=>o.wp P a w K Q) σ H:=oL (hs:=hs) (h:=h) (ho:=ho) (hd:=hd) (hx:=hx) (hk:=hk) (hdn:=hdn)
theorem oSK{t:TypeId}{x y:Operand}{b i:Nat}{e:TypeId}{cs:FJ}{f:aa->F8}{v:Value}(h:G n ds F K σ (f (ag b e (cs.set i v))))(ho:o.op= .store t x y:=by exact rfl)(hs:cY P t=true:=by exact oX.p)(hd:o.dst=none:=by exact rfl)(hx:bo σ x=some (.pointer (some ⟨b,i,none⟩)):=by exact rfl)(hy:bo σ y=some v:=by exact rfl)(hu:Pos H (ag b e cs) f:=by repeat (first|exact Pos.here|apply Pos.there))(h1:v.oneCell'=true:=by first|rfl|decide|simp)(hi:i<cs.length:=by first|decide|(simp;done)|(simp;omega)|omega):
    G n ds F (λa w=>o.wp P a w K Q) σ H:=oS (hs:=hs) (h:=h) (ho:=ho) (hd:=hd) (hx:=hx) (hy:=hy) (hu:=hu) (h1:=h1) (hi:=hi)
theorem LfK{t:TypeId}{x:Operand}{p:FL}{v:Value}(ho:o.op= .load t x:=by exact rfl)(hs:cY P t=true:=by exact oX.p)(hx:bo σ x=some (.pointer p):=by exact rfl)(hk:PB F [] p v:=by
   first
   |exact Ea (by assumption) (by first|assumption|exact rfl)
   |exact Ji (by assumption) (by omega)
   |exact xU (by assumption) (by first|exact rfl|assumption)
   |exact Xe (by assumption)):Yv P n ds F σ o v:=Lf (hs:=hs) (ho:=ho) (hx:=hx) (hk:=hk)
theorem ahs{t:TypeId}{x:Operand}{b i:Nat}{cs:FJ}{v:Value}(h:G n ds F K ((d,v)::σ) H)(ho:o.op= .load t x:=by exact rfl)(hs:cY P t=true:=by exact oX.p)(hd:o.dst=some d:=by exact rfl)(hx:bo σ x=some (.pointer (some ⟨b,i,none⟩)):=by exact rfl)(c:oe H b cs:=by infer_instance)(hv:cs[i]?=some v:=by exact rfl)(hdn:Nat.blt d n=true:=by exact rfl):G n ds F (λa w=>o.wp P a w K Q) σ H:=oLc (hs:=hs) (h:=h) (ho:=ho) (hd:=hd) (hx:=hx) (c:=c) (hv:=hv) (hdn:=hdn)
theorem aaF{t k:TypeId}{x:Operand}{b i:Nat}{cs vs:FJ}(h:G n ds F K ((d, .agg vs.toArray)::σ) H)(ho:o.op= .load t x:=by exact rfl)(hs:cP P t=some k:=by exact DQ.p)(hd:o.dst=some d:=by exact rfl)(hx:bo σ x=some (.pointer (some ⟨b,i,none⟩)):=by exact rfl)(c:oe H b cs:=by infer_instance)(hv:(cs.drop i).take k=vs:=by exact rfl)(hl:vs.length=k:=by exact rfl)(hdn:Nat.blt d n=true:=by exact rfl):G n ds F (λa w=>o.wp P a w K Q) σ H:=oLcN (hs:=hs) (h:=h) (ho:=ho) (hd:=hd) (hx:=hx) (c:=c) (hv:=hv) (hl:=hl) (hdn:=hdn)
theorem ahr{t:TypeId}{x y:Operand}{b i:Nat}{v:Value}{H':F8}(h:G n ds F K σ H')(ho:o.op= .store t x y:=by exact rfl)(hs:cY P t=true:=by exact oX.p)(hd:o.dst=none:=by exact rfl)(hx:bo σ x=some (.pointer (some ⟨b,i,none⟩)):=by exact rfl)(hy:bo σ y=some v:=by exact rfl)(c:GO H b i v H':=by infer_instance)(h1:v.oneCell'=true:=by first|rfl|decide|simp):G n ds F (λa w=>o.wp P a w K Q) σ H:=oSc (hs:=hs) (h:=h) (ho:=ho) (hd:=hd) (hx:=hx) (hy:=hy) (c:=c) (h1:=h1)
theorem zf{K:F9}(t:Nat){b:Bool}(h:G n ds F K ((t, .bool false)::σ) H)(hl:look σ t=some (.bool b):=by exact rfl)(e:b=false:=by exact decide_eq_false (by omega)):G n ds F K σ H:=aA hl (congrArg Value.bool e) h
theorem cN{c:Operand}{x y:Code}{b:Bool}(h:G n ds F (y.wp P Q) σ H)(hc:bo σ c=some (.bool b):=by exact rfl)(e:b=false:=by exact decide_eq_false (by omega)):G n ds F ((Code.cond c x y).wp P Q) σ H:=yK hc e h
theorem zt{K:F9}(t:Nat){b:Bool}(h:G n ds F K ((t, .bool true)::σ) H)(hl:look σ t=some (.bool b):=by exact rfl)(e:b=true:=by exact decide_eq_true (by omega)):G n ds F K σ H:=aA hl (congrArg Value.bool e) h
theorem fe{c:Operand}{x y:Code}{b:Bool}(h:G n ds F (x.wp P Q) σ H)(hc:bo σ c=some (.bool b):=by exact rfl)(e:b=true:=by exact decide_eq_true (by omega)):G n ds F ((Code.cond c x y).wp P Q) σ H:=yJ hc e h
structure Hid (q:Prop):Prop where out:q
theorem aw{p q:Prop}(h:q)(f:Hid q->p:=by
  intro h
  first
    |with_reducible refine g_ne ?_
    |with_reducible refine gK ?_
    |with_reducible refine av ?_
    |with_reducible refine Cr ?_
    |with_reducible refine aiZ ?_
    |with_reducible refine B5 ?_
    |with_reducible refine iN ?_
    |with_reducible refine Zf ?_
    |with_reducible refine aD ?_
    |with_reducible refine IS ?_
    |with_reducible refine mF ?_
    |with_reducible refine Zv ?_
    |with_reducible refine qE ?_
    |with_reducible refine aea ?_
    |with_reducible refine Ga ?_
    |refine Li Mv ?_
    |refine Li As ?_
    |refine Li FaK ?_
    |refine Li Cm ?_
    |refine Lp (oLK ?_)
    |refine Li Nc ?_
    |refine Lx ?_
    |refine Ti Mv ?_
    |refine Li Ex ?_
    |refine Ti FaK ?_
    |refine Li Im ?_
    |refine Tx ?_
    |refine Ti Nc ?_
    |refine Li Pf ?_
    |refine Ti LfK ?_
    |refine Li Pt ?_
    |refine Lp (oSK ?_)
    |refine Gb ?_
    |refine Li Nt ?_
    |refine Li LnK ?_
    |refine Tp (oLK ?_)
    |refine Ti As ?_
    |refine Lp (aht ?_)
    |refine Ti Cm ?_
    |refine Li BdK ?_
    |refine yK rfl rfl ?_
    |refine yJ rfl rfl ?_
    |refine yK rfl (by rfl) ?_
    |refine yJ rfl (by rfl) ?_
    |refine Li CvK ?_
    |refine Ti Im ?_
    |refine Li PnK ?_
    |refine Li ah0 ?_
    |refine Ti LfNK ?_
    |refine Lp (oSWK ?_)
    |refine Ti Pf ?_
    |refine Ti ah0 ?_
    |refine Ti LnK ?_
    |refine Ti Pt ?_
    |refine Ti Ex ?_
    |refine Tp (oSK ?_)
    |refine Ti BdK ?_
    |refine jf rfl ?_
    |refine Lp (ahs ?_)
    |refine Lp (aaF ?_)
    |refine Lp (ahr ?_)
    |refine Tp (ahr ?_)
    |refine Tp (ahs ?_)
    |refine Tp (aht ?_)
    |refine Tp (aaF ?_)
    |refine Tne ?_
    |refine Tn ?_
  exact h.out):p:=f ⟨h⟩
theorem bR{p q:Prop}(h:q)(f:Hid q->p:=by
  intro h
  try simp only[oU,cap]
  exact h.out):p:=f ⟨h⟩
theorem bd{p q:Prop}(h:q)(f:Hid q->p:=by
  intro h;refine aw ?_;refine aw ?_;exact h.out):p:=f ⟨h⟩
theorem bq{p q:Prop}(h:q)(f:Hid q->p:=by
  intro h;refine aw ?_;refine bd ?_;exact h.out):p:=f ⟨h⟩
theorem bc{p q:Prop}(h:q)(f:Hid q->p:=by
  intro h;refine bd ?_;refine bd ?_;exact h.out):p:=f ⟨h⟩
theorem bn{p q:Prop}(h:q)(f:Hid q->p:=by
  intro h;refine bd ?_;refine bq ?_;exact h.out):p:=f ⟨h⟩
theorem bs{p q:Prop}(h:q)(f:Hid q->p:=by
  intro h;refine bq ?_;refine bq ?_;exact h.out):p:=f ⟨h⟩
theorem bK{p q:Prop}(h:q)(f:Hid q->p:=by
  intro h;refine bq ?_;refine bc ?_;exact h.out):p:=f ⟨h⟩
theorem cV{p q:Prop}(h:q)(f:Hid q->p:=by
  intro h;refine bc ?_;refine bc ?_;exact h.out):p:=f ⟨h⟩
theorem cA{p q:Prop}(h:q)(f:Hid q->p:=by
  intro h;refine bc ?_;refine bn ?_;exact h.out):p:=f ⟨h⟩
theorem bB{p q:Prop}(h:q)(f:Hid q->p:=by
  intro h;refine bn ?_;refine bn ?_;exact h.out):p:=f ⟨h⟩
theorem bP{p q:Prop}(h:q)(f:Hid q->p:=by
  intro h;refine bn ?_;refine bs ?_;exact h.out):p:=f ⟨h⟩
theorem dL{p q:Prop}(h:q)(f:Hid q->p:=by
  intro h;refine bs ?_;refine bs ?_;exact h.out):p:=f ⟨h⟩
theorem gJ{p q:Prop}(h:q)(f:Hid q->p:=by
  intro h;refine bs ?_;refine bK ?_;exact h.out):p:=f ⟨h⟩
theorem fX{p q:Prop}(h:q)(f:Hid q->p:=by
  intro h;refine bK ?_;refine bK ?_;exact h.out):p:=f ⟨h⟩
theorem lx{p q:Prop}(h:q)(f:Hid q->p:=by
  intro h;refine bK ?_;refine cV ?_;exact h.out):p:=f ⟨h⟩
theorem ri{p q:Prop}(h:q)(f:Hid q->p:=by
  intro h;refine cV ?_;refine cV ?_;exact h.out):p:=f ⟨h⟩
theorem rh{p q:Prop}(h:q)(f:Hid q->p:=by
  intro h;refine cV ?_;refine cA ?_;exact h.out):p:=f ⟨h⟩
theorem rM{p q:Prop}(h:q)(f:Hid q->p:=by
  intro h;refine cA ?_;refine cA ?_;exact h.out):p:=f ⟨h⟩
theorem Lu{p q:Prop}(h:q)(f:Hid q->p:=by
  intro h;refine cA ?_;refine bB ?_;exact h.out):p:=f ⟨h⟩
theorem cK{p q:Prop}(h:q)(f:Hid q->p:=by
  intro h;refine bB ?_;refine bB ?_;exact h.out):p:=f ⟨h⟩
theorem Dd{listed:Array Bool}{fuel:Nat}{S:World->Prop}{oi:Oper}(i:Nat)(hi:ops[i]?=some oi)(h:G n ds F (λa w=>oi.wp P a w (λa' w'=>S w'/\wpAnyH P .any ops Q S fuel (listed.setIfInBounds i true) a' w') Q) σ H)(hr:Region.ready .any ops listed= [i]:=by kernel_rfl)(hg:Lh ops oi σ=true:=by exact rfl):G n ds F (wpAnyH P .any ops Q S (fuel+1) listed) σ H:=Dn i (Do hi h hg) hr
theorem oZ{f:FuncId}{xs:List Operand}{vs:FJ}{q8:Array TypeId}{pre:Hp->Prop}{A2 R:F8}{x:Value}{y:F8}{q:Prop}(kH:ay P f=true)(hc:aG P f vs pre A2 (λv H=>v=x/\H=y))(c9:iA H A2 R)(gX:∀h,Le F.h h->gG R h->pre h)(h:q)
 (ho:o.op= .call {callee:= .value (.func f),args:=xs.toArray,argTypes:=q8}:=by exact rfl) (hv:jL σ xs=some vs:=by exact rfl) (hd:o.dst=some d:=by exact rfl) (hdn:Nat.blt d n=true:=by exact rfl)
 (g:Hid q->G n ds F K ((d,x)::σ) (y++R):=by
  intro h
  try simp only[oU,cap]
  exact h.out):G n ds F (λa w=>o.wp P a w K Q) σ H:=oC kH ho hv hc c9 gX (by rintro v H' ⟨rfl,rfl⟩;exact g ⟨h⟩) hd hdn
theorem zl{f:FuncId}{xs:List Operand}{vs:FJ}{q8:Array TypeId}{pre:Hp->Prop}{A2 R:F8}{x:Value}{y:F8}{q:Prop}(kH:ay P f=true)(hc:aG P f vs pre A2 (λv H=>v=x/\H=y))(c9:iA H A2 R)(gX:∀h,Le F.h h->gG R h->pre h)(h:q)
 (ho:o.op= .call {callee:= .value (.func f),args:=xs.toArray,argTypes:=q8}:=by exact rfl) (hv:jL σ xs=some vs:=by exact rfl) (hg:Lh ops o σ=true:=by exact rfl) (hd:o.dst=some d:=by exact rfl) (hdn:Nat.blt d n=true:=by exact rfl)
 (g:Hid q->G n ds F (wpList P ops Q rest) ((d,x)::σ) (y++R):=by
  intro h
  try simp only[oU,cap]
  exact h.out):G n ds F (wpList P ops Q (o::rest)) σ H:=Lp (oC kH ho hv hc c9 gX (by rintro v H' ⟨rfl,rfl⟩;exact g ⟨h⟩) hd hdn) hg
end Go.dC
namespace Go.Proofs.YtcbcjolpdljbiaaGreat
open Tryz renaming prog -> FM
open Go Go.dC
instance:DQ FM 102 (5):=⟨HU⟩
instance:DQ FM 159 (8):=⟨dX⟩
instance:DQ FM 202 (3):=⟨uX⟩
instance:DQ FM 218 (4):=⟨r9⟩
instance:DQ FM 23 (4):=⟨QN⟩
instance:DQ FM 231 (4):=⟨HT⟩
instance:DQ FM 275 (2):=⟨by kernel_rfl⟩
instance:DQ FM 276 (6):=⟨SZ⟩
instance:DQ FM 29 (7):=⟨QM⟩
instance:DQ FM 42 (11):=⟨by kernel_rfl⟩
instance:DQ FM 52 (5):=⟨ez⟩
instance:DQ FM 56 (9):=⟨pS⟩
instance:DQ FM 62 (7):=⟨Eo⟩
instance:aW FM 102 0 (0):=⟨by kernel_rfl⟩
instance:aW FM 124 0 (0):=⟨by kernel_rfl⟩
instance:aW FM 124 2 (2):=⟨by kernel_rfl⟩
instance:aW FM 124 3 (3):=⟨by kernel_rfl⟩
instance:aW FM 132 0 (0):=⟨by kernel_rfl⟩
instance:aW FM 132 1 (1):=⟨by kernel_rfl⟩
instance:aW FM 132 2 (2):=⟨by kernel_rfl⟩
instance:aW FM 137 0 (0):=⟨by kernel_rfl⟩
instance:aW FM 137 1 (1):=⟨by kernel_rfl⟩
instance:aW FM 137 10 (10):=⟨by kernel_rfl⟩
instance:aW FM 137 2 (2):=⟨by kernel_rfl⟩
instance:aW FM 137 3 (3):=⟨by kernel_rfl⟩
instance:aW FM 137 4 (4):=⟨by kernel_rfl⟩
instance:aW FM 137 5 (5):=⟨by kernel_rfl⟩
instance:aW FM 137 6 (6):=⟨by kernel_rfl⟩
instance:aW FM 137 7 (7):=⟨by kernel_rfl⟩
instance:aW FM 137 8 (8):=⟨by kernel_rfl⟩
instance:aW FM 137 9 (9):=⟨by kernel_rfl⟩
instance:aW FM 154 0 (0):=⟨by kernel_rfl⟩
instance:aW FM 154 1 (1):=⟨by kernel_rfl⟩
instance:aW FM 154 2 (2):=⟨by kernel_rfl⟩
instance:aW FM 154 3 (3):=⟨by kernel_rfl⟩
instance:aW FM 154 4 (4):=⟨by kernel_rfl⟩
instance:aW FM 154 5 (5):=⟨by kernel_rfl⟩
instance:aW FM 154 6 (6):=⟨by kernel_rfl⟩
instance:aW FM 154 7 (7):=⟨by kernel_rfl⟩
instance:aW FM 159 0 (0):=⟨by kernel_rfl⟩
instance:aW FM 159 1 (1):=⟨by kernel_rfl⟩
instance:aW FM 159 2 (2):=⟨by kernel_rfl⟩
instance:aW FM 159 3 (3):=⟨by kernel_rfl⟩
instance:aW FM 159 4 (4):=⟨by kernel_rfl⟩
instance:aW FM 159 5 (5):=⟨by kernel_rfl⟩
instance:aW FM 159 6 (6):=⟨by kernel_rfl⟩
instance:aW FM 159 7 (7):=⟨by kernel_rfl⟩
instance:aW FM 179 0 (0):=⟨by kernel_rfl⟩
instance:aW FM 179 1 (7):=⟨by kernel_rfl⟩
instance:aW FM 179 2 (8):=⟨by kernel_rfl⟩
instance:aW FM 179 3 (9):=⟨by kernel_rfl⟩
instance:aW FM 179 4 (10):=⟨by kernel_rfl⟩
instance:aW FM 179 5 (11):=⟨by kernel_rfl⟩
instance:aW FM 182 0 (0):=⟨by kernel_rfl⟩
instance:aW FM 182 1 (1):=⟨by kernel_rfl⟩
instance:aW FM 184 0 (0):=⟨by kernel_rfl⟩
instance:aW FM 184 1 (1):=⟨Be⟩
instance:aW FM 184 2 (2):=⟨by kernel_rfl⟩
instance:aW FM 184 3 (3):=⟨by kernel_rfl⟩
instance:aW FM 196 0 (0):=⟨by kernel_rfl⟩
instance:aW FM 196 1 (1):=⟨by kernel_rfl⟩
instance:aW FM 196 2 (2):=⟨by kernel_rfl⟩
instance:aW FM 196 3 (3):=⟨by kernel_rfl⟩
instance:aW FM 200 0 (0):=⟨by kernel_rfl⟩
instance:aW FM 200 1 (1):=⟨by kernel_rfl⟩
instance:aW FM 200 2 (2):=⟨by kernel_rfl⟩
instance:aW FM 202 0 (0):=⟨by kernel_rfl⟩
instance:aW FM 202 1 (1):=⟨Bc⟩
instance:aW FM 202 2 (2):=⟨by kernel_rfl⟩
instance:aW FM 218 0 (0):=⟨by kernel_rfl⟩
instance:aW FM 218 1 (1):=⟨by kernel_rfl⟩
instance:aW FM 218 3 (3):=⟨by kernel_rfl⟩
instance:aW FM 220 0 (0):=⟨by kernel_rfl⟩
instance:aW FM 220 1 (1):=⟨by kernel_rfl⟩
instance:aW FM 220 2 (2):=⟨by kernel_rfl⟩
instance:aW FM 220 3 (3):=⟨by kernel_rfl⟩
instance:aW FM 220 4 (4):=⟨by kernel_rfl⟩
instance:aW FM 220 5 (5):=⟨by kernel_rfl⟩
instance:aW FM 220 6 (6):=⟨by kernel_rfl⟩
instance:aW FM 227 0 (0):=⟨by kernel_rfl⟩
instance:aW FM 227 1 (1):=⟨by kernel_rfl⟩
instance:aW FM 227 2 (2):=⟨by kernel_rfl⟩
instance:aW FM 227 3 (3):=⟨vu⟩
instance:aW FM 227 4 (4):=⟨qS⟩
instance:aW FM 227 5 (5):=⟨by kernel_rfl⟩
instance:aW FM 227 6 (6):=⟨by kernel_rfl⟩
instance:aW FM 231 0 (0):=⟨by kernel_rfl⟩
instance:aW FM 231 1 (1):=⟨by kernel_rfl⟩
instance:aW FM 231 2 (2):=⟨by kernel_rfl⟩
instance:aW FM 231 3 (3):=⟨by kernel_rfl⟩
instance:aW FM 23 0 (0):=⟨by kernel_rfl⟩
instance:aW FM 23 1 (1):=⟨by kernel_rfl⟩
instance:aW FM 23 2 (2):=⟨by kernel_rfl⟩
instance:aW FM 23 3 (3):=⟨Fl⟩
instance:aW FM 249 0 (0):=⟨by kernel_rfl⟩
instance:aW FM 249 1 (1):=⟨by kernel_rfl⟩
instance:aW FM 275 0 (0):=⟨by kernel_rfl⟩
instance:aW FM 275 1 (1):=⟨by kernel_rfl⟩
instance:aW FM 29 0 (0):=⟨by kernel_rfl⟩
instance:aW FM 29 1 (1):=⟨yO⟩
instance:aW FM 29 2 (2):=⟨by kernel_rfl⟩
instance:aW FM 29 3 (3):=⟨by kernel_rfl⟩
instance:aW FM 29 4 (4):=⟨by kernel_rfl⟩
instance:aW FM 29 5 (5):=⟨by kernel_rfl⟩
instance:aW FM 29 6 (6):=⟨by kernel_rfl⟩
instance:aW FM 312 0 (0):=⟨by kernel_rfl⟩
instance:aW FM 312 1 (1):=⟨by kernel_rfl⟩
instance:aW FM 312 2 (2):=⟨by kernel_rfl⟩
instance:aW FM 42 0 (0):=⟨by kernel_rfl⟩
instance:aW FM 42 1 (1):=⟨by kernel_rfl⟩
instance:aW FM 42 2 (2):=⟨Fk⟩
instance:aW FM 42 3 (3):=⟨Fj⟩
instance:aW FM 42 4 (4):=⟨by kernel_rfl⟩
instance:aW FM 42 5 (5):=⟨by kernel_rfl⟩
instance:aW FM 42 6 (6):=⟨Fi⟩
instance:aW FM 42 8 (8):=⟨by kernel_rfl⟩
instance:aW FM 52 0 (0):=⟨by kernel_rfl⟩
instance:aW FM 52 1 (1):=⟨by kernel_rfl⟩
instance:aW FM 56 1 (1):=⟨by kernel_rfl⟩
instance:aW FM 56 2 (2):=⟨by kernel_rfl⟩
instance:aW FM 56 3 (3):=⟨by kernel_rfl⟩
instance:aW FM 56 4 (4):=⟨by kernel_rfl⟩
instance:aW FM 62 0 (0):=⟨by kernel_rfl⟩
instance:aW FM 62 1 (1):=⟨by kernel_rfl⟩
instance:aW FM 62 2 (2):=⟨by kernel_rfl⟩
instance:aW FM 62 3 (3):=⟨by kernel_rfl⟩
instance:aW FM 62 4 (4):=⟨by kernel_rfl⟩
instance:aW FM 62 5 (5):=⟨by kernel_rfl⟩
instance:aW FM 69 0 (0):=⟨by kernel_rfl⟩
instance:aW FM 69 1 (1):=⟨by kernel_rfl⟩
instance:aW FM 69 2 (2):=⟨yN⟩
instance:aW FM 69 3 (3):=⟨by kernel_rfl⟩
instance:aW FM 94 0 (0):=⟨by kernel_rfl⟩
instance:aW FM 94 1 (1):=⟨Fh⟩
instance:aW FM 94 2 (2):=⟨by kernel_rfl⟩
instance:aW FM 94 3 (3):=⟨by kernel_rfl⟩
instance:aW FM 94 4 (4):=⟨Fg⟩
instance:aW FM 94 5 (5):=⟨yM⟩
instance:aW FM 94 6 (6):=⟨Ff⟩
instance:aW FM 94 7 (7):=⟨by kernel_rfl⟩
instance:aW FM 96 0 (0):=⟨nu⟩
instance:aW FM 96 1 (8):=⟨by kernel_rfl⟩
instance:aW FM 96 2 (15):=⟨Fe⟩
instance:aW FM 96 3 (19):=⟨by kernel_rfl⟩
instance:aW FM 96 4 (20):=⟨by kernel_rfl⟩
instance:aW FM 96 5 (21):=⟨iO⟩
instance:aW FM 96 6 (28):=⟨by kernel_rfl⟩
instance:oX FM 104:=⟨bD⟩
instance:oX FM 107:=⟨GW⟩
instance:oX FM 135:=⟨by kernel_rfl⟩
instance:oX FM 140:=⟨by kernel_rfl⟩
instance:oX FM 149:=⟨pX⟩
instance:oX FM 152:=⟨BS⟩
instance:oX FM 173:=⟨by kernel_rfl⟩
instance:oX FM 176:=⟨by kernel_rfl⟩
instance:oX FM 177:=⟨by kernel_rfl⟩
instance:oX FM 180:=⟨by kernel_rfl⟩
instance:oX FM 193:=⟨by kernel_rfl⟩
instance:oX FM 197:=⟨by kernel_rfl⟩
instance:oX FM 198:=⟨by kernel_rfl⟩
instance:oX FM 224:=⟨BR⟩
instance:oX FM 225:=⟨by kernel_rfl⟩
instance:oX FM 273:=⟨by kernel_rfl⟩
instance:oX FM 3:=⟨bj⟩
instance:oX FM 30:=⟨Qq⟩
instance:oX FM 35:=⟨rB⟩
instance:oX FM 38:=⟨by kernel_rfl⟩
instance:oX FM 39:=⟨D6⟩
instance:oX FM 4:=⟨gg⟩
instance:oX FM 49:=⟨by kernel_rfl⟩
instance:oX FM 5:=⟨rk⟩
instance:oX FM 85:=⟨Qo⟩
instance:oX FM 86:=⟨sU⟩
instance:oX FM 87:=⟨by kernel_rfl⟩
instance:oX FM 88:=⟨Je⟩
instance:oX FM 89:=⟨Qn⟩
instance:oX FM 9:=⟨by kernel_rfl⟩
instance:oX FM 90:=⟨D5⟩
instance:oX FM 91:=⟨An⟩
instance:oX FM 92:=⟨aav⟩
instance:PE FM 134 ((104,1)):=⟨Q4⟩
instance:PE FM 152 ((149,1)):=⟨by kernel_rfl⟩
instance:PE FM 176 ((227,7)):=⟨by kernel_rfl⟩
instance:PE FM 177 ((196,4)):=⟨by kernel_rfl⟩
instance:PE FM 180 ((333,9)):=⟨by kernel_rfl⟩
instance:PE FM 197 ((202,3)):=⟨iB⟩
instance:PE FM 224 ((4,1)):=⟨by kernel_rfl⟩
instance:PE FM 30 ((3,1)):=⟨rA⟩
instance:PE FM 38 ((9,1)):=⟨Al⟩
instance:PE FM 39 ((5,1)):=⟨fS⟩
instance:wD FM 102 ([(0,5)]):=⟨by kernel_rfl⟩
instance:wD FM 124 ([(0,1),(1,1),(2,1),(3,1)]):=⟨by kernel_rfl⟩
instance:wD FM 132 ([(0,1),(1,1),(2,1)]):=⟨by kernel_rfl⟩
instance:wD FM 137 ([(0,1),(1,1),(2,1),(3,1),(4,1),(5,1),(6,1),(7,1),(8,1),(9,1),(10,1)]):=⟨by kernel_rfl⟩
instance:wD FM 154 ([(0,1),(1,1),(2,1),(3,1),(4,1),(5,1),(6,1),(7,1)]):=⟨by kernel_rfl⟩
instance:wD FM 159 ([(0,1),(1,1),(2,1),(3,1),(4,1),(5,1),(6,1),(7,1)]):=⟨fD⟩
instance:wD FM 182 ([(0,1),(1,1)]):=⟨by kernel_rfl⟩
instance:wD FM 184 ([(0,1),(1,1),(2,1),(3,1)]):=⟨by kernel_rfl⟩
instance:wD FM 200 ([(0,1),(1,1),(2,1)]):=⟨by kernel_rfl⟩
instance:wD FM 202 ([(0,1),(1,1),(2,1)]):=⟨by kernel_rfl⟩
instance:wD FM 218 ([(0,1),(1,1),(2,1),(3,1)]):=⟨by kernel_rfl⟩
instance:wD FM 220 ([(0,1),(1,1),(2,1),(3,1),(4,1),(5,1),(6,4)]):=⟨by kernel_rfl⟩
instance:wD FM 227 ([(0,1),(1,1),(2,1),(3,1),(4,1),(5,1),(6,1)]):=⟨by kernel_rfl⟩
instance:wD FM 23 ([(0,1),(1,1),(2,1),(3,1)]):=⟨by kernel_rfl⟩
instance:wD FM 231 ([(0,1),(1,1),(2,1),(3,1)]):=⟨by kernel_rfl⟩
instance:wD FM 249 ([(0,1),(1,1)]):=⟨by kernel_rfl⟩
instance:wD FM 275 ([(0,1),(1,1)]):=⟨by kernel_rfl⟩
instance:wD FM 29 ([(0,1),(1,1),(2,1),(3,1),(4,1),(5,1),(6,1)]):=⟨by kernel_rfl⟩
instance:wD FM 42 ([(0,1),(1,1),(2,1),(3,1),(4,1),(5,1),(6,1),(7,1),(8,1),(9,1),(10,1)]):=⟨by kernel_rfl⟩
instance:wD FM 52 ([(0,1),(1,1),(2,1),(3,1),(4,1)]):=⟨by kernel_rfl⟩
instance:wD FM 56 ([(0,1),(1,1),(2,1),(3,1),(4,1),(5,1),(6,1),(7,1),(8,1)]):=⟨by kernel_rfl⟩
instance:wD FM 62 ([(0,1),(1,1),(2,1),(3,1),(4,1),(5,1),(6,1)]):=⟨by kernel_rfl⟩
instance:wD FM 94 ([(0,1),(1,1),(2,1),(3,1),(4,1),(5,1),(6,1),(7,1)]):=⟨by kernel_rfl⟩
instance:wD FM 96 ([(0,8),(8,7),(15,4),(19,1),(20,1),(21,7),(28,1)]):=⟨by kernel_rfl⟩
instance:Cu FM 104 ((.int .u64)):=⟨by kernel_rfl⟩
instance:Cu FM 149 ((.int .u32)):=⟨Qk⟩
instance:Cu FM 173 ((.pointer 249)):=⟨by kernel_rfl⟩
instance:Cu FM 221 ((.pointer 227)):=⟨by kernel_rfl⟩
instance:Cu FM 247 ((.int .u64)):=⟨by kernel_rfl⟩
instance:Cu FM 27 ((.pointer 96)):=⟨by kernel_rfl⟩
instance:Cu FM 295 ((.pointer 312)):=⟨aar⟩
instance:Cu FM 3 ((.int .i64)):=⟨u_3⟩
instance:Cu FM 35 ((.int .u64)):=⟨GC⟩
instance:Cu FM 5 ((.int .u8)):=⟨sE⟩
instance:Cu FM 85 ((.pointer 179)):=⟨by kernel_rfl⟩
instance:Cu FM 89 ((.pointer 200)):=⟨by kernel_rfl⟩
instance:Cu FM 92 ((.pointer 182)):=⟨by kernel_rfl⟩
instance:Cus FM 104:=⟨GU⟩
instance:Cus FM 149:=⟨GS⟩
instance:Cus FM 3:=⟨Lv⟩
instance:Cus FM 35:=⟨Jd⟩
instance:Cus FM 5:=⟨ab4⟩
instance:wC FM 102 ([vN,(.slice none 0 0),(.int .u64 0),(.string {data:= #[]}),(.slice none 0 0)]):=⟨GR⟩
instance:wC FM 124 ([vN,(.int .u64 0),(.int .u64 0),vN]):=⟨by kernel_rfl⟩
instance:wC FM 132 ([vN,vN,(.int .u64 0)]):=⟨by kernel_rfl⟩
instance:wC FM 137 ([(.pointer none),(.pointer none),vN, .nilFunc, .nilFunc,vN,(.bool false),vN,vN,(.int .u64 0),vN]):=⟨by kernel_rfl⟩
instance:wC FM 154 ([(.pointer none),vN,vN,vN,(.slice none 0 0),(.slice none 0 0),vN,vN]):=⟨by kernel_rfl⟩
instance:wC FM 159 ([(.slice none 0 0),(.slice none 0 0),(.int .u64 0),vN,vN,(.int .u64 0),vN,vN]):=⟨bT⟩
instance:wC FM 182 ([(.pointer none),(.slice none 0 0)]):=⟨by kernel_rfl⟩
instance:wC FM 184 ([(.pointer none),(.pointer none),vN,vN]):=⟨by kernel_rfl⟩
instance:wC FM 200 ([(.slice none 0 0),(.map none),(.int .u64 0)]):=⟨by kernel_rfl⟩
instance:wC FM 202 ([(.int .u64 0),vN,(.int .u64 0)]):=⟨xZ⟩
instance:wC FM 218 ([vN,vN,vN,(.bool false)]):=⟨QR⟩
instance:wC FM 220 ([(.pointer none), .nilFunc, .nilFunc, .nilFunc,(.slice none 0 0),vN,vN,vN,vN,(.bool false)]):=⟨by kernel_rfl⟩
instance:wC FM 227 ([(.bool false),(.bool false),vN,(.slice none 0 0),(.slice none 0 0),vN,(.map none)]):=⟨by kernel_rfl⟩
instance:wC FM 23 ([vN,vN,vN,vN]):=⟨Qf⟩
instance:wC FM 231 ([(.pointer none),vN,vN,vN]):=⟨gL⟩
instance:wC FM 249 ([vN,(.slice none 0 0)]):=⟨by kernel_rfl⟩
instance:wC FM 275 ([vN, .nilFunc]):=⟨QQ⟩
instance:wC FM 29 ([vN,vN,vN,vN,vN,vN,vN]):=⟨Qe⟩
instance:wC FM 42 ([vN,(.slice none 0 0),(.int .u64 0),vN,(.int .u64 0),(.int .u64 0),(.slice none 0 0),(.bool false),(.bool false),(.slice none 0 0),(.string {data:= #[]})]):=⟨by kernel_rfl⟩
instance:wC FM 52 ([vN,(.slice none 0 0),(.int .u64 0),(.string {data:= #[]}),(.slice none 0 0)]):=⟨o0⟩
instance:wC FM 56 ([(.string {data:= #[]}),(.slice none 0 0),(.int .u64 0),vN,(.int .u64 0),vN,(.bool false),(.bool false),(.bool false)]):=⟨Aj⟩
instance:wC FM 62 ([vN,vN,vN,vN,vN,vN,vN]):=⟨aap⟩
instance:wC FM 94 ([(.pointer none),(.pointer none),(.pointer none),(.pointer none),(.pointer none),(.pointer none),(.pointer none),(.pointer none)]):=⟨by kernel_rfl⟩
instance:wC FM 96 ([(.pointer none),(.pointer none),(.pointer none),(.pointer none),(.pointer none),(.pointer none),(.pointer none),(.pointer none),vN,vN,vN,vN,vN,vN,vN,vN,vN,vN,vN,(.int .u64 0),vN,vN,vN,vN,vN,vN,vN,vN,(.slice none 0 0)]):=⟨by kernel_rfl⟩
abbrev Dk (b:Nat):Value:= .pointer (some ⟨b,0,none⟩)
theorem Ac{p:Prop}[Decidable p](h:p:=by omega):decide p=true:=decide_eq_true h
theorem Ab{p:Prop}[Decidable p](h:¬p:=by omega):decide p=false:=decide_eq_false h
theorem Di{F:dG}{R:F8}:∀h,Le F.h h->gG R h->True:=λ_ _ _=>trivial
end Go.Proofs.YtcbcjolpdljbiaaGreat
