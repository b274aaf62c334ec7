/- Part Pd of the proof. -/
import Derived.Test.YtcbcjolpdljbiaaGreatPb
import Derived.Test.YtcbcjolpdljbiaaGreatPc1
import Derived.KernelRfl
set_option maxRecDepth 100000
open Go.Proofs.YtcbcjolpdljbiaaGreat.T
namespace Go.dG
open Go
variable {P:Program}
class oc (P:Program)(t:Nat):Prop where p:db P t=true
class Cus (P:Program)(t:Nat):Prop where p:(P.underlying t).isSome=true
class KC (P:Program)(t:Nat)(k:outParam (TypeId×Nat)):Prop where p:dK P t=some k
class CW (P:Program)(t:Nat)(k:outParam (Nat)):Prop where p:cG P t=some k
class wb (P:Program)(t:Nat)(k:outParam (List Value)):Prop where p:bX P t=some k
class we (P:Program)(t:Nat)(k:outParam (List (Nat×Nat))):Prop where p:jc P t=some k
class Cu (P:Program)(t:Nat)(k:outParam (TypeDesc)):Prop where p:P.underlying t=some k
class ba (P:Program)(t i:Nat)(k:outParam Nat):Prop where p:ak P t i=some k
variable {n:Nat} {ds:List Deferred} {F:dC} {Q:Exit->Act->World->Prop} {K:Act->World->Prop} {σ:aZ} {H:List aa} {o:Oper} {d:Nat} {ops:Array Oper} {rest:List Oper}
theorem FaK{s f k b i:Nat}{x:Operand}(ho:o.op= .fieldAddr s x f:=by exact rfl)(hk:ak P s f=some k:=by exact ba.p)(hx:bJ σ x=some (.pointer (some ⟨b,i,none⟩)):=by exact rfl):Yv P n ds F σ o (.pointer (some ⟨b,i+k,none⟩)):=Fa (hk:=hk) (ho:=ho) (hx:=hx)
theorem PnK{op:BinOp}{t yt e:TypeId}{x y:Operand}{p:Option Addr}{b:Bool}(ho:o.op= .binOp op t x y yt:=by exact rfl)(ht:P.underlying t=some (.pointer e):=by exact Cu.p)(hx:bJ σ x=some (.pointer p):=by exact rfl)(hy:bJ σ y=some (.pointer none):=by exact rfl)(hop:(op= .eql/\b=p.isNone)\/(op= .neq/\b= !p.isNone):=by first|exact .inl ⟨rfl,rfl⟩|exact .inr ⟨rfl,rfl⟩):Yv P n ds F σ o (.bool b):=Pn (ht:=ht) (ho:=ho) (hx:=hx) (hy:=hy) (hop:=hop)
theorem LnK{t:TypeId}{x:Operand}{a:Option Addr}{l c:Nat}{ek:TypeId×Nat}(ho:o.op= .call {callee:= .builtin .len,args:= #[x],argTypes:= #[t]}:=by exact rfl)(ht:dK P t=some ek:=by exact KC.p)(hx:bJ σ x=some (.slice a l c):=by exact rfl):Yv P n ds F σ o (.int .i64 l):=Ln (ht:=ht) (ho:=ho) (hx:=hx)
theorem agL{t k:TypeId}{x:Operand}{p:Option Addr}{vs:List Value}(h:G n ds F K ((d, .agg vs.toArray)::σ) H)(ho:o.op= .load t x:=by exact rfl)(hs:cG P t=some k:=by exact CW.p)(hd:o.dst=some d:=by exact rfl)(hx:bJ σ x=some (.pointer p):=by exact rfl)(hk:xh F H p k vs:=by
   first
   |exact Ep (by repeat (first|exact fD.here|apply fD.there)) (by exact rfl)
   |exact Cq (by repeat (first|exact fD.here|apply fD.there)) (by exact rfl)
   |exact Bt (by assumption) (by first|assumption|exact rfl) (by first|rfl|assumption)
   |exact Bu (by assumption) (by exact rfl)
   |exact JQ (by first|rfl|assumption) (by repeat (first|exact fD.here|apply fD.there)) (by first|assumption|exact rfl)) (hl:vs.length=k:=by first|rfl|(simp;omega)) (hdn:Nat.blt d n=true:=by exact rfl):G n ds F (λa w=>o.wp P a w K Q) σ H:=oLN (hs:=hs) (h:=h) (ho:=ho) (hd:=hd) (hx:=hx) (hk:=hk) (hl:=hl) (hdn:=hdn)
theorem LfNK{t k:TypeId}{x:Operand}{p:Option Addr}{vs:List Value}(ho:o.op= .load t x:=by exact rfl)(hs:cG P t=some k:=by exact CW.p)(hx:bJ σ x=some (.pointer p):=by exact rfl)(hk:xh F [] p k vs:=by
   first
   |exact Bt (by assumption) (by first|assumption|exact rfl) (by first|rfl|assumption)
   |exact Bu (by assumption) (by exact rfl)) (hl:vs.length=k:=by first|rfl|(simp;omega)):Yv P n ds F σ o (.agg vs.toArray):=LfN (hs:=hs) (ho:=ho) (hx:=hx) (hk:=hk) (hl:=hl)
theorem oSWK{t k:TypeId}{x y:Operand}{b:Nat}{e:TypeId}{cs vs:List Value}{f:aa->List aa}(h:G n ds F K σ (f (af b e vs)))(ho:o.op= .store t x y:=by exact rfl)(hs:cG P t=some k:=by exact CW.p)(hd:o.dst=none:=by exact rfl)(hx:bJ σ x=some (.pointer (some ⟨b,0,none⟩)):=by exact rfl)(hy:bJ σ y=some (.agg vs.toArray):=by exact rfl)(hk:vs.length=k:=by exact rfl)(h1:∀v∈vs,v.oneCell'=true:=by simp[cZ,Value.cells,Value.oneCell',bD])(hu:Pos H (af b e cs) f:=by repeat (first|exact Pos.here|apply Pos.there))(hl:cs.length=k:=by exact rfl):G n ds F (λa w=>o.wp P a w K Q) σ H:=iF (hs:=hs) (h:=h) (ho:=ho) (hd:=hd) (hx:=hx) (hy:=hy) (hk:=hk) (h1:=h1) (hu:=hu) (hl:=hl)
theorem ahe{t e sz m b:Nat}{x y:Operand}{l c j:Nat}{k:IntKind}{i:Int}(ho:o.op= .indexAddr t x y:=by exact rfl)(ht:dK P t=some (e,sz):=by exact KC.p)(hx:bJ σ x=some (.slice (some ⟨b,0,none⟩) l c):=by exact rfl)(hy:bJ σ y=some (.int k i):=by exact rfl)(hj:i=(j:Int):=by first|exact rfl|omega)(hl:j<l:=by first|omega|assumption)(hm:j*sz=m:=by first|exact Nat.mul_one _|rfl):Yv P n ds F σ o (.pointer (some ⟨b,m,none⟩)):=IxZ (ht:=ht) (ho:=ho) (hx:=hx) (hy:=hy) (hj:=hj) (hl:=hl) (hm:=hm)
theorem CvK{s t:TypeId}{x:Operand}{k k':IntKind}{i z:Int}(ho:o.op= .convert s t x:=by exact rfl)(ht:P.underlying t=some (.int k):=by exact Cu.p)(hs:(P.underlying s).isSome=true:=by exact Cus.p)(hx:bJ σ x=some (.int k' i):=by exact rfl)(hz:k.wrap i=z:=by first|exact wrap_i64 (by omega)|exact wrap_u64 (by omega)|exact wrap_u32 (by omega)|exact wrap_u16 (by omega)|exact wrap_u8 (by omega)|exact wrap_i32 (by omega)|exact rfl):Yv P n ds F σ o (.int k z):=Cv (ht:=ht) (hs:=hs) (ho:=ho) (hx:=hx) (hz:=hz)
theorem BdK{t:TypeId}{pl:List (Nat×Nat)}{zs vs cs:List Value}{parts:List (Nat×Operand)}(ho:o.op= .build t parts.toArray:=by exact rfl)(hz:bX P t=some zs:=by exact wb.p)(hpl:jc P t=some pl:=by exact we.p)(hv:ki σ (parts.map (·.2))=some vs:=by exact rfl)(hc:o5 (λi=>pl[i]?) zs ((parts.map (·.1)).zip vs)=some cs:=by exact rfl):Yv P n ds F σ o (.agg cs.toArray):=Bd (hz:=hz) (hpl:=hpl) (ho:=ho) (hv:=hv) (hc:=hc)
theorem oLK{t:TypeId}{x:Operand}{p:Option Addr}{v:Value}(h:G n ds F K ((d,v)::σ) H)(ho:o.op= .load t x:=by exact rfl)(hs:db P t=true:=by exact oc.p)(hd:o.dst=some d:=by exact rfl)(hx:bJ σ x=some (.pointer p):=by exact rfl)(hk:On F H p v:=by
   first
   |exact QI (by repeat (first|exact fD.here|apply fD.there)) (by first|exact rfl|assumption)
   |exact Dx (by assumption) (by first|assumption|exact rfl)
   |exact IL (by assumption) (by omega)
   |exact xl (by assumption) (by first|exact rfl|assumption)
   |exact QJ (by first|rfl|assumption) (by repeat (first|exact fD.here|apply fD.there)) (by first|assumption|exact rfl)
   |exact Wq (by assumption)) (hdn:Nat.blt d n=true:=by exact rfl):G n ds F (λa w=>o.wp P a w K Q) σ H:=oL (hs:=hs) (h:=h) (ho:=ho) (hd:=hd) (hx:=hx) (hk:=hk) (hdn:=hdn)
theorem oSK{t:TypeId}{x y:Operand}{b i:Nat}{e:TypeId}{cs:List Value}{f:aa->List aa}{v:Value}(h:G n ds F K σ (f (af b e (cs.set i v))))(ho:o.op= .store t x y:=by exact rfl)(hs:db P t=true:=by exact oc.p)(hd:o.dst=none:=by exact rfl)(hx:bJ σ x=some (.pointer (some ⟨b,i,none⟩)):=by exact rfl)(hy:bJ σ y=some v:=by exact rfl)(hu:Pos H (af b e cs) f:=by repeat (first|exact Pos.here|apply Pos.there))(h1:v.oneCell'=true:=by first|rfl|decide|simp)(hi:i<cs.length:=by first|decide|(simp;done)|(simp;omega)|omega):
    G n ds F (λa w=>o.wp P a w K Q) σ H:=oS (hs:=hs) (h:=h) (ho:=ho) (hd:=hd) (hx:=hx) (hy:=hy) (hu:=hu) (h1:=h1) (hi:=hi)
theorem LfK{t:TypeId}{x:Operand}{p:Option Addr}{v:Value}(ho:o.op= .load t x:=by exact rfl)(hs:db P t=true:=by exact oc.p)(hx:bJ σ x=some (.pointer p):=by exact rfl)(hk:On F [] p v:=by
   first
   |exact Dx (by assumption) (by first|assumption|exact rfl)
   |exact IL (by assumption) (by omega)
   |exact xl (by assumption) (by first|exact rfl|assumption)
   |exact Wq (by assumption)):Yv P n ds F σ o v:=Lf (hs:=hs) (ho:=ho) (hx:=hx) (hk:=hk)
theorem agK{t:TypeId}{x:Operand}{b i:Nat}{cs:List Value}{v:Value}(h:G n ds F K ((d,v)::σ) H)(ho:o.op= .load t x:=by exact rfl)(hs:db P t=true:=by exact oc.p)(hd:o.dst=some d:=by exact rfl)(hx:bJ σ x=some (.pointer (some ⟨b,i,none⟩)):=by exact rfl)(c:ou H b cs:=by infer_instance)(hv:cs[i]?=some v:=by exact rfl)(hdn:Nat.blt d n=true:=by exact rfl):G n ds F (λa w=>o.wp P a w K Q) σ H:=oLc (hs:=hs) (h:=h) (ho:=ho) (hd:=hd) (hx:=hx) (c:=c) (hv:=hv) (hdn:=hdn)
theorem ZQ{t k:TypeId}{x:Operand}{b i:Nat}{cs vs:List Value}(h:G n ds F K ((d, .agg vs.toArray)::σ) H)(ho:o.op= .load t x:=by exact rfl)(hs:cG P t=some k:=by exact CW.p)(hd:o.dst=some d:=by exact rfl)(hx:bJ σ x=some (.pointer (some ⟨b,i,none⟩)):=by exact rfl)(c:ou H b cs:=by infer_instance)(hv:(cs.drop i).take k=vs:=by exact rfl)(hl:vs.length=k:=by exact rfl)(hdn:Nat.blt d n=true:=by exact rfl):G n ds F (λa w=>o.wp P a w K Q) σ H:=oLcN (hs:=hs) (h:=h) (ho:=ho) (hd:=hd) (hx:=hx) (c:=c) (hv:=hv) (hl:=hl) (hdn:=hdn)
theorem agJ{t:TypeId}{x y:Operand}{b i:Nat}{v:Value}{H':List aa}(h:G n ds F K σ H')(ho:o.op= .store t x y:=by exact rfl)(hs:db P t=true:=by exact oc.p)(hd:o.dst=none:=by exact rfl)(hx:bJ σ x=some (.pointer (some ⟨b,i,none⟩)):=by exact rfl)(hy:bJ σ y=some v:=by exact rfl)(c:Gh H b i v H':=by infer_instance)(h1:v.oneCell'=true:=by first|rfl|decide|simp):G n ds F (λa w=>o.wp P a w K Q) σ H:=oSc (hs:=hs) (h:=h) (ho:=ho) (hd:=hd) (hx:=hx) (hy:=hy) (c:=c) (h1:=h1)
theorem zf{K:Act->World->Prop}(t:Nat){b:Bool}(h:G n ds F K ((t, .bool false)::σ) H)(hl:look σ t=some (.bool b):=by exact rfl)(e:b=false:=by exact decide_eq_false (by omega)):G n ds F K σ H:=ay hl (congrArg Value.bool e) h
theorem cO{c:Operand}{x y:Code}{b:Bool}(h:G n ds F (y.wp P Q) σ H)(hc:bJ σ c=some (.bool b):=by exact rfl)(e:b=false:=by exact decide_eq_false (by omega)):G n ds F ((Code.cond c x y).wp P Q) σ H:=x7 hc e h
theorem zt{K:Act->World->Prop}(t:Nat){b:Bool}(h:G n ds F K ((t, .bool true)::σ) H)(hl:look σ t=some (.bool b):=by exact rfl)(e:b=true:=by exact decide_eq_true (by omega)):G n ds F K σ H:=ay hl (congrArg Value.bool e) h
theorem eU{c:Operand}{x y:Code}{b:Bool}(h:G n ds F (x.wp P Q) σ H)(hc:bJ σ c=some (.bool b):=by exact rfl)(e:b=true:=by exact decide_eq_true (by omega)):G n ds F ((Code.cond c x y).wp P Q) σ H:=x6 hc e h
structure Hid (q:Prop):Prop where out:q
theorem av{p q:Prop}(h:q)(f:Hid q->p:=by
  intro h
  first
    |with_reducible refine g_ne ?_
    |with_reducible refine gK ?_
    |with_reducible refine aw ?_
    |with_reducible refine BP ?_
    |with_reducible refine aif ?_
    |with_reducible refine Bw ?_
    |with_reducible refine fi ?_
    |with_reducible refine Yx ?_
    |with_reducible refine aF ?_
    |with_reducible refine Ij ?_
    |with_reducible refine Fm ?_
    |with_reducible refine YL ?_
    |with_reducible refine qD ?_
    |with_reducible refine adv ?_
    |with_reducible refine Fo ?_
    |refine Li Mv ?_
    |refine Li As ?_
    |refine Li FaK ?_
    |refine Li Cm ?_
    |refine Lp (oLK ?_)
    |refine Li Nc ?_
    |refine Lx ?_
    |refine Ti Mv ?_
    |refine Li Ex ?_
    |refine Ti FaK ?_
    |refine Li Im ?_
    |refine Tx ?_
    |refine Ti Nc ?_
    |refine Li Pf ?_
    |refine Ti LfK ?_
    |refine Li Pt ?_
    |refine Lp (oSK ?_)
    |refine Fq ?_
    |refine Li Nt ?_
    |refine Li LnK ?_
    |refine Tp (oLK ?_)
    |refine Ti As ?_
    |refine Lp (agL ?_)
    |refine Ti Cm ?_
    |refine Li BdK ?_
    |refine x7 rfl rfl ?_
    |refine x6 rfl rfl ?_
    |refine x7 rfl (by rfl) ?_
    |refine x6 rfl (by rfl) ?_
    |refine Li CvK ?_
    |refine Ti Im ?_
    |refine Li PnK ?_
    |refine Li ahe ?_
    |refine Ti LfNK ?_
    |refine Lp (oSWK ?_)
    |refine Ti Pf ?_
    |refine Ti ahe ?_
    |refine Ti LnK ?_
    |refine Ti Pt ?_
    |refine Ti Ex ?_
    |refine Tp (oSK ?_)
    |refine Ti BdK ?_
    |refine akM rfl ?_
    |refine Lp (agK ?_)
    |refine Lp (ZQ ?_)
    |refine Lp (agJ ?_)
    |refine Tp (agJ ?_)
    |refine Tp (agK ?_)
    |refine Tp (agL ?_)
    |refine Tp (ZQ ?_)
    |refine Tne ?_
    |refine Tn ?_
  exact h.out):p:=f ⟨h⟩
theorem aX{p q:Prop}(h:q)(f:Hid q->p:=by
  intro h
  try simp only[o8,cap]
  exact h.out):p:=f ⟨h⟩
theorem bA{p q:Prop}(h:q)(f:Hid q->p:=by
  intro h;refine av ?_;refine av ?_;exact h.out):p:=f ⟨h⟩
theorem bz{p q:Prop}(h:q)(f:Hid q->p:=by
  intro h;refine av ?_;refine bA ?_;exact h.out):p:=f ⟨h⟩
theorem bm{p q:Prop}(h:q)(f:Hid q->p:=by
  intro h;refine bA ?_;refine bA ?_;exact h.out):p:=f ⟨h⟩
theorem bE{p q:Prop}(h:q)(f:Hid q->p:=by
  intro h;refine bA ?_;refine bz ?_;exact h.out):p:=f ⟨h⟩
theorem bG{p q:Prop}(h:q)(f:Hid q->p:=by
  intro h;refine bz ?_;refine bz ?_;exact h.out):p:=f ⟨h⟩
theorem bR{p q:Prop}(h:q)(f:Hid q->p:=by
  intro h;refine bz ?_;refine bm ?_;exact h.out):p:=f ⟨h⟩
theorem dm{p q:Prop}(h:q)(f:Hid q->p:=by
  intro h;refine bm ?_;refine bm ?_;exact h.out):p:=f ⟨h⟩
theorem cA{p q:Prop}(h:q)(f:Hid q->p:=by
  intro h;refine bm ?_;refine bE ?_;exact h.out):p:=f ⟨h⟩
theorem bM{p q:Prop}(h:q)(f:Hid q->p:=by
  intro h;refine bE ?_;refine bE ?_;exact h.out):p:=f ⟨h⟩
theorem bW{p q:Prop}(h:q)(f:Hid q->p:=by
  intro h;refine bE ?_;refine bG ?_;exact h.out):p:=f ⟨h⟩
theorem dB{p q:Prop}(h:q)(f:Hid q->p:=by
  intro h;refine bG ?_;refine bG ?_;exact h.out):p:=f ⟨h⟩
theorem gz{p q:Prop}(h:q)(f:Hid q->p:=by
  intro h;refine bG ?_;refine bR ?_;exact h.out):p:=f ⟨h⟩
theorem fq{p q:Prop}(h:q)(f:Hid q->p:=by
  intro h;refine bR ?_;refine bR ?_;exact h.out):p:=f ⟨h⟩
theorem mF{p q:Prop}(h:q)(f:Hid q->p:=by
  intro h;refine bR ?_;refine dm ?_;exact h.out):p:=f ⟨h⟩
theorem rj{p q:Prop}(h:q)(f:Hid q->p:=by
  intro h;refine dm ?_;refine dm ?_;exact h.out):p:=f ⟨h⟩
theorem ri{p q:Prop}(h:q)(f:Hid q->p:=by
  intro h;refine dm ?_;refine cA ?_;exact h.out):p:=f ⟨h⟩
theorem sT{p q:Prop}(h:q)(f:Hid q->p:=by
  intro h;refine cA ?_;refine cA ?_;exact h.out):p:=f ⟨h⟩
theorem C9{p q:Prop}(h:q)(f:Hid q->p:=by
  intro h;refine cA ?_;refine bM ?_;exact h.out):p:=f ⟨h⟩
theorem cC{p q:Prop}(h:q)(f:Hid q->p:=by
  intro h;refine bM ?_;refine bM ?_;exact h.out):p:=f ⟨h⟩
theorem zl{f:FuncId}{xs:List Operand}{vs:List Value}{rT:Array TypeId}{pre:Hp->Prop}{A2 R:List aa}{x:Value}{y:List aa}{q:Prop}(kW:aC P f=true)(hc:aO P f vs pre A2 (λv H=>v=x/\H=y))(de:iI H A2 R)(iH:∀h,Le F.h h->gP R h->pre h)(h:q)
 (ho:o.op= .call {callee:= .value (.func f),args:=xs.toArray,argTypes:=rT}:=by exact rfl) (hv:ki σ xs=some vs:=by exact rfl) (hg:Oh ops o σ=true:=by exact rfl) (hd:o.dst=some d:=by exact rfl) (hdn:Nat.blt d n=true:=by exact rfl)
 (g:Hid q->G n ds F (wpList P ops Q rest) ((d,x)::σ) (y++R):=by
  intro h
  try simp only[o8,cap]
  exact h.out):G n ds F (wpList P ops Q (o::rest)) σ H:=Lp (oC kW ho hv hc de iH (by rintro v H' ⟨rfl,rfl⟩;exact g ⟨h⟩) hd hdn) hg
end Go.dG
namespace Go.Proofs.YtcbcjolpdljbiaaGreat
open Go Go.dG
instance:CW Tryz.prog 102 (5):=⟨Ho⟩
instance:CW Tryz.prog 159 (8):=⟨dR⟩
instance:CW Tryz.prog 202 (3):=⟨uO⟩
instance:CW Tryz.prog 218 (4):=⟨su⟩
instance:CW Tryz.prog 23 (4):=⟨PY⟩
instance:CW Tryz.prog 231 (4):=⟨Hn⟩
instance:CW Tryz.prog 26 (11):=⟨by kernel_rfl⟩
instance:CW Tryz.prog 275 (2):=⟨by kernel_rfl⟩
instance:CW Tryz.prog 276 (6):=⟨RT⟩
instance:CW Tryz.prog 29 (7):=⟨pM⟩
instance:CW Tryz.prog 42 (11):=⟨PX⟩
instance:CW Tryz.prog 52 (5):=⟨eo⟩
instance:CW Tryz.prog 56 (9):=⟨tj⟩
instance:CW Tryz.prog 79 (3):=⟨aaG⟩
instance:ba Tryz.prog 102 0 (0):=⟨by kernel_rfl⟩
instance:ba Tryz.prog 124 0 (0):=⟨by kernel_rfl⟩
instance:ba Tryz.prog 124 2 (2):=⟨by kernel_rfl⟩
instance:ba Tryz.prog 124 3 (3):=⟨by kernel_rfl⟩
instance:ba Tryz.prog 132 0 (0):=⟨by kernel_rfl⟩
instance:ba Tryz.prog 132 1 (1):=⟨by kernel_rfl⟩
instance:ba Tryz.prog 132 2 (2):=⟨by kernel_rfl⟩
instance:ba Tryz.prog 137 0 (0):=⟨by kernel_rfl⟩
instance:ba Tryz.prog 137 1 (1):=⟨by kernel_rfl⟩
instance:ba Tryz.prog 137 10 (10):=⟨by kernel_rfl⟩
instance:ba Tryz.prog 137 2 (2):=⟨by kernel_rfl⟩
instance:ba Tryz.prog 137 3 (3):=⟨by kernel_rfl⟩
instance:ba Tryz.prog 137 4 (4):=⟨by kernel_rfl⟩
instance:ba Tryz.prog 137 5 (5):=⟨by kernel_rfl⟩
instance:ba Tryz.prog 137 6 (6):=⟨by kernel_rfl⟩
instance:ba Tryz.prog 137 7 (7):=⟨by kernel_rfl⟩
instance:ba Tryz.prog 137 8 (8):=⟨by kernel_rfl⟩
instance:ba Tryz.prog 137 9 (9):=⟨by kernel_rfl⟩
instance:ba Tryz.prog 154 0 (0):=⟨by kernel_rfl⟩
instance:ba Tryz.prog 154 1 (1):=⟨by kernel_rfl⟩
instance:ba Tryz.prog 154 2 (2):=⟨by kernel_rfl⟩
instance:ba Tryz.prog 154 3 (3):=⟨by kernel_rfl⟩
instance:ba Tryz.prog 154 4 (4):=⟨by kernel_rfl⟩
instance:ba Tryz.prog 154 5 (5):=⟨by kernel_rfl⟩
instance:ba Tryz.prog 154 6 (6):=⟨by kernel_rfl⟩
instance:ba Tryz.prog 154 7 (7):=⟨by kernel_rfl⟩
instance:ba Tryz.prog 159 0 (0):=⟨by kernel_rfl⟩
instance:ba Tryz.prog 159 1 (1):=⟨by kernel_rfl⟩
instance:ba Tryz.prog 159 2 (2):=⟨by kernel_rfl⟩
instance:ba Tryz.prog 159 3 (3):=⟨by kernel_rfl⟩
instance:ba Tryz.prog 159 4 (4):=⟨by kernel_rfl⟩
instance:ba Tryz.prog 159 5 (5):=⟨by kernel_rfl⟩
instance:ba Tryz.prog 159 6 (6):=⟨by kernel_rfl⟩
instance:ba Tryz.prog 159 7 (7):=⟨by kernel_rfl⟩
instance:ba Tryz.prog 179 0 (0):=⟨by kernel_rfl⟩
instance:ba Tryz.prog 179 1 (7):=⟨by kernel_rfl⟩
instance:ba Tryz.prog 179 2 (8):=⟨by kernel_rfl⟩
instance:ba Tryz.prog 179 3 (9):=⟨by kernel_rfl⟩
instance:ba Tryz.prog 179 4 (10):=⟨by kernel_rfl⟩
instance:ba Tryz.prog 179 5 (11):=⟨by kernel_rfl⟩
instance:ba Tryz.prog 182 0 (0):=⟨by kernel_rfl⟩
instance:ba Tryz.prog 182 1 (1):=⟨by kernel_rfl⟩
instance:ba Tryz.prog 184 0 (0):=⟨by kernel_rfl⟩
instance:ba Tryz.prog 184 1 (1):=⟨AH⟩
instance:ba Tryz.prog 184 2 (2):=⟨by kernel_rfl⟩
instance:ba Tryz.prog 184 3 (3):=⟨by kernel_rfl⟩
instance:ba Tryz.prog 196 0 (0):=⟨by kernel_rfl⟩
instance:ba Tryz.prog 196 1 (1):=⟨by kernel_rfl⟩
instance:ba Tryz.prog 196 2 (2):=⟨by kernel_rfl⟩
instance:ba Tryz.prog 196 3 (3):=⟨by kernel_rfl⟩
instance:ba Tryz.prog 200 0 (0):=⟨by kernel_rfl⟩
instance:ba Tryz.prog 200 1 (1):=⟨by kernel_rfl⟩
instance:ba Tryz.prog 200 2 (2):=⟨by kernel_rfl⟩
instance:ba Tryz.prog 202 0 (0):=⟨by kernel_rfl⟩
instance:ba Tryz.prog 202 1 (1):=⟨AG⟩
instance:ba Tryz.prog 202 2 (2):=⟨by kernel_rfl⟩
instance:ba Tryz.prog 218 0 (0):=⟨by kernel_rfl⟩
instance:ba Tryz.prog 218 1 (1):=⟨by kernel_rfl⟩
instance:ba Tryz.prog 218 3 (3):=⟨by kernel_rfl⟩
instance:ba Tryz.prog 220 0 (0):=⟨by kernel_rfl⟩
instance:ba Tryz.prog 220 1 (1):=⟨by kernel_rfl⟩
instance:ba Tryz.prog 220 2 (2):=⟨by kernel_rfl⟩
instance:ba Tryz.prog 220 3 (3):=⟨by kernel_rfl⟩
instance:ba Tryz.prog 220 4 (4):=⟨by kernel_rfl⟩
instance:ba Tryz.prog 220 5 (5):=⟨by kernel_rfl⟩
instance:ba Tryz.prog 220 6 (6):=⟨by kernel_rfl⟩
instance:ba Tryz.prog 227 0 (0):=⟨by kernel_rfl⟩
instance:ba Tryz.prog 227 1 (1):=⟨by kernel_rfl⟩
instance:ba Tryz.prog 227 2 (2):=⟨by kernel_rfl⟩
instance:ba Tryz.prog 227 3 (3):=⟨vh⟩
instance:ba Tryz.prog 227 4 (4):=⟨qS⟩
instance:ba Tryz.prog 227 5 (5):=⟨by kernel_rfl⟩
instance:ba Tryz.prog 227 6 (6):=⟨by kernel_rfl⟩
instance:ba Tryz.prog 231 0 (0):=⟨by kernel_rfl⟩
instance:ba Tryz.prog 231 1 (1):=⟨by kernel_rfl⟩
instance:ba Tryz.prog 231 2 (2):=⟨by kernel_rfl⟩
instance:ba Tryz.prog 231 3 (3):=⟨by kernel_rfl⟩
instance:ba Tryz.prog 23 0 (0):=⟨by kernel_rfl⟩
instance:ba Tryz.prog 23 1 (1):=⟨by kernel_rfl⟩
instance:ba Tryz.prog 23 2 (2):=⟨by kernel_rfl⟩
instance:ba Tryz.prog 23 3 (3):=⟨EF⟩
instance:ba Tryz.prog 249 0 (0):=⟨by kernel_rfl⟩
instance:ba Tryz.prog 249 1 (1):=⟨by kernel_rfl⟩
instance:ba Tryz.prog 26 0 (0):=⟨by kernel_rfl⟩
instance:ba Tryz.prog 26 3 (3):=⟨by kernel_rfl⟩
instance:ba Tryz.prog 26 6 (6):=⟨by kernel_rfl⟩
instance:ba Tryz.prog 26 7 (10):=⟨by kernel_rfl⟩
instance:ba Tryz.prog 275 0 (0):=⟨by kernel_rfl⟩
instance:ba Tryz.prog 275 1 (1):=⟨by kernel_rfl⟩
instance:ba Tryz.prog 29 0 (0):=⟨by kernel_rfl⟩
instance:ba Tryz.prog 29 1 (1):=⟨yb⟩
instance:ba Tryz.prog 29 2 (2):=⟨by kernel_rfl⟩
instance:ba Tryz.prog 29 3 (3):=⟨by kernel_rfl⟩
instance:ba Tryz.prog 29 4 (4):=⟨by kernel_rfl⟩
instance:ba Tryz.prog 29 5 (5):=⟨by kernel_rfl⟩
instance:ba Tryz.prog 29 6 (6):=⟨by kernel_rfl⟩
instance:ba Tryz.prog 312 0 (0):=⟨by kernel_rfl⟩
instance:ba Tryz.prog 312 1 (1):=⟨by kernel_rfl⟩
instance:ba Tryz.prog 312 2 (2):=⟨by kernel_rfl⟩
instance:ba Tryz.prog 42 0 (0):=⟨by kernel_rfl⟩
instance:ba Tryz.prog 42 1 (1):=⟨by kernel_rfl⟩
instance:ba Tryz.prog 42 2 (2):=⟨EE⟩
instance:ba Tryz.prog 42 3 (3):=⟨ED⟩
instance:ba Tryz.prog 42 4 (4):=⟨by kernel_rfl⟩
instance:ba Tryz.prog 42 5 (5):=⟨by kernel_rfl⟩
instance:ba Tryz.prog 42 6 (6):=⟨EC⟩
instance:ba Tryz.prog 42 8 (8):=⟨by kernel_rfl⟩
instance:ba Tryz.prog 52 0 (0):=⟨by kernel_rfl⟩
instance:ba Tryz.prog 52 1 (1):=⟨by kernel_rfl⟩
instance:ba Tryz.prog 56 1 (1):=⟨by kernel_rfl⟩
instance:ba Tryz.prog 56 4 (4):=⟨by kernel_rfl⟩
instance:ba Tryz.prog 62 0 (0):=⟨by kernel_rfl⟩
instance:ba Tryz.prog 62 1 (1):=⟨by kernel_rfl⟩
instance:ba Tryz.prog 62 2 (2):=⟨by kernel_rfl⟩
instance:ba Tryz.prog 62 3 (3):=⟨by kernel_rfl⟩
instance:ba Tryz.prog 62 4 (4):=⟨by kernel_rfl⟩
instance:ba Tryz.prog 62 5 (5):=⟨by kernel_rfl⟩
instance:ba Tryz.prog 79 0 (0):=⟨by kernel_rfl⟩
instance:ba Tryz.prog 79 1 (1):=⟨by kernel_rfl⟩
instance:ba Tryz.prog 79 2 (2):=⟨by kernel_rfl⟩
instance:ba Tryz.prog 94 0 (0):=⟨by kernel_rfl⟩
instance:ba Tryz.prog 94 1 (1):=⟨EB⟩
instance:ba Tryz.prog 94 2 (2):=⟨by kernel_rfl⟩
instance:ba Tryz.prog 94 3 (3):=⟨by kernel_rfl⟩
instance:ba Tryz.prog 94 4 (4):=⟨EA⟩
instance:ba Tryz.prog 94 5 (5):=⟨x9⟩
instance:ba Tryz.prog 94 6 (6):=⟨Ez⟩
instance:ba Tryz.prog 94 7 (7):=⟨by kernel_rfl⟩
instance:ba Tryz.prog 96 0 (0):=⟨nK⟩
instance:ba Tryz.prog 96 1 (8):=⟨by kernel_rfl⟩
instance:ba Tryz.prog 96 2 (15):=⟨Ey⟩
instance:ba Tryz.prog 96 3 (19):=⟨by kernel_rfl⟩
instance:ba Tryz.prog 96 4 (20):=⟨by kernel_rfl⟩
instance:ba Tryz.prog 96 5 (21):=⟨iL⟩
instance:ba Tryz.prog 96 6 (28):=⟨by kernel_rfl⟩
instance:oc Tryz.prog 104:=⟨bO⟩
instance:oc Tryz.prog 107:=⟨Gs⟩
instance:oc Tryz.prog 135:=⟨by kernel_rfl⟩
instance:oc Tryz.prog 140:=⟨by kernel_rfl⟩
instance:oc Tryz.prog 149:=⟨pU⟩
instance:oc Tryz.prog 152:=⟨Bo⟩
instance:oc Tryz.prog 173:=⟨by kernel_rfl⟩
instance:oc Tryz.prog 176:=⟨by kernel_rfl⟩
instance:oc Tryz.prog 177:=⟨by kernel_rfl⟩
instance:oc Tryz.prog 180:=⟨by kernel_rfl⟩
instance:oc Tryz.prog 193:=⟨by kernel_rfl⟩
instance:oc Tryz.prog 197:=⟨by kernel_rfl⟩
instance:oc Tryz.prog 198:=⟨by kernel_rfl⟩
instance:oc Tryz.prog 224:=⟨Bn⟩
instance:oc Tryz.prog 225:=⟨by kernel_rfl⟩
instance:oc Tryz.prog 24:=⟨by kernel_rfl⟩
instance:oc Tryz.prog 273:=⟨by kernel_rfl⟩
instance:oc Tryz.prog 3:=⟨bC⟩
instance:oc Tryz.prog 30:=⟨Pz⟩
instance:oc Tryz.prog 35:=⟨rG⟩
instance:oc Tryz.prog 38:=⟨by kernel_rfl⟩
instance:oc Tryz.prog 39:=⟨Dr⟩
instance:oc Tryz.prog 4:=⟨gj⟩
instance:oc Tryz.prog 49:=⟨by kernel_rfl⟩
instance:oc Tryz.prog 5:=⟨Da⟩
instance:oc Tryz.prog 85:=⟨Py⟩
instance:oc Tryz.prog 86:=⟨s8⟩
instance:oc Tryz.prog 87:=⟨by kernel_rfl⟩
instance:oc Tryz.prog 88:=⟨IH⟩
instance:oc Tryz.prog 89:=⟨Px⟩
instance:oc Tryz.prog 9:=⟨by kernel_rfl⟩
instance:oc Tryz.prog 90:=⟨Dq⟩
instance:oc Tryz.prog 91:=⟨zO⟩
instance:oc Tryz.prog 92:=⟨ZG⟩
instance:KC Tryz.prog 134 ((104,1)):=⟨Qf⟩
instance:KC Tryz.prog 152 ((149,1)):=⟨by kernel_rfl⟩
instance:KC Tryz.prog 176 ((227,7)):=⟨by kernel_rfl⟩
instance:KC Tryz.prog 177 ((196,4)):=⟨by kernel_rfl⟩
instance:KC Tryz.prog 180 ((333,9)):=⟨by kernel_rfl⟩
instance:KC Tryz.prog 197 ((202,3)):=⟨iB⟩
instance:KC Tryz.prog 224 ((4,1)):=⟨by kernel_rfl⟩
instance:KC Tryz.prog 24 ((44,12)):=⟨Dp⟩
instance:KC Tryz.prog 30 ((3,1)):=⟨ja⟩
instance:KC Tryz.prog 38 ((9,1)):=⟨zM⟩
instance:KC Tryz.prog 39 ((5,1)):=⟨kk⟩
instance:we Tryz.prog 102 ([(0,5)]):=⟨by kernel_rfl⟩
instance:we Tryz.prog 124 ([(0,1),(1,1),(2,1),(3,1)]):=⟨by kernel_rfl⟩
instance:we Tryz.prog 132 ([(0,1),(1,1),(2,1)]):=⟨by kernel_rfl⟩
instance:we Tryz.prog 137 ([(0,1),(1,1),(2,1),(3,1),(4,1),(5,1),(6,1),(7,1),(8,1),(9,1),(10,1)]):=⟨by kernel_rfl⟩
instance:we Tryz.prog 154 ([(0,1),(1,1),(2,1),(3,1),(4,1),(5,1),(6,1),(7,1)]):=⟨by kernel_rfl⟩
instance:we Tryz.prog 159 ([(0,1),(1,1),(2,1),(3,1),(4,1),(5,1),(6,1),(7,1)]):=⟨fx⟩
instance:we Tryz.prog 182 ([(0,1),(1,1)]):=⟨by kernel_rfl⟩
instance:we Tryz.prog 184 ([(0,1),(1,1),(2,1),(3,1)]):=⟨by kernel_rfl⟩
instance:we Tryz.prog 200 ([(0,1),(1,1),(2,1)]):=⟨by kernel_rfl⟩
instance:we Tryz.prog 202 ([(0,1),(1,1),(2,1)]):=⟨by kernel_rfl⟩
instance:we Tryz.prog 218 ([(0,1),(1,1),(2,1),(3,1)]):=⟨by kernel_rfl⟩
instance:we Tryz.prog 220 ([(0,1),(1,1),(2,1),(3,1),(4,1),(5,1),(6,4)]):=⟨by kernel_rfl⟩
instance:we Tryz.prog 227 ([(0,1),(1,1),(2,1),(3,1),(4,1),(5,1),(6,1)]):=⟨by kernel_rfl⟩
instance:we Tryz.prog 23 ([(0,1),(1,1),(2,1),(3,1)]):=⟨by kernel_rfl⟩
instance:we Tryz.prog 231 ([(0,1),(1,1),(2,1),(3,1)]):=⟨by kernel_rfl⟩
instance:we Tryz.prog 249 ([(0,1),(1,1)]):=⟨by kernel_rfl⟩
instance:we Tryz.prog 275 ([(0,1),(1,1)]):=⟨by kernel_rfl⟩
instance:we Tryz.prog 29 ([(0,1),(1,1),(2,1),(3,1),(4,1),(5,1),(6,1)]):=⟨zL⟩
instance:we Tryz.prog 42 ([(0,1),(1,1),(2,1),(3,1),(4,1),(5,1),(6,1),(7,1),(8,1),(9,1),(10,1)]):=⟨by kernel_rfl⟩
instance:we Tryz.prog 52 ([(0,1),(1,1),(2,1),(3,1),(4,1)]):=⟨by kernel_rfl⟩
instance:we Tryz.prog 56 ([(0,1),(1,1),(2,1),(3,1),(4,1),(5,1),(6,1),(7,1),(8,1)]):=⟨by kernel_rfl⟩
instance:we Tryz.prog 62 ([(0,1),(1,1),(2,1),(3,1),(4,1),(5,1),(6,1)]):=⟨by kernel_rfl⟩
instance:we Tryz.prog 94 ([(0,1),(1,1),(2,1),(3,1),(4,1),(5,1),(6,1),(7,1)]):=⟨by kernel_rfl⟩
instance:we Tryz.prog 96 ([(0,8),(8,7),(15,4),(19,1),(20,1),(21,7),(28,1)]):=⟨by kernel_rfl⟩
instance:Cu Tryz.prog 104 ((.int .u64)):=⟨by kernel_rfl⟩
instance:Cu Tryz.prog 149 ((.int .u32)):=⟨O9⟩
instance:Cu Tryz.prog 173 ((.pointer 249)):=⟨by kernel_rfl⟩
instance:Cu Tryz.prog 221 ((.pointer 227)):=⟨by kernel_rfl⟩
instance:Cu Tryz.prog 247 ((.int .u64)):=⟨by kernel_rfl⟩
instance:Cu Tryz.prog 27 ((.pointer 96)):=⟨by kernel_rfl⟩
instance:Cu Tryz.prog 295 ((.pointer 312)):=⟨ZC⟩
instance:Cu Tryz.prog 3 ((.int .i64)):=⟨u_3⟩
instance:Cu Tryz.prog 35 ((.int .u64)):=⟨OO⟩
instance:Cu Tryz.prog 5 ((.int .u8)):=⟨sQ⟩
instance:Cu Tryz.prog 85 ((.pointer 179)):=⟨by kernel_rfl⟩
instance:Cu Tryz.prog 89 ((.pointer 200)):=⟨by kernel_rfl⟩
instance:Cu Tryz.prog 92 ((.pointer 182)):=⟨by kernel_rfl⟩
instance:Cus Tryz.prog 104:=⟨Gn⟩
instance:Cus Tryz.prog 149:=⟨Gm⟩
instance:Cus Tryz.prog 3:=⟨Wf⟩
instance:Cus Tryz.prog 35:=⟨IG⟩
instance:Cus Tryz.prog 5:=⟨abg⟩
instance:wb Tryz.prog 102 ([(.int .i64 0),(.slice none 0 0),(.int .u64 0),(.string {data:= #[]}),(.slice none 0 0)]):=⟨Gl⟩
instance:wb Tryz.prog 124 ([(.int .i64 0),(.int .u64 0),(.int .u64 0),(.int .i64 0)]):=⟨by kernel_rfl⟩
instance:wb Tryz.prog 132 ([(.int .i64 0),(.int .i64 0),(.int .u64 0)]):=⟨by kernel_rfl⟩
instance:wb Tryz.prog 137 ([(.pointer none),(.pointer none),(.int .i64 0), .nilFunc, .nilFunc,(.int .i64 0),(.bool false),(.int .i64 0),(.int .i64 0),(.int .u64 0),(.int .i64 0)]):=⟨by kernel_rfl⟩
instance:wb Tryz.prog 154 ([(.pointer none),(.int .i64 0),(.int .i64 0),(.int .i64 0),(.slice none 0 0),(.slice none 0 0),(.int .i64 0),(.int .i64 0)]):=⟨by kernel_rfl⟩
instance:wb Tryz.prog 159 ([(.slice none 0 0),(.slice none 0 0),(.int .u64 0),(.int .i64 0),(.int .i64 0),(.int .u64 0),(.int .i64 0),(.int .i64 0)]):=⟨cb⟩
instance:wb Tryz.prog 182 ([(.pointer none),(.slice none 0 0)]):=⟨by kernel_rfl⟩
instance:wb Tryz.prog 184 ([(.pointer none),(.pointer none),(.int .i64 0),(.int .i64 0)]):=⟨by kernel_rfl⟩
instance:wb Tryz.prog 200 ([(.slice none 0 0),(.map none),(.int .u64 0)]):=⟨by kernel_rfl⟩
instance:wb Tryz.prog 202 ([(.int .u64 0),(.int .i64 0),(.int .u64 0)]):=⟨xu⟩
instance:wb Tryz.prog 218 ([(.int .i64 0),(.int .i64 0),(.int .i64 0),(.bool false)]):=⟨P5⟩
instance:wb Tryz.prog 220 ([(.pointer none), .nilFunc, .nilFunc, .nilFunc,(.slice none 0 0),(.int .i64 0),(.int .i64 0),(.int .i64 0),(.int .i64 0),(.bool false)]):=⟨by kernel_rfl⟩
instance:wb Tryz.prog 227 ([(.bool false),(.bool false),(.int .i64 0),(.slice none 0 0),(.slice none 0 0),(.int .i64 0),(.map none)]):=⟨by kernel_rfl⟩
instance:wb Tryz.prog 23 ([(.int .i64 0),(.int .i64 0),(.int .i64 0),(.int .i64 0)]):=⟨Zz⟩
instance:wb Tryz.prog 231 ([(.pointer none),(.int .i64 0),(.int .i64 0),(.int .i64 0)]):=⟨gR⟩
instance:wb Tryz.prog 249 ([(.int .i64 0),(.slice none 0 0)]):=⟨by kernel_rfl⟩
instance:wb Tryz.prog 275 ([(.int .i64 0), .nilFunc]):=⟨P4⟩
instance:wb Tryz.prog 29 ([(.int .i64 0),(.int .i64 0),(.int .i64 0),(.int .i64 0),(.int .i64 0),(.int .i64 0),(.int .i64 0)]):=⟨kj⟩
instance:wb Tryz.prog 42 ([(.int .i64 0),(.slice none 0 0),(.int .u64 0),(.int .i64 0),(.int .u64 0),(.int .u64 0),(.slice none 0 0),(.bool false),(.bool false),(.slice none 0 0),(.string {data:= #[]})]):=⟨Zy⟩
instance:wb Tryz.prog 52 ([(.int .i64 0),(.slice none 0 0),(.int .u64 0),(.string {data:= #[]}),(.slice none 0 0)]):=⟨oX⟩
instance:wb Tryz.prog 56 ([(.string {data:= #[]}),(.slice none 0 0),(.int .u64 0),(.int .i64 0),(.int .u64 0),(.int .i64 0),(.bool false),(.bool false),(.bool false)]):=⟨IF⟩
instance:wb Tryz.prog 62 ([(.int .i64 0),(.int .i64 0),(.int .i64 0),(.int .i64 0),(.int .i64 0),(.int .i64 0),(.int .i64 0)]):=⟨by kernel_rfl⟩
instance:wb Tryz.prog 94 ([(.pointer none),(.pointer none),(.pointer none),(.pointer none),(.pointer none),(.pointer none),(.pointer none),(.pointer none)]):=⟨by kernel_rfl⟩
instance:wb Tryz.prog 96 ([(.pointer none),(.pointer none),(.pointer none),(.pointer none),(.pointer none),(.pointer none),(.pointer none),(.pointer none),(.int .i64 0),(.int .i64 0),(.int .i64 0),(.int .i64 0),(.int .i64 0),(.int .i64 0),(.int .i64 0),(.int .i64 0),(.int .i64 0),(.int .i64 0),(.int .i64 0),(.int .u64 0),(.int .i64 0),(.int .i64 0),(.int .i64 0),(.int .i64 0),(.int .i64 0),(.int .i64 0),(.int .i64 0),(.int .i64 0),(.slice none 0 0)]):=⟨by kernel_rfl⟩
abbrev CM (b:Nat):Value:= .pointer (some ⟨b,0,none⟩)
theorem CH{p:Prop}[Decidable p](h:p:=by omega):decide p=true:=decide_eq_true h
theorem CG{p:Prop}[Decidable p](h:¬p:=by omega):decide p=false:=decide_eq_false h
theorem CI{F:dC}{R:List aa}:∀h,Le F.h h->gP R h->True:=λ_ _ _=>trivial
end Go.Proofs.YtcbcjolpdljbiaaGreat
