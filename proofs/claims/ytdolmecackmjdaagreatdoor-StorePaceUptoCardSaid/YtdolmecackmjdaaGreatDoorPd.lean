/- Part Pd of the proof. -/
import Derived.Test.YtdolmecackmjdaaGreatDoorPb
import Derived.Test.YtdolmecackmjdaaGreatDoorPc1
set_option maxRecDepth 100000
namespace Go.cV
open Go
variable {P:Program}
class my (P:Program)(t:Nat):Prop where p:cN P t=true
class Z2 (P:Program)(t:Nat):Prop where p:(P.underlying t).isSome=true
class CB (P:Program)(t:Nat)(k:outParam (TypeId×Nat)):Prop where p:cE P t=some k
class CC (P:Program)(t:Nat)(k:outParam (Nat)):Prop where p:cy P t=some k
class uf (P:Program)(t:Nat)(k:outParam (List Value)):Prop where p:bP P t=some k
class ug (P:Program)(t:Nat)(k:outParam (List (Nat×Nat))):Prop where p:ib P t=some k
class Cu (P:Program)(t:Nat)(k:outParam (TypeDesc)):Prop where p:P.underlying t=some k
class aP (P:Program)(t i:Nat)(k:outParam Nat):Prop where p:aj P t i=some k
variable {n:Nat} {ds:List Deferred} {F:dy} {Q:Exit→Act→World→Prop} {K:Act→World→Prop} {σ:aR} {H:List aa} {o:Oper} {d:Nat} {ops:Array Oper} {rest:List Oper}
theorem FaK{s f k b i:Nat}{x:Operand}(ho:o.op= .fieldAddr s x f:=by exact rfl)(hk:aj P s f=some k:=by exact aP.p)(hx:bh σ x=some (.pointer (some ⟨b,i,none⟩)):=by exact rfl):Yv P n ds F σ o (.pointer (some ⟨b,i+k,none⟩)):=Fa (hk:=hk) (ho:=ho) (hx:=hx)
theorem PnK{op:BinOp}{t yt e:TypeId}{x y:Operand}{p:Option Addr}{b:Bool}(ho:o.op= .binOp op t x y yt:=by exact rfl)(ht:P.underlying t=some (.pointer e):=by exact Cu.p)(hx:bh σ x=some (.pointer p):=by exact rfl)(hy:bh σ y=some (.pointer none):=by exact rfl)(hop:(op= .eql∧b=p.isNone)∨(op= .neq∧b= !p.isNone):=by first|exact .inl ⟨rfl,rfl⟩|exact .inr ⟨rfl,rfl⟩):Yv P n ds F σ o (.bool b):=Pn (ht:=ht) (ho:=ho) (hx:=hx) (hy:=hy) (hop:=hop)
theorem LnK{t:TypeId}{x:Operand}{a:Option Addr}{l c:Nat}{ek:TypeId×Nat}(ho:o.op= .call {callee:= .builtin .len,args:= #[x],argTypes:= #[t]}:=by exact rfl)(ht:cE P t=some ek:=by exact CB.p)(hx:bh σ x=some (.slice a l c):=by exact rfl):Yv P n ds F σ o (.int .i64 l):=Ln (ht:=ht) (ho:=ho) (hx:=hx)
theorem aaY{t k:TypeId}{x:Operand}{p:Option Addr}{vs:List Value}(h:G n ds F K ((d, .agg vs.toArray)::σ) H)(ho:o.op= .load t x:=by exact rfl)(hs:cy P t=some k:=by exact CC.p)(hd:o.dst=some d:=by exact rfl)(hx:bh σ x=some (.pointer p):=by exact rfl)(hk:uv F H p k vs:=by
   first
   |exact AZ (by repeat (first|exact eX.here|apply eX.there)) (by exact rfl)
   |exact za (by repeat (first|exact eX.here|apply eX.there)) (by exact rfl)
   |exact rr (by assumption) (by first|assumption|exact rfl) (by first|rfl|assumption)
   |exact yw (by assumption) (by exact rfl)
   |exact FY (by first|rfl|assumption) (by repeat (first|exact eX.here|apply eX.there)) (by first|assumption|exact rfl)) (hl:vs.length=k:=by first|rfl|(simp;omega)) (hdn:Nat.blt d n=true:=by exact rfl):G n ds F (λa w=>o.wp P a w K Q) σ H:=oLN (hs:=hs) (h:=h) (ho:=ho) (hd:=hd) (hx:=hx) (hk:=hk) (hl:=hl) (hdn:=hdn)
theorem LfNK{t k:TypeId}{x:Operand}{p:Option Addr}{vs:List Value}(ho:o.op= .load t x:=by exact rfl)(hs:cy P t=some k:=by exact CC.p)(hx:bh σ x=some (.pointer p):=by exact rfl)(hk:uv F [] p k vs:=by
   first
   |exact rr (by assumption) (by first|assumption|exact rfl) (by first|rfl|assumption)
   |exact yw (by assumption) (by exact rfl)) (hl:vs.length=k:=by first|rfl|(simp;omega)):Yv P n ds F σ o (.agg vs.toArray):=LfN (hs:=hs) (ho:=ho) (hx:=hx) (hk:=hk) (hl:=hl)
theorem oSWK{t k:TypeId}{x y:Operand}{b:Nat}{e:TypeId}{cs vs:List Value}{f:aa→List aa}(h:G n ds F K σ (f (ag b e vs)))(ho:o.op= .store t x y:=by exact rfl)(hs:cy P t=some k:=by exact CC.p)(hd:o.dst=none:=by exact rfl)(hx:bh σ x=some (.pointer (some ⟨b,0,none⟩)):=by exact rfl)(hy:bh σ y=some (.agg vs.toArray):=by exact rfl)(hk:vs.length=k:=by exact rfl)(h1:∀v∈vs,v.oneCell'=true:=by simp[cR,Value.cells,Value.oneCell',aT])(hu:Pos H (ag b e cs) f:=by repeat (first|exact Pos.here|apply Pos.there))(hl:cs.length=k:=by exact rfl):G n ds F (λa w=>o.wp P a w K Q) σ H:=gM (hs:=hs) (h:=h) (ho:=ho) (hd:=hd) (hx:=hx) (hy:=hy) (hk:=hk) (h1:=h1) (hu:=hu) (hl:=hl)
theorem abk{t e sz m b:Nat}{x y:Operand}{l c j:Nat}{k:IntKind}{i:Int}(ho:o.op= .indexAddr t x y:=by exact rfl)(ht:cE P t=some (e,sz):=by exact CB.p)(hx:bh σ x=some (.slice (some ⟨b,0,none⟩) l c):=by exact rfl)(hy:bh σ y=some (.int k i):=by exact rfl)(hj:i=(j:Int):=by first|exact rfl|omega)(hl:j<l:=by first|omega|assumption)(hm:j*sz=m:=by first|exact Nat.mul_one _|rfl):Yv P n ds F σ o (.pointer (some ⟨b,m,none⟩)):=IxZ (ht:=ht) (ho:=ho) (hx:=hx) (hy:=hy) (hj:=hj) (hl:=hl) (hm:=hm)
theorem CvK{s t:TypeId}{x:Operand}{k k':IntKind}{i z:Int}(ho:o.op= .convert s t x:=by exact rfl)(ht:P.underlying t=some (.int k):=by exact Cu.p)(hs:(P.underlying s).isSome=true:=by exact Z2.p)(hx:bh σ x=some (.int k' i):=by exact rfl)(hz:k.wrap i=z:=by first|exact wrap_i64 (by omega)|exact wrap_u64 (by omega)|exact wrap_u32 (by omega)|exact wrap_u16 (by omega)|exact wrap_u8 (by omega)|exact wrap_i32 (by omega)|exact rfl):Yv P n ds F σ o (.int k z):=Cv (ht:=ht) (hs:=hs) (ho:=ho) (hx:=hx) (hz:=hz)
theorem BdK{t:TypeId}{pl:List (Nat×Nat)}{zs vs cs:List Value}{parts:List (Nat×Operand)}(ho:o.op= .build t parts.toArray:=by exact rfl)(hz:bP P t=some zs:=by exact uf.p)(hpl:ib P t=some pl:=by exact ug.p)(hv:jj σ (parts.map (·.2))=some vs:=by exact rfl)(hc:mD (λi=>pl[i]?) zs ((parts.map (·.1)).zip vs)=some cs:=by exact rfl):Yv P n ds F σ o (.agg cs.toArray):=Bd (hz:=hz) (hpl:=hpl) (ho:=ho) (hv:=hv) (hc:=hc)
theorem oLK{t:TypeId}{x:Operand}{p:Option Addr}{v:Value}(h:G n ds F K ((d,v)::σ) H)(ho:o.op= .load t x:=by exact rfl)(hs:cN P t=true:=by exact my.p)(hd:o.dst=some d:=by exact rfl)(hx:bh σ x=some (.pointer p):=by exact rfl)(hk:J2 F H p v:=by
   first
   |exact LS (by repeat (first|exact eX.here|apply eX.there)) (by first|exact rfl|assumption)
   |exact Ai (by assumption) (by first|assumption|exact rfl)
   |exact ET (by assumption) (by omega)
   |exact uy (by assumption) (by first|exact rfl|assumption)
   |exact LU (by first|rfl|assumption) (by repeat (first|exact eX.here|apply eX.there)) (by first|assumption|exact rfl)
   |exact Ri (by assumption)) (hdn:Nat.blt d n=true:=by exact rfl):G n ds F (λa w=>o.wp P a w K Q) σ H:=oL (hs:=hs) (h:=h) (ho:=ho) (hd:=hd) (hx:=hx) (hk:=hk) (hdn:=hdn)
theorem oSK{t:TypeId}{x y:Operand}{b i:Nat}{e:TypeId}{cs:List Value}{f:aa→List aa}{v:Value}(h:G n ds F K σ (f (ag b e (cs.set i v))))(ho:o.op= .store t x y:=by exact rfl)(hs:cN P t=true:=by exact my.p)(hd:o.dst=none:=by exact rfl)(hx:bh σ x=some (.pointer (some ⟨b,i,none⟩)):=by exact rfl)(hy:bh σ y=some v:=by exact rfl)(hu:Pos H (ag b e cs) f:=by repeat (first|exact Pos.here|apply Pos.there))(h1:v.oneCell'=true:=by first|rfl|decide|simp)(hi:i<cs.length:=by first|decide|(simp;done)|(simp;omega)|omega):
    G n ds F (λa w=>o.wp P a w K Q) σ H:=oS (hs:=hs) (h:=h) (ho:=ho) (hd:=hd) (hx:=hx) (hy:=hy) (hu:=hu) (h1:=h1) (hi:=hi)
theorem LfK{t:TypeId}{x:Operand}{p:Option Addr}{v:Value}(ho:o.op= .load t x:=by exact rfl)(hs:cN P t=true:=by exact my.p)(hx:bh σ x=some (.pointer p):=by exact rfl)(hk:J2 F [] p v:=by
   first
   |exact Ai (by assumption) (by first|assumption|exact rfl)
   |exact ET (by assumption) (by omega)
   |exact uy (by assumption) (by first|exact rfl|assumption)
   |exact Ri (by assumption)):Yv P n ds F σ o v:=Lf (hs:=hs) (ho:=ho) (hx:=hx) (hk:=hk)
theorem aaX{t:TypeId}{x:Operand}{b i:Nat}{cs:List Value}{v:Value}(h:G n ds F K ((d,v)::σ) H)(ho:o.op= .load t x:=by exact rfl)(hs:cN P t=true:=by exact my.p)(hd:o.dst=some d:=by exact rfl)(hx:bh σ x=some (.pointer (some ⟨b,i,none⟩)):=by exact rfl)(c:lY H b cs:=by infer_instance)(hv:cs[i]?=some v:=by exact rfl)(hdn:Nat.blt d n=true:=by exact rfl):G n ds F (λa w=>o.wp P a w K Q) σ H:=oLc (hs:=hs) (h:=h) (ho:=ho) (hd:=hd) (hx:=hx) (c:=c) (hv:=hv) (hdn:=hdn)
theorem UU{t k:TypeId}{x:Operand}{b i:Nat}{cs vs:List Value}(h:G n ds F K ((d, .agg vs.toArray)::σ) H)(ho:o.op= .load t x:=by exact rfl)(hs:cy P t=some k:=by exact CC.p)(hd:o.dst=some d:=by exact rfl)(hx:bh σ x=some (.pointer (some ⟨b,i,none⟩)):=by exact rfl)(c:lY H b cs:=by infer_instance)(hv:(cs.drop i).take k=vs:=by exact rfl)(hl:vs.length=k:=by exact rfl)(hdn:Nat.blt d n=true:=by exact rfl):G n ds F (λa w=>o.wp P a w K Q) σ H:=oLcN (hs:=hs) (h:=h) (ho:=ho) (hd:=hd) (hx:=hx) (c:=c) (hv:=hv) (hl:=hl) (hdn:=hdn)
theorem aaV{t:TypeId}{x y:Operand}{b i:Nat}{v:Value}{H':List aa}(h:G n ds F K σ H')(ho:o.op= .store t x y:=by exact rfl)(hs:cN P t=true:=by exact my.p)(hd:o.dst=none:=by exact rfl)(hx:bh σ x=some (.pointer (some ⟨b,i,none⟩)):=by exact rfl)(hy:bh σ y=some v:=by exact rfl)(c:CN H b i v H':=by infer_instance)(h1:v.oneCell'=true:=by first|rfl|decide|simp):G n ds F (λa w=>o.wp P a w K Q) σ H:=Z7 (hs:=hs) (h:=h) (ho:=ho) (hd:=hd) (hx:=hx) (hy:=hy) (c:=c) (h1:=h1)
theorem zf{K:Act→World→Prop}(t:Nat){b:Bool}(h:G n ds F K ((t, .bool false)::σ) H)(hl:look σ t=some (.bool b):=by exact rfl)(e:b=false:=by exact decide_eq_false (by omega)):G n ds F K σ H:=ay hl (congrArg Value.bool e) h
theorem dm{c:Operand}{x y:Code}{b:Bool}(h:G n ds F (y.wp P Q) σ H)(hc:bh σ c=some (.bool b):=by exact rfl)(e:b=false:=by exact decide_eq_false (by omega)):G n ds F ((Code.cond c x y).wp P Q) σ H:=vx hc e h
theorem zt{K:Act→World→Prop}(t:Nat){b:Bool}(h:G n ds F K ((t, .bool true)::σ) H)(hl:look σ t=some (.bool b):=by exact rfl)(e:b=true:=by exact decide_eq_true (by omega)):G n ds F K σ H:=ay hl (congrArg Value.bool e) h
theorem fB{c:Operand}{x y:Code}{b:Bool}(h:G n ds F (x.wp P Q) σ H)(hc:bh σ c=some (.bool b):=by exact rfl)(e:b=true:=by exact decide_eq_true (by omega)):G n ds F ((Code.cond c x y).wp P Q) σ H:=vv hc e h
structure Hid (q:Prop):Prop where out:q
theorem aA{p q:Prop}(h:q)(f:Hid q→p:=by
  intro h
  first
    |with_reducible refine g_ne ?_
    |with_reducible refine iu ?_
    |with_reducible refine aw ?_
    |with_reducible refine MJ ?_
    |with_reducible refine aco ?_
    |with_reducible refine yz ?_
    |with_reducible refine fi ?_
    |with_reducible refine TM ?_
    |with_reducible refine aG ?_
    |with_reducible refine Ew ?_
    |with_reducible refine BS ?_
    |with_reducible refine TZ ?_
    |with_reducible refine nM ?_
    |with_reducible refine Yb ?_
    |with_reducible refine BT ?_
    |refine Li Mv ?_
    |refine Li As ?_
    |refine Li FaK ?_
    |refine Li Cm ?_
    |refine Lp (oLK ?_)
    |refine Li Nc ?_
    |refine Lx ?_
    |refine Ti Mv ?_
    |refine Li Ex ?_
    |refine Ti FaK ?_
    |refine Li Im ?_
    |refine Tx ?_
    |refine Ti Nc ?_
    |refine Li Pf ?_
    |refine Ti LfK ?_
    |refine Li Pt ?_
    |refine Lp (oSK ?_)
    |refine BU ?_
    |refine Li Nt ?_
    |refine Li LnK ?_
    |refine Tp (oLK ?_)
    |refine Ti As ?_
    |refine Lp (aaY ?_)
    |refine Ti Cm ?_
    |refine Li BdK ?_
    |refine vx rfl rfl ?_
    |refine vv rfl rfl ?_
    |refine vx rfl (by rfl) ?_
    |refine vv rfl (by rfl) ?_
    |refine Li CvK ?_
    |refine Ti Im ?_
    |refine Li PnK ?_
    |refine Li abk ?_
    |refine Ti LfNK ?_
    |refine Lp (oSWK ?_)
    |refine Ti Pf ?_
    |refine Ti abk ?_
    |refine Ti LnK ?_
    |refine Ti Pt ?_
    |refine Ti Ex ?_
    |refine Tp (oSK ?_)
    |refine Ti BdK ?_
    |refine zx rfl ?_
    |refine Lp (aaX ?_)
    |refine Lp (UU ?_)
    |refine Lp (aaV ?_)
    |refine Tp (aaV ?_)
    |refine Tp (aaX ?_)
    |refine Tp (aaY ?_)
    |refine Tp (UU ?_)
    |refine Tne ?_
    |refine Tn ?_
  exact h.out):p:=f ⟨h⟩
theorem bd{p q:Prop}(h:q)(f:Hid q→p:=by
  intro h
  try simp only[s8,cap]
  exact h.out):p:=f ⟨h⟩
theorem bf{p q:Prop}(h:q)(f:Hid q→p:=by
  intro h
  refine aA ?_
  refine aA ?_
  exact h.out):p:=f ⟨h⟩
theorem bq{p q:Prop}(h:q)(f:Hid q→p:=by
  intro h
  refine aA ?_
  refine bf ?_
  exact h.out):p:=f ⟨h⟩
theorem aW{p q:Prop}(h:q)(f:Hid q→p:=by
  intro h
  refine bf ?_
  refine bf ?_
  exact h.out):p:=f ⟨h⟩
theorem br{p q:Prop}(h:q)(f:Hid q→p:=by
  intro h
  refine bf ?_
  refine bq ?_
  exact h.out):p:=f ⟨h⟩
theorem bD{p q:Prop}(h:q)(f:Hid q→p:=by
  intro h
  refine bq ?_
  refine bq ?_
  exact h.out):p:=f ⟨h⟩
theorem bL{p q:Prop}(h:q)(f:Hid q→p:=by
  intro h
  refine bq ?_
  refine aW ?_
  exact h.out):p:=f ⟨h⟩
theorem dh{p q:Prop}(h:q)(f:Hid q→p:=by
  intro h
  refine aW ?_
  refine aW ?_
  exact h.out):p:=f ⟨h⟩
theorem dg{p q:Prop}(h:q)(f:Hid q→p:=by
  intro h
  refine aW ?_
  refine br ?_
  exact h.out):p:=f ⟨h⟩
theorem bA{p q:Prop}(h:q)(f:Hid q→p:=by
  intro h
  refine br ?_
  refine br ?_
  exact h.out):p:=f ⟨h⟩
theorem bI{p q:Prop}(h:q)(f:Hid q→p:=by
  intro h
  refine br ?_
  refine bD ?_
  exact h.out):p:=f ⟨h⟩
theorem eC{p q:Prop}(h:q)(f:Hid q→p:=by
  intro h
  refine bD ?_
  refine bD ?_
  exact h.out):p:=f ⟨h⟩
theorem gP{p q:Prop}(h:q)(f:Hid q→p:=by
  intro h
  refine bD ?_
  refine bL ?_
  exact h.out):p:=f ⟨h⟩
theorem fK{p q:Prop}(h:q)(f:Hid q→p:=by
  intro h
  refine bL ?_
  refine bL ?_
  exact h.out):p:=f ⟨h⟩
theorem oc{p q:Prop}(h:q)(f:Hid q→p:=by
  intro h
  refine bL ?_
  refine dh ?_
  exact h.out):p:=f ⟨h⟩
theorem qY{p q:Prop}(h:q)(f:Hid q→p:=by
  intro h
  refine dh ?_
  refine dh ?_
  exact h.out):p:=f ⟨h⟩
theorem mI{p q:Prop}(h:q)(f:Hid q→p:=by
  intro h
  refine dh ?_
  refine dg ?_
  exact h.out):p:=f ⟨h⟩
theorem x7{p q:Prop}(h:q)(f:Hid q→p:=by
  intro h
  refine dg ?_
  refine dg ?_
  exact h.out):p:=f ⟨h⟩
theorem CD{p q:Prop}(h:q)(f:Hid q→p:=by
  intro h
  refine dg ?_
  refine bA ?_
  exact h.out):p:=f ⟨h⟩
theorem bW{p q:Prop}(h:q)(f:Hid q→p:=by
  intro h
  refine bA ?_
  refine bA ?_
  exact h.out):p:=f ⟨h⟩
theorem zl{f:FuncId}{xs:List Operand}{vs:List Value}{qW:Array TypeId}{pre:Hp→Prop}{A2 R:List aa}{x:Value}{y:List aa}{q:Prop}(j5:av P f=true)(hc:aF P f vs pre A2 (λv H=>v=x∧H=y))(dG:iI H A2 R)(ic:∀h,Le F.h h→gw R h→pre h)(h:q)
 (ho:o.op= .call {callee:= .value (.func f),args:=xs.toArray,argTypes:=qW}:=by exact rfl) (hv:jj σ xs=some vs:=by exact rfl) (hg:QZ ops o σ=true:=by exact rfl) (hd:o.dst=some d:=by exact rfl) (hdn:Nat.blt d n=true:=by exact rfl)
 (g:Hid q→G n ds F (wpList P ops Q rest) ((d,x)::σ) (y++R):=by
  intro h
  try simp only[s8,cap]
  exact h.out):G n ds F (wpList P ops Q (o::rest)) σ H:=Lp (oC j5 ho hv hc dG ic (by rintro v H' ⟨rfl,rfl⟩;exact g ⟨h⟩) hd hdn) hg
end Go.cV
namespace Go.Proofs.YtdolmecackmjdaaGreatDoor
open Go Go.cV
instance:CC Tryz.prog 113 (5):=⟨T.DG⟩
instance:CC Tryz.prog 170 (8):=⟨T.cZ⟩
instance:CC Tryz.prog 228 (4):=⟨T.DF⟩
instance:CC Tryz.prog 23 (7):=⟨T.Aq⟩
instance:CC Tryz.prog 243 (3):=⟨T.uS⟩
instance:CC Tryz.prog 25 (4):=⟨T.K5⟩
instance:CC Tryz.prog 279 (2):=⟨T.ZD⟩
instance:CC Tryz.prog 280 (6):=⟨T.MZ⟩
instance:CC Tryz.prog 41 (5):=⟨T.cU⟩
instance:CC Tryz.prog 47 (11):=⟨T.KZ⟩
instance:CC Tryz.prog 49 (9):=⟨T.lh⟩
instance:aP Tryz.prog 100 2 (2):=⟨T.Jx⟩
instance:aP Tryz.prog 100 3 (3):=⟨T.Jw⟩
instance:aP Tryz.prog 100 5 (5):=⟨T.Jv⟩
instance:aP Tryz.prog 109 0 (0):=⟨T.Ju⟩
instance:aP Tryz.prog 109 1 (1):=⟨T.xR⟩
instance:aP Tryz.prog 109 2 (2):=⟨T.Jt⟩
instance:aP Tryz.prog 109 3 (3):=⟨T.Js⟩
instance:aP Tryz.prog 109 4 (4):=⟨T.xQ⟩
instance:aP Tryz.prog 109 5 (5):=⟨T.rS⟩
instance:aP Tryz.prog 109 6 (6):=⟨T.xP⟩
instance:aP Tryz.prog 111 0 (0):=⟨T.jx⟩
instance:aP Tryz.prog 111 1 (8):=⟨T.Jr⟩
instance:aP Tryz.prog 111 2 (15):=⟨T.xO⟩
instance:aP Tryz.prog 111 3 (19):=⟨T.Jq⟩
instance:aP Tryz.prog 111 4 (20):=⟨T.Jp⟩
instance:aP Tryz.prog 111 5 (21):=⟨T.fm⟩
instance:aP Tryz.prog 111 6 (28):=⟨T.Jo⟩
instance:aP Tryz.prog 113 0 (0):=⟨T.Jn⟩
instance:aP Tryz.prog 136 0 (0):=⟨T.Jm⟩
instance:aP Tryz.prog 136 1 (7):=⟨T.Jl⟩
instance:aP Tryz.prog 136 2 (8):=⟨T.Jk⟩
instance:aP Tryz.prog 136 3 (9):=⟨T.Jj⟩
instance:aP Tryz.prog 136 4 (10):=⟨T.Ji⟩
instance:aP Tryz.prog 136 5 (11):=⟨T.Jh⟩
instance:aP Tryz.prog 139 0 (0):=⟨T.Jg⟩
instance:aP Tryz.prog 139 1 (1):=⟨T.Jf⟩
instance:aP Tryz.prog 141 0 (0):=⟨T.Je⟩
instance:aP Tryz.prog 141 1 (1):=⟨T.Jd⟩
instance:aP Tryz.prog 141 2 (2):=⟨T.Jc⟩
instance:aP Tryz.prog 141 3 (3):=⟨T.Jb⟩
instance:aP Tryz.prog 145 0 (0):=⟨T.Ja⟩
instance:aP Tryz.prog 145 1 (1):=⟨T.I9⟩
instance:aP Tryz.prog 145 2 (2):=⟨T.I8⟩
instance:aP Tryz.prog 145 3 (3):=⟨T.I7⟩
instance:aP Tryz.prog 145 4 (4):=⟨T.I6⟩
instance:aP Tryz.prog 145 5 (5):=⟨T.I5⟩
instance:aP Tryz.prog 145 6 (6):=⟨T.I4⟩
instance:aP Tryz.prog 145 7 (7):=⟨T.I0⟩
instance:aP Tryz.prog 170 0 (0):=⟨T.IZ⟩
instance:aP Tryz.prog 170 1 (1):=⟨T.IY⟩
instance:aP Tryz.prog 170 2 (2):=⟨T.IX⟩
instance:aP Tryz.prog 170 3 (3):=⟨T.IW⟩
instance:aP Tryz.prog 170 4 (4):=⟨T.IV⟩
instance:aP Tryz.prog 170 5 (5):=⟨T.IU⟩
instance:aP Tryz.prog 170 6 (6):=⟨T.IT⟩
instance:aP Tryz.prog 170 7 (7):=⟨T.IS⟩
instance:aP Tryz.prog 174 0 (0):=⟨T.IQ⟩
instance:aP Tryz.prog 174 1 (1):=⟨T.IP⟩
instance:aP Tryz.prog 174 2 (2):=⟨T.IN⟩
instance:aP Tryz.prog 177 0 (0):=⟨T.IM⟩
instance:aP Tryz.prog 177 1 (1):=⟨T.IL⟩
instance:aP Tryz.prog 177 10 (10):=⟨T.Ep⟩
instance:aP Tryz.prog 177 2 (2):=⟨T.IK⟩
instance:aP Tryz.prog 177 3 (3):=⟨T.IJ⟩
instance:aP Tryz.prog 177 4 (4):=⟨T.II⟩
instance:aP Tryz.prog 177 5 (5):=⟨T.IH⟩
instance:aP Tryz.prog 177 6 (6):=⟨T.IG⟩
instance:aP Tryz.prog 177 7 (7):=⟨T.IF⟩
instance:aP Tryz.prog 177 8 (8):=⟨T.IE⟩
instance:aP Tryz.prog 177 9 (9):=⟨T.ID⟩
instance:aP Tryz.prog 192 0 (0):=⟨T.IC⟩
instance:aP Tryz.prog 192 1 (1):=⟨T.IB⟩
instance:aP Tryz.prog 197 0 (0):=⟨T.IA⟩
instance:aP Tryz.prog 197 1 (1):=⟨T.Iz⟩
instance:aP Tryz.prog 197 2 (2):=⟨T.Iy⟩
instance:aP Tryz.prog 199 3 (3):=⟨T.Iw⟩
instance:aP Tryz.prog 201 0 (0):=⟨T.Iv⟩
instance:aP Tryz.prog 201 5 (5):=⟨T.Iu⟩
instance:aP Tryz.prog 201 6 (6):=⟨T.Is⟩
instance:aP Tryz.prog 224 0 (0):=⟨T.Ir⟩
instance:aP Tryz.prog 224 1 (1):=⟨T.Ip⟩
instance:aP Tryz.prog 224 2 (2):=⟨T.Io⟩
instance:aP Tryz.prog 224 3 (3):=⟨T.rR⟩
instance:aP Tryz.prog 224 4 (4):=⟨T.nV⟩
instance:aP Tryz.prog 224 5 (5):=⟨T.Il⟩
instance:aP Tryz.prog 224 6 (6):=⟨T.Ij⟩
instance:aP Tryz.prog 228 0 (0):=⟨T.Ii⟩
instance:aP Tryz.prog 228 1 (1):=⟨T.Ih⟩
instance:aP Tryz.prog 228 2 (2):=⟨T.Ig⟩
instance:aP Tryz.prog 228 3 (3):=⟨T.Ie⟩
instance:aP Tryz.prog 23 0 (0):=⟨T.PI⟩
instance:aP Tryz.prog 23 1 (1):=⟨T.vB⟩
instance:aP Tryz.prog 23 2 (2):=⟨T.PH⟩
instance:aP Tryz.prog 23 3 (3):=⟨T.PG⟩
instance:aP Tryz.prog 23 4 (4):=⟨T.PF⟩
instance:aP Tryz.prog 23 5 (5):=⟨T.PE⟩
instance:aP Tryz.prog 23 6 (6):=⟨T.PD⟩
instance:aP Tryz.prog 243 0 (0):=⟨T.Ic⟩
instance:aP Tryz.prog 243 1 (1):=⟨T.xN⟩
instance:aP Tryz.prog 243 2 (2):=⟨T.Ib⟩
instance:aP Tryz.prog 253 0 (0):=⟨T.H9⟩
instance:aP Tryz.prog 253 1 (1):=⟨T.H8⟩
instance:aP Tryz.prog 253 2 (2):=⟨T.H7⟩
instance:aP Tryz.prog 253 3 (3):=⟨T.H6⟩
instance:aP Tryz.prog 25 0 (0):=⟨T.PC⟩
instance:aP Tryz.prog 25 1 (1):=⟨T.PB⟩
instance:aP Tryz.prog 25 2 (2):=⟨T.PA⟩
instance:aP Tryz.prog 25 3 (3):=⟨T.Bc⟩
instance:aP Tryz.prog 279 0 (0):=⟨T.H5⟩
instance:aP Tryz.prog 279 1 (1):=⟨T.H4⟩
instance:aP Tryz.prog 310 0 (0):=⟨T.H3⟩
instance:aP Tryz.prog 310 1 (1):=⟨T.H2⟩
instance:aP Tryz.prog 310 2 (2):=⟨T.HZ⟩
instance:aP Tryz.prog 41 0 (0):=⟨T.Pz⟩
instance:aP Tryz.prog 41 1 (1):=⟨T.Py⟩
instance:aP Tryz.prog 41 2 (2):=⟨T.Px⟩
instance:aP Tryz.prog 41 3 (3):=⟨T.Pw⟩
instance:aP Tryz.prog 41 4 (4):=⟨T.Pu⟩
instance:aP Tryz.prog 47 0 (0):=⟨T.Ps⟩
instance:aP Tryz.prog 47 1 (1):=⟨T.nz⟩
instance:aP Tryz.prog 47 2 (2):=⟨T.Bb⟩
instance:aP Tryz.prog 47 3 (3):=⟨T.Ba⟩
instance:aP Tryz.prog 47 4 (4):=⟨T.O9⟩
instance:aP Tryz.prog 47 5 (5):=⟨T.O8⟩
instance:aP Tryz.prog 47 6 (6):=⟨T.A9⟩
instance:aP Tryz.prog 47 8 (8):=⟨T.O0⟩
instance:aP Tryz.prog 49 0 (0):=⟨T.OZ⟩
instance:aP Tryz.prog 49 1 (1):=⟨T.OY⟩
instance:aP Tryz.prog 49 2 (2):=⟨T.OX⟩
instance:aP Tryz.prog 49 3 (3):=⟨T.OW⟩
instance:aP Tryz.prog 49 4 (4):=⟨T.OV⟩
instance:aP Tryz.prog 49 5 (5):=⟨T.OU⟩
instance:aP Tryz.prog 49 6 (6):=⟨T.OT⟩
instance:aP Tryz.prog 49 7 (7):=⟨T.OS⟩
instance:aP Tryz.prog 49 8 (8):=⟨T.OR⟩
instance:aP Tryz.prog 94 0 (0):=⟨T.OQ⟩
instance:aP Tryz.prog 94 2 (2):=⟨T.OP⟩
instance:aP Tryz.prog 94 3 (3):=⟨T.OO⟩
instance:my Tryz.prog 104:=⟨T.lU⟩
instance:my Tryz.prog 105:=⟨T.CX⟩
instance:my Tryz.prog 106:=⟨T.uK⟩
instance:my Tryz.prog 107:=⟨T.q9⟩
instance:my Tryz.prog 117:=⟨T.Xu⟩
instance:my Tryz.prog 120:=⟨T.Xt⟩
instance:my Tryz.prog 130:=⟨T.Xs⟩
instance:my Tryz.prog 133:=⟨T.Xr⟩
instance:my Tryz.prog 134:=⟨T.Xq⟩
instance:my Tryz.prog 137:=⟨T.Xp⟩
instance:my Tryz.prog 143:=⟨T.yq⟩
instance:my Tryz.prog 151:=⟨T.Xo⟩
instance:my Tryz.prog 163:=⟨T.nc⟩
instance:my Tryz.prog 180:=⟨T.Xn⟩
instance:my Tryz.prog 194:=⟨T.Xm⟩
instance:my Tryz.prog 195:=⟨T.Xl⟩
instance:my Tryz.prog 221:=⟨T.yp⟩
instance:my Tryz.prog 222:=⟨T.Xk⟩
instance:my Tryz.prog 277:=⟨T.Xj⟩
instance:my Tryz.prog 3:=⟨T.dD⟩
instance:my Tryz.prog 37:=⟨T.abW⟩
instance:my Tryz.prog 38:=⟨T.ot⟩
instance:my Tryz.prog 39:=⟨T.abV⟩
instance:my Tryz.prog 4:=⟨T.aaR⟩
instance:my Tryz.prog 43:=⟨T.abU⟩
instance:my Tryz.prog 44:=⟨T.Ac⟩
instance:my Tryz.prog 5:=⟨T.zX⟩
instance:my Tryz.prog 55:=⟨T.KC⟩
instance:my Tryz.prog 79:=⟨T.KB⟩
instance:my Tryz.prog 82:=⟨T.abT⟩
instance:my Tryz.prog 85:=⟨T.abS⟩
instance:my Tryz.prog 89:=⟨T.abR⟩
instance:my Tryz.prog 9:=⟨T.sc_9⟩
instance:CB Tryz.prog 133 ((224,7)):=⟨T.Xg⟩
instance:CB Tryz.prog 134 ((253,4)):=⟨T.Xf⟩
instance:CB Tryz.prog 137 ((327,9)):=⟨T.Xe⟩
instance:CB Tryz.prog 143 ((163,1)):=⟨T.Xd⟩
instance:CB Tryz.prog 175 ((117,1)):=⟨T.Lt⟩
instance:CB Tryz.prog 195 ((243,3)):=⟨T.gE⟩
instance:CB Tryz.prog 221 ((4,1)):=⟨T.Xc⟩
instance:CB Tryz.prog 37 ((49,9)):=⟨T.KA⟩
instance:CB Tryz.prog 39 ((188,2)):=⟨T.abO⟩
instance:CB Tryz.prog 43 ((9,1)):=⟨T.qa⟩
instance:CB Tryz.prog 44 ((5,1)):=⟨T.gQ⟩
instance:CB Tryz.prog 53 ((63,12)):=⟨T.oq⟩
instance:CB Tryz.prog 55 ((3,1)):=⟨T.se⟩
instance:ug Tryz.prog 100 ([(0,1),(1,1),(2,1),(3,1),(4,1),(5,1),(6,1)]):=⟨T.Xb⟩
instance:ug Tryz.prog 109 ([(0,1),(1,1),(2,1),(3,1),(4,1),(5,1),(6,1),(7,1)]):=⟨T.Xa⟩
instance:ug Tryz.prog 111 ([(0,8),(8,7),(15,4),(19,1),(20,1),(21,7),(28,1)]):=⟨T.W9⟩
instance:ug Tryz.prog 113 ([(0,5)]):=⟨T.W8⟩
instance:ug Tryz.prog 139 ([(0,1),(1,1)]):=⟨T.W7⟩
instance:ug Tryz.prog 141 ([(0,1),(1,1),(2,1),(3,1)]):=⟨T.W6⟩
instance:ug Tryz.prog 145 ([(0,1),(1,1),(2,1),(3,1),(4,1),(5,1),(6,1),(7,1)]):=⟨T.W5⟩
instance:ug Tryz.prog 170 ([(0,1),(1,1),(2,1),(3,1),(4,1),(5,1),(6,1),(7,1)]):=⟨T.ed⟩
instance:ug Tryz.prog 174 ([(0,1),(1,1),(2,1)]):=⟨T.W4⟩
instance:ug Tryz.prog 177 ([(0,1),(1,1),(2,1),(3,1),(4,1),(5,1),(6,1),(7,1),(8,1),(9,1),(10,1)]):=⟨T.W3⟩
instance:ug Tryz.prog 192 ([(0,1),(1,1)]):=⟨T.W2⟩
instance:ug Tryz.prog 197 ([(0,1),(1,1),(2,1)]):=⟨T.WZ⟩
instance:ug Tryz.prog 201 ([(0,1),(1,1),(2,1),(3,1),(4,1),(5,1),(6,4)]):=⟨T.WY⟩
instance:ug Tryz.prog 228 ([(0,1),(1,1),(2,1),(3,1)]):=⟨T.WX⟩
instance:ug Tryz.prog 23 ([(0,1),(1,1),(2,1),(3,1),(4,1),(5,1),(6,1)]):=⟨T.abN⟩
instance:ug Tryz.prog 243 ([(0,1),(1,1),(2,1)]):=⟨T.WW⟩
instance:ug Tryz.prog 25 ([(0,1),(1,1),(2,1),(3,1)]):=⟨T.abM⟩
instance:ug Tryz.prog 279 ([(0,1),(1,1)]):=⟨T.WV⟩
instance:ug Tryz.prog 41 ([(0,1),(1,1),(2,1),(3,1),(4,1)]):=⟨T.abL⟩
instance:ug Tryz.prog 47 ([(0,1),(1,1),(2,1),(3,1),(4,1),(5,1),(6,1),(7,1),(8,1),(9,1),(10,1)]):=⟨T.abK⟩
instance:ug Tryz.prog 49 ([(0,1),(1,1),(2,1),(3,1),(4,1),(5,1),(6,1),(7,1),(8,1)]):=⟨T.abJ⟩
instance:ug Tryz.prog 94 ([(0,1),(1,1),(2,1),(3,1)]):=⟨T.abI⟩
instance:Cu Tryz.prog 105 ((.pointer 197)):=⟨T.abE⟩
instance:Cu Tryz.prog 117 ((.int .u64)):=⟨T.abD⟩
instance:Cu Tryz.prog 130 ((.pointer 192)):=⟨T.abC⟩
instance:Cu Tryz.prog 163 ((.int .u32)):=⟨T.Kx⟩
instance:Cu Tryz.prog 190 ((.int .u64)):=⟨T.abB⟩
instance:Cu Tryz.prog 260 ((.pointer 310)):=⟨T.abA⟩
instance:Cu Tryz.prog 28 ((.pointer 111)):=⟨T.u_28⟩
instance:Cu Tryz.prog 3 ((.int .i64)):=⟨T.Z4⟩
instance:Cu Tryz.prog 38 ((.int .u64)):=⟨T.Km⟩
instance:Cu Tryz.prog 5 ((.int .u8)):=⟨T.oI⟩
instance:Cu Tryz.prog 79 ((.pointer 136)):=⟨T.u_79⟩
instance:Cu Tryz.prog 82 ((.pointer 139)):=⟨T.u_82⟩
instance:Z2 Tryz.prog 117:=⟨T.CT⟩
instance:Z2 Tryz.prog 163:=⟨T.CS⟩
instance:Z2 Tryz.prog 3:=⟨T.Rc⟩
instance:Z2 Tryz.prog 38:=⟨T.EO⟩
instance:Z2 Tryz.prog 5:=⟨T.V8⟩
instance:uf Tryz.prog 100 ([(.int .i64 0),(.int .i64 0),(.int .i64 0),(.int .i64 0),(.int .i64 0),(.int .i64 0),(.int .i64 0)]):=⟨T.WJ⟩
instance:uf Tryz.prog 109 ([(.pointer none),(.pointer none),(.pointer none),(.pointer none),(.pointer none),(.pointer none),(.pointer none),(.pointer none)]):=⟨T.WI⟩
instance:uf Tryz.prog 111 ([(.pointer none),(.pointer none),(.pointer none),(.pointer none),(.pointer none),(.pointer none),(.pointer none),(.pointer none),(.int .i64 0),(.int .i64 0),(.int .i64 0),(.int .i64 0),(.int .i64 0),(.int .i64 0),(.int .i64 0),(.int .i64 0),(.int .i64 0),(.int .i64 0),(.int .i64 0),(.int .u64 0),(.int .i64 0),(.int .i64 0),(.int .i64 0),(.int .i64 0),(.int .i64 0),(.int .i64 0),(.int .i64 0),(.int .i64 0),(.slice none 0 0)]):=⟨T.WH⟩
instance:uf Tryz.prog 113 ([(.int .i64 0),(.slice none 0 0),(.int .u64 0),(.string {data:= #[]}),(.slice none 0 0)]):=⟨T.CQ⟩
instance:uf Tryz.prog 139 ([(.pointer none),(.slice none 0 0)]):=⟨T.WG⟩
instance:uf Tryz.prog 141 ([(.pointer none),(.pointer none),(.int .i64 0),(.int .i64 0)]):=⟨T.WE⟩
instance:uf Tryz.prog 145 ([(.pointer none),(.int .i64 0),(.int .i64 0),(.int .i64 0),(.slice none 0 0),(.slice none 0 0),(.int .i64 0),(.int .i64 0)]):=⟨T.WD⟩
instance:uf Tryz.prog 170 ([(.slice none 0 0),(.slice none 0 0),(.int .u64 0),(.int .i64 0),(.int .i64 0),(.int .u64 0),(.int .i64 0),(.int .i64 0)]):=⟨T.bE⟩
instance:uf Tryz.prog 174 ([(.int .i64 0),(.int .i64 0),(.int .u64 0)]):=⟨T.WC⟩
instance:uf Tryz.prog 177 ([(.pointer none),(.pointer none),(.int .i64 0), .nilFunc, .nilFunc,(.int .i64 0),(.bool false),(.int .i64 0),(.int .i64 0),(.int .u64 0),(.int .i64 0)]):=⟨T.WB⟩
instance:uf Tryz.prog 192 ([(.int .i64 0),(.slice none 0 0)]):=⟨T.Wz⟩
instance:uf Tryz.prog 197 ([(.slice none 0 0),(.map none),(.int .u64 0)]):=⟨T.Wy⟩
instance:uf Tryz.prog 201 ([(.pointer none), .nilFunc, .nilFunc, .nilFunc,(.slice none 0 0),(.int .i64 0),(.int .i64 0),(.int .i64 0),(.int .i64 0),(.bool false)]):=⟨T.Wx⟩
instance:uf Tryz.prog 228 ([(.pointer none),(.int .i64 0),(.int .i64 0),(.int .i64 0)]):=⟨T.gD⟩
instance:uf Tryz.prog 23 ([(.int .i64 0),(.int .i64 0),(.int .i64 0),(.int .i64 0),(.int .i64 0),(.int .i64 0),(.int .i64 0)]):=⟨T.Kv⟩
instance:uf Tryz.prog 243 ([(.int .u64 0),(.int .i64 0),(.int .u64 0)]):=⟨T.yk⟩
instance:uf Tryz.prog 25 ([(.int .i64 0),(.int .i64 0),(.int .i64 0),(.int .i64 0)]):=⟨T.UI⟩
instance:uf Tryz.prog 279 ([(.int .i64 0), .nilFunc]):=⟨T.K9⟩
instance:uf Tryz.prog 41 ([(.int .i64 0),(.slice none 0 0),(.int .u64 0),(.string {data:= #[]}),(.slice none 0 0)]):=⟨T.kj⟩
instance:uf Tryz.prog 47 ([(.int .i64 0),(.slice none 0 0),(.int .u64 0),(.int .i64 0),(.int .u64 0),(.int .u64 0),(.slice none 0 0),(.bool false),(.bool false),(.slice none 0 0),(.string {data:= #[]})]):=⟨T.UH⟩
instance:uf Tryz.prog 49 ([(.string {data:= #[]}),(.slice none 0 0),(.int .u64 0),(.int .i64 0),(.int .u64 0),(.int .i64 0),(.bool false),(.bool false),(.bool false)]):=⟨T.r8⟩
instance:uf Tryz.prog 94 ([(.int .i64 0),(.int .u64 0),(.int .u64 0),(.int .i64 0)]):=⟨T.abo⟩
end Go.Proofs.YtdolmecackmjdaaGreatDoor
