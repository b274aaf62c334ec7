/- Part Pd of the proof. -/
import Derived.Test.YtdolmecackmjdaaGreatDoorPb
import Derived.Test.YtdolmecackmjdaaGreatDoorPc1
set_option maxRecDepth 100000
namespace Go.dL
open Go
variable {P:Program}
class ni (P:Program)(t:Nat):Prop where p:dp P t=true
class Cus (P:Program)(t:Nat):Prop where p:(P.underlying t).isSome=true
class Ea (P:Program)(t:Nat)(k:outParam (TypeId×Nat)):Prop where p:di P t=some k
class Eb (P:Program)(t:Nat)(k:outParam (Nat)):Prop where p:db P t=some k
class uU (P:Program)(t:Nat)(k:outParam (List Value)):Prop where p:cq P t=some k
class uV (P:Program)(t:Nat)(k:outParam (List (Nat×Nat))):Prop where p:iE P t=some k
class Cu (P:Program)(t:Nat)(k:outParam (TypeDesc)):Prop where p:P.underlying t=some k
class aU (P:Program)(t i:Nat)(k:outParam Nat):Prop where p:aj P t i=some k
variable {n:Nat} {ds:List Deferred} {F:ee} {Q:Exit→Act→World→Prop} {K:Act→World→Prop} {σ:ba} {H:List aa} {o:Oper} {d:Nat} {ops:Array Oper} {rest:List Oper}
theorem FaK{s f k b i:Nat}{x:Operand}(ho:o.op= .fieldAddr s x f:=by exact rfl)(hk:aj P s f=some k:=by exact aU.p)(hx:bx σ x=some (.pointer (some ⟨b,i,none⟩)):=by exact rfl):Yv P n ds F σ o (.pointer (some ⟨b,i+k,none⟩)):=Fa (hk:=hk) (ho:=ho) (hx:=hx)
theorem PnK{op:BinOp}{t yt e:TypeId}{x y:Operand}{p:Option Addr}{b:Bool}(ho:o.op= .binOp op t x y yt:=by exact rfl)(ht:P.underlying t=some (.pointer e):=by exact Cu.p)(hx:bx σ x=some (.pointer p):=by exact rfl)(hy:bx σ y=some (.pointer none):=by exact rfl)(hop:(op= .eql∧b=p.isNone)∨(op= .neq∧b= !p.isNone):=by first|exact .inl ⟨rfl,rfl⟩|exact .inr ⟨rfl,rfl⟩):Yv P n ds F σ o (.bool b):=Pn (ht:=ht) (ho:=ho) (hx:=hx) (hy:=hy) (hop:=hop)
theorem LnK{t:TypeId}{x:Operand}{a:Option Addr}{l c:Nat}{ek:TypeId×Nat}(ho:o.op= .call {callee:= .builtin .len,args:= #[x],argTypes:= #[t]}:=by exact rfl)(ht:di P t=some ek:=by exact Ea.p)(hx:bx σ x=some (.slice a l c):=by exact rfl):Yv P n ds F σ o (.int .i64 l):=Ln (ht:=ht) (ho:=ho) (hx:=hx)
theorem adY{t k:TypeId}{x:Operand}{p:Option Addr}{vs:List Value}(h:G n ds F K ((d, .agg vs.toArray)::σ) H)(ho:o.op= .load t x:=by exact rfl)(hs:db P t=some k:=by exact Eb.p)(hd:o.dst=some d:=by exact rfl)(hx:bx σ x=some (.pointer p):=by exact rfl)(hk:we F H p k vs:=by
   first
   |exact C5 (by repeat (first|exact fE.here|apply fE.there)) (by exact rfl)
   |exact Bc (by repeat (first|exact fE.here|apply fE.there)) (by exact rfl)
   |exact ti (by assumption) (by first|assumption|exact rfl) (by first|rfl|assumption)
   |exact Av (by assumption) (by exact rfl)
   |exact Ic (by first|rfl|assumption) (by repeat (first|exact fE.here|apply fE.there)) (by first|assumption|exact rfl)) (hl:vs.length=k:=by first|rfl|(simp;omega)) (hdn:Nat.blt d n=true:=by exact rfl):G n ds F (λa w=>o.wp P a w K Q) σ H:=oLN (hs:=hs) (h:=h) (ho:=ho) (hd:=hd) (hx:=hx) (hk:=hk) (hl:=hl) (hdn:=hdn)
theorem LfNK{t k:TypeId}{x:Operand}{p:Option Addr}{vs:List Value}(ho:o.op= .load t x:=by exact rfl)(hs:db P t=some k:=by exact Eb.p)(hx:bx σ x=some (.pointer p):=by exact rfl)(hk:we F [] p k vs:=by
   first
   |exact ti (by assumption) (by first|assumption|exact rfl) (by first|rfl|assumption)
   |exact Av (by assumption) (by exact rfl)) (hl:vs.length=k:=by first|rfl|(simp;omega)):Yv P n ds F σ o (.agg vs.toArray):=LfN (hs:=hs) (ho:=ho) (hx:=hx) (hk:=hk) (hl:=hl)
theorem oSWK{t k:TypeId}{x y:Operand}{b:Nat}{e:TypeId}{cs vs:List Value}{f:aa→List aa}(h:G n ds F K σ (f (ag b e vs)))(ho:o.op= .store t x y:=by exact rfl)(hs:db P t=some k:=by exact Eb.p)(hd:o.dst=none:=by exact rfl)(hx:bx σ x=some (.pointer (some ⟨b,0,none⟩)):=by exact rfl)(hy:bx σ y=some (.agg vs.toArray):=by exact rfl)(hk:vs.length=k:=by exact rfl)(h1:∀v∈vs,v.oneCell'=true:=by simp[bU,Value.cells,Value.oneCell',aB])(hu:Pos H (ag b e cs) f:=by repeat (first|exact Pos.here|apply Pos.there))(hl:cs.length=k:=by exact rfl):G n ds F (λa w=>o.wp P a w K Q) σ H:=eJ (hs:=hs) (h:=h) (ho:=ho) (hd:=hd) (hx:=hx) (hy:=hy) (hk:=hk) (h1:=h1) (hu:=hu) (hl:=hl)
theorem aen{t e sz m b:Nat}{x y:Operand}{l c j:Nat}{k:IntKind}{i:Int}(ho:o.op= .indexAddr t x y:=by exact rfl)(ht:di P t=some (e,sz):=by exact Ea.p)(hx:bx σ x=some (.slice (some ⟨b,0,none⟩) l c):=by exact rfl)(hy:bx σ y=some (.int k i):=by exact rfl)(hj:i=(j:Int):=by first|exact rfl|omega)(hl:j<l:=by first|omega|assumption)(hm:j*sz=m:=by first|exact Nat.mul_one _|rfl):Yv P n ds F σ o (.pointer (some ⟨b,m,none⟩)):=IxZ (ht:=ht) (ho:=ho) (hx:=hx) (hy:=hy) (hj:=hj) (hl:=hl) (hm:=hm)
theorem CvK{s t:TypeId}{x:Operand}{k k':IntKind}{i z:Int}(ho:o.op= .convert s t x:=by exact rfl)(ht:P.underlying t=some (.int k):=by exact Cu.p)(hs:(P.underlying s).isSome=true:=by exact Cus.p)(hx:bx σ x=some (.int k' i):=by exact rfl)(hz:k.wrap i=z:=by first|exact wrap_i64 (by omega)|exact wrap_u64 (by omega)|exact wrap_u32 (by omega)|exact wrap_u16 (by omega)|exact wrap_u8 (by omega)|exact wrap_i32 (by omega)|exact rfl):Yv P n ds F σ o (.int k z):=Cv (ht:=ht) (hs:=hs) (ho:=ho) (hx:=hx) (hz:=hz)
theorem BdK{t:TypeId}{pl:List (Nat×Nat)}{zs vs cs:List Value}{parts:List (Nat×Operand)}(ho:o.op= .build t parts.toArray:=by exact rfl)(hz:cq P t=some zs:=by exact uU.p)(hpl:iE P t=some pl:=by exact uV.p)(hv:jY σ (parts.map (·.2))=some vs:=by exact rfl)(hc:nW (λi=>pl[i]?) zs ((parts.map (·.1)).zip vs)=some cs:=by exact rfl):Yv P n ds F σ o (.agg cs.toArray):=Bd (hz:=hz) (hpl:=hpl) (ho:=ho) (hv:=hv) (hc:=hc)
theorem oLK{t:TypeId}{x:Operand}{p:Option Addr}{v:Value}(h:G n ds F K ((d,v)::σ) H)(ho:o.op= .load t x:=by exact rfl)(hs:dp P t=true:=by exact ni.p)(hd:o.dst=some d:=by exact rfl)(hx:bx σ x=some (.pointer p):=by exact rfl)(hk:MI F H p v:=by
   first
   |exact Oy (by repeat (first|exact fE.here|apply fE.there)) (by first|exact rfl|assumption)
   |exact yN (by assumption) (by first|assumption|exact rfl)
   |exact G5 (by assumption) (by omega)
   |exact wk (by assumption) (by first|exact rfl|assumption)
   |exact Oz (by first|rfl|assumption) (by repeat (first|exact fE.here|apply fE.there)) (by first|assumption|exact rfl)
   |exact UG (by assumption)) (hdn:Nat.blt d n=true:=by exact rfl):G n ds F (λa w=>o.wp P a w K Q) σ H:=oL (hs:=hs) (h:=h) (ho:=ho) (hd:=hd) (hx:=hx) (hk:=hk) (hdn:=hdn)
theorem oSK{t:TypeId}{x y:Operand}{b i:Nat}{e:TypeId}{cs:List Value}{f:aa→List aa}{v:Value}(h:G n ds F K σ (f (ag b e (cs.set i v))))(ho:o.op= .store t x y:=by exact rfl)(hs:dp P t=true:=by exact ni.p)(hd:o.dst=none:=by exact rfl)(hx:bx σ x=some (.pointer (some ⟨b,i,none⟩)):=by exact rfl)(hy:bx σ y=some v:=by exact rfl)(hu:Pos H (ag b e cs) f:=by repeat (first|exact Pos.here|apply Pos.there))(h1:v.oneCell'=true:=by first|rfl|decide|simp)(hi:i<cs.length:=by first|decide|(simp;done)|(simp;omega)|omega):
    G n ds F (λa w=>o.wp P a w K Q) σ H:=oS (hs:=hs) (h:=h) (ho:=ho) (hd:=hd) (hx:=hx) (hy:=hy) (hu:=hu) (h1:=h1) (hi:=hi)
theorem LfK{t:TypeId}{x:Operand}{p:Option Addr}{v:Value}(ho:o.op= .load t x:=by exact rfl)(hs:dp P t=true:=by exact ni.p)(hx:bx σ x=some (.pointer p):=by exact rfl)(hk:MI F [] p v:=by
   first
   |exact yN (by assumption) (by first|assumption|exact rfl)
   |exact G5 (by assumption) (by omega)
   |exact wk (by assumption) (by first|exact rfl|assumption)
   |exact UG (by assumption)):Yv P n ds F σ o v:=Lf (hs:=hs) (ho:=ho) (hx:=hx) (hk:=hk)
theorem adX{t:TypeId}{x:Operand}{b i:Nat}{cs:List Value}{v:Value}(h:G n ds F K ((d,v)::σ) H)(ho:o.op= .load t x:=by exact rfl)(hs:dp P t=true:=by exact ni.p)(hd:o.dst=some d:=by exact rfl)(hx:bx σ x=some (.pointer (some ⟨b,i,none⟩)):=by exact rfl)(c:nz H b cs:=by infer_instance)(hv:cs[i]?=some v:=by exact rfl)(hdn:Nat.blt d n=true:=by exact rfl):G n ds F (λa w=>o.wp P a w K Q) σ H:=oLc (hs:=hs) (h:=h) (ho:=ho) (hd:=hd) (hx:=hx) (c:=c) (hv:=hv) (hdn:=hdn)
theorem XQ{t k:TypeId}{x:Operand}{b i:Nat}{cs vs:List Value}(h:G n ds F K ((d, .agg vs.toArray)::σ) H)(ho:o.op= .load t x:=by exact rfl)(hs:db P t=some k:=by exact Eb.p)(hd:o.dst=some d:=by exact rfl)(hx:bx σ x=some (.pointer (some ⟨b,i,none⟩)):=by exact rfl)(c:nz H b cs:=by infer_instance)(hv:(cs.drop i).take k=vs:=by exact rfl)(hl:vs.length=k:=by exact rfl)(hdn:Nat.blt d n=true:=by exact rfl):G n ds F (λa w=>o.wp P a w K Q) σ H:=oLcN (hs:=hs) (h:=h) (ho:=ho) (hd:=hd) (hx:=hx) (c:=c) (hv:=hv) (hl:=hl) (hdn:=hdn)
theorem adV{t:TypeId}{x y:Operand}{b i:Nat}{v:Value}{H':List aa}(h:G n ds F K σ H')(ho:o.op= .store t x y:=by exact rfl)(hs:dp P t=true:=by exact ni.p)(hd:o.dst=none:=by exact rfl)(hx:bx σ x=some (.pointer (some ⟨b,i,none⟩)):=by exact rfl)(hy:bx σ y=some v:=by exact rfl)(c:EJ H b i v H':=by infer_instance)(h1:v.oneCell'=true:=by first|rfl|decide|simp):G n ds F (λa w=>o.wp P a w K Q) σ H:=oSc (hs:=hs) (h:=h) (ho:=ho) (hd:=hd) (hx:=hx) (hy:=hy) (c:=c) (h1:=h1)
theorem zf{K:Act→World→Prop}(t:Nat){b:Bool}(h:G n ds F K ((t, .bool false)::σ) H)(hl:look σ t=some (.bool b):=by exact rfl)(e:b=false:=by exact decide_eq_false (by omega)):G n ds F K σ H:=ao hl (congrArg Value.bool e) h
theorem cu{c:Operand}{x y:Code}{b:Bool}(h:G n ds F (y.wp P Q) σ H)(hc:bx σ c=some (.bool b):=by exact rfl)(e:b=false:=by exact decide_eq_false (by omega)):G n ds F ((Code.cond c x y).wp P Q) σ H:=xk hc e h
theorem zt{K:Act→World→Prop}(t:Nat){b:Bool}(h:G n ds F K ((t, .bool true)::σ) H)(hl:look σ t=some (.bool b):=by exact rfl)(e:b=true:=by exact decide_eq_true (by omega)):G n ds F K σ H:=ao hl (congrArg Value.bool e) h
theorem dz{c:Operand}{x y:Code}{b:Bool}(h:G n ds F (x.wp P Q) σ H)(hc:bx σ c=some (.bool b):=by exact rfl)(e:b=true:=by exact decide_eq_true (by omega)):G n ds F ((Code.cond c x y).wp P Q) σ H:=xj hc e h
structure Hid (q:Prop):Prop where out:q
theorem ay{p q:Prop}(h:q)(f:Hid q→p:=by
  intro h
  first
    |with_reducible refine g_ne ?_
    |with_reducible refine gU ?_
    |with_reducible refine au ?_
    |with_reducible refine PF ?_
    |with_reducible refine afp ?_
    |with_reducible refine Ay ?_
    |with_reducible refine cC ?_
    |with_reducible refine WH ?_
    |with_reducible refine az ?_
    |with_reducible refine Gu ?_
    |with_reducible refine DT ?_
    |with_reducible refine WU ?_
    |with_reducible refine fh ?_
    |with_reducible refine aaU ?_
    |with_reducible refine DU ?_
    |refine Li Mv ?_
    |refine Li As ?_
    |refine Li FaK ?_
    |refine Li Cm ?_
    |refine Lp (oLK ?_)
    |refine Li Nc ?_
    |refine Lx ?_
    |refine Ti Mv ?_
    |refine Li Ex ?_
    |refine Ti FaK ?_
    |refine Li Im ?_
    |refine Tx ?_
    |refine Ti Nc ?_
    |refine Li Pf ?_
    |refine Ti LfK ?_
    |refine Li Pt ?_
    |refine Lp (oSK ?_)
    |refine DV ?_
    |refine Li Nt ?_
    |refine Li LnK ?_
    |refine Tp (oLK ?_)
    |refine Ti As ?_
    |refine Lp (adY ?_)
    |refine Ti Cm ?_
    |refine Li BdK ?_
    |refine xk rfl rfl ?_
    |refine xj rfl rfl ?_
    |refine xk rfl (by rfl) ?_
    |refine xj rfl (by rfl) ?_
    |refine Li CvK ?_
    |refine Ti Im ?_
    |refine Li PnK ?_
    |refine Li aen ?_
    |refine Ti LfNK ?_
    |refine Lp (oSWK ?_)
    |refine Ti Pf ?_
    |refine Ti aen ?_
    |refine Ti LnK ?_
    |refine Ti Pt ?_
    |refine Ti Ex ?_
    |refine Tp (oSK ?_)
    |refine Ti BdK ?_
    |refine Bw rfl ?_
    |refine Lp (adX ?_)
    |refine Lp (XQ ?_)
    |refine Lp (adV ?_)
    |refine Tp (adV ?_)
    |refine Tp (adX ?_)
    |refine Tp (adY ?_)
    |refine Tp (XQ ?_)
    |refine Tne ?_
    |refine Tn ?_
  exact h.out):p:=f ⟨h⟩
theorem bd{p q:Prop}(h:q)(f:Hid q→p:=by
  intro h
  try simp only[uP,cap]
  exact h.out):p:=f ⟨h⟩
theorem a8{p q:Prop}(h:q)(f:Hid q→p:=by
  intro h;refine ay ?_;refine ay ?_;exact h.out):p:=f ⟨h⟩
theorem aZ{p q:Prop}(h:q)(f:Hid q→p:=by
  intro h;refine ay ?_;refine a8 ?_;exact h.out):p:=f ⟨h⟩
theorem aR{p q:Prop}(h:q)(f:Hid q→p:=by
  intro h;refine a8 ?_;refine a8 ?_;exact h.out):p:=f ⟨h⟩
theorem bc{p q:Prop}(h:q)(f:Hid q→p:=by
  intro h;refine a8 ?_;refine aZ ?_;exact h.out):p:=f ⟨h⟩
theorem bB{p q:Prop}(h:q)(f:Hid q→p:=by
  intro h;refine aZ ?_;refine aZ ?_;exact h.out):p:=f ⟨h⟩
theorem bH{p q:Prop}(h:q)(f:Hid q→p:=by
  intro h;refine aZ ?_;refine aR ?_;exact h.out):p:=f ⟨h⟩
theorem cI{p q:Prop}(h:q)(f:Hid q→p:=by
  intro h;refine aR ?_;refine aR ?_;exact h.out):p:=f ⟨h⟩
theorem cN{p q:Prop}(h:q)(f:Hid q→p:=by
  intro h;refine aR ?_;refine bc ?_;exact h.out):p:=f ⟨h⟩
theorem bw{p q:Prop}(h:q)(f:Hid q→p:=by
  intro h;refine bc ?_;refine bc ?_;exact h.out):p:=f ⟨h⟩
theorem bK{p q:Prop}(h:q)(f:Hid q→p:=by
  intro h;refine bc ?_;refine bB ?_;exact h.out):p:=f ⟨h⟩
theorem dQ{p q:Prop}(h:q)(f:Hid q→p:=by
  intro h;refine bB ?_;refine bB ?_;exact h.out):p:=f ⟨h⟩
theorem gR{p q:Prop}(h:q)(f:Hid q→p:=by
  intro h;refine bB ?_;refine bH ?_;exact h.out):p:=f ⟨h⟩
theorem fF{p q:Prop}(h:q)(f:Hid q→p:=by
  intro h;refine bH ?_;refine bH ?_;exact h.out):p:=f ⟨h⟩
theorem nj{p q:Prop}(h:q)(f:Hid q→p:=by
  intro h;refine bH ?_;refine cI ?_;exact h.out):p:=f ⟨h⟩
theorem qa{p q:Prop}(h:q)(f:Hid q→p:=by
  intro h;refine cI ?_;refine cI ?_;exact h.out):p:=f ⟨h⟩
theorem kx{p q:Prop}(h:q)(f:Hid q→p:=by
  intro h;refine cI ?_;refine cN ?_;exact h.out):p:=f ⟨h⟩
theorem z7{p q:Prop}(h:q)(f:Hid q→p:=by
  intro h;refine cN ?_;refine cN ?_;exact h.out):p:=f ⟨h⟩
theorem z6{p q:Prop}(h:q)(f:Hid q→p:=by
  intro h;refine cN ?_;refine bw ?_;exact h.out):p:=f ⟨h⟩
theorem bT{p q:Prop}(h:q)(f:Hid q→p:=by
  intro h;refine bw ?_;refine bw ?_;exact h.out):p:=f ⟨h⟩
theorem zl{f:FuncId}{xs:List Operand}{vs:List Value}{sW:Array TypeId}{pre:Hp→Prop}{A2 R:List aa}{x:Value}{y:List aa}{q:Prop}(lj:ax P f=true)(hc:aH P f vs pre A2 (λv H=>v=x∧H=y))(ey:jB H A2 R)(iX:∀h,Le F.h h→hJ R h→pre h)(h:q)
 (ho:o.op= .call {callee:= .value (.func f),args:=xs.toArray,argTypes:=sW}:=by exact rfl) (hv:jY σ xs=some vs:=by exact rfl) (hg:Uq ops o σ=true:=by exact rfl) (hd:o.dst=some d:=by exact rfl) (hdn:Nat.blt d n=true:=by exact rfl)
 (g:Hid q→G n ds F (wpList P ops Q rest) ((d,x)::σ) (y++R):=by
  intro h
  try simp only[uP,cap]
  exact h.out):G n ds F (wpList P ops Q (o::rest)) σ H:=Lp (oC lj ho hv hc ey iX (by rintro v H' ⟨rfl,rfl⟩;exact g ⟨h⟩) hd hdn) hg
end Go.dL
namespace Go.Proofs.YtdolmecackmjdaaGreatDoor
open Go Go.dL
instance:Eb Tryz.prog 113 (5):=⟨T.FD⟩
instance:Eb Tryz.prog 170 (8):=⟨T.dR⟩
instance:Eb Tryz.prog 228 (4):=⟨T.FC⟩
instance:Eb Tryz.prog 23 (7):=⟨T.Cq⟩
instance:Eb Tryz.prog 243 (3):=⟨T.wQ⟩
instance:Eb Tryz.prog 25 (4):=⟨T.NR⟩
instance:Eb Tryz.prog 279 (2):=⟨T.acs⟩
instance:Eb Tryz.prog 280 (6):=⟨T.PZ⟩
instance:Eb Tryz.prog 41 (5):=⟨T.aS⟩
instance:Eb Tryz.prog 47 (11):=⟨T.NQ⟩
instance:Eb Tryz.prog 49 (9):=⟨T.mD⟩
instance:Eb Tryz.prog 73 (8):=⟨T.Cp⟩
instance:aU Tryz.prog 100 2 (2):=⟨T.LW⟩
instance:aU Tryz.prog 100 3 (3):=⟨T.LV⟩
instance:aU Tryz.prog 100 5 (5):=⟨T.LU⟩
instance:aU Tryz.prog 109 0 (0):=⟨T.LS⟩
instance:aU Tryz.prog 109 1 (1):=⟨T.zI⟩
instance:aU Tryz.prog 109 2 (2):=⟨T.LR⟩
instance:aU Tryz.prog 109 3 (3):=⟨T.LQ⟩
instance:aU Tryz.prog 109 4 (4):=⟨T.zH⟩
instance:aU Tryz.prog 109 5 (5):=⟨T.tS⟩
instance:aU Tryz.prog 109 6 (6):=⟨T.zG⟩
instance:aU Tryz.prog 111 0 (0):=⟨T.ki⟩
instance:aU Tryz.prog 111 1 (8):=⟨T.LO⟩
instance:aU Tryz.prog 111 2 (15):=⟨T.zF⟩
instance:aU Tryz.prog 111 3 (19):=⟨T.LN⟩
instance:aU Tryz.prog 111 4 (20):=⟨T.LM⟩
instance:aU Tryz.prog 111 5 (21):=⟨T.fS⟩
instance:aU Tryz.prog 111 6 (28):=⟨T.LL⟩
instance:aU Tryz.prog 113 0 (0):=⟨T.LK⟩
instance:aU Tryz.prog 136 0 (0):=⟨T.LJ⟩
instance:aU Tryz.prog 136 1 (7):=⟨T.LI⟩
instance:aU Tryz.prog 136 2 (8):=⟨T.LH⟩
instance:aU Tryz.prog 136 3 (9):=⟨T.LG⟩
instance:aU Tryz.prog 136 4 (10):=⟨T.LF⟩
instance:aU Tryz.prog 136 5 (11):=⟨T.LD⟩
instance:aU Tryz.prog 139 0 (0):=⟨T.LC⟩
instance:aU Tryz.prog 139 1 (1):=⟨T.LB⟩
instance:aU Tryz.prog 141 0 (0):=⟨T.LA⟩
instance:aU Tryz.prog 141 1 (1):=⟨T.Lz⟩
instance:aU Tryz.prog 141 2 (2):=⟨T.Lw⟩
instance:aU Tryz.prog 141 3 (3):=⟨T.Lv⟩
instance:aU Tryz.prog 145 0 (0):=⟨T.Lu⟩
instance:aU Tryz.prog 145 1 (1):=⟨T.Lt⟩
instance:aU Tryz.prog 145 2 (2):=⟨T.Lr⟩
instance:aU Tryz.prog 145 3 (3):=⟨T.Lm⟩
instance:aU Tryz.prog 145 4 (4):=⟨T.Ll⟩
instance:aU Tryz.prog 145 5 (5):=⟨T.Lj⟩
instance:aU Tryz.prog 145 6 (6):=⟨T.Lh⟩
instance:aU Tryz.prog 145 7 (7):=⟨T.Lg⟩
instance:aU Tryz.prog 170 0 (0):=⟨T.Ld⟩
instance:aU Tryz.prog 170 1 (1):=⟨T.Lb⟩
instance:aU Tryz.prog 170 2 (2):=⟨T.La⟩
instance:aU Tryz.prog 170 3 (3):=⟨T.K9⟩
instance:aU Tryz.prog 170 4 (4):=⟨T.K8⟩
instance:aU Tryz.prog 170 5 (5):=⟨T.K7⟩
instance:aU Tryz.prog 170 6 (6):=⟨T.K6⟩
instance:aU Tryz.prog 170 7 (7):=⟨T.K5⟩
instance:aU Tryz.prog 174 0 (0):=⟨T.KZ⟩
instance:aU Tryz.prog 174 1 (1):=⟨T.KY⟩
instance:aU Tryz.prog 174 2 (2):=⟨T.KX⟩
instance:aU Tryz.prog 177 0 (0):=⟨T.KV⟩
instance:aU Tryz.prog 177 1 (1):=⟨T.KU⟩
instance:aU Tryz.prog 177 10 (10):=⟨T.Gp⟩
instance:aU Tryz.prog 177 2 (2):=⟨T.KT⟩
instance:aU Tryz.prog 177 3 (3):=⟨T.KS⟩
instance:aU Tryz.prog 177 4 (4):=⟨T.KR⟩
instance:aU Tryz.prog 177 5 (5):=⟨T.KQ⟩
instance:aU Tryz.prog 177 6 (6):=⟨T.KP⟩
instance:aU Tryz.prog 177 7 (7):=⟨T.KL⟩
instance:aU Tryz.prog 177 8 (8):=⟨T.KK⟩
instance:aU Tryz.prog 177 9 (9):=⟨T.KJ⟩
instance:aU Tryz.prog 192 0 (0):=⟨T.KI⟩
instance:aU Tryz.prog 192 1 (1):=⟨T.KH⟩
instance:aU Tryz.prog 197 0 (0):=⟨T.KG⟩
instance:aU Tryz.prog 197 1 (1):=⟨T.KF⟩
instance:aU Tryz.prog 197 2 (2):=⟨T.KE⟩
instance:aU Tryz.prog 199 3 (3):=⟨T.KC⟩
instance:aU Tryz.prog 201 0 (0):=⟨T.KB⟩
instance:aU Tryz.prog 201 5 (5):=⟨T.KA⟩
instance:aU Tryz.prog 201 6 (6):=⟨T.Kz⟩
instance:aU Tryz.prog 224 0 (0):=⟨T.Ky⟩
instance:aU Tryz.prog 224 1 (1):=⟨T.Kx⟩
instance:aU Tryz.prog 224 2 (2):=⟨T.Kw⟩
instance:aU Tryz.prog 224 3 (3):=⟨T.tR⟩
instance:aU Tryz.prog 224 4 (4):=⟨T.pU⟩
instance:aU Tryz.prog 224 5 (5):=⟨T.Kv⟩
instance:aU Tryz.prog 224 6 (6):=⟨T.Ku⟩
instance:aU Tryz.prog 228 0 (0):=⟨T.Kt⟩
instance:aU Tryz.prog 228 1 (1):=⟨T.Ks⟩
instance:aU Tryz.prog 228 2 (2):=⟨T.Kr⟩
instance:aU Tryz.prog 228 3 (3):=⟨T.Kq⟩
instance:aU Tryz.prog 23 0 (0):=⟨T.SA⟩
instance:aU Tryz.prog 23 1 (1):=⟨T.xw⟩
instance:aU Tryz.prog 23 2 (2):=⟨T.Sz⟩
instance:aU Tryz.prog 23 3 (3):=⟨T.Sx⟩
instance:aU Tryz.prog 23 4 (4):=⟨T.Sw⟩
instance:aU Tryz.prog 23 5 (5):=⟨T.Su⟩
instance:aU Tryz.prog 23 6 (6):=⟨T.Ss⟩
instance:aU Tryz.prog 243 0 (0):=⟨T.Kp⟩
instance:aU Tryz.prog 243 1 (1):=⟨T.zE⟩
instance:aU Tryz.prog 243 2 (2):=⟨T.Ko⟩
instance:aU Tryz.prog 253 0 (0):=⟨T.Kn⟩
instance:aU Tryz.prog 253 1 (1):=⟨T.Km⟩
instance:aU Tryz.prog 253 2 (2):=⟨T.Kl⟩
instance:aU Tryz.prog 253 3 (3):=⟨T.Kk⟩
instance:aU Tryz.prog 25 0 (0):=⟨T.Sp⟩
instance:aU Tryz.prog 25 1 (1):=⟨T.Sn⟩
instance:aU Tryz.prog 25 2 (2):=⟨T.Sk⟩
instance:aU Tryz.prog 25 3 (3):=⟨T.Db⟩
instance:aU Tryz.prog 279 0 (0):=⟨T.Kj⟩
instance:aU Tryz.prog 279 1 (1):=⟨T.Ki⟩
instance:aU Tryz.prog 310 0 (0):=⟨T.Kh⟩
instance:aU Tryz.prog 310 1 (1):=⟨T.Kg⟩
instance:aU Tryz.prog 310 2 (2):=⟨T.Ke⟩
instance:aU Tryz.prog 41 0 (0):=⟨T.Sj⟩
instance:aU Tryz.prog 41 1 (1):=⟨T.Si⟩
instance:aU Tryz.prog 41 2 (2):=⟨T.Sg⟩
instance:aU Tryz.prog 41 3 (3):=⟨T.Sf⟩
instance:aU Tryz.prog 41 4 (4):=⟨T.Se⟩
instance:aU Tryz.prog 47 0 (0):=⟨T.Sd⟩
instance:aU Tryz.prog 47 1 (1):=⟨T.Sc⟩
instance:aU Tryz.prog 47 2 (2):=⟨T.xv⟩
instance:aU Tryz.prog 47 3 (3):=⟨T.xu⟩
instance:aU Tryz.prog 47 4 (4):=⟨T.Sa⟩
instance:aU Tryz.prog 47 5 (5):=⟨T.R9⟩
instance:aU Tryz.prog 47 6 (6):=⟨T.xr⟩
instance:aU Tryz.prog 47 8 (8):=⟨T.R8⟩
instance:aU Tryz.prog 49 0 (0):=⟨T.R7⟩
instance:aU Tryz.prog 49 1 (1):=⟨T.R6⟩
instance:aU Tryz.prog 49 2 (2):=⟨T.R5⟩
instance:aU Tryz.prog 49 3 (3):=⟨T.R4⟩
instance:aU Tryz.prog 49 4 (4):=⟨T.RZ⟩
instance:aU Tryz.prog 49 5 (5):=⟨T.RY⟩
instance:aU Tryz.prog 49 6 (6):=⟨T.RX⟩
instance:aU Tryz.prog 49 7 (7):=⟨T.RW⟩
instance:aU Tryz.prog 49 8 (8):=⟨T.RV⟩
instance:aU Tryz.prog 61 0 (0):=⟨T.RU⟩
instance:aU Tryz.prog 61 1 (1):=⟨T.RT⟩
instance:aU Tryz.prog 61 2 (2):=⟨T.RS⟩
instance:aU Tryz.prog 61 3 (3):=⟨T.RR⟩
instance:aU Tryz.prog 61 4 (4):=⟨T.RQ⟩
instance:aU Tryz.prog 73 0 (0):=⟨T.mK⟩
instance:aU Tryz.prog 73 1 (1):=⟨T.xq⟩
instance:aU Tryz.prog 73 2 (2):=⟨T.Da⟩
instance:aU Tryz.prog 73 3 (3):=⟨T.mJ⟩
instance:aU Tryz.prog 73 4 (4):=⟨T.so⟩
instance:aU Tryz.prog 73 5 (5):=⟨T.RP⟩
instance:aU Tryz.prog 73 6 (6):=⟨T.xp⟩
instance:aU Tryz.prog 73 7 (7):=⟨T.xn⟩
instance:aU Tryz.prog 94 0 (0):=⟨T.RN⟩
instance:aU Tryz.prog 94 2 (2):=⟨T.RM⟩
instance:aU Tryz.prog 94 3 (3):=⟨T.RL⟩
instance:ni Tryz.prog 104:=⟨T.ns⟩
instance:ni Tryz.prog 105:=⟨T.EV⟩
instance:ni Tryz.prog 106:=⟨T.wH⟩
instance:ni Tryz.prog 107:=⟨T.sZ⟩
instance:ni Tryz.prog 117:=⟨T.aad⟩
instance:ni Tryz.prog 120:=⟨T.aac⟩
instance:ni Tryz.prog 130:=⟨T.aab⟩
instance:ni Tryz.prog 133:=⟨T.aaa⟩
instance:ni Tryz.prog 134:=⟨T.Z9⟩
instance:ni Tryz.prog 137:=⟨T.Z8⟩
instance:ni Tryz.prog 143:=⟨T.Ap⟩
instance:ni Tryz.prog 151:=⟨T.Z7⟩
instance:ni Tryz.prog 163:=⟨T.oX⟩
instance:ni Tryz.prog 180:=⟨T.Z6⟩
instance:ni Tryz.prog 194:=⟨T.Z5⟩
instance:ni Tryz.prog 195:=⟨T.Z4⟩
instance:ni Tryz.prog 221:=⟨T.Ao⟩
instance:ni Tryz.prog 222:=⟨T.Z3⟩
instance:ni Tryz.prog 277:=⟨T.Z2⟩
instance:ni Tryz.prog 3:=⟨T.bR⟩
instance:ni Tryz.prog 37:=⟨T.GY⟩
instance:ni Tryz.prog 38:=⟨T.jC⟩
instance:ni Tryz.prog 39:=⟨T.aeZ⟩
instance:ni Tryz.prog 4:=⟨T.UD⟩
instance:ni Tryz.prog 43:=⟨T.aeY⟩
instance:ni Tryz.prog 44:=⟨T.iw⟩
instance:ni Tryz.prog 5:=⟨T.qc⟩
instance:ni Tryz.prog 55:=⟨T.Nu⟩
instance:ni Tryz.prog 59:=⟨T.eD⟩
instance:ni Tryz.prog 79:=⟨T.Ns⟩
instance:ni Tryz.prog 82:=⟨T.aeX⟩
instance:ni Tryz.prog 85:=⟨T.aeW⟩
instance:ni Tryz.prog 89:=⟨T.aeV⟩
instance:ni Tryz.prog 9:=⟨T.Ac⟩
instance:Ea Tryz.prog 133 ((224,7)):=⟨T.ZZ⟩
instance:Ea Tryz.prog 134 ((253,4)):=⟨T.ZY⟩
instance:Ea Tryz.prog 137 ((327,9)):=⟨T.ZX⟩
instance:Ea Tryz.prog 143 ((163,1)):=⟨T.ZW⟩
instance:Ea Tryz.prog 175 ((117,1)):=⟨T.N9⟩
instance:Ea Tryz.prog 195 ((243,3)):=⟨T.ig⟩
instance:Ea Tryz.prog 221 ((4,1)):=⟨T.ZV⟩
instance:Ea Tryz.prog 37 ((49,9)):=⟨T.Nr⟩
instance:Ea Tryz.prog 39 ((188,2)):=⟨T.aeS⟩
instance:Ea Tryz.prog 43 ((9,1)):=⟨T.nR⟩
instance:Ea Tryz.prog 44 ((5,1)):=⟨T.eC⟩
instance:Ea Tryz.prog 53 ((63,12)):=⟨T.oN⟩
instance:Ea Tryz.prog 55 ((3,1)):=⟨T.qk⟩
instance:Ea Tryz.prog 59 ((73,8)):=⟨T.fI⟩
instance:uV Tryz.prog 100 ([(0,1),(1,1),(2,1),(3,1),(4,1),(5,1),(6,1)]):=⟨T.ZU⟩
instance:uV Tryz.prog 109 ([(0,1),(1,1),(2,1),(3,1),(4,1),(5,1),(6,1),(7,1)]):=⟨T.ZT⟩
instance:uV Tryz.prog 111 ([(0,8),(8,7),(15,4),(19,1),(20,1),(21,7),(28,1)]):=⟨T.ZS⟩
instance:uV Tryz.prog 113 ([(0,5)]):=⟨T.ZR⟩
instance:uV Tryz.prog 139 ([(0,1),(1,1)]):=⟨T.ZQ⟩
instance:uV Tryz.prog 141 ([(0,1),(1,1),(2,1),(3,1)]):=⟨T.ZP⟩
instance:uV Tryz.prog 145 ([(0,1),(1,1),(2,1),(3,1),(4,1),(5,1),(6,1),(7,1)]):=⟨T.ZO⟩
instance:uV Tryz.prog 170 ([(0,1),(1,1),(2,1),(3,1),(4,1),(5,1),(6,1),(7,1)]):=⟨T.eT⟩
instance:uV Tryz.prog 174 ([(0,1),(1,1),(2,1)]):=⟨T.ZN⟩
instance:uV Tryz.prog 177 ([(0,1),(1,1),(2,1),(3,1),(4,1),(5,1),(6,1),(7,1),(8,1),(9,1),(10,1)]):=⟨T.ZM⟩
instance:uV Tryz.prog 192 ([(0,1),(1,1)]):=⟨T.ZL⟩
instance:uV Tryz.prog 197 ([(0,1),(1,1),(2,1)]):=⟨T.ZK⟩
instance:uV Tryz.prog 201 ([(0,1),(1,1),(2,1),(3,1),(4,1),(5,1),(6,4)]):=⟨T.ZJ⟩
instance:uV Tryz.prog 228 ([(0,1),(1,1),(2,1),(3,1)]):=⟨T.ZI⟩
instance:uV Tryz.prog 23 ([(0,1),(1,1),(2,1),(3,1),(4,1),(5,1),(6,1)]):=⟨T.aeR⟩
instance:uV Tryz.prog 243 ([(0,1),(1,1),(2,1)]):=⟨T.ZH⟩
instance:uV Tryz.prog 25 ([(0,1),(1,1),(2,1),(3,1)]):=⟨T.aeQ⟩
instance:uV Tryz.prog 279 ([(0,1),(1,1)]):=⟨T.ZG⟩
instance:uV Tryz.prog 41 ([(0,1),(1,1),(2,1),(3,1),(4,1)]):=⟨T.aeP⟩
instance:uV Tryz.prog 47 ([(0,1),(1,1),(2,1),(3,1),(4,1),(5,1),(6,1),(7,1),(8,1),(9,1),(10,1)]):=⟨T.aeO⟩
instance:uV Tryz.prog 49 ([(0,1),(1,1),(2,1),(3,1),(4,1),(5,1),(6,1),(7,1),(8,1)]):=⟨T.aeN⟩
instance:uV Tryz.prog 61 ([(0,1),(1,1),(2,1),(3,1),(4,1),(5,1)]):=⟨T.aeM⟩
instance:uV Tryz.prog 94 ([(0,1),(1,1),(2,1),(3,1)]):=⟨T.aeL⟩
instance:Cu Tryz.prog 105 ((.pointer 197)):=⟨T.aeH⟩
instance:Cu Tryz.prog 117 ((.int .u64)):=⟨T.aeG⟩
instance:Cu Tryz.prog 130 ((.pointer 192)):=⟨T.aeF⟩
instance:Cu Tryz.prog 163 ((.int .u32)):=⟨T.Nn⟩
instance:Cu Tryz.prog 190 ((.int .u64)):=⟨T.aeE⟩
instance:Cu Tryz.prog 260 ((.pointer 310)):=⟨T.aeD⟩
instance:Cu Tryz.prog 28 ((.pointer 111)):=⟨T.u_28⟩
instance:Cu Tryz.prog 3 ((.int .i64)):=⟨T.u_3⟩
instance:Cu Tryz.prog 38 ((.int .u64)):=⟨T.M5⟩
instance:Cu Tryz.prog 5 ((.int .u8)):=⟨T.qw⟩
instance:Cu Tryz.prog 79 ((.pointer 136)):=⟨T.u_79⟩
instance:Cu Tryz.prog 82 ((.pointer 139)):=⟨T.u_82⟩
instance:Cus Tryz.prog 117:=⟨T.ER⟩
instance:Cus Tryz.prog 163:=⟨T.EP⟩
instance:Cus Tryz.prog 3:=⟨T.UA⟩
instance:Cus Tryz.prog 38:=⟨T.GX⟩
instance:Cus Tryz.prog 5:=⟨T.YY⟩
instance:uU Tryz.prog 100 ([(.int .i64 0),(.int .i64 0),(.int .i64 0),(.int .i64 0),(.int .i64 0),(.int .i64 0),(.int .i64 0)]):=⟨T.Zu⟩
instance:uU Tryz.prog 109 ([(.pointer none),(.pointer none),(.pointer none),(.pointer none),(.pointer none),(.pointer none),(.pointer none),(.pointer none)]):=⟨T.Zt⟩
instance:uU Tryz.prog 111 ([(.pointer none),(.pointer none),(.pointer none),(.pointer none),(.pointer none),(.pointer none),(.pointer none),(.pointer none),(.int .i64 0),(.int .i64 0),(.int .i64 0),(.int .i64 0),(.int .i64 0),(.int .i64 0),(.int .i64 0),(.int .i64 0),(.int .i64 0),(.int .i64 0),(.int .i64 0),(.int .u64 0),(.int .i64 0),(.int .i64 0),(.int .i64 0),(.int .i64 0),(.int .i64 0),(.int .i64 0),(.int .i64 0),(.int .i64 0),(.slice none 0 0)]):=⟨T.Zs⟩
instance:uU Tryz.prog 113 ([(.int .i64 0),(.slice none 0 0),(.int .u64 0),(.string {data:= #[]}),(.slice none 0 0)]):=⟨T.EN⟩
instance:uU Tryz.prog 139 ([(.pointer none),(.slice none 0 0)]):=⟨T.Zr⟩
instance:uU Tryz.prog 141 ([(.pointer none),(.pointer none),(.int .i64 0),(.int .i64 0)]):=⟨T.Zq⟩
instance:uU Tryz.prog 145 ([(.pointer none),(.int .i64 0),(.int .i64 0),(.int .i64 0),(.slice none 0 0),(.slice none 0 0),(.int .i64 0),(.int .i64 0)]):=⟨T.Zp⟩
instance:uU Tryz.prog 170 ([(.slice none 0 0),(.slice none 0 0),(.int .u64 0),(.int .i64 0),(.int .i64 0),(.int .u64 0),(.int .i64 0),(.int .i64 0)]):=⟨T.bW⟩
instance:uU Tryz.prog 174 ([(.int .i64 0),(.int .i64 0),(.int .u64 0)]):=⟨T.Zo⟩
instance:uU Tryz.prog 177 ([(.pointer none),(.pointer none),(.int .i64 0), .nilFunc, .nilFunc,(.int .i64 0),(.bool false),(.int .i64 0),(.int .i64 0),(.int .u64 0),(.int .i64 0)]):=⟨T.Zn⟩
instance:uU Tryz.prog 192 ([(.int .i64 0),(.slice none 0 0)]):=⟨T.Zm⟩
instance:uU Tryz.prog 197 ([(.slice none 0 0),(.map none),(.int .u64 0)]):=⟨T.Zl⟩
instance:uU Tryz.prog 201 ([(.pointer none), .nilFunc, .nilFunc, .nilFunc,(.slice none 0 0),(.int .i64 0),(.int .i64 0),(.int .i64 0),(.int .i64 0),(.bool false)]):=⟨T.Zk⟩
instance:uU Tryz.prog 228 ([(.pointer none),(.int .i64 0),(.int .i64 0),(.int .i64 0)]):=⟨T.ie⟩
instance:uU Tryz.prog 23 ([(.int .i64 0),(.int .i64 0),(.int .i64 0),(.int .i64 0),(.int .i64 0),(.int .i64 0),(.int .i64 0)]):=⟨T.Nl⟩
instance:uU Tryz.prog 243 ([(.int .u64 0),(.int .i64 0),(.int .u64 0)]):=⟨T.Ak⟩
instance:uU Tryz.prog 25 ([(.int .i64 0),(.int .i64 0),(.int .i64 0),(.int .i64 0)]):=⟨T.XD⟩
instance:uU Tryz.prog 279 ([(.int .i64 0), .nilFunc]):=⟨T.NV⟩
instance:uU Tryz.prog 41 ([(.int .i64 0),(.slice none 0 0),(.int .u64 0),(.string {data:= #[]}),(.slice none 0 0)]):=⟨T.iu⟩
instance:uU Tryz.prog 47 ([(.int .i64 0),(.slice none 0 0),(.int .u64 0),(.int .i64 0),(.int .u64 0),(.int .u64 0),(.slice none 0 0),(.bool false),(.bool false),(.slice none 0 0),(.string {data:= #[]})]):=⟨T.XC⟩
instance:uU Tryz.prog 49 ([(.string {data:= #[]}),(.slice none 0 0),(.int .u64 0),(.int .i64 0),(.int .u64 0),(.int .i64 0),(.bool false),(.bool false),(.bool false)]):=⟨T.uc⟩
instance:uU Tryz.prog 61 ([(.slice none 0 0),(.int .i64 0),(.int .u64 0),(.int .u64 0),(.int .i64 0),(.int .i64 0)]):=⟨T.aet⟩
instance:uU Tryz.prog 94 ([(.int .i64 0),(.int .u64 0),(.int .u64 0),(.int .i64 0)]):=⟨T.aer⟩
end Go.Proofs.YtdolmecackmjdaaGreatDoor
