/- Part Pc1 of the proof. -/
import Derived.Test.YtcbcjolpdljbiaaGreatPb1
import Derived.Laws.IdiomStrings
import Derived.OrdersIn
import Derived.RangeFuncLeaves
import Derived.RangeFuncRecord
import Derived.Recover
import Derived.Scope
import Derived.TacticsIn
import Derived.WalkSmall
set_option maxRecDepth 100000
namespace Go.dC
open Go
theorem yr{α:Type}{f:α->aa}{L:List α}{h:Hp}(o:∃k,aB (L.map f) k/\Le k h){a:α}(ha:a∈L):∃k,f a k/\Le k h:=by
 obtain⟨k,p,l⟩:=o;exact Mg (f:=f) (X:=λa k=>∃j,f a j/\Le j k) (λa k p=>⟨k,p,Le.refl _⟩) (λa k m ⟨j,p,l⟩ lm=>⟨j,p,l.trans lm⟩) L h (by exact eU p l) a ha
theorem r7{A B:F8}(p:List.Perm A B):∀h,ai A h->ai B h:=by
 induction p with
 |nil=>exact λ_ x=>x
 |cons _ _ ih=>exact λ_ x=>aE ih x
 |swap _ _ _=>exact λ_ x=>dy x
 |trans _ _ i1 i2=>exact λh x=>i2 h (i1 h x)
theorem oH{A B:F8}(p:List.Perm A B){H:F8}{h:Hp}(s:ai (aB A::H) h):ai (aB B::H) h:=aZ (λk q=>r7 p k q) s
section
variable {P:Program} {n:Nat} {ds:Dq} {F:dG} {σ:aP} {H:F8}
theorem LI{fn:Func}{T:Dp}{t ty b i k u:Nat}{x:Value}{e:TypeId}{cs vs:FJ}{R:F8}(H':F8)(hs:cP P ty=some k)(hr:fn.results= #[.cell t ty, .tmp u])(hR:T (.tuple #[.agg vs.toArray,x]) H')(ht:look σ t=some (.pointer (some ⟨b,i,none⟩)):=by exact rfl)
  (hx:look σ u=some x:=by exact rfl) (c9:fP H (ag b e cs) R:=by repeat (first|exact fP.here|apply fP.there)) (hv:(cs.drop i).take k=vs:=by exact rfl) (hk:vs.length=k:=by exact rfl) (hh:∀h,ai H h->ai H' h:=by exact Eh):
  G n [] F (bodyPost P fn (λe w'=>∃v H',e= .returned v/\T v H'/\St F H' w') .ret) σ H:=
 .mk λa w en s=>⟨en.defers,_,by
  obtain⟨h1,h4⟩:=yR (P:=P) en s ht hs c9 hv hk;have h2:a.tmps.getD u undef=x:=by simp[en.slot u x hx]
  simp only[results,hr];simp at h1 h2;simp[h1,h2,h4],_,H',rfl,hR,s.sub hh⟩
end
theorem ScE{P:Program}{n:Nat}{ds:Dq}{F:dG}{σ:aP}{o:Oper}{t yt:TypeId}{x y:Operand}{i j:FI}(ho:o.op= .binOp .add t x y yt:=by exact rfl)(hx:bo σ x=some (a8 i):=by exact rfl)(hy:bo σ y=some (a8 j):=by exact rfl)
  (hl:i.length+j.length<=9223372036854775807:=by first|omega|(simp;omega)):Yv P n ds F σ o (a8 (i++j)):=Sc hl ho hx hy rfl
section
open Go.MapKept
variable {P:Program} {n:Nat} {ds:Dq} {F:dG} {Q:Exit->F9} {K:F9} {σ:aP} {H:F8} {o:Oper} {d:Nat}
end
section
variable {α:Type} {f:α->FJ} {k:Nat}
theorem eQ (hf:∀a,(f a).length=k)(l:List α):(l.flatMap f).length=l.length*k:=by
 induction l with
 |nil=>simp
 |cons a l ih=>simp only[List.flatMap_cons,List.length_append,List.length_cons,ih,hf,Nat.add_mul];omega
theorem sn (hf:∀a,(f a).length=k){l:List α}{i:Nat}{a:α}(h:l[i]?=some a):l.flatMap f=(l.take i).flatMap f++(f a++(l.drop (i+1)).flatMap f)/\((l.take i).flatMap f).length=i*k:=by
 obtain⟨hi,hg⟩:=List.getElem?_eq_some_iff.1 h;constructor
 ·conv=>lhs;rw[<-List.take_append_drop i l,List.drop_eq_getElem_cons hi,hg]
  rw[List.flatMap_append,List.flatMap_cons]
 rw[eQ hf,List.length_take];congr 1;omega
theorem bb (hf:∀a,(f a).length=k){l:List α}{i j:Nat}{a:α}{v:Value}(h:l[i]?=some a)(hv:(f a)[j]?=some v):(l.flatMap f)[i*k+j]?=some v:=by
 obtain⟨e,hl⟩:=sn hf h;have hj:=(List.getElem?_eq_some_iff.1 hv).1;rw[e,List.getElem?_append_right (by omega),hl,List.getElem?_append_left (by omega),show i*k+j-i*k=j from by omega];exact hv
theorem T0 (hf:∀a,(f a).length=k){l:List α}{i:Nat}{a a':α}(h:l[i]?=some a):cL (l.flatMap f) (i*k) (f a')=(l.set i a').flatMap f:=by
 obtain⟨e,hl⟩:=sn hf h;have h1:=hf a;have h2:=hf a';have h3:(l.set i a').flatMap f=(l.take i).flatMap f++(f a'++(l.drop (i+1)).flatMap f):=by
  rw[List.set_eq_take_append_cons_drop,if_pos (List.getElem?_eq_some_iff.1 h).1,List.flatMap_append,List.flatMap_cons]
 rw[h3,e,<-hl,my _ _ (f a) _ (by omega)]
theorem bU (hf:∀a,(f a).length=k){l:List α}{i j:Nat}{a a':α}{v:Value}(h:l[i]?=some a)(hv:(f a).set j v=f a')(hj:j<k):(l.flatMap f).set (i*k+j) v=(l.set i a').flatMap f:=by
 obtain⟨e,hl⟩:=sn hf h;have h1:=hf a;have h3:(l.set i a').flatMap f=(l.take i).flatMap f++(f a'++(l.drop (i+1)).flatMap f):=by
  rw[List.set_eq_take_append_cons_drop,if_pos (List.getElem?_eq_some_iff.1 h).1,List.flatMap_append,List.flatMap_cons]
 rw[h3,e,List.set_append_right _ _ (by omega),hl,show i*k+j-i*k=j from by omega,List.set_append_left _ _ (by omega),hv]
end
end Go.dC
namespace Go.dC
open Go
def zV:aa:=λ_=>True
theorem iS{α:Type}{L:List α}{i:Nat}{x:α}(h:L[i]?=some x)(x':α):List.Perm (L.set i x') (x'::L.eraseIdx i):=by
 obtain⟨hi,hg⟩:=List.getElem?_eq_some_iff.1 h;rw[List.set_eq_take_append_cons_drop,if_pos hi,List.eraseIdx_eq_take_drop_succ];exact List.perm_middle
theorem gj{α:Type}{L:List α}{i:Nat}{x:α}(h:L[i]?=some x):L.set i x=L:=by
 obtain⟨hi,hg⟩:=List.getElem?_eq_some_iff.1 h;rw[<-hg];exact List.set_getElem_self hi
theorem xn{α:Type}{f:α->aa}{L:List α}{i:Nat}{x:α}(h:L[i]?=some x){H:F8}{k:Hp}(s:ai (aB (L.map f)::H) k):ai (f x::aB ((L.eraseIdx i).map f)::H) k:=by
 have p:=iS h x;rw[gj h]at p;exact Ij (oH (p.map f) s)
theorem uW{α:Type}{f:α->aa}{L:List α}{i:Nat}{x:α}(h:L[i]?=some x)(x':α){H:F8}{k:Hp}(s:ai (f x'::aB ((L.eraseIdx i).map f)::H) k):ai (aB ((L.set i x').map f)::H) k:=by
 have s2:=Ii s;refine oH ?_ s2;have p:=((iS h x').map f).symm;rw[List.map_cons]at p;exact(List.perm_append_singleton _ _).trans p
section
variable {P:Program} {n:Nat} {ds:Dq} {F:dG} {σ:aP} {o:Oper}
theorem Rt4{fn:Func}{R:Dp}{H:F8}{t u u' t':Nat}{v x x' y:Value}(H':F8)(hr:fn.results= #[.tmp t, .tmp u, .tmp u', .tmp t'])(hR:R (.tuple #[v,x,x',y]) H')(hv:look σ t=some v:=by exact rfl)(hx:look σ u=some x:=by exact rfl)(Z2:look σ u'=some x':=by exact rfl)(hy:look σ t'=some y:=by exact rfl)
  (hh:∀h,ai H h->ai H' h:=by exact Eh):G n [] F (bodyPost P fn (λe w'=>∃v H',e= .returned v/\R v H'/\St F H' w') .ret) σ H:=
 .mk λa w e s=>⟨e.defers, .tuple #[v,x,x',y],by
  have h1:a.tmps.getD t undef=v:=by simp[e.slot t v hv]
  have h2:a.tmps.getD u undef=x:=by simp[e.slot u x hx]
  have h3:a.tmps.getD u' undef=x':=by simp[e.slot u' x' Z2]
  have h4:a.tmps.getD t' undef=y:=by simp[e.slot t' y hy]
  simp only[results,hr];simp at h1 h2 h3 h4;simp[h1,h2,h3,h4],_,H',rfl,hR,s.sub hh⟩
theorem Ya{k:IntKind}{p q:Nat}(hq:0<q):gh .rem k (p:Int) (q:Int)=some ((p % q:Nat):Int):=by
 show(if(q:Int)=0 then none else some ((p:Int).tmod (q:Int)))=_;rw[if_neg (by omega),Int.tmod_eq_emod_of_nonneg (Int.natCast_nonneg p)]
 norm_cast
theorem JP{k:IntKind}{p q:Nat}(hq:0<q)(h:k.wrap ((p/q:Nat):Int)=((p/q:Nat):Int)):gh .quo k (p:Int) (q:Int)=some ((p/q:Nat):Int):=by
 show(if(q:Int)=0 then none else some (k.wrap ((p:Int).tdiv (q:Int))))=_;rw[if_neg (by omega),Int.tdiv_eq_ediv_of_nonneg (Int.natCast_nonneg p),show(p:Int)/(q:Int)=((p/q:Nat):Int)from by norm_cast,h]
theorem Rm{t yt:TypeId}{x y:Operand}{k:IntKind}{i j:Int}{p q:Nat}(ho:o.op= .binOp .rem t x y yt:=by exact rfl)(hx:bo σ x=some (.int k i):=by exact rfl)(hy:bo σ y=some (.int k j):=by exact rfl)
  (hi:i=(p:Int):=by exact rfl) (hj:j=(q:Int):=by exact rfl) (hq:0<q:=by omega):Yv P n ds F σ o (.int k ((p % q:Nat):Int)):=xQ ho hx hy (by rw[hi,hj];exact Ya hq)
theorem Qu{t yt:TypeId}{x y:Operand}{i j:Int}{p q:Nat}(ho:o.op= .binOp .quo t x y yt:=by exact rfl)(hx:bo σ x=some (.int .i64 i):=by exact rfl)(hy:bo σ y=some (.int .i64 j):=by exact rfl)
  (hi:i=(p:Int):=by exact rfl) (hj:j=(q:Int):=by exact rfl) (hq:0<q:=by omega) (hw:p<9223372036854775808:=by omega):Yv P n ds F σ o (.int .i64 ((p/q:Nat):Int)):=
 xQ ho hx hy (by rw[hi,hj];exact JP hq (by have h1:=Nat.div_le_self p q;generalize p/q=z at*;exact wrap_i64 (by omega)))
theorem QuU{t yt:TypeId}{x y:Operand}{i j:Int}{p q:Nat}(ho:o.op= .binOp .quo t x y yt:=by exact rfl)(hx:bo σ x=some (.int .u64 i):=by exact rfl)(hy:bo σ y=some (.int .u64 j):=by exact rfl)
  (hi:i=(p:Int):=by exact rfl) (hj:j=(q:Int):=by exact rfl) (hq:0<q:=by omega) (hw:p<18446744073709551616:=by omega):Yv P n ds F σ o (.int .u64 ((p/q:Nat):Int)):=
 xQ ho hx hy (by rw[hi,hj];exact JP hq (by have h1:=Nat.div_le_self p q;generalize p/q=z at*;exact wrap_u64 (by omega)))
theorem MuN{t yt:TypeId}{x y:Operand}{i j:Int}{p q:Nat}(ho:o.op= .binOp .mul t x y yt:=by exact rfl)(hx:bo σ x=some (.int .i64 i):=by exact rfl)(hy:bo σ y=some (.int .i64 j):=by exact rfl)
  (hi:i=(p:Int):=by exact rfl) (hj:j=(q:Int):=by exact rfl) (h:p*q<9223372036854775808:=by omega):Yv P n ds F σ o (.int .i64 ((p*q:Nat):Int)):=
 xQ ho hx hy (by rw[hi,hj];show some (IntKind.i64.wrap ((p:Int)*(q:Int)))=_;rw[<-Int.natCast_mul];generalize p*q=z at*;exact congrArg some (wrap_i64 (by omega)))
theorem AdN{t yt:TypeId}{x y:Operand}{i j:Int}{p q:Nat}(ho:o.op= .binOp .add t x y yt:=by exact rfl)(hx:bo σ x=some (.int .i64 i):=by exact rfl)(hy:bo σ y=some (.int .i64 j):=by exact rfl)
  (hi:i=(p:Int):=by exact rfl) (hj:j=(q:Int):=by exact rfl) (h:p+q<9223372036854775808:=by omega):Yv P n ds F σ o (.int .i64 ((p+q:Nat):Int)):=
 xQ ho hx hy (by rw[hi,hj];show some (IntKind.i64.wrap ((p:Int)+(q:Int)))=_;rw[<-Int.natCast_add];exact congrArg some (wrap_i64 (by omega)))
theorem IxB{t e sz m b i0:Nat}{x y:Operand}{l c j:Nat}{k:IntKind}{i:Int}(ht:dV P t=some (e,sz))(ho:o.op= .indexAddr t x y:=by exact rfl)(hx:bo σ x=some (.slice (some ⟨b,i0,none⟩) l c):=by exact rfl)(hy:bo σ y=some (.int k i):=by exact rfl)
  (hj:i=(j:Int):=by first|exact rfl|omega) (hl:j<l:=by omega) (hm:j*sz=m:=by first|exact Nat.mul_one _|rfl):Yv P n ds F σ o (.pointer (some ⟨b,i0+m,none⟩)):=by
 have:=Jz (P:=P) (n:=n) (ds:=ds) (F:=F) (σ:=σ) (o:=o) ht ho hx hy hj hl hm rfl
 rwa[Option.map_some,add_lit]at this
theorem IxZ{t e sz m b:Nat}{x y:Operand}{l c j:Nat}{k:IntKind}{i:Int}(ht:dV P t=some (e,sz))(ho:o.op= .indexAddr t x y:=by exact rfl)(hx:bo σ x=some (.slice (some ⟨b,0,none⟩) l c):=by exact rfl)(hy:bo σ y=some (.int k i):=by exact rfl)
  (hj:i=(j:Int):=by first|exact rfl|omega) (hl:j<l:=by first|omega|assumption) (hm:j*sz=m:=by first|exact Nat.mul_one _|rfl):Yv P n ds F σ o (.pointer (some ⟨b,m,none⟩)):=by
 have:=IxB (P:=P) (n:=n) (ds:=ds) (F:=F) ht ho hx hy hj hl hm
 rwa[Nat.zero_add]at this
theorem l8 (w a:Nat)(h:a<2^w):(BitVec.ofInt w (a:Int)).toNat=a:=by
 rw[BitVec.ofInt_natCast,BitVec.toNat_ofNat,Nat.mod_eq_of_lt h]
theorem zu{a:Nat}(m:Nat)(hm:m<=63)(ha:a<18446744073709551616):gh .and .u64 (a:Int) ((2^m-1:Nat):Int)=some ((a % 2^m:Nat):Int):=by
 have h2:2^m<=2^63:=Nat.pow_le_pow_right (by decide) hm;have hl:a % 2^m<=a:=Nat.mod_le _ _;show some (IntKind.u64.wrap ((BitVec.ofInt 64 (a:Int)&&&BitVec.ofInt 64 ((2^m-1:Nat):Int)).toNat:Int))=_;rw[BitVec.toNat_and,l8 64 a ha,l8 64 _ (by omega),Nat.and_two_pow_sub_one_eq_mod,wrap_u64 (by omega)]
theorem ajw{a:Nat}(ha:a<18446744073709551616):gh .and .u64 (a:Int) 4294967295=some ((a % 4294967296:Nat):Int):=zu 32 (by decide) ha
theorem aiy (a:Nat):((a:Int).fdiv (2^(min 32 IntKind.u64.bits)))=((a/4294967296:Nat):Int):=by
 rw[show(2:Int)^(min 32 IntKind.u64.bits)=4294967296 from rfl,Int.fdiv_eq_ediv_of_nonneg _ (by decide)];omega
theorem Uj{n c:Nat}(h:n*256+c<256):gh .or .u8 (IntKind.u8.wrap (IntKind.u8.wrap ((n:Int)*2^(min 7 IntKind.u8.bits))*2^(min 1 IntKind.u8.bits))) (c:Int)=some ((n*256+c:Nat):Int):=by
 obtain rfl:n=0:=by omega
 show some (IntKind.u8.wrap ((BitVec.ofInt 8 0|||BitVec.ofInt 8 (c:Int)).toNat:Int))=_;rw[BitVec.toNat_or,l8 8 c (by omega),show(BitVec.ofInt 8 0).toNat=0 from rfl,Nat.zero_or,wrap_u8 (by omega)];simp
theorem JY (w n c:Nat)(hc:c<256)(h:n*256+c<2^w):(BitVec.ofInt w ((n*256:Nat):Int) |||BitVec.ofInt w (c:Int)).toNat=n*256+c:=by
 rw[BitVec.toNat_or,l8 w c (by omega),l8 w (n*256) (by omega),Nat.mul_comm];have:=Nat.two_pow_add_eq_or_of_lt (i:=8) (b:=c) (by simpa using hc) n;rw[show(2:Nat)^8=256 from rfl]at this;omega
theorem MB{n c:Nat}(hc:c<256)(h:n*256+c<4294967296):gh .or .u32 (IntKind.u32.wrap (IntKind.u32.wrap ((n:Int)*2^(min 7 IntKind.u32.bits))*2^(min 1 IntKind.u32.bits))) (c:Int)=some ((n*256+c:Nat):Int):=by
 rw[show(2:Int)^(min 7 IntKind.u32.bits)=128 from rfl,show(2:Int)^(min 1 IntKind.u32.bits)=2 from rfl,show IntKind.u32.wrap ((n:Int)*128)=(n:Int)*128 from wrap_u32 (by omega),show(n:Int)*128*2=((n*256:Nat):Int)from by omega,show IntKind.u32.wrap ((n*256:Nat):Int)=((n*256:Nat):Int)from wrap_u32 (by omega)];show some (IntKind.u32.wrap ((BitVec.ofInt 32 ((n*256:Nat):Int) |||BitVec.ofInt 32 (c:Int)).toNat:Int))=_;rw[JY 32 n c hc h,wrap_u32 (by omega)]
theorem MA{n c:Nat}(hc:c<256)(h:n*256+c<18446744073709551616):gh .or .u64 (IntKind.u64.wrap (IntKind.u64.wrap ((n:Int)*2^(min 7 IntKind.u64.bits))*2^(min 1 IntKind.u64.bits))) (c:Int)=some ((n*256+c:Nat):Int):=by
 rw[show(2:Int)^(min 7 IntKind.u64.bits)=128 from rfl,show(2:Int)^(min 1 IntKind.u64.bits)=2 from rfl,show IntKind.u64.wrap ((n:Int)*128)=(n:Int)*128 from wrap_u64 (by omega),show(n:Int)*128*2=((n*256:Nat):Int)from by omega,show IntKind.u64.wrap ((n*256:Nat):Int)=((n*256:Nat):Int)from wrap_u64 (by omega)];show some (IntKind.u64.wrap ((BitVec.ofInt 64 ((n*256:Nat):Int) |||BitVec.ofInt 64 (c:Int)).toNat:Int))=_;rw[JY 64 n c hc h,wrap_u64 (by omega)]
end
end Go.dC
namespace Go.dC
open Go
def zN:FK->Fence
 |none=>Fence.wide
 |some l=>Fence.wide.inRound l
theorem Cp (r:FK)(f:FuncId):(zN r).fn f:=by cases r<;>trivial
theorem vx (r:FK):(zN r).depth.isSome=true->1<=0:=by cases r<;>simp[zN,Fence.wide,Fence.inRound]
def RC (r:FK)(c:Code)(P:Program)(Q:Exit->F9):F9:=λa w=>c.wpIn (zN r) 0 P Q a w
theorem aiE{c:Code}{P:Program}{Q:Exit->F9}{a:Act}{w:World}:RC none c P Q a w↔c.wp P Q a w:=wpIn_wide
def nd (o:Oper):Bool:=match o.op with| .defer _=>false|_=>true
theorem OH{r:FK}{P:Program}{f:FuncId}{args:Array Value}{w:World}{R:Ending->World->Prop}(h:Calls P f args w R):CallsIn (zN r) 0 P f args w R:=by
 cases r with
 |none=>exact callsIn_wide.2 h
 |some l=>have h0:CallsIn Fence.wide 0 P f args w R:=callsIn_wide.2 h;exact h0
theorem T5{r:FK}{P:Program}{row:String}{args:Array Value}{w:World}{R:Value->World->Prop}(h:Rows P row args w R):RowsIn (zN r) 0 P row args w R:=by
 have key:RowsIn Fence.wide 0 P row args w R:=λc cs _=>by obtain⟨v,w',q,s⟩:=h c cs;exact⟨v,w',q,stepsIn_wide.2 s⟩
 cases r with
 |none=>exact key
 |some l=>exact key
theorem TU{o:Oper}(h:nd o=true)(r:FK)(ρ:Operand->Value):o.semAt r ρ=execOp ρ o:=by
 unfold Oper.semAt;cases r with
 |none=>rfl
 |some l=>unfold nd at h;split<;>simp_all
theorem aaq{r:FK}{P:Program}{o:Oper}{a:Act}{w:World}{K:F9}{Q:Exit->F9}(hn:nd o=true)(h:o.wp P a w K Q):o.wpIn (zN r) 0 P a w K Q:=by
 refine⟨λf _=>Cp r f, ?_⟩;rw[TU hn];unfold Oper.wp at h;generalize (execOp a.eval o).run P w=res at*;cases res with
 |ok nx w'=>
  cases nx<;>simp only[Oper.upon,Oper.uponIn]at h⊢<;>first
   |exact h
   |exact⟨vx r,OH h⟩
   |exact⟨vx r,T5 h⟩
   |exact h.elim
 |halt x w'=>cases x<;>simp only[Oper.upon,Oper.uponIn]at h⊢<;>exact h
section rules
variable {P:Program} {n:Nat} {ds:Dq} {F:dG} {Q:Exit->F9} {σ:aP} {H:F8} {r:FK}
theorem gx{x y:Code}(h:G n ds F (RC r x P (Exit.then (RC r y P Q) Q)) σ H):G n ds F (RC r (Code.seq x y) P Q) σ H:= .mk λa w e s=>wpIn_seq (h a w e s)
theorem lJ (h:G n ds F (Q .normal) σ H):G n ds F (RC r Code.skip P Q) σ H:= .mk λa w e s=>wpIn_skip (h a w e s)
theorem jg (h:G n ds F (Q .ret) σ H):G n ds F (RC r Code.ret P Q) σ H:= .mk λa w e s=>wpIn_ret (h a w e s)
theorem BL{id:Nat}(h:G n ds F (Q (.exit id)) σ H):G n ds F (RC r (Code.exit id) P Q) σ H:= .mk λa w e s=>wpIn_exit (h a w e s)
theorem qz{id:Nat}{c:Code}(h:G n ds F (RC r c P (Exit.inBlock id Q)) σ H):G n ds F (RC r (Code.block id c) P Q) σ H:= .mk λa w e s=>wpIn_block (h a w e s)
theorem uJ{c:Operand}{x y:Code}{b:Bool}(hc:bo σ c=some (.bool b))(ht:b=true->G n ds F (RC r x P Q) σ H)(hf:b=false->G n ds F (RC r y P Q) σ H):G n ds F (RC r (Code.cond c x y) P Q) σ H:=
 .mk λa w e s=>wpIn_cond_split (e.eval hc) (λhb=>ht hb a w e s) (λhb=>hf hb a w e s)
theorem nc{c:Operand}{x y:Code}{b:Bool}(hc:bo σ c=some (.bool b))(hb:b=true)(ht:G n ds F (RC r x P Q) σ H):G n ds F (RC r (Code.cond c x y) P Q) σ H:=uJ hc (λ_=>ht) (λh=>by rw[hb]at h;cases h)
theorem lQ{c:Operand}{x y:Code}{b:Bool}(hc:bo σ c=some (.bool b))(hb:b=false)(ht:G n ds F (RC r y P Q) σ H):G n ds F (RC r (Code.cond c x y) P Q) σ H:=uJ hc (λh=>by rw[hb]at h;cases h) (λ_=>ht)
theorem Xy{ι:Type}{c:Code}(jF:FH)(I:ι->Prop)(L:ι->aP)(HI:ι->F8)(μ:ι->Nat)(i₀:ι)(h0:I i₀)(hs:pH (L i₀) σ)(hh:∀h,ai H h->ai (HI i₀) h)
  (round:∀i,I i->G n ds F (RC r c P (Exit.then (qF n ds F jF σ I L HI μ i) Q)) (L i++fH jF σ) (HI i)):G n ds F (RC r (Code.loop c) P Q) σ H:=by
 refine .mk λa w e s b k cs hro hb hr=> ?_;have key:∀m i a w,μ i=m->I i->Env n ds (L i++fH jF σ) a->St F (HI i) w->
   ∃e a' w',Q e a' w'/\ArrivesIn (Machine.fenced P (zN r)) P (lone (b.atR a (.code c:: .inLoop c::k)) cs w) b k cs e a' w':=by
  intro m;induction m using Nat.strongRecOn with
  |_ m ih=>
   intro i a w hm hi he fA;obtain⟨e,a₁,w₁,hq,pG⟩:=(round i hi).run a w he fA b (.inLoop c::k) cs hro hb hr;cases e with
   |normal=>
    obtain⟨j,hj,cJ,he₁,hs₁⟩:=hq;obtain⟨e₂,a₂,w₂,hq₂,harr₂⟩:=ih (μ j) (hm▸cJ) j a₁ w₁ rfl hj he₁ hs₁;exact⟨e₂,a₂,w₂,hq₂, .of_steps (StepsIn.trans pG (.one (fenced_calm hb hr rfl) stepR_inLoop)) harr₂⟩
   |exit id=>exact⟨_,a₁,w₁,hq, .pass (x:= .inLoop c) rfl (λ_ _=> .inl (by simp)) pG⟩
   |goto l=>exact⟨_,a₁,w₁,hq, .pass (x:= .inLoop c) rfl (λ_ _=> .inl (by simp)) pG⟩
   |ret=>exact⟨_,a₁,w₁,hq, .pass (x:= .inLoop c) rfl (λ_ _=> .inl (by simp)) pG⟩
   |panic ch=>exact⟨_,a₁,w₁,hq, .pass (x:= .inLoop c) rfl (λ_ _=> .inl (by simp)) pG⟩
   |outgrown=>exact⟨_,a₁,w₁,hq, .pass (x:= .inLoop c) rfl (λ_ _=> .inl (by simp)) pG⟩
 obtain⟨e',a',w',hq,pG⟩:=key _ i₀ a w rfl h0 (e.ja hs rfl) (s.sub hh);exact⟨e',a',w',hq, .of_steps (.one (fenced_calm hb hr rfl) stepR_loop) pG⟩
theorem Qg{ι:Type}{K:F9}{x:Code}(jF:FH)(I:ι->Prop)(L:ι->aP)(HI:ι->F8)(hx:G n ds F (RC r x P (Exit.then (Er n ds F jF σ I L HI) Q)) σ H)
  (hy:∀j,I j->G n ds F K (L j++fH jF σ) (HI j)):G n ds F (RC r x P (Exit.then K Q)) σ H:=
 .mk λa w e s=>wpIn_mono (hx a w e s) λex a' w' q=>by
  cases ex with
  |normal=>obtain⟨j,hj,he,hs⟩:=q;exact hy j hj _ _ he hs
  |exit id=>exact q
  |goto l=>exact q
  |ret=>exact q
  |panic ch=>exact q
  |outgrown=>exact q
theorem Xo{ι:Type}{c:Code}(jF:FH)(I:ι->Prop)(L:ι->aP)(HI:ι->F8)(μ:ι->Nat)(i₀:ι)(h0:I i₀)
  (round:∀i,I i->G n ds F (RC r c P (Exit.then (qF n ds F jF σ I L HI μ i) Q)) (L i++fH jF σ) (HI i)) (hs:pH (L i₀) σ:=by exact Sb) (hh:∀h,ai H h->ai (HI i₀) h:=by exact Eh):G n ds F (RC r (Code.loop c) P Q) σ H:=
 Xy jF I L HI μ i₀ h0 hs hh round
end rules
section regions
variable {P:Program} {n:Nat} {ds:Dq} {F:dG} {Q:Exit->F9} {K:F9} {σ:aP} {H:F8} {o:Oper} {d:Nat} {ops:Array Oper} {rest:List Oper} {r:FK}
def WL (r:FK)(P:Program)(ops:Array Oper)(Q:Exit->F9)(l:List Oper):F9:=wpListIn (zN r) 0 P ops Q l
theorem jx{id:Nat}{l:List Oper}(h:G n ds F (WL r P l.toArray Q l) σ H):G n ds F (RC r (Code.region id l.toArray false) P Q) σ H:= .mk λa w e s=>wpIn_region_lit (h a w e s)
theorem sT (h:G n ds F (Q .normal) σ H):G n ds F (WL r P ops Q []) σ H:= .mk λa w e s=>h a w e s
theorem nS{K:F9}(h:G n ds F K σ H):G n ds F (WL r P ops (Exit.then K Q) []) σ H:=sT (Cr h)
theorem pt{id:Nat}{l:List Oper}{y:Code}(h:G n ds F (WL r P l.toArray (Exit.then (RC r y P Q) Q) l) σ H):G n ds F (RC r (Code.seq (Code.region id l.toArray false) y) P Q) σ H:=gx (jx h)
theorem Xin (h:G n ds F (λa w=>o.wpIn (zN r) 0 P a w (WL r P ops Q rest) Q) σ H)(hg:Lh ops o σ=true:=by exact rfl):G n ds F (WL r P ops Q (o::rest)) σ H:=
 .mk λa w e s=>by
  show wpListIn _ _ _ _ _ _ _ _;unfold wpListIn;rw[if_pos (jR hg e)];exact h a w e s
theorem Xp (h:G n ds F (λa w=>o.wp P a w (WL r P ops Q rest) Q) σ H)(hg:Lh ops o σ=true:=by exact rfl)(hn:nd o=true:=by exact rfl):G n ds F (WL r P ops Q (o::rest)) σ H:=
 Xin (.mk λa w e s=>aaq hn (h a w e s)) hg
theorem Xi{v:Value}(hy:Yv P n ds F σ o v)(h:G n ds F (WL r P ops Q rest) ((d,v)::σ) H)(hg:Lh ops o σ=true:=by exact rfl)(hd:o.dst=some d:=by exact rfl)(hdn:Nat.blt d n=true:=by exact rfl)(hn:nd o=true:=by exact rfl):
  G n ds F (WL r P ops Q (o::rest)) σ H:=Xp (ahp hy hd hdn h) hg hn
theorem Xx (h:G n ds F (WL r P ops Q rest) ((d,undef)::σ) H)(hg:gno ops o σ=true:=by exact rfl)(hd:o.dst=some d:=by exact rfl)(hdn:Nat.blt d n=true:=by exact rfl):G n ds F (WL r P ops Q (o::rest)) σ H:=
 .mk λa w e s=>by
  show wpListIn _ _ _ _ _ _ _ _;unfold wpListIn;rw[if_neg (by simp[oJ hg e]),hd];exact⟨λf _=>Cp r f,h _ w (e.put hdn undef) s⟩
def nds (ops:Array Oper):Bool:=ops.toList.all nd
theorem adP (h:nds ops=true){i:Nat}{o:Oper}(ho:ops[i]?=some o):nd o=true:=by
 unfold nds at h;rw[List.all_eq_true]at h;exact h o (List.mem_of_getElem? (by rw[Array.getElem?_toList];exact ho))
theorem zr{Q:Exit->F9}(hn:nds ops=true)(fuel:Nat)(listed:Array Bool)(a:Act)(w:World)(fQ:∃i,i∈Region.ready .any ops listed)(h:∀i∈Region.ready .any ops listed,∃o,ops[i]?=some o/\rJ P ops o (wpAnyIn (zN r) 0 P .any ops Q fuel (listed.setIfInBounds i true)) a w):
  wpAnyIn (zN r) 0 P .any ops Q (fuel+1) listed a w:=by
 refine⟨λhr=> ?_,λi hi=> ?_⟩
 ·obtain⟨i,hi⟩:=fQ;rw[hr]at hi;cases hi
 obtain⟨o,ho,hh⟩:=h i hi;unfold wpOpIn;unfold rJ at hh;simp only[ho];split
 ·rename_i hw
  rw[if_pos hw]at hh;have h2:=aaq (r:=r) (Q:=NoQ) (adP hn ho) hh;refine⟨λf _=>Cp r f, ?_⟩;have h3:=h2.2;generalize (o.semAt (zN r).round a.eval).run P w=res at*;cases res with
  |ok nx w'=>
   cases nx<;>simp only[Oper.uponIn]at h3⊢<;>first
    |exact h3
    |exact⟨h3.1,h3.2.mono λe w'' he=>by cases e<;>first|exact he|exact he.elim|exact(Ha he).elim⟩
  |halt x w'=>cases x<;>simp only[Oper.uponIn]at h3⊢<;>exact h3.elim
 rename_i hw;rw[if_neg hw]at hh;exact⟨λf _=>Cp r f,hh⟩
end regions
end Go.dC
namespace Go.dC
open Go
theorem cC{A B:F8}(p:List.Perm A B):∀h,ai A h->ai B h:=by
 induction p with
 |nil=>exact λ_ x=>x
 |cons _ _ ih=>exact λ_ x=>aE ih x
 |swap _ _ _=>exact λ_ x=>dy x
 |trans _ _ i1 i2=>exact λh x=>i2 h (i1 h x)
def lpo (l:Nat)(rc:Loop):aa:=λh=>h l=some (.loop rc)
def Ah (D:Nat):aa:=λh=>h D=some (.deferred (some []))
def mark (D:Nat):Deferred:={target:= .collected D,args:= #[]}
def YdS (P:Program)(l:Nat)(args:FJ)(pre:Hp->Prop)(H:F8)(R:Dp):Prop:=
 ∀F w,pre F.h->St F H w->∃f tmps assign body,(Instr.yield l args.toArray).run P w= .ok (.round l f tmps assign body) w/\RoundIn Fence.wide 0 P l f tmps assign body w (λe w'=>∃v H',e= .returned v/\R v H'/\St F H' w')
def YR (A:F8)(J:List FJ->F8)(Z:F8->Prop)(p:List FJ)(x:FJ)(v:Value)(H':F8):Prop:=
 (v= .bool true/\H'=A++J (p++ [x]))\/(v= .bool false/\∃Zs,Z Zs/\H'=A++Zs)
def IR (A:F8)(fin:List FJ->Prop)(J:List FJ->F8)(Z:F8->Prop)(_:Value)(H':F8):Prop:=
 (∃p,fin p/\H'=A++J p)\/∃Zs,Z Zs/\H'=A++Zs
def ItF (P:Program)(F:dG)(gf:FuncId)(fv cv:FJ)(A:F8)(al:List FJ->FJ->Prop)(fin:List FJ->Prop):Prop:=
 ∀(l:Nat) (J:List FJ->F8) (Z:F8->Prop),(∀p x,al p x->YdS P l x (λh=>Le F.h h) (A++J p) (YR A J Z p x))->aG P gf (fv++ [.func (.yield l) #[] #[]]++cv) (λh=>Le F.h h) (A++J []) (IR A fin J Z)
section
variable {P:Program} {n:Nat} {ds:Dq} {F:dG} {Q:Exit->F9} {K:F9} {σ:aP} {H:F8} {o:Oper} {d:Nat} {ops:Array Oper} {rest:List Oper} {r:FK}
theorem Ul{l:Nat}{xs:List Operand}{vs:FJ}{q8:Array TypeId}{pre:Hp->Prop}{As R:F8}{T:Dp}{x:Operand}(ho:o.op= .call {callee:= .value x,args:=xs.toArray,argTypes:=q8})
  (hd:o.dst=some d) (hx:bo σ x=some (.func (.yield l) #[] #[])) (hv:jL σ xs=some vs) (hc:YdS P l vs pre As T) (c9:iA H As R) (gX:∀h,Le F.h h->gG R h->pre h) (hdn:Nat.blt d n=true)
  (h:∀v H',T v H'->G n ds F K ((d,v)::σ) (H'++R)):G n ds F (λa w=>o.wpIn (zN none) 0 P a w K Q) σ H:=by
 refine .mk λa w en s=>⟨λf _=>trivial, ?_⟩;obtain⟨a1,a2,a3,fr,hh,st,hl,rr⟩:=s;obtain⟨h1,h2,d12,l1,l2,s1,s2⟩:=bh (c9.out _ st);have vE:bG h2 F.h:=rr.left l2
 let F':dG:={F with h:=fF h2 F.h}
 have gY:Le F.h F'.h:=aJ vE;have gZ:Le h2 F'.h:=aR _ _;have xu:St F' As w:=⟨a1,a2,a3,bQ (l2.trans hl) fr,h1,s1,l1.trans hl,(bG.fF d12.symm (rr.left l1).symm).symm⟩;obtain⟨f,tmps,assign,body,hy,hrd⟩:=hc F' w (gX _ gY (cj s2 gZ)) xu;have zT:(o.semAt (zN none).round a.eval).run P w= .ok (.round l f tmps assign body) w:=by
  have:o.semAt (zN none).round a.eval=execOp a.eval o:=rfl;rw[this];have hvs:=en.vP hv;simp[execOp,ho,resolve,Deferred.ofValue,en.eval hx,invoke,hvs,hy]
 rw[zT,Oper.uponIn_round];refine⟨vx none,hrd.mono ?_⟩;rintro e w' ⟨v,H',rfl,hT,sw⟩;obtain⟨b1,b2,b3,ru,zL,st2,zJ,ke⟩:=sw;show K (a.put o.dst v) w';rw[hd];exact h v H' hT _ _ (en.put hdn v) ⟨b1,b2,b3,gY.trans ru,fF zL h2,bz st2 s2 (ke.right gZ),bQ zJ (gZ.trans ru),bG.fF (ke.right gY) vE⟩
theorem oY{l:Nat}{xs:List Operand}{vs:FJ}{q8:Array TypeId}{pre:Hp->Prop}{A2 R:F8}{T:Dp}{x:Operand}(ho:o.op= .call {callee:= .value x,args:=xs.toArray,argTypes:=q8})
  (hx:bo σ x=some (.func (.yield l) #[] #[])) (hv:jL σ xs=some vs) (hc:YdS P l vs pre A2 T) (c9:iA H A2 R) (gX:∀h,Le F.h h->gG R h->pre h)
  (h:∀v H',T v H'->G n ds F K ((d,v)::σ) (H'++R)) (hd:o.dst=some d:=by exact rfl) (hdn:Nat.blt d n=true:=by exact rfl):G n ds F (λa w=>o.wpIn (zN none) 0 P a w K Q) σ H:=Ul ho hd hx hv hc c9 gX hdn h
theorem UX{f:FuncId}{fn:Func}{c:Code}{args:FJ}{pre:Hp->Prop}{R:Dp}{m:Nat}(hf:P.funcs[f]?=some fn)(hb:fn.body=some c)(hm:fn.ntmps=m)(hn:Nat.ble args.length m=true)
  (h:∀F:dG,pre F.h->G m [] F (RC none c P (bodyPost P fn λe w'=>∃v H',e= .returned v/\R v H'/\St F H' w')) (jM 0 args) H):aG P f args pre H R:=
 λF w hp s=>calls_of_wp hf hb (by
  subst hm;exact aiE.1 (h F hp _ _ (DY args _ (Nat.le_of_ble_eq_true hn)) s))
def abm (P:Program)(fn:Func)(R:Ending->World->Prop):Exit->F9
 | .normal,a,w| .ret,a,w=>LeavesInM Fence.wide 0 P fn a.tmps R a.defers .returning w
 |_,_,_=>False
theorem UZ{f:FuncId}{fn:Func}{c:Code}{args:FJ}{pre:Hp->Prop}{R:Dp}{m:Nat}(hf:P.funcs[f]?=some fn)(hb:fn.body=some c)(hm:fn.ntmps=m)(hn:Nat.ble args.length m=true)
  (h:∀F:dG,pre F.h->G m [] F (RC none c P (abm P fn λe w'=>∃v H',e= .returned v/\R v H'/\St F H' w')) (jM 0 args) H):aG P f args pre H R:=
 λF w hp s=>callsIn_wide.1 (callsIn_of_wp_marks (F:=Fence.wide) (n:=0) hf hb trivial (by
  subst hm;refine wpIn_mono (h F hp _ _ (DY args _ (Nat.le_of_ble_eq_true hn)) s) λe a w' q=> ?_;cases e with
  |normal=>exact q
  |ret=>exact q
  |exit id=>exact q.elim
  |goto l=>exact q.elim
  |panic ch=>exact q.elim
  |outgrown=>exact q.elim))
theorem qJ (w:World)(b:Nat)(o:Obj):w.putObj b o={w with heap:=w.heap.setIfInBounds b o}:=rfl
theorem adU{fn:Func}{T:Ending->World->Prop}{tmps:Array Value}{R:F8}:∀(Ds:FH) (w:World),St F (Ds.map Ah++R) w->(∀w',St F R w'->∃v,(results fn tmps).run P w'= .ok v w'/\T (.returned v) w')->LeavesInM Fence.wide 0 P fn tmps T (Ds.map mark) .returning w:=by
 intro Ds;induction Ds with
 |nil=>intro w s h;exact h w s
 |cons D Ds ih=>
  intro w s h;refine⟨by simp, .inl ⟨D,_,rfl,run_takeDeferred (ds:= []) ?_,ih _ ?_ h⟩⟩
  ·obtain⟨hh,hp,hl⟩:=s.get
   exact hl _ _ hp
  rw[qJ];exact St.drop (A:=λ_=>True) (s.W7 λk hk _=>⟨⟨_,hk⟩,trivial⟩)
def yj:List Tmp->FJ->aP->aP
 |t::ts,v::vs,σ=>yj ts vs ((t,v)::σ)
 |_,_,σ=>σ
theorem VG{σ:aP}:∀(ts:List Tmp) (vs:FJ) (a:Act) (σ:aP),(ts.all λt=>Nat.blt t n)=true->Env n ds σ a->Env n ds (yj ts vs σ) {tmps:=(ts.zip vs).foldl (λq (t,v)=>q.setIfInBounds t v) a.tmps,defers:=a.defers}:=by
 intro ts;induction ts with
 |nil=>intro vs a σ _ e;cases vs<;>exact e
 |cons t ts ih=>
  intro vs a σ ht e;cases vs with
  |nil=>exact e
  |cons v vs=>
   simp only[List.all_cons,Bool.and_eq_true]at ht;have:=ih vs (a.put (some t) v) ((t,v)::σ) ht.2 (e.put ht.1 v);simpa[yj,Act.put]using this
def RQ (F:dG)(L:aa)(A:F8)(J:List FJ->F8)(ZR:F8->Prop)(ZX:Nat->F8->Prop)(p:List FJ)(x:FJ):Exit->F9
 | .normal,_,w=>St F (L::(A++J (p++ [x]))) w
 | .ret,_,w=>∃Zs,ZR Zs/\St F (L::(A++Zs)) w
 | .exit id,_,w=>∃Zs,ZX id Zs/\St F (L::(A++Zs)) w
 |_,_,_=>False
theorem AP{L:aa}{A:F8}{J:List FJ->F8}{ZR:F8->Prop}{ZX:Nat->F8->Prop}{p:List FJ}{x:FJ}(hh:∀h,ai H h->ai (L::(A++J (p++ [x]))) h):G n ds F (RQ F L A J ZR ZX p x .normal) σ H:= .mk λa w _ s=>s.sub hh
theorem G3{L:aa}{A:F8}{J:List FJ->F8}{ZR:F8->Prop}{ZX:Nat->F8->Prop}{p:List FJ}{x:FJ}(Zs:F8)(hz:ZR Zs)(hh:∀h,ai H h->ai (L::(A++Zs)) h):G n ds F (RQ F L A J ZR ZX p x .ret) σ H:= .mk λa w _ s=>⟨Zs,hz,s.sub hh⟩
theorem X6{L:aa}{A:F8}{J:List FJ->F8}{ZR:F8->Prop}{ZX:Nat->F8->Prop}{p:List FJ}{x:FJ}{id:Nat}(Zs:F8)(hz:ZX id Zs)(hh:∀h,ai H h->ai (L::(A++Zs)) h):G n ds F (RQ F L A J ZR ZX p x (.exit id)) σ H:= .mk λa w _ s=>⟨Zs,hz,s.sub hh⟩
theorem EP{A B:F8}{X:aa}:List.Perm (X::(A++B)) (A++X::B):=List.perm_middle.symm
theorem x_rf{g:Operand}{ps:List Tmp}{assign body:Code}{gf:FuncId}{fv cv:FJ}{A R:F8}{al:List FJ->FJ->Prop}{fin:List FJ->Prop}(J:List FJ->F8)(ZR:F8->Prop)(ZX:Nat->F8->Prop)(σ1:List FJ->FJ->aP)
  (kH:ay P gf=true) (hg:bo σ g=some (.func (.func gf) fv.toArray cv.toArray)) (lq:ItF P F gf fv cv A al fin) (c9:iA H (A++J []) R) (hlen:∀p x,al p x->x.length=ps.length) (hps:(ps.all λt=>Nat.blt t n)=true)
  (ha:∀(l:Nat) (F':dG) (p:List FJ) (x:FJ) (HH:F8) (K:F9),al p x->G n [] F' K (σ1 p x) HH->G n [] F' (RC (some l) assign P (Exit.then K NoQ)) (yj ps x σ) HH)
  (hb:∀(l:Nat) (F':dG) (p:List FJ) (x:FJ) (L:aa),al p x->Le F.h F'.h->G n [] F' (RC (some l) body P (RQ F' L A J ZR ZX p x)) (σ1 p x) (L::(A++J p)))
  (hn:∀D p,fin p->G n (mark D::ds) F (Q .normal) σ (Ah D::(A++J p)++R)) (hr:∀D Zs,ZR Zs->G n (mark D::ds) F (Q .ret) σ (Ah D::(A++Zs)++R)) (hx:∀id D Zs,ZX id Zs->G n (mark D::ds) F (Q (.exit id)) σ (Ah D::(A++Zs)++R)):
  G n ds F (RC none (Code.rangeFunc g ps.toArray assign body) P Q) σ H:=by
 refine .mk λa w e s=>wpIn_rangeFunc λfn _=> ?_;obtain⟨rec,GH⟩:∃rec:LoopState->Option Code->Loop,rec=λst pe=>{state:=st,pending:=pe,fn,tmps:=a.tmps,params:=ps.toArray,assign,body,defers:=w.heap.size}:=⟨_,rfl⟩;have e0:(Instr.enterLoop fn a.tmps ps.toArray assign body (zN none).round).run P w= .ok (w.heap.size+1,[mark w.heap.size]) ((w.alloc (.deferred (some []))).alloc (.loop (rec .ready none))):=by
  rw[GH];exact run_enterLoop_outer _ _ _ _ _
 have s0:=s.Xb (.deferred (some [])) (Ah w.heap.size) (by simp[Ah]);have wO:(w.alloc (.deferred (some []))).heap.size=w.heap.size+1:=by show(w.heap.push _).size=_;simp
 have s1:=s0.Xb (.loop (rec .ready none)) (lpo (w.heap.size+1) (rec .ready none)) (by simp[lpo,wO]);generalize (w.alloc (.deferred (some []))).alloc (.loop (rec .ready none))=W1 at*;generalize hl:w.heap.size+1=l at*;generalize hD:w.heap.size=D at*;refine⟨l,[mark D],W1,{target:= .fn (.func gf) cv.toArray,args:=fv.toArray++ #[.func (.yield l) #[] #[]]},W1,gf,(fv++ [Value.func (.yield l) #[] #[]]++cv).toArray,W1,e0, ?_, ?_, ?_,λh=>absurd h (by simp[zN,Fence.wide]), ?_⟩
 ·simp only[resolve,e.eval hg,Deferred.ofValue]
  have:∀a:Act,a.eval (.const (.func (.yield l) #[] #[]))= .func (.yield l) #[] #[]:=λ_=>rfl;simp[this]
 ·intro f' _;trivial
 ·unfold ay at kH
  cases hf:P.funcs[gf]? with
  |none=>simp[hf]at kH
  |some fd=>
   simp only[hf,Bool.and_eq_true,Bool.not_eq_true']at kH;have h1:¬fd.name= "runtime.NumGoroutine" :=by simpa using kH.2
   have h2:¬fd.body=none:=by intro q;rw[q]at kH;simp at kH
   simp[invoke,callFunc,hf];rw[if_neg h1,if_neg h2]
 ·
  let J':List FJ->F8:=λp=>lpo l (rec .ready none)::J p
  let Z':F8->Prop:=λZs'=>(∃Zs,ZR Zs/\Zs'=lpo l (rec .done (some .ret))::Zs)\/∃id Zs,ZX id Zs/\Zs'=lpo l (rec .done (some (.exit id)))::Zs
  have aiV:=lq l J' Z' (λp x Pu F' W hle sW=> ?_)
  ·
   have sA:St F ((A++J' [])++(Ah D::R)) W1:=by
    refine s1.sub λh st=> ?_;have q1:ai (lpo l (rec .ready none)::Ah D::((A++J [])++R)) h:=aE (λh' xu=>aE (λh'' st''=>c9.out h'' st'') xu) st;refine cC ?_ h q1;simp only[J',List.append_assoc,List.cons_append];refine(List.Perm.swap _ _ _).trans ?_;refine(List.Perm.cons _ (EP (A:=A) (B:=J []++R))).trans ?_;have:List.Perm (Ah D::(A++lpo l (rec .ready none)::(J []++R))) (A++lpo l (rec .ready none)::(J []++Ah D::R)):=by
     rw[show A++lpo l (rec .ready none)::(J []++R)=(A++lpo l (rec .ready none)::J [])++R from by simp,show A++lpo l (rec .ready none)::(J []++Ah D::R)=(A++lpo l (rec .ready none)::J [])++Ah D::R from by simp];exact List.perm_middle.symm
    exact this
   obtain⟨a1,a2,a3,fr,hh,st,hlH,rr⟩:=sA;obtain⟨h1,h2,d12,l1,l2,q1,q2⟩:=bh st;have vE:bG h2 F.h:=rr.left l2
   let F':dG:={F with h:=fF h2 F.h}
   have gY:Le F.h F'.h:=aJ vE;have gZ:Le h2 F'.h:=aR _ _;have xu:St F' (A++J' []) W1:=⟨a1,a2,a3,bQ (l2.trans hlH) fr,h1,q1,l1.trans hlH,(bG.fF d12.symm (rr.left l1).symm).symm⟩;refine CallsIn.mono (callsIn_wide.2 (aiV F' W1 gY xu)) ?_;rintro e' w' ⟨v,H',rfl,hT,sw⟩;have back:∀{X:F8},St F' X w'->St F (X++Ah D::R) w':=λsX=>by
    obtain⟨b1,b2,b3,ru,zL,st2,zJ,ke⟩:=sX;exact⟨b1,b2,b3,gY.trans ru,fF zL h2,bz st2 q2 (ke.right gZ),bQ zJ (gZ.trans ru),bG.fF (ke.right gY) vE⟩
   have hen:Env n (mark D::ds) σ {a with defers:= [mark D]++a.defers}:=⟨e.size,by simp[e.defers],e.slot⟩;have fl:∀{st:LoopState} {pe:Option Code} {Y:F8},st≠ .busy->H'=A++lpo l (rec st pe)::Y->∃w4,(Instr.endLoop l).run P w'= .ok pe w4/\St F (Ah D::(A++Y)++R) w4:=by
    intro st pe Y fA hH;subst hH;have sb:=back sw;have sp:St F (lpo l (rec st pe)::(Ah D::(A++Y)++R)) w':=sb.sub (cC (by
     have p1:List.Perm ((A++lpo l (rec st pe)::Y)++Ah D::R) (lpo l (rec st pe)::((A++Y)++Ah D::R)):=by
      rw[List.append_assoc,List.cons_append,List.append_assoc];exact List.perm_middle
     exact p1.trans (List.Perm.cons _ (by rw[List.cons_append];exact List.perm_middle))))
    obtain⟨hh,hp,hle⟩:=sp.get;have hw:w'.heap[l]?=some (.loop (rec st pe)):=hle _ _ hp;have zT:=run_endLoop (P:=P) hw (by rw[GH];exact fA);refine⟨_,by rw[zT,GH], ?_⟩;rw[qJ];exact St.drop (A:=λ_=>True) (sp.W7 λk hk _=>⟨⟨_,hk⟩,trivial⟩)
   rcases hT with⟨p,acf,hH⟩|⟨Zs',hz,hH⟩
   ·obtain⟨w4,Gs,s4⟩:=fl (st:= .ready) (pe:=none) (Y:=J p) (by simp) (by rw[hH])
    exact⟨none,w4,Gs,hn D p acf _ _ hen s4⟩
   rcases hz with⟨Zs,hz,rfl⟩|⟨id,Zs,hz,rfl⟩
   ·obtain⟨w4,Gs,s4⟩:=fl (st:= .done) (pe:=some .ret) (Y:=Zs) (by simp) (by rw[hH])
    exact⟨some .ret,w4,Gs,wpIn_ret (hr D Zs hz _ _ hen s4)⟩
   obtain⟨w4,Gs,s4⟩:=fl (st:= .done) (pe:=some (.exit id)) (Y:=Zs) (by simp) (by rw[hH]);exact⟨some (.exit id),w4,Gs,wpIn_exit (hx id D Zs hz _ _ hen s4)⟩
  ·
   have sp:St F' (lpo l (rec .ready none)::(A++J p)) W:=sW.sub (cC List.perm_middle);obtain⟨hh0,WI,hle0⟩:=sp.get;have hwl:W.heap[l]?=some (.loop (rec .ready none)):=hle0 _ _ WI;have hy:=run_yield (P:=P) (args:=x.toArray) hwl (by rw[GH];simp[hlen p x Pu]);rw[GH]at hy;refine⟨fn,_,assign,body,hy,roundIn_of_wpIn (F:=Fence.wide) (n:=0) trivial ?_⟩;have henv:Env n [] (yj ps x σ) {tmps:=(ps.toArray.zip x.toArray).foldl (λtmps (t,a)=>tmps.setIfInBounds t a) a.tmps,defers:= []}:=by
    have:=VG (σ:=σ) ps x {tmps:=a.tmps,defers:= []} σ hps ⟨e.size,rfl,e.slot⟩;simpa using this
   have hq:∀(K':F9),G n [] F' K' (σ1 p x) (lpo l (rec .ready none)::(A++J p))->Code.wpIn (Fence.wide.inRound l) 0 P assign (Exit.then K' NoQ) {tmps:=(ps.toArray.zip x.toArray).foldl (λtmps (t,a)=>tmps.setIfInBounds t a) a.tmps,defers:= []} W:=λK' hK'=>
    (ha l F' p x _ K' Pu hK') _ _ henv sp
   refine hq _ (.mk λa1 w1 en1 st1=> ?_);obtain⟨hh1,ux,LC⟩:=st1.get;have hw1:w1.heap[l]?=some (.loop (rec .ready none)):=LC _ _ ux;refine⟨_,run_beginRound hw1 (by rw[GH]), ?_⟩;have st2:St F' (lpo l {rec .ready none with state:= .busy}::(A++J p)) (w1.putObj l (.loop {rec .ready none with state:= .busy})):=by
    rw[qJ];exact st1.W7 λk hk _=>⟨⟨_,hk⟩,by simp[lpo]⟩
   refine wpIn_mono ((hb l F' p x (lpo l {rec .ready none with state:= .busy}) Pu hle) _ _ en1 st2) ?_;have ack:∀(jump:Option Code) (Y:F8) (W3:World),St F' (lpo l {rec .ready none with state:= .busy}::(A++Y)) W3->
     ∃w4,(Instr.endRound l jump).run P W3= .ok (.bool jump.isNone) w4/\St F' (A++lpo l (rec (if jump.isNone then .ready else .done) jump)::Y) w4:=by
    intro jump Y W3 s3;obtain⟨hh3,hp3,hle3⟩:=s3.get;have hw3:W3.heap[l]?=some (.loop {rec .ready none with state:= .busy}):=hle3 _ _ hp3;have zT:=run_endRound (P:=P) jump hw3;refine⟨_,zT, ?_⟩;rw[qJ];have s4:=s3.W7 (o':= .loop {{rec .ready none with state:= .busy}with state:=if jump.isNone then .ready else .done,pending:=jump}) (B:=lpo l (rec (if jump.isNone then .ready else .done) jump)) λk hk _=>⟨⟨_,hk⟩,by simp[lpo,GH]⟩;exact s4.sub (cC EP)
   rintro ex a3 W3 hp;cases ex with
   |normal=>
    obtain⟨w4,Gs,s4⟩:=ack none _ W3 hp;exact⟨_,w4,Gs,_,_,rfl, .inl ⟨rfl,rfl⟩,s4⟩
   |ret=>
    obtain⟨Zs,hz,hp⟩:=hp;obtain⟨w4,Gs,s4⟩:=ack (some .ret) _ W3 hp;exact⟨_,w4,Gs,_,_,rfl, .inr ⟨rfl,_, .inl ⟨Zs,hz,rfl⟩,rfl⟩,s4⟩
   |exit id=>
    obtain⟨Zs,hz,hp⟩:=hp;obtain⟨w4,Gs,s4⟩:=ack (some (.exit id)) _ W3 hp;exact⟨_,w4,Gs,_,_,rfl, .inr ⟨rfl,_, .inr ⟨id,Zs,hz,rfl⟩,rfl⟩,s4⟩
   |goto t=>exact hp.elim
   |panic ch=>exact hp.elim
   |outgrown=>exact hp.elim
end
end Go.dC
namespace Go.dC
open Go
section
variable {P:Program} {n:Nat} {ds:Dq} {F:dG} {Q:Exit->F9} {K:F9} {σ:aP} {H:F8} {o:Oper} {d:Nat}
end
end Go.dC
namespace Go.dC
open Go Go.MapKept
section
variable {P:Program} {n:Nat} {ds:Dq} {F:dG} {Q:Exit->F9} {K:F9} {σ:aP} {H:F8} {o:Oper} {d:Nat}
end
theorem ad9{n:Nat}{ds:Dq}{F:dG}{K:F9}{σ S:aP}{H:F8}(h:G n ds F K S H)(hs:pH S σ:=by exact Sb):G n ds F K σ H:= .mk λa w e s=>h a w (e.sub hs) s
end Go.dC
namespace Go.dC
open Go
section
variable {P:Program} {n:Nat} {ds:Dq} {F:dG} {Q:Exit->F9} {K:F9} {σ:aP} {H:F8} {ops:Array Oper} {r:FK}
def Ep (Q:Exit->F9):Exit->F9
 | .normal,a,w=>Q .normal a w
 |_,_,_=>False
theorem Ra (Q:Exit->F9):¬LetsOut (Ep Q):=λ⟨_,_,h⟩=>h
theorem adM{o:Oper}{a:Act}{w:World}(h:o.wp P a w K (Ep Q)):o.wp P a w K NoQ:=by
 unfold Oper.wp at*;generalize (execOp a.eval o).run P w=res at*;cases res with
 |ok nx w'=>
  cases nx<;>simp only[Oper.upon]at h⊢<;>first
   |exact h
   |exact h.mono λe w'' he=>by cases e<;>first|exact he|exact he.elim|exact(Ra Q he).elim
 |halt x w'=>cases x<;>simp only[Oper.upon]at h⊢<;>exact h
theorem HS (hn:nds ops=true):∀(fuel:Nat) (listed:Array Bool) (a:Act) (w:World),wpAny P .any ops (Ep Q) fuel listed a w->wpAnyIn (zN r) 0 P .any ops Q fuel listed a w
 |0,_,_,_,h=>⟨h.1,h.2⟩
 |fuel+1,listed,a,w,h=>by
  by_cases hr:Region.ready .any ops listed= []
  ·exact⟨λ_=>h.1 hr,λi hi=>by rw[hr]at hi;cases hi⟩
  obtain⟨i0,hi0⟩:=List.exists_mem_of_ne_nil _ hr;refine zr hn fuel listed a w ⟨i0,hi0⟩ λi hi=> ?_;have h2:=h.2 i hi;unfold wpOp at h2;cases ho:ops[i]? with
  |none=>
   obtain⟨_,o,h1,_⟩:=mem_ready.1 hi;rw[ho]at h1;cases h1
  |some o=>
   refine⟨o,rfl, ?_⟩;simp only[ho]at h2;unfold rJ;split
   ·rename_i hw
    rw[if_pos hw]at h2;rcases h2 with h2|h2
    ·have h3:=adM h2
     refine Oper.wp_mono (λa' w' q=>HS hn fuel _ a' w' q) h3
    exact(Ra Q h2.2).elim
   rename_i hw;rw[if_neg hw]at h2;exact HS hn fuel _ _ _ h2
theorem D1{id:Nat}{As R:F8}(hm:P.follows .mixedOrders=true)(c9:iA H As R)(hn:nds ops=true)
  (h:∀F':dG,Le F.h F'.h->gG As F'.h->z7 F As F'->G n ds F' (wpAnyH P .any ops (Ep Q) (cG F') ops.size (Array.replicate ops.size false)) σ R):G n ds F (RC r (Code.region id ops true) P Q) σ H:=by
 refine .mk λa w e s=> ?_;refine wpIn_region_any hm (HS hn _ _ _ _ (wpAny_of_held (S:=cG {F with h:= ?_}) _ _ _ _ ?_))
 ·exact fF (Classical.choose (bh (c9.out _ (Classical.choose_spec s.own).1))) F.h
 generalize hA:Classical.choose (bh (c9.out _ (Classical.choose_spec s.own).1))=h1;have spec:=Classical.choose_spec (bh (c9.out _ (Classical.choose_spec s.own).1));rw[hA]at spec;obtain⟨h2,d12,l1,l2,s1,s2⟩:=spec;have jb:=(Classical.choose_spec s.own).2;have Bu:bG h1 F.h:=jb.2.left l1;refine h {F with h:=fF h1 F.h} (aJ Bu) (cj s1 (aR _ _)) ?_ a _ e ?_
 ·intro R' w' s'
  obtain⟨b1,b2,b3,fr,hh,st,hl,hd⟩:=s';exact⟨b1,b2,b3,(aJ Bu).trans fr,fF h1 hh,bz s1 st (hd.right (aR _ _)).symm,bQ ((aR _ _).trans fr) hl,bG.fF Bu (hd.right (aJ Bu))⟩
 exact⟨s.os,⟨s.tape.1,Nat.le_succ_of_le s.tape.2⟩,s.output,bQ (l1.trans jb.1) s.frame,h2,s2,l2.trans jb.1,(bG.fF d12 (jb.2.left l2).symm).symm⟩
theorem xTB{id:Nat}{As R:F8}(k:Nat)(hm:P.follows .mixedOrders=true)(c9:iA H As R)
  (h:∀F':dG,Le F.h F'.h->gG As F'.h->z7 F As F'->G n ds F' (TT P ops F' (TT P ops F (Q .normal) ((sG (WY P true ops) ops).drop k)) ((sG (WY P true ops) ops).take k)) σ R) (ok:BC k (WY P true ops) ops=true:=by kernel_rfl) (hn:nds ops=true:=by kernel_rfl):G n ds F (RC r (Code.region id ops true) P Q) σ H:=by
 refine .mk λa w e s=> ?_;obtain⟨a1,a2,a3,fr,hh,st,hl,rr⟩:=s;obtain⟨h1,h2,d12,l1,l2,s1,s2⟩:=bh (c9.out _ st);have Bu:bG h1 F.h:=rr.left l1
 let F':dG:={F with h:=fF h1 F.h}
 have hb:z7 F As F':=by
  intro R' w' s';obtain⟨b1,b2,b3,ru,zL,xu,zJ,hd'⟩:=s';exact⟨b1,b2,b3,(aJ Bu).trans ru,fF h1 zL,bz s1 xu (hd'.right (aR _ _)).symm,bQ ((aR _ _).trans ru) zJ,bG.fF Bu (hd'.right (aJ Bu))⟩
 have s':St F' R {w with drawn:=w.drawn+1}:=⟨a1,⟨a2.1,Nat.le_succ_of_le a2.2⟩,a3,bQ (l1.trans hl) fr,h2,s2,l2.trans hl,(bG.fF d12 (rr.left l2).symm).symm⟩;refine wpIn_region_any hm (JA (k:=k) (fl:=WY P true ops) (S1:=cG F') (S2:=cG F) (WA:=wpAnyIn (zN r) 0 P .any ops Q) (zr hn) (λlisted a w hr hq=>⟨hr,hq⟩) ok ?_ s'.frame);exact(h F' (aJ Bu) (cj s1 (aR _ _)) hb a _ e s').2
theorem fY (h:G n ds F (Q .normal) σ H):G n ds F (Ep Q .normal) σ H:=h
theorem qp{b ty t:Nat}{e:TypeId}{v:Value}{R:F8}{w:World}{a:Act}(en:Env n ds σ a)(st:St F (ag b e [v]::R) w)(hs:cY P ty=true)(ht:look σ t=some (.pointer (some ⟨b,0,none⟩))):
  (asAddr (a.tmps.getD t undef)).run P w= .ok ⟨b,0,none⟩ w/\(loadVar ty ⟨b,0,none⟩).run P w= .ok v w:=by
 obtain⟨h1,hp,hl⟩:=st.get;have hg:a.tmps.getD t undef= .pointer (some ⟨b,0,none⟩):=by simp[en.slot t _ ht]
 have h2:=vi (P:=P) hs (w:=w) (lW hl (fx hp (i:=0) (v:=v) rfl));rw[hg];exact⟨by simp[asAddr],by simpa[Instr.loadAt,Instr.sureAddr]using h2⟩
theorem ku{fn:Func}{T:Dp}{t u s tt tu ts b c d:Nat}{et eu es:TypeId}{x y z:Value}(Ds:FH)(H':F8)(ht:cY P tt=true)(hu:cY P tu=true)(hs:cY P ts=true)(hr:fn.results= #[.cell t tt, .cell u tu, .cell s ts])
  (hR:T (.tuple #[x,y,z]) H') (l1:look σ t=some (.pointer (some ⟨b,0,none⟩)):=by exact rfl) (l2:look σ u=some (.pointer (some ⟨c,0,none⟩)):=by exact rfl) (l3:look σ s=some (.pointer (some ⟨d,0,none⟩)):=by exact rfl)
  (hh:∀h,ai H h->ai (Ds.map Ah++ag b et [x]::ag c eu [y]::ag d es [z]::H') h:=by exact Eh):
  G n (Ds.map mark) F (abm P fn (λe w'=>∃v H',e= .returned v/\T v H'/\St F H' w') .ret) σ H:=
 .mk λa w e st=>by
  show LeavesInM _ _ _ _ _ _ _ _ _;rw[e.defers];refine adU Ds w (st.sub hh) λw' s'=>⟨.tuple #[x,y,z], ?_,_,H',rfl,hR,s'.drop.drop.drop⟩;have e':Env n (Ds.map mark) σ a:=e;obtain⟨a1,a2⟩:=qp (P:=P) e s' ht l1;obtain⟨b1,b2⟩:=qp (P:=P) e s'.drop hu l2;obtain⟨c1,c2⟩:=qp (P:=P) e s'.drop.drop hs l3;simp only[results,hr];simp at a1 b1 c1;simp[a1,a2,b1,b2,c1,c2]
def BH (P:Program)(s f:Nat):Option (Nat×TypeId):=match P.underlying s with
 |some (.struct fs)=>(fs[f]?).map λx=>(x.offset,x.type)
 |_=>none
theorem Fgs{o:Oper}{s f k:Nat}{e:TypeId}{x:Operand}{cs:FJ}{v:Value}(hk:BH P s f=some (k,e))(he:cY P e=true)(ho:o.op= .field s x f:=by exact rfl)(hx:bo σ x=some (.agg cs.toArray):=by exact rfl)(hv:cs[k]?=some v:=by exact rfl):Yv P n ds F σ o v:=λa w en fr=>by
 obtain⟨h1,h2⟩:=qI (w:=w) he;unfold BH at hk;cases hu:P.underlying s with
 |none=>simp[hu]at hk
 |some d=>
  cases d<;>simp[hu]at hk;rename_i fs;obtain⟨y,hf,e1,e2⟩:=hk;subst e1;subst e2;simp[execOp,ho,Instr.field,en.eval hx,run_underlying hu,hf,asAgg,part,h1,h2,hv]
theorem acw{fn:Func}{T:Dp}{t u tt tu b c:Nat}{et eu:TypeId}{x y:Value}(H':F8)(ht:cY P tt=true)(hu:cY P tu=true)(hr:fn.results= #[.cell t tt, .cell u tu])
  (hR:T (.tuple #[x,y]) H') (l1:look σ t=some (.pointer (some ⟨b,0,none⟩)):=by exact rfl) (l2:look σ u=some (.pointer (some ⟨c,0,none⟩)):=by exact rfl)
  (hh:∀h,ai H h->ai (ag b et [x]::ag c eu [y]::H') h:=by exact Eh):
  G n [] F (bodyPost P fn (λe w'=>∃v H',e= .returned v/\T v H'/\St F H' w') .ret) σ H:=
 .mk λa w e st=>⟨e.defers, .tuple #[x,y],by
  have s':=st.sub hh;obtain⟨a1,a2⟩:=qp (P:=P) e s' ht l1;obtain⟨b1,b2⟩:=qp (P:=P) e s'.drop hu l2;simp only[results,hr];simp at a1 b1;simp[a1,a2,b1,b2],_,H',rfl,hR,(st.sub hh).drop.drop⟩
end
end Go.dC
namespace Go.dC
open Go
section
variable {P:Program} {n:Nat} {ds:Dq} {F:dG} {Q:Exit->F9} {K:F9} {σ:aP} {H:F8} {o:Oper} {d:Nat}
def Py (f:FuncId)(args cv:FJ):Deferred:={target:= .fn (.func f) cv.toArray,args:=args.toArray}
theorem oDv{f:FuncId}{x:Operand}{xs:List Operand}{vs cv:FJ}{q8:Array TypeId}(h:G n (Py f vs cv::ds) F K σ H)(ho:o.op= .defer {callee:= .value x,args:=xs.toArray,argTypes:=q8}:=by exact rfl)(hx:bo σ x=some (.func (.func f) #[] cv.toArray):=by exact rfl)(hv:jL σ xs=some vs:=by exact rfl)(hd:o.dst=none:=by exact rfl):
  G n ds F (λa w=>o.wp P a w K Q) σ H:=by
 refine .mk λa w en s=> ?_;have hvs:=en.vP hv;have:(execOp a.eval o).run P w= .ok (.defer (Py f vs cv)) w:=by
  simp[execOp,ho,resolve,Deferred.ofValue,en.eval hx,Py,<-hvs]
 unfold Oper.wp;rw[this,Oper.upon_defer,hd];exact h _ _ ⟨en.size,by simp[Act.put,en.defers],en.slot⟩ s
theorem adT{fn:Func}{f:FuncId}{vs cv:FJ}{pre:Hp->Prop}{As R:F8}{T T':Dp}(hc:FnD P f (vs++cv) pre As T)(c9:iA H As R)(gX:∀h,Le F.h h->gG R h->pre h){a:Act}{w:World}{rv:Value}{H':F8}
  (en:Env n [Py f vs cv] σ a) (s:St F H w) (hr:∀w',(results fn a.tmps).run P w'= .ok rv w') (hT:∀v Hx,T v Hx->T' rv H'/\∀h,ai (Hx++R) h->ai H' h):
  Leaves P fn a.tmps (λe w'=>∃v H',e= .returned v/\T' v H'/\St F H' w') a.defers .returning w:=by
 rw[en.defers];obtain⟨kH,hc⟩:=hc;unfold ay at kH;cases hf:P.funcs[f]? with
 |none=>simp[hf]at kH
 |some fd=>
  simp only[hf,Bool.and_eq_true,Bool.not_eq_true']at kH;refine⟨by simp, .func f,cv.toArray,f,(vs++cv).toArray,rfl, ?_, ?_⟩
  ·have h1:¬fd.name= "runtime.NumGoroutine" :=by simpa using kH.2
   have h2:¬fd.body=none:=by intro q;rw[q]at kH;simp at kH
   simp[Py,invoke,callFunc,hf];rw[if_neg h1,if_neg h2]
  obtain⟨a1,a2,a3,fr,hh,st,hl,rr⟩:=s;obtain⟨h1,h2,d12,l1,l2,s1,s2⟩:=bh (c9.out _ st);have vE:bG h2 F.h:=rr.left l2
  let F':dG:={F with h:=fF h2 F.h}
  have gY:Le F.h F'.h:=aJ vE;have gZ:Le h2 F'.h:=aR _ _;have xu:St F' As w:=⟨a1,a2,a3,bQ (l2.trans hl) fr,h1,s1,l1.trans hl,(bG.fF d12.symm (rr.left l1).symm).symm⟩;refine(hc F' w .returning (gX _ gY (cj s2 gZ)) xu).mono ?_;rintro e u' w' ⟨rfl,v,Hx,rfl,hTx,sw⟩;obtain⟨b1,b2,b3,ru,zL,st2,zJ,ke⟩:=sw;obtain⟨t1,t2⟩:=hT v Hx hTx;refine⟨rv,hr _,rv,H',rfl,t1,⟨b1,b2,b3,gY.trans ru,fF zL h2,t2 _ (bz st2 s2 (ke.right gZ)),bQ zJ (gZ.trans ru),bG.fF (ke.right gY) vE⟩⟩
theorem ahZ{fn:Func}{f:FuncId}{vs cv:FJ}{pre:Hp->Prop}{As R:F8}{T T':Dp}(H':F8)(hrs:fn.results= #[])(hc:FnD P f (vs++cv) pre As T)(c9:iA H As R)(gX:∀h,Le F.h h->gG R h->pre h)
  (hT:∀v Hx,T v Hx->T' (.tuple #[]) H'/\∀h,ai (Hx++R) h->ai H' h):G n [Py f vs cv] F (abl P fn (λe w'=>∃v H',e= .returned v/\T' v H'/\St F H' w') .normal) σ H:=
 .mk λa w en s=>adT hc c9 gX en s (λw'=>results_none hrs _ _ _) hT
theorem Dr{t u e:TypeId}{x:Operand}{l:FI}(hs:P.underlying t=some .string)(hu:P.underlying u=some (.slice e))(he:P.underlying e=some (.int .u8))(h:∀b c,l.length<=c->G n ds F K ((d, .slice (some ⟨b,0,none⟩) l.length c)::σ) (own (some ⟨b,0,none⟩) c e 1 (aj l)::H))
  (ho:o.op= .convert t u x:=by exact rfl) (hx:bo σ x=some (a8 l):=by exact rfl) (hd:o.dst=some d:=by exact rfl) (hdn:Nat.blt d n=true:=by exact rfl) (hl:l.length<=9223372036854775807:=by omega):G n ds F (λa w=>o.wp P a w K Q) σ H:=by
 refine .mk λa w en s=> ?_;have zT:=run_bytes_of_string (P:=P) w t u e ⟨l.toArray⟩ hs hu he;have wO:(⟨l.toArray⟩:ByteArray).size=l.length:=by simp[ByteArray.size]
 rw[wO]at zT;have Lb:=grownCap_ge w l.length 0 e;have hle:=grownCap_le_maxLen w l.length 0 e (by simp only[maxLen];omega);generalize grownCap w l.length 0 e=c at*;unfold Oper.wp;have h2:(execOp a.eval o).run P w= .ok (.value (.slice (some ⟨w.heap.size,0,none⟩) l.length c)) (w.drew.alloc (.cells (bytesRow ⟨l.toArray⟩ c) e ((bytesRow ⟨l.toArray⟩ c).size,(bytesRow ⟨l.toArray⟩ c).size+1))):=by
  simp only[execOp,ho,en.eval hx,a8,Sem.run_bind,zT];rfl
 rw[h2,Oper.upon_value,hd];refine h _ _ Lb _ _ (en.put hdn _) ?_;have wG:(bytesRow ⟨l.toArray⟩ c).toList=aj l++List.replicate (c-l.length) (.int .u8 0):=by
  unfold bytesRow aj;rw[wO];simp
 refine(s.drawn (w.drawn+1)).Xb _ _ ?_;have hlen:(aj l++List.replicate (c-l.length) (Value.int .u8 0)).length=c:=by
  unfold aj;rw[List.length_append,List.length_map,List.length_replicate];omega
 have p:ag w.heap.size e (aj l++List.replicate (c-l.length) (.int .u8 0)) λx=>if x=w.heap.size then some (.cells (bytesRow ⟨l.toArray⟩ c) e ((bytesRow ⟨l.toArray⟩ c).size,(bytesRow ⟨l.toArray⟩ c).size+1))else none:=by
  refine .mk _ _ (.inr ?_) (by
   rw[if_pos rfl,<-wG,Array.toArray_toList])
  rw[<-wG];simp
 have q:=yE (oI p c 1 (by rw[hlen,Nat.mul_one]) hle) l.length;have e1:(aj l++List.replicate (c-l.length) (Value.int .u8 0)).take l.length=aj l:=by
  have:(aj l).length=l.length:=List.length_map _;rw[<-this,List.take_left]
 rw[e1]at q;exact q
theorem oTs{s t e e':TypeId}{x:Operand}{a:FL}{l:FI}{m c cap sz:Nat}{R:F8}(hs:dV P s=some (e,sz))(he:P.underlying e=some (.int .u8))(ht:P.underlying t=some .string)(h:G n ds F K ((d,a8 l)::σ) H)
  (ho:o.op= .convert s t x:=by exact rfl) (hx:bo σ x=some (.slice a m c):=by exact rfl) (c9:fP H (own a cap e' 1 (aj l)) R:=by repeat (first|exact fP.here|apply fP.there)) (hd:o.dst=some d:=by exact rfl) (hdn:Nat.blt d n=true:=by exact rfl) (hm:m=l.length:=by first|rfl|omega):
  G n ds F (λa w=>o.wp P a w K Q) σ H:=
 rY hd hdn (λac w en st=>by
  obtain⟨h1,hp,hl⟩:=(st.uv c9).get;subst hm;have hr':=uf (P:=P) (c:=c) ((oo hp).mono hl);have:=run_underlying (P:=P) (kD hs).1 w;cases a with
  |none=>simp[execOp,ho,en.eval hx,convert,this,run_underlying ht,run_underlying he,hr']
  |some ad=>simp[execOp,ho,en.eval hx,convert,this,run_underlying ht,run_underlying he,hr']) h
end
end Go.dC
namespace Go.dC
open Go
section
variable {P:Program} {n:Nat} {ds:Dq} {F:dG} {Q:Exit->F9} {K:F9} {σ:aP} {H:F8} {o:Oper} {d:Nat}
def pe (v:Value):PanicEntry:={v:=v,recovered:=false}
def PoP (F:dG)(R T:Dp)(e:Ending)(w:World):Prop:=∃v H',(e= .returned v/\R v H'\/e= .panicked [pe v]/\T v H')/\St F H' w
def W5 (P:Program)(f:FuncId)(args:FJ)(pre:Hp->Prop)(H:F8)(R T:Dp):Prop:=
 ∀F w,pre F.h->St F H w->Calls P f args.toArray w (PoP F R T)
theorem lX{f:FuncId}{fn:Func}{c:Code}{args:FJ}{pre:Hp->Prop}{R T:Dp}{m:Nat}(hf:P.funcs[f]?=some fn)(hb:fn.body=some c)(hm:fn.ntmps=m)(hn:Nat.ble args.length m=true)
  (h:∀F:dG,pre F.h->G m [] F (c.wp P (bodyPost P fn (PoP F R T))) (jM 0 args) H):W5 P f args pre H R T:=
 λF w hp s=>calls_of_wp hf hb (by
  subst hm;exact h F hp _ _ (DY args _ (Nat.le_of_ble_eq_true hn)) s)
theorem pR{fn:Func}{R T:Dp}(h:G n ds F (bodyPost P fn (λe w'=>∃v H',e= .returned v/\R v H'/\St F H' w') .ret) σ H):G n ds F (bodyPost P fn (PoP F R T) .ret) σ H:=
 .mk λa w e s=>by
  obtain⟨h1,v,h2,v',H',q,r,s'⟩:=h a w e s;exact⟨h1,v,h2,v',H', .inl ⟨q,r⟩,s'⟩
theorem pN{fn:Func}{R T:Dp}(h:G n ds F (bodyPost P fn (λe w'=>∃v H',e= .returned v/\R v H'/\St F H' w') .normal) σ H):G n ds F (bodyPost P fn (PoP F R T) .normal) σ H:=
 .mk λa w e s=>by
  obtain⟨h1,v,h2,v',H',q,r,s'⟩:=h a w e s;exact⟨h1,v,h2,v',H', .inl ⟨q,r⟩,s'⟩
theorem pP{R T:Dp}{v:Value}(H':F8)(hT:T v H')(hh:∀h,ai H h->ai H' h:=by exact Eh):G n [] F (λa w=>a.defers= []/\PoP F R T (.panicked [pe v]) w) σ H:=
 .mk λa w e s=>⟨e.defers,v,H', .inr ⟨rfl,hT⟩,s.sub hh⟩
theorem Wc{t:TypeId}{x:Operand}{v:Value}(h:G n ds F (Q (.panic [pe (.iface t v)])) σ H)(ho:o.op= .panic x:=by exact rfl)(hx:bo σ x=some (.iface t v):=by exact rfl):G n ds F (λa w=>o.wp P a w K Q) σ H:=by
 refine .mk λa w en s=> ?_;have h2:(execOp a.eval o).run P w= .halt (.panic (.iface t v)) w:=by
  simp only[execOp,ho,en.eval hx,Sem.run_bind,run_panic_iface];rfl
 unfold Oper.wp;rw[h2,Oper.upon_panic];exact h a w en s
theorem PJ{f:FuncId}{xs:List Operand}{vs:FJ}{q8:Array TypeId}{pre:Hp->Prop}{A2 R:F8}{Tr Tp:Dp}(kH:ay P f=true)(ho:o.op= .call {callee:= .value (.func f),args:=xs.toArray,argTypes:=q8})(hv:jL σ xs=some vs)(hc:W5 P f vs pre A2 Tr Tp)(c9:iA H A2 R)(gX:∀h,Le F.h h->gG R h->pre h)
  (hp:∀v H',Tp v H'->G n ds F (Q (.panic [pe v])) σ (H'++R)) (h:∀v H',Tr v H'->G n ds F K ((d,v)::σ) (H'++R)) (hd:o.dst=some d:=by exact rfl) (hdn:Nat.blt d n=true:=by exact rfl):
  G n ds F (λa w=>o.wp P a w K Q) σ H:=by
 refine .mk λa w en s=> ?_;unfold ay at kH;cases hf:P.funcs[f]? with
 |none=>simp[hf]at kH
 |some fn=>
  simp only[hf,Bool.and_eq_true,Bool.not_eq_true']at kH;unfold Oper.wp;rw[EJ ho rfl (en.vP hv) hf kH.1 kH.2,Oper.upon_enter];obtain⟨a1,a2,a3,fr,hh,st,hl,rr⟩:=s;obtain⟨h1,h2,d12,l1,l2,s1,s2⟩:=bh (c9.out _ st);have vE:bG h2 F.h:=rr.left l2
  let F':dG:={F with h:=fF h2 F.h}
  have gY:Le F.h F'.h:=aJ vE;have gZ:Le h2 F'.h:=aR _ _;have xu:St F' A2 w:=⟨a1,a2,a3,bQ (l2.trans hl) fr,h1,s1,l1.trans hl,(bG.fF d12.symm (rr.left l1).symm).symm⟩;refine(hc F' w (gX _ gY (cj s2 gZ)) xu).mono ?_;rintro e w' ⟨v,H',q,sw⟩;obtain⟨b1,b2,b3,ru,zL,st2,zJ,ke⟩:=sw;have sF:St F (H'++R) w':=⟨b1,b2,b3,gY.trans ru,fF zL h2,bz st2 s2 (ke.right gZ),bQ zJ (gZ.trans ru),bG.fF (ke.right gY) vE⟩;rcases q with⟨rfl,hT⟩|⟨rfl,hT⟩
  ·rw[hd]
   exact h v H' hT _ _ (en.put hdn v) sF
  exact hp v H' hT _ _ en sF
theorem UY{f:FuncId}{fn:Func}{c:Code}{args:FJ}{pre:Hp->Prop}{R:Dp}{m:Nat}(hf:P.funcs[f]?=some fn)(hb:fn.body=some c)(hm:fn.ntmps=m)(hn:Nat.ble args.length m=true)
  (h:∀F:dG,pre F.h->G m [] F (c.wp P (bodyPostD P fn λe w'=>∃v H',e= .returned v/\R v H'/\St F H' w')) (jM 0 args) H):aG P f args pre H R:=
 λF w hp s=>calls_of_wp_defers hf hb (by
  subst hm;exact h F hp _ _ (DY args _ (Nat.le_of_ble_eq_true hn)) s)
def LK (P:Program)(f:FuncId)(args:FJ)(u u':FrameMode)(pre:Hp->Prop)(H:F8)(R:Dp):Prop:=
 ay P f=true/\∀F w,pre F.h->St F H w->CallsD P f args.toArray u w λe x w'=>x=u'/\∃v H',e= .returned v/\R v H'/\St F H' w'
theorem Rn{fn:Func}{f:FuncId}{vs cv:FJ}{u u':FrameMode}{pre:Hp->Prop}{As R:F8}{T T':Dp}{t ty b i k:Nat}{e:TypeId}(H':F8)(hs:cP P ty=some k)(hr:fn.results= #[.cell t ty])(ht:look σ t=some (.pointer (some ⟨b,i,none⟩)))(hc:LK P f (vs++cv) u u' pre As T)(hu:u≠ .run)(hu':settle u'= .returning)(c9:iA H As R)(gX:∀h,Le F.h h->gG R h->pre h){a:Act}{w:World}
  (en:Env n [Py f vs cv] σ a) (s:St F H w) (hT:∀v Hx,T v Hx->∃cs ws R',fP (Hx++R) (ag b e cs) R'/\(cs.drop i).take k=ws/\ws.length=k/\T' (.agg ws.toArray) H'/\∀h,ai (Hx++R) h->ai H' h):
  Leaves P fn a.tmps (λe w'=>∃v H',e= .returned v/\T' v H'/\St F H' w') a.defers u w:=by
 have PX:=en;rw[en.defers];obtain⟨kH,hc⟩:=hc;unfold ay at kH;cases hf:P.funcs[f]? with
 |none=>simp[hf]at kH
 |some fd=>
  simp only[hf,Bool.and_eq_true,Bool.not_eq_true']at kH;refine⟨hu, .func f,cv.toArray,f,(vs++cv).toArray,rfl, ?_, ?_⟩
  ·have h1:¬fd.name= "runtime.NumGoroutine" :=by simpa using kH.2
   have h2:¬fd.body=none:=by intro q;rw[q]at kH;simp at kH
   simp[Py,invoke,callFunc,hf];rw[if_neg h1,if_neg h2]
  obtain⟨a1,a2,a3,fr,hh,st,hl,rr⟩:=s;obtain⟨h1,h2,d12,l1,l2,s1,s2⟩:=bh (c9.out _ st);have vE:bG h2 F.h:=rr.left l2
  let F':dG:={F with h:=fF h2 F.h}
  have gY:Le F.h F'.h:=aJ vE;have gZ:Le h2 F'.h:=aR _ _;have xu:St F' As w:=⟨a1,a2,a3,bQ (l2.trans hl) fr,h1,s1,l1.trans hl,(bG.fF d12.symm (rr.left l1).symm).symm⟩;refine(hc F' w (gX _ gY (cj s2 gZ)) xu).mono ?_;rintro e1 x w' ⟨rfl,v,Hx,rfl,hTx,sw⟩;obtain⟨b1,b2,b3,ru,zL,st2,zJ,ke⟩:=sw;have sF:St F (Hx++R) w':=⟨b1,b2,b3,gY.trans ru,fF zL h2,bz st2 s2 (ke.right gZ),bQ zJ (gZ.trans ru),bG.fF (ke.right gY) vE⟩;obtain⟨cs,ws,R',hse,hv,hk,t1,t2⟩:=hT v Hx hTx;obtain⟨g1,g2⟩:=yR (P:=P) PX sF ht hs hse hv hk;show Leaves P fn a.tmps _ [] (settle x) w';rw[hu'];refine⟨.agg ws.toArray, ?_,_,H',rfl,t1,sF.sub t2⟩;simp only[results,hr];simp at g1;simp[g1,g2]
theorem RrC{fn:Func}{f:FuncId}{vs cv:FJ}{pre:Hp->Prop}{As R:F8}{T T':Dp}{t ty b i k:Nat}{e:TypeId}(H':F8)(hs:cP P ty=some k)(hr:fn.results= #[.cell t ty])(hc:LK P f (vs++cv) .returning .returning pre As T)(c9:iA H As R)(gX:∀h,Le F.h h->gG R h->pre h)
  (hT:∀v Hx,T v Hx->∃cs ws R',fP (Hx++R) (ag b e cs) R'/\(cs.drop i).take k=ws/\ws.length=k/\T' (.agg ws.toArray) H'/\∀h,ai (Hx++R) h->ai H' h) (ht:look σ t=some (.pointer (some ⟨b,i,none⟩)):=by exact rfl):
  G n [Py f vs cv] F (bodyPostD P fn (λe w'=>∃v H',e= .returned v/\T' v H'/\St F H' w') .ret) σ H:=
 .mk λ_ _ en s=>Rn H' hs hr ht hc (by simp) rfl c9 gX en s hT
theorem RpC{fn:Func}{f:FuncId}{vs cv:FJ}{pre:Hp->Prop}{As R:F8}{T T':Dp}{t ty b i k:Nat}{e:TypeId}{x:Value}(H':F8)(hs:cP P ty=some k)(hr:fn.results= #[.cell t ty])(hc:LK P f (vs++cv) (.panicking [pe x]) (.panicking [{v:=x,recovered:=true}]) pre As T)(c9:iA H As R)(gX:∀h,Le F.h h->gG R h->pre h)
  (hT:∀v Hx,T v Hx->∃cs ws R',fP (Hx++R) (ag b e cs) R'/\(cs.drop i).take k=ws/\ws.length=k/\T' (.agg ws.toArray) H'/\∀h,ai (Hx++R) h->ai H' h) (ht:look σ t=some (.pointer (some ⟨b,i,none⟩)):=by exact rfl):
  G n [Py f vs cv] F (bodyPostD P fn (λe w'=>∃v H',e= .returned v/\T' v H'/\St F H' w') (.panic [pe x])) σ H:=
 .mk λ_ _ en s=>Rn H' hs hr ht hc (by simp) rfl c9 gX en s hT
theorem adw{ops:Array Oper}{i:Nat}{rest:FH}{o:Oper}{a:Act}{cs:List Frame}{w w':World}{v:Value}{Q:Exit->Act->List Frame->World->Prop}(ho:ops[i]?=some o)(hg:o.guard=none)(hr:(execOp a.eval o).run P w= .ok (.value v) w')(h:wpOpsS P ops Q rest (a.put o.dst v) cs w'):wpOpsS P ops Q (i::rest) a cs w:=by
 simp only[wpOpsS,ho,Region.wanted,hg,if_true,hr];exact h
theorem adx{ops:Array Oper}{i:Nat}{rest:FH}{o:Oper}{a:Act}{cs cs':List Frame}{w w':World}{v:Value}{Q:Exit->Act->List Frame->World->Prop}(ho:ops[i]?=some o)(hg:o.guard=none)(hr:(execOp a.eval o).run P w= .ok .recover w')
  (hc:recoverD cs=some (v,cs')\/recoverD cs=none/\v= .nilIface/\cs'=cs) (h:wpOpsS P ops Q rest (a.put o.dst v) cs' w'):wpOpsS P ops Q (i::rest) a cs w:=by
 simp only[wpOpsS,ho,Region.wanted,hg,if_true,hr];rcases hc with hc|⟨hc,rfl,rfl⟩
 ·rw[hc];exact h
 rw[hc];exact h
theorem Rz{f:FuncId}{fn:Func}{rest:Code}{args:FJ}{pre:Hp->Prop}{R:Dp}{m id t1 t2:Nat}{o1 o2:Oper}{q8:Array TypeId}{u u':FrameMode}{rv:Value}(hi:ay P f=true)(hf:P.funcs[f]?=some fn)(hb:fn.body=some (.seq (.region id #[o1,o2] false) rest))(hm:fn.ntmps=m)(hn:Nat.ble args.length m=true)
  (h1:o1.op= .call {callee:= .builtin .recover,args:= #[],argTypes:=q8}) (g1:o1.guard=none) (d1:o1.dst=some t1) (h2:o2.op= .assign (.tmp t1)) (g2:o2.guard=none) (d2:o2.dst=some t2) (Wj:Nat.blt t1 m=true) (oV:Nat.blt t2 m=true)
  (hu:(u= .returning/\rv= .nilIface/\u'= .returning)\/(u= .panicking [pe rv]/\u'= .panicking [{v:=rv,recovered:=true}]))
  (h:∀F:dG,pre F.h->G m [] F (rest.wp P (bodyPost P fn λe w'=>∃v H',e= .returned v/\R v H'/\St F H' w')) ((t2,rv)::(t1,rv)::jM 0 args) H):LK P f args u u' pre H R:=by
 refine⟨hi,λF w hp s=>callsD_of_wpS hf hb λc₀ cs hc0=> ?_⟩;subst hm;have en:=DY args _ (Nat.le_of_ble_eq_true hn);refine wpS_seq (wpS_region ?_);have r1:(execOp (Act.eval {tmps:=args.toArray++Array.replicate (fn.ntmps-args.toArray.size) undef,defers:= []}) o1).run P w= .ok .recover w:=by
  simp only[execOp,h1];rfl
 have hc:recoverD (c₀::cs)=some (rv,{c₀ with mode:=u'}::cs)\/recoverD (c₀::cs)=none/\rv= .nilIface/\{c₀ with mode:=u'}::cs=c₀::cs:=by
  rcases hu with⟨e1,e2,e3⟩|⟨e1,e2⟩
  ·refine .inr ⟨?_,e2, ?_⟩
   ·unfold recoverD
    dsimp only;rw[hc0,e1]
   rw[e3,<-e1,<-hc0]
  refine .inl ?_;unfold recoverD;dsimp only;rw[hc0,e1,e2];rfl
 have en1:=en.put Wj rv;have en2:=en1.put oV rv;refine adx (o:=o1) rfl g1 r1 hc ?_;rw[d1];refine adw (o:=o2) (v:=rv) rfl g2 (w':=w) ?_ ?_
 ·simp only[execOp,h2,en1.eval (x:= .tmp t1) (v:=rv) (by simp[bo,look])]
  rfl
 rw[d2];refine wpS_of_wp ?_;refine wp_mono (h F hp _ _ en2 s) λx a' w' q=> ?_;cases x with
 |normal=>obtain⟨q1,v,q2,q3⟩:=q;exact⟨q1,u',rfl,v,q2,rfl,q3⟩
 |ret=>obtain⟨q1,v,q2,q3⟩:=q;exact⟨q1,u',rfl,v,q2,rfl,q3⟩
 |panic ch=>obtain⟨_,v,H',q3,_⟩:=q;cases q3
 |exit id=>exact q.elim
 |goto l=>exact q.elim
 |outgrown=>obtain⟨v,H',q3,_⟩:=q;cases q3
end
end Go.dC
namespace Go.dC
open Go
class Cells (A:aa)(b:outParam Nat)(cs:outParam FJ):Prop where
 get:∀h,A h->∀(i:Nat) (v:Value),cs[i]?=some v->eJ h ⟨b,i,none⟩=some v
class oe (H:F8)(b:Nat)(cs:outParam FJ):Prop where
 get:∀h,gG H h->∀(i:Nat) (v:Value),cs[i]?=some v->eJ h ⟨b,i,none⟩=some v
instance oe.here{A:aa}{R:F8}{b:Nat}{cs:FJ}[c:Cells A b cs]:oe (A::R) b cs:=
 ⟨λ_ ak i v e=>by obtain⟨⟨k,a,l⟩,_⟩:=ak;exact cU l (c.get k a i v e)⟩
instance oe.there{A:aa}{R:F8}{b:Nat}{cs:FJ}[c:oe R b cs]:oe (A::R) b cs:=
 ⟨λh ak i v e=>c.get h ak.2 i v e⟩
class rV (A:aa)(b i:Nat)(v:Value)(A':outParam aa):Prop where
 cut:∀h,A h->∃e cs R,i<cs.length/\ai (ag b e cs::R) h/\∀k,ai (ag b e (cs.set i v)::R) k->A' k
class GO (H:F8)(b i:Nat)(v:Value)(H':outParam F8):Prop where
 cut:∀h,ai H h->∃e cs R,i<cs.length/\ai (ag b e cs::R) h/\∀k,ai (ag b e (cs.set i v)::R) k->ai H' k
theorem AI{A:aa}{h:Hp}(a:A h):ai [A] h:=⟨h,λ_=>none,λ_=> .inr rfl,Le.refl h,λb o e=>by simp at e,a,trivial⟩
theorem qK{A B:aa}{R:F8}{h1 h2 h:Hp}(d:bG h1 h2)(l1:Le h1 h)(l2:Le h2 h){X:F8}(x:ai X h1)(r:ai R h2):ai (X++R) h:=eU (bz x r d) (bQ l1 l2)
instance GO.here{A A':aa}{R:F8}{b i:Nat}{v:Value}[c:rV A b i v A']:GO (A::R) b i v (A'::R):=
 ⟨λh s=>by
  obtain⟨h1,h2,d,l1,l2,a,s⟩:=s;obtain⟨e,cs,R0,hi,s1,back⟩:=c.cut h1 a;refine⟨e,cs,R0++R,hi,qK (A:=A) (B:=A) d l1 l2 s1 s,λk sk=> ?_⟩;obtain⟨k1,k2,d',m1,m2,t1,t2⟩:=bh (A:=ag b e (cs.set i v)::R0) sk;exact⟨k1,k2,d',m1,m2,back k1 t1,t2⟩⟩
instance GO.there{A:aa}{R R':F8}{b i:Nat}{v:Value}[c:GO R b i v R']:GO (A::R) b i v (A::R'):=
 ⟨λh s=>by
  obtain⟨h1,h2,d,l1,l2,a,s⟩:=s;obtain⟨e,cs,R0,hi,s1,back⟩:=c.cut h2 s;exact⟨e,cs,A::R0,hi,dy ⟨h1,h2,d,l1,l2,a,s1⟩,λk sk=>aE (R:=ag b e (cs.set i v)::R0) back (dy sk)⟩⟩
section
variable {P:Program} {n:Nat} {ds:Dq} {F:dG} {Q:Exit->F9} {K:F9} {σ:aP} {H:F8} {o:Oper} {d:Nat}
theorem oLc{t:TypeId}{x:Operand}{b i:Nat}{cs:FJ}{v:Value}(hs:cY P t=true)(h:G n ds F K ((d,v)::σ) H)(ho:o.op= .load t x:=by exact rfl)(hd:o.dst=some d:=by exact rfl)(hx:bo σ x=some (.pointer (some ⟨b,i,none⟩)):=by exact rfl)
  (c:oe H b cs:=by infer_instance) (hv:cs[i]?=some v:=by exact rfl) (hdn:Nat.blt d n=true:=by exact rfl):G n ds F (λa w=>o.wp P a w K Q) σ H:=
 ET hs ho hd hx (λw s=>by obtain⟨hh,st,le,_⟩:=s.own;exact c.get _ (cj st le) i v hv) hdn h
theorem oLcN{t k:TypeId}{x:Operand}{b i:Nat}{cs vs:FJ}(hs:cP P t=some k)(h:G n ds F K ((d, .agg vs.toArray)::σ) H)(ho:o.op= .load t x:=by exact rfl)(hd:o.dst=some d:=by exact rfl)(hx:bo σ x=some (.pointer (some ⟨b,i,none⟩)):=by exact rfl)
  (c:oe H b cs:=by infer_instance) (hv:(cs.drop i).take k=vs:=by exact rfl) (hl:vs.length=k:=by exact rfl) (hdn:Nat.blt d n=true:=by exact rfl):G n ds F (λa w=>o.wp P a w K Q) σ H:=
 AU hs ho hd hx ⟨_,rfl,λh _ ak j v hj=>by rw[add_lit];exact c.get h ak _ v (qf hv hj)⟩ hl hdn h
theorem oSc{t:TypeId}{x y:Operand}{b i:Nat}{v:Value}{H':F8}(hs:cY P t=true)(h:G n ds F K σ H')(ho:o.op= .store t x y:=by exact rfl)(hd:o.dst=none:=by exact rfl)(hx:bo σ x=some (.pointer (some ⟨b,i,none⟩)):=by exact rfl)(hy:bo σ y=some v:=by exact rfl)
  (c:GO H b i v H':=by infer_instance) (h1:v.oneCell'=true:=by first|rfl|decide|simp):G n ds F (λa w=>o.wp P a w K Q) σ H:=
 .mk λa w en s=>by
  obtain⟨a1,a2,a3,fr,hh,st,l,dj⟩:=s;obtain⟨e,cs,R,hi,s1,back⟩:=c.cut hh st;exact(ES hs ho hd hx hy h1 .here hi (au back h)) a w en ⟨a1,a2,a3,fr,hh,s1,l,dj⟩
theorem Bw{t:TypeId}{x:Operand}{A:aa}{b i:Nat}{cs:FJ}{v:Value}(hs:cY P t=true)(hq:∃k,A k/\Le k F.h)(ho:o.op= .load t x:=by exact rfl)(hx:bo σ x=some (.pointer (some ⟨b,i,none⟩)):=by exact rfl)
  (c:Cells A b cs:=by infer_instance) (hv:cs[i]?=some v:=by exact rfl):Yv P n ds F σ o v:=
 Jy hs ho hx (by obtain⟨k,a,l⟩:=hq;exact cU l (c.get k a i v hv))
theorem SlA{t e sz k b i j:Nat}{x:Operand}{lo hi mx:Option Operand}(l hh m:Nat)(ht:Bv P t=some (k,e,sz))(ho:o.op= .slice t x lo hi mx:=by exact rfl)(hx:bo σ x=some (.pointer (some ⟨b,i,none⟩)):=by exact rfl)
  (WO:DM σ lo 0 l:=by first|exact rfl|exact⟨_,_,rfl,rfl⟩|exact⟨_,_,rfl,by omega⟩) (hbh:DM σ hi k hh:=by first|exact rfl|exact⟨_,_,rfl,rfl⟩|exact⟨_,_,rfl,by omega⟩) (hbm:DM σ mx k m:=by first|exact rfl|exact⟨_,_,rfl,rfl⟩|exact⟨_,_,rfl,by omega⟩)
  (h1:l<=hh:=by omega) (h2:hh<=m:=by omega) (h3:m<=k:=by omega) (hlm:l<m:=by omega) (hj:l*sz=j:=by first|exact Nat.mul_one _|rfl) (Gu:mx.isSome=true->hi.isSome=true:=by simp):Yv P n ds F σ o (.slice (some ⟨b,i+j,none⟩) (hh-l) (m-l)):=
 λac w en fr=>by
  unfold Bv at ht;cases hu:P.underlying t with
  |none=>simp[hu]at ht
  |some dsc=>
   cases dsc<;>simp[hu]at ht;rename_i k' e';cases xz:P.info? e' with
   |none=>simp[xz]at ht
   |some inf=>
    simp[xz]at ht;obtain⟨rfl,rfl,rfl⟩:=ht;subst hj;have hr:=y9 (P:=P) (w:=w) en WO hbh hbm h1 h2 h3 Gu false;have:m≠l:=by omega
    simp[execOp,ho,Instr.sliceAt,en.eval hx,run_underlying hu,hr,sizeOf,typeInfo,xz,add_lit,Instr.sureAddr,this]
end
end Go.dC
namespace Go.dC
open Go
section
variable {P:Program} {n:Nat} {ds:Dq} {F:dG} {Q:Exit->F9} {K:F9} {σ:aP} {H:F8}
theorem Zi{c:Code}(h:G n ds F (c.wp P (Exit.noGoto Q)) σ H):G n ds F ((Code.scope c).wp P Q) σ H:= .mk λa w e s=>wp_scope_straight (h a w e s)
theorem Zk{l:Nat}(h:G n ds F (Q .normal) σ H):G n ds F ((Code.label l).wp P Q) σ H:= .mk λa w e s=>wp_label (h a w e s)
theorem wj (h:G n ds F (Q .ret) σ H):G n ds F (Exit.noGoto Q .ret) σ H:=h
end
end Go.dC
