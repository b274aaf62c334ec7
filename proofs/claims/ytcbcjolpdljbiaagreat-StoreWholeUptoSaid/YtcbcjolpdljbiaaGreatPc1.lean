/- Part Pc1 of the proof. -/
import Derived.Test.YtcbcjolpdljbiaaGreatPb1
import Derived.Test.YtcbcjolpdljbiaaGreatPc
import Derived.Laws.IdiomStrings
import Derived.OrdersIn
import Derived.RangeFuncLeaves
import Derived.RangeFuncRecord
import Derived.Recover
import Derived.Scope
import Derived.TacticsIn
import Derived.WalkSmall
set_option maxRecDepth 100000
namespace Go.dG
open Go
theorem xR{α:Type}{f:α->aa}{L:List α}{h:Hp}(o:∃k,aG (L.map f) k/\Le k h){a:α}(ha:a∈L):∃k,f a k/\Le k h:=by
 obtain⟨k,p,l⟩:=o;exact Lm (f:=f) (X:=λa k=>∃j,f a j/\Le j k) (λa k p=>⟨k,p,Le.refl _⟩) (λa k m ⟨j,p,l⟩ lm=>⟨j,p,l.trans lm⟩) L h (by exact eL p l) a ha
theorem E3{A B:List aa}(p:List.Perm A B):∀h,ai A h->ai B h:=by
 induction p with
 |nil=>exact λ_ x=>x
 |cons _ _ ih=>exact λ_ x=>aK ih x
 |swap _ _ _=>exact λ_ x=>dx x
 |trans _ _ i1 i2=>exact λh x=>i2 h (i1 h x)
theorem oO{A B:List aa}(p:List.Perm A B){H:List aa}{h:Hp}(s:ai (aG A::H) h):ai (aG B::H) h:=bB (λk q=>E3 p k q) s
section
variable {P:Program} {n:Nat} {ds:List Deferred} {F:dC} {σ:aZ} {H:List aa}
theorem Gi{fn:Func}{T:Value->List aa->Prop}{t ty b i k u:Nat}{x:Value}{e:TypeId}{cs vs:List Value}{R:List aa}(H':List aa)(hs:cG P ty=some k)(hr:fn.results= #[.cell t ty, .tmp u])(hR:T (.tuple #[.agg vs.toArray,x]) H')(ht:look σ t=some (.pointer (some ⟨b,i,none⟩)):=by exact rfl)
  (hx:look σ u=some x:=by exact rfl) (de:fD H (af b e cs) R:=by repeat (first|exact fD.here|apply fD.there)) (hv:(cs.drop i).take k=vs:=by exact rfl) (hk:vs.length=k:=by exact rfl) (hh:∀h,ai H h->ai H' h:=by exact Eh):
  G n [] F (bodyPost P fn (λe w'=>∃v H',e= .returned v/\T v H'/\St F H' w') .ret) σ H:=
 .mk λa w en s=>⟨en.defers,_,by
  obtain⟨h1,h4⟩:=tS (P:=P) en s ht hs de hv hk;have h2:a.tmps.getD u undef=x:=by simp[en.slot u x hx]
  simp only[results,hr];simp at h1 h2;simp[h1,h2,h4],_,H',rfl,hR,s.sub hh⟩
end
section
open Go.MapKept
variable {P:Program} {n:Nat} {ds:List Deferred} {F:dC} {Q:Exit->Act->World->Prop} {K:Act->World->Prop} {σ:aZ} {H:List aa} {o:Oper} {d:Nat}
end
section
variable {α:Type} {f:α->List Value} {k:Nat}
theorem eK (hf:∀a,(f a).length=k)(l:List α):(l.flatMap f).length=l.length*k:=by
 induction l with
 |nil=>simp
 |cons a l ih=>simp only[List.flatMap_cons,List.length_append,List.length_cons,ih,hf,Nat.add_mul];omega
theorem sE (hf:∀a,(f a).length=k){l:List α}{i:Nat}{a:α}(h:l[i]?=some a):l.flatMap f=(l.take i).flatMap f++(f a++(l.drop (i+1)).flatMap f)/\((l.take i).flatMap f).length=i*k:=by
 obtain⟨hi,hg⟩:=List.getElem?_eq_some_iff.1 h
 constructor
 ·conv=>lhs;rw[<-List.take_append_drop i l,List.drop_eq_getElem_cons hi,hg]
  rw[List.flatMap_append,List.flatMap_cons]
 rw[eK hf,List.length_take];congr 1;omega
theorem bo (hf:∀a,(f a).length=k){l:List α}{i j:Nat}{a:α}{v:Value}(h:l[i]?=some a)(hv:(f a)[j]?=some v):(l.flatMap f)[i*k+j]?=some v:=by
 obtain⟨e,hl⟩:=sE hf h;have hj:=(List.getElem?_eq_some_iff.1 hv).1;rw[e,List.getElem?_append_right (by omega),hl,List.getElem?_append_left (by omega),show i*k+j-i*k=j from by omega];exact hv
theorem SV (hf:∀a,(f a).length=k){l:List α}{i:Nat}{a a':α}(h:l[i]?=some a):cZ (l.flatMap f) (i*k) (f a')=(l.set i a').flatMap f:=by
 obtain⟨e,hl⟩:=sE hf h;have h1:=hf a;have h2:=hf a';have h3:(l.set i a').flatMap f=(l.take i).flatMap f++(f a'++(l.drop (i+1)).flatMap f):=by
  rw[List.set_eq_take_append_cons_drop,if_pos (List.getElem?_eq_some_iff.1 h).1,List.flatMap_append,List.flatMap_cons]
 rw[h3,e,<-hl,mR _ _ (f a) _ (by omega)]
theorem cj (hf:∀a,(f a).length=k){l:List α}{i j:Nat}{a a':α}{v:Value}(h:l[i]?=some a)(hv:(f a).set j v=f a')(hj:j<k):(l.flatMap f).set (i*k+j) v=(l.set i a').flatMap f:=by
 obtain⟨e,hl⟩:=sE hf h;have h1:=hf a;have h3:(l.set i a').flatMap f=(l.take i).flatMap f++(f a'++(l.drop (i+1)).flatMap f):=by
  rw[List.set_eq_take_append_cons_drop,if_pos (List.getElem?_eq_some_iff.1 h).1,List.flatMap_append,List.flatMap_cons]
 rw[h3,e,List.set_append_right _ _ (by omega),hl,show i*k+j-i*k=j from by omega,List.set_append_left _ _ (by omega),hv]
end
end Go.dG
namespace Go.dG
open Go
def zk:aa:=λ_=>True
theorem iO{α:Type}{L:List α}{i:Nat}{x:α}(h:L[i]?=some x)(x':α):List.Perm (L.set i x') (x'::L.eraseIdx i):=by
 obtain⟨hi,hg⟩:=List.getElem?_eq_some_iff.1 h;rw[List.set_eq_take_append_cons_drop,if_pos hi,List.eraseIdx_eq_take_drop_succ];exact List.perm_middle
theorem gn{α:Type}{L:List α}{i:Nat}{x:α}(h:L[i]?=some x):L.set i x=L:=by
 obtain⟨hi,hg⟩:=List.getElem?_eq_some_iff.1 h;rw[<-hg];exact List.set_getElem_self hi
theorem wV{α:Type}{f:α->aa}{L:List α}{i:Nat}{x:α}(h:L[i]?=some x){H:List aa}{k:Hp}(s:ai (aG (L.map f)::H) k):ai (f x::aG ((L.eraseIdx i).map f)::H) k:=by
 have p:=iO h x;rw[gn h]at p;exact HN (oO (p.map f) s)
theorem uN{α:Type}{f:α->aa}{L:List α}{i:Nat}{x:α}(h:L[i]?=some x)(x':α){H:List aa}{k:Hp}(s:ai (f x'::aG ((L.eraseIdx i).map f)::H) k):ai (aG ((L.set i x').map f)::H) k:=by
 have s2:=HM s;refine oO ?_ s2;have p:=((iO h x').map f).symm;rw[List.map_cons]at p;exact(List.perm_append_singleton _ _).trans p
section
variable {P:Program} {n:Nat} {ds:List Deferred} {F:dC} {σ:aZ} {o:Oper}
theorem Rt4{fn:Func}{R:Value->List aa->Prop}{H:List aa}{t u u' t':Nat}{v x x' y:Value}(H':List aa)(hr:fn.results= #[.tmp t, .tmp u, .tmp u', .tmp t'])(hR:R (.tuple #[v,x,x',y]) H')(hv:look σ t=some v:=by exact rfl)(hx:look σ u=some x:=by exact rfl)(hx':look σ u'=some x':=by exact rfl)(hy:look σ t'=some y:=by exact rfl)
  (hh:∀h,ai H h->ai H' h:=by exact Eh):G n [] F (bodyPost P fn (λe w'=>∃v H',e= .returned v/\R v H'/\St F H' w') .ret) σ H:=
 .mk λa w e s=>⟨e.defers, .tuple #[v,x,x',y],by
  have h1:a.tmps.getD t undef=v:=by simp[e.slot t v hv]
  have h2:a.tmps.getD u undef=x:=by simp[e.slot u x hx]
  have h3:a.tmps.getD u' undef=x':=by simp[e.slot u' x' hx']
  have h4:a.tmps.getD t' undef=y:=by simp[e.slot t' y hy]
  simp only[results,hr];simp at h1 h2 h3 h4;simp[h1,h2,h3,h4],_,H',rfl,hR,s.sub hh⟩
theorem Xj{k:IntKind}{p q:Nat}(hq:0<q):gG .rem k (p:Int) (q:Int)=some ((p % q:Nat):Int):=by
 show(if(q:Int)=0 then none else some ((p:Int).tmod (q:Int)))=_;rw[if_neg (by omega),Int.tmod_eq_emod_of_nonneg (Int.natCast_nonneg p)]
 norm_cast
theorem Jm{k:IntKind}{p q:Nat}(hq:0<q)(h:k.wrap ((p/q:Nat):Int)=((p/q:Nat):Int)):gG .quo k (p:Int) (q:Int)=some ((p/q:Nat):Int):=by
 show(if(q:Int)=0 then none else some (k.wrap ((p:Int).tdiv (q:Int))))=_;rw[if_neg (by omega),Int.tdiv_eq_ediv_of_nonneg (Int.natCast_nonneg p),show(p:Int)/(q:Int)=((p/q:Nat):Int)from by norm_cast,h]
theorem Rm{t yt:TypeId}{x y:Operand}{k:IntKind}{i j:Int}{p q:Nat}(ho:o.op= .binOp .rem t x y yt:=by exact rfl)(hx:bJ σ x=some (.int k i):=by exact rfl)(hy:bJ σ y=some (.int k j):=by exact rfl)
  (hi:i=(p:Int):=by exact rfl) (hj:j=(q:Int):=by exact rfl) (hq:0<q:=by omega):Yv P n ds F σ o (.int k ((p % q:Nat):Int)):=xj ho hx hy (by rw[hi,hj];exact Xj hq)
theorem Qu{t yt:TypeId}{x y:Operand}{i j:Int}{p q:Nat}(ho:o.op= .binOp .quo t x y yt:=by exact rfl)(hx:bJ σ x=some (.int .i64 i):=by exact rfl)(hy:bJ σ y=some (.int .i64 j):=by exact rfl)
  (hi:i=(p:Int):=by exact rfl) (hj:j=(q:Int):=by exact rfl) (hq:0<q:=by omega) (hw:p<9223372036854775808:=by omega):Yv P n ds F σ o (.int .i64 ((p/q:Nat):Int)):=
 xj ho hx hy (by rw[hi,hj];exact Jm hq (by have h1:=Nat.div_le_self p q;generalize p/q=z at*;exact wrap_i64 (by omega)))
theorem QuU{t yt:TypeId}{x y:Operand}{i j:Int}{p q:Nat}(ho:o.op= .binOp .quo t x y yt:=by exact rfl)(hx:bJ σ x=some (.int .u64 i):=by exact rfl)(hy:bJ σ y=some (.int .u64 j):=by exact rfl)
  (hi:i=(p:Int):=by exact rfl) (hj:j=(q:Int):=by exact rfl) (hq:0<q:=by omega) (hw:p<18446744073709551616:=by omega):Yv P n ds F σ o (.int .u64 ((p/q:Nat):Int)):=
 xj ho hx hy (by rw[hi,hj];exact Jm hq (by have h1:=Nat.div_le_self p q;generalize p/q=z at*;exact wrap_u64 (by omega)))
theorem Zu{t yt:TypeId}{x y:Operand}{i j:Int}{p q:Nat}(ho:o.op= .binOp .mul t x y yt:=by exact rfl)(hx:bJ σ x=some (.int .i64 i):=by exact rfl)(hy:bJ σ y=some (.int .i64 j):=by exact rfl)
  (hi:i=(p:Int):=by exact rfl) (hj:j=(q:Int):=by exact rfl) (h:p*q<9223372036854775808:=by omega):Yv P n ds F σ o (.int .i64 ((p*q:Nat):Int)):=
 xj ho hx hy (by rw[hi,hj];show some (IntKind.i64.wrap ((p:Int)*(q:Int)))=_;rw[<-Int.natCast_mul];generalize p*q=z at*;exact congrArg some (wrap_i64 (by omega)))
theorem AdN{t yt:TypeId}{x y:Operand}{i j:Int}{p q:Nat}(ho:o.op= .binOp .add t x y yt:=by exact rfl)(hx:bJ σ x=some (.int .i64 i):=by exact rfl)(hy:bJ σ y=some (.int .i64 j):=by exact rfl)
  (hi:i=(p:Int):=by exact rfl) (hj:j=(q:Int):=by exact rfl) (h:p+q<9223372036854775808:=by omega):Yv P n ds F σ o (.int .i64 ((p+q:Nat):Int)):=
 xj ho hx hy (by rw[hi,hj];show some (IntKind.i64.wrap ((p:Int)+(q:Int)))=_;rw[<-Int.natCast_add];exact congrArg some (wrap_i64 (by omega)))
theorem Zv{t e sz m b i0:Nat}{x y:Operand}{l c j:Nat}{k:IntKind}{i:Int}(ht:dK P t=some (e,sz))(ho:o.op= .indexAddr t x y:=by exact rfl)(hx:bJ σ x=some (.slice (some ⟨b,i0,none⟩) l c):=by exact rfl)(hy:bJ σ y=some (.int k i):=by exact rfl)
  (hj:i=(j:Int):=by first|exact rfl|omega) (hl:j<l:=by omega) (hm:j*sz=m:=by first|exact Nat.mul_one _|rfl):Yv P n ds F σ o (.pointer (some ⟨b,i0+m,none⟩)):=by
 have:=I5 (P:=P) (n:=n) (ds:=ds) (F:=F) (σ:=σ) (o:=o) ht ho hx hy hj hl hm rfl
 rwa[Option.map_some,add_lit]at this
theorem IxZ{t e sz m b:Nat}{x y:Operand}{l c j:Nat}{k:IntKind}{i:Int}(ht:dK P t=some (e,sz))(ho:o.op= .indexAddr t x y:=by exact rfl)(hx:bJ σ x=some (.slice (some ⟨b,0,none⟩) l c):=by exact rfl)(hy:bJ σ y=some (.int k i):=by exact rfl)
  (hj:i=(j:Int):=by first|exact rfl|omega) (hl:j<l:=by first|omega|assumption) (hm:j*sz=m:=by first|exact Nat.mul_one _|rfl):Yv P n ds F σ o (.pointer (some ⟨b,m,none⟩)):=by
 have:=Zv (P:=P) (n:=n) (ds:=ds) (F:=F) ht ho hx hy hj hl hm
 rwa[Nat.zero_add]at this
theorem my (w a:Nat)(h:a<2^w):(BitVec.ofInt w (a:Int)).toNat=a:=by
 rw[BitVec.ofInt_natCast,BitVec.toNat_ofNat,Nat.mod_eq_of_lt h]
theorem yI{a:Nat}(m:Nat)(hm:m<=63)(ha:a<18446744073709551616):gG .and .u64 (a:Int) ((2^m-1:Nat):Int)=some ((a % 2^m:Nat):Int):=by
 have h2:2^m<=2^63:=Nat.pow_le_pow_right (by decide) hm;have hl:a % 2^m<=a:=Nat.mod_le _ _;show some (IntKind.u64.wrap ((BitVec.ofInt 64 (a:Int)&&&BitVec.ofInt 64 ((2^m-1:Nat):Int)).toNat:Int))=_;rw[BitVec.toNat_and,my 64 a ha,my 64 _ (by omega),Nat.and_two_pow_sub_one_eq_mod,wrap_u64 (by omega)]
theorem aiQ{a:Nat}(ha:a<18446744073709551616):gG .and .u64 (a:Int) 4294967295=some ((a % 4294967296:Nat):Int):=yI 32 (by decide) ha
theorem ahJ (a:Nat):((a:Int).fdiv (2^(min 32 IntKind.u64.bits)))=((a/4294967296:Nat):Int):=by
 rw[show(2:Int)^(min 32 IntKind.u64.bits)=4294967296 from rfl,Int.fdiv_eq_ediv_of_nonneg _ (by decide)];omega
theorem Te{n c:Nat}(h:n*256+c<256):gG .or .u8 (IntKind.u8.wrap (IntKind.u8.wrap ((n:Int)*2^(min 7 IntKind.u8.bits))*2^(min 1 IntKind.u8.bits))) (c:Int)=some ((n*256+c:Nat):Int):=by
 obtain rfl:n=0:=by omega
 show some (IntKind.u8.wrap ((BitVec.ofInt 8 0|||BitVec.ofInt 8 (c:Int)).toNat:Int))=_;rw[BitVec.toNat_or,my 8 c (by omega),show(BitVec.ofInt 8 0).toNat=0 from rfl,Nat.zero_or,wrap_u8 (by omega)];simp
theorem Js (w n c:Nat)(hc:c<256)(h:n*256+c<2^w):(BitVec.ofInt w ((n*256:Nat):Int) |||BitVec.ofInt w (c:Int)).toNat=n*256+c:=by
 rw[BitVec.toNat_or,my w c (by omega),my w (n*256) (by omega),Nat.mul_comm];have:=Nat.two_pow_add_eq_or_of_lt (i:=8) (b:=c) (by simpa using hc) n;rw[show(2:Nat)^8=256 from rfl]at this;omega
theorem LK{n c:Nat}(hc:c<256)(h:n*256+c<4294967296):gG .or .u32 (IntKind.u32.wrap (IntKind.u32.wrap ((n:Int)*2^(min 7 IntKind.u32.bits))*2^(min 1 IntKind.u32.bits))) (c:Int)=some ((n*256+c:Nat):Int):=by
 rw[show(2:Int)^(min 7 IntKind.u32.bits)=128 from rfl,show(2:Int)^(min 1 IntKind.u32.bits)=2 from rfl,show IntKind.u32.wrap ((n:Int)*128)=(n:Int)*128 from wrap_u32 (by omega),show(n:Int)*128*2=((n*256:Nat):Int)from by omega,show IntKind.u32.wrap ((n*256:Nat):Int)=((n*256:Nat):Int)from wrap_u32 (by omega)];show some (IntKind.u32.wrap ((BitVec.ofInt 32 ((n*256:Nat):Int) |||BitVec.ofInt 32 (c:Int)).toNat:Int))=_;rw[Js 32 n c hc h,wrap_u32 (by omega)]
theorem LJ{n c:Nat}(hc:c<256)(h:n*256+c<18446744073709551616):gG .or .u64 (IntKind.u64.wrap (IntKind.u64.wrap ((n:Int)*2^(min 7 IntKind.u64.bits))*2^(min 1 IntKind.u64.bits))) (c:Int)=some ((n*256+c:Nat):Int):=by
 rw[show(2:Int)^(min 7 IntKind.u64.bits)=128 from rfl,show(2:Int)^(min 1 IntKind.u64.bits)=2 from rfl,show IntKind.u64.wrap ((n:Int)*128)=(n:Int)*128 from wrap_u64 (by omega),show(n:Int)*128*2=((n*256:Nat):Int)from by omega,show IntKind.u64.wrap ((n*256:Nat):Int)=((n*256:Nat):Int)from wrap_u64 (by omega)];show some (IntKind.u64.wrap ((BitVec.ofInt 64 ((n*256:Nat):Int) |||BitVec.ofInt 64 (c:Int)).toNat:Int))=_;rw[Js 64 n c hc h,wrap_u64 (by omega)]
end
end Go.dG
namespace Go.dG
open Go
def y8:Option Nat->Fence
 |none=>Fence.wide
 |some l=>Fence.wide.inRound l
theorem BN (r:Option Nat)(f:FuncId):(y8 r).fn f:=by cases r<;>trivial
theorem vi (r:Option Nat):(y8 r).depth.isSome=true->1<=0:=by cases r<;>simp[y8,Fence.wide,Fence.inRound]
def RC (r:Option Nat)(c:Code)(P:Program)(Q:Exit->Act->World->Prop):Act->World->Prop:=λa w=>c.wpIn (y8 r) 0 P Q a w
theorem ahS{c:Code}{P:Program}{Q:Exit->Act->World->Prop}{a:Act}{w:World}:RC none c P Q a w↔c.wp P Q a w:=wpIn_wide
def nd (o:Oper):Bool:=match o.op with| .defer _=>false|_=>true
theorem NU{r:Option Nat}{P:Program}{f:FuncId}{args:Array Value}{w:World}{R:Ending->World->Prop}(h:Calls P f args w R):CallsIn (y8 r) 0 P f args w R:=by
 cases r with
 |none=>exact callsIn_wide.2 h
 |some l=>have h0:CallsIn Fence.wide 0 P f args w R:=callsIn_wide.2 h;exact h0
theorem SX{r:Option Nat}{P:Program}{row:String}{args:Array Value}{w:World}{R:Value->World->Prop}(h:Rows P row args w R):RowsIn (y8 r) 0 P row args w R:=by
 have key:RowsIn Fence.wide 0 P row args w R:=λc cs _=>by obtain⟨v,w',q,s⟩:=h c cs;exact⟨v,w',q,stepsIn_wide.2 s⟩
 cases r with
 |none=>exact key
 |some l=>exact key
theorem SR{o:Oper}(h:nd o=true)(r:Option Nat)(ρ:Operand->Value):o.semAt r ρ=execOp ρ o:=by
 unfold Oper.semAt;cases r with
 |none=>rfl
 |some l=>unfold nd at h;split<;>simp_all
theorem ZA{r:Option Nat}{P:Program}{o:Oper}{a:Act}{w:World}{K:Act->World->Prop}{Q:Exit->Act->World->Prop}(hn:nd o=true)(h:o.wp P a w K Q):o.wpIn (y8 r) 0 P a w K Q:=by
 refine⟨λf _=>BN r f, ?_⟩;rw[SR hn];unfold Oper.wp at h;generalize (execOp a.eval o).run P w=res at*;cases res with
 |ok nx w'=>
  cases nx<;>simp only[Oper.upon,Oper.uponIn]at h⊢<;>first
   |exact h
   |exact⟨vi r,NU h⟩
   |exact⟨vi r,SX h⟩
   |exact h.elim
 |halt x w'=>cases x<;>simp only[Oper.upon,Oper.uponIn]at h⊢<;>exact h
section rules
variable {P:Program} {n:Nat} {ds:List Deferred} {F:dC} {Q:Exit->Act->World->Prop} {σ:aZ} {H:List aa} {r:Option Nat}
theorem gE{x y:Code}(h:G n ds F (RC r x P (Exit.then (RC r y P Q) Q)) σ H):G n ds F (RC r (Code.seq x y) P Q) σ H:= .mk λa w e s=>wpIn_seq (h a w e s)
theorem lX (h:G n ds F (Q .normal) σ H):G n ds F (RC r Code.skip P Q) σ H:= .mk λa w e s=>wpIn_skip (h a w e s)
theorem iY (h:G n ds F (Q .ret) σ H):G n ds F (RC r Code.ret P Q) σ H:= .mk λa w e s=>wpIn_ret (h a w e s)
theorem Bh{id:Nat}(h:G n ds F (Q (.exit id)) σ H):G n ds F (RC r (Code.exit id) P Q) σ H:= .mk λa w e s=>wpIn_exit (h a w e s)
theorem qx{id:Nat}{c:Code}(h:G n ds F (RC r c P (Exit.inBlock id Q)) σ H):G n ds F (RC r (Code.block id c) P Q) σ H:= .mk λa w e s=>wpIn_block (h a w e s)
theorem uD{c:Operand}{x y:Code}{b:Bool}(hc:bJ σ c=some (.bool b))(ht:b=true->G n ds F (RC r x P Q) σ H)(hf:b=false->G n ds F (RC r y P Q) σ H):G n ds F (RC r (Code.cond c x y) P Q) σ H:=
 .mk λa w e s=>wpIn_cond_split (e.eval hc) (λhb=>ht hb a w e s) (λhb=>hf hb a w e s)
theorem nD{c:Operand}{x y:Code}{b:Bool}(hc:bJ σ c=some (.bool b))(hb:b=true)(ht:G n ds F (RC r x P Q) σ H):G n ds F (RC r (Code.cond c x y) P Q) σ H:=uD hc (λ_=>ht) (λh=>by rw[hb]at h;cases h)
theorem ma{c:Operand}{x y:Code}{b:Bool}(hc:bJ σ c=some (.bool b))(hb:b=false)(ht:G n ds F (RC r y P Q) σ H):G n ds F (RC r (Code.cond c x y) P Q) σ H:=uD hc (λh=>by rw[hb]at h;cases h) (λ_=>ht)
theorem WH{ι:Type}{c:Code}(kN:List Nat)(I:ι->Prop)(L:ι->aZ)(HI:ι->List aa)(μ:ι->Nat)(i₀:ι)(h0:I i₀)(hs:ru (L i₀) σ)(hh:∀h,ai H h->ai (HI i₀) h)
  (round:∀i,I i->G n ds F (RC r c P (Exit.then (qE n ds F kN σ I L HI μ i) Q)) (L i++fQ kN σ) (HI i)):G n ds F (RC r (Code.loop c) P Q) σ H:=by
 refine .mk λa w e s b k cs hro hb hr=> ?_;have key:∀m i a w,μ i=m->I i->Env n ds (L i++fQ kN σ) a->St F (HI i) w->
   ∃e a' w',Q e a' w'/\ArrivesIn (Machine.fenced P (y8 r)) P (lone (b.atR a (.code c:: .inLoop c::k)) cs w) b k cs e a' w':=by
  intro m
  induction m using Nat.strongRecOn with
  |_ m ih=>
   intro i a w hm hi he gB;obtain⟨e,a₁,w₁,hq,pE⟩:=(round i hi).run a w he gB b (.inLoop c::k) cs hro hb hr;cases e with
   |normal=>
    obtain⟨j,hj,cL,he₁,hs₁⟩:=hq;obtain⟨e₂,a₂,w₂,hq₂,harr₂⟩:=ih (μ j) (hm▸cL) j a₁ w₁ rfl hj he₁ hs₁;exact⟨e₂,a₂,w₂,hq₂, .of_steps (StepsIn.trans pE (.one (fenced_calm hb hr rfl) stepR_inLoop)) harr₂⟩
   |exit id=>exact⟨_,a₁,w₁,hq, .pass (x:= .inLoop c) rfl (λ_ _=> .inl (by simp)) pE⟩
   |goto l=>exact⟨_,a₁,w₁,hq, .pass (x:= .inLoop c) rfl (λ_ _=> .inl (by simp)) pE⟩
   |ret=>exact⟨_,a₁,w₁,hq, .pass (x:= .inLoop c) rfl (λ_ _=> .inl (by simp)) pE⟩
   |panic ch=>exact⟨_,a₁,w₁,hq, .pass (x:= .inLoop c) rfl (λ_ _=> .inl (by simp)) pE⟩
   |outgrown=>exact⟨_,a₁,w₁,hq, .pass (x:= .inLoop c) rfl (λ_ _=> .inl (by simp)) pE⟩
 obtain⟨e',a',w',hq,pE⟩:=key _ i₀ a w rfl h0 (e.xd hs rfl) (s.sub hh);exact⟨e',a',w',hq, .of_steps (.one (fenced_calm hb hr rfl) stepR_loop) pE⟩
theorem O0{ι:Type}{K:Act->World->Prop}{x:Code}(kN:List Nat)(I:ι->Prop)(L:ι->aZ)(HI:ι->List aa)(hx:G n ds F (RC r x P (Exit.then (IZ n ds F kN σ I L HI) Q)) σ H)
  (hy:∀j,I j->G n ds F K (L j++fQ kN σ) (HI j)):G n ds F (RC r x P (Exit.then K Q)) σ H:=
 .mk λa w e s=>wpIn_mono (hx a w e s) λex a' w' q=>by
  cases ex with
  |normal=>obtain⟨j,hj,he,hs⟩:=q;exact hy j hj _ _ he hs
  |exit id=>exact q
  |goto l=>exact q
  |ret=>exact q
  |panic ch=>exact q
  |outgrown=>exact q
theorem Xo{ι:Type}{c:Code}(kN:List Nat)(I:ι->Prop)(L:ι->aZ)(HI:ι->List aa)(μ:ι->Nat)(i₀:ι)(h0:I i₀)
  (round:∀i,I i->G n ds F (RC r c P (Exit.then (qE n ds F kN σ I L HI μ i) Q)) (L i++fQ kN σ) (HI i)) (hs:ru (L i₀) σ:=by exact Sb) (hh:∀h,ai H h->ai (HI i₀) h:=by exact Eh):G n ds F (RC r (Code.loop c) P Q) σ H:=
 WH kN I L HI μ i₀ h0 hs hh round
end rules
section regions
variable {P:Program} {n:Nat} {ds:List Deferred} {F:dC} {Q:Exit->Act->World->Prop} {K:Act->World->Prop} {σ:aZ} {H:List aa} {o:Oper} {d:Nat} {ops:Array Oper} {rest:List Oper} {r:Option Nat}
def WL (r:Option Nat)(P:Program)(ops:Array Oper)(Q:Exit->Act->World->Prop)(l:List Oper):Act->World->Prop:=wpListIn (y8 r) 0 P ops Q l
theorem jx{id:Nat}{l:List Oper}(h:G n ds F (WL r P l.toArray Q l) σ H):G n ds F (RC r (Code.region id l.toArray false) P Q) σ H:= .mk λa w e s=>wpIn_region_lit (h a w e s)
theorem s7 (h:G n ds F (Q .normal) σ H):G n ds F (WL r P ops Q []) σ H:= .mk λa w e s=>h a w e s
theorem oe{K:Act->World->Prop}(h:G n ds F K σ H):G n ds F (WL r P ops (Exit.then K Q) []) σ H:=s7 (BP h)
theorem pd{id:Nat}{l:List Oper}{y:Code}(h:G n ds F (WL r P l.toArray (Exit.then (RC r y P Q) Q) l) σ H):G n ds F (RC r (Code.seq (Code.region id l.toArray false) y) P Q) σ H:=gE (jx h)
theorem Xin (h:G n ds F (λa w=>o.wpIn (y8 r) 0 P a w (WL r P ops Q rest) Q) σ H)(hg:Oh ops o σ=true:=by exact rfl):G n ds F (WL r P ops Q (o::rest)) σ H:=
 .mk λa w e s=>by
  show wpListIn _ _ _ _ _ _ _ _;unfold wpListIn;rw[if_pos (jT hg e)];exact h a w e s
theorem Xp (h:G n ds F (λa w=>o.wp P a w (WL r P ops Q rest) Q) σ H)(hg:Oh ops o σ=true:=by exact rfl)(hn:nd o=true:=by exact rfl):G n ds F (WL r P ops Q (o::rest)) σ H:=
 Xin (.mk λa w e s=>ZA hn (h a w e s)) hg
theorem Xi{v:Value}(hy:Yv P n ds F σ o v)(h:G n ds F (WL r P ops Q rest) ((d,v)::σ) H)(hg:Oh ops o σ=true:=by exact rfl)(hd:o.dst=some d:=by exact rfl)(hdn:Nat.blt d n=true:=by exact rfl)(hn:nd o=true:=by exact rfl):
  G n ds F (WL r P ops Q (o::rest)) σ H:=Xp (agH hy hd hdn h) hg hn
theorem Xx (h:G n ds F (WL r P ops Q rest) ((d,undef)::σ) H)(hg:gno ops o σ=true:=by exact rfl)(hd:o.dst=some d:=by exact rfl)(hdn:Nat.blt d n=true:=by exact rfl):G n ds F (WL r P ops Q (o::rest)) σ H:=
 .mk λa w e s=>by
  show wpListIn _ _ _ _ _ _ _ _;unfold wpListIn;rw[if_neg (by simp[oQ hg e]),hd];exact⟨λf _=>BN r f,h _ w (e.put hdn undef) s⟩
def nds (ops:Array Oper):Bool:=ops.toList.all nd
theorem ac7 (h:nds ops=true){i:Nat}{o:Oper}(ho:ops[i]?=some o):nd o=true:=by
 unfold nds at h;rw[List.all_eq_true]at h;exact h o (List.mem_of_getElem? (by rw[Array.getElem?_toList];exact ho))
theorem yH{Q:Exit->Act->World->Prop}(hn:nds ops=true)(fuel:Nat)(listed:Array Bool)(a:Act)(w:World)(fN:∃i,i∈Region.ready .any ops listed)(h:∀i∈Region.ready .any ops listed,∃o,ops[i]?=some o/\rP P ops o (wpAnyIn (y8 r) 0 P .any ops Q fuel (listed.setIfInBounds i true)) a w):
  wpAnyIn (y8 r) 0 P .any ops Q (fuel+1) listed a w:=by
 refine⟨λhr=> ?_,λi hi=> ?_⟩
 ·obtain⟨i,hi⟩:=fN;rw[hr]at hi;cases hi
 obtain⟨o,ho,hh⟩:=h i hi;unfold wpOpIn;unfold rP at hh;simp only[ho]
 split
 ·rename_i hw
  rw[if_pos hw]at hh;have h2:=ZA (r:=r) (Q:=Zt) (ac7 hn ho) hh;refine⟨λf _=>BN r f, ?_⟩;have h3:=h2.2;generalize (o.semAt (y8 r).round a.eval).run P w=res at*;cases res with
  |ok nx w'=>
   cases nx<;>simp only[Oper.uponIn]at h3⊢<;>first
    |exact h3
    |exact⟨h3.1,h3.2.mono λe w'' he=>by cases e<;>first|exact he|exact he.elim|exact(GF he).elim⟩
  |halt x w'=>cases x<;>simp only[Oper.uponIn]at h3⊢<;>exact h3.elim
 rename_i hw
 rw[if_neg hw]at hh;exact⟨λf _=>BN r f,hh⟩
end regions
end Go.dG
namespace Go.dG
open Go
theorem cI{A B:List aa}(p:List.Perm A B):∀h,ai A h->ai B h:=by
 induction p with
 |nil=>exact λ_ x=>x
 |cons _ _ ih=>exact λ_ x=>aK ih x
 |swap _ _ _=>exact λ_ x=>dx x
 |trans _ _ i1 i2=>exact λh x=>i2 h (i1 h x)
def lpo (l:Nat)(rc:Loop):aa:=λh=>h l=some (.loop rc)
def zH (D:Nat):aa:=λh=>h D=some (.deferred (some []))
def mark (D:Nat):Deferred:={target:= .collected D,args:= #[]}
def YdS (P:Program)(l:Nat)(args:List Value)(pre:Hp->Prop)(H:List aa)(R:Value->List aa->Prop):Prop:=
 ∀F w,pre F.h->St F H w->∃f tmps assign body,(Instr.yield l args.toArray).run P w= .ok (.round l f tmps assign body) w/\RoundIn Fence.wide 0 P l f tmps assign body w (λe w'=>∃v H',e= .returned v/\R v H'/\St F H' w')
def YR (A:List aa)(J:List (List Value)->List aa)(Z:List aa->Prop)(p:List (List Value))(x:List Value)(v:Value)(H':List aa):Prop:=
 (v= .bool true/\H'=A++J (p++ [x]))\/(v= .bool false/\∃Zs,Z Zs/\H'=A++Zs)
def IR (A:List aa)(fin:List (List Value)->Prop)(J:List (List Value)->List aa)(Z:List aa->Prop)(_:Value)(H':List aa):Prop:=
 (∃p,fin p/\H'=A++J p)\/∃Zs,Z Zs/\H'=A++Zs
def ItF (P:Program)(F:dC)(gf:FuncId)(fv cv:List Value)(A:List aa)(al:List (List Value)->List Value->Prop)(fin:List (List Value)->Prop):Prop:=
 ∀(l:Nat) (J:List (List Value)->List aa) (Z:List aa->Prop),(∀p x,al p x->YdS P l x (λh=>Le F.h h) (A++J p) (YR A J Z p x))->aO P gf (fv++ [.func (.yield l) #[] #[]]++cv) (λh=>Le F.h h) (A++J []) (IR A fin J Z)
section
variable {P:Program} {n:Nat} {ds:List Deferred} {F:dC} {Q:Exit->Act->World->Prop} {K:Act->World->Prop} {σ:aZ} {H:List aa} {o:Oper} {d:Nat} {ops:Array Oper} {rest:List Oper} {r:Option Nat}
theorem Th{l:Nat}{xs:List Operand}{vs:List Value}{rT:Array TypeId}{pre:Hp->Prop}{As R:List aa}{T:Value->List aa->Prop}{x:Operand}(ho:o.op= .call {callee:= .value x,args:=xs.toArray,argTypes:=rT})
  (hd:o.dst=some d) (hx:bJ σ x=some (.func (.yield l) #[] #[])) (hv:ki σ xs=some vs) (hc:YdS P l vs pre As T) (de:iI H As R) (iH:∀h,Le F.h h->gP R h->pre h) (hdn:Nat.blt d n=true)
  (h:∀v H',T v H'->G n ds F K ((d,v)::σ) (H'++R)):G n ds F (λa w=>o.wpIn (y8 none) 0 P a w K Q) σ H:=by
 refine .mk λa w en s=>⟨λf _=>trivial, ?_⟩;obtain⟨a1,a2,a3,fr,hh,st,hl,rA⟩:=s;obtain⟨h1,h2,d12,l1,l2,s1,s2⟩:=bx (de.out _ st);have vu:bQ h2 F.h:=rA.left l2
 let F':dC:={F with h:=fA h2 F.h}
 have ia:Le F.h F'.h:=aR vu;have ib:Le h2 F'.h:=aW _ _;have wY:St F' As w:=⟨a1,a2,a3,bY (l2.trans hl) fr,h1,s1,l1.trans hl,(bQ.fA d12.symm (rA.left l1).symm).symm⟩;obtain⟨f,tmps,assign,body,hy,hrd⟩:=hc F' w (iH _ ia (cq s2 ib)) wY;have Df:(o.semAt (y8 none).round a.eval).run P w= .ok (.round l f tmps assign body) w:=by
  have:o.semAt (y8 none).round a.eval=execOp a.eval o:=rfl;rw[this];have hvs:=en.vD hv;simp[execOp,ho,resolve,Deferred.ofValue,en.eval hx,invoke,hvs,hy]
 rw[Df,Oper.uponIn_round];refine⟨vi none,hrd.mono ?_⟩;rintro e w' ⟨v,H',rfl,hT,sw⟩;obtain⟨b1,b2,b3,rC,yZ,st2,yW,kf⟩:=sw;show K (a.put o.dst v) w';rw[hd];exact h v H' hT _ _ (en.put hdn v) ⟨b1,b2,b3,ia.trans rC,fA yZ h2,bK st2 s2 (kf.right ib),bY yW (ib.trans rC),bQ.fA (kf.right ia) vu⟩
theorem oY{l:Nat}{xs:List Operand}{vs:List Value}{rT:Array TypeId}{pre:Hp->Prop}{A2 R:List aa}{T:Value->List aa->Prop}{x:Operand}(ho:o.op= .call {callee:= .value x,args:=xs.toArray,argTypes:=rT})
  (hx:bJ σ x=some (.func (.yield l) #[] #[])) (hv:ki σ xs=some vs) (hc:YdS P l vs pre A2 T) (de:iI H A2 R) (iH:∀h,Le F.h h->gP R h->pre h)
  (h:∀v H',T v H'->G n ds F K ((d,v)::σ) (H'++R)) (hd:o.dst=some d:=by exact rfl) (hdn:Nat.blt d n=true:=by exact rfl):G n ds F (λa w=>o.wpIn (y8 none) 0 P a w K Q) σ H:=Th ho hd hx hv hc de iH hdn h
theorem Ub{f:FuncId}{fn:Func}{c:Code}{args:List Value}{pre:Hp->Prop}{R:Value->List aa->Prop}{m:Nat}(hf:P.funcs[f]?=some fn)(hb:fn.body=some c)(hm:fn.ntmps=m)(hn:Nat.ble args.length m=true)
  (h:∀F:dC,pre F.h->G m [] F (RC none c P (bodyPost P fn λe w'=>∃v H',e= .returned v/\R v H'/\St F H' w')) (jP 0 args) H):aO P f args pre H R:=
 λF w hp s=>calls_of_wp hf hb (by
  subst hm;exact ahS.1 (h F hp _ _ (Di args _ (Nat.le_of_ble_eq_true hn)) s))
def aaB (P:Program)(fn:Func)(R:Ending->World->Prop):Exit->Act->World->Prop
 | .normal,a,w| .ret,a,w=>LeavesInM Fence.wide 0 P fn a.tmps R a.defers .returning w
 |_,_,_=>False
theorem Ud{f:FuncId}{fn:Func}{c:Code}{args:List Value}{pre:Hp->Prop}{R:Value->List aa->Prop}{m:Nat}(hf:P.funcs[f]?=some fn)(hb:fn.body=some c)(hm:fn.ntmps=m)(hn:Nat.ble args.length m=true)
  (h:∀F:dC,pre F.h->G m [] F (RC none c P (aaB P fn λe w'=>∃v H',e= .returned v/\R v H'/\St F H' w')) (jP 0 args) H):aO P f args pre H R:=
 λF w hp s=>callsIn_wide.1 (callsIn_of_wp_marks (F:=Fence.wide) (n:=0) hf hb trivial (by
  subst hm;refine wpIn_mono (h F hp _ _ (Di args _ (Nat.le_of_ble_eq_true hn)) s) λe a w' q=> ?_;cases e with
  |normal=>exact q
  |ret=>exact q
  |exit id=>exact q.elim
  |goto l=>exact q.elim
  |panic ch=>exact q.elim
  |outgrown=>exact q.elim))
theorem qJ (w:World)(b:Nat)(o:Obj):w.putObj b o={w with heap:=w.heap.setIfInBounds b o}:=rfl
theorem ade{fn:Func}{T:Ending->World->Prop}{tmps:Array Value}{R:List aa}:∀(Ds:List Nat) (w:World),St F (Ds.map zH++R) w->(∀w',St F R w'->∃v,(results fn tmps).run P w'= .ok v w'/\T (.returned v) w')->LeavesInM Fence.wide 0 P fn tmps T (Ds.map mark) .returning w:=by
 intro Ds
 induction Ds with
 |nil=>intro w s h;exact h w s
 |cons D Ds ih=>
  intro w s h;refine⟨by simp, .inl ⟨D,_,rfl,run_takeDeferred (ds:= []) ?_,ih _ ?_ h⟩⟩
  ·obtain⟨hh,hp,hl⟩:=s.get
   exact hl _ _ hp
  rw[qJ];exact St.drop (A:=λ_=>True) (s.Wi λk hk _=>⟨⟨_,hk⟩,trivial⟩)
def xJ:List Tmp->List Value->aZ->aZ
 |t::ts,v::vs,σ=>xJ ts vs ((t,v)::σ)
 |_,_,σ=>σ
theorem U3{σ:aZ}:∀(ts:List Tmp) (vs:List Value) (a:Act) (σ:aZ),(ts.all λt=>Nat.blt t n)=true->Env n ds σ a->Env n ds (xJ ts vs σ) {tmps:=(ts.zip vs).foldl (λq (t,v)=>q.setIfInBounds t v) a.tmps,defers:=a.defers}:=by
 intro ts
 induction ts with
 |nil=>intro vs a σ _ e;cases vs<;>exact e
 |cons t ts ih=>
  intro vs a σ ht e;cases vs with
  |nil=>exact e
  |cons v vs=>
   simp only[List.all_cons,Bool.and_eq_true]at ht;have:=ih vs (a.put (some t) v) ((t,v)::σ) ht.2 (e.put ht.1 v)
   simpa[xJ,Act.put]using this
def RQ (F:dC)(L:aa)(A:List aa)(J:List (List Value)->List aa)(ZR:List aa->Prop)(ZX:Nat->List aa->Prop)(p:List (List Value))(x:List Value):Exit->Act->World->Prop
 | .normal,_,w=>St F (L::(A++J (p++ [x]))) w
 | .ret,_,w=>∃Zs,ZR Zs/\St F (L::(A++Zs)) w
 | .exit id,_,w=>∃Zs,ZX id Zs/\St F (L::(A++Zs)) w
 |_,_,_=>False
theorem Ak{L:aa}{A:List aa}{J:List (List Value)->List aa}{ZR:List aa->Prop}{ZX:Nat->List aa->Prop}{p:List (List Value)}{x:List Value}(hh:∀h,ai H h->ai (L::(A++J (p++ [x]))) h):G n ds F (RQ F L A J ZR ZX p x .normal) σ H:= .mk λa w _ s=>s.sub hh
theorem Gu{L:aa}{A:List aa}{J:List (List Value)->List aa}{ZR:List aa->Prop}{ZX:Nat->List aa->Prop}{p:List (List Value)}{x:List Value}(Zs:List aa)(hz:ZR Zs)(hh:∀h,ai H h->ai (L::(A++Zs)) h):G n ds F (RQ F L A J ZR ZX p x .ret) σ H:= .mk λa w _ s=>⟨Zs,hz,s.sub hh⟩
theorem Xf{L:aa}{A:List aa}{J:List (List Value)->List aa}{ZR:List aa->Prop}{ZX:Nat->List aa->Prop}{p:List (List Value)}{x:List Value}{id:Nat}(Zs:List aa)(hz:ZX id Zs)(hh:∀h,ai H h->ai (L::(A++Zs)) h):G n ds F (RQ F L A J ZR ZX p x (.exit id)) σ H:= .mk λa w _ s=>⟨Zs,hz,s.sub hh⟩
theorem D8{A B:List aa}{X:aa}:List.Perm (X::(A++B)) (A++X::B):=List.perm_middle.symm
theorem x_rf{g:Operand}{ps:List Tmp}{assign body:Code}{gf:FuncId}{fv cv:List Value}{A R:List aa}{al:List (List Value)->List Value->Prop}{fin:List (List Value)->Prop}(J:List (List Value)->List aa)(ZR:List aa->Prop)(ZX:Nat->List aa->Prop)(σ1:List (List Value)->List Value->aZ)
  (kW:aC P gf=true) (hg:bJ σ g=some (.func (.func gf) fv.toArray cv.toArray)) (lJ:ItF P F gf fv cv A al fin) (de:iI H (A++J []) R) (hlen:∀p x,al p x->x.length=ps.length) (hps:(ps.all λt=>Nat.blt t n)=true)
  (ha:∀(l:Nat) (F':dC) (p:List (List Value)) (x:List Value) (HH:List aa) (K:Act->World->Prop),al p x->G n [] F' K (σ1 p x) HH->G n [] F' (RC (some l) assign P (Exit.then K Zt)) (xJ ps x σ) HH)
  (hb:∀(l:Nat) (F':dC) (p:List (List Value)) (x:List Value) (L:aa),al p x->Le F.h F'.h->G n [] F' (RC (some l) body P (RQ F' L A J ZR ZX p x)) (σ1 p x) (L::(A++J p)))
  (hn:∀D p,fin p->G n (mark D::ds) F (Q .normal) σ (zH D::(A++J p)++R)) (hr:∀D Zs,ZR Zs->G n (mark D::ds) F (Q .ret) σ (zH D::(A++Zs)++R)) (hx:∀id D Zs,ZX id Zs->G n (mark D::ds) F (Q (.exit id)) σ (zH D::(A++Zs)++R)):
  G n ds F (RC none (Code.rangeFunc g ps.toArray assign body) P Q) σ H:=by
 refine .mk λa w e s=>wpIn_rangeFunc λfn _=> ?_;obtain⟨rec,Ga⟩:∃rec:LoopState->Option Code->Loop,rec=λst pe=>{state:=st,pending:=pe,fn,tmps:=a.tmps,params:=ps.toArray,assign,body,defers:=w.heap.size}:=⟨_,rfl⟩;have e0:(Instr.enterLoop fn a.tmps ps.toArray assign body (y8 none).round).run P w= .ok (w.heap.size+1,[mark w.heap.size]) ((w.alloc (.deferred (some []))).alloc (.loop (rec .ready none))):=by
  rw[Ga];exact run_enterLoop_outer _ _ _ _ _
 have s0:=s.Wn (.deferred (some [])) (zH w.heap.size) (by simp[zH]);have uo:(w.alloc (.deferred (some []))).heap.size=w.heap.size+1:=by show(w.heap.push _).size=_;simp
 have s1:=s0.Wn (.loop (rec .ready none)) (lpo (w.heap.size+1) (rec .ready none)) (by simp[lpo,uo]);generalize (w.alloc (.deferred (some []))).alloc (.loop (rec .ready none))=W1 at*;generalize hl:w.heap.size+1=l at*;generalize hD:w.heap.size=D at*;refine⟨l,[mark D],W1,{target:= .fn (.func gf) cv.toArray,args:=fv.toArray++ #[.func (.yield l) #[] #[]]},W1,gf,(fv++ [Value.func (.yield l) #[] #[]]++cv).toArray,W1,e0, ?_, ?_, ?_,λh=>absurd h (by simp[y8,Fence.wide]), ?_⟩
 ·simp only[resolve,e.eval hg,Deferred.ofValue]
  have:∀a:Act,a.eval (.const (.func (.yield l) #[] #[]))= .func (.yield l) #[] #[]:=λ_=>rfl;simp[this]
 ·intro f' _;trivial
 ·unfold aC at kW
  cases hf:P.funcs[gf]? with
  |none=>simp[hf]at kW
  |some fd=>
   simp only[hf,Bool.and_eq_true,Bool.not_eq_true']at kW;have h1:¬fd.name= "runtime.NumGoroutine" :=by simpa using kW.2
   have h2:¬fd.body=none:=by intro q;rw[q]at kW;simp at kW
   simp[invoke,callFunc,hf];rw[if_neg h1,if_neg h2]
 ·
  let J':List (List Value)->List aa:=λp=>lpo l (rec .ready none)::J p
  let Z':List aa->Prop:=λZs'=>(∃Zs,ZR Zs/\Zs'=lpo l (rec .done (some .ret))::Zs)\/∃id Zs,ZX id Zs/\Zs'=lpo l (rec .done (some (.exit id)))::Zs
  have aib:=lJ l J' Z' (λp x Of F' W hle sW=> ?_)
  ·
   have sA:St F ((A++J' [])++(zH D::R)) W1:=by
    refine s1.sub λh st=> ?_;have q1:ai (lpo l (rec .ready none)::zH D::((A++J [])++R)) h:=aK (λh' wY=>aK (λh'' st''=>de.out h'' st'') wY) st;refine cI ?_ h q1;simp only[J',List.append_assoc,List.cons_append];refine(List.Perm.swap _ _ _).trans ?_;refine(List.Perm.cons _ (D8 (A:=A) (B:=J []++R))).trans ?_;have:List.Perm (zH D::(A++lpo l (rec .ready none)::(J []++R))) (A++lpo l (rec .ready none)::(J []++zH D::R)):=by
     rw[show A++lpo l (rec .ready none)::(J []++R)=(A++lpo l (rec .ready none)::J [])++R from by simp,show A++lpo l (rec .ready none)::(J []++zH D::R)=(A++lpo l (rec .ready none)::J [])++zH D::R from by simp];exact List.perm_middle.symm
    exact this
   obtain⟨a1,a2,a3,fr,hh,st,hlH,rA⟩:=sA;obtain⟨h1,h2,d12,l1,l2,q1,q2⟩:=bx st;have vu:bQ h2 F.h:=rA.left l2
   let F':dC:={F with h:=fA h2 F.h}
   have ia:Le F.h F'.h:=aR vu;have ib:Le h2 F'.h:=aW _ _;have wY:St F' (A++J' []) W1:=⟨a1,a2,a3,bY (l2.trans hlH) fr,h1,q1,l1.trans hlH,(bQ.fA d12.symm (rA.left l1).symm).symm⟩;refine CallsIn.mono (callsIn_wide.2 (aib F' W1 ia wY)) ?_;rintro e' w' ⟨v,H',rfl,hT,sw⟩;have back:∀{X:List aa},St F' X w'->St F (X++zH D::R) w':=λsX=>by
    obtain⟨b1,b2,b3,rC,yZ,st2,yW,kf⟩:=sX;exact⟨b1,b2,b3,ia.trans rC,fA yZ h2,bK st2 q2 (kf.right ib),bY yW (ib.trans rC),bQ.fA (kf.right ia) vu⟩
   have hen:Env n (mark D::ds) σ {a with defers:= [mark D]++a.defers}:=⟨e.size,by simp[e.defers],e.slot⟩;have fl:∀{st:LoopState} {pe:Option Code} {Y:List aa},st≠ .busy->H'=A++lpo l (rec st pe)::Y->∃w4,(Instr.endLoop l).run P w'= .ok pe w4/\St F (zH D::(A++Y)++R) w4:=by
    intro st pe Y gB hH;subst hH;have sb:=back sw;have sp:St F (lpo l (rec st pe)::(zH D::(A++Y)++R)) w':=sb.sub (cI (by
     have p1:List.Perm ((A++lpo l (rec st pe)::Y)++zH D::R) (lpo l (rec st pe)::((A++Y)++zH D::R)):=by
      rw[List.append_assoc,List.cons_append,List.append_assoc];exact List.perm_middle
     exact p1.trans (List.Perm.cons _ (by rw[List.cons_append];exact List.perm_middle))))
    obtain⟨hh,hp,hle⟩:=sp.get;have hw:w'.heap[l]?=some (.loop (rec st pe)):=hle _ _ hp;have Df:=run_endLoop (P:=P) hw (by rw[Ga];exact gB);refine⟨_,by rw[Df,Ga], ?_⟩;rw[qJ];exact St.drop (A:=λ_=>True) (sp.Wi λk hk _=>⟨⟨_,hk⟩,trivial⟩)
   rcases hT with⟨p,abp,hH⟩|⟨Zs',hz,hH⟩
   ·obtain⟨w4,FO,s4⟩:=fl (st:= .ready) (pe:=none) (Y:=J p) (by simp) (by rw[hH])
    exact⟨none,w4,FO,hn D p abp _ _ hen s4⟩
   rcases hz with⟨Zs,hz,rfl⟩|⟨id,Zs,hz,rfl⟩
   ·obtain⟨w4,FO,s4⟩:=fl (st:= .done) (pe:=some .ret) (Y:=Zs) (by simp) (by rw[hH])
    exact⟨some .ret,w4,FO,wpIn_ret (hr D Zs hz _ _ hen s4)⟩
   obtain⟨w4,FO,s4⟩:=fl (st:= .done) (pe:=some (.exit id)) (Y:=Zs) (by simp) (by rw[hH]);exact⟨some (.exit id),w4,FO,wpIn_exit (hx id D Zs hz _ _ hen s4)⟩
  ·
   have sp:St F' (lpo l (rec .ready none)::(A++J p)) W:=sW.sub (cI List.perm_middle);obtain⟨hh0,hp0,hle0⟩:=sp.get;have hwl:W.heap[l]?=some (.loop (rec .ready none)):=hle0 _ _ hp0;have hy:=run_yield (P:=P) (args:=x.toArray) hwl (by rw[Ga];simp[hlen p x Of]);rw[Ga]at hy;refine⟨fn,_,assign,body,hy,roundIn_of_wpIn (F:=Fence.wide) (n:=0) trivial ?_⟩;have henv:Env n [] (xJ ps x σ) {tmps:=(ps.toArray.zip x.toArray).foldl (λtmps (t,a)=>tmps.setIfInBounds t a) a.tmps,defers:= []}:=by
    have:=U3 (σ:=σ) ps x {tmps:=a.tmps,defers:= []} σ hps ⟨e.size,rfl,e.slot⟩
    simpa using this
   have hq:∀(K':Act->World->Prop),G n [] F' K' (σ1 p x) (lpo l (rec .ready none)::(A++J p))->Code.wpIn (Fence.wide.inRound l) 0 P assign (Exit.then K' Zt) {tmps:=(ps.toArray.zip x.toArray).foldl (λtmps (t,a)=>tmps.setIfInBounds t a) a.tmps,defers:= []} W:=λK' hK'=>
    (ha l F' p x _ K' Of hK') _ _ henv sp
   refine hq _ (.mk λa1 w1 en1 st1=> ?_);obtain⟨hh1,vZ,KJ⟩:=st1.get;have hw1:w1.heap[l]?=some (.loop (rec .ready none)):=KJ _ _ vZ;refine⟨_,run_beginRound hw1 (by rw[Ga]), ?_⟩;have st2:St F' (lpo l {rec .ready none with state:= .busy}::(A++J p)) (w1.putObj l (.loop {rec .ready none with state:= .busy})):=by
    rw[qJ];exact st1.Wi λk hk _=>⟨⟨_,hk⟩,by simp[lpo]⟩
   refine wpIn_mono ((hb l F' p x (lpo l {rec .ready none with state:= .busy}) Of hle) _ _ en1 st2) ?_;have abv:∀(jump:Option Code) (Y:List aa) (W3:World),St F' (lpo l {rec .ready none with state:= .busy}::(A++Y)) W3->
     ∃w4,(Instr.endRound l jump).run P W3= .ok (.bool jump.isNone) w4/\St F' (A++lpo l (rec (if jump.isNone then .ready else .done) jump)::Y) w4:=by
    intro jump Y W3 s3;obtain⟨hh3,hp3,hle3⟩:=s3.get;have hw3:W3.heap[l]?=some (.loop {rec .ready none with state:= .busy}):=hle3 _ _ hp3;have Df:=run_endRound (P:=P) jump hw3;refine⟨_,Df, ?_⟩;rw[qJ];have s4:=s3.Wi (o':= .loop {{rec .ready none with state:= .busy}with state:=if jump.isNone then .ready else .done,pending:=jump}) (B:=lpo l (rec (if jump.isNone then .ready else .done) jump)) λk hk _=>⟨⟨_,hk⟩,by simp[lpo,Ga]⟩;exact s4.sub (cI D8)
   rintro ex a3 W3 hp;cases ex with
   |normal=>
    obtain⟨w4,FO,s4⟩:=abv none _ W3 hp;exact⟨_,w4,FO,_,_,rfl, .inl ⟨rfl,rfl⟩,s4⟩
   |ret=>
    obtain⟨Zs,hz,hp⟩:=hp;obtain⟨w4,FO,s4⟩:=abv (some .ret) _ W3 hp;exact⟨_,w4,FO,_,_,rfl, .inr ⟨rfl,_, .inl ⟨Zs,hz,rfl⟩,rfl⟩,s4⟩
   |exit id=>
    obtain⟨Zs,hz,hp⟩:=hp;obtain⟨w4,FO,s4⟩:=abv (some (.exit id)) _ W3 hp;exact⟨_,w4,FO,_,_,rfl, .inr ⟨rfl,_, .inr ⟨id,Zs,hz,rfl⟩,rfl⟩,s4⟩
   |goto t=>exact hp.elim
   |panic ch=>exact hp.elim
   |outgrown=>exact hp.elim
end
end Go.dG
namespace Go.dG
open Go
section
variable {P:Program} {n:Nat} {ds:List Deferred} {F:dC} {Q:Exit->Act->World->Prop} {K:Act->World->Prop} {σ:aZ} {H:List aa} {o:Oper} {d:Nat}
end
end Go.dG
namespace Go.dG
open Go Go.MapKept
section
variable {P:Program} {n:Nat} {ds:List Deferred} {F:dC} {Q:Exit->Act->World->Prop} {K:Act->World->Prop} {σ:aZ} {H:List aa} {o:Oper} {d:Nat}
end
theorem adu{n:Nat}{ds:List Deferred}{F:dC}{K:Act->World->Prop}{σ S:aZ}{H:List aa}(h:G n ds F K S H)(hs:ru S σ:=by exact Sb):G n ds F K σ H:= .mk λa w e s=>h a w (e.sub hs) s
end Go.dG
namespace Go.dG
open Go
section
variable {P:Program} {n:Nat} {ds:List Deferred} {F:dC} {Q:Exit->Act->World->Prop} {K:Act->World->Prop} {σ:aZ} {H:List aa} {ops:Array Oper} {r:Option Nat}
def DM (Q:Exit->Act->World->Prop):Exit->Act->World->Prop
 | .normal,a,w=>Q .normal a w
 |_,_,_=>False
theorem Qo (Q:Exit->Act->World->Prop):¬LetsOut (DM Q):=λ⟨_,_,h⟩=>h
theorem ac3{o:Oper}{a:Act}{w:World}(h:o.wp P a w K (DM Q)):o.wp P a w K Zt:=by
 unfold Oper.wp at*;generalize (execOp a.eval o).run P w=res at*;cases res with
 |ok nx w'=>
  cases nx<;>simp only[Oper.upon]at h⊢<;>first
   |exact h
   |exact h.mono λe w'' he=>by cases e<;>first|exact he|exact he.elim|exact(Qo Q he).elim
 |halt x w'=>cases x<;>simp only[Oper.upon]at h⊢<;>exact h
theorem Hm (hn:nds ops=true):∀(fuel:Nat) (listed:Array Bool) (a:Act) (w:World),wpAny P .any ops (DM Q) fuel listed a w->wpAnyIn (y8 r) 0 P .any ops Q fuel listed a w
 |0,_,_,_,h=>⟨h.1,h.2⟩
 |fuel+1,listed,a,w,h=>by
  by_cases hr:Region.ready .any ops listed= []
  ·exact⟨λ_=>h.1 hr,λi hi=>by rw[hr]at hi;cases hi⟩
  obtain⟨i0,hi0⟩:=List.exists_mem_of_ne_nil _ hr;refine yH hn fuel listed a w ⟨i0,hi0⟩ λi hi=> ?_;have h2:=h.2 i hi;unfold wpOp at h2;cases ho:ops[i]? with
  |none=>
   obtain⟨_,o,h1,_⟩:=mem_ready.1 hi;rw[ho]at h1;cases h1
  |some o=>
   refine⟨o,rfl, ?_⟩;simp only[ho]at h2;unfold rP
   split
   ·rename_i hw
    rw[if_pos hw]at h2;rcases h2 with h2|h2
    ·have h3:=ac3 h2
     refine Oper.wp_mono (λa' w' q=>Hm hn fuel _ a' w' q) h3
    exact(Qo Q h2.2).elim
   rename_i hw
   rw[if_neg hw]at h2;exact Hm hn fuel _ _ _ h2
theorem Dl{id:Nat}{As R:List aa}(hm:P.follows .mixedOrders=true)(de:iI H As R)(hn:nds ops=true)
  (h:∀F':dC,Le F.h F'.h->gP As F'.h->zx F As F'->G n ds F' (wpAnyH P .any ops (DM Q) (cJ F') ops.size (Array.replicate ops.size false)) σ R):G n ds F (RC r (Code.region id ops true) P Q) σ H:=by
 refine .mk λa w e s=> ?_;refine wpIn_region_any hm (Hm hn _ _ _ _ (wpAny_of_held (S:=cJ {F with h:= ?_}) _ _ _ _ ?_))
 ·exact fA (Classical.choose (bx (de.out _ (Classical.choose_spec s.own).1))) F.h
 generalize hA:Classical.choose (bx (de.out _ (Classical.choose_spec s.own).1))=h1;have spec:=Classical.choose_spec (bx (de.out _ (Classical.choose_spec s.own).1));rw[hA]at spec;obtain⟨h2,d12,l1,l2,s1,s2⟩:=spec;have jg:=(Classical.choose_spec s.own).2;have AX:bQ h1 F.h:=jg.2.left l1;refine h {F with h:=fA h1 F.h} (aR AX) (cq s1 (aW _ _)) ?_ a _ e ?_
 ·intro R' w' s'
  obtain⟨b1,b2,b3,fr,hh,st,hl,hd⟩:=s';exact⟨b1,b2,b3,(aR AX).trans fr,fA h1 hh,bK s1 st (hd.right (aW _ _)).symm,bY ((aW _ _).trans fr) hl,bQ.fA AX (hd.right (aR AX))⟩
 exact⟨s.os,⟨s.tape.1,Nat.le_succ_of_le s.tape.2⟩,s.output,bY (l1.trans jg.1) s.frame,h2,s2,l2.trans jg.1,(bQ.fA d12 (jg.2.left l2).symm).symm⟩
theorem xTB{id:Nat}{As R:List aa}(k:Nat)(hm:P.follows .mixedOrders=true)(de:iI H As R)
  (h:∀F':dC,Le F.h F'.h->gP As F'.h->zx F As F'->G n ds F' (TT P ops F' (TT P ops F (Q .normal) ((sM (Wb P true ops) ops).drop k)) ((sM (Wb P true ops) ops).take k)) σ R) (ok:A7 k (Wb P true ops) ops=true:=by kernel_rfl) (hn:nds ops=true:=by kernel_rfl):G n ds F (RC r (Code.region id ops true) P Q) σ H:=by
 refine .mk λa w e s=> ?_;obtain⟨a1,a2,a3,fr,hh,st,hl,rA⟩:=s;obtain⟨h1,h2,d12,l1,l2,s1,s2⟩:=bx (de.out _ st);have AX:bQ h1 F.h:=rA.left l1
 let F':dC:={F with h:=fA h1 F.h}
 have hb:zx F As F':=by
  intro R' w' s';obtain⟨b1,b2,b3,rC,yZ,wY,yW,hd'⟩:=s';exact⟨b1,b2,b3,(aR AX).trans rC,fA h1 yZ,bK s1 wY (hd'.right (aW _ _)).symm,bY ((aW _ _).trans rC) yW,bQ.fA AX (hd'.right (aR AX))⟩
 have s':St F' R {w with drawn:=w.drawn+1}:=⟨a1,⟨a2.1,Nat.le_succ_of_le a2.2⟩,a3,bY (l1.trans hl) fr,h2,s2,l2.trans hl,(bQ.fA d12 (rA.left l2).symm).symm⟩;refine wpIn_region_any hm (I6 (k:=k) (fl:=Wb P true ops) (S1:=cJ F') (S2:=cJ F) (WA:=wpAnyIn (y8 r) 0 P .any ops Q) (yH hn) (λlisted a w hr hq=>⟨hr,hq⟩) ok ?_ s'.frame);exact(h F' (aR AX) (cq s1 (aW _ _)) hb a _ e s').2
theorem fX (h:G n ds F (Q .normal) σ H):G n ds F (DM Q .normal) σ H:=h
theorem qm{b ty t:Nat}{e:TypeId}{v:Value}{R:List aa}{w:World}{a:Act}(en:Env n ds σ a)(st:St F (af b e [v]::R) w)(hs:db P ty=true)(ht:look σ t=some (.pointer (some ⟨b,0,none⟩))):
  (asAddr (a.tmps.getD t undef)).run P w= .ok ⟨b,0,none⟩ w/\(loadVar ty ⟨b,0,none⟩).run P w= .ok v w:=by
 obtain⟨h1,hp,hl⟩:=st.get;have hg:a.tmps.getD t undef= .pointer (some ⟨b,0,none⟩):=by simp[en.slot t _ ht]
 have h2:=u9 (P:=P) hs (w:=w) (nJ hl (fJ hp (i:=0) (v:=v) rfl));rw[hg];exact⟨by simp[asAddr],by simpa[Instr.loadAt,Instr.sureAddr]using h2⟩
theorem kB{fn:Func}{T:Value->List aa->Prop}{t u s tt tu ts b c d:Nat}{et eu es:TypeId}{x y z:Value}(Ds:List Nat)(H':List aa)(ht:db P tt=true)(hu:db P tu=true)(hs:db P ts=true)(hr:fn.results= #[.cell t tt, .cell u tu, .cell s ts])
  (hR:T (.tuple #[x,y,z]) H') (l1:look σ t=some (.pointer (some ⟨b,0,none⟩)):=by exact rfl) (l2:look σ u=some (.pointer (some ⟨c,0,none⟩)):=by exact rfl) (l3:look σ s=some (.pointer (some ⟨d,0,none⟩)):=by exact rfl)
  (hh:∀h,ai H h->ai (Ds.map zH++af b et [x]::af c eu [y]::af d es [z]::H') h:=by exact Eh):
  G n (Ds.map mark) F (aaB P fn (λe w'=>∃v H',e= .returned v/\T v H'/\St F H' w') .ret) σ H:=
 .mk λa w e st=>by
  show LeavesInM _ _ _ _ _ _ _ _ _;rw[e.defers];refine ade Ds w (st.sub hh) λw' s'=>⟨.tuple #[x,y,z], ?_,_,H',rfl,hR,s'.drop.drop.drop⟩;have e':Env n (Ds.map mark) σ a:=e;obtain⟨a1,a2⟩:=qm (P:=P) e s' ht l1;obtain⟨b1,b2⟩:=qm (P:=P) e s'.drop hu l2;obtain⟨c1,c2⟩:=qm (P:=P) e s'.drop.drop hs l3;simp only[results,hr];simp at a1 b1 c1;simp[a1,a2,b1,b2,c1,c2]
def Gf (P:Program)(s f:Nat):Option (Nat×TypeId):=match P.underlying s with
 |some (.struct fs)=>(fs[f]?).map λx=>(x.offset,x.type)
 |_=>none
theorem Fgs{o:Oper}{s f k:Nat}{e:TypeId}{x:Operand}{cs:List Value}{v:Value}(hk:Gf P s f=some (k,e))(he:db P e=true)(ho:o.op= .field s x f:=by exact rfl)(hx:bJ σ x=some (.agg cs.toArray):=by exact rfl)(hv:cs[k]?=some v:=by exact rfl):Yv P n ds F σ o v:=λa w en fr=>by
 obtain⟨h1,h2⟩:=qI (w:=w) he;unfold Gf at hk;cases hu:P.underlying s with
 |none=>simp[hu]at hk
 |some d=>
  cases d<;>simp[hu]at hk
  rename_i fs
  obtain⟨y,hf,e1,e2⟩:=hk;subst e1;subst e2;simp[execOp,ho,Instr.field,en.eval hx,run_underlying hu,hf,asAgg,part,h1,h2,hv]
theorem abG{fn:Func}{T:Value->List aa->Prop}{t u tt tu b c:Nat}{et eu:TypeId}{x y:Value}(H':List aa)(ht:db P tt=true)(hu:db P tu=true)(hr:fn.results= #[.cell t tt, .cell u tu])
  (hR:T (.tuple #[x,y]) H') (l1:look σ t=some (.pointer (some ⟨b,0,none⟩)):=by exact rfl) (l2:look σ u=some (.pointer (some ⟨c,0,none⟩)):=by exact rfl)
  (hh:∀h,ai H h->ai (af b et [x]::af c eu [y]::H') h:=by exact Eh):
  G n [] F (bodyPost P fn (λe w'=>∃v H',e= .returned v/\T v H'/\St F H' w') .ret) σ H:=
 .mk λa w e st=>⟨e.defers, .tuple #[x,y],by
  have s':=st.sub hh;obtain⟨a1,a2⟩:=qm (P:=P) e s' ht l1;obtain⟨b1,b2⟩:=qm (P:=P) e s'.drop hu l2;simp only[results,hr];simp at a1 b1;simp[a1,a2,b1,b2],_,H',rfl,hR,(st.sub hh).drop.drop⟩
end
end Go.dG
namespace Go.dG
open Go
section
variable {P:Program} {n:Nat} {ds:List Deferred} {F:dC} {Q:Exit->Act->World->Prop} {K:Act->World->Prop} {σ:aZ} {H:List aa} {o:Oper} {d:Nat}
def Oj (f:FuncId)(args cv:List Value):Deferred:={target:= .fn (.func f) cv.toArray,args:=args.toArray}
theorem oDv{f:FuncId}{x:Operand}{xs:List Operand}{vs cv:List Value}{rT:Array TypeId}(h:G n (Oj f vs cv::ds) F K σ H)(ho:o.op= .defer {callee:= .value x,args:=xs.toArray,argTypes:=rT}:=by exact rfl)(hx:bJ σ x=some (.func (.func f) #[] cv.toArray):=by exact rfl)(hv:ki σ xs=some vs:=by exact rfl)(hd:o.dst=none:=by exact rfl):
  G n ds F (λa w=>o.wp P a w K Q) σ H:=by
 refine .mk λa w en s=> ?_;have hvs:=en.vD hv;have:(execOp a.eval o).run P w= .ok (.defer (Oj f vs cv)) w:=by
  simp[execOp,ho,resolve,Deferred.ofValue,en.eval hx,Oj,<-hvs]
 unfold Oper.wp;rw[this,Oper.upon_defer,hd];exact h _ _ ⟨en.size,by simp[Act.put,en.defers],en.slot⟩ s
theorem adb{fn:Func}{f:FuncId}{vs cv:List Value}{pre:Hp->Prop}{As R:List aa}{T T':Value->List aa->Prop}(hc:FnD P f (vs++cv) pre As T)(de:iI H As R)(iH:∀h,Le F.h h->gP R h->pre h){a:Act}{w:World}{rv:Value}{H':List aa}
  (en:Env n [Oj f vs cv] σ a) (s:St F H w) (hr:∀w',(results fn a.tmps).run P w'= .ok rv w') (hT:∀v Hx,T v Hx->T' rv H'/\∀h,ai (Hx++R) h->ai H' h):
  Leaves P fn a.tmps (λe w'=>∃v H',e= .returned v/\T' v H'/\St F H' w') a.defers .returning w:=by
 rw[en.defers];obtain⟨kW,hc⟩:=hc;unfold aC at kW;cases hf:P.funcs[f]? with
 |none=>simp[hf]at kW
 |some fd=>
  simp only[hf,Bool.and_eq_true,Bool.not_eq_true']at kW;refine⟨by simp, .func f,cv.toArray,f,(vs++cv).toArray,rfl, ?_, ?_⟩
  ·have h1:¬fd.name= "runtime.NumGoroutine" :=by simpa using kW.2
   have h2:¬fd.body=none:=by intro q;rw[q]at kW;simp at kW
   simp[Oj,invoke,callFunc,hf];rw[if_neg h1,if_neg h2]
  obtain⟨a1,a2,a3,fr,hh,st,hl,rA⟩:=s;obtain⟨h1,h2,d12,l1,l2,s1,s2⟩:=bx (de.out _ st);have vu:bQ h2 F.h:=rA.left l2
  let F':dC:={F with h:=fA h2 F.h}
  have ia:Le F.h F'.h:=aR vu;have ib:Le h2 F'.h:=aW _ _;have wY:St F' As w:=⟨a1,a2,a3,bY (l2.trans hl) fr,h1,s1,l1.trans hl,(bQ.fA d12.symm (rA.left l1).symm).symm⟩;refine(hc F' w .returning (iH _ ia (cq s2 ib)) wY).mono ?_;rintro e u' w' ⟨rfl,v,Hx,rfl,hTx,sw⟩;obtain⟨b1,b2,b3,rC,yZ,st2,yW,kf⟩:=sw;obtain⟨t1,t2⟩:=hT v Hx hTx;refine⟨rv,hr _,rv,H',rfl,t1,⟨b1,b2,b3,ia.trans rC,fA yZ h2,t2 _ (bK st2 s2 (kf.right ib)),bY yW (ib.trans rC),bQ.fA (kf.right ia) vu⟩⟩
theorem ahb{fn:Func}{f:FuncId}{vs cv:List Value}{pre:Hp->Prop}{As R:List aa}{T T':Value->List aa->Prop}(H':List aa)(hrs:fn.results= #[])(hc:FnD P f (vs++cv) pre As T)(de:iI H As R)(iH:∀h,Le F.h h->gP R h->pre h)
  (hT:∀v Hx,T v Hx->T' (.tuple #[]) H'/\∀h,ai (Hx++R) h->ai H' h):G n [Oj f vs cv] F (aaA P fn (λe w'=>∃v H',e= .returned v/\T' v H'/\St F H' w') .normal) σ H:=
 .mk λa w en s=>adb hc de iH en s (λw'=>results_none hrs _ _ _) hT
theorem CP{t u e:TypeId}{x:Operand}{l:List UInt8}(hs:P.underlying t=some .string)(hu:P.underlying u=some (.slice e))(he:P.underlying e=some (.int .u8))(h:∀b c,l.length<=c->G n ds F K ((d, .slice (some ⟨b,0,none⟩) l.length c)::σ) (own (some ⟨b,0,none⟩) c e 1 (ax l)::H))
  (ho:o.op= .convert t u x:=by exact rfl) (hx:bJ σ x=some (bD l):=by exact rfl) (hd:o.dst=some d:=by exact rfl) (hdn:Nat.blt d n=true:=by exact rfl) (hl:l.length<=9223372036854775807:=by omega):G n ds F (λa w=>o.wp P a w K Q) σ H:=by
 refine .mk λa w en s=> ?_;have Df:=run_bytes_of_string (P:=P) w t u e ⟨l.toArray⟩ hs hu he;have uo:(⟨l.toArray⟩:ByteArray).size=l.length:=by simp[ByteArray.size]
 rw[uo]at Df;have IB:=grownCap_ge w l.length 0 e;have hle:=grownCap_le_maxLen w l.length 0 e (by simp only[maxLen];omega);generalize grownCap w l.length 0 e=c at*;unfold Oper.wp;have h2:(execOp a.eval o).run P w= .ok (.value (.slice (some ⟨w.heap.size,0,none⟩) l.length c)) (w.drew.alloc (.cells (bytesRow ⟨l.toArray⟩ c) e ((bytesRow ⟨l.toArray⟩ c).size,(bytesRow ⟨l.toArray⟩ c).size+1))):=by
  simp only[execOp,ho,en.eval hx,bD,Sem.run_bind,Df];rfl
 rw[h2,Oper.upon_value,hd];refine h _ _ IB _ _ (en.put hdn _) ?_;have wj:(bytesRow ⟨l.toArray⟩ c).toList=ax l++List.replicate (c-l.length) (.int .u8 0):=by
  unfold bytesRow ax;rw[uo];simp
 refine(s.drawn (w.drawn+1)).Wn _ _ ?_;have hlen:(ax l++List.replicate (c-l.length) (Value.int .u8 0)).length=c:=by
  unfold ax;rw[List.length_append,List.length_map,List.length_replicate];omega
 have p:af w.heap.size e (ax l++List.replicate (c-l.length) (.int .u8 0)) λx=>if x=w.heap.size then some (.cells (bytesRow ⟨l.toArray⟩ c) e ((bytesRow ⟨l.toArray⟩ c).size,(bytesRow ⟨l.toArray⟩ c).size+1))else none:=by
  refine .mk _ _ (.inr ?_) (by
   rw[if_pos rfl,<-wj,Array.toArray_toList])
  rw[<-wj];simp
 have q:=xZ (oP p c 1 (by rw[hlen,Nat.mul_one]) hle) l.length;have e1:(ax l++List.replicate (c-l.length) (Value.int .u8 0)).take l.length=ax l:=by
  have:(ax l).length=l.length:=List.length_map _;rw[<-this,List.take_left]
 rw[e1]at q;exact q
theorem oTs{s t e e':TypeId}{x:Operand}{a:Option Addr}{l:List UInt8}{m c cap sz:Nat}{R:List aa}(hs:dK P s=some (e,sz))(he:P.underlying e=some (.int .u8))(ht:P.underlying t=some .string)(h:G n ds F K ((d,bD l)::σ) H)
  (ho:o.op= .convert s t x:=by exact rfl) (hx:bJ σ x=some (.slice a m c):=by exact rfl) (de:fD H (own a cap e' 1 (ax l)) R:=by repeat (first|exact fD.here|apply fD.there)) (hd:o.dst=some d:=by exact rfl) (hdn:Nat.blt d n=true:=by exact rfl) (hm:m=l.length:=by first|rfl|omega):
  G n ds F (λa w=>o.wp P a w K Q) σ H:=
 sf hd hdn (λac w en st=>by
  obtain⟨h1,hp,hl⟩:=(st.vW de).get;subst hm;have hr':=tY (P:=P) (c:=c) ((oD hp).mono hl);have:=run_underlying (P:=P) (kJ hs).1 w;cases a with
  |none=>simp[execOp,ho,en.eval hx,convert,this,run_underlying ht,run_underlying he,hr']
  |some ad=>simp[execOp,ho,en.eval hx,convert,this,run_underlying ht,run_underlying he,hr']) h
end
end Go.dG
namespace Go.dG
open Go
section
variable {P:Program} {n:Nat} {ds:List Deferred} {F:dC} {Q:Exit->Act->World->Prop} {K:Act->World->Prop} {σ:aZ} {H:List aa} {o:Oper} {d:Nat}
def pe (v:Value):PanicEntry:={v:=v,recovered:=false}
def PoP (F:dC)(R T:Value->List aa->Prop)(e:Ending)(w:World):Prop:=∃v H',(e= .returned v/\R v H'\/e= .panicked [pe v]/\T v H')/\St F H' w
def We (P:Program)(f:FuncId)(args:List Value)(pre:Hp->Prop)(H:List aa)(R T:Value->List aa->Prop):Prop:=
 ∀F w,pre F.h->St F H w->Calls P f args.toArray w (PoP F R T)
theorem ml{f:FuncId}{fn:Func}{c:Code}{args:List Value}{pre:Hp->Prop}{R T:Value->List aa->Prop}{m:Nat}(hf:P.funcs[f]?=some fn)(hb:fn.body=some c)(hm:fn.ntmps=m)(hn:Nat.ble args.length m=true)
  (h:∀F:dC,pre F.h->G m [] F (c.wp P (bodyPost P fn (PoP F R T))) (jP 0 args) H):We P f args pre H R T:=
 λF w hp s=>calls_of_wp hf hb (by
  subst hm;exact h F hp _ _ (Di args _ (Nat.le_of_ble_eq_true hn)) s)
theorem pR{fn:Func}{R T:Value->List aa->Prop}(h:G n ds F (bodyPost P fn (λe w'=>∃v H',e= .returned v/\R v H'/\St F H' w') .ret) σ H):G n ds F (bodyPost P fn (PoP F R T) .ret) σ H:=
 .mk λa w e s=>by
  obtain⟨h1,v,h2,v',H',q,r,s'⟩:=h a w e s;exact⟨h1,v,h2,v',H', .inl ⟨q,r⟩,s'⟩
theorem pN{fn:Func}{R T:Value->List aa->Prop}(h:G n ds F (bodyPost P fn (λe w'=>∃v H',e= .returned v/\R v H'/\St F H' w') .normal) σ H):G n ds F (bodyPost P fn (PoP F R T) .normal) σ H:=
 .mk λa w e s=>by
  obtain⟨h1,v,h2,v',H',q,r,s'⟩:=h a w e s;exact⟨h1,v,h2,v',H', .inl ⟨q,r⟩,s'⟩
theorem pP{R T:Value->List aa->Prop}{v:Value}(H':List aa)(hT:T v H')(hh:∀h,ai H h->ai H' h:=by exact Eh):G n [] F (λa w=>a.defers= []/\PoP F R T (.panicked [pe v]) w) σ H:=
 .mk λa w e s=>⟨e.defers,v,H', .inr ⟨rfl,hT⟩,s.sub hh⟩
theorem VA{t:TypeId}{x:Operand}{v:Value}(h:G n ds F (Q (.panic [pe (.iface t v)])) σ H)(ho:o.op= .panic x:=by exact rfl)(hx:bJ σ x=some (.iface t v):=by exact rfl):G n ds F (λa w=>o.wp P a w K Q) σ H:=by
 refine .mk λa w en s=> ?_;have h2:(execOp a.eval o).run P w= .halt (.panic (.iface t v)) w:=by
  simp only[execOp,ho,en.eval hx,Sem.run_bind,run_panic_iface];rfl
 unfold Oper.wp;rw[h2,Oper.upon_panic];exact h a w en s
theorem Ov{f:FuncId}{xs:List Operand}{vs:List Value}{rT:Array TypeId}{pre:Hp->Prop}{A2 R:List aa}{Tr Tp:Value->List aa->Prop}(kW:aC P f=true)(ho:o.op= .call {callee:= .value (.func f),args:=xs.toArray,argTypes:=rT})(hv:ki σ xs=some vs)(hc:We P f vs pre A2 Tr Tp)(de:iI H A2 R)(iH:∀h,Le F.h h->gP R h->pre h)
  (hp:∀v H',Tp v H'->G n ds F (Q (.panic [pe v])) σ (H'++R)) (h:∀v H',Tr v H'->G n ds F K ((d,v)::σ) (H'++R)) (hd:o.dst=some d:=by exact rfl) (hdn:Nat.blt d n=true:=by exact rfl):
  G n ds F (λa w=>o.wp P a w K Q) σ H:=by
 refine .mk λa w en s=> ?_;unfold aC at kW;cases hf:P.funcs[f]? with
 |none=>simp[hf]at kW
 |some fn=>
  simp only[hf,Bool.and_eq_true,Bool.not_eq_true']at kW;unfold Oper.wp;rw[D1 ho rfl (en.vD hv) hf kW.1 kW.2,Oper.upon_enter];obtain⟨a1,a2,a3,fr,hh,st,hl,rA⟩:=s;obtain⟨h1,h2,d12,l1,l2,s1,s2⟩:=bx (de.out _ st);have vu:bQ h2 F.h:=rA.left l2
  let F':dC:={F with h:=fA h2 F.h}
  have ia:Le F.h F'.h:=aR vu;have ib:Le h2 F'.h:=aW _ _;have wY:St F' A2 w:=⟨a1,a2,a3,bY (l2.trans hl) fr,h1,s1,l1.trans hl,(bQ.fA d12.symm (rA.left l1).symm).symm⟩;refine(hc F' w (iH _ ia (cq s2 ib)) wY).mono ?_;rintro e w' ⟨v,H',q,sw⟩;obtain⟨b1,b2,b3,rC,yZ,st2,yW,kf⟩:=sw;have sF:St F (H'++R) w':=⟨b1,b2,b3,ia.trans rC,fA yZ h2,bK st2 s2 (kf.right ib),bY yW (ib.trans rC),bQ.fA (kf.right ia) vu⟩;rcases q with⟨rfl,hT⟩|⟨rfl,hT⟩
  ·rw[hd]
   exact h v H' hT _ _ (en.put hdn v) sF
  exact hp v H' hT _ _ en sF
theorem Uc{f:FuncId}{fn:Func}{c:Code}{args:List Value}{pre:Hp->Prop}{R:Value->List aa->Prop}{m:Nat}(hf:P.funcs[f]?=some fn)(hb:fn.body=some c)(hm:fn.ntmps=m)(hn:Nat.ble args.length m=true)
  (h:∀F:dC,pre F.h->G m [] F (c.wp P (bodyPostD P fn λe w'=>∃v H',e= .returned v/\R v H'/\St F H' w')) (jP 0 args) H):aO P f args pre H R:=
 λF w hp s=>calls_of_wp_defers hf hb (by
  subst hm;exact h F hp _ _ (Di args _ (Nat.le_of_ble_eq_true hn)) s)
def KQ (P:Program)(f:FuncId)(args:List Value)(u u':FrameMode)(pre:Hp->Prop)(H:List aa)(R:Value->List aa->Prop):Prop:=
 aC P f=true/\∀F w,pre F.h->St F H w->CallsD P f args.toArray u w λe x w'=>x=u'/\∃v H',e= .returned v/\R v H'/\St F H' w'
theorem QB{fn:Func}{f:FuncId}{vs cv:List Value}{u u':FrameMode}{pre:Hp->Prop}{As R:List aa}{T T':Value->List aa->Prop}{t ty b i k:Nat}{e:TypeId}(H':List aa)(hs:cG P ty=some k)(hr:fn.results= #[.cell t ty])(ht:look σ t=some (.pointer (some ⟨b,i,none⟩)))(hc:KQ P f (vs++cv) u u' pre As T)(hu:u≠ .run)(hu':settle u'= .returning)(de:iI H As R)(iH:∀h,Le F.h h->gP R h->pre h){a:Act}{w:World}
  (en:Env n [Oj f vs cv] σ a) (s:St F H w) (hT:∀v Hx,T v Hx->∃cs ws R',fD (Hx++R) (af b e cs) R'/\(cs.drop i).take k=ws/\ws.length=k/\T' (.agg ws.toArray) H'/\∀h,ai (Hx++R) h->ai H' h):
  Leaves P fn a.tmps (λe w'=>∃v H',e= .returned v/\T' v H'/\St F H' w') a.defers u w:=by
 have OH:=en;rw[en.defers];obtain⟨kW,hc⟩:=hc;unfold aC at kW;cases hf:P.funcs[f]? with
 |none=>simp[hf]at kW
 |some fd=>
  simp only[hf,Bool.and_eq_true,Bool.not_eq_true']at kW;refine⟨hu, .func f,cv.toArray,f,(vs++cv).toArray,rfl, ?_, ?_⟩
  ·have h1:¬fd.name= "runtime.NumGoroutine" :=by simpa using kW.2
   have h2:¬fd.body=none:=by intro q;rw[q]at kW;simp at kW
   simp[Oj,invoke,callFunc,hf];rw[if_neg h1,if_neg h2]
  obtain⟨a1,a2,a3,fr,hh,st,hl,rA⟩:=s;obtain⟨h1,h2,d12,l1,l2,s1,s2⟩:=bx (de.out _ st);have vu:bQ h2 F.h:=rA.left l2
  let F':dC:={F with h:=fA h2 F.h}
  have ia:Le F.h F'.h:=aR vu;have ib:Le h2 F'.h:=aW _ _;have wY:St F' As w:=⟨a1,a2,a3,bY (l2.trans hl) fr,h1,s1,l1.trans hl,(bQ.fA d12.symm (rA.left l1).symm).symm⟩;refine(hc F' w (iH _ ia (cq s2 ib)) wY).mono ?_;rintro e1 x w' ⟨rfl,v,Hx,rfl,hTx,sw⟩;obtain⟨b1,b2,b3,rC,yZ,st2,yW,kf⟩:=sw;have sF:St F (Hx++R) w':=⟨b1,b2,b3,ia.trans rC,fA yZ h2,bK st2 s2 (kf.right ib),bY yW (ib.trans rC),bQ.fA (kf.right ia) vu⟩;obtain⟨cs,ws,R',hse,hv,hk,t1,t2⟩:=hT v Hx hTx;obtain⟨g1,g2⟩:=tS (P:=P) OH sF ht hs hse hv hk;show Leaves P fn a.tmps _ [] (settle x) w';rw[hu'];refine⟨.agg ws.toArray, ?_,_,H',rfl,t1,sF.sub t2⟩;simp only[results,hr];simp at g1;simp[g1,g2]
theorem RrC{fn:Func}{f:FuncId}{vs cv:List Value}{pre:Hp->Prop}{As R:List aa}{T T':Value->List aa->Prop}{t ty b i k:Nat}{e:TypeId}(H':List aa)(hs:cG P ty=some k)(hr:fn.results= #[.cell t ty])(hc:KQ P f (vs++cv) .returning .returning pre As T)(de:iI H As R)(iH:∀h,Le F.h h->gP R h->pre h)
  (hT:∀v Hx,T v Hx->∃cs ws R',fD (Hx++R) (af b e cs) R'/\(cs.drop i).take k=ws/\ws.length=k/\T' (.agg ws.toArray) H'/\∀h,ai (Hx++R) h->ai H' h) (ht:look σ t=some (.pointer (some ⟨b,i,none⟩)):=by exact rfl):
  G n [Oj f vs cv] F (bodyPostD P fn (λe w'=>∃v H',e= .returned v/\T' v H'/\St F H' w') .ret) σ H:=
 .mk λ_ _ en s=>QB H' hs hr ht hc (by simp) rfl de iH en s hT
theorem RpC{fn:Func}{f:FuncId}{vs cv:List Value}{pre:Hp->Prop}{As R:List aa}{T T':Value->List aa->Prop}{t ty b i k:Nat}{e:TypeId}{x:Value}(H':List aa)(hs:cG P ty=some k)(hr:fn.results= #[.cell t ty])(hc:KQ P f (vs++cv) (.panicking [pe x]) (.panicking [{v:=x,recovered:=true}]) pre As T)(de:iI H As R)(iH:∀h,Le F.h h->gP R h->pre h)
  (hT:∀v Hx,T v Hx->∃cs ws R',fD (Hx++R) (af b e cs) R'/\(cs.drop i).take k=ws/\ws.length=k/\T' (.agg ws.toArray) H'/\∀h,ai (Hx++R) h->ai H' h) (ht:look σ t=some (.pointer (some ⟨b,i,none⟩)):=by exact rfl):
  G n [Oj f vs cv] F (bodyPostD P fn (λe w'=>∃v H',e= .returned v/\T' v H'/\St F H' w') (.panic [pe x])) σ H:=
 .mk λ_ _ en s=>QB H' hs hr ht hc (by simp) rfl de iH en s hT
theorem acH{ops:Array Oper}{i:Nat}{rest:List Nat}{o:Oper}{a:Act}{cs:List Frame}{w w':World}{v:Value}{Q:Exit->Act->List Frame->World->Prop}(ho:ops[i]?=some o)(hg:o.guard=none)(hr:(execOp a.eval o).run P w= .ok (.value v) w')(h:wpOpsS P ops Q rest (a.put o.dst v) cs w'):wpOpsS P ops Q (i::rest) a cs w:=by
 simp only[wpOpsS,ho,Region.wanted,hg,if_true,hr];exact h
theorem acI{ops:Array Oper}{i:Nat}{rest:List Nat}{o:Oper}{a:Act}{cs cs':List Frame}{w w':World}{v:Value}{Q:Exit->Act->List Frame->World->Prop}(ho:ops[i]?=some o)(hg:o.guard=none)(hr:(execOp a.eval o).run P w= .ok .recover w')
  (hc:recoverD cs=some (v,cs')\/recoverD cs=none/\v= .nilIface/\cs'=cs) (h:wpOpsS P ops Q rest (a.put o.dst v) cs' w'):wpOpsS P ops Q (i::rest) a cs w:=by
 simp only[wpOpsS,ho,Region.wanted,hg,if_true,hr];rcases hc with hc|⟨hc,rfl,rfl⟩
 ·rw[hc];exact h
 rw[hc];exact h
theorem QL{f:FuncId}{fn:Func}{rest:Code}{args:List Value}{pre:Hp->Prop}{R:Value->List aa->Prop}{m id t1 t2:Nat}{o1 o2:Oper}{rT:Array TypeId}{u u':FrameMode}{rv:Value}(hi:aC P f=true)(hf:P.funcs[f]?=some fn)(hb:fn.body=some (.seq (.region id #[o1,o2] false) rest))(hm:fn.ntmps=m)(hn:Nat.ble args.length m=true)
  (h1:o1.op= .call {callee:= .builtin .recover,args:= #[],argTypes:=rT}) (g1:o1.guard=none) (d1:o1.dst=some t1) (h2:o2.op= .assign (.tmp t1)) (g2:o2.guard=none) (d2:o2.dst=some t2) (ht1:Nat.blt t1 m=true) (qq:Nat.blt t2 m=true)
  (hu:(u= .returning/\rv= .nilIface/\u'= .returning)\/(u= .panicking [pe rv]/\u'= .panicking [{v:=rv,recovered:=true}]))
  (h:∀F:dC,pre F.h->G m [] F (rest.wp P (bodyPost P fn λe w'=>∃v H',e= .returned v/\R v H'/\St F H' w')) ((t2,rv)::(t1,rv)::jP 0 args) H):KQ P f args u u' pre H R:=by
 refine⟨hi,λF w hp s=>callsD_of_wpS hf hb λc₀ cs hc0=> ?_⟩;subst hm;have en:=Di args _ (Nat.le_of_ble_eq_true hn);refine wpS_seq (wpS_region ?_);have r1:(execOp (Act.eval {tmps:=args.toArray++Array.replicate (fn.ntmps-args.toArray.size) undef,defers:= []}) o1).run P w= .ok .recover w:=by
  simp only[execOp,h1];rfl
 have hc:recoverD (c₀::cs)=some (rv,{c₀ with mode:=u'}::cs)\/recoverD (c₀::cs)=none/\rv= .nilIface/\{c₀ with mode:=u'}::cs=c₀::cs:=by
  rcases hu with⟨e1,e2,e3⟩|⟨e1,e2⟩
  ·refine .inr ⟨?_,e2, ?_⟩
   ·unfold recoverD
    dsimp only;rw[hc0,e1]
   rw[e3,<-e1,<-hc0]
  refine .inl ?_;unfold recoverD;dsimp only;rw[hc0,e1,e2];rfl
 have en1:=en.put ht1 rv;have en2:=en1.put qq rv;refine acI (o:=o1) rfl g1 r1 hc ?_;rw[d1];refine acH (o:=o2) (v:=rv) rfl g2 (w':=w) ?_ ?_
 ·simp only[execOp,h2,en1.eval (x:= .tmp t1) (v:=rv) (by simp[bJ,look])]
  rfl
 rw[d2];refine wpS_of_wp ?_;refine wp_mono (h F hp _ _ en2 s) λx a' w' q=> ?_;cases x with
 |normal=>obtain⟨q1,v,q2,q3⟩:=q;exact⟨q1,u',rfl,v,q2,rfl,q3⟩
 |ret=>obtain⟨q1,v,q2,q3⟩:=q;exact⟨q1,u',rfl,v,q2,rfl,q3⟩
 |panic ch=>obtain⟨_,v,H',q3,_⟩:=q;cases q3
 |exit id=>exact q.elim
 |goto l=>exact q.elim
 |outgrown=>obtain⟨v,H',q3,_⟩:=q;cases q3
end
end Go.dG
namespace Go.dG
open Go
class Cells (A:aa)(b:outParam Nat)(cs:outParam (List Value)):Prop where
 get:∀h,A h->∀(i:Nat) (v:Value),cs[i]?=some v->eZ h ⟨b,i,none⟩=some v
class ou (H:List aa)(b:Nat)(cs:outParam (List Value)):Prop where
 get:∀h,gP H h->∀(i:Nat) (v:Value),cs[i]?=some v->eZ h ⟨b,i,none⟩=some v
instance ou.here{A:aa}{R:List aa}{b:Nat}{cs:List Value}[c:Cells A b cs]:ou (A::R) b cs:=
 ⟨λ_ ao i v e=>by obtain⟨⟨k,a,l⟩,_⟩:=ao;exact cU l (c.get k a i v e)⟩
instance ou.there{A:aa}{R:List aa}{b:Nat}{cs:List Value}[c:ou R b cs]:ou (A::R) b cs:=
 ⟨λh ao i v e=>c.get h ao.2 i v e⟩
class r8 (A:aa)(b i:Nat)(v:Value)(A':outParam aa):Prop where
 cut:∀h,A h->∃e cs R,i<cs.length/\ai (af b e cs::R) h/\∀k,ai (af b e (cs.set i v)::R) k->A' k
class Gh (H:List aa)(b i:Nat)(v:Value)(H':outParam (List aa)):Prop where
 cut:∀h,ai H h->∃e cs R,i<cs.length/\ai (af b e cs::R) h/\∀k,ai (af b e (cs.set i v)::R) k->ai H' k
theorem Ad{A:aa}{h:Hp}(a:A h):ai [A] h:=⟨h,λ_=>none,λ_=> .inr rfl,Le.refl h,λb o e=>by simp at e,a,trivial⟩
theorem qK{A B:aa}{R:List aa}{h1 h2 h:Hp}(d:bQ h1 h2)(l1:Le h1 h)(l2:Le h2 h){X:List aa}(x:ai X h1)(r:ai R h2):ai (X++R) h:=eL (bK x r d) (bY l1 l2)
instance Gh.here{A A':aa}{R:List aa}{b i:Nat}{v:Value}[c:r8 A b i v A']:Gh (A::R) b i v (A'::R):=
 ⟨λh s=>by
  obtain⟨h1,h2,d,l1,l2,a,s⟩:=s;obtain⟨e,cs,R0,hi,s1,back⟩:=c.cut h1 a;refine⟨e,cs,R0++R,hi,qK (A:=A) (B:=A) d l1 l2 s1 s,λk sk=> ?_⟩;obtain⟨k1,k2,d',m1,m2,t1,t2⟩:=bx (A:=af b e (cs.set i v)::R0) sk;exact⟨k1,k2,d',m1,m2,back k1 t1,t2⟩⟩
instance Gh.there{A:aa}{R R':List aa}{b i:Nat}{v:Value}[c:Gh R b i v R']:Gh (A::R) b i v (A::R'):=
 ⟨λh s=>by
  obtain⟨h1,h2,d,l1,l2,a,s⟩:=s;obtain⟨e,cs,R0,hi,s1,back⟩:=c.cut h2 s;exact⟨e,cs,A::R0,hi,dx ⟨h1,h2,d,l1,l2,a,s1⟩,λk sk=>aK (R:=af b e (cs.set i v)::R0) back (dx sk)⟩⟩
section
variable {P:Program} {n:Nat} {ds:List Deferred} {F:dC} {Q:Exit->Act->World->Prop} {K:Act->World->Prop} {σ:aZ} {H:List aa} {o:Oper} {d:Nat}
theorem oLc{t:TypeId}{x:Operand}{b i:Nat}{cs:List Value}{v:Value}(hs:db P t=true)(h:G n ds F K ((d,v)::σ) H)(ho:o.op= .load t x:=by exact rfl)(hd:o.dst=some d:=by exact rfl)(hx:bJ σ x=some (.pointer (some ⟨b,i,none⟩)):=by exact rfl)
  (c:ou H b cs:=by infer_instance) (hv:cs[i]?=some v:=by exact rfl) (hdn:Nat.blt d n=true:=by exact rfl):G n ds F (λa w=>o.wp P a w K Q) σ H:=
 Eb hs ho hd hx (λw s=>by obtain⟨hh,st,le,_⟩:=s.own;exact c.get _ (cq st le) i v hv) hdn h
theorem oLcN{t k:TypeId}{x:Operand}{b i:Nat}{cs vs:List Value}(hs:cG P t=some k)(h:G n ds F K ((d, .agg vs.toArray)::σ) H)(ho:o.op= .load t x:=by exact rfl)(hd:o.dst=some d:=by exact rfl)(hx:bJ σ x=some (.pointer (some ⟨b,i,none⟩)):=by exact rfl)
  (c:ou H b cs:=by infer_instance) (hv:(cs.drop i).take k=vs:=by exact rfl) (hl:vs.length=k:=by exact rfl) (hdn:Nat.blt d n=true:=by exact rfl):G n ds F (λa w=>o.wp P a w K Q) σ H:=
 Aq hs ho hd hx ⟨_,rfl,λh _ ao j v hj=>by rw[add_lit];exact c.get h ao _ v (p7 hv hj)⟩ hl hdn h
theorem oSc{t:TypeId}{x y:Operand}{b i:Nat}{v:Value}{H':List aa}(hs:db P t=true)(h:G n ds F K σ H')(ho:o.op= .store t x y:=by exact rfl)(hd:o.dst=none:=by exact rfl)(hx:bJ σ x=some (.pointer (some ⟨b,i,none⟩)):=by exact rfl)(hy:bJ σ y=some v:=by exact rfl)
  (c:Gh H b i v H':=by infer_instance) (h1:v.oneCell'=true:=by first|rfl|decide|simp):G n ds F (λa w=>o.wp P a w K Q) σ H:=
 .mk λa w en s=>by
  obtain⟨a1,a2,a3,fr,hh,st,l,dj⟩:=s;obtain⟨e,cs,R,hi,s1,back⟩:=c.cut hh st;exact(Ea hs ho hd hx hy h1 .here hi (au back h)) a w en ⟨a1,a2,a3,fr,hh,s1,l,dj⟩
theorem AZ{t:TypeId}{x:Operand}{A:aa}{b i:Nat}{cs:List Value}{v:Value}(hs:db P t=true)(hq:∃k,A k/\Le k F.h)(ho:o.op= .load t x:=by exact rfl)(hx:bJ σ x=some (.pointer (some ⟨b,i,none⟩)):=by exact rfl)
  (c:Cells A b cs:=by infer_instance) (hv:cs[i]?=some v:=by exact rfl):Yv P n ds F σ o v:=
 I4 hs ho hx (by obtain⟨k,a,l⟩:=hq;exact cU l (c.get k a i v hv))
theorem SlA{t e sz k b i j:Nat}{x:Operand}{lo hi mx:Option Operand}(l hh m:Nat)(ht:AY P t=some (k,e,sz))(ho:o.op= .slice t x lo hi mx:=by exact rfl)(hx:bJ σ x=some (.pointer (some ⟨b,i,none⟩)):=by exact rfl)
  (Zm:C6 σ lo 0 l:=by first|exact rfl|exact⟨_,_,rfl,rfl⟩|exact⟨_,_,rfl,by omega⟩) (hbh:C6 σ hi k hh:=by first|exact rfl|exact⟨_,_,rfl,rfl⟩|exact⟨_,_,rfl,by omega⟩) (Zl:C6 σ mx k m:=by first|exact rfl|exact⟨_,_,rfl,rfl⟩|exact⟨_,_,rfl,by omega⟩)
  (h1:l<=hh:=by omega) (h2:hh<=m:=by omega) (h3:m<=k:=by omega) (hlm:l<m:=by omega) (hj:l*sz=j:=by first|exact Nat.mul_one _|rfl) (FT:mx.isSome=true->hi.isSome=true:=by simp):Yv P n ds F σ o (.slice (some ⟨b,i+j,none⟩) (hh-l) (m-l)):=
 λac w en fr=>by
  unfold AY at ht;cases hu:P.underlying t with
  |none=>simp[hu]at ht
  |some dsc=>
   cases dsc<;>simp[hu]at ht
   rename_i k' e'
   cases yY:P.info? e' with
   |none=>simp[yY]at ht
   |some inf=>
    simp[yY]at ht;obtain⟨rfl,rfl,rfl⟩:=ht;subst hj;have hr:=yv (P:=P) (w:=w) en Zm hbh Zl h1 h2 h3 FT false;have:m≠l:=by omega
    simp[execOp,ho,Instr.sliceAt,en.eval hx,run_underlying hu,hr,sizeOf,typeInfo,yY,add_lit,Instr.sureAddr,this]
end
end Go.dG
namespace Go.dG
open Go
section
variable {P:Program} {n:Nat} {ds:List Deferred} {F:dC} {Q:Exit->Act->World->Prop} {K:Act->World->Prop} {σ:aZ} {H:List aa}
theorem YA{c:Code}(h:G n ds F (c.wp P (Exit.noGoto Q)) σ H):G n ds F ((Code.scope c).wp P Q) σ H:= .mk λa w e s=>wp_scope_straight (h a w e s)
theorem YC{l:Nat}(h:G n ds F (Q .normal) σ H):G n ds F ((Code.label l).wp P Q) σ H:= .mk λa w e s=>wp_label (h a w e s)
theorem vT (h:G n ds F (Q .ret) σ H):G n ds F (Exit.noGoto Q .ret) σ H:=h
end
end Go.dG
