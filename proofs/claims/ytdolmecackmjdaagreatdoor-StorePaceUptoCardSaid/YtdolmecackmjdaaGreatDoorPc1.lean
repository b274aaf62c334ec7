/- Part Pc1 of the proof. -/
import Derived.Test.YtdolmecackmjdaaGreatDoorPb1
import Derived.Test.YtdolmecackmjdaaGreatDoorPc
import Derived.Laws.IdiomStrings
import Derived.OrdersIn
import Derived.RangeFuncLeaves
import Derived.RangeFuncRecord
import Derived.Recover
import Derived.Scope
import Derived.TacticsIn
import Derived.WalkSmall
set_option maxRecDepth 100000
namespace Go.cV
open Go
theorem qt{α:Type}{f:α→aa}{L:List α}{h:Hp}(o:∃k,aI (L.map f) k∧Le k h){a:α}(ha:a∈L):∃k,f a k∧Le k h:=by
 obtain⟨k,p,l⟩:=o
 exact Hq (f:=f) (X:=λa k=>∃j,f a j∧Le j k) (λa k p=>⟨k,p,Le.refl _⟩) (λa k m ⟨j,p,l⟩ lm=>⟨j,p,l.trans lm⟩) L h (by exact dL p l) a ha
theorem BC{A B:List aa}(p:List.Perm A B):∀h,ai A h→ai B h:=by
 induction p with
 |nil=>exact λ_ x=>x
 |cons _ _ ih=>exact λ_ x=>aH ih x
 |swap _ _ _=>exact λ_ x=>cT x
 |trans _ _ i1 i2=>exact λh x=>i2 h (i1 h x)
theorem mf{A B:List aa}(p:List.Perm A B){H:List aa}{h:Hp}(s:ai (aI A::H) h):ai (aI B::H) h:=aY (λk q=>BC p k q) s
section
variable {P:Program} {n:Nat} {ds:List Deferred} {F:dy} {σ:aR} {H:List aa}
theorem GY{fn:Func}{T:Value→List aa→Prop}{t ty b i k u:Nat}{x:Value}{e:TypeId}{cs vs:List Value}{R:List aa}(H':List aa)(hs:cy P ty=some k)(hr:fn.results= #[.cell t ty, .tmp u])(hR:T (.tuple #[.agg vs.toArray,x]) H')(ht:look σ t=some (.pointer (some ⟨b,i,none⟩)):=by exact rfl)
  (hx:look σ u=some x:=by exact rfl) (dG:eX H (ag b e cs) R:=by repeat (first|exact eX.here|apply eX.there)) (hv:(cs.drop i).take k=vs:=by exact rfl) (hk:vs.length=k:=by exact rfl) (hh:∀h,ai H h→ai H' h:=by exact Eh):
  G n [] F (bodyPost P fn (λe w'=>∃v H',e= .returned v∧T v H'∧St F H' w') .ret) σ H:=
 .mk λa w en s=>⟨en.defers,_,by
  obtain⟨h1,h4⟩:=vH (P:=P) en s ht hs dG hv hk
  have h2:a.tmps.getD u undef=x:=by simp[en.slot u x hx]
  simp only[results,hr]
  simp at h1 h2
  simp[h1,h2,h4],_,H',rfl,hR,s.sub hh⟩
end
section
open Go.MapKept
variable {P:Program} {n:Nat} {ds:List Deferred} {F:dy} {Q:Exit→Act→World→Prop} {K:Act→World→Prop} {σ:aR} {H:List aa} {o:Oper} {d:Nat}
end
section
variable {α:Type} {f:α→List Value} {k:Nat}
theorem eP (hf:∀a,(f a).length=k)(l:List α):(l.flatMap f).length=l.length*k:=by
 induction l with
 |nil=>simp
 |cons a l ih=>simp only[List.flatMap_cons,List.length_append,List.length_cons,ih,hf,Nat.add_mul];omega
theorem vV (hf:∀a,(f a).length=k){l:List α}{i:Nat}{a:α}(h:l[i]?=some a):l.flatMap f=(l.take i).flatMap f++(f a++(l.drop (i+1)).flatMap f)∧((l.take i).flatMap f).length=i*k:=by
 obtain⟨hi,hg⟩:=List.getElem?_eq_some_iff.1 h
 constructor
 ·conv=>lhs;rw[←List.take_append_drop i l,List.drop_eq_getElem_cons hi,hg]
  rw[List.flatMap_append,List.flatMap_cons]
 rw[eP hf,List.length_take];congr 1;omega
theorem bj (hf:∀a,(f a).length=k){l:List α}{i j:Nat}{a:α}{v:Value}(h:l[i]?=some a)(hv:(f a)[j]?=some v):(l.flatMap f)[i*k+j]?=some v:=by
 obtain⟨e,hl⟩:=vV hf h
 have hj:=(List.getElem?_eq_some_iff.1 hv).1
 rw[e,List.getElem?_append_right (by omega),hl,List.getElem?_append_left (by omega),show i*k+j-i*k=j from by omega]
 exact hv
theorem cq (hf:∀a,(f a).length=k){l:List α}{i j:Nat}{a a':α}{v:Value}(h:l[i]?=some a)(hv:(f a).set j v=f a')(hj:j<k):(l.flatMap f).set (i*k+j) v=(l.set i a').flatMap f:=by
 obtain⟨e,hl⟩:=vV hf h
 have h1:=hf a
 have h3:(l.set i a').flatMap f=(l.take i).flatMap f++(f a'++(l.drop (i+1)).flatMap f):=by
  rw[List.set_eq_take_append_cons_drop,if_pos (List.getElem?_eq_some_iff.1 h).1,List.flatMap_append,List.flatMap_cons]
 rw[h3,e,List.set_append_right _ _ (by omega),hl,show i*k+j-i*k=j from by omega,List.set_append_left _ _ (by omega),hv]
end
end Go.cV
namespace Go.cV
open Go
def GV:aa:=λ_=>True
theorem iQ{α:Type}{L:List α}{i:Nat}{x:α}(h:L[i]?=some x)(x':α):List.Perm (L.set i x') (x'::L.eraseIdx i):=by
 obtain⟨hi,hg⟩:=List.getElem?_eq_some_iff.1 h
 rw[List.set_eq_take_append_cons_drop,if_pos hi,List.eraseIdx_eq_take_drop_succ]
 exact List.perm_middle
theorem gY{α:Type}{L:List α}{i:Nat}{x:α}(h:L[i]?=some x):L.set i x=L:=by
 obtain⟨hi,hg⟩:=List.getElem?_eq_some_iff.1 h
 rw[←hg];exact List.set_getElem_self hi
theorem tT{α:Type}{f:α→aa}{L:List α}{i:Nat}{x:α}(h:L[i]?=some x){H:List aa}{k:Hp}(s:ai (aI (L.map f)::H) k):ai (f x::aI ((L.eraseIdx i).map f)::H) k:=by
 have p:=iQ h x
 rw[gY h]at p
 exact DX (mf (p.map f) s)
theorem yM{α:Type}{f:α→aa}{L:List α}{i:Nat}{x:α}(h:L[i]?=some x)(x':α){H:List aa}{k:Hp}(s:ai (f x'::aI ((L.eraseIdx i).map f)::H) k):ai (aI ((L.set i x').map f)::H) k:=by
 have s2:=DW s
 refine mf ?_ s2
 have p:=((iQ h x').map f).symm
 rw[List.map_cons]at p
 exact(List.perm_append_singleton _ _).trans p
section
variable {P:Program} {n:Nat} {ds:List Deferred} {F:dy} {σ:aR} {o:Oper}
theorem Rt4{fn:Func}{R:Value→List aa→Prop}{H:List aa}{t u u' t':Nat}{v x x' y:Value}(H':List aa)(hr:fn.results= #[.tmp t, .tmp u, .tmp u', .tmp t'])(hR:R (.tuple #[v,x,x',y]) H')(hv:look σ t=some v:=by exact rfl)(hx:look σ u=some x:=by exact rfl)(hx':look σ u'=some x':=by exact rfl)(hy:look σ t'=some y:=by exact rfl)
  (hh:∀h,ai H h→ai H' h:=by exact Eh):G n [] F (bodyPost P fn (λe w'=>∃v H',e= .returned v∧R v H'∧St F H' w') .ret) σ H:=
 .mk λa w e s=>⟨e.defers, .tuple #[v,x,x',y],by
  have h1:a.tmps.getD t undef=v:=by simp[e.slot t v hv]
  have h2:a.tmps.getD u undef=x:=by simp[e.slot u x hx]
  have h3:a.tmps.getD u' undef=x':=by simp[e.slot u' x' hx']
  have h4:a.tmps.getD t' undef=y:=by simp[e.slot t' y hy]
  simp only[results,hr]
  simp at h1 h2 h3 h4
  simp[h1,h2,h3,h4],_,H',rfl,hR,s.sub hh⟩
theorem Sd{k:IntKind}{p q:Nat}(hq:0<q):fX .rem k (p:Int) (q:Int)=some ((p % q:Nat):Int):=by
 show(if(q:Int)=0 then none else some ((p:Int).tmod (q:Int)))=_
 rw[if_neg (by omega),Int.tmod_eq_emod_of_nonneg (Int.natCast_nonneg p)]
 norm_cast
theorem Fw{k:IntKind}{p q:Nat}(hq:0<q)(h:k.wrap ((p/q:Nat):Int)=((p/q:Nat):Int)):fX .quo k (p:Int) (q:Int)=some ((p/q:Nat):Int):=by
 show(if(q:Int)=0 then none else some (k.wrap ((p:Int).tdiv (q:Int))))=_
 rw[if_neg (by omega),Int.tdiv_eq_ediv_of_nonneg (Int.natCast_nonneg p),show(p:Int)/(q:Int)=((p/q:Nat):Int)from by norm_cast,h]
theorem Rm{t yt:TypeId}{x y:Operand}{k:IntKind}{i j:Int}{p q:Nat}(ho:o.op= .binOp .rem t x y yt:=by exact rfl)(hx:bh σ x=some (.int k i):=by exact rfl)(hy:bh σ y=some (.int k j):=by exact rfl)
  (hi:i=(p:Int):=by exact rfl) (hj:j=(q:Int):=by exact rfl) (hq:0<q:=by omega):Yv P n ds F σ o (.int k ((p % q:Nat):Int)):=uw ho hx hy (by rw[hi,hj];exact Sd hq)
theorem Qu{t yt:TypeId}{x y:Operand}{i j:Int}{p q:Nat}(ho:o.op= .binOp .quo t x y yt:=by exact rfl)(hx:bh σ x=some (.int .i64 i):=by exact rfl)(hy:bh σ y=some (.int .i64 j):=by exact rfl)
  (hi:i=(p:Int):=by exact rfl) (hj:j=(q:Int):=by exact rfl) (hq:0<q:=by omega) (hw:p<9223372036854775808:=by omega):Yv P n ds F σ o (.int .i64 ((p/q:Nat):Int)):=
 uw ho hx hy (by rw[hi,hj];exact Fw hq (by have h1:=Nat.div_le_self p q;generalize p/q=z at*;exact wrap_i64 (by omega)))
theorem QuU{t yt:TypeId}{x y:Operand}{i j:Int}{p q:Nat}(ho:o.op= .binOp .quo t x y yt:=by exact rfl)(hx:bh σ x=some (.int .u64 i):=by exact rfl)(hy:bh σ y=some (.int .u64 j):=by exact rfl)
  (hi:i=(p:Int):=by exact rfl) (hj:j=(q:Int):=by exact rfl) (hq:0<q:=by omega) (hw:p<18446744073709551616:=by omega):Yv P n ds F σ o (.int .u64 ((p/q:Nat):Int)):=
 uw ho hx hy (by rw[hi,hj];exact Fw hq (by have h1:=Nat.div_le_self p q;generalize p/q=z at*;exact wrap_u64 (by omega)))
theorem MuN{t yt:TypeId}{x y:Operand}{i j:Int}{p q:Nat}(ho:o.op= .binOp .mul t x y yt:=by exact rfl)(hx:bh σ x=some (.int .i64 i):=by exact rfl)(hy:bh σ y=some (.int .i64 j):=by exact rfl)
  (hi:i=(p:Int):=by exact rfl) (hj:j=(q:Int):=by exact rfl) (h:p*q<9223372036854775808:=by omega):Yv P n ds F σ o (.int .i64 ((p*q:Nat):Int)):=
 uw ho hx hy (by rw[hi,hj];show some (IntKind.i64.wrap ((p:Int)*(q:Int)))=_;rw[←Int.natCast_mul];generalize p*q=z at*;exact congrArg some (wrap_i64 (by omega)))
theorem AdN{t yt:TypeId}{x y:Operand}{i j:Int}{p q:Nat}(ho:o.op= .binOp .add t x y yt:=by exact rfl)(hx:bh σ x=some (.int .i64 i):=by exact rfl)(hy:bh σ y=some (.int .i64 j):=by exact rfl)
  (hi:i=(p:Int):=by exact rfl) (hj:j=(q:Int):=by exact rfl) (h:p+q<9223372036854775808:=by omega):Yv P n ds F σ o (.int .i64 ((p+q:Nat):Int)):=
 uw ho hx hy (by rw[hi,hj];show some (IntKind.i64.wrap ((p:Int)+(q:Int)))=_;rw[←Int.natCast_add];exact congrArg some (wrap_i64 (by omega)))
theorem UE{t e sz m b i0:Nat}{x y:Operand}{l c j:Nat}{k:IntKind}{i:Int}(ht:cE P t=some (e,sz))(ho:o.op= .indexAddr t x y:=by exact rfl)(hx:bh σ x=some (.slice (some ⟨b,i0,none⟩) l c):=by exact rfl)(hy:bh σ y=some (.int k i):=by exact rfl)
  (hj:i=(j:Int):=by first|exact rfl|omega) (hl:j<l:=by omega) (hm:j*sz=m:=by first|exact Nat.mul_one _|rfl):Yv P n ds F σ o (.pointer (some ⟨b,i0+m,none⟩)):=by
 have:=E8 (P:=P) (n:=n) (ds:=ds) (F:=F) (σ:=σ) (o:=o) ht ho hx hy hj hl hm rfl
 rwa[Option.map_some,add_lit]at this
theorem IxZ{t e sz m b:Nat}{x y:Operand}{l c j:Nat}{k:IntKind}{i:Int}(ht:cE P t=some (e,sz))(ho:o.op= .indexAddr t x y:=by exact rfl)(hx:bh σ x=some (.slice (some ⟨b,0,none⟩) l c):=by exact rfl)(hy:bh σ y=some (.int k i):=by exact rfl)
  (hj:i=(j:Int):=by first|exact rfl|omega) (hl:j<l:=by first|omega|assumption) (hm:j*sz=m:=by first|exact Nat.mul_one _|rfl):Yv P n ds F σ o (.pointer (some ⟨b,m,none⟩)):=by
 have:=UE (P:=P) (n:=n) (ds:=ds) (F:=F) ht ho hx hy hj hl hm
 rwa[Nat.zero_add]at this
theorem jV (w a:Nat)(h:a<2^w):(BitVec.ofInt w (a:Int)).toNat=a:=by
 rw[BitVec.ofInt_natCast,BitVec.toNat_ofNat,Nat.mod_eq_of_lt h]
theorem wi{a:Nat}(m:Nat)(hm:m≤63)(ha:a<18446744073709551616):fX .and .u64 (a:Int) ((2^m-1:Nat):Int)=some ((a % 2^m:Nat):Int):=by
 have h2:2^m≤2^63:=Nat.pow_le_pow_right (by decide) hm
 have hl:a % 2^m≤a:=Nat.mod_le _ _
 show some (IntKind.u64.wrap ((BitVec.ofInt 64 (a:Int)&&&BitVec.ofInt 64 ((2^m-1:Nat):Int)).toNat:Int))=_
 rw[BitVec.toNat_and,jV 64 a ha,jV 64 _ (by omega),Nat.and_two_pow_sub_one_eq_mod,wrap_u64 (by omega)]
theorem ac9{a:Nat}(ha:a<18446744073709551616):fX .and .u64 (a:Int) 4294967295=some ((a % 4294967296:Nat):Int):=wi 32 (by decide) ha
theorem abP (a:Nat):((a:Int).fdiv (2^(min 32 IntKind.u64.bits)))=((a/4294967296:Nat):Int):=by
 rw[show(2:Int)^(min 32 IntKind.u64.bits)=4294967296 from rfl,Int.fdiv_eq_ediv_of_nonneg _ (by decide)]
 omega
theorem N8{n c:Nat}(h:n*256+c<256):fX .or .u8 (IntKind.u8.wrap (IntKind.u8.wrap ((n:Int)*2^(min 7 IntKind.u8.bits))*2^(min 1 IntKind.u8.bits))) (c:Int)=some ((n*256+c:Nat):Int):=by
 obtain rfl:n=0:=by omega
 show some (IntKind.u8.wrap ((BitVec.ofInt 8 0|||BitVec.ofInt 8 (c:Int)).toNat:Int))=_
 rw[BitVec.toNat_or,jV 8 c (by omega),show(BitVec.ofInt 8 0).toNat=0 from rfl,Nat.zero_or,wrap_u8 (by omega)]
 simp
theorem FC (w n c:Nat)(hc:c<256)(h:n*256+c<2^w):(BitVec.ofInt w ((n*256:Nat):Int) |||BitVec.ofInt w (c:Int)).toNat=n*256+c:=by
 rw[BitVec.toNat_or,jV w c (by omega),jV w (n*256) (by omega),Nat.mul_comm]
 have:=Nat.two_pow_add_eq_or_of_lt (i:=8) (b:=c) (by simpa using hc) n
 rw[show(2:Nat)^8=256 from rfl]at this
 omega
theorem HH{n c:Nat}(hc:c<256)(h:n*256+c<4294967296):fX .or .u32 (IntKind.u32.wrap (IntKind.u32.wrap ((n:Int)*2^(min 7 IntKind.u32.bits))*2^(min 1 IntKind.u32.bits))) (c:Int)=some ((n*256+c:Nat):Int):=by
 rw[show(2:Int)^(min 7 IntKind.u32.bits)=128 from rfl,show(2:Int)^(min 1 IntKind.u32.bits)=2 from rfl,show IntKind.u32.wrap ((n:Int)*128)=(n:Int)*128 from wrap_u32 (by omega),show(n:Int)*128*2=((n*256:Nat):Int)from by omega,show IntKind.u32.wrap ((n*256:Nat):Int)=((n*256:Nat):Int)from wrap_u32 (by omega)]
 show some (IntKind.u32.wrap ((BitVec.ofInt 32 ((n*256:Nat):Int) |||BitVec.ofInt 32 (c:Int)).toNat:Int))=_
 rw[FC 32 n c hc h,wrap_u32 (by omega)]
theorem HG{n c:Nat}(hc:c<256)(h:n*256+c<18446744073709551616):fX .or .u64 (IntKind.u64.wrap (IntKind.u64.wrap ((n:Int)*2^(min 7 IntKind.u64.bits))*2^(min 1 IntKind.u64.bits))) (c:Int)=some ((n*256+c:Nat):Int):=by
 rw[show(2:Int)^(min 7 IntKind.u64.bits)=128 from rfl,show(2:Int)^(min 1 IntKind.u64.bits)=2 from rfl,show IntKind.u64.wrap ((n:Int)*128)=(n:Int)*128 from wrap_u64 (by omega),show(n:Int)*128*2=((n*256:Nat):Int)from by omega,show IntKind.u64.wrap ((n*256:Nat):Int)=((n*256:Nat):Int)from wrap_u64 (by omega)]
 show some (IntKind.u64.wrap ((BitVec.ofInt 64 ((n*256:Nat):Int) |||BitVec.ofInt 64 (c:Int)).toNat:Int))=_
 rw[FC 64 n c hc h,wrap_u64 (by omega)]
end
end Go.cV
namespace Go.cV
open Go
def nd (o:Oper):Bool:=match o.op with| .defer _=>false|_=>true
section rules
variable {P:Program} {n:Nat} {ds:List Deferred} {F:dy} {Q:Exit→Act→World→Prop} {σ:aR} {H:List aa} {r:Option Nat}
end rules
section regions
variable {P:Program} {n:Nat} {ds:List Deferred} {F:dy} {Q:Exit→Act→World→Prop} {K:Act→World→Prop} {σ:aR} {H:List aa} {o:Oper} {d:Nat} {ops:Array Oper} {rest:List Oper} {r:Option Nat}
end regions
end Go.cV
namespace Go.cV
open Go
section
variable {P:Program} {n:Nat} {ds:List Deferred} {F:dy} {Q:Exit→Act→World→Prop} {K:Act→World→Prop} {σ:aR} {H:List aa} {o:Oper} {d:Nat} {ops:Array Oper} {rest:List Oper} {r:Option Nat}
end
end Go.cV
namespace Go.cV
open Go
section
variable {P:Program} {n:Nat} {ds:List Deferred} {F:dy} {Q:Exit→Act→World→Prop} {K:Act→World→Prop} {σ:aR} {H:List aa} {o:Oper} {d:Nat}
end
end Go.cV
namespace Go.cV
open Go Go.MapKept
section
variable {P:Program} {n:Nat} {ds:List Deferred} {F:dy} {Q:Exit→Act→World→Prop} {K:Act→World→Prop} {σ:aR} {H:List aa} {o:Oper} {d:Nat}
end
end Go.cV
namespace Go.cV
open Go
section
variable {P:Program} {n:Nat} {ds:List Deferred} {F:dy} {Q:Exit→Act→World→Prop} {K:Act→World→Prop} {σ:aR} {H:List aa} {ops:Array Oper} {r:Option Nat}
theorem Bs{b ty t:Nat}{e:TypeId}{v:Value}{R:List aa}{w:World}{a:Act}(en:Env n ds σ a)(st:St F (ag b e [v]::R) w)(hs:cN P ty=true)(ht:look σ t=some (.pointer (some ⟨b,0,none⟩))):
  (asAddr (a.tmps.getD t undef)).run P w= .ok ⟨b,0,none⟩ w∧(loadVar ty ⟨b,0,none⟩).run P w= .ok v w:=by
 obtain⟨h1,hp,hl⟩:=st.get
 have hg:a.tmps.getD t undef= .pointer (some ⟨b,0,none⟩):=by simp[en.slot t _ ht]
 have h2:=rM (P:=P) hs (w:=w) (lq hl (eR hp (i:=0) (v:=v) rfl))
 rw[hg]
 exact⟨by simp[asAddr],by simpa[Instr.loadAt,Instr.sureAddr]using h2⟩
def Wm (P:Program)(s f:Nat):Option (Nat×TypeId):=match P.underlying s with
 |some (.struct fs)=>(fs[f]?).map λx=>(x.offset,x.type)
 |_=>none
theorem Wt{fn:Func}{T:Value→List aa→Prop}{t u tt tu b c:Nat}{et eu:TypeId}{x y:Value}(H':List aa)(ht:cN P tt=true)(hu:cN P tu=true)(hr:fn.results= #[.cell t tt, .cell u tu])
  (hR:T (.tuple #[x,y]) H') (l1:look σ t=some (.pointer (some ⟨b,0,none⟩)):=by exact rfl) (l2:look σ u=some (.pointer (some ⟨c,0,none⟩)):=by exact rfl)
  (hh:∀h,ai H h→ai (ag b et [x]::ag c eu [y]::H') h:=by exact Eh):
  G n [] F (bodyPost P fn (λe w'=>∃v H',e= .returned v∧T v H'∧St F H' w') .ret) σ H:=
 .mk λa w e st=>⟨e.defers, .tuple #[x,y],by
  have s':=st.sub hh
  obtain⟨a1,a2⟩:=Bs (P:=P) e s' ht l1
  obtain⟨b1,b2⟩:=Bs (P:=P) e s'.drop hu l2
  simp only[results,hr]
  simp at a1 b1
  simp[a1,a2,b1,b2],_,H',rfl,hR,(st.sub hh).drop.drop⟩
end
end Go.cV
namespace Go.cV
open Go
section
variable {P:Program} {n:Nat} {ds:List Deferred} {F:dy} {Q:Exit→Act→World→Prop} {K:Act→World→Prop} {σ:aR} {H:List aa} {o:Oper} {d:Nat}
def JY (f:FuncId)(args cv:List Value):Deferred:={target:= .fn (.func f) cv.toArray,args:=args.toArray}
theorem oDv{f:FuncId}{x:Operand}{xs:List Operand}{vs cv:List Value}{qW:Array TypeId}(h:G n (JY f vs cv::ds) F K σ H)(ho:o.op= .defer {callee:= .value x,args:=xs.toArray,argTypes:=qW}:=by exact rfl)(hx:bh σ x=some (.func (.func f) #[] cv.toArray):=by exact rfl)(hv:jj σ xs=some vs:=by exact rfl)(hd:o.dst=none:=by exact rfl):
  G n ds F (λa w=>o.wp P a w K Q) σ H:=by
 refine .mk λa w en s=> ?_
 have hvs:=en.uD hv
 have:(execOp a.eval o).run P w= .ok (.defer (JY f vs cv)) w:=by
  simp[execOp,ho,resolve,Deferred.ofValue,en.eval hx,JY,←hvs]
 unfold Oper.wp
 rw[this,Oper.upon_defer,hd]
 exact h _ _ ⟨en.size,by simp[Act.put,en.defers],en.slot⟩ s
theorem XR{fn:Func}{f:FuncId}{vs cv:List Value}{pre:Hp→Prop}{As R:List aa}{T T':Value→List aa→Prop}(hc:FnD P f (vs++cv) pre As T)(dG:iI H As R)(ic:∀h,Le F.h h→gw R h→pre h){a:Act}{w:World}{rv:Value}{H':List aa}
  (en:Env n [JY f vs cv] σ a) (s:St F H w) (hr:∀w',(results fn a.tmps).run P w'= .ok rv w') (hT:∀v Hx,T v Hx→T' rv H'∧∀h,ai (Hx++R) h→ai H' h):
  Leaves P fn a.tmps (λe w'=>∃v H',e= .returned v∧T' v H'∧St F H' w') a.defers .returning w:=by
 rw[en.defers]
 obtain⟨j5,hc⟩:=hc
 unfold av at j5
 cases hf:P.funcs[f]? with
 |none=>simp[hf]at j5
 |some fd=>
  simp only[hf,Bool.and_eq_true,Bool.not_eq_true']at j5
  refine⟨by simp, .func f,cv.toArray,f,(vs++cv).toArray,rfl, ?_, ?_⟩
  ·have h1:¬fd.name= "runtime.NumGoroutine" :=by simpa using j5.2
   have h2:¬fd.body=none:=by intro q;rw[q]at j5;simp at j5
   simp[JY,invoke,callFunc,hf]
   rw[if_neg h1,if_neg h2]
  obtain⟨a1,a2,a3,fr,hh,st,hl,tZ⟩:=s
  obtain⟨h1,h2,d12,l1,l2,s1,s2⟩:=bx (dG.out _ st)
  have wV:bO h2 F.h:=tZ.left l2
  let F':dy:={F with h:=fZ h2 F.h}
  have iH:Le F.h F'.h:=aU wV
  have iq:Le h2 F'.h:=a8 _ _
  have Cf:St F' As w:=⟨a1,a2,a3,bS (l2.trans hl) fr,h1,s1,l1.trans hl,(bO.fZ d12.symm (tZ.left l1).symm).symm⟩
  refine(hc F' w .returning (ic _ iH (bV s2 iq)) Cf).mono ?_
  rintro e u' w' ⟨rfl,v,Hx,rfl,hTx,sw⟩
  obtain⟨b1,b2,b3,uc,Cr,st2,Cq,kW⟩:=sw
  obtain⟨t1,t2⟩:=hT v Hx hTx
  refine⟨rv,hr _,rv,H',rfl,t1,⟨b1,b2,b3,iH.trans uc,fZ Cr h2,t2 _ (bG st2 s2 (kW.right iq)),bS Cq (iq.trans uc),bO.fZ (kW.right iH) wV⟩⟩
theorem abi{fn:Func}{f:FuncId}{vs cv:List Value}{pre:Hp→Prop}{As R:List aa}{T T':Value→List aa→Prop}(H':List aa)(hrs:fn.results= #[])(hc:FnD P f (vs++cv) pre As T)(dG:iI H As R)(ic:∀h,Le F.h h→gw R h→pre h)
  (hT:∀v Hx,T v Hx→T' (.tuple #[]) H'∧∀h,ai (Hx++R) h→ai H' h):G n [JY f vs cv] F (VF P fn (λe w'=>∃v H',e= .returned v∧T' v H'∧St F H' w') .normal) σ H:=
 .mk λa w en s=>XR hc dG ic en s (λw'=>results_none hrs _ _ _) hT
theorem zA{t u e:TypeId}{x:Operand}{l:List UInt8}(hs:P.underlying t=some .string)(hu:P.underlying u=some (.slice e))(he:P.underlying e=some (.int .u8))(h:∀b c,l.length≤c→G n ds F K ((d, .slice (some ⟨b,0,none⟩) l.length c)::σ) (own (some ⟨b,0,none⟩) c e 1 (ak l)::H))
  (ho:o.op= .convert t u x:=by exact rfl) (hx:bh σ x=some (aT l):=by exact rfl) (hd:o.dst=some d:=by exact rfl) (hdn:Nat.blt d n=true:=by exact rfl) (hl:l.length≤9223372036854775807:=by omega):G n ds F (λa w=>o.wp P a w K Q) σ H:=by
 refine .mk λa w en s=> ?_
 have aa2:=run_bytes_of_string (P:=P) w t u e ⟨l.toArray⟩ hs hu he
 have sO:(⟨l.toArray⟩:ByteArray).size=l.length:=by simp[ByteArray.size]
 rw[sO]at aa2
 have GK:=grownCap_ge w l.length 0 e
 have hle:=grownCap_le_maxLen w l.length 0 e (by simp only[maxLen];omega)
 generalize grownCap w l.length 0 e=c at*
 unfold Oper.wp
 have h2:(execOp a.eval o).run P w= .ok (.value (.slice (some ⟨w.heap.size,0,none⟩) l.length c)) (w.drew.alloc (.cells (bytesRow ⟨l.toArray⟩ c) e ((bytesRow ⟨l.toArray⟩ c).size,(bytesRow ⟨l.toArray⟩ c).size+1))):=by
  simp only[execOp,ho,en.eval hx,aT,Sem.run_bind,aa2]
  rfl
 rw[h2,Oper.upon_value,hd]
 refine h _ _ GK _ _ (en.put hdn _) ?_
 have wE:(bytesRow ⟨l.toArray⟩ c).toList=ak l++List.replicate (c-l.length) (.int .u8 0):=by
  unfold bytesRow ak
  rw[sO]
  simp
 refine(s.drawn (w.drawn+1)).aaZ _ _ ?_
 have hlen:(ak l++List.replicate (c-l.length) (Value.int .u8 0)).length=c:=by
  unfold ak
  rw[List.length_append,List.length_map,List.length_replicate]
  omega
 have p:ag w.heap.size e (ak l++List.replicate (c-l.length) (.int .u8 0)) λx=>if x=w.heap.size then some (.cells (bytesRow ⟨l.toArray⟩ c) e ((bytesRow ⟨l.toArray⟩ c).size,(bytesRow ⟨l.toArray⟩ c).size+1))else none:=by
  refine .mk _ _ (.inr ?_) (by
   rw[if_pos rfl,←wE,Array.toArray_toList])
  rw[←wE];simp
 have q:=vi (mh p c 1 (by rw[hlen,Nat.mul_one]) hle) l.length
 have e1:(ak l++List.replicate (c-l.length) (Value.int .u8 0)).take l.length=ak l:=by
  have:(ak l).length=l.length:=List.length_map _
  rw[←this,List.take_left]
 rw[e1]at q
 exact q
theorem oTs{s t e e':TypeId}{x:Operand}{a:Option Addr}{l:List UInt8}{m c cap sz:Nat}{R:List aa}(hs:cE P s=some (e,sz))(he:P.underlying e=some (.int .u8))(ht:P.underlying t=some .string)(h:G n ds F K ((d,aT l)::σ) H)
  (ho:o.op= .convert s t x:=by exact rfl) (hx:bh σ x=some (.slice a m c):=by exact rfl) (dG:eX H (own a cap e' 1 (ak l)) R:=by repeat (first|exact eX.here|apply eX.there)) (hd:o.dst=some d:=by exact rfl) (hdn:Nat.blt d n=true:=by exact rfl) (hm:m=l.length:=by first|rfl|omega):
  G n ds F (λa w=>o.wp P a w K Q) σ H:=
 o6 hd hdn (λac w en st=>by
  obtain⟨h1,hp,hl⟩:=(st.sM dG).get
  subst hm
  have hr':=qF (P:=P) (c:=c) ((nJ hp).mono hl)
  have:=run_underlying (P:=P) (iS hs).1 w
  cases a with
  |none=>simp[execOp,ho,en.eval hx,convert,this,run_underlying ht,run_underlying he,hr']
  |some ad=>simp[execOp,ho,en.eval hx,convert,this,run_underlying ht,run_underlying he,hr']) h
end
end Go.cV
namespace Go.cV
open Go
section
variable {P:Program} {n:Nat} {ds:List Deferred} {F:dy} {Q:Exit→Act→World→Prop} {K:Act→World→Prop} {σ:aR} {H:List aa} {o:Oper} {d:Nat}
def pe (v:Value):PanicEntry:={v:=v,recovered:=false}
def PoP (F:dy)(R T:Value→List aa→Prop)(e:Ending)(w:World):Prop:=∃v H',(e= .returned v∧R v H'∨e= .panicked [pe v]∧T v H')∧St F H' w
def Ra (P:Program)(f:FuncId)(args:List Value)(pre:Hp→Prop)(H:List aa)(R T:Value→List aa→Prop):Prop:=
 ∀F w,pre F.h→St F H w→Calls P f args.toArray w (PoP F R T)
theorem jQ{f:FuncId}{fn:Func}{c:Code}{args:List Value}{pre:Hp→Prop}{R T:Value→List aa→Prop}{m:Nat}(hf:P.funcs[f]?=some fn)(hb:fn.body=some c)(hm:fn.ntmps=m)(hn:Nat.ble args.length m=true)
  (h:∀F:dy,pre F.h→G m [] F (c.wp P (bodyPost P fn (PoP F R T))) (jH 0 args) H):Ra P f args pre H R T:=
 λF w hp s=>calls_of_wp hf hb (by
  subst hm
  exact h F hp _ _ (GU args _ (Nat.le_of_ble_eq_true hn)) s)
theorem pR{fn:Func}{R T:Value→List aa→Prop}(h:G n ds F (bodyPost P fn (λe w'=>∃v H',e= .returned v∧R v H'∧St F H' w') .ret) σ H):G n ds F (bodyPost P fn (PoP F R T) .ret) σ H:=
 .mk λa w e s=>by
  obtain⟨h1,v,h2,v',H',q,r,s'⟩:=h a w e s
  exact⟨h1,v,h2,v',H', .inl ⟨q,r⟩,s'⟩
theorem pN{fn:Func}{R T:Value→List aa→Prop}(h:G n ds F (bodyPost P fn (λe w'=>∃v H',e= .returned v∧R v H'∧St F H' w') .normal) σ H):G n ds F (bodyPost P fn (PoP F R T) .normal) σ H:=
 .mk λa w e s=>by
  obtain⟨h1,v,h2,v',H',q,r,s'⟩:=h a w e s
  exact⟨h1,v,h2,v',H', .inl ⟨q,r⟩,s'⟩
theorem pP{R T:Value→List aa→Prop}{v:Value}(H':List aa)(hT:T v H')(hh:∀h,ai H h→ai H' h:=by exact Eh):G n [] F (λa w=>a.defers= []∧PoP F R T (.panicked [pe v]) w) σ H:=
 .mk λa w e s=>⟨e.defers,v,H', .inr ⟨rfl,hT⟩,s.sub hh⟩
theorem Qs{t:TypeId}{x:Operand}{v:Value}(h:G n ds F (Q (.panic [pe (.iface t v)])) σ H)(ho:o.op= .panic x:=by exact rfl)(hx:bh σ x=some (.iface t v):=by exact rfl):G n ds F (λa w=>o.wp P a w K Q) σ H:=by
 refine .mk λa w en s=> ?_
 have h2:(execOp a.eval o).run P w= .halt (.panic (.iface t v)) w:=by
  simp only[execOp,ho,en.eval hx,Sem.run_bind,run_panic_iface]
  rfl
 unfold Oper.wp
 rw[h2,Oper.upon_panic]
 exact h a w en s
theorem J6{f:FuncId}{xs:List Operand}{vs:List Value}{qW:Array TypeId}{pre:Hp→Prop}{A2 R:List aa}{Tr Tp:Value→List aa→Prop}(j5:av P f=true)(ho:o.op= .call {callee:= .value (.func f),args:=xs.toArray,argTypes:=qW})(hv:jj σ xs=some vs)(hc:Ra P f vs pre A2 Tr Tp)(dG:iI H A2 R)(ic:∀h,Le F.h h→gw R h→pre h)
  (hp:∀v H',Tp v H'→G n ds F (Q (.panic [pe v])) σ (H'++R)) (h:∀v H',Tr v H'→G n ds F K ((d,v)::σ) (H'++R)) (hd:o.dst=some d:=by exact rfl) (hdn:Nat.blt d n=true:=by exact rfl):
  G n ds F (λa w=>o.wp P a w K Q) σ H:=by
 refine .mk λa w en s=> ?_
 unfold av at j5
 cases hf:P.funcs[f]? with
 |none=>simp[hf]at j5
 |some fn=>
  simp only[hf,Bool.and_eq_true,Bool.not_eq_true']at j5
  unfold Oper.wp
  rw[AH ho rfl (en.uD hv) hf j5.1 j5.2,Oper.upon_enter]
  obtain⟨a1,a2,a3,fr,hh,st,hl,tZ⟩:=s
  obtain⟨h1,h2,d12,l1,l2,s1,s2⟩:=bx (dG.out _ st)
  have wV:bO h2 F.h:=tZ.left l2
  let F':dy:={F with h:=fZ h2 F.h}
  have iH:Le F.h F'.h:=aU wV
  have iq:Le h2 F'.h:=a8 _ _
  have Cf:St F' A2 w:=⟨a1,a2,a3,bS (l2.trans hl) fr,h1,s1,l1.trans hl,(bO.fZ d12.symm (tZ.left l1).symm).symm⟩
  refine(hc F' w (ic _ iH (bV s2 iq)) Cf).mono ?_
  rintro e w' ⟨v,H',q,sw⟩
  obtain⟨b1,b2,b3,uc,Cr,st2,Cq,kW⟩:=sw
  have sF:St F (H'++R) w':=⟨b1,b2,b3,iH.trans uc,fZ Cr h2,bG st2 s2 (kW.right iq),bS Cq (iq.trans uc),bO.fZ (kW.right iH) wV⟩
  rcases q with⟨rfl,hT⟩|⟨rfl,hT⟩
  ·rw[hd]
   exact h v H' hT _ _ (en.put hdn v) sF
  exact hp v H' hT _ _ en sF
theorem OM{f:FuncId}{fn:Func}{c:Code}{args:List Value}{pre:Hp→Prop}{R:Value→List aa→Prop}{m:Nat}(hf:P.funcs[f]?=some fn)(hb:fn.body=some c)(hm:fn.ntmps=m)(hn:Nat.ble args.length m=true)
  (h:∀F:dy,pre F.h→G m [] F (c.wp P (bodyPostD P fn λe w'=>∃v H',e= .returned v∧R v H'∧St F H' w')) (jH 0 args) H):aF P f args pre H R:=
 λF w hp s=>calls_of_wp_defers hf hb (by
  subst hm
  exact h F hp _ _ (GU args _ (Nat.le_of_ble_eq_true hn)) s)
def GZ (P:Program)(f:FuncId)(args:List Value)(u u':FrameMode)(pre:Hp→Prop)(H:List aa)(R:Value→List aa→Prop):Prop:=
 av P f=true∧∀F w,pre F.h→St F H w→CallsD P f args.toArray u w λe x w'=>x=u'∧∃v H',e= .returned v∧R v H'∧St F H' w'
theorem LN{fn:Func}{f:FuncId}{vs cv:List Value}{u u':FrameMode}{pre:Hp→Prop}{As R:List aa}{T T':Value→List aa→Prop}{t ty b i k:Nat}{e:TypeId}(H':List aa)(hs:cy P ty=some k)(hr:fn.results= #[.cell t ty])(ht:look σ t=some (.pointer (some ⟨b,i,none⟩)))(hc:GZ P f (vs++cv) u u' pre As T)(hu:u≠ .run)(hu':settle u'= .returning)(dG:iI H As R)(ic:∀h,Le F.h h→gw R h→pre h){a:Act}{w:World}
  (en:Env n [JY f vs cv] σ a) (s:St F H w) (hT:∀v Hx,T v Hx→∃cs ws R',eX (Hx++R) (ag b e cs) R'∧(cs.drop i).take k=ws∧ws.length=k∧T' (.agg ws.toArray) H'∧∀h,ai (Hx++R) h→ai H' h):
  Leaves P fn a.tmps (λe w'=>∃v H',e= .returned v∧T' v H'∧St F H' w') a.defers u w:=by
 have Kl:=en
 rw[en.defers]
 obtain⟨j5,hc⟩:=hc
 unfold av at j5
 cases hf:P.funcs[f]? with
 |none=>simp[hf]at j5
 |some fd=>
  simp only[hf,Bool.and_eq_true,Bool.not_eq_true']at j5
  refine⟨hu, .func f,cv.toArray,f,(vs++cv).toArray,rfl, ?_, ?_⟩
  ·have h1:¬fd.name= "runtime.NumGoroutine" :=by simpa using j5.2
   have h2:¬fd.body=none:=by intro q;rw[q]at j5;simp at j5
   simp[JY,invoke,callFunc,hf]
   rw[if_neg h1,if_neg h2]
  obtain⟨a1,a2,a3,fr,hh,st,hl,tZ⟩:=s
  obtain⟨h1,h2,d12,l1,l2,s1,s2⟩:=bx (dG.out _ st)
  have wV:bO h2 F.h:=tZ.left l2
  let F':dy:={F with h:=fZ h2 F.h}
  have iH:Le F.h F'.h:=aU wV
  have iq:Le h2 F'.h:=a8 _ _
  have Cf:St F' As w:=⟨a1,a2,a3,bS (l2.trans hl) fr,h1,s1,l1.trans hl,(bO.fZ d12.symm (tZ.left l1).symm).symm⟩
  refine(hc F' w (ic _ iH (bV s2 iq)) Cf).mono ?_
  rintro e1 x w' ⟨rfl,v,Hx,rfl,hTx,sw⟩
  obtain⟨b1,b2,b3,uc,Cr,st2,Cq,kW⟩:=sw
  have sF:St F (Hx++R) w':=⟨b1,b2,b3,iH.trans uc,fZ Cr h2,bG st2 s2 (kW.right iq),bS Cq (iq.trans uc),bO.fZ (kW.right iH) wV⟩
  obtain⟨cs,ws,R',hse,hv,hk,t1,t2⟩:=hT v Hx hTx
  obtain⟨g1,g2⟩:=vH (P:=P) Kl sF ht hs hse hv hk
  show Leaves P fn a.tmps _ [] (settle x) w'
  rw[hu']
  refine⟨.agg ws.toArray, ?_,_,H',rfl,t1,sF.sub t2⟩
  simp only[results,hr]
  simp at g1
  simp[g1,g2]
theorem RrC{fn:Func}{f:FuncId}{vs cv:List Value}{pre:Hp→Prop}{As R:List aa}{T T':Value→List aa→Prop}{t ty b i k:Nat}{e:TypeId}(H':List aa)(hs:cy P ty=some k)(hr:fn.results= #[.cell t ty])(hc:GZ P f (vs++cv) .returning .returning pre As T)(dG:iI H As R)(ic:∀h,Le F.h h→gw R h→pre h)
  (hT:∀v Hx,T v Hx→∃cs ws R',eX (Hx++R) (ag b e cs) R'∧(cs.drop i).take k=ws∧ws.length=k∧T' (.agg ws.toArray) H'∧∀h,ai (Hx++R) h→ai H' h) (ht:look σ t=some (.pointer (some ⟨b,i,none⟩)):=by exact rfl):
  G n [JY f vs cv] F (bodyPostD P fn (λe w'=>∃v H',e= .returned v∧T' v H'∧St F H' w') .ret) σ H:=
 .mk λ_ _ en s=>LN H' hs hr ht hc (by simp) rfl dG ic en s hT
theorem RpC{fn:Func}{f:FuncId}{vs cv:List Value}{pre:Hp→Prop}{As R:List aa}{T T':Value→List aa→Prop}{t ty b i k:Nat}{e:TypeId}{x:Value}(H':List aa)(hs:cy P ty=some k)(hr:fn.results= #[.cell t ty])(hc:GZ P f (vs++cv) (.panicking [pe x]) (.panicking [{v:=x,recovered:=true}]) pre As T)(dG:iI H As R)(ic:∀h,Le F.h h→gw R h→pre h)
  (hT:∀v Hx,T v Hx→∃cs ws R',eX (Hx++R) (ag b e cs) R'∧(cs.drop i).take k=ws∧ws.length=k∧T' (.agg ws.toArray) H'∧∀h,ai (Hx++R) h→ai H' h) (ht:look σ t=some (.pointer (some ⟨b,i,none⟩)):=by exact rfl):
  G n [JY f vs cv] F (bodyPostD P fn (λe w'=>∃v H',e= .returned v∧T' v H'∧St F H' w') (.panic [pe x])) σ H:=
 .mk λ_ _ en s=>LN H' hs hr ht hc (by simp) rfl dG ic en s hT
theorem Xv{ops:Array Oper}{i:Nat}{rest:List Nat}{o:Oper}{a:Act}{cs:List Frame}{w w':World}{v:Value}{Q:Exit→Act→List Frame→World→Prop}(ho:ops[i]?=some o)(hg:o.guard=none)(hr:(execOp a.eval o).run P w= .ok (.value v) w')(h:wpOpsS P ops Q rest (a.put o.dst v) cs w'):wpOpsS P ops Q (i::rest) a cs w:=by
 simp only[wpOpsS,ho,Region.wanted,hg,if_true,hr]
 exact h
theorem Xw{ops:Array Oper}{i:Nat}{rest:List Nat}{o:Oper}{a:Act}{cs cs':List Frame}{w w':World}{v:Value}{Q:Exit→Act→List Frame→World→Prop}(ho:ops[i]?=some o)(hg:o.guard=none)(hr:(execOp a.eval o).run P w= .ok .recover w')
  (hc:recoverD cs=some (v,cs')∨recoverD cs=none∧v= .nilIface∧cs'=cs) (h:wpOpsS P ops Q rest (a.put o.dst v) cs' w'):wpOpsS P ops Q (i::rest) a cs w:=by
 simp only[wpOpsS,ho,Region.wanted,hg,if_true,hr]
 rcases hc with hc|⟨hc,rfl,rfl⟩
 ·rw[hc];exact h
 rw[hc];exact h
theorem LY{f:FuncId}{fn:Func}{rest:Code}{args:List Value}{pre:Hp→Prop}{R:Value→List aa→Prop}{m id t1 t2:Nat}{o1 o2:Oper}{qW:Array TypeId}{u u':FrameMode}{rv:Value}(hi:av P f=true)(hf:P.funcs[f]?=some fn)(hb:fn.body=some (.seq (.region id #[o1,o2] false) rest))(hm:fn.ntmps=m)(hn:Nat.ble args.length m=true)
  (h1:o1.op= .call {callee:= .builtin .recover,args:= #[],argTypes:=qW}) (g1:o1.guard=none) (d1:o1.dst=some t1) (h2:o2.op= .assign (.tmp t1)) (g2:o2.guard=none) (d2:o2.dst=some t2) (ht1:Nat.blt t1 m=true) (pJ:Nat.blt t2 m=true)
  (hu:(u= .returning∧rv= .nilIface∧u'= .returning)∨(u= .panicking [pe rv]∧u'= .panicking [{v:=rv,recovered:=true}]))
  (h:∀F:dy,pre F.h→G m [] F (rest.wp P (bodyPost P fn λe w'=>∃v H',e= .returned v∧R v H'∧St F H' w')) ((t2,rv)::(t1,rv)::jH 0 args) H):GZ P f args u u' pre H R:=by
 refine⟨hi,λF w hp s=>callsD_of_wpS hf hb λc₀ cs hc0=> ?_⟩
 subst hm
 have en:=GU args _ (Nat.le_of_ble_eq_true hn)
 refine wpS_seq (wpS_region ?_)
 have r1:(execOp (Act.eval {tmps:=args.toArray++Array.replicate (fn.ntmps-args.toArray.size) undef,defers:= []}) o1).run P w= .ok .recover w:=by
  simp only[execOp,h1]
  rfl
 have hc:recoverD (c₀::cs)=some (rv,{c₀ with mode:=u'}::cs)∨recoverD (c₀::cs)=none∧rv= .nilIface∧{c₀ with mode:=u'}::cs=c₀::cs:=by
  rcases hu with⟨e1,e2,e3⟩|⟨e1,e2⟩
  ·refine .inr ⟨?_,e2, ?_⟩
   ·unfold recoverD
    dsimp only
    rw[hc0,e1]
   rw[e3,←e1,←hc0]
  refine .inl ?_
  unfold recoverD
  dsimp only
  rw[hc0,e1,e2]
  rfl
 have en1:=en.put ht1 rv
 have en2:=en1.put pJ rv
 refine Xw (o:=o1) rfl g1 r1 hc ?_
 rw[d1]
 refine Xv (o:=o2) (v:=rv) rfl g2 (w':=w) ?_ ?_
 ·simp only[execOp,h2,en1.eval (x:= .tmp t1) (v:=rv) (by simp[bh,look])]
  rfl
 rw[d2]
 refine wpS_of_wp ?_
 refine wp_mono (h F hp _ _ en2 s) λx a' w' q=> ?_
 cases x with
 |normal=>obtain⟨q1,v,q2,q3⟩:=q;exact⟨q1,u',rfl,v,q2,rfl,q3⟩
 |ret=>obtain⟨q1,v,q2,q3⟩:=q;exact⟨q1,u',rfl,v,q2,rfl,q3⟩
 |panic ch=>obtain⟨_,v,H',q3,_⟩:=q;cases q3
 |exit id=>exact q.elim
 |goto l=>exact q.elim
 |outgrown=>obtain⟨v,H',q3,_⟩:=q;cases q3
end
end Go.cV
namespace Go.cV
open Go
class Cells (A:aa)(b:outParam Nat)(cs:outParam (List Value)):Prop where
 get:∀h,A h→∀(i:Nat) (v:Value),cs[i]?=some v→dI h ⟨b,i,none⟩=some v
class lY (H:List aa)(b:Nat)(cs:outParam (List Value)):Prop where
 get:∀h,gw H h→∀(i:Nat) (v:Value),cs[i]?=some v→dI h ⟨b,i,none⟩=some v
instance lY.here{A:aa}{R:List aa}{b:Nat}{cs:List Value}[c:Cells A b cs]:lY (A::R) b cs:=
 ⟨λ_ aq i v e=>by obtain⟨⟨k,a,l⟩,_⟩:=aq;exact cm l (c.get k a i v e)⟩
instance lY.there{A:aa}{R:List aa}{b:Nat}{cs:List Value}[c:lY R b cs]:lY (A::R) b cs:=
 ⟨λh aq i v e=>c.get h aq.2 i v e⟩
class oX (A:aa)(b i:Nat)(v:Value)(A':outParam aa):Prop where
 cut:∀h,A h→∃e cs R,i<cs.length∧ai (ag b e cs::R) h∧∀k,ai (ag b e (cs.set i v)::R) k→A' k
class CN (H:List aa)(b i:Nat)(v:Value)(H':outParam (List aa)):Prop where
 cut:∀h,ai H h→∃e cs R,i<cs.length∧ai (ag b e cs::R) h∧∀k,ai (ag b e (cs.set i v)::R) k→ai H' k
theorem xn{A:aa}{h:Hp}(a:A h):ai [A] h:=⟨h,λ_=>none,λ_=> .inr rfl,Le.refl h,λb o e=>by simp at e,a,trivial⟩
theorem nP{A B:aa}{R:List aa}{h1 h2 h:Hp}(d:bO h1 h2)(l1:Le h1 h)(l2:Le h2 h){X:List aa}(x:ai X h1)(r:ai R h2):ai (X++R) h:=dL (bG x r d) (bS l1 l2)
instance CN.here{A A':aa}{R:List aa}{b i:Nat}{v:Value}[c:oX A b i v A']:CN (A::R) b i v (A'::R):=
 ⟨λh s=>by
  obtain⟨h1,h2,d,l1,l2,a,s⟩:=s
  obtain⟨e,cs,R0,hi,s1,back⟩:=c.cut h1 a
  refine⟨e,cs,R0++R,hi,nP (A:=A) (B:=A) d l1 l2 s1 s,λk sk=> ?_⟩
  obtain⟨k1,k2,d',m1,m2,t1,t2⟩:=bx (A:=ag b e (cs.set i v)::R0) sk
  exact⟨k1,k2,d',m1,m2,back k1 t1,t2⟩⟩
instance CN.there{A:aa}{R R':List aa}{b i:Nat}{v:Value}[c:CN R b i v R']:CN (A::R) b i v (A::R'):=
 ⟨λh s=>by
  obtain⟨h1,h2,d,l1,l2,a,s⟩:=s
  obtain⟨e,cs,R0,hi,s1,back⟩:=c.cut h2 s
  exact⟨e,cs,A::R0,hi,cT ⟨h1,h2,d,l1,l2,a,s1⟩,λk sk=>aH (R:=ag b e (cs.set i v)::R0) back (cT sk)⟩⟩
section
variable {P:Program} {n:Nat} {ds:List Deferred} {F:dy} {Q:Exit→Act→World→Prop} {K:Act→World→Prop} {σ:aR} {H:List aa} {o:Oper} {d:Nat}
theorem oLc{t:TypeId}{x:Operand}{b i:Nat}{cs:List Value}{v:Value}(hs:cN P t=true)(h:G n ds F K ((d,v)::σ) H)(ho:o.op= .load t x:=by exact rfl)(hd:o.dst=some d:=by exact rfl)(hx:bh σ x=some (.pointer (some ⟨b,i,none⟩)):=by exact rfl)
  (c:lY H b cs:=by infer_instance) (hv:cs[i]?=some v:=by exact rfl) (hdn:Nat.blt d n=true:=by exact rfl):G n ds F (λa w=>o.wp P a w K Q) σ H:=
 AQ hs ho hd hx (λw s=>by obtain⟨hh,st,le,_⟩:=s.own;exact c.get _ (bV st le) i v hv) hdn h
theorem oLcN{t k:TypeId}{x:Operand}{b i:Nat}{cs vs:List Value}(hs:cy P t=some k)(h:G n ds F K ((d, .agg vs.toArray)::σ) H)(ho:o.op= .load t x:=by exact rfl)(hd:o.dst=some d:=by exact rfl)(hx:bh σ x=some (.pointer (some ⟨b,i,none⟩)):=by exact rfl)
  (c:lY H b cs:=by infer_instance) (hv:(cs.drop i).take k=vs:=by exact rfl) (hl:vs.length=k:=by exact rfl) (hdn:Nat.blt d n=true:=by exact rfl):G n ds F (λa w=>o.wp P a w K Q) σ H:=
 xA hs ho hd hx ⟨_,rfl,λh _ aq j v hj=>by rw[add_lit];exact c.get h aq _ v (nm hv hj)⟩ hl hdn h
theorem Z7{t:TypeId}{x y:Operand}{b i:Nat}{v:Value}{H':List aa}(hs:cN P t=true)(h:G n ds F K σ H')(ho:o.op= .store t x y:=by exact rfl)(hd:o.dst=none:=by exact rfl)(hx:bh σ x=some (.pointer (some ⟨b,i,none⟩)):=by exact rfl)(hy:bh σ y=some v:=by exact rfl)
  (c:CN H b i v H':=by infer_instance) (h1:v.oneCell'=true:=by first|rfl|decide|simp):G n ds F (λa w=>o.wp P a w K Q) σ H:=
 .mk λa w en s=>by
  obtain⟨a1,a2,a3,fr,hh,st,l,dj⟩:=s
  obtain⟨e,cs,R,hi,s1,back⟩:=c.cut hh st
  exact(AP hs ho hd hx hy h1 .here hi (az back h)) a w en ⟨a1,a2,a3,fr,hh,s1,l,dj⟩
theorem x5{t:TypeId}{x:Operand}{A:aa}{b i:Nat}{cs:List Value}{v:Value}(hs:cN P t=true)(hq:∃k,A k∧Le k F.h)(ho:o.op= .load t x:=by exact rfl)(hx:bh σ x=some (.pointer (some ⟨b,i,none⟩)):=by exact rfl)
  (c:Cells A b cs:=by infer_instance) (hv:cs[i]?=some v:=by exact rfl):Yv P n ds F σ o v:=
 E7 hs ho hx (by obtain⟨k,a,l⟩:=hq;exact cm l (c.get k a i v hv))
theorem SlA{t e sz k b i j:Nat}{x:Operand}{lo hi mx:Option Operand}(l hh m:Nat)(ht:zS P t=some (k,e,sz))(ho:o.op= .slice t x lo hi mx:=by exact rfl)(hx:bh σ x=some (.pointer (some ⟨b,i,none⟩)):=by exact rfl)
  (UC:zR σ lo 0 l:=by first|exact rfl|exact⟨_,_,rfl,rfl⟩|exact⟨_,_,rfl,by omega⟩) (hbh:zR σ hi k hh:=by first|exact rfl|exact⟨_,_,rfl,rfl⟩|exact⟨_,_,rfl,by omega⟩) (UB:zR σ mx k m:=by first|exact rfl|exact⟨_,_,rfl,rfl⟩|exact⟨_,_,rfl,by omega⟩)
  (h1:l≤hh:=by omega) (h2:hh≤m:=by omega) (h3:m≤k:=by omega) (hlm:l<m:=by omega) (hj:l*sz=j:=by first|exact Nat.mul_one _|rfl) (Cn:mx.isSome=true→hi.isSome=true:=by simp):Yv P n ds F σ o (.slice (some ⟨b,i+j,none⟩) (hh-l) (m-l)):=
 λac w en fr=>by
  unfold zS at ht
  cases hu:P.underlying t with
  |none=>simp[hu]at ht
  |some dsc=>
   cases dsc<;>simp[hu]at ht
   rename_i k' e'
   cases wx:P.info? e' with
   |none=>simp[wx]at ht
   |some inf=>
    simp[wx]at ht
    obtain⟨rfl,rfl,rfl⟩:=ht
    subst hj
    have hr:=vU (P:=P) (w:=w) en UC hbh UB h1 h2 h3 Cn false
    have:m≠l:=by omega
    simp[execOp,ho,Instr.sliceAt,en.eval hx,run_underlying hu,hr,sizeOf,typeInfo,wx,add_lit,Instr.sureAddr,this]
end
end Go.cV
namespace Go.cV
open Go
section
variable {P:Program} {n:Nat} {ds:List Deferred} {F:dy} {Q:Exit→Act→World→Prop} {K:Act→World→Prop} {σ:aR} {H:List aa}
theorem TR{c:Code}(h:G n ds F (c.wp P (Exit.noGoto Q)) σ H):G n ds F ((Code.scope c).wp P Q) σ H:= .mk λa w e s=>wp_scope_straight (h a w e s)
theorem TU{l:Nat}(h:G n ds F (Q .normal) σ H):G n ds F ((Code.label l).wp P Q) σ H:= .mk λa w e s=>wp_label (h a w e s)
theorem sH (h:G n ds F (Q .ret) σ H):G n ds F (Exit.noGoto Q .ret) σ H:=h
end
end Go.cV
