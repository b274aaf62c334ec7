/- Part Pc1 of the proof. -/
import Derived.Test.YtdolmecackmjdaaGreatDoorPb1
import Derived.Test.YtdolmecackmjdaaGreatDoorPc
import Derived.Laws.IdiomStrings
import Derived.OrdersIn
import Derived.RangeFuncLeaves
import Derived.RangeFuncRecord
import Derived.Recover
import Derived.Scope
import Derived.TacticsIn
import Derived.WalkSmall
set_option maxRecDepth 100000
namespace Go.dL
open Go
theorem o5{α:Type}{f:α→aa}{L:List α}{h:Hp}(o:∃k,aN (L.map f) k∧Le k h){a:α}(ha:a∈L):∃k,f a k∧Le k h:=by
 obtain⟨k,p,l⟩:=o;exact JC (f:=f) (X:=λa k=>∃j,f a j∧Le j k) (λa k p=>⟨k,p,Le.refl _⟩) (λa k m ⟨j,p,l⟩ lm=>⟨j,p,l.trans lm⟩) L h (by exact eF p l) a ha
theorem DB{A B:List aa}(p:List.Perm A B):∀h,ak A h→ak B h:=by
 induction p with
 |nil=>exact λ_ x=>x
 |cons _ _ ih=>exact λ_ x=>aO ih x
 |swap _ _ _=>exact λ_ x=>dK x
 |trans _ _ i1 i2=>exact λh x=>i2 h (i1 h x)
theorem nJ{A B:List aa}(p:List.Perm A B){H:List aa}{h:Hp}(s:ak (aN A::H) h):ak (aN B::H) h:=bm (λk q=>DB p k q) s
section
variable {P:Program} {n:Nat} {ds:List Deferred} {F:ee} {σ:ba} {H:List aa}
theorem Jd{fn:Func}{T:Value→List aa→Prop}{t ty b i k u:Nat}{x:Value}{e:TypeId}{cs vs:List Value}{R:List aa}(H':List aa)(hs:db P ty=some k)(hr:fn.results= #[.cell t ty, .tmp u])(hR:T (.tuple #[.agg vs.toArray,x]) H')(ht:look σ t=some (.pointer (some ⟨b,i,none⟩)):=by exact rfl)
  (hx:look σ u=some x:=by exact rfl) (ey:fE H (ag b e cs) R:=by repeat (first|exact fE.here|apply fE.there)) (hv:(cs.drop i).take k=vs:=by exact rfl) (hk:vs.length=k:=by exact rfl) (hh:∀h,ak H h→ak H' h:=by exact Eh):
  G n [] F (bodyPost P fn (λe w'=>∃v H',e= .returned v∧T v H'∧St F H' w') .ret) σ H:=
 .mk λa w en s=>⟨en.defers,_,by
  obtain⟨h1,h4⟩:=xC (P:=P) en s ht hs ey hv hk;have h2:a.tmps.getD u undef=x:=by simp[en.slot u x hx]
  simp only[results,hr];simp at h1 h2;simp[h1,h2,h4],_,H',rfl,hR,s.sub hh⟩
end
section
open Go.MapKept
variable {P:Program} {n:Nat} {ds:List Deferred} {F:ee} {Q:Exit→Act→World→Prop} {K:Act→World→Prop} {σ:ba} {H:List aa} {o:Oper} {d:Nat}
end
section
variable {α:Type} {f:α→List Value} {k:Nat}
theorem fw (hf:∀a,(f a).length=k)(l:List α):(l.flatMap f).length=l.length*k:=by
 induction l with
 |nil=>simp
 |cons a l ih=>simp only[List.flatMap_cons,List.length_append,List.length_cons,ih,hf,Nat.add_mul];omega
theorem xU (hf:∀a,(f a).length=k){l:List α}{i:Nat}{a:α}(h:l[i]?=some a):l.flatMap f=(l.take i).flatMap f++(f a++(l.drop (i+1)).flatMap f)∧((l.take i).flatMap f).length=i*k:=by
 obtain⟨hi,hg⟩:=List.getElem?_eq_some_iff.1 h
 constructor
 ·conv=>lhs;rw[←List.take_append_drop i l,List.drop_eq_getElem_cons hi,hg]
  rw[List.flatMap_append,List.flatMap_cons]
 rw[fw hf,List.length_take];congr 1;omega
theorem bE (hf:∀a,(f a).length=k){l:List α}{i j:Nat}{a:α}{v:Value}(h:l[i]?=some a)(hv:(f a)[j]?=some v):(l.flatMap f)[i*k+j]?=some v:=by
 obtain⟨e,hl⟩:=xU hf h;have hj:=(List.getElem?_eq_some_iff.1 hv).1;rw[e,List.getElem?_append_right (by omega),hl,List.getElem?_append_left (by omega),show i*k+j-i*k=j from by omega];exact hv
theorem de (hf:∀a,(f a).length=k){l:List α}{i j:Nat}{a a':α}{v:Value}(h:l[i]?=some a)(hv:(f a).set j v=f a')(hj:j<k):(l.flatMap f).set (i*k+j) v=(l.set i a').flatMap f:=by
 obtain⟨e,hl⟩:=xU hf h;have h1:=hf a;have h3:(l.set i a').flatMap f=(l.take i).flatMap f++(f a'++(l.drop (i+1)).flatMap f):=by
  rw[List.set_eq_take_append_cons_drop,if_pos (List.getElem?_eq_some_iff.1 h).1,List.flatMap_append,List.flatMap_cons]
 rw[h3,e,List.set_append_right _ _ (by omega),hl,show i*k+j-i*k=j from by omega,List.set_append_left _ _ (by omega),hv]
end
end Go.dL
namespace Go.dL
open Go
def Jb:aa:=λ_=>True
theorem jI{α:Type}{L:List α}{i:Nat}{x:α}(h:L[i]?=some x)(x':α):List.Perm (L.set i x') (x'::L.eraseIdx i):=by
 obtain⟨hi,hg⟩:=List.getElem?_eq_some_iff.1 h;rw[List.set_eq_take_append_cons_drop,if_pos hi,List.eraseIdx_eq_take_drop_succ];exact List.perm_middle
theorem gW{α:Type}{L:List α}{i:Nat}{x:α}(h:L[i]?=some x):L.set i x=L:=by
 obtain⟨hi,hg⟩:=List.getElem?_eq_some_iff.1 h;rw[←hg];exact List.set_getElem_self hi
theorem vG{α:Type}{f:α→aa}{L:List α}{i:Nat}{x:α}(h:L[i]?=some x){H:List aa}{k:Hp}(s:ak (aN (L.map f)::H) k):ak (f x::aN ((L.eraseIdx i).map f)::H) k:=by
 have p:=jI h x;rw[gW h]at p;exact FU (nJ (p.map f) s)
theorem AM{α:Type}{f:α→aa}{L:List α}{i:Nat}{x:α}(h:L[i]?=some x)(x':α){H:List aa}{k:Hp}(s:ak (f x'::aN ((L.eraseIdx i).map f)::H) k):ak (aN ((L.set i x').map f)::H) k:=by
 have s2:=xO s;refine nJ ?_ s2;have p:=((jI h x').map f).symm;rw[List.map_cons]at p;exact(List.perm_append_singleton _ _).trans p
section
variable {P:Program} {n:Nat} {ds:List Deferred} {F:ee} {σ:ba} {o:Oper}
theorem Rt4{fn:Func}{R:Value→List aa→Prop}{H:List aa}{t u u' t':Nat}{v x x' y:Value}(H':List aa)(hr:fn.results= #[.tmp t, .tmp u, .tmp u', .tmp t'])(hR:R (.tuple #[v,x,x',y]) H')(hv:look σ t=some v:=by exact rfl)(hx:look σ u=some x:=by exact rfl)(Xl:look σ u'=some x':=by exact rfl)(hy:look σ t'=some y:=by exact rfl)
  (hh:∀h,ak H h→ak H' h:=by exact Eh):G n [] F (bodyPost P fn (λe w'=>∃v H',e= .returned v∧R v H'∧St F H' w') .ret) σ H:=
 .mk λa w e s=>⟨e.defers, .tuple #[v,x,x',y],by
  have h1:a.tmps.getD t undef=v:=by simp[e.slot t v hv]
  have h2:a.tmps.getD u undef=x:=by simp[e.slot u x hx]
  have h3:a.tmps.getD u' undef=x':=by simp[e.slot u' x' Xl]
  have h4:a.tmps.getD t' undef=y:=by simp[e.slot t' y hy]
  simp only[results,hr];simp at h1 h2 h3 h4;simp[h1,h2,h3,h4],_,H',rfl,hR,s.sub hh⟩
theorem Vv{k:IntKind}{p q:Nat}(hq:0<q):gG .rem k (p:Int) (q:Int)=some ((p % q:Nat):Int):=by
 show(if(q:Int)=0 then none else some ((p:Int).tmod (q:Int)))=_;rw[if_neg (by omega),Int.tmod_eq_emod_of_nonneg (Int.natCast_nonneg p)]
 norm_cast
theorem HH{k:IntKind}{p q:Nat}(hq:0<q)(h:k.wrap ((p/q:Nat):Int)=((p/q:Nat):Int)):gG .quo k (p:Int) (q:Int)=some ((p/q:Nat):Int):=by
 show(if(q:Int)=0 then none else some (k.wrap ((p:Int).tdiv (q:Int))))=_;rw[if_neg (by omega),Int.tdiv_eq_ediv_of_nonneg (Int.natCast_nonneg p),show(p:Int)/(q:Int)=((p/q:Nat):Int)from by norm_cast,h]
theorem Rm{t yt:TypeId}{x y:Operand}{k:IntKind}{i j:Int}{p q:Nat}(ho:o.op= .binOp .rem t x y yt:=by exact rfl)(hx:bx σ x=some (.int k i):=by exact rfl)(hy:bx σ y=some (.int k j):=by exact rfl)
  (hi:i=(p:Int):=by exact rfl) (hj:j=(q:Int):=by exact rfl) (hq:0<q:=by omega):Yv P n ds F σ o (.int k ((p % q:Nat):Int)):=wi ho hx hy (by rw[hi,hj];exact Vv hq)
theorem Qu{t yt:TypeId}{x y:Operand}{i j:Int}{p q:Nat}(ho:o.op= .binOp .quo t x y yt:=by exact rfl)(hx:bx σ x=some (.int .i64 i):=by exact rfl)(hy:bx σ y=some (.int .i64 j):=by exact rfl)
  (hi:i=(p:Int):=by exact rfl) (hj:j=(q:Int):=by exact rfl) (hq:0<q:=by omega) (hw:p<9223372036854775808:=by omega):Yv P n ds F σ o (.int .i64 ((p/q:Nat):Int)):=
 wi ho hx hy (by rw[hi,hj];exact HH hq (by have h1:=Nat.div_le_self p q;generalize p/q=z at*;exact wrap_i64 (by omega)))
theorem QuU{t yt:TypeId}{x y:Operand}{i j:Int}{p q:Nat}(ho:o.op= .binOp .quo t x y yt:=by exact rfl)(hx:bx σ x=some (.int .u64 i):=by exact rfl)(hy:bx σ y=some (.int .u64 j):=by exact rfl)
  (hi:i=(p:Int):=by exact rfl) (hj:j=(q:Int):=by exact rfl) (hq:0<q:=by omega) (hw:p<18446744073709551616:=by omega):Yv P n ds F σ o (.int .u64 ((p/q:Nat):Int)):=
 wi ho hx hy (by rw[hi,hj];exact HH hq (by have h1:=Nat.div_le_self p q;generalize p/q=z at*;exact wrap_u64 (by omega)))
theorem MuN{t yt:TypeId}{x y:Operand}{i j:Int}{p q:Nat}(ho:o.op= .binOp .mul t x y yt:=by exact rfl)(hx:bx σ x=some (.int .i64 i):=by exact rfl)(hy:bx σ y=some (.int .i64 j):=by exact rfl)
  (hi:i=(p:Int):=by exact rfl) (hj:j=(q:Int):=by exact rfl) (h:p*q<9223372036854775808:=by omega):Yv P n ds F σ o (.int .i64 ((p*q:Nat):Int)):=
 wi ho hx hy (by rw[hi,hj];show some (IntKind.i64.wrap ((p:Int)*(q:Int)))=_;rw[←Int.natCast_mul];generalize p*q=z at*;exact congrArg some (wrap_i64 (by omega)))
theorem AdN{t yt:TypeId}{x y:Operand}{i j:Int}{p q:Nat}(ho:o.op= .binOp .add t x y yt:=by exact rfl)(hx:bx σ x=some (.int .i64 i):=by exact rfl)(hy:bx σ y=some (.int .i64 j):=by exact rfl)
  (hi:i=(p:Int):=by exact rfl) (hj:j=(q:Int):=by exact rfl) (h:p+q<9223372036854775808:=by omega):Yv P n ds F σ o (.int .i64 ((p+q:Nat):Int)):=
 wi ho hx hy (by rw[hi,hj];show some (IntKind.i64.wrap ((p:Int)+(q:Int)))=_;rw[←Int.natCast_add];exact congrArg some (wrap_i64 (by omega)))
theorem Xz{t e sz m b i0:Nat}{x y:Operand}{l c j:Nat}{k:IntKind}{i:Int}(ht:di P t=some (e,sz))(ho:o.op= .indexAddr t x y:=by exact rfl)(hx:bx σ x=some (.slice (some ⟨b,i0,none⟩) l c):=by exact rfl)(hy:bx σ y=some (.int k i):=by exact rfl)
  (hj:i=(j:Int):=by first|exact rfl|omega) (hl:j<l:=by omega) (hm:j*sz=m:=by first|exact Nat.mul_one _|rfl):Yv P n ds F σ o (.pointer (some ⟨b,i0+m,none⟩)):=by
 have:=Hm (P:=P) (n:=n) (ds:=ds) (F:=F) (σ:=σ) (o:=o) ht ho hx hy hj hl hm rfl
 rwa[Option.map_some,add_lit]at this
theorem IxZ{t e sz m b:Nat}{x y:Operand}{l c j:Nat}{k:IntKind}{i:Int}(ht:di P t=some (e,sz))(ho:o.op= .indexAddr t x y:=by exact rfl)(hx:bx σ x=some (.slice (some ⟨b,0,none⟩) l c):=by exact rfl)(hy:bx σ y=some (.int k i):=by exact rfl)
  (hj:i=(j:Int):=by first|exact rfl|omega) (hl:j<l:=by first|omega|assumption) (hm:j*sz=m:=by first|exact Nat.mul_one _|rfl):Yv P n ds F σ o (.pointer (some ⟨b,m,none⟩)):=by
 have:=Xz (P:=P) (n:=n) (ds:=ds) (F:=F) ht ho hx hy hj hl hm
 rwa[Nat.zero_add]at this
theorem kX (w a:Nat)(h:a<2^w):(BitVec.ofInt w (a:Int)).toNat=a:=by
 rw[BitVec.ofInt_natCast,BitVec.toNat_ofNat,Nat.mod_eq_of_lt h]
theorem x9{a:Nat}(m:Nat)(hm:m≤63)(ha:a<18446744073709551616):gG .and .u64 (a:Int) ((2^m-1:Nat):Int)=some ((a % 2^m:Nat):Int):=by
 have h2:2^m≤2^63:=Nat.pow_le_pow_right (by decide) hm;have hl:a % 2^m≤a:=Nat.mod_le _ _;show some (IntKind.u64.wrap ((BitVec.ofInt 64 (a:Int)&&&BitVec.ofInt 64 ((2^m-1:Nat):Int)).toNat:Int))=_;rw[BitVec.toNat_and,kX 64 a ha,kX 64 _ (by omega),Nat.and_two_pow_sub_one_eq_mod,wrap_u64 (by omega)]
theorem ago{a:Nat}(ha:a<18446744073709551616):gG .and .u64 (a:Int) 4294967295=some ((a % 4294967296:Nat):Int):=x9 32 (by decide) ha
theorem aeT (a:Nat):((a:Int).fdiv (2^(min 32 IntKind.u64.bits)))=((a/4294967296:Nat):Int):=by
 rw[show(2:Int)^(min 32 IntKind.u64.bits)=4294967296 from rfl,Int.fdiv_eq_ediv_of_nonneg _ (by decide)];omega
theorem Q6{n c:Nat}(h:n*256+c<256):gG .or .u8 (IntKind.u8.wrap (IntKind.u8.wrap ((n:Int)*2^(min 7 IntKind.u8.bits))*2^(min 1 IntKind.u8.bits))) (c:Int)=some ((n*256+c:Nat):Int):=by
 obtain rfl:n=0:=by omega
 show some (IntKind.u8.wrap ((BitVec.ofInt 8 0|||BitVec.ofInt 8 (c:Int)).toNat:Int))=_;rw[BitVec.toNat_or,kX 8 c (by omega),show(BitVec.ofInt 8 0).toNat=0 from rfl,Nat.zero_or,wrap_u8 (by omega)];simp
theorem HN (w n c:Nat)(hc:c<256)(h:n*256+c<2^w):(BitVec.ofInt w ((n*256:Nat):Int) |||BitVec.ofInt w (c:Int)).toNat=n*256+c:=by
 rw[BitVec.toNat_or,kX w c (by omega),kX w (n*256) (by omega),Nat.mul_comm];have:=Nat.two_pow_add_eq_or_of_lt (i:=8) (b:=c) (by simpa using hc) n;rw[show(2:Nat)^8=256 from rfl]at this;omega
theorem JU{n c:Nat}(hc:c<256)(h:n*256+c<4294967296):gG .or .u32 (IntKind.u32.wrap (IntKind.u32.wrap ((n:Int)*2^(min 7 IntKind.u32.bits))*2^(min 1 IntKind.u32.bits))) (c:Int)=some ((n*256+c:Nat):Int):=by
 rw[show(2:Int)^(min 7 IntKind.u32.bits)=128 from rfl,show(2:Int)^(min 1 IntKind.u32.bits)=2 from rfl,show IntKind.u32.wrap ((n:Int)*128)=(n:Int)*128 from wrap_u32 (by omega),show(n:Int)*128*2=((n*256:Nat):Int)from by omega,show IntKind.u32.wrap ((n*256:Nat):Int)=((n*256:Nat):Int)from wrap_u32 (by omega)];show some (IntKind.u32.wrap ((BitVec.ofInt 32 ((n*256:Nat):Int) |||BitVec.ofInt 32 (c:Int)).toNat:Int))=_;rw[HN 32 n c hc h,wrap_u32 (by omega)]
theorem JT{n c:Nat}(hc:c<256)(h:n*256+c<18446744073709551616):gG .or .u64 (IntKind.u64.wrap (IntKind.u64.wrap ((n:Int)*2^(min 7 IntKind.u64.bits))*2^(min 1 IntKind.u64.bits))) (c:Int)=some ((n*256+c:Nat):Int):=by
 rw[show(2:Int)^(min 7 IntKind.u64.bits)=128 from rfl,show(2:Int)^(min 1 IntKind.u64.bits)=2 from rfl,show IntKind.u64.wrap ((n:Int)*128)=(n:Int)*128 from wrap_u64 (by omega),show(n:Int)*128*2=((n*256:Nat):Int)from by omega,show IntKind.u64.wrap ((n*256:Nat):Int)=((n*256:Nat):Int)from wrap_u64 (by omega)];show some (IntKind.u64.wrap ((BitVec.ofInt 64 ((n*256:Nat):Int) |||BitVec.ofInt 64 (c:Int)).toNat:Int))=_;rw[HN 64 n c hc h,wrap_u64 (by omega)]
end
end Go.dL
namespace Go.dL
open Go
def nd (o:Oper):Bool:=match o.op with| .defer _=>false|_=>true
section rules
variable {P:Program} {n:Nat} {ds:List Deferred} {F:ee} {Q:Exit→Act→World→Prop} {σ:ba} {H:List aa} {r:Option Nat}
end rules
section regions
variable {P:Program} {n:Nat} {ds:List Deferred} {F:ee} {Q:Exit→Act→World→Prop} {K:Act→World→Prop} {σ:ba} {H:List aa} {o:Oper} {d:Nat} {ops:Array Oper} {rest:List Oper} {r:Option Nat}
end regions
end Go.dL
namespace Go.dL
open Go
section
variable {P:Program} {n:Nat} {ds:List Deferred} {F:ee} {Q:Exit→Act→World→Prop} {K:Act→World→Prop} {σ:ba} {H:List aa} {o:Oper} {d:Nat} {ops:Array Oper} {rest:List Oper} {r:Option Nat}
end
end Go.dL
namespace Go.dL
open Go
section
variable {P:Program} {n:Nat} {ds:List Deferred} {F:ee} {Q:Exit→Act→World→Prop} {K:Act→World→Prop} {σ:ba} {H:List aa} {o:Oper} {d:Nat}
end
end Go.dL
namespace Go.dL
open Go Go.MapKept
section
variable {P:Program} {n:Nat} {ds:List Deferred} {F:ee} {Q:Exit→Act→World→Prop} {K:Act→World→Prop} {σ:ba} {H:List aa} {o:Oper} {d:Nat}
end
end Go.dL
namespace Go.dL
open Go
section
variable {P:Program} {n:Nat} {ds:List Deferred} {F:ee} {Q:Exit→Act→World→Prop} {K:Act→World→Prop} {σ:ba} {H:List aa} {ops:Array Oper} {r:Option Nat}
theorem Dq{b ty t:Nat}{e:TypeId}{v:Value}{R:List aa}{w:World}{a:Act}(en:Env n ds σ a)(st:St F (ag b e [v]::R) w)(hs:dp P ty=true)(ht:look σ t=some (.pointer (some ⟨b,0,none⟩))):
  (asAddr (a.tmps.getD t undef)).run P w= .ok ⟨b,0,none⟩ w∧(loadVar ty ⟨b,0,none⟩).run P w= .ok v w:=by
 obtain⟨h1,hp,hl⟩:=st.get;have hg:a.tmps.getD t undef= .pointer (some ⟨b,0,none⟩):=by simp[en.slot t _ ht]
 have h2:=tL (P:=P) hs (w:=w) (kR hl (eS hp (i:=0) (v:=v) rfl));rw[hg];exact⟨by simp[asAddr],by simpa[Instr.loadAt,Instr.sureAddr]using h2⟩
def Za (P:Program)(s f:Nat):Option (Nat×TypeId):=match P.underlying s with
 |some (.struct fs)=>(fs[f]?).map λx=>(x.offset,x.type)
 |_=>none
theorem Zg{fn:Func}{T:Value→List aa→Prop}{t u tt tu b c:Nat}{et eu:TypeId}{x y:Value}(H':List aa)(ht:dp P tt=true)(hu:dp P tu=true)(hr:fn.results= #[.cell t tt, .cell u tu])
  (hR:T (.tuple #[x,y]) H') (l1:look σ t=some (.pointer (some ⟨b,0,none⟩)):=by exact rfl) (l2:look σ u=some (.pointer (some ⟨c,0,none⟩)):=by exact rfl)
  (hh:∀h,ak H h→ak (ag b et [x]::ag c eu [y]::H') h:=by exact Eh):
  G n [] F (bodyPost P fn (λe w'=>∃v H',e= .returned v∧T v H'∧St F H' w') .ret) σ H:=
 .mk λa w e st=>⟨e.defers, .tuple #[x,y],by
  have s':=st.sub hh;obtain⟨a1,a2⟩:=Dq (P:=P) e s' ht l1;obtain⟨b1,b2⟩:=Dq (P:=P) e s'.drop hu l2;simp only[results,hr];simp at a1 b1;simp[a1,a2,b1,b2],_,H',rfl,hR,(st.sub hh).drop.drop⟩
end
end Go.dL
namespace Go.dL
open Go
section
variable {P:Program} {n:Nat} {ds:List Deferred} {F:ee} {Q:Exit→Act→World→Prop} {K:Act→World→Prop} {σ:ba} {H:List aa} {o:Oper} {d:Nat}
def ME (f:FuncId)(args cv:List Value):Deferred:={target:= .fn (.func f) cv.toArray,args:=args.toArray}
theorem oDv{f:FuncId}{x:Operand}{xs:List Operand}{vs cv:List Value}{sW:Array TypeId}(h:G n (ME f vs cv::ds) F K σ H)(ho:o.op= .defer {callee:= .value x,args:=xs.toArray,argTypes:=sW}:=by exact rfl)(hx:bx σ x=some (.func (.func f) #[] cv.toArray):=by exact rfl)(hv:jY σ xs=some vs:=by exact rfl)(hd:o.dst=none:=by exact rfl):
  G n ds F (λa w=>o.wp P a w K Q) σ H:=by
 refine .mk λa w en s=> ?_;have hvs:=en.wy hv;have:(execOp a.eval o).run P w= .ok (.defer (ME f vs cv)) w:=by
  simp[execOp,ho,resolve,Deferred.ofValue,en.eval hx,ME,←hvs]
 unfold Oper.wp;rw[this,Oper.upon_defer,hd];exact h _ _ ⟨en.size,by simp[Act.put,en.defers],en.slot⟩ s
theorem aaB{fn:Func}{f:FuncId}{vs cv:List Value}{pre:Hp→Prop}{As R:List aa}{T T':Value→List aa→Prop}(hc:FnD P f (vs++cv) pre As T)(ey:jB H As R)(iX:∀h,Le F.h h→hJ R h→pre h){a:Act}{w:World}{rv:Value}{H':List aa}
  (en:Env n [ME f vs cv] σ a) (s:St F H w) (hr:∀w',(results fn a.tmps).run P w'= .ok rv w') (hT:∀v Hx,T v Hx→T' rv H'∧∀h,ak (Hx++R) h→ak H' h):
  Leaves P fn a.tmps (λe w'=>∃v H',e= .returned v∧T' v H'∧St F H' w') a.defers .returning w:=by
 rw[en.defers];obtain⟨lj,hc⟩:=hc;unfold ax at lj;cases hf:P.funcs[f]? with
 |none=>simp[hf]at lj
 |some fd=>
  simp only[hf,Bool.and_eq_true,Bool.not_eq_true']at lj;refine⟨by simp, .func f,cv.toArray,f,(vs++cv).toArray,rfl, ?_, ?_⟩
  ·have h1:¬fd.name= "runtime.NumGoroutine" :=by simpa using lj.2
   have h2:¬fd.body=none:=by intro q;rw[q]at lj;simp at lj
   simp[ME,invoke,callFunc,hf];rw[if_neg h1,if_neg h2]
  obtain⟨a1,a2,a3,fr,hh,st,hl,vO⟩:=s;obtain⟨h1,h2,d12,l1,l2,s1,s2⟩:=bQ (ey.out _ st);have yH:cE h2 F.h:=vO.left l2
  let F':ee:={F with h:=gI h2 F.h}
  have jA:Le F.h F'.h:=bh yH;have jd:Le h2 F'.h:=br _ _;have Ee:St F' As w:=⟨a1,a2,a3,cJ (l2.trans hl) fr,h1,s1,l1.trans hl,(cE.gI d12.symm (vO.left l1).symm).symm⟩;refine(hc F' w .returning (iX _ jA (cM s2 jd)) Ee).mono ?_;rintro e u' w' ⟨rfl,v,Hx,rfl,hTx,sw⟩;obtain⟨b1,b2,b3,vR,Er,st2,Ep,mu⟩:=sw;obtain⟨t1,t2⟩:=hT v Hx hTx;refine⟨rv,hr _,rv,H',rfl,t1,⟨b1,b2,b3,jA.trans vR,gI Er h2,t2 _ (bZ st2 s2 (mu.right jd)),cJ Ep (jd.trans vR),cE.gI (mu.right jA) yH⟩⟩
theorem ael{fn:Func}{f:FuncId}{vs cv:List Value}{pre:Hp→Prop}{As R:List aa}{T T':Value→List aa→Prop}(H':List aa)(hrs:fn.results= #[])(hc:FnD P f (vs++cv) pre As T)(ey:jB H As R)(iX:∀h,Le F.h h→hJ R h→pre h)
  (hT:∀v Hx,T v Hx→T' (.tuple #[]) H'∧∀h,ak (Hx++R) h→ak H' h):G n [ME f vs cv] F (YB P fn (λe w'=>∃v H',e= .returned v∧T' v H'∧St F H' w') .normal) σ H:=
 .mk λa w en s=>aaB hc ey iX en s (λw'=>results_none hrs _ _ _) hT
theorem BA{t u e:TypeId}{x:Operand}{l:List UInt8}(hs:P.underlying t=some .string)(hu:P.underlying u=some (.slice e))(he:P.underlying e=some (.int .u8))(h:∀b c,l.length≤c→G n ds F K ((d, .slice (some ⟨b,0,none⟩) l.length c)::σ) (own (some ⟨b,0,none⟩) c e 1 (ai l)::H))
  (ho:o.op= .convert t u x:=by exact rfl) (hx:bx σ x=some (aB l):=by exact rfl) (hd:o.dst=some d:=by exact rfl) (hdn:Nat.blt d n=true:=by exact rfl) (hl:l.length≤9223372036854775807:=by omega):G n ds F (λa w=>o.wp P a w K Q) σ H:=by
 refine .mk λa w en s=> ?_;have UI:=run_bytes_of_string (P:=P) w t u e ⟨l.toArray⟩ hs hu he;have sT:(⟨l.toArray⟩:ByteArray).size=l.length:=by simp[ByteArray.size]
 rw[sT]at UI;have GN:=grownCap_ge w l.length 0 e;have hle:=grownCap_le_maxLen w l.length 0 e (by simp only[maxLen];omega);generalize grownCap w l.length 0 e=c at*;unfold Oper.wp;have h2:(execOp a.eval o).run P w= .ok (.value (.slice (some ⟨w.heap.size,0,none⟩) l.length c)) (w.drew.alloc (.cells (bytesRow ⟨l.toArray⟩ c) e ((bytesRow ⟨l.toArray⟩ c).size,(bytesRow ⟨l.toArray⟩ c).size+1))):=by
  simp only[execOp,ho,en.eval hx,aB,Sem.run_bind,UI];rfl
 rw[h2,Oper.upon_value,hd];refine h _ _ GN _ _ (en.put hdn _) ?_;have yp:(bytesRow ⟨l.toArray⟩ c).toList=ai l++List.replicate (c-l.length) (.int .u8 0):=by
  unfold bytesRow ai;rw[sT];simp
 refine(s.drawn (w.drawn+1)).adZ _ _ ?_;have hlen:(ai l++List.replicate (c-l.length) (Value.int .u8 0)).length=c:=by
  unfold ai;rw[List.length_append,List.length_map,List.length_replicate];omega
 have p:ag w.heap.size e (ai l++List.replicate (c-l.length) (.int .u8 0)) λx=>if x=w.heap.size then some (.cells (bytesRow ⟨l.toArray⟩ c) e ((bytesRow ⟨l.toArray⟩ c).size,(bytesRow ⟨l.toArray⟩ c).size+1))else none:=by
  refine .mk _ _ (.inr ?_) (by
   rw[if_pos rfl,←yp,Array.toArray_toList])
  rw[←yp];simp
 have q:=xc (nK p c 1 (by rw[hlen,Nat.mul_one]) hle) l.length;have e1:(ai l++List.replicate (c-l.length) (Value.int .u8 0)).take l.length=ai l:=by
  have:(ai l).length=l.length:=List.length_map _;rw[←this,List.take_left]
 rw[e1]at q;exact q
theorem oTs{s t e e':TypeId}{x:Operand}{a:Option Addr}{l:List UInt8}{m c cap sz:Nat}{R:List aa}(hs:di P s=some (e,sz))(he:P.underlying e=some (.int .u8))(ht:P.underlying t=some .string)(h:G n ds F K ((d,aB l)::σ) H)
  (ho:o.op= .convert s t x:=by exact rfl) (hx:bx σ x=some (.slice a m c):=by exact rfl) (ey:fE H (own a cap e' 1 (ai l)) R:=by repeat (first|exact fE.here|apply fE.there)) (hd:o.dst=some d:=by exact rfl) (hdn:Nat.blt d n=true:=by exact rfl) (hm:m=l.length:=by first|rfl|omega):
  G n ds F (λa w=>o.wp P a w K Q) σ H:=
 qS hd hdn (λac w en st=>by
  obtain⟨h1,hp,hl⟩:=(st.sS ey).get;subst hm;have hr':=sB (P:=P) (c:=c) ((pG hp).mono hl);have:=run_underlying (P:=P) (jK hs).1 w;cases a with
  |none=>simp[execOp,ho,en.eval hx,convert,this,run_underlying ht,run_underlying he,hr']
  |some ad=>simp[execOp,ho,en.eval hx,convert,this,run_underlying ht,run_underlying he,hr']) h
end
end Go.dL
namespace Go.dL
open Go
section
variable {P:Program} {n:Nat} {ds:List Deferred} {F:ee} {Q:Exit→Act→World→Prop} {K:Act→World→Prop} {σ:ba} {H:List aa} {o:Oper} {d:Nat}
def pe (v:Value):PanicEntry:={v:=v,recovered:=false}
def PoP (F:ee)(R T:Value→List aa→Prop)(e:Ending)(w:World):Prop:=∃v H',(e= .returned v∧R v H'∨e= .panicked [pe v]∧T v H')∧St F H' w
def Uy (P:Program)(f:FuncId)(args:List Value)(pre:Hp→Prop)(H:List aa)(R T:Value→List aa→Prop):Prop:=
 ∀F w,pre F.h→St F H w→Calls P f args.toArray w (PoP F R T)
theorem kS{f:FuncId}{fn:Func}{c:Code}{args:List Value}{pre:Hp→Prop}{R T:Value→List aa→Prop}{m:Nat}(hf:P.funcs[f]?=some fn)(hb:fn.body=some c)(hm:fn.ntmps=m)(hn:Nat.ble args.length m=true)
  (h:∀F:ee,pre F.h→G m [] F (c.wp P (bodyPost P fn (PoP F R T))) (kG 0 args) H):Uy P f args pre H R T:=
 λF w hp s=>calls_of_wp hf hb (by
  subst hm;exact h F hp _ _ (Ja args _ (Nat.le_of_ble_eq_true hn)) s)
theorem pR{fn:Func}{R T:Value→List aa→Prop}(h:G n ds F (bodyPost P fn (λe w'=>∃v H',e= .returned v∧R v H'∧St F H' w') .ret) σ H):G n ds F (bodyPost P fn (PoP F R T) .ret) σ H:=
 .mk λa w e s=>by
  obtain⟨h1,v,h2,v',H',q,r,s'⟩:=h a w e s;exact⟨h1,v,h2,v',H', .inl ⟨q,r⟩,s'⟩
theorem pN{fn:Func}{R T:Value→List aa→Prop}(h:G n ds F (bodyPost P fn (λe w'=>∃v H',e= .returned v∧R v H'∧St F H' w') .normal) σ H):G n ds F (bodyPost P fn (PoP F R T) .normal) σ H:=
 .mk λa w e s=>by
  obtain⟨h1,v,h2,v',H',q,r,s'⟩:=h a w e s;exact⟨h1,v,h2,v',H', .inl ⟨q,r⟩,s'⟩
theorem pP{R T:Value→List aa→Prop}{v:Value}(H':List aa)(hT:T v H')(hh:∀h,ak H h→ak H' h:=by exact Eh):G n [] F (λa w=>a.defers= []∧PoP F R T (.panicked [pe v]) w) σ H:=
 .mk λa w e s=>⟨e.defers,v,H', .inr ⟨rfl,hT⟩,s.sub hh⟩
theorem TD{t:TypeId}{x:Operand}{v:Value}(h:G n ds F (Q (.panic [pe (.iface t v)])) σ H)(ho:o.op= .panic x:=by exact rfl)(hx:bx σ x=some (.iface t v):=by exact rfl):G n ds F (λa w=>o.wp P a w K Q) σ H:=by
 refine .mk λa w en s=> ?_;have h2:(execOp a.eval o).run P w= .halt (.panic (.iface t v)) w:=by
  simp only[execOp,ho,en.eval hx,Sem.run_bind,run_panic_iface];rfl
 unfold Oper.wp;rw[h2,Oper.upon_panic];exact h a w en s
theorem MM{f:FuncId}{xs:List Operand}{vs:List Value}{sW:Array TypeId}{pre:Hp→Prop}{A2 R:List aa}{Tr Tp:Value→List aa→Prop}(lj:ax P f=true)(ho:o.op= .call {callee:= .value (.func f),args:=xs.toArray,argTypes:=sW})(hv:jY σ xs=some vs)(hc:Uy P f vs pre A2 Tr Tp)(ey:jB H A2 R)(iX:∀h,Le F.h h→hJ R h→pre h)
  (hp:∀v H',Tp v H'→G n ds F (Q (.panic [pe v])) σ (H'++R)) (h:∀v H',Tr v H'→G n ds F K ((d,v)::σ) (H'++R)) (hd:o.dst=some d:=by exact rfl) (hdn:Nat.blt d n=true:=by exact rfl):
  G n ds F (λa w=>o.wp P a w K Q) σ H:=by
 refine .mk λa w en s=> ?_;unfold ax at lj;cases hf:P.funcs[f]? with
 |none=>simp[hf]at lj
 |some fn=>
  simp only[hf,Bool.and_eq_true,Bool.not_eq_true']at lj;unfold Oper.wp;rw[CM ho rfl (en.wy hv) hf lj.1 lj.2,Oper.upon_enter];obtain⟨a1,a2,a3,fr,hh,st,hl,vO⟩:=s;obtain⟨h1,h2,d12,l1,l2,s1,s2⟩:=bQ (ey.out _ st);have yH:cE h2 F.h:=vO.left l2
  let F':ee:={F with h:=gI h2 F.h}
  have jA:Le F.h F'.h:=bh yH;have jd:Le h2 F'.h:=br _ _;have Ee:St F' A2 w:=⟨a1,a2,a3,cJ (l2.trans hl) fr,h1,s1,l1.trans hl,(cE.gI d12.symm (vO.left l1).symm).symm⟩;refine(hc F' w (iX _ jA (cM s2 jd)) Ee).mono ?_;rintro e w' ⟨v,H',q,sw⟩;obtain⟨b1,b2,b3,vR,Er,st2,Ep,mu⟩:=sw;have sF:St F (H'++R) w':=⟨b1,b2,b3,jA.trans vR,gI Er h2,bZ st2 s2 (mu.right jd),cJ Ep (jd.trans vR),cE.gI (mu.right jA) yH⟩;rcases q with⟨rfl,hT⟩|⟨rfl,hT⟩
  ·rw[hd]
   exact h v H' hT _ _ (en.put hdn v) sF
  exact hp v H' hT _ _ en sF
theorem RJ{f:FuncId}{fn:Func}{c:Code}{args:List Value}{pre:Hp→Prop}{R:Value→List aa→Prop}{m:Nat}(hf:P.funcs[f]?=some fn)(hb:fn.body=some c)(hm:fn.ntmps=m)(hn:Nat.ble args.length m=true)
  (h:∀F:ee,pre F.h→G m [] F (c.wp P (bodyPostD P fn λe w'=>∃v H',e= .returned v∧R v H'∧St F H' w')) (kG 0 args) H):aH P f args pre H R:=
 λF w hp s=>calls_of_wp_defers hf hb (by
  subst hm;exact h F hp _ _ (Ja args _ (Nat.le_of_ble_eq_true hn)) s)
def Jf (P:Program)(f:FuncId)(args:List Value)(u u':FrameMode)(pre:Hp→Prop)(H:List aa)(R:Value→List aa→Prop):Prop:=
 ax P f=true∧∀F w,pre F.h→St F H w→CallsD P f args.toArray u w λe x w'=>x=u'∧∃v H',e= .returned v∧R v H'∧St F H' w'
theorem Ou{fn:Func}{f:FuncId}{vs cv:List Value}{u u':FrameMode}{pre:Hp→Prop}{As R:List aa}{T T':Value→List aa→Prop}{t ty b i k:Nat}{e:TypeId}(H':List aa)(hs:db P ty=some k)(hr:fn.results= #[.cell t ty])(ht:look σ t=some (.pointer (some ⟨b,i,none⟩)))(hc:Jf P f (vs++cv) u u' pre As T)(hu:u≠ .run)(hu':settle u'= .returning)(ey:jB H As R)(iX:∀h,Le F.h h→hJ R h→pre h){a:Act}{w:World}
  (en:Env n [ME f vs cv] σ a) (s:St F H w) (hT:∀v Hx,T v Hx→∃cs ws R',fE (Hx++R) (ag b e cs) R'∧(cs.drop i).take k=ws∧ws.length=k∧T' (.agg ws.toArray) H'∧∀h,ak (Hx++R) h→ak H' h):
  Leaves P fn a.tmps (λe w'=>∃v H',e= .returned v∧T' v H'∧St F H' w') a.defers u w:=by
 have MZ:=en;rw[en.defers];obtain⟨lj,hc⟩:=hc;unfold ax at lj;cases hf:P.funcs[f]? with
 |none=>simp[hf]at lj
 |some fd=>
  simp only[hf,Bool.and_eq_true,Bool.not_eq_true']at lj;refine⟨hu, .func f,cv.toArray,f,(vs++cv).toArray,rfl, ?_, ?_⟩
  ·have h1:¬fd.name= "runtime.NumGoroutine" :=by simpa using lj.2
   have h2:¬fd.body=none:=by intro q;rw[q]at lj;simp at lj
   simp[ME,invoke,callFunc,hf];rw[if_neg h1,if_neg h2]
  obtain⟨a1,a2,a3,fr,hh,st,hl,vO⟩:=s;obtain⟨h1,h2,d12,l1,l2,s1,s2⟩:=bQ (ey.out _ st);have yH:cE h2 F.h:=vO.left l2
  let F':ee:={F with h:=gI h2 F.h}
  have jA:Le F.h F'.h:=bh yH;have jd:Le h2 F'.h:=br _ _;have Ee:St F' As w:=⟨a1,a2,a3,cJ (l2.trans hl) fr,h1,s1,l1.trans hl,(cE.gI d12.symm (vO.left l1).symm).symm⟩;refine(hc F' w (iX _ jA (cM s2 jd)) Ee).mono ?_;rintro e1 x w' ⟨rfl,v,Hx,rfl,hTx,sw⟩;obtain⟨b1,b2,b3,vR,Er,st2,Ep,mu⟩:=sw;have sF:St F (Hx++R) w':=⟨b1,b2,b3,jA.trans vR,gI Er h2,bZ st2 s2 (mu.right jd),cJ Ep (jd.trans vR),cE.gI (mu.right jA) yH⟩;obtain⟨cs,ws,R',hse,hv,hk,t1,t2⟩:=hT v Hx hTx;obtain⟨g1,g2⟩:=xC (P:=P) MZ sF ht hs hse hv hk;show Leaves P fn a.tmps _ [] (settle x) w';rw[hu'];refine⟨.agg ws.toArray, ?_,_,H',rfl,t1,sF.sub t2⟩;simp only[results,hr];simp at g1;simp[g1,g2]
theorem RrC{fn:Func}{f:FuncId}{vs cv:List Value}{pre:Hp→Prop}{As R:List aa}{T T':Value→List aa→Prop}{t ty b i k:Nat}{e:TypeId}(H':List aa)(hs:db P ty=some k)(hr:fn.results= #[.cell t ty])(hc:Jf P f (vs++cv) .returning .returning pre As T)(ey:jB H As R)(iX:∀h,Le F.h h→hJ R h→pre h)
  (hT:∀v Hx,T v Hx→∃cs ws R',fE (Hx++R) (ag b e cs) R'∧(cs.drop i).take k=ws∧ws.length=k∧T' (.agg ws.toArray) H'∧∀h,ak (Hx++R) h→ak H' h) (ht:look σ t=some (.pointer (some ⟨b,i,none⟩)):=by exact rfl):
  G n [ME f vs cv] F (bodyPostD P fn (λe w'=>∃v H',e= .returned v∧T' v H'∧St F H' w') .ret) σ H:=
 .mk λ_ _ en s=>Ou H' hs hr ht hc (by simp) rfl ey iX en s hT
theorem RpC{fn:Func}{f:FuncId}{vs cv:List Value}{pre:Hp→Prop}{As R:List aa}{T T':Value→List aa→Prop}{t ty b i k:Nat}{e:TypeId}{x:Value}(H':List aa)(hs:db P ty=some k)(hr:fn.results= #[.cell t ty])(hc:Jf P f (vs++cv) (.panicking [pe x]) (.panicking [{v:=x,recovered:=true}]) pre As T)(ey:jB H As R)(iX:∀h,Le F.h h→hJ R h→pre h)
  (hT:∀v Hx,T v Hx→∃cs ws R',fE (Hx++R) (ag b e cs) R'∧(cs.drop i).take k=ws∧ws.length=k∧T' (.agg ws.toArray) H'∧∀h,ak (Hx++R) h→ak H' h) (ht:look σ t=some (.pointer (some ⟨b,i,none⟩)):=by exact rfl):
  G n [ME f vs cv] F (bodyPostD P fn (λe w'=>∃v H',e= .returned v∧T' v H'∧St F H' w') (.panic [pe x])) σ H:=
 .mk λ_ _ en s=>Ou H' hs hr ht hc (by simp) rfl ey iX en s hT
theorem aae{ops:Array Oper}{i:Nat}{rest:List Nat}{o:Oper}{a:Act}{cs:List Frame}{w w':World}{v:Value}{Q:Exit→Act→List Frame→World→Prop}(ho:ops[i]?=some o)(hg:o.guard=none)(hr:(execOp a.eval o).run P w= .ok (.value v) w')(h:wpOpsS P ops Q rest (a.put o.dst v) cs w'):wpOpsS P ops Q (i::rest) a cs w:=by
 simp only[wpOpsS,ho,Region.wanted,hg,if_true,hr];exact h
theorem aaf{ops:Array Oper}{i:Nat}{rest:List Nat}{o:Oper}{a:Act}{cs cs':List Frame}{w w':World}{v:Value}{Q:Exit→Act→List Frame→World→Prop}(ho:ops[i]?=some o)(hg:o.guard=none)(hr:(execOp a.eval o).run P w= .ok .recover w')
  (hc:recoverD cs=some (v,cs')∨recoverD cs=none∧v= .nilIface∧cs'=cs) (h:wpOpsS P ops Q rest (a.put o.dst v) cs' w'):wpOpsS P ops Q (i::rest) a cs w:=by
 simp only[wpOpsS,ho,Region.wanted,hg,if_true,hr];rcases hc with hc|⟨hc,rfl,rfl⟩
 ·rw[hc];exact h
 rw[hc];exact h
theorem OD{f:FuncId}{fn:Func}{rest:Code}{args:List Value}{pre:Hp→Prop}{R:Value→List aa→Prop}{m id t1 t2:Nat}{o1 o2:Oper}{sW:Array TypeId}{u u':FrameMode}{rv:Value}(hi:ax P f=true)(hf:P.funcs[f]?=some fn)(hb:fn.body=some (.seq (.region id #[o1,o2] false) rest))(hm:fn.ntmps=m)(hn:Nat.ble args.length m=true)
  (h1:o1.op= .call {callee:= .builtin .recover,args:= #[],argTypes:=sW}) (g1:o1.guard=none) (d1:o1.dst=some t1) (h2:o2.op= .assign (.tmp t1)) (g2:o2.guard=none) (d2:o2.dst=some t2) (ht1:Nat.blt t1 m=true) (ry:Nat.blt t2 m=true)
  (hu:(u= .returning∧rv= .nilIface∧u'= .returning)∨(u= .panicking [pe rv]∧u'= .panicking [{v:=rv,recovered:=true}]))
  (h:∀F:ee,pre F.h→G m [] F (rest.wp P (bodyPost P fn λe w'=>∃v H',e= .returned v∧R v H'∧St F H' w')) ((t2,rv)::(t1,rv)::kG 0 args) H):Jf P f args u u' pre H R:=by
 refine⟨hi,λF w hp s=>callsD_of_wpS hf hb λc₀ cs hc0=> ?_⟩;subst hm;have en:=Ja args _ (Nat.le_of_ble_eq_true hn);refine wpS_seq (wpS_region ?_);have r1:(execOp (Act.eval {tmps:=args.toArray++Array.replicate (fn.ntmps-args.toArray.size) undef,defers:= []}) o1).run P w= .ok .recover w:=by
  simp only[execOp,h1];rfl
 have hc:recoverD (c₀::cs)=some (rv,{c₀ with mode:=u'}::cs)∨recoverD (c₀::cs)=none∧rv= .nilIface∧{c₀ with mode:=u'}::cs=c₀::cs:=by
  rcases hu with⟨e1,e2,e3⟩|⟨e1,e2⟩
  ·refine .inr ⟨?_,e2, ?_⟩
   ·unfold recoverD
    dsimp only;rw[hc0,e1]
   rw[e3,←e1,←hc0]
  refine .inl ?_;unfold recoverD;dsimp only;rw[hc0,e1,e2];rfl
 have en1:=en.put ht1 rv;have en2:=en1.put ry rv;refine aaf (o:=o1) rfl g1 r1 hc ?_;rw[d1];refine aae (o:=o2) (v:=rv) rfl g2 (w':=w) ?_ ?_
 ·simp only[execOp,h2,en1.eval (x:= .tmp t1) (v:=rv) (by simp[bx,look])]
  rfl
 rw[d2];refine wpS_of_wp ?_;refine wp_mono (h F hp _ _ en2 s) λx a' w' q=> ?_;cases x with
 |normal=>obtain⟨q1,v,q2,q3⟩:=q;exact⟨q1,u',rfl,v,q2,rfl,q3⟩
 |ret=>obtain⟨q1,v,q2,q3⟩:=q;exact⟨q1,u',rfl,v,q2,rfl,q3⟩
 |panic ch=>obtain⟨_,v,H',q3,_⟩:=q;cases q3
 |exit id=>exact q.elim
 |goto l=>exact q.elim
 |outgrown=>obtain⟨v,H',q3,_⟩:=q;cases q3
end
end Go.dL
namespace Go.dL
open Go
class Cells (A:aa)(b:outParam Nat)(cs:outParam (List Value)):Prop where
 get:∀h,A h→∀(i:Nat) (v:Value),cs[i]?=some v→dY h ⟨b,i,none⟩=some v
class nz (H:List aa)(b:Nat)(cs:outParam (List Value)):Prop where
 get:∀h,hJ H h→∀(i:Nat) (v:Value),cs[i]?=some v→dY h ⟨b,i,none⟩=some v
instance nz.here{A:aa}{R:List aa}{b:Nat}{cs:List Value}[c:Cells A b cs]:nz (A::R) b cs:=
 ⟨λ_ aw i v e=>by obtain⟨⟨k,a,l⟩,_⟩:=aw;exact cX l (c.get k a i v e)⟩
instance nz.there{A:aa}{R:List aa}{b:Nat}{cs:List Value}[c:nz R b cs]:nz (A::R) b cs:=
 ⟨λh aw i v e=>c.get h aw.2 i v e⟩
class qK (A:aa)(b i:Nat)(v:Value)(A':outParam aa):Prop where
 cut:∀h,A h→∃e cs R,i<cs.length∧ak (ag b e cs::R) h∧∀k,ak (ag b e (cs.set i v)::R) k→A' k
class EJ (H:List aa)(b i:Nat)(v:Value)(H':outParam (List aa)):Prop where
 cut:∀h,ak H h→∃e cs R,i<cs.length∧ak (ag b e cs::R) h∧∀k,ak (ag b e (cs.set i v)::R) k→ak H' k
theorem y4{A:aa}{h:Hp}(a:A h):ak [A] h:=⟨h,λ_=>none,λ_=> .inr rfl,Le.refl h,λb o e=>by simp at e,a,trivial⟩
theorem pK{A B:aa}{R:List aa}{h1 h2 h:Hp}(d:cE h1 h2)(l1:Le h1 h)(l2:Le h2 h){X:List aa}(x:ak X h1)(r:ak R h2):ak (X++R) h:=eF (bZ x r d) (cJ l1 l2)
instance EJ.here{A A':aa}{R:List aa}{b i:Nat}{v:Value}[c:qK A b i v A']:EJ (A::R) b i v (A'::R):=
 ⟨λh s=>by
  obtain⟨h1,h2,d,l1,l2,a,s⟩:=s;obtain⟨e,cs,R0,hi,s1,back⟩:=c.cut h1 a;refine⟨e,cs,R0++R,hi,pK (A:=A) (B:=A) d l1 l2 s1 s,λk sk=> ?_⟩;obtain⟨k1,k2,d',m1,m2,t1,t2⟩:=bQ (A:=ag b e (cs.set i v)::R0) sk;exact⟨k1,k2,d',m1,m2,back k1 t1,t2⟩⟩
instance EJ.there{A:aa}{R R':List aa}{b i:Nat}{v:Value}[c:EJ R b i v R']:EJ (A::R) b i v (A::R'):=
 ⟨λh s=>by
  obtain⟨h1,h2,d,l1,l2,a,s⟩:=s;obtain⟨e,cs,R0,hi,s1,back⟩:=c.cut h2 s;exact⟨e,cs,A::R0,hi,dK ⟨h1,h2,d,l1,l2,a,s1⟩,λk sk=>aO (R:=ag b e (cs.set i v)::R0) back (dK sk)⟩⟩
section
variable {P:Program} {n:Nat} {ds:List Deferred} {F:ee} {Q:Exit→Act→World→Prop} {K:Act→World→Prop} {σ:ba} {H:List aa} {o:Oper} {d:Nat}
theorem oLc{t:TypeId}{x:Operand}{b i:Nat}{cs:List Value}{v:Value}(hs:dp P t=true)(h:G n ds F K ((d,v)::σ) H)(ho:o.op= .load t x:=by exact rfl)(hd:o.dst=some d:=by exact rfl)(hx:bx σ x=some (.pointer (some ⟨b,i,none⟩)):=by exact rfl)
  (c:nz H b cs:=by infer_instance) (hv:cs[i]?=some v:=by exact rfl) (hdn:Nat.blt d n=true:=by exact rfl):G n ds F (λa w=>o.wp P a w K Q) σ H:=
 CU hs ho hd hx (λw s=>by obtain⟨hh,st,le,_⟩:=s.own;exact c.get _ (cM st le) i v hv) hdn h
theorem oLcN{t k:TypeId}{x:Operand}{b i:Nat}{cs vs:List Value}(hs:db P t=some k)(h:G n ds F K ((d, .agg vs.toArray)::σ) H)(ho:o.op= .load t x:=by exact rfl)(hd:o.dst=some d:=by exact rfl)(hx:bx σ x=some (.pointer (some ⟨b,i,none⟩)):=by exact rfl)
  (c:nz H b cs:=by infer_instance) (hv:(cs.drop i).take k=vs:=by exact rfl) (hl:vs.length=k:=by exact rfl) (hdn:Nat.blt d n=true:=by exact rfl):G n ds F (λa w=>o.wp P a w K Q) σ H:=
 zm hs ho hd hx ⟨_,rfl,λh _ aw j v hj=>by rw[add_lit];exact c.get h aw _ v (o3 hv hj)⟩ hl hdn h
theorem oSc{t:TypeId}{x y:Operand}{b i:Nat}{v:Value}{H':List aa}(hs:dp P t=true)(h:G n ds F K σ H')(ho:o.op= .store t x y:=by exact rfl)(hd:o.dst=none:=by exact rfl)(hx:bx σ x=some (.pointer (some ⟨b,i,none⟩)):=by exact rfl)(hy:bx σ y=some v:=by exact rfl)
  (c:EJ H b i v H':=by infer_instance) (h1:v.oneCell'=true:=by first|rfl|decide|simp):G n ds F (λa w=>o.wp P a w K Q) σ H:=
 .mk λa w en s=>by
  obtain⟨a1,a2,a3,fr,hh,st,l,dj⟩:=s;obtain⟨e,cs,R,hi,s1,back⟩:=c.cut hh st;exact(CT hs ho hd hx hy h1 .here hi (aC back h)) a w en ⟨a1,a2,a3,fr,hh,s1,l,dj⟩
theorem fB{t:TypeId}{x:Operand}{A:aa}{b i:Nat}{cs:List Value}{v:Value}(hs:dp P t=true)(hq:∃k,A k∧Le k F.h)(ho:o.op= .load t x:=by exact rfl)(hx:bx σ x=some (.pointer (some ⟨b,i,none⟩)):=by exact rfl)
  (c:Cells A b cs:=by infer_instance) (hv:cs[i]?=some v:=by exact rfl):Yv P n ds F σ o v:=
 Hl hs ho hx (by obtain⟨k,a,l⟩:=hq;exact cX l (c.get k a i v hv))
theorem SlA{t e sz k b i j:Nat}{x:Operand}{lo hi mx:Option Operand}(l hh m:Nat)(ht:BR P t=some (k,e,sz))(ho:o.op= .slice t x lo hi mx:=by exact rfl)(hx:bx σ x=some (.pointer (some ⟨b,i,none⟩)):=by exact rfl)
  (Eu:BQ σ lo 0 l:=by first|exact rfl|exact⟨_,_,rfl,rfl⟩|exact⟨_,_,rfl,by omega⟩) (hbh:BQ σ hi k hh:=by first|exact rfl|exact⟨_,_,rfl,rfl⟩|exact⟨_,_,rfl,by omega⟩) (Xw:BQ σ mx k m:=by first|exact rfl|exact⟨_,_,rfl,rfl⟩|exact⟨_,_,rfl,by omega⟩)
  (h1:l≤hh:=by omega) (h2:hh≤m:=by omega) (h3:m≤k:=by omega) (TP:l<m:=by omega) (hj:l*sz=j:=by first|exact Nat.mul_one _|rfl) (Em:mx.isSome=true→hi.isSome=true:=by simp):Yv P n ds F σ o (.slice (some ⟨b,i+j,none⟩) (hh-l) (m-l)):=
 λac w en fr=>by
  unfold BR at ht;cases hu:P.underlying t with
  |none=>simp[hu]at ht
  |some dsc=>
   cases dsc<;>simp[hu]at ht
   rename_i k' e'
   cases vN:P.info? e' with
   |none=>simp[vN]at ht
   |some inf=>
    simp[vN]at ht;obtain⟨rfl,rfl,rfl⟩:=ht;subst hj;have hr:=xT (P:=P) (w:=w) en Eu hbh Xw h1 h2 h3 Em false;have:m≠l:=by omega
    simp[execOp,ho,Instr.sliceAt,en.eval hx,run_underlying hu,hr,sizeOf,typeInfo,vN,add_lit,Instr.sureAddr,this]
end
end Go.dL
namespace Go.dL
open Go
section
variable {P:Program} {n:Nat} {ds:List Deferred} {F:ee} {Q:Exit→Act→World→Prop} {K:Act→World→Prop} {σ:ba} {H:List aa}
theorem WL{c:Code}(h:G n ds F (c.wp P (Exit.noGoto Q)) σ H):G n ds F ((Code.scope c).wp P Q) σ H:= .mk λa w e s=>wp_scope_straight (h a w e s)
theorem WO{l:Nat}(h:G n ds F (Q .normal) σ H):G n ds F ((Code.label l).wp P Q) σ H:= .mk λa w e s=>wp_label (h a w e s)
theorem uD (h:G n ds F (Q .ret) σ H):G n ds F (Exit.noGoto Q .ret) σ H:=h
end
end Go.dL
