/- Part Pc of the proof. -/
import Derived.Test.YtdolmecackmjdaaGreatDoorPb
import Derived.Defers
import Derived.Laws.Concat
import Derived.Laws.Externs
import Derived.Laws.LoneSync
import Derived.Laws.StructEq
import Derived.MapKept
set_option maxRecDepth 100000
namespace Go.dL
open Go
section
variable {P:Program} {f:FuncId} {args:List Value} {pre:Hp→Prop} {H:List aa} {R:Value→List aa→Prop}
theorem St.ex{ι:Type}{F:ee}{w:World}{A:ι→aa}(s:St F ((λk=>∃x,A x k)::H) w):∃x,St F (A x::H) w:=by
 obtain⟨a1,a2,a3,fr,hh,⟨h1,h2,d,l1,l2,⟨x,hx⟩,st⟩,y,z⟩:=s;exact⟨x,a1,a2,a3,fr,hh,⟨h1,h2,d,l1,l2,hx,st⟩,y,z⟩
theorem aH.exL{ι:Type}{A:ι→aa}(h:∀x,aH P f args pre (A x::H) R):aH P f args pre ((λk=>∃x,A x k)::H) R:=λF w hp s=>by
 obtain⟨x,s'⟩:=s.ex;exact h x F w hp s'
theorem aH.Cb{X:Prop}{A:aa}(h:X→aH P f args pre (A::H) R):aH P f args pre ((λk=>X∧A k)::H) R:=λF w hp s=>by
 obtain⟨a1,a2,a3,fr,hh,⟨h1,h2,d,l1,l2,⟨x,hx⟩,st⟩,y,z⟩:=s;exact h x F w hp ⟨a1,a2,a3,fr,hh,⟨h1,h2,d,l1,l2,hx,st⟩,y,z⟩
theorem aH.EU{L:List aa}(h:aH P f args pre (L++H) R):aH P f args pre (aN L::H) R:=λF w hp s=>
 h F w hp (s.sub λk s=>by
  obtain⟨h1,h2,d,l1,l2,s1,s2⟩:=s;exact eF (bZ s1 s2 d) (cJ l1 l2))
theorem aH.out{R':Value→List aa→Prop}(h:aH P f args pre H R)(hr:∀v H',R v H'→∃H'',R' v H''∧∀k,ak H' k→ak H'' k):aH P f args pre H R':=λF w p s=>
 (h F w p s).mono λe w' hh=>by
  obtain⟨v,H',he,r,st⟩:=hh;obtain⟨H'',r',ent⟩:=hr v H' r;exact⟨v,H'',he,r',st.sub ent⟩
theorem aH.inp{adT:Hp→Prop}(h:aH P f args pre H R)(hp:∀k,adT k→pre k):aH P f args adT H R:=λF w p s=>h F w (hp _ p) s
theorem aH.aau{X:Prop}(hx:∀k,pre k→X)(h:X→aH P f args pre H R):aH P f args pre H R:=λF w p s=>h (hx _ p) F w p s
end
section
variable {P:Program} {n:Nat} {ds:List Deferred} {F:ee} {K:Act→World→Prop} {σ:ba} {H:List aa}
theorem aaT{X:Prop}{A:aa}(h:X→G n ds F K σ (A::H)):G n ds F K σ ((λk=>X∧A k)::H):=by
 refine .mk λa w e s=> ?_;obtain⟨a1,a2,a3,fr,hh,⟨h1,h2,d,l1,l2,⟨x,hx⟩,st⟩,y,z⟩:=s;exact h x a w e ⟨a1,a2,a3,fr,hh,⟨h1,h2,d,l1,l2,hx,st⟩,y,z⟩
end
theorem dZ{H R:List aa}{A:aa}{X:Prop}(s:fE H A R)(hx:∀k,A k→X):∀h,hJ H h→X:=λh aw=>by obtain⟨k,p,_⟩:=qO s h aw;exact hx k p
theorem VK{a:Option Addr}{cap e:Nat}{xs:List Value}(k:Hp)(o:own a cap e 1 xs k):xs.length≤cap:=by have:=o.1;omega
theorem fy{a:Option Addr}{cap e sz:Nat}{xs:List Value}{k:Hp}(o:own a cap e sz xs k)(h:0<xs.length):a.isSome=true:=by
 obtain⟨h1,_,h3|⟨b,sp,rfl,_,_⟩⟩:=o
 ·obtain⟨rfl,rfl⟩:=h3;omega
 rfl
end Go.dL
namespace Go.dL
open Go
section
variable {P:Program} {n:Nat} {ds:List Deferred} {F:ee} {Q:Exit→Act→World→Prop} {K:Act→World→Prop} {σ:ba} {H:List aa} {o:Oper} {d:Nat}
def FnD (P:Program)(f:FuncId)(args:List Value)(pre:Hp→Prop)(H:List aa)(R:Value→List aa→Prop):Prop:=
 ax P f=true∧∀F w u,pre F.h→St F H w→CallsD P f args.toArray u w λe u' w'=>u'=u∧∃v H',e= .returned v∧R v H'∧St F H' w'
theorem Kc{f:FuncId}{fn:Func}{c:Code}{args:List Value}{pre:Hp→Prop}{R:Value→List aa→Prop}{m:Nat}(hi:ax P f=true)(hf:P.funcs[f]?=some fn)(hb:fn.body=some c)(hm:fn.ntmps=m)(hn:Nat.ble args.length m=true)
  (h:∀F:ee,pre F.h→G m [] F (c.wp P (bodyPost P fn λe w'=>∃v H',e= .returned v∧R v H'∧St F H' w')) (kG 0 args) H):FnD P f args pre H R:=
 ⟨hi,λF w u hp s=>callsD_of_wp hf hb (by
  subst hm;exact h F hp _ _ (Ja args _ (Nat.le_of_ble_eq_true hn)) s)⟩
def YB (P:Program)(fn:Func)(R:Ending→World→Prop):Exit→Act→World→Prop
 | .normal,a,w| .ret,a,w=>Leaves P fn a.tmps R a.defers .returning w
 |_,_,_=>False
theorem RK{f:FuncId}{fn:Func}{c:Code}{args:List Value}{pre:Hp→Prop}{R:Value→List aa→Prop}{m:Nat}(hf:P.funcs[f]?=some fn)(hb:fn.body=some c)(hm:fn.ntmps=m)(hn:Nat.ble args.length m=true)
  (h:∀F:ee,pre F.h→G m [] F (c.wp P (YB P fn λe w'=>∃v H',e= .returned v∧R v H'∧St F H' w')) (kG 0 args) H):aH P f args pre H R:=
 λF w hp s=>calls_of_wp_defers hf hb (by
  subst hm;refine wp_mono (h F hp _ _ (Ja args _ (Nat.le_of_ble_eq_true hn)) s) λe a w' q=> ?_;cases e with
  |normal=>exact q
  |ret=>exact q
  |exit id=>exact q.elim
  |goto l=>exact q.elim
  |panic ch=>exact q.elim
  |outgrown=>exact q.elim)
theorem D3{ops:Array Oper}{listed:Array Bool}{fuel:Nat}{S:World→Prop}(i j k:Nat)
  (h1:G n ds F (wpOp P ops Q i (λa' w'=>S w'∧wpAnyH P .any ops Q S fuel (listed.setIfInBounds i true) a' w')) σ H)
  (h2:G n ds F (wpOp P ops Q j (λa' w'=>S w'∧wpAnyH P .any ops Q S fuel (listed.setIfInBounds j true) a' w')) σ H)
  (h3:G n ds F (wpOp P ops Q k (λa' w'=>S w'∧wpAnyH P .any ops Q S fuel (listed.setIfInBounds k true) a' w')) σ H) (hr:Region.ready .any ops listed= [i,j,k]:=by kernel_rfl):G n ds F (wpAnyH P .any ops Q S (fuel+1) listed) σ H:=
 E7 hr rfl λm hm=>by
  rcases List.mem_cons.1 hm with rfl|hm
  ·exact h1
  rcases List.mem_cons.1 hm with rfl|hm
  ·exact h2
  rw[List.mem_singleton.1 hm];exact h3
end
end Go.dL
namespace Go.dL
open Go Go.MapKept
def lk (es:List (Value×Value))(k:Value):Option Value:=
 match es with
 | []=>none
 |(k',v)::r=>match sameK k' k with|true=>some v|false=>lk r k
where sameK:Value→Value→Bool
 | .int _ a, .int _ b=>decide (a=b)
 | .string a, .string b=>decide (a.data.toList=b.data.toList)
 |_,_=>false
def TI:TypeDesc→Value→Bool
 | .int k, .int k' _=>decide (k'=k)
 | .string, .string _=>true
 |_,_=>false
theorem iN{d:TypeDesc}{k:Value}(h:TI d k=true):IsKey d k:=by
 cases d<;>cases k<;>simp[TI]at h<;>simp[IsKey,h]
def yn (P:Program)(t:TypeId):Option (TypeId×TypeDesc×TypeId×Value):=
 match P.underlying t with
 |some (.map k e)=>match P.underlying k,P.info? e with
  |some d,some i=>match i.zero with
   |some z=>some (k,d,e,z)
   |none=>none
  |_,_=>none
 |_=>none
theorem pL{P:Program}{t k e:TypeId}{d:TypeDesc}{z:Value}(h:yn P t=some (k,d,e,z)):P.underlying t=some (.map k e)∧P.underlying k=some d∧∃i,P.info? e=some i∧i.zero=some z:=by
 unfold yn at h;cases hu:P.underlying t with
 |none=>simp[hu]at h
 |some dd=>
  cases dd<;>simp[hu]at h
  rename_i k' e'
  cases hk:P.underlying k' with
  |none=>simp[hk]at h
  |some d'=>
   cases hi:P.info? e' with
   |none=>simp[hk,hi]at h
   |some i=>
    simp only[hk,hi]at h;cases hz:i.zero with
    |none=>simp[hz]at h
    |some z'=>
     simp[hz]at h;obtain⟨rfl,rfl,rfl,rfl⟩:=h;exact⟨rfl,hk,i,hi,hz⟩
theorem St.adZ{F:ee}{H:List aa}{w:World}(s:St F H w)(o:Obj)(A:aa)(hA:A λx=>if x=w.heap.size then some o else none):St F (A::H) (w.alloc o):=by
 obtain⟨a1,a2,a3,fr,h,s,y,z⟩:=s;have hold:∀k:Hp,Le k (kh w)→Le k (kh (w.alloc o)):=by
  intro k lk x ob ex;have hx:=lk x ob ex;unfold kh at*;rw[RowKit.Below.heap_alloc w _ x (Array.getElem?_eq_some_iff.1 hx).1];exact hx
 have dk:∀k:Hp,Le k (kh w)→cE (λx=>if x=w.heap.size then some o else none) k:=by
  intro k lk x;by_cases hx:x=w.heap.size
  ·right
   cases q:k x with
   |none=>rfl
   |some ob=>
    have:=lk x ob q;unfold kh at this;have:=(Array.getElem?_eq_some_iff.1 this).1;omega
  exact .inl (by simp[hx])
 refine⟨a1,a2,a3,hold _ fr,gI _ h,⟨_,h,dk _ y,br _ _,bh (dk _ y),hA,s⟩,cJ ?_ (hold _ y),cE.gI (dk _ fr) z⟩;intro x ob ex;by_cases hx:x=w.heap.size
 ·subst hx;simp only[if_true]at ex;cases ex;exact heap_alloc_new w _
 simp[hx]at ex
theorem St.UC{F:ee}{H:List aa}{w:World}{A B:aa}{b:Nat}{o':Obj}(s:St F (A::H) w)(hA:∀h,A h→∃o,h b=some o)(hB:B λx=>if x=b then some o' else none):
  St F (B::H) {w with heap:=w.heap.setIfInBounds b o'}:=by
 obtain⟨a1,a2,a3,fr,h,⟨h1,h2,d,l1,l2,hp,s⟩,y,z⟩:=s;obtain⟨ob,hb⟩:=hA h1 hp;have hw:w.heap[b]?=some ob:=(l1.trans y) _ _ hb;obtain⟨D1,YM⟩:=heap_set (o':=o') hw;have ja:∀k:Hp,cE h1 k→∀x o,k x=some o→x≠b:=by
  intro k dk x o e hx;subst hx;rcases dk x with q|q
  ·rw[hb]at q;cases q
  rw[e]at q;cases q
 have hold:∀k:Hp,cE h1 k→Le k (kh w)→Le k (kh {w with heap:=w.heap.setIfInBounds b o'}):=by
  intro k dk lk x o e;have:=lk x o e;unfold kh at*;show(w.heap.setIfInBounds b o')[x]?=some o;rw[YM x (ja k dk x o e)];exact this
 have dF:cE h1 F.h:=z.left l1;have d2:∀k:Hp,cE h1 k→cE (λx=>if x=b then some o' else none) k:=by
  intro k dk x;by_cases hx:x=b
  ·subst hx
   rcases dk x with q|q
   ·rw[hb]at q;cases q
   exact .inr q
  exact .inl (by simp[hx])
 refine⟨a1,a2,a3,hold _ dF fr,gI _ h2,⟨_,h2,d2 _ d,br _ _,bh (d2 _ d),hB,s⟩,cJ ?_ (hold _ d (l2.trans y)),cE.gI (d2 _ dF) (z.left l2)⟩;intro x o e;by_cases hx:x=b
 ·subst hx;simp only[if_true]at e;cases e;exact D1
 simp[hx]at e
section
variable {P:Program} {n:Nat} {ds:List Deferred} {F:ee} {Q:Exit→Act→World→Prop} {K:Act→World→Prop} {σ:ba} {H:List aa} {o:Oper} {d:Nat}
theorem Rt3{fn:Func}{R:Value→List aa→Prop}{t u u':Nat}{v x x':Value}(H':List aa)(hr:fn.results= #[.tmp t, .tmp u, .tmp u'])(hR:R (.tuple #[v,x,x']) H')(hv:look σ t=some v:=by exact rfl)(hx:look σ u=some x:=by exact rfl)(Xl:look σ u'=some x':=by exact rfl)
  (hh:∀h,ak H h→ak H' h:=by exact Eh):G n [] F (bodyPost P fn (λe w'=>∃v H',e= .returned v∧R v H'∧St F H' w') .ret) σ H:=
 .mk λa w e s=>⟨e.defers, .tuple #[v,x,x'],by
  have h1:a.tmps.getD t undef=v:=by simp[e.slot t v hv]
  have h2:a.tmps.getD u undef=x:=by simp[e.slot u x hx]
  have h3:a.tmps.getD u' undef=x':=by simp[e.slot u' x' Xl]
  simp only[results,hr];simp at h1 h2 h3;simp[h1,h2,h3],_,H',rfl,hR,s.sub hh⟩
end
end Go.dL
namespace Go.dL
open Go
def NoQ:Exit→Act→World→Prop:=λ_ _ _=>False
def sJ (P:Program)(ops:Array Oper)(o:Oper)(K:Act→World→Prop)(a:Act)(w:World):Prop:=
 if Region.wanted o (yielded ops a.tmps)=true then o.wp P a w K NoQ else K (a.put o.dst undef) w
def sI (P:Program)(ops:Array Oper)(S:World→Prop)(Q:Act→World→Prop):List (Nat×Bool×Oper)→Act→World→Prop
 | [],a,w=>Q a w
 |(_,true,o)::r,a,w=>∃v,YieldsIf P ops S o v a∧sI P ops S Q r (a.put o.dst v) w
 |(_,false,o)::r,a,w=>sJ P ops o (λa' w'=>S w'∧sI P ops S Q r a' w') a w
def EB (o:Oper):Bool:=match o.op with| .load _ _=>true|_=>false
def indep (ops:Array Oper)(x y:Nat×Bool×Oper):Bool:=x.2.2.apart ops y.2.2&&(x.2.1||y.2.1||(EB x.2.2&&EB y.2.2))
inductive Still {α:Type}:Sem α→Prop
 |pure (a:α):Still (.pure a)
 |load (m:Mode) (a:Addr) (k:Value→Sem α) (h:∀v,Still (k v)):Still (.load m a k)
 |program (k:Program→Sem α) (h:∀p,Still (k p)):Still (.program k)
 |halt (x:Halt):Still (.halt x)
theorem Still.bind{α β:Type}{s:Sem α}{f:α→Sem β}(h:Still s)(hf:∀a,Still (f a)):Still (s.bind f):=by
 induction h with
 |pure a=>exact hf a
 |load m a k _ ih=>exact .load m a _ ih
 |program k _ ih=>exact .program _ ih
 |halt x=>exact .halt x
theorem Still.run{α:Type}{s:Sem α}(h:Still s)(P:Program)(w:World){r:α}{w':World}(e:s.run P w= .ok r w'):w'=w:=by
 induction h with
 |pure a=>simp only[Sem.run]at e;cases e;rfl
 |load m a k _ ih=>
  simp only[Sem.run]at e
  split at e
  ·exact ih _ e
  split at e
  ·exact ih _ e
  cases e
 |program k _ ih=>simp only[Sem.run]at e;exact ih _ e
 |halt x=>simp only[Sem.run]at e;cases e
theorem FT{ρ:Operand→Value}{o:Oper}(h:EB o=true):Still (execOp ρ o):=by
 unfold EB at h
 split at h
 ·rename_i t x ho
  have cells:∀(n:Nat) (a:Addr) (i:Nat) (acc:Array Value),Still (loadCellsFrom a i n acc):=by
   intro n
   induction n with
   |zero=>intro a i acc;exact .pure _
   |succ n ih=>intro a i acc;exact .load _ _ _ λv=>ih _ _ _
  have und:∀t,Still (underlying t):=λt=>by
   unfold underlying;exact .program _ λp=>by simp only[Sem.bind];split<;>first|exact .pure _|exact .halt _
  have tin:∀t,Still (typeInfo t):=λt=>by
   unfold typeInfo;exact .program _ λp=>by simp only[Sem.bind];split<;>first|exact .pure _|exact .halt _
  have hvar:∀a,Still (loadVar t a):=by
   intro a;unfold loadVar;refine Still.bind ?_ λb=> ?_
   ·unfold isAgg
    exact(und t).bind λd=>by split<;>exact .pure _
   split
   ·refine Still.bind ?_ λk=>(Still.bind (cells _ _ _ _) λc=> .pure _)
    unfold sizeOf;exact(tin t).bind λ_=> .pure _
   exact .load _ _ _ λv=> .pure _
  unfold execOp;rw[ho];refine Still.bind ?_ λv=> .pure _;unfold Instr.loadAt;refine Still.bind ?_ λa=>hvar a;unfold Instr.sureAddr
  split
  ·exact .pure _
  exact .halt _
 cases h
theorem aaC{P:Program}{ρ:Operand→Value}{o:Oper}(h:EB o=true){w w':World}{n:Next}(e:(execOp ρ o).run P w= .ok n w'):w'=w∧∃v,n= .value v:=by
 refine⟨(FT h).run P w e, ?_⟩;unfold EB at h
 split at h
 ·rename_i t x ho
  unfold execOp at e;rw[ho]at e;simp only[Sem.run_bind]at e;cases hr:(Instr.loadAt t (ρ x)).run P w with
  |ok v w1=>rw[hr]at e;simp only[Result.andThen_ok,Sem.run_pure]at e;cases e;exact⟨v,rfl⟩
  |halt x w1=>rw[hr]at e;cases e
 cases h
section
variable {P:Program} {ops:Array Oper} {S:World→Prop} {Q:Act→World→Prop}
theorem Of:¬LetsOut NoQ:=λ⟨_,_,h⟩=>h
theorem Zv{o:Oper}{u v:Value}{a:Act}{w:World}(hS:S w)(h1:YieldsIf P ops S o u a)(h2:YieldsIf P ops S o v a):v=u:=by
 rcases h1 with⟨w1,e1⟩|⟨w1,rfl⟩<;>rcases h2 with⟨w2,e2⟩|⟨w2,rfl⟩
 ·have:=(e1 w hS).symm.trans (e2 w hS);cases this;rfl
 ·rw[w1]at w2;cases w2
 ·rw[w1]at w2;cases w2
 rfl
theorem wS{o:Oper}{K K':Act→World→Prop}(f:∀a w,K a w→K' a w){a:Act}{w:World}(h:sJ P ops o K a w):sJ P ops o K' a w:=by
 unfold sJ at*
 split
 ·rename_i hw;rw[if_pos hw]at h;exact Oper.wp_mono f h
 rename_i hw;rw[if_neg hw]at h;exact f _ _ h
theorem FH{x k:Oper}(MY:k.apart ops x=true)(hsx:∀cs b,x.op≠ .select cs b)(Mx:∀cs b,k.op≠ .select cs b){K K2:Act→World→Prop}{a:Act}{w:World}(hS:S w)
  (hK:∀a' w',K a' w'→∃v,YieldsIf P ops S x v a'∧K2 (a'.put x.dst v) w') (h:sJ P ops k K a w):∃v,YieldsIf P ops S x v a∧sJ P ops k K2 (a.put x.dst v) w:=by
 obtain⟨h1,h2,h3⟩:=Oper.apart_spec MY;have back:∀(u v:Value),YieldsIf P ops S x v (a.put k.dst u)→YieldsIf P ops S x v a:=λu v hy=>
  hy.of_same (execOp_put x hsx a k.dst u h1).symm (wanted_put x a k.dst u h1).symm
 unfold sJ at h
 split at h
 ·rename_i hw
  have key:∃v,YieldsIf P ops S x v a:=by
   unfold Oper.wp at h;generalize (execOp a.eval k).run P w=r at h;cases r with
   |ok n w'=>
    cases n<;>simp only[Oper.upon]at h
    case value u=>obtain⟨v,hv,_⟩:=hK _ _ h;exact⟨v,back u v hv⟩
    case skip=>obtain⟨v,hv,_⟩:=hK _ _ h;exact⟨v,back _ v hv⟩
    case defer d=>
     obtain⟨v,hv,_⟩:=hK _ _ h;exact⟨v,(back undef v (hv.of_same (a':=a.put k.dst undef) (by cases k.dst<;>rfl) (by cases k.dst<;>rfl)))⟩
    case enter f args=>
     obtain⟨e,w2,fr,he,_⟩:=h [];cases e with
     |returned u=>obtain⟨v,hv,_⟩:=hK _ _ he;exact⟨v,back u v hv⟩
     |panicked c=>exact he.elim
     |outgrown=>exact(Of he).elim
    case row row args=>
     obtain⟨u,w2,he,_⟩:=h default [];obtain⟨v,hv,_⟩:=hK _ _ he;exact⟨v,back u v hv⟩
   |halt y w'=>cases y<;>simp only[Oper.upon]at h<;>exact h.elim
  obtain⟨v,hv⟩:=key;refine⟨v,hv, ?_⟩;have same:∀(u v':Value),YieldsIf P ops S x v' (a.put k.dst u)→v'=v:=λu v' hy=>Zv hS hv (back u v' hy);unfold sJ;rw[wanted_put k a x.dst v (λd hd=>h3 d hd),if_pos hw];unfold Oper.wp at*;rw[execOp_put k Mx a x.dst v (λd hd=>h3 d hd)];have BF:∀u:Value,(a.put k.dst u).put x.dst v=(a.put x.dst v).put k.dst u:=λu=>Act.put_comm a u v h2;generalize (execOp a.eval k).run P w=r at*;cases r with
  |ok n w'=>
   cases n<;>simp only[Oper.upon]at h⊢
   case value u=>obtain⟨v',MR,hk⟩:=hK _ _ h;rw[←BF,←same u v' MR];exact hk
   case skip=>obtain⟨v',MR,hk⟩:=hK _ _ h;rw[←BF,←same _ v' MR];exact hk
   case defer d=>
    obtain⟨v',MR,hk⟩:=hK _ _ h;have hv2:YieldsIf P ops S x v' (a.put k.dst undef):=MR.of_same (by cases k.dst<;>rfl) (by cases k.dst<;>rfl);rw[same _ v' hv2]at hk;have e1:({a with defers:=d::a.defers}:Act).put x.dst v=({a.put x.dst v with defers:=d::(a.put x.dst v).defers}:Act):=(Act.put_defers a x.dst v d).symm;rw[Act.put_comm _ undef v h2,e1]at hk;exact hk
   case enter f args=>
    refine Calls.mono h λe w'' he=> ?_;cases e with
    |returned u=>obtain⟨v',MR,hk⟩:=hK _ _ he;show K2 _ _;rw[←BF,←same u v' MR];exact hk
    |panicked c=>exact he
    |outgrown=>exact he
   case row row args=>exact Rows.mono h λu w'' he=>by obtain⟨v',MR,hk⟩:=hK _ _ he;rw[←BF,←same u v' MR];exact hk
  |halt y w'=>cases y<;>simp only[Oper.upon]at h⊢<;>exact h
 rename_i hw
 obtain⟨v,hv,hk⟩:=hK _ _ h;refine⟨v,back _ v hv, ?_⟩;unfold sJ;rw[wanted_put k a x.dst v (λd hd=>h3 d hd),if_neg hw,←Act.put_comm a undef v h2];exact hk
theorem FI{x k:Oper}(MY:k.apart ops x=true)(hsx:∀cs b,x.op≠ .select cs b)(Mx:∀cs b,k.op≠ .select cs b){K:Act→World→Prop}{a:Act}{w:World}{u:Value}(hy:YieldsIf P ops S k u a)
  (h:sJ P ops x K (a.put k.dst u) w):sJ P ops x (λa' w'=>YieldsIf P ops S k u a'∧K (a'.put k.dst u) w') a w:=by
 obtain⟨h1,h2,h3⟩:=Oper.apart_spec MY;have yo:∀z:Value,YieldsIf P ops S k u (a.put x.dst z):=λz=>hy.of_same (execOp_put k Mx a x.dst z h3) (wanted_put k a x.dst z h3);unfold sJ at*;rw[wanted_put x a k.dst u h1]at h
 split
 ·rename_i hw
  rw[if_pos hw]at h;unfold Oper.wp at*;rw[execOp_put x hsx a k.dst u h1]at h;have BF:∀z:Value,(a.put k.dst u).put x.dst z=(a.put x.dst z).put k.dst u:=λz=>Act.put_comm a u z h2;generalize (execOp a.eval x).run P w=r at*;cases r with
  |ok n w'=>
   cases n<;>simp only[Oper.upon]at h⊢
   case value z=>exact⟨yo z,by rw[←BF];exact h⟩
   case skip=>exact⟨yo _,by rw[←BF];exact h⟩
   case defer d=>
    refine⟨(yo undef).of_same (by cases x.dst<;>rfl) (by cases x.dst<;>rfl), ?_⟩;rw[←Act.put_comm _ u undef h2,←Act.put_defers];exact h
   case enter f args=>
    refine Calls.mono h λe w'' he=> ?_;cases e with
    |returned z=>exact⟨yo z,by rw[←BF];exact he⟩
    |panicked c=>exact he
    |outgrown=>exact he
   case row row args=>exact Rows.mono h λz w'' he=>⟨yo z,by rw[←BF];exact he⟩
  |halt y w'=>cases y<;>simp only[Oper.upon]at h⊢<;>exact h
 rename_i hw
 rw[if_neg hw,Act.put_comm a u undef h2]at h;exact⟨yo _,h⟩
def yU (l:List (Nat×Bool×Oper)):Prop:=∀x∈l,∀cs b,x.2.2.op≠ .select cs b
theorem mvR{i:Nat}{o:Oper}{post:List (Nat×Bool×Oper)}:∀(pre:List (Nat×Bool×Oper)) (a:Act) (w:World),(∀k∈pre,indep ops k (i,true,o)=true)→yU pre→(∀cs b,o.op≠ .select cs b)→S w→
  sI P ops S Q (pre++(i,true,o)::post) a w→∃v,YieldsIf P ops S o v a∧sI P ops S Q (pre++post) (a.put o.dst v) w:=by
 intro pre
 induction pre with
 |nil=>intro a w _ _ _ _ h;exact h
 |cons k pre ih=>
  obtain⟨j,fl,ok⟩:=k;intro a w hi hs Ud hS h;have hk:=hi _ (List.mem_cons_self ..);simp only[indep,Bool.and_eq_true]at hk;have MY:=hk.1;obtain⟨h1,h2,h3⟩:=Oper.apart_spec MY;have Mx:=hs _ (List.mem_cons_self ..);have vN:∀k∈pre,indep ops k (i,true,o)=true:=λk hk=>hi k (List.mem_cons_of_mem _ hk);have YN:yU pre:=λk hk=>hs k (List.mem_cons_of_mem _ hk);cases fl with
  |true=>
   simp only[List.cons_append,sI]at h⊢;obtain⟨u,hu,h⟩:=h;obtain⟨v,hv,h⟩:=ih _ _ vN YN Ud hS h;refine⟨v,hv.of_same (execOp_put o Ud a ok.dst u h1).symm (wanted_put o a ok.dst u h1).symm,u,hu.of_same (execOp_put ok Mx a o.dst v h3) (wanted_put ok a o.dst v h3), ?_⟩;rw[←Act.put_comm a u v h2];exact h
  |false=>
   simp only[List.cons_append,sI]at h⊢;exact FH MY Ud Mx hS (λa' w' hh=>by
    obtain⟨v,hv,h⟩:=ih _ _ vN YN Ud hh.1 hh.2;exact⟨v,hv,hh.1,h⟩) h
theorem mvW{i:Nat}{o:Oper}{post:List (Nat×Bool×Oper)}:∀(pre:List (Nat×Bool×Oper)) (a:Act) (w:World),(∀k∈pre,indep ops k (i,false,o)=true)→yU pre→(∀cs b,o.op≠ .select cs b)→S w→
  sI P ops S Q (pre++(i,false,o)::post) a w→sJ P ops o (λa' w'=>S w'∧sI P ops S Q (pre++post) a' w') a w:=by
 intro pre
 induction pre with
 |nil=>intro a w _ _ _ _ h;exact h
 |cons k pre ih=>
  obtain⟨j,fl,ok⟩:=k;intro a w hi hs Ud hS h;have hk:=hi _ (List.mem_cons_self ..);simp only[indep,Bool.and_eq_true]at hk;have MY:=hk.1;obtain⟨h1,h2,h3⟩:=Oper.apart_spec MY;have Mx:=hs _ (List.mem_cons_self ..);have vN:∀k∈pre,indep ops k (i,false,o)=true:=λk hk=>hi k (List.mem_cons_of_mem _ hk);have YN:yU pre:=λk hk=>hs k (List.mem_cons_of_mem _ hk);cases fl with
  |true=>
   simp only[List.cons_append,sI]at h⊢;obtain⟨u,hu,h⟩:=h;have h:=ih _ _ vN YN Ud hS h;exact wS (λa' w' hh=>⟨hh.2.1,u,hh.1,hh.2.2⟩) (FI MY Ud Mx hu h)
  |false=>
   have hl:=hk.2;simp only[Bool.or_self,Bool.false_or,Bool.and_eq_true]at hl;simp only[List.cons_append,sI]at h⊢;have look:∀{y:Oper} {a:Act} {w:World} {K:Act→World→Prop},EB y=true→(sJ P ops y K a w↔((Region.wanted y (yielded ops a.tmps)=true∧∃v,(execOp a.eval y).run P w= .ok (.value v) w∧K (a.put y.dst v) w)∨(Region.wanted y (yielded ops a.tmps)=false∧K (a.put y.dst undef) w))):=by
    intro y a w K hy;unfold sJ;cases hw:Region.wanted y (yielded ops a.tmps)with
    |false=>simp
    |true=>
     simp only[if_true,true_and,Bool.true_eq_false,false_and,or_false];unfold Oper.wp;cases hr:(execOp a.eval y).run P w with
     |ok n w'=>
      obtain⟨rfl,v,rfl⟩:=aaC hy hr;simp only[Oper.upon_value];exact⟨λh=>⟨v,rfl,h⟩,λ⟨v',e,h⟩=>by cases e;exact h⟩
     |halt z w'=>
      cases z<;>simp[Oper.upon,NoQ]
   rw[look hl.1]at h;rw[look hl.2];have fin:∀u:Value,S w∧sI P ops S Q (pre++(i,false,o)::post) (a.put ok.dst u) w→(∀z,sJ P ops ok (λa' w'=>S w'∧sI P ops S Q (pre++post) a' w') (a.put o.dst z) w↔sJ P ops ok (λa' w'=>S w'∧sI P ops S Q (pre++post) a' w') (a.put o.dst z) w)→
     ((Region.wanted o (yielded ops a.tmps)=true∧∃z,(execOp a.eval o).run P w= .ok (.value z) w∧(S w∧sI P ops S Q (pre++post) ((a.put ok.dst u).put o.dst z) w))∨(Region.wanted o (yielded ops a.tmps)=false∧(S w∧sI P ops S Q (pre++post) ((a.put ok.dst u).put o.dst undef) w))):=by
    intro u hh _;have h':=ih _ _ vN YN Ud hh.1 hh.2;rw[look hl.2,execOp_put o Ud a ok.dst u h1,wanted_put o a ok.dst u h1]at h';exact h'
   have put:∀(z:Value),(∀u,sI P ops S Q (pre++post) ((a.put ok.dst u).put o.dst z) w→sI P ops S Q (pre++post) ((a.put o.dst z).put ok.dst u) w):=λz u hh=>by rw[←Act.put_comm a u z h2];exact hh
   rcases h with⟨hw,u,hu,hh⟩|⟨hw,hh⟩
   ·rcases fin u hh (λ_=>Iff.rfl)with⟨hwo,z,hz,hS',h'⟩|⟨hwo,hS',h'⟩
    ·refine .inl ⟨hwo,z,hz,hS, ?_⟩
     rw[look hl.1,execOp_put ok Mx a o.dst z h3,wanted_put ok a o.dst z h3];exact .inl ⟨hw,u,hu,hS,put _ _ h'⟩
    refine .inr ⟨hwo,hS, ?_⟩;rw[look hl.1,execOp_put ok Mx a o.dst undef h3,wanted_put ok a o.dst undef h3];exact .inl ⟨hw,u,hu,hS,put _ _ h'⟩
   rcases fin undef hh (λ_=>Iff.rfl)with⟨hwo,z,hz,hS',h'⟩|⟨hwo,hS',h'⟩
   ·refine .inl ⟨hwo,z,hz,hS, ?_⟩
    rw[look hl.1,execOp_put ok Mx a o.dst z h3,wanted_put ok a o.dst z h3];exact .inr ⟨hw,hS,put _ _ h'⟩
   refine .inr ⟨hwo,hS, ?_⟩;rw[look hl.1,execOp_put ok Mx a o.dst undef h3,wanted_put ok a o.dst undef h3];exact .inr ⟨hw,hS,put _ _ h'⟩
inductive BJ (ops:Array Oper):Nat→Nat→Prop
 |one {i:Nat} {o:Oper} {e:Edge} (ho:ops[i]?=some o) (he:e∈o.after) (hb:Region.binds .any e=true):BJ ops e.on i
 |more {i k:Nat} {o:Oper} {e:Edge} (ho:ops[i]?=some o) (he:e∈o.after) (hb:Region.binds .any e=true) (h:BJ ops k e.on):BJ ops k i
def msk (acc:List Nat)(o:Oper):Nat:=o.after.toList.foldl (λs e=>if Region.binds .any e=true then s|||2^e.on|||acc.getD e.on 0 else s) 0
def G4:List Oper→List Nat→List Nat
 | [],acc=>acc
 |o::r,acc=>G4 r (acc++ [msk acc o])
theorem Rh{i:Nat}{o:Oper}(ho:ops[i]?=some o){acc:List Nat}(UM:∀j k,(acc.getD j 0).testBit k=true→BJ ops k j)(k:Nat)(h:(msk acc o).testBit k=true):BJ ops k i:=by
 have key:∀(l:List Edge) (s:Nat),(∀e∈l,e∈o.after)→(∀k,s.testBit k=true→BJ ops k i)→∀k,(l.foldl (λs e=>if Region.binds .any e=true then s|||2^e.on|||acc.getD e.on 0 else s) s).testBit k=true→BJ ops k i:=by
  intro l
  induction l with
  |nil=>intro s _ hs k hk;exact hs k hk
  |cons e l ih=>
   intro s hl hs k hk;rw[List.foldl_cons]at hk;refine ih _ (λe' h'=>hl e' (List.mem_cons_of_mem _ h')) (λk' Xt=> ?_) k hk
   split at Xt
   ·rename_i hb
    rw[Nat.testBit_or,Nat.testBit_or]at Xt;simp only[Bool.or_eq_true]at Xt;rcases Xt with(h1|h1)|h1
    ·exact hs _ h1
    ·rw[Nat.testBit_two_pow]at h1
     simp only[decide_eq_true_eq]at h1;subst h1;exact .one ho (hl e (List.mem_cons_self ..)) hb
    exact .more ho (hl e (List.mem_cons_self ..)) hb (UM _ _ h1)
   exact hs _ Xt
 exact key o.after.toList 0 (λe he=>by simpa using he) (λk hk=>by simp at hk) k h
theorem Gg:∀(l:List Oper) (acc:List Nat),(∀j o,l[j]?=some o→ops[acc.length+j]?=some o)→(∀j k,(acc.getD j 0).testBit k=true→BJ ops k j)→∀j k,((G4 l acc).getD j 0).testBit k=true→BJ ops k j:=by
 intro l
 induction l with
 |nil=>intro acc _ h;exact h
 |cons o l ih=>
  intro acc hl UM;refine ih _ (λj o' hj=> ?_) (λj k TQ=> ?_)
  ·have:=hl (j+1) o' (by simpa using hj)
   rw[List.length_append,List.length_singleton,show acc.length+1+j=acc.length+(j+1)from by omega];exact this
  rcases Nat.lt_trichotomy j acc.length with bX|heq|hgt
  ·refine UM j k ?_
   simpa[List.getD_eq_getElem?_getD,List.getElem?_append_left bX]using TQ
  ·subst heq
   refine Rh (by simpa using hl 0 o rfl) UM k ?_
   simpa[List.getD_eq_getElem?_getD]using TQ
  have hz:(acc++ [msk acc o])[j]?=none:=List.getElem?_eq_none (by simp;omega);rw[List.getD_eq_getElem?_getD,hz]at TQ;simp at TQ
def prs (ops:Array Oper)(m:List Nat):List (Nat×Bool×Oper)→Bool
 | []=>true
 |x::r=>r.all (λy=>(m.getD y.1 0).testBit x.1||indep ops x y)&&prs ops m r
theorem CQ{m:List Nat}(hm:∀j k,(m.getD j 0).testBit k=true→BJ ops k j):∀l,prs ops m l=true→l.Pairwise λx y=>BJ ops x.1 y.1∨indep ops x y=true:=by
 intro l
 induction l with
 |nil=>intro _;exact .nil
 |cons x r ih=>
  intro h;simp only[prs,Bool.and_eq_true,List.all_eq_true,Bool.or_eq_true]at h;exact .cons (λy hy=>(h.1 y hy).imp (hm _ _) id) (ih h.2)
structure UR (ops:Array Oper)(listed:Array Bool)(rem:List (Nat×Bool×Oper)):Prop where
 at_:∀x∈rem,ops[x.1]?=some x.2.2
 un:∀x∈rem,listed.getD x.1 true=false
 all:∀j,j<ops.size→listed.getD j true=false→∃x∈rem,x.1=j
 once:(rem.map (·.1)).Nodup
 size:listed.size=ops.size
 shut:∀j o e,ops[j]?=some o→listed.getD j false=true→e∈o.after→Region.binds .any e=true→listed.getD e.on false=true
theorem GH{listed:Array Bool}(shut:∀j o e,ops[j]?=some o→listed.getD j false=true→e∈o.after→Region.binds .any e=true→listed.getD e.on false=true){k i:Nat}(h:BJ ops k i)
  (hi:∀o,ops[i]?=some o→∀e∈o.after,Region.binds .any e=true→listed.getD e.on false=true):listed.getD k false=true:=by
 induction h with
 |one ho he hb=>exact hi _ ho _ he hb
 |more ho he hb _ ih=>
  have h1:=hi _ ho _ he hb;exact ih λo' ho' e' MW hb'=>shut _ _ _ ho' h1 MW hb'
theorem n9{listed:Array Bool}{j:Nat}(h1:listed.getD j true=false)(h2:listed.getD j false=true):False:=by
 by_cases h:j<listed.size
 ·simp[h]at h1 h2;rw[h1]at h2;cases h2
 simp[Array.getElem?_eq_none (Nat.le_of_not_lt h)]at h2
theorem Qf{Q:Exit→Act→World→Prop}{i:Nat}{o:Oper}(hi:ops[i]?=some o){K:Act→World→Prop}{a:Act}{w:World}(h:sJ P ops o K a w):wpOp P ops Q i K a w:=by
 unfold sJ at h;unfold wpOp;simp only[hi]
 split
 ·rename_i hw
  rw[if_pos hw]at h;refine .inl ?_;unfold Oper.wp at*;generalize (execOp a.eval o).run P w=r at*;cases r with
  |ok n w'=>
   cases n<;>simp only[Oper.upon]at h⊢
   case value u=>exact h
   case skip=>exact h
   case defer d=>exact h
   case enter f args=>
    refine Calls.mono h λe w'' he=> ?_;cases e with
    |returned z=>exact he
    |panicked c=>exact he.elim
    |outgrown=>exact(Of he).elim
   case row row args=>exact h
  |halt y w'=>cases y<;>simp only[Oper.upon]at h⊢<;>exact h.elim
 rename_i hw
 rw[if_neg hw]at h;exact h
theorem YieldsIf.sJ{o:Oper}{v:Value}{a:Act}{w:World}{K:Act→World→Prop}(hy:YieldsIf P ops S o v a)(hS:S w)(h:K (a.put o.dst v) w):sJ P ops o K a w:=by
 unfold dL.sJ;rcases hy with⟨hw,hv⟩|⟨hw,rfl⟩
 ·rw[if_pos hw];simp only[Oper.wp,hv w hS,Oper.upon];exact h
 rw[if_neg (by simp[hw])];exact h
theorem yV{WA:Nat→Array Bool→Act→World→Prop}{C:Act→World→Prop}{l2:List (Nat×Bool×Oper)}{fuel0:Nat}(ey:Region.noSelect ops=true)(ui:∀j o e,ops[j]?=some o→e∈o.after→Region.binds .any e=true→e.on<j)
  (G6:∀fuel listed a w,(∃i,i∈Region.ready .any ops listed)→(∀i∈Region.ready .any ops listed,∃o,ops[i]?=some o∧sJ P ops o (WA fuel (listed.setIfInBounds i true)) a w)→WA (fuel+1) listed a w)
  (hC:∀listed,UR ops listed l2→∀a w,C a w→WA fuel0 listed a w):
  ∀(n:Nat) (rem:List (Nat×Bool×Oper)) (listed:Array Bool) (a:Act) (w:World),rem.length=n→UR ops listed (rem++l2)→rem.Pairwise (λx y=>BJ ops x.1 y.1∨indep ops x y=true)→(∀x∈rem,∀y∈l2,BJ ops x.1 y.1)→S w→
   sI P ops S C rem a w→WA (n+fuel0) listed a w:=by
 intro n
 induction n with
 |zero=>
  intro rem listed a w hn hI _ _ _ h;have:rem= []:=List.eq_nil_of_length_eq_zero hn;subst this
  simpa using hC listed (by simpa using hI) a w h
 |succ n ih=>
  intro rem listed a w hn hI hP uS hS h;rw[show n+1+fuel0=(n+fuel0)+1 from by omega];have zk:∀{i k:Nat},i∈Region.ready .any ops listed→BJ ops k i→listed.getD k false=true:=by
   intro i k hi hk;obtain⟨_,o,ho,rH⟩:=mem_ready.1 hi;exact GH hI.shut hk λo' ho' e he hb=>by rw[ho]at ho';cases ho';exact rH e he hb
  refine G6 _ _ _ _ ?_ (λi hi=> ?_)
  ·
   cases hr0:Region.ready .any ops listed with
   |cons i r=>exact⟨i,by simp⟩
   |nil=>
   exfalso;have hr:=hr0;have ja:∃m,∃x∈rem++l2,x.1=m:=by
    cases rem with
    |nil=>simp at hn
    |cons x r=>exact⟨x.1,x,by simp,rfl⟩
   obtain⟨m0,hm0⟩:=ja;have least:∀m,(∃x∈rem++l2,x.1=m)→False:=by
    intro m
    induction m using Nat.strongRecOn with
    |_ m ihm=>
     rintro⟨x,hx,rfl⟩;have hrd:x.1∈Region.ready .any ops listed:=by
      refine mem_ready.2 ⟨hI.un x hx,x.2.2,hI.at_ x hx,λe he hb=> ?_⟩;have bX:=ui _ _ _ (hI.at_ x hx) he hb;have hxs:x.1<ops.size:=(Array.getElem?_eq_some_iff.1 (hI.at_ x hx)).1;cases hq:listed.getD e.on false with
      |true=>rfl
      |false=>
       exfalso;have hl:listed.getD e.on true=false:=by
        have:e.on<listed.size:=by rw[hI.size];omega
        simp[this]at hq⊢;exact hq
       obtain⟨y,hy,hy1⟩:=hI.all e.on (by omega) hl;exact ihm e.on bX ⟨y,hy,hy1⟩
     rw[hr]at hrd;cases hrd
   exact least m0 hm0
  ·obtain⟨GK,o,ho,rH⟩:=mem_ready.1 hi
   obtain⟨x,hx,Mr⟩:=hI.all i (Array.getElem?_eq_some_iff.1 ho).1 GK;have hxr:x∈rem:=by
    rcases List.mem_append.1 hx with q|q
    ·exact q
    exfalso;cases rem with
    |nil=>simp at hn
    |cons y r=>
     have hA:=uS y (List.mem_cons_self ..) x q;rw[Mr]at hA;exact n9 (hI.un y (by simp)) (zk hi hA)
   obtain⟨pre,post,rfl⟩:=List.append_of_mem hxr;have hox:x.2.2=o:=by have:=hI.at_ x hx;rw[Mr,ho]at this;cases this;rfl
   have ad8:∀k∈pre,indep ops k x=true:=by
    intro k hk;have Ug:=(List.pairwise_append.1 hP).2.2 k hk x (List.mem_cons_self ..);rcases Ug with q|q
    ·exfalso
     rw[Mr]at q;exact n9 (hI.un k (by simp[hk])) (zk hi q)
    exact q
   have hns:yU (pre++x::post++l2):=λy hy cs b=>Region.noSelect_spec ey y.1 y.2.2 cs b (hI.at_ y hy);have hnp:yU pre:=λy hy=>hns y (by simp[hy]);have hxs:=hns x hx;have hI':UR ops (listed.setIfInBounds i true) ((pre++post)++l2):=by
    have yF:i∉((pre++post)++l2).map (·.1):=by
     have h0:=hI.once;simp only[List.map_append,List.map_cons,List.append_assoc,List.cons_append]at h0;rw[List.nodup_append]at h0;obtain⟨h1,h2,h3⟩:=h0;rw[List.nodup_cons]at h2;simp only[List.map_append,List.append_assoc,List.mem_append,not_or];rw[Mr]at h2;simp only[List.mem_append,not_or]at h2;refine⟨λhm=>h3 i hm i (by simp[Mr]) rfl,h2.1.1,h2.1.2⟩
    have sub:∀y∈(pre++post)++l2,y∈pre++x::post++l2:=λy hy=>by
     simp only[List.mem_append,List.mem_cons]at hy⊢;grind
    have ja:∀y∈(pre++post)++l2,i≠y.1:=λy hy e=>yF (List.mem_map.2 ⟨y,hy,e.symm⟩);have his:i<listed.size:=by rw[hI.size];exact(Array.getElem?_eq_some_iff.1 ho).1
    refine⟨λy hy=>hI.at_ y (sub y hy),λy hy=>by rw[getD_set_ne true (ja y hy)];exact hI.un y (sub y hy),λj hj hl=> ?_, ?_,by simp[hI.size],λj o' e ho' hl he hb=> ?_⟩
    ·by_cases TR:i=j
     ·subst TR;simp[his]at hl
     rw[getD_set_ne true TR]at hl;obtain⟨y,hy,hy1⟩:=hI.all j hj hl;refine⟨y, ?_,hy1⟩;simp only[List.mem_append,List.mem_cons]at hy⊢;rcases hy with(hy|rfl|hy)|hy
     ·exact .inl (.inl hy)
     ·exact absurd (Mr.symm.trans hy1) TR
     ·exact .inl (.inr hy)
     exact .inr hy
    ·have h0:=hI.once
     refine List.Nodup.sublist ?_ h0;refine List.Sublist.map _ (List.Sublist.append_right ?_ _);exact List.Sublist.append_left (List.sublist_cons_self ..) _
    by_cases TR:i=j
    ·subst TR;rw[ho]at ho';cases ho'
     exact getD_set_true (rH e he hb)
    rw[getD_set_ne false TR]at hl;exact getD_set_true (hI.shut j o' e ho' hl he hb)
   have hlen:(pre++post).length=n:=by simp at hn⊢;omega
   have hP':(pre++post).Pairwise λx y=>BJ ops x.1 y.1∨indep ops x y=true:=hP.sublist (List.Sublist.append_left (List.sublist_cons_self ..) _);have aeb:∀y∈pre++post,∀z∈l2,BJ ops y.1 z.1:=λy hy z hz=>uS y (by simp only[List.mem_append,List.mem_cons]at hy⊢;grind) z hz;obtain⟨xi,fl,xo⟩:=x;simp only at Mr hox;subst Mr;subst hox;cases fl with
   |true=>
    obtain⟨v,hv,h'⟩:=mvR pre a w ad8 hnp hxs hS h;exact⟨xo,ho,YieldsIf.sJ hv hS (ih _ _ _ _ hlen hI' hP' aeb hS h')⟩
   |false=>exact⟨xo,ho,wS (λa' w' hh=>ih _ _ _ _ hlen hI' hP' aeb hh.1 hh.2) (mvW pre a w ad8 hnp hxs hS h)⟩
def sK (fl:List Bool)(ops:Array Oper):List (Nat×Bool×Oper):=(List.range' 0 ops.toList.length).zip (fl.zip ops.toList)
def BV (k:Nat)(fl:List Bool)(ops:Array Oper):Bool:=
 let m:=G4 ops.toList []
 let l:=sK fl ops
 fl.length==ops.toList.length&&Region.noSelect ops&&l.all (λx=>x.2.2.after.toList.all λe=> !Region.binds .any e||Nat.blt e.on x.1)&&
  prs ops m (l.take k)&&prs ops m (l.drop k)&&(l.take k).all λx=>(l.drop k).all λy=>(m.getD y.1 0).testBit x.1
theorem NZ{fl:List Bool}(h:fl.length=ops.toList.length){x:Nat×Bool×Oper}(hx:x∈sK fl ops):ops[x.1]?=some x.2.2:=by
 obtain⟨j,hj⟩:=List.getElem?_of_mem hx;unfold sK at hj;rw[List.getElem?_zip_eq_some]at hj;obtain⟨h1,h2⟩:=hj;rw[List.getElem?_zip_eq_some]at h2;have:x.1=j:=by
  rw[List.getElem?_range']at h1
  ·simp at h1;omega
  have:=(List.getElem?_eq_some_iff.1 h1).1;simpa using this
 rw[this,←Array.getElem?_toList];exact h2.2
theorem uX{fl:List Bool}(h:fl.length=ops.toList.length):(sK fl ops).map (·.1)=List.range' 0 ops.toList.length:=by
 unfold sK;exact List.map_fst_zip (by simp[h])
theorem UX{WA:Nat→Array Bool→Act→World→Prop}{C2:Act→World→Prop}{S1 S2:World→Prop}{k:Nat}{fl:List Bool}
  (G6:∀fuel listed a w,(∃i,i∈Region.ready .any ops listed)→(∀i∈Region.ready .any ops listed,∃o,ops[i]?=some o∧sJ P ops o (WA fuel (listed.setIfInBounds i true)) a w)→WA (fuel+1) listed a w)
  (Y6:∀listed a w,Region.ready .any ops listed= []→C2 a w→WA 0 listed a w) (ok:BV k fl ops=true) {a:Act} {w:World}
  (h:sI P ops S1 (λa w=>S2 w∧sI P ops S2 C2 ((sK fl ops).drop k) a w) ((sK fl ops).take k) a w) (Y8:S1 w):WA ops.size (Array.replicate ops.size false) a w:=by
 simp only[BV,Bool.and_eq_true,beq_iff_eq,List.all_eq_true,Bool.or_eq_true,Bool.not_eq_true']at ok;obtain⟨⟨⟨⟨⟨h1,h2⟩,h3⟩,h4⟩,h5⟩,h6⟩:=ok;have vM:∀j k,((G4 ops.toList []).getD j 0).testBit k=true→BJ ops k j:=Gg _ _ (λj o hj=>by simpa using hj) (λj k TQ=>by simp at TQ);have ui:∀j o e,ops[j]?=some o→e∈o.after→Region.binds .any e=true→e.on<j:=by
  intro j o e ho he hb;have hj:j<ops.toList.length:=by simpa using(Array.getElem?_eq_some_iff.1 ho).1
  have hx:(j,fl[j]'(by omega),o)∈sK fl ops:=by
   refine List.mem_of_getElem? (i:=j) ?_;unfold sK;rw[List.getElem?_zip_eq_some];refine⟨by rw[List.getElem?_range' hj];simp, ?_⟩;rw[List.getElem?_zip_eq_some];exact⟨List.getElem?_eq_getElem (by omega),by rw[Array.getElem?_toList];exact ho⟩
  rcases h3 _ hx e (by simpa using he)with q|q
  ·rw[hb]at q;cases q
  exact Nat.le_of_ble_eq_true q
 have hI:UR ops (Array.replicate ops.size false) ((sK fl ops).take k++(sK fl ops).drop k):=by
  rw[List.take_append_drop];refine⟨λx hx=>NZ h1 hx,λx hx=> ?_,λj hj _=> ?_, ?_,by simp,λj o e ho hl=> ?_⟩
  ·have:=(Array.getElem?_eq_some_iff.1 (NZ h1 hx)).1
   simp[this]
  ·have:j∈(sK fl ops).map (·.1):=by rw[uX h1];simp;omega
   obtain⟨x,hx,Mr⟩:=List.mem_map.1 this;exact⟨x,hx,Mr⟩
  ·rw[uX h1];exact List.nodup_range' ..
  exfalso;have:=(Array.getElem?_eq_some_iff.1 ho).1;simp[this]at hl
 have hlen:((sK fl ops).take k).length+((sK fl ops).drop k).length=ops.size:=by
  have:=congrArg List.length (List.take_append_drop k (sK fl ops));rw[List.length_append]at this;rw[this];have:=congrArg List.length (uX h1)
  simpa using this
 have:=yV (P:=P) (S:=S1) (WA:=WA) (l2:=(sK fl ops).drop k) (fuel0:=((sK fl ops).drop k).length) h2 ui G6 (λlisted hL a w hh=> ?_) _ ((sK fl ops).take k) (Array.replicate ops.size false) a _ rfl hI (CQ vM _ h4) (λx hx y hy=>vM _ _ (h6 x hx y hy)) Y8 h
 ·rwa[hlen]at this
 have:=yV (P:=P) (S:=S2) (WA:=WA) (C:=C2) (l2:= []) (fuel0:=0) h2 ui G6 (λlisted hL a w hh=> ?_) _ ((sK fl ops).drop k) listed a w rfl (by simpa using hL) (CQ vM _ h5) (λx _ y hy=>by cases hy) hh.1 hh.2
 ·simpa using this
 refine Y6 _ _ _ ?_ hh;cases hr:Region.ready .any ops listed with
 |nil=>rfl
 |cons i r=>
  exfalso;have hi:i∈Region.ready .any ops listed:=by rw[hr];exact List.mem_cons_self ..
  obtain⟨GK,o,ho,_⟩:=mem_ready.1 hi;obtain⟨x,hx,_⟩:=hL.all i (Array.getElem?_eq_some_iff.1 ho).1 GK;cases hx
theorem Tu{Q:Exit→Act→World→Prop}(fuel:Nat)(listed:Array Bool)(a:Act)(w:World)(ja:∃i,i∈Region.ready .any ops listed)(h:∀i∈Region.ready .any ops listed,∃o,ops[i]?=some o∧sJ P ops o (wpAny P .any ops Q fuel (listed.setIfInBounds i true)) a w):
  wpAny P .any ops Q (fuel+1) listed a w:=by
 refine⟨λhr=> ?_,λi hi=> ?_⟩
 ·obtain⟨i,hi⟩:=ja;rw[hr]at hi;cases hi
 obtain⟨o,ho,hh⟩:=h i hi;exact Qf ho hh
theorem xG{Q:Exit→Act→World→Prop}{S1 S2:World→Prop}{id k:Nat}{fl:List Bool}(hm:P.follows .mixedOrders=true)(ok:BV k fl ops=true){a:Act}{w:World}
  (h:sI P ops S1 (λa w=>S2 w∧sI P ops S2 (Q .normal) ((sK fl ops).drop k) a w) ((sK fl ops).take k) a {w with drawn:=w.drawn+1}) (Y8:S1 {w with drawn:=w.drawn+1}):(Code.region id ops true).wp P Q a w:=
 wp_region_any hm (UX (WA:=wpAny P .any ops Q) Tu (λlisted a w hr hq=>⟨hr,hq⟩) ok h Y8)
end
def TT (P:Program)(ops:Array Oper)(F:ee)(C:Act→World→Prop)(l:List (Nat×Bool×Oper)):Act→World→Prop:=λa w=>dD F w∧sI P ops (dD F) C l a w
section
variable {P:Program} {n:Nat} {ds:List Deferred} {F:ee} {Q:Exit→Act→World→Prop} {K:Act→World→Prop} {σ:ba} {H:List aa} {o:Oper} {d i:Nat} {ops:Array Oper} {C:Act→World→Prop} {rest:List (Nat×Bool×Oper)}
theorem afm{id:Nat}(fl:List Bool)(hm:P.follows .mixedOrders=true)(h:G n ds F (TT P ops F (Q .normal) (sK fl ops)) σ H)(ok:BV ops.size fl ops=true:=by kernel_rfl):G n ds F ((Code.region id ops true).wp P Q) σ H:=by
 have hk:(sK fl ops).length≤ops.size:=by
  have h1:fl.length=ops.toList.length:=by simp only[BV,Bool.and_eq_true,beq_iff_eq]at ok;exact ok.1.1.1.1.1
  have:=congrArg List.length (uX (ops:=ops) h1);simp at this;omega
 refine .mk λa w e s=>xG (k:=ops.size) (fl:=fl) (S1:=dD F) (S2:=dD F) hm ok ?_ s.frame;rw[List.take_of_length_le hk,List.drop_of_length_le hk];have h2:∀(l:List (Nat×Bool×Oper)) (a:Act) (w:World),dD F w→sI P ops (dD F) (Q .normal) l a w→sI P ops (dD F) (λa w=>dD F w∧sI P ops (dD F) (Q .normal) [] a w) l a w:=by
  intro l
  induction l with
  |nil=>intro a w hS hh;exact⟨hS,hh⟩
  |cons x l ih=>
   obtain⟨j,fl,ox⟩:=x;intro a w hS hh;cases fl with
   |true=>obtain⟨v,hv,hh⟩:=hh;exact⟨v,hv,ih _ _ hS hh⟩
   |false=>exact wS (λa' w' hq=>⟨hq.1,ih _ _ hq.1 hq.2⟩) hh
 exact h2 _ _ _ s.frame (h a _ e (s.drawn _)).2
theorem aaS{id:Nat}{As R:List aa}(k:Nat)(fl:List Bool)(hm:P.follows .mixedOrders=true)(ey:jB H As R)
  (h:∀F':ee,Le F.h F'.h→hJ As F'.h→EL F As F'→G n ds F' (TT P ops F' (TT P ops F (Q .normal) ((sK fl ops).drop k)) ((sK fl ops).take k)) σ R) (ok:BV k fl ops=true:=by kernel_rfl):G n ds F ((Code.region id ops true).wp P Q) σ H:=by
 refine .mk λa w e s=> ?_;obtain⟨a1,a2,a3,fr,hh,st,hl,vO⟩:=s;obtain⟨h1,h2,d12,l1,l2,s1,s2⟩:=bQ (ey.out _ st);have Ut:cE h1 F.h:=vO.left l1
 let F':ee:={F with h:=gI h1 F.h}
 have hb:EL F As F':=by
  intro R' w' s';obtain⟨b1,b2,b3,vR,Er,Ee,Ep,hd'⟩:=s';exact⟨b1,b2,b3,(bh Ut).trans vR,gI h1 Er,bZ s1 Ee (hd'.right (br _ _)).symm,cJ ((br _ _).trans vR) Ep,cE.gI Ut (hd'.right (bh Ut))⟩
 have s':St F' R {w with drawn:=w.drawn+1}:=⟨a1,⟨a2.1,Nat.le_succ_of_le a2.2⟩,a3,cJ (l1.trans hl) fr,h2,s2,l2.trans hl,(cE.gI d12 (vO.left l2).symm).symm⟩;refine xG (k:=k) (fl:=fl) (S1:=dD F') (S2:=dD F) hm ok ?_ s'.frame;exact(h F' (bh Ut) (cM s1 (br _ _)) hb a _ e s').2
theorem Ti{v:Value}(hy:Yv P n ds F σ o v)(h:G n ds F (TT P ops F C rest) ((d,v)::σ) H)(hg:Uq ops o σ=true:=by exact rfl)(hd:o.dst=some d:=by exact rfl)(hdn:Nat.blt d n=true:=by exact rfl):G n ds F (TT P ops F C ((i,true,o)::rest)) σ H:=
 .mk λa w e s=>⟨s.frame,v, .inl ⟨kY hg e,λw hw=>hy a w e hw⟩,by rw[hd];exact(h _ w (e.put hdn v) s).2⟩
theorem Tp (h:G n ds F (λa w=>o.wp P a w (TT P ops F C rest) NoQ) σ H)(hg:Uq ops o σ=true:=by exact rfl):G n ds F (TT P ops F C ((i,false,o)::rest)) σ H:=
 .mk λa w e s=>⟨s.frame,by unfold sI sJ;rw[if_pos (kY hg e)];exact h a w e s⟩
theorem Tx{b:Bool}(h:G n ds F (TT P ops F C rest) ((d,undef)::σ) H)(hg:gno ops o σ=true:=by exact rfl)(hd:o.dst=some d:=by exact rfl)(hdn:Nat.blt d n=true:=by exact rfl):G n ds F (TT P ops F C ((i,b,o)::rest)) σ H:=
 .mk λa w e s=>by
  refine⟨s.frame, ?_⟩;have h':=(h _ w (e.put hdn undef) s);cases b with
  |true=>exact⟨undef, .inr ⟨rk hg e,rfl⟩,by rw[hd];exact h'.2⟩
  |false=>unfold sI sJ;rw[if_neg (by simp[rk hg e]),hd];exact h'
theorem Tn (h:G n ds F C σ H):G n ds F (TT P ops F C []) σ H:= .mk λa w e s=>⟨s.frame,h a w e s⟩
theorem gd{F':ee}{As:List aa}(hb:EL F As F')(h:G n ds F C σ (As++H)):G n ds F' (TT P ops F' C []) σ H:= .mk λa w e s=>⟨s.frame,h a w e (hb _ _ s)⟩
theorem Tne{K:Act→World→Prop}(h:G n ds F K σ H):G n ds F (TT P ops F (Exit.then K Q .normal) []) σ H:=Tn h
def aFl (P:Program)(ld:Bool)(ops:Array Oper):List Bool:=ops.toList.map λo=>match o.op with
 | .load _ _=>ld
 | .move _| .assign _| .pick _ _ _| .nilCheck _| .binOp _ _ _ _ _| .unOp _ _ _| .fieldAddr _ _ _| .field _ _ _| .indexAddr _ _ _| .index _ _ _| .extract _ _| .slice _ _ _ _ _| .build _ _| .makeFunc _ _ _| .makeInterface _ _| .typeAssert _ _ _ _=>true
 | .convert s t _=>match P.underlying t with
  |some (.slice _)=>false
  |_=>match P.underlying s with
   |some (.slice _)=>ld
   |_=>true
 | .call c=>match c.callee with
  | .builtin .len=>true
  | .builtin .cap=>true
  | .builtin .min=>true
  | .builtin .max=>true
  |_=>false
 |_=>false
theorem gT{id:Nat}(ld:Bool)(hm:P.follows .mixedOrders=true)(h:G n ds F (TT P ops F (Q .normal) (sK (aFl P ld ops) ops)) σ H)(ok:BV ops.size (aFl P ld ops) ops=true:=by kernel_rfl):G n ds F ((Code.region id ops true).wp P Q) σ H:=afm _ hm h ok
theorem gK{id:Nat}{As R:List aa}(k:Nat)(hm:P.follows .mixedOrders=true)(ey:jB H As R)
  (h:∀F':ee,Le F.h F'.h→hJ As F'.h→EL F As F'→G n ds F' (TT P ops F' (TT P ops F (Q .normal) ((sK (aFl P true ops) ops).drop k)) ((sK (aFl P true ops) ops).take k)) σ R) (ok:BV k (aFl P true ops) ops=true:=by kernel_rfl):G n ds F ((Code.region id ops true).wp P Q) σ H:=aaS k _ hm ey h ok
end
end Go.dL
namespace Go.dL
open Go
variable {P:Program} {n:Nat} {ds:List Deferred} {F:ee} {Q:Exit→Act→World→Prop} {K:Act→World→Prop} {σ:ba} {H:List aa} {o:Oper} {d:Nat}
theorem Bda{t e:TypeId}{sz k:Nat}{zs vs cs:List Value}{parts:List (Nat×Operand)}(hz:cq P t=some zs)(ht:BR P t=some (k,e,sz))(ho:o.op= .build t parts.toArray:=by exact rfl)(hv:jY σ (parts.map (·.2))=some vs:=by exact rfl)
  (hc:nW (λi=>some (i*sz,sz)) zs ((parts.map (·.1)).zip vs)=some cs:=by exact rfl):Yv P n ds F σ o (.agg cs.toArray):=
 λac w en fr=>by
  have hp:=tT en hv;obtain⟨zv,hzr,GJ⟩:=ph hz (w:=w);unfold BR at ht;cases hu:P.underlying t with
  |none=>simp[hu]at ht
  |some dsc=>
   cases dsc<;>simp[hu]at ht
   rename_i k' e'
   cases hi:P.info? e' with
   |none=>simp[hi]at ht
   |some inf=>
    simp[hi]at ht;obtain⟨rfl,rfl,rfl⟩:=ht;have kF:=fill_eq _ _ _ _ hc;rw[←hp]at kF;simp[execOp,ho,Instr.build,hzr,run_underlying hu,sizeOf,typeInfo,hi,GJ,kF]
end Go.dL
namespace Go.dL
open Go Go.MapKept
section
variable {P:Program} {n:Nat} {ds:List Deferred} {F:ee} {Q:Exit→Act→World→Prop} {K:Act→World→Prop} {σ:ba} {H:List aa} {o:Oper} {d:Nat}
theorem Mf{fn:Fn}{fs cs:List Operand}{fv cv:List Value}(ho:o.op= .makeFunc fn fs.toArray cs.toArray:=by exact rfl)(hf:jY σ fs=some fv:=by exact rfl)(hc:jY σ cs=some cv:=by exact rfl):Yv P n ds F σ o (.func fn fv.toArray cv.toArray):=
 λa w e _=>by
  have h1:=e.wy hf;have h2:=e.wy hc;simp[execOp,ho,Instr.makeFunc,←h1,←h2]
theorem JM{ρ:Operand→Value}{f:FuncId}{xs:List Operand}{vs fv cv:List Value}{sW:Array TypeId}{w:World}{fn:Func}{x:Operand}(ho:o.op= .call {callee:= .value x,args:=xs.toArray,argTypes:=sW})
  (hρ:ρ x= .func (.func f) fv.toArray cv.toArray) (hv:xs.map ρ=vs) (hf:P.funcs[f]?=some fn) (hb:fn.body.isSome=true) (hnm:(fn.name== "runtime.NumGoroutine")=false):
  (execOp ρ o).run P w= .ok (.enter f (fv++vs++cv).toArray) w:=by
 have aff:fn.body.isNone=false:=by rw[←Option.not_isSome,hb];rfl
 have Y1:¬fn.name= "runtime.NumGoroutine" :=by simpa using hnm
 have hb':¬fn.body=none:=by intro q;rw[q]at hb;cases hb
 simp[execOp,ho,resolve,hρ,Deferred.ofValue,invoke,callFunc,hf,←hv];rw[if_neg Y1,if_neg hb']
theorem Q8{f:FuncId}{xs:List Operand}{vs fv cv:List Value}{sW:Array TypeId}{pre:Hp→Prop}{As R:List aa}{T:Value→List aa→Prop}{x:Operand}(lj:ax P f=true)(ho:o.op= .call {callee:= .value x,args:=xs.toArray,argTypes:=sW})
  (hd:o.dst=some d) (hx:bx σ x=some (.func (.func f) fv.toArray cv.toArray)) (hv:jY σ xs=some vs) (hc:aH P f (fv++vs++cv) pre As T) (ey:jB H As R) (iX:∀h,Le F.h h→hJ R h→pre h) (hdn:Nat.blt d n=true)
  (h:∀v H',T v H'→G n ds F K ((d,v)::σ) (H'++R)):G n ds F (λa w=>o.wp P a w K Q) σ H:=by
 refine .mk λa w en s=> ?_;unfold ax at lj;cases hf:P.funcs[f]? with
 |none=>simp[hf]at lj
 |some fn=>
  simp only[hf,Bool.and_eq_true,Bool.not_eq_true']at lj;unfold Oper.wp;rw[JM ho (en.eval hx) (en.wy hv) hf lj.1 lj.2,Oper.upon_enter];obtain⟨a1,a2,a3,fr,hh,st,hl,vO⟩:=s;obtain⟨h1,h2,d12,l1,l2,s1,s2⟩:=bQ (ey.out _ st);have yH:cE h2 F.h:=vO.left l2
  let F':ee:={F with h:=gI h2 F.h}
  have jA:Le F.h F'.h:=bh yH;have jd:Le h2 F'.h:=br _ _;have Ee:St F' As w:=⟨a1,a2,a3,cJ (l2.trans hl) fr,h1,s1,l1.trans hl,(cE.gI d12.symm (vO.left l1).symm).symm⟩;refine(hc F' w (iX _ jA (cM s2 jd)) Ee).mono ?_;rintro e w' ⟨v,H',rfl,hT,sw⟩;obtain⟨b1,b2,b3,vR,Er,st2,Ep,mu⟩:=sw;rw[hd];refine h v H' hT _ _ (en.put hdn v) ⟨b1,b2,b3,jA.trans vR,gI Er h2,bZ st2 s2 (mu.right jd),cJ Ep (jd.trans vR),cE.gI (mu.right jA) yH⟩
theorem oCV{f:FuncId}{xs:List Operand}{vs fv cv:List Value}{sW:Array TypeId}{pre:Hp→Prop}{A2 R:List aa}{T:Value→List aa→Prop}{x:Operand}(lj:ax P f=true)(ho:o.op= .call {callee:= .value x,args:=xs.toArray,argTypes:=sW})
  (hx:bx σ x=some (.func (.func f) fv.toArray cv.toArray)) (hv:jY σ xs=some vs) (hc:aH P f (fv++vs++cv) pre A2 T) (ey:jB H A2 R) (iX:∀h,Le F.h h→hJ R h→pre h)
  (h:∀v H',T v H'→G n ds F K ((d,v)::σ) (H'++R)) (hd:o.dst=some d:=by exact rfl) (hdn:Nat.blt d n=true:=by exact rfl):G n ds F (λa w=>o.wp P a w K Q) σ H:=
 Q8 lj ho hd hx hv hc ey iX hdn h
def rS (P:Program)(t:TypeId):Bool:=match P.underlying t with|some (.interface _)=>false|some _=>true|none=>false
theorem sC{t:TypeId}(h:rS P t=true):∃dd,P.underlying t=some dd∧∀ms,dd≠ .interface ms:=by
 unfold rS at h;cases hu:P.underlying t with
 |none=>simp[hu]at h
 |some dd=>exact⟨dd,rfl,λms q=>by subst q;simp[hu]at h⟩
theorem T6{t:TypeId}{x:Operand}{v:Value}(ht:rS P t=true)(ho:o.op= .makeInterface t x:=by exact rfl)(hx:bx σ x=some v:=by exact rfl):Yv P n ds F σ o (.iface t v):=λa w e _=>by
 obtain⟨dd,hu,ja⟩:=sC ht;have:(Instr.makeInterface t v).run P w= .ok (.iface t v) w:=by
  cases dd<;>simp_all[Instr.makeInterface,run_underlying hu]
 simp[execOp,ho,e.eval hx,this]
def isIface (P:Program)(t:TypeId):Bool:=match P.underlying t with|some (.interface _)=>true|_=>false
theorem sE{t:TypeId}(h:isIface P t=true):∃ms,P.underlying t=some (.interface ms):=by
 unfold isIface at h;cases hu:P.underlying t with
 |none=>simp[hu]at h
 |some dd=>cases dd<;>simp[hu]at h;exact⟨_,rfl⟩
theorem Vr{t tv:TypeId}{v:Value}(ht:isIface P t=true)(w:World):(Op.equalIn 10000 t (.iface tv v) .nilIface).run P w= .ok false w:=by
 obtain⟨ms,hu⟩:=sE ht;unfold Op.equalIn;simp[run_underlying hu]
theorem Vq{t:TypeId}(ht:isIface P t=true)(w:World):(Op.equalIn 10000 t .nilIface .nilIface).run P w= .ok true w:=by
 obtain⟨ms,hu⟩:=sE ht;unfold Op.equalIn;simp[run_underlying hu]
theorem Iq{op:BinOp}{t yt tv:TypeId}{x:Operand}{v:Value}{b:Bool}(ht:isIface P t=true)(ho:o.op= .binOp op t x (.const .nilIface) yt:=by exact rfl)(hx:bx σ x=some (.iface tv v):=by exact rfl)
  (hop:(op= .eql∧b=false)∨(op= .neq∧b=true):=by first|exact .inl ⟨rfl,rfl⟩|exact .inr ⟨rfl,rfl⟩):Yv P n ds F σ o (.bool b):=λa w e _=>by
 have hc:a.eval (.const .nilIface)= .nilIface:=rfl;have q:=Vr (P:=P) (tv:=tv) (v:=v) ht w;rcases hop with⟨rfl,rfl⟩|⟨rfl,rfl⟩<;>simp[execOp,ho,e.eval hx,hc,eqGuard,binOp,Op.equal,Op.maxDepth,q]
theorem Iqn{op:BinOp}{t yt:TypeId}{x:Operand}{b:Bool}(ht:isIface P t=true)(ho:o.op= .binOp op t x (.const .nilIface) yt:=by exact rfl)(hx:bx σ x=some .nilIface:=by exact rfl)
  (hop:(op= .eql∧b=true)∨(op= .neq∧b=false):=by first|exact .inl ⟨rfl,rfl⟩|exact .inr ⟨rfl,rfl⟩):Yv P n ds F σ o (.bool b):=λa w e _=>by
 have hc:a.eval (.const .nilIface)= .nilIface:=rfl;have q:=Vq (P:=P) ht w;rcases hop with⟨rfl,rfl⟩|⟨rfl,rfl⟩<;>simp[execOp,ho,e.eval hx,hc,eqGuard,binOp,Op.equal,Op.maxDepth,q]
theorem TaT{xt t:TypeId}{x:Operand}{v:Value}(ht:rS P t=true)(ho:o.op= .typeAssert x xt t true:=by exact rfl)(hx:bx σ x=some (.iface t v):=by exact rfl):Yv P n ds F σ o (.tuple #[v, .bool true]):=λa w e _=>by
 obtain⟨dd,hu,ja⟩:=sC ht;have:(Instr.typeAssert (.iface t v) xt t true).run P w= .ok (.tuple #[v, .bool true]) w:=by
  cases dd<;>simp_all[Instr.typeAssert,run_underlying hu]
 simp[execOp,ho,e.eval hx,this]
end
inductive mq (dd:TypeDesc) (b:Nat) (es:List (Value×Value)) (h:Hp):Prop
 |mk (dM:Array MapEntry) (oy:Nat) (he:dM.toList.map (λe=>(e.key,e.val))=es) (hk:∀x∈dM.toList,IsKey dd x.key) (hs:Stamped dM oy) (hb:h b=some (.map dM oy))
noncomputable def sN (es:List (Value×Value))(k:Value):Option Value:=by
 classical exact(es.find? λe=>decide (e.1=k)).map (·.2)
noncomputable def Ed (es:List (Value×Value))(k v:Value):List (Value×Value):=by
 classical exact if(∃e∈es,e.1=k)then es.map (λe=>if e.1=k then(k,v)else e)else es++ [(k,v)]
noncomputable def GU (es:List (Value×Value))(k:Value):List (Value×Value):=by
 classical exact es.filter λe=>decide (e.1≠k)
theorem Ri{dd:TypeDesc}{b:Nat}{es:List (Value×Value)}{h:Hp}(p:mq dd b es h):(es.map (·.1)).Nodup:=by
 obtain⟨dM,oy,he,_,hs,_⟩:=p;rw[←he]
 simpa[Function.comp_def]using hs.2.2
theorem Bi{dd:TypeDesc}{k:Value}(hk:IsKey dd k){dM:Array MapEntry}(MU:∀x∈dM.toList,IsKey dd x.key):
  (Instr.findNow dd k dM.toList 0=some none∧∀e∈dM.toList.map (λe=>(e.key,e.val)),e.1≠k)∨∃j e,Instr.findNow dd k dM.toList 0=some (some (j,e.val))∧dM[j]?=some e∧e.key=k:=by
 rcases findNow_spec hk dM.toList 0 MU with⟨h1,h2⟩|⟨j,e,h1,h2,h3⟩
 ·refine .inl ⟨h1,λe he=> ?_⟩
  obtain⟨x,hx,rfl⟩:=List.mem_map.1 he;exact h2 x hx
 exact .inr ⟨j,e,by simpa using h1,by simpa using h2,h3⟩
theorem C0{es:List (Value×Value)}{k:Value}(h:∀e∈es,e.1≠k):sN es k=none:=by
 simp only[sN,Option.map_eq_none_iff,List.find?_eq_none];intro e he;simpa using h e he
theorem Rr{es:List (Value×Value)}{k v:Value}(hn:(es.map (·.1)).Nodup)(h:(k,v)∈es):sN es k=some v:=by
 induction es with
 |nil=>cases h
 |cons e es ih=>
  simp only[List.map_cons,List.nodup_cons]at hn;rcases List.mem_cons.1 h with rfl|h
  ·simp[sN]
  have ja:e.1≠k:=λq=>hn.1 (List.mem_map.2 ⟨(k,v),h,q.symm⟩);have:=ih hn.2 h;simp only[sN]at this⊢;rw[List.find?_cons_of_neg (by simpa using ja)];exact this
theorem Ra{α:Type}{l:List α}(hn:l.Nodup){i j:Nat}{x:α}(hi:l[i]?=some x)(hj:l[j]?=some x):i=j:=by
 obtain⟨h1,e1⟩:=List.getElem?_eq_some_iff.1 hi;obtain⟨h2,e2⟩:=List.getElem?_eq_some_iff.1 hj;have hp:=List.pairwise_iff_getElem.1 hn;rcases Nat.lt_trichotomy i j with q|q|q
 ·exact absurd (e1.trans e2.symm) (hp i j h1 h2 q)
 ·exact q
 exact absurd (e2.trans e1.symm) (hp j i h2 h1 q)
theorem sH{dd:TypeDesc}{k:Value}(h:TI dd k=true)(m:Nat):Instr.sameBits m k k=true:=by
 cases dd<;>cases k<;>simp[TI]at h<;>simp[Instr.sameBits];exact(bytes_beq _ _).2 rfl
section
variable {P:Program} {n:Nat} {ds:List Deferred} {F:ee} {Q:Exit→Act→World→Prop} {K:Act→World→Prop} {σ:ba} {H:List aa} {o:Oper} {d:Nat}
theorem oQm{t:TypeId}(dd:TypeDesc)(h:∀b,G n ds F K ((d, .map (some b))::σ) (mq dd b []::H))(ho:o.op= .makeMap t none:=by exact rfl)(hd:o.dst=some d:=by exact rfl)(hdn:Nat.blt d n=true:=by exact rfl):G n ds F (λa w=>o.wp P a w K Q) σ H:=by
 refine .mk λa w en s=> ?_;unfold Oper.wp;have:(execOp a.eval o).run P w= .ok (.value (.map (some w.heap.size))) (w.alloc (.map #[] 0)):=by
  have h0:(Instr.makeMap t none).run P w= .ok (.map (some w.heap.size)) (w.alloc (.map #[] 0)):=rfl;simp[execOp,ho,h0]
 rw[this,Oper.upon_value,hd];exact h _ _ _ (en.put hdn _) (s.adZ _ _ (.mk #[] 0 rfl (by simp) (stamped_empty 0) (by simp)))
theorem Hn{es:List (Value×Value)}{k v:Value}(h:∃e∈es,e.1=k):Ed es k v=es.map (λe=>by classical exact if e.1=k then(k,v)else e):=by
 unfold Ed;rw[if_pos h]
theorem Ho{es:List (Value×Value)}{k v:Value}(h:∀e∈es,e.1≠k):Ed es k v=es++ [(k,v)]:=by
 unfold Ed;rw[if_neg (by rintro⟨e,he,q⟩;exact h e he q)]
theorem DJ{α:Type}(l:Array α)(i:Nat)(f:α→α):(l.modify i f).toList=l.toList.modify i f:=Array.toList_modify
theorem oQi{t k e:TypeId}{dd:TypeDesc}{z:Value}{m x y:Operand}{b:Nat}{es:List (Value×Value)}{kv v:Value}{f:aa→List aa}(ht:yn P t=some (k,dd,e,z))(h:G n ds F K σ (f (mq dd b (Ed es kv v))))(ho:o.op= .mapUpdate t m x y∨o.op= .insert t m x y:=by first|exact .inl rfl|exact .inr rfl)(hd:o.dst=none:=by exact rfl)
  (hm:bx σ m=some (.map (some b)):=by exact rfl) (hx:bx σ x=some kv:=by exact rfl) (hy:bx σ y=some v:=by exact rfl) (hk:TI dd kv=true:=by exact rfl) (hu:Pos H (mq dd b es) f:=by repeat (first|exact Pos.here|apply Pos.there)):
  G n ds F (λa w=>o.wp P a w K Q) σ H:=by
 classical
 refine .mk λa w en s=> ?_;obtain⟨TM,BM,_,_,_⟩:=pL ht;obtain⟨R,s1,s2⟩:=hu.sS;have sR:=s.sS s1;obtain⟨hh,⟨dM,oy,he,MU,iY,hb⟩,hl⟩:=sR.get;have hw:w.heap[b]?=some (.map dM oy):=hl _ _ hb;unfold Oper.wp;rcases Bi (iN hk) MU with⟨El,ou⟩|⟨j,MZ,El,hj,oF⟩
 ·have:(execOp a.eval o).run P w= .ok .skip {w with heap:=w.heap.setIfInBounds b (.map (dM.push {key:=kv,val:=v,born:=oy}) (oy+1))}:=by
   have hup:(Instr.mapUpdate t (.map (some b)) kv v).run P w= .ok () {w with heap:=w.heap.setIfInBounds b (.map (dM.push {key:=kv,val:=v,born:=oy}) (oy+1))}:=by
    simp[Instr.mapUpdate,run_underlying TM,MapKept.run_getObj_map hw,MapKept.run_checkKey BM (iN hk),MapKept.run_findKey BM El,MapKept.run_setObj_map _ hw,Result.andThen]
   rcases ho with ho|ho<;>simp[execOp,ho,en.eval hm,en.eval hx,en.eval hy,hup,Result.andThen]
  rw[this,Oper.upon_skip,hd];rw[he]at ou;refine h _ _ en (St.oJ (s2 _) (sR.UC (λh' p=>by obtain⟨_,_,_,_,_,q⟩:=p;exact⟨_,q⟩) (.mk (dM.push {key:=kv,val:=v,born:=oy}) (oy+1) (by rw[Ho ou];simp[he]) (λq hq=> ?_) (stamped_push iY λq hq e=> ?_) (by simp))))
  ·simp only[Array.toList_push,List.mem_append,List.mem_singleton]at hq
   rcases hq with hq|rfl
   ·exact MU q hq
   exact iN hk
  exact ou (q.key,q.val) (by rw[←he];exact List.mem_map.2 ⟨q,hq,rfl⟩) e
 have hold:dM.toList[j]?=some MZ:=by simpa using hj
 have BZ:(execOp a.eval o).run P w= .ok .skip {w with heap:=w.heap.setIfInBounds b (.map (dM.modify j λe=>{e with key:=kv,val:=v}) oy)}:=by
  have hup:(Instr.mapUpdate t (.map (some b)) kv v).run P w= .ok () {w with heap:=w.heap.setIfInBounds b (.map (dM.modify j λe=>{e with key:=kv,val:=v}) oy)}:=by
   simp[Instr.mapUpdate,run_underlying TM,MapKept.run_getObj_map hw,MapKept.run_checkKey BM (iN hk),MapKept.run_findKey BM El,hj,oF,Instr.keyThatStays,sH hk,MapKept.run_setObj_map _ hw,Result.andThen]
  rcases ho with ho|ho<;>simp[execOp,ho,en.eval hm,en.eval hx,en.eval hy,hup,Result.andThen]
 rw[BZ,Oper.upon_skip,hd];have lU:(kv,MZ.val)∈es:=by rw[←he,←oF];exact List.mem_map.2 ⟨MZ,List.mem_of_getElem? hold,rfl⟩
 have NB:(dM.modify j λe=>{e with key:=kv,val:=v}).toList.map (λe=>(e.key,e.val))=Ed es kv v:=by
  rw[Hn ⟨_,lU,rfl⟩,←he,DJ];apply List.ext_getElem?;intro i;simp only[List.getElem?_map,List.getElem?_modify];by_cases Uk:j=i
  ·subst Uk
   simp[hold,oF]
  cases hi:dM.toList[i]? with
  |none=>simp
  |some e'=>
   have ja:e'.key≠kv:=by
    intro q;have hn:=iY.2.2;exact Uk (Ra hn (x:=kv) (by simp[hold,oF]) (by simp[hi,q]))
   simp[ja,Uk]
 refine h _ _ en (St.oJ (s2 _) (sR.UC (λh' p=>by obtain⟨_,_,_,_,_,q⟩:=p;exact⟨_,q⟩) (.mk _ oy NB (isKey_modify MU j _ (λe MW=>by rw[hj]at MW;cases MW;exact oF.symm)) (stamped_modify iY j _ (λ_ _=>rfl) (λe _ MW=>by rw[hj]at MW;cases MW;exact oF.symm)) (by simp))))
theorem zh{t k e:TypeId}{dd:TypeDesc}{z:Value}{b:Nat}{es:List (Value×Value)}{kv:Value}{h:Hp}{w:World}(ht:yn P t=some (k,dd,e,z))(hk:TI dd kv=true)(p:mq dd b es h)(hl:Le h (kh w))(c:Bool):
  (Instr.lookup t (.map (some b)) kv c).run P w= .ok (if c then .tuple #[(sN es kv).getD z, .bool (sN es kv).isSome]else(sN es kv).getD z) w:=by
 obtain⟨TM,BM,i,hi,hz⟩:=pL ht;have yF:=Ri p;obtain⟨dM,oy,he,MU,iY,hb⟩:=p;have hw:w.heap[b]?=some (.map dM oy):=hl _ _ hb;rcases Bi (iN hk) MU with⟨El,ou⟩|⟨j,MZ,El,hj,oF⟩
 ·rw[he]at ou
  rw[C0 ou];simp[Instr.lookup,run_underlying TM,MapKept.run_getObj_map hw,MapKept.run_checkKey BM (iN hk),MapKept.run_findKey BM El,zeroValue,typeInfo,hi,hz,Result.andThen]
 have lU:(kv,MZ.val)∈es:=by rw[←he,←oF];exact List.mem_map.2 ⟨MZ,List.mem_of_getElem? (by simpa using hj),rfl⟩
 rw[Rr yF lU];simp[Instr.lookup,run_underlying TM,MapKept.run_getObj_map hw,MapKept.run_checkKey BM (iN hk),MapKept.run_findKey BM El,Result.andThen]
theorem oQl{t k e:TypeId}{dd:TypeDesc}{z:Value}{m x:Operand}{b:Nat}{es:List (Value×Value)}{kv:Value}{R:List aa}(ht:yn P t=some (k,dd,e,z))(h:G n ds F K ((d,(sN es kv).getD z)::σ) H)(ho:o.op= .lookup t m x false:=by exact rfl)(hd:o.dst=some d:=by exact rfl)
  (hm:bx σ m=some (.map (some b)):=by exact rfl) (hx:bx σ x=some kv:=by exact rfl) (hk:TI dd kv=true:=by exact rfl) (hs:fE H (mq dd b es) R:=by repeat (first|exact fE.here|apply fE.there)) (hdn:Nat.blt d n=true:=by exact rfl):G n ds F (λa w=>o.wp P a w K Q) σ H:=
 qS hd hdn (λa w en s=>by
  obtain⟨hh,p,hl⟩:=(s.sS hs).get;simp[execOp,ho,en.eval hm,en.eval hx,zh ht hk p hl]) h
theorem adW{t k e:TypeId}{dd:TypeDesc}{z:Value}{m x:Operand}{b:Nat}{es:List (Value×Value)}{kv:Value}{R:List aa}(ht:yn P t=some (k,dd,e,z))(h:G n ds F K ((d, .tuple #[(sN es kv).getD z, .bool (sN es kv).isSome])::σ) H)(ho:o.op= .lookup t m x true:=by exact rfl)(hd:o.dst=some d:=by exact rfl)
  (hm:bx σ m=some (.map (some b)):=by exact rfl) (hx:bx σ x=some kv:=by exact rfl) (hk:TI dd kv=true:=by exact rfl) (hs:fE H (mq dd b es) R:=by repeat (first|exact fE.here|apply fE.there)) (hdn:Nat.blt d n=true:=by exact rfl):G n ds F (λa w=>o.wp P a w K Q) σ H:=
 qS hd hdn (λa w en s=>by
  obtain⟨hh,p,hl⟩:=(s.sS hs).get;simp[execOp,ho,en.eval hm,en.eval hx,zh ht hk p hl]) h
theorem oQd{t k e:TypeId}{dd:TypeDesc}{z:Value}{m x:Operand}{b:Nat}{es:List (Value×Value)}{kv:Value}{f:aa→List aa}{t2:TypeId}(ht:yn P t=some (k,dd,e,z))(h:G n ds F K σ (f (mq dd b (GU es kv))))(ho:o.op= .call {callee:= .builtin .delete,args:= #[m,x],argTypes:= #[t,t2]}:=by exact rfl)(hd:o.dst=none:=by exact rfl)
  (hm:bx σ m=some (.map (some b)):=by exact rfl) (hx:bx σ x=some kv:=by exact rfl) (hk:TI dd kv=true:=by exact rfl) (hu:Pos H (mq dd b es) f:=by repeat (first|exact Pos.here|apply Pos.there)):G n ds F (λa w=>o.wp P a w K Q) σ H:=by
 classical
 refine .mk λa w en s=> ?_;obtain⟨TM,BM,_,_,_⟩:=pL ht;obtain⟨R,s1,s2⟩:=hu.sS;have sR:=s.sS s1;obtain⟨hh,⟨dM,oy,he,MU,iY,hb⟩,hl⟩:=sR.get;have hw:w.heap[b]?=some (.map dM oy):=hl _ _ hb;have same:{w with heap:=w.heap.setIfInBounds b (.map dM oy)}=w:=by
  have bX:=(Array.getElem?_eq_some_iff.1 hw).1;have:w.heap.setIfInBounds b (.map dM oy)=w.heap:=by
   apply Array.ext_getElem?;intro i;rw[Array.getElem?_setIfInBounds]
   split
   ·rename_i q;subst q;rw[hw]
   rfl
  rw[this]
 unfold Oper.wp;rcases Bi (iN hk) MU with⟨El,ou⟩|⟨j,MZ,El,hj,oF⟩
 ·have:(execOp a.eval o).run P w= .ok (.value (.tuple #[])) w:=by
   simp[execOp,ho,resolve,invoke,builtin,Builtin.delete_,en.eval hm,en.eval hx,run_underlying TM,MapKept.run_getObj_map hw,MapKept.run_checkKey BM (iN hk),MapKept.run_findKey BM El,MapKept.run_setObj_map _ hw,Result.andThen,same]
  rw[this,Oper.upon_value,hd];rw[he]at ou;have qB:GU es kv=es:=by
   unfold GU;rw[List.filter_eq_self];intro e' MW;simpa using ou e' MW
  rw[qB]at h;exact h _ _ en (by
   have:=St.oJ (s2 (mq dd b es)) sR;exact this)
 have bX:=(Array.getElem?_eq_some_iff.1 hj).1;have:(execOp a.eval o).run P w= .ok (.value (.tuple #[])) {w with heap:=w.heap.setIfInBounds b (.map (dM.eraseIdxIfInBounds j) oy)}:=by
  simp[execOp,ho,resolve,invoke,builtin,Builtin.delete_,en.eval hm,en.eval hx,run_underlying TM,MapKept.run_getObj_map hw,MapKept.run_checkKey BM (iN hk),MapKept.run_findKey BM El,MapKept.run_setObj_map _ hw,Result.andThen]
 rw[this,Oper.upon_value,hd];have NB:(dM.eraseIdxIfInBounds j).toList.map (λe=>(e.key,e.val))=GU es kv:=by
  have e1:(dM.eraseIdxIfInBounds j).toList=dM.toList.eraseIdx j:=by
   unfold Array.eraseIdxIfInBounds;rw[dif_pos bX];simp
  rw[e1,←he];have yF:(dM.toList.map (·.key)).Nodup:=iY.2.2;have hg:dM.toList[j]?=some MZ:=by simpa using hj
  clear El iY MU hb hw hl he this e1 same
  clear hj bX
  generalize dM.toList=l at*
  induction l generalizing j with
  |nil=>simp at hg
  |cons x l ih=>
   simp only[List.map_cons,List.nodup_cons]at yF;cases j with
   |zero=>
    simp at hg;subst hg;simp only[List.eraseIdx_cons_zero,List.map_cons,GU];rw[List.filter_cons_of_neg (by simp[oF])]
    symm
    rw[List.filter_eq_self];intro e' MW;obtain⟨y,hy,rfl⟩:=List.mem_map.1 MW;have:y.key≠x.key:=λq=>yF.1 (List.mem_map.2 ⟨y,hy,q⟩)
    simpa[←oF]using this
   |succ j=>
    simp at hg;have Xl:x.key≠kv:=λq=>yF.1 (List.mem_map.2 ⟨MZ,List.mem_of_getElem? hg,oF.trans q.symm⟩);simp only[List.eraseIdx_cons_succ,List.map_cons,GU];rw[List.filter_cons_of_pos (by simpa using Xl)]
    congr 1
    exact ih j yF.2 hg
 refine h _ _ en (St.oJ (s2 _) (sR.UC (λh' p=>by obtain⟨_,_,_,_,_,q⟩:=p;exact⟨_,q⟩) (.mk _ oy NB (λq hq=>MU q ?_) (stamped_erase iY j) (by simp))));unfold Array.eraseIdxIfInBounds at hq;rw[dif_pos bX]at hq;exact(List.eraseIdx_sublist _ _).subset (by simpa using hq)
end
end Go.dL
namespace Go.dL
open Go Go.MapKept
section
variable {P:Program} {n:Nat} {ds:List Deferred} {F:ee} {Q:Exit→Act→World→Prop} {K:Act→World→Prop} {σ:ba} {H:List aa} {o:Oper} {d:Nat}
end
end Go.dL
namespace Go.dL
open Go
theorem FU{A:aa}{L H:List aa}{h:Hp}(s:ak (aN (A::L)::H) h):ak (A::aN L::H) h:=by
 obtain⟨h1,h2,d,l1,l2,⟨h3,h4,d',l3,l4,a,s1⟩,s2⟩:=s;refine⟨h3,gI h4 h2, ?_,l3.trans l1,cJ (l4.trans l1) l2,a,h4,h2,d.left l4,br _ _,bh (d.left l4),s1,s2⟩;exact(cE.gI d'.symm (d.left l3).symm).symm
theorem xO{A:aa}{L H:List aa}{h:Hp}(s:ak (A::aN L::H) h):ak (aN (L++ [A])::H) h:=by
 have s:=dK s;have:ak (aN L::([A]++H)) h:=s;exact xP this
section
variable {P:Program} {n:Nat} {ds:List Deferred} {F:ee} {Q:Exit→Act→World→Prop} {K:Act→World→Prop} {σ:ba} {H:List aa} {o:Oper} {d:Nat}
theorem JC{α:Type}{f:α→aa}{X:α→Hp→Prop}(hx:∀a k,f a k→X a k)(hm:∀a k l,X a k→Le k l→X a l):∀(L:List α) (h:Hp),ak (L.map f) h→∀a∈L,X a h:=by
 intro L
 induction L with
 |nil=>intro h _ a ha;cases ha
 |cons b r ih=>
  intro h s a ha;obtain⟨h1,h2,d,l1,l2,p,s2⟩:=s;rcases List.mem_cons.1 ha with rfl|ha
  ·exact hm _ _ _ (hx _ _ p) l1
  exact hm _ _ _ (ih h2 s2 a ha) l2
theorem Q7{a:Option Addr}{cap e sz:Nat}{xs:List Value}{R:List aa}{w:World}(s:St F (own a cap e sz xs::R) w):
  (a=none∧cap=0∧xs= [])∨∃b sp,a=some ⟨b,0,none⟩∧xs.length+sp.length=cap*sz∧cap≤maxLen∧St F (ag b e (xs++sp)::R) w:=by
 obtain⟨a1,a2,a3,fr,h,⟨h1,h2,dd,l1,l2,⟨q1,q2,q3|⟨b,sp,rfl,q4,q5⟩⟩,st⟩,y,zz⟩:=s
 ·obtain⟨rfl,rfl⟩:=q3
  exact .inl ⟨rfl,rfl,List.eq_nil_of_length_eq_zero (by omega)⟩
 exact .inr ⟨b,sp,rfl,q4,q2,a1,a2,a3,fr,h,⟨h1,h2,dd,l1,l2,q5,st⟩,y,zz⟩
theorem L6{b cap e sz:Nat}{xs sp:List Value}{R:List aa}{w:World}(hl:xs.length+sp.length=cap*sz)(hm:cap≤maxLen)(s:St F (ag b e (xs++sp)::R) w):St F (own (some ⟨b,0,none⟩) cap e sz xs::R) w:=
 s.sub λ_ s'=>bm (λ_ p=>⟨by omega,hm, .inr ⟨b,sp,rfl,hl,p⟩⟩) s'
theorem VJ{a:Option Addr}{cap e sz:Nat}{xs ys:List Value}{h:Hp}(o:own a cap e sz (xs++ys) h):own a cap e sz xs h:=by
 have:=xc o xs.length
 rwa[List.take_left]at this
theorem oSON{t k':TypeId}{x y:Operand}{a:Option Addr}{j cap e sz:Nat}{cells vs:List Value}{f:aa→List aa}(hs:db P t=some k')(h:G n ds F K σ (f (own a cap e sz (bU cells j vs))))(ho:o.op= .store t x y:=by exact rfl)(hd:o.dst=none:=by exact rfl)
  (hx:bx σ x=some (.pointer (a.map (·.add j))):=by exact rfl) (hy:bx σ y=some (.agg vs.toArray):=by exact rfl) (hk:vs.length=k':=by exact rfl) (h1:∀v∈vs,v.oneCell'=true:=by simp[bU,Value.cells,Value.oneCell',aB])
  (hu:Pos H (own a cap e sz cells) f:=by repeat (first|exact Pos.here|apply Pos.there)) (hj:j+vs.length≤cells.length:=by first|omega|(simp;omega)) (h0:0<vs.length:=by first|omega|(simp;done)|(simp;omega)):G n ds F (λa w=>o.wp P a w K Q) σ H:=by
 refine .mk λac w en s=> ?_;obtain⟨R,s1,s2⟩:=hu.sS;rcases Q7 (s.sS s1)with⟨rfl,rfl,rfl⟩|⟨b,sp,rfl,q4,q2,st⟩
 ·simp only[List.length_nil]at hj;omega
 obtain⟨w',hr,s'⟩:=jx (P:=P) vs j 0 (cells++sp) w st (by rw[List.length_append];omega) h1;unfold Oper.wp;have:(execOp ac.eval o).run P w= .ok .skip w':=by
  simp[execOp,ho,en.eval hx,en.eval hy,Instr.storeAt,Instr.sureAddr,storeVar,(eV hs).2,Value.cells,hk,add_lit,hr]
 rw[this,Oper.upon_skip,hd];refine h _ _ en (St.oJ (s2 _) (L6 (b:=b) (sp:=sp) ?_ q2 ?_))
 ·rw[uz];exact q4
 have e:bU (cells++sp) j vs=bU cells j vs++sp:=by
  rw[lI (by rw[List.length_append];omega),lI hj,List.take_append_of_le_length (by omega),List.drop_append_of_le_length (by omega)];simp
 have s'':=s';simp only[Nat.add_zero]at s'';rw[e]at s'';exact s''
def Up (a:Option Addr)(c e sz:Nat)(pre news:List Value)(g:Option Addr)(gc:Nat):aa:=λh=>
 ((g=a∧gc=c)∧own a c e sz (pre++news) h)∨∃ys,aN [own g gc e sz (pre++news),own a c e sz (pre++ys)] h
end
end Go.dL
