/- Part Pc of the proof. -/
import Derived.Test.YtdolmecackmjdaaGreatDoorPb
import Derived.Defers
import Derived.Laws.Concat
import Derived.Laws.Externs
import Derived.Laws.LoneSync
import Derived.Laws.StructEq
import Derived.MapKept
set_option maxRecDepth 100000
namespace Go.cV
open Go
section
variable {P:Program} {f:FuncId} {args:List Value} {pre:Hp→Prop} {H:List aa} {R:Value→List aa→Prop}
theorem St.ex{ι:Type}{F:dy}{w:World}{A:ι→aa}(s:St F ((λk=>∃x,A x k)::H) w):∃x,St F (A x::H) w:=by
 obtain⟨a1,a2,a3,fr,hh,⟨h1,h2,d,l1,l2,⟨x,hx⟩,st⟩,y,z⟩:=s
 exact⟨x,a1,a2,a3,fr,hh,⟨h1,h2,d,l1,l2,hx,st⟩,y,z⟩
theorem aF.ZY{ι:Type}{A:ι→aa}(h:∀x,aF P f args pre (A x::H) R):aF P f args pre ((λk=>∃x,A x k)::H) R:=λF w hp s=>by
 obtain⟨x,s'⟩:=s.ex
 exact h x F w hp s'
theorem aF.Ae{X:Prop}{A:aa}(h:X→aF P f args pre (A::H) R):aF P f args pre ((λk=>X∧A k)::H) R:=λF w hp s=>by
 obtain⟨a1,a2,a3,fr,hh,⟨h1,h2,d,l1,l2,⟨x,hx⟩,st⟩,y,z⟩:=s
 exact h x F w hp ⟨a1,a2,a3,fr,hh,⟨h1,h2,d,l1,l2,hx,st⟩,y,z⟩
theorem aF.CW{L:List aa}(h:aF P f args pre (L++H) R):aF P f args pre (aI L::H) R:=λF w hp s=>
 h F w hp (s.sub λk s=>by
  obtain⟨h1,h2,d,l1,l2,s1,s2⟩:=s
  exact dL (bG s1 s2 d) (bS l1 l2))
theorem aF.out{R':Value→List aa→Prop}(h:aF P f args pre H R)(hr:∀v H',R v H'→∃H'',R' v H''∧∀k,ai H' k→ai H'' k):aF P f args pre H R':=λF w p s=>
 (h F w p s).mono λe w' hh=>by
  obtain⟨v,H',he,r,st⟩:=hh
  obtain⟨H'',r',ZZ⟩:=hr v H' r
  exact⟨v,H'',he,r',st.sub ZZ⟩
theorem aF.inp{aaT:Hp→Prop}(h:aF P f args pre H R)(hp:∀k,aaT k→pre k):aF P f args aaT H R:=λF w p s=>h F w (hp _ p) s
theorem aF.XL{X:Prop}(hx:∀k,pre k→X)(h:X→aF P f args pre H R):aF P f args pre H R:=λF w p s=>h (hx _ p) F w p s
end
section
variable {P:Program} {n:Nat} {ds:List Deferred} {F:dy} {K:Act→World→Prop} {σ:aR} {H:List aa}
theorem Ya{X:Prop}{A:aa}(h:X→G n ds F K σ (A::H)):G n ds F K σ ((λk=>X∧A k)::H):=by
 refine .mk λa w e s=> ?_
 obtain⟨a1,a2,a3,fr,hh,⟨h1,h2,d,l1,l2,⟨x,hx⟩,st⟩,y,z⟩:=s
 exact h x a w e ⟨a1,a2,a3,fr,hh,⟨h1,h2,d,l1,l2,hx,st⟩,y,z⟩
end
theorem iN{H R:List aa}{A:aa}{X:Prop}(s:eX H A R)(hx:∀k,A k→X):∀h,gw H h→X:=λh aq=>by obtain⟨k,p,_⟩:=o3 s h aq;exact hx k p
theorem Sx{a:Option Addr}{cap e:Nat}{xs:List Value}(k:Hp)(o:own a cap e 1 xs k):xs.length≤cap:=by have:=o.1;omega
theorem nu{a:Option Addr}{cap e sz:Nat}{xs:List Value}{k:Hp}(o:own a cap e sz xs k)(h:0<xs.length):a.isSome=true:=by
 obtain⟨h1,_,h3|⟨b,sp,rfl,_,_⟩⟩:=o
 ·obtain⟨rfl,rfl⟩:=h3;omega
 rfl
end Go.cV
namespace Go.cV
open Go
section
variable {P:Program} {n:Nat} {ds:List Deferred} {F:dy} {Q:Exit→Act→World→Prop} {K:Act→World→Prop} {σ:aR} {H:List aa} {o:Oper} {d:Nat}
def FnD (P:Program)(f:FuncId)(args:List Value)(pre:Hp→Prop)(H:List aa)(R:Value→List aa→Prop):Prop:=
 av P f=true∧∀F w u,pre F.h→St F H w→CallsD P f args.toArray u w λe u' w'=>u'=u∧∃v H',e= .returned v∧R v H'∧St F H' w'
theorem HY{f:FuncId}{fn:Func}{c:Code}{args:List Value}{pre:Hp→Prop}{R:Value→List aa→Prop}{m:Nat}(hi:av P f=true)(hf:P.funcs[f]?=some fn)(hb:fn.body=some c)(hm:fn.ntmps=m)(hn:Nat.ble args.length m=true)
  (h:∀F:dy,pre F.h→G m [] F (c.wp P (bodyPost P fn λe w'=>∃v H',e= .returned v∧R v H'∧St F H' w')) (jH 0 args) H):FnD P f args pre H R:=
 ⟨hi,λF w u hp s=>callsD_of_wp hf hb (by
  subst hm
  exact h F hp _ _ (GU args _ (Nat.le_of_ble_eq_true hn)) s)⟩
def VF (P:Program)(fn:Func)(R:Ending→World→Prop):Exit→Act→World→Prop
 | .normal,a,w| .ret,a,w=>Leaves P fn a.tmps R a.defers .returning w
 |_,_,_=>False
theorem ON{f:FuncId}{fn:Func}{c:Code}{args:List Value}{pre:Hp→Prop}{R:Value→List aa→Prop}{m:Nat}(hf:P.funcs[f]?=some fn)(hb:fn.body=some c)(hm:fn.ntmps=m)(hn:Nat.ble args.length m=true)
  (h:∀F:dy,pre F.h→G m [] F (c.wp P (VF P fn λe w'=>∃v H',e= .returned v∧R v H'∧St F H' w')) (jH 0 args) H):aF P f args pre H R:=
 λF w hp s=>calls_of_wp_defers hf hb (by
  subst hm
  refine wp_mono (h F hp _ _ (GU args _ (Nat.le_of_ble_eq_true hn)) s) λe a w' q=> ?_
  cases e with
  |normal=>exact q
  |ret=>exact q
  |exit id=>exact q.elim
  |goto l=>exact q.elim
  |panic ch=>exact q.elim
  |outgrown=>exact q.elim)
theorem D3{ops:Array Oper}{listed:Array Bool}{fuel:Nat}{S:World→Prop}(i j k:Nat)
  (h1:G n ds F (wpOp P ops Q i (λa' w'=>S w'∧wpAnyH P .any ops Q S fuel (listed.setIfInBounds i true) a' w')) σ H)
  (h2:G n ds F (wpOp P ops Q j (λa' w'=>S w'∧wpAnyH P .any ops Q S fuel (listed.setIfInBounds j true) a' w')) σ H)
  (h3:G n ds F (wpOp P ops Q k (λa' w'=>S w'∧wpAnyH P .any ops Q S fuel (listed.setIfInBounds k true) a' w')) σ H) (hr:Region.ready .any ops listed= [i,j,k]:=by kernel_rfl):G n ds F (wpAnyH P .any ops Q S (fuel+1) listed) σ H:=
 Da hr rfl λm hm=>by
  rcases List.mem_cons.1 hm with rfl|hm
  ·exact h1
  rcases List.mem_cons.1 hm with rfl|hm
  ·exact h2
  rw[List.mem_singleton.1 hm];exact h3
end
end Go.cV
namespace Go.cV
open Go Go.MapKept
def lk (es:List (Value×Value))(k:Value):Option Value:=
 match es with
 | []=>none
 |(k',v)::r=>match sameK k' k with|true=>some v|false=>lk r k
where sameK:Value→Value→Bool
 | .int _ a, .int _ b=>decide (a=b)
 | .string a, .string b=>decide (a.data.toList=b.data.toList)
 |_,_=>false
def Qy:TypeDesc→Value→Bool
 | .int k, .int k' _=>decide (k'=k)
 | .string, .string _=>true
 |_,_=>false
theorem gW{d:TypeDesc}{k:Value}(h:Qy d k=true):IsKey d k:=by
 cases d<;>cases k<;>simp[Qy]at h<;>simp[IsKey,h]
def wC (P:Program)(t:TypeId):Option (TypeId×TypeDesc×TypeId×Value):=
 match P.underlying t with
 |some (.map k e)=>match P.underlying k,P.info? e with
  |some d,some i=>match i.zero with
   |some z=>some (k,d,e,z)
   |none=>none
  |_,_=>none
 |_=>none
theorem nQ{P:Program}{t k e:TypeId}{d:TypeDesc}{z:Value}(h:wC P t=some (k,d,e,z)):P.underlying t=some (.map k e)∧P.underlying k=some d∧∃i,P.info? e=some i∧i.zero=some z:=by
 unfold wC at h
 cases hu:P.underlying t with
 |none=>simp[hu]at h
 |some dd=>
  cases dd<;>simp[hu]at h
  rename_i k' e'
  cases hk:P.underlying k' with
  |none=>simp[hk]at h
  |some d'=>
   cases hi:P.info? e' with
   |none=>simp[hk,hi]at h
   |some i=>
    simp only[hk,hi]at h
    cases hz:i.zero with
    |none=>simp[hz]at h
    |some z'=>
     simp[hz]at h
     obtain⟨rfl,rfl,rfl,rfl⟩:=h
     exact⟨rfl,hk,i,hi,hz⟩
theorem St.aaZ{F:dy}{H:List aa}{w:World}(s:St F H w)(o:Obj)(A:aa)(hA:A λx=>if x=w.heap.size then some o else none):St F (A::H) (w.alloc o):=by
 obtain⟨a1,a2,a3,fr,h,s,y,z⟩:=s
 have hold:∀k:Hp,Le k (jv w)→Le k (jv (w.alloc o)):=by
  intro k lk x ob ex
  have hx:=lk x ob ex
  unfold jv at*
  rw[RowKit.Below.heap_alloc w _ x (Array.getElem?_eq_some_iff.1 hx).1]
  exact hx
 have dk:∀k:Hp,Le k (jv w)→bO (λx=>if x=w.heap.size then some o else none) k:=by
  intro k lk x
  by_cases hx:x=w.heap.size
  ·right
   cases q:k x with
   |none=>rfl
   |some ob=>
    have:=lk x ob q
    unfold jv at this
    have:=(Array.getElem?_eq_some_iff.1 this).1
    omega
  exact .inl (by simp[hx])
 refine⟨a1,a2,a3,hold _ fr,fZ _ h,⟨_,h,dk _ y,a8 _ _,aU (dk _ y),hA,s⟩,bS ?_ (hold _ y),bO.fZ (dk _ fr) z⟩
 intro x ob ex
 by_cases hx:x=w.heap.size
 ·subst hx;simp only[if_true]at ex;cases ex;exact heap_alloc_new w _
 simp[hx]at ex
theorem St.Rf{F:dy}{H:List aa}{w:World}{A B:aa}{b:Nat}{o':Obj}(s:St F (A::H) w)(hA:∀h,A h→∃o,h b=some o)(hB:B λx=>if x=b then some o' else none):
  St F (B::H) {w with heap:=w.heap.setIfInBounds b o'}:=by
 obtain⟨a1,a2,a3,fr,h,⟨h1,h2,d,l1,l2,hp,s⟩,y,z⟩:=s
 obtain⟨ob,hb⟩:=hA h1 hp
 have hw:w.heap[b]?=some ob:=(l1.trans y) _ _ hb
 obtain⟨BZ,VT⟩:=heap_set (o':=o') hw
 have ie:∀k:Hp,bO h1 k→∀x o,k x=some o→x≠b:=by
  intro k dk x o e hx;subst hx
  rcases dk x with q|q
  ·rw[hb]at q;cases q
  rw[e]at q;cases q
 have hold:∀k:Hp,bO h1 k→Le k (jv w)→Le k (jv {w with heap:=w.heap.setIfInBounds b o'}):=by
  intro k dk lk x o e
  have:=lk x o e
  unfold jv at*
  show(w.heap.setIfInBounds b o')[x]?=some o
  rw[VT x (ie k dk x o e)];exact this
 have dF:bO h1 F.h:=z.left l1
 have d2:∀k:Hp,bO h1 k→bO (λx=>if x=b then some o' else none) k:=by
  intro k dk x
  by_cases hx:x=b
  ·subst hx
   rcases dk x with q|q
   ·rw[hb]at q;cases q
   exact .inr q
  exact .inl (by simp[hx])
 refine⟨a1,a2,a3,hold _ dF fr,fZ _ h2,⟨_,h2,d2 _ d,a8 _ _,aU (d2 _ d),hB,s⟩,bS ?_ (hold _ d (l2.trans y)),bO.fZ (d2 _ dF) (z.left l2)⟩
 intro x o e
 by_cases hx:x=b
 ·subst hx;simp only[if_true]at e;cases e;exact BZ
 simp[hx]at e
section
variable {P:Program} {n:Nat} {ds:List Deferred} {F:dy} {Q:Exit→Act→World→Prop} {K:Act→World→Prop} {σ:aR} {H:List aa} {o:Oper} {d:Nat}
theorem Rt3{fn:Func}{R:Value→List aa→Prop}{t u u':Nat}{v x x':Value}(H':List aa)(hr:fn.results= #[.tmp t, .tmp u, .tmp u'])(hR:R (.tuple #[v,x,x']) H')(hv:look σ t=some v:=by exact rfl)(hx:look σ u=some x:=by exact rfl)(hx':look σ u'=some x':=by exact rfl)
  (hh:∀h,ai H h→ai H' h:=by exact Eh):G n [] F (bodyPost P fn (λe w'=>∃v H',e= .returned v∧R v H'∧St F H' w') .ret) σ H:=
 .mk λa w e s=>⟨e.defers, .tuple #[v,x,x'],by
  have h1:a.tmps.getD t undef=v:=by simp[e.slot t v hv]
  have h2:a.tmps.getD u undef=x:=by simp[e.slot u x hx]
  have h3:a.tmps.getD u' undef=x':=by simp[e.slot u' x' hx']
  simp only[results,hr]
  simp at h1 h2 h3
  simp[h1,h2,h3],_,H',rfl,hR,s.sub hh⟩
end
end Go.cV
namespace Go.cV
open Go
def NoQ:Exit→Act→World→Prop:=λ_ _ _=>False
def qM (P:Program)(ops:Array Oper)(o:Oper)(K:Act→World→Prop)(a:Act)(w:World):Prop:=
 if Region.wanted o (yielded ops a.tmps)=true then o.wp P a w K NoQ else K (a.put o.dst undef) w
def qL (P:Program)(ops:Array Oper)(S:World→Prop)(Q:Act→World→Prop):List (Nat×Bool×Oper)→Act→World→Prop
 | [],a,w=>Q a w
 |(_,true,o)::r,a,w=>∃v,YieldsIf P ops S o v a∧qL P ops S Q r (a.put o.dst v) w
 |(_,false,o)::r,a,w=>qM P ops o (λa' w'=>S w'∧qL P ops S Q r a' w') a w
def CF (o:Oper):Bool:=match o.op with| .load _ _=>true|_=>false
def indep (ops:Array Oper)(x y:Nat×Bool×Oper):Bool:=x.2.2.apart ops y.2.2&&(x.2.1||y.2.1||(CF x.2.2&&CF y.2.2))
inductive Still {α:Type}:Sem α→Prop
 |pure (a:α):Still (.pure a)
 |load (m:Mode) (a:Addr) (k:Value→Sem α) (h:∀v,Still (k v)):Still (.load m a k)
 |program (k:Program→Sem α) (h:∀p,Still (k p)):Still (.program k)
 |halt (x:Halt):Still (.halt x)
theorem Still.bind{α β:Type}{s:Sem α}{f:α→Sem β}(h:Still s)(hf:∀a,Still (f a)):Still (s.bind f):=by
 induction h with
 |pure a=>exact hf a
 |load m a k _ ih=>exact .load m a _ ih
 |program k _ ih=>exact .program _ ih
 |halt x=>exact .halt x
theorem Still.run{α:Type}{s:Sem α}(h:Still s)(P:Program)(w:World){r:α}{w':World}(e:s.run P w= .ok r w'):w'=w:=by
 induction h with
 |pure a=>simp only[Sem.run]at e;cases e;rfl
 |load m a k _ ih=>
  simp only[Sem.run]at e
  split at e
  ·exact ih _ e
  split at e
  ·exact ih _ e
  cases e
 |program k _ ih=>simp only[Sem.run]at e;exact ih _ e
 |halt x=>simp only[Sem.run]at e;cases e
theorem DV{ρ:Operand→Value}{o:Oper}(h:CF o=true):Still (execOp ρ o):=by
 unfold CF at h
 split at h
 ·rename_i t x ho
  have cells:∀(n:Nat) (a:Addr) (i:Nat) (acc:Array Value),Still (loadCellsFrom a i n acc):=by
   intro n
   induction n with
   |zero=>intro a i acc;exact .pure _
   |succ n ih=>intro a i acc;exact .load _ _ _ λv=>ih _ _ _
  have und:∀t,Still (underlying t):=λt=>by
   unfold underlying
   exact .program _ λp=>by simp only[Sem.bind];split<;>first|exact .pure _|exact .halt _
  have tin:∀t,Still (typeInfo t):=λt=>by
   unfold typeInfo
   exact .program _ λp=>by simp only[Sem.bind];split<;>first|exact .pure _|exact .halt _
  have hvar:∀a,Still (loadVar t a):=by
   intro a
   unfold loadVar
   refine Still.bind ?_ λb=> ?_
   ·unfold isAgg
    exact(und t).bind λd=>by split<;>exact .pure _
   split
   ·refine Still.bind ?_ λk=>(Still.bind (cells _ _ _ _) λc=> .pure _)
    unfold sizeOf
    exact(tin t).bind λ_=> .pure _
   exact .load _ _ _ λv=> .pure _
  unfold execOp
  rw[ho]
  refine Still.bind ?_ λv=> .pure _
  unfold Instr.loadAt
  refine Still.bind ?_ λa=>hvar a
  unfold Instr.sureAddr
  split
  ·exact .pure _
  exact .halt _
 cases h
theorem XS{P:Program}{ρ:Operand→Value}{o:Oper}(h:CF o=true){w w':World}{n:Next}(e:(execOp ρ o).run P w= .ok n w'):w'=w∧∃v,n= .value v:=by
 refine⟨(DV h).run P w e, ?_⟩
 unfold CF at h
 split at h
 ·rename_i t x ho
  unfold execOp at e
  rw[ho]at e
  simp only[Sem.run_bind]at e
  cases hr:(Instr.loadAt t (ρ x)).run P w with
  |ok v w1=>rw[hr]at e;simp only[Result.andThen_ok,Sem.run_pure]at e;cases e;exact⟨v,rfl⟩
  |halt x w1=>rw[hr]at e;cases e
 cases h
section
variable {P:Program} {ops:Array Oper} {S:World→Prop} {Q:Act→World→Prop}
theorem LB:¬LetsOut NoQ:=λ⟨_,_,h⟩=>h
theorem WK{o:Oper}{u v:Value}{a:Act}{w:World}(hS:S w)(h1:YieldsIf P ops S o u a)(h2:YieldsIf P ops S o v a):v=u:=by
 rcases h1 with⟨w1,e1⟩|⟨w1,rfl⟩<;>rcases h2 with⟨w2,e2⟩|⟨w2,rfl⟩
 ·have:=(e1 w hS).symm.trans (e2 w hS);cases this;rfl
 ·rw[w1]at w2;cases w2
 ·rw[w1]at w2;cases w2
 rfl
theorem uU{o:Oper}{K K':Act→World→Prop}(f:∀a w,K a w→K' a w){a:Act}{w:World}(h:qM P ops o K a w):qM P ops o K' a w:=by
 unfold qM at*
 split
 ·rename_i hw;rw[if_pos hw]at h;exact Oper.wp_mono f h
 rename_i hw;rw[if_neg hw]at h;exact f _ _ h
theorem DK{x k:Oper}(Kk:k.apart ops x=true)(hsx:∀cs b,x.op≠ .select cs b)(JS:∀cs b,k.op≠ .select cs b){K K2:Act→World→Prop}{a:Act}{w:World}(hS:S w)
  (hK:∀a' w',K a' w'→∃v,YieldsIf P ops S x v a'∧K2 (a'.put x.dst v) w') (h:qM P ops k K a w):∃v,YieldsIf P ops S x v a∧qM P ops k K2 (a.put x.dst v) w:=by
 obtain⟨h1,h2,h3⟩:=Oper.apart_spec Kk
 have back:∀(u v:Value),YieldsIf P ops S x v (a.put k.dst u)→YieldsIf P ops S x v a:=λu v hy=>
  hy.of_same (execOp_put x hsx a k.dst u h1).symm (wanted_put x a k.dst u h1).symm
 unfold qM at h
 split at h
 ·rename_i hw
  have key:∃v,YieldsIf P ops S x v a:=by
   unfold Oper.wp at h
   generalize (execOp a.eval k).run P w=r at h
   cases r with
   |ok n w'=>
    cases n<;>simp only[Oper.upon]at h
    case value u=>obtain⟨v,hv,_⟩:=hK _ _ h;exact⟨v,back u v hv⟩
    case skip=>obtain⟨v,hv,_⟩:=hK _ _ h;exact⟨v,back _ v hv⟩
    case defer d=>
     obtain⟨v,hv,_⟩:=hK _ _ h
     exact⟨v,(back undef v (hv.of_same (a':=a.put k.dst undef) (by cases k.dst<;>rfl) (by cases k.dst<;>rfl)))⟩
    case enter f args=>
     obtain⟨e,w2,fr,he,_⟩:=h []
     cases e with
     |returned u=>obtain⟨v,hv,_⟩:=hK _ _ he;exact⟨v,back u v hv⟩
     |panicked c=>exact he.elim
     |outgrown=>exact(LB he).elim
    case row row args=>
     obtain⟨u,w2,he,_⟩:=h default []
     obtain⟨v,hv,_⟩:=hK _ _ he;exact⟨v,back u v hv⟩
   |halt y w'=>cases y<;>simp only[Oper.upon]at h<;>exact h.elim
  obtain⟨v,hv⟩:=key
  refine⟨v,hv, ?_⟩
  have same:∀(u v':Value),YieldsIf P ops S x v' (a.put k.dst u)→v'=v:=λu v' hy=>WK hS hv (back u v' hy)
  unfold qM
  rw[wanted_put k a x.dst v (λd hd=>h3 d hd),if_pos hw]
  unfold Oper.wp at*
  rw[execOp_put k JS a x.dst v (λd hd=>h3 d hd)]
  have zG:∀u:Value,(a.put k.dst u).put x.dst v=(a.put x.dst v).put k.dst u:=λu=>Act.put_comm a u v h2
  generalize (execOp a.eval k).run P w=r at*
  cases r with
  |ok n w'=>
   cases n<;>simp only[Oper.upon]at h⊢
   case value u=>obtain⟨v',Ka,hk⟩:=hK _ _ h;rw[←zG,←same u v' Ka];exact hk
   case skip=>obtain⟨v',Ka,hk⟩:=hK _ _ h;rw[←zG,←same _ v' Ka];exact hk
   case defer d=>
    obtain⟨v',Ka,hk⟩:=hK _ _ h
    have hv2:YieldsIf P ops S x v' (a.put k.dst undef):=Ka.of_same (by cases k.dst<;>rfl) (by cases k.dst<;>rfl)
    rw[same _ v' hv2]at hk
    have e1:({a with defers:=d::a.defers}:Act).put x.dst v=({a.put x.dst v with defers:=d::(a.put x.dst v).defers}:Act):=(Act.put_defers a x.dst v d).symm
    rw[Act.put_comm _ undef v h2,e1]at hk
    exact hk
   case enter f args=>
    refine Calls.mono h λe w'' he=> ?_
    cases e with
    |returned u=>obtain⟨v',Ka,hk⟩:=hK _ _ he;show K2 _ _;rw[←zG,←same u v' Ka];exact hk
    |panicked c=>exact he
    |outgrown=>exact he
   case row row args=>exact Rows.mono h λu w'' he=>by obtain⟨v',Ka,hk⟩:=hK _ _ he;rw[←zG,←same u v' Ka];exact hk
  |halt y w'=>cases y<;>simp only[Oper.upon]at h⊢<;>exact h
 rename_i hw
 obtain⟨v,hv,hk⟩:=hK _ _ h
 refine⟨v,back _ v hv, ?_⟩
 unfold qM
 rw[wanted_put k a x.dst v (λd hd=>h3 d hd),if_neg hw,←Act.put_comm a undef v h2]
 exact hk
theorem DL{x k:Oper}(Kk:k.apart ops x=true)(hsx:∀cs b,x.op≠ .select cs b)(JS:∀cs b,k.op≠ .select cs b){K:Act→World→Prop}{a:Act}{w:World}{u:Value}(hy:YieldsIf P ops S k u a)
  (h:qM P ops x K (a.put k.dst u) w):qM P ops x (λa' w'=>YieldsIf P ops S k u a'∧K (a'.put k.dst u) w') a w:=by
 obtain⟨h1,h2,h3⟩:=Oper.apart_spec Kk
 have wD:∀z:Value,YieldsIf P ops S k u (a.put x.dst z):=λz=>hy.of_same (execOp_put k JS a x.dst z h3) (wanted_put k a x.dst z h3)
 unfold qM at*
 rw[wanted_put x a k.dst u h1]at h
 split
 ·rename_i hw
  rw[if_pos hw]at h
  unfold Oper.wp at*
  rw[execOp_put x hsx a k.dst u h1]at h
  have zG:∀z:Value,(a.put k.dst u).put x.dst z=(a.put x.dst z).put k.dst u:=λz=>Act.put_comm a u z h2
  generalize (execOp a.eval x).run P w=r at*
  cases r with
  |ok n w'=>
   cases n<;>simp only[Oper.upon]at h⊢
   case value z=>exact⟨wD z,by rw[←zG];exact h⟩
   case skip=>exact⟨wD _,by rw[←zG];exact h⟩
   case defer d=>
    refine⟨(wD undef).of_same (by cases x.dst<;>rfl) (by cases x.dst<;>rfl), ?_⟩
    rw[←Act.put_comm _ u undef h2,←Act.put_defers]
    exact h
   case enter f args=>
    refine Calls.mono h λe w'' he=> ?_
    cases e with
    |returned z=>exact⟨wD z,by rw[←zG];exact he⟩
    |panicked c=>exact he
    |outgrown=>exact he
   case row row args=>exact Rows.mono h λz w'' he=>⟨wD z,by rw[←zG];exact he⟩
  |halt y w'=>cases y<;>simp only[Oper.upon]at h⊢<;>exact h
 rename_i hw
 rw[if_neg hw,Act.put_comm a u undef h2]at h
 exact⟨wD _,h⟩
def xf (l:List (Nat×Bool×Oper)):Prop:=∀x∈l,∀cs b,x.2.2.op≠ .select cs b
theorem mvR{i:Nat}{o:Oper}{post:List (Nat×Bool×Oper)}:∀(pre:List (Nat×Bool×Oper)) (a:Act) (w:World),(∀k∈pre,indep ops k (i,true,o)=true)→xf pre→(∀cs b,o.op≠ .select cs b)→S w→
  qL P ops S Q (pre++(i,true,o)::post) a w→∃v,YieldsIf P ops S o v a∧qL P ops S Q (pre++post) (a.put o.dst v) w:=by
 intro pre
 induction pre with
 |nil=>intro a w _ _ _ _ h;exact h
 |cons k pre ih=>
  obtain⟨j,fl,ok⟩:=k
  intro a w hi hs QT hS h
  have hk:=hi _ (List.mem_cons_self ..)
  simp only[indep,Bool.and_eq_true]at hk
  have Kk:=hk.1
  obtain⟨h1,h2,h3⟩:=Oper.apart_spec Kk
  have JS:=hs _ (List.mem_cons_self ..)
  have wx:∀k∈pre,indep ops k (i,true,o)=true:=λk hk=>hi k (List.mem_cons_of_mem _ hk)
  have VU:xf pre:=λk hk=>hs k (List.mem_cons_of_mem _ hk)
  cases fl with
  |true=>
   simp only[List.cons_append,qL]at h⊢
   obtain⟨u,hu,h⟩:=h
   obtain⟨v,hv,h⟩:=ih _ _ wx VU QT hS h
   refine⟨v,hv.of_same (execOp_put o QT a ok.dst u h1).symm (wanted_put o a ok.dst u h1).symm,u,hu.of_same (execOp_put ok JS a o.dst v h3) (wanted_put ok a o.dst v h3), ?_⟩
   rw[←Act.put_comm a u v h2];exact h
  |false=>
   simp only[List.cons_append,qL]at h⊢
   exact DK Kk QT JS hS (λa' w' hh=>by
    obtain⟨v,hv,h⟩:=ih _ _ wx VU QT hh.1 hh.2
    exact⟨v,hv,hh.1,h⟩) h
theorem mvW{i:Nat}{o:Oper}{post:List (Nat×Bool×Oper)}:∀(pre:List (Nat×Bool×Oper)) (a:Act) (w:World),(∀k∈pre,indep ops k (i,false,o)=true)→xf pre→(∀cs b,o.op≠ .select cs b)→S w→
  qL P ops S Q (pre++(i,false,o)::post) a w→qM P ops o (λa' w'=>S w'∧qL P ops S Q (pre++post) a' w') a w:=by
 intro pre
 induction pre with
 |nil=>intro a w _ _ _ _ h;exact h
 |cons k pre ih=>
  obtain⟨j,fl,ok⟩:=k
  intro a w hi hs QT hS h
  have hk:=hi _ (List.mem_cons_self ..)
  simp only[indep,Bool.and_eq_true]at hk
  have Kk:=hk.1
  obtain⟨h1,h2,h3⟩:=Oper.apart_spec Kk
  have JS:=hs _ (List.mem_cons_self ..)
  have wx:∀k∈pre,indep ops k (i,false,o)=true:=λk hk=>hi k (List.mem_cons_of_mem _ hk)
  have VU:xf pre:=λk hk=>hs k (List.mem_cons_of_mem _ hk)
  cases fl with
  |true=>
   simp only[List.cons_append,qL]at h⊢
   obtain⟨u,hu,h⟩:=h
   have h:=ih _ _ wx VU QT hS h
   exact uU (λa' w' hh=>⟨hh.2.1,u,hh.1,hh.2.2⟩) (DL Kk QT JS hu h)
  |false=>
   have hl:=hk.2
   simp only[Bool.or_self,Bool.false_or,Bool.and_eq_true]at hl
   simp only[List.cons_append,qL]at h⊢
   have look:∀{y:Oper} {a:Act} {w:World} {K:Act→World→Prop},CF y=true→(qM P ops y K a w↔((Region.wanted y (yielded ops a.tmps)=true∧∃v,(execOp a.eval y).run P w= .ok (.value v) w∧K (a.put y.dst v) w)∨(Region.wanted y (yielded ops a.tmps)=false∧K (a.put y.dst undef) w))):=by
    intro y a w K hy
    unfold qM
    cases hw:Region.wanted y (yielded ops a.tmps)with
    |false=>simp
    |true=>
     simp only[if_true,true_and,Bool.true_eq_false,false_and,or_false]
     unfold Oper.wp
     cases hr:(execOp a.eval y).run P w with
     |ok n w'=>
      obtain⟨rfl,v,rfl⟩:=XS hy hr
      simp only[Oper.upon_value]
      exact⟨λh=>⟨v,rfl,h⟩,λ⟨v',e,h⟩=>by cases e;exact h⟩
     |halt z w'=>
      cases z<;>simp[Oper.upon,NoQ]
   rw[look hl.1]at h
   rw[look hl.2]
   have fin:∀u:Value,S w∧qL P ops S Q (pre++(i,false,o)::post) (a.put ok.dst u) w→(∀z,qM P ops ok (λa' w'=>S w'∧qL P ops S Q (pre++post) a' w') (a.put o.dst z) w↔qM P ops ok (λa' w'=>S w'∧qL P ops S Q (pre++post) a' w') (a.put o.dst z) w)→
     ((Region.wanted o (yielded ops a.tmps)=true∧∃z,(execOp a.eval o).run P w= .ok (.value z) w∧(S w∧qL P ops S Q (pre++post) ((a.put ok.dst u).put o.dst z) w))∨(Region.wanted o (yielded ops a.tmps)=false∧(S w∧qL P ops S Q (pre++post) ((a.put ok.dst u).put o.dst undef) w))):=by
    intro u hh _
    have h':=ih _ _ wx VU QT hh.1 hh.2
    rw[look hl.2,execOp_put o QT a ok.dst u h1,wanted_put o a ok.dst u h1]at h'
    exact h'
   have put:∀(z:Value),(∀u,qL P ops S Q (pre++post) ((a.put ok.dst u).put o.dst z) w→qL P ops S Q (pre++post) ((a.put o.dst z).put ok.dst u) w):=λz u hh=>by rw[←Act.put_comm a u z h2];exact hh
   rcases h with⟨hw,u,hu,hh⟩|⟨hw,hh⟩
   ·rcases fin u hh (λ_=>Iff.rfl)with⟨hwo,z,hz,hS',h'⟩|⟨hwo,hS',h'⟩
    ·refine .inl ⟨hwo,z,hz,hS, ?_⟩
     rw[look hl.1,execOp_put ok JS a o.dst z h3,wanted_put ok a o.dst z h3]
     exact .inl ⟨hw,u,hu,hS,put _ _ h'⟩
    refine .inr ⟨hwo,hS, ?_⟩
    rw[look hl.1,execOp_put ok JS a o.dst undef h3,wanted_put ok a o.dst undef h3]
    exact .inl ⟨hw,u,hu,hS,put _ _ h'⟩
   rcases fin undef hh (λ_=>Iff.rfl)with⟨hwo,z,hz,hS',h'⟩|⟨hwo,hS',h'⟩
   ·refine .inl ⟨hwo,z,hz,hS, ?_⟩
    rw[look hl.1,execOp_put ok JS a o.dst z h3,wanted_put ok a o.dst z h3]
    exact .inr ⟨hw,hS,put _ _ h'⟩
   refine .inr ⟨hwo,hS, ?_⟩
   rw[look hl.1,execOp_put ok JS a o.dst undef h3,wanted_put ok a o.dst undef h3]
   exact .inr ⟨hw,hS,put _ _ h'⟩
inductive zK (ops:Array Oper):Nat→Nat→Prop
 |one {i:Nat} {o:Oper} {e:Edge} (ho:ops[i]?=some o) (he:e∈o.after) (hb:Region.binds .any e=true):zK ops e.on i
 |more {i k:Nat} {o:Oper} {e:Edge} (ho:ops[i]?=some o) (he:e∈o.after) (hb:Region.binds .any e=true) (h:zK ops k e.on):zK ops k i
def msk (acc:List Nat)(o:Oper):Nat:=o.after.toList.foldl (λs e=>if Region.binds .any e=true then s|||2^e.on|||acc.getD e.on 0 else s) 0
def ES:List Oper→List Nat→List Nat
 | [],acc=>acc
 |o::r,acc=>ES r (acc++ [msk acc o])
theorem Oj{i:Nat}{o:Oper}(ho:ops[i]?=some o){acc:List Nat}(Rq:∀j k,(acc.getD j 0).testBit k=true→zK ops k j)(k:Nat)(h:(msk acc o).testBit k=true):zK ops k i:=by
 have key:∀(l:List Edge) (s:Nat),(∀e∈l,e∈o.after)→(∀k,s.testBit k=true→zK ops k i)→∀k,(l.foldl (λs e=>if Region.binds .any e=true then s|||2^e.on|||acc.getD e.on 0 else s) s).testBit k=true→zK ops k i:=by
  intro l
  induction l with
  |nil=>intro s _ hs k hk;exact hs k hk
  |cons e l ih=>
   intro s hl hs k hk
   rw[List.foldl_cons]at hk
   refine ih _ (λe' h'=>hl e' (List.mem_cons_of_mem _ h')) (λk' VY=> ?_) k hk
   split at VY
   ·rename_i hb
    rw[Nat.testBit_or,Nat.testBit_or]at VY
    simp only[Bool.or_eq_true]at VY
    rcases VY with(h1|h1)|h1
    ·exact hs _ h1
    ·rw[Nat.testBit_two_pow]at h1
     simp only[decide_eq_true_eq]at h1
     subst h1
     exact .one ho (hl e (List.mem_cons_self ..)) hb
    exact .more ho (hl e (List.mem_cons_self ..)) hb (Rq _ _ h1)
   exact hs _ VY
 exact key o.after.toList 0 (λe he=>by simpa using he) (λk hk=>by simp at hk) k h
theorem Ef:∀(l:List Oper) (acc:List Nat),(∀j o,l[j]?=some o→ops[acc.length+j]?=some o)→(∀j k,(acc.getD j 0).testBit k=true→zK ops k j)→∀j k,((ES l acc).getD j 0).testBit k=true→zK ops k j:=by
 intro l
 induction l with
 |nil=>intro acc _ h;exact h
 |cons o l ih=>
  intro acc hl Rq
  refine ih _ (λj o' hj=> ?_) (λj k QD=> ?_)
  ·have:=hl (j+1) o' (by simpa using hj)
   rw[List.length_append,List.length_singleton,show acc.length+1+j=acc.length+(j+1)from by omega];exact this
  rcases Nat.lt_trichotomy j acc.length with cB|heq|hgt
  ·refine Rq j k ?_
   simpa[List.getD_eq_getElem?_getD,List.getElem?_append_left cB]using QD
  ·subst heq
   refine Oj (by simpa using hl 0 o rfl) Rq k ?_
   simpa[List.getD_eq_getElem?_getD]using QD
  have hz:(acc++ [msk acc o])[j]?=none:=List.getElem?_eq_none (by simp;omega)
  rw[List.getD_eq_getElem?_getD,hz]at QD;simp at QD
def Z6 (ops:Array Oper)(m:List Nat):List (Nat×Bool×Oper)→Bool
 | []=>true
 |x::r=>r.all (λy=>(m.getD y.1 0).testBit x.1||indep ops x y)&&Z6 ops m r
theorem AM{m:List Nat}(hm:∀j k,(m.getD j 0).testBit k=true→zK ops k j):∀l,Z6 ops m l=true→l.Pairwise λx y=>zK ops x.1 y.1∨indep ops x y=true:=by
 intro l
 induction l with
 |nil=>intro _;exact .nil
 |cons x r ih=>
  intro h
  simp only[Z6,Bool.and_eq_true,List.all_eq_true,Bool.or_eq_true]at h
  exact .cons (λy hy=>(h.1 y hy).imp (hm _ _) id) (ih h.2)
structure Rx (ops:Array Oper)(listed:Array Bool)(rem:List (Nat×Bool×Oper)):Prop where
 at_:∀x∈rem,ops[x.1]?=some x.2.2
 un:∀x∈rem,listed.getD x.1 true=false
 all:∀j,j<ops.size→listed.getD j true=false→∃x∈rem,x.1=j
 once:(rem.map (·.1)).Nodup
 size:listed.size=ops.size
 shut:∀j o e,ops[j]?=some o→listed.getD j false=true→e∈o.after→Region.binds .any e=true→listed.getD e.on false=true
theorem ED{listed:Array Bool}(shut:∀j o e,ops[j]?=some o→listed.getD j false=true→e∈o.after→Region.binds .any e=true→listed.getD e.on false=true){k i:Nat}(h:zK ops k i)
  (hi:∀o,ops[i]?=some o→∀e∈o.after,Region.binds .any e=true→listed.getD e.on false=true):listed.getD k false=true:=by
 induction h with
 |one ho he hb=>exact hi _ ho _ he hb
 |more ho he hb _ ih=>
  have h1:=hi _ ho _ he hb
  exact ih λo' ho' e' Kh hb'=>shut _ _ _ ho' h1 Kh hb'
theorem mF{listed:Array Bool}{j:Nat}(h1:listed.getD j true=false)(h2:listed.getD j false=true):False:=by
 by_cases h:j<listed.size
 ·simp[h]at h1 h2;rw[h1]at h2;cases h2
 simp[Array.getElem?_eq_none (Nat.le_of_not_lt h)]at h2
theorem Nk{Q:Exit→Act→World→Prop}{i:Nat}{o:Oper}(hi:ops[i]?=some o){K:Act→World→Prop}{a:Act}{w:World}(h:qM P ops o K a w):wpOp P ops Q i K a w:=by
 unfold qM at h
 unfold wpOp
 simp only[hi]
 split
 ·rename_i hw
  rw[if_pos hw]at h
  refine .inl ?_
  unfold Oper.wp at*
  generalize (execOp a.eval o).run P w=r at*
  cases r with
  |ok n w'=>
   cases n<;>simp only[Oper.upon]at h⊢
   case value u=>exact h
   case skip=>exact h
   case defer d=>exact h
   case enter f args=>
    refine Calls.mono h λe w'' he=> ?_
    cases e with
    |returned z=>exact he
    |panicked c=>exact he.elim
    |outgrown=>exact(LB he).elim
   case row row args=>exact h
  |halt y w'=>cases y<;>simp only[Oper.upon]at h⊢<;>exact h.elim
 rename_i hw
 rw[if_neg hw]at h;exact h
theorem YieldsIf.qM{o:Oper}{v:Value}{a:Act}{w:World}{K:Act→World→Prop}(hy:YieldsIf P ops S o v a)(hS:S w)(h:K (a.put o.dst v) w):qM P ops o K a w:=by
 unfold cV.qM
 rcases hy with⟨hw,hv⟩|⟨hw,rfl⟩
 ·rw[if_pos hw];simp only[Oper.wp,hv w hS,Oper.upon];exact h
 rw[if_neg (by simp[hw])];exact h
theorem xg{WA:Nat→Array Bool→Act→World→Prop}{C:Act→World→Prop}{l2:List (Nat×Bool×Oper)}{fuel0:Nat}(dG:Region.noSelect ops=true)(si:∀j o e,ops[j]?=some o→e∈o.after→Region.binds .any e=true→e.on<j)
  (EU:∀fuel listed a w,(∃i,i∈Region.ready .any ops listed)→(∀i∈Region.ready .any ops listed,∃o,ops[i]?=some o∧qM P ops o (WA fuel (listed.setIfInBounds i true)) a w)→WA (fuel+1) listed a w)
  (hC:∀listed,Rx ops listed l2→∀a w,C a w→WA fuel0 listed a w):
  ∀(n:Nat) (rem:List (Nat×Bool×Oper)) (listed:Array Bool) (a:Act) (w:World),rem.length=n→Rx ops listed (rem++l2)→rem.Pairwise (λx y=>zK ops x.1 y.1∨indep ops x y=true)→(∀x∈rem,∀y∈l2,zK ops x.1 y.1)→S w→
   qL P ops S C rem a w→WA (n+fuel0) listed a w:=by
 intro n
 induction n with
 |zero=>
  intro rem listed a w hn hI _ _ _ h
  have:rem= []:=List.eq_nil_of_length_eq_zero hn
  subst this
  simpa using hC listed (by simpa using hI) a w h
 |succ n ih=>
  intro rem listed a w hn hI hP B8 hS h
  rw[show n+1+fuel0=(n+fuel0)+1 from by omega]
  have xz:∀{i k:Nat},i∈Region.ready .any ops listed→zK ops k i→listed.getD k false=true:=by
   intro i k hi hk
   obtain⟨_,o,ho,pZ⟩:=mem_ready.1 hi
   exact ED hI.shut hk λo' ho' e he hb=>by rw[ho]at ho';cases ho';exact pZ e he hb
  refine EU _ _ _ _ ?_ (λi hi=> ?_)
  ·
   cases hr0:Region.ready .any ops listed with
   |cons i r=>exact⟨i,by simp⟩
   |nil=>
   exfalso
   have hr:=hr0
   have ie:∃m,∃x∈rem++l2,x.1=m:=by
    cases rem with
    |nil=>simp at hn
    |cons x r=>exact⟨x.1,x,by simp,rfl⟩
   obtain⟨m0,ZS⟩:=ie
   have least:∀m,(∃x∈rem++l2,x.1=m)→False:=by
    intro m
    induction m using Nat.strongRecOn with
    |_ m ihm=>
     rintro⟨x,hx,rfl⟩
     have hrd:x.1∈Region.ready .any ops listed:=by
      refine mem_ready.2 ⟨hI.un x hx,x.2.2,hI.at_ x hx,λe he hb=> ?_⟩
      have cB:=si _ _ _ (hI.at_ x hx) he hb
      have ZK:x.1<ops.size:=(Array.getElem?_eq_some_iff.1 (hI.at_ x hx)).1
      cases hq:listed.getD e.on false with
      |true=>rfl
      |false=>
       exfalso
       have hl:listed.getD e.on true=false:=by
        have:e.on<listed.size:=by rw[hI.size];omega
        simp[this]at hq⊢;exact hq
       obtain⟨y,hy,hy1⟩:=hI.all e.on (by omega) hl
       exact ihm e.on cB ⟨y,hy,hy1⟩
     rw[hr]at hrd;cases hrd
   exact least m0 ZS
  ·obtain⟨ZM,o,ho,pZ⟩:=mem_ready.1 hi
   obtain⟨x,hx,Qz⟩:=hI.all i (Array.getElem?_eq_some_iff.1 ho).1 ZM
   have hxr:x∈rem:=by
    rcases List.mem_append.1 hx with q|q
    ·exact q
    exfalso
    cases rem with
    |nil=>simp at hn
    |cons y r=>
     have hA:=B8 y (List.mem_cons_self ..) x q
     rw[Qz]at hA
     exact mF (hI.un y (by simp)) (xz hi hA)
   obtain⟨pre,post,rfl⟩:=List.append_of_mem hxr
   have hox:x.2.2=o:=by have:=hI.at_ x hx;rw[Qz,ho]at this;cases this;rfl
   have aa7:∀k∈pre,indep ops k x=true:=by
    intro k hk
    have hkx:=(List.pairwise_append.1 hP).2.2 k hk x (List.mem_cons_self ..)
    rcases hkx with q|q
    ·exfalso
     rw[Qz]at q
     exact mF (hI.un k (by simp[hk])) (xz hi q)
    exact q
   have hns:xf (pre++x::post++l2):=λy hy cs b=>Region.noSelect_spec dG y.1 y.2.2 cs b (hI.at_ y hy)
   have hnp:xf pre:=λy hy=>hns y (by simp[hy])
   have ZK:=hns x hx
   have hI':Rx ops (listed.setIfInBounds i true) ((pre++post)++l2):=by
    have wT:i∉((pre++post)++l2).map (·.1):=by
     have h0:=hI.once
     simp only[List.map_append,List.map_cons,List.append_assoc,List.cons_append]at h0
     rw[List.nodup_append]at h0
     obtain⟨h1,h2,h3⟩:=h0
     rw[List.nodup_cons]at h2
     simp only[List.map_append,List.append_assoc,List.mem_append,not_or]
     rw[Qz]at h2
     simp only[List.mem_append,not_or]at h2
     refine⟨λhm=>h3 i hm i (by simp[Qz]) rfl,h2.1.1,h2.1.2⟩
    have sub:∀y∈(pre++post)++l2,y∈pre++x::post++l2:=λy hy=>by
     simp only[List.mem_append,List.mem_cons]at hy⊢;grind
    have ie:∀y∈(pre++post)++l2,i≠y.1:=λy hy e=>wT (List.mem_map.2 ⟨y,hy,e.symm⟩)
    have his:i<listed.size:=by rw[hI.size];exact(Array.getElem?_eq_some_iff.1 ho).1
    refine⟨λy hy=>hI.at_ y (sub y hy),λy hy=>by rw[getD_set_ne true (ie y hy)];exact hI.un y (sub y hy),λj hj hl=> ?_, ?_,by simp[hI.size],λj o' e ho' hl he hb=> ?_⟩
    ·by_cases Ux:i=j
     ·subst Ux;simp[his]at hl
     rw[getD_set_ne true Ux]at hl
     obtain⟨y,hy,hy1⟩:=hI.all j hj hl
     refine⟨y, ?_,hy1⟩
     simp only[List.mem_append,List.mem_cons]at hy⊢
     rcases hy with(hy|rfl|hy)|hy
     ·exact .inl (.inl hy)
     ·exact absurd (Qz.symm.trans hy1) Ux
     ·exact .inl (.inr hy)
     exact .inr hy
    ·have h0:=hI.once
     refine List.Nodup.sublist ?_ h0
     refine List.Sublist.map _ (List.Sublist.append_right ?_ _)
     exact List.Sublist.append_left (List.sublist_cons_self ..) _
    by_cases Ux:i=j
    ·subst Ux;rw[ho]at ho';cases ho'
     exact getD_set_true (pZ e he hb)
    rw[getD_set_ne false Ux]at hl
    exact getD_set_true (hI.shut j o' e ho' hl he hb)
   have hlen:(pre++post).length=n:=by simp at hn⊢;omega
   have hP':(pre++post).Pairwise λx y=>zK ops x.1 y.1∨indep ops x y=true:=hP.sublist (List.Sublist.append_left (List.sublist_cons_self ..) _)
   have aba:∀y∈pre++post,∀z∈l2,zK ops y.1 z.1:=λy hy z hz=>B8 y (by simp only[List.mem_append,List.mem_cons]at hy⊢;grind) z hz
   obtain⟨xi,fl,xo⟩:=x
   simp only at Qz hox
   subst Qz;subst hox
   cases fl with
   |true=>
    obtain⟨v,hv,h'⟩:=mvR pre a w aa7 hnp ZK hS h
    exact⟨xo,ho,YieldsIf.qM hv hS (ih _ _ _ _ hlen hI' hP' aba hS h')⟩
   |false=>exact⟨xo,ho,uU (λa' w' hh=>ih _ _ _ _ hlen hI' hP' aba hh.1 hh.2) (mvW pre a w aa7 hnp ZK hS h)⟩
def qN (fl:List Bool)(ops:Array Oper):List (Nat×Bool×Oper):=(List.range' 0 ops.toList.length).zip (fl.zip ops.toList)
def zW (k:Nat)(fl:List Bool)(ops:Array Oper):Bool:=
 let m:=ES ops.toList []
 let l:=qN fl ops
 fl.length==ops.toList.length&&Region.noSelect ops&&l.all (λx=>x.2.2.after.toList.all λe=> !Region.binds .any e||Nat.blt e.on x.1)&&
  Z6 ops m (l.take k)&&Z6 ops m (l.drop k)&&(l.take k).all λx=>(l.drop k).all λy=>(m.getD y.1 0).testBit x.1
theorem Ld{fl:List Bool}(h:fl.length=ops.toList.length){x:Nat×Bool×Oper}(hx:x∈qN fl ops):ops[x.1]?=some x.2.2:=by
 obtain⟨j,hj⟩:=List.getElem?_of_mem hx
 unfold qN at hj
 rw[List.getElem?_zip_eq_some]at hj
 obtain⟨h1,h2⟩:=hj
 rw[List.getElem?_zip_eq_some]at h2
 have:x.1=j:=by
  rw[List.getElem?_range']at h1
  ·simp at h1;omega
  have:=(List.getElem?_eq_some_iff.1 h1).1;simpa using this
 rw[this,←Array.getElem?_toList];exact h2.2
theorem th{fl:List Bool}(h:fl.length=ops.toList.length):(qN fl ops).map (·.1)=List.range' 0 ops.toList.length:=by
 unfold qN
 exact List.map_fst_zip (by simp[h])
theorem RC{WA:Nat→Array Bool→Act→World→Prop}{C2:Act→World→Prop}{S1 S2:World→Prop}{k:Nat}{fl:List Bool}
  (EU:∀fuel listed a w,(∃i,i∈Region.ready .any ops listed)→(∀i∈Region.ready .any ops listed,∃o,ops[i]?=some o∧qM P ops o (WA fuel (listed.setIfInBounds i true)) a w)→WA (fuel+1) listed a w)
  (Wg:∀listed a w,Region.ready .any ops listed= []→C2 a w→WA 0 listed a w) (ok:zW k fl ops=true) {a:Act} {w:World}
  (h:qL P ops S1 (λa w=>S2 w∧qL P ops S2 C2 ((qN fl ops).drop k) a w) ((qN fl ops).take k) a w) (Wi:S1 w):WA ops.size (Array.replicate ops.size false) a w:=by
 simp only[zW,Bool.and_eq_true,beq_iff_eq,List.all_eq_true,Bool.or_eq_true,Bool.not_eq_true']at ok
 obtain⟨⟨⟨⟨⟨h1,h2⟩,h3⟩,h4⟩,h5⟩,h6⟩:=ok
 have tY:∀j k,((ES ops.toList []).getD j 0).testBit k=true→zK ops k j:=Ef _ _ (λj o hj=>by simpa using hj) (λj k QD=>by simp at QD)
 have si:∀j o e,ops[j]?=some o→e∈o.after→Region.binds .any e=true→e.on<j:=by
  intro j o e ho he hb
  have hj:j<ops.toList.length:=by simpa using(Array.getElem?_eq_some_iff.1 ho).1
  have hx:(j,fl[j]'(by omega),o)∈qN fl ops:=by
   refine List.mem_of_getElem? (i:=j) ?_
   unfold qN
   rw[List.getElem?_zip_eq_some]
   refine⟨by rw[List.getElem?_range' hj];simp, ?_⟩
   rw[List.getElem?_zip_eq_some]
   exact⟨List.getElem?_eq_getElem (by omega),by rw[Array.getElem?_toList];exact ho⟩
  rcases h3 _ hx e (by simpa using he)with q|q
  ·rw[hb]at q;cases q
  exact Nat.le_of_ble_eq_true q
 have hI:Rx ops (Array.replicate ops.size false) ((qN fl ops).take k++(qN fl ops).drop k):=by
  rw[List.take_append_drop]
  refine⟨λx hx=>Ld h1 hx,λx hx=> ?_,λj hj _=> ?_, ?_,by simp,λj o e ho hl=> ?_⟩
  ·have:=(Array.getElem?_eq_some_iff.1 (Ld h1 hx)).1
   simp[this]
  ·have:j∈(qN fl ops).map (·.1):=by rw[th h1];simp;omega
   obtain⟨x,hx,Qz⟩:=List.mem_map.1 this
   exact⟨x,hx,Qz⟩
  ·rw[th h1];exact List.nodup_range' ..
  exfalso
  have:=(Array.getElem?_eq_some_iff.1 ho).1
  simp[this]at hl
 have hlen:((qN fl ops).take k).length+((qN fl ops).drop k).length=ops.size:=by
  have:=congrArg List.length (List.take_append_drop k (qN fl ops))
  rw[List.length_append]at this
  rw[this]
  have:=congrArg List.length (th h1)
  simpa using this
 have:=xg (P:=P) (S:=S1) (WA:=WA) (l2:=(qN fl ops).drop k) (fuel0:=((qN fl ops).drop k).length) h2 si EU (λlisted hL a w hh=> ?_) _ ((qN fl ops).take k) (Array.replicate ops.size false) a _ rfl hI (AM tY _ h4) (λx hx y hy=>tY _ _ (h6 x hx y hy)) Wi h
 ·rwa[hlen]at this
 have:=xg (P:=P) (S:=S2) (WA:=WA) (C:=C2) (l2:= []) (fuel0:=0) h2 si EU (λlisted hL a w hh=> ?_) _ ((qN fl ops).drop k) listed a w rfl (by simpa using hL) (AM tY _ h5) (λx _ y hy=>by cases hy) hh.1 hh.2
 ·simpa using this
 refine Wg _ _ _ ?_ hh
 cases hr:Region.ready .any ops listed with
 |nil=>rfl
 |cons i r=>
  exfalso
  have hi:i∈Region.ready .any ops listed:=by rw[hr];exact List.mem_cons_self ..
  obtain⟨ZM,o,ho,_⟩:=mem_ready.1 hi
  obtain⟨x,hx,_⟩:=hL.all i (Array.getElem?_eq_some_iff.1 ho).1 ZM
  cases hx
theorem Qj{Q:Exit→Act→World→Prop}(fuel:Nat)(listed:Array Bool)(a:Act)(w:World)(ie:∃i,i∈Region.ready .any ops listed)(h:∀i∈Region.ready .any ops listed,∃o,ops[i]?=some o∧qM P ops o (wpAny P .any ops Q fuel (listed.setIfInBounds i true)) a w):
  wpAny P .any ops Q (fuel+1) listed a w:=by
 refine⟨λhr=> ?_,λi hi=> ?_⟩
 ·obtain⟨i,hi⟩:=ie;rw[hr]at hi;cases hi
 obtain⟨o,ho,hh⟩:=h i hi;exact Nk ho hh
theorem vK{Q:Exit→Act→World→Prop}{S1 S2:World→Prop}{id k:Nat}{fl:List Bool}(hm:P.follows .mixedOrders=true)(ok:zW k fl ops=true){a:Act}{w:World}
  (h:qL P ops S1 (λa w=>S2 w∧qL P ops S2 (Q .normal) ((qN fl ops).drop k) a w) ((qN fl ops).take k) a {w with drawn:=w.drawn+1}) (Wi:S1 {w with drawn:=w.drawn+1}):(Code.region id ops true).wp P Q a w:=
 wp_region_any hm (RC (WA:=wpAny P .any ops Q) Qj (λlisted a w hr hq=>⟨hr,hq⟩) ok h Wi)
end
def TT (P:Program)(ops:Array Oper)(F:dy)(C:Act→World→Prop)(l:List (Nat×Bool×Oper)):Act→World→Prop:=λa w=>cL F w∧qL P ops (cL F) C l a w
section
variable {P:Program} {n:Nat} {ds:List Deferred} {F:dy} {Q:Exit→Act→World→Prop} {K:Act→World→Prop} {σ:aR} {H:List aa} {o:Oper} {d i:Nat} {ops:Array Oper} {C:Act→World→Prop} {rest:List (Nat×Bool×Oper)}
theorem ack{id:Nat}(fl:List Bool)(hm:P.follows .mixedOrders=true)(h:G n ds F (TT P ops F (Q .normal) (qN fl ops)) σ H)(ok:zW ops.size fl ops=true:=by kernel_rfl):G n ds F ((Code.region id ops true).wp P Q) σ H:=by
 have hk:(qN fl ops).length≤ops.size:=by
  have h1:fl.length=ops.toList.length:=by simp only[zW,Bool.and_eq_true,beq_iff_eq]at ok;exact ok.1.1.1.1.1
  have:=congrArg List.length (th (ops:=ops) h1)
  simp at this;omega
 refine .mk λa w e s=>vK (k:=ops.size) (fl:=fl) (S1:=cL F) (S2:=cL F) hm ok ?_ s.frame
 rw[List.take_of_length_le hk,List.drop_of_length_le hk]
 have h2:∀(l:List (Nat×Bool×Oper)) (a:Act) (w:World),cL F w→qL P ops (cL F) (Q .normal) l a w→qL P ops (cL F) (λa w=>cL F w∧qL P ops (cL F) (Q .normal) [] a w) l a w:=by
  intro l
  induction l with
  |nil=>intro a w hS hh;exact⟨hS,hh⟩
  |cons x l ih=>
   obtain⟨j,fl,ox⟩:=x
   intro a w hS hh
   cases fl with
   |true=>obtain⟨v,hv,hh⟩:=hh;exact⟨v,hv,ih _ _ hS hh⟩
   |false=>exact uU (λa' w' hq=>⟨hq.1,ih _ _ hq.1 hq.2⟩) hh
 exact h2 _ _ _ s.frame (h a _ e (s.drawn _)).2
theorem X9{id:Nat}{As R:List aa}(k:Nat)(fl:List Bool)(hm:P.follows .mixedOrders=true)(dG:iI H As R)
  (h:∀F':dy,Le F.h F'.h→gw As F'.h→CO F As F'→G n ds F' (TT P ops F' (TT P ops F (Q .normal) ((qN fl ops).drop k)) ((qN fl ops).take k)) σ R) (ok:zW k fl ops=true:=by kernel_rfl):G n ds F ((Code.region id ops true).wp P Q) σ H:=by
 refine .mk λa w e s=> ?_
 obtain⟨a1,a2,a3,fr,hh,st,hl,tZ⟩:=s
 obtain⟨h1,h2,d12,l1,l2,s1,s2⟩:=bx (dG.out _ st)
 have Q5:bO h1 F.h:=tZ.left l1
 let F':dy:={F with h:=fZ h1 F.h}
 have hb:CO F As F':=by
  intro R' w' s'
  obtain⟨b1,b2,b3,uc,Cr,Cf,Cq,hd'⟩:=s'
  exact⟨b1,b2,b3,(aU Q5).trans uc,fZ h1 Cr,bG s1 Cf (hd'.right (a8 _ _)).symm,bS ((a8 _ _).trans uc) Cq,bO.fZ Q5 (hd'.right (aU Q5))⟩
 have s':St F' R {w with drawn:=w.drawn+1}:=⟨a1,⟨a2.1,Nat.le_succ_of_le a2.2⟩,a3,bS (l1.trans hl) fr,h2,s2,l2.trans hl,(bO.fZ d12 (tZ.left l2).symm).symm⟩
 refine vK (k:=k) (fl:=fl) (S1:=cL F') (S2:=cL F) hm ok ?_ s'.frame
 exact(h F' (aU Q5) (bV s1 (a8 _ _)) hb a _ e s').2
theorem Ti{v:Value}(hy:Yv P n ds F σ o v)(h:G n ds F (TT P ops F C rest) ((d,v)::σ) H)(hg:QZ ops o σ=true:=by exact rfl)(hd:o.dst=some d:=by exact rfl)(hdn:Nat.blt d n=true:=by exact rfl):G n ds F (TT P ops F C ((i,true,o)::rest)) σ H:=
 .mk λa w e s=>⟨s.frame,v, .inl ⟨jW hg e,λw hw=>hy a w e hw⟩,by rw[hd];exact(h _ w (e.put hdn v) s).2⟩
theorem Tp (h:G n ds F (λa w=>o.wp P a w (TT P ops F C rest) NoQ) σ H)(hg:QZ ops o σ=true:=by exact rfl):G n ds F (TT P ops F C ((i,false,o)::rest)) σ H:=
 .mk λa w e s=>⟨s.frame,by unfold qL qM;rw[if_pos (jW hg e)];exact h a w e s⟩
theorem Tx{b:Bool}(h:G n ds F (TT P ops F C rest) ((d,undef)::σ) H)(hg:gno ops o σ=true:=by exact rfl)(hd:o.dst=some d:=by exact rfl)(hdn:Nat.blt d n=true:=by exact rfl):G n ds F (TT P ops F C ((i,b,o)::rest)) σ H:=
 .mk λa w e s=>by
  refine⟨s.frame, ?_⟩
  have h':=(h _ w (e.put hdn undef) s)
  cases b with
  |true=>exact⟨undef, .inr ⟨pF hg e,rfl⟩,by rw[hd];exact h'.2⟩
  |false=>unfold qL qM;rw[if_neg (by simp[pF hg e]),hd];exact h'
theorem Tn (h:G n ds F C σ H):G n ds F (TT P ops F C []) σ H:= .mk λa w e s=>⟨s.frame,h a w e s⟩
theorem gO{F':dy}{As:List aa}(hb:CO F As F')(h:G n ds F C σ (As++H)):G n ds F' (TT P ops F' C []) σ H:= .mk λa w e s=>⟨s.frame,h a w e (hb _ _ s)⟩
theorem Tne{K:Act→World→Prop}(h:G n ds F K σ H):G n ds F (TT P ops F (Exit.then K Q .normal) []) σ H:=Tn h
def aFl (P:Program)(ld:Bool)(ops:Array Oper):List Bool:=ops.toList.map λo=>match o.op with
 | .load _ _=>ld
 | .move _| .assign _| .pick _ _ _| .nilCheck _| .binOp _ _ _ _ _| .unOp _ _ _| .fieldAddr _ _ _| .field _ _ _| .indexAddr _ _ _| .index _ _ _| .extract _ _| .slice _ _ _ _ _| .build _ _| .makeFunc _ _ _| .makeInterface _ _| .typeAssert _ _ _ _=>true
 | .convert s t _=>match P.underlying t with
  |some (.slice _)=>false
  |_=>match P.underlying s with
   |some (.slice _)=>ld
   |_=>true
 | .call c=>match c.callee with
  | .builtin .len=>true
  | .builtin .cap=>true
  | .builtin .min=>true
  | .builtin .max=>true
  |_=>false
 |_=>false
theorem gT{id:Nat}(ld:Bool)(hm:P.follows .mixedOrders=true)(h:G n ds F (TT P ops F (Q .normal) (qN (aFl P ld ops) ops)) σ H)(ok:zW ops.size (aFl P ld ops) ops=true:=by kernel_rfl):G n ds F ((Code.region id ops true).wp P Q) σ H:=ack _ hm h ok
theorem ik{id:Nat}{As R:List aa}(k:Nat)(hm:P.follows .mixedOrders=true)(dG:iI H As R)
  (h:∀F':dy,Le F.h F'.h→gw As F'.h→CO F As F'→G n ds F' (TT P ops F' (TT P ops F (Q .normal) ((qN (aFl P true ops) ops).drop k)) ((qN (aFl P true ops) ops).take k)) σ R) (ok:zW k (aFl P true ops) ops=true:=by kernel_rfl):G n ds F ((Code.region id ops true).wp P Q) σ H:=X9 k _ hm dG h ok
end
end Go.cV
namespace Go.cV
open Go
variable {P:Program} {n:Nat} {ds:List Deferred} {F:dy} {Q:Exit→Act→World→Prop} {K:Act→World→Prop} {σ:aR} {H:List aa} {o:Oper} {d:Nat}
theorem Bda{t e:TypeId}{sz k:Nat}{zs vs cs:List Value}{parts:List (Nat×Operand)}(hz:bP P t=some zs)(ht:zS P t=some (k,e,sz))(ho:o.op= .build t parts.toArray:=by exact rfl)(hv:jj σ (parts.map (·.2))=some vs:=by exact rfl)
  (hc:mD (λi=>some (i*sz,sz)) zs ((parts.map (·.1)).zip vs)=some cs:=by exact rfl):Yv P n ds F σ o (.agg cs.toArray):=
 λac w en fr=>by
  have hp:=rT en hv
  obtain⟨zv,hzr,EE⟩:=nB hz (w:=w)
  unfold zS at ht
  cases hu:P.underlying t with
  |none=>simp[hu]at ht
  |some dsc=>
   cases dsc<;>simp[hu]at ht
   rename_i k' e'
   cases hi:P.info? e' with
   |none=>simp[hi]at ht
   |some inf=>
    simp[hi]at ht
    obtain⟨rfl,rfl,rfl⟩:=ht
    have jG:=fill_eq _ _ _ _ hc
    rw[←hp]at jG
    simp[execOp,ho,Instr.build,hzr,run_underlying hu,sizeOf,typeInfo,hi,EE,jG]
end Go.cV
namespace Go.cV
open Go Go.MapKept
section
variable {P:Program} {n:Nat} {ds:List Deferred} {F:dy} {Q:Exit→Act→World→Prop} {K:Act→World→Prop} {σ:aR} {H:List aa} {o:Oper} {d:Nat}
theorem Mf{fn:Fn}{fs cs:List Operand}{fv cv:List Value}(ho:o.op= .makeFunc fn fs.toArray cs.toArray:=by exact rfl)(hf:jj σ fs=some fv:=by exact rfl)(hc:jj σ cs=some cv:=by exact rfl):Yv P n ds F σ o (.func fn fv.toArray cv.toArray):=
 λa w e _=>by
  have h1:=e.uD hf
  have h2:=e.uD hc
  simp[execOp,ho,Instr.makeFunc,←h1,←h2]
theorem HB{ρ:Operand→Value}{f:FuncId}{xs:List Operand}{vs fv cv:List Value}{qW:Array TypeId}{w:World}{fn:Func}{x:Operand}(ho:o.op= .call {callee:= .value x,args:=xs.toArray,argTypes:=qW})
  (hρ:ρ x= .func (.func f) fv.toArray cv.toArray) (hv:xs.map ρ=vs) (hf:P.funcs[f]?=some fn) (hb:fn.body.isSome=true) (hnm:(fn.name== "runtime.NumGoroutine")=false):
  (execOp ρ o).run P w= .ok (.enter f (fv++vs++cv).toArray) w:=by
 have ace:fn.body.isNone=false:=by rw[←Option.not_isSome,hb];rfl
 have Wb:¬fn.name= "runtime.NumGoroutine" :=by simpa using hnm
 have hb':¬fn.body=none:=by intro q;rw[q]at hb;cases hb
 simp[execOp,ho,resolve,hρ,Deferred.ofValue,invoke,callFunc,hf,←hv]
 rw[if_neg Wb,if_neg hb']
theorem Oa{f:FuncId}{xs:List Operand}{vs fv cv:List Value}{qW:Array TypeId}{pre:Hp→Prop}{As R:List aa}{T:Value→List aa→Prop}{x:Operand}(j5:av P f=true)(ho:o.op= .call {callee:= .value x,args:=xs.toArray,argTypes:=qW})
  (hd:o.dst=some d) (hx:bh σ x=some (.func (.func f) fv.toArray cv.toArray)) (hv:jj σ xs=some vs) (hc:aF P f (fv++vs++cv) pre As T) (dG:iI H As R) (ic:∀h,Le F.h h→gw R h→pre h) (hdn:Nat.blt d n=true)
  (h:∀v H',T v H'→G n ds F K ((d,v)::σ) (H'++R)):G n ds F (λa w=>o.wp P a w K Q) σ H:=by
 refine .mk λa w en s=> ?_
 unfold av at j5
 cases hf:P.funcs[f]? with
 |none=>simp[hf]at j5
 |some fn=>
  simp only[hf,Bool.and_eq_true,Bool.not_eq_true']at j5
  unfold Oper.wp
  rw[HB ho (en.eval hx) (en.uD hv) hf j5.1 j5.2,Oper.upon_enter]
  obtain⟨a1,a2,a3,fr,hh,st,hl,tZ⟩:=s
  obtain⟨h1,h2,d12,l1,l2,s1,s2⟩:=bx (dG.out _ st)
  have wV:bO h2 F.h:=tZ.left l2
  let F':dy:={F with h:=fZ h2 F.h}
  have iH:Le F.h F'.h:=aU wV
  have iq:Le h2 F'.h:=a8 _ _
  have Cf:St F' As w:=⟨a1,a2,a3,bS (l2.trans hl) fr,h1,s1,l1.trans hl,(bO.fZ d12.symm (tZ.left l1).symm).symm⟩
  refine(hc F' w (ic _ iH (bV s2 iq)) Cf).mono ?_
  rintro e w' ⟨v,H',rfl,hT,sw⟩
  obtain⟨b1,b2,b3,uc,Cr,st2,Cq,kW⟩:=sw
  rw[hd]
  refine h v H' hT _ _ (en.put hdn v) ⟨b1,b2,b3,iH.trans uc,fZ Cr h2,bG st2 s2 (kW.right iq),bS Cq (iq.trans uc),bO.fZ (kW.right iH) wV⟩
theorem oCV{f:FuncId}{xs:List Operand}{vs fv cv:List Value}{qW:Array TypeId}{pre:Hp→Prop}{A2 R:List aa}{T:Value→List aa→Prop}{x:Operand}(j5:av P f=true)(ho:o.op= .call {callee:= .value x,args:=xs.toArray,argTypes:=qW})
  (hx:bh σ x=some (.func (.func f) fv.toArray cv.toArray)) (hv:jj σ xs=some vs) (hc:aF P f (fv++vs++cv) pre A2 T) (dG:iI H A2 R) (ic:∀h,Le F.h h→gw R h→pre h)
  (h:∀v H',T v H'→G n ds F K ((d,v)::σ) (H'++R)) (hd:o.dst=some d:=by exact rfl) (hdn:Nat.blt d n=true:=by exact rfl):G n ds F (λa w=>o.wp P a w K Q) σ H:=
 Oa j5 ho hd hx hv hc dG ic hdn h
def qk (P:Program)(t:TypeId):Bool:=match P.underlying t with|some (.interface _)=>false|some _=>true|none=>false
theorem qG{t:TypeId}(h:qk P t=true):∃dd,P.underlying t=some dd∧∀ms,dd≠ .interface ms:=by
 unfold qk at h
 cases hu:P.underlying t with
 |none=>simp[hu]at h
 |some dd=>exact⟨dd,rfl,λms q=>by subst q;simp[hu]at h⟩
theorem QN{t:TypeId}{x:Operand}{v:Value}(ht:qk P t=true)(ho:o.op= .makeInterface t x:=by exact rfl)(hx:bh σ x=some v:=by exact rfl):Yv P n ds F σ o (.iface t v):=λa w e _=>by
 obtain⟨dd,hu,ie⟩:=qG ht
 have:(Instr.makeInterface t v).run P w= .ok (.iface t v) w:=by
  cases dd<;>simp_all[Instr.makeInterface,run_underlying hu]
 simp[execOp,ho,e.eval hx,this]
def isIface (P:Program)(t:TypeId):Bool:=match P.underlying t with|some (.interface _)=>true|_=>false
theorem qI{t:TypeId}(h:isIface P t=true):∃ms,P.underlying t=some (.interface ms):=by
 unfold isIface at h
 cases hu:P.underlying t with
 |none=>simp[hu]at h
 |some dd=>cases dd<;>simp[hu]at h;exact⟨_,rfl⟩
theorem R8{t tv:TypeId}{v:Value}(ht:isIface P t=true)(w:World):(Op.equalIn 10000 t (.iface tv v) .nilIface).run P w= .ok false w:=by
 obtain⟨ms,hu⟩:=qI ht
 unfold Op.equalIn
 simp[run_underlying hu]
theorem R7{t:TypeId}(ht:isIface P t=true)(w:World):(Op.equalIn 10000 t .nilIface .nilIface).run P w= .ok true w:=by
 obtain⟨ms,hu⟩:=qI ht
 unfold Op.equalIn
 simp[run_underlying hu]
theorem Iq{op:BinOp}{t yt tv:TypeId}{x:Operand}{v:Value}{b:Bool}(ht:isIface P t=true)(ho:o.op= .binOp op t x (.const .nilIface) yt:=by exact rfl)(hx:bh σ x=some (.iface tv v):=by exact rfl)
  (hop:(op= .eql∧b=false)∨(op= .neq∧b=true):=by first|exact .inl ⟨rfl,rfl⟩|exact .inr ⟨rfl,rfl⟩):Yv P n ds F σ o (.bool b):=λa w e _=>by
 have hc:a.eval (.const .nilIface)= .nilIface:=rfl
 have q:=R8 (P:=P) (tv:=tv) (v:=v) ht w
 rcases hop with⟨rfl,rfl⟩|⟨rfl,rfl⟩<;>simp[execOp,ho,e.eval hx,hc,eqGuard,binOp,Op.equal,Op.maxDepth,q]
theorem Iqn{op:BinOp}{t yt:TypeId}{x:Operand}{b:Bool}(ht:isIface P t=true)(ho:o.op= .binOp op t x (.const .nilIface) yt:=by exact rfl)(hx:bh σ x=some .nilIface:=by exact rfl)
  (hop:(op= .eql∧b=true)∨(op= .neq∧b=false):=by first|exact .inl ⟨rfl,rfl⟩|exact .inr ⟨rfl,rfl⟩):Yv P n ds F σ o (.bool b):=λa w e _=>by
 have hc:a.eval (.const .nilIface)= .nilIface:=rfl
 have q:=R7 (P:=P) ht w
 rcases hop with⟨rfl,rfl⟩|⟨rfl,rfl⟩<;>simp[execOp,ho,e.eval hx,hc,eqGuard,binOp,Op.equal,Op.maxDepth,q]
theorem TaT{xt t:TypeId}{x:Operand}{v:Value}(ht:qk P t=true)(ho:o.op= .typeAssert x xt t true:=by exact rfl)(hx:bh σ x=some (.iface t v):=by exact rfl):Yv P n ds F σ o (.tuple #[v, .bool true]):=λa w e _=>by
 obtain⟨dd,hu,ie⟩:=qG ht
 have:(Instr.typeAssert (.iface t v) xt t true).run P w= .ok (.tuple #[v, .bool true]) w:=by
  cases dd<;>simp_all[Instr.typeAssert,run_underlying hu]
 simp[execOp,ho,e.eval hx,this]
end
inductive mq (dd:TypeDesc) (b:Nat) (es:List (Value×Value)) (h:Hp):Prop
 |mk (du:Array MapEntry) (mw:Nat) (he:du.toList.map (λe=>(e.key,e.val))=es) (hk:∀x∈du.toList,IsKey dd x.key) (hs:Stamped du mw) (hb:h b=some (.map du mw))
noncomputable def qQ (es:List (Value×Value))(k:Value):Option Value:=by
 classical exact(es.find? λe=>decide (e.1=k)).map (·.2)
noncomputable def Ce (es:List (Value×Value))(k v:Value):List (Value×Value):=by
 classical exact if(∃e∈es,e.1=k)then es.map (λe=>if e.1=k then(k,v)else e)else es++ [(k,v)]
noncomputable def EI (es:List (Value×Value))(k:Value):List (Value×Value):=by
 classical exact es.filter λe=>decide (e.1≠k)
theorem Ol{dd:TypeDesc}{b:Nat}{es:List (Value×Value)}{h:Hp}(p:mq dd b es h):(es.map (·.1)).Nodup:=by
 obtain⟨du,mw,he,_,hs,_⟩:=p
 rw[←he]
 simpa[Function.comp_def]using hs.2.2
theorem zh{dd:TypeDesc}{k:Value}(hk:IsKey dd k){du:Array MapEntry}(Kg:∀x∈du.toList,IsKey dd x.key):
  (Instr.findNow dd k du.toList 0=some none∧∀e∈du.toList.map (λe=>(e.key,e.val)),e.1≠k)∨∃j e,Instr.findNow dd k du.toList 0=some (some (j,e.val))∧du[j]?=some e∧e.key=k:=by
 rcases findNow_spec hk du.toList 0 Kg with⟨h1,h2⟩|⟨j,e,h1,h2,h3⟩
 ·refine .inl ⟨h1,λe he=> ?_⟩
  obtain⟨x,hx,rfl⟩:=List.mem_map.1 he
  exact h2 x hx
 exact .inr ⟨j,e,by simpa using h1,by simpa using h2,h3⟩
theorem AV{es:List (Value×Value)}{k:Value}(h:∀e∈es,e.1≠k):qQ es k=none:=by
 simp only[qQ,Option.map_eq_none_iff,List.find?_eq_none]
 intro e he;simpa using h e he
theorem Ov{es:List (Value×Value)}{k v:Value}(hn:(es.map (·.1)).Nodup)(h:(k,v)∈es):qQ es k=some v:=by
 induction es with
 |nil=>cases h
 |cons e es ih=>
  simp only[List.map_cons,List.nodup_cons]at hn
  rcases List.mem_cons.1 h with rfl|h
  ·simp[qQ]
  have ie:e.1≠k:=λq=>hn.1 (List.mem_map.2 ⟨(k,v),h,q.symm⟩)
  have:=ih hn.2 h
  simp only[qQ]at this⊢
  rw[List.find?_cons_of_neg (by simpa using ie)]
  exact this
theorem Od{α:Type}{l:List α}(hn:l.Nodup){i j:Nat}{x:α}(hi:l[i]?=some x)(hj:l[j]?=some x):i=j:=by
 obtain⟨h1,e1⟩:=List.getElem?_eq_some_iff.1 hi
 obtain⟨h2,e2⟩:=List.getElem?_eq_some_iff.1 hj
 have hp:=List.pairwise_iff_getElem.1 hn
 rcases Nat.lt_trichotomy i j with q|q|q
 ·exact absurd (e1.trans e2.symm) (hp i j h1 h2 q)
 ·exact q
 exact absurd (e2.trans e1.symm) (hp j i h2 h1 q)
theorem qK{dd:TypeDesc}{k:Value}(h:Qy dd k=true)(m:Nat):Instr.sameBits m k k=true:=by
 cases dd<;>cases k<;>simp[Qy]at h<;>simp[Instr.sameBits]
 exact(bytes_beq _ _).2 rfl
section
variable {P:Program} {n:Nat} {ds:List Deferred} {F:dy} {Q:Exit→Act→World→Prop} {K:Act→World→Prop} {σ:aR} {H:List aa} {o:Oper} {d:Nat}
theorem oQm{t:TypeId}(dd:TypeDesc)(h:∀b,G n ds F K ((d, .map (some b))::σ) (mq dd b []::H))(ho:o.op= .makeMap t none:=by exact rfl)(hd:o.dst=some d:=by exact rfl)(hdn:Nat.blt d n=true:=by exact rfl):G n ds F (λa w=>o.wp P a w K Q) σ H:=by
 refine .mk λa w en s=> ?_
 unfold Oper.wp
 have:(execOp a.eval o).run P w= .ok (.value (.map (some w.heap.size))) (w.alloc (.map #[] 0)):=by
  have h0:(Instr.makeMap t none).run P w= .ok (.map (some w.heap.size)) (w.alloc (.map #[] 0)):=rfl
  simp[execOp,ho,h0]
 rw[this,Oper.upon_value,hd]
 exact h _ _ _ (en.put hdn _) (s.aaZ _ _ (.mk #[] 0 rfl (by simp) (stamped_empty 0) (by simp)))
theorem Fb{es:List (Value×Value)}{k v:Value}(h:∃e∈es,e.1=k):Ce es k v=es.map (λe=>by classical exact if e.1=k then(k,v)else e):=by
 unfold Ce;rw[if_pos h]
theorem Fc{es:List (Value×Value)}{k v:Value}(h:∀e∈es,e.1≠k):Ce es k v=es++ [(k,v)]:=by
 unfold Ce;rw[if_neg (by rintro⟨e,he,q⟩;exact h e he q)]
theorem BJ{α:Type}(l:Array α)(i:Nat)(f:α→α):(l.modify i f).toList=l.toList.modify i f:=Array.toList_modify
theorem oQi{t k e:TypeId}{dd:TypeDesc}{z:Value}{m x y:Operand}{b:Nat}{es:List (Value×Value)}{kv v:Value}{f:aa→List aa}(ht:wC P t=some (k,dd,e,z))(h:G n ds F K σ (f (mq dd b (Ce es kv v))))(ho:o.op= .mapUpdate t m x y∨o.op= .insert t m x y:=by first|exact .inl rfl|exact .inr rfl)(hd:o.dst=none:=by exact rfl)
  (hm:bh σ m=some (.map (some b)):=by exact rfl) (hx:bh σ x=some kv:=by exact rfl) (hy:bh σ y=some v:=by exact rfl) (hk:Qy dd kv=true:=by exact rfl) (hu:Pos H (mq dd b es) f:=by repeat (first|exact Pos.here|apply Pos.there)):
  G n ds F (λa w=>o.wp P a w K Q) σ H:=by
 classical
 refine .mk λa w en s=> ?_
 obtain⟨QA,zN,_,_,_⟩:=nQ ht
 obtain⟨R,s1,s2⟩:=hu.sM
 have sR:=s.sM s1
 obtain⟨hh,⟨du,mw,he,Kg,iU,hb⟩,hl⟩:=sR.get
 have hw:w.heap[b]?=some (.map du mw):=hl _ _ hb
 unfold Oper.wp
 rcases zh (gW hk) Kg with⟨Cj,oN⟩|⟨j,Kl,Cj,hj,mQ⟩
 ·have:(execOp a.eval o).run P w= .ok .skip {w with heap:=w.heap.setIfInBounds b (.map (du.push {key:=kv,val:=v,born:=mw}) (mw+1))}:=by
   have hup:(Instr.mapUpdate t (.map (some b)) kv v).run P w= .ok () {w with heap:=w.heap.setIfInBounds b (.map (du.push {key:=kv,val:=v,born:=mw}) (mw+1))}:=by
    simp[Instr.mapUpdate,run_underlying QA,MapKept.run_getObj_map hw,MapKept.run_checkKey zN (gW hk),MapKept.run_findKey zN Cj,MapKept.run_setObj_map _ hw,Result.andThen]
   rcases ho with ho|ho<;>simp[execOp,ho,en.eval hm,en.eval hx,en.eval hy,hup,Result.andThen]
  rw[this,Oper.upon_skip,hd]
  rw[he]at oN
  refine h _ _ en (St.om (s2 _) (sR.Rf (λh' p=>by obtain⟨_,_,_,_,_,q⟩:=p;exact⟨_,q⟩) (.mk (du.push {key:=kv,val:=v,born:=mw}) (mw+1) (by rw[Fc oN];simp[he]) (λq hq=> ?_) (stamped_push iU λq hq e=> ?_) (by simp))))
  ·simp only[Array.toList_push,List.mem_append,List.mem_singleton]at hq
   rcases hq with hq|rfl
   ·exact Kg q hq
   exact gW hk
  exact oN (q.key,q.val) (by rw[←he];exact List.mem_map.2 ⟨q,hq,rfl⟩) e
 have hold:du.toList[j]?=some Kl:=by simpa using hj
 have Rk:(execOp a.eval o).run P w= .ok .skip {w with heap:=w.heap.setIfInBounds b (.map (du.modify j λe=>{e with key:=kv,val:=v}) mw)}:=by
  have hup:(Instr.mapUpdate t (.map (some b)) kv v).run P w= .ok () {w with heap:=w.heap.setIfInBounds b (.map (du.modify j λe=>{e with key:=kv,val:=v}) mw)}:=by
   simp[Instr.mapUpdate,run_underlying QA,MapKept.run_getObj_map hw,MapKept.run_checkKey zN (gW hk),MapKept.run_findKey zN Cj,hj,mQ,Instr.keyThatStays,qK hk,MapKept.run_setObj_map _ hw,Result.andThen]
  rcases ho with ho|ho<;>simp[execOp,ho,en.eval hm,en.eval hx,en.eval hy,hup,Result.andThen]
 rw[Rk,Oper.upon_skip,hd]
 have sT:(kv,Kl.val)∈es:=by rw[←he,←mQ];exact List.mem_map.2 ⟨Kl,List.mem_of_getElem? hold,rfl⟩
 have KK:(du.modify j λe=>{e with key:=kv,val:=v}).toList.map (λe=>(e.key,e.val))=Ce es kv v:=by
  rw[Fb ⟨_,sT,rfl⟩,←he,BJ]
  apply List.ext_getElem?
  intro i
  simp only[List.getElem?_map,List.getElem?_modify]
  by_cases Uy:j=i
  ·subst Uy
   simp[hold,mQ]
  cases hi:du.toList[i]? with
  |none=>simp
  |some e'=>
   have ie:e'.key≠kv:=by
    intro q
    have hn:=iU.2.2
    exact Uy (Od hn (x:=kv) (by simp[hold,mQ]) (by simp[hi,q]))
   simp[ie,Uy]
 refine h _ _ en (St.om (s2 _) (sR.Rf (λh' p=>by obtain⟨_,_,_,_,_,q⟩:=p;exact⟨_,q⟩) (.mk _ mw KK (isKey_modify Kg j _ (λe Kh=>by rw[hj]at Kh;cases Kh;exact mQ.symm)) (stamped_modify iU j _ (λ_ _=>rfl) (λe _ Kh=>by rw[hj]at Kh;cases Kh;exact mQ.symm)) (by simp))))
theorem xx{t k e:TypeId}{dd:TypeDesc}{z:Value}{b:Nat}{es:List (Value×Value)}{kv:Value}{h:Hp}{w:World}(ht:wC P t=some (k,dd,e,z))(hk:Qy dd kv=true)(p:mq dd b es h)(hl:Le h (jv w))(c:Bool):
  (Instr.lookup t (.map (some b)) kv c).run P w= .ok (if c then .tuple #[(qQ es kv).getD z, .bool (qQ es kv).isSome]else(qQ es kv).getD z) w:=by
 obtain⟨QA,zN,i,hi,hz⟩:=nQ ht
 have wT:=Ol p
 obtain⟨du,mw,he,Kg,iU,hb⟩:=p
 have hw:w.heap[b]?=some (.map du mw):=hl _ _ hb
 rcases zh (gW hk) Kg with⟨Cj,oN⟩|⟨j,Kl,Cj,hj,mQ⟩
 ·rw[he]at oN
  rw[AV oN]
  simp[Instr.lookup,run_underlying QA,MapKept.run_getObj_map hw,MapKept.run_checkKey zN (gW hk),MapKept.run_findKey zN Cj,zeroValue,typeInfo,hi,hz,Result.andThen]
 have sT:(kv,Kl.val)∈es:=by rw[←he,←mQ];exact List.mem_map.2 ⟨Kl,List.mem_of_getElem? (by simpa using hj),rfl⟩
 rw[Ov wT sT]
 simp[Instr.lookup,run_underlying QA,MapKept.run_getObj_map hw,MapKept.run_checkKey zN (gW hk),MapKept.run_findKey zN Cj,Result.andThen]
theorem oQl{t k e:TypeId}{dd:TypeDesc}{z:Value}{m x:Operand}{b:Nat}{es:List (Value×Value)}{kv:Value}{R:List aa}(ht:wC P t=some (k,dd,e,z))(h:G n ds F K ((d,(qQ es kv).getD z)::σ) H)(ho:o.op= .lookup t m x false:=by exact rfl)(hd:o.dst=some d:=by exact rfl)
  (hm:bh σ m=some (.map (some b)):=by exact rfl) (hx:bh σ x=some kv:=by exact rfl) (hk:Qy dd kv=true:=by exact rfl) (hs:eX H (mq dd b es) R:=by repeat (first|exact eX.here|apply eX.there)) (hdn:Nat.blt d n=true:=by exact rfl):G n ds F (λa w=>o.wp P a w K Q) σ H:=
 o6 hd hdn (λa w en s=>by
  obtain⟨hh,p,hl⟩:=(s.sM hs).get
  simp[execOp,ho,en.eval hm,en.eval hx,xx ht hk p hl]) h
theorem aaW{t k e:TypeId}{dd:TypeDesc}{z:Value}{m x:Operand}{b:Nat}{es:List (Value×Value)}{kv:Value}{R:List aa}(ht:wC P t=some (k,dd,e,z))(h:G n ds F K ((d, .tuple #[(qQ es kv).getD z, .bool (qQ es kv).isSome])::σ) H)(ho:o.op= .lookup t m x true:=by exact rfl)(hd:o.dst=some d:=by exact rfl)
  (hm:bh σ m=some (.map (some b)):=by exact rfl) (hx:bh σ x=some kv:=by exact rfl) (hk:Qy dd kv=true:=by exact rfl) (hs:eX H (mq dd b es) R:=by repeat (first|exact eX.here|apply eX.there)) (hdn:Nat.blt d n=true:=by exact rfl):G n ds F (λa w=>o.wp P a w K Q) σ H:=
 o6 hd hdn (λa w en s=>by
  obtain⟨hh,p,hl⟩:=(s.sM hs).get
  simp[execOp,ho,en.eval hm,en.eval hx,xx ht hk p hl]) h
theorem oQd{t k e:TypeId}{dd:TypeDesc}{z:Value}{m x:Operand}{b:Nat}{es:List (Value×Value)}{kv:Value}{f:aa→List aa}{t2:TypeId}(ht:wC P t=some (k,dd,e,z))(h:G n ds F K σ (f (mq dd b (EI es kv))))(ho:o.op= .call {callee:= .builtin .delete,args:= #[m,x],argTypes:= #[t,t2]}:=by exact rfl)(hd:o.dst=none:=by exact rfl)
  (hm:bh σ m=some (.map (some b)):=by exact rfl) (hx:bh σ x=some kv:=by exact rfl) (hk:Qy dd kv=true:=by exact rfl) (hu:Pos H (mq dd b es) f:=by repeat (first|exact Pos.here|apply Pos.there)):G n ds F (λa w=>o.wp P a w K Q) σ H:=by
 classical
 refine .mk λa w en s=> ?_
 obtain⟨QA,zN,_,_,_⟩:=nQ ht
 obtain⟨R,s1,s2⟩:=hu.sM
 have sR:=s.sM s1
 obtain⟨hh,⟨du,mw,he,Kg,iU,hb⟩,hl⟩:=sR.get
 have hw:w.heap[b]?=some (.map du mw):=hl _ _ hb
 have same:{w with heap:=w.heap.setIfInBounds b (.map du mw)}=w:=by
  have cB:=(Array.getElem?_eq_some_iff.1 hw).1
  have:w.heap.setIfInBounds b (.map du mw)=w.heap:=by
   apply Array.ext_getElem?
   intro i
   rw[Array.getElem?_setIfInBounds]
   split
   ·rename_i q;subst q;rw[hw]
   rfl
  rw[this]
 unfold Oper.wp
 rcases zh (gW hk) Kg with⟨Cj,oN⟩|⟨j,Kl,Cj,hj,mQ⟩
 ·have:(execOp a.eval o).run P w= .ok (.value (.tuple #[])) w:=by
   simp[execOp,ho,resolve,invoke,builtin,Builtin.delete_,en.eval hm,en.eval hx,run_underlying QA,MapKept.run_getObj_map hw,MapKept.run_checkKey zN (gW hk),MapKept.run_findKey zN Cj,MapKept.run_setObj_map _ hw,Result.andThen,same]
  rw[this,Oper.upon_value,hd]
  rw[he]at oN
  have oP:EI es kv=es:=by
   unfold EI
   rw[List.filter_eq_self]
   intro e' Kh;simpa using oN e' Kh
  rw[oP]at h
  exact h _ _ en (by
   have:=St.om (s2 (mq dd b es)) sR
   exact this)
 have cB:=(Array.getElem?_eq_some_iff.1 hj).1
 have:(execOp a.eval o).run P w= .ok (.value (.tuple #[])) {w with heap:=w.heap.setIfInBounds b (.map (du.eraseIdxIfInBounds j) mw)}:=by
  simp[execOp,ho,resolve,invoke,builtin,Builtin.delete_,en.eval hm,en.eval hx,run_underlying QA,MapKept.run_getObj_map hw,MapKept.run_checkKey zN (gW hk),MapKept.run_findKey zN Cj,MapKept.run_setObj_map _ hw,Result.andThen]
 rw[this,Oper.upon_value,hd]
 have KK:(du.eraseIdxIfInBounds j).toList.map (λe=>(e.key,e.val))=EI es kv:=by
  have e1:(du.eraseIdxIfInBounds j).toList=du.toList.eraseIdx j:=by
   unfold Array.eraseIdxIfInBounds;rw[dif_pos cB];simp
  rw[e1,←he]
  have wT:(du.toList.map (·.key)).Nodup:=iU.2.2
  have hg:du.toList[j]?=some Kl:=by simpa using hj
  clear Cj iU Kg hb hw hl he this e1 same
  clear hj cB
  generalize du.toList=l at*
  induction l generalizing j with
  |nil=>simp at hg
  |cons x l ih=>
   simp only[List.map_cons,List.nodup_cons]at wT
   cases j with
   |zero=>
    simp at hg;subst hg
    simp only[List.eraseIdx_cons_zero,List.map_cons,EI]
    rw[List.filter_cons_of_neg (by simp[mQ])]
    symm
    rw[List.filter_eq_self]
    intro e' Kh
    obtain⟨y,hy,rfl⟩:=List.mem_map.1 Kh
    have:y.key≠x.key:=λq=>wT.1 (List.mem_map.2 ⟨y,hy,q⟩)
    simpa[←mQ]using this
   |succ j=>
    simp at hg
    have hx':x.key≠kv:=λq=>wT.1 (List.mem_map.2 ⟨Kl,List.mem_of_getElem? hg,mQ.trans q.symm⟩)
    simp only[List.eraseIdx_cons_succ,List.map_cons,EI]
    rw[List.filter_cons_of_pos (by simpa using hx')]
    congr 1
    exact ih j wT.2 hg
 refine h _ _ en (St.om (s2 _) (sR.Rf (λh' p=>by obtain⟨_,_,_,_,_,q⟩:=p;exact⟨_,q⟩) (.mk _ mw KK (λq hq=>Kg q ?_) (stamped_erase iU j) (by simp))))
 unfold Array.eraseIdxIfInBounds at hq
 rw[dif_pos cB]at hq
 exact(List.eraseIdx_sublist _ _).subset (by simpa using hq)
end
end Go.cV
namespace Go.cV
open Go Go.MapKept
section
variable {P:Program} {n:Nat} {ds:List Deferred} {F:dy} {Q:Exit→Act→World→Prop} {K:Act→World→Prop} {σ:aR} {H:List aa} {o:Oper} {d:Nat}
end
end Go.cV
namespace Go.cV
open Go
theorem DX{A:aa}{L H:List aa}{h:Hp}(s:ai (aI (A::L)::H) h):ai (A::aI L::H) h:=by
 obtain⟨h1,h2,d,l1,l2,⟨h3,h4,d',l3,l4,a,s1⟩,s2⟩:=s
 refine⟨h3,fZ h4 h2, ?_,l3.trans l1,bS (l4.trans l1) l2,a,h4,h2,d.left l4,a8 _ _,aU (d.left l4),s1,s2⟩
 exact(bO.fZ d'.symm (d.left l3).symm).symm
theorem DW{A:aa}{L H:List aa}{h:Hp}(s:ai (A::aI L::H) h):ai (aI (L++ [A])::H) h:=by
 have s:=cT s
 have:ai (aI L::([A]++H)) h:=s
 exact vQ this
section
variable {P:Program} {n:Nat} {ds:List Deferred} {F:dy} {Q:Exit→Act→World→Prop} {K:Act→World→Prop} {σ:aR} {H:List aa} {o:Oper} {d:Nat}
theorem Hq{α:Type}{f:α→aa}{X:α→Hp→Prop}(hx:∀a k,f a k→X a k)(hm:∀a k l,X a k→Le k l→X a l):∀(L:List α) (h:Hp),ai (L.map f) h→∀a∈L,X a h:=by
 intro L
 induction L with
 |nil=>intro h _ a ha;cases ha
 |cons b r ih=>
  intro h s a ha
  obtain⟨h1,h2,d,l1,l2,p,s2⟩:=s
  rcases List.mem_cons.1 ha with rfl|ha
  ·exact hm _ _ _ (hx _ _ p) l1
  exact hm _ _ _ (ih h2 s2 a ha) l2
theorem N9{a:Option Addr}{cap e sz:Nat}{xs:List Value}{R:List aa}{w:World}(s:St F (own a cap e sz xs::R) w):
  (a=none∧cap=0∧xs= [])∨∃b sp,a=some ⟨b,0,none⟩∧xs.length+sp.length=cap*sz∧cap≤maxLen∧St F (ag b e (xs++sp)::R) w:=by
 obtain⟨a1,a2,a3,fr,h,⟨h1,h2,dd,l1,l2,⟨q1,q2,q3|⟨b,sp,rfl,q4,q5⟩⟩,st⟩,y,zz⟩:=s
 ·obtain⟨rfl,rfl⟩:=q3
  exact .inl ⟨rfl,rfl,List.eq_nil_of_length_eq_zero (by omega)⟩
 exact .inr ⟨b,sp,rfl,q4,q2,a1,a2,a3,fr,h,⟨h1,h2,dd,l1,l2,q5,st⟩,y,zz⟩
theorem JD{b cap e sz:Nat}{xs sp:List Value}{R:List aa}{w:World}(hl:xs.length+sp.length=cap*sz)(hm:cap≤maxLen)(s:St F (ag b e (xs++sp)::R) w):St F (own (some ⟨b,0,none⟩) cap e sz xs::R) w:=
 s.sub λ_ s'=>aY (λ_ p=>⟨by omega,hm, .inr ⟨b,sp,rfl,hl,p⟩⟩) s'
theorem Sw{a:Option Addr}{cap e sz:Nat}{xs ys:List Value}{h:Hp}(o:own a cap e sz (xs++ys) h):own a cap e sz xs h:=by
 have:=vi o xs.length
 rwa[List.take_left]at this
theorem oSON{t k':TypeId}{x y:Operand}{a:Option Addr}{j cap e sz:Nat}{cells vs:List Value}{f:aa→List aa}(hs:cy P t=some k')(h:G n ds F K σ (f (own a cap e sz (cR cells j vs))))(ho:o.op= .store t x y:=by exact rfl)(hd:o.dst=none:=by exact rfl)
  (hx:bh σ x=some (.pointer (a.map (·.add j))):=by exact rfl) (hy:bh σ y=some (.agg vs.toArray):=by exact rfl) (hk:vs.length=k':=by exact rfl) (h1:∀v∈vs,v.oneCell'=true:=by simp[cR,Value.cells,Value.oneCell',aT])
  (hu:Pos H (own a cap e sz cells) f:=by repeat (first|exact Pos.here|apply Pos.there)) (hj:j+vs.length≤cells.length:=by first|omega|(simp;omega)) (h0:0<vs.length:=by first|omega|(simp;done)|(simp;omega)):G n ds F (λa w=>o.wp P a w K Q) σ H:=by
 refine .mk λac w en s=> ?_
 obtain⟨R,s1,s2⟩:=hu.sM
 rcases N9 (s.sM s1)with⟨rfl,rfl,rfl⟩|⟨b,sp,rfl,q4,q2,st⟩
 ·simp only[List.length_nil]at hj;omega
 obtain⟨w',hr,s'⟩:=iF (P:=P) vs j 0 (cells++sp) w st (by rw[List.length_append];omega) h1
 unfold Oper.wp
 have:(execOp ac.eval o).run P w= .ok .skip w':=by
  simp[execOp,ho,en.eval hx,en.eval hy,Instr.storeAt,Instr.sureAddr,storeVar,(eh hs).2,Value.cells,hk,add_lit,hr]
 rw[this,Oper.upon_skip,hd]
 refine h _ _ en (St.om (s2 _) (JD (b:=b) (sp:=sp) ?_ q2 ?_))
 ·rw[sC];exact q4
 have e:cR (cells++sp) j vs=cR cells j vs++sp:=by
  rw[ky (by rw[List.length_append];omega),ky hj,List.take_append_of_le_length (by omega),List.drop_append_of_le_length (by omega)]
  simp
 have s'':=s'
 simp only[Nat.add_zero]at s''
 rw[e]at s''
 exact s''
def QY (a:Option Addr)(c e sz:Nat)(pre news:List Value)(g:Option Addr)(gc:Nat):aa:=λh=>
 ((g=a∧gc=c)∧own a c e sz (pre++news) h)∨∃ys,aI [own g gc e sz (pre++news),own a c e sz (pre++ys)] h
end
end Go.cV
