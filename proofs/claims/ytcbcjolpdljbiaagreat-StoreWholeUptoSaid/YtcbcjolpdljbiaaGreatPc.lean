/- Part Pc of the proof. -/
import Derived.Test.YtcbcjolpdljbiaaGreatPb
import Derived.Defers
import Derived.Laws.Concat
import Derived.Laws.Externs
import Derived.Laws.LoneSync
import Derived.Laws.StructEq
import Derived.MapKept
set_option maxRecDepth 100000
namespace Go.dG
open Go
section
variable {P:Program} {f:FuncId} {args:List Value} {pre:Hp->Prop} {H:List aa} {R:Value->List aa->Prop}
theorem St.ex{ι:Type}{F:dC}{w:World}{A:ι->aa}(s:St F ((λk=>∃x,A x k)::H) w):∃x,St F (A x::H) w:=by
 obtain⟨a1,a2,a3,fr,hh,⟨h1,h2,d,l1,l2,⟨x,hx⟩,st⟩,y,z⟩:=s;exact⟨x,a1,a2,a3,fr,hh,⟨h1,h2,d,l1,l2,hx,st⟩,y,z⟩
theorem aO.exL{ι:Type}{A:ι->aa}(h:∀x,aO P f args pre (A x::H) R):aO P f args pre ((λk=>∃x,A x k)::H) R:=λF w hp s=>by
 obtain⟨x,s'⟩:=s.ex;exact h x F w hp s'
theorem aO.Dv{X:Prop}{A:aa}(h:X->aO P f args pre (A::H) R):aO P f args pre ((λk=>X/\A k)::H) R:=λF w hp s=>by
 obtain⟨a1,a2,a3,fr,hh,⟨h1,h2,d,l1,l2,⟨x,hx⟩,st⟩,y,z⟩:=s;exact h x F w hp ⟨a1,a2,a3,fr,hh,⟨h1,h2,d,l1,l2,hx,st⟩,y,z⟩
theorem aO.Gr{L:List aa}(h:aO P f args pre (L++H) R):aO P f args pre (aG L::H) R:=λF w hp s=>
 h F w hp (s.sub λk s=>by
  obtain⟨h1,h2,d,l1,l2,s1,s2⟩:=s;exact eL (bK s1 s2 d) (bY l1 l2))
theorem aO.out{R':Value->List aa->Prop}(h:aO P f args pre H R)(hr:∀v H',R v H'->∃H'',R' v H''/\∀k,ai H' k->ai H'' k):aO P f args pre H R':=λF w p s=>
 (h F w p s).mono λe w' hh=>by
  obtain⟨v,H',he,r,st⟩:=hh;obtain⟨H'',r',ent⟩:=hr v H' r;exact⟨v,H'',he,r',st.sub ent⟩
theorem aO.inp{agF:Hp->Prop}(h:aO P f args pre H R)(hp:∀k,agF k->pre k):aO P f args agF H R:=λF w p s=>h F w (hp _ p) s
theorem aO.Qn{X:Prop}(hx:∀k,pre k->X)(h:X->aO P f args pre H R):aO P f args pre H R:=λF w p s=>h (hx _ p) F w p s
theorem yo{X:Prop}{A:aa}{h:Hp}(x:X)(s:ai (A::H) h):ai ((λk=>X/\A k)::H) h:=bB (λ_ p=>⟨x,p⟩) s
end
section
variable {P:Program} {n:Nat} {ds:List Deferred} {F:dC} {K:Act->World->Prop} {σ:aZ} {H:List aa}
theorem GO{X:Prop}{A:aa}(h:X->G n ds F K σ (A::H)):G n ds F K σ ((λk=>X/\A k)::H):=by
 refine .mk λa w e s=> ?_;obtain⟨a1,a2,a3,fr,hh,⟨h1,h2,d,l1,l2,⟨x,hx⟩,st⟩,y,z⟩:=s;exact h x a w e ⟨a1,a2,a3,fr,hh,⟨h1,h2,d,l1,l2,hx,st⟩,y,z⟩
end
theorem gp{H R:List aa}{A:aa}{X:Prop}(s:fD H A R)(hx:∀k,A k->X):∀h,gP H h->X:=λh ao=>by obtain⟨k,p,_⟩:=r9 s h ao;exact hx k p
theorem XG{a:Option Addr}{cap e:Nat}{xs:List Value}(k:Hp)(o:own a cap e 1 xs k):xs.length<=cap:=by have:=o.1;omega
theorem kD{a:Option Addr}{cap e sz:Nat}{xs:List Value}{k:Hp}(o:own a cap e sz xs k)(h:0<xs.length):a.isSome=true:=by
 obtain⟨h1,_,h3|⟨b,sp,rfl,_,_⟩⟩:=o
 ·obtain⟨rfl,rfl⟩:=h3;omega
 rfl
end Go.dG
namespace Go.dG
open Go
section
variable {P:Program} {n:Nat} {ds:List Deferred} {F:dC} {Q:Exit->Act->World->Prop} {K:Act->World->Prop} {σ:aZ} {H:List aa} {o:Oper} {d:Nat}
def FnD (P:Program)(f:FuncId)(args:List Value)(pre:Hp->Prop)(H:List aa)(R:Value->List aa->Prop):Prop:=
 aC P f=true/\∀F w u,pre F.h->St F H w->CallsD P f args.toArray u w λe u' w'=>u'=u/\∃v H',e= .returned v/\R v H'/\St F H' w'
theorem L7{f:FuncId}{fn:Func}{c:Code}{args:List Value}{pre:Hp->Prop}{R:Value->List aa->Prop}{m:Nat}(hi:aC P f=true)(hf:P.funcs[f]?=some fn)(hb:fn.body=some c)(hm:fn.ntmps=m)(hn:Nat.ble args.length m=true)
  (h:∀F:dC,pre F.h->G m [] F (c.wp P (bodyPost P fn λe w'=>∃v H',e= .returned v/\R v H'/\St F H' w')) (jP 0 args) H):FnD P f args pre H R:=
 ⟨hi,λF w u hp s=>callsD_of_wp hf hb (by
  subst hm;exact h F hp _ _ (Di args _ (Nat.le_of_ble_eq_true hn)) s)⟩
def aaA (P:Program)(fn:Func)(R:Ending->World->Prop):Exit->Act->World->Prop
 | .normal,a,w| .ret,a,w=>Leaves P fn a.tmps R a.defers .returning w
 |_,_,_=>False
theorem Ue{f:FuncId}{fn:Func}{c:Code}{args:List Value}{pre:Hp->Prop}{R:Value->List aa->Prop}{m:Nat}(hf:P.funcs[f]?=some fn)(hb:fn.body=some c)(hm:fn.ntmps=m)(hn:Nat.ble args.length m=true)
  (h:∀F:dC,pre F.h->G m [] F (c.wp P (aaA P fn λe w'=>∃v H',e= .returned v/\R v H'/\St F H' w')) (jP 0 args) H):aO P f args pre H R:=
 λF w hp s=>calls_of_wp_defers hf hb (by
  subst hm;refine wp_mono (h F hp _ _ (Di args _ (Nat.le_of_ble_eq_true hn)) s) λe a w' q=> ?_;cases e with
  |normal=>exact q
  |ret=>exact q
  |exit id=>exact q.elim
  |goto l=>exact q.elim
  |panic ch=>exact q.elim
  |outgrown=>exact q.elim)
theorem D3{ops:Array Oper}{listed:Array Bool}{fuel:Nat}{S:World->Prop}(i j k:Nat)
  (h1:G n ds F (wpOp P ops Q i (λa' w'=>S w'/\wpAnyH P .any ops Q S fuel (listed.setIfInBounds i true) a' w')) σ H)
  (h2:G n ds F (wpOp P ops Q j (λa' w'=>S w'/\wpAnyH P .any ops Q S fuel (listed.setIfInBounds j true) a' w')) σ H)
  (h3:G n ds F (wpOp P ops Q k (λa' w'=>S w'/\wpAnyH P .any ops Q S fuel (listed.setIfInBounds k true) a' w')) σ H) (hr:Region.ready .any ops listed= [i,j,k]:=by kernel_rfl):G n ds F (wpAnyH P .any ops Q S (fuel+1) listed) σ H:=
 GN hr rfl λm hm=>by
  rcases List.mem_cons.1 hm with rfl|hm
  ·exact h1
  rcases List.mem_cons.1 hm with rfl|hm
  ·exact h2
  rw[List.mem_singleton.1 hm];exact h3
end
end Go.dG
namespace Go.dG
open Go Go.MapKept
def lk (es:List (Value×Value))(k:Value):Option Value:=
 match es with
 | []=>none
 |(k',v)::r=>match sameK k' k with|true=>some v|false=>lk r k
where sameK:Value->Value->Bool
 | .int _ a, .int _ b=>decide (a=b)
 | .string a, .string b=>decide (a.data.toList=b.data.toList)
 |_,_=>false
def VE:TypeDesc->Value->Bool
 | .int k, .int k' _=>decide (k'=k)
 | .string, .string _=>true
 |_,_=>false
theorem jw{d:TypeDesc}{k:Value}(h:VE d k=true):IsKey d k:=by
 cases d<;>cases k<;>simp[VE]at h<;>simp[IsKey,h]
def xc (P:Program)(t:TypeId):Option (TypeId×TypeDesc×TypeId×Value):=
 match P.underlying t with
 |some (.map k e)=>match P.underlying k,P.info? e with
  |some d,some i=>match i.zero with
   |some z=>some (k,d,e,z)
   |none=>none
  |_,_=>none
 |_=>none
theorem nR{P:Program}{t k e:TypeId}{d:TypeDesc}{z:Value}(h:xc P t=some (k,d,e,z)):P.underlying t=some (.map k e)/\P.underlying k=some d/\∃i,P.info? e=some i/\i.zero=some z:=by
 unfold xc at h;cases hu:P.underlying t with
 |none=>simp[hu]at h
 |some dd=>
  cases dd<;>simp[hu]at h
  rename_i k' e'
  cases hk:P.underlying k' with
  |none=>simp[hk]at h
  |some d'=>
   cases hi:P.info? e' with
   |none=>simp[hk,hi]at h
   |some i=>
    simp only[hk,hi]at h;cases hz:i.zero with
    |none=>simp[hz]at h
    |some z'=>
     simp[hz]at h;obtain⟨rfl,rfl,rfl,rfl⟩:=h;exact⟨rfl,hk,i,hi,hz⟩
theorem St.Wn{F:dC}{H:List aa}{w:World}(s:St F H w)(o:Obj)(A:aa)(hA:A λx=>if x=w.heap.size then some o else none):St F (A::H) (w.alloc o):=by
 obtain⟨a1,a2,a3,fr,h,s,y,z⟩:=s;have hold:∀k:Hp,Le k (j7 w)->Le k (j7 (w.alloc o)):=by
  intro k lk x ob ex;have hx:=lk x ob ex;unfold j7 at*;rw[RowKit.Below.heap_alloc w _ x (Array.getElem?_eq_some_iff.1 hx).1];exact hx
 have dk:∀k:Hp,Le k (j7 w)->bQ (λx=>if x=w.heap.size then some o else none) k:=by
  intro k lk x;by_cases hx:x=w.heap.size
  ·right
   cases q:k x with
   |none=>rfl
   |some ob=>
    have:=lk x ob q;unfold j7 at this;have:=(Array.getElem?_eq_some_iff.1 this).1;omega
  exact .inl (by simp[hx])
 refine⟨a1,a2,a3,hold _ fr,fA _ h,⟨_,h,dk _ y,aW _ _,aR (dk _ y),hA,s⟩,bY ?_ (hold _ y),bQ.fA (dk _ fr) z⟩;intro x ob ex;by_cases hx:x=w.heap.size
 ·subst hx;simp only[if_true]at ex;cases ex;exact heap_alloc_new w _
 simp[hx]at ex
theorem St.Wj{F:dC}{H:List aa}{w:World}{A B:aa}{b:Nat}{o':Obj}(s:St F (A::H) w)(hA:∀h,A h->∃o,h b=some o)(hB:B λx=>if x=b then some o' else none):
  St F (B::H) {w with heap:=w.heap.setIfInBounds b o'}:=by
 obtain⟨a1,a2,a3,fr,h,⟨h1,h2,d,l1,l2,hp,s⟩,y,z⟩:=s;obtain⟨ob,hb⟩:=hA h1 hp;have hw:w.heap[b]?=some ob:=(l1.trans y) _ _ hb;obtain⟨yQ,VG⟩:=heap_set (o':=o') hw;have fN:∀k:Hp,bQ h1 k->∀x o,k x=some o->x≠b:=by
  intro k dk x o e hx;subst hx;rcases dk x with q|q
  ·rw[hb]at q;cases q
  rw[e]at q;cases q
 have hold:∀k:Hp,bQ h1 k->Le k (j7 w)->Le k (j7 {w with heap:=w.heap.setIfInBounds b o'}):=by
  intro k dk lk x o e;have:=lk x o e;unfold j7 at*;show(w.heap.setIfInBounds b o')[x]?=some o;rw[VG x (fN k dk x o e)];exact this
 have dF:bQ h1 F.h:=z.left l1;have d2:∀k:Hp,bQ h1 k->bQ (λx=>if x=b then some o' else none) k:=by
  intro k dk x;by_cases hx:x=b
  ·subst hx
   rcases dk x with q|q
   ·rw[hb]at q;cases q
   exact .inr q
  exact .inl (by simp[hx])
 refine⟨a1,a2,a3,hold _ dF fr,fA _ h2,⟨_,h2,d2 _ d,aW _ _,aR (d2 _ d),hB,s⟩,bY ?_ (hold _ d (l2.trans y)),bQ.fA (d2 _ dF) (z.left l2)⟩;intro x o e;by_cases hx:x=b
 ·subst hx;simp only[if_true]at e;cases e;exact yQ
 simp[hx]at e
section
variable {P:Program} {n:Nat} {ds:List Deferred} {F:dC} {Q:Exit->Act->World->Prop} {K:Act->World->Prop} {σ:aZ} {H:List aa} {o:Oper} {d:Nat}
theorem Rt3{fn:Func}{R:Value->List aa->Prop}{t u u':Nat}{v x x':Value}(H':List aa)(hr:fn.results= #[.tmp t, .tmp u, .tmp u'])(hR:R (.tuple #[v,x,x']) H')(hv:look σ t=some v:=by exact rfl)(hx:look σ u=some x:=by exact rfl)(hx':look σ u'=some x':=by exact rfl)
  (hh:∀h,ai H h->ai H' h:=by exact Eh):G n [] F (bodyPost P fn (λe w'=>∃v H',e= .returned v/\R v H'/\St F H' w') .ret) σ H:=
 .mk λa w e s=>⟨e.defers, .tuple #[v,x,x'],by
  have h1:a.tmps.getD t undef=v:=by simp[e.slot t v hv]
  have h2:a.tmps.getD u undef=x:=by simp[e.slot u x hx]
  have h3:a.tmps.getD u' undef=x':=by simp[e.slot u' x' hx']
  simp only[results,hr];simp at h1 h2 h3;simp[h1,h2,h3],_,H',rfl,hR,s.sub hh⟩
end
end Go.dG
namespace Go.dG
open Go
def Zt:Exit->Act->World->Prop:=λ_ _ _=>False
def rP (P:Program)(ops:Array Oper)(o:Oper)(K:Act->World->Prop)(a:Act)(w:World):Prop:=
 if Region.wanted o (yielded ops a.tmps)=true then o.wp P a w K Zt else K (a.put o.dst undef) w
def ug (P:Program)(ops:Array Oper)(S:World->Prop)(Q:Act->World->Prop):List (Nat×Bool×Oper)->Act->World->Prop
 | [],a,w=>Q a w
 |(_,true,o)::r,a,w=>∃v,YieldsIf P ops S o v a/\ug P ops S Q r (a.put o.dst v) w
 |(_,false,o)::r,a,w=>rP P ops o (λa' w'=>S w'/\ug P ops S Q r a' w') a w
def F9 (o:Oper):Bool:=match o.op with| .load _ _=>true|_=>false
def indep (ops:Array Oper)(x y:Nat×Bool×Oper):Bool:=x.2.2.apart ops y.2.2&&(x.2.1||y.2.1||(F9 x.2.2&&F9 y.2.2))
inductive Still {α:Type}:Sem α->Prop
 |pure (a:α):Still (.pure a)
 |load (m:Mode) (a:Addr) (k:Value->Sem α) (h:∀v,Still (k v)):Still (.load m a k)
 |program (k:Program->Sem α) (h:∀p,Still (k p)):Still (.program k)
 |halt (x:Halt):Still (.halt x)
theorem Still.bind{α β:Type}{s:Sem α}{f:α->Sem β}(h:Still s)(hf:∀a,Still (f a)):Still (s.bind f):=by
 induction h with
 |pure a=>exact hf a
 |load m a k _ ih=>exact .load m a _ ih
 |program k _ ih=>exact .program _ ih
 |halt x=>exact .halt x
theorem Still.run{α:Type}{s:Sem α}(h:Still s)(P:Program)(w:World){r:α}{w':World}(e:s.run P w= .ok r w'):w'=w:=by
 induction h with
 |pure a=>simp only[Sem.run]at e;cases e;rfl
 |load m a k _ ih=>
  simp only[Sem.run]at e
  split at e
  ·exact ih _ e
  split at e
  ·exact ih _ e
  cases e
 |program k _ ih=>simp only[Sem.run]at e;exact ih _ e
 |halt x=>simp only[Sem.run]at e;cases e
theorem HL{ρ:Operand->Value}{o:Oper}(h:F9 o=true):Still (execOp ρ o):=by
 unfold F9 at h
 split at h
 ·rename_i t x ho
  have cells:∀(n:Nat) (a:Addr) (i:Nat) (acc:Array Value),Still (loadCellsFrom a i n acc):=by
   intro n
   induction n with
   |zero=>intro a i acc;exact .pure _
   |succ n ih=>intro a i acc;exact .load _ _ _ λv=>ih _ _ _
  have und:∀t,Still (underlying t):=λt=>by
   unfold underlying;exact .program _ λp=>by simp only[Sem.bind];split<;>first|exact .pure _|exact .halt _
  have tin:∀t,Still (typeInfo t):=λt=>by
   unfold typeInfo;exact .program _ λp=>by simp only[Sem.bind];split<;>first|exact .pure _|exact .halt _
  have hvar:∀a,Still (loadVar t a):=by
   intro a;unfold loadVar;refine Still.bind ?_ λb=> ?_
   ·unfold isAgg
    exact(und t).bind λd=>by split<;>exact .pure _
   split
   ·refine Still.bind ?_ λk=>(Still.bind (cells _ _ _ _) λc=> .pure _)
    unfold sizeOf;exact(tin t).bind λ_=> .pure _
   exact .load _ _ _ λv=> .pure _
  unfold execOp;rw[ho];refine Still.bind ?_ λv=> .pure _;unfold Instr.loadAt;refine Still.bind ?_ λa=>hvar a;unfold Instr.sureAddr
  split
  ·exact .pure _
  exact .halt _
 cases h
theorem adf{P:Program}{ρ:Operand->Value}{o:Oper}(h:F9 o=true){w w':World}{n:Next}(e:(execOp ρ o).run P w= .ok n w'):w'=w/\∃v,n= .value v:=by
 refine⟨(HL h).run P w e, ?_⟩;unfold F9 at h
 split at h
 ·rename_i t x ho
  unfold execOp at e;rw[ho]at e;simp only[Sem.run_bind]at e;cases hr:(Instr.loadAt t (ρ x)).run P w with
  |ok v w1=>rw[hr]at e;simp only[Result.andThen_ok,Sem.run_pure]at e;cases e;exact⟨v,rfl⟩
  |halt x w1=>rw[hr]at e;cases e
 cases h
section
variable {P:Program} {ops:Array Oper} {S:World->Prop} {Q:Act->World->Prop}
theorem GF:¬LetsOut Zt:=λ⟨_,_,h⟩=>h
theorem abW{o:Oper}{u v:Value}{a:Act}{w:World}(hS:S w)(h1:YieldsIf P ops S o u a)(h2:YieldsIf P ops S o v a):v=u:=by
 rcases h1 with⟨w1,e1⟩|⟨w1,rfl⟩<;>rcases h2 with⟨w2,e2⟩|⟨w2,rfl⟩
 ·have:=(e1 w hS).symm.trans (e2 w hS);cases this;rfl
 ·rw[w1]at w2;cases w2
 ·rw[w1]at w2;cases w2
 rfl
theorem xL{o:Oper}{K K':Act->World->Prop}(f:∀a w,K a w->K' a w){a:Act}{w:World}(h:rP P ops o K a w):rP P ops o K' a w:=by
 unfold rP at*
 split
 ·rename_i hw;rw[if_pos hw]at h;exact Oper.wp_mono f h
 rename_i hw;rw[if_neg hw]at h;exact f _ _ h
theorem Hu{x k:Oper}(OE:k.apart ops x=true)(hsx:∀cs b,x.op≠ .select cs b)(N9:∀cs b,k.op≠ .select cs b){K K2:Act->World->Prop}{a:Act}{w:World}(hS:S w)
  (hK:∀a' w',K a' w'->∃v,YieldsIf P ops S x v a'/\K2 (a'.put x.dst v) w') (h:rP P ops k K a w):∃v,YieldsIf P ops S x v a/\rP P ops k K2 (a.put x.dst v) w:=by
 obtain⟨h1,h2,h3⟩:=Oper.apart_spec OE;have back:∀(u v:Value),YieldsIf P ops S x v (a.put k.dst u)->YieldsIf P ops S x v a:=λu v hy=>
  hy.of_same (execOp_put x hsx a k.dst u h1).symm (wanted_put x a k.dst u h1).symm
 unfold rP at h
 split at h
 ·rename_i hw
  have key:∃v,YieldsIf P ops S x v a:=by
   unfold Oper.wp at h;generalize (execOp a.eval k).run P w=r at h;cases r with
   |ok n w'=>
    cases n<;>simp only[Oper.upon]at h
    case value u=>obtain⟨v,hv,_⟩:=hK _ _ h;exact⟨v,back u v hv⟩
    case skip=>obtain⟨v,hv,_⟩:=hK _ _ h;exact⟨v,back _ v hv⟩
    case defer d=>
     obtain⟨v,hv,_⟩:=hK _ _ h;exact⟨v,(back undef v (hv.of_same (a':=a.put k.dst undef) (by cases k.dst<;>rfl) (by cases k.dst<;>rfl)))⟩
    case enter f args=>
     obtain⟨e,w2,fr,he,_⟩:=h [];cases e with
     |returned u=>obtain⟨v,hv,_⟩:=hK _ _ he;exact⟨v,back u v hv⟩
     |panicked c=>exact he.elim
     |outgrown=>exact(GF he).elim
    case row row args=>
     obtain⟨u,w2,he,_⟩:=h default [];obtain⟨v,hv,_⟩:=hK _ _ he;exact⟨v,back u v hv⟩
   |halt y w'=>cases y<;>simp only[Oper.upon]at h<;>exact h.elim
  obtain⟨v,hv⟩:=key;refine⟨v,hv, ?_⟩;have same:∀(u v':Value),YieldsIf P ops S x v' (a.put k.dst u)->v'=v:=λu v' hy=>abW hS hv (back u v' hy);unfold rP;rw[wanted_put k a x.dst v (λd hd=>h3 d hd),if_pos hw];unfold Oper.wp at*;rw[execOp_put k N9 a x.dst v (λd hd=>h3 d hd)];have mE:∀u:Value,(a.put k.dst u).put x.dst v=(a.put x.dst v).put k.dst u:=λu=>Act.put_comm a u v h2;generalize (execOp a.eval k).run P w=r at*;cases r with
  |ok n w'=>
   cases n<;>simp only[Oper.upon]at h⊢
   case value u=>obtain⟨v',Oy,hk⟩:=hK _ _ h;rw[<-mE,<-same u v' Oy];exact hk
   case skip=>obtain⟨v',Oy,hk⟩:=hK _ _ h;rw[<-mE,<-same _ v' Oy];exact hk
   case defer d=>
    obtain⟨v',Oy,hk⟩:=hK _ _ h;have hv2:YieldsIf P ops S x v' (a.put k.dst undef):=Oy.of_same (by cases k.dst<;>rfl) (by cases k.dst<;>rfl);rw[same _ v' hv2]at hk;have e1:({a with defers:=d::a.defers}:Act).put x.dst v=({a.put x.dst v with defers:=d::(a.put x.dst v).defers}:Act):=(Act.put_defers a x.dst v d).symm;rw[Act.put_comm _ undef v h2,e1]at hk;exact hk
   case enter f args=>
    refine Calls.mono h λe w'' he=> ?_;cases e with
    |returned u=>obtain⟨v',Oy,hk⟩:=hK _ _ he;show K2 _ _;rw[<-mE,<-same u v' Oy];exact hk
    |panicked c=>exact he
    |outgrown=>exact he
   case row row args=>exact Rows.mono h λu w'' he=>by obtain⟨v',Oy,hk⟩:=hK _ _ he;rw[<-mE,<-same u v' Oy];exact hk
  |halt y w'=>cases y<;>simp only[Oper.upon]at h⊢<;>exact h
 rename_i hw
 obtain⟨v,hv,hk⟩:=hK _ _ h;refine⟨v,back _ v hv, ?_⟩;unfold rP;rw[wanted_put k a x.dst v (λd hd=>h3 d hd),if_neg hw,<-Act.put_comm a undef v h2];exact hk
theorem Hv{x k:Oper}(OE:k.apart ops x=true)(hsx:∀cs b,x.op≠ .select cs b)(N9:∀cs b,k.op≠ .select cs b){K:Act->World->Prop}{a:Act}{w:World}{u:Value}(hy:YieldsIf P ops S k u a)
  (h:rP P ops x K (a.put k.dst u) w):rP P ops x (λa' w'=>YieldsIf P ops S k u a'/\K (a'.put k.dst u) w') a w:=by
 obtain⟨h1,h2,h3⟩:=Oper.apart_spec OE;have xd:∀z:Value,YieldsIf P ops S k u (a.put x.dst z):=λz=>hy.of_same (execOp_put k N9 a x.dst z h3) (wanted_put k a x.dst z h3);unfold rP at*;rw[wanted_put x a k.dst u h1]at h
 split
 ·rename_i hw
  rw[if_pos hw]at h;unfold Oper.wp at*;rw[execOp_put x hsx a k.dst u h1]at h;have mE:∀z:Value,(a.put k.dst u).put x.dst z=(a.put x.dst z).put k.dst u:=λz=>Act.put_comm a u z h2;generalize (execOp a.eval x).run P w=r at*;cases r with
  |ok n w'=>
   cases n<;>simp only[Oper.upon]at h⊢
   case value z=>exact⟨xd z,by rw[<-mE];exact h⟩
   case skip=>exact⟨xd _,by rw[<-mE];exact h⟩
   case defer d=>
    refine⟨(xd undef).of_same (by cases x.dst<;>rfl) (by cases x.dst<;>rfl), ?_⟩;rw[<-Act.put_comm _ u undef h2,<-Act.put_defers];exact h
   case enter f args=>
    refine Calls.mono h λe w'' he=> ?_;cases e with
    |returned z=>exact⟨xd z,by rw[<-mE];exact he⟩
    |panicked c=>exact he
    |outgrown=>exact he
   case row row args=>exact Rows.mono h λz w'' he=>⟨xd z,by rw[<-mE];exact he⟩
  |halt y w'=>cases y<;>simp only[Oper.upon]at h⊢<;>exact h
 rename_i hw
 rw[if_neg hw,Act.put_comm a u undef h2]at h;exact⟨xd _,h⟩
def zW (l:List (Nat×Bool×Oper)):Prop:=∀x∈l,∀cs b,x.2.2.op≠ .select cs b
theorem mvR{i:Nat}{o:Oper}{post:List (Nat×Bool×Oper)}:∀(pre:List (Nat×Bool×Oper)) (a:Act) (w:World),(∀k∈pre,indep ops k (i,true,o)=true)->zW pre->(∀cs b,o.op≠ .select cs b)->S w->
  ug P ops S Q (pre++(i,true,o)::post) a w->∃v,YieldsIf P ops S o v a/\ug P ops S Q (pre++post) (a.put o.dst v) w:=by
 intro pre
 induction pre with
 |nil=>intro a w _ _ _ _ h;exact h
 |cons k pre ih=>
  obtain⟨j,fl,ok⟩:=k;intro a w hi hs VX hS h;have hk:=hi _ (List.mem_cons_self ..);simp only[indep,Bool.and_eq_true]at hk;have OE:=hk.1;obtain⟨h1,h2,h3⟩:=Oper.apart_spec OE;have N9:=hs _ (List.mem_cons_self ..);have yY:∀k∈pre,indep ops k (i,true,o)=true:=λk hk=>hi k (List.mem_cons_of_mem _ hk);have hs':zW pre:=λk hk=>hs k (List.mem_cons_of_mem _ hk);cases fl with
  |true=>
   simp only[List.cons_append,ug]at h⊢;obtain⟨u,hu,h⟩:=h;obtain⟨v,hv,h⟩:=ih _ _ yY hs' VX hS h;refine⟨v,hv.of_same (execOp_put o VX a ok.dst u h1).symm (wanted_put o a ok.dst u h1).symm,u,hu.of_same (execOp_put ok N9 a o.dst v h3) (wanted_put ok a o.dst v h3), ?_⟩;rw[<-Act.put_comm a u v h2];exact h
  |false=>
   simp only[List.cons_append,ug]at h⊢;exact Hu OE VX N9 hS (λa' w' hh=>by
    obtain⟨v,hv,h⟩:=ih _ _ yY hs' VX hh.1 hh.2;exact⟨v,hv,hh.1,h⟩) h
theorem mvW{i:Nat}{o:Oper}{post:List (Nat×Bool×Oper)}:∀(pre:List (Nat×Bool×Oper)) (a:Act) (w:World),(∀k∈pre,indep ops k (i,false,o)=true)->zW pre->(∀cs b,o.op≠ .select cs b)->S w->
  ug P ops S Q (pre++(i,false,o)::post) a w->rP P ops o (λa' w'=>S w'/\ug P ops S Q (pre++post) a' w') a w:=by
 intro pre
 induction pre with
 |nil=>intro a w _ _ _ _ h;exact h
 |cons k pre ih=>
  obtain⟨j,fl,ok⟩:=k;intro a w hi hs VX hS h;have hk:=hi _ (List.mem_cons_self ..);simp only[indep,Bool.and_eq_true]at hk;have OE:=hk.1;obtain⟨h1,h2,h3⟩:=Oper.apart_spec OE;have N9:=hs _ (List.mem_cons_self ..);have yY:∀k∈pre,indep ops k (i,false,o)=true:=λk hk=>hi k (List.mem_cons_of_mem _ hk);have hs':zW pre:=λk hk=>hs k (List.mem_cons_of_mem _ hk);cases fl with
  |true=>
   simp only[List.cons_append,ug]at h⊢;obtain⟨u,hu,h⟩:=h;have h:=ih _ _ yY hs' VX hS h;exact xL (λa' w' hh=>⟨hh.2.1,u,hh.1,hh.2.2⟩) (Hv OE VX N9 hu h)
  |false=>
   have hl:=hk.2;simp only[Bool.or_self,Bool.false_or,Bool.and_eq_true]at hl;simp only[List.cons_append,ug]at h⊢;have look:∀{y:Oper} {a:Act} {w:World} {K:Act->World->Prop},F9 y=true->(rP P ops y K a w↔((Region.wanted y (yielded ops a.tmps)=true/\∃v,(execOp a.eval y).run P w= .ok (.value v) w/\K (a.put y.dst v) w)\/(Region.wanted y (yielded ops a.tmps)=false/\K (a.put y.dst undef) w))):=by
    intro y a w K hy;unfold rP;cases hw:Region.wanted y (yielded ops a.tmps)with
    |false=>simp
    |true=>
     simp only[if_true,true_and,Bool.true_eq_false,false_and,or_false];unfold Oper.wp;cases hr:(execOp a.eval y).run P w with
     |ok n w'=>
      obtain⟨rfl,v,rfl⟩:=adf hy hr;simp only[Oper.upon_value];exact⟨λh=>⟨v,rfl,h⟩,λ⟨v',e,h⟩=>by cases e;exact h⟩
     |halt z w'=>
      cases z<;>simp[Oper.upon,Zt]
   rw[look hl.1]at h;rw[look hl.2];have fin:∀u:Value,S w/\ug P ops S Q (pre++(i,false,o)::post) (a.put ok.dst u) w->(∀z,rP P ops ok (λa' w'=>S w'/\ug P ops S Q (pre++post) a' w') (a.put o.dst z) w↔rP P ops ok (λa' w'=>S w'/\ug P ops S Q (pre++post) a' w') (a.put o.dst z) w)->
     ((Region.wanted o (yielded ops a.tmps)=true/\∃z,(execOp a.eval o).run P w= .ok (.value z) w/\(S w/\ug P ops S Q (pre++post) ((a.put ok.dst u).put o.dst z) w))\/(Region.wanted o (yielded ops a.tmps)=false/\(S w/\ug P ops S Q (pre++post) ((a.put ok.dst u).put o.dst undef) w))):=by
    intro u hh _;have h':=ih _ _ yY hs' VX hh.1 hh.2;rw[look hl.2,execOp_put o VX a ok.dst u h1,wanted_put o a ok.dst u h1]at h';exact h'
   have put:∀(z:Value),(∀u,ug P ops S Q (pre++post) ((a.put ok.dst u).put o.dst z) w->ug P ops S Q (pre++post) ((a.put o.dst z).put ok.dst u) w):=λz u hh=>by rw[<-Act.put_comm a u z h2];exact hh
   rcases h with⟨hw,u,hu,hh⟩|⟨hw,hh⟩
   ·rcases fin u hh (λ_=>Iff.rfl)with⟨hwo,z,hz,hS',h'⟩|⟨hwo,hS',h'⟩
    ·refine .inl ⟨hwo,z,hz,hS, ?_⟩
     rw[look hl.1,execOp_put ok N9 a o.dst z h3,wanted_put ok a o.dst z h3];exact .inl ⟨hw,u,hu,hS,put _ _ h'⟩
    refine .inr ⟨hwo,hS, ?_⟩;rw[look hl.1,execOp_put ok N9 a o.dst undef h3,wanted_put ok a o.dst undef h3];exact .inl ⟨hw,u,hu,hS,put _ _ h'⟩
   rcases fin undef hh (λ_=>Iff.rfl)with⟨hwo,z,hz,hS',h'⟩|⟨hwo,hS',h'⟩
   ·refine .inl ⟨hwo,z,hz,hS, ?_⟩
    rw[look hl.1,execOp_put ok N9 a o.dst z h3,wanted_put ok a o.dst z h3];exact .inr ⟨hw,hS,put _ _ h'⟩
   refine .inr ⟨hwo,hS, ?_⟩;rw[look hl.1,execOp_put ok N9 a o.dst undef h3,wanted_put ok a o.dst undef h3];exact .inr ⟨hw,hS,put _ _ h'⟩
inductive CX (ops:Array Oper):Nat->Nat->Prop
 |one {i:Nat} {o:Oper} {e:Edge} (ho:ops[i]?=some o) (he:e∈o.after) (hb:Region.binds .any e=true):CX ops e.on i
 |more {i k:Nat} {o:Oper} {e:Edge} (ho:ops[i]?=some o) (he:e∈o.after) (hb:Region.binds .any e=true) (h:CX ops k e.on):CX ops k i
def msk (acc:List Nat)(o:Oper):Nat:=o.after.toList.foldl (λs e=>if Region.binds .any e=true then s|||2^e.on|||acc.getD e.on 0 else s) 0
def IK:List Oper->List Nat->List Nat
 | [],acc=>acc
 |o::r,acc=>IK r (acc++ [msk acc o])
theorem Tz{i:Nat}{o:Oper}(ho:ops[i]?=some o){acc:List Nat}(Ww:∀j k,(acc.getD j 0).testBit k=true->CX ops k j)(k:Nat)(h:(msk acc o).testBit k=true):CX ops k i:=by
 have key:∀(l:List Edge) (s:Nat),(∀e∈l,e∈o.after)->(∀k,s.testBit k=true->CX ops k i)->∀k,(l.foldl (λs e=>if Region.binds .any e=true then s|||2^e.on|||acc.getD e.on 0 else s) s).testBit k=true->CX ops k i:=by
  intro l
  induction l with
  |nil=>intro s _ hs k hk;exact hs k hk
  |cons e l ih=>
   intro s hl hs k hk;rw[List.foldl_cons]at hk;refine ih _ (λe' h'=>hl e' (List.mem_cons_of_mem _ h')) (λk' hk'=> ?_) k hk
   split at hk'
   ·rename_i hb
    rw[Nat.testBit_or,Nat.testBit_or]at hk';simp only[Bool.or_eq_true]at hk';rcases hk' with(h1|h1)|h1
    ·exact hs _ h1
    ·rw[Nat.testBit_two_pow]at h1
     simp only[decide_eq_true_eq]at h1;subst h1;exact .one ho (hl e (List.mem_cons_self ..)) hb
    exact .more ho (hl e (List.mem_cons_self ..)) hb (Ww _ _ h1)
   exact hs _ hk'
 exact key o.after.toList 0 (λe he=>by simpa using he) (λk hk=>by simp at hk) k h
theorem H4:∀(l:List Oper) (acc:List Nat),(∀j o,l[j]?=some o->ops[acc.length+j]?=some o)->(∀j k,(acc.getD j 0).testBit k=true->CX ops k j)->∀j k,((IK l acc).getD j 0).testBit k=true->CX ops k j:=by
 intro l
 induction l with
 |nil=>intro acc _ h;exact h
 |cons o l ih=>
  intro acc hl Ww;refine ih _ (λj o' hj=> ?_) (λj k Ob=> ?_)
  ·have:=hl (j+1) o' (by simpa using hj)
   rw[List.length_append,List.length_singleton,show acc.length+1+j=acc.length+(j+1)from by omega];exact this
  rcases Nat.lt_trichotomy j acc.length with cL|heq|hgt
  ·refine Ww j k ?_
   simpa[List.getD_eq_getElem?_getD,List.getElem?_append_left cL]using Ob
  ·subst heq
   refine Tz (by simpa using hl 0 o rfl) Ww k ?_
   simpa[List.getD_eq_getElem?_getD]using Ob
  have hz:(acc++ [msk acc o])[j]?=none:=List.getElem?_eq_none (by simp;omega);rw[List.getD_eq_getElem?_getD,hz]at Ob;simp at Ob
def prs (ops:Array Oper)(m:List Nat):List (Nat×Bool×Oper)->Bool
 | []=>true
 |x::r=>r.all (λy=>(m.getD y.1 0).testBit x.1||indep ops x y)&&prs ops m r
theorem D6{m:List Nat}(hm:∀j k,(m.getD j 0).testBit k=true->CX ops k j):∀l,prs ops m l=true->l.Pairwise λx y=>CX ops x.1 y.1\/indep ops x y=true:=by
 intro l
 induction l with
 |nil=>intro _;exact .nil
 |cons x r ih=>
  intro h;simp only[prs,Bool.and_eq_true,List.all_eq_true,Bool.or_eq_true]at h;exact .cons (λy hy=>(h.1 y hy).imp (hm _ _) id) (ih h.2)
structure WB (ops:Array Oper)(listed:Array Bool)(rem:List (Nat×Bool×Oper)):Prop where
 at_:∀x∈rem,ops[x.1]?=some x.2.2
 un:∀x∈rem,listed.getD x.1 true=false
 all:∀j,j<ops.size->listed.getD j true=false->∃x∈rem,x.1=j
 once:(rem.map (·.1)).Nodup
 size:listed.size=ops.size
 shut:∀j o e,ops[j]?=some o->listed.getD j false=true->e∈o.after->Region.binds .any e=true->listed.getD e.on false=true
theorem Is{listed:Array Bool}(shut:∀j o e,ops[j]?=some o->listed.getD j false=true->e∈o.after->Region.binds .any e=true->listed.getD e.on false=true){k i:Nat}(h:CX ops k i)
  (hi:∀o,ops[i]?=some o->∀e∈o.after,Region.binds .any e=true->listed.getD e.on false=true):listed.getD k false=true:=by
 induction h with
 |one ho he hb=>exact hi _ ho _ he hb
 |more ho he hb _ ih=>
  have h1:=hi _ ho _ he hb;exact ih λo' ho' e' OD hb'=>shut _ _ _ ho' h1 OD hb'
theorem o7{listed:Array Bool}{j:Nat}(h1:listed.getD j true=false)(h2:listed.getD j false=true):False:=by
 by_cases h:j<listed.size
 ·simp[h]at h1 h2;rw[h1]at h2;cases h2
 simp[Array.getElem?_eq_none (Nat.le_of_not_lt h)]at h2
theorem R6{Q:Exit->Act->World->Prop}{i:Nat}{o:Oper}(hi:ops[i]?=some o){K:Act->World->Prop}{a:Act}{w:World}(h:rP P ops o K a w):wpOp P ops Q i K a w:=by
 unfold rP at h;unfold wpOp;simp only[hi]
 split
 ·rename_i hw
  rw[if_pos hw]at h;refine .inl ?_;unfold Oper.wp at*;generalize (execOp a.eval o).run P w=r at*;cases r with
  |ok n w'=>
   cases n<;>simp only[Oper.upon]at h⊢
   case value u=>exact h
   case skip=>exact h
   case defer d=>exact h
   case enter f args=>
    refine Calls.mono h λe w'' he=> ?_;cases e with
    |returned z=>exact he
    |panicked c=>exact he.elim
    |outgrown=>exact(GF he).elim
   case row row args=>exact h
  |halt y w'=>cases y<;>simp only[Oper.upon]at h⊢<;>exact h.elim
 rename_i hw
 rw[if_neg hw]at h;exact h
theorem YieldsIf.rP{o:Oper}{v:Value}{a:Act}{w:World}{K:Act->World->Prop}(hy:YieldsIf P ops S o v a)(hS:S w)(h:K (a.put o.dst v) w):rP P ops o K a w:=by
 unfold dG.rP;rcases hy with⟨hw,hv⟩|⟨hw,rfl⟩
 ·rw[if_pos hw];simp only[Oper.wp,hv w hS,Oper.upon];exact h
 rw[if_neg (by simp[hw])];exact h
theorem zX{WA:Nat->Array Bool->Act->World->Prop}{C:Act->World->Prop}{l2:List (Nat×Bool×Oper)}{fuel0:Nat}(de:Region.noSelect ops=true)(vA:∀j o e,ops[j]?=some o->e∈o.after->Region.binds .any e=true->e.on<j)
  (IM:∀fuel listed a w,(∃i,i∈Region.ready .any ops listed)->(∀i∈Region.ready .any ops listed,∃o,ops[i]?=some o/\rP P ops o (WA fuel (listed.setIfInBounds i true)) a w)->WA (fuel+1) listed a w)
  (hC:∀listed,WB ops listed l2->∀a w,C a w->WA fuel0 listed a w):
  ∀(n:Nat) (rem:List (Nat×Bool×Oper)) (listed:Array Bool) (a:Act) (w:World),rem.length=n->WB ops listed (rem++l2)->rem.Pairwise (λx y=>CX ops x.1 y.1\/indep ops x y=true)->(∀x∈rem,∀y∈l2,CX ops x.1 y.1)->S w->
   ug P ops S C rem a w->WA (n+fuel0) listed a w:=by
 intro n
 induction n with
 |zero=>
  intro rem listed a w hn hI _ _ _ h;have:rem= []:=List.eq_nil_of_length_eq_zero hn;subst this
  simpa using hC listed (by simpa using hI) a w h
 |succ n ih=>
  intro rem listed a w hn hI hP AW hS h;rw[show n+1+fuel0=(n+fuel0)+1 from by omega];have An:∀{i k:Nat},i∈Region.ready .any ops listed->CX ops k i->listed.getD k false=true:=by
   intro i k hi hk;obtain⟨_,o,ho,rp⟩:=mem_ready.1 hi;exact Is hI.shut hk λo' ho' e he hb=>by rw[ho]at ho';cases ho';exact rp e he hb
  refine IM _ _ _ _ ?_ (λi hi=> ?_)
  ·
   cases hr0:Region.ready .any ops listed with
   |cons i r=>exact⟨i,by simp⟩
   |nil=>
   exfalso;have hr:=hr0;have fN:∃m,∃x∈rem++l2,x.1=m:=by
    cases rem with
    |nil=>simp at hn
    |cons x r=>exact⟨x.1,x,by simp,rfl⟩
   obtain⟨m0,hm0⟩:=fN;have least:∀m,(∃x∈rem++l2,x.1=m)->False:=by
    intro m
    induction m using Nat.strongRecOn with
    |_ m ihm=>
     rintro⟨x,hx,rfl⟩;have hrd:x.1∈Region.ready .any ops listed:=by
      refine mem_ready.2 ⟨hI.un x hx,x.2.2,hI.at_ x hx,λe he hb=> ?_⟩;have cL:=vA _ _ _ (hI.at_ x hx) he hb;have hxs:x.1<ops.size:=(Array.getElem?_eq_some_iff.1 (hI.at_ x hx)).1;cases hq:listed.getD e.on false with
      |true=>rfl
      |false=>
       exfalso;have hl:listed.getD e.on true=false:=by
        have:e.on<listed.size:=by rw[hI.size];omega
        simp[this]at hq⊢;exact hq
       obtain⟨y,hy,hy1⟩:=hI.all e.on (by omega) hl;exact ihm e.on cL ⟨y,hy,hy1⟩
     rw[hr]at hrd;cases hrd
   exact least m0 hm0
  ·obtain⟨hun,o,ho,rp⟩:=mem_ready.1 hi
   obtain⟨x,hx,N7⟩:=hI.all i (Array.getElem?_eq_some_iff.1 ho).1 hun;have hxr:x∈rem:=by
    rcases List.mem_append.1 hx with q|q
    ·exact q
    exfalso;cases rem with
    |nil=>simp at hn
    |cons y r=>
     have hA:=AW y (List.mem_cons_self ..) x q;rw[N7]at hA;exact o7 (hI.un y (by simp)) (An hi hA)
   obtain⟨pre,post,rfl⟩:=List.append_of_mem hxr;have hox:x.2.2=o:=by have:=hI.at_ x hx;rw[N7,ho]at this;cases this;rfl
   have agV:∀k∈pre,indep ops k x=true:=by
    intro k hk;have hkx:=(List.pairwise_append.1 hP).2.2 k hk x (List.mem_cons_self ..);rcases hkx with q|q
    ·exfalso
     rw[N7]at q;exact o7 (hI.un k (by simp[hk])) (An hi q)
    exact q
   have hns:zW (pre++x::post++l2):=λy hy cs b=>Region.noSelect_spec de y.1 y.2.2 cs b (hI.at_ y hy);have hnp:zW pre:=λy hy=>hns y (by simp[hy]);have hxs:=hns x hx;have hI':WB ops (listed.setIfInBounds i true) ((pre++post)++l2):=by
    have yR:i∉((pre++post)++l2).map (·.1):=by
     have h0:=hI.once;simp only[List.map_append,List.map_cons,List.append_assoc,List.cons_append]at h0;rw[List.nodup_append]at h0;obtain⟨h1,h2,h3⟩:=h0;rw[List.nodup_cons]at h2;simp only[List.map_append,List.append_assoc,List.mem_append,not_or];rw[N7]at h2;simp only[List.mem_append,not_or]at h2;refine⟨λhm=>h3 i hm i (by simp[N7]) rfl,h2.1.1,h2.1.2⟩
    have sub:∀y∈(pre++post)++l2,y∈pre++x::post++l2:=λy hy=>by
     simp only[List.mem_append,List.mem_cons]at hy⊢;grind
    have fN:∀y∈(pre++post)++l2,i≠y.1:=λy hy e=>yR (List.mem_map.2 ⟨y,hy,e.symm⟩);have his:i<listed.size:=by rw[hI.size];exact(Array.getElem?_eq_some_iff.1 ho).1
    refine⟨λy hy=>hI.at_ y (sub y hy),λy hy=>by rw[getD_set_ne true (fN y hy)];exact hI.un y (sub y hy),λj hj hl=> ?_, ?_,by simp[hI.size],λj o' e ho' hl he hb=> ?_⟩
    ·by_cases Zh:i=j
     ·subst Zh;simp[his]at hl
     rw[getD_set_ne true Zh]at hl;obtain⟨y,hy,hy1⟩:=hI.all j hj hl;refine⟨y, ?_,hy1⟩;simp only[List.mem_append,List.mem_cons]at hy⊢;rcases hy with(hy|rfl|hy)|hy
     ·exact .inl (.inl hy)
     ·exact absurd (N7.symm.trans hy1) Zh
     ·exact .inl (.inr hy)
     exact .inr hy
    ·have h0:=hI.once
     refine List.Nodup.sublist ?_ h0;refine List.Sublist.map _ (List.Sublist.append_right ?_ _);exact List.Sublist.append_left (List.sublist_cons_self ..) _
    by_cases Zh:i=j
    ·subst Zh;rw[ho]at ho';cases ho'
     exact getD_set_true (rp e he hb)
    rw[getD_set_ne false Zh]at hl;exact getD_set_true (hI.shut j o' e ho' hl he hb)
   have hlen:(pre++post).length=n:=by simp at hn⊢;omega
   have hP':(pre++post).Pairwise λx y=>CX ops x.1 y.1\/indep ops x y=true:=hP.sublist (List.Sublist.append_left (List.sublist_cons_self ..) _);have agZ:∀y∈pre++post,∀z∈l2,CX ops y.1 z.1:=λy hy z hz=>AW y (by simp only[List.mem_append,List.mem_cons]at hy⊢;grind) z hz;obtain⟨xi,fl,xo⟩:=x;simp only at N7 hox;subst N7;subst hox;cases fl with
   |true=>
    obtain⟨v,hv,h'⟩:=mvR pre a w agV hnp hxs hS h;exact⟨xo,ho,YieldsIf.rP hv hS (ih _ _ _ _ hlen hI' hP' agZ hS h')⟩
   |false=>exact⟨xo,ho,xL (λa' w' hh=>ih _ _ _ _ hlen hI' hP' agZ hh.1 hh.2) (mvW pre a w agV hnp hxs hS h)⟩
def sM (fl:List Bool)(ops:Array Oper):List (Nat×Bool×Oper):=(List.range' 0 ops.toList.length).zip (fl.zip ops.toList)
def A7 (k:Nat)(fl:List Bool)(ops:Array Oper):Bool:=
 let m:=IK ops.toList []
 let l:=sM fl ops
 fl.length==ops.toList.length&&Region.noSelect ops&&l.all (λx=>x.2.2.after.toList.all λe=> !Region.binds .any e||Nat.blt e.on x.1)&&
  prs ops m (l.take k)&&prs ops m (l.drop k)&&(l.take k).all λx=>(l.drop k).all λy=>(m.getD y.1 0).testBit x.1
theorem P8{fl:List Bool}(h:fl.length=ops.toList.length){x:Nat×Bool×Oper}(hx:x∈sM fl ops):ops[x.1]?=some x.2.2:=by
 obtain⟨j,hj⟩:=List.getElem?_of_mem hx;unfold sM at hj;rw[List.getElem?_zip_eq_some]at hj;obtain⟨h1,h2⟩:=hj;rw[List.getElem?_zip_eq_some]at h2;have:x.1=j:=by
  rw[List.getElem?_range']at h1
  ·simp at h1;omega
  have:=(List.getElem?_eq_some_iff.1 h1).1;simpa using this
 rw[this,<-Array.getElem?_toList];exact h2.2
theorem wD{fl:List Bool}(h:fl.length=ops.toList.length):(sM fl ops).map (·.1)=List.range' 0 ops.toList.length:=by
 unfold sM;exact List.map_fst_zip (by simp[h])
theorem I6{WA:Nat->Array Bool->Act->World->Prop}{C2:Act->World->Prop}{S1 S2:World->Prop}{k:Nat}{fl:List Bool}
  (IM:∀fuel listed a w,(∃i,i∈Region.ready .any ops listed)->(∀i∈Region.ready .any ops listed,∃o,ops[i]?=some o/\rP P ops o (WA fuel (listed.setIfInBounds i true)) a w)->WA (fuel+1) listed a w)
  (abq:∀listed a w,Region.ready .any ops listed= []->C2 a w->WA 0 listed a w) (ok:A7 k fl ops=true) {a:Act} {w:World}
  (h:ug P ops S1 (λa w=>S2 w/\ug P ops S2 C2 ((sM fl ops).drop k) a w) ((sM fl ops).take k) a w) (abu:S1 w):WA ops.size (Array.replicate ops.size false) a w:=by
 simp only[A7,Bool.and_eq_true,beq_iff_eq,List.all_eq_true,Bool.or_eq_true,Bool.not_eq_true']at ok;obtain⟨⟨⟨⟨⟨h1,h2⟩,h3⟩,h4⟩,h5⟩,h6⟩:=ok;have uq:∀j k,((IK ops.toList []).getD j 0).testBit k=true->CX ops k j:=H4 _ _ (λj o hj=>by simpa using hj) (λj k Ob=>by simp at Ob);have vA:∀j o e,ops[j]?=some o->e∈o.after->Region.binds .any e=true->e.on<j:=by
  intro j o e ho he hb;have hj:j<ops.toList.length:=by simpa using(Array.getElem?_eq_some_iff.1 ho).1
  have hx:(j,fl[j]'(by omega),o)∈sM fl ops:=by
   refine List.mem_of_getElem? (i:=j) ?_;unfold sM;rw[List.getElem?_zip_eq_some];refine⟨by rw[List.getElem?_range' hj];simp, ?_⟩;rw[List.getElem?_zip_eq_some];exact⟨List.getElem?_eq_getElem (by omega),by rw[Array.getElem?_toList];exact ho⟩
  rcases h3 _ hx e (by simpa using he)with q|q
  ·rw[hb]at q;cases q
  exact Nat.le_of_ble_eq_true q
 have hI:WB ops (Array.replicate ops.size false) ((sM fl ops).take k++(sM fl ops).drop k):=by
  rw[List.take_append_drop];refine⟨λx hx=>P8 h1 hx,λx hx=> ?_,λj hj _=> ?_, ?_,by simp,λj o e ho hl=> ?_⟩
  ·have:=(Array.getElem?_eq_some_iff.1 (P8 h1 hx)).1
   simp[this]
  ·have:j∈(sM fl ops).map (·.1):=by rw[wD h1];simp;omega
   obtain⟨x,hx,N7⟩:=List.mem_map.1 this;exact⟨x,hx,N7⟩
  ·rw[wD h1];exact List.nodup_range' ..
  exfalso;have:=(Array.getElem?_eq_some_iff.1 ho).1;simp[this]at hl
 have hlen:((sM fl ops).take k).length+((sM fl ops).drop k).length=ops.size:=by
  have:=congrArg List.length (List.take_append_drop k (sM fl ops));rw[List.length_append]at this;rw[this];have:=congrArg List.length (wD h1)
  simpa using this
 have:=zX (P:=P) (S:=S1) (WA:=WA) (l2:=(sM fl ops).drop k) (fuel0:=((sM fl ops).drop k).length) h2 vA IM (λlisted hL a w hh=> ?_) _ ((sM fl ops).take k) (Array.replicate ops.size false) a _ rfl hI (D6 uq _ h4) (λx hx y hy=>uq _ _ (h6 x hx y hy)) abu h
 ·rwa[hlen]at this
 have:=zX (P:=P) (S:=S2) (WA:=WA) (C:=C2) (l2:= []) (fuel0:=0) h2 vA IM (λlisted hL a w hh=> ?_) _ ((sM fl ops).drop k) listed a w rfl (by simpa using hL) (D6 uq _ h5) (λx _ y hy=>by cases hy) hh.1 hh.2
 ·simpa using this
 refine abq _ _ _ ?_ hh;cases hr:Region.ready .any ops listed with
 |nil=>rfl
 |cons i r=>
  exfalso;have hi:i∈Region.ready .any ops listed:=by rw[hr];exact List.mem_cons_self ..
  obtain⟨hun,o,ho,_⟩:=mem_ready.1 hi;obtain⟨x,hx,_⟩:=hL.all i (Array.getElem?_eq_some_iff.1 ho).1 hun;cases hx
theorem Vt{Q:Exit->Act->World->Prop}(fuel:Nat)(listed:Array Bool)(a:Act)(w:World)(fN:∃i,i∈Region.ready .any ops listed)(h:∀i∈Region.ready .any ops listed,∃o,ops[i]?=some o/\rP P ops o (wpAny P .any ops Q fuel (listed.setIfInBounds i true)) a w):
  wpAny P .any ops Q (fuel+1) listed a w:=by
 refine⟨λhr=> ?_,λi hi=> ?_⟩
 ·obtain⟨i,hi⟩:=fN;rw[hr]at hi;cases hi
 obtain⟨o,ho,hh⟩:=h i hi;exact R6 ho hh
theorem yg{Q:Exit->Act->World->Prop}{S1 S2:World->Prop}{id k:Nat}{fl:List Bool}(hm:P.follows .mixedOrders=true)(ok:A7 k fl ops=true){a:Act}{w:World}
  (h:ug P ops S1 (λa w=>S2 w/\ug P ops S2 (Q .normal) ((sM fl ops).drop k) a w) ((sM fl ops).take k) a {w with drawn:=w.drawn+1}) (abu:S1 {w with drawn:=w.drawn+1}):(Code.region id ops true).wp P Q a w:=
 wp_region_any hm (I6 (WA:=wpAny P .any ops Q) Vt (λlisted a w hr hq=>⟨hr,hq⟩) ok h abu)
end
def TT (P:Program)(ops:Array Oper)(F:dC)(C:Act->World->Prop)(l:List (Nat×Bool×Oper)):Act->World->Prop:=λa w=>cJ F w/\ug P ops (cJ F) C l a w
section
variable {P:Program} {n:Nat} {ds:List Deferred} {F:dC} {Q:Exit->Act->World->Prop} {K:Act->World->Prop} {σ:aZ} {H:List aa} {o:Oper} {d i:Nat} {ops:Array Oper} {C:Act->World->Prop} {rest:List (Nat×Bool×Oper)}
theorem aic{id:Nat}(fl:List Bool)(hm:P.follows .mixedOrders=true)(h:G n ds F (TT P ops F (Q .normal) (sM fl ops)) σ H)(ok:A7 ops.size fl ops=true:=by kernel_rfl):G n ds F ((Code.region id ops true).wp P Q) σ H:=by
 have hk:(sM fl ops).length<=ops.size:=by
  have h1:fl.length=ops.toList.length:=by simp only[A7,Bool.and_eq_true,beq_iff_eq]at ok;exact ok.1.1.1.1.1
  have:=congrArg List.length (wD (ops:=ops) h1);simp at this;omega
 refine .mk λa w e s=>yg (k:=ops.size) (fl:=fl) (S1:=cJ F) (S2:=cJ F) hm ok ?_ s.frame;rw[List.take_of_length_le hk,List.drop_of_length_le hk];have h2:∀(l:List (Nat×Bool×Oper)) (a:Act) (w:World),cJ F w->ug P ops (cJ F) (Q .normal) l a w->ug P ops (cJ F) (λa w=>cJ F w/\ug P ops (cJ F) (Q .normal) [] a w) l a w:=by
  intro l
  induction l with
  |nil=>intro a w hS hh;exact⟨hS,hh⟩
  |cons x l ih=>
   obtain⟨j,fl,ox⟩:=x;intro a w hS hh;cases fl with
   |true=>obtain⟨v,hv,hh⟩:=hh;exact⟨v,hv,ih _ _ hS hh⟩
   |false=>exact xL (λa' w' hq=>⟨hq.1,ih _ _ hq.1 hq.2⟩) hh
 exact h2 _ _ _ s.frame (h a _ e (s.drawn _)).2
theorem adt{id:Nat}{As R:List aa}(k:Nat)(fl:List Bool)(hm:P.follows .mixedOrders=true)(de:iI H As R)
  (h:∀F':dC,Le F.h F'.h->gP As F'.h->zx F As F'->G n ds F' (TT P ops F' (TT P ops F (Q .normal) ((sM fl ops).drop k)) ((sM fl ops).take k)) σ R) (ok:A7 k fl ops=true:=by kernel_rfl):G n ds F ((Code.region id ops true).wp P Q) σ H:=by
 refine .mk λa w e s=> ?_;obtain⟨a1,a2,a3,fr,hh,st,hl,rA⟩:=s;obtain⟨h1,h2,d12,l1,l2,s1,s2⟩:=bx (de.out _ st);have AX:bQ h1 F.h:=rA.left l1
 let F':dC:={F with h:=fA h1 F.h}
 have hb:zx F As F':=by
  intro R' w' s';obtain⟨b1,b2,b3,rC,yZ,wY,yW,hd'⟩:=s';exact⟨b1,b2,b3,(aR AX).trans rC,fA h1 yZ,bK s1 wY (hd'.right (aW _ _)).symm,bY ((aW _ _).trans rC) yW,bQ.fA AX (hd'.right (aR AX))⟩
 have s':St F' R {w with drawn:=w.drawn+1}:=⟨a1,⟨a2.1,Nat.le_succ_of_le a2.2⟩,a3,bY (l1.trans hl) fr,h2,s2,l2.trans hl,(bQ.fA d12 (rA.left l2).symm).symm⟩;refine yg (k:=k) (fl:=fl) (S1:=cJ F') (S2:=cJ F) hm ok ?_ s'.frame;exact(h F' (aR AX) (cq s1 (aW _ _)) hb a _ e s').2
theorem Ti{v:Value}(hy:Yv P n ds F σ o v)(h:G n ds F (TT P ops F C rest) ((d,v)::σ) H)(hg:Oh ops o σ=true:=by exact rfl)(hd:o.dst=some d:=by exact rfl)(hdn:Nat.blt d n=true:=by exact rfl):G n ds F (TT P ops F C ((i,true,o)::rest)) σ H:=
 .mk λa w e s=>⟨s.frame,v, .inl ⟨jT hg e,λw hw=>hy a w e hw⟩,by rw[hd];exact(h _ w (e.put hdn v) s).2⟩
theorem Tp (h:G n ds F (λa w=>o.wp P a w (TT P ops F C rest) Zt) σ H)(hg:Oh ops o σ=true:=by exact rfl):G n ds F (TT P ops F C ((i,false,o)::rest)) σ H:=
 .mk λa w e s=>⟨s.frame,by unfold ug rP;rw[if_pos (jT hg e)];exact h a w e s⟩
theorem Tx{b:Bool}(h:G n ds F (TT P ops F C rest) ((d,undef)::σ) H)(hg:gno ops o σ=true:=by exact rfl)(hd:o.dst=some d:=by exact rfl)(hdn:Nat.blt d n=true:=by exact rfl):G n ds F (TT P ops F C ((i,b,o)::rest)) σ H:=
 .mk λa w e s=>by
  refine⟨s.frame, ?_⟩;have h':=(h _ w (e.put hdn undef) s);cases b with
  |true=>exact⟨undef, .inr ⟨oQ hg e,rfl⟩,by rw[hd];exact h'.2⟩
  |false=>unfold ug rP;rw[if_neg (by simp[oQ hg e]),hd];exact h'
theorem Tn (h:G n ds F C σ H):G n ds F (TT P ops F C []) σ H:= .mk λa w e s=>⟨s.frame,h a w e s⟩
theorem gd{F':dC}{As:List aa}(hb:zx F As F')(h:G n ds F C σ (As++H)):G n ds F' (TT P ops F' C []) σ H:= .mk λa w e s=>⟨s.frame,h a w e (hb _ _ s)⟩
theorem Tne{K:Act->World->Prop}(h:G n ds F K σ H):G n ds F (TT P ops F (Exit.then K Q .normal) []) σ H:=Tn h
def Wb (P:Program)(ld:Bool)(ops:Array Oper):List Bool:=ops.toList.map λo=>match o.op with
 | .load _ _=>ld
 | .move _| .assign _| .pick _ _ _| .nilCheck _| .binOp _ _ _ _ _| .unOp _ _ _| .fieldAddr _ _ _| .field _ _ _| .indexAddr _ _ _| .index _ _ _| .extract _ _| .slice _ _ _ _ _| .build _ _| .makeFunc _ _ _| .makeInterface _ _| .typeAssert _ _ _ _=>true
 | .convert s t _=>match P.underlying t with
  |some (.slice _)=>false
  |_=>match P.underlying s with
   |some (.slice _)=>ld
   |_=>true
 | .call c=>match c.callee with
  | .builtin .len=>true
  | .builtin .cap=>true
  | .builtin .min=>true
  | .builtin .max=>true
  |_=>false
 |_=>false
theorem gT{id:Nat}(ld:Bool)(hm:P.follows .mixedOrders=true)(h:G n ds F (TT P ops F (Q .normal) (sM (Wb P ld ops) ops)) σ H)(ok:A7 ops.size (Wb P ld ops) ops=true:=by kernel_rfl):G n ds F ((Code.region id ops true).wp P Q) σ H:=aic _ hm h ok
theorem hJ{id:Nat}{As R:List aa}(k:Nat)(hm:P.follows .mixedOrders=true)(de:iI H As R)
  (h:∀F':dC,Le F.h F'.h->gP As F'.h->zx F As F'->G n ds F' (TT P ops F' (TT P ops F (Q .normal) ((sM (Wb P true ops) ops).drop k)) ((sM (Wb P true ops) ops).take k)) σ R) (ok:A7 k (Wb P true ops) ops=true:=by kernel_rfl):G n ds F ((Code.region id ops true).wp P Q) σ H:=adt k _ hm de h ok
end
end Go.dG
namespace Go.dG
open Go
variable {P:Program} {n:Nat} {ds:List Deferred} {F:dC} {Q:Exit->Act->World->Prop} {K:Act->World->Prop} {σ:aZ} {H:List aa} {o:Oper} {d:Nat}
theorem Bda{t e:TypeId}{sz k:Nat}{zs vs cs:List Value}{parts:List (Nat×Operand)}(hz:bX P t=some zs)(ht:AY P t=some (k,e,sz))(ho:o.op= .build t parts.toArray:=by exact rfl)(hv:ki σ (parts.map (·.2))=some vs:=by exact rfl)
  (hc:o5 (λi=>some (i*sz,sz)) zs ((parts.map (·.1)).zip vs)=some cs:=by exact rfl):Yv P n ds F σ o (.agg cs.toArray):=
 λac w en fr=>by
  have hp:=vj en hv;obtain⟨zv,hzr,Fz⟩:=qn hz (w:=w);unfold AY at ht;cases hu:P.underlying t with
  |none=>simp[hu]at ht
  |some dsc=>
   cases dsc<;>simp[hu]at ht
   rename_i k' e'
   cases hi:P.info? e' with
   |none=>simp[hi]at ht
   |some inf=>
    simp[hi]at ht;obtain⟨rfl,rfl,rfl⟩:=ht;have lV:=fill_eq _ _ _ _ hc;rw[<-hp]at lV;simp[execOp,ho,Instr.build,hzr,run_underlying hu,sizeOf,typeInfo,hi,Fz,lV]
end Go.dG
namespace Go.dG
open Go Go.MapKept
section
variable {P:Program} {n:Nat} {ds:List Deferred} {F:dC} {Q:Exit->Act->World->Prop} {K:Act->World->Prop} {σ:aZ} {H:List aa} {o:Oper} {d:Nat}
theorem Mf{fn:Fn}{fs cs:List Operand}{fv cv:List Value}(ho:o.op= .makeFunc fn fs.toArray cs.toArray:=by exact rfl)(hf:ki σ fs=some fv:=by exact rfl)(hc:ki σ cs=some cv:=by exact rfl):Yv P n ds F σ o (.func fn fv.toArray cv.toArray):=
 λa w e _=>by
  have h1:=e.vD hf;have h2:=e.vD hc;simp[execOp,ho,Instr.makeFunc,<-h1,<-h2]
theorem LD{ρ:Operand->Value}{f:FuncId}{xs:List Operand}{vs fv cv:List Value}{rT:Array TypeId}{w:World}{fn:Func}{x:Operand}(ho:o.op= .call {callee:= .value x,args:=xs.toArray,argTypes:=rT})
  (hρ:ρ x= .func (.func f) fv.toArray cv.toArray) (hv:xs.map ρ=vs) (hf:P.funcs[f]?=some fn) (hb:fn.body.isSome=true) (hnm:(fn.name== "runtime.NumGoroutine")=false):
  (execOp ρ o).run P w= .ok (.enter f (fv++vs++cv).toArray) w:=by
 have ah7:fn.body.isNone=false:=by rw[<-Option.not_isSome,hb];rfl
 have abk:¬fn.name= "runtime.NumGoroutine" :=by simpa using hnm
 have hb':¬fn.body=none:=by intro q;rw[q]at hb;cases hb
 simp[execOp,ho,resolve,hρ,Deferred.ofValue,invoke,callFunc,hf,<-hv];rw[if_neg abk,if_neg hb']
theorem Tj{f:FuncId}{xs:List Operand}{vs fv cv:List Value}{rT:Array TypeId}{pre:Hp->Prop}{As R:List aa}{T:Value->List aa->Prop}{x:Operand}(kW:aC P f=true)(ho:o.op= .call {callee:= .value x,args:=xs.toArray,argTypes:=rT})
  (hd:o.dst=some d) (hx:bJ σ x=some (.func (.func f) fv.toArray cv.toArray)) (hv:ki σ xs=some vs) (hc:aO P f (fv++vs++cv) pre As T) (de:iI H As R) (iH:∀h,Le F.h h->gP R h->pre h) (hdn:Nat.blt d n=true)
  (h:∀v H',T v H'->G n ds F K ((d,v)::σ) (H'++R)):G n ds F (λa w=>o.wp P a w K Q) σ H:=by
 refine .mk λa w en s=> ?_;unfold aC at kW;cases hf:P.funcs[f]? with
 |none=>simp[hf]at kW
 |some fn=>
  simp only[hf,Bool.and_eq_true,Bool.not_eq_true']at kW;unfold Oper.wp;rw[LD ho (en.eval hx) (en.vD hv) hf kW.1 kW.2,Oper.upon_enter];obtain⟨a1,a2,a3,fr,hh,st,hl,rA⟩:=s;obtain⟨h1,h2,d12,l1,l2,s1,s2⟩:=bx (de.out _ st);have vu:bQ h2 F.h:=rA.left l2
  let F':dC:={F with h:=fA h2 F.h}
  have ia:Le F.h F'.h:=aR vu;have ib:Le h2 F'.h:=aW _ _;have wY:St F' As w:=⟨a1,a2,a3,bY (l2.trans hl) fr,h1,s1,l1.trans hl,(bQ.fA d12.symm (rA.left l1).symm).symm⟩;refine(hc F' w (iH _ ia (cq s2 ib)) wY).mono ?_;rintro e w' ⟨v,H',rfl,hT,sw⟩;obtain⟨b1,b2,b3,rC,yZ,st2,yW,kf⟩:=sw;rw[hd];refine h v H' hT _ _ (en.put hdn v) ⟨b1,b2,b3,ia.trans rC,fA yZ h2,bK st2 s2 (kf.right ib),bY yW (ib.trans rC),bQ.fA (kf.right ia) vu⟩
theorem Y9{f:FuncId}{xs:List Operand}{vs fv cv:List Value}{rT:Array TypeId}{pre:Hp->Prop}{A2 R:List aa}{T:Value->List aa->Prop}{x:Operand}(kW:aC P f=true)(ho:o.op= .call {callee:= .value x,args:=xs.toArray,argTypes:=rT})
  (hx:bJ σ x=some (.func (.func f) fv.toArray cv.toArray)) (hv:ki σ xs=some vs) (hc:aO P f (fv++vs++cv) pre A2 T) (de:iI H A2 R) (iH:∀h,Le F.h h->gP R h->pre h)
  (h:∀v H',T v H'->G n ds F K ((d,v)::σ) (H'++R)) (hd:o.dst=some d:=by exact rfl) (hdn:Nat.blt d n=true:=by exact rfl):G n ds F (λa w=>o.wp P a w K Q) σ H:=
 Tj kW ho hd hx hv hc de iH hdn h
def tA (P:Program)(t:TypeId):Bool:=match P.underlying t with|some (.interface _)=>false|some _=>true|none=>false
theorem tZ{t:TypeId}(h:tA P t=true):∃dd,P.underlying t=some dd/\∀ms,dd≠ .interface ms:=by
 unfold tA at h;cases hu:P.underlying t with
 |none=>simp[hu]at h
 |some dd=>exact⟨dd,rfl,λms q=>by subst q;simp[hu]at h⟩
theorem VR{t:TypeId}{x:Operand}{v:Value}(ht:tA P t=true)(ho:o.op= .makeInterface t x:=by exact rfl)(hx:bJ σ x=some v:=by exact rfl):Yv P n ds F σ o (.iface t v):=λa w e _=>by
 obtain⟨dd,hu,fN⟩:=tZ ht;have:(Instr.makeInterface t v).run P w= .ok (.iface t v) w:=by
  cases dd<;>simp_all[Instr.makeInterface,run_underlying hu]
 simp[execOp,ho,e.eval hx,this]
def isIface (P:Program)(t:TypeId):Bool:=match P.underlying t with|some (.interface _)=>true|_=>false
theorem uc{t:TypeId}(h:isIface P t=true):∃ms,P.underlying t=some (.interface ms):=by
 unfold isIface at h;cases hu:P.underlying t with
 |none=>simp[hu]at h
 |some dd=>cases dd<;>simp[hu]at h;exact⟨_,rfl⟩
theorem Xd{t tv:TypeId}{v:Value}(ht:isIface P t=true)(w:World):(Op.equalIn 10000 t (.iface tv v) .nilIface).run P w= .ok false w:=by
 obtain⟨ms,hu⟩:=uc ht;unfold Op.equalIn;simp[run_underlying hu]
theorem Xc{t:TypeId}(ht:isIface P t=true)(w:World):(Op.equalIn 10000 t .nilIface .nilIface).run P w= .ok true w:=by
 obtain⟨ms,hu⟩:=uc ht;unfold Op.equalIn;simp[run_underlying hu]
theorem Iq{op:BinOp}{t yt tv:TypeId}{x:Operand}{v:Value}{b:Bool}(ht:isIface P t=true)(ho:o.op= .binOp op t x (.const .nilIface) yt:=by exact rfl)(hx:bJ σ x=some (.iface tv v):=by exact rfl)
  (hop:(op= .eql/\b=false)\/(op= .neq/\b=true):=by first|exact .inl ⟨rfl,rfl⟩|exact .inr ⟨rfl,rfl⟩):Yv P n ds F σ o (.bool b):=λa w e _=>by
 have hc:a.eval (.const .nilIface)= .nilIface:=rfl;have q:=Xd (P:=P) (tv:=tv) (v:=v) ht w;rcases hop with⟨rfl,rfl⟩|⟨rfl,rfl⟩<;>simp[execOp,ho,e.eval hx,hc,eqGuard,binOp,Op.equal,Op.maxDepth,q]
theorem Iqn{op:BinOp}{t yt:TypeId}{x:Operand}{b:Bool}(ht:isIface P t=true)(ho:o.op= .binOp op t x (.const .nilIface) yt:=by exact rfl)(hx:bJ σ x=some .nilIface:=by exact rfl)
  (hop:(op= .eql/\b=true)\/(op= .neq/\b=false):=by first|exact .inl ⟨rfl,rfl⟩|exact .inr ⟨rfl,rfl⟩):Yv P n ds F σ o (.bool b):=λa w e _=>by
 have hc:a.eval (.const .nilIface)= .nilIface:=rfl;have q:=Xc (P:=P) ht w;rcases hop with⟨rfl,rfl⟩|⟨rfl,rfl⟩<;>simp[execOp,ho,e.eval hx,hc,eqGuard,binOp,Op.equal,Op.maxDepth,q]
theorem TaT{xt t:TypeId}{x:Operand}{v:Value}(ht:tA P t=true)(ho:o.op= .typeAssert x xt t true:=by exact rfl)(hx:bJ σ x=some (.iface t v):=by exact rfl):Yv P n ds F σ o (.tuple #[v, .bool true]):=λa w e _=>by
 obtain⟨dd,hu,fN⟩:=tZ ht;have:(Instr.typeAssert (.iface t v) xt t true).run P w= .ok (.tuple #[v, .bool true]) w:=by
  cases dd<;>simp_all[Instr.typeAssert,run_underlying hu]
 simp[execOp,ho,e.eval hx,this]
end
inductive mq (dd:TypeDesc) (b:Nat) (es:List (Value×Value)) (h:Hp):Prop
 |mk (eA:Array MapEntry) (v8:Nat) (he:eA.toList.map (λe=>(e.key,e.val))=es) (hk:∀x∈eA.toList,IsKey dd x.key) (hs:Stamped eA v8) (hb:h b=some (.map eA v8))
noncomputable def uh (es:List (Value×Value))(k:Value):Option Value:=by
 classical exact(es.find? λe=>decide (e.1=k)).map (·.2)
noncomputable def CY (es:List (Value×Value))(k v:Value):List (Value×Value):=by
 classical exact if(∃e∈es,e.1=k)then es.map (λe=>if e.1=k then(k,v)else e)else es++ [(k,v)]
noncomputable def FF (es:List (Value×Value))(k:Value):List (Value×Value):=by
 classical exact es.filter λe=>decide (e.1≠k)
theorem TA{dd:TypeDesc}{b:Nat}{es:List (Value×Value)}{h:Hp}(p:mq dd b es h):(es.map (·.1)).Nodup:=by
 obtain⟨eA,v8,he,_,hs,_⟩:=p;rw[<-he]
 simpa[Function.comp_def]using hs.2.2
theorem Cy{dd:TypeDesc}{k:Value}(hk:IsKey dd k){eA:Array MapEntry}(OC:∀x∈eA.toList,IsKey dd x.key):
  (Instr.findNow dd k eA.toList 0=some none/\∀e∈eA.toList.map (λe=>(e.key,e.val)),e.1≠k)\/∃j e,Instr.findNow dd k eA.toList 0=some (some (j,e.val))/\eA[j]?=some e/\e.key=k:=by
 rcases findNow_spec hk eA.toList 0 OC with⟨h1,h2⟩|⟨j,e,h1,h2,h3⟩
 ·refine .inl ⟨h1,λe he=> ?_⟩
  obtain⟨x,hx,rfl⟩:=List.mem_map.1 he;exact h2 x hx
 exact .inr ⟨j,e,by simpa using h1,by simpa using h2,h3⟩
theorem Eg{es:List (Value×Value)}{k:Value}(h:∀e∈es,e.1≠k):uh es k=none:=by
 simp only[uh,Option.map_eq_none_iff,List.find?_eq_none];intro e he;simpa using h e he
theorem TN{es:List (Value×Value)}{k v:Value}(hn:(es.map (·.1)).Nodup)(h:(k,v)∈es):uh es k=some v:=by
 induction es with
 |nil=>cases h
 |cons e es ih=>
  simp only[List.map_cons,List.nodup_cons]at hn;rcases List.mem_cons.1 h with rfl|h
  ·simp[uh]
  have fN:e.1≠k:=λq=>hn.1 (List.mem_map.2 ⟨(k,v),h,q.symm⟩);have:=ih hn.2 h;simp only[uh]at this⊢;rw[List.find?_cons_of_neg (by simpa using fN)];exact this
theorem To{α:Type}{l:List α}(hn:l.Nodup){i j:Nat}{x:α}(hi:l[i]?=some x)(hj:l[j]?=some x):i=j:=by
 obtain⟨h1,e1⟩:=List.getElem?_eq_some_iff.1 hi;obtain⟨h2,e2⟩:=List.getElem?_eq_some_iff.1 hj;have hp:=List.pairwise_iff_getElem.1 hn;rcases Nat.lt_trichotomy i j with q|q|q
 ·exact absurd (e1.trans e2.symm) (hp i j h1 h2 q)
 ·exact q
 exact absurd (e2.trans e1.symm) (hp j i h2 h1 q)
theorem uf{dd:TypeDesc}{k:Value}(h:VE dd k=true)(m:Nat):Instr.sameBits m k k=true:=by
 cases dd<;>cases k<;>simp[VE]at h<;>simp[Instr.sameBits];exact(bytes_beq _ _).2 rfl
section
variable {P:Program} {n:Nat} {ds:List Deferred} {F:dC} {Q:Exit->Act->World->Prop} {K:Act->World->Prop} {σ:aZ} {H:List aa} {o:Oper} {d:Nat}
theorem oQm{t:TypeId}(dd:TypeDesc)(h:∀b,G n ds F K ((d, .map (some b))::σ) (mq dd b []::H))(ho:o.op= .makeMap t none:=by exact rfl)(hd:o.dst=some d:=by exact rfl)(hdn:Nat.blt d n=true:=by exact rfl):G n ds F (λa w=>o.wp P a w K Q) σ H:=by
 refine .mk λa w en s=> ?_;unfold Oper.wp;have:(execOp a.eval o).run P w= .ok (.value (.map (some w.heap.size))) (w.alloc (.map #[] 0)):=by
  have h0:(Instr.makeMap t none).run P w= .ok (.map (some w.heap.size)) (w.alloc (.map #[] 0)):=rfl;simp[execOp,ho,h0]
 rw[this,Oper.upon_value,hd];exact h _ _ _ (en.put hdn _) (s.Wn _ _ (.mk #[] 0 rfl (by simp) (stamped_empty 0) (by simp)))
theorem BU{es:List (Value×Value)}{k v:Value}(h:∃e∈es,e.1=k):CY es k v=es.map (λe=>by classical exact if e.1=k then(k,v)else e):=by
 unfold CY;rw[if_pos h]
theorem BV{es:List (Value×Value)}{k v:Value}(h:∀e∈es,e.1≠k):CY es k v=es++ [(k,v)]:=by
 unfold CY;rw[if_neg (by rintro⟨e,he,q⟩;exact h e he q)]
theorem E9{α:Type}(l:Array α)(i:Nat)(f:α->α):(l.modify i f).toList=l.toList.modify i f:=Array.toList_modify
theorem oQi{t k e:TypeId}{dd:TypeDesc}{z:Value}{m x y:Operand}{b:Nat}{es:List (Value×Value)}{kv v:Value}{f:aa->List aa}(ht:xc P t=some (k,dd,e,z))(h:G n ds F K σ (f (mq dd b (CY es kv v))))(ho:o.op= .mapUpdate t m x y\/o.op= .insert t m x y:=by first|exact .inl rfl|exact .inr rfl)(hd:o.dst=none:=by exact rfl)
  (hm:bJ σ m=some (.map (some b)):=by exact rfl) (hx:bJ σ x=some kv:=by exact rfl) (hy:bJ σ y=some v:=by exact rfl) (hk:VE dd kv=true:=by exact rfl) (hu:Pos H (mq dd b es) f:=by repeat (first|exact Pos.here|apply Pos.there)):
  G n ds F (λa w=>o.wp P a w K Q) σ H:=by
 classical
 refine .mk λa w en s=> ?_;obtain⟨N8,C1,_,_,_⟩:=nR ht;obtain⟨R,s1,s2⟩:=hu.vW;have sR:=s.vW s1;obtain⟨hh,⟨eA,v8,he,OC,gB,hb⟩,hl⟩:=sR.get;have hw:w.heap[b]?=some (.map eA v8):=hl _ _ hb;unfold Oper.wp;rcases Cy (jw hk) OC with⟨FP,mD⟩|⟨j,OH,FP,hj,oo⟩
 ·have:(execOp a.eval o).run P w= .ok .skip {w with heap:=w.heap.setIfInBounds b (.map (eA.push {key:=kv,val:=v,born:=v8}) (v8+1))}:=by
   have hup:(Instr.mapUpdate t (.map (some b)) kv v).run P w= .ok () {w with heap:=w.heap.setIfInBounds b (.map (eA.push {key:=kv,val:=v,born:=v8}) (v8+1))}:=by
    simp[Instr.mapUpdate,run_underlying N8,MapKept.run_getObj_map hw,MapKept.run_checkKey C1 (jw hk),MapKept.run_findKey C1 FP,MapKept.run_setObj_map _ hw,Result.andThen]
   rcases ho with ho|ho<;>simp[execOp,ho,en.eval hm,en.eval hx,en.eval hy,hup,Result.andThen]
  rw[this,Oper.upon_skip,hd];rw[he]at mD;refine h _ _ en (St.rE (s2 _) (sR.Wj (λh' p=>by obtain⟨_,_,_,_,_,q⟩:=p;exact⟨_,q⟩) (.mk (eA.push {key:=kv,val:=v,born:=v8}) (v8+1) (by rw[BV mD];simp[he]) (λq hq=> ?_) (stamped_push gB λq hq e=> ?_) (by simp))))
  ·simp only[Array.toList_push,List.mem_append,List.mem_singleton]at hq
   rcases hq with hq|rfl
   ·exact OC q hq
   exact jw hk
  exact mD (q.key,q.val) (by rw[<-he];exact List.mem_map.2 ⟨q,hq,rfl⟩) e
 have hold:eA.toList[j]?=some OH:=by simpa using hj
 have De:(execOp a.eval o).run P w= .ok .skip {w with heap:=w.heap.setIfInBounds b (.map (eA.modify j λe=>{e with key:=kv,val:=v}) v8)}:=by
  have hup:(Instr.mapUpdate t (.map (some b)) kv v).run P w= .ok () {w with heap:=w.heap.setIfInBounds b (.map (eA.modify j λe=>{e with key:=kv,val:=v}) v8)}:=by
   simp[Instr.mapUpdate,run_underlying N8,MapKept.run_getObj_map hw,MapKept.run_checkKey C1 (jw hk),MapKept.run_findKey C1 FP,hj,oo,Instr.keyThatStays,uf hk,MapKept.run_setObj_map _ hw,Result.andThen]
  rcases ho with ho|ho<;>simp[execOp,ho,en.eval hm,en.eval hx,en.eval hy,hup,Result.andThen]
 rw[De,Oper.upon_skip,hd];have wk:(kv,OH.val)∈es:=by rw[<-he,<-oo];exact List.mem_map.2 ⟨OH,List.mem_of_getElem? hold,rfl⟩
 have PG:(eA.modify j λe=>{e with key:=kv,val:=v}).toList.map (λe=>(e.key,e.val))=CY es kv v:=by
  rw[BU ⟨_,wk,rfl⟩,<-he,E9];apply List.ext_getElem?;intro i;simp only[List.getElem?_map,List.getElem?_modify];by_cases Zi:j=i
  ·subst Zi
   simp[hold,oo]
  cases hi:eA.toList[i]? with
  |none=>simp
  |some e'=>
   have fN:e'.key≠kv:=by
    intro q;have hn:=gB.2.2;exact Zi (To hn (x:=kv) (by simp[hold,oo]) (by simp[hi,q]))
   simp[fN,Zi]
 refine h _ _ en (St.rE (s2 _) (sR.Wj (λh' p=>by obtain⟨_,_,_,_,_,q⟩:=p;exact⟨_,q⟩) (.mk _ v8 PG (isKey_modify OC j _ (λe OD=>by rw[hj]at OD;cases OD;exact oo.symm)) (stamped_modify gB j _ (λ_ _=>rfl) (λe _ OD=>by rw[hj]at OD;cases OD;exact oo.symm)) (by simp))))
theorem Aj{t k e:TypeId}{dd:TypeDesc}{z:Value}{b:Nat}{es:List (Value×Value)}{kv:Value}{h:Hp}{w:World}(ht:xc P t=some (k,dd,e,z))(hk:VE dd kv=true)(p:mq dd b es h)(hl:Le h (j7 w))(c:Bool):
  (Instr.lookup t (.map (some b)) kv c).run P w= .ok (if c then .tuple #[(uh es kv).getD z, .bool (uh es kv).isSome]else(uh es kv).getD z) w:=by
 obtain⟨N8,C1,i,hi,hz⟩:=nR ht;have yR:=TA p;obtain⟨eA,v8,he,OC,gB,hb⟩:=p;have hw:w.heap[b]?=some (.map eA v8):=hl _ _ hb;rcases Cy (jw hk) OC with⟨FP,mD⟩|⟨j,OH,FP,hj,oo⟩
 ·rw[he]at mD
  rw[Eg mD];simp[Instr.lookup,run_underlying N8,MapKept.run_getObj_map hw,MapKept.run_checkKey C1 (jw hk),MapKept.run_findKey C1 FP,zeroValue,typeInfo,hi,hz,Result.andThen]
 have wk:(kv,OH.val)∈es:=by rw[<-he,<-oo];exact List.mem_map.2 ⟨OH,List.mem_of_getElem? (by simpa using hj),rfl⟩
 rw[TN yR wk];simp[Instr.lookup,run_underlying N8,MapKept.run_getObj_map hw,MapKept.run_checkKey C1 (jw hk),MapKept.run_findKey C1 FP,Result.andThen]
theorem oQl{t k e:TypeId}{dd:TypeDesc}{z:Value}{m x:Operand}{b:Nat}{es:List (Value×Value)}{kv:Value}{R:List aa}(ht:xc P t=some (k,dd,e,z))(h:G n ds F K ((d,(uh es kv).getD z)::σ) H)(ho:o.op= .lookup t m x false:=by exact rfl)(hd:o.dst=some d:=by exact rfl)
  (hm:bJ σ m=some (.map (some b)):=by exact rfl) (hx:bJ σ x=some kv:=by exact rfl) (hk:VE dd kv=true:=by exact rfl) (hs:fD H (mq dd b es) R:=by repeat (first|exact fD.here|apply fD.there)) (hdn:Nat.blt d n=true:=by exact rfl):G n ds F (λa w=>o.wp P a w K Q) σ H:=
 sf hd hdn (λa w en s=>by
  obtain⟨hh,p,hl⟩:=(s.vW hs).get;simp[execOp,ho,en.eval hm,en.eval hx,Aj ht hk p hl]) h
theorem Wm{t k e:TypeId}{dd:TypeDesc}{z:Value}{m x:Operand}{b:Nat}{es:List (Value×Value)}{kv:Value}{R:List aa}(ht:xc P t=some (k,dd,e,z))(h:G n ds F K ((d, .tuple #[(uh es kv).getD z, .bool (uh es kv).isSome])::σ) H)(ho:o.op= .lookup t m x true:=by exact rfl)(hd:o.dst=some d:=by exact rfl)
  (hm:bJ σ m=some (.map (some b)):=by exact rfl) (hx:bJ σ x=some kv:=by exact rfl) (hk:VE dd kv=true:=by exact rfl) (hs:fD H (mq dd b es) R:=by repeat (first|exact fD.here|apply fD.there)) (hdn:Nat.blt d n=true:=by exact rfl):G n ds F (λa w=>o.wp P a w K Q) σ H:=
 sf hd hdn (λa w en s=>by
  obtain⟨hh,p,hl⟩:=(s.vW hs).get;simp[execOp,ho,en.eval hm,en.eval hx,Aj ht hk p hl]) h
theorem oQd{t k e:TypeId}{dd:TypeDesc}{z:Value}{m x:Operand}{b:Nat}{es:List (Value×Value)}{kv:Value}{f:aa->List aa}{t2:TypeId}(ht:xc P t=some (k,dd,e,z))(h:G n ds F K σ (f (mq dd b (FF es kv))))(ho:o.op= .call {callee:= .builtin .delete,args:= #[m,x],argTypes:= #[t,t2]}:=by exact rfl)(hd:o.dst=none:=by exact rfl)
  (hm:bJ σ m=some (.map (some b)):=by exact rfl) (hx:bJ σ x=some kv:=by exact rfl) (hk:VE dd kv=true:=by exact rfl) (hu:Pos H (mq dd b es) f:=by repeat (first|exact Pos.here|apply Pos.there)):G n ds F (λa w=>o.wp P a w K Q) σ H:=by
 classical
 refine .mk λa w en s=> ?_;obtain⟨N8,C1,_,_,_⟩:=nR ht;obtain⟨R,s1,s2⟩:=hu.vW;have sR:=s.vW s1;obtain⟨hh,⟨eA,v8,he,OC,gB,hb⟩,hl⟩:=sR.get;have hw:w.heap[b]?=some (.map eA v8):=hl _ _ hb;have same:{w with heap:=w.heap.setIfInBounds b (.map eA v8)}=w:=by
  have cL:=(Array.getElem?_eq_some_iff.1 hw).1;have:w.heap.setIfInBounds b (.map eA v8)=w.heap:=by
   apply Array.ext_getElem?;intro i;rw[Array.getElem?_setIfInBounds]
   split
   ·rename_i q;subst q;rw[hw]
   rfl
  rw[this]
 unfold Oper.wp;rcases Cy (jw hk) OC with⟨FP,mD⟩|⟨j,OH,FP,hj,oo⟩
 ·have:(execOp a.eval o).run P w= .ok (.value (.tuple #[])) w:=by
   simp[execOp,ho,resolve,invoke,builtin,Builtin.delete_,en.eval hm,en.eval hx,run_underlying N8,MapKept.run_getObj_map hw,MapKept.run_checkKey C1 (jw hk),MapKept.run_findKey C1 FP,MapKept.run_setObj_map _ hw,Result.andThen,same]
  rw[this,Oper.upon_value,hd];rw[he]at mD;have o9:FF es kv=es:=by
   unfold FF;rw[List.filter_eq_self];intro e' OD;simpa using mD e' OD
  rw[o9]at h;exact h _ _ en (by
   have:=St.rE (s2 (mq dd b es)) sR;exact this)
 have cL:=(Array.getElem?_eq_some_iff.1 hj).1;have:(execOp a.eval o).run P w= .ok (.value (.tuple #[])) {w with heap:=w.heap.setIfInBounds b (.map (eA.eraseIdxIfInBounds j) v8)}:=by
  simp[execOp,ho,resolve,invoke,builtin,Builtin.delete_,en.eval hm,en.eval hx,run_underlying N8,MapKept.run_getObj_map hw,MapKept.run_checkKey C1 (jw hk),MapKept.run_findKey C1 FP,MapKept.run_setObj_map _ hw,Result.andThen]
 rw[this,Oper.upon_value,hd];have PG:(eA.eraseIdxIfInBounds j).toList.map (λe=>(e.key,e.val))=FF es kv:=by
  have e1:(eA.eraseIdxIfInBounds j).toList=eA.toList.eraseIdx j:=by
   unfold Array.eraseIdxIfInBounds;rw[dif_pos cL];simp
  rw[e1,<-he];have yR:(eA.toList.map (·.key)).Nodup:=gB.2.2;have hg:eA.toList[j]?=some OH:=by simpa using hj
  clear FP gB OC hb hw hl he this e1 same
  clear hj cL
  generalize eA.toList=l at*
  induction l generalizing j with
  |nil=>simp at hg
  |cons x l ih=>
   simp only[List.map_cons,List.nodup_cons]at yR;cases j with
   |zero=>
    simp at hg;subst hg;simp only[List.eraseIdx_cons_zero,List.map_cons,FF];rw[List.filter_cons_of_neg (by simp[oo])]
    symm
    rw[List.filter_eq_self];intro e' OD;obtain⟨y,hy,rfl⟩:=List.mem_map.1 OD;have:y.key≠x.key:=λq=>yR.1 (List.mem_map.2 ⟨y,hy,q⟩)
    simpa[<-oo]using this
   |succ j=>
    simp at hg;have hx':x.key≠kv:=λq=>yR.1 (List.mem_map.2 ⟨OH,List.mem_of_getElem? hg,oo.trans q.symm⟩);simp only[List.eraseIdx_cons_succ,List.map_cons,FF];rw[List.filter_cons_of_pos (by simpa using hx')]
    congr 1
    exact ih j yR.2 hg
 refine h _ _ en (St.rE (s2 _) (sR.Wj (λh' p=>by obtain⟨_,_,_,_,_,q⟩:=p;exact⟨_,q⟩) (.mk _ v8 PG (λq hq=>OC q ?_) (stamped_erase gB j) (by simp))));unfold Array.eraseIdxIfInBounds at hq;rw[dif_pos cL]at hq;exact(List.eraseIdx_sublist _ _).subset (by simpa using hq)
end
end Go.dG
namespace Go.dG
open Go Go.MapKept
theorem St.Wi{F:dC}{H:List aa}{w:World}{A B:aa}{b:Nat}{o':Obj}(s:St F (A::H) w)(hA:∀h,A h->Le h (j7 w)->(∃o,h b=some o)/\B λx=>if x=b then some o' else h x):
  St F (B::H) {w with heap:=w.heap.setIfInBounds b o'}:=by
 obtain⟨a1,a2,a3,fr,h,⟨h1,h2,d,l1,l2,hp,s⟩,y,z⟩:=s;obtain⟨⟨ob,hb⟩,hB⟩:=hA h1 hp (l1.trans y);have hw:w.heap[b]?=some ob:=(l1.trans y) _ _ hb;obtain⟨yQ,VG⟩:=heap_set (o':=o') hw;have fN:∀k:Hp,bQ h1 k->∀x o,k x=some o->x≠b:=by
  intro k dk x o e hx;subst hx;rcases dk x with q|q
  ·rw[hb]at q;cases q
  rw[e]at q;cases q
 have hold:∀k:Hp,bQ h1 k->Le k (j7 w)->Le k (j7 {w with heap:=w.heap.setIfInBounds b o'}):=by
  intro k dk lk x o e;have:=lk x o e;unfold j7 at*;show(w.heap.setIfInBounds b o')[x]?=some o;rw[VG x (fN k dk x o e)];exact this
 have dF:bQ h1 F.h:=z.left l1;have d2:∀k:Hp,bQ h1 k->bQ (λx=>if x=b then some o' else h1 x) k:=by
  intro k dk x;by_cases hx:x=b
  ·subst hx
   rcases dk x with q|q
   ·rw[hb]at q;cases q
   exact .inr q
  rcases dk x with q|q
  ·exact .inl (by simp[hx,q])
  exact .inr q
 refine⟨a1,a2,a3,hold _ dF fr,fA _ h2,⟨_,h2,d2 _ d,aW _ _,aR (d2 _ d),hB,s⟩,bY ?_ (hold _ d (l2.trans y)),bQ.fA (d2 _ dF) (z.left l2)⟩;intro x o e;by_cases hx:x=b
 ·subst hx;simp only[if_true]at e;cases e;exact yQ
 simp only[hx,if_false]at e;have:=(l1.trans y) x o e;unfold j7 at*;show(w.heap.setIfInBounds b o')[x]?=some o;rw[VG x hx];exact this
section
variable {P:Program} {n:Nat} {ds:List Deferred} {F:dC} {Q:Exit->Act->World->Prop} {K:Act->World->Prop} {σ:aZ} {H:List aa} {o:Oper} {d:Nat}
end
end Go.dG
namespace Go.dG
open Go
theorem HN{A:aa}{L H:List aa}{h:Hp}(s:ai (aG (A::L)::H) h):ai (A::aG L::H) h:=by
 obtain⟨h1,h2,d,l1,l2,⟨h3,h4,d',l3,l4,a,s1⟩,s2⟩:=s;refine⟨h3,fA h4 h2, ?_,l3.trans l1,bY (l4.trans l1) l2,a,h4,h2,d.left l4,aW _ _,aR (d.left l4),s1,s2⟩;exact(bQ.fA d'.symm (d.left l3).symm).symm
theorem HM{A:aa}{L H:List aa}{h:Hp}(s:ai (A::aG L::H) h):ai (aG (L++ [A])::H) h:=by
 have s:=dx s;have:ai (aG L::([A]++H)) h:=s;exact yn this
section
variable {P:Program} {n:Nat} {ds:List Deferred} {F:dC} {Q:Exit->Act->World->Prop} {K:Act->World->Prop} {σ:aZ} {H:List aa} {o:Oper} {d:Nat}
theorem Lm{α:Type}{f:α->aa}{X:α->Hp->Prop}(hx:∀a k,f a k->X a k)(hm:∀a k l,X a k->Le k l->X a l):∀(L:List α) (h:Hp),ai (L.map f) h->∀a∈L,X a h:=by
 intro L
 induction L with
 |nil=>intro h _ a ha;cases ha
 |cons b r ih=>
  intro h s a ha;obtain⟨h1,h2,d,l1,l2,p,s2⟩:=s;rcases List.mem_cons.1 ha with rfl|ha
  ·exact hm _ _ _ (hx _ _ p) l1
  exact hm _ _ _ (ih h2 s2 a ha) l2
theorem Tg{a:Option Addr}{cap e sz:Nat}{xs:List Value}{R:List aa}{w:World}(s:St F (own a cap e sz xs::R) w):
  (a=none/\cap=0/\xs= [])\/∃b sp,a=some ⟨b,0,none⟩/\xs.length+sp.length=cap*sz/\cap<=maxLen/\St F (af b e (xs++sp)::R) w:=by
 obtain⟨a1,a2,a3,fr,h,⟨h1,h2,dd,l1,l2,⟨q1,q2,q3|⟨b,sp,rfl,q4,q5⟩⟩,st⟩,y,zz⟩:=s
 ·obtain⟨rfl,rfl⟩:=q3
  exact .inl ⟨rfl,rfl,List.eq_nil_of_length_eq_zero (by omega)⟩
 exact .inr ⟨b,sp,rfl,q4,q2,a1,a2,a3,fr,h,⟨h1,h2,dd,l1,l2,q5,st⟩,y,zz⟩
theorem NR{b cap e sz:Nat}{xs sp:List Value}{R:List aa}{w:World}(hl:xs.length+sp.length=cap*sz)(hm:cap<=maxLen)(s:St F (af b e (xs++sp)::R) w):St F (own (some ⟨b,0,none⟩) cap e sz xs::R) w:=
 s.sub λ_ s'=>bB (λ_ p=>⟨by omega,hm, .inr ⟨b,sp,rfl,hl,p⟩⟩) s'
theorem XF{a:Option Addr}{cap e sz:Nat}{xs ys:List Value}{h:Hp}(o:own a cap e sz (xs++ys) h):own a cap e sz xs h:=by
 have:=xZ o xs.length
 rwa[List.take_left]at this
theorem oSON{t k':TypeId}{x y:Operand}{a:Option Addr}{j cap e sz:Nat}{cells vs:List Value}{f:aa->List aa}(hs:cG P t=some k')(h:G n ds F K σ (f (own a cap e sz (cZ cells j vs))))(ho:o.op= .store t x y:=by exact rfl)(hd:o.dst=none:=by exact rfl)
  (hx:bJ σ x=some (.pointer (a.map (·.add j))):=by exact rfl) (hy:bJ σ y=some (.agg vs.toArray):=by exact rfl) (hk:vs.length=k':=by exact rfl) (h1:∀v∈vs,v.oneCell'=true:=by simp[cZ,Value.cells,Value.oneCell',bD])
  (hu:Pos H (own a cap e sz cells) f:=by repeat (first|exact Pos.here|apply Pos.there)) (hj:j+vs.length<=cells.length:=by first|omega|(simp;omega)) (h0:0<vs.length:=by first|omega|(simp;done)|(simp;omega)):G n ds F (λa w=>o.wp P a w K Q) σ H:=by
 refine .mk λac w en s=> ?_;obtain⟨R,s1,s2⟩:=hu.vW;rcases Tg (s.vW s1)with⟨rfl,rfl,rfl⟩|⟨b,sp,rfl,q4,q2,st⟩
 ·simp only[List.length_nil]at hj;omega
 obtain⟨w',hr,s'⟩:=j5 (P:=P) vs j 0 (cells++sp) w st (by rw[List.length_append];omega) h1;unfold Oper.wp;have:(execOp ac.eval o).run P w= .ok .skip w':=by
  simp[execOp,ho,en.eval hx,en.eval hy,Instr.storeAt,Instr.sureAddr,storeVar,(fy hs).2,Value.cells,hk,add_lit,hr]
 rw[this,Oper.upon_skip,hd];refine h _ _ en (St.rE (s2 _) (NR (b:=b) (sp:=sp) ?_ q2 ?_))
 ·rw[vN];exact q4
 have e:cZ (cells++sp) j vs=cZ cells j vs++sp:=by
  rw[mN (by rw[List.length_append];omega),mN hj,List.take_append_of_le_length (by omega),List.drop_append_of_le_length (by omega)];simp
 have s'':=s';simp only[Nat.add_zero]at s'';rw[e]at s'';exact s''
def V6 (a:Option Addr)(c e sz:Nat)(pre news:List Value)(g:Option Addr)(gc:Nat):aa:=λh=>
 ((g=a/\gc=c)/\own a c e sz (pre++news) h)\/∃ys,aG [own g gc e sz (pre++news),own a c e sz (pre++ys)] h
end
end Go.dG
