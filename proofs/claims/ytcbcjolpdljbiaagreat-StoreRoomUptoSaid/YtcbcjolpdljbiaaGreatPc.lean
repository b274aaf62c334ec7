/- Part Pc of the proof. -/
import Derived.Test.YtcbcjolpdljbiaaGreatPb
import Derived.Defers
import Derived.Laws.Concat
import Derived.Laws.Externs
import Derived.Laws.LoneSync
import Derived.Laws.StructEq
import Derived.MapKept
set_option maxRecDepth 100000
namespace Go.dQ
open Go
section
variable {P:Program} {f:FuncId} {args:FV} {pre:Hp->Prop} {H:Dz} {R:DF}
theorem St.ex{ι:Type}{F:dM}{w:World}{A:ι->aa}(s:St F ((λk=>∃x,A x k)::H) w):∃x,St F (A x::H) w:=by
 obtain⟨a1,a2,a3,fr,hh,⟨h1,h2,d,l1,l2,⟨x,hx⟩,st⟩,y,z⟩:=s;exact⟨x,a1,a2,a3,fr,hh,⟨h1,h2,d,l1,l2,hx,st⟩,y,z⟩
theorem aK.exL{ι:Type}{A:ι->aa}(h:∀x,aK P f args pre (A x::H) R):aK P f args pre ((λk=>∃x,A x k)::H) R:=λF w hp s=>by
 obtain⟨x,s'⟩:=s.ex;exact h x F w hp s'
theorem aK.Eg{X:Prop}{A:aa}(h:X->aK P f args pre (A::H) R):aK P f args pre ((λk=>X/\A k)::H) R:=λF w hp s=>by
 obtain⟨a1,a2,a3,fr,hh,⟨h1,h2,d,l1,l2,⟨x,hx⟩,st⟩,y,z⟩:=s;exact h x F w hp ⟨a1,a2,a3,fr,hh,⟨h1,h2,d,l1,l2,hx,st⟩,y,z⟩
theorem aK.Hj{L:Dz}(h:aK P f args pre (L++H) R):aK P f args pre (aF L::H) R:=λF w hp s=>
 h F w hp (s.sub λk s=>by
  obtain⟨h1,h2,d,l1,l2,s1,s2⟩:=s;exact eW (bH s1 s2 d) (bX l1 l2))
theorem aK.out{R':DF}(h:aK P f args pre H R)(hr:∀v H',R v H'->∃H'',R' v H''/\∀k,ai H' k->ai H'' k):aK P f args pre H R':=λF w p s=>
 (h F w p s).mono λe w' hh=>by
  obtain⟨v,H',he,r,st⟩:=hh;obtain⟨H'',r',ent⟩:=hr v H' r;exact⟨v,H'',he,r',st.sub ent⟩
theorem aK.inp{aiM:Hp->Prop}(h:aK P f args pre H R)(hp:∀k,aiM k->pre k):aK P f args aiM H R:=λF w p s=>h F w (hp _ p) s
theorem aK.RK{X:Prop}(hx:∀k,pre k->X)(h:X->aK P f args pre H R):aK P f args pre H R:=λF w p s=>h (hx _ p) F w p s
theorem zj{X:Prop}{A:aa}{h:Hp}(x:X)(s:ai (A::H) h):ai ((λk=>X/\A k)::H) h:=bo (λ_ p=>⟨x,p⟩) s
end
section
variable {P:Program} {n:Nat} {ds:Dx} {F:dM} {K:F7} {σ:aT} {H:Dz}
theorem HE{X:Prop}{A:aa}(h:X->G n ds F K σ (A::H)):G n ds F K σ ((λk=>X/\A k)::H):=by
 refine .mk λa w e s=> ?_;obtain⟨a1,a2,a3,fr,hh,⟨h1,h2,d,l1,l2,⟨x,hx⟩,st⟩,y,z⟩:=s;exact h x a w e ⟨a1,a2,a3,fr,hh,⟨h1,h2,d,l1,l2,hx,st⟩,y,z⟩
end
theorem iU{H R:Dz}{A:aa}{X:Prop}(s:fO H A R)(hx:∀k,A k->X):∀h,gW H h->X:=λh au=>by obtain⟨k,p,_⟩:=sT s h au;exact hx k p
theorem Zq{a:FX}{cap e:Nat}{xs:FV}(k:Hp)(o:own a cap e 1 xs k):xs.length<=cap:=by have:=o.1;omega
theorem nK{a:FX}{cap e sz:Nat}{xs:FV}{k:Hp}(o:own a cap e sz xs k)(h:0<xs.length):a.isSome=true:=by
 obtain⟨h1,_,h3|⟨b,sp,rfl,_,_⟩⟩:=o
 ·obtain⟨rfl,rfl⟩:=h3;omega
 rfl
end Go.dQ
namespace Go.dQ
open Go
section
variable {P:Program} {n:Nat} {ds:Dx} {F:dM} {Q:Exit->F7} {K:F7} {σ:aT} {H:Dz} {o:Oper} {d:Nat}
def FnD (P:Program)(f:FuncId)(args:FV)(pre:Hp->Prop)(H:Dz)(R:DF):Prop:=
 aC P f=true/\∀F w u,pre F.h->St F H w->CallsD P f args.toArray u w λe u' w'=>u'=u/\∃v H',e= .returned v/\R v H'/\St F H' w'
theorem Nu{f:FuncId}{fn:Func}{c:Code}{args:FV}{pre:Hp->Prop}{R:DF}{m:Nat}(hi:aC P f=true)(hf:P.funcs[f]?=some fn)(hb:fn.body=some c)(hm:fn.ntmps=m)(hn:Nat.ble args.length m=true)
  (h:∀F:dM,pre F.h->G m [] F (c.wp P (bodyPost P fn λe w'=>∃v H',e= .returned v/\R v H'/\St F H' w')) (jU 0 args) H):FnD P f args pre H R:=
 ⟨hi,λF w u hp s=>callsD_of_wp hf hb (by
  subst hm;exact h F hp _ _ (D7 args _ (Nat.le_of_ble_eq_true hn)) s)⟩
def acD (P:Program)(fn:Func)(R:Ending->World->Prop):Exit->F7
 | .normal,a,w| .ret,a,w=>Leaves P fn a.tmps R a.defers .returning w
 |_,_,_=>False
theorem VF{f:FuncId}{fn:Func}{c:Code}{args:FV}{pre:Hp->Prop}{R:DF}{m:Nat}(hf:P.funcs[f]?=some fn)(hb:fn.body=some c)(hm:fn.ntmps=m)(hn:Nat.ble args.length m=true)
  (h:∀F:dM,pre F.h->G m [] F (c.wp P (acD P fn λe w'=>∃v H',e= .returned v/\R v H'/\St F H' w')) (jU 0 args) H):aK P f args pre H R:=
 λF w hp s=>calls_of_wp_defers hf hb (by
  subst hm;refine wp_mono (h F hp _ _ (D7 args _ (Nat.le_of_ble_eq_true hn)) s) λe a w' q=> ?_;cases e with
  |normal=>exact q
  |ret=>exact q
  |exit id=>exact q.elim
  |goto l=>exact q.elim
  |panic ch=>exact q.elim
  |outgrown=>exact q.elim)
theorem D3{ops:Array Oper}{listed:Array Bool}{fuel:Nat}{S:World->Prop}(i j k:Nat)
  (h1:G n ds F (wpOp P ops Q i (λa' w'=>S w'/\wpAnyH P .any ops Q S fuel (listed.setIfInBounds i true) a' w')) σ H)
  (h2:G n ds F (wpOp P ops Q j (λa' w'=>S w'/\wpAnyH P .any ops Q S fuel (listed.setIfInBounds j true) a' w')) σ H)
  (h3:G n ds F (wpOp P ops Q k (λa' w'=>S w'/\wpAnyH P .any ops Q S fuel (listed.setIfInBounds k true) a' w')) σ H) (hr:Region.ready .any ops listed= [i,j,k]:=by kernel_rfl):G n ds F (wpAnyH P .any ops Q S (fuel+1) listed) σ H:=
 HD hr rfl λm hm=>by
  rcases List.mem_cons.1 hm with rfl|hm
  ·exact h1
  rcases List.mem_cons.1 hm with rfl|hm
  ·exact h2
  rw[List.mem_singleton.1 hm];exact h3
end
end Go.dQ
namespace Go.dQ
open Go Go.MapKept
def lk (es:List (Value×Value))(k:Value):Option Value:=
 match es with
 | []=>none
 |(k',v)::r=>match sameK k' k with|true=>some v|false=>lk r k
where sameK:Value->Value->Bool
 | .int _ a, .int _ b=>decide (a=b)
 | .string a, .string b=>decide (a.data.toList=b.data.toList)
 |_,_=>false
def Xk:TypeDesc->Value->Bool
 | .int k, .int k' _=>decide (k'=k)
 | .string, .string _=>true
 |_,_=>false
theorem jF{d:TypeDesc}{k:Value}(h:Xk d k=true):IsKey d k:=by
 cases d<;>cases k<;>simp[Xk]at h<;>simp[IsKey,h]
def xU (P:Program)(t:TypeId):Option (TypeId×TypeDesc×TypeId×Value):=
 match P.underlying t with
 |some (.map k e)=>match P.underlying k,P.info? e with
  |some d,some i=>match i.zero with
   |some z=>some (k,d,e,z)
   |none=>none
  |_,_=>none
 |_=>none
theorem nU{P:Program}{t k e:TypeId}{d:TypeDesc}{z:Value}(h:xU P t=some (k,d,e,z)):P.underlying t=some (.map k e)/\P.underlying k=some d/\∃i,P.info? e=some i/\i.zero=some z:=by
 unfold xU at h;cases hu:P.underlying t with
 |none=>simp[hu]at h
 |some dd=>
  cases dd<;>simp[hu]at h;rename_i k' e';cases hk:P.underlying k' with
  |none=>simp[hk]at h
  |some d'=>
   cases hi:P.info? e' with
   |none=>simp[hk,hi]at h
   |some i=>
    simp only[hk,hi]at h;cases hz:i.zero with
    |none=>simp[hz]at h
    |some z'=>
     simp[hz]at h;obtain⟨rfl,rfl,rfl,rfl⟩:=h;exact⟨rfl,hk,i,hi,hz⟩
theorem St.Ya{F:dM}{H:Dz}{w:World}(s:St F H w)(o:Obj)(A:aa)(hA:A λx=>if x=w.heap.size then some o else none):St F (A::H) (w.alloc o):=by
 obtain⟨a1,a2,a3,fr,h,s,y,z⟩:=s;have hold:∀k:Hp,Le k (ki w)->Le k (ki (w.alloc o)):=by
  intro k lk x ob ex;have hx:=lk x ob ex;unfold ki at*;rw[RowKit.Below.heap_alloc w _ x (Array.getElem?_eq_some_iff.1 hx).1];exact hx
 have dk:∀k:Hp,Le k (ki w)->bP (λx=>if x=w.heap.size then some o else none) k:=by
  intro k lk x;by_cases hx:x=w.heap.size
  ·right
   cases q:k x with
   |none=>rfl
   |some ob=>
    have:=lk x ob q;unfold ki at this;have:=(Array.getElem?_eq_some_iff.1 this).1;omega
  exact .inl (by simp[hx])
 refine⟨a1,a2,a3,hold _ fr,fH _ h,⟨_,h,dk _ y,aU _ _,aP (dk _ y),hA,s⟩,bX ?_ (hold _ y),bP.fH (dk _ fr) z⟩;intro x ob ex;by_cases hx:x=w.heap.size
 ·subst hx;simp only[if_true]at ex;cases ex;exact heap_alloc_new w _
 simp[hx]at ex
theorem St.X7{F:dM}{H:Dz}{w:World}{A B:aa}{b:Nat}{o':Obj}(s:St F (A::H) w)(hA:∀h,A h->∃o,h b=some o)(hB:B λx=>if x=b then some o' else none):
  St F (B::H) {w with heap:=w.heap.setIfInBounds b o'}:=by
 obtain⟨a1,a2,a3,fr,h,⟨h1,h2,d,l1,l2,hp,s⟩,y,z⟩:=s;obtain⟨ob,hb⟩:=hA h1 hp;have hw:w.heap[b]?=some ob:=(l1.trans y) _ _ hb;obtain⟨zP,Xm⟩:=heap_set (o':=o') hw;have fN:∀k:Hp,bP h1 k->∀x o,k x=some o->x≠b:=by
  intro k dk x o e hx;subst hx;rcases dk x with q|q
  ·rw[hb]at q;cases q
  rw[e]at q;cases q
 have hold:∀k:Hp,bP h1 k->Le k (ki w)->Le k (ki {w with heap:=w.heap.setIfInBounds b o'}):=by
  intro k dk lk x o e;have:=lk x o e;unfold ki at*;show(w.heap.setIfInBounds b o')[x]?=some o;rw[Xm x (fN k dk x o e)];exact this
 have dF:bP h1 F.h:=z.left l1;have d2:∀k:Hp,bP h1 k->bP (λx=>if x=b then some o' else none) k:=by
  intro k dk x;by_cases hx:x=b
  ·subst hx
   rcases dk x with q|q
   ·rw[hb]at q;cases q
   exact .inr q
  exact .inl (by simp[hx])
 refine⟨a1,a2,a3,hold _ dF fr,fH _ h2,⟨_,h2,d2 _ d,aU _ _,aP (d2 _ d),hB,s⟩,bX ?_ (hold _ d (l2.trans y)),bP.fH (d2 _ dF) (z.left l2)⟩;intro x o e;by_cases hx:x=b
 ·subst hx;simp only[if_true]at e;cases e;exact zP
 simp[hx]at e
section
variable {P:Program} {n:Nat} {ds:Dx} {F:dM} {Q:Exit->F7} {K:F7} {σ:aT} {H:Dz} {o:Oper} {d:Nat}
theorem Rt3{fn:Func}{R:DF}{t u u':Nat}{v x x':Value}(H':Dz)(hr:fn.results= #[.tmp t, .tmp u, .tmp u'])(hR:R (.tuple #[v,x,x']) H')(hv:look σ t=some v:=by exact rfl)(hx:look σ u=some x:=by exact rfl)(Xl:look σ u'=some x':=by exact rfl)
  (hh:∀h,ai H h->ai H' h:=by exact Eh):G n [] F (bodyPost P fn (λe w'=>∃v H',e= .returned v/\R v H'/\St F H' w') .ret) σ H:=
 .mk λa w e s=>⟨e.defers, .tuple #[v,x,x'],by
  have h1:a.tmps.getD t undef=v:=by simp[e.slot t v hv]
  have h2:a.tmps.getD u undef=x:=by simp[e.slot u x hx]
  have h3:a.tmps.getD u' undef=x':=by simp[e.slot u' x' Xl]
  simp only[results,hr];simp at h1 h2 h3;simp[h1,h2,h3],_,H',rfl,hR,s.sub hh⟩
end
end Go.dQ
namespace Go.dQ
open Go
def NoQ:Exit->F7:=λ_ _ _=>False
def sD (P:Program)(ops:Array Oper)(o:Oper)(K:F7)(a:Act)(w:World):Prop:=
 if Region.wanted o (yielded ops a.tmps)=true then o.wp P a w K NoQ else K (a.put o.dst undef) w
def uS (P:Program)(ops:Array Oper)(S:World->Prop)(Q:F7):List (Nat×Bool×Oper)->F7
 | [],a,w=>Q a w
 |(_,true,o)::r,a,w=>∃v,YieldsIf P ops S o v a/\uS P ops S Q r (a.put o.dst v) w
 |(_,false,o)::r,a,w=>sD P ops o (λa' w'=>S w'/\uS P ops S Q r a' w') a w
def G3 (o:Oper):Bool:=match o.op with| .load _ _=>true|_=>false
def indep (ops:Array Oper)(x y:Nat×Bool×Oper):Bool:=x.2.2.apart ops y.2.2&&(x.2.1||y.2.1||(G3 x.2.2&&G3 y.2.2))
inductive Still {α:Type}:Sem α->Prop
 |pure (a:α):Still (.pure a)
 |load (m:Mode) (a:Addr) (k:Value->Sem α) (h:∀v,Still (k v)):Still (.load m a k)
 |program (k:Program->Sem α) (h:∀p,Still (k p)):Still (.program k)
 |halt (x:Halt):Still (.halt x)
theorem Still.bind{α β:Type}{s:Sem α}{f:α->Sem β}(h:Still s)(hf:∀a,Still (f a)):Still (s.bind f):=by
 induction h with
 |pure a=>exact hf a
 |load m a k _ ih=>exact .load m a _ ih
 |program k _ ih=>exact .program _ ih
 |halt x=>exact .halt x
theorem Still.run{α:Type}{s:Sem α}(h:Still s)(P:Program)(w:World){r:α}{w':World}(e:s.run P w= .ok r w'):w'=w:=by
 induction h with
 |pure a=>simp only[Sem.run]at e;cases e;rfl
 |load m a k _ ih=>
  simp only[Sem.run]at e;split at e
  ·exact ih _ e
  split at e
  ·exact ih _ e
  cases e
 |program k _ ih=>simp only[Sem.run]at e;exact ih _ e
 |halt x=>simp only[Sem.run]at e;cases e
theorem IG{ρ:Operand->Value}{o:Oper}(h:G3 o=true):Still (execOp ρ o):=by
 unfold G3 at h;split at h
 ·rename_i t x ho
  have cells:∀(n:Nat) (a:Addr) (i:Nat) (acc:Array Value),Still (loadCellsFrom a i n acc):=by
   intro n;induction n with
   |zero=>intro a i acc;exact .pure _
   |succ n ih=>intro a i acc;exact .load _ _ _ λv=>ih _ _ _
  have und:∀t,Still (underlying t):=λt=>by
   unfold underlying;exact .program _ λp=>by simp only[Sem.bind];split<;>first|exact .pure _|exact .halt _
  have tin:∀t,Still (typeInfo t):=λt=>by
   unfold typeInfo;exact .program _ λp=>by simp only[Sem.bind];split<;>first|exact .pure _|exact .halt _
  have hvar:∀a,Still (loadVar t a):=by
   intro a;unfold loadVar;refine Still.bind ?_ λb=> ?_
   ·unfold isAgg
    exact(und t).bind λd=>by split<;>exact .pure _
   split
   ·refine Still.bind ?_ λk=>(Still.bind (cells _ _ _ _) λc=> .pure _)
    unfold sizeOf;exact(tin t).bind λ_=> .pure _
   exact .load _ _ _ λv=> .pure _
  unfold execOp;rw[ho];refine Still.bind ?_ λv=> .pure _;unfold Instr.loadAt;refine Still.bind ?_ λa=>hvar a;unfold Instr.sureAddr;split
  ·exact .pure _
  exact .halt _
 cases h
theorem afc{P:Program}{ρ:Operand->Value}{o:Oper}(h:G3 o=true){w w':World}{n:Next}(e:(execOp ρ o).run P w= .ok n w'):w'=w/\∃v,n= .value v:=by
 refine⟨(IG h).run P w e, ?_⟩;unfold G3 at h;split at h
 ·rename_i t x ho
  unfold execOp at e;rw[ho]at e;simp only[Sem.run_bind]at e;cases hr:(Instr.loadAt t (ρ x)).run P w with
  |ok v w1=>rw[hr]at e;simp only[Result.andThen_ok,Sem.run_pure]at e;cases e;exact⟨v,rfl⟩
  |halt x w1=>rw[hr]at e;cases e
 cases h
section
variable {P:Program} {ops:Array Oper} {S:World->Prop} {Q:F7}
theorem Hu:¬LetsOut NoQ:=λ⟨_,_,h⟩=>h
theorem adZ{o:Oper}{u v:Value}{a:Act}{w:World}(hS:S w)(h1:YieldsIf P ops S o u a)(h2:YieldsIf P ops S o v a):v=u:=by
 rcases h1 with⟨w1,e1⟩|⟨w1,rfl⟩<;>rcases h2 with⟨w2,e2⟩|⟨w2,rfl⟩
 ·have:=(e1 w hS).symm.trans (e2 w hS);cases this;rfl
 ·rw[w1]at w2;cases w2
 ·rw[w1]at w2;cases w2
 rfl
theorem yC{o:Oper}{K K':F7}(f:∀a w,K a w->K' a w){a:Act}{w:World}(h:sD P ops o K a w):sD P ops o K' a w:=by
 unfold sD at*;split
 ·rename_i hw;rw[if_pos hw]at h;exact Oper.wp_mono f h
 rename_i hw;rw[if_neg hw]at h;exact f _ _ h
theorem Io{x k:Oper}(Qt:k.apart ops x=true)(hsx:∀cs b,x.op≠ .select cs b)(PV:∀cs b,k.op≠ .select cs b){K K2:F7}{a:Act}{w:World}(hS:S w)
  (hK:∀a' w',K a' w'->∃v,YieldsIf P ops S x v a'/\K2 (a'.put x.dst v) w') (h:sD P ops k K a w):∃v,YieldsIf P ops S x v a/\sD P ops k K2 (a.put x.dst v) w:=by
 obtain⟨h1,h2,h3⟩:=Oper.apart_spec Qt;have back:∀(u v:Value),YieldsIf P ops S x v (a.put k.dst u)->YieldsIf P ops S x v a:=λu v hy=>
  hy.of_same (execOp_put x hsx a k.dst u h1).symm (wanted_put x a k.dst u h1).symm
 unfold sD at h;split at h
 ·rename_i hw
  have key:∃v,YieldsIf P ops S x v a:=by
   unfold Oper.wp at h;generalize (execOp a.eval k).run P w=r at h;cases r with
   |ok n w'=>
    cases n<;>simp only[Oper.upon]at h
    case value u=>obtain⟨v,hv,_⟩:=hK _ _ h;exact⟨v,back u v hv⟩
    case skip=>obtain⟨v,hv,_⟩:=hK _ _ h;exact⟨v,back _ v hv⟩
    case defer d=>
     obtain⟨v,hv,_⟩:=hK _ _ h;exact⟨v,(back undef v (hv.of_same (a':=a.put k.dst undef) (by cases k.dst<;>rfl) (by cases k.dst<;>rfl)))⟩
    case enter f args=>
     obtain⟨e,w2,fr,he,_⟩:=h [];cases e with
     |returned u=>obtain⟨v,hv,_⟩:=hK _ _ he;exact⟨v,back u v hv⟩
     |panicked c=>exact he.elim
     |outgrown=>exact(Hu he).elim
    case row row args=>
     obtain⟨u,w2,he,_⟩:=h default [];obtain⟨v,hv,_⟩:=hK _ _ he;exact⟨v,back u v hv⟩
   |halt y w'=>cases y<;>simp only[Oper.upon]at h<;>exact h.elim
  obtain⟨v,hv⟩:=key;refine⟨v,hv, ?_⟩;have same:∀(u v':Value),YieldsIf P ops S x v' (a.put k.dst u)->v'=v:=λu v' hy=>adZ hS hv (back u v' hy);unfold sD;rw[wanted_put k a x.dst v (λd hd=>h3 d hd),if_pos hw];unfold Oper.wp at*;rw[execOp_put k PV a x.dst v (λd hd=>h3 d hd)];have mJ:∀u:Value,(a.put k.dst u).put x.dst v=(a.put x.dst v).put k.dst u:=λu=>Act.put_comm a u v h2;generalize (execOp a.eval k).run P w=r at*;cases r with
  |ok n w'=>
   cases n<;>simp only[Oper.upon]at h⊢
   case value u=>obtain⟨v',Qk,hk⟩:=hK _ _ h;rw[<-mJ,<-same u v' Qk];exact hk
   case skip=>obtain⟨v',Qk,hk⟩:=hK _ _ h;rw[<-mJ,<-same _ v' Qk];exact hk
   case defer d=>
    obtain⟨v',Qk,hk⟩:=hK _ _ h;have hv2:YieldsIf P ops S x v' (a.put k.dst undef):=Qk.of_same (by cases k.dst<;>rfl) (by cases k.dst<;>rfl);rw[same _ v' hv2]at hk;have e1:({a with defers:=d::a.defers}:Act).put x.dst v=({a.put x.dst v with defers:=d::(a.put x.dst v).defers}:Act):=(Act.put_defers a x.dst v d).symm;rw[Act.put_comm _ undef v h2,e1]at hk;exact hk
   case enter f args=>
    refine Calls.mono h λe w'' he=> ?_;cases e with
    |returned u=>obtain⟨v',Qk,hk⟩:=hK _ _ he;show K2 _ _;rw[<-mJ,<-same u v' Qk];exact hk
    |panicked c=>exact he
    |outgrown=>exact he
   case row row args=>exact Rows.mono h λu w'' he=>by obtain⟨v',Qk,hk⟩:=hK _ _ he;rw[<-mJ,<-same u v' Qk];exact hk
  |halt y w'=>cases y<;>simp only[Oper.upon]at h⊢<;>exact h
 rename_i hw;obtain⟨v,hv,hk⟩:=hK _ _ h;refine⟨v,back _ v hv, ?_⟩;unfold sD;rw[wanted_put k a x.dst v (λd hd=>h3 d hd),if_neg hw,<-Act.put_comm a undef v h2];exact hk
theorem Ip{x k:Oper}(Qt:k.apart ops x=true)(hsx:∀cs b,x.op≠ .select cs b)(PV:∀cs b,k.op≠ .select cs b){K:F7}{a:Act}{w:World}{u:Value}(hy:YieldsIf P ops S k u a)
  (h:sD P ops x K (a.put k.dst u) w):sD P ops x (λa' w'=>YieldsIf P ops S k u a'/\K (a'.put k.dst u) w') a w:=by
 obtain⟨h1,h2,h3⟩:=Oper.apart_spec Qt;have xV:∀z:Value,YieldsIf P ops S k u (a.put x.dst z):=λz=>hy.of_same (execOp_put k PV a x.dst z h3) (wanted_put k a x.dst z h3);unfold sD at*;rw[wanted_put x a k.dst u h1]at h;split
 ·rename_i hw
  rw[if_pos hw]at h;unfold Oper.wp at*;rw[execOp_put x hsx a k.dst u h1]at h;have mJ:∀z:Value,(a.put k.dst u).put x.dst z=(a.put x.dst z).put k.dst u:=λz=>Act.put_comm a u z h2;generalize (execOp a.eval x).run P w=r at*;cases r with
  |ok n w'=>
   cases n<;>simp only[Oper.upon]at h⊢
   case value z=>exact⟨xV z,by rw[<-mJ];exact h⟩
   case skip=>exact⟨xV _,by rw[<-mJ];exact h⟩
   case defer d=>
    refine⟨(xV undef).of_same (by cases x.dst<;>rfl) (by cases x.dst<;>rfl), ?_⟩;rw[<-Act.put_comm _ u undef h2,<-Act.put_defers];exact h
   case enter f args=>
    refine Calls.mono h λe w'' he=> ?_;cases e with
    |returned z=>exact⟨xV z,by rw[<-mJ];exact he⟩
    |panicked c=>exact he
    |outgrown=>exact he
   case row row args=>exact Rows.mono h λz w'' he=>⟨xV z,by rw[<-mJ];exact he⟩
  |halt y w'=>cases y<;>simp only[Oper.upon]at h⊢<;>exact h
 rename_i hw;rw[if_neg hw,Act.put_comm a u undef h2]at h;exact⟨xV _,h⟩
def AP (l:List (Nat×Bool×Oper)):Prop:=∀x∈l,∀cs b,x.2.2.op≠ .select cs b
theorem mvR{i:Nat}{o:Oper}{post:List (Nat×Bool×Oper)}:∀(pre:List (Nat×Bool×Oper)) (a:Act) (w:World),(∀k∈pre,indep ops k (i,true,o)=true)->AP pre->(∀cs b,o.op≠ .select cs b)->S w->
  uS P ops S Q (pre++(i,true,o)::post) a w->∃v,YieldsIf P ops S o v a/\uS P ops S Q (pre++post) (a.put o.dst v) w:=by
 intro pre;induction pre with
 |nil=>intro a w _ _ _ _ h;exact h
 |cons k pre ih=>
  obtain⟨j,fl,ok⟩:=k;intro a w hi hs XI hS h;have hk:=hi _ (List.mem_cons_self ..);simp only[indep,Bool.and_eq_true]at hk;have Qt:=hk.1;obtain⟨h1,h2,h3⟩:=Oper.apart_spec Qt;have PV:=hs _ (List.mem_cons_self ..);have xN:∀k∈pre,indep ops k (i,true,o)=true:=λk hk=>hi k (List.mem_cons_of_mem _ hk);have hs':AP pre:=λk hk=>hs k (List.mem_cons_of_mem _ hk);cases fl with
  |true=>
   simp only[List.cons_append,uS]at h⊢;obtain⟨u,hu,h⟩:=h;obtain⟨v,hv,h⟩:=ih _ _ xN hs' XI hS h;refine⟨v,hv.of_same (execOp_put o XI a ok.dst u h1).symm (wanted_put o a ok.dst u h1).symm,u,hu.of_same (execOp_put ok PV a o.dst v h3) (wanted_put ok a o.dst v h3), ?_⟩;rw[<-Act.put_comm a u v h2];exact h
  |false=>
   simp only[List.cons_append,uS]at h⊢;exact Io Qt XI PV hS (λa' w' hh=>by
    obtain⟨v,hv,h⟩:=ih _ _ xN hs' XI hh.1 hh.2;exact⟨v,hv,hh.1,h⟩) h
theorem mvW{i:Nat}{o:Oper}{post:List (Nat×Bool×Oper)}:∀(pre:List (Nat×Bool×Oper)) (a:Act) (w:World),(∀k∈pre,indep ops k (i,false,o)=true)->AP pre->(∀cs b,o.op≠ .select cs b)->S w->
  uS P ops S Q (pre++(i,false,o)::post) a w->sD P ops o (λa' w'=>S w'/\uS P ops S Q (pre++post) a' w') a w:=by
 intro pre;induction pre with
 |nil=>intro a w _ _ _ _ h;exact h
 |cons k pre ih=>
  obtain⟨j,fl,ok⟩:=k;intro a w hi hs XI hS h;have hk:=hi _ (List.mem_cons_self ..);simp only[indep,Bool.and_eq_true]at hk;have Qt:=hk.1;obtain⟨h1,h2,h3⟩:=Oper.apart_spec Qt;have PV:=hs _ (List.mem_cons_self ..);have xN:∀k∈pre,indep ops k (i,false,o)=true:=λk hk=>hi k (List.mem_cons_of_mem _ hk);have hs':AP pre:=λk hk=>hs k (List.mem_cons_of_mem _ hk);cases fl with
  |true=>
   simp only[List.cons_append,uS]at h⊢;obtain⟨u,hu,h⟩:=h;have h:=ih _ _ xN hs' XI hS h;exact yC (λa' w' hh=>⟨hh.2.1,u,hh.1,hh.2.2⟩) (Ip Qt XI PV hu h)
  |false=>
   have hl:=hk.2;simp only[Bool.or_self,Bool.false_or,Bool.and_eq_true]at hl;simp only[List.cons_append,uS]at h⊢;have look:∀{y:Oper} {a:Act} {w:World} {K:F7},G3 y=true->(sD P ops y K a w↔((Region.wanted y (yielded ops a.tmps)=true/\∃v,(execOp a.eval y).run P w= .ok (.value v) w/\K (a.put y.dst v) w)\/(Region.wanted y (yielded ops a.tmps)=false/\K (a.put y.dst undef) w))):=by
    intro y a w K hy;unfold sD;cases hw:Region.wanted y (yielded ops a.tmps)with
    |false=>simp
    |true=>
     simp only[if_true,true_and,Bool.true_eq_false,false_and,or_false];unfold Oper.wp;cases hr:(execOp a.eval y).run P w with
     |ok n w'=>
      obtain⟨rfl,v,rfl⟩:=afc hy hr;simp only[Oper.upon_value];exact⟨λh=>⟨v,rfl,h⟩,λ⟨v',e,h⟩=>by cases e;exact h⟩
     |halt z w'=>
      cases z<;>simp[Oper.upon,NoQ]
   rw[look hl.1]at h;rw[look hl.2];have fin:∀u:Value,S w/\uS P ops S Q (pre++(i,false,o)::post) (a.put ok.dst u) w->(∀z,sD P ops ok (λa' w'=>S w'/\uS P ops S Q (pre++post) a' w') (a.put o.dst z) w↔sD P ops ok (λa' w'=>S w'/\uS P ops S Q (pre++post) a' w') (a.put o.dst z) w)->
     ((Region.wanted o (yielded ops a.tmps)=true/\∃z,(execOp a.eval o).run P w= .ok (.value z) w/\(S w/\uS P ops S Q (pre++post) ((a.put ok.dst u).put o.dst z) w))\/(Region.wanted o (yielded ops a.tmps)=false/\(S w/\uS P ops S Q (pre++post) ((a.put ok.dst u).put o.dst undef) w))):=by
    intro u hh _;have h':=ih _ _ xN hs' XI hh.1 hh.2;rw[look hl.2,execOp_put o XI a ok.dst u h1,wanted_put o a ok.dst u h1]at h';exact h'
   have put:∀(z:Value),(∀u,uS P ops S Q (pre++post) ((a.put ok.dst u).put o.dst z) w->uS P ops S Q (pre++post) ((a.put o.dst z).put ok.dst u) w):=λz u hh=>by rw[<-Act.put_comm a u z h2];exact hh
   rcases h with⟨hw,u,hu,hh⟩|⟨hw,hh⟩
   ·rcases fin u hh (λ_=>Iff.rfl)with⟨hwo,z,hz,hS',h'⟩|⟨hwo,hS',h'⟩
    ·refine .inl ⟨hwo,z,hz,hS, ?_⟩
     rw[look hl.1,execOp_put ok PV a o.dst z h3,wanted_put ok a o.dst z h3];exact .inl ⟨hw,u,hu,hS,put _ _ h'⟩
    refine .inr ⟨hwo,hS, ?_⟩;rw[look hl.1,execOp_put ok PV a o.dst undef h3,wanted_put ok a o.dst undef h3];exact .inl ⟨hw,u,hu,hS,put _ _ h'⟩
   rcases fin undef hh (λ_=>Iff.rfl)with⟨hwo,z,hz,hS',h'⟩|⟨hwo,hS',h'⟩
   ·refine .inl ⟨hwo,z,hz,hS, ?_⟩
    rw[look hl.1,execOp_put ok PV a o.dst z h3,wanted_put ok a o.dst z h3];exact .inr ⟨hw,hS,put _ _ h'⟩
   refine .inr ⟨hwo,hS, ?_⟩;rw[look hl.1,execOp_put ok PV a o.dst undef h3,wanted_put ok a o.dst undef h3];exact .inr ⟨hw,hS,put _ _ h'⟩
inductive DM (ops:Array Oper):Nat->Nat->Prop
 |one {i:Nat} {o:Oper} {e:Edge} (ho:ops[i]?=some o) (he:e∈o.after) (hb:Region.binds .any e=true):DM ops e.on i
 |more {i k:Nat} {o:Oper} {e:Edge} (ho:ops[i]?=some o) (he:e∈o.after) (hb:Region.binds .any e=true) (h:DM ops k e.on):DM ops k i
def msk (acc:F8)(o:Oper):Nat:=o.after.toList.foldl (λs e=>if Region.binds .any e=true then s|||2^e.on|||acc.getD e.on 0 else s) 0
def JD:List Oper->F8->F8
 | [],acc=>acc
 |o::r,acc=>JD r (acc++ [msk acc o])
theorem U9{i:Nat}{o:Oper}(ho:ops[i]?=some o){acc:F8}(Yj:∀j k,(acc.getD j 0).testBit k=true->DM ops k j)(k:Nat)(h:(msk acc o).testBit k=true):DM ops k i:=by
 have key:∀(l:List Edge) (s:Nat),(∀e∈l,e∈o.after)->(∀k,s.testBit k=true->DM ops k i)->∀k,(l.foldl (λs e=>if Region.binds .any e=true then s|||2^e.on|||acc.getD e.on 0 else s) s).testBit k=true->DM ops k i:=by
  intro l;induction l with
  |nil=>intro s _ hs k hk;exact hs k hk
  |cons e l ih=>
   intro s hl hs k hk;rw[List.foldl_cons]at hk;refine ih _ (λe' h'=>hl e' (List.mem_cons_of_mem _ h')) (λk' hk'=> ?_) k hk;split at hk'
   ·rename_i hb
    rw[Nat.testBit_or,Nat.testBit_or]at hk';simp only[Bool.or_eq_true]at hk';rcases hk' with(h1|h1)|h1
    ·exact hs _ h1
    ·rw[Nat.testBit_two_pow]at h1
     simp only[decide_eq_true_eq]at h1;subst h1;exact .one ho (hl e (List.mem_cons_self ..)) hb
    exact .more ho (hl e (List.mem_cons_self ..)) hb (Yj _ _ h1)
   exact hs _ hk'
 exact key o.after.toList 0 (λe he=>by simpa using he) (λk hk=>by simp at hk) k h
theorem I0:∀(l:List Oper) (acc:F8),(∀j o,l[j]?=some o->ops[acc.length+j]?=some o)->(∀j k,(acc.getD j 0).testBit k=true->DM ops k j)->∀j k,((JD l acc).getD j 0).testBit k=true->DM ops k j:=by
 intro l;induction l with
 |nil=>intro acc _ h;exact h
 |cons o l ih=>
  intro acc hl Yj;refine ih _ (λj o' hj=> ?_) (λj k PX=> ?_)
  ·have:=hl (j+1) o' (by simpa using hj)
   rw[List.length_append,List.length_singleton,show acc.length+1+j=acc.length+(j+1)from by omega];exact this
  rcases Nat.lt_trichotomy j acc.length with ct|heq|hgt
  ·refine Yj j k ?_
   simpa[List.getD_eq_getElem?_getD,List.getElem?_append_left ct]using PX
  ·subst heq
   refine U9 (by simpa using hl 0 o rfl) Yj k ?_;simpa[List.getD_eq_getElem?_getD]using PX
  have hz:(acc++ [msk acc o])[j]?=none:=List.getElem?_eq_none (by simp;omega);rw[List.getD_eq_getElem?_getD,hz]at PX;simp at PX
def prs (ops:Array Oper)(m:F8):List (Nat×Bool×Oper)->Bool
 | []=>true
 |x::r=>r.all (λy=>(m.getD y.1 0).testBit x.1||indep ops x y)&&prs ops m r
theorem E2{m:F8}(hm:∀j k,(m.getD j 0).testBit k=true->DM ops k j):∀l,prs ops m l=true->l.Pairwise λx y=>DM ops x.1 y.1\/indep ops x y=true:=by
 intro l;induction l with
 |nil=>intro _;exact .nil
 |cons x r ih=>
  intro h;simp only[prs,Bool.and_eq_true,List.all_eq_true,Bool.or_eq_true]at h;exact .cons (λy hy=>(h.1 y hy).imp (hm _ _) id) (ih h.2)
structure Yn (ops:Array Oper)(listed:Array Bool)(rem:List (Nat×Bool×Oper)):Prop where
 at_:∀x∈rem,ops[x.1]?=some x.2.2
 un:∀x∈rem,listed.getD x.1 true=false
 all:∀j,j<ops.size->listed.getD j true=false->∃x∈rem,x.1=j
 once:(rem.map (·.1)).Nodup
 size:listed.size=ops.size
 shut:∀j o e,ops[j]?=some o->listed.getD j false=true->e∈o.after->Region.binds .any e=true->listed.getD e.on false=true
theorem Jl{listed:Array Bool}(shut:∀j o e,ops[j]?=some o->listed.getD j false=true->e∈o.after->Region.binds .any e=true->listed.getD e.on false=true){k i:Nat}(h:DM ops k i)
  (hi:∀o,ops[i]?=some o->∀e∈o.after,Region.binds .any e=true->listed.getD e.on false=true):listed.getD k false=true:=by
 induction h with
 |one ho he hb=>exact hi _ ho _ he hb
 |more ho he hb _ ih=>
  have h1:=hi _ ho _ he hb;exact ih λo' ho' e' Qs hb'=>shut _ _ _ ho' h1 Qs hb'
theorem pQ{listed:Array Bool}{j:Nat}(h1:listed.getD j true=false)(h2:listed.getD j false=true):False:=by
 by_cases h:j<listed.size
 ·simp[h]at h1 h2;rw[h1]at h2;cases h2
 simp[Array.getElem?_eq_none (Nat.le_of_not_lt h)]at h2
theorem TZ{Q:Exit->F7}{i:Nat}{o:Oper}(hi:ops[i]?=some o){K:F7}{a:Act}{w:World}(h:sD P ops o K a w):wpOp P ops Q i K a w:=by
 unfold sD at h;unfold wpOp;simp only[hi];split
 ·rename_i hw
  rw[if_pos hw]at h;refine .inl ?_;unfold Oper.wp at*;generalize (execOp a.eval o).run P w=r at*;cases r with
  |ok n w'=>
   cases n<;>simp only[Oper.upon]at h⊢
   case value u=>exact h
   case skip=>exact h
   case defer d=>exact h
   case enter f args=>
    refine Calls.mono h λe w'' he=> ?_;cases e with
    |returned z=>exact he
    |panicked c=>exact he.elim
    |outgrown=>exact(Hu he).elim
   case row row args=>exact h
  |halt y w'=>cases y<;>simp only[Oper.upon]at h⊢<;>exact h.elim
 rename_i hw;rw[if_neg hw]at h;exact h
theorem YieldsIf.sD{o:Oper}{v:Value}{a:Act}{w:World}{K:F7}(hy:YieldsIf P ops S o v a)(hS:S w)(h:K (a.put o.dst v) w):sD P ops o K a w:=by
 unfold dQ.sD;rcases hy with⟨hw,hv⟩|⟨hw,rfl⟩
 ·rw[if_pos hw];simp only[Oper.wp,hv w hS,Oper.upon];exact h
 rw[if_neg (by simp[hw])];exact h
theorem AQ{WA:Nat->Array Bool->F7}{C:F7}{l2:List (Nat×Bool×Oper)}{fuel0:Nat}(dg:Region.noSelect ops=true)(wv:∀j o e,ops[j]?=some o->e∈o.after->Region.binds .any e=true->e.on<j)
  (JF:∀fuel listed a w,(∃i,i∈Region.ready .any ops listed)->(∀i∈Region.ready .any ops listed,∃o,ops[i]?=some o/\sD P ops o (WA fuel (listed.setIfInBounds i true)) a w)->WA (fuel+1) listed a w)
  (hC:∀listed,Yn ops listed l2->∀a w,C a w->WA fuel0 listed a w):
  ∀(n:Nat) (rem:List (Nat×Bool×Oper)) (listed:Array Bool) (a:Act) (w:World),rem.length=n->Yn ops listed (rem++l2)->rem.Pairwise (λx y=>DM ops x.1 y.1\/indep ops x y=true)->(∀x∈rem,∀y∈l2,DM ops x.1 y.1)->S w->
   uS P ops S C rem a w->WA (n+fuel0) listed a w:=by
 intro n;induction n with
 |zero=>
  intro rem listed a w hn hI _ _ _ h;have:rem= []:=List.eq_nil_of_length_eq_zero hn;subst this;simpa using hC listed (by simpa using hI) a w h
 |succ n ih=>
  intro rem listed a w hn hI hP vd hS h;rw[show n+1+fuel0=(n+fuel0)+1 from by omega];have Bc:∀{i k:Nat},i∈Region.ready .any ops listed->DM ops k i->listed.getD k false=true:=by
   intro i k hi hk;obtain⟨_,o,ho,rY⟩:=mem_ready.1 hi;exact Jl hI.shut hk λo' ho' e he hb=>by rw[ho]at ho';cases ho';exact rY e he hb
  refine JF _ _ _ _ ?_ (λi hi=> ?_)
  ·
   cases hr0:Region.ready .any ops listed with
   |cons i r=>exact⟨i,by simp⟩
   |nil=>
   exfalso;have hr:=hr0;have fN:∃m,∃x∈rem++l2,x.1=m:=by
    cases rem with
    |nil=>simp at hn
    |cons x r=>exact⟨x.1,x,by simp,rfl⟩
   obtain⟨m0,hm0⟩:=fN;have least:∀m,(∃x∈rem++l2,x.1=m)->False:=by
    intro m;induction m using Nat.strongRecOn with
    |_ m ihm=>
     rintro⟨x,hx,rfl⟩;have hrd:x.1∈Region.ready .any ops listed:=by
      refine mem_ready.2 ⟨hI.un x hx,x.2.2,hI.at_ x hx,λe he hb=> ?_⟩;have ct:=wv _ _ _ (hI.at_ x hx) he hb;have hxs:x.1<ops.size:=(Array.getElem?_eq_some_iff.1 (hI.at_ x hx)).1;cases hq:listed.getD e.on false with
      |true=>rfl
      |false=>
       exfalso;have hl:listed.getD e.on true=false:=by
        have:e.on<listed.size:=by rw[hI.size];omega
        simp[this]at hq⊢;exact hq
       obtain⟨y,hy,hy1⟩:=hI.all e.on (by omega) hl;exact ihm e.on ct ⟨y,hy,hy1⟩
     rw[hr]at hrd;cases hrd
   exact least m0 hm0
  ·obtain⟨hun,o,ho,rY⟩:=mem_ready.1 hi
   obtain⟨x,hx,PS⟩:=hI.all i (Array.getElem?_eq_some_iff.1 ho).1 hun;have hxr:x∈rem:=by
    rcases List.mem_append.1 hx with q|q
    ·exact q
    exfalso;cases rem with
    |nil=>simp at hn
    |cons y r=>
     have hA:=vd y (List.mem_cons_self ..) x q;rw[PS]at hA;exact pQ (hI.un y (by simp)) (Bc hi hA)
   obtain⟨pre,post,rfl⟩:=List.append_of_mem hxr;have hox:x.2.2=o:=by have:=hI.at_ x hx;rw[PS,ho]at this;cases this;rfl
   have ai4:∀k∈pre,indep ops k x=true:=by
    intro k hk;have hkx:=(List.pairwise_append.1 hP).2.2 k hk x (List.mem_cons_self ..);rcases hkx with q|q
    ·exfalso
     rw[PS]at q;exact pQ (hI.un k (by simp[hk])) (Bc hi q)
    exact q
   have hns:AP (pre++x::post++l2):=λy hy cs b=>Region.noSelect_spec dg y.1 y.2.2 cs b (hI.at_ y hy);have hnp:AP pre:=λy hy=>hns y (by simp[hy]);have hxs:=hns x hx;have hI':Yn ops (listed.setIfInBounds i true) ((pre++post)++l2):=by
    have zQ:i∉((pre++post)++l2).map (·.1):=by
     have h0:=hI.once;simp only[List.map_append,List.map_cons,List.append_assoc,List.cons_append]at h0;rw[List.nodup_append]at h0;obtain⟨h1,h2,h3⟩:=h0;rw[List.nodup_cons]at h2;simp only[List.map_append,List.append_assoc,List.mem_append,not_or];rw[PS]at h2;simp only[List.mem_append,not_or]at h2;refine⟨λhm=>h3 i hm i (by simp[PS]) rfl,h2.1.1,h2.1.2⟩
    have sub:∀y∈(pre++post)++l2,y∈pre++x::post++l2:=λy hy=>by
     simp only[List.mem_append,List.mem_cons]at hy⊢;grind
    have fN:∀y∈(pre++post)++l2,i≠y.1:=λy hy e=>zQ (List.mem_map.2 ⟨y,hy,e.symm⟩);have his:i<listed.size:=by rw[hI.size];exact(Array.getElem?_eq_some_iff.1 ho).1
    refine⟨λy hy=>hI.at_ y (sub y hy),λy hy=>by rw[getD_set_ne true (fN y hy)];exact hI.un y (sub y hy),λj hj hl=> ?_, ?_,by simp[hI.size],λj o' e ho' hl he hb=> ?_⟩
    ·by_cases hji:i=j
     ·subst hji;simp[his]at hl
     rw[getD_set_ne true hji]at hl;obtain⟨y,hy,hy1⟩:=hI.all j hj hl;refine⟨y, ?_,hy1⟩;simp only[List.mem_append,List.mem_cons]at hy⊢;rcases hy with(hy|rfl|hy)|hy
     ·exact .inl (.inl hy)
     ·exact absurd (PS.symm.trans hy1) hji
     ·exact .inl (.inr hy)
     exact .inr hy
    ·have h0:=hI.once
     refine List.Nodup.sublist ?_ h0;refine List.Sublist.map _ (List.Sublist.append_right ?_ _);exact List.Sublist.append_left (List.sublist_cons_self ..) _
    by_cases hji:i=j
    ·subst hji;rw[ho]at ho';cases ho'
     exact getD_set_true (rY e he hb)
    rw[getD_set_ne false hji]at hl;exact getD_set_true (hI.shut j o' e ho' hl he hb)
   have hlen:(pre++post).length=n:=by simp at hn⊢;omega
   have hP':(pre++post).Pairwise λx y=>DM ops x.1 y.1\/indep ops x y=true:=hP.sublist (List.Sublist.append_left (List.sublist_cons_self ..) _);have ai8:∀y∈pre++post,∀z∈l2,DM ops y.1 z.1:=λy hy z hz=>vd y (by simp only[List.mem_append,List.mem_cons]at hy⊢;grind) z hz;obtain⟨xi,fl,xo⟩:=x;simp only at PS hox;subst PS;subst hox;cases fl with
   |true=>
    obtain⟨v,hv,h'⟩:=mvR pre a w ai4 hnp hxs hS h;exact⟨xo,ho,YieldsIf.sD hv hS (ih _ _ _ _ hlen hI' hP' ai8 hS h')⟩
   |false=>exact⟨xo,ho,yC (λa' w' hh=>ih _ _ _ _ hlen hI' hP' ai8 hh.1 hh.2) (mvW pre a w ai4 hnp hxs hS h)⟩
def tG (fl:List Bool)(ops:Array Oper):List (Nat×Bool×Oper):=(List.range' 0 ops.toList.length).zip (fl.zip ops.toList)
def BX (k:Nat)(fl:List Bool)(ops:Array Oper):Bool:=
 let m:=JD ops.toList []
 let l:=tG fl ops
 fl.length==ops.toList.length&&Region.noSelect ops&&l.all (λx=>x.2.2.after.toList.all λe=> !Region.binds .any e||Nat.blt e.on x.1)&&
  prs ops m (l.take k)&&prs ops m (l.drop k)&&(l.take k).all λx=>(l.drop k).all λy=>(m.getD y.1 0).testBit x.1
theorem Ru{fl:List Bool}(h:fl.length=ops.toList.length){x:Nat×Bool×Oper}(hx:x∈tG fl ops):ops[x.1]?=some x.2.2:=by
 obtain⟨j,hj⟩:=List.getElem?_of_mem hx;unfold tG at hj;rw[List.getElem?_zip_eq_some]at hj;obtain⟨h1,h2⟩:=hj;rw[List.getElem?_zip_eq_some]at h2;have:x.1=j:=by
  rw[List.getElem?_range']at h1
  ·simp at h1;omega
  have:=(List.getElem?_eq_some_iff.1 h1).1;simpa using this
 rw[this,<-Array.getElem?_toList];exact h2.2
theorem xk{fl:List Bool}(h:fl.length=ops.toList.length):(tG fl ops).map (·.1)=List.range' 0 ops.toList.length:=by
 unfold tG;exact List.map_fst_zip (by simp[h])
theorem JW{WA:Nat->Array Bool->F7}{C2:F7}{S1 S2:World->Prop}{k:Nat}{fl:List Bool}
  (JF:∀fuel listed a w,(∃i,i∈Region.ready .any ops listed)->(∀i∈Region.ready .any ops listed,∃o,ops[i]?=some o/\sD P ops o (WA fuel (listed.setIfInBounds i true)) a w)->WA (fuel+1) listed a w)
  (adv:∀listed a w,Region.ready .any ops listed= []->C2 a w->WA 0 listed a w) (ok:BX k fl ops=true) {a:Act} {w:World}
  (h:uS P ops S1 (λa w=>S2 w/\uS P ops S2 C2 ((tG fl ops).drop k) a w) ((tG fl ops).take k) a w) (ady:S1 w):WA ops.size (Array.replicate ops.size false) a w:=by
 simp only[BX,Bool.and_eq_true,beq_iff_eq,List.all_eq_true,Bool.or_eq_true,Bool.not_eq_true']at ok;obtain⟨⟨⟨⟨⟨h1,h2⟩,h3⟩,h4⟩,h5⟩,h6⟩:=ok;have u9:∀j k,((JD ops.toList []).getD j 0).testBit k=true->DM ops k j:=I0 _ _ (λj o hj=>by simpa using hj) (λj k PX=>by simp at PX);have wv:∀j o e,ops[j]?=some o->e∈o.after->Region.binds .any e=true->e.on<j:=by
  intro j o e ho he hb;have hj:j<ops.toList.length:=by simpa using(Array.getElem?_eq_some_iff.1 ho).1
  have hx:(j,fl[j]'(by omega),o)∈tG fl ops:=by
   refine List.mem_of_getElem? (i:=j) ?_;unfold tG;rw[List.getElem?_zip_eq_some];refine⟨by rw[List.getElem?_range' hj];simp, ?_⟩;rw[List.getElem?_zip_eq_some];exact⟨List.getElem?_eq_getElem (by omega),by rw[Array.getElem?_toList];exact ho⟩
  rcases h3 _ hx e (by simpa using he)with q|q
  ·rw[hb]at q;cases q
  exact Nat.le_of_ble_eq_true q
 have hI:Yn ops (Array.replicate ops.size false) ((tG fl ops).take k++(tG fl ops).drop k):=by
  rw[List.take_append_drop];refine⟨λx hx=>Ru h1 hx,λx hx=> ?_,λj hj _=> ?_, ?_,by simp,λj o e ho hl=> ?_⟩
  ·have:=(Array.getElem?_eq_some_iff.1 (Ru h1 hx)).1
   simp[this]
  ·have:j∈(tG fl ops).map (·.1):=by rw[xk h1];simp;omega
   obtain⟨x,hx,PS⟩:=List.mem_map.1 this;exact⟨x,hx,PS⟩
  ·rw[xk h1];exact List.nodup_range' ..
  exfalso;have:=(Array.getElem?_eq_some_iff.1 ho).1;simp[this]at hl
 have hlen:((tG fl ops).take k).length+((tG fl ops).drop k).length=ops.size:=by
  have:=congrArg List.length (List.take_append_drop k (tG fl ops));rw[List.length_append]at this;rw[this];have:=congrArg List.length (xk h1);simpa using this
 have:=AQ (P:=P) (S:=S1) (WA:=WA) (l2:=(tG fl ops).drop k) (fuel0:=((tG fl ops).drop k).length) h2 wv JF (λlisted hL a w hh=> ?_) _ ((tG fl ops).take k) (Array.replicate ops.size false) a _ rfl hI (E2 u9 _ h4) (λx hx y hy=>u9 _ _ (h6 x hx y hy)) ady h
 ·rwa[hlen]at this
 have:=AQ (P:=P) (S:=S2) (WA:=WA) (C:=C2) (l2:= []) (fuel0:=0) h2 wv JF (λlisted hL a w hh=> ?_) _ ((tG fl ops).drop k) listed a w rfl (by simpa using hL) (E2 u9 _ h5) (λx _ y hy=>by cases hy) hh.1 hh.2
 ·simpa using this
 refine adv _ _ _ ?_ hh;cases hr:Region.ready .any ops listed with
 |nil=>rfl
 |cons i r=>
  exfalso;have hi:i∈Region.ready .any ops listed:=by rw[hr];exact List.mem_cons_self ..
  obtain⟨hun,o,ho,_⟩:=mem_ready.1 hi;obtain⟨x,hx,_⟩:=hL.all i (Array.getElem?_eq_some_iff.1 ho).1 hun;cases hx
theorem W5{Q:Exit->F7}(fuel:Nat)(listed:Array Bool)(a:Act)(w:World)(fN:∃i,i∈Region.ready .any ops listed)(h:∀i∈Region.ready .any ops listed,∃o,ops[i]?=some o/\sD P ops o (wpAny P .any ops Q fuel (listed.setIfInBounds i true)) a w):
  wpAny P .any ops Q (fuel+1) listed a w:=by
 refine⟨λhr=> ?_,λi hi=> ?_⟩
 ·obtain⟨i,hi⟩:=fN;rw[hr]at hi;cases hi
 obtain⟨o,ho,hh⟩:=h i hi;exact TZ ho hh
theorem y7{Q:Exit->F7}{S1 S2:World->Prop}{id k:Nat}{fl:List Bool}(hm:P.follows .mixedOrders=true)(ok:BX k fl ops=true){a:Act}{w:World}
  (h:uS P ops S1 (λa w=>S2 w/\uS P ops S2 (Q .normal) ((tG fl ops).drop k) a w) ((tG fl ops).take k) a {w with drawn:=w.drawn+1}) (ady:S1 {w with drawn:=w.drawn+1}):(Code.region id ops true).wp P Q a w:=
 wp_region_any hm (JW (WA:=wpAny P .any ops Q) W5 (λlisted a w hr hq=>⟨hr,hq⟩) ok h ady)
end
def TT (P:Program)(ops:Array Oper)(F:dM)(C:F7)(l:List (Nat×Bool×Oper)):F7:=λa w=>cS F w/\uS P ops (cS F) C l a w
section
variable {P:Program} {n:Nat} {ds:Dx} {F:dM} {Q:Exit->F7} {K:F7} {σ:aT} {H:Dz} {o:Oper} {d i:Nat} {ops:Array Oper} {C:F7} {rest:List (Nat×Bool×Oper)}
theorem aki{id:Nat}(fl:List Bool)(hm:P.follows .mixedOrders=true)(h:G n ds F (TT P ops F (Q .normal) (tG fl ops)) σ H)(ok:BX ops.size fl ops=true:=by kernel_rfl):G n ds F ((Code.region id ops true).wp P Q) σ H:=by
 have hk:(tG fl ops).length<=ops.size:=by
  have h1:fl.length=ops.toList.length:=by simp only[BX,Bool.and_eq_true,beq_iff_eq]at ok;exact ok.1.1.1.1.1
  have:=congrArg List.length (xk (ops:=ops) h1);simp at this;omega
 refine .mk λa w e s=>y7 (k:=ops.size) (fl:=fl) (S1:=cS F) (S2:=cS F) hm ok ?_ s.frame;rw[List.take_of_length_le hk,List.drop_of_length_le hk];have h2:∀(l:List (Nat×Bool×Oper)) (a:Act) (w:World),cS F w->uS P ops (cS F) (Q .normal) l a w->uS P ops (cS F) (λa w=>cS F w/\uS P ops (cS F) (Q .normal) [] a w) l a w:=by
  intro l;induction l with
  |nil=>intro a w hS hh;exact⟨hS,hh⟩
  |cons x l ih=>
   obtain⟨j,fl,ox⟩:=x;intro a w hS hh;cases fl with
   |true=>obtain⟨v,hv,hh⟩:=hh;exact⟨v,hv,ih _ _ hS hh⟩
   |false=>exact yC (λa' w' hq=>⟨hq.1,ih _ _ hq.1 hq.2⟩) hh
 exact h2 _ _ _ s.frame (h a _ e (s.drawn _)).2
theorem afq{id:Nat}{As R:Dz}(k:Nat)(fl:List Bool)(hm:P.follows .mixedOrders=true)(dg:iM H As R)
  (h:∀F':dM,Le F.h F'.h->gW As F'.h->Ap F As F'->G n ds F' (TT P ops F' (TT P ops F (Q .normal) ((tG fl ops).drop k)) ((tG fl ops).take k)) σ R) (ok:BX k fl ops=true:=by kernel_rfl):G n ds F ((Code.region id ops true).wp P Q) σ H:=by
 refine .mk λa w e s=> ?_;obtain⟨a1,a2,a3,fr,hh,st,hl,r8⟩:=s;obtain⟨h1,h2,d12,l1,l2,s1,s2⟩:=bx (dg.out _ st);have BO:bP h1 F.h:=r8.left l1
 let F':dM:={F with h:=fH h1 F.h}
 have hb:Ap F As F':=by
  intro R' w' s';obtain⟨b1,b2,b3,se,zZ,xK,zW,hd'⟩:=s';exact⟨b1,b2,b3,(aP BO).trans se,fH h1 zZ,bH s1 xK (hd'.right (aU _ _)).symm,bX ((aU _ _).trans se) zW,bP.fH BO (hd'.right (aP BO))⟩
 have s':St F' R {w with drawn:=w.drawn+1}:=⟨a1,⟨a2.1,Nat.le_succ_of_le a2.2⟩,a3,bX (l1.trans hl) fr,h2,s2,l2.trans hl,(bP.fH d12 (r8.left l2).symm).symm⟩;refine y7 (k:=k) (fl:=fl) (S1:=cS F') (S2:=cS F) hm ok ?_ s'.frame;exact(h F' (aP BO) (cx s1 (aU _ _)) hb a _ e s').2
theorem Ti{v:Value}(hy:Yv P n ds F σ o v)(h:G n ds F (TT P ops F C rest) ((d,v)::σ) H)(hg:LY ops o σ=true:=by exact rfl)(hd:o.dst=some d:=by exact rfl)(hdn:Nat.blt d n=true:=by exact rfl):G n ds F (TT P ops F C ((i,true,o)::rest)) σ H:=
 .mk λa w e s=>⟨s.frame,v, .inl ⟨jY hg e,λw hw=>hy a w e hw⟩,by rw[hd];exact(h _ w (e.put hdn v) s).2⟩
theorem Tp (h:G n ds F (λa w=>o.wp P a w (TT P ops F C rest) NoQ) σ H)(hg:LY ops o σ=true:=by exact rfl):G n ds F (TT P ops F C ((i,false,o)::rest)) σ H:=
 .mk λa w e s=>⟨s.frame,by unfold uS sD;rw[if_pos (jY hg e)];exact h a w e s⟩
theorem Tx{b:Bool}(h:G n ds F (TT P ops F C rest) ((d,undef)::σ) H)(hg:gno ops o σ=true:=by exact rfl)(hd:o.dst=some d:=by exact rfl)(hdn:Nat.blt d n=true:=by exact rfl):G n ds F (TT P ops F C ((i,b,o)::rest)) σ H:=
 .mk λa w e s=>by
  refine⟨s.frame, ?_⟩;have h':=(h _ w (e.put hdn undef) s);cases b with
  |true=>exact⟨undef, .inr ⟨pt hg e,rfl⟩,by rw[hd];exact h'.2⟩
  |false=>unfold uS sD;rw[if_neg (by simp[pt hg e]),hd];exact h'
theorem Tn (h:G n ds F C σ H):G n ds F (TT P ops F C []) σ H:= .mk λa w e s=>⟨s.frame,h a w e s⟩
theorem gG{F':dM}{As:Dz}(hb:Ap F As F')(h:G n ds F C σ (As++H)):G n ds F' (TT P ops F' C []) σ H:= .mk λa w e s=>⟨s.frame,h a w e (hb _ _ s)⟩
theorem Tne{K:F7}(h:G n ds F K σ H):G n ds F (TT P ops F (Exit.then K Q .normal) []) σ H:=Tn h
def XW (P:Program)(ld:Bool)(ops:Array Oper):List Bool:=ops.toList.map λo=>match o.op with
 | .load _ _=>ld
 | .move _| .assign _| .pick _ _ _| .nilCheck _| .binOp _ _ _ _ _| .unOp _ _ _| .fieldAddr _ _ _| .field _ _ _| .indexAddr _ _ _| .index _ _ _| .extract _ _| .slice _ _ _ _ _| .build _ _| .makeFunc _ _ _| .makeInterface _ _| .typeAssert _ _ _ _=>true
 | .convert s t _=>match P.underlying t with
  |some (.slice _)=>false
  |_=>match P.underlying s with
   |some (.slice _)=>ld
   |_=>true
 | .call c=>match c.callee with
  | .builtin .len=>true
  | .builtin .cap=>true
  | .builtin .min=>true
  | .builtin .max=>true
  |_=>false
 |_=>false
theorem gT{id:Nat}(ld:Bool)(hm:P.follows .mixedOrders=true)(h:G n ds F (TT P ops F (Q .normal) (tG (XW P ld ops) ops)) σ H)(ok:BX ops.size (XW P ld ops) ops=true:=by kernel_rfl):G n ds F ((Code.region id ops true).wp P Q) σ H:=aki _ hm h ok
theorem iL{id:Nat}{As R:Dz}(k:Nat)(hm:P.follows .mixedOrders=true)(dg:iM H As R)
  (h:∀F':dM,Le F.h F'.h->gW As F'.h->Ap F As F'->G n ds F' (TT P ops F' (TT P ops F (Q .normal) ((tG (XW P true ops) ops).drop k)) ((tG (XW P true ops) ops).take k)) σ R) (ok:BX k (XW P true ops) ops=true:=by kernel_rfl):G n ds F ((Code.region id ops true).wp P Q) σ H:=afq k _ hm dg h ok
end
end Go.dQ
namespace Go.dQ
open Go
variable {P:Program} {n:Nat} {ds:Dx} {F:dM} {Q:Exit->F7} {K:F7} {σ:aT} {H:Dz} {o:Oper} {d:Nat}
theorem Bda{t e:TypeId}{sz k:Nat}{zs vs cs:FV}{parts:List (Nat×Operand)}(hz:bW P t=some zs)(ht:BQ P t=some (k,e,sz))(ho:o.op= .build t parts.toArray:=by exact rfl)(hv:jQ σ (parts.map (·.2))=some vs:=by exact rfl)
  (hc:pO (λi=>some (i*sz,sz)) zs ((parts.map (·.1)).zip vs)=some cs:=by exact rfl):Yv P n ds F σ o (.agg cs.toArray):=
 λac w en fr=>by
  have hp:=vY en hv;obtain⟨zv,hzr,Jr⟩:=qX hz (w:=w);unfold BQ at ht;cases hu:P.underlying t with
  |none=>simp[hu]at ht
  |some dsc=>
   cases dsc<;>simp[hu]at ht;rename_i k' e';cases hi:P.info? e' with
   |none=>simp[hi]at ht
   |some inf=>
    simp[hi]at ht;obtain⟨rfl,rfl,rfl⟩:=ht;have l8:=fill_eq _ _ _ _ hc;rw[<-hp]at l8;simp[execOp,ho,Instr.build,hzr,run_underlying hu,sizeOf,typeInfo,hi,Jr,l8]
end Go.dQ
namespace Go.dQ
open Go Go.MapKept
section
variable {P:Program} {n:Nat} {ds:Dx} {F:dM} {Q:Exit->F7} {K:F7} {σ:aT} {H:Dz} {o:Oper} {d:Nat}
theorem Mf{fn:Fn}{fs cs:List Operand}{fv cv:FV}(ho:o.op= .makeFunc fn fs.toArray cs.toArray:=by exact rfl)(hf:jQ σ fs=some fv:=by exact rfl)(hc:jQ σ cs=some cv:=by exact rfl):Yv P n ds F σ o (.func fn fv.toArray cv.toArray):=
 λa w e _=>by
  have h1:=e.wz hf;have h2:=e.wz hc;simp[execOp,ho,Instr.makeFunc,<-h1,<-h2]
theorem MT{ρ:Operand->Value}{f:FuncId}{xs:List Operand}{vs fv cv:FV}{rQ:Array TypeId}{w:World}{fn:Func}{x:Operand}(ho:o.op= .call {callee:= .value x,args:=xs.toArray,argTypes:=rQ})
  (hρ:ρ x= .func (.func f) fv.toArray cv.toArray) (hv:xs.map ρ=vs) (hf:P.funcs[f]?=some fn) (hb:fn.body.isSome=true) (hnm:(fn.name== "runtime.NumGoroutine")=false):
  (execOp ρ o).run P w= .ok (.enter f (fv++vs++cv).toArray) w:=by
 have akc:fn.body.isNone=false:=by rw[<-Option.not_isSome,hb];rfl
 have ado:¬fn.name= "runtime.NumGoroutine" :=by simpa using hnm
 have hb':¬fn.body=none:=by intro q;rw[q]at hb;cases hb
 simp[execOp,ho,resolve,hρ,Deferred.ofValue,invoke,callFunc,hf,<-hv];rw[if_neg ado,if_neg hb']
theorem UY{f:FuncId}{xs:List Operand}{vs fv cv:FV}{rQ:Array TypeId}{pre:Hp->Prop}{As R:Dz}{T:DF}{x:Operand}(kR:aC P f=true)(ho:o.op= .call {callee:= .value x,args:=xs.toArray,argTypes:=rQ})
  (hd:o.dst=some d) (hx:bC σ x=some (.func (.func f) fv.toArray cv.toArray)) (hv:jQ σ xs=some vs) (hc:aK P f (fv++vs++cv) pre As T) (dg:iM H As R) (iu:∀h,Le F.h h->gW R h->pre h) (hdn:Nat.blt d n=true)
  (h:∀v H',T v H'->G n ds F K ((d,v)::σ) (H'++R)):G n ds F (λa w=>o.wp P a w K Q) σ H:=by
 refine .mk λa w en s=> ?_;unfold aC at kR;cases hf:P.funcs[f]? with
 |none=>simp[hf]at kR
 |some fn=>
  simp only[hf,Bool.and_eq_true,Bool.not_eq_true']at kR;unfold Oper.wp;rw[MT ho (en.eval hx) (en.wz hv) hf kR.1 kR.2,Oper.upon_enter];obtain⟨a1,a2,a3,fr,hh,st,hl,r8⟩:=s;obtain⟨h1,h2,d12,l1,l2,s1,s2⟩:=bx (dg.out _ st);have wg:bP h2 F.h:=r8.left l2
  let F':dM:={F with h:=fH h2 F.h}
  have iw:Le F.h F'.h:=aP wg;have iy:Le h2 F'.h:=aU _ _;have xK:St F' As w:=⟨a1,a2,a3,bX (l2.trans hl) fr,h1,s1,l1.trans hl,(bP.fH d12.symm (r8.left l1).symm).symm⟩;refine(hc F' w (iu _ iw (cx s2 iy)) xK).mono ?_;rintro e w' ⟨v,H',rfl,hT,sw⟩;obtain⟨b1,b2,b3,se,zZ,st2,zW,ky⟩:=sw;rw[hd];refine h v H' hT _ _ (en.put hdn v) ⟨b1,b2,b3,iw.trans se,fH zZ h2,bH st2 s2 (ky.right iy),bX zW (iy.trans se),bP.fH (ky.right iw) wg⟩
theorem oCV{f:FuncId}{xs:List Operand}{vs fv cv:FV}{rQ:Array TypeId}{pre:Hp->Prop}{A2 R:Dz}{T:DF}{x:Operand}(kR:aC P f=true)(ho:o.op= .call {callee:= .value x,args:=xs.toArray,argTypes:=rQ})
  (hx:bC σ x=some (.func (.func f) fv.toArray cv.toArray)) (hv:jQ σ xs=some vs) (hc:aK P f (fv++vs++cv) pre A2 T) (dg:iM H A2 R) (iu:∀h,Le F.h h->gW R h->pre h)
  (h:∀v H',T v H'->G n ds F K ((d,v)::σ) (H'++R)) (hd:o.dst=some d:=by exact rfl) (hdn:Nat.blt d n=true:=by exact rfl):G n ds F (λa w=>o.wp P a w K Q) σ H:=
 UY kR ho hd hx hv hc dg iu hdn h
def ug (P:Program)(t:TypeId):Bool:=match P.underlying t with|some (.interface _)=>false|some _=>true|none=>false
theorem uN{t:TypeId}(h:ug P t=true):∃dd,P.underlying t=some dd/\∀ms,dd≠ .interface ms:=by
 unfold ug at h;cases hu:P.underlying t with
 |none=>simp[hu]at h
 |some dd=>exact⟨dd,rfl,λms q=>by subst q;simp[hu]at h⟩
theorem XB{t:TypeId}{x:Operand}{v:Value}(ht:ug P t=true)(ho:o.op= .makeInterface t x:=by exact rfl)(hx:bC σ x=some v:=by exact rfl):Yv P n ds F σ o (.iface t v):=λa w e _=>by
 obtain⟨dd,hu,fN⟩:=uN ht;have:(Instr.makeInterface t v).run P w= .ok (.iface t v) w:=by
  cases dd<;>simp_all[Instr.makeInterface,run_underlying hu]
 simp[execOp,ho,e.eval hx,this]
def isIface (P:Program)(t:TypeId):Bool:=match P.underlying t with|some (.interface _)=>true|_=>false
theorem uP{t:TypeId}(h:isIface P t=true):∃ms,P.underlying t=some (.interface ms):=by
 unfold isIface at h;cases hu:P.underlying t with
 |none=>simp[hu]at h
 |some dd=>cases dd<;>simp[hu]at h;exact⟨_,rfl⟩
theorem Y0{t tv:TypeId}{v:Value}(ht:isIface P t=true)(w:World):(Op.equalIn 10000 t (.iface tv v) .nilIface).run P w= .ok false w:=by
 obtain⟨ms,hu⟩:=uP ht;unfold Op.equalIn;simp[run_underlying hu]
theorem YZ{t:TypeId}(ht:isIface P t=true)(w:World):(Op.equalIn 10000 t .nilIface .nilIface).run P w= .ok true w:=by
 obtain⟨ms,hu⟩:=uP ht;unfold Op.equalIn;simp[run_underlying hu]
theorem Iq{op:BinOp}{t yt tv:TypeId}{x:Operand}{v:Value}{b:Bool}(ht:isIface P t=true)(ho:o.op= .binOp op t x (.const .nilIface) yt:=by exact rfl)(hx:bC σ x=some (.iface tv v):=by exact rfl)
  (hop:(op= .eql/\b=false)\/(op= .neq/\b=true):=by first|exact .inl ⟨rfl,rfl⟩|exact .inr ⟨rfl,rfl⟩):Yv P n ds F σ o (.bool b):=λa w e _=>by
 have hc:a.eval (.const .nilIface)= .nilIface:=rfl;have q:=Y0 (P:=P) (tv:=tv) (v:=v) ht w;rcases hop with⟨rfl,rfl⟩|⟨rfl,rfl⟩<;>simp[execOp,ho,e.eval hx,hc,eqGuard,binOp,Op.equal,Op.maxDepth,q]
theorem Iqn{op:BinOp}{t yt:TypeId}{x:Operand}{b:Bool}(ht:isIface P t=true)(ho:o.op= .binOp op t x (.const .nilIface) yt:=by exact rfl)(hx:bC σ x=some .nilIface:=by exact rfl)
  (hop:(op= .eql/\b=true)\/(op= .neq/\b=false):=by first|exact .inl ⟨rfl,rfl⟩|exact .inr ⟨rfl,rfl⟩):Yv P n ds F σ o (.bool b):=λa w e _=>by
 have hc:a.eval (.const .nilIface)= .nilIface:=rfl;have q:=YZ (P:=P) ht w;rcases hop with⟨rfl,rfl⟩|⟨rfl,rfl⟩<;>simp[execOp,ho,e.eval hx,hc,eqGuard,binOp,Op.equal,Op.maxDepth,q]
theorem TaT{xt t:TypeId}{x:Operand}{v:Value}(ht:ug P t=true)(ho:o.op= .typeAssert x xt t true:=by exact rfl)(hx:bC σ x=some (.iface t v):=by exact rfl):Yv P n ds F σ o (.tuple #[v, .bool true]):=λa w e _=>by
 obtain⟨dd,hu,fN⟩:=uN ht;have:(Instr.typeAssert (.iface t v) xt t true).run P w= .ok (.tuple #[v, .bool true]) w:=by
  cases dd<;>simp_all[Instr.typeAssert,run_underlying hu]
 simp[execOp,ho,e.eval hx,this]
end
inductive mq (dd:TypeDesc) (b:Nat) (es:List (Value×Value)) (h:Hp):Prop
 |mk (eK:Array MapEntry) (wX:Nat) (he:eK.toList.map (λe=>(e.key,e.val))=es) (hk:∀x∈eK.toList,IsKey dd x.key) (hs:Stamped eK wX) (hb:h b=some (.map eK wX))
noncomputable def uU (es:List (Value×Value))(k:Value):Option Value:=by
 classical exact(es.find? λe=>decide (e.1=k)).map (·.2)
noncomputable def DN (es:List (Value×Value))(k v:Value):List (Value×Value):=by
 classical exact if(∃e∈es,e.1=k)then es.map (λe=>if e.1=k then(k,v)else e)else es++ [(k,v)]
noncomputable def GC (es:List (Value×Value))(k:Value):List (Value×Value):=by
 classical exact es.filter λe=>decide (e.1≠k)
theorem Va{dd:TypeDesc}{b:Nat}{es:List (Value×Value)}{h:Hp}(p:mq dd b es h):(es.map (·.1)).Nodup:=by
 obtain⟨eK,wX,he,_,hs,_⟩:=p;rw[<-he];simpa[Function.comp_def]using hs.2.2
theorem Dm{dd:TypeDesc}{k:Value}(hk:IsKey dd k){eK:Array MapEntry}(Qo:∀x∈eK.toList,IsKey dd x.key):
  (Instr.findNow dd k eK.toList 0=some none/\∀e∈eK.toList.map (λe=>(e.key,e.val)),e.1≠k)\/∃j e,Instr.findNow dd k eK.toList 0=some (some (j,e.val))/\eK[j]?=some e/\e.key=k:=by
 rcases findNow_spec hk eK.toList 0 Qo with⟨h1,h2⟩|⟨j,e,h1,h2,h3⟩
 ·refine .inl ⟨h1,λe he=> ?_⟩
  obtain⟨x,hx,rfl⟩:=List.mem_map.1 he;exact h2 x hx
 exact .inr ⟨j,e,by simpa using h1,by simpa using h2,h3⟩
theorem Fg{es:List (Value×Value)}{k:Value}(h:∀e∈es,e.1≠k):uU es k=none:=by
 simp only[uU,Option.map_eq_none_iff,List.find?_eq_none];intro e he;simpa using h e he
theorem Vm{es:List (Value×Value)}{k v:Value}(hn:(es.map (·.1)).Nodup)(h:(k,v)∈es):uU es k=some v:=by
 induction es with
 |nil=>cases h
 |cons e es ih=>
  simp only[List.map_cons,List.nodup_cons]at hn;rcases List.mem_cons.1 h with rfl|h
  ·simp[uU]
  have fN:e.1≠k:=λq=>hn.1 (List.mem_map.2 ⟨(k,v),h,q.symm⟩);have:=ih hn.2 h;simp only[uU]at this⊢;rw[List.find?_cons_of_neg (by simpa using fN)];exact this
theorem U1{α:Type}{l:List α}(hn:l.Nodup){i j:Nat}{x:α}(hi:l[i]?=some x)(hj:l[j]?=some x):i=j:=by
 obtain⟨h1,e1⟩:=List.getElem?_eq_some_iff.1 hi;obtain⟨h2,e2⟩:=List.getElem?_eq_some_iff.1 hj;have hp:=List.pairwise_iff_getElem.1 hn;rcases Nat.lt_trichotomy i j with q|q|q
 ·exact absurd (e1.trans e2.symm) (hp i j h1 h2 q)
 ·exact q
 exact absurd (e2.trans e1.symm) (hp j i h2 h1 q)
theorem uR{dd:TypeDesc}{k:Value}(h:Xk dd k=true)(m:Nat):Instr.sameBits m k k=true:=by
 cases dd<;>cases k<;>simp[Xk]at h<;>simp[Instr.sameBits];exact(bytes_beq _ _).2 rfl
section
variable {P:Program} {n:Nat} {ds:Dx} {F:dM} {Q:Exit->F7} {K:F7} {σ:aT} {H:Dz} {o:Oper} {d:Nat}
theorem oQm{t:TypeId}(dd:TypeDesc)(h:∀b,G n ds F K ((d, .map (some b))::σ) (mq dd b []::H))(ho:o.op= .makeMap t none:=by exact rfl)(hd:o.dst=some d:=by exact rfl)(hdn:Nat.blt d n=true:=by exact rfl):G n ds F (λa w=>o.wp P a w K Q) σ H:=by
 refine .mk λa w en s=> ?_;unfold Oper.wp;have:(execOp a.eval o).run P w= .ok (.value (.map (some w.heap.size))) (w.alloc (.map #[] 0)):=by
  have h0:(Instr.makeMap t none).run P w= .ok (.map (some w.heap.size)) (w.alloc (.map #[] 0)):=rfl;simp[execOp,ho,h0]
 rw[this,Oper.upon_value,hd];exact h _ _ _ (en.put hdn _) (s.Ya _ _ (.mk #[] 0 rfl (by simp) (stamped_empty 0) (by simp)))
theorem CS{es:List (Value×Value)}{k v:Value}(h:∃e∈es,e.1=k):DN es k v=es.map (λe=>by classical exact if e.1=k then(k,v)else e):=by
 unfold DN;rw[if_pos h]
theorem CT{es:List (Value×Value)}{k v:Value}(h:∀e∈es,e.1≠k):DN es k v=es++ [(k,v)]:=by
 unfold DN;rw[if_neg (by rintro⟨e,he,q⟩;exact h e he q)]
theorem Gc{α:Type}(l:Array α)(i:Nat)(f:α->α):(l.modify i f).toList=l.toList.modify i f:=Array.toList_modify
theorem oQi{t k e:TypeId}{dd:TypeDesc}{z:Value}{m x y:Operand}{b:Nat}{es:List (Value×Value)}{kv v:Value}{f:aa->Dz}(ht:xU P t=some (k,dd,e,z))(h:G n ds F K σ (f (mq dd b (DN es kv v))))(ho:o.op= .mapUpdate t m x y\/o.op= .insert t m x y:=by first|exact .inl rfl|exact .inr rfl)(hd:o.dst=none:=by exact rfl)
  (hm:bC σ m=some (.map (some b)):=by exact rfl) (hx:bC σ x=some kv:=by exact rfl) (hy:bC σ y=some v:=by exact rfl) (hk:Xk dd kv=true:=by exact rfl) (hu:Pos H (mq dd b es) f:=by repeat (first|exact Pos.here|apply Pos.there)):
  G n ds F (λa w=>o.wp P a w K Q) σ H:=by
 classical
 refine .mk λa w en s=> ?_;obtain⟨PT,DQ,_,_,_⟩:=nU ht;obtain⟨R,s1,s2⟩:=hu.uZ;have sR:=s.uZ s1;obtain⟨hh,⟨eK,wX,he,Qo,fM,hb⟩,hl⟩:=sR.get;have hw:w.heap[b]?=some (.map eK wX):=hl _ _ hb;unfold Oper.wp;rcases Dm (jF hk) Qo with⟨GN,lP⟩|⟨j,Qx,GN,hj,oF⟩
 ·have:(execOp a.eval o).run P w= .ok .skip {w with heap:=w.heap.setIfInBounds b (.map (eK.push {key:=kv,val:=v,born:=wX}) (wX+1))}:=by
   have hup:(Instr.mapUpdate t (.map (some b)) kv v).run P w= .ok () {w with heap:=w.heap.setIfInBounds b (.map (eK.push {key:=kv,val:=v,born:=wX}) (wX+1))}:=by
    simp[Instr.mapUpdate,run_underlying PT,MapKept.run_getObj_map hw,MapKept.run_checkKey DQ (jF hk),MapKept.run_findKey DQ GN,MapKept.run_setObj_map _ hw,Result.andThen]
   rcases ho with ho|ho<;>simp[execOp,ho,en.eval hm,en.eval hx,en.eval hy,hup,Result.andThen]
  rw[this,Oper.upon_skip,hd];rw[he]at lP;refine h _ _ en (St.qt (s2 _) (sR.X7 (λh' p=>by obtain⟨_,_,_,_,_,q⟩:=p;exact⟨_,q⟩) (.mk (eK.push {key:=kv,val:=v,born:=wX}) (wX+1) (by rw[CT lP];simp[he]) (λq hq=> ?_) (stamped_push fM λq hq e=> ?_) (by simp))))
  ·simp only[Array.toList_push,List.mem_append,List.mem_singleton]at hq
   rcases hq with hq|rfl
   ·exact Qo q hq
   exact jF hk
  exact lP (q.key,q.val) (by rw[<-he];exact List.mem_map.2 ⟨q,hq,rfl⟩) e
 have hold:eK.toList[j]?=some Qx:=by simpa using hj
 have D4:(execOp a.eval o).run P w= .ok .skip {w with heap:=w.heap.setIfInBounds b (.map (eK.modify j λe=>{e with key:=kv,val:=v}) wX)}:=by
  have hup:(Instr.mapUpdate t (.map (some b)) kv v).run P w= .ok () {w with heap:=w.heap.setIfInBounds b (.map (eK.modify j λe=>{e with key:=kv,val:=v}) wX)}:=by
   simp[Instr.mapUpdate,run_underlying PT,MapKept.run_getObj_map hw,MapKept.run_checkKey DQ (jF hk),MapKept.run_findKey DQ GN,hj,oF,Instr.keyThatStays,uR hk,MapKept.run_setObj_map _ hw,Result.andThen]
  rcases ho with ho|ho<;>simp[execOp,ho,en.eval hm,en.eval hx,en.eval hy,hup,Result.andThen]
 rw[D4,Oper.upon_skip,hd];have xa:(kv,Qx.val)∈es:=by rw[<-he,<-oF];exact List.mem_map.2 ⟨Qx,List.mem_of_getElem? hold,rfl⟩
 have Q6:(eK.modify j λe=>{e with key:=kv,val:=v}).toList.map (λe=>(e.key,e.val))=DN es kv v:=by
  rw[CS ⟨_,xa,rfl⟩,<-he,Gc];apply List.ext_getElem?;intro i;simp only[List.getElem?_map,List.getElem?_modify];by_cases hij:j=i
  ·subst hij
   simp[hold,oF]
  cases hi:eK.toList[i]? with
  |none=>simp
  |some e'=>
   have fN:e'.key≠kv:=by
    intro q;have hn:=fM.2.2;exact hij (U1 hn (x:=kv) (by simp[hold,oF]) (by simp[hi,q]))
   simp[fN,hij]
 refine h _ _ en (St.qt (s2 _) (sR.X7 (λh' p=>by obtain⟨_,_,_,_,_,q⟩:=p;exact⟨_,q⟩) (.mk _ wX Q6 (isKey_modify Qo j _ (λe Qs=>by rw[hj]at Qs;cases Qs;exact oF.symm)) (stamped_modify fM j _ (λ_ _=>rfl) (λe _ Qs=>by rw[hj]at Qs;cases Qs;exact oF.symm)) (by simp))))
theorem A8{t k e:TypeId}{dd:TypeDesc}{z:Value}{b:Nat}{es:List (Value×Value)}{kv:Value}{h:Hp}{w:World}(ht:xU P t=some (k,dd,e,z))(hk:Xk dd kv=true)(p:mq dd b es h)(hl:Le h (ki w))(c:Bool):
  (Instr.lookup t (.map (some b)) kv c).run P w= .ok (if c then .tuple #[(uU es kv).getD z, .bool (uU es kv).isSome]else(uU es kv).getD z) w:=by
 obtain⟨PT,DQ,i,hi,hz⟩:=nU ht;have zQ:=Va p;obtain⟨eK,wX,he,Qo,fM,hb⟩:=p;have hw:w.heap[b]?=some (.map eK wX):=hl _ _ hb;rcases Dm (jF hk) Qo with⟨GN,lP⟩|⟨j,Qx,GN,hj,oF⟩
 ·rw[he]at lP
  rw[Fg lP];simp[Instr.lookup,run_underlying PT,MapKept.run_getObj_map hw,MapKept.run_checkKey DQ (jF hk),MapKept.run_findKey DQ GN,zeroValue,typeInfo,hi,hz,Result.andThen]
 have xa:(kv,Qx.val)∈es:=by rw[<-he,<-oF];exact List.mem_map.2 ⟨Qx,List.mem_of_getElem? (by simpa using hj),rfl⟩
 rw[Vm zQ xa];simp[Instr.lookup,run_underlying PT,MapKept.run_getObj_map hw,MapKept.run_checkKey DQ (jF hk),MapKept.run_findKey DQ GN,Result.andThen]
theorem oQl{t k e:TypeId}{dd:TypeDesc}{z:Value}{m x:Operand}{b:Nat}{es:List (Value×Value)}{kv:Value}{R:Dz}(ht:xU P t=some (k,dd,e,z))(h:G n ds F K ((d,(uU es kv).getD z)::σ) H)(ho:o.op= .lookup t m x false:=by exact rfl)(hd:o.dst=some d:=by exact rfl)
  (hm:bC σ m=some (.map (some b)):=by exact rfl) (hx:bC σ x=some kv:=by exact rfl) (hk:Xk dd kv=true:=by exact rfl) (hs:fO H (mq dd b es) R:=by repeat (first|exact fO.here|apply fO.there)) (hdn:Nat.blt d n=true:=by exact rfl):G n ds F (λa w=>o.wp P a w K Q) σ H:=
 sV hd hdn (λa w en s=>by
  obtain⟨hh,p,hl⟩:=(s.uZ hs).get;simp[execOp,ho,en.eval hm,en.eval hx,A8 ht hk p hl]) h
theorem X9{t k e:TypeId}{dd:TypeDesc}{z:Value}{m x:Operand}{b:Nat}{es:List (Value×Value)}{kv:Value}{R:Dz}(ht:xU P t=some (k,dd,e,z))(h:G n ds F K ((d, .tuple #[(uU es kv).getD z, .bool (uU es kv).isSome])::σ) H)(ho:o.op= .lookup t m x true:=by exact rfl)(hd:o.dst=some d:=by exact rfl)
  (hm:bC σ m=some (.map (some b)):=by exact rfl) (hx:bC σ x=some kv:=by exact rfl) (hk:Xk dd kv=true:=by exact rfl) (hs:fO H (mq dd b es) R:=by repeat (first|exact fO.here|apply fO.there)) (hdn:Nat.blt d n=true:=by exact rfl):G n ds F (λa w=>o.wp P a w K Q) σ H:=
 sV hd hdn (λa w en s=>by
  obtain⟨hh,p,hl⟩:=(s.uZ hs).get;simp[execOp,ho,en.eval hm,en.eval hx,A8 ht hk p hl]) h
theorem oQd{t k e:TypeId}{dd:TypeDesc}{z:Value}{m x:Operand}{b:Nat}{es:List (Value×Value)}{kv:Value}{f:aa->Dz}{t2:TypeId}(ht:xU P t=some (k,dd,e,z))(h:G n ds F K σ (f (mq dd b (GC es kv))))(ho:o.op= .call {callee:= .builtin .delete,args:= #[m,x],argTypes:= #[t,t2]}:=by exact rfl)(hd:o.dst=none:=by exact rfl)
  (hm:bC σ m=some (.map (some b)):=by exact rfl) (hx:bC σ x=some kv:=by exact rfl) (hk:Xk dd kv=true:=by exact rfl) (hu:Pos H (mq dd b es) f:=by repeat (first|exact Pos.here|apply Pos.there)):G n ds F (λa w=>o.wp P a w K Q) σ H:=by
 classical
 refine .mk λa w en s=> ?_;obtain⟨PT,DQ,_,_,_⟩:=nU ht;obtain⟨R,s1,s2⟩:=hu.uZ;have sR:=s.uZ s1;obtain⟨hh,⟨eK,wX,he,Qo,fM,hb⟩,hl⟩:=sR.get;have hw:w.heap[b]?=some (.map eK wX):=hl _ _ hb;have same:{w with heap:=w.heap.setIfInBounds b (.map eK wX)}=w:=by
  have ct:=(Array.getElem?_eq_some_iff.1 hw).1;have:w.heap.setIfInBounds b (.map eK wX)=w.heap:=by
   apply Array.ext_getElem?;intro i;rw[Array.getElem?_setIfInBounds];split
   ·rename_i q;subst q;rw[hw]
   rfl
  rw[this]
 unfold Oper.wp;rcases Dm (jF hk) Qo with⟨GN,lP⟩|⟨j,Qx,GN,hj,oF⟩
 ·have:(execOp a.eval o).run P w= .ok (.value (.tuple #[])) w:=by
   simp[execOp,ho,resolve,invoke,builtin,Builtin.delete_,en.eval hm,en.eval hx,run_underlying PT,MapKept.run_getObj_map hw,MapKept.run_checkKey DQ (jF hk),MapKept.run_findKey DQ GN,MapKept.run_setObj_map _ hw,Result.andThen,same]
  rw[this,Oper.upon_value,hd];rw[he]at lP;have pU:GC es kv=es:=by
   unfold GC;rw[List.filter_eq_self];intro e' Qs;simpa using lP e' Qs
  rw[pU]at h;exact h _ _ en (by
   have:=St.qt (s2 (mq dd b es)) sR;exact this)
 have ct:=(Array.getElem?_eq_some_iff.1 hj).1;have:(execOp a.eval o).run P w= .ok (.value (.tuple #[])) {w with heap:=w.heap.setIfInBounds b (.map (eK.eraseIdxIfInBounds j) wX)}:=by
  simp[execOp,ho,resolve,invoke,builtin,Builtin.delete_,en.eval hm,en.eval hx,run_underlying PT,MapKept.run_getObj_map hw,MapKept.run_checkKey DQ (jF hk),MapKept.run_findKey DQ GN,MapKept.run_setObj_map _ hw,Result.andThen]
 rw[this,Oper.upon_value,hd];have Q6:(eK.eraseIdxIfInBounds j).toList.map (λe=>(e.key,e.val))=GC es kv:=by
  have e1:(eK.eraseIdxIfInBounds j).toList=eK.toList.eraseIdx j:=by
   unfold Array.eraseIdxIfInBounds;rw[dif_pos ct];simp
  rw[e1,<-he];have zQ:(eK.toList.map (·.key)).Nodup:=fM.2.2;have hg:eK.toList[j]?=some Qx:=by simpa using hj
  clear GN fM Qo hb hw hl he this e1 same
  clear hj ct
  generalize eK.toList=l at*;induction l generalizing j with
  |nil=>simp at hg
  |cons x l ih=>
   simp only[List.map_cons,List.nodup_cons]at zQ;cases j with
   |zero=>
    simp at hg;subst hg;simp only[List.eraseIdx_cons_zero,List.map_cons,GC];rw[List.filter_cons_of_neg (by simp[oF])]
    symm
    rw[List.filter_eq_self];intro e' Qs;obtain⟨y,hy,rfl⟩:=List.mem_map.1 Qs;have:y.key≠x.key:=λq=>zQ.1 (List.mem_map.2 ⟨y,hy,q⟩);simpa[<-oF]using this
   |succ j=>
    simp at hg;have Xl:x.key≠kv:=λq=>zQ.1 (List.mem_map.2 ⟨Qx,List.mem_of_getElem? hg,oF.trans q.symm⟩);simp only[List.eraseIdx_cons_succ,List.map_cons,GC];rw[List.filter_cons_of_pos (by simpa using Xl)]
    congr 1
    exact ih j zQ.2 hg
 refine h _ _ en (St.qt (s2 _) (sR.X7 (λh' p=>by obtain⟨_,_,_,_,_,q⟩:=p;exact⟨_,q⟩) (.mk _ wX Q6 (λq hq=>Qo q ?_) (stamped_erase fM j) (by simp))));unfold Array.eraseIdxIfInBounds at hq;rw[dif_pos ct]at hq;exact(List.eraseIdx_sublist _ _).subset (by simpa using hq)
end
end Go.dQ
namespace Go.dQ
open Go Go.MapKept
theorem St.X6{F:dM}{H:Dz}{w:World}{A B:aa}{b:Nat}{o':Obj}(s:St F (A::H) w)(hA:∀h,A h->Le h (ki w)->(∃o,h b=some o)/\B λx=>if x=b then some o' else h x):
  St F (B::H) {w with heap:=w.heap.setIfInBounds b o'}:=by
 obtain⟨a1,a2,a3,fr,h,⟨h1,h2,d,l1,l2,hp,s⟩,y,z⟩:=s;obtain⟨⟨ob,hb⟩,hB⟩:=hA h1 hp (l1.trans y);have hw:w.heap[b]?=some ob:=(l1.trans y) _ _ hb;obtain⟨zP,Xm⟩:=heap_set (o':=o') hw;have fN:∀k:Hp,bP h1 k->∀x o,k x=some o->x≠b:=by
  intro k dk x o e hx;subst hx;rcases dk x with q|q
  ·rw[hb]at q;cases q
  rw[e]at q;cases q
 have hold:∀k:Hp,bP h1 k->Le k (ki w)->Le k (ki {w with heap:=w.heap.setIfInBounds b o'}):=by
  intro k dk lk x o e;have:=lk x o e;unfold ki at*;show(w.heap.setIfInBounds b o')[x]?=some o;rw[Xm x (fN k dk x o e)];exact this
 have dF:bP h1 F.h:=z.left l1;have d2:∀k:Hp,bP h1 k->bP (λx=>if x=b then some o' else h1 x) k:=by
  intro k dk x;by_cases hx:x=b
  ·subst hx
   rcases dk x with q|q
   ·rw[hb]at q;cases q
   exact .inr q
  rcases dk x with q|q
  ·exact .inl (by simp[hx,q])
  exact .inr q
 refine⟨a1,a2,a3,hold _ dF fr,fH _ h2,⟨_,h2,d2 _ d,aU _ _,aP (d2 _ d),hB,s⟩,bX ?_ (hold _ d (l2.trans y)),bP.fH (d2 _ dF) (z.left l2)⟩;intro x o e;by_cases hx:x=b
 ·subst hx;simp only[if_true]at e;cases e;exact zP
 simp only[hx,if_false]at e;have:=(l1.trans y) x o e;unfold ki at*;show(w.heap.setIfInBounds b o')[x]?=some o;rw[Xm x hx];exact this
section
variable {P:Program} {n:Nat} {ds:Dx} {F:dM} {Q:Exit->F7} {K:F7} {σ:aT} {H:Dz} {o:Oper} {d:Nat}
end
end Go.dQ
namespace Go.dQ
open Go
theorem II{A:aa}{L H:Dz}{h:Hp}(s:ai (aF (A::L)::H) h):ai (A::aF L::H) h:=by
 obtain⟨h1,h2,d,l1,l2,⟨h3,h4,d',l3,l4,a,s1⟩,s2⟩:=s;refine⟨h3,fH h4 h2, ?_,l3.trans l1,bX (l4.trans l1) l2,a,h4,h2,d.left l4,aU _ _,aP (d.left l4),s1,s2⟩;exact(bP.fH d'.symm (d.left l3).symm).symm
theorem IH{A:aa}{L H:Dz}{h:Hp}(s:ai (A::aF L::H) h):ai (aF (L++ [A])::H) h:=by
 have s:=dH s;have:ai (aF L::([A]++H)) h:=s;exact zi this
section
variable {P:Program} {n:Nat} {ds:Dx} {F:dM} {Q:Exit->F7} {K:F7} {σ:aT} {H:Dz} {o:Oper} {d:Nat}
theorem MK{α:Type}{f:α->aa}{X:α->Hp->Prop}(hx:∀a k,f a k->X a k)(hm:∀a k l,X a k->Le k l->X a l):∀(L:List α) (h:Hp),ai (L.map f) h->∀a∈L,X a h:=by
 intro L;induction L with
 |nil=>intro h _ a ha;cases ha
 |cons b r ih=>
  intro h s a ha;obtain⟨h1,h2,d,l1,l2,p,s2⟩:=s;rcases List.mem_cons.1 ha with rfl|ha
  ·exact hm _ _ _ (hx _ _ p) l1
  exact hm _ _ _ (ih h2 s2 a ha) l2
theorem UW{a:FX}{cap e sz:Nat}{xs:FV}{R:Dz}{w:World}(s:St F (own a cap e sz xs::R) w):
  (a=none/\cap=0/\xs= [])\/∃b sp,a=some ⟨b,0,none⟩/\xs.length+sp.length=cap*sz/\cap<=maxLen/\St F (ag b e (xs++sp)::R) w:=by
 obtain⟨a1,a2,a3,fr,h,⟨h1,h2,dd,l1,l2,⟨q1,q2,q3|⟨b,sp,rfl,q4,q5⟩⟩,st⟩,y,zz⟩:=s
 ·obtain⟨rfl,rfl⟩:=q3
  exact .inl ⟨rfl,rfl,List.eq_nil_of_length_eq_zero (by omega)⟩
 exact .inr ⟨b,sp,rfl,q4,q2,a1,a2,a3,fr,h,⟨h1,h2,dd,l1,l2,q5,st⟩,y,zz⟩
theorem PA{b cap e sz:Nat}{xs sp:FV}{R:Dz}{w:World}(hl:xs.length+sp.length=cap*sz)(hm:cap<=maxLen)(s:St F (ag b e (xs++sp)::R) w):St F (own (some ⟨b,0,none⟩) cap e sz xs::R) w:=
 s.sub λ_ s'=>bo (λ_ p=>⟨by omega,hm, .inr ⟨b,sp,rfl,hl,p⟩⟩) s'
theorem Zp{a:FX}{cap e sz:Nat}{xs ys:FV}{h:Hp}(o:own a cap e sz (xs++ys) h):own a cap e sz xs h:=by
 have:=yO o xs.length
 rwa[List.take_left]at this
theorem oSON{t k':TypeId}{x y:Operand}{a:FX}{j cap e sz:Nat}{cells vs:FV}{f:aa->Dz}(hs:cO P t=some k')(h:G n ds F K σ (f (own a cap e sz (dq cells j vs))))(ho:o.op= .store t x y:=by exact rfl)(hd:o.dst=none:=by exact rfl)
  (hx:bC σ x=some (.pointer (a.map (·.add j))):=by exact rfl) (hy:bC σ y=some (.agg vs.toArray):=by exact rfl) (hk:vs.length=k':=by exact rfl) (h1:∀v∈vs,v.oneCell'=true:=by simp[dq,Value.cells,Value.oneCell',aW])
  (hu:Pos H (own a cap e sz cells) f:=by repeat (first|exact Pos.here|apply Pos.there)) (hj:j+vs.length<=cells.length:=by first|omega|(simp;omega)) (h0:0<vs.length:=by first|omega|(simp;done)|(simp;omega)):G n ds F (λa w=>o.wp P a w K Q) σ H:=by
 refine .mk λac w en s=> ?_;obtain⟨R,s1,s2⟩:=hu.uZ;rcases UW (s.uZ s1)with⟨rfl,rfl,rfl⟩|⟨b,sp,rfl,q4,q2,st⟩
 ·simp only[List.length_nil]at hj;omega
 obtain⟨w',hr,s'⟩:=ke (P:=P) vs j 0 (cells++sp) w st (by rw[List.length_append];omega) h1;unfold Oper.wp;have:(execOp ac.eval o).run P w= .ok .skip w':=by
  simp[execOp,ho,en.eval hx,en.eval hy,Instr.storeAt,Instr.sureAddr,storeVar,(fG hs).2,Value.cells,hk,add_lit,hr]
 rw[this,Oper.upon_skip,hd];refine h _ _ en (St.qt (s2 _) (PA (b:=b) (sp:=sp) ?_ q2 ?_))
 ·rw[wL];exact q4
 have e:dq (cells++sp) j vs=dq cells j vs++sp:=by
  rw[mO (by rw[List.length_append];omega),mO hj,List.take_append_of_le_length (by omega),List.drop_append_of_le_length (by omega)];simp
 have s'':=s';simp only[Nat.add_zero]at s'';rw[e]at s'';exact s''
def XR (a:FX)(c e sz:Nat)(pre news:FV)(g:FX)(gc:Nat):aa:=λh=>
 ((g=a/\gc=c)/\own a c e sz (pre++news) h)\/∃ys,aF [own g gc e sz (pre++news),own a c e sz (pre++ys)] h
end
end Go.dQ
