/- Part Pc of the proof. -/
import Derived.Test.YtcbcjolpdljbiaaGreatPb
import Derived.Defers
import Derived.Laws.Concat
import Derived.Laws.Externs
import Derived.Laws.LoneSync
import Derived.Laws.StructEq
import Derived.MapKept
set_option maxRecDepth 100000
namespace Go.dC
open Go
section
variable {P:Program} {f:FuncId} {args:FJ} {pre:Hp->Prop} {H:F8} {R:Dp}
theorem St.ex{ι:Type}{F:dG}{w:World}{A:ι->aa}(s:St F ((λk=>∃x,A x k)::H) w):∃x,St F (A x::H) w:=by
 obtain⟨a1,a2,a3,fr,hh,⟨h1,h2,d,l1,l2,⟨x,hx⟩,st⟩,y,z⟩:=s;exact⟨x,a1,a2,a3,fr,hh,⟨h1,h2,d,l1,l2,hx,st⟩,y,z⟩
theorem aG.exL{ι:Type}{A:ι->aa}(h:∀x,aG P f args pre (A x::H) R):aG P f args pre ((λk=>∃x,A x k)::H) R:=λF w hp s=>by
 obtain⟨x,s'⟩:=s.ex;exact h x F w hp s'
theorem aG.D8{X:Prop}{A:aa}(h:X->aG P f args pre (A::H) R):aG P f args pre ((λk=>X/\A k)::H) R:=λF w hp s=>by
 obtain⟨a1,a2,a3,fr,hh,⟨h1,h2,d,l1,l2,⟨x,hx⟩,st⟩,y,z⟩:=s;exact h x F w hp ⟨a1,a2,a3,fr,hh,⟨h1,h2,d,l1,l2,hx,st⟩,y,z⟩
theorem aG.GV{L:F8}(h:aG P f args pre (L++H) R):aG P f args pre (aB L::H) R:=λF w hp s=>
 h F w hp (s.sub λk s=>by
  obtain⟨h1,h2,d,l1,l2,s1,s2⟩:=s;exact eU (bz s1 s2 d) (bQ l1 l2))
theorem aG.out{R':Dp}(h:aG P f args pre H R)(hr:∀v H',R v H'->∃H'',R' v H''/\∀k,ai H' k->ai H'' k):aG P f args pre H R':=λF w p s=>
 (h F w p s).mono λe w' hh=>by
  obtain⟨v,H',he,r,st⟩:=hh;obtain⟨H'',r',ent⟩:=hr v H' r;exact⟨v,H'',he,r',st.sub ent⟩
theorem aG.inp{ahn:Hp->Prop}(h:aG P f args pre H R)(hp:∀k,ahn k->pre k):aG P f args ahn H R:=λF w p s=>h F w (hp _ p) s
theorem aG.Q9{X:Prop}(hx:∀k,pre k->X)(h:X->aG P f args pre H R):aG P f args pre H R:=λF w p s=>h (hx _ p) F w p s
theorem y4{X:Prop}{A:aa}{h:Hp}(x:X)(s:ai (A::H) h):ai ((λk=>X/\A k)::H) h:=aZ (λ_ p=>⟨x,p⟩) s
end
section
variable {P:Program} {n:Nat} {ds:Dq} {F:dG} {K:F9} {σ:aP} {H:F8}
theorem Hk{X:Prop}{A:aa}(h:X->G n ds F K σ (A::H)):G n ds F K σ ((λk=>X/\A k)::H):=by
 refine .mk λa w e s=> ?_;obtain⟨a1,a2,a3,fr,hh,⟨h1,h2,d,l1,l2,⟨x,hx⟩,st⟩,y,z⟩:=s;exact h x a w e ⟨a1,a2,a3,fr,hh,⟨h1,h2,d,l1,l2,hx,st⟩,y,z⟩
end
theorem iK{H R:F8}{A:aa}{X:Prop}(s:fP H A R)(hx:∀k,A k->X):∀h,gG H h->X:=λh ak=>by obtain⟨k,p,_⟩:=rW s h ak;exact hx k p
theorem Ys{a:FL}{cap e:Nat}{xs:FJ}(k:Hp)(o:own a cap e 1 xs k):xs.length<=cap:=by have:=o.1;omega
theorem np{a:FL}{cap e sz:Nat}{xs:FJ}{k:Hp}(o:own a cap e sz xs k)(h:0<xs.length):a.isSome=true:=by
 obtain⟨h1,_,h3|⟨b,sp,rfl,_,_⟩⟩:=o
 ·obtain⟨rfl,rfl⟩:=h3;omega
 rfl
end Go.dC
namespace Go.dC
open Go
section
variable {P:Program} {n:Nat} {ds:Dq} {F:dG} {Q:Exit->F9} {K:F9} {σ:aP} {H:F8} {o:Oper} {d:Nat}
def FnD (P:Program)(f:FuncId)(args:FJ)(pre:Hp->Prop)(H:F8)(R:Dp):Prop:=
 ay P f=true/\∀F w u,pre F.h->St F H w->CallsD P f args.toArray u w λe u' w'=>u'=u/\∃v H',e= .returned v/\R v H'/\St F H' w'
theorem MU{f:FuncId}{fn:Func}{c:Code}{args:FJ}{pre:Hp->Prop}{R:Dp}{m:Nat}(hi:ay P f=true)(hf:P.funcs[f]?=some fn)(hb:fn.body=some c)(hm:fn.ntmps=m)(hn:Nat.ble args.length m=true)
  (h:∀F:dG,pre F.h->G m [] F (c.wp P (bodyPost P fn λe w'=>∃v H',e= .returned v/\R v H'/\St F H' w')) (jM 0 args) H):FnD P f args pre H R:=
 ⟨hi,λF w u hp s=>callsD_of_wp hf hb (by
  subst hm;exact h F hp _ _ (DY args _ (Nat.le_of_ble_eq_true hn)) s)⟩
def abl (P:Program)(fn:Func)(R:Ending->World->Prop):Exit->F9
 | .normal,a,w| .ret,a,w=>Leaves P fn a.tmps R a.defers .returning w
 |_,_,_=>False
theorem U1{f:FuncId}{fn:Func}{c:Code}{args:FJ}{pre:Hp->Prop}{R:Dp}{m:Nat}(hf:P.funcs[f]?=some fn)(hb:fn.body=some c)(hm:fn.ntmps=m)(hn:Nat.ble args.length m=true)
  (h:∀F:dG,pre F.h->G m [] F (c.wp P (abl P fn λe w'=>∃v H',e= .returned v/\R v H'/\St F H' w')) (jM 0 args) H):aG P f args pre H R:=
 λF w hp s=>calls_of_wp_defers hf hb (by
  subst hm;refine wp_mono (h F hp _ _ (DY args _ (Nat.le_of_ble_eq_true hn)) s) λe a w' q=> ?_;cases e with
  |normal=>exact q
  |ret=>exact q
  |exit id=>exact q.elim
  |goto l=>exact q.elim
  |panic ch=>exact q.elim
  |outgrown=>exact q.elim)
theorem D3{ops:Array Oper}{listed:Array Bool}{fuel:Nat}{S:World->Prop}(i j k:Nat)
  (h1:G n ds F (wpOp P ops Q i (λa' w'=>S w'/\wpAnyH P .any ops Q S fuel (listed.setIfInBounds i true) a' w')) σ H)
  (h2:G n ds F (wpOp P ops Q j (λa' w'=>S w'/\wpAnyH P .any ops Q S fuel (listed.setIfInBounds j true) a' w')) σ H)
  (h3:G n ds F (wpOp P ops Q k (λa' w'=>S w'/\wpAnyH P .any ops Q S fuel (listed.setIfInBounds k true) a' w')) σ H) (hr:Region.ready .any ops listed= [i,j,k]:=by kernel_rfl):G n ds F (wpAnyH P .any ops Q S (fuel+1) listed) σ H:=
 Hj hr rfl λm hm=>by
  rcases List.mem_cons.1 hm with rfl|hm
  ·exact h1
  rcases List.mem_cons.1 hm with rfl|hm
  ·exact h2
  rw[List.mem_singleton.1 hm];exact h3
end
end Go.dC
namespace Go.dC
open Go Go.MapKept
def lk (es:List (Value×Value))(k:Value):Option Value:=
 match es with
 | []=>none
 |(k',v)::r=>match sameK k' k with|true=>some v|false=>lk r k
where sameK:Value->Value->Bool
 | .int _ a, .int _ b=>decide (a=b)
 | .string a, .string b=>decide (a.data.toList=b.data.toList)
 |_,_=>false
def Wi:TypeDesc->Value->Bool
 | .int k, .int k' _=>decide (k'=k)
 | .string, .string _=>true
 |_,_=>false
theorem jw{d:TypeDesc}{k:Value}(h:Wi d k=true):IsKey d k:=by
 cases d<;>cases k<;>simp[Wi]at h<;>simp[IsKey,h]
def xH (P:Program)(t:TypeId):Option (TypeId×TypeDesc×TypeId×Value):=
 match P.underlying t with
 |some (.map k e)=>match P.underlying k,P.info? e with
  |some d,some i=>match i.zero with
   |some z=>some (k,d,e,z)
   |none=>none
  |_,_=>none
 |_=>none
theorem nD{P:Program}{t k e:TypeId}{d:TypeDesc}{z:Value}(h:xH P t=some (k,d,e,z)):P.underlying t=some (.map k e)/\P.underlying k=some d/\∃i,P.info? e=some i/\i.zero=some z:=by
 unfold xH at h;cases hu:P.underlying t with
 |none=>simp[hu]at h
 |some dd=>
  cases dd<;>simp[hu]at h;rename_i k' e';cases hk:P.underlying k' with
  |none=>simp[hk]at h
  |some d'=>
   cases hi:P.info? e' with
   |none=>simp[hk,hi]at h
   |some i=>
    simp only[hk,hi]at h;cases hz:i.zero with
    |none=>simp[hz]at h
    |some z'=>
     simp[hz]at h;obtain⟨rfl,rfl,rfl,rfl⟩:=h;exact⟨rfl,hk,i,hi,hz⟩
theorem St.Xb{F:dG}{H:F8}{w:World}(s:St F H w)(o:Obj)(A:aa)(hA:A λx=>if x=w.heap.size then some o else none):St F (A::H) (w.alloc o):=by
 obtain⟨a1,a2,a3,fr,h,s,y,z⟩:=s;have hold:∀k:Hp,Le k (lr w)->Le k (lr (w.alloc o)):=by
  intro k lk x ob ex;have hx:=lk x ob ex;unfold lr at*;rw[RowKit.Below.heap_alloc w _ x (Array.getElem?_eq_some_iff.1 hx).1];exact hx
 have dk:∀k:Hp,Le k (lr w)->bG (λx=>if x=w.heap.size then some o else none) k:=by
  intro k lk x;by_cases hx:x=w.heap.size
  ·right
   cases q:k x with
   |none=>rfl
   |some ob=>
    have:=lk x ob q;unfold lr at this;have:=(Array.getElem?_eq_some_iff.1 this).1;omega
  exact .inl (by simp[hx])
 refine⟨a1,a2,a3,hold _ fr,fF _ h,⟨_,h,dk _ y,aR _ _,aJ (dk _ y),hA,s⟩,bQ ?_ (hold _ y),bG.fF (dk _ fr) z⟩;intro x ob ex;by_cases hx:x=w.heap.size
 ·subst hx;simp only[if_true]at ex;cases ex;exact heap_alloc_new w _
 simp[hx]at ex
theorem St.W8{F:dG}{H:F8}{w:World}{A B:aa}{b:Nat}{o':Obj}(s:St F (A::H) w)(hA:∀h,A h->∃o,h b=some o)(hB:B λx=>if x=b then some o' else none):
  St F (B::H) {w with heap:=w.heap.setIfInBounds b o'}:=by
 obtain⟨a1,a2,a3,fr,h,⟨h1,h2,d,l1,l2,hp,s⟩,y,z⟩:=s;obtain⟨ob,hb⟩:=hA h1 hp;have hw:w.heap[b]?=some ob:=(l1.trans y) _ _ hb;obtain⟨zD,Wk⟩:=heap_set (o':=o') hw;have fQ:∀k:Hp,bG h1 k->∀x o,k x=some o->x≠b:=by
  intro k dk x o e hx;subst hx;rcases dk x with q|q
  ·rw[hb]at q;cases q
  rw[e]at q;cases q
 have hold:∀k:Hp,bG h1 k->Le k (lr w)->Le k (lr {w with heap:=w.heap.setIfInBounds b o'}):=by
  intro k dk lk x o e;have:=lk x o e;unfold lr at*;show(w.heap.setIfInBounds b o')[x]?=some o;rw[Wk x (fQ k dk x o e)];exact this
 have dF:bG h1 F.h:=z.left l1;have d2:∀k:Hp,bG h1 k->bG (λx=>if x=b then some o' else none) k:=by
  intro k dk x;by_cases hx:x=b
  ·subst hx
   rcases dk x with q|q
   ·rw[hb]at q;cases q
   exact .inr q
  exact .inl (by simp[hx])
 refine⟨a1,a2,a3,hold _ dF fr,fF _ h2,⟨_,h2,d2 _ d,aR _ _,aJ (d2 _ d),hB,s⟩,bQ ?_ (hold _ d (l2.trans y)),bG.fF (d2 _ dF) (z.left l2)⟩;intro x o e;by_cases hx:x=b
 ·subst hx;simp only[if_true]at e;cases e;exact zD
 simp[hx]at e
section
variable {P:Program} {n:Nat} {ds:Dq} {F:dG} {Q:Exit->F9} {K:F9} {σ:aP} {H:F8} {o:Oper} {d:Nat}
theorem Rt3{fn:Func}{R:Dp}{t u u':Nat}{v x x':Value}(H':F8)(hr:fn.results= #[.tmp t, .tmp u, .tmp u'])(hR:R (.tuple #[v,x,x']) H')(hv:look σ t=some v:=by exact rfl)(hx:look σ u=some x:=by exact rfl)(Z2:look σ u'=some x':=by exact rfl)
  (hh:∀h,ai H h->ai H' h:=by exact Eh):G n [] F (bodyPost P fn (λe w'=>∃v H',e= .returned v/\R v H'/\St F H' w') .ret) σ H:=
 .mk λa w e s=>⟨e.defers, .tuple #[v,x,x'],by
  have h1:a.tmps.getD t undef=v:=by simp[e.slot t v hv]
  have h2:a.tmps.getD u undef=x:=by simp[e.slot u x hx]
  have h3:a.tmps.getD u' undef=x':=by simp[e.slot u' x' Z2]
  simp only[results,hr];simp at h1 h2 h3;simp[h1,h2,h3],_,H',rfl,hR,s.sub hh⟩
end
end Go.dC
namespace Go.dC
open Go
def NoQ:Exit->F9:=λ_ _ _=>False
def rJ (P:Program)(ops:Array Oper)(o:Oper)(K:F9)(a:Act)(w:World):Prop:=
 if Region.wanted o (yielded ops a.tmps)=true then o.wp P a w K NoQ else K (a.put o.dst undef) w
def uo (P:Program)(ops:Array Oper)(S:World->Prop)(Q:F9):List (Nat×Bool×Oper)->F9
 | [],a,w=>Q a w
 |(_,true,o)::r,a,w=>∃v,YieldsIf P ops S o v a/\uo P ops S Q r (a.put o.dst v) w
 |(_,false,o)::r,a,w=>rJ P ops o (λa' w'=>S w'/\uo P ops S Q r a' w') a w
def GG (o:Oper):Bool:=match o.op with| .load _ _=>true|_=>false
def indep (ops:Array Oper)(x y:Nat×Bool×Oper):Bool:=x.2.2.apart ops y.2.2&&(x.2.1||y.2.1||(GG x.2.2&&GG y.2.2))
inductive Still {α:Type}:Sem α->Prop
 |pure (a:α):Still (.pure a)
 |load (m:Mode) (a:Addr) (k:Value->Sem α) (h:∀v,Still (k v)):Still (.load m a k)
 |program (k:Program->Sem α) (h:∀p,Still (k p)):Still (.program k)
 |halt (x:Halt):Still (.halt x)
theorem Still.bind{α β:Type}{s:Sem α}{f:α->Sem β}(h:Still s)(hf:∀a,Still (f a)):Still (s.bind f):=by
 induction h with
 |pure a=>exact hf a
 |load m a k _ ih=>exact .load m a _ ih
 |program k _ ih=>exact .program _ ih
 |halt x=>exact .halt x
theorem Still.run{α:Type}{s:Sem α}(h:Still s)(P:Program)(w:World){r:α}{w':World}(e:s.run P w= .ok r w'):w'=w:=by
 induction h with
 |pure a=>simp only[Sem.run]at e;cases e;rfl
 |load m a k _ ih=>
  simp only[Sem.run]at e;split at e
  ·exact ih _ e
  split at e
  ·exact ih _ e
  cases e
 |program k _ ih=>simp only[Sem.run]at e;exact ih _ e
 |halt x=>simp only[Sem.run]at e;cases e
theorem Ih{ρ:Operand->Value}{o:Oper}(h:GG o=true):Still (execOp ρ o):=by
 unfold GG at h;split at h
 ·rename_i t x ho
  have cells:∀(n:Nat) (a:Addr) (i:Nat) (acc:Array Value),Still (loadCellsFrom a i n acc):=by
   intro n;induction n with
   |zero=>intro a i acc;exact .pure _
   |succ n ih=>intro a i acc;exact .load _ _ _ λv=>ih _ _ _
  have und:∀t,Still (underlying t):=λt=>by
   unfold underlying;exact .program _ λp=>by simp only[Sem.bind];split<;>first|exact .pure _|exact .halt _
  have tin:∀t,Still (typeInfo t):=λt=>by
   unfold typeInfo;exact .program _ λp=>by simp only[Sem.bind];split<;>first|exact .pure _|exact .halt _
  have hvar:∀a,Still (loadVar t a):=by
   intro a;unfold loadVar;refine Still.bind ?_ λb=> ?_
   ·unfold isAgg
    exact(und t).bind λd=>by split<;>exact .pure _
   split
   ·refine Still.bind ?_ λk=>(Still.bind (cells _ _ _ _) λc=> .pure _)
    unfold sizeOf;exact(tin t).bind λ_=> .pure _
   exact .load _ _ _ λv=> .pure _
  unfold execOp;rw[ho];refine Still.bind ?_ λv=> .pure _;unfold Instr.loadAt;refine Still.bind ?_ λa=>hvar a;unfold Instr.sureAddr;split
  ·exact .pure _
  exact .halt _
 cases h
theorem adV{P:Program}{ρ:Operand->Value}{o:Oper}(h:GG o=true){w w':World}{n:Next}(e:(execOp ρ o).run P w= .ok n w'):w'=w/\∃v,n= .value v:=by
 refine⟨(Ih h).run P w e, ?_⟩;unfold GG at h;split at h
 ·rename_i t x ho
  unfold execOp at e;rw[ho]at e;simp only[Sem.run_bind]at e;cases hr:(Instr.loadAt t (ρ x)).run P w with
  |ok v w1=>rw[hr]at e;simp only[Result.andThen_ok,Sem.run_pure]at e;cases e;exact⟨v,rfl⟩
  |halt x w1=>rw[hr]at e;cases e
 cases h
section
variable {P:Program} {ops:Array Oper} {S:World->Prop} {Q:F9}
theorem Ha:¬LetsOut NoQ:=λ⟨_,_,h⟩=>h
theorem acN{o:Oper}{u v:Value}{a:Act}{w:World}(hS:S w)(h1:YieldsIf P ops S o u a)(h2:YieldsIf P ops S o v a):v=u:=by
 rcases h1 with⟨w1,e1⟩|⟨w1,rfl⟩<;>rcases h2 with⟨w2,e2⟩|⟨w2,rfl⟩
 ·have:=(e1 w hS).symm.trans (e2 w hS);cases this;rfl
 ·rw[w1]at w2;cases w2
 ·rw[w1]at w2;cases w2
 rfl
theorem yl{o:Oper}{K K':F9}(f:∀a w,K a w->K' a w){a:Act}{w:World}(h:rJ P ops o K a w):rJ P ops o K' a w:=by
 unfold rJ at*;split
 ·rename_i hw;rw[if_pos hw]at h;exact Oper.wp_mono f h
 rename_i hw;rw[if_neg hw]at h;exact f _ _ h
theorem HZ{x k:Oper}(PU:k.apart ops x=true)(hsx:∀cs b,x.op≠ .select cs b)(OY:∀cs b,k.op≠ .select cs b){K K2:F9}{a:Act}{w:World}(hS:S w)
  (hK:∀a' w',K a' w'->∃v,YieldsIf P ops S x v a'/\K2 (a'.put x.dst v) w') (h:rJ P ops k K a w):∃v,YieldsIf P ops S x v a/\rJ P ops k K2 (a.put x.dst v) w:=by
 obtain⟨h1,h2,h3⟩:=Oper.apart_spec PU;have back:∀(u v:Value),YieldsIf P ops S x v (a.put k.dst u)->YieldsIf P ops S x v a:=λu v hy=>
  hy.of_same (execOp_put x hsx a k.dst u h1).symm (wanted_put x a k.dst u h1).symm
 unfold rJ at h;split at h
 ·rename_i hw
  have key:∃v,YieldsIf P ops S x v a:=by
   unfold Oper.wp at h;generalize (execOp a.eval k).run P w=r at h;cases r with
   |ok n w'=>
    cases n<;>simp only[Oper.upon]at h
    case value u=>obtain⟨v,hv,_⟩:=hK _ _ h;exact⟨v,back u v hv⟩
    case skip=>obtain⟨v,hv,_⟩:=hK _ _ h;exact⟨v,back _ v hv⟩
    case defer d=>
     obtain⟨v,hv,_⟩:=hK _ _ h;exact⟨v,(back undef v (hv.of_same (a':=a.put k.dst undef) (by cases k.dst<;>rfl) (by cases k.dst<;>rfl)))⟩
    case enter f args=>
     obtain⟨e,w2,fr,he,_⟩:=h [];cases e with
     |returned u=>obtain⟨v,hv,_⟩:=hK _ _ he;exact⟨v,back u v hv⟩
     |panicked c=>exact he.elim
     |outgrown=>exact(Ha he).elim
    case row row args=>
     obtain⟨u,w2,he,_⟩:=h default [];obtain⟨v,hv,_⟩:=hK _ _ he;exact⟨v,back u v hv⟩
   |halt y w'=>cases y<;>simp only[Oper.upon]at h<;>exact h.elim
  obtain⟨v,hv⟩:=key;refine⟨v,hv, ?_⟩;have same:∀(u v':Value),YieldsIf P ops S x v' (a.put k.dst u)->v'=v:=λu v' hy=>acN hS hv (back u v' hy);unfold rJ;rw[wanted_put k a x.dst v (λd hd=>h3 d hd),if_pos hw];unfold Oper.wp at*;rw[execOp_put k OY a x.dst v (λd hd=>h3 d hd)];have oW:∀u:Value,(a.put k.dst u).put x.dst v=(a.put x.dst v).put k.dst u:=λu=>Act.put_comm a u v h2;generalize (execOp a.eval k).run P w=r at*;cases r with
  |ok n w'=>
   cases n<;>simp only[Oper.upon]at h⊢
   case value u=>obtain⟨v',PM,hk⟩:=hK _ _ h;rw[<-oW,<-same u v' PM];exact hk
   case skip=>obtain⟨v',PM,hk⟩:=hK _ _ h;rw[<-oW,<-same _ v' PM];exact hk
   case defer d=>
    obtain⟨v',PM,hk⟩:=hK _ _ h;have hv2:YieldsIf P ops S x v' (a.put k.dst undef):=PM.of_same (by cases k.dst<;>rfl) (by cases k.dst<;>rfl);rw[same _ v' hv2]at hk;have e1:({a with defers:=d::a.defers}:Act).put x.dst v=({a.put x.dst v with defers:=d::(a.put x.dst v).defers}:Act):=(Act.put_defers a x.dst v d).symm;rw[Act.put_comm _ undef v h2,e1]at hk;exact hk
   case enter f args=>
    refine Calls.mono h λe w'' he=> ?_;cases e with
    |returned u=>obtain⟨v',PM,hk⟩:=hK _ _ he;show K2 _ _;rw[<-oW,<-same u v' PM];exact hk
    |panicked c=>exact he
    |outgrown=>exact he
   case row row args=>exact Rows.mono h λu w'' he=>by obtain⟨v',PM,hk⟩:=hK _ _ he;rw[<-oW,<-same u v' PM];exact hk
  |halt y w'=>cases y<;>simp only[Oper.upon]at h⊢<;>exact h
 rename_i hw;obtain⟨v,hv,hk⟩:=hK _ _ h;refine⟨v,back _ v hv, ?_⟩;unfold rJ;rw[wanted_put k a x.dst v (λd hd=>h3 d hd),if_neg hw,<-Act.put_comm a undef v h2];exact hk
theorem H2{x k:Oper}(PU:k.apart ops x=true)(hsx:∀cs b,x.op≠ .select cs b)(OY:∀cs b,k.op≠ .select cs b){K:F9}{a:Act}{w:World}{u:Value}(hy:YieldsIf P ops S k u a)
  (h:rJ P ops x K (a.put k.dst u) w):rJ P ops x (λa' w'=>YieldsIf P ops S k u a'/\K (a'.put k.dst u) w') a w:=by
 obtain⟨h1,h2,h3⟩:=Oper.apart_spec PU;have ja:∀z:Value,YieldsIf P ops S k u (a.put x.dst z):=λz=>hy.of_same (execOp_put k OY a x.dst z h3) (wanted_put k a x.dst z h3);unfold rJ at*;rw[wanted_put x a k.dst u h1]at h;split
 ·rename_i hw
  rw[if_pos hw]at h;unfold Oper.wp at*;rw[execOp_put x hsx a k.dst u h1]at h;have oW:∀z:Value,(a.put k.dst u).put x.dst z=(a.put x.dst z).put k.dst u:=λz=>Act.put_comm a u z h2;generalize (execOp a.eval x).run P w=r at*;cases r with
  |ok n w'=>
   cases n<;>simp only[Oper.upon]at h⊢
   case value z=>exact⟨ja z,by rw[<-oW];exact h⟩
   case skip=>exact⟨ja _,by rw[<-oW];exact h⟩
   case defer d=>
    refine⟨(ja undef).of_same (by cases x.dst<;>rfl) (by cases x.dst<;>rfl), ?_⟩;rw[<-Act.put_comm _ u undef h2,<-Act.put_defers];exact h
   case enter f args=>
    refine Calls.mono h λe w'' he=> ?_;cases e with
    |returned z=>exact⟨ja z,by rw[<-oW];exact he⟩
    |panicked c=>exact he
    |outgrown=>exact he
   case row row args=>exact Rows.mono h λz w'' he=>⟨ja z,by rw[<-oW];exact he⟩
  |halt y w'=>cases y<;>simp only[Oper.upon]at h⊢<;>exact h
 rename_i hw;rw[if_neg hw,Act.put_comm a u undef h2]at h;exact⟨ja _,h⟩
def Ax (l:List (Nat×Bool×Oper)):Prop:=∀x∈l,∀cs b,x.2.2.op≠ .select cs b
theorem mvR{i:Nat}{o:Oper}{post:List (Nat×Bool×Oper)}:∀(pre:List (Nat×Bool×Oper)) (a:Act) (w:World),(∀k∈pre,indep ops k (i,true,o)=true)->Ax pre->(∀cs b,o.op≠ .select cs b)->S w->
  uo P ops S Q (pre++(i,true,o)::post) a w->∃v,YieldsIf P ops S o v a/\uo P ops S Q (pre++post) (a.put o.dst v) w:=by
 intro pre;induction pre with
 |nil=>intro a w _ _ _ _ h;exact h
 |cons k pre ih=>
  obtain⟨j,fl,ok⟩:=k;intro a w hi hs WG hS h;have hk:=hi _ (List.mem_cons_self ..);simp only[indep,Bool.and_eq_true]at hk;have PU:=hk.1;obtain⟨h1,h2,h3⟩:=Oper.apart_spec PU;have OY:=hs _ (List.mem_cons_self ..);have xz:∀k∈pre,indep ops k (i,true,o)=true:=λk hk=>hi k (List.mem_cons_of_mem _ hk);have hs':Ax pre:=λk hk=>hs k (List.mem_cons_of_mem _ hk);cases fl with
  |true=>
   simp only[List.cons_append,uo]at h⊢;obtain⟨u,hu,h⟩:=h;obtain⟨v,hv,h⟩:=ih _ _ xz hs' WG hS h;refine⟨v,hv.of_same (execOp_put o WG a ok.dst u h1).symm (wanted_put o a ok.dst u h1).symm,u,hu.of_same (execOp_put ok OY a o.dst v h3) (wanted_put ok a o.dst v h3), ?_⟩;rw[<-Act.put_comm a u v h2];exact h
  |false=>
   simp only[List.cons_append,uo]at h⊢;exact HZ PU WG OY hS (λa' w' hh=>by
    obtain⟨v,hv,h⟩:=ih _ _ xz hs' WG hh.1 hh.2;exact⟨v,hv,hh.1,h⟩) h
theorem mvW{i:Nat}{o:Oper}{post:List (Nat×Bool×Oper)}:∀(pre:List (Nat×Bool×Oper)) (a:Act) (w:World),(∀k∈pre,indep ops k (i,false,o)=true)->Ax pre->(∀cs b,o.op≠ .select cs b)->S w->
  uo P ops S Q (pre++(i,false,o)::post) a w->rJ P ops o (λa' w'=>S w'/\uo P ops S Q (pre++post) a' w') a w:=by
 intro pre;induction pre with
 |nil=>intro a w _ _ _ _ h;exact h
 |cons k pre ih=>
  obtain⟨j,fl,ok⟩:=k;intro a w hi hs WG hS h;have hk:=hi _ (List.mem_cons_self ..);simp only[indep,Bool.and_eq_true]at hk;have PU:=hk.1;obtain⟨h1,h2,h3⟩:=Oper.apart_spec PU;have OY:=hs _ (List.mem_cons_self ..);have xz:∀k∈pre,indep ops k (i,false,o)=true:=λk hk=>hi k (List.mem_cons_of_mem _ hk);have hs':Ax pre:=λk hk=>hs k (List.mem_cons_of_mem _ hk);cases fl with
  |true=>
   simp only[List.cons_append,uo]at h⊢;obtain⟨u,hu,h⟩:=h;have h:=ih _ _ xz hs' WG hS h;exact yl (λa' w' hh=>⟨hh.2.1,u,hh.1,hh.2.2⟩) (H2 PU WG OY hu h)
  |false=>
   have hl:=hk.2;simp only[Bool.or_self,Bool.false_or,Bool.and_eq_true]at hl;simp only[List.cons_append,uo]at h⊢;have look:∀{y:Oper} {a:Act} {w:World} {K:F9},GG y=true->(rJ P ops y K a w↔((Region.wanted y (yielded ops a.tmps)=true/\∃v,(execOp a.eval y).run P w= .ok (.value v) w/\K (a.put y.dst v) w)\/(Region.wanted y (yielded ops a.tmps)=false/\K (a.put y.dst undef) w))):=by
    intro y a w K hy;unfold rJ;cases hw:Region.wanted y (yielded ops a.tmps)with
    |false=>simp
    |true=>
     simp only[if_true,true_and,Bool.true_eq_false,false_and,or_false];unfold Oper.wp;cases hr:(execOp a.eval y).run P w with
     |ok n w'=>
      obtain⟨rfl,v,rfl⟩:=adV hy hr;simp only[Oper.upon_value];exact⟨λh=>⟨v,rfl,h⟩,λ⟨v',e,h⟩=>by cases e;exact h⟩
     |halt z w'=>
      cases z<;>simp[Oper.upon,NoQ]
   rw[look hl.1]at h;rw[look hl.2];have fin:∀u:Value,S w/\uo P ops S Q (pre++(i,false,o)::post) (a.put ok.dst u) w->(∀z,rJ P ops ok (λa' w'=>S w'/\uo P ops S Q (pre++post) a' w') (a.put o.dst z) w↔rJ P ops ok (λa' w'=>S w'/\uo P ops S Q (pre++post) a' w') (a.put o.dst z) w)->
     ((Region.wanted o (yielded ops a.tmps)=true/\∃z,(execOp a.eval o).run P w= .ok (.value z) w/\(S w/\uo P ops S Q (pre++post) ((a.put ok.dst u).put o.dst z) w))\/(Region.wanted o (yielded ops a.tmps)=false/\(S w/\uo P ops S Q (pre++post) ((a.put ok.dst u).put o.dst undef) w))):=by
    intro u hh _;have h':=ih _ _ xz hs' WG hh.1 hh.2;rw[look hl.2,execOp_put o WG a ok.dst u h1,wanted_put o a ok.dst u h1]at h';exact h'
   have put:∀(z:Value),(∀u,uo P ops S Q (pre++post) ((a.put ok.dst u).put o.dst z) w->uo P ops S Q (pre++post) ((a.put o.dst z).put ok.dst u) w):=λz u hh=>by rw[<-Act.put_comm a u z h2];exact hh
   rcases h with⟨hw,u,hu,hh⟩|⟨hw,hh⟩
   ·rcases fin u hh (λ_=>Iff.rfl)with⟨hwo,z,hz,hS',h'⟩|⟨hwo,hS',h'⟩
    ·refine .inl ⟨hwo,z,hz,hS, ?_⟩
     rw[look hl.1,execOp_put ok OY a o.dst z h3,wanted_put ok a o.dst z h3];exact .inl ⟨hw,u,hu,hS,put _ _ h'⟩
    refine .inr ⟨hwo,hS, ?_⟩;rw[look hl.1,execOp_put ok OY a o.dst undef h3,wanted_put ok a o.dst undef h3];exact .inl ⟨hw,u,hu,hS,put _ _ h'⟩
   rcases fin undef hh (λ_=>Iff.rfl)with⟨hwo,z,hz,hS',h'⟩|⟨hwo,hS',h'⟩
   ·refine .inl ⟨hwo,z,hz,hS, ?_⟩
    rw[look hl.1,execOp_put ok OY a o.dst z h3,wanted_put ok a o.dst z h3];exact .inr ⟨hw,hS,put _ _ h'⟩
   refine .inr ⟨hwo,hS, ?_⟩;rw[look hl.1,execOp_put ok OY a o.dst undef h3,wanted_put ok a o.dst undef h3];exact .inr ⟨hw,hS,put _ _ h'⟩
inductive Dy (ops:Array Oper):Nat->Nat->Prop
 |one {i:Nat} {o:Oper} {e:Edge} (ho:ops[i]?=some o) (he:e∈o.after) (hb:Region.binds .any e=true):Dy ops e.on i
 |more {i k:Nat} {o:Oper} {e:Edge} (ho:ops[i]?=some o) (he:e∈o.after) (hb:Region.binds .any e=true) (h:Dy ops k e.on):Dy ops k i
def msk (acc:FH)(o:Oper):Nat:=o.after.toList.foldl (λs e=>if Region.binds .any e=true then s|||2^e.on|||acc.getD e.on 0 else s) 0
def Jh:List Oper->FH->FH
 | [],acc=>acc
 |o::r,acc=>Jh r (acc++ [msk acc o])
theorem Uw{i:Nat}{o:Oper}(ho:ops[i]?=some o){acc:FH}(Xl:∀j k,(acc.getD j 0).testBit k=true->Dy ops k j)(k:Nat)(h:(msk acc o).testBit k=true):Dy ops k i:=by
 have key:∀(l:List Edge) (s:Nat),(∀e∈l,e∈o.after)->(∀k,s.testBit k=true->Dy ops k i)->∀k,(l.foldl (λs e=>if Region.binds .any e=true then s|||2^e.on|||acc.getD e.on 0 else s) s).testBit k=true->Dy ops k i:=by
  intro l;induction l with
  |nil=>intro s _ hs k hk;exact hs k hk
  |cons e l ih=>
   intro s hl hs k hk;rw[List.foldl_cons]at hk;refine ih _ (λe' h'=>hl e' (List.mem_cons_of_mem _ h')) (λk' hk'=> ?_) k hk;split at hk'
   ·rename_i hb
    rw[Nat.testBit_or,Nat.testBit_or]at hk';simp only[Bool.or_eq_true]at hk';rcases hk' with(h1|h1)|h1
    ·exact hs _ h1
    ·rw[Nat.testBit_two_pow]at h1
     simp only[decide_eq_true_eq]at h1;subst h1;exact .one ho (hl e (List.mem_cons_self ..)) hb
    exact .more ho (hl e (List.mem_cons_self ..)) hb (Xl _ _ h1)
   exact hs _ hk'
 exact key o.after.toList 0 (λe he=>by simpa using he) (λk hk=>by simp at hk) k h
theorem IF:∀(l:List Oper) (acc:FH),(∀j o,l[j]?=some o->ops[acc.length+j]?=some o)->(∀j k,(acc.getD j 0).testBit k=true->Dy ops k j)->∀j k,((Jh l acc).getD j 0).testBit k=true->Dy ops k j:=by
 intro l;induction l with
 |nil=>intro acc _ h;exact h
 |cons o l ih=>
  intro acc hl Xl;refine ih _ (λj o' hj=> ?_) (λj k O0=> ?_)
  ·have:=hl (j+1) o' (by simpa using hj)
   rw[List.length_append,List.length_singleton,show acc.length+1+j=acc.length+(j+1)from by omega];exact this
  rcases Nat.lt_trichotomy j acc.length with cJ|heq|hgt
  ·refine Xl j k ?_
   simpa[List.getD_eq_getElem?_getD,List.getElem?_append_left cJ]using O0
  ·subst heq
   refine Uw (by simpa using hl 0 o rfl) Xl k ?_;simpa[List.getD_eq_getElem?_getD]using O0
  have hz:(acc++ [msk acc o])[j]?=none:=List.getElem?_eq_none (by simp;omega);rw[List.getD_eq_getElem?_getD,hz]at O0;simp at O0
def prs (ops:Array Oper)(m:FH):List (Nat×Bool×Oper)->Bool
 | []=>true
 |x::r=>r.all (λy=>(m.getD y.1 0).testBit x.1||indep ops x y)&&prs ops m r
theorem EN{m:FH}(hm:∀j k,(m.getD j 0).testBit k=true->Dy ops k j):∀l,prs ops m l=true->l.Pairwise λx y=>Dy ops x.1 y.1\/indep ops x y=true:=by
 intro l;induction l with
 |nil=>intro _;exact .nil
 |cons x r ih=>
  intro h;simp only[prs,Bool.and_eq_true,List.all_eq_true,Bool.or_eq_true]at h;exact .cons (λy hy=>(h.1 y hy).imp (hm _ _) id) (ih h.2)
structure Xs (ops:Array Oper)(listed:Array Bool)(rem:List (Nat×Bool×Oper)):Prop where
 at_:∀x∈rem,ops[x.1]?=some x.2.2
 un:∀x∈rem,listed.getD x.1 true=false
 all:∀j,j<ops.size->listed.getD j true=false->∃x∈rem,x.1=j
 once:(rem.map (·.1)).Nodup
 size:listed.size=ops.size
 shut:∀j o e,ops[j]?=some o->listed.getD j false=true->e∈o.after->Region.binds .any e=true->listed.getD e.on false=true
theorem IX{listed:Array Bool}(shut:∀j o e,ops[j]?=some o->listed.getD j false=true->e∈o.after->Region.binds .any e=true->listed.getD e.on false=true){k i:Nat}(h:Dy ops k i)
  (hi:∀o,ops[i]?=some o->∀e∈o.after,Region.binds .any e=true->listed.getD e.on false=true):listed.getD k false=true:=by
 induction h with
 |one ho he hb=>exact hi _ ho _ he hb
 |more ho he hb _ ih=>
  have h1:=hi _ ho _ he hb;exact ih λo' ho' e' PS hb'=>shut _ _ _ ho' h1 PS hb'
theorem pd{listed:Array Bool}{j:Nat}(h1:listed.getD j true=false)(h2:listed.getD j false=true):False:=by
 by_cases h:j<listed.size
 ·simp[h]at h1 h2;rw[h1]at h2;cases h2
 simp[Array.getElem?_eq_none (Nat.le_of_not_lt h)]at h2
theorem Te{Q:Exit->F9}{i:Nat}{o:Oper}(hi:ops[i]?=some o){K:F9}{a:Act}{w:World}(h:rJ P ops o K a w):wpOp P ops Q i K a w:=by
 unfold rJ at h;unfold wpOp;simp only[hi];split
 ·rename_i hw
  rw[if_pos hw]at h;refine .inl ?_;unfold Oper.wp at*;generalize (execOp a.eval o).run P w=r at*;cases r with
  |ok n w'=>
   cases n<;>simp only[Oper.upon]at h⊢
   case value u=>exact h
   case skip=>exact h
   case defer d=>exact h
   case enter f args=>
    refine Calls.mono h λe w'' he=> ?_;cases e with
    |returned z=>exact he
    |panicked c=>exact he.elim
    |outgrown=>exact(Ha he).elim
   case row row args=>exact h
  |halt y w'=>cases y<;>simp only[Oper.upon]at h⊢<;>exact h.elim
 rename_i hw;rw[if_neg hw]at h;exact h
theorem YieldsIf.rJ{o:Oper}{v:Value}{a:Act}{w:World}{K:F9}(hy:YieldsIf P ops S o v a)(hS:S w)(h:K (a.put o.dst v) w):rJ P ops o K a w:=by
 unfold dC.rJ;rcases hy with⟨hw,hv⟩|⟨hw,rfl⟩
 ·rw[if_pos hw];simp only[Oper.wp,hv w hS,Oper.upon];exact h
 rw[if_neg (by simp[hw])];exact h
theorem Ay{WA:Nat->Array Bool->F9}{C:F9}{l2:List (Nat×Bool×Oper)}{fuel0:Nat}(c9:Region.noSelect ops=true)(vL:∀j o e,ops[j]?=some o->e∈o.after->Region.binds .any e=true->e.on<j)
  (Jj:∀fuel listed a w,(∃i,i∈Region.ready .any ops listed)->(∀i∈Region.ready .any ops listed,∃o,ops[i]?=some o/\rJ P ops o (WA fuel (listed.setIfInBounds i true)) a w)->WA (fuel+1) listed a w)
  (hC:∀listed,Xs ops listed l2->∀a w,C a w->WA fuel0 listed a w):
  ∀(n:Nat) (rem:List (Nat×Bool×Oper)) (listed:Array Bool) (a:Act) (w:World),rem.length=n->Xs ops listed (rem++l2)->rem.Pairwise (λx y=>Dy ops x.1 y.1\/indep ops x y=true)->(∀x∈rem,∀y∈l2,Dy ops x.1 y.1)->S w->
   uo P ops S C rem a w->WA (n+fuel0) listed a w:=by
 intro n;induction n with
 |zero=>
  intro rem listed a w hn hI _ _ _ h;have:rem= []:=List.eq_nil_of_length_eq_zero hn;subst this;simpa using hC listed (by simpa using hI) a w h
 |succ n ih=>
  intro rem listed a w hn hI hP DK hS h;rw[show n+1+fuel0=(n+fuel0)+1 from by omega];have AR:∀{i k:Nat},i∈Region.ready .any ops listed->Dy ops k i->listed.getD k false=true:=by
   intro i k hi hk;obtain⟨_,o,ho,rp⟩:=mem_ready.1 hi;exact IX hI.shut hk λo' ho' e he hb=>by rw[ho]at ho';cases ho';exact rp e he hb
  refine Jj _ _ _ _ ?_ (λi hi=> ?_)
  ·
   cases hr0:Region.ready .any ops listed with
   |cons i r=>exact⟨i,by simp⟩
   |nil=>
   exfalso;have hr:=hr0;have fQ:∃m,∃x∈rem++l2,x.1=m:=by
    cases rem with
    |nil=>simp at hn
    |cons x r=>exact⟨x.1,x,by simp,rfl⟩
   obtain⟨m0,hm0⟩:=fQ;have least:∀m,(∃x∈rem++l2,x.1=m)->False:=by
    intro m;induction m using Nat.strongRecOn with
    |_ m ihm=>
     rintro⟨x,hx,rfl⟩;have hrd:x.1∈Region.ready .any ops listed:=by
      refine mem_ready.2 ⟨hI.un x hx,x.2.2,hI.at_ x hx,λe he hb=> ?_⟩;have cJ:=vL _ _ _ (hI.at_ x hx) he hb;have hxs:x.1<ops.size:=(Array.getElem?_eq_some_iff.1 (hI.at_ x hx)).1;cases hq:listed.getD e.on false with
      |true=>rfl
      |false=>
       exfalso;have hl:listed.getD e.on true=false:=by
        have:e.on<listed.size:=by rw[hI.size];omega
        simp[this]at hq⊢;exact hq
       obtain⟨y,hy,hy1⟩:=hI.all e.on (by omega) hl;exact ihm e.on cJ ⟨y,hy,hy1⟩
     rw[hr]at hrd;cases hrd
   exact least m0 hm0
  ·obtain⟨Z3,o,ho,rp⟩:=mem_ready.1 hi
   obtain⟨x,hx,OW⟩:=hI.all i (Array.getElem?_eq_some_iff.1 ho).1 Z3;have hxr:x∈rem:=by
    rcases List.mem_append.1 hx with q|q
    ·exact q
    exfalso;cases rem with
    |nil=>simp at hn
    |cons y r=>
     have hA:=DK y (List.mem_cons_self ..) x q;rw[OW]at hA;exact pd (hI.un y (by simp)) (AR hi hA)
   obtain⟨pre,post,rfl⟩:=List.append_of_mem hxr;have hox:x.2.2=o:=by have:=hI.at_ x hx;rw[OW,ho]at this;cases this;rfl
   have ahH:∀k∈pre,indep ops k x=true:=by
    intro k hk;have hkx:=(List.pairwise_append.1 hP).2.2 k hk x (List.mem_cons_self ..);rcases hkx with q|q
    ·exfalso
     rw[OW]at q;exact pd (hI.un k (by simp[hk])) (AR hi q)
    exact q
   have hns:Ax (pre++x::post++l2):=λy hy cs b=>Region.noSelect_spec c9 y.1 y.2.2 cs b (hI.at_ y hy);have hnp:Ax pre:=λy hy=>hns y (by simp[hy]);have hxs:=hns x hx;have hI':Xs ops (listed.setIfInBounds i true) ((pre++post)++l2):=by
    have zE:i∉((pre++post)++l2).map (·.1):=by
     have h0:=hI.once;simp only[List.map_append,List.map_cons,List.append_assoc,List.cons_append]at h0;rw[List.nodup_append]at h0;obtain⟨h1,h2,h3⟩:=h0;rw[List.nodup_cons]at h2;simp only[List.map_append,List.append_assoc,List.mem_append,not_or];rw[OW]at h2;simp only[List.mem_append,not_or]at h2;refine⟨λhm=>h3 i hm i (by simp[OW]) rfl,h2.1.1,h2.1.2⟩
    have sub:∀y∈(pre++post)++l2,y∈pre++x::post++l2:=λy hy=>by
     simp only[List.mem_append,List.mem_cons]at hy⊢;grind
    have fQ:∀y∈(pre++post)++l2,i≠y.1:=λy hy e=>zE (List.mem_map.2 ⟨y,hy,e.symm⟩);have his:i<listed.size:=by rw[hI.size];exact(Array.getElem?_eq_some_iff.1 ho).1
    refine⟨λy hy=>hI.at_ y (sub y hy),λy hy=>by rw[getD_set_ne true (fQ y hy)];exact hI.un y (sub y hy),λj hj hl=> ?_, ?_,by simp[hI.size],λj o' e ho' hl he hb=> ?_⟩
    ·by_cases Z6:i=j
     ·subst Z6;simp[his]at hl
     rw[getD_set_ne true Z6]at hl;obtain⟨y,hy,hy1⟩:=hI.all j hj hl;refine⟨y, ?_,hy1⟩;simp only[List.mem_append,List.mem_cons]at hy⊢;rcases hy with(hy|rfl|hy)|hy
     ·exact .inl (.inl hy)
     ·exact absurd (OW.symm.trans hy1) Z6
     ·exact .inl (.inr hy)
     exact .inr hy
    ·have h0:=hI.once
     refine List.Nodup.sublist ?_ h0;refine List.Sublist.map _ (List.Sublist.append_right ?_ _);exact List.Sublist.append_left (List.sublist_cons_self ..) _
    by_cases Z6:i=j
    ·subst Z6;rw[ho]at ho';cases ho'
     exact getD_set_true (rp e he hb)
    rw[getD_set_ne false Z6]at hl;exact getD_set_true (hI.shut j o' e ho' hl he hb)
   have hlen:(pre++post).length=n:=by simp at hn⊢;omega
   have hP':(pre++post).Pairwise λx y=>Dy ops x.1 y.1\/indep ops x y=true:=hP.sublist (List.Sublist.append_left (List.sublist_cons_self ..) _);have ahL:∀y∈pre++post,∀z∈l2,Dy ops y.1 z.1:=λy hy z hz=>DK y (by simp only[List.mem_append,List.mem_cons]at hy⊢;grind) z hz;obtain⟨xi,fl,xo⟩:=x;simp only at OW hox;subst OW;subst hox;cases fl with
   |true=>
    obtain⟨v,hv,h'⟩:=mvR pre a w ahH hnp hxs hS h;exact⟨xo,ho,YieldsIf.rJ hv hS (ih _ _ _ _ hlen hI' hP' ahL hS h')⟩
   |false=>exact⟨xo,ho,yl (λa' w' hh=>ih _ _ _ _ hlen hI' hP' ahL hh.1 hh.2) (mvW pre a w ahH hnp hxs hS h)⟩
def sG (fl:List Bool)(ops:Array Oper):List (Nat×Bool×Oper):=(List.range' 0 ops.toList.length).zip (fl.zip ops.toList)
def BC (k:Nat)(fl:List Bool)(ops:Array Oper):Bool:=
 let m:=Jh ops.toList []
 let l:=sG fl ops
 fl.length==ops.toList.length&&Region.noSelect ops&&l.all (λx=>x.2.2.after.toList.all λe=> !Region.binds .any e||Nat.blt e.on x.1)&&
  prs ops m (l.take k)&&prs ops m (l.drop k)&&(l.take k).all λx=>(l.drop k).all λy=>(m.getD y.1 0).testBit x.1
theorem QV{fl:List Bool}(h:fl.length=ops.toList.length){x:Nat×Bool×Oper}(hx:x∈sG fl ops):ops[x.1]?=some x.2.2:=by
 obtain⟨j,hj⟩:=List.getElem?_of_mem hx;unfold sG at hj;rw[List.getElem?_zip_eq_some]at hj;obtain⟨h1,h2⟩:=hj;rw[List.getElem?_zip_eq_some]at h2;have:x.1=j:=by
  rw[List.getElem?_range']at h1
  ·simp at h1;omega
  have:=(List.getElem?_eq_some_iff.1 h1).1;simpa using this
 rw[this,<-Array.getElem?_toList];exact h2.2
theorem wT{fl:List Bool}(h:fl.length=ops.toList.length):(sG fl ops).map (·.1)=List.range' 0 ops.toList.length:=by
 unfold sG;exact List.map_fst_zip (by simp[h])
theorem JA{WA:Nat->Array Bool->F9}{C2:F9}{S1 S2:World->Prop}{k:Nat}{fl:List Bool}
  (Jj:∀fuel listed a w,(∃i,i∈Region.ready .any ops listed)->(∀i∈Region.ready .any ops listed,∃o,ops[i]?=some o/\rJ P ops o (WA fuel (listed.setIfInBounds i true)) a w)->WA (fuel+1) listed a w)
  (acg:∀listed a w,Region.ready .any ops listed= []->C2 a w->WA 0 listed a w) (ok:BC k fl ops=true) {a:Act} {w:World}
  (h:uo P ops S1 (λa w=>S2 w/\uo P ops S2 C2 ((sG fl ops).drop k) a w) ((sG fl ops).take k) a w) (acj:S1 w):WA ops.size (Array.replicate ops.size false) a w:=by
 simp only[BC,Bool.and_eq_true,beq_iff_eq,List.all_eq_true,Bool.or_eq_true,Bool.not_eq_true']at ok;obtain⟨⟨⟨⟨⟨h1,h2⟩,h3⟩,h4⟩,h5⟩,h6⟩:=ok;have uy:∀j k,((Jh ops.toList []).getD j 0).testBit k=true->Dy ops k j:=IF _ _ (λj o hj=>by simpa using hj) (λj k O0=>by simp at O0);have vL:∀j o e,ops[j]?=some o->e∈o.after->Region.binds .any e=true->e.on<j:=by
  intro j o e ho he hb;have hj:j<ops.toList.length:=by simpa using(Array.getElem?_eq_some_iff.1 ho).1
  have hx:(j,fl[j]'(by omega),o)∈sG fl ops:=by
   refine List.mem_of_getElem? (i:=j) ?_;unfold sG;rw[List.getElem?_zip_eq_some];refine⟨by rw[List.getElem?_range' hj];simp, ?_⟩;rw[List.getElem?_zip_eq_some];exact⟨List.getElem?_eq_getElem (by omega),by rw[Array.getElem?_toList];exact ho⟩
  rcases h3 _ hx e (by simpa using he)with q|q
  ·rw[hb]at q;cases q
  exact Nat.le_of_ble_eq_true q
 have hI:Xs ops (Array.replicate ops.size false) ((sG fl ops).take k++(sG fl ops).drop k):=by
  rw[List.take_append_drop];refine⟨λx hx=>QV h1 hx,λx hx=> ?_,λj hj _=> ?_, ?_,by simp,λj o e ho hl=> ?_⟩
  ·have:=(Array.getElem?_eq_some_iff.1 (QV h1 hx)).1
   simp[this]
  ·have:j∈(sG fl ops).map (·.1):=by rw[wT h1];simp;omega
   obtain⟨x,hx,OW⟩:=List.mem_map.1 this;exact⟨x,hx,OW⟩
  ·rw[wT h1];exact List.nodup_range' ..
  exfalso;have:=(Array.getElem?_eq_some_iff.1 ho).1;simp[this]at hl
 have hlen:((sG fl ops).take k).length+((sG fl ops).drop k).length=ops.size:=by
  have:=congrArg List.length (List.take_append_drop k (sG fl ops));rw[List.length_append]at this;rw[this];have:=congrArg List.length (wT h1);simpa using this
 have:=Ay (P:=P) (S:=S1) (WA:=WA) (l2:=(sG fl ops).drop k) (fuel0:=((sG fl ops).drop k).length) h2 vL Jj (λlisted hL a w hh=> ?_) _ ((sG fl ops).take k) (Array.replicate ops.size false) a _ rfl hI (EN uy _ h4) (λx hx y hy=>uy _ _ (h6 x hx y hy)) acj h
 ·rwa[hlen]at this
 have:=Ay (P:=P) (S:=S2) (WA:=WA) (C:=C2) (l2:= []) (fuel0:=0) h2 vL Jj (λlisted hL a w hh=> ?_) _ ((sG fl ops).drop k) listed a w rfl (by simpa using hL) (EN uy _ h5) (λx _ y hy=>by cases hy) hh.1 hh.2
 ·simpa using this
 refine acg _ _ _ ?_ hh;cases hr:Region.ready .any ops listed with
 |nil=>rfl
 |cons i r=>
  exfalso;have hi:i∈Region.ready .any ops listed:=by rw[hr];exact List.mem_cons_self ..
  obtain⟨Z3,o,ho,_⟩:=mem_ready.1 hi;obtain⟨x,hx,_⟩:=hL.all i (Array.getElem?_eq_some_iff.1 ho).1 Z3;cases hx
theorem V5{Q:Exit->F9}(fuel:Nat)(listed:Array Bool)(a:Act)(w:World)(fQ:∃i,i∈Region.ready .any ops listed)(h:∀i∈Region.ready .any ops listed,∃o,ops[i]?=some o/\rJ P ops o (wpAny P .any ops Q fuel (listed.setIfInBounds i true)) a w):
  wpAny P .any ops Q (fuel+1) listed a w:=by
 refine⟨λhr=> ?_,λi hi=> ?_⟩
 ·obtain⟨i,hi⟩:=fQ;rw[hr]at hi;cases hi
 obtain⟨o,ho,hh⟩:=h i hi;exact Te ho hh
theorem yT{Q:Exit->F9}{S1 S2:World->Prop}{id k:Nat}{fl:List Bool}(hm:P.follows .mixedOrders=true)(ok:BC k fl ops=true){a:Act}{w:World}
  (h:uo P ops S1 (λa w=>S2 w/\uo P ops S2 (Q .normal) ((sG fl ops).drop k) a w) ((sG fl ops).take k) a {w with drawn:=w.drawn+1}) (acj:S1 {w with drawn:=w.drawn+1}):(Code.region id ops true).wp P Q a w:=
 wp_region_any hm (JA (WA:=wpAny P .any ops Q) V5 (λlisted a w hr hq=>⟨hr,hq⟩) ok h acj)
end
def TT (P:Program)(ops:Array Oper)(F:dG)(C:F9)(l:List (Nat×Bool×Oper)):F9:=λa w=>cG F w/\uo P ops (cG F) C l a w
section
variable {P:Program} {n:Nat} {ds:Dq} {F:dG} {Q:Exit->F9} {K:F9} {σ:aP} {H:F8} {o:Oper} {d i:Nat} {ops:Array Oper} {C:F9} {rest:List (Nat×Bool×Oper)}
theorem aiW{id:Nat}(fl:List Bool)(hm:P.follows .mixedOrders=true)(h:G n ds F (TT P ops F (Q .normal) (sG fl ops)) σ H)(ok:BC ops.size fl ops=true:=by kernel_rfl):G n ds F ((Code.region id ops true).wp P Q) σ H:=by
 have hk:(sG fl ops).length<=ops.size:=by
  have h1:fl.length=ops.toList.length:=by simp only[BC,Bool.and_eq_true,beq_iff_eq]at ok;exact ok.1.1.1.1.1
  have:=congrArg List.length (wT (ops:=ops) h1);simp at this;omega
 refine .mk λa w e s=>yT (k:=ops.size) (fl:=fl) (S1:=cG F) (S2:=cG F) hm ok ?_ s.frame;rw[List.take_of_length_le hk,List.drop_of_length_le hk];have h2:∀(l:List (Nat×Bool×Oper)) (a:Act) (w:World),cG F w->uo P ops (cG F) (Q .normal) l a w->uo P ops (cG F) (λa w=>cG F w/\uo P ops (cG F) (Q .normal) [] a w) l a w:=by
  intro l;induction l with
  |nil=>intro a w hS hh;exact⟨hS,hh⟩
  |cons x l ih=>
   obtain⟨j,fl,ox⟩:=x;intro a w hS hh;cases fl with
   |true=>obtain⟨v,hv,hh⟩:=hh;exact⟨v,hv,ih _ _ hS hh⟩
   |false=>exact yl (λa' w' hq=>⟨hq.1,ih _ _ hq.1 hq.2⟩) hh
 exact h2 _ _ _ s.frame (h a _ e (s.drawn _)).2
theorem ad8{id:Nat}{As R:F8}(k:Nat)(fl:List Bool)(hm:P.follows .mixedOrders=true)(c9:iA H As R)
  (h:∀F':dG,Le F.h F'.h->gG As F'.h->z7 F As F'->G n ds F' (TT P ops F' (TT P ops F (Q .normal) ((sG fl ops).drop k)) ((sG fl ops).take k)) σ R) (ok:BC k fl ops=true:=by kernel_rfl):G n ds F ((Code.region id ops true).wp P Q) σ H:=by
 refine .mk λa w e s=> ?_;obtain⟨a1,a2,a3,fr,hh,st,hl,rr⟩:=s;obtain⟨h1,h2,d12,l1,l2,s1,s2⟩:=bh (c9.out _ st);have Bu:bG h1 F.h:=rr.left l1
 let F':dG:={F with h:=fF h1 F.h}
 have hb:z7 F As F':=by
  intro R' w' s';obtain⟨b1,b2,b3,ru,zL,xu,zJ,hd'⟩:=s';exact⟨b1,b2,b3,(aJ Bu).trans ru,fF h1 zL,bz s1 xu (hd'.right (aR _ _)).symm,bQ ((aR _ _).trans ru) zJ,bG.fF Bu (hd'.right (aJ Bu))⟩
 have s':St F' R {w with drawn:=w.drawn+1}:=⟨a1,⟨a2.1,Nat.le_succ_of_le a2.2⟩,a3,bQ (l1.trans hl) fr,h2,s2,l2.trans hl,(bG.fF d12 (rr.left l2).symm).symm⟩;refine yT (k:=k) (fl:=fl) (S1:=cG F') (S2:=cG F) hm ok ?_ s'.frame;exact(h F' (aJ Bu) (cj s1 (aR _ _)) hb a _ e s').2
theorem Ti{v:Value}(hy:Yv P n ds F σ o v)(h:G n ds F (TT P ops F C rest) ((d,v)::σ) H)(hg:Lh ops o σ=true:=by exact rfl)(hd:o.dst=some d:=by exact rfl)(hdn:Nat.blt d n=true:=by exact rfl):G n ds F (TT P ops F C ((i,true,o)::rest)) σ H:=
 .mk λa w e s=>⟨s.frame,v, .inl ⟨jR hg e,λw hw=>hy a w e hw⟩,by rw[hd];exact(h _ w (e.put hdn v) s).2⟩
theorem Tp (h:G n ds F (λa w=>o.wp P a w (TT P ops F C rest) NoQ) σ H)(hg:Lh ops o σ=true:=by exact rfl):G n ds F (TT P ops F C ((i,false,o)::rest)) σ H:=
 .mk λa w e s=>⟨s.frame,by unfold uo rJ;rw[if_pos (jR hg e)];exact h a w e s⟩
theorem Tx{b:Bool}(h:G n ds F (TT P ops F C rest) ((d,undef)::σ) H)(hg:gno ops o σ=true:=by exact rfl)(hd:o.dst=some d:=by exact rfl)(hdn:Nat.blt d n=true:=by exact rfl):G n ds F (TT P ops F C ((i,b,o)::rest)) σ H:=
 .mk λa w e s=>by
  refine⟨s.frame, ?_⟩;have h':=(h _ w (e.put hdn undef) s);cases b with
  |true=>exact⟨undef, .inr ⟨oJ hg e,rfl⟩,by rw[hd];exact h'.2⟩
  |false=>unfold uo rJ;rw[if_neg (by simp[oJ hg e]),hd];exact h'
theorem Tn (h:G n ds F C σ H):G n ds F (TT P ops F C []) σ H:= .mk λa w e s=>⟨s.frame,h a w e s⟩
theorem gI{F':dG}{As:F8}(hb:z7 F As F')(h:G n ds F C σ (As++H)):G n ds F' (TT P ops F' C []) σ H:= .mk λa w e s=>⟨s.frame,h a w e (hb _ _ s)⟩
theorem Tne{K:F9}(h:G n ds F K σ H):G n ds F (TT P ops F (Exit.then K Q .normal) []) σ H:=Tn h
def WY (P:Program)(ld:Bool)(ops:Array Oper):List Bool:=ops.toList.map λo=>match o.op with
 | .load _ _=>ld
 | .move _| .assign _| .pick _ _ _| .nilCheck _| .binOp _ _ _ _ _| .unOp _ _ _| .fieldAddr _ _ _| .field _ _ _| .indexAddr _ _ _| .index _ _ _| .extract _ _| .slice _ _ _ _ _| .build _ _| .makeFunc _ _ _| .makeInterface _ _| .typeAssert _ _ _ _=>true
 | .convert s t _=>match P.underlying t with
  |some (.slice _)=>false
  |_=>match P.underlying s with
   |some (.slice _)=>ld
   |_=>true
 | .call c=>match c.callee with
  | .builtin .len=>true
  | .builtin .cap=>true
  | .builtin .min=>true
  | .builtin .max=>true
  |_=>false
 |_=>false
theorem gT{id:Nat}(ld:Bool)(hm:P.follows .mixedOrders=true)(h:G n ds F (TT P ops F (Q .normal) (sG (WY P ld ops) ops)) σ H)(ok:BC ops.size (WY P ld ops) ops=true:=by kernel_rfl):G n ds F ((Code.region id ops true).wp P Q) σ H:=aiW _ hm h ok
theorem iU{id:Nat}{As R:F8}(k:Nat)(hm:P.follows .mixedOrders=true)(c9:iA H As R)
  (h:∀F':dG,Le F.h F'.h->gG As F'.h->z7 F As F'->G n ds F' (TT P ops F' (TT P ops F (Q .normal) ((sG (WY P true ops) ops).drop k)) ((sG (WY P true ops) ops).take k)) σ R) (ok:BC k (WY P true ops) ops=true:=by kernel_rfl):G n ds F ((Code.region id ops true).wp P Q) σ H:=ad8 k _ hm c9 h ok
end
end Go.dC
namespace Go.dC
open Go
variable {P:Program} {n:Nat} {ds:Dq} {F:dG} {Q:Exit->F9} {K:F9} {σ:aP} {H:F8} {o:Oper} {d:Nat}
theorem Sc{t yt:TypeId}{x y:Operand}{i j l:FI}(hl:i.length+j.length<=9223372036854775807)(ho:o.op= .binOp .add t x y yt:=by exact rfl)(hx:bo σ x=some (a8 i):=by exact rfl)(hy:bo σ y=some (a8 j):=by exact rfl)(he:i++j=l:=by exact rfl):Yv P n ds F σ o (a8 l):=by
 intro a w e _;subst he;have q:(Op.stringOp .add ⟨i.toArray⟩ ⟨j.toArray⟩).run P w= .ok (.string ⟨(i++j).toArray⟩) w:=by rw[run_string_add_sum w _ _ (by simp[ByteArray.size];omega),ByteArray.mk_append_mk]
 unfold a8 at hx hy⊢;simp[execOp,ho,e.eval hx,e.eval hy,eqGuard,binOp,q]
theorem Bda{t e:TypeId}{sz k:Nat}{zs vs cs:FJ}{parts:List (Nat×Operand)}(hz:bS P t=some zs)(ht:Bv P t=some (k,e,sz))(ho:o.op= .build t parts.toArray:=by exact rfl)(hv:jL σ (parts.map (·.2))=some vs:=by exact rfl)
  (hc:o9 (λi=>some (i*sz,sz)) zs ((parts.map (·.1)).zip vs)=some cs:=by exact rfl):Yv P n ds F σ o (.agg cs.toArray):=
 λac w en fr=>by
  have hp:=vy en hv;obtain⟨zv,hzr,I6⟩:=qq hz (w:=w);unfold Bv at ht;cases hu:P.underlying t with
  |none=>simp[hu]at ht
  |some dsc=>
   cases dsc<;>simp[hu]at ht;rename_i k' e';cases hi:P.info? e' with
   |none=>simp[hi]at ht
   |some inf=>
    simp[hi]at ht;obtain⟨rfl,rfl,rfl⟩:=ht;have lI:=fill_eq _ _ _ _ hc;rw[<-hp]at lI;simp[execOp,ho,Instr.build,hzr,run_underlying hu,sizeOf,typeInfo,hi,I6,lI]
end Go.dC
namespace Go.dC
open Go Go.MapKept
section
variable {P:Program} {n:Nat} {ds:Dq} {F:dG} {Q:Exit->F9} {K:F9} {σ:aP} {H:F8} {o:Oper} {d:Nat}
theorem Mf{fn:Fn}{fs cs:List Operand}{fv cv:FJ}(ho:o.op= .makeFunc fn fs.toArray cs.toArray:=by exact rfl)(hf:jL σ fs=some fv:=by exact rfl)(hc:jL σ cs=some cv:=by exact rfl):Yv P n ds F σ o (.func fn fv.toArray cv.toArray):=
 λa w e _=>by
  have h1:=e.vP hf;have h2:=e.vP hc;simp[execOp,ho,Instr.makeFunc,<-h1,<-h2]
theorem Mr{ρ:Operand->Value}{f:FuncId}{xs:List Operand}{vs fv cv:FJ}{q8:Array TypeId}{w:World}{fn:Func}{x:Operand}(ho:o.op= .call {callee:= .value x,args:=xs.toArray,argTypes:=q8})
  (hρ:ρ x= .func (.func f) fv.toArray cv.toArray) (hv:xs.map ρ=vs) (hf:P.funcs[f]?=some fn) (hb:fn.body.isSome=true) (hnm:(fn.name== "runtime.NumGoroutine")=false):
  (execOp ρ o).run P w= .ok (.enter f (fv++vs++cv).toArray) w:=by
 have aiS:fn.body.isNone=false:=by rw[<-Option.not_isSome,hb];rfl
 have ab9:¬fn.name= "runtime.NumGoroutine" :=by simpa using hnm
 have hb':¬fn.body=none:=by intro q;rw[q]at hb;cases hb
 simp[execOp,ho,resolve,hρ,Deferred.ofValue,invoke,callFunc,hf,<-hv];rw[if_neg ab9,if_neg hb']
theorem Um{f:FuncId}{xs:List Operand}{vs fv cv:FJ}{q8:Array TypeId}{pre:Hp->Prop}{As R:F8}{T:Dp}{x:Operand}(kH:ay P f=true)(ho:o.op= .call {callee:= .value x,args:=xs.toArray,argTypes:=q8})
  (hd:o.dst=some d) (hx:bo σ x=some (.func (.func f) fv.toArray cv.toArray)) (hv:jL σ xs=some vs) (hc:aG P f (fv++vs++cv) pre As T) (c9:iA H As R) (gX:∀h,Le F.h h->gG R h->pre h) (hdn:Nat.blt d n=true)
  (h:∀v H',T v H'->G n ds F K ((d,v)::σ) (H'++R)):G n ds F (λa w=>o.wp P a w K Q) σ H:=by
 refine .mk λa w en s=> ?_;unfold ay at kH;cases hf:P.funcs[f]? with
 |none=>simp[hf]at kH
 |some fn=>
  simp only[hf,Bool.and_eq_true,Bool.not_eq_true']at kH;unfold Oper.wp;rw[Mr ho (en.eval hx) (en.vP hv) hf kH.1 kH.2,Oper.upon_enter];obtain⟨a1,a2,a3,fr,hh,st,hl,rr⟩:=s;obtain⟨h1,h2,d12,l1,l2,s1,s2⟩:=bh (c9.out _ st);have vE:bG h2 F.h:=rr.left l2
  let F':dG:={F with h:=fF h2 F.h}
  have gY:Le F.h F'.h:=aJ vE;have gZ:Le h2 F'.h:=aR _ _;have xu:St F' As w:=⟨a1,a2,a3,bQ (l2.trans hl) fr,h1,s1,l1.trans hl,(bG.fF d12.symm (rr.left l1).symm).symm⟩;refine(hc F' w (gX _ gY (cj s2 gZ)) xu).mono ?_;rintro e w' ⟨v,H',rfl,hT,sw⟩;obtain⟨b1,b2,b3,ru,zL,st2,zJ,ke⟩:=sw;rw[hd];refine h v H' hT _ _ (en.put hdn v) ⟨b1,b2,b3,gY.trans ru,fF zL h2,bz st2 s2 (ke.right gZ),bQ zJ (gZ.trans ru),bG.fF (ke.right gY) vE⟩
theorem ZW{f:FuncId}{xs:List Operand}{vs fv cv:FJ}{q8:Array TypeId}{pre:Hp->Prop}{A2 R:F8}{T:Dp}{x:Operand}(kH:ay P f=true)(ho:o.op= .call {callee:= .value x,args:=xs.toArray,argTypes:=q8})
  (hx:bo σ x=some (.func (.func f) fv.toArray cv.toArray)) (hv:jL σ xs=some vs) (hc:aG P f (fv++vs++cv) pre A2 T) (c9:iA H A2 R) (gX:∀h,Le F.h h->gG R h->pre h)
  (h:∀v H',T v H'->G n ds F K ((d,v)::σ) (H'++R)) (hd:o.dst=some d:=by exact rfl) (hdn:Nat.blt d n=true:=by exact rfl):G n ds F (λa w=>o.wp P a w K Q) σ H:=
 Um kH ho hd hx hv hc c9 gX hdn h
def tz (P:Program)(t:TypeId):Bool:=match P.underlying t with|some (.interface _)=>false|some _=>true|none=>false
theorem ug{t:TypeId}(h:tz P t=true):∃dd,P.underlying t=some dd/\∀ms,dd≠ .interface ms:=by
 unfold tz at h;cases hu:P.underlying t with
 |none=>simp[hu]at h
 |some dd=>exact⟨dd,rfl,λms q=>by subst q;simp[hu]at h⟩
theorem Ww{t:TypeId}{x:Operand}{v:Value}(ht:tz P t=true)(ho:o.op= .makeInterface t x:=by exact rfl)(hx:bo σ x=some v:=by exact rfl):Yv P n ds F σ o (.iface t v):=λa w e _=>by
 obtain⟨dd,hu,fQ⟩:=ug ht;have:(Instr.makeInterface t v).run P w= .ok (.iface t v) w:=by
  cases dd<;>simp_all[Instr.makeInterface,run_underlying hu]
 simp[execOp,ho,e.eval hx,this]
def isIface (P:Program)(t:TypeId):Bool:=match P.underlying t with|some (.interface _)=>true|_=>false
theorem ui{t:TypeId}(h:isIface P t=true):∃ms,P.underlying t=some (.interface ms):=by
 unfold isIface at h;cases hu:P.underlying t with
 |none=>simp[hu]at h
 |some dd=>cases dd<;>simp[hu]at h;exact⟨_,rfl⟩
theorem X0{t tv:TypeId}{v:Value}(ht:isIface P t=true)(w:World):(Op.equalIn 10000 t (.iface tv v) .nilIface).run P w= .ok false w:=by
 obtain⟨ms,hu⟩:=ui ht;unfold Op.equalIn;simp[run_underlying hu]
theorem XZ{t:TypeId}(ht:isIface P t=true)(w:World):(Op.equalIn 10000 t .nilIface .nilIface).run P w= .ok true w:=by
 obtain⟨ms,hu⟩:=ui ht;unfold Op.equalIn;simp[run_underlying hu]
theorem Iq{op:BinOp}{t yt tv:TypeId}{x:Operand}{v:Value}{b:Bool}(ht:isIface P t=true)(ho:o.op= .binOp op t x (.const .nilIface) yt:=by exact rfl)(hx:bo σ x=some (.iface tv v):=by exact rfl)
  (hop:(op= .eql/\b=false)\/(op= .neq/\b=true):=by first|exact .inl ⟨rfl,rfl⟩|exact .inr ⟨rfl,rfl⟩):Yv P n ds F σ o (.bool b):=λa w e _=>by
 have hc:a.eval (.const .nilIface)= .nilIface:=rfl;have q:=X0 (P:=P) (tv:=tv) (v:=v) ht w;rcases hop with⟨rfl,rfl⟩|⟨rfl,rfl⟩<;>simp[execOp,ho,e.eval hx,hc,eqGuard,binOp,Op.equal,Op.maxDepth,q]
theorem Iqn{op:BinOp}{t yt:TypeId}{x:Operand}{b:Bool}(ht:isIface P t=true)(ho:o.op= .binOp op t x (.const .nilIface) yt:=by exact rfl)(hx:bo σ x=some .nilIface:=by exact rfl)
  (hop:(op= .eql/\b=true)\/(op= .neq/\b=false):=by first|exact .inl ⟨rfl,rfl⟩|exact .inr ⟨rfl,rfl⟩):Yv P n ds F σ o (.bool b):=λa w e _=>by
 have hc:a.eval (.const .nilIface)= .nilIface:=rfl;have q:=XZ (P:=P) ht w;rcases hop with⟨rfl,rfl⟩|⟨rfl,rfl⟩<;>simp[execOp,ho,e.eval hx,hc,eqGuard,binOp,Op.equal,Op.maxDepth,q]
theorem TaT{xt t:TypeId}{x:Operand}{v:Value}(ht:tz P t=true)(ho:o.op= .typeAssert x xt t true:=by exact rfl)(hx:bo σ x=some (.iface t v):=by exact rfl):Yv P n ds F σ o (.tuple #[v, .bool true]):=λa w e _=>by
 obtain⟨dd,hu,fQ⟩:=ug ht;have:(Instr.typeAssert (.iface t v) xt t true).run P w= .ok (.tuple #[v, .bool true]) w:=by
  cases dd<;>simp_all[Instr.typeAssert,run_underlying hu]
 simp[execOp,ho,e.eval hx,this]
end
inductive mq (dd:TypeDesc) (b:Nat) (es:List (Value×Value)) (h:Hp):Prop
 |mk (eF:Array MapEntry) (wB:Nat) (he:eF.toList.map (λe=>(e.key,e.val))=es) (hk:∀x∈eF.toList,IsKey dd x.key) (hs:Stamped eF wB) (hb:h b=some (.map eF wB))
noncomputable def uq (es:List (Value×Value))(k:Value):Option Value:=by
 classical exact(es.find? λe=>decide (e.1=k)).map (·.2)
noncomputable def Dz (es:List (Value×Value))(k v:Value):List (Value×Value):=by
 classical exact if(∃e∈es,e.1=k)then es.map (λe=>if e.1=k then(k,v)else e)else es++ [(k,v)]
noncomputable def Gl (es:List (Value×Value))(k:Value):List (Value×Value):=by
 classical exact es.filter λe=>decide (e.1≠k)
theorem Ux{dd:TypeDesc}{b:Nat}{es:List (Value×Value)}{h:Hp}(p:mq dd b es h):(es.map (·.1)).Nodup:=by
 obtain⟨eF,wB,he,_,hs,_⟩:=p;rw[<-he];simpa[Function.comp_def]using hs.2.2
theorem C9{dd:TypeDesc}{k:Value}(hk:IsKey dd k){eF:Array MapEntry}(PQ:∀x∈eF.toList,IsKey dd x.key):
  (Instr.findNow dd k eF.toList 0=some none/\∀e∈eF.toList.map (λe=>(e.key,e.val)),e.1≠k)\/∃j e,Instr.findNow dd k eF.toList 0=some (some (j,e.val))/\eF[j]?=some e/\e.key=k:=by
 rcases findNow_spec hk eF.toList 0 PQ with⟨h1,h2⟩|⟨j,e,h1,h2,h3⟩
 ·refine .inl ⟨h1,λe he=> ?_⟩
  obtain⟨x,hx,rfl⟩:=List.mem_map.1 he;exact h2 x hx
 exact .inr ⟨j,e,by simpa using h1,by simpa using h2,h3⟩
theorem EZ{es:List (Value×Value)}{k:Value}(h:∀e∈es,e.1≠k):uq es k=none:=by
 simp only[uq,Option.map_eq_none_iff,List.find?_eq_none];intro e he;simpa using h e he
theorem UH{es:List (Value×Value)}{k v:Value}(hn:(es.map (·.1)).Nodup)(h:(k,v)∈es):uq es k=some v:=by
 induction es with
 |nil=>cases h
 |cons e es ih=>
  simp only[List.map_cons,List.nodup_cons]at hn;rcases List.mem_cons.1 h with rfl|h
  ·simp[uq]
  have fQ:e.1≠k:=λq=>hn.1 (List.mem_map.2 ⟨(k,v),h,q.symm⟩);have:=ih hn.2 h;simp only[uq]at this⊢;rw[List.find?_cons_of_neg (by simpa using fQ)];exact this
theorem Up{α:Type}{l:List α}(hn:l.Nodup){i j:Nat}{x:α}(hi:l[i]?=some x)(hj:l[j]?=some x):i=j:=by
 obtain⟨h1,e1⟩:=List.getElem?_eq_some_iff.1 hi;obtain⟨h2,e2⟩:=List.getElem?_eq_some_iff.1 hj;have hp:=List.pairwise_iff_getElem.1 hn;rcases Nat.lt_trichotomy i j with q|q|q
 ·exact absurd (e1.trans e2.symm) (hp i j h1 h2 q)
 ·exact q
 exact absurd (e2.trans e1.symm) (hp j i h2 h1 q)
theorem um{dd:TypeDesc}{k:Value}(h:Wi dd k=true)(m:Nat):Instr.sameBits m k k=true:=by
 cases dd<;>cases k<;>simp[Wi]at h<;>simp[Instr.sameBits];exact(bytes_beq _ _).2 rfl
section
variable {P:Program} {n:Nat} {ds:Dq} {F:dG} {Q:Exit->F9} {K:F9} {σ:aP} {H:F8} {o:Oper} {d:Nat}
theorem oQm{t:TypeId}(dd:TypeDesc)(h:∀b,G n ds F K ((d, .map (some b))::σ) (mq dd b []::H))(ho:o.op= .makeMap t none:=by exact rfl)(hd:o.dst=some d:=by exact rfl)(hdn:Nat.blt d n=true:=by exact rfl):G n ds F (λa w=>o.wp P a w K Q) σ H:=by
 refine .mk λa w en s=> ?_;unfold Oper.wp;have:(execOp a.eval o).run P w= .ok (.value (.map (some w.heap.size))) (w.alloc (.map #[] 0)):=by
  have h0:(Instr.makeMap t none).run P w= .ok (.map (some w.heap.size)) (w.alloc (.map #[] 0)):=rfl;simp[execOp,ho,h0]
 rw[this,Oper.upon_value,hd];exact h _ _ _ (en.put hdn _) (s.Xb _ _ (.mk #[] 0 rfl (by simp) (stamped_empty 0) (by simp)))
theorem Cz{es:List (Value×Value)}{k v:Value}(h:∃e∈es,e.1=k):Dz es k v=es.map (λe=>by classical exact if e.1=k then(k,v)else e):=by
 unfold Dz;rw[if_pos h]
theorem CA{es:List (Value×Value)}{k v:Value}(h:∀e∈es,e.1≠k):Dz es k v=es++ [(k,v)]:=by
 unfold Dz;rw[if_neg (by rintro⟨e,he,q⟩;exact h e he q)]
theorem FR{α:Type}(l:Array α)(i:Nat)(f:α->α):(l.modify i f).toList=l.toList.modify i f:=Array.toList_modify
theorem oQi{t k e:TypeId}{dd:TypeDesc}{z:Value}{m x y:Operand}{b:Nat}{es:List (Value×Value)}{kv v:Value}{f:aa->F8}(ht:xH P t=some (k,dd,e,z))(h:G n ds F K σ (f (mq dd b (Dz es kv v))))(ho:o.op= .mapUpdate t m x y\/o.op= .insert t m x y:=by first|exact .inl rfl|exact .inr rfl)(hd:o.dst=none:=by exact rfl)
  (hm:bo σ m=some (.map (some b)):=by exact rfl) (hx:bo σ x=some kv:=by exact rfl) (hy:bo σ y=some v:=by exact rfl) (hk:Wi dd kv=true:=by exact rfl) (hu:Pos H (mq dd b es) f:=by repeat (first|exact Pos.here|apply Pos.there)):
  G n ds F (λa w=>o.wp P a w K Q) σ H:=by
 classical
 refine .mk λa w en s=> ?_;obtain⟨OX,DD,_,_,_⟩:=nD ht;obtain⟨R,s1,s2⟩:=hu.uv;have sR:=s.uv s1;obtain⟨hh,⟨eF,wB,he,PQ,fA,hb⟩,hl⟩:=sR.get;have hw:w.heap[b]?=some (.map eF wB):=hl _ _ hb;unfold Oper.wp;rcases C9 (jw hk) PQ with⟨Gt,mc⟩|⟨j,PX,Gt,hj,nW⟩
 ·have:(execOp a.eval o).run P w= .ok .skip {w with heap:=w.heap.setIfInBounds b (.map (eF.push {key:=kv,val:=v,born:=wB}) (wB+1))}:=by
   have hup:(Instr.mapUpdate t (.map (some b)) kv v).run P w= .ok () {w with heap:=w.heap.setIfInBounds b (.map (eF.push {key:=kv,val:=v,born:=wB}) (wB+1))}:=by
    simp[Instr.mapUpdate,run_underlying OX,MapKept.run_getObj_map hw,MapKept.run_checkKey DD (jw hk),MapKept.run_findKey DD Gt,MapKept.run_setObj_map _ hw,Result.andThen]
   rcases ho with ho|ho<;>simp[execOp,ho,en.eval hm,en.eval hx,en.eval hy,hup,Result.andThen]
  rw[this,Oper.upon_skip,hd];rw[he]at mc;refine h _ _ en (St.pJ (s2 _) (sR.W8 (λh' p=>by obtain⟨_,_,_,_,_,q⟩:=p;exact⟨_,q⟩) (.mk (eF.push {key:=kv,val:=v,born:=wB}) (wB+1) (by rw[CA mc];simp[he]) (λq hq=> ?_) (stamped_push fA λq hq e=> ?_) (by simp))))
  ·simp only[Array.toList_push,List.mem_append,List.mem_singleton]at hq
   rcases hq with hq|rfl
   ·exact PQ q hq
   exact jw hk
  exact mc (q.key,q.val) (by rw[<-he];exact List.mem_map.2 ⟨q,hq,rfl⟩) e
 have hold:eF.toList[j]?=some PX:=by simpa using hj
 have DW:(execOp a.eval o).run P w= .ok .skip {w with heap:=w.heap.setIfInBounds b (.map (eF.modify j λe=>{e with key:=kv,val:=v}) wB)}:=by
  have hup:(Instr.mapUpdate t (.map (some b)) kv v).run P w= .ok () {w with heap:=w.heap.setIfInBounds b (.map (eF.modify j λe=>{e with key:=kv,val:=v}) wB)}:=by
   simp[Instr.mapUpdate,run_underlying OX,MapKept.run_getObj_map hw,MapKept.run_checkKey DD (jw hk),MapKept.run_findKey DD Gt,hj,nW,Instr.keyThatStays,um hk,MapKept.run_setObj_map _ hw,Result.andThen]
  rcases ho with ho|ho<;>simp[execOp,ho,en.eval hm,en.eval hx,en.eval hy,hup,Result.andThen]
 rw[DW,Oper.upon_skip,hd];have wH:(kv,PX.val)∈es:=by rw[<-he,<-nW];exact List.mem_map.2 ⟨PX,List.mem_of_getElem? hold,rfl⟩
 have Qz:(eF.modify j λe=>{e with key:=kv,val:=v}).toList.map (λe=>(e.key,e.val))=Dz es kv v:=by
  rw[Cz ⟨_,wH,rfl⟩,<-he,FR];apply List.ext_getElem?;intro i;simp only[List.getElem?_map,List.getElem?_modify];by_cases Z7:j=i
  ·subst Z7
   simp[hold,nW]
  cases hi:eF.toList[i]? with
  |none=>simp
  |some e'=>
   have fQ:e'.key≠kv:=by
    intro q;have hn:=fA.2.2;exact Z7 (Up hn (x:=kv) (by simp[hold,nW]) (by simp[hi,q]))
   simp[fQ,Z7]
 refine h _ _ en (St.pJ (s2 _) (sR.W8 (λh' p=>by obtain⟨_,_,_,_,_,q⟩:=p;exact⟨_,q⟩) (.mk _ wB Qz (isKey_modify PQ j _ (λe PS=>by rw[hj]at PS;cases PS;exact nW.symm)) (stamped_modify fA j _ (λ_ _=>rfl) (λe _ PS=>by rw[hj]at PS;cases PS;exact nW.symm)) (by simp))))
theorem AO{t k e:TypeId}{dd:TypeDesc}{z:Value}{b:Nat}{es:List (Value×Value)}{kv:Value}{h:Hp}{w:World}(ht:xH P t=some (k,dd,e,z))(hk:Wi dd kv=true)(p:mq dd b es h)(hl:Le h (lr w))(c:Bool):
  (Instr.lookup t (.map (some b)) kv c).run P w= .ok (if c then .tuple #[(uq es kv).getD z, .bool (uq es kv).isSome]else(uq es kv).getD z) w:=by
 obtain⟨OX,DD,i,hi,hz⟩:=nD ht;have zE:=Ux p;obtain⟨eF,wB,he,PQ,fA,hb⟩:=p;have hw:w.heap[b]?=some (.map eF wB):=hl _ _ hb;rcases C9 (jw hk) PQ with⟨Gt,mc⟩|⟨j,PX,Gt,hj,nW⟩
 ·rw[he]at mc
  rw[EZ mc];simp[Instr.lookup,run_underlying OX,MapKept.run_getObj_map hw,MapKept.run_checkKey DD (jw hk),MapKept.run_findKey DD Gt,zeroValue,typeInfo,hi,hz,Result.andThen]
 have wH:(kv,PX.val)∈es:=by rw[<-he,<-nW];exact List.mem_map.2 ⟨PX,List.mem_of_getElem? (by simpa using hj),rfl⟩
 rw[UH zE wH];simp[Instr.lookup,run_underlying OX,MapKept.run_getObj_map hw,MapKept.run_checkKey DD (jw hk),MapKept.run_findKey DD Gt,Result.andThen]
theorem oQl{t k e:TypeId}{dd:TypeDesc}{z:Value}{m x:Operand}{b:Nat}{es:List (Value×Value)}{kv:Value}{R:F8}(ht:xH P t=some (k,dd,e,z))(h:G n ds F K ((d,(uq es kv).getD z)::σ) H)(ho:o.op= .lookup t m x false:=by exact rfl)(hd:o.dst=some d:=by exact rfl)
  (hm:bo σ m=some (.map (some b)):=by exact rfl) (hx:bo σ x=some kv:=by exact rfl) (hk:Wi dd kv=true:=by exact rfl) (hs:fP H (mq dd b es) R:=by repeat (first|exact fP.here|apply fP.there)) (hdn:Nat.blt d n=true:=by exact rfl):G n ds F (λa w=>o.wp P a w K Q) σ H:=
 rY hd hdn (λa w en s=>by
  obtain⟨hh,p,hl⟩:=(s.uv hs).get;simp[execOp,ho,en.eval hm,en.eval hx,AO ht hk p hl]) h
theorem Xa{t k e:TypeId}{dd:TypeDesc}{z:Value}{m x:Operand}{b:Nat}{es:List (Value×Value)}{kv:Value}{R:F8}(ht:xH P t=some (k,dd,e,z))(h:G n ds F K ((d, .tuple #[(uq es kv).getD z, .bool (uq es kv).isSome])::σ) H)(ho:o.op= .lookup t m x true:=by exact rfl)(hd:o.dst=some d:=by exact rfl)
  (hm:bo σ m=some (.map (some b)):=by exact rfl) (hx:bo σ x=some kv:=by exact rfl) (hk:Wi dd kv=true:=by exact rfl) (hs:fP H (mq dd b es) R:=by repeat (first|exact fP.here|apply fP.there)) (hdn:Nat.blt d n=true:=by exact rfl):G n ds F (λa w=>o.wp P a w K Q) σ H:=
 rY hd hdn (λa w en s=>by
  obtain⟨hh,p,hl⟩:=(s.uv hs).get;simp[execOp,ho,en.eval hm,en.eval hx,AO ht hk p hl]) h
theorem oQd{t k e:TypeId}{dd:TypeDesc}{z:Value}{m x:Operand}{b:Nat}{es:List (Value×Value)}{kv:Value}{f:aa->F8}{t2:TypeId}(ht:xH P t=some (k,dd,e,z))(h:G n ds F K σ (f (mq dd b (Gl es kv))))(ho:o.op= .call {callee:= .builtin .delete,args:= #[m,x],argTypes:= #[t,t2]}:=by exact rfl)(hd:o.dst=none:=by exact rfl)
  (hm:bo σ m=some (.map (some b)):=by exact rfl) (hx:bo σ x=some kv:=by exact rfl) (hk:Wi dd kv=true:=by exact rfl) (hu:Pos H (mq dd b es) f:=by repeat (first|exact Pos.here|apply Pos.there)):G n ds F (λa w=>o.wp P a w K Q) σ H:=by
 classical
 refine .mk λa w en s=> ?_;obtain⟨OX,DD,_,_,_⟩:=nD ht;obtain⟨R,s1,s2⟩:=hu.uv;have sR:=s.uv s1;obtain⟨hh,⟨eF,wB,he,PQ,fA,hb⟩,hl⟩:=sR.get;have hw:w.heap[b]?=some (.map eF wB):=hl _ _ hb;have same:{w with heap:=w.heap.setIfInBounds b (.map eF wB)}=w:=by
  have cJ:=(Array.getElem?_eq_some_iff.1 hw).1;have:w.heap.setIfInBounds b (.map eF wB)=w.heap:=by
   apply Array.ext_getElem?;intro i;rw[Array.getElem?_setIfInBounds];split
   ·rename_i q;subst q;rw[hw]
   rfl
  rw[this]
 unfold Oper.wp;rcases C9 (jw hk) PQ with⟨Gt,mc⟩|⟨j,PX,Gt,hj,nW⟩
 ·have:(execOp a.eval o).run P w= .ok (.value (.tuple #[])) w:=by
   simp[execOp,ho,resolve,invoke,builtin,Builtin.delete_,en.eval hm,en.eval hx,run_underlying OX,MapKept.run_getObj_map hw,MapKept.run_checkKey DD (jw hk),MapKept.run_findKey DD Gt,MapKept.run_setObj_map _ hw,Result.andThen,same]
  rw[this,Oper.upon_value,hd];rw[he]at mc;have pf:Gl es kv=es:=by
   unfold Gl;rw[List.filter_eq_self];intro e' PS;simpa using mc e' PS
  rw[pf]at h;exact h _ _ en (by
   have:=St.pJ (s2 (mq dd b es)) sR;exact this)
 have cJ:=(Array.getElem?_eq_some_iff.1 hj).1;have:(execOp a.eval o).run P w= .ok (.value (.tuple #[])) {w with heap:=w.heap.setIfInBounds b (.map (eF.eraseIdxIfInBounds j) wB)}:=by
  simp[execOp,ho,resolve,invoke,builtin,Builtin.delete_,en.eval hm,en.eval hx,run_underlying OX,MapKept.run_getObj_map hw,MapKept.run_checkKey DD (jw hk),MapKept.run_findKey DD Gt,MapKept.run_setObj_map _ hw,Result.andThen]
 rw[this,Oper.upon_value,hd];have Qz:(eF.eraseIdxIfInBounds j).toList.map (λe=>(e.key,e.val))=Gl es kv:=by
  have e1:(eF.eraseIdxIfInBounds j).toList=eF.toList.eraseIdx j:=by
   unfold Array.eraseIdxIfInBounds;rw[dif_pos cJ];simp
  rw[e1,<-he];have zE:(eF.toList.map (·.key)).Nodup:=fA.2.2;have hg:eF.toList[j]?=some PX:=by simpa using hj
  clear Gt fA PQ hb hw hl he this e1 same
  clear hj cJ
  generalize eF.toList=l at*;induction l generalizing j with
  |nil=>simp at hg
  |cons x l ih=>
   simp only[List.map_cons,List.nodup_cons]at zE;cases j with
   |zero=>
    simp at hg;subst hg;simp only[List.eraseIdx_cons_zero,List.map_cons,Gl];rw[List.filter_cons_of_neg (by simp[nW])]
    symm
    rw[List.filter_eq_self];intro e' PS;obtain⟨y,hy,rfl⟩:=List.mem_map.1 PS;have:y.key≠x.key:=λq=>zE.1 (List.mem_map.2 ⟨y,hy,q⟩);simpa[<-nW]using this
   |succ j=>
    simp at hg;have Z2:x.key≠kv:=λq=>zE.1 (List.mem_map.2 ⟨PX,List.mem_of_getElem? hg,nW.trans q.symm⟩);simp only[List.eraseIdx_cons_succ,List.map_cons,Gl];rw[List.filter_cons_of_pos (by simpa using Z2)]
    congr 1
    exact ih j zE.2 hg
 refine h _ _ en (St.pJ (s2 _) (sR.W8 (λh' p=>by obtain⟨_,_,_,_,_,q⟩:=p;exact⟨_,q⟩) (.mk _ wB Qz (λq hq=>PQ q ?_) (stamped_erase fA j) (by simp))));unfold Array.eraseIdxIfInBounds at hq;rw[dif_pos cJ]at hq;exact(List.eraseIdx_sublist _ _).subset (by simpa using hq)
end
end Go.dC
namespace Go.dC
open Go Go.MapKept
theorem St.W7{F:dG}{H:F8}{w:World}{A B:aa}{b:Nat}{o':Obj}(s:St F (A::H) w)(hA:∀h,A h->Le h (lr w)->(∃o,h b=some o)/\B λx=>if x=b then some o' else h x):
  St F (B::H) {w with heap:=w.heap.setIfInBounds b o'}:=by
 obtain⟨a1,a2,a3,fr,h,⟨h1,h2,d,l1,l2,hp,s⟩,y,z⟩:=s;obtain⟨⟨ob,hb⟩,hB⟩:=hA h1 hp (l1.trans y);have hw:w.heap[b]?=some ob:=(l1.trans y) _ _ hb;obtain⟨zD,Wk⟩:=heap_set (o':=o') hw;have fQ:∀k:Hp,bG h1 k->∀x o,k x=some o->x≠b:=by
  intro k dk x o e hx;subst hx;rcases dk x with q|q
  ·rw[hb]at q;cases q
  rw[e]at q;cases q
 have hold:∀k:Hp,bG h1 k->Le k (lr w)->Le k (lr {w with heap:=w.heap.setIfInBounds b o'}):=by
  intro k dk lk x o e;have:=lk x o e;unfold lr at*;show(w.heap.setIfInBounds b o')[x]?=some o;rw[Wk x (fQ k dk x o e)];exact this
 have dF:bG h1 F.h:=z.left l1;have d2:∀k:Hp,bG h1 k->bG (λx=>if x=b then some o' else h1 x) k:=by
  intro k dk x;by_cases hx:x=b
  ·subst hx
   rcases dk x with q|q
   ·rw[hb]at q;cases q
   exact .inr q
  rcases dk x with q|q
  ·exact .inl (by simp[hx,q])
  exact .inr q
 refine⟨a1,a2,a3,hold _ dF fr,fF _ h2,⟨_,h2,d2 _ d,aR _ _,aJ (d2 _ d),hB,s⟩,bQ ?_ (hold _ d (l2.trans y)),bG.fF (d2 _ dF) (z.left l2)⟩;intro x o e;by_cases hx:x=b
 ·subst hx;simp only[if_true]at e;cases e;exact zD
 simp only[hx,if_false]at e;have:=(l1.trans y) x o e;unfold lr at*;show(w.heap.setIfInBounds b o')[x]?=some o;rw[Wk x hx];exact this
section
variable {P:Program} {n:Nat} {ds:Dq} {F:dG} {Q:Exit->F9} {K:F9} {σ:aP} {H:F8} {o:Oper} {d:Nat}
end
end Go.dC
namespace Go.dC
open Go
theorem Ij{A:aa}{L H:F8}{h:Hp}(s:ai (aB (A::L)::H) h):ai (A::aB L::H) h:=by
 obtain⟨h1,h2,d,l1,l2,⟨h3,h4,d',l3,l4,a,s1⟩,s2⟩:=s;refine⟨h3,fF h4 h2, ?_,l3.trans l1,bQ (l4.trans l1) l2,a,h4,h2,d.left l4,aR _ _,aJ (d.left l4),s1,s2⟩;exact(bG.fF d'.symm (d.left l3).symm).symm
theorem Ii{A:aa}{L H:F8}{h:Hp}(s:ai (A::aB L::H) h):ai (aB (L++ [A])::H) h:=by
 have s:=dy s;have:ai (aB L::([A]++H)) h:=s;exact y3 this
section
variable {P:Program} {n:Nat} {ds:Dq} {F:dG} {Q:Exit->F9} {K:F9} {σ:aP} {H:F8} {o:Oper} {d:Nat}
theorem Mg{α:Type}{f:α->aa}{X:α->Hp->Prop}(hx:∀a k,f a k->X a k)(hm:∀a k l,X a k->Le k l->X a l):∀(L:List α) (h:Hp),ai (L.map f) h->∀a∈L,X a h:=by
 intro L;induction L with
 |nil=>intro h _ a ha;cases ha
 |cons b r ih=>
  intro h s a ha;obtain⟨h1,h2,d,l1,l2,p,s2⟩:=s;rcases List.mem_cons.1 ha with rfl|ha
  ·exact hm _ _ _ (hx _ _ p) l1
  exact hm _ _ _ (ih h2 s2 a ha) l2
theorem Uk{a:FL}{cap e sz:Nat}{xs:FJ}{R:F8}{w:World}(s:St F (own a cap e sz xs::R) w):
  (a=none/\cap=0/\xs= [])\/∃b sp,a=some ⟨b,0,none⟩/\xs.length+sp.length=cap*sz/\cap<=maxLen/\St F (ag b e (xs++sp)::R) w:=by
 obtain⟨a1,a2,a3,fr,h,⟨h1,h2,dd,l1,l2,⟨q1,q2,q3|⟨b,sp,rfl,q4,q5⟩⟩,st⟩,y,zz⟩:=s
 ·obtain⟨rfl,rfl⟩:=q3
  exact .inl ⟨rfl,rfl,List.eq_nil_of_length_eq_zero (by omega)⟩
 exact .inr ⟨b,sp,rfl,q4,q2,a1,a2,a3,fr,h,⟨h1,h2,dd,l1,l2,q5,st⟩,y,zz⟩
theorem OD{b cap e sz:Nat}{xs sp:FJ}{R:F8}{w:World}(hl:xs.length+sp.length=cap*sz)(hm:cap<=maxLen)(s:St F (ag b e (xs++sp)::R) w):St F (own (some ⟨b,0,none⟩) cap e sz xs::R) w:=
 s.sub λ_ s'=>aZ (λ_ p=>⟨by omega,hm, .inr ⟨b,sp,rfl,hl,p⟩⟩) s'
theorem Yr{a:FL}{cap e sz:Nat}{xs ys:FJ}{h:Hp}(o:own a cap e sz (xs++ys) h):own a cap e sz xs h:=by
 have:=yE o xs.length
 rwa[List.take_left]at this
theorem oSON{t k':TypeId}{x y:Operand}{a:FL}{j cap e sz:Nat}{cells vs:FJ}{f:aa->F8}(hs:cP P t=some k')(h:G n ds F K σ (f (own a cap e sz (cL cells j vs))))(ho:o.op= .store t x y:=by exact rfl)(hd:o.dst=none:=by exact rfl)
  (hx:bo σ x=some (.pointer (a.map (·.add j))):=by exact rfl) (hy:bo σ y=some (.agg vs.toArray):=by exact rfl) (hk:vs.length=k':=by exact rfl) (h1:∀v∈vs,v.oneCell'=true:=by simp[cL,Value.cells,Value.oneCell',a8])
  (hu:Pos H (own a cap e sz cells) f:=by repeat (first|exact Pos.here|apply Pos.there)) (hj:j+vs.length<=cells.length:=by first|omega|(simp;omega)) (h0:0<vs.length:=by first|omega|(simp;done)|(simp;omega)):G n ds F (λa w=>o.wp P a w K Q) σ H:=by
 refine .mk λac w en s=> ?_;obtain⟨R,s1,s2⟩:=hu.uv;rcases Uk (s.uv s1)with⟨rfl,rfl,rfl⟩|⟨b,sp,rfl,q4,q2,st⟩
 ·simp only[List.length_nil]at hj;omega
 obtain⟨w',hr,s'⟩:=jY (P:=P) vs j 0 (cells++sp) w st (by rw[List.length_append];omega) h1;unfold Oper.wp;have:(execOp ac.eval o).run P w= .ok .skip w':=by
  simp[execOp,ho,en.eval hx,en.eval hy,Instr.storeAt,Instr.sureAddr,storeVar,(fE hs).2,Value.cells,hk,add_lit,hr]
 rw[this,Oper.upon_skip,hd];refine h _ _ en (St.pJ (s2 _) (OD (b:=b) (sp:=sp) ?_ q2 ?_))
 ·rw[v7];exact q4
 have e:cL (cells++sp) j vs=cL cells j vs++sp:=by
  rw[ml (by rw[List.length_append];omega),ml hj,List.take_append_of_le_length (by omega),List.drop_append_of_le_length (by omega)];simp
 have s'':=s';simp only[Nat.add_zero]at s'';rw[e]at s'';exact s''
def WS (a:FL)(c e sz:Nat)(pre news:FJ)(g:FL)(gc:Nat):aa:=λh=>
 ((g=a/\gc=c)/\own a c e sz (pre++news) h)\/∃ys,aB [own g gc e sz (pre++news),own a c e sz (pre++ys)] h
end
end Go.dC
