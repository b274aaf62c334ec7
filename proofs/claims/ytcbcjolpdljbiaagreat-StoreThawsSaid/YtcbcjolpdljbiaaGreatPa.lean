/- Part Pa of the proof. -/
import Derived.KernelRfl
import Derived.Laws.Pointers
import Derived.OrdersHeld
import Derived.WalkKit
set_option maxRecDepth 100000
namespace Go.dC
open Go
abbrev vN:Value:= .int .i64 0
def uS:Nat->Nat->List Nat->List Nat
 |_,0,r=>r
 |a,n+1,r=>a::uS (a+1) n r
def FN:List Nat->List Nat
 |a::n::r=>uS a n (FN r)
 |_=> []
abbrev FL:=Option Addr
abbrev FK:=Option Nat
abbrev FJ:=List Value
abbrev FI:=List UInt8
abbrev FH:=List Nat
abbrev F9:=Act->World->Prop
abbrev F7:=List (List Nat)
abbrev Dq:=List Deferred
abbrev Hp:=Nat->Option Obj
abbrev aa:=Hp->Prop
abbrev uT:Hp->Prop:=λ_=>True
abbrev F8:=List aa
abbrev Dp:=Value->List aa->Prop
abbrev aP:=List (Nat×Value)
def Le (h k:Hp):Prop:=∀b o,h b=some o->k b=some o
def bG (h k:Hp):Prop:=∀b,h b=none\/k b=none
theorem Le.refl (h:Hp):Le h h:=λ_ _ e=>e
theorem Le.trans{h k l:Hp}(a:Le h k)(b:Le k l):Le h l:=λx o e=>b x o (a x o e)
theorem bG.symm{h k:Hp}(d:bG h k):bG k h:=λb=>(d b).symm
theorem bG.left{h h' k:Hp}(d:bG h k)(l:Le h' h):bG h' k:=λb=>by
 cases e:h' b with
 |none=>exact .inl rfl
 |some o=>exact(d b).imp (λx=>by rw[l b o e]at x;cases x) id
theorem bG.right{h k k':Hp}(d:bG h k)(l:Le k' k):bG h k':=(d.symm.left l).symm
def ai:F8->Hp->Prop
 | [],_=>True
 |A::r,h=>∃h1 h2,bG h1 h2/\Le h1 h/\Le h2 h/\A h1/\ai r h2
structure dG where
 os:Os
 tape:Nat->Question->Nat
 output:Array (Nat×ByteArray)
 h:Hp
 d:Nat
def lr (w:World):Hp:=λb=>w.heap[b]?
structure St (F:dG)(H:F8)(w:World):Prop where
 os:w.os=F.os
 tape:w.tape=F.tape/\F.d<=w.drawn
 output:w.output=F.output
 frame:Le F.h (lr w)
 own:∃h,ai H h/\Le h (lr w)/\bG h F.h
theorem eU{H:F8}{h k:Hp}(s:ai H h)(l:Le h k):ai H k:=by
 cases H with
 |nil=>trivial
 |cons A r=>obtain⟨h1,h2,d,l1,l2,a,s⟩:=s;exact⟨h1,h2,d,l1.trans l,l2.trans l,a,s⟩
def fF (h k:Hp):Hp:=λb=>match h b with|some o=>some o|none=>k b
theorem aR (h k:Hp):Le h (fF h k):=λb o e=>by simp[fF,e]
theorem aJ{h k:Hp}(d:bG h k):Le k (fF h k):=λb o e=>by
 have:h b=none:=(d b).resolve_right (by simp[e]);simp[fF,this,e]
theorem bQ{h k l:Hp}(a:Le h l)(b:Le k l):Le (fF h k) l:=λx o e=>by
 unfold fF at e;cases hx:h x with
 |some o'=>rw[hx]at e;cases e;exact a x _ hx
 |none=>rw[hx]at e;exact b x o e
theorem bG.fF{h k l:Hp}(a:bG h l)(b:bG k l):bG (fF h k) l:=λx=>by
 rcases a x with e|e
 ·rcases b x with e2|e2
  ·exact .inl (by simp[dC.fF,e,e2])
  exact .inr e2
 exact .inr e
theorem dy{A B:aa}{R:F8}{h:Hp}(s:ai (A::B::R) h):ai (B::A::R) h:=by
 obtain⟨h1,h2,d,l1,l2,a,h3,h4,d',l3,l4,b,s⟩:=s;refine⟨h3,fF h1 h4, ?_,l3.trans l2,bQ l1 (l4.trans l2),b,h1,h4,d.right l4,aR _ _,aJ (d.right l4),a,s⟩;exact(bG.fF (d.right l3) d'.symm).symm
inductive fP:F8->aa->F8->Prop
 |here {A r}:fP (A::r) A r
 |there {A B r r'} (h:fP r A r'):fP (B::r) A (B::r')
theorem fP.t2{a0 a1 x:aa}{H R:List aa}(s:fP H x R):fP (a0::a1::H) x (a0::a1::R):= .there (.there (s))
theorem fP.t3{a0 a1 a2 x:aa}{H R:List aa}(s:fP H x R):fP (a0::a1::a2::H) x (a0::a1::a2::R):= .there (.there (.there (s)))
theorem fP.t4{a0 a1 a2 a3 x:aa}{H R:List aa}(s:fP H x R):fP (a0::a1::a2::a3::H) x (a0::a1::a2::a3::R):= .there (.there (.there (.there (s))))
theorem fP.t8{a0 a1 a2 a3 a4 a5 a6 a7 x:aa}{H R:List aa}(s:fP H x R):fP (a0::a1::a2::a3::a4::a5::a6::a7::H) x (a0::a1::a2::a3::a4::a5::a6::a7::R):= .there (.there (.there (.there (.there (.there (.there (.there (s))))))))
theorem aE{A:aa}{R R':F8}(f:∀h,ai R h->ai R' h){h:Hp}(s:ai (A::R) h):ai (A::R') h:=by
 obtain⟨h1,h2,d,l1,l2,a,s⟩:=s;exact⟨h1,h2,d,l1,l2,a,f _ s⟩
theorem fP.out{H:F8}{A:aa}{R:F8}(s:fP H A R):∀h,ai H h->ai (A::R) h:=by
 induction s with
 |here=>exact λh x=>x
 |there _ ih=>exact λh x=>dy (aE ih x)
theorem fP.back{H:F8}{A:aa}{R:F8}(s:fP H A R):∀h,ai (A::R) h->ai H h:=by
 induction s with
 |here=>exact λh x=>x
 |there _ ih=>exact λh x=>aE ih (dy x)
inductive Pos:F8->aa->(aa->F8)->Prop
 |here {A r}:Pos (A::r) A (λB=>B::r)
 |there {A C r f} (h:Pos r A f):Pos (C::r) A (λB=>C::f B)
theorem Pos.t2{a0 a1 x:aa}{H:List aa}{f:aa->List aa}(s:Pos H x f):Pos (a0::a1::H) x (λy=>a0::a1::f y):= .there (.there (s))
theorem Pos.t3{a0 a1 a2 x:aa}{H:List aa}{f:aa->List aa}(s:Pos H x f):Pos (a0::a1::a2::H) x (λy=>a0::a1::a2::f y):= .there (.there (.there (s)))
theorem Pos.t4{a0 a1 a2 a3 x:aa}{H:List aa}{f:aa->List aa}(s:Pos H x f):Pos (a0::a1::a2::a3::H) x (λy=>a0::a1::a2::a3::f y):= .there (.there (.there (.there (s))))
theorem Pos.t8{a0 a1 a2 a3 a4 a5 a6 a7 x:aa}{H:List aa}{f:aa->List aa}(s:Pos H x f):Pos (a0::a1::a2::a3::a4::a5::a6::a7::H) x (λy=>a0::a1::a2::a3::a4::a5::a6::a7::f y):= .there (.there (.there (.there (.there (.there (.there (.there (s))))))))
theorem Pos.uv{H:F8}{A:aa}{f:aa->F8}(u:Pos H A f):∃R,fP H A R/\∀B,fP (f B) B R:=by
 induction u with
 |here=>exact⟨_, .here,λ_=> .here⟩
 |there _ ih=>obtain⟨R,a,b⟩:=ih;exact⟨_,a.there,λB=>(b B).there⟩
theorem St.sub{F:dG}{H H':F8}{w:World}(f:∀h,ai H h->ai H' h)(s:St F H w):St F H' w:=by
 obtain⟨a,b,c,d,h,x,y,z⟩:=s;exact⟨a,b,c,d,h,f _ x,y,z⟩
theorem St.uv{F:dG}{H R:F8}{A:aa}{w:World}(s:fP H A R)(h:St F H w):St F (A::R) w:=h.sub s.out
theorem St.pJ{F:dG}{H R:F8}{A:aa}{w:World}(s:fP H A R)(h:St F (A::R) w):St F H w:=h.sub s.back
theorem aZ{A B:aa}{R:F8}(f:∀h,A h->B h){h:Hp}(s:ai (A::R) h):ai (B::R) h:=by
 obtain⟨h1,h2,d,l1,l2,a,s⟩:=s;exact⟨h1,h2,d,l1,l2,f _ a,s⟩
theorem St.drop{F:dG}{H:F8}{A:aa}{w:World}(s:St F (A::H) w):St F H w:=
 s.sub λ_ x=>by obtain⟨_,_,_,_,l2,_,s⟩:=x;exact eU s l2
theorem St.get{F:dG}{H:F8}{A:aa}{w:World}(s:St F (A::H) w):∃h,A h/\Le h (lr w):=by
 obtain⟨_,_,_,_,h,⟨h1,h2,d,l1,l2,a,s⟩,y,z⟩:=s;exact⟨h1,a,l1.trans y⟩
def eJ (h:Hp)(a:Addr):Option Value:=
 match h a.block with
 |some (.cells c _ _)=>if a.spot.isSome then none else c[a.off]?
 |_=>none
theorem cU{h k:Hp}(l:Le h k){a:Addr}{v:Value}(e:eJ h a=some v):eJ k a=some v:=by
 unfold eJ at*;cases x:h a.block with
 |none=>simp[x]at e
 |some o=>rw[l _ _ x];rw[x]at e;exact e
theorem lW{h:Hp}{w:World}(l:Le h (lr w)){a:Addr}{v:Value}(e:eJ h a=some v):w.cell? a=some v:=cU l e
inductive ag (b:Nat) (e:TypeId) (cs:FJ) (h:Hp):Prop
 |mk (lo hi:Nat) (hf:hi=lo\/cs.length<=lo) (hb:h b=some (.cells cs.toArray e (lo,hi)))
theorem fx{b:Nat}{e:TypeId}{cs:FJ}{h:Hp}(p:ag b e cs h){i:Nat}{v:Value}(hv:cs[i]?=some v):eJ h ⟨b,i,none⟩=some v:=by
 obtain⟨lo,hi,_,hb⟩:=p;simp[eJ,hb,hv]
theorem tP{b:Nat}{e:TypeId}{cs:FJ}{h:Hp}(p:ag b e cs h){i:Nat}(hi:i<cs.length){w:World}(l:Le h (lr w)):w.frozen? ⟨b,i,none⟩=false:=by
 obtain⟨lo,xz,hf,hb⟩:=p;have:w.heap[b]?=some (.cells cs.toArray e (lo,xz)):=l _ _ hb;simp only[World.frozen?,this];simp only[Bool.and_eq_false_iff,decide_eq_false_iff_not];omega
theorem ak3 (w:World)(b i:Nat)(v:Value)(cs:Array Value)(e:TypeId)(fz:Nat×Nat)(h:w.heap[b]?=some (.cells cs e fz)):
  (w.setCell ⟨b,i,none⟩ v).heap[b]?=some (.cells (cs.setIfInBounds i v) e fz):=by
 obtain⟨cJ,h'⟩:=Array.getElem?_eq_some_iff.1 h;simp[World.setCell,Array.getElem?_modify,h]
theorem St.setCell{F:dG}{H:F8}{w:World}{b i:Nat}{e:TypeId}{cs:FJ}(s:St F (ag b e cs::H) w)(v:Value):
  St F (ag b e (cs.set i v)::H) (w.setCell ⟨b,i,none⟩ v):=by
 obtain⟨a1,a2,a3,fr,h,⟨h1,h2,d,l1,l2,⟨lo,hi,hf,hb⟩,s⟩,y,z⟩:=s;have hw:w.heap[b]?=some (.cells cs.toArray e (lo,hi)):=(l1.trans y) _ _ hb;have fQ:∀k:Hp,bG h1 k->∀x o,k x=some o->x≠b:=by
  intro k dk x o e hx;subst hx;rcases dk x with q|q
  ·rw[hb]at q;cases q
  rw[e]at q;cases q
 have hold:∀k:Hp,bG h1 k->Le k (lr w)->Le k (lr (w.setCell ⟨b,i,none⟩ v)):=by
  intro k dk lk x o e;have:=lk x o e;unfold lr at*;rw[RowKit.Below.heap_setCell w _ v x (by exact fQ k dk x o e)];exact this
 have dF:bG h1 F.h:=z.left l1
 let xB:Hp:=λx=>if x=b then some (.cells (cs.set i v).toArray e (lo,hi))else none
 have d2:∀k:Hp,bG h1 k->bG xB k:=by
  intro k dk x;by_cases hx:x=b
  ·subst hx
   rcases dk x with q|q
   ·rw[hb]at q;cases q
   exact .inr q
  exact .inl (by simp[xB,hx])
 have l1':Le xB (lr (w.setCell ⟨b,i,none⟩ v)):=by
  intro x o e;by_cases hx:x=b
  ·subst hx
   simp only[xB,if_true]at e;cases e;have:=ak3 w x i v _ _ _ hw;rw[lr,this];simp
  simp[xB,hx]at e
 refine⟨a1,a2,a3,hold _ dF fr,fF xB h2,⟨xB,h2,d2 _ d,aR _ _,aJ (d2 _ d),⟨lo,hi,by simpa using hf,by simp[xB]⟩,s⟩,
  bQ l1' (hold _ d (l2.trans y)),bG.fF (d2 _ dF) (z.left l2)⟩
theorem St.new{F:dG}{H:F8}{w:World}(s:St F H w)(e:TypeId)(cs:FJ):
  St F (ag w.heap.size e cs::H) (w.alloc (.cells cs.toArray e)):=by
 obtain⟨a1,a2,a3,fr,h,s,y,z⟩:=s;have hold:∀k:Hp,Le k (lr w)->Le k (lr (w.alloc (.cells cs.toArray e))):=by
  intro k lk x o ex;have hx:=lk x o ex;unfold lr at*;rw[RowKit.Below.heap_alloc w _ x (Array.getElem?_eq_some_iff.1 hx).1];exact hx
 let h1:Hp:=λx=>if x=w.heap.size then some (.cells cs.toArray e)else none
 have dk:∀k:Hp,Le k (lr w)->bG h1 k:=by
  intro k lk x;by_cases hx:x=w.heap.size
  ·right
   cases q:k x with
   |none=>rfl
   |some o=>
    have:=lk x o q;unfold lr at this;have:=(Array.getElem?_eq_some_iff.1 this).1;omega
  exact .inl (by simp[h1,hx])
 refine⟨a1,a2,a3,hold _ fr,fF h1 h,⟨h1,h,dk _ y,aR _ _,aJ (dk _ y),⟨0,0, .inl rfl,by simp[h1]⟩,s⟩,bQ ?_ (hold _ y),bG.fF (dk _ fr) z⟩;intro x o ex;by_cases hx:x=w.heap.size
 ·subst hx;simp only[h1,if_true]at ex;cases ex;exact heap_alloc_new w _
 simp[h1,hx]at ex
theorem St.drew{F:dG}{H:F8}{w:World}(s:St F H w):St F H w.drew:=⟨s.os,⟨s.tape.1,Nat.le_succ_of_le s.tape.2⟩,s.output,s.frame,s.own⟩
theorem St.drawn{F:dG}{H:F8}{w:World}(s:St F H w)(n:Nat)(h:w.drawn<=n:=by exact Nat.le_succ _):St F H {w with drawn:=n}:=⟨s.os,⟨s.tape.1,Nat.le_trans s.tape.2 h⟩,s.output,s.frame,s.own⟩
def look:aP->Nat->Option Value
 | [],_=>none
 |(k,v)::r,t=>match Nat.beq k t with|true=>some v|false=>look r t
def bo (σ:aP):Operand->Option Value
 | .tmp t=>look σ t
 | .const v=>some v
 | .global g=>some (.pointer (some ⟨g,0,none⟩))
 | .func f=>some (.func (.func f) #[] #[])
def jL (σ:aP):List Operand->Option FJ
 | []=>some []
 |x::r=>match bo σ x,jL σ r with|some v,some vs=>some (v::vs)|_,_=>none
structure Env (n:Nat)(ds:Dq)(σ:aP)(a:Act):Prop where
 size:a.tmps.size=n
 defers:a.defers=ds
 slot:∀t v,look σ t=some v->a.tmps[t]?=some v
def pH:aP->aP->Prop
 | [],_=>True
 |(t,v)::r,σ=>look σ t=some v/\pH r σ
theorem pH.look{S σ:aP}(h:pH S σ):∀t v,look S t=some v->look σ t=some v:=by
 induction S with
 |nil=>intro t v e;simp[dC.look]at e
 |cons p r ih=>
  obtain⟨k,u⟩:=p;intro t v e;simp only[dC.look]at e;cases hb:Nat.beq k t with
  |true=>rw[hb]at e;cases e;rw[<-Nat.eq_of_beq_eq_true hb];exact h.1
  |false=>rw[hb]at e;exact ih h.2 t v e
theorem Env.sub{n:Nat}{ds:Dq}{S σ:aP}{a:Act}(e:Env n ds σ a)(h:pH S σ):Env n ds S a:=
 ⟨e.size,e.defers,λt v hv=>e.slot t v (h.look t v hv)⟩
theorem Env.eval{n:Nat}{ds:Dq}{σ:aP}{a:Act}(e:Env n ds σ a){x:Operand}{v:Value}(h:bo σ x=some v):a.eval x=v:=by
 cases x with
 |tmp t=>simp[Act.eval,e.slot t v h]
 |const u=>simpa[bo,Act.eval]using h
 |global g=>simpa[bo,Act.eval]using h
 |func f=>simpa[bo,Act.eval]using h
theorem Env.vP{n:Nat}{ds:Dq}{σ:aP}{a:Act}(e:Env n ds σ a):∀{xs:List Operand} {vs:FJ},jL σ xs=some vs->xs.map a.eval=vs:=by
 intro xs;induction xs with
 |nil=>intro vs h;simp[jL]at h;simp[<-h]
 |cons x r ih=>
  intro vs h;simp only[jL]at h;cases h1:bo σ x with
  |none=>simp[h1]at h
  |some v=>
   cases h2:jL σ r with
   |none=>simp[h1,h2]at h
   |some us=>
    simp only[h1,h2,Option.some.injEq]at h;rw[<-h,List.map_cons,e.eval h1,ih h2]
theorem Env.put{n:Nat}{ds:Dq}{σ:aP}{a:Act}(e:Env n ds σ a){d:Nat}(hd:Nat.blt d n=true)(v:Value):Env n ds ((d,v)::σ) (a.put (some d) v):=by
 have hdn:d<a.tmps.size:=by rw[e.size];exact Nat.le_of_ble_eq_true hd
 refine⟨by simp[Act.put,e.size],by simp[Act.put,e.defers],λt u h=> ?_⟩;simp only[look]at h;cases hb:Nat.beq d t with
 |true=>
  rw[hb]at h;cases h;have:=Nat.eq_of_beq_eq_true hb;subst this;simp[Act.put,hdn]
 |false=>
  rw[hb]at h;have fQ:d≠t:=by intro q;subst q;simp at hb
  simp[Act.put,Array.getElem?_setIfInBounds_ne fQ,e.slot t u h]
structure G (n:Nat)(ds:Dq)(F:dG)(K:F9)(σ:aP)(H:F8):Prop where
 run:∀a w,Env n ds σ a->St F H w->K a w
instance {n:Nat}{ds:Dq}{F:dG}{K:F9}{σ:aP}{H:F8}:CoeFun (G n ds F K σ H) (λ_=>∀a w,Env n ds σ a->St F H w->K a w):=⟨G.run⟩
section rules
variable {P:Program} {n:Nat} {ds:Dq} {F:dG} {Q:Exit->F9} {σ:aP} {H:F8}
theorem av{x y:Code}(h:G n ds F (x.wp P (Exit.then (y.wp P Q) Q)) σ H):G n ds F ((Code.seq x y).wp P Q) σ H:=
 .mk λa w e s=>wp_seq (h a w e s)
theorem B5 (h:G n ds F (Q .normal) σ H):G n ds F (Code.skip.wp P Q) σ H:= .mk λa w e s=>wp_skip (h a w e s)
theorem aiZ (h:G n ds F (Q .ret) σ H):G n ds F (Code.ret.wp P Q) σ H:= .mk λa w e s=>wp_ret (h a w e s)
theorem aea{id:Nat}(h:G n ds F (Q (.exit id)) σ H):G n ds F ((Code.exit id).wp P Q) σ H:= .mk λa w e s=>wp_exit (h a w e s)
theorem qE{id:Nat}{c:Code}(h:G n ds F (c.wp P (Exit.inBlock id Q)) σ H):G n ds F ((Code.block id c).wp P Q) σ H:= .mk λa w e s=>wp_block (h a w e s)
theorem az{c:Operand}{x y:Code}{b:Bool}(hc:bo σ c=some (.bool b))(ht:b=true->G n ds F (x.wp P Q) σ H)(hf:b=false->G n ds F (y.wp P Q) σ H):
  G n ds F ((Code.cond c x y).wp P Q) σ H:=
 .mk λa w e s=>wp_cond_split (e.eval hc) (λhb=>ht hb a w e s) (λhb=>hf hb a w e s)
theorem yJ{c:Operand}{x y:Code}{b:Bool}(hc:bo σ c=some (.bool b))(hb:b=true)(ht:G n ds F (x.wp P Q) σ H):
  G n ds F ((Code.cond c x y).wp P Q) σ H:=az hc (λ_=>ht) (λh=>by rw[hb]at h;cases h)
theorem yK{c:Operand}{x y:Code}{b:Bool}(hc:bo σ c=some (.bool b))(hb:b=false)(ht:G n ds F (y.wp P Q) σ H):
  G n ds F ((Code.cond c x y).wp P Q) σ H:=az hc (λh=>by rw[hb]at h;cases h) (λ_=>ht)
theorem Cr{K:F9}(h:G n ds F K σ H):G n ds F (Exit.then K Q .normal) σ H:=h
theorem IS{K:F9}(h:G n ds F (Q .ret) σ H):G n ds F (Exit.then K Q .ret) σ H:=h
theorem mF{K:F9}{id:Nat}(h:G n ds F (Q (.exit id)) σ H):G n ds F (Exit.then K Q (.exit id)) σ H:=h
theorem Zv{id:Nat}(h:G n ds F (Q .normal) σ H):G n ds F (Exit.inBlock id Q .normal) σ H:=h
theorem Ga{id:Nat}(h:G n ds F (Q .ret) σ H):G n ds F (Exit.inBlock id Q .ret) σ H:=h
theorem Gb{id:Nat}(h:G n ds F (Q .normal) σ H):G n ds F (Exit.inBlock id Q (.exit id)) σ H:= .mk λa w e s=>by
 simpa[Exit.inBlock]using h a w e s
theorem jf{id id':Nat}(fQ:Nat.beq id' id=false)(h:G n ds F (Q (.exit id')) σ H):G n ds F (Exit.inBlock id Q (.exit id')) σ H:= .mk λa w e s=>by
 have:id'≠id:=by intro q;subst q;simp at fQ
 simpa[Exit.inBlock,this]using h a w e s
theorem au{K:F9}{H':F8}(hh:∀h,ai H h->ai H' h)(h:G n ds F K σ H'):G n ds F K σ H:=
 .mk λa w e s=>h a w e (s.sub hh)
theorem iN{id:Nat}{l:List Oper}(h:G n ds F (wpList P l.toArray Q l) σ H):G n ds F ((Code.region id l.toArray false).wp P Q) σ H:=
 .mk λa w e s=>wp_region_lit (h a w e s)
theorem aD{ops:Array Oper}(h:G n ds F (Q .normal) σ H):G n ds F (wpList P ops Q []) σ H:=h
theorem yS{ops:Array Oper}{j t:Nat}{b:Bool}{a:Act}(hj:(ops[j]?).bind (·.dst)=some t)(ht:look σ t=some (.bool b))(e:Env n ds σ a):yielded ops a.tmps j=some b:=by
 simp[yielded,hj,e.slot t _ ht]
def aG (P:Program)(f:FuncId)(args:FJ)(pre:Hp->Prop)(H:F8)(R:Dp):Prop:=
 ∀F w,pre F.h->St F H w->Calls P f args.toArray w λe w'=>∃v H',e= .returned v/\R v H'/\St F H' w'
def jM:Nat->FJ->aP
 |_,[]=> []
 |k,v::r=>(k,v)::jM (k+1) r
theorem FW:∀(l:FJ) (k t:Nat) (v:Value),look (jM k l) t=some v->k<=t/\l[t-k]?=some v:=by
 intro l;induction l with
 |nil=>intro k t v h;simp[jM,look]at h
 |cons x r ih=>
  intro k t v h;simp only[jM,look]at h;cases hb:Nat.beq k t with
  |true=>rw[hb]at h;cases h;have:=Nat.eq_of_beq_eq_true hb;subst this;simp
  |false=>
   rw[hb]at h;obtain⟨h1,h2⟩:=ih _ _ _ h;refine⟨by omega, ?_⟩;rw[show t-k=(t-(k+1))+1 from by omega];simpa using h2
theorem DY (args:FJ)(n:Nat)(hn:args.length<=n):Env n [] (jM 0 args) {tmps:=args.toArray++Array.replicate (n-args.toArray.size) undef,defers:= []}:=by
 refine⟨by simp;omega,rfl,λt v h=> ?_⟩;obtain⟨_,h2⟩:=FW _ _ _ _ h;have cJ:t<args.length:=by
  rcases Nat.lt_or_ge t args.length with q|q
  ·exact q
  rw[List.getElem?_eq_none (show args.length<=t-0 from by omega)]at h2;cases h2
 simp only[Nat.sub_zero]at h2;rw[Array.getElem?_append_left (by simpa using cJ)];simpa using h2
theorem af{f:FuncId}{fn:Func}{c:Code}{args:FJ}{pre:Hp->Prop}{R:Dp}{m:Nat}(hf:P.funcs[f]?=some fn)(hb:fn.body=some c)(hm:fn.ntmps=m)(hn:Nat.ble args.length m=true)
  (h:∀F:dG,pre F.h->G m [] F (c.wp P (bodyPost P fn λe w'=>∃v H',e= .returned v/\R v H'/\St F H' w')) (jM 0 args) H):aG P f args pre H R:=
 λF w hp s=>calls_of_wp hf hb (by
  subst hm;exact h F hp _ _ (DY args _ (Nat.le_of_ble_eq_true hn)) s)
theorem ajp{fn:Func}{R:Dp}{t:Nat}{v:Value}{H':F8}(hr:fn.results= #[.tmp t])(hv:look σ t=some v)(hR:R v H')(hh:∀h,ai H h->ai H' h):
  G n [] F (bodyPost P fn (λe w'=>∃v H',e= .returned v/\R v H'/\St F H' w') .ret) σ H:=
 .mk λa w e s=>⟨e.defers,v,by rw[results_tmp hr,show a.tmps.getD t undef=v from by simp[e.slot t v hv]],v,H',rfl,hR,s.sub hh⟩
theorem afn{fn:Func}{R:Dp}{H':F8}(hr:fn.results= #[])(hR:R (.tuple #[]) H')(hh:∀h,ai H h->ai H' h):
  G n [] F (bodyPost P fn (λe w'=>∃v H',e= .returned v/\R v H'/\St F H' w') .ret) σ H:=
 .mk λa w e s=>⟨e.defers,_,results_none hr _ _ _,_,H',rfl,hR,s.sub hh⟩
theorem afo{fn:Func}{R:Dp}{H':F8}(hr:fn.results= #[])(hR:R (.tuple #[]) H')(hh:∀h,ai H h->ai H' h):
  G n [] F (bodyPost P fn (λe w'=>∃v H',e= .returned v/\R v H'/\St F H' w') .normal) σ H:=
 .mk λa w e s=>⟨e.defers,_,results_none hr _ _ _,_,H',rfl,hR,s.sub hh⟩
theorem afm{fn:Func}{R:Dp}{t u:Nat}{v x:Value}{H':F8}(hr:fn.results= #[.tmp t, .tmp u])(hv:look σ t=some v)(hx:look σ u=some x)(hR:R (.tuple #[v,x]) H')
  (hh:∀h,ai H h->ai H' h):G n [] F (bodyPost P fn (λe w'=>∃v H',e= .returned v/\R v H'/\St F H' w') .ret) σ H:=
 .mk λa w e s=>⟨e.defers,_,by rw[results_tmp2 hr,show a.tmps.getD t undef=v from by simp[e.slot t v hv],show a.tmps.getD u undef=x from by simp[e.slot u x hx]],_,H',rfl,hR,s.sub hh⟩
end rules
end Go.dC
namespace Go.dC
open Go
inductive iA:F8->F8->F8->Prop
 |nil {X:F8}:iA X [] X
 |cons {X:F8} {A:aa} {As R R':F8} (s:fP X A R) (t:iA R As R'):iA X (A::As) R'
theorem iA.out{H As R:F8}(s:iA H As R):∀h,ai H h->ai (As++R) h:=by
 induction s with
 |nil=>exact λh x=>x
 |cons s _ ih=>exact λh x=>aE ih (s.out h x)
def cY (P:Program)(t:TypeId):Bool:=
 match P.underlying t,P.info? t with
 |some (.struct _),_=>false
 |some (.array _ _),_=>false
 |some _,some i=>i.size==1
 |_,_=>false
def cP (P:Program)(t:TypeId):FK:=
 match P.underlying t with
 |some (.struct _)=>(P.info? t).map (·.size)
 |some (.array _ _)=>(P.info? t).map (·.size)
 |_=>none
def aq (P:Program)(s f:Nat):FK:=
 match P.underlying s with
 |some (.struct fs)=>match fs[f]? with
  |some f=>match P.info? f.type with
   |some i=>if i.size=0 then none else some f.offset
   |none=>none
  |none=>none
 |_=>none
def dV (P:Program)(t:TypeId):Option (TypeId×Nat):=
 match P.underlying t with
 |some (.slice e)=>match P.info? e with
  |some i=>some (e,i.size)
  |none=>none
 |_=>none
section
variable {P:Program} {w:World}
theorem qI{t:TypeId}(h:cY P t=true):(isAgg t).run P w= .ok false w/\(sizeOf t).run P w= .ok 1 w:=by
 unfold cY at h;cases hu:P.underlying t with
 |none=>simp[hu]at h
 |some d=>
  cases hi:P.info? t with
  |none=>simp[hu,hi]at h;cases d<;>simp at h
  |some i=>
   cases d<;>simp[hu,hi]at h<;>simp[isAgg,run_underlying hu,sizeOf,typeInfo,hi,h]
theorem fE{t:TypeId}{k:Nat}(h:cP P t=some k):(isAgg t).run P w= .ok true w/\(sizeOf t).run P w= .ok k w:=by
 unfold cP at h;cases hu:P.underlying t with
 |none=>simp[hu]at h
 |some d=>
  cases hi:P.info? t with
  |none=>cases d<;>simp[hu,hi]at h
  |some i=>cases d<;>simp[hu,hi]at h<;>simp[isAgg,run_underlying hu,sizeOf,typeInfo,hi,h]
theorem wi{s f k:Nat}(h:aq P s f=some k)(a:Addr):(Instr.fieldAt s (.pointer (some a)) f).run P w= .ok (.pointer (some (a.add k))) w:=by
 unfold aq at h;cases hu:P.underlying s with
 |none=>simp[hu]at h
 |some d=>
  cases d<;>simp[hu]at h;rename_i fs;cases hf:fs[f]? with
  |none=>simp[hf]at h
  |some fd=>
   simp only[hf]at h;cases hi:P.info? fd.type with
   |none=>simp[hi]at h
   |some i=>
    simp only[hi]at h;by_cases h0:i.size=0
    ·simp[h0]at h
    simp only[h0,if_false,Option.some.injEq]at h;simp[Instr.fieldAt,run_underlying hu,hf,Instr.sureAddr,fieldPlace,sizeOf,typeInfo,hi,h0,h]
theorem kD{t e k:Nat}(h:dV P t=some (e,k)):P.underlying t=some (.slice e)/\∃i,P.info? e=some i/\i.size=k:=by
 unfold dV at h;cases hu:P.underlying t with
 |none=>simp[hu]at h
 |some d=>
  cases d<;>simp[hu]at h;rename_i e';cases hi:P.info? e' with
  |none=>simp[hi]at h
  |some i=>simp[hi]at h;obtain⟨rfl,rfl⟩:=h;exact⟨rfl,i,hi,rfl⟩
theorem add_lit (b i k:Nat):(⟨b,i,none⟩:Addr).add k=⟨b,i+k,none⟩:=by unfold Addr.add;split<;>simp_all
theorem add_add (a:Addr)(l k:Nat):(a.add l).add k=a.add (l+k):=by
 obtain⟨b,o,s⟩:=a;unfold Addr.add;by_cases hl:l=0
 ·subst hl;simp
 by_cases hk:k=0
 ·subst hk;simp
 simp[hl,hk,show l+k≠0 from by omega,Nat.add_assoc]
theorem add_zero' (a:Addr):a.add 0=a:=by simp[Addr.add]
end
section rules
variable {P:Program} {n:Nat} {ds:Dq} {F:dG} {Q:Exit->F9} {K:F9} {σ:aP} {H:F8} {o:Oper} {d:Nat}
theorem rY{v:Value}(hd:o.dst=some d)(hdn:Nat.blt d n=true)(hr:∀a w,Env n ds σ a->St F H w->(execOp a.eval o).run P w= .ok (.value v) w)
  (h:G n ds F K ((d,v)::σ) H):G n ds F (λa w=>o.wp P a w K Q) σ H:=by
 refine .mk λa w e s=> ?_;unfold Oper.wp;rw[hr a w e s,Oper.upon_value,hd];exact h _ _ (e.put hdn v) s
def Yv (P:Program)(n:Nat)(ds:Dq)(F:dG)(σ:aP)(o:Oper)(v:Value):Prop:=
 ∀a w,Env n ds σ a->Le F.h (lr w)->(execOp a.eval o).run P w= .ok (.value v) w
theorem ahp{v:Value}(hy:Yv P n ds F σ o v)(hd:o.dst=some d)(hdn:Nat.blt d n=true)(h:G n ds F K ((d,v)::σ) H):G n ds F (λa w=>o.wp P a w K Q) σ H:=
 rY hd hdn (λa w e s=>hy a w e s.frame) h
theorem acO{x:Operand}{v:Value}(ho:o.op= .move x)(hx:bo σ x=some v):Yv P n ds F σ o (v):=
 λa w e fr=>by simp[execOp,ho,e.eval hx]
theorem Td{x:Operand}{v:Value}(ho:o.op= .assign x)(hx:bo σ x=some v):Yv P n ds F σ o (v):=
 λa w e fr=>by simp[execOp,ho,e.eval hx]
theorem S7{c x y:Operand}{b:Bool}{v:Value}(ho:o.op= .pick c x y)(hc:bo σ c=some (.bool b))(hb:b=true)(hx:bo σ x=some v):Yv P n ds F σ o (v):=
 λa w e fr=>by simp[execOp,ho,e.eval hc,e.eval hx,hb,asBool]
theorem S8{c x y:Operand}{b:Bool}{v:Value}(ho:o.op= .pick c x y)(hc:bo σ c=some (.bool b))(hb:b=false)(hx:bo σ y=some v):Yv P n ds F σ o (v):=
 λa w e fr=>by simp[execOp,ho,e.eval hc,e.eval hx,hb,asBool]
theorem HY{x:Operand}{ad:Addr}(ho:o.op= .nilCheck x)(hx:bo σ x=some (.pointer (some ad))):Yv P n ds F σ o (.pointer (some ad)):=
 λa w e fr=>by simp[execOp,ho,e.eval hx]
theorem oa{s f k b i:Nat}{x:Operand}(hk:aq P s f=some k)(ho:o.op= .fieldAddr s x f)(hx:bo σ x=some (.pointer (some ⟨b,i,none⟩))):Yv P n ds F σ o (.pointer (some ⟨b,i+k,none⟩)):=
 λa w e fr=>by simp[execOp,ho,e.eval hx,wi hk,add_lit]
theorem wK{s f k j:Nat}{x:Operand}{a:FL}(hk:aq P s f=some k)(ho:o.op= .fieldAddr s x f)(hx:bo σ x=some (.pointer (a.map (·.add j))))(hs:a.isSome=true):Yv P n ds F σ o (.pointer (a.map (·.add (j+k)))):=by
 obtain⟨ad,rfl⟩:=Option.isSome_iff_exists.1 hs;exact λa w e _=>by simp[execOp,ho,e.eval hx,wi hk,add_add]
theorem LM{x:Operand}{i:Nat}{vs:Array Value}{v:Value}(ho:o.op= .extract x i)(hx:bo σ x=some (.tuple vs))(hv:vs.toList[i]?=some v):Yv P n ds F σ o (v):=
 λa w e fr=>by
  have PM:vs[i]?=some v:=by simpa using hv
  simp[execOp,ho,e.eval hx,Instr.extract,PM]
theorem ah9{t:TypeId}{x:Operand}{b:Bool}(ho:o.op= .unOp .not t x)(hx:bo σ x=some (.bool b)):Yv P n ds F σ o (.bool (!b)):=
 λa w e fr=>by simp[execOp,ho,e.eval hx,Op.unary]
theorem aia{t:TypeId}{x:Operand}{k:IntKind}{i z:Int}(ho:o.op= .unOp .neg t x)(hx:bo σ x=some (.int k i))(hz:k.wrap (0-i)=z):Yv P n ds F σ o (.int k z):=
 λa w e fr=>by simp[execOp,ho,e.eval hx,Op.unary,Op.intArith,<-hz]
theorem wrap_i64{z:Int}(h: -9223372036854775808<=z/\z<=9223372036854775807):IntKind.i64.wrap z=z:=IntWalk.i64_in z h
theorem wrap_u64{z:Int}(h:0<=z/\z<=18446744073709551615):IntKind.u64.wrap z=z:=by
 unfold IntKind.wrap;simp only[IntKind.bits,IntKind.signed,Bool.false_and,Bool.false_eq_true,if_false];omega
theorem wrap_u32{z:Int}(h:0<=z/\z<=4294967295):IntKind.u32.wrap z=z:=by
 unfold IntKind.wrap;simp only[IntKind.bits,IntKind.signed,Bool.false_and,Bool.false_eq_true,if_false];omega
theorem wrap_u16{z:Int}(h:0<=z/\z<=65535):IntKind.u16.wrap z=z:=by
 unfold IntKind.wrap;simp only[IntKind.bits,IntKind.signed,Bool.false_and,Bool.false_eq_true,if_false];omega
theorem wrap_u8{z:Int}(h:0<=z/\z<=255):IntKind.u8.wrap z=z:=by
 unfold IntKind.wrap;simp only[IntKind.bits,IntKind.signed,Bool.false_and,Bool.false_eq_true,if_false];omega
theorem wrap_i32{z:Int}(h: -2147483648<=z/\z<=2147483647):IntKind.i32.wrap z=z:=IntWalk.i32_in z h
def gh (op:BinOp)(k:IntKind)(x y:Int):Option Int:=
 match op with
 | .add=>some (k.wrap (x+y))
 | .sub=>some (k.wrap (x-y))
 | .mul=>some (k.wrap (x*y))
 | .and=>some (k.wrap (BitVec.ofInt k.bits x&&&BitVec.ofInt k.bits y).toNat)
 | .or=>some (k.wrap (BitVec.ofInt k.bits x|||BitVec.ofInt k.bits y).toNat)
 | .xor=>some (k.wrap (BitVec.ofInt k.bits x^^^BitVec.ofInt k.bits y).toNat)
 | .andNot=>some (k.wrap (BitVec.ofInt k.bits x&&& ~~~BitVec.ofInt k.bits y).toNat)
 | .quo=>if y=0 then none else some (k.wrap (x.tdiv y))
 | .rem=>if y=0 then none else some (x.tmod y)
 |_=>none
def Jt (op:BinOp)(x y:Int):Option Bool:=
 match op with
 | .eql=>some (decide (x=y))
 | .neq=>some (!decide (x=y))
 | .lss=>some (decide (x<y))
 | .leq=>some (decide (x<=y))
 | .gtr=>some (decide (y<x))
 | .geq=>some (decide (y<=x))
 |_=>none
theorem Mp{op:BinOp}{t:TypeId}{k:IntKind}{x y z:Int}{w:World}(h:gh op k x y=some z):(binOp op t (.int k x) (.int k y)).run P w= .ok (.int k z) w:=by
 cases op<;>simp only[gh]at h<;>try (cases h;done)
 case add=>cases h;simp[binOp,Op.intArith]
 case sub=>cases h;simp[binOp,Op.intArith]
 case mul=>cases h;simp[binOp,Op.intArith]
 case and=>cases h;simp[binOp,Op.intBits]
 case or=>cases h;simp[binOp,Op.intBits]
 case xor=>cases h;simp[binOp,Op.intBits]
 case andNot=>cases h;simp[binOp,Op.intBits]
 all_goals
  split at h
  ·cases h
  rename_i hy;cases h;simp[binOp,Op.intDiv,hy]
theorem Mq{op:BinOp}{t:TypeId}{k:IntKind}{x y:Int}{b:Bool}{w:World}(h:Jt op x y=some b):(binOp op t (.int k x) (.int k y)).run P w= .ok (.bool b) w:=by
 cases op<;>simp only[Jt]at h<;>(cases h;try simp[binOp,Op.intCmp])
 all_goals (first|rfl|(rw[Bool.eq_iff_iff];simp;done)|skip)
theorem kR{op:BinOp}{t:TypeId}{x y:Operand}{k k':IntKind}{i j:Int}{w:World}:(eqGuard op t x y (.int k i) (.int k' j)).run P w= .ok () w:=by
 unfold eqGuard;cases op<;>simp
theorem xQ{op:BinOp}{t yt:TypeId}{x y:Operand}{k:IntKind}{i j z:Int}(ho:o.op= .binOp op t x y yt)(hx:bo σ x=some (.int k i))(hy:bo σ y=some (.int k j))(hz:gh op k i j=some z):Yv P n ds F σ o (.int k z):=
 λa w e fr=>by simp[execOp,ho,e.eval hx,e.eval hy,kR,Mp hz]
theorem aie{op:BinOp}{t yt:TypeId}{x y:Operand}{k:IntKind}{i j:Int}{b:Bool}(ho:o.op= .binOp op t x y yt)(hx:bo σ x=some (.int k i))(hy:bo σ y=some (.int k j))(hz:Jt op i j=some b):Yv P n ds F σ o (.bool b):=
 λa w e fr=>by simp[execOp,ho,e.eval hx,e.eval hy,kR,Mq hz]
def W6 (op:BinOp)(k:IntKind)(x y:Int):Option Int:=
 if y<0 then none else
 match op with
 | .shl=>some (k.wrap (x*2^(min y.toNat k.bits)))
 | .shr=>some (x.fdiv (2^(min y.toNat k.bits)))
 |_=>none
theorem ahh{op:BinOp}{t yt:TypeId}{x y:Operand}{k k':IntKind}{i j z:Int}(ho:o.op= .binOp op t x y yt)(hx:bo σ x=some (.int k i))(hy:bo σ y=some (.int k' j))(hz:W6 op k i j=some z):Yv P n ds F σ o (.int k z):=by
 intro a w e _;unfold W6 at hz;by_cases hj:j<0
 ·simp[hj]at hz
 simp only[hj,if_false]at hz;cases op<;>simp at hz<;>subst hz<;>simp[execOp,ho,e.eval hx,e.eval hy,kR,binOp,Op.shift,hj]
theorem ah8{t yt:TypeId}{x y:Operand}{k k':IntKind}{i j z:Int}{s:Nat}(ho:o.op= .binOp .shl t x y yt)(hx:bo σ x=some (.int k i))(hy:bo σ y=some (.int k' j))(hj:j=(s:Int))(hz:k.wrap (i*2^(min s k.bits))=z):Yv P n ds F σ o (.int k z):=by
 subst hj;refine ahh ho hx hy ?_;simp only[W6,if_neg (show¬((s:Int)<0)from by omega),Int.toNat_natCast,hz]
theorem ah7{t yt:TypeId}{x y:Operand}{k k':IntKind}{i j z:Int}{s:Nat}(ho:o.op= .binOp .shr t x y yt)(hx:bo σ x=some (.int k i))(hy:bo σ y=some (.int k' j))(hj:j=(s:Int))(hz:i.fdiv (2^(min s k.bits))=z):Yv P n ds F σ o (.int k z):=by
 subst hj;refine ahh ho hx hy ?_;simp only[W6,if_neg (show¬((s:Int)<0)from by omega),Int.toNat_natCast,hz]
theorem acQ{s t:TypeId}{x:Operand}{k k':IntKind}{i z:Int}(ht:P.underlying t=some (.int k))(hs:(P.underlying s).isSome=true)(ho:o.op= .convert s t x)(hx:bo σ x=some (.int k' i))(hz:k.wrap i=z):Yv P n ds F σ o (.int k z):=by
 intro a w e _;obtain⟨sd,hsd⟩:=Option.isSome_iff_exists.1 hs;simp[execOp,ho,e.eval hx,convert,run_underlying ht,run_underlying hsd,Conv.intToInt,<-hz]
theorem uR{t:TypeId}{i j:Bool}{w:World}(ht:P.underlying t=some .bool):(binOp .eql t (.bool i) (.bool j)).run P w= .ok (.bool (i==j)) w:=run_eql_bool w t i j ht
theorem uQ{t:TypeId}{i j:Bool}{w:World}(ht:P.underlying t=some .bool):(binOp .neq t (.bool i) (.bool j)).run P w= .ok (.bool (!(i==j))) w:=by
 simp only[binOp,Sem.run_bind,run_equal_bool w t i j ht,Result.andThen_ok,Sem.run_pure]
theorem nK{op:BinOp}{t:TypeId}{x y:Operand}{i j:Bool}{w:World}:(eqGuard op t x y (.bool i) (.bool j)).run P w= .ok () w:=by
 unfold eqGuard;cases op<;>simp
theorem Tc{op:BinOp}{t yt:TypeId}{x y:Operand}{i j b:Bool}(ht:P.underlying t=some .bool)(ho:o.op= .binOp op t x y yt)(hx:bo σ x=some (.bool i))(hy:bo σ y=some (.bool j))
  (hop:(op= .eql/\b=(i==j))\/(op= .neq/\b= !(i==j))):Yv P n ds F σ o (.bool b):=by
 intro a w e _;rcases hop with⟨rfl,rfl⟩|⟨rfl,rfl⟩
 ·simp only[execOp,ho,e.eval hx,e.eval hy,Sem.run_bind,nK,uR ht,Result.andThen_ok,Sem.run_pure]
 simp only[execOp,ho,e.eval hx,e.eval hy,Sem.run_bind,nK,uQ ht,Result.andThen_ok,Sem.run_pure]
def a8 (l:FI):Value:= .string ⟨l.toArray⟩
theorem Xt{op:BinOp}{t yt:TypeId}{x y:Operand}{i j:FI}{b:Bool}(ho:o.op= .binOp op t x y yt)(hx:bo σ x=some (a8 i))(hy:bo σ y=some (a8 j))
  (hop:(op= .eql/\b=decide (i=j))\/(op= .neq/\b= !decide (i=j))):Yv P n ds F σ o (.bool b):=by
 intro a w e _;have hb:(i==j)=decide (i=j):=by rw[Bool.eq_iff_iff];simp
 unfold a8 at hx hy;rcases hop with⟨rfl,rfl⟩|⟨rfl,rfl⟩<;>simp[execOp,ho,e.eval hx,e.eval hy,eqGuard,binOp,Op.stringOp,hb]
theorem vi{ad:Addr}{v:Value}{t:TypeId}(hs:cY P t=true){w:World}(hc:w.cell? ad=some v):(Instr.loadAt t (.pointer (some ad))).run P w= .ok v w:=by
 simp[Instr.loadAt,Instr.sureAddr,loadVar,(qI hs).1,hc]
theorem Jy{t:TypeId}{x:Operand}{ad:Addr}{v:Value}(hs:cY P t=true)(ho:o.op= .load t x)(hx:bo σ x=some (.pointer (some ad)))(hv:eJ F.h ad=some v):Yv P n ds F σ o (v):=
 λa w en fr=>by simp[execOp,ho,en.eval hx,vi hs (lW fr hv)]
theorem ET{t:TypeId}{x:Operand}{ad:Addr}{v:Value}(hs:cY P t=true)(ho:o.op= .load t x)(hd:o.dst=some d)(hx:bo σ x=some (.pointer (some ad)))(hv:∀w,St F H w->eJ (lr w) ad=some v)(hdn:Nat.blt d n=true)
  (h:G n ds F K ((d,v)::σ) H):G n ds F (λa w=>o.wp P a w K Q) σ H:=
 rY hd hdn (λa w en s=>by simp[execOp,ho,en.eval hx,vi hs (show w.cell? ad=some v from hv w s)]) h
theorem UG{b i k:Nat}{vs:FJ}{t:TypeId}(hs:cP P t=some k){w:World}(hk:vs.length=k)(hc:∀j v,vs[j]?=some v->w.cell? ((⟨b,i,none⟩:Addr).add j)=some v):
  (Instr.loadAt t (.pointer (some ⟨b,i,none⟩))).run P w= .ok (.agg vs.toArray) w:=by
 subst hk;simp[Instr.loadAt,Instr.sureAddr,loadVar,(fE hs).1,(fE hs).2,run_loadCells_list w _ vs hc]
theorem yZ{ad:Addr}{v u:Value}{t:TypeId}(hs:cY P t=true){w:World}(hc:w.cell? ad=some u)(hf:w.frozen? ad=false)(h1:v.oneCell'=true):(Instr.storeAt t (.pointer (some ad)) v).run P w= .ok () (w.setCell ad v):=by
 have x9:v.cells= #[v]:=by cases v<;>simp[Value.oneCell']at h1<;>rfl
 simp[Instr.storeAt,Instr.sureAddr,storeVar,(qI hs).2,x9,storeCells,add_zero',run_store P w ad v .plain h1,hc,hf]
theorem ES{t:TypeId}{x y:Operand}{b i:Nat}{e:TypeId}{cs:FJ}{f:aa->F8}{v:Value}(hs:cY P t=true)(ho:o.op= .store t x y)(hd:o.dst=none)(hx:bo σ x=some (.pointer (some ⟨b,i,none⟩)))(hy:bo σ y=some v)
  (h1:v.oneCell'=true) (hu:Pos H (ag b e cs) f) (hi:i<cs.length) (h:G n ds F K σ (f (ag b e (cs.set i v)))):G n ds F (λa w=>o.wp P a w K Q) σ H:=by
 refine .mk λa w en s=> ?_;obtain⟨R,s1,s2⟩:=hu.uv;have sR:=s.uv s1;obtain⟨hh,hp,hl⟩:=sR.get;have eJ:=lW hl (fx hp (List.getElem?_eq_getElem hi));have fA:=yZ (P:=P) hs eJ (tP hp hi hl) h1;unfold Oper.wp;have:(execOp a.eval o).run P w= .ok .skip (w.setCell ⟨b,i,none⟩ v):=by simp[execOp,ho,en.eval hx,en.eval hy,fA]
 rw[this,Oper.upon_skip,hd];exact h _ _ en ((sR.setCell v).pJ (s2 _))
def cL:FJ->Nat->FJ->FJ
 |cs,_,[]=>cs
 |cs,i,v::vs=>cL (cs.set i v) (i+1) vs
theorem v7:∀(vs cs:FJ) (i:Nat),(cL cs i vs).length=cs.length:=by
 intro vs;induction vs with
 |nil=>intro cs i;rfl
 |cons v vs ih=>intro cs i;simp[cL,ih]
theorem jY{b:Nat}{e:TypeId}{R:F8}:∀(vs:FJ) (i j:Nat) (cs:FJ) (w:World),St F (ag b e cs::R) w->i+j+vs.length<=cs.length->(∀v∈vs,v.oneCell'=true)->
  ∃w',(storeCells ⟨b,i,none⟩ vs j).run P w= .ok () w'/\St F (ag b e (cL cs (i+j) vs)::R) w':=by
 intro vs;induction vs with
 |nil=>intro i j cs w s _ _;exact⟨w,by simp[storeCells],s⟩
 |cons v vs ih=>
  intro i j cs w s hl h1;simp only[List.length_cons]at hl;obtain⟨hh,hp,hle⟩:=s.get;have cJ:i+j<cs.length:=by omega
  have eJ:=lW hle (fx hp (List.getElem?_eq_getElem cJ));have hf:=tP hp cJ hle;have h1v:=h1 v (by simp);obtain⟨w',hr,s'⟩:=ih i (j+1) (cs.set (i+j) v) _ (s.setCell (i:=i+j) v) (by simp;omega) (λu hu=>h1 u (by simp[hu]));refine⟨w', ?_, ?_⟩
  ·simp[storeCells,add_lit,run_store P w _ v .plain h1v,eJ,hf,hr]
  simpa[cL,Nat.add_assoc]using s'
theorem vf{t k:TypeId}{x y:Operand}{b i:Nat}{e:TypeId}{cs vs:FJ}{f:aa->F8}(hs:cP P t=some k)(ho:o.op= .store t x y)(hd:o.dst=none)(hx:bo σ x=some (.pointer (some ⟨b,i,none⟩)))(hy:bo σ y=some (.agg vs.toArray))
  (hk:vs.length=k) (h1:∀v∈vs,v.oneCell'=true) (hu:Pos H (ag b e cs) f) (hi:i+vs.length<=cs.length) (h:G n ds F K σ (f (ag b e (cL cs i vs)))):G n ds F (λa w=>o.wp P a w K Q) σ H:=by
 refine .mk λa w en s=> ?_;obtain⟨R,s1,s2⟩:=hu.uv;obtain⟨w',hr,s'⟩:=jY (P:=P) vs i 0 cs w (s.uv s1) (by omega) h1;unfold Oper.wp;have:(execOp a.eval o).run P w= .ok .skip w':=by
  simp[execOp,ho,en.eval hx,en.eval hy,Instr.storeAt,Instr.sureAddr,storeVar,(fE hs).2,Value.cells,hk,hr]
 rw[this,Oper.upon_skip,hd];exact h _ _ en (s'.pJ (s2 _))
theorem adL{t:TypeId}{x:Operand}{v:Value}{cs:FJ}(ho:o.op= .box t x)(hd:o.dst=some d)(hx:bo σ x=some v)(hc:v.cells=cs.toArray)(hdn:Nat.blt d n=true)
  (h:∀b,G n ds F K ((d, .pointer (some ⟨b,0,none⟩))::σ) (ag b t cs::H)):G n ds F (λa w=>o.wp P a w K Q) σ H:=by
 refine .mk λa w en s=> ?_;unfold Oper.wp;have:(execOp a.eval o).run P w= .ok (.value (.pointer (some ⟨w.heap.size,0,none⟩))) (w.alloc (.cells cs.toArray t)):=by
  simp[execOp,ho,en.eval hx,Instr.box,newVar,newRow,hc]
 rw[this,Oper.upon_value,hd];exact h _ _ _ (en.put hdn _) (s.new t cs)
def bS (P:Program)(t:TypeId):Option FJ:=(P.info? t).bind λi=>i.zero.map λz=>z.cells.toList
theorem qq{t:TypeId}{cs:FJ}(h:bS P t=some cs){w:World}:∃z,(zeroValue t).run P w= .ok z w/\z.cells=cs.toArray:=by
 unfold bS at h;cases hi:P.info? t with
 |none=>simp[hi]at h
 |some i=>
  cases hz:i.zero with
  |none=>simp[hi,hz]at h
  |some z=>
   simp[hi,hz]at h;exact⟨z,by simp[zeroValue,typeInfo,hi,hz],by rw[<-h]⟩
theorem Un{t:TypeId}{cs:FJ}(hz:bS P t=some cs)(ho:o.op= .alloc t)(hd:o.dst=some d)(hdn:Nat.blt d n=true)
  (h:∀b,G n ds F K ((d, .pointer (some ⟨b,0,none⟩))::σ) (ag b t cs::H)):G n ds F (λa w=>o.wp P a w K Q) σ H:=by
 refine .mk λa w en s=> ?_;obtain⟨z,hr,hc⟩:=qq (P:=P) hz (w:=w);unfold Oper.wp;have:(execOp a.eval o).run P w= .ok (.value (.pointer (some ⟨w.heap.size,0,none⟩))) (w.alloc (.cells cs.toArray t)):=by
  simp[execOp,ho,Instr.alloc,newVar,newRow,hr,hc]
 rw[this,Oper.upon_value,hd];exact h _ _ _ (en.put hdn _) (s.new t cs)
def gG:F8->Hp->Prop
 | [],_=>True
 |A::r,h=>(∃k,A k/\Le k h)/\gG r h
theorem cj:∀{H:F8} {h k:Hp},ai H h->Le h k->gG H k:=by
 intro H;induction H with
 |nil=>intro h k _ _;trivial
 |cons A r ih=>intro h k s l;obtain⟨h1,h2,_,l1,l2,a,s⟩:=s;exact⟨⟨h1,a,l1.trans l⟩,ih s (l2.trans l)⟩
theorem bh:∀{A B:F8} {h:Hp},ai (A++B) h->∃h1 h2,bG h1 h2/\Le h1 h/\Le h2 h/\ai A h1/\ai B h2:=by
 intro A;induction A with
 |nil=>intro B h s;exact⟨λ_=>none,h,λ_=> .inl rfl,λb o e=>by simp at e,Le.refl h,trivial,s⟩
 |cons X r ih=>
  intro B h s;obtain⟨h1,h2,d,l1,l2,a,s⟩:=s;obtain⟨h3,h4,d',l3,l4,s3,s4⟩:=ih s;exact⟨fF h1 h3,h4,bG.fF (d.right l4) d',bQ l1 (l3.trans l2),l4.trans l2,⟨h1,h3,d.right l3,aR _ _,aJ (d.right l3),a,s3⟩,s4⟩
theorem bz:∀{A B:F8} {h1 h2:Hp},ai A h1->ai B h2->bG h1 h2->ai (A++B) (fF h1 h2):=by
 intro A;induction A with
 |nil=>intro B h1 h2 _ s d;exact eU s (aJ d)
 |cons X r ih=>
  intro B h1 h2 s t d;obtain⟨h3,h4,d',l3,l4,a,s⟩:=s;refine⟨h3,fF h4 h2,(bG.fF d'.symm (d.left l3).symm).symm,l3.trans (aR _ _),bQ (l4.trans (aR _ _)) (aJ d),a,ih s t (d.left l4)⟩
theorem EJ{ρ:Operand->Value}{f:FuncId}{xs:List Operand}{vs:FJ}{q8:Array TypeId}{w:World}{fn:Func}(ho:o.op= .call {callee:= .value (.func f),args:=xs.toArray,argTypes:=q8})
  (hρ:ρ (.func f)= .func (.func f) #[] #[]) (hv:xs.map ρ=vs) (hf:P.funcs[f]?=some fn) (hb:fn.body.isSome=true) (hnm:(fn.name== "runtime.NumGoroutine")=false):
  (execOp ρ o).run P w= .ok (.enter f vs.toArray) w:=by
 have aiS:fn.body.isNone=false:=by rw[<-Option.not_isSome,hb];rfl
 have ab9:¬fn.name= "runtime.NumGoroutine" :=by simpa using hnm
 have hb':¬fn.body=none:=by intro q;rw[q]at hb;cases hb
 simp[execOp,ho,resolve,hρ,Deferred.ofValue,invoke,callFunc,hf,<-hv];rw[if_neg ab9,if_neg hb']
def ay (P:Program)(f:FuncId):Bool:=match P.funcs[f]? with|some fn=>fn.body.isSome&& !(fn.name== "runtime.NumGoroutine")|none=>false
theorem Yy{f:FuncId}{xs:List Operand}{vs:FJ}{q8:Array TypeId}{pre:Hp->Prop}{As R:F8}{T:Dp}(kH:ay P f=true)(ho:o.op= .call {callee:= .value (.func f),args:=xs.toArray,argTypes:=q8})
  (hd:o.dst=some d) (hv:jL σ xs=some vs) (hc:aG P f vs pre As T) (c9:iA H As R) (gX:∀h,Le F.h h->gG R h->pre h) (hdn:Nat.blt d n=true)
  (h:∀v H',T v H'->G n ds F K ((d,v)::σ) (H'++R)):G n ds F (λa w=>o.wp P a w K Q) σ H:=by
 refine .mk λa w en s=> ?_;unfold ay at kH;cases hf:P.funcs[f]? with
 |none=>simp[hf]at kH
 |some fn=>
  simp only[hf,Bool.and_eq_true,Bool.not_eq_true']at kH;unfold Oper.wp;rw[EJ ho rfl (en.vP hv) hf kH.1 kH.2,Oper.upon_enter];obtain⟨a1,a2,a3,fr,hh,st,hl,rr⟩:=s;obtain⟨h1,h2,d12,l1,l2,s1,s2⟩:=bh (c9.out _ st);have vE:bG h2 F.h:=rr.left l2
  let F':dG:={F with h:=fF h2 F.h}
  have gY:Le F.h F'.h:=aJ vE;have gZ:Le h2 F'.h:=aR _ _;have xu:St F' As w:=⟨a1,a2,a3,bQ (l2.trans hl) fr,h1,s1,l1.trans hl,(bG.fF d12.symm (rr.left l1).symm).symm⟩;refine(hc F' w (gX _ gY (cj s2 gZ)) xu).mono ?_;rintro e w' ⟨v,H',rfl,hT,sw⟩;obtain⟨b1,b2,b3,ru,zL,st2,zJ,ke⟩:=sw;rw[hd];refine h v H' hT _ _ (en.put hdn v) ⟨b1,b2,b3,gY.trans ru,fF zL h2,bz st2 s2 (ke.right gZ),bQ zJ (gZ.trans ru),bG.fF (ke.right gY) vE⟩
end rules
end Go.dC
namespace Go.dC
open Go
def gF (h:Hp)(a:FL)(cells:FJ):Prop:=∀k v,cells[k]?=some v->∃ad,a=some ad/\eJ h (ad.add k)=some v
theorem gF.nil{h:Hp}{a:FL}:gF h a []:=λk v e=>by simp at e
theorem gF.mono{h k:Hp}{a:FL}{cells:FJ}(r:gF h a cells)(l:Le h k):gF k a cells:=λj v e=>by
 obtain⟨ad,h1,h2⟩:=r j v e;exact⟨ad,h1,cU l h2⟩
theorem gF.some{h:Hp}{a:FL}{cells:FJ}(r:gF h a cells)(fQ:0<cells.length):a.isSome=true:=by
 obtain⟨ad,h1,_⟩:=r 0 _ (List.getElem?_eq_getElem fQ);simp[h1]
theorem gF.take{h:Hp}{a:FL}{cells:FJ}(r:gF h a cells)(k:Nat):gF h a (cells.take k):=λj v e=>by
 rw[List.getElem?_take]at e;split at e
 ·exact r j v e
 cases e
def BJ (a:FL)(l m k:Nat):FL:=if m=l then a else a.map (·.add k)
structure own (a:FL)(cap:Nat)(e:TypeId)(sz:Nat)(xs:FJ)(h:Hp):Prop where
 fits:xs.length<=cap*sz
 most:cap<=maxLen
 block:(a=none/\cap=0)\/∃b spare,a=some ⟨b,0,none⟩/\xs.length+spare.length=cap*sz/\ag b e (xs++spare) h
theorem qB{b i:Nat}{e:TypeId}{cs:FJ}{h:Hp}(p:ag b e cs h):gF h (some ⟨b,i,none⟩) (cs.drop i):=λk v hv=>by
 rw[List.getElem?_drop]at hv;exact⟨_,rfl,by rw[add_lit];exact fx p hv⟩
theorem oo{a:FL}{cap:Nat}{e:TypeId}{sz:Nat}{xs:FJ}{h:Hp}(o:own a cap e sz xs h):gF h a xs:=by
 obtain⟨h1,_,h3|⟨b,sp,rfl,_,h5⟩⟩:=o
 ·obtain⟨rfl,rfl⟩:=h3
  have:xs= []:=List.eq_nil_of_length_eq_zero (by omega);subst this;exact gF.nil
 intro k v hv;refine⟨_,rfl, ?_⟩;rw[add_lit,Nat.zero_add];exact fx h5 (by rw[List.getElem?_append_left (by have:=(List.getElem?_eq_some_iff.1 hv).1;exact this)];exact hv)
theorem CP (e:TypeId)(sz:Nat)(h:Hp):own none 0 e sz [] h:=⟨by simp,by simp[maxLen], .inl ⟨rfl,rfl⟩⟩
theorem oI{b:Nat}{e:TypeId}{cs:FJ}{h:Hp}(p:ag b e cs h)(cap sz:Nat)(hc:cs.length=cap*sz)(hm:cap<=maxLen):own (some ⟨b,0,none⟩) cap e sz cs h:=
 ⟨by omega,hm, .inr ⟨b,[],rfl,by simpa using hc,by simpa using p⟩⟩
theorem yE{a:FL}{cap:Nat}{e:TypeId}{sz:Nat}{xs:FJ}{h:Hp}(o:own a cap e sz xs h)(k:Nat):own a cap e sz (xs.take k) h:=by
 obtain⟨h1,h2,h3|⟨b,sp,rfl,h4,h5⟩⟩:=o
 ·exact⟨by simp;omega,h2, .inl h3⟩
 refine⟨by simp;omega,h2, .inr ⟨b,xs.drop k++sp,rfl,by simp;omega, ?_⟩⟩;rw[<-List.append_assoc,List.take_append_drop];exact h5
theorem rH{H:F8}(e:TypeId)(sz:Nat){h:Hp}(s:ai H h):ai (own none 0 e sz []::H) h:=
 ⟨λ_=>none,h,λ_=> .inl rfl,λb o x=>by simp at x,Le.refl h,CP e sz _,s⟩
theorem gm{H:F8}{A:aa}(hA:∀h,A h){h:Hp}(s:ai H h):ai (A::H) h:=
 ⟨λ_=>none,h,λ_=> .inl rfl,λb o x=>by simp at x,Le.refl h,hA _,s⟩
section rules
variable {P:Program} {n:Nat} {ds:Dq} {F:dG} {Q:Exit->F9} {K:F9} {σ:aP} {H:F8} {o:Oper} {d:Nat}
theorem eT (e:TypeId)(sz:Nat)(h:G n ds F K σ (own none 0 e sz []::H)):G n ds F K σ H:=au (λ_ s=>rH e sz s) h
theorem aid{t:TypeId}{x:Operand}{a:FL}{l c:Nat}{ek:TypeId×Nat}(ht:dV P t=some ek)(ho:o.op= .call {callee:= .builtin .len,args:= #[x],argTypes:= #[t]})(hx:bo σ x=some (.slice a l c)):Yv P n ds F σ o (.int .i64 l):=
 λa w e fr=>by
  obtain⟨e',k⟩:=ek;simp[execOp,ho,resolve,invoke,builtin,Builtin.len_,e.eval hx,run_underlying (kD ht).1,goInt]
theorem acP{t:TypeId}{x:Operand}{l:FI}(ht:P.underlying t=some .string)(ho:o.op= .call {callee:= .builtin .len,args:= #[x],argTypes:= #[t]})(hx:bo σ x=some (a8 l)):Yv P n ds F σ o (.int .i64 l.length):=
 λa w e fr=>by
  unfold a8 at hx;have wO:(ByteArray.mk l.toArray).size=l.length:=by show l.toArray.size=l.length;simp
  simp[execOp,ho,resolve,invoke,builtin,Builtin.len_,e.eval hx,run_underlying ht,goInt,wO]
theorem aib{x y:Operand}{k:IntKind}{i j:Int}{q8:Array TypeId}(ho:o.op= .call {callee:= .builtin .min,args:= #[x,y],argTypes:=q8})(hx:bo σ x=some (.int k i))(hy:bo σ y=some (.int k j)):Yv P n ds F σ o (.int k (min i j)):=
 λa w e fr=>by
  have:(if j<i then j else i)=min i j:=by omega
  simp[execOp,ho,resolve,invoke,builtin,Builtin.min_,Builtin.min2,e.eval hx,e.eval hy,this]
theorem aic{x y:Operand}{k:IntKind}{i j:Int}{q8:Array TypeId}(ho:o.op= .call {callee:= .builtin .max,args:= #[x,y],argTypes:=q8})(hx:bo σ x=some (.int k i))(hy:bo σ y=some (.int k j)):Yv P n ds F σ o (.int k (max i j)):=
 λa w e fr=>by
  have:(if j>i then j else i)=max i j:=by omega
  simp[execOp,ho,resolve,invoke,builtin,Builtin.max_,Builtin.max2,e.eval hx,e.eval hy,this]
theorem Jz{t e sz m:Nat}{x y:Operand}{a:FL}{l c j:Nat}{k:IntKind}{i:Int}(ht:dV P t=some (e,sz))(ho:o.op= .indexAddr t x y)(hx:bo σ x=some (.slice a l c))(hy:bo σ y=some (.int k i))
  (hj:i=(j:Int)) (hl:j<l) (hm:j*sz=m) (hs:a.isSome=true):Yv P n ds F σ o (.pointer (a.map (·.add m))):=
 λa w en fr=>by
  obtain⟨hu,inf,hi,hz⟩:=kD ht;obtain⟨ad,rfl⟩:=Option.isSome_iff_exists.1 hs;subst hj;subst hm;simp[execOp,ho,Instr.indexAt,en.eval hx,en.eval hy,asIntOf,run_underlying hu,sizeOf,typeInfo,hi,hz,hl]
def DM (σ:aP):Option Operand->Nat->Nat->Prop
 |none,dflt,v=>v=dflt
 |some x,_,v=>∃k i,bo σ x=some (.int k i)/\i=(v:Int)
theorem hU{x:Value}{y v:Nat}{code:BoundsCode}{k:IntKind}{i:Int}{w:World}(hx:x= .int k i)(hi:i=(v:Int))(hv:v<=y):(Instr.sliceBound x y code).run P w= .ok v w:=by
 subst hx;subst hi;simp[Instr.sliceBound,asIntOf,hv]
theorem y9{lo hi mx:Option Operand}{a:Act}{w:World}{len cap l h m:Nat}(en:Env n ds σ a)(hl:DM σ lo 0 l)(hh:DM σ hi len h)(hm:DM σ mx cap m)(h1:l<=h)(h2:h<=m)(h3:m<=cap)(hx:mx.isSome=true->hi.isSome=true)(b:Bool):
  (Instr.sliceBounds b len cap (lo.map a.eval) (hi.map a.eval) (mx.map a.eval)).run P w= .ok (l,h,m) w:=by
 unfold Instr.sliceBounds;cases mx with
 |none=>
  simp only[DM]at hm;subst hm;cases hi with
  |none=>
   simp only[DM]at hh;subst hh;cases lo with
   |none=>simp only[DM]at hl;subst hl;simp
   |some x=>obtain⟨k,i,e,e2⟩:=hl;simp[hU (en.eval e) e2 h1]
  |some y=>
   obtain⟨k',i',e',e2'⟩:=hh;cases lo with
   |none=>simp only[DM]at hl;subst hl;simp[hU (en.eval e') e2' h2]
   |some x=>obtain⟨k,i,e,e2⟩:=hl;simp[hU (en.eval e') e2' h2,hU (en.eval e) e2 h1]
 |some z=>
  obtain⟨k'',i'',e'',ahT⟩:=hm;cases hi with
  |none=>simp at hx
  |some y=>
   obtain⟨k',i',e',e2'⟩:=hh;cases lo with
   |none=>simp only[DM]at hl;subst hl;simp[hU (en.eval e'') ahT h3,hU (en.eval e') e2' h2]
   |some x=>obtain⟨k,i,e,e2⟩:=hl;simp[hU (en.eval e'') ahT h3,hU (en.eval e') e2' h2,hU (en.eval e) e2 h1]
theorem Xu{t e sz:TypeId}{x:Operand}{lo hi mx:Option Operand}{a:FL}{len cap:Nat}(l hh m:Nat)(ht:dV P t=some (e,sz))(ho:o.op= .slice t x lo hi mx)(hx:bo σ x=some (.slice a len cap))
  (WO:DM σ lo 0 l) (hbh:DM σ hi len hh) (hbm:DM σ mx cap m) (h1:l<=hh) (h2:hh<=m) (h3:m<=cap) (Gu:mx.isSome=true->hi.isSome=true):Yv P n ds F σ o (.slice (BJ a l m (l*sz)) (hh-l) (m-l)):=
 λac w en fr=>by
  obtain⟨hu,inf,xz,hz⟩:=kD ht;have hr:=y9 (P:=P) (w:=w) en WO hbh hbm h1 h2 h3 Gu true;simp[execOp,ho,Instr.sliceAt,Instr.slice,en.eval hx,run_underlying hu,hr,sizeOf,typeInfo,xz,hz,BJ]
def aj (l:FI):FJ:=l.map λc=> .int .u8 c.toNat
@[simp] theorem mK (l : FI) : (aj l).length = l.length := by simp [aj]
@[simp] theorem rI (a b : FI) : aj (a ++ b) = aj a ++ aj b := by simp [aj]
theorem eB{l:FI}:∀v∈aj l,v.oneCell'=true:=by
 intro v hv;simp only[aj,List.mem_map]at hv;obtain⟨c,_,rfl⟩:=hv;rfl
theorem uf{a:FL}{l:FI}{c:Nat}{w:World}(hr:gF (lr w) a (aj l)):(Conv.bytesToString (.slice a l.length c)).run P w= .ok (a8 l) w:=by
 cases a with
 |none=>
  have:l= []:=by
   cases l with
   |nil=>rfl
   |cons x r=>obtain⟨ad,h1,_⟩:=hr 0 (.int .u8 x.toNat) (by simp[aj]);cases h1
  subst this;simp[Conv.bytesToString,a8];rfl
 |some ad=>
  have x9:∀j v,(aj l)[j]?=some v->w.cell? (ad.add j)=some v:=λj v e=>by
   obtain⟨ad',h1,h2⟩:=hr j v e;cases h1;exact h2
  have aaM:=run_loadCells_list (P:=P) w ad (aj l) x9;rw[mK]at aaM;have h:=run_bytesToString (P:=P) w ad l.length c (l.map λx=>(x.toNat:Int)) (by rw[aaM];simp[aj]);rw[h];have key:∀(l:FI) (acc:ByteArray),(l.map λx=>(x.toNat:Int)).foldl (λr q=>r.push (UInt8.ofNat q.toNat)) acc=⟨acc.data++l.toArray⟩:=by
   intro l;induction l with
   |nil=>intro acc;simp
   |cons x r ih=>
    intro acc;simp only[List.map_cons,List.foldl_cons,ih];apply ByteArray.ext;apply Array.ext';simp[ByteArray.push]
  rw[key];simp[a8]
theorem HX{s t:TypeId}{x:Operand}{a:FL}{l:FI}{m c sz:Nat}{e:TypeId}(hs:dV P s=some (e,sz))(he:P.underlying e=some (.int .u8))(ht:P.underlying t=some .string)(ho:o.op= .convert s t x)
  (hx:bo σ x=some (.slice a m c)) (hm:m=l.length) (hr:gF F.h a (aj l)):Yv P n ds F σ o (a8 l):=λac w en fr=>by
 subst hm;have hr':=uf (P:=P) (c:=c) (hr.mono fr);have:=run_underlying (P:=P) (kD hs).1 w;cases a with
 |none=>simp[execOp,ho,en.eval hx,convert,this,run_underlying ht,run_underlying he,hr']
 |some ad=>simp[execOp,ho,en.eval hx,convert,this,run_underlying ht,run_underlying he,hr']
theorem Xv{s t:TypeId}{x:Operand}{l:FI}(hs:P.underlying s=some .string)(ht:P.underlying t=some .string)(ho:o.op= .convert s t x)(hx:bo σ x=some (a8 l)):Yv P n ds F σ o (a8 l):=λac w en fr=>by
 unfold a8 at hx⊢;simp[execOp,ho,en.eval hx,convert,run_underlying hs,run_underlying ht]
theorem MC{t:TypeId}{x y:Operand}{a:FL}{k cap e sz:Nat}{cells:FJ}{f:aa->F8}{v:Value}(hs:cY P t=true)(ho:o.op= .store t x y)(hd:o.dst=none)(hx:bo σ x=some (.pointer (a.map (·.add k))))(hy:bo σ y=some v)
  (h1:v.oneCell'=true) (hu:Pos H (own a cap e sz cells) f) (hk:k<cells.length) (h:G n ds F K σ (f (own a cap e sz (cells.set k v)))):G n ds F (λa w=>o.wp P a w K Q) σ H:=by
 refine .mk λac w en s=> ?_;obtain⟨R,s1,s2⟩:=hu.uv;have sR:=s.uv s1;obtain⟨hh,⟨q1,q2,q3⟩,hl⟩:=sR.get;rcases q3 with q3|⟨b,sp,rfl,q4,q5⟩
 ·obtain⟨rfl,rfl⟩:=q3;omega
 have eJ:=lW hl (fx q5 (List.getElem?_eq_getElem (show k<(cells++sp).length from by simp;omega)));have fA:=yZ (P:=P) hs eJ (tP q5 (show k<(cells++sp).length from by simp;omega) hl) h1;have hpt:St F (ag b e (cells++sp)::R) w:=by
  obtain⟨a1,a2,a3,fr,h,⟨xB,h2',dd,l1,l2,jb,st⟩,y,zz⟩:=sR;obtain⟨_,_,q3'|⟨b',sp',e',q4',q6⟩⟩:=jb
  ·exact absurd q3'.1 (by simp)
  simp only[Option.some.injEq,Addr.mk.injEq,and_true]at e';subst e';have h6:=l1.trans y;obtain⟨lo,xz,hf,j5⟩:=q6;have hw1:=h6 _ _ j5;obtain⟨lo2,xy,PR,uB⟩:=q5;have WE:=hl _ _ uB;rw[hw1]at WE;simp only[Option.some.injEq,Obj.cells.injEq]at WE;have Gj:sp'=sp:=by simpa using WE.1
  subst Gj;exact⟨a1,a2,a3,fr,h,⟨xB,h2',dd,l1,l2,⟨lo,xz,hf,j5⟩,st⟩,y,zz⟩
 have zT:(execOp ac.eval o).run P w= .ok .skip (w.setCell ⟨b,k,none⟩ v):=by
  have hadd:(⟨b,0,none⟩:Addr).add k=⟨b,k,none⟩:=by rw[add_lit,Nat.zero_add]
  have Z2:=en.eval hx;simp only[Option.map_some,hadd]at Z2;simp[execOp,ho,Z2,en.eval hy,fA]
 unfold Oper.wp;rw[zT,Oper.upon_skip,hd];refine h _ _ en (St.pJ (s2 _) ((hpt.setCell v).sub λh' s'=>aZ (λh'' p=>⟨by simpa using q1,q2, .inr ⟨b,sp,rfl,by simpa using q4, ?_⟩⟩) s'));rw[List.set_append_left _ _ hk]at p;exact p
def Gm (l:FI)(i:Nat):Nat:=(l.getD i 0).toNat
theorem afC (l:FI)(i:Nat):Gm l i<256:=(l.getD i 0).toNat_lt
theorem OP{l:FI}{i:Nat}(h:i<l.length):(aj l)[i]?=some (.int .u8 (Gm l i:Int)):=by
 simp[aj,Gm,h]
theorem gF.Q1{h:Hp}{a:FL}{l:FI}(r:gF h a (aj l))(hl:0<l.length):a.isSome=true:=r.some (by simpa using hl)
end rules
end Go.dC
namespace Go.dC
open Go
def uF (P:Program)(t:TypeId):Option (TypeId×Nat×Nat×FJ):=
 match P.underlying t with
 |some (.slice e)=>match P.info? e with
  |some i=>match i.zero with
   |some z=>if z.cells.size=i.size&&0<i.size then some (e,i.size,i.bytes,z.cells.toList)else none
   |none=>none
  |none=>none
 |_=>none
theorem ny{P:Program}{t e sz mQ:Nat}{z:FJ}(h:uF P t=some (e,sz,mQ,z)):
  P.underlying t=some (.slice e)/\0<sz/\z.length=sz/\∃i zv,P.info? e=some i/\i.size=sz/\i.bytes=mQ/\i.zero=some zv/\zv.cells=z.toArray:=by
 unfold uF at h;cases hu:P.underlying t with
 |none=>simp[hu]at h
 |some d=>
  cases d<;>simp[hu]at h;rename_i e';cases hi:P.info? e' with
  |none=>simp[hi]at h
  |some i=>
   simp only[hi]at h;cases hz:i.zero with
   |none=>simp[hz]at h
   |some zv=>
    simp only[hz]at h;split at h
    ·rename_i hc
     simp only[Bool.and_eq_true,decide_eq_true_eq,Option.some.injEq,Prod.mk.injEq]at h hc;obtain⟨rfl,rfl,rfl,rfl⟩:=h;exact⟨rfl,hc.2,by simpa using hc.1,i,zv,hi,rfl,rfl,hz,by simp⟩
    cases h
theorem my:∀(vs pre Wd post:FJ),Wd.length=vs.length->cL (pre++(Wd++post)) pre.length vs=pre++(vs++post):=by
 intro vs;induction vs with
 |nil=>intro pre Wd post h;have:Wd= []:=List.eq_nil_of_length_eq_zero (by simpa using h);subst this;rfl
 |cons v vs ih=>
  intro pre Wd post h;cases Wd with
  |nil=>simp at h
  |cons m Wd=>
   simp only[cL,List.cons_append];have h1:(pre++m::(Wd++post)).set pre.length v=(pre++ [v])++(Wd++post):=by
    rw[List.set_append_right _ _ (Nat.le_refl _)];simp
   have h2:pre.length+1=(pre++ [v]).length:=by simp
   rw[h1,h2,ih (pre++ [v]) Wd post (by simpa using h)];simp
theorem ml{cs vs:FJ}{i:Nat}(h:i+vs.length<=cs.length):cL cs i vs=cs.take i++(vs++cs.drop (i+vs.length)):=by
 have h1:cs=cs.take i++((cs.drop i).take vs.length++cs.drop (i+vs.length)):=by
  rw[<-List.drop_drop,List.take_append_drop,List.take_append_drop]
 have hl:(cs.take i).length=i:=by simp;omega
 have:=my vs (cs.take i) ((cs.drop i).take vs.length) (cs.drop (i+vs.length)) (by simp;omega);rw[<-h1,hl]at this;exact this
def Src (P:Program)(F:dG)(H:F8)(sz m:Nat)(x:Value)(news:FJ):Prop:=
 ∀w,St F H w->(Builtin.lenOf x).run P w= .ok m w/\(∀j,j<=m->(Builtin.firstCells sz j x).run P w= .ok (news.take (j*sz)).toArray w)/\news.length=m*sz
theorem fN{P:Program}{F:dG}{H:F8}{sz m c:Nat}{a:FL}{news:FJ}(hl:news.length=m*sz)(hr:∀h,Le F.h h->gG H h->gF h a news):Src P F H sz m (.slice a m c) news:=by
 intro w s;obtain⟨hh,st,hle,_⟩:=s.own;have r:=hr (lr w) s.frame (cj st hle);refine⟨by simp[Builtin.lenOf],λj hj=> ?_,hl⟩;cases a with
 |none=>
  have:news= []:=by
   cases news with
   |nil=>rfl
   |cons x y=>obtain⟨ad,h1,_⟩:=r 0 x (by simp);cases h1
  subst this;simp[Builtin.firstCells]
 |some ad=>
  refine run_firstCells_some w sz j ad m c (news.take (j*sz)) ?_ ?_
  ·rw[List.length_take,hl];exact Nat.min_eq_left (Nat.mul_le_mul_right _ hj)
  intro i v hv;obtain⟨ad',h1,h2⟩:=(r.take (j*sz)) i v hv;cases h1;exact h2
section rules
variable {P:Program} {n:Nat} {ds:Dq} {F:dG} {Q:Exit->F9} {K:F9} {σ:aP} {H:F8} {o:Oper} {d:Nat}
theorem Ge{t t2 ty:TypeId}{e sz mQ:Nat}{z:FJ}(ht:uF P t=some (e,sz,mQ,z)){d2:TypeDesc}(oV:P.underlying t2=some d2)(Gx:d2= .string\/∃e2,d2= .slice e2){b off len cap m:Nat}{cs news:FJ}{R:F8}{x:Value}{w:World}
  (s:St F (ag b e cs::R) w) (hs:Src P F (ag b e cs::R) sz m x news) (h1:∀v∈news,v.oneCell'=true) (o8:len+m<=cap) (sQ:off+(len+m)*sz<=cs.length):
  ∃w',(Builtin.append_ #[t,t2] ty #[.slice (some ⟨b,off,none⟩) len cap,x]).run P w= .ok (.slice (some ⟨b,off,none⟩) (len+m) cap) w'/\St F (ag b e (cL cs (off+len*sz) news)::R) w':=by
 obtain⟨hu,wO,hzl,i,zv,hi,sO,hby,hz,I6⟩:=ny ht;obtain⟨s1,s2,s3⟩:=hs w s;have ZU:=s2 m (Nat.le_refl _);rw[<-s3,List.take_length]at ZU;obtain⟨w',hr,st⟩:=jY (P:=P) news (off+len*sz) 0 cs w s (by rw[s3];rw[Nat.add_mul]at sQ;omega) h1;refine⟨w', ?_,by simpa using st⟩;rcases Gx with rfl|⟨e2,rfl⟩<;>simp[Builtin.append_,run_underlying hu,run_underlying oV,sizeOf,typeInfo,hi,sO,s1,o8,ZU,add_lit,hr]
theorem Gf{t t2 ty:TypeId}{e sz mQ:Nat}{z:FJ}(ht:uF P t=some (e,sz,mQ,z)){d2:TypeDesc}(oV:P.underlying t2=some d2)(Gx:d2= .string\/∃e2,d2= .slice e2){a:FL}{len cap m:Nat}{BF news:FJ}{R:F8}{x:Value}{w:World}
  (s:St F R w) (ho:BF.length=len*sz) (hro:gF (lr w) a BF) (hs:Src P F R sz m x news) (o8:cap<len+m) (hb:(len+m)*mQ<=140737488355328) (h63:len+m<=9223372036854775807):
  ∃w' b zY,(Builtin.append_ #[t,t2] ty #[.slice a len cap,x]).run P w= .ok (.slice (some ⟨b,0,none⟩) (len+m) zY) w'/\len+m<=zY/\zY<=maxLen/\
   ∃sp,(BF++news).length+sp.length=zY*sz/\St F (ag b e ((BF++news)++sp)::R) w':=by
 obtain⟨hu,wO,hzl,i,zv,hi,sO,hby,hz,I6⟩:=ny ht;have sd:St F R w.drew:=s.drew;obtain⟨s1,_,s3⟩:=hs w s;obtain⟨_,s2,_⟩:=hs w.drew sd;have ZU:=s2 m (Nat.le_refl _);rw[<-s3,List.take_length]at ZU;have sQ:=growslice_fits o8 hb;have hold:(Builtin.firstCells sz len (.slice a len cap)).run P w.drew= .ok BF.toArray w.drew:=by
  cases a with
  |none=>
   have:BF= []:=by
    cases BF with
    |nil=>rfl
    |cons x y=>obtain⟨ad,h1,_⟩:=hro 0 x (by simp);cases h1
   subst this;simp[Builtin.firstCells]
  |some ad=>
   refine run_firstCells_some w.drew sz len ad len cap BF ho ?_;intro j v hv;obtain⟨ad',h1,h2⟩:=hro j v hv;cases h1;exact h2
 have Lb:=grownCap_ge w (len+m) cap e;have hle:=grownCap_le_maxLen w (len+m) cap e (by simp only[maxLen];omega);have Gj:((BF++news)).length+(Builtin.zeroCells z.toArray (grownCap w (len+m) cap e-(len+m))).toList.length=grownCap w (len+m) cap e*sz:=by
  have hz':(Builtin.zeroCells z.toArray (grownCap w (len+m) cap e-(len+m))).toList.length=(grownCap w (len+m) cap e-(len+m))*sz:=by
   rw[Array.length_toList,size_zeroCells];simp[hzl]
  rw[hz',List.length_append,ho,s3,<-Nat.add_mul,<-Nat.add_mul]
  congr 1;omega
 refine⟨_,w.heap.size,grownCap w (len+m) cap e, ?_,Lb,hle,(Builtin.zeroCells z.toArray (grownCap w (len+m) cap e-(len+m))).toList,Gj,sd.new e _⟩;have hn:¬(len+m<=cap):=by omega
 have h63':¬(9223372036854775807<((len:Int)+(m:Int))):=by omega
 have h48':¬(281474976710656<Builtin.nextslicecap (len+m) cap*mQ):=by omega
 have hdw:({w with drawn:=w.drawn+1}:World)=w.drew:=rfl;rcases Gx with rfl|⟨e2,rfl⟩<;>simp[Builtin.append_,run_underlying hu,run_underlying oV,sizeOf,typeInfo,hi,sO,hby,s1,hn,h63',h48',Question.forced,hdw,hold,ZU,zeroValue,hz,I6,newRow,grownCap]
 all_goals
  congr 2
  apply Array.ext';simp
theorem IW{t t2 ty:TypeId}{e sz mQ:Nat}{z:FJ}(ht:uF P t=some (e,sz,mQ,z)){d2:TypeDesc}(oV:P.underlying t2=some d2)(Gx:d2= .string\/∃e2,d2= .slice e2){a:FL}{len cap m:Nat}{xs news:FJ}{R:F8}{x:Value}{w:World}
  (s:St F (own a cap e sz xs::R) w) (ho:xs.length=len*sz) (hs:Src P F (own a cap e sz xs::R) sz m x news) (h1:∀v∈news,v.oneCell'=true) (hb:(len+m)*mQ<=140737488355328) (h63:len+m<=9223372036854775807):
  ∃w' a' zY,(Builtin.append_ #[t,t2] ty #[.slice a len cap,x]).run P w= .ok (.slice a' (len+m) zY) w'/\len+m<=zY/\St F (own a' zY e sz (xs++news)::R) w':=by
 obtain⟨hu,wO,hzl,i,zv,hi,sO,hby,hz,I6⟩:=ny ht;have hnl:=(hs w s).2.2;by_cases o8:len+m<=cap
 ·obtain⟨hh,ho',hle⟩:=s.get
  obtain⟨q1,q2,q3|⟨b,sp,rfl,q4,q5⟩⟩:=ho'
  ·obtain⟨rfl,rfl⟩:=q3
   have wP:len=0:=by omega
   have hm0:m=0:=by omega
   subst wP;subst hm0;have hx:xs= []:=List.eq_nil_of_length_eq_zero (by simpa using ho);have hn:news= []:=List.eq_nil_of_length_eq_zero (by simpa using hnl);subst hx;subst hn;obtain⟨s1,s2,_⟩:=hs w s;have ZU:=s2 0 (Nat.le_refl _);refine⟨w,none,0, ?_,by omega,(by simpa using s)⟩;simp at ZU;rcases Gx with rfl|⟨e2,rfl⟩<;>simp[Builtin.append_,run_underlying hu,run_underlying oV,sizeOf,typeInfo,hi,sO,s1,ZU]
  ·
   have hpt:St F (ag b e (xs++sp)::R) w:=by
    obtain⟨a1,a2,a3,fr,h,⟨xB,h2',dd,l1,l2,jb,st⟩,y,zz⟩:=s;obtain⟨_,_,q3'|⟨b',sp',e',q4',q6⟩⟩:=jb
    ·exact absurd q3'.1 (by simp)
    simp only[Option.some.injEq,Addr.mk.injEq,and_true]at e';subst e';have h6:=l1.trans y;obtain⟨lo,xz,hf,j5⟩:=q6;have hw1:=h6 _ _ j5;obtain⟨lo2,xy,PR,uB⟩:=q5;have WE:=hle _ _ uB;rw[hw1]at WE;simp only[Option.some.injEq,Obj.cells.injEq,List.toArray_eq_iff]at WE;have Gj:sp'=sp:=by
     have:=WE.1;simpa using this
    subst Gj;exact⟨a1,a2,a3,fr,h,⟨xB,h2',dd,l1,l2,⟨lo,xz,hf,j5⟩,st⟩,y,zz⟩
   have hs':Src P F (ag b e (xs++sp)::R) sz m x news:=λw' s'=>hs w' (s'.sub λh st=>aZ (λh' p=>⟨by omega,q2, .inr ⟨b,sp,rfl,q4,p⟩⟩) st);obtain⟨w',hr,st⟩:=Ge (P:=P) (ty:=ty) ht oV Gx (off:=0) hpt hs' h1 o8 (by rw[List.length_append,q4];simpa using Nat.mul_le_mul_right sz o8);refine⟨w',_,cap,hr,o8, ?_⟩;have ad3:cL (xs++sp) (0+len*sz) news=(xs++news)++sp.drop news.length:=by
    rw[Nat.zero_add,<-ho];have hsl:news.length<=sp.length:=by
     have h2:=Nat.mul_le_mul_right sz o8;rw[Nat.add_mul]at h2;omega
    have:=my news xs (sp.take news.length) (sp.drop news.length) (by simp;omega);rw[List.take_append_drop]at this;rw[this,List.append_assoc]
   rw[ad3]at st;refine st.sub λh s'=>aZ (λh' p=>⟨?_,q2, .inr ⟨b,_,rfl, ?_,p⟩⟩) s'
   ·rw[List.length_append,ho,hnl,<-Nat.add_mul];exact Nat.mul_le_mul_right _ o8
   have h2:=Nat.mul_le_mul_right sz o8;rw[Nat.add_mul]at h2;simp only[List.length_append,List.length_drop];omega
 obtain⟨hh,ho',hle⟩:=s.get;obtain⟨w',b,zY,hr,Lb,oW,sp,Gj,st⟩:=Gf (P:=P) (ty:=ty) (cap:=cap) ht oV Gx s ho ((oo ho').mono hle) hs (by omega) hb h63;refine⟨w',_,zY,hr,Lb, ?_⟩;have st2:=(st.sub λ_ s'=>dy s').drop;refine st2.sub λh s'=>aZ (λh' p=>⟨?_,oW, .inr ⟨b,sp,rfl,Gj,p⟩⟩) s';omega
def nZ (P:Program)(t:TypeId):Bool:=match P.underlying t with|some (.slice _)=>true|some .string=>true|_=>false
theorem FQ{t:TypeId}(h:nZ P t=true):∃d,P.underlying t=some d/\(d= .string\/∃e2,d= .slice e2):=by
 unfold nZ at h;cases hu:P.underlying t with
 |none=>simp[hu]at h
 |some d=>rw[hu]at h;cases d<;>simp at h<;>exact⟨_,rfl,by simp⟩
theorem ak5{ρ:Operand->Value}{x y:Operand}{t t2:TypeId}{w:World}(ho:o.op= .call {callee:= .builtin .append,args:= #[x,y],argTypes:= #[t,t2]}):
  (execOp ρ o).run P w=((Builtin.append_ #[t,t2] o.type #[ρ x,ρ y]).run P w).andThen λv w'=> .ok (.value v) w':=by
 simp[execOp,ho,resolve,invoke,builtin]
theorem ia{t t2:TypeId}{e sz mQ m len cap:Nat}{z xs news:FJ}{x y:Operand}{a:FL}{v:Value}{f:aa->F8}(ht:uF P t=some (e,sz,mQ,z))(oV:nZ P t2=true)
  (ho:o.op= .call {callee:= .builtin .append,args:= #[x,y],argTypes:= #[t,t2]}) (hd:o.dst=some d) (hx:bo σ x=some (.slice a len cap)) (hy:bo σ y=some v)
  (hu:Pos H (own a cap e sz xs) f) (hl:xs.length=len*sz) (hs:Src P F H sz m v news) (h1:∀u∈news,u.oneCell'=true) (hb:(len+m)*mQ<=140737488355328) (h63:len+m<=9223372036854775807) (hdn:Nat.blt d n=true)
  (h:∀a' c',len+m<=c'->G n ds F K ((d, .slice a' (len+m) c')::σ) (f (own a' c' e sz (xs++news)))):G n ds F (λa w=>o.wp P a w K Q) σ H:=by
 refine .mk λac w en s=> ?_;obtain⟨d2,Gx,hd2'⟩:=FQ oV;obtain⟨R,uv,back⟩:=hu.uv;obtain⟨w',a',c',hr,Lb,st⟩:=IW (P:=P) (ty:=o.type) ht Gx hd2' (s.uv uv) hl (λw' s'=>hs w' (s'.pJ uv)) h1 hb h63;unfold Oper.wp;rw[ak5 ho,en.eval hx,en.eval hy,hr,Result.andThen_ok,Oper.upon_value,hd];exact h a' c' Lb _ _ (en.put hdn _) (st.pJ (back _))
theorem cm{t t2:TypeId}{e sz mQ m len cap b:Nat}{z xs news:FJ}{x y:Operand}{a:FL}{c:Nat}{e2:TypeId}{f:aa->F8}(ht:uF P t=some (e,sz,mQ,z))(oV:nZ P t2=true)
  (ho:o.op= .call {callee:= .builtin .append,args:= #[x,y],argTypes:= #[t,t2]}) (hd:o.dst=some d) (hx:bo σ x=some (.slice a len cap)) (hy:bo σ y=some (.slice (some ⟨b,0,none⟩) m c))
  (hu:Pos H (own a cap e sz xs) f) (hl:xs.length=len*sz) (hm:news.length=m*sz) (h1:∀u∈news,u.oneCell'=true) (hb:(len+m)*mQ<=140737488355328) (h63:len+m<=9223372036854775807) (hdn:Nat.blt d n=true)
  (h:∀a' c',len+m<=c'->G n ds F K ((d, .slice a' (len+m) c')::σ) (f (own a' c' e sz (xs++news)))):G n ds F (λa w=>o.wp P a w K Q) σ (ag b e2 news::H):=by
 refine ia ht oV ho hd hx hy (.there hu) hl (fN hm ?_) h1 hb h63 hdn ?_
 ·intro hh _ il
  obtain⟨⟨k,pk,lk⟩,_⟩:=il;exact(qB (i:=0) pk).mono lk
 intro a' c' hc;exact au (λ_ s=>by obtain⟨_,_,_,_,l2,_,s⟩:=s;exact eU s l2) (h a' c' hc)
def o9 (pl:Nat->Option (Nat×Nat)):FJ->List (Nat×Value)->Option FJ
 |cells,[]=>some cells
 |cells,(i,v)::rest=>
  match pl i with
  |none=>none
  |some (off,size)=>if v.cells.size=size/\off+size<=cells.length then o9 pl (cL cells off v.cells.toList) rest else none
theorem Iv:∀(vs:FJ) (cs:FJ) (off k:Nat),
  ((vs.zipIdx k).foldl (λ(c:Array Value) (p:Value×Nat)=>c.setIfInBounds (off+p.2) p.1) cs.toArray)=(cL cs (off+k) vs).toArray:=by
 intro vs;induction vs with
 |nil=>intro cs off k;rfl
 |cons v vs ih=>
  intro cs off k;simp only[List.zipIdx_cons,List.foldl_cons,cL];have:=ih (cs.set (off+k) v) off (k+1);rw[<-Nat.add_assoc]at this;rw[<-this];simp
theorem fill_eq (pl:Nat->Option (Nat×Nat)):∀(parts:List (Nat×Value)) (cells:FJ) (r:FJ),o9 pl cells parts=some r->Instr.fill pl cells.toArray parts=some r.toArray:=by
 intro parts;induction parts with
 |nil=>intro cells r h;simp[o9]at h;simp[Instr.fill,h]
 |cons p rest ih=>
  intro cells r h;obtain⟨i,v⟩:=p;simp only[o9]at h;cases hp:pl i with
  |none=>simp[hp]at h
  |some q=>
   obtain⟨off,size⟩:=q;simp only[hp]at h;split at h
   ·rename_i hc
    have:=ih _ _ h;simp only[Instr.fill,hp];rw[if_neg (by simp only[List.size_toArray,ne_eq,decide_not,Bool.or_eq_true,Bool.not_eq_true',decide_eq_false_iff_not,decide_eq_true_eq];omega)];have h2:=Iv v.cells.toList cells off 0;rw[Nat.add_zero]at h2;rw[<-this,<-h2,<-Array.foldl_toList];simp
   cases h
def gV (z:FJ)(k:Nat):FJ:=(List.range k).map λi=>(z[i % z.length]?).getD undef
theorem qc (v:Value)(k:Nat):gV [v] k=List.replicate k v:=by
 apply List.ext_getElem
 ·simp[gV]
 intro i h1 h2;simp[gV,Nat.mod_one]
theorem kC (z:FJ)(k:Nat):(gV z k).length=k:=by simp[gV]
theorem Jx{z:FJ}(hz:0<z.length)(k:Nat):(Array.range k).map (λi=>(z.toArray)[i % z.toArray.size]!)=(gV z k).toArray:=by
 apply Array.ext';simp only[Array.toList_map,Array.toList_range,gV];apply List.map_congr_left;intro i _;have:i % z.length<z.length:=Nat.mod_lt _ hz;simp[this]
theorem vy{a:Act}(en:Env n ds σ a){parts:List (Nat×Operand)}{vs:FJ}(h:jL σ (parts.map (·.2))=some vs):(parts.map λp=>(p.1,a.eval p.2))=(parts.map (·.1)).zip vs:=by
 have:=en.vP h;rw[<-this]
 clear h this
 induction parts with
 |nil=>rfl
 |cons p r ih=>simp only[List.map_cons,List.zip_cons_cons,ih]
theorem adK{t:TypeId}{e sz mQ len:Nat}{z vs cs:FJ}{parts:List (Nat×Operand)}(ht:uF P t=some (e,sz,mQ,z))(ho:o.op= .buildSlice t len parts.toArray)(hd:o.dst=some d)(hv:jL σ (parts.map (·.2))=some vs)
  (hk:Nat.ble (len*sz) 16777216=true) (hc:o9 (λi=>some (i*sz,sz)) (gV z (len*sz)) ((parts.map (·.1)).zip vs)=some cs) (hdn:Nat.blt d n=true)
  (h:∀b,G n ds F K ((d, .slice (some ⟨b,0,none⟩) len len)::σ) (ag b e cs::H)):G n ds F (λa w=>o.wp P a w K Q) σ H:=by
 refine .mk λac w en s=> ?_;obtain⟨hu,wO,hzl,i,zv,hi,sO,hby,hz,I6⟩:=ny ht;have hp:=vy en hv;have hk':¬(2^24<len*sz):=by have:=Nat.le_of_ble_eq_true hk;omega
 have hz0:0<z.length:=by omega
 have x9:(if len*sz=0 then(pure #[]:Sem (Array Value))else do pure (<-zeroValue e).cells).run P w= .ok (if len*sz=0 then #[]else z.toArray) w:=by
  split<;>simp[zeroValue,typeInfo,hi,hz,I6]
 have wG:(Array.range (len*sz)).map (λj=>(if len*sz=0 then(#[]:Array Value)else z.toArray)[j % (if len*sz=0 then(#[]:Array Value)else z.toArray).size]!)=(gV z (len*sz)).toArray:=by
  by_cases h0:len*sz=0
  ·simp[h0,gV]
  simp only[h0,if_false];exact Jx hz0 _
 unfold Oper.wp;have:(execOp ac.eval o).run P w= .ok (.value (.slice (some ⟨w.heap.size,0,none⟩) len len)) (w.alloc (.cells cs.toArray e)):=by
  have lI:=fill_eq _ _ _ _ hc;rw[<-hp]at lI;by_cases h0:len*sz=0
  ·simp only[h0,if_true]at wG
   rw[h0]at lI;have Qx:(Array.range 0).map (λ_=>(default:Value))=(gV z 0).toArray:=by simp[gV]
   simp[execOp,ho,Instr.buildSlice,run_underlying hu,sizeOf,typeInfo,hi,sO,h0,Qx,lI,newRow]
  simp only[h0,if_false]at wG;simp[execOp,ho,Instr.buildSlice,run_underlying hu,sizeOf,typeInfo,zeroValue,hi,sO,h0,hk',hz,I6];rw[show(Array.range (len*sz)).map (λx=>(z[x % z.length]?).getD default)=(gV z (len*sz)).toArray from by simpa using wG,lI];simp[newRow]
 rw[this,Oper.upon_value,hd];exact h _ _ _ (en.put hdn _) (s.new e cs)
theorem IP{sz:Nat}:∀(vs:FJ) (k:Nat) (pre post:FJ),(∀v∈vs,v.cells.size=sz)->post.length=vs.length*sz->pre.length=k*sz->
  o9 (λi=>some (i*sz,sz)) (pre++post) ((List.range' k vs.length).zip vs)=some (pre++vs.flatMap λv=>v.cells.toList):=by
 intro vs;induction vs with
 |nil=>intro k pre post _ hp _;have:post= []:=List.eq_nil_of_length_eq_zero (by simpa using hp);subst this;simp[o9]
 |cons v r ih=>
  intro k pre post hv hp hk;have hv1:=hv v (by simp);have hpl:sz<=post.length:=by rw[hp,List.length_cons,Nat.add_mul];omega
  simp only[List.length_cons,List.range'_succ,List.zip_cons_cons,o9];rw[if_pos ⟨hv1,by rw[List.length_append];omega⟩];have h1:=my v.cells.toList pre (post.take sz) (post.drop sz) (by simp[hv1];omega);rw[List.take_append_drop,hk]at h1;rw[h1,<-List.append_assoc,ih (k+1) (pre++v.cells.toList) (post.drop sz) (λu hu=>hv u (by simp[hu])) (by simp only[List.length_drop,hp,List.length_cons,Nat.add_mul];omega) (by simp[hk,hv1,Nat.add_mul])];simp
theorem JZ{t:TypeId}{e sz mQ len:Nat}{z vs cs:FJ}{parts:List (Nat×Operand)}(ht:uF P t=some (e,sz,mQ,z))(ho:o.op= .buildSlice t len parts.toArray)(hd:o.dst=some d)(hv:jL σ (parts.map (·.2))=some vs)
  (hk:Nat.ble (len*sz) 16777216=true) (hi:parts.map (·.1)=List.range' 0 vs.length) (hlen:vs.length=len) (wO:∀v∈vs,v.cells.size=sz) (hc:(vs.flatMap λv=>v.cells.toList)=cs) (hdn:Nat.blt d n=true)
  (h:∀b,G n ds F K ((d, .slice (some ⟨b,0,none⟩) len len)::σ) (ag b e cs::H)):G n ds F (λa w=>o.wp P a w K Q) σ H:=by
 refine adK ht ho hd hv hk ?_ hdn h;have:=IP vs 0 [] (gV z (len*sz)) wO (by rw[kC,hlen]) (by simp);rw[hi];simpa[hc]using this
theorem Yw{t:TypeId}{e mQ len:Nat}{z vs:FJ}{parts:List (Nat×Operand)}(ht:uF P t=some (e,1,mQ,z))(ho:o.op= .buildSlice t len parts.toArray)(hd:o.dst=some d)(hv:jL σ (parts.map (·.2))=some vs)
  (hk:Nat.ble (len*1) 16777216=true) (hi:parts.map (·.1)=List.range' 0 vs.length) (hlen:vs.length=len) (h1:∀v∈vs,v.oneCell'=true) (hdn:Nat.blt d n=true)
  (h:∀b,G n ds F K ((d, .slice (some ⟨b,0,none⟩) len len)::σ) (ag b e vs::H)):G n ds F (λa w=>o.wp P a w K Q) σ H:=by
 have eJ:∀v:Value,v.oneCell'=true->v.cells= #[v]:=λv hv=>by cases v<;>simp[Value.oneCell']at hv<;>rfl
 refine JZ ht ho hd hv hk hi hlen (λv hv=>by rw[eJ v (h1 v hv)];rfl) ?_ hdn h
 clear hv hi hlen h
 induction vs with
 |nil=>rfl
 |cons v r ih=>rw[List.flatMap_cons,eJ v (h1 v (by simp)),ih (λu hu=>h1 u (by simp[hu]))];rfl
theorem Yx{t:TypeId}{e sz mQ:Nat}{z cs:FJ}{x:Operand}(ht:uF P t=some (e,sz,mQ,z))(ho:o.op= .buildSlice t 1 #[(0,x)])(hd:o.dst=some d)(hx:bo σ x=some (.agg cs.toArray))
  (hl:cs.length=sz) (hk:Nat.ble (1*sz) 16777216=true) (hdn:Nat.blt d n=true)
  (h:∀b,G n ds F K ((d, .slice (some ⟨b,0,none⟩) 1 1)::σ) (ag b e cs::H)):G n ds F (λa w=>o.wp P a w K Q) σ H:=
 JZ (parts:= [(0,x)]) (vs:= [.agg cs.toArray]) ht ho hd (by simp[jL,hx]) hk rfl rfl (by simp[Value.cells,hl]) (by simp[Value.cells]) hdn h
def jj (P:Program)(t:TypeId):Option (List (Nat×Nat)):=
 match P.underlying t with
 |some (.struct fs)=>fs.toList.mapM λf=>(P.info? f.type).map λi=>(f.offset,i.size)
 |_=>none
theorem FT{fs:List Field}{pl:List (Nat×Nat)}(h:(fs.mapM λf=>(P.info? f.type).map λi=>(f.offset,i.size))=some pl)(w:World):
  (fs.mapM λf=>Prod.mk f.offset<$>sizeOf f.type:Sem (List (Nat×Nat))).run P w= .ok pl w:=by
 induction fs generalizing pl with
 |nil=>simp at h;simp[h]
 |cons f r ih=>
  simp only[List.mapM_cons]at h⊢;cases hi:P.info? f.type with
  |none=>simp[hi]at h
  |some i=>
   simp only[hi,Option.map_some,Option.bind_eq_bind,Option.bind_some]at h;cases hr:(r.mapM λf=>(P.info? f.type).map λi=>(f.offset,i.size))with
   |none=>simp[hr]at h
   |some pl'=>
    simp[hr]at h;have:=ih hr;simp[sizeOf,typeInfo,hi]at this⊢;simp[this,<-h]
theorem Xw{t:TypeId}{pl:List (Nat×Nat)}{zs vs cs:FJ}{parts:List (Nat×Operand)}(hz:bS P t=some zs)(hpl:jj P t=some pl)(ho:o.op= .build t parts.toArray)(hv:jL σ (parts.map (·.2))=some vs)
  (hc:o9 (λi=>pl[i]?) zs ((parts.map (·.1)).zip vs)=some cs):Yv P n ds F σ o (.agg cs.toArray):=
 λac w en fr=>by
  have hp:=vy en hv;obtain⟨zv,hzr,I6⟩:=qq hz (w:=w);unfold jj at hpl;cases hu:P.underlying t with
  |none=>simp[hu]at hpl
  |some dsc=>
   cases dsc<;>simp[hu]at hpl;rename_i fs;have hm:=FT (P:=P) (by simpa using hpl) w;have lI:=fill_eq _ _ _ _ hc;rw[<-hp]at lI;have hm':(fs.mapM λf=>Prod.mk f.offset<$>sizeOf f.type:Sem (Array (Nat×Nat))).run P w= .ok pl.toArray w:=by
    rw[<-Array.toArray_toList (xs:=fs),List.mapM_toArray];simp[hm]
   simp[execOp,ho,Instr.build,hzr,run_underlying hu,hm',I6,lI]
theorem Yu{t:TypeId}{e sz mQ:Nat}{z:FJ}{x y:Operand}{k k':IntKind}{i j:Int}{l c:Nat}(ht:uF P t=some (e,sz,mQ,z))(ho:o.op= .makeSlice t x y)(hd:o.dst=some d)(hx:bo σ x=some (.int k i))(hy:bo σ y=some (.int k' j))
  (xz:i=(l:Int)) (hj:j=(c:Int)) (hlc:l<=c) (hc:c*mQ<=281474976710656) (qx:c<=9223372036854775807) (hdn:Nat.blt d n=true)
  (h:∀b,G n ds F K ((d, .slice (some ⟨b,0,none⟩) l c)::σ) (ag b e (gV z (c*sz))::H)):G n ds F (λa w=>o.wp P a w K Q) σ H:=by
 refine .mk λac w en s=> ?_;obtain⟨hu,wO,hzl,inf,zv,hi,sO,hby,hz,I6⟩:=ny ht;subst xz;subst hj;have hz0:0<z.length:=by omega
 have hwl:IntKind.i64.wrap (l:Int)=l:=wrap_i64 (by omega);have hwc:IntKind.i64.wrap (c:Int)=c:=wrap_i64 (by omega);have zU:¬((281474976710656:Int)<(mQ:Int)*(c:Int)):=by
  have:(mQ:Int)*(c:Int)=((c*mQ:Nat):Int):=by push_cast;rw[Int.mul_comm]
  omega
 have wG:(Array.range (c*sz)).map (λj=>(if c*sz=0 then(#[]:Array Value)else z.toArray)[j % (if c*sz=0 then(#[]:Array Value)else z.toArray).size]!)=(gV z (c*sz)).toArray:=by
  by_cases h0:c*sz=0
  ·simp[h0,gV]
  simp only[h0,if_false];exact Jx hz0 _
 have x9:(if c*sz=0 then(pure #[]:Sem (Array Value))else do pure (<-zeroValue e).cells).run P w= .ok (if c*sz=0 then #[]else z.toArray) w:=by
  split<;>simp[zeroValue,typeInfo,hi,hz,I6]
 unfold Oper.wp;have:(execOp ac.eval o).run P w= .ok (.value (.slice (some ⟨w.heap.size,0,none⟩) l c)) (w.alloc (.cells (gV z (c*sz)).toArray e)):=by
  have QD:(decide ((c:Int)<0) ||decide ((mQ:Int)*(c:Int)>2^48) ||decide ((l:Int)<0) ||decide ((l:Int)>(c:Int)))=false:=by
   simp only[Bool.or_eq_false_iff,decide_eq_false_iff_not];refine⟨⟨⟨by omega, ?_⟩,by omega⟩,by omega⟩;have:(2:Int)^48=281474976710656:=by decide
   rw[this];exact zU
  simp only[execOp,ho,Instr.makeSlice,Sem.run_bind,run_underlying hu,Result.andThen_ok,sizeOf,typeInfo,run_program,hi,Sem.run_pure,sO,hby,en.eval hx,en.eval hy,asInt,asIntOf,hwl,hwc];simp only[QD,Bool.false_eq_true,if_false,Sem.run_bind,Sem.run_pure,run_askRoom,Result.andThen_ok,Int.toNat_natCast];by_cases h0:c*sz=0
  ·simp only[h0,if_true]at wG
   have Qx:(Array.range 0).map (λ_=>(default:Value))=(gV z 0).toArray:=by simp[gV]
   simp[hi,sO,h0,newRow,Qx]
  simp only[h0,if_false]at wG;simp[hi,sO,h0,zeroValue,typeInfo,hz,I6,newRow];rw[show(Array.range (c*sz)).map (λx=>(z[x % z.length]?).getD default)=(gV z (c*sz)).toArray from by simpa using wG]
 rw[this,Oper.upon_value,hd];exact h _ _ _ (en.put hdn _) (s.new e _)
theorem J0{t t2:TypeId}{e sz mQ m dl dc b off:Nat}{z cs news:FJ}{x y:Operand}{v:Value}{e2:TypeId}{f:aa->F8}(ht:uF P t=some (e,sz,mQ,z))(ho:o.op= .call {callee:= .builtin .copy,args:= #[x,y],argTypes:= #[t,t2]})(hd:o.dst=some d)
  (hx:bo σ x=some (.slice (some ⟨b,off,none⟩) dl dc)) (hy:bo σ y=some v) (hu:Pos H (ag b e2 cs) f) (hs:Src P F H sz m v news) (h1:∀u∈news,u.oneCell'=true) (sQ:off+dl*sz<=cs.length) (hdn:Nat.blt d n=true)
  (h:G n ds F K ((d, .int .i64 ((min m dl:Nat):Int))::σ) (f (ag b e2 (cL cs off (news.take (min m dl*sz)))))):G n ds F (λa w=>o.wp P a w K Q) σ H:=by
 refine .mk λac w en s=> ?_;obtain⟨hut,wO,hzl,inf,zv,hi,sO,hby,hz,I6⟩:=ny ht;obtain⟨s1,s2,s3⟩:=hs w s;obtain⟨R,uv,back⟩:=hu.uv;have hlen:(news.take (min m dl*sz)).length=min m dl*sz:=by
  rw[List.length_take,s3];exact Nat.min_eq_left (Nat.mul_le_mul_right _ (Nat.min_le_left _ _))
 obtain⟨w',hr,st⟩:=jY (P:=P) (news.take (min m dl*sz)) off 0 cs w (s.uv uv) (by rw[hlen];have:=Nat.mul_le_mul_right sz (Nat.min_le_right m dl);omega) (λu hu=>h1 u (List.mem_of_mem_take hu));unfold Oper.wp;have:(execOp ac.eval o).run P w= .ok (.value (.int .i64 ((min m dl:Nat):Int))) w':=by
  have hmin:Nat.min m dl=min m dl:=rfl;simp[execOp,ho,resolve,invoke,builtin,Builtin.copy_,en.eval hx,en.eval hy,run_underlying hut,sizeOf,typeInfo,hi,sO,s1,hmin,s2 _ (Nat.min_le_left m dl),hr,goInt]
 rw[this,Oper.upon_value,hd];exact h _ _ (en.put hdn _) (by simpa using st.pJ (back _))
end rules
end Go.dC
namespace Go.dC
open Go
def Xd:FH->Nat->Bool
 | [],_=>false
 |x::r,t=>match Nat.beq x t with|true=>true|false=>Xd r t
def fH (jF:FH):aP->aP
 | []=> []
 |(k,v)::r=>match Xd jF k with|true=>fH jF r|false=>(k,v)::fH jF r
theorem IH{jF:FH}:∀{σ:aP} {t:Nat} {v:Value},look (fH jF σ) t=some v->look σ t=some v/\Xd jF t=false:=by
 intro σ;induction σ with
 |nil=>intro t v h;simp[fH,look]at h
 |cons p r ih=>
  obtain⟨k,u⟩:=p;intro t v h;simp only[fH]at h;cases hm:Xd jF k with
  |true=>
   rw[hm]at h;obtain⟨h1,h2⟩:=ih h;refine⟨?_,h2⟩;simp only[look];cases hb:Nat.beq k t with
   |true=>have:=Nat.eq_of_beq_eq_true hb;subst this;rw[hm]at h2;cases h2
   |false=>exact h1
  |false=>
   rw[hm]at h;simp only[look]at h⊢;cases hb:Nat.beq k t with
   |true=>rw[hb]at h;have:=Nat.eq_of_beq_eq_true hb;subst this;exact⟨h,hm⟩
   |false=>rw[hb]at h;exact ih h
theorem FX{L K:aP}{t:Nat}{v:Value}(h:look (L++K) t=some v):look L t=some v\/look K t=some v:=by
 induction L with
 |nil=>exact .inr h
 |cons p r ih=>
  obtain⟨k,u⟩:=p;simp only[List.cons_append,look]at h⊢;cases hb:Nat.beq k t with
  |true=>rw[hb]at h;exact .inl h
  |false=>rw[hb]at h;exact ih h
theorem Env.ja{n:Nat}{ds:Dq}{σ σ' L:aP}{a:Act}{jF:FH}(e:Env n ds σ' a)(hs:pH L σ')(hk:fH jF σ'=fH jF σ):Env n ds (L++fH jF σ) a:=
 ⟨e.size,e.defers,λt v h=>(FX h).elim (λh1=>e.slot t v (hs.look t v h1)) λh1=>by
  rw[<-hk]at h1;exact e.slot t v (IH h1).1⟩
section
variable {ι:Type} (n:Nat) (ds:Dq) (F:dG) (jF:FH) (σ:aP) (I:ι->Prop) (L:ι->aP) (HI:ι->F8)
def qF (μ:ι->Nat)(i:ι)(a:Act)(w:World):Prop:=∃j,I j/\μ j<μ i/\Env n ds (L j++fH jF σ) a/\St F (HI j) w
def Er (a:Act)(w:World):Prop:=∃j,I j/\Env n ds (L j++fH jF σ) a/\St F (HI j) w
end
section rules
variable {P:Program} {n:Nat} {ds:Dq} {F:dG} {Q:Exit->F9} {K:F9} {σ:aP} {H:F8} {o:Oper} {d:Nat}
theorem Zj{ι:Type}{c:Code}(jF:FH)(I:ι->Prop)(L:ι->aP)(HI:ι->F8)(μ:ι->Nat)(i₀:ι)(h0:I i₀)(hs:pH (L i₀) σ)(hh:∀h,ai H h->ai (HI i₀) h)
  (round:∀i,I i->G n ds F (c.wp P (Exit.then (qF n ds F jF σ I L HI μ i) Q)) (L i++fH jF σ) (HI i)):G n ds F ((Code.loop c).wp P Q) σ H:=by
 refine .mk λa w e s b k cs=> ?_;have key:∀m i a w,μ i=m->I i->Env n ds (L i++fH jF σ) a->St F (HI i) w->
   ∃e a' w',Q e a' w'/\Arrives P (lone (b.at a (.code c:: .inLoop c::k)) cs w) b k cs e a' w':=by
  intro m;induction m using Nat.strongRecOn with
  |_ m ih=>
   intro i a w hm hI he fA;obtain⟨e,a₁,w₁,hq,pG⟩:=round i hI a w he fA b (.inLoop c::k) cs;cases e with
   |normal=>
    obtain⟨j,hj,cJ,he₁,hs₁⟩:=hq;obtain⟨e₂,a₂,w₂,hq₂,harr₂⟩:=ih (μ j) (hm▸cJ) j a₁ w₁ rfl hj he₁ hs₁;exact⟨e₂,a₂,w₂,hq₂, .of_steps (Steps.trans pG (.one step_inLoop)) harr₂⟩
   |exit id=>exact⟨_,a₁,w₁,hq, .pass (x:= .inLoop c) rfl (λ_ _=> .inl (by simp)) pG⟩
   |goto l=>exact⟨_,a₁,w₁,hq, .pass (x:= .inLoop c) rfl (λ_ _=> .inl (by simp)) pG⟩
   |ret=>exact⟨_,a₁,w₁,hq, .pass (x:= .inLoop c) rfl (λ_ _=> .inl (by simp)) pG⟩
   |panic ch=>exact⟨_,a₁,w₁,hq, .pass (x:= .inLoop c) rfl (λ_ _=> .inl (by simp)) pG⟩
   |outgrown=>exact⟨_,a₁,w₁,hq, .pass (x:= .inLoop c) rfl (λ_ _=> .inl (by simp)) pG⟩
 obtain⟨e',a',w',hq,pG⟩:=key _ i₀ a w rfl h0 (e.ja hs rfl) (s.sub hh);exact⟨e',a',w',hq, .of_steps (.one step_loop) pG⟩
theorem VH{ι:Type}{jF:FH}{σ0:aP}{I:ι->Prop}{L:ι->aP}{HI:ι->F8}{μ:ι->Nat}{i:ι}(j:ι)(hI:I j)(hm:μ j<μ i)(hs:pH (L j) σ)(hk:fH jF σ=fH jF σ0)(hh:∀h,ai H h->ai (HI j) h):
  G n ds F (Exit.then (qF n ds F jF σ0 I L HI μ i) Q .normal) σ H:=
 .mk λ_ _ e s=>⟨j,hI,hm,e.ja hs hk,s.sub hh⟩
theorem abh{ι:Type}{jF:FH}{σ0:aP}{I:ι->Prop}{L:ι->aP}{HI:ι->F8}(j:ι)(hI:I j)(hs:pH (L j) σ)(hk:fH jF σ=fH jF σ0)(hh:∀h,ai H h->ai (HI j) h):
  G n ds F (Exit.then (Er n ds F jF σ0 I L HI) Q .normal) σ H:=
 .mk λ_ _ e s=>⟨j,hI,e.ja hs hk,s.sub hh⟩
theorem eK{ι:Type}{x:Code}(jF:FH)(I:ι->Prop)(L:ι->aP)(HI:ι->F8)(hx:G n ds F (x.wp P (Exit.then (Er n ds F jF σ I L HI) Q)) σ H)
  (hy:∀j,I j->G n ds F K (L j++fH jF σ) (HI j)):G n ds F (x.wp P (Exit.then K Q)) σ H:=
 .mk λa w e s=>wp_mono (hx a w e s) λex a' w' q=>by
  cases ex with
  |normal=>obtain⟨j,hj,he,hs⟩:=q;exact hy j hj _ _ he hs
  |exit id=>exact q
  |goto l=>exact q
  |ret=>exact q
  |panic ch=>exact q
  |outgrown=>exact q
theorem bJ{t:Nat}{b:Bool}(ht:look σ t=some (.bool b))(h1:b=true->G n ds F K ((t, .bool true)::σ) H)(h2:b=false->G n ds F K ((t, .bool false)::σ) H):G n ds F K σ H:=by
 have key:∀c,b=c->∀a,Env n ds σ a->Env n ds ((t, .bool c)::σ) a:=λc hc a e=>⟨e.size,e.defers,λu v hv=>by
  simp only[look]at hv;cases hb:Nat.beq t u with
  |true=>rw[hb]at hv;cases hv;have:=Nat.eq_of_beq_eq_true hb;subst this;subst hc;exact e.slot _ _ ht
  |false=>rw[hb]at hv;exact e.slot _ _ hv⟩
 refine .mk λa w e s=> ?_;cases hb:b with
 |true=>exact h1 hb a w (key true hb a e) s
 |false=>exact h2 hb a w (key false hb a e) s
theorem aA{t:Nat}{v v':Value}(ht:look σ t=some v)(hv:v=v')(h:G n ds F K ((t,v')::σ) H):G n ds F K σ H:=by
 subst hv;refine .mk λa w e s=> ?_;refine h a w ⟨e.size,e.defers,λu x hx=> ?_⟩ s;simp only[look]at hx;cases hb:Nat.beq t u with
 |true=>rw[hb]at hx;cases hx;have:=Nat.eq_of_beq_eq_true hb;subst this;exact e.slot _ _ ht
 |false=>rw[hb]at hx;exact e.slot _ _ hx
theorem zw:∀{A B:F8} {h:Hp},ai (A++B) h->ai A h:=by
 intro A;induction A with
 |nil=>intros;trivial
 |cons X r ih=>intro B h s;obtain⟨h1,h2,d,l1,l2,a,s⟩:=s;exact⟨h1,h2,d,l1,l2,a,ih s⟩
theorem eF{H As R:F8}(s:iA H As R):∀h,ai H h->ai As h:=λh x=>zw (s.out h x)
theorem afi{H H':F8}(e:H=H'):∀h,ai H h->ai H' h:=λ_ x=>e▸x
theorem bX{h:Hp}{a:FL}{cap e sz:Nat}{xs:FJ}(o:∃k,own a cap e sz xs k/\Le k h):gF h a xs:=by
 obtain⟨k,p,l⟩:=o;exact(oo p).mono l
theorem Y7{h k:Hp}{A:aa}(i:∃m,A m/\Le m h)(l:Le h k):∃m,A m/\Le m k:=by
 obtain⟨m,p,l'⟩:=i;exact⟨m,p,l'.trans l⟩
def aB (L:F8):aa:=λh=>ai L h
theorem mu{L:F8}(h:G n ds F K σ (L++H)):G n ds F K σ (aB L::H):=
 au (λk s=>by
  obtain⟨h1,h2,d,l1,l2,s1,s2⟩:=s;exact eU (bz s1 s2 d) (bQ l1 l2)) h
theorem dZ{L:F8}:∀{H:F8} {h:Hp},ai (L++H) h->ai (aB L::H) h:=λs=>by
 obtain⟨h1,h2,d,l1,l2,s1,s2⟩:=bh s;exact⟨h1,h2,d,l1,l2,s1,s2⟩
theorem ahN{ι:Type}{A:ι->aa}(h:∀x,G n ds F K σ (A x::H)):G n ds F K σ ((λk=>∃x,A x k)::H):=by
 refine .mk λa w e s=> ?_;obtain⟨a1,a2,a3,fr,hh,⟨h1,h2,d,l1,l2,⟨x,hx⟩,st⟩,y,z⟩:=s;exact h x a w e ⟨a1,a2,a3,fr,hh,⟨h1,h2,d,l1,l2,hx,st⟩,y,z⟩
theorem y3{L M R:F8}{h:Hp}(s:ai (aB L::(M++R)) h):ai (aB (L++M)::R) h:=by
 obtain⟨h1,h2,d,l1,l2,s1,s2⟩:=s;obtain⟨h3,h4,d',l3,l4,s3,s4⟩:=bh s2;exact⟨fF h1 h3,h4,bG.fF (d.right l4) d',bQ l1 (l3.trans l2),l4.trans l2,bz s1 s3 (d.right l3),s4⟩
theorem wL{h:Hp}(s:ai H h):ai (aB []::H) h:=gm (λ_=>trivial) s
def z7 (F:dG)(As:F8)(F':dG):Prop:=∀R w,St F' R w->St F (As++R) w
abbrev cG (F:dG)(w:World):Prop:=Le F.h (lr w)
theorem aeb{id:Nat}{ops:Array Oper}{As R:F8}{listed:Array Bool}(hm:P.follows .mixedOrders=true)(hl:Array.replicate ops.size false=listed)(c9:iA H As R)
  (h:∀F':dG,Le F.h F'.h->gG As F'.h->z7 F As F'->G n ds F' (wpAnyH P .any ops Q (cG F') ops.size listed) σ R):G n ds F ((Code.region id ops true).wp P Q) σ H:=by
 refine .mk λa w e s=> ?_;subst hl;refine wp_region_any hm (wpAny_of_held (S:=cG {F with h:= ?_}) _ _ _ _ ?_)
 ·exact fF (Classical.choose (bh (c9.out _ (Classical.choose_spec s.own).1))) F.h
 generalize hA:Classical.choose (bh (c9.out _ (Classical.choose_spec s.own).1))=h1;have spec:=Classical.choose_spec (bh (c9.out _ (Classical.choose_spec s.own).1));rw[hA]at spec;obtain⟨h2,d12,l1,l2,s1,s2⟩:=spec;have jb:=(Classical.choose_spec s.own).2;have Bu:bG h1 F.h:=jb.2.left l1;refine h {F with h:=fF h1 F.h} (aJ Bu) (cj s1 (aR _ _)) ?_ a _ e ?_
 ·intro R' w' s'
  obtain⟨b1,b2,b3,fr,hh,st,hl,hd⟩:=s';exact⟨b1,b2,b3,(aJ Bu).trans fr,fF h1 hh,bz s1 st (hd.right (aR _ _)).symm,bQ ((aR _ _).trans fr) hl,bG.fF Bu (hd.right (aJ Bu))⟩
 exact⟨s.os,⟨s.tape.1,Nat.le_succ_of_le s.tape.2⟩,s.output,bQ (l1.trans jb.1) s.frame,h2,s2,l2.trans jb.1,(bG.fF d12 (jb.2.left l2).symm).symm⟩
theorem aT{ops:Array Oper}{listed:Array Bool}{fuel:Nat}{F':dG}{As:F8}{S:World->Prop}(hr:Region.ready .any ops listed= [])(hb:z7 F As F')(h:G n ds F (Q .normal) σ (As++H)):G n ds F' (wpAnyH P .any ops Q S fuel listed) σ H:=by
 refine .mk λa w e s=> ?_;have:=h a w e (hb _ _ s);cases fuel with
 |zero=>exact⟨hr,this⟩
 |succ m=>exact⟨λ_=>this,λi hi=>by rw[hr]at hi;cases hi⟩
def oF (Q:Exit->F9):Prop:=∀c a d v w,Q (.panic c) (Act.put a d v) w->Q (.panic c) a w
theorem Yi (h:oF Q):oF (Exit.then K Q):=λc a d v w q=>h c a d v w q
theorem Ue{id:Nat}(h:oF Q):oF (Exit.inBlock id Q):=λc a d v w q=>h c a d v w q
theorem Yj{fn:Func}{R:Ending->World->Prop}:oF (bodyPost P fn R):=λc a d v w q=>by
 simp only[bodyPost]at q⊢;exact⟨by rw[<-q.1];cases d<;>rfl,q.2⟩
def BQ (ops:Array Oper)(listed:Array Bool)(i:Nat)(xc:Array Bool):Bool:=
 Region.noSelect ops&&(Region.ready .any ops listed).contains i&&Region.free .any ops listed i&&(listed.setIfInBounds i true==xc)
theorem UU{ops:Array Oper}{listed xc:Array Bool}{fuel i:Nat}{oi:Oper}{v:Value}(pC:BQ ops listed i xc=true)(hi:ops[i]?=some oi)(po:oF Q)
  (hy:∀a,Env n ds σ a->YieldsIf P ops (cG F) oi v a) {σ':aP} (hp:∀a,Env n ds σ a->Env n ds σ' (a.put oi.dst v)) (h:G n ds F (wpAnyH P .any ops Q (cG F) fuel xc) σ' H):G n ds F (wpAnyH P .any ops Q (cG F) (fuel+1) listed) σ H:=by
 refine .mk λa w e s=> ?_;simp only[BQ,Bool.and_eq_true,beq_iff_eq,List.contains_iff_mem]at pC;obtain⟨⟨⟨h1,h2⟩,h3⟩,h4⟩:=pC;refine wpAnyH_first hi (Region.noSelect_spec h1) (λc a w q=>po c a _ _ w q) fuel listed a w (λj oj hj fQ Z3 mc=>Region.free_spec hi h3 j oj hj fQ Z3 mc) h2 (hy a e) s.frame ?_;rw[h4];exact h _ _ (hp a e) s
theorem Hj{ops:Array Oper}{listed:Array Bool}{fuel:Nat}{l:FH}{S:World->Prop}(hr:Region.ready .any ops listed=l)(fQ:l.isEmpty=false)
  (h:∀i∈l,G n ds F (wpOp P ops Q i (λa' w'=>S w'/\wpAnyH P .any ops Q S fuel (listed.setIfInBounds i true) a' w')) σ H):G n ds F (wpAnyH P .any ops Q S (fuel+1) listed) σ H:=by
 refine .mk λa w e s=> ?_;refine⟨λh0=> ?_,λi hi=>h i (by rw[<-hr];exact hi) a w e s⟩;rw[hr]at h0;subst h0;cases fQ
theorem ad7{ops:Array Oper}{listed:Array Bool}{fuel i:Nat}{S:World->Prop}(hr:Region.ready .any ops listed= [i])
  (h:G n ds F (wpOp P ops Q i (λa' w'=>S w'/\wpAnyH P .any ops Q S fuel (listed.setIfInBounds i true) a' w')) σ H):G n ds F (wpAnyH P .any ops Q S (fuel+1) listed) σ H:=
 Hj hr rfl λj hj=>by rw[List.mem_singleton.1 hj];exact h
theorem ad6{ops:Array Oper}{listed:Array Bool}{fuel i j:Nat}{S:World->Prop}(hr:Region.ready .any ops listed= [i,j])
  (h1:G n ds F (wpOp P ops Q i (λa' w'=>S w'/\wpAnyH P .any ops Q S fuel (listed.setIfInBounds i true) a' w')) σ H)
  (h2:G n ds F (wpOp P ops Q j (λa' w'=>S w'/\wpAnyH P .any ops Q S fuel (listed.setIfInBounds j true) a' w')) σ H):G n ds F (wpAnyH P .any ops Q S (fuel+1) listed) σ H:=
 Hj hr rfl λk hk=>by
  rcases List.mem_cons.1 hk with rfl|hk
  ·exact h1
  rw[List.mem_singleton.1 hk];exact h2
theorem Zf{ops:Array Oper}{listed:Array Bool}{fuel:Nat}(h:G n ds F (wpAnyH P .any ops Q (cG F) fuel listed) σ H):G n ds F (λa w=>cG F w/\wpAnyH P .any ops Q (cG F) fuel listed a w) σ H:=
 .mk λa w e s=>⟨s.frame,h a w e s⟩
theorem yR{b i k ty:Nat}{e:TypeId}{cs vs:FJ}{R:F8}{w:World}{t:Nat}{a:Act}(en:Env n ds σ a)(st:St F H w)(ht:look σ t=some (.pointer (some ⟨b,i,none⟩)))(hs:cP P ty=some k)(c9:fP H (ag b e cs) R)(hv:(cs.drop i).take k=vs)(hk:vs.length=k):
  (asAddr (a.tmps.getD t undef)).run P w= .ok ⟨b,i,none⟩ w/\(loadVar ty ⟨b,i,none⟩).run P w= .ok (.agg vs.toArray) w:=by
 obtain⟨h1,hp,hl⟩:=(st.uv c9).get;have hg:a.tmps.getD t undef= .pointer (some ⟨b,i,none⟩):=by simp[en.slot t _ ht]
 have:=UG (P:=P) (b:=b) (i:=i) hs (w:=w) hk (λj v hj=>by
  rw[add_lit];refine lW hl (fx hp ?_);rw[<-hv,List.getElem?_take]at hj;split at hj
  ·simpa using hj
  cases hj)
 rw[hg];exact⟨by simp[asAddr],by simpa[Instr.loadAt,Instr.sureAddr]using this⟩
theorem afl{fn:Func}{T:Dp}{t ty b i k:Nat}{e:TypeId}{cs vs:FJ}{R H':F8}(hs:cP P ty=some k)(hr:fn.results= #[.cell t ty])(ht:look σ t=some (.pointer (some ⟨b,i,none⟩)))(c9:fP H (ag b e cs) R)(hv:(cs.drop i).take k=vs)(hk:vs.length=k)
  (hR:T (.agg vs.toArray) H') (hh:∀h,ai H h->ai H' h):G n [] F (bodyPost P fn (λe w'=>∃v H',e= .returned v/\T v H'/\St F H' w') .ret) σ H:=
 .mk λa w en s=>⟨en.defers,_,by
  obtain⟨h1,h2⟩:=yR (P:=P) en s ht hs c9 hv hk;simp only[results,hr];simp at h1;simp[h1,h2],_,H',rfl,hR,s.sub hh⟩
end rules
end Go.dC
namespace Go.dC
open Go
section
variable {P:Program} {n:Nat} {ds:Dq} {F:dG} {σ:aP} {o:Oper}
theorem kQ{op:BinOp}{t:TypeId}{x y:Operand}{p q:FL}{w:World}:(eqGuard op t x y (.pointer p) (.pointer q)).run P w= .ok () w:=by
 unfold eqGuard;cases op<;>simp
theorem S6{op:BinOp}{t yt e:TypeId}{x y:Operand}{p:FL}{b:Bool}(ht:P.underlying t=some (.pointer e))(ho:o.op= .binOp op t x y yt)(hx:bo σ x=some (.pointer p))(hy:bo σ y=some (.pointer none))
  (hop:(op= .eql/\b=p.isNone)\/(op= .neq/\b= !p.isNone)):Yv P n ds F σ o (.bool b):=by
 intro a w en _;have hp:P.underlying t=some (.pointer (P.pointee t)):=by unfold Program.pointee;rw[ht]
 rcases hop with⟨rfl,rfl⟩|⟨rfl,rfl⟩
 ·simp only[execOp,ho,en.eval hx,en.eval hy,Sem.run_bind,kQ,run_eql_pointer_nil w t p hp,Result.andThen_ok,Sem.run_pure]
 simp only[execOp,ho,en.eval hx,en.eval hy,Sem.run_bind,kQ,run_neq_pointer_nil w t p hp,Result.andThen_ok,Sem.run_pure]
theorem ak9 (w:World)(b n:Nat)(cs:Array Value)(e:TypeId)(lo hi:Nat)(h:w.heap[b]?=some (.cells cs e (lo,hi))):
  (w.freeze ⟨b,n,none⟩ 1).heap[b]?=some (.cells cs e (if lo==hi then(n,n+1)else(min lo n,max hi (n+1)))):=by
 simp[World.freeze,Array.getElem?_modify,h]
theorem ak8 (w:World)(b n x:Nat)(h:x≠b):(w.freeze ⟨b,n,none⟩ 1).heap[x]?=w.heap[x]?:=by
 simp[World.freeze,Array.getElem?_modify,Ne.symm h]
theorem St.freeze{H:F8}{w:World}{b:Nat}{e:TypeId}{cs:FJ}(s:St F (ag b e cs::H) w):
  St F (ag b e cs::H) (w.freeze ⟨b,cs.length,none⟩ 1):=by
 obtain⟨a1,a2,a3,fr,h,⟨h1,h2,d,l1,l2,⟨lo,hi,hf,hb⟩,s⟩,y,z⟩:=s;have hw:w.heap[b]?=some (.cells cs.toArray e (lo,hi)):=(l1.trans y) _ _ hb;have fQ:∀k:Hp,bG h1 k->∀x o,k x=some o->x≠b:=by
  intro k dk x o e hx;subst hx;rcases dk x with q|q
  ·rw[hb]at q;cases q
  rw[e]at q;cases q
 have hold:∀k:Hp,bG h1 k->Le k (lr w)->Le k (lr (w.freeze ⟨b,cs.length,none⟩ 1)):=by
  intro k dk lk x o e;have:=lk x o e;unfold lr at*;rw[ak8 w _ _ x (by exact fQ k dk x o e)];exact this
 have dF:bG h1 F.h:=z.left l1
 let fz:Nat×Nat:=if lo==hi then(cs.length,cs.length+1)else(min lo cs.length,max hi (cs.length+1))
 have hfz:fz.2=fz.1\/cs.length<=fz.1:=by
  right;show cs.length<=(if lo==hi then(cs.length,cs.length+1)else(min lo cs.length,max hi (cs.length+1))).1;split
  ·exact Nat.le_refl _
  rename_i hq;have:lo≠hi:=by simpa using hq
  simp only;omega
 let xB:Hp:=λx=>if x=b then some (.cells cs.toArray e fz)else none
 have d2:∀k:Hp,bG h1 k->bG xB k:=by
  intro k dk x;by_cases hx:x=b
  ·subst hx
   rcases dk x with q|q
   ·rw[hb]at q;cases q
   exact .inr q
  exact .inl (by simp[xB,hx])
 have l1':Le xB (lr (w.freeze ⟨b,cs.length,none⟩ 1)):=by
  intro x o e;by_cases hx:x=b
  ·subst hx
   simp only[xB,if_true]at e;cases e;have:=ak9 w x cs.length _ _ _ _ hw;rw[lr,this]
  simp[xB,hx]at e
 refine⟨a1,a2,a3,hold _ dF fr,fF xB h2,⟨xB,h2,d2 _ d,aR _ _,aJ (d2 _ d),⟨fz.1,fz.2,hfz,by simp[xB]⟩,s⟩,
  bQ l1' (hold _ d (l2.trans y)),bG.fF (d2 _ dF) (z.left l2)⟩
theorem Yt{Q:Exit->F9}{K:F9}{H R:F8}{d:Nat}{t e e':TypeId}{x:Operand}{b i l c:Nat}{cs:FJ}(ht:P.underlying t=some (.slice e))(he:P.underlying e=some (.int .u8))(ho:o.op= .convert t t x)(hd:o.dst=some d)
  (hx:bo σ x=some (.slice (some ⟨b,i,none⟩) l c)) (hs:fP H (ag b e' cs) R) (hdn:Nat.blt d n=true)
  (h:G n ds F K ((d, .slice (some ⟨b,i,none⟩) l c)::σ) (ag b e' cs::R)):G n ds F (λa w=>o.wp P a w K Q) σ H:=by
 refine .mk λa w en s=> ?_;have s1:=s.uv hs;obtain⟨hh,⟨lo,hi,hf,hb⟩,hl⟩:=s1.get;have hw:w.heap[b]?=some (.cells cs.toArray e' (lo,hi)):=hl _ _ hb;have Z4:w.shape? b=some (e',cs.length):=by unfold World.shape?;rw[hw];simp
 unfold Oper.wp;have:(execOp a.eval o).run P w= .ok (.value (.slice (some ⟨b,i,none⟩) l c)) (w.freeze ⟨b,cs.length,none⟩ 1):=by
  simp[execOp,ho,en.eval hx,convert,run_underlying ht,run_underlying he,markStringish,Z4]
 rw[this,Oper.upon_value,hd];exact h _ _ (en.put hdn _) s1.freeze
theorem mE{K:F9}{H:F8}{X:Prop}(hx:∀h,gG H h->X)(h:X->G n ds F K σ H):G n ds F K σ H:= .mk λa w e s=>by
 obtain⟨hh,st,le,_⟩:=s.own;exact h (hx (lr w) (cj st le)) a w e s
theorem gG.nth:∀{H:F8} {h:Hp} (i:Nat) {A:aa},gG H h->H[i]?=some A->∃k,A k/\Le k h:=by
 intro H;induction H with
 |nil=>intro h i A _ e;simp at e
 |cons B r ih=>
  intro h i A ak e;cases i with
  |zero=>simp only[List.getElem?_cons_zero,Option.some.injEq]at e;subst e;exact ak.1
  |succ i=>exact ih i ak.2 (by simpa using e)
theorem tL{L:F8}{h:Hp}(o:∃k,aB L k/\Le k h):gG L h:=by
 obtain⟨k,p,l⟩:=o;exact cj p l
theorem jN{h:Hp}{b e:Nat}{cs:FJ}(o:∃k,ag b e cs k/\Le k h):gF h (some ⟨b,0,none⟩) cs:=by
 obtain⟨k,p,l⟩:=o;have:=(qB (i:=0) p).mono l;simpa using this
end
end Go.dC
namespace Go.dC
open Go
theorem oU{α:Type}(l:List α): []++l=l:=rfl
theorem cap{α:Type}(a:α)(l m:List α):(a::l)++m=a::(l++m):=rfl
theorem aO{A B:Prop}(h:A)(f:A->B:=by
  intro h
  first
   |(simp only[decide_eq_true_eq,decide_eq_false_iff_not,Bool.not_eq_true',Bool.not_eq_false',Bool.not_not,Bool.and_eq_true,Bool.or_eq_true,Bool.and_eq_false_iff,Bool.or_eq_false_iff,Int.not_lt,Int.not_le,Nat.not_lt,Nat.not_le,beq_iff_eq,bne_iff_ne,Bool.not_true,Bool.not_false]at h;exact h)
   |exact h):B:=f h
def Lh (ops:Array Oper)(o:Oper)(σ:aP):Bool:=
 match o.guard with
 |none=>true
 |some (j,b)=>match(ops[j]?).bind (·.dst)with
  |some t=>match look σ t with
   |some (.bool c)=>match c,b with|true,true=>true|false,false=>true|_,_=>false
   |_=>false
  |none=>false
def gno (ops:Array Oper)(o:Oper)(σ:aP):Bool:=
 match o.guard with
 |none=>false
 |some (j,b)=>match(ops[j]?).bind (·.dst)with
  |some t=>match look σ t with
   |some (.bool c)=>match c,b with|true,false=>true|false,true=>true|_,_=>false
   |some (.tuple vs)=>vs.isEmpty
   |_=>false
  |none=>false
section
variable {P:Program} {n:Nat} {ds:Dq} {F:dG} {Q:Exit->F9} {K:F9} {σ:aP} {H:F8} {o:Oper} {d:Nat} {ops:Array Oper} {rest:List Oper}
theorem jR{a:Act}(h:Lh ops o σ=true)(e:Env n ds σ a):Region.wanted o (yielded ops a.tmps)=true:=by
 unfold Lh at h;unfold Region.wanted;cases hg:o.guard with
 |none=>rfl
 |some p=>
  obtain⟨j,b⟩:=p;simp only[hg]at h⊢;cases hj:(ops[j]?).bind (·.dst)with
  |none=>rw[hj]at h;cases h
  |some t=>
   rw[hj]at h;simp only at h;cases ht:look σ t with
   |none=>rw[ht]at h;cases h
   |some v=>
    rw[ht]at h;cases v<;>simp at h;rename_i c;rw[yS hj ht e];cases c<;>cases b<;>simp_all
theorem oJ{a:Act}(h:gno ops o σ=true)(e:Env n ds σ a):Region.wanted o (yielded ops a.tmps)=false:=by
 unfold gno at h;unfold Region.wanted;cases hg:o.guard with
 |none=>rw[hg]at h;cases h
 |some p=>
  obtain⟨j,b⟩:=p;simp only[hg]at h⊢;cases hj:(ops[j]?).bind (·.dst)with
  |none=>rw[hj]at h;cases h
  |some t=>
   rw[hj]at h;simp only at h;cases ht:look σ t with
   |none=>rw[ht]at h;cases h
   |some v=>
    rw[ht]at h;cases v<;>simp at h
    ·rename_i c
     rw[yS hj ht e];cases c<;>cases b<;>simp_all
    subst h;have:yielded ops a.tmps j=none:=by simp[yielded,hj,e.slot t _ ht]
    rw[this];simp
theorem Lp (h:G n ds F (λa w=>o.wp P a w (wpList P ops Q rest) Q) σ H)(hg:Lh ops o σ=true:=by exact rfl):G n ds F (wpList P ops Q (o::rest)) σ H:=
 .mk λa w e s=>wpList_step λK hK=>by
  rw[if_pos (jR hg e)];exact Oper.wp_mono hK (h a w e s)
theorem Li{v:Value}(hy:Yv P n ds F σ o v)(h:G n ds F (wpList P ops Q rest) ((d,v)::σ) H)(hg:Lh ops o σ=true:=by exact rfl)(hd:o.dst=some d:=by exact rfl)(hdn:Nat.blt d n=true:=by exact rfl):
  G n ds F (wpList P ops Q (o::rest)) σ H:=Lp (ahp hy hd hdn h) hg
theorem Lx (h:G n ds F (wpList P ops Q rest) ((d,undef)::σ) H)(hg:gno ops o σ=true:=by exact rfl)(hd:o.dst=some d:=by exact rfl)(hdn:Nat.blt d n=true:=by exact rfl):G n ds F (wpList P ops Q (o::rest)) σ H:=
 .mk λa w e s=>wpList_step λK hK=>by
  rw[if_neg (by simp[oJ hg e]),hd];exact hK _ _ (h _ w (e.put hdn undef) s)
theorem gK{id:Nat}{l:List Oper}{y:Code}(h:G n ds F (wpList P l.toArray (Exit.then (y.wp P Q) Q) l) σ H):G n ds F ((Code.seq (Code.region id l.toArray false) y).wp P Q) σ H:=av (iN h)
theorem g_ne{K:F9}(h:G n ds F K σ H):G n ds F (wpList P ops (Exit.then K Q) []) σ H:=aD (Cr h)
theorem Aq{id:Nat}{As R:F8}(hm:P.follows .mixedOrders=true)(c9:iA H As R)
  (h:∀F':dG,Le F.h F'.h->gG As F'.h->z7 F As F'->G n ds F' (wpAnyH P .any ops Q (cG F') ops.size (Array.replicate ops.size false)) σ R):G n ds F ((Code.region id ops true).wp P Q) σ H:=aeb hm rfl c9 h
def ab5 (ops:Array Oper)(listed:Array Bool)(i:Nat):Bool:=Region.noSelect ops&&(Region.ready .any ops listed).contains i&&Region.free .any ops listed i
theorem LV{listed:Array Bool}{i:Nat}(h:ab5 ops listed i=true):BQ ops listed i (listed.setIfInBounds i true)=true:=by
 unfold BQ;unfold ab5 at h;rw[h];simp
theorem Dt{listed:Array Bool}{fuel:Nat}{oi:Oper}{v:Value}(i:Nat)(hi:ops[i]?=some oi)(hy:Yv P n ds F σ oi v)(h:G n ds F (wpAnyH P .any ops Q (cG F) fuel (listed.setIfInBounds i true)) ((d,v)::σ) H)
  (pC:ab5 ops listed i=true:=by kernel_rfl) (po:oF Q:=by repeat (first|with_reducible exact Yj|with_reducible apply Yi|with_reducible apply Ue|exact λ_ _ _ _ _ q=>q)) (hg:Lh ops oi σ=true:=by exact rfl) (hd:oi.dst=some d:=by exact rfl) (hdn:Nat.blt d n=true:=by exact rfl):
  G n ds F (wpAnyH P .any ops Q (cG F) (fuel+1) listed) σ H:=
 UU (LV pC) hi po (λa e=> .inl ⟨jR hg e,λw hw=>hy a w e hw⟩) (λa e=>by rw[hd];exact e.put hdn v) h
theorem Dn{listed:Array Bool}{fuel:Nat}{S:World->Prop}(i:Nat)(h:G n ds F (wpOp P ops Q i (λa' w'=>S w'/\wpAnyH P .any ops Q S fuel (listed.setIfInBounds i true) a' w')) σ H)(hr:Region.ready .any ops listed= [i]:=by kernel_rfl):
  G n ds F (wpAnyH P .any ops Q S (fuel+1) listed) σ H:=ad7 hr h
theorem D2{listed:Array Bool}{fuel:Nat}{S:World->Prop}(i j:Nat)
  (h1:G n ds F (wpOp P ops Q i (λa' w'=>S w'/\wpAnyH P .any ops Q S fuel (listed.setIfInBounds i true) a' w')) σ H)
  (h2:G n ds F (wpOp P ops Q j (λa' w'=>S w'/\wpAnyH P .any ops Q S fuel (listed.setIfInBounds j true) a' w')) σ H) (hr:Region.ready .any ops listed= [i,j]:=by kernel_rfl):G n ds F (wpAnyH P .any ops Q S (fuel+1) listed) σ H:=ad6 hr h1 h2
theorem Do{i:Nat}{oi:Oper}{K:F9}(hi:ops[i]?=some oi)(h:G n ds F (λa w=>oi.wp P a w K Q) σ H)(hg:Lh ops oi σ=true:=by exact rfl):G n ds F (wpOp P ops Q i K) σ H:=by
 refine .mk λa w e s=> ?_;unfold wpOp;simp only[hi,jR hg e,if_true];exact .inl (h a w e s)
theorem Mv{x:Operand}{v:Value}(ho:o.op= .move x:=by exact rfl)(hx:bo σ x=some v:=by exact rfl):Yv P n ds F σ o v:=acO ho hx
theorem As{x:Operand}{v:Value}(ho:o.op= .assign x:=by exact rfl)(hx:bo σ x=some v:=by exact rfl):Yv P n ds F σ o v:=Td ho hx
theorem Pt{c x y:Operand}{b:Bool}{v:Value}(ho:o.op= .pick c x y:=by exact rfl)(hc:bo σ c=some (.bool b):=by exact rfl)(hb:b=true:=by exact rfl)(hx:bo σ x=some v:=by exact rfl):Yv P n ds F σ o v:=S7 ho hc hb hx
theorem Pf{c x y:Operand}{b:Bool}{v:Value}(ho:o.op= .pick c x y:=by exact rfl)(hc:bo σ c=some (.bool b):=by exact rfl)(hb:b=false:=by exact rfl)(hx:bo σ y=some v:=by exact rfl):Yv P n ds F σ o v:=S8 ho hc hb hx
theorem Nc{x:Operand}{ad:Addr}(ho:o.op= .nilCheck x:=by exact rfl)(hx:bo σ x=some (.pointer (some ad)):=by exact rfl):Yv P n ds F σ o (.pointer (some ad)):=HY ho hx
theorem Fa{s f k b i:Nat}{x:Operand}(hk:aq P s f=some k)(ho:o.op= .fieldAddr s x f:=by exact rfl)(hx:bo σ x=some (.pointer (some ⟨b,i,none⟩)):=by exact rfl):Yv P n ds F σ o (.pointer (some ⟨b,i+k,none⟩)):=oa hk ho hx
theorem Fam{s f k j:Nat}{x:Operand}{a:FL}(hk:aq P s f=some k)(ho:o.op= .fieldAddr s x f:=by exact rfl)(hx:bo σ x=some (.pointer (a.map (·.add j))):=by exact rfl)(hs:a.isSome=true:=by first|rfl|assumption|exact gF.Q1 (by assumption) (by omega)):Yv P n ds F σ o (.pointer (a.map (·.add (j+k)))):=
 wK hk ho hx hs
theorem Ix{t e sz m:Nat}{x y:Operand}{a:FL}{l c j:Nat}{k:IntKind}{i:Int}(ht:dV P t=some (e,sz))(ho:o.op= .indexAddr t x y:=by exact rfl)(hx:bo σ x=some (.slice a l c):=by exact rfl)(hy:bo σ y=some (.int k i):=by exact rfl)
  (hj:i=(j:Int):=by exact rfl) (hl:j<l:=by first|omega|(simp only[List.length_append,List.length_cons,List.length_nil,List.length_take,List.length_drop];omega)) (hm:j*sz=m:=by first|exact Nat.mul_one _|rfl) (hs:a.isSome=true:=by first|rfl|assumption|exact gF.Q1 (by assumption) (by omega)):
  Yv P n ds F σ o (.pointer (a.map (·.add m))):=Jz ht ho hx hy hj hl hm hs
theorem Ex{x:Operand}{i:Nat}{vs:Array Value}{v:Value}(ho:o.op= .extract x i:=by exact rfl)(hx:bo σ x=some (.tuple vs):=by exact rfl)(hv:vs.toList[i]?=some v:=by exact rfl):Yv P n ds F σ o v:=LM ho hx hv
theorem Nt{t:TypeId}{x:Operand}{b:Bool}(ho:o.op= .unOp .not t x:=by exact rfl)(hx:bo σ x=some (.bool b):=by exact rfl):Yv P n ds F σ o (.bool (!b)):=ah9 ho hx
theorem Ng{t:TypeId}{x:Operand}{k:IntKind}{i z:Int}(ho:o.op= .unOp .neg t x:=by exact rfl)(hx:bo σ x=some (.int k i):=by exact rfl)(hz:k.wrap (0-i)=z:=by first|exact wrap_i64 (by omega)|rfl):Yv P n ds F σ o (.int k z):=aia ho hx hz
theorem Im{op:BinOp}{t yt:TypeId}{x y:Operand}{k:IntKind}{i j z:Int}(ho:o.op= .binOp op t x y yt:=by exact rfl)(hx:bo σ x=some (.int k i):=by exact rfl)(hy:bo σ y=some (.int k j):=by exact rfl)
  (hz:gh op k i j=some z:=by first|exact congrArg some (wrap_i64 (by omega))|exact congrArg some (wrap_u64 (by omega))|exact congrArg some (wrap_u32 (by omega))|exact congrArg some (wrap_u16 (by omega))|exact congrArg some (wrap_u8 (by omega))|exact congrArg some (wrap_i32 (by omega))|exact rfl):Yv P n ds F σ o (.int k z):=xQ ho hx hy hz
theorem Cm{op:BinOp}{t yt:TypeId}{x y:Operand}{k:IntKind}{i j:Int}{b:Bool}(ho:o.op= .binOp op t x y yt:=by exact rfl)(hx:bo σ x=some (.int k i):=by exact rfl)(hy:bo σ y=some (.int k j):=by exact rfl)(hz:Jt op i j=some b:=by exact rfl):Yv P n ds F σ o (.bool b):=aie ho hx hy hz
theorem Sh{t yt:TypeId}{x y:Operand}{k k':IntKind}{i j z:Int}(s:Nat)(ho:o.op= .binOp .shl t x y yt:=by exact rfl)(hx:bo σ x=some (.int k i):=by exact rfl)(hy:bo σ y=some (.int k' j):=by exact rfl)(hj:j=(s:Int):=by exact rfl)(hz:k.wrap (i*2^(min s k.bits))=z:=by exact rfl):Yv P n ds F σ o (.int k z):=ah8 ho hx hy hj hz
theorem Sr{t yt:TypeId}{x y:Operand}{k k':IntKind}{i j z:Int}(s:Nat)(ho:o.op= .binOp .shr t x y yt:=by exact rfl)(hx:bo σ x=some (.int k i):=by exact rfl)(hy:bo σ y=some (.int k' j):=by exact rfl)(hj:j=(s:Int):=by exact rfl)(hz:i.fdiv (2^(min s k.bits))=z:=by exact rfl):Yv P n ds F σ o (.int k z):=ah7 ho hx hy hj hz
theorem Cv{s t:TypeId}{x:Operand}{k k':IntKind}{i z:Int}(ht:P.underlying t=some (.int k))(hs:(P.underlying s).isSome=true)(ho:o.op= .convert s t x:=by exact rfl)(hx:bo σ x=some (.int k' i):=by exact rfl)
  (hz:k.wrap i=z:=by first|exact wrap_i64 (by omega)|exact wrap_u64 (by omega)|exact wrap_u32 (by omega)|exact wrap_u16 (by omega)|exact wrap_u8 (by omega)|exact wrap_i32 (by omega)|exact rfl):Yv P n ds F σ o (.int k z):=acQ ht hs ho hx hz
theorem Bq{op:BinOp}{t yt:TypeId}{x y:Operand}{i j b:Bool}(ht:P.underlying t=some .bool)(ho:o.op= .binOp op t x y yt:=by exact rfl)(hx:bo σ x=some (.bool i):=by exact rfl)(hy:bo σ y=some (.bool j):=by exact rfl)
  (hop:(op= .eql/\b=(i==j))\/(op= .neq/\b=(i !=j)):=by first|exact .inl ⟨rfl,rfl⟩|exact .inr ⟨rfl,rfl⟩):Yv P n ds F σ o (.bool b):=Tc ht ho hx hy hop
theorem Sq{op:BinOp}{t yt:TypeId}{x y:Operand}{i j:FI}{b:Bool}(ho:o.op= .binOp op t x y yt:=by exact rfl)(hx:bo σ x=some (a8 i):=by exact rfl)(hy:bo σ y=some (a8 j):=by exact rfl)
  (hop:(op= .eql/\b=decide (i=j))\/(op= .neq/\b= !decide (i=j)):=by first|exact .inl ⟨rfl,rfl⟩|exact .inr ⟨rfl,rfl⟩):Yv P n ds F σ o (.bool b):=Xt ho hx hy hop
theorem Pn{op:BinOp}{t yt e:TypeId}{x y:Operand}{p:FL}{b:Bool}(ht:P.underlying t=some (.pointer e))(ho:o.op= .binOp op t x y yt:=by exact rfl)(hx:bo σ x=some (.pointer p):=by exact rfl)(hy:bo σ y=some (.pointer none):=by exact rfl)
  (hop:(op= .eql/\b=p.isNone)\/(op= .neq/\b= !p.isNone):=by first|exact .inl ⟨rfl,rfl⟩|exact .inr ⟨rfl,rfl⟩):Yv P n ds F σ o (.bool b):=S6 ht ho hx hy hop
theorem Ln{t:TypeId}{x:Operand}{a:FL}{l c:Nat}{ek:TypeId×Nat}(ht:dV P t=some ek)(ho:o.op= .call {callee:= .builtin .len,args:= #[x],argTypes:= #[t]}:=by exact rfl)(hx:bo σ x=some (.slice a l c):=by exact rfl):Yv P n ds F σ o (.int .i64 l):=aid ht ho hx
theorem Ls{t:TypeId}{x:Operand}{l:FI}(ht:P.underlying t=some .string)(ho:o.op= .call {callee:= .builtin .len,args:= #[x],argTypes:= #[t]}:=by exact rfl)(hx:bo σ x=some (a8 l):=by exact rfl):Yv P n ds F σ o (.int .i64 l.length):=acP ht ho hx
theorem Mi{x y:Operand}{k:IntKind}{i j:Int}{q8:Array TypeId}(ho:o.op= .call {callee:= .builtin .min,args:= #[x,y],argTypes:=q8}:=by exact rfl)(hx:bo σ x=some (.int k i):=by exact rfl)(hy:bo σ y=some (.int k j):=by exact rfl):Yv P n ds F σ o (.int k (min i j)):=aib ho hx hy
theorem Ma{x y:Operand}{k:IntKind}{i j:Int}{q8:Array TypeId}(ho:o.op= .call {callee:= .builtin .max,args:= #[x,y],argTypes:=q8}:=by exact rfl)(hx:bo σ x=some (.int k i):=by exact rfl)(hy:bo σ y=some (.int k j):=by exact rfl):Yv P n ds F σ o (.int k (max i j)):=aic ho hx hy
theorem Bd{t:TypeId}{pl:List (Nat×Nat)}{zs vs cs:FJ}{parts:List (Nat×Operand)}(hz:bS P t=some zs)(hpl:jj P t=some pl)(ho:o.op= .build t parts.toArray:=by exact rfl)(hv:jL σ (parts.map (·.2))=some vs:=by exact rfl)
  (hc:o9 (λi=>pl[i]?) zs ((parts.map (·.1)).zip vs)=some cs:=by exact rfl):Yv P n ds F σ o (.agg cs.toArray):=Xw hz hpl ho hv hc
theorem Sl{t e sz:TypeId}{x:Operand}{lo hi mx:Option Operand}{a:FL}{len cap:Nat}(l hh m:Nat)(ht:dV P t=some (e,sz))(ho:o.op= .slice t x lo hi mx:=by exact rfl)(hx:bo σ x=some (.slice a len cap):=by exact rfl)
  (WO:DM σ lo 0 l:=by first|exact rfl|exact⟨_,_,rfl,rfl⟩|exact⟨_,_,rfl,by omega⟩) (hbh:DM σ hi len hh:=by first|exact rfl|exact⟨_,_,rfl,rfl⟩|exact⟨_,_,rfl,by omega⟩) (hbm:DM σ mx cap m:=by first|exact rfl|exact⟨_,_,rfl,rfl⟩|exact⟨_,_,rfl,by omega⟩)
  (h1:l<=hh:=by first|omega|(simp;omega)) (h2:hh<=m:=by first|omega|(simp;omega)) (h3:m<=cap:=by first|omega|(simp;omega)) (Gu:mx.isSome=true->hi.isSome=true:=by simp):Yv P n ds F σ o (.slice (BJ a l m (l*sz)) (hh-l) (m-l)):=Xu l hh m ht ho hx WO hbh hbm h1 h2 h3 Gu
theorem Ts{s t:TypeId}{x:Operand}{a:FL}{l:FI}{m c sz:Nat}{e:TypeId}(hs:dV P s=some (e,sz))(he:P.underlying e=some (.int .u8))(ht:P.underlying t=some .string)(ho:o.op= .convert s t x:=by exact rfl)
  (hx:bo σ x=some (.slice a m c):=by exact rfl) (hm:m=l.length:=by first|rfl|assumption) (hr:gF F.h a (aj l):=by assumption):Yv P n ds F σ o (a8 l):=HX hs he ht ho hx hm hr
theorem Cs{s t:TypeId}{x:Operand}{l:FI}(hs:P.underlying s=some .string)(ht:P.underlying t=some .string)(ho:o.op= .convert s t x:=by exact rfl)(hx:bo σ x=some (a8 l):=by exact rfl):Yv P n ds F σ o (a8 l):=Xv hs ht ho hx
def Bv (P:Program)(t:TypeId):Option (Nat×TypeId×Nat):=
 match P.underlying t with
 |some (.array k e)=>match P.info? e with
  |some i=>some (k,e,i.size)
  |none=>none
 |_=>none
theorem Ta{t e sz k m b i j:Nat}{x y:Operand}{kd:IntKind}{z:Int}(ht:Bv P t=some (k,e,sz))(ho:o.op= .indexAddr t x y)(hx:bo σ x=some (.pointer (some ⟨b,i,none⟩)))(hy:bo σ y=some (.int kd z))(hj:z=(j:Int))(hl:j<k)(hm:j*sz=m):Yv P n ds F σ o (.pointer (some ⟨b,i+m,none⟩)):=
 λa w en fr=>by
  unfold Bv at ht;cases hu:P.underlying t with
  |none=>simp[hu]at ht
  |some dsc=>
   cases dsc<;>simp[hu]at ht;rename_i k' e';cases hi:P.info? e' with
   |none=>simp[hi]at ht
   |some inf=>
    simp[hi]at ht;obtain⟨rfl,rfl,rfl⟩:=ht;subst hj;subst hm;simp[execOp,ho,Instr.indexAt,en.eval hx,en.eval hy,asIntOf,run_underlying hu,sizeOf,typeInfo,hi,hl,add_lit,Instr.sureAddr]
theorem Ia{t e sz k m b i j:Nat}{x y:Operand}{kd:IntKind}{z:Int}(ht:Bv P t=some (k,e,sz))(ho:o.op= .indexAddr t x y:=by exact rfl)(hx:bo σ x=some (.pointer (some ⟨b,i,none⟩)):=by exact rfl)(hy:bo σ y=some (.int kd z):=by exact rfl)(hj:z=(j:Int):=by exact rfl)
  (hl:j<k:=by omega) (hm:j*sz=m:=by first|exact Nat.mul_one _|rfl):Yv P n ds F σ o (.pointer (some ⟨b,i+m,none⟩)):=Ta ht ho hx hy hj hl hm
def PB (F:dG)(H:F8)(p:FL)(v:Value):Prop:=∃ad,p=some ad/\∀h,Le F.h h->gG H h->eJ h ad=some v
theorem rW{A:aa}{R:F8}(s:fP H A R):∀h,gG H h->∃k,A k/\Le k h:=by
 induction s with
 |here=>exact λh x=>x.1
 |there _ ih=>exact λh x=>ih h x.2
theorem Rv{b i:Nat}{e:TypeId}{cs:FJ}{R:F8}{v:Value}(s:fP H (ag b e cs) R)(hv:cs[i]?=some v):PB F H (some ⟨b,i,none⟩) v:=
 ⟨_,rfl,λh _ ak=>by obtain⟨k,p,l⟩:=rW s h ak;exact cU l (fx p hv)⟩
theorem Rx{a:FL}{k cap e sz:Nat}{v:Value}{cells:FJ}{R:F8}(hs:a.isSome=true)(s:fP H (own a cap e sz cells) R)(hv:cells[k]?=some v):PB F H (a.map (·.add k)) v:=by
 obtain⟨ad,rfl⟩:=Option.isSome_iff_exists.1 hs;refine⟨_,rfl,λh _ ak=> ?_⟩;obtain⟨m,p,l⟩:=rW s h ak;obtain⟨ad',e1,e2⟩:=oo p k v hv;cases e1;exact cU l e2
theorem xU{b i:Nat}{e:TypeId}{cs:FJ}{v:Value}(hp:∃k,ag b e cs k/\Le k F.h)(hv:cs[i]?=some v):PB F H (some ⟨b,i,none⟩) v:=by
 obtain⟨k,p,l⟩:=hp;exact⟨_,rfl,λh le _=>cU (l.trans le) (fx p hv)⟩
theorem Ea{a:FL}{k:Nat}{v:Value}{cells:FJ}(hr:gF F.h a cells)(hv:cells[k]?=some v):PB F H (a.map (·.add k)) v:=by
 obtain⟨ad,rfl,hc⟩:=hr k v hv;exact⟨_,rfl,λh le _=>cU le hc⟩
theorem Ji{a:FL}{k:Nat}{l:FI}(hr:gF F.h a (aj l))(hk:k<l.length):PB F H (a.map (·.add k)) (.int .u8 (Gm l k:Int)):=Ea hr (OP hk)
theorem Xe{ad:Addr}{v:Value}(hv:eJ F.h ad=some v):PB F H (some ad) v:=⟨_,rfl,λh le _=>cU le hv⟩
theorem oL{t:TypeId}{x:Operand}{p:FL}{v:Value}(hs:cY P t=true)(h:G n ds F K ((d,v)::σ) H)(ho:o.op= .load t x:=by exact rfl)(hd:o.dst=some d:=by exact rfl)(hx:bo σ x=some (.pointer p):=by exact rfl)
  (hk:PB F H p v:=by
   first
    |exact Rv (by repeat (first|exact fP.here|apply fP.there)) (by first|exact rfl|assumption)
    |exact Ea (by assumption) (by first|assumption|exact rfl)
    |exact Ji (by assumption) (by omega)
    |exact xU (by assumption) (by first|exact rfl|assumption)
    |exact Rx (by first|rfl|assumption) (by repeat (first|exact fP.here|apply fP.there)) (by first|assumption|exact rfl)
    |exact Xe (by assumption)) (hdn:Nat.blt d n=true:=by exact rfl):G n ds F (λa w=>o.wp P a w K Q) σ H:=by
 obtain⟨ad,rfl,hv⟩:=hk;exact ET hs ho hd hx (λw s=>by obtain⟨hh,st,le,_⟩:=s.own;exact hv _ s.frame (cj st le)) hdn h
theorem Lf{t:TypeId}{x:Operand}{p:FL}{v:Value}(hs:cY P t=true)(ho:o.op= .load t x:=by exact rfl)(hx:bo σ x=some (.pointer p):=by exact rfl)
  (hk:PB F [] p v:=by
   first
    |exact Ea (by assumption) (by first|assumption|exact rfl)
    |exact Ji (by assumption) (by omega)
    |exact xU (by assumption) (by first|exact rfl|assumption)
    |exact Xe (by assumption)):Yv P n ds F σ o v:=by
 obtain⟨ad,rfl,hv⟩:=hk;exact Jy hs ho hx (hv _ (Le.refl _) trivial)
def xP (F:dG)(H:F8)(p:FL)(_k:Nat)(vs:FJ):Prop:=∃ad,p=some ad/\∀h,Le F.h h->gG H h->∀j v,vs[j]?=some v->eJ h (ad.add j)=some v
theorem qf{cs vs:FJ}{i k j:Nat}{v:Value}(hv:(cs.drop i).take k=vs)(hj:vs[j]?=some v):cs[i+j]?=some v:=by
 rw[<-hv,List.getElem?_take]at hj;split at hj
 ·simpa using hj
 cases hj
theorem C5{b i k:Nat}{e:TypeId}{cs vs:FJ}{R:F8}(s:fP H (ag b e cs) R)(hv:(cs.drop i).take k=vs):xP F H (some ⟨b,i,none⟩) k vs:=
 ⟨_,rfl,λh _ ak j v hj=>by obtain⟨m,p,l⟩:=rW s h ak;rw[add_lit];exact cU l (fx p (qf hv hj))⟩
theorem E6{b k:Nat}{e:TypeId}{cs:FJ}{R:F8}(s:fP H (ag b e cs) R)(hv:cs.length=k):xP F H (some ⟨b,0,none⟩) k cs:=
 C5 s (by rw[List.drop_zero,List.take_of_length_le (by omega)])
theorem BZ{b i k:Nat}{e:TypeId}{cs vs:FJ}(hp:∃m,ag b e cs m/\Le m F.h)(hv:(cs.drop i).take k=vs):xP F H (some ⟨b,i,none⟩) k vs:=by
 obtain⟨m,p,l⟩:=hp;exact⟨_,rfl,λh le _ j v hj=>by rw[add_lit];exact cU (l.trans le) (fx p (qf hv hj))⟩
theorem BY{a:FL}{i k:Nat}{cells vs:FJ}(hr:gF F.h a cells)(hv:(cells.drop i).take k=vs)(h0:a.isSome=true):xP F H (a.map (·.add i)) k vs:=by
 obtain⟨ad,rfl⟩:=Option.isSome_iff_exists.1 h0;refine⟨_,rfl,λh le _ j v hj=> ?_⟩;obtain⟨ad',e1,e2⟩:=hr _ v (qf hv hj);cases e1;rw[add_add];exact cU le e2
theorem Kk{a:FL}{i k cap e sz:Nat}{cells vs:FJ}{R:F8}(h0:a.isSome=true)(s:fP H (own a cap e sz cells) R)(hv:(cells.drop i).take k=vs):xP F H (a.map (·.add i)) k vs:=by
 obtain⟨ad,rfl⟩:=Option.isSome_iff_exists.1 h0;refine⟨_,rfl,λh _ ak j v hj=> ?_⟩;obtain⟨m,p,l⟩:=rW s h ak;obtain⟨ad',e1,e2⟩:=oo p _ v (qf hv hj);cases e1;rw[add_add];exact cU l e2
theorem AU{t k:TypeId}{x:Operand}{p:FL}{vs:FJ}(hs:cP P t=some k)(ho:o.op= .load t x)(hd:o.dst=some d)(hx:bo σ x=some (.pointer p))(hk:xP F H p k vs)(hl:vs.length=k)(hdn:Nat.blt d n=true)
  (h:G n ds F K ((d, .agg vs.toArray)::σ) H):G n ds F (λa w=>o.wp P a w K Q) σ H:=by
 obtain⟨ad,rfl,hv⟩:=hk;refine rY hd hdn (λac w en s=> ?_) h;obtain⟨hh,st,le,_⟩:=s.own;have hc:=hv _ s.frame (cj st le);subst hl;simp[execOp,ho,en.eval hx,Instr.loadAt,Instr.sureAddr,loadVar,(fE hs).1,(fE hs).2,run_loadCells_list w _ vs hc]
theorem oLN{t k:TypeId}{x:Operand}{p:FL}{vs:FJ}(hs:cP P t=some k)(h:G n ds F K ((d, .agg vs.toArray)::σ) H)(ho:o.op= .load t x:=by exact rfl)(hd:o.dst=some d:=by exact rfl)(hx:bo σ x=some (.pointer p):=by exact rfl)
  (hk:xP F H p k vs:=by
   first
    |exact E6 (by repeat (first|exact fP.here|apply fP.there)) (by exact rfl)
    |exact C5 (by repeat (first|exact fP.here|apply fP.there)) (by exact rfl)
    |exact BY (by assumption) (by first|assumption|exact rfl) (by first|rfl|assumption)
    |exact BZ (by assumption) (by exact rfl)
    |exact Kk (by first|rfl|assumption) (by repeat (first|exact fP.here|apply fP.there)) (by first|assumption|exact rfl))
  (hl:vs.length=k:=by first|rfl|(simp;omega)) (hdn:Nat.blt d n=true:=by exact rfl):G n ds F (λa w=>o.wp P a w K Q) σ H:=AU hs ho hd hx hk hl hdn h
theorem S9{t k:TypeId}{x:Operand}{p:FL}{vs:FJ}(hs:cP P t=some k)(ho:o.op= .load t x)(hx:bo σ x=some (.pointer p))(hk:xP F [] p k vs)(hl:vs.length=k):Yv P n ds F σ o (.agg vs.toArray):=by
 obtain⟨ad,rfl,hv⟩:=hk;intro ac w en fr;have hc:=hv _ fr trivial;subst hl;simp[execOp,ho,en.eval hx,Instr.loadAt,Instr.sureAddr,loadVar,(fE hs).1,(fE hs).2,run_loadCells_list w _ vs hc]
theorem LfN{t k:TypeId}{x:Operand}{p:FL}{vs:FJ}(hs:cP P t=some k)(ho:o.op= .load t x:=by exact rfl)(hx:bo σ x=some (.pointer p):=by exact rfl)
  (hk:xP F [] p k vs:=by
   first
    |exact BY (by assumption) (by first|assumption|exact rfl) (by first|rfl|assumption)
    |exact BZ (by assumption) (by exact rfl)) (hl:vs.length=k:=by first|rfl|(simp;omega)):Yv P n ds F σ o (.agg vs.toArray):=S9 hs ho hx hk hl
theorem oS{t:TypeId}{x y:Operand}{b i:Nat}{e:TypeId}{cs:FJ}{f:aa->F8}{v:Value}(hs:cY P t=true)(h:G n ds F K σ (f (ag b e (cs.set i v))))(ho:o.op= .store t x y:=by exact rfl)(hd:o.dst=none:=by exact rfl)
  (hx:bo σ x=some (.pointer (some ⟨b,i,none⟩)):=by exact rfl) (hy:bo σ y=some v:=by exact rfl) (hu:Pos H (ag b e cs) f:=by repeat (first|exact Pos.here|apply Pos.there)) (h1:v.oneCell'=true:=by first|rfl|decide|simp) (hi:i<cs.length:=by first|decide|(simp;done)|(simp;omega)|omega):
  G n ds F (λa w=>o.wp P a w K Q) σ H:=ES hs ho hd hx hy h1 hu hi h
theorem oSN{t k:TypeId}{x y:Operand}{b i:Nat}{e:TypeId}{cs vs:FJ}{f:aa->F8}(hs:cP P t=some k)(h:G n ds F K σ (f (ag b e (cL cs i vs))))(ho:o.op= .store t x y:=by exact rfl)(hd:o.dst=none:=by exact rfl)
  (hx:bo σ x=some (.pointer (some ⟨b,i,none⟩)):=by exact rfl) (hy:bo σ y=some (.agg vs.toArray):=by exact rfl) (hk:vs.length=k:=by exact rfl) (h1:∀v∈vs,v.oneCell'=true:=by simp[cL,Value.cells,Value.oneCell',a8])
  (hu:Pos H (ag b e cs) f:=by repeat (first|exact Pos.here|apply Pos.there)) (hi:i+vs.length<=cs.length:=by simp[cL,v7]):G n ds F (λa w=>o.wp P a w K Q) σ H:=vf hs ho hd hx hy hk h1 hu hi h
theorem TR{cs vs:FJ}(h:vs.length=cs.length):cL cs 0 vs=vs:=by
 rw[ml (by omega)];simp[h]
theorem jh{t k:TypeId}{x y:Operand}{b:Nat}{e:TypeId}{cs vs:FJ}{f:aa->F8}(hs:cP P t=some k)(h:G n ds F K σ (f (ag b e vs)))(ho:o.op= .store t x y:=by exact rfl)(hd:o.dst=none:=by exact rfl)
  (hx:bo σ x=some (.pointer (some ⟨b,0,none⟩)):=by exact rfl) (hy:bo σ y=some (.agg vs.toArray):=by exact rfl) (hk:vs.length=k:=by exact rfl) (h1:∀v∈vs,v.oneCell'=true:=by simp[cL,Value.cells,Value.oneCell',a8])
  (hu:Pos H (ag b e cs) f:=by repeat (first|exact Pos.here|apply Pos.there)) (hl:cs.length=k:=by exact rfl):G n ds F (λa w=>o.wp P a w K Q) σ H:=
 vf hs ho hd hx hy hk h1 hu (by omega) (by rw[TR (by omega)];exact h)
theorem oSO{t:TypeId}{x y:Operand}{a:FL}{k cap e sz:Nat}{cells:FJ}{f:aa->F8}{v:Value}(hs:cY P t=true)(h:G n ds F K σ (f (own a cap e sz (cells.set k v))))(ho:o.op= .store t x y:=by exact rfl)(hd:o.dst=none:=by exact rfl)
  (hx:bo σ x=some (.pointer (a.map (·.add k))):=by exact rfl) (hy:bo σ y=some v:=by exact rfl) (hu:Pos H (own a cap e sz cells) f:=by repeat (first|exact Pos.here|apply Pos.there)) (h1:v.oneCell'=true:=by first|rfl|decide|simp)
  (hk:k<cells.length:=by first|omega|(simp;omega)):G n ds F (λa w=>o.wp P a w K Q) σ H:=MC hs ho hd hx hy h1 hu hk h
theorem oB{t:TypeId}{x:Operand}{v:Value}{cs:FJ}(h:∀b,G n ds F K ((d, .pointer (some ⟨b,0,none⟩))::σ) (ag b t cs::H))(ho:o.op= .box t x:=by exact rfl)(hd:o.dst=some d:=by exact rfl)(hx:bo σ x=some v:=by exact rfl)(hc:v.cells=cs.toArray:=by exact rfl)(hdn:Nat.blt d n=true:=by exact rfl):
  G n ds F (λa w=>o.wp P a w K Q) σ H:=adL ho hd hx hc hdn h
theorem oA{t:TypeId}{cs:FJ}(hz:bS P t=some cs)(h:∀b,G n ds F K ((d, .pointer (some ⟨b,0,none⟩))::σ) (ag b t cs::H))(ho:o.op= .alloc t:=by exact rfl)(hd:o.dst=some d:=by exact rfl)(hdn:Nat.blt d n=true:=by exact rfl):
  G n ds F (λa w=>o.wp P a w K Q) σ H:=Un hz ho hd hdn h
theorem oT{t:TypeId}{e mQ len:Nat}{z vs:FJ}{parts:List (Nat×Operand)}(ht:uF P t=some (e,1,mQ,z))(h:∀b,G n ds F K ((d, .slice (some ⟨b,0,none⟩) len len)::σ) (ag b e vs::H))(ho:o.op= .buildSlice t len parts.toArray:=by exact rfl)(hd:o.dst=some d:=by exact rfl)(hv:jL σ (parts.map (·.2))=some vs:=by exact rfl)
  (hk:Nat.ble (len*1) 16777216=true:=by exact rfl) (hi:parts.map (·.1)=List.range' 0 vs.length:=by exact rfl) (hlen:vs.length=len:=by exact rfl) (h1:∀v∈vs,v.oneCell'=true:=by simp[Value.oneCell',a8]) (hdn:Nat.blt d n=true:=by exact rfl):
  G n ds F (λa w=>o.wp P a w K Q) σ H:=Yw ht ho hd hv hk hi hlen h1 hdn h
theorem oT1{t:TypeId}{e sz mQ:Nat}{z cs:FJ}{x:Operand}(ht:uF P t=some (e,sz,mQ,z))(h:∀b,G n ds F K ((d, .slice (some ⟨b,0,none⟩) 1 1)::σ) (ag b e cs::H))(ho:o.op= .buildSlice t 1 #[(0,x)]:=by exact rfl)(hd:o.dst=some d:=by exact rfl)(hx:bo σ x=some (.agg cs.toArray):=by exact rfl)
  (hl:cs.length=sz:=by exact rfl) (hk:Nat.ble (1*sz) 16777216=true:=by exact rfl) (hdn:Nat.blt d n=true:=by exact rfl):G n ds F (λa w=>o.wp P a w K Q) σ H:=Yx ht ho hd hx hl hk hdn h
theorem oMk{t e e':TypeId}{x:Operand}{b i l c:Nat}{cs:FJ}{R:F8}(ht:P.underlying t=some (.slice e))(he:P.underlying e=some (.int .u8))(h:G n ds F K ((d, .slice (some ⟨b,i,none⟩) l c)::σ) (ag b e' cs::R))(ho:o.op= .convert t t x:=by exact rfl)(hd:o.dst=some d:=by exact rfl)
  (hx:bo σ x=some (.slice (some ⟨b,i,none⟩) l c):=by exact rfl) (hs:fP H (ag b e' cs) R:=by repeat (first|exact fP.here|apply fP.there)) (hdn:Nat.blt d n=true:=by exact rfl):G n ds F (λa w=>o.wp P a w K Q) σ H:=Yt ht he ho hd hx hs hdn h
theorem oM{t:TypeId}{e sz mQ:Nat}{z:FJ}{x y:Operand}{k k':IntKind}{i j:Int}(l c:Nat)(ht:uF P t=some (e,sz,mQ,z))(h:∀b,G n ds F K ((d, .slice (some ⟨b,0,none⟩) l c)::σ) (ag b e (gV z (c*sz))::H))(ho:o.op= .makeSlice t x y:=by exact rfl)(hd:o.dst=some d:=by exact rfl)
  (hx:bo σ x=some (.int k i):=by exact rfl) (hy:bo σ y=some (.int k' j):=by exact rfl) (xz:i=(l:Int):=by first|omega|(simp;omega)) (hj:j=(c:Int):=by first|omega|(simp;omega)) (hlc:l<=c:=by first|omega|(simp;omega)) (hc:c*mQ<=281474976710656:=by first|omega|(simp;omega))
  (qx:c<=9223372036854775807:=by first|omega|(simp;omega)) (hdn:Nat.blt d n=true:=by exact rfl):G n ds F (λa w=>o.wp P a w K Q) σ H:=Yu ht ho hd hx hy xz hj hlc hc qx hdn h
theorem oC{f:FuncId}{xs:List Operand}{vs:FJ}{q8:Array TypeId}{pre:Hp->Prop}{A2 R:F8}{T:Dp}(kH:ay P f=true)(ho:o.op= .call {callee:= .value (.func f),args:=xs.toArray,argTypes:=q8})(hv:jL σ xs=some vs)(hc:aG P f vs pre A2 T)(c9:iA H A2 R)(gX:∀h,Le F.h h->gG R h->pre h)
  (h:∀v H',T v H'->G n ds F K ((d,v)::σ) (H'++R)) (hd:o.dst=some d:=by exact rfl) (hdn:Nat.blt d n=true:=by exact rfl):
  G n ds F (λa w=>o.wp P a w K Q) σ H:=Yy kH ho hd hv hc c9 gX hdn h
theorem Eh{A B:F8}(h:∀h,ai A h->ai B h:=by
  first
   |exact λ_ x=>x
   |(apply eF;(repeat' (first|exact iA.nil|apply iA.cons|exact fP.here|apply fP.there));done)
   |(refine afi ?_;simp;done)):∀h,ai A h->ai B h:=h
theorem Hh{K:F9}{H':F8}(h:G n ds F K σ H')(hh:∀h,ai H h->ai H' h:=by exact Eh):G n ds F K σ H:=au hh h
theorem Sb{A B:aP}(h:pH A B:=by
  repeat' first
   |exact trivial
   |refine And.intro ?_ ?_
   |exact rfl
   |(refine congrArg (λq=>some (Value.int _ q)) ?_;omega)
   |(refine congrArg (λq=>some (Value.slice _ q _)) ?_;omega)
   |(refine congrArg (λq=>some (Value.bool q)) ?_;rw[Bool.eq_iff_iff];simp only[Bool.or_eq_true,Bool.and_eq_true,decide_eq_true_eq,Bool.not_eq_true',decide_eq_false_iff_not,Bool.false_eq_true,true_iff,false_iff,iff_true,iff_false];first|omega|grind)
   |(refine congrArg (λq=>some (Value.bool q)) ?_;simp[*];done)):pH A B:=h
theorem Lo{ι:Type}{c:Code}(jF:FH)(I:ι->Prop)(L:ι->aP)(HI:ι->F8)(μ:ι->Nat)(i₀:ι)(h0:I i₀)
  (round:∀i,I i->G n ds F (c.wp P (Exit.then (qF n ds F jF σ I L HI μ i) Q)) (L i++fH jF σ) (HI i)) (hs:pH (L i₀) σ:=by exact Sb) (hh:∀h,ai H h->ai (HI i₀) h:=by exact Eh):G n ds F ((Code.loop c).wp P Q) σ H:=
 Zj jF I L HI μ i₀ h0 hs hh round
theorem Ro{ι:Type}{jF:FH}{σ0:aP}{I:ι->Prop}{L:ι->aP}{HI:ι->F8}{μ:ι->Nat}{i:ι}(j:ι)(hI:I j)(hm:μ j<μ i)(hs:pH (L j) σ:=by exact Sb)(hk:fH jF σ=fH jF σ0:=by exact rfl)(hh:∀h,ai H h->ai (HI j) h:=by exact Eh):
  G n ds F (Exit.then (qF n ds F jF σ0 I L HI μ i) Q .normal) σ H:=VH j hI hm hs hk hh
theorem Me{ι:Type}{jF:FH}{σ0:aP}{I:ι->Prop}{L:ι->aP}{HI:ι->F8}(j:ι)(hI:I j)(hs:pH (L j) σ:=by exact Sb)(hk:fH jF σ=fH jF σ0:=by exact rfl)(hh:∀h,ai H h->ai (HI j) h:=by exact Eh):
  G n ds F (Exit.then (Er n ds F jF σ0 I L HI) Q .normal) σ H:=abh j hI hs hk hh
theorem Rt{fn:Func}{R:Dp}{t:Nat}{v:Value}(H':F8)(hr:fn.results= #[.tmp t])(hR:R v H')(hv:look σ t=some v:=by exact rfl)(hh:∀h,ai H h->ai H' h:=by exact Eh):
  G n [] F (bodyPost P fn (λe w'=>∃v H',e= .returned v/\R v H'/\St F H' w') .ret) σ H:=ajp hr hv hR hh
theorem Rt0{fn:Func}{R:Dp}(H':F8)(hr:fn.results= #[])(hR:R (.tuple #[]) H')(hh:∀h,ai H h->ai H' h:=by exact Eh):
  G n [] F (bodyPost P fn (λe w'=>∃v H',e= .returned v/\R v H'/\St F H' w') .ret) σ H:=afn hr hR hh
theorem jU{fn:Func}{R:Dp}(H':F8)(hr:fn.results= #[])(hR:R (.tuple #[]) H')(hh:∀h,ai H h->ai H' h:=by exact Eh):
  G n [] F (bodyPost P fn (λe w'=>∃v H',e= .returned v/\R v H'/\St F H' w') .normal) σ H:=afo hr hR hh
theorem jT{fn:Func}{R:Dp}{t u:Nat}{v x:Value}(H':F8)(hr:fn.results= #[.tmp t, .tmp u])(hR:R (.tuple #[v,x]) H')(hv:look σ t=some v:=by exact rfl)(hx:look σ u=some x:=by exact rfl)(hh:∀h,ai H h->ai H' h:=by exact Eh):
  G n [] F (bodyPost P fn (λe w'=>∃v H',e= .returned v/\R v H'/\St F H' w') .ret) σ H:=afm hr hv hx hR hh
theorem Jc{fn:Func}{T:Dp}{t ty b i k:Nat}{e:TypeId}{cs vs:FJ}{R:F8}(H':F8)(hs:cP P ty=some k)(hr:fn.results= #[.cell t ty])(hR:T (.agg vs.toArray) H')(ht:look σ t=some (.pointer (some ⟨b,i,none⟩)):=by exact rfl)
  (c9:fP H (ag b e cs) R:=by repeat (first|exact fP.here|apply fP.there)) (hv:(cs.drop i).take k=vs:=by exact rfl) (hk:vs.length=k:=by exact rfl) (hh:∀h,ai H h->ai H' h:=by exact Eh):G n [] F (bodyPost P fn (λe w'=>∃v H',e= .returned v/\T v H'/\St F H' w') .ret) σ H:=
 afl hs hr ht c9 hv hk hR hh
end
end Go.dC
