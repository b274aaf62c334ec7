/- Part Pa of the proof. -/
import Derived.KernelRfl
import Derived.Laws.Pointers
import Derived.OrdersHeld
import Derived.WalkKit
set_option maxRecDepth 100000
namespace Go.dQ
open Go
abbrev vA:Value:= .int .i64 0
def vy:Nat->Nat->List Nat->List Nat
 |_,0,r=>r
 |a,n+1,r=>a::vy (a+1) n r
def FZ:List Nat->List Nat
 |a::n::r=>vy a n (FZ r)
 |_=> []
abbrev FX:=Option Addr
abbrev FW:=Option Nat
abbrev FV:=List Value
abbrev F9:=List UInt8
abbrev F8:=List Nat
abbrev F7:=Act->World->Prop
abbrev Dy:=List (List Nat)
abbrev Dx:=List Deferred
abbrev Hp:=Nat->Option Obj
abbrev aa:=Hp->Prop
abbrev vz:Hp->Prop:=λ_=>True
abbrev Dz:=List aa
abbrev DF:=Value->List aa->Prop
abbrev aT:=List (Nat×Value)
def Le (h k:Hp):Prop:=∀b o,h b=some o->k b=some o
def bP (h k:Hp):Prop:=∀b,h b=none\/k b=none
theorem Le.refl (h:Hp):Le h h:=λ_ _ e=>e
theorem Le.trans{h k l:Hp}(a:Le h k)(b:Le k l):Le h l:=λx o e=>b x o (a x o e)
theorem bP.symm{h k:Hp}(d:bP h k):bP k h:=λb=>(d b).symm
theorem bP.left{h h' k:Hp}(d:bP h k)(l:Le h' h):bP h' k:=λb=>by
 cases e:h' b with
 |none=>exact .inl rfl
 |some o=>exact(d b).imp (λx=>by rw[l b o e]at x;cases x) id
theorem bP.right{h k k':Hp}(d:bP h k)(l:Le k' k):bP h k':=(d.symm.left l).symm
def ai:Dz->Hp->Prop
 | [],_=>True
 |A::r,h=>∃h1 h2,bP h1 h2/\Le h1 h/\Le h2 h/\A h1/\ai r h2
structure dM where
 os:Os
 tape:Nat->Question->Nat
 output:Array (Nat×ByteArray)
 h:Hp
 d:Nat
def ki (w:World):Hp:=λb=>w.heap[b]?
structure St (F:dM)(H:Dz)(w:World):Prop where
 os:w.os=F.os
 tape:w.tape=F.tape/\F.d<=w.drawn
 output:w.output=F.output
 frame:Le F.h (ki w)
 own:∃h,ai H h/\Le h (ki w)/\bP h F.h
theorem eW{H:Dz}{h k:Hp}(s:ai H h)(l:Le h k):ai H k:=by
 cases H with
 |nil=>trivial
 |cons A r=>obtain⟨h1,h2,d,l1,l2,a,s⟩:=s;exact⟨h1,h2,d,l1.trans l,l2.trans l,a,s⟩
def fH (h k:Hp):Hp:=λb=>match h b with|some o=>some o|none=>k b
theorem aU (h k:Hp):Le h (fH h k):=λb o e=>by simp[fH,e]
theorem aP{h k:Hp}(d:bP h k):Le k (fH h k):=λb o e=>by
 have:h b=none:=(d b).resolve_right (by simp[e]);simp[fH,this,e]
theorem bX{h k l:Hp}(a:Le h l)(b:Le k l):Le (fH h k) l:=λx o e=>by
 unfold fH at e;cases hx:h x with
 |some o'=>rw[hx]at e;cases e;exact a x _ hx
 |none=>rw[hx]at e;exact b x o e
theorem bP.fH{h k l:Hp}(a:bP h l)(b:bP k l):bP (fH h k) l:=λx=>by
 rcases a x with e|e
 ·rcases b x with e2|e2
  ·exact .inl (by simp[dQ.fH,e,e2])
  exact .inr e2
 exact .inr e
theorem dH{A B:aa}{R:Dz}{h:Hp}(s:ai (A::B::R) h):ai (B::A::R) h:=by
 obtain⟨h1,h2,d,l1,l2,a,h3,h4,d',l3,l4,b,s⟩:=s;refine⟨h3,fH h1 h4, ?_,l3.trans l2,bX l1 (l4.trans l2),b,h1,h4,d.right l4,aU _ _,aP (d.right l4),a,s⟩;exact(bP.fH (d.right l3) d'.symm).symm
inductive fO:Dz->aa->Dz->Prop
 |here {A r}:fO (A::r) A r
 |there {A B r r'} (h:fO r A r'):fO (B::r) A (B::r')
theorem fO.t2{a0 a1 x:aa}{H R:List aa}(s:fO H x R):fO (a0::a1::H) x (a0::a1::R):= .there (.there (s))
theorem fO.t3{a0 a1 a2 x:aa}{H R:List aa}(s:fO H x R):fO (a0::a1::a2::H) x (a0::a1::a2::R):= .there (.there (.there (s)))
theorem fO.t4{a0 a1 a2 a3 x:aa}{H R:List aa}(s:fO H x R):fO (a0::a1::a2::a3::H) x (a0::a1::a2::a3::R):= .there (.there (.there (.there (s))))
theorem fO.t8{a0 a1 a2 a3 a4 a5 a6 a7 x:aa}{H R:List aa}(s:fO H x R):fO (a0::a1::a2::a3::a4::a5::a6::a7::H) x (a0::a1::a2::a3::a4::a5::a6::a7::R):= .there (.there (.there (.there (.there (.there (.there (.there (s))))))))
theorem aJ{A:aa}{R R':Dz}(f:∀h,ai R h->ai R' h){h:Hp}(s:ai (A::R) h):ai (A::R') h:=by
 obtain⟨h1,h2,d,l1,l2,a,s⟩:=s;exact⟨h1,h2,d,l1,l2,a,f _ s⟩
theorem fO.out{H:Dz}{A:aa}{R:Dz}(s:fO H A R):∀h,ai H h->ai (A::R) h:=by
 induction s with
 |here=>exact λh x=>x
 |there _ ih=>exact λh x=>dH (aJ ih x)
theorem fO.back{H:Dz}{A:aa}{R:Dz}(s:fO H A R):∀h,ai (A::R) h->ai H h:=by
 induction s with
 |here=>exact λh x=>x
 |there _ ih=>exact λh x=>aJ ih (dH x)
inductive Pos:Dz->aa->(aa->Dz)->Prop
 |here {A r}:Pos (A::r) A (λB=>B::r)
 |there {A C r f} (h:Pos r A f):Pos (C::r) A (λB=>C::f B)
theorem Pos.t2{a0 a1 x:aa}{H:List aa}{f:aa->List aa}(s:Pos H x f):Pos (a0::a1::H) x (λy=>a0::a1::f y):= .there (.there (s))
theorem Pos.t3{a0 a1 a2 x:aa}{H:List aa}{f:aa->List aa}(s:Pos H x f):Pos (a0::a1::a2::H) x (λy=>a0::a1::a2::f y):= .there (.there (.there (s)))
theorem Pos.t4{a0 a1 a2 a3 x:aa}{H:List aa}{f:aa->List aa}(s:Pos H x f):Pos (a0::a1::a2::a3::H) x (λy=>a0::a1::a2::a3::f y):= .there (.there (.there (.there (s))))
theorem Pos.t8{a0 a1 a2 a3 a4 a5 a6 a7 x:aa}{H:List aa}{f:aa->List aa}(s:Pos H x f):Pos (a0::a1::a2::a3::a4::a5::a6::a7::H) x (λy=>a0::a1::a2::a3::a4::a5::a6::a7::f y):= .there (.there (.there (.there (.there (.there (.there (.there (s))))))))
theorem Pos.uZ{H:Dz}{A:aa}{f:aa->Dz}(u:Pos H A f):∃R,fO H A R/\∀B,fO (f B) B R:=by
 induction u with
 |here=>exact⟨_, .here,λ_=> .here⟩
 |there _ ih=>obtain⟨R,a,b⟩:=ih;exact⟨_,a.there,λB=>(b B).there⟩
theorem St.sub{F:dM}{H H':Dz}{w:World}(f:∀h,ai H h->ai H' h)(s:St F H w):St F H' w:=by
 obtain⟨a,b,c,d,h,x,y,z⟩:=s;exact⟨a,b,c,d,h,f _ x,y,z⟩
theorem St.uZ{F:dM}{H R:Dz}{A:aa}{w:World}(s:fO H A R)(h:St F H w):St F (A::R) w:=h.sub s.out
theorem St.qt{F:dM}{H R:Dz}{A:aa}{w:World}(s:fO H A R)(h:St F (A::R) w):St F H w:=h.sub s.back
theorem bo{A B:aa}{R:Dz}(f:∀h,A h->B h){h:Hp}(s:ai (A::R) h):ai (B::R) h:=by
 obtain⟨h1,h2,d,l1,l2,a,s⟩:=s;exact⟨h1,h2,d,l1,l2,f _ a,s⟩
theorem St.drop{F:dM}{H:Dz}{A:aa}{w:World}(s:St F (A::H) w):St F H w:=
 s.sub λ_ x=>by obtain⟨_,_,_,_,l2,_,s⟩:=x;exact eW s l2
theorem St.get{F:dM}{H:Dz}{A:aa}{w:World}(s:St F (A::H) w):∃h,A h/\Le h (ki w):=by
 obtain⟨_,_,_,_,h,⟨h1,h2,d,l1,l2,a,s⟩,y,z⟩:=s;exact⟨h1,a,l1.trans y⟩
def eO (h:Hp)(a:Addr):Option Value:=
 match h a.block with
 |some (.cells c _ _)=>if a.spot.isSome then none else c[a.off]?
 |_=>none
theorem dh{h k:Hp}(l:Le h k){a:Addr}{v:Value}(e:eO h a=some v):eO k a=some v:=by
 unfold eO at*;cases x:h a.block with
 |none=>simp[x]at e
 |some o=>rw[l _ _ x];rw[x]at e;exact e
theorem mB{h:Hp}{w:World}(l:Le h (ki w)){a:Addr}{v:Value}(e:eO h a=some v):w.cell? a=some v:=dh l e
inductive ag (b:Nat) (e:TypeId) (cs:FV) (h:Hp):Prop
 |mk (lo hi:Nat) (hf:hi=lo\/cs.length<=lo) (hb:h b=some (.cells cs.toArray e (lo,hi)))
theorem fB{b:Nat}{e:TypeId}{cs:FV}{h:Hp}(p:ag b e cs h){i:Nat}{v:Value}(hv:cs[i]?=some v):eO h ⟨b,i,none⟩=some v:=by
 obtain⟨lo,hi,_,hb⟩:=p;simp[eO,hb,hv]
theorem uz{b:Nat}{e:TypeId}{cs:FV}{h:Hp}(p:ag b e cs h){i:Nat}(hi:i<cs.length){w:World}(l:Le h (ki w)):w.frozen? ⟨b,i,none⟩=false:=by
 obtain⟨lo,xN,hf,hb⟩:=p;have:w.heap[b]?=some (.cells cs.toArray e (lo,xN)):=l _ _ hb;simp only[World.frozen?,this];simp only[Bool.and_eq_false_iff,decide_eq_false_iff_not];omega
theorem amg (w:World)(b i:Nat)(v:Value)(cs:Array Value)(e:TypeId)(fz:Nat×Nat)(h:w.heap[b]?=some (.cells cs e fz)):
  (w.setCell ⟨b,i,none⟩ v).heap[b]?=some (.cells (cs.setIfInBounds i v) e fz):=by
 obtain⟨ct,h'⟩:=Array.getElem?_eq_some_iff.1 h;simp[World.setCell,Array.getElem?_modify,h]
theorem St.setCell{F:dM}{H:Dz}{w:World}{b i:Nat}{e:TypeId}{cs:FV}(s:St F (ag b e cs::H) w)(v:Value):
  St F (ag b e (cs.set i v)::H) (w.setCell ⟨b,i,none⟩ v):=by
 obtain⟨a1,a2,a3,fr,h,⟨h1,h2,d,l1,l2,⟨lo,hi,hf,hb⟩,s⟩,y,z⟩:=s;have hw:w.heap[b]?=some (.cells cs.toArray e (lo,hi)):=(l1.trans y) _ _ hb;have fN:∀k:Hp,bP h1 k->∀x o,k x=some o->x≠b:=by
  intro k dk x o e hx;subst hx;rcases dk x with q|q
  ·rw[hb]at q;cases q
  rw[e]at q;cases q
 have hold:∀k:Hp,bP h1 k->Le k (ki w)->Le k (ki (w.setCell ⟨b,i,none⟩ v)):=by
  intro k dk lk x o e;have:=lk x o e;unfold ki at*;rw[RowKit.Below.heap_setCell w _ v x (by exact fN k dk x o e)];exact this
 have dF:bP h1 F.h:=z.left l1
 let xO:Hp:=λx=>if x=b then some (.cells (cs.set i v).toArray e (lo,hi))else none
 have d2:∀k:Hp,bP h1 k->bP xO k:=by
  intro k dk x;by_cases hx:x=b
  ·subst hx
   rcases dk x with q|q
   ·rw[hb]at q;cases q
   exact .inr q
  exact .inl (by simp[xO,hx])
 have l1':Le xO (ki (w.setCell ⟨b,i,none⟩ v)):=by
  intro x o e;by_cases hx:x=b
  ·subst hx
   simp only[xO,if_true]at e;cases e;have:=amg w x i v _ _ _ hw;rw[ki,this];simp
  simp[xO,hx]at e
 refine⟨a1,a2,a3,hold _ dF fr,fH xO h2,⟨xO,h2,d2 _ d,aU _ _,aP (d2 _ d),⟨lo,hi,by simpa using hf,by simp[xO]⟩,s⟩,
  bX l1' (hold _ d (l2.trans y)),bP.fH (d2 _ dF) (z.left l2)⟩
theorem St.new{F:dM}{H:Dz}{w:World}(s:St F H w)(e:TypeId)(cs:FV):
  St F (ag w.heap.size e cs::H) (w.alloc (.cells cs.toArray e)):=by
 obtain⟨a1,a2,a3,fr,h,s,y,z⟩:=s;have hold:∀k:Hp,Le k (ki w)->Le k (ki (w.alloc (.cells cs.toArray e))):=by
  intro k lk x o ex;have hx:=lk x o ex;unfold ki at*;rw[RowKit.Below.heap_alloc w _ x (Array.getElem?_eq_some_iff.1 hx).1];exact hx
 let h1:Hp:=λx=>if x=w.heap.size then some (.cells cs.toArray e)else none
 have dk:∀k:Hp,Le k (ki w)->bP h1 k:=by
  intro k lk x;by_cases hx:x=w.heap.size
  ·right
   cases q:k x with
   |none=>rfl
   |some o=>
    have:=lk x o q;unfold ki at this;have:=(Array.getElem?_eq_some_iff.1 this).1;omega
  exact .inl (by simp[h1,hx])
 refine⟨a1,a2,a3,hold _ fr,fH h1 h,⟨h1,h,dk _ y,aU _ _,aP (dk _ y),⟨0,0, .inl rfl,by simp[h1]⟩,s⟩,bX ?_ (hold _ y),bP.fH (dk _ fr) z⟩;intro x o ex;by_cases hx:x=w.heap.size
 ·subst hx;simp only[h1,if_true]at ex;cases ex;exact heap_alloc_new w _
 simp[h1,hx]at ex
theorem St.drew{F:dM}{H:Dz}{w:World}(s:St F H w):St F H w.drew:=⟨s.os,⟨s.tape.1,Nat.le_succ_of_le s.tape.2⟩,s.output,s.frame,s.own⟩
theorem St.drawn{F:dM}{H:Dz}{w:World}(s:St F H w)(n:Nat)(h:w.drawn<=n:=by exact Nat.le_succ _):St F H {w with drawn:=n}:=⟨s.os,⟨s.tape.1,Nat.le_trans s.tape.2 h⟩,s.output,s.frame,s.own⟩
def look:aT->Nat->Option Value
 | [],_=>none
 |(k,v)::r,t=>match Nat.beq k t with|true=>some v|false=>look r t
def bC (σ:aT):Operand->Option Value
 | .tmp t=>look σ t
 | .const v=>some v
 | .global g=>some (.pointer (some ⟨g,0,none⟩))
 | .func f=>some (.func (.func f) #[] #[])
def jQ (σ:aT):List Operand->Option FV
 | []=>some []
 |x::r=>match bC σ x,jQ σ r with|some v,some vs=>some (v::vs)|_,_=>none
structure Env (n:Nat)(ds:Dx)(σ:aT)(a:Act):Prop where
 size:a.tmps.size=n
 defers:a.defers=ds
 slot:∀t v,look σ t=some v->a.tmps[t]?=some v
def qo:aT->aT->Prop
 | [],_=>True
 |(t,v)::r,σ=>look σ t=some v/\qo r σ
theorem qo.look{S σ:aT}(h:qo S σ):∀t v,look S t=some v->look σ t=some v:=by
 induction S with
 |nil=>intro t v e;simp[dQ.look]at e
 |cons p r ih=>
  obtain⟨k,u⟩:=p;intro t v e;simp only[dQ.look]at e;cases hb:Nat.beq k t with
  |true=>rw[hb]at e;cases e;rw[<-Nat.eq_of_beq_eq_true hb];exact h.1
  |false=>rw[hb]at e;exact ih h.2 t v e
theorem Env.sub{n:Nat}{ds:Dx}{S σ:aT}{a:Act}(e:Env n ds σ a)(h:qo S σ):Env n ds S a:=
 ⟨e.size,e.defers,λt v hv=>e.slot t v (h.look t v hv)⟩
theorem Env.eval{n:Nat}{ds:Dx}{σ:aT}{a:Act}(e:Env n ds σ a){x:Operand}{v:Value}(h:bC σ x=some v):a.eval x=v:=by
 cases x with
 |tmp t=>simp[Act.eval,e.slot t v h]
 |const u=>simpa[bC,Act.eval]using h
 |global g=>simpa[bC,Act.eval]using h
 |func f=>simpa[bC,Act.eval]using h
theorem Env.wz{n:Nat}{ds:Dx}{σ:aT}{a:Act}(e:Env n ds σ a):∀{xs:List Operand} {vs:FV},jQ σ xs=some vs->xs.map a.eval=vs:=by
 intro xs;induction xs with
 |nil=>intro vs h;simp[jQ]at h;simp[<-h]
 |cons x r ih=>
  intro vs h;simp only[jQ]at h;cases h1:bC σ x with
  |none=>simp[h1]at h
  |some v=>
   cases h2:jQ σ r with
   |none=>simp[h1,h2]at h
   |some us=>
    simp only[h1,h2,Option.some.injEq]at h;rw[<-h,List.map_cons,e.eval h1,ih h2]
theorem Env.put{n:Nat}{ds:Dx}{σ:aT}{a:Act}(e:Env n ds σ a){d:Nat}(hd:Nat.blt d n=true)(v:Value):Env n ds ((d,v)::σ) (a.put (some d) v):=by
 have hdn:d<a.tmps.size:=by rw[e.size];exact Nat.le_of_ble_eq_true hd
 refine⟨by simp[Act.put,e.size],by simp[Act.put,e.defers],λt u h=> ?_⟩;simp only[look]at h;cases hb:Nat.beq d t with
 |true=>
  rw[hb]at h;cases h;have:=Nat.eq_of_beq_eq_true hb;subst this;simp[Act.put,hdn]
 |false=>
  rw[hb]at h;have fN:d≠t:=by intro q;subst q;simp at hb
  simp[Act.put,Array.getElem?_setIfInBounds_ne fN,e.slot t u h]
structure G (n:Nat)(ds:Dx)(F:dM)(K:F7)(σ:aT)(H:Dz):Prop where
 run:∀a w,Env n ds σ a->St F H w->K a w
instance {n:Nat}{ds:Dx}{F:dM}{K:F7}{σ:aT}{H:Dz}:CoeFun (G n ds F K σ H) (λ_=>∀a w,Env n ds σ a->St F H w->K a w):=⟨G.run⟩
section rules
variable {P:Program} {n:Nat} {ds:Dx} {F:dM} {Q:Exit->F7} {σ:aT} {H:Dz}
theorem av{x y:Code}(h:G n ds F (x.wp P (Exit.then (y.wp P Q) Q)) σ H):G n ds F ((Code.seq x y).wp P Q) σ H:=
 .mk λa w e s=>wp_seq (h a w e s)
theorem Cr (h:G n ds F (Q .normal) σ H):G n ds F (Code.skip.wp P Q) σ H:= .mk λa w e s=>wp_skip (h a w e s)
theorem akl (h:G n ds F (Q .ret) σ H):G n ds F (Code.ret.wp P Q) σ H:= .mk λa w e s=>wp_ret (h a w e s)
theorem afs{id:Nat}(h:G n ds F (Q (.exit id)) σ H):G n ds F ((Code.exit id).wp P Q) σ H:= .mk λa w e s=>wp_exit (h a w e s)
theorem oW{id:Nat}{c:Code}(h:G n ds F (c.wp P (Exit.inBlock id Q)) σ H):G n ds F ((Code.block id c).wp P Q) σ H:= .mk λa w e s=>wp_block (h a w e s)
theorem aA{c:Operand}{x y:Code}{b:Bool}(hc:bC σ c=some (.bool b))(ht:b=true->G n ds F (x.wp P Q) σ H)(hf:b=false->G n ds F (y.wp P Q) σ H):
  G n ds F ((Code.cond c x y).wp P Q) σ H:=
 .mk λa w e s=>wp_cond_split (e.eval hc) (λhb=>ht hb a w e s) (λhb=>hf hb a w e s)
theorem yR{c:Operand}{x y:Code}{b:Bool}(hc:bC σ c=some (.bool b))(hb:b=true)(ht:G n ds F (x.wp P Q) σ H):
  G n ds F ((Code.cond c x y).wp P Q) σ H:=aA hc (λ_=>ht) (λh=>by rw[hb]at h;cases h)
theorem yS{c:Operand}{x y:Code}{b:Bool}(hc:bC σ c=some (.bool b))(hb:b=false)(ht:G n ds F (y.wp P Q) σ H):
  G n ds F ((Code.cond c x y).wp P Q) σ H:=aA hc (λh=>by rw[hb]at h;cases h) (λ_=>ht)
theorem CO{K:F7}(h:G n ds F K σ H):G n ds F (Exit.then K Q .normal) σ H:=h
theorem Jf{K:F7}(h:G n ds F (Q .ret) σ H):G n ds F (Exit.then K Q .ret) σ H:=h
theorem Gn{K:F7}{id:Nat}(h:G n ds F (Q (.exit id)) σ H):G n ds F (Exit.then K Q (.exit id)) σ H:=h
theorem aay{id:Nat}(h:G n ds F (Q .normal) σ H):G n ds F (Exit.inBlock id Q .normal) σ H:=h
theorem Gp{id:Nat}(h:G n ds F (Q .ret) σ H):G n ds F (Exit.inBlock id Q .ret) σ H:=h
theorem Gq{id:Nat}(h:G n ds F (Q .normal) σ H):G n ds F (Exit.inBlock id Q (.exit id)) σ H:= .mk λa w e s=>by
 simpa[Exit.inBlock]using h a w e s
theorem fV{id id':Nat}(fN:Nat.beq id' id=false)(h:G n ds F (Q (.exit id')) σ H):G n ds F (Exit.inBlock id Q (.exit id')) σ H:= .mk λa w e s=>by
 have:id'≠id:=by intro q;subst q;simp at fN
 simpa[Exit.inBlock,this]using h a w e s
theorem ay{K:F7}{H':Dz}(hh:∀h,ai H h->ai H' h)(h:G n ds F K σ H'):G n ds F K σ H:=
 .mk λa w e s=>h a w e (s.sub hh)
theorem cq{id:Nat}{l:List Oper}(h:G n ds F (wpList P l.toArray Q l) σ H):G n ds F ((Code.region id l.toArray false).wp P Q) σ H:=
 .mk λa w e s=>wp_region_lit (h a w e s)
theorem aB{ops:Array Oper}(h:G n ds F (Q .normal) σ H):G n ds F (wpList P ops Q []) σ H:=h
theorem y6{ops:Array Oper}{j t:Nat}{b:Bool}{a:Act}(hj:(ops[j]?).bind (·.dst)=some t)(ht:look σ t=some (.bool b))(e:Env n ds σ a):yielded ops a.tmps j=some b:=by
 simp[yielded,hj,e.slot t _ ht]
def aK (P:Program)(f:FuncId)(args:FV)(pre:Hp->Prop)(H:Dz)(R:DF):Prop:=
 ∀F w,pre F.h->St F H w->Calls P f args.toArray w λe w'=>∃v H',e= .returned v/\R v H'/\St F H' w'
def jU:Nat->FV->aT
 |_,[]=> []
 |k,v::r=>(k,v)::jU (k+1) r
theorem Gg:∀(l:FV) (k t:Nat) (v:Value),look (jU k l) t=some v->k<=t/\l[t-k]?=some v:=by
 intro l;induction l with
 |nil=>intro k t v h;simp[jU,look]at h
 |cons x r ih=>
  intro k t v h;simp only[jU,look]at h;cases hb:Nat.beq k t with
  |true=>rw[hb]at h;cases h;have:=Nat.eq_of_beq_eq_true hb;subst this;simp
  |false=>
   rw[hb]at h;obtain⟨h1,h2⟩:=ih _ _ _ h;refine⟨by omega, ?_⟩;rw[show t-k=(t-(k+1))+1 from by omega];simpa using h2
theorem D7 (args:FV)(n:Nat)(hn:args.length<=n):Env n [] (jU 0 args) {tmps:=args.toArray++Array.replicate (n-args.toArray.size) undef,defers:= []}:=by
 refine⟨by simp;omega,rfl,λt v h=> ?_⟩;obtain⟨_,h2⟩:=Gg _ _ _ _ h;have ct:t<args.length:=by
  rcases Nat.lt_or_ge t args.length with q|q
  ·exact q
  rw[List.getElem?_eq_none (show args.length<=t-0 from by omega)]at h2;cases h2
 simp only[Nat.sub_zero]at h2;rw[Array.getElem?_append_left (by simpa using ct)];simpa using h2
theorem af{f:FuncId}{fn:Func}{c:Code}{args:FV}{pre:Hp->Prop}{R:DF}{m:Nat}(hf:P.funcs[f]?=some fn)(hb:fn.body=some c)(hm:fn.ntmps=m)(hn:Nat.ble args.length m=true)
  (h:∀F:dM,pre F.h->G m [] F (c.wp P (bodyPost P fn λe w'=>∃v H',e= .returned v/\R v H'/\St F H' w')) (jU 0 args) H):aK P f args pre H R:=
 λF w hp s=>calls_of_wp hf hb (by
  subst hm;exact h F hp _ _ (D7 args _ (Nat.le_of_ble_eq_true hn)) s)
theorem akT{fn:Func}{R:DF}{t:Nat}{v:Value}{H':Dz}(hr:fn.results= #[.tmp t])(hv:look σ t=some v)(hR:R v H')(hh:∀h,ai H h->ai H' h):
  G n [] F (bodyPost P fn (λe w'=>∃v H',e= .returned v/\R v H'/\St F H' w') .ret) σ H:=
 .mk λa w e s=>⟨e.defers,v,by rw[results_tmp hr,show a.tmps.getD t undef=v from by simp[e.slot t v hv]],v,H',rfl,hR,s.sub hh⟩
theorem agH{fn:Func}{R:DF}{H':Dz}(hr:fn.results= #[])(hR:R (.tuple #[]) H')(hh:∀h,ai H h->ai H' h):
  G n [] F (bodyPost P fn (λe w'=>∃v H',e= .returned v/\R v H'/\St F H' w') .ret) σ H:=
 .mk λa w e s=>⟨e.defers,_,results_none hr _ _ _,_,H',rfl,hR,s.sub hh⟩
theorem agI{fn:Func}{R:DF}{H':Dz}(hr:fn.results= #[])(hR:R (.tuple #[]) H')(hh:∀h,ai H h->ai H' h):
  G n [] F (bodyPost P fn (λe w'=>∃v H',e= .returned v/\R v H'/\St F H' w') .normal) σ H:=
 .mk λa w e s=>⟨e.defers,_,results_none hr _ _ _,_,H',rfl,hR,s.sub hh⟩
theorem agG{fn:Func}{R:DF}{t u:Nat}{v x:Value}{H':Dz}(hr:fn.results= #[.tmp t, .tmp u])(hv:look σ t=some v)(hx:look σ u=some x)(hR:R (.tuple #[v,x]) H')
  (hh:∀h,ai H h->ai H' h):G n [] F (bodyPost P fn (λe w'=>∃v H',e= .returned v/\R v H'/\St F H' w') .ret) σ H:=
 .mk λa w e s=>⟨e.defers,_,by rw[results_tmp2 hr,show a.tmps.getD t undef=v from by simp[e.slot t v hv],show a.tmps.getD u undef=x from by simp[e.slot u x hx]],_,H',rfl,hR,s.sub hh⟩
end rules
end Go.dQ
namespace Go.dQ
open Go
inductive iM:Dz->Dz->Dz->Prop
 |nil {X:Dz}:iM X [] X
 |cons {X:Dz} {A:aa} {As R R':Dz} (s:fO X A R) (t:iM R As R'):iM X (A::As) R'
theorem iM.out{H As R:Dz}(s:iM H As R):∀h,ai H h->ai (As++R) h:=by
 induction s with
 |nil=>exact λh x=>x
 |cons s _ ih=>exact λh x=>aJ ih (s.out h x)
def de (P:Program)(t:TypeId):Bool:=
 match P.underlying t,P.info? t with
 |some (.struct _),_=>false
 |some (.array _ _),_=>false
 |some _,some i=>i.size==1
 |_,_=>false
def cO (P:Program)(t:TypeId):FW:=
 match P.underlying t with
 |some (.struct _)=>(P.info? t).map (·.size)
 |some (.array _ _)=>(P.info? t).map (·.size)
 |_=>none
def ao (P:Program)(s f:Nat):FW:=
 match P.underlying s with
 |some (.struct fs)=>match fs[f]? with
  |some f=>match P.info? f.type with
   |some i=>if i.size=0 then none else some f.offset
   |none=>none
  |none=>none
 |_=>none
def ed (P:Program)(t:TypeId):Option (TypeId×Nat):=
 match P.underlying t with
 |some (.slice e)=>match P.info? e with
  |some i=>some (e,i.size)
  |none=>none
 |_=>none
section
variable {P:Program} {w:World}
theorem ru{t:TypeId}(h:de P t=true):(isAgg t).run P w= .ok false w/\(sizeOf t).run P w= .ok 1 w:=by
 unfold de at h;cases hu:P.underlying t with
 |none=>simp[hu]at h
 |some d=>
  cases hi:P.info? t with
  |none=>simp[hu,hi]at h;cases d<;>simp at h
  |some i=>
   cases d<;>simp[hu,hi]at h<;>simp[isAgg,run_underlying hu,sizeOf,typeInfo,hi,h]
theorem fG{t:TypeId}{k:Nat}(h:cO P t=some k):(isAgg t).run P w= .ok true w/\(sizeOf t).run P w= .ok k w:=by
 unfold cO at h;cases hu:P.underlying t with
 |none=>simp[hu]at h
 |some d=>
  cases hi:P.info? t with
  |none=>cases d<;>simp[hu,hi]at h
  |some i=>cases d<;>simp[hu,hi]at h<;>simp[isAgg,run_underlying hu,sizeOf,typeInfo,hi,h]
theorem wQ{s f k:Nat}(h:ao P s f=some k)(a:Addr):(Instr.fieldAt s (.pointer (some a)) f).run P w= .ok (.pointer (some (a.add k))) w:=by
 unfold ao at h;cases hu:P.underlying s with
 |none=>simp[hu]at h
 |some d=>
  cases d<;>simp[hu]at h;rename_i fs;cases hf:fs[f]? with
  |none=>simp[hf]at h
  |some fd=>
   simp only[hf]at h;cases hi:P.info? fd.type with
   |none=>simp[hi]at h
   |some i=>
    simp only[hi]at h;by_cases h0:i.size=0
    ·simp[h0]at h
    simp only[h0,if_false,Option.some.injEq]at h;simp[Instr.fieldAt,run_underlying hu,hf,Instr.sureAddr,fieldPlace,sizeOf,typeInfo,hi,h0,h]
theorem kM{t e k:Nat}(h:ed P t=some (e,k)):P.underlying t=some (.slice e)/\∃i,P.info? e=some i/\i.size=k:=by
 unfold ed at h;cases hu:P.underlying t with
 |none=>simp[hu]at h
 |some d=>
  cases d<;>simp[hu]at h;rename_i e';cases hi:P.info? e' with
  |none=>simp[hi]at h
  |some i=>simp[hi]at h;obtain⟨rfl,rfl⟩:=h;exact⟨rfl,i,hi,rfl⟩
theorem add_lit (b i k:Nat):(⟨b,i,none⟩:Addr).add k=⟨b,i+k,none⟩:=by unfold Addr.add;split<;>simp_all
theorem add_add (a:Addr)(l k:Nat):(a.add l).add k=a.add (l+k):=by
 obtain⟨b,o,s⟩:=a;unfold Addr.add;by_cases hl:l=0
 ·subst hl;simp
 by_cases hk:k=0
 ·subst hk;simp
 simp[hl,hk,show l+k≠0 from by omega,Nat.add_assoc]
theorem add_zero' (a:Addr):a.add 0=a:=by simp[Addr.add]
end
section rules
variable {P:Program} {n:Nat} {ds:Dx} {F:dM} {Q:Exit->F7} {K:F7} {σ:aT} {H:Dz} {o:Oper} {d:Nat}
theorem sV{v:Value}(hd:o.dst=some d)(hdn:Nat.blt d n=true)(hr:∀a w,Env n ds σ a->St F H w->(execOp a.eval o).run P w= .ok (.value v) w)
  (h:G n ds F K ((d,v)::σ) H):G n ds F (λa w=>o.wp P a w K Q) σ H:=by
 refine .mk λa w e s=> ?_;unfold Oper.wp;rw[hr a w e s,Oper.upon_value,hd];exact h _ _ (e.put hdn v) s
def Yv (P:Program)(n:Nat)(ds:Dx)(F:dM)(σ:aT)(o:Oper)(v:Value):Prop:=
 ∀a w,Env n ds σ a->Le F.h (ki w)->(execOp a.eval o).run P w= .ok (.value v) w
theorem aiO{v:Value}(hy:Yv P n ds F σ o v)(hd:o.dst=some d)(hdn:Nat.blt d n=true)(h:G n ds F K ((d,v)::σ) H):G n ds F (λa w=>o.wp P a w K Q) σ H:=
 sV hd hdn (λa w e s=>hy a w e s.frame) h
theorem ad0{x:Operand}{v:Value}(ho:o.op= .move x)(hx:bC σ x=some v):Yv P n ds F σ o (v):=
 λa w e fr=>by simp[execOp,ho,e.eval hx]
theorem TY{x:Operand}{v:Value}(ho:o.op= .assign x)(hx:bC σ x=some v):Yv P n ds F σ o (v):=
 λa w e fr=>by simp[execOp,ho,e.eval hx]
theorem TQ{c x y:Operand}{b:Bool}{v:Value}(ho:o.op= .pick c x y)(hc:bC σ c=some (.bool b))(hb:b=true)(hx:bC σ x=some v):Yv P n ds F σ o (v):=
 λa w e fr=>by simp[execOp,ho,e.eval hc,e.eval hx,hb,asBool]
theorem TR{c x y:Operand}{b:Bool}{v:Value}(ho:o.op= .pick c x y)(hc:bC σ c=some (.bool b))(hb:b=false)(hx:bC σ y=some v):Yv P n ds F σ o (v):=
 λa w e fr=>by simp[execOp,ho,e.eval hc,e.eval hx,hb,asBool]
theorem Il{x:Operand}{ad:Addr}(ho:o.op= .nilCheck x)(hx:bC σ x=some (.pointer (some ad))):Yv P n ds F σ o (.pointer (some ad)):=
 λa w e fr=>by simp[execOp,ho,e.eval hx]
theorem sZ{s f k b i:Nat}{x:Operand}(hk:ao P s f=some k)(ho:o.op= .fieldAddr s x f)(hx:bC σ x=some (.pointer (some ⟨b,i,none⟩))):Yv P n ds F σ o (.pointer (some ⟨b,i+k,none⟩)):=
 λa w e fr=>by simp[execOp,ho,e.eval hx,wQ hk,add_lit]
theorem xc{s f k j:Nat}{x:Operand}{a:FX}(hk:ao P s f=some k)(ho:o.op= .fieldAddr s x f)(hx:bC σ x=some (.pointer (a.map (·.add j))))(hs:a.isSome=true):Yv P n ds F σ o (.pointer (a.map (·.add (j+k)))):=by
 obtain⟨ad,rfl⟩:=Option.isSome_iff_exists.1 hs;exact λa w e _=>by simp[execOp,ho,e.eval hx,wQ hk,add_add]
theorem Mm{x:Operand}{i:Nat}{vs:Array Value}{v:Value}(ho:o.op= .extract x i)(hx:bC σ x=some (.tuple vs))(hv:vs.toList[i]?=some v):Yv P n ds F σ o (v):=
 λa w e fr=>by
  have Qk:vs[i]?=some v:=by simpa using hv
  simp[execOp,ho,e.eval hx,Instr.extract,Qk]
theorem ajs{t:TypeId}{x:Operand}{b:Bool}(ho:o.op= .unOp .not t x)(hx:bC σ x=some (.bool b)):Yv P n ds F σ o (.bool (!b)):=
 λa w e fr=>by simp[execOp,ho,e.eval hx,Op.unary]
theorem ajt{t:TypeId}{x:Operand}{k:IntKind}{i z:Int}(ho:o.op= .unOp .neg t x)(hx:bC σ x=some (.int k i))(hz:k.wrap (0-i)=z):Yv P n ds F σ o (.int k z):=
 λa w e fr=>by simp[execOp,ho,e.eval hx,Op.unary,Op.intArith,<-hz]
theorem wrap_i64{z:Int}(h: -9223372036854775808<=z/\z<=9223372036854775807):IntKind.i64.wrap z=z:=IntWalk.i64_in z h
theorem wrap_u64{z:Int}(h:0<=z/\z<=18446744073709551615):IntKind.u64.wrap z=z:=by
 unfold IntKind.wrap;simp only[IntKind.bits,IntKind.signed,Bool.false_and,Bool.false_eq_true,if_false];omega
theorem wrap_u32{z:Int}(h:0<=z/\z<=4294967295):IntKind.u32.wrap z=z:=by
 unfold IntKind.wrap;simp only[IntKind.bits,IntKind.signed,Bool.false_and,Bool.false_eq_true,if_false];omega
theorem wrap_u16{z:Int}(h:0<=z/\z<=65535):IntKind.u16.wrap z=z:=by
 unfold IntKind.wrap;simp only[IntKind.bits,IntKind.signed,Bool.false_and,Bool.false_eq_true,if_false];omega
theorem wrap_u8{z:Int}(h:0<=z/\z<=255):IntKind.u8.wrap z=z:=by
 unfold IntKind.wrap;simp only[IntKind.bits,IntKind.signed,Bool.false_and,Bool.false_eq_true,if_false];omega
theorem wrap_i32{z:Int}(h: -2147483648<=z/\z<=2147483647):IntKind.i32.wrap z=z:=IntWalk.i32_in z h
def gL (op:BinOp)(k:IntKind)(x y:Int):Option Int:=
 match op with
 | .add=>some (k.wrap (x+y))
 | .sub=>some (k.wrap (x-y))
 | .mul=>some (k.wrap (x*y))
 | .and=>some (k.wrap (BitVec.ofInt k.bits x&&&BitVec.ofInt k.bits y).toNat)
 | .or=>some (k.wrap (BitVec.ofInt k.bits x|||BitVec.ofInt k.bits y).toNat)
 | .xor=>some (k.wrap (BitVec.ofInt k.bits x^^^BitVec.ofInt k.bits y).toNat)
 | .andNot=>some (k.wrap (BitVec.ofInt k.bits x&&& ~~~BitVec.ofInt k.bits y).toNat)
 | .quo=>if y=0 then none else some (k.wrap (x.tdiv y))
 | .rem=>if y=0 then none else some (x.tmod y)
 |_=>none
def JO (op:BinOp)(x y:Int):Option Bool:=
 match op with
 | .eql=>some (decide (x=y))
 | .neq=>some (!decide (x=y))
 | .lss=>some (decide (x<y))
 | .leq=>some (decide (x<=y))
 | .gtr=>some (decide (y<x))
 | .geq=>some (decide (y<=x))
 |_=>none
theorem MR{op:BinOp}{t:TypeId}{k:IntKind}{x y z:Int}{w:World}(h:gL op k x y=some z):(binOp op t (.int k x) (.int k y)).run P w= .ok (.int k z) w:=by
 cases op<;>simp only[gL]at h<;>try (cases h;done)
 case add=>cases h;simp[binOp,Op.intArith]
 case sub=>cases h;simp[binOp,Op.intArith]
 case mul=>cases h;simp[binOp,Op.intArith]
 case and=>cases h;simp[binOp,Op.intBits]
 case or=>cases h;simp[binOp,Op.intBits]
 case xor=>cases h;simp[binOp,Op.intBits]
 case andNot=>cases h;simp[binOp,Op.intBits]
 all_goals
  split at h
  ·cases h
  rename_i hy;cases h;simp[binOp,Op.intDiv,hy]
theorem MS{op:BinOp}{t:TypeId}{k:IntKind}{x y:Int}{b:Bool}{w:World}(h:JO op x y=some b):(binOp op t (.int k x) (.int k y)).run P w= .ok (.bool b) w:=by
 cases op<;>simp only[JO]at h<;>(cases h;try simp[binOp,Op.intCmp])
 all_goals (first|rfl|(rw[Bool.eq_iff_iff];simp;done)|skip)
theorem k8{op:BinOp}{t:TypeId}{x y:Operand}{k k':IntKind}{i j:Int}{w:World}:(eqGuard op t x y (.int k i) (.int k' j)).run P w= .ok () w:=by
 unfold eqGuard;cases op<;>simp
theorem ya{op:BinOp}{t yt:TypeId}{x y:Operand}{k:IntKind}{i j z:Int}(ho:o.op= .binOp op t x y yt)(hx:bC σ x=some (.int k i))(hy:bC σ y=some (.int k j))(hz:gL op k i j=some z):Yv P n ds F σ o (.int k z):=
 λa w e fr=>by simp[execOp,ho,e.eval hx,e.eval hy,k8,MR hz]
theorem ajx{op:BinOp}{t yt:TypeId}{x y:Operand}{k:IntKind}{i j:Int}{b:Bool}(ho:o.op= .binOp op t x y yt)(hx:bC σ x=some (.int k i))(hy:bC σ y=some (.int k j))(hz:JO op i j=some b):Yv P n ds F σ o (.bool b):=
 λa w e fr=>by simp[execOp,ho,e.eval hx,e.eval hy,k8,MS hz]
def X5 (op:BinOp)(k:IntKind)(x y:Int):Option Int:=
 if y<0 then none else
 match op with
 | .shl=>some (k.wrap (x*2^(min y.toNat k.bits)))
 | .shr=>some (x.fdiv (2^(min y.toNat k.bits)))
 |_=>none
theorem aiI{op:BinOp}{t yt:TypeId}{x y:Operand}{k k':IntKind}{i j z:Int}(ho:o.op= .binOp op t x y yt)(hx:bC σ x=some (.int k i))(hy:bC σ y=some (.int k' j))(hz:X5 op k i j=some z):Yv P n ds F σ o (.int k z):=by
 intro a w e _;unfold X5 at hz;by_cases hj:j<0
 ·simp[hj]at hz
 simp only[hj,if_false]at hz;cases op<;>simp at hz<;>subst hz<;>simp[execOp,ho,e.eval hx,e.eval hy,k8,binOp,Op.shift,hj]
theorem ajr{t yt:TypeId}{x y:Operand}{k k':IntKind}{i j z:Int}{s:Nat}(ho:o.op= .binOp .shl t x y yt)(hx:bC σ x=some (.int k i))(hy:bC σ y=some (.int k' j))(hj:j=(s:Int))(hz:k.wrap (i*2^(min s k.bits))=z):Yv P n ds F σ o (.int k z):=by
 subst hj;refine aiI ho hx hy ?_;simp only[X5,if_neg (show¬((s:Int)<0)from by omega),Int.toNat_natCast,hz]
theorem ajq{t yt:TypeId}{x y:Operand}{k k':IntKind}{i j z:Int}{s:Nat}(ho:o.op= .binOp .shr t x y yt)(hx:bC σ x=some (.int k i))(hy:bC σ y=some (.int k' j))(hj:j=(s:Int))(hz:i.fdiv (2^(min s k.bits))=z):Yv P n ds F σ o (.int k z):=by
 subst hj;refine aiI ho hx hy ?_;simp only[X5,if_neg (show¬((s:Int)<0)from by omega),Int.toNat_natCast,hz]
theorem ad2{s t:TypeId}{x:Operand}{k k':IntKind}{i z:Int}(ht:P.underlying t=some (.int k))(hs:(P.underlying s).isSome=true)(ho:o.op= .convert s t x)(hx:bC σ x=some (.int k' i))(hz:k.wrap i=z):Yv P n ds F σ o (.int k z):=by
 intro a w e _;obtain⟨sd,hsd⟩:=Option.isSome_iff_exists.1 hs;simp[execOp,ho,e.eval hx,convert,run_underlying ht,run_underlying hsd,Conv.intToInt,<-hz]
theorem na{t:TypeId}{i j:Bool}{w:World}(ht:P.underlying t=some .bool):(binOp .eql t (.bool i) (.bool j)).run P w= .ok (.bool (i==j)) w:=run_eql_bool w t i j ht
theorem mh{t:TypeId}{i j:Bool}{w:World}(ht:P.underlying t=some .bool):(binOp .neq t (.bool i) (.bool j)).run P w= .ok (.bool (!(i==j))) w:=by
 simp only[binOp,Sem.run_bind,run_equal_bool w t i j ht,Result.andThen_ok,Sem.run_pure]
theorem oc{op:BinOp}{t:TypeId}{x y:Operand}{i j:Bool}{w:World}:(eqGuard op t x y (.bool i) (.bool j)).run P w= .ok () w:=by
 unfold eqGuard;cases op<;>simp
theorem TX{op:BinOp}{t yt:TypeId}{x y:Operand}{i j b:Bool}(ht:P.underlying t=some .bool)(ho:o.op= .binOp op t x y yt)(hx:bC σ x=some (.bool i))(hy:bC σ y=some (.bool j))
  (hop:(op= .eql/\b=(i==j))\/(op= .neq/\b= !(i==j))):Yv P n ds F σ o (.bool b):=by
 intro a w e _;rcases hop with⟨rfl,rfl⟩|⟨rfl,rfl⟩
 ·simp only[execOp,ho,e.eval hx,e.eval hy,Sem.run_bind,oc,na ht,Result.andThen_ok,Sem.run_pure]
 simp only[execOp,ho,e.eval hx,e.eval hy,Sem.run_bind,oc,mh ht,Result.andThen_ok,Sem.run_pure]
def aW (l:F9):Value:= .string ⟨l.toArray⟩
theorem Yq{op:BinOp}{t yt:TypeId}{x y:Operand}{i j:F9}{b:Bool}(ho:o.op= .binOp op t x y yt)(hx:bC σ x=some (aW i))(hy:bC σ y=some (aW j))
  (hop:(op= .eql/\b=decide (i=j))\/(op= .neq/\b= !decide (i=j))):Yv P n ds F σ o (.bool b):=by
 intro a w e _;have hb:(i==j)=decide (i=j):=by rw[Bool.eq_iff_iff];simp
 unfold aW at hx hy;rcases hop with⟨rfl,rfl⟩|⟨rfl,rfl⟩<;>simp[execOp,ho,e.eval hx,e.eval hy,eqGuard,binOp,Op.stringOp,hb]
theorem vR{ad:Addr}{v:Value}{t:TypeId}(hs:de P t=true){w:World}(hc:w.cell? ad=some v):(Instr.loadAt t (.pointer (some ad))).run P w= .ok v w:=by
 simp[Instr.loadAt,Instr.sureAddr,loadVar,(ru hs).1,hc]
theorem JU{t:TypeId}{x:Operand}{ad:Addr}{v:Value}(hs:de P t=true)(ho:o.op= .load t x)(hx:bC σ x=some (.pointer (some ad)))(hv:eO F.h ad=some v):Yv P n ds F σ o (v):=
 λa w en fr=>by simp[execOp,ho,en.eval hx,vR hs (mB fr hv)]
theorem E7{t:TypeId}{x:Operand}{ad:Addr}{v:Value}(hs:de P t=true)(ho:o.op= .load t x)(hd:o.dst=some d)(hx:bC σ x=some (.pointer (some ad)))(hv:∀w,St F H w->eO (ki w) ad=some v)(hdn:Nat.blt d n=true)
  (h:G n ds F K ((d,v)::σ) H):G n ds F (λa w=>o.wp P a w K Q) σ H:=
 sV hd hdn (λa w en s=>by simp[execOp,ho,en.eval hx,vR hs (show w.cell? ad=some v from hv w s)]) h
theorem Vl{b i k:Nat}{vs:FV}{t:TypeId}(hs:cO P t=some k){w:World}(hk:vs.length=k)(hc:∀j v,vs[j]?=some v->w.cell? ((⟨b,i,none⟩:Addr).add j)=some v):
  (Instr.loadAt t (.pointer (some ⟨b,i,none⟩))).run P w= .ok (.agg vs.toArray) w:=by
 subst hk;simp[Instr.loadAt,Instr.sureAddr,loadVar,(fG hs).1,(fG hs).2,run_loadCells_list w _ vs hc]
theorem zh{ad:Addr}{v u:Value}{t:TypeId}(hs:de P t=true){w:World}(hc:w.cell? ad=some u)(hf:w.frozen? ad=false)(h1:v.oneCell'=true):(Instr.storeAt t (.pointer (some ad)) v).run P w= .ok () (w.setCell ad v):=by
 have yp:v.cells= #[v]:=by cases v<;>simp[Value.oneCell']at h1<;>rfl
 simp[Instr.storeAt,Instr.sureAddr,storeVar,(ru hs).2,yp,storeCells,add_zero',run_store P w ad v .plain h1,hc,hf]
theorem E6{t:TypeId}{x y:Operand}{b i:Nat}{e:TypeId}{cs:FV}{f:aa->Dz}{v:Value}(hs:de P t=true)(ho:o.op= .store t x y)(hd:o.dst=none)(hx:bC σ x=some (.pointer (some ⟨b,i,none⟩)))(hy:bC σ y=some v)
  (h1:v.oneCell'=true) (hu:Pos H (ag b e cs) f) (hi:i<cs.length) (h:G n ds F K σ (f (ag b e (cs.set i v)))):G n ds F (λa w=>o.wp P a w K Q) σ H:=by
 refine .mk λa w en s=> ?_;obtain⟨R,s1,s2⟩:=hu.uZ;have sR:=s.uZ s1;obtain⟨hh,hp,hl⟩:=sR.get;have eO:=mB hl (fB hp (List.getElem?_eq_getElem hi));have fM:=zh (P:=P) hs eO (uz hp hi hl) h1;unfold Oper.wp;have:(execOp a.eval o).run P w= .ok .skip (w.setCell ⟨b,i,none⟩ v):=by simp[execOp,ho,en.eval hx,en.eval hy,fM]
 rw[this,Oper.upon_skip,hd];exact h _ _ en ((sR.setCell v).qt (s2 _))
def dq:FV->Nat->FV->FV
 |cs,_,[]=>cs
 |cs,i,v::vs=>dq (cs.set i v) (i+1) vs
theorem wL:∀(vs cs:FV) (i:Nat),(dq cs i vs).length=cs.length:=by
 intro vs;induction vs with
 |nil=>intro cs i;rfl
 |cons v vs ih=>intro cs i;simp[dq,ih]
theorem ke{b:Nat}{e:TypeId}{R:Dz}:∀(vs:FV) (i j:Nat) (cs:FV) (w:World),St F (ag b e cs::R) w->i+j+vs.length<=cs.length->(∀v∈vs,v.oneCell'=true)->
  ∃w',(storeCells ⟨b,i,none⟩ vs j).run P w= .ok () w'/\St F (ag b e (dq cs (i+j) vs)::R) w':=by
 intro vs;induction vs with
 |nil=>intro i j cs w s _ _;exact⟨w,by simp[storeCells],s⟩
 |cons v vs ih=>
  intro i j cs w s hl h1;simp only[List.length_cons]at hl;obtain⟨hh,hp,hle⟩:=s.get;have ct:i+j<cs.length:=by omega
  have eO:=mB hle (fB hp (List.getElem?_eq_getElem ct));have hf:=uz hp ct hle;have h1v:=h1 v (by simp);obtain⟨w',hr,s'⟩:=ih i (j+1) (cs.set (i+j) v) _ (s.setCell (i:=i+j) v) (by simp;omega) (λu hu=>h1 u (by simp[hu]));refine⟨w', ?_, ?_⟩
  ·simp[storeCells,add_lit,run_store P w _ v .plain h1v,eO,hf,hr]
  simpa[dq,Nat.add_assoc]using s'
theorem vO{t k:TypeId}{x y:Operand}{b i:Nat}{e:TypeId}{cs vs:FV}{f:aa->Dz}(hs:cO P t=some k)(ho:o.op= .store t x y)(hd:o.dst=none)(hx:bC σ x=some (.pointer (some ⟨b,i,none⟩)))(hy:bC σ y=some (.agg vs.toArray))
  (hk:vs.length=k) (h1:∀v∈vs,v.oneCell'=true) (hu:Pos H (ag b e cs) f) (hi:i+vs.length<=cs.length) (h:G n ds F K σ (f (ag b e (dq cs i vs)))):G n ds F (λa w=>o.wp P a w K Q) σ H:=by
 refine .mk λa w en s=> ?_;obtain⟨R,s1,s2⟩:=hu.uZ;obtain⟨w',hr,s'⟩:=ke (P:=P) vs i 0 cs w (s.uZ s1) (by omega) h1;unfold Oper.wp;have:(execOp a.eval o).run P w= .ok .skip w':=by
  simp[execOp,ho,en.eval hx,en.eval hy,Instr.storeAt,Instr.sureAddr,storeVar,(fG hs).2,Value.cells,hk,hr]
 rw[this,Oper.upon_skip,hd];exact h _ _ en (s'.qt (s2 _))
theorem ae0{t:TypeId}{x:Operand}{v:Value}{cs:FV}(ho:o.op= .box t x)(hd:o.dst=some d)(hx:bC σ x=some v)(hc:v.cells=cs.toArray)(hdn:Nat.blt d n=true)
  (h:∀b,G n ds F K ((d, .pointer (some ⟨b,0,none⟩))::σ) (ag b t cs::H)):G n ds F (λa w=>o.wp P a w K Q) σ H:=by
 refine .mk λa w en s=> ?_;unfold Oper.wp;have:(execOp a.eval o).run P w= .ok (.value (.pointer (some ⟨w.heap.size,0,none⟩))) (w.alloc (.cells cs.toArray t)):=by
  simp[execOp,ho,en.eval hx,Instr.box,newVar,newRow,hc]
 rw[this,Oper.upon_value,hd];exact h _ _ _ (en.put hdn _) (s.new t cs)
def bW (P:Program)(t:TypeId):Option FV:=(P.info? t).bind λi=>i.zero.map λz=>z.cells.toList
theorem qX{t:TypeId}{cs:FV}(h:bW P t=some cs){w:World}:∃z,(zeroValue t).run P w= .ok z w/\z.cells=cs.toArray:=by
 unfold bW at h;cases hi:P.info? t with
 |none=>simp[hi]at h
 |some i=>
  cases hz:i.zero with
  |none=>simp[hi,hz]at h
  |some z=>
   simp[hi,hz]at h;exact⟨z,by simp[zeroValue,typeInfo,hi,hz],by rw[<-h]⟩
theorem UZ{t:TypeId}{cs:FV}(hz:bW P t=some cs)(ho:o.op= .alloc t)(hd:o.dst=some d)(hdn:Nat.blt d n=true)
  (h:∀b,G n ds F K ((d, .pointer (some ⟨b,0,none⟩))::σ) (ag b t cs::H)):G n ds F (λa w=>o.wp P a w K Q) σ H:=by
 refine .mk λa w en s=> ?_;obtain⟨z,hr,hc⟩:=qX (P:=P) hz (w:=w);unfold Oper.wp;have:(execOp a.eval o).run P w= .ok (.value (.pointer (some ⟨w.heap.size,0,none⟩))) (w.alloc (.cells cs.toArray t)):=by
  simp[execOp,ho,Instr.alloc,newVar,newRow,hr,hc]
 rw[this,Oper.upon_value,hd];exact h _ _ _ (en.put hdn _) (s.new t cs)
def gW:Dz->Hp->Prop
 | [],_=>True
 |A::r,h=>(∃k,A k/\Le k h)/\gW r h
theorem cx:∀{H:Dz} {h k:Hp},ai H h->Le h k->gW H k:=by
 intro H;induction H with
 |nil=>intro h k _ _;trivial
 |cons A r ih=>intro h k s l;obtain⟨h1,h2,_,l1,l2,a,s⟩:=s;exact⟨⟨h1,a,l1.trans l⟩,ih s (l2.trans l)⟩
theorem bx:∀{A B:Dz} {h:Hp},ai (A++B) h->∃h1 h2,bP h1 h2/\Le h1 h/\Le h2 h/\ai A h1/\ai B h2:=by
 intro A;induction A with
 |nil=>intro B h s;exact⟨λ_=>none,h,λ_=> .inl rfl,λb o e=>by simp at e,Le.refl h,trivial,s⟩
 |cons X r ih=>
  intro B h s;obtain⟨h1,h2,d,l1,l2,a,s⟩:=s;obtain⟨h3,h4,d',l3,l4,s3,s4⟩:=ih s;exact⟨fH h1 h3,h4,bP.fH (d.right l4) d',bX l1 (l3.trans l2),l4.trans l2,⟨h1,h3,d.right l3,aU _ _,aP (d.right l3),a,s3⟩,s4⟩
theorem bH:∀{A B:Dz} {h1 h2:Hp},ai A h1->ai B h2->bP h1 h2->ai (A++B) (fH h1 h2):=by
 intro A;induction A with
 |nil=>intro B h1 h2 _ s d;exact eW s (aP d)
 |cons X r ih=>
  intro B h1 h2 s t d;obtain⟨h3,h4,d',l3,l4,a,s⟩:=s;refine⟨h3,fH h4 h2,(bP.fH d'.symm (d.left l3).symm).symm,l3.trans (aU _ _),bX (l4.trans (aU _ _)) (aP d),a,ih s t (d.left l4)⟩
theorem EY{ρ:Operand->Value}{f:FuncId}{xs:List Operand}{vs:FV}{rQ:Array TypeId}{w:World}{fn:Func}(ho:o.op= .call {callee:= .value (.func f),args:=xs.toArray,argTypes:=rQ})
  (hρ:ρ (.func f)= .func (.func f) #[] #[]) (hv:xs.map ρ=vs) (hf:P.funcs[f]?=some fn) (hb:fn.body.isSome=true) (hnm:(fn.name== "runtime.NumGoroutine")=false):
  (execOp ρ o).run P w= .ok (.enter f vs.toArray) w:=by
 have akc:fn.body.isNone=false:=by rw[<-Option.not_isSome,hb];rfl
 have ado:¬fn.name= "runtime.NumGoroutine" :=by simpa using hnm
 have hb':¬fn.body=none:=by intro q;rw[q]at hb;cases hb
 simp[execOp,ho,resolve,hρ,Deferred.ofValue,invoke,callFunc,hf,<-hv];rw[if_neg ado,if_neg hb']
def aC (P:Program)(f:FuncId):Bool:=match P.funcs[f]? with|some fn=>fn.body.isSome&& !(fn.name== "runtime.NumGoroutine")|none=>false
theorem Zw{f:FuncId}{xs:List Operand}{vs:FV}{rQ:Array TypeId}{pre:Hp->Prop}{As R:Dz}{T:DF}(kR:aC P f=true)(ho:o.op= .call {callee:= .value (.func f),args:=xs.toArray,argTypes:=rQ})
  (hd:o.dst=some d) (hv:jQ σ xs=some vs) (hc:aK P f vs pre As T) (dg:iM H As R) (iu:∀h,Le F.h h->gW R h->pre h) (hdn:Nat.blt d n=true)
  (h:∀v H',T v H'->G n ds F K ((d,v)::σ) (H'++R)):G n ds F (λa w=>o.wp P a w K Q) σ H:=by
 refine .mk λa w en s=> ?_;unfold aC at kR;cases hf:P.funcs[f]? with
 |none=>simp[hf]at kR
 |some fn=>
  simp only[hf,Bool.and_eq_true,Bool.not_eq_true']at kR;unfold Oper.wp;rw[EY ho rfl (en.wz hv) hf kR.1 kR.2,Oper.upon_enter];obtain⟨a1,a2,a3,fr,hh,st,hl,r8⟩:=s;obtain⟨h1,h2,d12,l1,l2,s1,s2⟩:=bx (dg.out _ st);have wg:bP h2 F.h:=r8.left l2
  let F':dM:={F with h:=fH h2 F.h}
  have iw:Le F.h F'.h:=aP wg;have iy:Le h2 F'.h:=aU _ _;have xK:St F' As w:=⟨a1,a2,a3,bX (l2.trans hl) fr,h1,s1,l1.trans hl,(bP.fH d12.symm (r8.left l1).symm).symm⟩;refine(hc F' w (iu _ iw (cx s2 iy)) xK).mono ?_;rintro e w' ⟨v,H',rfl,hT,sw⟩;obtain⟨b1,b2,b3,se,zZ,st2,zW,ky⟩:=sw;rw[hd];refine h v H' hT _ _ (en.put hdn v) ⟨b1,b2,b3,iw.trans se,fH zZ h2,bH st2 s2 (ky.right iy),bX zW (iy.trans se),bP.fH (ky.right iw) wg⟩
end rules
end Go.dQ
namespace Go.dQ
open Go
def fD (h:Hp)(a:FX)(cells:FV):Prop:=∀k v,cells[k]?=some v->∃ad,a=some ad/\eO h (ad.add k)=some v
theorem fD.nil{h:Hp}{a:FX}:fD h a []:=λk v e=>by simp at e
theorem fD.mono{h k:Hp}{a:FX}{cells:FV}(r:fD h a cells)(l:Le h k):fD k a cells:=λj v e=>by
 obtain⟨ad,h1,h2⟩:=r j v e;exact⟨ad,h1,dh l h2⟩
theorem fD.some{h:Hp}{a:FX}{cells:FV}(r:fD h a cells)(fN:0<cells.length):a.isSome=true:=by
 obtain⟨ad,h1,_⟩:=r 0 _ (List.getElem?_eq_getElem fN);simp[h1]
theorem fD.take{h:Hp}{a:FX}{cells:FV}(r:fD h a cells)(k:Nat):fD h a (cells.take k):=λj v e=>by
 rw[List.getElem?_take]at e;split at e
 ·exact r j v e
 cases e
def B8 (a:FX)(l m k:Nat):FX:=if m=l then a else a.map (·.add k)
structure own (a:FX)(cap:Nat)(e:TypeId)(sz:Nat)(xs:FV)(h:Hp):Prop where
 fits:xs.length<=cap*sz
 aH:cap<=maxLen
 block:(a=none/\cap=0)\/∃b spare,a=some ⟨b,0,none⟩/\xs.length+spare.length=cap*sz/\ag b e (xs++spare) h
theorem rj{b i:Nat}{e:TypeId}{cs:FV}{h:Hp}(p:ag b e cs h):fD h (some ⟨b,i,none⟩) (cs.drop i):=λk v hv=>by
 rw[List.getElem?_drop]at hv;exact⟨_,rfl,by rw[add_lit];exact fB p hv⟩
theorem oP{a:FX}{cap:Nat}{e:TypeId}{sz:Nat}{xs:FV}{h:Hp}(o:own a cap e sz xs h):fD h a xs:=by
 obtain⟨h1,_,h3|⟨b,sp,rfl,_,h5⟩⟩:=o
 ·obtain⟨rfl,rfl⟩:=h3
  have:xs= []:=List.eq_nil_of_length_eq_zero (by omega);subst this;exact fD.nil
 intro k v hv;refine⟨_,rfl, ?_⟩;rw[add_lit,Nat.zero_add];exact fB h5 (by rw[List.getElem?_append_left (by have:=(List.getElem?_eq_some_iff.1 hv).1;exact this)];exact hv)
theorem C7 (e:TypeId)(sz:Nat)(h:Hp):own none 0 e sz [] h:=⟨by simp,by simp[maxLen], .inl ⟨rfl,rfl⟩⟩
theorem pq{b:Nat}{e:TypeId}{cs:FV}{h:Hp}(p:ag b e cs h)(cap sz:Nat)(hc:cs.length=cap*sz)(hm:cap<=maxLen):own (some ⟨b,0,none⟩) cap e sz cs h:=
 ⟨by omega,hm, .inr ⟨b,[],rfl,by simpa using hc,by simpa using p⟩⟩
theorem yO{a:FX}{cap:Nat}{e:TypeId}{sz:Nat}{xs:FV}{h:Hp}(o:own a cap e sz xs h)(k:Nat):own a cap e sz (xs.take k) h:=by
 obtain⟨h1,h2,h3|⟨b,sp,rfl,h4,h5⟩⟩:=o
 ·exact⟨by simp;omega,h2, .inl h3⟩
 refine⟨by simp;omega,h2, .inr ⟨b,xs.drop k++sp,rfl,by simp;omega, ?_⟩⟩;rw[<-List.append_assoc,List.take_append_drop];exact h5
theorem sB{H:Dz}(e:TypeId)(sz:Nat){h:Hp}(s:ai H h):ai (own none 0 e sz []::H) h:=
 ⟨λ_=>none,h,λ_=> .inl rfl,λb o x=>by simp at x,Le.refl h,C7 e sz _,s⟩
theorem gB{H:Dz}{A:aa}(hA:∀h,A h){h:Hp}(s:ai H h):ai (A::H) h:=
 ⟨λ_=>none,h,λ_=> .inl rfl,λb o x=>by simp at x,Le.refl h,hA _,s⟩
section rules
variable {P:Program} {n:Nat} {ds:Dx} {F:dM} {Q:Exit->F7} {K:F7} {σ:aT} {H:Dz} {o:Oper} {d:Nat}
theorem cX (e:TypeId)(sz:Nat)(h:G n ds F K σ (own none 0 e sz []::H)):G n ds F K σ H:=ay (λ_ s=>sB e sz s) h
theorem ajw{t:TypeId}{x:Operand}{a:FX}{l c:Nat}{ek:TypeId×Nat}(ht:ed P t=some ek)(ho:o.op= .call {callee:= .builtin .len,args:= #[x],argTypes:= #[t]})(hx:bC σ x=some (.slice a l c)):Yv P n ds F σ o (.int .i64 l):=
 λa w e fr=>by
  obtain⟨e',k⟩:=ek;simp[execOp,ho,resolve,invoke,builtin,Builtin.len_,e.eval hx,run_underlying (kM ht).1,goInt]
theorem ad1{t:TypeId}{x:Operand}{l:F9}(ht:P.underlying t=some .string)(ho:o.op= .call {callee:= .builtin .len,args:= #[x],argTypes:= #[t]})(hx:bC σ x=some (aW l)):Yv P n ds F σ o (.int .i64 l.length):=
 λa w e fr=>by
  unfold aW at hx;have tM:(ByteArray.mk l.toArray).size=l.length:=by show l.toArray.size=l.length;simp
  simp[execOp,ho,resolve,invoke,builtin,Builtin.len_,e.eval hx,run_underlying ht,goInt,tM]
theorem aju{x y:Operand}{k:IntKind}{i j:Int}{rQ:Array TypeId}(ho:o.op= .call {callee:= .builtin .min,args:= #[x,y],argTypes:=rQ})(hx:bC σ x=some (.int k i))(hy:bC σ y=some (.int k j)):Yv P n ds F σ o (.int k (min i j)):=
 λa w e fr=>by
  have:(if j<i then j else i)=min i j:=by omega
  simp[execOp,ho,resolve,invoke,builtin,Builtin.min_,Builtin.min2,e.eval hx,e.eval hy,this]
theorem ajv{x y:Operand}{k:IntKind}{i j:Int}{rQ:Array TypeId}(ho:o.op= .call {callee:= .builtin .max,args:= #[x,y],argTypes:=rQ})(hx:bC σ x=some (.int k i))(hy:bC σ y=some (.int k j)):Yv P n ds F σ o (.int k (max i j)):=
 λa w e fr=>by
  have:(if j>i then j else i)=max i j:=by omega
  simp[execOp,ho,resolve,invoke,builtin,Builtin.max_,Builtin.max2,e.eval hx,e.eval hy,this]
theorem JV{t e sz m:Nat}{x y:Operand}{a:FX}{l c j:Nat}{k:IntKind}{i:Int}(ht:ed P t=some (e,sz))(ho:o.op= .indexAddr t x y)(hx:bC σ x=some (.slice a l c))(hy:bC σ y=some (.int k i))
  (hj:i=(j:Int)) (hl:j<l) (hm:j*sz=m) (hs:a.isSome=true):Yv P n ds F σ o (.pointer (a.map (·.add m))):=
 λa w en fr=>by
  obtain⟨hu,inf,hi,hz⟩:=kM ht;obtain⟨ad,rfl⟩:=Option.isSome_iff_exists.1 hs;subst hj;subst hm;simp[execOp,ho,Instr.indexAt,en.eval hx,en.eval hy,asIntOf,run_underlying hu,sizeOf,typeInfo,hi,hz,hl]
def DX (σ:aT):Option Operand->Nat->Nat->Prop
 |none,dflt,v=>v=dflt
 |some x,_,v=>∃k i,bC σ x=some (.int k i)/\i=(v:Int)
theorem iB{x:Value}{y v:Nat}{code:BoundsCode}{k:IntKind}{i:Int}{w:World}(hx:x= .int k i)(hi:i=(v:Int))(hv:v<=y):(Instr.sliceBound x y code).run P w= .ok v w:=by
 subst hx;subst hi;simp[Instr.sliceBound,asIntOf,hv]
theorem zp{lo hi mx:Option Operand}{a:Act}{w:World}{len cap l h m:Nat}(en:Env n ds σ a)(hl:DX σ lo 0 l)(hh:DX σ hi len h)(hm:DX σ mx cap m)(h1:l<=h)(h2:h<=m)(h3:m<=cap)(hx:mx.isSome=true->hi.isSome=true)(b:Bool):
  (Instr.sliceBounds b len cap (lo.map a.eval) (hi.map a.eval) (mx.map a.eval)).run P w= .ok (l,h,m) w:=by
 unfold Instr.sliceBounds;cases mx with
 |none=>
  simp only[DX]at hm;subst hm;cases hi with
  |none=>
   simp only[DX]at hh;subst hh;cases lo with
   |none=>simp only[DX]at hl;subst hl;simp
   |some x=>obtain⟨k,i,e,e2⟩:=hl;simp[iB (en.eval e) e2 h1]
  |some y=>
   obtain⟨k',i',e',e2'⟩:=hh;cases lo with
   |none=>simp only[DX]at hl;subst hl;simp[iB (en.eval e') e2' h2]
   |some x=>obtain⟨k,i,e,e2⟩:=hl;simp[iB (en.eval e') e2' h2,iB (en.eval e) e2 h1]
 |some z=>
  obtain⟨k'',i'',e'',ajg⟩:=hm;cases hi with
  |none=>simp at hx
  |some y=>
   obtain⟨k',i',e',e2'⟩:=hh;cases lo with
   |none=>simp only[DX]at hl;subst hl;simp[iB (en.eval e'') ajg h3,iB (en.eval e') e2' h2]
   |some x=>obtain⟨k,i,e,e2⟩:=hl;simp[iB (en.eval e'') ajg h3,iB (en.eval e') e2' h2,iB (en.eval e) e2 h1]
theorem Yr{t e sz:TypeId}{x:Operand}{lo hi mx:Option Operand}{a:FX}{len cap:Nat}(l hh m:Nat)(ht:ed P t=some (e,sz))(ho:o.op= .slice t x lo hi mx)(hx:bC σ x=some (.slice a len cap))
  (Xu:DX σ lo 0 l) (hbh:DX σ hi len hh) (hbm:DX σ mx cap m) (h1:l<=hh) (h2:hh<=m) (h3:m<=cap) (GP:mx.isSome=true->hi.isSome=true):Yv P n ds F σ o (.slice (B8 a l m (l*sz)) (hh-l) (m-l)):=
 λac w en fr=>by
  obtain⟨hu,inf,xN,hz⟩:=kM ht;have hr:=zp (P:=P) (w:=w) en Xu hbh hbm h1 h2 h3 GP true;simp[execOp,ho,Instr.sliceAt,Instr.slice,en.eval hx,run_underlying hu,hr,sizeOf,typeInfo,xN,hz,B8]
theorem TV{t:TypeId}{x y:Operand}{s:F9}{j:Nat}{k:IntKind}{i:Int}{c:UInt8}(ht:P.underlying t=some .string)(ho:o.op= .index t x y)(hx:bC σ x=some (aW s))(hy:bC σ y=some (.int k i))
  (hj:i=(j:Int)) (hc:s[j]?=some c):Yv P n ds F σ o (.int .u8 c.toNat):=
 λa w en fr=>by
  subst hj;unfold aW at hx;have ct:=(List.getElem?_eq_some_iff.1 hc).1;have hb:(ByteArray.mk s.toArray)[j]?=some c:=by
   have:j<(ByteArray.mk s.toArray).size:=by show j<s.toArray.size;simpa using ct
   rw[getElem?_pos (ByteArray.mk s.toArray) j this];have hc':=(List.getElem?_eq_some_iff.1 hc).2;simpa[ByteArray.getElem_eq_getElem_data]using hc'
  simp[execOp,ho,Instr.index,en.eval hx,en.eval hy,asIntOf,run_underlying ht,hb]
def ak (l:F9):FV:=l.map λc=> .int .u8 c.toNat
@[simp] theorem kf (l : F9) : (ak l).length = l.length := by simp [ak]
@[simp] theorem sC (a b : F9) : ak (a ++ b) = ak a ++ ak b := by simp [ak]
theorem ee{l:F9}:∀v∈ak l,v.oneCell'=true:=by
 intro v hv;simp only[ak,List.mem_map]at hv;obtain⟨c,_,rfl⟩:=hv;rfl
theorem uM{a:FX}{l:F9}{c:Nat}{w:World}(hr:fD (ki w) a (ak l)):(Conv.bytesToString (.slice a l.length c)).run P w= .ok (aW l) w:=by
 cases a with
 |none=>
  have:l= []:=by
   cases l with
   |nil=>rfl
   |cons x r=>obtain⟨ad,h1,_⟩:=hr 0 (.int .u8 x.toNat) (by simp[ak]);cases h1
  subst this;simp[Conv.bytesToString,aW];rfl
 |some ad=>
  have yp:∀j v,(ak l)[j]?=some v->w.cell? (ad.add j)=some v:=λj v e=>by
   obtain⟨ad',h1,h2⟩:=hr j v e;cases h1;exact h2
  have abW:=run_loadCells_list (P:=P) w ad (ak l) yp;rw[kf]at abW;have h:=run_bytesToString (P:=P) w ad l.length c (l.map λx=>(x.toNat:Int)) (by rw[abW];simp[ak]);rw[h];have key:∀(l:F9) (acc:ByteArray),(l.map λx=>(x.toNat:Int)).foldl (λr q=>r.push (UInt8.ofNat q.toNat)) acc=⟨acc.data++l.toArray⟩:=by
   intro l;induction l with
   |nil=>intro acc;simp
   |cons x r ih=>
    intro acc;simp only[List.map_cons,List.foldl_cons,ih];apply ByteArray.ext;apply Array.ext';simp[ByteArray.push]
  rw[key];simp[aW]
theorem Ij{s t:TypeId}{x:Operand}{a:FX}{l:F9}{m c sz:Nat}{e:TypeId}(hs:ed P s=some (e,sz))(he:P.underlying e=some (.int .u8))(ht:P.underlying t=some .string)(ho:o.op= .convert s t x)
  (hx:bC σ x=some (.slice a m c)) (hm:m=l.length) (hr:fD F.h a (ak l)):Yv P n ds F σ o (aW l):=λac w en fr=>by
 subst hm;have hr':=uM (P:=P) (c:=c) (hr.mono fr);have:=run_underlying (P:=P) (kM hs).1 w;cases a with
 |none=>simp[execOp,ho,en.eval hx,convert,this,run_underlying ht,run_underlying he,hr']
 |some ad=>simp[execOp,ho,en.eval hx,convert,this,run_underlying ht,run_underlying he,hr']
theorem Ys{s t:TypeId}{x:Operand}{l:F9}(hs:P.underlying s=some .string)(ht:P.underlying t=some .string)(ho:o.op= .convert s t x)(hx:bC σ x=some (aW l)):Yv P n ds F σ o (aW l):=λac w en fr=>by
 unfold aW at hx⊢;simp[execOp,ho,en.eval hx,convert,run_underlying hs,run_underlying ht]
theorem M6{t:TypeId}{x y:Operand}{a:FX}{k cap e sz:Nat}{cells:FV}{f:aa->Dz}{v:Value}(hs:de P t=true)(ho:o.op= .store t x y)(hd:o.dst=none)(hx:bC σ x=some (.pointer (a.map (·.add k))))(hy:bC σ y=some v)
  (h1:v.oneCell'=true) (hu:Pos H (own a cap e sz cells) f) (hk:k<cells.length) (h:G n ds F K σ (f (own a cap e sz (cells.set k v)))):G n ds F (λa w=>o.wp P a w K Q) σ H:=by
 refine .mk λac w en s=> ?_;obtain⟨R,s1,s2⟩:=hu.uZ;have sR:=s.uZ s1;obtain⟨hh,⟨q1,q2,q3⟩,hl⟩:=sR.get;rcases q3 with q3|⟨b,sp,rfl,q4,q5⟩
 ·obtain⟨rfl,rfl⟩:=q3;omega
 have eO:=mB hl (fB q5 (List.getElem?_eq_getElem (show k<(cells++sp).length from by simp;omega)));have fM:=zh (P:=P) hs eO (uz q5 (show k<(cells++sp).length from by simp;omega) hl) h1;have hpt:St F (ag b e (cells++sp)::R) w:=by
  obtain⟨a1,a2,a3,fr,h,⟨xO,h2',dd,l1,l2,gY,st⟩,y,zz⟩:=sR;obtain⟨_,_,q3'|⟨b',sp',e',q4',q6⟩⟩:=gY
  ·exact absurd q3'.1 (by simp)
  simp only[Option.some.injEq,Addr.mk.injEq,and_true]at e';subst e';have h6:=l1.trans y;obtain⟨lo,xN,hf,iR⟩:=q6;have hw1:=h6 _ _ iR;obtain⟨lo2,xh,Qr,rP⟩:=q5;have XH:=hl _ _ rP;rw[hw1]at XH;simp only[Option.some.injEq,Obj.cells.injEq]at XH;have PU:sp'=sp:=by simpa using XH.1
  subst PU;exact⟨a1,a2,a3,fr,h,⟨xO,h2',dd,l1,l2,⟨lo,xN,hf,iR⟩,st⟩,y,zz⟩
 have Ae:(execOp ac.eval o).run P w= .ok .skip (w.setCell ⟨b,k,none⟩ v):=by
  have hadd:(⟨b,0,none⟩:Addr).add k=⟨b,k,none⟩:=by rw[add_lit,Nat.zero_add]
  have Xl:=en.eval hx;simp only[Option.map_some,hadd]at Xl;simp[execOp,ho,Xl,en.eval hy,fM]
 unfold Oper.wp;rw[Ae,Oper.upon_skip,hd];refine h _ _ en (St.qt (s2 _) ((hpt.setCell v).sub λh' s'=>bo (λh'' p=>⟨by simpa using q1,q2, .inr ⟨b,sp,rfl,by simpa using q4, ?_⟩⟩) s'));rw[List.set_append_left _ _ hk]at p;exact p
def tJ (l:F9)(i:Nat):Nat:=(l.getD i 0).toNat
theorem Ty (l:F9)(i:Nat):tJ l i<256:=(l.getD i 0).toNat_lt
theorem PN{l:F9}{i:Nat}(h:i<l.length):(ak l)[i]?=some (.int .u8 (tJ l i:Int)):=by
 simp[ak,tJ,h]
theorem fD.RB{h:Hp}{a:FX}{l:F9}(r:fD h a (ak l))(hl:0<l.length):a.isSome=true:=r.some (by simpa using hl)
end rules
end Go.dQ
namespace Go.dQ
open Go
def vg (P:Program)(t:TypeId):Option (TypeId×Nat×Nat×FV):=
 match P.underlying t with
 |some (.slice e)=>match P.info? e with
  |some i=>match i.zero with
   |some z=>if z.cells.size=i.size&&0<i.size then some (e,i.size,i.bytes,z.cells.toList)else none
   |none=>none
  |none=>none
 |_=>none
theorem nR{P:Program}{t e sz nt:Nat}{z:FV}(h:vg P t=some (e,sz,nt,z)):
  P.underlying t=some (.slice e)/\0<sz/\z.length=sz/\∃i zv,P.info? e=some i/\i.size=sz/\i.bytes=nt/\i.zero=some zv/\zv.cells=z.toArray:=by
 unfold vg at h;cases hu:P.underlying t with
 |none=>simp[hu]at h
 |some d=>
  cases d<;>simp[hu]at h;rename_i e';cases hi:P.info? e' with
  |none=>simp[hi]at h
  |some i=>
   simp only[hi]at h;cases hz:i.zero with
   |none=>simp[hz]at h
   |some zv=>
    simp only[hz]at h;split at h
    ·rename_i hc
     simp only[Bool.and_eq_true,decide_eq_true_eq,Option.some.injEq,Prod.mk.injEq]at h hc;obtain⟨rfl,rfl,rfl,rfl⟩:=h;exact⟨rfl,hc.2,by simpa using hc.1,i,zv,hi,rfl,rfl,hz,by simp⟩
    cases h
theorem mR:∀(vs pre Xf post:FV),Xf.length=vs.length->dq (pre++(Xf++post)) pre.length vs=pre++(vs++post):=by
 intro vs;induction vs with
 |nil=>intro pre Xf post h;have:Xf= []:=List.eq_nil_of_length_eq_zero (by simpa using h);subst this;rfl
 |cons v vs ih=>
  intro pre Xf post h;cases Xf with
  |nil=>simp at h
  |cons m Xf=>
   simp only[dq,List.cons_append];have h1:(pre++m::(Xf++post)).set pre.length v=(pre++ [v])++(Xf++post):=by
    rw[List.set_append_right _ _ (Nat.le_refl _)];simp
   have h2:pre.length+1=(pre++ [v]).length:=by simp
   rw[h1,h2,ih (pre++ [v]) Xf post (by simpa using h)];simp
theorem mO{cs vs:FV}{i:Nat}(h:i+vs.length<=cs.length):dq cs i vs=cs.take i++(vs++cs.drop (i+vs.length)):=by
 have h1:cs=cs.take i++((cs.drop i).take vs.length++cs.drop (i+vs.length)):=by
  rw[<-List.drop_drop,List.take_append_drop,List.take_append_drop]
 have hl:(cs.take i).length=i:=by simp;omega
 have:=mR vs (cs.take i) ((cs.drop i).take vs.length) (cs.drop (i+vs.length)) (by simp;omega);rw[<-h1,hl]at this;exact this
def Src (P:Program)(F:dM)(H:Dz)(sz m:Nat)(x:Value)(news:FV):Prop:=
 ∀w,St F H w->(Builtin.lenOf x).run P w= .ok m w/\(∀j,j<=m->(Builtin.firstCells sz j x).run P w= .ok (news.take (j*sz)).toArray w)/\news.length=m*sz
theorem eQ{P:Program}{F:dM}{H:Dz}{sz m c:Nat}{a:FX}{news:FV}(hl:news.length=m*sz)(hr:∀h,Le F.h h->gW H h->fD h a news):Src P F H sz m (.slice a m c) news:=by
 intro w s;obtain⟨hh,st,hle,_⟩:=s.own;have r:=hr (ki w) s.frame (cx st hle);refine⟨by simp[Builtin.lenOf],λj hj=> ?_,hl⟩;cases a with
 |none=>
  have:news= []:=by
   cases news with
   |nil=>rfl
   |cons x y=>obtain⟨ad,h1,_⟩:=r 0 x (by simp);cases h1
  subst this;simp[Builtin.firstCells]
 |some ad=>
  refine run_firstCells_some w sz j ad m c (news.take (j*sz)) ?_ ?_
  ·rw[List.length_take,hl];exact Nat.min_eq_left (Nat.mul_le_mul_right _ hj)
  intro i v hv;obtain⟨ad',h1,h2⟩:=(r.take (j*sz)) i v hv;cases h1;exact h2
section rules
variable {P:Program} {n:Nat} {ds:Dx} {F:dM} {Q:Exit->F7} {K:F7} {σ:aT} {H:Dz} {o:Oper} {d:Nat}
theorem Gt{t t2 ty:TypeId}{e sz nt:Nat}{z:FV}(ht:vg P t=some (e,sz,nt,z)){d2:TypeDesc}(qg:P.underlying t2=some d2)(GR:d2= .string\/∃e2,d2= .slice e2){b off len cap m:Nat}{cs news:FV}{R:Dz}{x:Value}{w:World}
  (s:St F (ag b e cs::R) w) (hs:Src P F (ag b e cs::R) sz m x news) (h1:∀v∈news,v.oneCell'=true) (pM:len+m<=cap) (vk:off+(len+m)*sz<=cs.length):
  ∃w',(Builtin.append_ #[t,t2] ty #[.slice (some ⟨b,off,none⟩) len cap,x]).run P w= .ok (.slice (some ⟨b,off,none⟩) (len+m) cap) w'/\St F (ag b e (dq cs (off+len*sz) news)::R) w':=by
 obtain⟨hu,tM,hzl,i,zv,hi,tQ,hby,hz,Jr⟩:=nR ht;obtain⟨s1,s2,s3⟩:=hs w s;have s2':=s2 m (Nat.le_refl _);rw[<-s3,List.take_length]at s2';obtain⟨w',hr,st⟩:=ke (P:=P) news (off+len*sz) 0 cs w s (by rw[s3];rw[Nat.add_mul]at vk;omega) h1;refine⟨w', ?_,by simpa using st⟩;rcases GR with rfl|⟨e2,rfl⟩<;>simp[Builtin.append_,run_underlying hu,run_underlying qg,sizeOf,typeInfo,hi,tQ,s1,pM,s2',add_lit,hr]
theorem Gu{t t2 ty:TypeId}{e sz nt:Nat}{z:FV}(ht:vg P t=some (e,sz,nt,z)){d2:TypeDesc}(qg:P.underlying t2=some d2)(GR:d2= .string\/∃e2,d2= .slice e2){a:FX}{len cap m:Nat}{B0 news:FV}{R:Dz}{x:Value}{w:World}
  (s:St F R w) (ho:B0.length=len*sz) (hro:fD (ki w) a B0) (hs:Src P F R sz m x news) (pM:cap<len+m) (hb:(len+m)*nt<=140737488355328) (h63:len+m<=9223372036854775807):
  ∃w' b Al,(Builtin.append_ #[t,t2] ty #[.slice a len cap,x]).run P w= .ok (.slice (some ⟨b,0,none⟩) (len+m) Al) w'/\len+m<=Al/\Al<=maxLen/\
   ∃sp,(B0++news).length+sp.length=Al*sz/\St F (ag b e ((B0++news)++sp)::R) w':=by
 obtain⟨hu,tM,hzl,i,zv,hi,tQ,hby,hz,Jr⟩:=nR ht;have sd:St F R w.drew:=s.drew;obtain⟨s1,_,s3⟩:=hs w s;obtain⟨_,s2,_⟩:=hs w.drew sd;have s2':=s2 m (Nat.le_refl _);rw[<-s3,List.take_length]at s2';have vk:=growslice_fits pM hb;have hold:(Builtin.firstCells sz len (.slice a len cap)).run P w.drew= .ok B0.toArray w.drew:=by
  cases a with
  |none=>
   have:B0= []:=by
    cases B0 with
    |nil=>rfl
    |cons x y=>obtain⟨ad,h1,_⟩:=hro 0 x (by simp);cases h1
   subst this;simp[Builtin.firstCells]
  |some ad=>
   refine run_firstCells_some w.drew sz len ad len cap B0 ho ?_;intro j v hv;obtain⟨ad',h1,h2⟩:=hro j v hv;cases h1;exact h2
 have Ju:=grownCap_ge w (len+m) cap e;have hle:=grownCap_le_maxLen w (len+m) cap e (by simp only[maxLen];omega);have PU:((B0++news)).length+(Builtin.zeroCells z.toArray (grownCap w (len+m) cap e-(len+m))).toList.length=grownCap w (len+m) cap e*sz:=by
  have hz':(Builtin.zeroCells z.toArray (grownCap w (len+m) cap e-(len+m))).toList.length=(grownCap w (len+m) cap e-(len+m))*sz:=by
   rw[Array.length_toList,size_zeroCells];simp[hzl]
  rw[hz',List.length_append,ho,s3,<-Nat.add_mul,<-Nat.add_mul]
  congr 1;omega
 refine⟨_,w.heap.size,grownCap w (len+m) cap e, ?_,Ju,hle,(Builtin.zeroCells z.toArray (grownCap w (len+m) cap e-(len+m))).toList,PU,sd.new e _⟩;have hn:¬(len+m<=cap):=by omega
 have h63':¬(9223372036854775807<((len:Int)+(m:Int))):=by omega
 have h48':¬(281474976710656<Builtin.nextslicecap (len+m) cap*nt):=by omega
 have hdw:({w with drawn:=w.drawn+1}:World)=w.drew:=rfl;rcases GR with rfl|⟨e2,rfl⟩<;>simp[Builtin.append_,run_underlying hu,run_underlying qg,sizeOf,typeInfo,hi,tQ,hby,s1,hn,h63',h48',Question.forced,hdw,hold,s2',zeroValue,hz,Jr,newRow,grownCap]
 all_goals
  congr 2
  apply Array.ext';simp
theorem Jk{t t2 ty:TypeId}{e sz nt:Nat}{z:FV}(ht:vg P t=some (e,sz,nt,z)){d2:TypeDesc}(qg:P.underlying t2=some d2)(GR:d2= .string\/∃e2,d2= .slice e2){a:FX}{len cap m:Nat}{xs news:FV}{R:Dz}{x:Value}{w:World}
  (s:St F (own a cap e sz xs::R) w) (ho:xs.length=len*sz) (hs:Src P F (own a cap e sz xs::R) sz m x news) (h1:∀v∈news,v.oneCell'=true) (hb:(len+m)*nt<=140737488355328) (h63:len+m<=9223372036854775807):
  ∃w' a' Al,(Builtin.append_ #[t,t2] ty #[.slice a len cap,x]).run P w= .ok (.slice a' (len+m) Al) w'/\len+m<=Al/\St F (own a' Al e sz (xs++news)::R) w':=by
 obtain⟨hu,tM,hzl,i,zv,hi,tQ,hby,hz,Jr⟩:=nR ht;have hnl:=(hs w s).2.2;by_cases pM:len+m<=cap
 ·obtain⟨hh,ho',hle⟩:=s.get
  obtain⟨q1,q2,q3|⟨b,sp,rfl,q4,q5⟩⟩:=ho'
  ·obtain⟨rfl,rfl⟩:=q3
   have xg:len=0:=by omega
   have hm0:m=0:=by omega
   subst xg;subst hm0;have hx:xs= []:=List.eq_nil_of_length_eq_zero (by simpa using ho);have hn:news= []:=List.eq_nil_of_length_eq_zero (by simpa using hnl);subst hx;subst hn;obtain⟨s1,s2,_⟩:=hs w s;have s2':=s2 0 (Nat.le_refl _);refine⟨w,none,0, ?_,by omega,(by simpa using s)⟩;simp at s2';rcases GR with rfl|⟨e2,rfl⟩<;>simp[Builtin.append_,run_underlying hu,run_underlying qg,sizeOf,typeInfo,hi,tQ,s1,s2']
  ·
   have hpt:St F (ag b e (xs++sp)::R) w:=by
    obtain⟨a1,a2,a3,fr,h,⟨xO,h2',dd,l1,l2,gY,st⟩,y,zz⟩:=s;obtain⟨_,_,q3'|⟨b',sp',e',q4',q6⟩⟩:=gY
    ·exact absurd q3'.1 (by simp)
    simp only[Option.some.injEq,Addr.mk.injEq,and_true]at e';subst e';have h6:=l1.trans y;obtain⟨lo,xN,hf,iR⟩:=q6;have hw1:=h6 _ _ iR;obtain⟨lo2,xh,Qr,rP⟩:=q5;have XH:=hle _ _ rP;rw[hw1]at XH;simp only[Option.some.injEq,Obj.cells.injEq,List.toArray_eq_iff]at XH;have PU:sp'=sp:=by
     have:=XH.1;simpa using this
    subst PU;exact⟨a1,a2,a3,fr,h,⟨xO,h2',dd,l1,l2,⟨lo,xN,hf,iR⟩,st⟩,y,zz⟩
   have hs':Src P F (ag b e (xs++sp)::R) sz m x news:=λw' s'=>hs w' (s'.sub λh st=>bo (λh' p=>⟨by omega,q2, .inr ⟨b,sp,rfl,q4,p⟩⟩) st);obtain⟨w',hr,st⟩:=Gt (P:=P) (ty:=ty) ht qg GR (off:=0) hpt hs' h1 pM (by rw[List.length_append,q4];simpa using Nat.mul_le_mul_right sz pM);refine⟨w',_,cap,hr,pM, ?_⟩;have afk:dq (xs++sp) (0+len*sz) news=(xs++news)++sp.drop news.length:=by
    rw[Nat.zero_add,<-ho];have hsl:news.length<=sp.length:=by
     have h2:=Nat.mul_le_mul_right sz pM;rw[Nat.add_mul]at h2;omega
    have:=mR news xs (sp.take news.length) (sp.drop news.length) (by simp;omega);rw[List.take_append_drop]at this;rw[this,List.append_assoc]
   rw[afk]at st;refine st.sub λh s'=>bo (λh' p=>⟨?_,q2, .inr ⟨b,_,rfl, ?_,p⟩⟩) s'
   ·rw[List.length_append,ho,hnl,<-Nat.add_mul];exact Nat.mul_le_mul_right _ pM
   have h2:=Nat.mul_le_mul_right sz pM;rw[Nat.add_mul]at h2;simp only[List.length_append,List.length_drop];omega
 obtain⟨hh,ho',hle⟩:=s.get;obtain⟨w',b,Al,hr,Ju,mJ,sp,PU,st⟩:=Gu (P:=P) (ty:=ty) (cap:=cap) ht qg GR s ho ((oP ho').mono hle) hs (by omega) hb h63;refine⟨w',_,Al,hr,Ju, ?_⟩;have st2:=(st.sub λ_ s'=>dH s').drop;refine st2.sub λh s'=>bo (λh' p=>⟨?_,mJ, .inr ⟨b,sp,rfl,PU,p⟩⟩) s';omega
def mY (P:Program)(t:TypeId):Bool:=match P.underlying t with|some (.slice _)=>true|some .string=>true|_=>false
theorem Gb{t:TypeId}(h:mY P t=true):∃d,P.underlying t=some d/\(d= .string\/∃e2,d= .slice e2):=by
 unfold mY at h;cases hu:P.underlying t with
 |none=>simp[hu]at h
 |some d=>rw[hu]at h;cases d<;>simp at h<;>exact⟨_,rfl,by simp⟩
theorem lD{ρ:Operand->Value}{x y:Operand}{t t2:TypeId}{w:World}(ho:o.op= .call {callee:= .builtin .append,args:= #[x,y],argTypes:= #[t,t2]}):
  (execOp ρ o).run P w=((Builtin.append_ #[t,t2] o.type #[ρ x,ρ y]).run P w).andThen λv w'=> .ok (.value v) w':=by
 simp[execOp,ho,resolve,invoke,builtin]
theorem fW{t t2:TypeId}{e sz nt m len cap:Nat}{z xs news:FV}{x y:Operand}{a:FX}{v:Value}{f:aa->Dz}(ht:vg P t=some (e,sz,nt,z))(qg:mY P t2=true)
  (ho:o.op= .call {callee:= .builtin .append,args:= #[x,y],argTypes:= #[t,t2]}) (hd:o.dst=some d) (hx:bC σ x=some (.slice a len cap)) (hy:bC σ y=some v)
  (hu:Pos H (own a cap e sz xs) f) (hl:xs.length=len*sz) (hs:Src P F H sz m v news) (h1:∀u∈news,u.oneCell'=true) (hb:(len+m)*nt<=140737488355328) (h63:len+m<=9223372036854775807) (hdn:Nat.blt d n=true)
  (h:∀a' c',len+m<=c'->G n ds F K ((d, .slice a' (len+m) c')::σ) (f (own a' c' e sz (xs++news)))):G n ds F (λa w=>o.wp P a w K Q) σ H:=by
 refine .mk λac w en s=> ?_;obtain⟨d2,GR,hd2'⟩:=Gb qg;obtain⟨R,uZ,back⟩:=hu.uZ;obtain⟨w',a',c',hr,Ju,st⟩:=Jk (P:=P) (ty:=o.type) ht GR hd2' (s.uZ uZ) hl (λw' s'=>hs w' (s'.qt uZ)) h1 hb h63;unfold Oper.wp;rw[lD ho,en.eval hx,en.eval hy,hr,Result.andThen_ok,Oper.upon_value,hd];exact h a' c' Ju _ _ (en.put hdn _) (st.qt (back _))
theorem bI{t t2:TypeId}{e sz nt m len cap b:Nat}{z xs news:FV}{x y:Operand}{a:FX}{c:Nat}{e2:TypeId}{f:aa->Dz}(ht:vg P t=some (e,sz,nt,z))(qg:mY P t2=true)
  (ho:o.op= .call {callee:= .builtin .append,args:= #[x,y],argTypes:= #[t,t2]}) (hd:o.dst=some d) (hx:bC σ x=some (.slice a len cap)) (hy:bC σ y=some (.slice (some ⟨b,0,none⟩) m c))
  (hu:Pos H (own a cap e sz xs) f) (hl:xs.length=len*sz) (hm:news.length=m*sz) (h1:∀u∈news,u.oneCell'=true) (hb:(len+m)*nt<=140737488355328) (h63:len+m<=9223372036854775807) (hdn:Nat.blt d n=true)
  (h:∀a' c',len+m<=c'->G n ds F K ((d, .slice a' (len+m) c')::σ) (f (own a' c' e sz (xs++news)))):G n ds F (λa w=>o.wp P a w K Q) σ (ag b e2 news::H):=by
 refine fW ht qg ho hd hx hy (.there hu) hl (eQ hm ?_) h1 hb h63 hdn ?_
 ·intro hh _ il
  obtain⟨⟨k,pk,lk⟩,_⟩:=il;exact(rj (i:=0) pk).mono lk
 intro a' c' hc;exact ay (λ_ s=>by obtain⟨_,_,_,_,l2,_,s⟩:=s;exact eW s l2) (h a' c' hc)
def pO (pl:Nat->Option (Nat×Nat)):FV->List (Nat×Value)->Option FV
 |cells,[]=>some cells
 |cells,(i,v)::rest=>
  match pl i with
  |none=>none
  |some (off,size)=>if v.cells.size=size/\off+size<=cells.length then pO pl (dq cells off v.cells.toList) rest else none
theorem IP:∀(vs:FV) (cs:FV) (off k:Nat),
  ((vs.zipIdx k).foldl (λ(c:Array Value) (p:Value×Nat)=>c.setIfInBounds (off+p.2) p.1) cs.toArray)=(dq cs (off+k) vs).toArray:=by
 intro vs;induction vs with
 |nil=>intro cs off k;rfl
 |cons v vs ih=>
  intro cs off k;simp only[List.zipIdx_cons,List.foldl_cons,dq];have:=ih (cs.set (off+k) v) off (k+1);rw[<-Nat.add_assoc]at this;rw[<-this];simp
theorem fill_eq (pl:Nat->Option (Nat×Nat)):∀(parts:List (Nat×Value)) (cells:FV) (r:FV),pO pl cells parts=some r->Instr.fill pl cells.toArray parts=some r.toArray:=by
 intro parts;induction parts with
 |nil=>intro cells r h;simp[pO]at h;simp[Instr.fill,h]
 |cons p rest ih=>
  intro cells r h;obtain⟨i,v⟩:=p;simp only[pO]at h;cases hp:pl i with
  |none=>simp[hp]at h
  |some q=>
   obtain⟨off,size⟩:=q;simp only[hp]at h;split at h
   ·rename_i hc
    have:=ih _ _ h;simp only[Instr.fill,hp];rw[if_neg (by simp only[List.size_toArray,ne_eq,decide_not,Bool.or_eq_true,Bool.not_eq_true',decide_eq_false_iff_not,decide_eq_true_eq];omega)];have h2:=IP v.cells.toList cells off 0;rw[Nat.add_zero]at h2;rw[<-this,<-h2,<-Array.foldl_toList];simp
   cases h
def ij (z:FV)(k:Nat):FV:=(List.range k).map λi=>(z[i % z.length]?).getD undef
theorem qM (v:Value)(k:Nat):ij [v] k=List.replicate k v:=by
 apply List.ext_getElem
 ·simp[ij]
 intro i h1 h2;simp[ij,Nat.mod_one]
theorem kL (z:FV)(k:Nat):(ij z k).length=k:=by simp[ij]
theorem JT{z:FV}(hz:0<z.length)(k:Nat):(Array.range k).map (λi=>(z.toArray)[i % z.toArray.size]!)=(ij z k).toArray:=by
 apply Array.ext';simp only[Array.toList_map,Array.toList_range,ij];apply List.map_congr_left;intro i _;have:i % z.length<z.length:=Nat.mod_lt _ hz;simp[this]
theorem vY{a:Act}(en:Env n ds σ a){parts:List (Nat×Operand)}{vs:FV}(h:jQ σ (parts.map (·.2))=some vs):(parts.map λp=>(p.1,a.eval p.2))=(parts.map (·.1)).zip vs:=by
 have:=en.wz h;rw[<-this]
 clear h this
 induction parts with
 |nil=>rfl
 |cons p r ih=>simp only[List.map_cons,List.zip_cons_cons,ih]
theorem aeZ{t:TypeId}{e sz nt len:Nat}{z vs cs:FV}{parts:List (Nat×Operand)}(ht:vg P t=some (e,sz,nt,z))(ho:o.op= .buildSlice t len parts.toArray)(hd:o.dst=some d)(hv:jQ σ (parts.map (·.2))=some vs)
  (hk:Nat.ble (len*sz) 16777216=true) (hc:pO (λi=>some (i*sz,sz)) (ij z (len*sz)) ((parts.map (·.1)).zip vs)=some cs) (hdn:Nat.blt d n=true)
  (h:∀b,G n ds F K ((d, .slice (some ⟨b,0,none⟩) len len)::σ) (ag b e cs::H)):G n ds F (λa w=>o.wp P a w K Q) σ H:=by
 refine .mk λac w en s=> ?_;obtain⟨hu,tM,hzl,i,zv,hi,tQ,hby,hz,Jr⟩:=nR ht;have hp:=vY en hv;have hk':¬(2^24<len*sz):=by have:=Nat.le_of_ble_eq_true hk;omega
 have hz0:0<z.length:=by omega
 have yp:(if len*sz=0 then(pure #[]:Sem (Array Value))else do pure (<-zeroValue e).cells).run P w= .ok (if len*sz=0 then #[]else z.toArray) w:=by
  split<;>simp[zeroValue,typeInfo,hi,hz,Jr]
 have w9:(Array.range (len*sz)).map (λj=>(if len*sz=0 then(#[]:Array Value)else z.toArray)[j % (if len*sz=0 then(#[]:Array Value)else z.toArray).size]!)=(ij z (len*sz)).toArray:=by
  by_cases h0:len*sz=0
  ·simp[h0,ij]
  simp only[h0,if_false];exact JT hz0 _
 unfold Oper.wp;have:(execOp ac.eval o).run P w= .ok (.value (.slice (some ⟨w.heap.size,0,none⟩) len len)) (w.alloc (.cells cs.toArray e)):=by
  have l8:=fill_eq _ _ _ _ hc;rw[<-hp]at l8;by_cases h0:len*sz=0
  ·simp only[h0,if_true]at w9
   rw[h0]at l8;have Q4:(Array.range 0).map (λ_=>(default:Value))=(ij z 0).toArray:=by simp[ij]
   simp[execOp,ho,Instr.buildSlice,run_underlying hu,sizeOf,typeInfo,hi,tQ,h0,Q4,l8,newRow]
  simp only[h0,if_false]at w9;simp[execOp,ho,Instr.buildSlice,run_underlying hu,sizeOf,typeInfo,zeroValue,hi,tQ,h0,hk',hz,Jr];rw[show(Array.range (len*sz)).map (λx=>(z[x % z.length]?).getD default)=(ij z (len*sz)).toArray from by simpa using w9,l8];simp[newRow]
 rw[this,Oper.upon_value,hd];exact h _ _ _ (en.put hdn _) (s.new e cs)
theorem Jd{sz:Nat}:∀(vs:FV) (k:Nat) (pre post:FV),(∀v∈vs,v.cells.size=sz)->post.length=vs.length*sz->pre.length=k*sz->
  pO (λi=>some (i*sz,sz)) (pre++post) ((List.range' k vs.length).zip vs)=some (pre++vs.flatMap λv=>v.cells.toList):=by
 intro vs;induction vs with
 |nil=>intro k pre post _ hp _;have:post= []:=List.eq_nil_of_length_eq_zero (by simpa using hp);subst this;simp[pO]
 |cons v r ih=>
  intro k pre post hv hp hk;have hv1:=hv v (by simp);have hpl:sz<=post.length:=by rw[hp,List.length_cons,Nat.add_mul];omega
  simp only[List.length_cons,List.range'_succ,List.zip_cons_cons,pO];rw[if_pos ⟨hv1,by rw[List.length_append];omega⟩];have h1:=mR v.cells.toList pre (post.take sz) (post.drop sz) (by simp[hv1];omega);rw[List.take_append_drop,hk]at h1;rw[h1,<-List.append_assoc,ih (k+1) (pre++v.cells.toList) (post.drop sz) (λu hu=>hv u (by simp[hu])) (by simp only[List.length_drop,hp,List.length_cons,Nat.add_mul];omega) (by simp[hk,hv1,Nat.add_mul])];simp
theorem Ko{t:TypeId}{e sz nt len:Nat}{z vs cs:FV}{parts:List (Nat×Operand)}(ht:vg P t=some (e,sz,nt,z))(ho:o.op= .buildSlice t len parts.toArray)(hd:o.dst=some d)(hv:jQ σ (parts.map (·.2))=some vs)
  (hk:Nat.ble (len*sz) 16777216=true) (hi:parts.map (·.1)=List.range' 0 vs.length) (hlen:vs.length=len) (tM:∀v∈vs,v.cells.size=sz) (hc:(vs.flatMap λv=>v.cells.toList)=cs) (hdn:Nat.blt d n=true)
  (h:∀b,G n ds F K ((d, .slice (some ⟨b,0,none⟩) len len)::σ) (ag b e cs::H)):G n ds F (λa w=>o.wp P a w K Q) σ H:=by
 refine aeZ ht ho hd hv hk ?_ hdn h;have:=Jd vs 0 [] (ij z (len*sz)) tM (by rw[kL,hlen]) (by simp);rw[hi];simpa[hc]using this
theorem Zu{t:TypeId}{e nt len:Nat}{z vs:FV}{parts:List (Nat×Operand)}(ht:vg P t=some (e,1,nt,z))(ho:o.op= .buildSlice t len parts.toArray)(hd:o.dst=some d)(hv:jQ σ (parts.map (·.2))=some vs)
  (hk:Nat.ble (len*1) 16777216=true) (hi:parts.map (·.1)=List.range' 0 vs.length) (hlen:vs.length=len) (h1:∀v∈vs,v.oneCell'=true) (hdn:Nat.blt d n=true)
  (h:∀b,G n ds F K ((d, .slice (some ⟨b,0,none⟩) len len)::σ) (ag b e vs::H)):G n ds F (λa w=>o.wp P a w K Q) σ H:=by
 have eO:∀v:Value,v.oneCell'=true->v.cells= #[v]:=λv hv=>by cases v<;>simp[Value.oneCell']at hv<;>rfl
 refine Ko ht ho hd hv hk hi hlen (λv hv=>by rw[eO v (h1 v hv)];rfl) ?_ hdn h
 clear hv hi hlen h
 induction vs with
 |nil=>rfl
 |cons v r ih=>rw[List.flatMap_cons,eO v (h1 v (by simp)),ih (λu hu=>h1 u (by simp[hu]))];rfl
theorem Zv{t:TypeId}{e sz nt:Nat}{z cs:FV}{x:Operand}(ht:vg P t=some (e,sz,nt,z))(ho:o.op= .buildSlice t 1 #[(0,x)])(hd:o.dst=some d)(hx:bC σ x=some (.agg cs.toArray))
  (hl:cs.length=sz) (hk:Nat.ble (1*sz) 16777216=true) (hdn:Nat.blt d n=true)
  (h:∀b,G n ds F K ((d, .slice (some ⟨b,0,none⟩) 1 1)::σ) (ag b e cs::H)):G n ds F (λa w=>o.wp P a w K Q) σ H:=
 Ko (parts:= [(0,x)]) (vs:= [.agg cs.toArray]) ht ho hd (by simp[jQ,hx]) hk rfl rfl (by simp[Value.cells,hl]) (by simp[Value.cells]) hdn h
def jt (P:Program)(t:TypeId):Option (List (Nat×Nat)):=
 match P.underlying t with
 |some (.struct fs)=>fs.toList.mapM λf=>(P.info? f.type).map λi=>(f.offset,i.size)
 |_=>none
theorem Gd{fs:List Field}{pl:List (Nat×Nat)}(h:(fs.mapM λf=>(P.info? f.type).map λi=>(f.offset,i.size))=some pl)(w:World):
  (fs.mapM λf=>Prod.mk f.offset<$>sizeOf f.type:Sem (List (Nat×Nat))).run P w= .ok pl w:=by
 induction fs generalizing pl with
 |nil=>simp at h;simp[h]
 |cons f r ih=>
  simp only[List.mapM_cons]at h⊢;cases hi:P.info? f.type with
  |none=>simp[hi]at h
  |some i=>
   simp only[hi,Option.map_some,Option.bind_eq_bind,Option.bind_some]at h;cases hr:(r.mapM λf=>(P.info? f.type).map λi=>(f.offset,i.size))with
   |none=>simp[hr]at h
   |some pl'=>
    simp[hr]at h;have:=ih hr;simp[sizeOf,typeInfo,hi]at this⊢;simp[this,<-h]
theorem Yt{t:TypeId}{pl:List (Nat×Nat)}{zs vs cs:FV}{parts:List (Nat×Operand)}(hz:bW P t=some zs)(hpl:jt P t=some pl)(ho:o.op= .build t parts.toArray)(hv:jQ σ (parts.map (·.2))=some vs)
  (hc:pO (λi=>pl[i]?) zs ((parts.map (·.1)).zip vs)=some cs):Yv P n ds F σ o (.agg cs.toArray):=
 λac w en fr=>by
  have hp:=vY en hv;obtain⟨zv,hzr,Jr⟩:=qX hz (w:=w);unfold jt at hpl;cases hu:P.underlying t with
  |none=>simp[hu]at hpl
  |some dsc=>
   cases dsc<;>simp[hu]at hpl;rename_i fs;have hm:=Gd (P:=P) (by simpa using hpl) w;have l8:=fill_eq _ _ _ _ hc;rw[<-hp]at l8;have hm':(fs.mapM λf=>Prod.mk f.offset<$>sizeOf f.type:Sem (Array (Nat×Nat))).run P w= .ok pl.toArray w:=by
    rw[<-Array.toArray_toList (xs:=fs),List.mapM_toArray];simp[hm]
   simp[execOp,ho,Instr.build,hzr,run_underlying hu,hm',Jr,l8]
theorem Zt{t:TypeId}{e sz nt:Nat}{z:FV}{x y:Operand}{k k':IntKind}{i j:Int}{l c:Nat}(ht:vg P t=some (e,sz,nt,z))(ho:o.op= .makeSlice t x y)(hd:o.dst=some d)(hx:bC σ x=some (.int k i))(hy:bC σ y=some (.int k' j))
  (xN:i=(l:Int)) (hj:j=(c:Int)) (hlc:l<=c) (hc:c*nt<=281474976710656) (r9:c<=9223372036854775807) (hdn:Nat.blt d n=true)
  (h:∀b,G n ds F K ((d, .slice (some ⟨b,0,none⟩) l c)::σ) (ag b e (ij z (c*sz))::H)):G n ds F (λa w=>o.wp P a w K Q) σ H:=by
 refine .mk λac w en s=> ?_;obtain⟨hu,tM,hzl,inf,zv,hi,tQ,hby,hz,Jr⟩:=nR ht;subst xN;subst hj;have hz0:0<z.length:=by omega
 have hwl:IntKind.i64.wrap (l:Int)=l:=wrap_i64 (by omega);have hwc:IntKind.i64.wrap (c:Int)=c:=wrap_i64 (by omega);have Ag:¬((281474976710656:Int)<(nt:Int)*(c:Int)):=by
  have:(nt:Int)*(c:Int)=((c*nt:Nat):Int):=by push_cast;rw[Int.mul_comm]
  omega
 have w9:(Array.range (c*sz)).map (λj=>(if c*sz=0 then(#[]:Array Value)else z.toArray)[j % (if c*sz=0 then(#[]:Array Value)else z.toArray).size]!)=(ij z (c*sz)).toArray:=by
  by_cases h0:c*sz=0
  ·simp[h0,ij]
  simp only[h0,if_false];exact JT hz0 _
 have yp:(if c*sz=0 then(pure #[]:Sem (Array Value))else do pure (<-zeroValue e).cells).run P w= .ok (if c*sz=0 then #[]else z.toArray) w:=by
  split<;>simp[zeroValue,typeInfo,hi,hz,Jr]
 unfold Oper.wp;have:(execOp ac.eval o).run P w= .ok (.value (.slice (some ⟨w.heap.size,0,none⟩) l c)) (w.alloc (.cells (ij z (c*sz)).toArray e)):=by
  have Q9:(decide ((c:Int)<0) ||decide ((nt:Int)*(c:Int)>2^48) ||decide ((l:Int)<0) ||decide ((l:Int)>(c:Int)))=false:=by
   simp only[Bool.or_eq_false_iff,decide_eq_false_iff_not];refine⟨⟨⟨by omega, ?_⟩,by omega⟩,by omega⟩;have:(2:Int)^48=281474976710656:=by decide
   rw[this];exact Ag
  simp only[execOp,ho,Instr.makeSlice,Sem.run_bind,run_underlying hu,Result.andThen_ok,sizeOf,typeInfo,run_program,hi,Sem.run_pure,tQ,hby,en.eval hx,en.eval hy,asInt,asIntOf,hwl,hwc];simp only[Q9,Bool.false_eq_true,if_false,Sem.run_bind,Sem.run_pure,run_askRoom,Result.andThen_ok,Int.toNat_natCast];by_cases h0:c*sz=0
  ·simp only[h0,if_true]at w9
   have Q4:(Array.range 0).map (λ_=>(default:Value))=(ij z 0).toArray:=by simp[ij]
   simp[hi,tQ,h0,newRow,Q4]
  simp only[h0,if_false]at w9;simp[hi,tQ,h0,zeroValue,typeInfo,hz,Jr,newRow];rw[show(Array.range (c*sz)).map (λx=>(z[x % z.length]?).getD default)=(ij z (c*sz)).toArray from by simpa using w9]
 rw[this,Oper.upon_value,hd];exact h _ _ _ (en.put hdn _) (s.new e _)
theorem Kp{t t2:TypeId}{e sz nt m dl dc b off:Nat}{z cs news:FV}{x y:Operand}{v:Value}{e2:TypeId}{f:aa->Dz}(ht:vg P t=some (e,sz,nt,z))(ho:o.op= .call {callee:= .builtin .copy,args:= #[x,y],argTypes:= #[t,t2]})(hd:o.dst=some d)
  (hx:bC σ x=some (.slice (some ⟨b,off,none⟩) dl dc)) (hy:bC σ y=some v) (hu:Pos H (ag b e2 cs) f) (hs:Src P F H sz m v news) (h1:∀u∈news,u.oneCell'=true) (vk:off+dl*sz<=cs.length) (hdn:Nat.blt d n=true)
  (h:G n ds F K ((d, .int .i64 ((min m dl:Nat):Int))::σ) (f (ag b e2 (dq cs off (news.take (min m dl*sz)))))):G n ds F (λa w=>o.wp P a w K Q) σ H:=by
 refine .mk λac w en s=> ?_;obtain⟨hut,tM,hzl,inf,zv,hi,tQ,hby,hz,Jr⟩:=nR ht;obtain⟨s1,s2,s3⟩:=hs w s;obtain⟨R,uZ,back⟩:=hu.uZ;have hlen:(news.take (min m dl*sz)).length=min m dl*sz:=by
  rw[List.length_take,s3];exact Nat.min_eq_left (Nat.mul_le_mul_right _ (Nat.min_le_left _ _))
 obtain⟨w',hr,st⟩:=ke (P:=P) (news.take (min m dl*sz)) off 0 cs w (s.uZ uZ) (by rw[hlen];have:=Nat.mul_le_mul_right sz (Nat.min_le_right m dl);omega) (λu hu=>h1 u (List.mem_of_mem_take hu));unfold Oper.wp;have:(execOp ac.eval o).run P w= .ok (.value (.int .i64 ((min m dl:Nat):Int))) w':=by
  have hmin:Nat.min m dl=min m dl:=rfl;simp[execOp,ho,resolve,invoke,builtin,Builtin.copy_,en.eval hx,en.eval hy,run_underlying hut,sizeOf,typeInfo,hi,tQ,s1,hmin,s2 _ (Nat.min_le_left m dl),hr,goInt]
 rw[this,Oper.upon_value,hd];exact h _ _ (en.put hdn _) (by simpa using st.qt (back _))
end rules
end Go.dQ
namespace Go.dQ
open Go
def Yc:F8->Nat->Bool
 | [],_=>false
 |x::r,t=>match Nat.beq x t with|true=>true|false=>Yc r t
def fK (jN:F8):aT->aT
 | []=> []
 |(k,v)::r=>match Yc jN k with|true=>fK jN r|false=>(k,v)::fK jN r
theorem I5{jN:F8}:∀{σ:aT} {t:Nat} {v:Value},look (fK jN σ) t=some v->look σ t=some v/\Yc jN t=false:=by
 intro σ;induction σ with
 |nil=>intro t v h;simp[fK,look]at h
 |cons p r ih=>
  obtain⟨k,u⟩:=p;intro t v h;simp only[fK]at h;cases hm:Yc jN k with
  |true=>
   rw[hm]at h;obtain⟨h1,h2⟩:=ih h;refine⟨?_,h2⟩;simp only[look];cases hb:Nat.beq k t with
   |true=>have:=Nat.eq_of_beq_eq_true hb;subst this;rw[hm]at h2;cases h2
   |false=>exact h1
  |false=>
   rw[hm]at h;simp only[look]at h⊢;cases hb:Nat.beq k t with
   |true=>rw[hb]at h;have:=Nat.eq_of_beq_eq_true hb;subst this;exact⟨h,hm⟩
   |false=>rw[hb]at h;exact ih h
theorem Gh{L K:aT}{t:Nat}{v:Value}(h:look (L++K) t=some v):look L t=some v\/look K t=some v:=by
 induction L with
 |nil=>exact .inr h
 |cons p r ih=>
  obtain⟨k,u⟩:=p;simp only[List.cons_append,look]at h⊢;cases hb:Nat.beq k t with
  |true=>rw[hb]at h;exact .inl h
  |false=>rw[hb]at h;exact ih h
theorem Env.xV{n:Nat}{ds:Dx}{σ σ' L:aT}{a:Act}{jN:F8}(e:Env n ds σ' a)(hs:qo L σ')(hk:fK jN σ'=fK jN σ):Env n ds (L++fK jN σ) a:=
 ⟨e.size,e.defers,λt v h=>(Gh h).elim (λh1=>e.slot t v (hs.look t v h1)) λh1=>by
  rw[<-hk]at h1;exact e.slot t v (I5 h1).1⟩
section
variable {ι:Type} (n:Nat) (ds:Dx) (F:dM) (jN:F8) (σ:aT) (I:ι->Prop) (L:ι->aT) (HI:ι->Dz)
def rq (μ:ι->Nat)(i:ι)(a:Act)(w:World):Prop:=∃j,I j/\μ j<μ i/\Env n ds (L j++fK jN σ) a/\St F (HI j) w
def EG (a:Act)(w:World):Prop:=∃j,I j/\Env n ds (L j++fK jN σ) a/\St F (HI j) w
end
section rules
variable {P:Program} {n:Nat} {ds:Dx} {F:dM} {Q:Exit->F7} {K:F7} {σ:aT} {H:Dz} {o:Oper} {d:Nat}
theorem aal{ι:Type}{c:Code}(jN:F8)(I:ι->Prop)(L:ι->aT)(HI:ι->Dz)(μ:ι->Nat)(i₀:ι)(h0:I i₀)(hs:qo (L i₀) σ)(hh:∀h,ai H h->ai (HI i₀) h)
  (round:∀i,I i->G n ds F (c.wp P (Exit.then (rq n ds F jN σ I L HI μ i) Q)) (L i++fK jN σ) (HI i)):G n ds F ((Code.loop c).wp P Q) σ H:=by
 refine .mk λa w e s b k cs=> ?_;have key:∀m i a w,μ i=m->I i->Env n ds (L i++fK jN σ) a->St F (HI i) w->
   ∃e a' w',Q e a' w'/\Arrives P (lone (b.at a (.code c:: .inLoop c::k)) cs w) b k cs e a' w':=by
  intro m;induction m using Nat.strongRecOn with
  |_ m ih=>
   intro i a w hm hI he fM;obtain⟨e,a₁,w₁,hq,qm⟩:=round i hI a w he fM b (.inLoop c::k) cs;cases e with
   |normal=>
    obtain⟨j,hj,ct,he₁,hs₁⟩:=hq;obtain⟨e₂,a₂,w₂,hq₂,harr₂⟩:=ih (μ j) (hm▸ct) j a₁ w₁ rfl hj he₁ hs₁;exact⟨e₂,a₂,w₂,hq₂, .of_steps (Steps.trans qm (.one step_inLoop)) harr₂⟩
   |exit id=>exact⟨_,a₁,w₁,hq, .pass (x:= .inLoop c) rfl (λ_ _=> .inl (by simp)) qm⟩
   |goto l=>exact⟨_,a₁,w₁,hq, .pass (x:= .inLoop c) rfl (λ_ _=> .inl (by simp)) qm⟩
   |ret=>exact⟨_,a₁,w₁,hq, .pass (x:= .inLoop c) rfl (λ_ _=> .inl (by simp)) qm⟩
   |panic ch=>exact⟨_,a₁,w₁,hq, .pass (x:= .inLoop c) rfl (λ_ _=> .inl (by simp)) qm⟩
   |outgrown=>exact⟨_,a₁,w₁,hq, .pass (x:= .inLoop c) rfl (λ_ _=> .inl (by simp)) qm⟩
 obtain⟨e',a',w',hq,qm⟩:=key _ i₀ a w rfl h0 (e.xV hs rfl) (s.sub hh);exact⟨e',a',w',hq, .of_steps (.one step_loop) qm⟩
theorem Wy{ι:Type}{jN:F8}{σ0:aT}{I:ι->Prop}{L:ι->aT}{HI:ι->Dz}{μ:ι->Nat}{i:ι}(j:ι)(hI:I j)(hm:μ j<μ i)(hs:qo (L j) σ)(hk:fK jN σ=fK jN σ0)(hh:∀h,ai H h->ai (HI j) h):
  G n ds F (Exit.then (rq n ds F jN σ0 I L HI μ i) Q .normal) σ H:=
 .mk λ_ _ e s=>⟨j,hI,hm,e.xV hs hk,s.sub hh⟩
theorem acx{ι:Type}{jN:F8}{σ0:aT}{I:ι->Prop}{L:ι->aT}{HI:ι->Dz}(j:ι)(hI:I j)(hs:qo (L j) σ)(hk:fK jN σ=fK jN σ0)(hh:∀h,ai H h->ai (HI j) h):
  G n ds F (Exit.then (EG n ds F jN σ0 I L HI) Q .normal) σ H:=
 .mk λ_ _ e s=>⟨j,hI,e.xV hs hk,s.sub hh⟩
theorem cG{ι:Type}{x:Code}(jN:F8)(I:ι->Prop)(L:ι->aT)(HI:ι->Dz)(hx:G n ds F (x.wp P (Exit.then (EG n ds F jN σ I L HI) Q)) σ H)
  (hy:∀j,I j->G n ds F K (L j++fK jN σ) (HI j)):G n ds F (x.wp P (Exit.then K Q)) σ H:=
 .mk λa w e s=>wp_mono (hx a w e s) λex a' w' q=>by
  cases ex with
  |normal=>obtain⟨j,hj,he,hs⟩:=q;exact hy j hj _ _ he hs
  |exit id=>exact q
  |goto l=>exact q
  |ret=>exact q
  |panic ch=>exact q
  |outgrown=>exact q
theorem aM{t:Nat}{b:Bool}(ht:look σ t=some (.bool b))(h1:b=true->G n ds F K ((t, .bool true)::σ) H)(h2:b=false->G n ds F K ((t, .bool false)::σ) H):G n ds F K σ H:=by
 have key:∀c,b=c->∀a,Env n ds σ a->Env n ds ((t, .bool c)::σ) a:=λc hc a e=>⟨e.size,e.defers,λu v hv=>by
  simp only[look]at hv;cases hb:Nat.beq t u with
  |true=>rw[hb]at hv;cases hv;have:=Nat.eq_of_beq_eq_true hb;subst this;subst hc;exact e.slot _ _ ht
  |false=>rw[hb]at hv;exact e.slot _ _ hv⟩
 refine .mk λa w e s=> ?_;cases hb:b with
 |true=>exact h1 hb a w (key true hb a e) s
 |false=>exact h2 hb a w (key false hb a e) s
theorem az{t:Nat}{v v':Value}(ht:look σ t=some v)(hv:v=v')(h:G n ds F K ((t,v')::σ) H):G n ds F K σ H:=by
 subst hv;refine .mk λa w e s=> ?_;refine h a w ⟨e.size,e.defers,λu x hx=> ?_⟩ s;simp only[look]at hx;cases hb:Nat.beq t u with
 |true=>rw[hb]at hx;cases hx;have:=Nat.eq_of_beq_eq_true hb;subst this;exact e.slot _ _ ht
 |false=>rw[hb]at hx;exact e.slot _ _ hx
theorem zJ:∀{A B:Dz} {h:Hp},ai (A++B) h->ai A h:=by
 intro A;induction A with
 |nil=>intros;trivial
 |cons X r ih=>intro B h s;obtain⟨h1,h2,d,l1,l2,a,s⟩:=s;exact⟨h1,h2,d,l1,l2,a,ih s⟩
theorem eK{H As R:Dz}(s:iM H As R):∀h,ai H h->ai As h:=λh x=>zJ (s.out h x)
theorem agC{H H':Dz}(e:H=H'):∀h,ai H h->ai H' h:=λ_ x=>e▸x
theorem bK{h:Hp}{a:FX}{cap e sz:Nat}{xs:FV}(o:∃k,own a cap e sz xs k/\Le k h):fD h a xs:=by
 obtain⟨k,p,l⟩:=o;exact(oP p).mono l
theorem Z7{h k:Hp}{A:aa}(i:∃m,A m/\Le m h)(l:Le h k):∃m,A m/\Le m k:=by
 obtain⟨m,p,l'⟩:=i;exact⟨m,p,l'.trans l⟩
def aF (L:Dz):aa:=λh=>ai L h
theorem mQ{L:Dz}(h:G n ds F K σ (L++H)):G n ds F K σ (aF L::H):=
 ay (λk s=>by
  obtain⟨h1,h2,d,l1,l2,s1,s2⟩:=s;exact eW (bH s1 s2 d) (bX l1 l2)) h
theorem eC{L:Dz}:∀{H:Dz} {h:Hp},ai (L++H) h->ai (aF L::H) h:=λs=>by
 obtain⟨h1,h2,d,l1,l2,s1,s2⟩:=bx s;exact⟨h1,h2,d,l1,l2,s1,s2⟩
theorem aja{ι:Type}{A:ι->aa}(h:∀x,G n ds F K σ (A x::H)):G n ds F K σ ((λk=>∃x,A x k)::H):=by
 refine .mk λa w e s=> ?_;obtain⟨a1,a2,a3,fr,hh,⟨h1,h2,d,l1,l2,⟨x,hx⟩,st⟩,y,z⟩:=s;exact h x a w e ⟨a1,a2,a3,fr,hh,⟨h1,h2,d,l1,l2,hx,st⟩,y,z⟩
theorem zi{L M R:Dz}{h:Hp}(s:ai (aF L::(M++R)) h):ai (aF (L++M)::R) h:=by
 obtain⟨h1,h2,d,l1,l2,s1,s2⟩:=s;obtain⟨h3,h4,d',l3,l4,s3,s4⟩:=bx s2;exact⟨fH h1 h3,h4,bP.fH (d.right l4) d',bX l1 (l3.trans l2),l4.trans l2,bH s1 s3 (d.right l3),s4⟩
theorem xd{h:Hp}(s:ai H h):ai (aF []::H) h:=gB (λ_=>trivial) s
def Ap (F:dM)(As:Dz)(F':dM):Prop:=∀R w,St F' R w->St F (As++R) w
abbrev cS (F:dM)(w:World):Prop:=Le F.h (ki w)
theorem aft{id:Nat}{ops:Array Oper}{As R:Dz}{listed:Array Bool}(hm:P.follows .mixedOrders=true)(hl:Array.replicate ops.size false=listed)(dg:iM H As R)
  (h:∀F':dM,Le F.h F'.h->gW As F'.h->Ap F As F'->G n ds F' (wpAnyH P .any ops Q (cS F') ops.size listed) σ R):G n ds F ((Code.region id ops true).wp P Q) σ H:=by
 refine .mk λa w e s=> ?_;subst hl;refine wp_region_any hm (wpAny_of_held (S:=cS {F with h:= ?_}) _ _ _ _ ?_)
 ·exact fH (Classical.choose (bx (dg.out _ (Classical.choose_spec s.own).1))) F.h
 generalize hA:Classical.choose (bx (dg.out _ (Classical.choose_spec s.own).1))=h1;have spec:=Classical.choose_spec (bx (dg.out _ (Classical.choose_spec s.own).1));rw[hA]at spec;obtain⟨h2,d12,l1,l2,s1,s2⟩:=spec;have gY:=(Classical.choose_spec s.own).2;have BO:bP h1 F.h:=gY.2.left l1;refine h {F with h:=fH h1 F.h} (aP BO) (cx s1 (aU _ _)) ?_ a _ e ?_
 ·intro R' w' s'
  obtain⟨b1,b2,b3,fr,hh,st,hl,hd⟩:=s';exact⟨b1,b2,b3,(aP BO).trans fr,fH h1 hh,bH s1 st (hd.right (aU _ _)).symm,bX ((aU _ _).trans fr) hl,bP.fH BO (hd.right (aP BO))⟩
 exact⟨s.os,⟨s.tape.1,Nat.le_succ_of_le s.tape.2⟩,s.output,bX (l1.trans gY.1) s.frame,h2,s2,l2.trans gY.1,(bP.fH d12 (gY.2.left l2).symm).symm⟩
theorem aQ{ops:Array Oper}{listed:Array Bool}{fuel:Nat}{F':dM}{As:Dz}{S:World->Prop}(hr:Region.ready .any ops listed= [])(hb:Ap F As F')(h:G n ds F (Q .normal) σ (As++H)):G n ds F' (wpAnyH P .any ops Q S fuel listed) σ H:=by
 refine .mk λa w e s=> ?_;have:=h a w e (hb _ _ s);cases fuel with
 |zero=>exact⟨hr,this⟩
 |succ m=>exact⟨λ_=>this,λi hi=>by rw[hr]at hi;cases hi⟩
def o9 (Q:Exit->F7):Prop:=∀c a d v w,Q (.panic c) (Act.put a d v) w->Q (.panic c) a w
theorem Zg (h:o9 Q):o9 (Exit.then K Q):=λc a d v w q=>h c a d v w q
theorem UO{id:Nat}(h:o9 Q):o9 (Exit.inBlock id Q):=λc a d v w q=>h c a d v w q
theorem Zh{fn:Func}{R:Ending->World->Prop}:o9 (bodyPost P fn R):=λc a d v w q=>by
 simp only[bodyPost]at q⊢;exact⟨by rw[<-q.1];cases d<;>rfl,q.2⟩
def Ce (ops:Array Oper)(listed:Array Bool)(i:Nat)(xy:Array Bool):Bool:=
 Region.noSelect ops&&(Region.ready .any ops listed).contains i&&Region.free .any ops listed i&&(listed.setIfInBounds i true==xy)
theorem VA{ops:Array Oper}{listed xy:Array Bool}{fuel i:Nat}{oi:Oper}{v:Value}(lS:Ce ops listed i xy=true)(hi:ops[i]?=some oi)(po:o9 Q)
  (hy:∀a,Env n ds σ a->YieldsIf P ops (cS F) oi v a) {σ':aT} (hp:∀a,Env n ds σ a->Env n ds σ' (a.put oi.dst v)) (h:G n ds F (wpAnyH P .any ops Q (cS F) fuel xy) σ' H):G n ds F (wpAnyH P .any ops Q (cS F) (fuel+1) listed) σ H:=by
 refine .mk λa w e s=> ?_;simp only[Ce,Bool.and_eq_true,beq_iff_eq,List.contains_iff_mem]at lS;obtain⟨⟨⟨h1,h2⟩,h3⟩,h4⟩:=lS;refine wpAnyH_first hi (Region.noSelect_spec h1) (λc a w q=>po c a _ _ w q) fuel listed a w (λj oj hj fN hun lP=>Region.free_spec hi h3 j oj hj fN hun lP) h2 (hy a e) s.frame ?_;rw[h4];exact h _ _ (hp a e) s
theorem HD{ops:Array Oper}{listed:Array Bool}{fuel:Nat}{l:F8}{S:World->Prop}(hr:Region.ready .any ops listed=l)(fN:l.isEmpty=false)
  (h:∀i∈l,G n ds F (wpOp P ops Q i (λa' w'=>S w'/\wpAnyH P .any ops Q S fuel (listed.setIfInBounds i true) a' w')) σ H):G n ds F (wpAnyH P .any ops Q S (fuel+1) listed) σ H:=by
 refine .mk λa w e s=> ?_;refine⟨λh0=> ?_,λi hi=>h i (by rw[<-hr];exact hi) a w e s⟩;rw[hr]at h0;subst h0;cases fN
theorem afp{ops:Array Oper}{listed:Array Bool}{fuel i:Nat}{S:World->Prop}(hr:Region.ready .any ops listed= [i])
  (h:G n ds F (wpOp P ops Q i (λa' w'=>S w'/\wpAnyH P .any ops Q S fuel (listed.setIfInBounds i true) a' w')) σ H):G n ds F (wpAnyH P .any ops Q S (fuel+1) listed) σ H:=
 HD hr rfl λj hj=>by rw[List.mem_singleton.1 hj];exact h
theorem afo{ops:Array Oper}{listed:Array Bool}{fuel i j:Nat}{S:World->Prop}(hr:Region.ready .any ops listed= [i,j])
  (h1:G n ds F (wpOp P ops Q i (λa' w'=>S w'/\wpAnyH P .any ops Q S fuel (listed.setIfInBounds i true) a' w')) σ H)
  (h2:G n ds F (wpOp P ops Q j (λa' w'=>S w'/\wpAnyH P .any ops Q S fuel (listed.setIfInBounds j true) a' w')) σ H):G n ds F (wpAnyH P .any ops Q S (fuel+1) listed) σ H:=
 HD hr rfl λk hk=>by
  rcases List.mem_cons.1 hk with rfl|hk
  ·exact h1
  rw[List.mem_singleton.1 hk];exact h2
theorem aag{ops:Array Oper}{listed:Array Bool}{fuel:Nat}(h:G n ds F (wpAnyH P .any ops Q (cS F) fuel listed) σ H):G n ds F (λa w=>cS F w/\wpAnyH P .any ops Q (cS F) fuel listed a w) σ H:=
 .mk λa w e s=>⟨s.frame,h a w e s⟩
theorem uH{b i k ty:Nat}{e:TypeId}{cs vs:FV}{R:Dz}{w:World}{t:Nat}{a:Act}(en:Env n ds σ a)(st:St F H w)(ht:look σ t=some (.pointer (some ⟨b,i,none⟩)))(hs:cO P ty=some k)(dg:fO H (ag b e cs) R)(hv:(cs.drop i).take k=vs)(hk:vs.length=k):
  (asAddr (a.tmps.getD t undef)).run P w= .ok ⟨b,i,none⟩ w/\(loadVar ty ⟨b,i,none⟩).run P w= .ok (.agg vs.toArray) w:=by
 obtain⟨h1,hp,hl⟩:=(st.uZ dg).get;have hg:a.tmps.getD t undef= .pointer (some ⟨b,i,none⟩):=by simp[en.slot t _ ht]
 have:=Vl (P:=P) (b:=b) (i:=i) hs (w:=w) hk (λj v hj=>by
  rw[add_lit];refine mB hl (fB hp ?_);rw[<-hv,List.getElem?_take]at hj;split at hj
  ·simpa using hj
  cases hj)
 rw[hg];exact⟨by simp[asAddr],by simpa[Instr.loadAt,Instr.sureAddr]using this⟩
theorem agF{fn:Func}{T:DF}{t ty b i k:Nat}{e:TypeId}{cs vs:FV}{R H':Dz}(hs:cO P ty=some k)(hr:fn.results= #[.cell t ty])(ht:look σ t=some (.pointer (some ⟨b,i,none⟩)))(dg:fO H (ag b e cs) R)(hv:(cs.drop i).take k=vs)(hk:vs.length=k)
  (hR:T (.agg vs.toArray) H') (hh:∀h,ai H h->ai H' h):G n [] F (bodyPost P fn (λe w'=>∃v H',e= .returned v/\T v H'/\St F H' w') .ret) σ H:=
 .mk λa w en s=>⟨en.defers,_,by
  obtain⟨h1,h2⟩:=uH (P:=P) en s ht hs dg hv hk;simp only[results,hr];simp at h1;simp[h1,h2],_,H',rfl,hR,s.sub hh⟩
end rules
end Go.dQ
namespace Go.dQ
open Go
section
variable {P:Program} {n:Nat} {ds:Dx} {F:dM} {σ:aT} {o:Oper}
theorem k7{op:BinOp}{t:TypeId}{x y:Operand}{p q:FX}{w:World}:(eqGuard op t x y (.pointer p) (.pointer q)).run P w= .ok () w:=by
 unfold eqGuard;cases op<;>simp
theorem TP{op:BinOp}{t yt e:TypeId}{x y:Operand}{p:FX}{b:Bool}(ht:P.underlying t=some (.pointer e))(ho:o.op= .binOp op t x y yt)(hx:bC σ x=some (.pointer p))(hy:bC σ y=some (.pointer none))
  (hop:(op= .eql/\b=p.isNone)\/(op= .neq/\b= !p.isNone)):Yv P n ds F σ o (.bool b):=by
 intro a w en _;have hp:P.underlying t=some (.pointer (P.pointee t)):=by unfold Program.pointee;rw[ht]
 rcases hop with⟨rfl,rfl⟩|⟨rfl,rfl⟩
 ·simp only[execOp,ho,en.eval hx,en.eval hy,Sem.run_bind,k7,run_eql_pointer_nil w t p hp,Result.andThen_ok,Sem.run_pure]
 simp only[execOp,ho,en.eval hx,en.eval hy,Sem.run_bind,k7,run_neq_pointer_nil w t p hp,Result.andThen_ok,Sem.run_pure]
theorem aml (w:World)(b n:Nat)(cs:Array Value)(e:TypeId)(lo hi:Nat)(h:w.heap[b]?=some (.cells cs e (lo,hi))):
  (w.freeze ⟨b,n,none⟩ 1).heap[b]?=some (.cells cs e (if lo==hi then(n,n+1)else(min lo n,max hi (n+1)))):=by
 simp[World.freeze,Array.getElem?_modify,h]
theorem amk (w:World)(b n x:Nat)(h:x≠b):(w.freeze ⟨b,n,none⟩ 1).heap[x]?=w.heap[x]?:=by
 simp[World.freeze,Array.getElem?_modify,Ne.symm h]
theorem St.freeze{H:Dz}{w:World}{b:Nat}{e:TypeId}{cs:FV}(s:St F (ag b e cs::H) w):
  St F (ag b e cs::H) (w.freeze ⟨b,cs.length,none⟩ 1):=by
 obtain⟨a1,a2,a3,fr,h,⟨h1,h2,d,l1,l2,⟨lo,hi,hf,hb⟩,s⟩,y,z⟩:=s;have hw:w.heap[b]?=some (.cells cs.toArray e (lo,hi)):=(l1.trans y) _ _ hb;have fN:∀k:Hp,bP h1 k->∀x o,k x=some o->x≠b:=by
  intro k dk x o e hx;subst hx;rcases dk x with q|q
  ·rw[hb]at q;cases q
  rw[e]at q;cases q
 have hold:∀k:Hp,bP h1 k->Le k (ki w)->Le k (ki (w.freeze ⟨b,cs.length,none⟩ 1)):=by
  intro k dk lk x o e;have:=lk x o e;unfold ki at*;rw[amk w _ _ x (by exact fN k dk x o e)];exact this
 have dF:bP h1 F.h:=z.left l1
 let fz:Nat×Nat:=if lo==hi then(cs.length,cs.length+1)else(min lo cs.length,max hi (cs.length+1))
 have hfz:fz.2=fz.1\/cs.length<=fz.1:=by
  right;show cs.length<=(if lo==hi then(cs.length,cs.length+1)else(min lo cs.length,max hi (cs.length+1))).1;split
  ·exact Nat.le_refl _
  rename_i hq;have:lo≠hi:=by simpa using hq
  simp only;omega
 let xO:Hp:=λx=>if x=b then some (.cells cs.toArray e fz)else none
 have d2:∀k:Hp,bP h1 k->bP xO k:=by
  intro k dk x;by_cases hx:x=b
  ·subst hx
   rcases dk x with q|q
   ·rw[hb]at q;cases q
   exact .inr q
  exact .inl (by simp[xO,hx])
 have l1':Le xO (ki (w.freeze ⟨b,cs.length,none⟩ 1)):=by
  intro x o e;by_cases hx:x=b
  ·subst hx
   simp only[xO,if_true]at e;cases e;have:=aml w x cs.length _ _ _ _ hw;rw[ki,this]
  simp[xO,hx]at e
 refine⟨a1,a2,a3,hold _ dF fr,fH xO h2,⟨xO,h2,d2 _ d,aU _ _,aP (d2 _ d),⟨fz.1,fz.2,hfz,by simp[xO]⟩,s⟩,
  bX l1' (hold _ d (l2.trans y)),bP.fH (d2 _ dF) (z.left l2)⟩
theorem Zr{Q:Exit->F7}{K:F7}{H R:Dz}{d:Nat}{t e e':TypeId}{x:Operand}{b i l c:Nat}{cs:FV}(ht:P.underlying t=some (.slice e))(he:P.underlying e=some (.int .u8))(ho:o.op= .convert t t x)(hd:o.dst=some d)
  (hx:bC σ x=some (.slice (some ⟨b,i,none⟩) l c)) (hs:fO H (ag b e' cs) R) (hdn:Nat.blt d n=true)
  (h:G n ds F K ((d, .slice (some ⟨b,i,none⟩) l c)::σ) (ag b e' cs::R)):G n ds F (λa w=>o.wp P a w K Q) σ H:=by
 refine .mk λa w en s=> ?_;have s1:=s.uZ hs;obtain⟨hh,⟨lo,hi,hf,hb⟩,hl⟩:=s1.get;have hw:w.heap[b]?=some (.cells cs.toArray e' (lo,hi)):=hl _ _ hb;have hsh:w.shape? b=some (e',cs.length):=by unfold World.shape?;rw[hw];simp
 unfold Oper.wp;have:(execOp a.eval o).run P w= .ok (.value (.slice (some ⟨b,i,none⟩) l c)) (w.freeze ⟨b,cs.length,none⟩ 1):=by
  simp[execOp,ho,en.eval hx,convert,run_underlying ht,run_underlying he,markStringish,hsh]
 rw[this,Oper.upon_value,hd];exact h _ _ (en.put hdn _) s1.freeze
theorem mZ{K:F7}{H:Dz}{X:Prop}(hx:∀h,gW H h->X)(h:X->G n ds F K σ H):G n ds F K σ H:= .mk λa w e s=>by
 obtain⟨hh,st,le,_⟩:=s.own;exact h (hx (ki w) (cx st le)) a w e s
theorem gW.nth:∀{H:Dz} {h:Hp} (i:Nat) {A:aa},gW H h->H[i]?=some A->∃k,A k/\Le k h:=by
 intro H;induction H with
 |nil=>intro h i A _ e;simp at e
 |cons B r ih=>
  intro h i A au e;cases i with
  |zero=>simp only[List.getElem?_cons_zero,Option.some.injEq]at e;subst e;exact au.1
  |succ i=>exact ih i au.2 (by simpa using e)
theorem uv{L:Dz}{h:Hp}(o:∃k,aF L k/\Le k h):gW L h:=by
 obtain⟨k,p,l⟩:=o;exact cx p l
theorem sU{h:Hp}{b e:Nat}{cs:FV}(o:∃k,ag b e cs k/\Le k h):fD h (some ⟨b,0,none⟩) cs:=by
 obtain⟨k,p,l⟩:=o;have:=(rj (i:=0) p).mono l;simpa using this
end
end Go.dQ
namespace Go.dQ
open Go
theorem pH{α:Type}(l:List α): []++l=l:=rfl
theorem cap{α:Type}(a:α)(l m:List α):(a::l)++m=a::(l++m):=rfl
theorem aG{A B:Prop}(h:A)(f:A->B:=by
  intro h
  first
   |(simp only[decide_eq_true_eq,decide_eq_false_iff_not,Bool.not_eq_true',Bool.not_eq_false',Bool.not_not,Bool.and_eq_true,Bool.or_eq_true,Bool.and_eq_false_iff,Bool.or_eq_false_iff,Int.not_lt,Int.not_le,Nat.not_lt,Nat.not_le,beq_iff_eq,bne_iff_ne,Bool.not_true,Bool.not_false]at h;exact h)
   |exact h):B:=f h
def LY (ops:Array Oper)(o:Oper)(σ:aT):Bool:=
 match o.guard with
 |none=>true
 |some (j,b)=>match(ops[j]?).bind (·.dst)with
  |some t=>match look σ t with
   |some (.bool c)=>match c,b with|true,true=>true|false,false=>true|_,_=>false
   |_=>false
  |none=>false
def gno (ops:Array Oper)(o:Oper)(σ:aT):Bool:=
 match o.guard with
 |none=>false
 |some (j,b)=>match(ops[j]?).bind (·.dst)with
  |some t=>match look σ t with
   |some (.bool c)=>match c,b with|true,false=>true|false,true=>true|_,_=>false
   |some (.tuple vs)=>vs.isEmpty
   |_=>false
  |none=>false
section
variable {P:Program} {n:Nat} {ds:Dx} {F:dM} {Q:Exit->F7} {K:F7} {σ:aT} {H:Dz} {o:Oper} {d:Nat} {ops:Array Oper} {rest:List Oper}
theorem jY{a:Act}(h:LY ops o σ=true)(e:Env n ds σ a):Region.wanted o (yielded ops a.tmps)=true:=by
 unfold LY at h;unfold Region.wanted;cases hg:o.guard with
 |none=>rfl
 |some p=>
  obtain⟨j,b⟩:=p;simp only[hg]at h⊢;cases hj:(ops[j]?).bind (·.dst)with
  |none=>rw[hj]at h;cases h
  |some t=>
   rw[hj]at h;simp only at h;cases ht:look σ t with
   |none=>rw[ht]at h;cases h
   |some v=>
    rw[ht]at h;cases v<;>simp at h;rename_i c;rw[y6 hj ht e];cases c<;>cases b<;>simp_all
theorem pt{a:Act}(h:gno ops o σ=true)(e:Env n ds σ a):Region.wanted o (yielded ops a.tmps)=false:=by
 unfold gno at h;unfold Region.wanted;cases hg:o.guard with
 |none=>rw[hg]at h;cases h
 |some p=>
  obtain⟨j,b⟩:=p;simp only[hg]at h⊢;cases hj:(ops[j]?).bind (·.dst)with
  |none=>rw[hj]at h;cases h
  |some t=>
   rw[hj]at h;simp only at h;cases ht:look σ t with
   |none=>rw[ht]at h;cases h
   |some v=>
    rw[ht]at h;cases v<;>simp at h
    ·rename_i c
     rw[y6 hj ht e];cases c<;>cases b<;>simp_all
    subst h;have:yielded ops a.tmps j=none:=by simp[yielded,hj,e.slot t _ ht]
    rw[this];simp
theorem Lp (h:G n ds F (λa w=>o.wp P a w (wpList P ops Q rest) Q) σ H)(hg:LY ops o σ=true:=by exact rfl):G n ds F (wpList P ops Q (o::rest)) σ H:=
 .mk λa w e s=>wpList_step λK hK=>by
  rw[if_pos (jY hg e)];exact Oper.wp_mono hK (h a w e s)
theorem Li{v:Value}(hy:Yv P n ds F σ o v)(h:G n ds F (wpList P ops Q rest) ((d,v)::σ) H)(hg:LY ops o σ=true:=by exact rfl)(hd:o.dst=some d:=by exact rfl)(hdn:Nat.blt d n=true:=by exact rfl):
  G n ds F (wpList P ops Q (o::rest)) σ H:=Lp (aiO hy hd hdn h) hg
theorem Lx (h:G n ds F (wpList P ops Q rest) ((d,undef)::σ) H)(hg:gno ops o σ=true:=by exact rfl)(hd:o.dst=some d:=by exact rfl)(hdn:Nat.blt d n=true:=by exact rfl):G n ds F (wpList P ops Q (o::rest)) σ H:=
 .mk λa w e s=>wpList_step λK hK=>by
  rw[if_neg (by simp[pt hg e]),hd];exact hK _ _ (h _ w (e.put hdn undef) s)
theorem iz{id:Nat}{l:List Oper}{y:Code}(h:G n ds F (wpList P l.toArray (Exit.then (y.wp P Q) Q) l) σ H):G n ds F ((Code.seq (Code.region id l.toArray false) y).wp P Q) σ H:=av (cq h)
theorem g_ne{K:F7}(h:G n ds F K σ H):G n ds F (wpList P ops (Exit.then K Q) []) σ H:=aB (CO h)
theorem yf{id:Nat}{As R:Dz}(hm:P.follows .mixedOrders=true)(dg:iM H As R)
  (h:∀F':dM,Le F.h F'.h->gW As F'.h->Ap F As F'->G n ds F' (wpAnyH P .any ops Q (cS F') ops.size (Array.replicate ops.size false)) σ R):G n ds F ((Code.region id ops true).wp P Q) σ H:=aft hm rfl dg h
def adj (ops:Array Oper)(listed:Array Bool)(i:Nat):Bool:=Region.noSelect ops&&(Region.ready .any ops listed).contains i&&Region.free .any ops listed i
theorem Mr{listed:Array Bool}{i:Nat}(h:adj ops listed i=true):Ce ops listed i (listed.setIfInBounds i true)=true:=by
 unfold Ce;unfold adj at h;rw[h];simp
theorem Dt{listed:Array Bool}{fuel:Nat}{oi:Oper}{v:Value}(i:Nat)(hi:ops[i]?=some oi)(hy:Yv P n ds F σ oi v)(h:G n ds F (wpAnyH P .any ops Q (cS F) fuel (listed.setIfInBounds i true)) ((d,v)::σ) H)
  (lS:adj ops listed i=true:=by kernel_rfl) (po:o9 Q:=by repeat (first|with_reducible exact Zh|with_reducible apply Zg|with_reducible apply UO|exact λ_ _ _ _ _ q=>q)) (hg:LY ops oi σ=true:=by exact rfl) (hd:oi.dst=some d:=by exact rfl) (hdn:Nat.blt d n=true:=by exact rfl):
  G n ds F (wpAnyH P .any ops Q (cS F) (fuel+1) listed) σ H:=
 VA (Mr lS) hi po (λa e=> .inl ⟨jY hg e,λw hw=>hy a w e hw⟩) (λa e=>by rw[hd];exact e.put hdn v) h
theorem Dn{listed:Array Bool}{fuel:Nat}{S:World->Prop}(i:Nat)(h:G n ds F (wpOp P ops Q i (λa' w'=>S w'/\wpAnyH P .any ops Q S fuel (listed.setIfInBounds i true) a' w')) σ H)(hr:Region.ready .any ops listed= [i]:=by kernel_rfl):
  G n ds F (wpAnyH P .any ops Q S (fuel+1) listed) σ H:=afp hr h
theorem D2{listed:Array Bool}{fuel:Nat}{S:World->Prop}(i j:Nat)
  (h1:G n ds F (wpOp P ops Q i (λa' w'=>S w'/\wpAnyH P .any ops Q S fuel (listed.setIfInBounds i true) a' w')) σ H)
  (h2:G n ds F (wpOp P ops Q j (λa' w'=>S w'/\wpAnyH P .any ops Q S fuel (listed.setIfInBounds j true) a' w')) σ H) (hr:Region.ready .any ops listed= [i,j]:=by kernel_rfl):G n ds F (wpAnyH P .any ops Q S (fuel+1) listed) σ H:=afo hr h1 h2
theorem Do{i:Nat}{oi:Oper}{K:F7}(hi:ops[i]?=some oi)(h:G n ds F (λa w=>oi.wp P a w K Q) σ H)(hg:LY ops oi σ=true:=by exact rfl):G n ds F (wpOp P ops Q i K) σ H:=by
 refine .mk λa w e s=> ?_;unfold wpOp;simp only[hi,jY hg e,if_true];exact .inl (h a w e s)
theorem Mv{x:Operand}{v:Value}(ho:o.op= .move x:=by exact rfl)(hx:bC σ x=some v:=by exact rfl):Yv P n ds F σ o v:=ad0 ho hx
theorem As{x:Operand}{v:Value}(ho:o.op= .assign x:=by exact rfl)(hx:bC σ x=some v:=by exact rfl):Yv P n ds F σ o v:=TY ho hx
theorem Pt{c x y:Operand}{b:Bool}{v:Value}(ho:o.op= .pick c x y:=by exact rfl)(hc:bC σ c=some (.bool b):=by exact rfl)(hb:b=true:=by exact rfl)(hx:bC σ x=some v:=by exact rfl):Yv P n ds F σ o v:=TQ ho hc hb hx
theorem Pf{c x y:Operand}{b:Bool}{v:Value}(ho:o.op= .pick c x y:=by exact rfl)(hc:bC σ c=some (.bool b):=by exact rfl)(hb:b=false:=by exact rfl)(hx:bC σ y=some v:=by exact rfl):Yv P n ds F σ o v:=TR ho hc hb hx
theorem Nc{x:Operand}{ad:Addr}(ho:o.op= .nilCheck x:=by exact rfl)(hx:bC σ x=some (.pointer (some ad)):=by exact rfl):Yv P n ds F σ o (.pointer (some ad)):=Il ho hx
theorem Fa{s f k b i:Nat}{x:Operand}(hk:ao P s f=some k)(ho:o.op= .fieldAddr s x f:=by exact rfl)(hx:bC σ x=some (.pointer (some ⟨b,i,none⟩)):=by exact rfl):Yv P n ds F σ o (.pointer (some ⟨b,i+k,none⟩)):=sZ hk ho hx
theorem Fam{s f k j:Nat}{x:Operand}{a:FX}(hk:ao P s f=some k)(ho:o.op= .fieldAddr s x f:=by exact rfl)(hx:bC σ x=some (.pointer (a.map (·.add j))):=by exact rfl)(hs:a.isSome=true:=by first|rfl|assumption|exact fD.RB (by assumption) (by omega)):Yv P n ds F σ o (.pointer (a.map (·.add (j+k)))):=
 xc hk ho hx hs
theorem Ix{t e sz m:Nat}{x y:Operand}{a:FX}{l c j:Nat}{k:IntKind}{i:Int}(ht:ed P t=some (e,sz))(ho:o.op= .indexAddr t x y:=by exact rfl)(hx:bC σ x=some (.slice a l c):=by exact rfl)(hy:bC σ y=some (.int k i):=by exact rfl)
  (hj:i=(j:Int):=by exact rfl) (hl:j<l:=by first|omega|(simp only[List.length_append,List.length_cons,List.length_nil,List.length_take,List.length_drop];omega)) (hm:j*sz=m:=by first|exact Nat.mul_one _|rfl) (hs:a.isSome=true:=by first|rfl|assumption|exact fD.RB (by assumption) (by omega)):
  Yv P n ds F σ o (.pointer (a.map (·.add m))):=JV ht ho hx hy hj hl hm hs
theorem Is{t:TypeId}{x y:Operand}{s:F9}{j:Nat}{k:IntKind}{i:Int}{c:UInt8}(ht:P.underlying t=some .string)(ho:o.op= .index t x y:=by exact rfl)(hx:bC σ x=some (aW s):=by exact rfl)(hy:bC σ y=some (.int k i):=by exact rfl)
  (hj:i=(j:Int):=by exact rfl) (hc:s[j]?=some c:=by assumption):Yv P n ds F σ o (.int .u8 c.toNat):=TV ht ho hx hy hj hc
theorem Ex{x:Operand}{i:Nat}{vs:Array Value}{v:Value}(ho:o.op= .extract x i:=by exact rfl)(hx:bC σ x=some (.tuple vs):=by exact rfl)(hv:vs.toList[i]?=some v:=by exact rfl):Yv P n ds F σ o v:=Mm ho hx hv
theorem Nt{t:TypeId}{x:Operand}{b:Bool}(ho:o.op= .unOp .not t x:=by exact rfl)(hx:bC σ x=some (.bool b):=by exact rfl):Yv P n ds F σ o (.bool (!b)):=ajs ho hx
theorem Ng{t:TypeId}{x:Operand}{k:IntKind}{i z:Int}(ho:o.op= .unOp .neg t x:=by exact rfl)(hx:bC σ x=some (.int k i):=by exact rfl)(hz:k.wrap (0-i)=z:=by first|exact wrap_i64 (by omega)|rfl):Yv P n ds F σ o (.int k z):=ajt ho hx hz
theorem Im{op:BinOp}{t yt:TypeId}{x y:Operand}{k:IntKind}{i j z:Int}(ho:o.op= .binOp op t x y yt:=by exact rfl)(hx:bC σ x=some (.int k i):=by exact rfl)(hy:bC σ y=some (.int k j):=by exact rfl)
  (hz:gL op k i j=some z:=by first|exact congrArg some (wrap_i64 (by omega))|exact congrArg some (wrap_u64 (by omega))|exact congrArg some (wrap_u32 (by omega))|exact congrArg some (wrap_u16 (by omega))|exact congrArg some (wrap_u8 (by omega))|exact congrArg some (wrap_i32 (by omega))|exact rfl):Yv P n ds F σ o (.int k z):=ya ho hx hy hz
theorem Cm{op:BinOp}{t yt:TypeId}{x y:Operand}{k:IntKind}{i j:Int}{b:Bool}(ho:o.op= .binOp op t x y yt:=by exact rfl)(hx:bC σ x=some (.int k i):=by exact rfl)(hy:bC σ y=some (.int k j):=by exact rfl)(hz:JO op i j=some b:=by exact rfl):Yv P n ds F σ o (.bool b):=ajx ho hx hy hz
theorem Sh{t yt:TypeId}{x y:Operand}{k k':IntKind}{i j z:Int}(s:Nat)(ho:o.op= .binOp .shl t x y yt:=by exact rfl)(hx:bC σ x=some (.int k i):=by exact rfl)(hy:bC σ y=some (.int k' j):=by exact rfl)(hj:j=(s:Int):=by exact rfl)(hz:k.wrap (i*2^(min s k.bits))=z:=by exact rfl):Yv P n ds F σ o (.int k z):=ajr ho hx hy hj hz
theorem Sr{t yt:TypeId}{x y:Operand}{k k':IntKind}{i j z:Int}(s:Nat)(ho:o.op= .binOp .shr t x y yt:=by exact rfl)(hx:bC σ x=some (.int k i):=by exact rfl)(hy:bC σ y=some (.int k' j):=by exact rfl)(hj:j=(s:Int):=by exact rfl)(hz:i.fdiv (2^(min s k.bits))=z:=by exact rfl):Yv P n ds F σ o (.int k z):=ajq ho hx hy hj hz
theorem Cv{s t:TypeId}{x:Operand}{k k':IntKind}{i z:Int}(ht:P.underlying t=some (.int k))(hs:(P.underlying s).isSome=true)(ho:o.op= .convert s t x:=by exact rfl)(hx:bC σ x=some (.int k' i):=by exact rfl)
  (hz:k.wrap i=z:=by first|exact wrap_i64 (by omega)|exact wrap_u64 (by omega)|exact wrap_u32 (by omega)|exact wrap_u16 (by omega)|exact wrap_u8 (by omega)|exact wrap_i32 (by omega)|exact rfl):Yv P n ds F σ o (.int k z):=ad2 ht hs ho hx hz
theorem Bq{op:BinOp}{t yt:TypeId}{x y:Operand}{i j b:Bool}(ht:P.underlying t=some .bool)(ho:o.op= .binOp op t x y yt:=by exact rfl)(hx:bC σ x=some (.bool i):=by exact rfl)(hy:bC σ y=some (.bool j):=by exact rfl)
  (hop:(op= .eql/\b=(i==j))\/(op= .neq/\b=(i !=j)):=by first|exact .inl ⟨rfl,rfl⟩|exact .inr ⟨rfl,rfl⟩):Yv P n ds F σ o (.bool b):=TX ht ho hx hy hop
theorem Sq{op:BinOp}{t yt:TypeId}{x y:Operand}{i j:F9}{b:Bool}(ho:o.op= .binOp op t x y yt:=by exact rfl)(hx:bC σ x=some (aW i):=by exact rfl)(hy:bC σ y=some (aW j):=by exact rfl)
  (hop:(op= .eql/\b=decide (i=j))\/(op= .neq/\b= !decide (i=j)):=by first|exact .inl ⟨rfl,rfl⟩|exact .inr ⟨rfl,rfl⟩):Yv P n ds F σ o (.bool b):=Yq ho hx hy hop
theorem Pn{op:BinOp}{t yt e:TypeId}{x y:Operand}{p:FX}{b:Bool}(ht:P.underlying t=some (.pointer e))(ho:o.op= .binOp op t x y yt:=by exact rfl)(hx:bC σ x=some (.pointer p):=by exact rfl)(hy:bC σ y=some (.pointer none):=by exact rfl)
  (hop:(op= .eql/\b=p.isNone)\/(op= .neq/\b= !p.isNone):=by first|exact .inl ⟨rfl,rfl⟩|exact .inr ⟨rfl,rfl⟩):Yv P n ds F σ o (.bool b):=TP ht ho hx hy hop
theorem Ln{t:TypeId}{x:Operand}{a:FX}{l c:Nat}{ek:TypeId×Nat}(ht:ed P t=some ek)(ho:o.op= .call {callee:= .builtin .len,args:= #[x],argTypes:= #[t]}:=by exact rfl)(hx:bC σ x=some (.slice a l c):=by exact rfl):Yv P n ds F σ o (.int .i64 l):=ajw ht ho hx
theorem Ls{t:TypeId}{x:Operand}{l:F9}(ht:P.underlying t=some .string)(ho:o.op= .call {callee:= .builtin .len,args:= #[x],argTypes:= #[t]}:=by exact rfl)(hx:bC σ x=some (aW l):=by exact rfl):Yv P n ds F σ o (.int .i64 l.length):=ad1 ht ho hx
theorem Mi{x y:Operand}{k:IntKind}{i j:Int}{rQ:Array TypeId}(ho:o.op= .call {callee:= .builtin .min,args:= #[x,y],argTypes:=rQ}:=by exact rfl)(hx:bC σ x=some (.int k i):=by exact rfl)(hy:bC σ y=some (.int k j):=by exact rfl):Yv P n ds F σ o (.int k (min i j)):=aju ho hx hy
theorem Ma{x y:Operand}{k:IntKind}{i j:Int}{rQ:Array TypeId}(ho:o.op= .call {callee:= .builtin .max,args:= #[x,y],argTypes:=rQ}:=by exact rfl)(hx:bC σ x=some (.int k i):=by exact rfl)(hy:bC σ y=some (.int k j):=by exact rfl):Yv P n ds F σ o (.int k (max i j)):=ajv ho hx hy
theorem Bd{t:TypeId}{pl:List (Nat×Nat)}{zs vs cs:FV}{parts:List (Nat×Operand)}(hz:bW P t=some zs)(hpl:jt P t=some pl)(ho:o.op= .build t parts.toArray:=by exact rfl)(hv:jQ σ (parts.map (·.2))=some vs:=by exact rfl)
  (hc:pO (λi=>pl[i]?) zs ((parts.map (·.1)).zip vs)=some cs:=by exact rfl):Yv P n ds F σ o (.agg cs.toArray):=Yt hz hpl ho hv hc
theorem Sl{t e sz:TypeId}{x:Operand}{lo hi mx:Option Operand}{a:FX}{len cap:Nat}(l hh m:Nat)(ht:ed P t=some (e,sz))(ho:o.op= .slice t x lo hi mx:=by exact rfl)(hx:bC σ x=some (.slice a len cap):=by exact rfl)
  (Xu:DX σ lo 0 l:=by first|exact rfl|exact⟨_,_,rfl,rfl⟩|exact⟨_,_,rfl,by omega⟩) (hbh:DX σ hi len hh:=by first|exact rfl|exact⟨_,_,rfl,rfl⟩|exact⟨_,_,rfl,by omega⟩) (hbm:DX σ mx cap m:=by first|exact rfl|exact⟨_,_,rfl,rfl⟩|exact⟨_,_,rfl,by omega⟩)
  (h1:l<=hh:=by first|omega|(simp;omega)) (h2:hh<=m:=by first|omega|(simp;omega)) (h3:m<=cap:=by first|omega|(simp;omega)) (GP:mx.isSome=true->hi.isSome=true:=by simp):Yv P n ds F σ o (.slice (B8 a l m (l*sz)) (hh-l) (m-l)):=Yr l hh m ht ho hx Xu hbh hbm h1 h2 h3 GP
theorem Ts{s t:TypeId}{x:Operand}{a:FX}{l:F9}{m c sz:Nat}{e:TypeId}(hs:ed P s=some (e,sz))(he:P.underlying e=some (.int .u8))(ht:P.underlying t=some .string)(ho:o.op= .convert s t x:=by exact rfl)
  (hx:bC σ x=some (.slice a m c):=by exact rfl) (hm:m=l.length:=by first|rfl|assumption) (hr:fD F.h a (ak l):=by assumption):Yv P n ds F σ o (aW l):=Ij hs he ht ho hx hm hr
theorem Cs{s t:TypeId}{x:Operand}{l:F9}(hs:P.underlying s=some .string)(ht:P.underlying t=some .string)(ho:o.op= .convert s t x:=by exact rfl)(hx:bC σ x=some (aW l):=by exact rfl):Yv P n ds F σ o (aW l):=Ys hs ht ho hx
def BQ (P:Program)(t:TypeId):Option (Nat×TypeId×Nat):=
 match P.underlying t with
 |some (.array k e)=>match P.info? e with
  |some i=>some (k,e,i.size)
  |none=>none
 |_=>none
theorem TW{t e sz k m b i j:Nat}{x y:Operand}{kd:IntKind}{z:Int}(ht:BQ P t=some (k,e,sz))(ho:o.op= .indexAddr t x y)(hx:bC σ x=some (.pointer (some ⟨b,i,none⟩)))(hy:bC σ y=some (.int kd z))(hj:z=(j:Int))(hl:j<k)(hm:j*sz=m):Yv P n ds F σ o (.pointer (some ⟨b,i+m,none⟩)):=
 λa w en fr=>by
  unfold BQ at ht;cases hu:P.underlying t with
  |none=>simp[hu]at ht
  |some dsc=>
   cases dsc<;>simp[hu]at ht;rename_i k' e';cases hi:P.info? e' with
   |none=>simp[hi]at ht
   |some inf=>
    simp[hi]at ht;obtain⟨rfl,rfl,rfl⟩:=ht;subst hj;subst hm;simp[execOp,ho,Instr.indexAt,en.eval hx,en.eval hy,asIntOf,run_underlying hu,sizeOf,typeInfo,hi,hl,add_lit,Instr.sureAddr]
theorem Ia{t e sz k m b i j:Nat}{x y:Operand}{kd:IntKind}{z:Int}(ht:BQ P t=some (k,e,sz))(ho:o.op= .indexAddr t x y:=by exact rfl)(hx:bC σ x=some (.pointer (some ⟨b,i,none⟩)):=by exact rfl)(hy:bC σ y=some (.int kd z):=by exact rfl)(hj:z=(j:Int):=by exact rfl)
  (hl:j<k:=by omega) (hm:j*sz=m:=by first|exact Nat.mul_one _|rfl):Yv P n ds F σ o (.pointer (some ⟨b,i+m,none⟩)):=TW ht ho hx hy hj hl hm
def Qa (F:dM)(H:Dz)(p:FX)(v:Value):Prop:=∃ad,p=some ad/\∀h,Le F.h h->gW H h->eO h ad=some v
theorem sT{A:aa}{R:Dz}(s:fO H A R):∀h,gW H h->∃k,A k/\Le k h:=by
 induction s with
 |here=>exact λh x=>x.1
 |there _ ih=>exact λh x=>ih h x.2
theorem Sa{b i:Nat}{e:TypeId}{cs:FV}{R:Dz}{v:Value}(s:fO H (ag b e cs) R)(hv:cs[i]?=some v):Qa F H (some ⟨b,i,none⟩) v:=
 ⟨_,rfl,λh _ au=>by obtain⟨k,p,l⟩:=sT s h au;exact dh l (fB p hv)⟩
theorem Sc{a:FX}{k cap e sz:Nat}{v:Value}{cells:FV}{R:Dz}(hs:a.isSome=true)(s:fO H (own a cap e sz cells) R)(hv:cells[k]?=some v):Qa F H (a.map (·.add k)) v:=by
 obtain⟨ad,rfl⟩:=Option.isSome_iff_exists.1 hs;refine⟨_,rfl,λh _ au=> ?_⟩;obtain⟨m,p,l⟩:=sT s h au;obtain⟨ad',e1,e2⟩:=oP p k v hv;cases e1;exact dh l e2
theorem yd{b i:Nat}{e:TypeId}{cs:FV}{v:Value}(hp:∃k,ag b e cs k/\Le k F.h)(hv:cs[i]?=some v):Qa F H (some ⟨b,i,none⟩) v:=by
 obtain⟨k,p,l⟩:=hp;exact⟨_,rfl,λh le _=>dh (l.trans le) (fB p hv)⟩
theorem El{a:FX}{k:Nat}{v:Value}{cells:FV}(hr:fD F.h a cells)(hv:cells[k]?=some v):Qa F H (a.map (·.add k)) v:=by
 obtain⟨ad,rfl,hc⟩:=hr k v hv;exact⟨_,rfl,λh le _=>dh le hc⟩
theorem JE{a:FX}{k:Nat}{l:F9}(hr:fD F.h a (ak l))(hk:k<l.length):Qa F H (a.map (·.add k)) (.int .u8 (tJ l k:Int)):=El hr (PN hk)
theorem Yd{ad:Addr}{v:Value}(hv:eO F.h ad=some v):Qa F H (some ad) v:=⟨_,rfl,λh le _=>dh le hv⟩
theorem oL{t:TypeId}{x:Operand}{p:FX}{v:Value}(hs:de P t=true)(h:G n ds F K ((d,v)::σ) H)(ho:o.op= .load t x:=by exact rfl)(hd:o.dst=some d:=by exact rfl)(hx:bC σ x=some (.pointer p):=by exact rfl)
  (hk:Qa F H p v:=by
   first
    |exact Sa (by repeat (first|exact fO.here|apply fO.there)) (by first|exact rfl|assumption)
    |exact El (by assumption) (by first|assumption|exact rfl)
    |exact JE (by assumption) (by omega)
    |exact yd (by assumption) (by first|exact rfl|assumption)
    |exact Sc (by first|rfl|assumption) (by repeat (first|exact fO.here|apply fO.there)) (by first|assumption|exact rfl)
    |exact Yd (by assumption)) (hdn:Nat.blt d n=true:=by exact rfl):G n ds F (λa w=>o.wp P a w K Q) σ H:=by
 obtain⟨ad,rfl,hv⟩:=hk;exact E7 hs ho hd hx (λw s=>by obtain⟨hh,st,le,_⟩:=s.own;exact hv _ s.frame (cx st le)) hdn h
theorem Lf{t:TypeId}{x:Operand}{p:FX}{v:Value}(hs:de P t=true)(ho:o.op= .load t x:=by exact rfl)(hx:bC σ x=some (.pointer p):=by exact rfl)
  (hk:Qa F [] p v:=by
   first
    |exact El (by assumption) (by first|assumption|exact rfl)
    |exact JE (by assumption) (by omega)
    |exact yd (by assumption) (by first|exact rfl|assumption)
    |exact Yd (by assumption)):Yv P n ds F σ o v:=by
 obtain⟨ad,rfl,hv⟩:=hk;exact JU hs ho hx (hv _ (Le.refl _) trivial)
def x9 (F:dM)(H:Dz)(p:FX)(_k:Nat)(vs:FV):Prop:=∃ad,p=some ad/\∀h,Le F.h h->gW H h->∀j v,vs[j]?=some v->eO h (ad.add j)=some v
theorem qN{cs vs:FV}{i k j:Nat}{v:Value}(hv:(cs.drop i).take k=vs)(hj:vs[j]?=some v):cs[i+j]?=some v:=by
 rw[<-hv,List.getElem?_take]at hj;split at hj
 ·simpa using hj
 cases hj
theorem Dj{b i k:Nat}{e:TypeId}{cs vs:FV}{R:Dz}(s:fO H (ag b e cs) R)(hv:(cs.drop i).take k=vs):x9 F H (some ⟨b,i,none⟩) k vs:=
 ⟨_,rfl,λh _ au j v hj=>by obtain⟨m,p,l⟩:=sT s h au;rw[add_lit];exact dh l (fB p (qN hv hj))⟩
theorem Fm{b k:Nat}{e:TypeId}{cs:FV}{R:Dz}(s:fO H (ag b e cs) R)(hv:cs.length=k):x9 F H (some ⟨b,0,none⟩) k cs:=
 Dj s (by rw[List.drop_zero,List.take_of_length_le (by omega)])
theorem Cp{b i k:Nat}{e:TypeId}{cs vs:FV}(hp:∃m,ag b e cs m/\Le m F.h)(hv:(cs.drop i).take k=vs):x9 F H (some ⟨b,i,none⟩) k vs:=by
 obtain⟨m,p,l⟩:=hp;exact⟨_,rfl,λh le _ j v hj=>by rw[add_lit];exact dh (l.trans le) (fB p (qN hv hj))⟩
theorem Co{a:FX}{i k:Nat}{cells vs:FV}(hr:fD F.h a cells)(hv:(cells.drop i).take k=vs)(h0:a.isSome=true):x9 F H (a.map (·.add i)) k vs:=by
 obtain⟨ad,rfl⟩:=Option.isSome_iff_exists.1 h0;refine⟨_,rfl,λh le _ j v hj=> ?_⟩;obtain⟨ad',e1,e2⟩:=hr _ v (qN hv hj);cases e1;rw[add_add];exact dh le e2
theorem KP{a:FX}{i k cap e sz:Nat}{cells vs:FV}{R:Dz}(h0:a.isSome=true)(s:fO H (own a cap e sz cells) R)(hv:(cells.drop i).take k=vs):x9 F H (a.map (·.add i)) k vs:=by
 obtain⟨ad,rfl⟩:=Option.isSome_iff_exists.1 h0;refine⟨_,rfl,λh _ au j v hj=> ?_⟩;obtain⟨m,p,l⟩:=sT s h au;obtain⟨ad',e1,e2⟩:=oP p _ v (qN hv hj);cases e1;rw[add_add];exact dh l e2
theorem Bg{t k:TypeId}{x:Operand}{p:FX}{vs:FV}(hs:cO P t=some k)(ho:o.op= .load t x)(hd:o.dst=some d)(hx:bC σ x=some (.pointer p))(hk:x9 F H p k vs)(hl:vs.length=k)(hdn:Nat.blt d n=true)
  (h:G n ds F K ((d, .agg vs.toArray)::σ) H):G n ds F (λa w=>o.wp P a w K Q) σ H:=by
 obtain⟨ad,rfl,hv⟩:=hk;refine sV hd hdn (λac w en s=> ?_) h;obtain⟨hh,st,le,_⟩:=s.own;have hc:=hv _ s.frame (cx st le);subst hl;simp[execOp,ho,en.eval hx,Instr.loadAt,Instr.sureAddr,loadVar,(fG hs).1,(fG hs).2,run_loadCells_list w _ vs hc]
theorem oLN{t k:TypeId}{x:Operand}{p:FX}{vs:FV}(hs:cO P t=some k)(h:G n ds F K ((d, .agg vs.toArray)::σ) H)(ho:o.op= .load t x:=by exact rfl)(hd:o.dst=some d:=by exact rfl)(hx:bC σ x=some (.pointer p):=by exact rfl)
  (hk:x9 F H p k vs:=by
   first
    |exact Fm (by repeat (first|exact fO.here|apply fO.there)) (by exact rfl)
    |exact Dj (by repeat (first|exact fO.here|apply fO.there)) (by exact rfl)
    |exact Co (by assumption) (by first|assumption|exact rfl) (by first|rfl|assumption)
    |exact Cp (by assumption) (by exact rfl)
    |exact KP (by first|rfl|assumption) (by repeat (first|exact fO.here|apply fO.there)) (by first|assumption|exact rfl))
  (hl:vs.length=k:=by first|rfl|(simp;omega)) (hdn:Nat.blt d n=true:=by exact rfl):G n ds F (λa w=>o.wp P a w K Q) σ H:=Bg hs ho hd hx hk hl hdn h
theorem TU{t k:TypeId}{x:Operand}{p:FX}{vs:FV}(hs:cO P t=some k)(ho:o.op= .load t x)(hx:bC σ x=some (.pointer p))(hk:x9 F [] p k vs)(hl:vs.length=k):Yv P n ds F σ o (.agg vs.toArray):=by
 obtain⟨ad,rfl,hv⟩:=hk;intro ac w en fr;have hc:=hv _ fr trivial;subst hl;simp[execOp,ho,en.eval hx,Instr.loadAt,Instr.sureAddr,loadVar,(fG hs).1,(fG hs).2,run_loadCells_list w _ vs hc]
theorem LfN{t k:TypeId}{x:Operand}{p:FX}{vs:FV}(hs:cO P t=some k)(ho:o.op= .load t x:=by exact rfl)(hx:bC σ x=some (.pointer p):=by exact rfl)
  (hk:x9 F [] p k vs:=by
   first
    |exact Co (by assumption) (by first|assumption|exact rfl) (by first|rfl|assumption)
    |exact Cp (by assumption) (by exact rfl)) (hl:vs.length=k:=by first|rfl|(simp;omega)):Yv P n ds F σ o (.agg vs.toArray):=TU hs ho hx hk hl
theorem oS{t:TypeId}{x y:Operand}{b i:Nat}{e:TypeId}{cs:FV}{f:aa->Dz}{v:Value}(hs:de P t=true)(h:G n ds F K σ (f (ag b e (cs.set i v))))(ho:o.op= .store t x y:=by exact rfl)(hd:o.dst=none:=by exact rfl)
  (hx:bC σ x=some (.pointer (some ⟨b,i,none⟩)):=by exact rfl) (hy:bC σ y=some v:=by exact rfl) (hu:Pos H (ag b e cs) f:=by repeat (first|exact Pos.here|apply Pos.there)) (h1:v.oneCell'=true:=by first|rfl|decide|simp) (hi:i<cs.length:=by first|decide|(simp;done)|(simp;omega)|omega):
  G n ds F (λa w=>o.wp P a w K Q) σ H:=E6 hs ho hd hx hy h1 hu hi h
theorem oSN{t k:TypeId}{x y:Operand}{b i:Nat}{e:TypeId}{cs vs:FV}{f:aa->Dz}(hs:cO P t=some k)(h:G n ds F K σ (f (ag b e (dq cs i vs))))(ho:o.op= .store t x y:=by exact rfl)(hd:o.dst=none:=by exact rfl)
  (hx:bC σ x=some (.pointer (some ⟨b,i,none⟩)):=by exact rfl) (hy:bC σ y=some (.agg vs.toArray):=by exact rfl) (hk:vs.length=k:=by exact rfl) (h1:∀v∈vs,v.oneCell'=true:=by simp[dq,Value.cells,Value.oneCell',aW])
  (hu:Pos H (ag b e cs) f:=by repeat (first|exact Pos.here|apply Pos.there)) (hi:i+vs.length<=cs.length:=by simp[dq,wL]):G n ds F (λa w=>o.wp P a w K Q) σ H:=vO hs ho hd hx hy hk h1 hu hi h
theorem Uz{cs vs:FV}(h:vs.length=cs.length):dq cs 0 vs=vs:=by
 rw[mO (by omega)];simp[h]
theorem gE{t k:TypeId}{x y:Operand}{b:Nat}{e:TypeId}{cs vs:FV}{f:aa->Dz}(hs:cO P t=some k)(h:G n ds F K σ (f (ag b e vs)))(ho:o.op= .store t x y:=by exact rfl)(hd:o.dst=none:=by exact rfl)
  (hx:bC σ x=some (.pointer (some ⟨b,0,none⟩)):=by exact rfl) (hy:bC σ y=some (.agg vs.toArray):=by exact rfl) (hk:vs.length=k:=by exact rfl) (h1:∀v∈vs,v.oneCell'=true:=by simp[dq,Value.cells,Value.oneCell',aW])
  (hu:Pos H (ag b e cs) f:=by repeat (first|exact Pos.here|apply Pos.there)) (hl:cs.length=k:=by exact rfl):G n ds F (λa w=>o.wp P a w K Q) σ H:=
 vO hs ho hd hx hy hk h1 hu (by omega) (by rw[Uz (by omega)];exact h)
theorem oSO{t:TypeId}{x y:Operand}{a:FX}{k cap e sz:Nat}{cells:FV}{f:aa->Dz}{v:Value}(hs:de P t=true)(h:G n ds F K σ (f (own a cap e sz (cells.set k v))))(ho:o.op= .store t x y:=by exact rfl)(hd:o.dst=none:=by exact rfl)
  (hx:bC σ x=some (.pointer (a.map (·.add k))):=by exact rfl) (hy:bC σ y=some v:=by exact rfl) (hu:Pos H (own a cap e sz cells) f:=by repeat (first|exact Pos.here|apply Pos.there)) (h1:v.oneCell'=true:=by first|rfl|decide|simp)
  (hk:k<cells.length:=by first|omega|(simp;omega)):G n ds F (λa w=>o.wp P a w K Q) σ H:=M6 hs ho hd hx hy h1 hu hk h
theorem oB{t:TypeId}{x:Operand}{v:Value}{cs:FV}(h:∀b,G n ds F K ((d, .pointer (some ⟨b,0,none⟩))::σ) (ag b t cs::H))(ho:o.op= .box t x:=by exact rfl)(hd:o.dst=some d:=by exact rfl)(hx:bC σ x=some v:=by exact rfl)(hc:v.cells=cs.toArray:=by exact rfl)(hdn:Nat.blt d n=true:=by exact rfl):
  G n ds F (λa w=>o.wp P a w K Q) σ H:=ae0 ho hd hx hc hdn h
theorem oA{t:TypeId}{cs:FV}(hz:bW P t=some cs)(h:∀b,G n ds F K ((d, .pointer (some ⟨b,0,none⟩))::σ) (ag b t cs::H))(ho:o.op= .alloc t:=by exact rfl)(hd:o.dst=some d:=by exact rfl)(hdn:Nat.blt d n=true:=by exact rfl):
  G n ds F (λa w=>o.wp P a w K Q) σ H:=UZ hz ho hd hdn h
theorem oT{t:TypeId}{e nt len:Nat}{z vs:FV}{parts:List (Nat×Operand)}(ht:vg P t=some (e,1,nt,z))(h:∀b,G n ds F K ((d, .slice (some ⟨b,0,none⟩) len len)::σ) (ag b e vs::H))(ho:o.op= .buildSlice t len parts.toArray:=by exact rfl)(hd:o.dst=some d:=by exact rfl)(hv:jQ σ (parts.map (·.2))=some vs:=by exact rfl)
  (hk:Nat.ble (len*1) 16777216=true:=by exact rfl) (hi:parts.map (·.1)=List.range' 0 vs.length:=by exact rfl) (hlen:vs.length=len:=by exact rfl) (h1:∀v∈vs,v.oneCell'=true:=by simp[Value.oneCell',aW]) (hdn:Nat.blt d n=true:=by exact rfl):
  G n ds F (λa w=>o.wp P a w K Q) σ H:=Zu ht ho hd hv hk hi hlen h1 hdn h
theorem oT1{t:TypeId}{e sz nt:Nat}{z cs:FV}{x:Operand}(ht:vg P t=some (e,sz,nt,z))(h:∀b,G n ds F K ((d, .slice (some ⟨b,0,none⟩) 1 1)::σ) (ag b e cs::H))(ho:o.op= .buildSlice t 1 #[(0,x)]:=by exact rfl)(hd:o.dst=some d:=by exact rfl)(hx:bC σ x=some (.agg cs.toArray):=by exact rfl)
  (hl:cs.length=sz:=by exact rfl) (hk:Nat.ble (1*sz) 16777216=true:=by exact rfl) (hdn:Nat.blt d n=true:=by exact rfl):G n ds F (λa w=>o.wp P a w K Q) σ H:=Zv ht ho hd hx hl hk hdn h
theorem oMk{t e e':TypeId}{x:Operand}{b i l c:Nat}{cs:FV}{R:Dz}(ht:P.underlying t=some (.slice e))(he:P.underlying e=some (.int .u8))(h:G n ds F K ((d, .slice (some ⟨b,i,none⟩) l c)::σ) (ag b e' cs::R))(ho:o.op= .convert t t x:=by exact rfl)(hd:o.dst=some d:=by exact rfl)
  (hx:bC σ x=some (.slice (some ⟨b,i,none⟩) l c):=by exact rfl) (hs:fO H (ag b e' cs) R:=by repeat (first|exact fO.here|apply fO.there)) (hdn:Nat.blt d n=true:=by exact rfl):G n ds F (λa w=>o.wp P a w K Q) σ H:=Zr ht he ho hd hx hs hdn h
theorem oM{t:TypeId}{e sz nt:Nat}{z:FV}{x y:Operand}{k k':IntKind}{i j:Int}(l c:Nat)(ht:vg P t=some (e,sz,nt,z))(h:∀b,G n ds F K ((d, .slice (some ⟨b,0,none⟩) l c)::σ) (ag b e (ij z (c*sz))::H))(ho:o.op= .makeSlice t x y:=by exact rfl)(hd:o.dst=some d:=by exact rfl)
  (hx:bC σ x=some (.int k i):=by exact rfl) (hy:bC σ y=some (.int k' j):=by exact rfl) (xN:i=(l:Int):=by first|omega|(simp;omega)) (hj:j=(c:Int):=by first|omega|(simp;omega)) (hlc:l<=c:=by first|omega|(simp;omega)) (hc:c*nt<=281474976710656:=by first|omega|(simp;omega))
  (r9:c<=9223372036854775807:=by first|omega|(simp;omega)) (hdn:Nat.blt d n=true:=by exact rfl):G n ds F (λa w=>o.wp P a w K Q) σ H:=Zt ht ho hd hx hy xN hj hlc hc r9 hdn h
theorem oC{f:FuncId}{xs:List Operand}{vs:FV}{rQ:Array TypeId}{pre:Hp->Prop}{A2 R:Dz}{T:DF}(kR:aC P f=true)(ho:o.op= .call {callee:= .value (.func f),args:=xs.toArray,argTypes:=rQ})(hv:jQ σ xs=some vs)(hc:aK P f vs pre A2 T)(dg:iM H A2 R)(iu:∀h,Le F.h h->gW R h->pre h)
  (h:∀v H',T v H'->G n ds F K ((d,v)::σ) (H'++R)) (hd:o.dst=some d:=by exact rfl) (hdn:Nat.blt d n=true:=by exact rfl):
  G n ds F (λa w=>o.wp P a w K Q) σ H:=Zw kR ho hd hv hc dg iu hdn h
theorem Eh{A B:Dz}(h:∀h,ai A h->ai B h:=by
  first
   |exact λ_ x=>x
   |(apply eK;(repeat' (first|exact iM.nil|apply iM.cons|exact fO.here|apply fO.there));done)
   |(refine agC ?_;simp;done)):∀h,ai A h->ai B h:=h
theorem Hh{K:F7}{H':Dz}(h:G n ds F K σ H')(hh:∀h,ai H h->ai H' h:=by exact Eh):G n ds F K σ H:=ay hh h
theorem Sb{A B:aT}(h:qo A B:=by
  repeat' first
   |exact trivial
   |refine And.intro ?_ ?_
   |exact rfl
   |(refine congrArg (λq=>some (Value.int _ q)) ?_;omega)
   |(refine congrArg (λq=>some (Value.slice _ q _)) ?_;omega)
   |(refine congrArg (λq=>some (Value.bool q)) ?_;rw[Bool.eq_iff_iff];simp only[Bool.or_eq_true,Bool.and_eq_true,decide_eq_true_eq,Bool.not_eq_true',decide_eq_false_iff_not,Bool.false_eq_true,true_iff,false_iff,iff_true,iff_false];first|omega|grind)
   |(refine congrArg (λq=>some (Value.bool q)) ?_;simp[*];done)):qo A B:=h
theorem Lo{ι:Type}{c:Code}(jN:F8)(I:ι->Prop)(L:ι->aT)(HI:ι->Dz)(μ:ι->Nat)(i₀:ι)(h0:I i₀)
  (round:∀i,I i->G n ds F (c.wp P (Exit.then (rq n ds F jN σ I L HI μ i) Q)) (L i++fK jN σ) (HI i)) (hs:qo (L i₀) σ:=by exact Sb) (hh:∀h,ai H h->ai (HI i₀) h:=by exact Eh):G n ds F ((Code.loop c).wp P Q) σ H:=
 aal jN I L HI μ i₀ h0 hs hh round
theorem Ro{ι:Type}{jN:F8}{σ0:aT}{I:ι->Prop}{L:ι->aT}{HI:ι->Dz}{μ:ι->Nat}{i:ι}(j:ι)(hI:I j)(hm:μ j<μ i)(hs:qo (L j) σ:=by exact Sb)(hk:fK jN σ=fK jN σ0:=by exact rfl)(hh:∀h,ai H h->ai (HI j) h:=by exact Eh):
  G n ds F (Exit.then (rq n ds F jN σ0 I L HI μ i) Q .normal) σ H:=Wy j hI hm hs hk hh
theorem Me{ι:Type}{jN:F8}{σ0:aT}{I:ι->Prop}{L:ι->aT}{HI:ι->Dz}(j:ι)(hI:I j)(hs:qo (L j) σ:=by exact Sb)(hk:fK jN σ=fK jN σ0:=by exact rfl)(hh:∀h,ai H h->ai (HI j) h:=by exact Eh):
  G n ds F (Exit.then (EG n ds F jN σ0 I L HI) Q .normal) σ H:=acx j hI hs hk hh
theorem Rt{fn:Func}{R:DF}{t:Nat}{v:Value}(H':Dz)(hr:fn.results= #[.tmp t])(hR:R v H')(hv:look σ t=some v:=by exact rfl)(hh:∀h,ai H h->ai H' h:=by exact Eh):
  G n [] F (bodyPost P fn (λe w'=>∃v H',e= .returned v/\R v H'/\St F H' w') .ret) σ H:=akT hr hv hR hh
theorem Rt0{fn:Func}{R:DF}(H':Dz)(hr:fn.results= #[])(hR:R (.tuple #[]) H')(hh:∀h,ai H h->ai H' h:=by exact Eh):
  G n [] F (bodyPost P fn (λe w'=>∃v H',e= .returned v/\R v H'/\St F H' w') .ret) σ H:=agH hr hR hh
theorem j5{fn:Func}{R:DF}(H':Dz)(hr:fn.results= #[])(hR:R (.tuple #[]) H')(hh:∀h,ai H h->ai H' h:=by exact Eh):
  G n [] F (bodyPost P fn (λe w'=>∃v H',e= .returned v/\R v H'/\St F H' w') .normal) σ H:=agI hr hR hh
theorem js{fn:Func}{R:DF}{t u:Nat}{v x:Value}(H':Dz)(hr:fn.results= #[.tmp t, .tmp u])(hR:R (.tuple #[v,x]) H')(hv:look σ t=some v:=by exact rfl)(hx:look σ u=some x:=by exact rfl)(hh:∀h,ai H h->ai H' h:=by exact Eh):
  G n [] F (bodyPost P fn (λe w'=>∃v H',e= .returned v/\R v H'/\St F H' w') .ret) σ H:=agG hr hv hx hR hh
theorem GF{fn:Func}{T:DF}{t ty b i k:Nat}{e:TypeId}{cs vs:FV}{R:Dz}(H':Dz)(hs:cO P ty=some k)(hr:fn.results= #[.cell t ty])(hR:T (.agg vs.toArray) H')(ht:look σ t=some (.pointer (some ⟨b,i,none⟩)):=by exact rfl)
  (dg:fO H (ag b e cs) R:=by repeat (first|exact fO.here|apply fO.there)) (hv:(cs.drop i).take k=vs:=by exact rfl) (hk:vs.length=k:=by exact rfl) (hh:∀h,ai H h->ai H' h:=by exact Eh):G n [] F (bodyPost P fn (λe w'=>∃v H',e= .returned v/\T v H'/\St F H' w') .ret) σ H:=
 agF hs hr ht dg hv hk hR hh
end
end Go.dQ
