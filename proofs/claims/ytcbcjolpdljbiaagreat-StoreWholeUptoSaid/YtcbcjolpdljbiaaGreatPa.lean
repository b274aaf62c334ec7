/- Part Pa of the proof. -/
import Derived.KernelRfl
import Derived.Laws.Pointers
import Derived.OrdersHeld
import Derived.WalkKit
set_option maxRecDepth 100000
namespace Go.dG
open Go
abbrev Hp:=Nat->Option Obj
abbrev aa:=Hp->Prop
abbrev aZ:=List (Nat×Value)
def Le (h k:Hp):Prop:=∀b o,h b=some o->k b=some o
def bQ (h k:Hp):Prop:=∀b,h b=none\/k b=none
theorem Le.refl (h:Hp):Le h h:=λ_ _ e=>e
theorem Le.trans{h k l:Hp}(a:Le h k)(b:Le k l):Le h l:=λx o e=>b x o (a x o e)
theorem bQ.symm{h k:Hp}(d:bQ h k):bQ k h:=λb=>(d b).symm
theorem bQ.left{h h' k:Hp}(d:bQ h k)(l:Le h' h):bQ h' k:=λb=>by
 cases e:h' b with
 |none=>exact .inl rfl
 |some o=>exact(d b).imp (λx=>by rw[l b o e]at x;cases x) id
theorem bQ.right{h k k':Hp}(d:bQ h k)(l:Le k' k):bQ h k':=(d.symm.left l).symm
def ai:List aa->Hp->Prop
 | [],_=>True
 |A::r,h=>∃h1 h2,bQ h1 h2/\Le h1 h/\Le h2 h/\A h1/\ai r h2
structure dC where
 os:Os
 tape:Nat->Question->Nat
 output:Array (Nat×ByteArray)
 h:Hp
 d:Nat
def j7 (w:World):Hp:=λb=>w.heap[b]?
structure St (F:dC)(H:List aa)(w:World):Prop where
 os:w.os=F.os
 tape:w.tape=F.tape/\F.d<=w.drawn
 output:w.output=F.output
 frame:Le F.h (j7 w)
 own:∃h,ai H h/\Le h (j7 w)/\bQ h F.h
theorem eL{H:List aa}{h k:Hp}(s:ai H h)(l:Le h k):ai H k:=by
 cases H with
 |nil=>trivial
 |cons A r=>obtain⟨h1,h2,d,l1,l2,a,s⟩:=s;exact⟨h1,h2,d,l1.trans l,l2.trans l,a,s⟩
def fA (h k:Hp):Hp:=λb=>match h b with|some o=>some o|none=>k b
theorem aW (h k:Hp):Le h (fA h k):=λb o e=>by simp[fA,e]
theorem aR{h k:Hp}(d:bQ h k):Le k (fA h k):=λb o e=>by
 have:h b=none:=(d b).resolve_right (by simp[e]);simp[fA,this,e]
theorem bY{h k l:Hp}(a:Le h l)(b:Le k l):Le (fA h k) l:=λx o e=>by
 unfold fA at e;cases hx:h x with
 |some o'=>rw[hx]at e;cases e;exact a x _ hx
 |none=>rw[hx]at e;exact b x o e
theorem bQ.fA{h k l:Hp}(a:bQ h l)(b:bQ k l):bQ (fA h k) l:=λx=>by
 rcases a x with e|e
 ·rcases b x with e2|e2
  ·exact .inl (by simp[dG.fA,e,e2])
  exact .inr e2
 exact .inr e
theorem dx{A B:aa}{R:List aa}{h:Hp}(s:ai (A::B::R) h):ai (B::A::R) h:=by
 obtain⟨h1,h2,d,l1,l2,a,h3,h4,d',l3,l4,b,s⟩:=s;refine⟨h3,fA h1 h4, ?_,l3.trans l2,bY l1 (l4.trans l2),b,h1,h4,d.right l4,aW _ _,aR (d.right l4),a,s⟩;exact(bQ.fA (d.right l3) d'.symm).symm
inductive fD:List aa->aa->List aa->Prop
 |here {A r}:fD (A::r) A r
 |there {A B r r'} (h:fD r A r'):fD (B::r) A (B::r')
theorem aK{A:aa}{R R':List aa}(f:∀h,ai R h->ai R' h){h:Hp}(s:ai (A::R) h):ai (A::R') h:=by
 obtain⟨h1,h2,d,l1,l2,a,s⟩:=s;exact⟨h1,h2,d,l1,l2,a,f _ s⟩
theorem fD.out{H:List aa}{A:aa}{R:List aa}(s:fD H A R):∀h,ai H h->ai (A::R) h:=by
 induction s with
 |here=>exact λh x=>x
 |there _ ih=>exact λh x=>dx (aK ih x)
theorem fD.back{H:List aa}{A:aa}{R:List aa}(s:fD H A R):∀h,ai (A::R) h->ai H h:=by
 induction s with
 |here=>exact λh x=>x
 |there _ ih=>exact λh x=>aK ih (dx x)
inductive Pos:List aa->aa->(aa->List aa)->Prop
 |here {A r}:Pos (A::r) A (λB=>B::r)
 |there {A C r f} (h:Pos r A f):Pos (C::r) A (λB=>C::f B)
theorem Pos.vW{H:List aa}{A:aa}{f:aa->List aa}(u:Pos H A f):∃R,fD H A R/\∀B,fD (f B) B R:=by
 induction u with
 |here=>exact⟨_, .here,λ_=> .here⟩
 |there _ ih=>obtain⟨R,a,b⟩:=ih;exact⟨_,a.there,λB=>(b B).there⟩
theorem St.sub{F:dC}{H H':List aa}{w:World}(f:∀h,ai H h->ai H' h)(s:St F H w):St F H' w:=by
 obtain⟨a,b,c,d,h,x,y,z⟩:=s;exact⟨a,b,c,d,h,f _ x,y,z⟩
theorem St.vW{F:dC}{H R:List aa}{A:aa}{w:World}(s:fD H A R)(h:St F H w):St F (A::R) w:=h.sub s.out
theorem St.rE{F:dC}{H R:List aa}{A:aa}{w:World}(s:fD H A R)(h:St F (A::R) w):St F H w:=h.sub s.back
theorem bB{A B:aa}{R:List aa}(f:∀h,A h->B h){h:Hp}(s:ai (A::R) h):ai (B::R) h:=by
 obtain⟨h1,h2,d,l1,l2,a,s⟩:=s;exact⟨h1,h2,d,l1,l2,f _ a,s⟩
theorem St.drop{F:dC}{H:List aa}{A:aa}{w:World}(s:St F (A::H) w):St F H w:=
 s.sub λ_ x=>by obtain⟨_,_,_,_,l2,_,s⟩:=x;exact eL s l2
theorem St.get{F:dC}{H:List aa}{A:aa}{w:World}(s:St F (A::H) w):∃h,A h/\Le h (j7 w):=by
 obtain⟨_,_,_,_,h,⟨h1,h2,d,l1,l2,a,s⟩,y,z⟩:=s;exact⟨h1,a,l1.trans y⟩
def eZ (h:Hp)(a:Addr):Option Value:=
 match h a.block with
 |some (.cells c _ _)=>if a.spot.isSome then none else c[a.off]?
 |_=>none
theorem cU{h k:Hp}(l:Le h k){a:Addr}{v:Value}(e:eZ h a=some v):eZ k a=some v:=by
 unfold eZ at*;cases x:h a.block with
 |none=>simp[x]at e
 |some o=>rw[l _ _ x];rw[x]at e;exact e
theorem nJ{h:Hp}{w:World}(l:Le h (j7 w)){a:Addr}{v:Value}(e:eZ h a=some v):w.cell? a=some v:=cU l e
inductive af (b:Nat) (e:TypeId) (cs:List Value) (h:Hp):Prop
 |mk (lo hi:Nat) (hf:hi=lo\/cs.length<=lo) (hb:h b=some (.cells cs.toArray e (lo,hi)))
theorem fJ{b:Nat}{e:TypeId}{cs:List Value}{h:Hp}(p:af b e cs h){i:Nat}{v:Value}(hv:cs[i]?=some v):eZ h ⟨b,i,none⟩=some v:=by
 obtain⟨lo,hi,_,hb⟩:=p;simp[eZ,hb,hv]
theorem xX{b:Nat}{e:TypeId}{cs:List Value}{h:Hp}(p:af b e cs h){i:Nat}(hi:i<cs.length){w:World}(l:Le h (j7 w)):w.frozen? ⟨b,i,none⟩=false:=by
 obtain⟨lo,yY,hf,hb⟩:=p;have:w.heap[b]?=some (.cells cs.toArray e (lo,yY)):=l _ _ hb;simp only[World.frozen?,this];simp only[Bool.and_eq_false_iff,decide_eq_false_iff_not];omega
theorem zB (w:World)(b i:Nat)(v:Value)(cs:Array Value)(e:TypeId)(fz:Nat×Nat)(h:w.heap[b]?=some (.cells cs e fz)):
  (w.setCell ⟨b,i,none⟩ v).heap[b]?=some (.cells (cs.setIfInBounds i v) e fz):=by
 obtain⟨cL,h'⟩:=Array.getElem?_eq_some_iff.1 h;simp[World.setCell,Array.getElem?_modify,h]
theorem St.setCell{F:dC}{H:List aa}{w:World}{b i:Nat}{e:TypeId}{cs:List Value}(s:St F (af b e cs::H) w)(v:Value):
  St F (af b e (cs.set i v)::H) (w.setCell ⟨b,i,none⟩ v):=by
 obtain⟨a1,a2,a3,fr,h,⟨h1,h2,d,l1,l2,⟨lo,hi,hf,hb⟩,s⟩,y,z⟩:=s;have hw:w.heap[b]?=some (.cells cs.toArray e (lo,hi)):=(l1.trans y) _ _ hb;have fN:∀k:Hp,bQ h1 k->∀x o,k x=some o->x≠b:=by
  intro k dk x o e hx;subst hx;rcases dk x with q|q
  ·rw[hb]at q;cases q
  rw[e]at q;cases q
 have hold:∀k:Hp,bQ h1 k->Le k (j7 w)->Le k (j7 (w.setCell ⟨b,i,none⟩ v)):=by
  intro k dk lk x o e;have:=lk x o e;unfold j7 at*;rw[RowKit.Below.heap_setCell w _ v x (by exact fN k dk x o e)];exact this
 have dF:bQ h1 F.h:=z.left l1
 let y7:Hp:=λx=>if x=b then some (.cells (cs.set i v).toArray e (lo,hi))else none
 have d2:∀k:Hp,bQ h1 k->bQ y7 k:=by
  intro k dk x;by_cases hx:x=b
  ·subst hx
   rcases dk x with q|q
   ·rw[hb]at q;cases q
   exact .inr q
  exact .inl (by simp[y7,hx])
 have l1':Le y7 (j7 (w.setCell ⟨b,i,none⟩ v)):=by
  intro x o e;by_cases hx:x=b
  ·subst hx
   simp only[y7,if_true]at e;cases e;have:=zB w x i v _ _ _ hw;rw[j7,this];simp
  simp[y7,hx]at e
 refine⟨a1,a2,a3,hold _ dF fr,fA y7 h2,⟨y7,h2,d2 _ d,aW _ _,aR (d2 _ d),⟨lo,hi,by simpa using hf,by simp[y7]⟩,s⟩,
  bY l1' (hold _ d (l2.trans y)),bQ.fA (d2 _ dF) (z.left l2)⟩
theorem St.new{F:dC}{H:List aa}{w:World}(s:St F H w)(e:TypeId)(cs:List Value):
  St F (af w.heap.size e cs::H) (w.alloc (.cells cs.toArray e)):=by
 obtain⟨a1,a2,a3,fr,h,s,y,z⟩:=s;have hold:∀k:Hp,Le k (j7 w)->Le k (j7 (w.alloc (.cells cs.toArray e))):=by
  intro k lk x o ex;have hx:=lk x o ex;unfold j7 at*;rw[RowKit.Below.heap_alloc w _ x (Array.getElem?_eq_some_iff.1 hx).1];exact hx
 let h1:Hp:=λx=>if x=w.heap.size then some (.cells cs.toArray e)else none
 have dk:∀k:Hp,Le k (j7 w)->bQ h1 k:=by
  intro k lk x;by_cases hx:x=w.heap.size
  ·right
   cases q:k x with
   |none=>rfl
   |some o=>
    have:=lk x o q;unfold j7 at this;have:=(Array.getElem?_eq_some_iff.1 this).1;omega
  exact .inl (by simp[h1,hx])
 refine⟨a1,a2,a3,hold _ fr,fA h1 h,⟨h1,h,dk _ y,aW _ _,aR (dk _ y),⟨0,0, .inl rfl,by simp[h1]⟩,s⟩,bY ?_ (hold _ y),bQ.fA (dk _ fr) z⟩;intro x o ex;by_cases hx:x=w.heap.size
 ·subst hx;simp only[h1,if_true]at ex;cases ex;exact heap_alloc_new w _
 simp[h1,hx]at ex
theorem St.drew{F:dC}{H:List aa}{w:World}(s:St F H w):St F H w.drew:=⟨s.os,⟨s.tape.1,Nat.le_succ_of_le s.tape.2⟩,s.output,s.frame,s.own⟩
theorem St.drawn{F:dC}{H:List aa}{w:World}(s:St F H w)(n:Nat)(h:w.drawn<=n:=by exact Nat.le_succ _):St F H {w with drawn:=n}:=⟨s.os,⟨s.tape.1,Nat.le_trans s.tape.2 h⟩,s.output,s.frame,s.own⟩
def look:aZ->Nat->Option Value
 | [],_=>none
 |(k,v)::r,t=>match Nat.beq k t with|true=>some v|false=>look r t
def bJ (σ:aZ):Operand->Option Value
 | .tmp t=>look σ t
 | .const v=>some v
 | .global g=>some (.pointer (some ⟨g,0,none⟩))
 | .func f=>some (.func (.func f) #[] #[])
def ki (σ:aZ):List Operand->Option (List Value)
 | []=>some []
 |x::r=>match bJ σ x,ki σ r with|some v,some vs=>some (v::vs)|_,_=>none
structure Env (n:Nat)(ds:List Deferred)(σ:aZ)(a:Act):Prop where
 size:a.tmps.size=n
 defers:a.defers=ds
 slot:∀t v,look σ t=some v->a.tmps[t]?=some v
def ru:aZ->aZ->Prop
 | [],_=>True
 |(t,v)::r,σ=>look σ t=some v/\ru r σ
theorem ru.look{S σ:aZ}(h:ru S σ):∀t v,look S t=some v->look σ t=some v:=by
 induction S with
 |nil=>intro t v e;simp[dG.look]at e
 |cons p r ih=>
  obtain⟨k,u⟩:=p;intro t v e;simp only[dG.look]at e;cases hb:Nat.beq k t with
  |true=>rw[hb]at e;cases e;rw[<-Nat.eq_of_beq_eq_true hb];exact h.1
  |false=>rw[hb]at e;exact ih h.2 t v e
theorem Env.sub{n:Nat}{ds:List Deferred}{S σ:aZ}{a:Act}(e:Env n ds σ a)(h:ru S σ):Env n ds S a:=
 ⟨e.size,e.defers,λt v hv=>e.slot t v (h.look t v hv)⟩
theorem Env.eval{n:Nat}{ds:List Deferred}{σ:aZ}{a:Act}(e:Env n ds σ a){x:Operand}{v:Value}(h:bJ σ x=some v):a.eval x=v:=by
 cases x with
 |tmp t=>simp[Act.eval,e.slot t v h]
 |const u=>simpa[bJ,Act.eval]using h
 |global g=>simpa[bJ,Act.eval]using h
 |func f=>simpa[bJ,Act.eval]using h
theorem Env.vD{n:Nat}{ds:List Deferred}{σ:aZ}{a:Act}(e:Env n ds σ a):∀{xs:List Operand} {vs:List Value},ki σ xs=some vs->xs.map a.eval=vs:=by
 intro xs
 induction xs with
 |nil=>intro vs h;simp[ki]at h;simp[<-h]
 |cons x r ih=>
  intro vs h;simp only[ki]at h;cases h1:bJ σ x with
  |none=>simp[h1]at h
  |some v=>
   cases h2:ki σ r with
   |none=>simp[h1,h2]at h
   |some us=>
    simp only[h1,h2,Option.some.injEq]at h;rw[<-h,List.map_cons,e.eval h1,ih h2]
theorem Env.put{n:Nat}{ds:List Deferred}{σ:aZ}{a:Act}(e:Env n ds σ a){d:Nat}(hd:Nat.blt d n=true)(v:Value):Env n ds ((d,v)::σ) (a.put (some d) v):=by
 have hdn:d<a.tmps.size:=by rw[e.size];exact Nat.le_of_ble_eq_true hd
 refine⟨by simp[Act.put,e.size],by simp[Act.put,e.defers],λt u h=> ?_⟩;simp only[look]at h;cases hb:Nat.beq d t with
 |true=>
  rw[hb]at h;cases h;have:=Nat.eq_of_beq_eq_true hb;subst this;simp[Act.put,hdn]
 |false=>
  rw[hb]at h;have fN:d≠t:=by intro q;subst q;simp at hb
  simp[Act.put,Array.getElem?_setIfInBounds_ne fN,e.slot t u h]
structure G (n:Nat)(ds:List Deferred)(F:dC)(K:Act->World->Prop)(σ:aZ)(H:List aa):Prop where
 run:∀a w,Env n ds σ a->St F H w->K a w
instance {n:Nat}{ds:List Deferred}{F:dC}{K:Act->World->Prop}{σ:aZ}{H:List aa}:CoeFun (G n ds F K σ H) (λ_=>∀a w,Env n ds σ a->St F H w->K a w):=⟨G.run⟩
section rules
variable {P:Program} {n:Nat} {ds:List Deferred} {F:dC} {Q:Exit->Act->World->Prop} {σ:aZ} {H:List aa}
theorem aw{x y:Code}(h:G n ds F (x.wp P (Exit.then (y.wp P Q) Q)) σ H):G n ds F ((Code.seq x y).wp P Q) σ H:=
 .mk λa w e s=>wp_seq (h a w e s)
theorem Bw (h:G n ds F (Q .normal) σ H):G n ds F (Code.skip.wp P Q) σ H:= .mk λa w e s=>wp_skip (h a w e s)
theorem aif (h:G n ds F (Q .ret) σ H):G n ds F (Code.ret.wp P Q) σ H:= .mk λa w e s=>wp_ret (h a w e s)
theorem adv{id:Nat}(h:G n ds F (Q (.exit id)) σ H):G n ds F ((Code.exit id).wp P Q) σ H:= .mk λa w e s=>wp_exit (h a w e s)
theorem qD{id:Nat}{c:Code}(h:G n ds F (c.wp P (Exit.inBlock id Q)) σ H):G n ds F ((Code.block id c).wp P Q) σ H:= .mk λa w e s=>wp_block (h a w e s)
theorem aE{c:Operand}{x y:Code}{b:Bool}(hc:bJ σ c=some (.bool b))(ht:b=true->G n ds F (x.wp P Q) σ H)(hf:b=false->G n ds F (y.wp P Q) σ H):
  G n ds F ((Code.cond c x y).wp P Q) σ H:=
 .mk λa w e s=>wp_cond_split (e.eval hc) (λhb=>ht hb a w e s) (λhb=>hf hb a w e s)
theorem x6{c:Operand}{x y:Code}{b:Bool}(hc:bJ σ c=some (.bool b))(hb:b=true)(ht:G n ds F (x.wp P Q) σ H):
  G n ds F ((Code.cond c x y).wp P Q) σ H:=aE hc (λ_=>ht) (λh=>by rw[hb]at h;cases h)
theorem x7{c:Operand}{x y:Code}{b:Bool}(hc:bJ σ c=some (.bool b))(hb:b=false)(ht:G n ds F (y.wp P Q) σ H):
  G n ds F ((Code.cond c x y).wp P Q) σ H:=aE hc (λh=>by rw[hb]at h;cases h) (λ_=>ht)
theorem BP{K:Act->World->Prop}(h:G n ds F K σ H):G n ds F (Exit.then K Q .normal) σ H:=h
theorem Ij{K:Act->World->Prop}(h:G n ds F (Q .ret) σ H):G n ds F (Exit.then K Q .ret) σ H:=h
theorem Fm{K:Act->World->Prop}{id:Nat}(h:G n ds F (Q (.exit id)) σ H):G n ds F (Exit.then K Q (.exit id)) σ H:=h
theorem YL{id:Nat}(h:G n ds F (Q .normal) σ H):G n ds F (Exit.inBlock id Q .normal) σ H:=h
theorem Fo{id:Nat}(h:G n ds F (Q .ret) σ H):G n ds F (Exit.inBlock id Q .ret) σ H:=h
theorem Fq{id:Nat}(h:G n ds F (Q .normal) σ H):G n ds F (Exit.inBlock id Q (.exit id)) σ H:= .mk λa w e s=>by
 simpa[Exit.inBlock]using h a w e s
theorem akM{id id':Nat}(fN:Nat.beq id' id=false)(h:G n ds F (Q (.exit id')) σ H):G n ds F (Exit.inBlock id Q (.exit id')) σ H:= .mk λa w e s=>by
 have:id'≠id:=by intro q;subst q;simp at fN
 simpa[Exit.inBlock,this]using h a w e s
theorem au{K:Act->World->Prop}{H':List aa}(hh:∀h,ai H h->ai H' h)(h:G n ds F K σ H'):G n ds F K σ H:=
 .mk λa w e s=>h a w e (s.sub hh)
theorem fi{id:Nat}{l:List Oper}(h:G n ds F (wpList P l.toArray Q l) σ H):G n ds F ((Code.region id l.toArray false).wp P Q) σ H:=
 .mk λa w e s=>wp_region_lit (h a w e s)
theorem aF{ops:Array Oper}(h:G n ds F (Q .normal) σ H):G n ds F (wpList P ops Q []) σ H:=h
theorem yf{ops:Array Oper}{j t:Nat}{b:Bool}{a:Act}(hj:(ops[j]?).bind (·.dst)=some t)(ht:look σ t=some (.bool b))(e:Env n ds σ a):yielded ops a.tmps j=some b:=by
 simp[yielded,hj,e.slot t _ ht]
def aO (P:Program)(f:FuncId)(args:List Value)(pre:Hp->Prop)(H:List aa)(R:Value->List aa->Prop):Prop:=
 ∀F w,pre F.h->St F H w->Calls P f args.toArray w λe w'=>∃v H',e= .returned v/\R v H'/\St F H' w'
def jP:Nat->List Value->aZ
 |_,[]=> []
 |k,v::r=>(k,v)::jP (k+1) r
theorem Ff:∀(l:List Value) (k t:Nat) (v:Value),look (jP k l) t=some v->k<=t/\l[t-k]?=some v:=by
 intro l
 induction l with
 |nil=>intro k t v h;simp[jP,look]at h
 |cons x r ih=>
  intro k t v h;simp only[jP,look]at h;cases hb:Nat.beq k t with
  |true=>rw[hb]at h;cases h;have:=Nat.eq_of_beq_eq_true hb;subst this;simp
  |false=>
   rw[hb]at h;obtain⟨h1,h2⟩:=ih _ _ _ h;refine⟨by omega, ?_⟩;rw[show t-k=(t-(k+1))+1 from by omega]
   simpa using h2
theorem Di (args:List Value)(n:Nat)(hn:args.length<=n):Env n [] (jP 0 args) {tmps:=args.toArray++Array.replicate (n-args.toArray.size) undef,defers:= []}:=by
 refine⟨by simp;omega,rfl,λt v h=> ?_⟩;obtain⟨_,h2⟩:=Ff _ _ _ _ h;have cL:t<args.length:=by
  rcases Nat.lt_or_ge t args.length with q|q
  ·exact q
  rw[List.getElem?_eq_none (show args.length<=t-0 from by omega)]at h2;cases h2
 simp only[Nat.sub_zero]at h2;rw[Array.getElem?_append_left (by simpa using cL)]
 simpa using h2
theorem ag{f:FuncId}{fn:Func}{c:Code}{args:List Value}{pre:Hp->Prop}{R:Value->List aa->Prop}{m:Nat}(hf:P.funcs[f]?=some fn)(hb:fn.body=some c)(hm:fn.ntmps=m)(hn:Nat.ble args.length m=true)
  (h:∀F:dC,pre F.h->G m [] F (c.wp P (bodyPost P fn λe w'=>∃v H',e= .returned v/\R v H'/\St F H' w')) (jP 0 args) H):aO P f args pre H R:=
 λF w hp s=>calls_of_wp hf hb (by
  subst hm;exact h F hp _ _ (Di args _ (Nat.le_of_ble_eq_true hn)) s)
theorem aiI{fn:Func}{R:Value->List aa->Prop}{t:Nat}{v:Value}{H':List aa}(hr:fn.results= #[.tmp t])(hv:look σ t=some v)(hR:R v H')(hh:∀h,ai H h->ai H' h):
  G n [] F (bodyPost P fn (λe w'=>∃v H',e= .returned v/\R v H'/\St F H' w') .ret) σ H:=
 .mk λa w e s=>⟨e.defers,v,by rw[results_tmp hr,show a.tmps.getD t undef=v from by simp[e.slot t v hv]],v,H',rfl,hR,s.sub hh⟩
theorem aeI{fn:Func}{R:Value->List aa->Prop}{H':List aa}(hr:fn.results= #[])(hR:R (.tuple #[]) H')(hh:∀h,ai H h->ai H' h):
  G n [] F (bodyPost P fn (λe w'=>∃v H',e= .returned v/\R v H'/\St F H' w') .ret) σ H:=
 .mk λa w e s=>⟨e.defers,_,results_none hr _ _ _,_,H',rfl,hR,s.sub hh⟩
theorem aeJ{fn:Func}{R:Value->List aa->Prop}{H':List aa}(hr:fn.results= #[])(hR:R (.tuple #[]) H')(hh:∀h,ai H h->ai H' h):
  G n [] F (bodyPost P fn (λe w'=>∃v H',e= .returned v/\R v H'/\St F H' w') .normal) σ H:=
 .mk λa w e s=>⟨e.defers,_,results_none hr _ _ _,_,H',rfl,hR,s.sub hh⟩
theorem aeH{fn:Func}{R:Value->List aa->Prop}{t u:Nat}{v x:Value}{H':List aa}(hr:fn.results= #[.tmp t, .tmp u])(hv:look σ t=some v)(hx:look σ u=some x)(hR:R (.tuple #[v,x]) H')
  (hh:∀h,ai H h->ai H' h):G n [] F (bodyPost P fn (λe w'=>∃v H',e= .returned v/\R v H'/\St F H' w') .ret) σ H:=
 .mk λa w e s=>⟨e.defers,_,by rw[results_tmp2 hr,show a.tmps.getD t undef=v from by simp[e.slot t v hv],show a.tmps.getD u undef=x from by simp[e.slot u x hx]],_,H',rfl,hR,s.sub hh⟩
end rules
end Go.dG
namespace Go.dG
open Go
inductive iI:List aa->List aa->List aa->Prop
 |nil {X:List aa}:iI X [] X
 |cons {X:List aa} {A:aa} {As R R':List aa} (s:fD X A R) (t:iI R As R'):iI X (A::As) R'
theorem iI.out{H As R:List aa}(s:iI H As R):∀h,ai H h->ai (As++R) h:=by
 induction s with
 |nil=>exact λh x=>x
 |cons s _ ih=>exact λh x=>aK ih (s.out h x)
def db (P:Program)(t:TypeId):Bool:=
 match P.underlying t,P.info? t with
 |some (.struct _),_=>false
 |some (.array _ _),_=>false
 |some _,some i=>i.size==1
 |_,_=>false
def cG (P:Program)(t:TypeId):Option Nat:=
 match P.underlying t with
 |some (.struct _)=>(P.info? t).map (·.size)
 |some (.array _ _)=>(P.info? t).map (·.size)
 |_=>none
def ak (P:Program)(s f:Nat):Option Nat:=
 match P.underlying s with
 |some (.struct fs)=>match fs[f]? with
  |some f=>match P.info? f.type with
   |some i=>if i.size=0 then none else some f.offset
   |none=>none
  |none=>none
 |_=>none
def dK (P:Program)(t:TypeId):Option (TypeId×Nat):=
 match P.underlying t with
 |some (.slice e)=>match P.info? e with
  |some i=>some (e,i.size)
  |none=>none
 |_=>none
section
variable {P:Program} {w:World}
theorem qI{t:TypeId}(h:db P t=true):(isAgg t).run P w= .ok false w/\(sizeOf t).run P w= .ok 1 w:=by
 unfold db at h;cases hu:P.underlying t with
 |none=>simp[hu]at h
 |some d=>
  cases hi:P.info? t with
  |none=>simp[hu,hi]at h;cases d<;>simp at h
  |some i=>
   cases d<;>simp[hu,hi]at h<;>simp[isAgg,run_underlying hu,sizeOf,typeInfo,hi,h]
theorem fy{t:TypeId}{k:Nat}(h:cG P t=some k):(isAgg t).run P w= .ok true w/\(sizeOf t).run P w= .ok k w:=by
 unfold cG at h;cases hu:P.underlying t with
 |none=>simp[hu]at h
 |some d=>
  cases hi:P.info? t with
  |none=>cases d<;>simp[hu,hi]at h
  |some i=>cases d<;>simp[hu,hi]at h<;>simp[isAgg,run_underlying hu,sizeOf,typeInfo,hi,h]
theorem vS{s f k:Nat}(h:ak P s f=some k)(a:Addr):(Instr.fieldAt s (.pointer (some a)) f).run P w= .ok (.pointer (some (a.add k))) w:=by
 unfold ak at h;cases hu:P.underlying s with
 |none=>simp[hu]at h
 |some d=>
  cases d<;>simp[hu]at h
  rename_i fs
  cases hf:fs[f]? with
  |none=>simp[hf]at h
  |some fd=>
   simp only[hf]at h;cases hi:P.info? fd.type with
   |none=>simp[hi]at h
   |some i=>
    simp only[hi]at h;by_cases h0:i.size=0
    ·simp[h0]at h
    simp only[h0,if_false,Option.some.injEq]at h;simp[Instr.fieldAt,run_underlying hu,hf,Instr.sureAddr,fieldPlace,sizeOf,typeInfo,hi,h0,h]
theorem kJ{t e k:Nat}(h:dK P t=some (e,k)):P.underlying t=some (.slice e)/\∃i,P.info? e=some i/\i.size=k:=by
 unfold dK at h;cases hu:P.underlying t with
 |none=>simp[hu]at h
 |some d=>
  cases d<;>simp[hu]at h
  rename_i e'
  cases hi:P.info? e' with
  |none=>simp[hi]at h
  |some i=>simp[hi]at h;obtain⟨rfl,rfl⟩:=h;exact⟨rfl,i,hi,rfl⟩
theorem add_lit (b i k:Nat):(⟨b,i,none⟩:Addr).add k=⟨b,i+k,none⟩:=by unfold Addr.add;split<;>simp_all
theorem add_add (a:Addr)(l k:Nat):(a.add l).add k=a.add (l+k):=by
 obtain⟨b,o,s⟩:=a;unfold Addr.add;by_cases hl:l=0
 ·subst hl;simp
 by_cases hk:k=0
 ·subst hk;simp
 simp[hl,hk,show l+k≠0 from by omega,Nat.add_assoc]
theorem add_zero' (a:Addr):a.add 0=a:=by simp[Addr.add]
end
section rules
variable {P:Program} {n:Nat} {ds:List Deferred} {F:dC} {Q:Exit->Act->World->Prop} {K:Act->World->Prop} {σ:aZ} {H:List aa} {o:Oper} {d:Nat}
theorem sf{v:Value}(hd:o.dst=some d)(hdn:Nat.blt d n=true)(hr:∀a w,Env n ds σ a->St F H w->(execOp a.eval o).run P w= .ok (.value v) w)
  (h:G n ds F K ((d,v)::σ) H):G n ds F (λa w=>o.wp P a w K Q) σ H:=by
 refine .mk λa w e s=> ?_;unfold Oper.wp;rw[hr a w e s,Oper.upon_value,hd];exact h _ _ (e.put hdn v) s
def Yv (P:Program)(n:Nat)(ds:List Deferred)(F:dC)(σ:aZ)(o:Oper)(v:Value):Prop:=
 ∀a w,Env n ds σ a->Le F.h (j7 w)->(execOp a.eval o).run P w= .ok (.value v) w
theorem agH{v:Value}(hy:Yv P n ds F σ o v)(hd:o.dst=some d)(hdn:Nat.blt d n=true)(h:G n ds F K ((d,v)::σ) H):G n ds F (λa w=>o.wp P a w K Q) σ H:=
 sf hd hdn (λa w e s=>hy a w e s.frame) h
theorem abX{x:Operand}{v:Value}(ho:o.op= .move x)(hx:bJ σ x=some v):Yv P n ds F σ o (v):=
 λa w e fr=>by simp[execOp,ho,e.eval hx]
theorem R5{x:Operand}{v:Value}(ho:o.op= .assign x)(hx:bJ σ x=some v):Yv P n ds F σ o (v):=
 λa w e fr=>by simp[execOp,ho,e.eval hx]
theorem RX{c x y:Operand}{b:Bool}{v:Value}(ho:o.op= .pick c x y)(hc:bJ σ c=some (.bool b))(hb:b=true)(hx:bJ σ x=some v):Yv P n ds F σ o (v):=
 λa w e fr=>by simp[execOp,ho,e.eval hc,e.eval hx,hb,asBool]
theorem RY{c x y:Operand}{b:Bool}{v:Value}(ho:o.op= .pick c x y)(hc:bJ σ c=some (.bool b))(hb:b=false)(hx:bJ σ y=some v):Yv P n ds F σ o (v):=
 λa w e fr=>by simp[execOp,ho,e.eval hc,e.eval hx,hb,asBool]
theorem Ht{x:Operand}{ad:Addr}(ho:o.op= .nilCheck x)(hx:bJ σ x=some (.pointer (some ad))):Yv P n ds F σ o (.pointer (some ad)):=
 λa w e fr=>by simp[execOp,ho,e.eval hx]
theorem EX{s f k b i:Nat}{x:Operand}(hk:ak P s f=some k)(ho:o.op= .fieldAddr s x f)(hx:bJ σ x=some (.pointer (some ⟨b,i,none⟩))):Yv P n ds F σ o (.pointer (some ⟨b,i+k,none⟩)):=
 λa w e fr=>by simp[execOp,ho,e.eval hx,vS hk,add_lit]
theorem wq{s f k j:Nat}{x:Operand}{a:Option Addr}(hk:ak P s f=some k)(ho:o.op= .fieldAddr s x f)(hx:bJ σ x=some (.pointer (a.map (·.add j))))(hs:a.isSome=true):Yv P n ds F σ o (.pointer (a.map (·.add (j+k)))):=by
 obtain⟨ad,rfl⟩:=Option.isSome_iff_exists.1 hs;exact λa w e _=>by simp[execOp,ho,e.eval hx,vS hk,add_add]
theorem KS{x:Operand}{i:Nat}{vs:Array Value}{v:Value}(ho:o.op= .extract x i)(hx:bJ σ x=some (.tuple vs))(hv:vs.toList[i]?=some v):Yv P n ds F σ o (v):=
 λa w e fr=>by
  have Oy:vs[i]?=some v:=by simpa using hv
  simp[execOp,ho,e.eval hx,Instr.extract,Oy]
theorem ahn{t:TypeId}{x:Operand}{b:Bool}(ho:o.op= .unOp .not t x)(hx:bJ σ x=some (.bool b)):Yv P n ds F σ o (.bool (!b)):=
 λa w e fr=>by simp[execOp,ho,e.eval hx,Op.unary]
theorem aho{t:TypeId}{x:Operand}{k:IntKind}{i z:Int}(ho:o.op= .unOp .neg t x)(hx:bJ σ x=some (.int k i))(hz:k.wrap (0-i)=z):Yv P n ds F σ o (.int k z):=
 λa w e fr=>by simp[execOp,ho,e.eval hx,Op.unary,Op.intArith,<-hz]
theorem wrap_i64{z:Int}(h: -9223372036854775808<=z/\z<=9223372036854775807):IntKind.i64.wrap z=z:=IntWalk.i64_in z h
theorem wrap_u64{z:Int}(h:0<=z/\z<=18446744073709551615):IntKind.u64.wrap z=z:=by
 unfold IntKind.wrap;simp only[IntKind.bits,IntKind.signed,Bool.false_and,Bool.false_eq_true,if_false];omega
theorem wrap_u32{z:Int}(h:0<=z/\z<=4294967295):IntKind.u32.wrap z=z:=by
 unfold IntKind.wrap;simp only[IntKind.bits,IntKind.signed,Bool.false_and,Bool.false_eq_true,if_false];omega
theorem wrap_u16{z:Int}(h:0<=z/\z<=65535):IntKind.u16.wrap z=z:=by
 unfold IntKind.wrap;simp only[IntKind.bits,IntKind.signed,Bool.false_and,Bool.false_eq_true,if_false];omega
theorem wrap_u8{z:Int}(h:0<=z/\z<=255):IntKind.u8.wrap z=z:=by
 unfold IntKind.wrap;simp only[IntKind.bits,IntKind.signed,Bool.false_and,Bool.false_eq_true,if_false];omega
theorem wrap_i32{z:Int}(h: -2147483648<=z/\z<=2147483647):IntKind.i32.wrap z=z:=IntWalk.i32_in z h
def gG (op:BinOp)(k:IntKind)(x y:Int):Option Int:=
 match op with
 | .add=>some (k.wrap (x+y))
 | .sub=>some (k.wrap (x-y))
 | .mul=>some (k.wrap (x*y))
 | .and=>some (k.wrap (BitVec.ofInt k.bits x&&&BitVec.ofInt k.bits y).toNat)
 | .or=>some (k.wrap (BitVec.ofInt k.bits x|||BitVec.ofInt k.bits y).toNat)
 | .xor=>some (k.wrap (BitVec.ofInt k.bits x^^^BitVec.ofInt k.bits y).toNat)
 | .andNot=>some (k.wrap (BitVec.ofInt k.bits x&&& ~~~BitVec.ofInt k.bits y).toNat)
 | .quo=>if y=0 then none else some (k.wrap (x.tdiv y))
 | .rem=>if y=0 then none else some (x.tmod y)
 |_=>none
def IV (op:BinOp)(x y:Int):Option Bool:=
 match op with
 | .eql=>some (decide (x=y))
 | .neq=>some (!decide (x=y))
 | .lss=>some (decide (x<y))
 | .leq=>some (decide (x<=y))
 | .gtr=>some (decide (y<x))
 | .geq=>some (decide (y<=x))
 |_=>none
theorem LB{op:BinOp}{t:TypeId}{k:IntKind}{x y z:Int}{w:World}(h:gG op k x y=some z):(binOp op t (.int k x) (.int k y)).run P w= .ok (.int k z) w:=by
 cases op<;>simp only[gG]at h<;>try (cases h;done)
 case add=>cases h;simp[binOp,Op.intArith]
 case sub=>cases h;simp[binOp,Op.intArith]
 case mul=>cases h;simp[binOp,Op.intArith]
 case and=>cases h;simp[binOp,Op.intBits]
 case or=>cases h;simp[binOp,Op.intBits]
 case xor=>cases h;simp[binOp,Op.intBits]
 case andNot=>cases h;simp[binOp,Op.intBits]
 all_goals
  split at h
  ·cases h
  rename_i hy
  cases h;simp[binOp,Op.intDiv,hy]
theorem LC{op:BinOp}{t:TypeId}{k:IntKind}{x y:Int}{b:Bool}{w:World}(h:IV op x y=some b):(binOp op t (.int k x) (.int k y)).run P w= .ok (.bool b) w:=by
 cases op<;>simp only[IV]at h<;>(cases h;try simp[binOp,Op.intCmp])
 all_goals (first|rfl|(rw[Bool.eq_iff_iff];simp;done)|skip)
theorem kV{op:BinOp}{t:TypeId}{x y:Operand}{k k':IntKind}{i j:Int}{w:World}:(eqGuard op t x y (.int k i) (.int k' j)).run P w= .ok () w:=by
 unfold eqGuard;cases op<;>simp
theorem xj{op:BinOp}{t yt:TypeId}{x y:Operand}{k:IntKind}{i j z:Int}(ho:o.op= .binOp op t x y yt)(hx:bJ σ x=some (.int k i))(hy:bJ σ y=some (.int k j))(hz:gG op k i j=some z):Yv P n ds F σ o (.int k z):=
 λa w e fr=>by simp[execOp,ho,e.eval hx,e.eval hy,kV,LB hz]
theorem ahs{op:BinOp}{t yt:TypeId}{x y:Operand}{k:IntKind}{i j:Int}{b:Bool}(ho:o.op= .binOp op t x y yt)(hx:bJ σ x=some (.int k i))(hy:bJ σ y=some (.int k j))(hz:IV op i j=some b):Yv P n ds F σ o (.bool b):=
 λa w e fr=>by simp[execOp,ho,e.eval hx,e.eval hy,kV,LC hz]
def Wg (op:BinOp)(k:IntKind)(x y:Int):Option Int:=
 if y<0 then none else
 match op with
 | .shl=>some (k.wrap (x*2^(min y.toNat k.bits)))
 | .shr=>some (x.fdiv (2^(min y.toNat k.bits)))
 |_=>none
theorem agA{op:BinOp}{t yt:TypeId}{x y:Operand}{k k':IntKind}{i j z:Int}(ho:o.op= .binOp op t x y yt)(hx:bJ σ x=some (.int k i))(hy:bJ σ y=some (.int k' j))(hz:Wg op k i j=some z):Yv P n ds F σ o (.int k z):=by
 intro a w e _;unfold Wg at hz;by_cases hj:j<0
 ·simp[hj]at hz
 simp only[hj,if_false]at hz;cases op<;>simp at hz<;>subst hz<;>simp[execOp,ho,e.eval hx,e.eval hy,kV,binOp,Op.shift,hj]
theorem ahm{t yt:TypeId}{x y:Operand}{k k':IntKind}{i j z:Int}{s:Nat}(ho:o.op= .binOp .shl t x y yt)(hx:bJ σ x=some (.int k i))(hy:bJ σ y=some (.int k' j))(hj:j=(s:Int))(hz:k.wrap (i*2^(min s k.bits))=z):Yv P n ds F σ o (.int k z):=by
 subst hj;refine agA ho hx hy ?_;simp only[Wg,if_neg (show¬((s:Int)<0)from by omega),Int.toNat_natCast,hz]
theorem ahl{t yt:TypeId}{x y:Operand}{k k':IntKind}{i j z:Int}{s:Nat}(ho:o.op= .binOp .shr t x y yt)(hx:bJ σ x=some (.int k i))(hy:bJ σ y=some (.int k' j))(hj:j=(s:Int))(hz:i.fdiv (2^(min s k.bits))=z):Yv P n ds F σ o (.int k z):=by
 subst hj;refine agA ho hx hy ?_;simp only[Wg,if_neg (show¬((s:Int)<0)from by omega),Int.toNat_natCast,hz]
theorem abZ{s t:TypeId}{x:Operand}{k k':IntKind}{i z:Int}(ht:P.underlying t=some (.int k))(hs:(P.underlying s).isSome=true)(ho:o.op= .convert s t x)(hx:bJ σ x=some (.int k' i))(hz:k.wrap i=z):Yv P n ds F σ o (.int k z):=by
 intro a w e _;obtain⟨sd,hsd⟩:=Option.isSome_iff_exists.1 hs;simp[execOp,ho,e.eval hx,convert,run_underlying ht,run_underlying hsd,Conv.intToInt,<-hz]
def bD (l:List UInt8):Value:= .string ⟨l.toArray⟩
theorem WC{op:BinOp}{t yt:TypeId}{x y:Operand}{i j:List UInt8}{b:Bool}(ho:o.op= .binOp op t x y yt)(hx:bJ σ x=some (bD i))(hy:bJ σ y=some (bD j))
  (hop:(op= .eql/\b=decide (i=j))\/(op= .neq/\b= !decide (i=j))):Yv P n ds F σ o (.bool b):=by
 intro a w e _;have hb:(i==j)=decide (i=j):=by rw[Bool.eq_iff_iff];simp
 unfold bD at hx hy;rcases hop with⟨rfl,rfl⟩|⟨rfl,rfl⟩<;>simp[execOp,ho,e.eval hx,e.eval hy,eqGuard,binOp,Op.stringOp,hb]
theorem u9{ad:Addr}{v:Value}{t:TypeId}(hs:db P t=true){w:World}(hc:w.cell? ad=some v):(Instr.loadAt t (.pointer (some ad))).run P w= .ok v w:=by
 simp[Instr.loadAt,Instr.sureAddr,loadVar,(qI hs).1,hc]
theorem I4{t:TypeId}{x:Operand}{ad:Addr}{v:Value}(hs:db P t=true)(ho:o.op= .load t x)(hx:bJ σ x=some (.pointer (some ad)))(hv:eZ F.h ad=some v):Yv P n ds F σ o (v):=
 λa w en fr=>by simp[execOp,ho,en.eval hx,u9 hs (nJ fr hv)]
theorem Eb{t:TypeId}{x:Operand}{ad:Addr}{v:Value}(hs:db P t=true)(ho:o.op= .load t x)(hd:o.dst=some d)(hx:bJ σ x=some (.pointer (some ad)))(hv:∀w,St F H w->eZ (j7 w) ad=some v)(hdn:Nat.blt d n=true)
  (h:G n ds F K ((d,v)::σ) H):G n ds F (λa w=>o.wp P a w K Q) σ H:=
 sf hd hdn (λa w en s=>by simp[execOp,ho,en.eval hx,u9 hs (show w.cell? ad=some v from hv w s)]) h
theorem TM{b i k:Nat}{vs:List Value}{t:TypeId}(hs:cG P t=some k){w:World}(hk:vs.length=k)(hc:∀j v,vs[j]?=some v->w.cell? ((⟨b,i,none⟩:Addr).add j)=some v):
  (Instr.loadAt t (.pointer (some ⟨b,i,none⟩))).run P w= .ok (.agg vs.toArray) w:=by
 subst hk;simp[Instr.loadAt,Instr.sureAddr,loadVar,(fy hs).1,(fy hs).2,run_loadCells_list w _ vs hc]
theorem HK{ad:Addr}{v u:Value}{t:TypeId}(hs:db P t=true){w:World}(hc:w.cell? ad=some u)(hf:w.frozen? ad=false)(h1:v.oneCell'=true):(Instr.storeAt t (.pointer (some ad)) v).run P w= .ok () (w.setCell ad v):=by
 have xB:v.cells= #[v]:=by cases v<;>simp[Value.oneCell']at h1<;>rfl
 simp[Instr.storeAt,Instr.sureAddr,storeVar,(qI hs).2,xB,storeCells,add_zero',run_store P w ad v .plain h1,hc,hf]
theorem Ea{t:TypeId}{x y:Operand}{b i:Nat}{e:TypeId}{cs:List Value}{f:aa->List aa}{v:Value}(hs:db P t=true)(ho:o.op= .store t x y)(hd:o.dst=none)(hx:bJ σ x=some (.pointer (some ⟨b,i,none⟩)))(hy:bJ σ y=some v)
  (h1:v.oneCell'=true) (hu:Pos H (af b e cs) f) (hi:i<cs.length) (h:G n ds F K σ (f (af b e (cs.set i v)))):G n ds F (λa w=>o.wp P a w K Q) σ H:=by
 refine .mk λa w en s=> ?_;obtain⟨R,s1,s2⟩:=hu.vW;have sR:=s.vW s1;obtain⟨hh,hp,hl⟩:=sR.get;have eZ:=nJ hl (fJ hp (List.getElem?_eq_getElem hi));have gB:=HK (P:=P) hs eZ (xX hp hi hl) h1;unfold Oper.wp;have:(execOp a.eval o).run P w= .ok .skip (w.setCell ⟨b,i,none⟩ v):=by simp[execOp,ho,en.eval hx,en.eval hy,gB]
 rw[this,Oper.upon_skip,hd];exact h _ _ en ((sR.setCell v).rE (s2 _))
def cZ:List Value->Nat->List Value->List Value
 |cs,_,[]=>cs
 |cs,i,v::vs=>cZ (cs.set i v) (i+1) vs
theorem vN:∀(vs cs:List Value) (i:Nat),(cZ cs i vs).length=cs.length:=by
 intro vs;induction vs with
 |nil=>intro cs i;rfl
 |cons v vs ih=>intro cs i;simp[cZ,ih]
theorem j5{b:Nat}{e:TypeId}{R:List aa}:∀(vs:List Value) (i j:Nat) (cs:List Value) (w:World),St F (af b e cs::R) w->i+j+vs.length<=cs.length->(∀v∈vs,v.oneCell'=true)->
  ∃w',(storeCells ⟨b,i,none⟩ vs j).run P w= .ok () w'/\St F (af b e (cZ cs (i+j) vs)::R) w':=by
 intro vs
 induction vs with
 |nil=>intro i j cs w s _ _;exact⟨w,by simp[storeCells],s⟩
 |cons v vs ih=>
  intro i j cs w s hl h1;simp only[List.length_cons]at hl;obtain⟨hh,hp,hle⟩:=s.get;have cL:i+j<cs.length:=by omega
  have eZ:=nJ hle (fJ hp (List.getElem?_eq_getElem cL));have hf:=xX hp cL hle;have h1v:=h1 v (by simp);obtain⟨w',hr,s'⟩:=ih i (j+1) (cs.set (i+j) v) _ (s.setCell (i:=i+j) v) (by simp;omega) (λu hu=>h1 u (by simp[hu]));refine⟨w', ?_, ?_⟩
  ·simp[storeCells,add_lit,run_store P w _ v .plain h1v,eZ,hf,hr]
  simpa[cZ,Nat.add_assoc]using s'
theorem uY{t k:TypeId}{x y:Operand}{b i:Nat}{e:TypeId}{cs vs:List Value}{f:aa->List aa}(hs:cG P t=some k)(ho:o.op= .store t x y)(hd:o.dst=none)(hx:bJ σ x=some (.pointer (some ⟨b,i,none⟩)))(hy:bJ σ y=some (.agg vs.toArray))
  (hk:vs.length=k) (h1:∀v∈vs,v.oneCell'=true) (hu:Pos H (af b e cs) f) (hi:i+vs.length<=cs.length) (h:G n ds F K σ (f (af b e (cZ cs i vs)))):G n ds F (λa w=>o.wp P a w K Q) σ H:=by
 refine .mk λa w en s=> ?_;obtain⟨R,s1,s2⟩:=hu.vW;obtain⟨w',hr,s'⟩:=j5 (P:=P) vs i 0 cs w (s.vW s1) (by omega) h1;unfold Oper.wp;have:(execOp a.eval o).run P w= .ok .skip w':=by
  simp[execOp,ho,en.eval hx,en.eval hy,Instr.storeAt,Instr.sureAddr,storeVar,(fy hs).2,Value.cells,hk,hr]
 rw[this,Oper.upon_skip,hd];exact h _ _ en (s'.rE (s2 _))
theorem ac2{t:TypeId}{x:Operand}{v:Value}{cs:List Value}(ho:o.op= .box t x)(hd:o.dst=some d)(hx:bJ σ x=some v)(hc:v.cells=cs.toArray)(hdn:Nat.blt d n=true)
  (h:∀b,G n ds F K ((d, .pointer (some ⟨b,0,none⟩))::σ) (af b t cs::H)):G n ds F (λa w=>o.wp P a w K Q) σ H:=by
 refine .mk λa w en s=> ?_;unfold Oper.wp;have:(execOp a.eval o).run P w= .ok (.value (.pointer (some ⟨w.heap.size,0,none⟩))) (w.alloc (.cells cs.toArray t)):=by
  simp[execOp,ho,en.eval hx,Instr.box,newVar,newRow,hc]
 rw[this,Oper.upon_value,hd];exact h _ _ _ (en.put hdn _) (s.new t cs)
def bX (P:Program)(t:TypeId):Option (List Value):=(P.info? t).bind λi=>i.zero.map λz=>z.cells.toList
theorem qn{t:TypeId}{cs:List Value}(h:bX P t=some cs){w:World}:∃z,(zeroValue t).run P w= .ok z w/\z.cells=cs.toArray:=by
 unfold bX at h;cases hi:P.info? t with
 |none=>simp[hi]at h
 |some i=>
  cases hz:i.zero with
  |none=>simp[hi,hz]at h
  |some z=>
   simp[hi,hz]at h;exact⟨z,by simp[zeroValue,typeInfo,hi,hz],by rw[<-h]⟩
theorem Tk{t:TypeId}{cs:List Value}(hz:bX P t=some cs)(ho:o.op= .alloc t)(hd:o.dst=some d)(hdn:Nat.blt d n=true)
  (h:∀b,G n ds F K ((d, .pointer (some ⟨b,0,none⟩))::σ) (af b t cs::H)):G n ds F (λa w=>o.wp P a w K Q) σ H:=by
 refine .mk λa w en s=> ?_;obtain⟨z,hr,hc⟩:=qn (P:=P) hz (w:=w);unfold Oper.wp;have:(execOp a.eval o).run P w= .ok (.value (.pointer (some ⟨w.heap.size,0,none⟩))) (w.alloc (.cells cs.toArray t)):=by
  simp[execOp,ho,Instr.alloc,newVar,newRow,hr,hc]
 rw[this,Oper.upon_value,hd];exact h _ _ _ (en.put hdn _) (s.new t cs)
def gP:List aa->Hp->Prop
 | [],_=>True
 |A::r,h=>(∃k,A k/\Le k h)/\gP r h
theorem cq:∀{H:List aa} {h k:Hp},ai H h->Le h k->gP H k:=by
 intro H
 induction H with
 |nil=>intro h k _ _;trivial
 |cons A r ih=>intro h k s l;obtain⟨h1,h2,_,l1,l2,a,s⟩:=s;exact⟨⟨h1,a,l1.trans l⟩,ih s (l2.trans l)⟩
theorem bx:∀{A B:List aa} {h:Hp},ai (A++B) h->∃h1 h2,bQ h1 h2/\Le h1 h/\Le h2 h/\ai A h1/\ai B h2:=by
 intro A
 induction A with
 |nil=>intro B h s;exact⟨λ_=>none,h,λ_=> .inl rfl,λb o e=>by simp at e,Le.refl h,trivial,s⟩
 |cons X r ih=>
  intro B h s;obtain⟨h1,h2,d,l1,l2,a,s⟩:=s;obtain⟨h3,h4,d',l3,l4,s3,s4⟩:=ih s;exact⟨fA h1 h3,h4,bQ.fA (d.right l4) d',bY l1 (l3.trans l2),l4.trans l2,⟨h1,h3,d.right l3,aW _ _,aR (d.right l3),a,s3⟩,s4⟩
theorem bK:∀{A B:List aa} {h1 h2:Hp},ai A h1->ai B h2->bQ h1 h2->ai (A++B) (fA h1 h2):=by
 intro A
 induction A with
 |nil=>intro B h1 h2 _ s d;exact eL s (aR d)
 |cons X r ih=>
  intro B h1 h2 s t d;obtain⟨h3,h4,d',l3,l4,a,s⟩:=s;refine⟨h3,fA h4 h2,(bQ.fA d'.symm (d.left l3).symm).symm,l3.trans (aW _ _),bY (l4.trans (aW _ _)) (aR d),a,ih s t (d.left l4)⟩
theorem D1{ρ:Operand->Value}{f:FuncId}{xs:List Operand}{vs:List Value}{rT:Array TypeId}{w:World}{fn:Func}(ho:o.op= .call {callee:= .value (.func f),args:=xs.toArray,argTypes:=rT})
  (hρ:ρ (.func f)= .func (.func f) #[] #[]) (hv:xs.map ρ=vs) (hf:P.funcs[f]?=some fn) (hb:fn.body.isSome=true) (hnm:(fn.name== "runtime.NumGoroutine")=false):
  (execOp ρ o).run P w= .ok (.enter f vs.toArray) w:=by
 have ah7:fn.body.isNone=false:=by rw[<-Option.not_isSome,hb];rfl
 have abk:¬fn.name= "runtime.NumGoroutine" :=by simpa using hnm
 have hb':¬fn.body=none:=by intro q;rw[q]at hb;cases hb
 simp[execOp,ho,resolve,hρ,Deferred.ofValue,invoke,callFunc,hf,<-hv];rw[if_neg abk,if_neg hb']
def aC (P:Program)(f:FuncId):Bool:=match P.funcs[f]? with|some fn=>fn.body.isSome&& !(fn.name== "runtime.NumGoroutine")|none=>false
theorem XL{f:FuncId}{xs:List Operand}{vs:List Value}{rT:Array TypeId}{pre:Hp->Prop}{As R:List aa}{T:Value->List aa->Prop}(kW:aC P f=true)(ho:o.op= .call {callee:= .value (.func f),args:=xs.toArray,argTypes:=rT})
  (hd:o.dst=some d) (hv:ki σ xs=some vs) (hc:aO P f vs pre As T) (de:iI H As R) (iH:∀h,Le F.h h->gP R h->pre h) (hdn:Nat.blt d n=true)
  (h:∀v H',T v H'->G n ds F K ((d,v)::σ) (H'++R)):G n ds F (λa w=>o.wp P a w K Q) σ H:=by
 refine .mk λa w en s=> ?_;unfold aC at kW;cases hf:P.funcs[f]? with
 |none=>simp[hf]at kW
 |some fn=>
  simp only[hf,Bool.and_eq_true,Bool.not_eq_true']at kW;unfold Oper.wp;rw[D1 ho rfl (en.vD hv) hf kW.1 kW.2,Oper.upon_enter];obtain⟨a1,a2,a3,fr,hh,st,hl,rA⟩:=s;obtain⟨h1,h2,d12,l1,l2,s1,s2⟩:=bx (de.out _ st);have vu:bQ h2 F.h:=rA.left l2
  let F':dC:={F with h:=fA h2 F.h}
  have ia:Le F.h F'.h:=aR vu;have ib:Le h2 F'.h:=aW _ _;have wY:St F' As w:=⟨a1,a2,a3,bY (l2.trans hl) fr,h1,s1,l1.trans hl,(bQ.fA d12.symm (rA.left l1).symm).symm⟩;refine(hc F' w (iH _ ia (cq s2 ib)) wY).mono ?_;rintro e w' ⟨v,H',rfl,hT,sw⟩;obtain⟨b1,b2,b3,rC,yZ,st2,yW,kf⟩:=sw;rw[hd];refine h v H' hT _ _ (en.put hdn v) ⟨b1,b2,b3,ia.trans rC,fA yZ h2,bK st2 s2 (kf.right ib),bY yW (ib.trans rC),bQ.fA (kf.right ia) vu⟩
end rules
end Go.dG
namespace Go.dG
open Go
def gg (h:Hp)(a:Option Addr)(cells:List Value):Prop:=∀k v,cells[k]?=some v->∃ad,a=some ad/\eZ h (ad.add k)=some v
theorem gg.nil{h:Hp}{a:Option Addr}:gg h a []:=λk v e=>by simp at e
theorem gg.mono{h k:Hp}{a:Option Addr}{cells:List Value}(r:gg h a cells)(l:Le h k):gg k a cells:=λj v e=>by
 obtain⟨ad,h1,h2⟩:=r j v e;exact⟨ad,h1,cU l h2⟩
theorem gg.some{h:Hp}{a:Option Addr}{cells:List Value}(r:gg h a cells)(fN:0<cells.length):a.isSome=true:=by
 obtain⟨ad,h1,_⟩:=r 0 _ (List.getElem?_eq_getElem fN);simp[h1]
theorem gg.take{h:Hp}{a:Option Addr}{cells:List Value}(r:gg h a cells)(k:Nat):gg h a (cells.take k):=λj v e=>by
 rw[List.getElem?_take]at e
 split at e
 ·exact r j v e
 cases e
def Be (a:Option Addr)(l m k:Nat):Option Addr:=if m=l then a else a.map (·.add k)
structure own (a:Option Addr)(cap:Nat)(e:TypeId)(sz:Nat)(xs:List Value)(h:Hp):Prop where
 fits:xs.length<=cap*sz
 aI:cap<=maxLen
 block:(a=none/\cap=0)\/∃b spare,a=some ⟨b,0,none⟩/\xs.length+spare.length=cap*sz/\af b e (xs++spare) h
theorem qz{b i:Nat}{e:TypeId}{cs:List Value}{h:Hp}(p:af b e cs h):gg h (some ⟨b,i,none⟩) (cs.drop i):=λk v hv=>by
 rw[List.getElem?_drop]at hv;exact⟨_,rfl,by rw[add_lit];exact fJ p hv⟩
theorem oD{a:Option Addr}{cap:Nat}{e:TypeId}{sz:Nat}{xs:List Value}{h:Hp}(o:own a cap e sz xs h):gg h a xs:=by
 obtain⟨h1,_,h3|⟨b,sp,rfl,_,h5⟩⟩:=o
 ·obtain⟨rfl,rfl⟩:=h3
  have:xs= []:=List.eq_nil_of_length_eq_zero (by omega);subst this;exact gg.nil
 intro k v hv;refine⟨_,rfl, ?_⟩;rw[add_lit,Nat.zero_add];exact fJ h5 (by rw[List.getElem?_append_left (by have:=(List.getElem?_eq_some_iff.1 hv).1;exact this)];exact hv)
theorem Cc (e:TypeId)(sz:Nat)(h:Hp):own none 0 e sz [] h:=⟨by simp,by simp[maxLen], .inl ⟨rfl,rfl⟩⟩
theorem oP{b:Nat}{e:TypeId}{cs:List Value}{h:Hp}(p:af b e cs h)(cap sz:Nat)(hc:cs.length=cap*sz)(hm:cap<=maxLen):own (some ⟨b,0,none⟩) cap e sz cs h:=
 ⟨by omega,hm, .inr ⟨b,[],rfl,by simpa using hc,by simpa using p⟩⟩
theorem xZ{a:Option Addr}{cap:Nat}{e:TypeId}{sz:Nat}{xs:List Value}{h:Hp}(o:own a cap e sz xs h)(k:Nat):own a cap e sz (xs.take k) h:=by
 obtain⟨h1,h2,h3|⟨b,sp,rfl,h4,h5⟩⟩:=o
 ·exact⟨by simp;omega,h2, .inl h3⟩
 refine⟨by simp;omega,h2, .inr ⟨b,xs.drop k++sp,rfl,by simp;omega, ?_⟩⟩;rw[<-List.append_assoc,List.take_append_drop];exact h5
theorem rN{H:List aa}(e:TypeId)(sz:Nat){h:Hp}(s:ai H h):ai (own none 0 e sz []::H) h:=
 ⟨λ_=>none,h,λ_=> .inl rfl,λb o x=>by simp at x,Le.refl h,Cc e sz _,s⟩
theorem gx{H:List aa}{A:aa}(hA:∀h,A h){h:Hp}(s:ai H h):ai (A::H) h:=
 ⟨λ_=>none,h,λ_=> .inl rfl,λb o x=>by simp at x,Le.refl h,hA _,s⟩
section rules
variable {P:Program} {n:Nat} {ds:List Deferred} {F:dC} {Q:Exit->Act->World->Prop} {K:Act->World->Prop} {σ:aZ} {H:List aa} {o:Oper} {d:Nat}
theorem dw (e:TypeId)(sz:Nat)(h:G n ds F K σ (own none 0 e sz []::H)):G n ds F K σ H:=au (λ_ s=>rN e sz s) h
theorem ahr{t:TypeId}{x:Operand}{a:Option Addr}{l c:Nat}{ek:TypeId×Nat}(ht:dK P t=some ek)(ho:o.op= .call {callee:= .builtin .len,args:= #[x],argTypes:= #[t]})(hx:bJ σ x=some (.slice a l c)):Yv P n ds F σ o (.int .i64 l):=
 λa w e fr=>by
  obtain⟨e',k⟩:=ek;simp[execOp,ho,resolve,invoke,builtin,Builtin.len_,e.eval hx,run_underlying (kJ ht).1,goInt]
theorem abY{t:TypeId}{x:Operand}{l:List UInt8}(ht:P.underlying t=some .string)(ho:o.op= .call {callee:= .builtin .len,args:= #[x],argTypes:= #[t]})(hx:bJ σ x=some (bD l)):Yv P n ds F σ o (.int .i64 l.length):=
 λa w e fr=>by
  unfold bD at hx;have uo:(ByteArray.mk l.toArray).size=l.length:=by show l.toArray.size=l.length;simp
  simp[execOp,ho,resolve,invoke,builtin,Builtin.len_,e.eval hx,run_underlying ht,goInt,uo]
theorem ahp{x y:Operand}{k:IntKind}{i j:Int}{rT:Array TypeId}(ho:o.op= .call {callee:= .builtin .min,args:= #[x,y],argTypes:=rT})(hx:bJ σ x=some (.int k i))(hy:bJ σ y=some (.int k j)):Yv P n ds F σ o (.int k (min i j)):=
 λa w e fr=>by
  have:(if j<i then j else i)=min i j:=by omega
  simp[execOp,ho,resolve,invoke,builtin,Builtin.min_,Builtin.min2,e.eval hx,e.eval hy,this]
theorem ahq{x y:Operand}{k:IntKind}{i j:Int}{rT:Array TypeId}(ho:o.op= .call {callee:= .builtin .max,args:= #[x,y],argTypes:=rT})(hx:bJ σ x=some (.int k i))(hy:bJ σ y=some (.int k j)):Yv P n ds F σ o (.int k (max i j)):=
 λa w e fr=>by
  have:(if j>i then j else i)=max i j:=by omega
  simp[execOp,ho,resolve,invoke,builtin,Builtin.max_,Builtin.max2,e.eval hx,e.eval hy,this]
theorem I5{t e sz m:Nat}{x y:Operand}{a:Option Addr}{l c j:Nat}{k:IntKind}{i:Int}(ht:dK P t=some (e,sz))(ho:o.op= .indexAddr t x y)(hx:bJ σ x=some (.slice a l c))(hy:bJ σ y=some (.int k i))
  (hj:i=(j:Int)) (hl:j<l) (hm:j*sz=m) (hs:a.isSome=true):Yv P n ds F σ o (.pointer (a.map (·.add m))):=
 λa w en fr=>by
  obtain⟨hu,inf,hi,hz⟩:=kJ ht;obtain⟨ad,rfl⟩:=Option.isSome_iff_exists.1 hs;subst hj;subst hm;simp[execOp,ho,Instr.indexAt,en.eval hx,en.eval hy,asIntOf,run_underlying hu,sizeOf,typeInfo,hi,hz,hl]
def C6 (σ:aZ):Option Operand->Nat->Nat->Prop
 |none,dflt,v=>v=dflt
 |some x,_,v=>∃k i,bJ σ x=some (.int k i)/\i=(v:Int)
theorem ie{x:Value}{y v:Nat}{code:BoundsCode}{k:IntKind}{i:Int}{w:World}(hx:x= .int k i)(hi:i=(v:Int))(hv:v<=y):(Instr.sliceBound x y code).run P w= .ok v w:=by
 subst hx;subst hi;simp[Instr.sliceBound,asIntOf,hv]
theorem yv{lo hi mx:Option Operand}{a:Act}{w:World}{len cap l h m:Nat}(en:Env n ds σ a)(hl:C6 σ lo 0 l)(hh:C6 σ hi len h)(hm:C6 σ mx cap m)(h1:l<=h)(h2:h<=m)(h3:m<=cap)(hx:mx.isSome=true->hi.isSome=true)(b:Bool):
  (Instr.sliceBounds b len cap (lo.map a.eval) (hi.map a.eval) (mx.map a.eval)).run P w= .ok (l,h,m) w:=by
 unfold Instr.sliceBounds;cases mx with
 |none=>
  simp only[C6]at hm;subst hm;cases hi with
  |none=>
   simp only[C6]at hh;subst hh;cases lo with
   |none=>simp only[C6]at hl;subst hl;simp
   |some x=>obtain⟨k,i,e,e2⟩:=hl;simp[ie (en.eval e) e2 h1]
  |some y=>
   obtain⟨k',i',e',e2'⟩:=hh;cases lo with
   |none=>simp only[C6]at hl;subst hl;simp[ie (en.eval e') e2' h2]
   |some x=>obtain⟨k,i,e,e2⟩:=hl;simp[ie (en.eval e') e2' h2,ie (en.eval e) e2 h1]
 |some z=>
  obtain⟨k'',i'',e'',ag7⟩:=hm;cases hi with
  |none=>simp at hx
  |some y=>
   obtain⟨k',i',e',e2'⟩:=hh;cases lo with
   |none=>simp only[C6]at hl;subst hl;simp[ie (en.eval e'') ag7 h3,ie (en.eval e') e2' h2]
   |some x=>obtain⟨k,i,e,e2⟩:=hl;simp[ie (en.eval e'') ag7 h3,ie (en.eval e') e2' h2,ie (en.eval e) e2 h1]
theorem WD{t e sz:TypeId}{x:Operand}{lo hi mx:Option Operand}{a:Option Addr}{len cap:Nat}(l hh m:Nat)(ht:dK P t=some (e,sz))(ho:o.op= .slice t x lo hi mx)(hx:bJ σ x=some (.slice a len cap))
  (Zm:C6 σ lo 0 l) (hbh:C6 σ hi len hh) (Zl:C6 σ mx cap m) (h1:l<=hh) (h2:hh<=m) (h3:m<=cap) (FT:mx.isSome=true->hi.isSome=true):Yv P n ds F σ o (.slice (Be a l m (l*sz)) (hh-l) (m-l)):=
 λac w en fr=>by
  obtain⟨hu,inf,yY,hz⟩:=kJ ht;have hr:=yv (P:=P) (w:=w) en Zm hbh Zl h1 h2 h3 FT true;simp[execOp,ho,Instr.sliceAt,Instr.slice,en.eval hx,run_underlying hu,hr,sizeOf,typeInfo,yY,hz,Be]
def ax (l:List UInt8):List Value:=l.map λc=> .int .u8 c.toNat
@[simp] theorem rO (l : List UInt8) : (ax l).length = l.length := by simp [ax]
theorem eO{l:List UInt8}:∀v∈ax l,v.oneCell'=true:=by
 intro v hv;simp only[ax,List.mem_map]at hv;obtain⟨c,_,rfl⟩:=hv;rfl
theorem tY{a:Option Addr}{l:List UInt8}{c:Nat}{w:World}(hr:gg (j7 w) a (ax l)):(Conv.bytesToString (.slice a l.length c)).run P w= .ok (bD l) w:=by
 cases a with
 |none=>
  have:l= []:=by
   cases l with
   |nil=>rfl
   |cons x r=>obtain⟨ad,h1,_⟩:=hr 0 (.int .u8 x.toNat) (by simp[ax]);cases h1
  subst this;simp[Conv.bytesToString,bD];rfl
 |some ad=>
  have xB:∀j v,(ax l)[j]?=some v->w.cell? (ad.add j)=some v:=λj v e=>by
   obtain⟨ad',h1,h2⟩:=hr j v e;cases h1;exact h2
  have Z1:=run_loadCells_list (P:=P) w ad (ax l) xB;rw[rO]at Z1;have h:=run_bytesToString (P:=P) w ad l.length c (l.map λx=>(x.toNat:Int)) (by rw[Z1];simp[ax]);rw[h];have key:∀(l:List UInt8) (acc:ByteArray),(l.map λx=>(x.toNat:Int)).foldl (λr q=>r.push (UInt8.ofNat q.toNat)) acc=⟨acc.data++l.toArray⟩:=by
   intro l
   induction l with
   |nil=>intro acc;simp
   |cons x r ih=>
    intro acc;simp only[List.map_cons,List.foldl_cons,ih];apply ByteArray.ext;apply Array.ext';simp[ByteArray.push]
  rw[key];simp[bD]
theorem Hs{s t:TypeId}{x:Operand}{a:Option Addr}{l:List UInt8}{m c sz:Nat}{e:TypeId}(hs:dK P s=some (e,sz))(he:P.underlying e=some (.int .u8))(ht:P.underlying t=some .string)(ho:o.op= .convert s t x)
  (hx:bJ σ x=some (.slice a m c)) (hm:m=l.length) (hr:gg F.h a (ax l)):Yv P n ds F σ o (bD l):=λac w en fr=>by
 subst hm;have hr':=tY (P:=P) (c:=c) (hr.mono fr);have:=run_underlying (P:=P) (kJ hs).1 w;cases a with
 |none=>simp[execOp,ho,en.eval hx,convert,this,run_underlying ht,run_underlying he,hr']
 |some ad=>simp[execOp,ho,en.eval hx,convert,this,run_underlying ht,run_underlying he,hr']
theorem WE{s t:TypeId}{x:Operand}{l:List UInt8}(hs:P.underlying s=some .string)(ht:P.underlying t=some .string)(ho:o.op= .convert s t x)(hx:bJ σ x=some (bD l)):Yv P n ds F σ o (bD l):=λac w en fr=>by
 unfold bD at hx⊢;simp[execOp,ho,en.eval hx,convert,run_underlying hs,run_underlying ht]
def FG (l:List UInt8)(i:Nat):Nat:=(l.getD i 0).toNat
theorem aeW (l:List UInt8)(i:Nat):FG l i<256:=(l.getD i 0).toNat_lt
theorem N4{l:List UInt8}{i:Nat}(h:i<l.length):(ax l)[i]?=some (.int .u8 (FG l i:Int)):=by
 simp[ax,FG,h]
theorem gg.Qe{h:Hp}{a:Option Addr}{l:List UInt8}(r:gg h a (ax l))(hl:0<l.length):a.isSome=true:=r.some (by simpa using hl)
end rules
end Go.dG
namespace Go.dG
open Go
def ux (P:Program)(t:TypeId):Option (TypeId×Nat×Nat×List Value):=
 match P.underlying t with
 |some (.slice e)=>match P.info? e with
  |some i=>match i.zero with
   |some z=>if z.cells.size=i.size&&0<i.size then some (e,i.size,i.bytes,z.cells.toList)else none
   |none=>none
  |none=>none
 |_=>none
theorem nN{P:Program}{t e sz nt:Nat}{z:List Value}(h:ux P t=some (e,sz,nt,z)):
  P.underlying t=some (.slice e)/\0<sz/\z.length=sz/\∃i zv,P.info? e=some i/\i.size=sz/\i.bytes=nt/\i.zero=some zv/\zv.cells=z.toArray:=by
 unfold ux at h;cases hu:P.underlying t with
 |none=>simp[hu]at h
 |some d=>
  cases d<;>simp[hu]at h
  rename_i e'
  cases hi:P.info? e' with
  |none=>simp[hi]at h
  |some i=>
   simp only[hi]at h;cases hz:i.zero with
   |none=>simp[hz]at h
   |some zv=>
    simp only[hz]at h
    split at h
    ·rename_i hc
     simp only[Bool.and_eq_true,decide_eq_true_eq,Option.some.injEq,Prod.mk.injEq]at h hc;obtain⟨rfl,rfl,rfl,rfl⟩:=h;exact⟨rfl,hc.2,by simpa using hc.1,i,zv,hi,rfl,rfl,hz,by simp⟩
    cases h
theorem mR:∀(vs pre VB post:List Value),VB.length=vs.length->cZ (pre++(VB++post)) pre.length vs=pre++(vs++post):=by
 intro vs
 induction vs with
 |nil=>intro pre VB post h;have:VB= []:=List.eq_nil_of_length_eq_zero (by simpa using h);subst this;rfl
 |cons v vs ih=>
  intro pre VB post h;cases VB with
  |nil=>simp at h
  |cons m VB=>
   simp only[cZ,List.cons_append];have h1:(pre++m::(VB++post)).set pre.length v=(pre++ [v])++(VB++post):=by
    rw[List.set_append_right _ _ (Nat.le_refl _)];simp
   have h2:pre.length+1=(pre++ [v]).length:=by simp
   rw[h1,h2,ih (pre++ [v]) VB post (by simpa using h)];simp
theorem mN{cs vs:List Value}{i:Nat}(h:i+vs.length<=cs.length):cZ cs i vs=cs.take i++(vs++cs.drop (i+vs.length)):=by
 have h1:cs=cs.take i++((cs.drop i).take vs.length++cs.drop (i+vs.length)):=by
  rw[<-List.drop_drop,List.take_append_drop,List.take_append_drop]
 have hl:(cs.take i).length=i:=by simp;omega
 have:=mR vs (cs.take i) ((cs.drop i).take vs.length) (cs.drop (i+vs.length)) (by simp;omega);rw[<-h1,hl]at this;exact this
def Src (P:Program)(F:dC)(H:List aa)(sz m:Nat)(x:Value)(news:List Value):Prop:=
 ∀w,St F H w->(Builtin.lenOf x).run P w= .ok m w/\(∀j,j<=m->(Builtin.firstCells sz j x).run P w= .ok (news.take (j*sz)).toArray w)/\news.length=m*sz
theorem eH{P:Program}{F:dC}{H:List aa}{sz m c:Nat}{a:Option Addr}{news:List Value}(hl:news.length=m*sz)(hr:∀h,Le F.h h->gP H h->gg h a news):Src P F H sz m (.slice a m c) news:=by
 intro w s;obtain⟨hh,st,hle,_⟩:=s.own;have r:=hr (j7 w) s.frame (cq st hle);refine⟨by simp[Builtin.lenOf],λj hj=> ?_,hl⟩;cases a with
 |none=>
  have:news= []:=by
   cases news with
   |nil=>rfl
   |cons x y=>obtain⟨ad,h1,_⟩:=r 0 x (by simp);cases h1
  subst this;simp[Builtin.firstCells]
 |some ad=>
  refine run_firstCells_some w sz j ad m c (news.take (j*sz)) ?_ ?_
  ·rw[List.length_take,hl];exact Nat.min_eq_left (Nat.mul_le_mul_right _ hj)
  intro i v hv;obtain⟨ad',h1,h2⟩:=(r.take (j*sz)) i v hv;cases h1;exact h2
section rules
variable {P:Program} {n:Nat} {ds:List Deferred} {F:dC} {Q:Exit->Act->World->Prop} {K:Act->World->Prop} {σ:aZ} {H:List aa} {o:Oper} {d:Nat}
theorem Fu{t t2 ty:TypeId}{e sz nt:Nat}{z:List Value}(ht:ux P t=some (e,sz,nt,z)){d2:TypeDesc}(qq:P.underlying t2=some d2)(Kx:d2= .string\/∃e2,d2= .slice e2){b off len cap m:Nat}{cs news:List Value}{R:List aa}{x:Value}{w:World}
  (s:St F (af b e cs::R) w) (hs:Src P F (af b e cs::R) sz m x news) (h1:∀v∈news,v.oneCell'=true) (rI:len+m<=cap) (uA:off+(len+m)*sz<=cs.length):
  ∃w',(Builtin.append_ #[t,t2] ty #[.slice (some ⟨b,off,none⟩) len cap,x]).run P w= .ok (.slice (some ⟨b,off,none⟩) (len+m) cap) w'/\St F (af b e (cZ cs (off+len*sz) news)::R) w':=by
 obtain⟨hu,uo,hzl,i,zv,hi,sY,hby,hz,Fz⟩:=nN ht;obtain⟨s1,s2,s3⟩:=hs w s;have Y8:=s2 m (Nat.le_refl _);rw[<-s3,List.take_length]at Y8;obtain⟨w',hr,st⟩:=j5 (P:=P) news (off+len*sz) 0 cs w s (by rw[s3];rw[Nat.add_mul]at uA;omega) h1;refine⟨w', ?_,by simpa using st⟩;rcases Kx with rfl|⟨e2,rfl⟩<;>simp[Builtin.append_,run_underlying hu,run_underlying qq,sizeOf,typeInfo,hi,sY,s1,rI,Y8,add_lit,hr]
theorem Fv{t t2 ty:TypeId}{e sz nt:Nat}{z:List Value}(ht:ux P t=some (e,sz,nt,z)){d2:TypeDesc}(qq:P.underlying t2=some d2)(Kx:d2= .string\/∃e2,d2= .slice e2){a:Option Addr}{len cap m:Nat}{Bb news:List Value}{R:List aa}{x:Value}{w:World}
  (s:St F R w) (ho:Bb.length=len*sz) (hro:gg (j7 w) a Bb) (hs:Src P F R sz m x news) (rI:cap<len+m) (hb:(len+m)*nt<=140737488355328) (h63:len+m<=9223372036854775807):
  ∃w' b zo,(Builtin.append_ #[t,t2] ty #[.slice a len cap,x]).run P w= .ok (.slice (some ⟨b,0,none⟩) (len+m) zo) w'/\len+m<=zo/\zo<=maxLen/\
   ∃sp,(Bb++news).length+sp.length=zo*sz/\St F (af b e ((Bb++news)++sp)::R) w':=by
 obtain⟨hu,uo,hzl,i,zv,hi,sY,hby,hz,Fz⟩:=nN ht;have sd:St F R w.drew:=s.drew;obtain⟨s1,_,s3⟩:=hs w s;obtain⟨_,s2,_⟩:=hs w.drew sd;have Y8:=s2 m (Nat.le_refl _);rw[<-s3,List.take_length]at Y8;have uA:=growslice_fits rI hb;have hold:(Builtin.firstCells sz len (.slice a len cap)).run P w.drew= .ok Bb.toArray w.drew:=by
  cases a with
  |none=>
   have:Bb= []:=by
    cases Bb with
    |nil=>rfl
    |cons x y=>obtain⟨ad,h1,_⟩:=hro 0 x (by simp);cases h1
   subst this;simp[Builtin.firstCells]
  |some ad=>
   refine run_firstCells_some w.drew sz len ad len cap Bb ho ?_;intro j v hv;obtain⟨ad',h1,h2⟩:=hro j v hv;cases h1;exact h2
 have IB:=grownCap_ge w (len+m) cap e;have hle:=grownCap_le_maxLen w (len+m) cap e (by simp only[maxLen];omega);have VF:((Bb++news)).length+(Builtin.zeroCells z.toArray (grownCap w (len+m) cap e-(len+m))).toList.length=grownCap w (len+m) cap e*sz:=by
  have hz':(Builtin.zeroCells z.toArray (grownCap w (len+m) cap e-(len+m))).toList.length=(grownCap w (len+m) cap e-(len+m))*sz:=by
   rw[Array.length_toList,size_zeroCells];simp[hzl]
  rw[hz',List.length_append,ho,s3,<-Nat.add_mul,<-Nat.add_mul]
  congr 1;omega
 refine⟨_,w.heap.size,grownCap w (len+m) cap e, ?_,IB,hle,(Builtin.zeroCells z.toArray (grownCap w (len+m) cap e-(len+m))).toList,VF,sd.new e _⟩;have hn:¬(len+m<=cap):=by omega
 have h63':¬(9223372036854775807<((len:Int)+(m:Int))):=by omega
 have h48':¬(281474976710656<Builtin.nextslicecap (len+m) cap*nt):=by omega
 have hdw:({w with drawn:=w.drawn+1}:World)=w.drew:=rfl;rcases Kx with rfl|⟨e2,rfl⟩<;>simp[Builtin.append_,run_underlying hu,run_underlying qq,sizeOf,typeInfo,hi,sY,hby,s1,hn,h63',h48',Question.forced,hdw,hold,Y8,zeroValue,hz,Fz,newRow,grownCap]
 all_goals
  congr 2
  apply Array.ext';simp
theorem Ip{t t2 ty:TypeId}{e sz nt:Nat}{z:List Value}(ht:ux P t=some (e,sz,nt,z)){d2:TypeDesc}(qq:P.underlying t2=some d2)(Kx:d2= .string\/∃e2,d2= .slice e2){a:Option Addr}{len cap m:Nat}{xs news:List Value}{R:List aa}{x:Value}{w:World}
  (s:St F (own a cap e sz xs::R) w) (ho:xs.length=len*sz) (hs:Src P F (own a cap e sz xs::R) sz m x news) (h1:∀v∈news,v.oneCell'=true) (hb:(len+m)*nt<=140737488355328) (h63:len+m<=9223372036854775807):
  ∃w' a' zo,(Builtin.append_ #[t,t2] ty #[.slice a len cap,x]).run P w= .ok (.slice a' (len+m) zo) w'/\len+m<=zo/\St F (own a' zo e sz (xs++news)::R) w':=by
 obtain⟨hu,uo,hzl,i,zv,hi,sY,hby,hz,Fz⟩:=nN ht;have hnl:=(hs w s).2.2;by_cases rI:len+m<=cap
 ·obtain⟨hh,ho',hle⟩:=s.get
  obtain⟨q1,q2,q3|⟨b,sp,rfl,q4,q5⟩⟩:=ho'
  ·obtain⟨rfl,rfl⟩:=q3
   have wB:len=0:=by omega
   have hm0:m=0:=by omega
   subst wB;subst hm0;have hx:xs= []:=List.eq_nil_of_length_eq_zero (by simpa using ho);have hn:news= []:=List.eq_nil_of_length_eq_zero (by simpa using hnl);subst hx;subst hn;obtain⟨s1,s2,_⟩:=hs w s;have Y8:=s2 0 (Nat.le_refl _);refine⟨w,none,0, ?_,by omega,(by simpa using s)⟩;simp at Y8;rcases Kx with rfl|⟨e2,rfl⟩<;>simp[Builtin.append_,run_underlying hu,run_underlying qq,sizeOf,typeInfo,hi,sY,s1,Y8]
  ·
   have hpt:St F (af b e (xs++sp)::R) w:=by
    obtain⟨a1,a2,a3,fr,h,⟨y7,h2',dd,l1,l2,jg,st⟩,y,zz⟩:=s;obtain⟨_,_,q3'|⟨b',sp',e',q4',q6⟩⟩:=jg
    ·exact absurd q3'.1 (by simp)
    simp only[Option.some.injEq,Addr.mk.injEq,and_true]at e';subst e';have h6:=l1.trans y;obtain⟨lo,yY,hf,jI⟩:=q6;have hw1:=h6 _ _ jI;obtain⟨lo2,yX,VK,rS⟩:=q5;have hw2:=hle _ _ rS;rw[hw1]at hw2;simp only[Option.some.injEq,Obj.cells.injEq,List.toArray_eq_iff]at hw2;have VF:sp'=sp:=by
     have:=hw2.1
     simpa using this
    subst VF;exact⟨a1,a2,a3,fr,h,⟨y7,h2',dd,l1,l2,⟨lo,yY,hf,jI⟩,st⟩,y,zz⟩
   have hs':Src P F (af b e (xs++sp)::R) sz m x news:=λw' s'=>hs w' (s'.sub λh st=>bB (λh' p=>⟨by omega,q2, .inr ⟨b,sp,rfl,q4,p⟩⟩) st);obtain⟨w',hr,st⟩:=Fu (P:=P) (ty:=ty) ht qq Kx (off:=0) hpt hs' h1 rI (by rw[List.length_append,q4];simpa using Nat.mul_le_mul_right sz rI);refine⟨w',_,cap,hr,rI, ?_⟩;have adn:cZ (xs++sp) (0+len*sz) news=(xs++news)++sp.drop news.length:=by
    rw[Nat.zero_add,<-ho];have Ze:news.length<=sp.length:=by
     have h2:=Nat.mul_le_mul_right sz rI;rw[Nat.add_mul]at h2;omega
    have:=mR news xs (sp.take news.length) (sp.drop news.length) (by simp;omega);rw[List.take_append_drop]at this;rw[this,List.append_assoc]
   rw[adn]at st;refine st.sub λh s'=>bB (λh' p=>⟨?_,q2, .inr ⟨b,_,rfl, ?_,p⟩⟩) s'
   ·rw[List.length_append,ho,hnl,<-Nat.add_mul];exact Nat.mul_le_mul_right _ rI
   have h2:=Nat.mul_le_mul_right sz rI;rw[Nat.add_mul]at h2;simp only[List.length_append,List.length_drop];omega
 obtain⟨hh,ho',hle⟩:=s.get;obtain⟨w',b,zo,hr,IB,mE,sp,VF,st⟩:=Fv (P:=P) (ty:=ty) (cap:=cap) ht qq Kx s ho ((oD ho').mono hle) hs (by omega) hb h63;refine⟨w',_,zo,hr,IB, ?_⟩;have st2:=(st.sub λ_ s'=>dx s').drop;refine st2.sub λh s'=>bB (λh' p=>⟨?_,mE, .inr ⟨b,sp,rfl,VF,p⟩⟩) s';omega
def mY (P:Program)(t:TypeId):Bool:=match P.underlying t with|some (.slice _)=>true|some .string=>true|_=>false
theorem E8{t:TypeId}(h:mY P t=true):∃d,P.underlying t=some d/\(d= .string\/∃e2,d= .slice e2):=by
 unfold mY at h;cases hu:P.underlying t with
 |none=>simp[hu]at h
 |some d=>rw[hu]at h;cases d<;>simp at h<;>exact⟨_,rfl,by simp⟩
theorem akG{ρ:Operand->Value}{x y:Operand}{t t2:TypeId}{w:World}(ho:o.op= .call {callee:= .builtin .append,args:= #[x,y],argTypes:= #[t,t2]}):
  (execOp ρ o).run P w=((Builtin.append_ #[t,t2] o.type #[ρ x,ρ y]).run P w).andThen λv w'=> .ok (.value v) w':=by
 simp[execOp,ho,resolve,invoke,builtin]
theorem fK{t t2:TypeId}{e sz nt m len cap:Nat}{z xs news:List Value}{x y:Operand}{a:Option Addr}{v:Value}{f:aa->List aa}(ht:ux P t=some (e,sz,nt,z))(qq:mY P t2=true)
  (ho:o.op= .call {callee:= .builtin .append,args:= #[x,y],argTypes:= #[t,t2]}) (hd:o.dst=some d) (hx:bJ σ x=some (.slice a len cap)) (hy:bJ σ y=some v)
  (hu:Pos H (own a cap e sz xs) f) (hl:xs.length=len*sz) (hs:Src P F H sz m v news) (h1:∀u∈news,u.oneCell'=true) (hb:(len+m)*nt<=140737488355328) (h63:len+m<=9223372036854775807) (hdn:Nat.blt d n=true)
  (h:∀a' c',len+m<=c'->G n ds F K ((d, .slice a' (len+m) c')::σ) (f (own a' c' e sz (xs++news)))):G n ds F (λa w=>o.wp P a w K Q) σ H:=by
 refine .mk λac w en s=> ?_;obtain⟨d2,Kx,hd2'⟩:=E8 qq;obtain⟨R,vW,back⟩:=hu.vW;obtain⟨w',a',c',hr,IB,st⟩:=Ip (P:=P) (ty:=o.type) ht Kx hd2' (s.vW vW) hl (λw' s'=>hs w' (s'.rE vW)) h1 hb h63;unfold Oper.wp;rw[akG ho,en.eval hx,en.eval hy,hr,Result.andThen_ok,Oper.upon_value,hd];exact h a' c' IB _ _ (en.put hdn _) (st.rE (back _))
theorem bT{t t2:TypeId}{e sz nt m len cap b:Nat}{z xs news:List Value}{x y:Operand}{a:Option Addr}{c:Nat}{e2:TypeId}{f:aa->List aa}(ht:ux P t=some (e,sz,nt,z))(qq:mY P t2=true)
  (ho:o.op= .call {callee:= .builtin .append,args:= #[x,y],argTypes:= #[t,t2]}) (hd:o.dst=some d) (hx:bJ σ x=some (.slice a len cap)) (hy:bJ σ y=some (.slice (some ⟨b,0,none⟩) m c))
  (hu:Pos H (own a cap e sz xs) f) (hl:xs.length=len*sz) (hm:news.length=m*sz) (h1:∀u∈news,u.oneCell'=true) (hb:(len+m)*nt<=140737488355328) (h63:len+m<=9223372036854775807) (hdn:Nat.blt d n=true)
  (h:∀a' c',len+m<=c'->G n ds F K ((d, .slice a' (len+m) c')::σ) (f (own a' c' e sz (xs++news)))):G n ds F (λa w=>o.wp P a w K Q) σ (af b e2 news::H):=by
 refine fK ht qq ho hd hx hy (.there hu) hl (eH hm ?_) h1 hb h63 hdn ?_
 ·intro hh _ il
  obtain⟨⟨k,pk,lk⟩,_⟩:=il;exact(qz (i:=0) pk).mono lk
 intro a' c' hc;exact au (λ_ s=>by obtain⟨_,_,_,_,l2,_,s⟩:=s;exact eL s l2) (h a' c' hc)
def o5 (pl:Nat->Option (Nat×Nat)):List Value->List (Nat×Value)->Option (List Value)
 |cells,[]=>some cells
 |cells,(i,v)::rest=>
  match pl i with
  |none=>none
  |some (off,size)=>if v.cells.size=size/\off+size<=cells.length then o5 pl (cZ cells off v.cells.toList) rest else none
theorem HT:∀(vs:List Value) (cs:List Value) (off k:Nat),
  ((vs.zipIdx k).foldl (λ(c:Array Value) (p:Value×Nat)=>c.setIfInBounds (off+p.2) p.1) cs.toArray)=(cZ cs (off+k) vs).toArray:=by
 intro vs
 induction vs with
 |nil=>intro cs off k;rfl
 |cons v vs ih=>
  intro cs off k;simp only[List.zipIdx_cons,List.foldl_cons,cZ];have:=ih (cs.set (off+k) v) off (k+1);rw[<-Nat.add_assoc]at this;rw[<-this];simp
theorem fill_eq (pl:Nat->Option (Nat×Nat)):∀(parts:List (Nat×Value)) (cells:List Value) (r:List Value),o5 pl cells parts=some r->Instr.fill pl cells.toArray parts=some r.toArray:=by
 intro parts
 induction parts with
 |nil=>intro cells r h;simp[o5]at h;simp[Instr.fill,h]
 |cons p rest ih=>
  intro cells r h;obtain⟨i,v⟩:=p;simp only[o5]at h;cases hp:pl i with
  |none=>simp[hp]at h
  |some q=>
   obtain⟨off,size⟩:=q;simp only[hp]at h
   split at h
   ·rename_i hc
    have:=ih _ _ h;simp only[Instr.fill,hp];rw[if_neg (by simp only[List.size_toArray,ne_eq,decide_not,Bool.or_eq_true,Bool.not_eq_true',decide_eq_false_iff_not,decide_eq_true_eq];omega)];have h2:=HT v.cells.toList cells off 0;rw[Nat.add_zero]at h2;rw[<-this,<-h2,<-Array.foldl_toList];simp
   cases h
def hU (z:List Value)(k:Nat):List Value:=(List.range k).map λi=>(z[i % z.length]?).getD undef
theorem pZ (v:Value)(k:Nat):hU [v] k=List.replicate k v:=by
 apply List.ext_getElem
 ·simp[hU]
 intro i h1 h2;simp[hU,Nat.mod_one]
theorem kI (z:List Value)(k:Nat):(hU z k).length=k:=by simp[hU]
theorem I0{z:List Value}(hz:0<z.length)(k:Nat):(Array.range k).map (λi=>(z.toArray)[i % z.toArray.size]!)=(hU z k).toArray:=by
 apply Array.ext';simp only[Array.toList_map,Array.toList_range,hU];apply List.map_congr_left;intro i _;have:i % z.length<z.length:=Nat.mod_lt _ hz;simp[this]
theorem vj{a:Act}(en:Env n ds σ a){parts:List (Nat×Operand)}{vs:List Value}(h:ki σ (parts.map (·.2))=some vs):(parts.map λp=>(p.1,a.eval p.2))=(parts.map (·.1)).zip vs:=by
 have:=en.vD h;rw[<-this]
 clear h this
 induction parts with
 |nil=>rfl
 |cons p r ih=>simp only[List.map_cons,List.zip_cons_cons,ih]
theorem ac1{t:TypeId}{e sz nt len:Nat}{z vs cs:List Value}{parts:List (Nat×Operand)}(ht:ux P t=some (e,sz,nt,z))(ho:o.op= .buildSlice t len parts.toArray)(hd:o.dst=some d)(hv:ki σ (parts.map (·.2))=some vs)
  (hk:Nat.ble (len*sz) 16777216=true) (hc:o5 (λi=>some (i*sz,sz)) (hU z (len*sz)) ((parts.map (·.1)).zip vs)=some cs) (hdn:Nat.blt d n=true)
  (h:∀b,G n ds F K ((d, .slice (some ⟨b,0,none⟩) len len)::σ) (af b e cs::H)):G n ds F (λa w=>o.wp P a w K Q) σ H:=by
 refine .mk λac w en s=> ?_;obtain⟨hu,uo,hzl,i,zv,hi,sY,hby,hz,Fz⟩:=nN ht;have hp:=vj en hv;have hk':¬(2^24<len*sz):=by have:=Nat.le_of_ble_eq_true hk;omega
 have hz0:0<z.length:=by omega
 have xB:(if len*sz=0 then(pure #[]:Sem (Array Value))else do pure (<-zeroValue e).cells).run P w= .ok (if len*sz=0 then #[]else z.toArray) w:=by
  split<;>simp[zeroValue,typeInfo,hi,hz,Fz]
 have wj:(Array.range (len*sz)).map (λj=>(if len*sz=0 then(#[]:Array Value)else z.toArray)[j % (if len*sz=0 then(#[]:Array Value)else z.toArray).size]!)=(hU z (len*sz)).toArray:=by
  by_cases h0:len*sz=0
  ·simp[h0,hU]
  simp only[h0,if_false];exact I0 hz0 _
 unfold Oper.wp;have:(execOp ac.eval o).run P w= .ok (.value (.slice (some ⟨w.heap.size,0,none⟩) len len)) (w.alloc (.cells cs.toArray e)):=by
  have lV:=fill_eq _ _ _ _ hc;rw[<-hp]at lV;by_cases h0:len*sz=0
  ·simp only[h0,if_true]at wj
   rw[h0]at lV;have PE:(Array.range 0).map (λ_=>(default:Value))=(hU z 0).toArray:=by simp[hU]
   simp[execOp,ho,Instr.buildSlice,run_underlying hu,sizeOf,typeInfo,hi,sY,h0,PE,lV,newRow]
  simp only[h0,if_false]at wj;simp[execOp,ho,Instr.buildSlice,run_underlying hu,sizeOf,typeInfo,zeroValue,hi,sY,h0,hk',hz,Fz];rw[show(Array.range (len*sz)).map (λx=>(z[x % z.length]?).getD default)=(hU z (len*sz)).toArray from by simpa using wj,lV];simp[newRow]
 rw[this,Oper.upon_value,hd];exact h _ _ _ (en.put hdn _) (s.new e cs)
theorem Ih{sz:Nat}:∀(vs:List Value) (k:Nat) (pre post:List Value),(∀v∈vs,v.cells.size=sz)->post.length=vs.length*sz->pre.length=k*sz->
  o5 (λi=>some (i*sz,sz)) (pre++post) ((List.range' k vs.length).zip vs)=some (pre++vs.flatMap λv=>v.cells.toList):=by
 intro vs
 induction vs with
 |nil=>intro k pre post _ hp _;have:post= []:=List.eq_nil_of_length_eq_zero (by simpa using hp);subst this;simp[o5]
 |cons v r ih=>
  intro k pre post hv hp hk;have hv1:=hv v (by simp);have hpl:sz<=post.length:=by rw[hp,List.length_cons,Nat.add_mul];omega
  simp only[List.length_cons,List.range'_succ,List.zip_cons_cons,o5];rw[if_pos ⟨hv1,by rw[List.length_append];omega⟩];have h1:=mR v.cells.toList pre (post.take sz) (post.drop sz) (by simp[hv1];omega);rw[List.take_append_drop,hk]at h1;rw[h1,<-List.append_assoc,ih (k+1) (pre++v.cells.toList) (post.drop sz) (λu hu=>hv u (by simp[hu])) (by simp only[List.length_drop,hp,List.length_cons,Nat.add_mul];omega) (by simp[hk,hv1,Nat.add_mul])];simp
theorem Jt{t:TypeId}{e sz nt len:Nat}{z vs cs:List Value}{parts:List (Nat×Operand)}(ht:ux P t=some (e,sz,nt,z))(ho:o.op= .buildSlice t len parts.toArray)(hd:o.dst=some d)(hv:ki σ (parts.map (·.2))=some vs)
  (hk:Nat.ble (len*sz) 16777216=true) (hi:parts.map (·.1)=List.range' 0 vs.length) (hlen:vs.length=len) (uo:∀v∈vs,v.cells.size=sz) (hc:(vs.flatMap λv=>v.cells.toList)=cs) (hdn:Nat.blt d n=true)
  (h:∀b,G n ds F K ((d, .slice (some ⟨b,0,none⟩) len len)::σ) (af b e cs::H)):G n ds F (λa w=>o.wp P a w K Q) σ H:=by
 refine ac1 ht ho hd hv hk ?_ hdn h;have:=Ih vs 0 [] (hU z (len*sz)) uo (by rw[kI,hlen]) (by simp);rw[hi]
 simpa[hc]using this
theorem XJ{t:TypeId}{e nt len:Nat}{z vs:List Value}{parts:List (Nat×Operand)}(ht:ux P t=some (e,1,nt,z))(ho:o.op= .buildSlice t len parts.toArray)(hd:o.dst=some d)(hv:ki σ (parts.map (·.2))=some vs)
  (hk:Nat.ble (len*1) 16777216=true) (hi:parts.map (·.1)=List.range' 0 vs.length) (hlen:vs.length=len) (h1:∀v∈vs,v.oneCell'=true) (hdn:Nat.blt d n=true)
  (h:∀b,G n ds F K ((d, .slice (some ⟨b,0,none⟩) len len)::σ) (af b e vs::H)):G n ds F (λa w=>o.wp P a w K Q) σ H:=by
 have eZ:∀v:Value,v.oneCell'=true->v.cells= #[v]:=λv hv=>by cases v<;>simp[Value.oneCell']at hv<;>rfl
 refine Jt ht ho hd hv hk hi hlen (λv hv=>by rw[eZ v (h1 v hv)];rfl) ?_ hdn h
 clear hv hi hlen h
 induction vs with
 |nil=>rfl
 |cons v r ih=>rw[List.flatMap_cons,eZ v (h1 v (by simp)),ih (λu hu=>h1 u (by simp[hu]))];rfl
theorem XK{t:TypeId}{e sz nt:Nat}{z cs:List Value}{x:Operand}(ht:ux P t=some (e,sz,nt,z))(ho:o.op= .buildSlice t 1 #[(0,x)])(hd:o.dst=some d)(hx:bJ σ x=some (.agg cs.toArray))
  (hl:cs.length=sz) (hk:Nat.ble (1*sz) 16777216=true) (hdn:Nat.blt d n=true)
  (h:∀b,G n ds F K ((d, .slice (some ⟨b,0,none⟩) 1 1)::σ) (af b e cs::H)):G n ds F (λa w=>o.wp P a w K Q) σ H:=
 Jt (parts:= [(0,x)]) (vs:= [.agg cs.toArray]) ht ho hd (by simp[ki,hx]) hk rfl rfl (by simp[Value.cells,hl]) (by simp[Value.cells]) hdn h
def jc (P:Program)(t:TypeId):Option (List (Nat×Nat)):=
 match P.underlying t with
 |some (.struct fs)=>fs.toList.mapM λf=>(P.info? f.type).map λi=>(f.offset,i.size)
 |_=>none
theorem Fb{fs:List Field}{pl:List (Nat×Nat)}(h:(fs.mapM λf=>(P.info? f.type).map λi=>(f.offset,i.size))=some pl)(w:World):
  (fs.mapM λf=>Prod.mk f.offset<$>sizeOf f.type:Sem (List (Nat×Nat))).run P w= .ok pl w:=by
 induction fs generalizing pl with
 |nil=>simp at h;simp[h]
 |cons f r ih=>
  simp only[List.mapM_cons]at h⊢;cases hi:P.info? f.type with
  |none=>simp[hi]at h
  |some i=>
   simp only[hi,Option.map_some,Option.bind_eq_bind,Option.bind_some]at h;cases hr:(r.mapM λf=>(P.info? f.type).map λi=>(f.offset,i.size))with
   |none=>simp[hr]at h
   |some pl'=>
    simp[hr]at h;have:=ih hr;simp[sizeOf,typeInfo,hi]at this⊢;simp[this,<-h]
theorem WG{t:TypeId}{pl:List (Nat×Nat)}{zs vs cs:List Value}{parts:List (Nat×Operand)}(hz:bX P t=some zs)(hpl:jc P t=some pl)(ho:o.op= .build t parts.toArray)(hv:ki σ (parts.map (·.2))=some vs)
  (hc:o5 (λi=>pl[i]?) zs ((parts.map (·.1)).zip vs)=some cs):Yv P n ds F σ o (.agg cs.toArray):=
 λac w en fr=>by
  have hp:=vj en hv;obtain⟨zv,hzr,Fz⟩:=qn hz (w:=w);unfold jc at hpl;cases hu:P.underlying t with
  |none=>simp[hu]at hpl
  |some dsc=>
   cases dsc<;>simp[hu]at hpl
   rename_i fs
   have hm:=Fb (P:=P) (by simpa using hpl) w;have lV:=fill_eq _ _ _ _ hc;rw[<-hp]at lV;have hm':(fs.mapM λf=>Prod.mk f.offset<$>sizeOf f.type:Sem (Array (Nat×Nat))).run P w= .ok pl.toArray w:=by
    rw[<-Array.toArray_toList (xs:=fs),List.mapM_toArray];simp[hm]
   simp[execOp,ho,Instr.build,hzr,run_underlying hu,hm',Fz,lV]
theorem XI{t:TypeId}{e sz nt:Nat}{z:List Value}{x y:Operand}{k k':IntKind}{i j:Int}{l c:Nat}(ht:ux P t=some (e,sz,nt,z))(ho:o.op= .makeSlice t x y)(hd:o.dst=some d)(hx:bJ σ x=some (.int k i))(hy:bJ σ y=some (.int k' j))
  (yY:i=(l:Int)) (hj:j=(c:Int)) (hlc:l<=c) (hc:c*nt<=281474976710656) (rB:c<=9223372036854775807) (hdn:Nat.blt d n=true)
  (h:∀b,G n ds F K ((d, .slice (some ⟨b,0,none⟩) l c)::σ) (af b e (hU z (c*sz))::H)):G n ds F (λa w=>o.wp P a w K Q) σ H:=by
 refine .mk λac w en s=> ?_;obtain⟨hu,uo,hzl,inf,zv,hi,sY,hby,hz,Fz⟩:=nN ht;subst yY;subst hj;have hz0:0<z.length:=by omega
 have hwl:IntKind.i64.wrap (l:Int)=l:=wrap_i64 (by omega);have hwc:IntKind.i64.wrap (c:Int)=c:=wrap_i64 (by omega);have zh:¬((281474976710656:Int)<(nt:Int)*(c:Int)):=by
  have:(nt:Int)*(c:Int)=((c*nt:Nat):Int):=by push_cast;rw[Int.mul_comm]
  omega
 have wj:(Array.range (c*sz)).map (λj=>(if c*sz=0 then(#[]:Array Value)else z.toArray)[j % (if c*sz=0 then(#[]:Array Value)else z.toArray).size]!)=(hU z (c*sz)).toArray:=by
  by_cases h0:c*sz=0
  ·simp[h0,hU]
  simp only[h0,if_false];exact I0 hz0 _
 have xB:(if c*sz=0 then(pure #[]:Sem (Array Value))else do pure (<-zeroValue e).cells).run P w= .ok (if c*sz=0 then #[]else z.toArray) w:=by
  split<;>simp[zeroValue,typeInfo,hi,hz,Fz]
 unfold Oper.wp;have:(execOp ac.eval o).run P w= .ok (.value (.slice (some ⟨w.heap.size,0,none⟩) l c)) (w.alloc (.cells (hU z (c*sz)).toArray e)):=by
  have PJ:(decide ((c:Int)<0) ||decide ((nt:Int)*(c:Int)>2^48) ||decide ((l:Int)<0) ||decide ((l:Int)>(c:Int)))=false:=by
   simp only[Bool.or_eq_false_iff,decide_eq_false_iff_not];refine⟨⟨⟨by omega, ?_⟩,by omega⟩,by omega⟩;have:(2:Int)^48=281474976710656:=by decide
   rw[this];exact zh
  simp only[execOp,ho,Instr.makeSlice,Sem.run_bind,run_underlying hu,Result.andThen_ok,sizeOf,typeInfo,run_program,hi,Sem.run_pure,sY,hby,en.eval hx,en.eval hy,asInt,asIntOf,hwl,hwc];simp only[PJ,Bool.false_eq_true,if_false,Sem.run_bind,Sem.run_pure,run_askRoom,Result.andThen_ok,Int.toNat_natCast];by_cases h0:c*sz=0
  ·simp only[h0,if_true]at wj
   have PE:(Array.range 0).map (λ_=>(default:Value))=(hU z 0).toArray:=by simp[hU]
   simp[hi,sY,h0,newRow,PE]
  simp only[h0,if_false]at wj;simp[hi,sY,h0,zeroValue,typeInfo,hz,Fz,newRow];rw[show(Array.range (c*sz)).map (λx=>(z[x % z.length]?).getD default)=(hU z (c*sz)).toArray from by simpa using wj]
 rw[this,Oper.upon_value,hd];exact h _ _ _ (en.put hdn _) (s.new e _)
theorem Ju{t t2:TypeId}{e sz nt m dl dc b off:Nat}{z cs news:List Value}{x y:Operand}{v:Value}{e2:TypeId}{f:aa->List aa}(ht:ux P t=some (e,sz,nt,z))(ho:o.op= .call {callee:= .builtin .copy,args:= #[x,y],argTypes:= #[t,t2]})(hd:o.dst=some d)
  (hx:bJ σ x=some (.slice (some ⟨b,off,none⟩) dl dc)) (hy:bJ σ y=some v) (hu:Pos H (af b e2 cs) f) (hs:Src P F H sz m v news) (h1:∀u∈news,u.oneCell'=true) (uA:off+dl*sz<=cs.length) (hdn:Nat.blt d n=true)
  (h:G n ds F K ((d, .int .i64 ((min m dl:Nat):Int))::σ) (f (af b e2 (cZ cs off (news.take (min m dl*sz)))))):G n ds F (λa w=>o.wp P a w K Q) σ H:=by
 refine .mk λac w en s=> ?_;obtain⟨hut,uo,hzl,inf,zv,hi,sY,hby,hz,Fz⟩:=nN ht;obtain⟨s1,s2,s3⟩:=hs w s;obtain⟨R,vW,back⟩:=hu.vW;have hlen:(news.take (min m dl*sz)).length=min m dl*sz:=by
  rw[List.length_take,s3];exact Nat.min_eq_left (Nat.mul_le_mul_right _ (Nat.min_le_left _ _))
 obtain⟨w',hr,st⟩:=j5 (P:=P) (news.take (min m dl*sz)) off 0 cs w (s.vW vW) (by rw[hlen];have:=Nat.mul_le_mul_right sz (Nat.min_le_right m dl);omega) (λu hu=>h1 u (List.mem_of_mem_take hu));unfold Oper.wp;have:(execOp ac.eval o).run P w= .ok (.value (.int .i64 ((min m dl:Nat):Int))) w':=by
  have hmin:Nat.min m dl=min m dl:=rfl;simp[execOp,ho,resolve,invoke,builtin,Builtin.copy_,en.eval hx,en.eval hy,run_underlying hut,sizeOf,typeInfo,hi,sY,s1,hmin,s2 _ (Nat.min_le_left m dl),hr,goInt]
 rw[this,Oper.upon_value,hd];exact h _ _ (en.put hdn _) (by simpa using st.rE (back _))
end rules
end Go.dG
namespace Go.dG
open Go
def Wp:List Nat->Nat->Bool
 | [],_=>false
 |x::r,t=>match Nat.beq x t with|true=>true|false=>Wp r t
def fQ (kN:List Nat):aZ->aZ
 | []=> []
 |(k,v)::r=>match Wp kN k with|true=>fQ kN r|false=>(k,v)::fQ kN r
theorem H6{kN:List Nat}:∀{σ:aZ} {t:Nat} {v:Value},look (fQ kN σ) t=some v->look σ t=some v/\Wp kN t=false:=by
 intro σ
 induction σ with
 |nil=>intro t v h;simp[fQ,look]at h
 |cons p r ih=>
  obtain⟨k,u⟩:=p;intro t v h;simp only[fQ]at h;cases hm:Wp kN k with
  |true=>
   rw[hm]at h;obtain⟨h1,h2⟩:=ih h;refine⟨?_,h2⟩;simp only[look];cases hb:Nat.beq k t with
   |true=>have:=Nat.eq_of_beq_eq_true hb;subst this;rw[hm]at h2;cases h2
   |false=>exact h1
  |false=>
   rw[hm]at h;simp only[look]at h⊢;cases hb:Nat.beq k t with
   |true=>rw[hb]at h;have:=Nat.eq_of_beq_eq_true hb;subst this;exact⟨h,hm⟩
   |false=>rw[hb]at h;exact ih h
theorem Fg{L K:aZ}{t:Nat}{v:Value}(h:look (L++K) t=some v):look L t=some v\/look K t=some v:=by
 induction L with
 |nil=>exact .inr h
 |cons p r ih=>
  obtain⟨k,u⟩:=p;simp only[List.cons_append,look]at h⊢;cases hb:Nat.beq k t with
  |true=>rw[hb]at h;exact .inl h
  |false=>rw[hb]at h;exact ih h
theorem Env.xd{n:Nat}{ds:List Deferred}{σ σ' L:aZ}{a:Act}{kN:List Nat}(e:Env n ds σ' a)(hs:ru L σ')(hk:fQ kN σ'=fQ kN σ):Env n ds (L++fQ kN σ) a:=
 ⟨e.size,e.defers,λt v h=>(Fg h).elim (λh1=>e.slot t v (hs.look t v h1)) λh1=>by
  rw[<-hk]at h1;exact e.slot t v (H6 h1).1⟩
section
variable {ι:Type} (n:Nat) (ds:List Deferred) (F:dC) (kN:List Nat) (σ:aZ) (I:ι->Prop) (L:ι->aZ) (HI:ι->List aa)
def qE (μ:ι->Nat)(i:ι)(a:Act)(w:World):Prop:=∃j,I j/\μ j<μ i/\Env n ds (L j++fQ kN σ) a/\St F (HI j) w
def IZ (a:Act)(w:World):Prop:=∃j,I j/\Env n ds (L j++fQ kN σ) a/\St F (HI j) w
end
section rules
variable {P:Program} {n:Nat} {ds:List Deferred} {F:dC} {Q:Exit->Act->World->Prop} {K:Act->World->Prop} {σ:aZ} {H:List aa} {o:Oper} {d:Nat}
theorem YB{ι:Type}{c:Code}(kN:List Nat)(I:ι->Prop)(L:ι->aZ)(HI:ι->List aa)(μ:ι->Nat)(i₀:ι)(h0:I i₀)(hs:ru (L i₀) σ)(hh:∀h,ai H h->ai (HI i₀) h)
  (round:∀i,I i->G n ds F (c.wp P (Exit.then (qE n ds F kN σ I L HI μ i) Q)) (L i++fQ kN σ) (HI i)):G n ds F ((Code.loop c).wp P Q) σ H:=by
 refine .mk λa w e s b k cs=> ?_;have key:∀m i a w,μ i=m->I i->Env n ds (L i++fQ kN σ) a->St F (HI i) w->
   ∃e a' w',Q e a' w'/\Arrives P (lone (b.at a (.code c:: .inLoop c::k)) cs w) b k cs e a' w':=by
  intro m
  induction m using Nat.strongRecOn with
  |_ m ih=>
   intro i a w hm hI he gB;obtain⟨e,a₁,w₁,hq,pE⟩:=round i hI a w he gB b (.inLoop c::k) cs;cases e with
   |normal=>
    obtain⟨j,hj,cL,he₁,hs₁⟩:=hq;obtain⟨e₂,a₂,w₂,hq₂,harr₂⟩:=ih (μ j) (hm▸cL) j a₁ w₁ rfl hj he₁ hs₁;exact⟨e₂,a₂,w₂,hq₂, .of_steps (Steps.trans pE (.one step_inLoop)) harr₂⟩
   |exit id=>exact⟨_,a₁,w₁,hq, .pass (x:= .inLoop c) rfl (λ_ _=> .inl (by simp)) pE⟩
   |goto l=>exact⟨_,a₁,w₁,hq, .pass (x:= .inLoop c) rfl (λ_ _=> .inl (by simp)) pE⟩
   |ret=>exact⟨_,a₁,w₁,hq, .pass (x:= .inLoop c) rfl (λ_ _=> .inl (by simp)) pE⟩
   |panic ch=>exact⟨_,a₁,w₁,hq, .pass (x:= .inLoop c) rfl (λ_ _=> .inl (by simp)) pE⟩
   |outgrown=>exact⟨_,a₁,w₁,hq, .pass (x:= .inLoop c) rfl (λ_ _=> .inl (by simp)) pE⟩
 obtain⟨e',a',w',hq,pE⟩:=key _ i₀ a w rfl h0 (e.xd hs rfl) (s.sub hh);exact⟨e',a',w',hq, .of_steps (.one step_loop) pE⟩
theorem U4{ι:Type}{kN:List Nat}{σ0:aZ}{I:ι->Prop}{L:ι->aZ}{HI:ι->List aa}{μ:ι->Nat}{i:ι}(j:ι)(hI:I j)(hm:μ j<μ i)(hs:ru (L j) σ)(hk:fQ kN σ=fQ kN σ0)(hh:∀h,ai H h->ai (HI j) h):
  G n ds F (Exit.then (qE n ds F kN σ0 I L HI μ i) Q .normal) σ H:=
 .mk λ_ _ e s=>⟨j,hI,hm,e.xd hs hk,s.sub hh⟩
theorem aiJ{ι:Type}{kN:List Nat}{σ0:aZ}{I:ι->Prop}{L:ι->aZ}{HI:ι->List aa}(j:ι)(hI:I j)(hs:ru (L j) σ)(hk:fQ kN σ=fQ kN σ0)(hh:∀h,ai H h->ai (HI j) h):
  G n ds F (Exit.then (IZ n ds F kN σ0 I L HI) Q .normal) σ H:=
 .mk λ_ _ e s=>⟨j,hI,e.xd hs hk,s.sub hh⟩
theorem dt{ι:Type}{x:Code}(kN:List Nat)(I:ι->Prop)(L:ι->aZ)(HI:ι->List aa)(hx:G n ds F (x.wp P (Exit.then (IZ n ds F kN σ I L HI) Q)) σ H)
  (hy:∀j,I j->G n ds F K (L j++fQ kN σ) (HI j)):G n ds F (x.wp P (Exit.then K Q)) σ H:=
 .mk λa w e s=>wp_mono (hx a w e s) λex a' w' q=>by
  cases ex with
  |normal=>obtain⟨j,hj,he,hs⟩:=q;exact hy j hj _ _ he hs
  |exit id=>exact q
  |goto l=>exact q
  |ret=>exact q
  |panic ch=>exact q
  |outgrown=>exact q
theorem br{t:Nat}{b:Bool}(ht:look σ t=some (.bool b))(h1:b=true->G n ds F K ((t, .bool true)::σ) H)(h2:b=false->G n ds F K ((t, .bool false)::σ) H):G n ds F K σ H:=by
 have key:∀c,b=c->∀a,Env n ds σ a->Env n ds ((t, .bool c)::σ) a:=λc hc a e=>⟨e.size,e.defers,λu v hv=>by
  simp only[look]at hv;cases hb:Nat.beq t u with
  |true=>rw[hb]at hv;cases hv;have:=Nat.eq_of_beq_eq_true hb;subst this;subst hc;exact e.slot _ _ ht
  |false=>rw[hb]at hv;exact e.slot _ _ hv⟩
 refine .mk λa w e s=> ?_;cases hb:b with
 |true=>exact h1 hb a w (key true hb a e) s
 |false=>exact h2 hb a w (key false hb a e) s
theorem ay{t:Nat}{v v':Value}(ht:look σ t=some v)(hv:v=v')(h:G n ds F K ((t,v')::σ) H):G n ds F K σ H:=by
 subst hv;refine .mk λa w e s=> ?_;refine h a w ⟨e.size,e.defers,λu x hx=> ?_⟩ s;simp only[look]at hx;cases hb:Nat.beq t u with
 |true=>rw[hb]at hx;cases hx;have:=Nat.eq_of_beq_eq_true hb;subst this;exact e.slot _ _ ht
 |false=>rw[hb]at hx;exact e.slot _ _ hx
theorem yJ:∀{A B:List aa} {h:Hp},ai (A++B) h->ai A h:=by
 intro A
 induction A with
 |nil=>intros;trivial
 |cons X r ih=>intro B h s;obtain⟨h1,h2,d,l1,l2,a,s⟩:=s;exact⟨h1,h2,d,l1,l2,a,ih s⟩
theorem eA{H As R:List aa}(s:iI H As R):∀h,ai H h->ai As h:=λh x=>yJ (s.out h x)
theorem aeD{H H':List aa}(e:H=H'):∀h,ai H h->ai H' h:=λ_ x=>e▸x
theorem bP{h:Hp}{a:Option Addr}{cap e sz:Nat}{xs:List Value}(o:∃k,own a cap e sz xs k/\Le k h):gg h a xs:=by
 obtain⟨k,p,l⟩:=o;exact(oD p).mono l
theorem Yn{h k:Hp}{A:aa}(i:∃m,A m/\Le m h)(l:Le h k):∃m,A m/\Le m k:=by
 obtain⟨m,p,l'⟩:=i;exact⟨m,p,l'.trans l⟩
def aG (L:List aa):aa:=λh=>ai L h
theorem mP{L:List aa}(h:G n ds F K σ (L++H)):G n ds F K σ (aG L::H):=
 au (λk s=>by
  obtain⟨h1,h2,d,l1,l2,s1,s2⟩:=s;exact eL (bK s1 s2 d) (bY l1 l2)) h
theorem dU{L:List aa}:∀{H:List aa} {h:Hp},ai (L++H) h->ai (aG L::H) h:=λs=>by
 obtain⟨h1,h2,d,l1,l2,s1,s2⟩:=bx s;exact⟨h1,h2,d,l1,l2,s1,s2⟩
theorem ag1{ι:Type}{A:ι->aa}(h:∀x,G n ds F K σ (A x::H)):G n ds F K σ ((λk=>∃x,A x k)::H):=by
 refine .mk λa w e s=> ?_;obtain⟨a1,a2,a3,fr,hh,⟨h1,h2,d,l1,l2,⟨x,hx⟩,st⟩,y,z⟩:=s;exact h x a w e ⟨a1,a2,a3,fr,hh,⟨h1,h2,d,l1,l2,hx,st⟩,y,z⟩
theorem yn{L M R:List aa}{h:Hp}(s:ai (aG L::(M++R)) h):ai (aG (L++M)::R) h:=by
 obtain⟨h1,h2,d,l1,l2,s1,s2⟩:=s;obtain⟨h3,h4,d',l3,l4,s3,s4⟩:=bx s2;exact⟨fA h1 h3,h4,bQ.fA (d.right l4) d',bY l1 (l3.trans l2),l4.trans l2,bK s1 s3 (d.right l3),s4⟩
theorem wu{h:Hp}(s:ai H h):ai (aG []::H) h:=gx (λ_=>trivial) s
def zx (F:dC)(As:List aa)(F':dC):Prop:=∀R w,St F' R w->St F (As++R) w
abbrev cJ (F:dC)(w:World):Prop:=Le F.h (j7 w)
theorem adw{id:Nat}{ops:Array Oper}{As R:List aa}{listed:Array Bool}(hm:P.follows .mixedOrders=true)(hl:Array.replicate ops.size false=listed)(de:iI H As R)
  (h:∀F':dC,Le F.h F'.h->gP As F'.h->zx F As F'->G n ds F' (wpAnyH P .any ops Q (cJ F') ops.size listed) σ R):G n ds F ((Code.region id ops true).wp P Q) σ H:=by
 refine .mk λa w e s=> ?_;subst hl;refine wp_region_any hm (wpAny_of_held (S:=cJ {F with h:= ?_}) _ _ _ _ ?_)
 ·exact fA (Classical.choose (bx (de.out _ (Classical.choose_spec s.own).1))) F.h
 generalize hA:Classical.choose (bx (de.out _ (Classical.choose_spec s.own).1))=h1;have spec:=Classical.choose_spec (bx (de.out _ (Classical.choose_spec s.own).1));rw[hA]at spec;obtain⟨h2,d12,l1,l2,s1,s2⟩:=spec;have jg:=(Classical.choose_spec s.own).2;have AX:bQ h1 F.h:=jg.2.left l1;refine h {F with h:=fA h1 F.h} (aR AX) (cq s1 (aW _ _)) ?_ a _ e ?_
 ·intro R' w' s'
  obtain⟨b1,b2,b3,fr,hh,st,hl,hd⟩:=s';exact⟨b1,b2,b3,(aR AX).trans fr,fA h1 hh,bK s1 st (hd.right (aW _ _)).symm,bY ((aW _ _).trans fr) hl,bQ.fA AX (hd.right (aR AX))⟩
 exact⟨s.os,⟨s.tape.1,Nat.le_succ_of_le s.tape.2⟩,s.output,bY (l1.trans jg.1) s.frame,h2,s2,l2.trans jg.1,(bQ.fA d12 (jg.2.left l2).symm).symm⟩
theorem aV{ops:Array Oper}{listed:Array Bool}{fuel:Nat}{F':dC}{As:List aa}{S:World->Prop}(hr:Region.ready .any ops listed= [])(hb:zx F As F')(h:G n ds F (Q .normal) σ (As++H)):G n ds F' (wpAnyH P .any ops Q S fuel listed) σ H:=by
 refine .mk λa w e s=> ?_;have:=h a w e (hb _ _ s);cases fuel with
 |zero=>exact⟨hr,this⟩
 |succ m=>exact⟨λ_=>this,λi hi=>by rw[hr]at hi;cases hi⟩
def oK (Q:Exit->Act->World->Prop):Prop:=∀c a d v w,Q (.panic c) (Act.put a d v) w->Q (.panic c) a w
theorem Xu (h:oK Q):oK (Exit.then K Q):=λc a d v w q=>h c a d v w q
theorem S9{id:Nat}(h:oK Q):oK (Exit.inBlock id Q):=λc a d v w q=>h c a d v w q
theorem Xv{fn:Func}{R:Ending->World->Prop}:oK (bodyPost P fn R):=λc a d v w q=>by
 simp only[bodyPost]at q⊢;exact⟨by rw[<-q.1];cases d<;>rfl,q.2⟩
def Bm (ops:Array Oper)(listed:Array Bool)(i:Nat)(wN:Array Bool):Bool:=
 Region.noSelect ops&&(Region.ready .any ops listed).contains i&&Region.free .any ops listed i&&(listed.setIfInBounds i true==wN)
theorem T9{ops:Array Oper}{listed wN:Array Bool}{fuel i:Nat}{oi:Oper}{v:Value}(nj:Bm ops listed i wN=true)(hi:ops[i]?=some oi)(po:oK Q)
  (hy:∀a,Env n ds σ a->YieldsIf P ops (cJ F) oi v a) {σ':aZ} (hp:∀a,Env n ds σ a->Env n ds σ' (a.put oi.dst v)) (h:G n ds F (wpAnyH P .any ops Q (cJ F) fuel wN) σ' H):G n ds F (wpAnyH P .any ops Q (cJ F) (fuel+1) listed) σ H:=by
 refine .mk λa w e s=> ?_;simp only[Bm,Bool.and_eq_true,beq_iff_eq,List.contains_iff_mem]at nj;obtain⟨⟨⟨h1,h2⟩,h3⟩,h4⟩:=nj;refine wpAnyH_first hi (Region.noSelect_spec h1) (λc a w q=>po c a _ _ w q) fuel listed a w (λj oj hj fN hun mD=>Region.free_spec hi h3 j oj hj fN hun mD) h2 (hy a e) s.frame ?_;rw[h4];exact h _ _ (hp a e) s
theorem GN{ops:Array Oper}{listed:Array Bool}{fuel:Nat}{l:List Nat}{S:World->Prop}(hr:Region.ready .any ops listed=l)(fN:l.isEmpty=false)
  (h:∀i∈l,G n ds F (wpOp P ops Q i (λa' w'=>S w'/\wpAnyH P .any ops Q S fuel (listed.setIfInBounds i true) a' w')) σ H):G n ds F (wpAnyH P .any ops Q S (fuel+1) listed) σ H:=by
 refine .mk λa w e s=> ?_;refine⟨λh0=> ?_,λi hi=>h i (by rw[<-hr];exact hi) a w e s⟩;rw[hr]at h0;subst h0;cases fN
theorem ads{ops:Array Oper}{listed:Array Bool}{fuel i:Nat}{S:World->Prop}(hr:Region.ready .any ops listed= [i])
  (h:G n ds F (wpOp P ops Q i (λa' w'=>S w'/\wpAnyH P .any ops Q S fuel (listed.setIfInBounds i true) a' w')) σ H):G n ds F (wpAnyH P .any ops Q S (fuel+1) listed) σ H:=
 GN hr rfl λj hj=>by rw[List.mem_singleton.1 hj];exact h
theorem adq{ops:Array Oper}{listed:Array Bool}{fuel i j:Nat}{S:World->Prop}(hr:Region.ready .any ops listed= [i,j])
  (h1:G n ds F (wpOp P ops Q i (λa' w'=>S w'/\wpAnyH P .any ops Q S fuel (listed.setIfInBounds i true) a' w')) σ H)
  (h2:G n ds F (wpOp P ops Q j (λa' w'=>S w'/\wpAnyH P .any ops Q S fuel (listed.setIfInBounds j true) a' w')) σ H):G n ds F (wpAnyH P .any ops Q S (fuel+1) listed) σ H:=
 GN hr rfl λk hk=>by
  rcases List.mem_cons.1 hk with rfl|hk
  ·exact h1
  rw[List.mem_singleton.1 hk];exact h2
theorem Yx{ops:Array Oper}{listed:Array Bool}{fuel:Nat}(h:G n ds F (wpAnyH P .any ops Q (cJ F) fuel listed) σ H):G n ds F (λa w=>cJ F w/\wpAnyH P .any ops Q (cJ F) fuel listed a w) σ H:=
 .mk λa w e s=>⟨s.frame,h a w e s⟩
theorem tS{b i k ty:Nat}{e:TypeId}{cs vs:List Value}{R:List aa}{w:World}{t:Nat}{a:Act}(en:Env n ds σ a)(st:St F H w)(ht:look σ t=some (.pointer (some ⟨b,i,none⟩)))(hs:cG P ty=some k)(de:fD H (af b e cs) R)(hv:(cs.drop i).take k=vs)(hk:vs.length=k):
  (asAddr (a.tmps.getD t undef)).run P w= .ok ⟨b,i,none⟩ w/\(loadVar ty ⟨b,i,none⟩).run P w= .ok (.agg vs.toArray) w:=by
 obtain⟨h1,hp,hl⟩:=(st.vW de).get;have hg:a.tmps.getD t undef= .pointer (some ⟨b,i,none⟩):=by simp[en.slot t _ ht]
 have:=TM (P:=P) (b:=b) (i:=i) hs (w:=w) hk (λj v hj=>by
  rw[add_lit];refine nJ hl (fJ hp ?_);rw[<-hv,List.getElem?_take]at hj
  split at hj
  ·simpa using hj
  cases hj)
 rw[hg];exact⟨by simp[asAddr],by simpa[Instr.loadAt,Instr.sureAddr]using this⟩
theorem aeG{fn:Func}{T:Value->List aa->Prop}{t ty b i k:Nat}{e:TypeId}{cs vs:List Value}{R H':List aa}(hs:cG P ty=some k)(hr:fn.results= #[.cell t ty])(ht:look σ t=some (.pointer (some ⟨b,i,none⟩)))(de:fD H (af b e cs) R)(hv:(cs.drop i).take k=vs)(hk:vs.length=k)
  (hR:T (.agg vs.toArray) H') (hh:∀h,ai H h->ai H' h):G n [] F (bodyPost P fn (λe w'=>∃v H',e= .returned v/\T v H'/\St F H' w') .ret) σ H:=
 .mk λa w en s=>⟨en.defers,_,by
  obtain⟨h1,h2⟩:=tS (P:=P) en s ht hs de hv hk;simp only[results,hr];simp at h1;simp[h1,h2],_,H',rfl,hR,s.sub hh⟩
end rules
end Go.dG
namespace Go.dG
open Go
section
variable {P:Program} {n:Nat} {ds:List Deferred} {F:dC} {σ:aZ} {o:Oper}
theorem kU{op:BinOp}{t:TypeId}{x y:Operand}{p q:Option Addr}{w:World}:(eqGuard op t x y (.pointer p) (.pointer q)).run P w= .ok () w:=by
 unfold eqGuard;cases op<;>simp
theorem RW{op:BinOp}{t yt e:TypeId}{x y:Operand}{p:Option Addr}{b:Bool}(ht:P.underlying t=some (.pointer e))(ho:o.op= .binOp op t x y yt)(hx:bJ σ x=some (.pointer p))(hy:bJ σ y=some (.pointer none))
  (hop:(op= .eql/\b=p.isNone)\/(op= .neq/\b= !p.isNone)):Yv P n ds F σ o (.bool b):=by
 intro a w en _;have hp:P.underlying t=some (.pointer (P.pointee t)):=by unfold Program.pointee;rw[ht]
 rcases hop with⟨rfl,rfl⟩|⟨rfl,rfl⟩
 ·simp only[execOp,ho,en.eval hx,en.eval hy,Sem.run_bind,kU,run_eql_pointer_nil w t p hp,Result.andThen_ok,Sem.run_pure]
 simp only[execOp,ho,en.eval hx,en.eval hy,Sem.run_bind,kU,run_neq_pointer_nil w t p hp,Result.andThen_ok,Sem.run_pure]
theorem akK (w:World)(b n:Nat)(cs:Array Value)(e:TypeId)(lo hi:Nat)(h:w.heap[b]?=some (.cells cs e (lo,hi))):
  (w.freeze ⟨b,n,none⟩ 1).heap[b]?=some (.cells cs e (if lo==hi then(n,n+1)else(min lo n,max hi (n+1)))):=by
 simp[World.freeze,Array.getElem?_modify,h]
theorem akJ (w:World)(b n x:Nat)(h:x≠b):(w.freeze ⟨b,n,none⟩ 1).heap[x]?=w.heap[x]?:=by
 simp[World.freeze,Array.getElem?_modify,Ne.symm h]
theorem St.freeze{H:List aa}{w:World}{b:Nat}{e:TypeId}{cs:List Value}(s:St F (af b e cs::H) w):
  St F (af b e cs::H) (w.freeze ⟨b,cs.length,none⟩ 1):=by
 obtain⟨a1,a2,a3,fr,h,⟨h1,h2,d,l1,l2,⟨lo,hi,hf,hb⟩,s⟩,y,z⟩:=s;have hw:w.heap[b]?=some (.cells cs.toArray e (lo,hi)):=(l1.trans y) _ _ hb;have fN:∀k:Hp,bQ h1 k->∀x o,k x=some o->x≠b:=by
  intro k dk x o e hx;subst hx;rcases dk x with q|q
  ·rw[hb]at q;cases q
  rw[e]at q;cases q
 have hold:∀k:Hp,bQ h1 k->Le k (j7 w)->Le k (j7 (w.freeze ⟨b,cs.length,none⟩ 1)):=by
  intro k dk lk x o e;have:=lk x o e;unfold j7 at*;rw[akJ w _ _ x (by exact fN k dk x o e)];exact this
 have dF:bQ h1 F.h:=z.left l1
 let fz:Nat×Nat:=if lo==hi then(cs.length,cs.length+1)else(min lo cs.length,max hi (cs.length+1))
 have hfz:fz.2=fz.1\/cs.length<=fz.1:=by
  right
  show cs.length<=(if lo==hi then(cs.length,cs.length+1)else(min lo cs.length,max hi (cs.length+1))).1
  split
  ·exact Nat.le_refl _
  rename_i hq
  have:lo≠hi:=by simpa using hq
  simp only;omega
 let y7:Hp:=λx=>if x=b then some (.cells cs.toArray e fz)else none
 have d2:∀k:Hp,bQ h1 k->bQ y7 k:=by
  intro k dk x;by_cases hx:x=b
  ·subst hx
   rcases dk x with q|q
   ·rw[hb]at q;cases q
   exact .inr q
  exact .inl (by simp[y7,hx])
 have l1':Le y7 (j7 (w.freeze ⟨b,cs.length,none⟩ 1)):=by
  intro x o e;by_cases hx:x=b
  ·subst hx
   simp only[y7,if_true]at e;cases e;have:=akK w x cs.length _ _ _ _ hw;rw[j7,this]
  simp[y7,hx]at e
 refine⟨a1,a2,a3,hold _ dF fr,fA y7 h2,⟨y7,h2,d2 _ d,aW _ _,aR (d2 _ d),⟨fz.1,fz.2,hfz,by simp[y7]⟩,s⟩,
  bY l1' (hold _ d (l2.trans y)),bQ.fA (d2 _ dF) (z.left l2)⟩
theorem XH{Q:Exit->Act->World->Prop}{K:Act->World->Prop}{H R:List aa}{d:Nat}{t e e':TypeId}{x:Operand}{b i l c:Nat}{cs:List Value}(ht:P.underlying t=some (.slice e))(he:P.underlying e=some (.int .u8))(ho:o.op= .convert t t x)(hd:o.dst=some d)
  (hx:bJ σ x=some (.slice (some ⟨b,i,none⟩) l c)) (hs:fD H (af b e' cs) R) (hdn:Nat.blt d n=true)
  (h:G n ds F K ((d, .slice (some ⟨b,i,none⟩) l c)::σ) (af b e' cs::R)):G n ds F (λa w=>o.wp P a w K Q) σ H:=by
 refine .mk λa w en s=> ?_;have s1:=s.vW hs;obtain⟨hh,⟨lo,hi,hf,hb⟩,hl⟩:=s1.get;have hw:w.heap[b]?=some (.cells cs.toArray e' (lo,hi)):=hl _ _ hb;have Zf:w.shape? b=some (e',cs.length):=by unfold World.shape?;rw[hw];simp
 unfold Oper.wp;have:(execOp a.eval o).run P w= .ok (.value (.slice (some ⟨b,i,none⟩) l c)) (w.freeze ⟨b,cs.length,none⟩ 1):=by
  simp[execOp,ho,en.eval hx,convert,run_underlying ht,run_underlying he,markStringish,Zf]
 rw[this,Oper.upon_value,hd];exact h _ _ (en.put hdn _) s1.freeze
theorem kT{K:Act->World->Prop}{H:List aa}{X:Prop}(hx:∀h,gP H h->X)(h:X->G n ds F K σ H):G n ds F K σ H:= .mk λa w e s=>by
 obtain⟨hh,st,le,_⟩:=s.own;exact h (hx (j7 w) (cq st le)) a w e s
theorem gP.nth:∀{H:List aa} {h:Hp} (i:Nat) {A:aa},gP H h->H[i]?=some A->∃k,A k/\Le k h:=by
 intro H
 induction H with
 |nil=>intro h i A _ e;simp at e
 |cons B r ih=>
  intro h i A ao e;cases i with
  |zero=>simp only[List.getElem?_cons_zero,Option.some.injEq]at e;subst e;exact ao.1
  |succ i=>exact ih i ao.2 (by simpa using e)
theorem tJ{L:List aa}{h:Hp}(o:∃k,aG L k/\Le k h):gP L h:=by
 obtain⟨k,p,l⟩:=o;exact cq p l
theorem se{h:Hp}{b e:Nat}{cs:List Value}(o:∃k,af b e cs k/\Le k h):gg h (some ⟨b,0,none⟩) cs:=by
 obtain⟨k,p,l⟩:=o;have:=(qz (i:=0) p).mono l;simpa using this
end
end Go.dG
namespace Go.dG
open Go
theorem o8{α:Type}(l:List α): []++l=l:=rfl
theorem cap{α:Type}(a:α)(l m:List α):(a::l)++m=a::(l++m):=rfl
theorem aS{A B:Prop}(h:A)(f:A->B:=by
  intro h
  first
   |(simp only[decide_eq_true_eq,decide_eq_false_iff_not,Bool.not_eq_true',Bool.not_eq_false',Bool.not_not,Bool.and_eq_true,Bool.or_eq_true,Bool.and_eq_false_iff,Bool.or_eq_false_iff,Int.not_lt,Int.not_le,Nat.not_lt,Nat.not_le,beq_iff_eq,bne_iff_ne,Bool.not_true,Bool.not_false]at h;exact h)
   |exact h):B:=f h
def Oh (ops:Array Oper)(o:Oper)(σ:aZ):Bool:=
 match o.guard with
 |none=>true
 |some (j,b)=>match(ops[j]?).bind (·.dst)with
  |some t=>match look σ t with
   |some (.bool c)=>match c,b with|true,true=>true|false,false=>true|_,_=>false
   |_=>false
  |none=>false
def gno (ops:Array Oper)(o:Oper)(σ:aZ):Bool:=
 match o.guard with
 |none=>false
 |some (j,b)=>match(ops[j]?).bind (·.dst)with
  |some t=>match look σ t with
   |some (.bool c)=>match c,b with|true,false=>true|false,true=>true|_,_=>false
   |some (.tuple vs)=>vs.isEmpty
   |_=>false
  |none=>false
section
variable {P:Program} {n:Nat} {ds:List Deferred} {F:dC} {Q:Exit->Act->World->Prop} {K:Act->World->Prop} {σ:aZ} {H:List aa} {o:Oper} {d:Nat} {ops:Array Oper} {rest:List Oper}
theorem jT{a:Act}(h:Oh ops o σ=true)(e:Env n ds σ a):Region.wanted o (yielded ops a.tmps)=true:=by
 unfold Oh at h;unfold Region.wanted;cases hg:o.guard with
 |none=>rfl
 |some p=>
  obtain⟨j,b⟩:=p;simp only[hg]at h⊢;cases hj:(ops[j]?).bind (·.dst)with
  |none=>rw[hj]at h;cases h
  |some t=>
   rw[hj]at h;simp only at h;cases ht:look σ t with
   |none=>rw[ht]at h;cases h
   |some v=>
    rw[ht]at h;cases v<;>simp at h
    rename_i c
    rw[yf hj ht e];cases c<;>cases b<;>simp_all
theorem oQ{a:Act}(h:gno ops o σ=true)(e:Env n ds σ a):Region.wanted o (yielded ops a.tmps)=false:=by
 unfold gno at h;unfold Region.wanted;cases hg:o.guard with
 |none=>rw[hg]at h;cases h
 |some p=>
  obtain⟨j,b⟩:=p;simp only[hg]at h⊢;cases hj:(ops[j]?).bind (·.dst)with
  |none=>rw[hj]at h;cases h
  |some t=>
   rw[hj]at h;simp only at h;cases ht:look σ t with
   |none=>rw[ht]at h;cases h
   |some v=>
    rw[ht]at h;cases v<;>simp at h
    ·rename_i c
     rw[yf hj ht e];cases c<;>cases b<;>simp_all
    subst h;have:yielded ops a.tmps j=none:=by simp[yielded,hj,e.slot t _ ht]
    rw[this];simp
theorem Lp (h:G n ds F (λa w=>o.wp P a w (wpList P ops Q rest) Q) σ H)(hg:Oh ops o σ=true:=by exact rfl):G n ds F (wpList P ops Q (o::rest)) σ H:=
 .mk λa w e s=>wpList_step λK hK=>by
  rw[if_pos (jT hg e)];exact Oper.wp_mono hK (h a w e s)
theorem Li{v:Value}(hy:Yv P n ds F σ o v)(h:G n ds F (wpList P ops Q rest) ((d,v)::σ) H)(hg:Oh ops o σ=true:=by exact rfl)(hd:o.dst=some d:=by exact rfl)(hdn:Nat.blt d n=true:=by exact rfl):
  G n ds F (wpList P ops Q (o::rest)) σ H:=Lp (agH hy hd hdn h) hg
theorem Lx (h:G n ds F (wpList P ops Q rest) ((d,undef)::σ) H)(hg:gno ops o σ=true:=by exact rfl)(hd:o.dst=some d:=by exact rfl)(hdn:Nat.blt d n=true:=by exact rfl):G n ds F (wpList P ops Q (o::rest)) σ H:=
 .mk λa w e s=>wpList_step λK hK=>by
  rw[if_neg (by simp[oQ hg e]),hd];exact hK _ _ (h _ w (e.put hdn undef) s)
theorem gK{id:Nat}{l:List Oper}{y:Code}(h:G n ds F (wpList P l.toArray (Exit.then (y.wp P Q) Q) l) σ H):G n ds F ((Code.seq (Code.region id l.toArray false) y).wp P Q) σ H:=aw (fi h)
theorem g_ne{K:Act->World->Prop}(h:G n ds F K σ H):G n ds F (wpList P ops (Exit.then K Q) []) σ H:=aF (BP h)
theorem zT{id:Nat}{As R:List aa}(hm:P.follows .mixedOrders=true)(de:iI H As R)
  (h:∀F':dC,Le F.h F'.h->gP As F'.h->zx F As F'->G n ds F' (wpAnyH P .any ops Q (cJ F') ops.size (Array.replicate ops.size false)) σ R):G n ds F ((Code.region id ops true).wp P Q) σ H:=adw hm rfl de h
def abh (ops:Array Oper)(listed:Array Bool)(i:Nat):Bool:=Region.noSelect ops&&(Region.ready .any ops listed).contains i&&Region.free .any ops listed i
theorem KX{listed:Array Bool}{i:Nat}(h:abh ops listed i=true):Bm ops listed i (listed.setIfInBounds i true)=true:=by
 unfold Bm;unfold abh at h;rw[h];simp
theorem Dt{listed:Array Bool}{fuel:Nat}{oi:Oper}{v:Value}(i:Nat)(hi:ops[i]?=some oi)(hy:Yv P n ds F σ oi v)(h:G n ds F (wpAnyH P .any ops Q (cJ F) fuel (listed.setIfInBounds i true)) ((d,v)::σ) H)
  (nj:abh ops listed i=true:=by kernel_rfl) (po:oK Q:=by repeat (first|with_reducible exact Xv|with_reducible apply Xu|with_reducible apply S9|exact λ_ _ _ _ _ q=>q)) (hg:Oh ops oi σ=true:=by exact rfl) (hd:oi.dst=some d:=by exact rfl) (hdn:Nat.blt d n=true:=by exact rfl):
  G n ds F (wpAnyH P .any ops Q (cJ F) (fuel+1) listed) σ H:=
 T9 (KX nj) hi po (λa e=> .inl ⟨jT hg e,λw hw=>hy a w e hw⟩) (λa e=>by rw[hd];exact e.put hdn v) h
theorem Dn{listed:Array Bool}{fuel:Nat}{S:World->Prop}(i:Nat)(h:G n ds F (wpOp P ops Q i (λa' w'=>S w'/\wpAnyH P .any ops Q S fuel (listed.setIfInBounds i true) a' w')) σ H)(hr:Region.ready .any ops listed= [i]:=by kernel_rfl):
  G n ds F (wpAnyH P .any ops Q S (fuel+1) listed) σ H:=ads hr h
theorem D2{listed:Array Bool}{fuel:Nat}{S:World->Prop}(i j:Nat)
  (h1:G n ds F (wpOp P ops Q i (λa' w'=>S w'/\wpAnyH P .any ops Q S fuel (listed.setIfInBounds i true) a' w')) σ H)
  (h2:G n ds F (wpOp P ops Q j (λa' w'=>S w'/\wpAnyH P .any ops Q S fuel (listed.setIfInBounds j true) a' w')) σ H) (hr:Region.ready .any ops listed= [i,j]:=by kernel_rfl):G n ds F (wpAnyH P .any ops Q S (fuel+1) listed) σ H:=adq hr h1 h2
theorem Do{i:Nat}{oi:Oper}{K:Act->World->Prop}(hi:ops[i]?=some oi)(h:G n ds F (λa w=>oi.wp P a w K Q) σ H)(hg:Oh ops oi σ=true:=by exact rfl):G n ds F (wpOp P ops Q i K) σ H:=by
 refine .mk λa w e s=> ?_;unfold wpOp;simp only[hi,jT hg e,if_true];exact .inl (h a w e s)
theorem Mv{x:Operand}{v:Value}(ho:o.op= .move x:=by exact rfl)(hx:bJ σ x=some v:=by exact rfl):Yv P n ds F σ o v:=abX ho hx
theorem As{x:Operand}{v:Value}(ho:o.op= .assign x:=by exact rfl)(hx:bJ σ x=some v:=by exact rfl):Yv P n ds F σ o v:=R5 ho hx
theorem Pt{c x y:Operand}{b:Bool}{v:Value}(ho:o.op= .pick c x y:=by exact rfl)(hc:bJ σ c=some (.bool b):=by exact rfl)(hb:b=true:=by exact rfl)(hx:bJ σ x=some v:=by exact rfl):Yv P n ds F σ o v:=RX ho hc hb hx
theorem Pf{c x y:Operand}{b:Bool}{v:Value}(ho:o.op= .pick c x y:=by exact rfl)(hc:bJ σ c=some (.bool b):=by exact rfl)(hb:b=false:=by exact rfl)(hx:bJ σ y=some v:=by exact rfl):Yv P n ds F σ o v:=RY ho hc hb hx
theorem Nc{x:Operand}{ad:Addr}(ho:o.op= .nilCheck x:=by exact rfl)(hx:bJ σ x=some (.pointer (some ad)):=by exact rfl):Yv P n ds F σ o (.pointer (some ad)):=Ht ho hx
theorem Fa{s f k b i:Nat}{x:Operand}(hk:ak P s f=some k)(ho:o.op= .fieldAddr s x f:=by exact rfl)(hx:bJ σ x=some (.pointer (some ⟨b,i,none⟩)):=by exact rfl):Yv P n ds F σ o (.pointer (some ⟨b,i+k,none⟩)):=EX hk ho hx
theorem Fam{s f k j:Nat}{x:Operand}{a:Option Addr}(hk:ak P s f=some k)(ho:o.op= .fieldAddr s x f:=by exact rfl)(hx:bJ σ x=some (.pointer (a.map (·.add j))):=by exact rfl)(hs:a.isSome=true:=by first|rfl|assumption|exact gg.Qe (by assumption) (by omega)):Yv P n ds F σ o (.pointer (a.map (·.add (j+k)))):=
 wq hk ho hx hs
theorem Ix{t e sz m:Nat}{x y:Operand}{a:Option Addr}{l c j:Nat}{k:IntKind}{i:Int}(ht:dK P t=some (e,sz))(ho:o.op= .indexAddr t x y:=by exact rfl)(hx:bJ σ x=some (.slice a l c):=by exact rfl)(hy:bJ σ y=some (.int k i):=by exact rfl)
  (hj:i=(j:Int):=by exact rfl) (hl:j<l:=by first|omega|(simp only[List.length_append,List.length_cons,List.length_nil,List.length_take,List.length_drop];omega)) (hm:j*sz=m:=by first|exact Nat.mul_one _|rfl) (hs:a.isSome=true:=by first|rfl|assumption|exact gg.Qe (by assumption) (by omega)):
  Yv P n ds F σ o (.pointer (a.map (·.add m))):=I5 ht ho hx hy hj hl hm hs
theorem Ex{x:Operand}{i:Nat}{vs:Array Value}{v:Value}(ho:o.op= .extract x i:=by exact rfl)(hx:bJ σ x=some (.tuple vs):=by exact rfl)(hv:vs.toList[i]?=some v:=by exact rfl):Yv P n ds F σ o v:=KS ho hx hv
theorem Nt{t:TypeId}{x:Operand}{b:Bool}(ho:o.op= .unOp .not t x:=by exact rfl)(hx:bJ σ x=some (.bool b):=by exact rfl):Yv P n ds F σ o (.bool (!b)):=ahn ho hx
theorem Ng{t:TypeId}{x:Operand}{k:IntKind}{i z:Int}(ho:o.op= .unOp .neg t x:=by exact rfl)(hx:bJ σ x=some (.int k i):=by exact rfl)(hz:k.wrap (0-i)=z:=by first|exact wrap_i64 (by omega)|rfl):Yv P n ds F σ o (.int k z):=aho ho hx hz
theorem Im{op:BinOp}{t yt:TypeId}{x y:Operand}{k:IntKind}{i j z:Int}(ho:o.op= .binOp op t x y yt:=by exact rfl)(hx:bJ σ x=some (.int k i):=by exact rfl)(hy:bJ σ y=some (.int k j):=by exact rfl)
  (hz:gG op k i j=some z:=by first|exact congrArg some (wrap_i64 (by omega))|exact congrArg some (wrap_u64 (by omega))|exact congrArg some (wrap_u32 (by omega))|exact congrArg some (wrap_u16 (by omega))|exact congrArg some (wrap_u8 (by omega))|exact congrArg some (wrap_i32 (by omega))|exact rfl):Yv P n ds F σ o (.int k z):=xj ho hx hy hz
theorem Cm{op:BinOp}{t yt:TypeId}{x y:Operand}{k:IntKind}{i j:Int}{b:Bool}(ho:o.op= .binOp op t x y yt:=by exact rfl)(hx:bJ σ x=some (.int k i):=by exact rfl)(hy:bJ σ y=some (.int k j):=by exact rfl)(hz:IV op i j=some b:=by exact rfl):Yv P n ds F σ o (.bool b):=ahs ho hx hy hz
theorem Sh{t yt:TypeId}{x y:Operand}{k k':IntKind}{i j z:Int}(s:Nat)(ho:o.op= .binOp .shl t x y yt:=by exact rfl)(hx:bJ σ x=some (.int k i):=by exact rfl)(hy:bJ σ y=some (.int k' j):=by exact rfl)(hj:j=(s:Int):=by exact rfl)(hz:k.wrap (i*2^(min s k.bits))=z:=by exact rfl):Yv P n ds F σ o (.int k z):=ahm ho hx hy hj hz
theorem Sr{t yt:TypeId}{x y:Operand}{k k':IntKind}{i j z:Int}(s:Nat)(ho:o.op= .binOp .shr t x y yt:=by exact rfl)(hx:bJ σ x=some (.int k i):=by exact rfl)(hy:bJ σ y=some (.int k' j):=by exact rfl)(hj:j=(s:Int):=by exact rfl)(hz:i.fdiv (2^(min s k.bits))=z:=by exact rfl):Yv P n ds F σ o (.int k z):=ahl ho hx hy hj hz
theorem Cv{s t:TypeId}{x:Operand}{k k':IntKind}{i z:Int}(ht:P.underlying t=some (.int k))(hs:(P.underlying s).isSome=true)(ho:o.op= .convert s t x:=by exact rfl)(hx:bJ σ x=some (.int k' i):=by exact rfl)
  (hz:k.wrap i=z:=by first|exact wrap_i64 (by omega)|exact wrap_u64 (by omega)|exact wrap_u32 (by omega)|exact wrap_u16 (by omega)|exact wrap_u8 (by omega)|exact wrap_i32 (by omega)|exact rfl):Yv P n ds F σ o (.int k z):=abZ ht hs ho hx hz
theorem Sq{op:BinOp}{t yt:TypeId}{x y:Operand}{i j:List UInt8}{b:Bool}(ho:o.op= .binOp op t x y yt:=by exact rfl)(hx:bJ σ x=some (bD i):=by exact rfl)(hy:bJ σ y=some (bD j):=by exact rfl)
  (hop:(op= .eql/\b=decide (i=j))\/(op= .neq/\b= !decide (i=j)):=by first|exact .inl ⟨rfl,rfl⟩|exact .inr ⟨rfl,rfl⟩):Yv P n ds F σ o (.bool b):=WC ho hx hy hop
theorem Pn{op:BinOp}{t yt e:TypeId}{x y:Operand}{p:Option Addr}{b:Bool}(ht:P.underlying t=some (.pointer e))(ho:o.op= .binOp op t x y yt:=by exact rfl)(hx:bJ σ x=some (.pointer p):=by exact rfl)(hy:bJ σ y=some (.pointer none):=by exact rfl)
  (hop:(op= .eql/\b=p.isNone)\/(op= .neq/\b= !p.isNone):=by first|exact .inl ⟨rfl,rfl⟩|exact .inr ⟨rfl,rfl⟩):Yv P n ds F σ o (.bool b):=RW ht ho hx hy hop
theorem Ln{t:TypeId}{x:Operand}{a:Option Addr}{l c:Nat}{ek:TypeId×Nat}(ht:dK P t=some ek)(ho:o.op= .call {callee:= .builtin .len,args:= #[x],argTypes:= #[t]}:=by exact rfl)(hx:bJ σ x=some (.slice a l c):=by exact rfl):Yv P n ds F σ o (.int .i64 l):=ahr ht ho hx
theorem Ls{t:TypeId}{x:Operand}{l:List UInt8}(ht:P.underlying t=some .string)(ho:o.op= .call {callee:= .builtin .len,args:= #[x],argTypes:= #[t]}:=by exact rfl)(hx:bJ σ x=some (bD l):=by exact rfl):Yv P n ds F σ o (.int .i64 l.length):=abY ht ho hx
theorem Mi{x y:Operand}{k:IntKind}{i j:Int}{rT:Array TypeId}(ho:o.op= .call {callee:= .builtin .min,args:= #[x,y],argTypes:=rT}:=by exact rfl)(hx:bJ σ x=some (.int k i):=by exact rfl)(hy:bJ σ y=some (.int k j):=by exact rfl):Yv P n ds F σ o (.int k (min i j)):=ahp ho hx hy
theorem Ma{x y:Operand}{k:IntKind}{i j:Int}{rT:Array TypeId}(ho:o.op= .call {callee:= .builtin .max,args:= #[x,y],argTypes:=rT}:=by exact rfl)(hx:bJ σ x=some (.int k i):=by exact rfl)(hy:bJ σ y=some (.int k j):=by exact rfl):Yv P n ds F σ o (.int k (max i j)):=ahq ho hx hy
theorem Bd{t:TypeId}{pl:List (Nat×Nat)}{zs vs cs:List Value}{parts:List (Nat×Operand)}(hz:bX P t=some zs)(hpl:jc P t=some pl)(ho:o.op= .build t parts.toArray:=by exact rfl)(hv:ki σ (parts.map (·.2))=some vs:=by exact rfl)
  (hc:o5 (λi=>pl[i]?) zs ((parts.map (·.1)).zip vs)=some cs:=by exact rfl):Yv P n ds F σ o (.agg cs.toArray):=WG hz hpl ho hv hc
theorem Sl{t e sz:TypeId}{x:Operand}{lo hi mx:Option Operand}{a:Option Addr}{len cap:Nat}(l hh m:Nat)(ht:dK P t=some (e,sz))(ho:o.op= .slice t x lo hi mx:=by exact rfl)(hx:bJ σ x=some (.slice a len cap):=by exact rfl)
  (Zm:C6 σ lo 0 l:=by first|exact rfl|exact⟨_,_,rfl,rfl⟩|exact⟨_,_,rfl,by omega⟩) (hbh:C6 σ hi len hh:=by first|exact rfl|exact⟨_,_,rfl,rfl⟩|exact⟨_,_,rfl,by omega⟩) (Zl:C6 σ mx cap m:=by first|exact rfl|exact⟨_,_,rfl,rfl⟩|exact⟨_,_,rfl,by omega⟩)
  (h1:l<=hh:=by first|omega|(simp;omega)) (h2:hh<=m:=by first|omega|(simp;omega)) (h3:m<=cap:=by first|omega|(simp;omega)) (FT:mx.isSome=true->hi.isSome=true:=by simp):Yv P n ds F σ o (.slice (Be a l m (l*sz)) (hh-l) (m-l)):=WD l hh m ht ho hx Zm hbh Zl h1 h2 h3 FT
theorem Ts{s t:TypeId}{x:Operand}{a:Option Addr}{l:List UInt8}{m c sz:Nat}{e:TypeId}(hs:dK P s=some (e,sz))(he:P.underlying e=some (.int .u8))(ht:P.underlying t=some .string)(ho:o.op= .convert s t x:=by exact rfl)
  (hx:bJ σ x=some (.slice a m c):=by exact rfl) (hm:m=l.length:=by first|rfl|assumption) (hr:gg F.h a (ax l):=by assumption):Yv P n ds F σ o (bD l):=Hs hs he ht ho hx hm hr
theorem Cs{s t:TypeId}{x:Operand}{l:List UInt8}(hs:P.underlying s=some .string)(ht:P.underlying t=some .string)(ho:o.op= .convert s t x:=by exact rfl)(hx:bJ σ x=some (bD l):=by exact rfl):Yv P n ds F σ o (bD l):=WE hs ht ho hx
def AY (P:Program)(t:TypeId):Option (Nat×TypeId×Nat):=
 match P.underlying t with
 |some (.array k e)=>match P.info? e with
  |some i=>some (k,e,i.size)
  |none=>none
 |_=>none
theorem R4{t e sz k m b i j:Nat}{x y:Operand}{kd:IntKind}{z:Int}(ht:AY P t=some (k,e,sz))(ho:o.op= .indexAddr t x y)(hx:bJ σ x=some (.pointer (some ⟨b,i,none⟩)))(hy:bJ σ y=some (.int kd z))(hj:z=(j:Int))(hl:j<k)(hm:j*sz=m):Yv P n ds F σ o (.pointer (some ⟨b,i+m,none⟩)):=
 λa w en fr=>by
  unfold AY at ht;cases hu:P.underlying t with
  |none=>simp[hu]at ht
  |some dsc=>
   cases dsc<;>simp[hu]at ht
   rename_i k' e'
   cases hi:P.info? e' with
   |none=>simp[hi]at ht
   |some inf=>
    simp[hi]at ht;obtain⟨rfl,rfl,rfl⟩:=ht;subst hj;subst hm;simp[execOp,ho,Instr.indexAt,en.eval hx,en.eval hy,asIntOf,run_underlying hu,sizeOf,typeInfo,hi,hl,add_lit,Instr.sureAddr]
theorem Ia{t e sz k m b i j:Nat}{x y:Operand}{kd:IntKind}{z:Int}(ht:AY P t=some (k,e,sz))(ho:o.op= .indexAddr t x y:=by exact rfl)(hx:bJ σ x=some (.pointer (some ⟨b,i,none⟩)):=by exact rfl)(hy:bJ σ y=some (.int kd z):=by exact rfl)(hj:z=(j:Int):=by exact rfl)
  (hl:j<k:=by omega) (hm:j*sz=m:=by first|exact Nat.mul_one _|rfl):Yv P n ds F σ o (.pointer (some ⟨b,i+m,none⟩)):=R4 ht ho hx hy hj hl hm
def On (F:dC)(H:List aa)(p:Option Addr)(v:Value):Prop:=∃ad,p=some ad/\∀h,Le F.h h->gP H h->eZ h ad=some v
theorem r9{A:aa}{R:List aa}(s:fD H A R):∀h,gP H h->∃k,A k/\Le k h:=by
 induction s with
 |here=>exact λh x=>x.1
 |there _ ih=>exact λh x=>ih h x.2
theorem QI{b i:Nat}{e:TypeId}{cs:List Value}{R:List aa}{v:Value}(s:fD H (af b e cs) R)(hv:cs[i]?=some v):On F H (some ⟨b,i,none⟩) v:=
 ⟨_,rfl,λh _ ao=>by obtain⟨k,p,l⟩:=r9 s h ao;exact cU l (fJ p hv)⟩
theorem QJ{a:Option Addr}{k cap e sz:Nat}{v:Value}{cells:List Value}{R:List aa}(hs:a.isSome=true)(s:fD H (own a cap e sz cells) R)(hv:cells[k]?=some v):On F H (a.map (·.add k)) v:=by
 obtain⟨ad,rfl⟩:=Option.isSome_iff_exists.1 hs;refine⟨_,rfl,λh _ ao=> ?_⟩;obtain⟨m,p,l⟩:=r9 s h ao;obtain⟨ad',e1,e2⟩:=oD p k v hv;cases e1;exact cU l e2
theorem xl{b i:Nat}{e:TypeId}{cs:List Value}{v:Value}(hp:∃k,af b e cs k/\Le k F.h)(hv:cs[i]?=some v):On F H (some ⟨b,i,none⟩) v:=by
 obtain⟨k,p,l⟩:=hp;exact⟨_,rfl,λh le _=>cU (l.trans le) (fJ p hv)⟩
theorem Dx{a:Option Addr}{k:Nat}{v:Value}{cells:List Value}(hr:gg F.h a cells)(hv:cells[k]?=some v):On F H (a.map (·.add k)) v:=by
 obtain⟨ad,rfl,hc⟩:=hr k v hv;exact⟨_,rfl,λh le _=>cU le hc⟩
theorem IL{a:Option Addr}{k:Nat}{l:List UInt8}(hr:gg F.h a (ax l))(hk:k<l.length):On F H (a.map (·.add k)) (.int .u8 (FG l k:Int)):=Dx hr (N4 hk)
theorem Wq{ad:Addr}{v:Value}(hv:eZ F.h ad=some v):On F H (some ad) v:=⟨_,rfl,λh le _=>cU le hv⟩
theorem oL{t:TypeId}{x:Operand}{p:Option Addr}{v:Value}(hs:db P t=true)(h:G n ds F K ((d,v)::σ) H)(ho:o.op= .load t x:=by exact rfl)(hd:o.dst=some d:=by exact rfl)(hx:bJ σ x=some (.pointer p):=by exact rfl)
  (hk:On F H p v:=by
   first
    |exact QI (by repeat (first|exact fD.here|apply fD.there)) (by first|exact rfl|assumption)
    |exact Dx (by assumption) (by first|assumption|exact rfl)
    |exact IL (by assumption) (by omega)
    |exact xl (by assumption) (by first|exact rfl|assumption)
    |exact QJ (by first|rfl|assumption) (by repeat (first|exact fD.here|apply fD.there)) (by first|assumption|exact rfl)
    |exact Wq (by assumption)) (hdn:Nat.blt d n=true:=by exact rfl):G n ds F (λa w=>o.wp P a w K Q) σ H:=by
 obtain⟨ad,rfl,hv⟩:=hk;exact Eb hs ho hd hx (λw s=>by obtain⟨hh,st,le,_⟩:=s.own;exact hv _ s.frame (cq st le)) hdn h
theorem Lf{t:TypeId}{x:Operand}{p:Option Addr}{v:Value}(hs:db P t=true)(ho:o.op= .load t x:=by exact rfl)(hx:bJ σ x=some (.pointer p):=by exact rfl)
  (hk:On F [] p v:=by
   first
    |exact Dx (by assumption) (by first|assumption|exact rfl)
    |exact IL (by assumption) (by omega)
    |exact xl (by assumption) (by first|exact rfl|assumption)
    |exact Wq (by assumption)):Yv P n ds F σ o v:=by
 obtain⟨ad,rfl,hv⟩:=hk;exact I4 hs ho hx (hv _ (Le.refl _) trivial)
def xh (F:dC)(H:List aa)(p:Option Addr)(_k:Nat)(vs:List Value):Prop:=∃ad,p=some ad/\∀h,Le F.h h->gP H h->∀j v,vs[j]?=some v->eZ h (ad.add j)=some v
theorem p7{cs vs:List Value}{i k j:Nat}{v:Value}(hv:(cs.drop i).take k=vs)(hj:vs[j]?=some v):cs[i+j]?=some v:=by
 rw[<-hv,List.getElem?_take]at hj
 split at hj
 ·simpa using hj
 cases hj
theorem Cq{b i k:Nat}{e:TypeId}{cs vs:List Value}{R:List aa}(s:fD H (af b e cs) R)(hv:(cs.drop i).take k=vs):xh F H (some ⟨b,i,none⟩) k vs:=
 ⟨_,rfl,λh _ ao j v hj=>by obtain⟨m,p,l⟩:=r9 s h ao;rw[add_lit];exact cU l (fJ p (p7 hv hj))⟩
theorem Ep{b k:Nat}{e:TypeId}{cs:List Value}{R:List aa}(s:fD H (af b e cs) R)(hv:cs.length=k):xh F H (some ⟨b,0,none⟩) k cs:=
 Cq s (by rw[List.drop_zero,List.take_of_length_le (by omega)])
theorem Bu{b i k:Nat}{e:TypeId}{cs vs:List Value}(hp:∃m,af b e cs m/\Le m F.h)(hv:(cs.drop i).take k=vs):xh F H (some ⟨b,i,none⟩) k vs:=by
 obtain⟨m,p,l⟩:=hp;exact⟨_,rfl,λh le _ j v hj=>by rw[add_lit];exact cU (l.trans le) (fJ p (p7 hv hj))⟩
theorem Bt{a:Option Addr}{i k:Nat}{cells vs:List Value}(hr:gg F.h a cells)(hv:(cells.drop i).take k=vs)(h0:a.isSome=true):xh F H (a.map (·.add i)) k vs:=by
 obtain⟨ad,rfl⟩:=Option.isSome_iff_exists.1 h0;refine⟨_,rfl,λh le _ j v hj=> ?_⟩;obtain⟨ad',e1,e2⟩:=hr _ v (p7 hv hj);cases e1;rw[add_add];exact cU le e2
theorem JQ{a:Option Addr}{i k cap e sz:Nat}{cells vs:List Value}{R:List aa}(h0:a.isSome=true)(s:fD H (own a cap e sz cells) R)(hv:(cells.drop i).take k=vs):xh F H (a.map (·.add i)) k vs:=by
 obtain⟨ad,rfl⟩:=Option.isSome_iff_exists.1 h0;refine⟨_,rfl,λh _ ao j v hj=> ?_⟩;obtain⟨m,p,l⟩:=r9 s h ao;obtain⟨ad',e1,e2⟩:=oD p _ v (p7 hv hj);cases e1;rw[add_add];exact cU l e2
theorem Aq{t k:TypeId}{x:Operand}{p:Option Addr}{vs:List Value}(hs:cG P t=some k)(ho:o.op= .load t x)(hd:o.dst=some d)(hx:bJ σ x=some (.pointer p))(hk:xh F H p k vs)(hl:vs.length=k)(hdn:Nat.blt d n=true)
  (h:G n ds F K ((d, .agg vs.toArray)::σ) H):G n ds F (λa w=>o.wp P a w K Q) σ H:=by
 obtain⟨ad,rfl,hv⟩:=hk;refine sf hd hdn (λac w en s=> ?_) h;obtain⟨hh,st,le,_⟩:=s.own;have hc:=hv _ s.frame (cq st le);subst hl;simp[execOp,ho,en.eval hx,Instr.loadAt,Instr.sureAddr,loadVar,(fy hs).1,(fy hs).2,run_loadCells_list w _ vs hc]
theorem oLN{t k:TypeId}{x:Operand}{p:Option Addr}{vs:List Value}(hs:cG P t=some k)(h:G n ds F K ((d, .agg vs.toArray)::σ) H)(ho:o.op= .load t x:=by exact rfl)(hd:o.dst=some d:=by exact rfl)(hx:bJ σ x=some (.pointer p):=by exact rfl)
  (hk:xh F H p k vs:=by
   first
    |exact Ep (by repeat (first|exact fD.here|apply fD.there)) (by exact rfl)
    |exact Cq (by repeat (first|exact fD.here|apply fD.there)) (by exact rfl)
    |exact Bt (by assumption) (by first|assumption|exact rfl) (by first|rfl|assumption)
    |exact Bu (by assumption) (by exact rfl)
    |exact JQ (by first|rfl|assumption) (by repeat (first|exact fD.here|apply fD.there)) (by first|assumption|exact rfl))
  (hl:vs.length=k:=by first|rfl|(simp;omega)) (hdn:Nat.blt d n=true:=by exact rfl):G n ds F (λa w=>o.wp P a w K Q) σ H:=Aq hs ho hd hx hk hl hdn h
theorem RZ{t k:TypeId}{x:Operand}{p:Option Addr}{vs:List Value}(hs:cG P t=some k)(ho:o.op= .load t x)(hx:bJ σ x=some (.pointer p))(hk:xh F [] p k vs)(hl:vs.length=k):Yv P n ds F σ o (.agg vs.toArray):=by
 obtain⟨ad,rfl,hv⟩:=hk;intro ac w en fr;have hc:=hv _ fr trivial;subst hl;simp[execOp,ho,en.eval hx,Instr.loadAt,Instr.sureAddr,loadVar,(fy hs).1,(fy hs).2,run_loadCells_list w _ vs hc]
theorem LfN{t k:TypeId}{x:Operand}{p:Option Addr}{vs:List Value}(hs:cG P t=some k)(ho:o.op= .load t x:=by exact rfl)(hx:bJ σ x=some (.pointer p):=by exact rfl)
  (hk:xh F [] p k vs:=by
   first
    |exact Bt (by assumption) (by first|assumption|exact rfl) (by first|rfl|assumption)
    |exact Bu (by assumption) (by exact rfl)) (hl:vs.length=k:=by first|rfl|(simp;omega)):Yv P n ds F σ o (.agg vs.toArray):=RZ hs ho hx hk hl
theorem oS{t:TypeId}{x y:Operand}{b i:Nat}{e:TypeId}{cs:List Value}{f:aa->List aa}{v:Value}(hs:db P t=true)(h:G n ds F K σ (f (af b e (cs.set i v))))(ho:o.op= .store t x y:=by exact rfl)(hd:o.dst=none:=by exact rfl)
  (hx:bJ σ x=some (.pointer (some ⟨b,i,none⟩)):=by exact rfl) (hy:bJ σ y=some v:=by exact rfl) (hu:Pos H (af b e cs) f:=by repeat (first|exact Pos.here|apply Pos.there)) (h1:v.oneCell'=true:=by first|rfl|decide|simp) (hi:i<cs.length:=by first|decide|(simp;done)|(simp;omega)|omega):
  G n ds F (λa w=>o.wp P a w K Q) σ H:=Ea hs ho hd hx hy h1 hu hi h
theorem oSN{t k:TypeId}{x y:Operand}{b i:Nat}{e:TypeId}{cs vs:List Value}{f:aa->List aa}(hs:cG P t=some k)(h:G n ds F K σ (f (af b e (cZ cs i vs))))(ho:o.op= .store t x y:=by exact rfl)(hd:o.dst=none:=by exact rfl)
  (hx:bJ σ x=some (.pointer (some ⟨b,i,none⟩)):=by exact rfl) (hy:bJ σ y=some (.agg vs.toArray):=by exact rfl) (hk:vs.length=k:=by exact rfl) (h1:∀v∈vs,v.oneCell'=true:=by simp[cZ,Value.cells,Value.oneCell',bD])
  (hu:Pos H (af b e cs) f:=by repeat (first|exact Pos.here|apply Pos.there)) (hi:i+vs.length<=cs.length:=by simp[cZ,vN]):G n ds F (λa w=>o.wp P a w K Q) σ H:=uY hs ho hd hx hy hk h1 hu hi h
theorem SP{cs vs:List Value}(h:vs.length=cs.length):cZ cs 0 vs=vs:=by
 rw[mN (by omega)];simp[h]
theorem iF{t k:TypeId}{x y:Operand}{b:Nat}{e:TypeId}{cs vs:List Value}{f:aa->List aa}(hs:cG P t=some k)(h:G n ds F K σ (f (af b e vs)))(ho:o.op= .store t x y:=by exact rfl)(hd:o.dst=none:=by exact rfl)
  (hx:bJ σ x=some (.pointer (some ⟨b,0,none⟩)):=by exact rfl) (hy:bJ σ y=some (.agg vs.toArray):=by exact rfl) (hk:vs.length=k:=by exact rfl) (h1:∀v∈vs,v.oneCell'=true:=by simp[cZ,Value.cells,Value.oneCell',bD])
  (hu:Pos H (af b e cs) f:=by repeat (first|exact Pos.here|apply Pos.there)) (hl:cs.length=k:=by exact rfl):G n ds F (λa w=>o.wp P a w K Q) σ H:=
 uY hs ho hd hx hy hk h1 hu (by omega) (by rw[SP (by omega)];exact h)
theorem oB{t:TypeId}{x:Operand}{v:Value}{cs:List Value}(h:∀b,G n ds F K ((d, .pointer (some ⟨b,0,none⟩))::σ) (af b t cs::H))(ho:o.op= .box t x:=by exact rfl)(hd:o.dst=some d:=by exact rfl)(hx:bJ σ x=some v:=by exact rfl)(hc:v.cells=cs.toArray:=by exact rfl)(hdn:Nat.blt d n=true:=by exact rfl):
  G n ds F (λa w=>o.wp P a w K Q) σ H:=ac2 ho hd hx hc hdn h
theorem oA{t:TypeId}{cs:List Value}(hz:bX P t=some cs)(h:∀b,G n ds F K ((d, .pointer (some ⟨b,0,none⟩))::σ) (af b t cs::H))(ho:o.op= .alloc t:=by exact rfl)(hd:o.dst=some d:=by exact rfl)(hdn:Nat.blt d n=true:=by exact rfl):
  G n ds F (λa w=>o.wp P a w K Q) σ H:=Tk hz ho hd hdn h
theorem oT{t:TypeId}{e nt len:Nat}{z vs:List Value}{parts:List (Nat×Operand)}(ht:ux P t=some (e,1,nt,z))(h:∀b,G n ds F K ((d, .slice (some ⟨b,0,none⟩) len len)::σ) (af b e vs::H))(ho:o.op= .buildSlice t len parts.toArray:=by exact rfl)(hd:o.dst=some d:=by exact rfl)(hv:ki σ (parts.map (·.2))=some vs:=by exact rfl)
  (hk:Nat.ble (len*1) 16777216=true:=by exact rfl) (hi:parts.map (·.1)=List.range' 0 vs.length:=by exact rfl) (hlen:vs.length=len:=by exact rfl) (h1:∀v∈vs,v.oneCell'=true:=by simp[Value.oneCell',bD]) (hdn:Nat.blt d n=true:=by exact rfl):
  G n ds F (λa w=>o.wp P a w K Q) σ H:=XJ ht ho hd hv hk hi hlen h1 hdn h
theorem oT1{t:TypeId}{e sz nt:Nat}{z cs:List Value}{x:Operand}(ht:ux P t=some (e,sz,nt,z))(h:∀b,G n ds F K ((d, .slice (some ⟨b,0,none⟩) 1 1)::σ) (af b e cs::H))(ho:o.op= .buildSlice t 1 #[(0,x)]:=by exact rfl)(hd:o.dst=some d:=by exact rfl)(hx:bJ σ x=some (.agg cs.toArray):=by exact rfl)
  (hl:cs.length=sz:=by exact rfl) (hk:Nat.ble (1*sz) 16777216=true:=by exact rfl) (hdn:Nat.blt d n=true:=by exact rfl):G n ds F (λa w=>o.wp P a w K Q) σ H:=XK ht ho hd hx hl hk hdn h
theorem oMk{t e e':TypeId}{x:Operand}{b i l c:Nat}{cs:List Value}{R:List aa}(ht:P.underlying t=some (.slice e))(he:P.underlying e=some (.int .u8))(h:G n ds F K ((d, .slice (some ⟨b,i,none⟩) l c)::σ) (af b e' cs::R))(ho:o.op= .convert t t x:=by exact rfl)(hd:o.dst=some d:=by exact rfl)
  (hx:bJ σ x=some (.slice (some ⟨b,i,none⟩) l c):=by exact rfl) (hs:fD H (af b e' cs) R:=by repeat (first|exact fD.here|apply fD.there)) (hdn:Nat.blt d n=true:=by exact rfl):G n ds F (λa w=>o.wp P a w K Q) σ H:=XH ht he ho hd hx hs hdn h
theorem oM{t:TypeId}{e sz nt:Nat}{z:List Value}{x y:Operand}{k k':IntKind}{i j:Int}(l c:Nat)(ht:ux P t=some (e,sz,nt,z))(h:∀b,G n ds F K ((d, .slice (some ⟨b,0,none⟩) l c)::σ) (af b e (hU z (c*sz))::H))(ho:o.op= .makeSlice t x y:=by exact rfl)(hd:o.dst=some d:=by exact rfl)
  (hx:bJ σ x=some (.int k i):=by exact rfl) (hy:bJ σ y=some (.int k' j):=by exact rfl) (yY:i=(l:Int):=by first|omega|(simp;omega)) (hj:j=(c:Int):=by first|omega|(simp;omega)) (hlc:l<=c:=by first|omega|(simp;omega)) (hc:c*nt<=281474976710656:=by first|omega|(simp;omega))
  (rB:c<=9223372036854775807:=by first|omega|(simp;omega)) (hdn:Nat.blt d n=true:=by exact rfl):G n ds F (λa w=>o.wp P a w K Q) σ H:=XI ht ho hd hx hy yY hj hlc hc rB hdn h
theorem oC{f:FuncId}{xs:List Operand}{vs:List Value}{rT:Array TypeId}{pre:Hp->Prop}{A2 R:List aa}{T:Value->List aa->Prop}(kW:aC P f=true)(ho:o.op= .call {callee:= .value (.func f),args:=xs.toArray,argTypes:=rT})(hv:ki σ xs=some vs)(hc:aO P f vs pre A2 T)(de:iI H A2 R)(iH:∀h,Le F.h h->gP R h->pre h)
  (h:∀v H',T v H'->G n ds F K ((d,v)::σ) (H'++R)) (hd:o.dst=some d:=by exact rfl) (hdn:Nat.blt d n=true:=by exact rfl):
  G n ds F (λa w=>o.wp P a w K Q) σ H:=XL kW ho hd hv hc de iH hdn h
theorem Eh{A B:List aa}(h:∀h,ai A h->ai B h:=by
  first
   |exact λ_ x=>x
   |(apply eA;(repeat' (first|exact iI.nil|apply iI.cons|exact fD.here|apply fD.there));done)
   |(refine aeD ?_;simp;done)):∀h,ai A h->ai B h:=h
theorem Hh{K:Act->World->Prop}{H':List aa}(h:G n ds F K σ H')(hh:∀h,ai H h->ai H' h:=by exact Eh):G n ds F K σ H:=au hh h
theorem Sb{A B:aZ}(h:ru A B:=by
  repeat' first
   |exact trivial
   |refine And.intro ?_ ?_
   |exact rfl
   |(refine congrArg (λq=>some (Value.int _ q)) ?_;omega)
   |(refine congrArg (λq=>some (Value.slice _ q _)) ?_;omega)
   |(refine congrArg (λq=>some (Value.bool q)) ?_;rw[Bool.eq_iff_iff];simp only[Bool.or_eq_true,Bool.and_eq_true,decide_eq_true_eq,Bool.not_eq_true',decide_eq_false_iff_not,Bool.false_eq_true,true_iff,false_iff,iff_true,iff_false];first|omega|grind)
   |(refine congrArg (λq=>some (Value.bool q)) ?_;simp[*];done)):ru A B:=h
theorem Lo{ι:Type}{c:Code}(kN:List Nat)(I:ι->Prop)(L:ι->aZ)(HI:ι->List aa)(μ:ι->Nat)(i₀:ι)(h0:I i₀)
  (round:∀i,I i->G n ds F (c.wp P (Exit.then (qE n ds F kN σ I L HI μ i) Q)) (L i++fQ kN σ) (HI i)) (hs:ru (L i₀) σ:=by exact Sb) (hh:∀h,ai H h->ai (HI i₀) h:=by exact Eh):G n ds F ((Code.loop c).wp P Q) σ H:=
 YB kN I L HI μ i₀ h0 hs hh round
theorem Ro{ι:Type}{kN:List Nat}{σ0:aZ}{I:ι->Prop}{L:ι->aZ}{HI:ι->List aa}{μ:ι->Nat}{i:ι}(j:ι)(hI:I j)(hm:μ j<μ i)(hs:ru (L j) σ:=by exact Sb)(hk:fQ kN σ=fQ kN σ0:=by exact rfl)(hh:∀h,ai H h->ai (HI j) h:=by exact Eh):
  G n ds F (Exit.then (qE n ds F kN σ0 I L HI μ i) Q .normal) σ H:=U4 j hI hm hs hk hh
theorem Me{ι:Type}{kN:List Nat}{σ0:aZ}{I:ι->Prop}{L:ι->aZ}{HI:ι->List aa}(j:ι)(hI:I j)(hs:ru (L j) σ:=by exact Sb)(hk:fQ kN σ=fQ kN σ0:=by exact rfl)(hh:∀h,ai H h->ai (HI j) h:=by exact Eh):
  G n ds F (Exit.then (IZ n ds F kN σ0 I L HI) Q .normal) σ H:=aiJ j hI hs hk hh
theorem Rt{fn:Func}{R:Value->List aa->Prop}{t:Nat}{v:Value}(H':List aa)(hr:fn.results= #[.tmp t])(hR:R v H')(hv:look σ t=some v:=by exact rfl)(hh:∀h,ai H h->ai H' h:=by exact Eh):
  G n [] F (bodyPost P fn (λe w'=>∃v H',e= .returned v/\R v H'/\St F H' w') .ret) σ H:=aiI hr hv hR hh
theorem Rt0{fn:Func}{R:Value->List aa->Prop}(H':List aa)(hr:fn.results= #[])(hR:R (.tuple #[]) H')(hh:∀h,ai H h->ai H' h:=by exact Eh):
  G n [] F (bodyPost P fn (λe w'=>∃v H',e= .returned v/\R v H'/\St F H' w') .ret) σ H:=aeI hr hR hh
theorem jW{fn:Func}{R:Value->List aa->Prop}(H':List aa)(hr:fn.results= #[])(hR:R (.tuple #[]) H')(hh:∀h,ai H h->ai H' h:=by exact Eh):
  G n [] F (bodyPost P fn (λe w'=>∃v H',e= .returned v/\R v H'/\St F H' w') .normal) σ H:=aeJ hr hR hh
theorem jE{fn:Func}{R:Value->List aa->Prop}{t u:Nat}{v x:Value}(H':List aa)(hr:fn.results= #[.tmp t, .tmp u])(hR:R (.tuple #[v,x]) H')(hv:look σ t=some v:=by exact rfl)(hx:look σ u=some x:=by exact rfl)(hh:∀h,ai H h->ai H' h:=by exact Eh):
  G n [] F (bodyPost P fn (λe w'=>∃v H',e= .returned v/\R v H'/\St F H' w') .ret) σ H:=aeH hr hv hx hR hh
theorem FX{fn:Func}{T:Value->List aa->Prop}{t ty b i k:Nat}{e:TypeId}{cs vs:List Value}{R:List aa}(H':List aa)(hs:cG P ty=some k)(hr:fn.results= #[.cell t ty])(hR:T (.agg vs.toArray) H')(ht:look σ t=some (.pointer (some ⟨b,i,none⟩)):=by exact rfl)
  (de:fD H (af b e cs) R:=by repeat (first|exact fD.here|apply fD.there)) (hv:(cs.drop i).take k=vs:=by exact rfl) (hk:vs.length=k:=by exact rfl) (hh:∀h,ai H h->ai H' h:=by exact Eh):G n [] F (bodyPost P fn (λe w'=>∃v H',e= .returned v/\T v H'/\St F H' w') .ret) σ H:=
 aeG hs hr ht de hv hk hR hh
end
end Go.dG
