/- Part Pa of the proof. -/
import Derived.KernelRfl
import Derived.Laws.Pointers
import Derived.OrdersHeld
import Derived.WalkKit
set_option maxRecDepth 100000
namespace Go.dL
open Go
abbrev Hp:=Nat→Option Obj
abbrev aa:=Hp→Prop
abbrev ba:=List (Nat×Value)
def Le (h k:Hp):Prop:=∀b o,h b=some o→k b=some o
def cE (h k:Hp):Prop:=∀b,h b=none∨k b=none
theorem Le.refl (h:Hp):Le h h:=λ_ _ e=>e
theorem Le.trans{h k l:Hp}(a:Le h k)(b:Le k l):Le h l:=λx o e=>b x o (a x o e)
theorem cE.symm{h k:Hp}(d:cE h k):cE k h:=λb=>(d b).symm
theorem cE.left{h h' k:Hp}(d:cE h k)(l:Le h' h):cE h' k:=λb=>by
 cases e:h' b with
 |none=>exact .inl rfl
 |some o=>exact(d b).imp (λx=>by rw[l b o e]at x;cases x) id
theorem cE.right{h k k':Hp}(d:cE h k)(l:Le k' k):cE h k':=(d.symm.left l).symm
def ak:List aa→Hp→Prop
 | [],_=>True
 |A::r,h=>∃h1 h2,cE h1 h2∧Le h1 h∧Le h2 h∧A h1∧ak r h2
structure ee where
 os:Os
 tape:Nat→Question→Nat
 output:Array (Nat×ByteArray)
 h:Hp
 d:Nat
def kh (w:World):Hp:=λb=>w.heap[b]?
structure St (F:ee)(H:List aa)(w:World):Prop where
 os:w.os=F.os
 tape:w.tape=F.tape∧F.d≤w.drawn
 output:w.output=F.output
 frame:Le F.h (kh w)
 own:∃h,ak H h∧Le h (kh w)∧cE h F.h
theorem eF{H:List aa}{h k:Hp}(s:ak H h)(l:Le h k):ak H k:=by
 cases H with
 |nil=>trivial
 |cons A r=>obtain⟨h1,h2,d,l1,l2,a,s⟩:=s;exact⟨h1,h2,d,l1.trans l,l2.trans l,a,s⟩
def gI (h k:Hp):Hp:=λb=>match h b with|some o=>some o|none=>k b
theorem br (h k:Hp):Le h (gI h k):=λb o e=>by simp[gI,e]
theorem bh{h k:Hp}(d:cE h k):Le k (gI h k):=λb o e=>by
 have:h b=none:=(d b).resolve_right (by simp[e]);simp[gI,this,e]
theorem cJ{h k l:Hp}(a:Le h l)(b:Le k l):Le (gI h k) l:=λx o e=>by
 unfold gI at e;cases hx:h x with
 |some o'=>rw[hx]at e;cases e;exact a x _ hx
 |none=>rw[hx]at e;exact b x o e
theorem cE.gI{h k l:Hp}(a:cE h l)(b:cE k l):cE (gI h k) l:=λx=>by
 rcases a x with e|e
 ·rcases b x with e2|e2
  ·exact .inl (by simp[dL.gI,e,e2])
  exact .inr e2
 exact .inr e
theorem dK{A B:aa}{R:List aa}{h:Hp}(s:ak (A::B::R) h):ak (B::A::R) h:=by
 obtain⟨h1,h2,d,l1,l2,a,h3,h4,d',l3,l4,b,s⟩:=s;refine⟨h3,gI h1 h4, ?_,l3.trans l2,cJ l1 (l4.trans l2),b,h1,h4,d.right l4,br _ _,bh (d.right l4),a,s⟩;exact(cE.gI (d.right l3) d'.symm).symm
inductive fE:List aa→aa→List aa→Prop
 |here {A r}:fE (A::r) A r
 |there {A B r r'} (h:fE r A r'):fE (B::r) A (B::r')
theorem aO{A:aa}{R R':List aa}(f:∀h,ak R h→ak R' h){h:Hp}(s:ak (A::R) h):ak (A::R') h:=by
 obtain⟨h1,h2,d,l1,l2,a,s⟩:=s;exact⟨h1,h2,d,l1,l2,a,f _ s⟩
theorem fE.out{H:List aa}{A:aa}{R:List aa}(s:fE H A R):∀h,ak H h→ak (A::R) h:=by
 induction s with
 |here=>exact λh x=>x
 |there _ ih=>exact λh x=>dK (aO ih x)
theorem fE.back{H:List aa}{A:aa}{R:List aa}(s:fE H A R):∀h,ak (A::R) h→ak H h:=by
 induction s with
 |here=>exact λh x=>x
 |there _ ih=>exact λh x=>aO ih (dK x)
inductive Pos:List aa→aa→(aa→List aa)→Prop
 |here {A r}:Pos (A::r) A (λB=>B::r)
 |there {A C r f} (h:Pos r A f):Pos (C::r) A (λB=>C::f B)
theorem Pos.sS{H:List aa}{A:aa}{f:aa→List aa}(u:Pos H A f):∃R,fE H A R∧∀B,fE (f B) B R:=by
 induction u with
 |here=>exact⟨_, .here,λ_=> .here⟩
 |there _ ih=>obtain⟨R,a,b⟩:=ih;exact⟨_,a.there,λB=>(b B).there⟩
theorem St.sub{F:ee}{H H':List aa}{w:World}(f:∀h,ak H h→ak H' h)(s:St F H w):St F H' w:=by
 obtain⟨a,b,c,d,h,x,y,z⟩:=s;exact⟨a,b,c,d,h,f _ x,y,z⟩
theorem St.sS{F:ee}{H R:List aa}{A:aa}{w:World}(s:fE H A R)(h:St F H w):St F (A::R) w:=h.sub s.out
theorem St.oJ{F:ee}{H R:List aa}{A:aa}{w:World}(s:fE H A R)(h:St F (A::R) w):St F H w:=h.sub s.back
theorem bm{A B:aa}{R:List aa}(f:∀h,A h→B h){h:Hp}(s:ak (A::R) h):ak (B::R) h:=by
 obtain⟨h1,h2,d,l1,l2,a,s⟩:=s;exact⟨h1,h2,d,l1,l2,f _ a,s⟩
theorem St.drop{F:ee}{H:List aa}{A:aa}{w:World}(s:St F (A::H) w):St F H w:=
 s.sub λ_ x=>by obtain⟨_,_,_,_,l2,_,s⟩:=x;exact eF s l2
theorem St.get{F:ee}{H:List aa}{A:aa}{w:World}(s:St F (A::H) w):∃h,A h∧Le h (kh w):=by
 obtain⟨_,_,_,_,h,⟨h1,h2,d,l1,l2,a,s⟩,y,z⟩:=s;exact⟨h1,a,l1.trans y⟩
def dY (h:Hp)(a:Addr):Option Value:=
 match h a.block with
 |some (.cells c _ _)=>if a.spot.isSome then none else c[a.off]?
 |_=>none
theorem S6 (w:World)(a:Addr):w.cell? a=dY (kh w) a:=rfl
theorem cX{h k:Hp}(l:Le h k){a:Addr}{v:Value}(e:dY h a=some v):dY k a=some v:=by
 unfold dY at*;cases x:h a.block with
 |none=>simp[x]at e
 |some o=>rw[l _ _ x];rw[x]at e;exact e
theorem kR{h:Hp}{w:World}(l:Le h (kh w)){a:Addr}{v:Value}(e:dY h a=some v):w.cell? a=some v:=cX l e
inductive ag (b:Nat) (e:TypeId) (cs:List Value) (h:Hp):Prop
 |mk (lo hi:Nat) (hf:hi=lo∨cs.length≤lo) (hb:h b=some (.cells cs.toArray e (lo,hi)))
theorem eS{b:Nat}{e:TypeId}{cs:List Value}{h:Hp}(p:ag b e cs h){i:Nat}{v:Value}(hv:cs[i]?=some v):dY h ⟨b,i,none⟩=some v:=by
 obtain⟨lo,hi,_,hb⟩:=p;simp[dY,hb,hv]
theorem r9{b:Nat}{e:TypeId}{cs:List Value}{h:Hp}(p:ag b e cs h){i:Nat}(hi:i<cs.length){w:World}(l:Le h (kh w)):w.frozen? ⟨b,i,none⟩=false:=by
 obtain⟨lo,vN,hf,hb⟩:=p;have:w.heap[b]?=some (.cells cs.toArray e (lo,vN)):=l _ _ hb;simp only[World.frozen?,this];simp only[Bool.and_eq_false_iff,decide_eq_false_iff_not];omega
theorem yA (w:World)(b i:Nat)(v:Value)(cs:Array Value)(e:TypeId)(fz:Nat×Nat)(h:w.heap[b]?=some (.cells cs e fz)):
  (w.setCell ⟨b,i,none⟩ v).heap[b]?=some (.cells (cs.setIfInBounds i v) e fz):=by
 obtain⟨bX,h'⟩:=Array.getElem?_eq_some_iff.1 h;simp[World.setCell,Array.getElem?_modify,h]
theorem St.setCell{F:ee}{H:List aa}{w:World}{b i:Nat}{e:TypeId}{cs:List Value}(s:St F (ag b e cs::H) w)(v:Value):
  St F (ag b e (cs.set i v)::H) (w.setCell ⟨b,i,none⟩ v):=by
 obtain⟨a1,a2,a3,fr,h,⟨h1,h2,d,l1,l2,⟨lo,hi,hf,hb⟩,s⟩,y,z⟩:=s;have hw:w.heap[b]?=some (.cells cs.toArray e (lo,hi)):=(l1.trans y) _ _ hb;have ja:∀k:Hp,cE h1 k→∀x o,k x=some o→x≠b:=by
  intro k dk x o e hx;subst hx;rcases dk x with q|q
  ·rw[hb]at q;cases q
  rw[e]at q;cases q
 have hold:∀k:Hp,cE h1 k→Le k (kh w)→Le k (kh (w.setCell ⟨b,i,none⟩ v)):=by
  intro k dk lk x o e;have:=lk x o e;unfold kh at*;rw[RowKit.Below.heap_setCell w _ v x (by exact ja k dk x o e)];exact this
 have dF:cE h1 F.h:=z.left l1
 let vQ:Hp:=λx=>if x=b then some (.cells (cs.set i v).toArray e (lo,hi))else none
 have d2:∀k:Hp,cE h1 k→cE vQ k:=by
  intro k dk x;by_cases hx:x=b
  ·subst hx
   rcases dk x with q|q
   ·rw[hb]at q;cases q
   exact .inr q
  exact .inl (by simp[vQ,hx])
 have l1':Le vQ (kh (w.setCell ⟨b,i,none⟩ v)):=by
  intro x o e;by_cases hx:x=b
  ·subst hx
   simp only[vQ,if_true]at e;cases e;have:=yA w x i v _ _ _ hw;rw[kh,this];simp
  simp[vQ,hx]at e
 refine⟨a1,a2,a3,hold _ dF fr,gI vQ h2,⟨vQ,h2,d2 _ d,br _ _,bh (d2 _ d),⟨lo,hi,by simpa using hf,by simp[vQ]⟩,s⟩,
  cJ l1' (hold _ d (l2.trans y)),cE.gI (d2 _ dF) (z.left l2)⟩
theorem St.new{F:ee}{H:List aa}{w:World}(s:St F H w)(e:TypeId)(cs:List Value):
  St F (ag w.heap.size e cs::H) (w.alloc (.cells cs.toArray e)):=by
 obtain⟨a1,a2,a3,fr,h,s,y,z⟩:=s;have hold:∀k:Hp,Le k (kh w)→Le k (kh (w.alloc (.cells cs.toArray e))):=by
  intro k lk x o ex;have hx:=lk x o ex;unfold kh at*;rw[RowKit.Below.heap_alloc w _ x (Array.getElem?_eq_some_iff.1 hx).1];exact hx
 let h1:Hp:=λx=>if x=w.heap.size then some (.cells cs.toArray e)else none
 have dk:∀k:Hp,Le k (kh w)→cE h1 k:=by
  intro k lk x;by_cases hx:x=w.heap.size
  ·right
   cases q:k x with
   |none=>rfl
   |some o=>
    have:=lk x o q;unfold kh at this;have:=(Array.getElem?_eq_some_iff.1 this).1;omega
  exact .inl (by simp[h1,hx])
 refine⟨a1,a2,a3,hold _ fr,gI h1 h,⟨h1,h,dk _ y,br _ _,bh (dk _ y),⟨0,0, .inl rfl,by simp[h1]⟩,s⟩,cJ ?_ (hold _ y),cE.gI (dk _ fr) z⟩;intro x o ex;by_cases hx:x=w.heap.size
 ·subst hx;simp only[h1,if_true]at ex;cases ex;exact heap_alloc_new w _
 simp[h1,hx]at ex
theorem St.drew{F:ee}{H:List aa}{w:World}(s:St F H w):St F H w.drew:=⟨s.os,⟨s.tape.1,Nat.le_succ_of_le s.tape.2⟩,s.output,s.frame,s.own⟩
theorem St.drawn{F:ee}{H:List aa}{w:World}(s:St F H w)(n:Nat)(h:w.drawn≤n:=by exact Nat.le_succ _):St F H {w with drawn:=n}:=⟨s.os,⟨s.tape.1,Nat.le_trans s.tape.2 h⟩,s.output,s.frame,s.own⟩
def look:ba→Nat→Option Value
 | [],_=>none
 |(k,v)::r,t=>match Nat.beq k t with|true=>some v|false=>look r t
def bx (σ:ba):Operand→Option Value
 | .tmp t=>look σ t
 | .const v=>some v
 | .global g=>some (.pointer (some ⟨g,0,none⟩))
 | .func f=>some (.func (.func f) #[] #[])
def jY (σ:ba):List Operand→Option (List Value)
 | []=>some []
 |x::r=>match bx σ x,jY σ r with|some v,some vs=>some (v::vs)|_,_=>none
structure Env (n:Nat)(ds:List Deferred)(σ:ba)(a:Act):Prop where
 size:a.tmps.size=n
 defers:a.defers=ds
 slot:∀t v,look σ t=some v→a.tmps[t]?=some v
def uK:ba→ba→Prop
 | [],_=>True
 |(t,v)::r,σ=>look σ t=some v∧uK r σ
theorem uK.look{S σ:ba}(h:uK S σ):∀t v,look S t=some v→look σ t=some v:=by
 induction S with
 |nil=>intro t v e;simp[dL.look]at e
 |cons p r ih=>
  obtain⟨k,u⟩:=p;intro t v e;simp only[dL.look]at e;cases hb:Nat.beq k t with
  |true=>rw[hb]at e;cases e;rw[←Nat.eq_of_beq_eq_true hb];exact h.1
  |false=>rw[hb]at e;exact ih h.2 t v e
theorem Env.eval{n:Nat}{ds:List Deferred}{σ:ba}{a:Act}(e:Env n ds σ a){x:Operand}{v:Value}(h:bx σ x=some v):a.eval x=v:=by
 cases x with
 |tmp t=>simp[Act.eval,e.slot t v h]
 |const u=>simpa[bx,Act.eval]using h
 |global g=>simpa[bx,Act.eval]using h
 |func f=>simpa[bx,Act.eval]using h
theorem Env.wy{n:Nat}{ds:List Deferred}{σ:ba}{a:Act}(e:Env n ds σ a):∀{xs:List Operand} {vs:List Value},jY σ xs=some vs→xs.map a.eval=vs:=by
 intro xs
 induction xs with
 |nil=>intro vs h;simp[jY]at h;simp[←h]
 |cons x r ih=>
  intro vs h;simp only[jY]at h;cases h1:bx σ x with
  |none=>simp[h1]at h
  |some v=>
   cases h2:jY σ r with
   |none=>simp[h1,h2]at h
   |some us=>
    simp only[h1,h2,Option.some.injEq]at h;rw[←h,List.map_cons,e.eval h1,ih h2]
theorem Env.put{n:Nat}{ds:List Deferred}{σ:ba}{a:Act}(e:Env n ds σ a){d:Nat}(hd:Nat.blt d n=true)(v:Value):Env n ds ((d,v)::σ) (a.put (some d) v):=by
 have hdn:d<a.tmps.size:=by rw[e.size];exact Nat.le_of_ble_eq_true hd
 refine⟨by simp[Act.put,e.size],by simp[Act.put,e.defers],λt u h=> ?_⟩;simp only[look]at h;cases hb:Nat.beq d t with
 |true=>
  rw[hb]at h;cases h;have:=Nat.eq_of_beq_eq_true hb;subst this;simp[Act.put,hdn]
 |false=>
  rw[hb]at h;have ja:d≠t:=by intro q;subst q;simp at hb
  simp[Act.put,Array.getElem?_setIfInBounds_ne ja,e.slot t u h]
structure G (n:Nat)(ds:List Deferred)(F:ee)(K:Act→World→Prop)(σ:ba)(H:List aa):Prop where
 run:∀a w,Env n ds σ a→St F H w→K a w
instance {n:Nat}{ds:List Deferred}{F:ee}{K:Act→World→Prop}{σ:ba}{H:List aa}:CoeFun (G n ds F K σ H) (λ_=>∀a w,Env n ds σ a→St F H w→K a w):=⟨G.run⟩
section rules
variable {P:Program} {n:Nat} {ds:List Deferred} {F:ee} {Q:Exit→Act→World→Prop} {σ:ba} {H:List aa}
theorem au{x y:Code}(h:G n ds F (x.wp P (Exit.then (y.wp P Q) Q)) σ H):G n ds F ((Code.seq x y).wp P Q) σ H:=
 .mk λa w e s=>wp_seq (h a w e s)
theorem Ay (h:G n ds F (Q .normal) σ H):G n ds F (Code.skip.wp P Q) σ H:= .mk λa w e s=>wp_skip (h a w e s)
theorem afp (h:G n ds F (Q .ret) σ H):G n ds F (Code.ret.wp P Q) σ H:= .mk λa w e s=>wp_ret (h a w e s)
theorem aaU{id:Nat}(h:G n ds F (Q (.exit id)) σ H):G n ds F ((Code.exit id).wp P Q) σ H:= .mk λa w e s=>wp_exit (h a w e s)
theorem fh{id:Nat}{c:Code}(h:G n ds F (c.wp P (Exit.inBlock id Q)) σ H):G n ds F ((Code.block id c).wp P Q) σ H:= .mk λa w e s=>wp_block (h a w e s)
theorem av{c:Operand}{x y:Code}{b:Bool}(hc:bx σ c=some (.bool b))(ht:b=true→G n ds F (x.wp P Q) σ H)(hf:b=false→G n ds F (y.wp P Q) σ H):
  G n ds F ((Code.cond c x y).wp P Q) σ H:=
 .mk λa w e s=>wp_cond_split (e.eval hc) (λhb=>ht hb a w e s) (λhb=>hf hb a w e s)
theorem xj{c:Operand}{x y:Code}{b:Bool}(hc:bx σ c=some (.bool b))(hb:b=true)(ht:G n ds F (x.wp P Q) σ H):
  G n ds F ((Code.cond c x y).wp P Q) σ H:=av hc (λ_=>ht) (λh=>by rw[hb]at h;cases h)
theorem xk{c:Operand}{x y:Code}{b:Bool}(hc:bx σ c=some (.bool b))(hb:b=false)(ht:G n ds F (y.wp P Q) σ H):
  G n ds F ((Code.cond c x y).wp P Q) σ H:=av hc (λh=>by rw[hb]at h;cases h) (λ_=>ht)
theorem PF{K:Act→World→Prop}(h:G n ds F K σ H):G n ds F (Exit.then K Q .normal) σ H:=h
theorem Gu{K:Act→World→Prop}(h:G n ds F (Q .ret) σ H):G n ds F (Exit.then K Q .ret) σ H:=h
theorem DT{K:Act→World→Prop}{id:Nat}(h:G n ds F (Q (.exit id)) σ H):G n ds F (Exit.then K Q (.exit id)) σ H:=h
theorem WU{id:Nat}(h:G n ds F (Q .normal) σ H):G n ds F (Exit.inBlock id Q .normal) σ H:=h
theorem DU{id:Nat}(h:G n ds F (Q .ret) σ H):G n ds F (Exit.inBlock id Q .ret) σ H:=h
theorem DV{id:Nat}(h:G n ds F (Q .normal) σ H):G n ds F (Exit.inBlock id Q (.exit id)) σ H:= .mk λa w e s=>by
 simpa[Exit.inBlock]using h a w e s
theorem Bw{id id':Nat}(ja:Nat.beq id' id=false)(h:G n ds F (Q (.exit id')) σ H):G n ds F (Exit.inBlock id Q (.exit id')) σ H:= .mk λa w e s=>by
 have:id'≠id:=by intro q;subst q;simp at ja
 simpa[Exit.inBlock,this]using h a w e s
theorem aC{K:Act→World→Prop}{H':List aa}(hh:∀h,ak H h→ak H' h)(h:G n ds F K σ H'):G n ds F K σ H:=
 .mk λa w e s=>h a w e (s.sub hh)
theorem cC{id:Nat}{l:List Oper}(h:G n ds F (wpList P l.toArray Q l) σ H):G n ds F ((Code.region id l.toArray false).wp P Q) σ H:=
 .mk λa w e s=>wp_region_lit (h a w e s)
theorem az{ops:Array Oper}(h:G n ds F (Q .normal) σ H):G n ds F (wpList P ops Q []) σ H:=h
theorem xF{ops:Array Oper}{j t:Nat}{b:Bool}{a:Act}(hj:(ops[j]?).bind (·.dst)=some t)(ht:look σ t=some (.bool b))(e:Env n ds σ a):yielded ops a.tmps j=some b:=by
 simp[yielded,hj,e.slot t _ ht]
def aH (P:Program)(f:FuncId)(args:List Value)(pre:Hp→Prop)(H:List aa)(R:Value→List aa→Prop):Prop:=
 ∀F w,pre F.h→St F H w→Calls P f args.toArray w λe w'=>∃v H',e= .returned v∧R v H'∧St F H' w'
def kG:Nat→List Value→ba
 |_,[]=> []
 |k,v::r=>(k,v)::kG (k+1) r
theorem DL:∀(l:List Value) (k t:Nat) (v:Value),look (kG k l) t=some v→k≤t∧l[t-k]?=some v:=by
 intro l
 induction l with
 |nil=>intro k t v h;simp[kG,look]at h
 |cons x r ih=>
  intro k t v h;simp only[kG,look]at h;cases hb:Nat.beq k t with
  |true=>rw[hb]at h;cases h;have:=Nat.eq_of_beq_eq_true hb;subst this;simp
  |false=>
   rw[hb]at h;obtain⟨h1,h2⟩:=ih _ _ _ h;refine⟨by omega, ?_⟩;rw[show t-k=(t-(k+1))+1 from by omega]
   simpa using h2
theorem Ja (args:List Value)(n:Nat)(hn:args.length≤n):Env n [] (kG 0 args) {tmps:=args.toArray++Array.replicate (n-args.toArray.size) undef,defers:= []}:=by
 refine⟨by simp;omega,rfl,λt v h=> ?_⟩;obtain⟨_,h2⟩:=DL _ _ _ _ h;have bX:t<args.length:=by
  rcases Nat.lt_or_ge t args.length with q|q
  ·exact q
  rw[List.getElem?_eq_none (show args.length≤t-0 from by omega)]at h2;cases h2
 simp only[Nat.sub_zero]at h2;rw[Array.getElem?_append_left (by simpa using bX)]
 simpa using h2
theorem ae{f:FuncId}{fn:Func}{c:Code}{args:List Value}{pre:Hp→Prop}{R:Value→List aa→Prop}{m:Nat}(hf:P.funcs[f]?=some fn)(hb:fn.body=some c)(hm:fn.ntmps=m)(hn:Nat.ble args.length m=true)
  (h:∀F:ee,pre F.h→G m [] F (c.wp P (bodyPost P fn λe w'=>∃v H',e= .returned v∧R v H'∧St F H' w')) (kG 0 args) H):aH P f args pre H R:=
 λF w hp s=>calls_of_wp hf hb (by
  subst hm;exact h F hp _ _ (Ja args _ (Nat.le_of_ble_eq_true hn)) s)
theorem agb{fn:Func}{R:Value→List aa→Prop}{t:Nat}{v:Value}{H':List aa}(hr:fn.results= #[.tmp t])(hv:look σ t=some v)(hR:R v H')(hh:∀h,ak H h→ak H' h):
  G n [] F (bodyPost P fn (λe w'=>∃v H',e= .returned v∧R v H'∧St F H' w') .ret) σ H:=
 .mk λa w e s=>⟨e.defers,v,by rw[results_tmp hr,show a.tmps.getD t undef=v from by simp[e.slot t v hv]],v,H',rfl,hR,s.sub hh⟩
theorem abY{fn:Func}{R:Value→List aa→Prop}{H':List aa}(hr:fn.results= #[])(hR:R (.tuple #[]) H')(hh:∀h,ak H h→ak H' h):
  G n [] F (bodyPost P fn (λe w'=>∃v H',e= .returned v∧R v H'∧St F H' w') .ret) σ H:=
 .mk λa w e s=>⟨e.defers,_,results_none hr _ _ _,_,H',rfl,hR,s.sub hh⟩
theorem abZ{fn:Func}{R:Value→List aa→Prop}{H':List aa}(hr:fn.results= #[])(hR:R (.tuple #[]) H')(hh:∀h,ak H h→ak H' h):
  G n [] F (bodyPost P fn (λe w'=>∃v H',e= .returned v∧R v H'∧St F H' w') .normal) σ H:=
 .mk λa w e s=>⟨e.defers,_,results_none hr _ _ _,_,H',rfl,hR,s.sub hh⟩
theorem abX{fn:Func}{R:Value→List aa→Prop}{t u:Nat}{v x:Value}{H':List aa}(hr:fn.results= #[.tmp t, .tmp u])(hv:look σ t=some v)(hx:look σ u=some x)(hR:R (.tuple #[v,x]) H')
  (hh:∀h,ak H h→ak H' h):G n [] F (bodyPost P fn (λe w'=>∃v H',e= .returned v∧R v H'∧St F H' w') .ret) σ H:=
 .mk λa w e s=>⟨e.defers,_,by rw[results_tmp2 hr,show a.tmps.getD t undef=v from by simp[e.slot t v hv],show a.tmps.getD u undef=x from by simp[e.slot u x hx]],_,H',rfl,hR,s.sub hh⟩
end rules
end Go.dL
namespace Go.dL
open Go
inductive jB:List aa→List aa→List aa→Prop
 |nil {X:List aa}:jB X [] X
 |cons {X:List aa} {A:aa} {As R R':List aa} (s:fE X A R) (t:jB R As R'):jB X (A::As) R'
theorem jB.out{H As R:List aa}(s:jB H As R):∀h,ak H h→ak (As++R) h:=by
 induction s with
 |nil=>exact λh x=>x
 |cons s _ ih=>exact λh x=>aO ih (s.out h x)
def dp (P:Program)(t:TypeId):Bool:=
 match P.underlying t,P.info? t with
 |some (.struct _),_=>false
 |some (.array _ _),_=>false
 |some _,some i=>i.size==1
 |_,_=>false
def db (P:Program)(t:TypeId):Option Nat:=
 match P.underlying t with
 |some (.struct _)=>(P.info? t).map (·.size)
 |some (.array _ _)=>(P.info? t).map (·.size)
 |_=>none
def aj (P:Program)(s f:Nat):Option Nat:=
 match P.underlying s with
 |some (.struct fs)=>match fs[f]? with
  |some f=>match P.info? f.type with
   |some i=>if i.size=0 then none else some f.offset
   |none=>none
  |none=>none
 |_=>none
def di (P:Program)(t:TypeId):Option (TypeId×Nat):=
 match P.underlying t with
 |some (.slice e)=>match P.info? e with
  |some i=>some (e,i.size)
  |none=>none
 |_=>none
section
variable {P:Program} {w:World}
theorem tD{t:TypeId}(h:dp P t=true):(isAgg t).run P w= .ok false w∧(sizeOf t).run P w= .ok 1 w:=by
 unfold dp at h;cases hu:P.underlying t with
 |none=>simp[hu]at h
 |some d=>
  cases hi:P.info? t with
  |none=>simp[hu,hi]at h;cases d<;>simp at h
  |some i=>
   cases d<;>simp[hu,hi]at h<;>simp[isAgg,run_underlying hu,sizeOf,typeInfo,hi,h]
theorem eV{t:TypeId}{k:Nat}(h:db P t=some k):(isAgg t).run P w= .ok true w∧(sizeOf t).run P w= .ok k w:=by
 unfold db at h;cases hu:P.underlying t with
 |none=>simp[hu]at h
 |some d=>
  cases hi:P.info? t with
  |none=>cases d<;>simp[hu,hi]at h
  |some i=>cases d<;>simp[hu,hi]at h<;>simp[isAgg,run_underlying hu,sizeOf,typeInfo,hi,h]
theorem uC{s f k:Nat}(h:aj P s f=some k)(a:Addr):(Instr.fieldAt s (.pointer (some a)) f).run P w= .ok (.pointer (some (a.add k))) w:=by
 unfold aj at h;cases hu:P.underlying s with
 |none=>simp[hu]at h
 |some d=>
  cases d<;>simp[hu]at h
  rename_i fs
  cases hf:fs[f]? with
  |none=>simp[hf]at h
  |some fd=>
   simp only[hf]at h;cases hi:P.info? fd.type with
   |none=>simp[hi]at h
   |some i=>
    simp only[hi]at h;by_cases h0:i.size=0
    ·simp[h0]at h
    simp only[h0,if_false,Option.some.injEq]at h;simp[Instr.fieldAt,run_underlying hu,hf,Instr.sureAddr,fieldPlace,sizeOf,typeInfo,hi,h0,h]
theorem jK{t e k:Nat}(h:di P t=some (e,k)):P.underlying t=some (.slice e)∧∃i,P.info? e=some i∧i.size=k:=by
 unfold di at h;cases hu:P.underlying t with
 |none=>simp[hu]at h
 |some d=>
  cases d<;>simp[hu]at h
  rename_i e'
  cases hi:P.info? e' with
  |none=>simp[hi]at h
  |some i=>simp[hi]at h;obtain⟨rfl,rfl⟩:=h;exact⟨rfl,i,hi,rfl⟩
theorem add_lit (b i k:Nat):(⟨b,i,none⟩:Addr).add k=⟨b,i+k,none⟩:=by unfold Addr.add;split<;>simp_all
theorem add_add (a:Addr)(l k:Nat):(a.add l).add k=a.add (l+k):=by
 obtain⟨b,o,s⟩:=a;unfold Addr.add;by_cases hl:l=0
 ·subst hl;simp
 by_cases hk:k=0
 ·subst hk;simp
 simp[hl,hk,show l+k≠0 from by omega,Nat.add_assoc]
theorem add_zero' (a:Addr):a.add 0=a:=by simp[Addr.add]
end
section rules
variable {P:Program} {n:Nat} {ds:List Deferred} {F:ee} {Q:Exit→Act→World→Prop} {K:Act→World→Prop} {σ:ba} {H:List aa} {o:Oper} {d:Nat}
theorem qS{v:Value}(hd:o.dst=some d)(hdn:Nat.blt d n=true)(hr:∀a w,Env n ds σ a→St F H w→(execOp a.eval o).run P w= .ok (.value v) w)
  (h:G n ds F K ((d,v)::σ) H):G n ds F (λa w=>o.wp P a w K Q) σ H:=by
 refine .mk λa w e s=> ?_;unfold Oper.wp;rw[hr a w e s,Oper.upon_value,hd];exact h _ _ (e.put hdn v) s
def Yv (P:Program)(n:Nat)(ds:List Deferred)(F:ee)(σ:ba)(o:Oper)(v:Value):Prop:=
 ∀a w,Env n ds σ a→Le F.h (kh w)→(execOp a.eval o).run P w= .ok (.value v) w
theorem op_y{v:Value}(hy:Yv P n ds F σ o v)(hd:o.dst=some d)(hdn:Nat.blt d n=true)(h:G n ds F K ((d,v)::σ) H):G n ds F (λa w=>o.wp P a w K Q) σ H:=
 qS hd hdn (λa w e s=>hy a w e s.frame) h
theorem Zw{x:Operand}{v:Value}(ho:o.op= .move x)(hx:bx σ x=some v):Yv P n ds F σ o (v):=
 λa w e fr=>by simp[execOp,ho,e.eval hx]
theorem Qe{x:Operand}{v:Value}(ho:o.op= .assign x)(hx:bx σ x=some v):Yv P n ds F σ o (v):=
 λa w e fr=>by simp[execOp,ho,e.eval hx]
theorem P8{c x y:Operand}{b:Bool}{v:Value}(ho:o.op= .pick c x y)(hc:bx σ c=some (.bool b))(hb:b=true)(hx:bx σ x=some v):Yv P n ds F σ o (v):=
 λa w e fr=>by simp[execOp,ho,e.eval hc,e.eval hx,hb,asBool]
theorem P9{c x y:Operand}{b:Bool}{v:Value}(ho:o.op= .pick c x y)(hc:bx σ c=some (.bool b))(hb:b=false)(hx:bx σ y=some v):Yv P n ds F σ o (v):=
 λa w e fr=>by simp[execOp,ho,e.eval hc,e.eval hx,hb,asBool]
theorem FG{x:Operand}{ad:Addr}(ho:o.op= .nilCheck x)(hx:bx σ x=some (.pointer (some ad))):Yv P n ds F σ o (.pointer (some ad)):=
 λa w e fr=>by simp[execOp,ho,e.eval hx]
theorem Dy{s f k b i:Nat}{x:Operand}(hk:aj P s f=some k)(ho:o.op= .fieldAddr s x f)(hx:bx σ x=some (.pointer (some ⟨b,i,none⟩))):Yv P n ds F σ o (.pointer (some ⟨b,i+k,none⟩)):=
 λa w e fr=>by simp[execOp,ho,e.eval hx,uC hk,add_lit]
theorem uM{s f k j:Nat}{x:Operand}{a:Option Addr}(hk:aj P s f=some k)(ho:o.op= .fieldAddr s x f)(hx:bx σ x=some (.pointer (a.map (·.add j))))(hs:a.isSome=true):Yv P n ds F σ o (.pointer (a.map (·.add (j+k)))):=by
 obtain⟨ad,rfl⟩:=Option.isSome_iff_exists.1 hs;exact λa w e _=>by simp[execOp,ho,e.eval hx,uC hk,add_add]
theorem Jh{x:Operand}{i:Nat}{vs:Array Value}{v:Value}(ho:o.op= .extract x i)(hx:bx σ x=some (.tuple vs))(hv:vs.toList[i]?=some v):Yv P n ds F σ o (v):=
 λa w e fr=>by
  have MR:vs[i]?=some v:=by simpa using hv
  simp[execOp,ho,e.eval hx,Instr.extract,MR]
theorem aew{t:TypeId}{x:Operand}{b:Bool}(ho:o.op= .unOp .not t x)(hx:bx σ x=some (.bool b)):Yv P n ds F σ o (.bool (!b)):=
 λa w e fr=>by simp[execOp,ho,e.eval hx,Op.unary]
theorem aex{t:TypeId}{x:Operand}{k:IntKind}{i z:Int}(ho:o.op= .unOp .neg t x)(hx:bx σ x=some (.int k i))(hz:k.wrap (0-i)=z):Yv P n ds F σ o (.int k z):=
 λa w e fr=>by simp[execOp,ho,e.eval hx,Op.unary,Op.intArith,←hz]
theorem wrap_i64{z:Int}(h: -9223372036854775808≤z∧z≤9223372036854775807):IntKind.i64.wrap z=z:=IntWalk.i64_in z h
theorem wrap_u64{z:Int}(h:0≤z∧z≤18446744073709551615):IntKind.u64.wrap z=z:=by
 unfold IntKind.wrap;simp only[IntKind.bits,IntKind.signed,Bool.false_and,Bool.false_eq_true,if_false];omega
theorem wrap_u32{z:Int}(h:0≤z∧z≤4294967295):IntKind.u32.wrap z=z:=by
 unfold IntKind.wrap;simp only[IntKind.bits,IntKind.signed,Bool.false_and,Bool.false_eq_true,if_false];omega
theorem wrap_u16{z:Int}(h:0≤z∧z≤65535):IntKind.u16.wrap z=z:=by
 unfold IntKind.wrap;simp only[IntKind.bits,IntKind.signed,Bool.false_and,Bool.false_eq_true,if_false];omega
theorem wrap_u8{z:Int}(h:0≤z∧z≤255):IntKind.u8.wrap z=z:=by
 unfold IntKind.wrap;simp only[IntKind.bits,IntKind.signed,Bool.false_and,Bool.false_eq_true,if_false];omega
theorem wrap_i32{z:Int}(h: -2147483648≤z∧z≤2147483647):IntKind.i32.wrap z=z:=IntWalk.i32_in z h
def gG (op:BinOp)(k:IntKind)(x y:Int):Option Int:=
 match op with
 | .add=>some (k.wrap (x+y))
 | .sub=>some (k.wrap (x-y))
 | .mul=>some (k.wrap (x*y))
 | .and=>some (k.wrap (BitVec.ofInt k.bits x&&&BitVec.ofInt k.bits y).toNat)
 | .or=>some (k.wrap (BitVec.ofInt k.bits x|||BitVec.ofInt k.bits y).toNat)
 | .xor=>some (k.wrap (BitVec.ofInt k.bits x^^^BitVec.ofInt k.bits y).toNat)
 | .andNot=>some (k.wrap (BitVec.ofInt k.bits x&&& ~~~BitVec.ofInt k.bits y).toNat)
 | .quo=>if y=0 then none else some (k.wrap (x.tdiv y))
 | .rem=>if y=0 then none else some (x.tmod y)
 |_=>none
def He (op:BinOp)(x y:Int):Option Bool:=
 match op with
 | .eql=>some (decide (x=y))
 | .neq=>some (!decide (x=y))
 | .lss=>some (decide (x<y))
 | .leq=>some (decide (x≤y))
 | .gtr=>some (decide (y<x))
 | .geq=>some (decide (y≤x))
 |_=>none
theorem JK{op:BinOp}{t:TypeId}{k:IntKind}{x y z:Int}{w:World}(h:gG op k x y=some z):(binOp op t (.int k x) (.int k y)).run P w= .ok (.int k z) w:=by
 cases op<;>simp only[gG]at h<;>try (cases h;done)
 case add=>cases h;simp[binOp,Op.intArith]
 case sub=>cases h;simp[binOp,Op.intArith]
 case mul=>cases h;simp[binOp,Op.intArith]
 case and=>cases h;simp[binOp,Op.intBits]
 case or=>cases h;simp[binOp,Op.intBits]
 case xor=>cases h;simp[binOp,Op.intBits]
 case andNot=>cases h;simp[binOp,Op.intBits]
 all_goals
  split at h
  ·cases h
  rename_i hy
  cases h;simp[binOp,Op.intDiv,hy]
theorem JL{op:BinOp}{t:TypeId}{k:IntKind}{x y:Int}{b:Bool}{w:World}(h:He op x y=some b):(binOp op t (.int k x) (.int k y)).run P w= .ok (.bool b) w:=by
 cases op<;>simp only[He]at h<;>(cases h;try simp[binOp,Op.intCmp])
 all_goals (first|rfl|(rw[Bool.eq_iff_iff];simp;done)|skip)
theorem jU{op:BinOp}{t:TypeId}{x y:Operand}{k k':IntKind}{i j:Int}{w:World}:(eqGuard op t x y (.int k i) (.int k' j)).run P w= .ok () w:=by
 unfold eqGuard;cases op<;>simp
theorem wi{op:BinOp}{t yt:TypeId}{x y:Operand}{k:IntKind}{i j z:Int}(ho:o.op= .binOp op t x y yt)(hx:bx σ x=some (.int k i))(hy:bx σ y=some (.int k j))(hz:gG op k i j=some z):Yv P n ds F σ o (.int k z):=
 λa w e fr=>by simp[execOp,ho,e.eval hx,e.eval hy,jU,JK hz]
theorem aeB{op:BinOp}{t yt:TypeId}{x y:Operand}{k:IntKind}{i j:Int}{b:Bool}(ho:o.op= .binOp op t x y yt)(hx:bx σ x=some (.int k i))(hy:bx σ y=some (.int k j))(hz:He op i j=some b):Yv P n ds F σ o (.bool b):=
 λa w e fr=>by simp[execOp,ho,e.eval hx,e.eval hy,jU,JL hz]
def UB (op:BinOp)(k:IntKind)(x y:Int):Option Int:=
 if y<0 then none else
 match op with
 | .shl=>some (k.wrap (x*2^(min y.toNat k.bits)))
 | .shr=>some (x.fdiv (2^(min y.toNat k.bits)))
 |_=>none
theorem adN{op:BinOp}{t yt:TypeId}{x y:Operand}{k k':IntKind}{i j z:Int}(ho:o.op= .binOp op t x y yt)(hx:bx σ x=some (.int k i))(hy:bx σ y=some (.int k' j))(hz:UB op k i j=some z):Yv P n ds F σ o (.int k z):=by
 intro a w e _;unfold UB at hz;by_cases hj:j<0
 ·simp[hj]at hz
 simp only[hj,if_false]at hz;cases op<;>simp at hz<;>subst hz<;>simp[execOp,ho,e.eval hx,e.eval hy,jU,binOp,Op.shift,hj]
theorem aev{t yt:TypeId}{x y:Operand}{k k':IntKind}{i j z:Int}{s:Nat}(ho:o.op= .binOp .shl t x y yt)(hx:bx σ x=some (.int k i))(hy:bx σ y=some (.int k' j))(hj:j=(s:Int))(hz:k.wrap (i*2^(min s k.bits))=z):Yv P n ds F σ o (.int k z):=by
 subst hj;refine adN ho hx hy ?_;simp only[UB,if_neg (show¬((s:Int)<0)from by omega),Int.toNat_natCast,hz]
theorem aeu{t yt:TypeId}{x y:Operand}{k k':IntKind}{i j z:Int}{s:Nat}(ho:o.op= .binOp .shr t x y yt)(hx:bx σ x=some (.int k i))(hy:bx σ y=some (.int k' j))(hj:j=(s:Int))(hz:i.fdiv (2^(min s k.bits))=z):Yv P n ds F σ o (.int k z):=by
 subst hj;refine adN ho hx hy ?_;simp only[UB,if_neg (show¬((s:Int)<0)from by omega),Int.toNat_natCast,hz]
theorem Zy{s t:TypeId}{x:Operand}{k k':IntKind}{i z:Int}(ht:P.underlying t=some (.int k))(hs:(P.underlying s).isSome=true)(ho:o.op= .convert s t x)(hx:bx σ x=some (.int k' i))(hz:k.wrap i=z):Yv P n ds F σ o (.int k z):=by
 intro a w e _;obtain⟨sd,hsd⟩:=Option.isSome_iff_exists.1 hs;simp[execOp,ho,e.eval hx,convert,run_underlying ht,run_underlying hsd,Conv.intToInt,←hz]
theorem DE{t:TypeId}{i j:Bool}{w:World}(ht:P.underlying t=some .bool):(binOp .eql t (.bool i) (.bool j)).run P w= .ok (.bool (i==j)) w:=run_eql_bool w t i j ht
theorem DD{t:TypeId}{i j:Bool}{w:World}(ht:P.underlying t=some .bool):(binOp .neq t (.bool i) (.bool j)).run P w= .ok (.bool (!(i==j))) w:=by
 simp only[binOp,Sem.run_bind,run_equal_bool w t i j ht,Result.andThen_ok,Sem.run_pure]
theorem mY{op:BinOp}{t:TypeId}{x y:Operand}{i j:Bool}{w:World}:(eqGuard op t x y (.bool i) (.bool j)).run P w= .ok () w:=by
 unfold eqGuard;cases op<;>simp
theorem Qd{op:BinOp}{t yt:TypeId}{x y:Operand}{i j b:Bool}(ht:P.underlying t=some .bool)(ho:o.op= .binOp op t x y yt)(hx:bx σ x=some (.bool i))(hy:bx σ y=some (.bool j))
  (hop:(op= .eql∧b=(i==j))∨(op= .neq∧b= !(i==j))):Yv P n ds F σ o (.bool b):=by
 intro a w e _;rcases hop with⟨rfl,rfl⟩|⟨rfl,rfl⟩
 ·simp only[execOp,ho,e.eval hx,e.eval hy,Sem.run_bind,mY,DE ht,Result.andThen_ok,Sem.run_pure]
 simp only[execOp,ho,e.eval hx,e.eval hy,Sem.run_bind,mY,DD ht,Result.andThen_ok,Sem.run_pure]
def aB (l:List UInt8):Value:= .string ⟨l.toArray⟩
theorem US{op:BinOp}{t yt:TypeId}{x y:Operand}{i j:List UInt8}{b:Bool}(ho:o.op= .binOp op t x y yt)(hx:bx σ x=some (aB i))(hy:bx σ y=some (aB j))
  (hop:(op= .eql∧b=decide (i=j))∨(op= .neq∧b= !decide (i=j))):Yv P n ds F σ o (.bool b):=by
 intro a w e _;have hb:(i==j)=decide (i=j):=by rw[Bool.eq_iff_iff];simp
 unfold aB at hx hy;rcases hop with⟨rfl,rfl⟩|⟨rfl,rfl⟩<;>simp[execOp,ho,e.eval hx,e.eval hy,eqGuard,binOp,Op.stringOp,hb]
theorem tL{ad:Addr}{v:Value}{t:TypeId}(hs:dp P t=true){w:World}(hc:w.cell? ad=some v):(Instr.loadAt t (.pointer (some ad))).run P w= .ok v w:=by
 simp[Instr.loadAt,Instr.sureAddr,loadVar,(tD hs).1,hc]
theorem Hl{t:TypeId}{x:Operand}{ad:Addr}{v:Value}(hs:dp P t=true)(ho:o.op= .load t x)(hx:bx σ x=some (.pointer (some ad)))(hv:dY F.h ad=some v):Yv P n ds F σ o (v):=
 λa w en fr=>by simp[execOp,ho,en.eval hx,tL hs (kR fr hv)]
theorem CU{t:TypeId}{x:Operand}{ad:Addr}{v:Value}(hs:dp P t=true)(ho:o.op= .load t x)(hd:o.dst=some d)(hx:bx σ x=some (.pointer (some ad)))(hv:∀w,St F H w→dY (kh w) ad=some v)(hdn:Nat.blt d n=true)
  (h:G n ds F K ((d,v)::σ) H):G n ds F (λa w=>o.wp P a w K Q) σ H:=
 qS hd hdn (λa w en s=>by simp[execOp,ho,en.eval hx,tL hs (show w.cell? ad=some v from hv w s)]) h
theorem Rq{b i k:Nat}{vs:List Value}{t:TypeId}(hs:db P t=some k){w:World}(hk:vs.length=k)(hc:∀j v,vs[j]?=some v→w.cell? ((⟨b,i,none⟩:Addr).add j)=some v):
  (Instr.loadAt t (.pointer (some ⟨b,i,none⟩))).run P w= .ok (.agg vs.toArray) w:=by
 subst hk;simp[Instr.loadAt,Instr.sureAddr,loadVar,(eV hs).1,(eV hs).2,run_loadCells_list w _ vs hc]
theorem xN{ad:Addr}{v u:Value}{t:TypeId}(hs:dp P t=true){w:World}(hc:w.cell? ad=some u)(hf:w.frozen? ad=false)(h1:v.oneCell'=true):(Instr.storeAt t (.pointer (some ad)) v).run P w= .ok () (w.setCell ad v):=by
 have wK:v.cells= #[v]:=by cases v<;>simp[Value.oneCell']at h1<;>rfl
 simp[Instr.storeAt,Instr.sureAddr,storeVar,(tD hs).2,wK,storeCells,add_zero',run_store P w ad v .plain h1,hc,hf]
theorem CT{t:TypeId}{x y:Operand}{b i:Nat}{e:TypeId}{cs:List Value}{f:aa→List aa}{v:Value}(hs:dp P t=true)(ho:o.op= .store t x y)(hd:o.dst=none)(hx:bx σ x=some (.pointer (some ⟨b,i,none⟩)))(hy:bx σ y=some v)
  (h1:v.oneCell'=true) (hu:Pos H (ag b e cs) f) (hi:i<cs.length) (h:G n ds F K σ (f (ag b e (cs.set i v)))):G n ds F (λa w=>o.wp P a w K Q) σ H:=by
 refine .mk λa w en s=> ?_;obtain⟨R,s1,s2⟩:=hu.sS;have sR:=s.sS s1;obtain⟨hh,hp,hl⟩:=sR.get;have dY:=kR hl (eS hp (List.getElem?_eq_getElem hi));have iY:=xN (P:=P) hs dY (r9 hp hi hl) h1;unfold Oper.wp;have:(execOp a.eval o).run P w= .ok .skip (w.setCell ⟨b,i,none⟩ v):=by simp[execOp,ho,en.eval hx,en.eval hy,iY]
 rw[this,Oper.upon_skip,hd];exact h _ _ en ((sR.setCell v).oJ (s2 _))
def bU:List Value→Nat→List Value→List Value
 |cs,_,[]=>cs
 |cs,i,v::vs=>bU (cs.set i v) (i+1) vs
theorem uz:∀(vs cs:List Value) (i:Nat),(bU cs i vs).length=cs.length:=by
 intro vs;induction vs with
 |nil=>intro cs i;rfl
 |cons v vs ih=>intro cs i;simp[bU,ih]
theorem jx{b:Nat}{e:TypeId}{R:List aa}:∀(vs:List Value) (i j:Nat) (cs:List Value) (w:World),St F (ag b e cs::R) w→i+j+vs.length≤cs.length→(∀v∈vs,v.oneCell'=true)→
  ∃w',(storeCells ⟨b,i,none⟩ vs j).run P w= .ok () w'∧St F (ag b e (bU cs (i+j) vs)::R) w':=by
 intro vs
 induction vs with
 |nil=>intro i j cs w s _ _;exact⟨w,by simp[storeCells],s⟩
 |cons v vs ih=>
  intro i j cs w s hl h1;simp only[List.length_cons]at hl;obtain⟨hh,hp,hle⟩:=s.get;have bX:i+j<cs.length:=by omega
  have dY:=kR hle (eS hp (List.getElem?_eq_getElem bX));have hf:=r9 hp bX hle;have h1v:=h1 v (by simp);obtain⟨w',hr,s'⟩:=ih i (j+1) (cs.set (i+j) v) _ (s.setCell (i:=i+j) v) (by simp;omega) (λu hu=>h1 u (by simp[hu]));refine⟨w', ?_, ?_⟩
  ·simp[storeCells,add_lit,run_store P w _ v .plain h1v,dY,hf,hr]
  simpa[bU,Nat.add_assoc]using s'
theorem tH{t k:TypeId}{x y:Operand}{b i:Nat}{e:TypeId}{cs vs:List Value}{f:aa→List aa}(hs:db P t=some k)(ho:o.op= .store t x y)(hd:o.dst=none)(hx:bx σ x=some (.pointer (some ⟨b,i,none⟩)))(hy:bx σ y=some (.agg vs.toArray))
  (hk:vs.length=k) (h1:∀v∈vs,v.oneCell'=true) (hu:Pos H (ag b e cs) f) (hi:i+vs.length≤cs.length) (h:G n ds F K σ (f (ag b e (bU cs i vs)))):G n ds F (λa w=>o.wp P a w K Q) σ H:=by
 refine .mk λa w en s=> ?_;obtain⟨R,s1,s2⟩:=hu.sS;obtain⟨w',hr,s'⟩:=jx (P:=P) vs i 0 cs w (s.sS s1) (by omega) h1;unfold Oper.wp;have:(execOp a.eval o).run P w= .ok .skip w':=by
  simp[execOp,ho,en.eval hx,en.eval hy,Instr.storeAt,Instr.sureAddr,storeVar,(eV hs).2,Value.cells,hk,hr]
 rw[this,Oper.upon_skip,hd];exact h _ _ en (s'.oJ (s2 _))
theorem aat{t:TypeId}{x:Operand}{v:Value}{cs:List Value}(ho:o.op= .box t x)(hd:o.dst=some d)(hx:bx σ x=some v)(hc:v.cells=cs.toArray)(hdn:Nat.blt d n=true)
  (h:∀b,G n ds F K ((d, .pointer (some ⟨b,0,none⟩))::σ) (ag b t cs::H)):G n ds F (λa w=>o.wp P a w K Q) σ H:=by
 refine .mk λa w en s=> ?_;unfold Oper.wp;have:(execOp a.eval o).run P w= .ok (.value (.pointer (some ⟨w.heap.size,0,none⟩))) (w.alloc (.cells cs.toArray t)):=by
  simp[execOp,ho,en.eval hx,Instr.box,newVar,newRow,hc]
 rw[this,Oper.upon_value,hd];exact h _ _ _ (en.put hdn _) (s.new t cs)
def cq (P:Program)(t:TypeId):Option (List Value):=(P.info? t).bind λi=>i.zero.map λz=>z.cells.toList
theorem ph{t:TypeId}{cs:List Value}(h:cq P t=some cs){w:World}:∃z,(zeroValue t).run P w= .ok z w∧z.cells=cs.toArray:=by
 unfold cq at h;cases hi:P.info? t with
 |none=>simp[hi]at h
 |some i=>
  cases hz:i.zero with
  |none=>simp[hi,hz]at h
  |some z=>
   simp[hi,hz]at h;exact⟨z,by simp[zeroValue,typeInfo,hi,hz],by rw[←h]⟩
theorem Q9{t:TypeId}{cs:List Value}(hz:cq P t=some cs)(ho:o.op= .alloc t)(hd:o.dst=some d)(hdn:Nat.blt d n=true)
  (h:∀b,G n ds F K ((d, .pointer (some ⟨b,0,none⟩))::σ) (ag b t cs::H)):G n ds F (λa w=>o.wp P a w K Q) σ H:=by
 refine .mk λa w en s=> ?_;obtain⟨z,hr,hc⟩:=ph (P:=P) hz (w:=w);unfold Oper.wp;have:(execOp a.eval o).run P w= .ok (.value (.pointer (some ⟨w.heap.size,0,none⟩))) (w.alloc (.cells cs.toArray t)):=by
  simp[execOp,ho,Instr.alloc,newVar,newRow,hr,hc]
 rw[this,Oper.upon_value,hd];exact h _ _ _ (en.put hdn _) (s.new t cs)
def hJ:List aa→Hp→Prop
 | [],_=>True
 |A::r,h=>(∃k,A k∧Le k h)∧hJ r h
theorem cM:∀{H:List aa} {h k:Hp},ak H h→Le h k→hJ H k:=by
 intro H
 induction H with
 |nil=>intro h k _ _;trivial
 |cons A r ih=>intro h k s l;obtain⟨h1,h2,_,l1,l2,a,s⟩:=s;exact⟨⟨h1,a,l1.trans l⟩,ih s (l2.trans l)⟩
theorem bQ:∀{A B:List aa} {h:Hp},ak (A++B) h→∃h1 h2,cE h1 h2∧Le h1 h∧Le h2 h∧ak A h1∧ak B h2:=by
 intro A
 induction A with
 |nil=>intro B h s;exact⟨λ_=>none,h,λ_=> .inl rfl,λb o e=>by simp at e,Le.refl h,trivial,s⟩
 |cons X r ih=>
  intro B h s;obtain⟨h1,h2,d,l1,l2,a,s⟩:=s;obtain⟨h3,h4,d',l3,l4,s3,s4⟩:=ih s;exact⟨gI h1 h3,h4,cE.gI (d.right l4) d',cJ l1 (l3.trans l2),l4.trans l2,⟨h1,h3,d.right l3,br _ _,bh (d.right l3),a,s3⟩,s4⟩
theorem bZ:∀{A B:List aa} {h1 h2:Hp},ak A h1→ak B h2→cE h1 h2→ak (A++B) (gI h1 h2):=by
 intro A
 induction A with
 |nil=>intro B h1 h2 _ s d;exact eF s (bh d)
 |cons X r ih=>
  intro B h1 h2 s t d;obtain⟨h3,h4,d',l3,l4,a,s⟩:=s;refine⟨h3,gI h4 h2,(cE.gI d'.symm (d.left l3).symm).symm,l3.trans (br _ _),cJ (l4.trans (br _ _)) (bh d),a,ih s t (d.left l4)⟩
theorem CM{ρ:Operand→Value}{f:FuncId}{xs:List Operand}{vs:List Value}{sW:Array TypeId}{w:World}{fn:Func}(ho:o.op= .call {callee:= .value (.func f),args:=xs.toArray,argTypes:=sW})
  (hρ:ρ (.func f)= .func (.func f) #[] #[]) (hv:xs.map ρ=vs) (hf:P.funcs[f]?=some fn) (hb:fn.body.isSome=true) (hnm:(fn.name== "runtime.NumGoroutine")=false):
  (execOp ρ o).run P w= .ok (.enter f vs.toArray) w:=by
 have aff:fn.body.isNone=false:=by rw[←Option.not_isSome,hb];rfl
 have Y1:¬fn.name= "runtime.NumGoroutine" :=by simpa using hnm
 have hb':¬fn.body=none:=by intro q;rw[q]at hb;cases hb
 simp[execOp,ho,resolve,hρ,Deferred.ofValue,invoke,callFunc,hf,←hv];rw[if_neg Y1,if_neg hb']
def ax (P:Program)(f:FuncId):Bool:=match P.funcs[f]? with|some fn=>fn.body.isSome&& !(fn.name== "runtime.NumGoroutine")|none=>false
theorem VP{f:FuncId}{xs:List Operand}{vs:List Value}{sW:Array TypeId}{pre:Hp→Prop}{As R:List aa}{T:Value→List aa→Prop}(lj:ax P f=true)(ho:o.op= .call {callee:= .value (.func f),args:=xs.toArray,argTypes:=sW})
  (hd:o.dst=some d) (hv:jY σ xs=some vs) (hc:aH P f vs pre As T) (ey:jB H As R) (iX:∀h,Le F.h h→hJ R h→pre h) (hdn:Nat.blt d n=true)
  (h:∀v H',T v H'→G n ds F K ((d,v)::σ) (H'++R)):G n ds F (λa w=>o.wp P a w K Q) σ H:=by
 refine .mk λa w en s=> ?_;unfold ax at lj;cases hf:P.funcs[f]? with
 |none=>simp[hf]at lj
 |some fn=>
  simp only[hf,Bool.and_eq_true,Bool.not_eq_true']at lj;unfold Oper.wp;rw[CM ho rfl (en.wy hv) hf lj.1 lj.2,Oper.upon_enter];obtain⟨a1,a2,a3,fr,hh,st,hl,vO⟩:=s;obtain⟨h1,h2,d12,l1,l2,s1,s2⟩:=bQ (ey.out _ st);have yH:cE h2 F.h:=vO.left l2
  let F':ee:={F with h:=gI h2 F.h}
  have jA:Le F.h F'.h:=bh yH;have jd:Le h2 F'.h:=br _ _;have Ee:St F' As w:=⟨a1,a2,a3,cJ (l2.trans hl) fr,h1,s1,l1.trans hl,(cE.gI d12.symm (vO.left l1).symm).symm⟩;refine(hc F' w (iX _ jA (cM s2 jd)) Ee).mono ?_;rintro e w' ⟨v,H',rfl,hT,sw⟩;obtain⟨b1,b2,b3,vR,Er,st2,Ep,mu⟩:=sw;rw[hd];refine h v H' hT _ _ (en.put hdn v) ⟨b1,b2,b3,jA.trans vR,gI Er h2,bZ st2 s2 (mu.right jd),cJ Ep (jd.trans vR),cE.gI (mu.right jA) yH⟩
end rules
end Go.dL
namespace Go.dL
open Go
def dU (h:Hp)(a:Option Addr)(cells:List Value):Prop:=∀k v,cells[k]?=some v→∃ad,a=some ad∧dY h (ad.add k)=some v
theorem dU.nil{h:Hp}{a:Option Addr}:dU h a []:=λk v e=>by simp at e
theorem dU.mono{h k:Hp}{a:Option Addr}{cells:List Value}(r:dU h a cells)(l:Le h k):dU k a cells:=λj v e=>by
 obtain⟨ad,h1,h2⟩:=r j v e;exact⟨ad,h1,cX l h2⟩
theorem dU.some{h:Hp}{a:Option Addr}{cells:List Value}(r:dU h a cells)(ja:0<cells.length):a.isSome=true:=by
 obtain⟨ad,h1,_⟩:=r 0 _ (List.getElem?_eq_getElem ja);simp[h1]
theorem dU.take{h:Hp}{a:Option Addr}{cells:List Value}(r:dU h a cells)(k:Nat):dU h a (cells.take k):=λj v e=>by
 rw[List.getElem?_take]at e
 split at e
 ·exact r j v e
 cases e
def Ai (a:Option Addr)(l m k:Nat):Option Addr:=if m=l then a else a.map (·.add k)
structure own (a:Option Addr)(cap:Nat)(e:TypeId)(sz:Nat)(xs:List Value)(h:Hp):Prop where
 fits:xs.length≤cap*sz
 aF:cap≤maxLen
 block:(a=none∧cap=0)∨∃b spare,a=some ⟨b,0,none⟩∧xs.length+spare.length=cap*sz∧ag b e (xs++spare) h
theorem pF{b i:Nat}{e:TypeId}{cs:List Value}{h:Hp}(p:ag b e cs h):dU h (some ⟨b,i,none⟩) (cs.drop i):=λk v hv=>by
 rw[List.getElem?_drop]at hv;exact⟨_,rfl,by rw[add_lit];exact eS p hv⟩
theorem pG{a:Option Addr}{cap:Nat}{e:TypeId}{sz:Nat}{xs:List Value}{h:Hp}(o:own a cap e sz xs h):dU h a xs:=by
 obtain⟨h1,_,h3|⟨b,sp,rfl,_,h5⟩⟩:=o
 ·obtain⟨rfl,rfl⟩:=h3
  have:xs= []:=List.eq_nil_of_length_eq_zero (by omega);subst this;exact dU.nil
 intro k v hv;refine⟨_,rfl, ?_⟩;rw[add_lit,Nat.zero_add];exact eS h5 (by rw[List.getElem?_append_left (by have:=(List.getElem?_eq_some_iff.1 hv).1;exact this)];exact hv)
theorem AY (e:TypeId)(sz:Nat)(h:Hp):own none 0 e sz [] h:=⟨by simp,by simp[maxLen], .inl ⟨rfl,rfl⟩⟩
theorem nK{b:Nat}{e:TypeId}{cs:List Value}{h:Hp}(p:ag b e cs h)(cap sz:Nat)(hc:cs.length=cap*sz)(hm:cap≤maxLen):own (some ⟨b,0,none⟩) cap e sz cs h:=
 ⟨by omega,hm, .inr ⟨b,[],rfl,by simpa using hc,by simpa using p⟩⟩
theorem xc{a:Option Addr}{cap:Nat}{e:TypeId}{sz:Nat}{xs:List Value}{h:Hp}(o:own a cap e sz xs h)(k:Nat):own a cap e sz (xs.take k) h:=by
 obtain⟨h1,h2,h3|⟨b,sp,rfl,h4,h5⟩⟩:=o
 ·exact⟨by simp;omega,h2, .inl h3⟩
 refine⟨by simp;omega,h2, .inr ⟨b,xs.drop k++sp,rfl,by simp;omega, ?_⟩⟩;rw[←List.append_assoc,List.take_append_drop];exact h5
theorem qt{H:List aa}(e:TypeId)(sz:Nat){h:Hp}(s:ak H h):ak (own none 0 e sz []::H) h:=
 ⟨λ_=>none,h,λ_=> .inl rfl,λb o x=>by simp at x,Le.refl h,AY e sz _,s⟩
theorem iB{H:List aa}{A:aa}(hA:∀h,A h){h:Hp}(s:ak H h):ak (A::H) h:=
 ⟨λ_=>none,h,λ_=> .inl rfl,λb o x=>by simp at x,Le.refl h,hA _,s⟩
section rules
variable {P:Program} {n:Nat} {ds:List Deferred} {F:ee} {Q:Exit→Act→World→Prop} {K:Act→World→Prop} {σ:ba} {H:List aa} {o:Oper} {d:Nat}
theorem aT (e:TypeId)(sz:Nat)(h:G n ds F K σ (own none 0 e sz []::H)):G n ds F K σ H:=aC (λ_ s=>qt e sz s) h
theorem aeA{t:TypeId}{x:Operand}{a:Option Addr}{l c:Nat}{ek:TypeId×Nat}(ht:di P t=some ek)(ho:o.op= .call {callee:= .builtin .len,args:= #[x],argTypes:= #[t]})(hx:bx σ x=some (.slice a l c)):Yv P n ds F σ o (.int .i64 l):=
 λa w e fr=>by
  obtain⟨e',k⟩:=ek;simp[execOp,ho,resolve,invoke,builtin,Builtin.len_,e.eval hx,run_underlying (jK ht).1,goInt]
theorem Zx{t:TypeId}{x:Operand}{l:List UInt8}(ht:P.underlying t=some .string)(ho:o.op= .call {callee:= .builtin .len,args:= #[x],argTypes:= #[t]})(hx:bx σ x=some (aB l)):Yv P n ds F σ o (.int .i64 l.length):=
 λa w e fr=>by
  unfold aB at hx;have sT:(ByteArray.mk l.toArray).size=l.length:=by show l.toArray.size=l.length;simp
  simp[execOp,ho,resolve,invoke,builtin,Builtin.len_,e.eval hx,run_underlying ht,goInt,sT]
theorem aey{x y:Operand}{k:IntKind}{i j:Int}{sW:Array TypeId}(ho:o.op= .call {callee:= .builtin .min,args:= #[x,y],argTypes:=sW})(hx:bx σ x=some (.int k i))(hy:bx σ y=some (.int k j)):Yv P n ds F σ o (.int k (min i j)):=
 λa w e fr=>by
  have:(if j<i then j else i)=min i j:=by omega
  simp[execOp,ho,resolve,invoke,builtin,Builtin.min_,Builtin.min2,e.eval hx,e.eval hy,this]
theorem aez{x y:Operand}{k:IntKind}{i j:Int}{sW:Array TypeId}(ho:o.op= .call {callee:= .builtin .max,args:= #[x,y],argTypes:=sW})(hx:bx σ x=some (.int k i))(hy:bx σ y=some (.int k j)):Yv P n ds F σ o (.int k (max i j)):=
 λa w e fr=>by
  have:(if j>i then j else i)=max i j:=by omega
  simp[execOp,ho,resolve,invoke,builtin,Builtin.max_,Builtin.max2,e.eval hx,e.eval hy,this]
theorem Hm{t e sz m:Nat}{x y:Operand}{a:Option Addr}{l c j:Nat}{k:IntKind}{i:Int}(ht:di P t=some (e,sz))(ho:o.op= .indexAddr t x y)(hx:bx σ x=some (.slice a l c))(hy:bx σ y=some (.int k i))
  (hj:i=(j:Int)) (hl:j<l) (hm:j*sz=m) (hs:a.isSome=true):Yv P n ds F σ o (.pointer (a.map (·.add m))):=
 λa w en fr=>by
  obtain⟨hu,inf,hi,hz⟩:=jK ht;obtain⟨ad,rfl⟩:=Option.isSome_iff_exists.1 hs;subst hj;subst hm;simp[execOp,ho,Instr.indexAt,en.eval hx,en.eval hy,asIntOf,run_underlying hu,sizeOf,typeInfo,hi,hz,hl]
def BQ (σ:ba):Option Operand→Nat→Nat→Prop
 |none,dflt,v=>v=dflt
 |some x,_,v=>∃k i,bx σ x=some (.int k i)∧i=(v:Int)
theorem gy{x:Value}{y v:Nat}{code:BoundsCode}{k:IntKind}{i:Int}{w:World}(hx:x= .int k i)(hi:i=(v:Int))(hv:v≤y):(Instr.sliceBound x y code).run P w= .ok v w:=by
 subst hx;subst hi;simp[Instr.sliceBound,asIntOf,hv]
theorem xT{lo hi mx:Option Operand}{a:Act}{w:World}{len cap l h m:Nat}(en:Env n ds σ a)(hl:BQ σ lo 0 l)(hh:BQ σ hi len h)(hm:BQ σ mx cap m)(h1:l≤h)(h2:h≤m)(h3:m≤cap)(hx:mx.isSome=true→hi.isSome=true)(b:Bool):
  (Instr.sliceBounds b len cap (lo.map a.eval) (hi.map a.eval) (mx.map a.eval)).run P w= .ok (l,h,m) w:=by
 unfold Instr.sliceBounds;cases mx with
 |none=>
  simp only[BQ]at hm;subst hm;cases hi with
  |none=>
   simp only[BQ]at hh;subst hh;cases lo with
   |none=>simp only[BQ]at hl;subst hl;simp
   |some x=>obtain⟨k,i,e,e2⟩:=hl;simp[gy (en.eval e) e2 h1]
  |some y=>
   obtain⟨k',i',e',e2'⟩:=hh;cases lo with
   |none=>simp only[BQ]at hl;subst hl;simp[gy (en.eval e') e2' h2]
   |some x=>obtain⟨k,i,e,e2⟩:=hl;simp[gy (en.eval e') e2' h2,gy (en.eval e) e2 h1]
 |some z=>
  obtain⟨k'',i'',e'',aej⟩:=hm;cases hi with
  |none=>simp at hx
  |some y=>
   obtain⟨k',i',e',e2'⟩:=hh;cases lo with
   |none=>simp only[BQ]at hl;subst hl;simp[gy (en.eval e'') aej h3,gy (en.eval e') e2' h2]
   |some x=>obtain⟨k,i,e,e2⟩:=hl;simp[gy (en.eval e'') aej h3,gy (en.eval e') e2' h2,gy (en.eval e) e2 h1]
theorem UT{t e sz:TypeId}{x:Operand}{lo hi mx:Option Operand}{a:Option Addr}{len cap:Nat}(l hh m:Nat)(ht:di P t=some (e,sz))(ho:o.op= .slice t x lo hi mx)(hx:bx σ x=some (.slice a len cap))
  (Eu:BQ σ lo 0 l) (hbh:BQ σ hi len hh) (Xw:BQ σ mx cap m) (h1:l≤hh) (h2:hh≤m) (h3:m≤cap) (Em:mx.isSome=true→hi.isSome=true):Yv P n ds F σ o (.slice (Ai a l m (l*sz)) (hh-l) (m-l)):=
 λac w en fr=>by
  obtain⟨hu,inf,vN,hz⟩:=jK ht;have hr:=xT (P:=P) (w:=w) en Eu hbh Xw h1 h2 h3 Em true;simp[execOp,ho,Instr.sliceAt,Instr.slice,en.eval hx,run_underlying hu,hr,sizeOf,typeInfo,vN,hz,Ai]
theorem Qb{t:TypeId}{x y:Operand}{s:List UInt8}{j:Nat}{k:IntKind}{i:Int}{c:UInt8}(ht:P.underlying t=some .string)(ho:o.op= .index t x y)(hx:bx σ x=some (aB s))(hy:bx σ y=some (.int k i))
  (hj:i=(j:Int)) (hc:s[j]?=some c):Yv P n ds F σ o (.int .u8 c.toNat):=
 λa w en fr=>by
  subst hj;unfold aB at hx;have bX:=(List.getElem?_eq_some_iff.1 hc).1;have hb:(ByteArray.mk s.toArray)[j]?=some c:=by
   have:j<(ByteArray.mk s.toArray).size:=by show j<s.toArray.size;simpa using bX
   rw[getElem?_pos (ByteArray.mk s.toArray) j this];have hc':=(List.getElem?_eq_some_iff.1 hc).2
   simpa[ByteArray.getElem_eq_getElem_data]using hc'
  simp[execOp,ho,Instr.index,en.eval hx,en.eval hy,asIntOf,run_underlying ht,hb]
def ai (l:List UInt8):List Value:=l.map λc=> .int .u8 c.toNat
@[simp] theorem jy (l : List UInt8) : (ai l).length = l.length := by simp [ai]
@[simp] theorem qv (a b : List UInt8) : ai (a ++ b) = ai a ++ ai b := by simp [ai]
theorem cY{l:List UInt8}:∀v∈ai l,v.oneCell'=true:=by
 intro v hv;simp only[ai,List.mem_map]at hv;obtain⟨c,_,rfl⟩:=hv;rfl
theorem sB{a:Option Addr}{l:List UInt8}{c:Nat}{w:World}(hr:dU (kh w) a (ai l)):(Conv.bytesToString (.slice a l.length c)).run P w= .ok (aB l) w:=by
 cases a with
 |none=>
  have:l= []:=by
   cases l with
   |nil=>rfl
   |cons x r=>obtain⟨ad,h1,_⟩:=hr 0 (.int .u8 x.toNat) (by simp[ai]);cases h1
  subst this;simp[Conv.bytesToString,aB];rfl
 |some ad=>
  have wK:∀j v,(ai l)[j]?=some v→w.cell? (ad.add j)=some v:=λj v e=>by
   obtain⟨ad',h1,h2⟩:=hr j v e;cases h1;exact h2
  have X1:=run_loadCells_list (P:=P) w ad (ai l) wK;rw[jy]at X1;have h:=run_bytesToString (P:=P) w ad l.length c (l.map λx=>(x.toNat:Int)) (by rw[X1];simp[ai]);rw[h];have key:∀(l:List UInt8) (acc:ByteArray),(l.map λx=>(x.toNat:Int)).foldl (λr q=>r.push (UInt8.ofNat q.toNat)) acc=⟨acc.data++l.toArray⟩:=by
   intro l
   induction l with
   |nil=>intro acc;simp
   |cons x r ih=>
    intro acc;simp only[List.map_cons,List.foldl_cons,ih];apply ByteArray.ext;apply Array.ext';simp[ByteArray.push]
  rw[key];simp[aB]
theorem FF{s t:TypeId}{x:Operand}{a:Option Addr}{l:List UInt8}{m c sz:Nat}{e:TypeId}(hs:di P s=some (e,sz))(he:P.underlying e=some (.int .u8))(ht:P.underlying t=some .string)(ho:o.op= .convert s t x)
  (hx:bx σ x=some (.slice a m c)) (hm:m=l.length) (hr:dU F.h a (ai l)):Yv P n ds F σ o (aB l):=λac w en fr=>by
 subst hm;have hr':=sB (P:=P) (c:=c) (hr.mono fr);have:=run_underlying (P:=P) (jK hs).1 w;cases a with
 |none=>simp[execOp,ho,en.eval hx,convert,this,run_underlying ht,run_underlying he,hr']
 |some ad=>simp[execOp,ho,en.eval hx,convert,this,run_underlying ht,run_underlying he,hr']
theorem UU{s t:TypeId}{x:Operand}{l:List UInt8}(hs:P.underlying s=some .string)(ht:P.underlying t=some .string)(ho:o.op= .convert s t x)(hx:bx σ x=some (aB l)):Yv P n ds F σ o (aB l):=λac w en fr=>by
 unfold aB at hx⊢;simp[execOp,ho,en.eval hx,convert,run_underlying hs,run_underlying ht]
theorem JV{t:TypeId}{x y:Operand}{a:Option Addr}{k cap e sz:Nat}{cells:List Value}{f:aa→List aa}{v:Value}(hs:dp P t=true)(ho:o.op= .store t x y)(hd:o.dst=none)(hx:bx σ x=some (.pointer (a.map (·.add k))))(hy:bx σ y=some v)
  (h1:v.oneCell'=true) (hu:Pos H (own a cap e sz cells) f) (hk:k<cells.length) (h:G n ds F K σ (f (own a cap e sz (cells.set k v)))):G n ds F (λa w=>o.wp P a w K Q) σ H:=by
 refine .mk λac w en s=> ?_;obtain⟨R,s1,s2⟩:=hu.sS;have sR:=s.sS s1;obtain⟨hh,⟨q1,q2,q3⟩,hl⟩:=sR.get;rcases q3 with q3|⟨b,sp,rfl,q4,q5⟩
 ·obtain⟨rfl,rfl⟩:=q3;omega
 have dY:=kR hl (eS q5 (List.getElem?_eq_getElem (show k<(cells++sp).length from by simp;omega)));have iY:=xN (P:=P) hs dY (r9 q5 (show k<(cells++sp).length from by simp;omega) hl) h1;have hpt:St F (ag b e (cells++sp)::R) w:=by
  obtain⟨a1,a2,a3,fr,h,⟨vQ,h2',dd,l1,l2,vX,st⟩,y,zz⟩:=sR;obtain⟨_,_,q3'|⟨b',sp',e',q4',q6⟩⟩:=vX
  ·exact absurd q3'.1 (by simp)
  simp only[Option.some.injEq,Addr.mk.injEq,and_true]at e';subst e';have h6:=l1.trans y;obtain⟨lo,vN,hf,gg⟩:=q6;have hw1:=h6 _ _ gg;obtain⟨lo2,uR,Et,ng⟩:=q5;have Uc:=hl _ _ ng;rw[hw1]at Uc;simp only[Option.some.injEq,Obj.cells.injEq]at Uc;have Mu:sp'=sp:=by simpa using Uc.1
  subst Mu;exact⟨a1,a2,a3,fr,h,⟨vQ,h2',dd,l1,l2,⟨lo,vN,hf,gg⟩,st⟩,y,zz⟩
 have UI:(execOp ac.eval o).run P w= .ok .skip (w.setCell ⟨b,k,none⟩ v):=by
  have hadd:(⟨b,0,none⟩:Addr).add k=⟨b,k,none⟩:=by rw[add_lit,Nat.zero_add]
  have Xl:=en.eval hx;simp only[Option.map_some,hadd]at Xl;simp[execOp,ho,Xl,en.eval hy,iY]
 unfold Oper.wp;rw[UI,Oper.upon_skip,hd];refine h _ _ en (St.oJ (s2 _) ((hpt.setCell v).sub λh' s'=>bm (λh'' p=>⟨by simpa using q1,q2, .inr ⟨b,sp,rfl,by simpa using q4, ?_⟩⟩) s'));rw[List.set_append_left _ _ hk]at p;exact p
def rC (l:List UInt8)(i:Nat):Nat:=(l.getD i 0).toNat
theorem PO (l:List UInt8)(i:Nat):rC l i<256:=(l.getD i 0).toNat_lt
theorem Mk{l:List UInt8}{i:Nat}(h:i<l.length):(ai l)[i]?=some (.int .u8 (rC l i:Int)):=by
 simp[ai,rC,h]
theorem dU.N8{h:Hp}{a:Option Addr}{l:List UInt8}(r:dU h a (ai l))(hl:0<l.length):a.isSome=true:=r.some (by simpa using hl)
end rules
end Go.dL
namespace Go.dL
open Go
def sP (P:Program)(t:TypeId):Option (TypeId×Nat×Nat×List Value):=
 match P.underlying t with
 |some (.slice e)=>match P.info? e with
  |some i=>match i.zero with
   |some z=>if z.cells.size=i.size&&0<i.size then some (e,i.size,i.bytes,z.cells.toList)else none
   |none=>none
  |none=>none
 |_=>none
theorem mP{P:Program}{t e sz mh:Nat}{z:List Value}(h:sP P t=some (e,sz,mh,z)):
  P.underlying t=some (.slice e)∧0<sz∧z.length=sz∧∃i zv,P.info? e=some i∧i.size=sz∧i.bytes=mh∧i.zero=some zv∧zv.cells=z.toArray:=by
 unfold sP at h;cases hu:P.underlying t with
 |none=>simp[hu]at h
 |some d=>
  cases d<;>simp[hu]at h
  rename_i e'
  cases hi:P.info? e' with
  |none=>simp[hi]at h
  |some i=>
   simp only[hi]at h;cases hz:i.zero with
   |none=>simp[hz]at h
   |some zv=>
    simp only[hz]at h
    split at h
    ·rename_i hc
     simp only[Bool.and_eq_true,decide_eq_true_eq,Option.some.injEq,Prod.mk.injEq]at h hc;obtain⟨rfl,rfl,rfl,rfl⟩:=h;exact⟨rfl,hc.2,by simpa using hc.1,i,zv,hi,rfl,rfl,hz,by simp⟩
    cases h
theorem pt:∀(vs pre TE post:List Value),TE.length=vs.length→bU (pre++(TE++post)) pre.length vs=pre++(vs++post):=by
 intro vs
 induction vs with
 |nil=>intro pre TE post h;have:TE= []:=List.eq_nil_of_length_eq_zero (by simpa using h);subst this;rfl
 |cons v vs ih=>
  intro pre TE post h;cases TE with
  |nil=>simp at h
  |cons m TE=>
   simp only[bU,List.cons_append];have h1:(pre++m::(TE++post)).set pre.length v=(pre++ [v])++(TE++post):=by
    rw[List.set_append_right _ _ (Nat.le_refl _)];simp
   have h2:pre.length+1=(pre++ [v]).length:=by simp
   rw[h1,h2,ih (pre++ [v]) TE post (by simpa using h)];simp
theorem lI{cs vs:List Value}{i:Nat}(h:i+vs.length≤cs.length):bU cs i vs=cs.take i++(vs++cs.drop (i+vs.length)):=by
 have h1:cs=cs.take i++((cs.drop i).take vs.length++cs.drop (i+vs.length)):=by
  rw[←List.drop_drop,List.take_append_drop,List.take_append_drop]
 have hl:(cs.take i).length=i:=by simp;omega
 have:=pt vs (cs.take i) ((cs.drop i).take vs.length) (cs.drop (i+vs.length)) (by simp;omega);rw[←h1,hl]at this;exact this
def Src (P:Program)(F:ee)(H:List aa)(sz m:Nat)(x:Value)(news:List Value):Prop:=
 ∀w,St F H w→(Builtin.lenOf x).run P w= .ok m w∧(∀j,j≤m→(Builtin.firstCells sz j x).run P w= .ok (news.take (j*sz)).toArray w)∧news.length=m*sz
theorem dJ{P:Program}{F:ee}{H:List aa}{sz m c:Nat}{a:Option Addr}{news:List Value}(hl:news.length=m*sz)(hr:∀h,Le F.h h→hJ H h→dU h a news):Src P F H sz m (.slice a m c) news:=by
 intro w s;obtain⟨hh,st,hle,_⟩:=s.own;have r:=hr (kh w) s.frame (cM st hle);refine⟨by simp[Builtin.lenOf],λj hj=> ?_,hl⟩;cases a with
 |none=>
  have:news= []:=by
   cases news with
   |nil=>rfl
   |cons x y=>obtain⟨ad,h1,_⟩:=r 0 x (by simp);cases h1
  subst this;simp[Builtin.firstCells]
 |some ad=>
  refine run_firstCells_some w sz j ad m c (news.take (j*sz)) ?_ ?_
  ·rw[List.length_take,hl];exact Nat.min_eq_left (Nat.mul_le_mul_right _ hj)
  intro i v hv;obtain⟨ad',h1,h2⟩:=(r.take (j*sz)) i v hv;cases h1;exact h2
section rules
variable {P:Program} {n:Nat} {ds:List Deferred} {F:ee} {Q:Exit→Act→World→Prop} {K:Act→World→Prop} {σ:ba} {H:List aa} {o:Oper} {d:Nat}
theorem DY{t t2 ty:TypeId}{e sz mh:Nat}{z:List Value}(ht:sP P t=some (e,sz,mh,z)){d2:TypeDesc}(ry:P.underlying t2=some d2)(GQ:d2= .string∨∃e2,d2= .slice e2){b off len cap m:Nat}{cs news:List Value}{R:List aa}{x:Value}{w:World}
  (s:St F (ag b e cs::R) w) (hs:Src P F (ag b e cs::R) sz m x news) (h1:∀v∈news,v.oneCell'=true) (kE:len+m≤cap) (yr:off+(len+m)*sz≤cs.length):
  ∃w',(Builtin.append_ #[t,t2] ty #[.slice (some ⟨b,off,none⟩) len cap,x]).run P w= .ok (.slice (some ⟨b,off,none⟩) (len+m) cap) w'∧St F (ag b e (bU cs (off+len*sz) news)::R) w':=by
 obtain⟨hu,sT,YL,i,zv,hi,rG,YT,hz,GJ⟩:=mP ht;obtain⟨s1,s2,s3⟩:=hs w s;have Xj:=s2 m (Nat.le_refl _);rw[←s3,List.take_length]at Xj;obtain⟨w',hr,st⟩:=jx (P:=P) news (off+len*sz) 0 cs w s (by rw[s3];rw[Nat.add_mul]at yr;omega) h1;refine⟨w', ?_,by simpa using st⟩;rcases GQ with rfl|⟨e2,rfl⟩<;>simp[Builtin.append_,run_underlying hu,run_underlying ry,sizeOf,typeInfo,hi,rG,s1,kE,Xj,add_lit,hr]
theorem DZ{t t2 ty:TypeId}{e sz mh:Nat}{z:List Value}(ht:sP P t=some (e,sz,mh,z)){d2:TypeDesc}(ry:P.underlying t2=some d2)(GQ:d2= .string∨∃e2,d2= .slice e2){a:Option Addr}{len cap m:Nat}{Af news:List Value}{R:List aa}{x:Value}{w:World}
  (s:St F R w) (ho:Af.length=len*sz) (hro:dU (kh w) a Af) (hs:Src P F R sz m x news) (kE:cap<len+m) (hb:(len+m)*mh≤140737488355328) (h63:len+m≤9223372036854775807):
  ∃w' b yx,(Builtin.append_ #[t,t2] ty #[.slice a len cap,x]).run P w= .ok (.slice (some ⟨b,0,none⟩) (len+m) yx) w'∧len+m≤yx∧yx≤maxLen∧
   ∃sp,(Af++news).length+sp.length=yx*sz∧St F (ag b e ((Af++news)++sp)::R) w':=by
 obtain⟨hu,sT,YL,i,zv,hi,rG,YT,hz,GJ⟩:=mP ht;have sd:St F R w.drew:=s.drew;obtain⟨s1,_,s3⟩:=hs w s;obtain⟨_,s2,_⟩:=hs w.drew sd;have Xj:=s2 m (Nat.le_refl _);rw[←s3,List.take_length]at Xj;have yr:=growslice_fits kE hb;have hold:(Builtin.firstCells sz len (.slice a len cap)).run P w.drew= .ok Af.toArray w.drew:=by
  cases a with
  |none=>
   have:Af= []:=by
    cases Af with
    |nil=>rfl
    |cons x y=>obtain⟨ad,h1,_⟩:=hro 0 x (by simp);cases h1
   subst this;simp[Builtin.firstCells]
  |some ad=>
   refine run_firstCells_some w.drew sz len ad len cap Af ho ?_;intro j v hv;obtain⟨ad',h1,h2⟩:=hro j v hv;cases h1;exact h2
 have GN:=grownCap_ge w (len+m) cap e;have hle:=grownCap_le_maxLen w (len+m) cap e (by simp only[maxLen];omega);have Mu:((Af++news)).length+(Builtin.zeroCells z.toArray (grownCap w (len+m) cap e-(len+m))).toList.length=grownCap w (len+m) cap e*sz:=by
  have hz':(Builtin.zeroCells z.toArray (grownCap w (len+m) cap e-(len+m))).toList.length=(grownCap w (len+m) cap e-(len+m))*sz:=by
   rw[Array.length_toList,size_zeroCells];simp[YL]
  rw[hz',List.length_append,ho,s3,←Nat.add_mul,←Nat.add_mul]
  congr 1;omega
 refine⟨_,w.heap.size,grownCap w (len+m) cap e, ?_,GN,hle,(Builtin.zeroCells z.toArray (grownCap w (len+m) cap e-(len+m))).toList,Mu,sd.new e _⟩;have hn:¬(len+m≤cap):=by omega
 have h63':¬(9223372036854775807<((len:Int)+(m:Int))):=by omega
 have h48':¬(281474976710656<Builtin.nextslicecap (len+m) cap*mh):=by omega
 have hdw:({w with drawn:=w.drawn+1}:World)=w.drew:=rfl;rcases GQ with rfl|⟨e2,rfl⟩<;>simp[Builtin.append_,run_underlying hu,run_underlying ry,sizeOf,typeInfo,hi,rG,YT,s1,hn,h63',h48',Question.forced,hdw,hold,Xj,zeroValue,hz,GJ,newRow,grownCap]
 all_goals
  congr 2
  apply Array.ext';simp
theorem GF{t t2 ty:TypeId}{e sz mh:Nat}{z:List Value}(ht:sP P t=some (e,sz,mh,z)){d2:TypeDesc}(ry:P.underlying t2=some d2)(GQ:d2= .string∨∃e2,d2= .slice e2){a:Option Addr}{len cap m:Nat}{xs news:List Value}{R:List aa}{x:Value}{w:World}
  (s:St F (own a cap e sz xs::R) w) (ho:xs.length=len*sz) (hs:Src P F (own a cap e sz xs::R) sz m x news) (h1:∀v∈news,v.oneCell'=true) (hb:(len+m)*mh≤140737488355328) (h63:len+m≤9223372036854775807):
  ∃w' a' yx,(Builtin.append_ #[t,t2] ty #[.slice a len cap,x]).run P w= .ok (.slice a' (len+m) yx) w'∧len+m≤yx∧St F (own a' yx e sz (xs++news)::R) w':=by
 obtain⟨hu,sT,YL,i,zv,hi,rG,YT,hz,GJ⟩:=mP ht;have YO:=(hs w s).2.2;by_cases kE:len+m≤cap
 ·obtain⟨hh,ho',hle⟩:=s.get
  obtain⟨q1,q2,q3|⟨b,sp,rfl,q4,q5⟩⟩:=ho'
  ·obtain⟨rfl,rfl⟩:=q3
   have uQ:len=0:=by omega
   have hm0:m=0:=by omega
   subst uQ;subst hm0;have hx:xs= []:=List.eq_nil_of_length_eq_zero (by simpa using ho);have hn:news= []:=List.eq_nil_of_length_eq_zero (by simpa using YO);subst hx;subst hn;obtain⟨s1,s2,_⟩:=hs w s;have Xj:=s2 0 (Nat.le_refl _);refine⟨w,none,0, ?_,by omega,(by simpa using s)⟩;simp at Xj;rcases GQ with rfl|⟨e2,rfl⟩<;>simp[Builtin.append_,run_underlying hu,run_underlying ry,sizeOf,typeInfo,hi,rG,s1,Xj]
  ·
   have hpt:St F (ag b e (xs++sp)::R) w:=by
    obtain⟨a1,a2,a3,fr,h,⟨vQ,h2',dd,l1,l2,vX,st⟩,y,zz⟩:=s;obtain⟨_,_,q3'|⟨b',sp',e',q4',q6⟩⟩:=vX
    ·exact absurd q3'.1 (by simp)
    simp only[Option.some.injEq,Addr.mk.injEq,and_true]at e';subst e';have h6:=l1.trans y;obtain⟨lo,vN,hf,gg⟩:=q6;have hw1:=h6 _ _ gg;obtain⟨lo2,uR,Et,ng⟩:=q5;have Uc:=hle _ _ ng;rw[hw1]at Uc;simp only[Option.some.injEq,Obj.cells.injEq,List.toArray_eq_iff]at Uc;have Mu:sp'=sp:=by
     have:=Uc.1
     simpa using this
    subst Mu;exact⟨a1,a2,a3,fr,h,⟨vQ,h2',dd,l1,l2,⟨lo,vN,hf,gg⟩,st⟩,y,zz⟩
   have YN:Src P F (ag b e (xs++sp)::R) sz m x news:=λw' s'=>hs w' (s'.sub λh st=>bm (λh' p=>⟨by omega,q2, .inr ⟨b,sp,rfl,q4,p⟩⟩) st);obtain⟨w',hr,st⟩:=DY (P:=P) (ty:=ty) ht ry GQ (off:=0) hpt YN h1 kE (by rw[List.length_append,q4];simpa using Nat.mul_le_mul_right sz kE);refine⟨w',_,cap,hr,kE, ?_⟩;have aaN:bU (xs++sp) (0+len*sz) news=(xs++news)++sp.drop news.length:=by
    rw[Nat.zero_add,←ho];have TN:news.length≤sp.length:=by
     have h2:=Nat.mul_le_mul_right sz kE;rw[Nat.add_mul]at h2;omega
    have:=pt news xs (sp.take news.length) (sp.drop news.length) (by simp;omega);rw[List.take_append_drop]at this;rw[this,List.append_assoc]
   rw[aaN]at st;refine st.sub λh s'=>bm (λh' p=>⟨?_,q2, .inr ⟨b,_,rfl, ?_,p⟩⟩) s'
   ·rw[List.length_append,ho,YO,←Nat.add_mul];exact Nat.mul_le_mul_right _ kE
   have h2:=Nat.mul_le_mul_right sz kE;rw[Nat.add_mul]at h2;simp only[List.length_append,List.length_drop];omega
 obtain⟨hh,ho',hle⟩:=s.get;obtain⟨w',b,yx,hr,GN,BF,sp,Mu,st⟩:=DZ (P:=P) (ty:=ty) (cap:=cap) ht ry GQ s ho ((pG ho').mono hle) hs (by omega) hb h63;refine⟨w',_,yx,hr,GN, ?_⟩;have st2:=(st.sub λ_ s'=>dK s').drop;refine st2.sub λh s'=>bm (λh' p=>⟨?_,BF, .inr ⟨b,sp,rfl,Mu,p⟩⟩) s';omega
def kK (P:Program)(t:TypeId):Bool:=match P.underlying t with|some (.slice _)=>true|some .string=>true|_=>false
theorem DI{t:TypeId}(h:kK P t=true):∃d,P.underlying t=some d∧(d= .string∨∃e2,d= .slice e2):=by
 unfold kK at h;cases hu:P.underlying t with
 |none=>simp[hu]at h
 |some d=>rw[hu]at h;cases d<;>simp at h<;>exact⟨_,rfl,by simp⟩
theorem Bp{ρ:Operand→Value}{x y:Operand}{t t2:TypeId}{w:World}(ho:o.op= .call {callee:= .builtin .append,args:= #[x,y],argTypes:= #[t,t2]}):
  (execOp ρ o).run P w=((Builtin.append_ #[t,t2] o.type #[ρ x,ρ y]).run P w).andThen λv w'=> .ok (.value v) w':=by
 simp[execOp,ho,resolve,invoke,builtin]
theorem eo{t t2:TypeId}{e sz mh m len cap:Nat}{z xs news:List Value}{x y:Operand}{a:Option Addr}{v:Value}{f:aa→List aa}(ht:sP P t=some (e,sz,mh,z))(ry:kK P t2=true)
  (ho:o.op= .call {callee:= .builtin .append,args:= #[x,y],argTypes:= #[t,t2]}) (hd:o.dst=some d) (hx:bx σ x=some (.slice a len cap)) (hy:bx σ y=some v)
  (hu:Pos H (own a cap e sz xs) f) (hl:xs.length=len*sz) (hs:Src P F H sz m v news) (h1:∀u∈news,u.oneCell'=true) (hb:(len+m)*mh≤140737488355328) (h63:len+m≤9223372036854775807) (hdn:Nat.blt d n=true)
  (h:∀a' c',len+m≤c'→G n ds F K ((d, .slice a' (len+m) c')::σ) (f (own a' c' e sz (xs++news)))):G n ds F (λa w=>o.wp P a w K Q) σ H:=by
 refine .mk λac w en s=> ?_;obtain⟨d2,GQ,hd2'⟩:=DI ry;obtain⟨R,sS,back⟩:=hu.sS;obtain⟨w',a',c',hr,GN,st⟩:=GF (P:=P) (ty:=o.type) ht GQ hd2' (s.sS sS) hl (λw' s'=>hs w' (s'.oJ sS)) h1 hb h63;unfold Oper.wp;rw[Bp ho,en.eval hx,en.eval hy,hr,Result.andThen_ok,Oper.upon_value,hd];exact h a' c' GN _ _ (en.put hdn _) (st.oJ (back _))
theorem bF{t t2:TypeId}{e sz mh m len cap b:Nat}{z xs news:List Value}{x y:Operand}{a:Option Addr}{c:Nat}{e2:TypeId}{f:aa→List aa}(ht:sP P t=some (e,sz,mh,z))(ry:kK P t2=true)
  (ho:o.op= .call {callee:= .builtin .append,args:= #[x,y],argTypes:= #[t,t2]}) (hd:o.dst=some d) (hx:bx σ x=some (.slice a len cap)) (hy:bx σ y=some (.slice (some ⟨b,0,none⟩) m c))
  (hu:Pos H (own a cap e sz xs) f) (hl:xs.length=len*sz) (hm:news.length=m*sz) (h1:∀u∈news,u.oneCell'=true) (hb:(len+m)*mh≤140737488355328) (h63:len+m≤9223372036854775807) (hdn:Nat.blt d n=true)
  (h:∀a' c',len+m≤c'→G n ds F K ((d, .slice a' (len+m) c')::σ) (f (own a' c' e sz (xs++news)))):G n ds F (λa w=>o.wp P a w K Q) σ (ag b e2 news::H):=by
 refine eo ht ry ho hd hx hy (.there hu) hl (dJ hm ?_) h1 hb h63 hdn ?_
 ·intro hh _ il
  obtain⟨⟨k,pk,lk⟩,_⟩:=il;exact(pF (i:=0) pk).mono lk
 intro a' c' hc;exact aC (λ_ s=>by obtain⟨_,_,_,_,l2,_,s⟩:=s;exact eF s l2) (h a' c' hc)
def nW (pl:Nat→Option (Nat×Nat)):List Value→List (Nat×Value)→Option (List Value)
 |cells,[]=>some cells
 |cells,(i,v)::rest=>
  match pl i with
  |none=>none
  |some (off,size)=>if v.cells.size=size∧off+size≤cells.length then nW pl (bU cells off v.cells.toList) rest else none
theorem FZ:∀(vs:List Value) (cs:List Value) (off k:Nat),
  ((vs.zipIdx k).foldl (λ(c:Array Value) (p:Value×Nat)=>c.setIfInBounds (off+p.2) p.1) cs.toArray)=(bU cs (off+k) vs).toArray:=by
 intro vs
 induction vs with
 |nil=>intro cs off k;rfl
 |cons v vs ih=>
  intro cs off k;simp only[List.zipIdx_cons,List.foldl_cons,bU];have:=ih (cs.set (off+k) v) off (k+1);rw[←Nat.add_assoc]at this;rw[←this];simp
theorem fill_eq (pl:Nat→Option (Nat×Nat)):∀(parts:List (Nat×Value)) (cells:List Value) (r:List Value),nW pl cells parts=some r→Instr.fill pl cells.toArray parts=some r.toArray:=by
 intro parts
 induction parts with
 |nil=>intro cells r h;simp[nW]at h;simp[Instr.fill,h]
 |cons p rest ih=>
  intro cells r h;obtain⟨i,v⟩:=p;simp only[nW]at h;cases hp:pl i with
  |none=>simp[hp]at h
  |some q=>
   obtain⟨off,size⟩:=q;simp only[hp]at h
   split at h
   ·rename_i hc
    have:=ih _ _ h;simp only[Instr.fill,hp];rw[if_neg (by simp only[List.size_toArray,ne_eq,decide_not,Bool.or_eq_true,Bool.not_eq_true',decide_eq_false_iff_not,decide_eq_true_eq];omega)];have h2:=FZ v.cells.toList cells off 0;rw[Nat.add_zero]at h2;rw[←this,←h2,←Array.foldl_toList];simp
   cases h
def gu (z:List Value)(k:Nat):List Value:=(List.range k).map λi=>(z[i % z.length]?).getD undef
theorem o0 (v:Value)(k:Nat):gu [v] k=List.replicate k v:=by
 apply List.ext_getElem
 ·simp[gu]
 intro i h1 h2;simp[gu,Nat.mod_one]
theorem jJ (z:List Value)(k:Nat):(gu z k).length=k:=by simp[gu]
theorem Hk{z:List Value}(hz:0<z.length)(k:Nat):(Array.range k).map (λi=>(z.toArray)[i % z.toArray.size]!)=(gu z k).toArray:=by
 apply Array.ext';simp only[Array.toList_map,Array.toList_range,gu];apply List.map_congr_left;intro i _;have:i % z.length<z.length:=Nat.mod_lt _ hz;simp[this]
theorem tT{a:Act}(en:Env n ds σ a){parts:List (Nat×Operand)}{vs:List Value}(h:jY σ (parts.map (·.2))=some vs):(parts.map λp=>(p.1,a.eval p.2))=(parts.map (·.1)).zip vs:=by
 have:=en.wy h;rw[←this]
 clear h this
 induction parts with
 |nil=>rfl
 |cons p r ih=>simp only[List.map_cons,List.zip_cons_cons,ih]
theorem aas{t:TypeId}{e sz mh len:Nat}{z vs cs:List Value}{parts:List (Nat×Operand)}(ht:sP P t=some (e,sz,mh,z))(ho:o.op= .buildSlice t len parts.toArray)(hd:o.dst=some d)(hv:jY σ (parts.map (·.2))=some vs)
  (hk:Nat.ble (len*sz) 16777216=true) (hc:nW (λi=>some (i*sz,sz)) (gu z (len*sz)) ((parts.map (·.1)).zip vs)=some cs) (hdn:Nat.blt d n=true)
  (h:∀b,G n ds F K ((d, .slice (some ⟨b,0,none⟩) len len)::σ) (ag b e cs::H)):G n ds F (λa w=>o.wp P a w K Q) σ H:=by
 refine .mk λac w en s=> ?_;obtain⟨hu,sT,YL,i,zv,hi,rG,YT,hz,GJ⟩:=mP ht;have hp:=tT en hv;have Xt:¬(2^24<len*sz):=by have:=Nat.le_of_ble_eq_true hk;omega
 have hz0:0<z.length:=by omega
 have wK:(if len*sz=0 then(pure #[]:Sem (Array Value))else do pure (←zeroValue e).cells).run P w= .ok (if len*sz=0 then #[]else z.toArray) w:=by
  split<;>simp[zeroValue,typeInfo,hi,hz,GJ]
 have yp:(Array.range (len*sz)).map (λj=>(if len*sz=0 then(#[]:Array Value)else z.toArray)[j % (if len*sz=0 then(#[]:Array Value)else z.toArray).size]!)=(gu z (len*sz)).toArray:=by
  by_cases h0:len*sz=0
  ·simp[h0,gu]
  simp only[h0,if_false];exact Hk hz0 _
 unfold Oper.wp;have:(execOp ac.eval o).run P w= .ok (.value (.slice (some ⟨w.heap.size,0,none⟩) len len)) (w.alloc (.cells cs.toArray e)):=by
  have kF:=fill_eq _ _ _ _ hc;rw[←hp]at kF;by_cases h0:len*sz=0
  ·simp only[h0,if_true]at yp
   rw[h0]at kF;have Nz:(Array.range 0).map (λ_=>(default:Value))=(gu z 0).toArray:=by simp[gu]
   simp[execOp,ho,Instr.buildSlice,run_underlying hu,sizeOf,typeInfo,hi,rG,h0,Nz,kF,newRow]
  simp only[h0,if_false]at yp;simp[execOp,ho,Instr.buildSlice,run_underlying hu,sizeOf,typeInfo,zeroValue,hi,rG,h0,Xt,hz,GJ];rw[show(Array.range (len*sz)).map (λx=>(z[x % z.length]?).getD default)=(gu z (len*sz)).toArray from by simpa using yp,kF];simp[newRow]
 rw[this,Oper.upon_value,hd];exact h _ _ _ (en.put hdn _) (s.new e cs)
theorem Gr{sz:Nat}:∀(vs:List Value) (k:Nat) (pre post:List Value),(∀v∈vs,v.cells.size=sz)→post.length=vs.length*sz→pre.length=k*sz→
  nW (λi=>some (i*sz,sz)) (pre++post) ((List.range' k vs.length).zip vs)=some (pre++vs.flatMap λv=>v.cells.toList):=by
 intro vs
 induction vs with
 |nil=>intro k pre post _ hp _;have:post= []:=List.eq_nil_of_length_eq_zero (by simpa using hp);subst this;simp[nW]
 |cons v r ih=>
  intro k pre post hv hp hk;have hv1:=hv v (by simp);have hpl:sz≤post.length:=by rw[hp,List.length_cons,Nat.add_mul];omega
  simp only[List.length_cons,List.range'_succ,List.zip_cons_cons,nW];rw[if_pos ⟨hv1,by rw[List.length_append];omega⟩];have h1:=pt v.cells.toList pre (post.take sz) (post.drop sz) (by simp[hv1];omega);rw[List.take_append_drop,hk]at h1;rw[h1,←List.append_assoc,ih (k+1) (pre++v.cells.toList) (post.drop sz) (λu hu=>hv u (by simp[hu])) (by simp only[List.length_drop,hp,List.length_cons,Nat.add_mul];omega) (by simp[hk,hv1,Nat.add_mul])];simp
theorem HP{t:TypeId}{e sz mh len:Nat}{z vs cs:List Value}{parts:List (Nat×Operand)}(ht:sP P t=some (e,sz,mh,z))(ho:o.op= .buildSlice t len parts.toArray)(hd:o.dst=some d)(hv:jY σ (parts.map (·.2))=some vs)
  (hk:Nat.ble (len*sz) 16777216=true) (hi:parts.map (·.1)=List.range' 0 vs.length) (hlen:vs.length=len) (sT:∀v∈vs,v.cells.size=sz) (hc:(vs.flatMap λv=>v.cells.toList)=cs) (hdn:Nat.blt d n=true)
  (h:∀b,G n ds F K ((d, .slice (some ⟨b,0,none⟩) len len)::σ) (ag b e cs::H)):G n ds F (λa w=>o.wp P a w K Q) σ H:=by
 refine aas ht ho hd hv hk ?_ hdn h;have:=Gr vs 0 [] (gu z (len*sz)) sT (by rw[jJ,hlen]) (by simp);rw[hi]
 simpa[hc]using this
theorem VN{t:TypeId}{e mh len:Nat}{z vs:List Value}{parts:List (Nat×Operand)}(ht:sP P t=some (e,1,mh,z))(ho:o.op= .buildSlice t len parts.toArray)(hd:o.dst=some d)(hv:jY σ (parts.map (·.2))=some vs)
  (hk:Nat.ble (len*1) 16777216=true) (hi:parts.map (·.1)=List.range' 0 vs.length) (hlen:vs.length=len) (h1:∀v∈vs,v.oneCell'=true) (hdn:Nat.blt d n=true)
  (h:∀b,G n ds F K ((d, .slice (some ⟨b,0,none⟩) len len)::σ) (ag b e vs::H)):G n ds F (λa w=>o.wp P a w K Q) σ H:=by
 have dY:∀v:Value,v.oneCell'=true→v.cells= #[v]:=λv hv=>by cases v<;>simp[Value.oneCell']at hv<;>rfl
 refine HP ht ho hd hv hk hi hlen (λv hv=>by rw[dY v (h1 v hv)];rfl) ?_ hdn h
 clear hv hi hlen h
 induction vs with
 |nil=>rfl
 |cons v r ih=>rw[List.flatMap_cons,dY v (h1 v (by simp)),ih (λu hu=>h1 u (by simp[hu]))];rfl
theorem VO{t:TypeId}{e sz mh:Nat}{z cs:List Value}{x:Operand}(ht:sP P t=some (e,sz,mh,z))(ho:o.op= .buildSlice t 1 #[(0,x)])(hd:o.dst=some d)(hx:bx σ x=some (.agg cs.toArray))
  (hl:cs.length=sz) (hk:Nat.ble (1*sz) 16777216=true) (hdn:Nat.blt d n=true)
  (h:∀b,G n ds F K ((d, .slice (some ⟨b,0,none⟩) 1 1)::σ) (ag b e cs::H)):G n ds F (λa w=>o.wp P a w K Q) σ H:=
 HP (parts:= [(0,x)]) (vs:= [.agg cs.toArray]) ht ho hd (by simp[jY,hx]) hk rfl rfl (by simp[Value.cells,hl]) (by simp[Value.cells]) hdn h
def iE (P:Program)(t:TypeId):Option (List (Nat×Nat)):=
 match P.underlying t with
 |some (.struct fs)=>fs.toList.mapM λf=>(P.info? f.type).map λi=>(f.offset,i.size)
 |_=>none
theorem DK{fs:List Field}{pl:List (Nat×Nat)}(h:(fs.mapM λf=>(P.info? f.type).map λi=>(f.offset,i.size))=some pl)(w:World):
  (fs.mapM λf=>Prod.mk f.offset<$>sizeOf f.type:Sem (List (Nat×Nat))).run P w= .ok pl w:=by
 induction fs generalizing pl with
 |nil=>simp at h;simp[h]
 |cons f r ih=>
  simp only[List.mapM_cons]at h⊢;cases hi:P.info? f.type with
  |none=>simp[hi]at h
  |some i=>
   simp only[hi,Option.map_some,Option.bind_eq_bind,Option.bind_some]at h;cases hr:(r.mapM λf=>(P.info? f.type).map λi=>(f.offset,i.size))with
   |none=>simp[hr]at h
   |some pl'=>
    simp[hr]at h;have:=ih hr;simp[sizeOf,typeInfo,hi]at this⊢;simp[this,←h]
theorem UW{t:TypeId}{pl:List (Nat×Nat)}{zs vs cs:List Value}{parts:List (Nat×Operand)}(hz:cq P t=some zs)(hpl:iE P t=some pl)(ho:o.op= .build t parts.toArray)(hv:jY σ (parts.map (·.2))=some vs)
  (hc:nW (λi=>pl[i]?) zs ((parts.map (·.1)).zip vs)=some cs):Yv P n ds F σ o (.agg cs.toArray):=
 λac w en fr=>by
  have hp:=tT en hv;obtain⟨zv,hzr,GJ⟩:=ph hz (w:=w);unfold iE at hpl;cases hu:P.underlying t with
  |none=>simp[hu]at hpl
  |some dsc=>
   cases dsc<;>simp[hu]at hpl
   rename_i fs
   have hm:=DK (P:=P) (by simpa using hpl) w;have kF:=fill_eq _ _ _ _ hc;rw[←hp]at kF;have hm':(fs.mapM λf=>Prod.mk f.offset<$>sizeOf f.type:Sem (Array (Nat×Nat))).run P w= .ok pl.toArray w:=by
    rw[←Array.toArray_toList (xs:=fs),List.mapM_toArray];simp[hm]
   simp[execOp,ho,Instr.build,hzr,run_underlying hu,hm',GJ,kF]
theorem VM{t:TypeId}{e sz mh:Nat}{z:List Value}{x y:Operand}{k k':IntKind}{i j:Int}{l c:Nat}(ht:sP P t=some (e,sz,mh,z))(ho:o.op= .makeSlice t x y)(hd:o.dst=some d)(hx:bx σ x=some (.int k i))(hy:bx σ y=some (.int k' j))
  (vN:i=(l:Int)) (hj:j=(c:Int)) (hlc:l≤c) (hc:c*mh≤281474976710656) (ow:c≤9223372036854775807) (hdn:Nat.blt d n=true)
  (h:∀b,G n ds F K ((d, .slice (some ⟨b,0,none⟩) l c)::σ) (ag b e (gu z (c*sz))::H)):G n ds F (λa w=>o.wp P a w K Q) σ H:=by
 refine .mk λac w en s=> ?_;obtain⟨hu,sT,YL,inf,zv,hi,rG,YT,hz,GJ⟩:=mP ht;subst vN;subst hj;have hz0:0<z.length:=by omega
 have hwl:IntKind.i64.wrap (l:Int)=l:=wrap_i64 (by omega);have hwc:IntKind.i64.wrap (c:Int)=c:=wrap_i64 (by omega);have qd:¬((281474976710656:Int)<(mh:Int)*(c:Int)):=by
  have:(mh:Int)*(c:Int)=((c*mh:Nat):Int):=by push_cast;rw[Int.mul_comm]
  omega
 have yp:(Array.range (c*sz)).map (λj=>(if c*sz=0 then(#[]:Array Value)else z.toArray)[j % (if c*sz=0 then(#[]:Array Value)else z.toArray).size]!)=(gu z (c*sz)).toArray:=by
  by_cases h0:c*sz=0
  ·simp[h0,gu]
  simp only[h0,if_false];exact Hk hz0 _
 have wK:(if c*sz=0 then(pure #[]:Sem (Array Value))else do pure (←zeroValue e).cells).run P w= .ok (if c*sz=0 then #[]else z.toArray) w:=by
  split<;>simp[zeroValue,typeInfo,hi,hz,GJ]
 unfold Oper.wp;have:(execOp ac.eval o).run P w= .ok (.value (.slice (some ⟨w.heap.size,0,none⟩) l c)) (w.alloc (.cells (gu z (c*sz)).toArray e)):=by
  have afl:(decide ((c:Int)<0) ||decide ((mh:Int)*(c:Int)>2^48) ||decide ((l:Int)<0) ||decide ((l:Int)>(c:Int)))=false:=by
   simp only[Bool.or_eq_false_iff,decide_eq_false_iff_not];refine⟨⟨⟨by omega, ?_⟩,by omega⟩,by omega⟩;have:(2:Int)^48=281474976710656:=by decide
   rw[this];exact qd
  simp only[execOp,ho,Instr.makeSlice,Sem.run_bind,run_underlying hu,Result.andThen_ok,sizeOf,typeInfo,run_program,hi,Sem.run_pure,rG,YT,en.eval hx,en.eval hy,asInt,asIntOf,hwl,hwc];simp only[afl,Bool.false_eq_true,if_false,Sem.run_bind,Sem.run_pure,run_askRoom,Result.andThen_ok,Int.toNat_natCast];by_cases h0:c*sz=0
  ·simp only[h0,if_true]at yp
   have Nz:(Array.range 0).map (λ_=>(default:Value))=(gu z 0).toArray:=by simp[gu]
   simp[hi,rG,h0,newRow,Nz]
  simp only[h0,if_false]at yp;simp[hi,rG,h0,zeroValue,typeInfo,hz,GJ,newRow];rw[show(Array.range (c*sz)).map (λx=>(z[x % z.length]?).getD default)=(gu z (c*sz)).toArray from by simpa using yp]
 rw[this,Oper.upon_value,hd];exact h _ _ _ (en.put hdn _) (s.new e _)
theorem HQ{t t2:TypeId}{e sz mh m dl dc b off:Nat}{z cs news:List Value}{x y:Operand}{v:Value}{e2:TypeId}{f:aa→List aa}(ht:sP P t=some (e,sz,mh,z))(ho:o.op= .call {callee:= .builtin .copy,args:= #[x,y],argTypes:= #[t,t2]})(hd:o.dst=some d)
  (hx:bx σ x=some (.slice (some ⟨b,off,none⟩) dl dc)) (hy:bx σ y=some v) (hu:Pos H (ag b e2 cs) f) (hs:Src P F H sz m v news) (h1:∀u∈news,u.oneCell'=true) (yr:off+dl*sz≤cs.length) (hdn:Nat.blt d n=true)
  (h:G n ds F K ((d, .int .i64 ((min m dl:Nat):Int))::σ) (f (ag b e2 (bU cs off (news.take (min m dl*sz)))))):G n ds F (λa w=>o.wp P a w K Q) σ H:=by
 refine .mk λac w en s=> ?_;obtain⟨hut,sT,YL,inf,zv,hi,rG,YT,hz,GJ⟩:=mP ht;obtain⟨s1,s2,s3⟩:=hs w s;obtain⟨R,sS,back⟩:=hu.sS;have hlen:(news.take (min m dl*sz)).length=min m dl*sz:=by
  rw[List.length_take,s3];exact Nat.min_eq_left (Nat.mul_le_mul_right _ (Nat.min_le_left _ _))
 obtain⟨w',hr,st⟩:=jx (P:=P) (news.take (min m dl*sz)) off 0 cs w (s.sS sS) (by rw[hlen];have:=Nat.mul_le_mul_right sz (Nat.min_le_right m dl);omega) (λu hu=>h1 u (List.mem_of_mem_take hu));unfold Oper.wp;have:(execOp ac.eval o).run P w= .ok (.value (.int .i64 ((min m dl:Nat):Int))) w':=by
  have hmin:Nat.min m dl=min m dl:=rfl;simp[execOp,ho,resolve,invoke,builtin,Builtin.copy_,en.eval hx,en.eval hy,run_underlying hut,sizeOf,typeInfo,hi,rG,s1,hmin,s2 _ (Nat.min_le_left m dl),hr,goInt]
 rw[this,Oper.upon_value,hd];exact h _ _ (en.put hdn _) (by simpa using st.oJ (back _))
end rules
end Go.dL
namespace Go.dL
open Go
def UF:List Nat→Nat→Bool
 | [],_=>false
 |x::r,t=>match Nat.beq x t with|true=>true|false=>UF r t
def gH (mj:List Nat):ba→ba
 | []=> []
 |(k,v)::r=>match UF mj k with|true=>gH mj r|false=>(k,v)::gH mj r
theorem Gh{mj:List Nat}:∀{σ:ba} {t:Nat} {v:Value},look (gH mj σ) t=some v→look σ t=some v∧UF mj t=false:=by
 intro σ
 induction σ with
 |nil=>intro t v h;simp[gH,look]at h
 |cons p r ih=>
  obtain⟨k,u⟩:=p;intro t v h;simp only[gH]at h;cases hm:UF mj k with
  |true=>
   rw[hm]at h;obtain⟨h1,h2⟩:=ih h;refine⟨?_,h2⟩;simp only[look];cases hb:Nat.beq k t with
   |true=>have:=Nat.eq_of_beq_eq_true hb;subst this;rw[hm]at h2;cases h2
   |false=>exact h1
  |false=>
   rw[hm]at h;simp only[look]at h⊢;cases hb:Nat.beq k t with
   |true=>rw[hb]at h;have:=Nat.eq_of_beq_eq_true hb;subst this;exact⟨h,hm⟩
   |false=>rw[hb]at h;exact ih h
theorem DM{L K:ba}{t:Nat}{v:Value}(h:look (L++K) t=some v):look L t=some v∨look K t=some v:=by
 induction L with
 |nil=>exact .inr h
 |cons p r ih=>
  obtain⟨k,u⟩:=p;simp only[List.cons_append,look]at h⊢;cases hb:Nat.beq k t with
  |true=>rw[hb]at h;exact .inl h
  |false=>rw[hb]at h;exact ih h
theorem Env.yo{n:Nat}{ds:List Deferred}{σ σ' L:ba}{a:Act}{mj:List Nat}(e:Env n ds σ' a)(hs:uK L σ')(hk:gH mj σ'=gH mj σ):Env n ds (L++gH mj σ) a:=
 ⟨e.size,e.defers,λt v h=>(DM h).elim (λh1=>e.slot t v (hs.look t v h1)) λh1=>by
  rw[←hk]at h1;exact e.slot t v (Gh h1).1⟩
section
variable {ι:Type} (n:Nat) (ds:List Deferred) (F:ee) (mj:List Nat) (σ:ba) (I:ι→Prop) (L:ι→ba) (HI:ι→List aa)
def vI (μ:ι→Nat)(i:ι)(a:Act)(w:World):Prop:=∃j,I j∧μ j<μ i∧Env n ds (L j++gH mj σ) a∧St F (HI j) w
def NT (a:Act)(w:World):Prop:=∃j,I j∧Env n ds (L j++gH mj σ) a∧St F (HI j) w
end
section rules
variable {P:Program} {n:Nat} {ds:List Deferred} {F:ee} {Q:Exit→Act→World→Prop} {K:Act→World→Prop} {σ:ba} {H:List aa} {o:Oper} {d:Nat}
theorem WN{ι:Type}{c:Code}(mj:List Nat)(I:ι→Prop)(L:ι→ba)(HI:ι→List aa)(μ:ι→Nat)(i₀:ι)(h0:I i₀)(hs:uK (L i₀) σ)(hh:∀h,ak H h→ak (HI i₀) h)
  (round:∀i,I i→G n ds F (c.wp P (Exit.then (vI n ds F mj σ I L HI μ i) Q)) (L i++gH mj σ) (HI i)):G n ds F ((Code.loop c).wp P Q) σ H:=by
 refine .mk λa w e s b k cs=> ?_;have key:∀m i a w,μ i=m→I i→Env n ds (L i++gH mj σ) a→St F (HI i) w→
   ∃e a' w',Q e a' w'∧Arrives P (lone (b.at a (.code c:: .inLoop c::k)) cs w) b k cs e a' w':=by
  intro m
  induction m using Nat.strongRecOn with
  |_ m ih=>
   intro i a w hm hI he iY;obtain⟨e,a₁,w₁,hq,B0⟩:=round i hI a w he iY b (.inLoop c::k) cs;cases e with
   |normal=>
    obtain⟨j,hj,bX,he₁,hs₁⟩:=hq;obtain⟨e₂,a₂,w₂,hq₂,harr₂⟩:=ih (μ j) (hm▸bX) j a₁ w₁ rfl hj he₁ hs₁;exact⟨e₂,a₂,w₂,hq₂, .of_steps (Steps.trans B0 (.one step_inLoop)) harr₂⟩
   |exit id=>exact⟨_,a₁,w₁,hq, .pass (x:= .inLoop c) rfl (λ_ _=> .inl (by simp)) B0⟩
   |goto l=>exact⟨_,a₁,w₁,hq, .pass (x:= .inLoop c) rfl (λ_ _=> .inl (by simp)) B0⟩
   |ret=>exact⟨_,a₁,w₁,hq, .pass (x:= .inLoop c) rfl (λ_ _=> .inl (by simp)) B0⟩
   |panic ch=>exact⟨_,a₁,w₁,hq, .pass (x:= .inLoop c) rfl (λ_ _=> .inl (by simp)) B0⟩
   |outgrown=>exact⟨_,a₁,w₁,hq, .pass (x:= .inLoop c) rfl (λ_ _=> .inl (by simp)) B0⟩
 obtain⟨e',a',w',hq,B0⟩:=key _ i₀ a w rfl h0 (e.yo hs rfl) (s.sub hh);exact⟨e',a',w',hq, .of_steps (.one step_loop) B0⟩
theorem SJ{ι:Type}{mj:List Nat}{σ0:ba}{I:ι→Prop}{L:ι→ba}{HI:ι→List aa}{μ:ι→Nat}{i:ι}(j:ι)(hI:I j)(hm:μ j<μ i)(hs:uK (L j) σ)(hk:gH mj σ=gH mj σ0)(hh:∀h,ak H h→ak (HI j) h):
  G n ds F (Exit.then (vI n ds F mj σ0 I L HI μ i) Q .normal) σ H:=
 .mk λ_ _ e s=>⟨j,hI,hm,e.yo hs hk,s.sub hh⟩
theorem agc{ι:Type}{mj:List Nat}{σ0:ba}{I:ι→Prop}{L:ι→ba}{HI:ι→List aa}(j:ι)(hI:I j)(hs:uK (L j) σ)(hk:gH mj σ=gH mj σ0)(hh:∀h,ak H h→ak (HI j) h):
  G n ds F (Exit.then (NT n ds F mj σ0 I L HI) Q .normal) σ H:=
 .mk λ_ _ e s=>⟨j,hI,e.yo hs hk,s.sub hh⟩
theorem cg{ι:Type}{x:Code}(mj:List Nat)(I:ι→Prop)(L:ι→ba)(HI:ι→List aa)(hx:G n ds F (x.wp P (Exit.then (NT n ds F mj σ I L HI) Q)) σ H)
  (hy:∀j,I j→G n ds F K (L j++gH mj σ) (HI j)):G n ds F (x.wp P (Exit.then K Q)) σ H:=
 .mk λa w e s=>wp_mono (hx a w e s) λex a' w' q=>by
  cases ex with
  |normal=>obtain⟨j,hj,he,hs⟩:=q;exact hy j hj _ _ he hs
  |exit id=>exact q
  |goto l=>exact q
  |ret=>exact q
  |panic ch=>exact q
  |outgrown=>exact q
theorem aE{t:Nat}{b:Bool}(ht:look σ t=some (.bool b))(h1:b=true→G n ds F K ((t, .bool true)::σ) H)(h2:b=false→G n ds F K ((t, .bool false)::σ) H):G n ds F K σ H:=by
 have key:∀c,b=c→∀a,Env n ds σ a→Env n ds ((t, .bool c)::σ) a:=λc hc a e=>⟨e.size,e.defers,λu v hv=>by
  simp only[look]at hv;cases hb:Nat.beq t u with
  |true=>rw[hb]at hv;cases hv;have:=Nat.eq_of_beq_eq_true hb;subst this;subst hc;exact e.slot _ _ ht
  |false=>rw[hb]at hv;exact e.slot _ _ hv⟩
 refine .mk λa w e s=> ?_;cases hb:b with
 |true=>exact h1 hb a w (key true hb a e) s
 |false=>exact h2 hb a w (key false hb a e) s
theorem ao{t:Nat}{v v':Value}(ht:look σ t=some v)(hv:v=v')(h:G n ds F K ((t,v')::σ) H):G n ds F K σ H:=by
 subst hv;refine .mk λa w e s=> ?_;refine h a w ⟨e.size,e.defers,λu x hx=> ?_⟩ s;simp only[look]at hx;cases hb:Nat.beq t u with
 |true=>rw[hb]at hx;cases hx;have:=Nat.eq_of_beq_eq_true hb;subst this;exact e.slot _ _ ht
 |false=>rw[hb]at hx;exact e.slot _ _ hx
theorem yb:∀{A B:List aa} {h:Hp},ak (A++B) h→ak A h:=by
 intro A
 induction A with
 |nil=>intros;trivial
 |cons X r ih=>intro B h s;obtain⟨h1,h2,d,l1,l2,a,s⟩:=s;exact⟨h1,h2,d,l1,l2,a,ih s⟩
theorem dM{H As R:List aa}(s:jB H As R):∀h,ak H h→ak As h:=λh x=>yb (s.out h x)
theorem abT{H H':List aa}(e:H=H'):∀h,ak H h→ak H' h:=λ_ x=>e▸x
theorem bD{h:Hp}{a:Option Addr}{cap e sz:Nat}{xs:List Value}(o:∃k,own a cap e sz xs k∧Le k h):dU h a xs:=by
 obtain⟨k,p,l⟩:=o;exact(pG p).mono l
theorem Wv{h k:Hp}{A:aa}(i:∃m,A m∧Le m h)(l:Le h k):∃m,A m∧Le m k:=by
 obtain⟨m,p,l'⟩:=i;exact⟨m,p,l'.trans l⟩
def aN (L:List aa):aa:=λh=>ak L h
theorem vv{L:List aa}(h:G n ds F K σ (L++H)):G n ds F K σ (aN L::H):=
 aC (λk s=>by
  obtain⟨h1,h2,d,l1,l2,s1,s2⟩:=s;exact eF (bZ s1 s2 d) (cJ l1 l2)) h
theorem fN{L:List aa}:∀{H:List aa} {h:Hp},ak (L++H) h→ak (aN L::H) h:=λs=>by
 obtain⟨h1,h2,d,l1,l2,s1,s2⟩:=bQ s;exact⟨h1,h2,d,l1,l2,s1,s2⟩
theorem aed{ι:Type}{A:ι→aa}(h:∀x,G n ds F K σ (A x::H)):G n ds F K σ ((λk=>∃x,A x k)::H):=by
 refine .mk λa w e s=> ?_;obtain⟨a1,a2,a3,fr,hh,⟨h1,h2,d,l1,l2,⟨x,hx⟩,st⟩,y,z⟩:=s;exact h x a w e ⟨a1,a2,a3,fr,hh,⟨h1,h2,d,l1,l2,hx,st⟩,y,z⟩
theorem xP{L M R:List aa}{h:Hp}(s:ak (aN L::(M++R)) h):ak (aN (L++M)::R) h:=by
 obtain⟨h1,h2,d,l1,l2,s1,s2⟩:=s;obtain⟨h3,h4,d',l3,l4,s3,s4⟩:=bQ s2;exact⟨gI h1 h3,h4,cE.gI (d.right l4) d',cJ l1 (l3.trans l2),l4.trans l2,bZ s1 s3 (d.right l3),s4⟩
theorem nY{h:Hp}(s:ak H h):ak (aN []::H) h:=iB (λ_=>trivial) s
def EL (F:ee)(As:List aa)(F':ee):Prop:=∀R w,St F' R w→St F (As++R) w
abbrev dD (F:ee)(w:World):Prop:=Le F.h (kh w)
theorem aaV{id:Nat}{ops:Array Oper}{As R:List aa}{listed:Array Bool}(hm:P.follows .mixedOrders=true)(hl:Array.replicate ops.size false=listed)(ey:jB H As R)
  (h:∀F':ee,Le F.h F'.h→hJ As F'.h→EL F As F'→G n ds F' (wpAnyH P .any ops Q (dD F') ops.size listed) σ R):G n ds F ((Code.region id ops true).wp P Q) σ H:=by
 refine .mk λa w e s=> ?_;subst hl;refine wp_region_any hm (wpAny_of_held (S:=dD {F with h:= ?_}) _ _ _ _ ?_)
 ·exact gI (Classical.choose (bQ (ey.out _ (Classical.choose_spec s.own).1))) F.h
 generalize hA:Classical.choose (bQ (ey.out _ (Classical.choose_spec s.own).1))=h1;have spec:=Classical.choose_spec (bQ (ey.out _ (Classical.choose_spec s.own).1));rw[hA]at spec;obtain⟨h2,d12,l1,l2,s1,s2⟩:=spec;have vX:=(Classical.choose_spec s.own).2;have Ut:cE h1 F.h:=vX.2.left l1;refine h {F with h:=gI h1 F.h} (bh Ut) (cM s1 (br _ _)) ?_ a _ e ?_
 ·intro R' w' s'
  obtain⟨b1,b2,b3,fr,hh,st,hl,hd⟩:=s';exact⟨b1,b2,b3,(bh Ut).trans fr,gI h1 hh,bZ s1 st (hd.right (br _ _)).symm,cJ ((br _ _).trans fr) hl,cE.gI Ut (hd.right (bh Ut))⟩
 exact⟨s.os,⟨s.tape.1,Nat.le_succ_of_le s.tape.2⟩,s.output,cJ (l1.trans vX.1) s.frame,h2,s2,l2.trans vX.1,(cE.gI d12 (vX.2.left l2).symm).symm⟩
theorem bC{ops:Array Oper}{listed:Array Bool}{fuel:Nat}{F':ee}{As:List aa}{S:World→Prop}(hr:Region.ready .any ops listed= [])(hb:EL F As F')(h:G n ds F (Q .normal) σ (As++H)):G n ds F' (wpAnyH P .any ops Q S fuel listed) σ H:=by
 refine .mk λa w e s=> ?_;have:=h a w e (hb _ _ s);cases fuel with
 |zero=>exact⟨hr,this⟩
 |succ m=>exact⟨λ_=>this,λi hi=>by rw[hr]at hi;cases hi⟩
def nI (Q:Exit→Act→World→Prop):Prop:=∀c a d v w,Q (.panic c) (Act.put a d v) w→Q (.panic c) a w
theorem VD (h:nI Q):nI (Exit.then K Q):=λc a d v w q=>h c a d v w q
theorem QZ{id:Nat}(h:nI Q):nI (Exit.inBlock id Q):=λc a d v w q=>h c a d v w q
theorem VE{fn:Func}{R:Ending→World→Prop}:nI (bodyPost P fn R):=λc a d v w q=>by
 simp only[bodyPost]at q⊢;exact⟨by rw[←q.1];cases d<;>rfl,q.2⟩
def Am (ops:Array Oper)(listed:Array Bool)(i:Nat)(vk:Array Bool):Bool:=
 Region.noSelect ops&&(Region.ready .any ops listed).contains i&&Region.free .any ops listed i&&(listed.setIfInBounds i true==vk)
theorem RH{ops:Array Oper}{listed vk:Array Bool}{fuel i:Nat}{oi:Oper}{v:Value}(pA:Am ops listed i vk=true)(hi:ops[i]?=some oi)(po:nI Q)
  (hy:∀a,Env n ds σ a→YieldsIf P ops (dD F) oi v a) {σ':ba} (hp:∀a,Env n ds σ a→Env n ds σ' (a.put oi.dst v)) (h:G n ds F (wpAnyH P .any ops Q (dD F) fuel vk) σ' H):G n ds F (wpAnyH P .any ops Q (dD F) (fuel+1) listed) σ H:=by
 refine .mk λa w e s=> ?_;simp only[Am,Bool.and_eq_true,beq_iff_eq,List.contains_iff_mem]at pA;obtain⟨⟨⟨h1,h2⟩,h3⟩,h4⟩:=pA;refine wpAnyH_first hi (Region.noSelect_spec h1) (λc a w q=>po c a _ _ w q) fuel listed a w (λj oj hj ja GK ou=>Region.free_spec hi h3 j oj hj ja GK ou) h2 (hy a e) s.frame ?_;rw[h4];exact h _ _ (hp a e) s
theorem E7{ops:Array Oper}{listed:Array Bool}{fuel:Nat}{l:List Nat}{S:World→Prop}(hr:Region.ready .any ops listed=l)(ja:l.isEmpty=false)
  (h:∀i∈l,G n ds F (wpOp P ops Q i (λa' w'=>S w'∧wpAnyH P .any ops Q S fuel (listed.setIfInBounds i true) a' w')) σ H):G n ds F (wpAnyH P .any ops Q S (fuel+1) listed) σ H:=by
 refine .mk λa w e s=> ?_;refine⟨λh0=> ?_,λi hi=>h i (by rw[←hr];exact hi) a w e s⟩;rw[hr]at h0;subst h0;cases ja
theorem aaR{ops:Array Oper}{listed:Array Bool}{fuel i:Nat}{S:World→Prop}(hr:Region.ready .any ops listed= [i])
  (h:G n ds F (wpOp P ops Q i (λa' w'=>S w'∧wpAnyH P .any ops Q S fuel (listed.setIfInBounds i true) a' w')) σ H):G n ds F (wpAnyH P .any ops Q S (fuel+1) listed) σ H:=
 E7 hr rfl λj hj=>by rw[List.mem_singleton.1 hj];exact h
theorem aaQ{ops:Array Oper}{listed:Array Bool}{fuel i j:Nat}{S:World→Prop}(hr:Region.ready .any ops listed= [i,j])
  (h1:G n ds F (wpOp P ops Q i (λa' w'=>S w'∧wpAnyH P .any ops Q S fuel (listed.setIfInBounds i true) a' w')) σ H)
  (h2:G n ds F (wpOp P ops Q j (λa' w'=>S w'∧wpAnyH P .any ops Q S fuel (listed.setIfInBounds j true) a' w')) σ H):G n ds F (wpAnyH P .any ops Q S (fuel+1) listed) σ H:=
 E7 hr rfl λk hk=>by
  rcases List.mem_cons.1 hk with rfl|hk
  ·exact h1
  rw[List.mem_singleton.1 hk];exact h2
theorem WH{ops:Array Oper}{listed:Array Bool}{fuel:Nat}(h:G n ds F (wpAnyH P .any ops Q (dD F) fuel listed) σ H):G n ds F (λa w=>dD F w∧wpAnyH P .any ops Q (dD F) fuel listed a w) σ H:=
 .mk λa w e s=>⟨s.frame,h a w e s⟩
theorem xC{b i k ty:Nat}{e:TypeId}{cs vs:List Value}{R:List aa}{w:World}{t:Nat}{a:Act}(en:Env n ds σ a)(st:St F H w)(ht:look σ t=some (.pointer (some ⟨b,i,none⟩)))(hs:db P ty=some k)(ey:fE H (ag b e cs) R)(hv:(cs.drop i).take k=vs)(hk:vs.length=k):
  (asAddr (a.tmps.getD t undef)).run P w= .ok ⟨b,i,none⟩ w∧(loadVar ty ⟨b,i,none⟩).run P w= .ok (.agg vs.toArray) w:=by
 obtain⟨h1,hp,hl⟩:=(st.sS ey).get;have hg:a.tmps.getD t undef= .pointer (some ⟨b,i,none⟩):=by simp[en.slot t _ ht]
 have:=Rq (P:=P) (b:=b) (i:=i) hs (w:=w) hk (λj v hj=>by
  rw[add_lit];refine kR hl (eS hp ?_);rw[←hv,List.getElem?_take]at hj
  split at hj
  ·simpa using hj
  cases hj)
 rw[hg];exact⟨by simp[asAddr],by simpa[Instr.loadAt,Instr.sureAddr]using this⟩
theorem abW{fn:Func}{T:Value→List aa→Prop}{t ty b i k:Nat}{e:TypeId}{cs vs:List Value}{R H':List aa}(hs:db P ty=some k)(hr:fn.results= #[.cell t ty])(ht:look σ t=some (.pointer (some ⟨b,i,none⟩)))(ey:fE H (ag b e cs) R)(hv:(cs.drop i).take k=vs)(hk:vs.length=k)
  (hR:T (.agg vs.toArray) H') (hh:∀h,ak H h→ak H' h):G n [] F (bodyPost P fn (λe w'=>∃v H',e= .returned v∧T v H'∧St F H' w') .ret) σ H:=
 .mk λa w en s=>⟨en.defers,_,by
  obtain⟨h1,h2⟩:=xC (P:=P) en s ht hs ey hv hk;simp only[results,hr];simp at h1;simp[h1,h2],_,H',rfl,hR,s.sub hh⟩
end rules
end Go.dL
namespace Go.dL
open Go
section
variable {P:Program} {n:Nat} {ds:List Deferred} {F:ee} {σ:ba} {o:Oper}
theorem nZ{op:BinOp}{t:TypeId}{x y:Operand}{p q:Option Addr}{w:World}:(eqGuard op t x y (.pointer p) (.pointer q)).run P w= .ok () w:=by
 unfold eqGuard;cases op<;>simp
theorem P7{op:BinOp}{t yt e:TypeId}{x y:Operand}{p:Option Addr}{b:Bool}(ht:P.underlying t=some (.pointer e))(ho:o.op= .binOp op t x y yt)(hx:bx σ x=some (.pointer p))(hy:bx σ y=some (.pointer none))
  (hop:(op= .eql∧b=p.isNone)∨(op= .neq∧b= !p.isNone)):Yv P n ds F σ o (.bool b):=by
 intro a w en _;have hp:P.underlying t=some (.pointer (P.pointee t)):=by unfold Program.pointee;rw[ht]
 rcases hop with⟨rfl,rfl⟩|⟨rfl,rfl⟩
 ·simp only[execOp,ho,en.eval hx,en.eval hy,Sem.run_bind,nZ,run_eql_pointer_nil w t p hp,Result.andThen_ok,Sem.run_pure]
 simp only[execOp,ho,en.eval hx,en.eval hy,Sem.run_bind,nZ,run_neq_pointer_nil w t p hp,Result.andThen_ok,Sem.run_pure]
theorem Bu (w:World)(b n:Nat)(cs:Array Value)(e:TypeId)(lo hi:Nat)(h:w.heap[b]?=some (.cells cs e (lo,hi))):
  (w.freeze ⟨b,n,none⟩ 1).heap[b]?=some (.cells cs e (if lo==hi then(n,n+1)else(min lo n,max hi (n+1)))):=by
 simp[World.freeze,Array.getElem?_modify,h]
theorem Bt (w:World)(b n x:Nat)(h:x≠b):(w.freeze ⟨b,n,none⟩ 1).heap[x]?=w.heap[x]?:=by
 simp[World.freeze,Array.getElem?_modify,Ne.symm h]
theorem St.freeze{H:List aa}{w:World}{b:Nat}{e:TypeId}{cs:List Value}(s:St F (ag b e cs::H) w):
  St F (ag b e cs::H) (w.freeze ⟨b,cs.length,none⟩ 1):=by
 obtain⟨a1,a2,a3,fr,h,⟨h1,h2,d,l1,l2,⟨lo,hi,hf,hb⟩,s⟩,y,z⟩:=s;have hw:w.heap[b]?=some (.cells cs.toArray e (lo,hi)):=(l1.trans y) _ _ hb;have ja:∀k:Hp,cE h1 k→∀x o,k x=some o→x≠b:=by
  intro k dk x o e hx;subst hx;rcases dk x with q|q
  ·rw[hb]at q;cases q
  rw[e]at q;cases q
 have hold:∀k:Hp,cE h1 k→Le k (kh w)→Le k (kh (w.freeze ⟨b,cs.length,none⟩ 1)):=by
  intro k dk lk x o e;have:=lk x o e;unfold kh at*;rw[Bt w _ _ x (by exact ja k dk x o e)];exact this
 have dF:cE h1 F.h:=z.left l1
 let fz:Nat×Nat:=if lo==hi then(cs.length,cs.length+1)else(min lo cs.length,max hi (cs.length+1))
 have hfz:fz.2=fz.1∨cs.length≤fz.1:=by
  right
  show cs.length≤(if lo==hi then(cs.length,cs.length+1)else(min lo cs.length,max hi (cs.length+1))).1
  split
  ·exact Nat.le_refl _
  rename_i hq
  have:lo≠hi:=by simpa using hq
  simp only;omega
 let vQ:Hp:=λx=>if x=b then some (.cells cs.toArray e fz)else none
 have d2:∀k:Hp,cE h1 k→cE vQ k:=by
  intro k dk x;by_cases hx:x=b
  ·subst hx
   rcases dk x with q|q
   ·rw[hb]at q;cases q
   exact .inr q
  exact .inl (by simp[vQ,hx])
 have l1':Le vQ (kh (w.freeze ⟨b,cs.length,none⟩ 1)):=by
  intro x o e;by_cases hx:x=b
  ·subst hx
   simp only[vQ,if_true]at e;cases e;have:=Bu w x cs.length _ _ _ _ hw;rw[kh,this]
  simp[vQ,hx]at e
 refine⟨a1,a2,a3,hold _ dF fr,gI vQ h2,⟨vQ,h2,d2 _ d,br _ _,bh (d2 _ d),⟨fz.1,fz.2,hfz,by simp[vQ]⟩,s⟩,
  cJ l1' (hold _ d (l2.trans y)),cE.gI (d2 _ dF) (z.left l2)⟩
theorem VL{Q:Exit→Act→World→Prop}{K:Act→World→Prop}{H R:List aa}{d:Nat}{t e e':TypeId}{x:Operand}{b i l c:Nat}{cs:List Value}(ht:P.underlying t=some (.slice e))(he:P.underlying e=some (.int .u8))(ho:o.op= .convert t t x)(hd:o.dst=some d)
  (hx:bx σ x=some (.slice (some ⟨b,i,none⟩) l c)) (hs:fE H (ag b e' cs) R) (hdn:Nat.blt d n=true)
  (h:G n ds F K ((d, .slice (some ⟨b,i,none⟩) l c)::σ) (ag b e' cs::R)):G n ds F (λa w=>o.wp P a w K Q) σ H:=by
 refine .mk λa w en s=> ?_;have s1:=s.sS hs;obtain⟨hh,⟨lo,hi,hf,hb⟩,hl⟩:=s1.get;have hw:w.heap[b]?=some (.cells cs.toArray e' (lo,hi)):=hl _ _ hb;have hsh:w.shape? b=some (e',cs.length):=by unfold World.shape?;rw[hw];simp
 unfold Oper.wp;have:(execOp a.eval o).run P w= .ok (.value (.slice (some ⟨b,i,none⟩) l c)) (w.freeze ⟨b,cs.length,none⟩ 1):=by
  simp[execOp,ho,en.eval hx,convert,run_underlying ht,run_underlying he,markStringish,hsh]
 rw[this,Oper.upon_value,hd];exact h _ _ (en.put hdn _) s1.freeze
theorem fV{K:Act→World→Prop}{H:List aa}{X:Prop}(hx:∀h,hJ H h→X)(h:X→G n ds F K σ H):G n ds F K σ H:= .mk λa w e s=>by
 obtain⟨hh,st,le,_⟩:=s.own;exact h (hx (kh w) (cM st le)) a w e s
theorem hJ.nth:∀{H:List aa} {h:Hp} (i:Nat) {A:aa},hJ H h→H[i]?=some A→∃k,A k∧Le k h:=by
 intro H
 induction H with
 |nil=>intro h i A _ e;simp at e
 |cons B r ih=>
  intro h i A aw e;cases i with
  |zero=>simp only[List.getElem?_cons_zero,Option.some.injEq]at e;subst e;exact aw.1
  |succ i=>exact ih i aw.2 (by simpa using e)
theorem rZ{L:List aa}{h:Hp}(o:∃k,aN L k∧Le k h):hJ L h:=by
 obtain⟨k,p,l⟩:=o;exact cM p l
theorem s9{h:Hp}{b e:Nat}{cs:List Value}(o:∃k,ag b e cs k∧Le k h):dU h (some ⟨b,0,none⟩) cs:=by
 obtain⟨k,p,l⟩:=o;have:=(pF (i:=0) p).mono l;simpa using this
end
end Go.dL
namespace Go.dL
open Go
theorem uP{α:Type}(l:List α): []++l=l:=rfl
theorem cap{α:Type}(a:α)(l m:List α):(a::l)++m=a::(l++m):=rfl
theorem aD{A B:Prop}(h:A)(f:A→B:=by
  intro h
  first
   |(simp only[decide_eq_true_eq,decide_eq_false_iff_not,Bool.not_eq_true',Bool.not_eq_false',Bool.not_not,Bool.and_eq_true,Bool.or_eq_true,Bool.and_eq_false_iff,Bool.or_eq_false_iff,Int.not_lt,Int.not_le,Nat.not_lt,Nat.not_le,beq_iff_eq,bne_iff_ne,Bool.not_true,Bool.not_false]at h;exact h)
   |exact h):B:=f h
def Uq (ops:Array Oper)(o:Oper)(σ:ba):Bool:=
 match o.guard with
 |none=>true
 |some (j,b)=>match(ops[j]?).bind (·.dst)with
  |some t=>match look σ t with
   |some (.bool c)=>match c,b with|true,true=>true|false,false=>true|_,_=>false
   |_=>false
  |none=>false
def gno (ops:Array Oper)(o:Oper)(σ:ba):Bool:=
 match o.guard with
 |none=>false
 |some (j,b)=>match(ops[j]?).bind (·.dst)with
  |some t=>match look σ t with
   |some (.bool c)=>match c,b with|true,false=>true|false,true=>true|_,_=>false
   |some (.tuple vs)=>vs.isEmpty
   |_=>false
  |none=>false
section
variable {P:Program} {n:Nat} {ds:List Deferred} {F:ee} {Q:Exit→Act→World→Prop} {K:Act→World→Prop} {σ:ba} {H:List aa} {o:Oper} {d:Nat} {ops:Array Oper} {rest:List Oper}
theorem kY{a:Act}(h:Uq ops o σ=true)(e:Env n ds σ a):Region.wanted o (yielded ops a.tmps)=true:=by
 unfold Uq at h;unfold Region.wanted;cases hg:o.guard with
 |none=>rfl
 |some p=>
  obtain⟨j,b⟩:=p;simp only[hg]at h⊢;cases hj:(ops[j]?).bind (·.dst)with
  |none=>rw[hj]at h;cases h
  |some t=>
   rw[hj]at h;simp only at h;cases ht:look σ t with
   |none=>rw[ht]at h;cases h
   |some v=>
    rw[ht]at h;cases v<;>simp at h
    rename_i c
    rw[xF hj ht e];cases c<;>cases b<;>simp_all
theorem rk{a:Act}(h:gno ops o σ=true)(e:Env n ds σ a):Region.wanted o (yielded ops a.tmps)=false:=by
 unfold gno at h;unfold Region.wanted;cases hg:o.guard with
 |none=>rw[hg]at h;cases h
 |some p=>
  obtain⟨j,b⟩:=p;simp only[hg]at h⊢;cases hj:(ops[j]?).bind (·.dst)with
  |none=>rw[hj]at h;cases h
  |some t=>
   rw[hj]at h;simp only at h;cases ht:look σ t with
   |none=>rw[ht]at h;cases h
   |some v=>
    rw[ht]at h;cases v<;>simp at h
    ·rename_i c
     rw[xF hj ht e];cases c<;>cases b<;>simp_all
    subst h;have:yielded ops a.tmps j=none:=by simp[yielded,hj,e.slot t _ ht]
    rw[this];simp
theorem Lp (h:G n ds F (λa w=>o.wp P a w (wpList P ops Q rest) Q) σ H)(hg:Uq ops o σ=true:=by exact rfl):G n ds F (wpList P ops Q (o::rest)) σ H:=
 .mk λa w e s=>wpList_step λK hK=>by
  rw[if_pos (kY hg e)];exact Oper.wp_mono hK (h a w e s)
theorem Li{v:Value}(hy:Yv P n ds F σ o v)(h:G n ds F (wpList P ops Q rest) ((d,v)::σ) H)(hg:Uq ops o σ=true:=by exact rfl)(hd:o.dst=some d:=by exact rfl)(hdn:Nat.blt d n=true:=by exact rfl):
  G n ds F (wpList P ops Q (o::rest)) σ H:=Lp (op_y hy hd hdn h) hg
theorem Lx (h:G n ds F (wpList P ops Q rest) ((d,undef)::σ) H)(hg:gno ops o σ=true:=by exact rfl)(hd:o.dst=some d:=by exact rfl)(hdn:Nat.blt d n=true:=by exact rfl):G n ds F (wpList P ops Q (o::rest)) σ H:=
 .mk λa w e s=>wpList_step λK hK=>by
  rw[if_neg (by simp[rk hg e]),hd];exact hK _ _ (h _ w (e.put hdn undef) s)
theorem gU{id:Nat}{l:List Oper}{y:Code}(h:G n ds F (wpList P l.toArray (Exit.then (y.wp P Q) Q) l) σ H):G n ds F ((Code.seq (Code.region id l.toArray false) y).wp P Q) σ H:=au (cC h)
theorem g_ne{K:Act→World→Prop}(h:G n ds F K σ H):G n ds F (wpList P ops (Exit.then K Q) []) σ H:=az (PF h)
theorem wu{id:Nat}{As R:List aa}(hm:P.follows .mixedOrders=true)(ey:jB H As R)
  (h:∀F':ee,Le F.h F'.h→hJ As F'.h→EL F As F'→G n ds F' (wpAnyH P .any ops Q (dD F') ops.size (Array.replicate ops.size false)) σ R):G n ds F ((Code.region id ops true).wp P Q) σ H:=aaV hm rfl ey h
def YZ (ops:Array Oper)(listed:Array Bool)(i:Nat):Bool:=Region.noSelect ops&&(Region.ready .any ops listed).contains i&&Region.free .any ops listed i
theorem Jn{listed:Array Bool}{i:Nat}(h:YZ ops listed i=true):Am ops listed i (listed.setIfInBounds i true)=true:=by
 unfold Am;unfold YZ at h;rw[h];simp
theorem Dt{listed:Array Bool}{fuel:Nat}{oi:Oper}{v:Value}(i:Nat)(hi:ops[i]?=some oi)(hy:Yv P n ds F σ oi v)(h:G n ds F (wpAnyH P .any ops Q (dD F) fuel (listed.setIfInBounds i true)) ((d,v)::σ) H)
  (pA:YZ ops listed i=true:=by kernel_rfl) (po:nI Q:=by repeat (first|with_reducible exact VE|with_reducible apply VD|with_reducible apply QZ|exact λ_ _ _ _ _ q=>q)) (hg:Uq ops oi σ=true:=by exact rfl) (hd:oi.dst=some d:=by exact rfl) (hdn:Nat.blt d n=true:=by exact rfl):
  G n ds F (wpAnyH P .any ops Q (dD F) (fuel+1) listed) σ H:=
 RH (Jn pA) hi po (λa e=> .inl ⟨kY hg e,λw hw=>hy a w e hw⟩) (λa e=>by rw[hd];exact e.put hdn v) h
theorem Dn{listed:Array Bool}{fuel:Nat}{S:World→Prop}(i:Nat)(h:G n ds F (wpOp P ops Q i (λa' w'=>S w'∧wpAnyH P .any ops Q S fuel (listed.setIfInBounds i true) a' w')) σ H)(hr:Region.ready .any ops listed= [i]:=by kernel_rfl):
  G n ds F (wpAnyH P .any ops Q S (fuel+1) listed) σ H:=aaR hr h
theorem D2{listed:Array Bool}{fuel:Nat}{S:World→Prop}(i j:Nat)
  (h1:G n ds F (wpOp P ops Q i (λa' w'=>S w'∧wpAnyH P .any ops Q S fuel (listed.setIfInBounds i true) a' w')) σ H)
  (h2:G n ds F (wpOp P ops Q j (λa' w'=>S w'∧wpAnyH P .any ops Q S fuel (listed.setIfInBounds j true) a' w')) σ H) (hr:Region.ready .any ops listed= [i,j]:=by kernel_rfl):G n ds F (wpAnyH P .any ops Q S (fuel+1) listed) σ H:=aaQ hr h1 h2
theorem Do{i:Nat}{oi:Oper}{K:Act→World→Prop}(hi:ops[i]?=some oi)(h:G n ds F (λa w=>oi.wp P a w K Q) σ H)(hg:Uq ops oi σ=true:=by exact rfl):G n ds F (wpOp P ops Q i K) σ H:=by
 refine .mk λa w e s=> ?_;unfold wpOp;simp only[hi,kY hg e,if_true];exact .inl (h a w e s)
theorem Mv{x:Operand}{v:Value}(ho:o.op= .move x:=by exact rfl)(hx:bx σ x=some v:=by exact rfl):Yv P n ds F σ o v:=Zw ho hx
theorem As{x:Operand}{v:Value}(ho:o.op= .assign x:=by exact rfl)(hx:bx σ x=some v:=by exact rfl):Yv P n ds F σ o v:=Qe ho hx
theorem Pt{c x y:Operand}{b:Bool}{v:Value}(ho:o.op= .pick c x y:=by exact rfl)(hc:bx σ c=some (.bool b):=by exact rfl)(hb:b=true:=by exact rfl)(hx:bx σ x=some v:=by exact rfl):Yv P n ds F σ o v:=P8 ho hc hb hx
theorem Pf{c x y:Operand}{b:Bool}{v:Value}(ho:o.op= .pick c x y:=by exact rfl)(hc:bx σ c=some (.bool b):=by exact rfl)(hb:b=false:=by exact rfl)(hx:bx σ y=some v:=by exact rfl):Yv P n ds F σ o v:=P9 ho hc hb hx
theorem Nc{x:Operand}{ad:Addr}(ho:o.op= .nilCheck x:=by exact rfl)(hx:bx σ x=some (.pointer (some ad)):=by exact rfl):Yv P n ds F σ o (.pointer (some ad)):=FG ho hx
theorem Fa{s f k b i:Nat}{x:Operand}(hk:aj P s f=some k)(ho:o.op= .fieldAddr s x f:=by exact rfl)(hx:bx σ x=some (.pointer (some ⟨b,i,none⟩)):=by exact rfl):Yv P n ds F σ o (.pointer (some ⟨b,i+k,none⟩)):=Dy hk ho hx
theorem qD{s f k j:Nat}{x:Operand}{a:Option Addr}(hk:aj P s f=some k)(ho:o.op= .fieldAddr s x f:=by exact rfl)(hx:bx σ x=some (.pointer (a.map (·.add j))):=by exact rfl)(hs:a.isSome=true:=by first|rfl|assumption|exact dU.N8 (by assumption) (by omega)):Yv P n ds F σ o (.pointer (a.map (·.add (j+k)))):=
 uM hk ho hx hs
theorem Ix{t e sz m:Nat}{x y:Operand}{a:Option Addr}{l c j:Nat}{k:IntKind}{i:Int}(ht:di P t=some (e,sz))(ho:o.op= .indexAddr t x y:=by exact rfl)(hx:bx σ x=some (.slice a l c):=by exact rfl)(hy:bx σ y=some (.int k i):=by exact rfl)
  (hj:i=(j:Int):=by exact rfl) (hl:j<l:=by first|omega|(simp only[List.length_append,List.length_cons,List.length_nil,List.length_take,List.length_drop];omega)) (hm:j*sz=m:=by first|exact Nat.mul_one _|rfl) (hs:a.isSome=true:=by first|rfl|assumption|exact dU.N8 (by assumption) (by omega)):
  Yv P n ds F σ o (.pointer (a.map (·.add m))):=Hm ht ho hx hy hj hl hm hs
theorem Is{t:TypeId}{x y:Operand}{s:List UInt8}{j:Nat}{k:IntKind}{i:Int}{c:UInt8}(ht:P.underlying t=some .string)(ho:o.op= .index t x y:=by exact rfl)(hx:bx σ x=some (aB s):=by exact rfl)(hy:bx σ y=some (.int k i):=by exact rfl)
  (hj:i=(j:Int):=by exact rfl) (hc:s[j]?=some c:=by assumption):Yv P n ds F σ o (.int .u8 c.toNat):=Qb ht ho hx hy hj hc
theorem Ex{x:Operand}{i:Nat}{vs:Array Value}{v:Value}(ho:o.op= .extract x i:=by exact rfl)(hx:bx σ x=some (.tuple vs):=by exact rfl)(hv:vs.toList[i]?=some v:=by exact rfl):Yv P n ds F σ o v:=Jh ho hx hv
theorem Nt{t:TypeId}{x:Operand}{b:Bool}(ho:o.op= .unOp .not t x:=by exact rfl)(hx:bx σ x=some (.bool b):=by exact rfl):Yv P n ds F σ o (.bool (!b)):=aew ho hx
theorem Ng{t:TypeId}{x:Operand}{k:IntKind}{i z:Int}(ho:o.op= .unOp .neg t x:=by exact rfl)(hx:bx σ x=some (.int k i):=by exact rfl)(hz:k.wrap (0-i)=z:=by first|exact wrap_i64 (by omega)|rfl):Yv P n ds F σ o (.int k z):=aex ho hx hz
theorem Im{op:BinOp}{t yt:TypeId}{x y:Operand}{k:IntKind}{i j z:Int}(ho:o.op= .binOp op t x y yt:=by exact rfl)(hx:bx σ x=some (.int k i):=by exact rfl)(hy:bx σ y=some (.int k j):=by exact rfl)
  (hz:gG op k i j=some z:=by first|exact congrArg some (wrap_i64 (by omega))|exact congrArg some (wrap_u64 (by omega))|exact congrArg some (wrap_u32 (by omega))|exact congrArg some (wrap_u16 (by omega))|exact congrArg some (wrap_u8 (by omega))|exact congrArg some (wrap_i32 (by omega))|exact rfl):Yv P n ds F σ o (.int k z):=wi ho hx hy hz
theorem Cm{op:BinOp}{t yt:TypeId}{x y:Operand}{k:IntKind}{i j:Int}{b:Bool}(ho:o.op= .binOp op t x y yt:=by exact rfl)(hx:bx σ x=some (.int k i):=by exact rfl)(hy:bx σ y=some (.int k j):=by exact rfl)(hz:He op i j=some b:=by exact rfl):Yv P n ds F σ o (.bool b):=aeB ho hx hy hz
theorem Sh{t yt:TypeId}{x y:Operand}{k k':IntKind}{i j z:Int}(s:Nat)(ho:o.op= .binOp .shl t x y yt:=by exact rfl)(hx:bx σ x=some (.int k i):=by exact rfl)(hy:bx σ y=some (.int k' j):=by exact rfl)(hj:j=(s:Int):=by exact rfl)(hz:k.wrap (i*2^(min s k.bits))=z:=by exact rfl):Yv P n ds F σ o (.int k z):=aev ho hx hy hj hz
theorem Sr{t yt:TypeId}{x y:Operand}{k k':IntKind}{i j z:Int}(s:Nat)(ho:o.op= .binOp .shr t x y yt:=by exact rfl)(hx:bx σ x=some (.int k i):=by exact rfl)(hy:bx σ y=some (.int k' j):=by exact rfl)(hj:j=(s:Int):=by exact rfl)(hz:i.fdiv (2^(min s k.bits))=z:=by exact rfl):Yv P n ds F σ o (.int k z):=aeu ho hx hy hj hz
theorem Cv{s t:TypeId}{x:Operand}{k k':IntKind}{i z:Int}(ht:P.underlying t=some (.int k))(hs:(P.underlying s).isSome=true)(ho:o.op= .convert s t x:=by exact rfl)(hx:bx σ x=some (.int k' i):=by exact rfl)
  (hz:k.wrap i=z:=by first|exact wrap_i64 (by omega)|exact wrap_u64 (by omega)|exact wrap_u32 (by omega)|exact wrap_u16 (by omega)|exact wrap_u8 (by omega)|exact wrap_i32 (by omega)|exact rfl):Yv P n ds F σ o (.int k z):=Zy ht hs ho hx hz
theorem Bq{op:BinOp}{t yt:TypeId}{x y:Operand}{i j b:Bool}(ht:P.underlying t=some .bool)(ho:o.op= .binOp op t x y yt:=by exact rfl)(hx:bx σ x=some (.bool i):=by exact rfl)(hy:bx σ y=some (.bool j):=by exact rfl)
  (hop:(op= .eql∧b=(i==j))∨(op= .neq∧b=(i !=j)):=by first|exact .inl ⟨rfl,rfl⟩|exact .inr ⟨rfl,rfl⟩):Yv P n ds F σ o (.bool b):=Qd ht ho hx hy hop
theorem Sq{op:BinOp}{t yt:TypeId}{x y:Operand}{i j:List UInt8}{b:Bool}(ho:o.op= .binOp op t x y yt:=by exact rfl)(hx:bx σ x=some (aB i):=by exact rfl)(hy:bx σ y=some (aB j):=by exact rfl)
  (hop:(op= .eql∧b=decide (i=j))∨(op= .neq∧b= !decide (i=j)):=by first|exact .inl ⟨rfl,rfl⟩|exact .inr ⟨rfl,rfl⟩):Yv P n ds F σ o (.bool b):=US ho hx hy hop
theorem Pn{op:BinOp}{t yt e:TypeId}{x y:Operand}{p:Option Addr}{b:Bool}(ht:P.underlying t=some (.pointer e))(ho:o.op= .binOp op t x y yt:=by exact rfl)(hx:bx σ x=some (.pointer p):=by exact rfl)(hy:bx σ y=some (.pointer none):=by exact rfl)
  (hop:(op= .eql∧b=p.isNone)∨(op= .neq∧b= !p.isNone):=by first|exact .inl ⟨rfl,rfl⟩|exact .inr ⟨rfl,rfl⟩):Yv P n ds F σ o (.bool b):=P7 ht ho hx hy hop
theorem Ln{t:TypeId}{x:Operand}{a:Option Addr}{l c:Nat}{ek:TypeId×Nat}(ht:di P t=some ek)(ho:o.op= .call {callee:= .builtin .len,args:= #[x],argTypes:= #[t]}:=by exact rfl)(hx:bx σ x=some (.slice a l c):=by exact rfl):Yv P n ds F σ o (.int .i64 l):=aeA ht ho hx
theorem Ls{t:TypeId}{x:Operand}{l:List UInt8}(ht:P.underlying t=some .string)(ho:o.op= .call {callee:= .builtin .len,args:= #[x],argTypes:= #[t]}:=by exact rfl)(hx:bx σ x=some (aB l):=by exact rfl):Yv P n ds F σ o (.int .i64 l.length):=Zx ht ho hx
theorem Mi{x y:Operand}{k:IntKind}{i j:Int}{sW:Array TypeId}(ho:o.op= .call {callee:= .builtin .min,args:= #[x,y],argTypes:=sW}:=by exact rfl)(hx:bx σ x=some (.int k i):=by exact rfl)(hy:bx σ y=some (.int k j):=by exact rfl):Yv P n ds F σ o (.int k (min i j)):=aey ho hx hy
theorem Ma{x y:Operand}{k:IntKind}{i j:Int}{sW:Array TypeId}(ho:o.op= .call {callee:= .builtin .max,args:= #[x,y],argTypes:=sW}:=by exact rfl)(hx:bx σ x=some (.int k i):=by exact rfl)(hy:bx σ y=some (.int k j):=by exact rfl):Yv P n ds F σ o (.int k (max i j)):=aez ho hx hy
theorem Bd{t:TypeId}{pl:List (Nat×Nat)}{zs vs cs:List Value}{parts:List (Nat×Operand)}(hz:cq P t=some zs)(hpl:iE P t=some pl)(ho:o.op= .build t parts.toArray:=by exact rfl)(hv:jY σ (parts.map (·.2))=some vs:=by exact rfl)
  (hc:nW (λi=>pl[i]?) zs ((parts.map (·.1)).zip vs)=some cs:=by exact rfl):Yv P n ds F σ o (.agg cs.toArray):=UW hz hpl ho hv hc
theorem Sl{t e sz:TypeId}{x:Operand}{lo hi mx:Option Operand}{a:Option Addr}{len cap:Nat}(l hh m:Nat)(ht:di P t=some (e,sz))(ho:o.op= .slice t x lo hi mx:=by exact rfl)(hx:bx σ x=some (.slice a len cap):=by exact rfl)
  (Eu:BQ σ lo 0 l:=by first|exact rfl|exact⟨_,_,rfl,rfl⟩|exact⟨_,_,rfl,by omega⟩) (hbh:BQ σ hi len hh:=by first|exact rfl|exact⟨_,_,rfl,rfl⟩|exact⟨_,_,rfl,by omega⟩) (Xw:BQ σ mx cap m:=by first|exact rfl|exact⟨_,_,rfl,rfl⟩|exact⟨_,_,rfl,by omega⟩)
  (h1:l≤hh:=by first|omega|(simp;omega)) (h2:hh≤m:=by first|omega|(simp;omega)) (h3:m≤cap:=by first|omega|(simp;omega)) (Em:mx.isSome=true→hi.isSome=true:=by simp):Yv P n ds F σ o (.slice (Ai a l m (l*sz)) (hh-l) (m-l)):=UT l hh m ht ho hx Eu hbh Xw h1 h2 h3 Em
theorem Ts{s t:TypeId}{x:Operand}{a:Option Addr}{l:List UInt8}{m c sz:Nat}{e:TypeId}(hs:di P s=some (e,sz))(he:P.underlying e=some (.int .u8))(ht:P.underlying t=some .string)(ho:o.op= .convert s t x:=by exact rfl)
  (hx:bx σ x=some (.slice a m c):=by exact rfl) (hm:m=l.length:=by first|rfl|assumption) (hr:dU F.h a (ai l):=by assumption):Yv P n ds F σ o (aB l):=FF hs he ht ho hx hm hr
theorem Cs{s t:TypeId}{x:Operand}{l:List UInt8}(hs:P.underlying s=some .string)(ht:P.underlying t=some .string)(ho:o.op= .convert s t x:=by exact rfl)(hx:bx σ x=some (aB l):=by exact rfl):Yv P n ds F σ o (aB l):=UU hs ht ho hx
def BR (P:Program)(t:TypeId):Option (Nat×TypeId×Nat):=
 match P.underlying t with
 |some (.array k e)=>match P.info? e with
  |some i=>some (k,e,i.size)
  |none=>none
 |_=>none
theorem Qc{t e sz k m b i j:Nat}{x y:Operand}{kd:IntKind}{z:Int}(ht:BR P t=some (k,e,sz))(ho:o.op= .indexAddr t x y)(hx:bx σ x=some (.pointer (some ⟨b,i,none⟩)))(hy:bx σ y=some (.int kd z))(hj:z=(j:Int))(hl:j<k)(hm:j*sz=m):Yv P n ds F σ o (.pointer (some ⟨b,i+m,none⟩)):=
 λa w en fr=>by
  unfold BR at ht;cases hu:P.underlying t with
  |none=>simp[hu]at ht
  |some dsc=>
   cases dsc<;>simp[hu]at ht
   rename_i k' e'
   cases hi:P.info? e' with
   |none=>simp[hi]at ht
   |some inf=>
    simp[hi]at ht;obtain⟨rfl,rfl,rfl⟩:=ht;subst hj;subst hm;simp[execOp,ho,Instr.indexAt,en.eval hx,en.eval hy,asIntOf,run_underlying hu,sizeOf,typeInfo,hi,hl,add_lit,Instr.sureAddr]
theorem Ia{t e sz k m b i j:Nat}{x y:Operand}{kd:IntKind}{z:Int}(ht:BR P t=some (k,e,sz))(ho:o.op= .indexAddr t x y:=by exact rfl)(hx:bx σ x=some (.pointer (some ⟨b,i,none⟩)):=by exact rfl)(hy:bx σ y=some (.int kd z):=by exact rfl)(hj:z=(j:Int):=by exact rfl)
  (hl:j<k:=by omega) (hm:j*sz=m:=by first|exact Nat.mul_one _|rfl):Yv P n ds F σ o (.pointer (some ⟨b,i+m,none⟩)):=Qc ht ho hx hy hj hl hm
def MI (F:ee)(H:List aa)(p:Option Addr)(v:Value):Prop:=∃ad,p=some ad∧∀h,Le F.h h→hJ H h→dY h ad=some v
theorem qO{A:aa}{R:List aa}(s:fE H A R):∀h,hJ H h→∃k,A k∧Le k h:=by
 induction s with
 |here=>exact λh x=>x.1
 |there _ ih=>exact λh x=>ih h x.2
theorem Oy{b i:Nat}{e:TypeId}{cs:List Value}{R:List aa}{v:Value}(s:fE H (ag b e cs) R)(hv:cs[i]?=some v):MI F H (some ⟨b,i,none⟩) v:=
 ⟨_,rfl,λh _ aw=>by obtain⟨k,p,l⟩:=qO s h aw;exact cX l (eS p hv)⟩
theorem Oz{a:Option Addr}{k cap e sz:Nat}{v:Value}{cells:List Value}{R:List aa}(hs:a.isSome=true)(s:fE H (own a cap e sz cells) R)(hv:cells[k]?=some v):MI F H (a.map (·.add k)) v:=by
 obtain⟨ad,rfl⟩:=Option.isSome_iff_exists.1 hs;refine⟨_,rfl,λh _ aw=> ?_⟩;obtain⟨m,p,l⟩:=qO s h aw;obtain⟨ad',e1,e2⟩:=pG p k v hv;cases e1;exact cX l e2
theorem wk{b i:Nat}{e:TypeId}{cs:List Value}{v:Value}(hp:∃k,ag b e cs k∧Le k F.h)(hv:cs[i]?=some v):MI F H (some ⟨b,i,none⟩) v:=by
 obtain⟨k,p,l⟩:=hp;exact⟨_,rfl,λh le _=>cX (l.trans le) (eS p hv)⟩
theorem yN{a:Option Addr}{k:Nat}{v:Value}{cells:List Value}(hr:dU F.h a cells)(hv:cells[k]?=some v):MI F H (a.map (·.add k)) v:=by
 obtain⟨ad,rfl,hc⟩:=hr k v hv;exact⟨_,rfl,λh le _=>cX le hc⟩
theorem G5{a:Option Addr}{k:Nat}{l:List UInt8}(hr:dU F.h a (ai l))(hk:k<l.length):MI F H (a.map (·.add k)) (.int .u8 (rC l k:Int)):=yN hr (Mk hk)
theorem UG{ad:Addr}{v:Value}(hv:dY F.h ad=some v):MI F H (some ad) v:=⟨_,rfl,λh le _=>cX le hv⟩
theorem oL{t:TypeId}{x:Operand}{p:Option Addr}{v:Value}(hs:dp P t=true)(h:G n ds F K ((d,v)::σ) H)(ho:o.op= .load t x:=by exact rfl)(hd:o.dst=some d:=by exact rfl)(hx:bx σ x=some (.pointer p):=by exact rfl)
  (hk:MI F H p v:=by
   first
    |exact Oy (by repeat (first|exact fE.here|apply fE.there)) (by first|exact rfl|assumption)
    |exact yN (by assumption) (by first|assumption|exact rfl)
    |exact G5 (by assumption) (by omega)
    |exact wk (by assumption) (by first|exact rfl|assumption)
    |exact Oz (by first|rfl|assumption) (by repeat (first|exact fE.here|apply fE.there)) (by first|assumption|exact rfl)
    |exact UG (by assumption)) (hdn:Nat.blt d n=true:=by exact rfl):G n ds F (λa w=>o.wp P a w K Q) σ H:=by
 obtain⟨ad,rfl,hv⟩:=hk;exact CU hs ho hd hx (λw s=>by obtain⟨hh,st,le,_⟩:=s.own;exact hv _ s.frame (cM st le)) hdn h
theorem Lf{t:TypeId}{x:Operand}{p:Option Addr}{v:Value}(hs:dp P t=true)(ho:o.op= .load t x:=by exact rfl)(hx:bx σ x=some (.pointer p):=by exact rfl)
  (hk:MI F [] p v:=by
   first
    |exact yN (by assumption) (by first|assumption|exact rfl)
    |exact G5 (by assumption) (by omega)
    |exact wk (by assumption) (by first|exact rfl|assumption)
    |exact UG (by assumption)):Yv P n ds F σ o v:=by
 obtain⟨ad,rfl,hv⟩:=hk;exact Hl hs ho hx (hv _ (Le.refl _) trivial)
def we (F:ee)(H:List aa)(p:Option Addr)(_k:Nat)(vs:List Value):Prop:=∃ad,p=some ad∧∀h,Le F.h h→hJ H h→∀j v,vs[j]?=some v→dY h (ad.add j)=some v
theorem o3{cs vs:List Value}{i k j:Nat}{v:Value}(hv:(cs.drop i).take k=vs)(hj:vs[j]?=some v):cs[i+j]?=some v:=by
 rw[←hv,List.getElem?_take]at hj
 split at hj
 ·simpa using hj
 cases hj
theorem Bc{b i k:Nat}{e:TypeId}{cs vs:List Value}{R:List aa}(s:fE H (ag b e cs) R)(hv:(cs.drop i).take k=vs):we F H (some ⟨b,i,none⟩) k vs:=
 ⟨_,rfl,λh _ aw j v hj=>by obtain⟨m,p,l⟩:=qO s h aw;rw[add_lit];exact cX l (eS p (o3 hv hj))⟩
theorem C5{b k:Nat}{e:TypeId}{cs:List Value}{R:List aa}(s:fE H (ag b e cs) R)(hv:cs.length=k):we F H (some ⟨b,0,none⟩) k cs:=
 Bc s (by rw[List.drop_zero,List.take_of_length_le (by omega)])
theorem Av{b i k:Nat}{e:TypeId}{cs vs:List Value}(hp:∃m,ag b e cs m∧Le m F.h)(hv:(cs.drop i).take k=vs):we F H (some ⟨b,i,none⟩) k vs:=by
 obtain⟨m,p,l⟩:=hp;exact⟨_,rfl,λh le _ j v hj=>by rw[add_lit];exact cX (l.trans le) (eS p (o3 hv hj))⟩
theorem ti{a:Option Addr}{i k:Nat}{cells vs:List Value}(hr:dU F.h a cells)(hv:(cells.drop i).take k=vs)(h0:a.isSome=true):we F H (a.map (·.add i)) k vs:=by
 obtain⟨ad,rfl⟩:=Option.isSome_iff_exists.1 h0;refine⟨_,rfl,λh le _ j v hj=> ?_⟩;obtain⟨ad',e1,e2⟩:=hr _ v (o3 hv hj);cases e1;rw[add_add];exact cX le e2
theorem Ic{a:Option Addr}{i k cap e sz:Nat}{cells vs:List Value}{R:List aa}(h0:a.isSome=true)(s:fE H (own a cap e sz cells) R)(hv:(cells.drop i).take k=vs):we F H (a.map (·.add i)) k vs:=by
 obtain⟨ad,rfl⟩:=Option.isSome_iff_exists.1 h0;refine⟨_,rfl,λh _ aw j v hj=> ?_⟩;obtain⟨m,p,l⟩:=qO s h aw;obtain⟨ad',e1,e2⟩:=pG p _ v (o3 hv hj);cases e1;rw[add_add];exact cX l e2
theorem zm{t k:TypeId}{x:Operand}{p:Option Addr}{vs:List Value}(hs:db P t=some k)(ho:o.op= .load t x)(hd:o.dst=some d)(hx:bx σ x=some (.pointer p))(hk:we F H p k vs)(hl:vs.length=k)(hdn:Nat.blt d n=true)
  (h:G n ds F K ((d, .agg vs.toArray)::σ) H):G n ds F (λa w=>o.wp P a w K Q) σ H:=by
 obtain⟨ad,rfl,hv⟩:=hk;refine qS hd hdn (λac w en s=> ?_) h;obtain⟨hh,st,le,_⟩:=s.own;have hc:=hv _ s.frame (cM st le);subst hl;simp[execOp,ho,en.eval hx,Instr.loadAt,Instr.sureAddr,loadVar,(eV hs).1,(eV hs).2,run_loadCells_list w _ vs hc]
theorem oLN{t k:TypeId}{x:Operand}{p:Option Addr}{vs:List Value}(hs:db P t=some k)(h:G n ds F K ((d, .agg vs.toArray)::σ) H)(ho:o.op= .load t x:=by exact rfl)(hd:o.dst=some d:=by exact rfl)(hx:bx σ x=some (.pointer p):=by exact rfl)
  (hk:we F H p k vs:=by
   first
    |exact C5 (by repeat (first|exact fE.here|apply fE.there)) (by exact rfl)
    |exact Bc (by repeat (first|exact fE.here|apply fE.there)) (by exact rfl)
    |exact ti (by assumption) (by first|assumption|exact rfl) (by first|rfl|assumption)
    |exact Av (by assumption) (by exact rfl)
    |exact Ic (by first|rfl|assumption) (by repeat (first|exact fE.here|apply fE.there)) (by first|assumption|exact rfl))
  (hl:vs.length=k:=by first|rfl|(simp;omega)) (hdn:Nat.blt d n=true:=by exact rfl):G n ds F (λa w=>o.wp P a w K Q) σ H:=zm hs ho hd hx hk hl hdn h
theorem Qa{t k:TypeId}{x:Operand}{p:Option Addr}{vs:List Value}(hs:db P t=some k)(ho:o.op= .load t x)(hx:bx σ x=some (.pointer p))(hk:we F [] p k vs)(hl:vs.length=k):Yv P n ds F σ o (.agg vs.toArray):=by
 obtain⟨ad,rfl,hv⟩:=hk;intro ac w en fr;have hc:=hv _ fr trivial;subst hl;simp[execOp,ho,en.eval hx,Instr.loadAt,Instr.sureAddr,loadVar,(eV hs).1,(eV hs).2,run_loadCells_list w _ vs hc]
theorem LfN{t k:TypeId}{x:Operand}{p:Option Addr}{vs:List Value}(hs:db P t=some k)(ho:o.op= .load t x:=by exact rfl)(hx:bx σ x=some (.pointer p):=by exact rfl)
  (hk:we F [] p k vs:=by
   first
    |exact ti (by assumption) (by first|assumption|exact rfl) (by first|rfl|assumption)
    |exact Av (by assumption) (by exact rfl)) (hl:vs.length=k:=by first|rfl|(simp;omega)):Yv P n ds F σ o (.agg vs.toArray):=Qa hs ho hx hk hl
theorem oS{t:TypeId}{x y:Operand}{b i:Nat}{e:TypeId}{cs:List Value}{f:aa→List aa}{v:Value}(hs:dp P t=true)(h:G n ds F K σ (f (ag b e (cs.set i v))))(ho:o.op= .store t x y:=by exact rfl)(hd:o.dst=none:=by exact rfl)
  (hx:bx σ x=some (.pointer (some ⟨b,i,none⟩)):=by exact rfl) (hy:bx σ y=some v:=by exact rfl) (hu:Pos H (ag b e cs) f:=by repeat (first|exact Pos.here|apply Pos.there)) (h1:v.oneCell'=true:=by first|rfl|decide|simp) (hi:i<cs.length:=by first|decide|(simp;done)|(simp;omega)|omega):
  G n ds F (λa w=>o.wp P a w K Q) σ H:=CT hs ho hd hx hy h1 hu hi h
theorem oSN{t k:TypeId}{x y:Operand}{b i:Nat}{e:TypeId}{cs vs:List Value}{f:aa→List aa}(hs:db P t=some k)(h:G n ds F K σ (f (ag b e (bU cs i vs))))(ho:o.op= .store t x y:=by exact rfl)(hd:o.dst=none:=by exact rfl)
  (hx:bx σ x=some (.pointer (some ⟨b,i,none⟩)):=by exact rfl) (hy:bx σ y=some (.agg vs.toArray):=by exact rfl) (hk:vs.length=k:=by exact rfl) (h1:∀v∈vs,v.oneCell'=true:=by simp[bU,Value.cells,Value.oneCell',aB])
  (hu:Pos H (ag b e cs) f:=by repeat (first|exact Pos.here|apply Pos.there)) (hi:i+vs.length≤cs.length:=by simp[bU,uz]):G n ds F (λa w=>o.wp P a w K Q) σ H:=tH hs ho hd hx hy hk h1 hu hi h
theorem QM{cs vs:List Value}(h:vs.length=cs.length):bU cs 0 vs=vs:=by
 rw[lI (by omega)];simp[h]
theorem eJ{t k:TypeId}{x y:Operand}{b:Nat}{e:TypeId}{cs vs:List Value}{f:aa→List aa}(hs:db P t=some k)(h:G n ds F K σ (f (ag b e vs)))(ho:o.op= .store t x y:=by exact rfl)(hd:o.dst=none:=by exact rfl)
  (hx:bx σ x=some (.pointer (some ⟨b,0,none⟩)):=by exact rfl) (hy:bx σ y=some (.agg vs.toArray):=by exact rfl) (hk:vs.length=k:=by exact rfl) (h1:∀v∈vs,v.oneCell'=true:=by simp[bU,Value.cells,Value.oneCell',aB])
  (hu:Pos H (ag b e cs) f:=by repeat (first|exact Pos.here|apply Pos.there)) (hl:cs.length=k:=by exact rfl):G n ds F (λa w=>o.wp P a w K Q) σ H:=
 tH hs ho hd hx hy hk h1 hu (by omega) (by rw[QM (by omega)];exact h)
theorem TC{t:TypeId}{x y:Operand}{a:Option Addr}{k cap e sz:Nat}{cells:List Value}{f:aa→List aa}{v:Value}(hs:dp P t=true)(h:G n ds F K σ (f (own a cap e sz (cells.set k v))))(ho:o.op= .store t x y:=by exact rfl)(hd:o.dst=none:=by exact rfl)
  (hx:bx σ x=some (.pointer (a.map (·.add k))):=by exact rfl) (hy:bx σ y=some v:=by exact rfl) (hu:Pos H (own a cap e sz cells) f:=by repeat (first|exact Pos.here|apply Pos.there)) (h1:v.oneCell'=true:=by first|rfl|decide|simp)
  (hk:k<cells.length:=by first|omega|(simp;omega)):G n ds F (λa w=>o.wp P a w K Q) σ H:=JV hs ho hd hx hy h1 hu hk h
theorem oB{t:TypeId}{x:Operand}{v:Value}{cs:List Value}(h:∀b,G n ds F K ((d, .pointer (some ⟨b,0,none⟩))::σ) (ag b t cs::H))(ho:o.op= .box t x:=by exact rfl)(hd:o.dst=some d:=by exact rfl)(hx:bx σ x=some v:=by exact rfl)(hc:v.cells=cs.toArray:=by exact rfl)(hdn:Nat.blt d n=true:=by exact rfl):
  G n ds F (λa w=>o.wp P a w K Q) σ H:=aat ho hd hx hc hdn h
theorem oA{t:TypeId}{cs:List Value}(hz:cq P t=some cs)(h:∀b,G n ds F K ((d, .pointer (some ⟨b,0,none⟩))::σ) (ag b t cs::H))(ho:o.op= .alloc t:=by exact rfl)(hd:o.dst=some d:=by exact rfl)(hdn:Nat.blt d n=true:=by exact rfl):
  G n ds F (λa w=>o.wp P a w K Q) σ H:=Q9 hz ho hd hdn h
theorem oT{t:TypeId}{e mh len:Nat}{z vs:List Value}{parts:List (Nat×Operand)}(ht:sP P t=some (e,1,mh,z))(h:∀b,G n ds F K ((d, .slice (some ⟨b,0,none⟩) len len)::σ) (ag b e vs::H))(ho:o.op= .buildSlice t len parts.toArray:=by exact rfl)(hd:o.dst=some d:=by exact rfl)(hv:jY σ (parts.map (·.2))=some vs:=by exact rfl)
  (hk:Nat.ble (len*1) 16777216=true:=by exact rfl) (hi:parts.map (·.1)=List.range' 0 vs.length:=by exact rfl) (hlen:vs.length=len:=by exact rfl) (h1:∀v∈vs,v.oneCell'=true:=by simp[Value.oneCell',aB]) (hdn:Nat.blt d n=true:=by exact rfl):
  G n ds F (λa w=>o.wp P a w K Q) σ H:=VN ht ho hd hv hk hi hlen h1 hdn h
theorem oT1{t:TypeId}{e sz mh:Nat}{z cs:List Value}{x:Operand}(ht:sP P t=some (e,sz,mh,z))(h:∀b,G n ds F K ((d, .slice (some ⟨b,0,none⟩) 1 1)::σ) (ag b e cs::H))(ho:o.op= .buildSlice t 1 #[(0,x)]:=by exact rfl)(hd:o.dst=some d:=by exact rfl)(hx:bx σ x=some (.agg cs.toArray):=by exact rfl)
  (hl:cs.length=sz:=by exact rfl) (hk:Nat.ble (1*sz) 16777216=true:=by exact rfl) (hdn:Nat.blt d n=true:=by exact rfl):G n ds F (λa w=>o.wp P a w K Q) σ H:=VO ht ho hd hx hl hk hdn h
theorem oMk{t e e':TypeId}{x:Operand}{b i l c:Nat}{cs:List Value}{R:List aa}(ht:P.underlying t=some (.slice e))(he:P.underlying e=some (.int .u8))(h:G n ds F K ((d, .slice (some ⟨b,i,none⟩) l c)::σ) (ag b e' cs::R))(ho:o.op= .convert t t x:=by exact rfl)(hd:o.dst=some d:=by exact rfl)
  (hx:bx σ x=some (.slice (some ⟨b,i,none⟩) l c):=by exact rfl) (hs:fE H (ag b e' cs) R:=by repeat (first|exact fE.here|apply fE.there)) (hdn:Nat.blt d n=true:=by exact rfl):G n ds F (λa w=>o.wp P a w K Q) σ H:=VL ht he ho hd hx hs hdn h
theorem oM{t:TypeId}{e sz mh:Nat}{z:List Value}{x y:Operand}{k k':IntKind}{i j:Int}(l c:Nat)(ht:sP P t=some (e,sz,mh,z))(h:∀b,G n ds F K ((d, .slice (some ⟨b,0,none⟩) l c)::σ) (ag b e (gu z (c*sz))::H))(ho:o.op= .makeSlice t x y:=by exact rfl)(hd:o.dst=some d:=by exact rfl)
  (hx:bx σ x=some (.int k i):=by exact rfl) (hy:bx σ y=some (.int k' j):=by exact rfl) (vN:i=(l:Int):=by first|omega|(simp;omega)) (hj:j=(c:Int):=by first|omega|(simp;omega)) (hlc:l≤c:=by first|omega|(simp;omega)) (hc:c*mh≤281474976710656:=by first|omega|(simp;omega))
  (ow:c≤9223372036854775807:=by first|omega|(simp;omega)) (hdn:Nat.blt d n=true:=by exact rfl):G n ds F (λa w=>o.wp P a w K Q) σ H:=VM ht ho hd hx hy vN hj hlc hc ow hdn h
theorem oC{f:FuncId}{xs:List Operand}{vs:List Value}{sW:Array TypeId}{pre:Hp→Prop}{A2 R:List aa}{T:Value→List aa→Prop}(lj:ax P f=true)(ho:o.op= .call {callee:= .value (.func f),args:=xs.toArray,argTypes:=sW})(hv:jY σ xs=some vs)(hc:aH P f vs pre A2 T)(ey:jB H A2 R)(iX:∀h,Le F.h h→hJ R h→pre h)
  (h:∀v H',T v H'→G n ds F K ((d,v)::σ) (H'++R)) (hd:o.dst=some d:=by exact rfl) (hdn:Nat.blt d n=true:=by exact rfl):
  G n ds F (λa w=>o.wp P a w K Q) σ H:=VP lj ho hd hv hc ey iX hdn h
theorem Eh{A B:List aa}(h:∀h,ak A h→ak B h:=by
  first
   |exact λ_ x=>x
   |(apply dM;(repeat' (first|exact jB.nil|apply jB.cons|exact fE.here|apply fE.there));done)
   |(refine abT ?_;simp;done)):∀h,ak A h→ak B h:=h
theorem Hh{K:Act→World→Prop}{H':List aa}(h:G n ds F K σ H')(hh:∀h,ak H h→ak H' h:=by exact Eh):G n ds F K σ H:=aC hh h
theorem Sb{A B:ba}(h:uK A B:=by
  repeat' first
   |exact trivial
   |refine And.intro ?_ ?_
   |exact rfl
   |(refine congrArg (λq=>some (Value.int _ q)) ?_;omega)
   |(refine congrArg (λq=>some (Value.slice _ q _)) ?_;omega)
   |(refine congrArg (λq=>some (Value.bool q)) ?_;rw[Bool.eq_iff_iff];simp only[Bool.or_eq_true,Bool.and_eq_true,decide_eq_true_eq,Bool.not_eq_true',decide_eq_false_iff_not,Bool.false_eq_true,true_iff,false_iff,iff_true,iff_false];first|omega|grind)
   |(refine congrArg (λq=>some (Value.bool q)) ?_;simp[*];done)):uK A B:=h
theorem Lo{ι:Type}{c:Code}(mj:List Nat)(I:ι→Prop)(L:ι→ba)(HI:ι→List aa)(μ:ι→Nat)(i₀:ι)(h0:I i₀)
  (round:∀i,I i→G n ds F (c.wp P (Exit.then (vI n ds F mj σ I L HI μ i) Q)) (L i++gH mj σ) (HI i)) (hs:uK (L i₀) σ:=by exact Sb) (hh:∀h,ak H h→ak (HI i₀) h:=by exact Eh):G n ds F ((Code.loop c).wp P Q) σ H:=
 WN mj I L HI μ i₀ h0 hs hh round
theorem Ro{ι:Type}{mj:List Nat}{σ0:ba}{I:ι→Prop}{L:ι→ba}{HI:ι→List aa}{μ:ι→Nat}{i:ι}(j:ι)(hI:I j)(hm:μ j<μ i)(hs:uK (L j) σ:=by exact Sb)(hk:gH mj σ=gH mj σ0:=by exact rfl)(hh:∀h,ak H h→ak (HI j) h:=by exact Eh):
  G n ds F (Exit.then (vI n ds F mj σ0 I L HI μ i) Q .normal) σ H:=SJ j hI hm hs hk hh
theorem Me{ι:Type}{mj:List Nat}{σ0:ba}{I:ι→Prop}{L:ι→ba}{HI:ι→List aa}(j:ι)(hI:I j)(hs:uK (L j) σ:=by exact Sb)(hk:gH mj σ=gH mj σ0:=by exact rfl)(hh:∀h,ak H h→ak (HI j) h:=by exact Eh):
  G n ds F (Exit.then (NT n ds F mj σ0 I L HI) Q .normal) σ H:=agc j hI hs hk hh
theorem Rt{fn:Func}{R:Value→List aa→Prop}{t:Nat}{v:Value}(H':List aa)(hr:fn.results= #[.tmp t])(hR:R v H')(hv:look σ t=some v:=by exact rfl)(hh:∀h,ak H h→ak H' h:=by exact Eh):
  G n [] F (bodyPost P fn (λe w'=>∃v H',e= .returned v∧R v H'∧St F H' w') .ret) σ H:=agb hr hv hR hh
theorem Rt0{fn:Func}{R:Value→List aa→Prop}(H':List aa)(hr:fn.results= #[])(hR:R (.tuple #[]) H')(hh:∀h,ak H h→ak H' h:=by exact Eh):
  G n [] F (bodyPost P fn (λe w'=>∃v H',e= .returned v∧R v H'∧St F H' w') .ret) σ H:=abY hr hR hh
theorem jM{fn:Func}{R:Value→List aa→Prop}(H':List aa)(hr:fn.results= #[])(hR:R (.tuple #[]) H')(hh:∀h,ak H h→ak H' h:=by exact Eh):
  G n [] F (bodyPost P fn (λe w'=>∃v H',e= .returned v∧R v H'∧St F H' w') .normal) σ H:=abZ hr hR hh
theorem iH{fn:Func}{R:Value→List aa→Prop}{t u:Nat}{v x:Value}(H':List aa)(hr:fn.results= #[.tmp t, .tmp u])(hR:R (.tuple #[v,x]) H')(hv:look σ t=some v:=by exact rfl)(hx:look σ u=some x:=by exact rfl)(hh:∀h,ak H h→ak H' h:=by exact Eh):
  G n [] F (bodyPost P fn (λe w'=>∃v H',e= .returned v∧R v H'∧St F H' w') .ret) σ H:=abX hr hv hx hR hh
theorem ko{fn:Func}{T:Value→List aa→Prop}{t ty b i k:Nat}{e:TypeId}{cs vs:List Value}{R:List aa}(H':List aa)(hs:db P ty=some k)(hr:fn.results= #[.cell t ty])(hR:T (.agg vs.toArray) H')(ht:look σ t=some (.pointer (some ⟨b,i,none⟩)):=by exact rfl)
  (ey:fE H (ag b e cs) R:=by repeat (first|exact fE.here|apply fE.there)) (hv:(cs.drop i).take k=vs:=by exact rfl) (hk:vs.length=k:=by exact rfl) (hh:∀h,ak H h→ak H' h:=by exact Eh):G n [] F (bodyPost P fn (λe w'=>∃v H',e= .returned v∧T v H'∧St F H' w') .ret) σ H:=
 abW hs hr ht ey hv hk hR hh
end
end Go.dL
