/- Part Pj1 of the proof. -/
import Derived.Test.YtdolmecackmjdaaGreatDoorPc1
import Derived.Test.YtdolmecackmjdaaGreatDoorPd
import Derived.Test.YtdolmecackmjdaaGreatDoorPi
set_option maxRecDepth 100000
open Nat renaming zero_le → aay
open List renaming mem_eraseIdx_iff_getElem? → aeC, getElem_of_mem → aaz, getElem?_eq_some_iff → aad, length_set → aaj, mem_cons_of_mem → aag, mem_of_getLast? → ads, getLast?_eq_getElem? → adW, mem_cons_self → aai, flatMap_nil → afr, flatMap_cons → adA, getD_eq_getElem?_getD → aab, getElem?_set_ne → aaF, mem_of_getElem? → aaf
open Go.Proofs.Tryz renaming prog → aaa
open Go.Proofs.Tryz
namespace Go.Proofs.YtdolmecackmjdaaGreatDoor
open Go Go.cV
structure Ck where
 now:Nat
 iX:Nat
 cut:Nat
structure p9 (k:Ck):Prop where
 n1:1≤k.now
 n2:k.now≤1099511627776
 p:k.iX≤1099511627777
 pn:k.iX≠0→k.now<k.iX
 c:k.cut<18446744073709551616
def QK (k:Ck):List Value:= [.int .i64 (k.now:Int), .int .i64 (k.iX:Int), .int .u64 (k.cut:Int)]
def ki (a:Nat)(k:Ck):aa:=ag a 174 (QK k)
def Ck.flush (k:Ck)(t:Int)(aO:Nat):Ck:=if t≤0 then{k with cut:=max k.cut aO,iX:=0}else{k with iX:=k.now+min t.toNat (1099511627777-k.now)}
def Ck.tick (k:Ck)(by_:Nat)(aO:Nat):Ck:=let k2:={k with now:=k.now+by_};if 0<k2.iX∧k2.iX≤k2.now then k2.flush 0 aO else k2
theorem p9.flush{k:Ck}(h:p9 k)(t:Int){aO:Nat}(hi:aO<18446744073709551616):p9 (k.flush t aO):=by
 obtain⟨h1,h2,h3,h4,h5⟩:=h
 unfold Ck.flush
 split
 ·exact⟨h1,h2,aay _,λg=>absurd rfl g,by show max _ _<_;omega⟩
 exact⟨h1,h2,by show k.now+min _ _≤_;omega,λ_=>by show k.now<k.now+min _ _;omega,h5⟩
theorem hJ (a:Nat)(k:Ck):aF aaa 46 [.pointer (some ⟨a,0,none⟩)] (In (ki a k)) [] (λv H=>v= .int .i64 (k.now:Int)∧H= []):=by
 unfold ki QK
 refine af func46 rfl ntmps46 rfl ?_
 intro F hk
 refine bI ?_
 refine Rt [] results46 ?_
 exact⟨rfl,rfl⟩
theorem PZ (a:Nat)(k:Ck):aF aaa 137 [.pointer (some ⟨a,0,none⟩)] (In (ki a k)) [] (λv H=>v= .int .u64 (k.cut:Int)∧H= []):=by
 unfold ki QK
 refine af func137 rfl ntmps137 rfl ?_
 intro F hk
 refine bI ?_
 refine Rt [] results137 ?_
 exact⟨rfl,rfl⟩
theorem we (a:Nat)(k:Ck)(h2:k.now≤1099511627776)(t:Int)(aO:Nat)(hi:aO<18446744073709551616)(ht:t<9223372036854775808):
  aF aaa 75 [.pointer (some ⟨a,0,none⟩), .int .i64 t, .int .u64 (aO:Int)] (λ_=>True) [ki a k] (λv H=>v= .tuple #[]∧H= [ki a (k.flush t aO)]):=by
 unfold Ck.flush
 by_cases ZO:t≤0
 ·rw[if_pos ZO]
  unfold ki QK
  refine af func75 rfl ntmps75 rfl ?_
  intro F _
  refine br ?_
  refine fB ?_ (e:=by exact decide_eq_true ZO)
  refine dh ?_
  refine Li Ma ?_
  refine dg ?_
  refine Rt0 [ag a 174 [.int .i64 (k.now:Int), .int .i64 0, .int .u64 (max (k.cut:Int) (aO:Int))]] results75 ?_
  exact⟨rfl,by rw[show max (k.cut:Int) (aO:Int)=((max k.cut aO:Nat):Int) by omega];rfl⟩
 rw[if_neg ZO]
 unfold ki QK
 refine af func75 rfl ntmps75 rfl ?_
 intro F _
 refine br ?_
 refine dm ?_ (e:=by exact decide_eq_false ZO)
 refine bf ?_
 refine ik 13 T.mix (.cons .here .nil) λF1 je bR aM=> ?_
 obtain⟨q1,_⟩:=bR
 refine bI ?_
 refine Ti Mi ?_
 refine aA ?_
 refine gO aM ?_
 refine bq ?_
 refine Tn ?_
 refine jA [ag a 174 [.int .i64 (k.now:Int), .int .i64 ((k.now:Int)+min t (1099511627777-(k.now:Int))), .int .u64 (k.cut:Int)]] results75 ?_
 exact⟨rfl,by rw[show(k.now:Int)+min t (1099511627777-(k.now:Int))=((k.now+min t.toNat (1099511627777-k.now):Nat):Int) by omega]⟩
theorem Ua (ex tok now cut:Nat):aF aaa 136 [.int .i64 (ex:Int), .int .u64 (tok:Int), .int .i64 (now:Int), .int .u64 (cut:Int)] (λ_=>True) [] (λv H=>v= .bool (decide (0<ex∧ex≤now∨tok≤cut))∧H= []):=by
 refine af func136 rfl ntmps136 rfl ?_
 intro F _
 by_cases h1:0<ex
 ·by_cases h2:ex≤now
  ·refine iu ?_
   refine bD ?_
   refine zt 11 ?_
   refine br ?_
   refine zt 16 ?_
   refine bL ?_
   refine Rt [] results136 ?_
   exact⟨by rw[decide_eq_true (.inl ⟨h1,h2⟩)],rfl⟩
  refine iu ?_
  refine bD ?_
  refine zt 11 ?_
  refine br ?_
  refine zf 16 ?_
  refine bL ?_
  refine Rt [] results136 ?_
  exact⟨congrArg Value.bool (decide_eq_decide.2 (by omega)),rfl⟩
 refine iu ?_
 refine bD ?_
 refine zf 11 ?_
 refine eC ?_
 refine Rt [] results136 ?_
 exact⟨congrArg Value.bool (decide_eq_decide.2 (by omega)),rfl⟩
def GS (now:Nat)(t:Int):Int:=if t=0 then 0 else if t<0 then(now:Int)else if t≤2592000 then(now:Int)+t else t
theorem xT (now:Nat)(t:Int)(h1:1≤now)(h2:now≤1099511627776):aF aaa 121 [.int .i64 (now:Int), .int .i64 t] (λ_=>True) [] (λv H=>v= .int .i64 (GS now t)∧H= []):=by
 unfold GS
 refine af func121 rfl ntmps121 rfl ?_
 intro F _
 refine br ?_
 refine Li Ma ?_
 refine Li Mi ?_
 refine bf ?_
 refine aw ?_
 refine ay (t:=0) (v':=(.int .i64 (now:Int))) rfl (by(congr 1<;>omega)) ?_
 refine bD ?_
 refine ax rfl ?_ ?_
 ·intro g0
  replace g0:=aL g0
  refine bD ?_
  refine Rt [] results121 ?_
  exact⟨by rw[if_pos g0],rfl⟩
 intro g0
 replace g0:=aL g0
 refine br ?_
 refine ax rfl ?_ ?_
 ·intro g1
  replace g1:=aL g1
  refine bL ?_
  refine Rt [] results121 ?_
  exact⟨by rw[if_neg g0,if_pos g1],rfl⟩
 intro g1
 replace g1:=aL g1
 refine br ?_
 refine ax rfl ?_ ?_
 ·intro g2
  replace g2:=aL g2
  refine dg ?_
  refine Rt [] results121 ?_
  exact⟨by rw[if_neg g0,if_neg (by omega),if_pos g2],rfl⟩
 intro g2
 replace g2:=aL g2
 refine dh ?_
 refine Rt [] results121 ?_
 exact⟨by rw[if_neg g0,if_neg (by omega),if_neg (by omega)],rfl⟩
def Ck.Cy (k:Ck)(n:Int):Int:=if n<1 then 1 else if 1099511627776-(k.now:Int)<n then 4 else 0
def Ck.move (k:Ck)(n:Int)(aO:Nat):Ck:=if k.Cy n=0 then k.tick n.toNat aO else k
theorem p9.move{k:Ck}(h:p9 k)(n:Int){aO:Nat}(hi:aO<18446744073709551616):p9 (k.move n aO):=by
 unfold Ck.move Ck.Cy
 by_cases e1:n<1
 ·rw[if_pos e1,if_neg (by decide)];exact h
 rw[if_neg e1]
 by_cases e2:1099511627776-(k.now:Int)<n
 ·rw[if_pos e2,if_neg (by decide)];exact h
 rw[if_neg e2,if_pos rfl]
 obtain⟨h1,h2,h3,h4,h5⟩:=h
 unfold Ck.tick
 dsimp only
 split
 ·unfold Ck.flush
  rw[if_pos (by decide)]
  exact⟨by show 1≤k.now+_;omega,by show k.now+_≤_;omega,aay _,λg=>absurd rfl g,by show max k.cut aO<_;omega⟩
 next g=>exact⟨by show 1≤k.now+_;omega,by show k.now+_≤_;omega,h3,λq=>by show k.now+_<k.iX;change k.iX≠0 at q;omega,h5⟩
theorem JF (a:Nat)(k:Ck)(K:p9 k)(n:Int)(aO:Nat)(hi:aO<18446744073709551616):
  aF aaa 44 [.pointer (some ⟨a,0,none⟩), .int .i64 n, .int .u64 (aO:Int)] (λ_=>True) [ki a k] (λv H=>v= .int .i64 (k.Cy n)∧H= [ki a (k.move n aO)]):=by
 have h2:=K.n2
 unfold Ck.move Ck.Cy
 by_cases e1:n<1
 ·rw[if_pos e1,if_neg (by decide)]
  unfold ki QK
  refine af func44 rfl ntmps44 rfl ?_
  intro F _
  refine dh ?_
  refine fB ?_ (e:=by exact decide_eq_true e1)
  refine br ?_
  refine Rt [ag a 174 [.int .i64 (k.now:Int), .int .i64 (k.iX:Int), .int .u64 (k.cut:Int)]] results44 ?_
  exact⟨rfl,rfl⟩
 rw[if_neg e1]
 by_cases e2:1099511627776-(k.now:Int)<n
 ·rw[if_pos e2,if_neg (by decide)]
  unfold ki QK
  refine af func44 rfl ntmps44 rfl ?_
  intro F _
  refine dh ?_
  refine dm ?_ (e:=by exact decide_eq_false e1)
  refine eC ?_
  refine fB ?_ (e:=by exact decide_eq_true e2)
  refine br ?_
  refine Rt [ag a 174 [.int .i64 (k.now:Int), .int .i64 (k.iX:Int), .int .u64 (k.cut:Int)]] results44 ?_
  exact⟨rfl,rfl⟩
 rw[if_neg e2,if_pos rfl]
 obtain⟨m,rfl⟩:∃m:Nat,n=(m:Int):=⟨n.toNat,by omega⟩
 have hp:=K.p
 have hf:=we a {k with now:=k.now+m} (by show k.now+m≤_;omega) 0 aO hi (by decide)
 unfold Ck.tick
 dsimp only
 rw[Int.toNat_natCast]
 unfold ki QK at hf⊢
 refine af func44 rfl ntmps44 rfl ?_
 intro F _
 refine dh ?_
 refine dm ?_ (e:=by exact decide_eq_false e1)
 refine eC ?_
 refine dm ?_ (e:=by exact decide_eq_false e2)
 by_cases g1:0<k.iX
 ·refine yz ?_
  refine gP ?_
  refine aw ?_
  refine ik 16 T.mix (.cons .here .nil) λF1 je bR aM=> ?_
  obtain⟨q1,_⟩:=bR
  refine bD ?_
  refine zt 29 ?_
  refine bA ?_
  refine gO aM ?_
  refine aA ?_
  by_cases g2:k.iX≤k.now+m
  ·rw[if_pos ⟨g1,g2⟩]
   refine fB ?_
   refine bq ?_
   refine zl T.Vn (hf) (.cons .here .nil) (λ_ _ _=>trivial) ?_
   refine br ?_
   refine Rt [ag a 174 (QK (Ck.flush {k with now:=k.now+m} 0 aO))] results44 ?_
   exact⟨rfl,rfl⟩
  rw[if_neg (λg=>g2 g.2)]
  refine dm ?_
  refine bD ?_
  refine Rt [ag a 174 [.int .i64 ((k.now:Int)+(m:Int)), .int .i64 (k.iX:Int), .int .u64 (k.cut:Int)]] results44 ?_
  exact⟨rfl,rfl⟩
 rw[if_neg (λg=>g1 g.1)]
 refine fK ?_
 refine aw ?_
 refine ik 16 T.mix (.cons .here .nil) λF2 zM eG ez=> ?_
 obtain⟨q1,_⟩:=eG
 refine bD ?_
 refine zf 29 ?_
 refine bA ?_
 refine gO ez ?_
 refine dh ?_
 refine Rt [ag a 174 [.int .i64 ((k.now:Int)+(m:Int)), .int .i64 (k.iX:Int), .int .u64 (k.cut:Int)]] results44 ?_
 exact⟨rfl,rfl⟩
end Go.Proofs.YtdolmecackmjdaaGreatDoor
namespace Go.Proofs.YtdolmecackmjdaaGreatDoor
open Go Go.cV Go.Proofs.YtdolmecackmjdaaGreatDoor.Cs
section
variable {P:Program} {n:Nat} {ds:List Deferred} {F:dy} {σ:aR} {o:Oper}
theorem Bw{t e sz k:Nat}(ht:zS P t=some (k,e,sz)):P.underlying t=some (.array k e):=by
 unfold zS at ht
 cases hu:P.underlying t with
 |none=>simp[hu]at ht
 |some dsc=>
  cases dsc<;>simp[hu]at ht
  rename_i k' e'
  cases hi:P.info? e' with
  |none=>simp[hi]at ht
  |some inf=>
   simp[hi]at ht
   obtain⟨rfl,rfl,rfl⟩:=ht
   rfl
theorem Iag{t e sz sz' k j:Nat}{x y:Operand}{kd:IntKind}{z:Int}{cs vs:List Value}(ht:zS P t=some (k,e,sz'))(he:cy P e=some sz)(ho:o.op= .index t x y:=by exact rfl)(hx:bh σ x=some (.agg cs.toArray):=by exact rfl)(hy:bh σ y=some (.int kd z):=by exact rfl)(hj:z=(j:Int):=by exact rfl)
  (hl:j<k:=by omega) (hv:(cs.drop (j*sz)).take sz=vs:=by first|assumption|exact rfl):Yv P n ds F σ o (.agg vs.toArray):=λa w en fr=>by
 obtain⟨h1,h2⟩:=eh (w:=w) he
 subst hj
 have e:cs.toArray.extract (j*sz) (j*sz+sz)=vs.toArray:=by
  rw[←hv]
  simp[List.take_drop]
 simp[execOp,ho,Instr.index,en.eval hx,en.eval hy,asIntOf,run_underlying (Bw ht),hl,part,h1,h2,e]
 exact hv
theorem Ias{t e sz k j:Nat}{x y:Operand}{kd:IntKind}{z:Int}{cs:List Value}{v:Value}(ht:zS P t=some (k,e,sz))(he:cN P e=true)(ho:o.op= .index t x y:=by exact rfl)(hx:bh σ x=some (.agg cs.toArray):=by exact rfl)(hy:bh σ y=some (.int kd z):=by exact rfl)(hj:z=(j:Int):=by exact rfl)
  (hl:j<k:=by omega) (hv:cs[j]?=some v:=by first|assumption|exact rfl):Yv P n ds F σ o v:=λa w en fr=>by
 obtain⟨h1,h2⟩:=rF (w:=w) he
 subst hj
 simp[execOp,ho,Instr.index,en.eval hx,en.eval hy,asIntOf,run_underlying (Bw ht),hl,part,h1,h2,hv]
theorem Fnn{t yt:TypeId}{x y:Operand}{f:Fn}{a c:Array Value}(ht:(P.underlying t).map (λd=>match d with| .func .. =>true|_=>false)=some true)(ho:o.op= .binOp .neq t x y yt:=by exact rfl)(hx:bh σ x=some (.func f a c):=by exact rfl)(hy:bh σ y=some .nilFunc:=by exact rfl):Yv P n ds F σ o (.bool true):=λw0 w en _=>by
 cases hu:P.underlying t with
 |none=>simp[hu]at ht
 |some d=>
  cases d<;>simp[hu]at ht
  have h:∀k:Nat,(Op.equalIn (k+1) t (.func f a c) .nilFunc).run P w= .ok false w:=λk=>by simp[Op.equalIn,run_underlying hu]
  have r:(Go.binOp .neq t (.func f a c) .nilFunc).run P w= .ok (.bool true) w:=by
   simp only[Go.binOp]
   simp[Op.equal,Op.maxDepth,h 9999]
  simp only[execOp,ho,en.eval hx,en.eval hy,Sem.run_bind,eqGuard_at_func,Sem.run_pure,r,Result.andThen_ok]
end
theorem Db:(aaa.underlying 151).map (λd=>match d with| .func .. =>true|_=>false)=some true:=by kernel_rfl
theorem Zy:zS aaa 280=some (3,279,2):=by kernel_rfl
theorem ZE:cy aaa 279=some 2:=by kernel_rfl
def wI (C:Cs)(Q:List (List Nat))(c hot warm:Nat):Option Nat:=
 if mB Q c 1 hot then some 1 else if mB Q c 2 warm then some 2 else if uE C Q c then some 3 else none
theorem PO{C:Cs}{Q:List (List Nat)}{c hot warm s:Nat}(h:wI C Q c hot warm=some s):(1≤s∧s≤3)∧∃p,(ql Q (qi c s)).getLast?=some p:=by
 have ne:∀l:List Nat,0<l.length→∃p,l.getLast?=some p:=λl h=>by
  cases l with
  |nil=>simp at h
  |cons a l=>exact⟨_,List.getLast?_cons ..⟩
 unfold wI at h
 split at h
 ·next g=>
  cases h
  unfold mB at g
  exact⟨by omega,ne _ (by have:=of_decide_eq_true g;omega)⟩
 split at h
 ·next g=>
  cases h
  unfold mB at g
  exact⟨by omega,ne _ (by have:=of_decide_eq_true g;omega)⟩
 split at h
 ·next g=>
  cases h
  unfold uE at g
  refine⟨by omega, ?_⟩
  cases e:(ql Q (qi c 3)).getLast? with
  |none=>rw[e]at g;cases g
  |some p=>exact⟨p,rfl⟩
 cases h
def toQ (A:By)(p:Nat):Nat:=if GM A p then 2 else 3
def mT (C:Cs)(Q:List (List Nat))(c s p:Nat):List (List Nat):=tX Q (qi c s) ((ql Q (qi c s)).length-1) (qi c (toQ C.A p)) p
theorem MY{l:List Nat}(nd:l.Nodup){p:Nat}(h:p∈l):Z0 l p≠some p:=λe=>by
 unfold Z0 at e
 obtain⟨i1,i2⟩:=zc h
 generalize l.idxOf p=k at*
 rcases k with _|k
 ·cases e
 have:=gh nd e i2;omega
theorem FK{Q:List (List Nat)}{i j k p q m:Nat}(hi:i<Q.length)(hj:j<Q.length)(hq:q≠p)(h:q∈ql Q m)(hk:(ql Q i)[k]?=some p):q∈ql (tX Q i k j p) m:=by
 have sT:∀u,q∈ql Q u→q∈ql (Q.set i ((ql Q i).eraseIdx k)) u:=λu hu=>by
  rw[eZ hi]
  split
  ·next e=>
   rw[e]at hu
   rw[aeC]
   obtain⟨v,hv,ev⟩:=aaz hu
   refine⟨v,λg=>hq ?_,aad.2 ⟨hv,ev⟩⟩
   have h1:(ql Q i)[k]?=some q:=by rw[←g];exact aad.2 ⟨hv,ev⟩
   rw[hk]at h1
   exact(Option.some.inj h1).symm
  exact hu
 unfold tX
 rw[eZ (by rw[aaj];exact hj)]
 split
 ·next e=>rw[←e];exact aag _ (sT m h)
 exact sT m h
theorem Td{n:Nat}{Q:List (List Nat)}{x:Cw}(X:cn n Q x)(nd:∀i,(ql Q i).Nodup){i j k p:Nat}(hi:i<Q.length)(hj:j<Q.length)(hk:(ql Q i)[k]?=some p):cn n (tX Q i k j p) (x.left Q p):=by
 have L:=X.left p
 refine⟨L.go,L.no,λq hq=> ?_,L.lf⟩
 obtain⟨h1,h2⟩:=L.nx q hq
 refine⟨FK hi hj (λe=> ?_) h1 hk,h2⟩
 subst e
 unfold Cw.left at hq h1
 split at hq
 ·next g=>
  rw[if_pos g]at h1
  have hp:=(X.nx q g).1
  unfold Cw.pass at hq
  rw[g]at hq
  dsimp only at hq
  split at hq
  ·exact MY (nd _) hp hq
  cases hq
 next g=>exact g hq
structure M7 (C:Cs)(n p:Nat)(A:By)(Q:List (List Nat))(x:Cw):Prop where
 o:hZ (C.wA A) Q
 d:cI C C.A A (SL p)
 mr:cM A p=mkSet (cM C.A p) false
 x:cn n Q x
def UX (cr:Nat):Value:= .func (.func 82) #[.pointer (some ⟨cr,0,none⟩)] #[]
def ruF (j:Nat):Nat:=if j=0 then 236 else if j=1 then 237 else 238
theorem Xx (j:Nat)(h:j<3):(ruC.drop (j*2)).take 2= [.int .i64 ((j+1:Nat):Int), .func (.func (ruF j)) #[] #[]]:=by
 have:j=0∨j=1∨j=2:=by omega
 rcases this with rfl|rfl|rfl<;>rfl
def Q4 (C:Cs)(Q:List (List Nat))(c hot warm j:Nat):Bool:=if j=0 then mB Q c 1 hot else if j=1 then mB Q c 2 warm else uE C Q c
theorem R9 (a q b qb hot warm:Nat)(C:Cs)(K:Ok C)(Q:List (List Nat))(O:hZ C Q)(M:MkQ C Q)(c:Nat)(hc:c<C.ae.length)(hh:hot≤100)(hw:warm≤100)(j:Nat)(hj:j<3):
  av aaa (ruF j)=true∧aF aaa (ruF j) [.pointer (some ⟨a,0,none⟩), .int .i64 (c:Int)] (λh=>In (Cl b C) h∧In (iW a b q hot warm) h∧gw (qO q b qb C Q) h) [] (λv H=>v= .bool (Q4 C Q c hot warm j)∧H= []):=by
 have:j=0∨j=1∨j=2:=by omega
 rcases this with rfl|rfl|rfl
 ·exact⟨T.Yk,(BN a q b qb hot warm C K Q O c hc hh).inp λk h=>⟨h.2.1,h.2.2⟩⟩
 ·exact⟨T.Yj,(zp a q b qb hot warm C K Q O c hc hw).inp λk h=>⟨h.2.1,h.2.2⟩⟩
 exact⟨T.Yi,OH a q b qb hot warm C K Q O M c hc⟩
theorem PR{C:Cs}{Q:List (List Nat)}{c hot warm:Nat}(h:∀i,i<3→Q4 C Q c hot warm i=false):wI C Q c hot warm=none:=by
 have h0:=h 0 (by omega)
 have h1:=h 1 (by omega)
 have h2:=h 2 (by omega)
 unfold Q4 at h0 h1 h2
 unfold wI
 rw[if_pos rfl]at h0
 rw[if_neg (by decide),if_pos rfl]at h1
 rw[if_neg (by decide),if_neg (by decide)]at h2
 rw[h0,h1,h2];rfl
theorem PQ{C:Cs}{Q:List (List Nat)}{c hot warm j:Nat}(hj:j<3)(h:∀i,i<j→Q4 C Q c hot warm i=false)(t:Q4 C Q c hot warm j=true):wI C Q c hot warm=some (j+1):=by
 have:j=0∨j=1∨j=2:=by omega
 unfold wI
 rcases this with rfl|rfl|rfl
 ·unfold Q4 at t
  rw[if_pos rfl]at t
  rw[t];rfl
 ·have h0:=h 0 (by omega)
  unfold Q4 at t h0
  rw[if_pos rfl]at h0
  rw[if_neg (by decide),if_pos rfl]at t
  rw[h0,t];rfl
 have h0:=h 0 (by omega)
 have h1:=h 1 (by omega)
 unfold Q4 at t h0 h1
 rw[if_pos rfl]at h0
 rw[if_neg (by decide),if_pos rfl]at h1
 rw[if_neg (by decide),if_neg (by decide)]at t
 rw[h0,h1,t];rfl
theorem OE (a q b qb hot warm cr w:Nat)(dv tv:Value)(C:Cs)(K:Ok C)(Q:List (List Nat))(O:hZ C Q)(M:MkQ C Q)(c:Nat)(hc:c<C.ae.length)(hh:hot≤100)(hw:warm≤100)(x:Cw)(X:cn C.ae.length Q x):
  aF aaa 126 [.pointer (some ⟨a,0,none⟩), .int .i64 (c:Int),UX cr] (In (iW a b q hot warm)) [Cl b C,ag q 139 (fj b qb C.ae.length),ag qb 327 (Q.flatMap (dR C)),gu cr q w C.ae.length dv tv C x]
   (λv H=>(wI C Q c hot warm=none∧v= .bool false∧H= [Cl b C,ag q 139 (fj b qb C.ae.length),ag qb 327 (Q.flatMap (dR C)),gu cr q w C.ae.length dv tv C x])∨
    ∃s p A,wI C Q c hot warm=some s∧(ql Q (qi c s)).getLast?=some p∧v= .bool true∧
     H= [Cl b (C.wA A),ag q 139 (fj b qb C.ae.length),ag qb 327 ((mT C Q c s p).flatMap (dR C)),gu cr q w C.ae.length dv tv C (x.left Q p)]∧M7 C C.ae.length p A (mT C Q c s p) (x.left Q p)):=by
 refine af func126 rfl ntmps126 rfl ?_
 rintro F s9
 have hl:=s9
 unfold iW JQ at hl
 refine br ?_
 refine zl T.Yx (NT) .nil (λ_ _ _=>trivial) ?_
 refine bq ?_
 refine Lo (ι:=Nat) [14,15,8,16,17,18,19,20,21,23,24,25,26,27,28,29,30,22,31,32,9,10,33,34,6,11,35,36,37,38,39,40,41,42,43,44,45,46,47,48,49,50,51,52,53,13] (λj=>j≤3∧∀i,i<j→Q4 C Q c hot warm i=false) (λj=> [(13, .int .i64 (j:Int))]) (λj=> [Cl b C,ag q 139 (fj b qb C.ae.length),ag qb 327 (Q.flatMap (dR C)),gu cr q w C.ae.length dv tv C x]) (λj=>3-j) (0) ⟨aay 3,λi h=>absurd h (Nat.not_lt_zero _)⟩ ?_
 rintro j hI
 obtain⟨hj3,oN⟩:=hI
 by_cases hj:j<3
 ·have hru:=Xx j hj
  obtain⟨j5,acd⟩:=R9 a q b qb hot warm C K Q O M c hc hh hw j hj
  refine bq ?_
  refine aw ?_
  refine fB ?_
  refine br ?_
  refine Li (Iag Zy ZE) ?_
  refine Lp (oA T.K9 λb1=> ?_)
  refine dh ?_
  refine Lp (oCV j5 rfl rfl rfl acd .nil (λ_ le aq=>⟨aq.nth 1 rfl,In.mono s9 le,aq.nth 2 rfl,aq.nth 3 rfl,trivial⟩) λv H' hr=> ?_)
  obtain⟨rfl,rfl⟩:=hr
  refine bd ?_
  refine bf ?_
  refine ax rfl ?_ ?_
  ·intro CH
   replace CH:=aL CH
   refine bL ?_
   refine aG ?_
   refine Ro (j+1) (⟨hj,λi hi=>(by by_cases e:i=j;exact e▸CH;exact oN i (by omega))⟩) ((by omega))
  intro CH
  replace CH:=aL CH
  have hds:=PQ hj oN CH
  obtain⟨hs,p,w8⟩:=PO hds
  have wS:=ads w8
  have P:gv C (some p):=O.J7 (i:=qi c (j+1)) λy hy=>by cases hy;exact wS
  have L:=(P p rfl).1
  have qT:(ql Q (qi c (j+1)))[(ql Q (qi c (j+1))).length-1]?=some p:=by rw[←adW];exact w8
  have fx:C.cl p=c:=by
   have h:=O.st _ p wS
   have h3:=h.2.2
   unfold qi at h3
   omega
  have VW:=M _ p wS
  have tl:=vd q b qb C K Q O c (j+1) hc hs
  rw[w8,bY]at tl
  refine bf ?_
  refine aw ?_
  refine ik 12 T.mix (.cons .here .nil) λF1 je bR aM=> ?_
  obtain⟨q1,_⟩:=bR
  have Uv:=In.mono hl je
  refine bL ?_
  refine Tp (oC T.Df rfl rfl (tl) .nil (λ_ le aq=>⟨aq.nth 1 rfl,aq.nth 2 rfl,trivial⟩) ?_)
  rintro v H' ⟨rfl,rfl⟩
  refine bd ?_
  refine aW ?_
  refine gO aM ?_
  refine mI ?_
  refine zl T.Mk (v7 a b q hot warm C K p L (P.kl p rfl) VW) .nil (λ_ le aq=>⟨aq.nth 1 rfl,In.mono s9 le⟩) ?_
  refine aA ?_
  refine dJ (ι:=Nat) [11] (λt=>t=toQ C.A p) (λt=> [(11, .int .i64 (t:Int))]) (λt=> [Cl b C,ag q 139 (fj b qb C.ae.length),ag qb 327 (Q.flatMap (dR C)),gu cr q w C.ae.length dv tv C x]) ?_ ?_
  ·refine ax rfl ?_ ?_
   ·intro QX
    replace QX:=aL QX
    refine bf ?_
    refine aG ?_
    refine Me (2) ((by unfold toQ;rw[if_pos QX]))
   intro QX
   replace QX:=aL QX
   refine aA ?_
   refine Me (3) ((by unfold toQ;rw[if_neg (by rw[QX];decide)]))
  rintro t ht
  have ht3:1≤t∧t≤3:=by rw[ht];unfold toQ;split<;>omega
  have hlen1:(ql Q (qi c (j+1))).length-1<(ql Q (qi c (j+1))).length:=by have:=List.length_pos_of_mem wS;omega
  have JU:=mz O hc hs
  have zP:=mz O hc ht3
  have X2:=Td X O.nd (j:=qi c t) JU zP qT
  have lf:=Bv cr q w C.ae.length b qb dv tv C K Q O x X p L
  have sh:=HD q b qb C K Q O (qi c (j+1)) ((ql Q (qi c (j+1))).length-1) p t ht3 qT
  rw[fx]at sh
  have hsq:mT C Q c (j+1) p=tX Q (qi c (j+1)) ((ql Q (qi c (j+1))).length-1) (qi c t) p:=by unfold mT;rw[ht]
  generalize Uq:x.left Q p=x2 at*
  generalize tX Q (qi c (j+1)) ((ql Q (qi c (j+1))).length-1) (qi c t) p=Q2 at*
  refine bq ?_
  refine Li (Fnn Db) ?_
  refine br ?_
  refine Lp (oCV T.Vk rfl rfl rfl lf (.cons (.there (.there (.there .here))) .nil) (λ_ le aq=>⟨aq.nth 0 rfl,aq.nth 1 rfl,aq.nth 2 rfl,trivial⟩) λv H' hr=> ?_)
  obtain⟨rfl,rfl⟩:=hr
  refine bd ?_
  refine dh ?_
  refine Lp (oC T.Yw rfl rfl (sh) (.cons (.there .here) (.cons (.there .here) (.cons (.there .here) .nil))) (λ_ _ _=>trivial) ?_)
  rintro v H' ⟨rfl,A,rfl,E⟩
  refine bd ?_
  have P2:gv (C.wA A) (some p):=sg K E.d P (λ_ _ _ s=>s.p7)
  have hmA:cM A p=cM C.A p:=y6 K E.d L (by unfold SQ;omega)
  refine aW ?_
  refine zl T.De (vp a b q hot warm (C.wA A) (K.wA A) p (P2 p rfl).1 (P2.kl p rfl) (by rw[cg,hmA];exact VW) false) (.cons .here .nil) (λ_ le aq=>In.mono s9 le) ?_
  refine bA ?_
  refine Rt [Cl b (C.wA (sN A p false)),ag q 139 (fj b qb C.ae.length),ag qb 327 (Q2.flatMap (dR C)),gu cr q w C.ae.length dv tv C x2] results126 ?_
  refine .inr ⟨j+1,p,sN A p false,hds,w8,rfl,(by rw[hsq,Uq]), ?_, ?_, ?_, ?_⟩
  ·rw[hsq];exact UO (K.wA A) E.o (P2 p rfl).1 false
  ·exact(E.d.mono λq o s=>by unfold SQ at s;unfold SL;omega).trans ((Rg (K.wA A) A (P2 p rfl).1 false).wA.mono λq o s=>by unfold SM at s;unfold SL;omega)
  ·rw[ER K A L L,if_pos rfl,hmA]
   have:=jP VW false
   omega
  rw[hsq,Uq];exact X2
 refine iu ?_
 refine bf ?_
 refine aw ?_
 refine dm ?_
 refine dg ?_
 obtain rfl:j=3:=by omega
 refine Rt [Cl b C,ag q 139 (fj b qb C.ae.length),ag qb 327 (Q.flatMap (dR C)),gu cr q w C.ae.length dv tv C x] results126 ?_
 exact .inl ⟨PR oN,rfl,rfl⟩
end Go.Proofs.YtdolmecackmjdaaGreatDoor
namespace Go.Proofs.YtdolmecackmjdaaGreatDoor
open Go Go.cV Go.Proofs.YtdolmecackmjdaaGreatDoor.Cs
structure kZ where
 Q:List (List Nat)
 ac:Nat→Bool
 x:Cw
def KX (s:kZ)(c:Nat):Bool:=match(ql s.Q (qi c 3)).getLast? with
 |none=>false
 |some p=>s.ac p
def CM (s:kZ)(c hot warm:Nat):Option Nat:=if mB s.Q c 1 hot then some 1 else if mB s.Q c 2 warm then some 2 else if KX s c then some 3 else none
def oo (c hot warm:Nat)(s:kZ):Option kZ:=match CM s c hot warm with
 |none=>none
 |some k=>match(ql s.Q (qi c k)).getLast? with
  |none=>none
  |some p=>some ⟨tX s.Q (qi c k) ((ql s.Q (qi c k)).length-1) (qi c (if s.ac p then 2 else 3)) p,λy=>if y=p then false else s.ac y,s.x.left s.Q p⟩
def jD (c hot warm:Nat):Nat→kZ→Nat×kZ
 |0,s=>(0,s)
 |k+1,s=>match oo c hot warm s with
  |none=>(0,s)
  |some t=>((jD c hot warm k t).1+1,(jD c hot warm k t).2)
def SB (_q o:Nat):Prop:=4≤o∧o<12∨o=45∨o=46
structure BaI (C:Cs)(A:By)(s:kZ):Prop where
 o:hZ (C.wA A) s.Q
 x:cn C.ae.length s.Q s.x
 mq:MkQ (C.wA A) s.Q
 ac:∀i,∀p∈ql s.Q i,GM A p=s.ac p
structure G3 (C:Cs)(Q:List (List Nat))(A:By)(s:kZ):Prop where
 i:BaI C A s
 d:cI C C.A A SB
 mr:∀y,Live C y→cM A y/2=cM C.A y/2
 mem:∀p,(∃i,p∈ql s.Q i)↔∃i,p∈ql Q i
theorem Oi{Q:List (List Nat)}{i j k p q m:Nat}(hi:i<Q.length)(hj:j<Q.length)(h:q∈ql (tX Q i k j p) m):q=p∨q∈ql Q m:=by
 have back:∀u,q∈ql (Q.set i ((ql Q i).eraseIdx k)) u→q∈ql Q u:=λu hu=>by
  rw[eZ hi]at hu
  split at hu
  ·next e=>rw[e];exact List.mem_of_mem_eraseIdx hu
  exact hu
 unfold tX at h
 rw[eZ (by rw[aaj];exact hj)]at h
 split at h
 ·next e=>
  rcases List.mem_cons.1 h with g|g
  ·exact .inl g
  exact .inr (by rw[e];exact back _ g)
 exact .inr (back m h)
theorem XP{Q:List (List Nat)}{i j k p:Nat}(hi:i<Q.length)(hj:j<Q.length):p∈ql (tX Q i k j p) j:=by
 unfold tX
 rw[eZ (by rw[aaj];exact hj),if_pos rfl]
 exact aai
theorem ZF{A B:By}{x:Nat}(h:cM B x=cM A x):GM B x=GM A x:=by unfold GM;rw[h]
theorem T5{C:Cs}{A:By}{s:kZ}(I:BaI C A s)(c hot warm:Nat):wI (C.wA A) s.Q c hot warm=CM s c hot warm:=by
 have:uE (C.wA A) s.Q c=KX s c:=by
  unfold uE KX
  cases e:(ql s.Q (qi c 3)).getLast? with
  |none=>rfl
  |some p=>exact I.ac _ p (ads e)
 unfold wI CM
 rw[this]
theorem G3.step{C:Cs}(K:Ok C){Q:List (List Nat)}{A B:By}{s:kZ}(O:G3 C Q A s){c hot warm k p:Nat}(hc:c<C.ae.length)(hd:CM s c hot warm=some k)(hk:1≤k∧k≤3)(hl:(ql s.Q (qi c k)).getLast?=some p)
  (T:M7 (C.wA A) C.ae.length p B (mT (C.wA A) s.Q c k p) (s.x.left s.Q p)):
  ∃t,oo c hot warm s=some t∧t.Q=mT (C.wA A) s.Q c k p∧t.x=s.x.left s.Q p∧G3 C Q B t:=by
 have wS:=ads hl
 have QX:GM A p=s.ac p:=O.i.ac _ p wS
 have hQ:tX s.Q (qi c k) ((ql s.Q (qi c k)).length-1) (qi c (if s.ac p then 2 else 3)) p=mT (C.wA A) s.Q c k p:=by
  unfold mT toQ
  rw[cg,QX]
 have L:Live C p:=by
  have:=O.i.o.lv _ p wS
  exact⟨⟨this.i,this.own,this.al,this.k⟩,this.tk⟩
 have JU:qi c k<s.Q.length:=mz O.i.o hc hk
 have zP:qi c (toQ A p)<s.Q.length:=mz O.i.o hc (by unfold toQ;split<;>omega)
 have tY:∀y,Live C y→y≠p→cM B y=cM A y:=λy hy ne=>y6 (K.wA A) T.d (hy.wA A) (by unfold SL;omega)
 have lvS:∀i,∀y∈ql (mT (C.wA A) s.Q c k p) i,Live C y:=λi y hy=>by
  have:=T.o.lv i y hy
  exact⟨⟨this.i,this.own,this.al,this.k⟩,this.tk⟩
 have hpB:=T.mr
 have aa5:=O.i.mq _ p wS
 rw[cg]at hpB aa5
 have si:∀i,∀y∈ql (mT (C.wA A) s.Q c k p) i,y=p∨y∈ql s.Q i:=λi y hy=>Oi JU zP hy
 refine⟨⟨mT (C.wA A) s.Q c k p,λy=>if y=p then false else s.ac y,s.x.left s.Q p⟩, ?_,rfl,rfl,⟨⟨T.o,T.x,λi y hy=> ?_,λi y hy=> ?_⟩, ?_,λy hy=> ?_,λy=> ?_⟩⟩
 ·unfold oo
  rw[hd]
  dsimp only
  rw[hl]
  dsimp only
  rw[hQ]
 ·show cM B y<16
  by_cases e:y=p
  ·rw[e,hpB];exact jP aa5 false
  rw[tY y (lvS i y hy) e]
  rcases si i y hy with g|g
  ·exact absurd g e
  exact O.i.mq i y g
 ·show GM B y=if y=p then false else s.ac y
  by_cases e:y=p
  ·rw[if_pos e,e]
   unfold GM
   rw[hpB]
   unfold mkSet
   exact decide_eq_false (by simp)
  rw[if_neg e,ZF (tY y (lvS i y hy) e)]
  rcases si i y hy with g|g
  ·exact absurd g e
  exact O.i.ac i y g
 ·exact O.d.trans (T.d.wA.mono λq o g=>by unfold SL at g;unfold SB;omega)
 ·by_cases e:y=p
  ·rw[e,hpB,←O.mr p L]
   unfold mkSet
   simp
  rw[tY y hy e,O.mr y hy]
 rw[←O.mem y]
 constructor
 ·rintro⟨i,hy⟩
  rcases si i y hy with g|g
  ·exact⟨_,by rw[g];exact wS⟩
  exact⟨i,g⟩
 rintro⟨i,hy⟩
 by_cases e:y=p
 ·exact⟨qi c (toQ A p),by rw[e];exact XP JU zP⟩
 exact⟨i,FK JU zP e hy (by rw[←adW];exact hl)⟩
theorem BO (a q b qb hot warm cr w:Nat)(dv tv:Value)(C:Cs)(K:Ok C)(s0:kZ)(I:BaI C C.A s0)(c:Nat)(hc:c<C.ae.length)(hh:hot≤100)(hw:warm≤100)(gR:Nat)(hl:gR≤1048576):
  aF aaa 81 [.pointer (some ⟨a,0,none⟩), .int .i64 (c:Int), .int .i64 (gR:Int),UX cr] (In (iW a b q hot warm)) [Cl b C,ag q 139 (fj b qb C.ae.length),ag qb 327 (s0.Q.flatMap (dR C)),gu cr q w C.ae.length dv tv C s0.x]
   (λv H=>∃n A t,jD c hot warm gR s0=(n,t)∧v= .int .i64 (n:Int)∧
     H= [Cl b (C.wA A),ag q 139 (fj b qb C.ae.length),ag qb 327 (t.Q.flatMap (dR C)),gu cr q w C.ae.length dv tv C t.x]∧G3 C s0.Q A t):=by
 refine af func81 rfl ntmps81 rfl ?_
 rintro F s9
 refine dh ?_
 refine Lo (ι:=Nat×By×kZ) [10,11,12,13,14,15,16,17,18,19,20,9] (λs=>G3 C s0.Q s.2.1 s.2.2∧s.1≤gR∧jD c hot warm gR s0=(s.1+(jD c hot warm (gR-s.1) s.2.2).1,(jD c hot warm (gR-s.1) s.2.2).2)) (λs=> [(9, .int .i64 (s.1:Int))]) (λs=> [Cl b (C.wA s.2.1),ag q 139 (fj b qb C.ae.length),ag qb 327 (s.2.2.Q.flatMap (dR C)),gu cr q w C.ae.length dv tv C s.2.2.x]) (λs=>gR-s.1) ((0,C.A,s0)) ⟨⟨I,cI.refl _ _ _,λy _=>rfl,λp=>Iff.rfl⟩,aay _,by simp⟩ ?_
 rintro⟨n,A,t⟩ hI
 dsimp only at hI⊢
 obtain⟨B,hn,hb⟩:=hI
 by_cases cB:n<gR
 ·have st:=OE a q b qb hot warm cr w dv tv (C.wA A) (K.wA A) t.Q B.i.o B.i.mq c hc hh hw t.x B.i.x
  rw[T5 B.i]at st
  refine bD ?_
  refine zt 13 ?_
  refine bq ?_
  refine Lp (oC T.YT rfl rfl (st) (.cons .here (.cons .here (.cons .here (.cons .here .nil)))) (λ_ le aq=>In.mono s9 le) ?_)
  rintro v H' hr
  refine bd ?_
  rcases hr with⟨hd,rfl,rfl⟩|⟨k,p,A2,hd,w8,rfl,rfl,T⟩
  ·refine Li Pt ?_
   refine eC ?_
   refine Rt [Cl b (C.wA A),ag q 139 (fj b qb C.ae.length),ag qb 327 (t.Q.flatMap (dR C)),gu cr q w C.ae.length dv tv C t.x] results81 ?_
   have hz:jD c hot warm (gR-n) t=(0,t):=by
    obtain⟨m,hm⟩:∃m,gR-n=m+1:=⟨gR-n-1,by omega⟩
    rw[hm]
    unfold jD
    have:oo c hot warm t=none:=by unfold oo;rw[hd]
    rw[this]
   exact⟨n,A,t,by rw[hb,hz];rfl,rfl,rfl,B⟩
  have hk:1≤k∧k≤3:=by
   unfold CM at hd
   split at hd
   ·cases hd;omega
   split at hd
   ·cases hd;omega
   split at hd
   ·cases hd;omega
   cases hd
  obtain⟨u,u1,u2,u3,U⟩:=B.step K hc hd hk w8 T
  have acf:jD c hot warm gR s0=(n+1+(jD c hot warm (gR-(n+1)) u).1,(jD c hot warm (gR-(n+1)) u).2):=by
   obtain⟨m,hm⟩:∃m,gR-n=m+1:=⟨gR-n-1,by omega⟩
   have e:gR-(n+1)=m:=by omega
   have e2:jD c hot warm (m+1) t=((jD c hot warm m u).1+1,(jD c hot warm m u).2):=by
    show(match oo c hot warm t with|none=>_|some v=>_)=_
    rw[u1]
   rw[hb,hm,e,e2]
   exact Prod.ext (by dsimp only;omega) rfl
  rw[←u2,←u3]
  refine eC ?_
  refine Ro ((n+1,A2,u)) (⟨U,cB,acf⟩) ((by dsimp only;omega))
 obtain rfl:n=gR:=by omega
 refine bD ?_
 refine zf 13 ?_
 refine mI ?_
 refine Rt [Cl b (C.wA A),ag q 139 (fj b qb C.ae.length),ag qb 327 (t.Q.flatMap (dR C)),gu cr q w C.ae.length dv tv C t.x] results81 ?_
 exact⟨n,A,t,by rw[hb,Nat.sub_self];rfl,rfl,rfl,B⟩
structure Sy where
 b:Nat
 ck:Nat
 t:Nat
 lu:Nat
 wh:Nat
 cr:Nat
 mo:Nat
 q:Nat
def pV (a:Nat):Value:= .pointer (some ⟨a,0,none⟩)
def jZ (y:Sy)(rest:List Value):List Value:=pV y.b::pV y.ck::pV y.t::pV y.lu::pV y.wh::pV y.cr::pV y.mo::pV y.q::rest
def gr (s:Nat)(y:Sy)(rest:List Value):aa:=ag s 111 (jZ y rest)
def ud (A:By)(p:Nat):Nat:=rd A (p+16) 8
def pS (A:By)(p:Nat):Nat:=rd A (p+32) 8
def GN (A:By)(k:Ck)(p:Nat):Nat:=if 0<ud A p∧ud A p≤k.now then 2 else if pS A p≤k.cut then 3 else 0
theorem xv (s:Nat)(y:Sy)(rest:List Value)(C:Cs)(K:Ok C)(k:Ck)(p:Nat)(P:gv C (some p)):
  aF aaa 87 [.pointer (some ⟨s,0,none⟩), .int .u64 (C.hd p:Int)] (λh=>In (gr s y rest) h∧In (Cl y.b C) h∧In (ki y.ck k) h) []
   (λv H=>v= .int .i64 (GN C.A k p:Int)∧H= []):=by
 have L:=(P p rfl).1
 have I:=(P p rfl).2
 unfold GN ud pS
 refine af func87 rfl ntmps87 rfl ?_
 rintro F ⟨JT,fx,x0⟩
 have hs:=JT
 unfold gr jZ pV at hs
 refine bA ?_
 refine zl T.YQ (Ej y.b C K p L I.k0 I.exp) .nil (λ_ le _=>In.mono fx le) ?_
 refine gP ?_
 refine zl T.o8 (xH y.b C K p L I.k0) .nil (λ_ le _=>In.mono fx le) ?_
 generalize rd C.A (p+16) 8=e at*
 generalize rd C.A (p+32) 8=tk at*
 refine dh ?_
 refine aw ?_
 refine gT true T.mix ?_
 refine bL ?_
 refine Tp (oC T.gI rfl rfl (hJ y.ck k) .nil (λ_ le _=>In.mono x0 le) ?_)
 rintro v H' ⟨rfl,rfl⟩
 refine bd ?_
 refine br ?_
 refine Tp (oC T.YO rfl rfl (PZ y.ck k) .nil (λ_ le _=>In.mono x0 le) ?_)
 rintro v H' ⟨rfl,rfl⟩
 refine bd ?_
 refine Tp (oC T.YP rfl rfl (Ua e tk k.now k.cut) .nil (λ_ _ _=>trivial) ?_)
 rintro v H' ⟨rfl,rfl⟩
 refine bd ?_
 by_cases h1:0<e∧e≤k.now
 ·rw[decide_eq_true (.inl h1),if_pos h1]
  refine Ti Nt ?_
  refine bL ?_
  refine zt 49 ?_
  refine bD ?_
  refine zl T.gI (hJ y.ck k) .nil (λ_ le _=>In.mono x0 le) ?_
  refine aW ?_
  refine fB ?_
  refine bD ?_
  refine Rt [] results87 ?_
  exact⟨rfl,rfl⟩
 rw[if_neg h1]
 by_cases h2:tk≤k.cut
 ·rw[decide_eq_true (.inr h2),if_pos h2]
  refine Ti Nt ?_
  refine bq ?_
  by_cases h3:0<e
  ·refine iu ?_
   refine bq ?_
   refine zt 49 ?_
   refine bD ?_
   refine zl T.gI (hJ y.ck k) .nil (λ_ le _=>In.mono x0 le) ?_
   refine aW ?_
   refine dm ?_
   refine bL ?_
   refine Rt [] results87 ?_
   exact⟨rfl,rfl⟩
  refine iu ?_
  refine bq ?_
  refine zf 49 ?_
  refine CD ?_
  refine Rt [] results87 ?_
  exact⟨rfl,rfl⟩
 rw[decide_eq_false (λg=>g.elim h1 h2),if_neg h2]
 refine Ti Nt ?_
 refine dg ?_
 refine Rt [] results87 ?_
 exact⟨rfl,rfl⟩
theorem NR (s:Nat)(y:Sy)(rest:List Value)(C:Cs)(K:Ok C)(k:Ck)(p:Nat)(P:gv C (some p)):
  aF aaa 40 [.pointer (some ⟨s,0,none⟩), .int .u64 (C.hd p:Int)] (λh=>In (gr s y rest) h∧In (Cl y.b C) h∧In (ki y.ck k) h) []
   (λv H=>v= .bool (decide (GN C.A k p≠0))∧H= []):=by
 refine af func40 rfl ntmps40 rfl ?_
 rintro F ⟨JT,fx,x0⟩
 refine bD ?_
 refine zl T.Vi (xv s y rest C K k p P) .nil (λ_ le _=>⟨In.mono JT le,In.mono fx le,In.mono x0 le⟩) ?_
 refine aW ?_
 refine Rt [] results40 ?_
 refine⟨?_,rfl⟩
 by_cases h:GN C.A k p=0
 ·rw[h];rfl
 rw[decide_eq_true h,decide_eq_false (by omega)];rfl
theorem AG (s:Nat)(y:Sy)(rest:List Value)(C:Cs)(K:Ok C)(p:Nat)(P:gv C (some p))(hk:kl C.A p≤250):
  aF aaa 155 [.pointer (some ⟨s,0,none⟩), .int .u64 (C.hd p:Int)] (λh=>In (gr s y rest) h∧In (Cl y.b C) h) []
   (λv H=>v= .int .i64 ((58+kl C.A p+vl C.A p:Nat):Int)∧H= []):=by
 have L:=(P p rfl).1
 have I:=(P p rfl).2
 have k0:=I.k0
 have hf:=I.fits
 have n1:=L.toAt.aX K
 have p1:=K.p1
 refine af func155 rfl ntmps155 rfl ?_
 rintro F ⟨JT,fx⟩
 have hs:=JT
 unfold gr jZ pV at hs
 refine bA ?_
 refine zl T.Mg (sD y.b C K p L I.k0) .nil (λ_ le _=>In.mono fx le) ?_
 refine bI ?_
 refine zl T.Mp (A5 (kl C.A p) (vl C.A p) (by omega) (by omega)) .nil (λ_ _ _=>trivial) ?_
 refine bI ?_
 refine Rt [] results155 ?_
 exact⟨rfl,rfl⟩
structure zI (C D:Cs)(S:Nat→Prop):Prop where
 a:D.A=C.A
 sz:D.ae=C.ae
 lv:∀q,S q→Live C q→Live D q∧D.hd q=C.hd q∧D.cl q=C.cl q
theorem zI.it{C D:Cs}{S:Nat→Prop}(M:zI C D S){q:Nat}(s:S q)(L:Live C q)(I:gC C q):gC D q:=by
 obtain⟨_,_,e⟩:=M.lv q s L
 have hz:D.sz (D.cl q)=C.sz (C.cl q):=by rw[e];unfold Cs.sz;rw[M.sz]
 exact⟨by rw[M.a];exact I.k0,by rw[M.a,hz];exact I.fits,by rw[M.a];exact I.exp,by rw[M.a];exact I.tch⟩
theorem zI.qu{C D:Cs}{S:Nat→Prop}(M:zI C D S){Q:List (List Nat)}(O:hZ C Q)(h:∀i,∀p∈ql Q i,S p):hZ D Q:=
 ⟨by rw[M.sz];exact O.len,λi p hp=>(M.lv p (h i p hp) (O.lv i p hp)).1,λi p hp=>M.it (h i p hp) (O.lv i p hp) (O.it i p hp),λi p hp=>by
  rw[M.a,(M.lv p (h i p hp) (O.lv i p hp)).2.2];exact O.st i p hp,O.nd,λi k hk=>by rw[M.a];exact O.l1 i k hk,λi k hk=>by rw[M.a];exact O.l2 i k hk⟩
theorem zI.tb{C D:Cs}{S:Nat→Prop}(M:zI C D S){W:Tb}(O:cD C W)(h:∀p∈W.all,S p):cD D W:=
 ⟨O.pw,O.po,O.st,O.mp,O.sz,O.J5,O.sm,O.mv,O.n,O.nd,λx=>by rw[M.a];exact O.li x,λp hp=>(M.lv p (h p hp) (O.lv p hp)).1,λp hp=>M.it (h p hp) (O.lv p hp) (O.it p hp),
  λx p hp=>by rw[M.a];exact O.bu x p hp,λp hp q hq e=>O.kd p hp q hq (by rw[M.a]at e;exact e)⟩
theorem zI.ls{C D:Cs}{S:Nat→Prop}(M:zI C D S){Q:List (List Nat)}(O:hZ C Q)(h:∀i,∀p∈ql Q i,S p):Q.flatMap (dR D)=Q.flatMap (dR C):=by
 have one:∀l,(∀p∈l,S p∧Live C p)→dR D l=dR C l:=λl hl=>by
  have ho:∀o:Option Nat,(∀p,o=some p→p∈l)→hO D o=hO C o:=λo hp=>by
   cases o with
   |none=>rfl
   |some p=>
    have:=hl p (hp p rfl)
    rw[bY,bY,(M.lv p this.1 this.2).2.1]
  have h1:=ho l.head? (λp e=>List.mem_of_mem_head? e)
  have h2:=ho l.getLast? (λp e=>ads e)
  show [Value.int .u64 (hO D l.head?:Int),Value.int .u64 (hO D l.getLast?:Int),Value.int .i64 (l.length:Int)]= [Value.int .u64 (hO C l.head?:Int),Value.int .u64 (hO C l.getLast?:Int),Value.int .i64 (l.length:Int)]
  generalize hO D l.head?=x1 at*
  generalize hO D l.getLast?=x2 at*
  subst h1
  subst h2
  rfl
 have:∀(R:List (List Nat)),(∀l∈R,∀p∈l,S p∧Live C p)→R.flatMap (dR D)=R.flatMap (dR C):=λR hR=>by
  induction R with
  |nil=>rw[afr,afr]
  |cons l R ih=>rw[adA,adA,one l (hR l aai),ih λm hm=>hR m (aag _ hm)]
 refine this Q λl hl p hp=> ?_
 obtain⟨i,hi,e⟩:=aaz hl
 have e2:ql Q i=l:=by unfold ql;rw[aab,List.getElem?_eq_getElem hi,e];rfl
 rw[←e2]at hp
 exact⟨h i p hp,O.lv i p hp⟩
theorem zI.cw{C D:Cs}{S:Nat→Prop}(M:zI C D S){Q:List (List Nat)}(O:hZ C Q)(h:∀i,∀p∈ql Q i,S p){n:Nat}{x:Cw}(X:cn n Q x)(q w m:Nat)(dv tv:Value):ue q w m dv tv D x=ue q w m dv tv C x:=by
 have:hO D x.nx=hO C x.nx:=by
  cases e:x.nx with
  |none=>rfl
  |some p=>
   have hp:=(X.nx p e).1
   rw[bY,bY,(M.lv p (h _ p hp) (O.lv _ p hp)).2.1]
 unfold ue
 rw[this]
theorem lr{C:Cs}(K:Ok C){p:Nat}(L:Live C p):zI C (C.bb p) (λq=>q≠p):=by
 obtain⟨K2,S⟩:=gq K L
 have hpl:C.pn p<C.bZ.length:=by rw[K.pl];exact L.i
 have iD:=λj=>kI (C:=C) (c:=C.cl p) (sp:=C.spare) (x:={C.pg (C.pn p)with tk:=(C.pg (C.pn p)).tk.set (C.ix p) false,held:=(C.pg (C.pn p)).held-1,aZ:=(C.pg (C.pn p)).aZ.set (C.ix p) ((C.gen p+1) % 4294967296)}) (r:={C.rw (C.cl p)with free:=if(C.pg (C.pn p)).lv=true then(C.rw (C.cl p)).free else(C.rw (C.cl p)).free++ [p],gm:=(C.rw (C.cl p)).gm-1}) (A:=C.A) hpl j
 refine⟨rfl,rfl,λq ne M=> ?_⟩
 have ecl:=S.cl q
 have eix:=S.ix q
 have epn:=S.pn q
 have key:((C.bb p).pg (C.pn q)).tk[C.ix q]?=(C.pg (C.pn q)).tk[C.ix q]?∧((C.bb p).pg (C.pn q)).aZ.getD (C.ix q) 0=(C.pg (C.pn q)).aZ.getD (C.ix q) 0∧((C.bb p).pg (C.pn q)).own=(C.pg (C.pn q)).own∧((C.bb p).pg (C.pn q)).aZ.length=(C.pg (C.pn q)).aZ.length:=by
  have h:=iD (C.pn q)
  change(C.bb p).pg (C.pn q)=_ at h
  rw[h]
  by_cases e:C.pn q=C.pn p
  ·have ie:C.ix p≠C.ix q:=λg=>ne (by
    have h1:=(L.toAt.aX K).2.2.2.2.2.1
    have h2:=(M.toAt.aX K).2.2.2.2.2.1
    have hc:C.cl q=C.cl p:=by unfold Cs.cl;rw[e]
    rw[h1,h2,e,hc,g])
   rw[if_pos e,e]
   refine⟨?_, ?_,rfl,by simp⟩
   ·show((C.pg (C.pn p)).tk.set (C.ix p) false)[C.ix q]?=_
    rw[aaF ie]
   show((C.pg (C.pn p)).aZ.set (C.ix p) _).getD (C.ix q) 0=_
   rw[aab,aab,aaF ie]
  rw[if_neg e];exact⟨rfl,rfl,rfl,rfl⟩
 obtain⟨k1,k2,k3,k4⟩:=key
 have e1:(C.bb p).pg ((C.bb p).pn q)=(C.bb p).pg (C.pn q):=by rw[epn]
 refine⟨⟨⟨by rw[epn];exact M.i,by rw[e1,k3];exact M.own, ?_,by rw[eix,e1,k4];exact M.k⟩,by rw[eix,e1,k1];exact M.tk⟩, ?_,ecl⟩
 ·rw[ecl,S.sz];exact M.al
 unfold Cs.hd Cs.gen
 rw[eix,e1,k2]
structure Sv where
 c:oU
 p:sQ
 aO:Nat
 fI:Nat
 mt:Mt
 wa:Option Addr
 wn:Nat
 wc:Nat
def iZ (z:Int):Value:= .int .i64 z
def gd (v:Sv):List Value:= [iZ v.c.ao,iZ v.c.cP,iZ v.c.gA,iZ v.c.dE,iZ v.c.lim,iZ v.c.hot,iZ v.c.warm,iZ v.p.b,iZ v.p.l,iZ v.p.c,iZ v.p.m, .int .u64 (v.aO:Int), .int .i64 (v.fI:Int),iZ v.mt.dr,iZ v.mt.re,iZ v.mt.bu,iZ v.mt.li,iZ v.mt.lo,iZ v.mt.cr,iZ v.mt.mv, .slice v.wa v.wn v.wc]
theorem y8{n:Nat}{Q:List (List Nat)}{x:Cw}(X:cn n Q x)(nd:∀i,(ql Q i).Nodup){i k p:Nat}(hi:i<Q.length)(hk:(ql Q i)[k]?=some p):cn n (Q.set i ((ql Q i).eraseIdx k)) (x.left Q p):=by
 have L:=X.left p
 refine⟨L.go,L.no,λq hq=> ?_,L.lf⟩
 obtain⟨h1,h2⟩:=L.nx q hq
 have ne:q≠p:=λe=>by
  subst e
  unfold Cw.left at hq
  split at hq
  ·next g=>
   have hp:=(X.nx q g).1
   unfold Cw.pass at hq
   rw[g]at hq
   dsimp only at hq
   split at hq
   ·exact MY (nd _) hp hq
   cases hq
  next g=>exact g hq
 refine⟨?_,h2⟩
 rw[eZ hi]
 split
 ·next e=>
  rw[e]at h1
  rw[aeC]
  obtain⟨v,hv,ev⟩:=aaz h1
  refine⟨v,λg=>ne ?_,aad.2 ⟨hv,ev⟩⟩
  have h1:(ql Q i)[k]?=some q:=by rw[←g];exact aad.2 ⟨hv,ev⟩
  rw[hk]at h1
  exact(Option.some.inj h1).symm
 exact h1
structure VM (C:Cs)(p:Nat)(A:By)(Q:List (List Nat))(x:Cw):Prop where
 k:Ok ((C.wA A).bb p)
 s:zI (C.wA A) ((C.wA A).bb p) (λq=>q≠p)
 o:hZ ((C.wA A).bb p) Q
 d:cI C C.A A (SQ p)
 x:cn C.ae.length Q x
 no:∀i,p∉ql Q i
theorem Fm (s qb hot warm:Nat)(dv tv:Value)(y:Sy)(v:Sv)(C:Cs)(K:Ok C)(Q:List (List Nat))(O:hZ C Q)(x:Cw)(X:cn C.ae.length Q x)(E:List En)(tn i k p:Nat)(hk:(ql Q i)[k]?=some p)(CI:kl C.A p≤250)(hb:58+kl C.A p+vl C.A p≤v.fI)(UB:v.fI<4611686018427387904):
  aF aaa 100 [.pointer (some ⟨s,0,none⟩), .int .u64 (C.hd p:Int)] (In (iW y.lu y.b y.q hot warm)) [Cl y.b C,ag y.q 139 (fj y.b qb C.ae.length),ag qb 327 (Q.flatMap (dR C)),gu y.cr y.q y.wh C.ae.length dv tv C x,Wl y.wh E tn,gr s y (gd v)]
   (λr H=>r= .tuple #[]∧∃A,H= [Cl y.b ((C.wA A).bb p),ag y.q 139 (fj y.b qb C.ae.length),ag qb 327 ((Q.set i ((ql Q i).eraseIdx k)).flatMap (dR ((C.wA A).bb p))),gu y.cr y.q y.wh C.ae.length dv tv ((C.wA A).bb p) (x.left Q p),Wl y.wh (ey E (C.hd p)) tn,gr s y (gd {v with fI:=v.fI-(58+kl C.A p+vl C.A p)})]∧
    VM C p A (Q.set i ((ql Q i).eraseIdx k)) (x.left Q p)):=by
 have hpl:=aaf hk
 have P:gv C (some p):=O.J7 (i:=i) λz hz=>by cases hz;exact hpl
 have L:=(P p rfl).1
 have cB:=(aad.1 hk).1
 have hi:i<Q.length:=by
  have h:=O.st i p hpl
  have:=mz O (L.toAt.aX K).1 ⟨h.1,h.2.1⟩
  rw[←h.2.2]at this
  exact this
 have X2:=y8 X O.nd hi hk
 have lf:=Bv y.cr y.q y.wh C.ae.length y.b qb dv tv C K Q O x X p L
 generalize Uq:x.left Q p=x2 at*
 unfold gr jZ pV gd iZ
 refine af func100 rfl ntmps100 rfl ?_
 rintro F hl
 refine bL ?_
 refine zl T.Vk (lf) (.cons (.there (.there (.there .here))) .nil) (λ_ le aq=>⟨aq.nth 0 rfl,aq.nth 1 rfl,aq.nth 2 rfl,trivial⟩) ?_
 refine dh ?_
 refine Lp (oC T.YJ rfl rfl (HS y.lu y.q y.b qb hot warm C K Q O i k p hk) (.cons (.there .here) (.cons (.there .here) (.cons (.there .here) .nil))) (λ_ le _=>In.mono hl le) ?_)
 rintro v H' ⟨rfl,A,rfl,D⟩
 refine bd ?_
 refine dh ?_
 refine zl T.Dk (Ql y.wh E tn (C.hd p)) (.cons (.there (.there (.there (.there .here)))) .nil) (λ_ _ _=>trivial) ?_
 have P2:gv (C.wA A) (some p):=sg K D.d P (λ_ _ _ s=>s.p7)
 have kp:=pf K D.d L.toAt (P p rfl).2 (λ_ s=>s.p7)
 have sz:=AG s y (gd v) (C.wA A) (K.wA A) p P2 (by rw[cg,kp.kl];exact CI)
 rw[cg,kp.kl,kp.vl]at sz
 have L2:Live (C.wA A) p:=L.wA A
 obtain⟨G1,G2⟩:=gq (K.wA A) L2
 have S:=lr (K.wA A) L2
 have oN:∀j,∀z∈ql (Q.set i ((ql Q i).eraseIdx k)) j,z≠p:=λj z hz e=>D.no j (e▸hz)
 have els:=S.ls D.o oN
 have ecr:=S.cw D.o oN X2 y.q y.wh C.ae.length dv tv
 generalize hz:58+kl C.A p+vl C.A p=z at*
 generalize hQ2:Q.set i ((ql Q i).eraseIdx k)=Q2 at*
 refine aA ?_
 refine aw ?_
 refine ik 8 T.mix (.cons (.there (.there (.there (.there (.there .here))))) (.cons (.there .here) .nil)) λF1 je bR aM=> ?_
 obtain⟨q1,q2,_⟩:=bR
 refine bD ?_
 refine Tp (oC T.My rfl rfl (sz) .nil (λ_ le aq=>⟨In.mono q1 le,In.mono q2 le⟩) ?_)
 rintro v H' ⟨rfl,rfl⟩
 refine bd ?_
 refine aA ?_
 refine gO aM ?_
 refine bI ?_
 refine zl T.Y3 (TJ y.b (C.wA A) (K.wA A) p L2) (.cons (.there .here) .nil) (λ_ _ _=>trivial) ?_
 refine aG ?_
 have e:((v.fI-z:Nat):Int)=(v.fI:Int)-(z:Int):=by omega
 refine jA [Cl y.b ((C.wA A).bb p),ag y.q 139 (fj y.b qb C.ae.length),ag qb 327 (Q2.flatMap (dR (C.wA A))),ag y.cr 177 (ue y.q y.wh C.ae.length dv tv (C.wA A) x2),Wl y.wh (ey E (C.hd p)) tn,ag s 111 (jZ y [iZ v.c.ao,iZ v.c.cP,iZ v.c.gA,iZ v.c.dE,iZ v.c.lim,iZ v.c.hot,iZ v.c.warm,iZ v.p.b,iZ v.p.l,iZ v.p.c,iZ v.p.m, .int .u64 (v.aO:Int), .int .i64 ((v.fI:Int)-(z:Int)),iZ v.mt.dr,iZ v.mt.re,iZ v.mt.bu,iZ v.mt.li,iZ v.mt.lo,iZ v.mt.cr,iZ v.mt.mv, .slice v.wa v.wn v.wc])] results100 ?_
 refine⟨rfl,A, ?_,G1,S,S.qu D.o oN,D.d,X2,D.no⟩
 unfold gu
 rw[els,ecr,←e]
 rfl
theorem S04{q o:Nat}{S:List Nat}(h:q∈S∧0≤o∧o<0+4):k7 o∧(o<4∨12≤o)∧o≠45:=by
 unfold k7
 omega
structure abm (C:Cs)(p:Nat)(D:Cs)(V:Tb)(Q:List (List Nat))(x:Cw):Prop where
 k:Ok D
 t:cD D V
 o:hZ D Q
 x:cn C.ae.length Q x
 s:zI (C.wA D.A) D (λq=>q≠p)
 d:cI C C.A D.A (λ_ o=>o<12∨o=45)
 no:∀i,p∉ql Q i
 g:D=(C.bb p).wA D.A
theorem NS (s qb hot warm:Nat)(dv tv:Value)(y:Sy)(v:Sv)(C:Cs)(K:Ok C)(W:Tb)(ty:oa)(TO:cD C W)(hy:ty.ok=none→W.ob= [])(Q:List (List Nat))(O:hZ C Q)(x:Cw)(X:cn C.ae.length Q x)(E:List En)(tn i k p:Nat)(hp:p∈W.all)(hk:(ql Q i)[k]?=some p)(CI:kl C.A p≤250)(hb:58+kl C.A p+vl C.A p≤v.fI)(UB:v.fI<4611686018427387904):
  aF aaa 66 [.pointer (some ⟨s,0,none⟩), .int .u64 (C.hd p:Int)] (In (iW y.lu y.b y.q hot warm)) (Cl y.b C::kR y.t y.b W ty++ [ag y.q 139 (fj y.b qb C.ae.length),ag qb 327 (Q.flatMap (dR C)),gu y.cr y.q y.wh C.ae.length dv tv C x,Wl y.wh E tn,gr s y (gd v)])
   (λr H=>r= .tuple #[]∧∃D V VN,H=Cl y.b D::kR y.t y.b V VN++ [ag y.q 139 (fj y.b qb C.ae.length),ag qb 327 ((Q.set i ((ql Q i).eraseIdx k)).flatMap (dR D)),gu y.cr y.q y.wh C.ae.length dv tv D (x.left Q p),Wl y.wh (ey E (C.hd p)) tn,gr s y (gd {v with fI:=v.fI-(58+kl C.A p+vl C.A p)})]∧
    (VN.ok=none→V.ob= [])∧W.all.Perm (p::V.all)∧abm C p D V (Q.set i ((ql Q i).eraseIdx k)) (x.left Q p)∧∃A,DH C W p A V):=by
 have at_:∀q∈W.all,At C q:=λq hq=>(TO.lv q hq).toAt
 unfold gr jZ pV
 refine af func66 rfl ntmps66 rfl ?_
 rintro F hl
 unfold kR
 refine bL ?_
 refine Lp (oC T.acp rfl rfl (NA y.t y.b C K W ty TO hy p hp) (.cons .here (.cons .here (.cons .here (.cons .here .nil)))) (λ_ _ _=>trivial) ?_)
 rintro v H' ⟨rfl,A,V,VN,rfl,hy',TK⟩
 refine bd ?_
 have hpl:=aaf hk
 have L:=O.lv i p hpl
 have dP:=xd TK.df at_ (λq hq=>by have:=((at_ q hq).aX K).2.1;omega)
 have kp:=pf K dP L.toAt (O.it i p hpl) (λj g=>(S04 g).1)
 have O1:=Ko K O dP (λj q hq u g=>S04 g)
 have off:=Fm s qb hot warm dv tv y v (C.wA A) (K.wA A) Q O1 x X E tn i k p hk (by rw[cg,kp.kl];exact CI) (by rw[cg,kp.kl,kp.vl];exact hb) UB
 rw[cg,kp.kl,kp.vl]at off
 have nd2:=(TK.pm.nodup_iff).2 TO.nd
 have hnV:∀q∈V.all,q≠p:=λq hq e=>(List.nodup_cons.1 nd2).1 (e▸hq)
 refine aW ?_
 refine Lp (oC T.MG rfl rfl (off) (.cons .here (.cons (.there (.there (.there .here))) (.cons (.there (.there (.there .here))) (.cons (.there (.there (.there .here))) (.cons (.there (.there (.there .here))) (.cons (.there (.there (.there .here))) .nil)))))) (λ_ le _=>In.mono hl le) ?_)
 rintro v H' ⟨rfl,B,rfl,OF⟩
 refine bd ?_
 have T2:=GO (K.wA A) TK.o OF.d (λq _ j g=>⟨g.p7,by unfold SQ at g;omega⟩)
 have T3:=OF.s.tb T2 hnV
 refine aG ?_
 refine jA [Cl y.b (((C.wA A).wA B).bb p),ag y.t 145 (eT y.b V VN),ag VN.nk 163 (aC (au V.nb)),jd VN.ok 163 (aC (au V.ob)),ag y.q 139 (fj y.b qb C.ae.length),ag qb 327 ((Q.set i ((ql Q i).eraseIdx k)).flatMap (dR (((C.wA A).wA B).bb p))),gu y.cr y.q y.wh C.ae.length dv tv (((C.wA A).wA B).bb p) (x.left Q p),Wl y.wh (ey E (C.hd p)) tn,gr s y (gd {v with fI:=v.fI-(58+kl C.A p+vl C.A p)})] results66 ?_
 refine⟨rfl,((C.wA A).wA B).bb p,V,VN,rfl,hy',TK.pm.symm,⟨OF.k,T3,OF.o,OF.x,OF.s, ?_,OF.no,rfl⟩,A,TK⟩
 exact(dP.mono λq o g=>by omega).trans (OF.d.wA.mono λq o g=>by unfold SQ at g;omega)
theorem Ue:∀m:Nat,m<16→fX .or .i64 (m:Int) 8=some ((m % 8+8:Nat):Int):=by decide+kernel
theorem Qa:∀m:Nat,m<16→fX .andNot .i64 (m:Int) 6=some ((m-m/2 % 4*2:Nat):Int):=by decide+kernel
theorem Uf:∀m:Nat,m<16→∀k:Nat,k<4→fX .or .i64 ((m-m/2 % 4*2:Nat):Int) ((k*2:Nat):Int)=some ((m-m/2 % 4*2+k*2:Nat):Int):=by decide+kernel
def Wd (A:By)(p now:Nat):By:=wr (wr (sN A p true) (p+46) 1 (mkSet (cM A p) true % 8+8)) (p+24) 8 now
def LJ (A:By)(p k:Nat):By:=wr A (p+46) 1 (cM A p-cM A p/2 % 4*2+k*2)
theorem Hw (s:Nat)(y:Sy)(rest:List Value)(C:Cs)(K:Ok C)(p k:Nat)(hk4:k<4)(P:gv C (some p))(hm:cM C.A p<16):
  aF aaa 116 [.pointer (some ⟨s,0,none⟩), .int .u64 (C.hd p:Int), .int .i64 ((k*2:Nat):Int)] (In (gr s y rest)) [Cl y.b C]
   (λv H=>v= .tuple #[]∧H= [Cl y.b (C.wA (LJ C.A p k))]):=by
 have L:=(P p rfl).1
 have k0:=P.kl p rfl
 have h6:=Qa _ hm
 have ho:=Uf _ hm k hk4
 unfold LJ
 unfold cM at*
 refine af func116 rfl ntmps116 rfl ?_
 intro F JT
 have hs:=JT
 unfold gr jZ pV at hs
 refine bL ?_
 refine zl T.yG (nT y.b C K p L k0) .nil (λ_ le aq=>aq.1) ?_
 generalize rd C.A (p+46) 1=m at*
 refine oc ?_
 refine ay (t:=25) (v':=(.int .i64 ((m-m/2 % 4*2:Nat):Int))) rfl (by exact congrArg (λx=>Value.int .i64 (x.getD 0)) h6) ?_
 refine bf ?_
 refine ay (t:=27) (v':=(.int .i64 ((m-m/2 % 4*2+k*2:Nat):Int))) rfl (by exact congrArg (λx=>Value.int .i64 (x.getD 0)) ho) ?_
 refine zl T.yF (js y.b C K p (m-m/2 % 4*2+k*2) (by omega) L k0) (.cons .here .nil) (λ_ _ _=>trivial) ?_
 refine aG ?_
 refine jA [Cl y.b (C.wA (wr C.A (p+46) 1 (m-m/2 % 4*2+k*2)))] results116 ?_
 exact⟨rfl,rfl⟩
theorem R6 (s hot warm:Nat)(y:Sy)(rest:List Value)(C:Cs)(K:Ok C)(k:Ck)(CK:p9 k)(p:Nat)(P:gv C (some p))(hm:cM C.A p<16)(iU:1≤ij C.A p∧ij C.A p≤3):
  aF aaa 110 [.pointer (some ⟨s,0,none⟩), .int .u64 (C.hd p:Int)] (λh=>In (gr s y rest) h∧In (iW y.lu y.b y.q hot warm) h∧In (ki y.ck k) h) [Cl y.b C]
   (λv H=>v= .tuple #[]∧H= [Cl y.b (C.wA (Wd C.A p k.now))]):=by
 have L:=(P p rfl).1
 have k0:=P.kl p rfl
 have hn:=CK.n2
 have hm2:=jP hm true
 have h8:=Ue _ hm2
 have d1:=Rg K C.A L true
 have P1:gv (C.wA (sN C.A p true)) (some p):=sg K d1 P (λ_ _ _ g=>g.p7)
 have tY:cM (sN C.A p true) p=mkSet (cM C.A p) true:=by
  rw[ER K C.A L L,if_pos rfl];omega
 have P2:gv (C.wA (wr (sN C.A p true) (p+46) 1 (mkSet (cM C.A p) true % 8+8))) (some p):=by
  have w:cI (C.wA (sN C.A p true)) (sN C.A p true) (wr (sN C.A p true) (p+46) 1 (mkSet (cM C.A p) true % 8+8)) (SM p):=uh _ (P1 p rfl).1.toAt (by have:=(L.toAt.aX K).2.1;show 46+1≤C.sz (C.cl p);omega) λj h1 h2=>⟨by omega,rfl⟩
  exact sg (K.wA _) w P1 (λ_ _ _ g=>g.p7)
 have im:=nT y.b (C.wA (sN C.A p true)) (K.wA _) p (P1 p rfl).1 (P1.kl p rfl)
 change aF _ _ _ _ _ (λv H=>v= .tuple #[.int .i64 ((cM (sN C.A p true) p:Nat):Int), .int .i64 0]∧H= [])at im
 rw[tY]at im
 unfold Wd
 generalize hmm:mkSet (cM C.A p) true=m at*
 refine af func110 rfl ntmps110 rfl ?_
 rintro F ⟨JT,hl,x0⟩
 have hs:=JT
 unfold gr jZ pV at hs
 refine bL ?_
 refine zl T.YC (Tu y.lu y.b y.q hot warm C K p L k0 hm iU) (.cons .here .nil) (λ_ le _=>In.mono hl le) ?_
 refine dh ?_
 refine zl T.yG (im) .nil (λ_ le aq=>aq.1) ?_
 refine oc ?_
 refine ay (t:=30) (v':=(.int .i64 ((m % 8+8:Nat):Int))) rfl (by exact congrArg (λx=>Value.int .i64 (x.getD 0)) h8) ?_
 refine zl T.yF (js y.b (C.wA (sN C.A p true)) (K.wA _) p (m % 8+8) (by omega) (P1 p rfl).1 (P1.kl p rfl)) (.cons .here .nil) (λ_ _ _=>trivial) ?_
 refine aA ?_
 refine gT true T.mix ?_
 refine bI ?_
 refine Tp (oC T.gI rfl rfl (hJ y.ck k) .nil (λ_ le _=>In.mono x0 le) ?_)
 rintro v H' ⟨rfl,rfl⟩
 refine bd ?_
 refine Tp (oC T.YB rfl rfl (wk y.b (C.wA (wr (sN C.A p true) (p+46) 1 (m % 8+8))) (K.wA _) p k.now (by omega) (P2 p rfl).1 (P2.kl p rfl)) (.cons .here .nil) (λ_ _ _=>trivial) ?_)
 rintro v H' ⟨rfl,rfl⟩
 refine bd ?_
 refine Tn ?_
 refine jA [Cl y.b (C.wA (wr (wr (sN C.A p true) (p+46) 1 (m % 8+8)) (p+24) 8 k.now))] results110 ?_
 exact⟨rfl,rfl⟩
def eU (now:Nat)(t:Int):Nat:=(GS now t).toNat
theorem Bf (now:Nat)(t:Int):GS now t=(eU now t:Int):=by
 unfold eU GS
 split
 ·rfl
 split
 ·omega
 ·split<;>omega
theorem zi (now:Nat)(t:Int)(h:now≤1099511627776)(ht:t<9223372036854775808):eU now t<9223372036854775808:=by
 unfold eU GS
 split
 ·decide
 split
 ·omega
 ·split<;>omega
theorem Hv (s:Nat)(y:Sy)(rest:List Value)(C:Cs)(K:Ok C)(k:Ck)(CK:p9 k)(p:Nat)(P:gv C (some p))(E:List En)(tn:Nat)(t:Int)(ht:t<9223372036854775808)(rZ:tn<18446744073709551615)(hE:E.length<2147483647):
  aF aaa 109 [.pointer (some ⟨s,0,none⟩), .int .u64 (C.hd p:Int), .int .i64 t] (λh=>In (gr s y rest) h∧In (ki y.ck k) h) [Cl y.b C,Wl y.wh E tn]
   (λv H=>v= .tuple #[]∧H= [Wl y.wh (jB E (C.hd p) (eU k.now t) tn) (if 0<eU k.now t then tn+1 else tn),Cl y.b (C.wA (wr C.A (p+16) 8 (eU k.now t)))]):=by
 have L:=(P p rfl).1
 have k0:=P.kl p rfl
 have hx:=zi k.now t CK.n2 ht
 have ex:=xT k.now t CK.n1 CK.n2
 rw[Bf]at ex
 generalize eU k.now t=e at*
 refine af func109 rfl ntmps109 rfl ?_
 rintro F ⟨JT,x0⟩
 have hs:=JT
 unfold gr jZ pV at hs
 refine bD ?_
 refine zl T.gI (hJ y.ck k) .nil (λ_ le _=>In.mono x0 le) ?_
 refine aA ?_
 refine zl T.eO (ex) .nil (λ_ _ _=>trivial) ?_
 refine bA ?_
 refine zl T.YD (wP y.b C K p e hx L k0) (.cons .here .nil) (λ_ _ _=>trivial) ?_
 refine dg ?_
 refine zl T.Mr (GC y.wh E tn (C.hd p) e rZ hE) (.cons (.there .here) .nil) (λ_ _ _=>trivial) ?_
 refine aG ?_
 refine jA [Wl y.wh (jB E (C.hd p) e tn) (if 0<e then tn+1 else tn),Cl y.b (C.wA (wr C.A (p+16) 8 e))] results109 ?_
 exact⟨rfl,rfl⟩
structure kf where
 un:List Nat
 st:Nat
 pg:Nat
 fr:Nat
 tt:Nat
 on:Bool
def moC (b ub:Nat)(dv tv sv:Value)(m:kf):List Value:= [.pointer (some ⟨b,0,none⟩),dv,tv,sv, .slice (some ⟨ub,0,none⟩) m.un.length m.un.length, .int .i64 (m.st:Int), .int .i64 (m.pg:Int), .int .i64 (m.fr:Int), .int .i64 (m.tt:Int), .bool m.on]
def mG (a b ub:Nat)(dv tv sv:Value)(m:kf):aa:=ag a 201 (moC b ub dv tv sv m)
def mN (ub:Nat)(m:kf):aa:=ag ub 3 (ba m.un)
def kf.o0 (m:kf)(c:Nat):kf:={m with un:=m.un.set c (m.st+64)}
def kf.jo (m:kf)(c:Nat):Bool:=decide (m.st<m.un.getD c 0)
def kf.off (m:kf):kf:={m with pg:=0,fr:=0,tt:=0,on:=false}
theorem PY (k:Ck)(h1:1≤k.now)(h2:k.now≤1099511627776)(h3:k.iX=0∨k.now<k.iX)(hp:k.iX<9223372036854775808):
  aF aaa 63 [.int .i64 (k.now:Int), .int .u64 (k.cut:Int), .int .i64 (k.iX:Int)] (λ_=>True) []
   (λv H=>∃a,v= .tuple #[.pointer (some ⟨a,0,none⟩), .int .i64 0]∧H= [ki a k]):=by
 unfold ki QK
 refine af func63 rfl ntmps63 rfl ?_
 intro F _
 refine dg ?_
 refine zf 10 ?_
 refine aW ?_
 refine zf 14 ?_
 refine bq ?_
 by_cases h0:k.iX=0
 ·refine zf 17 ?_ (e:=by exact congrArg (!·) (decide_eq_true (by omega)))
  refine fK ?_
  refine Lp (oB λb1=> ?_)
  refine aW ?_
  refine iV [ag b1 174 [.int .i64 (k.now:Int), .int .i64 (k.iX:Int), .int .u64 (k.cut:Int)]] results63 ?_
  exact⟨b1,rfl,rfl⟩
 refine zt 17 ?_ (e:=by exact congrArg (!·) (decide_eq_false (by omega)))
 refine bD ?_
 refine dm ?_
 refine bL ?_
 refine Lp (oB λb2=> ?_)
 refine aW ?_
 refine iV [ag b2 174 [.int .i64 (k.now:Int), .int .i64 (k.iX:Int), .int .u64 (k.cut:Int)]] results63 ?_
 exact⟨b2,rfl,rfl⟩
theorem Tt (b q hot warm:Nat)(h1:1≤hot)(h2:1≤warm)(h3:hot+warm≤90):
  aF aaa 30 [.pointer (some ⟨b,0,none⟩), .pointer (some ⟨q,0,none⟩), .int .i64 (hot:Int), .int .i64 (warm:Int)] (λ_=>True) []
   (λv H=>∃a,v= .tuple #[.pointer (some ⟨a,0,none⟩), .int .i64 0]∧H= [iW a b q hot warm]):=by
 unfold iW JQ
 refine af func30 rfl ntmps30 rfl ?_
 intro F _
 refine dg ?_
 refine zf 12 ?_ (e:=by rfl)
 refine aW ?_
 refine zf 16 ?_ (e:=by rfl)
 refine aW ?_
 refine zf 20 ?_
 refine aW ?_
 refine zf 24 ?_
 refine aW ?_
 refine zf 28 ?_
 refine bD ?_
 refine dm ?_
 refine dh ?_
 refine Lp (oB λb1=> ?_)
 refine aW ?_
 refine iV [ag b1 141 [.pointer (some ⟨b,0,none⟩), .pointer (some ⟨q,0,none⟩), .int .i64 (hot:Int), .int .i64 (warm:Int)]] results30 ?_
 exact⟨b1,rfl,rfl⟩
theorem Fne{P:Program}{n:Nat}{ds:List Deferred}{F:dy}{σ:aR}{o:Oper}{t yt:TypeId}{x y:Operand}{f:Fn}{a c:Array Value}(ht:(P.underlying t).map (λd=>match d with| .func .. =>true|_=>false)=some true)(ho:o.op= .binOp .eql t x y yt:=by exact rfl)(hx:bh σ x=some (.func f a c):=by exact rfl)(hy:bh σ y=some .nilFunc:=by exact rfl):Yv P n ds F σ o (.bool false):=λw0 w en _=>by
 cases hu:P.underlying t with
 |none=>simp[hu]at ht
 |some d=>
  cases d<;>simp[hu]at ht
  have h:∀k:Nat,(Op.equalIn (k+1) t (.func f a c) .nilFunc).run P w= .ok false w:=λk=>by simp[Op.equalIn,run_underlying hu]
  have r:(Go.binOp .eql t (.func f a c) .nilFunc).run P w= .ok (.bool false) w:=by
   simp only[Go.binOp]
   simp[Op.equal,Op.maxDepth,h 9999]
  simp only[execOp,ho,en.eval hx,en.eval hy,Sem.run_bind,eqGuard_at_func,Sem.run_pure,r,Result.andThen_ok]
theorem LX:(aaa.underlying 120).map (λd=>match d with| .func .. =>true|_=>false)=some true:=by kernel_rfl
theorem Gt (q w n:Nat)(h1:1≤n)(h2:n≤62)(f g:Fn)(fa fc ga gc:Array Value)(C:Cs):
  aF aaa 65 [.pointer (some ⟨q,0,none⟩), .pointer (some ⟨w,0,none⟩), .int .i64 (n:Int), .func f fa fc, .func g ga gc] (λ_=>True) []
   (λv H=>∃a,v= .tuple #[.pointer (some ⟨a,0,none⟩), .int .i64 0]∧H= [gu a q w n (.func f fa fc) (.func g ga gc) C ⟨0,false,0,0,none,0⟩]):=by
 unfold gu ue
 refine af func65 rfl ntmps65 rfl ?_
 intro F _
 refine dg ?_
 refine zf 14 ?_ (e:=by rfl)
 refine aW ?_
 refine zf 18 ?_ (e:=by rfl)
 refine aA ?_
 refine Li (Fne LX) ?_
 refine bf ?_
 refine zf 22 ?_ (e:=by rfl)
 refine aA ?_
 refine Li (Fne Db) ?_
 refine bf ?_
 refine zf 26 ?_ (e:=by rfl)
 refine aW ?_
 refine zf 30 ?_
 refine aW ?_
 refine dm ?_
 refine dg ?_
 refine Lp (oB λb1=> ?_)
 refine aW ?_
 refine iV [ag b1 177 [.pointer (some ⟨q,0,none⟩), .pointer (some ⟨w,0,none⟩), .int .i64 (n:Int), .func f fa fc, .func g ga gc, .int .i64 0, .bool false, .int .i64 0, .int .i64 0, .int .u64 0, .int .i64 0]] results65 ?_
 exact⟨b1,rfl,rfl⟩
def Kn (Q:List (List Nat))(c:Nat):List Nat:=(ql Q (qi c 3)).reverse++(ql Q (qi c 2)).reverse++(ql Q (qi c 1)).reverse
def CJ (own:Option Nat)(l:List Nat):List Nat:=l.filter λq=>decide (some q≠own)
def KF (dd act:Nat→Bool)(r:List Nat):Option Nat×Bool×Nat:=match r.findIdx? dd with
 |some i=>(r[i]?,true,i+1)
 |none=>(match r.find? (λq=> !act q)with|some q=>some q|none=>r.head?,false,r.length)
def Af (dd act:Nat→Bool)(own:Option Nat)(looks:Nat)(l:List Nat):Option Nat×Bool×Nat:=KF dd act ((CJ own l).take looks)
def bo (s:Nat):Value:= .func (.func 40) #[.pointer (some ⟨s,0,none⟩)] #[]
end Go.Proofs.YtdolmecackmjdaaGreatDoor
