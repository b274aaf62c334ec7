/- Part Pj1 of the proof. -/
import Derived.Test.YtdolmecackmjdaaGreatDoorPc1
import Derived.Test.YtdolmecackmjdaaGreatDoorPd
import Derived.Test.YtdolmecackmjdaaGreatDoorPi
set_option maxRecDepth 100000
open Nat renaming zero_le → acS
open List renaming mem_eraseIdx_iff_getElem? → ahl, getElem_of_mem → acR, getElem?_eq_some_iff → acz, length_set → acE, mem_cons_of_mem → acC, mem_of_getLast? → adu, getLast?_eq_getElem? → agF, mem_cons_self → acF, flatMap_nil → aid, flatMap_cons → adb, getD_eq_getElem?_getD → acy, getElem?_set_ne → ac5, mem_of_getElem? → acB
open Go.Proofs.Tryz renaming prog → acw
open Go.Proofs.Tryz
namespace Go.Proofs.YtdolmecackmjdaaGreatDoor
open Go Go.dL
structure Ck where
 now:Nat
 dH:Nat
 cut:Nat
structure rJ (k:Ck):Prop where
 n1:1≤k.now
 n2:k.now≤1099511627776
 p:k.dH≤1099511627777
 pn:k.dH≠0→k.now<k.dH
 c:k.cut<18446744073709551616
def TZ (k:Ck):List Value:= [.int .i64 (k.now:Int), .int .i64 (k.dH:Int), .int .u64 (k.cut:Int)]
def lD (a:Nat)(k:Ck):aa:=ag a 174 (TZ k)
def Ck.flush (k:Ck)(t:Int)(aM:Nat):Ck:=if t≤0 then{k with cut:=max k.cut aM,dH:=0}else{k with dH:=k.now+min t.toNat (1099511627777-k.now)}
def Ck.tick (k:Ck)(by_:Nat)(aM:Nat):Ck:=let k2:={k with now:=k.now+by_};if 0<k2.dH∧k2.dH≤k2.now then k2.flush 0 aM else k2
theorem rJ.flush{k:Ck}(h:rJ k)(t:Int){aM:Nat}(hi:aM<18446744073709551616):rJ (k.flush t aM):=by
 obtain⟨h1,h2,h3,h4,h5⟩:=h;unfold Ck.flush
 split
 ·exact⟨h1,h2,acS _,λg=>absurd rfl g,by show max _ _<_;omega⟩
 exact⟨h1,h2,by show k.now+min _ _≤_;omega,λ_=>by show k.now<k.now+min _ _;omega,h5⟩
theorem iS (a:Nat)(k:Ck):aH acw 46 [.pointer (some ⟨a,0,none⟩)] (In (lD a k)) [] (λv H=>v= .int .i64 (k.now:Int)∧H= []):=by
 unfold lD TZ;refine ae func46 rfl ntmps46 rfl ?_;intro F hk;refine bK ?_;refine Rt [] results46 ?_;exact⟨rfl,rfl⟩
theorem S4 (a:Nat)(k:Ck):aH acw 137 [.pointer (some ⟨a,0,none⟩)] (In (lD a k)) [] (λv H=>v= .int .u64 (k.cut:Int)∧H= []):=by
 unfold lD TZ;refine ae func137 rfl ntmps137 rfl ?_;intro F hk;refine bK ?_;refine Rt [] results137 ?_;exact⟨rfl,rfl⟩
theorem x7 (a:Nat)(k:Ck)(h2:k.now≤1099511627776)(t:Int)(aM:Nat)(hi:aM<18446744073709551616)(ht:t<9223372036854775808):
  aH acw 75 [.pointer (some ⟨a,0,none⟩), .int .i64 t, .int .u64 (aM:Int)] (λ_=>True) [lD a k] (λv H=>v= .tuple #[]∧H= [lD a (k.flush t aM)]):=by
 unfold Ck.flush;by_cases ht0:t≤0
 ·rw[if_pos ht0]
  unfold lD TZ;refine ae func75 rfl ntmps75 rfl ?_;intro F _;refine bc ?_;refine dz ?_ (e:=by exact decide_eq_true ht0);refine cI ?_;refine Li Ma ?_;refine cN ?_;refine Rt0 [ag a 174 [.int .i64 (k.now:Int), .int .i64 0, .int .u64 (max (k.cut:Int) (aM:Int))]] results75 ?_;exact⟨rfl,by rw[show max (k.cut:Int) (aM:Int)=((max k.cut aM:Nat):Int) by omega];rfl⟩
 rw[if_neg ht0];unfold lD TZ;refine ae func75 rfl ntmps75 rfl ?_;intro F _;refine bc ?_;refine cu ?_ (e:=by exact decide_eq_false ht0);refine a8 ?_;refine gK 13 T.mix (.cons .here .nil) λF1 iT cj aI=> ?_;obtain⟨q1,_⟩:=cj;refine bK ?_;refine Ti Mi ?_;refine ay ?_;refine gd aI ?_;refine aZ ?_;refine Tn ?_;refine jM [ag a 174 [.int .i64 (k.now:Int), .int .i64 ((k.now:Int)+min t (1099511627777-(k.now:Int))), .int .u64 (k.cut:Int)]] results75 ?_;exact⟨rfl,by rw[show(k.now:Int)+min t (1099511627777-(k.now:Int))=((k.now+min t.toNat (1099511627777-k.now):Nat):Int) by omega]⟩
theorem W4 (ex tok now cut:Nat):aH acw 136 [.int .i64 (ex:Int), .int .u64 (tok:Int), .int .i64 (now:Int), .int .u64 (cut:Int)] (λ_=>True) [] (λv H=>v= .bool (decide (0<ex∧ex≤now∨tok≤cut))∧H= []):=by
 refine ae func136 rfl ntmps136 rfl ?_;intro F _;by_cases h1:0<ex
 ·by_cases h2:ex≤now
  ·refine gU ?_
   refine bB ?_;refine zt 11 ?_;refine bc ?_;refine zt 16 ?_;refine bH ?_;refine Rt [] results136 ?_;exact⟨by rw[decide_eq_true (.inl ⟨h1,h2⟩)],rfl⟩
  refine gU ?_;refine bB ?_;refine zt 11 ?_;refine bc ?_;refine zf 16 ?_;refine bH ?_;refine Rt [] results136 ?_;exact⟨congrArg Value.bool (decide_eq_decide.2 (by omega)),rfl⟩
 refine gU ?_;refine bB ?_;refine zf 11 ?_;refine dQ ?_;refine Rt [] results136 ?_;exact⟨congrArg Value.bool (decide_eq_decide.2 (by omega)),rfl⟩
def EH (now:Nat)(t:Int):Int:=if t=0 then 0 else if t<0 then(now:Int)else if t≤2592000 then(now:Int)+t else t
theorem zK (now:Nat)(t:Int)(h1:1≤now)(h2:now≤1099511627776):aH acw 121 [.int .i64 (now:Int), .int .i64 t] (λ_=>True) [] (λv H=>v= .int .i64 (EH now t)∧H= []):=by
 unfold EH;refine ae func121 rfl ntmps121 rfl ?_;intro F _;refine bc ?_;refine Li Ma ?_;refine Li Mi ?_;refine a8 ?_;refine au ?_;refine ao (t:=0) (v':=(.int .i64 (now:Int))) rfl (by(congr 1<;>omega)) ?_;refine bB ?_;refine av rfl ?_ ?_
 ·intro g0
  replace g0:=aD g0;refine bB ?_;refine Rt [] results121 ?_;exact⟨by rw[if_pos g0],rfl⟩
 intro g0;replace g0:=aD g0;refine bc ?_;refine av rfl ?_ ?_
 ·intro g1
  replace g1:=aD g1;refine bH ?_;refine Rt [] results121 ?_;exact⟨by rw[if_neg g0,if_pos g1],rfl⟩
 intro g1;replace g1:=aD g1;refine bc ?_;refine av rfl ?_ ?_
 ·intro g2
  replace g2:=aD g2;refine cN ?_;refine Rt [] results121 ?_;exact⟨by rw[if_neg g0,if_neg (by omega),if_pos g2],rfl⟩
 intro g2;replace g2:=aD g2;refine cI ?_;refine Rt [] results121 ?_;exact⟨by rw[if_neg g0,if_neg (by omega),if_neg (by omega)],rfl⟩
def Ck.Ew (k:Ck)(n:Int):Int:=if n<1 then 1 else if 1099511627776-(k.now:Int)<n then 4 else 0
def Ck.move (k:Ck)(n:Int)(aM:Nat):Ck:=if k.Ew n=0 then k.tick n.toNat aM else k
theorem rJ.move{k:Ck}(h:rJ k)(n:Int){aM:Nat}(hi:aM<18446744073709551616):rJ (k.move n aM):=by
 unfold Ck.move Ck.Ew;by_cases e1:n<1
 ·rw[if_pos e1,if_neg (by decide)];exact h
 rw[if_neg e1];by_cases e2:1099511627776-(k.now:Int)<n
 ·rw[if_pos e2,if_neg (by decide)];exact h
 rw[if_neg e2,if_pos rfl];obtain⟨h1,h2,h3,h4,h5⟩:=h;unfold Ck.tick;dsimp only
 split
 ·unfold Ck.flush
  rw[if_pos (by decide)];exact⟨by show 1≤k.now+_;omega,by show k.now+_≤_;omega,acS _,λg=>absurd rfl g,by show max k.cut aM<_;omega⟩
 next g=>exact⟨by show 1≤k.now+_;omega,by show k.now+_≤_;omega,h3,λq=>by show k.now+_<k.dH;change k.dH≠0 at q;omega,h5⟩
theorem L8 (a:Nat)(k:Ck)(K:rJ k)(n:Int)(aM:Nat)(hi:aM<18446744073709551616):
  aH acw 44 [.pointer (some ⟨a,0,none⟩), .int .i64 n, .int .u64 (aM:Int)] (λ_=>True) [lD a k] (λv H=>v= .int .i64 (k.Ew n)∧H= [lD a (k.move n aM)]):=by
 have h2:=K.n2;unfold Ck.move Ck.Ew;by_cases e1:n<1
 ·rw[if_pos e1,if_neg (by decide)]
  unfold lD TZ;refine ae func44 rfl ntmps44 rfl ?_;intro F _;refine cI ?_;refine dz ?_ (e:=by exact decide_eq_true e1);refine bc ?_;refine Rt [ag a 174 [.int .i64 (k.now:Int), .int .i64 (k.dH:Int), .int .u64 (k.cut:Int)]] results44 ?_;exact⟨rfl,rfl⟩
 rw[if_neg e1];by_cases e2:1099511627776-(k.now:Int)<n
 ·rw[if_pos e2,if_neg (by decide)]
  unfold lD TZ;refine ae func44 rfl ntmps44 rfl ?_;intro F _;refine cI ?_;refine cu ?_ (e:=by exact decide_eq_false e1);refine dQ ?_;refine dz ?_ (e:=by exact decide_eq_true e2);refine bc ?_;refine Rt [ag a 174 [.int .i64 (k.now:Int), .int .i64 (k.dH:Int), .int .u64 (k.cut:Int)]] results44 ?_;exact⟨rfl,rfl⟩
 rw[if_neg e2,if_pos rfl];obtain⟨m,rfl⟩:∃m:Nat,n=(m:Int):=⟨n.toNat,by omega⟩;have hp:=K.p;have hf:=x7 a {k with now:=k.now+m} (by show k.now+m≤_;omega) 0 aM hi (by decide);unfold Ck.tick;dsimp only;rw[Int.toNat_natCast];unfold lD TZ at hf⊢;refine ae func44 rfl ntmps44 rfl ?_;intro F _;refine cI ?_;refine cu ?_ (e:=by exact decide_eq_false e1);refine dQ ?_;refine cu ?_ (e:=by exact decide_eq_false e2);by_cases g1:0<k.dH
 ·refine Ay ?_
  refine gR ?_;refine au ?_;refine gK 16 T.mix (.cons .here .nil) λF1 iT cj aI=> ?_;obtain⟨q1,_⟩:=cj;refine bB ?_;refine zt 29 ?_;refine bw ?_;refine gd aI ?_;refine ay ?_;by_cases g2:k.dH≤k.now+m
  ·rw[if_pos ⟨g1,g2⟩]
   refine dz ?_;refine aZ ?_;refine zl T.Yk (hf) (.cons .here .nil) (λ_ _ _=>trivial) ?_;refine bc ?_;refine Rt [ag a 174 (TZ (Ck.flush {k with now:=k.now+m} 0 aM))] results44 ?_;exact⟨rfl,rfl⟩
  rw[if_neg (λg=>g2 g.2)];refine cu ?_;refine bB ?_;refine Rt [ag a 174 [.int .i64 ((k.now:Int)+(m:Int)), .int .i64 (k.dH:Int), .int .u64 (k.cut:Int)]] results44 ?_;exact⟨rfl,rfl⟩
 rw[if_neg (λg=>g1 g.1)];refine fF ?_;refine au ?_;refine gK 16 T.mix (.cons .here .nil) λF2 yi ez dX=> ?_;obtain⟨q1,_⟩:=ez;refine bB ?_;refine zf 29 ?_;refine bw ?_;refine gd dX ?_;refine cI ?_;refine Rt [ag a 174 [.int .i64 ((k.now:Int)+(m:Int)), .int .i64 (k.dH:Int), .int .u64 (k.cut:Int)]] results44 ?_;exact⟨rfl,rfl⟩
end Go.Proofs.YtdolmecackmjdaaGreatDoor
namespace Go.Proofs.YtdolmecackmjdaaGreatDoor
open Go Go.dL Go.Proofs.YtdolmecackmjdaaGreatDoor.Cs
section
variable {P:Program} {n:Nat} {ds:List Deferred} {F:ee} {σ:ba} {o:Oper}
theorem Dw{t e sz k:Nat}(ht:BR P t=some (k,e,sz)):P.underlying t=some (.array k e):=by
 unfold BR at ht;cases hu:P.underlying t with
 |none=>simp[hu]at ht
 |some dsc=>
  cases dsc<;>simp[hu]at ht
  rename_i k' e'
  cases hi:P.info? e' with
  |none=>simp[hi]at ht
  |some inf=>
   simp[hi]at ht;obtain⟨rfl,rfl,rfl⟩:=ht;rfl
theorem Iag{t e sz sz' k j:Nat}{x y:Operand}{kd:IntKind}{z:Int}{cs vs:List Value}(ht:BR P t=some (k,e,sz'))(he:db P e=some sz)(ho:o.op= .index t x y:=by exact rfl)(hx:bx σ x=some (.agg cs.toArray):=by exact rfl)(hy:bx σ y=some (.int kd z):=by exact rfl)(hj:z=(j:Int):=by exact rfl)
  (hl:j<k:=by omega) (hv:(cs.drop (j*sz)).take sz=vs:=by first|assumption|exact rfl):Yv P n ds F σ o (.agg vs.toArray):=λa w en fr=>by
 obtain⟨h1,h2⟩:=eV (w:=w) he;subst hj;have e:cs.toArray.extract (j*sz) (j*sz+sz)=vs.toArray:=by
  rw[←hv];simp[List.take_drop]
 simp[execOp,ho,Instr.index,en.eval hx,en.eval hy,asIntOf,run_underlying (Dw ht),hl,part,h1,h2,e];exact hv
theorem Ias{t e sz k j:Nat}{x y:Operand}{kd:IntKind}{z:Int}{cs:List Value}{v:Value}(ht:BR P t=some (k,e,sz))(he:dp P e=true)(ho:o.op= .index t x y:=by exact rfl)(hx:bx σ x=some (.agg cs.toArray):=by exact rfl)(hy:bx σ y=some (.int kd z):=by exact rfl)(hj:z=(j:Int):=by exact rfl)
  (hl:j<k:=by omega) (hv:cs[j]?=some v:=by first|assumption|exact rfl):Yv P n ds F σ o v:=λa w en fr=>by
 obtain⟨h1,h2⟩:=tD (w:=w) he;subst hj;simp[execOp,ho,Instr.index,en.eval hx,en.eval hy,asIntOf,run_underlying (Dw ht),hl,part,h1,h2,hv]
theorem Fnn{t yt:TypeId}{x y:Operand}{f:Fn}{a c:Array Value}(ht:(P.underlying t).map (λd=>match d with| .func .. =>true|_=>false)=some true)(ho:o.op= .binOp .neq t x y yt:=by exact rfl)(hx:bx σ x=some (.func f a c):=by exact rfl)(hy:bx σ y=some .nilFunc:=by exact rfl):Yv P n ds F σ o (.bool true):=λw0 w en _=>by
 cases hu:P.underlying t with
 |none=>simp[hu]at ht
 |some d=>
  cases d<;>simp[hu]at ht;have h:∀k:Nat,(Op.equalIn (k+1) t (.func f a c) .nilFunc).run P w= .ok false w:=λk=>by simp[Op.equalIn,run_underlying hu]
  have r:(Go.binOp .neq t (.func f a c) .nilFunc).run P w= .ok (.bool true) w:=by
   simp only[Go.binOp];simp[Op.equal,Op.maxDepth,h 9999]
  simp only[execOp,ho,en.eval hx,en.eval hy,Sem.run_bind,eqGuard_at_func,Sem.run_pure,r,Result.andThen_ok]
end
theorem E8:(acw.underlying 151).map (λd=>match d with| .func .. =>true|_=>false)=some true:=by kernel_rfl
theorem acn:BR acw 280=some (3,279,2):=by kernel_rfl
theorem acu:db acw 279=some 2:=by kernel_rfl
def yv (C:Cs)(Q:List (List Nat))(c hot warm:Nat):Option Nat:=
 if nU Q c 1 hot then some 1 else if nU Q c 2 warm then some 2 else if wz C Q c then some 3 else none
theorem SN{C:Cs}{Q:List (List Nat)}{c hot warm s:Nat}(h:yv C Q c hot warm=some s):(1≤s∧s≤3)∧∃p,(ql Q (qi c s)).getLast?=some p:=by
 have ne:∀l:List Nat,0<l.length→∃p,l.getLast?=some p:=λl h=>by
  cases l with
  |nil=>simp at h
  |cons a l=>exact⟨_,List.getLast?_cons ..⟩
 unfold yv at h
 split at h
 ·next g=>
  cases h;unfold nU at g;exact⟨by omega,ne _ (by have:=of_decide_eq_true g;omega)⟩
 split at h
 ·next g=>
  cases h;unfold nU at g;exact⟨by omega,ne _ (by have:=of_decide_eq_true g;omega)⟩
 split at h
 ·next g=>
  cases h;unfold wz at g;refine⟨by omega, ?_⟩;cases e:(ql Q (qi c 3)).getLast? with
  |none=>rw[e]at g;cases g
  |some p=>exact⟨p,rfl⟩
 cases h
def toQ (A:By)(p:Nat):Nat:=if I0 A p then 2 else 3
def oK (C:Cs)(Q:List (List Nat))(c s p:Nat):List (List Nat):=vL Q (qi c s) ((ql Q (qi c s)).length-1) (qi c (toQ C.A p)) p
theorem PY{l:List Nat}(nd:l.Nodup){p:Nat}(h:p∈l):ahd l p≠some p:=λe=>by
 unfold ahd at e;obtain⟨i1,i2⟩:=Be h;generalize l.idxOf p=k at*;rcases k with _|k
 ·cases e
 have:=gN nd e i2;omega
theorem HV{Q:List (List Nat)}{i j k p q m:Nat}(hi:i<Q.length)(hj:j<Q.length)(hq:q≠p)(h:q∈ql Q m)(hk:(ql Q i)[k]?=some p):q∈ql (vL Q i k j p) m:=by
 have lU:∀u,q∈ql Q u→q∈ql (Q.set i ((ql Q i).eraseIdx k)) u:=λu hu=>by
  rw[fG hi]
  split
  ·next e=>
   rw[e]at hu;rw[ahl];obtain⟨v,hv,ev⟩:=acR hu;refine⟨v,λg=>hq ?_,acz.2 ⟨hv,ev⟩⟩;have h1:(ql Q i)[k]?=some q:=by rw[←g];exact acz.2 ⟨hv,ev⟩
   rw[hk]at h1;exact(Option.some.inj h1).symm
  exact hu
 unfold vL;rw[fG (by rw[acE];exact hj)]
 split
 ·next e=>rw[←e];exact acC _ (lU m h)
 exact lU m h
theorem Wd{n:Nat}{Q:List (List Nat)}{x:Cw}(X:cZ n Q x)(nd:∀i,(ql Q i).Nodup){i j k p:Nat}(hi:i<Q.length)(hj:j<Q.length)(hk:(ql Q i)[k]?=some p):cZ n (vL Q i k j p) (x.left Q p):=by
 have L:=X.left p;refine⟨L.go,L.no,λq hq=> ?_,L.lf⟩;obtain⟨h1,h2⟩:=L.nx q hq;refine⟨HV hi hj (λe=> ?_) h1 hk,h2⟩;subst e;unfold Cw.left at hq h1
 split at hq
 ·next g=>
  rw[if_pos g]at h1;have hp:=(X.nx q g).1;unfold Cw.pass at hq;rw[g]at hq;dsimp only at hq
  split at hq
  ·exact PY (nd _) hp hq
  cases hq
 next g=>exact g hq
structure P5 (C:Cs)(n p:Nat)(A:By)(Q:List (List Nat))(x:Cw):Prop where
 o:iV (C.wA A) Q
 d:dx C C.A A (SL p)
 mr:dE A p=mkSet (dE C.A p) false
 x:cZ n Q x
def XU (cr:Nat):Value:= .func (.func 82) #[.pointer (some ⟨cr,0,none⟩)] #[]
def ruF (j:Nat):Nat:=if j=0 then 236 else if j=1 then 237 else 238
theorem aag (j:Nat)(h:j<3):(ruC.drop (j*2)).take 2= [.int .i64 ((j+1:Nat):Int), .func (.func (ruF j)) #[] #[]]:=by
 have:j=0∨j=1∨j=2:=by omega
 rcases this with rfl|rfl|rfl<;>rfl
def Us (C:Cs)(Q:List (List Nat))(c hot warm j:Nat):Bool:=if j=0 then nU Q c 1 hot else if j=1 then nU Q c 2 warm else wz C Q c
theorem Vs (a q b qb hot warm:Nat)(C:Cs)(K:Ok C)(Q:List (List Nat))(O:iV C Q)(M:MkQ C Q)(c:Nat)(hc:c<C.af.length)(hh:hot≤100)(hw:warm≤100)(j:Nat)(hj:j<3):
  ax acw (ruF j)=true∧aH acw (ruF j) [.pointer (some ⟨a,0,none⟩), .int .i64 (c:Int)] (λh=>In (Cl b C) h∧In (jN a b q hot warm) h∧hJ (sL q b qb C Q) h) [] (λv H=>v= .bool (Us C Q c hot warm j)∧H= []):=by
 have:j=0∨j=1∨j=2:=by omega
 rcases this with rfl|rfl|rfl
 ·exact⟨T.aa3,(DN a q b qb hot warm C K Q O c hc hh).inp λk h=>⟨h.2.1,h.2.2⟩⟩
 ·exact⟨T.aa2,(Br a q b qb hot warm C K Q O c hc hw).inp λk h=>⟨h.2.1,h.2.2⟩⟩
 exact⟨T.aa1,RE a q b qb hot warm C K Q O M c hc⟩
theorem SP{C:Cs}{Q:List (List Nat)}{c hot warm:Nat}(h:∀i,i<3→Us C Q c hot warm i=false):yv C Q c hot warm=none:=by
 have h0:=h 0 (by omega);have h1:=h 1 (by omega);have h2:=h 2 (by omega);unfold Us at h0 h1 h2;unfold yv;rw[if_pos rfl]at h0;rw[if_neg (by decide),if_pos rfl]at h1;rw[if_neg (by decide),if_neg (by decide)]at h2;rw[h0,h1,h2];rfl
theorem SO{C:Cs}{Q:List (List Nat)}{c hot warm j:Nat}(hj:j<3)(h:∀i,i<j→Us C Q c hot warm i=false)(t:Us C Q c hot warm j=true):yv C Q c hot warm=some (j+1):=by
 have:j=0∨j=1∨j=2:=by omega
 unfold yv;rcases this with rfl|rfl|rfl
 ·unfold Us at t
  rw[if_pos rfl]at t;rw[t];rfl
 ·have h0:=h 0 (by omega)
  unfold Us at t h0;rw[if_pos rfl]at h0;rw[if_neg (by decide),if_pos rfl]at t;rw[h0,t];rfl
 have h0:=h 0 (by omega);have h1:=h 1 (by omega);unfold Us at t h0 h1;rw[if_pos rfl]at h0;rw[if_neg (by decide),if_pos rfl]at h1;rw[if_neg (by decide),if_neg (by decide)]at t;rw[h0,h1,t];rfl
theorem RC (a q b qb hot warm cr w:Nat)(dv tv:Value)(C:Cs)(K:Ok C)(Q:List (List Nat))(O:iV C Q)(M:MkQ C Q)(c:Nat)(hc:c<C.af.length)(hh:hot≤100)(hw:warm≤100)(x:Cw)(X:cZ C.af.length Q x):
  aH acw 126 [.pointer (some ⟨a,0,none⟩), .int .i64 (c:Int),XU cr] (In (jN a b q hot warm)) [Cl b C,ag q 139 (fP b qb C.af.length),ag qb 327 (Q.flatMap (eH C)),gZ cr q w C.af.length dv tv C x]
   (λv H=>(yv C Q c hot warm=none∧v= .bool false∧H= [Cl b C,ag q 139 (fP b qb C.af.length),ag qb 327 (Q.flatMap (eH C)),gZ cr q w C.af.length dv tv C x])∨
    ∃s p A,yv C Q c hot warm=some s∧(ql Q (qi c s)).getLast?=some p∧v= .bool true∧
     H= [Cl b (C.wA A),ag q 139 (fP b qb C.af.length),ag qb 327 ((oK C Q c s p).flatMap (eH C)),gZ cr q w C.af.length dv tv C (x.left Q p)]∧P5 C C.af.length p A (oK C Q c s p) (x.left Q p)):=by
 refine ae func126 rfl ntmps126 rfl ?_;rintro F uQ;have hl:=uQ;unfold jN Mq at hl;refine bc ?_;refine zl T.abf (QP) .nil (λ_ _ _=>trivial) ?_;refine aZ ?_;refine Lo (ι:=Nat) [14,15,8,16,17,18,19,20,21,23,24,25,26,27,28,29,30,22,31,32,9,10,33,34,6,11,35,36,37,38,39,40,41,42,43,44,45,46,47,48,49,50,51,52,53,13] (λj=>j≤3∧∀i,i<j→Us C Q c hot warm i=false) (λj=> [(13, .int .i64 (j:Int))]) (λj=> [Cl b C,ag q 139 (fP b qb C.af.length),ag qb 327 (Q.flatMap (eH C)),gZ cr q w C.af.length dv tv C x]) (λj=>3-j) (0) ⟨acS 3,λi h=>absurd h (Nat.not_lt_zero _)⟩ ?_;rintro j hI;obtain⟨hj3,ou⟩:=hI;by_cases hj:j<3
 ·have hru:=aag j hj
  obtain⟨lj,afe⟩:=Vs a q b qb hot warm C K Q O M c hc hh hw j hj;refine aZ ?_;refine au ?_;refine dz ?_;refine bc ?_;refine Li (Iag acn acu) ?_;refine Lp (oA T.NV λb1=> ?_);refine cI ?_;refine Lp (oCV lj rfl rfl rfl afe .nil (λ_ le aw=>⟨aw.nth 1 rfl,In.mono uQ le,aw.nth 2 rfl,aw.nth 3 rfl,trivial⟩) λv H' hr=> ?_);obtain⟨rfl,rfl⟩:=hr;refine bd ?_;refine a8 ?_;refine av rfl ?_ ?_
  ·intro EE
   replace EE:=aD EE;refine bH ?_;refine az ?_;refine Ro (j+1) (⟨hj,λi hi=>(by by_cases e:i=j;exact e▸EE;exact ou i (by omega))⟩) ((by omega))
  intro EE;replace EE:=aD EE;have hds:=SO hj ou EE;obtain⟨hs,p,rK⟩:=SN hds;have yE:=adu rK;have P:hG C (some p):=O.MO (i:=qi c (j+1)) λy hy=>by cases hy;exact yE
  have L:=(P p rfl).1;have jP:(ql Q (qi c (j+1)))[(ql Q (qi c (j+1))).length-1]?=some p:=by rw[←agF];exact rK
  have fb:C.cl p=c:=by
   have h:=O.st _ p yE;have h3:=h.2.2;unfold qi at h3;omega
  have YP:=M _ p yE;have tl:=w9 q b qb C K Q O c (j+1) hc hs;rw[rK,cQ]at tl;refine a8 ?_;refine au ?_;refine gK 12 T.mix (.cons .here .nil) λF1 iT cj aI=> ?_;obtain⟨q1,_⟩:=cj;have Xs:=In.mono hl iT;refine bH ?_;refine Tp (oC T.Fe rfl rfl (tl) .nil (λ_ le aw=>⟨aw.nth 1 rfl,aw.nth 2 rfl,trivial⟩) ?_);rintro v H' ⟨rfl,rfl⟩;refine bd ?_;refine aR ?_;refine gd aI ?_;refine kx ?_;refine zl T.OT (xZ a b q hot warm C K p L (P.kl p rfl) YP) .nil (λ_ le aw=>⟨aw.nth 1 rfl,In.mono uQ le⟩) ?_;refine ay ?_;refine cg (ι:=Nat) [11] (λt=>t=toQ C.A p) (λt=> [(11, .int .i64 (t:Int))]) (λt=> [Cl b C,ag q 139 (fP b qb C.af.length),ag qb 327 (Q.flatMap (eH C)),gZ cr q w C.af.length dv tv C x]) ?_ ?_
  ·refine av rfl ?_ ?_
   ·intro Um
    replace Um:=aD Um;refine a8 ?_;refine az ?_;refine Me (2) ((by unfold toQ;rw[if_pos Um]))
   intro Um;replace Um:=aD Um;refine ay ?_;refine Me (3) ((by unfold toQ;rw[if_neg (by rw[Um];decide)]))
  rintro t ht;have ht3:1≤t∧t≤3:=by rw[ht];unfold toQ;split<;>omega
  have hlen1:(ql Q (qi c (j+1))).length-1<(ql Q (qi c (j+1))).length:=by have:=List.length_pos_of_mem yE;omega
  have MA:=nS O hc hs;have uR:=nS O hc ht3;have X2:=Wd X O.nd (j:=qi c t) MA uR jP;have lf:=Du cr q w C.af.length b qb dv tv C K Q O x X p L;have sh:=JQ q b qb C K Q O (qi c (j+1)) ((ql Q (qi c (j+1))).length-1) p t ht3 jP;rw[fb]at sh;have hsq:oK C Q c (j+1) p=vL Q (qi c (j+1)) ((ql Q (qi c (j+1))).length-1) (qi c t) p:=by unfold oK;rw[ht]
  generalize TJ:x.left Q p=x2 at*;generalize vL Q (qi c (j+1)) ((ql Q (qi c (j+1))).length-1) (qi c t) p=Q2 at*;refine aZ ?_;refine Li (Fnn E8) ?_;refine bc ?_;refine Lp (oCV T.Yh rfl rfl rfl lf (.cons (.there (.there (.there .here))) .nil) (λ_ le aw=>⟨aw.nth 0 rfl,aw.nth 1 rfl,aw.nth 2 rfl,trivial⟩) λv H' hr=> ?_);obtain⟨rfl,rfl⟩:=hr;refine bd ?_;refine cI ?_;refine Lp (oC T.abe rfl rfl (sh) (.cons (.there .here) (.cons (.there .here) (.cons (.there .here) .nil))) (λ_ _ _=>trivial) ?_);rintro v H' ⟨rfl,A,rfl,E⟩;refine bd ?_;have P2:hG (C.wA A) (some p):=ug K E.d P (λ_ _ _ s=>s.rI);have hmA:dE A p=dE C.A p:=A8 K E.d L (by unfold SQ;omega);refine aR ?_;refine zl T.Fc (xe a b q hot warm (C.wA A) (K.wA A) p (P2 p rfl).1 (P2.kl p rfl) (by rw[cS,hmA];exact YP) false) (.cons .here .nil) (λ_ le aw=>In.mono uQ le) ?_;refine bw ?_;refine Rt [Cl b (C.wA (uH A p false)),ag q 139 (fP b qb C.af.length),ag qb 327 (Q2.flatMap (eH C)),gZ cr q w C.af.length dv tv C x2] results126 ?_;refine .inr ⟨j+1,p,uH A p false,hds,rK,rfl,(by rw[hsq,TJ]), ?_, ?_, ?_, ?_⟩
  ·rw[hsq];exact XK (K.wA A) E.o (P2 p rfl).1 false
  ·exact(E.d.mono λq o s=>by unfold SQ at s;unfold SL;omega).trans ((UE (K.wA A) A (P2 p rfl).1 false).wA.mono λq o s=>by unfold SM at s;unfold SL;omega)
  ·rw[G3 K A L L,if_pos rfl,hmA]
   have:=kQ YP false;omega
  rw[hsq,TJ];exact X2
 refine gU ?_;refine a8 ?_;refine au ?_;refine cu ?_;refine cN ?_;obtain rfl:j=3:=by omega
 refine Rt [Cl b C,ag q 139 (fP b qb C.af.length),ag qb 327 (Q.flatMap (eH C)),gZ cr q w C.af.length dv tv C x] results126 ?_;exact .inl ⟨SP ou,rfl,rfl⟩
end Go.Proofs.YtdolmecackmjdaaGreatDoor
namespace Go.Proofs.YtdolmecackmjdaaGreatDoor
open Go Go.dL Go.Proofs.YtdolmecackmjdaaGreatDoor.Cs
structure my where
 Q:List (List Nat)
 ac:Nat→Bool
 x:Cw
def NN (s:my)(c:Nat):Bool:=match(ql s.Q (qi c 3)).getLast? with
 |none=>false
 |some p=>s.ac p
def EI (s:my)(c hot warm:Nat):Option Nat:=if nU s.Q c 1 hot then some 1 else if nU s.Q c 2 warm then some 2 else if NN s c then some 3 else none
def qj (c hot warm:Nat)(s:my):Option my:=match EI s c hot warm with
 |none=>none
 |some k=>match(ql s.Q (qi c k)).getLast? with
  |none=>none
  |some p=>some ⟨vL s.Q (qi c k) ((ql s.Q (qi c k)).length-1) (qi c (if s.ac p then 2 else 3)) p,λy=>if y=p then false else s.ac y,s.x.left s.Q p⟩
def kB (c hot warm:Nat):Nat→my→Nat×my
 |0,s=>(0,s)
 |k+1,s=>match qj c hot warm s with
  |none=>(0,s)
  |some t=>((kB c hot warm k t).1+1,(kB c hot warm k t).2)
def SB (_q o:Nat):Prop:=4≤o∧o<12∨o=45∨o=46
structure BaI (C:Cs)(A:By)(s:my):Prop where
 o:iV (C.wA A) s.Q
 x:cZ C.af.length s.Q s.x
 mq:MkQ (C.wA A) s.Q
 ac:∀i,∀p∈ql s.Q i,I0 A p=s.ac p
structure Jg (C:Cs)(Q:List (List Nat))(A:By)(s:my):Prop where
 i:BaI C A s
 d:dx C C.A A SB
 mr:∀y,Live C y→dE A y/2=dE C.A y/2
 mem:∀p,(∃i,p∈ql s.Q i)↔∃i,p∈ql Q i
theorem Rg{Q:List (List Nat)}{i j k p q m:Nat}(hi:i<Q.length)(hj:j<Q.length)(h:q∈ql (vL Q i k j p) m):q=p∨q∈ql Q m:=by
 have back:∀u,q∈ql (Q.set i ((ql Q i).eraseIdx k)) u→q∈ql Q u:=λu hu=>by
  rw[fG hi]at hu
  split at hu
  ·next e=>rw[e];exact List.mem_of_mem_eraseIdx hu
  exact hu
 unfold vL at h;rw[fG (by rw[acE];exact hj)]at h
 split at h
 ·next e=>
  rcases List.mem_cons.1 h with g|g
  ·exact .inl g
  exact .inr (by rw[e];exact back _ g)
 exact .inr (back m h)
theorem aaz{Q:List (List Nat)}{i j k p:Nat}(hi:i<Q.length)(hj:j<Q.length):p∈ql (vL Q i k j p) j:=by
 unfold vL;rw[fG (by rw[acE];exact hj),if_pos rfl];exact acF
theorem acv{A B:By}{x:Nat}(h:dE B x=dE A x):I0 B x=I0 A x:=by unfold I0;rw[h]
theorem WW{C:Cs}{A:By}{s:my}(I:BaI C A s)(c hot warm:Nat):yv (C.wA A) s.Q c hot warm=EI s c hot warm:=by
 have:wz (C.wA A) s.Q c=NN s c:=by
  unfold wz NN;cases e:(ql s.Q (qi c 3)).getLast? with
  |none=>rfl
  |some p=>exact I.ac _ p (adu e)
 unfold yv EI;rw[this]
theorem Jg.step{C:Cs}(K:Ok C){Q:List (List Nat)}{A B:By}{s:my}(O:Jg C Q A s){c hot warm k p:Nat}(hc:c<C.af.length)(hd:EI s c hot warm=some k)(hk:1≤k∧k≤3)(hl:(ql s.Q (qi c k)).getLast?=some p)
  (T:P5 (C.wA A) C.af.length p B (oK (C.wA A) s.Q c k p) (s.x.left s.Q p)):
  ∃t,qj c hot warm s=some t∧t.Q=oK (C.wA A) s.Q c k p∧t.x=s.x.left s.Q p∧Jg C Q B t:=by
 have yE:=adu hl;have Um:I0 A p=s.ac p:=O.i.ac _ p yE;have hQ:vL s.Q (qi c k) ((ql s.Q (qi c k)).length-1) (qi c (if s.ac p then 2 else 3)) p=oK (C.wA A) s.Q c k p:=by
  unfold oK toQ;rw[cS,Um]
 have L:Live C p:=by
  have:=O.i.o.lv _ p yE;exact⟨⟨this.i,this.own,this.al,this.k⟩,this.tk⟩
 have MA:qi c k<s.Q.length:=nS O.i.o hc hk;have uR:qi c (toQ A p)<s.Q.length:=nS O.i.o hc (by unfold toQ;split<;>omega);have vM:∀y,Live C y→y≠p→dE B y=dE A y:=λy hy ne=>A8 (K.wA A) T.d (hy.wA A) (by unfold SL;omega);have lvS:∀i,∀y∈ql (oK (C.wA A) s.Q c k p) i,Live C y:=λi y hy=>by
  have:=T.o.lv i y hy;exact⟨⟨this.i,this.own,this.al,this.k⟩,this.tk⟩
 have hpB:=T.mr;have ad6:=O.i.mq _ p yE;rw[cS]at hpB ad6;have ui:∀i,∀y∈ql (oK (C.wA A) s.Q c k p) i,y=p∨y∈ql s.Q i:=λi y hy=>Rg MA uR hy;refine⟨⟨oK (C.wA A) s.Q c k p,λy=>if y=p then false else s.ac y,s.x.left s.Q p⟩, ?_,rfl,rfl,⟨⟨T.o,T.x,λi y hy=> ?_,λi y hy=> ?_⟩, ?_,λy hy=> ?_,λy=> ?_⟩⟩
 ·unfold qj
  rw[hd];dsimp only;rw[hl];dsimp only;rw[hQ]
 ·show dE B y<16
  by_cases e:y=p
  ·rw[e,hpB];exact kQ ad6 false
  rw[vM y (lvS i y hy) e];rcases ui i y hy with g|g
  ·exact absurd g e
  exact O.i.mq i y g
 ·show I0 B y=if y=p then false else s.ac y
  by_cases e:y=p
  ·rw[if_pos e,e]
   unfold I0;rw[hpB];unfold mkSet;exact decide_eq_false (by simp)
  rw[if_neg e,acv (vM y (lvS i y hy) e)];rcases ui i y hy with g|g
  ·exact absurd g e
  exact O.i.ac i y g
 ·exact O.d.trans (T.d.wA.mono λq o g=>by unfold SL at g;unfold SB;omega)
 ·by_cases e:y=p
  ·rw[e,hpB,←O.mr p L]
   unfold mkSet;simp
  rw[vM y hy e,O.mr y hy]
 rw[←O.mem y]
 constructor
 ·rintro⟨i,hy⟩
  rcases ui i y hy with g|g
  ·exact⟨_,by rw[g];exact yE⟩
  exact⟨i,g⟩
 rintro⟨i,hy⟩;by_cases e:y=p
 ·exact⟨qi c (toQ A p),by rw[e];exact aaz MA uR⟩
 exact⟨i,HV MA uR e hy (by rw[←agF];exact hl)⟩
theorem DO (a q b qb hot warm cr w:Nat)(dv tv:Value)(C:Cs)(K:Ok C)(s0:my)(I:BaI C C.A s0)(c:Nat)(hc:c<C.af.length)(hh:hot≤100)(hw:warm≤100)(iJ:Nat)(hl:iJ≤1048576):
  aH acw 81 [.pointer (some ⟨a,0,none⟩), .int .i64 (c:Int), .int .i64 (iJ:Int),XU cr] (In (jN a b q hot warm)) [Cl b C,ag q 139 (fP b qb C.af.length),ag qb 327 (s0.Q.flatMap (eH C)),gZ cr q w C.af.length dv tv C s0.x]
   (λv H=>∃n A t,kB c hot warm iJ s0=(n,t)∧v= .int .i64 (n:Int)∧
     H= [Cl b (C.wA A),ag q 139 (fP b qb C.af.length),ag qb 327 (t.Q.flatMap (eH C)),gZ cr q w C.af.length dv tv C t.x]∧Jg C s0.Q A t):=by
 refine ae func81 rfl ntmps81 rfl ?_;rintro F uQ;refine cI ?_;refine Lo (ι:=Nat×By×my) [10,11,12,13,14,15,16,17,18,19,20,9] (λs=>Jg C s0.Q s.2.1 s.2.2∧s.1≤iJ∧kB c hot warm iJ s0=(s.1+(kB c hot warm (iJ-s.1) s.2.2).1,(kB c hot warm (iJ-s.1) s.2.2).2)) (λs=> [(9, .int .i64 (s.1:Int))]) (λs=> [Cl b (C.wA s.2.1),ag q 139 (fP b qb C.af.length),ag qb 327 (s.2.2.Q.flatMap (eH C)),gZ cr q w C.af.length dv tv C s.2.2.x]) (λs=>iJ-s.1) ((0,C.A,s0)) ⟨⟨I,dx.refl _ _ _,λy _=>rfl,λp=>Iff.rfl⟩,acS _,by simp⟩ ?_;rintro⟨n,A,t⟩ hI;dsimp only at hI⊢;obtain⟨B,hn,hb⟩:=hI;by_cases bX:n<iJ
 ·have st:=RC a q b qb hot warm cr w dv tv (C.wA A) (K.wA A) t.Q B.i.o B.i.mq c hc hh hw t.x B.i.x
  rw[WW B.i]at st;refine bB ?_;refine zt 13 ?_;refine aZ ?_;refine Lp (oC T.abD rfl rfl (st) (.cons .here (.cons .here (.cons .here (.cons .here .nil)))) (λ_ le aw=>In.mono uQ le) ?_);rintro v H' hr;refine bd ?_;rcases hr with⟨hd,rfl,rfl⟩|⟨k,p,A2,hd,rK,rfl,rfl,T⟩
  ·refine Li Pt ?_
   refine dQ ?_;refine Rt [Cl b (C.wA A),ag q 139 (fP b qb C.af.length),ag qb 327 (t.Q.flatMap (eH C)),gZ cr q w C.af.length dv tv C t.x] results81 ?_;have hz:kB c hot warm (iJ-n) t=(0,t):=by
    obtain⟨m,hm⟩:∃m,iJ-n=m+1:=⟨iJ-n-1,by omega⟩;rw[hm];unfold kB;have:qj c hot warm t=none:=by unfold qj;rw[hd]
    rw[this]
   exact⟨n,A,t,by rw[hb,hz];rfl,rfl,rfl,B⟩
  have hk:1≤k∧k≤3:=by
   unfold EI at hd
   split at hd
   ·cases hd;omega
   split at hd
   ·cases hd;omega
   split at hd
   ·cases hd;omega
   cases hd
  obtain⟨u,u1,u2,u3,U⟩:=B.step K hc hd hk rK T;have afg:kB c hot warm iJ s0=(n+1+(kB c hot warm (iJ-(n+1)) u).1,(kB c hot warm (iJ-(n+1)) u).2):=by
   obtain⟨m,hm⟩:∃m,iJ-n=m+1:=⟨iJ-n-1,by omega⟩;have e:iJ-(n+1)=m:=by omega
   have e2:kB c hot warm (m+1) t=((kB c hot warm m u).1+1,(kB c hot warm m u).2):=by
    show(match qj c hot warm t with|none=>_|some v=>_)=_;rw[u1]
   rw[hb,hm,e,e2];exact Prod.ext (by dsimp only;omega) rfl
  rw[←u2,←u3];refine dQ ?_;refine Ro ((n+1,A2,u)) (⟨U,bX,afg⟩) ((by dsimp only;omega))
 obtain rfl:n=iJ:=by omega
 refine bB ?_;refine zf 13 ?_;refine kx ?_;refine Rt [Cl b (C.wA A),ag q 139 (fP b qb C.af.length),ag qb 327 (t.Q.flatMap (eH C)),gZ cr q w C.af.length dv tv C t.x] results81 ?_;exact⟨n,A,t,by rw[hb,Nat.sub_self];rfl,rfl,rfl,B⟩
structure Sy where
 b:Nat
 ck:Nat
 t:Nat
 lu:Nat
 wh:Nat
 cr:Nat
 mo:Nat
 q:Nat
def pV (a:Nat):Value:= .pointer (some ⟨a,0,none⟩)
def k8 (y:Sy)(rest:List Value):List Value:=pV y.b::pV y.ck::pV y.t::pV y.lu::pV y.wh::pV y.cr::pV y.mo::pV y.q::rest
def gY (s:Nat)(y:Sy)(rest:List Value):aa:=ag s 111 (k8 y rest)
def vS (A:By)(p:Nat):Nat:=rd A (p+16) 8
def rD (A:By)(p:Nat):Nat:=rd A (p+32) 8
def I5 (A:By)(k:Ck)(p:Nat):Nat:=if 0<vS A p∧vS A p≤k.now then 2 else if rD A p≤k.cut then 3 else 0
theorem y9 (s:Nat)(y:Sy)(rest:List Value)(C:Cs)(K:Ok C)(k:Ck)(p:Nat)(P:hG C (some p)):
  aH acw 87 [.pointer (some ⟨s,0,none⟩), .int .u64 (C.hd p:Int)] (λh=>In (gY s y rest) h∧In (Cl y.b C) h∧In (lD y.ck k) h) []
   (λv H=>v= .int .i64 (I5 C.A k p:Int)∧H= []):=by
 have L:=(P p rfl).1;have I:=(P p rfl).2;unfold I5 vS rD;refine ae func87 rfl ntmps87 rfl ?_;rintro F ⟨My,fb,zW⟩;have hs:=My;unfold gY k8 pV at hs;refine bw ?_;refine zl T.abA (Gj y.b C K p L I.k0 I.exp) .nil (λ_ le _=>In.mono fb le) ?_;refine gR ?_;refine zl T.qU (zx y.b C K p L I.k0) .nil (λ_ le _=>In.mono fb le) ?_;generalize rd C.A (p+16) 8=e at*;generalize rd C.A (p+32) 8=tk at*;refine cI ?_;refine au ?_;refine gT true T.mix ?_;refine bH ?_;refine Tp (oC T.iz rfl rfl (iS y.ck k) .nil (λ_ le _=>In.mono zW le) ?_);rintro v H' ⟨rfl,rfl⟩;refine bd ?_;refine bc ?_;refine Tp (oC T.aby rfl rfl (S4 y.ck k) .nil (λ_ le _=>In.mono zW le) ?_);rintro v H' ⟨rfl,rfl⟩;refine bd ?_;refine Tp (oC T.abz rfl rfl (W4 e tk k.now k.cut) .nil (λ_ _ _=>trivial) ?_);rintro v H' ⟨rfl,rfl⟩;refine bd ?_;by_cases h1:0<e∧e≤k.now
 ·rw[decide_eq_true (.inl h1),if_pos h1]
  refine Ti Nt ?_;refine bH ?_;refine zt 49 ?_;refine bB ?_;refine zl T.iz (iS y.ck k) .nil (λ_ le _=>In.mono zW le) ?_;refine aR ?_;refine dz ?_;refine bB ?_;refine Rt [] results87 ?_;exact⟨rfl,rfl⟩
 rw[if_neg h1];by_cases h2:tk≤k.cut
 ·rw[decide_eq_true (.inr h2),if_pos h2]
  refine Ti Nt ?_;refine aZ ?_;by_cases h3:0<e
  ·refine gU ?_
   refine aZ ?_;refine zt 49 ?_;refine bB ?_;refine zl T.iz (iS y.ck k) .nil (λ_ le _=>In.mono zW le) ?_;refine aR ?_;refine cu ?_;refine bH ?_;refine Rt [] results87 ?_;exact⟨rfl,rfl⟩
  refine gU ?_;refine aZ ?_;refine zf 49 ?_;refine z6 ?_;refine Rt [] results87 ?_;exact⟨rfl,rfl⟩
 rw[decide_eq_false (λg=>g.elim h1 h2),if_neg h2];refine Ti Nt ?_;refine cN ?_;refine Rt [] results87 ?_;exact⟨rfl,rfl⟩
theorem QN (s:Nat)(y:Sy)(rest:List Value)(C:Cs)(K:Ok C)(k:Ck)(p:Nat)(P:hG C (some p)):
  aH acw 40 [.pointer (some ⟨s,0,none⟩), .int .u64 (C.hd p:Int)] (λh=>In (gY s y rest) h∧In (Cl y.b C) h∧In (lD y.ck k) h) []
   (λv H=>v= .bool (decide (I5 C.A k p≠0))∧H= []):=by
 refine ae func40 rfl ntmps40 rfl ?_;rintro F ⟨My,fb,zW⟩;refine bB ?_;refine zl T.Yf (y9 s y rest C K k p P) .nil (λ_ le _=>⟨In.mono My le,In.mono fb le,In.mono zW le⟩) ?_;refine aR ?_;refine Rt [] results40 ?_;refine⟨?_,rfl⟩;by_cases h:I5 C.A k p=0
 ·rw[h];rfl
 rw[decide_eq_true h,decide_eq_false (by omega)];rfl
theorem CJ (s:Nat)(y:Sy)(rest:List Value)(C:Cs)(K:Ok C)(p:Nat)(P:hG C (some p))(hk:kl C.A p≤250):
  aH acw 155 [.pointer (some ⟨s,0,none⟩), .int .u64 (C.hd p:Int)] (λh=>In (gY s y rest) h∧In (Cl y.b C) h) []
   (λv H=>v= .int .i64 ((58+kl C.A p+vl C.A p:Nat):Int)∧H= []):=by
 have L:=(P p rfl).1;have I:=(P p rfl).2;have k0:=I.k0;have hf:=I.fits;have n1:=L.toAt.bo K;have p1:=K.p1;refine ae func155 rfl ntmps155 rfl ?_;rintro F ⟨My,fb⟩;have hs:=My;unfold gY k8 pV at hs;refine bw ?_;refine zl T.OQ (uA y.b C K p L I.k0) .nil (λ_ le _=>In.mono fb le) ?_;refine bK ?_;refine zl T.OX (C6 (kl C.A p) (vl C.A p) (by omega) (by omega)) .nil (λ_ _ _=>trivial) ?_;refine bK ?_;refine Rt [] results155 ?_;exact⟨rfl,rfl⟩
structure BH (C D:Cs)(S:Nat→Prop):Prop where
 a:D.A=C.A
 sz:D.af=C.af
 lv:∀q,S q→Live C q→Live D q∧D.hd q=C.hd q∧D.cl q=C.cl q
theorem BH.it{C D:Cs}{S:Nat→Prop}(M:BH C D S){q:Nat}(s:S q)(L:Live C q)(I:ic C q):ic D q:=by
 obtain⟨_,_,e⟩:=M.lv q s L;have hz:D.sz (D.cl q)=C.sz (C.cl q):=by rw[e];unfold Cs.sz;rw[M.sz]
 exact⟨by rw[M.a];exact I.k0,by rw[M.a,hz];exact I.fits,by rw[M.a];exact I.exp,by rw[M.a];exact I.tch⟩
theorem BH.qu{C D:Cs}{S:Nat→Prop}(M:BH C D S){Q:List (List Nat)}(O:iV C Q)(h:∀i,∀p∈ql Q i,S p):iV D Q:=
 ⟨by rw[M.sz];exact O.len,λi p hp=>(M.lv p (h i p hp) (O.lv i p hp)).1,λi p hp=>M.it (h i p hp) (O.lv i p hp) (O.it i p hp),λi p hp=>by
  rw[M.a,(M.lv p (h i p hp) (O.lv i p hp)).2.2];exact O.st i p hp,O.nd,λi k hk=>by rw[M.a];exact O.l1 i k hk,λi k hk=>by rw[M.a];exact O.l2 i k hk⟩
theorem BH.tb{C D:Cs}{S:Nat→Prop}(M:BH C D S){W:Tb}(O:dq C W)(h:∀p∈W.all,S p):dq D W:=
 ⟨O.pw,O.po,O.st,O.mp,O.sz,O.ML,O.sm,O.mv,O.n,O.nd,λx=>by rw[M.a];exact O.li x,λp hp=>(M.lv p (h p hp) (O.lv p hp)).1,λp hp=>M.it (h p hp) (O.lv p hp) (O.it p hp),
  λx p hp=>by rw[M.a];exact O.bu x p hp,λp hp q hq e=>O.kd p hp q hq (by rw[M.a]at e;exact e)⟩
theorem BH.ls{C D:Cs}{S:Nat→Prop}(M:BH C D S){Q:List (List Nat)}(O:iV C Q)(h:∀i,∀p∈ql Q i,S p):Q.flatMap (eH D)=Q.flatMap (eH C):=by
 have one:∀l,(∀p∈l,S p∧Live C p)→eH D l=eH C l:=λl hl=>by
  have ho:∀o:Option Nat,(∀p,o=some p→p∈l)→hO D o=hO C o:=λo hp=>by
   cases o with
   |none=>rfl
   |some p=>
    have:=hl p (hp p rfl);rw[cQ,cQ,(M.lv p this.1 this.2).2.1]
  have h1:=ho l.head? (λp e=>List.mem_of_mem_head? e);have h2:=ho l.getLast? (λp e=>adu e);show [Value.int .u64 (hO D l.head?:Int),Value.int .u64 (hO D l.getLast?:Int),Value.int .i64 (l.length:Int)]= [Value.int .u64 (hO C l.head?:Int),Value.int .u64 (hO C l.getLast?:Int),Value.int .i64 (l.length:Int)];generalize hO D l.head?=x1 at*;generalize hO D l.getLast?=x2 at*;subst h1;subst h2;rfl
 have:∀(R:List (List Nat)),(∀l∈R,∀p∈l,S p∧Live C p)→R.flatMap (eH D)=R.flatMap (eH C):=λR hR=>by
  induction R with
  |nil=>rw[aid,aid]
  |cons l R ih=>rw[adb,adb,one l (hR l acF),ih λm hm=>hR m (acC _ hm)]
 refine this Q λl hl p hp=> ?_;obtain⟨i,hi,e⟩:=acR hl;have e2:ql Q i=l:=by unfold ql;rw[acy,List.getElem?_eq_getElem hi,e];rfl
 rw[←e2]at hp;exact⟨h i p hp,O.lv i p hp⟩
theorem BH.cw{C D:Cs}{S:Nat→Prop}(M:BH C D S){Q:List (List Nat)}(O:iV C Q)(h:∀i,∀p∈ql Q i,S p){n:Nat}{x:Cw}(X:cZ n Q x)(q w m:Nat)(dv tv:Value):vT q w m dv tv D x=vT q w m dv tv C x:=by
 have:hO D x.nx=hO C x.nx:=by
  cases e:x.nx with
  |none=>rfl
  |some p=>
   have hp:=(X.nx p e).1;rw[cQ,cQ,(M.lv p (h _ p hp) (O.lv _ p hp)).2.1]
 unfold vT;rw[this]
theorem mI{C:Cs}(K:Ok C){p:Nat}(L:Live C p):BH C (C.bz p) (λq=>q≠p):=by
 obtain⟨K2,S⟩:=gX K L;have hpl:C.pn p<C.cR.length:=by rw[K.pl];exact L.i
 have jv:=λj=>lY (C:=C) (c:=C.cl p) (sp:=C.spare) (x:={C.pg (C.pn p)with tk:=(C.pg (C.pn p)).tk.set (C.ix p) false,held:=(C.pg (C.pn p)).held-1,bq:=(C.pg (C.pn p)).bq.set (C.ix p) ((C.gen p+1) % 4294967296)}) (r:={C.rw (C.cl p)with free:=if(C.pg (C.pn p)).lv=true then(C.rw (C.cl p)).free else(C.rw (C.cl p)).free++ [p],gQ:=(C.rw (C.cl p)).gQ-1}) (A:=C.A) hpl j;refine⟨rfl,rfl,λq ne M=> ?_⟩;have ecl:=S.cl q;have eix:=S.ix q;have epn:=S.pn q;have key:((C.bz p).pg (C.pn q)).tk[C.ix q]?=(C.pg (C.pn q)).tk[C.ix q]?∧((C.bz p).pg (C.pn q)).bq.getD (C.ix q) 0=(C.pg (C.pn q)).bq.getD (C.ix q) 0∧((C.bz p).pg (C.pn q)).own=(C.pg (C.pn q)).own∧((C.bz p).pg (C.pn q)).bq.length=(C.pg (C.pn q)).bq.length:=by
  have h:=jv (C.pn q);change(C.bz p).pg (C.pn q)=_ at h;rw[h];by_cases e:C.pn q=C.pn p
  ·have ja:C.ix p≠C.ix q:=λg=>ne (by
    have h1:=(L.toAt.bo K).2.2.2.2.2.1;have h2:=(M.toAt.bo K).2.2.2.2.2.1;have hc:C.cl q=C.cl p:=by unfold Cs.cl;rw[e]
    rw[h1,h2,e,hc,g])
   rw[if_pos e,e];refine⟨?_, ?_,rfl,by simp⟩
   ·show((C.pg (C.pn p)).tk.set (C.ix p) false)[C.ix q]?=_
    rw[ac5 ja]
   show((C.pg (C.pn p)).bq.set (C.ix p) _).getD (C.ix q) 0=_;rw[acy,acy,ac5 ja]
  rw[if_neg e];exact⟨rfl,rfl,rfl,rfl⟩
 obtain⟨k1,k2,k3,k4⟩:=key;have e1:(C.bz p).pg ((C.bz p).pn q)=(C.bz p).pg (C.pn q):=by rw[epn]
 refine⟨⟨⟨by rw[epn];exact M.i,by rw[e1,k3];exact M.own, ?_,by rw[eix,e1,k4];exact M.k⟩,by rw[eix,e1,k1];exact M.tk⟩, ?_,ecl⟩
 ·rw[ecl,S.sz];exact M.al
 unfold Cs.hd Cs.gen;rw[eix,e1,k2]
structure Sv where
 c:pB
 p:ua
 aM:Nat
 gr:Nat
 mt:Mt
 wa:Option Addr
 wn:Nat
 wc:Nat
def iZ (z:Int):Value:= .int .i64 z
def gJ (v:Sv):List Value:= [iZ v.c.aq,iZ v.c.cH,iZ v.c.fac,iZ v.c.bO,iZ v.c.lim,iZ v.c.hot,iZ v.c.warm,iZ v.p.b,iZ v.p.l,iZ v.p.c,iZ v.p.m, .int .u64 (v.aM:Int), .int .i64 (v.gr:Int),iZ v.mt.dr,iZ v.mt.re,iZ v.mt.bu,iZ v.mt.li,iZ v.mt.lo,iZ v.mt.cr,iZ v.mt.mv, .slice v.wa v.wn v.wc]
theorem Ba{n:Nat}{Q:List (List Nat)}{x:Cw}(X:cZ n Q x)(nd:∀i,(ql Q i).Nodup){i k p:Nat}(hi:i<Q.length)(hk:(ql Q i)[k]?=some p):cZ n (Q.set i ((ql Q i).eraseIdx k)) (x.left Q p):=by
 have L:=X.left p;refine⟨L.go,L.no,λq hq=> ?_,L.lf⟩;obtain⟨h1,h2⟩:=L.nx q hq;have ne:q≠p:=λe=>by
  subst e;unfold Cw.left at hq
  split at hq
  ·next g=>
   have hp:=(X.nx q g).1;unfold Cw.pass at hq;rw[g]at hq;dsimp only at hq
   split at hq
   ·exact PY (nd _) hp hq
   cases hq
  next g=>exact g hq
 refine⟨?_,h2⟩;rw[fG hi]
 split
 ·next e=>
  rw[e]at h1;rw[ahl];obtain⟨v,hv,ev⟩:=acR h1;refine⟨v,λg=>ne ?_,acz.2 ⟨hv,ev⟩⟩;have h1:(ql Q i)[k]?=some q:=by rw[←g];exact acz.2 ⟨hv,ev⟩
  rw[hk]at h1;exact(Option.some.inj h1).symm
 exact h1
structure YH (C:Cs)(p:Nat)(A:By)(Q:List (List Nat))(x:Cw):Prop where
 k:Ok ((C.wA A).bz p)
 s:BH (C.wA A) ((C.wA A).bz p) (λq=>q≠p)
 o:iV ((C.wA A).bz p) Q
 d:dx C C.A A (SQ p)
 x:cZ C.af.length Q x
 no:∀i,p∉ql Q i
theorem HA (s qb hot warm:Nat)(dv tv:Value)(y:Sy)(v:Sv)(C:Cs)(K:Ok C)(Q:List (List Nat))(O:iV C Q)(x:Cw)(X:cZ C.af.length Q x)(E:List En)(tn i k p:Nat)(hk:(ql Q i)[k]?=some p)(EF:kl C.A p≤250)(hb:58+kl C.A p+vl C.A p≤v.gr)(Xw:v.gr<4611686018427387904):
  aH acw 100 [.pointer (some ⟨s,0,none⟩), .int .u64 (C.hd p:Int)] (In (jN y.lu y.b y.q hot warm)) [Cl y.b C,ag y.q 139 (fP y.b qb C.af.length),ag qb 327 (Q.flatMap (eH C)),gZ y.cr y.q y.wh C.af.length dv tv C x,Wl y.wh E tn,gY s y (gJ v)]
   (λr H=>r= .tuple #[]∧∃A,H= [Cl y.b ((C.wA A).bz p),ag y.q 139 (fP y.b qb C.af.length),ag qb 327 ((Q.set i ((ql Q i).eraseIdx k)).flatMap (eH ((C.wA A).bz p))),gZ y.cr y.q y.wh C.af.length dv tv ((C.wA A).bz p) (x.left Q p),Wl y.wh (eX E (C.hd p)) tn,gY s y (gJ {v with gr:=v.gr-(58+kl C.A p+vl C.A p)})]∧
    YH C p A (Q.set i ((ql Q i).eraseIdx k)) (x.left Q p)):=by
 have hpl:=acB hk;have P:hG C (some p):=O.MO (i:=i) λz hz=>by cases hz;exact hpl
 have L:=(P p rfl).1;have bX:=(acz.1 hk).1;have hi:i<Q.length:=by
  have h:=O.st i p hpl;have:=nS O (L.toAt.bo K).1 ⟨h.1,h.2.1⟩;rw[←h.2.2]at this;exact this
 have X2:=Ba X O.nd hi hk;have lf:=Du y.cr y.q y.wh C.af.length y.b qb dv tv C K Q O x X p L;generalize TJ:x.left Q p=x2 at*;unfold gY k8 pV gJ iZ;refine ae func100 rfl ntmps100 rfl ?_;rintro F hl;refine bH ?_;refine zl T.Yh (lf) (.cons (.there (.there (.there .here))) .nil) (λ_ le aw=>⟨aw.nth 0 rfl,aw.nth 1 rfl,aw.nth 2 rfl,trivial⟩) ?_;refine cI ?_;refine Lp (oC T.abr rfl rfl (J6 y.lu y.q y.b qb hot warm C K Q O i k p hk) (.cons (.there .here) (.cons (.there .here) (.cons (.there .here) .nil))) (λ_ le _=>In.mono hl le) ?_);rintro v H' ⟨rfl,A,rfl,D⟩;refine bd ?_;refine cI ?_;refine zl T.Fj (Tw y.wh E tn (C.hd p)) (.cons (.there (.there (.there (.there .here)))) .nil) (λ_ _ _=>trivial) ?_;have P2:hG (C.wA A) (some p):=ug K D.d P (λ_ _ _ s=>s.rI);have kp:=qY K D.d L.toAt (P p rfl).2 (λ_ s=>s.rI);have sz:=CJ s y (gJ v) (C.wA A) (K.wA A) p P2 (by rw[cS,kp.kl];exact EF);rw[cS,kp.kl,kp.vl]at sz;have L2:Live (C.wA A) p:=L.wA A;obtain⟨G1,G2⟩:=gX (K.wA A) L2;have S:=mI (K.wA A) L2;have ou:∀j,∀z∈ql (Q.set i ((ql Q i).eraseIdx k)) j,z≠p:=λj z hz e=>D.no j (e▸hz);have els:=S.ls D.o ou;have ecr:=S.cw D.o ou X2 y.q y.wh C.af.length dv tv;generalize hz:58+kl C.A p+vl C.A p=z at*;generalize hQ2:Q.set i ((ql Q i).eraseIdx k)=Q2 at*;refine ay ?_;refine au ?_;refine gK 8 T.mix (.cons (.there (.there (.there (.there (.there .here))))) (.cons (.there .here) .nil)) λF1 iT cj aI=> ?_;obtain⟨q1,q2,_⟩:=cj;refine bB ?_;refine Tp (oC T.Ps rfl rfl (sz) .nil (λ_ le aw=>⟨In.mono q1 le,In.mono q2 le⟩) ?_);rintro v H' ⟨rfl,rfl⟩;refine bd ?_;refine ay ?_;refine gd aI ?_;refine bK ?_;refine zl T.abN (WG y.b (C.wA A) (K.wA A) p L2) (.cons (.there .here) .nil) (λ_ _ _=>trivial) ?_;refine az ?_;have e:((v.gr-z:Nat):Int)=(v.gr:Int)-(z:Int):=by omega
 refine jM [Cl y.b ((C.wA A).bz p),ag y.q 139 (fP y.b qb C.af.length),ag qb 327 (Q2.flatMap (eH (C.wA A))),ag y.cr 177 (vT y.q y.wh C.af.length dv tv (C.wA A) x2),Wl y.wh (eX E (C.hd p)) tn,ag s 111 (k8 y [iZ v.c.aq,iZ v.c.cH,iZ v.c.fac,iZ v.c.bO,iZ v.c.lim,iZ v.c.hot,iZ v.c.warm,iZ v.p.b,iZ v.p.l,iZ v.p.c,iZ v.p.m, .int .u64 (v.aM:Int), .int .i64 ((v.gr:Int)-(z:Int)),iZ v.mt.dr,iZ v.mt.re,iZ v.mt.bu,iZ v.mt.li,iZ v.mt.lo,iZ v.mt.cr,iZ v.mt.mv, .slice v.wa v.wn v.wc])] results100 ?_;refine⟨rfl,A, ?_,G1,S,S.qu D.o ou,D.d,X2,D.no⟩;unfold gZ;rw[els,ecr,←e];rfl
theorem S04{q o:Nat}{S:List Nat}(h:q∈S∧0≤o∧o<0+4):mz o∧(o<4∨12≤o)∧o≠45:=by
 unfold mz;omega
structure aep (C:Cs)(p:Nat)(D:Cs)(V:Tb)(Q:List (List Nat))(x:Cw):Prop where
 k:Ok D
 t:dq D V
 o:iV D Q
 x:cZ C.af.length Q x
 s:BH (C.wA D.A) D (λq=>q≠p)
 d:dx C C.A D.A (λ_ o=>o<12∨o=45)
 no:∀i,p∉ql Q i
 g:D=(C.bz p).wA D.A
theorem QO (s qb hot warm:Nat)(dv tv:Value)(y:Sy)(v:Sv)(C:Cs)(K:Ok C)(W:Tb)(ty:p9)(TO:dq C W)(hy:ty.ok=none→W.ob= [])(Q:List (List Nat))(O:iV C Q)(x:Cw)(X:cZ C.af.length Q x)(E:List En)(tn i k p:Nat)(hp:p∈W.all)(hk:(ql Q i)[k]?=some p)(EF:kl C.A p≤250)(hb:58+kl C.A p+vl C.A p≤v.gr)(Xw:v.gr<4611686018427387904):
  aH acw 66 [.pointer (some ⟨s,0,none⟩), .int .u64 (C.hd p:Int)] (In (jN y.lu y.b y.q hot warm)) (Cl y.b C::me y.t y.b W ty++ [ag y.q 139 (fP y.b qb C.af.length),ag qb 327 (Q.flatMap (eH C)),gZ y.cr y.q y.wh C.af.length dv tv C x,Wl y.wh E tn,gY s y (gJ v)])
   (λr H=>r= .tuple #[]∧∃D V YI,H=Cl y.b D::me y.t y.b V YI++ [ag y.q 139 (fP y.b qb C.af.length),ag qb 327 ((Q.set i ((ql Q i).eraseIdx k)).flatMap (eH D)),gZ y.cr y.q y.wh C.af.length dv tv D (x.left Q p),Wl y.wh (eX E (C.hd p)) tn,gY s y (gJ {v with gr:=v.gr-(58+kl C.A p+vl C.A p)})]∧
    (YI.ok=none→V.ob= [])∧W.all.Perm (p::V.all)∧aep C p D V (Q.set i ((ql Q i).eraseIdx k)) (x.left Q p)∧∃A,FE C W p A V):=by
 have at_:∀q∈W.all,At C q:=λq hq=>(TO.lv q hq).toAt;unfold gY k8 pV;refine ae func66 rfl ntmps66 rfl ?_;rintro F hl;unfold me;refine bH ?_;refine Lp (oC T.afq rfl rfl (Qx y.t y.b C K W ty TO hy p hp) (.cons .here (.cons .here (.cons .here (.cons .here .nil)))) (λ_ _ _=>trivial) ?_);rintro v H' ⟨rfl,A,V,YI,rfl,hy',TK⟩;refine bd ?_;have hpl:=acB hk;have L:=O.lv i p hpl;have dP:=yT TK.df at_ (λq hq=>by have:=((at_ q hq).bo K).2.1;omega);have kp:=qY K dP L.toAt (O.it i p hpl) (λj g=>(S04 g).1);have O1:=M7 K O dP (λj q hq u g=>S04 g);have off:=HA s qb hot warm dv tv y v (C.wA A) (K.wA A) Q O1 x X E tn i k p hk (by rw[cS,kp.kl];exact EF) (by rw[cS,kp.kl,kp.vl];exact hb) Xw;rw[cS,kp.kl,kp.vl]at off;have nd2:=(TK.pm.nodup_iff).2 TO.nd;have hnV:∀q∈V.all,q≠p:=λq hq e=>(List.nodup_cons.1 nd2).1 (e▸hq);refine aR ?_;refine Lp (oC T.PC rfl rfl (off) (.cons .here (.cons (.there (.there (.there .here))) (.cons (.there (.there (.there .here))) (.cons (.there (.there (.there .here))) (.cons (.there (.there (.there .here))) (.cons (.there (.there (.there .here))) .nil)))))) (λ_ le _=>In.mono hl le) ?_);rintro v H' ⟨rfl,B,rfl,OF⟩;refine bd ?_;have T2:=I6 (K.wA A) TK.o OF.d (λq _ j g=>⟨g.rI,by unfold SQ at g;omega⟩);have T3:=OF.s.tb T2 hnV;refine az ?_;refine jM [Cl y.b (((C.wA A).wA B).bz p),ag y.t 145 (fA y.b V YI),ag YI.nk 163 (aJ (aA V.nb)),jV YI.ok 163 (aJ (aA V.ob)),ag y.q 139 (fP y.b qb C.af.length),ag qb 327 ((Q.set i ((ql Q i).eraseIdx k)).flatMap (eH (((C.wA A).wA B).bz p))),gZ y.cr y.q y.wh C.af.length dv tv (((C.wA A).wA B).bz p) (x.left Q p),Wl y.wh (eX E (C.hd p)) tn,gY s y (gJ {v with gr:=v.gr-(58+kl C.A p+vl C.A p)})] results66 ?_;refine⟨rfl,((C.wA A).wA B).bz p,V,YI,rfl,hy',TK.pm.symm,⟨OF.k,T3,OF.o,OF.x,OF.s, ?_,OF.no,rfl⟩,A,TK⟩;exact(dP.mono λq o g=>by omega).trans (OF.d.wA.mono λq o g=>by unfold SQ at g;omega)
theorem W8:∀m:Nat,m<16→gG .or .i64 (m:Int) 8=some ((m % 8+8:Nat):Int):=by decide+kernel
theorem Tc:∀m:Nat,m<16→gG .andNot .i64 (m:Int) 6=some ((m-m/2 % 4*2:Nat):Int):=by decide+kernel
theorem W9:∀m:Nat,m<16→∀k:Nat,k<4→gG .or .i64 ((m-m/2 % 4*2:Nat):Int) ((k*2:Nat):Int)=some ((m-m/2 % 4*2+k*2:Nat):Int):=by decide+kernel
def Y3 (A:By)(p now:Nat):By:=wr (wr (uH A p true) (p+46) 1 (mkSet (dE A p) true % 8+8)) (p+24) 8 now
def On (A:By)(p k:Nat):By:=wr A (p+46) 1 (dE A p-dE A p/2 % 4*2+k*2)
theorem JI (s:Nat)(y:Sy)(rest:List Value)(C:Cs)(K:Ok C)(p k:Nat)(hk4:k<4)(P:hG C (some p))(hm:dE C.A p<16):
  aH acw 116 [.pointer (some ⟨s,0,none⟩), .int .u64 (C.hd p:Int), .int .i64 ((k*2:Nat):Int)] (In (gY s y rest)) [Cl y.b C]
   (λv H=>v= .tuple #[]∧H= [Cl y.b (C.wA (On C.A p k))]):=by
 have L:=(P p rfl).1;have k0:=P.kl p rfl;have h6:=Tc _ hm;have ho:=W9 _ hm k hk4;unfold On;unfold dE at*;refine ae func116 rfl ntmps116 rfl ?_;intro F My;have hs:=My;unfold gY k8 pV at hs;refine bH ?_;refine zl T.AG (pQ y.b C K p L k0) .nil (λ_ le aw=>aw.1) ?_;generalize rd C.A (p+46) 1=m at*;refine nj ?_;refine ao (t:=25) (v':=(.int .i64 ((m-m/2 % 4*2:Nat):Int))) rfl (by exact congrArg (λx=>Value.int .i64 (x.getD 0)) h6) ?_;refine a8 ?_;refine ao (t:=27) (v':=(.int .i64 ((m-m/2 % 4*2+k*2:Nat):Int))) rfl (by exact congrArg (λx=>Value.int .i64 (x.getD 0)) ho) ?_;refine zl T.AF (kf y.b C K p (m-m/2 % 4*2+k*2) (by omega) L k0) (.cons .here .nil) (λ_ _ _=>trivial) ?_;refine az ?_;refine jM [Cl y.b (C.wA (wr C.A (p+46) 1 (m-m/2 % 4*2+k*2)))] results116 ?_;exact⟨rfl,rfl⟩
theorem Vp (s hot warm:Nat)(y:Sy)(rest:List Value)(C:Cs)(K:Ok C)(k:Ck)(CK:rJ k)(p:Nat)(P:hG C (some p))(hm:dE C.A p<16)(iY:1≤jc C.A p∧jc C.A p≤3):
  aH acw 110 [.pointer (some ⟨s,0,none⟩), .int .u64 (C.hd p:Int)] (λh=>In (gY s y rest) h∧In (jN y.lu y.b y.q hot warm) h∧In (lD y.ck k) h) [Cl y.b C]
   (λv H=>v= .tuple #[]∧H= [Cl y.b (C.wA (Y3 C.A p k.now))]):=by
 have L:=(P p rfl).1;have k0:=P.kl p rfl;have hn:=CK.n2;have hm2:=kQ hm true;have h8:=W8 _ hm2;have d1:=UE K C.A L true;have P1:hG (C.wA (uH C.A p true)) (some p):=ug K d1 P (λ_ _ _ g=>g.rI);have vM:dE (uH C.A p true) p=mkSet (dE C.A p) true:=by
  rw[G3 K C.A L L,if_pos rfl];omega
 have P2:hG (C.wA (wr (uH C.A p true) (p+46) 1 (mkSet (dE C.A p) true % 8+8))) (some p):=by
  have w:dx (C.wA (uH C.A p true)) (uH C.A p true) (wr (uH C.A p true) (p+46) 1 (mkSet (dE C.A p) true % 8+8)) (SM p):=vU _ (P1 p rfl).1.toAt (by have:=(L.toAt.bo K).2.1;show 46+1≤C.sz (C.cl p);omega) λj h1 h2=>⟨by omega,rfl⟩;exact ug (K.wA _) w P1 (λ_ _ _ g=>g.rI)
 have im:=pQ y.b (C.wA (uH C.A p true)) (K.wA _) p (P1 p rfl).1 (P1.kl p rfl);change aH _ _ _ _ _ (λv H=>v= .tuple #[.int .i64 ((dE (uH C.A p true) p:Nat):Int), .int .i64 0]∧H= [])at im;rw[vM]at im;unfold Y3;generalize Xr:mkSet (dE C.A p) true=m at*;refine ae func110 rfl ntmps110 rfl ?_;rintro F ⟨My,hl,zW⟩;have hs:=My;unfold gY k8 pV at hs;refine bH ?_;refine zl T.abk (Wq y.lu y.b y.q hot warm C K p L k0 hm iY) (.cons .here .nil) (λ_ le _=>In.mono hl le) ?_;refine cI ?_;refine zl T.AG (im) .nil (λ_ le aw=>aw.1) ?_;refine nj ?_;refine ao (t:=30) (v':=(.int .i64 ((m % 8+8:Nat):Int))) rfl (by exact congrArg (λx=>Value.int .i64 (x.getD 0)) h8) ?_;refine zl T.AF (kf y.b (C.wA (uH C.A p true)) (K.wA _) p (m % 8+8) (by omega) (P1 p rfl).1 (P1.kl p rfl)) (.cons .here .nil) (λ_ _ _=>trivial) ?_;refine ay ?_;refine gT true T.mix ?_;refine bK ?_;refine Tp (oC T.iz rfl rfl (iS y.ck k) .nil (λ_ le _=>In.mono zW le) ?_);rintro v H' ⟨rfl,rfl⟩;refine bd ?_;refine Tp (oC T.abj rfl rfl (yc y.b (C.wA (wr (uH C.A p true) (p+46) 1 (m % 8+8))) (K.wA _) p k.now (by omega) (P2 p rfl).1 (P2.kl p rfl)) (.cons .here .nil) (λ_ _ _=>trivial) ?_);rintro v H' ⟨rfl,rfl⟩;refine bd ?_;refine Tn ?_;refine jM [Cl y.b (C.wA (wr (wr (uH C.A p true) (p+46) 1 (m % 8+8)) (p+24) 8 k.now))] results110 ?_;exact⟨rfl,rfl⟩
def cF (now:Nat)(t:Int):Nat:=(EH now t).toNat
theorem xx (now:Nat)(t:Int):EH now t=(cF now t:Int):=by
 unfold cF EH
 split
 ·rfl
 split
 ·omega
 ·split<;>omega
theorem Bj (now:Nat)(t:Int)(h:now≤1099511627776)(ht:t<9223372036854775808):cF now t<9223372036854775808:=by
 unfold cF EH
 split
 ·decide
 split
 ·omega
 ·split<;>omega
theorem JH (s:Nat)(y:Sy)(rest:List Value)(C:Cs)(K:Ok C)(k:Ck)(CK:rJ k)(p:Nat)(P:hG C (some p))(E:List En)(tn:Nat)(t:Int)(ht:t<9223372036854775808)(tY:tn<18446744073709551615)(hE:E.length<2147483647):
  aH acw 109 [.pointer (some ⟨s,0,none⟩), .int .u64 (C.hd p:Int), .int .i64 t] (λh=>In (gY s y rest) h∧In (lD y.ck k) h) [Cl y.b C,Wl y.wh E tn]
   (λv H=>v= .tuple #[]∧H= [Wl y.wh (ky E (C.hd p) (cF k.now t) tn) (if 0<cF k.now t then tn+1 else tn),Cl y.b (C.wA (wr C.A (p+16) 8 (cF k.now t)))]):=by
 have L:=(P p rfl).1;have k0:=P.kl p rfl;have hx:=Bj k.now t CK.n2 ht;have ex:=zK k.now t CK.n1 CK.n2;rw[xx]at ex;generalize cF k.now t=e at*;refine ae func109 rfl ntmps109 rfl ?_;rintro F ⟨My,zW⟩;have hs:=My;unfold gY k8 pV at hs;refine bB ?_;refine zl T.iz (iS y.ck k) .nil (λ_ le _=>In.mono zW le) ?_;refine ay ?_;refine zl T.fu (ex) .nil (λ_ _ _=>trivial) ?_;refine bw ?_;refine zl T.abl (yB y.b C K p e hx L k0) (.cons .here .nil) (λ_ _ _=>trivial) ?_;refine cN ?_;refine zl T.OZ (IQ y.wh E tn (C.hd p) e tY hE) (.cons (.there .here) .nil) (λ_ _ _=>trivial) ?_;refine az ?_;refine jM [Wl y.wh (ky E (C.hd p) e tn) (if 0<e then tn+1 else tn),Cl y.b (C.wA (wr C.A (p+16) 8 e))] results109 ?_;exact⟨rfl,rfl⟩
structure lB where
 un:List Nat
 st:Nat
 pg:Nat
 fr:Nat
 tt:Nat
 on:Bool
def moC (b ub:Nat)(dv tv sv:Value)(m:lB):List Value:= [.pointer (some ⟨b,0,none⟩),dv,tv,sv, .slice (some ⟨ub,0,none⟩) m.un.length m.un.length, .int .i64 (m.st:Int), .int .i64 (m.pg:Int), .int .i64 (m.fr:Int), .int .i64 (m.tt:Int), .bool m.on]
def oa (a b ub:Nat)(dv tv sv:Value)(m:lB):aa:=ag a 201 (moC b ub dv tv sv m)
def oz (ub:Nat)(m:lB):aa:=ag ub 3 (aV m.un)
def lB.qN (m:lB)(c:Nat):lB:={m with un:=m.un.set c (m.st+64)}
def lB.j8 (m:lB)(c:Nat):Bool:=decide (m.st<m.un.getD c 0)
def lB.off (m:lB):lB:={m with pg:=0,fr:=0,tt:=0,on:=false}
theorem SZ (k:Ck)(h1:1≤k.now)(h2:k.now≤1099511627776)(h3:k.dH=0∨k.now<k.dH)(hp:k.dH<9223372036854775808):
  aH acw 63 [.int .i64 (k.now:Int), .int .u64 (k.cut:Int), .int .i64 (k.dH:Int)] (λ_=>True) []
   (λv H=>∃a,v= .tuple #[.pointer (some ⟨a,0,none⟩), .int .i64 0]∧H= [lD a k]):=by
 unfold lD TZ;refine ae func63 rfl ntmps63 rfl ?_;intro F _;refine cN ?_;refine zf 10 ?_;refine aR ?_;refine zf 14 ?_;refine aZ ?_;by_cases h0:k.dH=0
 ·refine zf 17 ?_ (e:=by exact congrArg (!·) (decide_eq_true (by omega)))
  refine fF ?_;refine Lp (oB λb1=> ?_);refine aR ?_;refine iH [ag b1 174 [.int .i64 (k.now:Int), .int .i64 (k.dH:Int), .int .u64 (k.cut:Int)]] results63 ?_;exact⟨b1,rfl,rfl⟩
 refine zt 17 ?_ (e:=by exact congrArg (!·) (decide_eq_false (by omega)));refine bB ?_;refine cu ?_;refine bH ?_;refine Lp (oB λb2=> ?_);refine aR ?_;refine iH [ag b2 174 [.int .i64 (k.now:Int), .int .i64 (k.dH:Int), .int .u64 (k.cut:Int)]] results63 ?_;exact⟨b2,rfl,rfl⟩
theorem Wp (b q hot warm:Nat)(h1:1≤hot)(h2:1≤warm)(h3:hot+warm≤90):
  aH acw 30 [.pointer (some ⟨b,0,none⟩), .pointer (some ⟨q,0,none⟩), .int .i64 (hot:Int), .int .i64 (warm:Int)] (λ_=>True) []
   (λv H=>∃a,v= .tuple #[.pointer (some ⟨a,0,none⟩), .int .i64 0]∧H= [jN a b q hot warm]):=by
 unfold jN Mq;refine ae func30 rfl ntmps30 rfl ?_;intro F _;refine cN ?_;refine zf 12 ?_ (e:=by rfl);refine aR ?_;refine zf 16 ?_ (e:=by rfl);refine aR ?_;refine zf 20 ?_;refine aR ?_;refine zf 24 ?_;refine aR ?_;refine zf 28 ?_;refine bB ?_;refine cu ?_;refine cI ?_;refine Lp (oB λb1=> ?_);refine aR ?_;refine iH [ag b1 141 [.pointer (some ⟨b,0,none⟩), .pointer (some ⟨q,0,none⟩), .int .i64 (hot:Int), .int .i64 (warm:Int)]] results30 ?_;exact⟨b1,rfl,rfl⟩
theorem Fne{P:Program}{n:Nat}{ds:List Deferred}{F:ee}{σ:ba}{o:Oper}{t yt:TypeId}{x y:Operand}{f:Fn}{a c:Array Value}(ht:(P.underlying t).map (λd=>match d with| .func .. =>true|_=>false)=some true)(ho:o.op= .binOp .eql t x y yt:=by exact rfl)(hx:bx σ x=some (.func f a c):=by exact rfl)(hy:bx σ y=some .nilFunc:=by exact rfl):Yv P n ds F σ o (.bool false):=λw0 w en _=>by
 cases hu:P.underlying t with
 |none=>simp[hu]at ht
 |some d=>
  cases d<;>simp[hu]at ht;have h:∀k:Nat,(Op.equalIn (k+1) t (.func f a c) .nilFunc).run P w= .ok false w:=λk=>by simp[Op.equalIn,run_underlying hu]
  have r:(Go.binOp .eql t (.func f a c) .nilFunc).run P w= .ok (.bool false) w:=by
   simp only[Go.binOp];simp[Op.equal,Op.maxDepth,h 9999]
  simp only[execOp,ho,en.eval hx,en.eval hy,Sem.run_bind,eqGuard_at_func,Sem.run_pure,r,Result.andThen_ok]
theorem OC:(acw.underlying 120).map (λd=>match d with| .func .. =>true|_=>false)=some true:=by kernel_rfl
theorem IH (q w n:Nat)(h1:1≤n)(h2:n≤62)(f g:Fn)(fa fc ga gc:Array Value)(C:Cs):
  aH acw 65 [.pointer (some ⟨q,0,none⟩), .pointer (some ⟨w,0,none⟩), .int .i64 (n:Int), .func f fa fc, .func g ga gc] (λ_=>True) []
   (λv H=>∃a,v= .tuple #[.pointer (some ⟨a,0,none⟩), .int .i64 0]∧H= [gZ a q w n (.func f fa fc) (.func g ga gc) C ⟨0,false,0,0,none,0⟩]):=by
 unfold gZ vT;refine ae func65 rfl ntmps65 rfl ?_;intro F _;refine cN ?_;refine zf 14 ?_ (e:=by rfl);refine aR ?_;refine zf 18 ?_ (e:=by rfl);refine ay ?_;refine Li (Fne OC) ?_;refine a8 ?_;refine zf 22 ?_ (e:=by rfl);refine ay ?_;refine Li (Fne E8) ?_;refine a8 ?_;refine zf 26 ?_ (e:=by rfl);refine aR ?_;refine zf 30 ?_;refine aR ?_;refine cu ?_;refine cN ?_;refine Lp (oB λb1=> ?_);refine aR ?_;refine iH [ag b1 177 [.pointer (some ⟨q,0,none⟩), .pointer (some ⟨w,0,none⟩), .int .i64 (n:Int), .func f fa fc, .func g ga gc, .int .i64 0, .bool false, .int .i64 0, .int .i64 0, .int .u64 0, .int .i64 0]] results65 ?_;exact⟨b1,rfl,rfl⟩
def M6 (Q:List (List Nat))(c:Nat):List Nat:=(ql Q (qi c 3)).reverse++(ql Q (qi c 2)).reverse++(ql Q (qi c 1)).reverse
def EG (own:Option Nat)(l:List Nat):List Nat:=l.filter λq=>decide (some q≠own)
def Nw (dd act:Nat→Bool)(r:List Nat):Option Nat×Bool×Nat:=match r.findIdx? dd with
 |some i=>(r[i]?,true,i+1)
 |none=>(match r.find? (λq=> !act q)with|some q=>some q|none=>r.head?,false,r.length)
def Cc (dd act:Nat→Bool)(own:Option Nat)(looks:Nat)(l:List Nat):Option Nat×Bool×Nat:=Nw dd act ((EG own l).take looks)
def bJ (s:Nat):Value:= .func (.func 40) #[.pointer (some ⟨s,0,none⟩)] #[]
end Go.Proofs.YtdolmecackmjdaaGreatDoor
