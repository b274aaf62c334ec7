/- Part Pj1 of the proof. -/
import Derived.Test.YtcbcjolpdljbiaaGreatPc1
import Derived.Test.YtcbcjolpdljbiaaGreatPd
import Derived.Test.YtcbcjolpdljbiaaGreatPi
set_option maxRecDepth 100000
open Go.Proofs.YtcbcjolpdljbiaaGreat.T
open Nat renaming zero_le -> afk
open List renaming mem_eraseIdx_iff_getElem? -> ajB, getElem_of_mem -> aft, getElem?_eq_some_iff -> aaR, length_set -> aaY, mem_cons_of_mem -> aaW, mem_of_getLast? -> afU, getLast?_eq_getElem? -> af5, mem_cons_self -> aaV, mem_of_mem_head? -> afB, flatMap_nil -> akj, flatMap_cons -> af2, getD_eq_getElem?_getD -> aaP, getElem?_eq_getElem -> aaQ, getElem?_set_ne -> afA, mem_of_getElem? -> aaT, append_nil -> afs, drop_eq_getElem_cons -> aje, Perm -> aa1, perm_append_comm -> afl, findIdx?_cons -> ajc, filter_append -> ags, take_left -> ajO, mem_append -> af3, mem_reverse -> agm, length_map -> adr, length_append -> aaZ, mem_append_left -> agy, mem_filter -> aba, mem_of_find?_eq_some -> afH
open Go.Proofs.Tryz renaming prog -> aaO
open Go.Proofs.Tryz
open Go.Value renaming int -> CO
open Go.IntKind renaming i64 -> CN, u64 -> CJ
namespace Go.Proofs.YtcbcjolpdljbiaaGreat
open Go Go.dG
structure Ck where
 now:Nat
 kP:Nat
 cut:Nat
structure sZ (k:Ck):Prop where
 n1:1<=k.now
 n2:k.now<=1099511627776
 p:k.kP<=1099511627777
 pn:k.kP≠0->k.now<k.kP
 c:k.cut<18446744073709551616
def VO (k:Ck):List Value:= [CO CN k.now,CO CN k.kP,CO CJ k.cut]
def kO (a:Nat)(k:Ck):aa:=af a 132 (VO k)
def Ck.flush (k:Ck)(t:Int)(bh:Nat):Ck:=if t<=0 then{k with cut:=max k.cut bh,kP:=0}else{k with kP:=k.now+min t.toNat (1099511627777-k.now)}
def Ck.tick (k:Ck)(by_:Nat)(bh:Nat):Ck:=let k2:={k with now:=k.now+by_};if 0<k2.kP/\k2.kP<=k2.now then k2.flush 0 bh else k2
theorem sZ.flush{k:Ck}(h:sZ k)(t:Int){bh:Nat}(hi:bh<18446744073709551616):sZ (k.flush t bh):=by
 obtain⟨h1,h2,h3,h4,h5⟩:=h;unfold Ck.flush
 split
 ·exact⟨h1,h2,afk _,λg=>absurd rfl g,by show max _ _<_;omega⟩
 exact⟨h1,h2,by show k.now+min _ _<=_;omega,λ_=>by show k.now<k.now+min _ _;omega,h5⟩
theorem kH (a:Nat)(k:Ck):aO aaO 38 [CM a] (In (kO a k)) [] (λv H=>v=CO CN k.now/\H= []):=by
 unfold kO VO;refine ag func38 rfl ntmps38 rfl ?_;intro F hk;refine bW ?_;refine Rt [] results38 ?_;exact⟨rfl,rfl⟩
theorem Vf (a:Nat)(k:Ck):aO aaO 150 [CM a] (In (kO a k)) [] (λv H=>v=CO CJ k.cut/\H= []):=by
 unfold kO VO;refine ag func150 rfl ntmps150 rfl ?_;intro F hk;refine bW ?_;refine Rt [] results150 ?_;exact⟨rfl,rfl⟩
theorem yD (a:Nat)(k:Ck)(h2:k.now<=1099511627776)(t:Int)(bh:Nat)(hi:bh<18446744073709551616)(ht:t<9223372036854775808):
  aO aaO 74 [CM a,CO CN t,CO CJ bh] (λ_=>True) [kO a k] (λv H=>v= .tuple #[]/\H= [kO a (k.flush t bh)]):=by
 unfold Ck.flush;by_cases ht0:t<=0
 ·rw[if_pos ht0]
  unfold kO VO;refine ag func74 rfl ntmps74 rfl ?_;intro F _;refine bE ?_;refine eU ?_ (e:=by exact decide_eq_true ht0);refine dm ?_;refine Li Ma ?_;refine cA ?_;refine Rt0 [af a 132 [CO CN k.now,CO CN 0,CO CJ (max (k.cut:Int) (bh:Int))]] results74 ?_;exact⟨rfl,by rw[show max (k.cut:Int) (bh:Int)=((max k.cut bh:Nat):Int) by omega];rfl⟩
 rw[if_neg ht0];unfold kO VO;refine ag func74 rfl ntmps74 rfl ?_;intro F _;refine bE ?_;refine cO ?_ (e:=by exact decide_eq_false ht0);refine bA ?_;refine hJ 13 mix (.cons .here .nil) λF1 jf bZ aN=> ?_;obtain⟨q1,_⟩:=bZ;refine bW ?_;refine Ti Mi ?_;refine av ?_;refine gd aN ?_;refine bz ?_;refine Tn ?_;refine jW [af a 132 [CO CN k.now,CO CN ((k.now:Int)+min t (1099511627777-(k.now:Int))),CO CJ k.cut]] results74 ?_;exact⟨rfl,by rw[show(k.now:Int)+min t (1099511627777-(k.now:Int))=((k.now+min t.toNat (1099511627777-k.now):Nat):Int) by omega]⟩
theorem YT (ex tok now cut:Nat):aO aaO 149 [CO CN ex,CO CJ tok,CO CN now,CO CJ cut] (λ_=>True) [] (λv H=>v= .bool (decide (0<ex/\ex<=now\/tok<=cut))/\H= []):=by
 refine ag func149 rfl ntmps149 rfl ?_;intro F _;by_cases h1:0<ex
 ·by_cases h2:ex<=now
  ·refine gK ?_
   refine bG ?_;refine zt 11 ?_;refine bE ?_;refine zt 16 ?_;refine bR ?_;refine Rt [] results149 ?_;exact⟨by rw[decide_eq_true (.inl ⟨h1,h2⟩)],rfl⟩
  refine gK ?_;refine bG ?_;refine zt 11 ?_;refine bE ?_;refine zf 16 ?_;refine bR ?_;refine Rt [] results149 ?_;exact⟨congrArg Value.bool (decide_eq_decide.2 (by omega)),rfl⟩
 refine gK ?_;refine bG ?_;refine zf 11 ?_;refine dB ?_;refine Rt [] results149 ?_;exact⟨congrArg Value.bool (decide_eq_decide.2 (by omega)),rfl⟩
def KK (now:Nat)(t:Int):Int:=if t=0 then 0 else if t<0 then(now:Int)else if t<=2592000 then(now:Int)+t else t
theorem AJ (now:Nat)(t:Int)(h1:1<=now)(h2:now<=1099511627776):aO aaO 134 [CO CN now,CO CN t] (λ_=>True) [] (λv H=>v=CO CN (KK now t)/\H= []):=by
 unfold KK;refine ag func134 rfl ntmps134 rfl ?_;intro F _;refine bE ?_;refine Li Ma ?_;refine Li Mi ?_;refine bA ?_;refine aw ?_;refine ay (t:=0) (v':=(CO CN now)) rfl (by(congr 1<;>omega)) ?_;refine bG ?_;refine aE rfl ?_ ?_
 ·intro g0
  replace g0:=aS g0;refine bG ?_;refine Rt [] results134 ?_;exact⟨by rw[if_pos g0],rfl⟩
 intro g0;replace g0:=aS g0;refine bE ?_;refine aE rfl ?_ ?_
 ·intro g1
  replace g1:=aS g1;refine bR ?_;refine Rt [] results134 ?_;exact⟨by rw[if_neg g0,if_pos g1],rfl⟩
 intro g1;replace g1:=aS g1;refine bE ?_;refine aE rfl ?_ ?_
 ·intro g2
  replace g2:=aS g2;refine cA ?_;refine Rt [] results134 ?_;exact⟨by rw[if_neg g0,if_neg (by omega),if_pos g2],rfl⟩
 intro g2;replace g2:=aS g2;refine dm ?_;refine Rt [] results134 ?_;exact⟨by rw[if_neg g0,if_neg (by omega),if_neg (by omega)],rfl⟩
def Ck.OK (k:Ck)(n:Int):Int:=if n<1 then 1 else if 1099511627776-(k.now:Int)<n then 4 else 0
def Ck.move (k:Ck)(n:Int)(bh:Nat):Ck:=if k.OK n=0 then k.tick n.toNat bh else k
theorem sZ.move{k:Ck}(h:sZ k)(n:Int){bh:Nat}(hi:bh<18446744073709551616):sZ (k.move n bh):=by
 unfold Ck.move Ck.OK;by_cases e1:n<1
 ·rw[if_pos e1,if_neg (by decide)];exact h
 rw[if_neg e1];by_cases e2:1099511627776-(k.now:Int)<n
 ·rw[if_pos e2,if_neg (by decide)];exact h
 rw[if_neg e2,if_pos rfl];obtain⟨h1,h2,h3,h4,h5⟩:=h;unfold Ck.tick;dsimp only
 split
 ·unfold Ck.flush
  rw[if_pos (by decide)];exact⟨by show 1<=k.now+_;omega,by show k.now+_<=_;omega,afk _,λg=>absurd rfl g,by show max k.cut bh<_;omega⟩
 next g=>exact⟨by show 1<=k.now+_;omega,by show k.now+_<=_;omega,h3,λq=>by show k.now+_<k.kP;change k.kP≠0 at q;omega,h5⟩
theorem NS (a:Nat)(k:Ck)(K:sZ k)(n:Int)(bh:Nat)(hi:bh<18446744073709551616):
  aO aaO 36 [CM a,CO CN n,CO CJ bh] (λ_=>True) [kO a k] (λv H=>v=CO CN (k.OK n)/\H= [kO a (k.move n bh)]):=by
 have h2:=K.n2;unfold Ck.move Ck.OK;by_cases e1:n<1
 ·rw[if_pos e1,if_neg (by decide)]
  unfold kO VO;refine ag func36 rfl ntmps36 rfl ?_;intro F _;refine dm ?_;refine eU ?_ (e:=by exact decide_eq_true e1);refine bE ?_;refine Rt [af a 132 [CO CN k.now,CO CN k.kP,CO CJ k.cut]] results36 ?_;exact⟨rfl,rfl⟩
 rw[if_neg e1];by_cases e2:1099511627776-(k.now:Int)<n
 ·rw[if_pos e2,if_neg (by decide)]
  unfold kO VO;refine ag func36 rfl ntmps36 rfl ?_;intro F _;refine dm ?_;refine cO ?_ (e:=by exact decide_eq_false e1);refine dB ?_;refine eU ?_ (e:=by exact decide_eq_true e2);refine bE ?_;refine Rt [af a 132 [CO CN k.now,CO CN k.kP,CO CJ k.cut]] results36 ?_;exact⟨rfl,rfl⟩
 rw[if_neg e2,if_pos rfl];obtain⟨m,rfl⟩:∃m:Nat,n=(m:Int):=⟨n.toNat,by omega⟩;have hp:=K.p;have hf:=yD a {k with now:=k.now+m} (by show k.now+m<=_;omega) 0 bh hi (by decide);unfold Ck.tick;dsimp only;rw[Int.toNat_natCast];unfold kO VO at hf⊢;refine ag func36 rfl ntmps36 rfl ?_;intro F _;refine dm ?_;refine cO ?_ (e:=by exact decide_eq_false e1);refine dB ?_;refine cO ?_ (e:=by exact decide_eq_false e2);by_cases g1:0<k.kP
 ·refine Bw ?_
  refine gz ?_;refine aw ?_;refine hJ 16 mix (.cons .here .nil) λF1 jf bZ aN=> ?_;obtain⟨q1,_⟩:=bZ;refine bG ?_;refine zt 29 ?_;refine bM ?_;refine gd aN ?_;refine av ?_;by_cases g2:k.kP<=k.now+m
  ·rw[if_pos ⟨g1,g2⟩]
   refine eU ?_;refine bz ?_;refine zl CF (hf) (.cons .here .nil) CI ?_;refine bE ?_;refine Rt [af a 132 (VO (Ck.flush {k with now:=k.now+m} 0 bh))] results36 ?_;exact⟨rfl,rfl⟩
  rw[if_neg (λg=>g2 g.2)];refine cO ?_;refine bG ?_;refine Rt [af a 132 [CO CN ((k.now:Int)+(m:Int)),CO CN k.kP,CO CJ k.cut]] results36 ?_;exact⟨rfl,rfl⟩
 rw[if_neg (λg=>g1 g.1)];refine fq ?_;refine aw ?_;refine hJ 16 mix (.cons .here .nil) λF2 yO ez cQ=> ?_;obtain⟨q1,_⟩:=ez;refine bG ?_;refine zf 29 ?_;refine bM ?_;refine gd cQ ?_;refine dm ?_;refine Rt [af a 132 [CO CN ((k.now:Int)+(m:Int)),CO CN k.kP,CO CJ k.cut]] results36 ?_;exact⟨rfl,rfl⟩
end Go.Proofs.YtcbcjolpdljbiaaGreat
namespace Go.Proofs.YtcbcjolpdljbiaaGreat
open Go Go.dG Go.Proofs.YtcbcjolpdljbiaaGreat.Cs
section
variable {P:Program} {n:Nat} {ds:List Deferred} {F:dC} {σ:aZ} {o:Oper}
theorem EV{t e sz k:Nat}(ht:AY P t=some (k,e,sz)):P.underlying t=some (.array k e):=by
 unfold AY at ht;cases hu:P.underlying t with
 |none=>simp[hu]at ht
 |some dsc=>
  cases dsc<;>simp[hu]at ht
  rename_i k' e'
  cases hi:P.info? e' with
  |none=>simp[hi]at ht
  |some inf=>
   simp[hi]at ht;obtain⟨rfl,rfl,rfl⟩:=ht;rfl
theorem Iag{t e sz sz' k j:Nat}{x y:Operand}{kd:IntKind}{z:Int}{cs vs:List Value}(ht:AY P t=some (k,e,sz'))(he:cG P e=some sz)(ho:o.op= .index t x y:=by exact rfl)(hx:bJ σ x=some (.agg cs.toArray):=by exact rfl)(hy:bJ σ y=some (.int kd z):=by exact rfl)(hj:z=(j:Int):=by exact rfl)
  (hl:j<k:=by omega) (hv:(cs.drop (j*sz)).take sz=vs:=by first|assumption|exact rfl):Yv P n ds F σ o (.agg vs.toArray):=λa w en fr=>by
 obtain⟨h1,h2⟩:=fy (w:=w) he;subst hj;have e:cs.toArray.extract (j*sz) (j*sz+sz)=vs.toArray:=by
  rw[<-hv];simp[List.take_drop]
 simp[execOp,ho,Instr.index,en.eval hx,en.eval hy,asIntOf,run_underlying (EV ht),hl,part,h1,h2,e];exact hv
theorem Ias{t e sz k j:Nat}{x y:Operand}{kd:IntKind}{z:Int}{cs:List Value}{v:Value}(ht:AY P t=some (k,e,sz))(he:db P e=true)(ho:o.op= .index t x y:=by exact rfl)(hx:bJ σ x=some (.agg cs.toArray):=by exact rfl)(hy:bJ σ y=some (.int kd z):=by exact rfl)(hj:z=(j:Int):=by exact rfl)
  (hl:j<k:=by omega) (hv:cs[j]?=some v:=by first|assumption|exact rfl):Yv P n ds F σ o v:=λa w en fr=>by
 obtain⟨h1,h2⟩:=qI (w:=w) he;subst hj;simp[execOp,ho,Instr.index,en.eval hx,en.eval hy,asIntOf,run_underlying (EV ht),hl,part,h1,h2,hv]
theorem Fnn{t yt:TypeId}{x y:Operand}{f:Fn}{a c:Array Value}(ht:(P.underlying t).map (λd=>match d with| .func .. =>true|_=>false)=some true)(ho:o.op= .binOp .neq t x y yt:=by exact rfl)(hx:bJ σ x=some (.func f a c):=by exact rfl)(hy:bJ σ y=some .nilFunc:=by exact rfl):Yv P n ds F σ o (.bool true):=λw0 w en _=>by
 cases hu:P.underlying t with
 |none=>simp[hu]at ht
 |some d=>
  cases d<;>simp[hu]at ht;have h:∀k:Nat,(Op.equalIn (k+1) t (.func f a c) .nilFunc).run P w= .ok false w:=λk=>by simp[Op.equalIn,run_underlying hu]
  have r:(Go.binOp .neq t (.func f a c) .nilFunc).run P w= .ok (.bool true) w:=by
   simp only[Go.binOp];simp[Op.equal,Op.maxDepth,h 9999]
  simp only[execOp,ho,en.eval hx,en.eval hy,Sem.run_bind,eqGuard_at_func,Sem.run_pure,r,Result.andThen_ok]
end
theorem GP:(aaO.underlying 135).map (λd=>match d with| .func .. =>true|_=>false)=some true:=by kernel_rfl
theorem ae7:AY aaO 276=some (3,275,2):=by kernel_rfl
theorem afh:cG aaO 275=some 2:=by kernel_rfl
def zm (C:Cs)(Q:List (List Nat))(c hot warm:Nat):Option Nat:=
 if o0 Q c 1 hot then some 1 else if o0 Q c 2 warm then some 2 else if xp C Q c then some 3 else none
theorem U5{C:Cs}{Q:List (List Nat)}{c hot warm s:Nat}(h:zm C Q c hot warm=some s):(1<=s/\s<=3)/\∃p,(ql Q (qi c s)).getLast?=some p:=by
 have ne:∀l:List Nat,0<l.length->∃p,l.getLast?=some p:=λl h=>by
  cases l with
  |nil=>simp at h
  |cons a l=>exact⟨_,List.getLast?_cons ..⟩
 unfold zm at h
 split at h
 ·next g=>
  cases h;unfold o0 at g;exact⟨by omega,ne _ (by have:=of_decide_eq_true g;omega)⟩
 split at h
 ·next g=>
  cases h;unfold o0 at g;exact⟨by omega,ne _ (by have:=of_decide_eq_true g;omega)⟩
 split at h
 ·next g=>
  cases h;unfold xp at g;refine⟨by omega, ?_⟩;cases e:(ql Q (qi c 3)).getLast? with
  |none=>rw[e]at g;cases g
  |some p=>exact⟨p,rfl⟩
 cases h
def toQ (A:By)(p:Nat):Nat:=if C7 A p then 2 else 3
def pH (C:Cs)(Q:List (List Nat))(c s p:Nat):List (List Nat):=wZ Q (qi c s) ((ql Q (qi c s)).length-1) (qi c (toQ C.A p)) p
theorem RS{l:List Nat}(nd:l.Nodup){p:Nat}(h:p∈l):ahd l p≠some p:=λe=>by
 unfold ahd at e;obtain⟨i1,i2⟩:=Cr h;generalize l.idxOf p=k at*;rcases k with _|k
 ·cases e
 have:=iC nd e i2;omega
theorem Jz{Q:List (List Nat)}{i j k p q m:Nat}(hi:i<Q.length)(hj:j<Q.length)(hq:q≠p)(h:q∈ql Q m)(hk:(ql Q i)[k]?=some p):q∈ql (wZ Q i k j p) m:=by
 have wk:∀u,q∈ql Q u->q∈ql (Q.set i ((ql Q i).eraseIdx k)) u:=λu hu=>by
  rw[fG hi]
  split
  ·next e=>
   rw[e]at hu;rw[ajB];obtain⟨v,hv,ev⟩:=aft hu;refine⟨v,λg=>hq ?_,aaR.2 ⟨hv,ev⟩⟩;have h1:(ql Q i)[k]?=some q:=by rw[<-g];exact aaR.2 ⟨hv,ev⟩
   rw[hk]at h1;exact(Option.some.inj h1).symm
  exact hu
 unfold wZ;rw[fG (by rw[aaY];exact hj)]
 split
 ·next e=>rw[<-e];exact aaW _ (wk m h)
 exact wk m h
theorem Yd{n:Nat}{Q:List (List Nat)}{x:Cw}(X:dh n Q x)(nd:∀i,(ql Q i).Nodup){i j k p:Nat}(hi:i<Q.length)(hj:j<Q.length)(hk:(ql Q i)[k]?=some p):dh n (wZ Q i k j p) (x.left Q p):=by
 have L:=X.left p;refine⟨L.go,L.no,λq hq=> ?_,L.lf⟩;obtain⟨h1,h2⟩:=L.nx q hq;refine⟨Jz hi hj (λe=> ?_) h1 hk,h2⟩;subst e;unfold Cw.left at hq h1
 split at hq
 ·next g=>
  rw[if_pos g]at h1;have hp:=(X.nx q g).1;unfold Cw.pass at hq;rw[g]at hq;dsimp only at hq
  split at hq
  ·exact RS (nd _) hp hq
  cases hq
 next g=>exact g hq
structure RU (C:Cs)(n p:Nat)(A:By)(Q:List (List Nat))(x:Cw):Prop where
 o:iR (C.wA A) Q
 d:cX C C.A A (SL p)
 mr:dz A p=mkSet (dz C.A p) false
 x:dh n Q x
def ZT (cr:Nat):Value:= .func (.func 92) #[CM cr] #[]
def ruF (j:Nat):Nat:=if j=0 then 257 else if j=1 then 258 else 259
theorem acJ (j:Nat)(h:j<3):(ruC.drop (j*2)).take 2= [CO CN (j+1:Nat), .func (.func (ruF j)) #[] #[]]:=by
 have:j=0\/j=1\/j=2:=by omega
 rcases this with rfl|rfl|rfl<;>rfl
def V8 (C:Cs)(Q:List (List Nat))(c hot warm j:Nat):Bool:=if j=0 then o0 Q c 1 hot else if j=1 then o0 Q c 2 warm else xp C Q c
theorem Xe (a q b qb hot warm:Nat)(C:Cs)(K:Ok C)(Q:List (List Nat))(O:iR C Q)(M:MkQ C Q)(c:Nat)(hc:c<C.ae.length)(hh:hot<=100)(hw:warm<=100)(j:Nat)(hj:j<3):
  aC aaO (ruF j)=true/\aO aaO (ruF j) [CM a,CO CN c] (λh=>In (Cl b C) h/\In (jb a b q hot warm) h/\gP (qY q b qb C Q) h) [] (λv H=>v= .bool (V8 C Q c hot warm j)/\H= []):=by
 have:j=0\/j=1\/j=2:=by omega
 rcases this with rfl|rfl|rfl
 ·exact⟨(CF (n:=257)),(Fh a q b qb hot warm C K Q O c hc hh).inp λk h=>⟨h.2.1,h.2.2⟩⟩
 ·exact⟨(CF (n:=258)),(akH a q b qb hot warm C K Q O c hc hw).inp λk h=>⟨h.2.1,h.2.2⟩⟩
 exact⟨(CF (n:=259)),T0 a q b qb hot warm C K Q O M c hc⟩
theorem U7{C:Cs}{Q:List (List Nat)}{c hot warm:Nat}(h:∀i,i<3->V8 C Q c hot warm i=false):zm C Q c hot warm=none:=by
 have h0:=h 0 (by omega);have h1:=h 1 (by omega);have h2:=h 2 (by omega);unfold V8 at h0 h1 h2;unfold zm;rw[if_pos rfl]at h0;rw[if_neg (by decide),if_pos rfl]at h1;rw[if_neg (by decide),if_neg (by decide)]at h2;rw[h0,h1,h2];rfl
theorem U6{C:Cs}{Q:List (List Nat)}{c hot warm j:Nat}(hj:j<3)(h:∀i,i<j->V8 C Q c hot warm i=false)(t:V8 C Q c hot warm j=true):zm C Q c hot warm=some (j+1):=by
 have:j=0\/j=1\/j=2:=by omega
 unfold zm;rcases this with rfl|rfl|rfl
 ·unfold V8 at t
  rw[if_pos rfl]at t;rw[t];rfl
 ·have h0:=h 0 (by omega)
  unfold V8 at t h0;rw[if_pos rfl]at h0;rw[if_neg (by decide),if_pos rfl]at t;rw[h0,t];rfl
 have h0:=h 0 (by omega);have h1:=h 1 (by omega);unfold V8 at t h0 h1;rw[if_pos rfl]at h0;rw[if_neg (by decide),if_pos rfl]at h1;rw[if_neg (by decide),if_neg (by decide)]at t;rw[h0,h1,t];rfl
theorem TX (a q b qb hot warm cr w:Nat)(dv tv:Value)(C:Cs)(K:Ok C)(Q:List (List Nat))(O:iR C Q)(M:MkQ C Q)(c:Nat)(hc:c<C.ae.length)(hh:hot<=100)(hw:warm<=100)(x:Cw)(X:dh C.ae.length Q x):
  aO aaO 139 [CM a,CO CN c,ZT cr] (In (jb a b q hot warm)) [Cl b C,af q 182 (fC b qb C.ae.length),af qb 333 (Q.flatMap (cV C)),gh cr q w C.ae.length dv tv C x]
   (λv H=>(zm C Q c hot warm=none/\v= .bool false/\H= [Cl b C,af q 182 (fC b qb C.ae.length),af qb 333 (Q.flatMap (cV C)),gh cr q w C.ae.length dv tv C x])\/
    ∃s p A,zm C Q c hot warm=some s/\(ql Q (qi c s)).getLast?=some p/\v= .bool true/\
     H= [Cl b (C.wA A),af q 182 (fC b qb C.ae.length),af qb 333 ((pH C Q c s p).flatMap (cV C)),gh cr q w C.ae.length dv tv C (x.left Q p)]/\RU C C.ae.length p A (pH C Q c s p) (x.left Q p)):=by
 refine ag func139 rfl ntmps139 rfl ?_;rintro F wB;have hl:=wB;unfold jb Iy at hl;refine bE ?_;refine zl CF (SU) .nil CI ?_;refine bz ?_;refine Lo (ι:=Nat) [14,15,8,16,17,18,19,20,21,23,24,25,26,27,28,29,30,22,31,32,9,10,33,34,6,11,35,36,37,38,39,40,41,42,43,44,45,46,47,48,49,50,51,52,53,13] (λj=>j<=3/\∀i,i<j->V8 C Q c hot warm i=false) (λj=> [(13,CO CN j)]) (λj=> [Cl b C,af q 182 (fC b qb C.ae.length),af qb 333 (Q.flatMap (cV C)),gh cr q w C.ae.length dv tv C x]) (λj=>3-j) (0) ⟨afk 3,λi h=>absurd h (Nat.not_lt_zero _)⟩ ?_;rintro j hI;obtain⟨hj3,mD⟩:=hI;by_cases hj:j<3
 ·have hru:=acJ j hj
  obtain⟨kW,ah6⟩:=Xe a q b qb hot warm C K Q O M c hc hh hw j hj;refine bz ?_;refine aw ?_;refine eU ?_;refine bE ?_;refine Li (Iag ae7 afh) ?_;refine Lp (oA P4 λb1=> ?_);refine dm ?_;refine Lp (Y9 kW rfl rfl rfl ah6 .nil (λ_ le ao=>⟨ao.nth 1 rfl,In.mono wB le,ao.nth 2 rfl,ao.nth 3 rfl,trivial⟩) λv H' hr=> ?_);obtain⟨rfl,rfl⟩:=hr;refine aX ?_;refine bA ?_;refine aE rfl ?_ ?_
  ·intro Gd
   replace Gd:=aS Gd;refine bR ?_;refine aF ?_;refine Ro (j+1) (⟨hj,λi hi=>(by by_cases e:i=j;exact e▸Gd;exact mD i (by omega))⟩) ((by omega))
  intro Gd;replace Gd:=aS Gd;have hds:=U6 hj mD Gd;obtain⟨hs,p,zR⟩:=U5 hds;have zF:=afU zR;have P:gD C (some p):=O.FL (i:=qi c (j+1)) λy hy=>by cases hy;exact zF
  have L:=(P p rfl).1;have sS:(ql Q (qi c (j+1)))[(ql Q (qi c (j+1))).length-1]?=some p:=by rw[<-af5];exact zR
  have cR:C.cl p=c:=by
   have h:=O.st _ p zF;have h3:=h.2.2;unfold qi at h3;omega
  have hmp:=M _ p zF;have tl:=tM q b qb C K Q O c (j+1) hc hs;rw[zR,cm]at tl;refine bA ?_;refine aw ?_;refine hJ 12 mix (.cons .here .nil) λF1 jf bZ aN=> ?_;obtain⟨q1,_⟩:=bZ;have hl1:=In.mono hl jf;refine bR ?_;refine Tp (oC CF rfl rfl (tl) .nil (λ_ le ao=>⟨ao.nth 1 rfl,ao.nth 2 rfl,trivial⟩) ?_);rintro v H' ⟨rfl,rfl⟩;refine aX ?_;refine bm ?_;refine gd aN ?_;refine ri ?_;refine zl CF (sK a b q hot warm C K p L (P.kl p rfl) hmp) .nil (λ_ le ao=>⟨ao.nth 1 rfl,In.mono wB le⟩) ?_;refine av ?_;refine dt (ι:=Nat) [11] (λt=>t=toQ C.A p) (λt=> [(11,CO CN t)]) (λt=> [Cl b C,af q 182 (fC b qb C.ae.length),af qb 333 (Q.flatMap (cV C)),gh cr q w C.ae.length dv tv C x]) ?_ ?_
  ·refine aE rfl ?_ ?_
   ·intro VN
    replace VN:=aS VN;refine bA ?_;refine aF ?_;refine Me (2) ((by unfold toQ;rw[if_pos VN]))
   intro VN;replace VN:=aS VN;refine av ?_;refine Me (3) ((by unfold toQ;rw[if_neg (by rw[VN];decide)]))
  rintro t ht;have ht3:1<=t/\t<=3:=by rw[ht];unfold toQ;split<;>omega
  have hlen1:(ql Q (qi c (j+1))).length-1<(ql Q (qi c (j+1))).length:=by have:=List.length_pos_of_mem zF;omega
  have Oc:=ny O hc hs;have yX:=ny O hc ht3;have X2:=Yd X O.nd (j:=qi c t) Oc yX sS;have lf:=ES cr q w C.ae.length b qb dv tv C K Q O x X p L;have sh:=LG q b qb C K Q O (qi c (j+1)) ((ql Q (qi c (j+1))).length-1) p t ht3 sS;rw[cR]at sh;have hsq:pH C Q c (j+1) p=wZ Q (qi c (j+1)) ((ql Q (qi c (j+1))).length-1) (qi c t) p:=by unfold pH;rw[ht]
  generalize Zc:x.left Q p=x2 at*;generalize wZ Q (qi c (j+1)) ((ql Q (qi c (j+1))).length-1) (qi c t) p=Q2 at*;refine bz ?_;refine Li (Fnn GP) ?_;refine bE ?_;refine Lp (Y9 (CF (n:=92)) rfl rfl rfl lf (.cons (.there (.there (.there .here))) .nil) (λ_ le ao=>⟨ao.nth 0 rfl,ao.nth 1 rfl,ao.nth 2 rfl,trivial⟩) λv H' hr=> ?_);obtain⟨rfl,rfl⟩:=hr;refine aX ?_;refine dm ?_;refine Lp (oC CF rfl rfl (sh) (.cons (.there .here) (.cons (.there .here) (.cons (.there .here) .nil))) CI ?_);rintro v H' ⟨rfl,A,rfl,E⟩;refine aX ?_;have P2:gD (C.wA A) (some p):=nB K E.d P (λ_ _ _ s=>s.oq);have hmA:dz A p=dz C.A p:=Cg K E.d L (by unfold SQ;omega);refine bm ?_;refine zl CF (x4 a b q hot warm (C.wA A) (K.wA A) p (P2 p rfl).1 (P2.kl p rfl) (by rw[cK,hmA];exact hmp) false) (.cons .here .nil) (λ_ le ao=>In.mono wB le) ?_;refine bM ?_;refine Rt [Cl b (C.wA (vX A p false)),af q 182 (fC b qb C.ae.length),af qb 333 (Q2.flatMap (cV C)),gh cr q w C.ae.length dv tv C x2] results139 ?_;refine .inr ⟨j+1,p,vX A p false,hds,zR,rfl,(by rw[hsq,Zc]), ?_, ?_, ?_, ?_⟩
  ·rw[hsq];exact ZI (K.wA A) E.o (P2 p rfl).1 false
  ·exact(E.d.mono λq o s=>by unfold SQ at s;unfold SL;omega).trans ((Wo (K.wA A) A (P2 p rfl).1 false).wA.mono λq o s=>by unfold SM at s;unfold SL;omega)
  ·rw[IJ K A L L,if_pos rfl,hmA]
   have:=mj hmp false;omega
  rw[hsq,Zc];exact X2
 refine gK ?_;refine bA ?_;refine aw ?_;refine cO ?_;refine cA ?_;obtain rfl:j=3:=by omega
 refine Rt [Cl b C,af q 182 (fC b qb C.ae.length),af qb 333 (Q.flatMap (cV C)),gh cr q w C.ae.length dv tv C x] results139 ?_;exact .inl ⟨U7 mD,rfl,rfl⟩
end Go.Proofs.YtcbcjolpdljbiaaGreat
namespace Go.Proofs.YtcbcjolpdljbiaaGreat
open Go Go.dG Go.Proofs.YtcbcjolpdljbiaaGreat.Cs
structure nw where
 Q:List (List Nat)
 ac:Nat->Bool
 x:Cw
def PV (s:nw)(c:Nat):Bool:=match(ql s.Q (qi c 3)).getLast? with
 |none=>false
 |some p=>s.ac p
def Gg (s:nw)(c hot warm:Nat):Option Nat:=if o0 s.Q c 1 hot then some 1 else if o0 s.Q c 2 warm then some 2 else if PV s c then some 3 else none
def rF (c hot warm:Nat)(s:nw):Option nw:=match Gg s c hot warm with
 |none=>none
 |some k=>match(ql s.Q (qi c k)).getLast? with
  |none=>none
  |some p=>some ⟨wZ s.Q (qi c k) ((ql s.Q (qi c k)).length-1) (qi c (if s.ac p then 2 else 3)) p,λy=>if y=p then false else s.ac y,s.x.left s.Q p⟩
def lP (c hot warm:Nat):Nat->nw->Nat×nw
 |0,s=>(0,s)
 |k+1,s=>match rF c hot warm s with
  |none=>(0,s)
  |some t=>((lP c hot warm k t).1+1,(lP c hot warm k t).2)
def SB (_q o:Nat):Prop:=4<=o/\o<12\/o=45\/o=46
structure BaI (C:Cs)(A:By)(s:nw):Prop where
 o:iR (C.wA A) s.Q
 x:dh C.ae.length s.Q s.x
 mq:MkQ (C.wA A) s.Q
 ac:∀i,∀p∈ql s.Q i,C7 A p=s.ac p
structure KR (C:Cs)(Q:List (List Nat))(A:By)(s:nw):Prop where
 i:BaI C A s
 d:cX C C.A A SB
 mr:∀y,Live C y->dz A y/2=dz C.A y/2
 mem:∀p,(∃i,p∈ql s.Q i)↔∃i,p∈ql Q i
theorem Ty{Q:List (List Nat)}{i j k p q m:Nat}(hi:i<Q.length)(hj:j<Q.length)(h:q∈ql (wZ Q i k j p) m):q=p\/q∈ql Q m:=by
 have back:∀u,q∈ql (Q.set i ((ql Q i).eraseIdx k)) u->q∈ql Q u:=λu hu=>by
  rw[fG hi]at hu
  split at hu
  ·next e=>rw[e];exact List.mem_of_mem_eraseIdx hu
  exact hu
 unfold wZ at h;rw[fG (by rw[aaY];exact hj)]at h
 split at h
 ·next e=>
  rcases List.mem_cons.1 h with g|g
  ·exact .inl g
  exact .inr (by rw[e];exact back _ g)
 exact .inr (back m h)
theorem ada{Q:List (List Nat)}{i j k p:Nat}(hi:i<Q.length)(hj:j<Q.length):p∈ql (wZ Q i k j p) j:=by
 unfold wZ;rw[fG (by rw[aaY];exact hj),if_pos rfl];exact aaV
theorem afi{A B:By}{x:Nat}(h:dz B x=dz A x):C7 B x=C7 A x:=by unfold C7;rw[h]
theorem YN{C:Cs}{A:By}{s:nw}(I:BaI C A s)(c hot warm:Nat):zm (C.wA A) s.Q c hot warm=Gg s c hot warm:=by
 have:xp (C.wA A) s.Q c=PV s c:=by
  unfold xp PV;cases e:(ql s.Q (qi c 3)).getLast? with
  |none=>rfl
  |some p=>exact I.ac _ p (afU e)
 unfold zm Gg;rw[this]
theorem KR.step{C:Cs}(K:Ok C){Q:List (List Nat)}{A B:By}{s:nw}(O:KR C Q A s){c hot warm k p:Nat}(hc:c<C.ae.length)(hd:Gg s c hot warm=some k)(hk:1<=k/\k<=3)(hl:(ql s.Q (qi c k)).getLast?=some p)
  (T:RU (C.wA A) C.ae.length p B (pH (C.wA A) s.Q c k p) (s.x.left s.Q p)):
  ∃t,rF c hot warm s=some t/\t.Q=pH (C.wA A) s.Q c k p/\t.x=s.x.left s.Q p/\KR C Q B t:=by
 have zF:=afU hl;have VN:C7 A p=s.ac p:=O.i.ac _ p zF;have hQ:wZ s.Q (qi c k) ((ql s.Q (qi c k)).length-1) (qi c (if s.ac p then 2 else 3)) p=pH (C.wA A) s.Q c k p:=by
  unfold pH toQ;rw[cK,VN]
 have L:Live C p:=by
  have:=O.i.o.lv _ p zF;exact⟨⟨this.i,this.own,this.al,this.k⟩,this.tk⟩
 have Oc:qi c k<s.Q.length:=ny O.i.o hc hk;have yX:qi c (toQ A p)<s.Q.length:=ny O.i.o hc (by unfold toQ;split<;>omega);have uq:∀y,Live C y->y≠p->dz B y=dz A y:=λy hy ne=>Cg (K.wA A) T.d (hy.wA A) (by unfold SL;omega);have lvS:∀i,∀y∈ql (pH (C.wA A) s.Q c k p) i,Live C y:=λi y hy=>by
  have:=T.o.lv i y hy;exact⟨⟨this.i,this.own,this.al,this.k⟩,this.tk⟩
 have hpB:=T.mr;have agS:=O.i.mq _ p zF;rw[cK]at hpB agS;have vA:∀i,∀y∈ql (pH (C.wA A) s.Q c k p) i,y=p\/y∈ql s.Q i:=λi y hy=>Ty Oc yX hy;refine⟨⟨pH (C.wA A) s.Q c k p,λy=>if y=p then false else s.ac y,s.x.left s.Q p⟩, ?_,rfl,rfl,⟨⟨T.o,T.x,λi y hy=> ?_,λi y hy=> ?_⟩, ?_,λy hy=> ?_,λy=> ?_⟩⟩
 ·unfold rF
  rw[hd];dsimp only;rw[hl];dsimp only;rw[hQ]
 ·show dz B y<16
  by_cases e:y=p
  ·rw[e,hpB];exact mj agS false
  rw[uq y (lvS i y hy) e];rcases vA i y hy with g|g
  ·exact absurd g e
  exact O.i.mq i y g
 ·show C7 B y=if y=p then false else s.ac y
  by_cases e:y=p
  ·rw[if_pos e,e]
   unfold C7;rw[hpB];unfold mkSet;exact decide_eq_false (by simp)
  rw[if_neg e,afi (uq y (lvS i y hy) e)];rcases vA i y hy with g|g
  ·exact absurd g e
  exact O.i.ac i y g
 ·exact O.d.trans (T.d.wA.mono λq o g=>by unfold SL at g;unfold SB;omega)
 ·by_cases e:y=p
  ·rw[e,hpB,<-O.mr p L]
   unfold mkSet;simp
  rw[uq y hy e,O.mr y hy]
 rw[<-O.mem y]
 constructor
 ·rintro⟨i,hy⟩
  rcases vA i y hy with g|g
  ·exact⟨_,by rw[g];exact zF⟩
  exact⟨i,g⟩
 rintro⟨i,hy⟩;by_cases e:y=p
 ·exact⟨qi c (toQ A p),by rw[e];exact ada Oc yX⟩
 exact⟨i,Jz Oc yX e hy (by rw[<-af5];exact hl)⟩
theorem Fi (a q b qb hot warm cr w:Nat)(dv tv:Value)(C:Cs)(K:Ok C)(s0:nw)(I:BaI C C.A s0)(c:Nat)(hc:c<C.ae.length)(hh:hot<=100)(hw:warm<=100)(jj:Nat)(hl:jj<=1048576):
  aO aaO 91 [CM a,CO CN c,CO CN jj,ZT cr] (In (jb a b q hot warm)) [Cl b C,af q 182 (fC b qb C.ae.length),af qb 333 (s0.Q.flatMap (cV C)),gh cr q w C.ae.length dv tv C s0.x]
   (λv H=>∃n A t,lP c hot warm jj s0=(n,t)/\v=CO CN n/\
     H= [Cl b (C.wA A),af q 182 (fC b qb C.ae.length),af qb 333 (t.Q.flatMap (cV C)),gh cr q w C.ae.length dv tv C t.x]/\KR C s0.Q A t):=by
 refine ag func91 rfl ntmps91 rfl ?_;rintro F wB;refine dm ?_;refine Lo (ι:=Nat×By×nw) [10,11,12,13,14,15,16,17,18,19,20,9] (λs=>KR C s0.Q s.2.1 s.2.2/\s.1<=jj/\lP c hot warm jj s0=(s.1+(lP c hot warm (jj-s.1) s.2.2).1,(lP c hot warm (jj-s.1) s.2.2).2)) (λs=> [(9,CO CN s.1)]) (λs=> [Cl b (C.wA s.2.1),af q 182 (fC b qb C.ae.length),af qb 333 (s.2.2.Q.flatMap (cV C)),gh cr q w C.ae.length dv tv C s.2.2.x]) (λs=>jj-s.1) ((0,C.A,s0)) ⟨⟨I,cX.refl _ _ _,λy _=>rfl,λp=>Iff.rfl⟩,afk _,by simp⟩ ?_;rintro⟨n,A,t⟩ hI;dsimp only at hI⊢;obtain⟨B,hn,hb⟩:=hI;by_cases cL:n<jj
 ·have st:=TX a q b qb hot warm cr w dv tv (C.wA A) (K.wA A) t.Q B.i.o B.i.mq c hc hh hw t.x B.i.x
  rw[YN B.i]at st;refine bG ?_;refine zt 13 ?_;refine bz ?_;refine Lp (oC CF rfl rfl (st) (.cons .here (.cons .here (.cons .here (.cons .here .nil)))) (λ_ le ao=>In.mono wB le) ?_);rintro v H' hr;refine aX ?_;rcases hr with⟨hd,rfl,rfl⟩|⟨k,p,A2,hd,zR,rfl,rfl,T⟩
  ·refine Li Pt ?_
   refine dB ?_;refine Rt [Cl b (C.wA A),af q 182 (fC b qb C.ae.length),af qb 333 (t.Q.flatMap (cV C)),gh cr q w C.ae.length dv tv C t.x] results91 ?_;have hz:lP c hot warm (jj-n) t=(0,t):=by
    obtain⟨m,hm⟩:∃m,jj-n=m+1:=⟨jj-n-1,by omega⟩;rw[hm];unfold lP;have:rF c hot warm t=none:=by unfold rF;rw[hd]
    rw[this]
   exact⟨n,A,t,by rw[hb,hz];rfl,rfl,rfl,B⟩
  have hk:1<=k/\k<=3:=by
   unfold Gg at hd
   split at hd
   ·cases hd;omega
   split at hd
   ·cases hd;omega
   split at hd
   ·cases hd;omega
   cases hd
  obtain⟨u,u1,u2,u3,U⟩:=B.step K hc hd hk zR T;have ah8:lP c hot warm jj s0=(n+1+(lP c hot warm (jj-(n+1)) u).1,(lP c hot warm (jj-(n+1)) u).2):=by
   obtain⟨m,hm⟩:∃m,jj-n=m+1:=⟨jj-n-1,by omega⟩;have e:jj-(n+1)=m:=by omega
   have e2:lP c hot warm (m+1) t=((lP c hot warm m u).1+1,(lP c hot warm m u).2):=by
    show(match rF c hot warm t with|none=>_|some v=>_)=_;rw[u1]
   rw[hb,hm,e,e2];exact Prod.ext (by dsimp only;omega) rfl
  rw[<-u2,<-u3];refine dB ?_;refine Ro ((n+1,A2,u)) (⟨U,cL,ah8⟩) ((by dsimp only;omega))
 obtain rfl:n=jj:=by omega
 refine bG ?_;refine zf 13 ?_;refine ri ?_;refine Rt [Cl b (C.wA A),af q 182 (fC b qb C.ae.length),af qb 333 (t.Q.flatMap (cV C)),gh cr q w C.ae.length dv tv C t.x] results91 ?_;exact⟨n,A,t,by rw[hb,Nat.sub_self];rfl,rfl,rfl,B⟩
structure Sy where
 b:Nat
 ck:Nat
 t:Nat
 lu:Nat
 wh:Nat
 cr:Nat
 mo:Nat
 q:Nat
def pV (a:Nat):Value:=CM a
def iQ (y:Sy)(rest:List Value):List Value:=pV y.b::pV y.ck::pV y.t::pV y.lu::pV y.wh::pV y.cr::pV y.mo::pV y.q::rest
def fm (s:Nat)(y:Sy)(rest:List Value):aa:=af s 96 (iQ y rest)
def uv (A:By)(p:Nat):Nat:=rd A (p+16) 8
def rW (A:By)(p:Nat):Nat:=rd A (p+32) 8
def za (A:By)(k:Ck)(p:Nat):Nat:=if 0<uv A p/\uv A p<=k.now then 2 else if rW A p<=k.cut then 3 else 0
theorem Ah (s:Nat)(y:Sy)(rest:List Value)(C:Cs)(K:Ok C)(k:Ck)(p:Nat)(P:gD C (some p)):
  aO aaO 97 [CM s,CO CJ (C.hd p)] (λh=>In (fm s y rest) h/\In (Cl y.b C) h/\In (kO y.ck k) h) []
   (λv H=>v=CO CN (za C.A k p)/\H= []):=by
 have L:=(P p rfl).1;have I:=(P p rfl).2;unfold za uv rW;refine ag func97 rfl ntmps97 rfl ?_;rintro F ⟨Oa,cR,y6⟩;have hs:=Oa;unfold fm iQ pV at hs;refine bM ?_;refine zl CF (H8 y.b C K p L I.k0 I.exp) .nil (λ_ le _=>In.mono cR le) ?_;refine gz ?_;refine zl CF (AA y.b C K p L I.k0) .nil (λ_ le _=>In.mono cR le) ?_;generalize rd C.A (p+16) 8=e at*;generalize rd C.A (p+32) 8=tk at*;refine dm ?_;refine aw ?_;refine gT true mix ?_;refine bR ?_;refine Tp (oC CF rfl rfl (kH y.ck k) .nil (λ_ le _=>In.mono y6 le) ?_);rintro v H' ⟨rfl,rfl⟩;refine aX ?_;refine bE ?_;refine Tp (oC CF rfl rfl (Vf y.ck k) .nil (λ_ le _=>In.mono y6 le) ?_);rintro v H' ⟨rfl,rfl⟩;refine aX ?_;refine Tp (oC CF rfl rfl (YT e tk k.now k.cut) .nil CI ?_);rintro v H' ⟨rfl,rfl⟩;refine aX ?_;by_cases h1:0<e/\e<=k.now
 ·rw[decide_eq_true (.inl h1),if_pos h1]
  refine Ti Nt ?_;refine bR ?_;refine zt 49 ?_;refine bG ?_;refine zl CF (kH y.ck k) .nil (λ_ le _=>In.mono y6 le) ?_;refine bm ?_;refine eU ?_;refine bG ?_;refine Rt [] results97 ?_;exact⟨rfl,rfl⟩
 rw[if_neg h1];by_cases h2:tk<=k.cut
 ·rw[decide_eq_true (.inr h2),if_pos h2]
  refine Ti Nt ?_;refine bz ?_;by_cases h3:0<e
  ·refine gK ?_
   refine bz ?_;refine zt 49 ?_;refine bG ?_;refine zl CF (kH y.ck k) .nil (λ_ le _=>In.mono y6 le) ?_;refine bm ?_;refine cO ?_;refine bR ?_;refine Rt [] results97 ?_;exact⟨rfl,rfl⟩
  refine gK ?_;refine bz ?_;refine zf 49 ?_;refine C9 ?_;refine Rt [] results97 ?_;exact⟨rfl,rfl⟩
 rw[decide_eq_false (λg=>g.elim h1 h2),if_neg h2];refine Ti Nt ?_;refine cA ?_;refine Rt [] results97 ?_;exact⟨rfl,rfl⟩
theorem D0 (s:Nat)(y:Sy)(rest:List Value)(C:Cs)(K:Ok C)(k:Ck)(p:Nat)(P:gD C (some p)):
  aO aaO 48 [CM s,CO CJ (C.hd p)] (λh=>In (fm s y rest) h/\In (Cl y.b C) h/\In (kO y.ck k) h) []
   (λv H=>v= .bool (decide (za C.A k p≠0))/\H= []):=by
 refine ag func48 rfl ntmps48 rfl ?_;rintro F ⟨Oa,cR,y6⟩;refine bG ?_;refine zl CF (Ah s y rest C K k p P) .nil (λ_ le _=>⟨In.mono Oa le,In.mono cR le,In.mono y6 le⟩) ?_;refine bm ?_;refine Rt [] results48 ?_;refine⟨?_,rfl⟩;by_cases h:za C.A k p=0
 ·rw[h];rfl
 rw[decide_eq_true h,CG];rfl
theorem DZ (s:Nat)(y:Sy)(rest:List Value)(C:Cs)(K:Ok C)(p:Nat)(P:gD C (some p))(hk:kl C.A p<=250):
  aO aaO 187 [CM s,CO CJ (C.hd p)] (λh=>In (fm s y rest) h/\In (Cl y.b C) h) []
   (λv H=>v=CO CN (58+kl C.A p+vl C.A p:Nat)/\H= []):=by
 have L:=(P p rfl).1;have I:=(P p rfl).2;have k0:=I.k0;have hf:=I.fits;have n1:=L.toAt.bn K;have p1:=K.p1;refine ag func187 rfl ntmps187 rfl ?_;rintro F ⟨Oa,cR⟩;have hs:=Oa;unfold fm iQ pV at hs;refine bM ?_;refine zl CF (vQ y.b C K p L I.k0) .nil (λ_ le _=>In.mono cR le) ?_;refine bW ?_;refine zl CF (Er (kl C.A p) (vl C.A p) (by omega) (by omega)) .nil CI ?_;refine bW ?_;refine Rt [] results187 ?_;exact⟨rfl,rfl⟩
structure vv (C D:Cs)(S:Nat->Prop):Prop where
 a:D.A=C.A
 sz:D.ae=C.ae
 lv:∀q,S q->Live C q->Live D q/\D.hd q=C.hd q/\D.cl q=C.cl q
theorem vv.it{C D:Cs}{S:Nat->Prop}(M:vv C D S){q:Nat}(s:S q)(L:Live C q)(I:gO C q):gO D q:=by
 obtain⟨_,_,e⟩:=M.lv q s L;have hz:D.sz (D.cl q)=C.sz (C.cl q):=by rw[e];unfold Cs.sz;rw[M.sz]
 exact⟨by rw[M.a];exact I.k0,by rw[M.a,hz];exact I.fits,by rw[M.a];exact I.exp,by rw[M.a];exact I.tch⟩
theorem vv.qu{C D:Cs}{S:Nat->Prop}(M:vv C D S){Q:List (List Nat)}(O:iR C Q)(h:∀i,∀p∈ql Q i,S p):iR D Q:=
 ⟨by rw[M.sz];exact O.len,λi p hp=>(M.lv p (h i p hp) (O.lv i p hp)).1,λi p hp=>M.it (h i p hp) (O.lv i p hp) (O.it i p hp),λi p hp=>by
  rw[M.a,(M.lv p (h i p hp) (O.lv i p hp)).2.2];exact O.st i p hp,O.nd,λi k hk=>by rw[M.a];exact O.l1 i k hk,λi k hk=>by rw[M.a];exact O.l2 i k hk⟩
theorem vv.tb{C D:Cs}{S:Nat->Prop}(M:vv C D S){W:Tb}(O:dq C W)(h:∀p∈W.all,S p):dq D W:=
 ⟨O.pw,O.po,O.st,O.mp,O.sz,O.Oq,O.sm,O.mv,O.n,O.nd,λx=>by rw[M.a];exact O.li x,λp hp=>(M.lv p (h p hp) (O.lv p hp)).1,λp hp=>M.it (h p hp) (O.lv p hp) (O.it p hp),
  λx p hp=>by rw[M.a];exact O.bu x p hp,λp hp q hq e=>O.kd p hp q hq (by rw[M.a]at e;exact e)⟩
theorem vv.ls{C D:Cs}{S:Nat->Prop}(M:vv C D S){Q:List (List Nat)}(O:iR C Q)(h:∀i,∀p∈ql Q i,S p):Q.flatMap (cV D)=Q.flatMap (cV C):=by
 have one:∀l,(∀p∈l,S p/\Live C p)->cV D l=cV C l:=λl hl=>by
  have ho:∀o:Option Nat,(∀p,o=some p->p∈l)->hO D o=hO C o:=λo hp=>by
   cases o with
   |none=>rfl
   |some p=>
    have:=hl p (hp p rfl);rw[cm,cm,(M.lv p this.1 this.2).2.1]
  have h1:=ho l.head? (λp e=>afB e);have h2:=ho l.getLast? (λp e=>afU e);show [Value.int .u64 (hO D l.head?:Int),Value.int .u64 (hO D l.getLast?:Int),Value.int .i64 (l.length:Int)]= [Value.int .u64 (hO C l.head?:Int),Value.int .u64 (hO C l.getLast?:Int),Value.int .i64 (l.length:Int)];generalize hO D l.head?=x1 at*;generalize hO D l.getLast?=x2 at*;subst h1;subst h2;rfl
 have:∀(R:List (List Nat)),(∀l∈R,∀p∈l,S p/\Live C p)->R.flatMap (cV D)=R.flatMap (cV C):=λR hR=>by
  induction R with
  |nil=>rw[akj,akj]
  |cons l R ih=>rw[af2,af2,one l (hR l aaV),ih λm hm=>hR m (aaW _ hm)]
 refine this Q λl hl p hp=> ?_;obtain⟨i,hi,e⟩:=aft hl;have e2:ql Q i=l:=by unfold ql;rw[aaP,aaQ hi,e];rfl
 rw[<-e2]at hp;exact⟨h i p hp,O.lv i p hp⟩
theorem vv.cw{C D:Cs}{S:Nat->Prop}(M:vv C D S){Q:List (List Nat)}(O:iR C Q)(h:∀i,∀p∈ql Q i,S p){n:Nat}{x:Cw}(X:dh n Q x)(q w m:Nat)(dv tv:Value):pB q w m dv tv D x=pB q w m dv tv C x:=by
 have:hO D x.nx=hO C x.nx:=by
  cases e:x.nx with
  |none=>rfl
  |some p=>
   have hp:=(X.nx p e).1;rw[cm,cm,(M.lv p (h _ p hp) (O.lv _ p hp)).2.1]
 unfold pB;rw[this]
theorem jB{C:Cs}(K:Ok C){p:Nat}(L:Live C p):vv C (C.bq p) (λq=>q≠p):=by
 obtain⟨K2,S⟩:=gY K L;have hpl:C.pn p<C.bc.length:=by rw[K.pl];exact L.i
 have iD:=λj=>mX (C:=C) (c:=C.cl p) (sp:=C.spare) (x:={C.pg (C.pn p)with tk:=(C.pg (C.pn p)).tk.set (C.ix p) false,held:=(C.pg (C.pn p)).held-1,bd:=(C.pg (C.pn p)).bd.set (C.ix p) ((C.gen p+1) % 4294967296)}) (r:={C.rw (C.cl p)with free:=if(C.pg (C.pn p)).lv=true then(C.rw (C.cl p)).free else(C.rw (C.cl p)).free++ [p],dL:=(C.rw (C.cl p)).dL-1}) (A:=C.A) hpl j;refine⟨rfl,rfl,λq ne M=> ?_⟩;have ecl:=S.cl q;have eix:=S.ix q;have epn:=S.pn q;have key:((C.bq p).pg (C.pn q)).tk[C.ix q]?=(C.pg (C.pn q)).tk[C.ix q]?/\((C.bq p).pg (C.pn q)).bd.getD (C.ix q) 0=(C.pg (C.pn q)).bd.getD (C.ix q) 0/\((C.bq p).pg (C.pn q)).own=(C.pg (C.pn q)).own/\((C.bq p).pg (C.pn q)).bd.length=(C.pg (C.pn q)).bd.length:=by
  have h:=iD (C.pn q);change(C.bq p).pg (C.pn q)=_ at h;rw[h];by_cases e:C.pn q=C.pn p
  ·have fN:C.ix p≠C.ix q:=λg=>ne (by
    have h1:=(L.toAt.bn K).2.2.2.2.2.1;have h2:=(M.toAt.bn K).2.2.2.2.2.1;have hc:C.cl q=C.cl p:=by unfold Cs.cl;rw[e]
    rw[h1,h2,e,hc,g])
   rw[if_pos e,e];refine⟨?_, ?_,rfl,by simp⟩
   ·show((C.pg (C.pn p)).tk.set (C.ix p) false)[C.ix q]?=_
    rw[afA fN]
   show((C.pg (C.pn p)).bd.set (C.ix p) _).getD (C.ix q) 0=_;rw[aaP,aaP,afA fN]
  rw[if_neg e];exact⟨rfl,rfl,rfl,rfl⟩
 obtain⟨k1,k2,k3,k4⟩:=key;have e1:(C.bq p).pg ((C.bq p).pn q)=(C.bq p).pg (C.pn q):=by rw[epn]
 refine⟨⟨⟨by rw[epn];exact M.i,by rw[e1,k3];exact M.own, ?_,by rw[eix,e1,k4];exact M.k⟩,by rw[eix,e1,k1];exact M.tk⟩, ?_,ecl⟩
 ·rw[ecl,S.sz];exact M.al
 unfold Cs.hd Cs.gen;rw[eix,e1,k2]
structure Sv where
 c:nZ
 p:um
 bh:Nat
 eW:Nat
 mt:Mt
 wa:Option Addr
 wn:Nat
 wc:Nat
def iZ (z:Int):Value:=CO CN z
def fb (v:Sv):List Value:= [iZ v.c.aj,iZ v.c.pgs,iZ v.c.fac,iZ v.c.bj,iZ v.c.lim,iZ v.c.hot,iZ v.c.warm,iZ v.p.b,iZ v.p.l,iZ v.p.c,iZ v.p.m,CO CJ v.bh,CO CN v.eW,iZ v.mt.dr,iZ v.mt.re,iZ v.mt.bu,iZ v.mt.li,iZ v.mt.lo,iZ v.mt.cr,iZ v.mt.mv, .slice v.wa v.wn v.wc]
theorem Cj{n:Nat}{Q:List (List Nat)}{x:Cw}(X:dh n Q x)(nd:∀i,(ql Q i).Nodup){i k p:Nat}(hi:i<Q.length)(hk:(ql Q i)[k]?=some p):dh n (Q.set i ((ql Q i).eraseIdx k)) (x.left Q p):=by
 have L:=X.left p;refine⟨L.go,L.no,λq hq=> ?_,L.lf⟩;obtain⟨h1,h2⟩:=L.nx q hq;have ne:q≠p:=λe=>by
  subst e;unfold Cw.left at hq
  split at hq
  ·next g=>
   have hp:=(X.nx q g).1;unfold Cw.pass at hq;rw[g]at hq;dsimp only at hq
   split at hq
   ·exact RS (nd _) hp hq
   cases hq
  next g=>exact g hq
 refine⟨?_,h2⟩;rw[fG hi]
 split
 ·next e=>
  rw[e]at h1;rw[ajB];obtain⟨v,hv,ev⟩:=aft h1;refine⟨v,λg=>ne ?_,aaR.2 ⟨hv,ev⟩⟩;have h1:(ql Q i)[k]?=some q:=by rw[<-g];exact aaR.2 ⟨hv,ev⟩
  rw[hk]at h1;exact(Option.some.inj h1).symm
 exact h1
structure aaN (C:Cs)(p:Nat)(A:By)(Q:List (List Nat))(x:Cw):Prop where
 k:Ok ((C.wA A).bq p)
 s:vv (C.wA A) ((C.wA A).bq p) (λq=>q≠p)
 o:iR ((C.wA A).bq p) Q
 d:cX C C.A A (SQ p)
 x:dh C.ae.length Q x
 no:∀i,p∉ql Q i
theorem Jg (s qb hot warm:Nat)(dv tv:Value)(y:Sy)(v:Sv)(C:Cs)(K:Ok C)(Q:List (List Nat))(O:iR C Q)(x:Cw)(X:dh C.ae.length Q x)(E:List En)(tn i k p:Nat)(hk:(ql Q i)[k]?=some p)(Ge:kl C.A p<=250)(hb:58+kl C.A p+vl C.A p<=v.eW)(Zl:v.eW<4611686018427387904):
  aO aaO 131 [CM s,CO CJ (C.hd p)] (In (jb y.lu y.b y.q hot warm)) [Cl y.b C,af y.q 182 (fC y.b qb C.ae.length),af qb 333 (Q.flatMap (cV C)),gh y.cr y.q y.wh C.ae.length dv tv C x,Wl y.wh E tn,fm s y (fb v)]
   (λr H=>r= .tuple #[]/\∃A,H= [Cl y.b ((C.wA A).bq p),af y.q 182 (fC y.b qb C.ae.length),af qb 333 ((Q.set i ((ql Q i).eraseIdx k)).flatMap (cV ((C.wA A).bq p))),gh y.cr y.q y.wh C.ae.length dv tv ((C.wA A).bq p) (x.left Q p),Wl y.wh (eX E (C.hd p)) tn,fm s y (fb {v with eW:=v.eW-(58+kl C.A p+vl C.A p)})]/\
    aaN C p A (Q.set i ((ql Q i).eraseIdx k)) (x.left Q p)):=by
 have hpl:=aaT hk;have P:gD C (some p):=O.FL (i:=i) λz hz=>by cases hz;exact hpl
 have L:=(P p rfl).1;have cL:=(aaR.1 hk).1;have hi:i<Q.length:=by
  have h:=O.st i p hpl;have:=ny O (L.toAt.bn K).1 ⟨h.1,h.2.1⟩;rw[<-h.2.2]at this;exact this
 have X2:=Cj X O.nd hi hk;have lf:=ES y.cr y.q y.wh C.ae.length y.b qb dv tv C K Q O x X p L;generalize Zc:x.left Q p=x2 at*;unfold fm iQ pV fb iZ;refine ag func131 rfl ntmps131 rfl ?_;rintro F hl;refine bR ?_;refine zl CF (lf) (.cons (.there (.there (.there .here))) .nil) (λ_ le ao=>⟨ao.nth 0 rfl,ao.nth 1 rfl,ao.nth 2 rfl,trivial⟩) ?_;refine dm ?_;refine Lp (oC CF rfl rfl (LX y.lu y.q y.b qb hot warm C K Q O i k p hk) (.cons (.there .here) (.cons (.there .here) (.cons (.there .here) .nil))) (λ_ le _=>In.mono hl le) ?_);rintro v H' ⟨rfl,A,rfl,D⟩;refine aX ?_;refine dm ?_;refine zl CF (Vu y.wh E tn (C.hd p)) (.cons (.there (.there (.there (.there .here)))) .nil) CI ?_;have P2:gD (C.wA A) (some p):=nB K D.d P (λ_ _ _ s=>s.oq);have kp:=sy K D.d L.toAt (P p rfl).2 (λ_ s=>s.oq);have sz:=DZ s y (fb v) (C.wA A) (K.wA A) p P2 (by rw[cK,kp.kl];exact Ge);rw[cK,kp.kl,kp.vl]at sz;have L2:Live (C.wA A) p:=L.wA A;obtain⟨G1,G2⟩:=gY (K.wA A) L2;have S:=jB (K.wA A) L2;have mD:∀j,∀z∈ql (Q.set i ((ql Q i).eraseIdx k)) j,z≠p:=λj z hz e=>D.no j (e▸hz);have els:=S.ls D.o mD;have ecr:=S.cw D.o mD X2 y.q y.wh C.ae.length dv tv;generalize hz:58+kl C.A p+vl C.A p=z at*;generalize hQ2:Q.set i ((ql Q i).eraseIdx k)=Q2 at*;refine av ?_;refine aw ?_;refine hJ 8 mix (.cons (.there (.there (.there (.there (.there .here))))) (.cons (.there .here) .nil)) λF1 jf bZ aN=> ?_;obtain⟨q1,q2,_⟩:=bZ;refine bG ?_;refine Tp (oC CF rfl rfl (sz) .nil (λ_ le ao=>⟨In.mono q1 le,In.mono q2 le⟩) ?_);rintro v H' ⟨rfl,rfl⟩;refine aX ?_;refine av ?_;refine gd aN ?_;refine bW ?_;refine zl CF (JW y.b (C.wA A) (K.wA A) p L2) (.cons (.there .here) .nil) CI ?_;refine aF ?_;have e:((v.eW-z:Nat):Int)=(v.eW:Int)-(z:Int):=by omega
 refine jW [Cl y.b ((C.wA A).bq p),af y.q 182 (fC y.b qb C.ae.length),af qb 333 (Q2.flatMap (cV (C.wA A))),af y.cr 137 (pB y.q y.wh C.ae.length dv tv (C.wA A) x2),Wl y.wh (eX E (C.hd p)) tn,af s 96 (iQ y [iZ v.c.aj,iZ v.c.pgs,iZ v.c.fac,iZ v.c.bj,iZ v.c.lim,iZ v.c.hot,iZ v.c.warm,iZ v.p.b,iZ v.p.l,iZ v.p.c,iZ v.p.m,CO CJ v.bh,CO CN ((v.eW:Int)-(z:Int)),iZ v.mt.dr,iZ v.mt.re,iZ v.mt.bu,iZ v.mt.li,iZ v.mt.lo,iZ v.mt.cr,iZ v.mt.mv, .slice v.wa v.wn v.wc])] results131 ?_;refine⟨rfl,A, ?_,G1,S,S.qu D.o mD,D.d,X2,D.no⟩;unfold gh;rw[els,ecr,<-e];rfl
theorem S04{q o:Nat}{S:List Nat}(h:q∈S/\0<=o/\o<0+4):mI o/\(o<4\/12<=o)/\o≠45:=by
 unfold mI;omega
structure ahg (C:Cs)(p:Nat)(D:Cs)(V:Tb)(Q:List (List Nat))(x:Cw):Prop where
 k:Ok D
 t:dq D V
 o:iR D Q
 x:dh C.ae.length Q x
 s:vv (C.wA D.A) D (λq=>q≠p)
 d:cX C C.A D.A (λ_ o=>o<12\/o=45)
 no:∀i,p∉ql Q i
 g:D=(C.bq p).wA D.A
theorem SS (s qb hot warm:Nat)(dv tv:Value)(y:Sy)(v:Sv)(C:Cs)(K:Ok C)(W:Tb)(ty:qw)(TO:dq C W)(hy:ty.ok=none->W.ob= [])(Q:List (List Nat))(O:iR C Q)(x:Cw)(X:dh C.ae.length Q x)(E:List En)(tn i k p:Nat)(hp:p∈W.all)(hk:(ql Q i)[k]?=some p)(Ge:kl C.A p<=250)(hb:58+kl C.A p+vl C.A p<=v.eW)(Zl:v.eW<4611686018427387904):
  aO aaO 85 [CM s,CO CJ (C.hd p)] (In (jb y.lu y.b y.q hot warm)) (Cl y.b C::nq y.t y.b W ty++ [af y.q 182 (fC y.b qb C.ae.length),af qb 333 (Q.flatMap (cV C)),gh y.cr y.q y.wh C.ae.length dv tv C x,Wl y.wh E tn,fm s y (fb v)])
   (λr H=>r= .tuple #[]/\∃D V ty',H=Cl y.b D::nq y.t y.b V ty'++ [af y.q 182 (fC y.b qb C.ae.length),af qb 333 ((Q.set i ((ql Q i).eraseIdx k)).flatMap (cV D)),gh y.cr y.q y.wh C.ae.length dv tv D (x.left Q p),Wl y.wh (eX E (C.hd p)) tn,fm s y (fb {v with eW:=v.eW-(58+kl C.A p+vl C.A p)})]/\
    (ty'.ok=none->V.ob= [])/\W.all.Perm (p::V.all)/\ahg C p D V (Q.set i ((ql Q i).eraseIdx k)) (x.left Q p)/\∃A,Hq C W p A V):=by
 have at_:∀q∈W.all,At C q:=λq hq=>(TO.lv q hq).toAt;unfold fm iQ pV;refine ag func85 rfl ntmps85 rfl ?_;rintro F hl;unfold nq;refine bR ?_;refine Lp (oC CF rfl rfl (Sw y.t y.b C K W ty TO hy p hp) (.cons .here (.cons .here (.cons .here (.cons .here .nil)))) CI ?_);rintro v H' ⟨rfl,A,V,ty',rfl,hy',TK⟩;refine aX ?_;have hpl:=aaT hk;have L:=O.lv i p hpl;have dP:=vE TK.df at_ (λq hq=>by have:=((at_ q hq).bn K).2.1;omega);have kp:=sy K dP L.toAt (O.it i p hpl) (λj g=>(S04 g).1);have O1:=KF K O dP (λj q hq u g=>S04 g);have off:=Jg s qb hot warm dv tv y v (C.wA A) (K.wA A) Q O1 x X E tn i k p hk (by rw[cK,kp.kl];exact Ge) (by rw[cK,kp.kl,kp.vl];exact hb) Zl;rw[cK,kp.kl,kp.vl]at off;have nd2:=(TK.pm.nodup_iff).2 TO.nd;have hnV:∀q∈V.all,q≠p:=λq hq e=>(List.nodup_cons.1 nd2).1 (e▸hq);refine bm ?_;refine Lp (oC CF rfl rfl (off) (.cons .here (.cons (.there (.there (.there .here))) (.cons (.there (.there (.there .here))) (.cons (.there (.there (.there .here))) (.cons (.there (.there (.there .here))) (.cons (.there (.there (.there .here))) .nil)))))) (λ_ le _=>In.mono hl le) ?_);rintro v H' ⟨rfl,B,rfl,OF⟩;refine aX ?_;have T2:=F7 (K.wA A) TK.o OF.d (λq _ j g=>⟨g.oq,by unfold SQ at g;omega⟩);have T3:=OF.s.tb T2 hnV;refine aF ?_;refine jW [Cl y.b (((C.wA A).wA B).bq p),af y.t 154 (fk y.b V ty'),af ty'.nk 149 (aM (aD V.nb)),jH ty'.ok 149 (aM (aD V.ob)),af y.q 182 (fC y.b qb C.ae.length),af qb 333 ((Q.set i ((ql Q i).eraseIdx k)).flatMap (cV (((C.wA A).wA B).bq p))),gh y.cr y.q y.wh C.ae.length dv tv (((C.wA A).wA B).bq p) (x.left Q p),Wl y.wh (eX E (C.hd p)) tn,fm s y (fb {v with eW:=v.eW-(58+kl C.A p+vl C.A p)})] results85 ?_;refine⟨rfl,((C.wA A).wA B).bq p,V,ty',rfl,hy',TK.pm.symm,⟨OF.k,T3,OF.o,OF.x,OF.s, ?_,OF.no,rfl⟩,A,TK⟩;exact(dP.mono λq o g=>by omega).trans (OF.d.wA.mono λq o g=>by unfold SQ at g;omega)
theorem YX:∀m:Nat,m<16->gG .or .i64 (m:Int) 8=some ((m % 8+8:Nat):Int):=by decide+kernel
theorem Vl:∀m:Nat,m<16->gG .andNot .i64 (m:Int) 6=some ((m-m/2 % 4*2:Nat):Int):=by decide+kernel
theorem YY:∀m:Nat,m<16->∀k:Nat,k<4->gG .or .i64 ((m-m/2 % 4*2:Nat):Int) ((k*2:Nat):Int)=some ((m-m/2 % 4*2+k*2:Nat):Int):=by decide+kernel
def abn (A:By)(p now:Nat):By:=wr (wr (vX A p true) (p+46) 1 (mkSet (dz A p) true % 8+8)) (p+24) 8 now
def Qx (A:By)(p k:Nat):By:=wr A (p+46) 1 (dz A p-dz A p/2 % 4*2+k*2)
theorem Lz (s:Nat)(y:Sy)(rest:List Value)(C:Cs)(K:Ok C)(p k:Nat)(hk4:k<4)(P:gD C (some p))(hm:dz C.A p<16):
  aO aaO 127 [CM s,CO CJ (C.hd p),CO CN (k*2:Nat)] (In (fm s y rest)) [Cl y.b C]
   (λv H=>v= .tuple #[]/\H= [Cl y.b (C.wA (Qx C.A p k))]):=by
 have L:=(P p rfl).1;have k0:=P.kl p rfl;have h6:=Vl _ hm;have ho:=YY _ hm k hk4;unfold Qx;unfold dz at*;refine ag func127 rfl ntmps127 rfl ?_;intro F Oa;have hs:=Oa;unfold fm iQ pV at hs;refine bR ?_;refine zl CF (qQ y.b C K p L k0) .nil (λ_ le ao=>ao.1) ?_;generalize rd C.A (p+46) 1=m at*;refine mF ?_;refine ay (t:=25) (v':=(CO CN (m-m/2 % 4*2:Nat))) rfl (by exact congrArg (λx=>Value.int .i64 (x.getD 0)) h6) ?_;refine bA ?_;refine ay (t:=27) (v':=(CO CN (m-m/2 % 4*2+k*2:Nat))) rfl (by exact congrArg (λx=>Value.int .i64 (x.getD 0)) ho) ?_;refine zl CF (lG y.b C K p (m-m/2 % 4*2+k*2) (by omega) L k0) (.cons .here .nil) CI ?_;refine aF ?_;refine jW [Cl y.b (C.wA (wr C.A (p+46) 1 (m-m/2 % 4*2+k*2)))] results127 ?_;exact⟨rfl,rfl⟩
theorem Xb (s hot warm:Nat)(y:Sy)(rest:List Value)(C:Cs)(K:Ok C)(k:Ck)(CK:sZ k)(p:Nat)(P:gD C (some p))(hm:dz C.A p<16)(gB:1<=gJ C.A p/\gJ C.A p<=3):
  aO aaO 122 [CM s,CO CJ (C.hd p)] (λh=>In (fm s y rest) h/\In (jb y.lu y.b y.q hot warm) h/\In (kO y.ck k) h) [Cl y.b C]
   (λv H=>v= .tuple #[]/\H= [Cl y.b (C.wA (abn C.A p k.now))]):=by
 have L:=(P p rfl).1;have k0:=P.kl p rfl;have hn:=CK.n2;have hm2:=mj hm true;have h8:=YX _ hm2;have d1:=Wo K C.A L true;have P1:gD (C.wA (vX C.A p true)) (some p):=nB K d1 P (λ_ _ _ g=>g.oq);have uq:dz (vX C.A p true) p=mkSet (dz C.A p) true:=by
  rw[IJ K C.A L L,if_pos rfl];omega
 have P2:gD (C.wA (wr (vX C.A p true) (p+46) 1 (mkSet (dz C.A p) true % 8+8))) (some p):=by
  have w:cX (C.wA (vX C.A p true)) (vX C.A p true) (wr (vX C.A p true) (p+46) 1 (mkSet (dz C.A p) true % 8+8)) (SM p):=w8 _ (P1 p rfl).1.toAt (by have:=(L.toAt.bn K).2.1;show 46+1<=C.sz (C.cl p);omega) λj h1 h2=>⟨by omega,rfl⟩;exact nB (K.wA _) w P1 (λ_ _ _ g=>g.oq)
 have im:=qQ y.b (C.wA (vX C.A p true)) (K.wA _) p (P1 p rfl).1 (P1.kl p rfl);change aO _ _ _ _ _ (λv H=>v= .tuple #[CO CN (dz (vX C.A p true) p:Nat),CO CN 0]/\H= [])at im;rw[uq]at im;unfold abn;generalize hmm:mkSet (dz C.A p) true=m at*;refine ag func122 rfl ntmps122 rfl ?_;rintro F ⟨Oa,hl,y6⟩;have hs:=Oa;unfold fm iQ pV at hs;refine bR ?_;refine zl CF (Yk y.lu y.b y.q hot warm C K p L k0 hm gB) (.cons .here .nil) (λ_ le _=>In.mono hl le) ?_;refine dm ?_;refine zl CF (im) .nil (λ_ le ao=>ao.1) ?_;refine mF ?_;refine ay (t:=30) (v':=(CO CN (m % 8+8:Nat))) rfl (by exact congrArg (λx=>Value.int .i64 (x.getD 0)) h8) ?_;refine zl CF (lG y.b (C.wA (vX C.A p true)) (K.wA _) p (m % 8+8) (by omega) (P1 p rfl).1 (P1.kl p rfl)) (.cons .here .nil) CI ?_;refine av ?_;refine gT true mix ?_;refine bW ?_;refine Tp (oC CF rfl rfl (kH y.ck k) .nil (λ_ le _=>In.mono y6 le) ?_);rintro v H' ⟨rfl,rfl⟩;refine aX ?_;refine Tp (oC CF rfl rfl (yK y.b (C.wA (wr (vX C.A p true) (p+46) 1 (m % 8+8))) (K.wA _) p k.now (by omega) (P2 p rfl).1 (P2.kl p rfl)) (.cons .here .nil) CI ?_);rintro v H' ⟨rfl,rfl⟩;refine aX ?_;refine Tn ?_;refine jW [Cl y.b (C.wA (wr (wr (vX C.A p true) (p+46) 1 (m % 8+8)) (p+24) 8 k.now))] results122 ?_;exact⟨rfl,rfl⟩
def gL (now:Nat)(t:Int):Nat:=(KK now t).toNat
theorem EH (now:Nat)(t:Int):KK now t=(gL now t:Int):=by
 unfold gL KK
 split
 ·rfl
 split
 ·omega
 ·split<;>omega
theorem Cz (now:Nat)(t:Int)(h:now<=1099511627776)(ht:t<9223372036854775808):gL now t<9223372036854775808:=by
 unfold gL KK
 split
 ·decide
 split
 ·omega
 ·split<;>omega
theorem Lw (s:Nat)(y:Sy)(rest:List Value)(C:Cs)(K:Ok C)(k:Ck)(CK:sZ k)(p:Nat)(P:gD C (some p))(E:List En)(tn:Nat)(t:Int)(ht:t<9223372036854775808)(vq:tn<18446744073709551615)(hE:E.length<2147483647):
  aO aaO 121 [CM s,CO CJ (C.hd p),CO CN t] (λh=>In (fm s y rest) h/\In (kO y.ck k) h) [Cl y.b C,Wl y.wh E tn]
   (λv H=>v= .tuple #[]/\H= [Wl y.wh (lK E (C.hd p) (gL k.now t) tn) (if 0<gL k.now t then tn+1 else tn),Cl y.b (C.wA (wr C.A (p+16) 8 (gL k.now t)))]):=by
 have L:=(P p rfl).1;have k0:=P.kl p rfl;have hx:=Cz k.now t CK.n2 ht;have ex:=AJ k.now t CK.n1 CK.n2;rw[EH]at ex;generalize gL k.now t=e at*;refine ag func121 rfl ntmps121 rfl ?_;rintro F ⟨Oa,y6⟩;have hs:=Oa;unfold fm iQ pV at hs;refine bG ?_;refine zl CF (kH y.ck k) .nil (λ_ le _=>In.mono y6 le) ?_;refine av ?_;refine zl CF (ex) .nil CI ?_;refine bM ?_;refine zl CF (zC y.b C K p e hx L k0) (.cons .here .nil) CI ?_;refine cA ?_;refine zl CF (Kn y.wh E tn (C.hd p) e vq hE) (.cons (.there .here) .nil) CI ?_;refine aF ?_;refine jW [Wl y.wh (lK E (C.hd p) e tn) (if 0<e then tn+1 else tn),Cl y.b (C.wA (wr C.A (p+16) 8 e))] results121 ?_;exact⟨rfl,rfl⟩
structure iz where
 un:List Nat
 st:Nat
 pg:Nat
 fr:Nat
 tt:Nat
 on:Bool
def CQ (b ub:Nat)(dv tv sv:Value)(m:iz):List Value:= [CM b,dv,tv,sv, .slice (some ⟨ub,0,none⟩) m.un.length m.un.length,CO CN m.st,CO CN m.pg,CO CN m.fr,CO CN m.tt, .bool m.on]
def iT (a b ub:Nat)(dv tv sv:Value)(m:iz):aa:=af a 220 (CQ b ub dv tv sv m)
def kL (ub:Nat)(m:iz):aa:=af ub 3 (aA m.un)
def iz.jO (m:iz)(c:Nat):iz:={m with un:=m.un.set c (m.st+64)}
def iz.eP (m:iz)(c:Nat):Bool:=decide (m.st<m.un.getD c 0)
theorem ac9{l:List Nat}{c:Nat}(h:c<l.length):(aA l)[c]?=some (CO CN (l.getD c 0)):=by
 unfold aA;rw[List.getElem?_map,aaP,aaQ h];rfl
theorem XV (l:List Nat)(c v:Nat):(aA l).set c (CO CN v)=aA (l.set c v):=by
 unfold aA;rw[List.map_set]
theorem Fc (a b ub:Nat)(dv tv sv:Value)(m:iz)(c:Nat)(hc:c<m.un.length):
  aO aaO 198 [CM a,CO CN c] (λh=>In (iT a b ub dv tv sv m) h/\In (kL ub m) h) []
   (λv H=>v= .bool (m.eP c)/\H= []):=by
 have w7:=ac9 hc;unfold iz.eP iT CQ kL;refine ag func198 rfl ntmps198 rfl ?_;rintro F ⟨hm,hu⟩;have hr:gg F.h (some ⟨ub,0,none⟩) (aA m.un):=se hu;refine bz ?_;refine aw ?_;refine gT false mix ?_;refine cA ?_;refine Ti (Ix ja) ?_;refine bE ?_;refine Rt [] results198 ?_;exact⟨congrArg Value.bool (decide_eq_decide.2 (by omega)),rfl⟩
theorem Fe (a b ub:Nat)(dv tv sv:Value)(m:iz)(c:Nat)(hc:c<m.un.length)(gB:m.st<4611686018427387904):
  aO aaO 185 [CM a,CO CN c] (In (iT a b ub dv tv sv m)) [kL ub m]
   (λv H=>v= .tuple #[]/\H= [kL ub (m.jO c)]):=by
 have hl:=fg m.un;have De:=XV m.un c (m.st+64);unfold iz.jO iT CQ kL;refine ag func185 rfl ntmps185 rfl ?_;intro F hm;refine bm ?_;refine zt 6 ?_;refine cA ?_;refine eU ?_;refine gT false mix ?_;refine dB ?_;refine Tn ?_;refine jW [af ub 3 ((aA m.un).set c (CO CN ((m.st:Int)+64)))] results185 ?_;exact⟨rfl,by rw[<-De];rfl⟩
def iz.off (m:iz):iz:={m with pg:=0,fr:=0,tt:=0,on:=false}
theorem H5 (a b ub:Nat)(dv tv sv:Value)(m:iz)(c:Nat)(h:¬(m.on=true/\m.fr=c)):
  aO aaO 183 [CM a,CO CN c] (In (iT a b ub dv tv sv m)) []
   (λv H=>v= .bool false/\H= []):=by
 unfold iT CQ;refine ag func183 rfl ntmps183 rfl ?_;intro F hm;rcases ho:m.on with _|_
 ·rw[ho]at hm
  refine dB ?_;refine zt 11 ?_ (e:=by rfl);refine mF ?_;refine Rt [] results183 ?_;exact⟨rfl,rfl⟩
 rw[ho]at hm;refine dB ?_;refine zf 11 ?_ (e:=by rfl);refine cA ?_;refine eU ?_ (e:=by exact congrArg (!·) (decide_eq_false (λg=>h ⟨ho,by omega⟩)));refine bE ?_;refine Rt [] results183 ?_;exact⟨rfl,rfl⟩
theorem TG (a b ub:Nat)(dv tv sv:Value)(C:Cs)(K:Ok C)(m:iz)(c:Nat)(ho:m.on=true)(hf:m.fr=c)(hi:m.pg<C.n)(hw:(C.pg m.pg).own=true)(hl:(C.pg m.pg).lv=true):
  aO aaO 183 [CM a,CO CN c] (λ_=>True) [iT a b ub dv tv sv m,Cl b C]
   (λv H=>v= .bool true/\H= [iT a b ub dv tv sv m.off,Cl b (C.iu m.pg)]):=by
 have st:=W5 b C K m.pg hi hw hl;unfold iT CQ iz.off;rw[ho];dsimp only;refine ag func183 rfl ntmps183 rfl ?_;intro F _;refine dB ?_;refine zf 11 ?_ (e:=by rfl);refine cA ?_;refine cO ?_ (e:=by exact congrArg (!·) (CH));refine bA ?_;refine aw ?_;refine hJ 9 mix (.cons .here .nil) λF1 jf bZ aN=> ?_;obtain⟨q1,_⟩:=bZ;refine cA ?_;refine gd aN ?_;refine Tp (oC CF rfl rfl (st) (.cons (.there .here) .nil) CI ?_);rintro v H' ⟨rfl,rfl⟩;refine aX ?_;refine bG ?_;refine Lp (oSN su ?_);refine bE ?_;refine Rt [af a 220 [CM b,dv,tv,sv, .slice (some ⟨ub,0,none⟩) m.un.length m.un.length,CO CN m.st,CO CN 0,CO CN 0,CO CN 0, .bool false],Cl b (C.iu m.pg)] results183 ?_;exact⟨rfl,rfl⟩
theorem Ve (k:Ck)(h1:1<=k.now)(h2:k.now<=1099511627776)(h3:k.kP=0\/k.now<k.kP)(hp:k.kP<9223372036854775808):
  aO aaO 109 [CO CN k.now,CO CJ k.cut,CO CN k.kP] (λ_=>True) []
   (λv H=>∃a,v= .tuple #[CM a,CO CN 0]/\H= [kO a k]):=by
 unfold kO VO;refine ag func109 rfl ntmps109 rfl ?_;intro F _;refine cA ?_;refine zf 10 ?_;refine bm ?_;refine zf 14 ?_;refine bz ?_;by_cases h0:k.kP=0
 ·refine zf 17 ?_ (e:=by exact congrArg (!·) (CH))
  refine fq ?_;refine Lp (oB λb1=> ?_);refine bm ?_;refine jE [af b1 132 [CO CN k.now,CO CN k.kP,CO CJ k.cut]] results109 ?_;exact⟨b1,rfl,rfl⟩
 refine zt 17 ?_ (e:=by exact congrArg (!·) (CG));refine bG ?_;refine cO ?_;refine bR ?_;refine Lp (oB λb2=> ?_);refine bm ?_;refine jE [af b2 132 [CO CN k.now,CO CN k.kP,CO CJ k.cut]] results109 ?_;exact⟨b2,rfl,rfl⟩
theorem Yj (b q hot warm:Nat)(h1:1<=hot)(h2:1<=warm)(h3:hot+warm<=90):
  aO aaO 60 [CM b,CM q,CO CN hot,CO CN warm] (λ_=>True) []
   (λv H=>∃a,v= .tuple #[CM a,CO CN 0]/\H= [jb a b q hot warm]):=by
 unfold jb Iy;refine ag func60 rfl ntmps60 rfl ?_;intro F _;refine cA ?_;refine zf 12 ?_ (e:=by rfl);refine bm ?_;refine zf 16 ?_ (e:=by rfl);refine bm ?_;refine zf 20 ?_;refine bm ?_;refine zf 24 ?_;refine bm ?_;refine zf 28 ?_;refine bG ?_;refine cO ?_;refine dm ?_;refine Lp (oB λb1=> ?_);refine bm ?_;refine jE [af b1 184 [CM b,CM q,CO CN hot,CO CN warm]] results60 ?_;exact⟨b1,rfl,rfl⟩
theorem Fne{P:Program}{n:Nat}{ds:List Deferred}{F:dC}{σ:aZ}{o:Oper}{t yt:TypeId}{x y:Operand}{f:Fn}{a c:Array Value}(ht:(P.underlying t).map (λd=>match d with| .func .. =>true|_=>false)=some true)(ho:o.op= .binOp .eql t x y yt:=by exact rfl)(hx:bJ σ x=some (.func f a c):=by exact rfl)(hy:bJ σ y=some .nilFunc:=by exact rfl):Yv P n ds F σ o (.bool false):=λw0 w en _=>by
 cases hu:P.underlying t with
 |none=>simp[hu]at ht
 |some d=>
  cases d<;>simp[hu]at ht;have h:∀k:Nat,(Op.equalIn (k+1) t (.func f a c) .nilFunc).run P w= .ok false w:=λk=>by simp[Op.equalIn,run_underlying hu]
  have r:(Go.binOp .eql t (.func f a c) .nilFunc).run P w= .ok (.bool false) w:=by
   simp only[Go.binOp];simp[Op.equal,Op.maxDepth,h 9999]
  simp only[execOp,ho,en.eval hx,en.eval hy,Sem.run_bind,eqGuard_at_func,Sem.run_pure,r,Result.andThen_ok]
theorem GQ:(aaO.underlying 107).map (λd=>match d with| .func .. =>true|_=>false)=some true:=by kernel_rfl
theorem Ke (q w n:Nat)(h1:1<=n)(h2:n<=62)(f g:Fn)(fa fc ga gc:Array Value)(C:Cs):
  aO aaO 111 [CM q,CM w,CO CN n, .func f fa fc, .func g ga gc] (λ_=>True) []
   (λv H=>∃a,v= .tuple #[CM a,CO CN 0]/\H= [gh a q w n (.func f fa fc) (.func g ga gc) C ⟨0,false,0,0,none,0⟩]):=by
 unfold gh pB;refine ag func111 rfl ntmps111 rfl ?_;intro F _;refine cA ?_;refine zf 14 ?_ (e:=by rfl);refine bm ?_;refine zf 18 ?_ (e:=by rfl);refine av ?_;refine Li (Fne GQ) ?_;refine bA ?_;refine zf 22 ?_ (e:=by rfl);refine av ?_;refine Li (Fne GP) ?_;refine bA ?_;refine zf 26 ?_ (e:=by rfl);refine bm ?_;refine zf 30 ?_;refine bm ?_;refine cO ?_;refine cA ?_;refine Lp (oB λb1=> ?_);refine bm ?_;refine jE [af b1 137 [CM q,CM w,CO CN n, .func f fa fc, .func g ga gc,CO CN 0, .bool false,CO CN 0,CO CN 0,CO CJ 0,CO CN 0]] results111 ?_;exact⟨b1,rfl,rfl⟩
def lM (Q:List (List Nat))(c:Nat):List Nat:=(ql Q (qi c 3)).reverse++(ql Q (qi c 2)).reverse++(ql Q (qi c 1)).reverse
def zE (C:Cs)(l:List Nat):List (List Value):=l.map λp=> [Value.int .u64 (C.hd p:Int)]
def alR (C:Cs)(l:List Nat)(p:List (List Value))(x:List Value):Prop:=∃(a:List Nat) (q:Nat) (b:List Nat),l=a++q::b/\p=zE C a/\x= [CO CJ (C.hd q)]
def finR (C:Cs)(l:List Nat)(p:List (List Value)):Prop:=p=zE C l
theorem DY:∀A:List aa,iI A A []
 | []=> .nil
 |_::A=> .cons .here (DY A)
def rn (Q:List (List Nat))(c j:Nat):List Nat:=if j=0 then []else if j=1 then(ql Q (qi c 3)).reverse else if j=2 then(ql Q (qi c 3)).reverse++(ql Q (qi c 2)).reverse else lM Q c
theorem Xg (Q:List (List Nat))(c j:Nat)(h:j<3):rn Q c (j+1)=rn Q c j++(ql Q (qi c (3-j))).reverse/\∃z,lM Q c=rn Q c j++(ql Q (qi c (3-j))).reverse++z:=by
 have:j=0\/j=1\/j=2:=by omega
 rcases this with rfl|rfl|rfl
 ·exact⟨rfl,(ql Q (qi c 2)).reverse++(ql Q (qi c 1)).reverse,by unfold lM rn;simp⟩
 ·exact⟨rfl,(ql Q (qi c 1)).reverse,by unfold lM rn;simp⟩
 exact⟨rfl,[],by unfold lM rn;simp⟩
theorem Xr (l:List Nat):l.getLast?=pv l l.length:=by
 cases l with
 |nil=>rfl
 |cons a l=>rw[af5];rfl
theorem ae6:AY aaO 335=some (3,3,1):=by kernel_rfl
theorem acL (a c:Nat):aO aaO 249 [CM a,CO CN c] (λ_=>True) []
  (λv H=>∃b2 b3,v= .func (.func 275) #[] #[CM b2,CM b3]/\H= [af b2 88 [CM a],af b3 3 [CO CN c]]):=by
 refine ag func249 rfl ntmps249 rfl ?_;intro F _;refine av ?_;refine Lp (oB λb1=> ?_);refine Lp (oB λb2=> ?_);refine bz ?_;refine Li Mf ?_;refine bz ?_;refine Rt [af b1 88 [CM a],af b2 3 [CO CN c]] results249 ?_;exact⟨_,_,rfl,rfl⟩
theorem acK (F:dC)(a q b qb hot warm b2 b3:Nat)(C:Cs)(K:Ok C)(Q:List (List Nat))(O:iR C Q)(c:Nat)(hc:c<C.ae.length)(cR:In (Cl b C) F.h)(hlu:In (jb a b q hot warm) F.h)(hqu:gP (qY q b qb C Q) F.h):
  ItF aaO F 275 [] [CM b2,CM b3] [af b2 88 [CM a],af b3 3 [CO CN c]] (alR C (lM Q c)) (finR C (lM Q c)):=by
 have hl62:=K.toFix.l1;have ahA:=λs hs=>tM q b qb C K Q O c s hc hs;have len_:=λs hs=>tx q b qb C K Q O c s hc hs;intro ll J Z hyd;refine Ub func275 rfl ntmps275 rfl ?_;intro Frr KJ;have hcl1:=In.mono cR KJ;have abm:=In.mono hlu KJ;have abj:=bS hqu KJ;unfold jb Iy at abm;simp only[o8,cap];refine au (H':= [af b2 88 [CM a],af b3 3 [CO CN c],aG (J (zE C []))]) (λ_ s=>aK (λ_ t=>aK (λ_ u=>dU (H:= []) (by rw[afs];exact u)) t) s) ?_;refine pd ?_;refine Xi (Bda abJ ae9) ?_;refine Xi Mv ?_;refine oe ?_;refine qx ?_;refine ay (t:=9) (v':=(.agg [Value.int .i64 3,CO CN 2,CO CN 1].toArray)) rfl (by rfl) ?_;refine Xo (ι:=Nat) [11,12,5,14,15,16,17,18,19,20,13,21,22,6,7,23,24,25,26,27,28,29,8,30,31,32,33,34,37,38,39,40,42,43,44,45,46,47,41,48,49,35,36,50,10] (λj=>j<=3) (λj=> [(10,CO CN j)]) (λj=> [af b2 88 [CM a],af b3 3 [CO CN c],aG (J (zE C (rn Q c j)))]) (λj=>3-j) (0) (afk 3) ?_;rintro j hj3;by_cases hj:j<3
 ·have hk3: [Value.int .i64 3,CO CN 2,CO CN 1][j]?=some (CO CN (3-j:Nat)):=by
   have:j=0\/j=1\/j=2:=by omega
   rcases this with rfl|rfl|rfl<;>rfl
  have yP:1<=3-j/\3-j<=3:=by omega
  obtain⟨FU,z,Kx⟩:=Xg Q c j hj;have tl:=ahA (3-j) yP;have ln:=len_ (3-j) yP;have ah:=λk hk=>Ao q b qb C K Q O (qi c (3-j)) k hk;have lb:=w9 K O (qi c (3-j));rw[Xr]at tl;generalize ql Q (qi c (3-j))=l at*;refine pd ?_;refine Xi Cm ?_;refine oe ?_;refine gE ?_;refine nD rfl (by exact CH) ?_;refine lX ?_;refine av ?_;refine gE ?_;refine qx ?_;refine pd ?_;refine Xi (Ias ae6 bC) ?_;refine Xi As ?_;refine oe ?_;refine gE ?_;refine xTB 6 mix (.cons .here (.cons .here .nil)) λF1 jf bZ aN=> ?_;obtain⟨q1,q2,_⟩:=bZ;have agT:=In.mono abm jf;refine bG ?_;refine gd aN ?_;refine Tp (oC CF rfl rfl (tl) .nil (λ_ le _=>bS abj le) ?_);rintro v H' ⟨rfl,rfl⟩;refine aX ?_;refine bG ?_;refine gE ?_;refine xTB 6 mix (.cons .here (.cons .here .nil)) λF2 yO ez cQ=> ?_;obtain⟨q3,q4,_⟩:=ez;have hlu3:=In.mono abm yO;refine bG ?_;refine gd cQ ?_;refine Tp (oC CF rfl rfl (ln) .nil (λ_ le _=>bS abj le) ?_);rintro v H' ⟨rfl,rfl⟩;refine aX ?_;refine bA ?_;refine qx ?_;refine Xo (ι:=Nat) [30,31,32,33,34,37,38,39,40,42,43,44,45,46,47,41,48,49,6,7,35,36,8] (λr=>r<=l.length) (λr=> [(6,CO CJ (hO C (pv l r))),(7, .bool (pv l r).isSome),(8,CO CN r)]) (λr=> [af b2 88 [CM a],af b3 3 [CO CN c],aG (J (zE C (rn Q c j++(l.drop r).reverse)))]) (λr=>r) (l.length) (Nat.le_refl _) ?_;rintro r hr;rcases r with _|r
  ·refine gE ?_
   refine pd ?_;refine Xi Mv ?_;refine Xi Mv ?_;refine zf 31 ?_ (e:=by rfl);refine Xx ?_;refine Xx ?_;refine Xi Pf ?_;refine oe ?_;refine ma rfl rfl ?_;refine Bh ?_;refine bE ?_;refine jx ?_;refine Xi Im ?_;refine Xi Mv ?_;refine s7 ?_;rw[List.drop_zero,<-FU];refine Ro (j+1) ((by omega)) ((by omega))
  have hpv:pv l (r+1)=some l[r]:=aaQ hr;rw[hpv,cm];have Of:alR C (lM Q c) (zE C (rn Q c j++(l.drop (r+1)).reverse)) [CO CJ (C.hd l[r])]:=⟨_,l[r],(l.take r).reverse++z,by
   rw[Kx];have:l.reverse=(l.drop (r+1)).reverse++l[r]::(l.take r).reverse:=by
    conv=>lhs;rw[<-List.take_append_drop r l,aje hr]
    simp
   rw[this];simp,rfl,rfl⟩
  have fN:zE C (rn Q c j++(l.drop (r+1)).reverse)++ [[Value.int .u64 (C.hd l[r]:Int)]]=zE C (rn Q c j++(l.drop r).reverse):=by
   have e0:(l.drop r).reverse=(l.drop (r+1)).reverse++ [l[r]]:=by rw[aje hr,List.reverse_cons]
   rw[e0];simp only[zE,List.map_append,List.map_cons,List.map_nil,List.append_assoc]
  refine gE ?_;refine pd ?_;refine Xi Mv ?_;refine Xi Mv ?_;refine zt 31 ?_ (e:=by rfl);refine Xi Mv ?_;refine Xi Cm ?_;refine Xi Pt ?_;refine oe ?_;refine nD rfl (by exact CH) ?_;refine lX ?_;refine av ?_;refine gE ?_;refine qx ?_;refine gE ?_;refine pd ?_;refine Xi Mv ?_;refine Xi Mv ?_;refine au (H':= [aG (J (zE C (rn Q c j++(l.drop (r+1)).reverse))),af b2 88 [CM a],af b3 3 [CO CN c]]) (λ_ s=>by exact(cI (by exact(aa1.cons _ (aa1.swap _ _ _)).trans (aa1.swap _ _ _))) _ s) (mP (au (H':= [af b2 88 [CM a],af b3 3 [CO CN c]]++J (zE C (rn Q c j++(l.drop (r+1)).reverse))) (cI afl) ?_));refine Xin (oY rfl rfl rfl (hyd _ _ Of) (DY _) (λh le _=>KJ.trans le) ?_);rintro v H' (⟨rfl,rfl⟩|⟨rfl,Zs,hz,hH⟩)
  ·refine au (H':= [af b2 88 [CM a],af b3 3 [CO CN c],aG (J (zE C (rn Q c j++(l.drop r).reverse)))]) (λ_ s=>by rw[fN,afs]at s;exact aK (λ_ t=>aK (λ_ u=>dU (H:= []) (by rw[afs];exact u)) t) s) ?_
   refine Xi Nt ?_;refine oe ?_;refine ma rfl (by rfl) ?_;refine lX ?_;refine av ?_;refine jx ?_;refine Xp (oL IH ?_);refine Xi Nc ?_;refine Xi (Fa AH) ?_;refine Xp (oL ZG ?_);refine Xi Mv ?_;refine Xp (oC CF rfl rfl (ah r hr) .nil (λ_ le _=>⟨In.mono hcl1 le,In.mono abj.1 le⟩) ?_);rintro v H' ⟨rfl,rfl⟩;refine aX ?_;refine Xi Mv ?_;refine Xi Ex ?_;refine Xi Ex ?_;refine Xi As ?_;refine Xi As ?_;refine s7 ?_;refine bA ?_;refine jx ?_;refine Xi Mv ?_;refine Xi Im ?_;refine Xi As ?_;refine s7 ?_;refine ay (t:=8) (v':=(CO CN r)) rfl (by(congr 1<;>omega)) ?_;refine Ro (r) ((by omega)) ((by omega))
  rw[afs];refine Xi Nt ?_;refine oe ?_;refine nD rfl (by rfl) ?_;refine iY ?_;refine cA ?_;refine Rt0 H' (results275) ?_ (hh:=λ_ x=>x);exact .inr ⟨Zs,hz,hH⟩
 refine pd ?_;refine Xi Cm ?_;refine oe ?_;refine gE ?_;refine ma rfl (by exact CG) ?_;refine Bh ?_;refine bz ?_;obtain rfl:j=3:=by omega
 refine au (H':= [aG (J (zE C (rn Q c 3))),af b2 88 [CM a],af b3 3 [CO CN c]]) (λ_ s=>by exact(cI (by exact(aa1.cons _ (aa1.swap _ _ _)).trans (aa1.swap _ _ _))) _ s) (mP ?_);refine jW ([af b2 88 [CM a],af b3 3 [CO CN c]]++J (zE C (rn Q c 3))) results275 ?_ (hh:=cI afl);exact .inl ⟨_,rfl,rfl⟩
def dg (own:Option Nat)(l:List Nat):List Nat:=l.filter λq=>decide (some q≠own)
def zP (dd act:Nat->Bool)(r:List Nat):Option Nat×Bool×Nat:=match r.findIdx? dd with
 |some i=>(r[i]?,true,i+1)
 |none=>(match r.find? (λq=> !act q)with|some q=>some q|none=>r.head?,false,r.length)
def mL (dd act:Nat->Bool)(own:Option Nat)(looks:Nat)(l:List Nat):Option Nat×Bool×Nat:=zP dd act ((dg own l).take looks)
theorem ag4 (f:Nat->Bool):∀(A:List Nat) (x:Nat) (B:List Nat),(∀q∈A,f q=false)->f x=true->(A++x::B).findIdx? f=some A.length
 | [],x,B,_,hx=>by simp[ajc,hx]
 |a::A,x,B,h,hx=>by
  rw[List.cons_append,ajc,h a (aaV),ag4 f A x B (λq hq=>h q (aaW _ hq)) hx];rfl
theorem aad (f:Nat->Bool):∀(A:List Nat),(∀q∈A,f q=false)->A.findIdx? f=none
 | [],_=>rfl
 |a::A,h=>by rw[ajc,h a (aaV),aad f A (λq hq=>h q (aaW _ hq))];rfl
theorem LI{dd act:Nat->Bool}{own:Option Nat}{n:Nat}{a b:List Nat}{x:Nat}(hx:some x≠own)(h:∀q∈dg own a,dd q=false)(hl:(dg own a).length<n)(d:dd x=true):
  mL dd act own n (a++x::b)=(some x,true,(dg own a).length+1):=by
 have e:dg own (a++x::b)=dg own a++x::dg own b:=by unfold dg;rw[ags,List.filter_cons,if_pos (by simpa using hx)]
 unfold mL;obtain⟨m,hm⟩:∃m,n=(dg own a).length+(m+1):=⟨n-(dg own a).length-1,by omega⟩;rw[e,hm,List.take_length_add_append,List.take_succ_cons];unfold zP;rw[ag4 dd _ x _ h d];simp
theorem Ap{dd act:Nat->Bool}{own:Option Nat}{n:Nat}{a b:List Nat}(h:∀q∈dg own a,dd q=false)(hl:(dg own a).length=n\/b= []/\(dg own a).length<=n):
  mL dd act own n (a++b)=(match(dg own a).find? (λq=> !act q)with|some q=>some q|none=>(dg own a).head?,false,(dg own a).length):=by
 have e:(dg own (a++b)).take n=dg own a:=by
  rcases hl with e|⟨rfl,e⟩
  ·unfold dg at*
   rw[ags,<-e,ajO]
  rw[afs,List.take_of_length_le e]
 unfold mL;rw[e];unfold zP;rw[aad dd _ h]
theorem D7{L A1 A2:aa}{X:Prop}{LS:List aa}(x:X):∀h,ai (LS++ [L,A1,A2]) h->ai (L::([A1,A2]++ [λk=>X/\aG LS k])) h:=λh s=>
 cI (afl (l₁:= [λk=>X/\aG LS k]) (l₂:= [L,A1,A2])) h (yo x (dU s))
def Ko (OJ Zq Zp Zo Wa:Nat)(C:Cs)(act:Nat->Bool)(r:List Nat):List aa:=
 [af OJ 104 [CO CJ 0],af Zq 4 [.bool false],af Zp 3 [CO CN r.length],af Zo 104 [CO CJ (hO C r.head?)],af Wa 104 [CO CJ (hO C (r.find? λq=> !act q):Int)]]
def pkJ (JB:List aa)(OJ Zq Zp Zo Wa:Nat)(C:Cs)(dd act:Nat->Bool)(own:Option Nat)(l:List Nat)(p:List (List Value)):List aa:=
 [λh=>((∀q∈dg own (l.take p.length),dd q=false)/\(dg own (l.take p.length)).length<5)/\aG (JB++Ko OJ Zq Zp Zo Wa C act (dg own (l.take p.length))) h]
theorem Bp{JB:List aa}{OJ Zq Zp Zo Wa:Nat}{C:Cs}{dd act:Nat->Bool}{own:Option Nat}{l:List Nat}{p:List (List Value)}{a:List Nat}(h:l.take p.length=a):
  pkJ JB OJ Zq Zp Zo Wa C dd act own l p= [λh=>((∀q∈dg own a,dd q=false)/\(dg own a).length<5)/\aG (JB++Ko OJ Zq Zp Zo Wa C act (dg own a)) h]:=by
 unfold pkJ;rw[h]
def aL (s:Nat):Value:= .func (.func 48) #[CM s] #[]
theorem IQ{C:Cs}(K:Ok C){r:List Nat}(hr:∀q∈r,At C q)(o:Option Nat)(ho:∀q,o=some q->q∈r):(hO C o=0↔o=none)/\hO C o<18446744073709551616:=by
 cases o with
 |none=>exact⟨⟨λ_=>rfl,λ_=>rfl⟩,by show(0:Nat)<_;omega⟩
 |some q=>
  obtain⟨_,_,_,_,h1,h2⟩:=bV K (hr q (ho q rfl));rw[cm];exact⟨⟨λe=>absurd e h2,λe=>by cases e⟩,h1⟩
theorem YH{own:Option Nat}{a:List Nat}{x:Nat}:dg own (a++ [x])=if some x≠own then dg own a++ [x]else dg own a:=by
 unfold dg;rw[ags];by_cases h:some x≠own
 ·rw[if_pos h];simp[h]
 rw[if_neg h];simp[h]
theorem TY (a q qb hot warm s:Nat)(y:Sy)(rest:List Value)(C:Cs)(K:Ok C)(Q:List (List Nat))(O:iR C Q)(M:MkQ C Q)(c:Nat)(hc:c<C.ae.length)(k:Ck)(own:Option Nat)(ho:∀p,own=some p->At C p):
  aO aaO 184 [CM a,CO CN c,CO CJ (hO C own),CO CN 5,aL s]
   (λh=>In (Cl y.b C) h/\In (jb a y.b q hot warm) h/\gP (qY q y.b qb C Q) h/\In (fm s y rest) h/\In (kO y.ck k) h) []
   (λv H=>∃p d n,(p,d,n)=mL (λp=>decide (za C.A k p≠0)) (C7 C.A) own 5 (lM Q c)/\v= .tuple #[CO CJ (hO C p), .bool d,CO CN n]/\H= []):=by
 have ao:∀p∈lM Q c,∃i,p∈ql Q i:=λp hp=>by
  unfold lM at hp;rw[af3,af3,agm,agm,agm]at hp;rcases hp with(h|h)|h<;>exact⟨_,h⟩
 have w7:∀p∈lM Q c,At C p:=λp hp=>by obtain⟨i,h⟩:=ao p hp;exact(O.lv i p h).toAt
 have lJ:∀p∈lM Q c,gD C (some p):=λp hp=>by obtain⟨i,h⟩:=ao p hp;exact O.FL (i:=i) λy hy=>by cases hy;exact h
 have uq:∀p∈lM Q c,dz C.A p<16:=λp hp=>by obtain⟨i,h⟩:=ao p hp;exact M i p h
 have wj:=λF cR hlu hqu=>λb2 b3=>acK F a q y.b qb hot warm b2 b3 C K Q O c hc cR hlu hqu;have PU:=λp (hp:p∈lM Q c)=>D0 s y rest C K k p (lJ p hp);have act_:=λp (hp:p∈lM Q c)=>sK a y.b q hot warm C K p ((lJ p hp) p rfl).1 (((lJ p hp) p rfl).2).k0 (uq p hp);generalize lM Q c=l at*;generalize hdd:(λp=>decide (za C.A k p≠0))=dd;replace PU:=λp (hp:p∈l)=>(show _ from(by have h:=PU p hp;rw[show decide (za C.A k p≠0)=dd p from congrFun hdd p]at h;exact h));generalize VN:C7 C.A=act at*;refine Ud func184 rfl ntmps184 rfl ?_;rintro F ⟨cR,hlu,hqu,gB,y6⟩;refine pd ?_;refine Xp (oB λb1=> ?_);refine Xp (oB λb2=> ?_);refine Xp (oB λb3=> ?_);refine Xp (oB λb4=> ?_);refine Xp (oA Gk λb5=> ?_);refine Xp (oA zc_4 λb6=> ?_);refine Xp (oA abe λb7=> ?_);refine oe ?_;refine gE ?_;refine pd ?_;refine Xp (oL bC ?_);refine Xi Cm ?_;refine oe ?_;refine ma rfl (by exact CG) ?_;refine lX ?_;refine av ?_;refine pd ?_;refine Xp (oA Gk λb8=> ?_);refine Xp (oA Gk λb9=> ?_);refine oe ?_;refine gE ?_;refine pd ?_;refine Xp (oL IH ?_);refine Xi Mv ?_;refine Xp (oC CF rfl rfl (acL a c) .nil CI ?_);rintro v H' ⟨Fy,Fx,rfl,rfl⟩;refine aX ?_;refine oe ?_;refine qx ?_;have hri:=wj F cR hlu hqu Fy Fx;have hlF:=hlu;unfold jb Iy at hlF;refine Hh (H':= [af b1 88 [CM a],af b2 104 [CO CJ (hO C own)],af b3 3 [CO CN 5],af b4 107 [aL s],af b5 104 [CO CJ 0],af b6 4 [.bool false],af b7 3 [CO CN 0],af b8 104 [CO CJ 0],af b9 104 [CO CJ 0],af Fy 88 [CM a],af Fx 3 [CO CN c]]) ?_;refine au (H':= [af Fy 88 [CM a],af Fx 3 [CO CN c]]++(pkJ [af b1 88 [CM a],af b2 104 [CO CJ (hO C own)],af b3 3 [CO CN 5],af b4 107 [aL s]] b5 b6 b7 b8 b9 C dd act own l) []) (λh0 s0=>cI (afl (l₁:=(pkJ [af b1 88 [CM a],af b2 104 [CO CJ (hO C own)],af b3 3 [CO CN 5],af b4 107 [aL s]] b5 b6 b7 b8 b9 C dd act own l) []) (l₂:= [af Fy 88 [CM a],af Fx 3 [CO CN c]])) h0 (yo ⟨λq hq=>by simp[dg]at hq,by simp[dg]⟩ (dU (L:= [af b1 88 [CM a],af b2 104 [CO CJ (hO C own)],af b3 3 [CO CN 5],af b4 107 [aL s]]++Ko b5 b6 b7 b8 b9 C act []) (H:= [af Fy 88 [CM a],af Fx 3 [CO CN c]]) s0))) ?_;refine x_rf ((pkJ [af b1 88 [CM a],af b2 104 [CO CJ (hO C own)],af b3 3 [CO CN 5],af b4 107 [aL s]] b5 b6 b7 b8 b9 C dd act own l)) (λZs=>∃a1 q1 r1,l=a1++q1::r1/\some q1≠own/\(∀r∈dg own a1,dd r=false)/\(dg own a1).length<5/\dd q1=true/\Zs= [af b1 88 [CM a],af b2 104 [CO CJ (hO C own)],af b3 3 [CO CN 5],af b4 107 [aL s]]++ [af b5 104 [CO CJ (C.hd q1)],af b6 4 [.bool true],af b7 3 [CO CN ((dg own a1).length+1:Nat)],af b8 104 [CO CJ (hO C (dg own a1++ [q1]).head?)],af b9 104 [CO CJ (hO C ((dg own a1).find? λq=> !act q):Int)]]) (λid Zs=>id=0/\∃a1 r1,l=a1++r1/\(∀r∈dg own a1,dd r=false)/\(dg own a1).length=5/\Zs= [af b1 88 [CM a],af b2 104 [CO CJ (hO C own)],af b3 3 [CO CN 5],af b4 107 [aL s]]++Ko b5 b6 b7 b8 b9 C act (dg own a1)) (λ_ x=> [(15,x.headD undef),(5,CM b1),(7,CM b2),(8,CM b3),(9,CM b4),(10,CM b5),(11,CM b6),(12,CM b7),(13,CM b8),(14,CM b9)]) (CF (n:=275)) rfl (hri) (.cons .here (.cons .here (.cons .here .nil))) (λp x hx=>by obtain⟨_,_,_,_,_,rfl⟩:=hx;rfl) rfl ?_ ?_ ?_ ?_ ?_
 ·rintro ll F' p x HH K' ⟨a1,q1,r1,hp,rfl,rfl⟩ hK
  refine jx ?_;refine Xi As ?_;refine s7 ?_;exact BP (adu hK (by exact⟨rfl,rfl,rfl,rfl,rfl,rfl,rfl,rfl,rfl,rfl,trivial⟩))
 ·rintro ll F' p x L ⟨a1,q1,r1,hl,rfl,rfl⟩ hle
  have hq1:q1∈l:=by rw[hl];simp
  have hlen:l.take (zE C a1).length=a1:=by rw[hl];unfold zE;rw[adr,ajO]
  have Dz:l.take (zE C a1++ [[Value.int .u64 (C.hd q1:Int)]]).length=a1++ [q1]:=by
   rw[aaZ,show(zE C a1).length=a1.length from adr _,hl,show a1++q1::r1=(a1++ [q1])++r1 by simp,show a1.length+ [[Value.int .u64 (C.hd q1:Int)]].length=(a1++ [q1]).length by simp,ajO]
  have uB:=In.mono cR hle;have agT:=In.mono hlu hle;have hst2:=In.mono gB hle;have hck2:=In.mono y6 hle;rw[Bp hlen];refine au (H':= [λh=>((∀q∈dg own a1,dd q=false)/\(dg own a1).length<5)/\aG ([af b1 88 [CM a],af b2 104 [CO CJ (hO C own)],af b3 3 [CO CN 5],af b4 107 [aL s]]++Ko b5 b6 b7 b8 b9 C act (dg own a1)) h]++([L]++ [af Fy 88 [CM a],af Fx 3 [CO CN c]])) (λh0 s0=>cI (afl (l₁:= [L]++ [af Fy 88 [CM a],af Fx 3 [CO CN c]])) h0 s0) (GO λhp=>mP ?_);obtain⟨vZ,dE⟩:=hp;unfold Ko;simp only[o8,cap,List.headD_cons];obtain⟨_,_,_,_,hm1,hm2⟩:=bV K (w7 q1 hq1);have KG:∀z∈dg own a1,At C z:=λz hz=>w7 z (by rw[hl];unfold dg at hz;exact agy _ (aba.1 hz).1);obtain⟨Kt,Ks⟩:=IQ K KG (dg own a1).head? (λq e=>afB e);obtain⟨hz3,hz4⟩:=IQ K KG ((dg own a1).find? λq=> !act q) (λq e=>afH e);have on1:=YH (own:=own) (a:=a1) (x:=q1);generalize qZ:dg own a1=fl at*;refine qx ?_;refine gE ?_;refine pd ?_;refine Xi Mv ?_;refine Xp (oL bO ?_);refine Xi Cm ?_;refine oe ?_;by_cases jg:some q1≠own
  ·rw[if_pos jg]at on1
   have fN:¬((C.hd q1:Int)=(hO C own:Int)):=λe=>by
    cases AV:own with
    |none=>rw[AV]at e;change(C.hd q1:Int)=((0:Nat):Int)at e;omega
    |some z=>rw[AV,cm]at e;exact jg (by rw[AV,iV K (w7 q1 hq1) (ho z AV) (by omega)])
   refine ma rfl (by exact decide_eq_false fN) ?_;refine lX ?_;refine av ?_;refine pd ?_;refine Xp (oL bC ?_);refine Xi Im ?_;refine Xp (oS bC ?_);refine oe ?_;refine gE ?_;refine pd ?_;refine Xp (oL bO ?_);refine Xi Cm ?_;refine oe ?_;refine O0 (ι:=Unit) [29] (λu=>True) (λu=> []) (λu=> [af b1 88 [CM a],af b2 104 [CO CJ (hO C own)],af b3 3 [CO CN 5],af b4 107 [aL s],af b5 104 [CO CJ 0],af b6 4 [.bool false],af b7 3 [CO CN (fl.length+1:Nat)],af b8 104 [CO CJ (hO C (fl++ [q1]).head?)],af b9 104 [CO CJ (hO C (fl.find? λq=> !act q):Int)],L,af Fy 88 [CM a],af Fx 3 [CO CN c]]) ?_ ?_
   ·refine uD rfl ?_ ?_
    ·intro h0
     replace h0:=aS h0;have hn:fl= []:=List.head?_eq_none_iff.1 (Kt.1 (by omega));refine jx ?_;refine Xi Mv ?_;refine Xp (oS bO ?_);refine s7 ?_;have e1:(C.hd q1:Int)=(hO C (fl++ [q1]).head?:Int):=by rw[hn];rfl
     rw[e1];refine Me (()) (trivial)
    intro h0;replace h0:=aS h0;have hn:(fl++ [q1]).head?=fl.head?:=by
     cases fl with
     |nil=>exact absurd rfl h0
     |cons z r=>rfl
    rw[<-hn];refine lX ?_;refine Me (()) (trivial)
   rintro u _;refine gE ?_;refine pd ?_;refine Xp (oL Gs ?_);refine Xi (Fnn GQ) ?_;refine Xi Mv ?_;refine zt 32 ?_ (e:=by rfl);refine Xp (oL Gs ?_);refine Xi Mv ?_;refine Xp (Y9 (CF (n:=48)) rfl rfl rfl (PU q1 hq1) .nil (λ_ le _=>⟨In.mono hst2 le,In.mono uB le,In.mono hck2 le⟩) λv H' hr=> ?_);obtain⟨rfl,rfl⟩:=hr;refine aX ?_;refine Xi Pt ?_;refine oe ?_;refine uD rfl ?_ ?_
   ·intro FU
    replace FU:=aS FU;refine gE ?_;refine Dl mix .nil (by kernel_rfl) λF1 jf bZ aN=> ?_;refine Dt 0 rfl Mv ?_;refine D2 1 2 ?_ ?_
    ·refine Do rfl (oL bC ?_)
     refine av ?_;refine Dn 2 ?_;refine Do rfl (oS bO ?_);refine av ?_;refine Dn 3 ?_;refine Do rfl (oS gj ?_);refine av ?_;refine Dn 4 ?_;refine Do rfl (oS bC ?_);refine av ?_;refine aV (by kernel_rfl) aN ?_;refine fX ?_;refine av ?_;refine iY ?_;refine bA ?_;refine Gu ([af b1 88 [CM a],af b2 104 [CO CJ (hO C own)],af b3 3 [CO CN 5],af b4 107 [aL s]]++ [af b5 104 [CO CJ (C.hd q1)],af b6 4 [.bool true],af b7 3 [CO CN (fl.length+1:Nat)],af b8 104 [CO CJ (hO C (fl++ [q1]).head?)],af b9 104 [CO CJ (hO C (fl.find? λq=> !act q):Int)]]) ⟨a1,q1,r1,hl,jg,(by rw[qZ];exact vZ),(by rw[qZ];exact dE),FU,(by rw[qZ];rfl)⟩ ?_;exact cI (afl (l₁:=([af b1 88 [CM a],af b2 104 [CO CJ (hO C own)],af b3 3 [CO CN 5],af b4 107 [aL s]]++ [af b5 104 [CO CJ (C.hd q1)],af b6 4 [.bool true],af b7 3 [CO CN (fl.length+1:Nat)],af b8 104 [CO CJ (hO C (fl++ [q1]).head?)],af b9 104 [CO CJ (hO C (fl.find? λq=> !act q):Int)]])) (l₂:= [L]++ [af Fy 88 [CM a],af Fx 3 [CO CN c]]))
    refine Do rfl (oS bO ?_);refine av ?_;refine D2 1 3 ?_ ?_
    ·refine Do rfl (oL bC ?_)
     refine av ?_;refine Dn 3 ?_;refine Do rfl (oS gj ?_);refine av ?_;refine Dn 4 ?_;refine Do rfl (oS bC ?_);refine av ?_;refine aV (by kernel_rfl) aN ?_;refine fX ?_;refine av ?_;refine iY ?_;refine bA ?_;refine Gu ([af b1 88 [CM a],af b2 104 [CO CJ (hO C own)],af b3 3 [CO CN 5],af b4 107 [aL s]]++ [af b5 104 [CO CJ (C.hd q1)],af b6 4 [.bool true],af b7 3 [CO CN (fl.length+1:Nat)],af b8 104 [CO CJ (hO C (fl++ [q1]).head?)],af b9 104 [CO CJ (hO C (fl.find? λq=> !act q):Int)]]) ⟨a1,q1,r1,hl,jg,(by rw[qZ];exact vZ),(by rw[qZ];exact dE),FU,(by rw[qZ];rfl)⟩ ?_;exact cI (afl (l₁:=([af b1 88 [CM a],af b2 104 [CO CJ (hO C own)],af b3 3 [CO CN 5],af b4 107 [aL s]]++ [af b5 104 [CO CJ (C.hd q1)],af b6 4 [.bool true],af b7 3 [CO CN (fl.length+1:Nat)],af b8 104 [CO CJ (hO C (fl++ [q1]).head?)],af b9 104 [CO CJ (hO C (fl.find? λq=> !act q):Int)]])) (l₂:= [L]++ [af Fy 88 [CM a],af Fx 3 [CO CN c]]))
    refine Do rfl (oS gj ?_);refine av ?_;refine Dn 1 ?_;refine Do rfl (oL bC ?_);refine av ?_;refine Dn 4 ?_;refine Do rfl (oS bC ?_);refine av ?_;refine aV (by kernel_rfl) aN ?_;refine fX ?_;refine av ?_;refine iY ?_;refine bA ?_;refine Gu ([af b1 88 [CM a],af b2 104 [CO CJ (hO C own)],af b3 3 [CO CN 5],af b4 107 [aL s]]++ [af b5 104 [CO CJ (C.hd q1)],af b6 4 [.bool true],af b7 3 [CO CN (fl.length+1:Nat)],af b8 104 [CO CJ (hO C (fl++ [q1]).head?)],af b9 104 [CO CJ (hO C (fl.find? λq=> !act q):Int)]]) ⟨a1,q1,r1,hl,jg,(by rw[qZ];exact vZ),(by rw[qZ];exact dE),FU,(by rw[qZ];rfl)⟩ ?_;exact cI (afl (l₁:=([af b1 88 [CM a],af b2 104 [CO CJ (hO C own)],af b3 3 [CO CN 5],af b4 107 [aL s]]++ [af b5 104 [CO CJ (C.hd q1)],af b6 4 [.bool true],af b7 3 [CO CN (fl.length+1:Nat)],af b8 104 [CO CJ (hO C (fl++ [q1]).head?)],af b9 104 [CO CJ (hO C (fl.find? λq=> !act q):Int)]])) (l₂:= [L]++ [af Fy 88 [CM a],af Fx 3 [CO CN c]]))
   intro FU;replace FU:=aS FU;have hp3:∀q∈fl++ [q1],dd q=false:=λq hq=>by
    rcases af3.1 hq with h|h
    ·exact vZ q h
    rw[List.mem_singleton.1 h];exact FU
   have hfa:(fl++ [q1]).find? (λq=> !act q)=if((fl.find? λq=> !act q).isNone&& !act q1)=true then some q1 else fl.find? λq=> !act q:=by
    rw[List.find?_append];cases fl.find? λq=> !act q with
    |some z=>rfl
    |none=>cases h:act q1<;>simp[h]
   refine lX ?_;refine av ?_;refine gE ?_;refine gE ?_;refine O0 (ι:=Unit) [39,40,41,42,43,44,45,46] (λu=>True) (λu=> [(46, .bool ((fl.find? λq=> !act q).isNone&& !act q1))]) (λu=> [af b1 88 [CM a],af b2 104 [CO CJ (hO C own)],af b3 3 [CO CN 5],af b4 107 [aL s],af b5 104 [CO CJ 0],af b6 4 [.bool false],af b7 3 [CO CN (fl.length+1:Nat)],af b8 104 [CO CJ (hO C (fl++ [q1]).head?)],af b9 104 [CO CJ (hO C (fl.find? λq=> !act q):Int)],L,af Fy 88 [CM a],af Fx 3 [CO CN c]]) ?_ ?_
   ·by_cases mE:(fl.find? λq=> !act q)=none
    ·rw[mE]
     refine jx ?_;refine Xp (oL bO ?_);refine Xi Cm ?_;refine Xi Mv ?_;refine zt 41 ?_ (e:=by exact decide_eq_true rfl);refine Xp (oL IH ?_);refine Xi Mv ?_;refine Xp (oC CF rfl rfl (act_ q1 hq1) .nil (λ_ le _=>⟨In.mono uB le,In.mono agT le⟩) ?_);rintro v H' ⟨rfl,rfl⟩;refine aX ?_;refine Xi Nt ?_;refine Xi Pt ?_;refine s7 ?_;rw[<-mE];refine Me (()) (trivial)
    have hnn:(fl.find? λq=> !act q).isNone=false:=by cases h:(fl.find? λq=> !act q)with|none=>exact absurd h mE|some z=>rfl
    rw[hnn];refine jx ?_;refine Xp (oL bO ?_);refine Xi Cm ?_;refine Xi Mv ?_;refine zf 41 ?_ (e:=by exact decide_eq_false (λe=>mE (hz3.1 (by omega))));refine Xx ?_;refine Xx ?_;refine Xx ?_;refine Xx ?_;refine Xi Pf ?_;refine s7 ?_;refine Me (()) (trivial)
   rintro u _;refine O0 (ι:=Unit) [47] (λu=>True) (λu=> []) (λu=> [af b1 88 [CM a],af b2 104 [CO CJ (hO C own)],af b3 3 [CO CN 5],af b4 107 [aL s],af b5 104 [CO CJ 0],af b6 4 [.bool false],af b7 3 [CO CN (fl.length+1:Nat)],af b8 104 [CO CJ (hO C (fl++ [q1]).head?)],af b9 104 [CO CJ (hO C ((fl++ [q1]).find? λq=> !act q):Int)],L,af Fy 88 [CM a],af Fx 3 [CO CN c]]) ?_ ?_
   ·refine uD rfl ?_ ?_
    ·intro yS
     replace yS:=aS yS;refine jx ?_;refine Xi Mv ?_;refine Xp (oS bO ?_);refine s7 ?_;have e2:(C.hd q1:Int)=(hO C ((fl++ [q1]).find? λq=> !act q):Int):=by rw[hfa,if_pos (by rw[yS.1,yS.2];rfl),cm]
     rw[e2];refine Me (()) (trivial)
    intro yS;replace yS:=aS yS;refine lX ?_;have e2:(fl.find? λq=> !act q)=((fl++ [q1]).find? λq=> !act q):=by rw[hfa,if_neg (by rcases yS with e|e<;>simp[e])]
    rw[e2];refine Me (()) (trivial)
   rintro u _;refine pd ?_;refine Xp (oL bC ?_);refine Xp (oL bC ?_);refine Xi Cm ?_;refine oe ?_;refine uD rfl ?_ ?_
   ·intro h5
    replace h5:=aS h5;refine Bh ?_;refine av ?_;refine Xf ([af b1 88 [CM a],af b2 104 [CO CJ (hO C own)],af b3 3 [CO CN 5],af b4 107 [aL s]]++Ko b5 b6 b7 b8 b9 C act (fl++ [q1])) ⟨rfl,a1++ [q1],r1,by rw[hl];simp,(by rw[on1];exact hp3),(by rw[on1,aaZ];show fl.length+1=5;omega),(by rw[on1];rfl)⟩ ?_;rw[show((fl.length+1:Nat):Int)=((fl++ [q1]).length:Int) by simp];exact cI (afl (l₁:= [af b1 88 [CM a],af b2 104 [CO CJ (hO C own)],af b3 3 [CO CN 5],af b4 107 [aL s]]++Ko b5 b6 b7 b8 b9 C act (fl++ [q1])) (l₂:= [L]++ [af Fy 88 [CM a],af Fx 3 [CO CN c]]))
   intro h5;replace h5:=aS h5;refine lX ?_;refine av ?_;refine Ak ?_;rw[Bp Dz,on1];rw[show((fl.length+1:Nat):Int)=((fl++ [q1]).length:Int) by simp];exact D7 (X:=(∀q∈fl++ [q1],dd q=false)/\(fl++ [q1]).length<5) (LS:= [af b1 88 [CM a],af b2 104 [CO CJ (hO C own)],af b3 3 [CO CN 5],af b4 107 [aL s]]++Ko b5 b6 b7 b8 b9 C act (fl++ [q1])) ⟨hp3,by rw[aaZ];show fl.length+1<5;omega⟩
  have hoe:own=some q1:=by
   cases AV:own with
   |none=>exact absurd (by rw[AV];simp) jg
   |some z=>rw[AV]at jg;exact(Classical.not_not.1 jg).symm
  rw[if_neg jg]at on1;refine nD rfl (by exact decide_eq_true (by rw[hoe,cm])) ?_;refine Bh ?_;refine bA ?_;refine Ak ?_;rw[Bp Dz,on1];exact D7 (X:=(∀q∈fl,dd q=false)/\fl.length<5) (LS:= [af b1 88 [CM a],af b2 104 [CO CJ (hO C own)],af b3 3 [CO CN 5],af b4 107 [aL s]]++Ko b5 b6 b7 b8 b9 C act fl) ⟨vZ,dE⟩
 ·rintro D p abp
  have hlen:l.take p.length=l:=by rw[show p=zE C l from abp];unfold zE;rw[adr,List.take_length]
  refine bA ?_;rw[Bp hlen];refine au (H':= [λh=>((∀q∈dg own l,dd q=false)/\(dg own l).length<5)/\aG ([af b1 88 [CM a],af b2 104 [CO CJ (hO C own)],af b3 3 [CO CN 5],af b4 107 [aL s]]++Ko b5 b6 b7 b8 b9 C act (dg own l)) h]++([zH D]++ [af Fy 88 [CM a],af Fx 3 [CO CN c]])) (λh0 s0=>cI (afl (l₁:= [zH D]++ [af Fy 88 [CM a],af Fx 3 [CO CN c]])) h0 (by simpa using s0)) (GO λhp=>mP ?_);obtain⟨vZ,dE⟩:=hp;have jk:=Ap (act:=act) (n:=5) (b:= []) vZ (.inr ⟨rfl,by omega⟩);rw[afs]at jk;have hl:l=l++ []:=(afs l).symm;generalize qZ:dg own l=fl at*;unfold Ko;simp only[o8,cap,afs];have KG:∀z∈fl,At C z:=λz hz=>w7 z (by rw[hl];rw[<-qZ]at hz;unfold dg at hz;exact agy _ (aba.1 hz).1);obtain⟨hz3,hz4⟩:=IQ K KG (fl.find? λq=> !act q) (λq e=>afH e);refine gE ?_;refine pd ?_;refine Xp (oL bO ?_);refine Xi Cm ?_;refine oe ?_;by_cases mE:(fl.find? λq=> !act q)=none
  ·refine ma rfl (by exact congrArg (!·) (decide_eq_true (by rw[mE];rfl))) ?_
   refine lX ?_;refine av ?_;refine gE ?_;refine Dl mix .nil (by kernel_rfl) λF2 yO ez cQ=> ?_;refine D2 0 1 ?_ ?_
   ·refine Do rfl (oL bO ?_)
    refine av ?_;refine D2 1 2 ?_ ?_
    ·refine Do rfl (oL bC ?_)
     refine av ?_;refine Dn 2 ?_;refine Do rfl (oS bO ?_);refine av ?_;refine Dn 3 ?_;refine Do rfl (oS gj ?_);refine av ?_;refine Dn 4 ?_;refine Do rfl (oS bC ?_);refine av ?_;refine aV (by kernel_rfl) cQ ?_;refine fX ?_;refine av ?_;refine iY ?_;refine kB [D] [] bO gj bC results184 ?_;exact⟨fl.head?,false,fl.length,by rw[jk,mE],rfl,rfl⟩
    refine Do rfl (oS bO ?_);refine av ?_;refine D2 1 3 ?_ ?_
    ·refine Do rfl (oL bC ?_)
     refine av ?_;refine Dn 3 ?_;refine Do rfl (oS gj ?_);refine av ?_;refine Dn 4 ?_;refine Do rfl (oS bC ?_);refine av ?_;refine aV (by kernel_rfl) cQ ?_;refine fX ?_;refine av ?_;refine iY ?_;refine kB [D] [] bO gj bC results184 ?_;exact⟨fl.head?,false,fl.length,by rw[jk,mE],rfl,rfl⟩
    refine Do rfl (oS gj ?_);refine av ?_;refine Dn 1 ?_;refine Do rfl (oL bC ?_);refine av ?_;refine Dn 4 ?_;refine Do rfl (oS bC ?_);refine av ?_;refine aV (by kernel_rfl) cQ ?_;refine fX ?_;refine av ?_;refine iY ?_;refine kB [D] [] bO gj bC results184 ?_;exact⟨fl.head?,false,fl.length,by rw[jk,mE],rfl,rfl⟩
   refine Do rfl (oL bC ?_);refine av ?_;refine Dn 0 ?_;refine Do rfl (oL bO ?_);refine av ?_;refine Dn 2 ?_;refine Do rfl (oS bO ?_);refine av ?_;refine Dn 3 ?_;refine Do rfl (oS gj ?_);refine av ?_;refine Dn 4 ?_;refine Do rfl (oS bC ?_);refine av ?_;refine aV (by kernel_rfl) cQ ?_;refine fX ?_;refine av ?_;refine iY ?_;refine kB [D] [] bO gj bC results184 ?_;exact⟨fl.head?,false,fl.length,by rw[jk,mE],rfl,rfl⟩
  refine nD rfl (by exact congrArg (!·) (decide_eq_false (λe=>mE (hz3.1 (by omega))))) ?_;refine gE ?_;refine Dl mix .nil (by kernel_rfl) λF3 Ow pt eI=> ?_;refine D2 0 1 ?_ ?_
  ·refine Do rfl (oL bO ?_)
   refine av ?_;refine D2 1 2 ?_ ?_
   ·refine Do rfl (oL bC ?_)
    refine av ?_;refine Dn 2 ?_;refine Do rfl (oS bO ?_);refine av ?_;refine Dn 3 ?_;refine Do rfl (oS gj ?_);refine av ?_;refine Dn 4 ?_;refine Do rfl (oS bC ?_);refine av ?_;refine aV (by kernel_rfl) eI ?_;refine fX ?_;refine av ?_;refine iY ?_;refine av ?_;refine kB [D] [] bO gj bC results184 ?_;refine⟨fl.find? λq=> !act q,false,fl.length, ?_,rfl,rfl⟩;rw[jk];cases h:(fl.find? λq=> !act q)with
    |none=>exact absurd h mE
    |some z=>rfl
   refine Do rfl (oS bO ?_);refine av ?_;refine D2 1 3 ?_ ?_
   ·refine Do rfl (oL bC ?_)
    refine av ?_;refine Dn 3 ?_;refine Do rfl (oS gj ?_);refine av ?_;refine Dn 4 ?_;refine Do rfl (oS bC ?_);refine av ?_;refine aV (by kernel_rfl) eI ?_;refine fX ?_;refine av ?_;refine iY ?_;refine av ?_;refine kB [D] [] bO gj bC results184 ?_;refine⟨fl.find? λq=> !act q,false,fl.length, ?_,rfl,rfl⟩;rw[jk];cases h:(fl.find? λq=> !act q)with
    |none=>exact absurd h mE
    |some z=>rfl
   refine Do rfl (oS gj ?_);refine av ?_;refine Dn 1 ?_;refine Do rfl (oL bC ?_);refine av ?_;refine Dn 4 ?_;refine Do rfl (oS bC ?_);refine av ?_;refine aV (by kernel_rfl) eI ?_;refine fX ?_;refine av ?_;refine iY ?_;refine av ?_;refine kB [D] [] bO gj bC results184 ?_;refine⟨fl.find? λq=> !act q,false,fl.length, ?_,rfl,rfl⟩;rw[jk];cases h:(fl.find? λq=> !act q)with
   |none=>exact absurd h mE
   |some z=>rfl
  refine Do rfl (oL bC ?_);refine av ?_;refine Dn 0 ?_;refine Do rfl (oL bO ?_);refine av ?_;refine Dn 2 ?_;refine Do rfl (oS bO ?_);refine av ?_;refine Dn 3 ?_;refine Do rfl (oS gj ?_);refine av ?_;refine Dn 4 ?_;refine Do rfl (oS bC ?_);refine av ?_;refine aV (by kernel_rfl) eI ?_;refine fX ?_;refine av ?_;refine iY ?_;refine av ?_;refine kB [D] [] bO gj bC results184 ?_;refine⟨fl.find? λq=> !act q,false,fl.length, ?_,rfl,rfl⟩;rw[jk];cases h:(fl.find? λq=> !act q)with
  |none=>exact absurd h mE
  |some z=>rfl
 ·rintro D Zs ⟨a1,q1,r1,hl,jg,vZ,dE,FU,rfl⟩
  refine bA ?_;simp only[o8,cap,afs];refine kB [D] [] bO gj bC results184 ?_;exact⟨some q1,true,_,by rw[hl];exact(LI jg vZ dE FU).symm,rfl,rfl⟩
 rintro id D Zs ⟨rfl,a1,r1,hl,vZ,dE,rfl⟩;refine bA ?_;have jk:=Ap (act:=act) (n:=5) (b:=r1) vZ (.inl dE);rw[<-hl]at jk;generalize qZ:dg own a1=fl at*;unfold Ko;simp only[o8,cap,afs];have KG:∀z∈fl,At C z:=λz hz=>w7 z (by rw[hl];rw[<-qZ]at hz;unfold dg at hz;exact agy _ (aba.1 hz).1);obtain⟨hz3,hz4⟩:=IQ K KG (fl.find? λq=> !act q) (λq e=>afH e);refine gE ?_;refine pd ?_;refine Xp (oL bO ?_);refine Xi Cm ?_;refine oe ?_;by_cases mE:(fl.find? λq=> !act q)=none
 ·refine ma rfl (by exact congrArg (!·) (decide_eq_true (by rw[mE];rfl))) ?_
  refine lX ?_;refine av ?_;refine gE ?_;refine Dl mix .nil (by kernel_rfl) λF4 le4 Dg o6=> ?_;refine D2 0 1 ?_ ?_
  ·refine Do rfl (oL bO ?_)
   refine av ?_;refine D2 1 2 ?_ ?_
   ·refine Do rfl (oL bC ?_)
    refine av ?_;refine Dn 2 ?_;refine Do rfl (oS bO ?_);refine av ?_;refine Dn 3 ?_;refine Do rfl (oS gj ?_);refine av ?_;refine Dn 4 ?_;refine Do rfl (oS bC ?_);refine av ?_;refine aV (by kernel_rfl) o6 ?_;refine fX ?_;refine av ?_;refine iY ?_;refine kB [D] [] bO gj bC results184 ?_;exact⟨fl.head?,false,fl.length,by rw[jk,mE],rfl,rfl⟩
   refine Do rfl (oS bO ?_);refine av ?_;refine D2 1 3 ?_ ?_
   ·refine Do rfl (oL bC ?_)
    refine av ?_;refine Dn 3 ?_;refine Do rfl (oS gj ?_);refine av ?_;refine Dn 4 ?_;refine Do rfl (oS bC ?_);refine av ?_;refine aV (by kernel_rfl) o6 ?_;refine fX ?_;refine av ?_;refine iY ?_;refine kB [D] [] bO gj bC results184 ?_;exact⟨fl.head?,false,fl.length,by rw[jk,mE],rfl,rfl⟩
   refine Do rfl (oS gj ?_);refine av ?_;refine Dn 1 ?_;refine Do rfl (oL bC ?_);refine av ?_;refine Dn 4 ?_;refine Do rfl (oS bC ?_);refine av ?_;refine aV (by kernel_rfl) o6 ?_;refine fX ?_;refine av ?_;refine iY ?_;refine kB [D] [] bO gj bC results184 ?_;exact⟨fl.head?,false,fl.length,by rw[jk,mE],rfl,rfl⟩
  refine Do rfl (oL bC ?_);refine av ?_;refine Dn 0 ?_;refine Do rfl (oL bO ?_);refine av ?_;refine Dn 2 ?_;refine Do rfl (oS bO ?_);refine av ?_;refine Dn 3 ?_;refine Do rfl (oS gj ?_);refine av ?_;refine Dn 4 ?_;refine Do rfl (oS bC ?_);refine av ?_;refine aV (by kernel_rfl) o6 ?_;refine fX ?_;refine av ?_;refine iY ?_;refine kB [D] [] bO gj bC results184 ?_;exact⟨fl.head?,false,fl.length,by rw[jk,mE],rfl,rfl⟩
 refine nD rfl (by exact congrArg (!·) (decide_eq_false (λe=>mE (hz3.1 (by omega))))) ?_;refine gE ?_;refine Dl mix .nil (by kernel_rfl) λF5 le5 Wu vF=> ?_;refine D2 0 1 ?_ ?_
 ·refine Do rfl (oL bO ?_)
  refine av ?_;refine D2 1 2 ?_ ?_
  ·refine Do rfl (oL bC ?_)
   refine av ?_;refine Dn 2 ?_;refine Do rfl (oS bO ?_);refine av ?_;refine Dn 3 ?_;refine Do rfl (oS gj ?_);refine av ?_;refine Dn 4 ?_;refine Do rfl (oS bC ?_);refine av ?_;refine aV (by kernel_rfl) vF ?_;refine fX ?_;refine av ?_;refine iY ?_;refine av ?_;refine kB [D] [] bO gj bC results184 ?_;refine⟨fl.find? λq=> !act q,false,fl.length, ?_,rfl,rfl⟩;rw[jk];cases h:(fl.find? λq=> !act q)with
   |none=>exact absurd h mE
   |some z=>rfl
  refine Do rfl (oS bO ?_);refine av ?_;refine D2 1 3 ?_ ?_
  ·refine Do rfl (oL bC ?_)
   refine av ?_;refine Dn 3 ?_;refine Do rfl (oS gj ?_);refine av ?_;refine Dn 4 ?_;refine Do rfl (oS bC ?_);refine av ?_;refine aV (by kernel_rfl) vF ?_;refine fX ?_;refine av ?_;refine iY ?_;refine av ?_;refine kB [D] [] bO gj bC results184 ?_;refine⟨fl.find? λq=> !act q,false,fl.length, ?_,rfl,rfl⟩;rw[jk];cases h:(fl.find? λq=> !act q)with
   |none=>exact absurd h mE
   |some z=>rfl
  refine Do rfl (oS gj ?_);refine av ?_;refine Dn 1 ?_;refine Do rfl (oL bC ?_);refine av ?_;refine Dn 4 ?_;refine Do rfl (oS bC ?_);refine av ?_;refine aV (by kernel_rfl) vF ?_;refine fX ?_;refine av ?_;refine iY ?_;refine av ?_;refine kB [D] [] bO gj bC results184 ?_;refine⟨fl.find? λq=> !act q,false,fl.length, ?_,rfl,rfl⟩;rw[jk];cases h:(fl.find? λq=> !act q)with
  |none=>exact absurd h mE
  |some z=>rfl
 refine Do rfl (oL bC ?_);refine av ?_;refine Dn 0 ?_;refine Do rfl (oL bO ?_);refine av ?_;refine Dn 2 ?_;refine Do rfl (oS bO ?_);refine av ?_;refine Dn 3 ?_;refine Do rfl (oS gj ?_);refine av ?_;refine Dn 4 ?_;refine Do rfl (oS bC ?_);refine av ?_;refine aV (by kernel_rfl) vF ?_;refine fX ?_;refine av ?_;refine iY ?_;refine av ?_;refine kB [D] [] bO gj bC results184 ?_;refine⟨fl.find? λq=> !act q,false,fl.length, ?_,rfl,rfl⟩;rw[jk];cases h:(fl.find? λq=> !act q)with
 |none=>exact absurd h mE
 |some z=>rfl
end Go.Proofs.YtcbcjolpdljbiaaGreat
