/- Part Pj1 of the proof. -/
import Derived.Test.YtcbcjolpdljbiaaGreatPi
set_option maxRecDepth 100000
open Go.Proofs.YtcbcjolpdljbiaaGreat.T
open Nat renaming zero_le -> abn
open List renaming mem_eraseIdx_iff_getElem? -> ak8, getElem_of_mem -> acS, getElem?_eq_some_iff -> aa1, length_set -> aa8, mem_cons_of_mem -> aa6, mem_of_getLast? -> aho, getLast?_eq_getElem? -> ahA, mem_cons_self -> aa5, mem_of_mem_head? -> acY, flatMap_nil -> alU, flatMap_cons -> ahw, getD_eq_getElem?_getD -> aaZ, getElem?_eq_getElem -> aa0, getElem?_set_ne -> acX, mem_of_getElem? -> aa3, append_nil -> acT, drop_eq_getElem_cons -> aik, Perm -> abd, perm_append_comm -> abq, findIdx?_cons -> aii, filter_append -> ahU, take_left -> aln, mem_append -> ahy, mem_reverse -> ahN, length_map -> abo, length_append -> aa9, mem_append_left -> ah0, mem_filter -> abm, mem_of_find?_eq_some -> ac4
open Go.Proofs.Tryz renaming prog -> aaY
open Go.Proofs.Tryz
open Go.Value renaming int -> DE
open Go.IntKind renaming i64 -> DD, u64 -> DB
namespace Go.Proofs.YtcbcjolpdljbiaaGreat
open Go Go.dQ
structure Ck where
 now:Nat
 ku:Nat
 cut:Nat
structure tS (k:Ck):Prop where
 n1:1<=k.now
 n2:k.now<=1099511627776
 p:k.ku<=1099511627777
 pn:k.ku≠0->k.now<k.ku
 c:k.cut<18446744073709551616
def Xy (k:Ck):FV:= [DE DD k.now,DE DD k.ku,DE DB k.cut]
def kS (a:Nat)(k:Ck):aa:=ag a 132 (Xy k)
def Ck.flush (k:Ck)(t:Int)(bc:Nat):Ck:=if t<=0 then{k with cut:=max k.cut bc,ku:=0}else{k with ku:=k.now+min t.toNat (1099511627777-k.now)}
def Ck.tick (k:Ck)(by_:Nat)(bc:Nat):Ck:=let k2:={k with now:=k.now+by_};if 0<k2.ku/\k2.ku<=k2.now then k2.flush 0 bc else k2
theorem tS.flush{k:Ck}(h:tS k)(t:Int){bc:Nat}(hi:bc<18446744073709551616):tS (k.flush t bc):=by
 obtain⟨h1,h2,h3,h4,h5⟩:=h;unfold Ck.flush;split
 ·exact⟨h1,h2,abn _,λg=>absurd rfl g,by show max _ _<_;omega⟩
 exact⟨h1,h2,by show k.now+min _ _<=_;omega,λ_=>by show k.now<k.now+min _ _;omega,h5⟩
theorem kK (a:Nat)(k:Ck):aK aaY 38 [DC a] (In (kS a k)) [] (λv H=>v=DE DD k.now/\H= []):=by
 unfold kS Xy;refine af func38 rfl ntmps38 rfl ?_;intro F hk;refine bO ?_;refine Rt [] results38 ?_;exact⟨rfl,rfl⟩
theorem WN (a:Nat)(k:Ck):aK aaY 150 [DC a] (In (kS a k)) [] (λv H=>v=DE DB k.cut/\H= []):=by
 unfold kS Xy;refine af func150 rfl ntmps150 rfl ?_;intro F hk;refine bO ?_;refine Rt [] results150 ?_;exact⟨rfl,rfl⟩
theorem zD (a:Nat)(k:Ck)(h2:k.now<=1099511627776)(t:Int)(bc:Nat)(hi:bc<18446744073709551616)(ht:t<9223372036854775808):
  aK aaY 74 [DC a,DE DD t,DE DB bc] vz [kS a k] (λv H=>v= .tuple #[]/\H= [kS a (k.flush t bc)]):=by
 unfold Ck.flush;by_cases ht0:t<=0
 ·rw[if_pos ht0]
  unfold kS Xy;refine af func74 rfl ntmps74 rfl ?_;intro F _;refine ba ?_;refine eJ ?_ (e:=by exact decide_eq_true ht0);refine cY ?_;refine Li Ma ?_;refine cu ?_;refine Rt0 [ag a 132 [DE DD k.now,DE DD 0,DE DB (max (k.cut:Int) (bc:Int))]] results74 ?_;exact⟨rfl,by rw[show max (k.cut:Int) (bc:Int)=((max k.cut bc:Nat):Int) by omega];rfl⟩
 rw[if_neg ht0];unfold kS Xy;refine af func74 rfl ntmps74 rfl ?_;intro F _;refine ba ?_;refine cM ?_ (e:=by exact decide_eq_false ht0);refine bn ?_;refine iL 13 mix (.cons .here .nil) λF1 jq bV aI=> ?_;obtain⟨q1,_⟩:=bV;refine bO ?_;refine Ti Mi ?_;refine aw ?_;refine gG aI ?_;refine bj ?_;refine Tn ?_;refine j5 [ag a 132 [DE DD k.now,DE DD ((k.now:Int)+min t (1099511627777-(k.now:Int))),DE DB k.cut]] results74 ?_;exact⟨rfl,by rw[show(k.now:Int)+min t (1099511627777-(k.now:Int))=((k.now+min t.toNat (1099511627777-k.now):Nat):Int) by omega]⟩
theorem aaG (ex tok now cut:Nat):aK aaY 149 [DE DD ex,DE DB tok,DE DD now,DE DB cut] vz [] (λv H=>v= .bool (decide (0<ex/\ex<=now\/tok<=cut))/\H= []):=by
 refine af func149 rfl ntmps149 rfl ?_;intro F _;by_cases h1:0<ex
 ·by_cases h2:ex<=now
  ·refine iz ?_
   refine bA ?_;refine zt 11 ?_;refine ba ?_;refine zt 16 ?_;refine bL ?_;refine Rt [] results149 ?_;exact⟨by rw[decide_eq_true (.inl ⟨h1,h2⟩)],rfl⟩
  refine iz ?_;refine bA ?_;refine zt 11 ?_;refine ba ?_;refine zf 16 ?_;refine bL ?_;refine Rt [] results149 ?_;exact⟨congrArg Value.bool (decide_eq_decide.2 (by omega)),rfl⟩
 refine iz ?_;refine bA ?_;refine zf 11 ?_;refine cL ?_;refine Rt [] results149 ?_;exact⟨congrArg Value.bool (decide_eq_decide.2 (by omega)),rfl⟩
def Md (now:Nat)(t:Int):Int:=if t=0 then 0 else if t<0 then(now:Int)else if t<=2592000 then(now:Int)+t else t
theorem BA (now:Nat)(t:Int)(h1:1<=now)(h2:now<=1099511627776):aK aaY 134 [DE DD now,DE DD t] vz [] (λv H=>v=DE DD (Md now t)/\H= []):=by
 unfold Md;refine af func134 rfl ntmps134 rfl ?_;intro F _;refine ba ?_;refine Li Ma ?_;refine Li Mi ?_;refine bn ?_;refine av ?_;refine az (t:=0) (v':=(DE DD now)) rfl (by(congr 1<;>omega)) ?_;refine bA ?_;refine aA rfl ?_ ?_
 ·intro g0
  replace g0:=aG g0;refine bA ?_;refine Rt [] results134 ?_;exact⟨by rw[if_pos g0],rfl⟩
 intro g0;replace g0:=aG g0;refine ba ?_;refine aA rfl ?_ ?_
 ·intro g1
  replace g1:=aG g1;refine bL ?_;refine Rt [] results134 ?_;exact⟨by rw[if_neg g0,if_pos g1],rfl⟩
 intro g1;replace g1:=aG g1;refine ba ?_;refine aA rfl ?_ ?_
 ·intro g2
  replace g2:=aG g2;refine cu ?_;refine Rt [] results134 ?_;exact⟨by rw[if_neg g0,if_neg (by omega),if_pos g2],rfl⟩
 intro g2;replace g2:=aG g2;refine cY ?_;refine Rt [] results134 ?_;exact⟨by rw[if_neg g0,if_neg (by omega),if_neg (by omega)],rfl⟩
def Ck.QA (k:Ck)(n:Int):Int:=if n<1 then 1 else if 1099511627776-(k.now:Int)<n then 4 else 0
def Ck.move (k:Ck)(n:Int)(bc:Nat):Ck:=if k.QA n=0 then k.tick n.toNat bc else k
theorem tS.move{k:Ck}(h:tS k)(n:Int){bc:Nat}(hi:bc<18446744073709551616):tS (k.move n bc):=by
 unfold Ck.move Ck.QA;by_cases e1:n<1
 ·rw[if_pos e1,if_neg (by decide)];exact h
 rw[if_neg e1];by_cases e2:1099511627776-(k.now:Int)<n
 ·rw[if_pos e2,if_neg (by decide)];exact h
 rw[if_neg e2,if_pos rfl];obtain⟨h1,h2,h3,h4,h5⟩:=h;unfold Ck.tick;dsimp only;split
 ·unfold Ck.flush
  rw[if_pos (by decide)];exact⟨by show 1<=k.now+_;omega,by show k.now+_<=_;omega,abn _,λg=>absurd rfl g,by show max k.cut bc<_;omega⟩
 next g=>exact⟨by show 1<=k.now+_;omega,by show k.now+_<=_;omega,h3,λq=>by show k.now+_<k.ku;change k.ku≠0 at q;omega,h5⟩
theorem PB (a:Nat)(k:Ck)(K:tS k)(n:Int)(bc:Nat)(hi:bc<18446744073709551616):
  aK aaY 36 [DC a,DE DD n,DE DB bc] vz [kS a k] (λv H=>v=DE DD (k.QA n)/\H= [kS a (k.move n bc)]):=by
 have h2:=K.n2;unfold Ck.move Ck.QA;by_cases e1:n<1
 ·rw[if_pos e1,if_neg (by decide)]
  unfold kS Xy;refine af func36 rfl ntmps36 rfl ?_;intro F _;refine cY ?_;refine eJ ?_ (e:=by exact decide_eq_true e1);refine ba ?_;refine Rt [ag a 132 [DE DD k.now,DE DD k.ku,DE DB k.cut]] results36 ?_;exact⟨rfl,rfl⟩
 rw[if_neg e1];by_cases e2:1099511627776-(k.now:Int)<n
 ·rw[if_pos e2,if_neg (by decide)]
  unfold kS Xy;refine af func36 rfl ntmps36 rfl ?_;intro F _;refine cY ?_;refine cM ?_ (e:=by exact decide_eq_false e1);refine cL ?_;refine eJ ?_ (e:=by exact decide_eq_true e2);refine ba ?_;refine Rt [ag a 132 [DE DD k.now,DE DD k.ku,DE DB k.cut]] results36 ?_;exact⟨rfl,rfl⟩
 rw[if_neg e2,if_pos rfl];obtain⟨m,rfl⟩:∃m:Nat,n=(m:Int):=⟨n.toNat,by omega⟩;have hp:=K.p;have hf:=zD a {k with now:=k.now+m} (by show k.now+m<=_;omega) 0 bc hi (by decide);unfold Ck.tick;dsimp only;rw[Int.toNat_natCast];unfold kS Xy at hf⊢;refine af func36 rfl ntmps36 rfl ?_;intro F _;refine cY ?_;refine cM ?_ (e:=by exact decide_eq_false e1);refine cL ?_;refine cM ?_ (e:=by exact decide_eq_false e2);by_cases g1:0<k.ku
 ·refine Cr ?_
  refine gQ ?_;refine av ?_;refine iL 16 mix (.cons .here .nil) λF1 jq bV aI=> ?_;obtain⟨q1,_⟩:=bV;refine bA ?_;refine zt 29 ?_;refine bD ?_;refine gG aI ?_;refine aw ?_;by_cases g2:k.ku<=k.now+m
  ·rw[if_pos ⟨g1,g2⟩]
   refine eJ ?_;refine bj ?_;refine zl Aq (hf) (.cons .here .nil) DA ?_;refine ba ?_;refine Rt [ag a 132 (Xy (Ck.flush {k with now:=k.now+m} 0 bc))] results36 ?_;exact⟨rfl,rfl⟩
  rw[if_neg (λg=>g2 g.2)];refine cM ?_;refine bA ?_;refine Rt [ag a 132 [DE DD ((k.now:Int)+(m:Int)),DE DD k.ku,DE DB k.cut]] results36 ?_;exact⟨rfl,rfl⟩
 rw[if_neg (λg=>g1 g.1)];refine fu ?_;refine av ?_;refine iL 16 mix (.cons .here .nil) λF2 zU eP dE=> ?_;obtain⟨q1,_⟩:=eP;refine bA ?_;refine zf 29 ?_;refine bD ?_;refine gG dE ?_;refine cY ?_;refine Rt [ag a 132 [DE DD ((k.now:Int)+(m:Int)),DE DD k.ku,DE DB k.cut]] results36 ?_;exact⟨rfl,rfl⟩
end Go.Proofs.YtcbcjolpdljbiaaGreat
namespace Go.Proofs.YtcbcjolpdljbiaaGreat
open Go Go.dQ Go.Proofs.YtcbcjolpdljbiaaGreat.Cs
section
variable {P:Program} {n:Nat} {ds:Dx} {F:dM} {σ:aT} {o:Oper}
theorem FR{t e sz k:Nat}(ht:BQ P t=some (k,e,sz)):P.underlying t=some (.array k e):=by
 unfold BQ at ht;cases hu:P.underlying t with
 |none=>simp[hu]at ht
 |some dsc=>
  cases dsc<;>simp[hu]at ht;rename_i k' e';cases hi:P.info? e' with
  |none=>simp[hi]at ht
  |some inf=>
   simp[hi]at ht;obtain⟨rfl,rfl,rfl⟩:=ht;rfl
theorem Iag{t e sz sz' k j:Nat}{x y:Operand}{kd:IntKind}{z:Int}{cs vs:FV}(ht:BQ P t=some (k,e,sz'))(he:cO P e=some sz)(ho:o.op= .index t x y:=by exact rfl)(hx:bC σ x=some (.agg cs.toArray):=by exact rfl)(hy:bC σ y=some (.int kd z):=by exact rfl)(hj:z=(j:Int):=by exact rfl)
  (hl:j<k:=by omega) (hv:(cs.drop (j*sz)).take sz=vs:=by first|assumption|exact rfl):Yv P n ds F σ o (.agg vs.toArray):=λa w en fr=>by
 obtain⟨h1,h2⟩:=fG (w:=w) he;subst hj;have e:cs.toArray.extract (j*sz) (j*sz+sz)=vs.toArray:=by
  rw[<-hv];simp[List.take_drop]
 simp[execOp,ho,Instr.index,en.eval hx,en.eval hy,asIntOf,run_underlying (FR ht),hl,part,h1,h2,e];exact hv
theorem Ias{t e sz k j:Nat}{x y:Operand}{kd:IntKind}{z:Int}{cs:FV}{v:Value}(ht:BQ P t=some (k,e,sz))(he:de P e=true)(ho:o.op= .index t x y:=by exact rfl)(hx:bC σ x=some (.agg cs.toArray):=by exact rfl)(hy:bC σ y=some (.int kd z):=by exact rfl)(hj:z=(j:Int):=by exact rfl)
  (hl:j<k:=by omega) (hv:cs[j]?=some v:=by first|assumption|exact rfl):Yv P n ds F σ o v:=λa w en fr=>by
 obtain⟨h1,h2⟩:=ru (w:=w) he;subst hj;simp[execOp,ho,Instr.index,en.eval hx,en.eval hy,asIntOf,run_underlying (FR ht),hl,part,h1,h2,hv]
theorem Fnn{t yt:TypeId}{x y:Operand}{f:Fn}{a c:Array Value}(ht:(P.underlying t).map (λd=>match d with| .func .. =>true|_=>false)=some true)(ho:o.op= .binOp .neq t x y yt:=by exact rfl)(hx:bC σ x=some (.func f a c):=by exact rfl)(hy:bC σ y=some .nilFunc:=by exact rfl):Yv P n ds F σ o (.bool true):=λw0 w en _=>by
 cases hu:P.underlying t with
 |none=>simp[hu]at ht
 |some d=>
  cases d<;>simp[hu]at ht;have h:∀k:Nat,(Op.equalIn (k+1) t (.func f a c) .nilFunc).run P w= .ok false w:=λk=>by simp[Op.equalIn,run_underlying hu]
  have r:(Go.binOp .neq t (.func f a c) .nilFunc).run P w= .ok (.bool true) w:=by
   simp only[Go.binOp];simp[Op.equal,Op.maxDepth,h 9999]
  simp only[execOp,ho,en.eval hx,en.eval hy,Sem.run_bind,eqGuard_at_func,Sem.run_pure,r,Result.andThen_ok]
end
theorem HF:(aaY.underlying 135).map (λd=>match d with| .func .. =>true|_=>false)=some true:=by kernel_rfl
theorem ag6:BQ aaY 276=some (3,275,2):=by kernel_rfl
theorem ahh:cO aaY 275=some 2:=by kernel_rfl
def Aj (C:Cs)(Q:Dy)(c hot warm:Nat):FW:=
 if pL Q c 1 hot then some 1 else if pL Q c 2 warm then some 2 else if yg C Q c then some 3 else none
theorem Wz{C:Cs}{Q:Dy}{c hot warm s:Nat}(h:Aj C Q c hot warm=some s):(1<=s/\s<=3)/\∃p,(ql Q (qi c s)).getLast?=some p:=by
 have ne:∀l:F8,0<l.length->∃p,l.getLast?=some p:=λl h=>by
  cases l with
  |nil=>simp at h
  |cons a l=>exact⟨_,List.getLast?_cons ..⟩
 unfold Aj at h;split at h
 ·next g=>
  cases h;unfold pL at g;exact⟨by omega,ne _ (by have:=of_decide_eq_true g;omega)⟩
 split at h
 ·next g=>
  cases h;unfold pL at g;exact⟨by omega,ne _ (by have:=of_decide_eq_true g;omega)⟩
 split at h
 ·next g=>
  cases h;unfold yg at g;refine⟨by omega, ?_⟩;cases e:(ql Q (qi c 3)).getLast? with
  |none=>rw[e]at g;cases g
  |some p=>exact⟨p,rfl⟩
 cases h
def toQ (A:By)(p:Nat):Nat:=if DY A p then 2 else 3
def qv (C:Cs)(Q:Dy)(c s p:Nat):Dy:=xL Q (qi c s) ((ql Q (qi c s)).length-1) (qi c (toQ C.A p)) p
theorem TI{l:F8}(nd:l.Nodup){p:Nat}(h:p∈l):ahd l p≠some p:=λe=>by
 unfold ahd at e;obtain⟨i1,i2⟩:=Dk h;generalize l.idxOf p=k at*;rcases k with _|k
 ·cases e
 have:=iP nd e i2;omega
theorem Ku{Q:Dy}{i j k p q m:Nat}(hi:i<Q.length)(hj:j<Q.length)(hq:q≠p)(h:q∈ql Q m)(hk:(ql Q i)[k]?=some p):q∈ql (xL Q i k j p) m:=by
 have xa:∀u,q∈ql Q u->q∈ql (Q.set i ((ql Q i).eraseIdx k)) u:=λu hu=>by
  rw[fS hi];split
  ·next e=>
   rw[e]at hu;rw[ak8];obtain⟨v,hv,ev⟩:=acS hu;refine⟨v,λg=>hq ?_,aa1.2 ⟨hv,ev⟩⟩;have h1:(ql Q i)[k]?=some q:=by rw[<-g];exact aa1.2 ⟨hv,ev⟩
   rw[hk]at h1;exact(Option.some.inj h1).symm
  exact hu
 unfold xL;rw[fS (by rw[aa8];exact hj)];split
 ·next e=>rw[<-e];exact aa6 _ (xa m h)
 exact xa m h
theorem ZW{n:Nat}{Q:Dy}{x:Cw}(X:dt n Q x)(nd:∀i,(ql Q i).Nodup){i j k p:Nat}(hi:i<Q.length)(hj:j<Q.length)(hk:(ql Q i)[k]?=some p):dt n (xL Q i k j p) (x.left Q p):=by
 have L:=X.left p;refine⟨L.go,L.no,λq hq=> ?_,L.lf⟩;obtain⟨h1,h2⟩:=L.nx q hq;refine⟨Ku hi hj (λe=> ?_) h1 hk,h2⟩;subst e;unfold Cw.left at hq h1;split at hq
 ·next g=>
  rw[if_pos g]at h1;have hp:=(X.nx q g).1;unfold Cw.pass at hq;rw[g]at hq;dsimp only at hq;split at hq
  ·exact TI (nd _) hp hq
  cases hq
 next g=>exact g hq
structure TM (C:Cs)(n p:Nat)(A:By)(Q:Dy)(x:Cw):Prop where
 o:jd (C.wA A) Q
 d:dm C C.A A (SL p)
 mr:dJ A p=mkSet (dJ C.A p) false
 x:dt n Q x
def abP (cr:Nat):Value:= .func (.func 92) #[DC cr] #[]
def ruF (j:Nat):Nat:=if j=0 then 257 else if j=1 then 258 else 259
theorem aeI (j:Nat)(h:j<3):(ruC.drop (j*2)).take 2= [DE DD (j+1:Nat), .func (.func (ruF j)) #[] #[]]:=by
 have:j=0\/j=1\/j=2:=by omega
 rcases this with rfl|rfl|rfl<;>rfl
def XT (C:Cs)(Q:Dy)(c hot warm j:Nat):Bool:=if j=0 then pL Q c 1 hot else if j=1 then pL Q c 2 warm else yg C Q c
theorem Y1 (a q b qb hot warm:Nat)(C:Cs)(K:Ok C)(Q:Dy)(O:jd C Q)(M:MkQ C Q)(c:Nat)(hc:c<C.ae.length)(hh:hot<=100)(hw:warm<=100)(j:Nat)(hj:j<3):
  aC aaY (ruF j)=true/\aK aaY (ruF j) [DC a,DE DD c] (λh=>In (Cl b C) h/\In (og a b q hot warm) h/\gW (rL q b qb C Q) h) [] (λv H=>v= .bool (XT C Q c hot warm j)/\H= []):=by
 have:j=0\/j=1\/j=2:=by omega
 rcases this with rfl|rfl|rfl
 ·exact⟨(Aq (n:=257)),(Gi a q b qb hot warm C K Q O c hc hh).inp λk h=>⟨h.2.1,h.2.2⟩⟩
 ·exact⟨(Aq (n:=258)),(ami a q b qb hot warm C K Q O c hc hw).inp λk h=>⟨h.2.1,h.2.2⟩⟩
 exact⟨(Aq (n:=259)),Vw a q b qb hot warm C K Q O M c hc⟩
theorem WC{C:Cs}{Q:Dy}{c hot warm:Nat}(h:∀i,i<3->XT C Q c hot warm i=false):Aj C Q c hot warm=none:=by
 have h0:=h 0 (by omega);have h1:=h 1 (by omega);have h2:=h 2 (by omega);unfold XT at h0 h1 h2;unfold Aj;rw[if_pos rfl]at h0;rw[if_neg (by decide),if_pos rfl]at h1;rw[if_neg (by decide),if_neg (by decide)]at h2;rw[h0,h1,h2];rfl
theorem WB{C:Cs}{Q:Dy}{c hot warm j:Nat}(hj:j<3)(h:∀i,i<j->XT C Q c hot warm i=false)(t:XT C Q c hot warm j=true):Aj C Q c hot warm=some (j+1):=by
 have:j=0\/j=1\/j=2:=by omega
 unfold Aj;rcases this with rfl|rfl|rfl
 ·unfold XT at t
  rw[if_pos rfl]at t;rw[t];rfl
 ·have h0:=h 0 (by omega)
  unfold XT at t h0;rw[if_pos rfl]at h0;rw[if_neg (by decide),if_pos rfl]at t;rw[h0,t];rfl
 have h0:=h 0 (by omega);have h1:=h 1 (by omega);unfold XT at t h0 h1;rw[if_pos rfl]at h0;rw[if_neg (by decide),if_pos rfl]at h1;rw[if_neg (by decide),if_neg (by decide)]at t;rw[h0,h1,t];rfl
theorem Vt (a q b qb hot warm cr w:Nat)(dv tv:Value)(C:Cs)(K:Ok C)(Q:Dy)(O:jd C Q)(M:MkQ C Q)(c:Nat)(hc:c<C.ae.length)(hh:hot<=100)(hw:warm<=100)(x:Cw)(X:dt C.ae.length Q x):
  aK aaY 139 [DC a,DE DD c,abP cr] (In (og a b q hot warm)) [Cl b C,ag q 182 (iF b qb C.ae.length),ag qb 333 (Q.flatMap (di C)),iH cr q w C.ae.length dv tv C x]
   (λv H=>(Aj C Q c hot warm=none/\v= .bool false/\H= [Cl b C,ag q 182 (iF b qb C.ae.length),ag qb 333 (Q.flatMap (di C)),iH cr q w C.ae.length dv tv C x])\/
    ∃s p A,Aj C Q c hot warm=some s/\(ql Q (qi c s)).getLast?=some p/\v= .bool true/\
     H= [Cl b (C.wA A),ag q 182 (iF b qb C.ae.length),ag qb 333 ((qv C Q c s p).flatMap (di C)),iH cr q w C.ae.length dv tv C (x.left Q p)]/\TM C C.ae.length p A (qv C Q c s p) (x.left Q p)):=by
 refine af func139 rfl ntmps139 rfl ?_;rintro F xg;have hl:=xg;unfold og Jq at hl;refine ba ?_;refine zl Aq (UC) .nil DA ?_;refine bj ?_;refine Lo (ι:=Nat) (FZ [6,1,8,4,13,41]) (λj=>j<=3/\∀i,i<j->XT C Q c hot warm i=false) (λj=> [(13,DE DD j)]) (λj=> [Cl b C,ag q 182 (iF b qb C.ae.length),ag qb 333 (Q.flatMap (di C)),iH cr q w C.ae.length dv tv C x]) (λj=>3-j) (0) ⟨abn 3,λi h=>absurd h (Nat.not_lt_zero _)⟩ ?_;rintro j hI;obtain⟨hj3,lP⟩:=hI;by_cases hj:j<3
 ·have hru:=aeI j hj
  obtain⟨kR,akb⟩:=Y1 a q b qb hot warm C K Q O M c hc hh hw j hj;refine bj ?_;refine av ?_;refine eJ ?_;refine ba ?_;refine Li (Iag ag6 ahh) ?_;refine Lp (oA Rn λb1=> ?_);refine cY ?_;refine Lp (oCV kR rfl rfl rfl akb .nil (λ_ le au=>⟨au.nth 1 rfl,In.mono xg le,au.nth 2 rfl,au.nth 3 rfl,trivial⟩) λv H' hr=> ?_);obtain⟨rfl,rfl⟩:=hr;refine bS ?_;refine bn ?_;refine aA rfl ?_ ?_
  ·intro G6
   replace G6:=aG G6;refine bL ?_;refine aB ?_;refine Ro (j+1) (⟨hj,λi hi=>(by by_cases e:i=j;exact e▸G6;exact lP i (by omega))⟩) ((by omega))
  intro G6;replace G6:=aG G6;have hds:=WB hj lP G6;obtain⟨hs,p,AK⟩:=Wz hds;have Ay:=aho AK;have P:gI C (some p):=O.GJ (i:=qi c (j+1)) λy hy=>by cases hy;exact Ay
  have L:=(P p rfl).1;have qf:(ql Q (qi c (j+1)))[(ql Q (qi c (j+1))).length-1]?=some p:=by rw[<-ahA];exact AK
  have dx:C.cl p=c:=by
   have h:=O.st _ p Ay;have h3:=h.2.2;unfold qi at h3;omega
  have hmp:=M _ p Ay;have tl:=uy q b qb C K Q O c (j+1) hc hs;rw[AK,cj]at tl;refine bn ?_;refine av ?_;refine iL 12 mix (.cons .here .nil) λF1 jq bV aI=> ?_;obtain⟨q1,_⟩:=bV;have hl1:=In.mono hl jq;refine bL ?_;refine Tp (oZ (Aq (n:=169)) (tl) .nil (λ_ le au=>⟨au.nth 1 rfl,au.nth 2 rfl,trivial⟩) ?_);refine aY ?_;refine gG aI ?_;refine rS ?_;refine zl Aq (tB a b q hot warm C K p L (P.kl p rfl) hmp) .nil (λ_ le au=>⟨au.nth 1 rfl,In.mono xg le⟩) ?_;refine aw ?_;refine cG (ι:=Nat) [11] (λt=>t=toQ C.A p) (λt=> [(11,DE DD t)]) (λt=> [Cl b C,ag q 182 (iF b qb C.ae.length),ag qb 333 (Q.flatMap (di C)),iH cr q w C.ae.length dv tv C x]) ?_ ?_
  ·refine aA rfl ?_ ?_
   ·intro Xw
    replace Xw:=aG Xw;refine bn ?_;refine aB ?_;refine Me (2) ((by unfold toQ;rw[if_pos Xw]))
   intro Xw;replace Xw:=aG Xw;refine aw ?_;refine Me (3) ((by unfold toQ;rw[if_neg (by rw[Xw];decide)]))
  rintro t ht;have ht3:1<=t/\t<=3:=by rw[ht];unfold toQ;split<;>omega
  have hlen1:(ql Q (qi c (j+1))).length-1<(ql Q (qi c (j+1))).length:=by have:=List.length_pos_of_mem Ay;omega
  have PY:=nC O hc hs;have xh:=nC O hc ht3;have X2:=ZW X O.nd (j:=qi c t) PY xh qf;have lf:=FO cr q w C.ae.length b qb dv tv C K Q O x X p L;have sh:=MW q b qb C K Q O (qi c (j+1)) ((ql Q (qi c (j+1))).length-1) p t ht3 qf;rw[dx]at sh;have hsq:qv C Q c (j+1) p=xL Q (qi c (j+1)) ((ql Q (qi c (j+1))).length-1) (qi c t) p:=by unfold qv;rw[ht]
  generalize hx2:x.left Q p=x2 at*;generalize xL Q (qi c (j+1)) ((ql Q (qi c (j+1))).length-1) (qi c t) p=Q2 at*;refine bj ?_;refine Li (Fnn HF) ?_;refine ba ?_;refine Lp (oCV (Aq (n:=92)) rfl rfl rfl lf (.cons (.t3 .here) .nil) (λ_ le au=>⟨au.nth 0 rfl,au.nth 1 rfl,au.nth 2 rfl,trivial⟩) λv H' hr=> ?_);obtain⟨rfl,rfl⟩:=hr;refine bS ?_;refine cY ?_;refine Lp (oC Aq rfl rfl (sh) (.cons (.there .here) (.cons (.there .here) (.cons (.there .here) .nil))) DA ?_);rintro v H' ⟨rfl,A,rfl,E⟩;refine bS ?_;have P2:gI (C.wA A) (some p):=nE K E.d P (λ_ _ _ s=>s.oG);have hmA:dJ A p=dJ C.A p:=Db K E.d L (by unfold SQ;omega);refine aY ?_;refine zl Aq (yQ a b q hot warm (C.wA A) (K.wA A) p (P2 p rfl).1 (P2.kl p rfl) (by rw[cT,hmA];exact hmp) false) (.cons .here .nil) (λ_ le au=>In.mono xg le) ?_;refine bD ?_;refine Rt [Cl b (C.wA (wV A p false)),ag q 182 (iF b qb C.ae.length),ag qb 333 (Q2.flatMap (di C)),iH cr q w C.ae.length dv tv C x2] results139 ?_;refine .inr ⟨j+1,p,wV A p false,hds,AK,rfl,(by rw[hsq,hx2]), ?_, ?_, ?_, ?_⟩
  ·rw[hsq];exact abH (K.wA A) E.o (P2 p rfl).1 false
  ·exact(E.d.mono λq o s=>by unfold SQ at s;unfold SL;omega).trans ((Yb (K.wA A) A (P2 p rfl).1 false).wA.mono λq o s=>by unfold SM at s;unfold SL;omega)
  ·rw[JC K A L L,if_pos rfl,hmA]
   have:=mA hmp false;omega
  rw[hsq,hx2];exact X2
 refine iz ?_;refine bn ?_;refine av ?_;refine cM ?_;refine cu ?_;obtain rfl:j=3:=by omega
 refine Rt [Cl b C,ag q 182 (iF b qb C.ae.length),ag qb 333 (Q.flatMap (di C)),iH cr q w C.ae.length dv tv C x] results139 ?_;exact .inl ⟨WC lP,rfl,rfl⟩
end Go.Proofs.YtcbcjolpdljbiaaGreat
namespace Go.Proofs.YtcbcjolpdljbiaaGreat
open Go Go.dQ Go.Proofs.YtcbcjolpdljbiaaGreat.Cs
structure ny where
 Q:Dy
 ac:Nat->Bool
 x:Cw
def Rg (s:ny)(c:Nat):Bool:=match(ql s.Q (qi c 3)).getLast? with
 |none=>false
 |some p=>s.ac p
def G8 (s:ny)(c hot warm:Nat):FW:=if pL s.Q c 1 hot then some 1 else if pL s.Q c 2 warm then some 2 else if Rg s c then some 3 else none
def sg (c hot warm:Nat)(s:ny):Option ny:=match G8 s c hot warm with
 |none=>none
 |some k=>match(ql s.Q (qi c k)).getLast? with
  |none=>none
  |some p=>some ⟨xL s.Q (qi c k) ((ql s.Q (qi c k)).length-1) (qi c (if s.ac p then 2 else 3)) p,λy=>if y=p then false else s.ac y,s.x.left s.Q p⟩
def lX (c hot warm:Nat):Nat->ny->Nat×ny
 |0,s=>(0,s)
 |k+1,s=>match sg c hot warm s with
  |none=>(0,s)
  |some t=>((lX c hot warm k t).1+1,(lX c hot warm k t).2)
def SB (_q o:Nat):Prop:=4<=o/\o<12\/o=45\/o=46
structure BaI (C:Cs)(A:By)(s:ny):Prop where
 o:jd (C.wA A) s.Q
 x:dt C.ae.length s.Q s.x
 mq:MkQ (C.wA A) s.Q
 ac:∀i,∀p∈ql s.Q i,DY A p=s.ac p
structure Ml (C:Cs)(Q:Dy)(A:By)(s:ny):Prop where
 i:BaI C A s
 d:dm C C.A A SB
 mr:∀y,Live C y->dJ A y/2=dJ C.A y/2
 mem:∀p,(∃i,p∈ql s.Q i)↔∃i,p∈ql Q i
theorem U8{Q:Dy}{i j k p q m:Nat}(hi:i<Q.length)(hj:j<Q.length)(h:q∈ql (xL Q i k j p) m):q=p\/q∈ql Q m:=by
 have back:∀u,q∈ql (Q.set i ((ql Q i).eraseIdx k)) u->q∈ql Q u:=λu hu=>by
  rw[fS hi]at hu;split at hu
  ·next e=>rw[e];exact List.mem_of_mem_eraseIdx hu
  exact hu
 unfold xL at h;rw[fS (by rw[aa8];exact hj)]at h;split at h
 ·next e=>
  rcases List.mem_cons.1 h with g|g
  ·exact .inl g
  exact .inr (by rw[e];exact back _ g)
 exact .inr (back m h)
theorem ae9{Q:Dy}{i j k p:Nat}(hi:i<Q.length)(hj:j<Q.length):p∈ql (xL Q i k j p) j:=by
 unfold xL;rw[fS (by rw[aa8];exact hj),if_pos rfl];exact aa5
theorem ahi{A B:By}{x:Nat}(h:dJ B x=dJ A x):DY B x=DY A x:=by unfold DY;rw[h]
theorem aaA{C:Cs}{A:By}{s:ny}(I:BaI C A s)(c hot warm:Nat):Aj (C.wA A) s.Q c hot warm=G8 s c hot warm:=by
 have:yg (C.wA A) s.Q c=Rg s c:=by
  unfold yg Rg;cases e:(ql s.Q (qi c 3)).getLast? with
  |none=>rfl
  |some p=>exact I.ac _ p (aho e)
 unfold Aj G8;rw[this]
theorem Ml.step{C:Cs}(K:Ok C){Q:Dy}{A B:By}{s:ny}(O:Ml C Q A s){c hot warm k p:Nat}(hc:c<C.ae.length)(hd:G8 s c hot warm=some k)(hk:1<=k/\k<=3)(hl:(ql s.Q (qi c k)).getLast?=some p)
  (T:TM (C.wA A) C.ae.length p B (qv (C.wA A) s.Q c k p) (s.x.left s.Q p)):
  ∃t,sg c hot warm s=some t/\t.Q=qv (C.wA A) s.Q c k p/\t.x=s.x.left s.Q p/\Ml C Q B t:=by
 have Ay:=aho hl;have Xw:DY A p=s.ac p:=O.i.ac _ p Ay;have hQ:xL s.Q (qi c k) ((ql s.Q (qi c k)).length-1) (qi c (if s.ac p then 2 else 3)) p=qv (C.wA A) s.Q c k p:=by
  unfold qv toQ;rw[cT,Xw]
 have L:Live C p:=by
  have:=O.i.o.lv _ p Ay;exact⟨⟨this.i,this.own,this.al,this.k⟩,this.tk⟩
 have PY:qi c k<s.Q.length:=nC O.i.o hc hk;have xh:qi c (toQ A p)<s.Q.length:=nC O.i.o hc (by unfold toQ;split<;>omega);have u9:∀y,Live C y->y≠p->dJ B y=dJ A y:=λy hy ne=>Db (K.wA A) T.d (hy.wA A) (by unfold SL;omega);have lvS:∀i,∀y∈ql (qv (C.wA A) s.Q c k p) i,Live C y:=λi y hy=>by
  have:=T.o.lv i y hy;exact⟨⟨this.i,this.own,this.al,this.k⟩,this.tk⟩
 have hpB:=T.mr;have ai1:=O.i.mq _ p Ay;rw[cT]at hpB ai1;have wv:∀i,∀y∈ql (qv (C.wA A) s.Q c k p) i,y=p\/y∈ql s.Q i:=λi y hy=>U8 PY xh hy;refine⟨⟨qv (C.wA A) s.Q c k p,λy=>if y=p then false else s.ac y,s.x.left s.Q p⟩, ?_,rfl,rfl,⟨⟨T.o,T.x,λi y hy=> ?_,λi y hy=> ?_⟩, ?_,λy hy=> ?_,λy=> ?_⟩⟩
 ·unfold sg
  rw[hd];dsimp only;rw[hl];dsimp only;rw[hQ]
 ·show dJ B y<16
  by_cases e:y=p
  ·rw[e,hpB];exact mA ai1 false
  rw[u9 y (lvS i y hy) e];rcases wv i y hy with g|g
  ·exact absurd g e
  exact O.i.mq i y g
 ·show DY B y=if y=p then false else s.ac y
  by_cases e:y=p
  ·rw[if_pos e,e]
   unfold DY;rw[hpB];unfold mkSet;exact decide_eq_false (by simp)
  rw[if_neg e,ahi (u9 y (lvS i y hy) e)];rcases wv i y hy with g|g
  ·exact absurd g e
  exact O.i.ac i y g
 ·exact O.d.trans (T.d.wA.mono λq o g=>by unfold SL at g;unfold SB;omega)
 ·by_cases e:y=p
  ·rw[e,hpB,<-O.mr p L]
   unfold mkSet;simp
  rw[u9 y hy e,O.mr y hy]
 rw[<-O.mem y];constructor
 ·rintro⟨i,hy⟩
  rcases wv i y hy with g|g
  ·exact⟨_,by rw[g];exact Ay⟩
  exact⟨i,g⟩
 rintro⟨i,hy⟩;by_cases e:y=p
 ·exact⟨qi c (toQ A p),by rw[e];exact ae9 PY xh⟩
 exact⟨i,Ku PY xh e hy (by rw[<-ahA];exact hl)⟩
theorem Gj (a q b qb hot warm cr w:Nat)(dv tv:Value)(C:Cs)(K:Ok C)(s0:ny)(I:BaI C C.A s0)(c:Nat)(hc:c<C.ae.length)(hh:hot<=100)(hw:warm<=100)(jz:Nat)(hl:jz<=1048576):
  aK aaY 91 [DC a,DE DD c,DE DD jz,abP cr] (In (og a b q hot warm)) [Cl b C,ag q 182 (iF b qb C.ae.length),ag qb 333 (s0.Q.flatMap (di C)),iH cr q w C.ae.length dv tv C s0.x]
   (λv H=>∃n A t,lX c hot warm jz s0=(n,t)/\v=DE DD n/\
     H= [Cl b (C.wA A),ag q 182 (iF b qb C.ae.length),ag qb 333 (t.Q.flatMap (di C)),iH cr q w C.ae.length dv tv C t.x]/\Ml C s0.Q A t):=by
 refine af func91 rfl ntmps91 rfl ?_;rintro F xg;refine cY ?_;refine Lo (ι:=Nat×By×ny) (FZ [9,12]) (λs=>Ml C s0.Q s.2.1 s.2.2/\s.1<=jz/\lX c hot warm jz s0=(s.1+(lX c hot warm (jz-s.1) s.2.2).1,(lX c hot warm (jz-s.1) s.2.2).2)) (λs=> [(9,DE DD s.1)]) (λs=> [Cl b (C.wA s.2.1),ag q 182 (iF b qb C.ae.length),ag qb 333 (s.2.2.Q.flatMap (di C)),iH cr q w C.ae.length dv tv C s.2.2.x]) (λs=>jz-s.1) ((0,C.A,s0)) ⟨⟨I,dm.refl _ _ _,λy _=>rfl,λp=>Iff.rfl⟩,abn _,by simp⟩ ?_;rintro⟨n,A,t⟩ hI
 try dsimp only at hI⊢
 obtain⟨B,hn,hb⟩:=hI;by_cases ct:n<jz
 ·have st:=Vt a q b qb hot warm cr w dv tv (C.wA A) (K.wA A) t.Q B.i.o B.i.mq c hc hh hw t.x B.i.x
  rw[aaA B.i]at st;refine bA ?_;refine zt 13 ?_;refine bj ?_;refine Lp (oC Aq rfl rfl (st) (.cons .here (.cons .here (.cons .here (.cons .here .nil)))) (λ_ le au=>In.mono xg le) ?_);rintro v H' hr;refine bS ?_;rcases hr with⟨hd,rfl,rfl⟩|⟨k,p,A2,hd,AK,rfl,rfl,T⟩
  ·refine Li Pt ?_
   refine cL ?_;refine Rt [Cl b (C.wA A),ag q 182 (iF b qb C.ae.length),ag qb 333 (t.Q.flatMap (di C)),iH cr q w C.ae.length dv tv C t.x] results91 ?_;have hz:lX c hot warm (jz-n) t=(0,t):=by
    obtain⟨m,hm⟩:∃m,jz-n=m+1:=⟨jz-n-1,by omega⟩;rw[hm];unfold lX;have:sg c hot warm t=none:=by unfold sg;rw[hd]
    rw[this]
   exact⟨n,A,t,by rw[hb,hz];rfl,rfl,rfl,B⟩
  have hk:1<=k/\k<=3:=by
   unfold G8 at hd;split at hd
   ·cases hd;omega
   split at hd
   ·cases hd;omega
   split at hd
   ·cases hd;omega
   cases hd
  obtain⟨u,u1,u2,u3,U⟩:=B.step K hc hd hk AK T;have akd:lX c hot warm jz s0=(n+1+(lX c hot warm (jz-(n+1)) u).1,(lX c hot warm (jz-(n+1)) u).2):=by
   obtain⟨m,hm⟩:∃m,jz-n=m+1:=⟨jz-n-1,by omega⟩;have e:jz-(n+1)=m:=by omega
   have e2:lX c hot warm (m+1) t=((lX c hot warm m u).1+1,(lX c hot warm m u).2):=by
    show(match sg c hot warm t with|none=>_|some v=>_)=_;rw[u1]
   rw[hb,hm,e,e2];exact Prod.ext (by dsimp only;omega) rfl
  rw[<-u2,<-u3];refine cL ?_;refine Ro ((n+1,A2,u)) (⟨U,ct,akd⟩) ((by dsimp only;omega))
 obtain rfl:n=jz:=by omega
 refine bA ?_;refine zf 13 ?_;refine rS ?_;refine Rt [Cl b (C.wA A),ag q 182 (iF b qb C.ae.length),ag qb 333 (t.Q.flatMap (di C)),iH cr q w C.ae.length dv tv C t.x] results91 ?_;exact⟨n,A,t,by rw[hb,Nat.sub_self];rfl,rfl,rfl,B⟩
structure Sy where
 b:Nat
 ck:Nat
 t:Nat
 lu:Nat
 wh:Nat
 cr:Nat
 mo:Nat
 q:Nat
def pV (a:Nat):Value:=DC a
def jc (y:Sy)(rest:FV):FV:=pV y.b::pV y.ck::pV y.t::pV y.lu::pV y.wh::pV y.cr::pV y.mo::pV y.q::rest
def fC (s:Nat)(y:Sy)(rest:FV):aa:=ag s 96 (jc y rest)
def ve (A:By)(p:Nat):Nat:=rd A (p+16) 8
def sK (A:By)(p:Nat):Nat:=rd A (p+32) 8
def z8 (A:By)(k:Ck)(p:Nat):Nat:=if 0<ve A p/\ve A p<=k.now then 2 else if sK A p<=k.cut then 3 else 0
theorem A6 (s:Nat)(y:Sy)(rest:FV)(C:Cs)(K:Ok C)(k:Ck)(p:Nat)(P:gI C (some p)):
  aK aaY 97 [DC s,DE DB (C.hd p)] (λh=>In (fC s y rest) h/\In (Cl y.b C) h/\In (kS y.ck k) h) []
   (λv H=>v=DE DD (z8 C.A k p)/\H= []):=by
 have L:=(P p rfl).1;have I:=(P p rfl).2;unfold z8 ve sK;refine af func97 rfl ntmps97 rfl ?_;rintro F ⟨PW,dx,z6⟩;have hs:=PW;unfold fC jc pV at hs;refine bD ?_;refine zl Aq (I7 y.b C K p L I.k0 I.exp) .nil (λ_ le _=>In.mono dx le) ?_;refine gQ ?_;refine zl Aq (Bp y.b C K p L I.k0) .nil (λ_ le _=>In.mono dx le) ?_;generalize rd C.A (p+16) 8=e at*;generalize rd C.A (p+32) 8=tk at*;refine cY ?_;refine av ?_;refine gT true mix ?_;refine bL ?_;refine Tp (oZ (Aq (n:=38)) (kK y.ck k) .nil (λ_ le _=>In.mono z6 le) ?_);refine ba ?_;refine Tp (oZ (Aq (n:=150)) (WN y.ck k) .nil (λ_ le _=>In.mono z6 le) ?_);refine Tp (oZ (Aq (n:=149)) (aaG e tk k.now k.cut) .nil DA ?_);by_cases h1:0<e/\e<=k.now
 ·rw[decide_eq_true (.inl h1),if_pos h1]
  refine Ti Nt ?_;refine bL ?_;refine zt 49 ?_;refine bA ?_;refine zl Aq (kK y.ck k) .nil (λ_ le _=>In.mono z6 le) ?_;refine aY ?_;refine eJ ?_;refine bA ?_;refine Rt [] results97 ?_;exact⟨rfl,rfl⟩
 rw[if_neg h1];by_cases h2:tk<=k.cut
 ·rw[decide_eq_true (.inr h2),if_pos h2]
  refine Ti Nt ?_;refine bj ?_;by_cases h3:0<e
  ·refine iz ?_
   refine bj ?_;refine zt 49 ?_;refine bA ?_;refine zl Aq (kK y.ck k) .nil (λ_ le _=>In.mono z6 le) ?_;refine aY ?_;refine cM ?_;refine bL ?_;refine Rt [] results97 ?_;exact⟨rfl,rfl⟩
  refine iz ?_;refine bj ?_;refine zf 49 ?_;refine BV ?_;refine Rt [] results97 ?_;exact⟨rfl,rfl⟩
 rw[decide_eq_false (λg=>g.elim h1 h2),if_neg h2];refine Ti Nt ?_;refine cu ?_;refine Rt [] results97 ?_;exact⟨rfl,rfl⟩
theorem EX (s:Nat)(y:Sy)(rest:FV)(C:Cs)(K:Ok C)(k:Ck)(p:Nat)(P:gI C (some p)):
  aK aaY 48 [DC s,DE DB (C.hd p)] (λh=>In (fC s y rest) h/\In (Cl y.b C) h/\In (kS y.ck k) h) []
   (λv H=>v= .bool (decide (z8 C.A k p≠0))/\H= []):=by
 refine af func48 rfl ntmps48 rfl ?_;rintro F ⟨PW,dx,z6⟩;refine bA ?_;refine zl Aq (A6 s y rest C K k p P) .nil (λ_ le _=>⟨In.mono PW le,In.mono dx le,In.mono z6 le⟩) ?_;refine aY ?_;refine Rt [] results48 ?_;refine⟨?_,rfl⟩;by_cases h:z8 C.A k p=0
 ·rw[h];rfl
 rw[decide_eq_true h,Ar];rfl
theorem EW (s:Nat)(y:Sy)(rest:FV)(C:Cs)(K:Ok C)(p:Nat)(P:gI C (some p))(hk:kl C.A p<=250):
  aK aaY 187 [DC s,DE DB (C.hd p)] (λh=>In (fC s y rest) h/\In (Cl y.b C) h) []
   (λv H=>v=DE DD (58+kl C.A p+vl C.A p:Nat)/\H= []):=by
 have L:=(P p rfl).1;have I:=(P p rfl).2;have k0:=I.k0;have hf:=I.fits;have n1:=L.toAt.br K;have p1:=K.p1;refine af func187 rfl ntmps187 rfl ?_;rintro F ⟨PW,dx⟩;have hs:=PW;unfold fC jc pV at hs;refine bD ?_;refine zl Aq (wO y.b C K p L I.k0) .nil (λ_ le _=>In.mono dx le) ?_;refine bO ?_;refine zl Aq (Fo (kl C.A p) (vl C.A p) (by omega) (by omega)) .nil DA ?_;refine bO ?_;refine Rt [] results187 ?_;exact⟨rfl,rfl⟩
structure wi (C D:Cs)(S:Nat->Prop):Prop where
 a:D.A=C.A
 sz:D.ae=C.ae
 lv:∀q,S q->Live C q->Live D q/\D.hd q=C.hd q/\D.cl q=C.cl q
theorem wi.it{C D:Cs}{S:Nat->Prop}(M:wi C D S){q:Nat}(s:S q)(L:Live C q)(I:gU C q):gU D q:=by
 obtain⟨_,_,e⟩:=M.lv q s L;have hz:D.sz (D.cl q)=C.sz (C.cl q):=by rw[e];unfold Cs.sz;rw[M.sz]
 exact⟨by rw[M.a];exact I.k0,by rw[M.a,hz];exact I.fits,by rw[M.a];exact I.exp,by rw[M.a];exact I.tch⟩
theorem wi.qu{C D:Cs}{S:Nat->Prop}(M:wi C D S){Q:Dy}(O:jd C Q)(h:∀i,∀p∈ql Q i,S p):jd D Q:=
 ⟨by rw[M.sz];exact O.len,λi p hp=>(M.lv p (h i p hp) (O.lv i p hp)).1,λi p hp=>M.it (h i p hp) (O.lv i p hp) (O.it i p hp),λi p hp=>by
  rw[M.a,(M.lv p (h i p hp) (O.lv i p hp)).2.2];exact O.st i p hp,O.nd,λi k hk=>by rw[M.a];exact O.l1 i k hk,λi k hk=>by rw[M.a];exact O.l2 i k hk⟩
theorem wi.tb{C D:Cs}{S:Nat->Prop}(M:wi C D S){W:Tb}(O:dC C W)(h:∀p∈W.all,S p):dC D W:=
 ⟨O.pw,O.po,O.st,O.mp,O.sz,O.Qc,O.sm,O.mv,O.n,O.nd,λx=>by rw[M.a];exact O.li x,λp hp=>(M.lv p (h p hp) (O.lv p hp)).1,λp hp=>M.it (h p hp) (O.lv p hp) (O.it p hp),
  λx p hp=>by rw[M.a];exact O.bu x p hp,λp hp q hq e=>O.kd p hp q hq (by rw[M.a]at e;exact e)⟩
theorem wi.ls{C D:Cs}{S:Nat->Prop}(M:wi C D S){Q:Dy}(O:jd C Q)(h:∀i,∀p∈ql Q i,S p):Q.flatMap (di D)=Q.flatMap (di C):=by
 have one:∀l,(∀p∈l,S p/\Live C p)->di D l=di C l:=λl hl=>by
  have ho:∀o:FW,(∀p,o=some p->p∈l)->hO D o=hO C o:=λo hp=>by
   cases o with
   |none=>rfl
   |some p=>
    have:=hl p (hp p rfl);rw[cj,cj,(M.lv p this.1 this.2).2.1]
  have h1:=ho l.head? (λp e=>acY e);have h2:=ho l.getLast? (λp e=>aho e);show [Value.int .u64 (hO D l.head?:Int),Value.int .u64 (hO D l.getLast?:Int),Value.int .i64 (l.length:Int)]= [Value.int .u64 (hO C l.head?:Int),Value.int .u64 (hO C l.getLast?:Int),Value.int .i64 (l.length:Int)];generalize hO D l.head?=x1 at*;generalize hO D l.getLast?=x2 at*;subst h1;subst h2;rfl
 have:∀(R:Dy),(∀l∈R,∀p∈l,S p/\Live C p)->R.flatMap (di D)=R.flatMap (di C):=λR hR=>by
  induction R with
  |nil=>rw[alU,alU]
  |cons l R ih=>rw[ahw,ahw,one l (hR l aa5),ih λm hm=>hR m (aa6 _ hm)]
 refine this Q λl hl p hp=> ?_;obtain⟨i,hi,e⟩:=acS hl;have e2:ql Q i=l:=by unfold ql;rw[aaZ,aa0 hi,e];rfl
 rw[<-e2]at hp;exact⟨h i p hp,O.lv i p hp⟩
theorem wi.cw{C D:Cs}{S:Nat->Prop}(M:wi C D S){Q:Dy}(O:jd C Q)(h:∀i,∀p∈ql Q i,S p){n:Nat}{x:Cw}(X:dt n Q x)(q w m:Nat)(dv tv:Value):qj q w m dv tv D x=qj q w m dv tv C x:=by
 have:hO D x.nx=hO C x.nx:=by
  cases e:x.nx with
  |none=>rfl
  |some p=>
   have hp:=(X.nx p e).1;rw[cj,cj,(M.lv p (h _ p hp) (O.lv _ p hp)).2.1]
 unfold qj;rw[this]
theorem jK{C:Cs}(K:Ok C){p:Nat}(L:Live C p):wi C (C.bh p) (λq=>q≠p):=by
 obtain⟨K2,S⟩:=gA K L;have hpl:C.pn p<C.bQ.length:=by rw[K.pl];exact L.i
 have jg:=λj=>mX (C:=C) (c:=C.cl p) (sp:=C.spare) (x:={C.pg (C.pn p)with tk:=(C.pg (C.pn p)).tk.set (C.ix p) false,held:=(C.pg (C.pn p)).held-1,bb:=(C.pg (C.pn p)).bb.set (C.ix p) ((C.gen p+1) % 4294967296)}) (r:={C.rw (C.cl p)with free:=if(C.pg (C.pn p)).lv=true then(C.rw (C.cl p)).free else(C.rw (C.cl p)).free++ [p],eG:=(C.rw (C.cl p)).eG-1}) (A:=C.A) hpl j;refine⟨rfl,rfl,λq ne M=> ?_⟩;have ecl:=S.cl q;have eix:=S.ix q;have epn:=S.pn q;have key:((C.bh p).pg (C.pn q)).tk[C.ix q]?=(C.pg (C.pn q)).tk[C.ix q]?/\((C.bh p).pg (C.pn q)).bb.getD (C.ix q) 0=(C.pg (C.pn q)).bb.getD (C.ix q) 0/\((C.bh p).pg (C.pn q)).own=(C.pg (C.pn q)).own/\((C.bh p).pg (C.pn q)).bb.length=(C.pg (C.pn q)).bb.length:=by
  have h:=jg (C.pn q);change(C.bh p).pg (C.pn q)=_ at h;rw[h];by_cases e:C.pn q=C.pn p
  ·have fN:C.ix p≠C.ix q:=λg=>ne (by
    have h1:=(L.toAt.br K).2.2.2.2.2.1;have h2:=(M.toAt.br K).2.2.2.2.2.1;have hc:C.cl q=C.cl p:=by unfold Cs.cl;rw[e]
    rw[h1,h2,e,hc,g])
   rw[if_pos e,e];refine⟨?_, ?_,rfl,by simp⟩
   ·show((C.pg (C.pn p)).tk.set (C.ix p) false)[C.ix q]?=_
    rw[acX fN]
   show((C.pg (C.pn p)).bb.set (C.ix p) _).getD (C.ix q) 0=_;rw[aaZ,aaZ,acX fN]
  rw[if_neg e];exact⟨rfl,rfl,rfl,rfl⟩
 obtain⟨k1,k2,k3,k4⟩:=key;have e1:(C.bh p).pg ((C.bh p).pn q)=(C.bh p).pg (C.pn q):=by rw[epn]
 refine⟨⟨⟨by rw[epn];exact M.i,by rw[e1,k3];exact M.own, ?_,by rw[eix,e1,k4];exact M.k⟩,by rw[eix,e1,k1];exact M.tk⟩, ?_,ecl⟩
 ·rw[ecl,S.sz];exact M.al
 unfold Cs.hd Cs.gen;rw[eix,e1,k2]
structure Sv where
 c:oo
 p:tO
 bc:Nat
 fE:Nat
 mt:Mt
 wa:FX
 wn:Nat
 wc:Nat
def iZ (z:Int):Value:=DE DD z
def fm (v:Sv):FV:= [iZ v.c.aj,iZ v.c.pgs,iZ v.c.fac,iZ v.c.bE,iZ v.c.lim,iZ v.c.hot,iZ v.c.warm,iZ v.p.b,iZ v.p.l,iZ v.p.c,iZ v.p.m,DE DB v.bc,DE DD v.fE,iZ v.mt.dr,iZ v.mt.re,iZ v.mt.bu,iZ v.mt.li,iZ v.mt.lo,iZ v.mt.cr,iZ v.mt.mv, .slice v.wa v.wn v.wc]
theorem Df{n:Nat}{Q:Dy}{x:Cw}(X:dt n Q x)(nd:∀i,(ql Q i).Nodup){i k p:Nat}(hi:i<Q.length)(hk:(ql Q i)[k]?=some p):dt n (Q.set i ((ql Q i).eraseIdx k)) (x.left Q p):=by
 have L:=X.left p;refine⟨L.go,L.no,λq hq=> ?_,L.lf⟩;obtain⟨h1,h2⟩:=L.nx q hq;have ne:q≠p:=λe=>by
  subst e;unfold Cw.left at hq;split at hq
  ·next g=>
   have hp:=(X.nx q g).1;unfold Cw.pass at hq;rw[g]at hq;dsimp only at hq;split at hq
   ·exact TI (nd _) hp hq
   cases hq
  next g=>exact g hq
 refine⟨?_,h2⟩;rw[fS hi];split
 ·next e=>
  rw[e]at h1;rw[ak8];obtain⟨v,hv,ev⟩:=acS h1;refine⟨v,λg=>ne ?_,aa1.2 ⟨hv,ev⟩⟩;have h1:(ql Q i)[k]?=some q:=by rw[<-g];exact aa1.2 ⟨hv,ev⟩
  rw[hk]at h1;exact(Option.some.inj h1).symm
 exact h1
structure acO (C:Cs)(p:Nat)(A:By)(Q:Dy)(x:Cw):Prop where
 k:Ok ((C.wA A).bh p)
 s:wi (C.wA A) ((C.wA A).bh p) (λq=>q≠p)
 o:jd ((C.wA A).bh p) Q
 d:dm C C.A A (SQ p)
 x:dt C.ae.length Q x
 no:∀i,p∉ql Q i
theorem J8 (s qb hot warm:Nat)(dv tv:Value)(y:Sy)(v:Sv)(C:Cs)(K:Ok C)(Q:Dy)(O:jd C Q)(x:Cw)(X:dt C.ae.length Q x)(E:List En)(tn i k p:Nat)(hk:(ql Q i)[k]?=some p)(G7:kl C.A p<=250)(hb:58+kl C.A p+vl C.A p<=v.fE)(hbm:v.fE<4611686018427387904):
  aK aaY 131 [DC s,DE DB (C.hd p)] (In (og y.lu y.b y.q hot warm)) [Cl y.b C,ag y.q 182 (iF y.b qb C.ae.length),ag qb 333 (Q.flatMap (di C)),iH y.cr y.q y.wh C.ae.length dv tv C x,Wl y.wh E tn,fC s y (fm v)]
   (λr H=>r= .tuple #[]/\∃A,H= [Cl y.b ((C.wA A).bh p),ag y.q 182 (iF y.b qb C.ae.length),ag qb 333 ((Q.set i ((ql Q i).eraseIdx k)).flatMap (di ((C.wA A).bh p))),iH y.cr y.q y.wh C.ae.length dv tv ((C.wA A).bh p) (x.left Q p),Wl y.wh (fi E (C.hd p)) tn,fC s y (fm {v with fE:=v.fE-(58+kl C.A p+vl C.A p)})]/\
    acO C p A (Q.set i ((ql Q i).eraseIdx k)) (x.left Q p)):=by
 have hpl:=aa3 hk;have P:gI C (some p):=O.GJ (i:=i) λz hz=>by cases hz;exact hpl
 have L:=(P p rfl).1;have ct:=(aa1.1 hk).1;have hi:i<Q.length:=by
  have h:=O.st i p hpl;have:=nC O (L.toAt.br K).1 ⟨h.1,h.2.1⟩;rw[<-h.2.2]at this;exact this
 have X2:=Df X O.nd hi hk;have lf:=FO y.cr y.q y.wh C.ae.length y.b qb dv tv C K Q O x X p L;generalize hx2:x.left Q p=x2 at*;unfold fC jc pV fm iZ;refine af func131 rfl ntmps131 rfl ?_;rintro F hl;refine bL ?_;refine zl Aq (lf) (.cons (.t3 .here) .nil) (λ_ le au=>⟨au.nth 0 rfl,au.nth 1 rfl,au.nth 2 rfl,trivial⟩) ?_;refine cY ?_;refine Lp (oC Aq rfl rfl (Nl y.lu y.q y.b qb hot warm C K Q O i k p hk) (.cons (.there .here) (.cons (.there .here) (.cons (.there .here) .nil))) (λ_ le _=>In.mono hl le) ?_);rintro v H' ⟨rfl,A,rfl,D⟩;refine bS ?_;refine cY ?_;refine zl Aq (W6 y.wh E tn (C.hd p)) (.cons (.t4 .here) .nil) DA ?_;have P2:gI (C.wA A) (some p):=nE K D.d P (λ_ _ _ s=>s.oG);have kp:=tg K D.d L.toAt (P p rfl).2 (λ_ s=>s.oG);have sz:=EW s y (fm v) (C.wA A) (K.wA A) p P2 (by rw[cT,kp.kl];exact G7);rw[cT,kp.kl,kp.vl]at sz;have L2:Live (C.wA A) p:=L.wA A;obtain⟨G1,G2⟩:=gA (K.wA A) L2;have S:=jK (K.wA A) L2;have lP:∀j,∀z∈ql (Q.set i ((ql Q i).eraseIdx k)) j,z≠p:=λj z hz e=>D.no j (e▸hz);have els:=S.ls D.o lP;have ecr:=S.cw D.o lP X2 y.q y.wh C.ae.length dv tv;generalize hz:58+kl C.A p+vl C.A p=z at*;generalize hQ2:Q.set i ((ql Q i).eraseIdx k)=Q2 at*;refine aw ?_;refine av ?_;refine iL 8 mix (.cons (.t4 (.there .here)) (.cons (.there .here) .nil)) λF1 jq bV aI=> ?_;obtain⟨q1,q2,_⟩:=bV;refine bA ?_;refine Tp (oZ (Aq (n:=187)) (sz) .nil (λ_ le au=>⟨In.mono q1 le,In.mono q2 le⟩) ?_);refine aw ?_;refine gG aI ?_;refine bO ?_;refine zl Aq (KX y.b (C.wA A) (K.wA A) p L2) (.cons (.there .here) .nil) DA ?_;refine aB ?_;have e:((v.fE-z:Nat):Int)=(v.fE:Int)-(z:Int):=by omega
 refine j5 [Cl y.b ((C.wA A).bh p),ag y.q 182 (iF y.b qb C.ae.length),ag qb 333 (Q2.flatMap (di (C.wA A))),ag y.cr 137 (qj y.q y.wh C.ae.length dv tv (C.wA A) x2),Wl y.wh (fi E (C.hd p)) tn,ag s 96 (jc y [iZ v.c.aj,iZ v.c.pgs,iZ v.c.fac,iZ v.c.bE,iZ v.c.lim,iZ v.c.hot,iZ v.c.warm,iZ v.p.b,iZ v.p.l,iZ v.p.c,iZ v.p.m,DE DB v.bc,DE DD ((v.fE:Int)-(z:Int)),iZ v.mt.dr,iZ v.mt.re,iZ v.mt.bu,iZ v.mt.li,iZ v.mt.lo,iZ v.mt.cr,iZ v.mt.mv, .slice v.wa v.wn v.wc])] results131 ?_;refine⟨rfl,A, ?_,G1,S,S.qu D.o lP,D.d,X2,D.no⟩;unfold iH;rw[els,ecr,<-e];rfl
theorem S04{q o:Nat}{S:F8}(h:q∈S/\0<=o/\o<0+4):mL o/\(o<4\/12<=o)/\o≠45:=by
 unfold mL;omega
structure ajm (C:Cs)(p:Nat)(D:Cs)(V:Tb)(Q:Dy)(x:Cw):Prop where
 k:Ok D
 t:dC D V
 o:jd D Q
 x:dt C.ae.length Q x
 s:wi (C.wA D.A) D (λq=>q≠p)
 d:dm C C.A D.A (λ_ o=>o<12\/o=45)
 no:∀i,p∉ql Q i
 g:D=(C.bh p).wA D.A
theorem UB (s qb hot warm:Nat)(dv tv:Value)(y:Sy)(v:Sv)(C:Cs)(K:Ok C)(W:Tb)(ty:pW)(TO:dC C W)(hy:ty.ok=none->W.ob= [])(Q:Dy)(O:jd C Q)(x:Cw)(X:dt C.ae.length Q x)(E:List En)(tn i k p:Nat)(hp:p∈W.all)(hk:(ql Q i)[k]?=some p)(G7:kl C.A p<=250)(hb:58+kl C.A p+vl C.A p<=v.fE)(hbm:v.fE<4611686018427387904):
  aK aaY 85 [DC s,DE DB (C.hd p)] (In (og y.lu y.b y.q hot warm)) (Cl y.b C::np y.t y.b W ty++ [ag y.q 182 (iF y.b qb C.ae.length),ag qb 333 (Q.flatMap (di C)),iH y.cr y.q y.wh C.ae.length dv tv C x,Wl y.wh E tn,fC s y (fm v)])
   (λr H=>r= .tuple #[]/\∃D V ty',H=Cl y.b D::np y.t y.b V ty'++ [ag y.q 182 (iF y.b qb C.ae.length),ag qb 333 ((Q.set i ((ql Q i).eraseIdx k)).flatMap (di D)),iH y.cr y.q y.wh C.ae.length dv tv D (x.left Q p),Wl y.wh (fi E (C.hd p)) tn,fC s y (fm {v with fE:=v.fE-(58+kl C.A p+vl C.A p)})]/\
    (ty'.ok=none->V.ob= [])/\W.all.Perm (p::V.all)/\ajm C p D V (Q.set i ((ql Q i).eraseIdx k)) (x.left Q p)/\∃A,Ih C W p A V):=by
 have at_:∀q∈W.all,At C q:=λq hq=>(TO.lv q hq).toAt;unfold fC jc pV;refine af func85 rfl ntmps85 rfl ?_;rintro F hl;unfold np;refine bL ?_;refine Lp (oC Aq rfl rfl (Um y.t y.b C K W ty TO hy p hp) (.cons .here (.cons .here (.cons .here (.cons .here .nil)))) DA ?_);rintro v H' ⟨rfl,A,V,ty',rfl,hy',TK⟩;refine bS ?_;have hpl:=aa3 hk;have L:=O.lv i p hpl;have dP:=wB TK.df at_ (λq hq=>by have:=((at_ q hq).br K).2.1;omega);have kp:=tg K dP L.toAt (O.it i p hpl) (λj g=>(S04 g).1);have O1:=L7 K O dP (λj q hq u g=>S04 g);have off:=J8 s qb hot warm dv tv y v (C.wA A) (K.wA A) Q O1 x X E tn i k p hk (by rw[cT,kp.kl];exact G7) (by rw[cT,kp.kl,kp.vl];exact hb) hbm;rw[cT,kp.kl,kp.vl]at off;have nd2:=(TK.pm.nodup_iff).2 TO.nd;have hnV:∀q∈V.all,q≠p:=λq hq e=>(List.nodup_cons.1 nd2).1 (e▸hq);refine aY ?_;refine Lp (oC Aq rfl rfl (off) (.cons .here (.cons (.t3 .here) (.cons (.t3 .here) (.cons (.t3 .here) (.cons (.t3 .here) (.cons (.t3 .here) .nil)))))) (λ_ le _=>In.mono hl le) ?_);rintro v H' ⟨rfl,B,rfl,OF⟩;refine bS ?_;have T2:=GZ (K.wA A) TK.o OF.d (λq _ j g=>⟨g.oG,by unfold SQ at g;omega⟩);have T3:=OF.s.tb T2 hnV;refine aB ?_;refine j5 [Cl y.b (((C.wA A).wA B).bh p),ag y.t 154 (gV y.b V ty'),ag ty'.nk 149 (aV (aL V.nb)),oe ty'.ok 149 (aV (aL V.ob)),ag y.q 182 (iF y.b qb C.ae.length),ag qb 333 ((Q.set i ((ql Q i).eraseIdx k)).flatMap (di (((C.wA A).wA B).bh p))),iH y.cr y.q y.wh C.ae.length dv tv (((C.wA A).wA B).bh p) (x.left Q p),Wl y.wh (fi E (C.hd p)) tn,fC s y (fm {v with fE:=v.fE-(58+kl C.A p+vl C.A p)})] results85 ?_;refine⟨rfl,((C.wA A).wA B).bh p,V,ty',rfl,hy',TK.pm.symm,⟨OF.k,T3,OF.o,OF.x,OF.s, ?_,OF.no,rfl⟩,A,TK⟩;exact(dP.mono λq o g=>by omega).trans (OF.d.wA.mono λq o g=>by unfold SQ at g;omega)
theorem aaO:∀m:Nat,m<16->gL .or .i64 (m:Int) 8=some ((m % 8+8:Nat):Int):=by decide+kernel
theorem WU:∀m:Nat,m<16->gL .andNot .i64 (m:Int) 6=some ((m-m/2 % 4*2:Nat):Int):=by decide+kernel
theorem aaP:∀m:Nat,m<16->∀k:Nat,k<4->gL .or .i64 ((m-m/2 % 4*2:Nat):Int) ((k*2:Nat):Int)=some ((m-m/2 % 4*2+k*2:Nat):Int):=by decide+kernel
def ads (A:By)(p now:Nat):By:=wr (wr (wV A p true) (p+46) 1 (mkSet (dJ A p) true % 8+8)) (p+24) 8 now
def RV (A:By)(p k:Nat):By:=wr A (p+46) 1 (dJ A p-dJ A p/2 % 4*2+k*2)
theorem MP (s:Nat)(y:Sy)(rest:FV)(C:Cs)(K:Ok C)(p k:Nat)(hk4:k<4)(P:gI C (some p))(hm:dJ C.A p<16):
  aK aaY 127 [DC s,DE DB (C.hd p),DE DD (k*2:Nat)] (In (fC s y rest)) [Cl y.b C]
   (λv H=>v= .tuple #[]/\H= [Cl y.b (C.wA (RV C.A p k))]):=by
 have L:=(P p rfl).1;have k0:=P.kl p rfl;have h6:=WU _ hm;have ho:=aaP _ hm k hk4;unfold RV;unfold dJ at*;refine af func127 rfl ntmps127 rfl ?_;intro F PW;have hs:=PW;unfold fC jc pV at hs;refine bL ?_;refine zl Aq (rF y.b C K p L k0) .nil (λ_ le au=>au.1) ?_;generalize rd C.A (p+46) 1=m at*;refine kT ?_;refine az (t:=25) (v':=(DE DD (m-m/2 % 4*2:Nat))) rfl (by exact congrArg (λx=>Value.int .i64 (x.getD 0)) h6) ?_;refine bn ?_;refine az (t:=27) (v':=(DE DD (m-m/2 % 4*2+k*2:Nat))) rfl (by exact congrArg (λx=>Value.int .i64 (x.getD 0)) ho) ?_;refine zl Aq (lN y.b C K p (m-m/2 % 4*2+k*2) (by omega) L k0) (.cons .here .nil) DA ?_;refine aB ?_;refine j5 [Cl y.b (C.wA (wr C.A (p+46) 1 (m-m/2 % 4*2+k*2)))] results127 ?_;exact⟨rfl,rfl⟩
theorem YY (s hot warm:Nat)(y:Sy)(rest:FV)(C:Cs)(K:Ok C)(k:Ck)(CK:tS k)(p:Nat)(P:gI C (some p))(hm:dJ C.A p<16)(fM:1<=gP C.A p/\gP C.A p<=3):
  aK aaY 122 [DC s,DE DB (C.hd p)] (λh=>In (fC s y rest) h/\In (og y.lu y.b y.q hot warm) h/\In (kS y.ck k) h) [Cl y.b C]
   (λv H=>v= .tuple #[]/\H= [Cl y.b (C.wA (ads C.A p k.now))]):=by
 have L:=(P p rfl).1;have k0:=P.kl p rfl;have hn:=CK.n2;have hm2:=mA hm true;have h8:=aaO _ hm2;have d1:=Yb K C.A L true;have P1:gI (C.wA (wV C.A p true)) (some p):=nE K d1 P (λ_ _ _ g=>g.oG);have u9:dJ (wV C.A p true) p=mkSet (dJ C.A p) true:=by
  rw[JC K C.A L L,if_pos rfl];omega
 have P2:gI (C.wA (wr (wV C.A p true) (p+46) 1 (mkSet (dJ C.A p) true % 8+8))) (some p):=by
  have w:dm (C.wA (wV C.A p true)) (wV C.A p true) (wr (wV C.A p true) (p+46) 1 (mkSet (dJ C.A p) true % 8+8)) (SM p):=xR _ (P1 p rfl).1.toAt (by have:=(L.toAt.br K).2.1;show 46+1<=C.sz (C.cl p);omega) λj h1 h2=>⟨by omega,rfl⟩;exact nE (K.wA _) w P1 (λ_ _ _ g=>g.oG)
 have im:=rF y.b (C.wA (wV C.A p true)) (K.wA _) p (P1 p rfl).1 (P1.kl p rfl);change aK _ _ _ _ _ (λv H=>v= .tuple #[DE DD (dJ (wV C.A p true) p:Nat),DE DD 0]/\H= [])at im;rw[u9]at im;unfold ads;generalize hmm:mkSet (dJ C.A p) true=m at*;refine af func122 rfl ntmps122 rfl ?_;rintro F ⟨PW,hl,z6⟩;have hs:=PW;unfold fC jc pV at hs;refine bL ?_;refine zl Aq (Z4 y.lu y.b y.q hot warm C K p L k0 hm fM) (.cons .here .nil) (λ_ le _=>In.mono hl le) ?_;refine cY ?_;refine zl Aq (im) .nil (λ_ le au=>au.1) ?_;refine kT ?_;refine az (t:=30) (v':=(DE DD (m % 8+8:Nat))) rfl (by exact congrArg (λx=>Value.int .i64 (x.getD 0)) h8) ?_;refine zl Aq (lN y.b (C.wA (wV C.A p true)) (K.wA _) p (m % 8+8) (by omega) (P1 p rfl).1 (P1.kl p rfl)) (.cons .here .nil) DA ?_;refine aw ?_;refine gT true mix ?_;refine bO ?_;refine Tp (oZ (Aq (n:=38)) (kK y.ck k) .nil (λ_ le _=>In.mono z6 le) ?_);refine Tp (oZ (Aq (n:=177)) (zK y.b (C.wA (wr (wV C.A p true) (p+46) 1 (m % 8+8))) (K.wA _) p k.now (by omega) (P2 p rfl).1 (P2.kl p rfl)) (.cons .here .nil) DA ?_);refine Tn ?_;refine j5 [Cl y.b (C.wA (wr (wr (wV C.A p true) (p+46) 1 (m % 8+8)) (p+24) 8 k.now))] results122 ?_;exact⟨rfl,rfl⟩
def gR (now:Nat)(t:Int):Nat:=(Md now t).toNat
theorem FF (now:Nat)(t:Int):Md now t=(gR now t:Int):=by
 unfold gR Md;split
 ·rfl
 split
 ·omega
 ·split<;>omega
theorem Dp (now:Nat)(t:Int)(h:now<=1099511627776)(ht:t<9223372036854775808):gR now t<9223372036854775808:=by
 unfold gR Md;split
 ·decide
 split
 ·omega
 ·split<;>omega
theorem MO (s:Nat)(y:Sy)(rest:FV)(C:Cs)(K:Ok C)(k:Ck)(CK:tS k)(p:Nat)(P:gI C (some p))(E:List En)(tn:Nat)(t:Int)(ht:t<9223372036854775808)(wb:tn<18446744073709551615)(hE:E.length<2147483647):
  aK aaY 121 [DC s,DE DB (C.hd p),DE DD t] (λh=>In (fC s y rest) h/\In (kS y.ck k) h) [Cl y.b C,Wl y.wh E tn]
   (λv H=>v= .tuple #[]/\H= [Wl y.wh (lT E (C.hd p) (gR k.now t) tn) (if 0<gR k.now t then tn+1 else tn),Cl y.b (C.wA (wr C.A (p+16) 8 (gR k.now t)))]):=by
 have L:=(P p rfl).1;have k0:=P.kl p rfl;have hx:=Dp k.now t CK.n2 ht;have ex:=BA k.now t CK.n1 CK.n2;rw[FF]at ex;generalize gR k.now t=e at*;refine af func121 rfl ntmps121 rfl ?_;rintro F ⟨PW,z6⟩;have hs:=PW;unfold fC jc pV at hs;refine bA ?_;refine zl Aq (kK y.ck k) .nil (λ_ le _=>In.mono z6 le) ?_;refine aw ?_;refine zl Aq (ex) .nil DA ?_;refine bD ?_;refine zl Aq (amh y.b C K p e hx L k0) (.cons .here .nil) DA ?_;refine cu ?_;refine zl Aq (LH y.wh E tn (C.hd p) e wb hE) (.cons (.there .here) .nil) DA ?_;refine aB ?_;refine j5 [Wl y.wh (lT E (C.hd p) e tn) (if 0<e then tn+1 else tn),Cl y.b (C.wA (wr C.A (p+16) 8 e))] results121 ?_;exact⟨rfl,rfl⟩
structure iA where
 un:F8
 st:Nat
 pg:Nat
 fr:Nat
 tt:Nat
 on:Bool
def DI (b ub:Nat)(dv tv sv:Value)(m:iA):FV:= [DC b,dv,tv,sv, .slice (some ⟨ub,0,none⟩) m.un.length m.un.length,DE DD m.st,DE DD m.pg,DE DD m.fr,DE DD m.tt, .bool m.on]
def nq (a b ub:Nat)(dv tv sv:Value)(m:iA):aa:=ag a 220 (DI b ub dv tv sv m)
def kO (ub:Nat)(m:iA):aa:=ag ub 3 (aE m.un)
def iA.jT (m:iA)(c:Nat):iA:={m with un:=m.un.set c (m.st+64)}
def iA.eZ (m:iA)(c:Nat):Bool:=decide (m.st<m.un.getD c 0)
theorem ae8{l:F8}{c:Nat}(h:c<l.length):(aE l)[c]?=some (DE DD (l.getD c 0)):=by
 unfold aE;rw[List.getElem?_map,aaZ,aa0 h];rfl
theorem ZH (l:F8)(c v:Nat):(aE l).set c (DE DD v)=aE (l.set c v):=by
 unfold aE;rw[List.map_set]
theorem Ge (a b ub:Nat)(dv tv sv:Value)(m:iA)(c:Nat)(hc:c<m.un.length):
  aK aaY 198 [DC a,DE DD c] (λh=>In (nq a b ub dv tv sv m) h/\In (kO ub m) h) []
   (λv H=>v= .bool (m.eZ c)/\H= []):=by
 have uX:=ae8 hc;unfold iA.eZ nq DI kO;refine af func198 rfl ntmps198 rfl ?_;rintro F ⟨hm,hu⟩;have hr:fD F.h (some ⟨ub,0,none⟩) (aE m.un):=sU hu;refine bj ?_;refine av ?_;refine gT false mix ?_;refine cu ?_;refine Ti (Ix lp) ?_;refine ba ?_;refine Rt [] results198 ?_;exact⟨congrArg Value.bool (decide_eq_decide.2 (by omega)),rfl⟩
theorem Gf (a b ub:Nat)(dv tv sv:Value)(m:iA)(c:Nat)(hc:c<m.un.length)(fM:m.st<4611686018427387904):
  aK aaY 185 [DC a,DE DD c] (In (nq a b ub dv tv sv m)) [kO ub m]
   (λv H=>v= .tuple #[]/\H= [kO ub (m.jT c)]):=by
 have hl:=fq m.un;have D4:=ZH m.un c (m.st+64);unfold iA.jT nq DI kO;refine af func185 rfl ntmps185 rfl ?_;intro F hm;refine aY ?_;refine zt 6 ?_;refine cu ?_;refine eJ ?_;refine gT false mix ?_;refine cL ?_;refine Tn ?_;refine j5 [ag ub 3 ((aE m.un).set c (DE DD ((m.st:Int)+64)))] results185 ?_;exact⟨rfl,by rw[<-D4];rfl⟩
def iA.off (m:iA):iA:={m with pg:=0,fr:=0,tt:=0,on:=false}
theorem I4 (a b ub:Nat)(dv tv sv:Value)(m:iA)(c:Nat)(h:¬(m.on=true/\m.fr=c)):
  aK aaY 183 [DC a,DE DD c] (In (nq a b ub dv tv sv m)) []
   (λv H=>v= .bool false/\H= []):=by
 unfold nq DI;refine af func183 rfl ntmps183 rfl ?_;intro F hm;rcases ho:m.on with _|_
 ·rw[ho]at hm
  refine cL ?_;refine zt 11 ?_ (e:=by rfl);refine kT ?_;refine Rt [] results183 ?_;exact⟨rfl,rfl⟩
 rw[ho]at hm;refine cL ?_;refine zf 11 ?_ (e:=by rfl);refine cu ?_;refine eJ ?_ (e:=by exact congrArg (!·) (decide_eq_false (λg=>h ⟨ho,by omega⟩)));refine ba ?_;refine Rt [] results183 ?_;exact⟨rfl,rfl⟩
theorem Vh (a b ub:Nat)(dv tv sv:Value)(C:Cs)(K:Ok C)(m:iA)(c:Nat)(ho:m.on=true)(hf:m.fr=c)(hi:m.pg<C.n)(hw:(C.pg m.pg).own=true)(hl:(C.pg m.pg).lv=true):
  aK aaY 183 [DC a,DE DD c] vz [nq a b ub dv tv sv m,Cl b C]
   (λv H=>v= .bool true/\H= [nq a b ub dv tv sv m.off,Cl b (C.gr m.pg)]):=by
 have st:=YS b C K m.pg hi hw hl;unfold nq DI iA.off;rw[ho];dsimp only;refine af func183 rfl ntmps183 rfl ?_;intro F _;refine cL ?_;refine zf 11 ?_ (e:=by rfl);refine cu ?_;refine cM ?_ (e:=by exact congrArg (!·) (Au));refine bn ?_;refine av ?_;refine iL 9 mix (.cons .here .nil) λF1 jq bV aI=> ?_;obtain⟨q1,_⟩:=bV;refine cu ?_;refine gG aI ?_;refine Tp (oZ (Aq (n:=248)) (st) (.cons (.there .here) .nil) DA ?_);refine bA ?_;refine Lp (oSN s9 ?_);refine ba ?_;refine Rt [ag a 220 [DC b,dv,tv,sv, .slice (some ⟨ub,0,none⟩) m.un.length m.un.length,DE DD m.st,DE DD 0,DE DD 0,DE DD 0, .bool false],Cl b (C.gr m.pg)] results183 ?_;exact⟨rfl,rfl⟩
theorem WM (k:Ck)(h1:1<=k.now)(h2:k.now<=1099511627776)(h3:k.ku=0\/k.now<k.ku)(hp:k.ku<9223372036854775808):
  aK aaY 109 [DE DD k.now,DE DB k.cut,DE DD k.ku] vz []
   (λv H=>∃a,v= .tuple #[DC a,DE DD 0]/\H= [kS a k]):=by
 unfold kS Xy;refine af func109 rfl ntmps109 rfl ?_;intro F _;refine cu ?_;refine zf 10 ?_;refine aY ?_;refine zf 14 ?_;refine bj ?_;by_cases h0:k.ku=0
 ·refine zf 17 ?_ (e:=by exact congrArg (!·) (Au))
  refine fu ?_;refine Lp (oB λb1=> ?_);refine aY ?_;refine js [ag b1 132 [DE DD k.now,DE DD k.ku,DE DB k.cut]] results109 ?_;exact⟨b1,rfl,rfl⟩
 refine zt 17 ?_ (e:=by exact congrArg (!·) (Ar));refine bA ?_;refine cM ?_;refine bL ?_;refine Lp (oB λb2=> ?_);refine aY ?_;refine js [ag b2 132 [DE DD k.now,DE DD k.ku,DE DB k.cut]] results109 ?_;exact⟨b2,rfl,rfl⟩
theorem Z3 (b q hot warm:Nat)(h1:1<=hot)(h2:1<=warm)(h3:hot+warm<=90):
  aK aaY 60 [DC b,DC q,DE DD hot,DE DD warm] vz []
   (λv H=>∃a,v= .tuple #[DC a,DE DD 0]/\H= [og a b q hot warm]):=by
 unfold og Jq;refine af func60 rfl ntmps60 rfl ?_;intro F _;refine cu ?_;refine zf 12 ?_ (e:=by rfl);refine aY ?_;refine zf 16 ?_ (e:=by rfl);refine aY ?_;refine zf 20 ?_;refine aY ?_;refine zf 24 ?_;refine aY ?_;refine zf 28 ?_;refine bA ?_;refine cM ?_;refine cY ?_;refine Lp (oB λb1=> ?_);refine aY ?_;refine js [ag b1 184 [DC b,DC q,DE DD hot,DE DD warm]] results60 ?_;exact⟨b1,rfl,rfl⟩
theorem Fne{P:Program}{n:Nat}{ds:Dx}{F:dM}{σ:aT}{o:Oper}{t yt:TypeId}{x y:Operand}{f:Fn}{a c:Array Value}(ht:(P.underlying t).map (λd=>match d with| .func .. =>true|_=>false)=some true)(ho:o.op= .binOp .eql t x y yt:=by exact rfl)(hx:bC σ x=some (.func f a c):=by exact rfl)(hy:bC σ y=some .nilFunc:=by exact rfl):Yv P n ds F σ o (.bool false):=λw0 w en _=>by
 cases hu:P.underlying t with
 |none=>simp[hu]at ht
 |some d=>
  cases d<;>simp[hu]at ht;have h:∀k:Nat,(Op.equalIn (k+1) t (.func f a c) .nilFunc).run P w= .ok false w:=λk=>by simp[Op.equalIn,run_underlying hu]
  have r:(Go.binOp .eql t (.func f a c) .nilFunc).run P w= .ok (.bool false) w:=by
   simp only[Go.binOp];simp[Op.equal,Op.maxDepth,h 9999]
  simp only[execOp,ho,en.eval hx,en.eval hy,Sem.run_bind,eqGuard_at_func,Sem.run_pure,r,Result.andThen_ok]
theorem HG:(aaY.underlying 107).map (λd=>match d with| .func .. =>true|_=>false)=some true:=by kernel_rfl
theorem Lw (q w n:Nat)(h1:1<=n)(h2:n<=62)(f g:Fn)(fa fc ga gc:Array Value)(C:Cs):
  aK aaY 111 [DC q,DC w,DE DD n, .func f fa fc, .func g ga gc] vz []
   (λv H=>∃a,v= .tuple #[DC a,DE DD 0]/\H= [iH a q w n (.func f fa fc) (.func g ga gc) C ⟨0,false,0,0,none,0⟩]):=by
 unfold iH qj;refine af func111 rfl ntmps111 rfl ?_;intro F _;refine cu ?_;refine zf 14 ?_ (e:=by rfl);refine aY ?_;refine zf 18 ?_ (e:=by rfl);refine aw ?_;refine Li (Fne HG) ?_;refine bn ?_;refine zf 22 ?_ (e:=by rfl);refine aw ?_;refine Li (Fne HF) ?_;refine bn ?_;refine zf 26 ?_ (e:=by rfl);refine aY ?_;refine zf 30 ?_;refine aY ?_;refine cM ?_;refine cu ?_;refine Lp (oB λb1=> ?_);refine aY ?_;refine js [ag b1 137 [DC q,DC w,DE DD n, .func f fa fc, .func g ga gc,DE DD 0, .bool false,DE DD 0,DE DD 0,DE DB 0,DE DD 0]] results111 ?_;exact⟨b1,rfl,rfl⟩
def jh (Q:Dy)(c:Nat):F8:=(ql Q (qi c 3)).reverse++(ql Q (qi c 2)).reverse++(ql Q (qi c 1)).reverse
def Aw (C:Cs)(l:F8):List FV:=l.map λp=> [Value.int .u64 (C.hd p:Int)]
def alR (C:Cs)(l:F8)(p:List FV)(x:FV):Prop:=∃(a:F8) (q:Nat) (b:F8),l=a++q::b/\p=Aw C a/\x= [DE DB (C.hd q)]
def finR (C:Cs)(l:F8)(p:List FV):Prop:=p=Aw C l
theorem EV:∀A:Dz,iM A A []
 | []=> .nil
 |_::A=> .cons .here (EV A)
def rV (Q:Dy)(c j:Nat):F8:=if j=0 then []else if j=1 then(ql Q (qi c 3)).reverse else if j=2 then(ql Q (qi c 3)).reverse++(ql Q (qi c 2)).reverse else jh Q c
theorem Y3 (Q:Dy)(c j:Nat)(h:j<3):rV Q c (j+1)=rV Q c j++(ql Q (qi c (3-j))).reverse/\∃z,jh Q c=rV Q c j++(ql Q (qi c (3-j))).reverse++z:=by
 have:j=0\/j=1\/j=2:=by omega
 rcases this with rfl|rfl|rfl
 ·exact⟨rfl,(ql Q (qi c 2)).reverse++(ql Q (qi c 1)).reverse,by unfold jh rV;simp⟩
 ·exact⟨rfl,(ql Q (qi c 1)).reverse,by unfold jh rV;simp⟩
 exact⟨rfl,[],by unfold jh rV;simp⟩
theorem Ze (l:F8):l.getLast?=pv l l.length:=by
 cases l with
 |nil=>rfl
 |cons a l=>rw[ahA];rfl
theorem ag5:BQ aaY 335=some (3,3,1):=by kernel_rfl
theorem aeK (a c:Nat):aK aaY 249 [DC a,DE DD c] vz []
  (λv H=>∃b2 b3,v= .func (.func 275) #[] #[DC b2,DC b3]/\H= [ag b2 88 [DC a],ag b3 3 [DE DD c]]):=by
 refine af func249 rfl ntmps249 rfl ?_;intro F _;refine aw ?_;refine Lp (oB λb1=> ?_);refine Lp (oB λb2=> ?_);refine bj ?_;refine Li Mf ?_;refine bj ?_;refine Rt [ag b1 88 [DC a],ag b2 3 [DE DD c]] results249 ?_;exact⟨_,_,rfl,rfl⟩
theorem aeJ (F:dM)(a q b qb hot warm b2 b3:Nat)(C:Cs)(K:Ok C)(Q:Dy)(O:jd C Q)(c:Nat)(hc:c<C.ae.length)(dx:In (Cl b C) F.h)(hlu:In (og a b q hot warm) F.h)(hqu:gW (rL q b qb C Q) F.h):
  ItF aaY F 275 [] [DC b2,DC b3] [ag b2 88 [DC a],ag b3 3 [DE DD c]] (alR C (jh Q c)) (finR C (jh Q c)):=by
 have hl62:=K.toFix.l1;have ajF:=λs hs=>uy q b qb C K Q O c s hc hs;have len_:=λs hs=>ue q b qb C K Q O c s hc hs;intro ll J Z hyd;refine VC func275 rfl ntmps275 rfl ?_;intro Frr Mb;have hcl1:=In.mono dx Mb;have adq:=In.mono hlu Mb;have adn:=bR hqu Mb;unfold og Jq at adq;simp only[pH,cap];refine ay (H':= [ag b2 88 [DC a],ag b3 3 [DE DD c],aF (J (Aw C []))]) (λ_ s=>aJ (λ_ t=>aJ (λ_ u=>eC (H:= []) (by rw[acT];exact u)) t) s) ?_;refine pY ?_;refine Xi (Bda adM ag8) ?_;refine Xi Mv ?_;refine oy ?_;refine rh ?_;refine az (t:=9) (v':=(.agg [Value.int .i64 3,DE DD 2,DE DD 1].toArray)) rfl (by rfl) ?_;refine Xo (ι:=Nat) (FZ [5,4,10,41]) (λj=>j<=3) (λj=> [(10,DE DD j)]) (λj=> [ag b2 88 [DC a],ag b3 3 [DE DD c],aF (J (Aw C (rV Q c j)))]) (λj=>3-j) (0) (abn 3) ?_;rintro j hj3;by_cases hj:j<3
 ·have hk3: [Value.int .i64 3,DE DD 2,DE DD 1][j]?=some (DE DD (3-j:Nat)):=by
   have:j=0\/j=1\/j=2:=by omega
   rcases this with rfl|rfl|rfl<;>rfl
  have zO:1<=3-j/\3-j<=3:=by omega
  obtain⟨GS,z,GR⟩:=Y3 Q c j hj;have tl:=ajF (3-j) zO;have ln:=len_ (3-j) zO;have ah:=λk hk=>Be q b qb C K Q O (qi c (3-j)) k hk;have lb:=xS K O (qi c (3-j));rw[Ze]at tl;generalize ql Q (qi c (3-j))=l at*;refine pY ?_;refine Xi Cm ?_;refine oy ?_;refine gJ ?_;refine nH rfl (by exact Au) ?_;refine ma ?_;refine aw ?_;refine gJ ?_;refine rh ?_;refine pY ?_;refine Xi (Ias ag5 bz) ?_;refine Xi As ?_;refine oy ?_;refine gJ ?_;refine xTB 6 mix (.cons .here (.cons .here .nil)) λF1 jq bV aI=> ?_;obtain⟨q1,q2,_⟩:=bV;have ai2:=In.mono adq jq;refine bA ?_;refine gG aI ?_;refine Tp (oZ (Aq (n:=169)) (tl) .nil (λ_ le _=>bR adn le) ?_);refine bA ?_;refine gJ ?_;refine xTB 6 mix (.cons .here (.cons .here .nil)) λF2 zU eP dE=> ?_;obtain⟨q3,q4,_⟩:=eP;have hlu3:=In.mono adq zU;refine bA ?_;refine gG dE ?_;refine Tp (oZ (Aq (n:=170)) (ln) .nil (λ_ le _=>bR adn le) ?_);refine bn ?_;refine rh ?_;refine Xo (ι:=Nat) (FZ [6,3,30,20]) (λr=>r<=l.length) (λr=> [(6,DE DB (hO C (pv l r))),(7, .bool (pv l r).isSome),(8,DE DD r)]) (λr=> [ag b2 88 [DC a],ag b3 3 [DE DD c],aF (J (Aw C (rV Q c j++(l.drop r).reverse)))]) (λr=>r) (l.length) (Nat.le_refl _) ?_;rintro r hr;rcases r with _|r
  ·refine gJ ?_
   refine pY ?_;refine Xi Mv ?_;refine Xi Mv ?_;refine zf 31 ?_ (e:=by rfl);refine Xx ?_;refine Xx ?_;refine Xi Pf ?_;refine oy ?_;refine mm rfl rfl ?_;refine Ca ?_;refine ba ?_;refine jH ?_;refine Xi Im ?_;refine Xi Mv ?_;refine tT ?_;rw[List.drop_zero,<-GS];refine Ro (j+1) ((by omega)) ((by omega))
  have hpv:pv l (r+1)=some l[r]:=aa0 hr;rw[hpv,cj];have P3:alR C (jh Q c) (Aw C (rV Q c j++(l.drop (r+1)).reverse)) [DE DB (C.hd l[r])]:=⟨_,l[r],(l.take r).reverse++z,by
   rw[GR];have:l.reverse=(l.drop (r+1)).reverse++l[r]::(l.take r).reverse:=by
    conv=>lhs;rw[<-List.take_append_drop r l,aik hr]
    simp
   rw[this];simp,rfl,rfl⟩
  have fN:Aw C (rV Q c j++(l.drop (r+1)).reverse)++ [[Value.int .u64 (C.hd l[r]:Int)]]=Aw C (rV Q c j++(l.drop r).reverse):=by
   have e0:(l.drop r).reverse=(l.drop (r+1)).reverse++ [l[r]]:=by rw[aik hr,List.reverse_cons]
   rw[e0];simp only[Aw,List.map_append,List.map_cons,List.map_nil,List.append_assoc]
  refine gJ ?_;refine pY ?_;refine Xi Mv ?_;refine Xi Mv ?_;refine zt 31 ?_ (e:=by rfl);refine Xi Mv ?_;refine Xi Cm ?_;refine Xi Pt ?_;refine oy ?_;refine nH rfl (by exact Au) ?_;refine ma ?_;refine aw ?_;refine gJ ?_;refine rh ?_;refine gJ ?_;refine pY ?_;refine Xi Mv ?_;refine Xi Mv ?_;refine ay (H':= [aF (J (Aw C (rV Q c j++(l.drop (r+1)).reverse))),ag b2 88 [DC a],ag b3 3 [DE DD c]]) (λ_ s=>by exact(cQ (by exact(abd.cons _ (abd.swap _ _ _)).trans (abd.swap _ _ _))) _ s) (mQ (ay (H':= [ag b2 88 [DC a],ag b3 3 [DE DD c]]++J (Aw C (rV Q c j++(l.drop (r+1)).reverse))) (cQ abq) ?_));refine Xin (oY rfl rfl rfl (hyd _ _ P3) (EV _) (λh le _=>Mb.trans le) ?_);rintro v H' (⟨rfl,rfl⟩|⟨rfl,Zs,hz,hH⟩)
  ·refine ay (H':= [ag b2 88 [DC a],ag b3 3 [DE DD c],aF (J (Aw C (rV Q c j++(l.drop r).reverse)))]) (λ_ s=>by rw[fN,acT]at s;exact aJ (λ_ t=>aJ (λ_ u=>eC (H:= []) (by rw[acT];exact u)) t) s) ?_
   refine Xi Nt ?_;refine oy ?_;refine mm rfl (by rfl) ?_;refine ma ?_;refine aw ?_;refine jH ?_;refine Xp (oL Jz ?_);refine Xi Nc ?_;refine Xi (Fa Bw) ?_;refine Xp (oL abE ?_);refine Xi Mv ?_;refine Xp (oC Aq rfl rfl (ah r hr) .nil (λ_ le _=>⟨In.mono hcl1 le,In.mono adn.1 le⟩) ?_);rintro v H' ⟨rfl,rfl⟩;refine bS ?_;refine Xi Mv ?_;refine Xi Ex ?_;refine Xi Ex ?_;refine Xi As ?_;refine Xi As ?_;refine tT ?_;refine bn ?_;refine jH ?_;refine Xi Mv ?_;refine Xi Im ?_;refine Xi As ?_;refine tT ?_;refine az (t:=8) (v':=(DE DD r)) rfl (by(congr 1<;>omega)) ?_;refine Ro (r) ((by omega)) ((by omega))
  rw[acT];refine Xi Nt ?_;refine oy ?_;refine nH rfl (by rfl) ?_;refine jr ?_;refine cu ?_;refine Rt0 H' (results275) ?_ (hh:=λ_ x=>x);exact .inr ⟨Zs,hz,hH⟩
 refine pY ?_;refine Xi Cm ?_;refine oy ?_;refine gJ ?_;refine mm rfl (by exact Ar) ?_;refine Ca ?_;refine bj ?_;obtain rfl:j=3:=by omega
 refine ay (H':= [aF (J (Aw C (rV Q c 3))),ag b2 88 [DC a],ag b3 3 [DE DD c]]) (λ_ s=>by exact(cQ (by exact(abd.cons _ (abd.swap _ _ _)).trans (abd.swap _ _ _))) _ s) (mQ ?_);refine j5 ([ag b2 88 [DC a],ag b3 3 [DE DD c]]++J (Aw C (rV Q c 3))) results275 ?_ (hh:=cQ abq);exact .inl ⟨_,rfl,rfl⟩
def cJ (own:FW)(l:F8):F8:=l.filter λq=>decide (some q≠own)
def yb (dd act:Nat->Bool)(r:F8):FW×Bool×Nat:=match r.findIdx? dd with
 |some i=>(r[i]?,true,i+1)
 |none=>(match r.find? (λq=> !act q)with|some q=>some q|none=>r.head?,false,r.length)
def lz (dd act:Nat->Bool)(own:FW)(looks:Nat)(l:F8):FW×Bool×Nat:=yb dd act ((cJ own l).take looks)
theorem ajd (f:Nat->Bool):∀(A:F8) (x:Nat) (B:F8),(∀q∈A,f q=false)->f x=true->(A++x::B).findIdx? f=some A.length
 | [],x,B,_,hx=>by simp[aii,hx]
 |a::A,x,B,h,hx=>by
  rw[List.cons_append,aii,h a (aa5),ajd f A x B (λq hq=>h q (aa6 _ hq)) hx];rfl
theorem ab9 (f:Nat->Bool):∀(A:F8),(∀q∈A,f q=false)->A.findIdx? f=none
 | [],_=>rfl
 |a::A,h=>by rw[aii,h a (aa5),ab9 f A (λq hq=>h q (aa6 _ hq))];rfl
theorem MY{dd act:Nat->Bool}{own:FW}{n:Nat}{a b:F8}{x:Nat}(hx:some x≠own)(h:∀q∈cJ own a,dd q=false)(hl:(cJ own a).length<n)(d:dd x=true):
  lz dd act own n (a++x::b)=(some x,true,(cJ own a).length+1):=by
 have e:cJ own (a++x::b)=cJ own a++x::cJ own b:=by unfold cJ;rw[ahU,List.filter_cons,if_pos (by simpa using hx)]
 unfold lz;obtain⟨m,hm⟩:∃m,n=(cJ own a).length+(m+1):=⟨n-(cJ own a).length-1,by omega⟩;rw[e,hm,List.take_length_add_append,List.take_succ_cons];unfold yb;rw[ajd dd _ x _ h d];simp
theorem Bf{dd act:Nat->Bool}{own:FW}{n:Nat}{a b:F8}(h:∀q∈cJ own a,dd q=false)(hl:(cJ own a).length=n\/b= []/\(cJ own a).length<=n):
  lz dd act own n (a++b)=(match(cJ own a).find? (λq=> !act q)with|some q=>some q|none=>(cJ own a).head?,false,(cJ own a).length):=by
 have e:(cJ own (a++b)).take n=cJ own a:=by
  rcases hl with e|⟨rfl,e⟩
  ·unfold cJ at*
   rw[ahU,<-e,aln]
  rw[acT,List.take_of_length_le e]
 unfold lz;rw[e];unfold yb;rw[ab9 dd _ h]
theorem E3{L A1 A2:aa}{X:Prop}{LS:Dz}(x:X):∀h,ai (LS++ [L,A1,A2]) h->ai (L::([A1,A2]++ [λk=>X/\aF LS k])) h:=λh s=>
 cQ (abq (l₁:= [λk=>X/\aF LS k]) (l₂:= [L,A1,A2])) h (zj x (eC s))
def LI (Qz b11 b12 b13 XV:Nat)(C:Cs)(act:Nat->Bool)(r:F8):Dz:=
 [ag Qz 104 [DE DB 0],ag b11 4 [.bool false],ag b12 3 [DE DD r.length],ag b13 104 [DE DB (hO C r.head?)],ag XV 104 [DE DB (hO C (r.find? λq=> !act q):Int)]]
def pkJ (JB:Dz)(Qz b11 b12 b13 XV:Nat)(C:Cs)(dd act:Nat->Bool)(own:FW)(l:F8)(p:List FV):Dz:=
 [λh=>((∀q∈cJ own (l.take p.length),dd q=false)/\(cJ own (l.take p.length)).length<5)/\aF (JB++LI Qz b11 b12 b13 XV C act (cJ own (l.take p.length))) h]
theorem Ch{JB:Dz}{Qz b11 b12 b13 XV:Nat}{C:Cs}{dd act:Nat->Bool}{own:FW}{l:F8}{p:List FV}{a:F8}(h:l.take p.length=a):
  pkJ JB Qz b11 b12 b13 XV C dd act own l p= [λh=>((∀q∈cJ own a,dd q=false)/\(cJ own a).length<5)/\aF (JB++LI Qz b11 b12 b13 XV C act (cJ own a)) h]:=by
 unfold pkJ;rw[h]
def aZ (s:Nat):Value:= .func (.func 48) #[DC s] #[]
theorem JI{C:Cs}(K:Ok C){r:F8}(hr:∀q∈r,At C q)(o:FW)(ho:∀q,o=some q->q∈r):(hO C o=0↔o=none)/\hO C o<18446744073709551616:=by
 cases o with
 |none=>exact⟨⟨λ_=>rfl,λ_=>rfl⟩,by show(0:Nat)<_;omega⟩
 |some q=>
  obtain⟨_,_,_,_,h1,h2⟩:=bU K (hr q (ho q rfl));rw[cj];exact⟨⟨λe=>absurd e h2,λe=>by cases e⟩,h1⟩
theorem aar{own:FW}{a:F8}{x:Nat}:cJ own (a++ [x])=if some x≠own then cJ own a++ [x]else cJ own a:=by
 unfold cJ;rw[ahU];by_cases h:some x≠own
 ·rw[if_pos h];simp[h]
 rw[if_neg h];simp[h]
theorem Vu (a q qb hot warm s:Nat)(y:Sy)(rest:FV)(C:Cs)(K:Ok C)(Q:Dy)(O:jd C Q)(M:MkQ C Q)(c:Nat)(hc:c<C.ae.length)(k:Ck)(own:FW)(ho:∀p,own=some p->At C p):
  aK aaY 184 [DC a,DE DD c,DE DB (hO C own),DE DD 5,aZ s]
   (λh=>In (Cl y.b C) h/\In (og a y.b q hot warm) h/\gW (rL q y.b qb C Q) h/\In (fC s y rest) h/\In (kS y.ck k) h) []
   (λv H=>∃p d n,(p,d,n)=lz (λp=>decide (z8 C.A k p≠0)) (DY C.A) own 5 (jh Q c)/\v= .tuple #[DE DB (hO C p), .bool d,DE DD n]/\H= []):=by
 have au:∀p∈jh Q c,∃i,p∈ql Q i:=λp hp=>by
  unfold jh at hp;rw[ahy,ahy,ahN,ahN,ahN]at hp;rcases hp with(h|h)|h<;>exact⟨_,h⟩
 have uX:∀p∈jh Q c,At C p:=λp hp=>by obtain⟨i,h⟩:=au p hp;exact(O.lv i p h).toAt
 have lG:∀p∈jh Q c,gI C (some p):=λp hp=>by obtain⟨i,h⟩:=au p hp;exact O.GJ (i:=i) λy hy=>by cases hy;exact h
 have u9:∀p∈jh Q c,dJ C.A p<16:=λp hp=>by obtain⟨i,h⟩:=au p hp;exact M i p h
 have w9:=λF dx hlu hqu=>λb2 b3=>aeJ F a q y.b qb hot warm b2 b3 C K Q O c hc dx hlu hqu;have Rf:=λp (hp:p∈jh Q c)=>EX s y rest C K k p (lG p hp);have act_:=λp (hp:p∈jh Q c)=>tB a y.b q hot warm C K p ((lG p hp) p rfl).1 (((lG p hp) p rfl).2).k0 (u9 p hp);generalize jh Q c=l at*;generalize hdd:(λp=>decide (z8 C.A k p≠0))=dd;replace Rf:=λp (hp:p∈l)=>(show _ from(by have h:=Rf p hp;rw[show decide (z8 C.A k p≠0)=dd p from congrFun hdd p]at h;exact h));generalize Xw:DY C.A=act at*;refine VE func184 rfl ntmps184 rfl ?_;rintro F ⟨dx,hlu,hqu,fM,z6⟩;refine pY ?_;refine Xp (oB λb1=> ?_);refine Xp (oB λb2=> ?_);refine Xp (oB λb3=> ?_);refine Xp (oB λb4=> ?_);refine Xp (oA Hc λb5=> ?_);refine Xp (oA zc_4 λb6=> ?_);refine Xp (oA adg λb7=> ?_);refine oy ?_;refine gJ ?_;refine pY ?_;refine Xp (oL bz ?_);refine Xi Cm ?_;refine oy ?_;refine mm rfl (by exact Ar) ?_;refine ma ?_;refine aw ?_;refine pY ?_;refine Xp (oA Hc λb8=> ?_);refine Xp (oA Hc λb9=> ?_);refine oy ?_;refine gJ ?_;refine pY ?_;refine Xp (oL Jz ?_);refine Xi Mv ?_;refine Xp (oC Aq rfl rfl (aeK a c) .nil DA ?_);rintro v H' ⟨Gy,Gx,rfl,rfl⟩;refine bS ?_;refine oy ?_;refine rh ?_;have hri:=w9 F dx hlu hqu Gy Gx;have hlF:=hlu;unfold og Jq at hlF;refine Hh (H':= [ag b1 88 [DC a],ag b2 104 [DE DB (hO C own)],ag b3 3 [DE DD 5],ag b4 107 [aZ s],ag b5 104 [DE DB 0],ag b6 4 [.bool false],ag b7 3 [DE DD 0],ag b8 104 [DE DB 0],ag b9 104 [DE DB 0],ag Gy 88 [DC a],ag Gx 3 [DE DD c]]) ?_;refine ay (H':= [ag Gy 88 [DC a],ag Gx 3 [DE DD c]]++(pkJ [ag b1 88 [DC a],ag b2 104 [DE DB (hO C own)],ag b3 3 [DE DD 5],ag b4 107 [aZ s]] b5 b6 b7 b8 b9 C dd act own l) []) (λh0 s0=>cQ (abq (l₁:=(pkJ [ag b1 88 [DC a],ag b2 104 [DE DB (hO C own)],ag b3 3 [DE DD 5],ag b4 107 [aZ s]] b5 b6 b7 b8 b9 C dd act own l) []) (l₂:= [ag Gy 88 [DC a],ag Gx 3 [DE DD c]])) h0 (zj ⟨λq hq=>by simp[cJ]at hq,by simp[cJ]⟩ (eC (L:= [ag b1 88 [DC a],ag b2 104 [DE DB (hO C own)],ag b3 3 [DE DD 5],ag b4 107 [aZ s]]++LI b5 b6 b7 b8 b9 C act []) (H:= [ag Gy 88 [DC a],ag Gx 3 [DE DD c]]) s0))) ?_;refine x_rf ((pkJ [ag b1 88 [DC a],ag b2 104 [DE DB (hO C own)],ag b3 3 [DE DD 5],ag b4 107 [aZ s]] b5 b6 b7 b8 b9 C dd act own l)) (λZs=>∃a1 q1 r1,l=a1++q1::r1/\some q1≠own/\(∀r∈cJ own a1,dd r=false)/\(cJ own a1).length<5/\dd q1=true/\Zs= [ag b1 88 [DC a],ag b2 104 [DE DB (hO C own)],ag b3 3 [DE DD 5],ag b4 107 [aZ s]]++ [ag b5 104 [DE DB (C.hd q1)],ag b6 4 [.bool true],ag b7 3 [DE DD ((cJ own a1).length+1:Nat)],ag b8 104 [DE DB (hO C (cJ own a1++ [q1]).head?)],ag b9 104 [DE DB (hO C ((cJ own a1).find? λq=> !act q):Int)]]) (λid Zs=>id=0/\∃a1 r1,l=a1++r1/\(∀r∈cJ own a1,dd r=false)/\(cJ own a1).length=5/\Zs= [ag b1 88 [DC a],ag b2 104 [DE DB (hO C own)],ag b3 3 [DE DD 5],ag b4 107 [aZ s]]++LI b5 b6 b7 b8 b9 C act (cJ own a1)) (λ_ x=> [(15,x.headD undef),(5,DC b1),(7,DC b2),(8,DC b3),(9,DC b4),(10,DC b5),(11,DC b6),(12,DC b7),(13,DC b8),(14,DC b9)]) (Aq (n:=275)) rfl (hri) (.cons .here (.cons .here (.cons .here .nil))) (λp x hx=>by obtain⟨_,_,_,_,_,rfl⟩:=hx;rfl) rfl ?_ ?_ ?_ ?_ ?_
 ·rintro ll F' p x HH K' ⟨a1,q1,r1,hp,rfl,rfl⟩ hK
  refine jH ?_;refine Xi As ?_;refine tT ?_;exact CO (afr hK (by exact⟨rfl,rfl,rfl,rfl,rfl,rfl,rfl,rfl,rfl,rfl,trivial⟩))
 ·rintro ll F' p x L ⟨a1,q1,r1,hl,rfl,rfl⟩ hle
  have hq1:q1∈l:=by rw[hl];simp
  have hlen:l.take (Aw C a1).length=a1:=by rw[hl];unfold Aw;rw[abo,aln]
  have Eo:l.take (Aw C a1++ [[Value.int .u64 (C.hd q1:Int)]]).length=a1++ [q1]:=by
   rw[aa9,show(Aw C a1).length=a1.length from abo _,hl,show a1++q1::r1=(a1++ [q1])++r1 by simp,show a1.length+ [[Value.int .u64 (C.hd q1:Int)]].length=(a1++ [q1]).length by simp,aln]
  have vp:=In.mono dx hle;have ai2:=In.mono hlu hle;have hst2:=In.mono fM hle;have hck2:=In.mono z6 hle;rw[Ch hlen];refine ay (H':= [λh=>((∀q∈cJ own a1,dd q=false)/\(cJ own a1).length<5)/\aF ([ag b1 88 [DC a],ag b2 104 [DE DB (hO C own)],ag b3 3 [DE DD 5],ag b4 107 [aZ s]]++LI b5 b6 b7 b8 b9 C act (cJ own a1)) h]++([L]++ [ag Gy 88 [DC a],ag Gx 3 [DE DD c]])) (λh0 s0=>cQ (abq (l₁:= [L]++ [ag Gy 88 [DC a],ag Gx 3 [DE DD c]])) h0 s0) (HE λhp=>mQ ?_);obtain⟨u7,dL⟩:=hp;unfold LI;simp only[pH,cap,List.headD_cons];obtain⟨_,_,_,_,hm1,hm2⟩:=bU K (uX q1 hq1);have L8:∀z∈cJ own a1,At C z:=λz hz=>uX z (by rw[hl];unfold cJ at hz;exact ah0 _ (abm.1 hz).1);obtain⟨LM,LL⟩:=JI K L8 (cJ own a1).head? (λq e=>acY e);obtain⟨hz3,hz4⟩:=JI K L8 ((cJ own a1).find? λq=> !act q) (λq e=>ac4 e);have on1:=aar (own:=own) (a:=a1) (x:=q1);generalize rN:cJ own a1=fl at*;refine rh ?_;refine gJ ?_;refine pY ?_;refine Xi Mv ?_;refine Xp (oL bJ ?_);refine Xi Cm ?_;refine oy ?_;by_cases gY:some q1≠own
  ·rw[if_pos gY]at on1
   have fN:¬((C.hd q1:Int)=(hO C own:Int)):=λe=>by
    cases BN:own with
    |none=>rw[BN]at e;change(C.hd q1:Int)=((0:Nat):Int)at e;omega
    |some z=>rw[BN,cj]at e;exact gY (by rw[BN,jm K (uX q1 hq1) (ho z BN) (by omega)])
   refine mm rfl (by exact decide_eq_false fN) ?_;refine ma ?_;refine aw ?_;refine pY ?_;refine Xp (oL bz ?_);refine Xi Im ?_;refine Xp (oS bz ?_);refine oy ?_;refine gJ ?_;refine pY ?_;refine Xp (oL bJ ?_);refine Xi Cm ?_;refine oy ?_;refine QQ (ι:=Unit) [29] (λu=>True) (λu=> []) (λu=> [ag b1 88 [DC a],ag b2 104 [DE DB (hO C own)],ag b3 3 [DE DD 5],ag b4 107 [aZ s],ag b5 104 [DE DB 0],ag b6 4 [.bool false],ag b7 3 [DE DD (fl.length+1:Nat)],ag b8 104 [DE DB (hO C (fl++ [q1]).head?)],ag b9 104 [DE DB (hO C (fl.find? λq=> !act q):Int)],L,ag Gy 88 [DC a],ag Gx 3 [DE DD c]]) ?_ ?_
   ·refine vt rfl ?_ ?_
    ·intro h0
     replace h0:=aG h0;have hn:fl= []:=List.head?_eq_none_iff.1 (LM.1 (by omega));refine jH ?_;refine Xi Mv ?_;refine Xp (oS bJ ?_);refine tT ?_;have e1:(C.hd q1:Int)=(hO C (fl++ [q1]).head?:Int):=by rw[hn];rfl
     rw[e1];refine Me (()) (trivial)
    intro h0;replace h0:=aG h0;have hn:(fl++ [q1]).head?=fl.head?:=by
     cases fl with
     |nil=>exact absurd rfl h0
     |cons z r=>rfl
    rw[<-hn];refine ma ?_;refine Me (()) (trivial)
   rintro u _;refine gJ ?_;refine pY ?_;refine Xp (oL Hk ?_);refine Xi (Fnn HG) ?_;refine Xi Mv ?_;refine zt 32 ?_ (e:=by rfl);refine Xp (oL Hk ?_);refine Xi Mv ?_;refine Xp (oCV (Aq (n:=48)) rfl rfl rfl (Rf q1 hq1) .nil (λ_ le _=>⟨In.mono hst2 le,In.mono vp le,In.mono hck2 le⟩) λv H' hr=> ?_);obtain⟨rfl,rfl⟩:=hr;refine bS ?_;refine Xi Pt ?_;refine oy ?_;refine vt rfl ?_ ?_
   ·intro GS
    replace GS:=aG GS;refine gJ ?_;refine Ea mix .nil (by kernel_rfl) λF1 jq bV aI=> ?_;refine Dt 0 rfl Mv ?_;refine D2 1 2 ?_ ?_
    ·refine Do rfl (oL bz ?_)
     refine aw ?_;refine Dd 2 rfl (oS bJ ?_);refine aw ?_;refine Dd 3 rfl (oS gq ?_);refine aw ?_;refine Dd 4 rfl (oS bz ?_);refine aw ?_;refine aQ (by kernel_rfl) aI ?_;refine gn ?_;refine aw ?_;refine jr ?_;refine bn ?_;refine Hm ([ag b1 88 [DC a],ag b2 104 [DE DB (hO C own)],ag b3 3 [DE DD 5],ag b4 107 [aZ s]]++ [ag b5 104 [DE DB (C.hd q1)],ag b6 4 [.bool true],ag b7 3 [DE DD (fl.length+1:Nat)],ag b8 104 [DE DB (hO C (fl++ [q1]).head?)],ag b9 104 [DE DB (hO C (fl.find? λq=> !act q):Int)]]) ⟨a1,q1,r1,hl,gY,(by rw[rN];exact u7),(by rw[rN];exact dL),GS,(by rw[rN];rfl)⟩ ?_;exact cQ (abq (l₁:=([ag b1 88 [DC a],ag b2 104 [DE DB (hO C own)],ag b3 3 [DE DD 5],ag b4 107 [aZ s]]++ [ag b5 104 [DE DB (C.hd q1)],ag b6 4 [.bool true],ag b7 3 [DE DD (fl.length+1:Nat)],ag b8 104 [DE DB (hO C (fl++ [q1]).head?)],ag b9 104 [DE DB (hO C (fl.find? λq=> !act q):Int)]])) (l₂:= [L]++ [ag Gy 88 [DC a],ag Gx 3 [DE DD c]]))
    refine Do rfl (oS bJ ?_);refine aw ?_;refine D2 1 3 ?_ ?_
    ·refine Do rfl (oL bz ?_)
     refine aw ?_;refine Dd 3 rfl (oS gq ?_);refine aw ?_;refine Dd 4 rfl (oS bz ?_);refine aw ?_;refine aQ (by kernel_rfl) aI ?_;refine gn ?_;refine aw ?_;refine jr ?_;refine bn ?_;refine Hm ([ag b1 88 [DC a],ag b2 104 [DE DB (hO C own)],ag b3 3 [DE DD 5],ag b4 107 [aZ s]]++ [ag b5 104 [DE DB (C.hd q1)],ag b6 4 [.bool true],ag b7 3 [DE DD (fl.length+1:Nat)],ag b8 104 [DE DB (hO C (fl++ [q1]).head?)],ag b9 104 [DE DB (hO C (fl.find? λq=> !act q):Int)]]) ⟨a1,q1,r1,hl,gY,(by rw[rN];exact u7),(by rw[rN];exact dL),GS,(by rw[rN];rfl)⟩ ?_;exact cQ (abq (l₁:=([ag b1 88 [DC a],ag b2 104 [DE DB (hO C own)],ag b3 3 [DE DD 5],ag b4 107 [aZ s]]++ [ag b5 104 [DE DB (C.hd q1)],ag b6 4 [.bool true],ag b7 3 [DE DD (fl.length+1:Nat)],ag b8 104 [DE DB (hO C (fl++ [q1]).head?)],ag b9 104 [DE DB (hO C (fl.find? λq=> !act q):Int)]])) (l₂:= [L]++ [ag Gy 88 [DC a],ag Gx 3 [DE DD c]]))
    refine Do rfl (oS gq ?_);refine aw ?_;refine Dd 1 rfl (oL bz ?_);refine aw ?_;refine Dd 4 rfl (oS bz ?_);refine aw ?_;refine aQ (by kernel_rfl) aI ?_;refine gn ?_;refine aw ?_;refine jr ?_;refine bn ?_;refine Hm ([ag b1 88 [DC a],ag b2 104 [DE DB (hO C own)],ag b3 3 [DE DD 5],ag b4 107 [aZ s]]++ [ag b5 104 [DE DB (C.hd q1)],ag b6 4 [.bool true],ag b7 3 [DE DD (fl.length+1:Nat)],ag b8 104 [DE DB (hO C (fl++ [q1]).head?)],ag b9 104 [DE DB (hO C (fl.find? λq=> !act q):Int)]]) ⟨a1,q1,r1,hl,gY,(by rw[rN];exact u7),(by rw[rN];exact dL),GS,(by rw[rN];rfl)⟩ ?_;exact cQ (abq (l₁:=([ag b1 88 [DC a],ag b2 104 [DE DB (hO C own)],ag b3 3 [DE DD 5],ag b4 107 [aZ s]]++ [ag b5 104 [DE DB (C.hd q1)],ag b6 4 [.bool true],ag b7 3 [DE DD (fl.length+1:Nat)],ag b8 104 [DE DB (hO C (fl++ [q1]).head?)],ag b9 104 [DE DB (hO C (fl.find? λq=> !act q):Int)]])) (l₂:= [L]++ [ag Gy 88 [DC a],ag Gx 3 [DE DD c]]))
   intro GS;replace GS:=aG GS;have hp3:∀q∈fl++ [q1],dd q=false:=λq hq=>by
    rcases ahy.1 hq with h|h
    ·exact u7 q h
    rw[List.mem_singleton.1 h];exact GS
   have hfa:(fl++ [q1]).find? (λq=> !act q)=if((fl.find? λq=> !act q).isNone&& !act q1)=true then some q1 else fl.find? λq=> !act q:=by
    rw[List.find?_append];cases fl.find? λq=> !act q with
    |some z=>rfl
    |none=>cases h:act q1<;>simp[h]
   refine ma ?_;refine aw ?_;refine gJ ?_;refine gJ ?_;refine QQ (ι:=Unit) (FZ [39,8]) (λu=>True) (λu=> [(46, .bool ((fl.find? λq=> !act q).isNone&& !act q1))]) (λu=> [ag b1 88 [DC a],ag b2 104 [DE DB (hO C own)],ag b3 3 [DE DD 5],ag b4 107 [aZ s],ag b5 104 [DE DB 0],ag b6 4 [.bool false],ag b7 3 [DE DD (fl.length+1:Nat)],ag b8 104 [DE DB (hO C (fl++ [q1]).head?)],ag b9 104 [DE DB (hO C (fl.find? λq=> !act q):Int)],L,ag Gy 88 [DC a],ag Gx 3 [DE DD c]]) ?_ ?_
   ·by_cases mJ:(fl.find? λq=> !act q)=none
    ·rw[mJ]
     refine jH ?_;refine Xp (oL bJ ?_);refine Xi Cm ?_;refine Xi Mv ?_;refine zt 41 ?_ (e:=by exact decide_eq_true rfl);refine Xp (oL Jz ?_);refine Xi Mv ?_;refine Xp (oC Aq rfl rfl (act_ q1 hq1) .nil (λ_ le _=>⟨In.mono vp le,In.mono ai2 le⟩) ?_);rintro v H' ⟨rfl,rfl⟩;refine bS ?_;refine Xi Nt ?_;refine Xi Pt ?_;refine tT ?_;rw[<-mJ];refine Me (()) (trivial)
    have hnn:(fl.find? λq=> !act q).isNone=false:=by cases h:(fl.find? λq=> !act q)with|none=>exact absurd h mJ|some z=>rfl
    rw[hnn];refine jH ?_;refine Xp (oL bJ ?_);refine Xi Cm ?_;refine Xi Mv ?_;refine zf 41 ?_ (e:=by exact decide_eq_false (λe=>mJ (hz3.1 (by omega))));refine Xx ?_;refine Xx ?_;refine Xx ?_;refine Xx ?_;refine Xi Pf ?_;refine tT ?_;refine Me (()) (trivial)
   rintro u _;refine QQ (ι:=Unit) [47] (λu=>True) (λu=> []) (λu=> [ag b1 88 [DC a],ag b2 104 [DE DB (hO C own)],ag b3 3 [DE DD 5],ag b4 107 [aZ s],ag b5 104 [DE DB 0],ag b6 4 [.bool false],ag b7 3 [DE DD (fl.length+1:Nat)],ag b8 104 [DE DB (hO C (fl++ [q1]).head?)],ag b9 104 [DE DB (hO C ((fl++ [q1]).find? λq=> !act q):Int)],L,ag Gy 88 [DC a],ag Gx 3 [DE DD c]]) ?_ ?_
   ·refine vt rfl ?_ ?_
    ·intro zS
     replace zS:=aG zS;refine jH ?_;refine Xi Mv ?_;refine Xp (oS bJ ?_);refine tT ?_;have e2:(C.hd q1:Int)=(hO C ((fl++ [q1]).find? λq=> !act q):Int):=by rw[hfa,if_pos (by rw[zS.1,zS.2];rfl),cj]
     rw[e2];refine Me (()) (trivial)
    intro zS;replace zS:=aG zS;refine ma ?_;have e2:(fl.find? λq=> !act q)=((fl++ [q1]).find? λq=> !act q):=by rw[hfa,if_neg (by rcases zS with e|e<;>simp[e])]
    rw[e2];refine Me (()) (trivial)
   rintro u _;refine pY ?_;refine Xp (oL bz ?_);refine Xp (oL bz ?_);refine Xi Cm ?_;refine oy ?_;refine vt rfl ?_ ?_
   ·intro h5
    replace h5:=aG h5;refine Ca ?_;refine aw ?_;refine Y2 ([ag b1 88 [DC a],ag b2 104 [DE DB (hO C own)],ag b3 3 [DE DD 5],ag b4 107 [aZ s]]++LI b5 b6 b7 b8 b9 C act (fl++ [q1])) ⟨rfl,a1++ [q1],r1,by rw[hl];simp,(by rw[on1];exact hp3),(by rw[on1,aa9];show fl.length+1=5;omega),(by rw[on1];rfl)⟩ ?_;rw[show((fl.length+1:Nat):Int)=((fl++ [q1]).length:Int) by simp];exact cQ (abq (l₁:= [ag b1 88 [DC a],ag b2 104 [DE DB (hO C own)],ag b3 3 [DE DD 5],ag b4 107 [aZ s]]++LI b5 b6 b7 b8 b9 C act (fl++ [q1])) (l₂:= [L]++ [ag Gy 88 [DC a],ag Gx 3 [DE DD c]]))
   intro h5;replace h5:=aG h5;refine ma ?_;refine aw ?_;refine A9 ?_;rw[Ch Eo,on1];rw[show((fl.length+1:Nat):Int)=((fl++ [q1]).length:Int) by simp];exact E3 (X:=(∀q∈fl++ [q1],dd q=false)/\(fl++ [q1]).length<5) (LS:= [ag b1 88 [DC a],ag b2 104 [DE DB (hO C own)],ag b3 3 [DE DD 5],ag b4 107 [aZ s]]++LI b5 b6 b7 b8 b9 C act (fl++ [q1])) ⟨hp3,by rw[aa9];show fl.length+1<5;omega⟩
  have hoe:own=some q1:=by
   cases BN:own with
   |none=>exact absurd (by rw[BN];simp) gY
   |some z=>rw[BN]at gY;exact(Classical.not_not.1 gY).symm
  rw[if_neg gY]at on1;refine nH rfl (by exact decide_eq_true (by rw[hoe,cj])) ?_;refine Ca ?_;refine bn ?_;refine A9 ?_;rw[Ch Eo,on1];exact E3 (X:=(∀q∈fl,dd q=false)/\fl.length<5) (LS:= [ag b1 88 [DC a],ag b2 104 [DE DB (hO C own)],ag b3 3 [DE DD 5],ag b4 107 [aZ s]]++LI b5 b6 b7 b8 b9 C act fl) ⟨u7,dL⟩
 ·rintro D p adu
  have hlen:l.take p.length=l:=by rw[show p=Aw C l from adu];unfold Aw;rw[abo,List.take_length]
  refine bn ?_;rw[Ch hlen];refine ay (H':= [λh=>((∀q∈cJ own l,dd q=false)/\(cJ own l).length<5)/\aF ([ag b1 88 [DC a],ag b2 104 [DE DB (hO C own)],ag b3 3 [DE DD 5],ag b4 107 [aZ s]]++LI b5 b6 b7 b8 b9 C act (cJ own l)) h]++([AB D]++ [ag Gy 88 [DC a],ag Gx 3 [DE DD c]])) (λh0 s0=>cQ (abq (l₁:= [AB D]++ [ag Gy 88 [DC a],ag Gx 3 [DE DD c]])) h0 (by simpa using s0)) (HE λhp=>mQ ?_);obtain⟨u7,dL⟩:=hp;have jA:=Bf (act:=act) (n:=5) (b:= []) u7 (.inr ⟨rfl,by omega⟩);rw[acT]at jA;have hl:l=l++ []:=(acT l).symm;generalize rN:cJ own l=fl at*;unfold LI;simp only[pH,cap,acT];have L8:∀z∈fl,At C z:=λz hz=>uX z (by rw[hl];rw[<-rN]at hz;unfold cJ at hz;exact ah0 _ (abm.1 hz).1);obtain⟨hz3,hz4⟩:=JI K L8 (fl.find? λq=> !act q) (λq e=>ac4 e);refine gJ ?_;refine pY ?_;refine Xp (oL bJ ?_);refine Xi Cm ?_;refine oy ?_;by_cases mJ:(fl.find? λq=> !act q)=none
  ·refine mm rfl (by exact congrArg (!·) (decide_eq_true (by rw[mJ];rfl))) ?_
   refine ma ?_;refine aw ?_;refine gJ ?_;refine Ea mix .nil (by kernel_rfl) λF2 zU eP dE=> ?_;refine D2 0 1 ?_ ?_
   ·refine Do rfl (oL bJ ?_)
    refine aw ?_;refine D2 1 2 ?_ ?_
    ·refine Do rfl (oL bz ?_)
     refine aw ?_;refine Dd 2 rfl (oS bJ ?_);refine aw ?_;refine Dd 3 rfl (oS gq ?_);refine aw ?_;refine Dd 4 rfl (oS bz ?_);refine aw ?_;refine aQ (by kernel_rfl) dE ?_;refine gn ?_;refine aw ?_;refine jr ?_;refine kF [D] [] bJ gq bz results184 ?_;exact⟨fl.head?,false,fl.length,by rw[jA,mJ],rfl,rfl⟩
    refine Do rfl (oS bJ ?_);refine aw ?_;refine D2 1 3 ?_ ?_
    ·refine Do rfl (oL bz ?_)
     refine aw ?_;refine Dd 3 rfl (oS gq ?_);refine aw ?_;refine Dd 4 rfl (oS bz ?_);refine aw ?_;refine aQ (by kernel_rfl) dE ?_;refine gn ?_;refine aw ?_;refine jr ?_;refine kF [D] [] bJ gq bz results184 ?_;exact⟨fl.head?,false,fl.length,by rw[jA,mJ],rfl,rfl⟩
    refine Do rfl (oS gq ?_);refine aw ?_;refine Dd 1 rfl (oL bz ?_);refine aw ?_;refine Dd 4 rfl (oS bz ?_);refine aw ?_;refine aQ (by kernel_rfl) dE ?_;refine gn ?_;refine aw ?_;refine jr ?_;refine kF [D] [] bJ gq bz results184 ?_;exact⟨fl.head?,false,fl.length,by rw[jA,mJ],rfl,rfl⟩
   refine Do rfl (oL bz ?_);refine aw ?_;refine Dd 0 rfl (oL bJ ?_);refine aw ?_;refine Dd 2 rfl (oS bJ ?_);refine aw ?_;refine Dd 3 rfl (oS gq ?_);refine aw ?_;refine Dd 4 rfl (oS bz ?_);refine aw ?_;refine aQ (by kernel_rfl) dE ?_;refine gn ?_;refine aw ?_;refine jr ?_;refine kF [D] [] bJ gq bz results184 ?_;exact⟨fl.head?,false,fl.length,by rw[jA,mJ],rfl,rfl⟩
  refine nH rfl (by exact congrArg (!·) (decide_eq_false (λe=>mJ (hz3.1 (by omega))))) ?_;refine gJ ?_;refine Ea mix .nil (by kernel_rfl) λF3 Xg rX fA=> ?_;refine D2 0 1 ?_ ?_
  ·refine Do rfl (oL bJ ?_)
   refine aw ?_;refine D2 1 2 ?_ ?_
   ·refine Do rfl (oL bz ?_)
    refine aw ?_;refine Dd 2 rfl (oS bJ ?_);refine aw ?_;refine Dd 3 rfl (oS gq ?_);refine aw ?_;refine Dd 4 rfl (oS bz ?_);refine aw ?_;refine aQ (by kernel_rfl) fA ?_;refine gn ?_;refine aw ?_;refine jr ?_;refine aw ?_;refine kF [D] [] bJ gq bz results184 ?_;refine⟨fl.find? λq=> !act q,false,fl.length, ?_,rfl,rfl⟩;rw[jA];cases h:(fl.find? λq=> !act q)with
    |none=>exact absurd h mJ
    |some z=>rfl
   refine Do rfl (oS bJ ?_);refine aw ?_;refine D2 1 3 ?_ ?_
   ·refine Do rfl (oL bz ?_)
    refine aw ?_;refine Dd 3 rfl (oS gq ?_);refine aw ?_;refine Dd 4 rfl (oS bz ?_);refine aw ?_;refine aQ (by kernel_rfl) fA ?_;refine gn ?_;refine aw ?_;refine jr ?_;refine aw ?_;refine kF [D] [] bJ gq bz results184 ?_;refine⟨fl.find? λq=> !act q,false,fl.length, ?_,rfl,rfl⟩;rw[jA];cases h:(fl.find? λq=> !act q)with
    |none=>exact absurd h mJ
    |some z=>rfl
   refine Do rfl (oS gq ?_);refine aw ?_;refine Dd 1 rfl (oL bz ?_);refine aw ?_;refine Dd 4 rfl (oS bz ?_);refine aw ?_;refine aQ (by kernel_rfl) fA ?_;refine gn ?_;refine aw ?_;refine jr ?_;refine aw ?_;refine kF [D] [] bJ gq bz results184 ?_;refine⟨fl.find? λq=> !act q,false,fl.length, ?_,rfl,rfl⟩;rw[jA];cases h:(fl.find? λq=> !act q)with
   |none=>exact absurd h mJ
   |some z=>rfl
  refine Do rfl (oL bz ?_);refine aw ?_;refine Dd 0 rfl (oL bJ ?_);refine aw ?_;refine Dd 2 rfl (oS bJ ?_);refine aw ?_;refine Dd 3 rfl (oS gq ?_);refine aw ?_;refine Dd 4 rfl (oS bz ?_);refine aw ?_;refine aQ (by kernel_rfl) fA ?_;refine gn ?_;refine aw ?_;refine jr ?_;refine aw ?_;refine kF [D] [] bJ gq bz results184 ?_;refine⟨fl.find? λq=> !act q,false,fl.length, ?_,rfl,rfl⟩;rw[jA];cases h:(fl.find? λq=> !act q)with
  |none=>exact absurd h mJ
  |some z=>rfl
 ·rintro D Zs ⟨a1,q1,r1,hl,gY,u7,dL,GS,rfl⟩
  refine bn ?_;simp only[pH,cap,acT];refine kF [D] [] bJ gq bz results184 ?_;exact⟨some q1,true,_,by rw[hl];exact(MY gY u7 dL GS).symm,rfl,rfl⟩
 rintro id D Zs ⟨rfl,a1,r1,hl,u7,dL,rfl⟩;refine bn ?_;have jA:=Bf (act:=act) (n:=5) (b:=r1) u7 (.inl dL);rw[<-hl]at jA;generalize rN:cJ own a1=fl at*;unfold LI;simp only[pH,cap,acT];have L8:∀z∈fl,At C z:=λz hz=>uX z (by rw[hl];rw[<-rN]at hz;unfold cJ at hz;exact ah0 _ (abm.1 hz).1);obtain⟨hz3,hz4⟩:=JI K L8 (fl.find? λq=> !act q) (λq e=>ac4 e);refine gJ ?_;refine pY ?_;refine Xp (oL bJ ?_);refine Xi Cm ?_;refine oy ?_;by_cases mJ:(fl.find? λq=> !act q)=none
 ·refine mm rfl (by exact congrArg (!·) (decide_eq_true (by rw[mJ];rfl))) ?_
  refine ma ?_;refine aw ?_;refine gJ ?_;refine Ea mix .nil (by kernel_rfl) λF4 le4 Mc sx=> ?_;refine D2 0 1 ?_ ?_
  ·refine Do rfl (oL bJ ?_)
   refine aw ?_;refine D2 1 2 ?_ ?_
   ·refine Do rfl (oL bz ?_)
    refine aw ?_;refine Dd 2 rfl (oS bJ ?_);refine aw ?_;refine Dd 3 rfl (oS gq ?_);refine aw ?_;refine Dd 4 rfl (oS bz ?_);refine aw ?_;refine aQ (by kernel_rfl) sx ?_;refine gn ?_;refine aw ?_;refine jr ?_;refine kF [D] [] bJ gq bz results184 ?_;exact⟨fl.head?,false,fl.length,by rw[jA,mJ],rfl,rfl⟩
   refine Do rfl (oS bJ ?_);refine aw ?_;refine D2 1 3 ?_ ?_
   ·refine Do rfl (oL bz ?_)
    refine aw ?_;refine Dd 3 rfl (oS gq ?_);refine aw ?_;refine Dd 4 rfl (oS bz ?_);refine aw ?_;refine aQ (by kernel_rfl) sx ?_;refine gn ?_;refine aw ?_;refine jr ?_;refine kF [D] [] bJ gq bz results184 ?_;exact⟨fl.head?,false,fl.length,by rw[jA,mJ],rfl,rfl⟩
   refine Do rfl (oS gq ?_);refine aw ?_;refine Dd 1 rfl (oL bz ?_);refine aw ?_;refine Dd 4 rfl (oS bz ?_);refine aw ?_;refine aQ (by kernel_rfl) sx ?_;refine gn ?_;refine aw ?_;refine jr ?_;refine kF [D] [] bJ gq bz results184 ?_;exact⟨fl.head?,false,fl.length,by rw[jA,mJ],rfl,rfl⟩
  refine Do rfl (oL bz ?_);refine aw ?_;refine Dd 0 rfl (oL bJ ?_);refine aw ?_;refine Dd 2 rfl (oS bJ ?_);refine aw ?_;refine Dd 3 rfl (oS gq ?_);refine aw ?_;refine Dd 4 rfl (oS bz ?_);refine aw ?_;refine aQ (by kernel_rfl) sx ?_;refine gn ?_;refine aw ?_;refine jr ?_;refine kF [D] [] bJ gq bz results184 ?_;exact⟨fl.head?,false,fl.length,by rw[jA,mJ],rfl,rfl⟩
 refine nH rfl (by exact congrArg (!·) (decide_eq_false (λe=>mJ (hz3.1 (by omega))))) ?_;refine gJ ?_;refine Ea mix .nil (by kernel_rfl) λF5 le5 Yh wC=> ?_;refine D2 0 1 ?_ ?_
 ·refine Do rfl (oL bJ ?_)
  refine aw ?_;refine D2 1 2 ?_ ?_
  ·refine Do rfl (oL bz ?_)
   refine aw ?_;refine Dd 2 rfl (oS bJ ?_);refine aw ?_;refine Dd 3 rfl (oS gq ?_);refine aw ?_;refine Dd 4 rfl (oS bz ?_);refine aw ?_;refine aQ (by kernel_rfl) wC ?_;refine gn ?_;refine aw ?_;refine jr ?_;refine aw ?_;refine kF [D] [] bJ gq bz results184 ?_;refine⟨fl.find? λq=> !act q,false,fl.length, ?_,rfl,rfl⟩;rw[jA];cases h:(fl.find? λq=> !act q)with
   |none=>exact absurd h mJ
   |some z=>rfl
  refine Do rfl (oS bJ ?_);refine aw ?_;refine D2 1 3 ?_ ?_
  ·refine Do rfl (oL bz ?_)
   refine aw ?_;refine Dd 3 rfl (oS gq ?_);refine aw ?_;refine Dd 4 rfl (oS bz ?_);refine aw ?_;refine aQ (by kernel_rfl) wC ?_;refine gn ?_;refine aw ?_;refine jr ?_;refine aw ?_;refine kF [D] [] bJ gq bz results184 ?_;refine⟨fl.find? λq=> !act q,false,fl.length, ?_,rfl,rfl⟩;rw[jA];cases h:(fl.find? λq=> !act q)with
   |none=>exact absurd h mJ
   |some z=>rfl
  refine Do rfl (oS gq ?_);refine aw ?_;refine Dd 1 rfl (oL bz ?_);refine aw ?_;refine Dd 4 rfl (oS bz ?_);refine aw ?_;refine aQ (by kernel_rfl) wC ?_;refine gn ?_;refine aw ?_;refine jr ?_;refine aw ?_;refine kF [D] [] bJ gq bz results184 ?_;refine⟨fl.find? λq=> !act q,false,fl.length, ?_,rfl,rfl⟩;rw[jA];cases h:(fl.find? λq=> !act q)with
  |none=>exact absurd h mJ
  |some z=>rfl
 refine Do rfl (oL bz ?_);refine aw ?_;refine Dd 0 rfl (oL bJ ?_);refine aw ?_;refine Dd 2 rfl (oS bJ ?_);refine aw ?_;refine Dd 3 rfl (oS gq ?_);refine aw ?_;refine Dd 4 rfl (oS bz ?_);refine aw ?_;refine aQ (by kernel_rfl) wC ?_;refine gn ?_;refine aw ?_;refine jr ?_;refine aw ?_;refine kF [D] [] bJ gq bz results184 ?_;refine⟨fl.find? λq=> !act q,false,fl.length, ?_,rfl,rfl⟩;rw[jA];cases h:(fl.find? λq=> !act q)with
 |none=>exact absurd h mJ
 |some z=>rfl
end Go.Proofs.YtcbcjolpdljbiaaGreat
