/- Part Pj1 of the proof. -/
import Derived.Test.YtcbcjolpdljbiaaGreatPi
set_option maxRecDepth 100000
open Go.Proofs.YtcbcjolpdljbiaaGreat.T
open Nat renaming zero_le -> abL
open List renaming mem_eraseIdx_iff_getElem? -> ajQ, getElem_of_mem -> abS, getElem?_eq_some_iff -> aad, length_set -> aak, mem_cons_of_mem -> aai, mem_of_getLast? -> age, getLast?_eq_getElem? -> agp, mem_cons_self -> aag, mem_of_mem_head? -> abY, flatMap_nil -> akC, flatMap_cons -> agz, getD_eq_getElem?_getD -> aab, getElem?_eq_getElem -> aac, getElem?_set_ne -> abX, mem_of_getElem? -> aaf, append_nil -> abT, drop_eq_getElem_cons -> ahf, Perm -> abA, perm_append_comm -> abN, findIdx?_cons -> agB, filter_append -> agQ, take_left -> aj4, mem_append -> agb, mem_reverse -> agH, length_map -> abI, length_append -> aby, mem_append_left -> agW, mem_filter -> abG, mem_of_find?_eq_some -> af0
open Go.Proofs.Tryz renaming prog -> aaa
open Go.Proofs.Tryz
open Go.Value renaming int -> Dm
open Go.IntKind renaming i64 -> Dl, u64 -> Dj
namespace Go.Proofs.YtcbcjolpdljbiaaGreat
open Go Go.dC
structure Ck where
 now:Nat
 kJ:Nat
 cut:Nat
structure sS (k:Ck):Prop where
 n1:1<=k.now
 n2:k.now<=1099511627776
 p:k.kJ<=1099511627777
 pn:k.kJ≠0->k.now<k.kJ
 c:k.cut<18446744073709551616
def Wt (k:Ck):FJ:= [Dm Dl k.now,Dm Dl k.kJ,Dm Dj k.cut]
def kI (a:Nat)(k:Ck):aa:=ag a 132 (Wt k)
def Ck.flush (k:Ck)(t:Int)(aQ:Nat):Ck:=if t<=0 then{k with cut:=max k.cut aQ,kJ:=0}else{k with kJ:=k.now+min t.toNat (1099511627777-k.now)}
def Ck.tick (k:Ck)(by_:Nat)(aQ:Nat):Ck:=let k2:={k with now:=k.now+by_};if 0<k2.kJ/\k2.kJ<=k2.now then k2.flush 0 aQ else k2
theorem sS.flush{k:Ck}(h:sS k)(t:Int){aQ:Nat}(hi:aQ<18446744073709551616):sS (k.flush t aQ):=by
 obtain⟨h1,h2,h3,h4,h5⟩:=h;unfold Ck.flush;split
 ·exact⟨h1,h2,abL _,λg=>absurd rfl g,by show max _ _<_;omega⟩
 exact⟨h1,h2,by show k.now+min _ _<=_;omega,λ_=>by show k.now<k.now+min _ _;omega,h5⟩
theorem kB (a:Nat)(k:Ck):aG aaa 38 [Dk a] (In (kI a k)) [] (λv H=>v=Dm Dl k.now/\H= []):=by
 unfold kI Wt;refine af func38 rfl ntmps38 rfl ?_;intro F hk;refine bP ?_;refine Rt [] results38 ?_;exact⟨rfl,rfl⟩
theorem VQ (a:Nat)(k:Ck):aG aaa 150 [Dk a] (In (kI a k)) [] (λv H=>v=Dm Dj k.cut/\H= []):=by
 unfold kI Wt;refine af func150 rfl ntmps150 rfl ?_;intro F hk;refine bP ?_;refine Rt [] results150 ?_;exact⟨rfl,rfl⟩
theorem zp (a:Nat)(k:Ck)(h2:k.now<=1099511627776)(t:Int)(aQ:Nat)(hi:aQ<18446744073709551616)(ht:t<9223372036854775808):
  aG aaa 74 [Dk a,Dm Dl t,Dm Dj aQ] uT [kI a k] (λv H=>v= .tuple #[]/\H= [kI a (k.flush t aQ)]):=by
 unfold Ck.flush;by_cases ht0:t<=0
 ·rw[if_pos ht0]
  unfold kI Wt;refine af func74 rfl ntmps74 rfl ?_;intro F _;refine bn ?_;refine fe ?_ (e:=by exact decide_eq_true ht0);refine cV ?_;refine Li Ma ?_;refine cA ?_;refine Rt0 [ag a 132 [Dm Dl k.now,Dm Dl 0,Dm Dj (max (k.cut:Int) (aQ:Int))]] results74 ?_;exact⟨rfl,by rw[show max (k.cut:Int) (aQ:Int)=((max k.cut aQ:Nat):Int) by omega];rfl⟩
 rw[if_neg ht0];unfold kI Wt;refine af func74 rfl ntmps74 rfl ?_;intro F _;refine bn ?_;refine cN ?_ (e:=by exact decide_eq_false ht0);refine bd ?_;refine iU 13 mix (.cons .here .nil) λF1 jD bV aI=> ?_;obtain⟨q1,_⟩:=bV;refine bP ?_;refine Ti Mi ?_;refine aw ?_;refine gI aI ?_;refine bq ?_;refine Tn ?_;refine jU [ag a 132 [Dm Dl k.now,Dm Dl ((k.now:Int)+min t (1099511627777-(k.now:Int))),Dm Dj k.cut]] results74 ?_;exact⟨rfl,by rw[show(k.now:Int)+min t (1099511627777-(k.now:Int))=((k.now+min t.toNat (1099511627777-k.now):Nat):Int) by omega]⟩
theorem ZE (ex tok now cut:Nat):aG aaa 149 [Dm Dl ex,Dm Dj tok,Dm Dl now,Dm Dj cut] uT [] (λv H=>v= .bool (decide (0<ex/\ex<=now\/tok<=cut))/\H= []):=by
 refine af func149 rfl ntmps149 rfl ?_;intro F _;by_cases h1:0<ex
 ·by_cases h2:ex<=now
  ·refine gK ?_
   refine bs ?_;refine zt 11 ?_;refine bn ?_;refine zt 16 ?_;refine bK ?_;refine Rt [] results149 ?_;exact⟨by rw[decide_eq_true (.inl ⟨h1,h2⟩)],rfl⟩
  refine gK ?_;refine bs ?_;refine zt 11 ?_;refine bn ?_;refine zf 16 ?_;refine bK ?_;refine Rt [] results149 ?_;exact⟨congrArg Value.bool (decide_eq_decide.2 (by omega)),rfl⟩
 refine gK ?_;refine bs ?_;refine zf 11 ?_;refine dL ?_;refine Rt [] results149 ?_;exact⟨congrArg Value.bool (decide_eq_decide.2 (by omega)),rfl⟩
def LG (now:Nat)(t:Int):Int:=if t=0 then 0 else if t<0 then(now:Int)else if t<=2592000 then(now:Int)+t else t
theorem Bg (now:Nat)(t:Int)(h1:1<=now)(h2:now<=1099511627776):aG aaa 134 [Dm Dl now,Dm Dl t] uT [] (λv H=>v=Dm Dl (LG now t)/\H= []):=by
 unfold LG;refine af func134 rfl ntmps134 rfl ?_;intro F _;refine bn ?_;refine Li Ma ?_;refine Li Mi ?_;refine bd ?_;refine av ?_;refine aA (t:=0) (v':=(Dm Dl now)) rfl (by(congr 1<;>omega)) ?_;refine bs ?_;refine az rfl ?_ ?_
 ·intro g0
  replace g0:=aO g0;refine bs ?_;refine Rt [] results134 ?_;exact⟨by rw[if_pos g0],rfl⟩
 intro g0;replace g0:=aO g0;refine bn ?_;refine az rfl ?_ ?_
 ·intro g1
  replace g1:=aO g1;refine bK ?_;refine Rt [] results134 ?_;exact⟨by rw[if_neg g0,if_pos g1],rfl⟩
 intro g1;replace g1:=aO g1;refine bn ?_;refine az rfl ?_ ?_
 ·intro g2
  replace g2:=aO g2;refine cA ?_;refine Rt [] results134 ?_;exact⟨by rw[if_neg g0,if_neg (by omega),if_pos g2],rfl⟩
 intro g2;replace g2:=aO g2;refine cV ?_;refine Rt [] results134 ?_;exact⟨by rw[if_neg g0,if_neg (by omega),if_neg (by omega)],rfl⟩
def Ck.Lj (k:Ck)(n:Int):Int:=if n<1 then 1 else if 1099511627776-(k.now:Int)<n then 4 else 0
def Ck.move (k:Ck)(n:Int)(aQ:Nat):Ck:=if k.Lj n=0 then k.tick n.toNat aQ else k
theorem sS.move{k:Ck}(h:sS k)(n:Int){aQ:Nat}(hi:aQ<18446744073709551616):sS (k.move n aQ):=by
 unfold Ck.move Ck.Lj;by_cases e1:n<1
 ·rw[if_pos e1,if_neg (by decide)];exact h
 rw[if_neg e1];by_cases e2:1099511627776-(k.now:Int)<n
 ·rw[if_pos e2,if_neg (by decide)];exact h
 rw[if_neg e2,if_pos rfl];obtain⟨h1,h2,h3,h4,h5⟩:=h;unfold Ck.tick;dsimp only;split
 ·unfold Ck.flush
  rw[if_pos (by decide)];exact⟨by show 1<=k.now+_;omega,by show k.now+_<=_;omega,abL _,λg=>absurd rfl g,by show max k.cut aQ<_;omega⟩
 next g=>exact⟨by show 1<=k.now+_;omega,by show k.now+_<=_;omega,h3,λq=>by show k.now+_<k.kJ;change k.kJ≠0 at q;omega,h5⟩
theorem OE (a:Nat)(k:Ck)(K:sS k)(n:Int)(aQ:Nat)(hi:aQ<18446744073709551616):
  aG aaa 36 [Dk a,Dm Dl n,Dm Dj aQ] uT [kI a k] (λv H=>v=Dm Dl (k.Lj n)/\H= [kI a (k.move n aQ)]):=by
 have h2:=K.n2;unfold Ck.move Ck.Lj;by_cases e1:n<1
 ·rw[if_pos e1,if_neg (by decide)]
  unfold kI Wt;refine af func36 rfl ntmps36 rfl ?_;intro F _;refine cV ?_;refine fe ?_ (e:=by exact decide_eq_true e1);refine bn ?_;refine Rt [ag a 132 [Dm Dl k.now,Dm Dl k.kJ,Dm Dj k.cut]] results36 ?_;exact⟨rfl,rfl⟩
 rw[if_neg e1];by_cases e2:1099511627776-(k.now:Int)<n
 ·rw[if_pos e2,if_neg (by decide)]
  unfold kI Wt;refine af func36 rfl ntmps36 rfl ?_;intro F _;refine cV ?_;refine cN ?_ (e:=by exact decide_eq_false e1);refine dL ?_;refine fe ?_ (e:=by exact decide_eq_true e2);refine bn ?_;refine Rt [ag a 132 [Dm Dl k.now,Dm Dl k.kJ,Dm Dj k.cut]] results36 ?_;exact⟨rfl,rfl⟩
 rw[if_neg e2,if_pos rfl];obtain⟨m,rfl⟩:∃m:Nat,n=(m:Int):=⟨n.toNat,by omega⟩;have hp:=K.p;have hf:=zp a {k with now:=k.now+m} (by show k.now+m<=_;omega) 0 aQ hi (by decide);unfold Ck.tick;dsimp only;rw[Int.toNat_natCast];unfold kI Wt at hf⊢;refine af func36 rfl ntmps36 rfl ?_;intro F _;refine cV ?_;refine cN ?_ (e:=by exact decide_eq_false e1);refine dL ?_;refine cN ?_ (e:=by exact decide_eq_false e2);by_cases g1:0<k.kJ
 ·refine B5 ?_
  refine gJ ?_;refine av ?_;refine iU 16 mix (.cons .here .nil) λF1 jD bV aI=> ?_;obtain⟨q1,_⟩:=bV;refine bs ?_;refine zt 29 ?_;refine bB ?_;refine gI aI ?_;refine aw ?_;by_cases g2:k.kJ<=k.now+m
  ·rw[if_pos ⟨g1,g2⟩]
   refine fe ?_;refine bq ?_;refine zl Aa (hf) (.cons .here .nil) Di ?_;refine bn ?_;refine Rt [ag a 132 (Wt (Ck.flush {k with now:=k.now+m} 0 aQ))] results36 ?_;exact⟨rfl,rfl⟩
  rw[if_neg (λg=>g2 g.2)];refine cN ?_;refine bs ?_;refine Rt [ag a 132 [Dm Dl ((k.now:Int)+(m:Int)),Dm Dl k.kJ,Dm Dj k.cut]] results36 ?_;exact⟨rfl,rfl⟩
 rw[if_neg (λg=>g1 g.1)];refine fX ?_;refine av ?_;refine iU 16 mix (.cons .here .nil) λF2 zH eL dw=> ?_;obtain⟨q1,_⟩:=eL;refine bs ?_;refine zf 29 ?_;refine bB ?_;refine gI dw ?_;refine cV ?_;refine Rt [ag a 132 [Dm Dl ((k.now:Int)+(m:Int)),Dm Dl k.kJ,Dm Dj k.cut]] results36 ?_;exact⟨rfl,rfl⟩
end Go.Proofs.YtcbcjolpdljbiaaGreat
namespace Go.Proofs.YtcbcjolpdljbiaaGreat
open Go Go.dC Go.Proofs.YtcbcjolpdljbiaaGreat.Cs
section
variable {P:Program} {n:Nat} {ds:Dq} {F:dG} {σ:aP} {o:Oper}
theorem FE{t e sz k:Nat}(ht:Bv P t=some (k,e,sz)):P.underlying t=some (.array k e):=by
 unfold Bv at ht;cases hu:P.underlying t with
 |none=>simp[hu]at ht
 |some dsc=>
  cases dsc<;>simp[hu]at ht;rename_i k' e';cases hi:P.info? e' with
  |none=>simp[hi]at ht
  |some inf=>
   simp[hi]at ht;obtain⟨rfl,rfl,rfl⟩:=ht;rfl
theorem Iag{t e sz sz' k j:Nat}{x y:Operand}{kd:IntKind}{z:Int}{cs vs:FJ}(ht:Bv P t=some (k,e,sz'))(he:cP P e=some sz)(ho:o.op= .index t x y:=by exact rfl)(hx:bo σ x=some (.agg cs.toArray):=by exact rfl)(hy:bo σ y=some (.int kd z):=by exact rfl)(hj:z=(j:Int):=by exact rfl)
  (hl:j<k:=by omega) (hv:(cs.drop (j*sz)).take sz=vs:=by first|assumption|exact rfl):Yv P n ds F σ o (.agg vs.toArray):=λa w en fr=>by
 obtain⟨h1,h2⟩:=fE (w:=w) he;subst hj;have e:cs.toArray.extract (j*sz) (j*sz+sz)=vs.toArray:=by
  rw[<-hv];simp[List.take_drop]
 simp[execOp,ho,Instr.index,en.eval hx,en.eval hy,asIntOf,run_underlying (FE ht),hl,part,h1,h2,e];exact hv
theorem Ias{t e sz k j:Nat}{x y:Operand}{kd:IntKind}{z:Int}{cs:FJ}{v:Value}(ht:Bv P t=some (k,e,sz))(he:cY P e=true)(ho:o.op= .index t x y:=by exact rfl)(hx:bo σ x=some (.agg cs.toArray):=by exact rfl)(hy:bo σ y=some (.int kd z):=by exact rfl)(hj:z=(j:Int):=by exact rfl)
  (hl:j<k:=by omega) (hv:cs[j]?=some v:=by first|assumption|exact rfl):Yv P n ds F σ o v:=λa w en fr=>by
 obtain⟨h1,h2⟩:=qI (w:=w) he;subst hj;simp[execOp,ho,Instr.index,en.eval hx,en.eval hy,asIntOf,run_underlying (FE ht),hl,part,h1,h2,hv]
theorem Fnn{t yt:TypeId}{x y:Operand}{f:Fn}{a c:Array Value}(ht:(P.underlying t).map (λd=>match d with| .func .. =>true|_=>false)=some true)(ho:o.op= .binOp .neq t x y yt:=by exact rfl)(hx:bo σ x=some (.func f a c):=by exact rfl)(hy:bo σ y=some .nilFunc:=by exact rfl):Yv P n ds F σ o (.bool true):=λw0 w en _=>by
 cases hu:P.underlying t with
 |none=>simp[hu]at ht
 |some d=>
  cases d<;>simp[hu]at ht;have h:∀k:Nat,(Op.equalIn (k+1) t (.func f a c) .nilFunc).run P w= .ok false w:=λk=>by simp[Op.equalIn,run_underlying hu]
  have r:(Go.binOp .neq t (.func f a c) .nilFunc).run P w= .ok (.bool true) w:=by
   simp only[Go.binOp];simp[Op.equal,Op.maxDepth,h 9999]
  simp only[execOp,ho,en.eval hx,en.eval hy,Sem.run_bind,eqGuard_at_func,Sem.run_pure,r,Result.andThen_ok]
end
theorem Hl:(aaa.underlying 135).map (λd=>match d with| .func .. =>true|_=>false)=some true:=by kernel_rfl
theorem afN:Bv aaa 276=some (3,275,2):=by kernel_rfl
theorem afX:cP aaa 275=some 2:=by kernel_rfl
def zW (C:Cs)(Q:F7)(c hot warm:Nat):FK:=
 if o7 Q c 1 hot then some 1 else if o7 Q c 2 warm then some 2 else if xX C Q c then some 3 else none
theorem VI{C:Cs}{Q:F7}{c hot warm s:Nat}(h:zW C Q c hot warm=some s):(1<=s/\s<=3)/\∃p,(ql Q (qi c s)).getLast?=some p:=by
 have ne:∀l:FH,0<l.length->∃p,l.getLast?=some p:=λl h=>by
  cases l with
  |nil=>simp at h
  |cons a l=>exact⟨_,List.getLast?_cons ..⟩
 unfold zW at h;split at h
 ·next g=>
  cases h;unfold o7 at g;exact⟨by omega,ne _ (by have:=of_decide_eq_true g;omega)⟩
 split at h
 ·next g=>
  cases h;unfold o7 at g;exact⟨by omega,ne _ (by have:=of_decide_eq_true g;omega)⟩
 split at h
 ·next g=>
  cases h;unfold xX at g;refine⟨by omega, ?_⟩;cases e:(ql Q (qi c 3)).getLast? with
  |none=>rw[e]at g;cases g
  |some p=>exact⟨p,rfl⟩
 cases h
def toQ (A:By)(p:Nat):Nat:=if DN A p then 2 else 3
def pK (C:Cs)(Q:F7)(c s p:Nat):F7:=xv Q (qi c s) ((ql Q (qi c s)).length-1) (qi c (toQ C.A p)) p
theorem SY{l:FH}(nd:l.Nodup){p:Nat}(h:p∈l):ahd l p≠some p:=λe=>by
 unfold ahd at e;obtain⟨i1,i2⟩:=C7 h;generalize l.idxOf p=k at*;rcases k with _|k
 ·cases e
 have:=iC nd e i2;omega
theorem J3{Q:F7}{i j k p q m:Nat}(hi:i<Q.length)(hj:j<Q.length)(hq:q≠p)(h:q∈ql Q m)(hk:(ql Q i)[k]?=some p):q∈ql (xv Q i k j p) m:=by
 have wH:∀u,q∈ql Q u->q∈ql (Q.set i ((ql Q i).eraseIdx k)) u:=λu hu=>by
  rw[fL hi];split
  ·next e=>
   rw[e]at hu;rw[ajQ];obtain⟨v,hv,ev⟩:=abS hu;refine⟨v,λg=>hq ?_,aad.2 ⟨hv,ev⟩⟩;have h1:(ql Q i)[k]?=some q:=by rw[<-g];exact aad.2 ⟨hv,ev⟩
   rw[hk]at h1;exact(Option.some.inj h1).symm
  exact hu
 unfold xv;rw[fL (by rw[aak];exact hj)];split
 ·next e=>rw[<-e];exact aai _ (wH m h)
 exact wH m h
theorem YW{n:Nat}{Q:F7}{x:Cw}(X:db n Q x)(nd:∀i,(ql Q i).Nodup){i j k p:Nat}(hi:i<Q.length)(hj:j<Q.length)(hk:(ql Q i)[k]?=some p):db n (xv Q i k j p) (x.left Q p):=by
 have L:=X.left p;refine⟨L.go,L.no,λq hq=> ?_,L.lf⟩;obtain⟨h1,h2⟩:=L.nx q hq;refine⟨J3 hi hj (λe=> ?_) h1 hk,h2⟩;subst e;unfold Cw.left at hq h1;split at hq
 ·next g=>
  rw[if_pos g]at h1;have hp:=(X.nx q g).1;unfold Cw.pass at hq;rw[g]at hq;dsimp only at hq;split at hq
  ·exact SY (nd _) hp hq
  cases hq
 next g=>exact g hq
structure S4 (C:Cs)(n p:Nat)(A:By)(Q:F7)(x:Cw):Prop where
 o:iV (C.wA A) Q
 d:cZ C C.A A (SL p)
 mr:dB A p=mkSet (dB C.A p) false
 x:db n Q x
def aaH (cr:Nat):Value:= .func (.func 92) #[Dk cr] #[]
def ruF (j:Nat):Nat:=if j=0 then 257 else if j=1 then 258 else 259
theorem ady (j:Nat)(h:j<3):(ruC.drop (j*2)).take 2= [Dm Dl (j+1:Nat), .func (.func (ruF j)) #[] #[]]:=by
 have:j=0\/j=1\/j=2:=by omega
 rcases this with rfl|rfl|rfl<;>rfl
def WU (C:Cs)(Q:F7)(c hot warm j:Nat):Bool:=if j=0 then o7 Q c 1 hot else if j=1 then o7 Q c 2 warm else xX C Q c
theorem X5 (a q b qb hot warm:Nat)(C:Cs)(K:Ok C)(Q:F7)(O:iV C Q)(M:MkQ C Q)(c:Nat)(hc:c<C.ae.length)(hh:hot<=100)(hw:warm<=100)(j:Nat)(hj:j<3):
  ay aaa (ruF j)=true/\aG aaa (ruF j) [Dk a,Dm Dl c] (λh=>In (Cl b C) h/\In (nM a b q hot warm) h/\gG (qY q b qb C Q) h) [] (λv H=>v= .bool (WU C Q c hot warm j)/\H= []):=by
 have:j=0\/j=1\/j=2:=by omega
 rcases this with rfl|rfl|rfl
 ·exact⟨(Aa (n:=257)),(FY a q b qb hot warm C K Q O c hc hh).inp λk h=>⟨h.2.1,h.2.2⟩⟩
 ·exact⟨(Aa (n:=258)),(ak6 a q b qb hot warm C K Q O c hc hw).inp λk h=>⟨h.2.1,h.2.2⟩⟩
 exact⟨(Aa (n:=259)),UR a q b qb hot warm C K Q O M c hc⟩
theorem VK{C:Cs}{Q:F7}{c hot warm:Nat}(h:∀i,i<3->WU C Q c hot warm i=false):zW C Q c hot warm=none:=by
 have h0:=h 0 (by omega);have h1:=h 1 (by omega);have h2:=h 2 (by omega);unfold WU at h0 h1 h2;unfold zW;rw[if_pos rfl]at h0;rw[if_neg (by decide),if_pos rfl]at h1;rw[if_neg (by decide),if_neg (by decide)]at h2;rw[h0,h1,h2];rfl
theorem VJ{C:Cs}{Q:F7}{c hot warm j:Nat}(hj:j<3)(h:∀i,i<j->WU C Q c hot warm i=false)(t:WU C Q c hot warm j=true):zW C Q c hot warm=some (j+1):=by
 have:j=0\/j=1\/j=2:=by omega
 unfold zW;rcases this with rfl|rfl|rfl
 ·unfold WU at t
  rw[if_pos rfl]at t;rw[t];rfl
 ·have h0:=h 0 (by omega)
  unfold WU at t h0;rw[if_pos rfl]at h0;rw[if_neg (by decide),if_pos rfl]at t;rw[h0,t];rfl
 have h0:=h 0 (by omega);have h1:=h 1 (by omega);unfold WU at t h0 h1;rw[if_pos rfl]at h0;rw[if_neg (by decide),if_pos rfl]at h1;rw[if_neg (by decide),if_neg (by decide)]at t;rw[h0,h1,t];rfl
theorem UO (a q b qb hot warm cr w:Nat)(dv tv:Value)(C:Cs)(K:Ok C)(Q:F7)(O:iV C Q)(M:MkQ C Q)(c:Nat)(hc:c<C.ae.length)(hh:hot<=100)(hw:warm<=100)(x:Cw)(X:db C.ae.length Q x):
  aG aaa 139 [Dk a,Dm Dl c,aaH cr] (In (nM a b q hot warm)) [Cl b C,ag q 182 (ij b qb C.ae.length),ag qb 333 (Q.flatMap (cX C)),ik cr q w C.ae.length dv tv C x]
   (λv H=>(zW C Q c hot warm=none/\v= .bool false/\H= [Cl b C,ag q 182 (ij b qb C.ae.length),ag qb 333 (Q.flatMap (cX C)),ik cr q w C.ae.length dv tv C x])\/
    ∃s p A,zW C Q c hot warm=some s/\(ql Q (qi c s)).getLast?=some p/\v= .bool true/\
     H= [Cl b (C.wA A),ag q 182 (ij b qb C.ae.length),ag qb 333 ((pK C Q c s p).flatMap (cX C)),ik cr q w C.ae.length dv tv C (x.left Q p)]/\S4 C C.ae.length p A (pK C Q c s p) (x.left Q p)):=by
 refine af func139 rfl ntmps139 rfl ?_;rintro F wP;have hl:=wP;unfold nM I5 at hl;refine bn ?_;refine zl Aa (TW) .nil Di ?_;refine bq ?_;refine Lo (ι:=Nat) (FN [6,1,8,4,13,41]) (λj=>j<=3/\∀i,i<j->WU C Q c hot warm i=false) (λj=> [(13,Dm Dl j)]) (λj=> [Cl b C,ag q 182 (ij b qb C.ae.length),ag qb 333 (Q.flatMap (cX C)),ik cr q w C.ae.length dv tv C x]) (λj=>3-j) (0) ⟨abL 3,λi h=>absurd h (Nat.not_lt_zero _)⟩ ?_;rintro j hI;obtain⟨hj3,mc⟩:=hI;by_cases hj:j<3
 ·have hru:=ady j hj
  obtain⟨kH,aiR⟩:=X5 a q b qb hot warm C K Q O M c hc hh hw j hj;refine bq ?_;refine av ?_;refine fe ?_;refine bn ?_;refine Li (Iag afN afX) ?_;refine Lp (oA QQ λb1=> ?_);refine cV ?_;refine Lp (ZW kH rfl rfl rfl aiR .nil (λ_ le ak=>⟨ak.nth 1 rfl,In.mono wP le,ak.nth 2 rfl,ak.nth 3 rfl,trivial⟩) λv H' hr=> ?_);obtain⟨rfl,rfl⟩:=hr;refine bR ?_;refine bd ?_;refine az rfl ?_ ?_
  ·intro GK
   replace GK:=aO GK;refine bK ?_;refine aD ?_;refine Ro (j+1) (⟨hj,λi hi=>(by by_cases e:i=j;exact e▸GK;exact mc i (by omega))⟩) ((by omega))
  intro GK;replace GK:=aO GK;have hds:=VJ hj mc GK;obtain⟨hs,p,vK⟩:=VI hds;have Af:=age vK;have P:gw C (some p):=O.Gq (i:=qi c (j+1)) λy hy=>by cases hy;exact Af
  have L:=(P p rfl).1;have uA:(ql Q (qi c (j+1)))[(ql Q (qi c (j+1))).length-1]?=some p:=by rw[<-agp];exact vK
  have cQ:C.cl p=c:=by
   have h:=O.st _ p Af;have h3:=h.2.2;unfold qi at h3;omega
  have hmp:=M _ p Af;have tl:=tO q b qb C K Q O c (j+1) hc hs;rw[vK,bZ]at tl;refine bd ?_;refine av ?_;refine iU 12 mix (.cons .here .nil) λF1 jD bV aI=> ?_;obtain⟨q1,_⟩:=bV;have hl1:=In.mono hl jD;refine bK ?_;refine Tp (oZ (Aa (n:=169)) (tl) .nil (λ_ le ak=>⟨ak.nth 1 rfl,ak.nth 2 rfl,trivial⟩) ?_);refine bc ?_;refine gI aI ?_;refine rh ?_;refine zl Aa (sy a b q hot warm C K p L (P.kl p rfl) hmp) .nil (λ_ le ak=>⟨ak.nth 1 rfl,In.mono wP le⟩) ?_;refine aw ?_;refine eK (ι:=Nat) [11] (λt=>t=toQ C.A p) (λt=> [(11,Dm Dl t)]) (λt=> [Cl b C,ag q 182 (ij b qb C.ae.length),ag qb 333 (Q.flatMap (cX C)),ik cr q w C.ae.length dv tv C x]) ?_ ?_
  ·refine az rfl ?_ ?_
   ·intro Ws
    replace Ws:=aO Ws;refine bd ?_;refine aD ?_;refine Me (2) ((by unfold toQ;rw[if_pos Ws]))
   intro Ws;replace Ws:=aO Ws;refine aw ?_;refine Me (3) ((by unfold toQ;rw[if_neg (by rw[Ws];decide)]))
  rintro t ht;have ht3:1<=t/\t<=3:=by rw[ht];unfold toQ;split<;>omega
  have hlen1:(ql Q (qi c (j+1))).length-1<(ql Q (qi c (j+1))).length:=by have:=List.length_pos_of_mem Af;omega
  have O8:=mW O hc hs;have xy:=mW O hc ht3;have X2:=YW X O.nd (j:=qi c t) O8 xy uA;have lf:=FB cr q w C.ae.length b qb dv tv C K Q O x X p L;have sh:=Mw q b qb C K Q O (qi c (j+1)) ((ql Q (qi c (j+1))).length-1) p t ht3 uA;rw[cQ]at sh;have hsq:pK C Q c (j+1) p=xv Q (qi c (j+1)) ((ql Q (qi c (j+1))).length-1) (qi c t) p:=by unfold pK;rw[ht]
  generalize Z1:x.left Q p=x2 at*;generalize xv Q (qi c (j+1)) ((ql Q (qi c (j+1))).length-1) (qi c t) p=Q2 at*;refine bq ?_;refine Li (Fnn Hl) ?_;refine bn ?_;refine Lp (ZW (Aa (n:=92)) rfl rfl rfl lf (.cons (.t3 .here) .nil) (λ_ le ak=>⟨ak.nth 0 rfl,ak.nth 1 rfl,ak.nth 2 rfl,trivial⟩) λv H' hr=> ?_);obtain⟨rfl,rfl⟩:=hr;refine bR ?_;refine cV ?_;refine Lp (oC Aa rfl rfl (sh) (.cons (.there .here) (.cons (.there .here) (.cons (.there .here) .nil))) Di ?_);rintro v H' ⟨rfl,A,rfl,E⟩;refine bR ?_;have P2:gw (C.wA A) (some p):=mY K E.d P (λ_ _ _ s=>s.nX);have hmA:dB A p=dB C.A p:=CV K E.d L (by unfold SQ;omega);refine bc ?_;refine zl Aa (yH a b q hot warm (C.wA A) (K.wA A) p (P2 p rfl).1 (P2.kl p rfl) (by rw[cH,hmA];exact hmp) false) (.cons .here .nil) (λ_ le ak=>In.mono wP le) ?_;refine bB ?_;refine Rt [Cl b (C.wA (wv A p false)),ag q 182 (ij b qb C.ae.length),ag qb 333 (Q2.flatMap (cX C)),ik cr q w C.ae.length dv tv C x2] results139 ?_;refine .inr ⟨j+1,p,wv A p false,hds,vK,rfl,(by rw[hsq,Z1]), ?_, ?_, ?_, ?_⟩
  ·rw[hsq];exact aay (K.wA A) E.o (P2 p rfl).1 false
  ·exact(E.d.mono λq o s=>by unfold SQ at s;unfold SL;omega).trans ((Xc (K.wA A) A (P2 p rfl).1 false).wA.mono λq o s=>by unfold SM at s;unfold SL;omega)
  ·rw[Jg K A L L,if_pos rfl,hmA]
   have:=lV hmp false;omega
  rw[hsq,Z1];exact X2
 refine gK ?_;refine bd ?_;refine av ?_;refine cN ?_;refine cA ?_;obtain rfl:j=3:=by omega
 refine Rt [Cl b C,ag q 182 (ij b qb C.ae.length),ag qb 333 (Q.flatMap (cX C)),ik cr q w C.ae.length dv tv C x] results139 ?_;exact .inl ⟨VK mc,rfl,rfl⟩
end Go.Proofs.YtcbcjolpdljbiaaGreat
namespace Go.Proofs.YtcbcjolpdljbiaaGreat
open Go Go.dC Go.Proofs.YtcbcjolpdljbiaaGreat.Cs
structure mU where
 Q:F7
 ac:Nat->Bool
 x:Cw
def QK (s:mU)(c:Nat):Bool:=match(ql s.Q (qi c 3)).getLast? with
 |none=>false
 |some p=>s.ac p
def GM (s:mU)(c hot warm:Nat):FK:=if o7 s.Q c 1 hot then some 1 else if o7 s.Q c 2 warm then some 2 else if QK s c then some 3 else none
def rz (c hot warm:Nat)(s:mU):Option mU:=match GM s c hot warm with
 |none=>none
 |some k=>match(ql s.Q (qi c k)).getLast? with
  |none=>none
  |some p=>some ⟨xv s.Q (qi c k) ((ql s.Q (qi c k)).length-1) (qi c (if s.ac p then 2 else 3)) p,λy=>if y=p then false else s.ac y,s.x.left s.Q p⟩
def lD (c hot warm:Nat):Nat->mU->Nat×mU
 |0,s=>(0,s)
 |k+1,s=>match rz c hot warm s with
  |none=>(0,s)
  |some t=>((lD c hot warm k t).1+1,(lD c hot warm k t).2)
def SB (_q o:Nat):Prop:=4<=o/\o<12\/o=45\/o=46
structure BaI (C:Cs)(A:By)(s:mU):Prop where
 o:iV (C.wA A) s.Q
 x:db C.ae.length s.Q s.x
 mq:MkQ (C.wA A) s.Q
 ac:∀i,∀p∈ql s.Q i,DN A p=s.ac p
structure LL (C:Cs)(Q:F7)(A:By)(s:mU):Prop where
 i:BaI C A s
 d:cZ C C.A A SB
 mr:∀y,Live C y->dB A y/2=dB C.A y/2
 mem:∀p,(∃i,p∈ql s.Q i)↔∃i,p∈ql Q i
theorem Uv{Q:F7}{i j k p q m:Nat}(hi:i<Q.length)(hj:j<Q.length)(h:q∈ql (xv Q i k j p) m):q=p\/q∈ql Q m:=by
 have back:∀u,q∈ql (Q.set i ((ql Q i).eraseIdx k)) u->q∈ql Q u:=λu hu=>by
  rw[fL hi]at hu;split at hu
  ·next e=>rw[e];exact List.mem_of_mem_eraseIdx hu
  exact hu
 unfold xv at h;rw[fL (by rw[aak];exact hj)]at h;split at h
 ·next e=>
  rcases List.mem_cons.1 h with g|g
  ·exact .inl g
  exact .inr (by rw[e];exact back _ g)
 exact .inr (back m h)
theorem adS{Q:F7}{i j k p:Nat}(hi:i<Q.length)(hj:j<Q.length):p∈ql (xv Q i k j p) j:=by
 unfold xv;rw[fL (by rw[aak];exact hj),if_pos rfl];exact aag
theorem afY{A B:By}{x:Nat}(h:dB B x=dB A x):DN B x=DN A x:=by unfold DN;rw[h]
theorem Zz{C:Cs}{A:By}{s:mU}(I:BaI C A s)(c hot warm:Nat):zW (C.wA A) s.Q c hot warm=GM s c hot warm:=by
 have:xX (C.wA A) s.Q c=QK s c:=by
  unfold xX QK;cases e:(ql s.Q (qi c 3)).getLast? with
  |none=>rfl
  |some p=>exact I.ac _ p (age e)
 unfold zW GM;rw[this]
theorem LL.step{C:Cs}(K:Ok C){Q:F7}{A B:By}{s:mU}(O:LL C Q A s){c hot warm k p:Nat}(hc:c<C.ae.length)(hd:GM s c hot warm=some k)(hk:1<=k/\k<=3)(hl:(ql s.Q (qi c k)).getLast?=some p)
  (T:S4 (C.wA A) C.ae.length p B (pK (C.wA A) s.Q c k p) (s.x.left s.Q p)):
  ∃t,rz c hot warm s=some t/\t.Q=pK (C.wA A) s.Q c k p/\t.x=s.x.left s.Q p/\LL C Q B t:=by
 have Af:=age hl;have Ws:DN A p=s.ac p:=O.i.ac _ p Af;have hQ:xv s.Q (qi c k) ((ql s.Q (qi c k)).length-1) (qi c (if s.ac p then 2 else 3)) p=pK (C.wA A) s.Q c k p:=by
  unfold pK toQ;rw[cH,Ws]
 have L:Live C p:=by
  have:=O.i.o.lv _ p Af;exact⟨⟨this.i,this.own,this.al,this.k⟩,this.tk⟩
 have O8:qi c k<s.Q.length:=mW O.i.o hc hk;have xy:qi c (toQ A p)<s.Q.length:=mW O.i.o hc (by unfold toQ;split<;>omega);have uy:∀y,Live C y->y≠p->dB B y=dB A y:=λy hy ne=>CV (K.wA A) T.d (hy.wA A) (by unfold SL;omega);have lvS:∀i,∀y∈ql (pK (C.wA A) s.Q c k p) i,Live C y:=λi y hy=>by
  have:=T.o.lv i y hy;exact⟨⟨this.i,this.own,this.al,this.k⟩,this.tk⟩
 have hpB:=T.mr;have ahE:=O.i.mq _ p Af;rw[cH]at hpB ahE;have vL:∀i,∀y∈ql (pK (C.wA A) s.Q c k p) i,y=p\/y∈ql s.Q i:=λi y hy=>Uv O8 xy hy;refine⟨⟨pK (C.wA A) s.Q c k p,λy=>if y=p then false else s.ac y,s.x.left s.Q p⟩, ?_,rfl,rfl,⟨⟨T.o,T.x,λi y hy=> ?_,λi y hy=> ?_⟩, ?_,λy hy=> ?_,λy=> ?_⟩⟩
 ·unfold rz
  rw[hd];dsimp only;rw[hl];dsimp only;rw[hQ]
 ·show dB B y<16
  by_cases e:y=p
  ·rw[e,hpB];exact lV ahE false
  rw[uy y (lvS i y hy) e];rcases vL i y hy with g|g
  ·exact absurd g e
  exact O.i.mq i y g
 ·show DN B y=if y=p then false else s.ac y
  by_cases e:y=p
  ·rw[if_pos e,e]
   unfold DN;rw[hpB];unfold mkSet;exact decide_eq_false (by simp)
  rw[if_neg e,afY (uy y (lvS i y hy) e)];rcases vL i y hy with g|g
  ·exact absurd g e
  exact O.i.ac i y g
 ·exact O.d.trans (T.d.wA.mono λq o g=>by unfold SL at g;unfold SB;omega)
 ·by_cases e:y=p
  ·rw[e,hpB,<-O.mr p L]
   unfold mkSet;simp
  rw[uy y hy e,O.mr y hy]
 rw[<-O.mem y];constructor
 ·rintro⟨i,hy⟩
  rcases vL i y hy with g|g
  ·exact⟨_,by rw[g];exact Af⟩
  exact⟨i,g⟩
 rintro⟨i,hy⟩;by_cases e:y=p
 ·exact⟨qi c (toQ A p),by rw[e];exact adS O8 xy⟩
 exact⟨i,J3 O8 xy e hy (by rw[<-agp];exact hl)⟩
theorem FZ (a q b qb hot warm cr w:Nat)(dv tv:Value)(C:Cs)(K:Ok C)(s0:mU)(I:BaI C C.A s0)(c:Nat)(hc:c<C.ae.length)(hh:hot<=100)(hw:warm<=100)(jm:Nat)(hl:jm<=1048576):
  aG aaa 91 [Dk a,Dm Dl c,Dm Dl jm,aaH cr] (In (nM a b q hot warm)) [Cl b C,ag q 182 (ij b qb C.ae.length),ag qb 333 (s0.Q.flatMap (cX C)),ik cr q w C.ae.length dv tv C s0.x]
   (λv H=>∃n A t,lD c hot warm jm s0=(n,t)/\v=Dm Dl n/\
     H= [Cl b (C.wA A),ag q 182 (ij b qb C.ae.length),ag qb 333 (t.Q.flatMap (cX C)),ik cr q w C.ae.length dv tv C t.x]/\LL C s0.Q A t):=by
 refine af func91 rfl ntmps91 rfl ?_;rintro F wP;refine cV ?_;refine Lo (ι:=Nat×By×mU) (FN [9,12]) (λs=>LL C s0.Q s.2.1 s.2.2/\s.1<=jm/\lD c hot warm jm s0=(s.1+(lD c hot warm (jm-s.1) s.2.2).1,(lD c hot warm (jm-s.1) s.2.2).2)) (λs=> [(9,Dm Dl s.1)]) (λs=> [Cl b (C.wA s.2.1),ag q 182 (ij b qb C.ae.length),ag qb 333 (s.2.2.Q.flatMap (cX C)),ik cr q w C.ae.length dv tv C s.2.2.x]) (λs=>jm-s.1) ((0,C.A,s0)) ⟨⟨I,cZ.refl _ _ _,λy _=>rfl,λp=>Iff.rfl⟩,abL _,by simp⟩ ?_;rintro⟨n,A,t⟩ hI
 try dsimp only at hI⊢
 obtain⟨B,hn,hb⟩:=hI;by_cases cJ:n<jm
 ·have st:=UO a q b qb hot warm cr w dv tv (C.wA A) (K.wA A) t.Q B.i.o B.i.mq c hc hh hw t.x B.i.x
  rw[Zz B.i]at st;refine bs ?_;refine zt 13 ?_;refine bq ?_;refine Lp (oC Aa rfl rfl (st) (.cons .here (.cons .here (.cons .here (.cons .here .nil)))) (λ_ le ak=>In.mono wP le) ?_);rintro v H' hr;refine bR ?_;rcases hr with⟨hd,rfl,rfl⟩|⟨k,p,A2,hd,vK,rfl,rfl,T⟩
  ·refine Li Pt ?_
   refine dL ?_;refine Rt [Cl b (C.wA A),ag q 182 (ij b qb C.ae.length),ag qb 333 (t.Q.flatMap (cX C)),ik cr q w C.ae.length dv tv C t.x] results91 ?_;have hz:lD c hot warm (jm-n) t=(0,t):=by
    obtain⟨m,hm⟩:∃m,jm-n=m+1:=⟨jm-n-1,by omega⟩;rw[hm];unfold lD;have:rz c hot warm t=none:=by unfold rz;rw[hd]
    rw[this]
   exact⟨n,A,t,by rw[hb,hz];rfl,rfl,rfl,B⟩
  have hk:1<=k/\k<=3:=by
   unfold GM at hd;split at hd
   ·cases hd;omega
   split at hd
   ·cases hd;omega
   split at hd
   ·cases hd;omega
   cases hd
  obtain⟨u,u1,u2,u3,U⟩:=B.step K hc hd hk vK T;have aiT:lD c hot warm jm s0=(n+1+(lD c hot warm (jm-(n+1)) u).1,(lD c hot warm (jm-(n+1)) u).2):=by
   obtain⟨m,hm⟩:∃m,jm-n=m+1:=⟨jm-n-1,by omega⟩;have e:jm-(n+1)=m:=by omega
   have e2:lD c hot warm (m+1) t=((lD c hot warm m u).1+1,(lD c hot warm m u).2):=by
    show(match rz c hot warm t with|none=>_|some v=>_)=_;rw[u1]
   rw[hb,hm,e,e2];exact Prod.ext (by dsimp only;omega) rfl
  rw[<-u2,<-u3];refine dL ?_;refine Ro ((n+1,A2,u)) (⟨U,cJ,aiT⟩) ((by dsimp only;omega))
 obtain rfl:n=jm:=by omega
 refine bs ?_;refine zf 13 ?_;refine rh ?_;refine Rt [Cl b (C.wA A),ag q 182 (ij b qb C.ae.length),ag qb 333 (t.Q.flatMap (cX C)),ik cr q w C.ae.length dv tv C t.x] results91 ?_;exact⟨n,A,t,by rw[hb,Nat.sub_self];rfl,rfl,rfl,B⟩
structure Sy where
 b:Nat
 ck:Nat
 t:Nat
 lu:Nat
 wh:Nat
 cr:Nat
 mo:Nat
 q:Nat
def pV (a:Nat):Value:=Dk a
def iT (y:Sy)(rest:FJ):FJ:=pV y.b::pV y.ck::pV y.t::pV y.lu::pV y.wh::pV y.cr::pV y.mo::pV y.q::rest
def fy (s:Nat)(y:Sy)(rest:FJ):aa:=ag s 96 (iT y rest)
def uD (A:By)(p:Nat):Nat:=rd A (p+16) 8
def rO (A:By)(p:Nat):Nat:=rd A (p+32) 8
def zP (A:By)(k:Ck)(p:Nat):Nat:=if 0<uD A p/\uD A p<=k.now then 2 else if rO A p<=k.cut then 3 else 0
theorem AM (s:Nat)(y:Sy)(rest:FJ)(C:Cs)(K:Ok C)(k:Ck)(p:Nat)(P:gw C (some p)):
  aG aaa 97 [Dk s,Dm Dj (C.hd p)] (λh=>In (fy s y rest) h/\In (Cl y.b C) h/\In (kI y.ck k) h) []
   (λv H=>v=Dm Dl (zP C.A k p)/\H= []):=by
 have L:=(P p rfl).1;have I:=(P p rfl).2;unfold zP uD rO;refine af func97 rfl ntmps97 rfl ?_;rintro F ⟨OZ,cQ,zM⟩;have hs:=OZ;unfold fy iT pV at hs;refine bB ?_;refine zl Aa (II y.b C K p L I.k0 I.exp) .nil (λ_ le _=>In.mono cQ le) ?_;refine gJ ?_;refine zl Aa (A8 y.b C K p L I.k0) .nil (λ_ le _=>In.mono cQ le) ?_;generalize rd C.A (p+16) 8=e at*;generalize rd C.A (p+32) 8=tk at*;refine cV ?_;refine av ?_;refine gT true mix ?_;refine bK ?_;refine Tp (oZ (Aa (n:=38)) (kB y.ck k) .nil (λ_ le _=>In.mono zM le) ?_);refine bn ?_;refine Tp (oZ (Aa (n:=150)) (VQ y.ck k) .nil (λ_ le _=>In.mono zM le) ?_);refine Tp (oZ (Aa (n:=149)) (ZE e tk k.now k.cut) .nil Di ?_);by_cases h1:0<e/\e<=k.now
 ·rw[decide_eq_true (.inl h1),if_pos h1]
  refine Ti Nt ?_;refine bK ?_;refine zt 49 ?_;refine bs ?_;refine zl Aa (kB y.ck k) .nil (λ_ le _=>In.mono zM le) ?_;refine bc ?_;refine fe ?_;refine bs ?_;refine Rt [] results97 ?_;exact⟨rfl,rfl⟩
 rw[if_neg h1];by_cases h2:tk<=k.cut
 ·rw[decide_eq_true (.inr h2),if_pos h2]
  refine Ti Nt ?_;refine bq ?_;by_cases h3:0<e
  ·refine gK ?_
   refine bq ?_;refine zt 49 ?_;refine bs ?_;refine zl Aa (kB y.ck k) .nil (λ_ le _=>In.mono zM le) ?_;refine bc ?_;refine cN ?_;refine bK ?_;refine Rt [] results97 ?_;exact⟨rfl,rfl⟩
  refine gK ?_;refine bq ?_;refine zf 49 ?_;refine Lu ?_;refine Rt [] results97 ?_;exact⟨rfl,rfl⟩
 rw[decide_eq_false (λg=>g.elim h1 h2),if_neg h2];refine Ti Nt ?_;refine cA ?_;refine Rt [] results97 ?_;exact⟨rfl,rfl⟩
theorem EI (s:Nat)(y:Sy)(rest:FJ)(C:Cs)(K:Ok C)(k:Ck)(p:Nat)(P:gw C (some p)):
  aG aaa 48 [Dk s,Dm Dj (C.hd p)] (λh=>In (fy s y rest) h/\In (Cl y.b C) h/\In (kI y.ck k) h) []
   (λv H=>v= .bool (decide (zP C.A k p≠0))/\H= []):=by
 refine af func48 rfl ntmps48 rfl ?_;rintro F ⟨OZ,cQ,zM⟩;refine bs ?_;refine zl Aa (AM s y rest C K k p P) .nil (λ_ le _=>⟨In.mono OZ le,In.mono cQ le,In.mono zM le⟩) ?_;refine bc ?_;refine Rt [] results48 ?_;refine⟨?_,rfl⟩;by_cases h:zP C.A k p=0
 ·rw[h];rfl
 rw[decide_eq_true h,Ab];rfl
theorem EH (s:Nat)(y:Sy)(rest:FJ)(C:Cs)(K:Ok C)(p:Nat)(P:gw C (some p))(hk:kl C.A p<=250):
  aG aaa 187 [Dk s,Dm Dj (C.hd p)] (λh=>In (fy s y rest) h/\In (Cl y.b C) h) []
   (λv H=>v=Dm Dl (58+kl C.A p+vl C.A p:Nat)/\H= []):=by
 have L:=(P p rfl).1;have I:=(P p rfl).2;have k0:=I.k0;have hf:=I.fits;have n1:=L.toAt.ba K;have p1:=K.p1;refine af func187 rfl ntmps187 rfl ?_;rintro F ⟨OZ,cQ⟩;have hs:=OZ;unfold fy iT pV at hs;refine bB ?_;refine zl Aa (wb y.b C K p L I.k0) .nil (λ_ le _=>In.mono cQ le) ?_;refine bP ?_;refine zl Aa (E7 (kl C.A p) (vl C.A p) (by omega) (by omega)) .nil Di ?_;refine bP ?_;refine Rt [] results187 ?_;exact⟨rfl,rfl⟩
structure vF (C D:Cs)(S:Nat->Prop):Prop where
 a:D.A=C.A
 sz:D.ae=C.ae
 lv:∀q,S q->Live C q->Live D q/\D.hd q=C.hd q/\D.cl q=C.cl q
theorem vF.it{C D:Cs}{S:Nat->Prop}(M:vF C D S){q:Nat}(s:S q)(L:Live C q)(I:gD C q):gD D q:=by
 obtain⟨_,_,e⟩:=M.lv q s L;have hz:D.sz (D.cl q)=C.sz (C.cl q):=by rw[e];unfold Cs.sz;rw[M.sz]
 exact⟨by rw[M.a];exact I.k0,by rw[M.a,hz];exact I.fits,by rw[M.a];exact I.exp,by rw[M.a];exact I.tch⟩
theorem vF.qu{C D:Cs}{S:Nat->Prop}(M:vF C D S){Q:F7}(O:iV C Q)(h:∀i,∀p∈ql Q i,S p):iV D Q:=
 ⟨by rw[M.sz];exact O.len,λi p hp=>(M.lv p (h i p hp) (O.lv i p hp)).1,λi p hp=>M.it (h i p hp) (O.lv i p hp) (O.it i p hp),λi p hp=>by
  rw[M.a,(M.lv p (h i p hp) (O.lv i p hp)).2.2];exact O.st i p hp,O.nd,λi k hk=>by rw[M.a];exact O.l1 i k hk,λi k hk=>by rw[M.a];exact O.l2 i k hk⟩
theorem vF.tb{C D:Cs}{S:Nat->Prop}(M:vF C D S){W:Tb}(O:dt C W)(h:∀p∈W.all,S p):dt D W:=
 ⟨O.pw,O.po,O.st,O.mp,O.sz,O.PG,O.sm,O.mv,O.n,O.nd,λx=>by rw[M.a];exact O.li x,λp hp=>(M.lv p (h p hp) (O.lv p hp)).1,λp hp=>M.it (h p hp) (O.lv p hp) (O.it p hp),
  λx p hp=>by rw[M.a];exact O.bu x p hp,λp hp q hq e=>O.kd p hp q hq (by rw[M.a]at e;exact e)⟩
theorem vF.ls{C D:Cs}{S:Nat->Prop}(M:vF C D S){Q:F7}(O:iV C Q)(h:∀i,∀p∈ql Q i,S p):Q.flatMap (cX D)=Q.flatMap (cX C):=by
 have one:∀l,(∀p∈l,S p/\Live C p)->cX D l=cX C l:=λl hl=>by
  have ho:∀o:FK,(∀p,o=some p->p∈l)->hO D o=hO C o:=λo hp=>by
   cases o with
   |none=>rfl
   |some p=>
    have:=hl p (hp p rfl);rw[bZ,bZ,(M.lv p this.1 this.2).2.1]
  have h1:=ho l.head? (λp e=>abY e);have h2:=ho l.getLast? (λp e=>age e);show [Value.int .u64 (hO D l.head?:Int),Value.int .u64 (hO D l.getLast?:Int),Value.int .i64 (l.length:Int)]= [Value.int .u64 (hO C l.head?:Int),Value.int .u64 (hO C l.getLast?:Int),Value.int .i64 (l.length:Int)];generalize hO D l.head?=x1 at*;generalize hO D l.getLast?=x2 at*;subst h1;subst h2;rfl
 have:∀(R:F7),(∀l∈R,∀p∈l,S p/\Live C p)->R.flatMap (cX D)=R.flatMap (cX C):=λR hR=>by
  induction R with
  |nil=>rw[akC,akC]
  |cons l R ih=>rw[agz,agz,one l (hR l aag),ih λm hm=>hR m (aai _ hm)]
 refine this Q λl hl p hp=> ?_;obtain⟨i,hi,e⟩:=abS hl;have e2:ql Q i=l:=by unfold ql;rw[aab,aac hi,e];rfl
 rw[<-e2]at hp;exact⟨h i p hp,O.lv i p hp⟩
theorem vF.cw{C D:Cs}{S:Nat->Prop}(M:vF C D S){Q:F7}(O:iV C Q)(h:∀i,∀p∈ql Q i,S p){n:Nat}{x:Cw}(X:db n Q x)(q w m:Nat)(dv tv:Value):pE q w m dv tv D x=pE q w m dv tv C x:=by
 have:hO D x.nx=hO C x.nx:=by
  cases e:x.nx with
  |none=>rfl
  |some p=>
   have hp:=(X.nx p e).1;rw[bZ,bZ,(M.lv p (h _ p hp) (O.lv _ p hp)).2.1]
 unfold pE;rw[this]
theorem jz{C:Cs}(K:Ok C){p:Nat}(L:Live C p):vF C (C.aL p) (λq=>q≠p):=by
 obtain⟨K2,S⟩:=gR K L;have hpl:C.pn p<C.bm.length:=by rw[K.pl];exact L.i
 have iF:=λj=>kO (C:=C) (c:=C.cl p) (sp:=C.spare) (x:={C.pg (C.pn p)with tk:=(C.pg (C.pn p)).tk.set (C.ix p) false,held:=(C.pg (C.pn p)).held-1,aX:=(C.pg (C.pn p)).aX.set (C.ix p) ((C.gen p+1) % 4294967296)}) (r:={C.rw (C.cl p)with free:=if(C.pg (C.pn p)).lv=true then(C.rw (C.cl p)).free else(C.rw (C.cl p)).free++ [p],ct:=(C.rw (C.cl p)).ct-1}) (A:=C.A) hpl j;refine⟨rfl,rfl,λq ne M=> ?_⟩;have ecl:=S.cl q;have eix:=S.ix q;have epn:=S.pn q;have key:((C.aL p).pg (C.pn q)).tk[C.ix q]?=(C.pg (C.pn q)).tk[C.ix q]?/\((C.aL p).pg (C.pn q)).aX.getD (C.ix q) 0=(C.pg (C.pn q)).aX.getD (C.ix q) 0/\((C.aL p).pg (C.pn q)).own=(C.pg (C.pn q)).own/\((C.aL p).pg (C.pn q)).aX.length=(C.pg (C.pn q)).aX.length:=by
  have h:=iF (C.pn q);change(C.aL p).pg (C.pn q)=_ at h;rw[h];by_cases e:C.pn q=C.pn p
  ·have fQ:C.ix p≠C.ix q:=λg=>ne (by
    have h1:=(L.toAt.ba K).2.2.2.2.2.1;have h2:=(M.toAt.ba K).2.2.2.2.2.1;have hc:C.cl q=C.cl p:=by unfold Cs.cl;rw[e]
    rw[h1,h2,e,hc,g])
   rw[if_pos e,e];refine⟨?_, ?_,rfl,by simp⟩
   ·show((C.pg (C.pn p)).tk.set (C.ix p) false)[C.ix q]?=_
    rw[abX fQ]
   show((C.pg (C.pn p)).aX.set (C.ix p) _).getD (C.ix q) 0=_;rw[aab,aab,abX fQ]
  rw[if_neg e];exact⟨rfl,rfl,rfl,rfl⟩
 obtain⟨k1,k2,k3,k4⟩:=key;have e1:(C.aL p).pg ((C.aL p).pn q)=(C.aL p).pg (C.pn q):=by rw[epn]
 refine⟨⟨⟨by rw[epn];exact M.i,by rw[e1,k3];exact M.own, ?_,by rw[eix,e1,k4];exact M.k⟩,by rw[eix,e1,k1];exact M.tk⟩, ?_,ecl⟩
 ·rw[ecl,S.sz];exact M.al
 unfold Cs.hd Cs.gen;rw[eix,e1,k2]
structure Sv where
 c:ra
 p:pD
 aQ:Nat
 fB:Nat
 mt:Mt
 wa:FL
 wn:Nat
 wc:Nat
def iZ (z:Int):Value:=Dm Dl z
def fg (v:Sv):FJ:= [iZ v.c.ao,iZ v.c.bA,iZ v.c.iG,iZ v.c.eI,iZ v.c.lim,iZ v.c.hot,iZ v.c.warm,iZ v.p.b,iZ v.p.l,iZ v.p.c,iZ v.p.m,Dm Dj v.aQ,Dm Dl v.fB,iZ v.mt.dr,iZ v.mt.re,iZ v.mt.bu,iZ v.mt.li,iZ v.mt.lo,iZ v.mt.cr,iZ v.mt.mv, .slice v.wa v.wn v.wc]
theorem CZ{n:Nat}{Q:F7}{x:Cw}(X:db n Q x)(nd:∀i,(ql Q i).Nodup){i k p:Nat}(hi:i<Q.length)(hk:(ql Q i)[k]?=some p):db n (Q.set i ((ql Q i).eraseIdx k)) (x.left Q p):=by
 have L:=X.left p;refine⟨L.go,L.no,λq hq=> ?_,L.lf⟩;obtain⟨h1,h2⟩:=L.nx q hq;have ne:q≠p:=λe=>by
  subst e;unfold Cw.left at hq;split at hq
  ·next g=>
   have hp:=(X.nx q g).1;unfold Cw.pass at hq;rw[g]at hq;dsimp only at hq;split at hq
   ·exact SY (nd _) hp hq
   cases hq
  next g=>exact g hq
 refine⟨?_,h2⟩;rw[fL hi];split
 ·next e=>
  rw[e]at h1;rw[ajQ];obtain⟨v,hv,ev⟩:=abS h1;refine⟨v,λg=>ne ?_,aad.2 ⟨hv,ev⟩⟩;have h1:(ql Q i)[k]?=some q:=by rw[<-g];exact aad.2 ⟨hv,ev⟩
  rw[hk]at h1;exact(Option.some.inj h1).symm
 exact h1
structure abx (C:Cs)(p:Nat)(A:By)(Q:F7)(x:Cw):Prop where
 k:Ok ((C.wA A).aL p)
 s:vF (C.wA A) ((C.wA A).aL p) (λq=>q≠p)
 o:iV ((C.wA A).aL p) Q
 d:cZ C C.A A (SQ p)
 x:db C.ae.length Q x
 no:∀i,p∉ql Q i
theorem JK (s qb hot warm:Nat)(dv tv:Value)(y:Sy)(v:Sv)(C:Cs)(K:Ok C)(Q:F7)(O:iV C Q)(x:Cw)(X:db C.ae.length Q x)(E:List En)(tn i k p:Nat)(hk:(ql Q i)[k]?=some p)(GL:kl C.A p<=250)(hb:58+kl C.A p+vl C.A p<=v.fB)(hbm:v.fB<4611686018427387904):
  aG aaa 131 [Dk s,Dm Dj (C.hd p)] (In (nM y.lu y.b y.q hot warm)) [Cl y.b C,ag y.q 182 (ij y.b qb C.ae.length),ag qb 333 (Q.flatMap (cX C)),ik y.cr y.q y.wh C.ae.length dv tv C x,Wl y.wh E tn,fy s y (fg v)]
   (λr H=>r= .tuple #[]/\∃A,H= [Cl y.b ((C.wA A).aL p),ag y.q 182 (ij y.b qb C.ae.length),ag qb 333 ((Q.set i ((ql Q i).eraseIdx k)).flatMap (cX ((C.wA A).aL p))),ik y.cr y.q y.wh C.ae.length dv tv ((C.wA A).aL p) (x.left Q p),Wl y.wh (fb E (C.hd p)) tn,fy s y (fg {v with fB:=v.fB-(58+kl C.A p+vl C.A p)})]/\
    abx C p A (Q.set i ((ql Q i).eraseIdx k)) (x.left Q p)):=by
 have hpl:=aaf hk;have P:gw C (some p):=O.Gq (i:=i) λz hz=>by cases hz;exact hpl
 have L:=(P p rfl).1;have cJ:=(aad.1 hk).1;have hi:i<Q.length:=by
  have h:=O.st i p hpl;have:=mW O (L.toAt.ba K).1 ⟨h.1,h.2.1⟩;rw[<-h.2.2]at this;exact this
 have X2:=CZ X O.nd hi hk;have lf:=FB y.cr y.q y.wh C.ae.length y.b qb dv tv C K Q O x X p L;generalize Z1:x.left Q p=x2 at*;unfold fy iT pV fg iZ;refine af func131 rfl ntmps131 rfl ?_;rintro F hl;refine bK ?_;refine zl Aa (lf) (.cons (.t3 .here) .nil) (λ_ le ak=>⟨ak.nth 0 rfl,ak.nth 1 rfl,ak.nth 2 rfl,trivial⟩) ?_;refine cV ?_;refine Lp (oC Aa rfl rfl (MM y.lu y.q y.b qb hot warm C K Q O i k p hk) (.cons (.there .here) (.cons (.there .here) (.cons (.there .here) .nil))) (λ_ le _=>In.mono hl le) ?_);rintro v H' ⟨rfl,A,rfl,D⟩;refine bR ?_;refine cV ?_;refine zl Aa (V6 y.wh E tn (C.hd p)) (.cons (.t4 .here) .nil) Di ?_;have P2:gw (C.wA A) (some p):=mY K D.d P (λ_ _ _ s=>s.nX);have kp:=sf K D.d L.toAt (P p rfl).2 (λ_ s=>s.nX);have sz:=EH s y (fg v) (C.wA A) (K.wA A) p P2 (by rw[cH,kp.kl];exact GL);rw[cH,kp.kl,kp.vl]at sz;have L2:Live (C.wA A) p:=L.wA A;obtain⟨G1,G2⟩:=gR (K.wA A) L2;have S:=jz (K.wA A) L2;have mc:∀j,∀z∈ql (Q.set i ((ql Q i).eraseIdx k)) j,z≠p:=λj z hz e=>D.no j (e▸hz);have els:=S.ls D.o mc;have ecr:=S.cw D.o mc X2 y.q y.wh C.ae.length dv tv;generalize hz:58+kl C.A p+vl C.A p=z at*;generalize hQ2:Q.set i ((ql Q i).eraseIdx k)=Q2 at*;refine aw ?_;refine av ?_;refine iU 8 mix (.cons (.t4 (.there .here)) (.cons (.there .here) .nil)) λF1 jD bV aI=> ?_;obtain⟨q1,q2,_⟩:=bV;refine bs ?_;refine Tp (oZ (Aa (n:=187)) (sz) .nil (λ_ le ak=>⟨In.mono q1 le,In.mono q2 le⟩) ?_);refine aw ?_;refine gI aI ?_;refine bP ?_;refine zl Aa (Ks y.b (C.wA A) (K.wA A) p L2) (.cons (.there .here) .nil) Di ?_;refine aD ?_;have e:((v.fB-z:Nat):Int)=(v.fB:Int)-(z:Int):=by omega
 refine jU [Cl y.b ((C.wA A).aL p),ag y.q 182 (ij y.b qb C.ae.length),ag qb 333 (Q2.flatMap (cX (C.wA A))),ag y.cr 137 (pE y.q y.wh C.ae.length dv tv (C.wA A) x2),Wl y.wh (fb E (C.hd p)) tn,ag s 96 (iT y [iZ v.c.ao,iZ v.c.bA,iZ v.c.iG,iZ v.c.eI,iZ v.c.lim,iZ v.c.hot,iZ v.c.warm,iZ v.p.b,iZ v.p.l,iZ v.p.c,iZ v.p.m,Dm Dj v.aQ,Dm Dl ((v.fB:Int)-(z:Int)),iZ v.mt.dr,iZ v.mt.re,iZ v.mt.bu,iZ v.mt.li,iZ v.mt.lo,iZ v.mt.cr,iZ v.mt.mv, .slice v.wa v.wn v.wc])] results131 ?_;refine⟨rfl,A, ?_,G1,S,S.qu D.o mc,D.d,X2,D.no⟩;unfold ik;rw[els,ecr,<-e];rfl
theorem S04{q o:Nat}{S:FH}(h:q∈S/\0<=o/\o<0+4):mh o/\(o<4\/12<=o)/\o≠45:=by
 unfold mh;omega
structure ah2 (C:Cs)(p:Nat)(D:Cs)(V:Tb)(Q:F7)(x:Cw):Prop where
 k:Ok D
 t:dt D V
 o:iV D Q
 x:db C.ae.length Q x
 s:vF (C.wA D.A) D (λq=>q≠p)
 d:cZ C C.A D.A (λ_ o=>o<12\/o=45)
 no:∀i,p∉ql Q i
 g:D=(C.aL p).wA D.A
theorem TV (s qb hot warm:Nat)(dv tv:Value)(y:Sy)(v:Sv)(C:Cs)(K:Ok C)(W:Tb)(ty:pq)(TO:dt C W)(hy:ty.ok=none->W.ob= [])(Q:F7)(O:iV C Q)(x:Cw)(X:db C.ae.length Q x)(E:List En)(tn i k p:Nat)(hp:p∈W.all)(hk:(ql Q i)[k]?=some p)(GL:kl C.A p<=250)(hb:58+kl C.A p+vl C.A p<=v.fB)(hbm:v.fB<4611686018427387904):
  aG aaa 85 [Dk s,Dm Dj (C.hd p)] (In (nM y.lu y.b y.q hot warm)) (Cl y.b C::mM y.t y.b W ty++ [ag y.q 182 (ij y.b qb C.ae.length),ag qb 333 (Q.flatMap (cX C)),ik y.cr y.q y.wh C.ae.length dv tv C x,Wl y.wh E tn,fy s y (fg v)])
   (λr H=>r= .tuple #[]/\∃D V ty',H=Cl y.b D::mM y.t y.b V ty'++ [ag y.q 182 (ij y.b qb C.ae.length),ag qb 333 ((Q.set i ((ql Q i).eraseIdx k)).flatMap (cX D)),ik y.cr y.q y.wh C.ae.length dv tv D (x.left Q p),Wl y.wh (fb E (C.hd p)) tn,fy s y (fg {v with fB:=v.fB-(58+kl C.A p+vl C.A p)})]/\
    (ty'.ok=none->V.ob= [])/\W.all.Perm (p::V.all)/\ah2 C p D V (Q.set i ((ql Q i).eraseIdx k)) (x.left Q p)/\∃A,HV C W p A V):=by
 have at_:∀q∈W.all,At C q:=λq hq=>(TO.lv q hq).toAt;unfold fy iT pV;refine af func85 rfl ntmps85 rfl ?_;rintro F hl;unfold mM;refine bK ?_;refine Lp (oC Aa rfl rfl (TB y.t y.b C K W ty TO hy p hp) (.cons .here (.cons .here (.cons .here (.cons .here .nil)))) Di ?_);rintro v H' ⟨rfl,A,V,ty',rfl,hy',TK⟩;refine bR ?_;have hpl:=aaf hk;have L:=O.lv i p hpl;have dP:=vQ TK.df at_ (λq hq=>by have:=((at_ q hq).ba K).2.1;omega);have kp:=sf K dP L.toAt (O.it i p hpl) (λj g=>(S04 g).1);have O1:=Lw K O dP (λj q hq u g=>S04 g);have off:=JK s qb hot warm dv tv y v (C.wA A) (K.wA A) Q O1 x X E tn i k p hk (by rw[cH,kp.kl];exact GL) (by rw[cH,kp.kl,kp.vl];exact hb) hbm;rw[cH,kp.kl,kp.vl]at off;have nd2:=(TK.pm.nodup_iff).2 TO.nd;have hnV:∀q∈V.all,q≠p:=λq hq e=>(List.nodup_cons.1 nd2).1 (e▸hq);refine bc ?_;refine Lp (oC Aa rfl rfl (off) (.cons .here (.cons (.t3 .here) (.cons (.t3 .here) (.cons (.t3 .here) (.cons (.t3 .here) (.cons (.t3 .here) .nil)))))) (λ_ le _=>In.mono hl le) ?_);rintro v H' ⟨rfl,B,rfl,OF⟩;refine bR ?_;have T2:=GD (K.wA A) TK.o OF.d (λq _ j g=>⟨g.nX,by unfold SQ at g;omega⟩);have T3:=OF.s.tb T2 hnV;refine aD ?_;refine jU [Cl y.b (((C.wA A).wA B).aL p),ag y.t 154 (gE y.b V ty'),ag ty'.nk 149 (aS (aF V.nb)),nL ty'.ok 149 (aS (aF V.ob)),ag y.q 182 (ij y.b qb C.ae.length),ag qb 333 ((Q.set i ((ql Q i).eraseIdx k)).flatMap (cX (((C.wA A).wA B).aL p))),ik y.cr y.q y.wh C.ae.length dv tv (((C.wA A).wA B).aL p) (x.left Q p),Wl y.wh (fb E (C.hd p)) tn,fy s y (fg {v with fB:=v.fB-(58+kl C.A p+vl C.A p)})] results85 ?_;refine⟨rfl,((C.wA A).wA B).aL p,V,ty',rfl,hy',TK.pm.symm,⟨OF.k,T3,OF.o,OF.x,OF.s, ?_,OF.no,rfl⟩,A,TK⟩;exact(dP.mono λq o g=>by omega).trans (OF.d.wA.mono λq o g=>by unfold SQ at g;omega)
theorem ZI:∀m:Nat,m<16->gh .or .i64 (m:Int) 8=some ((m % 8+8:Nat):Int):=by decide+kernel
theorem VU:∀m:Nat,m<16->gh .andNot .i64 (m:Int) 6=some ((m-m/2 % 4*2:Nat):Int):=by decide+kernel
theorem ZJ:∀m:Nat,m<16->∀k:Nat,k<4->gh .or .i64 ((m-m/2 % 4*2:Nat):Int) ((k*2:Nat):Int)=some ((m-m/2 % 4*2+k*2:Nat):Int):=by decide+kernel
def acd (A:By)(p now:Nat):By:=wr (wr (wv A p true) (p+46) 1 (mkSet (dB A p) true % 8+8)) (p+24) 8 now
def Ri (A:By)(p k:Nat):By:=wr A (p+46) 1 (dB A p-dB A p/2 % 4*2+k*2)
theorem Mm (s:Nat)(y:Sy)(rest:FJ)(C:Cs)(K:Ok C)(p k:Nat)(hk4:k<4)(P:gw C (some p))(hm:dB C.A p<16):
  aG aaa 127 [Dk s,Dm Dj (C.hd p),Dm Dl (k*2:Nat)] (In (fy s y rest)) [Cl y.b C]
   (λv H=>v= .tuple #[]/\H= [Cl y.b (C.wA (Ri C.A p k))]):=by
 have L:=(P p rfl).1;have k0:=P.kl p rfl;have h6:=VU _ hm;have ho:=ZJ _ hm k hk4;unfold Ri;unfold dB at*;refine af func127 rfl ntmps127 rfl ?_;intro F OZ;have hs:=OZ;unfold fy iT pV at hs;refine bK ?_;refine zl Aa (qQ y.b C K p L k0) .nil (λ_ le ak=>ak.1) ?_;generalize rd C.A (p+46) 1=m at*;refine lx ?_;refine aA (t:=25) (v':=(Dm Dl (m-m/2 % 4*2:Nat))) rfl (by exact congrArg (λx=>Value.int .i64 (x.getD 0)) h6) ?_;refine bd ?_;refine aA (t:=27) (v':=(Dm Dl (m-m/2 % 4*2+k*2:Nat))) rfl (by exact congrArg (λx=>Value.int .i64 (x.getD 0)) ho) ?_;refine zl Aa (k9 y.b C K p (m-m/2 % 4*2+k*2) (by omega) L k0) (.cons .here .nil) Di ?_;refine aD ?_;refine jU [Cl y.b (C.wA (wr C.A (p+46) 1 (m-m/2 % 4*2+k*2)))] results127 ?_;exact⟨rfl,rfl⟩
theorem XY (s hot warm:Nat)(y:Sy)(rest:FJ)(C:Cs)(K:Ok C)(k:Ck)(CK:sS k)(p:Nat)(P:gw C (some p))(hm:dB C.A p<16)(fA:1<=gz C.A p/\gz C.A p<=3):
  aG aaa 122 [Dk s,Dm Dj (C.hd p)] (λh=>In (fy s y rest) h/\In (nM y.lu y.b y.q hot warm) h/\In (kI y.ck k) h) [Cl y.b C]
   (λv H=>v= .tuple #[]/\H= [Cl y.b (C.wA (acd C.A p k.now))]):=by
 have L:=(P p rfl).1;have k0:=P.kl p rfl;have hn:=CK.n2;have hm2:=lV hm true;have h8:=ZI _ hm2;have d1:=Xc K C.A L true;have P1:gw (C.wA (wv C.A p true)) (some p):=mY K d1 P (λ_ _ _ g=>g.nX);have uy:dB (wv C.A p true) p=mkSet (dB C.A p) true:=by
  rw[Jg K C.A L L,if_pos rfl];omega
 have P2:gw (C.wA (wr (wv C.A p true) (p+46) 1 (mkSet (dB C.A p) true % 8+8))) (some p):=by
  have w:cZ (C.wA (wv C.A p true)) (wv C.A p true) (wr (wv C.A p true) (p+46) 1 (mkSet (dB C.A p) true % 8+8)) (SM p):=xE _ (P1 p rfl).1.toAt (by have:=(L.toAt.ba K).2.1;show 46+1<=C.sz (C.cl p);omega) λj h1 h2=>⟨by omega,rfl⟩;exact mY (K.wA _) w P1 (λ_ _ _ g=>g.nX)
 have im:=qQ y.b (C.wA (wv C.A p true)) (K.wA _) p (P1 p rfl).1 (P1.kl p rfl);change aG _ _ _ _ _ (λv H=>v= .tuple #[Dm Dl (dB (wv C.A p true) p:Nat),Dm Dl 0]/\H= [])at im;rw[uy]at im;unfold acd;generalize hmm:mkSet (dB C.A p) true=m at*;refine af func122 rfl ntmps122 rfl ?_;rintro F ⟨OZ,hl,zM⟩;have hs:=OZ;unfold fy iT pV at hs;refine bK ?_;refine zl Aa (Y4 y.lu y.b y.q hot warm C K p L k0 hm fA) (.cons .here .nil) (λ_ le _=>In.mono hl le) ?_;refine cV ?_;refine zl Aa (im) .nil (λ_ le ak=>ak.1) ?_;refine lx ?_;refine aA (t:=30) (v':=(Dm Dl (m % 8+8:Nat))) rfl (by exact congrArg (λx=>Value.int .i64 (x.getD 0)) h8) ?_;refine zl Aa (k9 y.b (C.wA (wv C.A p true)) (K.wA _) p (m % 8+8) (by omega) (P1 p rfl).1 (P1.kl p rfl)) (.cons .here .nil) Di ?_;refine aw ?_;refine gT true mix ?_;refine bP ?_;refine Tp (oZ (Aa (n:=38)) (kB y.ck k) .nil (λ_ le _=>In.mono zM le) ?_);refine Tp (oZ (Aa (n:=177)) (zx y.b (C.wA (wr (wv C.A p true) (p+46) 1 (m % 8+8))) (K.wA _) p k.now (by omega) (P2 p rfl).1 (P2.kl p rfl)) (.cons .here .nil) Di ?_);refine Tn ?_;refine jU [Cl y.b (C.wA (wr (wr (wv C.A p true) (p+46) 1 (m % 8+8)) (p+24) 8 k.now))] results122 ?_;exact⟨rfl,rfl⟩
def dq (now:Nat)(t:Int):Nat:=(LG now t).toNat
theorem Fq (now:Nat)(t:Int):LG now t=(dq now t:Int):=by
 unfold dq LG;split
 ·rfl
 split
 ·omega
 ·split<;>omega
theorem Db (now:Nat)(t:Int)(h:now<=1099511627776)(ht:t<9223372036854775808):dq now t<9223372036854775808:=by
 unfold dq LG;split
 ·decide
 split
 ·omega
 ·split<;>omega
theorem Ml (s:Nat)(y:Sy)(rest:FJ)(C:Cs)(K:Ok C)(k:Ck)(CK:sS k)(p:Nat)(P:gw C (some p))(E:List En)(tn:Nat)(t:Int)(ht:t<9223372036854775808)(vD:tn<18446744073709551615)(hE:E.length<2147483647):
  aG aaa 121 [Dk s,Dm Dj (C.hd p),Dm Dl t] (λh=>In (fy s y rest) h/\In (kI y.ck k) h) [Cl y.b C,Wl y.wh E tn]
   (λv H=>v= .tuple #[]/\H= [Wl y.wh (lz E (C.hd p) (dq k.now t) tn) (if 0<dq k.now t then tn+1 else tn),Cl y.b (C.wA (wr C.A (p+16) 8 (dq k.now t)))]):=by
 have L:=(P p rfl).1;have k0:=P.kl p rfl;have hx:=Db k.now t CK.n2 ht;have ex:=Bg k.now t CK.n1 CK.n2;rw[Fq]at ex;generalize dq k.now t=e at*;refine af func121 rfl ntmps121 rfl ?_;rintro F ⟨OZ,zM⟩;have hs:=OZ;unfold fy iT pV at hs;refine bs ?_;refine zl Aa (kB y.ck k) .nil (λ_ le _=>In.mono zM le) ?_;refine aw ?_;refine zl Aa (ex) .nil Di ?_;refine bB ?_;refine zl Aa (ak4 y.b C K p e hx L k0) (.cons .here .nil) Di ?_;refine cA ?_;refine zl Aa (KV y.wh E tn (C.hd p) e vD hE) (.cons (.there .here) .nil) Di ?_;refine aD ?_;refine jU [Wl y.wh (lz E (C.hd p) e tn) (if 0<e then tn+1 else tn),Cl y.b (C.wA (wr C.A (p+16) 8 e))] results121 ?_;exact⟨rfl,rfl⟩
structure gp where
 un:FH
 st:Nat
 pg:Nat
 fr:Nat
 tt:Nat
 on:Bool
def Du (b ub:Nat)(dv tv sv:Value)(m:gp):FJ:= [Dk b,dv,tv,sv, .slice (some ⟨ub,0,none⟩) m.un.length m.un.length,Dm Dl m.st,Dm Dl m.pg,Dm Dl m.fr,Dm Dl m.tt, .bool m.on]
def mN (a b ub:Nat)(dv tv sv:Value)(m:gp):aa:=ag a 220 (Du b ub dv tv sv m)
def kF (ub:Nat)(m:gp):aa:=ag ub 3 (aY m.un)
def gp.jr (m:gp)(c:Nat):gp:={m with un:=m.un.set c (m.st+64)}
def gp.cD (m:gp)(c:Nat):Bool:=decide (m.st<m.un.getD c 0)
theorem adR{l:FH}{c:Nat}(h:c<l.length):(aY l)[c]?=some (Dm Dl (l.getD c 0)):=by
 unfold aY;rw[List.getElem?_map,aab,aac h];rfl
theorem YI (l:FH)(c v:Nat):(aY l).set c (Dm Dl v)=aY (l.set c v):=by
 unfold aY;rw[List.map_set]
theorem FU (a b ub:Nat)(dv tv sv:Value)(m:gp)(c:Nat)(hc:c<m.un.length):
  aG aaa 198 [Dk a,Dm Dl c] (λh=>In (mN a b ub dv tv sv m) h/\In (kF ub m) h) []
   (λv H=>v= .bool (m.cD c)/\H= []):=by
 have xA:=adR hc;unfold gp.cD mN Du kF;refine af func198 rfl ntmps198 rfl ?_;rintro F ⟨hm,hu⟩;have hr:gF F.h (some ⟨ub,0,none⟩) (aY m.un):=jN hu;refine bq ?_;refine av ?_;refine gT false mix ?_;refine cA ?_;refine Ti (Ix rA) ?_;refine bn ?_;refine Rt [] results198 ?_;exact⟨congrArg Value.bool (decide_eq_decide.2 (by omega)),rfl⟩
theorem FV (a b ub:Nat)(dv tv sv:Value)(m:gp)(c:Nat)(hc:c<m.un.length)(fA:m.st<4611686018427387904):
  aG aaa 185 [Dk a,Dm Dl c] (In (mN a b ub dv tv sv m)) [kF ub m]
   (λv H=>v= .tuple #[]/\H= [kF ub (m.jr c)]):=by
 have hl:=ib m.un;have DW:=YI m.un c (m.st+64);unfold gp.jr mN Du kF;refine af func185 rfl ntmps185 rfl ?_;intro F hm;refine bc ?_;refine zt 6 ?_;refine cA ?_;refine fe ?_;refine gT false mix ?_;refine dL ?_;refine Tn ?_;refine jU [ag ub 3 ((aY m.un).set c (Dm Dl ((m.st:Int)+64)))] results185 ?_;exact⟨rfl,by rw[<-DW];rfl⟩
def gp.off (m:gp):gp:={m with pg:=0,fr:=0,tt:=0,on:=false}
theorem IG (a b ub:Nat)(dv tv sv:Value)(m:gp)(c:Nat)(h:¬(m.on=true/\m.fr=c)):
  aG aaa 183 [Dk a,Dm Dl c] (In (mN a b ub dv tv sv m)) []
   (λv H=>v= .bool false/\H= []):=by
 unfold mN Du;refine af func183 rfl ntmps183 rfl ?_;intro F hm;rcases ho:m.on with _|_
 ·rw[ho]at hm
  refine dL ?_;refine zt 11 ?_ (e:=by rfl);refine lx ?_;refine Rt [] results183 ?_;exact⟨rfl,rfl⟩
 rw[ho]at hm;refine dL ?_;refine zf 11 ?_ (e:=by rfl);refine cA ?_;refine fe ?_ (e:=by exact congrArg (!·) (decide_eq_false (λg=>h ⟨ho,by omega⟩)));refine bn ?_;refine Rt [] results183 ?_;exact⟨rfl,rfl⟩
theorem UD (a b ub:Nat)(dv tv sv:Value)(C:Cs)(K:Ok C)(m:gp)(c:Nat)(ho:m.on=true)(hf:m.fr=c)(hi:m.pg<C.n)(hw:(C.pg m.pg).own=true)(hl:(C.pg m.pg).lv=true):
  aG aaa 183 [Dk a,Dm Dl c] uT [mN a b ub dv tv sv m,Cl b C]
   (λv H=>v= .bool true/\H= [mN a b ub dv tv sv m.off,Cl b (C.iu m.pg)]):=by
 have st:=XS b C K m.pg hi hw hl;unfold mN Du gp.off;rw[ho];dsimp only;refine af func183 rfl ntmps183 rfl ?_;intro F _;refine dL ?_;refine zf 11 ?_ (e:=by rfl);refine cA ?_;refine cN ?_ (e:=by exact congrArg (!·) (Ac));refine bd ?_;refine av ?_;refine iU 9 mix (.cons .here .nil) λF1 jD bV aI=> ?_;obtain⟨q1,_⟩:=bV;refine cA ?_;refine gI aI ?_;refine Tp (oZ (Aa (n:=248)) (st) (.cons (.there .here) .nil) Di ?_);refine bs ?_;refine Lp (oSN r9 ?_);refine bn ?_;refine Rt [ag a 220 [Dk b,dv,tv,sv, .slice (some ⟨ub,0,none⟩) m.un.length m.un.length,Dm Dl m.st,Dm Dl 0,Dm Dl 0,Dm Dl 0, .bool false],Cl b (C.iu m.pg)] results183 ?_;exact⟨rfl,rfl⟩
theorem VP (k:Ck)(h1:1<=k.now)(h2:k.now<=1099511627776)(h3:k.kJ=0\/k.now<k.kJ)(hp:k.kJ<9223372036854775808):
  aG aaa 109 [Dm Dl k.now,Dm Dj k.cut,Dm Dl k.kJ] uT []
   (λv H=>∃a,v= .tuple #[Dk a,Dm Dl 0]/\H= [kI a k]):=by
 unfold kI Wt;refine af func109 rfl ntmps109 rfl ?_;intro F _;refine cA ?_;refine zf 10 ?_;refine bc ?_;refine zf 14 ?_;refine bq ?_;by_cases h0:k.kJ=0
 ·refine zf 17 ?_ (e:=by exact congrArg (!·) (Ac))
  refine fX ?_;refine Lp (oB λb1=> ?_);refine bc ?_;refine jT [ag b1 132 [Dm Dl k.now,Dm Dl k.kJ,Dm Dj k.cut]] results109 ?_;exact⟨b1,rfl,rfl⟩
 refine zt 17 ?_ (e:=by exact congrArg (!·) (Ab));refine bs ?_;refine cN ?_;refine bK ?_;refine Lp (oB λb2=> ?_);refine bc ?_;refine jT [ag b2 132 [Dm Dl k.now,Dm Dl k.kJ,Dm Dj k.cut]] results109 ?_;exact⟨b2,rfl,rfl⟩
theorem Y3 (b q hot warm:Nat)(h1:1<=hot)(h2:1<=warm)(h3:hot+warm<=90):
  aG aaa 60 [Dk b,Dk q,Dm Dl hot,Dm Dl warm] uT []
   (λv H=>∃a,v= .tuple #[Dk a,Dm Dl 0]/\H= [nM a b q hot warm]):=by
 unfold nM I5;refine af func60 rfl ntmps60 rfl ?_;intro F _;refine cA ?_;refine zf 12 ?_ (e:=by rfl);refine bc ?_;refine zf 16 ?_ (e:=by rfl);refine bc ?_;refine zf 20 ?_;refine bc ?_;refine zf 24 ?_;refine bc ?_;refine zf 28 ?_;refine bs ?_;refine cN ?_;refine cV ?_;refine Lp (oB λb1=> ?_);refine bc ?_;refine jT [ag b1 184 [Dk b,Dk q,Dm Dl hot,Dm Dl warm]] results60 ?_;exact⟨b1,rfl,rfl⟩
theorem Fne{P:Program}{n:Nat}{ds:Dq}{F:dG}{σ:aP}{o:Oper}{t yt:TypeId}{x y:Operand}{f:Fn}{a c:Array Value}(ht:(P.underlying t).map (λd=>match d with| .func .. =>true|_=>false)=some true)(ho:o.op= .binOp .eql t x y yt:=by exact rfl)(hx:bo σ x=some (.func f a c):=by exact rfl)(hy:bo σ y=some .nilFunc:=by exact rfl):Yv P n ds F σ o (.bool false):=λw0 w en _=>by
 cases hu:P.underlying t with
 |none=>simp[hu]at ht
 |some d=>
  cases d<;>simp[hu]at ht;have h:∀k:Nat,(Op.equalIn (k+1) t (.func f a c) .nilFunc).run P w= .ok false w:=λk=>by simp[Op.equalIn,run_underlying hu]
  have r:(Go.binOp .eql t (.func f a c) .nilFunc).run P w= .ok (.bool false) w:=by
   simp only[Go.binOp];simp[Op.equal,Op.maxDepth,h 9999]
  simp only[execOp,ho,en.eval hx,en.eval hy,Sem.run_bind,eqGuard_at_func,Sem.run_pure,r,Result.andThen_ok]
theorem Hm:(aaa.underlying 107).map (λd=>match d with| .func .. =>true|_=>false)=some true:=by kernel_rfl
theorem KM (q w n:Nat)(h1:1<=n)(h2:n<=62)(f g:Fn)(fa fc ga gc:Array Value)(C:Cs):
  aG aaa 111 [Dk q,Dk w,Dm Dl n, .func f fa fc, .func g ga gc] uT []
   (λv H=>∃a,v= .tuple #[Dk a,Dm Dl 0]/\H= [ik a q w n (.func f fa fc) (.func g ga gc) C ⟨0,false,0,0,none,0⟩]):=by
 unfold ik pE;refine af func111 rfl ntmps111 rfl ?_;intro F _;refine cA ?_;refine zf 14 ?_ (e:=by rfl);refine bc ?_;refine zf 18 ?_ (e:=by rfl);refine aw ?_;refine Li (Fne Hm) ?_;refine bd ?_;refine zf 22 ?_ (e:=by rfl);refine aw ?_;refine Li (Fne Hl) ?_;refine bd ?_;refine zf 26 ?_ (e:=by rfl);refine bc ?_;refine zf 30 ?_;refine bc ?_;refine cN ?_;refine cA ?_;refine Lp (oB λb1=> ?_);refine bc ?_;refine jT [ag b1 137 [Dk q,Dk w,Dm Dl n, .func f fa fc, .func g ga gc,Dm Dl 0, .bool false,Dm Dl 0,Dm Dl 0,Dm Dj 0,Dm Dl 0]] results111 ?_;exact⟨b1,rfl,rfl⟩
def j9 (Q:F7)(c:Nat):FH:=(ql Q (qi c 3)).reverse++(ql Q (qi c 2)).reverse++(ql Q (qi c 1)).reverse
def Ae (C:Cs)(l:FH):List FJ:=l.map λp=> [Value.int .u64 (C.hd p:Int)]
def alR (C:Cs)(l:FH)(p:List FJ)(x:FJ):Prop:=∃(a:FH) (q:Nat) (b:FH),l=a++q::b/\p=Ae C a/\x= [Dm Dj (C.hd q)]
def finR (C:Cs)(l:FH)(p:List FJ):Prop:=p=Ae C l
theorem EG:∀A:F8,iA A A []
 | []=> .nil
 |_::A=> .cons .here (EG A)
def rn (Q:F7)(c j:Nat):FH:=if j=0 then []else if j=1 then(ql Q (qi c 3)).reverse else if j=2 then(ql Q (qi c 3)).reverse++(ql Q (qi c 2)).reverse else j9 Q c
theorem X8 (Q:F7)(c j:Nat)(h:j<3):rn Q c (j+1)=rn Q c j++(ql Q (qi c (3-j))).reverse/\∃z,j9 Q c=rn Q c j++(ql Q (qi c (3-j))).reverse++z:=by
 have:j=0\/j=1\/j=2:=by omega
 rcases this with rfl|rfl|rfl
 ·exact⟨rfl,(ql Q (qi c 2)).reverse++(ql Q (qi c 1)).reverse,by unfold j9 rn;simp⟩
 ·exact⟨rfl,(ql Q (qi c 1)).reverse,by unfold j9 rn;simp⟩
 exact⟨rfl,[],by unfold j9 rn;simp⟩
theorem Yf (l:FH):l.getLast?=pv l l.length:=by
 cases l with
 |nil=>rfl
 |cons a l=>rw[agp];rfl
theorem afM:Bv aaa 335=some (3,3,1):=by kernel_rfl
theorem adA (a c:Nat):aG aaa 249 [Dk a,Dm Dl c] uT []
  (λv H=>∃b2 b3,v= .func (.func 275) #[] #[Dk b2,Dk b3]/\H= [ag b2 88 [Dk a],ag b3 3 [Dm Dl c]]):=by
 refine af func249 rfl ntmps249 rfl ?_;intro F _;refine aw ?_;refine Lp (oB λb1=> ?_);refine Lp (oB λb2=> ?_);refine bq ?_;refine Li Mf ?_;refine bq ?_;refine Rt [ag b1 88 [Dk a],ag b2 3 [Dm Dl c]] results249 ?_;exact⟨_,_,rfl,rfl⟩
theorem adz (F:dG)(a q b qb hot warm b2 b3:Nat)(C:Cs)(K:Ok C)(Q:F7)(O:iV C Q)(c:Nat)(hc:c<C.ae.length)(cQ:In (Cl b C) F.h)(hlu:In (nM a b q hot warm) F.h)(hqu:gG (qY q b qb C Q) F.h):
  ItF aaa F 275 [] [Dk b2,Dk b3] [ag b2 88 [Dk a],ag b3 3 [Dm Dl c]] (alR C (j9 Q c)) (finR C (j9 Q c)):=by
 have hl62:=K.toFix.l1;have aio:=λs hs=>tO q b qb C K Q O c s hc hs;have len_:=λs hs=>tw q b qb C K Q O c s hc hs;intro ll J Z hyd;refine UX func275 rfl ntmps275 rfl ?_;intro Frr LC;have hcl1:=In.mono cQ LC;have acb:=In.mono hlu LC;have ab8:=bO hqu LC;unfold nM I5 at acb;simp only[oU,cap];refine au (H':= [ag b2 88 [Dk a],ag b3 3 [Dm Dl c],aB (J (Ae C []))]) (λ_ s=>aE (λ_ t=>aE (λ_ u=>dZ (H:= []) (by rw[abT];exact u)) t) s) ?_;refine pt ?_;refine Xi (Bda acz afP) ?_;refine Xi Mv ?_;refine nS ?_;refine qz ?_;refine aA (t:=9) (v':=(.agg [Value.int .i64 3,Dm Dl 2,Dm Dl 1].toArray)) rfl (by rfl) ?_;refine Xo (ι:=Nat) (FN [5,4,10,41]) (λj=>j<=3) (λj=> [(10,Dm Dl j)]) (λj=> [ag b2 88 [Dk a],ag b3 3 [Dm Dl c],aB (J (Ae C (rn Q c j)))]) (λj=>3-j) (0) (abL 3) ?_;rintro j hj3;by_cases hj:j<3
 ·have hk3: [Value.int .i64 3,Dm Dl 2,Dm Dl 1][j]?=some (Dm Dl (3-j:Nat)):=by
   have:j=0\/j=1\/j=2:=by omega
   rcases this with rfl|rfl|rfl<;>rfl
  have zB:1<=3-j/\3-j<=3:=by omega
  obtain⟨Gy,z,Gx⟩:=X8 Q c j hj;have tl:=aio (3-j) zB;have ln:=len_ (3-j) zB;have ah:=λk hk=>AS q b qb C K Q O (qi c (3-j)) k hk;have lb:=xF K O (qi c (3-j));rw[Yf]at tl;generalize ql Q (qi c (3-j))=l at*;refine pt ?_;refine Xi Cm ?_;refine nS ?_;refine gx ?_;refine nc rfl (by exact Ac) ?_;refine lJ ?_;refine aw ?_;refine gx ?_;refine qz ?_;refine pt ?_;refine Xi (Ias afM bj) ?_;refine Xi As ?_;refine nS ?_;refine gx ?_;refine xTB 6 mix (.cons .here (.cons .here .nil)) λF1 jD bV aI=> ?_;obtain⟨q1,q2,_⟩:=bV;have ahF:=In.mono acb jD;refine bs ?_;refine gI aI ?_;refine Tp (oZ (Aa (n:=169)) (tl) .nil (λ_ le _=>bO ab8 le) ?_);refine bs ?_;refine gx ?_;refine xTB 6 mix (.cons .here (.cons .here .nil)) λF2 zH eL dw=> ?_;obtain⟨q3,q4,_⟩:=eL;have hlu3:=In.mono acb zH;refine bs ?_;refine gI dw ?_;refine Tp (oZ (Aa (n:=170)) (ln) .nil (λ_ le _=>bO ab8 le) ?_);refine bd ?_;refine qz ?_;refine Xo (ι:=Nat) (FN [6,3,30,20]) (λr=>r<=l.length) (λr=> [(6,Dm Dj (hO C (pv l r))),(7, .bool (pv l r).isSome),(8,Dm Dl r)]) (λr=> [ag b2 88 [Dk a],ag b3 3 [Dm Dl c],aB (J (Ae C (rn Q c j++(l.drop r).reverse)))]) (λr=>r) (l.length) (Nat.le_refl _) ?_;rintro r hr;rcases r with _|r
  ·refine gx ?_
   refine pt ?_;refine Xi Mv ?_;refine Xi Mv ?_;refine zf 31 ?_ (e:=by rfl);refine Xx ?_;refine Xx ?_;refine Xi Pf ?_;refine nS ?_;refine lQ rfl rfl ?_;refine BL ?_;refine bn ?_;refine jx ?_;refine Xi Im ?_;refine Xi Mv ?_;refine sT ?_;rw[List.drop_zero,<-Gy];refine Ro (j+1) ((by omega)) ((by omega))
  have hpv:pv l (r+1)=some l[r]:=aac hr;rw[hpv,bZ];have Pu:alR C (j9 Q c) (Ae C (rn Q c j++(l.drop (r+1)).reverse)) [Dm Dj (C.hd l[r])]:=⟨_,l[r],(l.take r).reverse++z,by
   rw[Gx];have:l.reverse=(l.drop (r+1)).reverse++l[r]::(l.take r).reverse:=by
    conv=>lhs;rw[<-List.take_append_drop r l,ahf hr]
    simp
   rw[this];simp,rfl,rfl⟩
  have fQ:Ae C (rn Q c j++(l.drop (r+1)).reverse)++ [[Value.int .u64 (C.hd l[r]:Int)]]=Ae C (rn Q c j++(l.drop r).reverse):=by
   have e0:(l.drop r).reverse=(l.drop (r+1)).reverse++ [l[r]]:=by rw[ahf hr,List.reverse_cons]
   rw[e0];simp only[Ae,List.map_append,List.map_cons,List.map_nil,List.append_assoc]
  refine gx ?_;refine pt ?_;refine Xi Mv ?_;refine Xi Mv ?_;refine zt 31 ?_ (e:=by rfl);refine Xi Mv ?_;refine Xi Cm ?_;refine Xi Pt ?_;refine nS ?_;refine nc rfl (by exact Ac) ?_;refine lJ ?_;refine aw ?_;refine gx ?_;refine qz ?_;refine gx ?_;refine pt ?_;refine Xi Mv ?_;refine Xi Mv ?_;refine au (H':= [aB (J (Ae C (rn Q c j++(l.drop (r+1)).reverse))),ag b2 88 [Dk a],ag b3 3 [Dm Dl c]]) (λ_ s=>by exact(cC (by exact(abA.cons _ (abA.swap _ _ _)).trans (abA.swap _ _ _))) _ s) (mu (au (H':= [ag b2 88 [Dk a],ag b3 3 [Dm Dl c]]++J (Ae C (rn Q c j++(l.drop (r+1)).reverse))) (cC abN) ?_));refine Xin (oY rfl rfl rfl (hyd _ _ Pu) (EG _) (λh le _=>LC.trans le) ?_);rintro v H' (⟨rfl,rfl⟩|⟨rfl,Zs,hz,hH⟩)
  ·refine au (H':= [ag b2 88 [Dk a],ag b3 3 [Dm Dl c],aB (J (Ae C (rn Q c j++(l.drop r).reverse)))]) (λ_ s=>by rw[fQ,abT]at s;exact aE (λ_ t=>aE (λ_ u=>dZ (H:= []) (by rw[abT];exact u)) t) s) ?_
   refine Xi Nt ?_;refine nS ?_;refine lQ rfl (by rfl) ?_;refine lJ ?_;refine aw ?_;refine jx ?_;refine Xp (oL Je ?_);refine Xi Nc ?_;refine Xi (Fa Be) ?_;refine Xp (oL aav ?_);refine Xi Mv ?_;refine Xp (oC Aa rfl rfl (ah r hr) .nil (λ_ le _=>⟨In.mono hcl1 le,In.mono ab8.1 le⟩) ?_);rintro v H' ⟨rfl,rfl⟩;refine bR ?_;refine Xi Mv ?_;refine Xi Ex ?_;refine Xi Ex ?_;refine Xi As ?_;refine Xi As ?_;refine sT ?_;refine bd ?_;refine jx ?_;refine Xi Mv ?_;refine Xi Im ?_;refine Xi As ?_;refine sT ?_;refine aA (t:=8) (v':=(Dm Dl r)) rfl (by(congr 1<;>omega)) ?_;refine Ro (r) ((by omega)) ((by omega))
  rw[abT];refine Xi Nt ?_;refine nS ?_;refine nc rfl (by rfl) ?_;refine jg ?_;refine cA ?_;refine Rt0 H' (results275) ?_ (hh:=λ_ x=>x);exact .inr ⟨Zs,hz,hH⟩
 refine pt ?_;refine Xi Cm ?_;refine nS ?_;refine gx ?_;refine lQ rfl (by exact Ab) ?_;refine BL ?_;refine bq ?_;obtain rfl:j=3:=by omega
 refine au (H':= [aB (J (Ae C (rn Q c 3))),ag b2 88 [Dk a],ag b3 3 [Dm Dl c]]) (λ_ s=>by exact(cC (by exact(abA.cons _ (abA.swap _ _ _)).trans (abA.swap _ _ _))) _ s) (mu ?_);refine jU ([ag b2 88 [Dk a],ag b3 3 [Dm Dl c]]++J (Ae C (rn Q c 3))) results275 ?_ (hh:=cC abN);exact .inl ⟨_,rfl,rfl⟩
def cz (own:FK)(l:FH):FH:=l.filter λq=>decide (some q≠own)
def xR (dd act:Nat->Bool)(r:FH):FK×Bool×Nat:=match r.findIdx? dd with
 |some i=>(r[i]?,true,i+1)
 |none=>(match r.find? (λq=> !act q)with|some q=>some q|none=>r.head?,false,r.length)
def kT (dd act:Nat->Bool)(own:FK)(looks:Nat)(l:FH):FK×Bool×Nat:=xR dd act ((cz own l).take looks)
theorem ahQ (f:Nat->Bool):∀(A:FH) (x:Nat) (B:FH),(∀q∈A,f q=false)->f x=true->(A++x::B).findIdx? f=some A.length
 | [],x,B,_,hx=>by simp[agB,hx]
 |a::A,x,B,h,hx=>by
  rw[List.cons_append,agB,h a (aag),ahQ f A x B (λq hq=>h q (aai _ hq)) hx];rfl
theorem aaY (f:Nat->Bool):∀(A:FH),(∀q∈A,f q=false)->A.findIdx? f=none
 | [],_=>rfl
 |a::A,h=>by rw[agB,h a (aag),aaY f A (λq hq=>h q (aai _ hq))];rfl
theorem My{dd act:Nat->Bool}{own:FK}{n:Nat}{a b:FH}{x:Nat}(hx:some x≠own)(h:∀q∈cz own a,dd q=false)(hl:(cz own a).length<n)(d:dd x=true):
  kT dd act own n (a++x::b)=(some x,true,(cz own a).length+1):=by
 have e:cz own (a++x::b)=cz own a++x::cz own b:=by unfold cz;rw[agQ,List.filter_cons,if_pos (by simpa using hx)]
 unfold kT;obtain⟨m,hm⟩:∃m,n=(cz own a).length+(m+1):=⟨n-(cz own a).length-1,by omega⟩;rw[e,hm,List.take_length_add_append,List.take_succ_cons];unfold xR;rw[ahQ dd _ x _ h d];simp
theorem AT{dd act:Nat->Bool}{own:FK}{n:Nat}{a b:FH}(h:∀q∈cz own a,dd q=false)(hl:(cz own a).length=n\/b= []/\(cz own a).length<=n):
  kT dd act own n (a++b)=(match(cz own a).find? (λq=> !act q)with|some q=>some q|none=>(cz own a).head?,false,(cz own a).length):=by
 have e:(cz own (a++b)).take n=cz own a:=by
  rcases hl with e|⟨rfl,e⟩
  ·unfold cz at*
   rw[agQ,<-e,aj4]
  rw[abT,List.take_of_length_le e]
 unfold kT;rw[e];unfold xR;rw[aaY dd _ h]
theorem EO{L A1 A2:aa}{X:Prop}{LS:F8}(x:X):∀h,ai (LS++ [L,A1,A2]) h->ai (L::([A1,A2]++ [λk=>X/\aB LS k])) h:=λh s=>
 cC (abN (l₁:= [λk=>X/\aB LS k]) (l₂:= [L,A1,A2])) h (y4 x (dZ s))
def KZ (WX b11 b12 b13 WW:Nat)(C:Cs)(act:Nat->Bool)(r:FH):F8:=
 [ag WX 104 [Dm Dj 0],ag b11 4 [.bool false],ag b12 3 [Dm Dl r.length],ag b13 104 [Dm Dj (hO C r.head?)],ag WW 104 [Dm Dj (hO C (r.find? λq=> !act q):Int)]]
def pkJ (JB:F8)(WX b11 b12 b13 WW:Nat)(C:Cs)(dd act:Nat->Bool)(own:FK)(l:FH)(p:List FJ):F8:=
 [λh=>((∀q∈cz own (l.take p.length),dd q=false)/\(cz own (l.take p.length)).length<5)/\aB (JB++KZ WX b11 b12 b13 WW C act (cz own (l.take p.length))) h]
theorem BT{JB:F8}{WX b11 b12 b13 WW:Nat}{C:Cs}{dd act:Nat->Bool}{own:FK}{l:FH}{p:List FJ}{a:FH}(h:l.take p.length=a):
  pkJ JB WX b11 b12 b13 WW C dd act own l p= [λh=>((∀q∈cz own a,dd q=false)/\(cz own a).length<5)/\aB (JB++KZ WX b11 b12 b13 WW C act (cz own a)) h]:=by
 unfold pkJ;rw[h]
def aV (s:Nat):Value:= .func (.func 48) #[Dk s] #[]
theorem Jm{C:Cs}(K:Ok C){r:FH}(hr:∀q∈r,At C q)(o:FK)(ho:∀q,o=some q->q∈r):(hO C o=0↔o=none)/\hO C o<18446744073709551616:=by
 cases o with
 |none=>exact⟨⟨λ_=>rfl,λ_=>rfl⟩,by show(0:Nat)<_;omega⟩
 |some q=>
  obtain⟨_,_,_,_,h1,h2⟩:=bM K (hr q (ho q rfl));rw[bZ];exact⟨⟨λe=>absurd e h2,λe=>by cases e⟩,h1⟩
theorem Zo{own:FK}{a:FH}{x:Nat}:cz own (a++ [x])=if some x≠own then cz own a++ [x]else cz own a:=by
 unfold cz;rw[agQ];by_cases h:some x≠own
 ·rw[if_pos h];simp[h]
 rw[if_neg h];simp[h]
theorem UP (a q qb hot warm s:Nat)(y:Sy)(rest:FJ)(C:Cs)(K:Ok C)(Q:F7)(O:iV C Q)(M:MkQ C Q)(c:Nat)(hc:c<C.ae.length)(k:Ck)(own:FK)(ho:∀p,own=some p->At C p):
  aG aaa 184 [Dk a,Dm Dl c,Dm Dj (hO C own),Dm Dl 5,aV s]
   (λh=>In (Cl y.b C) h/\In (nM a y.b q hot warm) h/\gG (qY q y.b qb C Q) h/\In (fy s y rest) h/\In (kI y.ck k) h) []
   (λv H=>∃p d n,(p,d,n)=kT (λp=>decide (zP C.A k p≠0)) (DN C.A) own 5 (j9 Q c)/\v= .tuple #[Dm Dj (hO C p), .bool d,Dm Dl n]/\H= []):=by
 have ak:∀p∈j9 Q c,∃i,p∈ql Q i:=λp hp=>by
  unfold j9 at hp;rw[agb,agb,agH,agH,agH]at hp;rcases hp with(h|h)|h<;>exact⟨_,h⟩
 have xA:∀p∈j9 Q c,At C p:=λp hp=>by obtain⟨i,h⟩:=ak p hp;exact(O.lv i p h).toAt
 have lq:∀p∈j9 Q c,gw C (some p):=λp hp=>by obtain⟨i,h⟩:=ak p hp;exact O.Gq (i:=i) λy hy=>by cases hy;exact h
 have uy:∀p∈j9 Q c,dB C.A p<16:=λp hp=>by obtain⟨i,h⟩:=ak p hp;exact M i p h
 have wG:=λF cQ hlu hqu=>λb2 b3=>adz F a q y.b qb hot warm b2 b3 C K Q O c hc cQ hlu hqu;have QJ:=λp (hp:p∈j9 Q c)=>EI s y rest C K k p (lq p hp);have act_:=λp (hp:p∈j9 Q c)=>sy a y.b q hot warm C K p ((lq p hp) p rfl).1 (((lq p hp) p rfl).2).k0 (uy p hp);generalize j9 Q c=l at*;generalize hdd:(λp=>decide (zP C.A k p≠0))=dd;replace QJ:=λp (hp:p∈l)=>(show _ from(by have h:=QJ p hp;rw[show decide (zP C.A k p≠0)=dd p from congrFun hdd p]at h;exact h));generalize Ws:DN C.A=act at*;refine UZ func184 rfl ntmps184 rfl ?_;rintro F ⟨cQ,hlu,hqu,fA,zM⟩;refine pt ?_;refine Xp (oB λb1=> ?_);refine Xp (oB λb2=> ?_);refine Xp (oB λb3=> ?_);refine Xp (oB λb4=> ?_);refine Xp (oA GQ λb5=> ?_);refine Xp (oA zc_4 λb6=> ?_);refine Xp (oA ab2 λb7=> ?_);refine nS ?_;refine gx ?_;refine pt ?_;refine Xp (oL bj ?_);refine Xi Cm ?_;refine nS ?_;refine lQ rfl (by exact Ab) ?_;refine lJ ?_;refine aw ?_;refine pt ?_;refine Xp (oA GQ λb8=> ?_);refine Xp (oA GQ λb9=> ?_);refine nS ?_;refine gx ?_;refine pt ?_;refine Xp (oL Je ?_);refine Xi Mv ?_;refine Xp (oC Aa rfl rfl (adA a c) .nil Di ?_);rintro v H' ⟨Gi,Gh,rfl,rfl⟩;refine bR ?_;refine nS ?_;refine qz ?_;have hri:=wG F cQ hlu hqu Gi Gh;have hlF:=hlu;unfold nM I5 at hlF;refine Hh (H':= [ag b1 88 [Dk a],ag b2 104 [Dm Dj (hO C own)],ag b3 3 [Dm Dl 5],ag b4 107 [aV s],ag b5 104 [Dm Dj 0],ag b6 4 [.bool false],ag b7 3 [Dm Dl 0],ag b8 104 [Dm Dj 0],ag b9 104 [Dm Dj 0],ag Gi 88 [Dk a],ag Gh 3 [Dm Dl c]]) ?_;refine au (H':= [ag Gi 88 [Dk a],ag Gh 3 [Dm Dl c]]++(pkJ [ag b1 88 [Dk a],ag b2 104 [Dm Dj (hO C own)],ag b3 3 [Dm Dl 5],ag b4 107 [aV s]] b5 b6 b7 b8 b9 C dd act own l) []) (λh0 s0=>cC (abN (l₁:=(pkJ [ag b1 88 [Dk a],ag b2 104 [Dm Dj (hO C own)],ag b3 3 [Dm Dl 5],ag b4 107 [aV s]] b5 b6 b7 b8 b9 C dd act own l) []) (l₂:= [ag Gi 88 [Dk a],ag Gh 3 [Dm Dl c]])) h0 (y4 ⟨λq hq=>by simp[cz]at hq,by simp[cz]⟩ (dZ (L:= [ag b1 88 [Dk a],ag b2 104 [Dm Dj (hO C own)],ag b3 3 [Dm Dl 5],ag b4 107 [aV s]]++KZ b5 b6 b7 b8 b9 C act []) (H:= [ag Gi 88 [Dk a],ag Gh 3 [Dm Dl c]]) s0))) ?_;refine x_rf ((pkJ [ag b1 88 [Dk a],ag b2 104 [Dm Dj (hO C own)],ag b3 3 [Dm Dl 5],ag b4 107 [aV s]] b5 b6 b7 b8 b9 C dd act own l)) (λZs=>∃a1 q1 r1,l=a1++q1::r1/\some q1≠own/\(∀r∈cz own a1,dd r=false)/\(cz own a1).length<5/\dd q1=true/\Zs= [ag b1 88 [Dk a],ag b2 104 [Dm Dj (hO C own)],ag b3 3 [Dm Dl 5],ag b4 107 [aV s]]++ [ag b5 104 [Dm Dj (C.hd q1)],ag b6 4 [.bool true],ag b7 3 [Dm Dl ((cz own a1).length+1:Nat)],ag b8 104 [Dm Dj (hO C (cz own a1++ [q1]).head?)],ag b9 104 [Dm Dj (hO C ((cz own a1).find? λq=> !act q):Int)]]) (λid Zs=>id=0/\∃a1 r1,l=a1++r1/\(∀r∈cz own a1,dd r=false)/\(cz own a1).length=5/\Zs= [ag b1 88 [Dk a],ag b2 104 [Dm Dj (hO C own)],ag b3 3 [Dm Dl 5],ag b4 107 [aV s]]++KZ b5 b6 b7 b8 b9 C act (cz own a1)) (λ_ x=> [(15,x.headD undef),(5,Dk b1),(7,Dk b2),(8,Dk b3),(9,Dk b4),(10,Dk b5),(11,Dk b6),(12,Dk b7),(13,Dk b8),(14,Dk b9)]) (Aa (n:=275)) rfl (hri) (.cons .here (.cons .here (.cons .here .nil))) (λp x hx=>by obtain⟨_,_,_,_,_,rfl⟩:=hx;rfl) rfl ?_ ?_ ?_ ?_ ?_
 ·rintro ll F' p x HH K' ⟨a1,q1,r1,hp,rfl,rfl⟩ hK
  refine jx ?_;refine Xi As ?_;refine sT ?_;exact Cr (ad9 hK (by exact⟨rfl,rfl,rfl,rfl,rfl,rfl,rfl,rfl,rfl,rfl,trivial⟩))
 ·rintro ll F' p x L ⟨a1,q1,r1,hl,rfl,rfl⟩ hle
  have hq1:q1∈l:=by rw[hl];simp
  have hlen:l.take (Ae C a1).length=a1:=by rw[hl];unfold Ae;rw[abI,aj4]
  have Ed:l.take (Ae C a1++ [[Value.int .u64 (C.hd q1:Int)]]).length=a1++ [q1]:=by
   rw[aby,show(Ae C a1).length=a1.length from abI _,hl,show a1++q1::r1=(a1++ [q1])++r1 by simp,show a1.length+ [[Value.int .u64 (C.hd q1:Int)]].length=(a1++ [q1]).length by simp,aj4]
  have uH:=In.mono cQ hle;have ahF:=In.mono hlu hle;have hst2:=In.mono fA hle;have hck2:=In.mono zM hle;rw[BT hlen];refine au (H':= [λh=>((∀q∈cz own a1,dd q=false)/\(cz own a1).length<5)/\aB ([ag b1 88 [Dk a],ag b2 104 [Dm Dj (hO C own)],ag b3 3 [Dm Dl 5],ag b4 107 [aV s]]++KZ b5 b6 b7 b8 b9 C act (cz own a1)) h]++([L]++ [ag Gi 88 [Dk a],ag Gh 3 [Dm Dl c]])) (λh0 s0=>cC (abN (l₁:= [L]++ [ag Gi 88 [Dk a],ag Gh 3 [Dm Dl c]])) h0 s0) (Hk λhp=>mu ?_);obtain⟨ux,dD⟩:=hp;unfold KZ;simp only[oU,cap,List.headD_cons];obtain⟨_,_,_,_,hm1,hm2⟩:=bM K (xA q1 hq1);have LA:∀z∈cz own a1,At C z:=λz hz=>xA z (by rw[hl];unfold cz at hz;exact agW _ (abG.1 hz).1);obtain⟨OV,OU⟩:=Jm K LA (cz own a1).head? (λq e=>abY e);obtain⟨hz3,hz4⟩:=Jm K LA ((cz own a1).find? λq=> !act q) (λq e=>af0 e);have on1:=Zo (own:=own) (a:=a1) (x:=q1);generalize mP:cz own a1=fl at*;refine qz ?_;refine gx ?_;refine pt ?_;refine Xi Mv ?_;refine Xp (oL bD ?_);refine Xi Cm ?_;refine nS ?_;by_cases jb:some q1≠own
  ·rw[if_pos jb]at on1
   have fQ:¬((C.hd q1:Int)=(hO C own:Int)):=λe=>by
    cases Bt:own with
    |none=>rw[Bt]at e;change(C.hd q1:Int)=((0:Nat):Int)at e;omega
    |some z=>rw[Bt,bZ]at e;exact jb (by rw[Bt,je K (xA q1 hq1) (ho z Bt) (by omega)])
   refine lQ rfl (by exact decide_eq_false fQ) ?_;refine lJ ?_;refine aw ?_;refine pt ?_;refine Xp (oL bj ?_);refine Xi Im ?_;refine Xp (oS bj ?_);refine nS ?_;refine gx ?_;refine pt ?_;refine Xp (oL bD ?_);refine Xi Cm ?_;refine nS ?_;refine Qg (ι:=Unit) [29] (λu=>True) (λu=> []) (λu=> [ag b1 88 [Dk a],ag b2 104 [Dm Dj (hO C own)],ag b3 3 [Dm Dl 5],ag b4 107 [aV s],ag b5 104 [Dm Dj 0],ag b6 4 [.bool false],ag b7 3 [Dm Dl (fl.length+1:Nat)],ag b8 104 [Dm Dj (hO C (fl++ [q1]).head?)],ag b9 104 [Dm Dj (hO C (fl.find? λq=> !act q):Int)],L,ag Gi 88 [Dk a],ag Gh 3 [Dm Dl c]]) ?_ ?_
   ·refine uJ rfl ?_ ?_
    ·intro h0
     replace h0:=aO h0;have hn:fl= []:=List.head?_eq_none_iff.1 (OV.1 (by omega));refine jx ?_;refine Xi Mv ?_;refine Xp (oS bD ?_);refine sT ?_;have e1:(C.hd q1:Int)=(hO C (fl++ [q1]).head?:Int):=by rw[hn];rfl
     rw[e1];refine Me (()) (trivial)
    intro h0;replace h0:=aO h0;have hn:(fl++ [q1]).head?=fl.head?:=by
     cases fl with
     |nil=>exact absurd rfl h0
     |cons z r=>rfl
    rw[<-hn];refine lJ ?_;refine Me (()) (trivial)
   rintro u _;refine gx ?_;refine pt ?_;refine Xp (oL GW ?_);refine Xi (Fnn Hm) ?_;refine Xi Mv ?_;refine zt 32 ?_ (e:=by rfl);refine Xp (oL GW ?_);refine Xi Mv ?_;refine Xp (ZW (Aa (n:=48)) rfl rfl rfl (QJ q1 hq1) .nil (λ_ le _=>⟨In.mono hst2 le,In.mono uH le,In.mono hck2 le⟩) λv H' hr=> ?_);obtain⟨rfl,rfl⟩:=hr;refine bR ?_;refine Xi Pt ?_;refine nS ?_;refine uJ rfl ?_ ?_
   ·intro Gy
    replace Gy:=aO Gy;refine gx ?_;refine D1 mix .nil (by kernel_rfl) λF1 jD bV aI=> ?_;refine Dt 0 rfl Mv ?_;refine D2 1 2 ?_ ?_
    ·refine Do rfl (oL bj ?_)
     refine aw ?_;refine Dd 2 rfl (oS bD ?_);refine aw ?_;refine Dd 3 rfl (oS gg ?_);refine aw ?_;refine Dd 4 rfl (oS bj ?_);refine aw ?_;refine aT (by kernel_rfl) aI ?_;refine fY ?_;refine aw ?_;refine jg ?_;refine bd ?_;refine G3 ([ag b1 88 [Dk a],ag b2 104 [Dm Dj (hO C own)],ag b3 3 [Dm Dl 5],ag b4 107 [aV s]]++ [ag b5 104 [Dm Dj (C.hd q1)],ag b6 4 [.bool true],ag b7 3 [Dm Dl (fl.length+1:Nat)],ag b8 104 [Dm Dj (hO C (fl++ [q1]).head?)],ag b9 104 [Dm Dj (hO C (fl.find? λq=> !act q):Int)]]) ⟨a1,q1,r1,hl,jb,(by rw[mP];exact ux),(by rw[mP];exact dD),Gy,(by rw[mP];rfl)⟩ ?_;exact cC (abN (l₁:=([ag b1 88 [Dk a],ag b2 104 [Dm Dj (hO C own)],ag b3 3 [Dm Dl 5],ag b4 107 [aV s]]++ [ag b5 104 [Dm Dj (C.hd q1)],ag b6 4 [.bool true],ag b7 3 [Dm Dl (fl.length+1:Nat)],ag b8 104 [Dm Dj (hO C (fl++ [q1]).head?)],ag b9 104 [Dm Dj (hO C (fl.find? λq=> !act q):Int)]])) (l₂:= [L]++ [ag Gi 88 [Dk a],ag Gh 3 [Dm Dl c]]))
    refine Do rfl (oS bD ?_);refine aw ?_;refine D2 1 3 ?_ ?_
    ·refine Do rfl (oL bj ?_)
     refine aw ?_;refine Dd 3 rfl (oS gg ?_);refine aw ?_;refine Dd 4 rfl (oS bj ?_);refine aw ?_;refine aT (by kernel_rfl) aI ?_;refine fY ?_;refine aw ?_;refine jg ?_;refine bd ?_;refine G3 ([ag b1 88 [Dk a],ag b2 104 [Dm Dj (hO C own)],ag b3 3 [Dm Dl 5],ag b4 107 [aV s]]++ [ag b5 104 [Dm Dj (C.hd q1)],ag b6 4 [.bool true],ag b7 3 [Dm Dl (fl.length+1:Nat)],ag b8 104 [Dm Dj (hO C (fl++ [q1]).head?)],ag b9 104 [Dm Dj (hO C (fl.find? λq=> !act q):Int)]]) ⟨a1,q1,r1,hl,jb,(by rw[mP];exact ux),(by rw[mP];exact dD),Gy,(by rw[mP];rfl)⟩ ?_;exact cC (abN (l₁:=([ag b1 88 [Dk a],ag b2 104 [Dm Dj (hO C own)],ag b3 3 [Dm Dl 5],ag b4 107 [aV s]]++ [ag b5 104 [Dm Dj (C.hd q1)],ag b6 4 [.bool true],ag b7 3 [Dm Dl (fl.length+1:Nat)],ag b8 104 [Dm Dj (hO C (fl++ [q1]).head?)],ag b9 104 [Dm Dj (hO C (fl.find? λq=> !act q):Int)]])) (l₂:= [L]++ [ag Gi 88 [Dk a],ag Gh 3 [Dm Dl c]]))
    refine Do rfl (oS gg ?_);refine aw ?_;refine Dd 1 rfl (oL bj ?_);refine aw ?_;refine Dd 4 rfl (oS bj ?_);refine aw ?_;refine aT (by kernel_rfl) aI ?_;refine fY ?_;refine aw ?_;refine jg ?_;refine bd ?_;refine G3 ([ag b1 88 [Dk a],ag b2 104 [Dm Dj (hO C own)],ag b3 3 [Dm Dl 5],ag b4 107 [aV s]]++ [ag b5 104 [Dm Dj (C.hd q1)],ag b6 4 [.bool true],ag b7 3 [Dm Dl (fl.length+1:Nat)],ag b8 104 [Dm Dj (hO C (fl++ [q1]).head?)],ag b9 104 [Dm Dj (hO C (fl.find? λq=> !act q):Int)]]) ⟨a1,q1,r1,hl,jb,(by rw[mP];exact ux),(by rw[mP];exact dD),Gy,(by rw[mP];rfl)⟩ ?_;exact cC (abN (l₁:=([ag b1 88 [Dk a],ag b2 104 [Dm Dj (hO C own)],ag b3 3 [Dm Dl 5],ag b4 107 [aV s]]++ [ag b5 104 [Dm Dj (C.hd q1)],ag b6 4 [.bool true],ag b7 3 [Dm Dl (fl.length+1:Nat)],ag b8 104 [Dm Dj (hO C (fl++ [q1]).head?)],ag b9 104 [Dm Dj (hO C (fl.find? λq=> !act q):Int)]])) (l₂:= [L]++ [ag Gi 88 [Dk a],ag Gh 3 [Dm Dl c]]))
   intro Gy;replace Gy:=aO Gy;have hp3:∀q∈fl++ [q1],dd q=false:=λq hq=>by
    rcases agb.1 hq with h|h
    ·exact ux q h
    rw[List.mem_singleton.1 h];exact Gy
   have hfa:(fl++ [q1]).find? (λq=> !act q)=if((fl.find? λq=> !act q).isNone&& !act q1)=true then some q1 else fl.find? λq=> !act q:=by
    rw[List.find?_append];cases fl.find? λq=> !act q with
    |some z=>rfl
    |none=>cases h:act q1<;>simp[h]
   refine lJ ?_;refine aw ?_;refine gx ?_;refine gx ?_;refine Qg (ι:=Unit) (FN [39,8]) (λu=>True) (λu=> [(46, .bool ((fl.find? λq=> !act q).isNone&& !act q1))]) (λu=> [ag b1 88 [Dk a],ag b2 104 [Dm Dj (hO C own)],ag b3 3 [Dm Dl 5],ag b4 107 [aV s],ag b5 104 [Dm Dj 0],ag b6 4 [.bool false],ag b7 3 [Dm Dl (fl.length+1:Nat)],ag b8 104 [Dm Dj (hO C (fl++ [q1]).head?)],ag b9 104 [Dm Dj (hO C (fl.find? λq=> !act q):Int)],L,ag Gi 88 [Dk a],ag Gh 3 [Dm Dl c]]) ?_ ?_
   ·by_cases oW:(fl.find? λq=> !act q)=none
    ·rw[oW]
     refine jx ?_;refine Xp (oL bD ?_);refine Xi Cm ?_;refine Xi Mv ?_;refine zt 41 ?_ (e:=by exact decide_eq_true rfl);refine Xp (oL Je ?_);refine Xi Mv ?_;refine Xp (oC Aa rfl rfl (act_ q1 hq1) .nil (λ_ le _=>⟨In.mono uH le,In.mono ahF le⟩) ?_);rintro v H' ⟨rfl,rfl⟩;refine bR ?_;refine Xi Nt ?_;refine Xi Pt ?_;refine sT ?_;rw[<-oW];refine Me (()) (trivial)
    have hnn:(fl.find? λq=> !act q).isNone=false:=by cases h:(fl.find? λq=> !act q)with|none=>exact absurd h oW|some z=>rfl
    rw[hnn];refine jx ?_;refine Xp (oL bD ?_);refine Xi Cm ?_;refine Xi Mv ?_;refine zf 41 ?_ (e:=by exact decide_eq_false (λe=>oW (hz3.1 (by omega))));refine Xx ?_;refine Xx ?_;refine Xx ?_;refine Xx ?_;refine Xi Pf ?_;refine sT ?_;refine Me (()) (trivial)
   rintro u _;refine Qg (ι:=Unit) [47] (λu=>True) (λu=> []) (λu=> [ag b1 88 [Dk a],ag b2 104 [Dm Dj (hO C own)],ag b3 3 [Dm Dl 5],ag b4 107 [aV s],ag b5 104 [Dm Dj 0],ag b6 4 [.bool false],ag b7 3 [Dm Dl (fl.length+1:Nat)],ag b8 104 [Dm Dj (hO C (fl++ [q1]).head?)],ag b9 104 [Dm Dj (hO C ((fl++ [q1]).find? λq=> !act q):Int)],L,ag Gi 88 [Dk a],ag Gh 3 [Dm Dl c]]) ?_ ?_
   ·refine uJ rfl ?_ ?_
    ·intro zG
     replace zG:=aO zG;refine jx ?_;refine Xi Mv ?_;refine Xp (oS bD ?_);refine sT ?_;have e2:(C.hd q1:Int)=(hO C ((fl++ [q1]).find? λq=> !act q):Int):=by rw[hfa,if_pos (by rw[zG.1,zG.2];rfl),bZ]
     rw[e2];refine Me (()) (trivial)
    intro zG;replace zG:=aO zG;refine lJ ?_;have e2:(fl.find? λq=> !act q)=((fl++ [q1]).find? λq=> !act q):=by rw[hfa,if_neg (by rcases zG with e|e<;>simp[e])]
    rw[e2];refine Me (()) (trivial)
   rintro u _;refine pt ?_;refine Xp (oL bj ?_);refine Xp (oL bj ?_);refine Xi Cm ?_;refine nS ?_;refine uJ rfl ?_ ?_
   ·intro h5
    replace h5:=aO h5;refine BL ?_;refine aw ?_;refine X6 ([ag b1 88 [Dk a],ag b2 104 [Dm Dj (hO C own)],ag b3 3 [Dm Dl 5],ag b4 107 [aV s]]++KZ b5 b6 b7 b8 b9 C act (fl++ [q1])) ⟨rfl,a1++ [q1],r1,by rw[hl];simp,(by rw[on1];exact hp3),(by rw[on1,aby];show fl.length+1=5;omega),(by rw[on1];rfl)⟩ ?_;rw[show((fl.length+1:Nat):Int)=((fl++ [q1]).length:Int) by simp];exact cC (abN (l₁:= [ag b1 88 [Dk a],ag b2 104 [Dm Dj (hO C own)],ag b3 3 [Dm Dl 5],ag b4 107 [aV s]]++KZ b5 b6 b7 b8 b9 C act (fl++ [q1])) (l₂:= [L]++ [ag Gi 88 [Dk a],ag Gh 3 [Dm Dl c]]))
   intro h5;replace h5:=aO h5;refine lJ ?_;refine aw ?_;refine AP ?_;rw[BT Ed,on1];rw[show((fl.length+1:Nat):Int)=((fl++ [q1]).length:Int) by simp];exact EO (X:=(∀q∈fl++ [q1],dd q=false)/\(fl++ [q1]).length<5) (LS:= [ag b1 88 [Dk a],ag b2 104 [Dm Dj (hO C own)],ag b3 3 [Dm Dl 5],ag b4 107 [aV s]]++KZ b5 b6 b7 b8 b9 C act (fl++ [q1])) ⟨hp3,by rw[aby];show fl.length+1<5;omega⟩
  have hoe:own=some q1:=by
   cases Bt:own with
   |none=>exact absurd (by rw[Bt];simp) jb
   |some z=>rw[Bt]at jb;exact(Classical.not_not.1 jb).symm
  rw[if_neg jb]at on1;refine nc rfl (by exact decide_eq_true (by rw[hoe,bZ])) ?_;refine BL ?_;refine bd ?_;refine AP ?_;rw[BT Ed,on1];exact EO (X:=(∀q∈fl,dd q=false)/\fl.length<5) (LS:= [ag b1 88 [Dk a],ag b2 104 [Dm Dj (hO C own)],ag b3 3 [Dm Dl 5],ag b4 107 [aV s]]++KZ b5 b6 b7 b8 b9 C act fl) ⟨ux,dD⟩
 ·rintro D p acf
  have hlen:l.take p.length=l:=by rw[show p=Ae C l from acf];unfold Ae;rw[abI,List.take_length]
  refine bd ?_;rw[BT hlen];refine au (H':= [λh=>((∀q∈cz own l,dd q=false)/\(cz own l).length<5)/\aB ([ag b1 88 [Dk a],ag b2 104 [Dm Dj (hO C own)],ag b3 3 [Dm Dl 5],ag b4 107 [aV s]]++KZ b5 b6 b7 b8 b9 C act (cz own l)) h]++([Ah D]++ [ag Gi 88 [Dk a],ag Gh 3 [Dm Dl c]])) (λh0 s0=>cC (abN (l₁:= [Ah D]++ [ag Gi 88 [Dk a],ag Gh 3 [Dm Dl c]])) h0 (by simpa using s0)) (Hk λhp=>mu ?_);obtain⟨ux,dD⟩:=hp;have jo:=AT (act:=act) (n:=5) (b:= []) ux (.inr ⟨rfl,by omega⟩);rw[abT]at jo;have hl:l=l++ []:=(abT l).symm;generalize mP:cz own l=fl at*;unfold KZ;simp only[oU,cap,abT];have LA:∀z∈fl,At C z:=λz hz=>xA z (by rw[hl];rw[<-mP]at hz;unfold cz at hz;exact agW _ (abG.1 hz).1);obtain⟨hz3,hz4⟩:=Jm K LA (fl.find? λq=> !act q) (λq e=>af0 e);refine gx ?_;refine pt ?_;refine Xp (oL bD ?_);refine Xi Cm ?_;refine nS ?_;by_cases oW:(fl.find? λq=> !act q)=none
  ·refine lQ rfl (by exact congrArg (!·) (decide_eq_true (by rw[oW];rfl))) ?_
   refine lJ ?_;refine aw ?_;refine gx ?_;refine D1 mix .nil (by kernel_rfl) λF2 zH eL dw=> ?_;refine D2 0 1 ?_ ?_
   ·refine Do rfl (oL bD ?_)
    refine aw ?_;refine D2 1 2 ?_ ?_
    ·refine Do rfl (oL bj ?_)
     refine aw ?_;refine Dd 2 rfl (oS bD ?_);refine aw ?_;refine Dd 3 rfl (oS gg ?_);refine aw ?_;refine Dd 4 rfl (oS bj ?_);refine aw ?_;refine aT (by kernel_rfl) dw ?_;refine fY ?_;refine aw ?_;refine jg ?_;refine ku [D] [] bD gg bj results184 ?_;exact⟨fl.head?,false,fl.length,by rw[jo,oW],rfl,rfl⟩
    refine Do rfl (oS bD ?_);refine aw ?_;refine D2 1 3 ?_ ?_
    ·refine Do rfl (oL bj ?_)
     refine aw ?_;refine Dd 3 rfl (oS gg ?_);refine aw ?_;refine Dd 4 rfl (oS bj ?_);refine aw ?_;refine aT (by kernel_rfl) dw ?_;refine fY ?_;refine aw ?_;refine jg ?_;refine ku [D] [] bD gg bj results184 ?_;exact⟨fl.head?,false,fl.length,by rw[jo,oW],rfl,rfl⟩
    refine Do rfl (oS gg ?_);refine aw ?_;refine Dd 1 rfl (oL bj ?_);refine aw ?_;refine Dd 4 rfl (oS bj ?_);refine aw ?_;refine aT (by kernel_rfl) dw ?_;refine fY ?_;refine aw ?_;refine jg ?_;refine ku [D] [] bD gg bj results184 ?_;exact⟨fl.head?,false,fl.length,by rw[jo,oW],rfl,rfl⟩
   refine Do rfl (oL bj ?_);refine aw ?_;refine Dd 0 rfl (oL bD ?_);refine aw ?_;refine Dd 2 rfl (oS bD ?_);refine aw ?_;refine Dd 3 rfl (oS gg ?_);refine aw ?_;refine Dd 4 rfl (oS bj ?_);refine aw ?_;refine aT (by kernel_rfl) dw ?_;refine fY ?_;refine aw ?_;refine jg ?_;refine ku [D] [] bD gg bj results184 ?_;exact⟨fl.head?,false,fl.length,by rw[jo,oW],rfl,rfl⟩
  refine nc rfl (by exact congrArg (!·) (decide_eq_false (λe=>oW (hz3.1 (by omega))))) ?_;refine gx ?_;refine D1 mix .nil (by kernel_rfl) λF3 WC sP fJ=> ?_;refine D2 0 1 ?_ ?_
  ·refine Do rfl (oL bD ?_)
   refine aw ?_;refine D2 1 2 ?_ ?_
   ·refine Do rfl (oL bj ?_)
    refine aw ?_;refine Dd 2 rfl (oS bD ?_);refine aw ?_;refine Dd 3 rfl (oS gg ?_);refine aw ?_;refine Dd 4 rfl (oS bj ?_);refine aw ?_;refine aT (by kernel_rfl) fJ ?_;refine fY ?_;refine aw ?_;refine jg ?_;refine aw ?_;refine ku [D] [] bD gg bj results184 ?_;refine⟨fl.find? λq=> !act q,false,fl.length, ?_,rfl,rfl⟩;rw[jo];cases h:(fl.find? λq=> !act q)with
    |none=>exact absurd h oW
    |some z=>rfl
   refine Do rfl (oS bD ?_);refine aw ?_;refine D2 1 3 ?_ ?_
   ·refine Do rfl (oL bj ?_)
    refine aw ?_;refine Dd 3 rfl (oS gg ?_);refine aw ?_;refine Dd 4 rfl (oS bj ?_);refine aw ?_;refine aT (by kernel_rfl) fJ ?_;refine fY ?_;refine aw ?_;refine jg ?_;refine aw ?_;refine ku [D] [] bD gg bj results184 ?_;refine⟨fl.find? λq=> !act q,false,fl.length, ?_,rfl,rfl⟩;rw[jo];cases h:(fl.find? λq=> !act q)with
    |none=>exact absurd h oW
    |some z=>rfl
   refine Do rfl (oS gg ?_);refine aw ?_;refine Dd 1 rfl (oL bj ?_);refine aw ?_;refine Dd 4 rfl (oS bj ?_);refine aw ?_;refine aT (by kernel_rfl) fJ ?_;refine fY ?_;refine aw ?_;refine jg ?_;refine aw ?_;refine ku [D] [] bD gg bj results184 ?_;refine⟨fl.find? λq=> !act q,false,fl.length, ?_,rfl,rfl⟩;rw[jo];cases h:(fl.find? λq=> !act q)with
   |none=>exact absurd h oW
   |some z=>rfl
  refine Do rfl (oL bj ?_);refine aw ?_;refine Dd 0 rfl (oL bD ?_);refine aw ?_;refine Dd 2 rfl (oS bD ?_);refine aw ?_;refine Dd 3 rfl (oS gg ?_);refine aw ?_;refine Dd 4 rfl (oS bj ?_);refine aw ?_;refine aT (by kernel_rfl) fJ ?_;refine fY ?_;refine aw ?_;refine jg ?_;refine aw ?_;refine ku [D] [] bD gg bj results184 ?_;refine⟨fl.find? λq=> !act q,false,fl.length, ?_,rfl,rfl⟩;rw[jo];cases h:(fl.find? λq=> !act q)with
  |none=>exact absurd h oW
  |some z=>rfl
 ·rintro D Zs ⟨a1,q1,r1,hl,jb,ux,dD,Gy,rfl⟩
  refine bd ?_;simp only[oU,cap,abT];refine ku [D] [] bD gg bj results184 ?_;exact⟨some q1,true,_,by rw[hl];exact(My jb ux dD Gy).symm,rfl,rfl⟩
 rintro id D Zs ⟨rfl,a1,r1,hl,ux,dD,rfl⟩;refine bd ?_;have jo:=AT (act:=act) (n:=5) (b:=r1) ux (.inl dD);rw[<-hl]at jo;generalize mP:cz own a1=fl at*;unfold KZ;simp only[oU,cap,abT];have LA:∀z∈fl,At C z:=λz hz=>xA z (by rw[hl];rw[<-mP]at hz;unfold cz at hz;exact agW _ (abG.1 hz).1);obtain⟨hz3,hz4⟩:=Jm K LA (fl.find? λq=> !act q) (λq e=>af0 e);refine gx ?_;refine pt ?_;refine Xp (oL bD ?_);refine Xi Cm ?_;refine nS ?_;by_cases oW:(fl.find? λq=> !act q)=none
 ·refine lQ rfl (by exact congrArg (!·) (decide_eq_true (by rw[oW];rfl))) ?_
  refine lJ ?_;refine aw ?_;refine gx ?_;refine D1 mix .nil (by kernel_rfl) λF4 le4 LF rF=> ?_;refine D2 0 1 ?_ ?_
  ·refine Do rfl (oL bD ?_)
   refine aw ?_;refine D2 1 2 ?_ ?_
   ·refine Do rfl (oL bj ?_)
    refine aw ?_;refine Dd 2 rfl (oS bD ?_);refine aw ?_;refine Dd 3 rfl (oS gg ?_);refine aw ?_;refine Dd 4 rfl (oS bj ?_);refine aw ?_;refine aT (by kernel_rfl) rF ?_;refine fY ?_;refine aw ?_;refine jg ?_;refine ku [D] [] bD gg bj results184 ?_;exact⟨fl.head?,false,fl.length,by rw[jo,oW],rfl,rfl⟩
   refine Do rfl (oS bD ?_);refine aw ?_;refine D2 1 3 ?_ ?_
   ·refine Do rfl (oL bj ?_)
    refine aw ?_;refine Dd 3 rfl (oS gg ?_);refine aw ?_;refine Dd 4 rfl (oS bj ?_);refine aw ?_;refine aT (by kernel_rfl) rF ?_;refine fY ?_;refine aw ?_;refine jg ?_;refine ku [D] [] bD gg bj results184 ?_;exact⟨fl.head?,false,fl.length,by rw[jo,oW],rfl,rfl⟩
   refine Do rfl (oS gg ?_);refine aw ?_;refine Dd 1 rfl (oL bj ?_);refine aw ?_;refine Dd 4 rfl (oS bj ?_);refine aw ?_;refine aT (by kernel_rfl) rF ?_;refine fY ?_;refine aw ?_;refine jg ?_;refine ku [D] [] bD gg bj results184 ?_;exact⟨fl.head?,false,fl.length,by rw[jo,oW],rfl,rfl⟩
  refine Do rfl (oL bj ?_);refine aw ?_;refine Dd 0 rfl (oL bD ?_);refine aw ?_;refine Dd 2 rfl (oS bD ?_);refine aw ?_;refine Dd 3 rfl (oS gg ?_);refine aw ?_;refine Dd 4 rfl (oS bj ?_);refine aw ?_;refine aT (by kernel_rfl) rF ?_;refine fY ?_;refine aw ?_;refine jg ?_;refine ku [D] [] bD gg bj results184 ?_;exact⟨fl.head?,false,fl.length,by rw[jo,oW],rfl,rfl⟩
 refine nc rfl (by exact congrArg (!·) (decide_eq_false (λe=>oW (hz3.1 (by omega))))) ?_;refine gx ?_;refine D1 mix .nil (by kernel_rfl) λF5 le5 Xj vR=> ?_;refine D2 0 1 ?_ ?_
 ·refine Do rfl (oL bD ?_)
  refine aw ?_;refine D2 1 2 ?_ ?_
  ·refine Do rfl (oL bj ?_)
   refine aw ?_;refine Dd 2 rfl (oS bD ?_);refine aw ?_;refine Dd 3 rfl (oS gg ?_);refine aw ?_;refine Dd 4 rfl (oS bj ?_);refine aw ?_;refine aT (by kernel_rfl) vR ?_;refine fY ?_;refine aw ?_;refine jg ?_;refine aw ?_;refine ku [D] [] bD gg bj results184 ?_;refine⟨fl.find? λq=> !act q,false,fl.length, ?_,rfl,rfl⟩;rw[jo];cases h:(fl.find? λq=> !act q)with
   |none=>exact absurd h oW
   |some z=>rfl
  refine Do rfl (oS bD ?_);refine aw ?_;refine D2 1 3 ?_ ?_
  ·refine Do rfl (oL bj ?_)
   refine aw ?_;refine Dd 3 rfl (oS gg ?_);refine aw ?_;refine Dd 4 rfl (oS bj ?_);refine aw ?_;refine aT (by kernel_rfl) vR ?_;refine fY ?_;refine aw ?_;refine jg ?_;refine aw ?_;refine ku [D] [] bD gg bj results184 ?_;refine⟨fl.find? λq=> !act q,false,fl.length, ?_,rfl,rfl⟩;rw[jo];cases h:(fl.find? λq=> !act q)with
   |none=>exact absurd h oW
   |some z=>rfl
  refine Do rfl (oS gg ?_);refine aw ?_;refine Dd 1 rfl (oL bj ?_);refine aw ?_;refine Dd 4 rfl (oS bj ?_);refine aw ?_;refine aT (by kernel_rfl) vR ?_;refine fY ?_;refine aw ?_;refine jg ?_;refine aw ?_;refine ku [D] [] bD gg bj results184 ?_;refine⟨fl.find? λq=> !act q,false,fl.length, ?_,rfl,rfl⟩;rw[jo];cases h:(fl.find? λq=> !act q)with
  |none=>exact absurd h oW
  |some z=>rfl
 refine Do rfl (oL bj ?_);refine aw ?_;refine Dd 0 rfl (oL bD ?_);refine aw ?_;refine Dd 2 rfl (oS bD ?_);refine aw ?_;refine Dd 3 rfl (oS gg ?_);refine aw ?_;refine Dd 4 rfl (oS bj ?_);refine aw ?_;refine aT (by kernel_rfl) vR ?_;refine fY ?_;refine aw ?_;refine jg ?_;refine aw ?_;refine ku [D] [] bD gg bj results184 ?_;refine⟨fl.find? λq=> !act q,false,fl.length, ?_,rfl,rfl⟩;rw[jo];cases h:(fl.find? λq=> !act q)with
 |none=>exact absurd h oW
 |some z=>rfl
end Go.Proofs.YtcbcjolpdljbiaaGreat
