/- Part Pg of the proof. -/
import Derived.Test.YtdolmecackmjdaaGreatDoorPd
import Derived.Test.YtdolmecackmjdaaGreatDoorPf
set_option maxRecDepth 100000
open List renaming mem_append → adP, mem_flatten → aes, getElem_of_mem → aaz, getD_eq_getElem?_getD → aab, getElem?_eq_getElem → aac, getElem_mem → aam, getElem?_eq_none → aat, Sublist → afK, find?_eq_none → aef, getElem?_map → aap, head?_drop → ael, length_erase_of_mem → aeS, mem_of_mem_drop → ae7, mem_of_mem_head? → aaI, map_set → adF, length_set → aaj, getElem_map → ad4, getElem_inj → aeE, append_assoc → adp, Perm → aaq, perm_append_comm → ad0, flatten_cons → aeT, mem_append_right → ad2, nodup_append → adk, eq_nil_of_length_eq_zero → aaw, length_append → aal, nodup_cons → aar, mem_cons → aau, length_eraseIdx_of_lt → aeN, getElem?_eraseIdx_of_ge → aaE, mem_singleton → aaA, mem_cons_of_mem → aag, eq_nil_iff_forall_not_mem → aeB, replicate → aae, getElem?_replicate → aaG, length_replicate → ado, map_replicate → adj
open Nat renaming pow_le_pow_right → adv, le_trans → aei, mod_lt → aed, zero_le → aay, pow_lt_pow_iff_right → aeW, pow_succ → adI
open Decidable renaming byContradiction → aak
open Go.Proofs.Tryz renaming prog → aaa
open Go.Proofs.Tryz
namespace Go.Proofs.YtdolmecackmjdaaGreatDoor
open Go Go.cV Go.Proofs.YtdolmecackmjdaaGreatDoor.Cs
theorem Cs.x6.wA{C:Cs}{c p:Nat}(h:x6 C c p)(A:By):x6 (C.wA A) c p:=⟨⟨h.i,h.own,h.al,h.k⟩,h.cl,h.tk,h.lv⟩
theorem Cs.x6.ofA{C:Cs}{c p:Nat}{A:By}(h:x6 (C.wA A) c p):x6 C c p:=⟨⟨h.i,h.own,h.al,h.k⟩,h.cl,h.tk,h.lv⟩
theorem Cs.Ok.wA{C:Cs}(K:Ok C)(A:By):Ok (C.wA A):=
 ⟨⟨K.p0,K.p1,K.p8,K.n0,K.n1,K.l0,K.l1,K.s0,K.pl,K.rl⟩,λx h=>⟨(K.pg x h).cl,(K.pg x h).gl,(K.pg x h).tl,(K.pg x h).UD,(K.pg x h).QR,(K.pg x h).nd,(K.pg x h).held,(K.pg x h).no⟩,
  λc p h=>(K.fr c p h).wA A,K.fn,λc p h=>K.fa c p h.ofA,K.ft,K.fp,K.fs,K.sp⟩
theorem Cs.At.wA{C:Cs}{p:Nat}(h:At C p)(A:By):At (C.wA A) p:=⟨h.i,h.own,h.al,h.k⟩
theorem Cs.Live.wA{C:Cs}{p:Nat}(h:Live C p)(A:By):Live (C.wA A) p:=⟨h.toAt.wA A,h.tk⟩
theorem cg (C:Cs)(A:By):(C.wA A).A=A:=rfl
theorem ZX{C:Cs}(K:Ok C){p q:Nat}(L:At C p)(M:At C q){a n o w:Nat}(ha:a+n≤C.sz (C.cl q))(ho:o+w≤C.sz (C.cl p))(h:p=q→a+n≤o∨o+w≤a):p+o+w≤q+a∨q+a+n≤p+o:=by
 by_cases e:p=q
 ·subst e
  rcases h rfl with h|h<;>omega
 ·rcases apart K L M e with h|h<;>omega
theorem jJ{C:Cs}(K:Ok C){p q:Nat}(L:At C p)(M:At C q){a n v o w:Nat}(ha:a+n≤C.sz (C.cl q))(ho:o+w≤C.sz (C.cl p))(h:p=q→a+n≤o∨o+w≤a):rd (wr C.A (q+a) n v) (p+o) w=rd C.A (p+o) w:=
 aJ _ _ _ _ _ _ (ZX K L M ha ho h)
theorem Fq{C:Cs}(K:Ok C){p q:Nat}(L:At C p)(M:At C q){a n v o w:Nat}(ha:a+n≤C.sz (C.cl q))(ho:o+w≤C.sz (C.cl p))(h:p=q→a+n≤o∨o+w≤a):iC (wr C.A (q+a) n v) (p+o) w=iC C.A (p+o) w:=
 pD _ _ _ _ _ _ (ZX K L M ha ho h)
structure Kept (C:Cs)(A:By)(p:Nat):Prop where
 kl:kl A p=kl C.A p
 vl:vl A p=vl C.A p
 key:aE A p=aE C.A p
 it:gC C p→gC (C.wA A) p
theorem tG{C:Cs}(K:Ok C){p q:Nat}(L:At C p)(M:At C q)(I:gC C p){a n v:Nat}(ha:a+n≤12):Kept C (wr C.A (q+a) n v) p:=by
 have n1:=(L.aX K).2.1
 have m1:=(M.aX K).2.1
 have hf:=I.fits
 have e1:kl (wr C.A (q+a) n v) p=kl C.A p:=jJ K L M (by omega) (by omega) (λ_=>by omega)
 have e2:vl (wr C.A (q+a) n v) p=vl C.A p:=jJ K L M (by omega) (by omega) (λ_=>by omega)
 refine⟨e1,e2, ?_,λJ=>⟨?_, ?_, ?_, ?_⟩⟩
 ·unfold aE
  rw[e1]
  exact Fq K L M (by omega) (by omega) (λ_=>by omega)
 ·rw[cg,e1];exact J.k0
 ·rw[cg,e1,e2];exact J.fits
 ·rw[cg,jJ K L M (by omega) (by omega) (λ_=>by omega)];exact J.exp
 rw[cg,jJ K L M (by omega) (by omega) (λ_=>by omega)];exact J.tch
def CA (A:By):List Nat→Prop
 | []=>True
 |p::l=>rd A p 4=nO l.head?∧CA A l
structure Tb where
 aB:Nat
 n:Nat
 size:Nat
 nb:List (List Nat)
 ob:List (List Nat)
 mv:Nat
 st:Nat
namespace Tb
def bk (T:Tb)(h:Nat):Bool×Nat:=if 0<T.ob.length∧T.mv≤h % T.ob.length then(true,h % T.ob.length)else(false,h % T.nb.length)
def ch (T:Tb)(x:Bool×Nat):List Nat:=if x.1 then T.ob.getD x.2 []else T.nb.getD x.2 []
def cj (T:Tb)(x:Bool×Nat)(c:List Nat):Tb:=if x.1 then{T with ob:=T.ob.set x.2 c}else{T with nb:=T.nb.set x.2 c}
def all (T:Tb):List Nat:=T.nb.flatten++T.ob.flatten
end Tb
def abd (z:Int)(c:UInt8):Int:=IntKind.u64.wrap (IntKind.u64.wrap ((BitVec.ofInt 64 z^^^BitVec.ofInt 64 (c.toNat:Int)).toNat:Int)*1099511628211)
def Q0 (l:List UInt8):Int:=l.foldl abd 14695981039346656037
def bJ (l:List UInt8):Nat:=(Q0 l).toNat
theorem A8 (l:List UInt8)(c:UInt8):Q0 (l++ [c])=abd (Q0 l) c:=by unfold Q0;rw[List.foldl_append];rfl
theorem G8 (z:Int):0≤IntKind.u64.wrap z∧IntKind.u64.wrap z<18446744073709551616:=by
 rw[IntKind.wrap_u64]
 omega
theorem HX (l:List UInt8):0≤Q0 l∧Q0 l<18446744073709551616:=by
 rcases List.eq_nil_or_concat l with rfl|⟨m,c,rfl⟩
 ·decide
 rw[List.concat_eq_append,A8];exact G8 _
theorem Ge (l:List UInt8):Q0 l=(bJ l:Int)∧bJ l<18446744073709551616:=by
 have:=HX l
 unfold bJ
 omega
structure cD (C:Cs)(T:Tb):Prop where
 pw:∃m,m≤20∧T.nb.length=2^m
 po:T.ob= []∨∃m,m≤20∧T.ob.length=2^m
 st:(T.st=0∧T.ob= [])∨(T.st=2∧0<T.ob.length∧T.mv≤T.ob.length)
 mp:∃m,m≤20∧T.aB=2^m
 sz:T.size=T.nb.length
 J5:16≤T.size
 sm:T.size≤T.aB
 mv:T.mv≤1048576
 n:T.n=T.all.length
 nd:T.all.Nodup
 li:∀x,CA C.A (T.ch x)
 lv:∀p∈T.all,Live C p
 it:∀p∈T.all,gC C p
 bu:∀x p,p∈T.ch x→T.bk (bJ (aE C.A p))=x
 kd:∀p∈T.all,∀q∈T.all,aE C.A p=aE C.A q→p=q
theorem Tb.FM{T:Tb}{p:Nat}:p∈T.all↔∃x,p∈T.ch x:=by
 unfold all ch
 rw[adP,aes,aes]
 constructor
 ·rintro(⟨l,h1,h2⟩|⟨l,h1,h2⟩)
  ·obtain⟨i,hi,rfl⟩:=aaz h1
   exact⟨(false,i),by simpa[aab,hi]using h2⟩
  obtain⟨i,hi,rfl⟩:=aaz h1
  exact⟨(true,i),by simpa[aab,hi]using h2⟩
 rintro⟨⟨f,i⟩,h⟩
 rcases f with _|_
 ·left
  simp only[Bool.false_eq_true,if_false,aab]at h
  by_cases hi:i<T.nb.length
  ·rw[aac hi]at h
   exact⟨_,aam hi,h⟩
  rw[aat (by omega)]at h
  cases h
 right
 simp only[if_true,aab]at h
 by_cases hi:i<T.ob.length
 ·rw[aac hi]at h
  exact⟨_,aam hi,h⟩
 rw[aat (by omega)]at h
 cases h
theorem Tb.fD{T:Tb}{x:Bool×Nat}{p:Nat}(h:p∈T.ch x):p∈T.all:=FM.2 ⟨x,h⟩
theorem Tb.ml (T:Tb)(x:Bool×Nat):afK (T.ch x) T.all:=by
 unfold ch all
 rcases x with⟨f,i⟩
 have g:∀(L:List (List Nat)),afK (L.getD i []) L.flatten:=λL=>by
  by_cases hi:i<L.length
  ·rw[aab,aac hi]
   exact List.sublist_flatten_of_mem (aam hi)
  rw[aab,aat (by omega)]
  exact List.nil_sublist _
 rcases f with _|_
 ·exact(g T.nb).trans (List.sublist_append_left _ _)
 exact(g T.ob).trans (List.sublist_append_right _ _)
def Tb.get (T:Tb)(C:Cs)(k:List UInt8):Option Nat:=T.all.find? λp=>decide (aE C.A p=k)
theorem get_some{C:Cs}{T:Tb}(O:cD C T){p:Nat}{k:List UInt8}(h:p∈T.all)(hk:aE C.A p=k):T.get C k=some p:=by
 unfold Tb.get
 cases hf:T.all.find? (λp=>decide (aE C.A p=k))with
 |none=>exact absurd hk (by simpa using aef.1 hf p h)
 |some q=>
  have h1:=List.mem_of_find?_eq_some hf
  have h2:=List.find?_some hf
  rw[O.kd p h q h1 (by rw[hk,of_decide_eq_true h2])]
theorem get_none{C:Cs}{T:Tb}{k:List UInt8}(h:∀p∈T.all,aE C.A p≠k):T.get C k=none:=by
 unfold Tb.get
 rw[aef]
 intro p hp
 simpa using h p hp
theorem DA{C:Cs}{T:Tb}(O:cD C T){p:Nat}(h:p∈T.all):p∈T.ch (T.bk (bJ (aE C.A p))):=by
 obtain⟨x,hx⟩:=Tb.FM.1 h
 rw[O.bu x p hx];exact hx
theorem rz{C:Cs}{T:Tb}(O:cD C T)(x:Bool×Nat):(T.ch x).length≤T.n:=by
 rw[O.n]
 exact(T.ml x).length_le
theorem rk{A:By}:∀{l:List Nat} {k:Nat} (_:CA A l) (hk:k<l.length),rd A l[k] 4=nO (l.drop (k+1)).head?
 |_::l,0,h,_=>h.1
 |_::l,k+1,h,hk=>rk (l:=l) h.2 (by simpa using hk)
open Go Go.cV Go.Proofs.YtdolmecackmjdaaGreatDoor.Cs
theorem Hb{l:List UInt8}{k:Nat}(h:k<l.length):l.take (k+1)=l.take k++ [l[k]]:=by
 rw[List.take_add_one,aac h];rfl
theorem WT (a:Option Addr)(m c:Nat)(l:List UInt8)(hm:m=l.length)(hl:l.length<281474976710656):
  aF aaa 128 [.slice a m c] (λh=>eB h a (ak l)) [] (λv H=>v= .int .u64 (bJ l:Int)∧H= []):=by
 refine af func128 rfl ntmps128 rfl ?_
 intro F r
 refine gP ?_
 refine Lo (ι:=Nat) [9,10,11,5,12,13,14,15,16,3,17,8] (λk=>k≤m) (λk=> [(3, .int .u64 (Q0 (l.take k))),(8, .int .i64 (k:Int))]) (λk=> []) (λk=>m-k) (0) (by simp) ?_
 rintro k hI
 refine bq ?_
 refine aw ?_
 refine ax rfl ?_ ?_
 ·intro hk
  replace hk:=aL hk
  have cB:k<l.length:=by omega
  have kb:(ak l)[k]?=some (.int .u8 ((l[k].toNat:Nat):Int)):=by unfold ak;rw[aap,aac cB];rfl
  have hc:=l[k].toNat_lt
  refine br ?_
  refine Li (Ix T.gQ) ?_
  refine qY ?_
  refine aG ?_
  refine ay (t:=3) (v':=(.int .u64 (Q0 (l.take (k+1))))) rfl (by(rw[Hb cB,A8];rfl)) ?_
  refine Ro (k+1) (by omega) (by omega)
 intro hk
 replace hk:=aL hk
 obtain rfl:k=m:=by omega
 rw[List.take_of_length_le (by omega),(Ge l).1]
 refine bA ?_
 refine Rt [] results128 ?_
 exact⟨rfl,rfl⟩
structure oa where
 nk:Nat
 ok:Option Nat
def au (l:List (List Nat)):List Nat:=l.map λc=>nO c.head?
theorem lI (l:List (List Nat)):(au l).length=l.length:=by simp[au]
def eT (b:Nat)(T:Tb)(y:oa):List Value:= [.pointer (some ⟨b,0,none⟩), .int .i64 (T.aB:Int), .int .i64 (T.n:Int), .int .i64 (T.size:Int), .slice (some ⟨y.nk,0,none⟩) T.nb.length T.nb.length,Qo y.ok T.ob.length, .int .i64 (T.mv:Int), .int .i64 (T.st:Int)]
def kR (t b:Nat)(T:Tb)(y:oa):List aa:= [ag t 145 (eT b T y),ag y.nk 163 (aC (au T.nb)),jd y.ok 163 (aC (au T.ob))]
abbrev TL (t b:Nat)(T:Tb)(y:oa):aa:=aI (kR t b T y)
theorem jT (t b:Nat)(C:Cs)(W:Tb)(y:oa)(K:Ok C)(o:Option Nat)(ho:cz C o):
  aF aaa 83 [.pointer (some ⟨t,0,none⟩), .int .u32 (nO o:Int)] (λh=>In (Cl b C) h∧In (ag t 145 (eT b W y)) h) []
   (λv H=>v= .int .u64 (hO C o:Int)∧H= []):=by
 unfold eT
 refine af func83 rfl ntmps83 rfl ?_
 rintro F ⟨hc,ht⟩
 rcases o with _|q
 ·refine iu ?_
  refine gP ?_
  refine Rt [] results83 ?_
  exact⟨rfl,rfl⟩
 have M:=ho q rfl
 obtain⟨m1,m2,m3,m4,m5,m6⟩:=bK K M.toAt
 rw[nK]
 refine dh ?_
 refine dm ?_
 refine bI ?_
 refine ay (t:=17) (v':=(.int .i64 (q:Int))) rfl (by rw[show(8:Int)*(((q/8+1:Nat):Int)-1)=(q:Int) by omega]) ?_
 refine zl T.MC (UT b C K q M) .nil (λ_ le _=>In.mono hc le) ?_
 refine bI ?_
 refine Rt [] results83 ?_
 exact⟨rfl,rfl⟩
theorem iB (t b:Nat)(C:Cs)(W:Tb)(y:oa)(K:Ok C)(p:Nat)(o:Option Nat)(L:Live C p)(hk:kl C.A p≠0)(ho:cz C o)(hn:rd C.A p 4=nO o):
  aF aaa 86 [.pointer (some ⟨t,0,none⟩), .int .u64 (C.hd p:Int)] (λh=>In (Cl b C) h∧In (ag t 145 (eT b W y)) h) []
   (λv H=>v= .int .u64 (hO C o:Int)∧H= []):=by
 unfold eT
 refine af func86 rfl ntmps86 rfl ?_
 rintro F ⟨hc,ht⟩
 refine dg ?_
 refine zl T.yK (qz b C K p 0 o L hk (by omega) ho hn) .nil (λ_ le _=>In.mono hc le) ?_
 refine bA ?_
 refine Rt [] results86 ?_
 exact⟨rfl,rfl⟩
theorem nG (t b:Nat)(C:Cs)(W:Tb)(y:oa)(K:Ok C)(p:Nat)(L:Live C p)(I:gC C p):
  aF aaa 161 [.pointer (some ⟨t,0,none⟩), .int .u64 (C.hd p:Int)] (λh=>In (Cl b C) h∧In (ag t 145 (eT b W y)) h) []
   (λv H=>∃kb,v= .slice (some ⟨kb,0,none⟩) (kl C.A p) (kl C.A p)∧H= [own (some ⟨kb,0,none⟩) (kl C.A p) 5 1 (ak (aE C.A p))]):=by
 unfold eT
 refine af func161 rfl ntmps161 rfl ?_
 rintro F ⟨hc,ht⟩
 refine dg ?_
 refine Lp (oC T.EX rfl rfl (vq b C K p L I) .nil (λ_ le _=>In.mono hc le) ?_)
 rintro v H' ⟨kb,vb,rfl,rfl⟩
 refine bd ?_
 unfold Ca
 refine bq ?_
 refine Lp (oA T.bE λb1=> ?_)
 refine dg ?_
 refine Rt [own (some ⟨kb,0,none⟩) (kl C.A p) 5 1 (ak (aE C.A p))] results161 ?_
 exact⟨kb,rfl,rfl⟩
def bkA (y:oa)(x:Bool×Nat):Addr:=⟨if x.1 then y.ok.getD 0 else y.nk,x.2,none⟩
theorem tU{a L m:Nat}(hL:L=2^m)(hm:m≤20)(ha:a<18446744073709551616):fX .and .u64 (a:Int) ((L-1:Nat):Int)=some ((a % L:Nat):Int):=by
 subst hL
 exact wi m (by omega) ha
theorem ou{L m:Nat}(hL:L=2^m)(hm:m≤20):1≤L∧L≤1048576:=by
 subst hL
 exact⟨Nat.one_le_two_pow,by
  have:=adv (n:=2) (by decide) hm
  exact aei this (by decide)⟩
theorem jU (t b:Nat)(C:Cs)(W:Tb)(y:oa)(k:Nat)(O:cD C {W with n:=k})(hy:y.ok=none→W.ob= [])(a:Option Addr)(m c:Nat)(l:List UInt8)(hm:m=l.length)(hl:l.length<281474976710656):
  aF aaa 84 [.pointer (some ⟨t,0,none⟩), .slice a m c] (λh=>In (ag t 145 (eT b W y)) h∧eB h a (ak l)) []
   (λv H=>v= .pointer (some (bkA y (W.bk (bJ l))))∧H= []):=by
 obtain⟨i,hi,ei⟩:=O.pw
 change W.nb.length=2^i at ei
 have po:W.ob= []∨∃m,m≤20∧W.ob.length=2^m:=O.po
 obtain⟨p1,p2⟩:=ou ei hi
 obtain⟨f1,f2⟩:=Ge l
 have hmn:=aed (bJ l) (show 0<W.nb.length by omega)
 unfold eT bkA
 rcases y with⟨nk,ok⟩
 dsimp only at hy⊢
 refine af func84 rfl ntmps84 rfl ?_
 rintro F ⟨ht,hr⟩
 refine br ?_
 refine zl T.YS (WT a m c l hm hl) .nil (λ_ le _=>hr.mono le) ?_
 rcases ok with _|ok
 ·refine Li As ?_
  refine mI ?_
  refine aw ?_
  refine ik 15 T.mix .nil λF1 je bR aM=> ?_
  have pJ:=In.mono ht je
  refine bI ?_
  refine ay (t:=45) (v':=(.int .i64 ((W.nb.length-1:Nat):Int))) rfl (by(congr 1;omega)) ?_
  refine Ti (Cv T.Km T.Rc) ?_
  refine Ti ((Im (hz:=tU ei hi f2))) ?_
  refine bf ?_
  refine gO aM ?_
  refine bf ?_
  refine Rt [] results84 ?_
  rw[show W.bk (bJ l)=(false,bJ l % W.nb.length)from if_neg (by rw[hy rfl];simp)]
  exact⟨rfl,rfl⟩
 have hol:W.ob.length≤1048576:=by
  rcases po with h|⟨j,hj,ej⟩
  ·rw[h];decide
  exact(ou ej hj).2
 refine oc ?_
 refine ax rfl ?_ ?_
 ·intro hlen
  replace hlen:=aL hlen
  obtain⟨j,hj,ej⟩:∃m,m≤20∧W.ob.length=2^m:=by
   rcases po with h|h
   ·rw[h]at hlen;exact absurd hlen (by decide)
   exact h
  refine aW ?_
  refine ay (t:=19) (v':=(.int .i64 ((W.ob.length-1:Nat):Int))) rfl (by(congr 1;omega)) ?_
  refine aA ?_
  refine Li ((Im (hz:=tU ej hj f2))) ?_
  have hmod:=aed (bJ l) (show 0<W.ob.length by omega)
  refine bI ?_
  refine ax rfl ?_ ?_
  ·intro GK
   replace GK:=aL GK
   refine bI ?_
   refine Rt [] results84 ?_
   rw[show W.bk (bJ l)=(true,bJ l % W.ob.length)from if_pos ⟨by omega,by omega⟩]
   exact⟨rfl,rfl⟩
  intro GK
  replace GK:=aL GK
  refine bf ?_
  refine aw ?_
  refine ik 15 T.mix .nil λF2 zM eG ez=> ?_
  have pJ:=In.mono ht zM
  refine bI ?_
  refine ay (t:=45) (v':=(.int .i64 ((W.nb.length-1:Nat):Int))) rfl (by(congr 1;omega)) ?_
  refine Ti (Cv T.Km T.Rc) ?_
  refine Ti ((Im (hz:=tU ei hi f2))) ?_
  refine bf ?_
  refine gO ez ?_
  refine bf ?_
  refine Rt [] results84 ?_
  rw[show W.bk (bJ l)=(false,bJ l % W.nb.length)from if_neg (by omega)]
  exact⟨rfl,rfl⟩
 intro hlen
 replace hlen:=aL hlen
 refine bf ?_
 refine aw ?_
 refine ik 15 T.mix .nil λF3 VQ uo gJ=> ?_
 have pJ:=In.mono ht VQ
 refine bI ?_
 refine ay (t:=45) (v':=(.int .i64 ((W.nb.length-1:Nat):Int))) rfl (by(congr 1;omega)) ?_
 refine Ti (Cv T.Km T.Rc) ?_
 refine Ti ((Im (hz:=tU ei hi f2))) ?_
 refine bf ?_
 refine gO gJ ?_
 refine bf ?_
 refine Rt [] results84 ?_
 rw[show W.bk (bJ l)=(false,bJ l % W.nb.length)from if_neg (by omega)]
 exact⟨rfl,rfl⟩
theorem VG{C:Cs}{W:Tb}(O:cD C W)(h:Nat):(∃i,W.bk h=(false,i)∧i<W.nb.length)∨(∃i,W.bk h=(true,i)∧i<W.ob.length):=by
 obtain⟨m,hm,e⟩:=O.pw
 obtain⟨p1,_⟩:=ou e hm
 unfold Tb.bk
 split
 ·next g=>exact .inr ⟨_,rfl,aed _ g.1⟩
 exact .inl ⟨_,rfl,aed _ (by omega)⟩
theorem ny{l:List (List Nat)}{i:Nat}(h:i<l.length):(aC (au l))[i]?=some (.int .u32 (nO (l.getD i []).head?:Int)):=
 qg (by unfold au;rw[aap,aab,aac h];rfl)
theorem tI{b i:Nat}{e:TypeId}{cs:List Value}{h:Hp}{v:Value}(o:In (ag b e cs) h)(hv:cs[i]?=some v):dI h ⟨b,i,none⟩=some v:=by
 obtain⟨k,q,l⟩:=o
 exact jN ((nI (i:=0) q).mono l) hv
theorem HV{t b:Nat}{C:Cs}{W:Tb}{y:oa}{hp:Hp}(O:cD C W)(hy:y.ok=none→W.ob= [])(aq:gw (kR t b W y) hp)(h:Nat):dI hp (bkA y (W.bk h))=some (.int .u32 (nO (W.ch (W.bk h)).head?:Int)):=by
 obtain⟨_,h1,h2,_⟩:=aq
 rcases VG O h with⟨i,e,hi⟩|⟨i,e,hi⟩
 ·rw[e]
  exact tI h1 (ny hi)
 rw[e]
 rcases y with⟨nk,ok⟩
 rcases ok with _|ok
 ·rw[hy rfl]at hi;cases hi
 exact tI h2 (ny hi)
theorem tN{c:List Nat}{k:Nat}(h:k<c.length):(c.drop k).head?=some c[k]:=by
 rw[ael,aac h]
theorem T7{c:List Nat}{k:Nat}(h:¬k<c.length):(c.drop k).head?=none:=by
 rw[ael,aat (by omega)]
theorem lE:∀(N:Nat) (l:List Nat),l.Nodup→(∀p∈l,p<N)→l.length≤N
 |0,l,_,h=>by
  cases l with
  |nil=>simp
  |cons a l=>exact absurd (h a (by simp)) (by omega)
 |N+1,l,hn,h=>by
  have:=lE N (l.erase N) (hn.erase N) λp hp=>by
   have h1:=h p (List.mem_of_mem_erase hp)
   have h2:p≠N:=λe=>by
    rw[e]at hp
    exact(List.Nodup.mem_erase_iff hn).1 hp|>.1 rfl
   omega
  have:=aeS (a:=N) (l:=l)
  by_cases hm:N∈l
  ·have:=aeS hm
   omega
  rw[List.erase_of_not_mem hm]at*
  omega
theorem x9{C:Cs}(K:Ok C){W:Tb}(O:cD C W):W.n≤1073741824:=by
 rw[O.n]
 refine lE _ _ O.nd λp hp=> ?_
 obtain⟨n1,n2,_,_,_,_,_,n8⟩:=(O.lv p hp).toAt.aX K
 have:=fC K.toFix
 omega
theorem lj (t b:Nat)(C:Cs)(K:Ok C)(W:Tb)(y:oa)(O:cD C W)(hy:y.ok=none→W.ob= [])(a:Option Addr)(m c:Nat)(l:List UInt8)(hm:m=l.length)(hl:l.length<281474976710656):
  aF aaa 39 [.pointer (some ⟨t,0,none⟩), .slice a m c] (λh=>In (Cl b C) h∧gw (kR t b W y) h∧eB h a (ak l)) []
   (λv H=>v= .tuple #[.int .u64 (hO C (W.get C l):Int), .bool (W.get C l).isSome]∧H= []):=by
 have li:=O.li (W.bk (bJ l))
 have cl:=rz O (W.bk (bJ l))
 have hn:=x9 K O
 have sub:∀p∈W.ch (W.bk (bJ l)),p∈W.all:=λp hp=>Tb.fD hp
 have key:∀p∈W.all,aE C.A p=l→p∈W.ch (W.bk (bJ l)):=λp hp e=>by
  have:=DA O hp
  rwa[e]at this
 have hc:=λ{hp:Hp} (aq:gw (kR t b W y) hp)=>HV O hy aq (bJ l)
 generalize hcc:W.ch (W.bk (bJ l))=cc at*
 have QS:∀k,cz C (cc.drop k).head?:=λk q hq=>O.lv q (sub q (ae7 (aaI hq)))
 refine af func39 rfl ntmps39 rfl ?_
 rintro F ⟨fx,aq,hr⟩
 have ht:=aq.1
 have kc:=hc aq
 unfold eT at ht
 refine dh ?_
 refine zl T.Al (jU t b C W y W.n O hy a m c l hm hl) .nil (λ_ le _=>⟨In.mono aq.1 le,hr.mono le⟩) ?_
 refine bf ?_
 refine zl T.Am (jT t b C W y K cc.head? (QS 0)) .nil (λ_ le _=>⟨In.mono fx le,In.mono aq.1 le⟩) ?_
 refine bL ?_
 refine Lo (ι:=Nat) [15,16,17,18,19,20,21,22,23,24,27,28,29,30,31,32,33,34,4,5,35,36,37,6,25,26,7] (λk=>k≤cc.length∧∀i (h:i<cc.length),i<k→aE C.A cc[i]≠l) (λk=> [(6, .int .u64 (hO C (cc.drop k).head?:Int)),(7, .int .i64 (k:Int))]) (λk=> []) (λk=>cc.length-k) (0) ⟨aay _,λi _ h=>absurd h (Nat.not_lt_zero _)⟩ ?_
 rintro k hI
 by_cases hk:k<cc.length
 ·have hp:=sub _ (aam hk)
  have L:=O.lv _ hp
  have I:=O.it _ hp
  obtain⟨m1,m2,m3,m4,m5,m6⟩:=bK K L.toAt
  rw[tN hk,bY]
  refine br ?_
  refine zt 17 ?_ (e:=by exact by rw[decide_eq_false (by omega)];rfl)
  refine dh ?_
  refine fB ?_
  refine eC ?_
  refine zl T.Vj (A6 b C K cc[k] L I a m c l hm hl) .nil (λ_ le _=>⟨In.mono fx le,hr.mono le⟩) ?_
  refine aA ?_
  refine ax rfl ?_ ?_
  ·intro hs
   replace hs:=aL hs
   refine eC ?_
   refine iV [] results39 ?_
   rw[get_some O hp (hs)]
   exact⟨rfl,rfl⟩
  intro hs
  replace hs:=aL hs
  refine br ?_
  refine zl T.xb (iB t b C W y K cc[k] (cc.drop (k+1)).head? L I.k0 (QS (k+1)) (rk li hk)) .nil (λ_ le _=>⟨In.mono fx le,In.mono aq.1 le⟩) ?_
  refine dh ?_
  refine aG ?_
  refine Ro (k+1) (⟨hk,λi h hi=>by rcases Nat.lt_succ_iff_lt_or_eq.1 hi with e|rfl;exact hI.2 i h e;exact hs⟩) ((by omega))
 rw[T7 hk]
 refine br ?_
 refine zf 17 ?_ (e:=by rfl)
 refine CD ?_
 refine iV [] results39 ?_
 have e:W.get C l=none:=get_none λp hp he=>by
  obtain⟨i,hi,rfl⟩:=aaz (key p hp he)
  exact hI.2 i hi (by omega) he
 rw[e]
 exact⟨rfl,rfl⟩
theorem lH (l:List (List Nat))(i:Nat)(c:List Nat):(aC (au l)).set i (.int .u32 (nO c.head?:Int))=aC (au (l.set i c)):=by
 unfold aC au
 rw[adF,adF]
theorem LV{C:Cs}(K:Ok C){p:Nat}(L:Live C p):IntKind.u32.wrap (C.hd p:Int)=(nO (some p):Int):=by
 obtain⟨m1,_⟩:=bK K L.toAt
 rw[IntKind.wrap_u32,nK]
 omega
theorem X5{C:Cs}(K:Ok C){o:Option Nat}(L:cz C o):IntKind.u32.wrap (hO C o:Int)=(nO o:Int):=by
 rcases o with _|p
 ·rfl
 exact LV K (L p rfl)
def Ci (W:Tb)(x:Bool×Nat):Prop:=if x.1 then x.2<W.ob.length else x.2<W.nb.length
theorem o7{C:Cs}{W:Tb}(O:cD C W)(h:Nat):Ci W (W.bk h):=by
 rcases VG O h with⟨i,e,hi⟩|⟨i,e,hi⟩<;>rw[e]<;>exact hi
theorem wb{t b:Nat}{W:Tb}{y:oa}{hp:Hp}(hy:y.ok=none→W.ob= [])(aq:gw (kR t b W y) hp){x:Bool×Nat}(hx:Ci W x):dI hp (bkA y x)=some (.int .u32 (nO (W.ch x).head?:Int)):=by
 obtain⟨_,h1,h2,_⟩:=aq
 rcases x with⟨_|_,i⟩
 ·exact tI h1 (ny hx)
 rcases y with⟨nk,ok⟩
 rcases ok with _|ok
 ·have:=hy rfl
  unfold Ci at hx
  rw[this]at hx;cases hx
 exact tI h2 (ny hx)
theorem Kz (t b:Nat)(W:Tb)(y:oa)(i:Nat)(c:List Nat):kR t b (W.cj (false,i) c) y= [ag t 145 (eT b W y),ag y.nk 163 (aC (au (W.nb.set i c))),jd y.ok 163 (aC (au W.ob))]:=by
 simp[kR,eT,Tb.cj]
theorem Ky (t b:Nat)(W:Tb)(y:oa)(i:Nat)(c:List Nat):kR t b (W.cj (true,i) c) y= [ag t 145 (eT b W y),ag y.nk 163 (aC (au W.nb)),jd y.ok 163 (aC (au (W.ob.set i c)))]:=by
 simp[kR,eT,Tb.cj]
theorem uX (t b:Nat)(C:Cs)(K:Ok C)(W:Tb)(y:oa)(hy:y.ok=none→W.ob= [])(x:Bool×Nat)(hx:Ci W x)(p:Nat)(L:Live C p)(hk:kl C.A p≠0)(ho:cz C (W.ch x).head?):
  aF aaa 162 [.pointer (some ⟨t,0,none⟩), .pointer (some (bkA y x)), .int .u64 (C.hd p:Int)] (λ_=>True) (Cl b C::kR t b W y)
   (λv H=>v= .tuple #[]∧H=Cl b (C.wA (wr C.A p 4 (nO (W.ch x).head?)))::kR t b (W.cj x (p::W.ch x)) y):=by
 have kp:=LV K L
 have QG:=λ{hp:Hp} (aq:gw (kR t b W y) hp)=>wb hy aq hx
 change aF _ _ _ _ [Cl b C,ag t 145 [.pointer (some ⟨b,0,none⟩), .int .i64 (W.aB:Int), .int .i64 (W.n:Int), .int .i64 (W.size:Int), .slice (some ⟨y.nk,0,none⟩) W.nb.length W.nb.length,Qo y.ok W.ob.length, .int .i64 (W.mv:Int), .int .i64 (W.st:Int)],ag y.nk 163 (aC (au W.nb)),jd y.ok 163 (aC (au W.ob))] _
 refine af func162 rfl ntmps162 rfl ?_
 intro F _
 refine aw ?_
 refine ik 10 T.mix (.cons (.there .here) (.cons (.there .here) (.cons (.there .here) .nil))) λF1 je bR aM=> ?_
 obtain⟨q1,q2,q3,_⟩:=bR
 have kc:=QG ⟨q1,q2,q3,trivial⟩
 refine dg ?_
 refine Tp (oC T.Am rfl rfl (jT t b C W y K (W.ch x).head? ho) .nil (λ_ le aq=>⟨aq.1,In.mono q1 le⟩) ?_)
 rintro v H' ⟨rfl,rfl⟩
 refine bd ?_
 refine gO aM ?_
 refine Tp (oC T.jK rfl rfl (db b C K p 0 (W.ch x).head? L hk (by omega) ho) (.cons (.there (.there (.there .here))) .nil) (λ_ _ _=>trivial) ?_)
 rintro v H' ⟨rfl,rfl⟩
 refine bd ?_
 rw[show p+4*0=p from rfl]
 refine aW ?_
 refine Li ((Cv T.Kx T.CT (hz:=kp))) ?_
 rcases x with⟨_|_,i⟩
 ·refine Li Nc ?_
  refine Lp (oS T.nc ?_ (i:=i) (hi:=by rw[jM,lI];exact hx))
  rw[show(aC (au W.nb)).set i (.int .u32 (nO (some p):Int))=aC (au (W.nb.set i (p::W.ch (false,i))))from lH W.nb i (p::W.ch (false,i))]
  refine aG ?_
  refine jA [Cl b (C.wA (wr C.A p 4 (nO (W.ch (false,i)).head?))),ag t 145 (eT b W y),ag y.nk 163 (aC (au (W.nb.set i (p::W.ch (false,i))))),jd y.ok 163 (aC (au W.ob))] results162 ?_
  exact⟨rfl,by rw[Kz]⟩
 obtain⟨ok,nF⟩:∃ok,y.ok=some ok:=by
  rcases h:y.ok with _|ok
  ·have e:=hy h
   unfold Ci at hx
   rw[e]at hx;cases hx
  exact⟨ok,rfl⟩
 rcases y with⟨nk,_⟩
 dsimp only at nF
 subst nF
 refine aA ?_
 refine Lp (oS T.nc ?_ (i:=i) (hi:=by rw[jM,lI];exact hx))
 rw[show(aC (au W.ob)).set i (.int .u32 (nO (some p):Int))=aC (au (W.ob.set i (p::W.ch (true,i))))from lH W.ob i (p::W.ch (true,i))]
 refine aG ?_
 refine jA [Cl b (C.wA (wr C.A p 4 (nO (W.ch (true,i)).head?))),ag t 145 (eT b W ⟨nk,some ok⟩),ag nk 163 (aC (au W.nb)),jd (some ok) 163 (aC (au (W.ob.set i (p::W.ch (true,i)))))] results162 ?_
 exact⟨rfl,by rw[Ky]⟩
def mO (A:By)(c:List Nat):Nat→By
 |0=>A
 |i+1=>wr A (c.getD i 0) 4 (nO (c.drop (i+2)).head?)
theorem lD (A:By)(c:List Nat)(i:Nat):mO A c (i+1)=wr A (c.getD i 0) 4 (nO (c.drop (i+2)).head?):=rfl
def mV (A:By)(c:List Nat)(j p:Nat):By:=wr (mO A c j) p 4 0
theorem v8{l:List (List Nat)}{i:Nat}{c:List Nat}(h:c.head?=(l.getD i []).head?):au (l.set i c)=au l:=by
 unfold au
 apply List.ext_getElem (by simp)
 intro k h1 h2
 simp only[List.length_map,aaj]at h1 h2
 rw[ad4,ad4,List.getElem_set]
 split
 ·next e=>
  subst e
  rw[h,aab,aac h2];rfl
 rfl
theorem Nw{t b:Nat}{W:Tb}{y:oa}{x:Bool×Nat}{c:List Nat}(h:c.head?=(W.ch x).head?):kR t b (W.cj x c) y=kR t b W y:=by
 rcases x with⟨_|_,i⟩
 ·rw[Kz,v8 h];rfl
 rw[Ky,v8 h];rfl
theorem Ek{c:List Nat}{j:Nat}:(c.eraseIdx (j+1)).head?=c.head?:=by
 cases c<;>simp
theorem kC{c:List Nat}{k:Nat}(h:k<c.length):c.getD k 0=c[k]:=by
 rw[aab,aac h];rfl
theorem Az (t b:Nat)(C:Cs)(K:Ok C)(W:Tb)(y:oa)(O:cD C W)(hy:y.ok=none→W.ob= [])(x:Bool×Nat)(hx:Ci W x)(c:List Nat)(hcc:W.ch x=c)(j:Nat)(hj:j<c.length)(p:Nat)(hp:c[j]=p):
  aF aaa 151 [.pointer (some ⟨t,0,none⟩), .int .u64 (C.hd p:Int)] (λ_=>True) (Cl b C::kR t b W y)
   (λv H=>v= .tuple #[]∧H=Cl b (C.wA (mV C.A c j p))::kR t b (W.cj x (c.eraseIdx j)) y):=by
 have QG:=λ{hp:Hp} (aq:gw (kR t b W y) hp)=>wb hy aq hx
 have li:=O.li x
 have nd:=(W.ml x).nodup O.nd
 have cl:=rz O x
 have hn:=x9 K O
 rw[hcc]at QG li nd cl
 have sub:∀q∈c,q∈W.all:=λq hq=>Tb.fD (x:=x) (by rw[hcc];exact hq)
 have QS:∀k,cz C (c.drop k).head?:=λk q hq=>O.lv q (sub q (ae7 (aaI hq)))
 have ha:p∈W.all:=sub p (by rw[←hp];exact aam hj)
 have L:=O.lv p ha
 have I:=O.it p ha
 have hbk:W.bk (bJ (aE C.A p))=x:=O.bu x p (by rw[hcc,←hp];exact aam hj)
 obtain⟨v1,v2,v3,v4,v5,v6⟩:=bK K L.toAt
 have lk:(aE C.A p).length=kl C.A p:=cK _ _ _
 have lf:=I.fits
 obtain⟨z1,z2,z3,_⟩:=L.toAt.aX K
 have f1:=K.toFix.p1
 change aF _ _ _ _ [Cl b C,ag t 145 [.pointer (some ⟨b,0,none⟩), .int .i64 (W.aB:Int), .int .i64 (W.n:Int), .int .i64 (W.size:Int), .slice (some ⟨y.nk,0,none⟩) W.nb.length W.nb.length,Qo y.ok W.ob.length, .int .i64 (W.mv:Int), .int .i64 (W.st:Int)],ag y.nk 163 (aC (au W.nb)),jd y.ok 163 (aC (au W.ob))] _
 refine af func151 rfl ntmps151 rfl ?_
 intro F _
 refine aW ?_
 refine Lp (oC T.ry rfl rfl (nG t b C W y K p L I) .nil (λ_ le aq=>⟨aq.1,aq.2.1⟩) ?_)
 rintro v H' ⟨kb,rfl,rfl⟩
 refine bd ?_
 refine zl T.Al (jU t b C W y W.n O hy (some ⟨kb,0,none⟩) (kl C.A p) (kl C.A p) (aE C.A p) lk.symm (by omega)) .nil (λ_ le aq=>⟨aq.2.2.1,bB aq.1⟩) ?_
 rw[hbk]
 refine Hh (H':= [Cl b C,ag t 145 [.pointer (some ⟨b,0,none⟩), .int .i64 (W.aB:Int), .int .i64 (W.n:Int), .int .i64 (W.size:Int), .slice (some ⟨y.nk,0,none⟩) W.nb.length W.nb.length,Qo y.ok W.ob.length, .int .i64 (W.mv:Int), .int .i64 (W.st:Int)],ag y.nk 163 (aC (au W.nb)),jd y.ok 163 (aC (au W.ob))]) ?_
 refine bf ?_
 refine aw ?_
 refine dJ (ι:=Unit) [12,13,14,15,16,17,18,19,20,21,22,23,24,25,26,27,28,29,5,6,30,31,32,33,34,35,36,37,38,39,40,41,42,43,44,45,46,49,50,51,47,48,52,53,54,55,56,57,58,59,60] (λu=>True) (λu=> [(0, .pointer (some ⟨t,0,none⟩)),(1, .int .u64 (C.hd p:Int))]) (λu=> [Cl b (C.wA (mO C.A c j)),TL t b (W.cj x (c.eraseIdx j)) y]) ?_ ?_
 ·refine iu ?_
  refine bq ?_
  refine Lp (oL T.nc ?_ (hk:=⟨_,rfl,λh _ aq=>QG aq.2⟩))
  refine zl T.Am (jT t b C W y K c.head? (QS 0)) .nil (λ_ le aq=>⟨aq.1,aq.2.1⟩) ?_
  rcases j with _|j
  ·have e0:c.head?=some p:=by rw[←hp];exact tN (k:=0) hj
   rw[e0,bY]
   refine bq ?_
   refine fB ?_ (e:=by exact decide_eq_true rfl)
   refine aW ?_
   refine zl T.xb (iB t b C W y K p (c.drop 1).head? L I.k0 (QS 1) (by rw[←hp];exact rk li hj)) .nil (λ_ le aq=>⟨aq.1,aq.2.1⟩) ?_
   refine Li ((Cv T.Kx T.CT (hz:=X5 K (QS 1)))) ?_
   rcases x with⟨_|_,i⟩
   ·refine Li Nc ?_
    refine Lp (oS T.nc ?_ (i:=i) (hi:=by rw[jM,lI];exact hx))
    rw[show(aC (au W.nb)).set i (.int .u32 (nO (c.drop 1).head?:Int))=aC (au (W.nb.set i (c.drop 1)))from lH W.nb i (c.drop 1)]
    refine aG ?_
    refine Hh (H':= [ag t 145 (eT b W y),ag y.nk 163 (aC (au (W.nb.set i (c.drop 1)))),jd y.ok 163 (aC (au W.ob)),Cl b C]) ?_
    rw[show c.drop 1=c.eraseIdx 0 by simp]
    refine az (H':= [TL t b (W.cj (false,i) (c.eraseIdx 0)) y,Cl b C]) (λ_ s=>fg (by rw[Kz];exact s)) ?_
    refine Me (()) (trivial)
   obtain⟨ok,nF⟩:∃ok,y.ok=some ok:=by
    rcases h:y.ok with _|ok
    ·have e:=hy h
     unfold Ci at hx
     rw[e]at hx;cases hx
    exact⟨ok,rfl⟩
   rcases y with⟨nk,_⟩
   dsimp only at nF
   subst nF
   refine aA ?_
   refine Lp (oS T.nc ?_ (i:=i) (hi:=by rw[jM,lI];exact hx))
   rw[show(aC (au W.ob)).set i (.int .u32 (nO (c.drop 1).head?:Int))=aC (au (W.ob.set i (c.drop 1)))from lH W.ob i (c.drop 1)]
   refine aG ?_
   refine Hh (H':= [ag t 145 (eT b W ⟨nk,some ok⟩),ag nk 163 (aC (au W.nb)),jd (some ok) 163 (aC (au (W.ob.set i (c.drop 1)))),Cl b C]) ?_
   rw[show c.drop 1=c.eraseIdx 0 by simp]
   refine az (H':= [TL t b (W.cj (true,i) (c.eraseIdx 0)) ⟨nk,some ok⟩,Cl b C]) (λ_ s=>fg (by rw[Ky];exact s)) ?_
   refine Me (()) (trivial)
  have hp0:(c.drop 0).head?=some c[0]:=tN (by omega)
  have L0:=O.lv c[0] (sub _ (aam (by omega)))
  have ne0:c[0]≠p:=λe=>by
   rw[←hp]at e
   have:=(aeE nd).1 e
   omega
  have ne0h:C.hd c[0]≠C.hd p:=λe=>ne0 (lW K L0.toAt L.toAt e)
  rw[show c.head?=some c[0]from hp0,bY]
  refine bq ?_
  refine dm ?_
  refine aW ?_
  refine Lp (oL T.nc ?_ (hk:=⟨_,rfl,λh _ aq=>QG aq.2⟩))
  refine zl T.Am (jT t b C W y K c.head? (QS 0)) .nil (λ_ le aq=>⟨aq.1,aq.2.1⟩) ?_
  rw[show c.head?=some c[0]from hp0,bY,←kC]
  refine bL ?_
  refine Lo (ι:=Nat) [30,31,32,33,34,35,36,37,38,39,40,41,42,43,44,45,46,49,50,51,5,47,48,6] (λk=>k≤j) (λk=> [(5, .int .u64 (C.hd (c.getD k 0):Int)),(6, .int .i64 (k:Int))]) (λk=> [Cl b C,ag t 145 [.pointer (some ⟨b,0,none⟩), .int .i64 (W.aB:Int), .int .i64 (W.n:Int), .int .i64 (W.size:Int), .slice (some ⟨y.nk,0,none⟩) W.nb.length W.nb.length,Qo y.ok W.ob.length, .int .i64 (W.mv:Int), .int .i64 (W.st:Int)],ag y.nk 163 (aC (au W.nb)),jd y.ok 163 (aC (au W.ob))]) (λk=>j-k) (0) (by simp) ?_
  rintro k hI
  have pL:k<c.length:=by omega
  have Lk:=O.lv c[k] (sub _ (aam pL))
  have Ik:=O.it c[k] (sub _ (aam pL))
  obtain⟨w1,w2,w3,w4,w5,w6⟩:=bK K Lk.toAt
  have hk1:k+1<c.length:=by omega
  have Lk1:=O.lv c[k+1] (sub _ (aam hk1))
  have VX:rd C.A c[k] 4=nO (some c[k+1]):=by rw[rk li pL,tN hk1]
  have lvk:cz C (some c[k+1]):=λq hq=>by cases hq;exact Lk1
  obtain⟨u1,u2,u3,u4,u5,u6⟩:=bK K Lk1.toAt
  rw[kC pL]
  refine br ?_
  refine zt 32 ?_ (e:=by exact by rw[decide_eq_false (by omega)];rfl)
  refine bf ?_
  refine zl T.xb (iB t b C W y K c[k] (some c[k+1]) Lk Ik.k0 lvk VX) .nil (λ_ le aq=>⟨aq.1,aq.2.1⟩) ?_
  rw[bY]
  by_cases hkj:k=j
  ·subst hkj
   rw[hp]
   refine aW ?_
   refine zf 39 ?_ (e:=by rw[decide_eq_true rfl];rfl)
   refine fK ?_
   refine ik 8 T.mix (.cons (.there .here) (.cons (.there .here) (.cons (.there .here) .nil))) λF1 je bR aM=> ?_
   obtain⟨q1,q2,q3,_⟩:=bR
   refine bL ?_
   refine Tp (oC T.xb rfl rfl (iB t b C W y K p (c.drop (k+2)).head? L I.k0 (QS (k+2)) (by rw[←hp];exact rk li hj)) .nil (λ_ le aq=>⟨aq.1,In.mono q1 le⟩) ?_)
   rintro v H' ⟨rfl,rfl⟩
   refine bd ?_
   refine gO aM ?_
   refine Tp (oC T.jK rfl rfl (db b C K c[k] 0 (c.drop (k+2)).head? Lk Ik.k0 (by omega) (QS (k+2))) (.cons (.there (.there (.there .here))) .nil) (λ_ _ _=>trivial) ?_)
   rintro v H' ⟨rfl,rfl⟩
   refine bd ?_
   refine Tn ?_
   rw[show wr C.A (c[k]+4*0) 4 (nO (c.drop (k+2)).head?)=mO C.A c (k+1) by rw[lD,kC pL];rfl]
   refine Hh (H':= [ag t 145 [.pointer (some ⟨b,0,none⟩), .int .i64 (W.aB:Int), .int .i64 (W.n:Int), .int .i64 (W.size:Int), .slice (some ⟨y.nk,0,none⟩) W.nb.length W.nb.length,Qo y.ok W.ob.length, .int .i64 (W.mv:Int), .int .i64 (W.st:Int)],ag y.nk 163 (aC (au W.nb)),jd y.ok 163 (aC (au W.ob)),Cl b (C.wA (mO C.A c (k+1)))]) ?_
   refine az (H':= [TL t b (W.cj x (c.eraseIdx (k+1))) y,Cl b (C.wA (mO C.A c (k+1)))]) (λ_ s=>fg (by rw[Nw (by rw[hcc];exact Ek)];exact s)) ?_
   refine Me (()) (trivial)
  have ne1:c[k+1]≠p:=λe=>by
   rw[←hp]at e
   have:=(aeE nd).1 e
   omega
  have ne1h:C.hd c[k+1]≠C.hd p:=λe=>ne1 (lW K Lk1.toAt L.toAt e)
  refine aW ?_
  refine zt 39 ?_ (e:=by rw[decide_eq_false (by omega)];rfl)
  refine dh ?_
  refine fB ?_
  refine bL ?_
  refine zl T.xb (iB t b C W y K c[k] (some c[k+1]) Lk Ik.k0 lvk VX) .nil (λ_ le aq=>⟨aq.1,aq.2.1⟩) ?_
  rw[bY,←kC]
  refine dh ?_
  refine aG ?_
  refine Ro (k+1) (by omega) (by omega)
 rintro u hI
 have pO:kl (mO C.A c j) p≠0:=by
  rcases j with _|j
  ·exact I.k0
  have Lq:=O.lv c[j] (sub _ (aam (by omega)))
  have e:=tG K L.toAt Lq.toAt I (a:=0) (n:=4) (v:=nO (c.drop (j+2)).head?) (by omega)
  rw[lD,kC (by omega)]
  exact λh=>I.k0 (by rw[←e.kl];exact h)
 refine Hh (H':= [TL t b (W.cj x (c.eraseIdx j)) y,Cl b (C.wA (mO C.A c j))]) ?_
 refine tK ?_
 refine az (H':= [ag t 145 (eT b (W.cj x (c.eraseIdx j)) y),Cl b (C.wA (mO C.A c j)),ag y.nk 163 (aC (au (W.cj x (c.eraseIdx j)).nb)),jd y.ok 163 (aC (au (W.cj x (c.eraseIdx j)).ob))]) (by exact Eh) ?_
 unfold eT
 refine bD ?_
 refine zl T.jK (db b (C.wA (mO C.A c j)) (K.wA _) p 0 none (L.wA _) pO (by omega) (λq hq=>by cases hq)) (.cons (.there .here) .nil) (λ_ _ _=>trivial) ?_
 rw[show(C.wA (mO C.A c j)).wA (wr (C.wA (mO C.A c j)).A (p+4*0) 4 (nO none))=C.wA (mV C.A c j p)from rfl]
 refine aG ?_
 refine jA [Cl b (C.wA (mV C.A c j p)),ag t 145 (eT b (W.cj x (c.eraseIdx j)) y),ag y.nk 163 (aC (au (W.cj x (c.eraseIdx j)).nb)),jd y.ok 163 (aC (au (W.cj x (c.eraseIdx j)).ob))] results151 ?_
 exact⟨rfl,rfl⟩
theorem LM{A:By}:∀{l:List Nat} (_:∀k (h:k<l.length),rd A l[k] 4=nO l[k+1]?),CA A l
 | [],_=>trivial
 |_::l,h=>⟨by have:=h 0 (by simp);simpa[List.head?_eq_getElem?]using this,LM λk hk=>by have:=h (k+1) (by simpa using hk);simpa using this⟩
theorem FR{A:By}{l:List Nat}{k:Nat}(h:CA A l)(hk:k<l.length):rd A l[k] 4=nO l[k+1]?:=by
 rw[rk h hk,ael]
theorem nR{A B:By}:∀{l:List Nat} (_:∀q∈l,rd B q 4=rd A q 4) (_:CA A l),CA B l
 | [],_,_=>trivial
 |q::_,h,i=>⟨by rw[h q (by simp)];exact i.1,nR (λr hr=>h r (by simp[hr])) i.2⟩
theorem Kept.refl (C:Cs)(p:Nat):Kept C C.A p:=⟨rfl,rfl,rfl,λi=>i⟩
theorem lG{C:Cs}(K:Ok C){p q:Nat}(L:Live C p)(M:Live C q)(I:gC C p)(v:Nat):Kept C (wr C.A q 4 v) p:=tG K L.toAt M.toAt I (a:=0) (n:=4) (by omega)
theorem qy{C:Cs}(K:Ok C){p q:Nat}(L:Live C p)(M:Live C q)(h:p≠q)(v:Nat):rd (wr C.A q 4 v) p 4=rd C.A p 4:=by
 have n1:=(L.toAt.aX K).2.1
 have m1:=(M.toAt.aX K).2.1
 exact jJ K L.toAt M.toAt (a:=0) (n:=4) (o:=0) (w:=4) (by omega) (by omega) (λe=>absurd e h)
theorem mA{C:Cs}(K:Ok C){o:Option Nat}(L:cz C o):nO o<4294967296:=by
 rcases o with _|q
 ·exact Nat.zero_lt_succ _
 obtain⟨_,_,m3,m4,_⟩:=bK K (L q rfl).toAt
 have:=fC K.toFix
 rw[nK]
 omega
theorem xD (A:By)(p n:Nat)(h:n<4294967296):rd (wr A p 4 n) p 4=n:=by
 rw[cG];exact Nat.mod_eq_of_lt h
theorem hG:∀{L:List (List Nat)} {i:Nat} (_:i<L.length),∃r,L.flatten.Perm (L.getD i []++r)∧∀c,(L.set i c).flatten.Perm (c++r)
 |l::L,0,_=>⟨L.flatten,by simp,λc=>by simp⟩
 |l::L,i+1,h=>by
  obtain⟨r,h1,h2⟩:=hG (L:=L) (i:=i) (by simpa using h)
  have sw:∀c:List Nat,(l++(c++r)).Perm (c++(l++r)):=λc=>by
   rw[←adp,←adp]
   exact aaq.append_right r ad0
  refine⟨l++r, ?_,λc=> ?_⟩
  ·rw[aeT]
   exact(aaq.append_left l h1).trans (by simpa using sw (L.getD i []))
  rw[List.set_cons_succ,aeT]
  exact(aaq.append_left l (h2 c)).trans (sw c)
theorem Tb.mc{W:Tb}{x:Bool×Nat}(hx:Ci W x):∃r,W.all.Perm (W.ch x++r)∧∀c,(W.cj x c).all.Perm (c++r):=by
 rcases x with⟨_|_,i⟩
 ·obtain⟨r,h1,h2⟩:=hG (L:=W.nb) (i:=i) hx
  refine⟨r++W.ob.flatten, ?_,λc=> ?_⟩
  ·have:=aaq.append_right W.ob.flatten h1
   rw[adp]at this;exact this
  have:=aaq.append_right W.ob.flatten (h2 c)
  rw[adp]at this;exact this
 obtain⟨r,h1,h2⟩:=hG (L:=W.ob) (i:=i) hx
 have sw:∀c:List Nat,(W.nb.flatten++(c++r)).Perm (c++(W.nb.flatten++r)):=λc=>by
  rw[←adp,←adp]
  exact aaq.append_right r ad0
 refine⟨W.nb.flatten++r, ?_,λc=> ?_⟩
 ·exact(aaq.append_left _ h1).trans (sw _)
 exact(aaq.append_left _ (h2 c)).trans (sw c)
theorem kP{L:List (List Nat)}{i:Nat}(h:i<L.length)(c:List Nat):(L.set i c).getD i []=c:=by
 rw[aab,List.getElem?_set_self h];rfl
theorem getD_set_ne{L:List (List Nat)}{i k:Nat}(h:i≠k)(c:List Nat):(L.set i c).getD k []=L.getD k []:=by
 rw[aab,aab,List.getElem?_set_ne h]
theorem Tb.MQ{W:Tb}{x:Bool×Nat}(hx:Ci W x)(c:List Nat)(z:Bool×Nat):(W.cj x c).ch z=if z=x then c else W.ch z:=by
 split
 ·next e=>
  subst e
  rcases z with⟨_|_,i⟩
  ·exact kP hx c
  exact kP hx c
 next e=>
 rcases z with⟨_|_,k⟩<;>rcases x with⟨_|_,i⟩
 ·exact getD_set_ne (λh=>e (Prod.ext rfl h.symm)) c
 ·rfl
 ·rfl
 exact getD_set_ne (λh=>e (Prod.ext rfl h.symm)) c
theorem Tb.Zq (W:Tb)(x:Bool×Nat)(c:List Nat)(n h:Nat):Tb.bk {W.cj x c with n:=n} h=W.bk h:=by
 rcases x with⟨_|_,i⟩<;>simp[Tb.bk,Tb.cj]
theorem yT{C:Cs}{W:Tb}(O:cD C W){x:Bool×Nat}(hx:Ci W x){c c':List Nat}(hc:W.ch x=c){A:By}{n' p:Nat}
  (hn:n'+c.length=W.n+c'.length) (nd:c'.Nodup) (hp:∀q∈c',q∈c∨(q=p∧p∉W.all)) (li:CA A c')
  (lo:∀q∈W.all,q∉c→rd A q 4=rd C.A q 4) (lv:∀q∈c',Live C q) (kp:∀q∈W.all,Kept C A q) (it:∀q∈c',gC (C.wA A) q)
  (bu:∀q∈c',W.bk (bJ (aE A q))=x) (kd:p∈c'→p∉W.all→∀r∈W.all,aE A p≠aE C.A r):cD (C.wA A) {W.cj x c' with n:=n'}:=by
 obtain⟨r,p1,p2⟩:=Tb.mc hx
 rw[hc]at p1
 have p2':Tb.all {W.cj x c' with n:=n'}=(W.cj x c').all:=rfl
 have al:∀q,q∈(W.cj x c').all→q∈c'∨(q∈W.all∧q∉c):=λq hq=>by
  rcases adP.1 ((p2 c').mem_iff.1 hq)with h|h
  ·exact .inl h
  refine .inr ⟨p1.mem_iff.2 (ad2 _ h),λg=> ?_⟩
  have:=p1.nodup_iff.1 O.nd
  exact(adk.1 this).2.2 q g q h rfl
 have JZ:∀z,Tb.ch {W.cj x c' with n:=n'} z=if z=x then c' else W.ch z:=λz=>(show Tb.ch {W.cj x c' with n:=n'} z=(W.cj x c').ch z from rfl).trans (Tb.MQ hx c' z)
 have cp:∀q∈c,q∈W.all:=λq hq=>p1.mem_iff.2 (List.mem_append_left _ hq)
 have l1:({W.cj x c' with n:=n'}:Tb).nb.length=W.nb.length:=by rcases x with⟨_|_,i⟩<;>simp[Tb.cj]
 have l2:({W.cj x c' with n:=n'}:Tb).ob.length=W.ob.length:=by rcases x with⟨_|_,i⟩<;>simp[Tb.cj]
 have e1:({W.cj x c' with n:=n'}:Tb).size=W.size:=by rcases x with⟨_|_,i⟩<;>rfl
 have e2:({W.cj x c' with n:=n'}:Tb).aB=W.aB:=by rcases x with⟨_|_,i⟩<;>rfl
 have e3:({W.cj x c' with n:=n'}:Tb).mv=W.mv:=by rcases x with⟨_|_,i⟩<;>rfl
 have e4:({W.cj x c' with n:=n'}:Tb).st=W.st:=by rcases x with⟨_|_,i⟩<;>rfl
 refine⟨by rw[l1];exact O.pw, ?_,by rw[l2,e3,e4];exact O.st.imp (λh=>⟨h.1,aaw (by rw[l2,h.2];rfl)⟩) id,by rw[e2];exact O.mp,by rw[e1,l1];exact O.sz,by rw[e1];exact O.J5,by rw[e1,e2];exact O.sm,by rw[e3];exact O.mv, ?_, ?_,λz=> ?_,λq hq=> ?_,λq hq=> ?_,λz q hq=> ?_,λq hq s hs e=> ?_⟩
 ·rcases O.po with h|⟨m,hm,e⟩
  ·exact .inl (aaw (by rw[l2,h];rfl))
  exact .inr ⟨m,hm,by rw[l2];exact e⟩
 ·rw[p2',(p2 c').length_eq,aal]
  have h1:=O.n
  rw[p1.length_eq,aal]at h1
  show n'=_
  omega
 ·rw[p2',(p2 c').nodup_iff,adk]
  have h1:=adk.1 (p1.nodup_iff.1 O.nd)
  refine⟨nd,h1.2.1,λq hq s hs e=> ?_⟩
  subst e
  rcases hp q hq with h|⟨rfl,h⟩
  ·exact h1.2.2 q h q hs rfl
  exact h (p1.mem_iff.2 (ad2 _ hs))
 ·rw[JZ]
  split
  ·exact li
  next hz=>
  refine nR (λq hq=>lo q (Tb.fD hq) λg=> ?_) (O.li z)
  rw[←hc]at g
  exact hz ((O.bu z q hq).symm.trans (O.bu x q g))
 ·rcases al q hq with h|h
  ·exact(lv q h).wA A
  exact(O.lv q h.1).wA A
 ·rcases al q hq with h|h
  ·exact it q h
  exact(kp q h.1).it (O.it q h.1)
 ·rw[Tb.Zq]
  rw[JZ]at hq
  split at hq
  ·next e=>rw[e];exact bu q hq
  rw[show aE (C.wA A).A q=aE C.A q from(kp q (Tb.fD hq)).key]
  exact O.bu z q hq
 change aE A q=aE A s at e
 have cl:∀q,q∈(W.cj x c').all→q∈W.all∨(q=p∧p∈c'∧p∉W.all):=λq hq=>by
  rcases al q hq with h|h
  ·rcases hp q h with g|g
   ·exact .inl (cp q g)
   exact .inr ⟨g.1,g.1▸h,g.2⟩
  exact .inl h.1
 rcases cl q hq with h|⟨rfl,hi,h⟩<;>rcases cl s hs with g|⟨rfl,gi,g⟩
 ·rw[(kp q h).key,(kp s g).key]at e
  exact O.kd q h s g e
 ·rw[(kp q h).key]at e
  exact absurd e.symm (kd gi g q h)
 ·rw[(kp s g).key]at e
  exact absurd e (kd hi h s g)
 rfl
theorem yX{C:Cs}(K:Ok C){W:Tb}(O:cD C W){p:Nat}(L:Live C p)(I:gC C p)(hp:p∉W.all)(hk:∀q∈W.all,aE C.A q≠aE C.A p){x:Bool×Nat}(hx:W.bk (bJ (aE C.A p))=x):
  cD (C.wA (wr C.A p 4 (nO (W.ch x).head?))) {W.cj x (p::W.ch x)with n:=W.n+1}:=by
 have kp:∀q∈W.all,Kept C (wr C.A p 4 (nO (W.ch x).head?)) q:=λq hq=>lG K (O.lv q hq) L (O.it q hq) _
 have Z9:=lG K L L I (nO (W.ch x).head?)
 have ne:∀q∈W.all,q≠p:=λq hq e=>hp (e▸hq)
 have ZX:∀q∈W.all,rd (wr C.A p 4 (nO (W.ch x).head?)) q 4=rd C.A q 4:=λq hq=>qy K (O.lv q hq) L (ne q hq) _
 have sub:∀q∈W.ch x,q∈W.all:=λq hq=>Tb.fD hq
 have lO:cz C (W.ch x).head?:=λq hq=>O.lv q (sub q (aaI hq))
 refine yT O (by rw[←hx];exact o7 O _) rfl (p:=p) (by simp;omega) (aar.2 ⟨λh=>hp (sub p h),(W.ml x).nodup O.nd⟩) (λq hq=> ?_) ⟨xD _ _ _ (mA K lO),nR (λq hq=>ZX q (sub q hq)) (O.li x)⟩
  (λq hq _=>ZX q hq) (λq hq=> ?_) kp (λq hq=> ?_) (λq hq=> ?_) (λ_ _ r hr e=> ?_)
 ·rcases aau.1 hq with rfl|h
  ·exact .inr ⟨rfl,hp⟩
  exact .inl h
 ·rcases aau.1 hq with rfl|h
  ·exact L
  exact O.lv q (sub q h)
 ·rcases aau.1 hq with rfl|h
  ·exact Z9.it I
  exact(kp q (sub q h)).it (O.it q (sub q h))
 ·rcases aau.1 hq with rfl|h
  ·rw[Z9.key];exact hx
  rw[(kp q (sub q h)).key];exact O.bu x q h
 rw[Z9.key]at e
 exact hk r hr e.symm
def oh (A B:By)(S:List Nat)(a n:Nat):Prop:=∀i,B i≠A i→∃q∈S,q+a≤i∧i<q+a+n
theorem oh.refl (A:By)(S:List Nat)(a n:Nat):oh A A S a n:=λ_ h=>absurd rfl h
theorem oh.trans{A B D:By}{S:List Nat}{a n:Nat}(h:oh A B S a n)(g:oh B D S a n):oh A D S a n:=λi e=>by
 by_cases hb:B i=A i
 ·exact g i (by rw[hb];exact e)
 exact h i hb
theorem oh.mono{A B:By}{S R:List Nat}{a n:Nat}(h:oh A B S a n)(s:∀q∈S,q∈R):oh A B R a n:=λi e=>by
 obtain⟨q,q1,q2⟩:=h i e
 exact⟨q,s q q1,q2⟩
theorem uH (A:By){S:List Nat}{q a n v:Nat}(h:q∈S):oh A (wr A (q+a) n v) S a n:=λi e=>by
 refine⟨q,h, ?_⟩
 refine aak λg=>e ?_
 unfold wr
 exact fy _ _ _ _ (by rw[kM];omega)
theorem Gm{C:Cs}(K:Ok C){B:By}{S:List Nat}{a n:Nat}(d:oh C.A B S a n)(hS:∀q∈S,At C q){p o w:Nat}(L:At C p)(ha:a+n≤64)(ho:o+w≤C.sz (C.cl p))(h:p∈S→a+n≤o∨o+w≤a):iC B (p+o) w=iC C.A (p+o) w:=
 rG λi h1 h2=>by
  refine aak λe=> ?_
  obtain⟨q,q1,q2,q3⟩:=d i e
  have m1:=((hS q q1).aX K).2.1
  rcases ZX K L (hS q q1) (a:=a) (n:=n) (o:=o) (w:=w) (by omega) ho (λe=>h (e▸q1))with g|g<;>omega
theorem MN{C:Cs}(K:Ok C){B:By}{S:List Nat}{a n:Nat}(d:oh C.A B S a n)(hS:∀q∈S,At C q){p o w:Nat}(L:At C p)(ha:a+n≤64)(ho:o+w≤C.sz (C.cl p))(h:p∈S→a+n≤o∨o+w≤a):rd B (p+o) w=rd C.A (p+o) w:=by
 unfold rd;rw[Gm K d hS L ha ho h]
theorem vE{C:Cs}(K:Ok C){B:By}{S:List Nat}{a n:Nat}(d:oh C.A B S a n)(hS:∀q∈S,At C q)(ha:a+n≤12){p:Nat}(L:At C p)(I:gC C p):Kept C B p:=by
 have n1:=(L.aX K).2.1
 have hf:=I.fits
 have r:=λ(o w:Nat) (h1:12≤o) (h2:o+w≤C.sz (C.cl p))=>MN K d hS L (by omega) h2 (λ_=> .inl (by omega))
 have e1:kl B p=kl C.A p:=r 44 1 (by omega) (by omega)
 have e2:vl B p=vl C.A p:=r 48 4 (by omega) (by omega)
 refine⟨e1,e2, ?_,λJ=>⟨?_, ?_, ?_, ?_⟩⟩
 ·unfold aE
  rw[e1]
  exact Gm K d hS L (by omega) (by omega) (λ_=> .inl (by omega))
 ·rw[cg,e1];exact J.k0
 ·rw[cg,e1,e2];exact J.fits
 ·rw[cg,r 16 8 (by omega) (by omega)];exact J.exp
 rw[cg,r 24 8 (by omega) (by omega)];exact J.tch
theorem Sj (A:By)(c:List Nat)(j:Nat)(hj:j<c.length):oh A (mO A c j) c 0 4:=by
 rcases j with _|j
 ·exact oh.refl _ _ _ _
 rw[lD,kC (by omega)]
 exact uH A (a:=0) (aam (by omega))
theorem N3 (A:By)(c:List Nat)(j:Nat)(hj:j<c.length):oh A (mV A c j c[j]) c 0 4:=
 (Sj A c j hj).trans (uH _ (a:=0) (aam hj))
theorem Fx{C:Cs}(K:Ok C){W:Tb}(O:cD C W){x:Bool×Nat}(hx:Ci W x){c:List Nat}(hc:W.ch x=c){j p:Nat}(hj:j<c.length)(hp:c[j]=p):
  cD (C.wA (mV C.A c j p)) {W.cj x (c.eraseIdx j)with n:=W.n-1}∧oh C.A (mV C.A c j p) W.all 0 4:=by
 subst hp
 have sub:∀q∈c,q∈W.all:=λq hq=>Tb.fD (x:=x) (by rw[hc];exact hq)
 have d:=N3 C.A c j hj
 have dW:oh C.A (mV C.A c j c[j]) W.all 0 4:=d.mono sub
 have at_:∀q∈W.all,At C q:=λq hq=>(O.lv q hq).toAt
 have kp:∀q∈W.all,Kept C (mV C.A c j c[j]) q:=λq hq=>vE K dW at_ (by omega) (at_ q hq) (O.it q hq)
 have li:=O.li x
 have nd:=(W.ml x).nodup O.nd
 rw[hc]at li nd
 have es:∀q∈c.eraseIdx j,q∈c:=λq hq=>List.mem_of_mem_eraseIdx hq
 refine⟨yT O hx hc (p:=c[j]) ?_ (nd.sublist (List.eraseIdx_sublist c j)) (λq hq=> .inl (es q hq)) ?_ (λq hq g=> ?_) (λq hq=>O.lv q (sub q (es q hq))) kp (λq hq=>(kp q (sub q (es q hq))).it (O.it q (sub q (es q hq))))
  (λq hq=>by rw[(kp q (sub q (es q hq))).key];exact O.bu x q (by rw[hc];exact es q hq)) (λ_ h r hr e=> ?_),dW⟩
 ·have h1:=rz O x
  rw[hc]at h1
  have h2:=aeN hj
  omega
 ·refine LM λk hk=> ?_
  have hlen:=aeN hj
  have lv:∀i (h:i<c.length),Live C c[i]:=λi h=>O.lv _ (sub _ (aam h))
  have inj:∀i k (h:i<c.length) (g:k<c.length),i≠k→c[i]≠c[k]:=λi k h g e h2=>e ((aeE nd).1 h2)
  have K2:=K.wA (mO C.A c j)
  have rd2:∀i (h:i<c.length),i≠j→rd (mV C.A c j c[j]) c[i] 4=rd (mO C.A c j) c[i] 4:=λi h e=>qy K2 ((lv i h).wA _) ((lv j hj).wA _) (inj i j h hj e) 0
  have rd1:∀i (h:i<c.length),i+1≠j→rd (mO C.A c j) c[i] 4=nO c[i+1]?:=λi h e=>by
   rcases j with _|j
   ·exact FR li h
   rw[lD,kC (by omega),qy K (lv i h) (lv j (by omega)) (inj i j h (by omega) (by omega))]
   exact FR li h
  have rd0:∀i (h:i<c.length),i+1=j→rd (mO C.A c j) c[i] 4=nO c[i+2]?:=λi h e=>by
   subst e
   rw[lD,kC (by omega),ael]
   refine xD _ _ _ (mA K λq hq=> ?_)
   exact O.lv q (sub q (List.mem_of_getElem? hq))
  rw[List.getElem_eraseIdx]
  split
  ·next h=>
   have pL:k<c.length:=by omega
   rw[rd2 k pL (by omega)]
   by_cases e:k+1=j
   ·rw[rd0 k pL e,aaE (by omega)]
   rw[rd1 k pL e,List.getElem?_eraseIdx_of_lt (by omega)]
  next h=>
  have pL:k+1<c.length:=by omega
  rw[rd2 (k+1) pL (by omega),rd1 (k+1) pL (by omega),aaE (by omega)]
 ·have:=MN K d (λq hq=>at_ q (sub q hq)) (at_ q hq) (o:=0) (w:=4) (by omega) (by have:=((at_ q hq).aX K).2.1;omega) (λh=>absurd h g)
  exact this
 exact absurd (sub _ (aam hj)) h
def Tb.nn (W:Tb):Tb:={W with n:=W.all.length}
def Tb.emp (W:Tb):Tb:={W.cj (true,W.mv) []with mv:=W.mv+1}
theorem Tb.Y9 (W:Tb):W.emp.nb=W.nb:=rfl
theorem Tb.MI (W:Tb):W.emp.ob=W.ob.set W.mv []:=rfl
theorem MH{C:Cs}{W:Tb}(O:cD C W)(hm:W.mv<W.ob.length):cD C W.emp.nn∧W.all.Perm (W.ch (true,W.mv)++W.emp.all)∧
  ∀q∈W.ch (true,W.mv),W.emp.bk (bJ (aE C.A q))=(false,bJ (aE C.A q) % W.nb.length):=by
 have hx:Ci W (true,W.mv):=hm
 obtain⟨r,p1,p2⟩:=Tb.mc hx
 have pe:W.emp.all.Perm r:=by
  have:(W.cj (true,W.mv) []).all.Perm r:=by simpa using p2 []
  exact this
 have pZ:W.emp.all=(W.cj (true,W.mv) []).all:=rfl
 have O1:=yT O hx rfl (c':= []) (A:=C.A) (n':=W.emp.all.length) (p:=0) (by
   have h1:=O.n
   rw[p1.length_eq,aal]at h1
   rw[pe.length_eq,List.length_nil];omega) List.nodup_nil (λ_ h=>by cases h) trivial (λ_ _ _=>rfl) (λ_ h=>by cases h) (λq _=>Kept.refl C q) (λ_ h=>by cases h) (λ_ h=>by cases h) (λh=>by cases h)
 have bkx:∀h,W.emp.bk h=if W.mv=h % W.ob.length then(false,h % W.nb.length)else W.bk h:=λh=>by
  unfold Tb.bk
  rw[Tb.Y9,Tb.MI,aaj,show W.emp.mv=W.mv+1 from rfl]
  split
  ·next g=>rw[if_neg (by omega),if_pos ⟨g.1,by omega⟩]
  next g=>
  split
  ·rfl
  next e=>rw[if_neg (by omega)]
 have chx:∀z,W.emp.ch z=(W.cj (true,W.mv) []).ch z:=λ_=>rfl
 have ol:W.ob.length≤1048576:=by
  rcases O.po with h|⟨m,hm,e⟩
  ·rw[h];decide
  exact(ou e hm).2
 have obl:W.emp.nn.ob.length=W.ob.length:=by show(W.ob.set W.mv []).length=_;rw[aaj]
 have iU:W.st=2:=by
  rcases O.st with h|h
  ·rw[h.2]at hm;cases hm
  exact h.1
 have old:∀h i,W.bk h=(true,i)→h % W.ob.length=i:=λh i e=>by
  unfold Tb.bk at e
  split at e
  ·cases e;rfl
  cases e
 refine⟨⟨O1.pw,O1.po, .inr ⟨iU,by rw[obl];omega,by rw[obl];exact hm⟩,O1.mp,O1.sz,O1.J5,O1.sm,aei hm ol,rfl,O1.nd,O1.li,O1.lv,O1.it,λz q hq=> ?_,O1.kd⟩,p1.trans (aaq.append_left _ pe.symm),λq hq=> ?_⟩
 ·change W.emp.bk (bJ (aE C.A q))=z
  rw[bkx]
  have hq':q∈(W.cj (true,W.mv) []).ch z:=hq
  rw[Tb.MQ hx]at hq'
  split at hq'
  ·cases hq'
  next e=>
  have hb:=O.bu z q hq'
  split
  ·next g=>
   refine absurd ?_ e
   rw[←hb]
   unfold Tb.bk
   rw[if_pos ⟨by omega,by omega⟩,g]
  exact hb
 rw[bkx,old _ _ (O.bu _ q hq),if_pos rfl]
structure Hand (C:Cs)(W:Tb)(r:List Nat):Prop where
 nd:r.Nodup
 li:CA C.A r
 lv:∀q∈r,Live C q
 it:∀q∈r,gC C q
 no:∀q∈r,q∉W.all
 kd:∀q∈r,∀s∈W.all,aE C.A s≠aE C.A q
 kr:∀q∈r,∀s∈r,aE C.A q=aE C.A s→q=s
theorem TG{C:Cs}{W:Tb}(O:cD C W)(hm:W.mv<W.ob.length):Hand C W.emp (W.ch (true,W.mv)):=by
 obtain⟨_,p,_⟩:=MH O hm
 have nd:=adk.1 (p.nodup_iff.1 O.nd)
 have sub:∀q∈W.ch (true,W.mv),q∈W.all:=λq hq=>Tb.fD hq
 have sub2:∀q∈W.emp.all,q∈W.all:=λq hq=>p.mem_iff.2 (ad2 _ hq)
 exact⟨nd.1,O.li _,λq hq=>O.lv q (sub q hq),λq hq=>O.it q (sub q hq),λq hq g=>nd.2.2 q hq q g rfl,
  λq hq s hs e=>nd.2.2 q hq s hs (O.kd s (sub2 s hs) q (sub q hq) e).symm,λq hq s hs e=>O.kd q (sub q hq) s (sub s hs) e⟩
def Tb.on (W:Tb)(C:Cs)(p:Nat):Tb:=W.cj (W.bk (bJ (aE C.A p))) (p::W.ch (W.bk (bJ (aE C.A p))))
def zL (W:Tb)(C:Cs)(p:Nat):By:=wr C.A p 4 (nO (W.ch (W.bk (bJ (aE C.A p)))).head?)
theorem ab3{C:Cs}(K:Ok C){W:Tb}(O:cD C W.nn){p:Nat}{r:List Nat}(H:Hand C W (p::r)):
  cD (C.wA (zL W C p)) (W.on C p).nn∧Hand (C.wA (zL W C p)) (W.on C p) r∧(W.on C p).all.Perm (p::W.all)∧oh C.A (zL W C p) [p] 0 4:=by
 have L:=H.lv p (by simp)
 have I:=H.it p (by simp)
 have P:=yX K O L I (H.no p (by simp)) (H.kd p (by simp)) (x:=W.bk (bJ (aE C.A p))) rfl
 have hx:Ci W (W.bk (bJ (aE C.A p))):=o7 O (bJ (aE C.A p))
 obtain⟨r1,p1,p2⟩:=Tb.mc hx
 have pa:(W.on C p).all.Perm (p::W.all):=(p2 _).trans (aaq.cons p p1.symm)
 have ne:(W.on C p).nn={W.nn.cj (W.bk (bJ (aE C.A p))) (p::W.ch (W.bk (bJ (aE C.A p))))with n:=W.nn.n+1}:=by
  have:(W.on C p).all.length=W.all.length+1:=by rw[pa.length_eq];rfl
  unfold Tb.nn
  rw[this]
  unfold Tb.on
  rcases W.bk (bJ (aE C.A p))with⟨_|_,i⟩<;>rfl
 have d:oh C.A (zL W C p) [p] 0 4:=uH C.A (q:=p) (a:=0) (by simp)
 have nd:=aar.1 H.nd
 have kp:∀q∈r,Kept C (zL W C p) q:=λq hq=>lG K (H.lv q (by simp[hq])) L (H.it q (by simp[hq])) _
 have kw:∀q∈W.all,Kept C (zL W C p) q:=λq hq=>lG K (O.lv q hq) L (O.it q hq) _
 have Z9:Kept C (zL W C p) p:=lG K L L I _
 refine⟨by rw[ne];exact P,⟨nd.2,nR (λq hq=>qy K (H.lv q (by simp[hq])) L (λe=>nd.1 (e▸hq)) _) H.li.2,λq hq=>(H.lv q (by simp[hq])).wA _,λq hq=>(kp q hq).it (H.it q (by simp[hq])),λq hq g=> ?_,λq hq s hs e=> ?_,λq hq s hs e=> ?_⟩,pa,d⟩
 ·rcases aau.1 (pa.mem_iff.1 g)with h|h
  ·exact nd.1 (h▸hq)
  exact H.no q (by simp[hq]) h
 ·change aE (zL W C p) s=aE (zL W C p) q at e
  rw[(kp q hq).key]at e
  rcases aau.1 (pa.mem_iff.1 hs)with h|h
  ·subst h
   rw[Z9.key]at e
   have:=H.kr s (by simp) q (by simp[hq]) e
   exact nd.1 (this▸hq)
  rw[(kw s h).key]at e
  exact H.kd q (by simp[hq]) s h e
 change aE (zL W C p) q=aE (zL W C p) s at e
 rw[(kp q hq).key,(kp s hs).key]at e
 exact H.kr q (by simp[hq]) s (by simp[hs]) e
structure oF (W V:Tb):Prop where
 n:V.n=W.n
 st:V.st=W.st
 size:V.size=W.size
 aB:V.aB=W.aB
 nb:V.nb.length=W.nb.length
 ob:V.ob.length=W.ob.length
theorem oF.on{C:Cs}{W V:Tb}(h:oF W V)(p:Nat):oF W (V.on C p):=by
 unfold Tb.on
 rcases V.bk (bJ (aE C.A p))with⟨_|_,i⟩
 ·exact⟨h.n,h.st,h.size,h.aB,by rw[←h.nb];exact aaj,h.ob⟩
 exact⟨h.n,h.st,h.size,h.aB,h.nb,by rw[←h.ob];exact aaj⟩
theorem US (C:Cs)(W:Tb)(p:Nat):(W.on C p).mv=W.mv:=by
 unfold Tb.on
 rcases W.bk (bJ (aE C.A p))with⟨_|_,i⟩<;>rfl
structure Q9 (C:Cs)(W:Tb)(A:By)(V:Tb)(r:List Nat)(k:Nat):Prop where
 o:cD (C.wA A) V.nn
 h:Hand (C.wA A) V r
 p:(r++V.all).Perm W.all
 d:oh C.A A W.all 0 4
 s:oF W V
 mv:V.mv=W.mv+1
 k:k+r.length≤W.n
structure Wv (C:Cs)(W:Tb)(A:By)(V:Tb):Prop where
 o:cD (C.wA A) V
 p:V.all.Perm W.all
 d:oh C.A A W.all 0 4
 s:oF W V
 mv:V.mv=W.mv+1
theorem Q9.start{C:Cs}{W:Tb}(O:cD C W)(hm:W.mv<W.ob.length):Q9 C W C.A W.emp (W.ch (true,W.mv)) 0:=by
 obtain⟨h1,h2,_⟩:=MH O hm
 exact⟨h1,TG O hm,h2.symm,oh.refl _ _ _ _,⟨rfl,rfl,rfl,rfl,rfl,aaj⟩,rfl,by have:=rz O (true,W.mv);omega⟩
theorem Q9.step{C:Cs}(K:Ok C){W:Tb}{A:By}{V:Tb}{p:Nat}{r:List Nat}{k:Nat}(I:Q9 C W A V (p::r) k):Q9 C W (zL V (C.wA A) p) (V.on (C.wA A) p) r (k+1):=by
 obtain⟨h1,h2,h3,h4⟩:=ab3 (K.wA A) I.o I.h
 have hp:p∈W.all:=I.p.mem_iff.1 (by simp)
 refine⟨h1,h2, ?_,I.d.trans (h4.mono λq hq=>by rw[aaA]at hq;exact hq▸hp),I.s.on p,by rw[US];exact I.mv,by have:=I.k;simp at this;omega⟩
 refine(aaq.append_left r h3).trans (aaq.trans ?_ I.p)
 exact List.perm_middle
theorem Q9.done{C:Cs}{W:Tb}(O:cD C W){A:By}{V:Tb}{k:Nat}(I:Q9 C W A V [] k):Wv C W A V:=by
 have e:V.nn=V:=by
  unfold Tb.nn
  have h1:=I.p.length_eq
  simp only[List.nil_append]at h1
  rw[h1,←O.n,←I.s.n]
 have o:=I.o
 rw[e]at o
 exact⟨o,by simpa using I.p,I.d,I.s,I.mv⟩
theorem TY (b:Nat)(W:Tb)(nk ok:Nat): [.pointer (some ⟨b,0,none⟩), .int .i64 (W.aB:Int), .int .i64 (W.n:Int), .int .i64 (W.size:Int), .slice (some ⟨nk,0,none⟩) W.nb.length W.nb.length, .slice (some ⟨ok,0,none⟩) W.ob.length W.ob.length, .int .i64 ((W.mv:Int)+1), .int .i64 (W.st:Int)]=eT b W.emp ⟨nk,some ok⟩:=by
 unfold eT Qo
 rw[Tb.MI,aaj]
 rfl
theorem NC (t b:Nat)(C:Cs)(K:Ok C)(W:Tb)(y:oa)(O:cD C W)(hy:y.ok=none→W.ob= [])(hm:W.mv<W.ob.length):
  aF aaa 122 [.pointer (some ⟨t,0,none⟩), .int .i64 (W.mv:Int)] (λ_=>True) (Cl b C::kR t b W y)
   (λv H=>v= .tuple #[]∧∃A V,H=Cl b (C.wA A)::kR t b V y∧Wv C W A V):=by
 obtain⟨ok,nF⟩:∃ok,y.ok=some ok:=by
  rcases h:y.ok with _|ok
  ·rw[hy h]at hm;cases hm
  exact⟨ok,rfl⟩
 rcases y with⟨nk,_⟩
 dsimp only at nF
 subst nF
 have hn:=x9 K O
 have mvb:=O.mv
 have st:=Q9.start O hm
 have ho:cz C (W.ch (true,W.mv)).head?:=λq hq=>O.lv q (Tb.fD (aaI hq))
 have dI:(aC (au W.ob))[W.mv]?=some (.int .u32 (nO (W.ch (true,W.mv)).head?:Int)):=ny hm
 change aF _ _ _ _ [Cl b C,ag t 145 [.pointer (some ⟨b,0,none⟩), .int .i64 (W.aB:Int), .int .i64 (W.n:Int), .int .i64 (W.size:Int), .slice (some ⟨nk,0,none⟩) W.nb.length W.nb.length, .slice (some ⟨ok,0,none⟩) W.ob.length W.ob.length, .int .i64 (W.mv:Int), .int .i64 (W.st:Int)],ag nk 163 (aC (au W.nb)),ag ok 163 (aC (au W.ob))] _
 refine af func122 rfl ntmps122 rfl ?_
 intro F _
 refine dg ?_
 refine zl T.Am (jT t b C W ⟨nk,some ok⟩ K (W.ch (true,W.mv)).head? ho) .nil (λ_ le aq=>⟨aq.1,aq.2.1⟩) ?_
 refine dg ?_
 refine Lp (oS T.nc ?_ (i:=W.mv) (hi:=by rw[jM,lI];exact hm))
 rw[show(aC (au W.ob)).set W.mv (.int .u32 0)=aC (au (W.ob.set W.mv []))from lH W.ob W.mv []]
 refine oc ?_
 refine Hh (H':= [Cl b C,ag t 145 [.pointer (some ⟨b,0,none⟩), .int .i64 (W.aB:Int), .int .i64 (W.n:Int), .int .i64 (W.size:Int), .slice (some ⟨nk,0,none⟩) W.nb.length W.nb.length, .slice (some ⟨ok,0,none⟩) W.ob.length W.ob.length, .int .i64 ((W.mv:Int)+1), .int .i64 (W.st:Int)],ag nk 163 (aC (au W.nb)),ag ok 163 (aC (au (W.ob.set W.mv [])))]) ?_
 rw[TY b W nk ok]
 refine Lo (ι:=By×Tb×List Nat×Nat) [29,30,31,32,33,34,35,36,37,38,41,42,43,6,44,45,46,47,48,49,50,51,52,4,39,40,5] (λs=>Q9 C W s.1 s.2.1 s.2.2.1 s.2.2.2) (λs=> [(4, .int .u64 (hO (C.wA s.1) s.2.2.1.head?:Int)),(5, .int .i64 (s.2.2.2:Int))]) (λs=> [Cl b (C.wA s.1),ag t 145 (eT b s.2.1 ⟨nk,some ok⟩),ag nk 163 (aC (au s.2.1.nb)),ag ok 163 (aC (au s.2.1.ob))]) (λs=>s.2.2.1.length) ((C.A,W.emp,W.ch (true,W.mv),0)) st ?_
 rintro⟨A,V,r,k⟩ hI
 dsimp only at hI⊢
 have K2:=K.wA A
 have hk:=hI.k
 have hsn:=hI.s.n
 rcases r with _|⟨p,r⟩
 ·unfold eT
  refine br ?_
  refine zf 31 ?_ (e:=by rfl)
  refine gP ?_
  refine jA [Cl b (C.wA A),ag t 145 (eT b V ⟨nk,some ok⟩),ag nk 163 (aC (au V.nb)),ag ok 163 (aC (au V.ob))] results122 ?_
  exact⟨rfl,A,V,rfl,hI.done O⟩
 have L:=hI.h.lv p (by simp)
 have I:=hI.h.it p (by simp)
 obtain⟨m1,m2,m3,m4,m5,m6⟩:=bK K2 L.toAt
 have hx:=o7 hI.o (bJ (aE A p))
 have lvr:cz (C.wA A) r.head?:=λq hq=>hI.h.lv q (aag _ (aaI hq))
 have lvc:cz (C.wA A) (V.ch (V.bk (bJ (aE A p)))).head?:=λq hq=>hI.o.lv q (Tb.fD (T:=V) (aaI hq))
 have lk:(aE A p).length=kl A p:=cK _ _ _
 obtain⟨z1,z2,z3,_⟩:=L.toAt.aX K2
 have lf:=I.fits
 change 58+kl A p+vl A p≤_ at lf
 have f1:=K2.toFix.p1
 have iU:=hI.step K
 have oK:V.on (C.wA A) p=V.cj (V.bk (bJ (aE A p))) (p::V.ch (V.bk (bJ (aE A p)))):=rfl
 have hoA:zL V (C.wA A) p=wr A p 4 (nO (V.ch (V.bk (bJ (aE A p)))).head?):=rfl
 have hbk:Tb.bk {V with n:=V.all.length} (bJ (aE A p))=V.bk (bJ (aE A p)):=rfl
 rw[oK,hoA]at iU
 simp only[List.length_cons]at hk
 rw[List.head?_cons,bY]
 unfold eT
 refine br ?_
 refine zt 31 ?_ (e:=by exact by rw[decide_eq_false (by omega)];rfl)
 refine dh ?_
 refine fB ?_
 refine bL ?_
 refine zl T.xb (iB t b (C.wA A) V ⟨nk,some ok⟩ K2 p r.head? L I.k0 lvr hI.h.li.1) .nil (λ_ le aq=>⟨aq.1,aq.2.1⟩) ?_
 refine bL ?_
 refine Lp (oC T.ry rfl rfl (nG t b (C.wA A) V ⟨nk,some ok⟩ K2 p L I) .nil (λ_ le aq=>⟨aq.1,aq.2.1⟩) ?_)
 rintro v H' ⟨kb,rfl,rfl⟩
 refine bd ?_
 refine zl T.Al (jU t b (C.wA A) V ⟨nk,some ok⟩ V.all.length hI.o (λh=>by cases h) (some ⟨kb,0,none⟩) (kl A p) (kl A p) (aE A p) lk.symm (by omega)) .nil (λ_ le aq=>⟨aq.2.2.1,bB aq.1⟩) ?_
 refine aA ?_
 replace hx:Ci V (V.bk (bJ (aE A p))):=hx
 clear oK hoA hbk
 generalize V.bk (bJ (aE A p))=x at hx lvc iU⊢
 refine zl T.Dj (uX t b (C.wA A) K2 V ⟨nk,some ok⟩ (λh=>by cases h) x hx p L I.k0 lvc) (.cons (.there .here) (.cons (.there .here) (.cons (.there .here) (.cons (.there .here) .nil)))) (λ_ _ _=>trivial) ?_
 refine bI ?_
 refine aG ?_
 refine Ro ((wr A p 4 (nO (V.ch x).head?),V.cj x (p::V.ch x),r,k+1)) (iU) ((by simp))
def Tb.fin (W:Tb):Tb:={W with ob:= [],st:=0}
theorem Y7{C:Cs}{W:Tb}(O:cD C W)(hm:W.ob.length≤W.mv):cD C W.fin∧W.fin.all.Perm W.all:=by
 obtain⟨m,Rn,ep⟩:=O.pw
 obtain⟨p1,_⟩:=ou ep Rn
 have no:∀i,W.ch (true,i)= []:=λi=>by
  refine aeB.2 λq hq=> ?_
  have h:=O.bu _ q hq
  unfold Tb.bk at h
  split at h
  ·next g=>
   have:=aed (bJ (aE C.A q)) g.1
   omega
  cases h
 have obf:W.ob.flatten= []:=by
  refine aeB.2 λq hq=> ?_
  obtain⟨l,h1,h2⟩:=aes.1 hq
  obtain⟨i,hi,rfl⟩:=aaz h1
  have:=no i
  unfold Tb.ch at this
  rw[if_pos rfl,aab,aac hi]at this
  change W.ob[i]= []at this
  rw[this]at h2;cases h2
 have ea:W.fin.all=W.all:=by unfold Tb.fin Tb.all;rw[obf];rfl
 have chx:∀z,W.fin.ch z=W.ch z:=λz=>by
  rcases z with⟨_|_,i⟩
  ·rfl
  rw[no i];rfl
 refine⟨⟨O.pw, .inl rfl, .inl ⟨rfl,rfl⟩,O.mp,O.sz,O.J5,O.sm,O.mv,by rw[ea];exact O.n,by rw[ea];exact O.nd,λz=>by rw[chx];exact O.li z,by rw[ea];exact O.lv,by rw[ea];exact O.it,λz q hq=> ?_,by rw[ea];exact O.kd⟩,by rw[ea]⟩
 rw[chx]at hq
 have h:=O.bu z q hq
 rw[←h]
 unfold Tb.bk Tb.fin
 rw[if_neg (by simp)]
 split
 ·next g=>
  have:=aed (bJ (aE C.A q)) g.1
  omega
 rfl
def Tb.EJ (W:Tb)(s:Nat):Tb:={W with size:=s,nb:=aae s [],ob:=W.nb,mv:=0,st:=2}
theorem PJ (s:Nat):(aae s ([]:List Nat)).flatten= []:=by
 rw[List.flatten_eq_nil_iff]
 intro l h
 exact List.eq_of_mem_replicate h
theorem MR{C:Cs}{W:Tb}(O:cD C W)(h0:W.st=0){s:Nat}(hs:∃m,m≤20∧s=2^m)(V4:16≤s)(hm:s≤W.aB):cD C (W.EJ s)∧(W.EJ s).all=W.all:=by
 obtain⟨m,Rn,ep⟩:=O.pw
 obtain⟨p1,p2⟩:=ou ep Rn
 have ob0:W.ob= []:=by
  rcases O.st with h|h
  ·exact h.2
  omega
 have ea:(W.EJ s).all=W.all:=by
  unfold Tb.EJ Tb.all
  rw[ob0]
  show(aae s []).flatten++W.nb.flatten=_
  rw[PJ];simp
 have chf:∀i,(W.EJ s).ch (false,i)= []:=λi=>by
  show(aae s []).getD i []= []
  rw[aab]
  by_cases h:i<s
  ·rw[aaG,if_pos h];rfl
  rw[aaG,if_neg h];rfl
 refine⟨⟨by obtain⟨m,h1,h2⟩:=hs;exact⟨m,h1,by show(aae s _).length=_;rw[ado];exact h2⟩, .inr O.pw, .inr ⟨rfl,by show 0<W.nb.length;omega,aay _⟩,O.mp,(ado ..).symm,V4,hm,aay _,by rw[ea];exact O.n,by rw[ea];exact O.nd,λz=> ?_,by rw[ea];exact O.lv,by rw[ea];exact O.it,λz q hq=> ?_,by rw[ea];exact O.kd⟩,ea⟩
 ·rcases z with⟨_|_,i⟩
  ·rw[chf];trivial
  exact O.li (false,i)
 rcases z with⟨_|_,i⟩
 ·rw[chf]at hq;cases hq
 have h:=O.bu (false,i) q hq
 unfold Tb.bk at h
 rw[if_neg (by rw[ob0];simp)]at h
 show Tb.bk (W.EJ s) _=_
 unfold Tb.bk
 rw[if_pos ⟨by show 0<W.nb.length;omega,aay _⟩]
 have:=(Prod.mk.inj h).2
 show(true,bJ (aE C.A q) % W.nb.length)=_
 rw[this]
structure ur (C:Cs)(W:Tb)(k:Nat)(A:By)(V:Tb):Prop where
 o:cD (C.wA A) V
 p:V.all.Perm W.all
 d:oh C.A A W.all 0 4
 s:oF W V
 mv:V.mv=W.mv+k
theorem ur.zero{C:Cs}{W:Tb}(O:cD C W):ur C W 0 C.A W:=⟨O,aaq.refl _,oh.refl _ _ _ _,⟨rfl,rfl,rfl,rfl,rfl,rfl⟩,rfl⟩
theorem ur.next{C:Cs}{W:Tb}{k:Nat}{A:By}{V:Tb}(I:ur C W k A V){B:By}{U:Tb}(M:Wv (C.wA A) V B U):ur C W (k+1) B U:=
 ⟨M.o,M.p.trans I.p,I.d.trans (M.d.mono λq hq=>I.p.mem_iff.1 hq),⟨M.s.n.trans I.s.n,M.s.st.trans I.s.st,M.s.size.trans I.s.size,M.s.aB.trans I.s.aB,M.s.nb.trans I.s.nb,M.s.ob.trans I.s.ob⟩,by rw[M.mv,I.mv];omega⟩
structure Stp (C:Cs)(W:Tb)(k:Nat)(A:By)(V:Tb):Prop where
 o:cD (C.wA A) V
 p:V.all.Perm W.all
 d:oh C.A A W.all 0 4
 n:V.n=W.n
 size:V.size=W.size
 aB:V.aB=W.aB
 on:W.mv+k<W.ob.length→V.st=2∧V.mv=W.mv+k∧V.ob.length=W.ob.length
 off:W.ob.length≤W.mv+k→V.st=0
theorem ur.go{C:Cs}{W:Tb}{k:Nat}{A:By}{V:Tb}(I:ur C W k A V)(h2:W.st=2)(h:W.mv+k<W.ob.length):Stp C W k A V:=
 ⟨I.o,I.p,I.d,I.s.n,I.s.size,I.s.aB,λ_=>⟨by rw[I.s.st,h2],I.mv,I.s.ob⟩,λg=>by omega⟩
theorem ur.fin{C:Cs}{W:Tb}{k j:Nat}{A:By}{V:Tb}(I:ur C W k A V)(h:W.mv+k=W.ob.length)(hj:k≤j):Stp C W j A V.fin:=by
 obtain⟨f1,f2⟩:=Y7 I.o (by rw[I.s.ob,I.mv];omega)
 exact⟨f1,f2.trans I.p,I.d,I.s.n,I.s.size,I.s.aB,λg=>by omega,λ_=>rfl⟩
theorem Hg (t b:Nat)(C:Cs)(K:Ok C)(W:Tb)(y:oa)(h0:W.st=0)(k:Nat):
  aF aaa 78 [.pointer (some ⟨t,0,none⟩), .int .i64 (k:Int)] (In (ag t 145 (eT b W y))) []
   (λv H=>v= .int .i64 0∧H= []):=by
 unfold eT
 rw[h0]
 refine af func78 rfl ntmps78 rfl ?_
 intro F ht
 refine bW ?_
 refine bW ?_
 refine x7 ?_
 refine Rt [] results78 ?_
 exact⟨rfl,rfl⟩
theorem He (t b:Nat)(C:Cs)(K:Ok C)(W:Tb)(nk ok:Nat)(O:cD C W)(h2:W.st=2)(hm:W.mv<W.ob.length)(k:Nat)(hk:k≤1099511627776):
  aF aaa 78 [.pointer (some ⟨t,0,none⟩), .int .i64 (k:Int)] (λ_=>True) (Cl b C::kR t b W ⟨nk,some ok⟩)
   (λv H=>v= .int .i64 ((min k (W.ob.length-W.mv):Nat):Int)∧∃A V o',H=Cl b (C.wA A)::kR t b V ⟨nk,o'⟩∧(o'=none→V.ob= [])∧Stp C W k A V):=by
 have ol:W.ob.length≤1048576:=by
  rcases O.po with h|⟨m,hm,e⟩
  ·rw[h];decide
  exact(ou e hm).2
 change aF _ _ _ _ [Cl b C,ag t 145 [.pointer (some ⟨b,0,none⟩), .int .i64 (W.aB:Int), .int .i64 (W.n:Int), .int .i64 (W.size:Int), .slice (some ⟨nk,0,none⟩) W.nb.length W.nb.length, .slice (some ⟨ok,0,none⟩) W.ob.length W.ob.length, .int .i64 (W.mv:Int), .int .i64 (W.st:Int)],ag nk 163 (aC (au W.nb)),ag ok 163 (aC (au W.ob))] _
 refine af func78 rfl ntmps78 rfl ?_
 intro F _
 refine bW ?_
 refine bD ?_
 refine dm ?_
 refine bL ?_
 refine fB ?_
 refine dg ?_
 refine Lo (ι:=Nat×By×Tb) [27,28,29,30,31,32,33,34,35,36,37,38,39,40,41,44,45,46,47,48,49,42,43,5] (λs=>ur C W s.1 s.2.1 s.2.2∧s.1≤k∧W.mv+s.1≤W.ob.length) (λs=> [(5, .int .i64 (s.1:Int))]) (λs=> [Cl b (C.wA s.2.1),ag t 145 (eT b s.2.2 ⟨nk,some ok⟩),ag nk 163 (aC (au s.2.2.nb)),ag ok 163 (aC (au s.2.2.ob))]) (λs=>k-s.1) ((0,C.A,W)) ⟨ur.zero O,aay _,Nat.le_of_lt hm⟩ ?_
 rintro⟨d,A,V⟩ hI
 dsimp only at hI⊢
 have K2:=K.wA A
 have hmv:=hI.1.mv
 have hob:=hI.1.s.ob
 have hd:=hI.2
 unfold eT
 refine aA ?_
 refine aw ?_
 refine ik 14 T.mix (.cons (.there .here) .nil) λF1 je bR aM=> ?_
 obtain⟨q1,_⟩:=bR
 by_cases hg:d<k
 ·refine Ti Mv ?_
  refine bq ?_
  refine zt 30 ?_
  refine bA ?_
  refine gO aM ?_
  refine bf ?_
  by_cases hl:W.mv+d<W.ob.length
  ·refine fB ?_
   refine Hh (H':= [Cl b (C.wA A),ag t 145 (eT b V ⟨nk,some ok⟩),ag nk 163 (aC (au V.nb)),ag ok 163 (aC (au V.ob))]) ?_
   unfold eT
   refine bA ?_
   refine Lp (oC T.YV rfl rfl (NC t b (C.wA A) K2 V ⟨nk,some ok⟩ hI.1.o (λh=>by cases h) (by omega)) (.cons .here (.cons .here (.cons .here (.cons .here .nil)))) (λ_ _ _=>trivial) ?_)
   rintro v H' ⟨rfl,B,U,rfl,hM⟩
   refine bd ?_
   refine bL ?_
   refine aG ?_
   refine Ro ((d+1,B,U)) (⟨hI.1.next hM,by dsimp only;omega,by dsimp only;omega⟩) ((by dsimp only;omega))
  refine dm ?_
  refine bD ?_
  refine aw ?_
  refine ik 9 T.mix (.cons .here .nil) λF2 zM eG ez=> ?_
  obtain⟨q1,_⟩:=eG
  refine dg ?_
  refine gO ez ?_
  refine bf ?_
  refine dm ?_
  refine bW ?_
  refine bI ?_
  refine az (λ_ s=>gK (A:=GV) (λ_=>trivial) s) ?_
  refine Rt [Cl b (C.wA A),ag t 145 (eT b V.fin ⟨nk,none⟩),ag nk 163 (aC (au V.nb)),GV] results78 ?_
  exact⟨by rw[show min k (W.ob.length-W.mv)=d by omega],A,V.fin,none,rfl,λ_=>rfl,hI.1.fin (by omega) hd.1⟩
 refine Ti Mv ?_
 refine bq ?_
 refine zf 30 ?_
 refine bA ?_
 refine gO aM ?_
 refine dg ?_
 refine aw ?_
 refine ik 9 T.mix (.cons .here .nil) λF3 VQ uo gJ=> ?_
 obtain⟨q1,_⟩:=uo
 refine dg ?_
 refine gO gJ ?_
 refine bf ?_
 by_cases hl:W.mv+d<W.ob.length
 ·refine fB ?_
  refine bI ?_
  refine Rt [Cl b (C.wA A),ag t 145 (eT b V ⟨nk,some ok⟩),ag nk 163 (aC (au V.nb)),ag ok 163 (aC (au V.ob))] results78 ?_
  obtain rfl:d=k:=by omega
  exact⟨by rw[show min d (W.ob.length-W.mv)=d by omega],A,V,some ok,rfl,(λh=>by cases h),hI.1.go h2 hl⟩
 refine dm ?_
 refine bW ?_
 refine bI ?_
 refine az (λ_ s=>gK (A:=GV) (λ_=>trivial) s) ?_
 refine Rt [Cl b (C.wA A),ag t 145 (eT b V.fin ⟨nk,none⟩),ag nk 163 (aC (au V.nb)),GV] results78 ?_
 exact⟨by rw[show min k (W.ob.length-W.mv)=d by omega],A,V.fin,none,rfl,λ_=>rfl,hI.1.fin (by omega) hd.1⟩
theorem xy (s:Nat):fJ [.int .u32 0] (s*1)=aC (au (aae s [])):=by
 rw[nj,Nat.mul_one]
 unfold aC au
 rw[adj,adj];rfl
theorem Hf (t b nk mo n s L:Nat)(hs:s≤1048576)(hL:0<L∧L≤1048576):
  aF aaa 78 [.pointer (some ⟨t,0,none⟩), .int .i64 0] (λ_=>True) [ag t 145 [.pointer (some ⟨b,0,none⟩), .int .i64 (mo:Int), .int .i64 (n:Int), .int .i64 (s:Int), .slice none 0 0, .slice (some ⟨nk,0,none⟩) L L, .int .i64 0, .int .i64 1]]
   (λv H=>v= .int .i64 0∧∃mk,H= [ag t 145 [.pointer (some ⟨b,0,none⟩), .int .i64 (mo:Int), .int .i64 (n:Int), .int .i64 (s:Int), .slice (some ⟨mk,0,none⟩) s s, .slice (some ⟨nk,0,none⟩) L L, .int .i64 0, .int .i64 2],ag mk 163 (aC (au (aae s [])))]):=by
 refine af func78 rfl ntmps78 rfl ?_
 intro F _
 refine bW ?_
 refine x7 ?_
 refine Lp (oM (s) (s) T.yO λb1=> ?_)
 rw[xy]
 refine fK ?_
 refine Lo (ι:=Unit) [27,28,29,30,31,32,33,34,35,36,37,38,39,40,41,44,45,46,47,48,49,42,43,5] (λu=>True) (λu=> [(5, .int .i64 0)]) (λu=> [ag t 145 [.pointer (some ⟨b,0,none⟩), .int .i64 (mo:Int), .int .i64 (n:Int), .int .i64 (s:Int), .slice (some ⟨b1,0,none⟩) s s, .slice (some ⟨nk,0,none⟩) L L, .int .i64 0, .int .i64 2],ag b1 163 (aC (au (aae s [])))]) (λu=>0) (()) trivial ?_
 rintro u hI
 refine aA ?_
 refine aw ?_
 refine ik 14 T.mix (.cons .here .nil) λF1 je bR aM=> ?_
 obtain⟨q1,_⟩:=bR
 refine aW ?_
 refine zf 30 ?_ (e:=by rfl)
 refine bA ?_
 refine gO aM ?_
 refine dg ?_
 refine aw ?_
 refine ik 9 T.mix (.cons .here .nil) λF2 zM eG ez=> ?_
 obtain⟨q1,_⟩:=eG
 refine dg ?_
 refine gO ez ?_
 refine bf ?_
 refine fB ?_
 refine bI ?_
 refine Rt [ag t 145 [.pointer (some ⟨b,0,none⟩), .int .i64 (mo:Int), .int .i64 (n:Int), .int .i64 (s:Int), .slice (some ⟨b1,0,none⟩) s s, .slice (some ⟨nk,0,none⟩) L L, .int .i64 0, .int .i64 2],ag b1 163 (aC (au (aae s [])))] results78 ?_
 exact⟨rfl,_,rfl⟩
theorem xk (t b:Nat)(C:Cs)(W:Tb)(y:oa)(O:cD C W)(s:Nat)(hs:s≤1048576):
  aF aaa 152 [.pointer (some ⟨t,0,none⟩), .int .i64 (s:Int)] (λ_=>True) [ag t 145 (eT b W y),ag y.nk 163 (aC (au W.nb))]
   (λv H=>v= .tuple #[]∧∃mk,H=kR t b (W.EJ s) ⟨mk,some y.nk⟩):=by
 obtain⟨i,hi,ei⟩:=O.pw
 have hp:=ou ei hi
 unfold eT
 refine af func152 rfl ntmps152 rfl ?_
 intro F _
 refine bW ?_
 refine mI ?_
 refine Lp (oC T.Vl rfl rfl (Hf t b y.nk W.aB W.n s W.nb.length hs (by omega)) (.cons .here .nil) (λ_ _ _=>trivial) ?_)
 rintro v H' ⟨rfl,mk,rfl⟩
 refine bd ?_
 refine aG ?_
 refine jA [ag t 145 [.pointer (some ⟨b,0,none⟩), .int .i64 (W.aB:Int), .int .i64 (W.n:Int), .int .i64 (s:Int), .slice (some ⟨mk,0,none⟩) s s, .slice (some ⟨y.nk,0,none⟩) W.nb.length W.nb.length, .int .i64 0, .int .i64 2],ag mk 163 (aC (au (aae s []))),ag y.nk 163 (aC (au W.nb))] results152 ?_
 exact⟨rfl,mk,by simp[kR,eT,Tb.EJ,Qo,jd]⟩
theorem Lg (t b:Nat)(C:Cs)(K:Ok C)(W:Tb)(y:oa)(O:cD C W)(hy:y.ok=none→W.ob= [])(p:Nat)(hp:p∈W.all):
  aF aaa 150 [.pointer (some ⟨t,0,none⟩), .int .u64 (C.hd p:Int)] (λh=>In (Cl b C) h∧gw (kR t b W y) h) []
   (λv H=>v= .bool true∧H= []):=by
 have L:=O.lv p hp
 have I:=O.it p hp
 have lk:(aE C.A p).length=kl C.A p:=cK _ _ _
 have hk:=I.k0
 have hf:=I.fits
 obtain⟨z1,z2,z3,_⟩:=L.toAt.aX K
 have f1:=K.toFix.p1
 have eg:=get_some O hp rfl
 refine af func150 rfl ntmps150 rfl ?_
 rintro F ⟨hc,ht⟩
 refine bD ?_
 refine Lp (oC T.ry rfl rfl (nG t b C W y K p L I) .nil (λ_ le _=>⟨In.mono hc le,In.mono ht.1 le⟩) ?_)
 rintro v H' ⟨kb,rfl,rfl⟩
 refine bd ?_
 refine br ?_
 refine zl T.xc (lj t b C K W y O hy (some ⟨kb,0,none⟩) (kl C.A p) (kl C.A p) (aE C.A p) lk.symm (by omega)) .nil (λ_ le aq=>⟨In.mono hc le,cF ht le,bB aq.1⟩) ?_
 rw[eg,bY]
 refine bI ?_
 refine zt 20 ?_
 refine bq ?_
 refine zt 23 ?_ (e:=by rfl)
 refine bL ?_
 refine Rt [] results150 ?_
 exact⟨by rw[decide_eq_true rfl],rfl⟩
def mW (W:Tb):Prop:=W.st=0∧3*W.size<2*(W.n+1)∧W.size<W.aB
structure VK (C:Cs)(W:Tb)(p:Nat)(A:By)(V:Tb):Prop where
 o:cD (C.wA A) V
 pm:V.all.Perm (p::W.all)
 df:oh C.A A [p] 0 4
 n:V.n=W.n+1
 aB:V.aB=W.aB
 V6:mW W→V.size=2*W.size∧V.st=2∧V.mv=0∧V.ob.length=W.size
 same:¬mW W→V.size=W.size∧V.st=W.st∧V.mv=W.mv∧V.ob.length=W.ob.length
theorem abF{C:Cs}{W:Tb}(O:cD C W)(h:W.size<W.aB):2*W.size≤W.aB∧∃m,m≤20∧2*W.size=2^m:=by
 obtain⟨m,hm,e⟩:=O.pw
 obtain⟨M,hM,e2⟩:=O.mp
 have e0:=O.sz
 have h3:(2:Nat)^m<2^M:=by omega
 have h4:m<M:=(aeW (by decide)).1 h3
 have h5:(2:Nat)^(m+1)≤2^M:=adv (by decide) h4
 rw[adI]at h5
 exact⟨by omega,m+1,by omega,by rw[adI];omega⟩
theorem RP (t b:Nat)(C:Cs)(K:Ok C)(W:Tb)(y:oa)(O:cD C W)(hy:y.ok=none→W.ob= [])(p:Nat)(L:Live C p)(I:gC C p)(hp:p∉W.all)(hkd:∀q∈W.all,aE C.A q≠aE C.A p):
  aF aaa 183 [.pointer (some ⟨t,0,none⟩), .int .u64 (C.hd p:Int)] (λ_=>True) (Cl b C::kR t b W y)
   (λv H=>v= .int .i64 0∧∃A V y',H=Cl b (C.wA A)::kR t b V y'∧(y'.ok=none→V.ob= [])∧VK C W p A V):=by
 have lk:(aE C.A p).length=kl C.A p:=cK _ _ _
 have hk:=I.k0
 have hf:=I.fits
 obtain⟨z1,z2,z3,_⟩:=L.toAt.aX K
 have f1:=K.toFix.p1
 have eg:W.get C (aE C.A p)=none:=get_none hkd
 have hn:=x9 K O
 have V4:=O.J5
 have Ur:=O.sm
 have acg:W.aB≤1048576:=by
  obtain⟨m,hm,e⟩:=O.mp
  exact(ou e hm).2
 have sO:∃m,m≤20∧W.size=2^m:=by rw[O.sz];exact O.pw
 have P:=yX K O L I hp hkd (x:=W.bk (bJ (aE C.A p))) rfl
 have hx:=o7 O (bJ (aE C.A p))
 obtain⟨r1,p1,p2⟩:=Tb.mc hx
 have pa:(W.on C p).all.Perm (p::W.all):=(p2 _).trans (aaq.cons p p1.symm)
 have S:oF W (W.on C p):=oF.on (C:=C) ⟨rfl,rfl,rfl,rfl,rfl,rfl⟩ p
 have Sm:(W.on C p).mv=W.mv:=US C W p
 have lO:cz C (W.ch (W.bk (bJ (aE C.A p)))).head?:=λq hq=>O.lv q (Tb.fD (aaI hq))
 change cD (C.wA (zL W C p)) {W.on C p with n:=W.n+1}at P
 have J9:y.ok=none→(W.on C p).ob= []:=λh=>aaw (by rw[S.ob,hy h];rfl)
 have d:oh C.A (zL W C p) [p] 0 4:=uH C.A (q:=p) (a:=0) (by simp)
 have eon:W.on C p=W.cj (W.bk (bJ (aE C.A p))) (p::W.ch (W.bk (bJ (aE C.A p)))):=rfl
 have eoA:zL W C p=wr C.A p 4 (nO (W.ch (W.bk (bJ (aE C.A p)))).head?):=rfl
 generalize hV:W.on C p=V at*
 generalize hA:zL W C p=A at*
 generalize hxx:W.bk (bJ (aE C.A p))=x at*
 obtain⟨s1,s2,s3,s4,s5,s6⟩:=S
 refine af func183 rfl ntmps183 rfl ?_
 intro F _
 refine bD ?_
 refine Lp (oC T.ry rfl rfl (nG t b C W y K p L I) .nil (λ_ le aq=>⟨aq.1,aq.2.1⟩) ?_)
 rintro v H' ⟨kb,rfl,rfl⟩
 refine bd ?_
 refine dh ?_
 refine dm ?_
 refine bD ?_
 refine zl T.xc (lj t b C K W y O hy (some ⟨kb,0,none⟩) (kl C.A p) (kl C.A p) (aE C.A p) lk.symm (by omega)) .nil (λ_ le aq=>⟨aq.2.1,aq.2.2,bB aq.1⟩) ?_
 rw[eg]
 refine qY ?_
 refine zl T.Al (jU t b C W y W.n O hy (some ⟨kb,0,none⟩) (kl C.A p) (kl C.A p) (aE C.A p) lk.symm (by omega)) .nil (λ_ le aq=>⟨aq.2.2.1,bB aq.1⟩) ?_
 rw[hxx]
 refine aA ?_
 refine zl T.Dj (uX t b C K W y hy x hx p L I.k0 lO) (.cons (.there .here) (.cons (.there .here) (.cons (.there .here) (.cons (.there .here) .nil)))) (λ_ _ _=>trivial) ?_
 rw[←eon,←eoA]
 refine Hh (H':= [ag t 145 (eT b V y),ag y.nk 163 (aC (au V.nb)),jd y.ok 163 (aC (au V.ob)),Cl b (C.wA A)]) ?_
 unfold eT
 rw[s1]
 refine eC ?_
 refine aw ?_
 refine ik 28 T.mix (.cons .here .nil) λF1 je bR aM=> ?_
 obtain⟨q1,_⟩:=bR
 by_cases h0:W.st=0
 ·refine Ti Mv ?_
  refine br ?_
  refine zt 39 ?_
  refine gP ?_
  by_cases h1:3*W.size<2*(W.n+1)
  ·refine zt 52 ?_
   refine dg ?_
   refine gO aM ?_
   refine bf ?_
   by_cases h2:W.size<W.aB
   ·have hg:mW W:=⟨h0,h1,h2⟩
    have hdb:=abF O h2
    refine fB ?_
    refine bL ?_
    refine ay (t:=68) (v':=(.int .i64 ((2*W.size:Nat):Int))) rfl (by(rw[s3];rfl)) ?_
    refine Lp (oC T.Mz rfl rfl (xk t b (C.wA A) {V with n:=W.n+1} y P (2*W.size) (by omega)) (.cons .here (.cons .here .nil)) (λ_ _ _=>trivial) ?_)
    rintro v H' ⟨rfl,mk,rfl⟩
    refine bd ?_
    refine br ?_
    obtain⟨B1,B2⟩:=MR (C:=C.wA A) P (s2.trans h0) (s:=2*W.size) hdb.2 (by omega) (by show 2*W.size≤V.aB;rw[s4];exact hdb.1)
    refine Rt [Cl b (C.wA A),ag t 145 (eT b (Tb.EJ {V with n:=W.n+1} (2*W.size)) ⟨mk,some y.nk⟩),ag mk 163 (aC (au (Tb.EJ {V with n:=W.n+1} (2*W.size)).nb)),jd (some y.nk) 163 (aC (au (Tb.EJ {V with n:=W.n+1} (2*W.size)).ob))] results183 ?_
    exact⟨rfl,A,_,⟨mk,some y.nk⟩,rfl,(λh=>by cases h),⟨B1,by rw[B2];exact pa,d,rfl,s4,λ_=>⟨rfl,rfl,rfl,by show V.nb.length=_;rw[s5,O.sz]⟩,λh=>absurd hg h⟩⟩
   have hg:¬mW W:=λh=>h2 h.2.2
   refine dm ?_
   refine bD ?_
   refine Rt [Cl b (C.wA A),ag t 145 (eT b {V with n:=W.n+1} y),ag y.nk 163 (aC (au V.nb)),jd y.ok 163 (aC (au V.ob))] results183 ?_
   exact⟨rfl,A,{V with n:=W.n+1},y,rfl,J9,⟨P,pa,d,rfl,s4,λh=>absurd h hg,λ_=>⟨s3,s2,Sm,s6⟩⟩⟩
  have hg:¬mW W:=λh=>h1 h.2.1
  refine zf 52 ?_
  refine dg ?_
  refine gO aM ?_
  refine dg ?_
  refine Rt [Cl b (C.wA A),ag t 145 (eT b {V with n:=W.n+1} y),ag y.nk 163 (aC (au V.nb)),jd y.ok 163 (aC (au V.ob))] results183 ?_
  exact⟨rfl,A,{V with n:=W.n+1},y,rfl,J9,⟨P,pa,d,rfl,s4,λh=>absurd h hg,λ_=>⟨s3,s2,Sm,s6⟩⟩⟩
 have hg:¬mW W:=λh=>h0 h.1
 refine bD ?_
 refine zf 39 ?_
 refine bW ?_
 refine bf ?_
 refine gO aM ?_
 refine dg ?_
 refine Rt [Cl b (C.wA A),ag t 145 (eT b {V with n:=W.n+1} y),ag y.nk 163 (aC (au V.nb)),jd y.ok 163 (aC (au V.ob))] results183 ?_
 exact⟨rfl,A,{V with n:=W.n+1},y,rfl,J9,⟨P,pa,d,rfl,s4,λh=>absurd h hg,λ_=>⟨s3,s2,Sm,s6⟩⟩⟩
theorem rE (W:Tb)(x:Bool×Nat)(c:List Nat):oF W (W.cj x c)∧(W.cj x c).mv=W.mv:=by
 rcases x with⟨_|_,i⟩
 ·exact⟨⟨rfl,rfl,rfl,rfl,aaj,rfl⟩,rfl⟩
 exact⟨⟨rfl,rfl,rfl,rfl,rfl,aaj⟩,rfl⟩
theorem pH:∀{c:List Nat} {j:Nat} (h:j<c.length),(c[j]::c.eraseIdx j).Perm c
 |_::_,0,_=>aaq.refl _
 |a::l,j+1,h=>(aaq.swap a _ _).trans (aaq.cons a (pH (c:=l) (j:=j) (by simpa using h)))
def gV (W:Tb):Prop:=W.st=0∧16<W.size∧8*(W.n-1)<W.size
structure DH (C:Cs)(W:Tb)(p:Nat)(A:By)(V:Tb):Prop where
 o:cD (C.wA A) V
 pm:(p::V.all).Perm W.all
 df:oh C.A A W.all 0 4
 n:V.n=W.n-1
 aB:V.aB=W.aB
 V6:gV W→V.size=W.size/2∧V.st=2∧V.mv=0∧V.ob.length=W.size
 same:¬gV W→V.size=W.size∧V.st=W.st∧V.mv=W.mv∧V.ob.length=W.ob.length
theorem half{C:Cs}{W:Tb}(O:cD C W)(h:16<W.size):(∃m,m≤20∧W.size/2=2^m)∧16≤W.size/2∧W.size/2≤W.aB:=by
 obtain⟨m,hm,e⟩:=O.pw
 have e0:=O.sz
 have e1:=O.sm
 have h3:(2:Nat)^4<2^m:=by rw[←e,←e0];exact h
 have h4:4<m:=(aeW (by decide)).1 h3
 obtain⟨i,rfl⟩:∃i,m=i+1:=⟨m-1,by omega⟩
 rw[adI]at e
 have h5:(2:Nat)^4≤2^i:=adv (by decide) (by omega)
 exact⟨⟨i,by omega,by omega⟩,by omega,by omega⟩
theorem NA (t b:Nat)(C:Cs)(K:Ok C)(W:Tb)(y:oa)(O:cD C W)(hy:y.ok=none→W.ob= [])(p:Nat)(hp:p∈W.all):
  aF aaa 99 [.pointer (some ⟨t,0,none⟩), .int .u64 (C.hd p:Int)] (λ_=>True) (Cl b C::kR t b W y)
   (λv H=>v= .int .i64 0∧∃A V y',H=Cl b (C.wA A)::kR t b V y'∧(y'.ok=none→V.ob= [])∧DH C W p A V):=by
 have hn:=x9 K O
 have V4:=O.J5
 have Ur:=O.sm
 have acg:W.aB≤1048576:=by
  obtain⟨m,hm,e⟩:=O.mp
  exact(ou e hm).2
 have hx:=o7 O (bJ (aE C.A p))
 have hpc:=DA O hp
 have hlen:=rz O (W.bk (bJ (aE C.A p)))
 generalize hxx:W.bk (bJ (aE C.A p))=x at*
 obtain⟨c,hc⟩:∃c,W.ch x=c:=⟨_,rfl⟩
 rw[hc]at hpc hlen
 obtain⟨j,hj,ej⟩:=aaz hpc
 obtain⟨P,d⟩:=Fx K O hx hc hj ej
 obtain⟨r1,p1,p2⟩:=Tb.mc hx
 rw[hc]at p1
 have pa:(p::(W.cj x (c.eraseIdx j)).all).Perm W.all:=by
  refine(aaq.cons p (p2 _)).trans (aaq.trans ?_ p1.symm)
  have:=aaq.append_right r1 (pH hj)
  rw[ej]at this
  exact this
 obtain⟨⟨s1,s2,s3,s4,s5,s6⟩,Sm⟩:=rE W x (c.eraseIdx j)
 have hn1:1≤W.n:=by omega
 have pull:=Az t b C K W y O hy x hx c hc j hj p ej
 generalize hV:W.cj x (c.eraseIdx j)=V at*
 generalize hA:mV C.A c j p=A at*
 have J9:y.ok=none→V.ob= []:=λh=>aaw (by rw[s6,hy h];rfl)
 refine af func99 rfl ntmps99 rfl ?_
 intro F _
 refine bL ?_
 refine zl T.Dl (Lg t b C K W y O hy p hp) .nil (λ_ le aq=>⟨aq.1,aq.2⟩) ?_
 refine dh ?_
 refine zl T.MA (pull) (.cons .here (.cons .here (.cons .here (.cons .here .nil)))) (λ_ _ _=>trivial) ?_
 refine Hh (H':= [ag t 145 (eT b V y),ag y.nk 163 (aC (au V.nb)),jd y.ok 163 (aC (au V.ob)),Cl b (C.wA A)]) ?_
 unfold eT
 rw[s1]
 refine bL ?_
 refine ay (t:=16) (v':=(.int .i64 ((W.n-1:Nat):Int))) rfl (by(congr 1;omega)) ?_
 refine br ?_
 refine aw ?_
 refine ik 23 T.mix (.cons .here .nil) λF1 je bR aM=> ?_
 obtain⟨q1,_⟩:=bR
 by_cases h0:W.st=0
 ·refine Ti Mv ?_
  refine br ?_
  refine zt 24 ?_
  refine bL ?_
  by_cases h1:16<W.size
  ·refine zt 31 ?_
   refine bA ?_
   refine gO aM ?_
   refine bf ?_
   by_cases h2:8*(W.n-1)<W.size
   ·have hg:gV W:=⟨h0,h1,h2⟩
    obtain⟨dq,cX,bU⟩:=half O h1
    refine fB ?_
    refine bD ?_
    refine Li (Qu (q:=2)) ?_
    refine ay (t:=48) (v':=(.int .i64 ((W.size/2:Nat):Int))) rfl (by rw[s3]) ?_
    refine Lp (oC T.Mz rfl rfl (xk t b (C.wA A) {V with n:=W.n-1} y P (W.size/2) (by omega)) (.cons .here (.cons .here .nil)) (λ_ _ _=>trivial) ?_)
    rintro v H' ⟨rfl,mk,rfl⟩
    refine bd ?_
    refine br ?_
    obtain⟨B1,B2⟩:=MR (C:=C.wA A) P (s2.trans h0) (s:=W.size/2) dq cX (by show W.size/2≤V.aB;rw[s4];exact bU)
    refine Rt [Cl b (C.wA A),ag t 145 (eT b (Tb.EJ {V with n:=W.n-1} (W.size/2)) ⟨mk,some y.nk⟩),ag mk 163 (aC (au (Tb.EJ {V with n:=W.n-1} (W.size/2)).nb)),jd (some y.nk) 163 (aC (au (Tb.EJ {V with n:=W.n-1} (W.size/2)).ob))] results99 ?_
    exact⟨rfl,A,_,⟨mk,some y.nk⟩,rfl,(λh=>by cases h),⟨B1,by rw[B2];exact pa,d,rfl,s4,λ_=>⟨rfl,rfl,rfl,by show V.nb.length=_;rw[s5,O.sz]⟩,λh=>absurd hg h⟩⟩
   have hg:¬gV W:=λh=>h2 h.2.2
   refine dm ?_
   refine bD ?_
   refine Rt [Cl b (C.wA A),ag t 145 (eT b {V with n:=W.n-1} y),ag y.nk 163 (aC (au V.nb)),jd y.ok 163 (aC (au V.ob))] results99 ?_
   exact⟨rfl,A,{V with n:=W.n-1},y,rfl,J9,⟨P,pa,d,rfl,s4,λh=>absurd h hg,λ_=>⟨s3,s2,Sm,s6⟩⟩⟩
  have hg:¬gV W:=λh=>h1 h.2.1
  refine zf 31 ?_
  refine bA ?_
  refine gO aM ?_
  refine dg ?_
  refine Rt [Cl b (C.wA A),ag t 145 (eT b {V with n:=W.n-1} y),ag y.nk 163 (aC (au V.nb)),jd y.ok 163 (aC (au V.ob))] results99 ?_
  exact⟨rfl,A,{V with n:=W.n-1},y,rfl,J9,⟨P,pa,d,rfl,s4,λh=>absurd h hg,λ_=>⟨s3,s2,Sm,s6⟩⟩⟩
 have hg:¬gV W:=λh=>h0 h.1
 refine bD ?_
 refine zf 24 ?_
 refine mI ?_
 refine gO aM ?_
 refine dg ?_
 refine Rt [Cl b (C.wA A),ag t 145 (eT b {V with n:=W.n-1} y),ag y.nk 163 (aC (au V.nb)),jd y.ok 163 (aC (au V.ob))] results99 ?_
 exact⟨rfl,A,{V with n:=W.n-1},y,rfl,J9,⟨P,pa,d,rfl,s4,λh=>absurd h hg,λ_=>⟨s3,s2,Sm,s6⟩⟩⟩
theorem RQ (t b:Nat)(C:Cs)(K:Ok C)(W:Tb)(y:oa)(O:cD C W)(hy:y.ok=none→W.ob= [])(p q:Nat)(hp:p∈W.all)(L:Live C q)(I:gC C q)(hq:q∉W.all)(sP:aE C.A p=aE C.A q):
  aF aaa 150 [.pointer (some ⟨t,0,none⟩), .int .u64 (C.hd q:Int)] (λh=>In (Cl b C) h∧gw (kR t b W y) h) []
   (λv H=>v= .bool false∧H= []):=by
 have lk:(aE C.A q).length=kl C.A q:=cK _ _ _
 have hk:=I.k0
 have hf:=I.fits
 obtain⟨z1,z2,z3,_⟩:=L.toAt.aX K
 have f1:=K.toFix.p1
 have eg:=get_some O hp sP
 have ne:C.hd p≠C.hd q:=λe=>hq (lW K (O.lv p hp).toAt L.toAt e▸hp)
 refine af func150 rfl ntmps150 rfl ?_
 rintro F ⟨hc,ht⟩
 refine bD ?_
 refine Lp (oC T.ry rfl rfl (nG t b C W y K q L I) .nil (λ_ le _=>⟨In.mono hc le,In.mono ht.1 le⟩) ?_)
 rintro v H' ⟨kb,rfl,rfl⟩
 refine bd ?_
 refine br ?_
 refine zl T.xc (lj t b C K W y O hy (some ⟨kb,0,none⟩) (kl C.A q) (kl C.A q) (aE C.A q) lk.symm (by omega)) .nil (λ_ le aq=>⟨In.mono hc le,cF ht le,bB aq.1⟩) ?_
 rw[eg,bY]
 refine bI ?_
 refine zt 20 ?_
 refine bq ?_
 refine zt 23 ?_ (e:=by rfl)
 refine bL ?_
 refine Rt [] results150 ?_
 exact⟨by rw[decide_eq_false (by omega)],rfl⟩
structure M6 (C:Cs)(W:Tb)(p q:Nat)(A:By)(V:Tb):Prop where
 o:cD (C.wA A) V
 pm:∃r,W.all.Perm (p::r)∧V.all.Perm (q::r)
 df:oh C.A A (q::W.all) 0 4
 s:oF W V
 mv:V.mv=W.mv
theorem NB (t b:Nat)(C:Cs)(K:Ok C)(W:Tb)(y:oa)(O:cD C W)(hy:y.ok=none→W.ob= [])(p q:Nat)(hp:p∈W.all)(L:Live C q)(I:gC C q)(hq:q∉W.all)(sP:aE C.A p=aE C.A q):
  aF aaa 103 [.pointer (some ⟨t,0,none⟩), .int .u64 (C.hd p:Int), .int .u64 (C.hd q:Int)] (λ_=>True) (Cl b C::kR t b W y)
   (λv H=>v= .int .i64 0∧∃A V,H=Cl b (C.wA A)::kR t b V y∧(y.ok=none→V.ob= [])∧M6 C W p q A V):=by
 have lk:(aE C.A q).length=kl C.A q:=cK _ _ _
 have hk:=I.k0
 have hf:=I.fits
 obtain⟨z1,z2,z3,_⟩:=L.toAt.aX K
 have f1:=K.toFix.p1
 have hx:=o7 O (bJ (aE C.A p))
 have hpc:=DA O hp
 have hlen:=rz O (W.bk (bJ (aE C.A p)))
 generalize hxx:W.bk (bJ (aE C.A p))=x at*
 obtain⟨c,hc⟩:∃c,W.ch x=c:=⟨_,rfl⟩
 rw[hc]at hpc hlen
 obtain⟨j,hj,ej⟩:=aaz hpc
 obtain⟨P,d⟩:=Fx K O hx hc hj ej
 obtain⟨r1,p1,p2⟩:=Tb.mc hx
 rw[hc]at p1
 have pa:(p::(W.cj x (c.eraseIdx j)).all).Perm W.all:=by
  refine(aaq.cons p (p2 _)).trans (aaq.trans ?_ p1.symm)
  have:=aaq.append_right r1 (pH hj)
  rw[ej]at this
  exact this
 have S:=rE W x (c.eraseIdx j)
 have pull:=Az t b C K W y O hy x hx c hc j hj p ej
 have sub:∀s∈(W.cj x (c.eraseIdx j)).all,s∈W.all∧s≠p:=λs hs=>by
  refine⟨pa.mem_iff.1 (aag _ hs),λe=> ?_⟩
  have:=pa.nodup_iff.2 O.nd
  exact(aar.1 this).1 (e▸hs)
 generalize hV:W.cj x (c.eraseIdx j)=V at*
 generalize hA:mV C.A c j p=A at*
 obtain⟨⟨s1,s2,s3,s4,s5,s6⟩,Sm⟩:=S
 have J9:y.ok=none→V.ob= []:=λh=>aaw (by rw[s6,hy h];rfl)
 have kp:=λs (h:s∈W.all)=>vE K d (λu hu=>(O.lv u hu).toAt) (by omega) (O.lv s h).toAt (O.it s h)
 have kq:=vE K d (λu hu=>(O.lv u hu).toAt) (by omega) L.toAt I
 have K2:=K.wA A
 have L2:=L.wA A
 have I2:=kq.it I
 have hkd2:∀s∈Tb.all {V with n:=W.n-1},aE (C.wA A).A s≠aE (C.wA A).A q:=λs hs e=>by
  obtain⟨g1,g2⟩:=sub s hs
  change aE A s=aE A q at e
  rw[(kp s g1).key,kq.key,←sP]at e
  exact g2 (O.kd s g1 p hp e)
 have P2:=yX K2 P L2 I2 (λh=>hq (sub q h).1) hkd2 (x:=V.bk (bJ (aE A q))) rfl
 have Uq:Ci V (V.bk (bJ (aE A q))):=o7 P (bJ (aE A q))
 have kqe:aE A q=aE C.A q:=kq.key
 have lO2:cz (C.wA A) (V.ch (V.bk (bJ (aE A q)))).head?:=λu hu=>P.lv u (Tb.fD (T:=V) (aaI hu))
 obtain⟨r3,p3,p4⟩:=Tb.mc Uq
 generalize hxx2:V.bk (bJ (aE A q))=x2 at*
 refine af func103 rfl ntmps103 rfl ?_
 intro F _
 refine bD ?_
 refine Lp (oC T.ry rfl rfl (nG t b C W y K q L I) .nil (λ_ le aq=>⟨aq.1,aq.2.1⟩) ?_)
 rintro v H' ⟨kb,rfl,rfl⟩
 refine bd ?_
 refine bL ?_
 refine zl T.Dl (Lg t b C K W y O hy p hp) .nil (λ_ le aq=>⟨aq.2.1,aq.2.2⟩) ?_
 refine bf ?_
 refine zf 16 ?_ (e:=by rfl)
 refine br ?_
 refine zf 21 ?_
 refine bf ?_
 refine zl T.Dl (RQ t b C K W y O hy p q hp L I hq sP) .nil (λ_ le aq=>⟨aq.2.1,aq.2.2⟩) ?_
 refine aW ?_
 refine Hh (H':= [Cl b C,ag t 145 (eT b W y),ag y.nk 163 (aC (au W.nb)),jd y.ok 163 (aC (au W.ob)),own (some ⟨kb,0,none⟩) (kl C.A q) 5 1 (ak (aE C.A q))]) ?_
 unfold eT
 refine bL ?_
 refine zl T.Vj (A6 b C K p (O.lv p hp) (O.it p hp) (some ⟨kb,0,none⟩) (kl C.A q) (kl C.A q) (aE C.A q) lk.symm (by omega)) .nil (λ_ le aq=>⟨aq.1,bB aq.2.2.2.2.1⟩) ?_
 rw[decide_eq_true sP]
 refine bA ?_
 refine zl T.MA (pull) (.cons .here (.cons .here (.cons .here (.cons .here .nil)))) (λ_ _ _=>trivial) ?_
 refine br ?_
 refine zl T.Al (jU t b (C.wA A) V y (W.n-1) P J9 (some ⟨kb,0,none⟩) (kl C.A q) (kl C.A q) (aE C.A q) lk.symm (by omega)) .nil (λ_ le aq=>⟨aq.2.1,bB aq.2.2.2.2.1⟩) ?_
 rw[show V.bk (bJ (aE C.A q))=x2 by rw[←kqe];exact hxx2]
 refine aA ?_
 refine zl T.Dj (uX t b (C.wA A) K2 V y J9 x2 Uq q L2 I2.k0 lO2) (.cons .here (.cons .here (.cons .here (.cons .here .nil)))) (λ_ _ _=>trivial) ?_
 refine br ?_
 have hn1:1≤W.n:=by omega
 have e2:({({V with n:=W.n-1}:Tb).cj x2 (q::V.ch x2)with n:=W.n-1+1}:Tb)=V.cj x2 (q::V.ch x2):=by
  rcases x2 with⟨_|_,i⟩<;>(simp[Tb.cj];omega)
 change cD _ {({V with n:=W.n-1}:Tb).cj x2 (q::V.ch x2)with n:=W.n-1+1}at P2
 rw[e2]at P2
 have S2:=rE V x2 (q::V.ch x2)
 have pz:(V.cj x2 (q::V.ch x2)).all.Perm (q::V.all):=(p4 _).trans (aaq.cons q p3.symm)
 generalize hV2:V.cj x2 (q::V.ch x2)=V2 at*
 obtain⟨⟨t1,t2,t3,t4,t5,t6⟩,Tm⟩:=S2
 refine Rt [Cl b ((C.wA A).wA (wr A q 4 (nO (V.ch x2).head?))),ag t 145 (eT b V2 y),ag y.nk 163 (aC (au V2.nb)),jd y.ok 163 (aC (au V2.ob))] results103 ?_
 refine⟨rfl,wr A q 4 (nO (V.ch x2).head?),V2,rfl,λh=>aaw (by rw[t6,J9 h];rfl),P2,⟨V.all,pa.symm,pz⟩, ?_,⟨t1.trans s1,t2.trans s2,t3.trans s3,t4.trans s4,t5.trans s5,t6.trans s6⟩,Tm.trans Sm⟩
 exact(d.mono λu hu=>aag _ hu).trans ((uH A (S:= [q]) (q:=q) (a:=0) (by simp)).mono λu hu=>by rw[aaA]at hu;rw[hu];exact List.mem_cons_self)
end Go.Proofs.YtdolmecackmjdaaGreatDoor
