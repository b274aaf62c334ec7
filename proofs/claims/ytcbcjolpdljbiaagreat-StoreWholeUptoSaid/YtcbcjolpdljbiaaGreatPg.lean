/- Part Pg of the proof. -/
import Derived.Test.YtcbcjolpdljbiaaGreatPd
import Derived.Test.YtcbcjolpdljbiaaGreatPf
set_option maxRecDepth 100000
open Go.Proofs.YtcbcjolpdljbiaaGreat.T
open List renaming mem_append -> af3, mem_flatten -> ajm, getElem_of_mem -> aft, getD_eq_getElem?_getD -> aaP, getElem?_eq_getElem -> aaQ, getElem_mem -> aa4, getElem?_eq_none -> aa7, Sublist -> akz, find?_eq_none -> agj, getElem?_map -> aa6, head?_drop -> ajf, length_erase_of_mem -> ajQ, mem_of_mem_drop -> aj5, mem_of_mem_head? -> afB, map_set -> afO, length_set -> aaY, getElem_map -> agu, getElem_inj -> ajF, append_assoc -> afR, Perm -> aa1, perm_append_comm -> afl, flatten_cons -> ajR, mem_append_right -> agr, nodup_append -> afL, eq_nil_of_length_eq_zero -> afm, length_append -> aaZ, nodup_cons -> aa3, mem_cons -> aa5, length_eraseIdx_of_lt -> ai7, getElem?_eraseIdx_of_ge -> afp, mem_singleton -> afq, mem_cons_of_mem -> aaW, eq_nil_iff_forall_not_mem -> ajA, replicate -> aaS, getElem?_replicate -> afD, length_replicate -> afQ, map_replicate -> afK
open Nat renaming pow_le_pow_right -> afX, le_trans -> ai5, mod_lt -> ai4, zero_le -> afk, pow_lt_pow_iff_right -> ajU, pow_succ -> af9
open Decidable renaming byContradiction -> aa2
open Go.Proofs.Tryz renaming prog -> aaO
open Go.Proofs.Tryz
open Go.Value renaming int -> CO
open Go.IntKind renaming i64 -> CN, u64 -> CJ, u8 -> akN, u32 -> akO
namespace Go.Proofs.YtcbcjolpdljbiaaGreat
open Go Go.dG Go.Proofs.YtcbcjolpdljbiaaGreat.Cs
theorem Cs.CV.wA{C:Cs}{c p:Nat}(h:CV C c p)(A:By):CV (C.wA A) c p:=⟨⟨h.i,h.own,h.al,h.k⟩,h.cl,h.tk,h.lv⟩
theorem Cs.CV.ofA{C:Cs}{c p:Nat}{A:By}(h:CV (C.wA A) c p):CV C c p:=⟨⟨h.i,h.own,h.al,h.k⟩,h.cl,h.tk,h.lv⟩
theorem Cs.Ok.wA{C:Cs}(K:Ok C)(A:By):Ok (C.wA A):=
 ⟨⟨K.p0,K.p1,K.p8,K.n0,K.n1,K.l0,K.l1,K.s0,K.pl,K.rl⟩,λx h=>⟨(K.pg x h).cl,(K.pg x h).gl,(K.pg x h).tl,(K.pg x h).Zn,(K.pg x h).VT,(K.pg x h).nd,(K.pg x h).held,(K.pg x h).no⟩,
  λc p h=>(K.fr c p h).wA A,K.fn,λc p h=>K.fa c p h.ofA,K.ft,K.fp,K.fs,K.sp⟩
theorem Cs.At.wA{C:Cs}{p:Nat}(h:At C p)(A:By):At (C.wA A) p:=⟨h.i,h.own,h.al,h.k⟩
theorem Cs.Live.wA{C:Cs}{p:Nat}(h:Live C p)(A:By):Live (C.wA A) p:=⟨h.toAt.wA A,h.tk⟩
theorem cK (C:Cs)(A:By):(C.wA A).A=A:=rfl
theorem far{C:Cs}(K:Ok C){p q:Nat}(L:At C p)(M:At C q){a n o w:Nat}(ha:a+n<=C.sz (C.cl q))(ho:o+w<=C.sz (C.cl p))(h:p=q->a+n<=o\/o+w<=a):p+o+w<=q+a\/q+a+n<=p+o:=by
 by_cases e:p=q
 ·subst e
  rcases h rfl with h|h<;>omega
 ·rcases apart K L M e with h|h<;>omega
theorem lY{C:Cs}(K:Ok C){p q:Nat}(L:At C p)(M:At C q){a n v o w:Nat}(ha:a+n<=C.sz (C.cl q))(ho:o+w<=C.sz (C.cl p))(h:p=q->a+n<=o\/o+w<=a):rd (wr C.A (q+a) n v) (p+o) w=rd C.A (p+o) w:=
 aT _ _ _ _ _ _ (far K L M ha ho h)
theorem Ji{C:Cs}(K:Ok C){p q:Nat}(L:At C p)(M:At C q){a n v o w:Nat}(ha:a+n<=C.sz (C.cl q))(ho:o+w<=C.sz (C.cl p))(h:p=q->a+n<=o\/o+w<=a):jU (wr C.A (q+a) n v) (p+o) w=jU C.A (p+o) w:=
 sG _ _ _ _ _ _ (far K L M ha ho h)
structure Kept (C:Cs)(A:By)(p:Nat):Prop where
 kl:kl A p=kl C.A p
 vl:vl A p=vl C.A p
 key:aP A p=aP C.A p
 it:gO C p->gO (C.wA A) p
theorem wO{C:Cs}(K:Ok C){p q:Nat}(L:At C p)(M:At C q)(I:gO C p){a n v:Nat}(ha:a+n<=12):Kept C (wr C.A (q+a) n v) p:=by
 have n1:=(L.bn K).2.1;have m1:=(M.bn K).2.1;have hf:=I.fits;have e1:kl (wr C.A (q+a) n v) p=kl C.A p:=lY K L M (by omega) (by omega) (λ_=>by omega);have e2:vl (wr C.A (q+a) n v) p=vl C.A p:=lY K L M (by omega) (by omega) (λ_=>by omega);refine⟨e1,e2, ?_,λJ=>⟨?_, ?_, ?_, ?_⟩⟩
 ·unfold aP
  rw[e1];exact Ji K L M (by omega) (by omega) (λ_=>by omega)
 ·rw[cK,e1];exact J.k0
 ·rw[cK,e1,e2];exact J.fits
 ·rw[cK,lY K L M (by omega) (by omega) (λ_=>by omega)];exact J.exp
 rw[cK,lY K L M (by omega) (by omega) (λ_=>by omega)];exact J.tch
def FY (A:By):List Nat->Prop
 | []=>True
 |p::l=>rd A p 4=nO l.head?/\FY A l
structure Tb where
 aI:Nat
 n:Nat
 size:Nat
 nb:List (List Nat)
 ob:List (List Nat)
 mv:Nat
 st:Nat
namespace Tb
def bk (T:Tb)(h:Nat):Bool×Nat:=if 0<T.ob.length/\T.mv<=h % T.ob.length then(true,h % T.ob.length)else(false,h % T.nb.length)
def ch (T:Tb)(x:Bool×Nat):List Nat:=if x.1 then T.ob.getD x.2 []else T.nb.getD x.2 []
def cT (T:Tb)(x:Bool×Nat)(c:List Nat):Tb:=if x.1 then{T with ob:=T.ob.set x.2 c}else{T with nb:=T.nb.set x.2 c}
def all (T:Tb):List Nat:=T.nb.flatten++T.ob.flatten
end Tb
def ag2 (z:Int)(c:UInt8):Int:=IntKind.u64.wrap (IntKind.u64.wrap ((BitVec.ofInt 64 z^^^BitVec.ofInt 64 (c.toNat:Int)).toNat:Int)*1099511628211)
def V7 (l:List UInt8):Int:=l.foldl ag2 14695981039346656037
def cx (l:List UInt8):Nat:=(V7 l).toNat
theorem Ew (l:List UInt8)(c:UInt8):V7 (l++ [c])=ag2 (V7 l) c:=by unfold V7;rw[List.foldl_append];rfl
theorem KV (z:Int):0<=IntKind.u64.wrap z/\IntKind.u64.wrap z<18446744073709551616:=by
 rw[IntKind.wrap_u64];omega
theorem L6 (l:List UInt8):0<=V7 l/\V7 l<18446744073709551616:=by
 rcases List.eq_nil_or_concat l with rfl|⟨m,c,rfl⟩
 ·decide
 rw[List.concat_eq_append,Ew];exact KV _
theorem J0 (l:List UInt8):V7 l=(cx l:Int)/\cx l<18446744073709551616:=by
 have:=L6 l;unfold cx;omega
structure dq (C:Cs)(T:Tb):Prop where
 pw:∃m,m<=20/\T.nb.length=2^m
 po:T.ob= []\/∃m,m<=20/\T.ob.length=2^m
 st:(T.st=0/\T.ob= [])\/(T.st=2/\0<T.ob.length/\T.mv<=T.ob.length)
 mp:∃m,m<=20/\T.aI=2^m
 sz:T.size=T.nb.length
 Oq:16<=T.size
 sm:T.size<=T.aI
 mv:T.mv<=1048576
 n:T.n=T.all.length
 nd:T.all.Nodup
 li:∀x,FY C.A (T.ch x)
 lv:∀p∈T.all,Live C p
 it:∀p∈T.all,gO C p
 bu:∀x p,p∈T.ch x->T.bk (cx (aP C.A p))=x
 kd:∀p∈T.all,∀q∈T.all,aP C.A p=aP C.A q->p=q
theorem Tb.JC{T:Tb}{p:Nat}:p∈T.all↔∃x,p∈T.ch x:=by
 unfold all ch;rw[af3,ajm,ajm]
 constructor
 ·rintro(⟨l,h1,h2⟩|⟨l,h1,h2⟩)
  ·obtain⟨i,hi,rfl⟩:=aft h1
   exact⟨(false,i),by simpa[aaP,hi]using h2⟩
  obtain⟨i,hi,rfl⟩:=aft h1;exact⟨(true,i),by simpa[aaP,hi]using h2⟩
 rintro⟨⟨f,i⟩,h⟩;rcases f with _|_
 ·left
  simp only[Bool.false_eq_true,if_false,aaP]at h;by_cases hi:i<T.nb.length
  ·rw[aaQ hi]at h
   exact⟨_,aa4 hi,h⟩
  rw[aa7 (by omega)]at h;cases h
 right
 simp only[if_true,aaP]at h;by_cases hi:i<T.ob.length
 ·rw[aaQ hi]at h
  exact⟨_,aa4 hi,h⟩
 rw[aa7 (by omega)]at h;cases h
theorem Tb.gU{T:Tb}{x:Bool×Nat}{p:Nat}(h:p∈T.ch x):p∈T.all:=JC.2 ⟨x,h⟩
theorem Tb.oR (T:Tb)(x:Bool×Nat):akz (T.ch x) T.all:=by
 unfold ch all;rcases x with⟨f,i⟩
 have g:∀(L:List (List Nat)),akz (L.getD i []) L.flatten:=λL=>by
  by_cases hi:i<L.length
  ·rw[aaP,aaQ hi]
   exact List.sublist_flatten_of_mem (aa4 hi)
  rw[aaP,aa7 (by omega)];exact List.nil_sublist _
 rcases f with _|_
 ·exact(g T.nb).trans (List.sublist_append_left _ _)
 exact(g T.ob).trans (List.sublist_append_right _ _)
def Tb.get (T:Tb)(C:Cs)(k:List UInt8):Option Nat:=T.all.find? λp=>decide (aP C.A p=k)
theorem get_some{C:Cs}{T:Tb}(O:dq C T){p:Nat}{k:List UInt8}(h:p∈T.all)(hk:aP C.A p=k):T.get C k=some p:=by
 unfold Tb.get;cases hf:T.all.find? (λp=>decide (aP C.A p=k))with
 |none=>exact absurd hk (by simpa using agj.1 hf p h)
 |some q=>
  have h1:=List.mem_of_find?_eq_some hf;have h2:=List.find?_some hf;rw[O.kd p h q h1 (by rw[hk,of_decide_eq_true h2])]
theorem get_none{C:Cs}{T:Tb}{k:List UInt8}(h:∀p∈T.all,aP C.A p≠k):T.get C k=none:=by
 unfold Tb.get;rw[agj];intro p hp
 simpa using h p hp
theorem Hj{C:Cs}{T:Tb}(O:dq C T){p:Nat}(h:p∈T.all):p∈T.ch (T.bk (cx (aP C.A p))):=by
 obtain⟨x,hx⟩:=Tb.JC.1 h;rw[O.bu x p hx];exact hx
theorem uM{C:Cs}{T:Tb}(O:dq C T)(x:Bool×Nat):(T.ch x).length<=T.n:=by
 rw[O.n];exact(T.oR x).length_le
theorem uG{A:By}:∀{l:List Nat} {k:Nat} (_:FY A l) (hk:k<l.length),rd A l[k] 4=nO (l.drop (k+1)).head?
 |_::l,0,h,_=>h.1
 |_::l,k+1,h,hk=>uG (l:=l) h.2 (by simpa using hk)
open Go Go.dG Go.Proofs.YtcbcjolpdljbiaaGreat.Cs
theorem K5{l:List UInt8}{k:Nat}(h:k<l.length):l.take (k+1)=l.take k++ [l[k]]:=by
 rw[List.take_add_one,aaQ h];rfl
theorem ab4 (a:Option Addr)(m c:Nat)(l:List UInt8)(hm:m=l.length)(hl:l.length<281474976710656):
  aO aaO 141 [.slice a m c] (λh=>gg h a (ax l)) [] (λv H=>v=CO CJ (cx l)/\H= []):=by
 refine ag func141 rfl ntmps141 rfl ?_;intro F r;refine gz ?_;refine Lo (ι:=Nat) [9,10,11,5,12,13,14,15,16,3,17,8] (λk=>k<=m) (λk=> [(3,CO CJ (V7 (l.take k))),(8,CO CN k)]) (λk=> []) (λk=>m-k) (0) (by simp) ?_;rintro k hI;refine bz ?_;refine aw ?_;refine aE rfl ?_ ?_
 ·intro hk
  replace hk:=aS hk;have cL:k<l.length:=by omega
  have kb:(ax l)[k]?=some (CO akN (l[k].toNat:Nat)):=by unfold ax;rw[aa6,aaQ cL];rfl
  have hc:=l[k].toNat_lt;refine bE ?_;refine Li (Ix kk) ?_;refine rj ?_;refine aF ?_;refine ay (t:=3) (v':=(CO CJ (V7 (l.take (k+1))))) rfl (by(rw[K5 cL,Ew];rfl)) ?_;refine Ro (k+1) (by omega) (by omega)
 intro hk;replace hk:=aS hk;obtain rfl:k=m:=by omega
 rw[List.take_of_length_le (by omega),(J0 l).1];refine bM ?_;refine Rt [] results141 ?_;exact⟨rfl,rfl⟩
structure qw where
 nk:Nat
 ok:Option Nat
def aD (l:List (List Nat)):List Nat:=l.map λc=>nO c.head?
theorem nU (l:List (List Nat)):(aD l).length=l.length:=by simp[aD]
def fk (b:Nat)(T:Tb)(y:qw):List Value:= [CM b,CO CN T.aI,CO CN T.n,CO CN T.size, .slice (some ⟨y.nk,0,none⟩) T.nb.length T.nb.length,Vx y.ok T.ob.length,CO CN T.mv,CO CN T.st]
def nq (t b:Nat)(T:Tb)(y:qw):List aa:= [af t 154 (fk b T y),af y.nk 149 (aM (aD T.nb)),jH y.ok 149 (aM (aD T.ob))]
abbrev TL (t b:Nat)(T:Tb)(y:qw):aa:=aG (nq t b T y)
theorem mu (t b:Nat)(C:Cs)(W:Tb)(y:qw)(K:Ok C)(o:Option Nat)(ho:di C o):
  aO aaO 93 [CM t,CO akO (nO o)] (λh=>In (Cl b C) h/\In (af t 154 (fk b W y)) h) []
   (λv H=>v=CO CJ (hO C o)/\H= []):=by
 unfold fk;refine ag func93 rfl ntmps93 rfl ?_;rintro F ⟨hc,ht⟩;rcases o with _|q
 ·refine gK ?_
  refine gz ?_;refine Rt [] results93 ?_;exact⟨rfl,rfl⟩
 have M:=ho q rfl;obtain⟨m1,m2,m3,m4,m5,m6⟩:=bV K M.toAt;rw[qB];refine dm ?_;refine cO ?_;refine bW ?_;refine ay (t:=17) (v':=(CO CN q)) rfl (by rw[show(8:Int)*(((q/8+1:Nat):Int)-1)=(q:Int) by omega]) ?_;refine zl CF (ZP b C K q M) .nil (λ_ le _=>In.mono hc le) ?_;refine bW ?_;refine Rt [] results93 ?_;exact⟨rfl,rfl⟩
theorem jS (t b:Nat)(C:Cs)(W:Tb)(y:qw)(K:Ok C)(p:Nat)(o:Option Nat)(L:Live C p)(hk:kl C.A p≠0)(ho:di C o)(hn:rd C.A p 4=nO o):
  aO aaO 96 [CM t,CO CJ (C.hd p)] (λh=>In (Cl b C) h/\In (af t 154 (fk b W y)) h) []
   (λv H=>v=CO CJ (hO C o)/\H= []):=by
 unfold fk;refine ag func96 rfl ntmps96 rfl ?_;rintro F ⟨hc,ht⟩;refine cA ?_;refine zl CF (nI b C K p 0 o L hk (by omega) ho hn) .nil (λ_ le _=>In.mono hc le) ?_;refine bM ?_;refine Rt [] results96 ?_;exact⟨rfl,rfl⟩
theorem qy (t b:Nat)(C:Cs)(W:Tb)(y:qw)(K:Ok C)(p:Nat)(L:Live C p)(I:gO C p):
  aO aaO 196 [CM t,CO CJ (C.hd p)] (λh=>In (Cl b C) h/\In (af t 154 (fk b W y)) h) []
   (λv H=>∃kb,v= .slice (some ⟨kb,0,none⟩) (kl C.A p) (kl C.A p)/\H= [own (some ⟨kb,0,none⟩) (kl C.A p) 5 1 (ax (aP C.A p))]):=by
 unfold fk;refine ag func196 rfl ntmps196 rfl ?_;rintro F ⟨hc,ht⟩;refine cA ?_;refine Lp (oC CF rfl rfl (tP b C K p L I) .nil (λ_ le _=>In.mono hc le) ?_);rintro v H' ⟨kb,vb,rfl,rfl⟩;refine aX ?_;unfold C5;refine bz ?_;refine Lp (oA cb λb1=> ?_);refine cA ?_;refine Rt [own (some ⟨kb,0,none⟩) (kl C.A p) 5 1 (ax (aP C.A p))] results196 ?_;exact⟨kb,rfl,rfl⟩
def bkA (y:qw)(x:Bool×Nat):Addr:=⟨if x.1 then y.ok.getD 0 else y.nk,x.2,none⟩
theorem wW{a L m:Nat}(hL:L=2^m)(hm:m<=20)(ha:a<18446744073709551616):gG .and .u64 (a:Int) ((L-1:Nat):Int)=some ((a % L:Nat):Int):=by
 subst hL;exact yI m (by omega) ha
theorem rH{L m:Nat}(hL:L=2^m)(hm:m<=20):1<=L/\L<=1048576:=by
 subst hL;exact⟨Nat.one_le_two_pow,by
  have:=afX (n:=2) (by decide) hm;exact ai5 this (by decide)⟩
theorem mw (t b:Nat)(C:Cs)(W:Tb)(y:qw)(k:Nat)(O:dq C {W with n:=k})(hy:y.ok=none->W.ob= [])(a:Option Addr)(m c:Nat)(l:List UInt8)(hm:m=l.length)(hl:l.length<281474976710656):
  aO aaO 94 [CM t, .slice a m c] (λh=>In (af t 154 (fk b W y)) h/\gg h a (ax l)) []
   (λv H=>v= .pointer (some (bkA y (W.bk (cx l))))/\H= []):=by
 obtain⟨i,hi,ei⟩:=O.pw;change W.nb.length=2^i at ei;have po:W.ob= []\/∃m,m<=20/\W.ob.length=2^m:=O.po;obtain⟨p1,p2⟩:=rH ei hi;obtain⟨f1,f2⟩:=J0 l;have VH:=ai4 (cx l) (show 0<W.nb.length by omega);unfold fk bkA;rcases y with⟨nk,ok⟩
 dsimp only at hy⊢;refine ag func94 rfl ntmps94 rfl ?_;rintro F ⟨ht,hr⟩;refine bE ?_;refine zl CF (ab4 a m c l hm hl) .nil (λ_ le _=>hr.mono le) ?_;rcases ok with _|ok
 ·refine Li As ?_
  refine ri ?_;refine aw ?_;refine hJ 15 mix .nil λF1 jf bZ aN=> ?_;have qq:=In.mono ht jf;refine bW ?_;refine ay (t:=45) (v':=(CO CN (W.nb.length-1:Nat))) rfl (by(congr 1;omega)) ?_;refine Ti (Cv OO Wf) ?_;refine Ti ((Im (hz:=wW ei hi f2))) ?_;refine bA ?_;refine gd aN ?_;refine bA ?_;refine Rt [] results94 ?_;rw[show W.bk (cx l)=(false,cx l % W.nb.length)from if_neg (by rw[hy rfl];simp)];exact⟨rfl,rfl⟩
 have hol:W.ob.length<=1048576:=by
  rcases po with h|⟨j,hj,ej⟩
  ·rw[h];decide
  exact(rH ej hj).2
 refine mF ?_;refine aE rfl ?_ ?_
 ·intro hlen
  replace hlen:=aS hlen;obtain⟨j,hj,ej⟩:∃m,m<=20/\W.ob.length=2^m:=by
   rcases po with h|h
   ·rw[h]at hlen;exact absurd hlen (by decide)
   exact h
  refine bm ?_;refine ay (t:=19) (v':=(CO CN (W.ob.length-1:Nat))) rfl (by(congr 1;omega)) ?_;refine av ?_;refine Li ((Im (hz:=wW ej hj f2))) ?_;have hmod:=ai4 (cx l) (show 0<W.ob.length by omega);refine bW ?_;refine aE rfl ?_ ?_
  ·intro IB
   replace IB:=aS IB;refine bW ?_;refine Rt [] results94 ?_;rw[show W.bk (cx l)=(true,cx l % W.ob.length)from if_pos ⟨by omega,by omega⟩];exact⟨rfl,rfl⟩
  intro IB;replace IB:=aS IB;refine bA ?_;refine aw ?_;refine hJ 15 mix .nil λF2 yO ez cQ=> ?_;have qq:=In.mono ht yO;refine bW ?_;refine ay (t:=45) (v':=(CO CN (W.nb.length-1:Nat))) rfl (by(congr 1;omega)) ?_;refine Ti (Cv OO Wf) ?_;refine Ti ((Im (hz:=wW ei hi f2))) ?_;refine bA ?_;refine gd cQ ?_;refine bA ?_;refine Rt [] results94 ?_;rw[show W.bk (cx l)=(false,cx l % W.nb.length)from if_neg (by omega)];exact⟨rfl,rfl⟩
 intro hlen;replace hlen:=aS hlen;refine bA ?_;refine aw ?_;refine hJ 15 mix .nil λF3 Ow pt eI=> ?_;have qq:=In.mono ht Ow;refine bW ?_;refine ay (t:=45) (v':=(CO CN (W.nb.length-1:Nat))) rfl (by(congr 1;omega)) ?_;refine Ti (Cv OO Wf) ?_;refine Ti ((Im (hz:=wW ei hi f2))) ?_;refine bA ?_;refine gd eI ?_;refine bA ?_;refine Rt [] results94 ?_;rw[show W.bk (cx l)=(false,cx l % W.nb.length)from if_neg (by omega)];exact⟨rfl,rfl⟩
theorem aaC{C:Cs}{W:Tb}(O:dq C W)(h:Nat):(∃i,W.bk h=(false,i)/\i<W.nb.length)\/(∃i,W.bk h=(true,i)/\i<W.ob.length):=by
 obtain⟨m,hm,e⟩:=O.pw;obtain⟨p1,_⟩:=rH e hm;unfold Tb.bk
 split
 ·next g=>exact .inr ⟨_,rfl,ai4 _ g.1⟩
 exact .inl ⟨_,rfl,ai4 _ (by omega)⟩
theorem qj{l:List (List Nat)}{i:Nat}(h:i<l.length):(aM (aD l))[i]?=some (CO akO (nO (l.getD i []).head?)):=
 ow (by unfold aD;rw[aa6,aaP,aaQ h];rfl)
theorem wP{b i:Nat}{e:TypeId}{cs:List Value}{h:Hp}{v:Value}(o:In (af b e cs) h)(hv:cs[i]?=some v):eZ h ⟨b,i,none⟩=some v:=by
 obtain⟨k,q,l⟩:=o;exact gr ((qz (i:=0) q).mono l) hv
theorem L3{t b:Nat}{C:Cs}{W:Tb}{y:qw}{hp:Hp}(O:dq C W)(hy:y.ok=none->W.ob= [])(ao:gP (nq t b W y) hp)(h:Nat):eZ hp (bkA y (W.bk h))=some (CO akO (nO (W.ch (W.bk h)).head?)):=by
 obtain⟨_,h1,h2,_⟩:=ao;rcases aaC O h with⟨i,e,hi⟩|⟨i,e,hi⟩
 ·rw[e]
  exact wP h1 (qj hi)
 rw[e];rcases y with⟨nk,ok⟩
 rcases ok with _|ok
 ·rw[hy rfl]at hi;cases hi
 exact wP h2 (qj hi)
theorem wT{c:List Nat}{k:Nat}(h:k<c.length):(c.drop k).head?=some c[k]:=by
 rw[ajf,aaQ h]
theorem YP{c:List Nat}{k:Nat}(h:¬k<c.length):(c.drop k).head?=none:=by
 rw[ajf,aa7 (by omega)]
theorem nQ:∀(N:Nat) (l:List Nat),l.Nodup->(∀p∈l,p<N)->l.length<=N
 |0,l,_,h=>by
  cases l with
  |nil=>simp
  |cons a l=>exact absurd (h a (by simp)) (by omega)
 |N+1,l,hn,h=>by
  have:=nQ N (l.erase N) (hn.erase N) λp hp=>by
   have h1:=h p (List.mem_of_mem_erase hp);have h2:p≠N:=λe=>by
    rw[e]at hp;exact(List.Nodup.mem_erase_iff hn).1 hp|>.1 rfl
   omega
  have:=ajQ (a:=N) (l:=l);by_cases hm:N∈l
  ·have:=ajQ hm
   omega
  rw[List.erase_of_not_mem hm]at*;omega
theorem A8{C:Cs}(K:Ok C){W:Tb}(O:dq C W):W.n<=1073741824:=by
 rw[O.n];refine nQ _ _ O.nd λp hp=> ?_;obtain⟨n1,n2,_,_,_,_,_,n8⟩:=(O.lv p hp).toAt.bn K;have:=fO K.toFix;omega
theorem nE (t b:Nat)(C:Cs)(K:Ok C)(W:Tb)(y:qw)(O:dq C W)(hy:y.ok=none->W.ob= [])(a:Option Addr)(m c:Nat)(l:List UInt8)(hm:m=l.length)(hl:l.length<281474976710656):
  aO aaO 47 [CM t, .slice a m c] (λh=>In (Cl b C) h/\gP (nq t b W y) h/\gg h a (ax l)) []
   (λv H=>v= .tuple #[CO CJ (hO C (W.get C l)), .bool (W.get C l).isSome]/\H= []):=by
 have li:=O.li (W.bk (cx l));have cl:=uM O (W.bk (cx l));have hn:=A8 K O;have sub:∀p∈W.ch (W.bk (cx l)),p∈W.all:=λp hp=>Tb.gU hp;have key:∀p∈W.all,aP C.A p=l->p∈W.ch (W.bk (cx l)):=λp hp e=>by
  have:=Hj O hp
  rwa[e]at this
 have hc:=λ{hp:Hp} (ao:gP (nq t b W y) hp)=>L3 O hy ao (cx l);generalize yS:W.ch (W.bk (cx l))=cc at*;have VU:∀k,di C (cc.drop k).head?:=λk q hq=>O.lv q (sub q (aj5 (afB hq)));refine ag func47 rfl ntmps47 rfl ?_;rintro F ⟨cR,ao,hr⟩;have ht:=ao.1;have kc:=hc ao;unfold fk at ht;refine dm ?_;refine zl CF (mw t b C W y W.n O hy a m c l hm hl) .nil (λ_ le _=>⟨In.mono ao.1 le,hr.mono le⟩) ?_;refine bA ?_;refine zl CF (mu t b C W y K cc.head? (VU 0)) .nil (λ_ le _=>⟨In.mono cR le,In.mono ao.1 le⟩) ?_;refine bR ?_;refine Lo (ι:=Nat) [15,16,17,18,19,20,21,22,23,24,27,28,29,30,31,32,33,34,4,5,35,36,37,6,25,26,7] (λk=>k<=cc.length/\∀i (h:i<cc.length),i<k->aP C.A cc[i]≠l) (λk=> [(6,CO CJ (hO C (cc.drop k).head?)),(7,CO CN k)]) (λk=> []) (λk=>cc.length-k) (0) ⟨afk _,λi _ h=>absurd h (Nat.not_lt_zero _)⟩ ?_;rintro k hI;by_cases hk:k<cc.length
 ·have hp:=sub _ (aa4 hk)
  have L:=O.lv _ hp;have I:=O.it _ hp;obtain⟨m1,m2,m3,m4,m5,m6⟩:=bV K L.toAt;rw[wT hk,cm];refine bE ?_;refine zt 17 ?_ (e:=by exact by rw[CG];rfl);refine dm ?_;refine eU ?_;refine dB ?_;refine zl CF (Es b C K cc[k] L I a m c l hm hl) .nil (λ_ le _=>⟨In.mono cR le,hr.mono le⟩) ?_;refine av ?_;refine aE rfl ?_ ?_
  ·intro hs
   replace hs:=aS hs;refine dB ?_;refine jE [] results47 ?_;rw[get_some O hp (hs)];exact⟨rfl,rfl⟩
  intro hs;replace hs:=aS hs;refine bE ?_;refine zl CF (jS t b C W y K cc[k] (cc.drop (k+1)).head? L I.k0 (VU (k+1)) (uG li hk)) .nil (λ_ le _=>⟨In.mono cR le,In.mono ao.1 le⟩) ?_;refine dm ?_;refine aF ?_;refine Ro (k+1) (⟨hk,λi h hi=>by rcases Nat.lt_succ_iff_lt_or_eq.1 hi with e|rfl;exact hI.2 i h e;exact hs⟩) ((by omega))
 rw[YP hk];refine bE ?_;refine zf 17 ?_ (e:=by rfl);refine C9 ?_;refine jE [] results47 ?_;have e:W.get C l=none:=get_none λp hp he=>by
  obtain⟨i,hi,rfl⟩:=aft (key p hp he);exact hI.2 i hi (by omega) he
 rw[e];exact⟨rfl,rfl⟩
theorem nT (l:List (List Nat))(i:Nat)(c:List Nat):(aM (aD l)).set i (CO akO (nO c.head?))=aM (aD (l.set i c)):=by
 unfold aM aD;rw[afO,afO]
theorem QK{C:Cs}(K:Ok C){p:Nat}(L:Live C p):IntKind.u32.wrap (C.hd p:Int)=(nO (some p):Int):=by
 obtain⟨m1,_⟩:=bV K L.toAt;rw[IntKind.wrap_u32,qB];omega
theorem ado{C:Cs}(K:Ok C){o:Option Nat}(L:di C o):IntKind.u32.wrap (hO C o:Int)=(nO o:Int):=by
 rcases o with _|p
 ·rfl
 exact QK K (L p rfl)
def FM (W:Tb)(x:Bool×Nat):Prop:=if x.1 then x.2<W.ob.length else x.2<W.nb.length
theorem sg{C:Cs}{W:Tb}(O:dq C W)(h:Nat):FM W (W.bk h):=by
 rcases aaC O h with⟨i,e,hi⟩|⟨i,e,hi⟩<;>rw[e]<;>exact hi
theorem yC{t b:Nat}{W:Tb}{y:qw}{hp:Hp}(hy:y.ok=none->W.ob= [])(ao:gP (nq t b W y) hp){x:Bool×Nat}(hx:FM W x):eZ hp (bkA y x)=some (CO akO (nO (W.ch x).head?)):=by
 obtain⟨_,h1,h2,_⟩:=ao;rcases x with⟨_|_,i⟩
 ·exact wP h1 (qj hx)
 rcases y with⟨nk,ok⟩
 rcases ok with _|ok
 ·have:=hy rfl
  unfold FM at hx;rw[this]at hx;cases hx
 exact wP h2 (qj hx)
theorem Pw (t b:Nat)(W:Tb)(y:qw)(i:Nat)(c:List Nat):nq t b (W.cT (false,i) c) y= [af t 154 (fk b W y),af y.nk 149 (aM (aD (W.nb.set i c))),jH y.ok 149 (aM (aD W.ob))]:=by
 simp[nq,fk,Tb.cT]
theorem Pu (t b:Nat)(W:Tb)(y:qw)(i:Nat)(c:List Nat):nq t b (W.cT (true,i) c) y= [af t 154 (fk b W y),af y.nk 149 (aM (aD W.nb)),jH y.ok 149 (aM (aD (W.ob.set i c)))]:=by
 simp[nq,fk,Tb.cT]
theorem xO (t b:Nat)(C:Cs)(K:Ok C)(W:Tb)(y:qw)(hy:y.ok=none->W.ob= [])(x:Bool×Nat)(hx:FM W x)(p:Nat)(L:Live C p)(hk:kl C.A p≠0)(ho:di C (W.ch x).head?):
  aO aaO 195 [CM t, .pointer (some (bkA y x)),CO CJ (C.hd p)] (λ_=>True) (Cl b C::nq t b W y)
   (λv H=>v= .tuple #[]/\H=Cl b (C.wA (wr C.A p 4 (nO (W.ch x).head?)))::nq t b (W.cT x (p::W.ch x)) y):=by
 have kp:=QK K L;have Oe:=λ{hp:Hp} (ao:gP (nq t b W y) hp)=>yC hy ao hx;change aO _ _ _ _ [Cl b C,af t 154 [CM b,CO CN W.aI,CO CN W.n,CO CN W.size, .slice (some ⟨y.nk,0,none⟩) W.nb.length W.nb.length,Vx y.ok W.ob.length,CO CN W.mv,CO CN W.st],af y.nk 149 (aM (aD W.nb)),jH y.ok 149 (aM (aD W.ob))] _;refine ag func195 rfl ntmps195 rfl ?_;intro F _;refine aw ?_;refine hJ 10 mix (.cons (.there .here) (.cons (.there .here) (.cons (.there .here) .nil))) λF1 jf bZ aN=> ?_;obtain⟨q1,q2,q3,_⟩:=bZ;have kc:=Oe ⟨q1,q2,q3,trivial⟩;refine cA ?_;refine Tp (oC CF rfl rfl (mu t b C W y K (W.ch x).head? ho) .nil (λ_ le ao=>⟨ao.1,In.mono q1 le⟩) ?_);rintro v H' ⟨rfl,rfl⟩;refine aX ?_;refine gd aN ?_;refine Tp (oC CF rfl rfl (dX b C K p 0 (W.ch x).head? L hk (by omega) ho) (.cons (.there (.there (.there .here))) .nil) CI ?_);rintro v H' ⟨rfl,rfl⟩;refine aX ?_;rw[show p+4*0=p from rfl];refine bm ?_;refine Li ((Cv O9 Gn (hz:=kp))) ?_;rcases x with⟨_|_,i⟩
 ·refine Li Nc ?_
  refine Lp (oS pU ?_ (i:=i) (hi:=by rw[mc,nU];exact hx));rw[show(aM (aD W.nb)).set i (CO akO (nO (some p)))=aM (aD (W.nb.set i (p::W.ch (false,i))))from nT W.nb i (p::W.ch (false,i))];refine aF ?_;refine jW [Cl b (C.wA (wr C.A p 4 (nO (W.ch (false,i)).head?))),af t 154 (fk b W y),af y.nk 149 (aM (aD (W.nb.set i (p::W.ch (false,i))))),jH y.ok 149 (aM (aD W.ob))] results195 ?_;exact⟨rfl,by rw[Pw]⟩
 obtain⟨ok,nj⟩:∃ok,y.ok=some ok:=by
  rcases h:y.ok with _|ok
  ·have e:=hy h
   unfold FM at hx;rw[e]at hx;cases hx
  exact⟨ok,rfl⟩
 rcases y with⟨nk,_⟩
 dsimp only at nj;subst nj;refine av ?_;refine Lp (oS pU ?_ (i:=i) (hi:=by rw[mc,nU];exact hx));rw[show(aM (aD W.ob)).set i (CO akO (nO (some p)))=aM (aD (W.ob.set i (p::W.ch (true,i))))from nT W.ob i (p::W.ch (true,i))];refine aF ?_;refine jW [Cl b (C.wA (wr C.A p 4 (nO (W.ch (true,i)).head?))),af t 154 (fk b W ⟨nk,some ok⟩),af nk 149 (aM (aD W.nb)),jH (some ok) 149 (aM (aD (W.ob.set i (p::W.ch (true,i)))))] results195 ?_;exact⟨rfl,by rw[Pu]⟩
def pD (A:By)(c:List Nat):Nat->By
 |0=>A
 |i+1=>wr A (c.getD i 0) 4 (nO (c.drop (i+2)).head?)
theorem nP (A:By)(c:List Nat)(i:Nat):pD A c (i+1)=wr A (c.getD i 0) 4 (nO (c.drop (i+2)).head?):=rfl
def pJ (A:By)(c:List Nat)(j p:Nat):By:=wr (pD A c j) p 4 0
theorem yB{l:List (List Nat)}{i:Nat}{c:List Nat}(h:c.head?=(l.getD i []).head?):aD (l.set i c)=aD l:=by
 unfold aD;apply List.ext_getElem (by simp);intro k h1 h2;simp only[List.length_map,aaY]at h1 h2;rw[agu,agu,List.getElem_set]
 split
 ·next e=>
  subst e;rw[h,aaP,aaQ h2];rfl
 rfl
theorem Sn{t b:Nat}{W:Tb}{y:qw}{x:Bool×Nat}{c:List Nat}(h:c.head?=(W.ch x).head?):nq t b (W.cT x c) y=nq t b W y:=by
 rcases x with⟨_|_,i⟩
 ·rw[Pw,yB h];rfl
 rw[Pu,yB h];rfl
theorem H9{c:List Nat}{j:Nat}:(c.eraseIdx (j+1)).head?=c.head?:=by
 cases c<;>simp
theorem mO{c:List Nat}{k:Nat}(h:k<c.length):c.getD k 0=c[k]:=by
 rw[aaP,aaQ h];rfl
theorem DR (t b:Nat)(C:Cs)(K:Ok C)(W:Tb)(y:qw)(O:dq C W)(hy:y.ok=none->W.ob= [])(x:Bool×Nat)(hx:FM W x)(c:List Nat)(yS:W.ch x=c)(j:Nat)(hj:j<c.length)(p:Nat)(hp:c[j]=p):
  aO aaO 191 [CM t,CO CJ (C.hd p)] (λ_=>True) (Cl b C::nq t b W y)
   (λv H=>v= .tuple #[]/\H=Cl b (C.wA (pJ C.A c j p))::nq t b (W.cT x (c.eraseIdx j)) y):=by
 have Oe:=λ{hp:Hp} (ao:gP (nq t b W y) hp)=>yC hy ao hx;have li:=O.li x;have nd:=(W.oR x).nodup O.nd;have cl:=uM O x;have hn:=A8 K O;rw[yS]at Oe li nd cl;have sub:∀q∈c,q∈W.all:=λq hq=>Tb.gU (x:=x) (by rw[yS];exact hq);have VU:∀k,di C (c.drop k).head?:=λk q hq=>O.lv q (sub q (aj5 (afB hq)));have ha:p∈W.all:=sub p (by rw[<-hp];exact aa4 hj);have L:=O.lv p ha;have I:=O.it p ha;have hbk:W.bk (cx (aP C.A p))=x:=O.bu x p (by rw[yS,<-hp];exact aa4 hj);obtain⟨v1,v2,v3,v4,v5,v6⟩:=bV K L.toAt;have lk:(aP C.A p).length=kl C.A p:=cD _ _ _;have lf:=I.fits;obtain⟨z1,z2,z3,_⟩:=L.toAt.bn K;have f1:=K.toFix.p1;change aO _ _ _ _ [Cl b C,af t 154 [CM b,CO CN W.aI,CO CN W.n,CO CN W.size, .slice (some ⟨y.nk,0,none⟩) W.nb.length W.nb.length,Vx y.ok W.ob.length,CO CN W.mv,CO CN W.st],af y.nk 149 (aM (aD W.nb)),jH y.ok 149 (aM (aD W.ob))] _;refine ag func191 rfl ntmps191 rfl ?_;intro F _;refine bm ?_;refine Lp (oC CF rfl rfl (qy t b C W y K p L I) .nil (λ_ le ao=>⟨ao.1,ao.2.1⟩) ?_);rintro v H' ⟨kb,rfl,rfl⟩;refine aX ?_;refine zl CF (mw t b C W y W.n O hy (some ⟨kb,0,none⟩) (kl C.A p) (kl C.A p) (aP C.A p) lk.symm (by omega)) .nil (λ_ le ao=>⟨ao.2.2.1,bP ao.1⟩) ?_;rw[hbk];refine Hh (H':= [Cl b C,af t 154 [CM b,CO CN W.aI,CO CN W.n,CO CN W.size, .slice (some ⟨y.nk,0,none⟩) W.nb.length W.nb.length,Vx y.ok W.ob.length,CO CN W.mv,CO CN W.st],af y.nk 149 (aM (aD W.nb)),jH y.ok 149 (aM (aD W.ob))]) ?_;refine bA ?_;refine aw ?_;refine dt (ι:=Unit) [12,13,14,15,16,17,18,19,20,21,22,23,24,25,26,27,28,29,5,6,30,31,32,33,34,35,36,37,38,39,40,41,42,43,44,45,46,49,50,51,47,48,52,53,54,55,56,57,58,59,60] (λu=>True) (λu=> [(0,CM t),(1,CO CJ (C.hd p))]) (λu=> [Cl b (C.wA (pD C.A c j)),TL t b (W.cT x (c.eraseIdx j)) y]) ?_ ?_
 ·refine gK ?_
  refine bz ?_;refine Lp (oL pU ?_ (hk:=⟨_,rfl,λh _ ao=>Oe ao.2⟩));refine zl CF (mu t b C W y K c.head? (VU 0)) .nil (λ_ le ao=>⟨ao.1,ao.2.1⟩) ?_;rcases j with _|j
  ·have e0:c.head?=some p:=by rw[<-hp];exact wT (k:=0) hj
   rw[e0,cm];refine bz ?_;refine eU ?_ (e:=by exact decide_eq_true rfl);refine bm ?_;refine zl CF (jS t b C W y K p (c.drop 1).head? L I.k0 (VU 1) (by rw[<-hp];exact uG li hj)) .nil (λ_ le ao=>⟨ao.1,ao.2.1⟩) ?_;refine Li ((Cv O9 Gn (hz:=ado K (VU 1)))) ?_;rcases x with⟨_|_,i⟩
   ·refine Li Nc ?_
    refine Lp (oS pU ?_ (i:=i) (hi:=by rw[mc,nU];exact hx));rw[show(aM (aD W.nb)).set i (CO akO (nO (c.drop 1).head?))=aM (aD (W.nb.set i (c.drop 1)))from nT W.nb i (c.drop 1)];refine aF ?_;refine Hh (H':= [af t 154 (fk b W y),af y.nk 149 (aM (aD (W.nb.set i (c.drop 1)))),jH y.ok 149 (aM (aD W.ob)),Cl b C]) ?_;rw[show c.drop 1=c.eraseIdx 0 by simp];refine au (H':= [TL t b (W.cT (false,i) (c.eraseIdx 0)) y,Cl b C]) (λ_ s=>dU (by rw[Pw];exact s)) ?_;refine Me (()) (trivial)
   obtain⟨ok,nj⟩:∃ok,y.ok=some ok:=by
    rcases h:y.ok with _|ok
    ·have e:=hy h
     unfold FM at hx;rw[e]at hx;cases hx
    exact⟨ok,rfl⟩
   rcases y with⟨nk,_⟩
   dsimp only at nj;subst nj;refine av ?_;refine Lp (oS pU ?_ (i:=i) (hi:=by rw[mc,nU];exact hx));rw[show(aM (aD W.ob)).set i (CO akO (nO (c.drop 1).head?))=aM (aD (W.ob.set i (c.drop 1)))from nT W.ob i (c.drop 1)];refine aF ?_;refine Hh (H':= [af t 154 (fk b W ⟨nk,some ok⟩),af nk 149 (aM (aD W.nb)),jH (some ok) 149 (aM (aD (W.ob.set i (c.drop 1)))),Cl b C]) ?_;rw[show c.drop 1=c.eraseIdx 0 by simp];refine au (H':= [TL t b (W.cT (true,i) (c.eraseIdx 0)) ⟨nk,some ok⟩,Cl b C]) (λ_ s=>dU (by rw[Pu];exact s)) ?_;refine Me (()) (trivial)
  have hp0:(c.drop 0).head?=some c[0]:=wT (by omega);have L0:=O.lv c[0] (sub _ (aa4 (by omega)));have ne0:c[0]≠p:=λe=>by
   rw[<-hp]at e;have:=(ajF nd).1 e;omega
  have ne0h:C.hd c[0]≠C.hd p:=λe=>ne0 (iV K L0.toAt L.toAt e);rw[show c.head?=some c[0]from hp0,cm];refine bz ?_;refine cO ?_;refine bm ?_;refine Lp (oL pU ?_ (hk:=⟨_,rfl,λh _ ao=>Oe ao.2⟩));refine zl CF (mu t b C W y K c.head? (VU 0)) .nil (λ_ le ao=>⟨ao.1,ao.2.1⟩) ?_;rw[show c.head?=some c[0]from hp0,cm,<-mO];refine bR ?_;refine Lo (ι:=Nat) [30,31,32,33,34,35,36,37,38,39,40,41,42,43,44,45,46,49,50,51,5,47,48,6] (λk=>k<=j) (λk=> [(5,CO CJ (C.hd (c.getD k 0))),(6,CO CN k)]) (λk=> [Cl b C,af t 154 [CM b,CO CN W.aI,CO CN W.n,CO CN W.size, .slice (some ⟨y.nk,0,none⟩) W.nb.length W.nb.length,Vx y.ok W.ob.length,CO CN W.mv,CO CN W.st],af y.nk 149 (aM (aD W.nb)),jH y.ok 149 (aM (aD W.ob))]) (λk=>j-k) (0) (by simp) ?_;rintro k hI;have sO:k<c.length:=by omega
  have Lk:=O.lv c[k] (sub _ (aa4 sO));have Ik:=O.it c[k] (sub _ (aa4 sO));obtain⟨w1,w2,w3,w4,w5,w6⟩:=bV K Lk.toAt;have hk1:k+1<c.length:=by omega
  have Lk1:=O.lv c[k+1] (sub _ (aa4 hk1));have hlk:rd C.A c[k] 4=nO (some c[k+1]):=by rw[uG li sO,wT hk1]
  have lvk:di C (some c[k+1]):=λq hq=>by cases hq;exact Lk1
  obtain⟨u1,u2,u3,u4,u5,u6⟩:=bV K Lk1.toAt;rw[mO sO];refine bE ?_;refine zt 32 ?_ (e:=by exact by rw[CG];rfl);refine bA ?_;refine zl CF (jS t b C W y K c[k] (some c[k+1]) Lk Ik.k0 lvk hlk) .nil (λ_ le ao=>⟨ao.1,ao.2.1⟩) ?_;rw[cm];by_cases hkj:k=j
  ·subst hkj
   rw[hp];refine bm ?_;refine zf 39 ?_ (e:=by rw[decide_eq_true rfl];rfl);refine fq ?_;refine hJ 8 mix (.cons (.there .here) (.cons (.there .here) (.cons (.there .here) .nil))) λF1 jf bZ aN=> ?_;obtain⟨q1,q2,q3,_⟩:=bZ;refine bR ?_;refine Tp (oC CF rfl rfl (jS t b C W y K p (c.drop (k+2)).head? L I.k0 (VU (k+2)) (by rw[<-hp];exact uG li hj)) .nil (λ_ le ao=>⟨ao.1,In.mono q1 le⟩) ?_);rintro v H' ⟨rfl,rfl⟩;refine aX ?_;refine gd aN ?_;refine Tp (oC CF rfl rfl (dX b C K c[k] 0 (c.drop (k+2)).head? Lk Ik.k0 (by omega) (VU (k+2))) (.cons (.there (.there (.there .here))) .nil) CI ?_);rintro v H' ⟨rfl,rfl⟩;refine aX ?_;refine Tn ?_;rw[show wr C.A (c[k]+4*0) 4 (nO (c.drop (k+2)).head?)=pD C.A c (k+1) by rw[nP,mO sO];rfl];refine Hh (H':= [af t 154 [CM b,CO CN W.aI,CO CN W.n,CO CN W.size, .slice (some ⟨y.nk,0,none⟩) W.nb.length W.nb.length,Vx y.ok W.ob.length,CO CN W.mv,CO CN W.st],af y.nk 149 (aM (aD W.nb)),jH y.ok 149 (aM (aD W.ob)),Cl b (C.wA (pD C.A c (k+1)))]) ?_;refine au (H':= [TL t b (W.cT x (c.eraseIdx (k+1))) y,Cl b (C.wA (pD C.A c (k+1)))]) (λ_ s=>dU (by rw[Sn (by rw[yS];exact H9)];exact s)) ?_;refine Me (()) (trivial)
  have ne1:c[k+1]≠p:=λe=>by
   rw[<-hp]at e;have:=(ajF nd).1 e;omega
  have ne1h:C.hd c[k+1]≠C.hd p:=λe=>ne1 (iV K Lk1.toAt L.toAt e);refine bm ?_;refine zt 39 ?_ (e:=by rw[CG];rfl);refine dm ?_;refine eU ?_;refine bR ?_;refine zl CF (jS t b C W y K c[k] (some c[k+1]) Lk Ik.k0 lvk hlk) .nil (λ_ le ao=>⟨ao.1,ao.2.1⟩) ?_;rw[cm,<-mO];refine dm ?_;refine aF ?_;refine Ro (k+1) (by omega) (by omega)
 rintro u hI;have uj:kl (pD C.A c j) p≠0:=by
  rcases j with _|j
  ·exact I.k0
  have Lq:=O.lv c[j] (sub _ (aa4 (by omega)));have e:=wO K L.toAt Lq.toAt I (a:=0) (n:=4) (v:=nO (c.drop (j+2)).head?) (by omega);rw[nP,mO (by omega)];exact λh=>I.k0 (by rw[<-e.kl];exact h)
 refine Hh (H':= [TL t b (W.cT x (c.eraseIdx j)) y,Cl b (C.wA (pD C.A c j))]) ?_;refine mP ?_;refine au (H':= [af t 154 (fk b (W.cT x (c.eraseIdx j)) y),Cl b (C.wA (pD C.A c j)),af y.nk 149 (aM (aD (W.cT x (c.eraseIdx j)).nb)),jH y.ok 149 (aM (aD (W.cT x (c.eraseIdx j)).ob))]) (by exact Eh) ?_;unfold fk;refine bG ?_;refine zl CF (dX b (C.wA (pD C.A c j)) (K.wA _) p 0 none (L.wA _) uj (by omega) (λq hq=>by cases hq)) (.cons (.there .here) .nil) CI ?_;rw[show(C.wA (pD C.A c j)).wA (wr (C.wA (pD C.A c j)).A (p+4*0) 4 (nO none))=C.wA (pJ C.A c j p)from rfl];refine aF ?_;refine jW [Cl b (C.wA (pJ C.A c j p)),af t 154 (fk b (W.cT x (c.eraseIdx j)) y),af y.nk 149 (aM (aD (W.cT x (c.eraseIdx j)).nb)),jH y.ok 149 (aM (aD (W.cT x (c.eraseIdx j)).ob))] results191 ?_;exact⟨rfl,rfl⟩
theorem QA{A:By}:∀{l:List Nat} (_:∀k (h:k<l.length),rd A l[k] 4=nO l[k+1]?),FY A l
 | [],_=>trivial
 |_::l,h=>⟨by have:=h 0 (by simp);simpa[List.head?_eq_getElem?]using this,QA λk hk=>by have:=h (k+1) (by simpa using hk);simpa using this⟩
theorem JI{A:By}{l:List Nat}{k:Nat}(h:FY A l)(hk:k<l.length):rd A l[k] 4=nO l[k+1]?:=by
 rw[uG h hk,ajf]
theorem qN{A B:By}:∀{l:List Nat} (_:∀q∈l,rd B q 4=rd A q 4) (_:FY A l),FY B l
 | [],_,_=>trivial
 |q::_,h,i=>⟨by rw[h q (by simp)];exact i.1,qN (λr hr=>h r (by simp[hr])) i.2⟩
theorem Kept.refl (C:Cs)(p:Nat):Kept C C.A p:=⟨rfl,rfl,rfl,λi=>i⟩
theorem nS{C:Cs}(K:Ok C){p q:Nat}(L:Live C p)(M:Live C q)(I:gO C p)(v:Nat):Kept C (wr C.A q 4 v) p:=wO K L.toAt M.toAt I (a:=0) (n:=4) (by omega)
theorem tO{C:Cs}(K:Ok C){p q:Nat}(L:Live C p)(M:Live C q)(h:p≠q)(v:Nat):rd (wr C.A q 4 v) p 4=rd C.A p 4:=by
 have n1:=(L.toAt.bn K).2.1;have m1:=(M.toAt.bn K).2.1;exact lY K L.toAt M.toAt (a:=0) (n:=4) (o:=0) (w:=4) (by omega) (by omega) (λe=>absurd e h)
theorem oZ{C:Cs}(K:Ok C){o:Option Nat}(L:di C o):nO o<4294967296:=by
 rcases o with _|q
 ·exact Nat.zero_lt_succ _
 obtain⟨_,_,m3,m4,_⟩:=bV K (L q rfl).toAt;have:=fO K.toFix;rw[qB];omega
theorem Au (A:By)(p n:Nat)(h:n<4294967296):rd (wr A p 4 n) p 4=n:=by
 rw[dy];exact Nat.mod_eq_of_lt h
theorem iM:∀{L:List (List Nat)} {i:Nat} (_:i<L.length),∃r,L.flatten.Perm (L.getD i []++r)/\∀c,(L.set i c).flatten.Perm (c++r)
 |l::L,0,_=>⟨L.flatten,by simp,λc=>by simp⟩
 |l::L,i+1,h=>by
  obtain⟨r,h1,h2⟩:=iM (L:=L) (i:=i) (by simpa using h);have sw:∀c:List Nat,(l++(c++r)).Perm (c++(l++r)):=λc=>by
   rw[<-afR,<-afR];exact aa1.append_right r afl
  refine⟨l++r, ?_,λc=> ?_⟩
  ·rw[ajR]
   exact(aa1.append_left l h1).trans (by simpa using sw (L.getD i []))
  rw[List.set_cons_succ,ajR];exact(aa1.append_left l (h2 c)).trans (sw c)
theorem Tb.oJ{W:Tb}{x:Bool×Nat}(hx:FM W x):∃r,W.all.Perm (W.ch x++r)/\∀c,(W.cT x c).all.Perm (c++r):=by
 rcases x with⟨_|_,i⟩
 ·obtain⟨r,h1,h2⟩:=iM (L:=W.nb) (i:=i) hx
  refine⟨r++W.ob.flatten, ?_,λc=> ?_⟩
  ·have:=aa1.append_right W.ob.flatten h1
   rw[afR]at this;exact this
  have:=aa1.append_right W.ob.flatten (h2 c);rw[afR]at this;exact this
 obtain⟨r,h1,h2⟩:=iM (L:=W.ob) (i:=i) hx;have sw:∀c:List Nat,(W.nb.flatten++(c++r)).Perm (c++(W.nb.flatten++r)):=λc=>by
  rw[<-afR,<-afR];exact aa1.append_right r afl
 refine⟨W.nb.flatten++r, ?_,λc=> ?_⟩
 ·exact(aa1.append_left _ h1).trans (sw _)
 exact(aa1.append_left _ (h2 c)).trans (sw c)
theorem ni{L:List (List Nat)}{i:Nat}(h:i<L.length)(c:List Nat):(L.set i c).getD i []=c:=by
 rw[aaP,List.getElem?_set_self h];rfl
theorem getD_set_ne{L:List (List Nat)}{i k:Nat}(h:i≠k)(c:List Nat):(L.set i c).getD k []=L.getD k []:=by
 rw[aaP,aaP,List.getElem?_set_ne h]
theorem Tb.RG{W:Tb}{x:Bool×Nat}(hx:FM W x)(c:List Nat)(z:Bool×Nat):(W.cT x c).ch z=if z=x then c else W.ch z:=by
 split
 ·next e=>
  subst e;rcases z with⟨_|_,i⟩
  ·exact ni hx c
  exact ni hx c
 next e=>
 rcases z with⟨_|_,k⟩<;>rcases x with⟨_|_,i⟩
 ·exact getD_set_ne (λh=>e (Prod.ext rfl h.symm)) c
 ·rfl
 ·rfl
 exact getD_set_ne (λh=>e (Prod.ext rfl h.symm)) c
theorem Tb.aeY (W:Tb)(x:Bool×Nat)(c:List Nat)(n h:Nat):Tb.bk {W.cT x c with n:=n} h=W.bk h:=by
 rcases x with⟨_|_,i⟩<;>simp[Tb.bk,Tb.cT]
theorem B5{C:Cs}{W:Tb}(O:dq C W){x:Bool×Nat}(hx:FM W x){c c':List Nat}(hc:W.ch x=c){A:By}{n' p:Nat}
  (hn:n'+c.length=W.n+c'.length) (nd:c'.Nodup) (hp:∀q∈c',q∈c\/(q=p/\p∉W.all)) (li:FY A c')
  (lo:∀q∈W.all,q∉c->rd A q 4=rd C.A q 4) (lv:∀q∈c',Live C q) (kp:∀q∈W.all,Kept C A q) (it:∀q∈c',gO (C.wA A) q)
  (bu:∀q∈c',W.bk (cx (aP A q))=x) (kd:p∈c'->p∉W.all->∀r∈W.all,aP A p≠aP C.A r):dq (C.wA A) {W.cT x c' with n:=n'}:=by
 obtain⟨r,p1,p2⟩:=Tb.oJ hx;rw[hc]at p1;have p2':Tb.all {W.cT x c' with n:=n'}=(W.cT x c').all:=rfl;have al:∀q,q∈(W.cT x c').all->q∈c'\/(q∈W.all/\q∉c):=λq hq=>by
  rcases af3.1 ((p2 c').mem_iff.1 hq)with h|h
  ·exact .inl h
  refine .inr ⟨p1.mem_iff.2 (agr _ h),λg=> ?_⟩;have:=p1.nodup_iff.1 O.nd;exact(afL.1 this).2.2 q g q h rfl
 have Ol:∀z,Tb.ch {W.cT x c' with n:=n'} z=if z=x then c' else W.ch z:=λz=>(show Tb.ch {W.cT x c' with n:=n'} z=(W.cT x c').ch z from rfl).trans (Tb.RG hx c' z)
 have cp:∀q∈c,q∈W.all:=λq hq=>p1.mem_iff.2 (List.mem_append_left _ hq);have l1:({W.cT x c' with n:=n'}:Tb).nb.length=W.nb.length:=by rcases x with⟨_|_,i⟩<;>simp[Tb.cT]
 have l2:({W.cT x c' with n:=n'}:Tb).ob.length=W.ob.length:=by rcases x with⟨_|_,i⟩<;>simp[Tb.cT]
 have e1:({W.cT x c' with n:=n'}:Tb).size=W.size:=by rcases x with⟨_|_,i⟩<;>rfl
 have e2:({W.cT x c' with n:=n'}:Tb).aI=W.aI:=by rcases x with⟨_|_,i⟩<;>rfl
 have e3:({W.cT x c' with n:=n'}:Tb).mv=W.mv:=by rcases x with⟨_|_,i⟩<;>rfl
 have e4:({W.cT x c' with n:=n'}:Tb).st=W.st:=by rcases x with⟨_|_,i⟩<;>rfl
 refine⟨by rw[l1];exact O.pw, ?_,by rw[l2,e3,e4];exact O.st.imp (λh=>⟨h.1,afm (by rw[l2,h.2];rfl)⟩) id,by rw[e2];exact O.mp,by rw[e1,l1];exact O.sz,by rw[e1];exact O.Oq,by rw[e1,e2];exact O.sm,by rw[e3];exact O.mv, ?_, ?_,λz=> ?_,λq hq=> ?_,λq hq=> ?_,λz q hq=> ?_,λq hq s hs e=> ?_⟩
 ·rcases O.po with h|⟨m,hm,e⟩
  ·exact .inl (afm (by rw[l2,h];rfl))
  exact .inr ⟨m,hm,by rw[l2];exact e⟩
 ·rw[p2',(p2 c').length_eq,aaZ]
  have h1:=O.n;rw[p1.length_eq,aaZ]at h1;show n'=_;omega
 ·rw[p2',(p2 c').nodup_iff,afL]
  have h1:=afL.1 (p1.nodup_iff.1 O.nd);refine⟨nd,h1.2.1,λq hq s hs e=> ?_⟩;subst e;rcases hp q hq with h|⟨rfl,h⟩
  ·exact h1.2.2 q h q hs rfl
  exact h (p1.mem_iff.2 (agr _ hs))
 ·rw[Ol]
  split
  ·exact li
  next hz=>
  refine qN (λq hq=>lo q (Tb.gU hq) λg=> ?_) (O.li z);rw[<-hc]at g;exact hz ((O.bu z q hq).symm.trans (O.bu x q g))
 ·rcases al q hq with h|h
  ·exact(lv q h).wA A
  exact(O.lv q h.1).wA A
 ·rcases al q hq with h|h
  ·exact it q h
  exact(kp q h.1).it (O.it q h.1)
 ·rw[Tb.aeY]
  rw[Ol]at hq
  split at hq
  ·next e=>rw[e];exact bu q hq
  rw[show aP (C.wA A).A q=aP C.A q from(kp q (Tb.gU hq)).key];exact O.bu z q hq
 change aP A q=aP A s at e;have cl:∀q,q∈(W.cT x c').all->q∈W.all\/(q=p/\p∈c'/\p∉W.all):=λq hq=>by
  rcases al q hq with h|h
  ·rcases hp q h with g|g
   ·exact .inl (cp q g)
   exact .inr ⟨g.1,g.1▸h,g.2⟩
  exact .inl h.1
 rcases cl q hq with h|⟨rfl,hi,h⟩<;>rcases cl s hs with g|⟨rfl,gi,g⟩
 ·rw[(kp q h).key,(kp s g).key]at e
  exact O.kd q h s g e
 ·rw[(kp q h).key]at e
  exact absurd e.symm (kd gi g q h)
 ·rw[(kp s g).key]at e
  exact absurd e (kd hi h s g)
 rfl
theorem Cb{C:Cs}(K:Ok C){W:Tb}(O:dq C W){p:Nat}(L:Live C p)(I:gO C p)(hp:p∉W.all)(hk:∀q∈W.all,aP C.A q≠aP C.A p){x:Bool×Nat}(hx:W.bk (cx (aP C.A p))=x):
  dq (C.wA (wr C.A p 4 (nO (W.ch x).head?))) {W.cT x (p::W.ch x)with n:=W.n+1}:=by
 have kp:∀q∈W.all,Kept C (wr C.A p 4 (nO (W.ch x).head?)) q:=λq hq=>nS K (O.lv q hq) L (O.it q hq) _;have kpp:=nS K L L I (nO (W.ch x).head?);have ne:∀q∈W.all,q≠p:=λq hq e=>hp (e▸hq);have far:∀q∈W.all,rd (wr C.A p 4 (nO (W.ch x).head?)) q 4=rd C.A q 4:=λq hq=>tO K (O.lv q hq) L (ne q hq) _;have sub:∀q∈W.ch x,q∈W.all:=λq hq=>Tb.gU hq;have lO:di C (W.ch x).head?:=λq hq=>O.lv q (sub q (afB hq));refine B5 O (by rw[<-hx];exact sg O _) rfl (p:=p) (by simp;omega) (aa3.2 ⟨λh=>hp (sub p h),(W.oR x).nodup O.nd⟩) (λq hq=> ?_) ⟨Au _ _ _ (oZ K lO),qN (λq hq=>far q (sub q hq)) (O.li x)⟩
  (λq hq _=>far q hq) (λq hq=> ?_) kp (λq hq=> ?_) (λq hq=> ?_) (λ_ _ r hr e=> ?_)
 ·rcases aa5.1 hq with rfl|h
  ·exact .inr ⟨rfl,hp⟩
  exact .inl h
 ·rcases aa5.1 hq with rfl|h
  ·exact L
  exact O.lv q (sub q h)
 ·rcases aa5.1 hq with rfl|h
  ·exact kpp.it I
  exact(kp q (sub q h)).it (O.it q (sub q h))
 ·rcases aa5.1 hq with rfl|h
  ·rw[kpp.key];exact hx
  rw[(kp q (sub q h)).key];exact O.bu x q h
 rw[kpp.key]at e;exact hk r hr e.symm
def rD (A B:By)(S:List Nat)(a n:Nat):Prop:=∀i,B i≠A i->∃q∈S,q+a<=i/\i<q+a+n
theorem rD.refl (A:By)(S:List Nat)(a n:Nat):rD A A S a n:=λ_ h=>absurd rfl h
theorem rD.trans{A B D:By}{S:List Nat}{a n:Nat}(h:rD A B S a n)(g:rD B D S a n):rD A D S a n:=λi e=>by
 by_cases hb:B i=A i
 ·exact g i (by rw[hb];exact e)
 exact h i hb
theorem rD.mono{A B:By}{S R:List Nat}{a n:Nat}(h:rD A B S a n)(s:∀q∈S,q∈R):rD A B R a n:=λi e=>by
 obtain⟨q,q1,q2⟩:=h i e;exact⟨q,s q q1,q2⟩
theorem xv (A:By){S:List Nat}{q a n v:Nat}(h:q∈S):rD A (wr A (q+a) n v) S a n:=λi e=>by
 refine⟨q,h, ?_⟩;refine aa2 λg=>e ?_;unfold wr;exact gI _ _ _ _ (by rw[nc];omega)
theorem J7{C:Cs}(K:Ok C){B:By}{S:List Nat}{a n:Nat}(d:rD C.A B S a n)(hS:∀q∈S,At C q){p o w:Nat}(L:At C p)(ha:a+n<=64)(ho:o+w<=C.sz (C.cl p))(h:p∈S->a+n<=o\/o+w<=a):jU B (p+o) w=jU C.A (p+o) w:=
 uV λi h1 h2=>by
  refine aa2 λe=> ?_;obtain⟨q,q1,q2,q3⟩:=d i e;have m1:=((hS q q1).bn K).2.1;rcases far K L (hS q q1) (a:=a) (n:=n) (o:=o) (w:=w) (by omega) ho (λe=>h (e▸q1))with g|g<;>omega
theorem RD{C:Cs}(K:Ok C){B:By}{S:List Nat}{a n:Nat}(d:rD C.A B S a n)(hS:∀q∈S,At C q){p o w:Nat}(L:At C p)(ha:a+n<=64)(ho:o+w<=C.sz (C.cl p))(h:p∈S->a+n<=o\/o+w<=a):rd B (p+o) w=rd C.A (p+o) w:=by
 unfold rd;rw[J7 K d hS L ha ho h]
theorem yc{C:Cs}(K:Ok C){B:By}{S:List Nat}{a n:Nat}(d:rD C.A B S a n)(hS:∀q∈S,At C q)(ha:a+n<=12){p:Nat}(L:At C p)(I:gO C p):Kept C B p:=by
 have n1:=(L.bn K).2.1;have hf:=I.fits;have r:=λ(o w:Nat) (h1:12<=o) (h2:o+w<=C.sz (C.cl p))=>RD K d hS L (by omega) h2 (λ_=> .inl (by omega));have e1:kl B p=kl C.A p:=r 44 1 (by omega) (by omega);have e2:vl B p=vl C.A p:=r 48 4 (by omega) (by omega);refine⟨e1,e2, ?_,λJ=>⟨?_, ?_, ?_, ?_⟩⟩
 ·unfold aP
  rw[e1];exact J7 K d hS L (by omega) (by omega) (λ_=> .inl (by omega))
 ·rw[cK,e1];exact J.k0
 ·rw[cK,e1,e2];exact J.fits
 ·rw[cK,r 16 8 (by omega) (by omega)];exact J.exp
 rw[cK,r 24 8 (by omega) (by omega)];exact J.tch
theorem Xt (A:By)(c:List Nat)(j:Nat)(hj:j<c.length):rD A (pD A c j) c 0 4:=by
 rcases j with _|j
 ·exact rD.refl _ _ _ _
 rw[nP,mO (by omega)];exact xv A (a:=0) (aa4 (by omega))
theorem S8 (A:By)(c:List Nat)(j:Nat)(hj:j<c.length):rD A (pJ A c j c[j]) c 0 4:=
 (Xt A c j hj).trans (xv _ (a:=0) (aa4 hj))
theorem Jp{C:Cs}(K:Ok C){W:Tb}(O:dq C W){x:Bool×Nat}(hx:FM W x){c:List Nat}(hc:W.ch x=c){j p:Nat}(hj:j<c.length)(hp:c[j]=p):
  dq (C.wA (pJ C.A c j p)) {W.cT x (c.eraseIdx j)with n:=W.n-1}/\rD C.A (pJ C.A c j p) W.all 0 4:=by
 subst hp;have sub:∀q∈c,q∈W.all:=λq hq=>Tb.gU (x:=x) (by rw[hc];exact hq);have d:=S8 C.A c j hj;have dW:rD C.A (pJ C.A c j c[j]) W.all 0 4:=d.mono sub;have at_:∀q∈W.all,At C q:=λq hq=>(O.lv q hq).toAt;have kp:∀q∈W.all,Kept C (pJ C.A c j c[j]) q:=λq hq=>yc K dW at_ (by omega) (at_ q hq) (O.it q hq);have li:=O.li x;have nd:=(W.oR x).nodup O.nd;rw[hc]at li nd;have es:∀q∈c.eraseIdx j,q∈c:=λq hq=>List.mem_of_mem_eraseIdx hq;refine⟨B5 O hx hc (p:=c[j]) ?_ (nd.sublist (List.eraseIdx_sublist c j)) (λq hq=> .inl (es q hq)) ?_ (λq hq g=> ?_) (λq hq=>O.lv q (sub q (es q hq))) kp (λq hq=>(kp q (sub q (es q hq))).it (O.it q (sub q (es q hq))))
  (λq hq=>by rw[(kp q (sub q (es q hq))).key];exact O.bu x q (by rw[hc];exact es q hq)) (λ_ h r hr e=> ?_),dW⟩
 ·have h1:=uM O x
  rw[hc]at h1;have h2:=ai7 hj;omega
 ·refine QA λk hk=> ?_
  have hlen:=ai7 hj;have lv:∀i (h:i<c.length),Live C c[i]:=λi h=>O.lv _ (sub _ (aa4 h));have inj:∀i k (h:i<c.length) (g:k<c.length),i≠k->c[i]≠c[k]:=λi k h g e h2=>e ((ajF nd).1 h2);have K2:=K.wA (pD C.A c j);have rd2:∀i (h:i<c.length),i≠j->rd (pJ C.A c j c[j]) c[i] 4=rd (pD C.A c j) c[i] 4:=λi h e=>tO K2 ((lv i h).wA _) ((lv j hj).wA _) (inj i j h hj e) 0;have rd1:∀i (h:i<c.length),i+1≠j->rd (pD C.A c j) c[i] 4=nO c[i+1]?:=λi h e=>by
   rcases j with _|j
   ·exact JI li h
   rw[nP,mO (by omega),tO K (lv i h) (lv j (by omega)) (inj i j h (by omega) (by omega))];exact JI li h
  have rd0:∀i (h:i<c.length),i+1=j->rd (pD C.A c j) c[i] 4=nO c[i+2]?:=λi h e=>by
   subst e;rw[nP,mO (by omega),ajf];refine Au _ _ _ (oZ K λq hq=> ?_);exact O.lv q (sub q (List.mem_of_getElem? hq))
  rw[List.getElem_eraseIdx]
  split
  ·next h=>
   have sO:k<c.length:=by omega
   rw[rd2 k sO (by omega)];by_cases e:k+1=j
   ·rw[rd0 k sO e,afp (by omega)]
   rw[rd1 k sO e,List.getElem?_eraseIdx_of_lt (by omega)]
  next h=>
  have sO:k+1<c.length:=by omega
  rw[rd2 (k+1) sO (by omega),rd1 (k+1) sO (by omega),afp (by omega)]
 ·have:=RD K d (λq hq=>at_ q (sub q hq)) (at_ q hq) (o:=0) (w:=4) (by omega) (by have:=((at_ q hq).bn K).2.1;omega) (λh=>absurd h g)
  exact this
 exact absurd (sub _ (aa4 hj)) h
def Tb.nn (W:Tb):Tb:={W with n:=W.all.length}
def Tb.emp (W:Tb):Tb:={W.cT (true,W.mv) []with mv:=W.mv+1}
theorem Tb.aeF (W:Tb):W.emp.nb=W.nb:=rfl
theorem Tb.Rz (W:Tb):W.emp.ob=W.ob.set W.mv []:=rfl
theorem Ry{C:Cs}{W:Tb}(O:dq C W)(hm:W.mv<W.ob.length):dq C W.emp.nn/\W.all.Perm (W.ch (true,W.mv)++W.emp.all)/\
  ∀q∈W.ch (true,W.mv),W.emp.bk (cx (aP C.A q))=(false,cx (aP C.A q) % W.nb.length):=by
 have hx:FM W (true,W.mv):=hm;obtain⟨r,p1,p2⟩:=Tb.oJ hx;have pe:W.emp.all.Perm r:=by
  have:(W.cT (true,W.mv) []).all.Perm r:=by simpa using p2 []
  exact this
 have rp:W.emp.all=(W.cT (true,W.mv) []).all:=rfl;have O1:=B5 O hx rfl (c':= []) (A:=C.A) (n':=W.emp.all.length) (p:=0) (by
   have h1:=O.n;rw[p1.length_eq,aaZ]at h1;rw[pe.length_eq,List.length_nil];omega) List.nodup_nil (λ_ h=>by cases h) trivial (λ_ _ _=>rfl) (λ_ h=>by cases h) (λq _=>Kept.refl C q) (λ_ h=>by cases h) (λ_ h=>by cases h) (λh=>by cases h)
 have bkx:∀h,W.emp.bk h=if W.mv=h % W.ob.length then(false,h % W.nb.length)else W.bk h:=λh=>by
  unfold Tb.bk;rw[Tb.aeF,Tb.Rz,aaY,show W.emp.mv=W.mv+1 from rfl]
  split
  ·next g=>rw[if_neg (by omega),if_pos ⟨g.1,by omega⟩]
  next g=>
  split
  ·rfl
  next e=>rw[if_neg (by omega)]
 have chx:∀z,W.emp.ch z=(W.cT (true,W.mv) []).ch z:=λ_=>rfl;have ol:W.ob.length<=1048576:=by
  rcases O.po with h|⟨m,hm,e⟩
  ·rw[h];decide
  exact(rH e hm).2
 have obl:W.emp.nn.ob.length=W.ob.length:=by show(W.ob.set W.mv []).length=_;rw[aaY]
 have gB:W.st=2:=by
  rcases O.st with h|h
  ·rw[h.2]at hm;cases hm
  exact h.1
 have old:∀h i,W.bk h=(true,i)->h % W.ob.length=i:=λh i e=>by
  unfold Tb.bk at e
  split at e
  ·cases e;rfl
  cases e
 refine⟨⟨O1.pw,O1.po, .inr ⟨gB,by rw[obl];omega,by rw[obl];exact hm⟩,O1.mp,O1.sz,O1.Oq,O1.sm,ai5 hm ol,rfl,O1.nd,O1.li,O1.lv,O1.it,λz q hq=> ?_,O1.kd⟩,p1.trans (aa1.append_left _ pe.symm),λq hq=> ?_⟩
 ·change W.emp.bk (cx (aP C.A q))=z
  rw[bkx];have hq':q∈(W.cT (true,W.mv) []).ch z:=hq;rw[Tb.RG hx]at hq'
  split at hq'
  ·cases hq'
  next e=>
  have hb:=O.bu z q hq'
  split
  ·next g=>
   refine absurd ?_ e;rw[<-hb];unfold Tb.bk;rw[if_pos ⟨by omega,by omega⟩,g]
  exact hb
 rw[bkx,old _ _ (O.bu _ q hq),if_pos rfl]
structure Hand (C:Cs)(W:Tb)(r:List Nat):Prop where
 nd:r.Nodup
 li:FY C.A r
 lv:∀q∈r,Live C q
 it:∀q∈r,gO C q
 no:∀q∈r,q∉W.all
 kd:∀q∈r,∀s∈W.all,aP C.A s≠aP C.A q
 kr:∀q∈r,∀s∈r,aP C.A q=aP C.A s->q=s
theorem Yt{C:Cs}{W:Tb}(O:dq C W)(hm:W.mv<W.ob.length):Hand C W.emp (W.ch (true,W.mv)):=by
 obtain⟨_,p,_⟩:=Ry O hm;have nd:=afL.1 (p.nodup_iff.1 O.nd);have sub:∀q∈W.ch (true,W.mv),q∈W.all:=λq hq=>Tb.gU hq;have sub2:∀q∈W.emp.all,q∈W.all:=λq hq=>p.mem_iff.2 (agr _ hq);exact⟨nd.1,O.li _,λq hq=>O.lv q (sub q hq),λq hq=>O.it q (sub q hq),λq hq g=>nd.2.2 q hq q g rfl,
  λq hq s hs e=>nd.2.2 q hq s hs (O.kd s (sub2 s hs) q (sub q hq) e).symm,λq hq s hs e=>O.kd q (sub q hq) s (sub s hs) e⟩
def Tb.on (W:Tb)(C:Cs)(p:Nat):Tb:=W.cT (W.bk (cx (aP C.A p))) (p::W.ch (W.bk (cx (aP C.A p))))
def CZ (W:Tb)(C:Cs)(p:Nat):By:=wr C.A p 4 (nO (W.ch (W.bk (cx (aP C.A p)))).head?)
theorem ahX{C:Cs}(K:Ok C){W:Tb}(O:dq C W.nn){p:Nat}{r:List Nat}(H:Hand C W (p::r)):
  dq (C.wA (CZ W C p)) (W.on C p).nn/\Hand (C.wA (CZ W C p)) (W.on C p) r/\(W.on C p).all.Perm (p::W.all)/\rD C.A (CZ W C p) [p] 0 4:=by
 have L:=H.lv p (by simp);have I:=H.it p (by simp);have P:=Cb K O L I (H.no p (by simp)) (H.kd p (by simp)) (x:=W.bk (cx (aP C.A p))) rfl;have hx:FM W (W.bk (cx (aP C.A p))):=sg O (cx (aP C.A p));obtain⟨r1,p1,p2⟩:=Tb.oJ hx;have pa:(W.on C p).all.Perm (p::W.all):=(p2 _).trans (aa1.cons p p1.symm);have ne:(W.on C p).nn={W.nn.cT (W.bk (cx (aP C.A p))) (p::W.ch (W.bk (cx (aP C.A p))))with n:=W.nn.n+1}:=by
  have:(W.on C p).all.length=W.all.length+1:=by rw[pa.length_eq];rfl
  unfold Tb.nn;rw[this];unfold Tb.on;rcases W.bk (cx (aP C.A p))with⟨_|_,i⟩<;>rfl
 have d:rD C.A (CZ W C p) [p] 0 4:=xv C.A (q:=p) (a:=0) (by simp);have nd:=aa3.1 H.nd;have kp:∀q∈r,Kept C (CZ W C p) q:=λq hq=>nS K (H.lv q (by simp[hq])) L (H.it q (by simp[hq])) _;have kw:∀q∈W.all,Kept C (CZ W C p) q:=λq hq=>nS K (O.lv q hq) L (O.it q hq) _;have kpp:Kept C (CZ W C p) p:=nS K L L I _;refine⟨by rw[ne];exact P,⟨nd.2,qN (λq hq=>tO K (H.lv q (by simp[hq])) L (λe=>nd.1 (e▸hq)) _) H.li.2,λq hq=>(H.lv q (by simp[hq])).wA _,λq hq=>(kp q hq).it (H.it q (by simp[hq])),λq hq g=> ?_,λq hq s hs e=> ?_,λq hq s hs e=> ?_⟩,pa,d⟩
 ·rcases aa5.1 (pa.mem_iff.1 g)with h|h
  ·exact nd.1 (h▸hq)
  exact H.no q (by simp[hq]) h
 ·change aP (CZ W C p) s=aP (CZ W C p) q at e
  rw[(kp q hq).key]at e;rcases aa5.1 (pa.mem_iff.1 hs)with h|h
  ·subst h
   rw[kpp.key]at e;have:=H.kr s (by simp) q (by simp[hq]) e;exact nd.1 (this▸hq)
  rw[(kw s h).key]at e;exact H.kd q (by simp[hq]) s h e
 change aP (CZ W C p) q=aP (CZ W C p) s at e;rw[(kp q hq).key,(kp s hs).key]at e;exact H.kr q (by simp[hq]) s (by simp[hs]) e
structure rM (W V:Tb):Prop where
 n:V.n=W.n
 st:V.st=W.st
 size:V.size=W.size
 aI:V.aI=W.aI
 nb:V.nb.length=W.nb.length
 ob:V.ob.length=W.ob.length
theorem rM.on{C:Cs}{W V:Tb}(h:rM W V)(p:Nat):rM W (V.on C p):=by
 unfold Tb.on;rcases V.bk (cx (aP C.A p))with⟨_|_,i⟩
 ·exact⟨h.n,h.st,h.size,h.aI,by rw[<-h.nb];exact aaY,h.ob⟩
 exact⟨h.n,h.st,h.size,h.aI,h.nb,by rw[<-h.ob];exact aaY⟩
theorem ZO (C:Cs)(W:Tb)(p:Nat):(W.on C p).mv=W.mv:=by
 unfold Tb.on;rcases W.bk (cx (aP C.A p))with⟨_|_,i⟩<;>rfl
structure Wd (C:Cs)(W:Tb)(A:By)(V:Tb)(r:List Nat)(k:Nat):Prop where
 o:dq (C.wA A) V.nn
 h:Hand (C.wA A) V r
 p:(r++V.all).Perm W.all
 d:rD C.A A W.all 0 4
 s:rM W V
 mv:V.mv=W.mv+1
 k:k+r.length<=W.n
structure abI (C:Cs)(W:Tb)(A:By)(V:Tb):Prop where
 o:dq (C.wA A) V
 p:V.all.Perm W.all
 d:rD C.A A W.all 0 4
 s:rM W V
 mv:V.mv=W.mv+1
theorem Wd.start{C:Cs}{W:Tb}(O:dq C W)(hm:W.mv<W.ob.length):Wd C W C.A W.emp (W.ch (true,W.mv)) 0:=by
 obtain⟨h1,h2,_⟩:=Ry O hm;exact⟨h1,Yt O hm,h2.symm,rD.refl _ _ _ _,⟨rfl,rfl,rfl,rfl,rfl,aaY⟩,rfl,by have:=uM O (true,W.mv);omega⟩
theorem Wd.step{C:Cs}(K:Ok C){W:Tb}{A:By}{V:Tb}{p:Nat}{r:List Nat}{k:Nat}(I:Wd C W A V (p::r) k):Wd C W (CZ V (C.wA A) p) (V.on (C.wA A) p) r (k+1):=by
 obtain⟨h1,h2,h3,h4⟩:=ahX (K.wA A) I.o I.h;have hp:p∈W.all:=I.p.mem_iff.1 (by simp);refine⟨h1,h2, ?_,I.d.trans (h4.mono λq hq=>by rw[afq]at hq;exact hq▸hp),I.s.on p,by rw[ZO];exact I.mv,by have:=I.k;simp at this;omega⟩;refine(aa1.append_left r h3).trans (aa1.trans ?_ I.p);exact List.perm_middle
theorem Wd.done{C:Cs}{W:Tb}(O:dq C W){A:By}{V:Tb}{k:Nat}(I:Wd C W A V [] k):abI C W A V:=by
 have e:V.nn=V:=by
  unfold Tb.nn;have h1:=I.p.length_eq;simp only[List.nil_append]at h1;rw[h1,<-O.n,<-I.s.n]
 have o:=I.o;rw[e]at o;exact⟨o,by simpa using I.p,I.d,I.s,I.mv⟩
theorem YK (b:Nat)(W:Tb)(nk ok:Nat): [CM b,CO CN W.aI,CO CN W.n,CO CN W.size, .slice (some ⟨nk,0,none⟩) W.nb.length W.nb.length, .slice (some ⟨ok,0,none⟩) W.ob.length W.ob.length,CO CN ((W.mv:Int)+1),CO CN W.st]=fk b W.emp ⟨nk,some ok⟩:=by
 unfold fk Vx;rw[Tb.Rz,aaY];rfl
theorem Sx (t b:Nat)(C:Cs)(K:Ok C)(W:Tb)(y:qw)(O:dq C W)(hy:y.ok=none->W.ob= [])(hm:W.mv<W.ob.length):
  aO aaO 135 [CM t,CO CN W.mv] (λ_=>True) (Cl b C::nq t b W y)
   (λv H=>v= .tuple #[]/\∃A V,H=Cl b (C.wA A)::nq t b V y/\abI C W A V):=by
 obtain⟨ok,nj⟩:∃ok,y.ok=some ok:=by
  rcases h:y.ok with _|ok
  ·rw[hy h]at hm;cases hm
  exact⟨ok,rfl⟩
 rcases y with⟨nk,_⟩
 dsimp only at nj;subst nj;have hn:=A8 K O;have mvb:=O.mv;have st:=Wd.start O hm;have ho:di C (W.ch (true,W.mv)).head?:=λq hq=>O.lv q (Tb.gU (afB hq));have eZ:(aM (aD W.ob))[W.mv]?=some (CO akO (nO (W.ch (true,W.mv)).head?)):=qj hm;change aO _ _ _ _ [Cl b C,af t 154 [CM b,CO CN W.aI,CO CN W.n,CO CN W.size, .slice (some ⟨nk,0,none⟩) W.nb.length W.nb.length, .slice (some ⟨ok,0,none⟩) W.ob.length W.ob.length,CO CN W.mv,CO CN W.st],af nk 149 (aM (aD W.nb)),af ok 149 (aM (aD W.ob))] _;refine ag func135 rfl ntmps135 rfl ?_;intro F _;refine cA ?_;refine zl CF (mu t b C W ⟨nk,some ok⟩ K (W.ch (true,W.mv)).head? ho) .nil (λ_ le ao=>⟨ao.1,ao.2.1⟩) ?_;refine cA ?_;refine Lp (oS pU ?_ (i:=W.mv) (hi:=by rw[mc,nU];exact hm));rw[show(aM (aD W.ob)).set W.mv (CO akO 0)=aM (aD (W.ob.set W.mv []))from nT W.ob W.mv []];refine mF ?_;refine Hh (H':= [Cl b C,af t 154 [CM b,CO CN W.aI,CO CN W.n,CO CN W.size, .slice (some ⟨nk,0,none⟩) W.nb.length W.nb.length, .slice (some ⟨ok,0,none⟩) W.ob.length W.ob.length,CO CN ((W.mv:Int)+1),CO CN W.st],af nk 149 (aM (aD W.nb)),af ok 149 (aM (aD (W.ob.set W.mv [])))]) ?_;rw[YK b W nk ok];refine Lo (ι:=By×Tb×List Nat×Nat) [29,30,31,32,33,34,35,36,37,38,41,42,43,6,44,45,46,47,48,49,50,51,52,4,39,40,5] (λs=>Wd C W s.1 s.2.1 s.2.2.1 s.2.2.2) (λs=> [(4,CO CJ (hO (C.wA s.1) s.2.2.1.head?)),(5,CO CN s.2.2.2)]) (λs=> [Cl b (C.wA s.1),af t 154 (fk b s.2.1 ⟨nk,some ok⟩),af nk 149 (aM (aD s.2.1.nb)),af ok 149 (aM (aD s.2.1.ob))]) (λs=>s.2.2.1.length) ((C.A,W.emp,W.ch (true,W.mv),0)) st ?_;rintro⟨A,V,r,k⟩ hI;dsimp only at hI⊢;have K2:=K.wA A;have hk:=hI.k;have hsn:=hI.s.n;rcases r with _|⟨p,r⟩
 ·unfold fk
  refine bE ?_;refine zf 31 ?_ (e:=by rfl);refine gz ?_;refine jW [Cl b (C.wA A),af t 154 (fk b V ⟨nk,some ok⟩),af nk 149 (aM (aD V.nb)),af ok 149 (aM (aD V.ob))] results135 ?_;exact⟨rfl,A,V,rfl,hI.done O⟩
 have L:=hI.h.lv p (by simp);have I:=hI.h.it p (by simp);obtain⟨m1,m2,m3,m4,m5,m6⟩:=bV K2 L.toAt;have hx:=sg hI.o (cx (aP A p));have lvr:di (C.wA A) r.head?:=λq hq=>hI.h.lv q (aaW _ (afB hq));have lvc:di (C.wA A) (V.ch (V.bk (cx (aP A p)))).head?:=λq hq=>hI.o.lv q (Tb.gU (T:=V) (afB hq));have lk:(aP A p).length=kl A p:=cD _ _ _;obtain⟨z1,z2,z3,_⟩:=L.toAt.bn K2;have lf:=I.fits;change 58+kl A p+vl A p<=_ at lf;have f1:=K2.toFix.p1;have gB:=hI.step K;have jF:V.on (C.wA A) p=V.cT (V.bk (cx (aP A p))) (p::V.ch (V.bk (cx (aP A p)))):=rfl;have hoA:CZ V (C.wA A) p=wr A p 4 (nO (V.ch (V.bk (cx (aP A p)))).head?):=rfl;have hbk:Tb.bk {V with n:=V.all.length} (cx (aP A p))=V.bk (cx (aP A p)):=rfl;rw[jF,hoA]at gB;simp only[List.length_cons]at hk;rw[List.head?_cons,cm];unfold fk;refine bE ?_;refine zt 31 ?_ (e:=by exact by rw[CG];rfl);refine dm ?_;refine eU ?_;refine bR ?_;refine zl CF (jS t b (C.wA A) V ⟨nk,some ok⟩ K2 p r.head? L I.k0 lvr hI.h.li.1) .nil (λ_ le ao=>⟨ao.1,ao.2.1⟩) ?_;refine bR ?_;refine Lp (oC CF rfl rfl (qy t b (C.wA A) V ⟨nk,some ok⟩ K2 p L I) .nil (λ_ le ao=>⟨ao.1,ao.2.1⟩) ?_);rintro v H' ⟨kb,rfl,rfl⟩;refine aX ?_;refine zl CF (mw t b (C.wA A) V ⟨nk,some ok⟩ V.all.length hI.o (λh=>by cases h) (some ⟨kb,0,none⟩) (kl A p) (kl A p) (aP A p) lk.symm (by omega)) .nil (λ_ le ao=>⟨ao.2.2.1,bP ao.1⟩) ?_;refine av ?_;replace hx:FM V (V.bk (cx (aP A p))):=hx
 clear jF hoA hbk
 generalize V.bk (cx (aP A p))=x at hx lvc gB⊢;refine zl CF (xO t b (C.wA A) K2 V ⟨nk,some ok⟩ (λh=>by cases h) x hx p L I.k0 lvc) (.cons (.there .here) (.cons (.there .here) (.cons (.there .here) (.cons (.there .here) .nil)))) CI ?_;refine bW ?_;refine aF ?_;refine Ro ((wr A p 4 (nO (V.ch x).head?),V.cT x (p::V.ch x),r,k+1)) (gB) ((by simp))
def Tb.fin (W:Tb):Tb:={W with ob:= [],st:=0}
theorem aeC{C:Cs}{W:Tb}(O:dq C W)(hm:W.ob.length<=W.mv):dq C W.fin/\W.fin.all.Perm W.all:=by
 obtain⟨m,Wt,ep⟩:=O.pw;obtain⟨p1,_⟩:=rH ep Wt;have no:∀i,W.ch (true,i)= []:=λi=>by
  refine ajA.2 λq hq=> ?_;have h:=O.bu _ q hq;unfold Tb.bk at h
  split at h
  ·next g=>
   have:=ai4 (cx (aP C.A q)) g.1;omega
  cases h
 have obf:W.ob.flatten= []:=by
  refine ajA.2 λq hq=> ?_;obtain⟨l,h1,h2⟩:=ajm.1 hq;obtain⟨i,hi,rfl⟩:=aft h1;have:=no i;unfold Tb.ch at this;rw[if_pos rfl,aaP,aaQ hi]at this;change W.ob[i]= []at this;rw[this]at h2;cases h2
 have ea:W.fin.all=W.all:=by unfold Tb.fin Tb.all;rw[obf];rfl
 have chx:∀z,W.fin.ch z=W.ch z:=λz=>by
  rcases z with⟨_|_,i⟩
  ·rfl
  rw[no i];rfl
 refine⟨⟨O.pw, .inl rfl, .inl ⟨rfl,rfl⟩,O.mp,O.sz,O.Oq,O.sm,O.mv,by rw[ea];exact O.n,by rw[ea];exact O.nd,λz=>by rw[chx];exact O.li z,by rw[ea];exact O.lv,by rw[ea];exact O.it,λz q hq=> ?_,by rw[ea];exact O.kd⟩,by rw[ea]⟩;rw[chx]at hq;have h:=O.bu z q hq;rw[<-h];unfold Tb.bk Tb.fin;rw[if_neg (by simp)]
 split
 ·next g=>
  have:=ai4 (cx (aP C.A q)) g.1;omega
 rfl
def Tb.ID (W:Tb)(s:Nat):Tb:={W with size:=s,nb:=aaS s [],ob:=W.nb,mv:=0,st:=2}
theorem UY (s:Nat):(aaS s ([]:List Nat)).flatten= []:=by
 rw[List.flatten_eq_nil_iff];intro l h;exact List.eq_of_mem_replicate h
theorem RH{C:Cs}{W:Tb}(O:dq C W)(h0:W.st=0){s:Nat}(hs:∃m,m<=20/\s=2^m)(h16:16<=s)(hm:s<=W.aI):dq C (W.ID s)/\(W.ID s).all=W.all:=by
 obtain⟨m,Wt,ep⟩:=O.pw;obtain⟨p1,p2⟩:=rH ep Wt;have ob0:W.ob= []:=by
  rcases O.st with h|h
  ·exact h.2
  omega
 have ea:(W.ID s).all=W.all:=by
  unfold Tb.ID Tb.all;rw[ob0];show(aaS s []).flatten++W.nb.flatten=_;rw[UY];simp
 have chf:∀i,(W.ID s).ch (false,i)= []:=λi=>by
  show(aaS s []).getD i []= [];rw[aaP];by_cases h:i<s
  ·rw[afD,if_pos h];rfl
  rw[afD,if_neg h];rfl
 refine⟨⟨by obtain⟨m,h1,h2⟩:=hs;exact⟨m,h1,by show(aaS s _).length=_;rw[afQ];exact h2⟩, .inr O.pw, .inr ⟨rfl,by show 0<W.nb.length;omega,afk _⟩,O.mp,(afQ ..).symm,h16,hm,afk _,by rw[ea];exact O.n,by rw[ea];exact O.nd,λz=> ?_,by rw[ea];exact O.lv,by rw[ea];exact O.it,λz q hq=> ?_,by rw[ea];exact O.kd⟩,ea⟩
 ·rcases z with⟨_|_,i⟩
  ·rw[chf];trivial
  exact O.li (false,i)
 rcases z with⟨_|_,i⟩
 ·rw[chf]at hq;cases hq
 have h:=O.bu (false,i) q hq;unfold Tb.bk at h;rw[if_neg (by rw[ob0];simp)]at h;show Tb.bk (W.ID s) _=_;unfold Tb.bk;rw[if_pos ⟨by show 0<W.nb.length;omega,afk _⟩];have:=(Prod.mk.inj h).2;show(true,cx (aP C.A q) % W.nb.length)=_;rw[this]
structure xg (C:Cs)(W:Tb)(k:Nat)(A:By)(V:Tb):Prop where
 o:dq (C.wA A) V
 p:V.all.Perm W.all
 d:rD C.A A W.all 0 4
 s:rM W V
 mv:V.mv=W.mv+k
theorem xg.zero{C:Cs}{W:Tb}(O:dq C W):xg C W 0 C.A W:=⟨O,aa1.refl _,rD.refl _ _ _ _,⟨rfl,rfl,rfl,rfl,rfl,rfl⟩,rfl⟩
theorem xg.next{C:Cs}{W:Tb}{k:Nat}{A:By}{V:Tb}(I:xg C W k A V){B:By}{U:Tb}(M:abI (C.wA A) V B U):xg C W (k+1) B U:=
 ⟨M.o,M.p.trans I.p,I.d.trans (M.d.mono λq hq=>I.p.mem_iff.1 hq),⟨M.s.n.trans I.s.n,M.s.st.trans I.s.st,M.s.size.trans I.s.size,M.s.aI.trans I.s.aI,M.s.nb.trans I.s.nb,M.s.ob.trans I.s.ob⟩,by rw[M.mv,I.mv];omega⟩
structure Stp (C:Cs)(W:Tb)(k:Nat)(A:By)(V:Tb):Prop where
 o:dq (C.wA A) V
 p:V.all.Perm W.all
 d:rD C.A A W.all 0 4
 n:V.n=W.n
 size:V.size=W.size
 aI:V.aI=W.aI
 on:W.mv+k<W.ob.length->V.st=2/\V.mv=W.mv+k/\V.ob.length=W.ob.length
 off:W.ob.length<=W.mv+k->V.st=0
theorem xg.go{C:Cs}{W:Tb}{k:Nat}{A:By}{V:Tb}(I:xg C W k A V)(h2:W.st=2)(h:W.mv+k<W.ob.length):Stp C W k A V:=
 ⟨I.o,I.p,I.d,I.s.n,I.s.size,I.s.aI,λ_=>⟨by rw[I.s.st,h2],I.mv,I.s.ob⟩,λg=>by omega⟩
theorem xg.fin{C:Cs}{W:Tb}{k j:Nat}{A:By}{V:Tb}(I:xg C W k A V)(h:W.mv+k=W.ob.length)(hj:k<=j):Stp C W j A V.fin:=by
 obtain⟨f1,f2⟩:=aeC I.o (by rw[I.s.ob,I.mv];omega);exact⟨f1,f2.trans I.p,I.d,I.s.n,I.s.size,I.s.aI,λg=>by omega,λ_=>rfl⟩
theorem La (t b:Nat)(C:Cs)(K:Ok C)(W:Tb)(y:qw)(h0:W.st=0)(k:Nat):
  aO aaO 88 [CM t,CO CN k] (In (af t 154 (fk b W y))) []
   (λv H=>v=CO CN 0/\H= []):=by
 unfold fk;rw[h0];refine ag func88 rfl ntmps88 rfl ?_;intro F ht;refine cC ?_;refine cC ?_;refine sT ?_;refine Rt [] results88 ?_;exact⟨rfl,rfl⟩
theorem K8 (t b:Nat)(C:Cs)(K:Ok C)(W:Tb)(nk ok:Nat)(O:dq C W)(h2:W.st=2)(hm:W.mv<W.ob.length)(k:Nat)(hk:k<=1099511627776):
  aO aaO 88 [CM t,CO CN k] (λ_=>True) (Cl b C::nq t b W ⟨nk,some ok⟩)
   (λv H=>v=CO CN (min k (W.ob.length-W.mv):Nat)/\∃A V o',H=Cl b (C.wA A)::nq t b V ⟨nk,o'⟩/\(o'=none->V.ob= [])/\Stp C W k A V):=by
 have ol:W.ob.length<=1048576:=by
  rcases O.po with h|⟨m,hm,e⟩
  ·rw[h];decide
  exact(rH e hm).2
 change aO _ _ _ _ [Cl b C,af t 154 [CM b,CO CN W.aI,CO CN W.n,CO CN W.size, .slice (some ⟨nk,0,none⟩) W.nb.length W.nb.length, .slice (some ⟨ok,0,none⟩) W.ob.length W.ob.length,CO CN W.mv,CO CN W.st],af nk 149 (aM (aD W.nb)),af ok 149 (aM (aD W.ob))] _;refine ag func88 rfl ntmps88 rfl ?_;intro F _;refine cC ?_;refine bG ?_;refine cO ?_;refine bR ?_;refine eU ?_;refine cA ?_;refine Lo (ι:=Nat×By×Tb) [27,28,29,30,31,32,33,34,35,36,37,38,39,40,41,44,45,46,47,48,49,42,43,5] (λs=>xg C W s.1 s.2.1 s.2.2/\s.1<=k/\W.mv+s.1<=W.ob.length) (λs=> [(5,CO CN s.1)]) (λs=> [Cl b (C.wA s.2.1),af t 154 (fk b s.2.2 ⟨nk,some ok⟩),af nk 149 (aM (aD s.2.2.nb)),af ok 149 (aM (aD s.2.2.ob))]) (λs=>k-s.1) ((0,C.A,W)) ⟨xg.zero O,afk _,Nat.le_of_lt hm⟩ ?_;rintro⟨d,A,V⟩ hI;dsimp only at hI⊢;have K2:=K.wA A;have hmv:=hI.1.mv;have hob:=hI.1.s.ob;have hd:=hI.2;unfold fk;refine av ?_;refine aw ?_;refine hJ 14 mix (.cons (.there .here) .nil) λF1 jf bZ aN=> ?_;obtain⟨q1,_⟩:=bZ;by_cases hg:d<k
 ·refine Ti Mv ?_
  refine bz ?_;refine zt 30 ?_;refine bM ?_;refine gd aN ?_;refine bA ?_;by_cases hl:W.mv+d<W.ob.length
  ·refine eU ?_
   refine Hh (H':= [Cl b (C.wA A),af t 154 (fk b V ⟨nk,some ok⟩),af nk 149 (aM (aD V.nb)),af ok 149 (aM (aD V.ob))]) ?_;unfold fk;refine bM ?_;refine Lp (oC CF rfl rfl (Sx t b (C.wA A) K2 V ⟨nk,some ok⟩ hI.1.o (λh=>by cases h) (by omega)) (.cons .here (.cons .here (.cons .here (.cons .here .nil)))) CI ?_);rintro v H' ⟨rfl,B,U,rfl,hM⟩;refine aX ?_;refine bR ?_;refine aF ?_;refine Ro ((d+1,B,U)) (⟨hI.1.next hM,by dsimp only;omega,by dsimp only;omega⟩) ((by dsimp only;omega))
  refine cO ?_;refine bG ?_;refine aw ?_;refine hJ 9 mix (.cons .here .nil) λF2 yO ez cQ=> ?_;obtain⟨q1,_⟩:=ez;refine cA ?_;refine gd cQ ?_;refine bA ?_;refine cO ?_;refine cC ?_;refine bW ?_;refine au (λ_ s=>gx (A:=zk) (λ_=>trivial) s) ?_;refine Rt [Cl b (C.wA A),af t 154 (fk b V.fin ⟨nk,none⟩),af nk 149 (aM (aD V.nb)),zk] results88 ?_;exact⟨by rw[show min k (W.ob.length-W.mv)=d by omega],A,V.fin,none,rfl,λ_=>rfl,hI.1.fin (by omega) hd.1⟩
 refine Ti Mv ?_;refine bz ?_;refine zf 30 ?_;refine bM ?_;refine gd aN ?_;refine cA ?_;refine aw ?_;refine hJ 9 mix (.cons .here .nil) λF3 Ow pt eI=> ?_;obtain⟨q1,_⟩:=pt;refine cA ?_;refine gd eI ?_;refine bA ?_;by_cases hl:W.mv+d<W.ob.length
 ·refine eU ?_
  refine bW ?_;refine Rt [Cl b (C.wA A),af t 154 (fk b V ⟨nk,some ok⟩),af nk 149 (aM (aD V.nb)),af ok 149 (aM (aD V.ob))] results88 ?_;obtain rfl:d=k:=by omega
  exact⟨by rw[show min d (W.ob.length-W.mv)=d by omega],A,V,some ok,rfl,(λh=>by cases h),hI.1.go h2 hl⟩
 refine cO ?_;refine cC ?_;refine bW ?_;refine au (λ_ s=>gx (A:=zk) (λ_=>trivial) s) ?_;refine Rt [Cl b (C.wA A),af t 154 (fk b V.fin ⟨nk,none⟩),af nk 149 (aM (aD V.nb)),zk] results88 ?_;exact⟨by rw[show min k (W.ob.length-W.mv)=d by omega],A,V.fin,none,rfl,λ_=>rfl,hI.1.fin (by omega) hd.1⟩
theorem Al (s:Nat):hU [CO akO 0] (s*1)=aM (aD (aaS s [])):=by
 rw[pZ,Nat.mul_one];unfold aM aD;rw[afK,afK];rfl
theorem K9 (t b nk mo n s L:Nat)(hs:s<=1048576)(hL:0<L/\L<=1048576):
  aO aaO 88 [CM t,CO CN 0] (λ_=>True) [af t 154 [CM b,CO CN mo,CO CN n,CO CN s, .slice none 0 0, .slice (some ⟨nk,0,none⟩) L L,CO CN 0,CO CN 1]]
   (λv H=>v=CO CN 0/\∃mk,H= [af t 154 [CM b,CO CN mo,CO CN n,CO CN s, .slice (some ⟨mk,0,none⟩) s s, .slice (some ⟨nk,0,none⟩) L L,CO CN 0,CO CN 2],af mk 149 (aM (aD (aaS s [])))]):=by
 refine ag func88 rfl ntmps88 rfl ?_;intro F _;refine cC ?_;refine sT ?_;refine Lp (oM (s) (s) BS λb1=> ?_);rw[Al];refine fq ?_;refine Lo (ι:=Unit) [27,28,29,30,31,32,33,34,35,36,37,38,39,40,41,44,45,46,47,48,49,42,43,5] (λu=>True) (λu=> [(5,CO CN 0)]) (λu=> [af t 154 [CM b,CO CN mo,CO CN n,CO CN s, .slice (some ⟨b1,0,none⟩) s s, .slice (some ⟨nk,0,none⟩) L L,CO CN 0,CO CN 2],af b1 149 (aM (aD (aaS s [])))]) (λu=>0) (()) trivial ?_;rintro u hI;refine av ?_;refine aw ?_;refine hJ 14 mix (.cons .here .nil) λF1 jf bZ aN=> ?_;obtain⟨q1,_⟩:=bZ;refine bm ?_;refine zf 30 ?_ (e:=by rfl);refine bM ?_;refine gd aN ?_;refine cA ?_;refine aw ?_;refine hJ 9 mix (.cons .here .nil) λF2 yO ez cQ=> ?_;obtain⟨q1,_⟩:=ez;refine cA ?_;refine gd cQ ?_;refine bA ?_;refine eU ?_;refine bW ?_;refine Rt [af t 154 [CM b,CO CN mo,CO CN n,CO CN s, .slice (some ⟨b1,0,none⟩) s s, .slice (some ⟨nk,0,none⟩) L L,CO CN 0,CO CN 2],af b1 149 (aM (aD (aaS s [])))] results88 ?_;exact⟨rfl,_,rfl⟩
theorem Ab (t b:Nat)(C:Cs)(W:Tb)(y:qw)(O:dq C W)(s:Nat)(hs:s<=1048576):
  aO aaO 192 [CM t,CO CN s] (λ_=>True) [af t 154 (fk b W y),af y.nk 149 (aM (aD W.nb))]
   (λv H=>v= .tuple #[]/\∃mk,H=nq t b (W.ID s) ⟨mk,some y.nk⟩):=by
 obtain⟨i,hi,ei⟩:=O.pw;have hp:=rH ei hi;unfold fk;refine ag func192 rfl ntmps192 rfl ?_;intro F _;refine cC ?_;refine ri ?_;refine Lp (oC CF rfl rfl (K9 t b y.nk W.aI W.n s W.nb.length hs (by omega)) (.cons .here .nil) CI ?_);rintro v H' ⟨rfl,mk,rfl⟩;refine aX ?_;refine aF ?_;refine jW [af t 154 [CM b,CO CN W.aI,CO CN W.n,CO CN s, .slice (some ⟨mk,0,none⟩) s s, .slice (some ⟨y.nk,0,none⟩) W.nb.length W.nb.length,CO CN 0,CO CN 2],af mk 149 (aM (aD (aaS s []))),af y.nk 149 (aM (aD W.nb))] results192 ?_;exact⟨rfl,mk,by simp[nq,fk,Tb.ID,Vx,jH]⟩
theorem P9 (t b:Nat)(C:Cs)(K:Ok C)(W:Tb)(y:qw)(O:dq C W)(hy:y.ok=none->W.ob= [])(p:Nat)(hp:p∈W.all):
  aO aaO 190 [CM t,CO CJ (C.hd p)] (λh=>In (Cl b C) h/\gP (nq t b W y) h) []
   (λv H=>v= .bool true/\H= []):=by
 have L:=O.lv p hp;have I:=O.it p hp;have lk:(aP C.A p).length=kl C.A p:=cD _ _ _;have hk:=I.k0;have hf:=I.fits;obtain⟨z1,z2,z3,_⟩:=L.toAt.bn K;have f1:=K.toFix.p1;have eg:=get_some O hp rfl;refine ag func190 rfl ntmps190 rfl ?_;rintro F ⟨hc,ht⟩;refine bG ?_;refine Lp (oC CF rfl rfl (qy t b C W y K p L I) .nil (λ_ le _=>⟨In.mono hc le,In.mono ht.1 le⟩) ?_);rintro v H' ⟨kb,rfl,rfl⟩;refine aX ?_;refine bE ?_;refine zl CF (nE t b C K W y O hy (some ⟨kb,0,none⟩) (kl C.A p) (kl C.A p) (aP C.A p) lk.symm (by omega)) .nil (λ_ le ao=>⟨In.mono hc le,bS ht le,bP ao.1⟩) ?_;rw[eg,cm];refine bW ?_;refine zt 20 ?_;refine bz ?_;refine zt 23 ?_ (e:=by rfl);refine bR ?_;refine Rt [] results190 ?_;exact⟨by rw[decide_eq_true rfl],rfl⟩
def pL (W:Tb):Prop:=W.st=0/\3*W.size<2*(W.n+1)/\W.size<W.aI
structure aaL (C:Cs)(W:Tb)(p:Nat)(A:By)(V:Tb):Prop where
 o:dq (C.wA A) V
 pm:V.all.Perm (p::W.all)
 df:rD C.A A [p] 0 4
 n:V.n=W.n+1
 aI:V.aI=W.aI
 big:pL W->V.size=2*W.size/\V.st=2/\V.mv=0/\V.ob.length=W.size
 same:¬pL W->V.size=W.size/\V.st=W.st/\V.mv=W.mv/\V.ob.length=W.ob.length
theorem ahy{C:Cs}{W:Tb}(O:dq C W)(h:W.size<W.aI):2*W.size<=W.aI/\∃m,m<=20/\2*W.size=2^m:=by
 obtain⟨m,hm,e⟩:=O.pw;obtain⟨M,hM,e2⟩:=O.mp;have e0:=O.sz;have h3:(2:Nat)^m<2^M:=by omega
 have h4:m<M:=(ajU (by decide)).1 h3;have h5:(2:Nat)^(m+1)<=2^M:=afX (by decide) h4;rw[af9]at h5;exact⟨by omega,m+1,by omega,by rw[af9];omega⟩
theorem WV (t b:Nat)(C:Cs)(K:Ok C)(W:Tb)(y:qw)(O:dq C W)(hy:y.ok=none->W.ob= [])(p:Nat)(L:Live C p)(I:gO C p)(hp:p∉W.all)(hkd:∀q∈W.all,aP C.A q≠aP C.A p):
  aO aaO 188 [CM t,CO CJ (C.hd p)] (λ_=>True) (Cl b C::nq t b W y)
   (λv H=>v=CO CN 0/\∃A V y',H=Cl b (C.wA A)::nq t b V y'/\(y'.ok=none->V.ob= [])/\aaL C W p A V):=by
 have lk:(aP C.A p).length=kl C.A p:=cD _ _ _;have hk:=I.k0;have hf:=I.fits;obtain⟨z1,z2,z3,_⟩:=L.toAt.bn K;have f1:=K.toFix.p1;have eg:W.get C (aP C.A p)=none:=get_none hkd;have hn:=A8 K O;have h16:=O.Oq;have Zd:=O.sm;have ah9:W.aI<=1048576:=by
  obtain⟨m,hm,e⟩:=O.mp;exact(rH e hm).2
 have uo:∃m,m<=20/\W.size=2^m:=by rw[O.sz];exact O.pw
 have P:=Cb K O L I hp hkd (x:=W.bk (cx (aP C.A p))) rfl;have hx:=sg O (cx (aP C.A p));obtain⟨r1,p1,p2⟩:=Tb.oJ hx;have pa:(W.on C p).all.Perm (p::W.all):=(p2 _).trans (aa1.cons p p1.symm);have S:rM W (W.on C p):=rM.on (C:=C) ⟨rfl,rfl,rfl,rfl,rfl,rfl⟩ p;have Sm:(W.on C p).mv=W.mv:=ZO C W p;have lO:di C (W.ch (W.bk (cx (aP C.A p)))).head?:=λq hq=>O.lv q (Tb.gU (afB hq));change dq (C.wA (CZ W C p)) {W.on C p with n:=W.n+1}at P;have Ox:y.ok=none->(W.on C p).ob= []:=λh=>afm (by rw[S.ob,hy h];rfl);have d:rD C.A (CZ W C p) [p] 0 4:=xv C.A (q:=p) (a:=0) (by simp);have eon:W.on C p=W.cT (W.bk (cx (aP C.A p))) (p::W.ch (W.bk (cx (aP C.A p)))):=rfl;have eoA:CZ W C p=wr C.A p 4 (nO (W.ch (W.bk (cx (aP C.A p)))).head?):=rfl;generalize hV:W.on C p=V at*;generalize hA:CZ W C p=A at*;generalize hxx:W.bk (cx (aP C.A p))=x at*;obtain⟨s1,s2,s3,s4,s5,s6⟩:=S;refine ag func188 rfl ntmps188 rfl ?_;intro F _;refine bG ?_;refine Lp (oC CF rfl rfl (qy t b C W y K p L I) .nil (λ_ le ao=>⟨ao.1,ao.2.1⟩) ?_);rintro v H' ⟨kb,rfl,rfl⟩;refine aX ?_;refine dm ?_;refine cO ?_;refine bG ?_;refine zl CF (nE t b C K W y O hy (some ⟨kb,0,none⟩) (kl C.A p) (kl C.A p) (aP C.A p) lk.symm (by omega)) .nil (λ_ le ao=>⟨ao.2.1,ao.2.2,bP ao.1⟩) ?_;rw[eg];refine rj ?_;refine zl CF (mw t b C W y W.n O hy (some ⟨kb,0,none⟩) (kl C.A p) (kl C.A p) (aP C.A p) lk.symm (by omega)) .nil (λ_ le ao=>⟨ao.2.2.1,bP ao.1⟩) ?_;rw[hxx];refine av ?_;refine zl CF (xO t b C K W y hy x hx p L I.k0 lO) (.cons (.there .here) (.cons (.there .here) (.cons (.there .here) (.cons (.there .here) .nil)))) CI ?_;rw[<-eon,<-eoA];refine Hh (H':= [af t 154 (fk b V y),af y.nk 149 (aM (aD V.nb)),jH y.ok 149 (aM (aD V.ob)),Cl b (C.wA A)]) ?_;unfold fk;rw[s1];refine dB ?_;refine aw ?_;refine hJ 28 mix (.cons .here .nil) λF1 jf bZ aN=> ?_;obtain⟨q1,_⟩:=bZ;by_cases h0:W.st=0
 ·refine Ti Mv ?_
  refine bE ?_;refine zt 39 ?_;refine gz ?_;by_cases h1:3*W.size<2*(W.n+1)
  ·refine zt 52 ?_
   refine cA ?_;refine gd aN ?_;refine bA ?_;by_cases h2:W.size<W.aI
   ·have hg:pL W:=⟨h0,h1,h2⟩
    have hdb:=ahy O h2;refine eU ?_;refine bR ?_;refine ay (t:=68) (v':=(CO CN (2*W.size:Nat))) rfl (by(rw[s3];rfl)) ?_;refine Lp (oC CF rfl rfl (Ab t b (C.wA A) {V with n:=W.n+1} y P (2*W.size) (by omega)) (.cons .here (.cons .here .nil)) CI ?_);rintro v H' ⟨rfl,mk,rfl⟩;refine aX ?_;refine bE ?_;obtain⟨B1,B2⟩:=RH (C:=C.wA A) P (s2.trans h0) (s:=2*W.size) hdb.2 (by omega) (by show 2*W.size<=V.aI;rw[s4];exact hdb.1);refine Rt [Cl b (C.wA A),af t 154 (fk b (Tb.ID {V with n:=W.n+1} (2*W.size)) ⟨mk,some y.nk⟩),af mk 149 (aM (aD (Tb.ID {V with n:=W.n+1} (2*W.size)).nb)),jH (some y.nk) 149 (aM (aD (Tb.ID {V with n:=W.n+1} (2*W.size)).ob))] results188 ?_;exact⟨rfl,A,_,⟨mk,some y.nk⟩,rfl,(λh=>by cases h),⟨B1,by rw[B2];exact pa,d,rfl,s4,λ_=>⟨rfl,rfl,rfl,by show V.nb.length=_;rw[s5,O.sz]⟩,λh=>absurd hg h⟩⟩
   have hg:¬pL W:=λh=>h2 h.2.2;refine cO ?_;refine bG ?_;refine Rt [Cl b (C.wA A),af t 154 (fk b {V with n:=W.n+1} y),af y.nk 149 (aM (aD V.nb)),jH y.ok 149 (aM (aD V.ob))] results188 ?_;exact⟨rfl,A,{V with n:=W.n+1},y,rfl,Ox,⟨P,pa,d,rfl,s4,λh=>absurd h hg,λ_=>⟨s3,s2,Sm,s6⟩⟩⟩
  have hg:¬pL W:=λh=>h1 h.2.1;refine zf 52 ?_;refine cA ?_;refine gd aN ?_;refine cA ?_;refine Rt [Cl b (C.wA A),af t 154 (fk b {V with n:=W.n+1} y),af y.nk 149 (aM (aD V.nb)),jH y.ok 149 (aM (aD V.ob))] results188 ?_;exact⟨rfl,A,{V with n:=W.n+1},y,rfl,Ox,⟨P,pa,d,rfl,s4,λh=>absurd h hg,λ_=>⟨s3,s2,Sm,s6⟩⟩⟩
 have hg:¬pL W:=λh=>h0 h.1;refine bG ?_;refine zf 39 ?_;refine cC ?_;refine bA ?_;refine gd aN ?_;refine cA ?_;refine Rt [Cl b (C.wA A),af t 154 (fk b {V with n:=W.n+1} y),af y.nk 149 (aM (aD V.nb)),jH y.ok 149 (aM (aD V.ob))] results188 ?_;exact⟨rfl,A,{V with n:=W.n+1},y,rfl,Ox,⟨P,pa,d,rfl,s4,λh=>absurd h hg,λ_=>⟨s3,s2,Sm,s6⟩⟩⟩
theorem uU (W:Tb)(x:Bool×Nat)(c:List Nat):rM W (W.cT x c)/\(W.cT x c).mv=W.mv:=by
 rcases x with⟨_|_,i⟩
 ·exact⟨⟨rfl,rfl,rfl,rfl,aaY,rfl⟩,rfl⟩
 exact⟨⟨rfl,rfl,rfl,rfl,rfl,aaY⟩,rfl⟩
theorem sL:∀{c:List Nat} {j:Nat} (h:j<c.length),(c[j]::c.eraseIdx j).Perm c
 |_::_,0,_=>aa1.refl _
 |a::l,j+1,h=>(aa1.swap a _ _).trans (aa1.cons a (sL (c:=l) (j:=j) (by simpa using h)))
def jv (W:Tb):Prop:=W.st=0/\16<W.size/\8*(W.n-1)<W.size
structure Hq (C:Cs)(W:Tb)(p:Nat)(A:By)(V:Tb):Prop where
 o:dq (C.wA A) V
 pm:(p::V.all).Perm W.all
 df:rD C.A A W.all 0 4
 n:V.n=W.n-1
 aI:V.aI=W.aI
 big:jv W->V.size=W.size/2/\V.st=2/\V.mv=0/\V.ob.length=W.size
 same:¬jv W->V.size=W.size/\V.st=W.st/\V.mv=W.mv/\V.ob.length=W.ob.length
theorem half{C:Cs}{W:Tb}(O:dq C W)(h:16<W.size):(∃m,m<=20/\W.size/2=2^m)/\16<=W.size/2/\W.size/2<=W.aI:=by
 obtain⟨m,hm,e⟩:=O.pw;have e0:=O.sz;have e1:=O.sm;have h3:(2:Nat)^4<2^m:=by rw[<-e,<-e0];exact h
 have h4:4<m:=(ajU (by decide)).1 h3;obtain⟨i,rfl⟩:∃i,m=i+1:=⟨m-1,by omega⟩;rw[af9]at e;have h5:(2:Nat)^4<=2^i:=afX (by decide) (by omega);exact⟨⟨i,by omega,by omega⟩,by omega,by omega⟩
theorem Sw (t b:Nat)(C:Cs)(K:Ok C)(W:Tb)(y:qw)(O:dq C W)(hy:y.ok=none->W.ob= [])(p:Nat)(hp:p∈W.all):
  aO aaO 130 [CM t,CO CJ (C.hd p)] (λ_=>True) (Cl b C::nq t b W y)
   (λv H=>v=CO CN 0/\∃A V y',H=Cl b (C.wA A)::nq t b V y'/\(y'.ok=none->V.ob= [])/\Hq C W p A V):=by
 have hn:=A8 K O;have h16:=O.Oq;have Zd:=O.sm;have ah9:W.aI<=1048576:=by
  obtain⟨m,hm,e⟩:=O.mp;exact(rH e hm).2
 have hx:=sg O (cx (aP C.A p));have hpc:=Hj O hp;have hlen:=uM O (W.bk (cx (aP C.A p)));generalize hxx:W.bk (cx (aP C.A p))=x at*;obtain⟨c,hc⟩:∃c,W.ch x=c:=⟨_,rfl⟩;rw[hc]at hpc hlen;obtain⟨j,hj,ej⟩:=aft hpc;obtain⟨P,d⟩:=Jp K O hx hc hj ej;obtain⟨r1,p1,p2⟩:=Tb.oJ hx;rw[hc]at p1;have pa:(p::(W.cT x (c.eraseIdx j)).all).Perm W.all:=by
  refine(aa1.cons p (p2 _)).trans (aa1.trans ?_ p1.symm);have:=aa1.append_right r1 (sL hj);rw[ej]at this;exact this
 obtain⟨⟨s1,s2,s3,s4,s5,s6⟩,Sm⟩:=uU W x (c.eraseIdx j);have hn1:1<=W.n:=by omega
 have pull:=DR t b C K W y O hy x hx c hc j hj p ej;generalize hV:W.cT x (c.eraseIdx j)=V at*;generalize hA:pJ C.A c j p=A at*;have Ox:y.ok=none->V.ob= []:=λh=>afm (by rw[s6,hy h];rfl);refine ag func130 rfl ntmps130 rfl ?_;intro F _;refine bR ?_;refine zl CF (P9 t b C K W y O hy p hp) .nil (λ_ le ao=>⟨ao.1,ao.2⟩) ?_;refine dm ?_;refine zl CF (pull) (.cons .here (.cons .here (.cons .here (.cons .here .nil)))) CI ?_;refine Hh (H':= [af t 154 (fk b V y),af y.nk 149 (aM (aD V.nb)),jH y.ok 149 (aM (aD V.ob)),Cl b (C.wA A)]) ?_;unfold fk;rw[s1];refine bR ?_;refine ay (t:=16) (v':=(CO CN (W.n-1:Nat))) rfl (by(congr 1;omega)) ?_;refine bE ?_;refine aw ?_;refine hJ 23 mix (.cons .here .nil) λF1 jf bZ aN=> ?_;obtain⟨q1,_⟩:=bZ;by_cases h0:W.st=0
 ·refine Ti Mv ?_
  refine bE ?_;refine zt 24 ?_;refine bR ?_;by_cases h1:16<W.size
  ·refine zt 31 ?_
   refine bM ?_;refine gd aN ?_;refine bA ?_;by_cases h2:8*(W.n-1)<W.size
   ·have hg:jv W:=⟨h0,h1,h2⟩
    obtain⟨ee,ed,cS⟩:=half O h1;refine eU ?_;refine bG ?_;refine Li (Qu (q:=2)) ?_;refine ay (t:=48) (v':=(CO CN (W.size/2:Nat))) rfl (by rw[s3]) ?_;refine Lp (oC CF rfl rfl (Ab t b (C.wA A) {V with n:=W.n-1} y P (W.size/2) (by omega)) (.cons .here (.cons .here .nil)) CI ?_);rintro v H' ⟨rfl,mk,rfl⟩;refine aX ?_;refine bE ?_;obtain⟨B1,B2⟩:=RH (C:=C.wA A) P (s2.trans h0) (s:=W.size/2) ee ed (by show W.size/2<=V.aI;rw[s4];exact cS);refine Rt [Cl b (C.wA A),af t 154 (fk b (Tb.ID {V with n:=W.n-1} (W.size/2)) ⟨mk,some y.nk⟩),af mk 149 (aM (aD (Tb.ID {V with n:=W.n-1} (W.size/2)).nb)),jH (some y.nk) 149 (aM (aD (Tb.ID {V with n:=W.n-1} (W.size/2)).ob))] results130 ?_;exact⟨rfl,A,_,⟨mk,some y.nk⟩,rfl,(λh=>by cases h),⟨B1,by rw[B2];exact pa,d,rfl,s4,λ_=>⟨rfl,rfl,rfl,by show V.nb.length=_;rw[s5,O.sz]⟩,λh=>absurd hg h⟩⟩
   have hg:¬jv W:=λh=>h2 h.2.2;refine cO ?_;refine bG ?_;refine Rt [Cl b (C.wA A),af t 154 (fk b {V with n:=W.n-1} y),af y.nk 149 (aM (aD V.nb)),jH y.ok 149 (aM (aD V.ob))] results130 ?_;exact⟨rfl,A,{V with n:=W.n-1},y,rfl,Ox,⟨P,pa,d,rfl,s4,λh=>absurd h hg,λ_=>⟨s3,s2,Sm,s6⟩⟩⟩
  have hg:¬jv W:=λh=>h1 h.2.1;refine zf 31 ?_;refine bM ?_;refine gd aN ?_;refine cA ?_;refine Rt [Cl b (C.wA A),af t 154 (fk b {V with n:=W.n-1} y),af y.nk 149 (aM (aD V.nb)),jH y.ok 149 (aM (aD V.ob))] results130 ?_;exact⟨rfl,A,{V with n:=W.n-1},y,rfl,Ox,⟨P,pa,d,rfl,s4,λh=>absurd h hg,λ_=>⟨s3,s2,Sm,s6⟩⟩⟩
 have hg:¬jv W:=λh=>h0 h.1;refine bG ?_;refine zf 24 ?_;refine ri ?_;refine gd aN ?_;refine cA ?_;refine Rt [Cl b (C.wA A),af t 154 (fk b {V with n:=W.n-1} y),af y.nk 149 (aM (aD V.nb)),jH y.ok 149 (aM (aD V.ob))] results130 ?_;exact⟨rfl,A,{V with n:=W.n-1},y,rfl,Ox,⟨P,pa,d,rfl,s4,λh=>absurd h hg,λ_=>⟨s3,s2,Sm,s6⟩⟩⟩
theorem WW (t b:Nat)(C:Cs)(K:Ok C)(W:Tb)(y:qw)(O:dq C W)(hy:y.ok=none->W.ob= [])(p q:Nat)(hp:p∈W.all)(L:Live C q)(I:gO C q)(hq:q∉W.all)(ur:aP C.A p=aP C.A q):
  aO aaO 190 [CM t,CO CJ (C.hd q)] (λh=>In (Cl b C) h/\gP (nq t b W y) h) []
   (λv H=>v= .bool false/\H= []):=by
 have lk:(aP C.A q).length=kl C.A q:=cD _ _ _;have hk:=I.k0;have hf:=I.fits;obtain⟨z1,z2,z3,_⟩:=L.toAt.bn K;have f1:=K.toFix.p1;have eg:=get_some O hp ur;have ne:C.hd p≠C.hd q:=λe=>hq (iV K (O.lv p hp).toAt L.toAt e▸hp);refine ag func190 rfl ntmps190 rfl ?_;rintro F ⟨hc,ht⟩;refine bG ?_;refine Lp (oC CF rfl rfl (qy t b C W y K q L I) .nil (λ_ le _=>⟨In.mono hc le,In.mono ht.1 le⟩) ?_);rintro v H' ⟨kb,rfl,rfl⟩;refine aX ?_;refine bE ?_;refine zl CF (nE t b C K W y O hy (some ⟨kb,0,none⟩) (kl C.A q) (kl C.A q) (aP C.A q) lk.symm (by omega)) .nil (λ_ le ao=>⟨In.mono hc le,bS ht le,bP ao.1⟩) ?_;rw[eg,cm];refine bW ?_;refine zt 20 ?_;refine bz ?_;refine zt 23 ?_ (e:=by rfl);refine bR ?_;refine Rt [] results190 ?_;exact⟨by rw[CG],rfl⟩
structure Hr (C:Cs)(W:Tb)(p q:Nat)(A:By)(V:Tb):Prop where
 o:dq (C.wA A) V
 pm:∃r,W.all.Perm (p::r)/\V.all.Perm (q::r)
 df:rD C.A A (q::W.all) 0 4
 s:rM W V
 mv:V.mv=W.mv
theorem DQ (t b:Nat)(C:Cs)(K:Ok C)(W:Tb)(y:qw)(O:dq C W)(hy:y.ok=none->W.ob= [])(p q:Nat)(hp:p∈W.all)(L:Live C q)(I:gO C q)(hq:q∉W.all)(ur:aP C.A p=aP C.A q):
  aO aaO 159 [CM t,CO CJ (C.hd p),CO CJ (C.hd q)] (λ_=>True) (Cl b C::nq t b W y)
   (λv H=>v=CO CN 0/\∃A V,H=Cl b (C.wA A)::nq t b V y/\(y.ok=none->V.ob= [])/\Hr C W p q A V):=by
 have lk:(aP C.A q).length=kl C.A q:=cD _ _ _;have hk:=I.k0;have hf:=I.fits;obtain⟨z1,z2,z3,_⟩:=L.toAt.bn K;have f1:=K.toFix.p1;have hx:=sg O (cx (aP C.A p));have hpc:=Hj O hp;have hlen:=uM O (W.bk (cx (aP C.A p)));generalize hxx:W.bk (cx (aP C.A p))=x at*;obtain⟨c,hc⟩:∃c,W.ch x=c:=⟨_,rfl⟩;rw[hc]at hpc hlen;obtain⟨j,hj,ej⟩:=aft hpc;obtain⟨P,d⟩:=Jp K O hx hc hj ej;obtain⟨r1,p1,p2⟩:=Tb.oJ hx;rw[hc]at p1;have pa:(p::(W.cT x (c.eraseIdx j)).all).Perm W.all:=by
  refine(aa1.cons p (p2 _)).trans (aa1.trans ?_ p1.symm);have:=aa1.append_right r1 (sL hj);rw[ej]at this;exact this
 have S:=uU W x (c.eraseIdx j);have pull:=DR t b C K W y O hy x hx c hc j hj p ej;have sub:∀s∈(W.cT x (c.eraseIdx j)).all,s∈W.all/\s≠p:=λs hs=>by
  refine⟨pa.mem_iff.1 (aaW _ hs),λe=> ?_⟩;have:=pa.nodup_iff.2 O.nd;exact(aa3.1 this).1 (e▸hs)
 generalize hV:W.cT x (c.eraseIdx j)=V at*;generalize hA:pJ C.A c j p=A at*;obtain⟨⟨s1,s2,s3,s4,s5,s6⟩,Sm⟩:=S;have Ox:y.ok=none->V.ob= []:=λh=>afm (by rw[s6,hy h];rfl);have kp:=λs (h:s∈W.all)=>yc K d (λu hu=>(O.lv u hu).toAt) (by omega) (O.lv s h).toAt (O.it s h);have kq:=yc K d (λu hu=>(O.lv u hu).toAt) (by omega) L.toAt I;have K2:=K.wA A;have L2:=L.wA A;have I2:=kq.it I;have hkd2:∀s∈Tb.all {V with n:=W.n-1},aP (C.wA A).A s≠aP (C.wA A).A q:=λs hs e=>by
  obtain⟨g1,g2⟩:=sub s hs;change aP A s=aP A q at e;rw[(kp s g1).key,kq.key,<-ur]at e;exact g2 (O.kd s g1 p hp e)
 have P2:=Cb K2 P L2 I2 (λh=>hq (sub q h).1) hkd2 (x:=V.bk (cx (aP A q))) rfl;have Zc:FM V (V.bk (cx (aP A q))):=sg P (cx (aP A q));have kqe:aP A q=aP C.A q:=kq.key;have lO2:di (C.wA A) (V.ch (V.bk (cx (aP A q)))).head?:=λu hu=>P.lv u (Tb.gU (T:=V) (afB hu));obtain⟨r3,p3,p4⟩:=Tb.oJ Zc;generalize hxx2:V.bk (cx (aP A q))=x2 at*;refine ag func159 rfl ntmps159 rfl ?_;intro F _;refine bG ?_;refine Lp (oC CF rfl rfl (qy t b C W y K q L I) .nil (λ_ le ao=>⟨ao.1,ao.2.1⟩) ?_);rintro v H' ⟨kb,rfl,rfl⟩;refine aX ?_;refine bR ?_;refine zl CF (P9 t b C K W y O hy p hp) .nil (λ_ le ao=>⟨ao.2.1,ao.2.2⟩) ?_;refine bA ?_;refine zf 16 ?_ (e:=by rfl);refine bE ?_;refine zf 21 ?_;refine bA ?_;refine zl CF (WW t b C K W y O hy p q hp L I hq ur) .nil (λ_ le ao=>⟨ao.2.1,ao.2.2⟩) ?_;refine bm ?_;refine Hh (H':= [Cl b C,af t 154 (fk b W y),af y.nk 149 (aM (aD W.nb)),jH y.ok 149 (aM (aD W.ob)),own (some ⟨kb,0,none⟩) (kl C.A q) 5 1 (ax (aP C.A q))]) ?_;unfold fk;refine bR ?_;refine zl CF (Es b C K p (O.lv p hp) (O.it p hp) (some ⟨kb,0,none⟩) (kl C.A q) (kl C.A q) (aP C.A q) lk.symm (by omega)) .nil (λ_ le ao=>⟨ao.1,bP ao.2.2.2.2.1⟩) ?_;rw[decide_eq_true ur];refine bM ?_;refine zl CF (pull) (.cons .here (.cons .here (.cons .here (.cons .here .nil)))) CI ?_;refine bE ?_;refine zl CF (mw t b (C.wA A) V y (W.n-1) P Ox (some ⟨kb,0,none⟩) (kl C.A q) (kl C.A q) (aP C.A q) lk.symm (by omega)) .nil (λ_ le ao=>⟨ao.2.1,bP ao.2.2.2.2.1⟩) ?_;rw[show V.bk (cx (aP C.A q))=x2 by rw[<-kqe];exact hxx2];refine av ?_;refine zl CF (xO t b (C.wA A) K2 V y Ox x2 Zc q L2 I2.k0 lO2) (.cons .here (.cons .here (.cons .here (.cons .here .nil)))) CI ?_;refine bE ?_;have hn1:1<=W.n:=by omega
 have e2:({({V with n:=W.n-1}:Tb).cT x2 (q::V.ch x2)with n:=W.n-1+1}:Tb)=V.cT x2 (q::V.ch x2):=by
  rcases x2 with⟨_|_,i⟩<;>(simp[Tb.cT];omega)
 change dq _ {({V with n:=W.n-1}:Tb).cT x2 (q::V.ch x2)with n:=W.n-1+1}at P2;rw[e2]at P2;have S2:=uU V x2 (q::V.ch x2);have pz:(V.cT x2 (q::V.ch x2)).all.Perm (q::V.all):=(p4 _).trans (aa1.cons q p3.symm);generalize hV2:V.cT x2 (q::V.ch x2)=V2 at*;obtain⟨⟨t1,t2,t3,t4,t5,t6⟩,Tm⟩:=S2;refine Rt [Cl b ((C.wA A).wA (wr A q 4 (nO (V.ch x2).head?))),af t 154 (fk b V2 y),af y.nk 149 (aM (aD V2.nb)),jH y.ok 149 (aM (aD V2.ob))] results159 ?_;refine⟨rfl,wr A q 4 (nO (V.ch x2).head?),V2,rfl,λh=>afm (by rw[t6,Ox h];rfl),P2,⟨V.all,pa.symm,pz⟩, ?_,⟨t1.trans s1,t2.trans s2,t3.trans s3,t4.trans s4,t5.trans s5,t6.trans s6⟩,Tm.trans Sm⟩;exact(d.mono λu hu=>aaW _ hu).trans ((xv A (S:= [q]) (q:=q) (a:=0) (by simp)).mono λu hu=>by rw[afq]at hu;rw[hu];exact List.mem_cons_self)
end Go.Proofs.YtcbcjolpdljbiaaGreat
