/- Part Pg of the proof. -/
import Derived.Test.YtdolmecackmjdaaGreatDoorPd
import Derived.Test.YtdolmecackmjdaaGreatDoorPf
set_option maxRecDepth 100000
open List renaming mem_append → adw, mem_flatten → ag9, getElem_of_mem → acR, getD_eq_getElem?_getD → acy, getElem?_eq_getElem → acx, getElem_mem → acJ, getElem?_eq_none → acK, Sublist → aiv, find?_eq_none → agZ, getElem?_map → acL, head?_drop → ag4, length_erase_of_mem → ahF, mem_of_mem_drop → ahV, mem_of_mem_head? → ada, map_set → adG, length_set → acE, getElem_map → agN, getElem_inj → aho, append_assoc → adr, Perm → acN, perm_append_comm → agI, flatten_cons → ahG, mem_append_right → agK, nodup_append → adl, eq_nil_of_length_eq_zero → acW, length_append → acI, nodup_cons → acP, mem_cons → acT, length_eraseIdx_of_lt → ahy, getElem?_eraseIdx_of_ge → ac3, mem_singleton → acX, mem_cons_of_mem → acC, eq_nil_iff_forall_not_mem → ahk, replicate → acA, getElem?_replicate → ac8, length_replicate → adp, map_replicate → adk
open Nat renaming pow_le_pow_right → ady, le_trans → agC, mod_lt → agX, zero_le → acS, pow_lt_pow_iff_right → ahK, pow_succ → adK
open Decidable renaming byContradiction → acH
open Go.Proofs.Tryz renaming prog → acw
open Go.Proofs.Tryz
namespace Go.Proofs.YtdolmecackmjdaaGreatDoor
open Go Go.dL Go.Proofs.YtdolmecackmjdaaGreatDoor.Cs
theorem Cs.zZ.wA{C:Cs}{c p:Nat}(h:zZ C c p)(A:By):zZ (C.wA A) c p:=⟨⟨h.i,h.own,h.al,h.k⟩,h.cl,h.tk,h.lv⟩
theorem Cs.zZ.ofA{C:Cs}{c p:Nat}{A:By}(h:zZ (C.wA A) c p):zZ C c p:=⟨⟨h.i,h.own,h.al,h.k⟩,h.cl,h.tk,h.lv⟩
theorem Cs.Ok.wA{C:Cs}(K:Ok C)(A:By):Ok (C.wA A):=
 ⟨⟨K.p0,K.p1,K.p8,K.n0,K.n1,K.l0,K.l1,K.s0,K.pl,K.rl⟩,λx h=>⟨(K.pg x h).cl,(K.pg x h).gl,(K.pg x h).tl,(K.pg x h).Xy,(K.pg x h).Ua,(K.pg x h).nd,(K.pg x h).held,(K.pg x h).no⟩,
  λc p h=>(K.fr c p h).wA A,K.fn,λc p h=>K.fa c p h.ofA,K.ft,K.fp,K.fs,K.sp⟩
theorem Cs.At.wA{C:Cs}{p:Nat}(h:At C p)(A:By):At (C.wA A) p:=⟨h.i,h.own,h.al,h.k⟩
theorem Cs.Live.wA{C:Cs}{p:Nat}(h:Live C p)(A:By):Live (C.wA A) p:=⟨h.toAt.wA A,h.tk⟩
theorem cS (C:Cs)(A:By):(C.wA A).A=A:=rfl
theorem far{C:Cs}(K:Ok C){p q:Nat}(L:At C p)(M:At C q){a n o w:Nat}(ha:a+n≤C.sz (C.cl q))(ho:o+w≤C.sz (C.cl p))(h:p=q→a+n≤o∨o+w≤a):p+o+w≤q+a∨q+a+n≤p+o:=by
 by_cases e:p=q
 ·subst e
  rcases h rfl with h|h<;>omega
 ·rcases apart K L M e with h|h<;>omega
theorem kJ{C:Cs}(K:Ok C){p q:Nat}(L:At C p)(M:At C q){a n v o w:Nat}(ha:a+n≤C.sz (C.cl q))(ho:o+w≤C.sz (C.cl p))(h:p=q→a+n≤o∨o+w≤a):rd (wr C.A (q+a) n v) (p+o) w=rd C.A (p+o) w:=
 aP _ _ _ _ _ _ (far K L M ha ho h)
theorem HC{C:Cs}(K:Ok C){p q:Nat}(L:At C p)(M:At C q){a n v o w:Nat}(ha:a+n≤C.sz (C.cl q))(ho:o+w≤C.sz (C.cl p))(h:p=q→a+n≤o∨o+w≤a):jt (wr C.A (q+a) n v) (p+o) w=jt C.A (p+o) w:=
 ri _ _ _ _ _ _ (far K L M ha ho h)
structure Kept (C:Cs)(A:By)(p:Nat):Prop where
 kl:kl A p=kl C.A p
 vl:vl A p=vl C.A p
 key:aL A p=aL C.A p
 it:ic C p→ic (C.wA A) p
theorem vp{C:Cs}(K:Ok C){p q:Nat}(L:At C p)(M:At C q)(I:ic C p){a n v:Nat}(ha:a+n≤12):Kept C (wr C.A (q+a) n v) p:=by
 have n1:=(L.bo K).2.1;have m1:=(M.bo K).2.1;have hf:=I.fits;have e1:kl (wr C.A (q+a) n v) p=kl C.A p:=kJ K L M (by omega) (by omega) (λ_=>by omega);have e2:vl (wr C.A (q+a) n v) p=vl C.A p:=kJ K L M (by omega) (by omega) (λ_=>by omega);refine⟨e1,e2, ?_,λJ=>⟨?_, ?_, ?_, ?_⟩⟩
 ·unfold aL
  rw[e1];exact HC K L M (by omega) (by omega) (λ_=>by omega)
 ·rw[cS,e1];exact J.k0
 ·rw[cS,e1,e2];exact J.fits
 ·rw[cS,kJ K L M (by omega) (by omega) (λ_=>by omega)];exact J.exp
 rw[cS,kJ K L M (by omega) (by omega) (λ_=>by omega)];exact J.tch
def Ez (A:By):List Nat→Prop
 | []=>True
 |p::l=>rd A p 4=nO l.head?∧Ez A l
structure Tb where
 aF:Nat
 n:Nat
 size:Nat
 nb:List (List Nat)
 ob:List (List Nat)
 mv:Nat
 st:Nat
namespace Tb
def bk (T:Tb)(h:Nat):Bool×Nat:=if 0<T.ob.length∧T.mv≤h % T.ob.length then(true,h % T.ob.length)else(false,h % T.nb.length)
def ch (T:Tb)(x:Bool×Nat):List Nat:=if x.1 then T.ob.getD x.2 []else T.nb.getD x.2 []
def cT (T:Tb)(x:Bool×Nat)(c:List Nat):Tb:=if x.1 then{T with ob:=T.ob.set x.2 c}else{T with nb:=T.nb.set x.2 c}
def all (T:Tb):List Nat:=T.nb.flatten++T.ob.flatten
end Tb
def aee (z:Int)(c:UInt8):Int:=IntKind.u64.wrap (IntKind.u64.wrap ((BitVec.ofInt 64 z^^^BitVec.ofInt 64 (c.toNat:Int)).toNat:Int)*1099511628211)
def Ur (l:List UInt8):Int:=l.foldl aee 14695981039346656037
def cx (l:List UInt8):Nat:=(Ur l).toNat
theorem C9 (l:List UInt8)(c:UInt8):Ur (l++ [c])=aee (Ur l) c:=by unfold Ur;rw[List.foldl_append];rfl
theorem Jl (z:Int):0≤IntKind.u64.wrap z∧IntKind.u64.wrap z<18446744073709551616:=by
 rw[IntKind.wrap_u64];omega
theorem Kb (l:List UInt8):0≤Ur l∧Ur l<18446744073709551616:=by
 rcases List.eq_nil_or_concat l with rfl|⟨m,c,rfl⟩
 ·decide
 rw[List.concat_eq_append,C9];exact Jl _
theorem Ir (l:List UInt8):Ur l=(cx l:Int)∧cx l<18446744073709551616:=by
 have:=Kb l;unfold cx;omega
structure dq (C:Cs)(T:Tb):Prop where
 pw:∃m,m≤20∧T.nb.length=2^m
 po:T.ob= []∨∃m,m≤20∧T.ob.length=2^m
 st:(T.st=0∧T.ob= [])∨(T.st=2∧0<T.ob.length∧T.mv≤T.ob.length)
 mp:∃m,m≤20∧T.aF=2^m
 sz:T.size=T.nb.length
 ML:16≤T.size
 sm:T.size≤T.aF
 mv:T.mv≤1048576
 n:T.n=T.all.length
 nd:T.all.Nodup
 li:∀x,Ez C.A (T.ch x)
 lv:∀p∈T.all,Live C p
 it:∀p∈T.all,ic C p
 bu:∀x p,p∈T.ch x→T.bk (cx (aL C.A p))=x
 kd:∀p∈T.all,∀q∈T.all,aL C.A p=aL C.A q→p=q
theorem Tb.HX{T:Tb}{p:Nat}:p∈T.all↔∃x,p∈T.ch x:=by
 unfold all ch;rw[adw,ag9,ag9]
 constructor
 ·rintro(⟨l,h1,h2⟩|⟨l,h1,h2⟩)
  ·obtain⟨i,hi,rfl⟩:=acR h1
   exact⟨(false,i),by simpa[acy,hi]using h2⟩
  obtain⟨i,hi,rfl⟩:=acR h1;exact⟨(true,i),by simpa[acy,hi]using h2⟩
 rintro⟨⟨f,i⟩,h⟩;rcases f with _|_
 ·left
  simp only[Bool.false_eq_true,if_false,acy]at h;by_cases hi:i<T.nb.length
  ·rw[acx hi]at h
   exact⟨_,acJ hi,h⟩
  rw[acK (by omega)]at h;cases h
 right
 simp only[if_true,acy]at h;by_cases hi:i<T.ob.length
 ·rw[acx hi]at h
  exact⟨_,acJ hi,h⟩
 rw[acK (by omega)]at h;cases h
theorem Tb.gk{T:Tb}{x:Bool×Nat}{p:Nat}(h:p∈T.ch x):p∈T.all:=HX.2 ⟨x,h⟩
theorem Tb.nM (T:Tb)(x:Bool×Nat):aiv (T.ch x) T.all:=by
 unfold ch all;rcases x with⟨f,i⟩
 have g:∀(L:List (List Nat)),aiv (L.getD i []) L.flatten:=λL=>by
  by_cases hi:i<L.length
  ·rw[acy,acx hi]
   exact List.sublist_flatten_of_mem (acJ hi)
  rw[acy,acK (by omega)];exact List.nil_sublist _
 rcases f with _|_
 ·exact(g T.nb).trans (List.sublist_append_left _ _)
 exact(g T.ob).trans (List.sublist_append_right _ _)
def Tb.get (T:Tb)(C:Cs)(k:List UInt8):Option Nat:=T.all.find? λp=>decide (aL C.A p=k)
theorem get_some{C:Cs}{T:Tb}(O:dq C T){p:Nat}{k:List UInt8}(h:p∈T.all)(hk:aL C.A p=k):T.get C k=some p:=by
 unfold Tb.get;cases hf:T.all.find? (λp=>decide (aL C.A p=k))with
 |none=>exact absurd hk (by simpa using agZ.1 hf p h)
 |some q=>
  have h1:=List.mem_of_find?_eq_some hf;have h2:=List.find?_some hf;rw[O.kd p h q h1 (by rw[hk,of_decide_eq_true h2])]
theorem get_none{C:Cs}{T:Tb}{k:List UInt8}(h:∀p∈T.all,aL C.A p≠k):T.get C k=none:=by
 unfold Tb.get;rw[agZ];intro p hp
 simpa using h p hp
theorem Fy{C:Cs}{T:Tb}(O:dq C T){p:Nat}(h:p∈T.all):p∈T.ch (T.bk (cx (aL C.A p))):=by
 obtain⟨x,hx⟩:=Tb.HX.1 h;rw[O.bu x p hx];exact hx
theorem tq{C:Cs}{T:Tb}(O:dq C T)(x:Bool×Nat):(T.ch x).length≤T.n:=by
 rw[O.n];exact(T.nM x).length_le
theorem te{A:By}:∀{l:List Nat} {k:Nat} (_:Ez A l) (hk:k<l.length),rd A l[k] 4=nO (l.drop (k+1)).head?
 |_::l,0,h,_=>h.1
 |_::l,k+1,h,hk=>te (l:=l) h.2 (by simpa using hk)
open Go Go.dL Go.Proofs.YtdolmecackmjdaaGreatDoor.Cs
theorem Jp{l:List UInt8}{k:Nat}(h:k<l.length):l.take (k+1)=l.take k++ [l[k]]:=by
 rw[List.take_add_one,acx h];rfl
theorem ZE (a:Option Addr)(m c:Nat)(l:List UInt8)(hm:m=l.length)(hl:l.length<281474976710656):
  aH acw 128 [.slice a m c] (λh=>dU h a (ai l)) [] (λv H=>v= .int .u64 (cx l:Int)∧H= []):=by
 refine ae func128 rfl ntmps128 rfl ?_;intro F r;refine gR ?_;refine Lo (ι:=Nat) [9,10,11,5,12,13,14,15,16,3,17,8] (λk=>k≤m) (λk=> [(3, .int .u64 (Ur (l.take k))),(8, .int .i64 (k:Int))]) (λk=> []) (λk=>m-k) (0) (by simp) ?_;rintro k hI;refine aZ ?_;refine au ?_;refine av rfl ?_ ?_
 ·intro hk
  replace hk:=aD hk;have bX:k<l.length:=by omega
  have kb:(ai l)[k]?=some (.int .u8 ((l[k].toNat:Nat):Int)):=by unfold ai;rw[acL,acx bX];rfl
  have hc:=l[k].toNat_lt;refine bc ?_;refine Li (Ix T.eC) ?_;refine qa ?_;refine az ?_;refine ao (t:=3) (v':=(.int .u64 (Ur (l.take (k+1))))) rfl (by(rw[Jp bX,C9];rfl)) ?_;refine Ro (k+1) (by omega) (by omega)
 intro hk;replace hk:=aD hk;obtain rfl:k=m:=by omega
 rw[List.take_of_length_le (by omega),(Ir l).1];refine bw ?_;refine Rt [] results128 ?_;exact⟨rfl,rfl⟩
structure p9 where
 nk:Nat
 ok:Option Nat
def aA (l:List (List Nat)):List Nat:=l.map λc=>nO c.head?
theorem mV (l:List (List Nat)):(aA l).length=l.length:=by simp[aA]
def fA (b:Nat)(T:Tb)(y:p9):List Value:= [.pointer (some ⟨b,0,none⟩), .int .i64 (T.aF:Int), .int .i64 (T.n:Int), .int .i64 (T.size:Int), .slice (some ⟨y.nk,0,none⟩) T.nb.length T.nb.length,Tz y.ok T.ob.length, .int .i64 (T.mv:Int), .int .i64 (T.st:Int)]
def me (t b:Nat)(T:Tb)(y:p9):List aa:= [ag t 145 (fA b T y),ag y.nk 163 (aJ (aA T.nb)),jV y.ok 163 (aJ (aA T.ob))]
abbrev TL (t b:Nat)(T:Tb)(y:p9):aa:=aN (me t b T y)
theorem kV (t b:Nat)(C:Cs)(W:Tb)(y:p9)(K:Ok C)(o:Option Nat)(ho:dm C o):
  aH acw 83 [.pointer (some ⟨t,0,none⟩), .int .u32 (nO o:Int)] (λh=>In (Cl b C) h∧In (ag t 145 (fA b W y)) h) []
   (λv H=>v= .int .u64 (hO C o:Int)∧H= []):=by
 unfold fA;refine ae func83 rfl ntmps83 rfl ?_;rintro F ⟨hc,ht⟩;rcases o with _|q
 ·refine gU ?_
  refine gR ?_;refine Rt [] results83 ?_;exact⟨rfl,rfl⟩
 have M:=ho q rfl;obtain⟨m1,m2,m3,m4,m5,m6⟩:=cB K M.toAt;rw[pH];refine cI ?_;refine cu ?_;refine bK ?_;refine ao (t:=17) (v':=(.int .i64 (q:Int))) rfl (by rw[show(8:Int)*(((q/8+1:Nat):Int)-1)=(q:Int) by omega]) ?_;refine zl T.Py (XP b C K q M) .nil (λ_ le _=>In.mono hc le) ?_;refine bK ?_;refine Rt [] results83 ?_;exact⟨rfl,rfl⟩
theorem jq (t b:Nat)(C:Cs)(W:Tb)(y:p9)(K:Ok C)(p:Nat)(o:Option Nat)(L:Live C p)(hk:kl C.A p≠0)(ho:dm C o)(hn:rd C.A p 4=nO o):
  aH acw 86 [.pointer (some ⟨t,0,none⟩), .int .u64 (C.hd p:Int)] (λh=>In (Cl b C) h∧In (ag t 145 (fA b W y)) h) []
   (λv H=>v= .int .u64 (hO C o:Int)∧H= []):=by
 unfold fA;refine ae func86 rfl ntmps86 rfl ?_;rintro F ⟨hc,ht⟩;refine cN ?_;refine zl T.AK (sj b C K p 0 o L hk (by omega) ho hn) .nil (λ_ le _=>In.mono hc le) ?_;refine bw ?_;refine Rt [] results86 ?_;exact⟨rfl,rfl⟩
theorem pD (t b:Nat)(C:Cs)(W:Tb)(y:p9)(K:Ok C)(p:Nat)(L:Live C p)(I:ic C p):
  aH acw 161 [.pointer (some ⟨t,0,none⟩), .int .u64 (C.hd p:Int)] (λh=>In (Cl b C) h∧In (ag t 145 (fA b W y)) h) []
   (λv H=>∃kb,v= .slice (some ⟨kb,0,none⟩) (kl C.A p) (kl C.A p)∧H= [own (some ⟨kb,0,none⟩) (kl C.A p) 5 1 (ai (aL C.A p))]):=by
 unfold fA;refine ae func161 rfl ntmps161 rfl ?_;rintro F ⟨hc,ht⟩;refine cN ?_;refine Lp (oC T.G9 rfl rfl (xf b C K p L I) .nil (λ_ le _=>In.mono hc le) ?_);rintro v H' ⟨kb,vb,rfl,rfl⟩;refine bd ?_;unfold D8;refine aZ ?_;refine Lp (oA T.bW λb1=> ?_);refine cN ?_;refine Rt [own (some ⟨kb,0,none⟩) (kl C.A p) 5 1 (ai (aL C.A p))] results161 ?_;exact⟨kb,rfl,rfl⟩
def bkA (y:p9)(x:Bool×Nat):Addr:=⟨if x.1 then y.ok.getD 0 else y.nk,x.2,none⟩
theorem vH{a L m:Nat}(hL:L=2^m)(hm:m≤20)(ha:a<18446744073709551616):gG .and .u64 (a:Int) ((L-1:Nat):Int)=some ((a % L:Nat):Int):=by
 subst hL;exact x9 m (by omega) ha
theorem qm{L m:Nat}(hL:L=2^m)(hm:m≤20):1≤L∧L≤1048576:=by
 subst hL;exact⟨Nat.one_le_two_pow,by
  have:=ady (n:=2) (by decide) hm;exact agC this (by decide)⟩
theorem kW (t b:Nat)(C:Cs)(W:Tb)(y:p9)(k:Nat)(O:dq C {W with n:=k})(hy:y.ok=none→W.ob= [])(a:Option Addr)(m c:Nat)(l:List UInt8)(hm:m=l.length)(hl:l.length<281474976710656):
  aH acw 84 [.pointer (some ⟨t,0,none⟩), .slice a m c] (λh=>In (ag t 145 (fA b W y)) h∧dU h a (ai l)) []
   (λv H=>v= .pointer (some (bkA y (W.bk (cx l))))∧H= []):=by
 obtain⟨i,hi,ei⟩:=O.pw;change W.nb.length=2^i at ei;have po:W.ob= []∨∃m,m≤20∧W.ob.length=2^m:=O.po;obtain⟨p1,p2⟩:=qm ei hi;obtain⟨f1,f2⟩:=Ir l;have hmn:=agX (cx l) (show 0<W.nb.length by omega);unfold fA bkA;rcases y with⟨nk,ok⟩
 dsimp only at hy⊢;refine ae func84 rfl ntmps84 rfl ?_;rintro F ⟨ht,hr⟩;refine bc ?_;refine zl T.abC (ZE a m c l hm hl) .nil (λ_ le _=>hr.mono le) ?_;rcases ok with _|ok
 ·refine Li As ?_
  refine kx ?_;refine au ?_;refine gK 15 T.mix .nil λF1 iT cj aI=> ?_;have ry:=In.mono ht iT;refine bK ?_;refine ao (t:=45) (v':=(.int .i64 ((W.nb.length-1:Nat):Int))) rfl (by(congr 1;omega)) ?_;refine Ti (Cv T.M5 T.UA) ?_;refine Ti ((Im (hz:=vH ei hi f2))) ?_;refine a8 ?_;refine gd aI ?_;refine a8 ?_;refine Rt [] results84 ?_;rw[show W.bk (cx l)=(false,cx l % W.nb.length)from if_neg (by rw[hy rfl];simp)];exact⟨rfl,rfl⟩
 have hol:W.ob.length≤1048576:=by
  rcases po with h|⟨j,hj,ej⟩
  ·rw[h];decide
  exact(qm ej hj).2
 refine nj ?_;refine av rfl ?_ ?_
 ·intro hlen
  replace hlen:=aD hlen;obtain⟨j,hj,ej⟩:∃m,m≤20∧W.ob.length=2^m:=by
   rcases po with h|h
   ·rw[h]at hlen;exact absurd hlen (by decide)
   exact h
  refine aR ?_;refine ao (t:=19) (v':=(.int .i64 ((W.ob.length-1:Nat):Int))) rfl (by(congr 1;omega)) ?_;refine ay ?_;refine Li ((Im (hz:=vH ej hj f2))) ?_;have hmod:=agX (cx l) (show 0<W.ob.length by omega);refine bK ?_;refine av rfl ?_ ?_
  ·intro GN
   replace GN:=aD GN;refine bK ?_;refine Rt [] results84 ?_;rw[show W.bk (cx l)=(true,cx l % W.ob.length)from if_pos ⟨by omega,by omega⟩];exact⟨rfl,rfl⟩
  intro GN;replace GN:=aD GN;refine a8 ?_;refine au ?_;refine gK 15 T.mix .nil λF2 yi ez dX=> ?_;have ry:=In.mono ht yi;refine bK ?_;refine ao (t:=45) (v':=(.int .i64 ((W.nb.length-1:Nat):Int))) rfl (by(congr 1;omega)) ?_;refine Ti (Cv T.M5 T.UA) ?_;refine Ti ((Im (hz:=vH ei hi f2))) ?_;refine a8 ?_;refine gd dX ?_;refine a8 ?_;refine Rt [] results84 ?_;rw[show W.bk (cx l)=(false,cx l % W.nb.length)from if_neg (by omega)];exact⟨rfl,rfl⟩
 intro hlen;replace hlen:=aD hlen;refine a8 ?_;refine au ?_;refine gK 15 T.mix .nil λF3 MN qH fM=> ?_;have ry:=In.mono ht MN;refine bK ?_;refine ao (t:=45) (v':=(.int .i64 ((W.nb.length-1:Nat):Int))) rfl (by(congr 1;omega)) ?_;refine Ti (Cv T.M5 T.UA) ?_;refine Ti ((Im (hz:=vH ei hi f2))) ?_;refine a8 ?_;refine gd fM ?_;refine a8 ?_;refine Rt [] results84 ?_;rw[show W.bk (cx l)=(false,cx l % W.nb.length)from if_neg (by omega)];exact⟨rfl,rfl⟩
theorem YC{C:Cs}{W:Tb}(O:dq C W)(h:Nat):(∃i,W.bk h=(false,i)∧i<W.nb.length)∨(∃i,W.bk h=(true,i)∧i<W.ob.length):=by
 obtain⟨m,hm,e⟩:=O.pw;obtain⟨p1,_⟩:=qm e hm;unfold Tb.bk
 split
 ·next g=>exact .inr ⟨_,rfl,agX _ g.1⟩
 exact .inl ⟨_,rfl,agX _ (by omega)⟩
theorem o9{l:List (List Nat)}{i:Nat}(h:i<l.length):(aJ (aA l))[i]?=some (.int .u32 (nO (l.getD i []).head?:Int)):=
 rM (by unfold aA;rw[acL,acy,acx h];rfl)
theorem vt{b i:Nat}{e:TypeId}{cs:List Value}{h:Hp}{v:Value}(o:In (ag b e cs) h)(hv:cs[i]?=some v):dY h ⟨b,i,none⟩=some v:=by
 obtain⟨k,q,l⟩:=o;exact kP ((pF (i:=0) q).mono l) hv
theorem J9{t b:Nat}{C:Cs}{W:Tb}{y:p9}{hp:Hp}(O:dq C W)(hy:y.ok=none→W.ob= [])(aw:hJ (me t b W y) hp)(h:Nat):dY hp (bkA y (W.bk h))=some (.int .u32 (nO (W.ch (W.bk h)).head?:Int)):=by
 obtain⟨_,h1,h2,_⟩:=aw;rcases YC O h with⟨i,e,hi⟩|⟨i,e,hi⟩
 ·rw[e]
  exact vt h1 (o9 hi)
 rw[e];rcases y with⟨nk,ok⟩
 rcases ok with _|ok
 ·rw[hy rfl]at hi;cases hi
 exact vt h2 (o9 hi)
theorem vz{c:List Nat}{k:Nat}(h:k<c.length):(c.drop k).head?=some c[k]:=by
 rw[ag4,acx h]
theorem WY{c:List Nat}{k:Nat}(h:¬k<c.length):(c.drop k).head?=none:=by
 rw[ag4,acK (by omega)]
theorem mS:∀(N:Nat) (l:List Nat),l.Nodup→(∀p∈l,p<N)→l.length≤N
 |0,l,_,h=>by
  cases l with
  |nil=>simp
  |cons a l=>exact absurd (h a (by simp)) (by omega)
 |N+1,l,hn,h=>by
  have:=mS N (l.erase N) (hn.erase N) λp hp=>by
   have h1:=h p (List.mem_of_mem_erase hp);have h2:p≠N:=λe=>by
    rw[e]at hp;exact(List.Nodup.mem_erase_iff hn).1 hp|>.1 rfl
   omega
  have:=ahF (a:=N) (l:=l);by_cases hm:N∈l
  ·have:=ahF hm
   omega
  rw[List.erase_of_not_mem hm]at*;omega
theorem Aa{C:Cs}(K:Ok C){W:Tb}(O:dq C W):W.n≤1073741824:=by
 rw[O.n];refine mS _ _ O.nd λp hp=> ?_;obtain⟨n1,n2,_,_,_,_,_,n8⟩:=(O.lv p hp).toAt.bo K;have:=gh K.toFix;omega
theorem mE (t b:Nat)(C:Cs)(K:Ok C)(W:Tb)(y:p9)(O:dq C W)(hy:y.ok=none→W.ob= [])(a:Option Addr)(m c:Nat)(l:List UInt8)(hm:m=l.length)(hl:l.length<281474976710656):
  aH acw 39 [.pointer (some ⟨t,0,none⟩), .slice a m c] (λh=>In (Cl b C) h∧hJ (me t b W y) h∧dU h a (ai l)) []
   (λv H=>v= .tuple #[.int .u64 (hO C (W.get C l):Int), .bool (W.get C l).isSome]∧H= []):=by
 have li:=O.li (W.bk (cx l));have cl:=tq O (W.bk (cx l));have hn:=Aa K O;have sub:∀p∈W.ch (W.bk (cx l)),p∈W.all:=λp hp=>Tb.gk hp;have key:∀p∈W.all,aL C.A p=l→p∈W.ch (W.bk (cx l)):=λp hp e=>by
  have:=Fy O hp
  rwa[e]at this
 have hc:=λ{hp:Hp} (aw:hJ (me t b W y) hp)=>J9 O hy aw (cx l);generalize hcc:W.ch (W.bk (cx l))=cc at*;have Ub:∀k,dm C (cc.drop k).head?:=λk q hq=>O.lv q (sub q (ahV (ada hq)));refine ae func39 rfl ntmps39 rfl ?_;rintro F ⟨fb,aw,hr⟩;have ht:=aw.1;have kc:=hc aw;unfold fA at ht;refine cI ?_;refine zl T.Ch (kW t b C W y W.n O hy a m c l hm hl) .nil (λ_ le _=>⟨In.mono aw.1 le,hr.mono le⟩) ?_;refine a8 ?_;refine zl T.Ci (kV t b C W y K cc.head? (Ub 0)) .nil (λ_ le _=>⟨In.mono fb le,In.mono aw.1 le⟩) ?_;refine bH ?_;refine Lo (ι:=Nat) [15,16,17,18,19,20,21,22,23,24,27,28,29,30,31,32,33,34,4,5,35,36,37,6,25,26,7] (λk=>k≤cc.length∧∀i (h:i<cc.length),i<k→aL C.A cc[i]≠l) (λk=> [(6, .int .u64 (hO C (cc.drop k).head?:Int)),(7, .int .i64 (k:Int))]) (λk=> []) (λk=>cc.length-k) (0) ⟨acS _,λi _ h=>absurd h (Nat.not_lt_zero _)⟩ ?_;rintro k hI;by_cases hk:k<cc.length
 ·have hp:=sub _ (acJ hk)
  have L:=O.lv _ hp;have I:=O.it _ hp;obtain⟨m1,m2,m3,m4,m5,m6⟩:=cB K L.toAt;rw[vz hk,cQ];refine bc ?_;refine zt 17 ?_ (e:=by exact by rw[decide_eq_false (by omega)];rfl);refine cI ?_;refine dz ?_;refine dQ ?_;refine zl T.Yg (C7 b C K cc[k] L I a m c l hm hl) .nil (λ_ le _=>⟨In.mono fb le,hr.mono le⟩) ?_;refine ay ?_;refine av rfl ?_ ?_
  ·intro hs
   replace hs:=aD hs;refine dQ ?_;refine iH [] results39 ?_;rw[get_some O hp (hs)];exact⟨rfl,rfl⟩
  intro hs;replace hs:=aD hs;refine bc ?_;refine zl T.yQ (jq t b C W y K cc[k] (cc.drop (k+1)).head? L I.k0 (Ub (k+1)) (te li hk)) .nil (λ_ le _=>⟨In.mono fb le,In.mono aw.1 le⟩) ?_;refine cI ?_;refine az ?_;refine Ro (k+1) (⟨hk,λi h hi=>by rcases Nat.lt_succ_iff_lt_or_eq.1 hi with e|rfl;exact hI.2 i h e;exact hs⟩) ((by omega))
 rw[WY hk];refine bc ?_;refine zf 17 ?_ (e:=by rfl);refine z6 ?_;refine iH [] results39 ?_;have e:W.get C l=none:=get_none λp hp he=>by
  obtain⟨i,hi,rfl⟩:=acR (key p hp he);exact hI.2 i hi (by omega) he
 rw[e];exact⟨rfl,rfl⟩
theorem mU (l:List (List Nat))(i:Nat)(c:List Nat):(aJ (aA l)).set i (.int .u32 (nO c.head?:Int))=aJ (aA (l.set i c)):=by
 unfold aJ aA;rw[adG,adG]
theorem OA{C:Cs}(K:Ok C){p:Nat}(L:Live C p):IntKind.u32.wrap (C.hd p:Int)=(nO (some p):Int):=by
 obtain⟨m1,_⟩:=cB K L.toAt;rw[IntKind.wrap_u32,pH];omega
theorem aaO{C:Cs}(K:Ok C){o:Option Nat}(L:dm C o):IntKind.u32.wrap (hO C o:Int)=(nO o:Int):=by
 rcases o with _|p
 ·rfl
 exact OA K (L p rfl)
def Ei (W:Tb)(x:Bool×Nat):Prop:=if x.1 then x.2<W.ob.length else x.2<W.nb.length
theorem qT{C:Cs}{W:Tb}(O:dq C W)(h:Nat):Ei W (W.bk h):=by
 rcases YC O h with⟨i,e,hi⟩|⟨i,e,hi⟩<;>rw[e]<;>exact hi
theorem x6{t b:Nat}{W:Tb}{y:p9}{hp:Hp}(hy:y.ok=none→W.ob= [])(aw:hJ (me t b W y) hp){x:Bool×Nat}(hx:Ei W x):dY hp (bkA y x)=some (.int .u32 (nO (W.ch x).head?:Int)):=by
 obtain⟨_,h1,h2,_⟩:=aw;rcases x with⟨_|_,i⟩
 ·exact vt h1 (o9 hx)
 rcases y with⟨nk,ok⟩
 rcases ok with _|ok
 ·have:=hy rfl
  unfold Ei at hx;rw[this]at hx;cases hx
 exact vt h2 (o9 hx)
theorem Np (t b:Nat)(W:Tb)(y:p9)(i:Nat)(c:List Nat):me t b (W.cT (false,i) c) y= [ag t 145 (fA b W y),ag y.nk 163 (aJ (aA (W.nb.set i c))),jV y.ok 163 (aJ (aA W.ob))]:=by
 simp[me,fA,Tb.cT]
theorem No (t b:Nat)(W:Tb)(y:p9)(i:Nat)(c:List Nat):me t b (W.cT (true,i) c) y= [ag t 145 (fA b W y),ag y.nk 163 (aJ (aA W.nb)),jV y.ok 163 (aJ (aA (W.ob.set i c)))]:=by
 simp[me,fA,Tb.cT]
theorem wX (t b:Nat)(C:Cs)(K:Ok C)(W:Tb)(y:p9)(hy:y.ok=none→W.ob= [])(x:Bool×Nat)(hx:Ei W x)(p:Nat)(L:Live C p)(hk:kl C.A p≠0)(ho:dm C (W.ch x).head?):
  aH acw 162 [.pointer (some ⟨t,0,none⟩), .pointer (some (bkA y x)), .int .u64 (C.hd p:Int)] (λ_=>True) (Cl b C::me t b W y)
   (λv H=>v= .tuple #[]∧H=Cl b (C.wA (wr C.A p 4 (nO (W.ch x).head?)))::me t b (W.cT x (p::W.ch x)) y):=by
 have kp:=OA K L;have TV:=λ{hp:Hp} (aw:hJ (me t b W y) hp)=>x6 hy aw hx;change aH _ _ _ _ [Cl b C,ag t 145 [.pointer (some ⟨b,0,none⟩), .int .i64 (W.aF:Int), .int .i64 (W.n:Int), .int .i64 (W.size:Int), .slice (some ⟨y.nk,0,none⟩) W.nb.length W.nb.length,Tz y.ok W.ob.length, .int .i64 (W.mv:Int), .int .i64 (W.st:Int)],ag y.nk 163 (aJ (aA W.nb)),jV y.ok 163 (aJ (aA W.ob))] _;refine ae func162 rfl ntmps162 rfl ?_;intro F _;refine au ?_;refine gK 10 T.mix (.cons (.there .here) (.cons (.there .here) (.cons (.there .here) .nil))) λF1 iT cj aI=> ?_;obtain⟨q1,q2,q3,_⟩:=cj;have kc:=TV ⟨q1,q2,q3,trivial⟩;refine cN ?_;refine Tp (oC T.Ci rfl rfl (kV t b C W y K (W.ch x).head? ho) .nil (λ_ le aw=>⟨aw.1,In.mono q1 le⟩) ?_);rintro v H' ⟨rfl,rfl⟩;refine bd ?_;refine gd aI ?_;refine Tp (oC T.kL rfl rfl (dS b C K p 0 (W.ch x).head? L hk (by omega) ho) (.cons (.there (.there (.there .here))) .nil) (λ_ _ _=>trivial) ?_);rintro v H' ⟨rfl,rfl⟩;refine bd ?_;rw[show p+4*0=p from rfl];refine aR ?_;refine Li ((Cv T.Nn T.ER (hz:=kp))) ?_;rcases x with⟨_|_,i⟩
 ·refine Li Nc ?_
  refine Lp (oS T.oX ?_ (i:=i) (hi:=by rw[kN,mV];exact hx));rw[show(aJ (aA W.nb)).set i (.int .u32 (nO (some p):Int))=aJ (aA (W.nb.set i (p::W.ch (false,i))))from mU W.nb i (p::W.ch (false,i))];refine az ?_;refine jM [Cl b (C.wA (wr C.A p 4 (nO (W.ch (false,i)).head?))),ag t 145 (fA b W y),ag y.nk 163 (aJ (aA (W.nb.set i (p::W.ch (false,i))))),jV y.ok 163 (aJ (aA W.ob))] results162 ?_;exact⟨rfl,by rw[Np]⟩
 obtain⟨ok,pA⟩:∃ok,y.ok=some ok:=by
  rcases h:y.ok with _|ok
  ·have e:=hy h
   unfold Ei at hx;rw[e]at hx;cases hx
  exact⟨ok,rfl⟩
 rcases y with⟨nk,_⟩
 dsimp only at pA;subst pA;refine ay ?_;refine Lp (oS T.oX ?_ (i:=i) (hi:=by rw[kN,mV];exact hx));rw[show(aJ (aA W.ob)).set i (.int .u32 (nO (some p):Int))=aJ (aA (W.ob.set i (p::W.ch (true,i))))from mU W.ob i (p::W.ch (true,i))];refine az ?_;refine jM [Cl b (C.wA (wr C.A p 4 (nO (W.ch (true,i)).head?))),ag t 145 (fA b W ⟨nk,some ok⟩),ag nk 163 (aJ (aA W.nb)),jV (some ok) 163 (aJ (aA (W.ob.set i (p::W.ch (true,i)))))] results162 ?_;exact⟨rfl,by rw[No]⟩
def oD (A:By)(c:List Nat):Nat→By
 |0=>A
 |i+1=>wr A (c.getD i 0) 4 (nO (c.drop (i+2)).head?)
theorem mQ (A:By)(c:List Nat)(i:Nat):oD A c (i+1)=wr A (c.getD i 0) 4 (nO (c.drop (i+2)).head?):=rfl
def oP (A:By)(c:List Nat)(j p:Nat):By:=wr (oD A c j) p 4 0
theorem x0{l:List (List Nat)}{i:Nat}{c:List Nat}(h:c.head?=(l.getD i []).head?):aA (l.set i c)=aA l:=by
 unfold aA;apply List.ext_getElem (by simp);intro k h1 h2;simp only[List.length_map,acE]at h1 h2;rw[agN,agN,List.getElem_set]
 split
 ·next e=>
  subst e;rw[h,acy,acx h2];rfl
 rfl
theorem Qs{t b:Nat}{W:Tb}{y:p9}{x:Bool×Nat}{c:List Nat}(h:c.head?=(W.ch x).head?):me t b (W.cT x c) y=me t b W y:=by
 rcases x with⟨_|_,i⟩
 ·rw[Np,x0 h];rfl
 rw[No,x0 h];rfl
theorem Gk{c:List Nat}{j:Nat}:(c.eraseIdx (j+1)).head?=c.head?:=by
 cases c<;>simp
theorem lL{c:List Nat}{k:Nat}(h:k<c.length):c.getD k 0=c[k]:=by
 rw[acy,acx h];rfl
theorem CC (t b:Nat)(C:Cs)(K:Ok C)(W:Tb)(y:p9)(O:dq C W)(hy:y.ok=none→W.ob= [])(x:Bool×Nat)(hx:Ei W x)(c:List Nat)(hcc:W.ch x=c)(j:Nat)(hj:j<c.length)(p:Nat)(hp:c[j]=p):
  aH acw 151 [.pointer (some ⟨t,0,none⟩), .int .u64 (C.hd p:Int)] (λ_=>True) (Cl b C::me t b W y)
   (λv H=>v= .tuple #[]∧H=Cl b (C.wA (oP C.A c j p))::me t b (W.cT x (c.eraseIdx j)) y):=by
 have TV:=λ{hp:Hp} (aw:hJ (me t b W y) hp)=>x6 hy aw hx;have li:=O.li x;have nd:=(W.nM x).nodup O.nd;have cl:=tq O x;have hn:=Aa K O;rw[hcc]at TV li nd cl;have sub:∀q∈c,q∈W.all:=λq hq=>Tb.gk (x:=x) (by rw[hcc];exact hq);have Ub:∀k,dm C (c.drop k).head?:=λk q hq=>O.lv q (sub q (ahV (ada hq)));have ha:p∈W.all:=sub p (by rw[←hp];exact acJ hj);have L:=O.lv p ha;have I:=O.it p ha;have hbk:W.bk (cx (aL C.A p))=x:=O.bu x p (by rw[hcc,←hp];exact acJ hj);obtain⟨v1,v2,v3,v4,v5,v6⟩:=cB K L.toAt;have lk:(aL C.A p).length=kl C.A p:=dC _ _ _;have lf:=I.fits;obtain⟨z1,z2,z3,_⟩:=L.toAt.bo K;have f1:=K.toFix.p1;change aH _ _ _ _ [Cl b C,ag t 145 [.pointer (some ⟨b,0,none⟩), .int .i64 (W.aF:Int), .int .i64 (W.n:Int), .int .i64 (W.size:Int), .slice (some ⟨y.nk,0,none⟩) W.nb.length W.nb.length,Tz y.ok W.ob.length, .int .i64 (W.mv:Int), .int .i64 (W.st:Int)],ag y.nk 163 (aJ (aA W.nb)),jV y.ok 163 (aJ (aA W.ob))] _;refine ae func151 rfl ntmps151 rfl ?_;intro F _;refine aR ?_;refine Lp (oC T.tm rfl rfl (pD t b C W y K p L I) .nil (λ_ le aw=>⟨aw.1,aw.2.1⟩) ?_);rintro v H' ⟨kb,rfl,rfl⟩;refine bd ?_;refine zl T.Ch (kW t b C W y W.n O hy (some ⟨kb,0,none⟩) (kl C.A p) (kl C.A p) (aL C.A p) lk.symm (by omega)) .nil (λ_ le aw=>⟨aw.2.2.1,bD aw.1⟩) ?_;rw[hbk];refine Hh (H':= [Cl b C,ag t 145 [.pointer (some ⟨b,0,none⟩), .int .i64 (W.aF:Int), .int .i64 (W.n:Int), .int .i64 (W.size:Int), .slice (some ⟨y.nk,0,none⟩) W.nb.length W.nb.length,Tz y.ok W.ob.length, .int .i64 (W.mv:Int), .int .i64 (W.st:Int)],ag y.nk 163 (aJ (aA W.nb)),jV y.ok 163 (aJ (aA W.ob))]) ?_;refine a8 ?_;refine au ?_;refine cg (ι:=Unit) [12,13,14,15,16,17,18,19,20,21,22,23,24,25,26,27,28,29,5,6,30,31,32,33,34,35,36,37,38,39,40,41,42,43,44,45,46,49,50,51,47,48,52,53,54,55,56,57,58,59,60] (λu=>True) (λu=> [(0, .pointer (some ⟨t,0,none⟩)),(1, .int .u64 (C.hd p:Int))]) (λu=> [Cl b (C.wA (oD C.A c j)),TL t b (W.cT x (c.eraseIdx j)) y]) ?_ ?_
 ·refine gU ?_
  refine aZ ?_;refine Lp (oL T.oX ?_ (hk:=⟨_,rfl,λh _ aw=>TV aw.2⟩));refine zl T.Ci (kV t b C W y K c.head? (Ub 0)) .nil (λ_ le aw=>⟨aw.1,aw.2.1⟩) ?_;rcases j with _|j
  ·have e0:c.head?=some p:=by rw[←hp];exact vz (k:=0) hj
   rw[e0,cQ];refine aZ ?_;refine dz ?_ (e:=by exact decide_eq_true rfl);refine aR ?_;refine zl T.yQ (jq t b C W y K p (c.drop 1).head? L I.k0 (Ub 1) (by rw[←hp];exact te li hj)) .nil (λ_ le aw=>⟨aw.1,aw.2.1⟩) ?_;refine Li ((Cv T.Nn T.ER (hz:=aaO K (Ub 1)))) ?_;rcases x with⟨_|_,i⟩
   ·refine Li Nc ?_
    refine Lp (oS T.oX ?_ (i:=i) (hi:=by rw[kN,mV];exact hx));rw[show(aJ (aA W.nb)).set i (.int .u32 (nO (c.drop 1).head?:Int))=aJ (aA (W.nb.set i (c.drop 1)))from mU W.nb i (c.drop 1)];refine az ?_;refine Hh (H':= [ag t 145 (fA b W y),ag y.nk 163 (aJ (aA (W.nb.set i (c.drop 1)))),jV y.ok 163 (aJ (aA W.ob)),Cl b C]) ?_;rw[show c.drop 1=c.eraseIdx 0 by simp];refine aC (H':= [TL t b (W.cT (false,i) (c.eraseIdx 0)) y,Cl b C]) (λ_ s=>fN (by rw[Np];exact s)) ?_;refine Me (()) (trivial)
   obtain⟨ok,pA⟩:∃ok,y.ok=some ok:=by
    rcases h:y.ok with _|ok
    ·have e:=hy h
     unfold Ei at hx;rw[e]at hx;cases hx
    exact⟨ok,rfl⟩
   rcases y with⟨nk,_⟩
   dsimp only at pA;subst pA;refine ay ?_;refine Lp (oS T.oX ?_ (i:=i) (hi:=by rw[kN,mV];exact hx));rw[show(aJ (aA W.ob)).set i (.int .u32 (nO (c.drop 1).head?:Int))=aJ (aA (W.ob.set i (c.drop 1)))from mU W.ob i (c.drop 1)];refine az ?_;refine Hh (H':= [ag t 145 (fA b W ⟨nk,some ok⟩),ag nk 163 (aJ (aA W.nb)),jV (some ok) 163 (aJ (aA (W.ob.set i (c.drop 1)))),Cl b C]) ?_;rw[show c.drop 1=c.eraseIdx 0 by simp];refine aC (H':= [TL t b (W.cT (true,i) (c.eraseIdx 0)) ⟨nk,some ok⟩,Cl b C]) (λ_ s=>fN (by rw[No];exact s)) ?_;refine Me (()) (trivial)
  have hp0:(c.drop 0).head?=some c[0]:=vz (by omega);have L0:=O.lv c[0] (sub _ (acJ (by omega)));have ne0:c[0]≠p:=λe=>by
   rw[←hp]at e;have:=(aho nd).1 e;omega
  have ne0h:C.hd c[0]≠C.hd p:=λe=>ne0 (nu K L0.toAt L.toAt e);rw[show c.head?=some c[0]from hp0,cQ];refine aZ ?_;refine cu ?_;refine aR ?_;refine Lp (oL T.oX ?_ (hk:=⟨_,rfl,λh _ aw=>TV aw.2⟩));refine zl T.Ci (kV t b C W y K c.head? (Ub 0)) .nil (λ_ le aw=>⟨aw.1,aw.2.1⟩) ?_;rw[show c.head?=some c[0]from hp0,cQ,←lL];refine bH ?_;refine Lo (ι:=Nat) [30,31,32,33,34,35,36,37,38,39,40,41,42,43,44,45,46,49,50,51,5,47,48,6] (λk=>k≤j) (λk=> [(5, .int .u64 (C.hd (c.getD k 0):Int)),(6, .int .i64 (k:Int))]) (λk=> [Cl b C,ag t 145 [.pointer (some ⟨b,0,none⟩), .int .i64 (W.aF:Int), .int .i64 (W.n:Int), .int .i64 (W.size:Int), .slice (some ⟨y.nk,0,none⟩) W.nb.length W.nb.length,Tz y.ok W.ob.length, .int .i64 (W.mv:Int), .int .i64 (W.st:Int)],ag y.nk 163 (aJ (aA W.nb)),jV y.ok 163 (aJ (aA W.ob))]) (λk=>j-k) (0) (by simp) ?_;rintro k hI;have rz:k<c.length:=by omega
  have Lk:=O.lv c[k] (sub _ (acJ rz));have Ik:=O.it c[k] (sub _ (acJ rz));obtain⟨w1,w2,w3,w4,w5,w6⟩:=cB K Lk.toAt;have hk1:k+1<c.length:=by omega
  have Lk1:=O.lv c[k+1] (sub _ (acJ hk1));have YR:rd C.A c[k] 4=nO (some c[k+1]):=by rw[te li rz,vz hk1]
  have lvk:dm C (some c[k+1]):=λq hq=>by cases hq;exact Lk1
  obtain⟨u1,u2,u3,u4,u5,u6⟩:=cB K Lk1.toAt;rw[lL rz];refine bc ?_;refine zt 32 ?_ (e:=by exact by rw[decide_eq_false (by omega)];rfl);refine a8 ?_;refine zl T.yQ (jq t b C W y K c[k] (some c[k+1]) Lk Ik.k0 lvk YR) .nil (λ_ le aw=>⟨aw.1,aw.2.1⟩) ?_;rw[cQ];by_cases hkj:k=j
  ·subst hkj
   rw[hp];refine aR ?_;refine zf 39 ?_ (e:=by rw[decide_eq_true rfl];rfl);refine fF ?_;refine gK 8 T.mix (.cons (.there .here) (.cons (.there .here) (.cons (.there .here) .nil))) λF1 iT cj aI=> ?_;obtain⟨q1,q2,q3,_⟩:=cj;refine bH ?_;refine Tp (oC T.yQ rfl rfl (jq t b C W y K p (c.drop (k+2)).head? L I.k0 (Ub (k+2)) (by rw[←hp];exact te li hj)) .nil (λ_ le aw=>⟨aw.1,In.mono q1 le⟩) ?_);rintro v H' ⟨rfl,rfl⟩;refine bd ?_;refine gd aI ?_;refine Tp (oC T.kL rfl rfl (dS b C K c[k] 0 (c.drop (k+2)).head? Lk Ik.k0 (by omega) (Ub (k+2))) (.cons (.there (.there (.there .here))) .nil) (λ_ _ _=>trivial) ?_);rintro v H' ⟨rfl,rfl⟩;refine bd ?_;refine Tn ?_;rw[show wr C.A (c[k]+4*0) 4 (nO (c.drop (k+2)).head?)=oD C.A c (k+1) by rw[mQ,lL rz];rfl];refine Hh (H':= [ag t 145 [.pointer (some ⟨b,0,none⟩), .int .i64 (W.aF:Int), .int .i64 (W.n:Int), .int .i64 (W.size:Int), .slice (some ⟨y.nk,0,none⟩) W.nb.length W.nb.length,Tz y.ok W.ob.length, .int .i64 (W.mv:Int), .int .i64 (W.st:Int)],ag y.nk 163 (aJ (aA W.nb)),jV y.ok 163 (aJ (aA W.ob)),Cl b (C.wA (oD C.A c (k+1)))]) ?_;refine aC (H':= [TL t b (W.cT x (c.eraseIdx (k+1))) y,Cl b (C.wA (oD C.A c (k+1)))]) (λ_ s=>fN (by rw[Qs (by rw[hcc];exact Gk)];exact s)) ?_;refine Me (()) (trivial)
  have ne1:c[k+1]≠p:=λe=>by
   rw[←hp]at e;have:=(aho nd).1 e;omega
  have ne1h:C.hd c[k+1]≠C.hd p:=λe=>ne1 (nu K Lk1.toAt L.toAt e);refine aR ?_;refine zt 39 ?_ (e:=by rw[decide_eq_false (by omega)];rfl);refine cI ?_;refine dz ?_;refine bH ?_;refine zl T.yQ (jq t b C W y K c[k] (some c[k+1]) Lk Ik.k0 lvk YR) .nil (λ_ le aw=>⟨aw.1,aw.2.1⟩) ?_;rw[cQ,←lL];refine cI ?_;refine az ?_;refine Ro (k+1) (by omega) (by omega)
 rintro u hI;have oh:kl (oD C.A c j) p≠0:=by
  rcases j with _|j
  ·exact I.k0
  have Lq:=O.lv c[j] (sub _ (acJ (by omega)));have e:=vp K L.toAt Lq.toAt I (a:=0) (n:=4) (v:=nO (c.drop (j+2)).head?) (by omega);rw[mQ,lL (by omega)];exact λh=>I.k0 (by rw[←e.kl];exact h)
 refine Hh (H':= [TL t b (W.cT x (c.eraseIdx j)) y,Cl b (C.wA (oD C.A c j))]) ?_;refine vv ?_;refine aC (H':= [ag t 145 (fA b (W.cT x (c.eraseIdx j)) y),Cl b (C.wA (oD C.A c j)),ag y.nk 163 (aJ (aA (W.cT x (c.eraseIdx j)).nb)),jV y.ok 163 (aJ (aA (W.cT x (c.eraseIdx j)).ob))]) (by exact Eh) ?_;unfold fA;refine bB ?_;refine zl T.kL (dS b (C.wA (oD C.A c j)) (K.wA _) p 0 none (L.wA _) oh (by omega) (λq hq=>by cases hq)) (.cons (.there .here) .nil) (λ_ _ _=>trivial) ?_;rw[show(C.wA (oD C.A c j)).wA (wr (C.wA (oD C.A c j)).A (p+4*0) 4 (nO none))=C.wA (oP C.A c j p)from rfl];refine az ?_;refine jM [Cl b (C.wA (oP C.A c j p)),ag t 145 (fA b (W.cT x (c.eraseIdx j)) y),ag y.nk 163 (aJ (aA (W.cT x (c.eraseIdx j)).nb)),jV y.ok 163 (aJ (aA (W.cT x (c.eraseIdx j)).ob))] results151 ?_;exact⟨rfl,rfl⟩
theorem Ot{A:By}:∀{l:List Nat} (_:∀k (h:k<l.length),rd A l[k] 4=nO l[k+1]?),Ez A l
 | [],_=>trivial
 |_::l,h=>⟨by have:=h 0 (by simp);simpa[List.head?_eq_getElem?]using this,Ot λk hk=>by have:=h (k+1) (by simpa using hk);simpa using this⟩
theorem H4{A:By}{l:List Nat}{k:Nat}(h:Ez A l)(hk:k<l.length):rd A l[k] 4=nO l[k+1]?:=by
 rw[te h hk,ag4]
theorem pM{A B:By}:∀{l:List Nat} (_:∀q∈l,rd B q 4=rd A q 4) (_:Ez A l),Ez B l
 | [],_,_=>trivial
 |q::_,h,i=>⟨by rw[h q (by simp)];exact i.1,pM (λr hr=>h r (by simp[hr])) i.2⟩
theorem Kept.refl (C:Cs)(p:Nat):Kept C C.A p:=⟨rfl,rfl,rfl,λi=>i⟩
theorem mT{C:Cs}(K:Ok C){p q:Nat}(L:Live C p)(M:Live C q)(I:ic C p)(v:Nat):Kept C (wr C.A q 4 v) p:=vp K L.toAt M.toAt I (a:=0) (n:=4) (by omega)
theorem sg{C:Cs}(K:Ok C){p q:Nat}(L:Live C p)(M:Live C q)(h:p≠q)(v:Nat):rd (wr C.A q 4 v) p 4=rd C.A p 4:=by
 have n1:=(L.toAt.bo K).2.1;have m1:=(M.toAt.bo K).2.1;exact kJ K L.toAt M.toAt (a:=0) (n:=4) (o:=0) (w:=4) (by omega) (by omega) (λe=>absurd e h)
theorem nT{C:Cs}(K:Ok C){o:Option Nat}(L:dm C o):nO o<4294967296:=by
 rcases o with _|q
 ·exact Nat.zero_lt_succ _
 obtain⟨_,_,m3,m4,_⟩:=cB K (L q rfl).toAt;have:=gh K.toFix;rw[pH];omega
theorem zq (A:By)(p n:Nat)(h:n<4294967296):rd (wr A p 4 n) p 4=n:=by
 rw[du];exact Nat.mod_eq_of_lt h
theorem iQ:∀{L:List (List Nat)} {i:Nat} (_:i<L.length),∃r,L.flatten.Perm (L.getD i []++r)∧∀c,(L.set i c).flatten.Perm (c++r)
 |l::L,0,_=>⟨L.flatten,by simp,λc=>by simp⟩
 |l::L,i+1,h=>by
  obtain⟨r,h1,h2⟩:=iQ (L:=L) (i:=i) (by simpa using h);have sw:∀c:List Nat,(l++(c++r)).Perm (c++(l++r)):=λc=>by
   rw[←adr,←adr];exact acN.append_right r agI
  refine⟨l++r, ?_,λc=> ?_⟩
  ·rw[ahG]
   exact(acN.append_left l h1).trans (by simpa using sw (L.getD i []))
  rw[List.set_cons_succ,ahG];exact(acN.append_left l (h2 c)).trans (sw c)
theorem Tb.nH{W:Tb}{x:Bool×Nat}(hx:Ei W x):∃r,W.all.Perm (W.ch x++r)∧∀c,(W.cT x c).all.Perm (c++r):=by
 rcases x with⟨_|_,i⟩
 ·obtain⟨r,h1,h2⟩:=iQ (L:=W.nb) (i:=i) hx
  refine⟨r++W.ob.flatten, ?_,λc=> ?_⟩
  ·have:=acN.append_right W.ob.flatten h1
   rw[adr]at this;exact this
  have:=acN.append_right W.ob.flatten (h2 c);rw[adr]at this;exact this
 obtain⟨r,h1,h2⟩:=iQ (L:=W.ob) (i:=i) hx;have sw:∀c:List Nat,(W.nb.flatten++(c++r)).Perm (c++(W.nb.flatten++r)):=λc=>by
  rw[←adr,←adr];exact acN.append_right r agI
 refine⟨W.nb.flatten++r, ?_,λc=> ?_⟩
 ·exact(acN.append_left _ h1).trans (sw _)
 exact(acN.append_left _ (h2 c)).trans (sw c)
theorem ma{L:List (List Nat)}{i:Nat}(h:i<L.length)(c:List Nat):(L.set i c).getD i []=c:=by
 rw[acy,List.getElem?_set_self h];rfl
theorem getD_set_ne{L:List (List Nat)}{i k:Nat}(h:i≠k)(c:List Nat):(L.set i c).getD k []=L.getD k []:=by
 rw[acy,acy,List.getElem?_set_ne h]
theorem Tb.PN{W:Tb}{x:Bool×Nat}(hx:Ei W x)(c:List Nat)(z:Bool×Nat):(W.cT x c).ch z=if z=x then c else W.ch z:=by
 split
 ·next e=>
  subst e;rcases z with⟨_|_,i⟩
  ·exact ma hx c
  exact ma hx c
 next e=>
 rcases z with⟨_|_,k⟩<;>rcases x with⟨_|_,i⟩
 ·exact getD_set_ne (λh=>e (Prod.ext rfl h.symm)) c
 ·rfl
 ·rfl
 exact getD_set_ne (λh=>e (Prod.ext rfl h.symm)) c
theorem Tb.acd (W:Tb)(x:Bool×Nat)(c:List Nat)(n h:Nat):Tb.bk {W.cT x c with n:=n} h=W.bk h:=by
 rcases x with⟨_|_,i⟩<;>simp[Tb.bk,Tb.cT]
theorem AS{C:Cs}{W:Tb}(O:dq C W){x:Bool×Nat}(hx:Ei W x){c c':List Nat}(hc:W.ch x=c){A:By}{n' p:Nat}
  (hn:n'+c.length=W.n+c'.length) (nd:c'.Nodup) (hp:∀q∈c',q∈c∨(q=p∧p∉W.all)) (li:Ez A c')
  (lo:∀q∈W.all,q∉c→rd A q 4=rd C.A q 4) (lv:∀q∈c',Live C q) (kp:∀q∈W.all,Kept C A q) (it:∀q∈c',ic (C.wA A) q)
  (bu:∀q∈c',W.bk (cx (aL A q))=x) (kd:p∈c'→p∉W.all→∀r∈W.all,aL A p≠aL C.A r):dq (C.wA A) {W.cT x c' with n:=n'}:=by
 obtain⟨r,p1,p2⟩:=Tb.nH hx;rw[hc]at p1;have p2':Tb.all {W.cT x c' with n:=n'}=(W.cT x c').all:=rfl;have al:∀q,q∈(W.cT x c').all→q∈c'∨(q∈W.all∧q∉c):=λq hq=>by
  rcases adw.1 ((p2 c').mem_iff.1 hq)with h|h
  ·exact .inl h
  refine .inr ⟨p1.mem_iff.2 (agK _ h),λg=> ?_⟩;have:=p1.nodup_iff.1 O.nd;exact(adl.1 this).2.2 q g q h rfl
 have MF:∀z,Tb.ch {W.cT x c' with n:=n'} z=if z=x then c' else W.ch z:=λz=>(show Tb.ch {W.cT x c' with n:=n'} z=(W.cT x c').ch z from rfl).trans (Tb.PN hx c' z)
 have cp:∀q∈c,q∈W.all:=λq hq=>p1.mem_iff.2 (List.mem_append_left _ hq);have l1:({W.cT x c' with n:=n'}:Tb).nb.length=W.nb.length:=by rcases x with⟨_|_,i⟩<;>simp[Tb.cT]
 have l2:({W.cT x c' with n:=n'}:Tb).ob.length=W.ob.length:=by rcases x with⟨_|_,i⟩<;>simp[Tb.cT]
 have e1:({W.cT x c' with n:=n'}:Tb).size=W.size:=by rcases x with⟨_|_,i⟩<;>rfl
 have e2:({W.cT x c' with n:=n'}:Tb).aF=W.aF:=by rcases x with⟨_|_,i⟩<;>rfl
 have e3:({W.cT x c' with n:=n'}:Tb).mv=W.mv:=by rcases x with⟨_|_,i⟩<;>rfl
 have e4:({W.cT x c' with n:=n'}:Tb).st=W.st:=by rcases x with⟨_|_,i⟩<;>rfl
 refine⟨by rw[l1];exact O.pw, ?_,by rw[l2,e3,e4];exact O.st.imp (λh=>⟨h.1,acW (by rw[l2,h.2];rfl)⟩) id,by rw[e2];exact O.mp,by rw[e1,l1];exact O.sz,by rw[e1];exact O.ML,by rw[e1,e2];exact O.sm,by rw[e3];exact O.mv, ?_, ?_,λz=> ?_,λq hq=> ?_,λq hq=> ?_,λz q hq=> ?_,λq hq s hs e=> ?_⟩
 ·rcases O.po with h|⟨m,hm,e⟩
  ·exact .inl (acW (by rw[l2,h];rfl))
  exact .inr ⟨m,hm,by rw[l2];exact e⟩
 ·rw[p2',(p2 c').length_eq,acI]
  have h1:=O.n;rw[p1.length_eq,acI]at h1;show n'=_;omega
 ·rw[p2',(p2 c').nodup_iff,adl]
  have h1:=adl.1 (p1.nodup_iff.1 O.nd);refine⟨nd,h1.2.1,λq hq s hs e=> ?_⟩;subst e;rcases hp q hq with h|⟨rfl,h⟩
  ·exact h1.2.2 q h q hs rfl
  exact h (p1.mem_iff.2 (agK _ hs))
 ·rw[MF]
  split
  ·exact li
  next hz=>
  refine pM (λq hq=>lo q (Tb.gk hq) λg=> ?_) (O.li z);rw[←hc]at g;exact hz ((O.bu z q hq).symm.trans (O.bu x q g))
 ·rcases al q hq with h|h
  ·exact(lv q h).wA A
  exact(O.lv q h.1).wA A
 ·rcases al q hq with h|h
  ·exact it q h
  exact(kp q h.1).it (O.it q h.1)
 ·rw[Tb.acd]
  rw[MF]at hq
  split at hq
  ·next e=>rw[e];exact bu q hq
  rw[show aL (C.wA A).A q=aL C.A q from(kp q (Tb.gk hq)).key];exact O.bu z q hq
 change aL A q=aL A s at e;have cl:∀q,q∈(W.cT x c').all→q∈W.all∨(q=p∧p∈c'∧p∉W.all):=λq hq=>by
  rcases al q hq with h|h
  ·rcases hp q h with g|g
   ·exact .inl (cp q g)
   exact .inr ⟨g.1,g.1▸h,g.2⟩
  exact .inl h.1
 rcases cl q hq with h|⟨rfl,hi,h⟩<;>rcases cl s hs with g|⟨rfl,gi,g⟩
 ·rw[(kp q h).key,(kp s g).key]at e
  exact O.kd q h s g e
 ·rw[(kp q h).key]at e
  exact absurd e.symm (kd gi g q h)
 ·rw[(kp s g).key]at e
  exact absurd e (kd hi h s g)
 rfl
theorem AX{C:Cs}(K:Ok C){W:Tb}(O:dq C W){p:Nat}(L:Live C p)(I:ic C p)(hp:p∉W.all)(hk:∀q∈W.all,aL C.A q≠aL C.A p){x:Bool×Nat}(hx:W.bk (cx (aL C.A p))=x):
  dq (C.wA (wr C.A p 4 (nO (W.ch x).head?))) {W.cT x (p::W.ch x)with n:=W.n+1}:=by
 have kp:∀q∈W.all,Kept C (wr C.A p 4 (nO (W.ch x).head?)) q:=λq hq=>mT K (O.lv q hq) L (O.it q hq) _;have kpp:=mT K L L I (nO (W.ch x).head?);have ne:∀q∈W.all,q≠p:=λq hq e=>hp (e▸hq);have far:∀q∈W.all,rd (wr C.A p 4 (nO (W.ch x).head?)) q 4=rd C.A q 4:=λq hq=>sg K (O.lv q hq) L (ne q hq) _;have sub:∀q∈W.ch x,q∈W.all:=λq hq=>Tb.gk hq;have lO:dm C (W.ch x).head?:=λq hq=>O.lv q (sub q (ada hq));refine AS O (by rw[←hx];exact qT O _) rfl (p:=p) (by simp;omega) (acP.2 ⟨λh=>hp (sub p h),(W.nM x).nodup O.nd⟩) (λq hq=> ?_) ⟨zq _ _ _ (nT K lO),pM (λq hq=>far q (sub q hq)) (O.li x)⟩
  (λq hq _=>far q hq) (λq hq=> ?_) kp (λq hq=> ?_) (λq hq=> ?_) (λ_ _ r hr e=> ?_)
 ·rcases acT.1 hq with rfl|h
  ·exact .inr ⟨rfl,hp⟩
  exact .inl h
 ·rcases acT.1 hq with rfl|h
  ·exact L
  exact O.lv q (sub q h)
 ·rcases acT.1 hq with rfl|h
  ·exact kpp.it I
  exact(kp q (sub q h)).it (O.it q (sub q h))
 ·rcases acT.1 hq with rfl|h
  ·rw[kpp.key];exact hx
  rw[(kp q (sub q h)).key];exact O.bu x q h
 rw[kpp.key]at e;exact hk r hr e.symm
def qh (A B:By)(S:List Nat)(a n:Nat):Prop:=∀i,B i≠A i→∃q∈S,q+a≤i∧i<q+a+n
theorem qh.refl (A:By)(S:List Nat)(a n:Nat):qh A A S a n:=λ_ h=>absurd rfl h
theorem qh.trans{A B D:By}{S:List Nat}{a n:Nat}(h:qh A B S a n)(g:qh B D S a n):qh A D S a n:=λi e=>by
 by_cases hb:B i=A i
 ·exact g i (by rw[hb];exact e)
 exact h i hb
theorem qh.mono{A B:By}{S R:List Nat}{a n:Nat}(h:qh A B S a n)(s:∀q∈S,q∈R):qh A B R a n:=λi e=>by
 obtain⟨q,q1,q2⟩:=h i e;exact⟨q,s q q1,q2⟩
theorem wD (A:By){S:List Nat}{q a n v:Nat}(h:q∈S):qh A (wr A (q+a) n v) S a n:=λi e=>by
 refine⟨q,h, ?_⟩;refine acH λg=>e ?_;unfold wr;exact fZ _ _ _ _ (by rw[l7];omega)
theorem IC{C:Cs}(K:Ok C){B:By}{S:List Nat}{a n:Nat}(d:qh C.A B S a n)(hS:∀q∈S,At C q){p o w:Nat}(L:At C p)(ha:a+n≤64)(ho:o+w≤C.sz (C.cl p))(h:p∈S→a+n≤o∨o+w≤a):jt B (p+o) w=jt C.A (p+o) w:=
 tE λi h1 h2=>by
  refine acH λe=> ?_;obtain⟨q,q1,q2,q3⟩:=d i e;have m1:=((hS q q1).bo K).2.1;rcases far K L (hS q q1) (a:=a) (n:=n) (o:=o) (w:=w) (by omega) ho (λe=>h (e▸q1))with g|g<;>omega
theorem PI{C:Cs}(K:Ok C){B:By}{S:List Nat}{a n:Nat}(d:qh C.A B S a n)(hS:∀q∈S,At C q){p o w:Nat}(L:At C p)(ha:a+n≤64)(ho:o+w≤C.sz (C.cl p))(h:p∈S→a+n≤o∨o+w≤a):rd B (p+o) w=rd C.A (p+o) w:=by
 unfold rd;rw[IC K d hS L ha ho h]
theorem xy{C:Cs}(K:Ok C){B:By}{S:List Nat}{a n:Nat}(d:qh C.A B S a n)(hS:∀q∈S,At C q)(ha:a+n≤12){p:Nat}(L:At C p)(I:ic C p):Kept C B p:=by
 have n1:=(L.bo K).2.1;have hf:=I.fits;have r:=λ(o w:Nat) (h1:12≤o) (h2:o+w≤C.sz (C.cl p))=>PI K d hS L (by omega) h2 (λ_=> .inl (by omega));have e1:kl B p=kl C.A p:=r 44 1 (by omega) (by omega);have e2:vl B p=vl C.A p:=r 48 4 (by omega) (by omega);refine⟨e1,e2, ?_,λJ=>⟨?_, ?_, ?_, ?_⟩⟩
 ·unfold aL
  rw[e1];exact IC K d hS L (by omega) (by omega) (λ_=> .inl (by omega))
 ·rw[cS,e1];exact J.k0
 ·rw[cS,e1,e2];exact J.fits
 ·rw[cS,r 16 8 (by omega) (by omega)];exact J.exp
 rw[cS,r 24 8 (by omega) (by omega)];exact J.tch
theorem VC (A:By)(c:List Nat)(j:Nat)(hj:j<c.length):qh A (oD A c j) c 0 4:=by
 rcases j with _|j
 ·exact qh.refl _ _ _ _
 rw[mQ,lL (by omega)];exact wD A (a:=0) (acJ (by omega))
theorem QY (A:By)(c:List Nat)(j:Nat)(hj:j<c.length):qh A (oP A c j c[j]) c 0 4:=
 (VC A c j hj).trans (wD _ (a:=0) (acJ hj))
theorem HJ{C:Cs}(K:Ok C){W:Tb}(O:dq C W){x:Bool×Nat}(hx:Ei W x){c:List Nat}(hc:W.ch x=c){j p:Nat}(hj:j<c.length)(hp:c[j]=p):
  dq (C.wA (oP C.A c j p)) {W.cT x (c.eraseIdx j)with n:=W.n-1}∧qh C.A (oP C.A c j p) W.all 0 4:=by
 subst hp;have sub:∀q∈c,q∈W.all:=λq hq=>Tb.gk (x:=x) (by rw[hc];exact hq);have d:=QY C.A c j hj;have dW:qh C.A (oP C.A c j c[j]) W.all 0 4:=d.mono sub;have at_:∀q∈W.all,At C q:=λq hq=>(O.lv q hq).toAt;have kp:∀q∈W.all,Kept C (oP C.A c j c[j]) q:=λq hq=>xy K dW at_ (by omega) (at_ q hq) (O.it q hq);have li:=O.li x;have nd:=(W.nM x).nodup O.nd;rw[hc]at li nd;have es:∀q∈c.eraseIdx j,q∈c:=λq hq=>List.mem_of_mem_eraseIdx hq;refine⟨AS O hx hc (p:=c[j]) ?_ (nd.sublist (List.eraseIdx_sublist c j)) (λq hq=> .inl (es q hq)) ?_ (λq hq g=> ?_) (λq hq=>O.lv q (sub q (es q hq))) kp (λq hq=>(kp q (sub q (es q hq))).it (O.it q (sub q (es q hq))))
  (λq hq=>by rw[(kp q (sub q (es q hq))).key];exact O.bu x q (by rw[hc];exact es q hq)) (λ_ h r hr e=> ?_),dW⟩
 ·have h1:=tq O x
  rw[hc]at h1;have h2:=ahy hj;omega
 ·refine Ot λk hk=> ?_
  have hlen:=ahy hj;have lv:∀i (h:i<c.length),Live C c[i]:=λi h=>O.lv _ (sub _ (acJ h));have inj:∀i k (h:i<c.length) (g:k<c.length),i≠k→c[i]≠c[k]:=λi k h g e h2=>e ((aho nd).1 h2);have K2:=K.wA (oD C.A c j);have rd2:∀i (h:i<c.length),i≠j→rd (oP C.A c j c[j]) c[i] 4=rd (oD C.A c j) c[i] 4:=λi h e=>sg K2 ((lv i h).wA _) ((lv j hj).wA _) (inj i j h hj e) 0;have rd1:∀i (h:i<c.length),i+1≠j→rd (oD C.A c j) c[i] 4=nO c[i+1]?:=λi h e=>by
   rcases j with _|j
   ·exact H4 li h
   rw[mQ,lL (by omega),sg K (lv i h) (lv j (by omega)) (inj i j h (by omega) (by omega))];exact H4 li h
  have rd0:∀i (h:i<c.length),i+1=j→rd (oD C.A c j) c[i] 4=nO c[i+2]?:=λi h e=>by
   subst e;rw[mQ,lL (by omega),ag4];refine zq _ _ _ (nT K λq hq=> ?_);exact O.lv q (sub q (List.mem_of_getElem? hq))
  rw[List.getElem_eraseIdx]
  split
  ·next h=>
   have rz:k<c.length:=by omega
   rw[rd2 k rz (by omega)];by_cases e:k+1=j
   ·rw[rd0 k rz e,ac3 (by omega)]
   rw[rd1 k rz e,List.getElem?_eraseIdx_of_lt (by omega)]
  next h=>
  have rz:k+1<c.length:=by omega
  rw[rd2 (k+1) rz (by omega),rd1 (k+1) rz (by omega),ac3 (by omega)]
 ·have:=PI K d (λq hq=>at_ q (sub q hq)) (at_ q hq) (o:=0) (w:=4) (by omega) (by have:=((at_ q hq).bo K).2.1;omega) (λh=>absurd h g)
  exact this
 exact absurd (sub _ (acJ hj)) h
def Tb.nn (W:Tb):Tb:={W with n:=W.all.length}
def Tb.emp (W:Tb):Tb:={W.cT (true,W.mv) []with mv:=W.mv+1}
theorem Tb.abV (W:Tb):W.emp.nb=W.nb:=rfl
theorem Tb.PE (W:Tb):W.emp.ob=W.ob.set W.mv []:=rfl
theorem PD{C:Cs}{W:Tb}(O:dq C W)(hm:W.mv<W.ob.length):dq C W.emp.nn∧W.all.Perm (W.ch (true,W.mv)++W.emp.all)∧
  ∀q∈W.ch (true,W.mv),W.emp.bk (cx (aL C.A q))=(false,cx (aL C.A q) % W.nb.length):=by
 have hx:Ei W (true,W.mv):=hm;obtain⟨r,p1,p2⟩:=Tb.nH hx;have pe:W.emp.all.Perm r:=by
  have:(W.cT (true,W.mv) []).all.Perm r:=by simpa using p2 []
  exact this
 have rH:W.emp.all=(W.cT (true,W.mv) []).all:=rfl;have O1:=AS O hx rfl (c':= []) (A:=C.A) (n':=W.emp.all.length) (p:=0) (by
   have h1:=O.n;rw[p1.length_eq,acI]at h1;rw[pe.length_eq,List.length_nil];omega) List.nodup_nil (λ_ h=>by cases h) trivial (λ_ _ _=>rfl) (λ_ h=>by cases h) (λq _=>Kept.refl C q) (λ_ h=>by cases h) (λ_ h=>by cases h) (λh=>by cases h)
 have bkx:∀h,W.emp.bk h=if W.mv=h % W.ob.length then(false,h % W.nb.length)else W.bk h:=λh=>by
  unfold Tb.bk;rw[Tb.abV,Tb.PE,acE,show W.emp.mv=W.mv+1 from rfl]
  split
  ·next g=>rw[if_neg (by omega),if_pos ⟨g.1,by omega⟩]
  next g=>
  split
  ·rfl
  next e=>rw[if_neg (by omega)]
 have chx:∀z,W.emp.ch z=(W.cT (true,W.mv) []).ch z:=λ_=>rfl;have ol:W.ob.length≤1048576:=by
  rcases O.po with h|⟨m,hm,e⟩
  ·rw[h];decide
  exact(qm e hm).2
 have obl:W.emp.nn.ob.length=W.ob.length:=by show(W.ob.set W.mv []).length=_;rw[acE]
 have iY:W.st=2:=by
  rcases O.st with h|h
  ·rw[h.2]at hm;cases hm
  exact h.1
 have old:∀h i,W.bk h=(true,i)→h % W.ob.length=i:=λh i e=>by
  unfold Tb.bk at e
  split at e
  ·cases e;rfl
  cases e
 refine⟨⟨O1.pw,O1.po, .inr ⟨iY,by rw[obl];omega,by rw[obl];exact hm⟩,O1.mp,O1.sz,O1.ML,O1.sm,agC hm ol,rfl,O1.nd,O1.li,O1.lv,O1.it,λz q hq=> ?_,O1.kd⟩,p1.trans (acN.append_left _ pe.symm),λq hq=> ?_⟩
 ·change W.emp.bk (cx (aL C.A q))=z
  rw[bkx];have hq':q∈(W.cT (true,W.mv) []).ch z:=hq;rw[Tb.PN hx]at hq'
  split at hq'
  ·cases hq'
  next e=>
  have hb:=O.bu z q hq'
  split
  ·next g=>
   refine absurd ?_ e;rw[←hb];unfold Tb.bk;rw[if_pos ⟨by omega,by omega⟩,g]
  exact hb
 rw[bkx,old _ _ (O.bu _ q hq),if_pos rfl]
structure Hand (C:Cs)(W:Tb)(r:List Nat):Prop where
 nd:r.Nodup
 li:Ez C.A r
 lv:∀q∈r,Live C q
 it:∀q∈r,ic C q
 no:∀q∈r,q∉W.all
 kd:∀q∈r,∀s∈W.all,aL C.A s≠aL C.A q
 kr:∀q∈r,∀s∈r,aL C.A q=aL C.A s→q=s
theorem WC{C:Cs}{W:Tb}(O:dq C W)(hm:W.mv<W.ob.length):Hand C W.emp (W.ch (true,W.mv)):=by
 obtain⟨_,p,_⟩:=PD O hm;have nd:=adl.1 (p.nodup_iff.1 O.nd);have sub:∀q∈W.ch (true,W.mv),q∈W.all:=λq hq=>Tb.gk hq;have sub2:∀q∈W.emp.all,q∈W.all:=λq hq=>p.mem_iff.2 (agK _ hq);exact⟨nd.1,O.li _,λq hq=>O.lv q (sub q hq),λq hq=>O.it q (sub q hq),λq hq g=>nd.2.2 q hq q g rfl,
  λq hq s hs e=>nd.2.2 q hq s hs (O.kd s (sub2 s hs) q (sub q hq) e).symm,λq hq s hs e=>O.kd q (sub q hq) s (sub s hs) e⟩
def Tb.on (W:Tb)(C:Cs)(p:Nat):Tb:=W.cT (W.bk (cx (aL C.A p))) (p::W.ch (W.bk (cx (aL C.A p))))
def BK (W:Tb)(C:Cs)(p:Nat):By:=wr C.A p 4 (nO (W.ch (W.bk (cx (aL C.A p)))).head?)
theorem ae6{C:Cs}(K:Ok C){W:Tb}(O:dq C W.nn){p:Nat}{r:List Nat}(H:Hand C W (p::r)):
  dq (C.wA (BK W C p)) (W.on C p).nn∧Hand (C.wA (BK W C p)) (W.on C p) r∧(W.on C p).all.Perm (p::W.all)∧qh C.A (BK W C p) [p] 0 4:=by
 have L:=H.lv p (by simp);have I:=H.it p (by simp);have P:=AX K O L I (H.no p (by simp)) (H.kd p (by simp)) (x:=W.bk (cx (aL C.A p))) rfl;have hx:Ei W (W.bk (cx (aL C.A p))):=qT O (cx (aL C.A p));obtain⟨r1,p1,p2⟩:=Tb.nH hx;have pa:(W.on C p).all.Perm (p::W.all):=(p2 _).trans (acN.cons p p1.symm);have ne:(W.on C p).nn={W.nn.cT (W.bk (cx (aL C.A p))) (p::W.ch (W.bk (cx (aL C.A p))))with n:=W.nn.n+1}:=by
  have:(W.on C p).all.length=W.all.length+1:=by rw[pa.length_eq];rfl
  unfold Tb.nn;rw[this];unfold Tb.on;rcases W.bk (cx (aL C.A p))with⟨_|_,i⟩<;>rfl
 have d:qh C.A (BK W C p) [p] 0 4:=wD C.A (q:=p) (a:=0) (by simp);have nd:=acP.1 H.nd;have kp:∀q∈r,Kept C (BK W C p) q:=λq hq=>mT K (H.lv q (by simp[hq])) L (H.it q (by simp[hq])) _;have kw:∀q∈W.all,Kept C (BK W C p) q:=λq hq=>mT K (O.lv q hq) L (O.it q hq) _;have kpp:Kept C (BK W C p) p:=mT K L L I _;refine⟨by rw[ne];exact P,⟨nd.2,pM (λq hq=>sg K (H.lv q (by simp[hq])) L (λe=>nd.1 (e▸hq)) _) H.li.2,λq hq=>(H.lv q (by simp[hq])).wA _,λq hq=>(kp q hq).it (H.it q (by simp[hq])),λq hq g=> ?_,λq hq s hs e=> ?_,λq hq s hs e=> ?_⟩,pa,d⟩
 ·rcases acT.1 (pa.mem_iff.1 g)with h|h
  ·exact nd.1 (h▸hq)
  exact H.no q (by simp[hq]) h
 ·change aL (BK W C p) s=aL (BK W C p) q at e
  rw[(kp q hq).key]at e;rcases acT.1 (pa.mem_iff.1 hs)with h|h
  ·subst h
   rw[kpp.key]at e;have:=H.kr s (by simp) q (by simp[hq]) e;exact nd.1 (this▸hq)
  rw[(kw s h).key]at e;exact H.kd q (by simp[hq]) s h e
 change aL (BK W C p) q=aL (BK W C p) s at e;rw[(kp q hq).key,(kp s hs).key]at e;exact H.kr q (by simp[hq]) s (by simp[hs]) e
structure qs (W V:Tb):Prop where
 n:V.n=W.n
 st:V.st=W.st
 size:V.size=W.size
 aF:V.aF=W.aF
 nb:V.nb.length=W.nb.length
 ob:V.ob.length=W.ob.length
theorem qs.on{C:Cs}{W V:Tb}(h:qs W V)(p:Nat):qs W (V.on C p):=by
 unfold Tb.on;rcases V.bk (cx (aL C.A p))with⟨_|_,i⟩
 ·exact⟨h.n,h.st,h.size,h.aF,by rw[←h.nb];exact acE,h.ob⟩
 exact⟨h.n,h.st,h.size,h.aF,h.nb,by rw[←h.ob];exact acE⟩
theorem XO (C:Cs)(W:Tb)(p:Nat):(W.on C p).mv=W.mv:=by
 unfold Tb.on;rcases W.bk (cx (aL C.A p))with⟨_|_,i⟩<;>rfl
structure Ux (C:Cs)(W:Tb)(A:By)(V:Tb)(r:List Nat)(k:Nat):Prop where
 o:dq (C.wA A) V.nn
 h:Hand (C.wA A) V r
 p:(r++V.all).Perm W.all
 d:qh C.A A W.all 0 4
 s:qs W V
 mv:V.mv=W.mv+1
 k:k+r.length≤W.n
structure Zi (C:Cs)(W:Tb)(A:By)(V:Tb):Prop where
 o:dq (C.wA A) V
 p:V.all.Perm W.all
 d:qh C.A A W.all 0 4
 s:qs W V
 mv:V.mv=W.mv+1
theorem Ux.start{C:Cs}{W:Tb}(O:dq C W)(hm:W.mv<W.ob.length):Ux C W C.A W.emp (W.ch (true,W.mv)) 0:=by
 obtain⟨h1,h2,_⟩:=PD O hm;exact⟨h1,WC O hm,h2.symm,qh.refl _ _ _ _,⟨rfl,rfl,rfl,rfl,rfl,acE⟩,rfl,by have:=tq O (true,W.mv);omega⟩
theorem Ux.step{C:Cs}(K:Ok C){W:Tb}{A:By}{V:Tb}{p:Nat}{r:List Nat}{k:Nat}(I:Ux C W A V (p::r) k):Ux C W (BK V (C.wA A) p) (V.on (C.wA A) p) r (k+1):=by
 obtain⟨h1,h2,h3,h4⟩:=ae6 (K.wA A) I.o I.h;have hp:p∈W.all:=I.p.mem_iff.1 (by simp);refine⟨h1,h2, ?_,I.d.trans (h4.mono λq hq=>by rw[acX]at hq;exact hq▸hp),I.s.on p,by rw[XO];exact I.mv,by have:=I.k;simp at this;omega⟩;refine(acN.append_left r h3).trans (acN.trans ?_ I.p);exact List.perm_middle
theorem Ux.done{C:Cs}{W:Tb}(O:dq C W){A:By}{V:Tb}{k:Nat}(I:Ux C W A V [] k):Zi C W A V:=by
 have e:V.nn=V:=by
  unfold Tb.nn;have h1:=I.p.length_eq;simp only[List.nil_append]at h1;rw[h1,←O.n,←I.s.n]
 have o:=I.o;rw[e]at o;exact⟨o,by simpa using I.p,I.d,I.s,I.mv⟩
theorem WT (b:Nat)(W:Tb)(nk ok:Nat): [.pointer (some ⟨b,0,none⟩), .int .i64 (W.aF:Int), .int .i64 (W.n:Int), .int .i64 (W.size:Int), .slice (some ⟨nk,0,none⟩) W.nb.length W.nb.length, .slice (some ⟨ok,0,none⟩) W.ob.length W.ob.length, .int .i64 ((W.mv:Int)+1), .int .i64 (W.st:Int)]=fA b W.emp ⟨nk,some ok⟩:=by
 unfold fA Tz;rw[Tb.PE,acE];rfl
theorem Qz (t b:Nat)(C:Cs)(K:Ok C)(W:Tb)(y:p9)(O:dq C W)(hy:y.ok=none→W.ob= [])(hm:W.mv<W.ob.length):
  aH acw 122 [.pointer (some ⟨t,0,none⟩), .int .i64 (W.mv:Int)] (λ_=>True) (Cl b C::me t b W y)
   (λv H=>v= .tuple #[]∧∃A V,H=Cl b (C.wA A)::me t b V y∧Zi C W A V):=by
 obtain⟨ok,pA⟩:∃ok,y.ok=some ok:=by
  rcases h:y.ok with _|ok
  ·rw[hy h]at hm;cases hm
  exact⟨ok,rfl⟩
 rcases y with⟨nk,_⟩
 dsimp only at pA;subst pA;have hn:=Aa K O;have mvb:=O.mv;have st:=Ux.start O hm;have ho:dm C (W.ch (true,W.mv)).head?:=λq hq=>O.lv q (Tb.gk (ada hq));have dY:(aJ (aA W.ob))[W.mv]?=some (.int .u32 (nO (W.ch (true,W.mv)).head?:Int)):=o9 hm;change aH _ _ _ _ [Cl b C,ag t 145 [.pointer (some ⟨b,0,none⟩), .int .i64 (W.aF:Int), .int .i64 (W.n:Int), .int .i64 (W.size:Int), .slice (some ⟨nk,0,none⟩) W.nb.length W.nb.length, .slice (some ⟨ok,0,none⟩) W.ob.length W.ob.length, .int .i64 (W.mv:Int), .int .i64 (W.st:Int)],ag nk 163 (aJ (aA W.nb)),ag ok 163 (aJ (aA W.ob))] _;refine ae func122 rfl ntmps122 rfl ?_;intro F _;refine cN ?_;refine zl T.Ci (kV t b C W ⟨nk,some ok⟩ K (W.ch (true,W.mv)).head? ho) .nil (λ_ le aw=>⟨aw.1,aw.2.1⟩) ?_;refine cN ?_;refine Lp (oS T.oX ?_ (i:=W.mv) (hi:=by rw[kN,mV];exact hm));rw[show(aJ (aA W.ob)).set W.mv (.int .u32 0)=aJ (aA (W.ob.set W.mv []))from mU W.ob W.mv []];refine nj ?_;refine Hh (H':= [Cl b C,ag t 145 [.pointer (some ⟨b,0,none⟩), .int .i64 (W.aF:Int), .int .i64 (W.n:Int), .int .i64 (W.size:Int), .slice (some ⟨nk,0,none⟩) W.nb.length W.nb.length, .slice (some ⟨ok,0,none⟩) W.ob.length W.ob.length, .int .i64 ((W.mv:Int)+1), .int .i64 (W.st:Int)],ag nk 163 (aJ (aA W.nb)),ag ok 163 (aJ (aA (W.ob.set W.mv [])))]) ?_;rw[WT b W nk ok];refine Lo (ι:=By×Tb×List Nat×Nat) [29,30,31,32,33,34,35,36,37,38,41,42,43,6,44,45,46,47,48,49,50,51,52,4,39,40,5] (λs=>Ux C W s.1 s.2.1 s.2.2.1 s.2.2.2) (λs=> [(4, .int .u64 (hO (C.wA s.1) s.2.2.1.head?:Int)),(5, .int .i64 (s.2.2.2:Int))]) (λs=> [Cl b (C.wA s.1),ag t 145 (fA b s.2.1 ⟨nk,some ok⟩),ag nk 163 (aJ (aA s.2.1.nb)),ag ok 163 (aJ (aA s.2.1.ob))]) (λs=>s.2.2.1.length) ((C.A,W.emp,W.ch (true,W.mv),0)) st ?_;rintro⟨A,V,r,k⟩ hI;dsimp only at hI⊢;have K2:=K.wA A;have hk:=hI.k;have hsn:=hI.s.n;rcases r with _|⟨p,r⟩
 ·unfold fA
  refine bc ?_;refine zf 31 ?_ (e:=by rfl);refine gR ?_;refine jM [Cl b (C.wA A),ag t 145 (fA b V ⟨nk,some ok⟩),ag nk 163 (aJ (aA V.nb)),ag ok 163 (aJ (aA V.ob))] results122 ?_;exact⟨rfl,A,V,rfl,hI.done O⟩
 have L:=hI.h.lv p (by simp);have I:=hI.h.it p (by simp);obtain⟨m1,m2,m3,m4,m5,m6⟩:=cB K2 L.toAt;have hx:=qT hI.o (cx (aL A p));have lvr:dm (C.wA A) r.head?:=λq hq=>hI.h.lv q (acC _ (ada hq));have lvc:dm (C.wA A) (V.ch (V.bk (cx (aL A p)))).head?:=λq hq=>hI.o.lv q (Tb.gk (T:=V) (ada hq));have lk:(aL A p).length=kl A p:=dC _ _ _;obtain⟨z1,z2,z3,_⟩:=L.toAt.bo K2;have lf:=I.fits;change 58+kl A p+vl A p≤_ at lf;have f1:=K2.toFix.p1;have iY:=hI.step K;have qA:V.on (C.wA A) p=V.cT (V.bk (cx (aL A p))) (p::V.ch (V.bk (cx (aL A p)))):=rfl;have hoA:BK V (C.wA A) p=wr A p 4 (nO (V.ch (V.bk (cx (aL A p)))).head?):=rfl;have hbk:Tb.bk {V with n:=V.all.length} (cx (aL A p))=V.bk (cx (aL A p)):=rfl;rw[qA,hoA]at iY;simp only[List.length_cons]at hk;rw[List.head?_cons,cQ];unfold fA;refine bc ?_;refine zt 31 ?_ (e:=by exact by rw[decide_eq_false (by omega)];rfl);refine cI ?_;refine dz ?_;refine bH ?_;refine zl T.yQ (jq t b (C.wA A) V ⟨nk,some ok⟩ K2 p r.head? L I.k0 lvr hI.h.li.1) .nil (λ_ le aw=>⟨aw.1,aw.2.1⟩) ?_;refine bH ?_;refine Lp (oC T.tm rfl rfl (pD t b (C.wA A) V ⟨nk,some ok⟩ K2 p L I) .nil (λ_ le aw=>⟨aw.1,aw.2.1⟩) ?_);rintro v H' ⟨kb,rfl,rfl⟩;refine bd ?_;refine zl T.Ch (kW t b (C.wA A) V ⟨nk,some ok⟩ V.all.length hI.o (λh=>by cases h) (some ⟨kb,0,none⟩) (kl A p) (kl A p) (aL A p) lk.symm (by omega)) .nil (λ_ le aw=>⟨aw.2.2.1,bD aw.1⟩) ?_;refine ay ?_;replace hx:Ei V (V.bk (cx (aL A p))):=hx
 clear qA hoA hbk
 generalize V.bk (cx (aL A p))=x at hx lvc iY⊢;refine zl T.Fi (wX t b (C.wA A) K2 V ⟨nk,some ok⟩ (λh=>by cases h) x hx p L I.k0 lvc) (.cons (.there .here) (.cons (.there .here) (.cons (.there .here) (.cons (.there .here) .nil)))) (λ_ _ _=>trivial) ?_;refine bK ?_;refine az ?_;refine Ro ((wr A p 4 (nO (V.ch x).head?),V.cT x (p::V.ch x),r,k+1)) (iY) ((by simp))
def Tb.fin (W:Tb):Tb:={W with ob:= [],st:=0}
theorem abR{C:Cs}{W:Tb}(O:dq C W)(hm:W.ob.length≤W.mv):dq C W.fin∧W.fin.all.Perm W.all:=by
 obtain⟨m,UK,ep⟩:=O.pw;obtain⟨p1,_⟩:=qm ep UK;have no:∀i,W.ch (true,i)= []:=λi=>by
  refine ahk.2 λq hq=> ?_;have h:=O.bu _ q hq;unfold Tb.bk at h
  split at h
  ·next g=>
   have:=agX (cx (aL C.A q)) g.1;omega
  cases h
 have obf:W.ob.flatten= []:=by
  refine ahk.2 λq hq=> ?_;obtain⟨l,h1,h2⟩:=ag9.1 hq;obtain⟨i,hi,rfl⟩:=acR h1;have:=no i;unfold Tb.ch at this;rw[if_pos rfl,acy,acx hi]at this;change W.ob[i]= []at this;rw[this]at h2;cases h2
 have ea:W.fin.all=W.all:=by unfold Tb.fin Tb.all;rw[obf];rfl
 have chx:∀z,W.fin.ch z=W.ch z:=λz=>by
  rcases z with⟨_|_,i⟩
  ·rfl
  rw[no i];rfl
 refine⟨⟨O.pw, .inl rfl, .inl ⟨rfl,rfl⟩,O.mp,O.sz,O.ML,O.sm,O.mv,by rw[ea];exact O.n,by rw[ea];exact O.nd,λz=>by rw[chx];exact O.li z,by rw[ea];exact O.lv,by rw[ea];exact O.it,λz q hq=> ?_,by rw[ea];exact O.kd⟩,by rw[ea]⟩;rw[chx]at hq;have h:=O.bu z q hq;rw[←h];unfold Tb.bk Tb.fin;rw[if_neg (by simp)]
 split
 ·next g=>
  have:=agX (cx (aL C.A q)) g.1;omega
 rfl
def Tb.GV (W:Tb)(s:Nat):Tb:={W with size:=s,nb:=acA s [],ob:=W.nb,mv:=0,st:=2}
theorem SC (s:Nat):(acA s ([]:List Nat)).flatten= []:=by
 rw[List.flatten_eq_nil_iff];intro l h;exact List.eq_of_mem_replicate h
theorem PQ{C:Cs}{W:Tb}(O:dq C W)(h0:W.st=0){s:Nat}(hs:∃m,m≤20∧s=2^m)(MB:16≤s)(hm:s≤W.aF):dq C (W.GV s)∧(W.GV s).all=W.all:=by
 obtain⟨m,UK,ep⟩:=O.pw;obtain⟨p1,p2⟩:=qm ep UK;have ob0:W.ob= []:=by
  rcases O.st with h|h
  ·exact h.2
  omega
 have ea:(W.GV s).all=W.all:=by
  unfold Tb.GV Tb.all;rw[ob0];show(acA s []).flatten++W.nb.flatten=_;rw[SC];simp
 have chf:∀i,(W.GV s).ch (false,i)= []:=λi=>by
  show(acA s []).getD i []= [];rw[acy];by_cases h:i<s
  ·rw[ac8,if_pos h];rfl
  rw[ac8,if_neg h];rfl
 refine⟨⟨by obtain⟨m,h1,h2⟩:=hs;exact⟨m,h1,by show(acA s _).length=_;rw[adp];exact h2⟩, .inr O.pw, .inr ⟨rfl,by show 0<W.nb.length;omega,acS _⟩,O.mp,(adp ..).symm,MB,hm,acS _,by rw[ea];exact O.n,by rw[ea];exact O.nd,λz=> ?_,by rw[ea];exact O.lv,by rw[ea];exact O.it,λz q hq=> ?_,by rw[ea];exact O.kd⟩,ea⟩
 ·rcases z with⟨_|_,i⟩
  ·rw[chf];trivial
  exact O.li (false,i)
 rcases z with⟨_|_,i⟩
 ·rw[chf]at hq;cases hq
 have h:=O.bu (false,i) q hq;unfold Tb.bk at h;rw[if_neg (by rw[ob0];simp)]at h;show Tb.bk (W.GV s) _=_;unfold Tb.bk;rw[if_pos ⟨by show 0<W.nb.length;omega,acS _⟩];have:=(Prod.mk.inj h).2;show(true,cx (aL C.A q) % W.nb.length)=_;rw[this]
structure v8 (C:Cs)(W:Tb)(k:Nat)(A:By)(V:Tb):Prop where
 o:dq (C.wA A) V
 p:V.all.Perm W.all
 d:qh C.A A W.all 0 4
 s:qs W V
 mv:V.mv=W.mv+k
theorem v8.zero{C:Cs}{W:Tb}(O:dq C W):v8 C W 0 C.A W:=⟨O,acN.refl _,qh.refl _ _ _ _,⟨rfl,rfl,rfl,rfl,rfl,rfl⟩,rfl⟩
theorem v8.next{C:Cs}{W:Tb}{k:Nat}{A:By}{V:Tb}(I:v8 C W k A V){B:By}{U:Tb}(M:Zi (C.wA A) V B U):v8 C W (k+1) B U:=
 ⟨M.o,M.p.trans I.p,I.d.trans (M.d.mono λq hq=>I.p.mem_iff.1 hq),⟨M.s.n.trans I.s.n,M.s.st.trans I.s.st,M.s.size.trans I.s.size,M.s.aF.trans I.s.aF,M.s.nb.trans I.s.nb,M.s.ob.trans I.s.ob⟩,by rw[M.mv,I.mv];omega⟩
structure Stp (C:Cs)(W:Tb)(k:Nat)(A:By)(V:Tb):Prop where
 o:dq (C.wA A) V
 p:V.all.Perm W.all
 d:qh C.A A W.all 0 4
 n:V.n=W.n
 size:V.size=W.size
 aF:V.aF=W.aF
 on:W.mv+k<W.ob.length→V.st=2∧V.mv=W.mv+k∧V.ob.length=W.ob.length
 off:W.ob.length≤W.mv+k→V.st=0
theorem v8.go{C:Cs}{W:Tb}{k:Nat}{A:By}{V:Tb}(I:v8 C W k A V)(h2:W.st=2)(h:W.mv+k<W.ob.length):Stp C W k A V:=
 ⟨I.o,I.p,I.d,I.s.n,I.s.size,I.s.aF,λ_=>⟨by rw[I.s.st,h2],I.mv,I.s.ob⟩,λg=>by omega⟩
theorem v8.fin{C:Cs}{W:Tb}{k j:Nat}{A:By}{V:Tb}(I:v8 C W k A V)(h:W.mv+k=W.ob.length)(hj:k≤j):Stp C W j A V.fin:=by
 obtain⟨f1,f2⟩:=abR I.o (by rw[I.s.ob,I.mv];omega);exact⟨f1,f2.trans I.p,I.d,I.s.n,I.s.size,I.s.aF,λg=>by omega,λ_=>rfl⟩
theorem Ju (t b:Nat)(C:Cs)(K:Ok C)(W:Tb)(y:p9)(h0:W.st=0)(k:Nat):
  aH acw 78 [.pointer (some ⟨t,0,none⟩), .int .i64 (k:Int)] (In (ag t 145 (fA b W y))) []
   (λv H=>v= .int .i64 0∧H= []):=by
 unfold fA;rw[h0];refine ae func78 rfl ntmps78 rfl ?_;intro F ht;refine bT ?_;refine bT ?_;refine z7 ?_;refine Rt [] results78 ?_;exact⟨rfl,rfl⟩
theorem Js (t b:Nat)(C:Cs)(K:Ok C)(W:Tb)(nk ok:Nat)(O:dq C W)(h2:W.st=2)(hm:W.mv<W.ob.length)(k:Nat)(hk:k≤1099511627776):
  aH acw 78 [.pointer (some ⟨t,0,none⟩), .int .i64 (k:Int)] (λ_=>True) (Cl b C::me t b W ⟨nk,some ok⟩)
   (λv H=>v= .int .i64 ((min k (W.ob.length-W.mv):Nat):Int)∧∃A V o',H=Cl b (C.wA A)::me t b V ⟨nk,o'⟩∧(o'=none→V.ob= [])∧Stp C W k A V):=by
 have ol:W.ob.length≤1048576:=by
  rcases O.po with h|⟨m,hm,e⟩
  ·rw[h];decide
  exact(qm e hm).2
 change aH _ _ _ _ [Cl b C,ag t 145 [.pointer (some ⟨b,0,none⟩), .int .i64 (W.aF:Int), .int .i64 (W.n:Int), .int .i64 (W.size:Int), .slice (some ⟨nk,0,none⟩) W.nb.length W.nb.length, .slice (some ⟨ok,0,none⟩) W.ob.length W.ob.length, .int .i64 (W.mv:Int), .int .i64 (W.st:Int)],ag nk 163 (aJ (aA W.nb)),ag ok 163 (aJ (aA W.ob))] _;refine ae func78 rfl ntmps78 rfl ?_;intro F _;refine bT ?_;refine bB ?_;refine cu ?_;refine bH ?_;refine dz ?_;refine cN ?_;refine Lo (ι:=Nat×By×Tb) [27,28,29,30,31,32,33,34,35,36,37,38,39,40,41,44,45,46,47,48,49,42,43,5] (λs=>v8 C W s.1 s.2.1 s.2.2∧s.1≤k∧W.mv+s.1≤W.ob.length) (λs=> [(5, .int .i64 (s.1:Int))]) (λs=> [Cl b (C.wA s.2.1),ag t 145 (fA b s.2.2 ⟨nk,some ok⟩),ag nk 163 (aJ (aA s.2.2.nb)),ag ok 163 (aJ (aA s.2.2.ob))]) (λs=>k-s.1) ((0,C.A,W)) ⟨v8.zero O,acS _,Nat.le_of_lt hm⟩ ?_;rintro⟨d,A,V⟩ hI;dsimp only at hI⊢;have K2:=K.wA A;have hmv:=hI.1.mv;have hob:=hI.1.s.ob;have hd:=hI.2;unfold fA;refine ay ?_;refine au ?_;refine gK 14 T.mix (.cons (.there .here) .nil) λF1 iT cj aI=> ?_;obtain⟨q1,_⟩:=cj;by_cases hg:d<k
 ·refine Ti Mv ?_
  refine aZ ?_;refine zt 30 ?_;refine bw ?_;refine gd aI ?_;refine a8 ?_;by_cases hl:W.mv+d<W.ob.length
  ·refine dz ?_
   refine Hh (H':= [Cl b (C.wA A),ag t 145 (fA b V ⟨nk,some ok⟩),ag nk 163 (aJ (aA V.nb)),ag ok 163 (aJ (aA V.ob))]) ?_;unfold fA;refine bw ?_;refine Lp (oC T.abF rfl rfl (Qz t b (C.wA A) K2 V ⟨nk,some ok⟩ hI.1.o (λh=>by cases h) (by omega)) (.cons .here (.cons .here (.cons .here (.cons .here .nil)))) (λ_ _ _=>trivial) ?_);rintro v H' ⟨rfl,B,U,rfl,hM⟩;refine bd ?_;refine bH ?_;refine az ?_;refine Ro ((d+1,B,U)) (⟨hI.1.next hM,by dsimp only;omega,by dsimp only;omega⟩) ((by dsimp only;omega))
  refine cu ?_;refine bB ?_;refine au ?_;refine gK 9 T.mix (.cons .here .nil) λF2 yi ez dX=> ?_;obtain⟨q1,_⟩:=ez;refine cN ?_;refine gd dX ?_;refine a8 ?_;refine cu ?_;refine bT ?_;refine bK ?_;refine aC (λ_ s=>iB (A:=Jb) (λ_=>trivial) s) ?_;refine Rt [Cl b (C.wA A),ag t 145 (fA b V.fin ⟨nk,none⟩),ag nk 163 (aJ (aA V.nb)),Jb] results78 ?_;exact⟨by rw[show min k (W.ob.length-W.mv)=d by omega],A,V.fin,none,rfl,λ_=>rfl,hI.1.fin (by omega) hd.1⟩
 refine Ti Mv ?_;refine aZ ?_;refine zf 30 ?_;refine bw ?_;refine gd aI ?_;refine cN ?_;refine au ?_;refine gK 9 T.mix (.cons .here .nil) λF3 MN qH fM=> ?_;obtain⟨q1,_⟩:=qH;refine cN ?_;refine gd fM ?_;refine a8 ?_;by_cases hl:W.mv+d<W.ob.length
 ·refine dz ?_
  refine bK ?_;refine Rt [Cl b (C.wA A),ag t 145 (fA b V ⟨nk,some ok⟩),ag nk 163 (aJ (aA V.nb)),ag ok 163 (aJ (aA V.ob))] results78 ?_;obtain rfl:d=k:=by omega
  exact⟨by rw[show min d (W.ob.length-W.mv)=d by omega],A,V,some ok,rfl,(λh=>by cases h),hI.1.go h2 hl⟩
 refine cu ?_;refine bT ?_;refine bK ?_;refine aC (λ_ s=>iB (A:=Jb) (λ_=>trivial) s) ?_;refine Rt [Cl b (C.wA A),ag t 145 (fA b V.fin ⟨nk,none⟩),ag nk 163 (aJ (aA V.nb)),Jb] results78 ?_;exact⟨by rw[show min k (W.ob.length-W.mv)=d by omega],A,V.fin,none,rfl,λ_=>rfl,hI.1.fin (by omega) hd.1⟩
theorem zi (s:Nat):gu [.int .u32 0] (s*1)=aJ (aA (acA s [])):=by
 rw[o0,Nat.mul_one];unfold aJ aA;rw[adk,adk];rfl
theorem Jt (t b nk mo n s L:Nat)(hs:s≤1048576)(hL:0<L∧L≤1048576):
  aH acw 78 [.pointer (some ⟨t,0,none⟩), .int .i64 0] (λ_=>True) [ag t 145 [.pointer (some ⟨b,0,none⟩), .int .i64 (mo:Int), .int .i64 (n:Int), .int .i64 (s:Int), .slice none 0 0, .slice (some ⟨nk,0,none⟩) L L, .int .i64 0, .int .i64 1]]
   (λv H=>v= .int .i64 0∧∃mk,H= [ag t 145 [.pointer (some ⟨b,0,none⟩), .int .i64 (mo:Int), .int .i64 (n:Int), .int .i64 (s:Int), .slice (some ⟨mk,0,none⟩) s s, .slice (some ⟨nk,0,none⟩) L L, .int .i64 0, .int .i64 2],ag mk 163 (aJ (aA (acA s [])))]):=by
 refine ae func78 rfl ntmps78 rfl ?_;intro F _;refine bT ?_;refine z7 ?_;refine Lp (oM (s) (s) T.AO λb1=> ?_);rw[zi];refine fF ?_;refine Lo (ι:=Unit) [27,28,29,30,31,32,33,34,35,36,37,38,39,40,41,44,45,46,47,48,49,42,43,5] (λu=>True) (λu=> [(5, .int .i64 0)]) (λu=> [ag t 145 [.pointer (some ⟨b,0,none⟩), .int .i64 (mo:Int), .int .i64 (n:Int), .int .i64 (s:Int), .slice (some ⟨b1,0,none⟩) s s, .slice (some ⟨nk,0,none⟩) L L, .int .i64 0, .int .i64 2],ag b1 163 (aJ (aA (acA s [])))]) (λu=>0) (()) trivial ?_;rintro u hI;refine ay ?_;refine au ?_;refine gK 14 T.mix (.cons .here .nil) λF1 iT cj aI=> ?_;obtain⟨q1,_⟩:=cj;refine aR ?_;refine zf 30 ?_ (e:=by rfl);refine bw ?_;refine gd aI ?_;refine cN ?_;refine au ?_;refine gK 9 T.mix (.cons .here .nil) λF2 yi ez dX=> ?_;obtain⟨q1,_⟩:=ez;refine cN ?_;refine gd dX ?_;refine a8 ?_;refine dz ?_;refine bK ?_;refine Rt [ag t 145 [.pointer (some ⟨b,0,none⟩), .int .i64 (mo:Int), .int .i64 (n:Int), .int .i64 (s:Int), .slice (some ⟨b1,0,none⟩) s s, .slice (some ⟨nk,0,none⟩) L L, .int .i64 0, .int .i64 2],ag b1 163 (aJ (aA (acA s [])))] results78 ?_;exact⟨rfl,_,rfl⟩
theorem yY (t b:Nat)(C:Cs)(W:Tb)(y:p9)(O:dq C W)(s:Nat)(hs:s≤1048576):
  aH acw 152 [.pointer (some ⟨t,0,none⟩), .int .i64 (s:Int)] (λ_=>True) [ag t 145 (fA b W y),ag y.nk 163 (aJ (aA W.nb))]
   (λv H=>v= .tuple #[]∧∃mk,H=me t b (W.GV s) ⟨mk,some y.nk⟩):=by
 obtain⟨i,hi,ei⟩:=O.pw;have hp:=qm ei hi;unfold fA;refine ae func152 rfl ntmps152 rfl ?_;intro F _;refine bT ?_;refine kx ?_;refine Lp (oC T.Yi rfl rfl (Jt t b y.nk W.aF W.n s W.nb.length hs (by omega)) (.cons .here .nil) (λ_ _ _=>trivial) ?_);rintro v H' ⟨rfl,mk,rfl⟩;refine bd ?_;refine az ?_;refine jM [ag t 145 [.pointer (some ⟨b,0,none⟩), .int .i64 (W.aF:Int), .int .i64 (W.n:Int), .int .i64 (s:Int), .slice (some ⟨mk,0,none⟩) s s, .slice (some ⟨y.nk,0,none⟩) W.nb.length W.nb.length, .int .i64 0, .int .i64 2],ag mk 163 (aJ (aA (acA s []))),ag y.nk 163 (aJ (aA W.nb))] results152 ?_;exact⟨rfl,mk,by simp[me,fA,Tb.GV,Tz,jV]⟩
theorem N3 (t b:Nat)(C:Cs)(K:Ok C)(W:Tb)(y:p9)(O:dq C W)(hy:y.ok=none→W.ob= [])(p:Nat)(hp:p∈W.all):
  aH acw 150 [.pointer (some ⟨t,0,none⟩), .int .u64 (C.hd p:Int)] (λh=>In (Cl b C) h∧hJ (me t b W y) h) []
   (λv H=>v= .bool true∧H= []):=by
 have L:=O.lv p hp;have I:=O.it p hp;have lk:(aL C.A p).length=kl C.A p:=dC _ _ _;have hk:=I.k0;have hf:=I.fits;obtain⟨z1,z2,z3,_⟩:=L.toAt.bo K;have f1:=K.toFix.p1;have eg:=get_some O hp rfl;refine ae func150 rfl ntmps150 rfl ?_;rintro F ⟨hc,ht⟩;refine bB ?_;refine Lp (oC T.tm rfl rfl (pD t b C W y K p L I) .nil (λ_ le _=>⟨In.mono hc le,In.mono ht.1 le⟩) ?_);rintro v H' ⟨kb,rfl,rfl⟩;refine bd ?_;refine bc ?_;refine zl T.yR (mE t b C K W y O hy (some ⟨kb,0,none⟩) (kl C.A p) (kl C.A p) (aL C.A p) lk.symm (by omega)) .nil (λ_ le aw=>⟨In.mono hc le,dt ht le,bD aw.1⟩) ?_;rw[eg,cQ];refine bK ?_;refine zt 20 ?_;refine aZ ?_;refine zt 23 ?_ (e:=by rfl);refine bH ?_;refine Rt [] results150 ?_;exact⟨by rw[decide_eq_true rfl],rfl⟩
def oQ (W:Tb):Prop:=W.st=0∧3*W.size<2*(W.n+1)∧W.size<W.aF
structure YF (C:Cs)(W:Tb)(p:Nat)(A:By)(V:Tb):Prop where
 o:dq (C.wA A) V
 pm:V.all.Perm (p::W.all)
 df:qh C.A A [p] 0 4
 n:V.n=W.n+1
 aF:V.aF=W.aF
 YV:oQ W→V.size=2*W.size∧V.st=2∧V.mv=0∧V.ob.length=W.size
 same:¬oQ W→V.size=W.size∧V.st=W.st∧V.mv=W.mv∧V.ob.length=W.ob.length
theorem aeI{C:Cs}{W:Tb}(O:dq C W)(h:W.size<W.aF):2*W.size≤W.aF∧∃m,m≤20∧2*W.size=2^m:=by
 obtain⟨m,hm,e⟩:=O.pw;obtain⟨M,hM,e2⟩:=O.mp;have e0:=O.sz;have h3:(2:Nat)^m<2^M:=by omega
 have h4:m<M:=(ahK (by decide)).1 h3;have h5:(2:Nat)^(m+1)≤2^M:=ady (by decide) h4;rw[adK]at h5;exact⟨by omega,m+1,by omega,by rw[adK];omega⟩
theorem Vb (t b:Nat)(C:Cs)(K:Ok C)(W:Tb)(y:p9)(O:dq C W)(hy:y.ok=none→W.ob= [])(p:Nat)(L:Live C p)(I:ic C p)(hp:p∉W.all)(hkd:∀q∈W.all,aL C.A q≠aL C.A p):
  aH acw 183 [.pointer (some ⟨t,0,none⟩), .int .u64 (C.hd p:Int)] (λ_=>True) (Cl b C::me t b W y)
   (λv H=>v= .int .i64 0∧∃A V y',H=Cl b (C.wA A)::me t b V y'∧(y'.ok=none→V.ob= [])∧YF C W p A V):=by
 have lk:(aL C.A p).length=kl C.A p:=dC _ _ _;have hk:=I.k0;have hf:=I.fits;obtain⟨z1,z2,z3,_⟩:=L.toAt.bo K;have f1:=K.toFix.p1;have eg:W.get C (aL C.A p)=none:=get_none hkd;have hn:=Aa K O;have MB:=O.ML;have Mw:=O.sm;have afh:W.aF≤1048576:=by
  obtain⟨m,hm,e⟩:=O.mp;exact(qm e hm).2
 have sT:∃m,m≤20∧W.size=2^m:=by rw[O.sz];exact O.pw
 have P:=AX K O L I hp hkd (x:=W.bk (cx (aL C.A p))) rfl;have hx:=qT O (cx (aL C.A p));obtain⟨r1,p1,p2⟩:=Tb.nH hx;have pa:(W.on C p).all.Perm (p::W.all):=(p2 _).trans (acN.cons p p1.symm);have S:qs W (W.on C p):=qs.on (C:=C) ⟨rfl,rfl,rfl,rfl,rfl,rfl⟩ p;have Sm:(W.on C p).mv=W.mv:=XO C W p;have lO:dm C (W.ch (W.bk (cx (aL C.A p)))).head?:=λq hq=>O.lv q (Tb.gk (ada hq));change dq (C.wA (BK W C p)) {W.on C p with n:=W.n+1}at P;have MQ:y.ok=none→(W.on C p).ob= []:=λh=>acW (by rw[S.ob,hy h];rfl);have d:qh C.A (BK W C p) [p] 0 4:=wD C.A (q:=p) (a:=0) (by simp);have eon:W.on C p=W.cT (W.bk (cx (aL C.A p))) (p::W.ch (W.bk (cx (aL C.A p)))):=rfl;have eoA:BK W C p=wr C.A p 4 (nO (W.ch (W.bk (cx (aL C.A p)))).head?):=rfl;generalize hV:W.on C p=V at*;generalize hA:BK W C p=A at*;generalize hxx:W.bk (cx (aL C.A p))=x at*;obtain⟨s1,s2,s3,s4,s5,s6⟩:=S;refine ae func183 rfl ntmps183 rfl ?_;intro F _;refine bB ?_;refine Lp (oC T.tm rfl rfl (pD t b C W y K p L I) .nil (λ_ le aw=>⟨aw.1,aw.2.1⟩) ?_);rintro v H' ⟨kb,rfl,rfl⟩;refine bd ?_;refine cI ?_;refine cu ?_;refine bB ?_;refine zl T.yR (mE t b C K W y O hy (some ⟨kb,0,none⟩) (kl C.A p) (kl C.A p) (aL C.A p) lk.symm (by omega)) .nil (λ_ le aw=>⟨aw.2.1,aw.2.2,bD aw.1⟩) ?_;rw[eg];refine qa ?_;refine zl T.Ch (kW t b C W y W.n O hy (some ⟨kb,0,none⟩) (kl C.A p) (kl C.A p) (aL C.A p) lk.symm (by omega)) .nil (λ_ le aw=>⟨aw.2.2.1,bD aw.1⟩) ?_;rw[hxx];refine ay ?_;refine zl T.Fi (wX t b C K W y hy x hx p L I.k0 lO) (.cons (.there .here) (.cons (.there .here) (.cons (.there .here) (.cons (.there .here) .nil)))) (λ_ _ _=>trivial) ?_;rw[←eon,←eoA];refine Hh (H':= [ag t 145 (fA b V y),ag y.nk 163 (aJ (aA V.nb)),jV y.ok 163 (aJ (aA V.ob)),Cl b (C.wA A)]) ?_;unfold fA;rw[s1];refine dQ ?_;refine au ?_;refine gK 28 T.mix (.cons .here .nil) λF1 iT cj aI=> ?_;obtain⟨q1,_⟩:=cj;by_cases h0:W.st=0
 ·refine Ti Mv ?_
  refine bc ?_;refine zt 39 ?_;refine gR ?_;by_cases h1:3*W.size<2*(W.n+1)
  ·refine zt 52 ?_
   refine cN ?_;refine gd aI ?_;refine a8 ?_;by_cases h2:W.size<W.aF
   ·have hg:oQ W:=⟨h0,h1,h2⟩
    have hdb:=aeI O h2;refine dz ?_;refine bH ?_;refine ao (t:=68) (v':=(.int .i64 ((2*W.size:Nat):Int))) rfl (by(rw[s3];rfl)) ?_;refine Lp (oC T.Pu rfl rfl (yY t b (C.wA A) {V with n:=W.n+1} y P (2*W.size) (by omega)) (.cons .here (.cons .here .nil)) (λ_ _ _=>trivial) ?_);rintro v H' ⟨rfl,mk,rfl⟩;refine bd ?_;refine bc ?_;obtain⟨B1,B2⟩:=PQ (C:=C.wA A) P (s2.trans h0) (s:=2*W.size) hdb.2 (by omega) (by show 2*W.size≤V.aF;rw[s4];exact hdb.1);refine Rt [Cl b (C.wA A),ag t 145 (fA b (Tb.GV {V with n:=W.n+1} (2*W.size)) ⟨mk,some y.nk⟩),ag mk 163 (aJ (aA (Tb.GV {V with n:=W.n+1} (2*W.size)).nb)),jV (some y.nk) 163 (aJ (aA (Tb.GV {V with n:=W.n+1} (2*W.size)).ob))] results183 ?_;exact⟨rfl,A,_,⟨mk,some y.nk⟩,rfl,(λh=>by cases h),⟨B1,by rw[B2];exact pa,d,rfl,s4,λ_=>⟨rfl,rfl,rfl,by show V.nb.length=_;rw[s5,O.sz]⟩,λh=>absurd hg h⟩⟩
   have hg:¬oQ W:=λh=>h2 h.2.2;refine cu ?_;refine bB ?_;refine Rt [Cl b (C.wA A),ag t 145 (fA b {V with n:=W.n+1} y),ag y.nk 163 (aJ (aA V.nb)),jV y.ok 163 (aJ (aA V.ob))] results183 ?_;exact⟨rfl,A,{V with n:=W.n+1},y,rfl,MQ,⟨P,pa,d,rfl,s4,λh=>absurd h hg,λ_=>⟨s3,s2,Sm,s6⟩⟩⟩
  have hg:¬oQ W:=λh=>h1 h.2.1;refine zf 52 ?_;refine cN ?_;refine gd aI ?_;refine cN ?_;refine Rt [Cl b (C.wA A),ag t 145 (fA b {V with n:=W.n+1} y),ag y.nk 163 (aJ (aA V.nb)),jV y.ok 163 (aJ (aA V.ob))] results183 ?_;exact⟨rfl,A,{V with n:=W.n+1},y,rfl,MQ,⟨P,pa,d,rfl,s4,λh=>absurd h hg,λ_=>⟨s3,s2,Sm,s6⟩⟩⟩
 have hg:¬oQ W:=λh=>h0 h.1;refine bB ?_;refine zf 39 ?_;refine bT ?_;refine a8 ?_;refine gd aI ?_;refine cN ?_;refine Rt [Cl b (C.wA A),ag t 145 (fA b {V with n:=W.n+1} y),ag y.nk 163 (aJ (aA V.nb)),jV y.ok 163 (aJ (aA V.ob))] results183 ?_;exact⟨rfl,A,{V with n:=W.n+1},y,rfl,MQ,⟨P,pa,d,rfl,s4,λh=>absurd h hg,λ_=>⟨s3,s2,Sm,s6⟩⟩⟩
theorem tC (W:Tb)(x:Bool×Nat)(c:List Nat):qs W (W.cT x c)∧(W.cT x c).mv=W.mv:=by
 rcases x with⟨_|_,i⟩
 ·exact⟨⟨rfl,rfl,rfl,rfl,acE,rfl⟩,rfl⟩
 exact⟨⟨rfl,rfl,rfl,rfl,rfl,acE⟩,rfl⟩
theorem rr:∀{c:List Nat} {j:Nat} (h:j<c.length),(c[j]::c.eraseIdx j).Perm c
 |_::_,0,_=>acN.refl _
 |a::l,j+1,h=>(acN.swap a _ _).trans (acN.cons a (rr (c:=l) (j:=j) (by simpa using h)))
def iM (W:Tb):Prop:=W.st=0∧16<W.size∧8*(W.n-1)<W.size
structure FE (C:Cs)(W:Tb)(p:Nat)(A:By)(V:Tb):Prop where
 o:dq (C.wA A) V
 pm:(p::V.all).Perm W.all
 df:qh C.A A W.all 0 4
 n:V.n=W.n-1
 aF:V.aF=W.aF
 YV:iM W→V.size=W.size/2∧V.st=2∧V.mv=0∧V.ob.length=W.size
 same:¬iM W→V.size=W.size∧V.st=W.st∧V.mv=W.mv∧V.ob.length=W.ob.length
theorem half{C:Cs}{W:Tb}(O:dq C W)(h:16<W.size):(∃m,m≤20∧W.size/2=2^m)∧16≤W.size/2∧W.size/2≤W.aF:=by
 obtain⟨m,hm,e⟩:=O.pw;have e0:=O.sz;have e1:=O.sm;have h3:(2:Nat)^4<2^m:=by rw[←e,←e0];exact h
 have h4:4<m:=(ahK (by decide)).1 h3;obtain⟨i,rfl⟩:∃i,m=i+1:=⟨m-1,by omega⟩;rw[adK]at e;have h5:(2:Nat)^4≤2^i:=ady (by decide) (by omega);exact⟨⟨i,by omega,by omega⟩,by omega,by omega⟩
theorem Qx (t b:Nat)(C:Cs)(K:Ok C)(W:Tb)(y:p9)(O:dq C W)(hy:y.ok=none→W.ob= [])(p:Nat)(hp:p∈W.all):
  aH acw 99 [.pointer (some ⟨t,0,none⟩), .int .u64 (C.hd p:Int)] (λ_=>True) (Cl b C::me t b W y)
   (λv H=>v= .int .i64 0∧∃A V y',H=Cl b (C.wA A)::me t b V y'∧(y'.ok=none→V.ob= [])∧FE C W p A V):=by
 have hn:=Aa K O;have MB:=O.ML;have Mw:=O.sm;have afh:W.aF≤1048576:=by
  obtain⟨m,hm,e⟩:=O.mp;exact(qm e hm).2
 have hx:=qT O (cx (aL C.A p));have hpc:=Fy O hp;have hlen:=tq O (W.bk (cx (aL C.A p)));generalize hxx:W.bk (cx (aL C.A p))=x at*;obtain⟨c,hc⟩:∃c,W.ch x=c:=⟨_,rfl⟩;rw[hc]at hpc hlen;obtain⟨j,hj,ej⟩:=acR hpc;obtain⟨P,d⟩:=HJ K O hx hc hj ej;obtain⟨r1,p1,p2⟩:=Tb.nH hx;rw[hc]at p1;have pa:(p::(W.cT x (c.eraseIdx j)).all).Perm W.all:=by
  refine(acN.cons p (p2 _)).trans (acN.trans ?_ p1.symm);have:=acN.append_right r1 (rr hj);rw[ej]at this;exact this
 obtain⟨⟨s1,s2,s3,s4,s5,s6⟩,Sm⟩:=tC W x (c.eraseIdx j);have hn1:1≤W.n:=by omega
 have pull:=CC t b C K W y O hy x hx c hc j hj p ej;generalize hV:W.cT x (c.eraseIdx j)=V at*;generalize hA:oP C.A c j p=A at*;have MQ:y.ok=none→V.ob= []:=λh=>acW (by rw[s6,hy h];rfl);refine ae func99 rfl ntmps99 rfl ?_;intro F _;refine bH ?_;refine zl T.Fk (N3 t b C K W y O hy p hp) .nil (λ_ le aw=>⟨aw.1,aw.2⟩) ?_;refine cI ?_;refine zl T.Pw (pull) (.cons .here (.cons .here (.cons .here (.cons .here .nil)))) (λ_ _ _=>trivial) ?_;refine Hh (H':= [ag t 145 (fA b V y),ag y.nk 163 (aJ (aA V.nb)),jV y.ok 163 (aJ (aA V.ob)),Cl b (C.wA A)]) ?_;unfold fA;rw[s1];refine bH ?_;refine ao (t:=16) (v':=(.int .i64 ((W.n-1:Nat):Int))) rfl (by(congr 1;omega)) ?_;refine bc ?_;refine au ?_;refine gK 23 T.mix (.cons .here .nil) λF1 iT cj aI=> ?_;obtain⟨q1,_⟩:=cj;by_cases h0:W.st=0
 ·refine Ti Mv ?_
  refine bc ?_;refine zt 24 ?_;refine bH ?_;by_cases h1:16<W.size
  ·refine zt 31 ?_
   refine bw ?_;refine gd aI ?_;refine a8 ?_;by_cases h2:8*(W.n-1)<W.size
   ·have hg:iM W:=⟨h0,h1,h2⟩
    obtain⟨cm,bS,bP⟩:=half O h1;refine dz ?_;refine bB ?_;refine Li (Qu (q:=2)) ?_;refine ao (t:=48) (v':=(.int .i64 ((W.size/2:Nat):Int))) rfl (by rw[s3]) ?_;refine Lp (oC T.Pu rfl rfl (yY t b (C.wA A) {V with n:=W.n-1} y P (W.size/2) (by omega)) (.cons .here (.cons .here .nil)) (λ_ _ _=>trivial) ?_);rintro v H' ⟨rfl,mk,rfl⟩;refine bd ?_;refine bc ?_;obtain⟨B1,B2⟩:=PQ (C:=C.wA A) P (s2.trans h0) (s:=W.size/2) cm bS (by show W.size/2≤V.aF;rw[s4];exact bP);refine Rt [Cl b (C.wA A),ag t 145 (fA b (Tb.GV {V with n:=W.n-1} (W.size/2)) ⟨mk,some y.nk⟩),ag mk 163 (aJ (aA (Tb.GV {V with n:=W.n-1} (W.size/2)).nb)),jV (some y.nk) 163 (aJ (aA (Tb.GV {V with n:=W.n-1} (W.size/2)).ob))] results99 ?_;exact⟨rfl,A,_,⟨mk,some y.nk⟩,rfl,(λh=>by cases h),⟨B1,by rw[B2];exact pa,d,rfl,s4,λ_=>⟨rfl,rfl,rfl,by show V.nb.length=_;rw[s5,O.sz]⟩,λh=>absurd hg h⟩⟩
   have hg:¬iM W:=λh=>h2 h.2.2;refine cu ?_;refine bB ?_;refine Rt [Cl b (C.wA A),ag t 145 (fA b {V with n:=W.n-1} y),ag y.nk 163 (aJ (aA V.nb)),jV y.ok 163 (aJ (aA V.ob))] results99 ?_;exact⟨rfl,A,{V with n:=W.n-1},y,rfl,MQ,⟨P,pa,d,rfl,s4,λh=>absurd h hg,λ_=>⟨s3,s2,Sm,s6⟩⟩⟩
  have hg:¬iM W:=λh=>h1 h.2.1;refine zf 31 ?_;refine bw ?_;refine gd aI ?_;refine cN ?_;refine Rt [Cl b (C.wA A),ag t 145 (fA b {V with n:=W.n-1} y),ag y.nk 163 (aJ (aA V.nb)),jV y.ok 163 (aJ (aA V.ob))] results99 ?_;exact⟨rfl,A,{V with n:=W.n-1},y,rfl,MQ,⟨P,pa,d,rfl,s4,λh=>absurd h hg,λ_=>⟨s3,s2,Sm,s6⟩⟩⟩
 have hg:¬iM W:=λh=>h0 h.1;refine bB ?_;refine zf 24 ?_;refine kx ?_;refine gd aI ?_;refine cN ?_;refine Rt [Cl b (C.wA A),ag t 145 (fA b {V with n:=W.n-1} y),ag y.nk 163 (aJ (aA V.nb)),jV y.ok 163 (aJ (aA V.ob))] results99 ?_;exact⟨rfl,A,{V with n:=W.n-1},y,rfl,MQ,⟨P,pa,d,rfl,s4,λh=>absurd h hg,λ_=>⟨s3,s2,Sm,s6⟩⟩⟩
theorem Vc (t b:Nat)(C:Cs)(K:Ok C)(W:Tb)(y:p9)(O:dq C W)(hy:y.ok=none→W.ob= [])(p q:Nat)(hp:p∈W.all)(L:Live C q)(I:ic C q)(hq:q∉W.all)(rB:aL C.A p=aL C.A q):
  aH acw 150 [.pointer (some ⟨t,0,none⟩), .int .u64 (C.hd q:Int)] (λh=>In (Cl b C) h∧hJ (me t b W y) h) []
   (λv H=>v= .bool false∧H= []):=by
 have lk:(aL C.A q).length=kl C.A q:=dC _ _ _;have hk:=I.k0;have hf:=I.fits;obtain⟨z1,z2,z3,_⟩:=L.toAt.bo K;have f1:=K.toFix.p1;have eg:=get_some O hp rB;have ne:C.hd p≠C.hd q:=λe=>hq (nu K (O.lv p hp).toAt L.toAt e▸hp);refine ae func150 rfl ntmps150 rfl ?_;rintro F ⟨hc,ht⟩;refine bB ?_;refine Lp (oC T.tm rfl rfl (pD t b C W y K q L I) .nil (λ_ le _=>⟨In.mono hc le,In.mono ht.1 le⟩) ?_);rintro v H' ⟨kb,rfl,rfl⟩;refine bd ?_;refine bc ?_;refine zl T.yR (mE t b C K W y O hy (some ⟨kb,0,none⟩) (kl C.A q) (kl C.A q) (aL C.A q) lk.symm (by omega)) .nil (λ_ le aw=>⟨In.mono hc le,dt ht le,bD aw.1⟩) ?_;rw[eg,cQ];refine bK ?_;refine zt 20 ?_;refine aZ ?_;refine zt 23 ?_ (e:=by rfl);refine bH ?_;refine Rt [] results150 ?_;exact⟨by rw[decide_eq_false (by omega)],rfl⟩
structure P4 (C:Cs)(W:Tb)(p q:Nat)(A:By)(V:Tb):Prop where
 o:dq (C.wA A) V
 pm:∃r,W.all.Perm (p::r)∧V.all.Perm (q::r)
 df:qh C.A A (q::W.all) 0 4
 s:qs W V
 mv:V.mv=W.mv
theorem Qy (t b:Nat)(C:Cs)(K:Ok C)(W:Tb)(y:p9)(O:dq C W)(hy:y.ok=none→W.ob= [])(p q:Nat)(hp:p∈W.all)(L:Live C q)(I:ic C q)(hq:q∉W.all)(rB:aL C.A p=aL C.A q):
  aH acw 103 [.pointer (some ⟨t,0,none⟩), .int .u64 (C.hd p:Int), .int .u64 (C.hd q:Int)] (λ_=>True) (Cl b C::me t b W y)
   (λv H=>v= .int .i64 0∧∃A V,H=Cl b (C.wA A)::me t b V y∧(y.ok=none→V.ob= [])∧P4 C W p q A V):=by
 have lk:(aL C.A q).length=kl C.A q:=dC _ _ _;have hk:=I.k0;have hf:=I.fits;obtain⟨z1,z2,z3,_⟩:=L.toAt.bo K;have f1:=K.toFix.p1;have hx:=qT O (cx (aL C.A p));have hpc:=Fy O hp;have hlen:=tq O (W.bk (cx (aL C.A p)));generalize hxx:W.bk (cx (aL C.A p))=x at*;obtain⟨c,hc⟩:∃c,W.ch x=c:=⟨_,rfl⟩;rw[hc]at hpc hlen;obtain⟨j,hj,ej⟩:=acR hpc;obtain⟨P,d⟩:=HJ K O hx hc hj ej;obtain⟨r1,p1,p2⟩:=Tb.nH hx;rw[hc]at p1;have pa:(p::(W.cT x (c.eraseIdx j)).all).Perm W.all:=by
  refine(acN.cons p (p2 _)).trans (acN.trans ?_ p1.symm);have:=acN.append_right r1 (rr hj);rw[ej]at this;exact this
 have S:=tC W x (c.eraseIdx j);have pull:=CC t b C K W y O hy x hx c hc j hj p ej;have sub:∀s∈(W.cT x (c.eraseIdx j)).all,s∈W.all∧s≠p:=λs hs=>by
  refine⟨pa.mem_iff.1 (acC _ hs),λe=> ?_⟩;have:=pa.nodup_iff.2 O.nd;exact(acP.1 this).1 (e▸hs)
 generalize hV:W.cT x (c.eraseIdx j)=V at*;generalize hA:oP C.A c j p=A at*;obtain⟨⟨s1,s2,s3,s4,s5,s6⟩,Sm⟩:=S;have MQ:y.ok=none→V.ob= []:=λh=>acW (by rw[s6,hy h];rfl);have kp:=λs (h:s∈W.all)=>xy K d (λu hu=>(O.lv u hu).toAt) (by omega) (O.lv s h).toAt (O.it s h);have kq:=xy K d (λu hu=>(O.lv u hu).toAt) (by omega) L.toAt I;have K2:=K.wA A;have L2:=L.wA A;have I2:=kq.it I;have hkd2:∀s∈Tb.all {V with n:=W.n-1},aL (C.wA A).A s≠aL (C.wA A).A q:=λs hs e=>by
  obtain⟨g1,g2⟩:=sub s hs;change aL A s=aL A q at e;rw[(kp s g1).key,kq.key,←rB]at e;exact g2 (O.kd s g1 p hp e)
 have P2:=AX K2 P L2 I2 (λh=>hq (sub q h).1) hkd2 (x:=V.bk (cx (aL A q))) rfl;have TJ:Ei V (V.bk (cx (aL A q))):=qT P (cx (aL A q));have kqe:aL A q=aL C.A q:=kq.key;have lO2:dm (C.wA A) (V.ch (V.bk (cx (aL A q)))).head?:=λu hu=>P.lv u (Tb.gk (T:=V) (ada hu));obtain⟨r3,p3,p4⟩:=Tb.nH TJ;generalize hxx2:V.bk (cx (aL A q))=x2 at*;refine ae func103 rfl ntmps103 rfl ?_;intro F _;refine bB ?_;refine Lp (oC T.tm rfl rfl (pD t b C W y K q L I) .nil (λ_ le aw=>⟨aw.1,aw.2.1⟩) ?_);rintro v H' ⟨kb,rfl,rfl⟩;refine bd ?_;refine bH ?_;refine zl T.Fk (N3 t b C K W y O hy p hp) .nil (λ_ le aw=>⟨aw.2.1,aw.2.2⟩) ?_;refine a8 ?_;refine zf 16 ?_ (e:=by rfl);refine bc ?_;refine zf 21 ?_;refine a8 ?_;refine zl T.Fk (Vc t b C K W y O hy p q hp L I hq rB) .nil (λ_ le aw=>⟨aw.2.1,aw.2.2⟩) ?_;refine aR ?_;refine Hh (H':= [Cl b C,ag t 145 (fA b W y),ag y.nk 163 (aJ (aA W.nb)),jV y.ok 163 (aJ (aA W.ob)),own (some ⟨kb,0,none⟩) (kl C.A q) 5 1 (ai (aL C.A q))]) ?_;unfold fA;refine bH ?_;refine zl T.Yg (C7 b C K p (O.lv p hp) (O.it p hp) (some ⟨kb,0,none⟩) (kl C.A q) (kl C.A q) (aL C.A q) lk.symm (by omega)) .nil (λ_ le aw=>⟨aw.1,bD aw.2.2.2.2.1⟩) ?_;rw[decide_eq_true rB];refine bw ?_;refine zl T.Pw (pull) (.cons .here (.cons .here (.cons .here (.cons .here .nil)))) (λ_ _ _=>trivial) ?_;refine bc ?_;refine zl T.Ch (kW t b (C.wA A) V y (W.n-1) P MQ (some ⟨kb,0,none⟩) (kl C.A q) (kl C.A q) (aL C.A q) lk.symm (by omega)) .nil (λ_ le aw=>⟨aw.2.1,bD aw.2.2.2.2.1⟩) ?_;rw[show V.bk (cx (aL C.A q))=x2 by rw[←kqe];exact hxx2];refine ay ?_;refine zl T.Fi (wX t b (C.wA A) K2 V y MQ x2 TJ q L2 I2.k0 lO2) (.cons .here (.cons .here (.cons .here (.cons .here .nil)))) (λ_ _ _=>trivial) ?_;refine bc ?_;have hn1:1≤W.n:=by omega
 have e2:({({V with n:=W.n-1}:Tb).cT x2 (q::V.ch x2)with n:=W.n-1+1}:Tb)=V.cT x2 (q::V.ch x2):=by
  rcases x2 with⟨_|_,i⟩<;>(simp[Tb.cT];omega)
 change dq _ {({V with n:=W.n-1}:Tb).cT x2 (q::V.ch x2)with n:=W.n-1+1}at P2;rw[e2]at P2;have S2:=tC V x2 (q::V.ch x2);have pz:(V.cT x2 (q::V.ch x2)).all.Perm (q::V.all):=(p4 _).trans (acN.cons q p3.symm);generalize hV2:V.cT x2 (q::V.ch x2)=V2 at*;obtain⟨⟨t1,t2,t3,t4,t5,t6⟩,Tm⟩:=S2;refine Rt [Cl b ((C.wA A).wA (wr A q 4 (nO (V.ch x2).head?))),ag t 145 (fA b V2 y),ag y.nk 163 (aJ (aA V2.nb)),jV y.ok 163 (aJ (aA V2.ob))] results103 ?_;refine⟨rfl,wr A q 4 (nO (V.ch x2).head?),V2,rfl,λh=>acW (by rw[t6,MQ h];rfl),P2,⟨V.all,pa.symm,pz⟩, ?_,⟨t1.trans s1,t2.trans s2,t3.trans s3,t4.trans s4,t5.trans s5,t6.trans s6⟩,Tm.trans Sm⟩;exact(d.mono λu hu=>acC _ hu).trans ((wD A (S:= [q]) (q:=q) (a:=0) (by simp)).mono λu hu=>by rw[acX]at hu;rw[hu];exact List.mem_cons_self)
end Go.Proofs.YtdolmecackmjdaaGreatDoor
