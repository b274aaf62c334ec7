/- Part Pg of the proof. -/
import Derived.Test.YtcbcjolpdljbiaaGreatPf
set_option maxRecDepth 100000
open Go.Proofs.YtcbcjolpdljbiaaGreat.T
open List renaming mem_append -> agb, mem_flatten -> ajI, getElem_of_mem -> abS, getD_eq_getElem?_getD -> aab, getElem?_eq_getElem -> aac, getElem_mem -> abC, getElem?_eq_none -> aal, Sublist -> akU, find?_eq_none -> agE, getElem?_map -> abD, head?_drop -> ahg, length_erase_of_mem -> aj5, mem_of_mem_drop -> akk, mem_of_mem_head? -> abY, map_set -> af7, length_set -> aak, getElem_map -> agS, getElem_inj -> ajT, append_assoc -> af9, Perm -> abA, perm_append_comm -> abN, flatten_cons -> aj6, mem_append_right -> agP, nodup_append -> af4, eq_nil_of_length_eq_zero -> abO, length_append -> aby, nodup_cons -> abB, mem_cons -> abE, length_eraseIdx_of_lt -> ag8, getElem?_eraseIdx_of_ge -> abQ, mem_singleton -> abR, mem_cons_of_mem -> aai, eq_nil_iff_forall_not_mem -> ajP, replicate -> aae, getElem?_replicate -> ab1, length_replicate -> aga, map_replicate -> af3
open Nat renaming pow_le_pow_right -> agf, le_trans -> ahb, mod_lt -> ag6, zero_le -> abL, pow_lt_pow_iff_right -> aj8, pow_succ -> agu
open Decidable renaming byContradiction -> abz
open Go.Proofs.Tryz renaming prog -> aaa
open Go.Proofs.Tryz
open Go.Value renaming int -> Dm
open Go.IntKind renaming i64 -> Dl, u64 -> Dj, u8 -> ala, u32 -> alb
namespace Go.Proofs.YtcbcjolpdljbiaaGreat
open Go Go.dC Go.Proofs.YtcbcjolpdljbiaaGreat.Cs
theorem Cs.zO.wA{C:Cs}{c p:Nat}(h:zO C c p)(A:By):zO (C.wA A) c p:=⟨⟨h.i,h.own,h.al,h.k⟩,h.cl,h.tk,h.lv⟩
theorem Cs.zO.ofA{C:Cs}{c p:Nat}{A:By}(h:zO (C.wA A) c p):zO C c p:=⟨⟨h.i,h.own,h.al,h.k⟩,h.cl,h.tk,h.lv⟩
theorem Cs.Ok.wA{C:Cs}(K:Ok C)(A:By):Ok (C.wA A):=
 ⟨⟨K.p0,K.p1,K.p8,K.n0,K.n1,K.l0,K.l1,K.s0,K.pl,K.rl⟩,λx h=>⟨(K.pg x h).cl,(K.pg x h).gl,(K.pg x h).tl,(K.pg x h).g32,(K.pg x h).Wy,(K.pg x h).nd,(K.pg x h).held,(K.pg x h).no⟩,
  λc p h=>(K.fr c p h).wA A,K.fn,λc p h=>K.fa c p h.ofA,K.ft,K.fp,K.fs,K.sp⟩
theorem Cs.At.wA{C:Cs}{p:Nat}(h:At C p)(A:By):At (C.wA A) p:=⟨h.i,h.own,h.al,h.k⟩
theorem Cs.Live.wA{C:Cs}{p:Nat}(h:Live C p)(A:By):Live (C.wA A) p:=⟨h.toAt.wA A,h.tk⟩
theorem cH (C:Cs)(A:By):(C.wA A).A=A:=rfl
theorem far{C:Cs}(K:Ok C){p q:Nat}(L:At C p)(M:At C q){a n o w:Nat}(ha:a+n<=C.sz (C.cl q))(ho:o+w<=C.sz (C.cl p))(h:p=q->a+n<=o\/o+w<=a):p+o+w<=q+a\/q+a+n<=p+o:=by
 by_cases e:p=q
 ·subst e
  rcases h rfl with h|h<;>omega
 ·rcases apart K L M e with h|h<;>omega
theorem lK{C:Cs}(K:Ok C){p q:Nat}(L:At C p)(M:At C q){a n v o w:Nat}(ha:a+n<=C.sz (C.cl q))(ho:o+w<=C.sz (C.cl p))(h:p=q->a+n<=o\/o+w<=a):rd (wr C.A (q+a) n v) (p+o) w=rd C.A (p+o) w:=
 aM _ _ _ _ _ _ (far K L M ha ho h)
theorem JM{C:Cs}(K:Ok C){p q:Nat}(L:At C p)(M:At C q){a n v o w:Nat}(ha:a+n<=C.sz (C.cl q))(ho:o+w<=C.sz (C.cl p))(h:p=q->a+n<=o\/o+w<=a):jS (wr C.A (q+a) n v) (p+o) w=jS C.A (p+o) w:=
 so _ _ _ _ _ _ (far K L M ha ho h)
structure Kept (C:Cs)(A:By)(p:Nat):Prop where
 kl:kl A p=kl C.A p
 vl:vl A p=vl C.A p
 key:aH A p=aH C.A p
 it:gD C p->gD (C.wA A) p
theorem xd{C:Cs}(K:Ok C){p q:Nat}(L:At C p)(M:At C q)(I:gD C p){a n v:Nat}(ha:a+n<=12):Kept C (wr C.A (q+a) n v) p:=by
 have n1:=(L.ba K).2.1;have m1:=(M.ba K).2.1;have hf:=I.fits;have e1:kl (wr C.A (q+a) n v) p=kl C.A p:=lK K L M (by omega) (by omega) (λ_=>by omega);have e2:vl (wr C.A (q+a) n v) p=vl C.A p:=lK K L M (by omega) (by omega) (λ_=>by omega);refine⟨e1,e2, ?_,λJ=>⟨?_, ?_, ?_, ?_⟩⟩
 ·unfold aH
  rw[e1];exact JM K L M (by omega) (by omega) (λ_=>by omega)
 ·rw[cH,e1];exact J.k0
 ·rw[cH,e1,e2];exact J.fits
 ·rw[cH,lK K L M (by omega) (by omega) (λ_=>by omega)];exact J.exp
 rw[cH,lK K L M (by omega) (by omega) (λ_=>by omega)];exact J.tch
def GB (A:By):FH->Prop
 | []=>True
 |p::l=>rd A p 4=nO l.head?/\GB A l
structure Tb where
 most:Nat
 n:Nat
 size:Nat
 nb:F7
 ob:F7
 mv:Nat
 st:Nat
namespace Tb
def bk (T:Tb)(h:Nat):Bool×Nat:=if 0<T.ob.length/\T.mv<=h % T.ob.length then(true,h % T.ob.length)else(false,h % T.nb.length)
def ch (T:Tb)(x:Bool×Nat):FH:=if x.1 then T.ob.getD x.2 []else T.nb.getD x.2 []
def cR (T:Tb)(x:Bool×Nat)(c:FH):Tb:=if x.1 then{T with ob:=T.ob.set x.2 c}else{T with nb:=T.nb.set x.2 c}
def all (T:Tb):FH:=T.nb.flatten++T.ob.flatten
end Tb
def ahO (z:Int)(c:UInt8):Int:=IntKind.u64.wrap (IntKind.u64.wrap ((BitVec.ofInt 64 z^^^BitVec.ofInt 64 (c.toNat:Int)).toNat:Int)*1099511628211)
def WT (l:FI):Int:=l.foldl ahO 14695981039346656037
def cn (l:FI):Nat:=(WT l).toNat
theorem Fc (l:FI)(c:UInt8):WT (l++ [c])=ahO (WT l) c:=by unfold WT;rw[List.foldl_append];rfl
theorem LQ (z:Int):0<=IntKind.u64.wrap z/\IntKind.u64.wrap z<18446744073709551616:=by
 rw[IntKind.wrap_u64];omega
theorem MT (l:FI):0<=WT l/\WT l<18446744073709551616:=by
 rcases List.eq_nil_or_concat l with rfl|⟨m,c,rfl⟩
 ·decide
 rw[List.concat_eq_append,Fc];exact LQ _
theorem Kw (l:FI):WT l=(cn l:Int)/\cn l<18446744073709551616:=by
 have:=MT l;unfold cn;omega
structure dt (C:Cs)(T:Tb):Prop where
 pw:∃m,m<=20/\T.nb.length=2^m
 po:T.ob= []\/∃m,m<=20/\T.ob.length=2^m
 st:(T.st=0/\T.ob= [])\/(T.st=2/\0<T.ob.length/\T.mv<=T.ob.length)
 mp:∃m,m<=20/\T.most=2^m
 sz:T.size=T.nb.length
 PG:16<=T.size
 sm:T.size<=T.most
 mv:T.mv<=1048576
 n:T.n=T.all.length
 nd:T.all.Nodup
 li:∀x,GB C.A (T.ch x)
 lv:∀p∈T.all,Live C p
 it:∀p∈T.all,gD C p
 bu:∀x p,p∈T.ch x->T.bk (cn (aH C.A p))=x
 kd:∀p∈T.all,∀q∈T.all,aH C.A p=aH C.A q->p=q
theorem Tb.J5{T:Tb}{p:Nat}:p∈T.all↔∃x,p∈T.ch x:=by
 unfold all ch;rw[agb,ajI,ajI];constructor
 ·rintro(⟨l,h1,h2⟩|⟨l,h1,h2⟩)
  ·obtain⟨i,hi,rfl⟩:=abS h1
   exact⟨(false,i),by simpa[aab,hi]using h2⟩
  obtain⟨i,hi,rfl⟩:=abS h1;exact⟨(true,i),by simpa[aab,hi]using h2⟩
 rintro⟨⟨f,i⟩,h⟩;rcases f with _|_
 ·left
  simp only[Bool.false_eq_true,if_false,aab]at h;by_cases hi:i<T.nb.length
  ·rw[aac hi]at h
   exact⟨_,abC hi,h⟩
  rw[aal (by omega)]at h;cases h
 right;simp only[if_true,aab]at h;by_cases hi:i<T.ob.length
 ·rw[aac hi]at h
  exact⟨_,abC hi,h⟩
 rw[aal (by omega)]at h;cases h
theorem Tb.gM{T:Tb}{x:Bool×Nat}{p:Nat}(h:p∈T.ch x):p∈T.all:=J5.2 ⟨x,h⟩
theorem Tb.oN (T:Tb)(x:Bool×Nat):akU (T.ch x) T.all:=by
 unfold ch all;rcases x with⟨f,i⟩
 have g:∀(L:F7),akU (L.getD i []) L.flatten:=λL=>by
  by_cases hi:i<L.length
  ·rw[aab,aac hi]
   exact List.sublist_flatten_of_mem (abC hi)
  rw[aab,aal (by omega)];exact List.nil_sublist _
 rcases f with _|_
 ·exact(g T.nb).trans (List.sublist_append_left _ _)
 exact(g T.ob).trans (List.sublist_append_right _ _)
def Tb.get (T:Tb)(C:Cs)(k:FI):FK:=T.all.find? λp=>decide (aH C.A p=k)
theorem get_some{C:Cs}{T:Tb}(O:dt C T){p:Nat}{k:FI}(h:p∈T.all)(hk:aH C.A p=k):T.get C k=some p:=by
 unfold Tb.get;cases hf:T.all.find? (λp=>decide (aH C.A p=k))with
 |none=>exact absurd hk (by simpa using agE.1 hf p h)
 |some q=>
  have h1:=List.mem_of_find?_eq_some hf;have h2:=List.find?_some hf;rw[O.kd p h q h1 (by rw[hk,of_decide_eq_true h2])]
theorem get_none{C:Cs}{T:Tb}{k:FI}(h:∀p∈T.all,aH C.A p≠k):T.get C k=none:=by
 unfold Tb.get;rw[agE];intro p hp;simpa using h p hp
theorem HP{C:Cs}{T:Tb}(O:dt C T){p:Nat}(h:p∈T.all):p∈T.ch (T.bk (cn (aH C.A p))):=by
 obtain⟨x,hx⟩:=Tb.J5.1 h;rw[O.bu x p hx];exact hx
theorem uV{C:Cs}{T:Tb}(O:dt C T)(x:Bool×Nat):(T.ch x).length<=T.n:=by
 rw[O.n];exact(T.oN x).length_le
theorem uP{A:By}:∀{l:FH} {k:Nat} (_:GB A l) (hk:k<l.length),rd A l[k] 4=nO (l.drop (k+1)).head?
 |_::l,0,h,_=>h.1
 |_::l,k+1,h,hk=>uP (l:=l) h.2 (by simpa using hk)
open Go Go.dC Go.Proofs.YtcbcjolpdljbiaaGreat.Cs
theorem LX{l:FI}{k:Nat}(h:k<l.length):l.take (k+1)=l.take k++ [l[k]]:=by
 rw[List.take_add_one,aac h];rfl
theorem acU (a:FL)(m c:Nat)(l:FI)(hm:m=l.length)(hl:l.length<281474976710656):
  aG aaa 141 [.slice a m c] (λh=>gF h a (aj l)) [] (λv H=>v=Dm Dj (cn l)/\H= []):=by
 refine af func141 rfl ntmps141 rfl ?_;intro F r;refine gJ ?_;refine Lo (ι:=Nat) (FN [3,1,5,1,8,10]) (λk=>k<=m) (λk=> [(3,Dm Dj (WT (l.take k))),(8,Dm Dl k)]) (λk=> []) (λk=>m-k) (0) (by simp) ?_;rintro k hI;refine bq ?_;refine av ?_;refine az rfl ?_ ?_
 ·intro hk
  replace hk:=aO hk;have cJ:k<l.length:=by omega
  have kb:(aj l)[k]?=some (Dm ala (l[k].toNat:Nat)):=by unfold aj;rw[abD,aac cJ];rfl
  have hc:=l[k].toNat_lt;refine bn ?_;refine Li (Ix fS) ?_;refine ri ?_;refine aD ?_;refine aA (t:=3) (v':=(Dm Dj (WT (l.take (k+1))))) rfl (by(rw[LX cJ,Fc];rfl)) ?_;refine Ro (k+1) (by omega) (by omega)
 intro hk;replace hk:=aO hk;obtain rfl:k=m:=by omega
 rw[List.take_of_length_le (by omega),(Kw l).1];refine bB ?_;refine Rt [] results141 ?_;exact⟨rfl,rfl⟩
structure pq where
 nk:Nat
 ok:FK
def aF (l:F7):FH:=l.map λc=>nO c.head?
theorem nG (l:F7):(aF l).length=l.length:=by simp[aF]
def gE (b:Nat)(T:Tb)(y:pq):FJ:= [Dk b,Dm Dl T.most,Dm Dl T.n,Dm Dl T.size, .slice (some ⟨y.nk,0,none⟩) T.nb.length T.nb.length,V9 y.ok T.ob.length,Dm Dl T.mv,Dm Dl T.st]
def mM (t b:Nat)(T:Tb)(y:pq):F8:= [ag t 154 (gE b T y),ag y.nk 149 (aS (aF T.nb)),nL y.ok 149 (aS (aF T.ob))]
abbrev TL (t b:Nat)(T:Tb)(y:pq):aa:=aB (mM t b T y)
theorem lZ (t b:Nat)(C:Cs)(W:Tb)(y:pq)(K:Ok C)(o:FK)(ho:di C o):
  aG aaa 93 [Dk t,Dm alb (nO o)] (λh=>In (Cl b C) h/\In (ag t 154 (gE b W y)) h) []
   (λv H=>v=Dm Dj (hO C o)/\H= []):=by
 unfold gE;refine af func93 rfl ntmps93 rfl ?_;rintro F ⟨hc,ht⟩;rcases o with _|q
 ·refine gK ?_
  refine gJ ?_;refine Rt [] results93 ?_;exact⟨rfl,rfl⟩
 have M:=ho q rfl;obtain⟨m1,m2,m3,m4,m5,m6⟩:=bM K M.toAt;rw[qC];refine cV ?_;refine cN ?_;refine bP ?_;refine aA (t:=17) (v':=(Dm Dl q)) rfl (by rw[show(8:Int)*(((q/8+1:Nat):Int)-1)=(q:Int) by omega]) ?_;refine zl Aa (aaE b C K q M) .nil (λ_ le _=>In.mono hc le) ?_;refine bP ?_;refine Rt [] results93 ?_;exact⟨rfl,rfl⟩
theorem jQ (t b:Nat)(C:Cs)(W:Tb)(y:pq)(K:Ok C)(p:Nat)(o:FK)(L:Live C p)(hk:kl C.A p≠0)(ho:di C o)(hn:rd C.A p 4=nO o):
  aG aaa 96 [Dk t,Dm Dj (C.hd p)] (λh=>In (Cl b C) h/\In (ag t 154 (gE b W y)) h) []
   (λv H=>v=Dm Dj (hO C o)/\H= []):=by
 unfold gE;refine af func96 rfl ntmps96 rfl ?_;rintro F ⟨hc,ht⟩;refine cA ?_;refine zl Aa (nt b C K p 0 o L hk (by omega) ho hn) .nil (λ_ le _=>In.mono hc le) ?_;refine bB ?_;refine Rt [] results96 ?_;exact⟨rfl,rfl⟩
theorem qA (t b:Nat)(C:Cs)(W:Tb)(y:pq)(K:Ok C)(p:Nat)(L:Live C p)(I:gD C p):
  aG aaa 196 [Dk t,Dm Dj (C.hd p)] (λh=>In (Cl b C) h/\In (ag t 154 (gE b W y)) h) []
   (λv H=>∃kb,v= .slice (some ⟨kb,0,none⟩) (kl C.A p) (kl C.A p)/\H= [own (some ⟨kb,0,none⟩) (kl C.A p) 5 1 (aj (aH C.A p))]):=by
 unfold gE;refine af func196 rfl ntmps196 rfl ?_;rintro F ⟨hc,ht⟩;refine cA ?_;refine Lp (oC Aa rfl rfl (tT b C K p L I) .nil (λ_ le _=>In.mono hc le) ?_);rintro v H' ⟨kb,vb,rfl,rfl⟩;refine bR ?_;unfold DL;refine bq ?_;refine Lp (oA bT λb1=> ?_);refine cA ?_;refine Rt [own (some ⟨kb,0,none⟩) (kl C.A p) 5 1 (aj (aH C.A p))] results196 ?_;exact⟨kb,rfl,rfl⟩
def bkA (y:pq)(x:Bool×Nat):Addr:=⟨if x.1 then y.ok.getD 0 else y.nk,x.2,none⟩
theorem xp{a L m:Nat}(hL:L=2^m)(hm:m<=20)(ha:a<18446744073709551616):gh .and .u64 (a:Int) ((L-1:Nat):Int)=some ((a % L:Nat):Int):=by
 subst hL;exact zu m (by omega) ha
theorem rC{L m:Nat}(hL:L=2^m)(hm:m<=20):1<=L/\L<=1048576:=by
 subst hL;exact⟨Nat.one_le_two_pow,by
  have:=agf (n:=2) (by decide) hm;exact ahb this (by decide)⟩
theorem l7 (t b:Nat)(C:Cs)(W:Tb)(y:pq)(k:Nat)(O:dt C {W with n:=k})(hy:y.ok=none->W.ob= [])(a:FL)(m c:Nat)(l:FI)(hm:m=l.length)(hl:l.length<281474976710656):
  aG aaa 94 [Dk t, .slice a m c] (λh=>In (ag t 154 (gE b W y)) h/\gF h a (aj l)) []
   (λv H=>v= .pointer (some (bkA y (W.bk (cn l))))/\H= []):=by
 obtain⟨i,hi,ei⟩:=O.pw;change W.nb.length=2^i at ei;have po:W.ob= []\/∃m,m<=20/\W.ob.length=2^m:=O.po;obtain⟨p1,p2⟩:=rC ei hi;obtain⟨f1,f2⟩:=Kw l;have Wm:=ag6 (cn l) (show 0<W.nb.length by omega);unfold gE bkA;rcases y with⟨nk,ok⟩
 try dsimp only at hy⊢
 refine af func94 rfl ntmps94 rfl ?_;rintro F ⟨ht,hr⟩;refine bn ?_;refine zl Aa (acU a m c l hm hl) .nil (λ_ le _=>hr.mono le) ?_;rcases ok with _|ok
 ·refine Li As ?_
  refine rh ?_;refine av ?_;refine iU 15 mix .nil λF1 jD bV aI=> ?_;have oV:=In.mono ht jD;refine bP ?_;refine aA (t:=45) (v':=(Dm Dl (W.nb.length-1:Nat))) rfl (by(congr 1;omega)) ?_;refine Ti (Cv GC Lv) ?_;refine Ti ((Im (hz:=xp ei hi f2))) ?_;refine bd ?_;refine gI aI ?_;refine bd ?_;refine Rt [] results94 ?_;rw[show W.bk (cn l)=(false,cn l % W.nb.length)from if_neg (by rw[hy rfl];simp)];exact⟨rfl,rfl⟩
 have hol:W.ob.length<=1048576:=by
  rcases po with h|⟨j,hj,ej⟩
  ·rw[h];decide
  exact(rC ej hj).2
 refine lx ?_;refine az rfl ?_ ?_
 ·intro hlen
  replace hlen:=aO hlen;obtain⟨j,hj,ej⟩:∃m,m<=20/\W.ob.length=2^m:=by
   rcases po with h|h
   ·rw[h]at hlen;exact absurd hlen (by decide)
   exact h
  refine bc ?_;refine aA (t:=19) (v':=(Dm Dl (W.ob.length-1:Nat))) rfl (by(congr 1;omega)) ?_;refine aw ?_;refine Li ((Im (hz:=xp ej hj f2))) ?_;have hmod:=ag6 (cn l) (show 0<W.ob.length by omega);refine bP ?_;refine az rfl ?_ ?_
  ·intro Lb
   replace Lb:=aO Lb;refine bP ?_;refine Rt [] results94 ?_;rw[show W.bk (cn l)=(true,cn l % W.ob.length)from if_pos ⟨by omega,by omega⟩];exact⟨rfl,rfl⟩
  intro Lb;replace Lb:=aO Lb;refine bd ?_;refine av ?_;refine iU 15 mix .nil λF2 zH eL dw=> ?_;have oV:=In.mono ht zH;refine bP ?_;refine aA (t:=45) (v':=(Dm Dl (W.nb.length-1:Nat))) rfl (by(congr 1;omega)) ?_;refine Ti (Cv GC Lv) ?_;refine Ti ((Im (hz:=xp ei hi f2))) ?_;refine bd ?_;refine gI dw ?_;refine bd ?_;refine Rt [] results94 ?_;rw[show W.bk (cn l)=(false,cn l % W.nb.length)from if_neg (by omega)];exact⟨rfl,rfl⟩
 intro hlen;replace hlen:=aO hlen;refine bd ?_;refine av ?_;refine iU 15 mix .nil λF3 WC sP fJ=> ?_;have oV:=In.mono ht WC;refine bP ?_;refine aA (t:=45) (v':=(Dm Dl (W.nb.length-1:Nat))) rfl (by(congr 1;omega)) ?_;refine Ti (Cv GC Lv) ?_;refine Ti ((Im (hz:=xp ei hi f2))) ?_;refine bd ?_;refine gI fJ ?_;refine bd ?_;refine Rt [] results94 ?_;rw[show W.bk (cn l)=(false,cn l % W.nb.length)from if_neg (by omega)];exact⟨rfl,rfl⟩
theorem abn{C:Cs}{W:Tb}(O:dt C W)(h:Nat):(∃i,W.bk h=(false,i)/\i<W.nb.length)\/(∃i,W.bk h=(true,i)/\i<W.ob.length):=by
 obtain⟨m,hm,e⟩:=O.pw;obtain⟨p1,_⟩:=rC e hm;unfold Tb.bk;split
 ·next g=>exact .inr ⟨_,rfl,ag6 _ g.1⟩
 exact .inl ⟨_,rfl,ag6 _ (by omega)⟩
theorem qm{l:F7}{i:Nat}(h:i<l.length):(aS (aF l))[i]?=some (Dm alb (nO (l.getD i []).head?)):=
 og (by unfold aF;rw[abD,aab,aac h];rfl)
theorem xe{b i:Nat}{e:TypeId}{cs:FJ}{h:Hp}{v:Value}(o:In (ag b e cs) h)(hv:cs[i]?=some v):eJ h ⟨b,i,none⟩=some v:=by
 obtain⟨k,q,l⟩:=o;exact gO ((qB (i:=0) q).mono l) hv
theorem MP{t b:Nat}{C:Cs}{W:Tb}{y:pq}{hp:Hp}(O:dt C W)(hy:y.ok=none->W.ob= [])(ak:gG (mM t b W y) hp)(h:Nat):eJ hp (bkA y (W.bk h))=some (Dm alb (nO (W.ch (W.bk h)).head?)):=by
 obtain⟨_,h1,h2,_⟩:=ak;rcases abn O h with⟨i,e,hi⟩|⟨i,e,hi⟩
 ·rw[e]
  exact xe h1 (qm hi)
 rw[e];rcases y with⟨nk,ok⟩
 rcases ok with _|ok
 ·rw[hy rfl]at hi;cases hi
 exact xe h2 (qm hi)
theorem xj{c:FH}{k:Nat}(h:k<c.length):(c.drop k).head?=some c[k]:=by
 rw[ahg,aac h]
theorem ZB{c:FH}{k:Nat}(h:¬k<c.length):(c.drop k).head?=none:=by
 rw[ahg,aal (by omega)]
theorem nC:∀(N:Nat) (l:FH),l.Nodup->(∀p∈l,p<N)->l.length<=N
 |0,l,_,h=>by
  cases l with
  |nil=>simp
  |cons a l=>exact absurd (h a (by simp)) (by omega)
 |N+1,l,hn,h=>by
  have:=nC N (l.erase N) (hn.erase N) λp hp=>by
   have h1:=h p (List.mem_of_mem_erase hp);have h2:p≠N:=λe=>by
    rw[e]at hp;exact(List.Nodup.mem_erase_iff hn).1 hp|>.1 rfl
   omega
  have:=aj5 (a:=N) (l:=l);by_cases hm:N∈l
  ·have:=aj5 hm
   omega
  rw[List.erase_of_not_mem hm]at*;omega
theorem BD{C:Cs}(K:Ok C){W:Tb}(O:dt C W):W.n<=1073741824:=by
 rw[O.n];refine nC _ _ O.nd λp hp=> ?_;obtain⟨n1,n2,_,_,_,_,_,n8⟩:=(O.lv p hp).toAt.ba K;have:=fU K.toFix;omega
theorem ng (t b:Nat)(C:Cs)(K:Ok C)(W:Tb)(y:pq)(O:dt C W)(hy:y.ok=none->W.ob= [])(a:FL)(m c:Nat)(l:FI)(hm:m=l.length)(hl:l.length<281474976710656):
  aG aaa 47 [Dk t, .slice a m c] (λh=>In (Cl b C) h/\gG (mM t b W y) h/\gF h a (aj l)) []
   (λv H=>v= .tuple #[Dm Dj (hO C (W.get C l)), .bool (W.get C l).isSome]/\H= []):=by
 have li:=O.li (W.bk (cn l));have cl:=uV O (W.bk (cn l));have hn:=BD K O;have sub:∀p∈W.ch (W.bk (cn l)),p∈W.all:=λp hp=>Tb.gM hp;have key:∀p∈W.all,aH C.A p=l->p∈W.ch (W.bk (cn l)):=λp hp e=>by
  have:=HP O hp
  rwa[e]at this
 have hc:=λ{hp:Hp} (ak:gG (mM t b W y) hp)=>MP O hy ak (cn l);generalize zG:W.ch (W.bk (cn l))=cc at*;have Wz:∀k,di C (cc.drop k).head?:=λk q hq=>O.lv q (sub q (akk (abY hq)));refine af func47 rfl ntmps47 rfl ?_;rintro F ⟨cQ,ak,hr⟩;have ht:=ak.1;have kc:=hc ak;unfold gE at ht;refine cV ?_;refine zl Aa (l7 t b C W y W.n O hy a m c l hm hl) .nil (λ_ le _=>⟨In.mono ak.1 le,hr.mono le⟩) ?_;refine bd ?_;refine zl Aa (lZ t b C W y K cc.head? (Wz 0)) .nil (λ_ le _=>⟨In.mono cQ le,In.mono ak.1 le⟩) ?_;refine bK ?_;refine Lo (ι:=Nat) (FN [4,4,15,23]) (λk=>k<=cc.length/\∀i (h:i<cc.length),i<k->aH C.A cc[i]≠l) (λk=> [(6,Dm Dj (hO C (cc.drop k).head?)),(7,Dm Dl k)]) (λk=> []) (λk=>cc.length-k) (0) ⟨abL _,λi _ h=>absurd h (Nat.not_lt_zero _)⟩ ?_;rintro k hI;by_cases hk:k<cc.length
 ·have hp:=sub _ (abC hk)
  have L:=O.lv _ hp;have I:=O.it _ hp;obtain⟨m1,m2,m3,m4,m5,m6⟩:=bM K L.toAt;rw[xj hk,bZ];refine bn ?_;refine zt 17 ?_ (e:=by exact by rw[Ab];rfl);refine cV ?_;refine fe ?_;refine dL ?_;refine zl Aa (E8 b C K cc[k] L I a m c l hm hl) .nil (λ_ le _=>⟨In.mono cQ le,hr.mono le⟩) ?_;refine aw ?_;refine az rfl ?_ ?_
  ·intro hs
   replace hs:=aO hs;refine dL ?_;refine jT [] results47 ?_;rw[get_some O hp (hs)];exact⟨rfl,rfl⟩
  intro hs;replace hs:=aO hs;refine bn ?_;refine zl Aa (jQ t b C W y K cc[k] (cc.drop (k+1)).head? L I.k0 (Wz (k+1)) (uP li hk)) .nil (λ_ le _=>⟨In.mono cQ le,In.mono ak.1 le⟩) ?_;refine cV ?_;refine aD ?_;refine Ro (k+1) (⟨hk,λi h hi=>by rcases Nat.lt_succ_iff_lt_or_eq.1 hi with e|rfl;exact hI.2 i h e;exact hs⟩) ((by omega))
 rw[ZB hk];refine bn ?_;refine zf 17 ?_ (e:=by rfl);refine Lu ?_;refine jT [] results47 ?_;have e:W.get C l=none:=get_none λp hp he=>by
  obtain⟨i,hi,rfl⟩:=abS (key p hp he);exact hI.2 i hi (by omega) he
 rw[e];exact⟨rfl,rfl⟩
theorem nF (l:F7)(i:Nat)(c:FH):(aS (aF l)).set i (Dm alb (nO c.head?))=aS (aF (l.set i c)):=by
 unfold aS aF;rw[af7,af7]
theorem Ry{C:Cs}(K:Ok C){p:Nat}(L:Live C p):IntKind.u32.wrap (C.hd p:Int)=(nO (some p):Int):=by
 obtain⟨m1,_⟩:=bM K L.toAt;rw[IntKind.wrap_u32,qC];omega
theorem ad4{C:Cs}(K:Ok C){o:FK}(L:di C o):IntKind.u32.wrap (hO C o:Int)=(nO o:Int):=by
 rcases o with _|p
 ·rfl
 exact Ry K (L p rfl)
def Gr (W:Tb)(x:Bool×Nat):Prop:=if x.1 then x.2<W.ob.length else x.2<W.nb.length
theorem rZ{C:Cs}{W:Tb}(O:dt C W)(h:Nat):Gr W (W.bk h):=by
 rcases abn O h with⟨i,e,hi⟩|⟨i,e,hi⟩<;>rw[e]<;>exact hi
theorem zo{t b:Nat}{W:Tb}{y:pq}{hp:Hp}(hy:y.ok=none->W.ob= [])(ak:gG (mM t b W y) hp){x:Bool×Nat}(hx:Gr W x):eJ hp (bkA y x)=some (Dm alb (nO (W.ch x).head?)):=by
 obtain⟨_,h1,h2,_⟩:=ak;rcases x with⟨_|_,i⟩
 ·exact xe h1 (qm hx)
 rcases y with⟨nk,ok⟩
 rcases ok with _|ok
 ·have:=hy rfl
  unfold Gr at hx;rw[this]at hx;cases hx
 exact xe h2 (qm hx)
theorem Qm (t b:Nat)(W:Tb)(y:pq)(i:Nat)(c:FH):mM t b (W.cR (false,i) c) y= [ag t 154 (gE b W y),ag y.nk 149 (aS (aF (W.nb.set i c))),nL y.ok 149 (aS (aF W.ob))]:=by
 simp[mM,gE,Tb.cR]
theorem Ql (t b:Nat)(W:Tb)(y:pq)(i:Nat)(c:FH):mM t b (W.cR (true,i) c) y= [ag t 154 (gE b W y),ag y.nk 149 (aS (aF W.nb)),nL y.ok 149 (aS (aF (W.ob.set i c)))]:=by
 simp[mM,gE,Tb.cR]
theorem yn (t b:Nat)(C:Cs)(K:Ok C)(W:Tb)(y:pq)(hy:y.ok=none->W.ob= [])(x:Bool×Nat)(hx:Gr W x)(p:Nat)(L:Live C p)(hk:kl C.A p≠0)(ho:di C (W.ch x).head?):
  aG aaa 195 [Dk t, .pointer (some (bkA y x)),Dm Dj (C.hd p)] (λ_=>True) (Cl b C::mM t b W y)
   (λv H=>v= .tuple #[]/\H=Cl b (C.wA (wr C.A p 4 (nO (W.ch x).head?)))::mM t b (W.cR x (p::W.ch x)) y):=by
 have kp:=Ry K L;have O9:=λ{hp:Hp} (ak:gG (mM t b W y) hp)=>zo hy ak hx;change aG _ _ _ _ [Cl b C,ag t 154 [Dk b,Dm Dl W.most,Dm Dl W.n,Dm Dl W.size, .slice (some ⟨y.nk,0,none⟩) W.nb.length W.nb.length,V9 y.ok W.ob.length,Dm Dl W.mv,Dm Dl W.st],ag y.nk 149 (aS (aF W.nb)),nL y.ok 149 (aS (aF W.ob))] _;refine af func195 rfl ntmps195 rfl ?_;intro F _;refine av ?_;refine iU 10 mix (.cons (.there .here) (.cons (.there .here) (.cons (.there .here) .nil))) λF1 jD bV aI=> ?_;obtain⟨q1,q2,q3,_⟩:=bV;have kc:=O9 ⟨q1,q2,q3,trivial⟩;refine cA ?_;refine Tp (oZ (Aa (n:=93)) (lZ t b C W y K (W.ch x).head? ho) .nil (λ_ le ak=>⟨ak.1,In.mono q1 le⟩) ?_);refine gI aI ?_;refine Tp (oZ (Aa (n:=253)) (ee b C K p 0 (W.ch x).head? L hk (by omega) ho) (.cons (.t3 .here) .nil) Di ?_);rw[show p+4*0=p from rfl];refine bc ?_;refine Li ((Cv Qk GU (hz:=kp))) ?_;rcases x with⟨_|_,i⟩
 ·refine Li Nc ?_
  refine Lp (oS pX ?_ (i:=i) (hi:=by rw[lS,nG];exact hx));rw[show(aS (aF W.nb)).set i (Dm alb (nO (some p)))=aS (aF (W.nb.set i (p::W.ch (false,i))))from nF W.nb i (p::W.ch (false,i))];refine aD ?_;refine jU [Cl b (C.wA (wr C.A p 4 (nO (W.ch (false,i)).head?))),ag t 154 (gE b W y),ag y.nk 149 (aS (aF (W.nb.set i (p::W.ch (false,i))))),nL y.ok 149 (aS (aF W.ob))] results195 ?_;exact⟨rfl,by rw[Qm]⟩
 obtain⟨ok,pC⟩:∃ok,y.ok=some ok:=by
  rcases h:y.ok with _|ok
  ·have e:=hy h
   unfold Gr at hx;rw[e]at hx;cases hx
  exact⟨ok,rfl⟩
 rcases y with⟨nk,_⟩
 dsimp only at pC;subst pC;refine aw ?_;refine Lp (oS pX ?_ (i:=i) (hi:=by rw[lS,nG];exact hx));rw[show(aS (aF W.ob)).set i (Dm alb (nO (some p)))=aS (aF (W.ob.set i (p::W.ch (true,i))))from nF W.ob i (p::W.ch (true,i))];refine aD ?_;refine jU [Cl b (C.wA (wr C.A p 4 (nO (W.ch (true,i)).head?))),ag t 154 (gE b W ⟨nk,some ok⟩),ag nk 149 (aS (aF W.nb)),nL (some ok) 149 (aS (aF (W.ob.set i (p::W.ch (true,i)))))] results195 ?_;exact⟨rfl,by rw[Ql]⟩
def pF (A:By)(c:FH):Nat->By
 |0=>A
 |i+1=>wr A (c.getD i 0) 4 (nO (c.drop (i+2)).head?)
theorem nB (A:By)(c:FH)(i:Nat):pF A c (i+1)=wr A (c.getD i 0) 4 (nO (c.drop (i+2)).head?):=rfl
def pL (A:By)(c:FH)(j p:Nat):By:=wr (pF A c j) p 4 0
theorem zn{l:F7}{i:Nat}{c:FH}(h:c.head?=(l.getD i []).head?):aF (l.set i c)=aF l:=by
 unfold aF;apply List.ext_getElem (by simp);intro k h1 h2;simp only[List.length_map,aak]at h1 h2;rw[agS,agS,List.getElem_set];split
 ·next e=>
  subst e;rw[h,aab,aac h2];rfl
 rfl
theorem Tw{t b:Nat}{W:Tb}{y:pq}{x:Bool×Nat}{c:FH}(h:c.head?=(W.ch x).head?):mM t b (W.cR x c) y=mM t b W y:=by
 rcases x with⟨_|_,i⟩
 ·rw[Qm,zn h];rfl
 rw[Ql,zn h];rfl
theorem IJ{c:FH}{j:Nat}:(c.eraseIdx (j+1)).head?=c.head?:=by
 cases c<;>simp
theorem mm{c:FH}{k:Nat}(h:k<c.length):c.getD k 0=c[k]:=by
 rw[aab,aac h];rfl
theorem Ey (t b:Nat)(C:Cs)(K:Ok C)(W:Tb)(y:pq)(O:dt C W)(hy:y.ok=none->W.ob= [])(x:Bool×Nat)(hx:Gr W x)(c:FH)(zG:W.ch x=c)(j:Nat)(hj:j<c.length)(p:Nat)(hp:c[j]=p):
  aG aaa 191 [Dk t,Dm Dj (C.hd p)] (λ_=>True) (Cl b C::mM t b W y)
   (λv H=>v= .tuple #[]/\H=Cl b (C.wA (pL C.A c j p))::mM t b (W.cR x (c.eraseIdx j)) y):=by
 have O9:=λ{hp:Hp} (ak:gG (mM t b W y) hp)=>zo hy ak hx;have li:=O.li x;have nd:=(W.oN x).nodup O.nd;have cl:=uV O x;have hn:=BD K O;rw[zG]at O9 li nd cl;have sub:∀q∈c,q∈W.all:=λq hq=>Tb.gM (x:=x) (by rw[zG];exact hq);have Wz:∀k,di C (c.drop k).head?:=λk q hq=>O.lv q (sub q (akk (abY hq)));have ha:p∈W.all:=sub p (by rw[<-hp];exact abC hj);have L:=O.lv p ha;have I:=O.it p ha;have hbk:W.bk (cn (aH C.A p))=x:=O.bu x p (by rw[zG,<-hp];exact abC hj);obtain⟨v1,v2,v3,v4,v5,v6⟩:=bM K L.toAt;have lk:(aH C.A p).length=kl C.A p:=cE _ _ _;have lf:=I.fits;obtain⟨z1,z2,z3,_⟩:=L.toAt.ba K;have f1:=K.toFix.p1;change aG _ _ _ _ [Cl b C,ag t 154 [Dk b,Dm Dl W.most,Dm Dl W.n,Dm Dl W.size, .slice (some ⟨y.nk,0,none⟩) W.nb.length W.nb.length,V9 y.ok W.ob.length,Dm Dl W.mv,Dm Dl W.st],ag y.nk 149 (aS (aF W.nb)),nL y.ok 149 (aS (aF W.ob))] _;refine af func191 rfl ntmps191 rfl ?_;intro F _;refine bc ?_;refine Lp (oC Aa rfl rfl (qA t b C W y K p L I) .nil (λ_ le ak=>⟨ak.1,ak.2.1⟩) ?_);rintro v H' ⟨kb,rfl,rfl⟩;refine bR ?_;refine zl Aa (l7 t b C W y W.n O hy (some ⟨kb,0,none⟩) (kl C.A p) (kl C.A p) (aH C.A p) lk.symm (by omega)) .nil (λ_ le ak=>⟨ak.2.2.1,bX ak.1⟩) ?_;rw[hbk];refine Hh (H':= [Cl b C,ag t 154 [Dk b,Dm Dl W.most,Dm Dl W.n,Dm Dl W.size, .slice (some ⟨y.nk,0,none⟩) W.nb.length W.nb.length,V9 y.ok W.ob.length,Dm Dl W.mv,Dm Dl W.st],ag y.nk 149 (aS (aF W.nb)),nL y.ok 149 (aS (aF W.ob))]) ?_;refine bd ?_;refine av ?_;refine eK (ι:=Unit) (FN [5,2,12,49]) (λu=>True) (λu=> [(0,Dk t),(1,Dm Dj (C.hd p))]) (λu=> [Cl b (C.wA (pF C.A c j)),TL t b (W.cR x (c.eraseIdx j)) y]) ?_ ?_
 ·refine gK ?_
  refine bq ?_;refine Lp (oL pX ?_ (hk:=⟨_,rfl,λh _ ak=>O9 ak.2⟩));refine zl Aa (lZ t b C W y K c.head? (Wz 0)) .nil (λ_ le ak=>⟨ak.1,ak.2.1⟩) ?_;rcases j with _|j
  ·have e0:c.head?=some p:=by rw[<-hp];exact xj (k:=0) hj
   rw[e0,bZ];refine bq ?_;refine fe ?_ (e:=by exact decide_eq_true rfl);refine bc ?_;refine zl Aa (jQ t b C W y K p (c.drop 1).head? L I.k0 (Wz 1) (by rw[<-hp];exact uP li hj)) .nil (λ_ le ak=>⟨ak.1,ak.2.1⟩) ?_;refine Li ((Cv Qk GU (hz:=ad4 K (Wz 1)))) ?_;rcases x with⟨_|_,i⟩
   ·refine Li Nc ?_
    refine Lp (oS pX ?_ (i:=i) (hi:=by rw[lS,nG];exact hx));rw[show(aS (aF W.nb)).set i (Dm alb (nO (c.drop 1).head?))=aS (aF (W.nb.set i (c.drop 1)))from nF W.nb i (c.drop 1)];refine aD ?_;refine Hh (H':= [ag t 154 (gE b W y),ag y.nk 149 (aS (aF (W.nb.set i (c.drop 1)))),nL y.ok 149 (aS (aF W.ob)),Cl b C]) ?_;rw[show c.drop 1=c.eraseIdx 0 by simp];refine au (H':= [TL t b (W.cR (false,i) (c.eraseIdx 0)) y,Cl b C]) (λ_ s=>dZ (by rw[Qm];exact s)) ?_;refine Me (()) (trivial)
   obtain⟨ok,pC⟩:∃ok,y.ok=some ok:=by
    rcases h:y.ok with _|ok
    ·have e:=hy h
     unfold Gr at hx;rw[e]at hx;cases hx
    exact⟨ok,rfl⟩
   rcases y with⟨nk,_⟩
   dsimp only at pC;subst pC;refine aw ?_;refine Lp (oS pX ?_ (i:=i) (hi:=by rw[lS,nG];exact hx));rw[show(aS (aF W.ob)).set i (Dm alb (nO (c.drop 1).head?))=aS (aF (W.ob.set i (c.drop 1)))from nF W.ob i (c.drop 1)];refine aD ?_;refine Hh (H':= [ag t 154 (gE b W ⟨nk,some ok⟩),ag nk 149 (aS (aF W.nb)),nL (some ok) 149 (aS (aF (W.ob.set i (c.drop 1)))),Cl b C]) ?_;rw[show c.drop 1=c.eraseIdx 0 by simp];refine au (H':= [TL t b (W.cR (true,i) (c.eraseIdx 0)) ⟨nk,some ok⟩,Cl b C]) (λ_ s=>dZ (by rw[Ql];exact s)) ?_;refine Me (()) (trivial)
  have WI:(c.drop 0).head?=some c[0]:=xj (by omega);have L0:=O.lv c[0] (sub _ (abC (by omega)));have ne0:c[0]≠p:=λe=>by
   rw[<-hp]at e;have:=(ajT nd).1 e;omega
  have ne0h:C.hd c[0]≠C.hd p:=λe=>ne0 (je K L0.toAt L.toAt e);rw[show c.head?=some c[0]from WI,bZ];refine bq ?_;refine cN ?_;refine bc ?_;refine Lp (oL pX ?_ (hk:=⟨_,rfl,λh _ ak=>O9 ak.2⟩));refine zl Aa (lZ t b C W y K c.head? (Wz 0)) .nil (λ_ le ak=>⟨ak.1,ak.2.1⟩) ?_;rw[show c.head?=some c[0]from WI,bZ,<-mm];refine bK ?_;refine Lo (ι:=Nat) (FN [5,2,30,22]) (λk=>k<=j) (λk=> [(5,Dm Dj (C.hd (c.getD k 0))),(6,Dm Dl k)]) (λk=> [Cl b C,ag t 154 [Dk b,Dm Dl W.most,Dm Dl W.n,Dm Dl W.size, .slice (some ⟨y.nk,0,none⟩) W.nb.length W.nb.length,V9 y.ok W.ob.length,Dm Dl W.mv,Dm Dl W.st],ag y.nk 149 (aS (aF W.nb)),nL y.ok 149 (aS (aF W.ob))]) (λk=>j-k) (0) (by simp) ?_;rintro k hI;have sI:k<c.length:=by omega
  have Lk:=O.lv c[k] (sub _ (abC sI));have Ik:=O.it c[k] (sub _ (abC sI));obtain⟨w1,w2,w3,w4,w5,w6⟩:=bM K Lk.toAt;have hk1:k+1<c.length:=by omega
  have Lk1:=O.lv c[k+1] (sub _ (abC hk1));have hlk:rd C.A c[k] 4=nO (some c[k+1]):=by rw[uP li sI,xj hk1]
  have lvk:di C (some c[k+1]):=λq hq=>by cases hq;exact Lk1
  obtain⟨u1,u2,u3,u4,u5,u6⟩:=bM K Lk1.toAt;rw[mm sI];refine bn ?_;refine zt 32 ?_ (e:=by exact by rw[Ab];rfl);refine bd ?_;refine zl Aa (jQ t b C W y K c[k] (some c[k+1]) Lk Ik.k0 lvk hlk) .nil (λ_ le ak=>⟨ak.1,ak.2.1⟩) ?_;rw[bZ];by_cases hkj:k=j
  ·subst hkj
   rw[hp];refine bc ?_;refine zf 39 ?_ (e:=by rw[decide_eq_true rfl];rfl);refine fX ?_;refine iU 8 mix (.cons (.there .here) (.cons (.there .here) (.cons (.there .here) .nil))) λF1 jD bV aI=> ?_;obtain⟨q1,q2,q3,_⟩:=bV;refine bK ?_;refine Tp (oZ (Aa (n:=96)) (jQ t b C W y K p (c.drop (k+2)).head? L I.k0 (Wz (k+2)) (by rw[<-hp];exact uP li hj)) .nil (λ_ le ak=>⟨ak.1,In.mono q1 le⟩) ?_);refine gI aI ?_;refine Tp (oZ (Aa (n:=253)) (ee b C K c[k] 0 (c.drop (k+2)).head? Lk Ik.k0 (by omega) (Wz (k+2))) (.cons (.t3 .here) .nil) Di ?_);refine Tn ?_;rw[show wr C.A (c[k]+4*0) 4 (nO (c.drop (k+2)).head?)=pF C.A c (k+1) by rw[nB,mm sI];rfl];refine Hh (H':= [ag t 154 [Dk b,Dm Dl W.most,Dm Dl W.n,Dm Dl W.size, .slice (some ⟨y.nk,0,none⟩) W.nb.length W.nb.length,V9 y.ok W.ob.length,Dm Dl W.mv,Dm Dl W.st],ag y.nk 149 (aS (aF W.nb)),nL y.ok 149 (aS (aF W.ob)),Cl b (C.wA (pF C.A c (k+1)))]) ?_;refine au (H':= [TL t b (W.cR x (c.eraseIdx (k+1))) y,Cl b (C.wA (pF C.A c (k+1)))]) (λ_ s=>dZ (by rw[Tw (by rw[zG];exact IJ)];exact s)) ?_;refine Me (()) (trivial)
  have ne1:c[k+1]≠p:=λe=>by
   rw[<-hp]at e;have:=(ajT nd).1 e;omega
  have ne1h:C.hd c[k+1]≠C.hd p:=λe=>ne1 (je K Lk1.toAt L.toAt e);refine bc ?_;refine zt 39 ?_ (e:=by rw[Ab];rfl);refine cV ?_;refine fe ?_;refine bK ?_;refine zl Aa (jQ t b C W y K c[k] (some c[k+1]) Lk Ik.k0 lvk hlk) .nil (λ_ le ak=>⟨ak.1,ak.2.1⟩) ?_;rw[bZ,<-mm];refine cV ?_;refine aD ?_;refine Ro (k+1) (by omega) (by omega)
 rintro u hI;have uz:kl (pF C.A c j) p≠0:=by
  rcases j with _|j
  ·exact I.k0
  have Lq:=O.lv c[j] (sub _ (abC (by omega)));have e:=xd K L.toAt Lq.toAt I (a:=0) (n:=4) (v:=nO (c.drop (j+2)).head?) (by omega);rw[nB,mm (by omega)];exact λh=>I.k0 (by rw[<-e.kl];exact h)
 refine Hh (H':= [TL t b (W.cR x (c.eraseIdx j)) y,Cl b (C.wA (pF C.A c j))]) ?_;refine mu ?_;refine au (H':= [ag t 154 (gE b (W.cR x (c.eraseIdx j)) y),Cl b (C.wA (pF C.A c j)),ag y.nk 149 (aS (aF (W.cR x (c.eraseIdx j)).nb)),nL y.ok 149 (aS (aF (W.cR x (c.eraseIdx j)).ob))]) (by exact Eh) ?_;unfold gE;refine bs ?_;refine zl Aa (ee b (C.wA (pF C.A c j)) (K.wA _) p 0 none (L.wA _) uz (by omega) (λq hq=>by cases hq)) (.cons (.there .here) .nil) Di ?_;rw[show(C.wA (pF C.A c j)).wA (wr (C.wA (pF C.A c j)).A (p+4*0) 4 (nO none))=C.wA (pL C.A c j p)from rfl];refine aD ?_;refine jU [Cl b (C.wA (pL C.A c j p)),ag t 154 (gE b (W.cR x (c.eraseIdx j)) y),ag y.nk 149 (aS (aF (W.cR x (c.eraseIdx j)).nb)),nL y.ok 149 (aS (aF (W.cR x (c.eraseIdx j)).ob))] results191 ?_;exact⟨rfl,rfl⟩
theorem Rl{A:By}:∀{l:FH} (_:∀k (h:k<l.length),rd A l[k] 4=nO l[k+1]?),GB A l
 | [],_=>trivial
 |_::l,h=>⟨by have:=h 0 (by simp);simpa[List.head?_eq_getElem?]using this,Rl λk hk=>by have:=h (k+1) (by simpa using hk);simpa using this⟩
theorem Ka{A:By}{l:FH}{k:Nat}(h:GB A l)(hk:k<l.length):rd A l[k] 4=nO l[k+1]?:=by
 rw[uP h hk,ahg]
theorem qN{A B:By}:∀{l:FH} (_:∀q∈l,rd B q 4=rd A q 4) (_:GB A l),GB B l
 | [],_,_=>trivial
 |q::_,h,i=>⟨by rw[h q (by simp)];exact i.1,qN (λr hr=>h r (by simp[hr])) i.2⟩
theorem Kept.refl (C:Cs)(p:Nat):Kept C C.A p:=⟨rfl,rfl,rfl,λi=>i⟩
theorem nE{C:Cs}(K:Ok C){p q:Nat}(L:Live C p)(M:Live C q)(I:gD C p)(v:Nat):Kept C (wr C.A q 4 v) p:=xd K L.toAt M.toAt I (a:=0) (n:=4) (by omega)
theorem tS{C:Cs}(K:Ok C){p q:Nat}(L:Live C p)(M:Live C q)(h:p≠q)(v:Nat):rd (wr C.A q 4 v) p 4=rd C.A p 4:=by
 have n1:=(L.toAt.ba K).2.1;have m1:=(M.toAt.ba K).2.1;exact lK K L.toAt M.toAt (a:=0) (n:=4) (o:=0) (w:=4) (by omega) (by omega) (λe=>absurd e h)
theorem o6{C:Cs}(K:Ok C){o:FK}(L:di C o):nO o<4294967296:=by
 rcases o with _|q
 ·exact Nat.zero_lt_succ _
 obtain⟨_,_,m3,m4,_⟩:=bM K (L q rfl).toAt;have:=fU K.toFix;rw[qC];omega
theorem AW (A:By)(p n:Nat)(h:n<4294967296):rd (wr A p 4 n) p 4=n:=by
 rw[dz];exact Nat.mod_eq_of_lt h
theorem iP:∀{L:F7} {i:Nat} (_:i<L.length),∃r,L.flatten.Perm (L.getD i []++r)/\∀c,(L.set i c).flatten.Perm (c++r)
 |l::L,0,_=>⟨L.flatten,by simp,λc=>by simp⟩
 |l::L,i+1,h=>by
  obtain⟨r,h1,h2⟩:=iP (L:=L) (i:=i) (by simpa using h);have sw:∀c:FH,(l++(c++r)).Perm (c++(l++r)):=λc=>by
   rw[<-af9,<-af9];exact abA.append_right r abN
  refine⟨l++r, ?_,λc=> ?_⟩
  ·rw[aj6]
   exact(abA.append_left l h1).trans (by simpa using sw (L.getD i []))
  rw[List.set_cons_succ,aj6];exact(abA.append_left l (h2 c)).trans (sw c)
theorem Tb.oE{W:Tb}{x:Bool×Nat}(hx:Gr W x):∃r,W.all.Perm (W.ch x++r)/\∀c,(W.cR x c).all.Perm (c++r):=by
 rcases x with⟨_|_,i⟩
 ·obtain⟨r,h1,h2⟩:=iP (L:=W.nb) (i:=i) hx
  refine⟨r++W.ob.flatten, ?_,λc=> ?_⟩
  ·have:=abA.append_right W.ob.flatten h1
   rw[af9]at this;exact this
  have:=abA.append_right W.ob.flatten (h2 c);rw[af9]at this;exact this
 obtain⟨r,h1,h2⟩:=iP (L:=W.ob) (i:=i) hx;have sw:∀c:FH,(W.nb.flatten++(c++r)).Perm (c++(W.nb.flatten++r)):=λc=>by
  rw[<-af9,<-af9];exact abA.append_right r abN
 refine⟨W.nb.flatten++r, ?_,λc=> ?_⟩
 ·exact(abA.append_left _ h1).trans (sw _)
 exact(abA.append_left _ (h2 c)).trans (sw c)
theorem mJ{L:F7}{i:Nat}(h:i<L.length)(c:FH):(L.set i c).getD i []=c:=by
 rw[aab,List.getElem?_set_self h];rfl
theorem getD_set_ne{L:F7}{i k:Nat}(h:i≠k)(c:FH):(L.set i c).getD k []=L.getD k []:=by
 rw[aab,aab,List.getElem?_set_ne h]
theorem Tb.SF{W:Tb}{x:Bool×Nat}(hx:Gr W x)(c:FH)(z:Bool×Nat):(W.cR x c).ch z=if z=x then c else W.ch z:=by
 split
 ·next e=>
  subst e;rcases z with⟨_|_,i⟩
  ·exact mJ hx c
  exact mJ hx c
 next e=>
 rcases z with⟨_|_,k⟩<;>rcases x with⟨_|_,i⟩
 ·exact getD_set_ne (λh=>e (Prod.ext rfl h.symm)) c
 ·rfl
 ·rfl
 exact getD_set_ne (λh=>e (Prod.ext rfl h.symm)) c
theorem Tb.afE (W:Tb)(x:Bool×Nat)(c:FH)(n h:Nat):Tb.bk {W.cR x c with n:=n} h=W.bk h:=by
 rcases x with⟨_|_,i⟩<;>simp[Tb.bk,Tb.cR]
theorem CH{C:Cs}{W:Tb}(O:dt C W){x:Bool×Nat}(hx:Gr W x){c c':FH}(hc:W.ch x=c){A:By}{n' p:Nat}
  (hn:n'+c.length=W.n+c'.length) (nd:c'.Nodup) (hp:∀q∈c',q∈c\/(q=p/\p∉W.all)) (li:GB A c')
  (lo:∀q∈W.all,q∉c->rd A q 4=rd C.A q 4) (lv:∀q∈c',Live C q) (kp:∀q∈W.all,Kept C A q) (it:∀q∈c',gD (C.wA A) q)
  (bu:∀q∈c',W.bk (cn (aH A q))=x) (kd:p∈c'->p∉W.all->∀r∈W.all,aH A p≠aH C.A r):dt (C.wA A) {W.cR x c' with n:=n'}:=by
 obtain⟨r,p1,p2⟩:=Tb.oE hx;rw[hc]at p1;have p2':Tb.all {W.cR x c' with n:=n'}=(W.cR x c').all:=rfl;have al:∀q,q∈(W.cR x c').all->q∈c'\/(q∈W.all/\q∉c):=λq hq=>by
  rcases agb.1 ((p2 c').mem_iff.1 hq)with h|h
  ·exact .inl h
  refine .inr ⟨p1.mem_iff.2 (agP _ h),λg=> ?_⟩;have:=p1.nodup_iff.1 O.nd;exact(af4.1 this).2.2 q g q h rfl
 have Pz:∀z,Tb.ch {W.cR x c' with n:=n'} z=if z=x then c' else W.ch z:=λz=>(show Tb.ch {W.cR x c' with n:=n'} z=(W.cR x c').ch z from rfl).trans (Tb.SF hx c' z)
 have cp:∀q∈c,q∈W.all:=λq hq=>p1.mem_iff.2 (List.mem_append_left _ hq);have l1:({W.cR x c' with n:=n'}:Tb).nb.length=W.nb.length:=by rcases x with⟨_|_,i⟩<;>simp[Tb.cR]
 have l2:({W.cR x c' with n:=n'}:Tb).ob.length=W.ob.length:=by rcases x with⟨_|_,i⟩<;>simp[Tb.cR]
 have e1:({W.cR x c' with n:=n'}:Tb).size=W.size:=by rcases x with⟨_|_,i⟩<;>rfl
 have e2:({W.cR x c' with n:=n'}:Tb).most=W.most:=by rcases x with⟨_|_,i⟩<;>rfl
 have e3:({W.cR x c' with n:=n'}:Tb).mv=W.mv:=by rcases x with⟨_|_,i⟩<;>rfl
 have e4:({W.cR x c' with n:=n'}:Tb).st=W.st:=by rcases x with⟨_|_,i⟩<;>rfl
 refine⟨by rw[l1];exact O.pw, ?_,by rw[l2,e3,e4];exact O.st.imp (λh=>⟨h.1,abO (by rw[l2,h.2];rfl)⟩) id,by rw[e2];exact O.mp,by rw[e1,l1];exact O.sz,by rw[e1];exact O.PG,by rw[e1,e2];exact O.sm,by rw[e3];exact O.mv, ?_, ?_,λz=> ?_,λq hq=> ?_,λq hq=> ?_,λz q hq=> ?_,λq hq s hs e=> ?_⟩
 ·rcases O.po with h|⟨m,hm,e⟩
  ·exact .inl (abO (by rw[l2,h];rfl))
  exact .inr ⟨m,hm,by rw[l2];exact e⟩
 ·rw[p2',(p2 c').length_eq,aby]
  have h1:=O.n;rw[p1.length_eq,aby]at h1;show n'=_;omega
 ·rw[p2',(p2 c').nodup_iff,af4]
  have h1:=af4.1 (p1.nodup_iff.1 O.nd);refine⟨nd,h1.2.1,λq hq s hs e=> ?_⟩;subst e;rcases hp q hq with h|⟨rfl,h⟩
  ·exact h1.2.2 q h q hs rfl
  exact h (p1.mem_iff.2 (agP _ hs))
 ·rw[Pz]
  split
  ·exact li
  next hz=>
  refine qN (λq hq=>lo q (Tb.gM hq) λg=> ?_) (O.li z);rw[<-hc]at g;exact hz ((O.bu z q hq).symm.trans (O.bu x q g))
 ·rcases al q hq with h|h
  ·exact(lv q h).wA A
  exact(O.lv q h.1).wA A
 ·rcases al q hq with h|h
  ·exact it q h
  exact(kp q h.1).it (O.it q h.1)
 ·rw[Tb.afE]
  rw[Pz]at hq;split at hq
  ·next e=>rw[e];exact bu q hq
  rw[show aH (C.wA A).A q=aH C.A q from(kp q (Tb.gM hq)).key];exact O.bu z q hq
 change aH A q=aH A s at e;have cl:∀q,q∈(W.cR x c').all->q∈W.all\/(q=p/\p∈c'/\p∉W.all):=λq hq=>by
  rcases al q hq with h|h
  ·rcases hp q h with g|g
   ·exact .inl (cp q g)
   exact .inr ⟨g.1,g.1▸h,g.2⟩
  exact .inl h.1
 rcases cl q hq with h|⟨rfl,hi,h⟩<;>rcases cl s hs with g|⟨rfl,gi,g⟩
 ·rw[(kp q h).key,(kp s g).key]at e
  exact O.kd q h s g e
 ·rw[(kp q h).key]at e
  exact absurd e.symm (kd gi g q h)
 ·rw[(kp s g).key]at e
  exact absurd e (kd hi h s g)
 rfl
theorem CM{C:Cs}(K:Ok C){W:Tb}(O:dt C W){p:Nat}(L:Live C p)(I:gD C p)(hp:p∉W.all)(hk:∀q∈W.all,aH C.A q≠aH C.A p){x:Bool×Nat}(hx:W.bk (cn (aH C.A p))=x):
  dt (C.wA (wr C.A p 4 (nO (W.ch x).head?))) {W.cR x (p::W.ch x)with n:=W.n+1}:=by
 have kp:∀q∈W.all,Kept C (wr C.A p 4 (nO (W.ch x).head?)) q:=λq hq=>nE K (O.lv q hq) L (O.it q hq) _;have kpp:=nE K L L I (nO (W.ch x).head?);have ne:∀q∈W.all,q≠p:=λq hq e=>hp (e▸hq);have far:∀q∈W.all,rd (wr C.A p 4 (nO (W.ch x).head?)) q 4=rd C.A q 4:=λq hq=>tS K (O.lv q hq) L (ne q hq) _;have sub:∀q∈W.ch x,q∈W.all:=λq hq=>Tb.gM hq;have lO:di C (W.ch x).head?:=λq hq=>O.lv q (sub q (abY hq));refine CH O (by rw[<-hx];exact rZ O _) rfl (p:=p) (by simp;omega) (abB.2 ⟨λh=>hp (sub p h),(W.oN x).nodup O.nd⟩) (λq hq=> ?_) ⟨AW _ _ _ (o6 K lO),qN (λq hq=>far q (sub q hq)) (O.li x)⟩
  (λq hq _=>far q hq) (λq hq=> ?_) kp (λq hq=> ?_) (λq hq=> ?_) (λ_ _ r hr e=> ?_)
 ·rcases abE.1 hq with rfl|h
  ·exact .inr ⟨rfl,hp⟩
  exact .inl h
 ·rcases abE.1 hq with rfl|h
  ·exact L
  exact O.lv q (sub q h)
 ·rcases abE.1 hq with rfl|h
  ·exact kpp.it I
  exact(kp q (sub q h)).it (O.it q (sub q h))
 ·rcases abE.1 hq with rfl|h
  ·rw[kpp.key];exact hx
  rw[(kp q (sub q h)).key];exact O.bu x q h
 rw[kpp.key]at e;exact hk r hr e.symm
def ry (A B:By)(S:FH)(a n:Nat):Prop:=∀i,B i≠A i->∃q∈S,q+a<=i/\i<q+a+n
theorem ry.refl (A:By)(S:FH)(a n:Nat):ry A A S a n:=λ_ h=>absurd rfl h
theorem ry.trans{A B D:By}{S:FH}{a n:Nat}(h:ry A B S a n)(g:ry B D S a n):ry A D S a n:=λi e=>by
 by_cases hb:B i=A i
 ·exact g i (by rw[hb];exact e)
 exact h i hb
theorem ry.mono{A B:By}{S R:FH}{a n:Nat}(h:ry A B S a n)(s:∀q∈S,q∈R):ry A B R a n:=λi e=>by
 obtain⟨q,q1,q2⟩:=h i e;exact⟨q,s q q1,q2⟩
theorem x4 (A:By){S:FH}{q a n v:Nat}(h:q∈S):ry A (wr A (q+a) n v) S a n:=λi e=>by
 refine⟨q,h, ?_⟩;refine abz λg=>e ?_;unfold wr;exact gy _ _ _ _ (by rw[mH];omega)
theorem KG{C:Cs}(K:Ok C){B:By}{S:FH}{a n:Nat}(d:ry C.A B S a n)(hS:∀q∈S,At C q){p o w:Nat}(L:At C p)(ha:a+n<=64)(ho:o+w<=C.sz (C.cl p))(h:p∈S->a+n<=o\/o+w<=a):jS B (p+o) w=jS C.A (p+o) w:=
 ve λi h1 h2=>by
  refine abz λe=> ?_;obtain⟨q,q1,q2,q3⟩:=d i e;have m1:=((hS q q1).ba K).2.1;rcases far K L (hS q q1) (a:=a) (n:=n) (o:=o) (w:=w) (by omega) ho (λe=>h (e▸q1))with g|g<;>omega
theorem SC{C:Cs}(K:Ok C){B:By}{S:FH}{a n:Nat}(d:ry C.A B S a n)(hS:∀q∈S,At C q){p o w:Nat}(L:At C p)(ha:a+n<=64)(ho:o+w<=C.sz (C.cl p))(h:p∈S->a+n<=o\/o+w<=a):rd B (p+o) w=rd C.A (p+o) w:=by
 unfold rd;rw[KG K d hS L ha ho h]
theorem yP{C:Cs}(K:Ok C){B:By}{S:FH}{a n:Nat}(d:ry C.A B S a n)(hS:∀q∈S,At C q)(ha:a+n<=12){p:Nat}(L:At C p)(I:gD C p):Kept C B p:=by
 have n1:=(L.ba K).2.1;have hf:=I.fits;have r:=λ(o w:Nat) (h1:12<=o) (h2:o+w<=C.sz (C.cl p))=>SC K d hS L (by omega) h2 (λ_=> .inl (by omega));have e1:kl B p=kl C.A p:=r 44 1 (by omega) (by omega);have e2:vl B p=vl C.A p:=r 48 4 (by omega) (by omega);refine⟨e1,e2, ?_,λJ=>⟨?_, ?_, ?_, ?_⟩⟩
 ·unfold aH
  rw[e1];exact KG K d hS L (by omega) (by omega) (λ_=> .inl (by omega))
 ·rw[cH,e1];exact J.k0
 ·rw[cH,e1,e2];exact J.fits
 ·rw[cH,r 16 8 (by omega) (by omega)];exact J.exp
 rw[cH,r 24 8 (by omega) (by omega)];exact J.tch
theorem Yh (A:By)(c:FH)(j:Nat)(hj:j<c.length):ry A (pF A c j) c 0 4:=by
 rcases j with _|j
 ·exact ry.refl _ _ _ _
 rw[nB,mm (by omega)];exact x4 A (a:=0) (abC (by omega))
theorem Uc (A:By)(c:FH)(j:Nat)(hj:j<c.length):ry A (pL A c j c[j]) c 0 4:=
 (Yh A c j hj).trans (x4 _ (a:=0) (abC hj))
theorem JS{C:Cs}(K:Ok C){W:Tb}(O:dt C W){x:Bool×Nat}(hx:Gr W x){c:FH}(hc:W.ch x=c){j p:Nat}(hj:j<c.length)(hp:c[j]=p):
  dt (C.wA (pL C.A c j p)) {W.cR x (c.eraseIdx j)with n:=W.n-1}/\ry C.A (pL C.A c j p) W.all 0 4:=by
 subst hp;have sub:∀q∈c,q∈W.all:=λq hq=>Tb.gM (x:=x) (by rw[hc];exact hq);have d:=Uc C.A c j hj;have dW:ry C.A (pL C.A c j c[j]) W.all 0 4:=d.mono sub;have at_:∀q∈W.all,At C q:=λq hq=>(O.lv q hq).toAt;have kp:∀q∈W.all,Kept C (pL C.A c j c[j]) q:=λq hq=>yP K dW at_ (by omega) (at_ q hq) (O.it q hq);have li:=O.li x;have nd:=(W.oN x).nodup O.nd;rw[hc]at li nd;have es:∀q∈c.eraseIdx j,q∈c:=λq hq=>List.mem_of_mem_eraseIdx hq;refine⟨CH O hx hc (p:=c[j]) ?_ (nd.sublist (List.eraseIdx_sublist c j)) (λq hq=> .inl (es q hq)) ?_ (λq hq g=> ?_) (λq hq=>O.lv q (sub q (es q hq))) kp (λq hq=>(kp q (sub q (es q hq))).it (O.it q (sub q (es q hq))))
  (λq hq=>by rw[(kp q (sub q (es q hq))).key];exact O.bu x q (by rw[hc];exact es q hq)) (λ_ h r hr e=> ?_),dW⟩
 ·have h1:=uV O x
  rw[hc]at h1;have h2:=ag8 hj;omega
 ·refine Rl λk hk=> ?_
  have hlen:=ag8 hj;have lv:∀i (h:i<c.length),Live C c[i]:=λi h=>O.lv _ (sub _ (abC h));have inj:∀i k (h:i<c.length) (g:k<c.length),i≠k->c[i]≠c[k]:=λi k h g e h2=>e ((ajT nd).1 h2);have K2:=K.wA (pF C.A c j);have rd2:∀i (h:i<c.length),i≠j->rd (pL C.A c j c[j]) c[i] 4=rd (pF C.A c j) c[i] 4:=λi h e=>tS K2 ((lv i h).wA _) ((lv j hj).wA _) (inj i j h hj e) 0;have rd1:∀i (h:i<c.length),i+1≠j->rd (pF C.A c j) c[i] 4=nO c[i+1]?:=λi h e=>by
   rcases j with _|j
   ·exact Ka li h
   rw[nB,mm (by omega),tS K (lv i h) (lv j (by omega)) (inj i j h (by omega) (by omega))];exact Ka li h
  have rd0:∀i (h:i<c.length),i+1=j->rd (pF C.A c j) c[i] 4=nO c[i+2]?:=λi h e=>by
   subst e;rw[nB,mm (by omega),ahg];refine AW _ _ _ (o6 K λq hq=> ?_);exact O.lv q (sub q (List.mem_of_getElem? hq))
  rw[List.getElem_eraseIdx];split
  ·next h=>
   have sI:k<c.length:=by omega
   rw[rd2 k sI (by omega)];by_cases e:k+1=j
   ·rw[rd0 k sI e,abQ (by omega)]
   rw[rd1 k sI e,List.getElem?_eraseIdx_of_lt (by omega)]
  next h=>
  have sI:k+1<c.length:=by omega
  rw[rd2 (k+1) sI (by omega),rd1 (k+1) sI (by omega),abQ (by omega)]
 ·have:=SC K d (λq hq=>at_ q (sub q hq)) (at_ q hq) (o:=0) (w:=4) (by omega) (by have:=((at_ q hq).ba K).2.1;omega) (λh=>absurd h g)
  exact this
 exact absurd (sub _ (abC hj)) h
def Tb.nn (W:Tb):Tb:={W with n:=W.all.length}
def Tb.emp (W:Tb):Tb:={W.cR (true,W.mv) []with mv:=W.mv+1}
theorem Tb.afk (W:Tb):W.emp.nb=W.nb:=rfl
theorem Tb.Sx (W:Tb):W.emp.ob=W.ob.set W.mv []:=rfl
theorem Sw{C:Cs}{W:Tb}(O:dt C W)(hm:W.mv<W.ob.length):dt C W.emp.nn/\W.all.Perm (W.ch (true,W.mv)++W.emp.all)/\
  ∀q∈W.ch (true,W.mv),W.emp.bk (cn (aH C.A q))=(false,cn (aH C.A q) % W.nb.length):=by
 have hx:Gr W (true,W.mv):=hm;obtain⟨r,p1,p2⟩:=Tb.oE hx;have pe:W.emp.all.Perm r:=by
  have:(W.cR (true,W.mv) []).all.Perm r:=by simpa using p2 []
  exact this
 have rp:W.emp.all=(W.cR (true,W.mv) []).all:=rfl;have O1:=CH O hx rfl (c':= []) (A:=C.A) (n':=W.emp.all.length) (p:=0) (by
   have h1:=O.n;rw[p1.length_eq,aby]at h1;rw[pe.length_eq,List.length_nil];omega) List.nodup_nil (λ_ h=>by cases h) trivial (λ_ _ _=>rfl) (λ_ h=>by cases h) (λq _=>Kept.refl C q) (λ_ h=>by cases h) (λ_ h=>by cases h) (λh=>by cases h)
 have bkx:∀h,W.emp.bk h=if W.mv=h % W.ob.length then(false,h % W.nb.length)else W.bk h:=λh=>by
  unfold Tb.bk;rw[Tb.afk,Tb.Sx,aak,show W.emp.mv=W.mv+1 from rfl];split
  ·next g=>rw[if_neg (by omega),if_pos ⟨g.1,by omega⟩]
  next g=>
  split
  ·rfl
  next e=>rw[if_neg (by omega)]
 have chx:∀z,W.emp.ch z=(W.cR (true,W.mv) []).ch z:=λ_=>rfl;have ol:W.ob.length<=1048576:=by
  rcases O.po with h|⟨m,hm,e⟩
  ·rw[h];decide
  exact(rC e hm).2
 have obl:W.emp.nn.ob.length=W.ob.length:=by show(W.ob.set W.mv []).length=_;rw[aak]
 have fA:W.st=2:=by
  rcases O.st with h|h
  ·rw[h.2]at hm;cases hm
  exact h.1
 have old:∀h i,W.bk h=(true,i)->h % W.ob.length=i:=λh i e=>by
  unfold Tb.bk at e;split at e
  ·cases e;rfl
  cases e
 refine⟨⟨O1.pw,O1.po, .inr ⟨fA,by rw[obl];omega,by rw[obl];exact hm⟩,O1.mp,O1.sz,O1.PG,O1.sm,ahb hm ol,rfl,O1.nd,O1.li,O1.lv,O1.it,λz q hq=> ?_,O1.kd⟩,p1.trans (abA.append_left _ pe.symm),λq hq=> ?_⟩
 ·change W.emp.bk (cn (aH C.A q))=z
  rw[bkx];have hq':q∈(W.cR (true,W.mv) []).ch z:=hq;rw[Tb.SF hx]at hq';split at hq'
  ·cases hq'
  next e=>
  have hb:=O.bu z q hq';split
  ·next g=>
   refine absurd ?_ e;rw[<-hb];unfold Tb.bk;rw[if_pos ⟨by omega,by omega⟩,g]
  exact hb
 rw[bkx,old _ _ (O.bu _ q hq),if_pos rfl]
structure Hand (C:Cs)(W:Tb)(r:FH):Prop where
 nd:r.Nodup
 li:GB C.A r
 lv:∀q∈r,Live C q
 it:∀q∈r,gD C q
 no:∀q∈r,q∉W.all
 kd:∀q∈r,∀s∈W.all,aH C.A s≠aH C.A q
 kr:∀q∈r,∀s∈r,aH C.A q=aH C.A s->q=s
theorem Zd{C:Cs}{W:Tb}(O:dt C W)(hm:W.mv<W.ob.length):Hand C W.emp (W.ch (true,W.mv)):=by
 obtain⟨_,p,_⟩:=Sw O hm;have nd:=af4.1 (p.nodup_iff.1 O.nd);have sub:∀q∈W.ch (true,W.mv),q∈W.all:=λq hq=>Tb.gM hq;have sub2:∀q∈W.emp.all,q∈W.all:=λq hq=>p.mem_iff.2 (agP _ hq);exact⟨nd.1,O.li _,λq hq=>O.lv q (sub q hq),λq hq=>O.it q (sub q hq),λq hq g=>nd.2.2 q hq q g rfl,
  λq hq s hs e=>nd.2.2 q hq s hs (O.kd s (sub2 s hs) q (sub q hq) e).symm,λq hq s hs e=>O.kd q (sub q hq) s (sub s hs) e⟩
def Tb.on (W:Tb)(C:Cs)(p:Nat):Tb:=W.cR (W.bk (cn (aH C.A p))) (p::W.ch (W.bk (cn (aH C.A p))))
def DB (W:Tb)(C:Cs)(p:Nat):By:=wr C.A p 4 (nO (W.ch (W.bk (cn (aH C.A p)))).head?)
theorem aiI{C:Cs}(K:Ok C){W:Tb}(O:dt C W.nn){p:Nat}{r:FH}(H:Hand C W (p::r)):
  dt (C.wA (DB W C p)) (W.on C p).nn/\Hand (C.wA (DB W C p)) (W.on C p) r/\(W.on C p).all.Perm (p::W.all)/\ry C.A (DB W C p) [p] 0 4:=by
 have L:=H.lv p (by simp);have I:=H.it p (by simp);have P:=CM K O L I (H.no p (by simp)) (H.kd p (by simp)) (x:=W.bk (cn (aH C.A p))) rfl;have hx:Gr W (W.bk (cn (aH C.A p))):=rZ O (cn (aH C.A p));obtain⟨r1,p1,p2⟩:=Tb.oE hx;have pa:(W.on C p).all.Perm (p::W.all):=(p2 _).trans (abA.cons p p1.symm);have ne:(W.on C p).nn={W.nn.cR (W.bk (cn (aH C.A p))) (p::W.ch (W.bk (cn (aH C.A p))))with n:=W.nn.n+1}:=by
  have:(W.on C p).all.length=W.all.length+1:=by rw[pa.length_eq];rfl
  unfold Tb.nn;rw[this];unfold Tb.on;rcases W.bk (cn (aH C.A p))with⟨_|_,i⟩<;>rfl
 have d:ry C.A (DB W C p) [p] 0 4:=x4 C.A (q:=p) (a:=0) (by simp);have nd:=abB.1 H.nd;have kp:∀q∈r,Kept C (DB W C p) q:=λq hq=>nE K (H.lv q (by simp[hq])) L (H.it q (by simp[hq])) _;have kw:∀q∈W.all,Kept C (DB W C p) q:=λq hq=>nE K (O.lv q hq) L (O.it q hq) _;have kpp:Kept C (DB W C p) p:=nE K L L I _;refine⟨by rw[ne];exact P,⟨nd.2,qN (λq hq=>tS K (H.lv q (by simp[hq])) L (λe=>nd.1 (e▸hq)) _) H.li.2,λq hq=>(H.lv q (by simp[hq])).wA _,λq hq=>(kp q hq).it (H.it q (by simp[hq])),λq hq g=> ?_,λq hq s hs e=> ?_,λq hq s hs e=> ?_⟩,pa,d⟩
 ·rcases abE.1 (pa.mem_iff.1 g)with h|h
  ·exact nd.1 (h▸hq)
  exact H.no q (by simp[hq]) h
 ·change aH (DB W C p) s=aH (DB W C p) q at e
  rw[(kp q hq).key]at e;rcases abE.1 (pa.mem_iff.1 hs)with h|h
  ·subst h
   rw[kpp.key]at e;have:=H.kr s (by simp) q (by simp[hq]) e;exact nd.1 (this▸hq)
  rw[(kw s h).key]at e;exact H.kd q (by simp[hq]) s h e
 change aH (DB W C p) q=aH (DB W C p) s at e;rw[(kp q hq).key,(kp s hs).key]at e;exact H.kr q (by simp[hq]) s (by simp[hs]) e
structure rG (W V:Tb):Prop where
 n:V.n=W.n
 st:V.st=W.st
 size:V.size=W.size
 most:V.most=W.most
 nb:V.nb.length=W.nb.length
 ob:V.ob.length=W.ob.length
theorem rG.on{C:Cs}{W V:Tb}(h:rG W V)(p:Nat):rG W (V.on C p):=by
 unfold Tb.on;rcases V.bk (cn (aH C.A p))with⟨_|_,i⟩
 ·exact⟨h.n,h.st,h.size,h.most,by rw[<-h.nb];exact aak,h.ob⟩
 exact⟨h.n,h.st,h.size,h.most,h.nb,by rw[<-h.ob];exact aak⟩
theorem aaD (C:Cs)(W:Tb)(p:Nat):(W.on C p).mv=W.mv:=by
 unfold Tb.on;rcases W.bk (cn (aH C.A p))with⟨_|_,i⟩<;>rfl
structure W4 (C:Cs)(W:Tb)(A:By)(V:Tb)(r:FH)(k:Nat):Prop where
 o:dt (C.wA A) V.nn
 h:Hand (C.wA A) V r
 p:(r++V.all).Perm W.all
 d:ry C.A A W.all 0 4
 s:rG W V
 mv:V.mv=W.mv+1
 k:k+r.length<=W.n
structure acy (C:Cs)(W:Tb)(A:By)(V:Tb):Prop where
 o:dt (C.wA A) V
 p:V.all.Perm W.all
 d:ry C.A A W.all 0 4
 s:rG W V
 mv:V.mv=W.mv+1
theorem W4.start{C:Cs}{W:Tb}(O:dt C W)(hm:W.mv<W.ob.length):W4 C W C.A W.emp (W.ch (true,W.mv)) 0:=by
 obtain⟨h1,h2,_⟩:=Sw O hm;exact⟨h1,Zd O hm,h2.symm,ry.refl _ _ _ _,⟨rfl,rfl,rfl,rfl,rfl,aak⟩,rfl,by have:=uV O (true,W.mv);omega⟩
theorem W4.step{C:Cs}(K:Ok C){W:Tb}{A:By}{V:Tb}{p:Nat}{r:FH}{k:Nat}(I:W4 C W A V (p::r) k):W4 C W (DB V (C.wA A) p) (V.on (C.wA A) p) r (k+1):=by
 obtain⟨h1,h2,h3,h4⟩:=aiI (K.wA A) I.o I.h;have hp:p∈W.all:=I.p.mem_iff.1 (by simp);refine⟨h1,h2, ?_,I.d.trans (h4.mono λq hq=>by rw[abR]at hq;exact hq▸hp),I.s.on p,by rw[aaD];exact I.mv,by have:=I.k;simp at this;omega⟩;refine(abA.append_left r h3).trans (abA.trans ?_ I.p);exact List.perm_middle
theorem W4.done{C:Cs}{W:Tb}(O:dt C W){A:By}{V:Tb}{k:Nat}(I:W4 C W A V [] k):acy C W A V:=by
 have e:V.nn=V:=by
  unfold Tb.nn;have h1:=I.p.length_eq;simp only[List.nil_append]at h1;rw[h1,<-O.n,<-I.s.n]
 have o:=I.o;rw[e]at o;exact⟨o,by simpa using I.p,I.d,I.s,I.mv⟩
theorem Zu (b:Nat)(W:Tb)(nk ok:Nat): [Dk b,Dm Dl W.most,Dm Dl W.n,Dm Dl W.size, .slice (some ⟨nk,0,none⟩) W.nb.length W.nb.length, .slice (some ⟨ok,0,none⟩) W.ob.length W.ob.length,Dm Dl ((W.mv:Int)+1),Dm Dl W.st]=gE b W.emp ⟨nk,some ok⟩:=by
 unfold gE V9;rw[Tb.Sx,aak];rfl
theorem TC (t b:Nat)(C:Cs)(K:Ok C)(W:Tb)(y:pq)(O:dt C W)(hy:y.ok=none->W.ob= [])(hm:W.mv<W.ob.length):
  aG aaa 135 [Dk t,Dm Dl W.mv] (λ_=>True) (Cl b C::mM t b W y)
   (λv H=>v= .tuple #[]/\∃A V,H=Cl b (C.wA A)::mM t b V y/\acy C W A V):=by
 obtain⟨ok,pC⟩:∃ok,y.ok=some ok:=by
  rcases h:y.ok with _|ok
  ·rw[hy h]at hm;cases hm
  exact⟨ok,rfl⟩
 rcases y with⟨nk,_⟩
 dsimp only at pC;subst pC;have hn:=BD K O;have mvb:=O.mv;have st:=W4.start O hm;have ho:di C (W.ch (true,W.mv)).head?:=λq hq=>O.lv q (Tb.gM (abY hq));have eJ:(aS (aF W.ob))[W.mv]?=some (Dm alb (nO (W.ch (true,W.mv)).head?)):=qm hm;change aG _ _ _ _ [Cl b C,ag t 154 [Dk b,Dm Dl W.most,Dm Dl W.n,Dm Dl W.size, .slice (some ⟨nk,0,none⟩) W.nb.length W.nb.length, .slice (some ⟨ok,0,none⟩) W.ob.length W.ob.length,Dm Dl W.mv,Dm Dl W.st],ag nk 149 (aS (aF W.nb)),ag ok 149 (aS (aF W.ob))] _;refine af func135 rfl ntmps135 rfl ?_;intro F _;refine cA ?_;refine zl Aa (lZ t b C W ⟨nk,some ok⟩ K (W.ch (true,W.mv)).head? ho) .nil (λ_ le ak=>⟨ak.1,ak.2.1⟩) ?_;refine cA ?_;refine Lp (oS pX ?_ (i:=W.mv) (hi:=by rw[lS,nG];exact hm));rw[show(aS (aF W.ob)).set W.mv (Dm alb 0)=aS (aF (W.ob.set W.mv []))from nF W.ob W.mv []];refine lx ?_;refine Hh (H':= [Cl b C,ag t 154 [Dk b,Dm Dl W.most,Dm Dl W.n,Dm Dl W.size, .slice (some ⟨nk,0,none⟩) W.nb.length W.nb.length, .slice (some ⟨ok,0,none⟩) W.ob.length W.ob.length,Dm Dl ((W.mv:Int)+1),Dm Dl W.st],ag nk 149 (aS (aF W.nb)),ag ok 149 (aS (aF (W.ob.set W.mv [])))]) ?_;rw[Zu b W nk ok];refine Lo (ι:=By×Tb×FH×Nat) (FN [4,3,29,24]) (λs=>W4 C W s.1 s.2.1 s.2.2.1 s.2.2.2) (λs=> [(4,Dm Dj (hO (C.wA s.1) s.2.2.1.head?)),(5,Dm Dl s.2.2.2)]) (λs=> [Cl b (C.wA s.1),ag t 154 (gE b s.2.1 ⟨nk,some ok⟩),ag nk 149 (aS (aF s.2.1.nb)),ag ok 149 (aS (aF s.2.1.ob))]) (λs=>s.2.2.1.length) ((C.A,W.emp,W.ch (true,W.mv),0)) st ?_;rintro⟨A,V,r,k⟩ hI
 try dsimp only at hI⊢
 have K2:=K.wA A;have hk:=hI.k;have hsn:=hI.s.n;rcases r with _|⟨p,r⟩
 ·unfold gE
  refine bn ?_;refine zf 31 ?_ (e:=by rfl);refine gJ ?_;refine jU [Cl b (C.wA A),ag t 154 (gE b V ⟨nk,some ok⟩),ag nk 149 (aS (aF V.nb)),ag ok 149 (aS (aF V.ob))] results135 ?_;exact⟨rfl,A,V,rfl,hI.done O⟩
 have L:=hI.h.lv p (by simp);have I:=hI.h.it p (by simp);obtain⟨m1,m2,m3,m4,m5,m6⟩:=bM K2 L.toAt;have hx:=rZ hI.o (cn (aH A p));have lvr:di (C.wA A) r.head?:=λq hq=>hI.h.lv q (aai _ (abY hq));have lvc:di (C.wA A) (V.ch (V.bk (cn (aH A p)))).head?:=λq hq=>hI.o.lv q (Tb.gM (T:=V) (abY hq));have lk:(aH A p).length=kl A p:=cE _ _ _;obtain⟨z1,z2,z3,_⟩:=L.toAt.ba K2;have lf:=I.fits;change 58+kl A p+vl A p<=_ at lf;have f1:=K2.toFix.p1;have fA:=hI.step K;have eo:V.on (C.wA A) p=V.cR (V.bk (cn (aH A p))) (p::V.ch (V.bk (cn (aH A p)))):=rfl;have hoA:DB V (C.wA A) p=wr A p 4 (nO (V.ch (V.bk (cn (aH A p)))).head?):=rfl;have hbk:Tb.bk {V with n:=V.all.length} (cn (aH A p))=V.bk (cn (aH A p)):=rfl;rw[eo,hoA]at fA;simp only[List.length_cons]at hk;rw[List.head?_cons,bZ];unfold gE;refine bn ?_;refine zt 31 ?_ (e:=by exact by rw[Ab];rfl);refine cV ?_;refine fe ?_;refine bK ?_;refine zl Aa (jQ t b (C.wA A) V ⟨nk,some ok⟩ K2 p r.head? L I.k0 lvr hI.h.li.1) .nil (λ_ le ak=>⟨ak.1,ak.2.1⟩) ?_;refine bK ?_;refine Lp (oC Aa rfl rfl (qA t b (C.wA A) V ⟨nk,some ok⟩ K2 p L I) .nil (λ_ le ak=>⟨ak.1,ak.2.1⟩) ?_);rintro v H' ⟨kb,rfl,rfl⟩;refine bR ?_;refine zl Aa (l7 t b (C.wA A) V ⟨nk,some ok⟩ V.all.length hI.o (λh=>by cases h) (some ⟨kb,0,none⟩) (kl A p) (kl A p) (aH A p) lk.symm (by omega)) .nil (λ_ le ak=>⟨ak.2.2.1,bX ak.1⟩) ?_;refine aw ?_;replace hx:Gr V (V.bk (cn (aH A p))):=hx
 clear eo hoA hbk
 generalize V.bk (cn (aH A p))=x at hx lvc fA⊢;refine zl Aa (yn t b (C.wA A) K2 V ⟨nk,some ok⟩ (λh=>by cases h) x hx p L I.k0 lvc) (.cons (.there .here) (.cons (.there .here) (.cons (.there .here) (.cons (.there .here) .nil)))) Di ?_;refine bP ?_;refine aD ?_;refine Ro ((wr A p 4 (nO (V.ch x).head?),V.cR x (p::V.ch x),r,k+1)) (fA) ((by simp))
def Tb.fin (W:Tb):Tb:={W with ob:= [],st:=0}
theorem afh{C:Cs}{W:Tb}(O:dt C W)(hm:W.ob.length<=W.mv):dt C W.fin/\W.fin.all.Perm W.all:=by
 obtain⟨m,Xh,ep⟩:=O.pw;obtain⟨p1,_⟩:=rC ep Xh;have no:∀i,W.ch (true,i)= []:=λi=>by
  refine ajP.2 λq hq=> ?_;have h:=O.bu _ q hq;unfold Tb.bk at h;split at h
  ·next g=>
   have:=ag6 (cn (aH C.A q)) g.1;omega
  cases h
 have obf:W.ob.flatten= []:=by
  refine ajP.2 λq hq=> ?_;obtain⟨l,h1,h2⟩:=ajI.1 hq;obtain⟨i,hi,rfl⟩:=abS h1;have:=no i;unfold Tb.ch at this;rw[if_pos rfl,aab,aac hi]at this;change W.ob[i]= []at this;rw[this]at h2;cases h2
 have ea:W.fin.all=W.all:=by unfold Tb.fin Tb.all;rw[obf];rfl
 have chx:∀z,W.fin.ch z=W.ch z:=λz=>by
  rcases z with⟨_|_,i⟩
  ·rfl
  rw[no i];rfl
 refine⟨⟨O.pw, .inl rfl, .inl ⟨rfl,rfl⟩,O.mp,O.sz,O.PG,O.sm,O.mv,by rw[ea];exact O.n,by rw[ea];exact O.nd,λz=>by rw[chx];exact O.li z,by rw[ea];exact O.lv,by rw[ea];exact O.it,λz q hq=> ?_,by rw[ea];exact O.kd⟩,by rw[ea]⟩;rw[chx]at hq;have h:=O.bu z q hq;rw[<-h];unfold Tb.bk Tb.fin;rw[if_neg (by simp)];split
 ·next g=>
  have:=ag6 (cn (aH C.A q)) g.1;omega
 rfl
def Tb.Ja (W:Tb)(s:Nat):Tb:={W with size:=s,nb:=aae s [],ob:=W.nb,mv:=0,st:=2}
theorem VD (s:Nat):(aae s ([]:FH)).flatten= []:=by
 rw[List.flatten_eq_nil_iff];intro l h;exact List.eq_of_mem_replicate h
theorem SJ{C:Cs}{W:Tb}(O:dt C W)(h0:W.st=0){s:Nat}(hs:∃m,m<=20/\s=2^m)(h16:16<=s)(hm:s<=W.most):dt C (W.Ja s)/\(W.Ja s).all=W.all:=by
 obtain⟨m,Xh,ep⟩:=O.pw;obtain⟨p1,p2⟩:=rC ep Xh;have ob0:W.ob= []:=by
  rcases O.st with h|h
  ·exact h.2
  omega
 have ea:(W.Ja s).all=W.all:=by
  unfold Tb.Ja Tb.all;rw[ob0];show(aae s []).flatten++W.nb.flatten=_;rw[VD];simp
 have chf:∀i,(W.Ja s).ch (false,i)= []:=λi=>by
  show(aae s []).getD i []= [];rw[aab];by_cases h:i<s
  ·rw[ab1,if_pos h];rfl
  rw[ab1,if_neg h];rfl
 refine⟨⟨by obtain⟨m,h1,h2⟩:=hs;exact⟨m,h1,by show(aae s _).length=_;rw[aga];exact h2⟩, .inr O.pw, .inr ⟨rfl,by show 0<W.nb.length;omega,abL _⟩,O.mp,(aga ..).symm,h16,hm,abL _,by rw[ea];exact O.n,by rw[ea];exact O.nd,λz=> ?_,by rw[ea];exact O.lv,by rw[ea];exact O.it,λz q hq=> ?_,by rw[ea];exact O.kd⟩,ea⟩
 ·rcases z with⟨_|_,i⟩
  ·rw[chf];trivial
  exact O.li (false,i)
 rcases z with⟨_|_,i⟩
 ·rw[chf]at hq;cases hq
 have h:=O.bu (false,i) q hq;unfold Tb.bk at h;rw[if_neg (by rw[ob0];simp)]at h;show Tb.bk (W.Ja s) _=_;unfold Tb.bk;rw[if_pos ⟨by show 0<W.nb.length;omega,abL _⟩];have:=(Prod.mk.inj h).2;show(true,cn (aH C.A q) % W.nb.length)=_;rw[this]
structure xN (C:Cs)(W:Tb)(k:Nat)(A:By)(V:Tb):Prop where
 o:dt (C.wA A) V
 p:V.all.Perm W.all
 d:ry C.A A W.all 0 4
 s:rG W V
 mv:V.mv=W.mv+k
theorem xN.zero{C:Cs}{W:Tb}(O:dt C W):xN C W 0 C.A W:=⟨O,abA.refl _,ry.refl _ _ _ _,⟨rfl,rfl,rfl,rfl,rfl,rfl⟩,rfl⟩
theorem xN.next{C:Cs}{W:Tb}{k:Nat}{A:By}{V:Tb}(I:xN C W k A V){B:By}{U:Tb}(M:acy (C.wA A) V B U):xN C W (k+1) B U:=
 ⟨M.o,M.p.trans I.p,I.d.trans (M.d.mono λq hq=>I.p.mem_iff.1 hq),⟨M.s.n.trans I.s.n,M.s.st.trans I.s.st,M.s.size.trans I.s.size,M.s.most.trans I.s.most,M.s.nb.trans I.s.nb,M.s.ob.trans I.s.ob⟩,by rw[M.mv,I.mv];omega⟩
structure Stp (C:Cs)(W:Tb)(k:Nat)(A:By)(V:Tb):Prop where
 o:dt (C.wA A) V
 p:V.all.Perm W.all
 d:ry C.A A W.all 0 4
 n:V.n=W.n
 size:V.size=W.size
 most:V.most=W.most
 on:W.mv+k<W.ob.length->V.st=2/\V.mv=W.mv+k/\V.ob.length=W.ob.length
 off:W.ob.length<=W.mv+k->V.st=0
theorem xN.go{C:Cs}{W:Tb}{k:Nat}{A:By}{V:Tb}(I:xN C W k A V)(h2:W.st=2)(h:W.mv+k<W.ob.length):Stp C W k A V:=
 ⟨I.o,I.p,I.d,I.s.n,I.s.size,I.s.most,λ_=>⟨by rw[I.s.st,h2],I.mv,I.s.ob⟩,λg=>by omega⟩
theorem xN.fin{C:Cs}{W:Tb}{k j:Nat}{A:By}{V:Tb}(I:xN C W k A V)(h:W.mv+k=W.ob.length)(hj:k<=j):Stp C W j A V.fin:=by
 obtain⟨f1,f2⟩:=afh I.o (by rw[I.s.ob,I.mv];omega);exact⟨f1,f2.trans I.p,I.d,I.s.n,I.s.size,I.s.most,λg=>by omega,λ_=>rfl⟩
theorem L6 (t b:Nat)(C:Cs)(K:Ok C)(W:Tb)(y:pq)(h0:W.st=0)(k:Nat):
  aG aaa 88 [Dk t,Dm Dl k] (In (ag t 154 (gE b W y))) []
   (λv H=>v=Dm Dl 0/\H= []):=by
 unfold gE;rw[h0];refine af func88 rfl ntmps88 rfl ?_;intro F ht;refine cK ?_;refine cK ?_;refine rM ?_;refine Rt [] results88 ?_;exact⟨rfl,rfl⟩
theorem L3 (t b:Nat)(C:Cs)(K:Ok C)(W:Tb)(nk ok:Nat)(O:dt C W)(h2:W.st=2)(hm:W.mv<W.ob.length)(k:Nat)(hk:k<=1099511627776):
  aG aaa 88 [Dk t,Dm Dl k] (λ_=>True) (Cl b C::mM t b W ⟨nk,some ok⟩)
   (λv H=>v=Dm Dl (min k (W.ob.length-W.mv):Nat)/\∃A V o',H=Cl b (C.wA A)::mM t b V ⟨nk,o'⟩/\(o'=none->V.ob= [])/\Stp C W k A V):=by
 have ol:W.ob.length<=1048576:=by
  rcases O.po with h|⟨m,hm,e⟩
  ·rw[h];decide
  exact(rC e hm).2
 change aG _ _ _ _ [Cl b C,ag t 154 [Dk b,Dm Dl W.most,Dm Dl W.n,Dm Dl W.size, .slice (some ⟨nk,0,none⟩) W.nb.length W.nb.length, .slice (some ⟨ok,0,none⟩) W.ob.length W.ob.length,Dm Dl W.mv,Dm Dl W.st],ag nk 149 (aS (aF W.nb)),ag ok 149 (aS (aF W.ob))] _;refine af func88 rfl ntmps88 rfl ?_;intro F _;refine cK ?_;refine bs ?_;refine cN ?_;refine bK ?_;refine fe ?_;refine cA ?_;refine Lo (ι:=Nat×By×Tb) (FN [5,1,27,23]) (λs=>xN C W s.1 s.2.1 s.2.2/\s.1<=k/\W.mv+s.1<=W.ob.length) (λs=> [(5,Dm Dl s.1)]) (λs=> [Cl b (C.wA s.2.1),ag t 154 (gE b s.2.2 ⟨nk,some ok⟩),ag nk 149 (aS (aF s.2.2.nb)),ag ok 149 (aS (aF s.2.2.ob))]) (λs=>k-s.1) ((0,C.A,W)) ⟨xN.zero O,abL _,Nat.le_of_lt hm⟩ ?_;rintro⟨d,A,V⟩ hI
 try dsimp only at hI⊢
 have K2:=K.wA A;have hmv:=hI.1.mv;have hob:=hI.1.s.ob;have hd:=hI.2;unfold gE;refine aw ?_;refine av ?_;refine iU 14 mix (.cons (.there .here) .nil) λF1 jD bV aI=> ?_;obtain⟨q1,_⟩:=bV;by_cases hg:d<k
 ·refine Ti Mv ?_
  refine bq ?_;refine zt 30 ?_;refine bB ?_;refine gI aI ?_;refine bd ?_;by_cases hl:W.mv+d<W.ob.length
  ·refine fe ?_
   refine Hh (H':= [Cl b (C.wA A),ag t 154 (gE b V ⟨nk,some ok⟩),ag nk 149 (aS (aF V.nb)),ag ok 149 (aS (aF V.ob))]) ?_;unfold gE;refine bB ?_;refine Lp (oC Aa rfl rfl (TC t b (C.wA A) K2 V ⟨nk,some ok⟩ hI.1.o (λh=>by cases h) (by omega)) (.cons .here (.cons .here (.cons .here (.cons .here .nil)))) Di ?_);rintro v H' ⟨rfl,B,U,rfl,hM⟩;refine bR ?_;refine bK ?_;refine aD ?_;refine Ro ((d+1,B,U)) (⟨hI.1.next hM,by dsimp only;omega,by dsimp only;omega⟩) ((by dsimp only;omega))
  refine cN ?_;refine bs ?_;refine av ?_;refine iU 9 mix (.cons .here .nil) λF2 zH eL dw=> ?_;obtain⟨q1,_⟩:=eL;refine cA ?_;refine gI dw ?_;refine bd ?_;refine cN ?_;refine cK ?_;refine bP ?_;refine au (λ_ s=>gm (A:=zV) (λ_=>trivial) s) ?_;refine Rt [Cl b (C.wA A),ag t 154 (gE b V.fin ⟨nk,none⟩),ag nk 149 (aS (aF V.nb)),zV] results88 ?_;exact⟨by rw[show min k (W.ob.length-W.mv)=d by omega],A,V.fin,none,rfl,λ_=>rfl,hI.1.fin (by omega) hd.1⟩
 refine Ti Mv ?_;refine bq ?_;refine zf 30 ?_;refine bB ?_;refine gI aI ?_;refine cA ?_;refine av ?_;refine iU 9 mix (.cons .here .nil) λF3 WC sP fJ=> ?_;obtain⟨q1,_⟩:=sP;refine cA ?_;refine gI fJ ?_;refine bd ?_;by_cases hl:W.mv+d<W.ob.length
 ·refine fe ?_
  refine bP ?_;refine Rt [Cl b (C.wA A),ag t 154 (gE b V ⟨nk,some ok⟩),ag nk 149 (aS (aF V.nb)),ag ok 149 (aS (aF V.ob))] results88 ?_;obtain rfl:d=k:=by omega
  exact⟨by rw[show min d (W.ob.length-W.mv)=d by omega],A,V,some ok,rfl,(λh=>by cases h),hI.1.go h2 hl⟩
 refine cN ?_;refine cK ?_;refine bP ?_;refine au (λ_ s=>gm (A:=zV) (λ_=>trivial) s) ?_;refine Rt [Cl b (C.wA A),ag t 154 (gE b V.fin ⟨nk,none⟩),ag nk 149 (aS (aF V.nb)),zV] results88 ?_;exact⟨by rw[show min k (W.ob.length-W.mv)=d by omega],A,V.fin,none,rfl,λ_=>rfl,hI.1.fin (by omega) hd.1⟩
theorem AQ (s:Nat):gV [Dm alb 0] (s*1)=aS (aF (aae s [])):=by
 rw[qc,Nat.mul_one];unfold aS aF;rw[af3,af3];rfl
theorem L4 (t b nk mo n s L:Nat)(hs:s<=1048576)(hL:0<L/\L<=1048576):
  aG aaa 88 [Dk t,Dm Dl 0] uT [ag t 154 [Dk b,Dm Dl mo,Dm Dl n,Dm Dl s, .slice none 0 0, .slice (some ⟨nk,0,none⟩) L L,Dm Dl 0,Dm Dl 1]]
   (λv H=>v=Dm Dl 0/\∃mk,H= [ag t 154 [Dk b,Dm Dl mo,Dm Dl n,Dm Dl s, .slice (some ⟨mk,0,none⟩) s s, .slice (some ⟨nk,0,none⟩) L L,Dm Dl 0,Dm Dl 2],ag mk 149 (aS (aF (aae s [])))]):=by
 refine af func88 rfl ntmps88 rfl ?_;intro F _;refine cK ?_;refine rM ?_;refine Lp (oM (s) (s) Cy λb1=> ?_);rw[AQ];refine fX ?_;refine Lo (ι:=Unit) (FN [5,1,27,23]) (λu=>True) (λu=> [(5,Dm Dl 0)]) (λu=> [ag t 154 [Dk b,Dm Dl mo,Dm Dl n,Dm Dl s, .slice (some ⟨b1,0,none⟩) s s, .slice (some ⟨nk,0,none⟩) L L,Dm Dl 0,Dm Dl 2],ag b1 149 (aS (aF (aae s [])))]) (λu=>0) (()) trivial ?_;rintro u hI;refine aw ?_;refine av ?_;refine iU 14 mix (.cons .here .nil) λF1 jD bV aI=> ?_;obtain⟨q1,_⟩:=bV;refine bc ?_;refine zf 30 ?_ (e:=by rfl);refine bB ?_;refine gI aI ?_;refine cA ?_;refine av ?_;refine iU 9 mix (.cons .here .nil) λF2 zH eL dw=> ?_;obtain⟨q1,_⟩:=eL;refine cA ?_;refine gI dw ?_;refine bd ?_;refine fe ?_;refine bP ?_;refine Rt [ag t 154 [Dk b,Dm Dl mo,Dm Dl n,Dm Dl s, .slice (some ⟨b1,0,none⟩) s s, .slice (some ⟨nk,0,none⟩) L L,Dm Dl 0,Dm Dl 2],ag b1 149 (aS (aF (aae s [])))] results88 ?_;exact⟨rfl,_,rfl⟩
theorem AF (t b:Nat)(C:Cs)(W:Tb)(y:pq)(O:dt C W)(s:Nat)(hs:s<=1048576):
  aG aaa 192 [Dk t,Dm Dl s] uT [ag t 154 (gE b W y),ag y.nk 149 (aS (aF W.nb))]
   (λv H=>v= .tuple #[]/\∃mk,H=mM t b (W.Ja s) ⟨mk,some y.nk⟩):=by
 obtain⟨i,hi,ei⟩:=O.pw;have hp:=rC ei hi;unfold gE;refine af func192 rfl ntmps192 rfl ?_;intro F _;refine cK ?_;refine rh ?_;refine Lp (oC Aa rfl rfl (L4 t b y.nk W.most W.n s W.nb.length hs (by omega)) (.cons .here .nil) Di ?_);rintro v H' ⟨rfl,mk,rfl⟩;refine bR ?_;refine aD ?_;refine jU [ag t 154 [Dk b,Dm Dl W.most,Dm Dl W.n,Dm Dl s, .slice (some ⟨mk,0,none⟩) s s, .slice (some ⟨y.nk,0,none⟩) W.nb.length W.nb.length,Dm Dl 0,Dm Dl 2],ag mk 149 (aS (aF (aae s []))),ag y.nk 149 (aS (aF W.nb))] results192 ?_;exact⟨rfl,mk,by simp[mM,gE,Tb.Ja,V9,nL]⟩
theorem QW (t b:Nat)(C:Cs)(K:Ok C)(W:Tb)(y:pq)(O:dt C W)(hy:y.ok=none->W.ob= [])(p:Nat)(hp:p∈W.all):
  aG aaa 190 [Dk t,Dm Dj (C.hd p)] (λh=>In (Cl b C) h/\gG (mM t b W y) h) []
   (λv H=>v= .bool true/\H= []):=by
 have L:=O.lv p hp;have I:=O.it p hp;have lk:(aH C.A p).length=kl C.A p:=cE _ _ _;have hk:=I.k0;have hf:=I.fits;obtain⟨z1,z2,z3,_⟩:=L.toAt.ba K;have f1:=K.toFix.p1;have eg:=get_some O hp rfl;refine af func190 rfl ntmps190 rfl ?_;rintro F ⟨hc,ht⟩;refine bs ?_;refine Lp (oC Aa rfl rfl (qA t b C W y K p L I) .nil (λ_ le _=>⟨In.mono hc le,In.mono ht.1 le⟩) ?_);rintro v H' ⟨kb,rfl,rfl⟩;refine bR ?_;refine bn ?_;refine zl Aa (ng t b C K W y O hy (some ⟨kb,0,none⟩) (kl C.A p) (kl C.A p) (aH C.A p) lk.symm (by omega)) .nil (λ_ le ak=>⟨In.mono hc le,bO ht le,bX ak.1⟩) ?_;rw[eg,bZ];refine bP ?_;refine zt 20 ?_;refine bq ?_;refine zt 23 ?_ (e:=by rfl);refine bK ?_;refine Rt [] results190 ?_;exact⟨by rw[decide_eq_true rfl],rfl⟩
def pM (W:Tb):Prop:=W.st=0/\3*W.size<2*(W.n+1)/\W.size<W.most
structure abv (C:Cs)(W:Tb)(p:Nat)(A:By)(V:Tb):Prop where
 o:dt (C.wA A) V
 pm:V.all.Perm (p::W.all)
 df:ry C.A A [p] 0 4
 n:V.n=W.n+1
 most:V.most=W.most
 big:pM W->V.size=2*W.size/\V.st=2/\V.mv=0/\V.ob.length=W.size
 same:¬pM W->V.size=W.size/\V.st=W.st/\V.mv=W.mv/\V.ob.length=W.ob.length
theorem ail{C:Cs}{W:Tb}(O:dt C W)(h:W.size<W.most):2*W.size<=W.most/\∃m,m<=20/\2*W.size=2^m:=by
 obtain⟨m,hm,e⟩:=O.pw;obtain⟨M,hM,e2⟩:=O.mp;have e0:=O.sz;have h3:(2:Nat)^m<2^M:=by omega
 have h4:m<M:=(aj8 (by decide)).1 h3;have h5:(2:Nat)^(m+1)<=2^M:=agf (by decide) h4;rw[agu]at h5;exact⟨by omega,m+1,by omega,by rw[agu];omega⟩
theorem XK (t b:Nat)(C:Cs)(K:Ok C)(W:Tb)(y:pq)(O:dt C W)(hy:y.ok=none->W.ob= [])(p:Nat)(L:Live C p)(I:gD C p)(hp:p∉W.all)(hkd:∀q∈W.all,aH C.A q≠aH C.A p):
  aG aaa 188 [Dk t,Dm Dj (C.hd p)] (λ_=>True) (Cl b C::mM t b W y)
   (λv H=>v=Dm Dl 0/\∃A V y',H=Cl b (C.wA A)::mM t b V y'/\(y'.ok=none->V.ob= [])/\abv C W p A V):=by
 have lk:(aH C.A p).length=kl C.A p:=cE _ _ _;have hk:=I.k0;have hf:=I.fits;obtain⟨z1,z2,z3,_⟩:=L.toAt.ba K;have f1:=K.toFix.p1;have eg:W.get C (aH C.A p)=none:=get_none hkd;have hn:=BD K O;have h16:=O.PG;have hsm:=O.sm;have aiU:W.most<=1048576:=by
  obtain⟨m,hm,e⟩:=O.mp;exact(rC e hm).2
 have wO:∃m,m<=20/\W.size=2^m:=by rw[O.sz];exact O.pw
 have P:=CM K O L I hp hkd (x:=W.bk (cn (aH C.A p))) rfl;have hx:=rZ O (cn (aH C.A p));obtain⟨r1,p1,p2⟩:=Tb.oE hx;have pa:(W.on C p).all.Perm (p::W.all):=(p2 _).trans (abA.cons p p1.symm);have S:rG W (W.on C p):=rG.on (C:=C) ⟨rfl,rfl,rfl,rfl,rfl,rfl⟩ p;have Sm:(W.on C p).mv=W.mv:=aaD C W p;have lO:di C (W.ch (W.bk (cn (aH C.A p)))).head?:=λq hq=>O.lv q (Tb.gM (abY hq));change dt (C.wA (DB W C p)) {W.on C p with n:=W.n+1}at P;have PL:y.ok=none->(W.on C p).ob= []:=λh=>abO (by rw[S.ob,hy h];rfl);have d:ry C.A (DB W C p) [p] 0 4:=x4 C.A (q:=p) (a:=0) (by simp);have eon:W.on C p=W.cR (W.bk (cn (aH C.A p))) (p::W.ch (W.bk (cn (aH C.A p)))):=rfl;have eoA:DB W C p=wr C.A p 4 (nO (W.ch (W.bk (cn (aH C.A p)))).head?):=rfl;generalize hV:W.on C p=V at*;generalize hA:DB W C p=A at*;generalize hxx:W.bk (cn (aH C.A p))=x at*;obtain⟨s1,s2,s3,s4,s5,s6⟩:=S;refine af func188 rfl ntmps188 rfl ?_;intro F _;refine bs ?_;refine Lp (oC Aa rfl rfl (qA t b C W y K p L I) .nil (λ_ le ak=>⟨ak.1,ak.2.1⟩) ?_);rintro v H' ⟨kb,rfl,rfl⟩;refine bR ?_;refine cV ?_;refine cN ?_;refine bs ?_;refine zl Aa (ng t b C K W y O hy (some ⟨kb,0,none⟩) (kl C.A p) (kl C.A p) (aH C.A p) lk.symm (by omega)) .nil (λ_ le ak=>⟨ak.2.1,ak.2.2,bX ak.1⟩) ?_;rw[eg];refine ri ?_;refine zl Aa (l7 t b C W y W.n O hy (some ⟨kb,0,none⟩) (kl C.A p) (kl C.A p) (aH C.A p) lk.symm (by omega)) .nil (λ_ le ak=>⟨ak.2.2.1,bX ak.1⟩) ?_;rw[hxx];refine aw ?_;refine zl Aa (yn t b C K W y hy x hx p L I.k0 lO) (.cons (.there .here) (.cons (.there .here) (.cons (.there .here) (.cons (.there .here) .nil)))) Di ?_;rw[<-eon,<-eoA];refine Hh (H':= [ag t 154 (gE b V y),ag y.nk 149 (aS (aF V.nb)),nL y.ok 149 (aS (aF V.ob)),Cl b (C.wA A)]) ?_;unfold gE;rw[s1];refine dL ?_;refine av ?_;refine iU 28 mix (.cons .here .nil) λF1 jD bV aI=> ?_;obtain⟨q1,_⟩:=bV;by_cases h0:W.st=0
 ·refine Ti Mv ?_
  refine bn ?_;refine zt 39 ?_;refine gJ ?_;by_cases h1:3*W.size<2*(W.n+1)
  ·refine zt 52 ?_
   refine cA ?_;refine gI aI ?_;refine bd ?_;by_cases h2:W.size<W.most
   ·have hg:pM W:=⟨h0,h1,h2⟩
    have hdb:=ail O h2;refine fe ?_;refine bK ?_;refine aA (t:=68) (v':=(Dm Dl (2*W.size:Nat))) rfl (by(rw[s3];rfl)) ?_;refine Lp (oC Aa rfl rfl (AF t b (C.wA A) {V with n:=W.n+1} y P (2*W.size) (by omega)) (.cons .here (.cons .here .nil)) Di ?_);rintro v H' ⟨rfl,mk,rfl⟩;refine bR ?_;refine bn ?_;obtain⟨B1,B2⟩:=SJ (C:=C.wA A) P (s2.trans h0) (s:=2*W.size) hdb.2 (by omega) (by show 2*W.size<=V.most;rw[s4];exact hdb.1);refine Rt [Cl b (C.wA A),ag t 154 (gE b (Tb.Ja {V with n:=W.n+1} (2*W.size)) ⟨mk,some y.nk⟩),ag mk 149 (aS (aF (Tb.Ja {V with n:=W.n+1} (2*W.size)).nb)),nL (some y.nk) 149 (aS (aF (Tb.Ja {V with n:=W.n+1} (2*W.size)).ob))] results188 ?_;exact⟨rfl,A,_,⟨mk,some y.nk⟩,rfl,(λh=>by cases h),⟨B1,by rw[B2];exact pa,d,rfl,s4,λ_=>⟨rfl,rfl,rfl,by show V.nb.length=_;rw[s5,O.sz]⟩,λh=>absurd hg h⟩⟩
   have hg:¬pM W:=λh=>h2 h.2.2;refine cN ?_;refine bs ?_;refine Rt [Cl b (C.wA A),ag t 154 (gE b {V with n:=W.n+1} y),ag y.nk 149 (aS (aF V.nb)),nL y.ok 149 (aS (aF V.ob))] results188 ?_;exact⟨rfl,A,{V with n:=W.n+1},y,rfl,PL,⟨P,pa,d,rfl,s4,λh=>absurd h hg,λ_=>⟨s3,s2,Sm,s6⟩⟩⟩
  have hg:¬pM W:=λh=>h1 h.2.1;refine zf 52 ?_;refine cA ?_;refine gI aI ?_;refine cA ?_;refine Rt [Cl b (C.wA A),ag t 154 (gE b {V with n:=W.n+1} y),ag y.nk 149 (aS (aF V.nb)),nL y.ok 149 (aS (aF V.ob))] results188 ?_;exact⟨rfl,A,{V with n:=W.n+1},y,rfl,PL,⟨P,pa,d,rfl,s4,λh=>absurd h hg,λ_=>⟨s3,s2,Sm,s6⟩⟩⟩
 have hg:¬pM W:=λh=>h0 h.1;refine bs ?_;refine zf 39 ?_;refine cK ?_;refine bd ?_;refine gI aI ?_;refine cA ?_;refine Rt [Cl b (C.wA A),ag t 154 (gE b {V with n:=W.n+1} y),ag y.nk 149 (aS (aF V.nb)),nL y.ok 149 (aS (aF V.ob))] results188 ?_;exact⟨rfl,A,{V with n:=W.n+1},y,rfl,PL,⟨P,pa,d,rfl,s4,λh=>absurd h hg,λ_=>⟨s3,s2,Sm,s6⟩⟩⟩
theorem vd (W:Tb)(x:Bool×Nat)(c:FH):rG W (W.cR x c)/\(W.cR x c).mv=W.mv:=by
 rcases x with⟨_|_,i⟩
 ·exact⟨⟨rfl,rfl,rfl,rfl,aak,rfl⟩,rfl⟩
 exact⟨⟨rfl,rfl,rfl,rfl,rfl,aak⟩,rfl⟩
theorem sB:∀{c:FH} {j:Nat} (h:j<c.length),(c[j]::c.eraseIdx j).Perm c
 |_::_,0,_=>abA.refl _
 |a::l,j+1,h=>(abA.swap a _ _).trans (abA.cons a (sB (c:=l) (j:=j) (by simpa using h)))
def jv (W:Tb):Prop:=W.st=0/\16<W.size/\8*(W.n-1)<W.size
structure HV (C:Cs)(W:Tb)(p:Nat)(A:By)(V:Tb):Prop where
 o:dt (C.wA A) V
 pm:(p::V.all).Perm W.all
 df:ry C.A A W.all 0 4
 n:V.n=W.n-1
 most:V.most=W.most
 big:jv W->V.size=W.size/2/\V.st=2/\V.mv=0/\V.ob.length=W.size
 same:¬jv W->V.size=W.size/\V.st=W.st/\V.mv=W.mv/\V.ob.length=W.ob.length
theorem half{C:Cs}{W:Tb}(O:dt C W)(h:16<W.size):(∃m,m<=20/\W.size/2=2^m)/\16<=W.size/2/\W.size/2<=W.most:=by
 obtain⟨m,hm,e⟩:=O.pw;have e0:=O.sz;have e1:=O.sm;have h3:(2:Nat)^4<2^m:=by rw[<-e,<-e0];exact h
 have h4:4<m:=(aj8 (by decide)).1 h3;obtain⟨i,rfl⟩:∃i,m=i+1:=⟨m-1,by omega⟩;rw[agu]at e;have h5:(2:Nat)^4<=2^i:=agf (by decide) (by omega);exact⟨⟨i,by omega,by omega⟩,by omega,by omega⟩
theorem TB (t b:Nat)(C:Cs)(K:Ok C)(W:Tb)(y:pq)(O:dt C W)(hy:y.ok=none->W.ob= [])(p:Nat)(hp:p∈W.all):
  aG aaa 130 [Dk t,Dm Dj (C.hd p)] (λ_=>True) (Cl b C::mM t b W y)
   (λv H=>v=Dm Dl 0/\∃A V y',H=Cl b (C.wA A)::mM t b V y'/\(y'.ok=none->V.ob= [])/\HV C W p A V):=by
 have hn:=BD K O;have h16:=O.PG;have hsm:=O.sm;have aiU:W.most<=1048576:=by
  obtain⟨m,hm,e⟩:=O.mp;exact(rC e hm).2
 have hx:=rZ O (cn (aH C.A p));have K8:=HP O hp;have hlen:=uV O (W.bk (cn (aH C.A p)));generalize hxx:W.bk (cn (aH C.A p))=x at*;obtain⟨c,hc⟩:∃c,W.ch x=c:=⟨_,rfl⟩;rw[hc]at K8 hlen;obtain⟨j,hj,ej⟩:=abS K8;obtain⟨P,d⟩:=JS K O hx hc hj ej;obtain⟨r1,p1,p2⟩:=Tb.oE hx;rw[hc]at p1;have pa:(p::(W.cR x (c.eraseIdx j)).all).Perm W.all:=by
  refine(abA.cons p (p2 _)).trans (abA.trans ?_ p1.symm);have:=abA.append_right r1 (sB hj);rw[ej]at this;exact this
 obtain⟨⟨s1,s2,s3,s4,s5,s6⟩,Sm⟩:=vd W x (c.eraseIdx j);have hn1:1<=W.n:=by omega
 have pull:=Ey t b C K W y O hy x hx c hc j hj p ej;generalize hV:W.cR x (c.eraseIdx j)=V at*;generalize hA:pL C.A c j p=A at*;have PL:y.ok=none->V.ob= []:=λh=>abO (by rw[s6,hy h];rfl);refine af func130 rfl ntmps130 rfl ?_;intro F _;refine bK ?_;refine zl Aa (QW t b C K W y O hy p hp) .nil (λ_ le ak=>⟨ak.1,ak.2⟩) ?_;refine cV ?_;refine zl Aa (pull) (.cons .here (.cons .here (.cons .here (.cons .here .nil)))) Di ?_;refine Hh (H':= [ag t 154 (gE b V y),ag y.nk 149 (aS (aF V.nb)),nL y.ok 149 (aS (aF V.ob)),Cl b (C.wA A)]) ?_;unfold gE;rw[s1];refine bK ?_;refine aA (t:=16) (v':=(Dm Dl (W.n-1:Nat))) rfl (by(congr 1;omega)) ?_;refine bn ?_;refine av ?_;refine iU 23 mix (.cons .here .nil) λF1 jD bV aI=> ?_;obtain⟨q1,_⟩:=bV;by_cases h0:W.st=0
 ·refine Ti Mv ?_
  refine bn ?_;refine zt 24 ?_;refine bK ?_;by_cases h1:16<W.size
  ·refine zt 31 ?_
   refine bB ?_;refine gI aI ?_;refine bd ?_;by_cases h2:8*(W.n-1)<W.size
   ·have hg:jv W:=⟨h0,h1,h2⟩
    obtain⟨fh,eM,dm⟩:=half O h1;refine fe ?_;refine bs ?_;refine Li (Qu (q:=2)) ?_;refine aA (t:=48) (v':=(Dm Dl (W.size/2:Nat))) rfl (by rw[s3]) ?_;refine Lp (oC Aa rfl rfl (AF t b (C.wA A) {V with n:=W.n-1} y P (W.size/2) (by omega)) (.cons .here (.cons .here .nil)) Di ?_);rintro v H' ⟨rfl,mk,rfl⟩;refine bR ?_;refine bn ?_;obtain⟨B1,B2⟩:=SJ (C:=C.wA A) P (s2.trans h0) (s:=W.size/2) fh eM (by show W.size/2<=V.most;rw[s4];exact dm);refine Rt [Cl b (C.wA A),ag t 154 (gE b (Tb.Ja {V with n:=W.n-1} (W.size/2)) ⟨mk,some y.nk⟩),ag mk 149 (aS (aF (Tb.Ja {V with n:=W.n-1} (W.size/2)).nb)),nL (some y.nk) 149 (aS (aF (Tb.Ja {V with n:=W.n-1} (W.size/2)).ob))] results130 ?_;exact⟨rfl,A,_,⟨mk,some y.nk⟩,rfl,(λh=>by cases h),⟨B1,by rw[B2];exact pa,d,rfl,s4,λ_=>⟨rfl,rfl,rfl,by show V.nb.length=_;rw[s5,O.sz]⟩,λh=>absurd hg h⟩⟩
   have hg:¬jv W:=λh=>h2 h.2.2;refine cN ?_;refine bs ?_;refine Rt [Cl b (C.wA A),ag t 154 (gE b {V with n:=W.n-1} y),ag y.nk 149 (aS (aF V.nb)),nL y.ok 149 (aS (aF V.ob))] results130 ?_;exact⟨rfl,A,{V with n:=W.n-1},y,rfl,PL,⟨P,pa,d,rfl,s4,λh=>absurd h hg,λ_=>⟨s3,s2,Sm,s6⟩⟩⟩
  have hg:¬jv W:=λh=>h1 h.2.1;refine zf 31 ?_;refine bB ?_;refine gI aI ?_;refine cA ?_;refine Rt [Cl b (C.wA A),ag t 154 (gE b {V with n:=W.n-1} y),ag y.nk 149 (aS (aF V.nb)),nL y.ok 149 (aS (aF V.ob))] results130 ?_;exact⟨rfl,A,{V with n:=W.n-1},y,rfl,PL,⟨P,pa,d,rfl,s4,λh=>absurd h hg,λ_=>⟨s3,s2,Sm,s6⟩⟩⟩
 have hg:¬jv W:=λh=>h0 h.1;refine bs ?_;refine zf 24 ?_;refine rh ?_;refine gI aI ?_;refine cA ?_;refine Rt [Cl b (C.wA A),ag t 154 (gE b {V with n:=W.n-1} y),ag y.nk 149 (aS (aF V.nb)),nL y.ok 149 (aS (aF V.ob))] results130 ?_;exact⟨rfl,A,{V with n:=W.n-1},y,rfl,PL,⟨P,pa,d,rfl,s4,λh=>absurd h hg,λ_=>⟨s3,s2,Sm,s6⟩⟩⟩
theorem XL (t b:Nat)(C:Cs)(K:Ok C)(W:Tb)(y:pq)(O:dt C W)(hy:y.ok=none->W.ob= [])(p q:Nat)(hp:p∈W.all)(L:Live C q)(I:gD C q)(hq:q∉W.all)(wy:aH C.A p=aH C.A q):
  aG aaa 190 [Dk t,Dm Dj (C.hd q)] (λh=>In (Cl b C) h/\gG (mM t b W y) h) []
   (λv H=>v= .bool false/\H= []):=by
 have lk:(aH C.A q).length=kl C.A q:=cE _ _ _;have hk:=I.k0;have hf:=I.fits;obtain⟨z1,z2,z3,_⟩:=L.toAt.ba K;have f1:=K.toFix.p1;have eg:=get_some O hp wy;have ne:C.hd p≠C.hd q:=λe=>hq (je K (O.lv p hp).toAt L.toAt e▸hp);refine af func190 rfl ntmps190 rfl ?_;rintro F ⟨hc,ht⟩;refine bs ?_;refine Lp (oC Aa rfl rfl (qA t b C W y K q L I) .nil (λ_ le _=>⟨In.mono hc le,In.mono ht.1 le⟩) ?_);rintro v H' ⟨kb,rfl,rfl⟩;refine bR ?_;refine bn ?_;refine zl Aa (ng t b C K W y O hy (some ⟨kb,0,none⟩) (kl C.A q) (kl C.A q) (aH C.A q) lk.symm (by omega)) .nil (λ_ le ak=>⟨In.mono hc le,bO ht le,bX ak.1⟩) ?_;rw[eg,bZ];refine bP ?_;refine zt 20 ?_;refine bq ?_;refine zt 23 ?_ (e:=by rfl);refine bK ?_;refine Rt [] results190 ?_;exact⟨by rw[Ab],rfl⟩
structure HW (C:Cs)(W:Tb)(p q:Nat)(A:By)(V:Tb):Prop where
 o:dt (C.wA A) V
 pm:∃r,W.all.Perm (p::r)/\V.all.Perm (q::r)
 df:ry C.A A (q::W.all) 0 4
 s:rG W V
 mv:V.mv=W.mv
theorem Ew (t b:Nat)(C:Cs)(K:Ok C)(W:Tb)(y:pq)(O:dt C W)(hy:y.ok=none->W.ob= [])(p q:Nat)(hp:p∈W.all)(L:Live C q)(I:gD C q)(hq:q∉W.all)(wy:aH C.A p=aH C.A q):
  aG aaa 159 [Dk t,Dm Dj (C.hd p),Dm Dj (C.hd q)] (λ_=>True) (Cl b C::mM t b W y)
   (λv H=>v=Dm Dl 0/\∃A V,H=Cl b (C.wA A)::mM t b V y/\(y.ok=none->V.ob= [])/\HW C W p q A V):=by
 have lk:(aH C.A q).length=kl C.A q:=cE _ _ _;have hk:=I.k0;have hf:=I.fits;obtain⟨z1,z2,z3,_⟩:=L.toAt.ba K;have f1:=K.toFix.p1;have hx:=rZ O (cn (aH C.A p));have K8:=HP O hp;have hlen:=uV O (W.bk (cn (aH C.A p)));generalize hxx:W.bk (cn (aH C.A p))=x at*;obtain⟨c,hc⟩:∃c,W.ch x=c:=⟨_,rfl⟩;rw[hc]at K8 hlen;obtain⟨j,hj,ej⟩:=abS K8;obtain⟨P,d⟩:=JS K O hx hc hj ej;obtain⟨r1,p1,p2⟩:=Tb.oE hx;rw[hc]at p1;have pa:(p::(W.cR x (c.eraseIdx j)).all).Perm W.all:=by
  refine(abA.cons p (p2 _)).trans (abA.trans ?_ p1.symm);have:=abA.append_right r1 (sB hj);rw[ej]at this;exact this
 have S:=vd W x (c.eraseIdx j);have pull:=Ey t b C K W y O hy x hx c hc j hj p ej;have sub:∀s∈(W.cR x (c.eraseIdx j)).all,s∈W.all/\s≠p:=λs hs=>by
  refine⟨pa.mem_iff.1 (aai _ hs),λe=> ?_⟩;have:=pa.nodup_iff.2 O.nd;exact(abB.1 this).1 (e▸hs)
 generalize hV:W.cR x (c.eraseIdx j)=V at*;generalize hA:pL C.A c j p=A at*;obtain⟨⟨s1,s2,s3,s4,s5,s6⟩,Sm⟩:=S;have PL:y.ok=none->V.ob= []:=λh=>abO (by rw[s6,hy h];rfl);have kp:=λs (h:s∈W.all)=>yP K d (λu hu=>(O.lv u hu).toAt) (by omega) (O.lv s h).toAt (O.it s h);have kq:=yP K d (λu hu=>(O.lv u hu).toAt) (by omega) L.toAt I;have K2:=K.wA A;have L2:=L.wA A;have I2:=kq.it I;have hkd2:∀s∈Tb.all {V with n:=W.n-1},aH (C.wA A).A s≠aH (C.wA A).A q:=λs hs e=>by
  obtain⟨g1,g2⟩:=sub s hs;change aH A s=aH A q at e;rw[(kp s g1).key,kq.key,<-wy]at e;exact g2 (O.kd s g1 p hp e)
 have P2:=CM K2 P L2 I2 (λh=>hq (sub q h).1) hkd2 (x:=V.bk (cn (aH A q))) rfl;have Z1:Gr V (V.bk (cn (aH A q))):=rZ P (cn (aH A q));have kqe:aH A q=aH C.A q:=kq.key;have lO2:di (C.wA A) (V.ch (V.bk (cn (aH A q)))).head?:=λu hu=>P.lv u (Tb.gM (T:=V) (abY hu));obtain⟨r3,p3,p4⟩:=Tb.oE Z1;generalize hxx2:V.bk (cn (aH A q))=x2 at*;refine af func159 rfl ntmps159 rfl ?_;intro F _;refine bs ?_;refine Lp (oC Aa rfl rfl (qA t b C W y K q L I) .nil (λ_ le ak=>⟨ak.1,ak.2.1⟩) ?_);rintro v H' ⟨kb,rfl,rfl⟩;refine bR ?_;refine bK ?_;refine zl Aa (QW t b C K W y O hy p hp) .nil (λ_ le ak=>⟨ak.2.1,ak.2.2⟩) ?_;refine bd ?_;refine zf 16 ?_ (e:=by rfl);refine bn ?_;refine zf 21 ?_;refine bd ?_;refine zl Aa (XL t b C K W y O hy p q hp L I hq wy) .nil (λ_ le ak=>⟨ak.2.1,ak.2.2⟩) ?_;refine bc ?_;refine Hh (H':= [Cl b C,ag t 154 (gE b W y),ag y.nk 149 (aS (aF W.nb)),nL y.ok 149 (aS (aF W.ob)),own (some ⟨kb,0,none⟩) (kl C.A q) 5 1 (aj (aH C.A q))]) ?_;unfold gE;refine bK ?_;refine zl Aa (E8 b C K p (O.lv p hp) (O.it p hp) (some ⟨kb,0,none⟩) (kl C.A q) (kl C.A q) (aH C.A q) lk.symm (by omega)) .nil (λ_ le ak=>⟨ak.1,bX ak.2.2.2.2.1⟩) ?_;rw[decide_eq_true wy];refine bB ?_;refine zl Aa (pull) (.cons .here (.cons .here (.cons .here (.cons .here .nil)))) Di ?_;refine bn ?_;refine zl Aa (l7 t b (C.wA A) V y (W.n-1) P PL (some ⟨kb,0,none⟩) (kl C.A q) (kl C.A q) (aH C.A q) lk.symm (by omega)) .nil (λ_ le ak=>⟨ak.2.1,bX ak.2.2.2.2.1⟩) ?_;rw[show V.bk (cn (aH C.A q))=x2 by rw[<-kqe];exact hxx2];refine aw ?_;refine zl Aa (yn t b (C.wA A) K2 V y PL x2 Z1 q L2 I2.k0 lO2) (.cons .here (.cons .here (.cons .here (.cons .here .nil)))) Di ?_;refine bn ?_;have hn1:1<=W.n:=by omega
 have e2:({({V with n:=W.n-1}:Tb).cR x2 (q::V.ch x2)with n:=W.n-1+1}:Tb)=V.cR x2 (q::V.ch x2):=by
  rcases x2 with⟨_|_,i⟩<;>(simp[Tb.cR];omega)
 change dt _ {({V with n:=W.n-1}:Tb).cR x2 (q::V.ch x2)with n:=W.n-1+1}at P2;rw[e2]at P2;have S2:=vd V x2 (q::V.ch x2);have pz:(V.cR x2 (q::V.ch x2)).all.Perm (q::V.all):=(p4 _).trans (abA.cons q p3.symm);generalize hV2:V.cR x2 (q::V.ch x2)=V2 at*;obtain⟨⟨t1,t2,t3,t4,t5,t6⟩,Tm⟩:=S2;refine Rt [Cl b ((C.wA A).wA (wr A q 4 (nO (V.ch x2).head?))),ag t 154 (gE b V2 y),ag y.nk 149 (aS (aF V2.nb)),nL y.ok 149 (aS (aF V2.ob))] results159 ?_;refine⟨rfl,wr A q 4 (nO (V.ch x2).head?),V2,rfl,λh=>abO (by rw[t6,PL h];rfl),P2,⟨V.all,pa.symm,pz⟩, ?_,⟨t1.trans s1,t2.trans s2,t3.trans s3,t4.trans s4,t5.trans s5,t6.trans s6⟩,Tm.trans Sm⟩;exact(d.mono λu hu=>aai _ hu).trans ((x4 A (S:= [q]) (q:=q) (a:=0) (by simp)).mono λu hu=>by rw[abR]at hu;rw[hu];exact List.mem_cons_self)
end Go.Proofs.YtcbcjolpdljbiaaGreat
