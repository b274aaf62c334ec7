/- Part Pg of the proof. -/
import Derived.Test.YtcbcjolpdljbiaaGreatPf
set_option maxRecDepth 100000
open Go.Proofs.YtcbcjolpdljbiaaGreat.T
open List renaming mem_append -> ahy, mem_flatten -> ais, getElem_of_mem -> acS, getD_eq_getElem?_getD -> aaZ, getElem?_eq_getElem -> aa0, getElem_mem -> abe, getElem?_eq_none -> abb, Sublist -> al9, find?_eq_none -> ahL, getElem?_map -> abf, head?_drop -> ail, length_erase_of_mem -> alp, mem_of_mem_drop -> alE, mem_of_mem_head? -> acY, map_set -> adf, length_set -> aa8, getElem_map -> ahW, getElem_inj -> alc, append_assoc -> adr, Perm -> abd, perm_append_comm -> abq, flatten_cons -> alq, mem_append_right -> ahT, nodup_append -> ac9, eq_nil_of_length_eq_zero -> abr, length_append -> aa9, nodup_cons -> abg, mem_cons -> abh, length_eraseIdx_of_lt -> aic, getElem?_eraseIdx_of_ge -> acP, mem_singleton -> acQ, mem_cons_of_mem -> aa6, eq_nil_iff_forall_not_mem -> aiH, replicate -> aa2, getElem?_replicate -> ac1, length_replicate -> ahl, map_replicate -> ac7
open Nat renaming pow_le_pow_right -> ahr, le_trans -> ahO, mod_lt -> aia, zero_le -> abn, pow_lt_pow_iff_right -> alu, pow_succ -> ahD
open Decidable renaming byContradiction -> aba
open Go.Proofs.Tryz renaming prog -> aaY
open Go.Proofs.Tryz
open Go.Value renaming int -> DE
open Go.IntKind renaming i64 -> DD, u64 -> DB, u8 -> amn, u32 -> amo
namespace Go.Proofs.YtcbcjolpdljbiaaGreat
open Go Go.dQ Go.Proofs.YtcbcjolpdljbiaaGreat.Cs
theorem Cs.BS.wA{C:Cs}{c p:Nat}(h:BS C c p)(A:By):BS (C.wA A) c p:=⟨⟨h.i,h.own,h.al,h.k⟩,h.cl,h.tk,h.lv⟩
theorem Cs.BS.ofA{C:Cs}{c p:Nat}{A:By}(h:BS (C.wA A) c p):BS C c p:=⟨⟨h.i,h.own,h.al,h.k⟩,h.cl,h.tk,h.lv⟩
theorem Cs.Ok.wA{C:Cs}(K:Ok C)(A:By):Ok (C.wA A):=
 ⟨⟨K.p0,K.p1,K.p8,K.n0,K.n1,K.l0,K.l1,K.s0,K.pl,K.rl⟩,λx h=>⟨(K.pg x h).cl,(K.pg x h).gl,(K.pg x h).tl,(K.pg x h).g32,(K.pg x h).XD,(K.pg x h).nd,(K.pg x h).held,(K.pg x h).no⟩,
  λc p h=>(K.fr c p h).wA A,K.fn,λc p h=>K.fa c p h.ofA,K.ft,K.fp,K.fs,K.sp⟩
theorem Cs.At.wA{C:Cs}{p:Nat}(h:At C p)(A:By):At (C.wA A) p:=⟨h.i,h.own,h.al,h.k⟩
theorem Cs.Live.wA{C:Cs}{p:Nat}(h:Live C p)(A:By):Live (C.wA A) p:=⟨h.toAt.wA A,h.tk⟩
theorem cT (C:Cs)(A:By):(C.wA A).A=A:=rfl
theorem far{C:Cs}(K:Ok C){p q:Nat}(L:At C p)(M:At C q){a n o w:Nat}(ha:a+n<=C.sz (C.cl q))(ho:o+w<=C.sz (C.cl p))(h:p=q->a+n<=o\/o+w<=a):p+o+w<=q+a\/q+a+n<=p+o:=by
 by_cases e:p=q
 ·subst e
  rcases h rfl with h|h<;>omega
 ·rcases apart K L M e with h|h<;>omega
theorem mc{C:Cs}(K:Ok C){p q:Nat}(L:At C p)(M:At C q){a n v o w:Nat}(ha:a+n<=C.sz (C.cl q))(ho:o+w<=C.sz (C.cl p))(h:p=q->a+n<=o\/o+w<=a):rd (wr C.A (q+a) n v) (p+o) w=rd C.A (p+o) w:=
 aS _ _ _ _ _ _ (far K L M ha ho h)
theorem Ka{C:Cs}(K:Ok C){p q:Nat}(L:At C p)(M:At C q){a n v o w:Nat}(ha:a+n<=C.sz (C.cl q))(ho:o+w<=C.sz (C.cl p))(h:p=q->a+n<=o\/o+w<=a):jZ (wr C.A (q+a) n v) (p+o) w=jZ C.A (p+o) w:=
 tq _ _ _ _ _ _ (far K L M ha ho h)
structure Kept (C:Cs)(A:By)(p:Nat):Prop where
 kl:kl A p=kl C.A p
 vl:vl A p=vl C.A p
 key:aO A p=aO C.A p
 it:gU C p->gU (C.wA A) p
theorem xz{C:Cs}(K:Ok C){p q:Nat}(L:At C p)(M:At C q)(I:gU C p){a n v:Nat}(ha:a+n<=12):Kept C (wr C.A (q+a) n v) p:=by
 have n1:=(L.br K).2.1;have m1:=(M.br K).2.1;have hf:=I.fits;have e1:kl (wr C.A (q+a) n v) p=kl C.A p:=mc K L M (by omega) (by omega) (λ_=>by omega);have e2:vl (wr C.A (q+a) n v) p=vl C.A p:=mc K L M (by omega) (by omega) (λ_=>by omega);refine⟨e1,e2, ?_,λJ=>⟨?_, ?_, ?_, ?_⟩⟩
 ·unfold aO
  rw[e1];exact Ka K L M (by omega) (by omega) (λ_=>by omega)
 ·rw[cT,e1];exact J.k0
 ·rw[cT,e1,e2];exact J.fits
 ·rw[cT,mc K L M (by omega) (by omega) (λ_=>by omega)];exact J.exp
 rw[cT,mc K L M (by omega) (by omega) (λ_=>by omega)];exact J.tch
def GW (A:By):F8->Prop
 | []=>True
 |p::l=>rd A p 4=nO l.head?/\GW A l
structure Tb where
 aH:Nat
 n:Nat
 size:Nat
 nb:Dy
 ob:Dy
 mv:Nat
 st:Nat
namespace Tb
def bk (T:Tb)(h:Nat):Bool×Nat:=if 0<T.ob.length/\T.mv<=h % T.ob.length then(true,h % T.ob.length)else(false,h % T.nb.length)
def ch (T:Tb)(x:Bool×Nat):F8:=if x.1 then T.ob.getD x.2 []else T.nb.getD x.2 []
def db (T:Tb)(x:Bool×Nat)(c:F8):Tb:=if x.1 then{T with ob:=T.ob.set x.2 c}else{T with nb:=T.nb.set x.2 c}
def all (T:Tb):F8:=T.nb.flatten++T.ob.flatten
end Tb
def ajb (z:Int)(c:UInt8):Int:=IntKind.u64.wrap (IntKind.u64.wrap ((BitVec.ofInt 64 z^^^BitVec.ofInt 64 (c.toNat:Int)).toNat:Int)*1099511628211)
def XS (l:F9):Int:=l.foldl ajb 14695981039346656037
def cD (l:F9):Nat:=(XS l).toNat
theorem Fv (l:F9)(c:UInt8):XS (l++ [c])=ajb (XS l) c:=by unfold XS;rw[List.foldl_append];rfl
theorem Mq (z:Int):0<=IntKind.u64.wrap z/\IntKind.u64.wrap z<18446744073709551616:=by
 rw[IntKind.wrap_u64];omega
theorem Ns (l:F9):0<=XS l/\XS l<18446744073709551616:=by
 rcases List.eq_nil_or_concat l with rfl|⟨m,c,rfl⟩
 ·decide
 rw[List.concat_eq_append,Fv];exact Mq _
theorem K7 (l:F9):XS l=(cD l:Int)/\cD l<18446744073709551616:=by
 have:=Ns l;unfold cD;omega
structure dC (C:Cs)(T:Tb):Prop where
 pw:∃m,m<=20/\T.nb.length=2^m
 po:T.ob= []\/∃m,m<=20/\T.ob.length=2^m
 st:(T.st=0/\T.ob= [])\/(T.st=2/\0<T.ob.length/\T.mv<=T.ob.length)
 mp:∃m,m<=20/\T.aH=2^m
 sz:T.size=T.nb.length
 Qc:16<=T.size
 sm:T.size<=T.aH
 mv:T.mv<=1048576
 n:T.n=T.all.length
 nd:T.all.Nodup
 li:∀x,GW C.A (T.ch x)
 lv:∀p∈T.all,Live C p
 it:∀p∈T.all,gU C p
 bu:∀x p,p∈T.ch x->T.bk (cD (aO C.A p))=x
 kd:∀p∈T.all,∀q∈T.all,aO C.A p=aO C.A q->p=q
theorem Tb.Kw{T:Tb}{p:Nat}:p∈T.all↔∃x,p∈T.ch x:=by
 unfold all ch;rw[ahy,ais,ais];constructor
 ·rintro(⟨l,h1,h2⟩|⟨l,h1,h2⟩)
  ·obtain⟨i,hi,rfl⟩:=acS h1
   exact⟨(false,i),by simpa[aaZ,hi]using h2⟩
  obtain⟨i,hi,rfl⟩:=acS h1;exact⟨(true,i),by simpa[aaZ,hi]using h2⟩
 rintro⟨⟨f,i⟩,h⟩;rcases f with _|_
 ·left
  simp only[Bool.false_eq_true,if_false,aaZ]at h;by_cases hi:i<T.nb.length
  ·rw[aa0 hi]at h
   exact⟨_,abe hi,h⟩
  rw[abb (by omega)]at h;cases h
 right;simp only[if_true,aaZ]at h;by_cases hi:i<T.ob.length
 ·rw[aa0 hi]at h
  exact⟨_,abe hi,h⟩
 rw[abb (by omega)]at h;cases h
theorem Tb.hU{T:Tb}{x:Bool×Nat}{p:Nat}(h:p∈T.ch x):p∈T.all:=Kw.2 ⟨x,h⟩
theorem Tb.pA (T:Tb)(x:Bool×Nat):al9 (T.ch x) T.all:=by
 unfold ch all;rcases x with⟨f,i⟩
 have g:∀(L:Dy),al9 (L.getD i []) L.flatten:=λL=>by
  by_cases hi:i<L.length
  ·rw[aaZ,aa0 hi]
   exact List.sublist_flatten_of_mem (abe hi)
  rw[aaZ,abb (by omega)];exact List.nil_sublist _
 rcases f with _|_
 ·exact(g T.nb).trans (List.sublist_append_left _ _)
 exact(g T.ob).trans (List.sublist_append_right _ _)
def Tb.get (T:Tb)(C:Cs)(k:F9):FW:=T.all.find? λp=>decide (aO C.A p=k)
theorem get_some{C:Cs}{T:Tb}(O:dC C T){p:Nat}{k:F9}(h:p∈T.all)(hk:aO C.A p=k):T.get C k=some p:=by
 unfold Tb.get;cases hf:T.all.find? (λp=>decide (aO C.A p=k))with
 |none=>exact absurd hk (by simpa using ahL.1 hf p h)
 |some q=>
  have h1:=List.mem_of_find?_eq_some hf;have h2:=List.find?_some hf;rw[O.kd p h q h1 (by rw[hk,of_decide_eq_true h2])]
theorem get_none{C:Cs}{T:Tb}{k:F9}(h:∀p∈T.all,aO C.A p≠k):T.get C k=none:=by
 unfold Tb.get;rw[ahL];intro p hp;simpa using h p hp
theorem H8{C:Cs}{T:Tb}(O:dC C T){p:Nat}(h:p∈T.all):p∈T.ch (T.bk (cD (aO C.A p))):=by
 obtain⟨x,hx⟩:=Tb.Kw.1 h;rw[O.bu x p hx];exact hx
theorem vC{C:Cs}{T:Tb}(O:dC C T)(x:Bool×Nat):(T.ch x).length<=T.n:=by
 rw[O.n];exact(T.pA x).length_le
theorem vv{A:By}:∀{l:F8} {k:Nat} (_:GW A l) (hk:k<l.length),rd A l[k] 4=nO (l.drop (k+1)).head?
 |_::l,0,h,_=>h.1
 |_::l,k+1,h,hk=>vv (l:=l) h.2 (by simpa using hk)
open Go Go.dQ Go.Proofs.YtcbcjolpdljbiaaGreat.Cs
theorem Mx{l:F9}{k:Nat}(h:k<l.length):l.take (k+1)=l.take k++ [l[k]]:=by
 rw[List.take_add_one,aa0 h];rfl
theorem ad7 (a:FX)(m c:Nat)(l:F9)(hm:m=l.length)(hl:l.length<281474976710656):
  aK aaY 141 [.slice a m c] (λh=>fD h a (ak l)) [] (λv H=>v=DE DB (cD l)/\H= []):=by
 refine af func141 rfl ntmps141 rfl ?_;intro F r;refine gQ ?_;refine Lo (ι:=Nat) (FZ [3,1,5,1,8,10]) (λk=>k<=m) (λk=> [(3,DE DB (XS (l.take k))),(8,DE DD k)]) (λk=> []) (λk=>m-k) (0) (by simp) ?_;rintro k hI;refine bj ?_;refine av ?_;refine aA rfl ?_ ?_
 ·intro hk
  replace hk:=aG hk;have ct:k<l.length:=by omega
  have kb:(ak l)[k]?=some (DE amn (l[k].toNat:Nat)):=by unfold ak;rw[abf,aa0 ct];rfl
  have hc:=l[k].toNat_lt;refine ba ?_;refine Li (Ix fx) ?_;refine pX ?_;refine aB ?_;refine az (t:=3) (v':=(DE DB (XS (l.take (k+1))))) rfl (by(rw[Mx ct,Fv];rfl)) ?_;refine Ro (k+1) (by omega) (by omega)
 intro hk;replace hk:=aG hk;obtain rfl:k=m:=by omega
 rw[List.take_of_length_le (by omega),(K7 l).1];refine bD ?_;refine Rt [] results141 ?_;exact⟨rfl,rfl⟩
structure pW where
 nk:Nat
 ok:FW
def aL (l:Dy):F8:=l.map λc=>nO c.head?
theorem nY (l:Dy):(aL l).length=l.length:=by simp[aL]
def gV (b:Nat)(T:Tb)(y:pW):FV:= [DC b,DE DD T.aH,DE DD T.n,DE DD T.size, .slice (some ⟨y.nk,0,none⟩) T.nb.length T.nb.length,W9 y.ok T.ob.length,DE DD T.mv,DE DD T.st]
def np (t b:Nat)(T:Tb)(y:pW):Dz:= [ag t 154 (gV b T y),ag y.nk 149 (aV (aL T.nb)),oe y.ok 149 (aV (aL T.ob))]
abbrev TL (t b:Nat)(T:Tb)(y:pW):aa:=aF (np t b T y)
theorem mE (t b:Nat)(C:Cs)(W:Tb)(y:pW)(K:Ok C)(o:FW)(ho:dw C o):
  aK aaY 93 [DC t,DE amo (nO o)] (λh=>In (Cl b C) h/\In (ag t 154 (gV b W y)) h) []
   (λv H=>v=DE DB (hO C o)/\H= []):=by
 unfold gV;refine af func93 rfl ntmps93 rfl ?_;rintro F ⟨hc,ht⟩;rcases o with _|q
 ·refine iz ?_
  refine gQ ?_;refine Rt [] results93 ?_;exact⟨rfl,rfl⟩
 have M:=ho q rfl;obtain⟨m1,m2,m3,m4,m5,m6⟩:=bU K M.toAt;rw[rn];refine cY ?_;refine cM ?_;refine bO ?_;refine az (t:=17) (v':=(DE DD q)) rfl (by rw[show(8:Int)*(((q/8+1:Nat):Int)-1)=(q:Int) by omega]) ?_;refine zl Aq (abM b C K q M) .nil (λ_ le _=>In.mono hc le) ?_;refine bO ?_;refine Rt [] results93 ?_;exact⟨rfl,rfl⟩
theorem jX (t b:Nat)(C:Cs)(W:Tb)(y:pW)(K:Ok C)(p:Nat)(o:FW)(L:Live C p)(hk:kl C.A p≠0)(ho:dw C o)(hn:rd C.A p 4=nO o):
  aK aaY 96 [DC t,DE DB (C.hd p)] (λh=>In (Cl b C) h/\In (ag t 154 (gV b W y)) h) []
   (λv H=>v=DE DB (hO C o)/\H= []):=by
 unfold gV;refine af func96 rfl ntmps96 rfl ?_;rintro F ⟨hc,ht⟩;refine cu ?_;refine zl Aq (nM b C K p 0 o L hk (by omega) ho hn) .nil (λ_ le _=>In.mono hc le) ?_;refine bD ?_;refine Rt [] results96 ?_;exact⟨rfl,rfl⟩
theorem ri (t b:Nat)(C:Cs)(W:Tb)(y:pW)(K:Ok C)(p:Nat)(L:Live C p)(I:gU C p):
  aK aaY 196 [DC t,DE DB (C.hd p)] (λh=>In (Cl b C) h/\In (ag t 154 (gV b W y)) h) []
   (λv H=>∃kb,v= .slice (some ⟨kb,0,none⟩) (kl C.A p) (kl C.A p)/\H= [own (some ⟨kb,0,none⟩) (kl C.A p) 5 1 (ak (aO C.A p))]):=by
 unfold gV;refine af func196 rfl ntmps196 rfl ?_;rintro F ⟨hc,ht⟩;refine cu ?_;refine Lp (oC Aq rfl rfl (uD b C K p L I) .nil (λ_ le _=>In.mono hc le) ?_);rintro v H' ⟨kb,vb,rfl,rfl⟩;refine bS ?_;unfold DW;refine bj ?_;refine Lp (oA bZ λb1=> ?_);refine cu ?_;refine Rt [own (some ⟨kb,0,none⟩) (kl C.A p) 5 1 (ak (aO C.A p))] results196 ?_;exact⟨kb,rfl,rfl⟩
def bkA (y:pW)(x:Bool×Nat):Addr:=⟨if x.1 then y.ok.getD 0 else y.nk,x.2,none⟩
theorem xI{a L m:Nat}(hL:L=2^m)(hm:m<=20)(ha:a<18446744073709551616):gL .and .u64 (a:Int) ((L-1:Nat):Int)=some ((a % L:Nat):Int):=by
 subst hL;exact zI m (by omega) ha
theorem sn{L m:Nat}(hL:L=2^m)(hm:m<=20):1<=L/\L<=1048576:=by
 subst hL;exact⟨Nat.one_le_two_pow,by
  have:=ahr (n:=2) (by decide) hm;exact ahO this (by decide)⟩
theorem mF (t b:Nat)(C:Cs)(W:Tb)(y:pW)(k:Nat)(O:dC C {W with n:=k})(hy:y.ok=none->W.ob= [])(a:FX)(m c:Nat)(l:F9)(hm:m=l.length)(hl:l.length<281474976710656):
  aK aaY 94 [DC t, .slice a m c] (λh=>In (ag t 154 (gV b W y)) h/\fD h a (ak l)) []
   (λv H=>v= .pointer (some (bkA y (W.bk (cD l))))/\H= []):=by
 obtain⟨i,hi,ei⟩:=O.pw;change W.nb.length=2^i at ei;have po:W.ob= []\/∃m,m<=20/\W.ob.length=2^m:=O.po;obtain⟨p1,p2⟩:=sn ei hi;obtain⟨f1,f2⟩:=K7 l;have Xn:=aia (cD l) (show 0<W.nb.length by omega);unfold gV bkA;rcases y with⟨nk,ok⟩
 try dsimp only at hy⊢
 refine af func94 rfl ntmps94 rfl ?_;rintro F ⟨ht,hr⟩;refine ba ?_;refine zl Aq (ad7 a m c l hm hl) .nil (λ_ le _=>hr.mono le) ?_;rcases ok with _|ok
 ·refine Li As ?_
  refine rS ?_;refine av ?_;refine iL 15 mix .nil λF1 jq bV aI=> ?_;have qg:=In.mono ht jq;refine bO ?_;refine az (t:=45) (v':=(DE DD (W.nb.length-1:Nat))) rfl (by(congr 1;omega)) ?_;refine Ti (Cv QE X0) ?_;refine Ti ((Im (hz:=xI ei hi f2))) ?_;refine bn ?_;refine gG aI ?_;refine bn ?_;refine Rt [] results94 ?_;rw[show W.bk (cD l)=(false,cD l % W.nb.length)from if_neg (by rw[hy rfl];simp)];exact⟨rfl,rfl⟩
 have hol:W.ob.length<=1048576:=by
  rcases po with h|⟨j,hj,ej⟩
  ·rw[h];decide
  exact(sn ej hj).2
 refine kT ?_;refine aA rfl ?_ ?_
 ·intro hlen
  replace hlen:=aG hlen;obtain⟨j,hj,ej⟩:∃m,m<=20/\W.ob.length=2^m:=by
   rcases po with h|h
   ·rw[h]at hlen;exact absurd hlen (by decide)
   exact h
  refine aY ?_;refine az (t:=19) (v':=(DE DD (W.ob.length-1:Nat))) rfl (by(congr 1;omega)) ?_;refine aw ?_;refine Li ((Im (hz:=xI ej hj f2))) ?_;have hmod:=aia (cD l) (show 0<W.ob.length by omega);refine bO ?_;refine aA rfl ?_ ?_
  ·intro Ju
   replace Ju:=aG Ju;refine bO ?_;refine Rt [] results94 ?_;rw[show W.bk (cD l)=(true,cD l % W.ob.length)from if_pos ⟨by omega,by omega⟩];exact⟨rfl,rfl⟩
  intro Ju;replace Ju:=aG Ju;refine bn ?_;refine av ?_;refine iL 15 mix .nil λF2 zU eP dE=> ?_;have qg:=In.mono ht zU;refine bO ?_;refine az (t:=45) (v':=(DE DD (W.nb.length-1:Nat))) rfl (by(congr 1;omega)) ?_;refine Ti (Cv QE X0) ?_;refine Ti ((Im (hz:=xI ei hi f2))) ?_;refine bn ?_;refine gG dE ?_;refine bn ?_;refine Rt [] results94 ?_;rw[show W.bk (cD l)=(false,cD l % W.nb.length)from if_neg (by omega)];exact⟨rfl,rfl⟩
 intro hlen;replace hlen:=aG hlen;refine bn ?_;refine av ?_;refine iL 15 mix .nil λF3 Xg rX fA=> ?_;have qg:=In.mono ht Xg;refine bO ?_;refine az (t:=45) (v':=(DE DD (W.nb.length-1:Nat))) rfl (by(congr 1;omega)) ?_;refine Ti (Cv QE X0) ?_;refine Ti ((Im (hz:=xI ei hi f2))) ?_;refine bn ?_;refine gG fA ?_;refine bn ?_;refine Rt [] results94 ?_;rw[show W.bk (cD l)=(false,cD l % W.nb.length)from if_neg (by omega)];exact⟨rfl,rfl⟩
theorem acF{C:Cs}{W:Tb}(O:dC C W)(h:Nat):(∃i,W.bk h=(false,i)/\i<W.nb.length)\/(∃i,W.bk h=(true,i)/\i<W.ob.length):=by
 obtain⟨m,hm,e⟩:=O.pw;obtain⟨p1,_⟩:=sn e hm;unfold Tb.bk;split
 ·next g=>exact .inr ⟨_,rfl,aia _ g.1⟩
 exact .inl ⟨_,rfl,aia _ (by omega)⟩
theorem qT{l:Dy}{i:Nat}(h:i<l.length):(aV (aL l))[i]?=some (DE amo (nO (l.getD i []).head?)):=
 oK (by unfold aL;rw[abf,aaZ,aa0 h];rfl)
theorem xA{b i:Nat}{e:TypeId}{cs:FV}{h:Hp}{v:Value}(o:In (ag b e cs) h)(hv:cs[i]?=some v):eO h ⟨b,i,none⟩=some v:=by
 obtain⟨k,q,l⟩:=o;exact gx ((rj (i:=0) q).mono l) hv
theorem Np{t b:Nat}{C:Cs}{W:Tb}{y:pW}{hp:Hp}(O:dC C W)(hy:y.ok=none->W.ob= [])(au:gW (np t b W y) hp)(h:Nat):eO hp (bkA y (W.bk h))=some (DE amo (nO (W.ch (W.bk h)).head?)):=by
 obtain⟨_,h1,h2,_⟩:=au;rcases acF O h with⟨i,e,hi⟩|⟨i,e,hi⟩
 ·rw[e]
  exact xA h1 (qT hi)
 rw[e];rcases y with⟨nk,ok⟩
 rcases ok with _|ok
 ·rw[hy rfl]at hi;cases hi
 exact xA h2 (qT hi)
theorem xE{c:F8}{k:Nat}(h:k<c.length):(c.drop k).head?=some c[k]:=by
 rw[ail,aa0 h]
theorem aaC{c:F8}{k:Nat}(h:¬k<c.length):(c.drop k).head?=none:=by
 rw[ail,abb (by omega)]
theorem nT:∀(N:Nat) (l:F8),l.Nodup->(∀p∈l,p<N)->l.length<=N
 |0,l,_,h=>by
  cases l with
  |nil=>simp
  |cons a l=>exact absurd (h a (by simp)) (by omega)
 |N+1,l,hn,h=>by
  have:=nT N (l.erase N) (hn.erase N) λp hp=>by
   have h1:=h p (List.mem_of_mem_erase hp);have h2:p≠N:=λe=>by
    rw[e]at hp;exact(List.Nodup.mem_erase_iff hn).1 hp|>.1 rfl
   omega
  have:=alp (a:=N) (l:=l);by_cases hm:N∈l
  ·have:=alp hm
   omega
  rw[List.erase_of_not_mem hm]at*;omega
theorem BY{C:Cs}(K:Ok C){W:Tb}(O:dC C W):W.n<=1073741824:=by
 rw[O.n];refine nT _ _ O.nd λp hp=> ?_;obtain⟨n1,n2,_,_,_,_,_,n8⟩:=(O.lv p hp).toAt.br K;have:=gg K.toFix;omega
theorem nI (t b:Nat)(C:Cs)(K:Ok C)(W:Tb)(y:pW)(O:dC C W)(hy:y.ok=none->W.ob= [])(a:FX)(m c:Nat)(l:F9)(hm:m=l.length)(hl:l.length<281474976710656):
  aK aaY 47 [DC t, .slice a m c] (λh=>In (Cl b C) h/\gW (np t b W y) h/\fD h a (ak l)) []
   (λv H=>v= .tuple #[DE DB (hO C (W.get C l)), .bool (W.get C l).isSome]/\H= []):=by
 have li:=O.li (W.bk (cD l));have cl:=vC O (W.bk (cD l));have hn:=BY K O;have sub:∀p∈W.ch (W.bk (cD l)),p∈W.all:=λp hp=>Tb.hU hp;have key:∀p∈W.all,aO C.A p=l->p∈W.ch (W.bk (cD l)):=λp hp e=>by
  have:=H8 O hp
  rwa[e]at this
 have hc:=λ{hp:Hp} (au:gW (np t b W y) hp)=>Np O hy au (cD l);generalize zS:W.ch (W.bk (cD l))=cc at*;have XE:∀k,dw C (cc.drop k).head?:=λk q hq=>O.lv q (sub q (alE (acY hq)));refine af func47 rfl ntmps47 rfl ?_;rintro F ⟨dx,au,hr⟩;have ht:=au.1;have kc:=hc au;unfold gV at ht;refine cY ?_;refine zl Aq (mF t b C W y W.n O hy a m c l hm hl) .nil (λ_ le _=>⟨In.mono au.1 le,hr.mono le⟩) ?_;refine bn ?_;refine zl Aq (mE t b C W y K cc.head? (XE 0)) .nil (λ_ le _=>⟨In.mono dx le,In.mono au.1 le⟩) ?_;refine bL ?_;refine Lo (ι:=Nat) (FZ [4,4,15,23]) (λk=>k<=cc.length/\∀i (h:i<cc.length),i<k->aO C.A cc[i]≠l) (λk=> [(6,DE DB (hO C (cc.drop k).head?)),(7,DE DD k)]) (λk=> []) (λk=>cc.length-k) (0) ⟨abn _,λi _ h=>absurd h (Nat.not_lt_zero _)⟩ ?_;rintro k hI;by_cases hk:k<cc.length
 ·have hp:=sub _ (abe hk)
  have L:=O.lv _ hp;have I:=O.it _ hp;obtain⟨m1,m2,m3,m4,m5,m6⟩:=bU K L.toAt;rw[xE hk,cj];refine ba ?_;refine zt 17 ?_ (e:=by exact by rw[Ar];rfl);refine cY ?_;refine eJ ?_;refine cL ?_;refine zl Aq (Fq b C K cc[k] L I a m c l hm hl) .nil (λ_ le _=>⟨In.mono dx le,hr.mono le⟩) ?_;refine aw ?_;refine aA rfl ?_ ?_
  ·intro hs
   replace hs:=aG hs;refine cL ?_;refine js [] results47 ?_;rw[get_some O hp (hs)];exact⟨rfl,rfl⟩
  intro hs;replace hs:=aG hs;refine ba ?_;refine zl Aq (jX t b C W y K cc[k] (cc.drop (k+1)).head? L I.k0 (XE (k+1)) (vv li hk)) .nil (λ_ le _=>⟨In.mono dx le,In.mono au.1 le⟩) ?_;refine cY ?_;refine aB ?_;refine Ro (k+1) (⟨hk,λi h hi=>by rcases Nat.lt_succ_iff_lt_or_eq.1 hi with e|rfl;exact hI.2 i h e;exact hs⟩) ((by omega))
 rw[aaC hk];refine ba ?_;refine zf 17 ?_ (e:=by rfl);refine BV ?_;refine js [] results47 ?_;have e:W.get C l=none:=get_none λp hp he=>by
  obtain⟨i,hi,rfl⟩:=acS (key p hp he);exact hI.2 i hi (by omega) he
 rw[e];exact⟨rfl,rfl⟩
theorem nX (l:Dy)(i:Nat)(c:F8):(aV (aL l)).set i (DE amo (nO c.head?))=aV (aL (l.set i c)):=by
 unfold aV aL;rw[adf,adf]
theorem Sd{C:Cs}(K:Ok C){p:Nat}(L:Live C p):IntKind.u32.wrap (C.hd p:Int)=(nO (some p):Int):=by
 obtain⟨m1,_⟩:=bU K L.toAt;rw[IntKind.wrap_u32,rn];omega
theorem afm{C:Cs}(K:Ok C){o:FW}(L:dw C o):IntKind.u32.wrap (hO C o:Int)=(nO o:Int):=by
 rcases o with _|p
 ·rfl
 exact Sd K (L p rfl)
def GK (W:Tb)(x:Bool×Nat):Prop:=if x.1 then x.2<W.ob.length else x.2<W.nb.length
theorem sY{C:Cs}{W:Tb}(O:dC C W)(h:Nat):GK W (W.bk h):=by
 rcases acF O h with⟨i,e,hi⟩|⟨i,e,hi⟩<;>rw[e]<;>exact hi
theorem zA{t b:Nat}{W:Tb}{y:pW}{hp:Hp}(hy:y.ok=none->W.ob= [])(au:gW (np t b W y) hp){x:Bool×Nat}(hx:GK W x):eO hp (bkA y x)=some (DE amo (nO (W.ch x).head?)):=by
 obtain⟨_,h1,h2,_⟩:=au;rcases x with⟨_|_,i⟩
 ·exact xA h1 (qT hx)
 rcases y with⟨nk,ok⟩
 rcases ok with _|ok
 ·have:=hy rfl
  unfold GK at hx;rw[this]at hx;cases hx
 exact xA h2 (qT hx)
theorem QT (t b:Nat)(W:Tb)(y:pW)(i:Nat)(c:F8):np t b (W.db (false,i) c) y= [ag t 154 (gV b W y),ag y.nk 149 (aV (aL (W.nb.set i c))),oe y.ok 149 (aV (aL W.ob))]:=by
 simp[np,gV,Tb.db]
theorem QS (t b:Nat)(W:Tb)(y:pW)(i:Nat)(c:F8):np t b (W.db (true,i) c) y= [ag t 154 (gV b W y),ag y.nk 149 (aV (aL W.nb)),oe y.ok 149 (aV (aL (W.ob.set i c)))]:=by
 simp[np,gV,Tb.db]
theorem yF (t b:Nat)(C:Cs)(K:Ok C)(W:Tb)(y:pW)(hy:y.ok=none->W.ob= [])(x:Bool×Nat)(hx:GK W x)(p:Nat)(L:Live C p)(hk:kl C.A p≠0)(ho:dw C (W.ch x).head?):
  aK aaY 195 [DC t, .pointer (some (bkA y x)),DE DB (C.hd p)] (λ_=>True) (Cl b C::np t b W y)
   (λv H=>v= .tuple #[]/\H=Cl b (C.wA (wr C.A p 4 (nO (W.ch x).head?)))::np t b (W.db x (p::W.ch x)) y):=by
 have kp:=Sd K L;have PZ:=λ{hp:Hp} (au:gW (np t b W y) hp)=>zA hy au hx;change aK _ _ _ _ [Cl b C,ag t 154 [DC b,DE DD W.aH,DE DD W.n,DE DD W.size, .slice (some ⟨y.nk,0,none⟩) W.nb.length W.nb.length,W9 y.ok W.ob.length,DE DD W.mv,DE DD W.st],ag y.nk 149 (aV (aL W.nb)),oe y.ok 149 (aV (aL W.ob))] _;refine af func195 rfl ntmps195 rfl ?_;intro F _;refine av ?_;refine iL 10 mix (.cons (.there .here) (.cons (.there .here) (.cons (.there .here) .nil))) λF1 jq bV aI=> ?_;obtain⟨q1,q2,q3,_⟩:=bV;have kc:=PZ ⟨q1,q2,q3,trivial⟩;refine cu ?_;refine Tp (oZ (Aq (n:=93)) (mE t b C W y K (W.ch x).head? ho) .nil (λ_ le au=>⟨au.1,In.mono q1 le⟩) ?_);refine gG aI ?_;refine Tp (oZ (Aq (n:=253)) (eF b C K p 0 (W.ch x).head? L hk (by omega) ho) (.cons (.t3 .here) .nil) DA ?_);rw[show p+4*0=p from rfl];refine aY ?_;refine Li ((Cv QR Hf (hz:=kp))) ?_;rcases x with⟨_|_,i⟩
 ·refine Li Nc ?_
  refine Lp (oS qG ?_ (i:=i) (hi:=by rw[mu,nY];exact hx));rw[show(aV (aL W.nb)).set i (DE amo (nO (some p)))=aV (aL (W.nb.set i (p::W.ch (false,i))))from nX W.nb i (p::W.ch (false,i))];refine aB ?_;refine j5 [Cl b (C.wA (wr C.A p 4 (nO (W.ch (false,i)).head?))),ag t 154 (gV b W y),ag y.nk 149 (aV (aL (W.nb.set i (p::W.ch (false,i))))),oe y.ok 149 (aV (aL W.ob))] results195 ?_;exact⟨rfl,by rw[QT]⟩
 obtain⟨ok,lS⟩:∃ok,y.ok=some ok:=by
  rcases h:y.ok with _|ok
  ·have e:=hy h
   unfold GK at hx;rw[e]at hx;cases hx
  exact⟨ok,rfl⟩
 rcases y with⟨nk,_⟩
 dsimp only at lS;subst lS;refine aw ?_;refine Lp (oS qG ?_ (i:=i) (hi:=by rw[mu,nY];exact hx));rw[show(aV (aL W.ob)).set i (DE amo (nO (some p)))=aV (aL (W.ob.set i (p::W.ch (true,i))))from nX W.ob i (p::W.ch (true,i))];refine aB ?_;refine j5 [Cl b (C.wA (wr C.A p 4 (nO (W.ch (true,i)).head?))),ag t 154 (gV b W ⟨nk,some ok⟩),ag nk 149 (aV (aL W.nb)),oe (some ok) 149 (aV (aL (W.ob.set i (p::W.ch (true,i)))))] results195 ?_;exact⟨rfl,by rw[QS]⟩
def qk (A:By)(c:F8):Nat->By
 |0=>A
 |i+1=>wr A (c.getD i 0) 4 (nO (c.drop (i+2)).head?)
theorem nS (A:By)(c:F8)(i:Nat):qk A c (i+1)=wr A (c.getD i 0) 4 (nO (c.drop (i+2)).head?):=rfl
def qw (A:By)(c:F8)(j p:Nat):By:=wr (qk A c j) p 4 0
theorem zy{l:Dy}{i:Nat}{c:F8}(h:c.head?=(l.getD i []).head?):aL (l.set i c)=aL l:=by
 unfold aL;apply List.ext_getElem (by simp);intro k h1 h2;simp only[List.length_map,aa8]at h1 h2;rw[ahW,ahW,List.getElem_set];split
 ·next e=>
  subst e;rw[h,aaZ,aa0 h2];rfl
 rfl
theorem Ui{t b:Nat}{W:Tb}{y:pW}{x:Bool×Nat}{c:F8}(h:c.head?=(W.ch x).head?):np t b (W.db x c) y=np t b W y:=by
 rcases x with⟨_|_,i⟩
 ·rw[QT,zy h];rfl
 rw[QS,zy h];rfl
theorem I8{c:F8}{j:Nat}:(c.eraseIdx (j+1)).head?=c.head?:=by
 cases c<;>simp
theorem mP{c:F8}{k:Nat}(h:k<c.length):c.getD k 0=c[k]:=by
 rw[aaZ,aa0 h];rfl
theorem EM (t b:Nat)(C:Cs)(K:Ok C)(W:Tb)(y:pW)(O:dC C W)(hy:y.ok=none->W.ob= [])(x:Bool×Nat)(hx:GK W x)(c:F8)(zS:W.ch x=c)(j:Nat)(hj:j<c.length)(p:Nat)(hp:c[j]=p):
  aK aaY 191 [DC t,DE DB (C.hd p)] (λ_=>True) (Cl b C::np t b W y)
   (λv H=>v= .tuple #[]/\H=Cl b (C.wA (qw C.A c j p))::np t b (W.db x (c.eraseIdx j)) y):=by
 have PZ:=λ{hp:Hp} (au:gW (np t b W y) hp)=>zA hy au hx;have li:=O.li x;have nd:=(W.pA x).nodup O.nd;have cl:=vC O x;have hn:=BY K O;rw[zS]at PZ li nd cl;have sub:∀q∈c,q∈W.all:=λq hq=>Tb.hU (x:=x) (by rw[zS];exact hq);have XE:∀k,dw C (c.drop k).head?:=λk q hq=>O.lv q (sub q (alE (acY hq)));have ha:p∈W.all:=sub p (by rw[<-hp];exact abe hj);have L:=O.lv p ha;have I:=O.it p ha;have hbk:W.bk (cD (aO C.A p))=x:=O.bu x p (by rw[zS,<-hp];exact abe hj);obtain⟨v1,v2,v3,v4,v5,v6⟩:=bU K L.toAt;have lk:(aO C.A p).length=kl C.A p:=cI _ _ _;have lf:=I.fits;obtain⟨z1,z2,z3,_⟩:=L.toAt.br K;have f1:=K.toFix.p1;change aK _ _ _ _ [Cl b C,ag t 154 [DC b,DE DD W.aH,DE DD W.n,DE DD W.size, .slice (some ⟨y.nk,0,none⟩) W.nb.length W.nb.length,W9 y.ok W.ob.length,DE DD W.mv,DE DD W.st],ag y.nk 149 (aV (aL W.nb)),oe y.ok 149 (aV (aL W.ob))] _;refine af func191 rfl ntmps191 rfl ?_;intro F _;refine aY ?_;refine Lp (oC Aq rfl rfl (ri t b C W y K p L I) .nil (λ_ le au=>⟨au.1,au.2.1⟩) ?_);rintro v H' ⟨kb,rfl,rfl⟩;refine bS ?_;refine zl Aq (mF t b C W y W.n O hy (some ⟨kb,0,none⟩) (kl C.A p) (kl C.A p) (aO C.A p) lk.symm (by omega)) .nil (λ_ le au=>⟨au.2.2.1,bK au.1⟩) ?_;rw[hbk];refine Hh (H':= [Cl b C,ag t 154 [DC b,DE DD W.aH,DE DD W.n,DE DD W.size, .slice (some ⟨y.nk,0,none⟩) W.nb.length W.nb.length,W9 y.ok W.ob.length,DE DD W.mv,DE DD W.st],ag y.nk 149 (aV (aL W.nb)),oe y.ok 149 (aV (aL W.ob))]) ?_;refine bn ?_;refine av ?_;refine cG (ι:=Unit) (FZ [5,2,12,49]) (λu=>True) (λu=> [(0,DC t),(1,DE DB (C.hd p))]) (λu=> [Cl b (C.wA (qk C.A c j)),TL t b (W.db x (c.eraseIdx j)) y]) ?_ ?_
 ·refine iz ?_
  refine bj ?_;refine Lp (oL qG ?_ (hk:=⟨_,rfl,λh _ au=>PZ au.2⟩));refine zl Aq (mE t b C W y K c.head? (XE 0)) .nil (λ_ le au=>⟨au.1,au.2.1⟩) ?_;rcases j with _|j
  ·have e0:c.head?=some p:=by rw[<-hp];exact xE (k:=0) hj
   rw[e0,cj];refine bj ?_;refine eJ ?_ (e:=by exact decide_eq_true rfl);refine aY ?_;refine zl Aq (jX t b C W y K p (c.drop 1).head? L I.k0 (XE 1) (by rw[<-hp];exact vv li hj)) .nil (λ_ le au=>⟨au.1,au.2.1⟩) ?_;refine Li ((Cv QR Hf (hz:=afm K (XE 1)))) ?_;rcases x with⟨_|_,i⟩
   ·refine Li Nc ?_
    refine Lp (oS qG ?_ (i:=i) (hi:=by rw[mu,nY];exact hx));rw[show(aV (aL W.nb)).set i (DE amo (nO (c.drop 1).head?))=aV (aL (W.nb.set i (c.drop 1)))from nX W.nb i (c.drop 1)];refine aB ?_;refine Hh (H':= [ag t 154 (gV b W y),ag y.nk 149 (aV (aL (W.nb.set i (c.drop 1)))),oe y.ok 149 (aV (aL W.ob)),Cl b C]) ?_;rw[show c.drop 1=c.eraseIdx 0 by simp];refine ay (H':= [TL t b (W.db (false,i) (c.eraseIdx 0)) y,Cl b C]) (λ_ s=>eC (by rw[QT];exact s)) ?_;refine Me (()) (trivial)
   obtain⟨ok,lS⟩:∃ok,y.ok=some ok:=by
    rcases h:y.ok with _|ok
    ·have e:=hy h
     unfold GK at hx;rw[e]at hx;cases hx
    exact⟨ok,rfl⟩
   rcases y with⟨nk,_⟩
   dsimp only at lS;subst lS;refine aw ?_;refine Lp (oS qG ?_ (i:=i) (hi:=by rw[mu,nY];exact hx));rw[show(aV (aL W.ob)).set i (DE amo (nO (c.drop 1).head?))=aV (aL (W.ob.set i (c.drop 1)))from nX W.ob i (c.drop 1)];refine aB ?_;refine Hh (H':= [ag t 154 (gV b W ⟨nk,some ok⟩),ag nk 149 (aV (aL W.nb)),oe (some ok) 149 (aV (aL (W.ob.set i (c.drop 1)))),Cl b C]) ?_;rw[show c.drop 1=c.eraseIdx 0 by simp];refine ay (H':= [TL t b (W.db (true,i) (c.eraseIdx 0)) ⟨nk,some ok⟩,Cl b C]) (λ_ s=>eC (by rw[QS];exact s)) ?_;refine Me (()) (trivial)
  have hp0:(c.drop 0).head?=some c[0]:=xE (by omega);have L0:=O.lv c[0] (sub _ (abe (by omega)));have ne0:c[0]≠p:=λe=>by
   rw[<-hp]at e;have:=(alc nd).1 e;omega
  have ne0h:C.hd c[0]≠C.hd p:=λe=>ne0 (jm K L0.toAt L.toAt e);rw[show c.head?=some c[0]from hp0,cj];refine bj ?_;refine cM ?_;refine aY ?_;refine Lp (oL qG ?_ (hk:=⟨_,rfl,λh _ au=>PZ au.2⟩));refine zl Aq (mE t b C W y K c.head? (XE 0)) .nil (λ_ le au=>⟨au.1,au.2.1⟩) ?_;rw[show c.head?=some c[0]from hp0,cj,<-mP];refine bL ?_;refine Lo (ι:=Nat) (FZ [5,2,30,22]) (λk=>k<=j) (λk=> [(5,DE DB (C.hd (c.getD k 0))),(6,DE DD k)]) (λk=> [Cl b C,ag t 154 [DC b,DE DD W.aH,DE DD W.n,DE DD W.size, .slice (some ⟨y.nk,0,none⟩) W.nb.length W.nb.length,W9 y.ok W.ob.length,DE DD W.mv,DE DD W.st],ag y.nk 149 (aV (aL W.nb)),oe y.ok 149 (aV (aL W.ob))]) (λk=>j-k) (0) (by simp) ?_;rintro k hI;have tI:k<c.length:=by omega
  have Lk:=O.lv c[k] (sub _ (abe tI));have Ik:=O.it c[k] (sub _ (abe tI));obtain⟨w1,w2,w3,w4,w5,w6⟩:=bU K Lk.toAt;have hk1:k+1<c.length:=by omega
  have Lk1:=O.lv c[k+1] (sub _ (abe hk1));have hlk:rd C.A c[k] 4=nO (some c[k+1]):=by rw[vv li tI,xE hk1]
  have lvk:dw C (some c[k+1]):=λq hq=>by cases hq;exact Lk1
  obtain⟨u1,u2,u3,u4,u5,u6⟩:=bU K Lk1.toAt;rw[mP tI];refine ba ?_;refine zt 32 ?_ (e:=by exact by rw[Ar];rfl);refine bn ?_;refine zl Aq (jX t b C W y K c[k] (some c[k+1]) Lk Ik.k0 lvk hlk) .nil (λ_ le au=>⟨au.1,au.2.1⟩) ?_;rw[cj];by_cases hkj:k=j
  ·subst hkj
   rw[hp];refine aY ?_;refine zf 39 ?_ (e:=by rw[decide_eq_true rfl];rfl);refine fu ?_;refine iL 8 mix (.cons (.there .here) (.cons (.there .here) (.cons (.there .here) .nil))) λF1 jq bV aI=> ?_;obtain⟨q1,q2,q3,_⟩:=bV;refine bL ?_;refine Tp (oZ (Aq (n:=96)) (jX t b C W y K p (c.drop (k+2)).head? L I.k0 (XE (k+2)) (by rw[<-hp];exact vv li hj)) .nil (λ_ le au=>⟨au.1,In.mono q1 le⟩) ?_);refine gG aI ?_;refine Tp (oZ (Aq (n:=253)) (eF b C K c[k] 0 (c.drop (k+2)).head? Lk Ik.k0 (by omega) (XE (k+2))) (.cons (.t3 .here) .nil) DA ?_);refine Tn ?_;rw[show wr C.A (c[k]+4*0) 4 (nO (c.drop (k+2)).head?)=qk C.A c (k+1) by rw[nS,mP tI];rfl];refine Hh (H':= [ag t 154 [DC b,DE DD W.aH,DE DD W.n,DE DD W.size, .slice (some ⟨y.nk,0,none⟩) W.nb.length W.nb.length,W9 y.ok W.ob.length,DE DD W.mv,DE DD W.st],ag y.nk 149 (aV (aL W.nb)),oe y.ok 149 (aV (aL W.ob)),Cl b (C.wA (qk C.A c (k+1)))]) ?_;refine ay (H':= [TL t b (W.db x (c.eraseIdx (k+1))) y,Cl b (C.wA (qk C.A c (k+1)))]) (λ_ s=>eC (by rw[Ui (by rw[zS];exact I8)];exact s)) ?_;refine Me (()) (trivial)
  have ne1:c[k+1]≠p:=λe=>by
   rw[<-hp]at e;have:=(alc nd).1 e;omega
  have ne1h:C.hd c[k+1]≠C.hd p:=λe=>ne1 (jm K Lk1.toAt L.toAt e);refine aY ?_;refine zt 39 ?_ (e:=by rw[Ar];rfl);refine cY ?_;refine eJ ?_;refine bL ?_;refine zl Aq (jX t b C W y K c[k] (some c[k+1]) Lk Ik.k0 lvk hlk) .nil (λ_ le au=>⟨au.1,au.2.1⟩) ?_;rw[cj,<-mP];refine cY ?_;refine aB ?_;refine Ro (k+1) (by omega) (by omega)
 rintro u hI;have qh:kl (qk C.A c j) p≠0:=by
  rcases j with _|j
  ·exact I.k0
  have Lq:=O.lv c[j] (sub _ (abe (by omega)));have e:=xz K L.toAt Lq.toAt I (a:=0) (n:=4) (v:=nO (c.drop (j+2)).head?) (by omega);rw[nS,mP (by omega)];exact λh=>I.k0 (by rw[<-e.kl];exact h)
 refine Hh (H':= [TL t b (W.db x (c.eraseIdx j)) y,Cl b (C.wA (qk C.A c j))]) ?_;refine mQ ?_;refine ay (H':= [ag t 154 (gV b (W.db x (c.eraseIdx j)) y),Cl b (C.wA (qk C.A c j)),ag y.nk 149 (aV (aL (W.db x (c.eraseIdx j)).nb)),oe y.ok 149 (aV (aL (W.db x (c.eraseIdx j)).ob))]) (by exact Eh) ?_;unfold gV;refine bA ?_;refine zl Aq (eF b (C.wA (qk C.A c j)) (K.wA _) p 0 none (L.wA _) qh (by omega) (λq hq=>by cases hq)) (.cons (.there .here) .nil) DA ?_;rw[show(C.wA (qk C.A c j)).wA (wr (C.wA (qk C.A c j)).A (p+4*0) 4 (nO none))=C.wA (qw C.A c j p)from rfl];refine aB ?_;refine j5 [Cl b (C.wA (qw C.A c j p)),ag t 154 (gV b (W.db x (c.eraseIdx j)) y),ag y.nk 149 (aV (aL (W.db x (c.eraseIdx j)).nb)),oe y.ok 149 (aV (aL (W.db x (c.eraseIdx j)).ob))] results191 ?_;exact⟨rfl,rfl⟩
theorem RY{A:By}:∀{l:F8} (_:∀k (h:k<l.length),rd A l[k] 4=nO l[k+1]?),GW A l
 | [],_=>trivial
 |_::l,h=>⟨by have:=h 0 (by simp);simpa[List.head?_eq_getElem?]using this,RY λk hk=>by have:=h (k+1) (by simpa using hk);simpa using this⟩
theorem KC{A:By}{l:F8}{k:Nat}(h:GW A l)(hk:k<l.length):rd A l[k] 4=nO l[k+1]?:=by
 rw[vv h hk,ail]
theorem rC{A B:By}:∀{l:F8} (_:∀q∈l,rd B q 4=rd A q 4) (_:GW A l),GW B l
 | [],_,_=>trivial
 |q::_,h,i=>⟨by rw[h q (by simp)];exact i.1,rC (λr hr=>h r (by simp[hr])) i.2⟩
theorem Kept.refl (C:Cs)(p:Nat):Kept C C.A p:=⟨rfl,rfl,rfl,λi=>i⟩
theorem nW{C:Cs}(K:Ok C){p q:Nat}(L:Live C p)(M:Live C q)(I:gU C p)(v:Nat):Kept C (wr C.A q 4 v) p:=xz K L.toAt M.toAt I (a:=0) (n:=4) (by omega)
theorem uB{C:Cs}(K:Ok C){p q:Nat}(L:Live C p)(M:Live C q)(h:p≠q)(v:Nat):rd (wr C.A q 4 v) p 4=rd C.A p 4:=by
 have n1:=(L.toAt.br K).2.1;have m1:=(M.toAt.br K).2.1;exact mc K L.toAt M.toAt (a:=0) (n:=4) (o:=0) (w:=4) (by omega) (by omega) (λe=>absurd e h)
theorem pK{C:Cs}(K:Ok C){o:FW}(L:dw C o):nO o<4294967296:=by
 rcases o with _|q
 ·exact Nat.zero_lt_succ _
 obtain⟨_,_,m3,m4,_⟩:=bU K (L q rfl).toAt;have:=gg K.toFix;rw[rn];omega
theorem Bi (A:By)(p n:Nat)(h:n<4294967296):rd (wr A p 4 n) p 4=n:=by
 rw[dI];exact Nat.mod_eq_of_lt h
theorem iX:∀{L:Dy} {i:Nat} (_:i<L.length),∃r,L.flatten.Perm (L.getD i []++r)/\∀c,(L.set i c).flatten.Perm (c++r)
 |l::L,0,_=>⟨L.flatten,by simp,λc=>by simp⟩
 |l::L,i+1,h=>by
  obtain⟨r,h1,h2⟩:=iX (L:=L) (i:=i) (by simpa using h);have sw:∀c:F8,(l++(c++r)).Perm (c++(l++r)):=λc=>by
   rw[<-adr,<-adr];exact abd.append_right r abq
  refine⟨l++r, ?_,λc=> ?_⟩
  ·rw[alq]
   exact(abd.append_left l h1).trans (by simpa using sw (L.getD i []))
  rw[List.set_cons_succ,alq];exact(abd.append_left l (h2 c)).trans (sw c)
theorem Tb.o0{W:Tb}{x:Bool×Nat}(hx:GK W x):∃r,W.all.Perm (W.ch x++r)/\∀c,(W.db x c).all.Perm (c++r):=by
 rcases x with⟨_|_,i⟩
 ·obtain⟨r,h1,h2⟩:=iX (L:=W.nb) (i:=i) hx
  refine⟨r++W.ob.flatten, ?_,λc=> ?_⟩
  ·have:=abd.append_right W.ob.flatten h1
   rw[adr]at this;exact this
  have:=abd.append_right W.ob.flatten (h2 c);rw[adr]at this;exact this
 obtain⟨r,h1,h2⟩:=iX (L:=W.ob) (i:=i) hx;have sw:∀c:F8,(W.nb.flatten++(c++r)).Perm (c++(W.nb.flatten++r)):=λc=>by
  rw[<-adr,<-adr];exact abd.append_right r abq
 refine⟨W.nb.flatten++r, ?_,λc=> ?_⟩
 ·exact(abd.append_left _ h1).trans (sw _)
 exact(abd.append_left _ (h2 c)).trans (sw c)
theorem nj{L:Dy}{i:Nat}(h:i<L.length)(c:F8):(L.set i c).getD i []=c:=by
 rw[aaZ,List.getElem?_set_self h];rfl
theorem getD_set_ne{L:Dy}{i k:Nat}(h:i≠k)(c:F8):(L.set i c).getD k []=L.getD k []:=by
 rw[aaZ,aaZ,List.getElem?_set_ne h]
theorem Tb.Tw{W:Tb}{x:Bool×Nat}(hx:GK W x)(c:F8)(z:Bool×Nat):(W.db x c).ch z=if z=x then c else W.ch z:=by
 split
 ·next e=>
  subst e;rcases z with⟨_|_,i⟩
  ·exact nj hx c
  exact nj hx c
 next e=>
 rcases z with⟨_|_,k⟩<;>rcases x with⟨_|_,i⟩
 ·exact getD_set_ne (λh=>e (Prod.ext rfl h.symm)) c
 ·rfl
 ·rfl
 exact getD_set_ne (λh=>e (Prod.ext rfl h.symm)) c
theorem Tb.agX (W:Tb)(x:Bool×Nat)(c:F8)(n h:Nat):Tb.bk {W.db x c with n:=n} h=W.bk h:=by
 rcases x with⟨_|_,i⟩<;>simp[Tb.bk,Tb.db]
theorem CX{C:Cs}{W:Tb}(O:dC C W){x:Bool×Nat}(hx:GK W x){c c':F8}(hc:W.ch x=c){A:By}{n' p:Nat}
  (hn:n'+c.length=W.n+c'.length) (nd:c'.Nodup) (hp:∀q∈c',q∈c\/(q=p/\p∉W.all)) (li:GW A c')
  (lo:∀q∈W.all,q∉c->rd A q 4=rd C.A q 4) (lv:∀q∈c',Live C q) (kp:∀q∈W.all,Kept C A q) (it:∀q∈c',gU (C.wA A) q)
  (bu:∀q∈c',W.bk (cD (aO A q))=x) (kd:p∈c'->p∉W.all->∀r∈W.all,aO A p≠aO C.A r):dC (C.wA A) {W.db x c' with n:=n'}:=by
 obtain⟨r,p1,p2⟩:=Tb.o0 hx;rw[hc]at p1;have p2':Tb.all {W.db x c' with n:=n'}=(W.db x c').all:=rfl;have al:∀q,q∈(W.db x c').all->q∈c'\/(q∈W.all/\q∉c):=λq hq=>by
  rcases ahy.1 ((p2 c').mem_iff.1 hq)with h|h
  ·exact .inl h
  refine .inr ⟨p1.mem_iff.2 (ahT _ h),λg=> ?_⟩;have:=p1.nodup_iff.1 O.nd;exact(ac9.1 this).2.2 q g q h rfl
 have P7:∀z,Tb.ch {W.db x c' with n:=n'} z=if z=x then c' else W.ch z:=λz=>(show Tb.ch {W.db x c' with n:=n'} z=(W.db x c').ch z from rfl).trans (Tb.Tw hx c' z)
 have cp:∀q∈c,q∈W.all:=λq hq=>p1.mem_iff.2 (List.mem_append_left _ hq);have l1:({W.db x c' with n:=n'}:Tb).nb.length=W.nb.length:=by rcases x with⟨_|_,i⟩<;>simp[Tb.db]
 have l2:({W.db x c' with n:=n'}:Tb).ob.length=W.ob.length:=by rcases x with⟨_|_,i⟩<;>simp[Tb.db]
 have e1:({W.db x c' with n:=n'}:Tb).size=W.size:=by rcases x with⟨_|_,i⟩<;>rfl
 have e2:({W.db x c' with n:=n'}:Tb).aH=W.aH:=by rcases x with⟨_|_,i⟩<;>rfl
 have e3:({W.db x c' with n:=n'}:Tb).mv=W.mv:=by rcases x with⟨_|_,i⟩<;>rfl
 have e4:({W.db x c' with n:=n'}:Tb).st=W.st:=by rcases x with⟨_|_,i⟩<;>rfl
 refine⟨by rw[l1];exact O.pw, ?_,by rw[l2,e3,e4];exact O.st.imp (λh=>⟨h.1,abr (by rw[l2,h.2];rfl)⟩) id,by rw[e2];exact O.mp,by rw[e1,l1];exact O.sz,by rw[e1];exact O.Qc,by rw[e1,e2];exact O.sm,by rw[e3];exact O.mv, ?_, ?_,λz=> ?_,λq hq=> ?_,λq hq=> ?_,λz q hq=> ?_,λq hq s hs e=> ?_⟩
 ·rcases O.po with h|⟨m,hm,e⟩
  ·exact .inl (abr (by rw[l2,h];rfl))
  exact .inr ⟨m,hm,by rw[l2];exact e⟩
 ·rw[p2',(p2 c').length_eq,aa9]
  have h1:=O.n;rw[p1.length_eq,aa9]at h1;show n'=_;omega
 ·rw[p2',(p2 c').nodup_iff,ac9]
  have h1:=ac9.1 (p1.nodup_iff.1 O.nd);refine⟨nd,h1.2.1,λq hq s hs e=> ?_⟩;subst e;rcases hp q hq with h|⟨rfl,h⟩
  ·exact h1.2.2 q h q hs rfl
  exact h (p1.mem_iff.2 (ahT _ hs))
 ·rw[P7]
  split
  ·exact li
  next hz=>
  refine rC (λq hq=>lo q (Tb.hU hq) λg=> ?_) (O.li z);rw[<-hc]at g;exact hz ((O.bu z q hq).symm.trans (O.bu x q g))
 ·rcases al q hq with h|h
  ·exact(lv q h).wA A
  exact(O.lv q h.1).wA A
 ·rcases al q hq with h|h
  ·exact it q h
  exact(kp q h.1).it (O.it q h.1)
 ·rw[Tb.agX]
  rw[P7]at hq;split at hq
  ·next e=>rw[e];exact bu q hq
  rw[show aO (C.wA A).A q=aO C.A q from(kp q (Tb.hU hq)).key];exact O.bu z q hq
 change aO A q=aO A s at e;have cl:∀q,q∈(W.db x c').all->q∈W.all\/(q=p/\p∈c'/\p∉W.all):=λq hq=>by
  rcases al q hq with h|h
  ·rcases hp q h with g|g
   ·exact .inl (cp q g)
   exact .inr ⟨g.1,g.1▸h,g.2⟩
  exact .inl h.1
 rcases cl q hq with h|⟨rfl,hi,h⟩<;>rcases cl s hs with g|⟨rfl,gi,g⟩
 ·rw[(kp q h).key,(kp s g).key]at e
  exact O.kd q h s g e
 ·rw[(kp q h).key]at e
  exact absurd e.symm (kd gi g q h)
 ·rw[(kp s g).key]at e
  exact absurd e (kd hi h s g)
 rfl
theorem C6{C:Cs}(K:Ok C){W:Tb}(O:dC C W){p:Nat}(L:Live C p)(I:gU C p)(hp:p∉W.all)(hk:∀q∈W.all,aO C.A q≠aO C.A p){x:Bool×Nat}(hx:W.bk (cD (aO C.A p))=x):
  dC (C.wA (wr C.A p 4 (nO (W.ch x).head?))) {W.db x (p::W.ch x)with n:=W.n+1}:=by
 have kp:∀q∈W.all,Kept C (wr C.A p 4 (nO (W.ch x).head?)) q:=λq hq=>nW K (O.lv q hq) L (O.it q hq) _;have kpp:=nW K L L I (nO (W.ch x).head?);have ne:∀q∈W.all,q≠p:=λq hq e=>hp (e▸hq);have far:∀q∈W.all,rd (wr C.A p 4 (nO (W.ch x).head?)) q 4=rd C.A q 4:=λq hq=>uB K (O.lv q hq) L (ne q hq) _;have sub:∀q∈W.ch x,q∈W.all:=λq hq=>Tb.hU hq;have lO:dw C (W.ch x).head?:=λq hq=>O.lv q (sub q (acY hq));refine CX O (by rw[<-hx];exact sY O _) rfl (p:=p) (by simp;omega) (abg.2 ⟨λh=>hp (sub p h),(W.pA x).nodup O.nd⟩) (λq hq=> ?_) ⟨Bi _ _ _ (pK K lO),rC (λq hq=>far q (sub q hq)) (O.li x)⟩
  (λq hq _=>far q hq) (λq hq=> ?_) kp (λq hq=> ?_) (λq hq=> ?_) (λ_ _ r hr e=> ?_)
 ·rcases abh.1 hq with rfl|h
  ·exact .inr ⟨rfl,hp⟩
  exact .inl h
 ·rcases abh.1 hq with rfl|h
  ·exact L
  exact O.lv q (sub q h)
 ·rcases abh.1 hq with rfl|h
  ·exact kpp.it I
  exact(kp q (sub q h)).it (O.it q (sub q h))
 ·rcases abh.1 hq with rfl|h
  ·rw[kpp.key];exact hx
  rw[(kp q (sub q h)).key];exact O.bu x q h
 rw[kpp.key]at e;exact hk r hr e.symm
def sf (A B:By)(S:F8)(a n:Nat):Prop:=∀i,B i≠A i->∃q∈S,q+a<=i/\i<q+a+n
theorem sf.refl (A:By)(S:F8)(a n:Nat):sf A A S a n:=λ_ h=>absurd rfl h
theorem sf.trans{A B D:By}{S:F8}{a n:Nat}(h:sf A B S a n)(g:sf B D S a n):sf A D S a n:=λi e=>by
 by_cases hb:B i=A i
 ·exact g i (by rw[hb];exact e)
 exact h i hb
theorem sf.mono{A B:By}{S R:F8}{a n:Nat}(h:sf A B S a n)(s:∀q∈S,q∈R):sf A B R a n:=λi e=>by
 obtain⟨q,q1,q2⟩:=h i e;exact⟨q,s q q1,q2⟩
theorem yk (A:By){S:F8}{q a n v:Nat}(h:q∈S):sf A (wr A (q+a) n v) S a n:=λi e=>by
 refine⟨q,h, ?_⟩;refine aba λg=>e ?_;unfold wr;exact gO _ _ _ _ (by rw[ng];omega)
theorem Lj{C:Cs}(K:Ok C){B:By}{S:F8}{a n:Nat}(d:sf C.A B S a n)(hS:∀q∈S,At C q){p o w:Nat}(L:At C p)(ha:a+n<=64)(ho:o+w<=C.sz (C.cl p))(h:p∈S->a+n<=o\/o+w<=a):jZ B (p+o) w=jZ C.A (p+o) w:=
 vL λi h1 h2=>by
  refine aba λe=> ?_;obtain⟨q,q1,q2,q3⟩:=d i e;have m1:=((hS q q1).br K).2.1;rcases far K L (hS q q1) (a:=a) (n:=n) (o:=o) (w:=w) (by omega) ho (λe=>h (e▸q1))with g|g<;>omega
theorem Tq{C:Cs}(K:Ok C){B:By}{S:F8}{a n:Nat}(d:sf C.A B S a n)(hS:∀q∈S,At C q){p o w:Nat}(L:At C p)(ha:a+n<=64)(ho:o+w<=C.sz (C.cl p))(h:p∈S->a+n<=o\/o+w<=a):rd B (p+o) w=rd C.A (p+o) w:=by
 unfold rd;rw[Lj K d hS L ha ho h]
theorem yY{C:Cs}(K:Ok C){B:By}{S:F8}{a n:Nat}(d:sf C.A B S a n)(hS:∀q∈S,At C q)(ha:a+n<=12){p:Nat}(L:At C p)(I:gU C p):Kept C B p:=by
 have n1:=(L.br K).2.1;have hf:=I.fits;have r:=λ(o w:Nat) (h1:12<=o) (h2:o+w<=C.sz (C.cl p))=>Tq K d hS L (by omega) h2 (λ_=> .inl (by omega));have e1:kl B p=kl C.A p:=r 44 1 (by omega) (by omega);have e2:vl B p=vl C.A p:=r 48 4 (by omega) (by omega);refine⟨e1,e2, ?_,λJ=>⟨?_, ?_, ?_, ?_⟩⟩
 ·unfold aO
  rw[e1];exact Lj K d hS L (by omega) (by omega) (λ_=> .inl (by omega))
 ·rw[cT,e1];exact J.k0
 ·rw[cT,e1,e2];exact J.fits
 ·rw[cT,r 16 8 (by omega) (by omega)];exact J.exp
 rw[cT,r 24 8 (by omega) (by omega)];exact J.tch
theorem Zf (A:By)(c:F8)(j:Nat)(hj:j<c.length):sf A (qk A c j) c 0 4:=by
 rcases j with _|j
 ·exact sf.refl _ _ _ _
 rw[nS,mP (by omega)];exact yk A (a:=0) (abe (by omega))
theorem UN (A:By)(c:F8)(j:Nat)(hj:j<c.length):sf A (qw A c j c[j]) c 0 4:=
 (Zf A c j hj).trans (yk _ (a:=0) (abe hj))
theorem Kj{C:Cs}(K:Ok C){W:Tb}(O:dC C W){x:Bool×Nat}(hx:GK W x){c:F8}(hc:W.ch x=c){j p:Nat}(hj:j<c.length)(hp:c[j]=p):
  dC (C.wA (qw C.A c j p)) {W.db x (c.eraseIdx j)with n:=W.n-1}/\sf C.A (qw C.A c j p) W.all 0 4:=by
 subst hp;have sub:∀q∈c,q∈W.all:=λq hq=>Tb.hU (x:=x) (by rw[hc];exact hq);have d:=UN C.A c j hj;have dW:sf C.A (qw C.A c j c[j]) W.all 0 4:=d.mono sub;have at_:∀q∈W.all,At C q:=λq hq=>(O.lv q hq).toAt;have kp:∀q∈W.all,Kept C (qw C.A c j c[j]) q:=λq hq=>yY K dW at_ (by omega) (at_ q hq) (O.it q hq);have li:=O.li x;have nd:=(W.pA x).nodup O.nd;rw[hc]at li nd;have es:∀q∈c.eraseIdx j,q∈c:=λq hq=>List.mem_of_mem_eraseIdx hq;refine⟨CX O hx hc (p:=c[j]) ?_ (nd.sublist (List.eraseIdx_sublist c j)) (λq hq=> .inl (es q hq)) ?_ (λq hq g=> ?_) (λq hq=>O.lv q (sub q (es q hq))) kp (λq hq=>(kp q (sub q (es q hq))).it (O.it q (sub q (es q hq))))
  (λq hq=>by rw[(kp q (sub q (es q hq))).key];exact O.bu x q (by rw[hc];exact es q hq)) (λ_ h r hr e=> ?_),dW⟩
 ·have h1:=vC O x
  rw[hc]at h1;have h2:=aic hj;omega
 ·refine RY λk hk=> ?_
  have hlen:=aic hj;have lv:∀i (h:i<c.length),Live C c[i]:=λi h=>O.lv _ (sub _ (abe h));have inj:∀i k (h:i<c.length) (g:k<c.length),i≠k->c[i]≠c[k]:=λi k h g e h2=>e ((alc nd).1 h2);have K2:=K.wA (qk C.A c j);have rd2:∀i (h:i<c.length),i≠j->rd (qw C.A c j c[j]) c[i] 4=rd (qk C.A c j) c[i] 4:=λi h e=>uB K2 ((lv i h).wA _) ((lv j hj).wA _) (inj i j h hj e) 0;have rd1:∀i (h:i<c.length),i+1≠j->rd (qk C.A c j) c[i] 4=nO c[i+1]?:=λi h e=>by
   rcases j with _|j
   ·exact KC li h
   rw[nS,mP (by omega),uB K (lv i h) (lv j (by omega)) (inj i j h (by omega) (by omega))];exact KC li h
  have rd0:∀i (h:i<c.length),i+1=j->rd (qk C.A c j) c[i] 4=nO c[i+2]?:=λi h e=>by
   subst e;rw[nS,mP (by omega),ail];refine Bi _ _ _ (pK K λq hq=> ?_);exact O.lv q (sub q (List.mem_of_getElem? hq))
  rw[List.getElem_eraseIdx];split
  ·next h=>
   have tI:k<c.length:=by omega
   rw[rd2 k tI (by omega)];by_cases e:k+1=j
   ·rw[rd0 k tI e,acP (by omega)]
   rw[rd1 k tI e,List.getElem?_eraseIdx_of_lt (by omega)]
  next h=>
  have tI:k+1<c.length:=by omega
  rw[rd2 (k+1) tI (by omega),rd1 (k+1) tI (by omega),acP (by omega)]
 ·have:=Tq K d (λq hq=>at_ q (sub q hq)) (at_ q hq) (o:=0) (w:=4) (by omega) (by have:=((at_ q hq).br K).2.1;omega) (λh=>absurd h g)
  exact this
 exact absurd (sub _ (abe hj)) h
def Tb.nn (W:Tb):Tb:={W with n:=W.all.length}
def Tb.emp (W:Tb):Tb:={W.db (true,W.mv) []with mv:=W.mv+1}
theorem Tb.agE (W:Tb):W.emp.nb=W.nb:=rfl
theorem Tb.Tk (W:Tb):W.emp.ob=W.ob.set W.mv []:=rfl
theorem Tj{C:Cs}{W:Tb}(O:dC C W)(hm:W.mv<W.ob.length):dC C W.emp.nn/\W.all.Perm (W.ch (true,W.mv)++W.emp.all)/\
  ∀q∈W.ch (true,W.mv),W.emp.bk (cD (aO C.A q))=(false,cD (aO C.A q) % W.nb.length):=by
 have hx:GK W (true,W.mv):=hm;obtain⟨r,p1,p2⟩:=Tb.o0 hx;have pe:W.emp.all.Perm r:=by
  have:(W.db (true,W.mv) []).all.Perm r:=by simpa using p2 []
  exact this
 have rY:W.emp.all=(W.db (true,W.mv) []).all:=rfl;have O1:=CX O hx rfl (c':= []) (A:=C.A) (n':=W.emp.all.length) (p:=0) (by
   have h1:=O.n;rw[p1.length_eq,aa9]at h1;rw[pe.length_eq,List.length_nil];omega) List.nodup_nil (λ_ h=>by cases h) trivial (λ_ _ _=>rfl) (λ_ h=>by cases h) (λq _=>Kept.refl C q) (λ_ h=>by cases h) (λ_ h=>by cases h) (λh=>by cases h)
 have bkx:∀h,W.emp.bk h=if W.mv=h % W.ob.length then(false,h % W.nb.length)else W.bk h:=λh=>by
  unfold Tb.bk;rw[Tb.agE,Tb.Tk,aa8,show W.emp.mv=W.mv+1 from rfl];split
  ·next g=>rw[if_neg (by omega),if_pos ⟨g.1,by omega⟩]
  next g=>
  split
  ·rfl
  next e=>rw[if_neg (by omega)]
 have chx:∀z,W.emp.ch z=(W.db (true,W.mv) []).ch z:=λ_=>rfl;have ol:W.ob.length<=1048576:=by
  rcases O.po with h|⟨m,hm,e⟩
  ·rw[h];decide
  exact(sn e hm).2
 have obl:W.emp.nn.ob.length=W.ob.length:=by show(W.ob.set W.mv []).length=_;rw[aa8]
 have fM:W.st=2:=by
  rcases O.st with h|h
  ·rw[h.2]at hm;cases hm
  exact h.1
 have old:∀h i,W.bk h=(true,i)->h % W.ob.length=i:=λh i e=>by
  unfold Tb.bk at e;split at e
  ·cases e;rfl
  cases e
 refine⟨⟨O1.pw,O1.po, .inr ⟨fM,by rw[obl];omega,by rw[obl];exact hm⟩,O1.mp,O1.sz,O1.Qc,O1.sm,ahO hm ol,rfl,O1.nd,O1.li,O1.lv,O1.it,λz q hq=> ?_,O1.kd⟩,p1.trans (abd.append_left _ pe.symm),λq hq=> ?_⟩
 ·change W.emp.bk (cD (aO C.A q))=z
  rw[bkx];have hq':q∈(W.db (true,W.mv) []).ch z:=hq;rw[Tb.Tw hx]at hq';split at hq'
  ·cases hq'
  next e=>
  have hb:=O.bu z q hq';split
  ·next g=>
   refine absurd ?_ e;rw[<-hb];unfold Tb.bk;rw[if_pos ⟨by omega,by omega⟩,g]
  exact hb
 rw[bkx,old _ _ (O.bu _ q hq),if_pos rfl]
structure Hand (C:Cs)(W:Tb)(r:F8):Prop where
 nd:r.Nodup
 li:GW C.A r
 lv:∀q∈r,Live C q
 it:∀q∈r,gU C q
 no:∀q∈r,q∉W.all
 kd:∀q∈r,∀s∈W.all,aO C.A s≠aO C.A q
 kr:∀q∈r,∀s∈r,aO C.A q=aO C.A s->q=s
theorem aad{C:Cs}{W:Tb}(O:dC C W)(hm:W.mv<W.ob.length):Hand C W.emp (W.ch (true,W.mv)):=by
 obtain⟨_,p,_⟩:=Tj O hm;have nd:=ac9.1 (p.nodup_iff.1 O.nd);have sub:∀q∈W.ch (true,W.mv),q∈W.all:=λq hq=>Tb.hU hq;have sub2:∀q∈W.emp.all,q∈W.all:=λq hq=>p.mem_iff.2 (ahT _ hq);exact⟨nd.1,O.li _,λq hq=>O.lv q (sub q hq),λq hq=>O.it q (sub q hq),λq hq g=>nd.2.2 q hq q g rfl,
  λq hq s hs e=>nd.2.2 q hq s hs (O.kd s (sub2 s hs) q (sub q hq) e).symm,λq hq s hs e=>O.kd q (sub q hq) s (sub s hs) e⟩
def Tb.on (W:Tb)(C:Cs)(p:Nat):Tb:=W.db (W.bk (cD (aO C.A p))) (p::W.ch (W.bk (cD (aO C.A p))))
def DO (W:Tb)(C:Cs)(p:Nat):By:=wr C.A p 4 (nO (W.ch (W.bk (cD (aO C.A p)))).head?)
theorem aj2{C:Cs}(K:Ok C){W:Tb}(O:dC C W.nn){p:Nat}{r:F8}(H:Hand C W (p::r)):
  dC (C.wA (DO W C p)) (W.on C p).nn/\Hand (C.wA (DO W C p)) (W.on C p) r/\(W.on C p).all.Perm (p::W.all)/\sf C.A (DO W C p) [p] 0 4:=by
 have L:=H.lv p (by simp);have I:=H.it p (by simp);have P:=C6 K O L I (H.no p (by simp)) (H.kd p (by simp)) (x:=W.bk (cD (aO C.A p))) rfl;have hx:GK W (W.bk (cD (aO C.A p))):=sY O (cD (aO C.A p));obtain⟨r1,p1,p2⟩:=Tb.o0 hx;have pa:(W.on C p).all.Perm (p::W.all):=(p2 _).trans (abd.cons p p1.symm);have ne:(W.on C p).nn={W.nn.db (W.bk (cD (aO C.A p))) (p::W.ch (W.bk (cD (aO C.A p))))with n:=W.nn.n+1}:=by
  have:(W.on C p).all.length=W.all.length+1:=by rw[pa.length_eq];rfl
  unfold Tb.nn;rw[this];unfold Tb.on;rcases W.bk (cD (aO C.A p))with⟨_|_,i⟩<;>rfl
 have d:sf C.A (DO W C p) [p] 0 4:=yk C.A (q:=p) (a:=0) (by simp);have nd:=abg.1 H.nd;have kp:∀q∈r,Kept C (DO W C p) q:=λq hq=>nW K (H.lv q (by simp[hq])) L (H.it q (by simp[hq])) _;have kw:∀q∈W.all,Kept C (DO W C p) q:=λq hq=>nW K (O.lv q hq) L (O.it q hq) _;have kpp:Kept C (DO W C p) p:=nW K L L I _;refine⟨by rw[ne];exact P,⟨nd.2,rC (λq hq=>uB K (H.lv q (by simp[hq])) L (λe=>nd.1 (e▸hq)) _) H.li.2,λq hq=>(H.lv q (by simp[hq])).wA _,λq hq=>(kp q hq).it (H.it q (by simp[hq])),λq hq g=> ?_,λq hq s hs e=> ?_,λq hq s hs e=> ?_⟩,pa,d⟩
 ·rcases abh.1 (pa.mem_iff.1 g)with h|h
  ·exact nd.1 (h▸hq)
  exact H.no q (by simp[hq]) h
 ·change aO (DO W C p) s=aO (DO W C p) q at e
  rw[(kp q hq).key]at e;rcases abh.1 (pa.mem_iff.1 hs)with h|h
  ·subst h
   rw[kpp.key]at e;have:=H.kr s (by simp) q (by simp[hq]) e;exact nd.1 (this▸hq)
  rw[(kw s h).key]at e;exact H.kd q (by simp[hq]) s h e
 change aO (DO W C p) q=aO (DO W C p) s at e;rw[(kp q hq).key,(kp s hs).key]at e;exact H.kr q (by simp[hq]) s (by simp[hs]) e
structure sy (W V:Tb):Prop where
 n:V.n=W.n
 st:V.st=W.st
 size:V.size=W.size
 aH:V.aH=W.aH
 nb:V.nb.length=W.nb.length
 ob:V.ob.length=W.ob.length
theorem sy.on{C:Cs}{W V:Tb}(h:sy W V)(p:Nat):sy W (V.on C p):=by
 unfold Tb.on;rcases V.bk (cD (aO C.A p))with⟨_|_,i⟩
 ·exact⟨h.n,h.st,h.size,h.aH,by rw[<-h.nb];exact aa8,h.ob⟩
 exact⟨h.n,h.st,h.size,h.aH,h.nb,by rw[<-h.ob];exact aa8⟩
theorem abL (C:Cs)(W:Tb)(p:Nat):(W.on C p).mv=W.mv:=by
 unfold Tb.on;rcases W.bk (cD (aO C.A p))with⟨_|_,i⟩<;>rfl
structure XY (C:Cs)(W:Tb)(A:By)(V:Tb)(r:F8)(k:Nat):Prop where
 o:dC (C.wA A) V.nn
 h:Hand (C.wA A) V r
 p:(r++V.all).Perm W.all
 d:sf C.A A W.all 0 4
 s:sy W V
 mv:V.mv=W.mv+1
 k:k+r.length<=W.n
structure adL (C:Cs)(W:Tb)(A:By)(V:Tb):Prop where
 o:dC (C.wA A) V
 p:V.all.Perm W.all
 d:sf C.A A W.all 0 4
 s:sy W V
 mv:V.mv=W.mv+1
theorem XY.start{C:Cs}{W:Tb}(O:dC C W)(hm:W.mv<W.ob.length):XY C W C.A W.emp (W.ch (true,W.mv)) 0:=by
 obtain⟨h1,h2,_⟩:=Tj O hm;exact⟨h1,aad O hm,h2.symm,sf.refl _ _ _ _,⟨rfl,rfl,rfl,rfl,rfl,aa8⟩,rfl,by have:=vC O (true,W.mv);omega⟩
theorem XY.step{C:Cs}(K:Ok C){W:Tb}{A:By}{V:Tb}{p:Nat}{r:F8}{k:Nat}(I:XY C W A V (p::r) k):XY C W (DO V (C.wA A) p) (V.on (C.wA A) p) r (k+1):=by
 obtain⟨h1,h2,h3,h4⟩:=aj2 (K.wA A) I.o I.h;have hp:p∈W.all:=I.p.mem_iff.1 (by simp);refine⟨h1,h2, ?_,I.d.trans (h4.mono λq hq=>by rw[acQ]at hq;exact hq▸hp),I.s.on p,by rw[abL];exact I.mv,by have:=I.k;simp at this;omega⟩;refine(abd.append_left r h3).trans (abd.trans ?_ I.p);exact List.perm_middle
theorem XY.done{C:Cs}{W:Tb}(O:dC C W){A:By}{V:Tb}{k:Nat}(I:XY C W A V [] k):adL C W A V:=by
 have e:V.nn=V:=by
  unfold Tb.nn;have h1:=I.p.length_eq;simp only[List.nil_append]at h1;rw[h1,<-O.n,<-I.s.n]
 have o:=I.o;rw[e]at o;exact⟨o,by simpa using I.p,I.d,I.s,I.mv⟩
theorem aax (b:Nat)(W:Tb)(nk ok:Nat): [DC b,DE DD W.aH,DE DD W.n,DE DD W.size, .slice (some ⟨nk,0,none⟩) W.nb.length W.nb.length, .slice (some ⟨ok,0,none⟩) W.ob.length W.ob.length,DE DD ((W.mv:Int)+1),DE DD W.st]=gV b W.emp ⟨nk,some ok⟩:=by
 unfold gV W9;rw[Tb.Tk,aa8];rfl
theorem Un (t b:Nat)(C:Cs)(K:Ok C)(W:Tb)(y:pW)(O:dC C W)(hy:y.ok=none->W.ob= [])(hm:W.mv<W.ob.length):
  aK aaY 135 [DC t,DE DD W.mv] (λ_=>True) (Cl b C::np t b W y)
   (λv H=>v= .tuple #[]/\∃A V,H=Cl b (C.wA A)::np t b V y/\adL C W A V):=by
 obtain⟨ok,lS⟩:∃ok,y.ok=some ok:=by
  rcases h:y.ok with _|ok
  ·rw[hy h]at hm;cases hm
  exact⟨ok,rfl⟩
 rcases y with⟨nk,_⟩
 dsimp only at lS;subst lS;have hn:=BY K O;have mvb:=O.mv;have st:=XY.start O hm;have ho:dw C (W.ch (true,W.mv)).head?:=λq hq=>O.lv q (Tb.hU (acY hq));have eO:(aV (aL W.ob))[W.mv]?=some (DE amo (nO (W.ch (true,W.mv)).head?)):=qT hm;change aK _ _ _ _ [Cl b C,ag t 154 [DC b,DE DD W.aH,DE DD W.n,DE DD W.size, .slice (some ⟨nk,0,none⟩) W.nb.length W.nb.length, .slice (some ⟨ok,0,none⟩) W.ob.length W.ob.length,DE DD W.mv,DE DD W.st],ag nk 149 (aV (aL W.nb)),ag ok 149 (aV (aL W.ob))] _;refine af func135 rfl ntmps135 rfl ?_;intro F _;refine cu ?_;refine zl Aq (mE t b C W ⟨nk,some ok⟩ K (W.ch (true,W.mv)).head? ho) .nil (λ_ le au=>⟨au.1,au.2.1⟩) ?_;refine cu ?_;refine Lp (oS qG ?_ (i:=W.mv) (hi:=by rw[mu,nY];exact hm));rw[show(aV (aL W.ob)).set W.mv (DE amo 0)=aV (aL (W.ob.set W.mv []))from nX W.ob W.mv []];refine kT ?_;refine Hh (H':= [Cl b C,ag t 154 [DC b,DE DD W.aH,DE DD W.n,DE DD W.size, .slice (some ⟨nk,0,none⟩) W.nb.length W.nb.length, .slice (some ⟨ok,0,none⟩) W.ob.length W.ob.length,DE DD ((W.mv:Int)+1),DE DD W.st],ag nk 149 (aV (aL W.nb)),ag ok 149 (aV (aL (W.ob.set W.mv [])))]) ?_;rw[aax b W nk ok];refine Lo (ι:=By×Tb×F8×Nat) (FZ [4,3,29,24]) (λs=>XY C W s.1 s.2.1 s.2.2.1 s.2.2.2) (λs=> [(4,DE DB (hO (C.wA s.1) s.2.2.1.head?)),(5,DE DD s.2.2.2)]) (λs=> [Cl b (C.wA s.1),ag t 154 (gV b s.2.1 ⟨nk,some ok⟩),ag nk 149 (aV (aL s.2.1.nb)),ag ok 149 (aV (aL s.2.1.ob))]) (λs=>s.2.2.1.length) ((C.A,W.emp,W.ch (true,W.mv),0)) st ?_;rintro⟨A,V,r,k⟩ hI
 try dsimp only at hI⊢
 have K2:=K.wA A;have hk:=hI.k;have hsn:=hI.s.n;rcases r with _|⟨p,r⟩
 ·unfold gV
  refine ba ?_;refine zf 31 ?_ (e:=by rfl);refine gQ ?_;refine j5 [Cl b (C.wA A),ag t 154 (gV b V ⟨nk,some ok⟩),ag nk 149 (aV (aL V.nb)),ag ok 149 (aV (aL V.ob))] results135 ?_;exact⟨rfl,A,V,rfl,hI.done O⟩
 have L:=hI.h.lv p (by simp);have I:=hI.h.it p (by simp);obtain⟨m1,m2,m3,m4,m5,m6⟩:=bU K2 L.toAt;have hx:=sY hI.o (cD (aO A p));have lvr:dw (C.wA A) r.head?:=λq hq=>hI.h.lv q (aa6 _ (acY hq));have lvc:dw (C.wA A) (V.ch (V.bk (cD (aO A p)))).head?:=λq hq=>hI.o.lv q (Tb.hU (T:=V) (acY hq));have lk:(aO A p).length=kl A p:=cI _ _ _;obtain⟨z1,z2,z3,_⟩:=L.toAt.br K2;have lf:=I.fits;change 58+kl A p+vl A p<=_ at lf;have f1:=K2.toFix.p1;have fM:=hI.step K;have kQ:V.on (C.wA A) p=V.db (V.bk (cD (aO A p))) (p::V.ch (V.bk (cD (aO A p)))):=rfl;have hoA:DO V (C.wA A) p=wr A p 4 (nO (V.ch (V.bk (cD (aO A p)))).head?):=rfl;have hbk:Tb.bk {V with n:=V.all.length} (cD (aO A p))=V.bk (cD (aO A p)):=rfl;rw[kQ,hoA]at fM;simp only[List.length_cons]at hk;rw[List.head?_cons,cj];unfold gV;refine ba ?_;refine zt 31 ?_ (e:=by exact by rw[Ar];rfl);refine cY ?_;refine eJ ?_;refine bL ?_;refine zl Aq (jX t b (C.wA A) V ⟨nk,some ok⟩ K2 p r.head? L I.k0 lvr hI.h.li.1) .nil (λ_ le au=>⟨au.1,au.2.1⟩) ?_;refine bL ?_;refine Lp (oC Aq rfl rfl (ri t b (C.wA A) V ⟨nk,some ok⟩ K2 p L I) .nil (λ_ le au=>⟨au.1,au.2.1⟩) ?_);rintro v H' ⟨kb,rfl,rfl⟩;refine bS ?_;refine zl Aq (mF t b (C.wA A) V ⟨nk,some ok⟩ V.all.length hI.o (λh=>by cases h) (some ⟨kb,0,none⟩) (kl A p) (kl A p) (aO A p) lk.symm (by omega)) .nil (λ_ le au=>⟨au.2.2.1,bK au.1⟩) ?_;refine aw ?_;replace hx:GK V (V.bk (cD (aO A p))):=hx
 clear kQ hoA hbk
 generalize V.bk (cD (aO A p))=x at hx lvc fM⊢;refine zl Aq (yF t b (C.wA A) K2 V ⟨nk,some ok⟩ (λh=>by cases h) x hx p L I.k0 lvc) (.cons (.there .here) (.cons (.there .here) (.cons (.there .here) (.cons (.there .here) .nil)))) DA ?_;refine bO ?_;refine aB ?_;refine Ro ((wr A p 4 (nO (V.ch x).head?),V.db x (p::V.ch x),r,k+1)) (fM) ((by simp))
def Tb.fin (W:Tb):Tb:={W with ob:= [],st:=0}
theorem agB{C:Cs}{W:Tb}(O:dC C W)(hm:W.ob.length<=W.mv):dC C W.fin/\W.fin.all.Perm W.all:=by
 obtain⟨m,Yg,ep⟩:=O.pw;obtain⟨p1,_⟩:=sn ep Yg;have no:∀i,W.ch (true,i)= []:=λi=>by
  refine aiH.2 λq hq=> ?_;have h:=O.bu _ q hq;unfold Tb.bk at h;split at h
  ·next g=>
   have:=aia (cD (aO C.A q)) g.1;omega
  cases h
 have obf:W.ob.flatten= []:=by
  refine aiH.2 λq hq=> ?_;obtain⟨l,h1,h2⟩:=ais.1 hq;obtain⟨i,hi,rfl⟩:=acS h1;have:=no i;unfold Tb.ch at this;rw[if_pos rfl,aaZ,aa0 hi]at this;change W.ob[i]= []at this;rw[this]at h2;cases h2
 have ea:W.fin.all=W.all:=by unfold Tb.fin Tb.all;rw[obf];rfl
 have chx:∀z,W.fin.ch z=W.ch z:=λz=>by
  rcases z with⟨_|_,i⟩
  ·rfl
  rw[no i];rfl
 refine⟨⟨O.pw, .inl rfl, .inl ⟨rfl,rfl⟩,O.mp,O.sz,O.Qc,O.sm,O.mv,by rw[ea];exact O.n,by rw[ea];exact O.nd,λz=>by rw[chx];exact O.li z,by rw[ea];exact O.lv,by rw[ea];exact O.it,λz q hq=> ?_,by rw[ea];exact O.kd⟩,by rw[ea]⟩;rw[chx]at hq;have h:=O.bu z q hq;rw[<-h];unfold Tb.bk Tb.fin;rw[if_neg (by simp)];split
 ·next g=>
  have:=aia (cD (aO C.A q)) g.1;omega
 rfl
def Tb.Jw (W:Tb)(s:Nat):Tb:={W with size:=s,nb:=aa2 s [],ob:=W.nb,mv:=0,st:=2}
theorem Wt (s:Nat):(aa2 s ([]:F8)).flatten= []:=by
 rw[List.flatten_eq_nil_iff];intro l h;exact List.eq_of_mem_replicate h
theorem Tz{C:Cs}{W:Tb}(O:dC C W)(h0:W.st=0){s:Nat}(hs:∃m,m<=20/\s=2^m)(h16:16<=s)(hm:s<=W.aH):dC C (W.Jw s)/\(W.Jw s).all=W.all:=by
 obtain⟨m,Yg,ep⟩:=O.pw;obtain⟨p1,p2⟩:=sn ep Yg;have ob0:W.ob= []:=by
  rcases O.st with h|h
  ·exact h.2
  omega
 have ea:(W.Jw s).all=W.all:=by
  unfold Tb.Jw Tb.all;rw[ob0];show(aa2 s []).flatten++W.nb.flatten=_;rw[Wt];simp
 have chf:∀i,(W.Jw s).ch (false,i)= []:=λi=>by
  show(aa2 s []).getD i []= [];rw[aaZ];by_cases h:i<s
  ·rw[ac1,if_pos h];rfl
  rw[ac1,if_neg h];rfl
 refine⟨⟨by obtain⟨m,h1,h2⟩:=hs;exact⟨m,h1,by show(aa2 s _).length=_;rw[ahl];exact h2⟩, .inr O.pw, .inr ⟨rfl,by show 0<W.nb.length;omega,abn _⟩,O.mp,(ahl ..).symm,h16,hm,abn _,by rw[ea];exact O.n,by rw[ea];exact O.nd,λz=> ?_,by rw[ea];exact O.lv,by rw[ea];exact O.it,λz q hq=> ?_,by rw[ea];exact O.kd⟩,ea⟩
 ·rcases z with⟨_|_,i⟩
  ·rw[chf];trivial
  exact O.li (false,i)
 rcases z with⟨_|_,i⟩
 ·rw[chf]at hq;cases hq
 have h:=O.bu (false,i) q hq;unfold Tb.bk at h;rw[if_neg (by rw[ob0];simp)]at h;show Tb.bk (W.Jw s) _=_;unfold Tb.bk;rw[if_pos ⟨by show 0<W.nb.length;omega,abn _⟩];have:=(Prod.mk.inj h).2;show(true,cD (aO C.A q) % W.nb.length)=_;rw[this]
structure x0 (C:Cs)(W:Tb)(k:Nat)(A:By)(V:Tb):Prop where
 o:dC (C.wA A) V
 p:V.all.Perm W.all
 d:sf C.A A W.all 0 4
 s:sy W V
 mv:V.mv=W.mv+k
theorem x0.zero{C:Cs}{W:Tb}(O:dC C W):x0 C W 0 C.A W:=⟨O,abd.refl _,sf.refl _ _ _ _,⟨rfl,rfl,rfl,rfl,rfl,rfl⟩,rfl⟩
theorem x0.next{C:Cs}{W:Tb}{k:Nat}{A:By}{V:Tb}(I:x0 C W k A V){B:By}{U:Tb}(M:adL (C.wA A) V B U):x0 C W (k+1) B U:=
 ⟨M.o,M.p.trans I.p,I.d.trans (M.d.mono λq hq=>I.p.mem_iff.1 hq),⟨M.s.n.trans I.s.n,M.s.st.trans I.s.st,M.s.size.trans I.s.size,M.s.aH.trans I.s.aH,M.s.nb.trans I.s.nb,M.s.ob.trans I.s.ob⟩,by rw[M.mv,I.mv];omega⟩
structure Stp (C:Cs)(W:Tb)(k:Nat)(A:By)(V:Tb):Prop where
 o:dC (C.wA A) V
 p:V.all.Perm W.all
 d:sf C.A A W.all 0 4
 n:V.n=W.n
 size:V.size=W.size
 aH:V.aH=W.aH
 on:W.mv+k<W.ob.length->V.st=2/\V.mv=W.mv+k/\V.ob.length=W.ob.length
 off:W.ob.length<=W.mv+k->V.st=0
theorem x0.go{C:Cs}{W:Tb}{k:Nat}{A:By}{V:Tb}(I:x0 C W k A V)(h2:W.st=2)(h:W.mv+k<W.ob.length):Stp C W k A V:=
 ⟨I.o,I.p,I.d,I.s.n,I.s.size,I.s.aH,λ_=>⟨by rw[I.s.st,h2],I.mv,I.s.ob⟩,λg=>by omega⟩
theorem x0.fin{C:Cs}{W:Tb}{k j:Nat}{A:By}{V:Tb}(I:x0 C W k A V)(h:W.mv+k=W.ob.length)(hj:k<=j):Stp C W j A V.fin:=by
 obtain⟨f1,f2⟩:=agB I.o (by rw[I.s.ob,I.mv];omega);exact⟨f1,f2.trans I.p,I.d,I.s.n,I.s.size,I.s.aH,λg=>by omega,λ_=>rfl⟩
theorem MD (t b:Nat)(C:Cs)(K:Ok C)(W:Tb)(y:pW)(h0:W.st=0)(k:Nat):
  aK aaY 88 [DC t,DE DD k] (In (ag t 154 (gV b W y))) []
   (λv H=>v=DE DD 0/\H= []):=by
 unfold gV;rw[h0];refine af func88 rfl ntmps88 rfl ?_;intro F ht;refine cC ?_;refine cC ?_;refine sI ?_;refine Rt [] results88 ?_;exact⟨rfl,rfl⟩
theorem MB (t b:Nat)(C:Cs)(K:Ok C)(W:Tb)(nk ok:Nat)(O:dC C W)(h2:W.st=2)(hm:W.mv<W.ob.length)(k:Nat)(hk:k<=1099511627776):
  aK aaY 88 [DC t,DE DD k] (λ_=>True) (Cl b C::np t b W ⟨nk,some ok⟩)
   (λv H=>v=DE DD (min k (W.ob.length-W.mv):Nat)/\∃A V o',H=Cl b (C.wA A)::np t b V ⟨nk,o'⟩/\(o'=none->V.ob= [])/\Stp C W k A V):=by
 have ol:W.ob.length<=1048576:=by
  rcases O.po with h|⟨m,hm,e⟩
  ·rw[h];decide
  exact(sn e hm).2
 change aK _ _ _ _ [Cl b C,ag t 154 [DC b,DE DD W.aH,DE DD W.n,DE DD W.size, .slice (some ⟨nk,0,none⟩) W.nb.length W.nb.length, .slice (some ⟨ok,0,none⟩) W.ob.length W.ob.length,DE DD W.mv,DE DD W.st],ag nk 149 (aV (aL W.nb)),ag ok 149 (aV (aL W.ob))] _;refine af func88 rfl ntmps88 rfl ?_;intro F _;refine cC ?_;refine bA ?_;refine cM ?_;refine bL ?_;refine eJ ?_;refine cu ?_;refine Lo (ι:=Nat×By×Tb) (FZ [5,1,27,23]) (λs=>x0 C W s.1 s.2.1 s.2.2/\s.1<=k/\W.mv+s.1<=W.ob.length) (λs=> [(5,DE DD s.1)]) (λs=> [Cl b (C.wA s.2.1),ag t 154 (gV b s.2.2 ⟨nk,some ok⟩),ag nk 149 (aV (aL s.2.2.nb)),ag ok 149 (aV (aL s.2.2.ob))]) (λs=>k-s.1) ((0,C.A,W)) ⟨x0.zero O,abn _,Nat.le_of_lt hm⟩ ?_;rintro⟨d,A,V⟩ hI
 try dsimp only at hI⊢
 have K2:=K.wA A;have hmv:=hI.1.mv;have hob:=hI.1.s.ob;have hd:=hI.2;unfold gV;refine aw ?_;refine av ?_;refine iL 14 mix (.cons (.there .here) .nil) λF1 jq bV aI=> ?_;obtain⟨q1,_⟩:=bV;by_cases hg:d<k
 ·refine Ti Mv ?_
  refine bj ?_;refine zt 30 ?_;refine bD ?_;refine gG aI ?_;refine bn ?_;by_cases hl:W.mv+d<W.ob.length
  ·refine eJ ?_
   refine Hh (H':= [Cl b (C.wA A),ag t 154 (gV b V ⟨nk,some ok⟩),ag nk 149 (aV (aL V.nb)),ag ok 149 (aV (aL V.ob))]) ?_;unfold gV;refine bD ?_;refine Lp (oC Aq rfl rfl (Un t b (C.wA A) K2 V ⟨nk,some ok⟩ hI.1.o (λh=>by cases h) (by omega)) (.cons .here (.cons .here (.cons .here (.cons .here .nil)))) DA ?_);rintro v H' ⟨rfl,B,U,rfl,hM⟩;refine bS ?_;refine bL ?_;refine aB ?_;refine Ro ((d+1,B,U)) (⟨hI.1.next hM,by dsimp only;omega,by dsimp only;omega⟩) ((by dsimp only;omega))
  refine cM ?_;refine bA ?_;refine av ?_;refine iL 9 mix (.cons .here .nil) λF2 zU eP dE=> ?_;obtain⟨q1,_⟩:=eP;refine cu ?_;refine gG dE ?_;refine bn ?_;refine cM ?_;refine cC ?_;refine bO ?_;refine ay (λ_ s=>gB (A:=Ai) (λ_=>trivial) s) ?_;refine Rt [Cl b (C.wA A),ag t 154 (gV b V.fin ⟨nk,none⟩),ag nk 149 (aV (aL V.nb)),Ai] results88 ?_;exact⟨by rw[show min k (W.ob.length-W.mv)=d by omega],A,V.fin,none,rfl,λ_=>rfl,hI.1.fin (by omega) hd.1⟩
 refine Ti Mv ?_;refine bj ?_;refine zf 30 ?_;refine bD ?_;refine gG aI ?_;refine cu ?_;refine av ?_;refine iL 9 mix (.cons .here .nil) λF3 Xg rX fA=> ?_;obtain⟨q1,_⟩:=rX;refine cu ?_;refine gG fA ?_;refine bn ?_;by_cases hl:W.mv+d<W.ob.length
 ·refine eJ ?_
  refine bO ?_;refine Rt [Cl b (C.wA A),ag t 154 (gV b V ⟨nk,some ok⟩),ag nk 149 (aV (aL V.nb)),ag ok 149 (aV (aL V.ob))] results88 ?_;obtain rfl:d=k:=by omega
  exact⟨by rw[show min d (W.ob.length-W.mv)=d by omega],A,V,some ok,rfl,(λh=>by cases h),hI.1.go h2 hl⟩
 refine cM ?_;refine cC ?_;refine bO ?_;refine ay (λ_ s=>gB (A:=Ai) (λ_=>trivial) s) ?_;refine Rt [Cl b (C.wA A),ag t 154 (gV b V.fin ⟨nk,none⟩),ag nk 149 (aV (aL V.nb)),Ai] results88 ?_;exact⟨by rw[show min k (W.ob.length-W.mv)=d by omega],A,V.fin,none,rfl,λ_=>rfl,hI.1.fin (by omega) hd.1⟩
theorem Ba (s:Nat):ij [DE amo 0] (s*1)=aV (aL (aa2 s [])):=by
 rw[qM,Nat.mul_one];unfold aV aL;rw[ac7,ac7];rfl
theorem MC (t b nk mo n s L:Nat)(hs:s<=1048576)(hL:0<L/\L<=1048576):
  aK aaY 88 [DC t,DE DD 0] vz [ag t 154 [DC b,DE DD mo,DE DD n,DE DD s, .slice none 0 0, .slice (some ⟨nk,0,none⟩) L L,DE DD 0,DE DD 1]]
   (λv H=>v=DE DD 0/\∃mk,H= [ag t 154 [DC b,DE DD mo,DE DD n,DE DD s, .slice (some ⟨mk,0,none⟩) s s, .slice (some ⟨nk,0,none⟩) L L,DE DD 0,DE DD 2],ag mk 149 (aV (aL (aa2 s [])))]):=by
 refine af func88 rfl ntmps88 rfl ?_;intro F _;refine cC ?_;refine sI ?_;refine Lp (oM (s) (s) CR λb1=> ?_);rw[Ba];refine fu ?_;refine Lo (ι:=Unit) (FZ [5,1,27,23]) (λu=>True) (λu=> [(5,DE DD 0)]) (λu=> [ag t 154 [DC b,DE DD mo,DE DD n,DE DD s, .slice (some ⟨b1,0,none⟩) s s, .slice (some ⟨nk,0,none⟩) L L,DE DD 0,DE DD 2],ag b1 149 (aV (aL (aa2 s [])))]) (λu=>0) (()) trivial ?_;rintro u hI;refine aw ?_;refine av ?_;refine iL 14 mix (.cons .here .nil) λF1 jq bV aI=> ?_;obtain⟨q1,_⟩:=bV;refine aY ?_;refine zf 30 ?_ (e:=by rfl);refine bD ?_;refine gG aI ?_;refine cu ?_;refine av ?_;refine iL 9 mix (.cons .here .nil) λF2 zU eP dE=> ?_;obtain⟨q1,_⟩:=eP;refine cu ?_;refine gG dE ?_;refine bn ?_;refine eJ ?_;refine bO ?_;refine Rt [ag t 154 [DC b,DE DD mo,DE DD n,DE DD s, .slice (some ⟨b1,0,none⟩) s s, .slice (some ⟨nk,0,none⟩) L L,DE DD 0,DE DD 2],ag b1 149 (aV (aL (aa2 s [])))] results88 ?_;exact⟨rfl,_,rfl⟩
theorem AV (t b:Nat)(C:Cs)(W:Tb)(y:pW)(O:dC C W)(s:Nat)(hs:s<=1048576):
  aK aaY 192 [DC t,DE DD s] vz [ag t 154 (gV b W y),ag y.nk 149 (aV (aL W.nb))]
   (λv H=>v= .tuple #[]/\∃mk,H=np t b (W.Jw s) ⟨mk,some y.nk⟩):=by
 obtain⟨i,hi,ei⟩:=O.pw;have hp:=sn ei hi;unfold gV;refine af func192 rfl ntmps192 rfl ?_;intro F _;refine cC ?_;refine rS ?_;refine Lp (oC Aq rfl rfl (MC t b y.nk W.aH W.n s W.nb.length hs (by omega)) (.cons .here .nil) DA ?_);rintro v H' ⟨rfl,mk,rfl⟩;refine bS ?_;refine aB ?_;refine j5 [ag t 154 [DC b,DE DD W.aH,DE DD W.n,DE DD s, .slice (some ⟨mk,0,none⟩) s s, .slice (some ⟨y.nk,0,none⟩) W.nb.length W.nb.length,DE DD 0,DE DD 2],ag mk 149 (aV (aL (aa2 s []))),ag y.nk 149 (aV (aL W.nb))] results192 ?_;exact⟨rfl,mk,by simp[np,gV,Tb.Jw,W9,oe]⟩
theorem Rv (t b:Nat)(C:Cs)(K:Ok C)(W:Tb)(y:pW)(O:dC C W)(hy:y.ok=none->W.ob= [])(p:Nat)(hp:p∈W.all):
  aK aaY 190 [DC t,DE DB (C.hd p)] (λh=>In (Cl b C) h/\gW (np t b W y) h) []
   (λv H=>v= .bool true/\H= []):=by
 have L:=O.lv p hp;have I:=O.it p hp;have lk:(aO C.A p).length=kl C.A p:=cI _ _ _;have hk:=I.k0;have hf:=I.fits;obtain⟨z1,z2,z3,_⟩:=L.toAt.br K;have f1:=K.toFix.p1;have eg:=get_some O hp rfl;refine af func190 rfl ntmps190 rfl ?_;rintro F ⟨hc,ht⟩;refine bA ?_;refine Lp (oC Aq rfl rfl (ri t b C W y K p L I) .nil (λ_ le _=>⟨In.mono hc le,In.mono ht.1 le⟩) ?_);rintro v H' ⟨kb,rfl,rfl⟩;refine bS ?_;refine ba ?_;refine zl Aq (nI t b C K W y O hy (some ⟨kb,0,none⟩) (kl C.A p) (kl C.A p) (aO C.A p) lk.symm (by omega)) .nil (λ_ le au=>⟨In.mono hc le,bR ht le,bK au.1⟩) ?_;rw[eg,cj];refine bO ?_;refine zt 20 ?_;refine bj ?_;refine zt 23 ?_ (e:=by rfl);refine bL ?_;refine Rt [] results190 ?_;exact⟨by rw[decide_eq_true rfl],rfl⟩
def qz (W:Tb):Prop:=W.st=0/\3*W.size<2*(W.n+1)/\W.size<W.aH
structure acM (C:Cs)(W:Tb)(p:Nat)(A:By)(V:Tb):Prop where
 o:dC (C.wA A) V
 pm:V.all.Perm (p::W.all)
 df:sf C.A A [p] 0 4
 n:V.n=W.n+1
 aH:V.aH=W.aH
 big:qz W->V.size=2*W.size/\V.st=2/\V.mv=0/\V.ob.length=W.size
 same:¬qz W->V.size=W.size/\V.st=W.st/\V.mv=W.mv/\V.ob.length=W.ob.length
theorem ajD{C:Cs}{W:Tb}(O:dC C W)(h:W.size<W.aH):2*W.size<=W.aH/\∃m,m<=20/\2*W.size=2^m:=by
 obtain⟨m,hm,e⟩:=O.pw;obtain⟨M,hM,e2⟩:=O.mp;have e0:=O.sz;have h3:(2:Nat)^m<2^M:=by omega
 have h4:m<M:=(alu (by decide)).1 h3;have h5:(2:Nat)^(m+1)<=2^M:=ahr (by decide) h4;rw[ahD]at h5;exact⟨by omega,m+1,by omega,by rw[ahD];omega⟩
theorem YJ (t b:Nat)(C:Cs)(K:Ok C)(W:Tb)(y:pW)(O:dC C W)(hy:y.ok=none->W.ob= [])(p:Nat)(L:Live C p)(I:gU C p)(hp:p∉W.all)(hkd:∀q∈W.all,aO C.A q≠aO C.A p):
  aK aaY 188 [DC t,DE DB (C.hd p)] (λ_=>True) (Cl b C::np t b W y)
   (λv H=>v=DE DD 0/\∃A V y',H=Cl b (C.wA A)::np t b V y'/\(y'.ok=none->V.ob= [])/\acM C W p A V):=by
 have lk:(aO C.A p).length=kl C.A p:=cI _ _ _;have hk:=I.k0;have hf:=I.fits;obtain⟨z1,z2,z3,_⟩:=L.toAt.br K;have f1:=K.toFix.p1;have eg:W.get C (aO C.A p)=none:=get_none hkd;have hn:=BY K O;have h16:=O.Qc;have Ql:=O.sm;have ake:W.aH<=1048576:=by
  obtain⟨m,hm,e⟩:=O.mp;exact(sn e hm).2
 have tM:∃m,m<=20/\W.size=2^m:=by rw[O.sz];exact O.pw
 have P:=C6 K O L I hp hkd (x:=W.bk (cD (aO C.A p))) rfl;have hx:=sY O (cD (aO C.A p));obtain⟨r1,p1,p2⟩:=Tb.o0 hx;have pa:(W.on C p).all.Perm (p::W.all):=(p2 _).trans (abd.cons p p1.symm);have S:sy W (W.on C p):=sy.on (C:=C) ⟨rfl,rfl,rfl,rfl,rfl,rfl⟩ p;have Sm:(W.on C p).mv=W.mv:=abL C W p;have lO:dw C (W.ch (W.bk (cD (aO C.A p)))).head?:=λq hq=>O.lv q (Tb.hU (acY hq));change dC (C.wA (DO W C p)) {W.on C p with n:=W.n+1}at P;have Qj:y.ok=none->(W.on C p).ob= []:=λh=>abr (by rw[S.ob,hy h];rfl);have d:sf C.A (DO W C p) [p] 0 4:=yk C.A (q:=p) (a:=0) (by simp);have eon:W.on C p=W.db (W.bk (cD (aO C.A p))) (p::W.ch (W.bk (cD (aO C.A p)))):=rfl;have eoA:DO W C p=wr C.A p 4 (nO (W.ch (W.bk (cD (aO C.A p)))).head?):=rfl;generalize hV:W.on C p=V at*;generalize hA:DO W C p=A at*;generalize hxx:W.bk (cD (aO C.A p))=x at*;obtain⟨s1,s2,s3,s4,s5,s6⟩:=S;refine af func188 rfl ntmps188 rfl ?_;intro F _;refine bA ?_;refine Lp (oC Aq rfl rfl (ri t b C W y K p L I) .nil (λ_ le au=>⟨au.1,au.2.1⟩) ?_);rintro v H' ⟨kb,rfl,rfl⟩;refine bS ?_;refine cY ?_;refine cM ?_;refine bA ?_;refine zl Aq (nI t b C K W y O hy (some ⟨kb,0,none⟩) (kl C.A p) (kl C.A p) (aO C.A p) lk.symm (by omega)) .nil (λ_ le au=>⟨au.2.1,au.2.2,bK au.1⟩) ?_;rw[eg];refine pX ?_;refine zl Aq (mF t b C W y W.n O hy (some ⟨kb,0,none⟩) (kl C.A p) (kl C.A p) (aO C.A p) lk.symm (by omega)) .nil (λ_ le au=>⟨au.2.2.1,bK au.1⟩) ?_;rw[hxx];refine aw ?_;refine zl Aq (yF t b C K W y hy x hx p L I.k0 lO) (.cons (.there .here) (.cons (.there .here) (.cons (.there .here) (.cons (.there .here) .nil)))) DA ?_;rw[<-eon,<-eoA];refine Hh (H':= [ag t 154 (gV b V y),ag y.nk 149 (aV (aL V.nb)),oe y.ok 149 (aV (aL V.ob)),Cl b (C.wA A)]) ?_;unfold gV;rw[s1];refine cL ?_;refine av ?_;refine iL 28 mix (.cons .here .nil) λF1 jq bV aI=> ?_;obtain⟨q1,_⟩:=bV;by_cases h0:W.st=0
 ·refine Ti Mv ?_
  refine ba ?_;refine zt 39 ?_;refine gQ ?_;by_cases h1:3*W.size<2*(W.n+1)
  ·refine zt 52 ?_
   refine cu ?_;refine gG aI ?_;refine bn ?_;by_cases h2:W.size<W.aH
   ·have hg:qz W:=⟨h0,h1,h2⟩
    have hdb:=ajD O h2;refine eJ ?_;refine bL ?_;refine az (t:=68) (v':=(DE DD (2*W.size:Nat))) rfl (by(rw[s3];rfl)) ?_;refine Lp (oC Aq rfl rfl (AV t b (C.wA A) {V with n:=W.n+1} y P (2*W.size) (by omega)) (.cons .here (.cons .here .nil)) DA ?_);rintro v H' ⟨rfl,mk,rfl⟩;refine bS ?_;refine ba ?_;obtain⟨B1,B2⟩:=Tz (C:=C.wA A) P (s2.trans h0) (s:=2*W.size) hdb.2 (by omega) (by show 2*W.size<=V.aH;rw[s4];exact hdb.1);refine Rt [Cl b (C.wA A),ag t 154 (gV b (Tb.Jw {V with n:=W.n+1} (2*W.size)) ⟨mk,some y.nk⟩),ag mk 149 (aV (aL (Tb.Jw {V with n:=W.n+1} (2*W.size)).nb)),oe (some y.nk) 149 (aV (aL (Tb.Jw {V with n:=W.n+1} (2*W.size)).ob))] results188 ?_;exact⟨rfl,A,_,⟨mk,some y.nk⟩,rfl,(λh=>by cases h),⟨B1,by rw[B2];exact pa,d,rfl,s4,λ_=>⟨rfl,rfl,rfl,by show V.nb.length=_;rw[s5,O.sz]⟩,λh=>absurd hg h⟩⟩
   have hg:¬qz W:=λh=>h2 h.2.2;refine cM ?_;refine bA ?_;refine Rt [Cl b (C.wA A),ag t 154 (gV b {V with n:=W.n+1} y),ag y.nk 149 (aV (aL V.nb)),oe y.ok 149 (aV (aL V.ob))] results188 ?_;exact⟨rfl,A,{V with n:=W.n+1},y,rfl,Qj,⟨P,pa,d,rfl,s4,λh=>absurd h hg,λ_=>⟨s3,s2,Sm,s6⟩⟩⟩
  have hg:¬qz W:=λh=>h1 h.2.1;refine zf 52 ?_;refine cu ?_;refine gG aI ?_;refine cu ?_;refine Rt [Cl b (C.wA A),ag t 154 (gV b {V with n:=W.n+1} y),ag y.nk 149 (aV (aL V.nb)),oe y.ok 149 (aV (aL V.ob))] results188 ?_;exact⟨rfl,A,{V with n:=W.n+1},y,rfl,Qj,⟨P,pa,d,rfl,s4,λh=>absurd h hg,λ_=>⟨s3,s2,Sm,s6⟩⟩⟩
 have hg:¬qz W:=λh=>h0 h.1;refine bA ?_;refine zf 39 ?_;refine cC ?_;refine bn ?_;refine gG aI ?_;refine cu ?_;refine Rt [Cl b (C.wA A),ag t 154 (gV b {V with n:=W.n+1} y),ag y.nk 149 (aV (aL V.nb)),oe y.ok 149 (aV (aL V.ob))] results188 ?_;exact⟨rfl,A,{V with n:=W.n+1},y,rfl,Qj,⟨P,pa,d,rfl,s4,λh=>absurd h hg,λ_=>⟨s3,s2,Sm,s6⟩⟩⟩
theorem vK (W:Tb)(x:Bool×Nat)(c:F8):sy W (W.db x c)/\(W.db x c).mv=W.mv:=by
 rcases x with⟨_|_,i⟩
 ·exact⟨⟨rfl,rfl,rfl,rfl,aa8,rfl⟩,rfl⟩
 exact⟨⟨rfl,rfl,rfl,rfl,rfl,aa8⟩,rfl⟩
theorem tD:∀{c:F8} {j:Nat} (h:j<c.length),(c[j]::c.eraseIdx j).Perm c
 |_::_,0,_=>abd.refl _
 |a::l,j+1,h=>(abd.swap a _ _).trans (abd.cons a (tD (c:=l) (j:=j) (by simpa using h)))
def jE (W:Tb):Prop:=W.st=0/\16<W.size/\8*(W.n-1)<W.size
structure Ih (C:Cs)(W:Tb)(p:Nat)(A:By)(V:Tb):Prop where
 o:dC (C.wA A) V
 pm:(p::V.all).Perm W.all
 df:sf C.A A W.all 0 4
 n:V.n=W.n-1
 aH:V.aH=W.aH
 big:jE W->V.size=W.size/2/\V.st=2/\V.mv=0/\V.ob.length=W.size
 same:¬jE W->V.size=W.size/\V.st=W.st/\V.mv=W.mv/\V.ob.length=W.ob.length
theorem half{C:Cs}{W:Tb}(O:dC C W)(h:16<W.size):(∃m,m<=20/\W.size/2=2^m)/\16<=W.size/2/\W.size/2<=W.aH:=by
 obtain⟨m,hm,e⟩:=O.pw;have e0:=O.sz;have e1:=O.sm;have h3:(2:Nat)^4<2^m:=by rw[<-e,<-e0];exact h
 have h4:4<m:=(alu (by decide)).1 h3;obtain⟨i,rfl⟩:∃i,m=i+1:=⟨m-1,by omega⟩;rw[ahD]at e;have h5:(2:Nat)^4<=2^i:=ahr (by decide) (by omega);exact⟨⟨i,by omega,by omega⟩,by omega,by omega⟩
theorem Um (t b:Nat)(C:Cs)(K:Ok C)(W:Tb)(y:pW)(O:dC C W)(hy:y.ok=none->W.ob= [])(p:Nat)(hp:p∈W.all):
  aK aaY 130 [DC t,DE DB (C.hd p)] (λ_=>True) (Cl b C::np t b W y)
   (λv H=>v=DE DD 0/\∃A V y',H=Cl b (C.wA A)::np t b V y'/\(y'.ok=none->V.ob= [])/\Ih C W p A V):=by
 have hn:=BY K O;have h16:=O.Qc;have Ql:=O.sm;have ake:W.aH<=1048576:=by
  obtain⟨m,hm,e⟩:=O.mp;exact(sn e hm).2
 have hx:=sY O (cD (aO C.A p));have hpc:=H8 O hp;have hlen:=vC O (W.bk (cD (aO C.A p)));generalize hxx:W.bk (cD (aO C.A p))=x at*;obtain⟨c,hc⟩:∃c,W.ch x=c:=⟨_,rfl⟩;rw[hc]at hpc hlen;obtain⟨j,hj,ej⟩:=acS hpc;obtain⟨P,d⟩:=Kj K O hx hc hj ej;obtain⟨r1,p1,p2⟩:=Tb.o0 hx;rw[hc]at p1;have pa:(p::(W.db x (c.eraseIdx j)).all).Perm W.all:=by
  refine(abd.cons p (p2 _)).trans (abd.trans ?_ p1.symm);have:=abd.append_right r1 (tD hj);rw[ej]at this;exact this
 obtain⟨⟨s1,s2,s3,s4,s5,s6⟩,Sm⟩:=vK W x (c.eraseIdx j);have hn1:1<=W.n:=by omega
 have pull:=EM t b C K W y O hy x hx c hc j hj p ej;generalize hV:W.db x (c.eraseIdx j)=V at*;generalize hA:qw C.A c j p=A at*;have Qj:y.ok=none->V.ob= []:=λh=>abr (by rw[s6,hy h];rfl);refine af func130 rfl ntmps130 rfl ?_;intro F _;refine bL ?_;refine zl Aq (Rv t b C K W y O hy p hp) .nil (λ_ le au=>⟨au.1,au.2⟩) ?_;refine cY ?_;refine zl Aq (pull) (.cons .here (.cons .here (.cons .here (.cons .here .nil)))) DA ?_;refine Hh (H':= [ag t 154 (gV b V y),ag y.nk 149 (aV (aL V.nb)),oe y.ok 149 (aV (aL V.ob)),Cl b (C.wA A)]) ?_;unfold gV;rw[s1];refine bL ?_;refine az (t:=16) (v':=(DE DD (W.n-1:Nat))) rfl (by(congr 1;omega)) ?_;refine ba ?_;refine av ?_;refine iL 23 mix (.cons .here .nil) λF1 jq bV aI=> ?_;obtain⟨q1,_⟩:=bV;by_cases h0:W.st=0
 ·refine Ti Mv ?_
  refine ba ?_;refine zt 24 ?_;refine bL ?_;by_cases h1:16<W.size
  ·refine zt 31 ?_
   refine bD ?_;refine gG aI ?_;refine bn ?_;by_cases h2:8*(W.n-1)<W.size
   ·have hg:jE W:=⟨h0,h1,h2⟩
    obtain⟨cK,cy,ca⟩:=half O h1;refine eJ ?_;refine bA ?_;refine Li (Qu (q:=2)) ?_;refine az (t:=48) (v':=(DE DD (W.size/2:Nat))) rfl (by rw[s3]) ?_;refine Lp (oC Aq rfl rfl (AV t b (C.wA A) {V with n:=W.n-1} y P (W.size/2) (by omega)) (.cons .here (.cons .here .nil)) DA ?_);rintro v H' ⟨rfl,mk,rfl⟩;refine bS ?_;refine ba ?_;obtain⟨B1,B2⟩:=Tz (C:=C.wA A) P (s2.trans h0) (s:=W.size/2) cK cy (by show W.size/2<=V.aH;rw[s4];exact ca);refine Rt [Cl b (C.wA A),ag t 154 (gV b (Tb.Jw {V with n:=W.n-1} (W.size/2)) ⟨mk,some y.nk⟩),ag mk 149 (aV (aL (Tb.Jw {V with n:=W.n-1} (W.size/2)).nb)),oe (some y.nk) 149 (aV (aL (Tb.Jw {V with n:=W.n-1} (W.size/2)).ob))] results130 ?_;exact⟨rfl,A,_,⟨mk,some y.nk⟩,rfl,(λh=>by cases h),⟨B1,by rw[B2];exact pa,d,rfl,s4,λ_=>⟨rfl,rfl,rfl,by show V.nb.length=_;rw[s5,O.sz]⟩,λh=>absurd hg h⟩⟩
   have hg:¬jE W:=λh=>h2 h.2.2;refine cM ?_;refine bA ?_;refine Rt [Cl b (C.wA A),ag t 154 (gV b {V with n:=W.n-1} y),ag y.nk 149 (aV (aL V.nb)),oe y.ok 149 (aV (aL V.ob))] results130 ?_;exact⟨rfl,A,{V with n:=W.n-1},y,rfl,Qj,⟨P,pa,d,rfl,s4,λh=>absurd h hg,λ_=>⟨s3,s2,Sm,s6⟩⟩⟩
  have hg:¬jE W:=λh=>h1 h.2.1;refine zf 31 ?_;refine bD ?_;refine gG aI ?_;refine cu ?_;refine Rt [Cl b (C.wA A),ag t 154 (gV b {V with n:=W.n-1} y),ag y.nk 149 (aV (aL V.nb)),oe y.ok 149 (aV (aL V.ob))] results130 ?_;exact⟨rfl,A,{V with n:=W.n-1},y,rfl,Qj,⟨P,pa,d,rfl,s4,λh=>absurd h hg,λ_=>⟨s3,s2,Sm,s6⟩⟩⟩
 have hg:¬jE W:=λh=>h0 h.1;refine bA ?_;refine zf 24 ?_;refine rS ?_;refine gG aI ?_;refine cu ?_;refine Rt [Cl b (C.wA A),ag t 154 (gV b {V with n:=W.n-1} y),ag y.nk 149 (aV (aL V.nb)),oe y.ok 149 (aV (aL V.ob))] results130 ?_;exact⟨rfl,A,{V with n:=W.n-1},y,rfl,Qj,⟨P,pa,d,rfl,s4,λh=>absurd h hg,λ_=>⟨s3,s2,Sm,s6⟩⟩⟩
theorem YK (t b:Nat)(C:Cs)(K:Ok C)(W:Tb)(y:pW)(O:dC C W)(hy:y.ok=none->W.ob= [])(p q:Nat)(hp:p∈W.all)(L:Live C q)(I:gU C q)(hq:q∉W.all)(rM:aO C.A p=aO C.A q):
  aK aaY 190 [DC t,DE DB (C.hd q)] (λh=>In (Cl b C) h/\gW (np t b W y) h) []
   (λv H=>v= .bool false/\H= []):=by
 have lk:(aO C.A q).length=kl C.A q:=cI _ _ _;have hk:=I.k0;have hf:=I.fits;obtain⟨z1,z2,z3,_⟩:=L.toAt.br K;have f1:=K.toFix.p1;have eg:=get_some O hp rM;have ne:C.hd p≠C.hd q:=λe=>hq (jm K (O.lv p hp).toAt L.toAt e▸hp);refine af func190 rfl ntmps190 rfl ?_;rintro F ⟨hc,ht⟩;refine bA ?_;refine Lp (oC Aq rfl rfl (ri t b C W y K q L I) .nil (λ_ le _=>⟨In.mono hc le,In.mono ht.1 le⟩) ?_);rintro v H' ⟨kb,rfl,rfl⟩;refine bS ?_;refine ba ?_;refine zl Aq (nI t b C K W y O hy (some ⟨kb,0,none⟩) (kl C.A q) (kl C.A q) (aO C.A q) lk.symm (by omega)) .nil (λ_ le au=>⟨In.mono hc le,bR ht le,bK au.1⟩) ?_;rw[eg,cj];refine bO ?_;refine zt 20 ?_;refine bj ?_;refine zt 23 ?_ (e:=by rfl);refine bL ?_;refine Rt [] results190 ?_;exact⟨by rw[Ar],rfl⟩
structure Ii (C:Cs)(W:Tb)(p q:Nat)(A:By)(V:Tb):Prop where
 o:dC (C.wA A) V
 pm:∃r,W.all.Perm (p::r)/\V.all.Perm (q::r)
 df:sf C.A A (q::W.all) 0 4
 s:sy W V
 mv:V.mv=W.mv
theorem EL (t b:Nat)(C:Cs)(K:Ok C)(W:Tb)(y:pW)(O:dC C W)(hy:y.ok=none->W.ob= [])(p q:Nat)(hp:p∈W.all)(L:Live C q)(I:gU C q)(hq:q∉W.all)(rM:aO C.A p=aO C.A q):
  aK aaY 159 [DC t,DE DB (C.hd p),DE DB (C.hd q)] (λ_=>True) (Cl b C::np t b W y)
   (λv H=>v=DE DD 0/\∃A V,H=Cl b (C.wA A)::np t b V y/\(y.ok=none->V.ob= [])/\Ii C W p q A V):=by
 have lk:(aO C.A q).length=kl C.A q:=cI _ _ _;have hk:=I.k0;have hf:=I.fits;obtain⟨z1,z2,z3,_⟩:=L.toAt.br K;have f1:=K.toFix.p1;have hx:=sY O (cD (aO C.A p));have hpc:=H8 O hp;have hlen:=vC O (W.bk (cD (aO C.A p)));generalize hxx:W.bk (cD (aO C.A p))=x at*;obtain⟨c,hc⟩:∃c,W.ch x=c:=⟨_,rfl⟩;rw[hc]at hpc hlen;obtain⟨j,hj,ej⟩:=acS hpc;obtain⟨P,d⟩:=Kj K O hx hc hj ej;obtain⟨r1,p1,p2⟩:=Tb.o0 hx;rw[hc]at p1;have pa:(p::(W.db x (c.eraseIdx j)).all).Perm W.all:=by
  refine(abd.cons p (p2 _)).trans (abd.trans ?_ p1.symm);have:=abd.append_right r1 (tD hj);rw[ej]at this;exact this
 have S:=vK W x (c.eraseIdx j);have pull:=EM t b C K W y O hy x hx c hc j hj p ej;have sub:∀s∈(W.db x (c.eraseIdx j)).all,s∈W.all/\s≠p:=λs hs=>by
  refine⟨pa.mem_iff.1 (aa6 _ hs),λe=> ?_⟩;have:=pa.nodup_iff.2 O.nd;exact(abg.1 this).1 (e▸hs)
 generalize hV:W.db x (c.eraseIdx j)=V at*;generalize hA:qw C.A c j p=A at*;obtain⟨⟨s1,s2,s3,s4,s5,s6⟩,Sm⟩:=S;have Qj:y.ok=none->V.ob= []:=λh=>abr (by rw[s6,hy h];rfl);have kp:=λs (h:s∈W.all)=>yY K d (λu hu=>(O.lv u hu).toAt) (by omega) (O.lv s h).toAt (O.it s h);have kq:=yY K d (λu hu=>(O.lv u hu).toAt) (by omega) L.toAt I;have K2:=K.wA A;have L2:=L.wA A;have I2:=kq.it I;have hkd2:∀s∈Tb.all {V with n:=W.n-1},aO (C.wA A).A s≠aO (C.wA A).A q:=λs hs e=>by
  obtain⟨g1,g2⟩:=sub s hs;change aO A s=aO A q at e;rw[(kp s g1).key,kq.key,<-rM]at e;exact g2 (O.kd s g1 p hp e)
 have P2:=C6 K2 P L2 I2 (λh=>hq (sub q h).1) hkd2 (x:=V.bk (cD (aO A q))) rfl;have hx2:GK V (V.bk (cD (aO A q))):=sY P (cD (aO A q));have kqe:aO A q=aO C.A q:=kq.key;have lO2:dw (C.wA A) (V.ch (V.bk (cD (aO A q)))).head?:=λu hu=>P.lv u (Tb.hU (T:=V) (acY hu));obtain⟨r3,p3,p4⟩:=Tb.o0 hx2;generalize hxx2:V.bk (cD (aO A q))=x2 at*;refine af func159 rfl ntmps159 rfl ?_;intro F _;refine bA ?_;refine Lp (oC Aq rfl rfl (ri t b C W y K q L I) .nil (λ_ le au=>⟨au.1,au.2.1⟩) ?_);rintro v H' ⟨kb,rfl,rfl⟩;refine bS ?_;refine bL ?_;refine zl Aq (Rv t b C K W y O hy p hp) .nil (λ_ le au=>⟨au.2.1,au.2.2⟩) ?_;refine bn ?_;refine zf 16 ?_ (e:=by rfl);refine ba ?_;refine zf 21 ?_;refine bn ?_;refine zl Aq (YK t b C K W y O hy p q hp L I hq rM) .nil (λ_ le au=>⟨au.2.1,au.2.2⟩) ?_;refine aY ?_;refine Hh (H':= [Cl b C,ag t 154 (gV b W y),ag y.nk 149 (aV (aL W.nb)),oe y.ok 149 (aV (aL W.ob)),own (some ⟨kb,0,none⟩) (kl C.A q) 5 1 (ak (aO C.A q))]) ?_;unfold gV;refine bL ?_;refine zl Aq (Fq b C K p (O.lv p hp) (O.it p hp) (some ⟨kb,0,none⟩) (kl C.A q) (kl C.A q) (aO C.A q) lk.symm (by omega)) .nil (λ_ le au=>⟨au.1,bK au.2.2.2.2.1⟩) ?_;rw[decide_eq_true rM];refine bD ?_;refine zl Aq (pull) (.cons .here (.cons .here (.cons .here (.cons .here .nil)))) DA ?_;refine ba ?_;refine zl Aq (mF t b (C.wA A) V y (W.n-1) P Qj (some ⟨kb,0,none⟩) (kl C.A q) (kl C.A q) (aO C.A q) lk.symm (by omega)) .nil (λ_ le au=>⟨au.2.1,bK au.2.2.2.2.1⟩) ?_;rw[show V.bk (cD (aO C.A q))=x2 by rw[<-kqe];exact hxx2];refine aw ?_;refine zl Aq (yF t b (C.wA A) K2 V y Qj x2 hx2 q L2 I2.k0 lO2) (.cons .here (.cons .here (.cons .here (.cons .here .nil)))) DA ?_;refine ba ?_;have hn1:1<=W.n:=by omega
 have e2:({({V with n:=W.n-1}:Tb).db x2 (q::V.ch x2)with n:=W.n-1+1}:Tb)=V.db x2 (q::V.ch x2):=by
  rcases x2 with⟨_|_,i⟩<;>(simp[Tb.db];omega)
 change dC _ {({V with n:=W.n-1}:Tb).db x2 (q::V.ch x2)with n:=W.n-1+1}at P2;rw[e2]at P2;have S2:=vK V x2 (q::V.ch x2);have pz:(V.db x2 (q::V.ch x2)).all.Perm (q::V.all):=(p4 _).trans (abd.cons q p3.symm);generalize hV2:V.db x2 (q::V.ch x2)=V2 at*;obtain⟨⟨t1,t2,t3,t4,t5,t6⟩,Tm⟩:=S2;refine Rt [Cl b ((C.wA A).wA (wr A q 4 (nO (V.ch x2).head?))),ag t 154 (gV b V2 y),ag y.nk 149 (aV (aL V2.nb)),oe y.ok 149 (aV (aL V2.ob))] results159 ?_;refine⟨rfl,wr A q 4 (nO (V.ch x2).head?),V2,rfl,λh=>abr (by rw[t6,Qj h];rfl),P2,⟨V.all,pa.symm,pz⟩, ?_,⟨t1.trans s1,t2.trans s2,t3.trans s3,t4.trans s4,t5.trans s5,t6.trans s6⟩,Tm.trans Sm⟩;exact(d.mono λu hu=>aa6 _ hu).trans ((yk A (S:= [q]) (q:=q) (a:=0) (by simp)).mono λu hu=>by rw[acQ]at hu;rw[hu];exact List.mem_cons_self)
end Go.Proofs.YtcbcjolpdljbiaaGreat
