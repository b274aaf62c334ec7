/- Part Pf of the proof. -/
import Derived.Test.YtcbcjolpdljbiaaGreatPe
set_option maxRecDepth 100000
open Go.Proofs.YtcbcjolpdljbiaaGreat.T
open Nat renaming add_assoc -> ag4, mod_eq_of_lt -> abZ, lt_trans -> agY, lt_of_lt_of_le -> agj, lt_of_le_of_lt -> agq
open Int renaming zero_add -> aki
open Go.Proofs.Tryz renaming prog -> aaa
open Go.Proofs.Tryz
open Go.Value renaming int -> Dm
open Go.IntKind renaming i64 -> Dl, u64 -> Dj, u8 -> ala, u32 -> alb
namespace Go.Proofs.YtcbcjolpdljbiaaGreat
open Go Go.dC Go.Proofs.YtcbcjolpdljbiaaGreat.Cs
def qy (a p c s:Nat):FJ:= [Dk a,Dm Dl p,Dm Dl c,Dm Dl s]
def kl (A:By)(p:Nat):Nat:=rd A (p+44) 1
def vl (A:By)(p:Nat):Nat:=rd A (p+48) 4
theorem Cs.At.off{C:Cs}(K:Ok C){p:Nat}(L:At C p){o w:Nat}(h:o+w<=C.sz (C.cl p)):p+o+w<=C.n*C.ao/\(p+o) % C.ao+w<=C.ao:=by
 obtain⟨_,n2,n3,_,_,n6,n7,n8⟩:=L.ba K;refine⟨by omega, ?_⟩;have LB:=K.toFix.pos;have e:(p+o) % C.ao=(C.ix p*C.sz (C.cl p)+o) % C.ao:=by
  rw[n6,ag4,Nat.add_comm,Nat.add_mul_mod_self_right];rw[<-n6]
 rw[e];by_cases hw:C.ix p*C.sz (C.cl p)+o<C.ao
 ·rw[abZ hw];omega
 have:C.ix p*C.sz (C.cl p)+o=C.ao:=by omega
 rw[this,Nat.mod_self];omega
theorem oO (a ab ao n p o c s:Nat)(A:By)(h0:0<ao)(h1:p+o+1<=n)(h2:n<=1073741824)(h3:(p+o) % ao+1<=ao)(h4:ao<=1048576):
  aG aaa 154 [.agg (qy a p c s).toArray,Dm Dl o] (λh=>In (ag a 249 (iq ab ao n)) h/\In (ag ab 5 (dK A n)) h) []
   (λv H=>v=Dm ala (rd A (p+o) 1:Nat)/\H= []):=by
 unfold qy;refine af func154 rfl ntmps154 rfl ?_;rintro F ⟨ha,hb⟩;refine aw ?_;refine Lp (oB λb1=> ?_);refine cA ?_;refine zl Aa (MS a ab ao n (p+o) A h0 h1 h2 h3 h4) .nil (λ_ le _=>⟨ha.mono le,hb.mono le⟩) ?_;refine bP ?_;refine Rt [] results154 ?_;exact⟨rfl,rfl⟩
theorem l9 (a ab ao n p o c s v:Nat)(A:By)(hv:v<256^1)(h0:0<ao)(h1:p+o+1<=n)(h2:n<=1073741824)(h3:(p+o) % ao+1<=ao)(h4:ao<=1048576):
  aG aaa 250 [.agg (qy a p c s).toArray,Dm Dl o,Dm ala v] (In (ag a 249 (iq ab ao n))) [ag ab 5 (dK A n)]
   (λu H=>u= .tuple #[]/\H= [ag ab 5 (dK (wr A (p+o) 1 v) n)]):=by
 unfold qy;refine af func250 rfl ntmps250 rfl ?_;rintro F ha;refine aw ?_;refine Lp (oB λb1=> ?_);refine cA ?_;refine zl Aa (Mx a ab ao n (p+o) v A hv h0 h1 h2 h3 h4) (.cons (.there .here) .nil) (λ_ le _=>ha.mono le) ?_;refine aD ?_;refine jU [ag ab 5 (dK (wr A (p+o) 1 v) n)] results250 ?_;exact⟨rfl,rfl⟩
theorem qw (a ab ao n p o c s:Nat)(A:By)(h0:0<ao)(h1:p+o+4<=n)(h2:n<=1073741824)(h3:(p+o) % ao+4<=ao)(h4:ao<=1048576):
  aG aaa 152 [.agg (qy a p c s).toArray,Dm Dl o] (λh=>In (ag a 249 (iq ab ao n)) h/\In (ag ab 5 (dK A n)) h) []
   (λv H=>v=Dm alb (rd A (p+o) 4:Nat)/\H= []):=by
 unfold qy;refine af func152 rfl ntmps152 rfl ?_;rintro F ⟨ha,hb⟩;refine aw ?_;refine Lp (oB λb1=> ?_);refine cA ?_;refine zl Aa (IL a ab ao n (p+o) A h0 h1 h2 h3 h4) .nil (λ_ le _=>⟨ha.mono le,hb.mono le⟩) ?_;refine bP ?_;refine Rt [] results152 ?_;exact⟨rfl,rfl⟩
theorem kE (a ab ao n p o c s v:Nat)(A:By)(hv:v<256^4)(h0:0<ao)(h1:p+o+4<=n)(h2:n<=1073741824)(h3:(p+o) % ao+4<=ao)(h4:ao<=1048576):
  aG aaa 245 [.agg (qy a p c s).toArray,Dm Dl o,Dm alb v] (In (ag a 249 (iq ab ao n))) [ag ab 5 (dK A n)]
   (λu H=>u= .tuple #[]/\H= [ag ab 5 (dK (wr A (p+o) 4 v) n)]):=by
 unfold qy;refine af func245 rfl ntmps245 rfl ?_;rintro F ha;refine aw ?_;refine Lp (oB λb1=> ?_);refine cA ?_;refine zl Aa (zg a ab ao n (p+o) v A hv h0 h1 h2 h3 h4) (.cons (.there .here) .nil) (λ_ le _=>ha.mono le) ?_;refine aD ?_;refine jU [ag ab 5 (dK (wr A (p+o) 4 v) n)] results245 ?_;exact⟨rfl,rfl⟩
theorem mA (a ab ao n p o c s:Nat)(A:By)(h0:0<ao)(h1:p+o+8<=n)(h2:n<=1073741824)(h3:(p+o) % ao+8<=ao)(h4:ao<=1048576):
  aG aaa 153 [.agg (qy a p c s).toArray,Dm Dl o] (λh=>In (ag a 249 (iq ab ao n)) h/\In (ag ab 5 (dK A n)) h) []
   (λv H=>v=Dm Dj (rd A (p+o) 8:Nat)/\H= []):=by
 unfold qy;refine af func153 rfl ntmps153 rfl ?_;rintro F ⟨ha,hb⟩;refine aw ?_;refine Lp (oB λb1=> ?_);refine cA ?_;refine zl Aa (IK a ab ao n (p+o) A h0 h1 h2 h3 h4) .nil (λ_ le _=>⟨ha.mono le,hb.mono le⟩) ?_;refine bP ?_;refine Rt [] results153 ?_;exact⟨rfl,rfl⟩
theorem mz (a ab ao n p o c s v:Nat)(A:By)(hv:v<256^8)(h0:0<ao)(h1:p+o+8<=n)(h2:n<=1073741824)(h3:(p+o) % ao+8<=ao)(h4:ao<=1048576):
  aG aaa 247 [.agg (qy a p c s).toArray,Dm Dl o,Dm Dj v] (In (ag a 249 (iq ab ao n))) [ag ab 5 (dK A n)]
   (λu H=>u= .tuple #[]/\H= [ag ab 5 (dK (wr A (p+o) 8 v) n)]):=by
 unfold qy;refine af func247 rfl ntmps247 rfl ?_;rintro F ha;refine aw ?_;refine Lp (oB λb1=> ?_);refine cA ?_;refine zl Aa (IB a ab ao n (p+o) v A hv h0 h1 h2 h3 h4) (.cons (.there .here) .nil) (λ_ le _=>ha.mono le) ?_;refine aD ?_;refine jU [ag ab 5 (dK (wr A (p+o) 8 v) n)] results247 ?_;exact⟨rfl,rfl⟩
theorem fZ (a ab ao n p c s:Nat)(A:By)(h0:0<ao)(h1:p+44+1<=n)(h2:n<=1073741824)(h3:(p+44) % ao+1<=ao)(h4:ao<=1048576):
  aG aaa 143 [.agg (qy a p c s).toArray] (λh=>In (ag a 249 (iq ab ao n)) h/\In (ag ab 5 (dK A n)) h) []
   (λv H=>v=Dm Dl (kl A p:Nat)/\H= []):=by
 have hl:rd A (p+44) 1<256^1:=kh _ _ _;unfold kl;refine af func143 rfl ntmps143 rfl ?_;rintro F ⟨ha,hb⟩;refine aw ?_;refine Lp (oB λb1=> ?_);refine bc ?_;refine zl Aa (oO a ab ao n p 44 c s A h0 h1 h2 h3 h4) .nil (λ_ le _=>⟨ha.mono le,hb.mono le⟩) ?_;refine bc ?_;refine Rt [] results143 ?_;exact⟨rfl,rfl⟩
theorem vA (a ab ao n p c s:Nat)(A:By)(h0:0<ao)(h1:p+48+4<=n)(h2:n<=1073741824)(h3:(p+48) % ao+4<=ao)(h4:ao<=1048576):
  aG aaa 151 [.agg (qy a p c s).toArray] (λh=>In (ag a 249 (iq ab ao n)) h/\In (ag ab 5 (dK A n)) h) []
   (λv H=>v=Dm Dl (vl A p:Nat)/\H= []):=by
 have hl:rd A (p+48) 4<256^4:=kh _ _ _;unfold vl;refine af func151 rfl ntmps151 rfl ?_;rintro F ⟨ha,hb⟩;refine aw ?_;refine Lp (oB λb1=> ?_);refine bc ?_;refine zl Aa (qw a ab ao n p 48 c s A h0 h1 h2 h3 h4) .nil (λ_ le _=>⟨ha.mono le,hb.mono le⟩) ?_;refine bc ?_;refine Rt [] results151 ?_;exact⟨rfl,rfl⟩
theorem yQ (a ab ao n p o c s m:Nat)(A:By)(h0:0<ao)(h1:p+o+m<=n)(h2:n<=1073741824)(h3:(p+o) % ao+m<=ao)(h4:ao<=1048576):
  aG aaa 145 [.agg (qy a p c s).toArray,Dm Dl o,Dm Dl m] (λh=>In (ag a 249 (iq ab ao n)) h/\In (ag ab 5 (dK A n)) h) []
   (λv H=>∃b,v= .slice (some ⟨b,0,none⟩) m m/\H= [own (some ⟨b,0,none⟩) m 5 1 (aj (jS A (p+o) m))]):=by
 unfold qy;refine af func145 rfl ntmps145 rfl ?_;rintro F ⟨ha,hb⟩;refine aw ?_;refine Lp (oB λb1=> ?_);refine bB ?_;refine Lp (oC Aa rfl rfl (Iz a ab ao n (p+o) m A h0 h1 h2 h3 h4) .nil (λ_ le _=>⟨ha.mono le,hb.mono le⟩) ?_);rintro v H' ⟨b,rfl,rfl⟩;refine bR ?_;refine bP ?_;refine Rt [own (some ⟨b,0,none⟩) m 5 1 (aj (jS A (p+o) m))] results145 ?_;exact⟨_,rfl,rfl⟩
abbrev CL (b:Nat)(C:Cs)(y:Lc):aa:=aB (mC b C y)
theorem x8{P:Program}{f:FuncId}{args:FJ}{H:F8}{R:Dp}{b:Nat}{C:Cs}(h:∀y,gC C y->aG P f args (In (CL b C y)) H R):aG P f args (In (Cl b C)) H R:=λF w hp s=>by
 obtain⟨k,⟨y,hy,p⟩,l⟩:=hp;exact h y hy F w ⟨k,p,l⟩ s
theorem Ek{b:Nat}{C:Cs}{y:Lc}{h k:Hp}(hy:gC C y)(i:In (CL b C y) h)(l:Le h k):In (Cl b C) k:=by
 obtain⟨m,p,q⟩:=i;exact⟨m,⟨y,hy,p⟩,q.trans l⟩
theorem fu{b:Nat}{C:Cs}{y:Lc}{h k:Hp}(i:In (CL b C y) h)(l:Le h k):In (ag y.a 249 (iq y.ab C.ao (C.n*C.ao))) k/\In (ag y.ab 5 (dK C.A (C.n*C.ao))) k:=by
 obtain⟨_,_,_,_,_,_,h6,h7,_⟩:=tL i;exact⟨In.mono h6 l,In.mono h7 l⟩
theorem jW (b:Nat)(C:Cs)(y:Lc)(K:Ok C)(hy:gC C y)(p:Nat)(L:Live C p):
  aG aaa 142 [Dk b,Dm Dj (C.hd p)] (In (CL b C y)) []
   (λv H=>v= .tuple #[.agg (qy y.a p (C.cl p) (C.sz (C.cl p))).toArray,Dm Dl 0]/\H= []):=by
 have hc:C.cl p<C.ae.length:=(L.toAt.ba K).1;refine af func142 rfl ntmps142 rfl ?_;intro F ak;refine aw ?_;refine Lp (oA gL λb1=> ?_);refine gJ ?_;refine zl Aa (vS b C K p L) .nil (λ_ le _=>Ek hy ak le) ?_;refine rM ?_;refine zl Aa (V4 b C y) .nil (λ_ le _=>bO (tL ak) le) ?_;refine bc ?_;refine zl Aa (qW b C K (C.cl p:Int)) .nil (λ_ le _=>Ek hy ak le) ?_;unfold ofM;rw[if_pos (by omega),Int.toNat_natCast];refine bn ?_;refine LI [] HT results142 ?_;exact⟨rfl,rfl⟩
theorem xg (b:Nat)(C:Cs)(y:Lc)(K:Ok C)(hy:gC C y)(p:Nat)(L:Live C p)(hk:kl C.A p≠0):
  aG aaa 178 [Dk b,Dm Dj (C.hd p)] (In (CL b C y)) []
   (λv H=>v= .tuple #[.agg (qy y.a p (C.cl p) (C.sz (C.cl p))).toArray,Dm Dl 0]/\H= []):=by
 obtain⟨n1,n2,_⟩:=L.toAt.ba K;have nb:=fU K.toFix;have f0:=K.toFix.pos;have f1:=K.toFix.p1;obtain⟨e1,e2⟩:=L.toAt.off K (o:=44) (w:=1) (by omega);refine af func178 rfl ntmps178 rfl ?_;intro F ak;refine aw ?_;refine Lp (oA gL λb1=> ?_);refine bn ?_;refine zl Aa (jW b C y K hy p L) .nil (λ_ le _=>In.mono ak le) ?_;unfold qy;refine bq ?_;refine Lp (oA gL λb2=> ?_);refine cV ?_;refine zt 16 ?_ (e:=by rfl);refine aw ?_;refine zl Aa (fZ y.a y.ab C.ao (C.n*C.ao) p (C.cl p) (C.sz (C.cl p)) C.A f0 e1 nb e2 f1) .nil (λ_ le _=>fu ak le) ?_;refine bq ?_;refine cN ?_;refine cA ?_;refine LI [] HT results178 ?_;exact⟨rfl,rfl⟩
def Cs.wA (C:Cs)(A:By):Cs:={C with A:=A}
theorem nq{P:Program}{f:FuncId}{args:FJ}{pre:Hp->Prop}{H:F8}{R:Dp}{b:Nat}{C:Cs}(h:∀y,gC C y->aG P f args pre (CL b C y::H) R):aG P f args pre (Cl b C::H) R:=
 aG.exL λy=>aG.D8 λhy=>h y hy
theorem Bj{b:Nat}{C:Cs}{y:Lc}{H:F8}{h:Hp}(hy:gC C y)(st:ai (CL b C y::H) h):ai (Cl b C::H) h:=
 aZ (λ_ p=>⟨y,hy,p⟩) st
theorem gC.wA{C:Cs}{y:Lc}(hy:gC C y)(A:By):gC (C.wA A) y:=⟨hy.pl,hy.rl,hy.pk,hy.ao,hy.bA⟩
def clR (b:Nat)(C:Cs)(y:Lc):aa:=aB [ag b 179 (cI C y),nP C y,ag y.pb 227 (y.pl.flatMap dI),aB (y.pl.map kW),ag y.rb 196 (y.rl.flatMap ey),aB (y.rl.map kG)]
theorem uZ{L H:F8}{h:Hp}(s:ai (aB L::H) h):ai (L++H) h:=by
 obtain⟨h1,h2,d,l1,l2,s1,s2⟩:=s;exact eU (bz s1 s2 d) (bQ l1 l2)
theorem Fx (b:Nat)(C:Cs)(y:Lc):List.Perm (mC b C y) ([ag y.ab 5 (dK C.A (C.n*C.ao)),ag y.a 249 (iq y.ab C.ao (C.n*C.ao))]++ [ag b 179 (cI C y),nP C y,ag y.pb 227 (y.pl.flatMap dI),aB (y.pl.map kW),ag y.rb 196 (y.rl.flatMap ey),aB (y.rl.map kG)]):=
 List.perm_append_comm (l₁:= [_,_,_,_,_,_]) (l₂:= [_,_]) |>.trans (List.Perm.swap _ _ _)
theorem VO{b:Nat}{C:Cs}{y:Lc}{H:F8}{h:Hp}(s:ai (CL b C y::H) h):ai (ag y.ab 5 (dK C.A (C.n*C.ao))::ag y.a 249 (iq y.ab C.ao (C.n*C.ao))::clR b C y::H) h:=
 aE (λ_ s=>aE (λ_ s=>dZ (L:= [_,_,_,_,_,_]) s) s) (uZ (oH (Fx b C y) s))
theorem nI{b:Nat}{C:Cs}{y:Lc}{H:F8}{A:By}(hy:gC C y){h:Hp}(s:ai (ag y.ab 5 (dK A (C.n*C.ao))::ag y.a 249 (iq y.ab C.ao (C.n*C.ao))::clR b C y::H) h):ai (Cl b (C.wA A)::H) h:=by
 refine Bj (hy.wA A) (oH (Fx b (C.wA A) y).symm (dZ (L:= [_,_,_,_,_,_,_,_]) ?_));exact aE (λ_ s=>aE (λ_ s=>uZ s) s) s
theorem Ef{n:Nat}{ds:Dq}{F:dG}{K:F9}{σ:aP}{H:F8}{b:Nat}{C:Cs}{y:Lc}
  (h:G n ds F K σ (ag y.ab 5 (dK C.A (C.n*C.ao))::ag y.a 249 (iq y.ab C.ao (C.n*C.ao))::clR b C y::H)):G n ds F K σ (CL b C y::H):=au (λ_ s=>VO s) h
theorem yX (b:Nat)(C:Cs)(K:Ok C)(p o:Nat)(L:Live C p)(hk:kl C.A p≠0)(ho:o+1<=56):
  aG aaa 242 [Dk b,Dm Dj (C.hd p),Dm Dl o] (In (Cl b C)) []
   (λv H=>v= .tuple #[Dm ala (rd C.A (p+o) 1:Nat),Dm Dl 0]/\H= []):=by
 refine x8 λy hy=> ?_;obtain⟨n1,n2,_⟩:=L.toAt.ba K;have nb:=fU K.toFix;have f0:=K.toFix.pos;have f1:=K.toFix.p1;obtain⟨e1,e2⟩:=L.toAt.off K (o:=44) (w:=1) (by omega);obtain⟨e3,e4⟩:=L.toAt.off K (o:=o) (w:=1) (by omega);refine af func242 rfl ntmps242 rfl ?_;intro F ak;refine bK ?_;refine zl Aa (jW b C y K hy p L) .nil (λ_ le _=>In.mono ak le) ?_;unfold qy;refine bq ?_;refine Lp (oA gL λb1=> ?_);refine cV ?_;refine zf 18 ?_ (e:=by rfl);refine aw ?_;refine zl Aa (fZ y.a y.ab C.ao (C.n*C.ao) p (C.cl p) (C.sz (C.cl p)) C.A f0 e1 nb e2 f1) .nil (λ_ le _=>fu ak le) ?_;refine bq ?_;refine cN ?_;refine bn ?_;refine zl Aa (oO y.a y.ab C.ao (C.n*C.ao) p o (C.cl p) (C.sz (C.cl p)) C.A f0 e3 nb e4 f1) .nil (λ_ le _=>fu ak le) ?_;refine bn ?_;refine jT [] results242 ?_;exact⟨rfl,rfl⟩
theorem AL (b:Nat)(C:Cs)(K:Ok C)(p o v:Nat)(hv:v<256^1)(L:Live C p)(hk:kl C.A p≠0)(ho:o+1<=56):
  aG aaa 243 [Dk b,Dm Dj (C.hd p),Dm Dl o,Dm ala v, .bool true] uT [Cl b C]
   (λu H=>u=Dm Dl 0/\H= [Cl b (C.wA (wr C.A (p+o) 1 v))]):=by
 refine nq λy hy=> ?_;obtain⟨n1,n2,_⟩:=L.toAt.ba K;have nb:=fU K.toFix;have f0:=K.toFix.pos;have f1:=K.toFix.p1;obtain⟨e3,e4⟩:=L.toAt.off K (o:=o) (w:=1) (by omega);refine af func243 rfl ntmps243 rfl ?_;intro F _;refine bs ?_;refine zl Aa (xg b C y K hy p L hk) .nil (λ_ le ak=>ak.1) ?_;unfold qy;refine bq ?_;refine Lp (oA gL λb1=> ?_);refine cK ?_;refine bc ?_;refine Hh (H':= [CL b C y,ag b1 231 [Dk y.a,Dm Dl p,Dm Dl (C.cl p),Dm Dl (C.sz (C.cl p))]]) ?_;refine Ef ?_;refine zl Aa (l9 y.a y.ab C.ao (C.n*C.ao) p o (C.cl p) (C.sz (C.cl p)) v C.A hv f0 e3 nb e4 f1) (.cons .here .nil) (λ_ le ak=>ak.1) ?_;refine au (λ_ s=>nI hy s) ?_;refine bn ?_;refine Rt [Cl b (C.wA (wr C.A (p+o) 1 v))] results243 ?_;exact⟨rfl,rfl⟩
theorem vV (b:Nat)(C:Cs)(K:Ok C)(p o:Nat)(L:Live C p)(hk:kl C.A p≠0)(ho:o+8<=56):
  aG aaa 213 [Dk b,Dm Dj (C.hd p),Dm Dl o] (In (Cl b C)) []
   (λv H=>v= .tuple #[Dm Dj (rd C.A (p+o) 8:Nat),Dm Dl 0]/\H= []):=by
 refine x8 λy hy=> ?_;obtain⟨n1,n2,_⟩:=L.toAt.ba K;have nb:=fU K.toFix;have f0:=K.toFix.pos;have f1:=K.toFix.p1;obtain⟨e1,e2⟩:=L.toAt.off K (o:=44) (w:=1) (by omega);obtain⟨e3,e4⟩:=L.toAt.off K (o:=o) (w:=8) (by omega);refine af func213 rfl ntmps213 rfl ?_;intro F ak;refine bK ?_;refine zl Aa (jW b C y K hy p L) .nil (λ_ le _=>In.mono ak le) ?_;unfold qy;refine bq ?_;refine Lp (oA gL λb1=> ?_);refine cV ?_;refine zf 18 ?_ (e:=by rfl);refine aw ?_;refine zl Aa (fZ y.a y.ab C.ao (C.n*C.ao) p (C.cl p) (C.sz (C.cl p)) C.A f0 e1 nb e2 f1) .nil (λ_ le _=>fu ak le) ?_;refine bq ?_;refine cN ?_;refine bn ?_;refine zl Aa (mA y.a y.ab C.ao (C.n*C.ao) p o (C.cl p) (C.sz (C.cl p)) C.A f0 e3 nb e4 f1) .nil (λ_ le _=>fu ak le) ?_;refine bn ?_;refine jT [] results213 ?_;exact⟨rfl,rfl⟩
theorem sl (b:Nat)(C:Cs)(K:Ok C)(p o v:Nat)(hv:v<256^8)(L:Live C p)(hk:kl C.A p≠0)(ho:o+8<=56):
  aG aaa 180 [Dk b,Dm Dj (C.hd p),Dm Dl o,Dm Dj v, .bool true] uT [Cl b C]
   (λu H=>u=Dm Dl 0/\H= [Cl b (C.wA (wr C.A (p+o) 8 v))]):=by
 refine nq λy hy=> ?_;obtain⟨n1,n2,_⟩:=L.toAt.ba K;have nb:=fU K.toFix;have f0:=K.toFix.pos;have f1:=K.toFix.p1;obtain⟨e3,e4⟩:=L.toAt.off K (o:=o) (w:=8) (by omega);refine af func180 rfl ntmps180 rfl ?_;intro F _;refine bs ?_;refine zl Aa (xg b C y K hy p L hk) .nil (λ_ le ak=>ak.1) ?_;unfold qy;refine bq ?_;refine Lp (oA gL λb1=> ?_);refine cK ?_;refine bc ?_;refine Hh (H':= [CL b C y,ag b1 231 [Dk y.a,Dm Dl p,Dm Dl (C.cl p),Dm Dl (C.sz (C.cl p))]]) ?_;refine Ef ?_;refine zl Aa (mz y.a y.ab C.ao (C.n*C.ao) p o (C.cl p) (C.sz (C.cl p)) v C.A hv f0 e3 nb e4 f1) (.cons .here .nil) (λ_ le ak=>ak.1) ?_;refine au (λ_ s=>nI hy s) ?_;refine bn ?_;refine Rt [Cl b (C.wA (wr C.A (p+o) 8 v))] results180 ?_;exact⟨rfl,rfl⟩
theorem OM (a1 a2:FL)(c1 c2 m1 m2:Nat)(l1 l2:FI)(h1:m1=l1.length)(h2:m2=l2.length)(k1:l1.length<18446744073709551616)(k2:l2.length<18446744073709551616):
  aG aaa 144 [.slice a1 m1 c1, .slice a2 m2 c2] (λh=>gF h a1 (aj l1)/\gF h a2 (aj l2)) [] (λv H=>v= .bool (decide (l1=l2))/\H= []):=by
 refine af func144 rfl ntmps144 rfl ?_;rintro F ⟨r1,r2⟩;refine bn ?_;refine Li (Ts fS sE wu) ?_;refine aw ?_;refine Li (Ts fS sE wu) ?_;refine Li Sq ?_;refine bq ?_;refine Rt [] results144 ?_;exact⟨rfl,rfl⟩
theorem EV (m:Int):aG aaa 244 [Dm Dl m] uT [] (λv H=>v= .bool (decide (0<=m/\m<16))/\H= []):=by
 refine af func244 rfl ntmps244 rfl ?_;intro F _;refine bK ?_;refine bJ (t:=5) rfl ?_ ?_
 ·intro h
  replace h:=aO h;refine bs ?_;refine Rt [] results244 ?_;refine⟨?_,rfl⟩
  congr 2
  simp[h]
 intro h;replace h:=aO h;refine bs ?_;refine Rt [] results244 ?_;refine⟨?_,rfl⟩;rw[Ab]
theorem II (b:Nat)(C:Cs)(K:Ok C)(p:Nat)(L:Live C p)(hk:kl C.A p≠0)(hx:rd C.A (p+16) 8<9223372036854775808):
  aG aaa 147 [Dk b,Dm Dj (C.hd p)] (In (Cl b C)) []
   (λv H=>v= .tuple #[Dm Dl (rd C.A (p+16) 8:Nat),Dm Dl 0]/\H= []):=by
 refine af func147 rfl ntmps147 rfl ?_;intro F ak;refine bK ?_;refine zl Aa (vV b C K p 16 L hk (by omega)) .nil (λ_ le _=>In.mono ak le) ?_;refine fX ?_;refine jT [] results147 ?_;exact⟨rfl,rfl⟩
theorem A8 (b:Nat)(C:Cs)(K:Ok C)(p:Nat)(L:Live C p)(hk:kl C.A p≠0):
  aG aaa 148 [Dk b,Dm Dj (C.hd p)] (In (Cl b C)) []
   (λv H=>v= .tuple #[Dm Dj (rd C.A (p+32) 8:Nat),Dm Dl 0]/\H= []):=by
 refine af func148 rfl ntmps148 rfl ?_;intro F ak;refine bK ?_;refine zl Aa (vV b C K p 32 L hk (by omega)) .nil (λ_ le _=>In.mono ak le) ?_;refine bs ?_;refine jT [] results148 ?_;exact⟨rfl,rfl⟩
theorem qP (b:Nat)(C:Cs)(K:Ok C)(p:Nat)(L:Live C p)(hk:kl C.A p≠0):
  aG aaa 223 [Dk b,Dm Dj (C.hd p)] (In (Cl b C)) []
   (λv H=>v= .tuple #[Dm Dl (rd C.A (p+45) 1:Nat),Dm Dl 0]/\H= []):=by
 have hl:rd C.A (p+45) 1<256^1:=kh _ _ _;refine af func223 rfl ntmps223 rfl ?_;intro F ak;refine bK ?_;refine zl Aa (yX b C K p 45 L hk (by omega)) .nil (λ_ le _=>In.mono ak le) ?_;refine fX ?_;refine jT [] results223 ?_;exact⟨rfl,rfl⟩
theorem qQ (b:Nat)(C:Cs)(K:Ok C)(p:Nat)(L:Live C p)(hk:kl C.A p≠0):
  aG aaa 175 [Dk b,Dm Dj (C.hd p)] (In (Cl b C)) []
   (λv H=>v= .tuple #[Dm Dl (rd C.A (p+46) 1:Nat),Dm Dl 0]/\H= []):=by
 have hl:rd C.A (p+46) 1<256^1:=kh _ _ _;refine af func175 rfl ntmps175 rfl ?_;intro F ak;refine bK ?_;refine zl Aa (yX b C K p 46 L hk (by omega)) .nil (λ_ le _=>In.mono ak le) ?_;refine fX ?_;refine jT [] results175 ?_;exact⟨rfl,rfl⟩
theorem ak4 (b:Nat)(C:Cs)(K:Ok C)(p v:Nat)(hv:v<9223372036854775808)(L:Live C p)(hk:kl C.A p≠0):
  aG aaa 172 [Dk b,Dm Dj (C.hd p),Dm Dl v] uT [Cl b C]
   (λu H=>u=Dm Dl 0/\H= [Cl b (C.wA (wr C.A (p+16) 8 v))]):=by
 refine af func172 rfl ntmps172 rfl ?_;intro F _;refine bB ?_;refine aA (t:=12) (v':=(.bool true)) rfl (by rw[Ac]) ?_;refine zl Aa (sl b C K p 16 v (agY hv (by decide)) L hk (by omega)) (.cons .here .nil) Di ?_;refine bq ?_;refine Rt [Cl b (C.wA (wr C.A (p+16) 8 v))] results172 ?_;exact⟨rfl,rfl⟩
theorem zx (b:Nat)(C:Cs)(K:Ok C)(p v:Nat)(hv:v<9223372036854775808)(L:Live C p)(hk:kl C.A p≠0):
  aG aaa 177 [Dk b,Dm Dj (C.hd p),Dm Dl v] uT [Cl b C]
   (λu H=>u=Dm Dl 0/\H= [Cl b (C.wA (wr C.A (p+24) 8 v))]):=by
 refine af func177 rfl ntmps177 rfl ?_;intro F _;refine bB ?_;refine aA (t:=12) (v':=(.bool true)) rfl (by rw[Ac]) ?_;refine zl Aa (sl b C K p 24 v (agY hv (by decide)) L hk (by omega)) (.cons .here .nil) Di ?_;refine bq ?_;refine Rt [Cl b (C.wA (wr C.A (p+24) 8 v))] results177 ?_;exact⟨rfl,rfl⟩
theorem ak7 (b:Nat)(C:Cs)(K:Ok C)(p v:Nat)(hv:v<18446744073709551616)(L:Live C p)(hk:kl C.A p≠0):
  aG aaa 126 [Dk b,Dm Dj (C.hd p),Dm Dj v] uT [Cl b C]
   (λu H=>u=Dm Dl 0/\H= [Cl b (C.wA (wr C.A (p+32) 8 v))]):=by
 refine af func126 rfl ntmps126 rfl ?_;intro F _;refine bK ?_;refine zl Aa (sl b C K p 32 v (agj hv (by decide)) L hk (by omega)) (.cons .here .nil) Di ?_;refine bq ?_;refine Rt [Cl b (C.wA (wr C.A (p+32) 8 v))] results126 ?_;exact⟨rfl,rfl⟩
theorem k9 (b:Nat)(C:Cs)(K:Ok C)(p v:Nat)(hv:v<16)(L:Live C p)(hk:kl C.A p≠0):
  aG aaa 176 [Dk b,Dm Dj (C.hd p),Dm Dl v] uT [Cl b C]
   (λu H=>u=Dm Dl 0/\H= [Cl b (C.wA (wr C.A (p+46) 1 v))]):=by
 refine af func176 rfl ntmps176 rfl ?_;intro F _;refine cA ?_;refine zl Aa (EV (v:Int)) .nil Di ?_;refine aA (t:=12) (v':=(.bool true)) rfl (by rw[Ac]) ?_;refine zl Aa (AL b C K p 46 v (agY hv (by decide)) L hk (by omega)) (.cons .here .nil) Di ?_;refine bq ?_;refine Rt [Cl b (C.wA (wr C.A (p+46) 1 v))] results176 ?_;exact⟨rfl,rfl⟩
theorem uj (b:Nat)(C:Cs)(K:Ok C)(p v:Nat)(hv:1<=v/\v<=4)(L:Live C p)(hk:kl C.A p≠0):
  aG aaa 268 [Dk b,Dm Dj (C.hd p),Dm Dl v] uT [Cl b C]
   (λu H=>u=Dm Dl 0/\H= [Cl b (C.wA (wr C.A (p+45) 1 v))]):=by
 refine af func268 rfl ntmps268 rfl ?_;intro F _;refine bP ?_;refine zt 13 ?_;refine bq ?_;refine aA (t:=16) (v':=(.bool true)) rfl (by rw[Ac]) ?_;refine zl Aa (AL b C K p 45 v (agq hv.2 (by decide)) L hk (by omega)) (.cons .here .nil) Di ?_;refine bq ?_;refine Rt [Cl b (C.wA (wr C.A (p+45) 1 v))] results268 ?_;exact⟨rfl,rfl⟩
theorem E7 (k v:Nat)(hk:1<=k/\k<=250)(hv:v<=1048576):aG aaa 181 [Dm Dl k,Dm Dl v] uT []
   (λu H=>u= .tuple #[Dm Dl (58+k+v:Nat),Dm Dl 0]/\H= []):=by
 refine af func181 rfl ntmps181 rfl ?_;intro F _;refine bB ?_;refine zf 9 ?_;refine bn ?_;refine cN ?_;refine bc ?_;refine zf 16 ?_;refine bn ?_;refine cN ?_;refine dL ?_;refine jT [] results181 ?_;exact⟨rfl,rfl⟩
def okB (c:UInt8):Bool:=decide (32<c.toNat/\c.toNat≠127)
def du (l:FI):Bool:=decide (1<=l.length/\l.length<=250)&&l.all okB
theorem E1{l:FI}{k:Nat}(h:k<l.length)(hb:okB (l[k])=false):du l=false:=by
 unfold du;rw[Bool.and_eq_false_iff];right;rw[List.all_eq_false];exact⟨l[k],List.getElem_mem h,by rw[hb];decide⟩
theorem Uo{l:FI}{k:Nat}(h:∀i (h:i<l.length),i<k->okB l[i]=true)(hk:k<l.length)(hb:okB l[k]=true):∀i (h:i<l.length),i<k+1->okB l[i]=true:=λi hl hi=>by
 by_cases e:i<k
 ·exact h i hl e
 obtain rfl:i=k:=by omega
 exact hb
theorem E2 (a:FL)(c m:Nat)(l:FI)(hm:m=l.length)(hl:m<281474976710656):
  aG aaa 79 [.slice a m c] (λh=>gF h a (aj l)) [] (λv H=>v= .bool (du l)/\H= []):=by
 refine af func79 rfl ntmps79 rfl ?_;intro F r;refine cA ?_;refine bJ (t:=8) rfl ?_ ?_
 ·intro h1
  replace h1:=aO h1;refine bP ?_;refine Rt [] results79 ?_;refine⟨?_,rfl⟩;unfold du;rw[Ab];rfl
 intro h1;replace h1:=aO h1;refine bn ?_;refine az rfl ?_ ?_
 ·intro h2
  replace h2:=aO h2;refine bn ?_;refine Rt [] results79 ?_;refine⟨?_,rfl⟩;unfold du;rw[Ab];rfl
 intro h2;replace h2:=aO h2;refine cA ?_;refine Lo (ι:=Nat) (FN [2,1,4,1,15,11]) (λk=>k<=m/\∀i (h:i<l.length),i<k->okB l[i]=true) (λk=> [(15,Dm Dl k)]) (λk=> []) (λk=>m-k) (0) ⟨Nat.zero_le _,λi _ h=>absurd h (Nat.not_lt_zero _)⟩ ?_;rintro k hI;refine bq ?_;refine av ?_;refine az rfl ?_ ?_
 ·intro hk
  replace hk:=aO hk;have cJ:k<l.length:=by omega
  have kb:(aj l)[k]?=some (Dm ala (l[k].toNat:Nat)):=by unfold aj;rw[List.getElem?_map,List.getElem?_eq_getElem cJ];rfl
  have hc:=l[k].toNat_lt;refine bn ?_;refine Li (Ix fS) ?_;refine bK ?_;refine bJ (t:=21) rfl ?_ ?_
  ·intro h3
   replace h3:=aO h3;refine fX ?_;refine Rt [] results79 ?_;exact⟨by rw[E1 cJ (Ab)],rfl⟩
  intro h3;replace h3:=aO h3;refine bc ?_;refine az rfl ?_ ?_
  ·intro h4
   replace h4:=aO h4;refine cA ?_;refine Rt [] results79 ?_;exact⟨by rw[E1 cJ (Ab)],rfl⟩
  intro h4;replace h4:=aO h4;refine bs ?_;refine aD ?_;refine Ro (k+1) (⟨by omega,Uo hI.2 cJ (Ac)⟩) ((by omega))
 intro hk;replace hk:=aO hk;refine cA ?_;refine Rt [] results79 ?_;refine⟨?_,rfl⟩;unfold du;rw[Ac,Bool.true_and];rw[eq_comm,Value.bool.injEq,List.all_eq_true];intro x hx;obtain⟨i,hi,rfl⟩:=List.getElem_of_mem hx;exact hI.2 i hi (by omega)
def nO:FK->Nat
 |none=>0
 |some q=>q/8+1
def hO (C:Cs):FK->Nat
 |none=>0
 |some q=>C.hd q
theorem qC (q:Nat):nO (some q)=q/8+1:=rfl
theorem bZ (C:Cs)(q:Nat):hO C (some q)=C.hd q:=rfl
def di (C:Cs)(o:FK):Prop:=∀q,o=some q->Live C q
theorem wb (b:Nat)(C:Cs)(K:Ok C)(p:Nat)(L:Live C p)(hk:kl C.A p≠0):
  aG aaa 251 [Dk b,Dm Dj (C.hd p)] (In (Cl b C)) []
   (λv H=>v= .tuple #[Dm Dl (kl C.A p:Nat),Dm Dl (vl C.A p:Nat),Dm Dl 0]/\H= []):=by
 refine x8 λy hy=> ?_;obtain⟨n1,n2,_⟩:=L.toAt.ba K;have nb:=fU K.toFix;have f0:=K.toFix.pos;have f1:=K.toFix.p1;obtain⟨e1,e2⟩:=L.toAt.off K (o:=44) (w:=1) (by omega);obtain⟨e3,e4⟩:=L.toAt.off K (o:=48) (w:=4) (by omega);refine af func251 rfl ntmps251 rfl ?_;intro F ak;refine cV ?_;refine zl Aa (jW b C y K hy p L) .nil (λ_ le _=>In.mono ak le) ?_;unfold qy;refine bq ?_;refine Lp (oA gL λb1=> ?_);refine cV ?_;refine zf 16 ?_ (e:=by rfl);refine aw ?_;refine zl Aa (fZ y.a y.ab C.ao (C.n*C.ao) p (C.cl p) (C.sz (C.cl p)) C.A f0 e1 nb e2 f1) .nil (λ_ le _=>fu ak le) ?_;refine bq ?_;refine cN ?_;refine bd ?_;refine av ?_;refine iU 8 mix (.cons .here .nil) λF1 jD bV aI=> ?_;obtain⟨hb,_⟩:=bV;refine aw ?_;refine Tp (oZ (Aa (n:=143)) (fZ y.a y.ab C.ao (C.n*C.ao) p (C.cl p) (C.sz (C.cl p)) C.A f0 e1 nb e2 f1) .nil (λ_ le _=>fu (In.mono ak jD) le) ?_);refine aw ?_;refine Tp (oZ (Aa (n:=151)) (vA y.a y.ab C.ao (C.n*C.ao) p (C.cl p) (C.sz (C.cl p)) C.A f0 e3 nb e4 f1) .nil (λ_ le _=>fu (In.mono ak jD) le) ?_);refine bc ?_;refine gI aI ?_;refine bd ?_;refine Rt3 [] results251 ?_;exact⟨rfl,rfl⟩
theorem nt (b:Nat)(C:Cs)(K:Ok C)(p i:Nat)(o:FK)(L:Live C p)(hk:kl C.A p≠0)(hi:i<=2)(ho:di C o)(hn:rd C.A (p+4*i) 4=nO o):
  aG aaa 146 [Dk b,Dm Dj (C.hd p),Dm Dl i] (In (Cl b C)) []
   (λv H=>v= .tuple #[Dm Dj (hO C o),Dm Dl 0]/\H= []):=by
 refine x8 λy hy=> ?_;obtain⟨n1,n2,_⟩:=L.toAt.ba K;have nb:=fU K.toFix;have f0:=K.toFix.pos;have f1:=K.toFix.p1;obtain⟨e1,e2⟩:=L.toAt.off K (o:=44) (w:=1) (by omega);obtain⟨e3,e4⟩:=L.toAt.off K (o:=4*i) (w:=4) (by omega);refine af func146 rfl ntmps146 rfl ?_;intro F ak;refine bK ?_;refine zl Aa (jW b C y K hy p L) .nil (λ_ le _=>In.mono ak le) ?_;unfold qy;refine bq ?_;refine Lp (oA gL λb1=> ?_);refine lx ?_;refine zf 26 ?_;refine bn ?_;refine cN ?_;refine bd ?_;refine zl Aa (fZ y.a y.ab C.ao (C.n*C.ao) p (C.cl p) (C.sz (C.cl p)) C.A f0 e1 nb e2 f1) .nil (λ_ le _=>fu ak le) ?_;refine bq ?_;refine cN ?_;refine cV ?_;refine aA (t:=37) (v':=(Dm Dl (4*i:Nat))) rfl (by rw[aki];rfl) ?_;refine zl Aa (qw y.a y.ab C.ao (C.n*C.ao) p (4*i) (C.cl p) (C.sz (C.cl p)) C.A f0 e3 nb e4 f1) .nil (λ_ le _=>fu ak le) ?_;rw[hn];rcases o with _|q
 ·refine Li As ?_
  refine gJ ?_;refine jT [] results146 ?_;exact⟨rfl,rfl⟩
 have M:=ho q rfl;obtain⟨m1,m2,m3,m4,m5,m6⟩:=bM K M.toAt;rw[qC];refine bK ?_;refine cN ?_;refine cV ?_;refine aA (t:=46) (v':=(Dm Dl q)) rfl (by rw[show(8:Int)*(((q/8+1:Nat):Int)-1)=(q:Int) by omega]) ?_;refine zl Aa (aaE b C K q M) .nil (λ_ le _=>Ek hy ak le) ?_;refine cK ?_;refine jT [] results146 ?_;exact⟨rfl,rfl⟩
theorem ee (b:Nat)(C:Cs)(K:Ok C)(p i:Nat)(o:FK)(L:Live C p)(hk:kl C.A p≠0)(hi:i<=2)(ho:di C o):
  aG aaa 253 [Dk b,Dm Dj (C.hd p),Dm Dl i,Dm Dj (hO C o)] uT [Cl b C]
   (λu H=>u=Dm Dl 0/\H= [Cl b (C.wA (wr C.A (p+4*i) 4 (nO o)))]):=by
 refine nq λy hy=> ?_;obtain⟨n1,n2,_⟩:=L.toAt.ba K;have nb:=fU K.toFix;have f0:=K.toFix.pos;have f1:=K.toFix.p1;obtain⟨e3,e4⟩:=L.toAt.off K (o:=4*i) (w:=4) (by omega);have hw:nO o<256^4:=by
  rcases o with _|q
  ·exact Nat.pow_pos (by decide)
  obtain⟨_,_,m3,m4,_⟩:=bM K (ho q rfl).toAt;rw[qC];rw[show 256^4=4294967296 from rfl];omega
 have hm:IntKind.u32.wrap (hO C o:Int)=(nO o:Int):=by
  rcases o with _|q
  ·rfl
  obtain⟨m1,_⟩:=bM K (ho q rfl).toAt;rw[IntKind.wrap_u32,qC,bZ];omega
 refine af func253 rfl ntmps253 rfl ?_;intro F _;refine bs ?_;refine zl Aa (xg b C y K hy p L hk) .nil (λ_ le ak=>ak.1) ?_;unfold qy;refine bq ?_;refine Lp (oA gL λb1=> ?_);refine lx ?_;refine zf 27 ?_;refine bn ?_;refine cN ?_;refine bq ?_;refine av ?_;refine eK (ι:=Unit) (FN [8,1,11,3,31,11]) (λu=>True) (λu=> [(3,Dm Dj (hO C o)),(2,Dm Dl i),(9,Dk b1)]) (λu=> [CL b C y,ag b1 231 [Dk y.a,Dm Dl p,Dm Dl (C.cl p),Dm Dl (C.sz (C.cl p))]]) ?_ ?_
 ·rcases o with _|q
  ·refine gK ?_
   refine bn ?_;refine Me (()) (trivial)
  have M:=ho q rfl;obtain⟨m1,m2,m3,m4,m5,m6⟩:=bM K M.toAt;rw[bZ];refine bc ?_;refine fe ?_ (e:=by exact by rw[Ab];rfl);refine bq ?_;refine zl Aa (vS b C K q M) .nil (λ_ le ak=>Ek hy ak.2.1 (Le.refl _)) ?_;refine fX ?_;refine Me (()) (trivial)
 rintro u hI;refine bc ?_;refine aA (t:=44) (v':=(Dm Dl (4*i:Nat))) rfl (by rfl) ?_;refine aw ?_;refine aA (t:=45) (v':=(Dm Dl (4*i:Nat))) rfl (by rw[aki]) ?_;refine bd ?_;refine aA (t:=47) (v':=(Dm alb (nO o))) rfl (by rw[hm]) ?_;refine Ef ?_;refine zl Aa (kE y.a y.ab C.ao (C.n*C.ao) p (4*i) (C.cl p) (C.sz (C.cl p)) (nO o) C.A hw f0 e3 nb e4 f1) (.cons .here .nil) (λ_ le ak=>ak.1) ?_;refine au (λ_ s=>nI hy s) ?_;refine bn ?_;refine Rt [Cl b (C.wA (wr C.A (p+4*i) 4 (nO o)))] results253 ?_;exact⟨rfl,rfl⟩
def DL (ka va:Value)(fl exp tch tok st mk:Nat):FJ:= [ka,va,Dm Dj fl,Dm Dl exp,Dm Dl tch,Dm Dj tok,Dm Dl st,Dm Dl mk]
structure gD (C:Cs)(p:Nat):Prop where
 k0:kl C.A p≠0
 fits:58+kl C.A p+vl C.A p<=C.sz (C.cl p)
 exp:rd C.A (p+16) 8<9223372036854775808
 tch:rd C.A (p+24) 8<9223372036854775808
def aH (A:By)(p:Nat):FI:=jS A (p+56) (kl A p)
def j8 (A:By)(p:Nat):FI:=jS A (p+56+kl A p) (vl A p)
theorem tT (b:Nat)(C:Cs)(K:Ok C)(p:Nat)(L:Live C p)(I:gD C p):
  aG aaa 98 [Dk b,Dm Dj (C.hd p)] (In (Cl b C)) []
   (λv H=>∃kb vb,v= .tuple #[.agg (DL (.slice (some ⟨kb,0,none⟩) (kl C.A p) (kl C.A p)) (.slice (some ⟨vb,0,none⟩) (vl C.A p) (vl C.A p)) (rd C.A (p+40) 4) (rd C.A (p+16) 8) (rd C.A (p+24) 8) (rd C.A (p+32) 8) (rd C.A (p+45) 1) (rd C.A (p+46) 1)).toArray,Dm Dl 0]/\
    H= [own (some ⟨kb,0,none⟩) (kl C.A p) 5 1 (aj (aH C.A p)),own (some ⟨vb,0,none⟩) (vl C.A p) 5 1 (aj (j8 C.A p))]):=by
 refine x8 λy hy=> ?_;obtain⟨n1,n2,n3,_⟩:=L.toAt.ba K;have nb:=fU K.toFix;have f0:=K.toFix.pos;have f1:=K.toFix.p1;have hk:=I.k0;have hf:=I.fits;have hx:=I.exp;have ht:=I.tch;have off:=λ{o w:Nat} (h:o+w<=C.sz (C.cl p))=>L.toAt.off K h;obtain⟨e1,e2⟩:=off (o:=44) (w:=1) (by omega);obtain⟨e3,e4⟩:=off (o:=48) (w:=4) (by omega);obtain⟨e5,e6⟩:=off (o:=56) (w:=kl C.A p) (by omega);obtain⟨e7,e8⟩:=off (o:=56+kl C.A p) (w:=vl C.A p) (by omega);obtain⟨g1,g2⟩:=off (o:=40) (w:=4) (by omega);obtain⟨g3,g4⟩:=off (o:=16) (w:=8) (by omega);obtain⟨g5,g6⟩:=off (o:=24) (w:=8) (by omega);obtain⟨g7,g8⟩:=off (o:=32) (w:=8) (by omega);obtain⟨j1,j2⟩:=off (o:=45) (w:=1) (by omega);obtain⟨j3,j4⟩:=off (o:=46) (w:=1) (by omega);have r1:rd C.A (p+40) 4<256^4:=kh _ _ _;have r2:rd C.A (p+45) 1<256^1:=kh _ _ _;have r3:rd C.A (p+46) 1<256^1:=kh _ _ _;refine af func98 rfl ntmps98 rfl ?_;intro F ak;refine aw ?_;refine Lp (oA bT λb1=> ?_);refine bn ?_;refine zl Aa (jW b C y K hy p L) .nil (λ_ le _=>In.mono ak le) ?_;unfold qy;refine bq ?_;refine Lp (oA gL λb2=> ?_);refine cV ?_;refine zf 16 ?_ (e:=by rfl);refine aw ?_;refine zl Aa (fZ y.a y.ab C.ao (C.n*C.ao) p (C.cl p) (C.sz (C.cl p)) C.A f0 e1 nb e2 f1) .nil (λ_ le _=>fu ak le) ?_;refine bq ?_;refine cN ?_;refine bd ?_;refine av ?_;refine iU 28 mix (.cons .here .nil) λF1 jD bV aI=> ?_;obtain⟨hb,_⟩:=bV;have eL:=In.mono ak jD;refine bd ?_;refine Tp (oZ (Aa (n:=143)) (fZ y.a y.ab C.ao (C.n*C.ao) p (C.cl p) (C.sz (C.cl p)) C.A f0 e1 nb e2 f1) .nil (λ_ le _=>fu eL le) ?_);refine Tp (oC Aa rfl rfl (yQ y.a y.ab C.ao (C.n*C.ao) p 56 (C.cl p) (C.sz (C.cl p)) (kl C.A p) C.A f0 e5 nb e6 f1) .nil (λ_ le _=>fu eL le) ?_);rintro v H' ⟨kb,rfl,rfl⟩;refine bR ?_;refine bd ?_;refine Tp (oZ (Aa (n:=143)) (fZ y.a y.ab C.ao (C.n*C.ao) p (C.cl p) (C.sz (C.cl p)) C.A f0 e1 nb e2 f1) .nil (λ_ le _=>fu eL le) ?_);refine aw ?_;refine aA (t:=30) (v':=(Dm Dl (56+kl C.A p:Nat))) rfl (by rfl) ?_;refine aw ?_;refine Tp (oZ (Aa (n:=151)) (vA y.a y.ab C.ao (C.n*C.ao) p (C.cl p) (C.sz (C.cl p)) C.A f0 e3 nb e4 f1) .nil (λ_ le _=>fu eL le) ?_);refine Tp (oC Aa rfl rfl (yQ y.a y.ab C.ao (C.n*C.ao) p (56+kl C.A p) (C.cl p) (C.sz (C.cl p)) (vl C.A p) C.A f0 e7 nb e8 f1) .nil (λ_ le _=>fu eL le) ?_);rintro v H' ⟨vb,rfl,rfl⟩;refine bR ?_;refine aw ?_;refine Tp (oZ (Aa (n:=152)) (qw y.a y.ab C.ao (C.n*C.ao) p 40 (C.cl p) (C.sz (C.cl p)) C.A f0 g1 nb g2 f1) .nil (λ_ le _=>fu eL le) ?_);refine Ti (Cv GC GS) ?_;refine aw ?_;refine Tp (oZ (Aa (n:=153)) (mA y.a y.ab C.ao (C.n*C.ao) p 16 (C.cl p) (C.sz (C.cl p)) C.A f0 g3 nb g4 f1) .nil (λ_ le _=>fu eL le) ?_);refine Ti (Cv u_3 Jd) ?_;refine aw ?_;refine Tp (oZ (Aa (n:=153)) (mA y.a y.ab C.ao (C.n*C.ao) p 24 (C.cl p) (C.sz (C.cl p)) C.A f0 g5 nb g6 f1) .nil (λ_ le _=>fu eL le) ?_);refine Ti (Cv u_3 Jd) ?_;refine aw ?_;refine Tp (oZ (Aa (n:=153)) (mA y.a y.ab C.ao (C.n*C.ao) p 32 (C.cl p) (C.sz (C.cl p)) C.A f0 g7 nb g8 f1) .nil (λ_ le _=>fu eL le) ?_);refine aw ?_;refine Tp (oZ (Aa (n:=154)) (oO y.a y.ab C.ao (C.n*C.ao) p 45 (C.cl p) (C.sz (C.cl p)) C.A f0 j1 nb j2 f1) .nil (λ_ le _=>fu eL le) ?_);refine Ti (Cv u_3 ab4) ?_;refine aw ?_;refine Tp (oZ (Aa (n:=154)) (oO y.a y.ab C.ao (C.n*C.ao) p 46 (C.cl p) (C.sz (C.cl p)) C.A f0 j3 nb j4 f1) .nil (λ_ le _=>fu eL le) ?_);refine Ti (Cv u_3 ab4) ?_;refine gI aI ?_;refine aw ?_;refine Tp (jh dX ?_);refine bq ?_;refine LI [own (some ⟨kb,0,none⟩) (kl C.A p) 5 1 (aj (jS C.A (p+56) (kl C.A p))),own (some ⟨vb,0,none⟩) (vl C.A p) 5 1 (aj (jS C.A (p+(56+kl C.A p)) (vl C.A p)))] dX results98 ?_;exact⟨kb,vb,rfl,by unfold aH j8;rw[ag4 p 56]⟩
theorem E8 (b:Nat)(C:Cs)(K:Ok C)(p:Nat)(L:Live C p)(I:gD C p)(a:FL)(m c:Nat)(l:FI)(hm:m=l.length)(hl:l.length<281474976710656):
  aG aaa 95 [Dk b,Dm Dj (C.hd p), .slice a m c] (λh=>In (Cl b C) h/\gF h a (aj l)) []
   (λv H=>v= .bool (decide (aH C.A p=l))/\H= []):=by
 suffices h:∀y,gC C y->aG aaa 95 [Dk b,Dm Dj (C.hd p), .slice a m c] (λh=>In (CL b C y) h/\gF h a (aj l)) []
   (λv H=>v= .bool (decide (aH C.A p=l))/\H= [])from λF w hp s=>by
  obtain⟨⟨k,⟨y,hy,q⟩,le⟩,r⟩:=hp;exact h y hy F w ⟨⟨k,q,le⟩,r⟩ s
 intro y hy;obtain⟨n1,n2,n3,_⟩:=L.toAt.ba K;have nb:=fU K.toFix;have f0:=K.toFix.pos;have f1:=K.toFix.p1;have hk:=I.k0;have hf:=I.fits;have off:=λ{o w:Nat} (h:o+w<=C.sz (C.cl p))=>L.toAt.off K h;obtain⟨e1,e2⟩:=off (o:=44) (w:=1) (by omega);obtain⟨e5,e6⟩:=off (o:=56) (w:=kl C.A p) (by omega);refine af func95 rfl ntmps95 rfl ?_;rintro F ⟨ak,hr⟩;refine bs ?_;refine zl Aa (jW b C y K hy p L) .nil (λ_ le _=>In.mono ak le) ?_;unfold qy;refine bq ?_;refine Lp (oA gL λb1=> ?_);refine bq ?_;refine av ?_;refine iU 15 mix (.cons .here .nil) λF1 jD bV aI=> ?_;obtain⟨hb,_⟩:=bV;have eL:=In.mono ak jD;have I7:=gF.mono hr jD;refine bq ?_;refine zt 17 ?_ (e:=by rfl);refine aw ?_;refine Tp (oZ (Aa (n:=143)) (fZ y.a y.ab C.ao (C.n*C.ao) p (C.cl p) (C.sz (C.cl p)) C.A f0 e1 nb e2 f1) .nil (λ_ le _=>fu eL le) ?_);refine bd ?_;refine aA (t:=21) (v':=(.bool true)) rfl (by rw[Ac]) ?_;refine aw ?_;refine zt 22 ?_ (e:=by rfl);refine bd ?_;refine Tp (oZ (Aa (n:=143)) (fZ y.a y.ab C.ao (C.n*C.ao) p (C.cl p) (C.sz (C.cl p)) C.A f0 e1 nb e2 f1) .nil (λ_ le _=>fu eL le) ?_);refine Tp (oC Aa rfl rfl (yQ y.a y.ab C.ao (C.n*C.ao) p 56 (C.cl p) (C.sz (C.cl p)) (kl C.A p) C.A f0 e5 nb e6 f1) .nil (λ_ le _=>fu eL le) ?_);rintro v H' ⟨kb,rfl,rfl⟩;refine bR ?_;refine aw ?_;refine Tp (oZ (Aa (n:=144)) (OM (some ⟨kb,0,none⟩) a (kl C.A p) c (kl C.A p) m (aH C.A p) l (by unfold aH;rw[cE]) hm (by unfold aH;rw[cE];omega) (by omega)) .nil (λ_ le ak=>⟨bX ak.1,I7.mono le⟩) ?_);refine aw ?_;refine gI aI ?_;refine bq ?_;refine Rt [] results95 ?_;exact⟨rfl,rfl⟩
def crlf:FI:= [13,10]
def eZ (A:By)(p:Nat)(v:FI):By:=
 lay (lay (wr A (p+48) 4 v.length) (p+56+kl A p) v) (p+56+kl A p+v.length) crlf
theorem aiO (A:By)(p w v:Nat):kl (wr A (p+48) w v) p=kl A p:=aM A _ w v _ _ (.inl (by omega))
theorem KK (a ab ao n p c s m cc:Nat)(sa:FL)(l:FI)(A:By)(hm:m=l.length)(hl:l.length<4294967296)(h0:0<ao)(h2:n<=1073741824)(h4:ao<=1048576)
  (off:∀o w,o+w<=s->p+o+w<=n/\(p+o) % ao+w<=ao) (hs:58+kl A p+l.length<=s):
  aG aaa 179 [.agg (qy a p c s).toArray, .slice sa m cc] (λh=>In (ag a 249 (iq ab ao n)) h/\gF h sa (aj l)) [ag ab 5 (dK A n)]
   (λu H=>u= .tuple #[]/\H= [ag ab 5 (dK (eZ A p l) n)]):=by
 obtain⟨e1,e2⟩:=off 44 1 (by omega);obtain⟨e3,e4⟩:=off 48 4 (by omega);obtain⟨e5,e6⟩:=off (56+kl A p) l.length (by omega);obtain⟨e7,e8⟩:=off (56+kl A p+l.length) 2 (by omega);subst hm;have hkw:=aiO A p 4 l.length;unfold qy;refine af func179 rfl ntmps179 rfl ?_;rintro F ⟨ha,hr⟩;refine aw ?_;refine Lp (oB λb1=> ?_);refine bs ?_;refine zl Aa (kE a ab ao n p 48 c s l.length A (by omega) h0 e3 h2 e4 h4) (.cons (.there .here) .nil) (λ_ le _=>ha.mono le) ?_;refine bq ?_;refine zl Aa (fZ a ab ao n p c s (wr A (p+48) 4 l.length) h0 e1 h2 e2 h4) .nil (λ_ le ak=>⟨ha.mono le,ak.1⟩) ?_;rw[hkw];refine bc ?_;refine aA (t:=15) (v':=(Dm Dl (56+kl A p+l.length:Nat))) rfl (by rfl) ?_;refine dL ?_;refine aA (t:=24) (v':=(Dm Dl (p+(56+kl A p):Nat))) rfl (by(congr 1;omega)) ?_;refine aw ?_;refine zl Aa (qt a ab ao n (p+(56+kl A p)) l.length cc (wr A (p+48) 4 l.length) sa l rfl h0 e5 h2 e6 h4) (.cons .here .nil) (λ_ le _=>⟨ha.mono le,hr.mono le⟩) ?_;refine cV ?_;refine aA (t:=32) (v':=(Dm Dl (p+(56+kl A p+l.length):Nat))) rfl (by rfl) ?_;refine Lp (oT iJ λb2=> ?_);refine Lp (oMk me sE ?_);refine zl Aa (qt a ab ao n (p+(56+kl A p+l.length)) 2 2 (lay (wr A (p+48) 4 l.length) (p+(56+kl A p)) l) (some ⟨b2,0,none⟩) crlf rfl h0 e7 h2 e8 h4) (.cons (.there .here) .nil) (λ_ le ak=>⟨ha.mono le,by obtain⟨⟨k,q,l⟩,_⟩:=ak;exact(qB (i:=0) q).mono l⟩) ?_;refine aD ?_;rw[show lay (lay (wr A (p+48) 4 l.length) (p+(56+kl A p)) l) (p+(56+kl A p+l.length)) crlf=eZ A p l by unfold eZ;rw[ag4 p,ag4 p]];refine jU [ag ab 5 (dK (eZ A p l) n)] results179 ?_;exact⟨rfl,rfl⟩
theorem MO (b:Nat)(C:Cs)(K:Ok C)(p:Nat)(L:Live C p)(hk:kl C.A p≠0)(a:FL)(m c:Nat)(l:FI)(hm:m=l.length)(hf:58+kl C.A p+l.length<=C.sz (C.cl p)):
  aG aaa 125 [Dk b,Dm Dj (C.hd p), .slice a m c] (λh=>gF h a (aj l)) [Cl b C]
   (λv H=>v=Dm Dl 0/\H= [Cl b (C.wA (eZ C.A p l))]):=by
 refine nq λy hy=> ?_;obtain⟨n1,n2,n3,_⟩:=L.toAt.ba K;have nb:=fU K.toFix;have f0:=K.toFix.pos;have f1:=K.toFix.p1;have off:=λ(o w:Nat) (h:o+w<=C.sz (C.cl p))=>L.toAt.off K h;obtain⟨e1,e2⟩:=off 44 1 (by omega);refine af func125 rfl ntmps125 rfl ?_;intro F hr;refine bs ?_;refine zl Aa (xg b C y K hy p L hk) .nil (λ_ le ak=>ak.1) ?_;unfold qy;refine bq ?_;refine Lp (oA gL λb1=> ?_);refine bc ?_;refine av ?_;refine iU 12 mix (.cons .here (.cons .here .nil)) λF1 jD bV aI=> ?_;obtain⟨hb,cQ,_⟩:=bV;have I7:=gF.mono hr jD;refine bq ?_;refine zt 17 ?_ (e:=by rfl);refine bs ?_;refine Tp (oZ (Aa (n:=143)) (fZ y.a y.ab C.ao (C.n*C.ao) p (C.cl p) (C.sz (C.cl p)) C.A f0 e1 nb e2 f1) .nil (λ_ le ak=>fu cQ le) ?_);refine bd ?_;refine gI aI ?_;refine aA (t:=26) (v':=(.bool false)) rfl (by(rw[hm];rw[Ab])) ?_;refine fX ?_;refine Hh (H':= [CL b C y,ag b1 231 [Dk y.a,Dm Dl p,Dm Dl (C.cl p),Dm Dl (C.sz (C.cl p))]]) ?_;refine Ef ?_;refine zl Aa (KK y.a y.ab C.ao (C.n*C.ao) p (C.cl p) (C.sz (C.cl p)) m c a l C.A hm (by omega) f0 nb f1 off hf) (.cons .here .nil) (λ_ le ak=>⟨ak.1,hr.mono le⟩) ?_;refine au (λ_ s=>nI hy s) ?_;refine bs ?_;refine Rt [Cl b (C.wA (eZ C.A p l))] results125 ?_;exact⟨rfl,rfl⟩
def pf (A:By)(p k:Nat):By:=(List.range k).foldl (λA i=>wr A (p+4*i) 4 0) A
def I9 (A:By)(p c kn fl exp tch tok st mk:Nat):By:=
 wr (wr (wr (wr (wr (wr (wr (wr (wr (pf A p 3) (p+16) 8 exp) (p+24) 8 tch) (p+32) 8 tok) (p+40) 4 fl) (p+44) 1 kn) (p+45) 1 st) (p+46) 1 mk) (p+47) 1 c) (p+52) 4 0
def lB (A:By)(p c:Nat)(k v:FI)(fl exp tch tok st mk:Nat):By:=
 eZ (lay (I9 A p c k.length fl exp tch tok st mk) (p+56) k) p v
theorem tU (A:By)(p k:Nat):pf A p (k+1)=wr (pf A p k) (p+4*k) 4 0:=by unfold pf;rw[List.range_succ,List.foldl_append];rfl
theorem Hd (A:By)(p c kn fl exp tch tok st mk:Nat)(k:FI)(h:kn<256):kl (lay (I9 A p c kn fl exp tch tok st mk) (p+56) k) p=kn:=by
 unfold kl I9;rw[eX _ _ _ _ _ (.inl (by omega)),aM _ _ _ _ _ _ (.inl (by omega)),aM _ _ _ _ _ _ (.inl (by omega)),aM _ _ _ _ _ _ (.inl (by omega)),aM _ _ _ _ _ _ (.inl (by omega)),dz];exact abZ (by rw[Nat.pow_one];exact h)
theorem gn{l:FI}(h:du l=true):1<=l.length/\l.length<=250:=by
 unfold du at h;rw[Bool.and_eq_true,decide_eq_true_iff]at h;exact h.1
theorem Km (b:Nat)(C:Cs)(K:Ok C)(p:Nat)(L:Live C p)(ka va:FL)(kc vc km vm:Nat)(k v:FI)(hkm:km=k.length)(hvm:vm=v.length)(fl exp tch tok st mk:Nat)
  (hl:du k=true) (hf:58+k.length+v.length<=C.sz (C.cl p)) (h1:fl<4294967296) (h2:exp<9223372036854775808) (h3:tch<9223372036854775808) (h4:tok<18446744073709551616) (h5:1<=st/\st<=4) (h6:mk<16):
  aG aaa 186 [Dk b,Dm Dj (C.hd p), .agg (DL (.slice ka km kc) (.slice va vm vc) fl exp tch tok st mk).toArray] (λh=>gF h ka (aj k)/\gF h va (aj v)) [Cl b C]
   (λu H=>u=Dm Dl 0/\H= [Cl b (C.wA (lB C.A p (C.cl p) k v fl exp tch tok st mk))]):=by
 refine nq λy hy=> ?_;obtain⟨n0,n1,n2,n3,_⟩:=L.toAt.ba K;have nb:=fU K.toFix;have f0:=K.toFix.pos;have f1:=K.toFix.p1;have f2:=K.toFix.l1;obtain⟨l1,l2⟩:=gn hl;have off:=λ(o w:Nat) (h:o+w<=C.sz (C.cl p))=>L.toAt.off K h;have mR:=λ(o w:Nat) (h:o+w<=64)=>L.toAt.off K (o:=o) (w:=w) (by omega);subst hkm;subst hvm;have uz:=λX=>Hd X p (C.cl p) k.length fl exp tch tok st mk k (by omega);unfold DL;refine af func186 rfl ntmps186 rfl ?_;rintro F ⟨Gt,I7⟩;refine aw ?_;refine Lp (oB λb1=> ?_);refine bn ?_;refine zl Aa (jW b C y K hy p L) .nil (λ_ le ak=>ak.2.1) ?_;unfold qy;refine bq ?_;refine Lp (oA gL λb2=> ?_);refine fX ?_;refine zl Aa (E2 ka kc k.length k rfl (by omega)) .nil (λ_ le _=>Gt.mono le) ?_;rw[hl];refine rM ?_;refine cN ?_;refine bn ?_;refine zf 41 ?_;refine bn ?_;refine zf 46 ?_;refine bd ?_;refine zl Aa (EV (mk:Int)) .nil Di ?_;refine aw ?_;refine aA (t:=50) (v':=(.bool false)) rfl (by(rw[Ac];rfl)) ?_;refine bd ?_;refine zf 52 ?_ (e:=by rfl);refine bn ?_;refine zf 57 ?_;refine bn ?_;refine zf 62 ?_;refine bc ?_;refine aA (t:=66) (v':=(.bool false)) rfl (by(rw[Ab])) ?_;refine bP ?_;refine au (H':= [CL b C y,ag b2 231 [Dk y.a,Dm Dl p,Dm Dl (C.cl p),Dm Dl (C.sz (C.cl p))],ag b1 159 [.slice ka k.length kc, .slice va v.length vc,Dm Dj fl,Dm Dl exp,Dm Dl tch,Dm Dj tok,Dm Dl st,Dm Dl mk]]) (by exact Eh) ?_;refine Ef ?_;refine au (H':= [ag y.ab 5 (dK (pf C.A p 0) (C.n*C.ao)),ag y.a 249 (iq y.ab C.ao (C.n*C.ao)),clR b C y,ag b2 231 [Dk y.a,Dm Dl p,Dm Dl (C.cl p),Dm Dl (C.sz (C.cl p))],ag b1 159 [.slice ka k.length kc, .slice va v.length vc,Dm Dj fl,Dm Dl exp,Dm Dl tch,Dm Dj tok,Dm Dl st,Dm Dl mk]]) (λ_ s=>s) ?_;refine Lo (ι:=Nat) (FN [9,1,67,9]) (λi=>i<=3) (λi=> [(67,Dm Dl i)]) (λi=> [ag y.ab 5 (dK (pf C.A p i) (C.n*C.ao)),ag y.a 249 (iq y.ab C.ao (C.n*C.ao)),clR b C y,ag b2 231 [Dk y.a,Dm Dl p,Dm Dl (C.cl p),Dm Dl (C.sz (C.cl p))],ag b1 159 [.slice ka k.length kc, .slice va v.length vc,Dm Dj fl,Dm Dl exp,Dm Dl tch,Dm Dj tok,Dm Dl st,Dm Dl mk]]) (λi=>3-i) (0) (by simp) ?_;rintro i hI;refine bq ?_;refine av ?_;refine az rfl ?_ ?_
 ·intro hi
  replace hi:=aO hi;refine dL ?_;refine aA (t:=72) (v':=(Dm Dl (4*i:Nat))) rfl (by rfl) ?_;refine aw ?_;refine aA (t:=73) (v':=(Dm Dl (4*i:Nat))) rfl (by rw[aki]) ?_;refine zl Aa (kE y.a y.ab C.ao (C.n*C.ao) p (4*i) (C.cl p) (C.sz (C.cl p)) 0 (pf C.A p i) (by decide) f0 (mR (4*i) 4 (by omega)).1 nb (mR (4*i) 4 (by omega)).2 f1) (.cons .here .nil) (λ_ le ak=>ak.1) ?_;rw[<-tU];refine bs ?_;refine aD ?_;refine Ro (i+1) (by omega) (by omega)
 intro hi;replace hi:=aO hi;obtain rfl:i=3:=by omega
 refine bB ?_;refine zl Aa (mz y.a y.ab C.ao (C.n*C.ao) p 16 (C.cl p) (C.sz (C.cl p)) exp (pf C.A p 3) (agY h2 (by decide)) f0 (mR 16 8 (by omega)).1 nb (mR 16 8 (by omega)).2 f1) (.cons .here .nil) (λ_ le ak=>ak.1) ?_;refine bs ?_;refine zl Aa (mz y.a y.ab C.ao (C.n*C.ao) p 24 (C.cl p) (C.sz (C.cl p)) tch (wr (pf C.A p 3) (p+16) 8 exp) (agY h3 (by decide)) f0 (mR 24 8 (by omega)).1 nb (mR 24 8 (by omega)).2 f1) (.cons .here .nil) (λ_ le ak=>ak.1) ?_;refine bn ?_;refine zl Aa (mz y.a y.ab C.ao (C.n*C.ao) p 32 (C.cl p) (C.sz (C.cl p)) tok (wr (wr (pf C.A p 3) (p+16) 8 exp) (p+24) 8 tch) (agj h4 (by decide)) f0 (mR 32 8 (by omega)).1 nb (mR 32 8 (by omega)).2 f1) (.cons .here .nil) (λ_ le ak=>ak.1) ?_;refine bs ?_;refine zl Aa (kE y.a y.ab C.ao (C.n*C.ao) p 40 (C.cl p) (C.sz (C.cl p)) fl (wr (wr (wr (pf C.A p 3) (p+16) 8 exp) (p+24) 8 tch) (p+32) 8 tok) (agj h1 (by decide)) f0 (mR 40 4 (by omega)).1 nb (mR 40 4 (by omega)).2 f1) (.cons .here .nil) (λ_ le ak=>ak.1) ?_;refine bK ?_;refine zl Aa (l9 y.a y.ab C.ao (C.n*C.ao) p 44 (C.cl p) (C.sz (C.cl p)) k.length (wr (wr (wr (wr (pf C.A p 3) (p+16) 8 exp) (p+24) 8 tch) (p+32) 8 tok) (p+40) 4 fl) (agq l2 (by decide)) f0 (mR 44 1 (by omega)).1 nb (mR 44 1 (by omega)).2 f1) (.cons .here .nil) (λ_ le ak=>ak.1) ?_;refine bs ?_;refine zl Aa (l9 y.a y.ab C.ao (C.n*C.ao) p 45 (C.cl p) (C.sz (C.cl p)) st (wr (wr (wr (wr (wr (pf C.A p 3) (p+16) 8 exp) (p+24) 8 tch) (p+32) 8 tok) (p+40) 4 fl) (p+44) 1 k.length) (agq h5.2 (by decide)) f0 (mR 45 1 (by omega)).1 nb (mR 45 1 (by omega)).2 f1) (.cons .here .nil) (λ_ le ak=>ak.1) ?_;refine bs ?_;refine zl Aa (l9 y.a y.ab C.ao (C.n*C.ao) p 46 (C.cl p) (C.sz (C.cl p)) mk (wr (wr (wr (wr (wr (wr (pf C.A p 3) (p+16) 8 exp) (p+24) 8 tch) (p+32) 8 tok) (p+40) 4 fl) (p+44) 1 k.length) (p+45) 1 st) (agY h6 (by decide)) f0 (mR 46 1 (by omega)).1 nb (mR 46 1 (by omega)).2 f1) (.cons .here .nil) (λ_ le ak=>ak.1) ?_;refine bs ?_;refine zl Aa (l9 y.a y.ab C.ao (C.n*C.ao) p 47 (C.cl p) (C.sz (C.cl p)) (C.cl p) (wr (wr (wr (wr (wr (wr (wr (pf C.A p 3) (p+16) 8 exp) (p+24) 8 tch) (p+32) 8 tok) (p+40) 4 fl) (p+44) 1 k.length) (p+45) 1 st) (p+46) 1 mk) (agj n0 (Nat.le_trans f2 (by decide))) f0 (mR 47 1 (by omega)).1 nb (mR 47 1 (by omega)).2 f1) (.cons .here .nil) (λ_ le ak=>ak.1) ?_;refine bq ?_;refine zl Aa (kE y.a y.ab C.ao (C.n*C.ao) p 52 (C.cl p) (C.sz (C.cl p)) 0 (wr (wr (wr (wr (wr (wr (wr (wr (pf C.A p 3) (p+16) 8 exp) (p+24) 8 tch) (p+32) 8 tok) (p+40) 4 fl) (p+44) 1 k.length) (p+45) 1 st) (p+46) 1 mk) (p+47) 1 (C.cl p)) (by decide) f0 (mR 52 4 (by omega)).1 nb (mR 52 4 (by omega)).2 f1) (.cons .here .nil) (λ_ le ak=>ak.1) ?_;refine cA ?_;rw[show wr (wr (wr (wr (wr (wr (wr (wr (wr (pf C.A p 3) (p+16) 8 exp) (p+24) 8 tch) (p+32) 8 tok) (p+40) 4 fl) (p+44) 1 k.length) (p+45) 1 st) (p+46) 1 mk) (p+47) 1 (C.cl p)) (p+52) 4 0=I9 C.A p (C.cl p) k.length fl exp tch tok st mk from rfl];generalize hX:I9 C.A p (C.cl p) k.length fl exp tch tok st mk=X;refine zl Aa (qt y.a y.ab C.ao (C.n*C.ao) (p+56) k.length kc X ka k rfl f0 (off 56 k.length (by omega)).1 nb (off 56 k.length (by omega)).2 f1) (.cons .here .nil) (λ_ le ak=>⟨ak.1,Gt.mono le⟩) ?_;have hY:kl (lay X (p+56) k) p=k.length:=by rw[<-hX];exact uz _
 have eY:eZ (lay X (p+56) k) p v=lB C.A p (C.cl p) k v fl exp tch tok st mk:=by rw[<-hX];rfl
 generalize lay X (p+56) k=Y at hY eY⊢;refine bn ?_;refine zl Aa (KK y.a y.ab C.ao (C.n*C.ao) p (C.cl p) (C.sz (C.cl p)) v.length vc va v Y rfl (by omega) f0 nb f1 off (by rw[hY];exact hf)) (.cons .here .nil) (λ_ le ak=>⟨ak.1,I7.mono le⟩) ?_;rw[eY];refine au (λ_ s=>nI hy s) ?_;refine bn ?_;refine Rt [Cl b (C.wA (lB C.A p (C.cl p) k v fl exp tch tok st mk))] results186 ?_;exact⟨rfl,rfl⟩
def BK (C:Cs)(p q:Nat):By:=
 lB C.A p (C.cl p) (aH C.A q) (j8 C.A q) (rd C.A (q+40) 4) (rd C.A (q+16) 8) (rd C.A (q+24) 8) (rd C.A (q+32) 8) 4 (rd C.A (q+46) 1)
theorem US (b:Nat)(C:Cs)(K:Ok C)(p q:Nat)(L:Live C p)(M:Live C q)(I:gD C q)(hpq:p≠q)(hl:du (aH C.A q)=true)(hm:rd C.A (q+46) 1<16)(hf:58+kl C.A q+vl C.A q<=C.sz (C.cl p)):
  aG aaa 158 [Dk b,Dm Dj (C.hd p),Dm Dj (C.hd q)] uT [Cl b C]
   (λu H=>u=Dm Dl 0/\H= [Cl b (C.wA (BK C p q))]):=by
 have fQ:C.hd p≠C.hd q:=λh=>hpq (je K L.toAt M.toAt h);obtain⟨_,_,_,_,v1,_⟩:=bM K L.toAt;obtain⟨_,_,_,_,v2,_⟩:=bM K M.toAt;have hk:=I.k0;have r1:rd C.A (q+40) 4<256^4:=kh _ _ _;have r2:rd C.A (q+32) 8<256^8:=kh _ _ _;have lk:(aH C.A q).length=kl C.A q:=cE _ _ _;have lv:(j8 C.A q).length=vl C.A q:=cE _ _ _;have nb:=fU K.toFix;have f0:=K.toFix.pos;have f1:=K.toFix.p1;obtain⟨n1,n2,n3,_⟩:=M.toAt.ba K;obtain⟨z1,z2,z3,_⟩:=L.toAt.ba K;have off:=λ(o w:Nat) (h:o+w<=C.sz (C.cl q))=>M.toAt.off K h;obtain⟨e1,e2⟩:=off 44 1 (by omega);obtain⟨e3,e4⟩:=off 48 4 (by omega);refine nq λy hy=> ?_;refine af func158 rfl ntmps158 rfl ?_;intro F _;refine bs ?_;refine zl Aa (jW b C y K hy p L) .nil (λ_ le ak=>ak.1) ?_;unfold qy;refine bq ?_;refine Lp (oA gL λb1=> ?_);refine fX ?_;refine zl Aa (jW b C y K hy q M) .nil (λ_ le ak=>ak.2.1) ?_;unfold qy;refine bq ?_;refine Lp (oA gL λb2=> ?_);refine cA ?_;refine zf 30 ?_ (e:=by rfl);refine aw ?_;refine zl Aa (fZ y.a y.ab C.ao (C.n*C.ao) q (C.cl q) (C.sz (C.cl q)) C.A f0 e1 nb e2 f1) .nil (λ_ le ak=>fu ak.2.2.1 (Le.refl _)) ?_;refine bc ?_;refine cN ?_;refine bs ?_;refine cN ?_;refine av ?_;refine iU 9 mix (.cons .here (.cons .here (.cons .here .nil))) λF1 jD bV aI=> ?_;obtain⟨fh,eM,cQ,_⟩:=bV;refine aw ?_;refine Tp (oZ (Aa (n:=143)) (fZ y.a y.ab C.ao (C.n*C.ao) q (C.cl q) (C.sz (C.cl q)) C.A f0 e1 nb e2 f1) .nil (λ_ le ak=>fu cQ le) ?_);refine bd ?_;refine Tp (oZ (Aa (n:=151)) (vA y.a y.ab C.ao (C.n*C.ao) q (C.cl q) (C.sz (C.cl q)) C.A f0 e3 nb e4 f1) .nil (λ_ le ak=>fu cQ le) ?_);refine bc ?_;refine gI aI ?_;refine bd ?_;refine cN ?_;refine bs ?_;refine Lp (oC Aa rfl rfl (tT b C K q M I) .nil (λ_ le ak=>Ek hy ak.2.2.1 (Le.refl _)) ?_);rintro v H' ⟨kb,vb,rfl,rfl⟩;refine bR ?_;unfold DL;refine bq ?_;refine Lp (oA bT λb3=> ?_);refine bP ?_;refine Hh (H':= [CL b C y,own (some ⟨kb,0,none⟩) (kl C.A q) 5 1 (aj (aH C.A q)),own (some ⟨vb,0,none⟩) (vl C.A q) 5 1 (aj (j8 C.A q))]) ?_;refine au (λ_ s=>Bj hy s) ?_;refine zl Aa (Km b C K p L (some ⟨kb,0,none⟩) (some ⟨vb,0,none⟩) (kl C.A q) (vl C.A q) (kl C.A q) (vl C.A q) (aH C.A q) (j8 C.A q) lk.symm lv.symm (rd C.A (q+40) 4) (rd C.A (q+16) 8) (rd C.A (q+24) 8) (rd C.A (q+32) 8) 4 (rd C.A (q+46) 1) hl (by omega) r1 I.exp I.tch (agj r2 (by decide)) (by decide) hm) (.cons .here .nil) (λ_ le ak=>⟨bX ak.1,bX ak.2.1⟩) ?_;refine bq ?_;refine Rt [Cl b (C.wA (BK C p q))] results158 ?_;exact⟨rfl,rfl⟩
end Go.Proofs.YtcbcjolpdljbiaaGreat
