/- Part Pf of the proof. -/
import Derived.Test.YtcbcjolpdljbiaaGreatPe
set_option maxRecDepth 100000
open Go.Proofs.YtcbcjolpdljbiaaGreat.T
open Nat renaming add_assoc -> ah8, mod_eq_of_lt -> acZ, lt_trans -> ah1, lt_of_lt_of_le -> aht, lt_of_le_of_lt -> ahB
open Int renaming zero_add -> alC
open Go.Proofs.Tryz renaming prog -> aaY
open Go.Proofs.Tryz
open Go.Value renaming int -> DE
open Go.IntKind renaming i64 -> DD, u64 -> DB, u8 -> amn, u32 -> amo
namespace Go.Proofs.YtcbcjolpdljbiaaGreat
open Go Go.dQ Go.Proofs.YtcbcjolpdljbiaaGreat.Cs
def q8 (a p c s:Nat):FV:= [DC a,DE DD p,DE DD c,DE DD s]
def kl (A:By)(p:Nat):Nat:=rd A (p+44) 1
def vl (A:By)(p:Nat):Nat:=rd A (p+48) 4
theorem Cs.At.off{C:Cs}(K:Ok C){p:Nat}(L:At C p){o w:Nat}(h:o+w<=C.sz (C.cl p)):p+o+w<=C.n*C.aj/\(p+o) % C.aj+w<=C.aj:=by
 obtain⟨_,n2,n3,_,_,n6,n7,n8⟩:=L.br K;refine⟨by omega, ?_⟩;have L9:=K.toFix.pos;have e:(p+o) % C.aj=(C.ix p*C.sz (C.cl p)+o) % C.aj:=by
  rw[n6,ah8,Nat.add_comm,Nat.add_mul_mod_self_right];rw[<-n6]
 rw[e];by_cases hw:C.ix p*C.sz (C.cl p)+o<C.aj
 ·rw[acZ hw];omega
 have:C.ix p*C.sz (C.cl p)+o=C.aj:=by omega
 rw[this,Nat.mod_self];omega
theorem pB (a ab aj n p o c s:Nat)(A:By)(h0:0<aj)(h1:p+o+1<=n)(h2:n<=1073741824)(h3:(p+o) % aj+1<=aj)(h4:aj<=1048576):
  aK aaY 154 [.agg (q8 a p c s).toArray,DE DD o] (λh=>In (ag a 249 (iI ab aj n)) h/\In (ag ab 5 (dY A n)) h) []
   (λv H=>v=DE amn (rd A (p+o) 1:Nat)/\H= []):=by
 unfold q8;refine af func154 rfl ntmps154 rfl ?_;rintro F ⟨ha,hb⟩;refine aw ?_;refine Lp (oB λb1=> ?_);refine cu ?_;refine zl Aq (Nr a ab aj n (p+o) A h0 h1 h2 h3 h4) .nil (λ_ le _=>⟨ha.mono le,hb.mono le⟩) ?_;refine bO ?_;refine Rt [] results154 ?_;exact⟨rfl,rfl⟩
theorem mH (a ab aj n p o c s v:Nat)(A:By)(hv:v<256^1)(h0:0<aj)(h1:p+o+1<=n)(h2:n<=1073741824)(h3:(p+o) % aj+1<=aj)(h4:aj<=1048576):
  aK aaY 250 [.agg (q8 a p c s).toArray,DE DD o,DE amn v] (In (ag a 249 (iI ab aj n))) [ag ab 5 (dY A n)]
   (λu H=>u= .tuple #[]/\H= [ag ab 5 (dY (wr A (p+o) 1 v) n)]):=by
 unfold q8;refine af func250 rfl ntmps250 rfl ?_;rintro F ha;refine aw ?_;refine Lp (oB λb1=> ?_);refine cu ?_;refine zl Aq (MX a ab aj n (p+o) v A hv h0 h1 h2 h3 h4) (.cons (.there .here) .nil) (λ_ le _=>ha.mono le) ?_;refine aB ?_;refine j5 [ag ab 5 (dY (wr A (p+o) 1 v) n)] results250 ?_;exact⟨rfl,rfl⟩
theorem qZ (a ab aj n p o c s:Nat)(A:By)(h0:0<aj)(h1:p+o+4<=n)(h2:n<=1073741824)(h3:(p+o) % aj+4<=aj)(h4:aj<=1048576):
  aK aaY 152 [.agg (q8 a p c s).toArray,DE DD o] (λh=>In (ag a 249 (iI ab aj n)) h/\In (ag ab 5 (dY A n)) h) []
   (λv H=>v=DE amo (rd A (p+o) 4:Nat)/\H= []):=by
 unfold q8;refine af func152 rfl ntmps152 rfl ?_;rintro F ⟨ha,hb⟩;refine aw ?_;refine Lp (oB λb1=> ?_);refine cu ?_;refine zl Aq (Ja a ab aj n (p+o) A h0 h1 h2 h3 h4) .nil (λ_ le _=>⟨ha.mono le,hb.mono le⟩) ?_;refine bO ?_;refine Rt [] results152 ?_;exact⟨rfl,rfl⟩
theorem kN (a ab aj n p o c s v:Nat)(A:By)(hv:v<256^4)(h0:0<aj)(h1:p+o+4<=n)(h2:n<=1073741824)(h3:(p+o) % aj+4<=aj)(h4:aj<=1048576):
  aK aaY 245 [.agg (q8 a p c s).toArray,DE DD o,DE amo v] (In (ag a 249 (iI ab aj n))) [ag ab 5 (dY A n)]
   (λu H=>u= .tuple #[]/\H= [ag ab 5 (dY (wr A (p+o) 4 v) n)]):=by
 unfold q8;refine af func245 rfl ntmps245 rfl ?_;rintro F ha;refine aw ?_;refine Lp (oB λb1=> ?_);refine cu ?_;refine zl Aq (zw a ab aj n (p+o) v A hv h0 h1 h2 h3 h4) (.cons (.there .here) .nil) (λ_ le _=>ha.mono le) ?_;refine aB ?_;refine j5 [ag ab 5 (dY (wr A (p+o) 4 v) n)] results245 ?_;exact⟨rfl,rfl⟩
theorem mT (a ab aj n p o c s:Nat)(A:By)(h0:0<aj)(h1:p+o+8<=n)(h2:n<=1073741824)(h3:(p+o) % aj+8<=aj)(h4:aj<=1048576):
  aK aaY 153 [.agg (q8 a p c s).toArray,DE DD o] (λh=>In (ag a 249 (iI ab aj n)) h/\In (ag ab 5 (dY A n)) h) []
   (λv H=>v=DE DB (rd A (p+o) 8:Nat)/\H= []):=by
 unfold q8;refine af func153 rfl ntmps153 rfl ?_;rintro F ⟨ha,hb⟩;refine aw ?_;refine Lp (oB λb1=> ?_);refine cu ?_;refine zl Aq (I9 a ab aj n (p+o) A h0 h1 h2 h3 h4) .nil (λ_ le _=>⟨ha.mono le,hb.mono le⟩) ?_;refine bO ?_;refine Rt [] results153 ?_;exact⟨rfl,rfl⟩
theorem mS (a ab aj n p o c s v:Nat)(A:By)(hv:v<256^8)(h0:0<aj)(h1:p+o+8<=n)(h2:n<=1073741824)(h3:(p+o) % aj+8<=aj)(h4:aj<=1048576):
  aK aaY 247 [.agg (q8 a p c s).toArray,DE DD o,DE DB v] (In (ag a 249 (iI ab aj n))) [ag ab 5 (dY A n)]
   (λu H=>u= .tuple #[]/\H= [ag ab 5 (dY (wr A (p+o) 8 v) n)]):=by
 unfold q8;refine af func247 rfl ntmps247 rfl ?_;rintro F ha;refine aw ?_;refine Lp (oB λb1=> ?_);refine cu ?_;refine zl Aq (IV a ab aj n (p+o) v A hv h0 h1 h2 h3 h4) (.cons (.there .here) .nil) (λ_ le _=>ha.mono le) ?_;refine aB ?_;refine j5 [ag ab 5 (dY (wr A (p+o) 8 v) n)] results247 ?_;exact⟨rfl,rfl⟩
theorem gp (a ab aj n p c s:Nat)(A:By)(h0:0<aj)(h1:p+44+1<=n)(h2:n<=1073741824)(h3:(p+44) % aj+1<=aj)(h4:aj<=1048576):
  aK aaY 143 [.agg (q8 a p c s).toArray] (λh=>In (ag a 249 (iI ab aj n)) h/\In (ag ab 5 (dY A n)) h) []
   (λv H=>v=DE DD (kl A p:Nat)/\H= []):=by
 have hl:rd A (p+44) 1<256^1:=kB _ _ _;unfold kl;refine af func143 rfl ntmps143 rfl ?_;rintro F ⟨ha,hb⟩;refine aw ?_;refine Lp (oB λb1=> ?_);refine aY ?_;refine zl Aq (pB a ab aj n p 44 c s A h0 h1 h2 h3 h4) .nil (λ_ le _=>⟨ha.mono le,hb.mono le⟩) ?_;refine aY ?_;refine Rt [] results143 ?_;exact⟨rfl,rfl⟩
theorem vZ (a ab aj n p c s:Nat)(A:By)(h0:0<aj)(h1:p+48+4<=n)(h2:n<=1073741824)(h3:(p+48) % aj+4<=aj)(h4:aj<=1048576):
  aK aaY 151 [.agg (q8 a p c s).toArray] (λh=>In (ag a 249 (iI ab aj n)) h/\In (ag ab 5 (dY A n)) h) []
   (λv H=>v=DE DD (vl A p:Nat)/\H= []):=by
 have hl:rd A (p+48) 4<256^4:=kB _ _ _;unfold vl;refine af func151 rfl ntmps151 rfl ?_;rintro F ⟨ha,hb⟩;refine aw ?_;refine Lp (oB λb1=> ?_);refine aY ?_;refine zl Aq (qZ a ab aj n p 48 c s A h0 h1 h2 h3 h4) .nil (λ_ le _=>⟨ha.mono le,hb.mono le⟩) ?_;refine aY ?_;refine Rt [] results151 ?_;exact⟨rfl,rfl⟩
theorem y4 (a ab aj n p o c s m:Nat)(A:By)(h0:0<aj)(h1:p+o+m<=n)(h2:n<=1073741824)(h3:(p+o) % aj+m<=aj)(h4:aj<=1048576):
  aK aaY 145 [.agg (q8 a p c s).toArray,DE DD o,DE DD m] (λh=>In (ag a 249 (iI ab aj n)) h/\In (ag ab 5 (dY A n)) h) []
   (λv H=>∃b,v= .slice (some ⟨b,0,none⟩) m m/\H= [own (some ⟨b,0,none⟩) m 5 1 (ak (jZ A (p+o) m))]):=by
 unfold q8;refine af func145 rfl ntmps145 rfl ?_;rintro F ⟨ha,hb⟩;refine aw ?_;refine Lp (oB λb1=> ?_);refine bD ?_;refine Lp (oC Aq rfl rfl (IT a ab aj n (p+o) m A h0 h1 h2 h3 h4) .nil (λ_ le _=>⟨ha.mono le,hb.mono le⟩) ?_);rintro v H' ⟨b,rfl,rfl⟩;refine bS ?_;refine bO ?_;refine Rt [own (some ⟨b,0,none⟩) m 5 1 (ak (jZ A (p+o) m))] results145 ?_;exact⟨_,rfl,rfl⟩
abbrev CL (b:Nat)(C:Cs)(y:Lc):aa:=aF (mU b C y)
theorem yo{P:Program}{f:FuncId}{args:FV}{H:Dz}{R:DF}{b:Nat}{C:Cs}(h:∀y,gS C y->aK P f args (In (CL b C y)) H R):aK P f args (In (Cl b C)) H R:=λF w hp s=>by
 obtain⟨k,⟨y,hy,p⟩,l⟩:=hp;exact h y hy F w ⟨k,p,l⟩ s
theorem EB{b:Nat}{C:Cs}{y:Lc}{h k:Hp}(hy:gS C y)(i:In (CL b C y) h)(l:Le h k):In (Cl b C) k:=by
 obtain⟨m,p,q⟩:=i;exact⟨m,⟨y,hy,p⟩,q.trans l⟩
theorem fy{b:Nat}{C:Cs}{y:Lc}{h k:Hp}(i:In (CL b C y) h)(l:Le h k):In (ag y.a 249 (iI y.ab C.aj (C.n*C.aj))) k/\In (ag y.ab 5 (dY C.A (C.n*C.aj))) k:=by
 obtain⟨_,_,_,_,_,_,h6,h7,_⟩:=uv i;exact⟨In.mono h6 l,In.mono h7 l⟩
theorem j8 (b:Nat)(C:Cs)(y:Lc)(K:Ok C)(hy:gS C y)(p:Nat)(L:Live C p):
  aK aaY 142 [DC b,DE DB (C.hd p)] (In (CL b C y)) []
   (λv H=>v= .tuple #[.agg (q8 y.a p (C.cl p) (C.sz (C.cl p))).toArray,DE DD 0]/\H= []):=by
 have hc:C.cl p<C.ae.length:=(L.toAt.br K).1;refine af func142 rfl ntmps142 rfl ?_;intro F au;refine aw ?_;refine Lp (oA gZ λb1=> ?_);refine gQ ?_;refine zl Aq (wD b C K p L) .nil (λ_ le _=>EB hy au le) ?_;refine sI ?_;refine zl Aq (W4 b C y) .nil (λ_ le _=>bR (uv au) le) ?_;refine aY ?_;refine zl Aq (rJ b C K (C.cl p:Int)) .nil (λ_ le _=>EB hy au le) ?_;unfold ofM;rw[if_pos (by omega),Int.toNat_natCast];refine ba ?_;refine Ha [] Ie results142 ?_;exact⟨rfl,rfl⟩
theorem xD (b:Nat)(C:Cs)(y:Lc)(K:Ok C)(hy:gS C y)(p:Nat)(L:Live C p)(hk:kl C.A p≠0):
  aK aaY 178 [DC b,DE DB (C.hd p)] (In (CL b C y)) []
   (λv H=>v= .tuple #[.agg (q8 y.a p (C.cl p) (C.sz (C.cl p))).toArray,DE DD 0]/\H= []):=by
 obtain⟨n1,n2,_⟩:=L.toAt.br K;have nb:=gg K.toFix;have f0:=K.toFix.pos;have f1:=K.toFix.p1;obtain⟨e1,e2⟩:=L.toAt.off K (o:=44) (w:=1) (by omega);refine af func178 rfl ntmps178 rfl ?_;intro F au;refine aw ?_;refine Lp (oA gZ λb1=> ?_);refine ba ?_;refine zl Aq (j8 b C y K hy p L) .nil (λ_ le _=>In.mono au le) ?_;unfold q8;refine bj ?_;refine Lp (oA gZ λb2=> ?_);refine cY ?_;refine zt 16 ?_ (e:=by rfl);refine aw ?_;refine zl Aq (gp y.a y.ab C.aj (C.n*C.aj) p (C.cl p) (C.sz (C.cl p)) C.A f0 e1 nb e2 f1) .nil (λ_ le _=>fy au le) ?_;refine bj ?_;refine cM ?_;refine cu ?_;refine Ha [] Ie results178 ?_;exact⟨rfl,rfl⟩
def Cs.wA (C:Cs)(A:By):Cs:={C with A:=A}
theorem nL{P:Program}{f:FuncId}{args:FV}{pre:Hp->Prop}{H:Dz}{R:DF}{b:Nat}{C:Cs}(h:∀y,gS C y->aK P f args pre (CL b C y::H) R):aK P f args pre (Cl b C::H) R:=
 aK.exL λy=>aK.Eg λhy=>h y hy
theorem BD{b:Nat}{C:Cs}{y:Lc}{H:Dz}{h:Hp}(hy:gS C y)(st:ai (CL b C y::H) h):ai (Cl b C::H) h:=
 bo (λ_ p=>⟨y,hy,p⟩) st
theorem gS.wA{C:Cs}{y:Lc}(hy:gS C y)(A:By):gS (C.wA A) y:=⟨hy.pl,hy.rl,hy.pk,hy.aj,hy.pgs⟩
def clR (b:Nat)(C:Cs)(y:Lc):aa:=aF [ag b 179 (cP C y),oq C y,ag y.pb 227 (y.pl.flatMap dU),aF (y.pl.map lF),ag y.rb 196 (y.rl.flatMap eH),aF (y.rl.map kP)]
theorem vH{L H:Dz}{h:Hp}(s:ai (aF L::H) h):ai (L++H) h:=by
 obtain⟨h1,h2,d,l1,l2,s1,s2⟩:=s;exact eW (bH s1 s2 d) (bX l1 l2)
theorem FK (b:Nat)(C:Cs)(y:Lc):List.Perm (mU b C y) ([ag y.ab 5 (dY C.A (C.n*C.aj)),ag y.a 249 (iI y.ab C.aj (C.n*C.aj))]++ [ag b 179 (cP C y),oq C y,ag y.pb 227 (y.pl.flatMap dU),aF (y.pl.map lF),ag y.rb 196 (y.rl.flatMap eH),aF (y.rl.map kP)]):=
 List.perm_append_comm (l₁:= [_,_,_,_,_,_]) (l₂:= [_,_]) |>.trans (List.Perm.swap _ _ _)
theorem WK{b:Nat}{C:Cs}{y:Lc}{H:Dz}{h:Hp}(s:ai (CL b C y::H) h):ai (ag y.ab 5 (dY C.A (C.n*C.aj))::ag y.a 249 (iI y.ab C.aj (C.n*C.aj))::clR b C y::H) h:=
 aJ (λ_ s=>aJ (λ_ s=>eC (L:= [_,_,_,_,_,_]) s) s) (vH (ph (FK b C y) s))
theorem n9{b:Nat}{C:Cs}{y:Lc}{H:Dz}{A:By}(hy:gS C y){h:Hp}(s:ai (ag y.ab 5 (dY A (C.n*C.aj))::ag y.a 249 (iI y.ab C.aj (C.n*C.aj))::clR b C y::H) h):ai (Cl b (C.wA A)::H) h:=by
 refine BD (hy.wA A) (ph (FK b (C.wA A) y).symm (eC (L:= [_,_,_,_,_,_,_,_]) ?_));exact aJ (λ_ s=>aJ (λ_ s=>vH s) s) s
theorem Er{n:Nat}{ds:Dx}{F:dM}{K:F7}{σ:aT}{H:Dz}{b:Nat}{C:Cs}{y:Lc}
  (h:G n ds F K σ (ag y.ab 5 (dY C.A (C.n*C.aj))::ag y.a 249 (iI y.ab C.aj (C.n*C.aj))::clR b C y::H)):G n ds F K σ (CL b C y::H):=ay (λ_ s=>WK s) h
theorem zd (b:Nat)(C:Cs)(K:Ok C)(p o:Nat)(L:Live C p)(hk:kl C.A p≠0)(ho:o+1<=56):
  aK aaY 242 [DC b,DE DB (C.hd p),DE DD o] (In (Cl b C)) []
   (λv H=>v= .tuple #[DE amn (rd C.A (p+o) 1:Nat),DE DD 0]/\H= []):=by
 refine yo λy hy=> ?_;obtain⟨n1,n2,_⟩:=L.toAt.br K;have nb:=gg K.toFix;have f0:=K.toFix.pos;have f1:=K.toFix.p1;obtain⟨e1,e2⟩:=L.toAt.off K (o:=44) (w:=1) (by omega);obtain⟨e3,e4⟩:=L.toAt.off K (o:=o) (w:=1) (by omega);refine af func242 rfl ntmps242 rfl ?_;intro F au;refine bL ?_;refine zl Aq (j8 b C y K hy p L) .nil (λ_ le _=>In.mono au le) ?_;unfold q8;refine bj ?_;refine Lp (oA gZ λb1=> ?_);refine cY ?_;refine zf 18 ?_ (e:=by rfl);refine aw ?_;refine zl Aq (gp y.a y.ab C.aj (C.n*C.aj) p (C.cl p) (C.sz (C.cl p)) C.A f0 e1 nb e2 f1) .nil (λ_ le _=>fy au le) ?_;refine bj ?_;refine cM ?_;refine ba ?_;refine zl Aq (pB y.a y.ab C.aj (C.n*C.aj) p o (C.cl p) (C.sz (C.cl p)) C.A f0 e3 nb e4 f1) .nil (λ_ le _=>fy au le) ?_;refine ba ?_;refine js [] results242 ?_;exact⟨rfl,rfl⟩
theorem A5 (b:Nat)(C:Cs)(K:Ok C)(p o v:Nat)(hv:v<256^1)(L:Live C p)(hk:kl C.A p≠0)(ho:o+1<=56):
  aK aaY 243 [DC b,DE DB (C.hd p),DE DD o,DE amn v, .bool true] vz [Cl b C]
   (λu H=>u=DE DD 0/\H= [Cl b (C.wA (wr C.A (p+o) 1 v))]):=by
 refine nL λy hy=> ?_;obtain⟨n1,n2,_⟩:=L.toAt.br K;have nb:=gg K.toFix;have f0:=K.toFix.pos;have f1:=K.toFix.p1;obtain⟨e3,e4⟩:=L.toAt.off K (o:=o) (w:=1) (by omega);refine af func243 rfl ntmps243 rfl ?_;intro F _;refine bA ?_;refine zl Aq (xD b C y K hy p L hk) .nil (λ_ le au=>au.1) ?_;unfold q8;refine bj ?_;refine Lp (oA gZ λb1=> ?_);refine cC ?_;refine aY ?_;refine Hh (H':= [CL b C y,ag b1 231 [DC y.a,DE DD p,DE DD (C.cl p),DE DD (C.sz (C.cl p))]]) ?_;refine Er ?_;refine zl Aq (mH y.a y.ab C.aj (C.n*C.aj) p o (C.cl p) (C.sz (C.cl p)) v C.A hv f0 e3 nb e4 f1) (.cons .here .nil) (λ_ le au=>au.1) ?_;refine ay (λ_ s=>n9 hy s) ?_;refine ba ?_;refine Rt [Cl b (C.wA (wr C.A (p+o) 1 v))] results243 ?_;exact⟨rfl,rfl⟩
theorem wG (b:Nat)(C:Cs)(K:Ok C)(p o:Nat)(L:Live C p)(hk:kl C.A p≠0)(ho:o+8<=56):
  aK aaY 213 [DC b,DE DB (C.hd p),DE DD o] (In (Cl b C)) []
   (λv H=>v= .tuple #[DE DB (rd C.A (p+o) 8:Nat),DE DD 0]/\H= []):=by
 refine yo λy hy=> ?_;obtain⟨n1,n2,_⟩:=L.toAt.br K;have nb:=gg K.toFix;have f0:=K.toFix.pos;have f1:=K.toFix.p1;obtain⟨e1,e2⟩:=L.toAt.off K (o:=44) (w:=1) (by omega);obtain⟨e3,e4⟩:=L.toAt.off K (o:=o) (w:=8) (by omega);refine af func213 rfl ntmps213 rfl ?_;intro F au;refine bL ?_;refine zl Aq (j8 b C y K hy p L) .nil (λ_ le _=>In.mono au le) ?_;unfold q8;refine bj ?_;refine Lp (oA gZ λb1=> ?_);refine cY ?_;refine zf 18 ?_ (e:=by rfl);refine aw ?_;refine zl Aq (gp y.a y.ab C.aj (C.n*C.aj) p (C.cl p) (C.sz (C.cl p)) C.A f0 e1 nb e2 f1) .nil (λ_ le _=>fy au le) ?_;refine bj ?_;refine cM ?_;refine ba ?_;refine zl Aq (mT y.a y.ab C.aj (C.n*C.aj) p o (C.cl p) (C.sz (C.cl p)) C.A f0 e3 nb e4 f1) .nil (λ_ le _=>fy au le) ?_;refine ba ?_;refine js [] results213 ?_;exact⟨rfl,rfl⟩
theorem tj (b:Nat)(C:Cs)(K:Ok C)(p o v:Nat)(hv:v<256^8)(L:Live C p)(hk:kl C.A p≠0)(ho:o+8<=56):
  aK aaY 180 [DC b,DE DB (C.hd p),DE DD o,DE DB v, .bool true] vz [Cl b C]
   (λu H=>u=DE DD 0/\H= [Cl b (C.wA (wr C.A (p+o) 8 v))]):=by
 refine nL λy hy=> ?_;obtain⟨n1,n2,_⟩:=L.toAt.br K;have nb:=gg K.toFix;have f0:=K.toFix.pos;have f1:=K.toFix.p1;obtain⟨e3,e4⟩:=L.toAt.off K (o:=o) (w:=8) (by omega);refine af func180 rfl ntmps180 rfl ?_;intro F _;refine bA ?_;refine zl Aq (xD b C y K hy p L hk) .nil (λ_ le au=>au.1) ?_;unfold q8;refine bj ?_;refine Lp (oA gZ λb1=> ?_);refine cC ?_;refine aY ?_;refine Hh (H':= [CL b C y,ag b1 231 [DC y.a,DE DD p,DE DD (C.cl p),DE DD (C.sz (C.cl p))]]) ?_;refine Er ?_;refine zl Aq (mS y.a y.ab C.aj (C.n*C.aj) p o (C.cl p) (C.sz (C.cl p)) v C.A hv f0 e3 nb e4 f1) (.cons .here .nil) (λ_ le au=>au.1) ?_;refine ay (λ_ s=>n9 hy s) ?_;refine ba ?_;refine Rt [Cl b (C.wA (wr C.A (p+o) 8 v))] results180 ?_;exact⟨rfl,rfl⟩
theorem PJ (a1 a2:FX)(c1 c2 m1 m2:Nat)(l1 l2:F9)(h1:m1=l1.length)(h2:m2=l2.length)(k1:l1.length<18446744073709551616)(k2:l2.length<18446744073709551616):
  aK aaY 144 [.slice a1 m1 c1, .slice a2 m2 c2] (λh=>fD h a1 (ak l1)/\fD h a2 (ak l2)) [] (λv H=>v= .bool (decide (l1=l2))/\H= []):=by
 refine af func144 rfl ntmps144 rfl ?_;rintro F ⟨r1,r2⟩;refine ba ?_;refine Li (Ts fx tL sE) ?_;refine aw ?_;refine Li (Ts fx tL sE) ?_;refine Li Sq ?_;refine bj ?_;refine Rt [] results144 ?_;exact⟨rfl,rfl⟩
theorem Fc (m:Int):aK aaY 244 [DE DD m] vz [] (λv H=>v= .bool (decide (0<=m/\m<16))/\H= []):=by
 refine af func244 rfl ntmps244 rfl ?_;intro F _;refine bL ?_;refine aM (t:=5) rfl ?_ ?_
 ·intro h
  replace h:=aG h;refine bA ?_;refine Rt [] results244 ?_;refine⟨?_,rfl⟩
  congr 2
  simp[h]
 intro h;replace h:=aG h;refine bA ?_;refine Rt [] results244 ?_;refine⟨?_,rfl⟩;rw[Ar]
theorem I7 (b:Nat)(C:Cs)(K:Ok C)(p:Nat)(L:Live C p)(hk:kl C.A p≠0)(hx:rd C.A (p+16) 8<9223372036854775808):
  aK aaY 147 [DC b,DE DB (C.hd p)] (In (Cl b C)) []
   (λv H=>v= .tuple #[DE DD (rd C.A (p+16) 8:Nat),DE DD 0]/\H= []):=by
 refine af func147 rfl ntmps147 rfl ?_;intro F au;refine bL ?_;refine zl Aq (wG b C K p 16 L hk (by omega)) .nil (λ_ le _=>In.mono au le) ?_;refine fu ?_;refine js [] results147 ?_;exact⟨rfl,rfl⟩
theorem Bp (b:Nat)(C:Cs)(K:Ok C)(p:Nat)(L:Live C p)(hk:kl C.A p≠0):
  aK aaY 148 [DC b,DE DB (C.hd p)] (In (Cl b C)) []
   (λv H=>v= .tuple #[DE DB (rd C.A (p+32) 8:Nat),DE DD 0]/\H= []):=by
 refine af func148 rfl ntmps148 rfl ?_;intro F au;refine bL ?_;refine zl Aq (wG b C K p 32 L hk (by omega)) .nil (λ_ le _=>In.mono au le) ?_;refine bA ?_;refine js [] results148 ?_;exact⟨rfl,rfl⟩
theorem rE (b:Nat)(C:Cs)(K:Ok C)(p:Nat)(L:Live C p)(hk:kl C.A p≠0):
  aK aaY 223 [DC b,DE DB (C.hd p)] (In (Cl b C)) []
   (λv H=>v= .tuple #[DE DD (rd C.A (p+45) 1:Nat),DE DD 0]/\H= []):=by
 have hl:rd C.A (p+45) 1<256^1:=kB _ _ _;refine af func223 rfl ntmps223 rfl ?_;intro F au;refine bL ?_;refine zl Aq (zd b C K p 45 L hk (by omega)) .nil (λ_ le _=>In.mono au le) ?_;refine fu ?_;refine js [] results223 ?_;exact⟨rfl,rfl⟩
theorem rF (b:Nat)(C:Cs)(K:Ok C)(p:Nat)(L:Live C p)(hk:kl C.A p≠0):
  aK aaY 175 [DC b,DE DB (C.hd p)] (In (Cl b C)) []
   (λv H=>v= .tuple #[DE DD (rd C.A (p+46) 1:Nat),DE DD 0]/\H= []):=by
 have hl:rd C.A (p+46) 1<256^1:=kB _ _ _;refine af func175 rfl ntmps175 rfl ?_;intro F au;refine bL ?_;refine zl Aq (zd b C K p 46 L hk (by omega)) .nil (λ_ le _=>In.mono au le) ?_;refine fu ?_;refine js [] results175 ?_;exact⟨rfl,rfl⟩
theorem amh (b:Nat)(C:Cs)(K:Ok C)(p v:Nat)(hv:v<9223372036854775808)(L:Live C p)(hk:kl C.A p≠0):
  aK aaY 172 [DC b,DE DB (C.hd p),DE DD v] vz [Cl b C]
   (λu H=>u=DE DD 0/\H= [Cl b (C.wA (wr C.A (p+16) 8 v))]):=by
 refine af func172 rfl ntmps172 rfl ?_;intro F _;refine bD ?_;refine az (t:=12) (v':=(.bool true)) rfl (by rw[Au]) ?_;refine zl Aq (tj b C K p 16 v (ah1 hv (by decide)) L hk (by omega)) (.cons .here .nil) DA ?_;refine bj ?_;refine Rt [Cl b (C.wA (wr C.A (p+16) 8 v))] results172 ?_;exact⟨rfl,rfl⟩
theorem zK (b:Nat)(C:Cs)(K:Ok C)(p v:Nat)(hv:v<9223372036854775808)(L:Live C p)(hk:kl C.A p≠0):
  aK aaY 177 [DC b,DE DB (C.hd p),DE DD v] vz [Cl b C]
   (λu H=>u=DE DD 0/\H= [Cl b (C.wA (wr C.A (p+24) 8 v))]):=by
 refine af func177 rfl ntmps177 rfl ?_;intro F _;refine bD ?_;refine az (t:=12) (v':=(.bool true)) rfl (by rw[Au]) ?_;refine zl Aq (tj b C K p 24 v (ah1 hv (by decide)) L hk (by omega)) (.cons .here .nil) DA ?_;refine bj ?_;refine Rt [Cl b (C.wA (wr C.A (p+24) 8 v))] results177 ?_;exact⟨rfl,rfl⟩
theorem amj (b:Nat)(C:Cs)(K:Ok C)(p v:Nat)(hv:v<18446744073709551616)(L:Live C p)(hk:kl C.A p≠0):
  aK aaY 126 [DC b,DE DB (C.hd p),DE DB v] vz [Cl b C]
   (λu H=>u=DE DD 0/\H= [Cl b (C.wA (wr C.A (p+32) 8 v))]):=by
 refine af func126 rfl ntmps126 rfl ?_;intro F _;refine bL ?_;refine zl Aq (tj b C K p 32 v (aht hv (by decide)) L hk (by omega)) (.cons .here .nil) DA ?_;refine bj ?_;refine Rt [Cl b (C.wA (wr C.A (p+32) 8 v))] results126 ?_;exact⟨rfl,rfl⟩
theorem lN (b:Nat)(C:Cs)(K:Ok C)(p v:Nat)(hv:v<16)(L:Live C p)(hk:kl C.A p≠0):
  aK aaY 176 [DC b,DE DB (C.hd p),DE DD v] vz [Cl b C]
   (λu H=>u=DE DD 0/\H= [Cl b (C.wA (wr C.A (p+46) 1 v))]):=by
 refine af func176 rfl ntmps176 rfl ?_;intro F _;refine cu ?_;refine zl Aq (Fc (v:Int)) .nil DA ?_;refine az (t:=12) (v':=(.bool true)) rfl (by rw[Au]) ?_;refine zl Aq (A5 b C K p 46 v (ah1 hv (by decide)) L hk (by omega)) (.cons .here .nil) DA ?_;refine bj ?_;refine Rt [Cl b (C.wA (wr C.A (p+46) 1 v))] results176 ?_;exact⟨rfl,rfl⟩
theorem uQ (b:Nat)(C:Cs)(K:Ok C)(p v:Nat)(hv:1<=v/\v<=4)(L:Live C p)(hk:kl C.A p≠0):
  aK aaY 268 [DC b,DE DB (C.hd p),DE DD v] vz [Cl b C]
   (λu H=>u=DE DD 0/\H= [Cl b (C.wA (wr C.A (p+45) 1 v))]):=by
 refine af func268 rfl ntmps268 rfl ?_;intro F _;refine bO ?_;refine zt 13 ?_;refine bj ?_;refine az (t:=16) (v':=(.bool true)) rfl (by rw[Au]) ?_;refine zl Aq (A5 b C K p 45 v (ahB hv.2 (by decide)) L hk (by omega)) (.cons .here .nil) DA ?_;refine bj ?_;refine Rt [Cl b (C.wA (wr C.A (p+45) 1 v))] results268 ?_;exact⟨rfl,rfl⟩
theorem Fo (k v:Nat)(hk:1<=k/\k<=250)(hv:v<=1048576):aK aaY 181 [DE DD k,DE DD v] vz []
   (λu H=>u= .tuple #[DE DD (58+k+v:Nat),DE DD 0]/\H= []):=by
 refine af func181 rfl ntmps181 rfl ?_;intro F _;refine bD ?_;refine zf 9 ?_;refine ba ?_;refine cM ?_;refine aY ?_;refine zf 16 ?_;refine ba ?_;refine cM ?_;refine cL ?_;refine js [] results181 ?_;exact⟨rfl,rfl⟩
def okB (c:UInt8):Bool:=decide (32<c.toNat/\c.toNat≠127)
def cU (l:F9):Bool:=decide (1<=l.length/\l.length<=250)&&l.all okB
theorem uC{l:F9}{k:Nat}(h:k<l.length)(hb:okB (l[k])=false):cU l=false:=by
 unfold cU;rw[Bool.and_eq_false_iff];right;rw[List.all_eq_false];exact⟨l[k],List.getElem_mem h,by rw[hb];decide⟩
theorem E8{l:F9}{k:Nat}(h:∀i (h:i<l.length),i<k->okB l[i]=true)(hk:k<l.length)(hb:okB l[k]=true):∀i (h:i<l.length),i<k+1->okB l[i]=true:=λi hl hi=>by
 by_cases e:i<k
 ·exact h i hl e
 obtain rfl:i=k:=by omega
 exact hb
theorem Fh (a:FX)(c m:Nat)(l:F9)(hm:m=l.length)(hl:m<281474976710656):
  aK aaY 79 [.slice a m c] (λh=>fD h a (ak l)) [] (λv H=>v= .bool (cU l)/\H= []):=by
 refine af func79 rfl ntmps79 rfl ?_;intro F r;refine cu ?_;refine aM (t:=8) rfl ?_ ?_
 ·intro h1
  replace h1:=aG h1;refine bO ?_;refine Rt [] results79 ?_;refine⟨?_,rfl⟩;unfold cU;rw[Ar];rfl
 intro h1;replace h1:=aG h1;refine ba ?_;refine aA rfl ?_ ?_
 ·intro h2
  replace h2:=aG h2;refine ba ?_;refine Rt [] results79 ?_;refine⟨?_,rfl⟩;unfold cU;rw[Ar];rfl
 intro h2;replace h2:=aG h2;refine cu ?_;refine Lo (ι:=Nat) (FZ [2,1,4,1,15,11]) (λk=>k<=m/\∀i (h:i<l.length),i<k->okB l[i]=true) (λk=> [(15,DE DD k)]) (λk=> []) (λk=>m-k) (0) ⟨Nat.zero_le _,λi _ h=>absurd h (Nat.not_lt_zero _)⟩ ?_;rintro k hI;refine bj ?_;refine av ?_;refine aA rfl ?_ ?_
 ·intro hk
  replace hk:=aG hk;have ct:k<l.length:=by omega
  have kb:(ak l)[k]?=some (DE amn (l[k].toNat:Nat)):=by unfold ak;rw[List.getElem?_map,List.getElem?_eq_getElem ct];rfl
  have hc:=l[k].toNat_lt;refine ba ?_;refine Li (Ix fx) ?_;refine bL ?_;refine aM (t:=21) rfl ?_ ?_
  ·intro h3
   replace h3:=aG h3;refine fu ?_;refine Rt [] results79 ?_;exact⟨by rw[uC ct (Ar)],rfl⟩
  intro h3;replace h3:=aG h3;refine aY ?_;refine aA rfl ?_ ?_
  ·intro h4
   replace h4:=aG h4;refine cu ?_;refine Rt [] results79 ?_;exact⟨by rw[uC ct (Ar)],rfl⟩
  intro h4;replace h4:=aG h4;refine bA ?_;refine aB ?_;refine Ro (k+1) (⟨by omega,E8 hI.2 ct (Au)⟩) ((by omega))
 intro hk;replace hk:=aG hk;refine cu ?_;refine Rt [] results79 ?_;refine⟨?_,rfl⟩;unfold cU;rw[Au,Bool.true_and];rw[eq_comm,Value.bool.injEq,List.all_eq_true];intro x hx;obtain⟨i,hi,rfl⟩:=List.getElem_of_mem hx;exact hI.2 i hi (by omega)
def nO:FW->Nat
 |none=>0
 |some q=>q/8+1
def hO (C:Cs):FW->Nat
 |none=>0
 |some q=>C.hd q
theorem rn (q:Nat):nO (some q)=q/8+1:=rfl
theorem cj (C:Cs)(q:Nat):hO C (some q)=C.hd q:=rfl
def dw (C:Cs)(o:FW):Prop:=∀q,o=some q->Live C q
theorem wO (b:Nat)(C:Cs)(K:Ok C)(p:Nat)(L:Live C p)(hk:kl C.A p≠0):
  aK aaY 251 [DC b,DE DB (C.hd p)] (In (Cl b C)) []
   (λv H=>v= .tuple #[DE DD (kl C.A p:Nat),DE DD (vl C.A p:Nat),DE DD 0]/\H= []):=by
 refine yo λy hy=> ?_;obtain⟨n1,n2,_⟩:=L.toAt.br K;have nb:=gg K.toFix;have f0:=K.toFix.pos;have f1:=K.toFix.p1;obtain⟨e1,e2⟩:=L.toAt.off K (o:=44) (w:=1) (by omega);obtain⟨e3,e4⟩:=L.toAt.off K (o:=48) (w:=4) (by omega);refine af func251 rfl ntmps251 rfl ?_;intro F au;refine cY ?_;refine zl Aq (j8 b C y K hy p L) .nil (λ_ le _=>In.mono au le) ?_;unfold q8;refine bj ?_;refine Lp (oA gZ λb1=> ?_);refine cY ?_;refine zf 16 ?_ (e:=by rfl);refine aw ?_;refine zl Aq (gp y.a y.ab C.aj (C.n*C.aj) p (C.cl p) (C.sz (C.cl p)) C.A f0 e1 nb e2 f1) .nil (λ_ le _=>fy au le) ?_;refine bj ?_;refine cM ?_;refine bn ?_;refine av ?_;refine iL 8 mix (.cons .here .nil) λF1 jq bV aI=> ?_;obtain⟨hb,_⟩:=bV;refine aw ?_;refine Tp (oZ (Aq (n:=143)) (gp y.a y.ab C.aj (C.n*C.aj) p (C.cl p) (C.sz (C.cl p)) C.A f0 e1 nb e2 f1) .nil (λ_ le _=>fy (In.mono au jq) le) ?_);refine aw ?_;refine Tp (oZ (Aq (n:=151)) (vZ y.a y.ab C.aj (C.n*C.aj) p (C.cl p) (C.sz (C.cl p)) C.A f0 e3 nb e4 f1) .nil (λ_ le _=>fy (In.mono au jq) le) ?_);refine aY ?_;refine gG aI ?_;refine bn ?_;refine Rt3 [] results251 ?_;exact⟨rfl,rfl⟩
theorem nM (b:Nat)(C:Cs)(K:Ok C)(p i:Nat)(o:FW)(L:Live C p)(hk:kl C.A p≠0)(hi:i<=2)(ho:dw C o)(hn:rd C.A (p+4*i) 4=nO o):
  aK aaY 146 [DC b,DE DB (C.hd p),DE DD i] (In (Cl b C)) []
   (λv H=>v= .tuple #[DE DB (hO C o),DE DD 0]/\H= []):=by
 refine yo λy hy=> ?_;obtain⟨n1,n2,_⟩:=L.toAt.br K;have nb:=gg K.toFix;have f0:=K.toFix.pos;have f1:=K.toFix.p1;obtain⟨e1,e2⟩:=L.toAt.off K (o:=44) (w:=1) (by omega);obtain⟨e3,e4⟩:=L.toAt.off K (o:=4*i) (w:=4) (by omega);refine af func146 rfl ntmps146 rfl ?_;intro F au;refine bL ?_;refine zl Aq (j8 b C y K hy p L) .nil (λ_ le _=>In.mono au le) ?_;unfold q8;refine bj ?_;refine Lp (oA gZ λb1=> ?_);refine kT ?_;refine zf 26 ?_;refine ba ?_;refine cM ?_;refine bn ?_;refine zl Aq (gp y.a y.ab C.aj (C.n*C.aj) p (C.cl p) (C.sz (C.cl p)) C.A f0 e1 nb e2 f1) .nil (λ_ le _=>fy au le) ?_;refine bj ?_;refine cM ?_;refine cY ?_;refine az (t:=37) (v':=(DE DD (4*i:Nat))) rfl (by rw[alC];rfl) ?_;refine zl Aq (qZ y.a y.ab C.aj (C.n*C.aj) p (4*i) (C.cl p) (C.sz (C.cl p)) C.A f0 e3 nb e4 f1) .nil (λ_ le _=>fy au le) ?_;rw[hn];rcases o with _|q
 ·refine Li As ?_
  refine gQ ?_;refine js [] results146 ?_;exact⟨rfl,rfl⟩
 have M:=ho q rfl;obtain⟨m1,m2,m3,m4,m5,m6⟩:=bU K M.toAt;rw[rn];refine bL ?_;refine cM ?_;refine cY ?_;refine az (t:=46) (v':=(DE DD q)) rfl (by rw[show(8:Int)*(((q/8+1:Nat):Int)-1)=(q:Int) by omega]) ?_;refine zl Aq (abM b C K q M) .nil (λ_ le _=>EB hy au le) ?_;refine cC ?_;refine js [] results146 ?_;exact⟨rfl,rfl⟩
theorem eF (b:Nat)(C:Cs)(K:Ok C)(p i:Nat)(o:FW)(L:Live C p)(hk:kl C.A p≠0)(hi:i<=2)(ho:dw C o):
  aK aaY 253 [DC b,DE DB (C.hd p),DE DD i,DE DB (hO C o)] vz [Cl b C]
   (λu H=>u=DE DD 0/\H= [Cl b (C.wA (wr C.A (p+4*i) 4 (nO o)))]):=by
 refine nL λy hy=> ?_;obtain⟨n1,n2,_⟩:=L.toAt.br K;have nb:=gg K.toFix;have f0:=K.toFix.pos;have f1:=K.toFix.p1;obtain⟨e3,e4⟩:=L.toAt.off K (o:=4*i) (w:=4) (by omega);have hw:nO o<256^4:=by
  rcases o with _|q
  ·exact Nat.pow_pos (by decide)
  obtain⟨_,_,m3,m4,_⟩:=bU K (ho q rfl).toAt;rw[rn];rw[show 256^4=4294967296 from rfl];omega
 have hm:IntKind.u32.wrap (hO C o:Int)=(nO o:Int):=by
  rcases o with _|q
  ·rfl
  obtain⟨m1,_⟩:=bU K (ho q rfl).toAt;rw[IntKind.wrap_u32,rn,cj];omega
 refine af func253 rfl ntmps253 rfl ?_;intro F _;refine bA ?_;refine zl Aq (xD b C y K hy p L hk) .nil (λ_ le au=>au.1) ?_;unfold q8;refine bj ?_;refine Lp (oA gZ λb1=> ?_);refine kT ?_;refine zf 27 ?_;refine ba ?_;refine cM ?_;refine bj ?_;refine av ?_;refine cG (ι:=Unit) (FZ [8,1,11,3,31,11]) (λu=>True) (λu=> [(3,DE DB (hO C o)),(2,DE DD i),(9,DC b1)]) (λu=> [CL b C y,ag b1 231 [DC y.a,DE DD p,DE DD (C.cl p),DE DD (C.sz (C.cl p))]]) ?_ ?_
 ·rcases o with _|q
  ·refine iz ?_
   refine ba ?_;refine Me (()) (trivial)
  have M:=ho q rfl;obtain⟨m1,m2,m3,m4,m5,m6⟩:=bU K M.toAt;rw[cj];refine aY ?_;refine eJ ?_ (e:=by exact by rw[Ar];rfl);refine bj ?_;refine zl Aq (wD b C K q M) .nil (λ_ le au=>EB hy au.2.1 (Le.refl _)) ?_;refine fu ?_;refine Me (()) (trivial)
 rintro u hI;refine aY ?_;refine az (t:=44) (v':=(DE DD (4*i:Nat))) rfl (by rfl) ?_;refine aw ?_;refine az (t:=45) (v':=(DE DD (4*i:Nat))) rfl (by rw[alC]) ?_;refine bn ?_;refine az (t:=47) (v':=(DE amo (nO o))) rfl (by rw[hm]) ?_;refine Er ?_;refine zl Aq (kN y.a y.ab C.aj (C.n*C.aj) p (4*i) (C.cl p) (C.sz (C.cl p)) (nO o) C.A hw f0 e3 nb e4 f1) (.cons .here .nil) (λ_ le au=>au.1) ?_;refine ay (λ_ s=>n9 hy s) ?_;refine ba ?_;refine Rt [Cl b (C.wA (wr C.A (p+4*i) 4 (nO o)))] results253 ?_;exact⟨rfl,rfl⟩
def DW (ka va:Value)(fl exp tch tok st mk:Nat):FV:= [ka,va,DE DB fl,DE DD exp,DE DD tch,DE DB tok,DE DD st,DE DD mk]
structure gU (C:Cs)(p:Nat):Prop where
 k0:kl C.A p≠0
 fits:58+kl C.A p+vl C.A p<=C.sz (C.cl p)
 exp:rd C.A (p+16) 8<9223372036854775808
 tch:rd C.A (p+24) 8<9223372036854775808
def aO (A:By)(p:Nat):F9:=jZ A (p+56) (kl A p)
def ko (A:By)(p:Nat):F9:=jZ A (p+56+kl A p) (vl A p)
theorem uD (b:Nat)(C:Cs)(K:Ok C)(p:Nat)(L:Live C p)(I:gU C p):
  aK aaY 98 [DC b,DE DB (C.hd p)] (In (Cl b C)) []
   (λv H=>∃kb vb,v= .tuple #[.agg (DW (.slice (some ⟨kb,0,none⟩) (kl C.A p) (kl C.A p)) (.slice (some ⟨vb,0,none⟩) (vl C.A p) (vl C.A p)) (rd C.A (p+40) 4) (rd C.A (p+16) 8) (rd C.A (p+24) 8) (rd C.A (p+32) 8) (rd C.A (p+45) 1) (rd C.A (p+46) 1)).toArray,DE DD 0]/\
    H= [own (some ⟨kb,0,none⟩) (kl C.A p) 5 1 (ak (aO C.A p)),own (some ⟨vb,0,none⟩) (vl C.A p) 5 1 (ak (ko C.A p))]):=by
 refine yo λy hy=> ?_;obtain⟨n1,n2,n3,_⟩:=L.toAt.br K;have nb:=gg K.toFix;have f0:=K.toFix.pos;have f1:=K.toFix.p1;have hk:=I.k0;have hf:=I.fits;have hx:=I.exp;have ht:=I.tch;have off:=λ{o w:Nat} (h:o+w<=C.sz (C.cl p))=>L.toAt.off K h;obtain⟨e1,e2⟩:=off (o:=44) (w:=1) (by omega);obtain⟨e3,e4⟩:=off (o:=48) (w:=4) (by omega);obtain⟨e5,e6⟩:=off (o:=56) (w:=kl C.A p) (by omega);obtain⟨e7,e8⟩:=off (o:=56+kl C.A p) (w:=vl C.A p) (by omega);obtain⟨g1,g2⟩:=off (o:=40) (w:=4) (by omega);obtain⟨g3,g4⟩:=off (o:=16) (w:=8) (by omega);obtain⟨g5,g6⟩:=off (o:=24) (w:=8) (by omega);obtain⟨g7,g8⟩:=off (o:=32) (w:=8) (by omega);obtain⟨j1,j2⟩:=off (o:=45) (w:=1) (by omega);obtain⟨j3,j4⟩:=off (o:=46) (w:=1) (by omega);have r1:rd C.A (p+40) 4<256^4:=kB _ _ _;have r2:rd C.A (p+45) 1<256^1:=kB _ _ _;have r3:rd C.A (p+46) 1<256^1:=kB _ _ _;refine af func98 rfl ntmps98 rfl ?_;intro F au;refine aw ?_;refine Lp (oA bZ λb1=> ?_);refine ba ?_;refine zl Aq (j8 b C y K hy p L) .nil (λ_ le _=>In.mono au le) ?_;unfold q8;refine bj ?_;refine Lp (oA gZ λb2=> ?_);refine cY ?_;refine zf 16 ?_ (e:=by rfl);refine aw ?_;refine zl Aq (gp y.a y.ab C.aj (C.n*C.aj) p (C.cl p) (C.sz (C.cl p)) C.A f0 e1 nb e2 f1) .nil (λ_ le _=>fy au le) ?_;refine bj ?_;refine cM ?_;refine bn ?_;refine av ?_;refine iL 28 mix (.cons .here .nil) λF1 jq bV aI=> ?_;obtain⟨hb,_⟩:=bV;have eP:=In.mono au jq;refine bn ?_;refine Tp (oZ (Aq (n:=143)) (gp y.a y.ab C.aj (C.n*C.aj) p (C.cl p) (C.sz (C.cl p)) C.A f0 e1 nb e2 f1) .nil (λ_ le _=>fy eP le) ?_);refine Tp (oC Aq rfl rfl (y4 y.a y.ab C.aj (C.n*C.aj) p 56 (C.cl p) (C.sz (C.cl p)) (kl C.A p) C.A f0 e5 nb e6 f1) .nil (λ_ le _=>fy eP le) ?_);rintro v H' ⟨kb,rfl,rfl⟩;refine bS ?_;refine bn ?_;refine Tp (oZ (Aq (n:=143)) (gp y.a y.ab C.aj (C.n*C.aj) p (C.cl p) (C.sz (C.cl p)) C.A f0 e1 nb e2 f1) .nil (λ_ le _=>fy eP le) ?_);refine aw ?_;refine az (t:=30) (v':=(DE DD (56+kl C.A p:Nat))) rfl (by rfl) ?_;refine aw ?_;refine Tp (oZ (Aq (n:=151)) (vZ y.a y.ab C.aj (C.n*C.aj) p (C.cl p) (C.sz (C.cl p)) C.A f0 e3 nb e4 f1) .nil (λ_ le _=>fy eP le) ?_);refine Tp (oC Aq rfl rfl (y4 y.a y.ab C.aj (C.n*C.aj) p (56+kl C.A p) (C.cl p) (C.sz (C.cl p)) (vl C.A p) C.A f0 e7 nb e8 f1) .nil (λ_ le _=>fy eP le) ?_);rintro v H' ⟨vb,rfl,rfl⟩;refine bS ?_;refine aw ?_;refine Tp (oZ (Aq (n:=152)) (qZ y.a y.ab C.aj (C.n*C.aj) p 40 (C.cl p) (C.sz (C.cl p)) C.A f0 g1 nb g2 f1) .nil (λ_ le _=>fy eP le) ?_);refine Ti (Cv QE He) ?_;refine aw ?_;refine Tp (oZ (Aq (n:=153)) (mT y.a y.ab C.aj (C.n*C.aj) p 16 (C.cl p) (C.sz (C.cl p)) C.A f0 g3 nb g4 f1) .nil (λ_ le _=>fy eP le) ?_);refine Ti (Cv u_3 Jy) ?_;refine aw ?_;refine Tp (oZ (Aq (n:=153)) (mT y.a y.ab C.aj (C.n*C.aj) p 24 (C.cl p) (C.sz (C.cl p)) C.A f0 g5 nb g6 f1) .nil (λ_ le _=>fy eP le) ?_);refine Ti (Cv u_3 Jy) ?_;refine aw ?_;refine Tp (oZ (Aq (n:=153)) (mT y.a y.ab C.aj (C.n*C.aj) p 32 (C.cl p) (C.sz (C.cl p)) C.A f0 g7 nb g8 f1) .nil (λ_ le _=>fy eP le) ?_);refine aw ?_;refine Tp (oZ (Aq (n:=154)) (pB y.a y.ab C.aj (C.n*C.aj) p 45 (C.cl p) (C.sz (C.cl p)) C.A f0 j1 nb j2 f1) .nil (λ_ le _=>fy eP le) ?_);refine Ti (Cv u_3 adi) ?_;refine aw ?_;refine Tp (oZ (Aq (n:=154)) (pB y.a y.ab C.aj (C.n*C.aj) p 46 (C.cl p) (C.sz (C.cl p)) C.A f0 j3 nb j4 f1) .nil (λ_ le _=>fy eP le) ?_);refine Ti (Cv u_3 adi) ?_;refine gG aI ?_;refine aw ?_;refine Tp (gE eB ?_);refine bj ?_;refine Ha [own (some ⟨kb,0,none⟩) (kl C.A p) 5 1 (ak (jZ C.A (p+56) (kl C.A p))),own (some ⟨vb,0,none⟩) (vl C.A p) 5 1 (ak (jZ C.A (p+(56+kl C.A p)) (vl C.A p)))] eB results98 ?_;exact⟨kb,vb,rfl,by unfold aO ko;rw[ah8 p 56]⟩
theorem Fq (b:Nat)(C:Cs)(K:Ok C)(p:Nat)(L:Live C p)(I:gU C p)(a:FX)(m c:Nat)(l:F9)(hm:m=l.length)(hl:l.length<281474976710656):
  aK aaY 95 [DC b,DE DB (C.hd p), .slice a m c] (λh=>In (Cl b C) h/\fD h a (ak l)) []
   (λv H=>v= .bool (decide (aO C.A p=l))/\H= []):=by
 suffices h:∀y,gS C y->aK aaY 95 [DC b,DE DB (C.hd p), .slice a m c] (λh=>In (CL b C y) h/\fD h a (ak l)) []
   (λv H=>v= .bool (decide (aO C.A p=l))/\H= [])from λF w hp s=>by
  obtain⟨⟨k,⟨y,hy,q⟩,le⟩,r⟩:=hp;exact h y hy F w ⟨⟨k,q,le⟩,r⟩ s
 intro y hy;obtain⟨n1,n2,n3,_⟩:=L.toAt.br K;have nb:=gg K.toFix;have f0:=K.toFix.pos;have f1:=K.toFix.p1;have hk:=I.k0;have hf:=I.fits;have off:=λ{o w:Nat} (h:o+w<=C.sz (C.cl p))=>L.toAt.off K h;obtain⟨e1,e2⟩:=off (o:=44) (w:=1) (by omega);obtain⟨e5,e6⟩:=off (o:=56) (w:=kl C.A p) (by omega);refine af func95 rfl ntmps95 rfl ?_;rintro F ⟨au,hr⟩;refine bA ?_;refine zl Aq (j8 b C y K hy p L) .nil (λ_ le _=>In.mono au le) ?_;unfold q8;refine bj ?_;refine Lp (oA gZ λb1=> ?_);refine bj ?_;refine av ?_;refine iL 15 mix (.cons .here .nil) λF1 jq bV aI=> ?_;obtain⟨hb,_⟩:=bV;have eP:=In.mono au jq;have Js:=fD.mono hr jq;refine bj ?_;refine zt 17 ?_ (e:=by rfl);refine aw ?_;refine Tp (oZ (Aq (n:=143)) (gp y.a y.ab C.aj (C.n*C.aj) p (C.cl p) (C.sz (C.cl p)) C.A f0 e1 nb e2 f1) .nil (λ_ le _=>fy eP le) ?_);refine bn ?_;refine az (t:=21) (v':=(.bool true)) rfl (by rw[Au]) ?_;refine aw ?_;refine zt 22 ?_ (e:=by rfl);refine bn ?_;refine Tp (oZ (Aq (n:=143)) (gp y.a y.ab C.aj (C.n*C.aj) p (C.cl p) (C.sz (C.cl p)) C.A f0 e1 nb e2 f1) .nil (λ_ le _=>fy eP le) ?_);refine Tp (oC Aq rfl rfl (y4 y.a y.ab C.aj (C.n*C.aj) p 56 (C.cl p) (C.sz (C.cl p)) (kl C.A p) C.A f0 e5 nb e6 f1) .nil (λ_ le _=>fy eP le) ?_);rintro v H' ⟨kb,rfl,rfl⟩;refine bS ?_;refine aw ?_;refine Tp (oZ (Aq (n:=144)) (PJ (some ⟨kb,0,none⟩) a (kl C.A p) c (kl C.A p) m (aO C.A p) l (by unfold aO;rw[cI]) hm (by unfold aO;rw[cI];omega) (by omega)) .nil (λ_ le au=>⟨bK au.1,Js.mono le⟩) ?_);refine aw ?_;refine gG aI ?_;refine bj ?_;refine Rt [] results95 ?_;exact⟨rfl,rfl⟩
def crlf:F9:= [13,10]
def fg (A:By)(p:Nat)(v:F9):By:=
 lay (lay (wr A (p+48) 4 v.length) (p+56+kl A p) v) (p+56+kl A p+v.length) crlf
theorem aj8 (A:By)(p w v:Nat):kl (wr A (p+48) w v) p=kl A p:=aS A _ w v _ _ (.inl (by omega))
theorem Lu (a ab aj n p c s m cc:Nat)(sa:FX)(l:F9)(A:By)(hm:m=l.length)(hl:l.length<4294967296)(h0:0<aj)(h2:n<=1073741824)(h4:aj<=1048576)
  (off:∀o w,o+w<=s->p+o+w<=n/\(p+o) % aj+w<=aj) (hs:58+kl A p+l.length<=s):
  aK aaY 179 [.agg (q8 a p c s).toArray, .slice sa m cc] (λh=>In (ag a 249 (iI ab aj n)) h/\fD h sa (ak l)) [ag ab 5 (dY A n)]
   (λu H=>u= .tuple #[]/\H= [ag ab 5 (dY (fg A p l) n)]):=by
 obtain⟨e1,e2⟩:=off 44 1 (by omega);obtain⟨e3,e4⟩:=off 48 4 (by omega);obtain⟨e5,e6⟩:=off (56+kl A p) l.length (by omega);obtain⟨e7,e8⟩:=off (56+kl A p+l.length) 2 (by omega);subst hm;have hkw:=aj8 A p 4 l.length;unfold q8;refine af func179 rfl ntmps179 rfl ?_;rintro F ⟨ha,hr⟩;refine aw ?_;refine Lp (oB λb1=> ?_);refine bA ?_;refine zl Aq (kN a ab aj n p 48 c s l.length A (by omega) h0 e3 h2 e4 h4) (.cons (.there .here) .nil) (λ_ le _=>ha.mono le) ?_;refine bj ?_;refine zl Aq (gp a ab aj n p c s (wr A (p+48) 4 l.length) h0 e1 h2 e2 h4) .nil (λ_ le au=>⟨ha.mono le,au.1⟩) ?_;rw[hkw];refine aY ?_;refine az (t:=15) (v':=(DE DD (56+kl A p+l.length:Nat))) rfl (by rfl) ?_;refine cL ?_;refine az (t:=24) (v':=(DE DD (p+(56+kl A p):Nat))) rfl (by(congr 1;omega)) ?_;refine aw ?_;refine zl Aq (qY a ab aj n (p+(56+kl A p)) l.length cc (wr A (p+48) 4 l.length) sa l rfl h0 e5 h2 e6 h4) (.cons .here .nil) (λ_ le _=>⟨ha.mono le,hr.mono le⟩) ?_;refine cY ?_;refine az (t:=32) (v':=(DE DD (p+(56+kl A p+l.length):Nat))) rfl (by rfl) ?_;refine Lp (oT iT λb2=> ?_);refine Lp (oMk mK tL ?_);refine zl Aq (qY a ab aj n (p+(56+kl A p+l.length)) 2 2 (lay (wr A (p+48) 4 l.length) (p+(56+kl A p)) l) (some ⟨b2,0,none⟩) crlf rfl h0 e7 h2 e8 h4) (.cons (.there .here) .nil) (λ_ le au=>⟨ha.mono le,by obtain⟨⟨k,q,l⟩,_⟩:=au;exact(rj (i:=0) q).mono l⟩) ?_;refine aB ?_;rw[show lay (lay (wr A (p+48) 4 l.length) (p+(56+kl A p)) l) (p+(56+kl A p+l.length)) crlf=fg A p l by unfold fg;rw[ah8 p,ah8 p]];refine j5 [ag ab 5 (dY (fg A p l) n)] results179 ?_;exact⟨rfl,rfl⟩
theorem No (b:Nat)(C:Cs)(K:Ok C)(p:Nat)(L:Live C p)(hk:kl C.A p≠0)(a:FX)(m c:Nat)(l:F9)(hm:m=l.length)(hf:58+kl C.A p+l.length<=C.sz (C.cl p)):
  aK aaY 125 [DC b,DE DB (C.hd p), .slice a m c] (λh=>fD h a (ak l)) [Cl b C]
   (λv H=>v=DE DD 0/\H= [Cl b (C.wA (fg C.A p l))]):=by
 refine nL λy hy=> ?_;obtain⟨n1,n2,n3,_⟩:=L.toAt.br K;have nb:=gg K.toFix;have f0:=K.toFix.pos;have f1:=K.toFix.p1;have off:=λ(o w:Nat) (h:o+w<=C.sz (C.cl p))=>L.toAt.off K h;obtain⟨e1,e2⟩:=off 44 1 (by omega);refine af func125 rfl ntmps125 rfl ?_;intro F hr;refine bA ?_;refine zl Aq (xD b C y K hy p L hk) .nil (λ_ le au=>au.1) ?_;unfold q8;refine bj ?_;refine Lp (oA gZ λb1=> ?_);refine aY ?_;refine av ?_;refine iL 12 mix (.cons .here (.cons .here .nil)) λF1 jq bV aI=> ?_;obtain⟨hb,dx,_⟩:=bV;have Js:=fD.mono hr jq;refine bj ?_;refine zt 17 ?_ (e:=by rfl);refine bA ?_;refine Tp (oZ (Aq (n:=143)) (gp y.a y.ab C.aj (C.n*C.aj) p (C.cl p) (C.sz (C.cl p)) C.A f0 e1 nb e2 f1) .nil (λ_ le au=>fy dx le) ?_);refine bn ?_;refine gG aI ?_;refine az (t:=26) (v':=(.bool false)) rfl (by(rw[hm];rw[Ar])) ?_;refine fu ?_;refine Hh (H':= [CL b C y,ag b1 231 [DC y.a,DE DD p,DE DD (C.cl p),DE DD (C.sz (C.cl p))]]) ?_;refine Er ?_;refine zl Aq (Lu y.a y.ab C.aj (C.n*C.aj) p (C.cl p) (C.sz (C.cl p)) m c a l C.A hm (by omega) f0 nb f1 off hf) (.cons .here .nil) (λ_ le au=>⟨au.1,hr.mono le⟩) ?_;refine ay (λ_ s=>n9 hy s) ?_;refine bA ?_;refine Rt [Cl b (C.wA (fg C.A p l))] results125 ?_;exact⟨rfl,rfl⟩
def pU (A:By)(p k:Nat):By:=(List.range k).foldl (λA i=>wr A (p+4*i) 4 0) A
def Jv (A:By)(p c kn fl exp tch tok st mk:Nat):By:=
 wr (wr (wr (wr (wr (wr (wr (wr (wr (pU A p 3) (p+16) 8 exp) (p+24) 8 tch) (p+32) 8 tok) (p+40) 4 fl) (p+44) 1 kn) (p+45) 1 st) (p+46) 1 mk) (p+47) 1 c) (p+52) 4 0
def lW (A:By)(p c:Nat)(k v:F9)(fl exp tch tok st mk:Nat):By:=
 fg (lay (Jv A p c k.length fl exp tch tok st mk) (p+56) k) p v
theorem uE (A:By)(p k:Nat):pU A p (k+1)=wr (pU A p k) (p+4*k) 4 0:=by unfold pU;rw[List.range_succ,List.foldl_append];rfl
theorem Hz (A:By)(p c kn fl exp tch tok st mk:Nat)(k:F9)(h:kn<256):kl (lay (Jv A p c kn fl exp tch tok st mk) (p+56) k) p=kn:=by
 unfold kl Jv;rw[eX _ _ _ _ _ (.inl (by omega)),aS _ _ _ _ _ _ (.inl (by omega)),aS _ _ _ _ _ _ (.inl (by omega)),aS _ _ _ _ _ _ (.inl (by omega)),aS _ _ _ _ _ _ (.inl (by omega)),dI];exact acZ (by rw[Nat.pow_one];exact h)
theorem fX{l:F9}(h:cU l=true):1<=l.length/\l.length<=250:=by
 unfold cU at h;rw[Bool.and_eq_true,decide_eq_true_iff]at h;exact h.1
theorem KR (b:Nat)(C:Cs)(K:Ok C)(p:Nat)(L:Live C p)(ka va:FX)(kc vc km vm:Nat)(k v:F9)(hkm:km=k.length)(hvm:vm=v.length)(fl exp tch tok st mk:Nat)
  (hl:cU k=true) (hf:58+k.length+v.length<=C.sz (C.cl p)) (h1:fl<4294967296) (h2:exp<9223372036854775808) (h3:tch<9223372036854775808) (h4:tok<18446744073709551616) (h5:1<=st/\st<=4) (h6:mk<16):
  aK aaY 186 [DC b,DE DB (C.hd p), .agg (DW (.slice ka km kc) (.slice va vm vc) fl exp tch tok st mk).toArray] (λh=>fD h ka (ak k)/\fD h va (ak v)) [Cl b C]
   (λu H=>u=DE DD 0/\H= [Cl b (C.wA (lW C.A p (C.cl p) k v fl exp tch tok st mk))]):=by
 refine nL λy hy=> ?_;obtain⟨n0,n1,n2,n3,_⟩:=L.toAt.br K;have nb:=gg K.toFix;have f0:=K.toFix.pos;have f1:=K.toFix.p1;have f2:=K.toFix.l1;obtain⟨l1,l2⟩:=fX hl;have off:=λ(o w:Nat) (h:o+w<=C.sz (C.cl p))=>L.toAt.off K h;have nu:=λ(o w:Nat) (h:o+w<=64)=>L.toAt.off K (o:=o) (w:=w) (by omega);subst hkm;subst hvm;have qh:=λX=>Hz X p (C.cl p) k.length fl exp tch tok st mk k (by omega);unfold DW;refine af func186 rfl ntmps186 rfl ?_;rintro F ⟨GN,Js⟩;refine aw ?_;refine Lp (oB λb1=> ?_);refine ba ?_;refine zl Aq (j8 b C y K hy p L) .nil (λ_ le au=>au.2.1) ?_;unfold q8;refine bj ?_;refine Lp (oA gZ λb2=> ?_);refine fu ?_;refine zl Aq (Fh ka kc k.length k rfl (by omega)) .nil (λ_ le _=>GN.mono le) ?_;rw[hl];refine sI ?_;refine cM ?_;refine ba ?_;refine zf 41 ?_;refine ba ?_;refine zf 46 ?_;refine bn ?_;refine zl Aq (Fc (mk:Int)) .nil DA ?_;refine aw ?_;refine az (t:=50) (v':=(.bool false)) rfl (by(rw[Au];rfl)) ?_;refine bn ?_;refine zf 52 ?_ (e:=by rfl);refine ba ?_;refine zf 57 ?_;refine ba ?_;refine zf 62 ?_;refine aY ?_;refine az (t:=66) (v':=(.bool false)) rfl (by(rw[Ar])) ?_;refine bO ?_;refine ay (H':= [CL b C y,ag b2 231 [DC y.a,DE DD p,DE DD (C.cl p),DE DD (C.sz (C.cl p))],ag b1 159 [.slice ka k.length kc, .slice va v.length vc,DE DB fl,DE DD exp,DE DD tch,DE DB tok,DE DD st,DE DD mk]]) (by exact Eh) ?_;refine Er ?_;refine ay (H':= [ag y.ab 5 (dY (pU C.A p 0) (C.n*C.aj)),ag y.a 249 (iI y.ab C.aj (C.n*C.aj)),clR b C y,ag b2 231 [DC y.a,DE DD p,DE DD (C.cl p),DE DD (C.sz (C.cl p))],ag b1 159 [.slice ka k.length kc, .slice va v.length vc,DE DB fl,DE DD exp,DE DD tch,DE DB tok,DE DD st,DE DD mk]]) (λ_ s=>s) ?_;refine Lo (ι:=Nat) (FZ [9,1,67,9]) (λi=>i<=3) (λi=> [(67,DE DD i)]) (λi=> [ag y.ab 5 (dY (pU C.A p i) (C.n*C.aj)),ag y.a 249 (iI y.ab C.aj (C.n*C.aj)),clR b C y,ag b2 231 [DC y.a,DE DD p,DE DD (C.cl p),DE DD (C.sz (C.cl p))],ag b1 159 [.slice ka k.length kc, .slice va v.length vc,DE DB fl,DE DD exp,DE DD tch,DE DB tok,DE DD st,DE DD mk]]) (λi=>3-i) (0) (by simp) ?_;rintro i hI;refine bj ?_;refine av ?_;refine aA rfl ?_ ?_
 ·intro hi
  replace hi:=aG hi;refine cL ?_;refine az (t:=72) (v':=(DE DD (4*i:Nat))) rfl (by rfl) ?_;refine aw ?_;refine az (t:=73) (v':=(DE DD (4*i:Nat))) rfl (by rw[alC]) ?_;refine zl Aq (kN y.a y.ab C.aj (C.n*C.aj) p (4*i) (C.cl p) (C.sz (C.cl p)) 0 (pU C.A p i) (by decide) f0 (nu (4*i) 4 (by omega)).1 nb (nu (4*i) 4 (by omega)).2 f1) (.cons .here .nil) (λ_ le au=>au.1) ?_;rw[<-uE];refine bA ?_;refine aB ?_;refine Ro (i+1) (by omega) (by omega)
 intro hi;replace hi:=aG hi;obtain rfl:i=3:=by omega
 refine bD ?_;refine zl Aq (mS y.a y.ab C.aj (C.n*C.aj) p 16 (C.cl p) (C.sz (C.cl p)) exp (pU C.A p 3) (ah1 h2 (by decide)) f0 (nu 16 8 (by omega)).1 nb (nu 16 8 (by omega)).2 f1) (.cons .here .nil) (λ_ le au=>au.1) ?_;refine bA ?_;refine zl Aq (mS y.a y.ab C.aj (C.n*C.aj) p 24 (C.cl p) (C.sz (C.cl p)) tch (wr (pU C.A p 3) (p+16) 8 exp) (ah1 h3 (by decide)) f0 (nu 24 8 (by omega)).1 nb (nu 24 8 (by omega)).2 f1) (.cons .here .nil) (λ_ le au=>au.1) ?_;refine ba ?_;refine zl Aq (mS y.a y.ab C.aj (C.n*C.aj) p 32 (C.cl p) (C.sz (C.cl p)) tok (wr (wr (pU C.A p 3) (p+16) 8 exp) (p+24) 8 tch) (aht h4 (by decide)) f0 (nu 32 8 (by omega)).1 nb (nu 32 8 (by omega)).2 f1) (.cons .here .nil) (λ_ le au=>au.1) ?_;refine bA ?_;refine zl Aq (kN y.a y.ab C.aj (C.n*C.aj) p 40 (C.cl p) (C.sz (C.cl p)) fl (wr (wr (wr (pU C.A p 3) (p+16) 8 exp) (p+24) 8 tch) (p+32) 8 tok) (aht h1 (by decide)) f0 (nu 40 4 (by omega)).1 nb (nu 40 4 (by omega)).2 f1) (.cons .here .nil) (λ_ le au=>au.1) ?_;refine bL ?_;refine zl Aq (mH y.a y.ab C.aj (C.n*C.aj) p 44 (C.cl p) (C.sz (C.cl p)) k.length (wr (wr (wr (wr (pU C.A p 3) (p+16) 8 exp) (p+24) 8 tch) (p+32) 8 tok) (p+40) 4 fl) (ahB l2 (by decide)) f0 (nu 44 1 (by omega)).1 nb (nu 44 1 (by omega)).2 f1) (.cons .here .nil) (λ_ le au=>au.1) ?_;refine bA ?_;refine zl Aq (mH y.a y.ab C.aj (C.n*C.aj) p 45 (C.cl p) (C.sz (C.cl p)) st (wr (wr (wr (wr (wr (pU C.A p 3) (p+16) 8 exp) (p+24) 8 tch) (p+32) 8 tok) (p+40) 4 fl) (p+44) 1 k.length) (ahB h5.2 (by decide)) f0 (nu 45 1 (by omega)).1 nb (nu 45 1 (by omega)).2 f1) (.cons .here .nil) (λ_ le au=>au.1) ?_;refine bA ?_;refine zl Aq (mH y.a y.ab C.aj (C.n*C.aj) p 46 (C.cl p) (C.sz (C.cl p)) mk (wr (wr (wr (wr (wr (wr (pU C.A p 3) (p+16) 8 exp) (p+24) 8 tch) (p+32) 8 tok) (p+40) 4 fl) (p+44) 1 k.length) (p+45) 1 st) (ah1 h6 (by decide)) f0 (nu 46 1 (by omega)).1 nb (nu 46 1 (by omega)).2 f1) (.cons .here .nil) (λ_ le au=>au.1) ?_;refine bA ?_;refine zl Aq (mH y.a y.ab C.aj (C.n*C.aj) p 47 (C.cl p) (C.sz (C.cl p)) (C.cl p) (wr (wr (wr (wr (wr (wr (wr (pU C.A p 3) (p+16) 8 exp) (p+24) 8 tch) (p+32) 8 tok) (p+40) 4 fl) (p+44) 1 k.length) (p+45) 1 st) (p+46) 1 mk) (aht n0 (Nat.le_trans f2 (by decide))) f0 (nu 47 1 (by omega)).1 nb (nu 47 1 (by omega)).2 f1) (.cons .here .nil) (λ_ le au=>au.1) ?_;refine bj ?_;refine zl Aq (kN y.a y.ab C.aj (C.n*C.aj) p 52 (C.cl p) (C.sz (C.cl p)) 0 (wr (wr (wr (wr (wr (wr (wr (wr (pU C.A p 3) (p+16) 8 exp) (p+24) 8 tch) (p+32) 8 tok) (p+40) 4 fl) (p+44) 1 k.length) (p+45) 1 st) (p+46) 1 mk) (p+47) 1 (C.cl p)) (by decide) f0 (nu 52 4 (by omega)).1 nb (nu 52 4 (by omega)).2 f1) (.cons .here .nil) (λ_ le au=>au.1) ?_;refine cu ?_;rw[show wr (wr (wr (wr (wr (wr (wr (wr (wr (pU C.A p 3) (p+16) 8 exp) (p+24) 8 tch) (p+32) 8 tok) (p+40) 4 fl) (p+44) 1 k.length) (p+45) 1 st) (p+46) 1 mk) (p+47) 1 (C.cl p)) (p+52) 4 0=Jv C.A p (C.cl p) k.length fl exp tch tok st mk from rfl];generalize hX:Jv C.A p (C.cl p) k.length fl exp tch tok st mk=X;refine zl Aq (qY y.a y.ab C.aj (C.n*C.aj) (p+56) k.length kc X ka k rfl f0 (off 56 k.length (by omega)).1 nb (off 56 k.length (by omega)).2 f1) (.cons .here .nil) (λ_ le au=>⟨au.1,GN.mono le⟩) ?_;have hY:kl (lay X (p+56) k) p=k.length:=by rw[<-hX];exact qh _
 have eY:fg (lay X (p+56) k) p v=lW C.A p (C.cl p) k v fl exp tch tok st mk:=by rw[<-hX];rfl
 generalize lay X (p+56) k=Y at hY eY⊢;refine ba ?_;refine zl Aq (Lu y.a y.ab C.aj (C.n*C.aj) p (C.cl p) (C.sz (C.cl p)) v.length vc va v Y rfl (by omega) f0 nb f1 off (by rw[hY];exact hf)) (.cons .here .nil) (λ_ le au=>⟨au.1,Js.mono le⟩) ?_;rw[eY];refine ay (λ_ s=>n9 hy s) ?_;refine ba ?_;refine Rt [Cl b (C.wA (lW C.A p (C.cl p) k v fl exp tch tok st mk))] results186 ?_;exact⟨rfl,rfl⟩
def B9 (C:Cs)(p q:Nat):By:=
 lW C.A p (C.cl p) (aO C.A q) (ko C.A q) (rd C.A (q+40) 4) (rd C.A (q+16) 8) (rd C.A (q+24) 8) (rd C.A (q+32) 8) 4 (rd C.A (q+46) 1)
theorem Vx (b:Nat)(C:Cs)(K:Ok C)(p q:Nat)(L:Live C p)(M:Live C q)(I:gU C q)(hpq:p≠q)(hl:cU (aO C.A q)=true)(hm:rd C.A (q+46) 1<16)(hf:58+kl C.A q+vl C.A q<=C.sz (C.cl p)):
  aK aaY 158 [DC b,DE DB (C.hd p),DE DB (C.hd q)] vz [Cl b C]
   (λu H=>u=DE DD 0/\H= [Cl b (C.wA (B9 C p q))]):=by
 have fN:C.hd p≠C.hd q:=λh=>hpq (jm K L.toAt M.toAt h);obtain⟨_,_,_,_,v1,_⟩:=bU K L.toAt;obtain⟨_,_,_,_,v2,_⟩:=bU K M.toAt;have hk:=I.k0;have r1:rd C.A (q+40) 4<256^4:=kB _ _ _;have r2:rd C.A (q+32) 8<256^8:=kB _ _ _;have lk:(aO C.A q).length=kl C.A q:=cI _ _ _;have lv:(ko C.A q).length=vl C.A q:=cI _ _ _;have nb:=gg K.toFix;have f0:=K.toFix.pos;have f1:=K.toFix.p1;obtain⟨n1,n2,n3,_⟩:=M.toAt.br K;obtain⟨z1,z2,z3,_⟩:=L.toAt.br K;have off:=λ(o w:Nat) (h:o+w<=C.sz (C.cl q))=>M.toAt.off K h;obtain⟨e1,e2⟩:=off 44 1 (by omega);obtain⟨e3,e4⟩:=off 48 4 (by omega);refine nL λy hy=> ?_;refine af func158 rfl ntmps158 rfl ?_;intro F _;refine bA ?_;refine zl Aq (j8 b C y K hy p L) .nil (λ_ le au=>au.1) ?_;unfold q8;refine bj ?_;refine Lp (oA gZ λb1=> ?_);refine fu ?_;refine zl Aq (j8 b C y K hy q M) .nil (λ_ le au=>au.2.1) ?_;unfold q8;refine bj ?_;refine Lp (oA gZ λb2=> ?_);refine cu ?_;refine zf 30 ?_ (e:=by rfl);refine aw ?_;refine zl Aq (gp y.a y.ab C.aj (C.n*C.aj) q (C.cl q) (C.sz (C.cl q)) C.A f0 e1 nb e2 f1) .nil (λ_ le au=>fy au.2.2.1 (Le.refl _)) ?_;refine aY ?_;refine cM ?_;refine bA ?_;refine cM ?_;refine av ?_;refine iL 9 mix (.cons .here (.cons .here (.cons .here .nil))) λF1 jq bV aI=> ?_;obtain⟨cK,cy,dx,_⟩:=bV;refine aw ?_;refine Tp (oZ (Aq (n:=143)) (gp y.a y.ab C.aj (C.n*C.aj) q (C.cl q) (C.sz (C.cl q)) C.A f0 e1 nb e2 f1) .nil (λ_ le au=>fy dx le) ?_);refine bn ?_;refine Tp (oZ (Aq (n:=151)) (vZ y.a y.ab C.aj (C.n*C.aj) q (C.cl q) (C.sz (C.cl q)) C.A f0 e3 nb e4 f1) .nil (λ_ le au=>fy dx le) ?_);refine aY ?_;refine gG aI ?_;refine bn ?_;refine cM ?_;refine bA ?_;refine Lp (oC Aq rfl rfl (uD b C K q M I) .nil (λ_ le au=>EB hy au.2.2.1 (Le.refl _)) ?_);rintro v H' ⟨kb,vb,rfl,rfl⟩;refine bS ?_;unfold DW;refine bj ?_;refine Lp (oA bZ λb3=> ?_);refine bO ?_;refine Hh (H':= [CL b C y,own (some ⟨kb,0,none⟩) (kl C.A q) 5 1 (ak (aO C.A q)),own (some ⟨vb,0,none⟩) (vl C.A q) 5 1 (ak (ko C.A q))]) ?_;refine ay (λ_ s=>BD hy s) ?_;refine zl Aq (KR b C K p L (some ⟨kb,0,none⟩) (some ⟨vb,0,none⟩) (kl C.A q) (vl C.A q) (kl C.A q) (vl C.A q) (aO C.A q) (ko C.A q) lk.symm lv.symm (rd C.A (q+40) 4) (rd C.A (q+16) 8) (rd C.A (q+24) 8) (rd C.A (q+32) 8) 4 (rd C.A (q+46) 1) hl (by omega) r1 I.exp I.tch (aht r2 (by decide)) (by decide) hm) (.cons .here .nil) (λ_ le au=>⟨bK au.1,bK au.2.1⟩) ?_;refine bj ?_;refine Rt [Cl b (C.wA (B9 C p q))] results158 ?_;exact⟨rfl,rfl⟩
end Go.Proofs.YtcbcjolpdljbiaaGreat
