/- Part Pf of the proof. -/
import Derived.Test.YtcbcjolpdljbiaaGreatPd
import Derived.Test.YtcbcjolpdljbiaaGreatPe
set_option maxRecDepth 100000
open Go.Proofs.YtcbcjolpdljbiaaGreat.T
open Nat renaming add_assoc -> ai2, mod_eq_of_lt -> afE, lt_trans -> agz, lt_of_lt_of_le -> afZ, lt_of_le_of_lt -> af6
open Int renaming zero_add -> aj3
open Go.Proofs.Tryz renaming prog -> aaO
open Go.Proofs.Tryz
open Go.Value renaming int -> CO
open Go.IntKind renaming i64 -> CN, u64 -> CJ, u8 -> akN, u32 -> akO
namespace Go.Proofs.YtcbcjolpdljbiaaGreat
open Go Go.dG Go.Proofs.YtcbcjolpdljbiaaGreat.Cs
def qt (a p c s:Nat):List Value:= [CM a,CO CN p,CO CN c,CO CN s]
def kl (A:By)(p:Nat):Nat:=rd A (p+44) 1
def vl (A:By)(p:Nat):Nat:=rd A (p+48) 4
theorem Cs.At.off{C:Cs}(K:Ok C){p:Nat}(L:At C p){o w:Nat}(h:o+w<=C.sz (C.cl p)):p+o+w<=C.n*C.aj/\(p+o) % C.aj+w<=C.aj:=by
 obtain⟨_,n2,n3,_,_,n6,n7,n8⟩:=L.bn K;refine⟨by omega, ?_⟩;have KH:=K.toFix.pos;have e:(p+o) % C.aj=(C.ix p*C.sz (C.cl p)+o) % C.aj:=by
  rw[n6,ai2,Nat.add_comm,Nat.add_mul_mod_self_right];rw[<-n6]
 rw[e];by_cases hw:C.ix p*C.sz (C.cl p)+o<C.aj
 ·rw[afE hw];omega
 have:C.ix p*C.sz (C.cl p)+o=C.aj:=by omega
 rw[this,Nat.mod_self];omega
theorem oU (a ab aj n p o c s:Nat)(A:By)(h0:0<aj)(h1:p+o+1<=n)(h2:n<=1073741824)(h3:(p+o) % aj+1<=aj)(h4:aj<=1048576):
  aO aaO 154 [.agg (qt a p c s).toArray,CO CN o] (λh=>In (af a 249 (iq ab aj n)) h/\In (af ab 5 (dI A n)) h) []
   (λv H=>v=CO akN (rd A (p+o) 1:Nat)/\H= []):=by
 unfold qt;refine ag func154 rfl ntmps154 rfl ?_;rintro F ⟨ha,hb⟩;refine av ?_;refine Lp (oB λb1=> ?_);refine cA ?_;refine zl CF (L4 a ab aj n (p+o) A h0 h1 h2 h3 h4) .nil (λ_ le _=>⟨ha.mono le,hb.mono le⟩) ?_;refine bW ?_;refine Rt [] results154 ?_;exact⟨rfl,rfl⟩
theorem mz (a ab aj n p o c s v:Nat)(A:By)(hv:v<256^1)(h0:0<aj)(h1:p+o+1<=n)(h2:n<=1073741824)(h3:(p+o) % aj+1<=aj)(h4:aj<=1048576):
  aO aaO 250 [.agg (qt a p c s).toArray,CO CN o,CO akN v] (In (af a 249 (iq ab aj n))) [af ab 5 (dI A n)]
   (λu H=>u= .tuple #[]/\H= [af ab 5 (dI (wr A (p+o) 1 v) n)]):=by
 unfold qt;refine ag func250 rfl ntmps250 rfl ?_;rintro F ha;refine av ?_;refine Lp (oB λb1=> ?_);refine cA ?_;refine zl CF (LH a ab aj n (p+o) v A hv h0 h1 h2 h3 h4) (.cons (.there .here) .nil) (λ_ le _=>ha.mono le) ?_;refine aF ?_;refine jW [af ab 5 (dI (wr A (p+o) 1 v) n)] results250 ?_;exact⟨rfl,rfl⟩
theorem qp (a ab aj n p o c s:Nat)(A:By)(h0:0<aj)(h1:p+o+4<=n)(h2:n<=1073741824)(h3:(p+o) % aj+4<=aj)(h4:aj<=1048576):
  aO aaO 152 [.agg (qt a p c s).toArray,CO CN o] (λh=>In (af a 249 (iq ab aj n)) h/\In (af ab 5 (dI A n)) h) []
   (λv H=>v=CO akO (rd A (p+o) 4:Nat)/\H= []):=by
 unfold qt;refine ag func152 rfl ntmps152 rfl ?_;rintro F ⟨ha,hb⟩;refine av ?_;refine Lp (oB λb1=> ?_);refine cA ?_;refine zl CF (Ic a ab aj n (p+o) A h0 h1 h2 h3 h4) .nil (λ_ le _=>⟨ha.mono le,hb.mono le⟩) ?_;refine bW ?_;refine Rt [] results152 ?_;exact⟨rfl,rfl⟩
theorem kK (a ab aj n p o c s v:Nat)(A:By)(hv:v<256^4)(h0:0<aj)(h1:p+o+4<=n)(h2:n<=1073741824)(h3:(p+o) % aj+4<=aj)(h4:aj<=1048576):
  aO aaO 245 [.agg (qt a p c s).toArray,CO CN o,CO akO v] (In (af a 249 (iq ab aj n))) [af ab 5 (dI A n)]
   (λu H=>u= .tuple #[]/\H= [af ab 5 (dI (wr A (p+o) 4 v) n)]):=by
 unfold qt;refine ag func245 rfl ntmps245 rfl ?_;rintro F ha;refine av ?_;refine Lp (oB λb1=> ?_);refine cA ?_;refine zl CF (yz a ab aj n (p+o) v A hv h0 h1 h2 h3 h4) (.cons (.there .here) .nil) (λ_ le _=>ha.mono le) ?_;refine aF ?_;refine jW [af ab 5 (dI (wr A (p+o) 4 v) n)] results245 ?_;exact⟨rfl,rfl⟩
theorem mT (a ab aj n p o c s:Nat)(A:By)(h0:0<aj)(h1:p+o+8<=n)(h2:n<=1073741824)(h3:(p+o) % aj+8<=aj)(h4:aj<=1048576):
  aO aaO 153 [.agg (qt a p c s).toArray,CO CN o] (λh=>In (af a 249 (iq ab aj n)) h/\In (af ab 5 (dI A n)) h) []
   (λv H=>v=CO CJ (rd A (p+o) 8:Nat)/\H= []):=by
 unfold qt;refine ag func153 rfl ntmps153 rfl ?_;rintro F ⟨ha,hb⟩;refine av ?_;refine Lp (oB λb1=> ?_);refine cA ?_;refine zl CF (Ib a ab aj n (p+o) A h0 h1 h2 h3 h4) .nil (λ_ le _=>⟨ha.mono le,hb.mono le⟩) ?_;refine bW ?_;refine Rt [] results153 ?_;exact⟨rfl,rfl⟩
theorem mS (a ab aj n p o c s v:Nat)(A:By)(hv:v<256^8)(h0:0<aj)(h1:p+o+8<=n)(h2:n<=1073741824)(h3:(p+o) % aj+8<=aj)(h4:aj<=1048576):
  aO aaO 247 [.agg (qt a p c s).toArray,CO CN o,CO CJ v] (In (af a 249 (iq ab aj n))) [af ab 5 (dI A n)]
   (λu H=>u= .tuple #[]/\H= [af ab 5 (dI (wr A (p+o) 8 v) n)]):=by
 unfold qt;refine ag func247 rfl ntmps247 rfl ?_;rintro F ha;refine av ?_;refine Lp (oB λb1=> ?_);refine cA ?_;refine zl CF (HY a ab aj n (p+o) v A hv h0 h1 h2 h3 h4) (.cons (.there .here) .nil) (λ_ le _=>ha.mono le) ?_;refine aF ?_;refine jW [af ab 5 (dI (wr A (p+o) 8 v) n)] results247 ?_;exact⟨rfl,rfl⟩
theorem fY (a ab aj n p c s:Nat)(A:By)(h0:0<aj)(h1:p+44+1<=n)(h2:n<=1073741824)(h3:(p+44) % aj+1<=aj)(h4:aj<=1048576):
  aO aaO 143 [.agg (qt a p c s).toArray] (λh=>In (af a 249 (iq ab aj n)) h/\In (af ab 5 (dI A n)) h) []
   (λv H=>v=CO CN (kl A p:Nat)/\H= []):=by
 have hl:rd A (p+44) 1<256^1:=ko _ _ _;unfold kl;refine ag func143 rfl ntmps143 rfl ?_;rintro F ⟨ha,hb⟩;refine av ?_;refine Lp (oB λb1=> ?_);refine bm ?_;refine zl CF (oU a ab aj n p 44 c s A h0 h1 h2 h3 h4) .nil (λ_ le _=>⟨ha.mono le,hb.mono le⟩) ?_;refine bm ?_;refine Rt [] results143 ?_;exact⟨rfl,rfl⟩
theorem vk (a ab aj n p c s:Nat)(A:By)(h0:0<aj)(h1:p+48+4<=n)(h2:n<=1073741824)(h3:(p+48) % aj+4<=aj)(h4:aj<=1048576):
  aO aaO 151 [.agg (qt a p c s).toArray] (λh=>In (af a 249 (iq ab aj n)) h/\In (af ab 5 (dI A n)) h) []
   (λv H=>v=CO CN (vl A p:Nat)/\H= []):=by
 have hl:rd A (p+48) 4<256^4:=ko _ _ _;unfold vl;refine ag func151 rfl ntmps151 rfl ?_;rintro F ⟨ha,hb⟩;refine av ?_;refine Lp (oB λb1=> ?_);refine bm ?_;refine zl CF (qp a ab aj n p 48 c s A h0 h1 h2 h3 h4) .nil (λ_ le _=>⟨ha.mono le,hb.mono le⟩) ?_;refine bm ?_;refine Rt [] results151 ?_;exact⟨rfl,rfl⟩
theorem yd (a ab aj n p o c s m:Nat)(A:By)(h0:0<aj)(h1:p+o+m<=n)(h2:n<=1073741824)(h3:(p+o) % aj+m<=aj)(h4:aj<=1048576):
  aO aaO 145 [.agg (qt a p c s).toArray,CO CN o,CO CN m] (λh=>In (af a 249 (iq ab aj n)) h/\In (af ab 5 (dI A n)) h) []
   (λv H=>∃b,v= .slice (some ⟨b,0,none⟩) m m/\H= [own (some ⟨b,0,none⟩) m 5 1 (ax (jU A (p+o) m))]):=by
 unfold qt;refine ag func145 rfl ntmps145 rfl ?_;rintro F ⟨ha,hb⟩;refine av ?_;refine Lp (oB λb1=> ?_);refine bM ?_;refine Lp (oC CF rfl rfl (HW a ab aj n (p+o) m A h0 h1 h2 h3 h4) .nil (λ_ le _=>⟨ha.mono le,hb.mono le⟩) ?_);rintro v H' ⟨b,rfl,rfl⟩;refine aX ?_;refine bW ?_;refine Rt [own (some ⟨b,0,none⟩) m 5 1 (ax (jU A (p+o) m))] results145 ?_;exact⟨_,rfl,rfl⟩
abbrev CL (b:Nat)(C:Cs)(y:Lc):aa:=aG (mU b C y)
theorem xA{P:Program}{f:FuncId}{args:List Value}{H:List aa}{R:Value->List aa->Prop}{b:Nat}{C:Cs}(h:∀y,gN C y->aO P f args (In (CL b C y)) H R):aO P f args (In (Cl b C)) H R:=λF w hp s=>by
 obtain⟨k,⟨y,hy,p⟩,l⟩:=hp;exact h y hy F w ⟨k,p,l⟩ s
theorem DJ{b:Nat}{C:Cs}{y:Lc}{h k:Hp}(hy:gN C y)(i:In (CL b C y) h)(l:Le h k):In (Cl b C) k:=by
 obtain⟨m,p,q⟩:=i;exact⟨m,⟨y,hy,p⟩,q.trans l⟩
theorem fh{b:Nat}{C:Cs}{y:Lc}{h k:Hp}(i:In (CL b C y) h)(l:Le h k):In (af y.a 249 (iq y.ab C.aj (C.n*C.aj))) k/\In (af y.ab 5 (dI C.A (C.n*C.aj))) k:=by
 obtain⟨_,_,_,_,_,_,h6,h7,_⟩:=tJ i;exact⟨In.mono h6 l,In.mono h7 l⟩
theorem jY (b:Nat)(C:Cs)(y:Lc)(K:Ok C)(hy:gN C y)(p:Nat)(L:Live C p):
  aO aaO 142 [CM b,CO CJ (C.hd p)] (In (CL b C y)) []
   (λv H=>v= .tuple #[.agg (qt y.a p (C.cl p) (C.sz (C.cl p))).toArray,CO CN 0]/\H= []):=by
 have hc:C.cl p<C.ae.length:=(L.toAt.bn K).1;refine ag func142 rfl ntmps142 rfl ?_;intro F ao;refine av ?_;refine Lp (oA gR λb1=> ?_);refine gz ?_;refine zl CF (vG b C K p L) .nil (λ_ le _=>DJ hy ao le) ?_;refine sT ?_;refine zl CF (Vs b C y) .nil (λ_ le _=>bS (tJ ao) le) ?_;refine bm ?_;refine zl CF (qW b C K (C.cl p:Int)) .nil (λ_ le _=>DJ hy ao le) ?_;unfold ofM;rw[if_pos (by omega),Int.toNat_natCast];refine bE ?_;refine Gi [] Hn results142 ?_;exact⟨rfl,rfl⟩
theorem wS (b:Nat)(C:Cs)(y:Lc)(K:Ok C)(hy:gN C y)(p:Nat)(L:Live C p)(hk:kl C.A p≠0):
  aO aaO 178 [CM b,CO CJ (C.hd p)] (In (CL b C y)) []
   (λv H=>v= .tuple #[.agg (qt y.a p (C.cl p) (C.sz (C.cl p))).toArray,CO CN 0]/\H= []):=by
 obtain⟨n1,n2,_⟩:=L.toAt.bn K;have nb:=fO K.toFix;have f0:=K.toFix.pos;have f1:=K.toFix.p1;obtain⟨e1,e2⟩:=L.toAt.off K (o:=44) (w:=1) (by omega);refine ag func178 rfl ntmps178 rfl ?_;intro F ao;refine av ?_;refine Lp (oA gR λb1=> ?_);refine bE ?_;refine zl CF (jY b C y K hy p L) .nil (λ_ le _=>In.mono ao le) ?_;unfold qt;refine bz ?_;refine Lp (oA gR λb2=> ?_);refine dm ?_;refine zt 16 ?_ (e:=by rfl);refine av ?_;refine zl CF (fY y.a y.ab C.aj (C.n*C.aj) p (C.cl p) (C.sz (C.cl p)) C.A f0 e1 nb e2 f1) .nil (λ_ le _=>fh ao le) ?_;refine bz ?_;refine cO ?_;refine cA ?_;refine Gi [] Hn results178 ?_;exact⟨rfl,rfl⟩
def Cs.wA (C:Cs)(A:By):Cs:={C with A:=A}
theorem nG{P:Program}{f:FuncId}{args:List Value}{pre:Hp->Prop}{H:List aa}{R:Value->List aa->Prop}{b:Nat}{C:Cs}(h:∀y,gN C y->aO P f args pre (CL b C y::H) R):aO P f args pre (Cl b C::H) R:=
 aO.exL λy=>aO.Dv λhy=>h y hy
theorem AM{b:Nat}{C:Cs}{y:Lc}{H:List aa}{h:Hp}(hy:gN C y)(st:ai (CL b C y::H) h):ai (Cl b C::H) h:=
 bB (λ_ p=>⟨y,hy,p⟩) st
theorem gN.wA{C:Cs}{y:Lc}(hy:gN C y)(A:By):gN (C.wA A) y:=⟨hy.pl,hy.rl,hy.pk,hy.aj,hy.pgs⟩
def clR (b:Nat)(C:Cs)(y:Lc):aa:=aG [af b 179 (cH C y),n9 C y,af y.pb 227 (y.pl.flatMap dD),aG (y.pl.map lp),af y.rb 196 (y.rl.flatMap dZ),aG (y.rl.map kM)]
theorem uR{L H:List aa}{h:Hp}(s:ai (aG L::H) h):ai (L++H) h:=by
 obtain⟨h1,h2,d,l1,l2,s1,s2⟩:=s;exact eL (bK s1 s2 d) (bY l1 l2)
theorem EN (b:Nat)(C:Cs)(y:Lc):List.Perm (mU b C y) ([af y.ab 5 (dI C.A (C.n*C.aj)),af y.a 249 (iq y.ab C.aj (C.n*C.aj))]++ [af b 179 (cH C y),n9 C y,af y.pb 227 (y.pl.flatMap dD),aG (y.pl.map lp),af y.rb 196 (y.rl.flatMap dZ),aG (y.rl.map kM)]):=
 List.perm_append_comm (l₁:= [_,_,_,_,_,_]) (l₂:= [_,_]) |>.trans (List.Perm.swap _ _ _)
theorem Vd{b:Nat}{C:Cs}{y:Lc}{H:List aa}{h:Hp}(s:ai (CL b C y::H) h):ai (af y.ab 5 (dI C.A (C.n*C.aj))::af y.a 249 (iq y.ab C.aj (C.n*C.aj))::clR b C y::H) h:=
 aK (λ_ s=>aK (λ_ s=>dU (L:= [_,_,_,_,_,_]) s) s) (uR (oO (EN b C y) s))
theorem nW{b:Nat}{C:Cs}{y:Lc}{H:List aa}{A:By}(hy:gN C y){h:Hp}(s:ai (af y.ab 5 (dI A (C.n*C.aj))::af y.a 249 (iq y.ab C.aj (C.n*C.aj))::clR b C y::H) h):ai (Cl b (C.wA A)::H) h:=by
 refine AM (hy.wA A) (oO (EN b (C.wA A) y).symm (dU (L:= [_,_,_,_,_,_,_,_]) ?_));exact aK (λ_ s=>aK (λ_ s=>uR s) s) s
theorem DB{n:Nat}{ds:List Deferred}{F:dC}{K:Act->World->Prop}{σ:aZ}{H:List aa}{b:Nat}{C:Cs}{y:Lc}
  (h:G n ds F K σ (af y.ab 5 (dI C.A (C.n*C.aj))::af y.a 249 (iq y.ab C.aj (C.n*C.aj))::clR b C y::H)):G n ds F K σ (CL b C y::H):=au (λ_ s=>Vd s) h
theorem yl (b:Nat)(C:Cs)(K:Ok C)(p o:Nat)(L:Live C p)(hk:kl C.A p≠0)(ho:o+1<=56):
  aO aaO 242 [CM b,CO CJ (C.hd p),CO CN o] (In (Cl b C)) []
   (λv H=>v= .tuple #[CO akN (rd C.A (p+o) 1:Nat),CO CN 0]/\H= []):=by
 refine xA λy hy=> ?_;obtain⟨n1,n2,_⟩:=L.toAt.bn K;have nb:=fO K.toFix;have f0:=K.toFix.pos;have f1:=K.toFix.p1;obtain⟨e1,e2⟩:=L.toAt.off K (o:=44) (w:=1) (by omega);obtain⟨e3,e4⟩:=L.toAt.off K (o:=o) (w:=1) (by omega);refine ag func242 rfl ntmps242 rfl ?_;intro F ao;refine bR ?_;refine zl CF (jY b C y K hy p L) .nil (λ_ le _=>In.mono ao le) ?_;unfold qt;refine bz ?_;refine Lp (oA gR λb1=> ?_);refine dm ?_;refine zf 18 ?_ (e:=by rfl);refine av ?_;refine zl CF (fY y.a y.ab C.aj (C.n*C.aj) p (C.cl p) (C.sz (C.cl p)) C.A f0 e1 nb e2 f1) .nil (λ_ le _=>fh ao le) ?_;refine bz ?_;refine cO ?_;refine bE ?_;refine zl CF (oU y.a y.ab C.aj (C.n*C.aj) p o (C.cl p) (C.sz (C.cl p)) C.A f0 e3 nb e4 f1) .nil (λ_ le _=>fh ao le) ?_;refine bE ?_;refine jE [] results242 ?_;exact⟨rfl,rfl⟩
theorem Ag (b:Nat)(C:Cs)(K:Ok C)(p o v:Nat)(hv:v<256^1)(L:Live C p)(hk:kl C.A p≠0)(ho:o+1<=56):
  aO aaO 243 [CM b,CO CJ (C.hd p),CO CN o,CO akN v, .bool true] (λ_=>True) [Cl b C]
   (λu H=>u=CO CN 0/\H= [Cl b (C.wA (wr C.A (p+o) 1 v))]):=by
 refine nG λy hy=> ?_;obtain⟨n1,n2,_⟩:=L.toAt.bn K;have nb:=fO K.toFix;have f0:=K.toFix.pos;have f1:=K.toFix.p1;obtain⟨e3,e4⟩:=L.toAt.off K (o:=o) (w:=1) (by omega);refine ag func243 rfl ntmps243 rfl ?_;intro F _;refine bG ?_;refine zl CF (wS b C y K hy p L hk) .nil (λ_ le ao=>ao.1) ?_;unfold qt;refine bz ?_;refine Lp (oA gR λb1=> ?_);refine cC ?_;refine bm ?_;refine Hh (H':= [CL b C y,af b1 231 [CM y.a,CO CN p,CO CN (C.cl p),CO CN (C.sz (C.cl p))]]) ?_;refine DB ?_;refine zl CF (mz y.a y.ab C.aj (C.n*C.aj) p o (C.cl p) (C.sz (C.cl p)) v C.A hv f0 e3 nb e4 f1) (.cons .here .nil) (λ_ le ao=>ao.1) ?_;refine au (λ_ s=>nW hy s) ?_;refine bE ?_;refine Rt [Cl b (C.wA (wr C.A (p+o) 1 v))] results243 ?_;exact⟨rfl,rfl⟩
theorem vJ (b:Nat)(C:Cs)(K:Ok C)(p o:Nat)(L:Live C p)(hk:kl C.A p≠0)(ho:o+8<=56):
  aO aaO 213 [CM b,CO CJ (C.hd p),CO CN o] (In (Cl b C)) []
   (λv H=>v= .tuple #[CO CJ (rd C.A (p+o) 8:Nat),CO CN 0]/\H= []):=by
 refine xA λy hy=> ?_;obtain⟨n1,n2,_⟩:=L.toAt.bn K;have nb:=fO K.toFix;have f0:=K.toFix.pos;have f1:=K.toFix.p1;obtain⟨e1,e2⟩:=L.toAt.off K (o:=44) (w:=1) (by omega);obtain⟨e3,e4⟩:=L.toAt.off K (o:=o) (w:=8) (by omega);refine ag func213 rfl ntmps213 rfl ?_;intro F ao;refine bR ?_;refine zl CF (jY b C y K hy p L) .nil (λ_ le _=>In.mono ao le) ?_;unfold qt;refine bz ?_;refine Lp (oA gR λb1=> ?_);refine dm ?_;refine zf 18 ?_ (e:=by rfl);refine av ?_;refine zl CF (fY y.a y.ab C.aj (C.n*C.aj) p (C.cl p) (C.sz (C.cl p)) C.A f0 e1 nb e2 f1) .nil (λ_ le _=>fh ao le) ?_;refine bz ?_;refine cO ?_;refine bE ?_;refine zl CF (mT y.a y.ab C.aj (C.n*C.aj) p o (C.cl p) (C.sz (C.cl p)) C.A f0 e3 nb e4 f1) .nil (λ_ le _=>fh ao le) ?_;refine bE ?_;refine jE [] results213 ?_;exact⟨rfl,rfl⟩
theorem sD (b:Nat)(C:Cs)(K:Ok C)(p o v:Nat)(hv:v<256^8)(L:Live C p)(hk:kl C.A p≠0)(ho:o+8<=56):
  aO aaO 180 [CM b,CO CJ (C.hd p),CO CN o,CO CJ v, .bool true] (λ_=>True) [Cl b C]
   (λu H=>u=CO CN 0/\H= [Cl b (C.wA (wr C.A (p+o) 8 v))]):=by
 refine nG λy hy=> ?_;obtain⟨n1,n2,_⟩:=L.toAt.bn K;have nb:=fO K.toFix;have f0:=K.toFix.pos;have f1:=K.toFix.p1;obtain⟨e3,e4⟩:=L.toAt.off K (o:=o) (w:=8) (by omega);refine ag func180 rfl ntmps180 rfl ?_;intro F _;refine bG ?_;refine zl CF (wS b C y K hy p L hk) .nil (λ_ le ao=>ao.1) ?_;unfold qt;refine bz ?_;refine Lp (oA gR λb1=> ?_);refine cC ?_;refine bm ?_;refine Hh (H':= [CL b C y,af b1 231 [CM y.a,CO CN p,CO CN (C.cl p),CO CN (C.sz (C.cl p))]]) ?_;refine DB ?_;refine zl CF (mS y.a y.ab C.aj (C.n*C.aj) p o (C.cl p) (C.sz (C.cl p)) v C.A hv f0 e3 nb e4 f1) (.cons .here .nil) (λ_ le ao=>ao.1) ?_;refine au (λ_ s=>nW hy s) ?_;refine bE ?_;refine Rt [Cl b (C.wA (wr C.A (p+o) 8 v))] results180 ?_;exact⟨rfl,rfl⟩
theorem NZ (a1 a2:Option Addr)(c1 c2 m1 m2:Nat)(l1 l2:List UInt8)(h1:m1=l1.length)(h2:m2=l2.length)(k1:l1.length<18446744073709551616)(k2:l2.length<18446744073709551616):
  aO aaO 144 [.slice a1 m1 c1, .slice a2 m2 c2] (λh=>gg h a1 (ax l1)/\gg h a2 (ax l2)) [] (λv H=>v= .bool (decide (l1=l2))/\H= []):=by
 refine ag func144 rfl ntmps144 rfl ?_;rintro F ⟨r1,r2⟩;refine bE ?_;refine Li (Ts kk sQ wv) ?_;refine av ?_;refine Li (Ts kk sQ wv) ?_;refine Li Sq ?_;refine bz ?_;refine Rt [] results144 ?_;exact⟨rfl,rfl⟩
theorem Ed (m:Int):aO aaO 244 [CO CN m] (λ_=>True) [] (λv H=>v= .bool (decide (0<=m/\m<16))/\H= []):=by
 refine ag func244 rfl ntmps244 rfl ?_;intro F _;refine bR ?_;refine br (t:=5) rfl ?_ ?_
 ·intro h
  replace h:=aS h;refine bG ?_;refine Rt [] results244 ?_;refine⟨?_,rfl⟩
  congr 2
  simp[h]
 intro h;replace h:=aS h;refine bG ?_;refine Rt [] results244 ?_;refine⟨?_,rfl⟩;rw[CG]
theorem H8 (b:Nat)(C:Cs)(K:Ok C)(p:Nat)(L:Live C p)(hk:kl C.A p≠0)(hx:rd C.A (p+16) 8<9223372036854775808):
  aO aaO 147 [CM b,CO CJ (C.hd p)] (In (Cl b C)) []
   (λv H=>v= .tuple #[CO CN (rd C.A (p+16) 8:Nat),CO CN 0]/\H= []):=by
 refine ag func147 rfl ntmps147 rfl ?_;intro F ao;refine bR ?_;refine zl CF (vJ b C K p 16 L hk (by omega)) .nil (λ_ le _=>In.mono ao le) ?_;refine fq ?_;refine jE [] results147 ?_;exact⟨rfl,rfl⟩
theorem AA (b:Nat)(C:Cs)(K:Ok C)(p:Nat)(L:Live C p)(hk:kl C.A p≠0):
  aO aaO 148 [CM b,CO CJ (C.hd p)] (In (Cl b C)) []
   (λv H=>v= .tuple #[CO CJ (rd C.A (p+32) 8:Nat),CO CN 0]/\H= []):=by
 refine ag func148 rfl ntmps148 rfl ?_;intro F ao;refine bR ?_;refine zl CF (vJ b C K p 32 L hk (by omega)) .nil (λ_ le _=>In.mono ao le) ?_;refine bG ?_;refine jE [] results148 ?_;exact⟨rfl,rfl⟩
theorem qP (b:Nat)(C:Cs)(K:Ok C)(p:Nat)(L:Live C p)(hk:kl C.A p≠0):
  aO aaO 223 [CM b,CO CJ (C.hd p)] (In (Cl b C)) []
   (λv H=>v= .tuple #[CO CN (rd C.A (p+45) 1:Nat),CO CN 0]/\H= []):=by
 have hl:rd C.A (p+45) 1<256^1:=ko _ _ _;refine ag func223 rfl ntmps223 rfl ?_;intro F ao;refine bR ?_;refine zl CF (yl b C K p 45 L hk (by omega)) .nil (λ_ le _=>In.mono ao le) ?_;refine fq ?_;refine jE [] results223 ?_;exact⟨rfl,rfl⟩
theorem qQ (b:Nat)(C:Cs)(K:Ok C)(p:Nat)(L:Live C p)(hk:kl C.A p≠0):
  aO aaO 175 [CM b,CO CJ (C.hd p)] (In (Cl b C)) []
   (λv H=>v= .tuple #[CO CN (rd C.A (p+46) 1:Nat),CO CN 0]/\H= []):=by
 have hl:rd C.A (p+46) 1<256^1:=ko _ _ _;refine ag func175 rfl ntmps175 rfl ?_;intro F ao;refine bR ?_;refine zl CF (yl b C K p 46 L hk (by omega)) .nil (λ_ le _=>In.mono ao le) ?_;refine fq ?_;refine jE [] results175 ?_;exact⟨rfl,rfl⟩
theorem zC (b:Nat)(C:Cs)(K:Ok C)(p v:Nat)(hv:v<9223372036854775808)(L:Live C p)(hk:kl C.A p≠0):
  aO aaO 172 [CM b,CO CJ (C.hd p),CO CN v] (λ_=>True) [Cl b C]
   (λu H=>u=CO CN 0/\H= [Cl b (C.wA (wr C.A (p+16) 8 v))]):=by
 refine ag func172 rfl ntmps172 rfl ?_;intro F _;refine bM ?_;refine ay (t:=12) (v':=(.bool true)) rfl (by rw[CH]) ?_;refine zl CF (sD b C K p 16 v (agz hv (by decide)) L hk (by omega)) (.cons .here .nil) CI ?_;refine bz ?_;refine Rt [Cl b (C.wA (wr C.A (p+16) 8 v))] results172 ?_;exact⟨rfl,rfl⟩
theorem yK (b:Nat)(C:Cs)(K:Ok C)(p v:Nat)(hv:v<9223372036854775808)(L:Live C p)(hk:kl C.A p≠0):
  aO aaO 177 [CM b,CO CJ (C.hd p),CO CN v] (λ_=>True) [Cl b C]
   (λu H=>u=CO CN 0/\H= [Cl b (C.wA (wr C.A (p+24) 8 v))]):=by
 refine ag func177 rfl ntmps177 rfl ?_;intro F _;refine bM ?_;refine ay (t:=12) (v':=(.bool true)) rfl (by rw[CH]) ?_;refine zl CF (sD b C K p 24 v (agz hv (by decide)) L hk (by omega)) (.cons .here .nil) CI ?_;refine bz ?_;refine Rt [Cl b (C.wA (wr C.A (p+24) 8 v))] results177 ?_;exact⟨rfl,rfl⟩
theorem akI (b:Nat)(C:Cs)(K:Ok C)(p v:Nat)(hv:v<18446744073709551616)(L:Live C p)(hk:kl C.A p≠0):
  aO aaO 126 [CM b,CO CJ (C.hd p),CO CJ v] (λ_=>True) [Cl b C]
   (λu H=>u=CO CN 0/\H= [Cl b (C.wA (wr C.A (p+32) 8 v))]):=by
 refine ag func126 rfl ntmps126 rfl ?_;intro F _;refine bR ?_;refine zl CF (sD b C K p 32 v (afZ hv (by decide)) L hk (by omega)) (.cons .here .nil) CI ?_;refine bz ?_;refine Rt [Cl b (C.wA (wr C.A (p+32) 8 v))] results126 ?_;exact⟨rfl,rfl⟩
theorem lG (b:Nat)(C:Cs)(K:Ok C)(p v:Nat)(hv:v<16)(L:Live C p)(hk:kl C.A p≠0):
  aO aaO 176 [CM b,CO CJ (C.hd p),CO CN v] (λ_=>True) [Cl b C]
   (λu H=>u=CO CN 0/\H= [Cl b (C.wA (wr C.A (p+46) 1 v))]):=by
 refine ag func176 rfl ntmps176 rfl ?_;intro F _;refine cA ?_;refine zl CF (Ed (v:Int)) .nil CI ?_;refine ay (t:=12) (v':=(.bool true)) rfl (by rw[CH]) ?_;refine zl CF (Ag b C K p 46 v (agz hv (by decide)) L hk (by omega)) (.cons .here .nil) CI ?_;refine bz ?_;refine Rt [Cl b (C.wA (wr C.A (p+46) 1 v))] results176 ?_;exact⟨rfl,rfl⟩
theorem ud (b:Nat)(C:Cs)(K:Ok C)(p v:Nat)(hv:1<=v/\v<=4)(L:Live C p)(hk:kl C.A p≠0):
  aO aaO 268 [CM b,CO CJ (C.hd p),CO CN v] (λ_=>True) [Cl b C]
   (λu H=>u=CO CN 0/\H= [Cl b (C.wA (wr C.A (p+45) 1 v))]):=by
 refine ag func268 rfl ntmps268 rfl ?_;intro F _;refine bW ?_;refine zt 13 ?_;refine bz ?_;refine ay (t:=16) (v':=(.bool true)) rfl (by rw[CH]) ?_;refine zl CF (Ag b C K p 45 v (af6 hv.2 (by decide)) L hk (by omega)) (.cons .here .nil) CI ?_;refine bz ?_;refine Rt [Cl b (C.wA (wr C.A (p+45) 1 v))] results268 ?_;exact⟨rfl,rfl⟩
theorem Er (k v:Nat)(hk:1<=k/\k<=250)(hv:v<=1048576):aO aaO 181 [CO CN k,CO CN v] (λ_=>True) []
   (λu H=>u= .tuple #[CO CN (58+k+v:Nat),CO CN 0]/\H= []):=by
 refine ag func181 rfl ntmps181 rfl ?_;intro F _;refine bM ?_;refine zf 9 ?_;refine bE ?_;refine cO ?_;refine bm ?_;refine zf 16 ?_;refine bE ?_;refine cO ?_;refine dB ?_;refine jE [] results181 ?_;exact⟨rfl,rfl⟩
def okB (c:UInt8):Bool:=decide (32<c.toNat/\c.toNat≠127)
def eF (l:List UInt8):Bool:=decide (1<=l.length/\l.length<=250)&&l.all okB
theorem Ei{l:List UInt8}{k:Nat}(h:k<l.length)(hb:okB (l[k])=false):eF l=false:=by
 unfold eF;rw[Bool.and_eq_false_iff]
 right
 rw[List.all_eq_false];exact⟨l[k],List.getElem_mem h,by rw[hb];decide⟩
theorem Tl{l:List UInt8}{k:Nat}(h:∀i (h:i<l.length),i<k->okB l[i]=true)(hk:k<l.length)(hb:okB l[k]=true):∀i (h:i<l.length),i<k+1->okB l[i]=true:=λi hl hi=>by
 by_cases e:i<k
 ·exact h i hl e
 obtain rfl:i=k:=by omega
 exact hb
theorem Ej (a:Option Addr)(c m:Nat)(l:List UInt8)(hm:m=l.length)(hl:m<281474976710656):
  aO aaO 79 [.slice a m c] (λh=>gg h a (ax l)) [] (λv H=>v= .bool (eF l)/\H= []):=by
 refine ag func79 rfl ntmps79 rfl ?_;intro F r;refine cA ?_;refine br (t:=8) rfl ?_ ?_
 ·intro h1
  replace h1:=aS h1;refine bW ?_;refine Rt [] results79 ?_;refine⟨?_,rfl⟩;unfold eF;rw[CG];rfl
 intro h1;replace h1:=aS h1;refine bE ?_;refine aE rfl ?_ ?_
 ·intro h2
  replace h2:=aS h2;refine bE ?_;refine Rt [] results79 ?_;refine⟨?_,rfl⟩;unfold eF;rw[CG];rfl
 intro h2;replace h2:=aS h2;refine cA ?_;refine Lo (ι:=Nat) [16,17,18,4,19,20,21,22,23,24,2,25,15] (λk=>k<=m/\∀i (h:i<l.length),i<k->okB l[i]=true) (λk=> [(15,CO CN k)]) (λk=> []) (λk=>m-k) (0) ⟨Nat.zero_le _,λi _ h=>absurd h (Nat.not_lt_zero _)⟩ ?_;rintro k hI;refine bz ?_;refine aw ?_;refine aE rfl ?_ ?_
 ·intro hk
  replace hk:=aS hk;have cL:k<l.length:=by omega
  have kb:(ax l)[k]?=some (CO akN (l[k].toNat:Nat)):=by unfold ax;rw[List.getElem?_map,List.getElem?_eq_getElem cL];rfl
  have hc:=l[k].toNat_lt;refine bE ?_;refine Li (Ix kk) ?_;refine bR ?_;refine br (t:=21) rfl ?_ ?_
  ·intro h3
   replace h3:=aS h3;refine fq ?_;refine Rt [] results79 ?_;exact⟨by rw[Ei cL (CG)],rfl⟩
  intro h3;replace h3:=aS h3;refine bm ?_;refine aE rfl ?_ ?_
  ·intro h4
   replace h4:=aS h4;refine cA ?_;refine Rt [] results79 ?_;exact⟨by rw[Ei cL (CG)],rfl⟩
  intro h4;replace h4:=aS h4;refine bG ?_;refine aF ?_;refine Ro (k+1) (⟨by omega,Tl hI.2 cL (CH)⟩) ((by omega))
 intro hk;replace hk:=aS hk;refine cA ?_;refine Rt [] results79 ?_;refine⟨?_,rfl⟩;unfold eF;rw[CH,Bool.true_and];rw[eq_comm,Value.bool.injEq,List.all_eq_true];intro x hx;obtain⟨i,hi,rfl⟩:=List.getElem_of_mem hx;exact hI.2 i hi (by omega)
def nO:Option Nat->Nat
 |none=>0
 |some q=>q/8+1
def hO (C:Cs):Option Nat->Nat
 |none=>0
 |some q=>C.hd q
theorem qB (q:Nat):nO (some q)=q/8+1:=rfl
theorem cm (C:Cs)(q:Nat):hO C (some q)=C.hd q:=rfl
def di (C:Cs)(o:Option Nat):Prop:=∀q,o=some q->Live C q
theorem vQ (b:Nat)(C:Cs)(K:Ok C)(p:Nat)(L:Live C p)(hk:kl C.A p≠0):
  aO aaO 251 [CM b,CO CJ (C.hd p)] (In (Cl b C)) []
   (λv H=>v= .tuple #[CO CN (kl C.A p:Nat),CO CN (vl C.A p:Nat),CO CN 0]/\H= []):=by
 refine xA λy hy=> ?_;obtain⟨n1,n2,_⟩:=L.toAt.bn K;have nb:=fO K.toFix;have f0:=K.toFix.pos;have f1:=K.toFix.p1;obtain⟨e1,e2⟩:=L.toAt.off K (o:=44) (w:=1) (by omega);obtain⟨e3,e4⟩:=L.toAt.off K (o:=48) (w:=4) (by omega);refine ag func251 rfl ntmps251 rfl ?_;intro F ao;refine dm ?_;refine zl CF (jY b C y K hy p L) .nil (λ_ le _=>In.mono ao le) ?_;unfold qt;refine bz ?_;refine Lp (oA gR λb1=> ?_);refine dm ?_;refine zf 16 ?_ (e:=by rfl);refine av ?_;refine zl CF (fY y.a y.ab C.aj (C.n*C.aj) p (C.cl p) (C.sz (C.cl p)) C.A f0 e1 nb e2 f1) .nil (λ_ le _=>fh ao le) ?_;refine bz ?_;refine cO ?_;refine bA ?_;refine aw ?_;refine hJ 8 mix (.cons .here .nil) λF1 jf bZ aN=> ?_;obtain⟨hb,_⟩:=bZ;refine av ?_;refine Tp (oC CF rfl rfl (fY y.a y.ab C.aj (C.n*C.aj) p (C.cl p) (C.sz (C.cl p)) C.A f0 e1 nb e2 f1) .nil (λ_ le _=>fh (In.mono ao jf) le) ?_);rintro v H' ⟨rfl,rfl⟩;refine aX ?_;refine av ?_;refine Tp (oC CF rfl rfl (vk y.a y.ab C.aj (C.n*C.aj) p (C.cl p) (C.sz (C.cl p)) C.A f0 e3 nb e4 f1) .nil (λ_ le _=>fh (In.mono ao jf) le) ?_);rintro v H' ⟨rfl,rfl⟩;refine aX ?_;refine bm ?_;refine gd aN ?_;refine bA ?_;refine Rt3 [] results251 ?_;exact⟨rfl,rfl⟩
theorem nI (b:Nat)(C:Cs)(K:Ok C)(p i:Nat)(o:Option Nat)(L:Live C p)(hk:kl C.A p≠0)(hi:i<=2)(ho:di C o)(hn:rd C.A (p+4*i) 4=nO o):
  aO aaO 146 [CM b,CO CJ (C.hd p),CO CN i] (In (Cl b C)) []
   (λv H=>v= .tuple #[CO CJ (hO C o),CO CN 0]/\H= []):=by
 refine xA λy hy=> ?_;obtain⟨n1,n2,_⟩:=L.toAt.bn K;have nb:=fO K.toFix;have f0:=K.toFix.pos;have f1:=K.toFix.p1;obtain⟨e1,e2⟩:=L.toAt.off K (o:=44) (w:=1) (by omega);obtain⟨e3,e4⟩:=L.toAt.off K (o:=4*i) (w:=4) (by omega);refine ag func146 rfl ntmps146 rfl ?_;intro F ao;refine bR ?_;refine zl CF (jY b C y K hy p L) .nil (λ_ le _=>In.mono ao le) ?_;unfold qt;refine bz ?_;refine Lp (oA gR λb1=> ?_);refine mF ?_;refine zf 26 ?_;refine bE ?_;refine cO ?_;refine bA ?_;refine zl CF (fY y.a y.ab C.aj (C.n*C.aj) p (C.cl p) (C.sz (C.cl p)) C.A f0 e1 nb e2 f1) .nil (λ_ le _=>fh ao le) ?_;refine bz ?_;refine cO ?_;refine dm ?_;refine ay (t:=37) (v':=(CO CN (4*i:Nat))) rfl (by rw[aj3];rfl) ?_;refine zl CF (qp y.a y.ab C.aj (C.n*C.aj) p (4*i) (C.cl p) (C.sz (C.cl p)) C.A f0 e3 nb e4 f1) .nil (λ_ le _=>fh ao le) ?_;rw[hn];rcases o with _|q
 ·refine Li As ?_
  refine gz ?_;refine jE [] results146 ?_;exact⟨rfl,rfl⟩
 have M:=ho q rfl;obtain⟨m1,m2,m3,m4,m5,m6⟩:=bV K M.toAt;rw[qB];refine bR ?_;refine cO ?_;refine dm ?_;refine ay (t:=46) (v':=(CO CN q)) rfl (by rw[show(8:Int)*(((q/8+1:Nat):Int)-1)=(q:Int) by omega]) ?_;refine zl CF (ZP b C K q M) .nil (λ_ le _=>DJ hy ao le) ?_;refine cC ?_;refine jE [] results146 ?_;exact⟨rfl,rfl⟩
theorem dX (b:Nat)(C:Cs)(K:Ok C)(p i:Nat)(o:Option Nat)(L:Live C p)(hk:kl C.A p≠0)(hi:i<=2)(ho:di C o):
  aO aaO 253 [CM b,CO CJ (C.hd p),CO CN i,CO CJ (hO C o)] (λ_=>True) [Cl b C]
   (λu H=>u=CO CN 0/\H= [Cl b (C.wA (wr C.A (p+4*i) 4 (nO o)))]):=by
 refine nG λy hy=> ?_;obtain⟨n1,n2,_⟩:=L.toAt.bn K;have nb:=fO K.toFix;have f0:=K.toFix.pos;have f1:=K.toFix.p1;obtain⟨e3,e4⟩:=L.toAt.off K (o:=4*i) (w:=4) (by omega);have hw:nO o<256^4:=by
  rcases o with _|q
  ·exact Nat.pow_pos (by decide)
  obtain⟨_,_,m3,m4,_⟩:=bV K (ho q rfl).toAt;rw[qB];rw[show 256^4=4294967296 from rfl];omega
 have hm:IntKind.u32.wrap (hO C o:Int)=(nO o:Int):=by
  rcases o with _|q
  ·rfl
  obtain⟨m1,_⟩:=bV K (ho q rfl).toAt;rw[IntKind.wrap_u32,qB,cm];omega
 refine ag func253 rfl ntmps253 rfl ?_;intro F _;refine bG ?_;refine zl CF (wS b C y K hy p L hk) .nil (λ_ le ao=>ao.1) ?_;unfold qt;refine bz ?_;refine Lp (oA gR λb1=> ?_);refine mF ?_;refine zf 27 ?_;refine bE ?_;refine cO ?_;refine bz ?_;refine aw ?_;refine dt (ι:=Unit) [31,32,34,35,36,33,37,38,39,11,12,13,40,41,8] (λu=>True) (λu=> [(3,CO CJ (hO C o)),(2,CO CN i),(9,CM b1)]) (λu=> [CL b C y,af b1 231 [CM y.a,CO CN p,CO CN (C.cl p),CO CN (C.sz (C.cl p))]]) ?_ ?_
 ·rcases o with _|q
  ·refine gK ?_
   refine bE ?_;refine Me (()) (trivial)
  have M:=ho q rfl;obtain⟨m1,m2,m3,m4,m5,m6⟩:=bV K M.toAt;rw[cm];refine bm ?_;refine eU ?_ (e:=by exact by rw[CG];rfl);refine bz ?_;refine zl CF (vG b C K q M) .nil (λ_ le ao=>DJ hy ao.2.1 (Le.refl _)) ?_;refine fq ?_;refine Me (()) (trivial)
 rintro u hI;refine bm ?_;refine ay (t:=44) (v':=(CO CN (4*i:Nat))) rfl (by rfl) ?_;refine av ?_;refine ay (t:=45) (v':=(CO CN (4*i:Nat))) rfl (by rw[aj3]) ?_;refine bA ?_;refine ay (t:=47) (v':=(CO akO (nO o))) rfl (by rw[hm]) ?_;refine DB ?_;refine zl CF (kK y.a y.ab C.aj (C.n*C.aj) p (4*i) (C.cl p) (C.sz (C.cl p)) (nO o) C.A hw f0 e3 nb e4 f1) (.cons .here .nil) (λ_ le ao=>ao.1) ?_;refine au (λ_ s=>nW hy s) ?_;refine bE ?_;refine Rt [Cl b (C.wA (wr C.A (p+4*i) 4 (nO o)))] results253 ?_;exact⟨rfl,rfl⟩
def C5 (ka va:Value)(fl exp tch tok st mk:Nat):List Value:= [ka,va,CO CJ fl,CO CN exp,CO CN tch,CO CJ tok,CO CN st,CO CN mk]
structure gO (C:Cs)(p:Nat):Prop where
 k0:kl C.A p≠0
 fits:58+kl C.A p+vl C.A p<=C.sz (C.cl p)
 exp:rd C.A (p+16) 8<9223372036854775808
 tch:rd C.A (p+24) 8<9223372036854775808
def aP (A:By)(p:Nat):List UInt8:=jU A (p+56) (kl A p)
def ke (A:By)(p:Nat):List UInt8:=jU A (p+56+kl A p) (vl A p)
theorem tP (b:Nat)(C:Cs)(K:Ok C)(p:Nat)(L:Live C p)(I:gO C p):
  aO aaO 98 [CM b,CO CJ (C.hd p)] (In (Cl b C)) []
   (λv H=>∃kb vb,v= .tuple #[.agg (C5 (.slice (some ⟨kb,0,none⟩) (kl C.A p) (kl C.A p)) (.slice (some ⟨vb,0,none⟩) (vl C.A p) (vl C.A p)) (rd C.A (p+40) 4) (rd C.A (p+16) 8) (rd C.A (p+24) 8) (rd C.A (p+32) 8) (rd C.A (p+45) 1) (rd C.A (p+46) 1)).toArray,CO CN 0]/\
    H= [own (some ⟨kb,0,none⟩) (kl C.A p) 5 1 (ax (aP C.A p)),own (some ⟨vb,0,none⟩) (vl C.A p) 5 1 (ax (ke C.A p))]):=by
 refine xA λy hy=> ?_;obtain⟨n1,n2,n3,_⟩:=L.toAt.bn K;have nb:=fO K.toFix;have f0:=K.toFix.pos;have f1:=K.toFix.p1;have hk:=I.k0;have hf:=I.fits;have hx:=I.exp;have ht:=I.tch;have off:=λ{o w:Nat} (h:o+w<=C.sz (C.cl p))=>L.toAt.off K h;obtain⟨e1,e2⟩:=off (o:=44) (w:=1) (by omega);obtain⟨e3,e4⟩:=off (o:=48) (w:=4) (by omega);obtain⟨e5,e6⟩:=off (o:=56) (w:=kl C.A p) (by omega);obtain⟨e7,e8⟩:=off (o:=56+kl C.A p) (w:=vl C.A p) (by omega);obtain⟨g1,g2⟩:=off (o:=40) (w:=4) (by omega);obtain⟨g3,g4⟩:=off (o:=16) (w:=8) (by omega);obtain⟨g5,g6⟩:=off (o:=24) (w:=8) (by omega);obtain⟨g7,g8⟩:=off (o:=32) (w:=8) (by omega);obtain⟨j1,j2⟩:=off (o:=45) (w:=1) (by omega);obtain⟨j3,j4⟩:=off (o:=46) (w:=1) (by omega);have r1:rd C.A (p+40) 4<256^4:=ko _ _ _;have r2:rd C.A (p+45) 1<256^1:=ko _ _ _;have r3:rd C.A (p+46) 1<256^1:=ko _ _ _;refine ag func98 rfl ntmps98 rfl ?_;intro F ao;refine av ?_;refine Lp (oA cb λb1=> ?_);refine bE ?_;refine zl CF (jY b C y K hy p L) .nil (λ_ le _=>In.mono ao le) ?_;unfold qt;refine bz ?_;refine Lp (oA gR λb2=> ?_);refine dm ?_;refine zf 16 ?_ (e:=by rfl);refine av ?_;refine zl CF (fY y.a y.ab C.aj (C.n*C.aj) p (C.cl p) (C.sz (C.cl p)) C.A f0 e1 nb e2 f1) .nil (λ_ le _=>fh ao le) ?_;refine bz ?_;refine cO ?_;refine bA ?_;refine aw ?_;refine hJ 28 mix (.cons .here .nil) λF1 jf bZ aN=> ?_;obtain⟨hb,_⟩:=bZ;have ez:=In.mono ao jf;refine bA ?_;refine Tp (oC CF rfl rfl (fY y.a y.ab C.aj (C.n*C.aj) p (C.cl p) (C.sz (C.cl p)) C.A f0 e1 nb e2 f1) .nil (λ_ le _=>fh ez le) ?_);rintro v H' ⟨rfl,rfl⟩;refine aX ?_;refine Tp (oC CF rfl rfl (yd y.a y.ab C.aj (C.n*C.aj) p 56 (C.cl p) (C.sz (C.cl p)) (kl C.A p) C.A f0 e5 nb e6 f1) .nil (λ_ le _=>fh ez le) ?_);rintro v H' ⟨kb,rfl,rfl⟩;refine aX ?_;refine bA ?_;refine Tp (oC CF rfl rfl (fY y.a y.ab C.aj (C.n*C.aj) p (C.cl p) (C.sz (C.cl p)) C.A f0 e1 nb e2 f1) .nil (λ_ le _=>fh ez le) ?_);rintro v H' ⟨rfl,rfl⟩;refine aX ?_;refine av ?_;refine ay (t:=30) (v':=(CO CN (56+kl C.A p:Nat))) rfl (by rfl) ?_;refine av ?_;refine Tp (oC CF rfl rfl (vk y.a y.ab C.aj (C.n*C.aj) p (C.cl p) (C.sz (C.cl p)) C.A f0 e3 nb e4 f1) .nil (λ_ le _=>fh ez le) ?_);rintro v H' ⟨rfl,rfl⟩;refine aX ?_;refine Tp (oC CF rfl rfl (yd y.a y.ab C.aj (C.n*C.aj) p (56+kl C.A p) (C.cl p) (C.sz (C.cl p)) (vl C.A p) C.A f0 e7 nb e8 f1) .nil (λ_ le _=>fh ez le) ?_);rintro v H' ⟨vb,rfl,rfl⟩;refine aX ?_;refine av ?_;refine Tp (oC CF rfl rfl (qp y.a y.ab C.aj (C.n*C.aj) p 40 (C.cl p) (C.sz (C.cl p)) C.A f0 g1 nb g2 f1) .nil (λ_ le _=>fh ez le) ?_);rintro v H' ⟨rfl,rfl⟩;refine aX ?_;refine Ti (Cv OO Gm) ?_;refine av ?_;refine Tp (oC CF rfl rfl (mT y.a y.ab C.aj (C.n*C.aj) p 16 (C.cl p) (C.sz (C.cl p)) C.A f0 g3 nb g4 f1) .nil (λ_ le _=>fh ez le) ?_);rintro v H' ⟨rfl,rfl⟩;refine aX ?_;refine Ti (Cv u_3 IG) ?_;refine av ?_;refine Tp (oC CF rfl rfl (mT y.a y.ab C.aj (C.n*C.aj) p 24 (C.cl p) (C.sz (C.cl p)) C.A f0 g5 nb g6 f1) .nil (λ_ le _=>fh ez le) ?_);rintro v H' ⟨rfl,rfl⟩;refine aX ?_;refine Ti (Cv u_3 IG) ?_;refine av ?_;refine Tp (oC CF rfl rfl (mT y.a y.ab C.aj (C.n*C.aj) p 32 (C.cl p) (C.sz (C.cl p)) C.A f0 g7 nb g8 f1) .nil (λ_ le _=>fh ez le) ?_);rintro v H' ⟨rfl,rfl⟩;refine aX ?_;refine av ?_;refine Tp (oC CF rfl rfl (oU y.a y.ab C.aj (C.n*C.aj) p 45 (C.cl p) (C.sz (C.cl p)) C.A f0 j1 nb j2 f1) .nil (λ_ le _=>fh ez le) ?_);rintro v H' ⟨rfl,rfl⟩;refine aX ?_;refine Ti (Cv u_3 abg) ?_;refine av ?_;refine Tp (oC CF rfl rfl (oU y.a y.ab C.aj (C.n*C.aj) p 46 (C.cl p) (C.sz (C.cl p)) C.A f0 j3 nb j4 f1) .nil (λ_ le _=>fh ez le) ?_);rintro v H' ⟨rfl,rfl⟩;refine aX ?_;refine Ti (Cv u_3 abg) ?_;refine gd aN ?_;refine av ?_;refine Tp (iF dR ?_);refine bz ?_;refine Gi [own (some ⟨kb,0,none⟩) (kl C.A p) 5 1 (ax (jU C.A (p+56) (kl C.A p))),own (some ⟨vb,0,none⟩) (vl C.A p) 5 1 (ax (jU C.A (p+(56+kl C.A p)) (vl C.A p)))] dR results98 ?_;exact⟨kb,vb,rfl,by unfold aP ke;rw[ai2 p 56]⟩
theorem Es (b:Nat)(C:Cs)(K:Ok C)(p:Nat)(L:Live C p)(I:gO C p)(a:Option Addr)(m c:Nat)(l:List UInt8)(hm:m=l.length)(hl:l.length<281474976710656):
  aO aaO 95 [CM b,CO CJ (C.hd p), .slice a m c] (λh=>In (Cl b C) h/\gg h a (ax l)) []
   (λv H=>v= .bool (decide (aP C.A p=l))/\H= []):=by
 suffices h:∀y,gN C y->aO aaO 95 [CM b,CO CJ (C.hd p), .slice a m c] (λh=>In (CL b C y) h/\gg h a (ax l)) []
   (λv H=>v= .bool (decide (aP C.A p=l))/\H= [])from λF w hp s=>by
  obtain⟨⟨k,⟨y,hy,q⟩,le⟩,r⟩:=hp;exact h y hy F w ⟨⟨k,q,le⟩,r⟩ s
 intro y hy;obtain⟨n1,n2,n3,_⟩:=L.toAt.bn K;have nb:=fO K.toFix;have f0:=K.toFix.pos;have f1:=K.toFix.p1;have hk:=I.k0;have hf:=I.fits;have off:=λ{o w:Nat} (h:o+w<=C.sz (C.cl p))=>L.toAt.off K h;obtain⟨e1,e2⟩:=off (o:=44) (w:=1) (by omega);obtain⟨e5,e6⟩:=off (o:=56) (w:=kl C.A p) (by omega);refine ag func95 rfl ntmps95 rfl ?_;rintro F ⟨ao,hr⟩;refine bG ?_;refine zl CF (jY b C y K hy p L) .nil (λ_ le _=>In.mono ao le) ?_;unfold qt;refine bz ?_;refine Lp (oA gR λb1=> ?_);refine bz ?_;refine aw ?_;refine hJ 15 mix (.cons .here .nil) λF1 jf bZ aN=> ?_;obtain⟨hb,_⟩:=bZ;have ez:=In.mono ao jf;have Iz:=gg.mono hr jf;refine bz ?_;refine zt 17 ?_ (e:=by rfl);refine av ?_;refine Tp (oC CF rfl rfl (fY y.a y.ab C.aj (C.n*C.aj) p (C.cl p) (C.sz (C.cl p)) C.A f0 e1 nb e2 f1) .nil (λ_ le _=>fh ez le) ?_);rintro v H' ⟨rfl,rfl⟩;refine aX ?_;refine bA ?_;refine ay (t:=21) (v':=(.bool true)) rfl (by rw[CH]) ?_;refine av ?_;refine zt 22 ?_ (e:=by rfl);refine bA ?_;refine Tp (oC CF rfl rfl (fY y.a y.ab C.aj (C.n*C.aj) p (C.cl p) (C.sz (C.cl p)) C.A f0 e1 nb e2 f1) .nil (λ_ le _=>fh ez le) ?_);rintro v H' ⟨rfl,rfl⟩;refine aX ?_;refine Tp (oC CF rfl rfl (yd y.a y.ab C.aj (C.n*C.aj) p 56 (C.cl p) (C.sz (C.cl p)) (kl C.A p) C.A f0 e5 nb e6 f1) .nil (λ_ le _=>fh ez le) ?_);rintro v H' ⟨kb,rfl,rfl⟩;refine aX ?_;refine av ?_;refine Tp (oC CF rfl rfl (NZ (some ⟨kb,0,none⟩) a (kl C.A p) c (kl C.A p) m (aP C.A p) l (by unfold aP;rw[cD]) hm (by unfold aP;rw[cD];omega) (by omega)) .nil (λ_ le ao=>⟨bP ao.1,Iz.mono le⟩) ?_);rintro v H' ⟨rfl,rfl⟩;refine aX ?_;refine av ?_;refine gd aN ?_;refine bz ?_;refine Rt [] results95 ?_;exact⟨rfl,rfl⟩
def crlf:List UInt8:= [13,10]
def eT (A:By)(p:Nat)(v:List UInt8):By:=
 lay (lay (wr A (p+48) 4 v.length) (p+56+kl A p) v) (p+56+kl A p+v.length) crlf
theorem ah3 (A:By)(p w v:Nat):kl (wr A (p+48) w v) p=kl A p:=aT A _ w v _ _ (.inl (by omega))
theorem Kb (a ab aj n p c s m cc:Nat)(sa:Option Addr)(l:List UInt8)(A:By)(hm:m=l.length)(hl:l.length<4294967296)(h0:0<aj)(h2:n<=1073741824)(h4:aj<=1048576)
  (off:∀o w,o+w<=s->p+o+w<=n/\(p+o) % aj+w<=aj) (hs:58+kl A p+l.length<=s):
  aO aaO 179 [.agg (qt a p c s).toArray, .slice sa m cc] (λh=>In (af a 249 (iq ab aj n)) h/\gg h sa (ax l)) [af ab 5 (dI A n)]
   (λu H=>u= .tuple #[]/\H= [af ab 5 (dI (eT A p l) n)]):=by
 obtain⟨e1,e2⟩:=off 44 1 (by omega);obtain⟨e3,e4⟩:=off 48 4 (by omega);obtain⟨e5,e6⟩:=off (56+kl A p) l.length (by omega);obtain⟨e7,e8⟩:=off (56+kl A p+l.length) 2 (by omega);subst hm;have hkw:=ah3 A p 4 l.length;unfold qt;refine ag func179 rfl ntmps179 rfl ?_;rintro F ⟨ha,hr⟩;refine av ?_;refine Lp (oB λb1=> ?_);refine bG ?_;refine zl CF (kK a ab aj n p 48 c s l.length A (by omega) h0 e3 h2 e4 h4) (.cons (.there .here) .nil) (λ_ le _=>ha.mono le) ?_;refine bz ?_;refine zl CF (fY a ab aj n p c s (wr A (p+48) 4 l.length) h0 e1 h2 e2 h4) .nil (λ_ le ao=>⟨ha.mono le,ao.1⟩) ?_;rw[hkw];refine bm ?_;refine ay (t:=15) (v':=(CO CN (56+kl A p+l.length:Nat))) rfl (by rfl) ?_;refine dB ?_;refine ay (t:=24) (v':=(CO CN (p+(56+kl A p):Nat))) rfl (by(congr 1;omega)) ?_;refine av ?_;refine zl CF (qo a ab aj n (p+(56+kl A p)) l.length cc (wr A (p+48) 4 l.length) sa l rfl h0 e5 h2 e6 h4) (.cons .here .nil) (λ_ le _=>⟨ha.mono le,hr.mono le⟩) ?_;refine dm ?_;refine ay (t:=32) (v':=(CO CN (p+(56+kl A p+l.length):Nat))) rfl (by rfl) ?_;refine Lp (oT kA λb2=> ?_);refine Lp (oMk mG sQ ?_);refine zl CF (qo a ab aj n (p+(56+kl A p+l.length)) 2 2 (lay (wr A (p+48) 4 l.length) (p+(56+kl A p)) l) (some ⟨b2,0,none⟩) crlf rfl h0 e7 h2 e8 h4) (.cons (.there .here) .nil) (λ_ le ao=>⟨ha.mono le,by obtain⟨⟨k,q,l⟩,_⟩:=ao;exact(qz (i:=0) q).mono l⟩) ?_;refine aF ?_;rw[show lay (lay (wr A (p+48) 4 l.length) (p+(56+kl A p)) l) (p+(56+kl A p+l.length)) crlf=eT A p l by unfold eT;rw[ai2 p,ai2 p]];refine jW [af ab 5 (dI (eT A p l) n)] results179 ?_;exact⟨rfl,rfl⟩
theorem LZ (b:Nat)(C:Cs)(K:Ok C)(p:Nat)(L:Live C p)(hk:kl C.A p≠0)(a:Option Addr)(m c:Nat)(l:List UInt8)(hm:m=l.length)(hf:58+kl C.A p+l.length<=C.sz (C.cl p)):
  aO aaO 125 [CM b,CO CJ (C.hd p), .slice a m c] (λh=>gg h a (ax l)) [Cl b C]
   (λv H=>v=CO CN 0/\H= [Cl b (C.wA (eT C.A p l))]):=by
 refine nG λy hy=> ?_;obtain⟨n1,n2,n3,_⟩:=L.toAt.bn K;have nb:=fO K.toFix;have f0:=K.toFix.pos;have f1:=K.toFix.p1;have off:=λ(o w:Nat) (h:o+w<=C.sz (C.cl p))=>L.toAt.off K h;obtain⟨e1,e2⟩:=off 44 1 (by omega);refine ag func125 rfl ntmps125 rfl ?_;intro F hr;refine bG ?_;refine zl CF (wS b C y K hy p L hk) .nil (λ_ le ao=>ao.1) ?_;unfold qt;refine bz ?_;refine Lp (oA gR λb1=> ?_);refine bm ?_;refine aw ?_;refine hJ 12 mix (.cons .here (.cons .here .nil)) λF1 jf bZ aN=> ?_;obtain⟨hb,cR,_⟩:=bZ;have Iz:=gg.mono hr jf;refine bz ?_;refine zt 17 ?_ (e:=by rfl);refine bG ?_;refine Tp (oC CF rfl rfl (fY y.a y.ab C.aj (C.n*C.aj) p (C.cl p) (C.sz (C.cl p)) C.A f0 e1 nb e2 f1) .nil (λ_ le ao=>fh cR le) ?_);rintro v H' ⟨rfl,rfl⟩;refine aX ?_;refine bA ?_;refine gd aN ?_;refine ay (t:=26) (v':=(.bool false)) rfl (by(rw[hm];rw[CG])) ?_;refine fq ?_;refine Hh (H':= [CL b C y,af b1 231 [CM y.a,CO CN p,CO CN (C.cl p),CO CN (C.sz (C.cl p))]]) ?_;refine DB ?_;refine zl CF (Kb y.a y.ab C.aj (C.n*C.aj) p (C.cl p) (C.sz (C.cl p)) m c a l C.A hm (by omega) f0 nb f1 off hf) (.cons .here .nil) (λ_ le ao=>⟨ao.1,hr.mono le⟩) ?_;refine au (λ_ s=>nW hy s) ?_;refine bG ?_;refine Rt [Cl b (C.wA (eT C.A p l))] results125 ?_;exact⟨rfl,rfl⟩
def o9 (A:By)(p k:Nat):By:=(List.range k).foldl (λA i=>wr A (p+4*i) 4 0) A
def IC (A:By)(p c kn fl exp tch tok st mk:Nat):By:=
 wr (wr (wr (wr (wr (wr (wr (wr (wr (o9 A p 3) (p+16) 8 exp) (p+24) 8 tch) (p+32) 8 tok) (p+40) 4 fl) (p+44) 1 kn) (p+45) 1 st) (p+46) 1 mk) (p+47) 1 c) (p+52) 4 0
def lN (A:By)(p c:Nat)(k v:List UInt8)(fl exp tch tok st mk:Nat):By:=
 eT (lay (IC A p c k.length fl exp tch tok st mk) (p+56) k) p v
theorem tQ (A:By)(p k:Nat):o9 A p (k+1)=wr (o9 A p k) (p+4*k) 4 0:=by unfold o9;rw[List.range_succ,List.foldl_append];rfl
theorem GJ (A:By)(p c kn fl exp tch tok st mk:Nat)(k:List UInt8)(h:kn<256):kl (lay (IC A p c kn fl exp tch tok st mk) (p+56) k) p=kn:=by
 unfold kl IC;rw[eM _ _ _ _ _ (.inl (by omega)),aT _ _ _ _ _ _ (.inl (by omega)),aT _ _ _ _ _ _ (.inl (by omega)),aT _ _ _ _ _ _ (.inl (by omega)),aT _ _ _ _ _ _ (.inl (by omega)),dy];exact afE (by rw[Nat.pow_one];exact h)
theorem fL{l:List UInt8}(h:eF l=true):1<=l.length/\l.length<=250:=by
 unfold eF at h;rw[Bool.and_eq_true,decide_eq_true_iff]at h;exact h.1
theorem JS (b:Nat)(C:Cs)(K:Ok C)(p:Nat)(L:Live C p)(ka va:Option Addr)(kc vc km vm:Nat)(k v:List UInt8)(hkm:km=k.length)(hvm:vm=v.length)(fl exp tch tok st mk:Nat)
  (hl:eF k=true) (hf:58+k.length+v.length<=C.sz (C.cl p)) (h1:fl<4294967296) (h2:exp<9223372036854775808) (h3:tch<9223372036854775808) (h4:tok<18446744073709551616) (h5:1<=st/\st<=4) (h6:mk<16):
  aO aaO 186 [CM b,CO CJ (C.hd p), .agg (C5 (.slice ka km kc) (.slice va vm vc) fl exp tch tok st mk).toArray] (λh=>gg h ka (ax k)/\gg h va (ax v)) [Cl b C]
   (λu H=>u=CO CN 0/\H= [Cl b (C.wA (lN C.A p (C.cl p) k v fl exp tch tok st mk))]):=by
 refine nG λy hy=> ?_;obtain⟨n0,n1,n2,n3,_⟩:=L.toAt.bn K;have nb:=fO K.toFix;have f0:=K.toFix.pos;have f1:=K.toFix.p1;have f2:=K.toFix.l1;obtain⟨l1,l2⟩:=fL hl;have off:=λ(o w:Nat) (h:o+w<=C.sz (C.cl p))=>L.toAt.off K h;have nu:=λ(o w:Nat) (h:o+w<=64)=>L.toAt.off K (o:=o) (w:=w) (by omega);subst hkm;subst hvm;have uj:=λX=>GJ X p (C.cl p) k.length fl exp tch tok st mk k (by omega);unfold C5;refine ag func186 rfl ntmps186 rfl ?_;rintro F ⟨FP,Iz⟩;refine av ?_;refine Lp (oB λb1=> ?_);refine bE ?_;refine zl CF (jY b C y K hy p L) .nil (λ_ le ao=>ao.2.1) ?_;unfold qt;refine bz ?_;refine Lp (oA gR λb2=> ?_);refine fq ?_;refine zl CF (Ej ka kc k.length k rfl (by omega)) .nil (λ_ le _=>FP.mono le) ?_;rw[hl];refine sT ?_;refine cO ?_;refine bE ?_;refine zf 41 ?_;refine bE ?_;refine zf 46 ?_;refine bA ?_;refine zl CF (Ed (mk:Int)) .nil CI ?_;refine av ?_;refine ay (t:=50) (v':=(.bool false)) rfl (by(rw[CH];rfl)) ?_;refine bA ?_;refine zf 52 ?_ (e:=by rfl);refine bE ?_;refine zf 57 ?_;refine bE ?_;refine zf 62 ?_;refine bm ?_;refine ay (t:=66) (v':=(.bool false)) rfl (by(rw[CG])) ?_;refine bW ?_;refine au (H':= [CL b C y,af b2 231 [CM y.a,CO CN p,CO CN (C.cl p),CO CN (C.sz (C.cl p))],af b1 159 [.slice ka k.length kc, .slice va v.length vc,CO CJ fl,CO CN exp,CO CN tch,CO CJ tok,CO CN st,CO CN mk]]) (by exact Eh) ?_;refine DB ?_;refine au (H':= [af y.ab 5 (dI (o9 C.A p 0) (C.n*C.aj)),af y.a 249 (iq y.ab C.aj (C.n*C.aj)),clR b C y,af b2 231 [CM y.a,CO CN p,CO CN (C.cl p),CO CN (C.sz (C.cl p))],af b1 159 [.slice ka k.length kc, .slice va v.length vc,CO CJ fl,CO CN exp,CO CN tch,CO CJ tok,CO CN st,CO CN mk]]) (λ_ s=>s) ?_;refine Lo (ι:=Nat) [68,69,9,70,71,72,73,74,75,67] (λi=>i<=3) (λi=> [(67,CO CN i)]) (λi=> [af y.ab 5 (dI (o9 C.A p i) (C.n*C.aj)),af y.a 249 (iq y.ab C.aj (C.n*C.aj)),clR b C y,af b2 231 [CM y.a,CO CN p,CO CN (C.cl p),CO CN (C.sz (C.cl p))],af b1 159 [.slice ka k.length kc, .slice va v.length vc,CO CJ fl,CO CN exp,CO CN tch,CO CJ tok,CO CN st,CO CN mk]]) (λi=>3-i) (0) (by simp) ?_;rintro i hI;refine bz ?_;refine aw ?_;refine aE rfl ?_ ?_
 ·intro hi
  replace hi:=aS hi;refine dB ?_;refine ay (t:=72) (v':=(CO CN (4*i:Nat))) rfl (by rfl) ?_;refine av ?_;refine ay (t:=73) (v':=(CO CN (4*i:Nat))) rfl (by rw[aj3]) ?_;refine zl CF (kK y.a y.ab C.aj (C.n*C.aj) p (4*i) (C.cl p) (C.sz (C.cl p)) 0 (o9 C.A p i) (by decide) f0 (nu (4*i) 4 (by omega)).1 nb (nu (4*i) 4 (by omega)).2 f1) (.cons .here .nil) (λ_ le ao=>ao.1) ?_;rw[<-tQ];refine bG ?_;refine aF ?_;refine Ro (i+1) (by omega) (by omega)
 intro hi;replace hi:=aS hi;obtain rfl:i=3:=by omega
 refine bM ?_;refine zl CF (mS y.a y.ab C.aj (C.n*C.aj) p 16 (C.cl p) (C.sz (C.cl p)) exp (o9 C.A p 3) (agz h2 (by decide)) f0 (nu 16 8 (by omega)).1 nb (nu 16 8 (by omega)).2 f1) (.cons .here .nil) (λ_ le ao=>ao.1) ?_;refine bG ?_;refine zl CF (mS y.a y.ab C.aj (C.n*C.aj) p 24 (C.cl p) (C.sz (C.cl p)) tch (wr (o9 C.A p 3) (p+16) 8 exp) (agz h3 (by decide)) f0 (nu 24 8 (by omega)).1 nb (nu 24 8 (by omega)).2 f1) (.cons .here .nil) (λ_ le ao=>ao.1) ?_;refine bE ?_;refine zl CF (mS y.a y.ab C.aj (C.n*C.aj) p 32 (C.cl p) (C.sz (C.cl p)) tok (wr (wr (o9 C.A p 3) (p+16) 8 exp) (p+24) 8 tch) (afZ h4 (by decide)) f0 (nu 32 8 (by omega)).1 nb (nu 32 8 (by omega)).2 f1) (.cons .here .nil) (λ_ le ao=>ao.1) ?_;refine bG ?_;refine zl CF (kK y.a y.ab C.aj (C.n*C.aj) p 40 (C.cl p) (C.sz (C.cl p)) fl (wr (wr (wr (o9 C.A p 3) (p+16) 8 exp) (p+24) 8 tch) (p+32) 8 tok) (afZ h1 (by decide)) f0 (nu 40 4 (by omega)).1 nb (nu 40 4 (by omega)).2 f1) (.cons .here .nil) (λ_ le ao=>ao.1) ?_;refine bR ?_;refine zl CF (mz y.a y.ab C.aj (C.n*C.aj) p 44 (C.cl p) (C.sz (C.cl p)) k.length (wr (wr (wr (wr (o9 C.A p 3) (p+16) 8 exp) (p+24) 8 tch) (p+32) 8 tok) (p+40) 4 fl) (af6 l2 (by decide)) f0 (nu 44 1 (by omega)).1 nb (nu 44 1 (by omega)).2 f1) (.cons .here .nil) (λ_ le ao=>ao.1) ?_;refine bG ?_;refine zl CF (mz y.a y.ab C.aj (C.n*C.aj) p 45 (C.cl p) (C.sz (C.cl p)) st (wr (wr (wr (wr (wr (o9 C.A p 3) (p+16) 8 exp) (p+24) 8 tch) (p+32) 8 tok) (p+40) 4 fl) (p+44) 1 k.length) (af6 h5.2 (by decide)) f0 (nu 45 1 (by omega)).1 nb (nu 45 1 (by omega)).2 f1) (.cons .here .nil) (λ_ le ao=>ao.1) ?_;refine bG ?_;refine zl CF (mz y.a y.ab C.aj (C.n*C.aj) p 46 (C.cl p) (C.sz (C.cl p)) mk (wr (wr (wr (wr (wr (wr (o9 C.A p 3) (p+16) 8 exp) (p+24) 8 tch) (p+32) 8 tok) (p+40) 4 fl) (p+44) 1 k.length) (p+45) 1 st) (agz h6 (by decide)) f0 (nu 46 1 (by omega)).1 nb (nu 46 1 (by omega)).2 f1) (.cons .here .nil) (λ_ le ao=>ao.1) ?_;refine bG ?_;refine zl CF (mz y.a y.ab C.aj (C.n*C.aj) p 47 (C.cl p) (C.sz (C.cl p)) (C.cl p) (wr (wr (wr (wr (wr (wr (wr (o9 C.A p 3) (p+16) 8 exp) (p+24) 8 tch) (p+32) 8 tok) (p+40) 4 fl) (p+44) 1 k.length) (p+45) 1 st) (p+46) 1 mk) (afZ n0 (Nat.le_trans f2 (by decide))) f0 (nu 47 1 (by omega)).1 nb (nu 47 1 (by omega)).2 f1) (.cons .here .nil) (λ_ le ao=>ao.1) ?_;refine bz ?_;refine zl CF (kK y.a y.ab C.aj (C.n*C.aj) p 52 (C.cl p) (C.sz (C.cl p)) 0 (wr (wr (wr (wr (wr (wr (wr (wr (o9 C.A p 3) (p+16) 8 exp) (p+24) 8 tch) (p+32) 8 tok) (p+40) 4 fl) (p+44) 1 k.length) (p+45) 1 st) (p+46) 1 mk) (p+47) 1 (C.cl p)) (by decide) f0 (nu 52 4 (by omega)).1 nb (nu 52 4 (by omega)).2 f1) (.cons .here .nil) (λ_ le ao=>ao.1) ?_;refine cA ?_;rw[show wr (wr (wr (wr (wr (wr (wr (wr (wr (o9 C.A p 3) (p+16) 8 exp) (p+24) 8 tch) (p+32) 8 tok) (p+40) 4 fl) (p+44) 1 k.length) (p+45) 1 st) (p+46) 1 mk) (p+47) 1 (C.cl p)) (p+52) 4 0=IC C.A p (C.cl p) k.length fl exp tch tok st mk from rfl];generalize hX:IC C.A p (C.cl p) k.length fl exp tch tok st mk=X;refine zl CF (qo y.a y.ab C.aj (C.n*C.aj) (p+56) k.length kc X ka k rfl f0 (off 56 k.length (by omega)).1 nb (off 56 k.length (by omega)).2 f1) (.cons .here .nil) (λ_ le ao=>⟨ao.1,FP.mono le⟩) ?_;have hY:kl (lay X (p+56) k) p=k.length:=by rw[<-hX];exact uj _
 have eY:eT (lay X (p+56) k) p v=lN C.A p (C.cl p) k v fl exp tch tok st mk:=by rw[<-hX];rfl
 generalize lay X (p+56) k=Y at hY eY⊢;refine bE ?_;refine zl CF (Kb y.a y.ab C.aj (C.n*C.aj) p (C.cl p) (C.sz (C.cl p)) v.length vc va v Y rfl (by omega) f0 nb f1 off (by rw[hY];exact hf)) (.cons .here .nil) (λ_ le ao=>⟨ao.1,Iz.mono le⟩) ?_;rw[eY];refine au (λ_ s=>nW hy s) ?_;refine bE ?_;refine Rt [Cl b (C.wA (lN C.A p (C.cl p) k v fl exp tch tok st mk))] results186 ?_;exact⟨rfl,rfl⟩
def Bf (C:Cs)(p q:Nat):By:=
 lN C.A p (C.cl p) (aP C.A q) (ke C.A q) (rd C.A (q+40) 4) (rd C.A (q+16) 8) (rd C.A (q+24) 8) (rd C.A (q+32) 8) 4 (rd C.A (q+46) 1)
theorem T5 (b:Nat)(C:Cs)(K:Ok C)(p q:Nat)(L:Live C p)(M:Live C q)(I:gO C q)(hpq:p≠q)(hl:eF (aP C.A q)=true)(hm:rd C.A (q+46) 1<16)(hf:58+kl C.A q+vl C.A q<=C.sz (C.cl p)):
  aO aaO 158 [CM b,CO CJ (C.hd p),CO CJ (C.hd q)] (λ_=>True) [Cl b C]
   (λu H=>u=CO CN 0/\H= [Cl b (C.wA (Bf C p q))]):=by
 have fN:C.hd p≠C.hd q:=λh=>hpq (iV K L.toAt M.toAt h);obtain⟨_,_,_,_,v1,_⟩:=bV K L.toAt;obtain⟨_,_,_,_,v2,_⟩:=bV K M.toAt;have hk:=I.k0;have r1:rd C.A (q+40) 4<256^4:=ko _ _ _;have r2:rd C.A (q+32) 8<256^8:=ko _ _ _;have lk:(aP C.A q).length=kl C.A q:=cD _ _ _;have lv:(ke C.A q).length=vl C.A q:=cD _ _ _;have nb:=fO K.toFix;have f0:=K.toFix.pos;have f1:=K.toFix.p1;obtain⟨n1,n2,n3,_⟩:=M.toAt.bn K;obtain⟨z1,z2,z3,_⟩:=L.toAt.bn K;have off:=λ(o w:Nat) (h:o+w<=C.sz (C.cl q))=>M.toAt.off K h;obtain⟨e1,e2⟩:=off 44 1 (by omega);obtain⟨e3,e4⟩:=off 48 4 (by omega);refine nG λy hy=> ?_;refine ag func158 rfl ntmps158 rfl ?_;intro F _;refine bG ?_;refine zl CF (jY b C y K hy p L) .nil (λ_ le ao=>ao.1) ?_;unfold qt;refine bz ?_;refine Lp (oA gR λb1=> ?_);refine fq ?_;refine zl CF (jY b C y K hy q M) .nil (λ_ le ao=>ao.2.1) ?_;unfold qt;refine bz ?_;refine Lp (oA gR λb2=> ?_);refine cA ?_;refine zf 30 ?_ (e:=by rfl);refine av ?_;refine zl CF (fY y.a y.ab C.aj (C.n*C.aj) q (C.cl q) (C.sz (C.cl q)) C.A f0 e1 nb e2 f1) .nil (λ_ le ao=>fh ao.2.2.1 (Le.refl _)) ?_;refine bm ?_;refine cO ?_;refine bG ?_;refine cO ?_;refine aw ?_;refine hJ 9 mix (.cons .here (.cons .here (.cons .here .nil))) λF1 jf bZ aN=> ?_;obtain⟨ee,ed,cR,_⟩:=bZ;refine av ?_;refine Tp (oC CF rfl rfl (fY y.a y.ab C.aj (C.n*C.aj) q (C.cl q) (C.sz (C.cl q)) C.A f0 e1 nb e2 f1) .nil (λ_ le ao=>fh cR le) ?_);rintro v H' ⟨rfl,rfl⟩;refine aX ?_;refine bA ?_;refine Tp (oC CF rfl rfl (vk y.a y.ab C.aj (C.n*C.aj) q (C.cl q) (C.sz (C.cl q)) C.A f0 e3 nb e4 f1) .nil (λ_ le ao=>fh cR le) ?_);rintro v H' ⟨rfl,rfl⟩;refine aX ?_;refine bm ?_;refine gd aN ?_;refine bA ?_;refine cO ?_;refine bG ?_;refine Lp (oC CF rfl rfl (tP b C K q M I) .nil (λ_ le ao=>DJ hy ao.2.2.1 (Le.refl _)) ?_);rintro v H' ⟨kb,vb,rfl,rfl⟩;refine aX ?_;unfold C5;refine bz ?_;refine Lp (oA cb λb3=> ?_);refine bW ?_;refine Hh (H':= [CL b C y,own (some ⟨kb,0,none⟩) (kl C.A q) 5 1 (ax (aP C.A q)),own (some ⟨vb,0,none⟩) (vl C.A q) 5 1 (ax (ke C.A q))]) ?_;refine au (λ_ s=>AM hy s) ?_;refine zl CF (JS b C K p L (some ⟨kb,0,none⟩) (some ⟨vb,0,none⟩) (kl C.A q) (vl C.A q) (kl C.A q) (vl C.A q) (aP C.A q) (ke C.A q) lk.symm lv.symm (rd C.A (q+40) 4) (rd C.A (q+16) 8) (rd C.A (q+24) 8) (rd C.A (q+32) 8) 4 (rd C.A (q+46) 1) hl (by omega) r1 I.exp I.tch (afZ r2 (by decide)) (by decide) hm) (.cons .here .nil) (λ_ le ao=>⟨bP ao.1,bP ao.2.1⟩) ?_;refine bz ?_;refine Rt [Cl b (C.wA (Bf C p q))] results158 ?_;exact⟨rfl,rfl⟩
end Go.Proofs.YtcbcjolpdljbiaaGreat
