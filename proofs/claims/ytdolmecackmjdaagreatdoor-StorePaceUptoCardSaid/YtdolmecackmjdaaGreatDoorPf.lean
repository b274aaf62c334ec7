/- Part Pf of the proof. -/
import Derived.Test.YtdolmecackmjdaaGreatDoorPd
import Derived.Test.YtdolmecackmjdaaGreatDoorPe
set_option maxRecDepth 100000
open Nat renaming add_assoc → aeb, mod_eq_of_lt → aaH, lt_trans → ad8, lt_of_lt_of_le → adG, lt_of_le_of_lt → adC
open Int renaming zero_add → ae5
open Go.Proofs.Tryz renaming prog → aaa
open Go.Proofs.Tryz
namespace Go.Proofs.YtdolmecackmjdaaGreatDoor
open Go Go.cV Go.Proofs.YtdolmecackmjdaaGreatDoor.Cs
def oe (a p c s:Nat):List Value:= [.pointer (some ⟨a,0,none⟩), .int .i64 (p:Int), .int .i64 (c:Int), .int .i64 (s:Int)]
def kl (A:By)(p:Nat):Nat:=rd A (p+44) 1
def vl (A:By)(p:Nat):Nat:=rd A (p+48) 4
theorem Cs.At.off{C:Cs}(K:Ok C){p:Nat}(L:At C p){o w:Nat}(h:o+w≤C.sz (C.cl p)):p+o+w≤C.n*C.ao∧(p+o) % C.ao+w≤C.ao:=by
 obtain⟨_,n2,n3,_,_,n6,n7,n8⟩:=L.aX K
 refine⟨by omega, ?_⟩
 have GQ:=K.toFix.pos
 have e:(p+o) % C.ao=(C.ix p*C.sz (C.cl p)+o) % C.ao:=by
  rw[n6,aeb,Nat.add_comm,Nat.add_mul_mod_self_right]
  rw[←n6]
 rw[e]
 by_cases hw:C.ix p*C.sz (C.cl p)+o<C.ao
 ·rw[aaH hw];omega
 have:C.ix p*C.sz (C.cl p)+o=C.ao:=by omega
 rw[this,Nat.mod_self];omega
theorem mm (a ab ao n p o c s:Nat)(A:By)(h0:0<ao)(h1:p+o+1≤n)(h2:n≤1073741824)(h3:(p+o) % ao+1≤ao)(h4:ao≤1048576):
  aF aaa 141 [.agg (oe a p c s).toArray, .int .i64 (o:Int)] (λh=>In (ag a 192 (gG ab ao n)) h∧In (ag ab 5 (di A n)) h) []
   (λv H=>v= .int .u8 ((rd A (p+o) 1:Nat):Int)∧H= []):=by
 unfold oe
 refine af func141 rfl ntmps141 rfl ?_
 rintro F ⟨ha,hb⟩
 refine aA ?_
 refine Lp (oB λb1=> ?_)
 refine dg ?_
 refine zl T.Yq (HW a ab ao n (p+o) A h0 h1 h2 h3 h4) .nil (λ_ le _=>⟨ha.mono le,hb.mono le⟩) ?_
 refine bI ?_
 refine Rt [] results141 ?_
 exact⟨rfl,rfl⟩
theorem jX (a ab ao n p o c s v:Nat)(A:By)(hv:v<256^1)(h0:0<ao)(h1:p+o+1≤n)(h2:n≤1073741824)(h3:(p+o) % ao+1≤ao)(h4:ao≤1048576):
  aF aaa 221 [.agg (oe a p c s).toArray, .int .i64 (o:Int), .int .u8 (v:Int)] (In (ag a 192 (gG ab ao n))) [ag ab 5 (di A n)]
   (λu H=>u= .tuple #[]∧H= [ag ab 5 (di (wr A (p+o) 1 v) n)]):=by
 unfold oe
 refine af func221 rfl ntmps221 rfl ?_
 rintro F ha
 refine aA ?_
 refine Lp (oB λb1=> ?_)
 refine dg ?_
 refine zl T.Yf (HF a ab ao n (p+o) v A hv h0 h1 h2 h3 h4) (.cons (.there .here) .nil) (λ_ le _=>ha.mono le) ?_
 refine aG ?_
 refine jA [ag ab 5 (di (wr A (p+o) 1 v) n)] results221 ?_
 exact⟨rfl,rfl⟩
theorem nE (a ab ao n p o c s:Nat)(A:By)(h0:0<ao)(h1:p+o+4≤n)(h2:n≤1073741824)(h3:(p+o) % ao+4≤ao)(h4:ao≤1048576):
  aF aaa 139 [.agg (oe a p c s).toArray, .int .i64 (o:Int)] (λh=>In (ag a 192 (gG ab ao n)) h∧In (ag ab 5 (di A n)) h) []
   (λv H=>v= .int .u32 ((rd A (p+o) 4:Nat):Int)∧H= []):=by
 unfold oe
 refine af func139 rfl ntmps139 rfl ?_
 rintro F ⟨ha,hb⟩
 refine aA ?_
 refine Lp (oB λb1=> ?_)
 refine dg ?_
 refine zl T.Ys (Em a ab ao n (p+o) A h0 h1 h2 h3 h4) .nil (λ_ le _=>⟨ha.mono le,hb.mono le⟩) ?_
 refine bI ?_
 refine Rt [] results139 ?_
 exact⟨rfl,rfl⟩
theorem iT (a ab ao n p o c s v:Nat)(A:By)(hv:v<256^4)(h0:0<ao)(h1:p+o+4≤n)(h2:n≤1073741824)(h3:(p+o) % ao+4≤ao)(h4:ao≤1048576):
  aF aaa 219 [.agg (oe a p c s).toArray, .int .i64 (o:Int), .int .u32 (v:Int)] (In (ag a 192 (gG ab ao n))) [ag ab 5 (di A n)]
   (λu H=>u= .tuple #[]∧H= [ag ab 5 (di (wr A (p+o) 4 v) n)]):=by
 unfold oe
 refine af func219 rfl ntmps219 rfl ?_
 rintro F ha
 refine aA ?_
 refine Lp (oB λb1=> ?_)
 refine dg ?_
 refine zl T.Mx (vX a ab ao n (p+o) v A hv h0 h1 h2 h3 h4) (.cons (.there .here) .nil) (λ_ le _=>ha.mono le) ?_
 refine aG ?_
 refine jA [ag ab 5 (di (wr A (p+o) 4 v) n)] results219 ?_
 exact⟨rfl,rfl⟩
theorem kE (a ab ao n p o c s:Nat)(A:By)(h0:0<ao)(h1:p+o+8≤n)(h2:n≤1073741824)(h3:(p+o) % ao+8≤ao)(h4:ao≤1048576):
  aF aaa 140 [.agg (oe a p c s).toArray, .int .i64 (o:Int)] (λh=>In (ag a 192 (gG ab ao n)) h∧In (ag ab 5 (di A n)) h) []
   (λv H=>v= .int .u64 ((rd A (p+o) 8:Nat):Int)∧H= []):=by
 unfold oe
 refine af func140 rfl ntmps140 rfl ?_
 rintro F ⟨ha,hb⟩
 refine aA ?_
 refine Lp (oB λb1=> ?_)
 refine dg ?_
 refine zl T.Yr (El a ab ao n (p+o) A h0 h1 h2 h3 h4) .nil (λ_ le _=>⟨ha.mono le,hb.mono le⟩) ?_
 refine bI ?_
 refine Rt [] results140 ?_
 exact⟨rfl,rfl⟩
theorem kD (a ab ao n p o c s v:Nat)(A:By)(hv:v<256^8)(h0:0<ao)(h1:p+o+8≤n)(h2:n≤1073741824)(h3:(p+o) % ao+8≤ao)(h4:ao≤1048576):
  aF aaa 220 [.agg (oe a p c s).toArray, .int .i64 (o:Int), .int .u64 (v:Int)] (In (ag a 192 (gG ab ao n))) [ag ab 5 (di A n)]
   (λu H=>u= .tuple #[]∧H= [ag ab 5 (di (wr A (p+o) 8 v) n)]):=by
 unfold oe
 refine af func220 rfl ntmps220 rfl ?_
 rintro F ha
 refine aA ?_
 refine Lp (oB λb1=> ?_)
 refine dg ?_
 refine zl T.Yg (Eb a ab ao n (p+o) v A hv h0 h1 h2 h3 h4) (.cons (.there .here) .nil) (λ_ le _=>ha.mono le) ?_
 refine aG ?_
 refine jA [ag ab 5 (di (wr A (p+o) 8 v) n)] results220 ?_
 exact⟨rfl,rfl⟩
theorem fM (a ab ao n p c s:Nat)(A:By)(h0:0<ao)(h1:p+44+1≤n)(h2:n≤1073741824)(h3:(p+44) % ao+1≤ao)(h4:ao≤1048576):
  aF aaa 130 [.agg (oe a p c s).toArray] (λh=>In (ag a 192 (gG ab ao n)) h∧In (ag ab 5 (di A n)) h) []
   (λv H=>v= .int .i64 ((kl A p:Nat):Int)∧H= []):=by
 have hl:rd A (p+44) 1<256^1:=mU _ _ _
 unfold kl
 refine af func130 rfl ntmps130 rfl ?_
 rintro F ⟨ha,hb⟩
 refine aA ?_
 refine Lp (oB λb1=> ?_)
 refine aW ?_
 refine zl T.yI (mm a ab ao n p 44 c s A h0 h1 h2 h3 h4) .nil (λ_ le _=>⟨ha.mono le,hb.mono le⟩) ?_
 refine aW ?_
 refine Rt [] results130 ?_
 exact⟨rfl,rfl⟩
theorem xU (a ab ao n p c s:Nat)(A:By)(h0:0<ao)(h1:p+48+4≤n)(h2:n≤1073741824)(h3:(p+48) % ao+4≤ao)(h4:ao≤1048576):
  aF aaa 138 [.agg (oe a p c s).toArray] (λh=>In (ag a 192 (gG ab ao n)) h∧In (ag ab 5 (di A n)) h) []
   (λv H=>v= .int .i64 ((vl A p:Nat):Int)∧H= []):=by
 have hl:rd A (p+48) 4<256^4:=mU _ _ _
 unfold vl
 refine af func138 rfl ntmps138 rfl ?_
 rintro F ⟨ha,hb⟩
 refine aA ?_
 refine Lp (oB λb1=> ?_)
 refine aW ?_
 refine zl T.Dq (nE a ab ao n p 48 c s A h0 h1 h2 h3 h4) .nil (λ_ le _=>⟨ha.mono le,hb.mono le⟩) ?_
 refine aW ?_
 refine Rt [] results138 ?_
 exact⟨rfl,rfl⟩
theorem vF (a ab ao n p o c s m:Nat)(A:By)(h0:0<ao)(h1:p+o+m≤n)(h2:n≤1073741824)(h3:(p+o) % ao+m≤ao)(h4:ao≤1048576):
  aF aaa 132 [.agg (oe a p c s).toArray, .int .i64 (o:Int), .int .i64 (m:Int)] (λh=>In (ag a 192 (gG ab ao n)) h∧In (ag ab 5 (di A n)) h) []
   (λv H=>∃b,v= .slice (some ⟨b,0,none⟩) m m∧H= [own (some ⟨b,0,none⟩) m 5 1 (ak (iC A (p+o) m))]):=by
 unfold oe
 refine af func132 rfl ntmps132 rfl ?_
 rintro F ⟨ha,hb⟩
 refine aA ?_
 refine Lp (oB λb1=> ?_)
 refine bA ?_
 refine Lp (oC T.Yt rfl rfl (D9 a ab ao n (p+o) m A h0 h1 h2 h3 h4) .nil (λ_ le _=>⟨ha.mono le,hb.mono le⟩) ?_)
 rintro v H' ⟨b,rfl,rfl⟩
 refine bd ?_
 refine bI ?_
 refine Rt [own (some ⟨b,0,none⟩) m 5 1 (ak (iC A (p+o) m))] results132 ?_
 exact⟨_,rfl,rfl⟩
abbrev CL (b:Nat)(C:Cs)(y:Lc):aa:=aI (oR b C y)
theorem uM{P:Program}{f:FuncId}{args:List Value}{H:List aa}{R:Value→List aa→Prop}{b:Nat}{C:Cs}(h:∀y,gf C y→aF P f args (In (CL b C y)) H R):aF P f args (In (Cl b C)) H R:=λF w hp s=>by
 obtain⟨k,⟨y,hy,p⟩,l⟩:=hp
 exact h y hy F w ⟨k,p,l⟩ s
theorem E3{b:Nat}{C:Cs}{y:Lc}{h k:Hp}(hy:gf C y)(i:In (CL b C y) h)(l:Le h k):In (Cl b C) k:=by
 obtain⟨m,p,q⟩:=i
 exact⟨m,⟨y,hy,p⟩,q.trans l⟩
theorem eV{b:Nat}{C:Cs}{y:Lc}{h k:Hp}(i:In (CL b C y) h)(l:Le h k):In (ag y.a 192 (gG y.ab C.ao (C.n*C.ao))) k∧In (ag y.ab 5 (di C.A (C.n*C.ao))) k:=by
 obtain⟨_,_,_,_,_,_,h6,h7,_⟩:=qs i
 exact⟨In.mono h6 l,In.mono h7 l⟩
theorem kA (b:Nat)(C:Cs)(y:Lc)(K:Ok C)(hy:gf C y)(p:Nat)(L:Live C p):
  aF aaa 129 [.pointer (some ⟨b,0,none⟩), .int .u64 (C.hd p:Int)] (In (CL b C y)) []
   (λv H=>v= .tuple #[.agg (oe y.a p (C.cl p) (C.sz (C.cl p))).toArray, .int .i64 0]∧H= []):=by
 have hc:C.cl p<C.ae.length:=(L.toAt.aX K).1
 refine af func129 rfl ntmps129 rfl ?_
 intro F aq
 refine aA ?_
 refine Lp (oA T.gD λb1=> ?_)
 refine gP ?_
 refine zl T.uC (uG b C K p L) .nil (λ_ le _=>E3 hy aq le) ?_
 refine x7 ?_
 refine zl T.Yu (Qi b C y) .nil (λ_ le _=>cF (qs aq) le) ?_
 refine aW ?_
 refine zl T.KR (rU b C K (C.cl p:Int)) .nil (λ_ le _=>E3 hy aq le) ?_
 unfold ofM
 rw[if_pos (by omega),Int.toNat_natCast]
 refine br ?_
 refine GY [] T.DF results129 ?_
 exact⟨rfl,rfl⟩
theorem tM (b:Nat)(C:Cs)(y:Lc)(K:Ok C)(hy:gf C y)(p:Nat)(L:Live C p)(hk:kl C.A p≠0):
  aF aaa 175 [.pointer (some ⟨b,0,none⟩), .int .u64 (C.hd p:Int)] (In (CL b C y)) []
   (λv H=>v= .tuple #[.agg (oe y.a p (C.cl p) (C.sz (C.cl p))).toArray, .int .i64 0]∧H= []):=by
 obtain⟨n1,n2,_⟩:=L.toAt.aX K
 have nb:=fC K.toFix
 have f0:=K.toFix.pos
 have f1:=K.toFix.p1
 obtain⟨e1,e2⟩:=L.toAt.off K (o:=44) (w:=1) (by omega)
 refine af func175 rfl ntmps175 rfl ?_
 intro F aq
 refine aA ?_
 refine Lp (oA T.gD λb1=> ?_)
 refine br ?_
 refine zl T.ng (kA b C y K hy p L) .nil (λ_ le _=>In.mono aq le) ?_
 unfold oe
 refine bq ?_
 refine Lp (oA T.gD λb2=> ?_)
 refine dh ?_
 refine zt 16 ?_ (e:=by rfl)
 refine aA ?_
 refine zl T.iA (fM y.a y.ab C.ao (C.n*C.ao) p (C.cl p) (C.sz (C.cl p)) C.A f0 e1 nb e2 f1) .nil (λ_ le _=>eV aq le) ?_
 refine bq ?_
 refine dm ?_
 refine dg ?_
 refine GY [] T.DF results175 ?_
 exact⟨rfl,rfl⟩
def Cs.wA (C:Cs)(A:By):Cs:={C with A:=A}
theorem nw{P:Program}{f:FuncId}{args:List Value}{pre:Hp→Prop}{H:List aa}{R:Value→List aa→Prop}{b:Nat}{C:Cs}(h:∀y,gf C y→aF P f args pre (CL b C y::H) R):aF P f args pre (Cl b C::H) R:=
 aF.ZY λy=>aF.Ae λhy=>h y hy
theorem JE{b:Nat}{C:Cs}{y:Lc}{H:List aa}{h:Hp}(hy:gf C y)(st:ai (CL b C y::H) h):ai (Cl b C::H) h:=
 aY (λ_ p=>⟨y,hy,p⟩) st
theorem gf.wA{C:Cs}{y:Lc}(hy:gf C y)(A:By):gf (C.wA A) y:=⟨hy.pl,hy.rl,hy.pk,hy.ao,hy.cP⟩
def clR (b:Nat)(C:Cs)(y:Lc):aa:=aI [ag b 136 (dz C y),nZ C y,ag y.pb 224 (y.pl.flatMap eA),aI (y.pl.map mM),ag y.rb 253 (y.rl.flatMap eo),aI (y.rl.map kh)]
theorem rC{L H:List aa}{h:Hp}(s:ai (aI L::H) h):ai (L++H) h:=by
 obtain⟨h1,h2,d,l1,l2,s1,s2⟩:=s
 exact dL (bG s1 s2 d) (bS l1 l2)
theorem Bp (b:Nat)(C:Cs)(y:Lc):List.Perm (oR b C y) ([ag y.ab 5 (di C.A (C.n*C.ao)),ag y.a 192 (gG y.ab C.ao (C.n*C.ao))]++ [ag b 136 (dz C y),nZ C y,ag y.pb 224 (y.pl.flatMap eA),aI (y.pl.map mM),ag y.rb 253 (y.rl.flatMap eo),aI (y.rl.map kh)]):=
 List.perm_append_comm (l₁:= [_,_,_,_,_,_]) (l₂:= [_,_]) |>.trans (List.Perm.swap _ _ _)
theorem PX{b:Nat}{C:Cs}{y:Lc}{H:List aa}{h:Hp}(s:ai (CL b C y::H) h):ai (ag y.ab 5 (di C.A (C.n*C.ao))::ag y.a 192 (gG y.ab C.ao (C.n*C.ao))::clR b C y::H) h:=
 aH (λ_ s=>aH (λ_ s=>fg (L:= [_,_,_,_,_,_]) s) s) (rC (mf (Bp b C y) s))
theorem lJ{b:Nat}{C:Cs}{y:Lc}{H:List aa}{A:By}(hy:gf C y){h:Hp}(s:ai (ag y.ab 5 (di A (C.n*C.ao))::ag y.a 192 (gG y.ab C.ao (C.n*C.ao))::clR b C y::H) h):ai (Cl b (C.wA A)::H) h:=by
 refine JE (hy.wA A) (mf (Bp b (C.wA A) y).symm (fg (L:= [_,_,_,_,_,_,_,_]) ?_))
 exact aH (λ_ s=>aH (λ_ s=>rC s) s) s
theorem Ak{n:Nat}{ds:List Deferred}{F:dy}{K:Act→World→Prop}{σ:aR}{H:List aa}{b:Nat}{C:Cs}{y:Lc}
  (h:G n ds F K σ (ag y.ab 5 (di C.A (C.n*C.ao))::ag y.a 192 (gG y.ab C.ao (C.n*C.ao))::clR b C y::H)):G n ds F K σ (CL b C y::H):=az (λ_ s=>PX s) h
theorem vP (b:Nat)(C:Cs)(K:Ok C)(p o:Nat)(L:Live C p)(hk:kl C.A p≠0)(ho:o+1≤56):
  aF aaa 224 [.pointer (some ⟨b,0,none⟩), .int .u64 (C.hd p:Int), .int .i64 (o:Int)] (In (Cl b C)) []
   (λv H=>v= .tuple #[.int .u8 ((rd C.A (p+o) 1:Nat):Int), .int .i64 0]∧H= []):=by
 refine uM λy hy=> ?_
 obtain⟨n1,n2,_⟩:=L.toAt.aX K
 have nb:=fC K.toFix
 have f0:=K.toFix.pos
 have f1:=K.toFix.p1
 obtain⟨e1,e2⟩:=L.toAt.off K (o:=44) (w:=1) (by omega)
 obtain⟨e3,e4⟩:=L.toAt.off K (o:=o) (w:=1) (by omega)
 refine af func224 rfl ntmps224 rfl ?_
 intro F aq
 refine bL ?_
 refine zl T.ng (kA b C y K hy p L) .nil (λ_ le _=>In.mono aq le) ?_
 unfold oe
 refine bq ?_
 refine Lp (oA T.gD λb1=> ?_)
 refine dh ?_
 refine zf 18 ?_ (e:=by rfl)
 refine aA ?_
 refine zl T.iA (fM y.a y.ab C.ao (C.n*C.ao) p (C.cl p) (C.sz (C.cl p)) C.A f0 e1 nb e2 f1) .nil (λ_ le _=>eV aq le) ?_
 refine bq ?_
 refine dm ?_
 refine br ?_
 refine zl T.yI (mm y.a y.ab C.ao (C.n*C.ao) p o (C.cl p) (C.sz (C.cl p)) C.A f0 e3 nb e4 f1) .nil (λ_ le _=>eV aq le) ?_
 refine br ?_
 refine iV [] results224 ?_
 exact⟨rfl,rfl⟩
theorem xu (b:Nat)(C:Cs)(K:Ok C)(p o v:Nat)(hv:v<256^1)(L:Live C p)(hk:kl C.A p≠0)(ho:o+1≤56):
  aF aaa 228 [.pointer (some ⟨b,0,none⟩), .int .u64 (C.hd p:Int), .int .i64 (o:Int), .int .u8 (v:Int), .bool true] (λ_=>True) [Cl b C]
   (λu H=>u= .int .i64 0∧H= [Cl b (C.wA (wr C.A (p+o) 1 v))]):=by
 refine nw λy hy=> ?_
 obtain⟨n1,n2,_⟩:=L.toAt.aX K
 have nb:=fC K.toFix
 have f0:=K.toFix.pos
 have f1:=K.toFix.p1
 obtain⟨e3,e4⟩:=L.toAt.off K (o:=o) (w:=1) (by omega)
 refine af func228 rfl ntmps228 rfl ?_
 intro F _
 refine bD ?_
 refine zl T.yE (tM b C y K hy p L hk) .nil (λ_ le aq=>aq.1) ?_
 unfold oe
 refine bq ?_
 refine Lp (oA T.gD λb1=> ?_)
 refine bW ?_
 refine aW ?_
 refine Hh (H':= [CL b C y,ag b1 228 [.pointer (some ⟨y.a,0,none⟩), .int .i64 (p:Int), .int .i64 (C.cl p:Int), .int .i64 (C.sz (C.cl p):Int)]]) ?_
 refine Ak ?_
 refine zl T.uP (jX y.a y.ab C.ao (C.n*C.ao) p o (C.cl p) (C.sz (C.cl p)) v C.A hv f0 e3 nb e4 f1) (.cons .here .nil) (λ_ le aq=>aq.1) ?_
 refine az (λ_ s=>lJ hy s) ?_
 refine br ?_
 refine Rt [Cl b (C.wA (wr C.A (p+o) 1 v))] results228 ?_
 exact⟨rfl,rfl⟩
theorem su (b:Nat)(C:Cs)(K:Ok C)(p o:Nat)(L:Live C p)(hk:kl C.A p≠0)(ho:o+8≤56):
  aF aaa 201 [.pointer (some ⟨b,0,none⟩), .int .u64 (C.hd p:Int), .int .i64 (o:Int)] (In (Cl b C)) []
   (λv H=>v= .tuple #[.int .u64 ((rd C.A (p+o) 8:Nat):Int), .int .i64 0]∧H= []):=by
 refine uM λy hy=> ?_
 obtain⟨n1,n2,_⟩:=L.toAt.aX K
 have nb:=fC K.toFix
 have f0:=K.toFix.pos
 have f1:=K.toFix.p1
 obtain⟨e1,e2⟩:=L.toAt.off K (o:=44) (w:=1) (by omega)
 obtain⟨e3,e4⟩:=L.toAt.off K (o:=o) (w:=8) (by omega)
 refine af func201 rfl ntmps201 rfl ?_
 intro F aq
 refine bL ?_
 refine zl T.ng (kA b C y K hy p L) .nil (λ_ le _=>In.mono aq le) ?_
 unfold oe
 refine bq ?_
 refine Lp (oA T.gD λb1=> ?_)
 refine dh ?_
 refine zf 18 ?_ (e:=by rfl)
 refine aA ?_
 refine zl T.iA (fM y.a y.ab C.ao (C.n*C.ao) p (C.cl p) (C.sz (C.cl p)) C.A f0 e1 nb e2 f1) .nil (λ_ le _=>eV aq le) ?_
 refine bq ?_
 refine dm ?_
 refine br ?_
 refine zl T.yJ (kE y.a y.ab C.ao (C.n*C.ao) p o (C.cl p) (C.sz (C.cl p)) C.A f0 e3 nb e4 f1) .nil (λ_ le _=>eV aq le) ?_
 refine br ?_
 refine iV [] results201 ?_
 exact⟨rfl,rfl⟩
theorem pB (b:Nat)(C:Cs)(K:Ok C)(p o v:Nat)(hv:v<256^8)(L:Live C p)(hk:kl C.A p≠0)(ho:o+8≤56):
  aF aaa 177 [.pointer (some ⟨b,0,none⟩), .int .u64 (C.hd p:Int), .int .i64 (o:Int), .int .u64 (v:Int), .bool true] (λ_=>True) [Cl b C]
   (λu H=>u= .int .i64 0∧H= [Cl b (C.wA (wr C.A (p+o) 8 v))]):=by
 refine nw λy hy=> ?_
 obtain⟨n1,n2,_⟩:=L.toAt.aX K
 have nb:=fC K.toFix
 have f0:=K.toFix.pos
 have f1:=K.toFix.p1
 obtain⟨e3,e4⟩:=L.toAt.off K (o:=o) (w:=8) (by omega)
 refine af func177 rfl ntmps177 rfl ?_
 intro F _
 refine bD ?_
 refine zl T.yE (tM b C y K hy p L hk) .nil (λ_ le aq=>aq.1) ?_
 unfold oe
 refine bq ?_
 refine Lp (oA T.gD λb1=> ?_)
 refine bW ?_
 refine aW ?_
 refine Hh (H':= [CL b C y,ag b1 228 [.pointer (some ⟨y.a,0,none⟩), .int .i64 (p:Int), .int .i64 (C.cl p:Int), .int .i64 (C.sz (C.cl p):Int)]]) ?_
 refine Ak ?_
 refine zl T.yC (kD y.a y.ab C.ao (C.n*C.ao) p o (C.cl p) (C.sz (C.cl p)) v C.A hv f0 e3 nb e4 f1) (.cons .here .nil) (λ_ le aq=>aq.1) ?_
 refine az (λ_ s=>lJ hy s) ?_
 refine br ?_
 refine Rt [Cl b (C.wA (wr C.A (p+o) 8 v))] results177 ?_
 exact⟨rfl,rfl⟩
theorem JJ (a1 a2:Option Addr)(c1 c2 m1 m2:Nat)(l1 l2:List UInt8)(h1:m1=l1.length)(h2:m2=l2.length)(k1:l1.length<18446744073709551616)(k2:l2.length<18446744073709551616):
  aF aaa 131 [.slice a1 m1 c1, .slice a2 m2 c2] (λh=>eB h a1 (ak l1)∧eB h a2 (ak l2)) [] (λv H=>v= .bool (decide (l1=l2))∧H= []):=by
 refine af func131 rfl ntmps131 rfl ?_
 rintro F ⟨r1,r2⟩
 refine br ?_
 refine Li (Ts T.gQ T.oI T.rY) ?_
 refine aA ?_
 refine Li (Ts T.gQ T.oI T.rY) ?_
 refine Li Sq ?_
 refine bq ?_
 refine Rt [] results131 ?_
 exact⟨rfl,rfl⟩
theorem AS (m:Int):aF aaa 218 [.int .i64 m] (λ_=>True) [] (λv H=>v= .bool (decide (0≤m∧m<16))∧H= []):=by
 refine af func218 rfl ntmps218 rfl ?_
 intro F _
 refine bL ?_
 refine aS (t:=5) rfl ?_ ?_
 ·intro h
  replace h:=aL h
  refine bD ?_
  refine Rt [] results218 ?_
  refine⟨?_,rfl⟩
  congr 2
  simp[h]
 intro h
 replace h:=aL h
 refine bD ?_
 refine Rt [] results218 ?_
 refine⟨?_,rfl⟩
 rw[decide_eq_false (by omega)]
theorem Ej (b:Nat)(C:Cs)(K:Ok C)(p:Nat)(L:Live C p)(hk:kl C.A p≠0)(hx:rd C.A (p+16) 8<9223372036854775808):
  aF aaa 134 [.pointer (some ⟨b,0,none⟩), .int .u64 (C.hd p:Int)] (In (Cl b C)) []
   (λv H=>v= .tuple #[.int .i64 ((rd C.A (p+16) 8:Nat):Int), .int .i64 0]∧H= []):=by
 refine af func134 rfl ntmps134 rfl ?_
 intro F aq
 refine bL ?_
 refine zl T.Mj (su b C K p 16 L hk (by omega)) .nil (λ_ le _=>In.mono aq le) ?_
 refine fK ?_
 refine iV [] results134 ?_
 exact⟨rfl,rfl⟩
theorem xH (b:Nat)(C:Cs)(K:Ok C)(p:Nat)(L:Live C p)(hk:kl C.A p≠0):
  aF aaa 135 [.pointer (some ⟨b,0,none⟩), .int .u64 (C.hd p:Int)] (In (Cl b C)) []
   (λv H=>v= .tuple #[.int .u64 ((rd C.A (p+32) 8:Nat):Int), .int .i64 0]∧H= []):=by
 refine af func135 rfl ntmps135 rfl ?_
 intro F aq
 refine bL ?_
 refine zl T.Mj (su b C K p 32 L hk (by omega)) .nil (λ_ le _=>In.mono aq le) ?_
 refine bD ?_
 refine iV [] results135 ?_
 exact⟨rfl,rfl⟩
theorem rQ (b:Nat)(C:Cs)(K:Ok C)(p:Nat)(L:Live C p)(hk:kl C.A p≠0):
  aF aaa 164 [.pointer (some ⟨b,0,none⟩), .int .u64 (C.hd p:Int)] (In (Cl b C)) []
   (λv H=>v= .tuple #[.int .i64 ((rd C.A (p+45) 1:Nat):Int), .int .i64 0]∧H= []):=by
 have hl:rd C.A (p+45) 1<256^1:=mU _ _ _
 refine af func164 rfl ntmps164 rfl ?_
 intro F aq
 refine bL ?_
 refine zl T.Mb (vP b C K p 45 L hk (by omega)) .nil (λ_ le _=>In.mono aq le) ?_
 refine fK ?_
 refine iV [] results164 ?_
 exact⟨rfl,rfl⟩
theorem nT (b:Nat)(C:Cs)(K:Ok C)(p:Nat)(L:Live C p)(hk:kl C.A p≠0):
  aF aaa 172 [.pointer (some ⟨b,0,none⟩), .int .u64 (C.hd p:Int)] (In (Cl b C)) []
   (λv H=>v= .tuple #[.int .i64 ((rd C.A (p+46) 1:Nat):Int), .int .i64 0]∧H= []):=by
 have hl:rd C.A (p+46) 1<256^1:=mU _ _ _
 refine af func172 rfl ntmps172 rfl ?_
 intro F aq
 refine bL ?_
 refine zl T.Mb (vP b C K p 46 L hk (by omega)) .nil (λ_ le _=>In.mono aq le) ?_
 refine fK ?_
 refine iV [] results172 ?_
 exact⟨rfl,rfl⟩
theorem wP (b:Nat)(C:Cs)(K:Ok C)(p v:Nat)(hv:v<9223372036854775808)(L:Live C p)(hk:kl C.A p≠0):
  aF aaa 169 [.pointer (some ⟨b,0,none⟩), .int .u64 (C.hd p:Int), .int .i64 (v:Int)] (λ_=>True) [Cl b C]
   (λu H=>u= .int .i64 0∧H= [Cl b (C.wA (wr C.A (p+16) 8 v))]):=by
 refine af func169 rfl ntmps169 rfl ?_
 intro F _
 refine bA ?_
 refine ay (t:=12) (v':=(.bool true)) rfl (by rw[decide_eq_true (by omega)]) ?_
 refine zl T.Dg (pB b C K p 16 v (ad8 hv (by decide)) L hk (by omega)) (.cons .here .nil) (λ_ _ _=>trivial) ?_
 refine bq ?_
 refine Rt [Cl b (C.wA (wr C.A (p+16) 8 v))] results169 ?_
 exact⟨rfl,rfl⟩
theorem wk (b:Nat)(C:Cs)(K:Ok C)(p v:Nat)(hv:v<9223372036854775808)(L:Live C p)(hk:kl C.A p≠0):
  aF aaa 174 [.pointer (some ⟨b,0,none⟩), .int .u64 (C.hd p:Int), .int .i64 (v:Int)] (λ_=>True) [Cl b C]
   (λu H=>u= .int .i64 0∧H= [Cl b (C.wA (wr C.A (p+24) 8 v))]):=by
 refine af func174 rfl ntmps174 rfl ?_
 intro F _
 refine bA ?_
 refine ay (t:=12) (v':=(.bool true)) rfl (by rw[decide_eq_true (by omega)]) ?_
 refine zl T.Dg (pB b C K p 24 v (ad8 hv (by decide)) L hk (by omega)) (.cons .here .nil) (λ_ _ _=>trivial) ?_
 refine bq ?_
 refine Rt [Cl b (C.wA (wr C.A (p+24) 8 v))] results174 ?_
 exact⟨rfl,rfl⟩
theorem zq (b:Nat)(C:Cs)(K:Ok C)(p v:Nat)(hv:v<18446744073709551616)(L:Live C p)(hk:kl C.A p≠0):
  aF aaa 115 [.pointer (some ⟨b,0,none⟩), .int .u64 (C.hd p:Int), .int .u64 (v:Int)] (λ_=>True) [Cl b C]
   (λu H=>u= .int .i64 0∧H= [Cl b (C.wA (wr C.A (p+32) 8 v))]):=by
 refine af func115 rfl ntmps115 rfl ?_
 intro F _
 refine bL ?_
 refine zl T.Dg (pB b C K p 32 v (adG hv (by decide)) L hk (by omega)) (.cons .here .nil) (λ_ _ _=>trivial) ?_
 refine bq ?_
 refine Rt [Cl b (C.wA (wr C.A (p+32) 8 v))] results115 ?_
 exact⟨rfl,rfl⟩
theorem js (b:Nat)(C:Cs)(K:Ok C)(p v:Nat)(hv:v<16)(L:Live C p)(hk:kl C.A p≠0):
  aF aaa 173 [.pointer (some ⟨b,0,none⟩), .int .u64 (C.hd p:Int), .int .i64 (v:Int)] (λ_=>True) [Cl b C]
   (λu H=>u= .int .i64 0∧H= [Cl b (C.wA (wr C.A (p+46) 1 v))]):=by
 refine af func173 rfl ntmps173 rfl ?_
 intro F _
 refine dg ?_
 refine zl T.Mc (AS (v:Int)) .nil (λ_ _ _=>trivial) ?_
 refine ay (t:=12) (v':=(.bool true)) rfl (by rw[decide_eq_true (by omega)]) ?_
 refine zl T.L8 (xu b C K p 46 v (ad8 hv (by decide)) L hk (by omega)) (.cons .here .nil) (λ_ _ _=>trivial) ?_
 refine bq ?_
 refine Rt [Cl b (C.wA (wr C.A (p+46) 1 v))] results173 ?_
 exact⟨rfl,rfl⟩
theorem qJ (b:Nat)(C:Cs)(K:Ok C)(p v:Nat)(hv:1≤v∧v≤4)(L:Live C p)(hk:kl C.A p≠0):
  aF aaa 227 [.pointer (some ⟨b,0,none⟩), .int .u64 (C.hd p:Int), .int .i64 (v:Int)] (λ_=>True) [Cl b C]
   (λu H=>u= .int .i64 0∧H= [Cl b (C.wA (wr C.A (p+45) 1 v))]):=by
 refine af func227 rfl ntmps227 rfl ?_
 intro F _
 refine bI ?_
 refine zt 13 ?_
 refine bq ?_
 refine ay (t:=16) (v':=(.bool true)) rfl (by rw[decide_eq_true (by omega)]) ?_
 refine zl T.L8 (xu b C K p 45 v (adC hv.2 (by decide)) L hk (by omega)) (.cons .here .nil) (λ_ _ _=>trivial) ?_
 refine bq ?_
 refine Rt [Cl b (C.wA (wr C.A (p+45) 1 v))] results227 ?_
 exact⟨rfl,rfl⟩
theorem A5 (k v:Nat)(hk:1≤k∧k≤250)(hv:v≤1048576):aF aaa 178 [.int .i64 (k:Int), .int .i64 (v:Int)] (λ_=>True) []
   (λu H=>u= .tuple #[.int .i64 ((58+k+v:Nat):Int), .int .i64 0]∧H= []):=by
 refine af func178 rfl ntmps178 rfl ?_
 intro F _
 refine bA ?_
 refine zf 9 ?_
 refine br ?_
 refine dm ?_
 refine aW ?_
 refine zf 16 ?_
 refine br ?_
 refine dm ?_
 refine eC ?_
 refine iV [] results178 ?_
 exact⟨rfl,rfl⟩
def okB (c:UInt8):Bool:=decide (32<c.toNat∧c.toNat≠127)
def dV (l:List UInt8):Bool:=decide (1≤l.length∧l.length≤250)&&l.all okB
theorem AW{l:List UInt8}{k:Nat}(h:k<l.length)(hb:okB (l[k])=false):dV l=false:=by
 unfold dV
 rw[Bool.and_eq_false_iff]
 right
 rw[List.all_eq_false]
 exact⟨l[k],List.getElem_mem h,by rw[hb];decide⟩
theorem Oc{l:List UInt8}{k:Nat}(h:∀i (h:i<l.length),i<k→okB l[i]=true)(hk:k<l.length)(hb:okB l[k]=true):∀i (h:i<l.length),i<k+1→okB l[i]=true:=λi hl hi=>by
 by_cases e:i<k
 ·exact h i hl e
 obtain rfl:i=k:=by omega
 exact hb
theorem AX (a:Option Addr)(c m:Nat)(l:List UInt8)(hm:m=l.length)(hl:m<281474976710656):
  aF aaa 69 [.slice a m c] (λh=>eB h a (ak l)) [] (λv H=>v= .bool (dV l)∧H= []):=by
 refine af func69 rfl ntmps69 rfl ?_
 intro F r
 refine dg ?_
 refine aS (t:=8) rfl ?_ ?_
 ·intro h1
  replace h1:=aL h1
  refine bI ?_
  refine Rt [] results69 ?_
  refine⟨?_,rfl⟩
  unfold dV
  rw[decide_eq_false (by omega)];rfl
 intro h1
 replace h1:=aL h1
 refine br ?_
 refine ax rfl ?_ ?_
 ·intro h2
  replace h2:=aL h2
  refine br ?_
  refine Rt [] results69 ?_
  refine⟨?_,rfl⟩
  unfold dV
  rw[decide_eq_false (by omega)];rfl
 intro h2
 replace h2:=aL h2
 refine dg ?_
 refine Lo (ι:=Nat) [16,17,18,4,19,20,21,22,23,24,2,25,15] (λk=>k≤m∧∀i (h:i<l.length),i<k→okB l[i]=true) (λk=> [(15, .int .i64 (k:Int))]) (λk=> []) (λk=>m-k) (0) ⟨Nat.zero_le _,λi _ h=>absurd h (Nat.not_lt_zero _)⟩ ?_
 rintro k hI
 refine bq ?_
 refine aw ?_
 refine ax rfl ?_ ?_
 ·intro hk
  replace hk:=aL hk
  have cB:k<l.length:=by omega
  have kb:(ak l)[k]?=some (.int .u8 ((l[k].toNat:Nat):Int)):=by unfold ak;rw[List.getElem?_map,List.getElem?_eq_getElem cB];rfl
  have hc:=l[k].toNat_lt
  refine br ?_
  refine Li (Ix T.gQ) ?_
  refine bL ?_
  refine aS (t:=21) rfl ?_ ?_
  ·intro h3
   replace h3:=aL h3
   refine fK ?_
   refine Rt [] results69 ?_
   exact⟨by rw[AW cB (decide_eq_false (by omega))],rfl⟩
  intro h3
  replace h3:=aL h3
  refine aW ?_
  refine ax rfl ?_ ?_
  ·intro h4
   replace h4:=aL h4
   refine dg ?_
   refine Rt [] results69 ?_
   exact⟨by rw[AW cB (decide_eq_false (by omega))],rfl⟩
  intro h4
  replace h4:=aL h4
  refine bD ?_
  refine aG ?_
  refine Ro (k+1) (⟨by omega,Oc hI.2 cB (decide_eq_true (by omega))⟩) ((by omega))
 intro hk
 replace hk:=aL hk
 refine dg ?_
 refine Rt [] results69 ?_
 refine⟨?_,rfl⟩
 unfold dV
 rw[decide_eq_true (by omega),Bool.true_and]
 rw[eq_comm,Value.bool.injEq,List.all_eq_true]
 intro x hx
 obtain⟨i,hi,rfl⟩:=List.getElem_of_mem hx
 exact hI.2 i hi (by omega)
def nO:Option Nat→Nat
 |none=>0
 |some q=>q/8+1
def hO (C:Cs):Option Nat→Nat
 |none=>0
 |some q=>C.hd q
theorem nK (q:Nat):nO (some q)=q/8+1:=rfl
theorem bY (C:Cs)(q:Nat):hO C (some q)=C.hd q:=rfl
def cz (C:Cs)(o:Option Nat):Prop:=∀q,o=some q→Live C q
theorem sD (b:Nat)(C:Cs)(K:Ok C)(p:Nat)(L:Live C p)(hk:kl C.A p≠0):
  aF aaa 214 [.pointer (some ⟨b,0,none⟩), .int .u64 (C.hd p:Int)] (In (Cl b C)) []
   (λv H=>v= .tuple #[.int .i64 ((kl C.A p:Nat):Int), .int .i64 ((vl C.A p:Nat):Int), .int .i64 0]∧H= []):=by
 refine uM λy hy=> ?_
 obtain⟨n1,n2,_⟩:=L.toAt.aX K
 have nb:=fC K.toFix
 have f0:=K.toFix.pos
 have f1:=K.toFix.p1
 obtain⟨e1,e2⟩:=L.toAt.off K (o:=44) (w:=1) (by omega)
 obtain⟨e3,e4⟩:=L.toAt.off K (o:=48) (w:=4) (by omega)
 refine af func214 rfl ntmps214 rfl ?_
 intro F aq
 refine dh ?_
 refine zl T.ng (kA b C y K hy p L) .nil (λ_ le _=>In.mono aq le) ?_
 unfold oe
 refine bq ?_
 refine Lp (oA T.gD λb1=> ?_)
 refine dh ?_
 refine zf 16 ?_ (e:=by rfl)
 refine aA ?_
 refine zl T.iA (fM y.a y.ab C.ao (C.n*C.ao) p (C.cl p) (C.sz (C.cl p)) C.A f0 e1 nb e2 f1) .nil (λ_ le _=>eV aq le) ?_
 refine bq ?_
 refine dm ?_
 refine bf ?_
 refine aw ?_
 refine ik 8 T.mix (.cons .here .nil) λF1 je bR aM=> ?_
 obtain⟨hb,_⟩:=bR
 refine aA ?_
 refine Tp (oC T.iA rfl rfl (fM y.a y.ab C.ao (C.n*C.ao) p (C.cl p) (C.sz (C.cl p)) C.A f0 e1 nb e2 f1) .nil (λ_ le _=>eV (In.mono aq je) le) ?_)
 rintro v H' ⟨rfl,rfl⟩
 refine bd ?_
 refine aA ?_
 refine Tp (oC T.MB rfl rfl (xU y.a y.ab C.ao (C.n*C.ao) p (C.cl p) (C.sz (C.cl p)) C.A f0 e3 nb e4 f1) .nil (λ_ le _=>eV (In.mono aq je) le) ?_)
 rintro v H' ⟨rfl,rfl⟩
 refine bd ?_
 refine aW ?_
 refine gO aM ?_
 refine bf ?_
 refine Rt3 [] results214 ?_
 exact⟨rfl,rfl⟩
theorem qz (b:Nat)(C:Cs)(K:Ok C)(p i:Nat)(o:Option Nat)(L:Live C p)(hk:kl C.A p≠0)(hi:i≤2)(ho:cz C o)(hn:rd C.A (p+4*i) 4=nO o):
  aF aaa 133 [.pointer (some ⟨b,0,none⟩), .int .u64 (C.hd p:Int), .int .i64 (i:Int)] (In (Cl b C)) []
   (λv H=>v= .tuple #[.int .u64 (hO C o:Int), .int .i64 0]∧H= []):=by
 refine uM λy hy=> ?_
 obtain⟨n1,n2,_⟩:=L.toAt.aX K
 have nb:=fC K.toFix
 have f0:=K.toFix.pos
 have f1:=K.toFix.p1
 obtain⟨e1,e2⟩:=L.toAt.off K (o:=44) (w:=1) (by omega)
 obtain⟨e3,e4⟩:=L.toAt.off K (o:=4*i) (w:=4) (by omega)
 refine af func133 rfl ntmps133 rfl ?_
 intro F aq
 refine bL ?_
 refine zl T.ng (kA b C y K hy p L) .nil (λ_ le _=>In.mono aq le) ?_
 unfold oe
 refine bq ?_
 refine Lp (oA T.gD λb1=> ?_)
 refine oc ?_
 refine zf 26 ?_
 refine br ?_
 refine dm ?_
 refine bf ?_
 refine zl T.iA (fM y.a y.ab C.ao (C.n*C.ao) p (C.cl p) (C.sz (C.cl p)) C.A f0 e1 nb e2 f1) .nil (λ_ le _=>eV aq le) ?_
 refine bq ?_
 refine dm ?_
 refine dh ?_
 refine ay (t:=37) (v':=(.int .i64 ((4*i:Nat):Int))) rfl (by rw[ae5];rfl) ?_
 refine zl T.Dq (nE y.a y.ab C.ao (C.n*C.ao) p (4*i) (C.cl p) (C.sz (C.cl p)) C.A f0 e3 nb e4 f1) .nil (λ_ le _=>eV aq le) ?_
 rw[hn]
 rcases o with _|q
 ·refine Li As ?_
  refine gP ?_
  refine iV [] results133 ?_
  exact⟨rfl,rfl⟩
 have M:=ho q rfl
 obtain⟨m1,m2,m3,m4,m5,m6⟩:=bK K M.toAt
 rw[nK]
 refine bL ?_
 refine dm ?_
 refine dh ?_
 refine ay (t:=46) (v':=(.int .i64 (q:Int))) rfl (by rw[show(8:Int)*(((q/8+1:Nat):Int)-1)=(q:Int) by omega]) ?_
 refine zl T.MC (UT b C K q M) .nil (λ_ le _=>E3 hy aq le) ?_
 refine bW ?_
 refine iV [] results133 ?_
 exact⟨rfl,rfl⟩
theorem db (b:Nat)(C:Cs)(K:Ok C)(p i:Nat)(o:Option Nat)(L:Live C p)(hk:kl C.A p≠0)(hi:i≤2)(ho:cz C o):
  aF aaa 212 [.pointer (some ⟨b,0,none⟩), .int .u64 (C.hd p:Int), .int .i64 (i:Int), .int .u64 (hO C o:Int)] (λ_=>True) [Cl b C]
   (λu H=>u= .int .i64 0∧H= [Cl b (C.wA (wr C.A (p+4*i) 4 (nO o)))]):=by
 refine nw λy hy=> ?_
 obtain⟨n1,n2,_⟩:=L.toAt.aX K
 have nb:=fC K.toFix
 have f0:=K.toFix.pos
 have f1:=K.toFix.p1
 obtain⟨e3,e4⟩:=L.toAt.off K (o:=4*i) (w:=4) (by omega)
 have hw:nO o<256^4:=by
  rcases o with _|q
  ·exact Nat.pow_pos (by decide)
  obtain⟨_,_,m3,m4,_⟩:=bK K (ho q rfl).toAt
  rw[nK]
  rw[show 256^4=4294967296 from rfl]
  omega
 have hm:IntKind.u32.wrap (hO C o:Int)=(nO o:Int):=by
  rcases o with _|q
  ·rfl
  obtain⟨m1,_⟩:=bK K (ho q rfl).toAt
  rw[IntKind.wrap_u32,nK,bY]
  omega
 refine af func212 rfl ntmps212 rfl ?_
 intro F _
 refine bD ?_
 refine zl T.yE (tM b C y K hy p L hk) .nil (λ_ le aq=>aq.1) ?_
 unfold oe
 refine bq ?_
 refine Lp (oA T.gD λb1=> ?_)
 refine oc ?_
 refine zf 27 ?_
 refine br ?_
 refine dm ?_
 refine bq ?_
 refine aw ?_
 refine dJ (ι:=Unit) [31,32,34,35,36,33,37,38,39,11,12,13,40,41,8] (λu=>True) (λu=> [(3, .int .u64 (hO C o:Int)),(2, .int .i64 (i:Int)),(9, .pointer (some ⟨b1,0,none⟩))]) (λu=> [CL b C y,ag b1 228 [.pointer (some ⟨y.a,0,none⟩), .int .i64 (p:Int), .int .i64 (C.cl p:Int), .int .i64 (C.sz (C.cl p):Int)]]) ?_ ?_
 ·rcases o with _|q
  ·refine iu ?_
   refine br ?_
   refine Me (()) (trivial)
  have M:=ho q rfl
  obtain⟨m1,m2,m3,m4,m5,m6⟩:=bK K M.toAt
  rw[bY]
  refine aW ?_
  refine fB ?_ (e:=by exact by rw[decide_eq_false (by omega)];rfl)
  refine bq ?_
  refine zl T.uC (uG b C K q M) .nil (λ_ le aq=>E3 hy aq.2.1 (Le.refl _)) ?_
  refine fK ?_
  refine Me (()) (trivial)
 rintro u hI
 refine aW ?_
 refine ay (t:=44) (v':=(.int .i64 ((4*i:Nat):Int))) rfl (by rfl) ?_
 refine aA ?_
 refine ay (t:=45) (v':=(.int .i64 ((4*i:Nat):Int))) rfl (by rw[ae5]) ?_
 refine bf ?_
 refine ay (t:=47) (v':=(.int .u32 (nO o:Int))) rfl (by rw[hm]) ?_
 refine Ak ?_
 refine zl T.uQ (iT y.a y.ab C.ao (C.n*C.ao) p (4*i) (C.cl p) (C.sz (C.cl p)) (nO o) C.A hw f0 e3 nb e4 f1) (.cons .here .nil) (λ_ le aq=>aq.1) ?_
 refine az (λ_ s=>lJ hy s) ?_
 refine br ?_
 refine Rt [Cl b (C.wA (wr C.A (p+4*i) 4 (nO o)))] results212 ?_
 exact⟨rfl,rfl⟩
def Ca (ka va:Value)(fl exp tch tok st mk:Nat):List Value:= [ka,va, .int .u64 (fl:Int), .int .i64 (exp:Int), .int .i64 (tch:Int), .int .u64 (tok:Int), .int .i64 (st:Int), .int .i64 (mk:Int)]
structure gC (C:Cs)(p:Nat):Prop where
 k0:kl C.A p≠0
 fits:58+kl C.A p+vl C.A p≤C.sz (C.cl p)
 exp:rd C.A (p+16) 8<9223372036854775808
 tch:rd C.A (p+24) 8<9223372036854775808
def aE (A:By)(p:Nat):List UInt8:=iC A (p+56) (kl A p)
def mJ (A:By)(p:Nat):List UInt8:=iC A (p+56+kl A p) (vl A p)
theorem vq (b:Nat)(C:Cs)(K:Ok C)(p:Nat)(L:Live C p)(I:gC C p):
  aF aaa 88 [.pointer (some ⟨b,0,none⟩), .int .u64 (C.hd p:Int)] (In (Cl b C)) []
   (λv H=>∃kb vb,v= .tuple #[.agg (Ca (.slice (some ⟨kb,0,none⟩) (kl C.A p) (kl C.A p)) (.slice (some ⟨vb,0,none⟩) (vl C.A p) (vl C.A p)) (rd C.A (p+40) 4) (rd C.A (p+16) 8) (rd C.A (p+24) 8) (rd C.A (p+32) 8) (rd C.A (p+45) 1) (rd C.A (p+46) 1)).toArray, .int .i64 0]∧
    H= [own (some ⟨kb,0,none⟩) (kl C.A p) 5 1 (ak (aE C.A p)),own (some ⟨vb,0,none⟩) (vl C.A p) 5 1 (ak (mJ C.A p))]):=by
 refine uM λy hy=> ?_
 obtain⟨n1,n2,n3,_⟩:=L.toAt.aX K
 have nb:=fC K.toFix
 have f0:=K.toFix.pos
 have f1:=K.toFix.p1
 have hk:=I.k0
 have hf:=I.fits
 have hx:=I.exp
 have ht:=I.tch
 have off:=λ{o w:Nat} (h:o+w≤C.sz (C.cl p))=>L.toAt.off K h
 obtain⟨e1,e2⟩:=off (o:=44) (w:=1) (by omega)
 obtain⟨e3,e4⟩:=off (o:=48) (w:=4) (by omega)
 obtain⟨e5,e6⟩:=off (o:=56) (w:=kl C.A p) (by omega)
 obtain⟨e7,e8⟩:=off (o:=56+kl C.A p) (w:=vl C.A p) (by omega)
 obtain⟨g1,g2⟩:=off (o:=40) (w:=4) (by omega)
 obtain⟨g3,g4⟩:=off (o:=16) (w:=8) (by omega)
 obtain⟨g5,g6⟩:=off (o:=24) (w:=8) (by omega)
 obtain⟨g7,g8⟩:=off (o:=32) (w:=8) (by omega)
 obtain⟨j1,j2⟩:=off (o:=45) (w:=1) (by omega)
 obtain⟨j3,j4⟩:=off (o:=46) (w:=1) (by omega)
 have r1:rd C.A (p+40) 4<256^4:=mU _ _ _
 have r2:rd C.A (p+45) 1<256^1:=mU _ _ _
 have r3:rd C.A (p+46) 1<256^1:=mU _ _ _
 refine af func88 rfl ntmps88 rfl ?_
 intro F aq
 refine aA ?_
 refine Lp (oA T.bE λb1=> ?_)
 refine br ?_
 refine zl T.ng (kA b C y K hy p L) .nil (λ_ le _=>In.mono aq le) ?_
 unfold oe
 refine bq ?_
 refine Lp (oA T.gD λb2=> ?_)
 refine dh ?_
 refine zf 16 ?_ (e:=by rfl)
 refine aA ?_
 refine zl T.iA (fM y.a y.ab C.ao (C.n*C.ao) p (C.cl p) (C.sz (C.cl p)) C.A f0 e1 nb e2 f1) .nil (λ_ le _=>eV aq le) ?_
 refine bq ?_
 refine dm ?_
 refine bf ?_
 refine aw ?_
 refine ik 28 T.mix (.cons .here .nil) λF1 je bR aM=> ?_
 obtain⟨hb,_⟩:=bR
 have eG:=In.mono aq je
 refine bf ?_
 refine Tp (oC T.iA rfl rfl (fM y.a y.ab C.ao (C.n*C.ao) p (C.cl p) (C.sz (C.cl p)) C.A f0 e1 nb e2 f1) .nil (λ_ le _=>eV eG le) ?_)
 rintro v H' ⟨rfl,rfl⟩
 refine bd ?_
 refine Tp (oC T.Dr rfl rfl (vF y.a y.ab C.ao (C.n*C.ao) p 56 (C.cl p) (C.sz (C.cl p)) (kl C.A p) C.A f0 e5 nb e6 f1) .nil (λ_ le _=>eV eG le) ?_)
 rintro v H' ⟨kb,rfl,rfl⟩
 refine bd ?_
 refine bf ?_
 refine Tp (oC T.iA rfl rfl (fM y.a y.ab C.ao (C.n*C.ao) p (C.cl p) (C.sz (C.cl p)) C.A f0 e1 nb e2 f1) .nil (λ_ le _=>eV eG le) ?_)
 rintro v H' ⟨rfl,rfl⟩
 refine bd ?_
 refine aA ?_
 refine ay (t:=30) (v':=(.int .i64 ((56+kl C.A p:Nat):Int))) rfl (by rfl) ?_
 refine aA ?_
 refine Tp (oC T.MB rfl rfl (xU y.a y.ab C.ao (C.n*C.ao) p (C.cl p) (C.sz (C.cl p)) C.A f0 e3 nb e4 f1) .nil (λ_ le _=>eV eG le) ?_)
 rintro v H' ⟨rfl,rfl⟩
 refine bd ?_
 refine Tp (oC T.Dr rfl rfl (vF y.a y.ab C.ao (C.n*C.ao) p (56+kl C.A p) (C.cl p) (C.sz (C.cl p)) (vl C.A p) C.A f0 e7 nb e8 f1) .nil (λ_ le _=>eV eG le) ?_)
 rintro v H' ⟨vb,rfl,rfl⟩
 refine bd ?_
 refine aA ?_
 refine Tp (oC T.Dq rfl rfl (nE y.a y.ab C.ao (C.n*C.ao) p 40 (C.cl p) (C.sz (C.cl p)) C.A f0 g1 nb g2 f1) .nil (λ_ le _=>eV eG le) ?_)
 rintro v H' ⟨rfl,rfl⟩
 refine bd ?_
 refine Ti (Cv T.Km T.CS) ?_
 refine aA ?_
 refine Tp (oC T.yJ rfl rfl (kE y.a y.ab C.ao (C.n*C.ao) p 16 (C.cl p) (C.sz (C.cl p)) C.A f0 g3 nb g4 f1) .nil (λ_ le _=>eV eG le) ?_)
 rintro v H' ⟨rfl,rfl⟩
 refine bd ?_
 refine Ti (Cv T.Z4 T.EO) ?_
 refine aA ?_
 refine Tp (oC T.yJ rfl rfl (kE y.a y.ab C.ao (C.n*C.ao) p 24 (C.cl p) (C.sz (C.cl p)) C.A f0 g5 nb g6 f1) .nil (λ_ le _=>eV eG le) ?_)
 rintro v H' ⟨rfl,rfl⟩
 refine bd ?_
 refine Ti (Cv T.Z4 T.EO) ?_
 refine aA ?_
 refine Tp (oC T.yJ rfl rfl (kE y.a y.ab C.ao (C.n*C.ao) p 32 (C.cl p) (C.sz (C.cl p)) C.A f0 g7 nb g8 f1) .nil (λ_ le _=>eV eG le) ?_)
 rintro v H' ⟨rfl,rfl⟩
 refine bd ?_
 refine aA ?_
 refine Tp (oC T.yI rfl rfl (mm y.a y.ab C.ao (C.n*C.ao) p 45 (C.cl p) (C.sz (C.cl p)) C.A f0 j1 nb j2 f1) .nil (λ_ le _=>eV eG le) ?_)
 rintro v H' ⟨rfl,rfl⟩
 refine bd ?_
 refine Ti (Cv T.Z4 T.V8) ?_
 refine aA ?_
 refine Tp (oC T.yI rfl rfl (mm y.a y.ab C.ao (C.n*C.ao) p 46 (C.cl p) (C.sz (C.cl p)) C.A f0 j3 nb j4 f1) .nil (λ_ le _=>eV eG le) ?_)
 rintro v H' ⟨rfl,rfl⟩
 refine bd ?_
 refine Ti (Cv T.Z4 T.V8) ?_
 refine gO aM ?_
 refine aA ?_
 refine Tp (gM T.cZ ?_)
 refine bq ?_
 refine GY [own (some ⟨kb,0,none⟩) (kl C.A p) 5 1 (ak (iC C.A (p+56) (kl C.A p))),own (some ⟨vb,0,none⟩) (vl C.A p) 5 1 (ak (iC C.A (p+(56+kl C.A p)) (vl C.A p)))] T.cZ results88 ?_
 exact⟨kb,vb,rfl,by unfold aE mJ;rw[aeb p 56]⟩
theorem A6 (b:Nat)(C:Cs)(K:Ok C)(p:Nat)(L:Live C p)(I:gC C p)(a:Option Addr)(m c:Nat)(l:List UInt8)(hm:m=l.length)(hl:l.length<281474976710656):
  aF aaa 85 [.pointer (some ⟨b,0,none⟩), .int .u64 (C.hd p:Int), .slice a m c] (λh=>In (Cl b C) h∧eB h a (ak l)) []
   (λv H=>v= .bool (decide (aE C.A p=l))∧H= []):=by
 suffices h:∀y,gf C y→aF aaa 85 [.pointer (some ⟨b,0,none⟩), .int .u64 (C.hd p:Int), .slice a m c] (λh=>In (CL b C y) h∧eB h a (ak l)) []
   (λv H=>v= .bool (decide (aE C.A p=l))∧H= [])from λF w hp s=>by
  obtain⟨⟨k,⟨y,hy,q⟩,le⟩,r⟩:=hp
  exact h y hy F w ⟨⟨k,q,le⟩,r⟩ s
 intro y hy
 obtain⟨n1,n2,n3,_⟩:=L.toAt.aX K
 have nb:=fC K.toFix
 have f0:=K.toFix.pos
 have f1:=K.toFix.p1
 have hk:=I.k0
 have hf:=I.fits
 have off:=λ{o w:Nat} (h:o+w≤C.sz (C.cl p))=>L.toAt.off K h
 obtain⟨e1,e2⟩:=off (o:=44) (w:=1) (by omega)
 obtain⟨e5,e6⟩:=off (o:=56) (w:=kl C.A p) (by omega)
 refine af func85 rfl ntmps85 rfl ?_
 rintro F ⟨aq,hr⟩
 refine bD ?_
 refine zl T.ng (kA b C y K hy p L) .nil (λ_ le _=>In.mono aq le) ?_
 unfold oe
 refine bq ?_
 refine Lp (oA T.gD λb1=> ?_)
 refine bq ?_
 refine aw ?_
 refine ik 15 T.mix (.cons .here .nil) λF1 je bR aM=> ?_
 obtain⟨hb,_⟩:=bR
 have eG:=In.mono aq je
 have Us:=eB.mono hr je
 refine bq ?_
 refine zt 17 ?_ (e:=by rfl)
 refine aA ?_
 refine Tp (oC T.iA rfl rfl (fM y.a y.ab C.ao (C.n*C.ao) p (C.cl p) (C.sz (C.cl p)) C.A f0 e1 nb e2 f1) .nil (λ_ le _=>eV eG le) ?_)
 rintro v H' ⟨rfl,rfl⟩
 refine bd ?_
 refine bf ?_
 refine ay (t:=21) (v':=(.bool true)) rfl (by rw[decide_eq_true (by omega)]) ?_
 refine aA ?_
 refine zt 22 ?_ (e:=by rfl)
 refine bf ?_
 refine Tp (oC T.iA rfl rfl (fM y.a y.ab C.ao (C.n*C.ao) p (C.cl p) (C.sz (C.cl p)) C.A f0 e1 nb e2 f1) .nil (λ_ le _=>eV eG le) ?_)
 rintro v H' ⟨rfl,rfl⟩
 refine bd ?_
 refine Tp (oC T.Dr rfl rfl (vF y.a y.ab C.ao (C.n*C.ao) p 56 (C.cl p) (C.sz (C.cl p)) (kl C.A p) C.A f0 e5 nb e6 f1) .nil (λ_ le _=>eV eG le) ?_)
 rintro v H' ⟨kb,rfl,rfl⟩
 refine bd ?_
 refine aA ?_
 refine Tp (oC T.YR rfl rfl (JJ (some ⟨kb,0,none⟩) a (kl C.A p) c (kl C.A p) m (aE C.A p) l (by unfold aE;rw[cK]) hm (by unfold aE;rw[cK];omega) (by omega)) .nil (λ_ le aq=>⟨bB aq.1,Us.mono le⟩) ?_)
 rintro v H' ⟨rfl,rfl⟩
 refine bd ?_
 refine aA ?_
 refine gO aM ?_
 refine bq ?_
 refine Rt [] results85 ?_
 exact⟨rfl,rfl⟩
def crlf:List UInt8:= [13,10]
def dU (A:By)(p:Nat)(v:List UInt8):By:=
 lay (lay (wr A (p+48) 4 v.length) (p+56+kl A p) v) (p+56+kl A p+v.length) crlf
theorem ab9 (A:By)(p w v:Nat):kl (wr A (p+48) w v) p=kl A p:=aJ A _ w v _ _ (.inl (by omega))
theorem Gr (a ab ao n p c s m cc:Nat)(sa:Option Addr)(l:List UInt8)(A:By)(hm:m=l.length)(hl:l.length<4294967296)(h0:0<ao)(h2:n≤1073741824)(h4:ao≤1048576)
  (off:∀o w,o+w≤s→p+o+w≤n∧(p+o) % ao+w≤ao) (hs:58+kl A p+l.length≤s):
  aF aaa 176 [.agg (oe a p c s).toArray, .slice sa m cc] (λh=>In (ag a 192 (gG ab ao n)) h∧eB h sa (ak l)) [ag ab 5 (di A n)]
   (λu H=>u= .tuple #[]∧H= [ag ab 5 (di (dU A p l) n)]):=by
 obtain⟨e1,e2⟩:=off 44 1 (by omega)
 obtain⟨e3,e4⟩:=off 48 4 (by omega)
 obtain⟨e5,e6⟩:=off (56+kl A p) l.length (by omega)
 obtain⟨e7,e8⟩:=off (56+kl A p+l.length) 2 (by omega)
 subst hm
 have hkw:=ab9 A p 4 l.length
 unfold oe
 refine af func176 rfl ntmps176 rfl ?_
 rintro F ⟨ha,hr⟩
 refine aA ?_
 refine Lp (oB λb1=> ?_)
 refine bD ?_
 refine zl T.uQ (iT a ab ao n p 48 c s l.length A (by omega) h0 e3 h2 e4 h4) (.cons (.there .here) .nil) (λ_ le _=>ha.mono le) ?_
 refine bq ?_
 refine zl T.iA (fM a ab ao n p c s (wr A (p+48) 4 l.length) h0 e1 h2 e2 h4) .nil (λ_ le aq=>⟨ha.mono le,aq.1⟩) ?_
 rw[hkw]
 refine aW ?_
 refine ay (t:=15) (v':=(.int .i64 ((56+kl A p+l.length:Nat):Int))) rfl (by rfl) ?_
 refine eC ?_
 refine ay (t:=24) (v':=(.int .i64 ((p+(56+kl A p):Nat):Int))) rfl (by(congr 1;omega)) ?_
 refine aA ?_
 refine zl T.Dd (nC a ab ao n (p+(56+kl A p)) l.length cc (wr A (p+48) 4 l.length) sa l rfl h0 e5 h2 e6 h4) (.cons .here .nil) (λ_ le _=>⟨ha.mono le,hr.mono le⟩) ?_
 refine dh ?_
 refine ay (t:=32) (v':=(.int .i64 ((p+(56+kl A p+l.length):Nat):Int))) rfl (by rfl) ?_
 refine Lp (oT T.iL λb2=> ?_)
 refine Lp (oMk T.j6 T.oI ?_)
 refine zl T.Dd (nC a ab ao n (p+(56+kl A p+l.length)) 2 2 (lay (wr A (p+48) 4 l.length) (p+(56+kl A p)) l) (some ⟨b2,0,none⟩) crlf rfl h0 e7 h2 e8 h4) (.cons (.there .here) .nil) (λ_ le aq=>⟨ha.mono le,by obtain⟨⟨k,q,l⟩,_⟩:=aq;exact(nI (i:=0) q).mono l⟩) ?_
 refine aG ?_
 rw[show lay (lay (wr A (p+48) 4 l.length) (p+(56+kl A p)) l) (p+(56+kl A p+l.length)) crlf=dU A p l by unfold dU;rw[aeb p,aeb p]]
 refine jA [ag ab 5 (di (dU A p l) n)] results176 ?_
 exact⟨rfl,rfl⟩
theorem HU (b:Nat)(C:Cs)(K:Ok C)(p:Nat)(L:Live C p)(hk:kl C.A p≠0)(a:Option Addr)(m c:Nat)(l:List UInt8)(hm:m=l.length)(hf:58+kl C.A p+l.length≤C.sz (C.cl p)):
  aF aaa 114 [.pointer (some ⟨b,0,none⟩), .int .u64 (C.hd p:Int), .slice a m c] (λh=>eB h a (ak l)) [Cl b C]
   (λv H=>v= .int .i64 0∧H= [Cl b (C.wA (dU C.A p l))]):=by
 refine nw λy hy=> ?_
 obtain⟨n1,n2,n3,_⟩:=L.toAt.aX K
 have nb:=fC K.toFix
 have f0:=K.toFix.pos
 have f1:=K.toFix.p1
 have off:=λ(o w:Nat) (h:o+w≤C.sz (C.cl p))=>L.toAt.off K h
 obtain⟨e1,e2⟩:=off 44 1 (by omega)
 refine af func114 rfl ntmps114 rfl ?_
 intro F hr
 refine bD ?_
 refine zl T.yE (tM b C y K hy p L hk) .nil (λ_ le aq=>aq.1) ?_
 unfold oe
 refine bq ?_
 refine Lp (oA T.gD λb1=> ?_)
 refine aW ?_
 refine aw ?_
 refine ik 12 T.mix (.cons .here (.cons .here .nil)) λF1 je bR aM=> ?_
 obtain⟨hb,fx,_⟩:=bR
 have Us:=eB.mono hr je
 refine bq ?_
 refine zt 17 ?_ (e:=by rfl)
 refine bD ?_
 refine Tp (oC T.iA rfl rfl (fM y.a y.ab C.ao (C.n*C.ao) p (C.cl p) (C.sz (C.cl p)) C.A f0 e1 nb e2 f1) .nil (λ_ le aq=>eV fx le) ?_)
 rintro v H' ⟨rfl,rfl⟩
 refine bd ?_
 refine bf ?_
 refine gO aM ?_
 refine ay (t:=26) (v':=(.bool false)) rfl (by(rw[hm];rw[decide_eq_false (by omega)])) ?_
 refine fK ?_
 refine Hh (H':= [CL b C y,ag b1 228 [.pointer (some ⟨y.a,0,none⟩), .int .i64 (p:Int), .int .i64 (C.cl p:Int), .int .i64 (C.sz (C.cl p):Int)]]) ?_
 refine Ak ?_
 refine zl T.Mq (Gr y.a y.ab C.ao (C.n*C.ao) p (C.cl p) (C.sz (C.cl p)) m c a l C.A hm (by omega) f0 nb f1 off hf) (.cons .here .nil) (λ_ le aq=>⟨aq.1,hr.mono le⟩) ?_
 refine az (λ_ s=>lJ hy s) ?_
 refine bD ?_
 refine Rt [Cl b (C.wA (dU C.A p l))] results114 ?_
 exact⟨rfl,rfl⟩
def oP (A:By)(p k:Nat):By:=(List.range k).foldl (λA i=>wr A (p+4*i) 4 0) A
def EG (A:By)(p c kn fl exp tch tok st mk:Nat):By:=
 wr (wr (wr (wr (wr (wr (wr (wr (wr (oP A p 3) (p+16) 8 exp) (p+24) 8 tch) (p+32) 8 tok) (p+40) 4 fl) (p+44) 1 kn) (p+45) 1 st) (p+46) 1 mk) (p+47) 1 c) (p+52) 4 0
def j7 (A:By)(p c:Nat)(k v:List UInt8)(fl exp tch tok st mk:Nat):By:=
 dU (lay (EG A p c k.length fl exp tch tok st mk) (p+56) k) p v
theorem qA (A:By)(p k:Nat):oP A p (k+1)=wr (oP A p k) (p+4*k) 4 0:=by unfold oP;rw[List.range_succ,List.foldl_append];rfl
theorem C6 (A:By)(p c kn fl exp tch tok st mk:Nat)(k:List UInt8)(h:kn<256):kl (lay (EG A p c kn fl exp tch tok st mk) (p+56) k) p=kn:=by
 unfold kl EG
 rw[dM _ _ _ _ _ (.inl (by omega)),aJ _ _ _ _ _ _ (.inl (by omega)),aJ _ _ _ _ _ _ (.inl (by omega)),aJ _ _ _ _ _ _ (.inl (by omega)),aJ _ _ _ _ _ _ (.inl (by omega)),cG]
 exact aaH (by rw[Nat.pow_one];exact h)
theorem fQ{l:List UInt8}(h:dV l=true):1≤l.length∧l.length≤250:=by
 unfold dV at h
 rw[Bool.and_eq_true,decide_eq_true_iff]at h
 exact h.1
theorem TB (b:Nat)(C:Cs)(K:Ok C)(p:Nat)(L:Live C p)(ka va:Option Addr)(kc vc km vm:Nat)(k v:List UInt8)(hkm:km=k.length)(hvm:vm=v.length)(fl exp tch tok st mk:Nat)
  (hl:dV k=true) (hf:58+k.length+v.length≤C.sz (C.cl p)) (h1:fl<4294967296) (h2:exp<9223372036854775808) (h3:tch<9223372036854775808) (h4:tok<18446744073709551616) (h5:1≤st∧st≤4) (h6:mk<16):
  aF aaa 160 [.pointer (some ⟨b,0,none⟩), .int .u64 (C.hd p:Int), .agg (Ca (.slice ka km kc) (.slice va vm vc) fl exp tch tok st mk).toArray] (λh=>eB h ka (ak k)∧eB h va (ak v)) [Cl b C]
   (λu H=>u= .int .i64 0∧H= [Cl b (C.wA (j7 C.A p (C.cl p) k v fl exp tch tok st mk))]):=by
 refine nw λy hy=> ?_
 obtain⟨n0,n1,n2,n3,_⟩:=L.toAt.aX K
 have nb:=fC K.toFix
 have f0:=K.toFix.pos
 have f1:=K.toFix.p1
 have f2:=K.toFix.l1
 obtain⟨l1,l2⟩:=fQ hl
 have off:=λ(o w:Nat) (h:o+w≤C.sz (C.cl p))=>L.toAt.off K h
 have kV:=λ(o w:Nat) (h:o+w≤64)=>L.toAt.off K (o:=o) (w:=w) (by omega)
 subst hkm
 subst hvm
 have pO:=λX=>C6 X p (C.cl p) k.length fl exp tch tok st mk k (by omega)
 unfold Ca
 refine af func160 rfl ntmps160 rfl ?_
 rintro F ⟨Cj,Us⟩
 refine aA ?_
 refine Lp (oB λb1=> ?_)
 refine br ?_
 refine zl T.ng (kA b C y K hy p L) .nil (λ_ le aq=>aq.2.1) ?_
 unfold oe
 refine bq ?_
 refine Lp (oA T.gD λb2=> ?_)
 refine fK ?_
 refine zl T.Vp (AX ka kc k.length k rfl (by omega)) .nil (λ_ le _=>Cj.mono le) ?_
 rw[hl]
 refine x7 ?_
 refine dm ?_
 refine br ?_
 refine zf 41 ?_
 refine br ?_
 refine zf 46 ?_
 refine bf ?_
 refine zl T.Mc (AS (mk:Int)) .nil (λ_ _ _=>trivial) ?_
 refine aA ?_
 refine ay (t:=50) (v':=(.bool false)) rfl (by(rw[decide_eq_true (by omega)];rfl)) ?_
 refine bf ?_
 refine zf 52 ?_ (e:=by rfl)
 refine br ?_
 refine zf 57 ?_
 refine br ?_
 refine zf 62 ?_
 refine aW ?_
 refine ay (t:=66) (v':=(.bool false)) rfl (by(rw[decide_eq_false (by omega)])) ?_
 refine bI ?_
 refine az (H':= [CL b C y,ag b2 228 [.pointer (some ⟨y.a,0,none⟩), .int .i64 (p:Int), .int .i64 (C.cl p:Int), .int .i64 (C.sz (C.cl p):Int)],ag b1 170 [.slice ka k.length kc, .slice va v.length vc, .int .u64 (fl:Int), .int .i64 (exp:Int), .int .i64 (tch:Int), .int .u64 (tok:Int), .int .i64 (st:Int), .int .i64 (mk:Int)]]) (by exact Eh) ?_
 refine Ak ?_
 refine az (H':= [ag y.ab 5 (di (oP C.A p 0) (C.n*C.ao)),ag y.a 192 (gG y.ab C.ao (C.n*C.ao)),clR b C y,ag b2 228 [.pointer (some ⟨y.a,0,none⟩), .int .i64 (p:Int), .int .i64 (C.cl p:Int), .int .i64 (C.sz (C.cl p):Int)],ag b1 170 [.slice ka k.length kc, .slice va v.length vc, .int .u64 (fl:Int), .int .i64 (exp:Int), .int .i64 (tch:Int), .int .u64 (tok:Int), .int .i64 (st:Int), .int .i64 (mk:Int)]]) (λ_ s=>s) ?_
 refine Lo (ι:=Nat) [68,69,9,70,71,72,73,74,75,67] (λi=>i≤3) (λi=> [(67, .int .i64 (i:Int))]) (λi=> [ag y.ab 5 (di (oP C.A p i) (C.n*C.ao)),ag y.a 192 (gG y.ab C.ao (C.n*C.ao)),clR b C y,ag b2 228 [.pointer (some ⟨y.a,0,none⟩), .int .i64 (p:Int), .int .i64 (C.cl p:Int), .int .i64 (C.sz (C.cl p):Int)],ag b1 170 [.slice ka k.length kc, .slice va v.length vc, .int .u64 (fl:Int), .int .i64 (exp:Int), .int .i64 (tch:Int), .int .u64 (tok:Int), .int .i64 (st:Int), .int .i64 (mk:Int)]]) (λi=>3-i) (0) (by simp) ?_
 rintro i hI
 refine bq ?_
 refine aw ?_
 refine ax rfl ?_ ?_
 ·intro hi
  replace hi:=aL hi
  refine eC ?_
  refine ay (t:=72) (v':=(.int .i64 ((4*i:Nat):Int))) rfl (by rfl) ?_
  refine aA ?_
  refine ay (t:=73) (v':=(.int .i64 ((4*i:Nat):Int))) rfl (by rw[ae5]) ?_
  refine zl T.uQ (iT y.a y.ab C.ao (C.n*C.ao) p (4*i) (C.cl p) (C.sz (C.cl p)) 0 (oP C.A p i) (by decide) f0 (kV (4*i) 4 (by omega)).1 nb (kV (4*i) 4 (by omega)).2 f1) (.cons .here .nil) (λ_ le aq=>aq.1) ?_
  rw[←qA]
  refine bD ?_
  refine aG ?_
  refine Ro (i+1) (by omega) (by omega)
 intro hi
 replace hi:=aL hi
 obtain rfl:i=3:=by omega
 refine bA ?_
 refine zl T.yC (kD y.a y.ab C.ao (C.n*C.ao) p 16 (C.cl p) (C.sz (C.cl p)) exp (oP C.A p 3) (ad8 h2 (by decide)) f0 (kV 16 8 (by omega)).1 nb (kV 16 8 (by omega)).2 f1) (.cons .here .nil) (λ_ le aq=>aq.1) ?_
 refine bD ?_
 refine zl T.yC (kD y.a y.ab C.ao (C.n*C.ao) p 24 (C.cl p) (C.sz (C.cl p)) tch (wr (oP C.A p 3) (p+16) 8 exp) (ad8 h3 (by decide)) f0 (kV 24 8 (by omega)).1 nb (kV 24 8 (by omega)).2 f1) (.cons .here .nil) (λ_ le aq=>aq.1) ?_
 refine br ?_
 refine zl T.yC (kD y.a y.ab C.ao (C.n*C.ao) p 32 (C.cl p) (C.sz (C.cl p)) tok (wr (wr (oP C.A p 3) (p+16) 8 exp) (p+24) 8 tch) (adG h4 (by decide)) f0 (kV 32 8 (by omega)).1 nb (kV 32 8 (by omega)).2 f1) (.cons .here .nil) (λ_ le aq=>aq.1) ?_
 refine bD ?_
 refine zl T.uQ (iT y.a y.ab C.ao (C.n*C.ao) p 40 (C.cl p) (C.sz (C.cl p)) fl (wr (wr (wr (oP C.A p 3) (p+16) 8 exp) (p+24) 8 tch) (p+32) 8 tok) (adG h1 (by decide)) f0 (kV 40 4 (by omega)).1 nb (kV 40 4 (by omega)).2 f1) (.cons .here .nil) (λ_ le aq=>aq.1) ?_
 refine bL ?_
 refine zl T.uP (jX y.a y.ab C.ao (C.n*C.ao) p 44 (C.cl p) (C.sz (C.cl p)) k.length (wr (wr (wr (wr (oP C.A p 3) (p+16) 8 exp) (p+24) 8 tch) (p+32) 8 tok) (p+40) 4 fl) (adC l2 (by decide)) f0 (kV 44 1 (by omega)).1 nb (kV 44 1 (by omega)).2 f1) (.cons .here .nil) (λ_ le aq=>aq.1) ?_
 refine bD ?_
 refine zl T.uP (jX y.a y.ab C.ao (C.n*C.ao) p 45 (C.cl p) (C.sz (C.cl p)) st (wr (wr (wr (wr (wr (oP C.A p 3) (p+16) 8 exp) (p+24) 8 tch) (p+32) 8 tok) (p+40) 4 fl) (p+44) 1 k.length) (adC h5.2 (by decide)) f0 (kV 45 1 (by omega)).1 nb (kV 45 1 (by omega)).2 f1) (.cons .here .nil) (λ_ le aq=>aq.1) ?_
 refine bD ?_
 refine zl T.uP (jX y.a y.ab C.ao (C.n*C.ao) p 46 (C.cl p) (C.sz (C.cl p)) mk (wr (wr (wr (wr (wr (wr (oP C.A p 3) (p+16) 8 exp) (p+24) 8 tch) (p+32) 8 tok) (p+40) 4 fl) (p+44) 1 k.length) (p+45) 1 st) (ad8 h6 (by decide)) f0 (kV 46 1 (by omega)).1 nb (kV 46 1 (by omega)).2 f1) (.cons .here .nil) (λ_ le aq=>aq.1) ?_
 refine bD ?_
 refine zl T.uP (jX y.a y.ab C.ao (C.n*C.ao) p 47 (C.cl p) (C.sz (C.cl p)) (C.cl p) (wr (wr (wr (wr (wr (wr (wr (oP C.A p 3) (p+16) 8 exp) (p+24) 8 tch) (p+32) 8 tok) (p+40) 4 fl) (p+44) 1 k.length) (p+45) 1 st) (p+46) 1 mk) (adG n0 (Nat.le_trans f2 (by decide))) f0 (kV 47 1 (by omega)).1 nb (kV 47 1 (by omega)).2 f1) (.cons .here .nil) (λ_ le aq=>aq.1) ?_
 refine bq ?_
 refine zl T.uQ (iT y.a y.ab C.ao (C.n*C.ao) p 52 (C.cl p) (C.sz (C.cl p)) 0 (wr (wr (wr (wr (wr (wr (wr (wr (oP C.A p 3) (p+16) 8 exp) (p+24) 8 tch) (p+32) 8 tok) (p+40) 4 fl) (p+44) 1 k.length) (p+45) 1 st) (p+46) 1 mk) (p+47) 1 (C.cl p)) (by decide) f0 (kV 52 4 (by omega)).1 nb (kV 52 4 (by omega)).2 f1) (.cons .here .nil) (λ_ le aq=>aq.1) ?_
 refine dg ?_
 rw[show wr (wr (wr (wr (wr (wr (wr (wr (wr (oP C.A p 3) (p+16) 8 exp) (p+24) 8 tch) (p+32) 8 tok) (p+40) 4 fl) (p+44) 1 k.length) (p+45) 1 st) (p+46) 1 mk) (p+47) 1 (C.cl p)) (p+52) 4 0=EG C.A p (C.cl p) k.length fl exp tch tok st mk from rfl]
 generalize hX:EG C.A p (C.cl p) k.length fl exp tch tok st mk=X
 refine zl T.Dd (nC y.a y.ab C.ao (C.n*C.ao) (p+56) k.length kc X ka k rfl f0 (off 56 k.length (by omega)).1 nb (off 56 k.length (by omega)).2 f1) (.cons .here .nil) (λ_ le aq=>⟨aq.1,Cj.mono le⟩) ?_
 have hY:kl (lay X (p+56) k) p=k.length:=by rw[←hX];exact pO _
 have eY:dU (lay X (p+56) k) p v=j7 C.A p (C.cl p) k v fl exp tch tok st mk:=by rw[←hX];rfl
 generalize lay X (p+56) k=Y at hY eY⊢
 refine br ?_
 refine zl T.Mq (Gr y.a y.ab C.ao (C.n*C.ao) p (C.cl p) (C.sz (C.cl p)) v.length vc va v Y rfl (by omega) f0 nb f1 off (by rw[hY];exact hf)) (.cons .here .nil) (λ_ le aq=>⟨aq.1,Us.mono le⟩) ?_
 rw[eY]
 refine az (λ_ s=>lJ hy s) ?_
 refine br ?_
 refine Rt [Cl b (C.wA (j7 C.A p (C.cl p) k v fl exp tch tok st mk))] results160 ?_
 exact⟨rfl,rfl⟩
end Go.Proofs.YtdolmecackmjdaaGreatDoor
