/- Part Pf of the proof. -/
import Derived.Test.YtdolmecackmjdaaGreatDoorPd
import Derived.Test.YtdolmecackmjdaaGreatDoorPe
set_option maxRecDepth 100000
open Nat renaming add_assoc → agV, mod_eq_of_lt → ac9, lt_trans → agS, lt_of_lt_of_le → adH, lt_of_le_of_lt → adC
open Int renaming zero_add → ahT
open Go.Proofs.Tryz renaming prog → acw
open Go.Proofs.Tryz
namespace Go.Proofs.YtdolmecackmjdaaGreatDoor
open Go Go.dL Go.Proofs.YtdolmecackmjdaaGreatDoor.Cs
def qf (a p c s:Nat):List Value:= [.pointer (some ⟨a,0,none⟩), .int .i64 (p:Int), .int .i64 (c:Int), .int .i64 (s:Int)]
def kl (A:By)(p:Nat):Nat:=rd A (p+44) 1
def vl (A:By)(p:Nat):Nat:=rd A (p+48) 4
theorem Cs.At.off{C:Cs}(K:Ok C){p:Nat}(L:At C p){o w:Nat}(h:o+w≤C.sz (C.cl p)):p+o+w≤C.n*C.aq∧(p+o) % C.aq+w≤C.aq:=by
 obtain⟨_,n2,n3,_,_,n6,n7,n8⟩:=L.bo K;refine⟨by omega, ?_⟩;have I9:=K.toFix.pos;have e:(p+o) % C.aq=(C.ix p*C.sz (C.cl p)+o) % C.aq:=by
  rw[n6,agV,Nat.add_comm,Nat.add_mul_mod_self_right];rw[←n6]
 rw[e];by_cases hw:C.ix p*C.sz (C.cl p)+o<C.aq
 ·rw[ac9 hw];omega
 have:C.ix p*C.sz (C.cl p)+o=C.aq:=by omega
 rw[this,Nat.mod_self];omega
theorem nN (a ab aq n p o c s:Nat)(A:By)(h0:0<aq)(h1:p+o+1≤n)(h2:n≤1073741824)(h3:(p+o) % aq+1≤aq)(h4:aq≤1048576):
  aH acw 141 [.agg (qf a p c s).toArray, .int .i64 (o:Int)] (λh=>In (ag a 192 (iq ab aq n)) h∧In (ag ab 5 (dT A n)) h) []
   (λv H=>v= .int .u8 ((rd A (p+o) 1:Nat):Int)∧H= []):=by
 unfold qf;refine ae func141 rfl ntmps141 rfl ?_;rintro F ⟨ha,hb⟩;refine ay ?_;refine Lp (oB λb1=> ?_);refine cN ?_;refine zl T.aa9 (Ka a ab aq n (p+o) A h0 h1 h2 h3 h4) .nil (λ_ le _=>⟨ha.mono le,hb.mono le⟩) ?_;refine bK ?_;refine Rt [] results141 ?_;exact⟨rfl,rfl⟩
theorem kZ (a ab aq n p o c s v:Nat)(A:By)(hv:v<256^1)(h0:0<aq)(h1:p+o+1≤n)(h2:n≤1073741824)(h3:(p+o) % aq+1≤aq)(h4:aq≤1048576):
  aH acw 221 [.agg (qf a p c s).toArray, .int .i64 (o:Int), .int .u8 (v:Int)] (In (ag a 192 (iq ab aq n))) [ag ab 5 (dT A n)]
   (λu H=>u= .tuple #[]∧H= [ag ab 5 (dT (wr A (p+o) 1 v) n)]):=by
 unfold qf;refine ae func221 rfl ntmps221 rfl ?_;rintro F ha;refine ay ?_;refine Lp (oB λb1=> ?_);refine cN ?_;refine zl T.aaY (JS a ab aq n (p+o) v A hv h0 h1 h2 h3 h4) (.cons (.there .here) .nil) (λ_ le _=>ha.mono le) ?_;refine az ?_;refine jM [ag ab 5 (dT (wr A (p+o) 1 v) n)] results221 ?_;exact⟨rfl,rfl⟩
theorem py (a ab aq n p o c s:Nat)(A:By)(h0:0<aq)(h1:p+o+4≤n)(h2:n≤1073741824)(h3:(p+o) % aq+4≤aq)(h4:aq≤1048576):
  aH acw 139 [.agg (qf a p c s).toArray, .int .i64 (o:Int)] (λh=>In (ag a 192 (iq ab aq n)) h∧In (ag ab 5 (dT A n)) h) []
   (λv H=>v= .int .u32 ((rd A (p+o) 4:Nat):Int)∧H= []):=by
 unfold qf;refine ae func139 rfl ntmps139 rfl ?_;rintro F ⟨ha,hb⟩;refine ay ?_;refine Lp (oB λb1=> ?_);refine cN ?_;refine zl T.abb (Gm a ab aq n (p+o) A h0 h1 h2 h3 h4) .nil (λ_ le _=>⟨ha.mono le,hb.mono le⟩) ?_;refine bK ?_;refine Rt [] results139 ?_;exact⟨rfl,rfl⟩
theorem jL (a ab aq n p o c s v:Nat)(A:By)(hv:v<256^4)(h0:0<aq)(h1:p+o+4≤n)(h2:n≤1073741824)(h3:(p+o) % aq+4≤aq)(h4:aq≤1048576):
  aH acw 219 [.agg (qf a p c s).toArray, .int .i64 (o:Int), .int .u32 (v:Int)] (In (ag a 192 (iq ab aq n))) [ag ab 5 (dT A n)]
   (λu H=>u= .tuple #[]∧H= [ag ab 5 (dT (wr A (p+o) 4 v) n)]):=by
 unfold qf;refine ae func219 rfl ntmps219 rfl ?_;rintro F ha;refine ay ?_;refine Lp (oB λb1=> ?_);refine cN ?_;refine zl T.O9 (xW a ab aq n (p+o) v A hv h0 h1 h2 h3 h4) (.cons (.there .here) .nil) (λ_ le _=>ha.mono le) ?_;refine az ?_;refine jM [ag ab 5 (dT (wr A (p+o) 4 v) n)] results219 ?_;exact⟨rfl,rfl⟩
theorem lN (a ab aq n p o c s:Nat)(A:By)(h0:0<aq)(h1:p+o+8≤n)(h2:n≤1073741824)(h3:(p+o) % aq+8≤aq)(h4:aq≤1048576):
  aH acw 140 [.agg (qf a p c s).toArray, .int .i64 (o:Int)] (λh=>In (ag a 192 (iq ab aq n)) h∧In (ag ab 5 (dT A n)) h) []
   (λv H=>v= .int .u64 ((rd A (p+o) 8:Nat):Int)∧H= []):=by
 unfold qf;refine ae func140 rfl ntmps140 rfl ?_;rintro F ⟨ha,hb⟩;refine ay ?_;refine Lp (oB λb1=> ?_);refine cN ?_;refine zl T.aba (Gl a ab aq n (p+o) A h0 h1 h2 h3 h4) .nil (λ_ le _=>⟨ha.mono le,hb.mono le⟩) ?_;refine bK ?_;refine Rt [] results140 ?_;exact⟨rfl,rfl⟩
theorem lM (a ab aq n p o c s v:Nat)(A:By)(hv:v<256^8)(h0:0<aq)(h1:p+o+8≤n)(h2:n≤1073741824)(h3:(p+o) % aq+8≤aq)(h4:aq≤1048576):
  aH acw 220 [.agg (qf a p c s).toArray, .int .i64 (o:Int), .int .u64 (v:Int)] (In (ag a 192 (iq ab aq n))) [ag ab 5 (dT A n)]
   (λu H=>u= .tuple #[]∧H= [ag ab 5 (dT (wr A (p+o) 8 v) n)]):=by
 unfold qf;refine ae func220 rfl ntmps220 rfl ?_;rintro F ha;refine ay ?_;refine Lp (oB λb1=> ?_);refine cN ?_;refine zl T.aaZ (Gc a ab aq n (p+o) v A hv h0 h1 h2 h3 h4) (.cons (.there .here) .nil) (λ_ le _=>ha.mono le) ?_;refine az ?_;refine jM [ag ab 5 (dT (wr A (p+o) 8 v) n)] results220 ?_;exact⟨rfl,rfl⟩
theorem gx (a ab aq n p c s:Nat)(A:By)(h0:0<aq)(h1:p+44+1≤n)(h2:n≤1073741824)(h3:(p+44) % aq+1≤aq)(h4:aq≤1048576):
  aH acw 130 [.agg (qf a p c s).toArray] (λh=>In (ag a 192 (iq ab aq n)) h∧In (ag ab 5 (dT A n)) h) []
   (λv H=>v= .int .i64 ((kl A p:Nat):Int)∧H= []):=by
 have hl:rd A (p+44) 1<256^1:=oO _ _ _;unfold kl;refine ae func130 rfl ntmps130 rfl ?_;rintro F ⟨ha,hb⟩;refine ay ?_;refine Lp (oB λb1=> ?_);refine aR ?_;refine zl T.AI (nN a ab aq n p 44 c s A h0 h1 h2 h3 h4) .nil (λ_ le _=>⟨ha.mono le,hb.mono le⟩) ?_;refine aR ?_;refine Rt [] results130 ?_;exact⟨rfl,rfl⟩
theorem zM (a ab aq n p c s:Nat)(A:By)(h0:0<aq)(h1:p+48+4≤n)(h2:n≤1073741824)(h3:(p+48) % aq+4≤aq)(h4:aq≤1048576):
  aH acw 138 [.agg (qf a p c s).toArray] (λh=>In (ag a 192 (iq ab aq n)) h∧In (ag ab 5 (dT A n)) h) []
   (λv H=>v= .int .i64 ((vl A p:Nat):Int)∧H= []):=by
 have hl:rd A (p+48) 4<256^4:=oO _ _ _;unfold vl;refine ae func138 rfl ntmps138 rfl ?_;rintro F ⟨ha,hb⟩;refine ay ?_;refine Lp (oB λb1=> ?_);refine aR ?_;refine zl T.Fo (py a ab aq n p 48 c s A h0 h1 h2 h3 h4) .nil (λ_ le _=>⟨ha.mono le,hb.mono le⟩) ?_;refine aR ?_;refine Rt [] results138 ?_;exact⟨rfl,rfl⟩
theorem xA (a ab aq n p o c s m:Nat)(A:By)(h0:0<aq)(h1:p+o+m≤n)(h2:n≤1073741824)(h3:(p+o) % aq+m≤aq)(h4:aq≤1048576):
  aH acw 132 [.agg (qf a p c s).toArray, .int .i64 (o:Int), .int .i64 (m:Int)] (λh=>In (ag a 192 (iq ab aq n)) h∧In (ag ab 5 (dT A n)) h) []
   (λv H=>∃b,v= .slice (some ⟨b,0,none⟩) m m∧H= [own (some ⟨b,0,none⟩) m 5 1 (ai (jt A (p+o) m))]):=by
 unfold qf;refine ae func132 rfl ntmps132 rfl ?_;rintro F ⟨ha,hb⟩;refine ay ?_;refine Lp (oB λb1=> ?_);refine bw ?_;refine Lp (oC T.abc rfl rfl (Ga a ab aq n (p+o) m A h0 h1 h2 h3 h4) .nil (λ_ le _=>⟨ha.mono le,hb.mono le⟩) ?_);rintro v H' ⟨b,rfl,rfl⟩;refine bd ?_;refine bK ?_;refine Rt [own (some ⟨b,0,none⟩) m 5 1 (ai (jt A (p+o) m))] results132 ?_;exact⟨_,rfl,rfl⟩
abbrev CL (b:Nat)(C:Cs)(y:Lc):aa:=aN (qC b C y)
theorem wJ{P:Program}{f:FuncId}{args:List Value}{H:List aa}{R:Value→List aa→Prop}{b:Nat}{C:Cs}(h:∀y,gL C y→aH P f args (In (CL b C y)) H R):aH P f args (In (Cl b C)) H R:=λF w hp s=>by
 obtain⟨k,⟨y,hy,p⟩,l⟩:=hp;exact h y hy F w ⟨k,p,l⟩ s
theorem Hf{b:Nat}{C:Cs}{y:Lc}{h k:Hp}(hy:gL C y)(i:In (CL b C y) h)(l:Le h k):In (Cl b C) k:=by
 obtain⟨m,p,q⟩:=i;exact⟨m,⟨y,hy,p⟩,q.trans l⟩
theorem fC{b:Nat}{C:Cs}{y:Lc}{h k:Hp}(i:In (CL b C y) h)(l:Le h k):In (ag y.a 192 (iq y.ab C.aq (C.n*C.aq))) k∧In (ag y.ab 5 (dT C.A (C.n*C.aq))) k:=by
 obtain⟨_,_,_,_,_,_,h6,h7,_⟩:=rZ i;exact⟨In.mono h6 l,In.mono h7 l⟩
theorem lJ (b:Nat)(C:Cs)(y:Lc)(K:Ok C)(hy:gL C y)(p:Nat)(L:Live C p):
  aH acw 129 [.pointer (some ⟨b,0,none⟩), .int .u64 (C.hd p:Int)] (In (CL b C y)) []
   (λv H=>v= .tuple #[.agg (qf y.a p (C.cl p) (C.sz (C.cl p))).toArray, .int .i64 0]∧H= []):=by
 have hc:C.cl p<C.af.length:=(L.toAt.bo K).1;refine ae func129 rfl ntmps129 rfl ?_;intro F aw;refine ay ?_;refine Lp (oA T.ie λb1=> ?_);refine gR ?_;refine zl T.wv (wC b C K p L) .nil (λ_ le _=>Hf hy aw le) ?_;refine z7 ?_;refine zl T.abd (Tt b C y) .nil (λ_ le _=>dt (rZ aw) le) ?_;refine aR ?_;refine zl T.NG (tU b C K (C.cl p:Int)) .nil (λ_ le _=>Hf hy aw le) ?_;unfold ofM;rw[if_pos (by omega),Int.toNat_natCast];refine bc ?_;refine Jd [] T.FC results129 ?_;exact⟨rfl,rfl⟩
theorem vy (b:Nat)(C:Cs)(y:Lc)(K:Ok C)(hy:gL C y)(p:Nat)(L:Live C p)(hk:kl C.A p≠0):
  aH acw 175 [.pointer (some ⟨b,0,none⟩), .int .u64 (C.hd p:Int)] (In (CL b C y)) []
   (λv H=>v= .tuple #[.agg (qf y.a p (C.cl p) (C.sz (C.cl p))).toArray, .int .i64 0]∧H= []):=by
 obtain⟨n1,n2,_⟩:=L.toAt.bo K;have nb:=gh K.toFix;have f0:=K.toFix.pos;have f1:=K.toFix.p1;obtain⟨e1,e2⟩:=L.toAt.off K (o:=44) (w:=1) (by omega);refine ae func175 rfl ntmps175 rfl ?_;intro F aw;refine ay ?_;refine Lp (oA T.ie λb1=> ?_);refine bc ?_;refine zl T.oY (lJ b C y K hy p L) .nil (λ_ le _=>In.mono aw le) ?_;unfold qf;refine aZ ?_;refine Lp (oA T.ie λb2=> ?_);refine cI ?_;refine zt 16 ?_ (e:=by rfl);refine ay ?_;refine zl T.jj (gx y.a y.ab C.aq (C.n*C.aq) p (C.cl p) (C.sz (C.cl p)) C.A f0 e1 nb e2 f1) .nil (λ_ le _=>fC aw le) ?_;refine aZ ?_;refine cu ?_;refine cN ?_;refine Jd [] T.FC results175 ?_;exact⟨rfl,rfl⟩
def Cs.wA (C:Cs)(A:By):Cs:={C with A:=A}
theorem o8{P:Program}{f:FuncId}{args:List Value}{pre:Hp→Prop}{H:List aa}{R:Value→List aa→Prop}{b:Nat}{C:Cs}(h:∀y,gL C y→aH P f args pre (CL b C y::H) R):aH P f args pre (Cl b C::H) R:=
 aH.exL λy=>aH.Cb λhy=>h y hy
theorem L7{b:Nat}{C:Cs}{y:Lc}{H:List aa}{h:Hp}(hy:gL C y)(st:ak (CL b C y::H) h):ak (Cl b C::H) h:=
 bm (λ_ p=>⟨y,hy,p⟩) st
theorem gL.wA{C:Cs}{y:Lc}(hy:gL C y)(A:By):gL (C.wA A) y:=⟨hy.pl,hy.rl,hy.pk,hy.aq,hy.cH⟩
def clR (b:Nat)(C:Cs)(y:Lc):aa:=aN [ag b 136 (eh C y),p7 C y,ag y.pb 224 (y.pl.flatMap eZ),aN (y.pl.map ot),ag y.rb 253 (y.rl.flatMap eW),aN (y.rl.map lC)]
theorem tA{L H:List aa}{h:Hp}(s:ak (aN L::H) h):ak (L++H) h:=by
 obtain⟨h1,h2,d,l1,l2,s1,s2⟩:=s;exact eF (bZ s1 s2 d) (cJ l1 l2)
theorem Dm (b:Nat)(C:Cs)(y:Lc):List.Perm (qC b C y) ([ag y.ab 5 (dT C.A (C.n*C.aq)),ag y.a 192 (iq y.ab C.aq (C.n*C.aq))]++ [ag b 136 (eh C y),p7 C y,ag y.pb 224 (y.pl.flatMap eZ),aN (y.pl.map ot),ag y.rb 253 (y.rl.flatMap eW),aN (y.rl.map lC)]):=
 List.perm_append_comm (l₁:= [_,_,_,_,_,_]) (l₂:= [_,_]) |>.trans (List.Perm.swap _ _ _)
theorem SY{b:Nat}{C:Cs}{y:Lc}{H:List aa}{h:Hp}(s:ak (CL b C y::H) h):ak (ag y.ab 5 (dT C.A (C.n*C.aq))::ag y.a 192 (iq y.ab C.aq (C.n*C.aq))::clR b C y::H) h:=
 aO (λ_ s=>aO (λ_ s=>fN (L:= [_,_,_,_,_,_]) s) s) (tA (nJ (Dm b C y) s))
theorem mX{b:Nat}{C:Cs}{y:Lc}{H:List aa}{A:By}(hy:gL C y){h:Hp}(s:ak (ag y.ab 5 (dT A (C.n*C.aq))::ag y.a 192 (iq y.ab C.aq (C.n*C.aq))::clR b C y::H) h):ak (Cl b (C.wA A)::H) h:=by
 refine L7 (hy.wA A) (nJ (Dm b (C.wA A) y).symm (fN (L:= [_,_,_,_,_,_,_,_]) ?_));exact aO (λ_ s=>aO (λ_ s=>tA s) s) s
theorem Cf{n:Nat}{ds:List Deferred}{F:ee}{K:Act→World→Prop}{σ:ba}{H:List aa}{b:Nat}{C:Cs}{y:Lc}
  (h:G n ds F K σ (ag y.ab 5 (dT C.A (C.n*C.aq))::ag y.a 192 (iq y.ab C.aq (C.n*C.aq))::clR b C y::H)):G n ds F K σ (CL b C y::H):=aC (λ_ s=>SY s) h
theorem xM (b:Nat)(C:Cs)(K:Ok C)(p o:Nat)(L:Live C p)(hk:kl C.A p≠0)(ho:o+1≤56):
  aH acw 224 [.pointer (some ⟨b,0,none⟩), .int .u64 (C.hd p:Int), .int .i64 (o:Int)] (In (Cl b C)) []
   (λv H=>v= .tuple #[.int .u8 ((rd C.A (p+o) 1:Nat):Int), .int .i64 0]∧H= []):=by
 refine wJ λy hy=> ?_;obtain⟨n1,n2,_⟩:=L.toAt.bo K;have nb:=gh K.toFix;have f0:=K.toFix.pos;have f1:=K.toFix.p1;obtain⟨e1,e2⟩:=L.toAt.off K (o:=44) (w:=1) (by omega);obtain⟨e3,e4⟩:=L.toAt.off K (o:=o) (w:=1) (by omega);refine ae func224 rfl ntmps224 rfl ?_;intro F aw;refine bH ?_;refine zl T.oY (lJ b C y K hy p L) .nil (λ_ le _=>In.mono aw le) ?_;unfold qf;refine aZ ?_;refine Lp (oA T.ie λb1=> ?_);refine cI ?_;refine zf 18 ?_ (e:=by rfl);refine ay ?_;refine zl T.jj (gx y.a y.ab C.aq (C.n*C.aq) p (C.cl p) (C.sz (C.cl p)) C.A f0 e1 nb e2 f1) .nil (λ_ le _=>fC aw le) ?_;refine aZ ?_;refine cu ?_;refine bc ?_;refine zl T.AI (nN y.a y.ab C.aq (C.n*C.aq) p o (C.cl p) (C.sz (C.cl p)) C.A f0 e3 nb e4 f1) .nil (λ_ le _=>fC aw le) ?_;refine bc ?_;refine iH [] results224 ?_;exact⟨rfl,rfl⟩
theorem y8 (b:Nat)(C:Cs)(K:Ok C)(p o v:Nat)(hv:v<256^1)(L:Live C p)(hk:kl C.A p≠0)(ho:o+1≤56):
  aH acw 228 [.pointer (some ⟨b,0,none⟩), .int .u64 (C.hd p:Int), .int .i64 (o:Int), .int .u8 (v:Int), .bool true] (λ_=>True) [Cl b C]
   (λu H=>u= .int .i64 0∧H= [Cl b (C.wA (wr C.A (p+o) 1 v))]):=by
 refine o8 λy hy=> ?_;obtain⟨n1,n2,_⟩:=L.toAt.bo K;have nb:=gh K.toFix;have f0:=K.toFix.pos;have f1:=K.toFix.p1;obtain⟨e3,e4⟩:=L.toAt.off K (o:=o) (w:=1) (by omega);refine ae func228 rfl ntmps228 rfl ?_;intro F _;refine bB ?_;refine zl T.AE (vy b C y K hy p L hk) .nil (λ_ le aw=>aw.1) ?_;unfold qf;refine aZ ?_;refine Lp (oA T.ie λb1=> ?_);refine bT ?_;refine aR ?_;refine Hh (H':= [CL b C y,ag b1 228 [.pointer (some ⟨y.a,0,none⟩), .int .i64 (p:Int), .int .i64 (C.cl p:Int), .int .i64 (C.sz (C.cl p):Int)]]) ?_;refine Cf ?_;refine zl T.wM (kZ y.a y.ab C.aq (C.n*C.aq) p o (C.cl p) (C.sz (C.cl p)) v C.A hv f0 e3 nb e4 f1) (.cons .here .nil) (λ_ le aw=>aw.1) ?_;refine aC (λ_ s=>mX hy s) ?_;refine bc ?_;refine Rt [Cl b (C.wA (wr C.A (p+o) 1 v))] results228 ?_;exact⟨rfl,rfl⟩
theorem uu (b:Nat)(C:Cs)(K:Ok C)(p o:Nat)(L:Live C p)(hk:kl C.A p≠0)(ho:o+8≤56):
  aH acw 201 [.pointer (some ⟨b,0,none⟩), .int .u64 (C.hd p:Int), .int .i64 (o:Int)] (In (Cl b C)) []
   (λv H=>v= .tuple #[.int .u64 ((rd C.A (p+o) 8:Nat):Int), .int .i64 0]∧H= []):=by
 refine wJ λy hy=> ?_;obtain⟨n1,n2,_⟩:=L.toAt.bo K;have nb:=gh K.toFix;have f0:=K.toFix.pos;have f1:=K.toFix.p1;obtain⟨e1,e2⟩:=L.toAt.off K (o:=44) (w:=1) (by omega);obtain⟨e3,e4⟩:=L.toAt.off K (o:=o) (w:=8) (by omega);refine ae func201 rfl ntmps201 rfl ?_;intro F aw;refine bH ?_;refine zl T.oY (lJ b C y K hy p L) .nil (λ_ le _=>In.mono aw le) ?_;unfold qf;refine aZ ?_;refine Lp (oA T.ie λb1=> ?_);refine cI ?_;refine zf 18 ?_ (e:=by rfl);refine ay ?_;refine zl T.jj (gx y.a y.ab C.aq (C.n*C.aq) p (C.cl p) (C.sz (C.cl p)) C.A f0 e1 nb e2 f1) .nil (λ_ le _=>fC aw le) ?_;refine aZ ?_;refine cu ?_;refine bc ?_;refine zl T.AJ (lN y.a y.ab C.aq (C.n*C.aq) p o (C.cl p) (C.sz (C.cl p)) C.A f0 e3 nb e4 f1) .nil (λ_ le _=>fC aw le) ?_;refine bc ?_;refine iH [] results201 ?_;exact⟨rfl,rfl⟩
theorem rh (b:Nat)(C:Cs)(K:Ok C)(p o v:Nat)(hv:v<256^8)(L:Live C p)(hk:kl C.A p≠0)(ho:o+8≤56):
  aH acw 177 [.pointer (some ⟨b,0,none⟩), .int .u64 (C.hd p:Int), .int .i64 (o:Int), .int .u64 (v:Int), .bool true] (λ_=>True) [Cl b C]
   (λu H=>u= .int .i64 0∧H= [Cl b (C.wA (wr C.A (p+o) 8 v))]):=by
 refine o8 λy hy=> ?_;obtain⟨n1,n2,_⟩:=L.toAt.bo K;have nb:=gh K.toFix;have f0:=K.toFix.pos;have f1:=K.toFix.p1;obtain⟨e3,e4⟩:=L.toAt.off K (o:=o) (w:=8) (by omega);refine ae func177 rfl ntmps177 rfl ?_;intro F _;refine bB ?_;refine zl T.AE (vy b C y K hy p L hk) .nil (λ_ le aw=>aw.1) ?_;unfold qf;refine aZ ?_;refine Lp (oA T.ie λb1=> ?_);refine bT ?_;refine aR ?_;refine Hh (H':= [CL b C y,ag b1 228 [.pointer (some ⟨y.a,0,none⟩), .int .i64 (p:Int), .int .i64 (C.cl p:Int), .int .i64 (C.sz (C.cl p):Int)]]) ?_;refine Cf ?_;refine zl T.AB (lM y.a y.ab C.aq (C.n*C.aq) p o (C.cl p) (C.sz (C.cl p)) v C.A hv f0 e3 nb e4 f1) (.cons .here .nil) (λ_ le aw=>aw.1) ?_;refine aC (λ_ s=>mX hy s) ?_;refine bc ?_;refine Rt [Cl b (C.wA (wr C.A (p+o) 8 v))] results177 ?_;exact⟨rfl,rfl⟩
theorem Mh (a1 a2:Option Addr)(c1 c2 m1 m2:Nat)(l1 l2:List UInt8)(h1:m1=l1.length)(h2:m2=l2.length)(k1:l1.length<18446744073709551616)(k2:l2.length<18446744073709551616):
  aH acw 131 [.slice a1 m1 c1, .slice a2 m2 c2] (λh=>dU h a1 (ai l1)∧dU h a2 (ai l2)) [] (λv H=>v= .bool (decide (l1=l2))∧H= []):=by
 refine ae func131 rfl ntmps131 rfl ?_;rintro F ⟨r1,r2⟩;refine bc ?_;refine Li (Ts T.eC T.qw T.kk) ?_;refine ay ?_;refine Li (Ts T.eC T.qw T.kk) ?_;refine Li Sq ?_;refine aZ ?_;refine Rt [] results131 ?_;exact⟨rfl,rfl⟩
theorem CX (m:Int):aH acw 218 [.int .i64 m] (λ_=>True) [] (λv H=>v= .bool (decide (0≤m∧m<16))∧H= []):=by
 refine ae func218 rfl ntmps218 rfl ?_;intro F _;refine bH ?_;refine aE (t:=5) rfl ?_ ?_
 ·intro h
  replace h:=aD h;refine bB ?_;refine Rt [] results218 ?_;refine⟨?_,rfl⟩
  congr 2
  simp[h]
 intro h;replace h:=aD h;refine bB ?_;refine Rt [] results218 ?_;refine⟨?_,rfl⟩;rw[decide_eq_false (by omega)]
theorem Gj (b:Nat)(C:Cs)(K:Ok C)(p:Nat)(L:Live C p)(hk:kl C.A p≠0)(hx:rd C.A (p+16) 8<9223372036854775808):
  aH acw 134 [.pointer (some ⟨b,0,none⟩), .int .u64 (C.hd p:Int)] (In (Cl b C)) []
   (λv H=>v= .tuple #[.int .i64 ((rd C.A (p+16) 8:Nat):Int), .int .i64 0]∧H= []):=by
 refine ae func134 rfl ntmps134 rfl ?_;intro F aw;refine bH ?_;refine zl T.OS (uu b C K p 16 L hk (by omega)) .nil (λ_ le _=>In.mono aw le) ?_;refine fF ?_;refine iH [] results134 ?_;exact⟨rfl,rfl⟩
theorem zx (b:Nat)(C:Cs)(K:Ok C)(p:Nat)(L:Live C p)(hk:kl C.A p≠0):
  aH acw 135 [.pointer (some ⟨b,0,none⟩), .int .u64 (C.hd p:Int)] (In (Cl b C)) []
   (λv H=>v= .tuple #[.int .u64 ((rd C.A (p+32) 8:Nat):Int), .int .i64 0]∧H= []):=by
 refine ae func135 rfl ntmps135 rfl ?_;intro F aw;refine bH ?_;refine zl T.OS (uu b C K p 32 L hk (by omega)) .nil (λ_ le _=>In.mono aw le) ?_;refine bB ?_;refine iH [] results135 ?_;exact⟨rfl,rfl⟩
theorem tQ (b:Nat)(C:Cs)(K:Ok C)(p:Nat)(L:Live C p)(hk:kl C.A p≠0):
  aH acw 164 [.pointer (some ⟨b,0,none⟩), .int .u64 (C.hd p:Int)] (In (Cl b C)) []
   (λv H=>v= .tuple #[.int .i64 ((rd C.A (p+45) 1:Nat):Int), .int .i64 0]∧H= []):=by
 have hl:rd C.A (p+45) 1<256^1:=oO _ _ _;refine ae func164 rfl ntmps164 rfl ?_;intro F aw;refine bH ?_;refine zl T.ON (xM b C K p 45 L hk (by omega)) .nil (λ_ le _=>In.mono aw le) ?_;refine fF ?_;refine iH [] results164 ?_;exact⟨rfl,rfl⟩
theorem pQ (b:Nat)(C:Cs)(K:Ok C)(p:Nat)(L:Live C p)(hk:kl C.A p≠0):
  aH acw 172 [.pointer (some ⟨b,0,none⟩), .int .u64 (C.hd p:Int)] (In (Cl b C)) []
   (λv H=>v= .tuple #[.int .i64 ((rd C.A (p+46) 1:Nat):Int), .int .i64 0]∧H= []):=by
 have hl:rd C.A (p+46) 1<256^1:=oO _ _ _;refine ae func172 rfl ntmps172 rfl ?_;intro F aw;refine bH ?_;refine zl T.ON (xM b C K p 46 L hk (by omega)) .nil (λ_ le _=>In.mono aw le) ?_;refine fF ?_;refine iH [] results172 ?_;exact⟨rfl,rfl⟩
theorem yB (b:Nat)(C:Cs)(K:Ok C)(p v:Nat)(hv:v<9223372036854775808)(L:Live C p)(hk:kl C.A p≠0):
  aH acw 169 [.pointer (some ⟨b,0,none⟩), .int .u64 (C.hd p:Int), .int .i64 (v:Int)] (λ_=>True) [Cl b C]
   (λu H=>u= .int .i64 0∧H= [Cl b (C.wA (wr C.A (p+16) 8 v))]):=by
 refine ae func169 rfl ntmps169 rfl ?_;intro F _;refine bw ?_;refine ao (t:=12) (v':=(.bool true)) rfl (by rw[decide_eq_true (by omega)]) ?_;refine zl T.Ff (rh b C K p 16 v (agS hv (by decide)) L hk (by omega)) (.cons .here .nil) (λ_ _ _=>trivial) ?_;refine aZ ?_;refine Rt [Cl b (C.wA (wr C.A (p+16) 8 v))] results169 ?_;exact⟨rfl,rfl⟩
theorem yc (b:Nat)(C:Cs)(K:Ok C)(p v:Nat)(hv:v<9223372036854775808)(L:Live C p)(hk:kl C.A p≠0):
  aH acw 174 [.pointer (some ⟨b,0,none⟩), .int .u64 (C.hd p:Int), .int .i64 (v:Int)] (λ_=>True) [Cl b C]
   (λu H=>u= .int .i64 0∧H= [Cl b (C.wA (wr C.A (p+24) 8 v))]):=by
 refine ae func174 rfl ntmps174 rfl ?_;intro F _;refine bw ?_;refine ao (t:=12) (v':=(.bool true)) rfl (by rw[decide_eq_true (by omega)]) ?_;refine zl T.Ff (rh b C K p 24 v (agS hv (by decide)) L hk (by omega)) (.cons .here .nil) (λ_ _ _=>trivial) ?_;refine aZ ?_;refine Rt [Cl b (C.wA (wr C.A (p+24) 8 v))] results174 ?_;exact⟨rfl,rfl⟩
theorem Bs (b:Nat)(C:Cs)(K:Ok C)(p v:Nat)(hv:v<18446744073709551616)(L:Live C p)(hk:kl C.A p≠0):
  aH acw 115 [.pointer (some ⟨b,0,none⟩), .int .u64 (C.hd p:Int), .int .u64 (v:Int)] (λ_=>True) [Cl b C]
   (λu H=>u= .int .i64 0∧H= [Cl b (C.wA (wr C.A (p+32) 8 v))]):=by
 refine ae func115 rfl ntmps115 rfl ?_;intro F _;refine bH ?_;refine zl T.Ff (rh b C K p 32 v (adH hv (by decide)) L hk (by omega)) (.cons .here .nil) (λ_ _ _=>trivial) ?_;refine aZ ?_;refine Rt [Cl b (C.wA (wr C.A (p+32) 8 v))] results115 ?_;exact⟨rfl,rfl⟩
theorem kf (b:Nat)(C:Cs)(K:Ok C)(p v:Nat)(hv:v<16)(L:Live C p)(hk:kl C.A p≠0):
  aH acw 173 [.pointer (some ⟨b,0,none⟩), .int .u64 (C.hd p:Int), .int .i64 (v:Int)] (λ_=>True) [Cl b C]
   (λu H=>u= .int .i64 0∧H= [Cl b (C.wA (wr C.A (p+46) 1 v))]):=by
 refine ae func173 rfl ntmps173 rfl ?_;intro F _;refine cN ?_;refine zl T.OO (CX (v:Int)) .nil (λ_ _ _=>trivial) ?_;refine ao (t:=12) (v':=(.bool true)) rfl (by rw[decide_eq_true (by omega)]) ?_;refine zl T.OL (y8 b C K p 46 v (agS hv (by decide)) L hk (by omega)) (.cons .here .nil) (λ_ _ _=>trivial) ?_;refine aZ ?_;refine Rt [Cl b (C.wA (wr C.A (p+46) 1 v))] results173 ?_;exact⟨rfl,rfl⟩
theorem sG (b:Nat)(C:Cs)(K:Ok C)(p v:Nat)(hv:1≤v∧v≤4)(L:Live C p)(hk:kl C.A p≠0):
  aH acw 227 [.pointer (some ⟨b,0,none⟩), .int .u64 (C.hd p:Int), .int .i64 (v:Int)] (λ_=>True) [Cl b C]
   (λu H=>u= .int .i64 0∧H= [Cl b (C.wA (wr C.A (p+45) 1 v))]):=by
 refine ae func227 rfl ntmps227 rfl ?_;intro F _;refine bK ?_;refine zt 13 ?_;refine aZ ?_;refine ao (t:=16) (v':=(.bool true)) rfl (by rw[decide_eq_true (by omega)]) ?_;refine zl T.OL (y8 b C K p 45 v (adC hv.2 (by decide)) L hk (by omega)) (.cons .here .nil) (λ_ _ _=>trivial) ?_;refine aZ ?_;refine Rt [Cl b (C.wA (wr C.A (p+45) 1 v))] results227 ?_;exact⟨rfl,rfl⟩
theorem C6 (k v:Nat)(hk:1≤k∧k≤250)(hv:v≤1048576):aH acw 178 [.int .i64 (k:Int), .int .i64 (v:Int)] (λ_=>True) []
   (λu H=>u= .tuple #[.int .i64 ((58+k+v:Nat):Int), .int .i64 0]∧H= []):=by
 refine ae func178 rfl ntmps178 rfl ?_;intro F _;refine bw ?_;refine zf 9 ?_;refine bc ?_;refine cu ?_;refine aR ?_;refine zf 16 ?_;refine bc ?_;refine cu ?_;refine dQ ?_;refine iH [] results178 ?_;exact⟨rfl,rfl⟩
def okB (c:UInt8):Bool:=decide (32<c.toNat∧c.toNat≠127)
def cO (l:List UInt8):Bool:=decide (1≤l.length∧l.length≤250)&&l.all okB
theorem si{l:List UInt8}{k:Nat}(h:k<l.length)(hb:okB (l[k])=false):cO l=false:=by
 unfold cO;rw[Bool.and_eq_false_iff]
 right
 rw[List.all_eq_false];exact⟨l[k],List.getElem_mem h,by rw[hb];decide⟩
theorem CV{l:List UInt8}{k:Nat}(h:∀i (h:i<l.length),i<k→okB l[i]=true)(hk:k<l.length)(hb:okB l[k]=true):∀i (h:i<l.length),i<k+1→okB l[i]=true:=λi hl hi=>by
 by_cases e:i<k
 ·exact h i hl e
 obtain rfl:i=k:=by omega
 exact hb
theorem C1 (a:Option Addr)(c m:Nat)(l:List UInt8)(hm:m=l.length)(hl:m<281474976710656):
  aH acw 69 [.slice a m c] (λh=>dU h a (ai l)) [] (λv H=>v= .bool (cO l)∧H= []):=by
 refine ae func69 rfl ntmps69 rfl ?_;intro F r;refine cN ?_;refine aE (t:=8) rfl ?_ ?_
 ·intro h1
  replace h1:=aD h1;refine bK ?_;refine Rt [] results69 ?_;refine⟨?_,rfl⟩;unfold cO;rw[decide_eq_false (by omega)];rfl
 intro h1;replace h1:=aD h1;refine bc ?_;refine av rfl ?_ ?_
 ·intro h2
  replace h2:=aD h2;refine bc ?_;refine Rt [] results69 ?_;refine⟨?_,rfl⟩;unfold cO;rw[decide_eq_false (by omega)];rfl
 intro h2;replace h2:=aD h2;refine cN ?_;refine Lo (ι:=Nat) [16,17,18,4,19,20,21,22,23,24,2,25,15] (λk=>k≤m∧∀i (h:i<l.length),i<k→okB l[i]=true) (λk=> [(15, .int .i64 (k:Int))]) (λk=> []) (λk=>m-k) (0) ⟨Nat.zero_le _,λi _ h=>absurd h (Nat.not_lt_zero _)⟩ ?_;rintro k hI;refine aZ ?_;refine au ?_;refine av rfl ?_ ?_
 ·intro hk
  replace hk:=aD hk;have bX:k<l.length:=by omega
  have kb:(ai l)[k]?=some (.int .u8 ((l[k].toNat:Nat):Int)):=by unfold ai;rw[List.getElem?_map,List.getElem?_eq_getElem bX];rfl
  have hc:=l[k].toNat_lt;refine bc ?_;refine Li (Ix T.eC) ?_;refine bH ?_;refine aE (t:=21) rfl ?_ ?_
  ·intro h3
   replace h3:=aD h3;refine fF ?_;refine Rt [] results69 ?_;exact⟨by rw[si bX (decide_eq_false (by omega))],rfl⟩
  intro h3;replace h3:=aD h3;refine aR ?_;refine av rfl ?_ ?_
  ·intro h4
   replace h4:=aD h4;refine cN ?_;refine Rt [] results69 ?_;exact⟨by rw[si bX (decide_eq_false (by omega))],rfl⟩
  intro h4;replace h4:=aD h4;refine bB ?_;refine az ?_;refine Ro (k+1) (⟨by omega,CV hI.2 bX (decide_eq_true (by omega))⟩) ((by omega))
 intro hk;replace hk:=aD hk;refine cN ?_;refine Rt [] results69 ?_;refine⟨?_,rfl⟩;unfold cO;rw[decide_eq_true (by omega),Bool.true_and];rw[eq_comm,Value.bool.injEq,List.all_eq_true];intro x hx;obtain⟨i,hi,rfl⟩:=List.getElem_of_mem hx;exact hI.2 i hi (by omega)
def nO:Option Nat→Nat
 |none=>0
 |some q=>q/8+1
def hO (C:Cs):Option Nat→Nat
 |none=>0
 |some q=>C.hd q
theorem pH (q:Nat):nO (some q)=q/8+1:=rfl
theorem cQ (C:Cs)(q:Nat):hO C (some q)=C.hd q:=rfl
def dm (C:Cs)(o:Option Nat):Prop:=∀q,o=some q→Live C q
theorem uA (b:Nat)(C:Cs)(K:Ok C)(p:Nat)(L:Live C p)(hk:kl C.A p≠0):
  aH acw 214 [.pointer (some ⟨b,0,none⟩), .int .u64 (C.hd p:Int)] (In (Cl b C)) []
   (λv H=>v= .tuple #[.int .i64 ((kl C.A p:Nat):Int), .int .i64 ((vl C.A p:Nat):Int), .int .i64 0]∧H= []):=by
 refine wJ λy hy=> ?_;obtain⟨n1,n2,_⟩:=L.toAt.bo K;have nb:=gh K.toFix;have f0:=K.toFix.pos;have f1:=K.toFix.p1;obtain⟨e1,e2⟩:=L.toAt.off K (o:=44) (w:=1) (by omega);obtain⟨e3,e4⟩:=L.toAt.off K (o:=48) (w:=4) (by omega);refine ae func214 rfl ntmps214 rfl ?_;intro F aw;refine cI ?_;refine zl T.oY (lJ b C y K hy p L) .nil (λ_ le _=>In.mono aw le) ?_;unfold qf;refine aZ ?_;refine Lp (oA T.ie λb1=> ?_);refine cI ?_;refine zf 16 ?_ (e:=by rfl);refine ay ?_;refine zl T.jj (gx y.a y.ab C.aq (C.n*C.aq) p (C.cl p) (C.sz (C.cl p)) C.A f0 e1 nb e2 f1) .nil (λ_ le _=>fC aw le) ?_;refine aZ ?_;refine cu ?_;refine a8 ?_;refine au ?_;refine gK 8 T.mix (.cons .here .nil) λF1 iT cj aI=> ?_;obtain⟨hb,_⟩:=cj;refine ay ?_;refine Tp (oC T.jj rfl rfl (gx y.a y.ab C.aq (C.n*C.aq) p (C.cl p) (C.sz (C.cl p)) C.A f0 e1 nb e2 f1) .nil (λ_ le _=>fC (In.mono aw iT) le) ?_);rintro v H' ⟨rfl,rfl⟩;refine bd ?_;refine ay ?_;refine Tp (oC T.Px rfl rfl (zM y.a y.ab C.aq (C.n*C.aq) p (C.cl p) (C.sz (C.cl p)) C.A f0 e3 nb e4 f1) .nil (λ_ le _=>fC (In.mono aw iT) le) ?_);rintro v H' ⟨rfl,rfl⟩;refine bd ?_;refine aR ?_;refine gd aI ?_;refine a8 ?_;refine Rt3 [] results214 ?_;exact⟨rfl,rfl⟩
theorem sj (b:Nat)(C:Cs)(K:Ok C)(p i:Nat)(o:Option Nat)(L:Live C p)(hk:kl C.A p≠0)(hi:i≤2)(ho:dm C o)(hn:rd C.A (p+4*i) 4=nO o):
  aH acw 133 [.pointer (some ⟨b,0,none⟩), .int .u64 (C.hd p:Int), .int .i64 (i:Int)] (In (Cl b C)) []
   (λv H=>v= .tuple #[.int .u64 (hO C o:Int), .int .i64 0]∧H= []):=by
 refine wJ λy hy=> ?_;obtain⟨n1,n2,_⟩:=L.toAt.bo K;have nb:=gh K.toFix;have f0:=K.toFix.pos;have f1:=K.toFix.p1;obtain⟨e1,e2⟩:=L.toAt.off K (o:=44) (w:=1) (by omega);obtain⟨e3,e4⟩:=L.toAt.off K (o:=4*i) (w:=4) (by omega);refine ae func133 rfl ntmps133 rfl ?_;intro F aw;refine bH ?_;refine zl T.oY (lJ b C y K hy p L) .nil (λ_ le _=>In.mono aw le) ?_;unfold qf;refine aZ ?_;refine Lp (oA T.ie λb1=> ?_);refine nj ?_;refine zf 26 ?_;refine bc ?_;refine cu ?_;refine a8 ?_;refine zl T.jj (gx y.a y.ab C.aq (C.n*C.aq) p (C.cl p) (C.sz (C.cl p)) C.A f0 e1 nb e2 f1) .nil (λ_ le _=>fC aw le) ?_;refine aZ ?_;refine cu ?_;refine cI ?_;refine ao (t:=37) (v':=(.int .i64 ((4*i:Nat):Int))) rfl (by rw[ahT];rfl) ?_;refine zl T.Fo (py y.a y.ab C.aq (C.n*C.aq) p (4*i) (C.cl p) (C.sz (C.cl p)) C.A f0 e3 nb e4 f1) .nil (λ_ le _=>fC aw le) ?_;rw[hn];rcases o with _|q
 ·refine Li As ?_
  refine gR ?_;refine iH [] results133 ?_;exact⟨rfl,rfl⟩
 have M:=ho q rfl;obtain⟨m1,m2,m3,m4,m5,m6⟩:=cB K M.toAt;rw[pH];refine bH ?_;refine cu ?_;refine cI ?_;refine ao (t:=46) (v':=(.int .i64 (q:Int))) rfl (by rw[show(8:Int)*(((q/8+1:Nat):Int)-1)=(q:Int) by omega]) ?_;refine zl T.Py (XP b C K q M) .nil (λ_ le _=>Hf hy aw le) ?_;refine bT ?_;refine iH [] results133 ?_;exact⟨rfl,rfl⟩
theorem dS (b:Nat)(C:Cs)(K:Ok C)(p i:Nat)(o:Option Nat)(L:Live C p)(hk:kl C.A p≠0)(hi:i≤2)(ho:dm C o):
  aH acw 212 [.pointer (some ⟨b,0,none⟩), .int .u64 (C.hd p:Int), .int .i64 (i:Int), .int .u64 (hO C o:Int)] (λ_=>True) [Cl b C]
   (λu H=>u= .int .i64 0∧H= [Cl b (C.wA (wr C.A (p+4*i) 4 (nO o)))]):=by
 refine o8 λy hy=> ?_;obtain⟨n1,n2,_⟩:=L.toAt.bo K;have nb:=gh K.toFix;have f0:=K.toFix.pos;have f1:=K.toFix.p1;obtain⟨e3,e4⟩:=L.toAt.off K (o:=4*i) (w:=4) (by omega);have hw:nO o<256^4:=by
  rcases o with _|q
  ·exact Nat.pow_pos (by decide)
  obtain⟨_,_,m3,m4,_⟩:=cB K (ho q rfl).toAt;rw[pH];rw[show 256^4=4294967296 from rfl];omega
 have hm:IntKind.u32.wrap (hO C o:Int)=(nO o:Int):=by
  rcases o with _|q
  ·rfl
  obtain⟨m1,_⟩:=cB K (ho q rfl).toAt;rw[IntKind.wrap_u32,pH,cQ];omega
 refine ae func212 rfl ntmps212 rfl ?_;intro F _;refine bB ?_;refine zl T.AE (vy b C y K hy p L hk) .nil (λ_ le aw=>aw.1) ?_;unfold qf;refine aZ ?_;refine Lp (oA T.ie λb1=> ?_);refine nj ?_;refine zf 27 ?_;refine bc ?_;refine cu ?_;refine aZ ?_;refine au ?_;refine cg (ι:=Unit) [31,32,34,35,36,33,37,38,39,11,12,13,40,41,8] (λu=>True) (λu=> [(3, .int .u64 (hO C o:Int)),(2, .int .i64 (i:Int)),(9, .pointer (some ⟨b1,0,none⟩))]) (λu=> [CL b C y,ag b1 228 [.pointer (some ⟨y.a,0,none⟩), .int .i64 (p:Int), .int .i64 (C.cl p:Int), .int .i64 (C.sz (C.cl p):Int)]]) ?_ ?_
 ·rcases o with _|q
  ·refine gU ?_
   refine bc ?_;refine Me (()) (trivial)
  have M:=ho q rfl;obtain⟨m1,m2,m3,m4,m5,m6⟩:=cB K M.toAt;rw[cQ];refine aR ?_;refine dz ?_ (e:=by exact by rw[decide_eq_false (by omega)];rfl);refine aZ ?_;refine zl T.wv (wC b C K q M) .nil (λ_ le aw=>Hf hy aw.2.1 (Le.refl _)) ?_;refine fF ?_;refine Me (()) (trivial)
 rintro u hI;refine aR ?_;refine ao (t:=44) (v':=(.int .i64 ((4*i:Nat):Int))) rfl (by rfl) ?_;refine ay ?_;refine ao (t:=45) (v':=(.int .i64 ((4*i:Nat):Int))) rfl (by rw[ahT]) ?_;refine a8 ?_;refine ao (t:=47) (v':=(.int .u32 (nO o:Int))) rfl (by rw[hm]) ?_;refine Cf ?_;refine zl T.wN (jL y.a y.ab C.aq (C.n*C.aq) p (4*i) (C.cl p) (C.sz (C.cl p)) (nO o) C.A hw f0 e3 nb e4 f1) (.cons .here .nil) (λ_ le aw=>aw.1) ?_;refine aC (λ_ s=>mX hy s) ?_;refine bc ?_;refine Rt [Cl b (C.wA (wr C.A (p+4*i) 4 (nO o)))] results212 ?_;exact⟨rfl,rfl⟩
def D8 (ka va:Value)(fl exp tch tok st mk:Nat):List Value:= [ka,va, .int .u64 (fl:Int), .int .i64 (exp:Int), .int .i64 (tch:Int), .int .u64 (tok:Int), .int .i64 (st:Int), .int .i64 (mk:Int)]
structure ic (C:Cs)(p:Nat):Prop where
 k0:kl C.A p≠0
 fits:58+kl C.A p+vl C.A p≤C.sz (C.cl p)
 exp:rd C.A (p+16) 8<9223372036854775808
 tch:rd C.A (p+24) 8<9223372036854775808
def aL (A:By)(p:Nat):List UInt8:=jt A (p+56) (kl A p)
def oo (A:By)(p:Nat):List UInt8:=jt A (p+56+kl A p) (vl A p)
theorem xf (b:Nat)(C:Cs)(K:Ok C)(p:Nat)(L:Live C p)(I:ic C p):
  aH acw 88 [.pointer (some ⟨b,0,none⟩), .int .u64 (C.hd p:Int)] (In (Cl b C)) []
   (λv H=>∃kb vb,v= .tuple #[.agg (D8 (.slice (some ⟨kb,0,none⟩) (kl C.A p) (kl C.A p)) (.slice (some ⟨vb,0,none⟩) (vl C.A p) (vl C.A p)) (rd C.A (p+40) 4) (rd C.A (p+16) 8) (rd C.A (p+24) 8) (rd C.A (p+32) 8) (rd C.A (p+45) 1) (rd C.A (p+46) 1)).toArray, .int .i64 0]∧
    H= [own (some ⟨kb,0,none⟩) (kl C.A p) 5 1 (ai (aL C.A p)),own (some ⟨vb,0,none⟩) (vl C.A p) 5 1 (ai (oo C.A p))]):=by
 refine wJ λy hy=> ?_;obtain⟨n1,n2,n3,_⟩:=L.toAt.bo K;have nb:=gh K.toFix;have f0:=K.toFix.pos;have f1:=K.toFix.p1;have hk:=I.k0;have hf:=I.fits;have hx:=I.exp;have ht:=I.tch;have off:=λ{o w:Nat} (h:o+w≤C.sz (C.cl p))=>L.toAt.off K h;obtain⟨e1,e2⟩:=off (o:=44) (w:=1) (by omega);obtain⟨e3,e4⟩:=off (o:=48) (w:=4) (by omega);obtain⟨e5,e6⟩:=off (o:=56) (w:=kl C.A p) (by omega);obtain⟨e7,e8⟩:=off (o:=56+kl C.A p) (w:=vl C.A p) (by omega);obtain⟨g1,g2⟩:=off (o:=40) (w:=4) (by omega);obtain⟨g3,g4⟩:=off (o:=16) (w:=8) (by omega);obtain⟨g5,g6⟩:=off (o:=24) (w:=8) (by omega);obtain⟨g7,g8⟩:=off (o:=32) (w:=8) (by omega);obtain⟨j1,j2⟩:=off (o:=45) (w:=1) (by omega);obtain⟨j3,j4⟩:=off (o:=46) (w:=1) (by omega);have r1:rd C.A (p+40) 4<256^4:=oO _ _ _;have r2:rd C.A (p+45) 1<256^1:=oO _ _ _;have r3:rd C.A (p+46) 1<256^1:=oO _ _ _;refine ae func88 rfl ntmps88 rfl ?_;intro F aw;refine ay ?_;refine Lp (oA T.bW λb1=> ?_);refine bc ?_;refine zl T.oY (lJ b C y K hy p L) .nil (λ_ le _=>In.mono aw le) ?_;unfold qf;refine aZ ?_;refine Lp (oA T.ie λb2=> ?_);refine cI ?_;refine zf 16 ?_ (e:=by rfl);refine ay ?_;refine zl T.jj (gx y.a y.ab C.aq (C.n*C.aq) p (C.cl p) (C.sz (C.cl p)) C.A f0 e1 nb e2 f1) .nil (λ_ le _=>fC aw le) ?_;refine aZ ?_;refine cu ?_;refine a8 ?_;refine au ?_;refine gK 28 T.mix (.cons .here .nil) λF1 iT cj aI=> ?_;obtain⟨hb,_⟩:=cj;have ez:=In.mono aw iT;refine a8 ?_;refine Tp (oC T.jj rfl rfl (gx y.a y.ab C.aq (C.n*C.aq) p (C.cl p) (C.sz (C.cl p)) C.A f0 e1 nb e2 f1) .nil (λ_ le _=>fC ez le) ?_);rintro v H' ⟨rfl,rfl⟩;refine bd ?_;refine Tp (oC T.Fq rfl rfl (xA y.a y.ab C.aq (C.n*C.aq) p 56 (C.cl p) (C.sz (C.cl p)) (kl C.A p) C.A f0 e5 nb e6 f1) .nil (λ_ le _=>fC ez le) ?_);rintro v H' ⟨kb,rfl,rfl⟩;refine bd ?_;refine a8 ?_;refine Tp (oC T.jj rfl rfl (gx y.a y.ab C.aq (C.n*C.aq) p (C.cl p) (C.sz (C.cl p)) C.A f0 e1 nb e2 f1) .nil (λ_ le _=>fC ez le) ?_);rintro v H' ⟨rfl,rfl⟩;refine bd ?_;refine ay ?_;refine ao (t:=30) (v':=(.int .i64 ((56+kl C.A p:Nat):Int))) rfl (by rfl) ?_;refine ay ?_;refine Tp (oC T.Px rfl rfl (zM y.a y.ab C.aq (C.n*C.aq) p (C.cl p) (C.sz (C.cl p)) C.A f0 e3 nb e4 f1) .nil (λ_ le _=>fC ez le) ?_);rintro v H' ⟨rfl,rfl⟩;refine bd ?_;refine Tp (oC T.Fq rfl rfl (xA y.a y.ab C.aq (C.n*C.aq) p (56+kl C.A p) (C.cl p) (C.sz (C.cl p)) (vl C.A p) C.A f0 e7 nb e8 f1) .nil (λ_ le _=>fC ez le) ?_);rintro v H' ⟨vb,rfl,rfl⟩;refine bd ?_;refine ay ?_;refine Tp (oC T.Fo rfl rfl (py y.a y.ab C.aq (C.n*C.aq) p 40 (C.cl p) (C.sz (C.cl p)) C.A f0 g1 nb g2 f1) .nil (λ_ le _=>fC ez le) ?_);rintro v H' ⟨rfl,rfl⟩;refine bd ?_;refine Ti (Cv T.M5 T.EP) ?_;refine ay ?_;refine Tp (oC T.AJ rfl rfl (lN y.a y.ab C.aq (C.n*C.aq) p 16 (C.cl p) (C.sz (C.cl p)) C.A f0 g3 nb g4 f1) .nil (λ_ le _=>fC ez le) ?_);rintro v H' ⟨rfl,rfl⟩;refine bd ?_;refine Ti (Cv T.u_3 T.GX) ?_;refine ay ?_;refine Tp (oC T.AJ rfl rfl (lN y.a y.ab C.aq (C.n*C.aq) p 24 (C.cl p) (C.sz (C.cl p)) C.A f0 g5 nb g6 f1) .nil (λ_ le _=>fC ez le) ?_);rintro v H' ⟨rfl,rfl⟩;refine bd ?_;refine Ti (Cv T.u_3 T.GX) ?_;refine ay ?_;refine Tp (oC T.AJ rfl rfl (lN y.a y.ab C.aq (C.n*C.aq) p 32 (C.cl p) (C.sz (C.cl p)) C.A f0 g7 nb g8 f1) .nil (λ_ le _=>fC ez le) ?_);rintro v H' ⟨rfl,rfl⟩;refine bd ?_;refine ay ?_;refine Tp (oC T.AI rfl rfl (nN y.a y.ab C.aq (C.n*C.aq) p 45 (C.cl p) (C.sz (C.cl p)) C.A f0 j1 nb j2 f1) .nil (λ_ le _=>fC ez le) ?_);rintro v H' ⟨rfl,rfl⟩;refine bd ?_;refine Ti (Cv T.u_3 T.YY) ?_;refine ay ?_;refine Tp (oC T.AI rfl rfl (nN y.a y.ab C.aq (C.n*C.aq) p 46 (C.cl p) (C.sz (C.cl p)) C.A f0 j3 nb j4 f1) .nil (λ_ le _=>fC ez le) ?_);rintro v H' ⟨rfl,rfl⟩;refine bd ?_;refine Ti (Cv T.u_3 T.YY) ?_;refine gd aI ?_;refine ay ?_;refine Tp (eJ T.dR ?_);refine aZ ?_;refine Jd [own (some ⟨kb,0,none⟩) (kl C.A p) 5 1 (ai (jt C.A (p+56) (kl C.A p))),own (some ⟨vb,0,none⟩) (vl C.A p) 5 1 (ai (jt C.A (p+(56+kl C.A p)) (vl C.A p)))] T.dR results88 ?_;exact⟨kb,vb,rfl,by unfold aL oo;rw[agV p 56]⟩
theorem C7 (b:Nat)(C:Cs)(K:Ok C)(p:Nat)(L:Live C p)(I:ic C p)(a:Option Addr)(m c:Nat)(l:List UInt8)(hm:m=l.length)(hl:l.length<281474976710656):
  aH acw 85 [.pointer (some ⟨b,0,none⟩), .int .u64 (C.hd p:Int), .slice a m c] (λh=>In (Cl b C) h∧dU h a (ai l)) []
   (λv H=>v= .bool (decide (aL C.A p=l))∧H= []):=by
 suffices h:∀y,gL C y→aH acw 85 [.pointer (some ⟨b,0,none⟩), .int .u64 (C.hd p:Int), .slice a m c] (λh=>In (CL b C y) h∧dU h a (ai l)) []
   (λv H=>v= .bool (decide (aL C.A p=l))∧H= [])from λF w hp s=>by
  obtain⟨⟨k,⟨y,hy,q⟩,le⟩,r⟩:=hp;exact h y hy F w ⟨⟨k,q,le⟩,r⟩ s
 intro y hy;obtain⟨n1,n2,n3,_⟩:=L.toAt.bo K;have nb:=gh K.toFix;have f0:=K.toFix.pos;have f1:=K.toFix.p1;have hk:=I.k0;have hf:=I.fits;have off:=λ{o w:Nat} (h:o+w≤C.sz (C.cl p))=>L.toAt.off K h;obtain⟨e1,e2⟩:=off (o:=44) (w:=1) (by omega);obtain⟨e5,e6⟩:=off (o:=56) (w:=kl C.A p) (by omega);refine ae func85 rfl ntmps85 rfl ?_;rintro F ⟨aw,hr⟩;refine bB ?_;refine zl T.oY (lJ b C y K hy p L) .nil (λ_ le _=>In.mono aw le) ?_;unfold qf;refine aZ ?_;refine Lp (oA T.ie λb1=> ?_);refine aZ ?_;refine au ?_;refine gK 15 T.mix (.cons .here .nil) λF1 iT cj aI=> ?_;obtain⟨hb,_⟩:=cj;have ez:=In.mono aw iT;have Xn:=dU.mono hr iT;refine aZ ?_;refine zt 17 ?_ (e:=by rfl);refine ay ?_;refine Tp (oC T.jj rfl rfl (gx y.a y.ab C.aq (C.n*C.aq) p (C.cl p) (C.sz (C.cl p)) C.A f0 e1 nb e2 f1) .nil (λ_ le _=>fC ez le) ?_);rintro v H' ⟨rfl,rfl⟩;refine bd ?_;refine a8 ?_;refine ao (t:=21) (v':=(.bool true)) rfl (by rw[decide_eq_true (by omega)]) ?_;refine ay ?_;refine zt 22 ?_ (e:=by rfl);refine a8 ?_;refine Tp (oC T.jj rfl rfl (gx y.a y.ab C.aq (C.n*C.aq) p (C.cl p) (C.sz (C.cl p)) C.A f0 e1 nb e2 f1) .nil (λ_ le _=>fC ez le) ?_);rintro v H' ⟨rfl,rfl⟩;refine bd ?_;refine Tp (oC T.Fq rfl rfl (xA y.a y.ab C.aq (C.n*C.aq) p 56 (C.cl p) (C.sz (C.cl p)) (kl C.A p) C.A f0 e5 nb e6 f1) .nil (λ_ le _=>fC ez le) ?_);rintro v H' ⟨kb,rfl,rfl⟩;refine bd ?_;refine ay ?_;refine Tp (oC T.abB rfl rfl (Mh (some ⟨kb,0,none⟩) a (kl C.A p) c (kl C.A p) m (aL C.A p) l (by unfold aL;rw[dC]) hm (by unfold aL;rw[dC];omega) (by omega)) .nil (λ_ le aw=>⟨bD aw.1,Xn.mono le⟩) ?_);rintro v H' ⟨rfl,rfl⟩;refine bd ?_;refine ay ?_;refine gd aI ?_;refine aZ ?_;refine Rt [] results85 ?_;exact⟨rfl,rfl⟩
def crlf:List UInt8:= [13,10]
def eM (A:By)(p:Nat)(v:List UInt8):By:=
 lay (lay (wr A (p+48) 4 v.length) (p+56+kl A p) v) (p+56+kl A p+v.length) crlf
theorem afb (A:By)(p w v:Nat):kl (wr A (p+48) w v) p=kl A p:=aP A _ w v _ _ (.inl (by omega))
theorem IF (a ab aq n p c s m cc:Nat)(sa:Option Addr)(l:List UInt8)(A:By)(hm:m=l.length)(hl:l.length<4294967296)(h0:0<aq)(h2:n≤1073741824)(h4:aq≤1048576)
  (off:∀o w,o+w≤s→p+o+w≤n∧(p+o) % aq+w≤aq) (hs:58+kl A p+l.length≤s):
  aH acw 176 [.agg (qf a p c s).toArray, .slice sa m cc] (λh=>In (ag a 192 (iq ab aq n)) h∧dU h sa (ai l)) [ag ab 5 (dT A n)]
   (λu H=>u= .tuple #[]∧H= [ag ab 5 (dT (eM A p l) n)]):=by
 obtain⟨e1,e2⟩:=off 44 1 (by omega);obtain⟨e3,e4⟩:=off 48 4 (by omega);obtain⟨e5,e6⟩:=off (56+kl A p) l.length (by omega);obtain⟨e7,e8⟩:=off (56+kl A p+l.length) 2 (by omega);subst hm;have hkw:=afb A p 4 l.length;unfold qf;refine ae func176 rfl ntmps176 rfl ?_;rintro F ⟨ha,hr⟩;refine ay ?_;refine Lp (oB λb1=> ?_);refine bB ?_;refine zl T.wN (jL a ab aq n p 48 c s l.length A (by omega) h0 e3 h2 e4 h4) (.cons (.there .here) .nil) (λ_ le _=>ha.mono le) ?_;refine aZ ?_;refine zl T.jj (gx a ab aq n p c s (wr A (p+48) 4 l.length) h0 e1 h2 e2 h4) .nil (λ_ le aw=>⟨ha.mono le,aw.1⟩) ?_;rw[hkw];refine aR ?_;refine ao (t:=15) (v':=(.int .i64 ((56+kl A p+l.length:Nat):Int))) rfl (by rfl) ?_;refine dQ ?_;refine ao (t:=24) (v':=(.int .i64 ((p+(56+kl A p):Nat):Int))) rfl (by(congr 1;omega)) ?_;refine ay ?_;refine zl T.Fb (pq a ab aq n (p+(56+kl A p)) l.length cc (wr A (p+48) 4 l.length) sa l rfl h0 e5 h2 e6 h4) (.cons .here .nil) (λ_ le _=>⟨ha.mono le,hr.mono le⟩) ?_;refine cI ?_;refine ao (t:=32) (v':=(.int .i64 ((p+(56+kl A p+l.length):Nat):Int))) rfl (by rfl) ?_;refine Lp (oT T.gj λb2=> ?_);refine Lp (oMk T.ll T.qw ?_);refine zl T.Fb (pq a ab aq n (p+(56+kl A p+l.length)) 2 2 (lay (wr A (p+48) 4 l.length) (p+(56+kl A p)) l) (some ⟨b2,0,none⟩) crlf rfl h0 e7 h2 e8 h4) (.cons (.there .here) .nil) (λ_ le aw=>⟨ha.mono le,by obtain⟨⟨k,q,l⟩,_⟩:=aw;exact(pF (i:=0) q).mono l⟩) ?_;refine az ?_;rw[show lay (lay (wr A (p+48) 4 l.length) (p+(56+kl A p)) l) (p+(56+kl A p+l.length)) crlf=eM A p l by unfold eM;rw[agV p,agV p]];refine jM [ag ab 5 (dT (eM A p l) n)] results176 ?_;exact⟨rfl,rfl⟩
theorem J8 (b:Nat)(C:Cs)(K:Ok C)(p:Nat)(L:Live C p)(hk:kl C.A p≠0)(a:Option Addr)(m c:Nat)(l:List UInt8)(hm:m=l.length)(hf:58+kl C.A p+l.length≤C.sz (C.cl p)):
  aH acw 114 [.pointer (some ⟨b,0,none⟩), .int .u64 (C.hd p:Int), .slice a m c] (λh=>dU h a (ai l)) [Cl b C]
   (λv H=>v= .int .i64 0∧H= [Cl b (C.wA (eM C.A p l))]):=by
 refine o8 λy hy=> ?_;obtain⟨n1,n2,n3,_⟩:=L.toAt.bo K;have nb:=gh K.toFix;have f0:=K.toFix.pos;have f1:=K.toFix.p1;have off:=λ(o w:Nat) (h:o+w≤C.sz (C.cl p))=>L.toAt.off K h;obtain⟨e1,e2⟩:=off 44 1 (by omega);refine ae func114 rfl ntmps114 rfl ?_;intro F hr;refine bB ?_;refine zl T.AE (vy b C y K hy p L hk) .nil (λ_ le aw=>aw.1) ?_;unfold qf;refine aZ ?_;refine Lp (oA T.ie λb1=> ?_);refine aR ?_;refine au ?_;refine gK 12 T.mix (.cons .here (.cons .here .nil)) λF1 iT cj aI=> ?_;obtain⟨hb,fb,_⟩:=cj;have Xn:=dU.mono hr iT;refine aZ ?_;refine zt 17 ?_ (e:=by rfl);refine bB ?_;refine Tp (oC T.jj rfl rfl (gx y.a y.ab C.aq (C.n*C.aq) p (C.cl p) (C.sz (C.cl p)) C.A f0 e1 nb e2 f1) .nil (λ_ le aw=>fC fb le) ?_);rintro v H' ⟨rfl,rfl⟩;refine bd ?_;refine a8 ?_;refine gd aI ?_;refine ao (t:=26) (v':=(.bool false)) rfl (by(rw[hm];rw[decide_eq_false (by omega)])) ?_;refine fF ?_;refine Hh (H':= [CL b C y,ag b1 228 [.pointer (some ⟨y.a,0,none⟩), .int .i64 (p:Int), .int .i64 (C.cl p:Int), .int .i64 (C.sz (C.cl p):Int)]]) ?_;refine Cf ?_;refine zl T.OY (IF y.a y.ab C.aq (C.n*C.aq) p (C.cl p) (C.sz (C.cl p)) m c a l C.A hm (by omega) f0 nb f1 off hf) (.cons .here .nil) (λ_ le aw=>⟨aw.1,hr.mono le⟩) ?_;refine aC (λ_ s=>mX hy s) ?_;refine bB ?_;refine Rt [Cl b (C.wA (eM C.A p l))] results114 ?_;exact⟨rfl,rfl⟩
def qB (A:By)(p k:Nat):By:=(List.range k).foldl (λA i=>wr A (p+4*i) 4 0) A
def GP (A:By)(p c kn fl exp tch tok st mk:Nat):By:=
 wr (wr (wr (wr (wr (wr (wr (wr (wr (qB A p 3) (p+16) 8 exp) (p+24) 8 tch) (p+32) 8 tok) (p+40) 4 fl) (p+44) 1 kn) (p+45) 1 st) (p+46) 1 mk) (p+47) 1 c) (p+52) 4 0
def lr (A:By)(p c:Nat)(k v:List UInt8)(fl exp tch tok st mk:Nat):By:=
 eM (lay (GP A p c k.length fl exp tch tok st mk) (p+56) k) p v
theorem sn (A:By)(p k:Nat):qB A p (k+1)=wr (qB A p k) (p+4*k) 4 0:=by unfold qB;rw[List.range_succ,List.foldl_append];rfl
theorem E3 (A:By)(p c kn fl exp tch tok st mk:Nat)(k:List UInt8)(h:kn<256):kl (lay (GP A p c kn fl exp tch tok st mk) (p+56) k) p=kn:=by
 unfold kl GP;rw[eG _ _ _ _ _ (.inl (by omega)),aP _ _ _ _ _ _ (.inl (by omega)),aP _ _ _ _ _ _ (.inl (by omega)),aP _ _ _ _ _ _ (.inl (by omega)),aP _ _ _ _ _ _ (.inl (by omega)),du];exact ac9 (by rw[Nat.pow_one];exact h)
theorem fR{l:List UInt8}(h:cO l=true):1≤l.length∧l.length≤250:=by
 unfold cO at h;rw[Bool.and_eq_true,decide_eq_true_iff]at h;exact h.1
theorem Ww (b:Nat)(C:Cs)(K:Ok C)(p:Nat)(L:Live C p)(ka va:Option Addr)(kc vc km vm:Nat)(k v:List UInt8)(hkm:km=k.length)(hvm:vm=v.length)(fl exp tch tok st mk:Nat)
  (hl:cO k=true) (hf:58+k.length+v.length≤C.sz (C.cl p)) (h1:fl<4294967296) (h2:exp<9223372036854775808) (h3:tch<9223372036854775808) (h4:tok<18446744073709551616) (h5:1≤st∧st≤4) (h6:mk<16):
  aH acw 160 [.pointer (some ⟨b,0,none⟩), .int .u64 (C.hd p:Int), .agg (D8 (.slice ka km kc) (.slice va vm vc) fl exp tch tok st mk).toArray] (λh=>dU h ka (ai k)∧dU h va (ai v)) [Cl b C]
   (λu H=>u= .int .i64 0∧H= [Cl b (C.wA (lr C.A p (C.cl p) k v fl exp tch tok st mk))]):=by
 refine o8 λy hy=> ?_;obtain⟨n0,n1,n2,n3,_⟩:=L.toAt.bo K;have nb:=gh K.toFix;have f0:=K.toFix.pos;have f1:=K.toFix.p1;have f2:=K.toFix.l1;obtain⟨l1,l2⟩:=fR hl;have off:=λ(o w:Nat) (h:o+w≤C.sz (C.cl p))=>L.toAt.off K h;have ml:=λ(o w:Nat) (h:o+w≤64)=>L.toAt.off K (o:=o) (w:=w) (by omega);subst hkm;subst hvm;have oh:=λX=>E3 X p (C.cl p) k.length fl exp tch tok st mk k (by omega);unfold D8;refine ae func160 rfl ntmps160 rfl ?_;rintro F ⟨El,Xn⟩;refine ay ?_;refine Lp (oB λb1=> ?_);refine bc ?_;refine zl T.oY (lJ b C y K hy p L) .nil (λ_ le aw=>aw.2.1) ?_;unfold qf;refine aZ ?_;refine Lp (oA T.ie λb2=> ?_);refine fF ?_;refine zl T.Ym (C1 ka kc k.length k rfl (by omega)) .nil (λ_ le _=>El.mono le) ?_;rw[hl];refine z7 ?_;refine cu ?_;refine bc ?_;refine zf 41 ?_;refine bc ?_;refine zf 46 ?_;refine a8 ?_;refine zl T.OO (CX (mk:Int)) .nil (λ_ _ _=>trivial) ?_;refine ay ?_;refine ao (t:=50) (v':=(.bool false)) rfl (by(rw[decide_eq_true (by omega)];rfl)) ?_;refine a8 ?_;refine zf 52 ?_ (e:=by rfl);refine bc ?_;refine zf 57 ?_;refine bc ?_;refine zf 62 ?_;refine aR ?_;refine ao (t:=66) (v':=(.bool false)) rfl (by(rw[decide_eq_false (by omega)])) ?_;refine bK ?_;refine aC (H':= [CL b C y,ag b2 228 [.pointer (some ⟨y.a,0,none⟩), .int .i64 (p:Int), .int .i64 (C.cl p:Int), .int .i64 (C.sz (C.cl p):Int)],ag b1 170 [.slice ka k.length kc, .slice va v.length vc, .int .u64 (fl:Int), .int .i64 (exp:Int), .int .i64 (tch:Int), .int .u64 (tok:Int), .int .i64 (st:Int), .int .i64 (mk:Int)]]) (by exact Eh) ?_;refine Cf ?_;refine aC (H':= [ag y.ab 5 (dT (qB C.A p 0) (C.n*C.aq)),ag y.a 192 (iq y.ab C.aq (C.n*C.aq)),clR b C y,ag b2 228 [.pointer (some ⟨y.a,0,none⟩), .int .i64 (p:Int), .int .i64 (C.cl p:Int), .int .i64 (C.sz (C.cl p):Int)],ag b1 170 [.slice ka k.length kc, .slice va v.length vc, .int .u64 (fl:Int), .int .i64 (exp:Int), .int .i64 (tch:Int), .int .u64 (tok:Int), .int .i64 (st:Int), .int .i64 (mk:Int)]]) (λ_ s=>s) ?_;refine Lo (ι:=Nat) [68,69,9,70,71,72,73,74,75,67] (λi=>i≤3) (λi=> [(67, .int .i64 (i:Int))]) (λi=> [ag y.ab 5 (dT (qB C.A p i) (C.n*C.aq)),ag y.a 192 (iq y.ab C.aq (C.n*C.aq)),clR b C y,ag b2 228 [.pointer (some ⟨y.a,0,none⟩), .int .i64 (p:Int), .int .i64 (C.cl p:Int), .int .i64 (C.sz (C.cl p):Int)],ag b1 170 [.slice ka k.length kc, .slice va v.length vc, .int .u64 (fl:Int), .int .i64 (exp:Int), .int .i64 (tch:Int), .int .u64 (tok:Int), .int .i64 (st:Int), .int .i64 (mk:Int)]]) (λi=>3-i) (0) (by simp) ?_;rintro i hI;refine aZ ?_;refine au ?_;refine av rfl ?_ ?_
 ·intro hi
  replace hi:=aD hi;refine dQ ?_;refine ao (t:=72) (v':=(.int .i64 ((4*i:Nat):Int))) rfl (by rfl) ?_;refine ay ?_;refine ao (t:=73) (v':=(.int .i64 ((4*i:Nat):Int))) rfl (by rw[ahT]) ?_;refine zl T.wN (jL y.a y.ab C.aq (C.n*C.aq) p (4*i) (C.cl p) (C.sz (C.cl p)) 0 (qB C.A p i) (by decide) f0 (ml (4*i) 4 (by omega)).1 nb (ml (4*i) 4 (by omega)).2 f1) (.cons .here .nil) (λ_ le aw=>aw.1) ?_;rw[←sn];refine bB ?_;refine az ?_;refine Ro (i+1) (by omega) (by omega)
 intro hi;replace hi:=aD hi;obtain rfl:i=3:=by omega
 refine bw ?_;refine zl T.AB (lM y.a y.ab C.aq (C.n*C.aq) p 16 (C.cl p) (C.sz (C.cl p)) exp (qB C.A p 3) (agS h2 (by decide)) f0 (ml 16 8 (by omega)).1 nb (ml 16 8 (by omega)).2 f1) (.cons .here .nil) (λ_ le aw=>aw.1) ?_;refine bB ?_;refine zl T.AB (lM y.a y.ab C.aq (C.n*C.aq) p 24 (C.cl p) (C.sz (C.cl p)) tch (wr (qB C.A p 3) (p+16) 8 exp) (agS h3 (by decide)) f0 (ml 24 8 (by omega)).1 nb (ml 24 8 (by omega)).2 f1) (.cons .here .nil) (λ_ le aw=>aw.1) ?_;refine bc ?_;refine zl T.AB (lM y.a y.ab C.aq (C.n*C.aq) p 32 (C.cl p) (C.sz (C.cl p)) tok (wr (wr (qB C.A p 3) (p+16) 8 exp) (p+24) 8 tch) (adH h4 (by decide)) f0 (ml 32 8 (by omega)).1 nb (ml 32 8 (by omega)).2 f1) (.cons .here .nil) (λ_ le aw=>aw.1) ?_;refine bB ?_;refine zl T.wN (jL y.a y.ab C.aq (C.n*C.aq) p 40 (C.cl p) (C.sz (C.cl p)) fl (wr (wr (wr (qB C.A p 3) (p+16) 8 exp) (p+24) 8 tch) (p+32) 8 tok) (adH h1 (by decide)) f0 (ml 40 4 (by omega)).1 nb (ml 40 4 (by omega)).2 f1) (.cons .here .nil) (λ_ le aw=>aw.1) ?_;refine bH ?_;refine zl T.wM (kZ y.a y.ab C.aq (C.n*C.aq) p 44 (C.cl p) (C.sz (C.cl p)) k.length (wr (wr (wr (wr (qB C.A p 3) (p+16) 8 exp) (p+24) 8 tch) (p+32) 8 tok) (p+40) 4 fl) (adC l2 (by decide)) f0 (ml 44 1 (by omega)).1 nb (ml 44 1 (by omega)).2 f1) (.cons .here .nil) (λ_ le aw=>aw.1) ?_;refine bB ?_;refine zl T.wM (kZ y.a y.ab C.aq (C.n*C.aq) p 45 (C.cl p) (C.sz (C.cl p)) st (wr (wr (wr (wr (wr (qB C.A p 3) (p+16) 8 exp) (p+24) 8 tch) (p+32) 8 tok) (p+40) 4 fl) (p+44) 1 k.length) (adC h5.2 (by decide)) f0 (ml 45 1 (by omega)).1 nb (ml 45 1 (by omega)).2 f1) (.cons .here .nil) (λ_ le aw=>aw.1) ?_;refine bB ?_;refine zl T.wM (kZ y.a y.ab C.aq (C.n*C.aq) p 46 (C.cl p) (C.sz (C.cl p)) mk (wr (wr (wr (wr (wr (wr (qB C.A p 3) (p+16) 8 exp) (p+24) 8 tch) (p+32) 8 tok) (p+40) 4 fl) (p+44) 1 k.length) (p+45) 1 st) (agS h6 (by decide)) f0 (ml 46 1 (by omega)).1 nb (ml 46 1 (by omega)).2 f1) (.cons .here .nil) (λ_ le aw=>aw.1) ?_;refine bB ?_;refine zl T.wM (kZ y.a y.ab C.aq (C.n*C.aq) p 47 (C.cl p) (C.sz (C.cl p)) (C.cl p) (wr (wr (wr (wr (wr (wr (wr (qB C.A p 3) (p+16) 8 exp) (p+24) 8 tch) (p+32) 8 tok) (p+40) 4 fl) (p+44) 1 k.length) (p+45) 1 st) (p+46) 1 mk) (adH n0 (Nat.le_trans f2 (by decide))) f0 (ml 47 1 (by omega)).1 nb (ml 47 1 (by omega)).2 f1) (.cons .here .nil) (λ_ le aw=>aw.1) ?_;refine aZ ?_;refine zl T.wN (jL y.a y.ab C.aq (C.n*C.aq) p 52 (C.cl p) (C.sz (C.cl p)) 0 (wr (wr (wr (wr (wr (wr (wr (wr (qB C.A p 3) (p+16) 8 exp) (p+24) 8 tch) (p+32) 8 tok) (p+40) 4 fl) (p+44) 1 k.length) (p+45) 1 st) (p+46) 1 mk) (p+47) 1 (C.cl p)) (by decide) f0 (ml 52 4 (by omega)).1 nb (ml 52 4 (by omega)).2 f1) (.cons .here .nil) (λ_ le aw=>aw.1) ?_;refine cN ?_;rw[show wr (wr (wr (wr (wr (wr (wr (wr (wr (qB C.A p 3) (p+16) 8 exp) (p+24) 8 tch) (p+32) 8 tok) (p+40) 4 fl) (p+44) 1 k.length) (p+45) 1 st) (p+46) 1 mk) (p+47) 1 (C.cl p)) (p+52) 4 0=GP C.A p (C.cl p) k.length fl exp tch tok st mk from rfl];generalize hX:GP C.A p (C.cl p) k.length fl exp tch tok st mk=X;refine zl T.Fb (pq y.a y.ab C.aq (C.n*C.aq) (p+56) k.length kc X ka k rfl f0 (off 56 k.length (by omega)).1 nb (off 56 k.length (by omega)).2 f1) (.cons .here .nil) (λ_ le aw=>⟨aw.1,El.mono le⟩) ?_;have hY:kl (lay X (p+56) k) p=k.length:=by rw[←hX];exact oh _
 have eY:eM (lay X (p+56) k) p v=lr C.A p (C.cl p) k v fl exp tch tok st mk:=by rw[←hX];rfl
 generalize lay X (p+56) k=Y at hY eY⊢;refine bc ?_;refine zl T.OY (IF y.a y.ab C.aq (C.n*C.aq) p (C.cl p) (C.sz (C.cl p)) v.length vc va v Y rfl (by omega) f0 nb f1 off (by rw[hY];exact hf)) (.cons .here .nil) (λ_ le aw=>⟨aw.1,Xn.mono le⟩) ?_;rw[eY];refine aC (λ_ s=>mX hy s) ?_;refine bc ?_;refine Rt [Cl b (C.wA (lr C.A p (C.cl p) k v fl exp tch tok st mk))] results160 ?_;exact⟨rfl,rfl⟩
end Go.Proofs.YtdolmecackmjdaaGreatDoor
