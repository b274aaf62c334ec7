/- Part Ph of the proof. -/
import Derived.Test.YtdolmecackmjdaaGreatDoorPd
import Derived.Test.YtdolmecackmjdaaGreatDoorPg
import Derived.LaidEqlPtr
set_option maxRecDepth 100000
open List renaming getD_eq_getElem?_getD → acy, getElem?_eq_getElem → acx, length_cons → ac7, getLast?_cons → ahg, getElem?_eq_some_iff → acz, getElem?_set_self → acD, set_set → adn, insertIdx_zero → aha, insertIdx_succ_cons → ahH, getElem?_eq_none → acK, getElem?_map → acL, map_set → adG, getElem_mem → acJ, mem_of_getElem? → acB, getElem?_insertIdx → agY, getElem?_cons_zero → agL, getElem?_cons_succ → adI, nodup_cons → acP, mem_cons_of_mem → acC, mem_cons_self → acF, length_set → acE, head?_eq_getElem? → ag2, getElem?_eraseIdx_of_ge → ac3, getElem?_eraseIdx_of_lt → ade, getLast?_eq_getElem? → agF
open Nat renaming mod_eq_of_lt → ac9
open Decidable renaming byContradiction → acH
open Go.Proofs.Tryz renaming prog → acw
open Go.Proofs.Tryz
namespace Go.Proofs.YtdolmecackmjdaaGreatDoor
open Go Go.dL Go.Proofs.YtdolmecackmjdaaGreatDoor.Cs
def eH (C:Cs)(l:List Nat):List Value:= [.int .u64 (hO C l.head?:Int), .int .u64 (hO C l.getLast?:Int), .int .i64 (l.length:Int)]
theorem V6 (C:Cs):∀l,(eH C l).length=3:=λ_=>rfl
def fP (b qb n:Nat):List Value:= [.pointer (some ⟨b,0,none⟩), .slice (some ⟨qb,0,none⟩) n n]
def sL (q b qb:Nat)(C:Cs)(Q:List (List Nat)):List aa:= [ag q 139 (fP b qb C.af.length),ag qb 327 (Q.flatMap (eH C))]
def qi (c s:Nat):Nat:=c*3+(s-1)
theorem tP (s:Nat)(h:1≤s∧s≤3):aH acw 225 [.int .i64 (s:Int)] (λ_=>True) [] (λv H=>v= .bool true∧H= []):=by
 refine ae func225 rfl ntmps225 rfl ?_;intro F _;refine bH ?_;refine zt 5 ?_;refine bB ?_;refine Rt [] results225 ?_;exact⟨by rw[decide_eq_true (by omega)],rfl⟩
theorem J7 (s:Nat)(h:¬(1≤s∧s≤3)):aH acw 225 [.int .i64 (s:Int)] (λ_=>True) [] (λv H=>v= .bool false∧H= []):=by
 refine ae func225 rfl ntmps225 rfl ?_;intro F _;refine bH ?_;refine aE (t:=5) rfl ?_ ?_
 ·intro h1
  replace h1:=aD h1;refine bB ?_;refine Rt [] results225 ?_;exact⟨by rw[decide_eq_false (by omega)],rfl⟩
 intro h1;replace h1:=aD h1;refine bB ?_;refine Rt [] results225 ?_;exact⟨rfl,rfl⟩
theorem o7 (q b qb n c s:Nat)(hc:c<n)(hn:n≤62)(h:1≤s∧s≤3):
  aH acw 223 [.pointer (some ⟨q,0,none⟩), .int .i64 (c:Int), .int .i64 (s:Int)] (In (ag q 139 (fP b qb n))) []
   (λv H=>v= .pointer (some ⟨qb,qi c s*3,none⟩)∧H= []):=by
 unfold fP;refine ae func223 rfl ntmps223 rfl ?_;intro F hq;refine cI ?_;refine zf 9 ?_;refine cN ?_;refine zf 18 ?_;refine ay ?_;refine zl T.AA (tP s h) .nil (λ_ _ _=>trivial) ?_;refine fF ?_;refine ao (t:=29) (v':=(.int .i64 ((s-1:Nat):Int))) rfl (by(congr 1;omega)) ?_;refine ay ?_;refine Li (Ia T.aco) ?_;refine aZ ?_;refine Rt [] results223 ?_;refine⟨?_,rfl⟩;unfold qi
 congr 3
 omega
def jc (A:By)(p:Nat):Nat:=rd A (p+45) 1
def ql (Q:List (List Nat))(i:Nat):List Nat:=Q.getD i []
def pv (l:List Nat):Nat→Option Nat
 |0=>none
 |k+1=>l[k]?
structure iV (C:Cs)(Q:List (List Nat)):Prop where
 len:Q.length=C.af.length*3
 lv:∀i,∀p∈ql Q i,Live C p
 it:∀i,∀p∈ql Q i,ic C p
 st:∀i,∀p∈ql Q i,1≤jc C.A p∧jc C.A p≤3∧i=qi (C.cl p) (jc C.A p)
 nd:∀i,(ql Q i).Nodup
 l1:∀i k (h:k<(ql Q i).length),rd C.A ((ql Q i)[k]+4) 4=nO (pv (ql Q i) k)
 l2:∀i k (h:k<(ql Q i).length),rd C.A ((ql Q i)[k]+8) 4=nO (ql Q i)[k+1]?
theorem pE{C:Cs}{Q:List (List Nat)}{i j:Nat}{v:Value}(hi:i<Q.length)(hv:(eH C (ql Q i))[j]?=some v):(Q.flatMap (eH C))[i*3+j]?=some v:=
 bE (V6 C) (by unfold ql;rw[acy,acx hi];rfl) hv
theorem nS{C:Cs}{Q:List (List Nat)}(O:iV C Q){c s:Nat}(hc:c<C.af.length)(h:1≤s∧s≤3):qi c s<Q.length:=by
 rw[O.len];unfold qi;omega
theorem QW (q b qb n c s:Nat)(hc:c<n)(hn:n≤62)(h:¬(1≤s∧s≤3)):
  aH acw 223 [.pointer (some ⟨q,0,none⟩), .int .i64 (c:Int), .int .i64 (s:Int)] (In (ag q 139 (fP b qb n))) []
   (λv H=>v= .pointer none∧H= []):=by
 unfold fP;refine ae func223 rfl ntmps223 rfl ?_;intro F hq;refine cI ?_;refine zf 9 ?_;refine cN ?_;refine zf 18 ?_;refine ay ?_;refine zl T.AA (J7 s h) .nil (λ_ _ _=>trivial) ?_;refine cN ?_;refine Rt [] results223 ?_;exact⟨rfl,rfl⟩
theorem xV (q b qb:Nat)(C:Cs)(K:Ok C)(p:Nat)(L:Live C p)(hk:kl C.A p≠0)(h:1≤jc C.A p∧jc C.A p≤3):
  aH acw 163 [.pointer (some ⟨q,0,none⟩), .int .u64 (C.hd p:Int)] (λh=>In (Cl b C) h∧In (ag q 139 (fP b qb C.af.length)) h) []
   (λv H=>v= .pointer (some ⟨qb,qi (C.cl p) (jc C.A p)*3,none⟩)∧H= []):=by
 have hc:=(L.toAt.bo K).1;have hl:=K.toFix.l1;unfold jc at*;refine ae func163 rfl ntmps163 rfl ?_;rintro F ⟨fb,hq⟩;have GL:=hq;unfold fP at GL;refine cN ?_;refine zl T.wv (wC b C K p L) .nil (λ_ le _=>In.mono fb le) ?_;refine bT ?_;refine a8 ?_;refine zl T.Fg (tQ b C K p L hk) .nil (λ_ le _=>In.mono fb le) ?_;refine z7 ?_;refine zl T.tj (o7 q b qb C.af.length (C.cl p) (rd C.A (p+45) 1) hc hl h) .nil (λ_ le _=>In.mono hq le) ?_;refine aZ ?_;refine Rt [] results163 ?_;exact⟨rfl,rfl⟩
theorem Gb (q b qb:Nat)(C:Cs)(K:Ok C)(p:Nat)(L:Live C p)(hk:kl C.A p≠0)(h:¬(1≤jc C.A p∧jc C.A p≤3)):
  aH acw 163 [.pointer (some ⟨q,0,none⟩), .int .u64 (C.hd p:Int)] (λh=>In (Cl b C) h∧In (ag q 139 (fP b qb C.af.length)) h) []
   (λv H=>v= .pointer none∧H= []):=by
 have hc:=(L.toAt.bo K).1;have hl:=K.toFix.l1;unfold jc at*;refine ae func163 rfl ntmps163 rfl ?_;rintro F ⟨fb,hq⟩;have GL:=hq;unfold fP at GL;refine cN ?_;refine zl T.wv (wC b C K p L) .nil (λ_ le _=>In.mono fb le) ?_;refine bT ?_;refine a8 ?_;refine zl T.Fg (tQ b C K p L hk) .nil (λ_ le _=>In.mono fb le) ?_;refine z7 ?_;refine zl T.tj (QW q b qb C.af.length (C.cl p) (rd C.A (p+45) 1) hc hl h) .nil (λ_ le _=>In.mono hq le) ?_;refine aZ ?_;refine Rt [] results163 ?_;exact⟨rfl,rfl⟩
theorem vf (q b qb:Nat)(C:Cs)(K:Ok C)(Q:List (List Nat))(O:iV C Q)(c s:Nat)(hc:c<C.af.length)(h:1≤s∧s≤3):
  aH acw 210 [.pointer (some ⟨q,0,none⟩), .int .i64 (c:Int), .int .i64 (s:Int)] (hJ (sL q b qb C Q)) []
   (λv H=>v= .int .i64 ((ql Q (qi c s)).length:Int)∧H= []):=by
 have hl:=K.toFix.l1;have k2:=pE (C:=C) (Q:=Q) (j:=2) (nS O hc h) rfl;refine ae func210 rfl ntmps210 rfl ?_;rintro F ⟨hq,hb,_⟩;refine bH ?_;refine zl T.tj (o7 q b qb C.af.length c s hc hl h) .nil (λ_ le _=>In.mono hq le) ?_;refine z7 ?_;refine Rt [] results210 ?_;exact⟨rfl,rfl⟩
theorem w9 (q b qb:Nat)(C:Cs)(K:Ok C)(Q:List (List Nat))(O:iV C Q)(c s:Nat)(hc:c<C.af.length)(h:1≤s∧s≤3):
  aH acw 195 [.pointer (some ⟨q,0,none⟩), .int .i64 (c:Int), .int .i64 (s:Int)] (hJ (sL q b qb C Q)) []
   (λv H=>v= .tuple #[.int .u64 (hO C (ql Q (qi c s)).getLast?:Int), .bool (ql Q (qi c s)).getLast?.isSome]∧H= []):=by
 have hl:=K.toFix.l1;have k1:=pE (C:=C) (Q:=Q) (j:=1) (nS O hc h) rfl;have k2:=pE (C:=C) (Q:=Q) (j:=2) (nS O hc h) rfl;rcases hz:ql Q (qi c s)with _|⟨a,l⟩
 ·rw[hz]at k1 k2
  refine ae func195 rfl ntmps195 rfl ?_;rintro F ⟨hq,hb,_⟩;refine cI ?_;refine zl T.tj (o7 q b qb C.af.length c s hc hl h) .nil (λ_ le _=>In.mono hq le) ?_;refine bH ?_;refine zf 15 ?_ (e:=by rfl);refine fF ?_;refine iH [] results195 ?_;exact⟨rfl,rfl⟩
 rw[hz]at k1 k2;refine ae func195 rfl ntmps195 rfl ?_;rintro F ⟨hq,hb,_⟩;refine cI ?_;refine zl T.tj (o7 q b qb C.af.length c s hc hl h) .nil (λ_ le _=>In.mono hq le) ?_;refine bH ?_;refine zf 15 ?_ (e:=by rfl);refine bH ?_;refine cu ?_ (e:=by exact decide_eq_false (by rw[ac7];omega));refine bK ?_;refine iH [] results195 ?_;exact⟨by rw[ahg];rfl,rfl⟩
def KlO (C:Cs)(o:Option Nat):Prop:=∀q,o=some q→kl C.A q≠0
def yD (A:By)(o1 o2:Option Nat):By:=
 let B:=match o1 with|none=>A|some a=>wr A (a+4*2) 4 (nO o2)
 match o2 with|none=>B|some e=>wr B (e+4*1) 4 (nO o1)
def qz (C:Cs)(cs:List Value)(i:Nat)(o1 o2:Option Nat):List Value:=
 let ds:=match o1 with|none=>cs.set (i*3+0) (.int .u64 (hO C o2:Int))|some _=>cs
 match o2 with|none=>ds.set (i*3+1) (.int .u64 (hO C o1:Int))|some _=>ds
theorem xa (q b qb n:Nat)(C:Cs)(K:Ok C)(cs:List Value)(i:Nat)(hi:i*3+2<cs.length)(o1 o2:Option Nat)(L1:dm C o1)(L2:dm C o2)(k1:KlO C o1)(k2:KlO C o2)(it:∀p,o2=some p→ic C p):
  aH acw 226 [.pointer (some ⟨q,0,none⟩), .pointer (some ⟨qb,i*3,none⟩), .int .u64 (hO C o1:Int), .int .u64 (hO C o2:Int)] (λ_=>True) [Cl b C,ag q 139 (fP b qb n),ag qb 327 cs]
   (λv H=>v= .tuple #[]∧H= [Cl b (C.wA (yD C.A o1 o2)),ag q 139 (fP b qb n),ag qb 327 (qz C cs i o1 o2)]):=by
 rcases o1 with _|a<;>rcases o2 with _|e
 ·unfold fP yD qz
  refine ae func226 rfl ntmps226 rfl ?_;intro F _;refine bT ?_;refine aR ?_;refine az ?_;refine jM [Cl b C,ag q 139 (fP b qb n),ag qb 327 ((cs.set (i*3+0) (.int .u64 (0:Int))).set (i*3+1) (.int .u64 (0:Int)))] results226 ?_;exact⟨rfl,rfl⟩
 ·have M:=L2 e rfl
  obtain⟨m1,m2,m3,m4,m5,m6⟩:=cB K M.toAt;unfold fP yD qz;rw[cQ];refine ae func226 rfl ntmps226 rfl ?_;intro F _;refine kx ?_;refine cu ?_;refine bH ?_;refine zl T.kL (dS b C K e 1 none M (k2 e rfl) (by omega) L1) (.cons .here .nil) (λ_ _ _=>trivial) ?_;refine az ?_;refine jM [Cl b (C.wA (wr C.A (e+4*1) 4 (nO none))),ag q 139 (fP b qb n),ag qb 327 (cs.set (i*3+0) (.int .u64 (C.hd e:Int)))] results226 ?_;exact⟨rfl,rfl⟩
 ·have M:=L1 a rfl
  obtain⟨m1,m2,m3,m4,m5,m6⟩:=cB K M.toAt;unfold fP yD qz;rw[cQ];refine ae func226 rfl ntmps226 rfl ?_;intro F _;refine bc ?_;refine cu ?_;refine bH ?_;refine zl T.kL (dS b C K a 2 none M (k1 a rfl) (by omega) L2) (.cons .here .nil) (λ_ _ _=>trivial) ?_;refine dQ ?_;refine az ?_;refine jM [Cl b (C.wA (wr C.A (a+4*2) 4 (nO none))),ag q 139 (fP b qb n),ag qb 327 (cs.set (i*3+1) (.int .u64 (C.hd a:Int)))] results226 ?_;exact⟨rfl,rfl⟩
 have M:=L1 a rfl;have N:=L2 e rfl;obtain⟨m1,m2,m3,m4,m5,m6⟩:=cB K M.toAt;obtain⟨u1,u2,u3,u4,u5,u6⟩:=cB K N.toAt;have kp:=vp K N.toAt M.toAt (it e rfl) (a:=4*2) (n:=4) (v:=nO (some e)) (by omega);unfold fP yD qz;rw[cQ,cQ];refine ae func226 rfl ntmps226 rfl ?_;intro F _;refine bc ?_;refine cu ?_;refine bH ?_;refine zl T.kL (dS b C K a 2 (some e) M (k1 a rfl) (by omega) L2) (.cons .here .nil) (λ_ _ _=>trivial) ?_;refine bc ?_;refine cu ?_;refine bH ?_;refine zl T.kL (dS b (C.wA (wr C.A (a+4*2) 4 (nO (some e)))) (K.wA _) e 1 (some a) (N.wA _) (λh=>k2 e rfl (by rw[←kp.kl];exact h)) (by omega) (λq hq=>(L1 q hq).wA _)) (.cons .here .nil) (λ_ _ _=>trivial) ?_;refine az ?_;refine jM [Cl b ((C.wA (wr C.A (a+4*2) 4 (nO (some e)))).wA (wr (wr C.A (a+4*2) 4 (nO (some e))) (e+4*1) 4 (nO (some a)))),ag q 139 (fP b qb n),ag qb 327 cs] results226 ?_;exact⟨rfl,rfl⟩
theorem Wr{C:Cs}(K:Ok C){p q:Nat}(L:At C p)(M:At C q)(I:ic C p)(v:Nat):Kept C (wr C.A (q+45) 1 v) p:=by
 have n1:=(L.bo K).2.1;have m1:=(M.bo K).2.1;have hf:=I.fits;have r:=λ(o w:Nat) (h1:o+w≤45∨46≤o) (h2:o+w≤C.sz (C.cl p))=>kJ K L M (a:=45) (n:=1) (v:=v) (o:=o) (w:=w) (by omega) h2 (λ_=>by omega);have e1:kl (wr C.A (q+45) 1 v) p=kl C.A p:=r 44 1 (by omega) (by omega);have e2:vl (wr C.A (q+45) 1 v) p=vl C.A p:=r 48 4 (by omega) (by omega);refine⟨e1,e2, ?_,λJ=>⟨?_, ?_, ?_, ?_⟩⟩
 ·unfold aL
  rw[e1];exact HC K L M (by omega) (by omega) (λ_=>by omega)
 ·rw[cS,e1];exact J.k0
 ·rw[cS,e1,e2];exact J.fits
 ·rw[cS,r 16 8 (by omega) (by omega)];exact J.exp
 rw[cS,r 24 8 (by omega) (by omega)];exact J.tch
def hG (C:Cs)(o:Option Nat):Prop:=∀q,o=some q→Live C q∧ic C q
theorem hG.lv{C:Cs}{o:Option Nat}(h:hG C o):dm C o:=λq e=>(h q e).1
theorem hG.kl{C:Cs}{o:Option Nat}(h:hG C o):KlO C o:=λq e=>(h q e).2.k0
theorem hG.link{C:Cs}(K:Ok C){o:Option Nat}(h:hG C o){p:Nat}(M:Live C p){a n v:Nat}(ha:a+n≤12):hG (C.wA (wr C.A (p+a) n v)) o:=
 λq e=>⟨(h q e).1.wA _,(vp K (h q e).1.toAt M.toAt (h q e).2 ha).it (h q e).2⟩
theorem hG.state{C:Cs}(K:Ok C){o:Option Nat}(h:hG C o){p:Nat}(M:Live C p)(v:Nat):hG (C.wA (wr C.A (p+45) 1 v)) o:=
 λq e=>⟨(h q e).1.wA _,(Wr K (h q e).1.toAt M.toAt (h q e).2 v).it (h q e).2⟩
theorem hG.join{C:Cs}(K:Ok C){o:Option Nat}(h:hG C o){o1 o2:Option Nat}(h1:hG C o1)(h2:hG C o2):hG (C.wA (yD C.A o1 o2)) o:=by
 rcases o1 with _|a<;>rcases o2 with _|e
 ·exact h
 ·exact h.link K (h2 e rfl).1 (a:=4*1) (by omega)
 ·exact h.link K (h1 a rfl).1 (a:=4*2) (by omega)
 have g:=h.link K (h1 a rfl).1 (a:=4*2) (n:=4) (v:=nO (some e)) (by omega);exact g.link (K.wA _) ((h2 e rfl).1.wA _) (a:=4*1) (by omega)
def kD (A:By)(p s:Nat)(o1 o2:Option Nat):By:=wr (wr (wr A (p+4*1) 4 (nO o1)) (p+4*2) 4 (nO o2)) (p+45) 1 s
def lF (A:By)(p s:Nat)(o1 o2:Option Nat):By:=yD (yD (kD A p s o1 o2) o1 (some p)) (some p) o2
theorem VB (q b qb n m:Nat)(C:Cs)(K:Ok C)(cs:List Value)(i:Nat)(hi:i*3+2<cs.length)(p s:Nat)(hs:1≤s∧s≤3)(o1 o2:Option Nat)(hp:hG C (some p))(h1:hG C o1)(h2:hG C o2)
  (hn:(qz C (qz C cs i o1 (some p)) i (some p) o2)[i*3+2]?=some (.int .i64 (m:Int))) (hl:(qz C (qz C cs i o1 (some p)) i (some p) o2).length=cs.length) (Xs:(qz C cs i o1 (some p)).length=cs.length) (hm:m≤1073741824):
  aH acw 167 [.pointer (some ⟨q,0,none⟩), .pointer (some ⟨qb,i*3,none⟩), .int .u64 (C.hd p:Int), .int .i64 (s:Int), .int .u64 (hO C o1:Int), .int .u64 (hO C o2:Int)] (λ_=>True) [Cl b C,ag q 139 (fP b qb n),ag qb 327 cs]
   (λv H=>v= .tuple #[]∧H= [Cl b (C.wA (lF C.A p s o1 o2)),ag q 139 (fP b qb n),ag qb 327 ((qz C (qz C cs i o1 (some p)) i (some p) o2).set (i*3+2) (.int .i64 ((m+1:Nat):Int)))]):=by
 have L:=(hp p rfl).1;have k0:=hp.kl p rfl;have g1:=hp.link K L (a:=4*1) (n:=4) (v:=nO o1) (by omega);have a1:=h1.link K L (a:=4*1) (n:=4) (v:=nO o1) (by omega);have b1:=h2.link K L (a:=4*1) (n:=4) (v:=nO o1) (by omega);have K1:=K.wA (wr C.A (p+4*1) 4 (nO o1));have g2:=g1.link K1 (g1 p rfl).1 (a:=4*2) (n:=4) (v:=nO o2) (by omega);have a2:=a1.link K1 (g1 p rfl).1 (a:=4*2) (n:=4) (v:=nO o2) (by omega);have b2:=b1.link K1 (g1 p rfl).1 (a:=4*2) (n:=4) (v:=nO o2) (by omega);have K2:=K.wA (wr (wr C.A (p+4*1) 4 (nO o1)) (p+4*2) 4 (nO o2));have g3:=g2.state K2 (g2 p rfl).1 s;have a3:=a2.state K2 (g2 p rfl).1 s;have b3:=b2.state K2 (g2 p rfl).1 s;have K3:=K.wA (kD C.A p s o1 o2);have g4:=g3.join K3 a3 g3;have b4:=b3.join K3 a3 g3;have K4:=K.wA (yD (kD C.A p s o1 o2) o1 (some p));have j1:=xa q b qb n (C.wA (kD C.A p s o1 o2)) K3 cs i hi o1 (some p) a3.lv g3.lv a3.kl g3.kl (λu hu=>(g3 u hu).2);have j2:=xa q b qb n (C.wA (yD (kD C.A p s o1 o2) o1 (some p))) K4 (qz C cs i o1 (some p)) i (by rw[Xs];exact hi) (some p) o2 g4.lv b4.lv g4.kl b4.kl (λu hu=>(b4 u hu).2);unfold fP at*;refine ae func167 rfl ntmps167 rfl ?_;intro F _;refine bH ?_;refine zl T.kL (dS b C K p 1 o1 L k0 (by omega) h1.lv) (.cons .here .nil) (λ_ _ _=>trivial) ?_;refine cI ?_;refine zl T.kL (dS b (C.wA (wr C.A (p+4*1) 4 (nO o1))) K1 p 2 o2 (g1 p rfl).1 (g1.kl p rfl) (by omega) b1.lv) (.cons .here .nil) (λ_ _ _=>trivial) ?_;refine cI ?_;refine zl T.OM (sG b (C.wA (wr (wr C.A (p+4*1) 4 (nO o1)) (p+4*2) 4 (nO o2))) K2 p s ⟨hs.1,by omega⟩ (g2 p rfl).1 (g2.kl p rfl)) (.cons .here .nil) (λ_ _ _=>trivial) ?_;refine bB ?_;refine zl T.E9 (j1) (.cons .here (.cons .here (.cons .here .nil))) (λ_ _ _=>trivial) ?_;refine bB ?_;refine zl T.E9 (j2) (.cons .here (.cons .here (.cons .here .nil))) (λ_ _ _=>trivial) ?_;refine Hh (H':= [Cl b (C.wA (lF C.A p s o1 o2)),ag q 139 [.pointer (some ⟨b,0,none⟩), .slice (some ⟨qb,0,none⟩) n n],ag qb 327 (qz C (qz C cs i o1 (some p)) i (some p) o2)]) ?_;generalize qz C (qz C cs i o1 (some p)) i (some p) o2=ds at hn hl⊢;have uR:i*3+2<ds.length:=by rw[hl];exact hi
 refine bw ?_;refine az ?_;refine jM [Cl b (C.wA (lF C.A p s o1 o2)),ag q 139 [.pointer (some ⟨b,0,none⟩), .slice (some ⟨qb,0,none⟩) n n],ag qb 327 (ds.set (i*3+2) (.int .i64 ((m:Int)+1)))] results167 ?_;exact⟨rfl,rfl⟩
structure T3 where
 a:Value
 b:Value
 c:Value
def t3 (x:T3):List Value:= [x.a,x.b,x.c]
theorem wG:∀x,(t3 x).length=3:=λ_=>rfl
def IS (C:Cs)(l:List Nat):T3:=⟨.int .u64 (hO C l.head?:Int), .int .u64 (hO C l.getLast?:Int), .int .i64 (l.length:Int)⟩
theorem Ce (C:Cs)(Q:List (List Nat)):Q.flatMap (eH C)=(Q.map (IS C)).flatMap t3:=by
 rw[List.flatMap_map];rfl
def jnT (C:Cs)(x:T3)(o1 o2:Option Nat):T3:=
 let y:T3:=match o1 with|none=>{x with a:= .int .u64 (hO C o2:Int)}|some _=>x
 match o2 with|none=>{y with b:= .int .u64 (hO C o1:Int)}|some _=>y
theorem Nx (C:Cs)(R:List T3)(i:Nat)(x:T3)(h:R[i]?=some x)(o1 o2:Option Nat):qz C (R.flatMap t3) i o1 o2=(R.set i (jnT C x o1 o2)).flatMap t3:=by
 have hi:=(acz.1 h).1;have s0:∀(S:List T3) (y:T3) (v:Value),S[i]?=some y→(S.flatMap t3).set (i*3+0) v=(S.set i {y with a:=v}).flatMap t3:=λS y v hs=>de wG hs rfl (by decide);have s1:∀(S:List T3) (y:T3) (v:Value),S[i]?=some y→(S.flatMap t3).set (i*3+1) v=(S.set i {y with b:=v}).flatMap t3:=λS y v hs=>de wG hs rfl (by decide);have same:R.set i x=R:=by
  obtain⟨h1,h2⟩:=acz.1 h;rw[←h2,List.set_getElem_self]
 rcases o1 with _|a<;>rcases o2 with _|e
 ·unfold qz jnT
  show((R.flatMap t3).set (i*3+0) _).set (i*3+1) _=_;rw[s0 R x _ h,s1 _ _ _ (acD hi),adn]
 ·exact s0 R x _ h
 ·exact s1 R x _ h
 unfold qz jnT;show R.flatMap t3=(R.set i x).flatMap t3;rw[same]
theorem uB:∀(l:List Nat) (k p:Nat) (_:k≤l.length),(l.insertIdx k p).getLast?=if k=l.length then some p else l.getLast?
 | [],0,p,_=>rfl
 |a::l,0,p,_=>by
  rw[aha,List.getLast?_cons_cons,if_neg (by simp)]
 |a::l,k+1,p,h=>by
  rw[ahH,ahg,uB l k p (by simpa using h),ac7,ahg];by_cases e:k=l.length
  ·rw[if_pos e,if_pos (by omega)];rfl
  rw[if_neg e,if_neg (by omega)]
theorem RF (l:List Nat)(k p:Nat)(h:k≤l.length):(l.insertIdx k p).head?=if k=0 then some p else l.head?:=by
 rcases k with _|k
 ·simp
 rcases l with _|⟨a,l⟩
 ·simp at h
 simp
theorem aaD (C:Cs)(l:List Nat)(k p:Nat)(h:k≤l.length):{jnT C (jnT C (IS C l) (pv l k) (some p)) (some p) l[k]? with c:= .int .i64 ((l.length+1:Nat):Int)}=IS C (l.insertIdx k p):=by
 unfold IS;rw[RF l k p h,uB l k p h,List.length_insertIdx_of_le_length h];rcases k with _|k
 ·by_cases e:0<l.length
  ·rw[acx e,if_pos rfl,if_neg (by omega)];rfl
  rw[acK (by omega),if_pos rfl,if_pos (by omega)];rfl
 have e1:pv l (k+1)=some l[k]:=acx (by omega);by_cases e:k+1<l.length
 ·rw[e1,acx e,if_neg (by omega),if_neg (by omega)];rfl
 rw[e1,acK (by omega),if_neg (by omega),if_pos (by omega)];rfl
theorem J4 (C:Cs)(Q:List (List Nat))(i k p:Nat)(hi:i<Q.length)(h:k≤(ql Q i).length):
  (qz C (qz C (Q.flatMap (eH C)) i (pv (ql Q i) k) (some p)) i (some p) (ql Q i)[k]?).set (i*3+2) (.int .i64 (((ql Q i).length+1:Nat):Int))=(Q.set i ((ql Q i).insertIdx k p)).flatMap (eH C):=by
 have hq:(Q.map (IS C))[i]?=some (IS C (ql Q i)):=by
  unfold ql;rw[acL,acy,acx hi];rfl
 have uR:i<(Q.map (IS C)).length:=by simpa using hi
 have s2:∀(S:List T3) (y:T3) (v:Value),S[i]?=some y→(S.flatMap t3).set (i*3+2) v=(S.set i {y with c:=v}).flatMap t3:=λS y v hs=>de wG hs rfl (by decide);rw[Ce,Ce,Nx C _ i _ hq,Nx C _ i _ (acD uR),adn,s2 _ _ _ (acD uR),adn,aaD C _ k p h,adG]
theorem QV (q b qb:Nat)(C:Cs)(K:Ok C)(p j:Nat)(hj:j=1∨j=2)(o:Option Nat)(L:Live C p)(hk:kl C.A p≠0)(h:1≤jc C.A p∧jc C.A p≤3)(ho:dm C o)(hn:rd C.A (p+4*j) 4=nO o):
  aH acw 211 [.pointer (some ⟨q,0,none⟩), .int .u64 (C.hd p:Int), .int .i64 (j:Int)] (λh=>In (Cl b C) h∧In (ag q 139 (fP b qb C.af.length)) h) []
   (λv H=>v= .tuple #[.int .u64 (hO C o:Int), .bool o.isSome]∧H= []):=by
 refine ae func211 rfl ntmps211 rfl ?_;rintro F ⟨fb,hq⟩;have GL:=hq;unfold fP at GL;refine cI ?_;refine zl T.Fh (xV q b qb C K p L hk h) .nil (λ_ le _=>⟨In.mono fb le,In.mono hq le⟩) ?_;refine dQ ?_;refine zl T.AK (sj b C K p j o L hk (by omega) ho hn) .nil (λ_ le _=>In.mono fb le) ?_;rcases o with _|e
 ·refine Li Mv ?_
  refine bw ?_;refine zf 26 ?_ (e:=by rfl);refine bK ?_;refine iH [] results211 ?_;exact⟨rfl,rfl⟩
 obtain⟨m1,m2,m3,m4,m5,m6⟩:=cB K (ho e rfl).toAt;rw[cQ];refine bK ?_;refine zf 26 ?_ (e:=by rfl);refine aR ?_;refine cu ?_;refine cI ?_;refine iH [] results211 ?_;exact⟨rfl,rfl⟩
theorem JR (q b qb:Nat)(C:Cs)(K:Ok C)(Q:List (List Nat))(O:iV C Q)(i k:Nat)(hk:k<(ql Q i).length):
  aH acw 146 [.pointer (some ⟨q,0,none⟩), .int .u64 (C.hd (ql Q i)[k]:Int)] (λh=>In (Cl b C) h∧In (ag q 139 (fP b qb C.af.length)) h) []
   (λv H=>v= .tuple #[.int .u64 (hO C (pv (ql Q i) k):Int), .bool (pv (ql Q i) k).isSome]∧H= []):=by
 have hp:=acJ hk;have s:=O.st i _ hp;have ho:dm C (pv (ql Q i) k):=λu hu=>by
  rcases k with _|k
  ·cases hu
  exact O.lv i u (acB hu)
 refine ae func146 rfl ntmps146 rfl ?_;rintro F ⟨fb,hq⟩;refine bH ?_;refine zl T.aa5 (QV q b qb C K (ql Q i)[k] 1 (.inl rfl) (pv (ql Q i) k) (O.lv i _ hp) (O.it i _ hp).k0 ⟨s.1,s.2.1⟩ ho (O.l1 i k hk)) .nil (λ_ le _=>⟨In.mono fb le,In.mono hq le⟩) ?_;refine bB ?_;refine iH [] results146 ?_;exact⟨rfl,rfl⟩
theorem QX (q b qb:Nat)(C:Cs)(K:Ok C)(p s:Nat)(hs:1≤s∧s≤3)(L:Live C p)(hk:kl C.A p≠0)(h:¬(1≤jc C.A p∧jc C.A p≤3)):
  aH acw 165 [.pointer (some ⟨q,0,none⟩), .int .u64 (C.hd p:Int), .int .i64 (s:Int)] (λh=>In (Cl b C) h∧In (ag q 139 (fP b qb C.af.length)) h) []
   (λv H=>v= .tuple #[.pointer (some ⟨qb,qi (C.cl p) s*3,none⟩), .int .i64 0]∧H= []):=by
 have hc:=(L.toAt.bo K).1;have hl:=K.toFix.l1;refine ae func165 rfl ntmps165 rfl ?_;rintro F ⟨fb,hq⟩;have GL:=hq;unfold fP at GL;refine bH ?_;refine zl T.AA (tP s hs) .nil (λ_ _ _=>trivial) ?_;refine bK ?_;refine zl T.OQ (uA b C K p L hk) .nil (λ_ le _=>In.mono fb le) ?_;refine gR ?_;refine zf 28 ?_ (e:=by rfl);refine aR ?_;refine cu ?_;refine bB ?_;refine zl T.Fh (Gb q b qb C K p L hk h) .nil (λ_ le _=>⟨In.mono fb le,In.mono hq le⟩) ?_;refine bK ?_;refine zl T.wv (wC b C K p L) .nil (λ_ le _=>In.mono fb le) ?_;refine bT ?_;refine zl T.tj (o7 q b qb C.af.length (C.cl p) s hc hl hs) .nil (λ_ le _=>In.mono hq le) ?_;refine aR ?_;refine iH [] results165 ?_;exact⟨rfl,rfl⟩
theorem ve{C:Cs}(K:Ok C){x q:Nat}(L:At C x)(M:At C q)(A:By){i j v:Nat}(hi:i≤2)(hj:j≤2)(hv:v<4294967296):rd (wr A (q+4*j) 4 v) (x+4*i) 4=if x=q∧i=j then v else rd A (x+4*i) 4:=by
 have n1:=(L.bo K).2.1;have m1:=(M.bo K).2.1
 split
 ·next h=>
  obtain⟨rfl,rfl⟩:=h;rw[du];exact ac9 hv
 next h=>exact kJ (C:=C.wA A) (K.wA A) (L.wA A) (M.wA A) (a:=4*j) (n:=4) (o:=4*i) (w:=4) (by show _≤C.sz (C.cl q);omega) (by show _≤C.sz (C.cl x);omega) (λe=>by
  have:i≠j:=λg=>h ⟨e,g⟩;omega)
theorem r8{C:Cs}(K:Ok C){x q:Nat}(L:At C x)(M:At C q)(A:By){i v:Nat}(hi:i≤2):rd (wr A (q+45) 1 v) (x+4*i) 4=rd A (x+4*i) 4:=by
 have n1:=(L.bo K).2.1;have m1:=(M.bo K).2.1;exact kJ (C:=C.wA A) (K.wA A) (L.wA A) (M.wA A) (a:=45) (n:=1) (o:=4*i) (w:=4) (by show _≤C.sz (C.cl q);omega) (by show _≤C.sz (C.cl x);omega) (λ_=>by omega)
theorem Hy{C:Cs}(K:Ok C){x q:Nat}(L:At C x)(M:At C q)(A:By){j v:Nat}(hj:j≤2):jc (wr A (q+4*j) 4 v) x=jc A x:=by
 have n1:=(L.bo K).2.1;have m1:=(M.bo K).2.1;exact kJ (C:=C.wA A) (K.wA A) (L.wA A) (M.wA A) (a:=4*j) (n:=4) (o:=45) (w:=1) (by show _≤C.sz (C.cl q);omega) (by show _≤C.sz (C.cl x);omega) (λ_=>by omega)
theorem XH{C:Cs}(K:Ok C){x q:Nat}(L:At C x)(M:At C q)(A:By){v:Nat}(hv:v<256):jc (wr A (q+45) 1 v) x=if x=q then v else jc A x:=by
 have n1:=(L.bo K).2.1;have m1:=(M.bo K).2.1
 split
 ·next h=>
  subst h;unfold jc;rw[du];exact ac9 (by rw[Nat.pow_one];exact hv)
 next h=>exact kJ (C:=C.wA A) (K.wA A) (L.wA A) (M.wA A) (a:=45) (n:=1) (o:=45) (w:=1) (by show _≤C.sz (C.cl q);omega) (by show _≤C.sz (C.cl x);omega) (λe=>absurd e h)
theorem xd (A:By)(p s:Nat)(o1 o2:Option Nat):lF A p s o1 o2=
  (match o2 with
   |none=>wr (wr (match o1 with|none=>kD A p s o1 o2|some a=>wr (kD A p s o1 o2) (a+4*2) 4 (nO (some p))) (p+4*1) 4 (nO o1)) (p+4*2) 4 (nO o2)
   |some e=>wr (wr (wr (match o1 with|none=>kD A p s o1 o2|some a=>wr (kD A p s o1 o2) (a+4*2) 4 (nO (some p))) (p+4*1) 4 (nO o1)) (p+4*2) 4 (nO o2)) (e+4*1) 4 (nO (some p))):=by
 rcases o1 with _|a<;>rcases o2 with _|e<;>rfl
theorem aaH{C:Cs}(K:Ok C){x p s:Nat}{o1 o2:Option Nat}(X:Live C x)(P:Live C p)(L1:dm C o1)(L2:dm C o2)(d2:o2≠some p):
  rd (lF C.A p s o1 o2) (x+4*1) 4=if x=p then nO o1 else if o2=some x then nO (some p)else rd C.A (x+4*1) 4:=by
 have b1:=nT K L1;have b2:=nT K L2;have bp:=nT K (o:=some p) (λq hq=>by cases hq;exact P);have l:=λ(q:Nat) (M:Live C q) (A:By) (j v:Nat) (hj:j≤2) (hv:v<4294967296)=>ve K X.toAt M.toAt A (i:=1) (j:=j) (v:=v) (by omega) hj hv;have z:=λ(A:By)=>r8 K X.toAt P.toAt A (i:=1) (v:=s) (by omega);rw[xd];rcases o1 with _|a<;>rcases o2 with _|e<;>dsimp only<;>unfold kD
 ·rw[l p P _ 2 _ (by omega) b2,l p P _ 1 _ (by omega) b1,z,l p P _ 2 _ (by omega) b2,l p P _ 1 _ (by omega) b1]
  by_cases h:x=p<;>simp[h]
 ·have E:=L2 e rfl
  have ne:e≠p:=λh=>d2 (by rw[h]);rw[l e E _ 1 _ (by omega) bp,l p P _ 2 _ (by omega) b2,l p P _ 1 _ (by omega) b1,z,l p P _ 2 _ (by omega) b2,l p P _ 1 _ (by omega) b1];by_cases h:x=p
  ·subst h;simp[Ne.symm ne]
  by_cases g:x=e
  ·subst g;simp[h]
  have g2:¬e=x:=λu=>g u.symm;simp[h,g,g2]
 ·have A':=L1 a rfl
  rw[l p P _ 2 _ (by omega) b2,l p P _ 1 _ (by omega) b1,l a A' _ 2 _ (by omega) bp,z,l p P _ 2 _ (by omega) b2,l p P _ 1 _ (by omega) b1];by_cases h:x=p<;>simp[h]
 have A':=L1 a rfl;have E:=L2 e rfl;have ne:e≠p:=λh=>d2 (by rw[h]);rw[l e E _ 1 _ (by omega) bp,l p P _ 2 _ (by omega) b2,l p P _ 1 _ (by omega) b1,l a A' _ 2 _ (by omega) bp,z,l p P _ 2 _ (by omega) b2,l p P _ 1 _ (by omega) b1];by_cases h:x=p
 ·subst h;simp[Ne.symm ne]
 by_cases g:x=e
 ·subst g;simp[h]
 have g2:¬e=x:=λu=>g u.symm;simp[h,g,g2]
theorem aaG{C:Cs}(K:Ok C){x p s:Nat}{o1 o2:Option Nat}(X:Live C x)(P:Live C p)(L1:dm C o1)(L2:dm C o2)(d1:o1≠some p):
  rd (lF C.A p s o1 o2) (x+4*2) 4=if x=p then nO o2 else if o1=some x then nO (some p)else rd C.A (x+4*2) 4:=by
 have b1:=nT K L1;have b2:=nT K L2;have bp:=nT K (o:=some p) (λq hq=>by cases hq;exact P);have l:=λ(q:Nat) (M:Live C q) (A:By) (j v:Nat) (hj:j≤2) (hv:v<4294967296)=>ve K X.toAt M.toAt A (i:=2) (j:=j) (v:=v) (by omega) hj hv;have z:=λ(A:By)=>r8 K X.toAt P.toAt A (i:=2) (v:=s) (by omega);rw[xd];rcases o1 with _|a<;>rcases o2 with _|e<;>dsimp only<;>unfold kD
 ·rw[l p P _ 2 _ (by omega) b2,l p P _ 1 _ (by omega) b1,z,l p P _ 2 _ (by omega) b2,l p P _ 1 _ (by omega) b1]
  by_cases h:x=p<;>simp[h]
 ·have E:=L2 e rfl
  rw[l e E _ 1 _ (by omega) bp,l p P _ 2 _ (by omega) b2,l p P _ 1 _ (by omega) b1,z,l p P _ 2 _ (by omega) b2,l p P _ 1 _ (by omega) b1];by_cases h:x=p<;>simp[h]
 ·have A':=L1 a rfl
  rw[l p P _ 2 _ (by omega) b2,l p P _ 1 _ (by omega) b1,l a A' _ 2 _ (by omega) bp,z,l p P _ 2 _ (by omega) b2,l p P _ 1 _ (by omega) b1];by_cases h:x=p
  ·simp[h]
  by_cases g:x=a
  ·subst g;simp[h]
  have g2:¬a=x:=λu=>g u.symm;simp[h,g,g2]
 have A':=L1 a rfl;have E:=L2 e rfl;rw[l e E _ 1 _ (by omega) bp,l p P _ 2 _ (by omega) b2,l p P _ 1 _ (by omega) b1,l a A' _ 2 _ (by omega) bp,z,l p P _ 2 _ (by omega) b2,l p P _ 1 _ (by omega) b1];by_cases h:x=p
 ·simp[h]
 by_cases g:x=a
 ·subst g;simp[h]
 have g2:¬a=x:=λu=>g u.symm;simp[h,g,g2]
theorem aaE{C:Cs}(K:Ok C){x p s:Nat}{o1 o2:Option Nat}(X:Live C x)(P:Live C p)(L1:dm C o1)(L2:dm C o2)(hs:s<256):
  jc (lF C.A p s o1 o2) x=if x=p then s else jc C.A x:=by
 have l:=λ(q:Nat) (M:Live C q) (A:By) (j v:Nat) (hj:j≤2)=>Hy K X.toAt M.toAt A (j:=j) (v:=v) hj;have z:=λ(A:By)=>XH K X.toAt P.toAt A (v:=s) hs;rw[xd];rcases o1 with _|a<;>rcases o2 with _|e<;>dsimp only<;>unfold kD
 ·rw[l p P _ 2 _ (by omega),l p P _ 1 _ (by omega),z,l p P _ 2 _ (by omega),l p P _ 1 _ (by omega)]
 ·rw[l e (L2 e rfl) _ 1 _ (by omega),l p P _ 2 _ (by omega),l p P _ 1 _ (by omega),z,l p P _ 2 _ (by omega),l p P _ 1 _ (by omega)]
 ·rw[l p P _ 2 _ (by omega),l p P _ 1 _ (by omega),l a (L1 a rfl) _ 2 _ (by omega),z,l p P _ 2 _ (by omega),l p P _ 1 _ (by omega)]
 rw[l e (L2 e rfl) _ 1 _ (by omega),l p P _ 2 _ (by omega),l p P _ 1 _ (by omega),l a (L1 a rfl) _ 2 _ (by omega),z,l p P _ 2 _ (by omega),l p P _ 1 _ (by omega)]
theorem fG{Q:List (List Nat)}{i:Nat}(h:i<Q.length)(l:List Nat)(j:Nat):ql (Q.set i l) j=if j=i then l else ql Q j:=by
 unfold ql
 split
 ·next e=>rw[e];exact ma h l
 next e=>exact getD_set_ne (λg=>e g.symm) l
theorem HW{l:List Nat}{k p x:Nat}(h:k≤l.length)(hx:x∈l.insertIdx k p):x=p∨x∈l:=(List.mem_insertIdx h).1 hx
theorem aan (l:List Nat)(k p j:Nat)(h:k≤l.length)(hj:j<(l.insertIdx k p).length):pv (l.insertIdx k p) j=if j=0 then none else if j-1<k then l[j-1]? else if j-1=k then some p else l[j-2]?:=by
 rcases j with _|j
 ·rfl
 show(l.insertIdx k p)[j]?=_;rw[agY,if_neg (show¬j+1=0 by omega),show j+1-1=j from rfl,show j+1-2=j-1 by omega];by_cases h1:j<k
 ·rw[if_pos h1,if_pos h1]
 rw[if_neg h1,if_neg h1];by_cases h2:j=k
 ·rw[if_pos h2,if_pos h2,if_pos (by omega)]
 rw[if_neg h2,if_neg h2]
theorem J5{C:Cs}(K:Ok C){p s:Nat}{o1 o2:Option Nat}(hp:hG C (some p))(h1:hG C o1)(h2:hG C o2){o:Option Nat}(h:hG C o):hG (C.wA (lF C.A p s o1 o2)) o:=by
 have L:=(hp p rfl).1;have s1:=λ{o:Option Nat} (h:hG C o)=>h.link K L (a:=4*1) (n:=4) (v:=nO o1) (by omega);have K1:=K.wA (wr C.A (p+4*1) 4 (nO o1));have s2:=λ{o:Option Nat} (h:hG C o)=>(s1 h).link K1 (s1 hp p rfl).1 (a:=4*2) (n:=4) (v:=nO o2) (by omega);have K2:=K.wA (wr (wr C.A (p+4*1) 4 (nO o1)) (p+4*2) 4 (nO o2));have s3:=λ{o:Option Nat} (h:hG C o)=>(s2 h).state K2 (s2 hp p rfl).1 s;have K3:=K.wA (kD C.A p s o1 o2);have s4:=λ{o:Option Nat} (h:hG C o)=>(s3 h).join K3 (s3 h1) (s3 hp);have K4:=K.wA (yD (kD C.A p s o1 o2) o1 (some p));exact(s4 h).join K4 (s4 hp) (s4 h2)
theorem gN:∀{l:List Nat} {i j x:Nat},l.Nodup→l[i]?=some x→l[j]?=some x→i=j
 | [],i,j,x,_,h,_=>by simp at h
 |a::l,0,0,x,_,_,_=>rfl
 |a::l,0,j+1,x,nd,h,g=>by
  rw[agL]at h;rw[adI]at g;cases h;exact absurd (acB g) (acP.1 nd).1
 |a::l,i+1,0,x,nd,h,g=>by
  rw[agL]at g;rw[adI]at h;cases g;exact absurd (acB h) (acP.1 nd).1
 |a::l,i+1,j+1,x,nd,h,g=>by
  rw[adI]at h g;rw[gN (acP.1 nd).2 h g]
theorem Ol:∀{l:List Nat} {k p:Nat},k≤l.length→p∉l→l.Nodup→(l.insertIdx k p).Nodup
 |l,0,p,_,hp,nd=>by
  rw[aha];exact acP.2 ⟨hp,nd⟩
 | [],k+1,p,h,_,_=>by simp at h
 |a::l,k+1,p,h,hp,nd=>by
  rw[ahH];have h2:k≤l.length:=by simpa using h
  refine acP.2 ⟨λhm=> ?_,Ol h2 (λg=>hp (acC _ g)) (acP.1 nd).2⟩;rcases HW h2 hm with e|e
  ·exact hp (by rw[←e];exact acF)
  exact(acP.1 nd).1 e
theorem Io{l:List Nat}{k p m x:Nat}(hk:k≤l.length)(h:(l.insertIdx k p)[m]?=some x):m<k∧l[m]?=some x∨m=k∧x=p∨k<m∧l[m-1]?=some x:=by
 rw[agY]at h;by_cases h1:m<k
 ·rw[if_pos h1]at h;exact .inl ⟨h1,h⟩
 rw[if_neg h1]at h;by_cases h2:m=k
 ·rw[if_pos h2,if_pos (by omega)]at h
  cases h;exact .inr (.inl ⟨h2,rfl⟩)
 rw[if_neg h2]at h;exact .inr (.inr ⟨by omega,h⟩)
theorem Wu{l:List Nat}{k p m:Nat}(hk:k≤l.length):(l.insertIdx k p)[m]?=if m<k then l[m]? else if m=k then some p else l[m-1]?:=by
 rw[agY];by_cases h1:m<k
 ·rw[if_pos h1,if_pos h1]
 rw[if_neg h1,if_neg h1];by_cases h2:m=k
 ·rw[if_pos h2,if_pos h2,if_pos (by omega)]
 rw[if_neg h2,if_neg h2]
theorem iV.m1{C:Cs}{Q:List (List Nat)}(O:iV C Q){i k x:Nat}(h:(ql Q i)[k]?=some x):rd C.A (x+4) 4=nO (pv (ql Q i) k):=by
 obtain⟨h1,h2⟩:=acz.1 h;rw[←h2];exact O.l1 i k h1
theorem iV.m2{C:Cs}{Q:List (List Nat)}(O:iV C Q){i k x:Nat}(h:(ql Q i)[k]?=some x):rd C.A (x+8) 4=nO (ql Q i)[k+1]?:=by
 obtain⟨h1,h2⟩:=acz.1 h;rw[←h2];exact O.l2 i k h1
theorem qQ{l:List Nat}{k x:Nat}(h:pv l k=some x):x∈l:=by
 rcases k with _|k
 ·cases h
 exact acB h
theorem iV.MO{C:Cs}{Q:List (List Nat)}(O:iV C Q){i:Nat}{o:Option Nat}(h:∀x,o=some x→x∈ql Q i):hG C o:=λx hx=>⟨O.lv i x (h x hx),O.it i x (h x hx)⟩
theorem iV.one{C:Cs}{Q:List (List Nat)}(O:iV C Q){i j x:Nat}(h:x∈ql Q i)(g:x∈ql Q j):i=j:=by
 rw[(O.st i x h).2.2,(O.st j x g).2.2]
theorem aaF{C:Cs}(K:Ok C){Q:List (List Nat)}(O:iV C Q){p s k i:Nat}(ei:i=qi (C.cl p) s)(hi:i<Q.length)(hs:1≤s∧s≤3)(hk:k≤(ql Q i).length)(P:hG C (some p))(hn:¬(1≤jc C.A p∧jc C.A p≤3)):
  iV (C.wA (lF C.A p s (pv (ql Q i) k) (ql Q i)[k]?)) (Q.set i ((ql Q i).insertIdx k p)):=by
 have no:∀j,p∉ql Q j:=λj h=>hn ⟨(O.st j p h).1,(O.st j p h).2.1⟩;have LP:=(P p rfl).1;have I1:hG C (pv (ql Q i) k):=O.MO λx hx=>qQ hx;have I2:hG C (ql Q i)[k]?:=O.MO λx hx=>acB hx;have d1:pv (ql Q i) k≠some p:=λh=>no i (qQ h);have d2:(ql Q i)[k]?≠some p:=λh=>no i (acB h);have hm:∀j x,x∈ql (Q.set i ((ql Q i).insertIdx k p)) j→j=i∧x=p∨x≠p∧x∈ql Q j:=λj x hx=>by
  rw[fG hi]at hx
  split at hx
  ·next e=>
   rcases HW hk hx with g|g
   ·exact .inl ⟨e,g⟩
   exact .inr ⟨λz=>no i (by rw[←z];exact g),by rw[e];exact g⟩
  next e=>exact .inr ⟨λz=>no j (by rw[←z];exact hx),hx⟩
 have Uj:∀j x,x∈ql (Q.set i ((ql Q i).insertIdx k p)) j→hG C (some x):=λj x hx y hy=>by
  cases hy;rcases hm j _ hx with⟨_,rfl⟩|⟨_,h⟩
  ·exact P _ rfl
  exact⟨O.lv j _ h,O.it j _ h⟩
 have kp:=λj x hx=>J5 K (s:=s) P I1 I2 (Uj j x hx);refine⟨?_,λj x hx=>(kp j x hx x rfl).1,λj x hx=>(kp j x hx x rfl).2,λj x hx=> ?_,λj=> ?_,λj m h=> ?_,λj m h=> ?_⟩
 ·rw[acE];exact O.len
 ·show 1≤jc (lF _ _ _ _ _) x∧_∧j=qi (C.cl x) _
  rw[cS,aaE K (Uj j x hx x rfl).1 LP I1.lv I2.lv (by omega)];rcases hm j x hx with⟨rfl,rfl⟩|⟨h1,h2⟩
  ·rw[if_pos rfl];exact⟨hs.1,hs.2,ei⟩
  rw[if_neg h1];exact O.st j x h2
 ·rw[fG hi]
  split
  ·exact Ol hk (no i) (O.nd i)
  exact O.nd j
 ·have hx:(ql (Q.set i ((ql Q i).insertIdx k p)) j)[m]?=some (ql (Q.set i ((ql Q i).insertIdx k p)) j)[m]:=acx h
  generalize (ql (Q.set i ((ql Q i).insertIdx k p)) j)[m]=x at hx⊢;have Em:=acB hx;have r:=aaH K (s:=s) (Uj j x Em x rfl).1 LP I1.lv I2.lv d2;rw[cS];refine r.trans ?_;rw[fG hi]at hx⊢
  split at hx
  ·next e=>
   subst e;rw[if_pos rfl];have hml:m<((ql Q j).insertIdx k p).length:=(acz.1 hx).1;rw[aan _ _ _ _ hk hml];rcases Io hk hx with⟨h1,h2⟩|⟨h1,h2⟩|⟨h1,h2⟩
   ·have g1:x≠p:=λz=>no j (by rw[←z];exact acB h2)
    have g2:(ql Q j)[k]?≠some x:=λz=>by have:=gN (O.nd j) z h2;omega
    rw[if_neg g1,if_neg g2,O.m1 h2];rcases m with _|m
    ·rfl
    rw[if_neg (by omega),if_pos (by omega)];rfl
   ·rw[if_pos h2]
    subst h1;rcases m with _|m
    ·rfl
    rw[if_neg (by omega),if_pos (by omega)];rfl
   have g1:x≠p:=λz=>no j (by rw[←z];exact acB h2);rw[if_neg g1,if_neg (show¬m=0 by omega),if_neg (show¬m-1<k by omega)];by_cases g:m-1=k
   ·rw[if_pos g,if_pos (by rw[←g];exact h2)]
   have g2:(ql Q j)[k]?≠some x:=λz=>by have:=gN (O.nd j) z h2;omega
   rw[if_neg g2,if_neg g,O.m1 h2];obtain⟨u,rfl⟩:∃u,m=u+2:=⟨m-2,by omega⟩;rfl
  next e=>
  rw[if_neg e];have hj:=acB hx;have g1:x≠p:=λz=>no j (by rw[←z];exact hj);have g2:(ql Q i)[k]?≠some x:=λz=>e (O.one hj (acB z));rw[if_neg g1,if_neg g2,O.m1 hx]
 have hx:(ql (Q.set i ((ql Q i).insertIdx k p)) j)[m]?=some (ql (Q.set i ((ql Q i).insertIdx k p)) j)[m]:=acx h;generalize (ql (Q.set i ((ql Q i).insertIdx k p)) j)[m]=x at hx⊢;have Em:=acB hx;have r:=aaG K (s:=s) (Uj j x Em x rfl).1 LP I1.lv I2.lv d1;rw[cS];refine r.trans ?_;rw[fG hi]at hx⊢
 split at hx
 ·next e=>
  subst e;rw[if_pos rfl,Wu hk];rcases Io hk hx with⟨h1,h2⟩|⟨h1,h2⟩|⟨h1,h2⟩
  ·have g1:x≠p:=λz=>no j (by rw[←z];exact acB h2)
   rw[if_neg g1];by_cases g:m+1=k
   ·subst g
    rw[if_pos (show pv (ql Q j) (m+1)=some x from h2),if_neg (by omega),if_pos rfl]
   have g2:pv (ql Q j) k≠some x:=λz=>by
    rcases k with _|k
    ·omega
    have:=gN (O.nd j) z h2;omega
   rw[if_neg g2,if_pos (by omega),O.m2 h2]
  ·rw[if_pos h2,if_neg (by omega),if_neg (by omega),show m+1-1=k by omega]
  have g1:x≠p:=λz=>no j (by rw[←z];exact acB h2);have g2:pv (ql Q j) k≠some x:=λz=>by
    rcases k with _|k
    ·cases z
    have:=gN (O.nd j) z h2;omega
  rw[if_neg g1,if_neg g2,if_neg (by omega),if_neg (by omega),O.m2 h2,show m-1+1=m+1-1 by omega]
 next e=>
 rw[if_neg e];have hj:=acB hx;have g1:x≠p:=λz=>no j (by rw[←z];exact hj);have g2:pv (ql Q i) k≠some x:=λz=>e (O.one hj (qQ z));rw[if_neg g1,if_neg g2,O.m2 hx]
def dx (C:Cs)(A B:By)(S:Nat→Nat→Prop):Prop:=∀i,B i≠A i→∃q o,At C q∧o<C.sz (C.cl q)∧S q o∧i=q+o
theorem dx.refl (C:Cs)(A:By)(S:Nat→Nat→Prop):dx C A A S:=λ_ h=>absurd rfl h
theorem dx.trans{C:Cs}{A B D:By}{S:Nat→Nat→Prop}(h:dx C A B S)(g:dx C B D S):dx C A D S:=λi e=>by
 by_cases hb:B i=A i
 ·exact g i (by rw[hb];exact e)
 exact h i hb
theorem dx.mono{C:Cs}{A B:By}{S R:Nat→Nat→Prop}(h:dx C A B S)(s:∀q o,S q o→R q o):dx C A B R:=λi e=>by
 obtain⟨q,o,h1,h2,h3,h4⟩:=h i e;exact⟨q,o,h1,h2,s q o h3,h4⟩
theorem dx.wA{C:Cs}{A B D:By}{S:Nat→Nat→Prop}(h:dx (C.wA D) A B S):dx C A B S:=λi e=>by
 obtain⟨q,o,h1,h2,h3,h4⟩:=h i e;exact⟨q,o,⟨h1.i,h1.own,h1.al,h1.k⟩,h2,h3,h4⟩
theorem vU{C:Cs}(A:By){S:Nat→Nat→Prop}{q a n v:Nat}(M:At C q)(ha:a+n≤C.sz (C.cl q))(h:∀j,a≤j→j<a+n→S q j):dx C A (wr A (q+a) n v) S:=λi e=>by
 have hr:q+a≤i∧i<q+a+n:=by
  refine acH λg=>e ?_;unfold wr;exact fZ _ _ _ _ (by rw[l7];omega)
 exact⟨q,i-q,M,by omega,h _ (by omega) (by omega),by omega⟩
theorem yT{C:Cs}{A B:By}{S:List Nat}{a n:Nat}(d:qh A B S a n)(hS:∀q∈S,At C q)(ha:∀q∈S,a+n≤C.sz (C.cl q)):dx C A B (λq o=>q∈S∧a≤o∧o<a+n):=λi e=>by
 obtain⟨q,q1,q2,q3⟩:=d i e;have:=ha q q1;exact⟨q,i-q,hS q q1,by omega,⟨q1,by omega,by omega⟩,by omega⟩
theorem uo{C:Cs}(K:Ok C){A B:By}{S:Nat→Nat→Prop}(d:dx C A B S){p o w:Nat}(L:At C p)(ho:o+w≤C.sz (C.cl p))(h:∀j,o≤j→j<o+w→¬S p j):jt B (p+o) w=jt A (p+o) w:=
 tE λi h1 h2=>by
  refine acH λe=> ?_;obtain⟨q,j,q1,q2,q3,q4⟩:=d i e;by_cases e2:p=q
  ·subst e2
   exact h j (by omega) (by omega) q3
  ·rcases apart K L q1 e2 with g|g<;>omega
theorem lA{C:Cs}(K:Ok C){A B:By}{S:Nat→Nat→Prop}(d:dx C A B S){p o w:Nat}(L:At C p)(ho:o+w≤C.sz (C.cl p))(h:∀j,o≤j→j<o+w→¬S p j):rd B (p+o) w=rd A (p+o) w:=by
 unfold rd;rw[uo K d L ho h]
def mz (o:Nat):Prop:=o<16∨32≤o∧o<44∨o=45∨o=46
theorem qY{C:Cs}(K:Ok C){B:By}{S:Nat→Nat→Prop}(d:dx C C.A B S){p:Nat}(L:At C p)(I:ic C p)(h:∀j,S p j→mz j):Kept C B p:=by
 have n1:=(L.bo K).2.1;have hf:=I.fits;have r:=λ(o w:Nat) (h2:o+w≤C.sz (C.cl p)) (h3:∀j,o≤j→j<o+w→¬mz j)=>lA K d L h2 (λj g1 g2 s=>h3 j g1 g2 (h j s));have e1:kl B p=kl C.A p:=r 44 1 (by omega) (λj g1 g2=>by unfold mz;omega);have e2:vl B p=vl C.A p:=r 48 4 (by omega) (λj g1 g2=>by unfold mz;omega);refine⟨e1,e2, ?_,λJ=>⟨?_, ?_, ?_, ?_⟩⟩
 ·unfold aL
  rw[e1];exact uo K d L (by omega) (λj g1 g2 s=>by have:=h j s;unfold mz at this;omega)
 ·rw[cS,e1];exact J.k0
 ·rw[cS,e1,e2];exact J.fits
 ·rw[cS,r 16 8 (by omega) (λj g1 g2=>by unfold mz;omega)];exact J.exp
 rw[cS,r 24 8 (by omega) (λj g1 g2=>by unfold mz;omega)];exact J.tch
theorem XT{C:Cs}(K:Ok C){B:By}{S:Nat→Nat→Prop}(d:dx C C.A B S):∀{l:List Nat},(∀p∈l,At C p∧∀j,j<4→¬S p j)→Ez C.A l→Ez B l
 | [],_,_=>trivial
 |p::l,h,g=>by
  obtain⟨L,hp⟩:=h p acF;refine⟨?_,XT K d (λq hq=>h q (acC _ hq)) g.2⟩;have:=lA K d L (o:=0) (w:=4) (by have:=(L.bo K).2.1;omega) (λj _ g2=>hp j (by omega));rw[←g.1];exact this
theorem I6{C:Cs}(K:Ok C){W:Tb}(O:dq C W){B:By}{S:Nat→Nat→Prop}(d:dx C C.A B S)(h:∀p∈W.all,∀j,S p j→mz j∧4≤j):dq (C.wA B) W:=by
 have kp:=λp (hp:p∈W.all)=>qY K d (O.lv p hp).toAt (O.it p hp) (λj s=>(h p hp j s).1);refine⟨O.pw,O.po,O.st,O.mp,O.sz,O.ML,O.sm,O.mv,O.n,O.nd,λx=> ?_,λp hp=>(O.lv p hp).wA B,λp hp=>(kp p hp).it (O.it p hp),λx p hp=> ?_,λp hp q hq e=> ?_⟩
 ·refine XT K d (λp hp=> ?_) (O.li x)
  have eK:=Tb.gk hp;exact⟨(O.lv p eK).toAt,λj hj s=>by have:=(h p eK j s).2;omega⟩
 ·show W.bk (cx (aL B p))=x
  rw[(kp p (Tb.gk hp)).key];exact O.bu x p hp
 change aL B p=aL B q at e;rw[(kp p hp).key,(kp q hq).key]at e;exact O.kd p hp q hq e
theorem M7{C:Cs}(K:Ok C){Q:List (List Nat)}(O:iV C Q){B:By}{S:Nat→Nat→Prop}(d:dx C C.A B S)(h:∀i,∀p∈ql Q i,∀j,S p j→mz j∧(j<4∨12≤j)∧j≠45):iV (C.wA B) Q:=by
 have kp:=λi p (hp:p∈ql Q i)=>qY K d (O.lv i p hp).toAt (O.it i p hp) (λj s=>(h i p hp j s).1);have n1:=λi p (hp:p∈ql Q i)=>((O.lv i p hp).toAt.bo K).2.1;refine⟨O.len,λi p hp=>(O.lv i p hp).wA B,λi p hp=>(kp i p hp).it (O.it i p hp),λi p hp=> ?_,O.nd,λi k hk=> ?_,λi k hk=> ?_⟩
 ·have:=n1 i p hp
  have e:jc B p=jc C.A p:=lA K d (O.lv i p hp).toAt (by omega) (λj g1 g2 s=>(h i p hp j s).2.2 (by omega));show 1≤jc B p∧_;rw[cS,e];exact O.st i p hp
 ·have hp:=acJ hk
  have:=n1 i _ hp;rw[cS,lA K d (O.lv i _ hp).toAt (by omega) (λj g1 g2 s=>by have:=(h i _ hp j s).2.1;omega)];exact O.l1 i k hk
 have hp:=acJ hk;have:=n1 i _ hp;rw[cS,lA K d (O.lv i _ hp).toAt (by omega) (λj g1 g2 s=>by have:=(h i _ hp j s).2.1;omega)];exact O.l2 i k hk
def SQ (p:Nat)(_q o:Nat):Prop:=4≤o∧o<12∨o=45∧_q=p
theorem UH{C:Cs}(K:Ok C)(A:By){S:Nat→Nat→Prop}(hS:∀q o,4≤o→o<12→S q o){o1 o2:Option Nat}(L1:dm C o1)(L2:dm C o2):dx C A (yD A o1 o2) S:=by
 have w:=λ(A:By) (q:Nat) (M:Live C q) (j v:Nat) (hj:1≤j∧j≤2)=>vU (S:=S) A (a:=4*j) (n:=4) (v:=v) M.toAt (by have:=(M.toAt.bo K).2.1;omega) (λi g1 g2=>hS q i (by omega) (by omega));rcases o1 with _|a<;>rcases o2 with _|e
 ·exact dx.refl _ _ _
 ·exact w A e (L2 e rfl) 1 _ (by omega)
 ·exact w A a (L1 a rfl) 2 _ (by omega)
 exact(w A a (L1 a rfl) 2 _ (by omega)).trans (w _ e (L2 e rfl) 1 _ (by omega))
theorem afa{C:Cs}(K:Ok C){p s:Nat}(L:Live C p){o1 o2:Option Nat}(L1:dm C o1)(L2:dm C o2):dx C C.A (lF C.A p s o1 o2) (SQ p):=by
 have n1:=(L.toAt.bo K).2.1;have w:=λ(A:By) (j v:Nat) (hj:1≤j∧j≤2)=>vU (S:=SQ p) A (a:=4*j) (n:=4) (v:=v) L.toAt (by omega) (λi g1 g2=> .inl ⟨by omega,by omega⟩);have w2:=λ(A:By) (v:Nat)=>vU (S:=SQ p) A (a:=45) (n:=1) (v:=v) L.toAt (by omega) (λi g1 g2=> .inr ⟨by omega,rfl⟩);have hp:dm C (some p):=λq h=>by cases h;exact L
 have hS:∀q o,4≤o→o<12→SQ p q o:=λq o h1 h2=> .inl ⟨h1,h2⟩;have d1:dx C C.A (kD C.A p s o1 o2) (SQ p):=((w C.A 1 (nO o1) (by omega)).trans (w _ 2 (nO o2) (by omega))).trans (w2 _ s);exact(d1.trans (UH K _ hS L1 hp)).trans (UH K _ hS hp L2)
theorem vq (C:Cs)(cs:List Value)(i:Nat)(o1 o2:Option Nat):(qz C cs i o1 o2).length=cs.length:=by
 rcases o1 with _|a<;>rcases o2 with _|e<;>simp[qz]
theorem Ny (C:Cs)(cs:List Value)(i:Nat)(o1 o2:Option Nat):(qz C cs i o1 o2)[i*3+2]?=cs[i*3+2]?:=by
 rcases o1 with _|a<;>rcases o2 with _|e<;>simp[qz,List.getElem?_set]
theorem Ad{C:Cs}(K:Ok C){Q:List (List Nat)}(O:iV C Q)(i:Nat):(ql Q i).length≤1073741824:=
 mS _ _ (O.nd i) λp hp=>by
  have h:=(O.lv i p hp).toAt.bo K;have:=gh K.toFix;omega
theorem Oo (C:Cs)(Q:List (List Nat)):(Q.flatMap (eH C)).length=Q.length*3:=by
 rw[Ce]
 induction Q with
 |nil=>rfl
 |cons a l ih=>rw[List.map_cons,List.flatMap_cons,List.length_append,ih,wG,ac7];omega
structure Zh (C:Cs)(p:Nat)(A:By)(Q:List (List Nat)):Prop where
 o:iV (C.wA A) Q
 d:dx C C.A A (SQ p)
theorem CO (q b qb:Nat)(C:Cs)(K:Ok C)(Q:List (List Nat))(O:iV C Q)(p s:Nat)(hs:1≤s∧s≤3)(P:hG C (some p))(hn:¬(1≤jc C.A p∧jc C.A p≤3)):
  aH acw 231 [.pointer (some ⟨q,0,none⟩), .int .u64 (C.hd p:Int), .int .i64 (s:Int)] (λ_=>True) (Cl b C::sL q b qb C Q)
   (λv H=>v= .int .i64 0∧∃A,H=Cl b (C.wA A)::sL q b qb (C.wA A) (Q.set (qi (C.cl p) s) (p::ql Q (qi (C.cl p) s)))∧Zh C p A (Q.set (qi (C.cl p) s) (p::ql Q (qi (C.cl p) s)))):=by
 have L:=(P p rfl).1;have k0:=P.kl p rfl;have hc:=(L.toAt.bo K).1;have hi:=nS O hc hs;generalize hii:qi (C.cl p) s=i at*;have I2:hG C (ql Q i)[0]?:=O.MO λx hx=>acB hx;have I1:hG C none:=λx hx=>by cases hx
 have ok:=aaF K O hii.symm hi hs (k:=0) (by omega) P hn;have ce:=J4 C Q i 0 p hi (by omega);have hlen:=Oo C Q;have k0c:=pE (C:=C) (Q:=Q) (j:=0) hi rfl;have k2c:=pE (C:=C) (Q:=Q) (j:=2) hi rfl;have d:=afa K (p:=p) (s:=s) L I1.lv I2.lv;have lay:=VB q b qb C.af.length (ql Q i).length C K (Q.flatMap (eH C)) i (by omega) p s hs none (ql Q i)[0]? P I1 I2 (by rw[Ny,Ny];exact k2c) (by rw[vq,vq]) (vq _ _ _ _ _) (Ad K O i);have e0:(ql Q i).head?=(ql Q i)[0]?:=ag2 ..;rw[e0]at k0c;change iV (C.wA (lF C.A p s none (ql Q i)[0]?)) _ at ok;rw[aha]at ok ce;change((qz C (qz C (Q.flatMap (eH C)) i none (some p)) i (some p) (ql Q i)[0]?).set (i*3+2) _)=_ at ce;rw[ce]at lay;unfold sL;generalize jw:Q.flatMap (eH C)=cs at*;unfold fP at*;refine ae func231 rfl ntmps231 rfl ?_;intro F _;refine bH ?_;refine zl T.abn (QX q b qb C K p s hs L k0 hn) .nil (λ_ le aw=>⟨aw.1,aw.2.1⟩) ?_;rw[hii];refine bT ?_;refine ay ?_;refine zl T.abm (lay) (.cons .here (.cons .here (.cons .here .nil))) (λ_ _ _=>trivial) ?_;refine bB ?_;refine Rt [Cl b (C.wA (lF C.A p s none (ql Q i)[0]?)),ag q 139 [.pointer (some ⟨b,0,none⟩), .slice (some ⟨qb,0,none⟩) C.af.length C.af.length],ag qb 327 ((Q.set i (p::ql Q i)).flatMap (eH C))] results231 ?_;exact⟨rfl,lF C.A p s none (ql Q i)[0]?,rfl,ok,d⟩
theorem ug{C:Cs}(K:Ok C){B:By}{S:Nat→Nat→Prop}(d:dx C C.A B S){o:Option Nat}(P:hG C o)(h:∀x,o=some x→∀j,S x j→mz j):hG (C.wA B) o:=λx hx=>
 ⟨(P x hx).1.wA B,(qY K d (P x hx).1.toAt (P x hx).2 (h x hx)).it (P x hx).2⟩
theorem SQ.rI{p q o:Nat}(h:SQ p q o):mz o:=by
 unfold SQ at h;unfold mz;omega
def oZ (A:By)(p:Nat):By:=wr (wr (wr A (p+4*1) 4 (nO none)) (p+4*2) 4 (nO none)) (p+45) 1 4
theorem Gw (C:Cs)(Q:List (List Nat))(i k:Nat)(hi:i<Q.length)(h:k<(ql Q i).length):
  (qz C (Q.flatMap (eH C)) i (pv (ql Q i) k) (ql Q i)[k+1]?).set (i*3+2) (.int .i64 (((ql Q i).length:Int)-1))=(Q.set i ((ql Q i).eraseIdx k)).flatMap (eH C):=by
 have hq:(Q.map (IS C))[i]?=some (IS C (ql Q i)):=by
  unfold ql;rw[acL,acy,acx hi];rfl
 have uR:i<(Q.map (IS C)).length:=by simpa using hi
 have s2:∀(S:List T3) (y:T3) (v:Value),S[i]?=some y→(S.flatMap t3).set (i*3+2) v=(S.set i {y with c:=v}).flatMap t3:=λS y v hs=>de wG hs rfl (by decide);generalize hl:ql Q i=l at*;have e:{jnT C (IS C l) (pv l k) l[k+1]? with c:= .int .i64 ((l.length:Int)-1)}=IS C (l.eraseIdx k):=by
  have hlen:=List.length_eraseIdx_of_lt h;have h1:(l.eraseIdx k).head?=if k=0 then l[k+1]? else l.head?:=by
   rw[ag2,ag2]
   split
   ·next e=>subst e;rw[ac3 (by omega)]
   next e=>rw[ade (by omega)]
  have h2:(l.eraseIdx k).getLast?=if k+1=l.length then pv l k else l.getLast?:=by
   rw[agF,agF,hlen]
   split
   ·next e=>
    rcases k with _|k
    ·rw[acK (by omega)];rfl
    rw[ade (by omega),show l.length-1-1=k by omega];rfl
   next e=>rw[ac3 (by omega),show l.length-1-1+1=l.length-1 by omega]
  unfold IS;rw[h1,h2,hlen,show(((l.length-1:Nat)):Int)=(l.length:Int)-1 by omega];rcases k with _|k
  ·by_cases e:0+1<l.length
   ·rw[acx e,if_pos rfl,if_neg (by omega)];rfl
   rw[acK (by omega),if_pos rfl,if_pos (by omega)];rfl
  have e1:pv l (k+1)=some l[k]:=acx (by omega);by_cases e:k+1+1<l.length
  ·rw[e1,acx e,if_neg (by omega),if_neg (by omega)];rfl
  rw[e1,acK (by omega),if_neg (by omega),if_pos (by omega)];rfl
 rw[Ce,Ce,Nx C _ i _ hq,s2 _ _ _ (acD uR),adn,e,adG]
def lZ (A:By)(p:Nat)(o1 o2:Option Nat):By:=oZ (yD A o1 o2) p
theorem W2{C:Cs}(K:Ok C){x p:Nat}{o1 o2:Option Nat}(X:Live C x)(P:Live C p)(L1:dm C o1)(L2:dm C o2):
  rd (lZ C.A p o1 o2) (x+4*1) 4=if x=p then 0 else if o2=some x then nO o1 else rd C.A (x+4*1) 4:=by
 have b1:=nT K L1;have b2:=nT K L2;have l:=λ(q:Nat) (M:Live C q) (A:By) (j v:Nat) (hj:j≤2) (hv:v<4294967296)=>ve K X.toAt M.toAt A (i:=1) (j:=j) (v:=v) (by omega) hj hv;have z:=λ(A:By)=>r8 K X.toAt P.toAt A (i:=1) (v:=4) (by omega);have n0:nO none<4294967296:=by decide
 unfold lZ oZ;rw[z,l p P _ 2 _ (by omega) n0,l p P _ 1 _ (by omega) n0];by_cases h:x=p
 ·simp[h,nO]
 rw[if_neg (by simp[h]),if_neg (by simp[h]),if_neg h];rcases o1 with _|a<;>rcases o2 with _|e<;>dsimp only[yD]
 ·simp
 ·rw[l e (L2 e rfl) _ 1 _ (by omega) b1]
  by_cases g:x=e
  ·subst g;simp
  have g2:¬e=x:=λu=>g u.symm;simp[g,g2]
 ·rw[l a (L1 a rfl) _ 2 _ (by omega) b2]
  simp
 rw[l e (L2 e rfl) _ 1 _ (by omega) b1,l a (L1 a rfl) _ 2 _ (by omega) b2];by_cases g:x=e
 ·subst g;simp
 have g2:¬e=x:=λu=>g u.symm;simp[g,g2]
theorem WZ{C:Cs}(K:Ok C){x p:Nat}{o1 o2:Option Nat}(X:Live C x)(P:Live C p)(L1:dm C o1)(L2:dm C o2):
  rd (lZ C.A p o1 o2) (x+4*2) 4=if x=p then 0 else if o1=some x then nO o2 else rd C.A (x+4*2) 4:=by
 have b1:=nT K L1;have b2:=nT K L2;have l:=λ(q:Nat) (M:Live C q) (A:By) (j v:Nat) (hj:j≤2) (hv:v<4294967296)=>ve K X.toAt M.toAt A (i:=2) (j:=j) (v:=v) (by omega) hj hv;have z:=λ(A:By)=>r8 K X.toAt P.toAt A (i:=2) (v:=4) (by omega);have n0:nO none<4294967296:=by decide
 unfold lZ oZ;rw[z,l p P _ 2 _ (by omega) n0,l p P _ 1 _ (by omega) n0];by_cases h:x=p
 ·simp[h,nO]
 rw[if_neg (by simp[h]),if_neg (by simp[h]),if_neg h];rcases o1 with _|a<;>rcases o2 with _|e<;>dsimp only[yD]
 ·simp
 ·rw[l e (L2 e rfl) _ 1 _ (by omega) b1]
  simp
 ·rw[l a (L1 a rfl) _ 2 _ (by omega) b2]
  by_cases g:x=a
  ·subst g;simp
  have g2:¬a=x:=λu=>g u.symm;simp[g,g2]
 rw[l e (L2 e rfl) _ 1 _ (by omega) b1,l a (L1 a rfl) _ 2 _ (by omega) b2];by_cases g:x=a
 ·subst g;simp
 have g2:¬a=x:=λu=>g u.symm;simp[g,g2]
theorem Iz{C:Cs}(K:Ok C){x p:Nat}{o1 o2:Option Nat}(X:Live C x)(P:Live C p)(L1:dm C o1)(L2:dm C o2):
  jc (lZ C.A p o1 o2) x=if x=p then 4 else jc C.A x:=by
 have l:=λ(q:Nat) (M:Live C q) (A:By) (j v:Nat) (hj:j≤2)=>Hy K X.toAt M.toAt A (j:=j) (v:=v) hj;have z:=λ(A:By)=>XH K X.toAt P.toAt A (v:=4) (by omega);unfold lZ oZ;rw[z,l p P _ 2 _ (by omega),l p P _ 1 _ (by omega)];rcases o1 with _|a<;>rcases o2 with _|e<;>dsimp only[yD]
 ·rw[l e (L2 e rfl) _ 1 _ (by omega)]
 ·rw[l a (L1 a rfl) _ 2 _ (by omega)]
 rw[l e (L2 e rfl) _ 1 _ (by omega),l a (L1 a rfl) _ 2 _ (by omega)]
theorem PH{C:Cs}(K:Ok C){p:Nat}(L:Live C p){o1 o2:Option Nat}(L1:dm C o1)(L2:dm C o2):dx C C.A (lZ C.A p o1 o2) (SQ p):=by
 have n1:=(L.toAt.bo K).2.1;have w:=λ(A:By) (j v:Nat) (hj:1≤j∧j≤2)=>vU (S:=SQ p) A (a:=4*j) (n:=4) (v:=v) L.toAt (by omega) (λi g1 g2=> .inl ⟨by omega,by omega⟩);have w2:=λ(A:By) (v:Nat)=>vU (S:=SQ p) A (a:=45) (n:=1) (v:=v) L.toAt (by omega) (λi g1 g2=> .inr ⟨by omega,rfl⟩);have hS:∀q o,4≤o→o<12→SQ p q o:=λq o h1 h2=> .inl ⟨h1,h2⟩;exact(((UH K _ hS L1 L2).trans (w _ 1 (nO none) (by omega))).trans (w _ 2 (nO none) (by omega))).trans (w2 _ 4)
theorem get_erase{l:List Nat}{k m x:Nat}(h:(l.eraseIdx k)[m]?=some x):m<k∧l[m]?=some x∨k≤m∧l[m+1]?=some x:=by
 by_cases h1:m<k
 ·rw[ade h1]at h;exact .inl ⟨h1,h⟩
 rw[ac3 (by omega)]at h;exact .inr ⟨by omega,h⟩
theorem WX{C:Cs}(K:Ok C){Q:List (List Nat)}(O:iV C Q){p k i:Nat}(hi:i<Q.length)(hk:(ql Q i)[k]?=some p):
  iV (C.wA (lZ C.A p (pv (ql Q i) k) (ql Q i)[k+1]?)) (Q.set i ((ql Q i).eraseIdx k)):=by
 have bX:=(acz.1 hk).1;have hpl:=acB hk;have LP:=O.lv i p hpl;have I1:hG C (pv (ql Q i) k):=O.MO λx hx=>qQ hx;have I2:hG C (ql Q i)[k+1]?:=O.MO λx hx=>acB hx;have d:=PH K LP I1.lv I2.lv;have hm:∀j x,x∈ql (Q.set i ((ql Q i).eraseIdx k)) j→x≠p∧x∈ql Q j:=λj x hx=>by
  rw[fG hi]at hx
  split at hx
  ·next e=>
   subst e;refine⟨λz=> ?_,List.mem_of_mem_eraseIdx hx⟩;subst z;obtain⟨m,hm,em⟩:=List.getElem_of_mem hx;have:=acz.2 ⟨hm,em⟩;rcases get_erase this with⟨h1,h2⟩|⟨h1,h2⟩
   ·have:=gN (O.nd j) hk h2;omega
   have:=gN (O.nd j) hk h2;omega
  next e=>exact⟨λz=>e (O.one hx (by rw[z];exact hpl)),hx⟩
 have Uj:∀j x,x∈ql (Q.set i ((ql Q i).eraseIdx k)) j→hG C (some x):=λj x hx y hy=>by
  cases hy;exact⟨O.lv j _ (hm j _ hx).2,O.it j _ (hm j _ hx).2⟩
 have kp:=λj x hx=>ug K d (Uj j x hx) (λy _ j s=>s.rI);refine⟨?_,λj x hx=>(kp j x hx x rfl).1,λj x hx=>(kp j x hx x rfl).2,λj x hx=> ?_,λj=> ?_,λj m h=> ?_,λj m h=> ?_⟩
 ·rw[acE];exact O.len
 ·show 1≤jc (lZ _ _ _ _) x∧_∧j=qi (C.cl x) _
  rw[cS,Iz K (Uj j x hx x rfl).1 LP I1.lv I2.lv,if_neg (hm j x hx).1];exact O.st j x (hm j x hx).2
 ·rw[fG hi]
  split
  ·exact(O.nd i).sublist (List.eraseIdx_sublist _ _)
  exact O.nd j
 ·have hx:(ql (Q.set i ((ql Q i).eraseIdx k)) j)[m]?=some (ql (Q.set i ((ql Q i).eraseIdx k)) j)[m]:=acx h
  generalize (ql (Q.set i ((ql Q i).eraseIdx k)) j)[m]=x at hx⊢;have Em:=acB hx;have r:=W2 K (Uj j x Em x rfl).1 LP I1.lv I2.lv;rw[if_neg (hm j x Em).1]at r;rw[cS];refine r.trans ?_;rw[fG hi]at hx⊢
  split at hx
  ·next e=>
   subst e;rw[if_pos rfl];rcases get_erase hx with⟨h1,h2⟩|⟨h1,h2⟩
   ·have g2:(ql Q j)[k+1]?≠some x:=λz=>by have:=gN (O.nd j) z h2;omega
    rw[if_neg g2,O.m1 h2];rcases m with _|m
    ·rfl
    show _=nO ((ql Q j).eraseIdx k)[m]?;rw[ade (by omega)];rfl
   by_cases g:m=k
   ·subst g
    rw[if_pos h2];rcases m with _|m
    ·rfl
    show _=nO ((ql Q j).eraseIdx (m+1))[m]?;rw[ade (by omega)];rfl
   have g2:(ql Q j)[k+1]?≠some x:=λz=>by have:=gN (O.nd j) z h2;omega
   rw[if_neg g2,O.m1 h2];obtain⟨u,rfl⟩:∃u,m=u+1:=⟨m-1,by omega⟩;show _=nO ((ql Q j).eraseIdx k)[u]?;rw[ac3 (by omega)];rfl
  next e=>
  rw[if_neg e];have hj:=acB hx;have g2:(ql Q i)[k+1]?≠some x:=λz=>e (O.one hj (acB z));rw[if_neg g2,O.m1 hx]
 have hx:(ql (Q.set i ((ql Q i).eraseIdx k)) j)[m]?=some (ql (Q.set i ((ql Q i).eraseIdx k)) j)[m]:=acx h;generalize (ql (Q.set i ((ql Q i).eraseIdx k)) j)[m]=x at hx⊢;have Em:=acB hx;have r:=WZ K (Uj j x Em x rfl).1 LP I1.lv I2.lv;rw[if_neg (hm j x Em).1]at r;rw[cS];refine r.trans ?_;rw[fG hi]at hx⊢
 split at hx
 ·next e=>
  subst e;rw[if_pos rfl];rcases get_erase hx with⟨h1,h2⟩|⟨h1,h2⟩
  ·by_cases g:m+1=k
   ·subst g
    rw[if_pos (show pv (ql Q j) (m+1)=some x from h2),ac3 (by omega)]
   have g2:pv (ql Q j) k≠some x:=λz=>by
    rcases k with _|k
    ·cases z
    have:=gN (O.nd j) z h2;omega
   rw[if_neg g2,O.m2 h2,ade (by omega)]
  have g2:pv (ql Q j) k≠some x:=λz=>by
    rcases k with _|k
    ·cases z
    have:=gN (O.nd j) z h2;omega
  rw[if_neg g2,O.m2 h2,ac3 (by omega)]
 next e=>
 rw[if_neg e];have hj:=acB hx;have g2:pv (ql Q i) k≠some x:=λz=>e (O.one hj (qQ z));rw[if_neg g2,O.m2 hx]
structure P6 (C:Cs)(p:Nat)(A:By)(Q:List (List Nat)):Prop extends Zh C p A Q where
 st:jc A p=4
 no:∀i,p∉ql Q i
theorem CP (q b qb:Nat)(C:Cs)(K:Ok C)(Q:List (List Nat))(O:iV C Q)(i k p:Nat)(hk:(ql Q i)[k]?=some p):
  aH acw 166 [.pointer (some ⟨q,0,none⟩), .int .u64 (C.hd p:Int)] (λ_=>True) (Cl b C::sL q b qb C Q)
   (λv H=>v= .int .i64 0∧∃A,H=Cl b (C.wA A)::sL q b qb (C.wA A) (Q.set i ((ql Q i).eraseIdx k))∧P6 C p A (Q.set i ((ql Q i).eraseIdx k))):=by
 have hpl:=acB hk;have P:hG C (some p):=O.MO (i:=i) λx hx=>by cases hx;exact hpl
 have L:=(P p rfl).1;have k0:=P.kl p rfl;have hc:=(L.toAt.bo K).1;obtain⟨s1,s2,s3⟩:=O.st i p hpl;have hi:=nS O hc ⟨s1,s2⟩;rw[←s3]at hi;have I1:hG C (pv (ql Q i) k):=O.MO λx hx=>qQ hx;have I2:hG C (ql Q i)[k+1]?:=O.MO λx hx=>acB hx;have ok:=WX K O hi hk;have d:=PH K L I1.lv I2.lv;have dst:=Iz K L L I1.lv I2.lv;rw[if_pos rfl]at dst;have ce:=Gw C Q i k hi (acz.1 hk).1;have hlen:=Oo C Q;have ou:∀j,p∉ql (Q.set i ((ql Q i).eraseIdx k)) j:=λj h=>by
  have:=(ok.st j p h).2.1;rw[cS,dst]at this;omega
 have Xq:(qz C (Q.flatMap (eH C)) i (pv (ql Q i) k) (ql Q i)[k+1]?)[i*3+2]?=some (.int .i64 ((ql Q i).length:Int)):=by rw[Ny];exact pE (j:=2) hi rfl
 have D5:=vq C (Q.flatMap (eH C)) i (pv (ql Q i) k) (ql Q i)[k+1]?;have jn:=xa q b qb C.af.length C K (Q.flatMap (eH C)) i (by omega) (pv (ql Q i) k) (ql Q i)[k+1]? I1.lv I2.lv I1.kl I2.kl (λx hx=>(I2 x hx).2);have lk1:=sj b C K p 1 (pv (ql Q i) k) L k0 (by omega) I1.lv (O.m1 hk);have lk2:=sj b C K p 2 (ql Q i)[k+1]? L k0 (by omega) I2.lv (O.m2 hk);have K1:=K.wA (yD C.A (pv (ql Q i) k) (ql Q i)[k+1]?);have hS:∀q o,4≤o→o<12→SQ p q o:=λq o h1 h2=> .inl ⟨h1,h2⟩;have P1:hG (C.wA (yD C.A (pv (ql Q i) k) (ql Q i)[k+1]?)) (some p):=ug K (UH K C.A hS I1.lv I2.lv) P (λ_ _ j s=>s.rI);have hA:lZ C.A p (pv (ql Q i) k) (ql Q i)[k+1]?=oZ (yD C.A (pv (ql Q i) k) (ql Q i)[k+1]?) p:=rfl;rw[hA]at ok d dst;have hql:=Ad K O i;generalize pv (ql Q i) k=o1 at*;generalize (ql Q i)[k+1]?=o2 at*;generalize yD C.A o1 o2=A1 at*;have bX:=(acz.1 hk).1;unfold sL;generalize jw:Q.flatMap (eH C)=cs at*;generalize qz C cs i o1 o2=ds at*;have sU:i*3+2<ds.length:=by omega
 have k1p:hG (C.wA (wr A1 (p+4*1) 4 (nO none))) (some p):=P1.link K1 (P1 p rfl).1 (by omega);have k2p:hG (C.wA (wr (wr A1 (p+4*1) 4 (nO none)) (p+4*2) 4 (nO none))) (some p):=k1p.link (K.wA _) (k1p p rfl).1 (by omega);refine ae func166 rfl ntmps166 rfl ?_;intro F _;refine bB ?_;refine zl T.Fh (xV q b qb C K p L k0 ⟨s1,s2⟩) .nil (λ_ le aw=>⟨aw.1,aw.2.1⟩) ?_;rw[←s3];unfold fP at*;refine qa ?_;refine zl T.AK (lk1) .nil (λ_ le aw=>aw.1) ?_;refine dQ ?_;refine zl T.AK (lk2) .nil (λ_ le aw=>aw.1) ?_;refine bK ?_;refine zl T.E9 (jn) (.cons .here (.cons .here (.cons .here .nil))) (λ_ _ _=>trivial) ?_;refine bH ?_;refine zl T.kL (dS b (C.wA A1) K1 p 1 none (P1 p rfl).1 (P1.kl p rfl) (by omega) (λq h=>by cases h)) (.cons .here .nil) (λ_ _ _=>trivial) ?_;refine bH ?_;refine zl T.kL (dS b (C.wA (wr A1 (p+4*1) 4 (nO none))) (K.wA _) p 2 none (k1p p rfl).1 (k1p.kl p rfl) (by omega) (λq h=>by cases h)) (.cons .here .nil) (λ_ _ _=>trivial) ?_;refine bH ?_;refine zl T.OM (sG b (C.wA (wr (wr A1 (p+4*1) 4 (nO none)) (p+4*2) 4 (nO none))) (K.wA _) p 4 (by omega) (k2p p rfl).1 (k2p.kl p rfl)) (.cons .here .nil) (λ_ _ _=>trivial) ?_;refine nj ?_;refine Hh (H':= [Cl b (C.wA (oZ A1 p)),ag q 139 [.pointer (some ⟨b,0,none⟩), .slice (some ⟨qb,0,none⟩) C.af.length C.af.length],ag qb 327 (ds.set (i*3+2) (.int .i64 (((ql Q i).length:Int)-1)))]) ?_;rw[ce];refine Rt [Cl b (C.wA (oZ A1 p)),ag q 139 [.pointer (some ⟨b,0,none⟩), .slice (some ⟨qb,0,none⟩) C.af.length C.af.length],ag qb 327 ((Q.set i ((ql Q i).eraseIdx k)).flatMap (eH C))] results166 ?_;exact⟨rfl,oZ A1 p,rfl,⟨ok,d⟩,dst,ou⟩
def vL (Q:List (List Nat))(i k j p:Nat):List (List Nat):=(Q.set i ((ql Q i).eraseIdx k)).set j (p::ql (Q.set i ((ql Q i).eraseIdx k)) j)
theorem JQ (q b qb:Nat)(C:Cs)(K:Ok C)(Q:List (List Nat))(O:iV C Q)(i k p s:Nat)(hs:1≤s∧s≤3)(hk:(ql Q i)[k]?=some p):
  aH acw 197 [.pointer (some ⟨q,0,none⟩), .int .u64 (C.hd p:Int), .int .i64 (s:Int)] (λ_=>True) (Cl b C::sL q b qb C Q)
   (λv H=>v= .int .i64 0∧∃A,H=Cl b (C.wA A)::sL q b qb (C.wA A) (vL Q i k (qi (C.cl p) s) p)∧Zh C p A (vL Q i k (qi (C.cl p) s) p)):=by
 have P:hG C (some p):=O.MO (i:=i) λx hx=>by cases hx;exact acB hk
 unfold sL;refine ae func197 rfl ntmps197 rfl ?_;intro F _;refine bB ?_;refine zl T.AA (tP s hs) .nil (λ_ _ _=>trivial) ?_;refine cN ?_;refine Lp (oC T.O0 rfl rfl (CP q b qb C K Q O i k p hk) (.cons .here (.cons .here (.cons .here .nil))) (λ_ _ _=>trivial) ?_);rintro v H' ⟨rfl,A,rfl,D⟩;refine bd ?_;have P2:hG (C.wA A) (some p):=ug K D.d P (λ_ _ j s=>s.rI);have Xq:¬(1≤jc (C.wA A).A p∧jc (C.wA A).A p≤3):=by rw[cS,D.st];omega
 refine gR ?_;refine Lp (oC T.OK rfl rfl (CO q b qb (C.wA A) (K.wA A) (Q.set i ((ql Q i).eraseIdx k)) D.o p s hs P2 Xq) (.cons .here (.cons .here (.cons .here .nil))) (λ_ _ _=>trivial) ?_);rintro v H' ⟨rfl,B,rfl,E⟩;refine bd ?_;refine aZ ?_;refine Rt [Cl b (C.wA B),ag q 139 (fP b qb C.af.length),ag qb 327 ((vL Q i k (qi (C.cl p) s) p).flatMap (eH C))] results197 ?_;exact⟨rfl,B,rfl,E.o,D.d.trans E.d.wA⟩
end Go.Proofs.YtdolmecackmjdaaGreatDoor
