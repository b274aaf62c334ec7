/- Part Ph of the proof. -/
import Derived.Test.YtcbcjolpdljbiaaGreatPd
import Derived.Test.YtcbcjolpdljbiaaGreatPg
import Derived.LaidEqlPtr
set_option maxRecDepth 100000
open Go.Proofs.YtcbcjolpdljbiaaGreat.T
open List renaming getD_eq_getElem?_getD -> aaP, getElem?_eq_getElem -> aaQ, length_cons -> afn, getLast?_cons -> ajv, getElem?_eq_some_iff -> aaR, getElem?_set_self -> aaU, set_set -> afN, insertIdx_zero -> ajn, insertIdx_succ_cons -> ai1, getElem?_eq_none -> aa7, getElem?_map -> aa6, map_set -> afO, getElem_mem -> aa4, mem_of_getElem? -> aaT, getElem?_insertIdx -> ai6, getElem?_cons_zero -> ajj, getElem?_cons_succ -> agk, nodup_cons -> aa3, mem_cons_of_mem -> aaW, mem_cons_self -> aaV, length_set -> aaY, head?_eq_getElem? -> ajb, length_eraseIdx_of_lt -> ai7, getElem?_eraseIdx_of_ge -> afp, getElem?_eraseIdx_of_lt -> afv, getLast?_eq_getElem? -> af5
open Nat renaming mod_eq_of_lt -> afE
open Decidable renaming byContradiction -> aa2
open Go.Proofs.Tryz renaming prog -> aaO
open Go.Proofs.Tryz
open Go.Value renaming int -> CO
open Go.IntKind renaming i64 -> CN, u64 -> CJ
namespace Go.Proofs.YtcbcjolpdljbiaaGreat
open Go Go.dG Go.Proofs.YtcbcjolpdljbiaaGreat.Cs
def cV (C:Cs)(l:List Nat):List Value:= [CO CJ (hO C l.head?),CO CJ (hO C l.getLast?),CO CN l.length]
theorem X6 (C:Cs):∀l,(cV C l).length=3:=λ_=>rfl
def fC (b qb n:Nat):List Value:= [CM b, .slice (some ⟨qb,0,none⟩) n n]
def qY (q b qb:Nat)(C:Cs)(Q:List (List Nat)):List aa:= [af q 182 (fC b qb C.ae.length),af qb 333 (Q.flatMap (cV C))]
def qi (c s:Nat):Nat:=c*3+(s-1)
theorem vf (s:Nat)(h:1<=s/\s<=3):aO aaO 260 [CO CN s] (λ_=>True) [] (λv H=>v= .bool true/\H= []):=by
 refine ag func260 rfl ntmps260 rfl ?_;intro F _;refine bR ?_;refine zt 5 ?_;refine bG ?_;refine Rt [] results260 ?_;exact⟨by rw[CH],rfl⟩
theorem LY (s:Nat)(h:¬(1<=s/\s<=3)):aO aaO 260 [CO CN s] (λ_=>True) [] (λv H=>v= .bool false/\H= []):=by
 refine ag func260 rfl ntmps260 rfl ?_;intro F _;refine bR ?_;refine br (t:=5) rfl ?_ ?_
 ·intro h1
  replace h1:=aS h1;refine bG ?_;refine Rt [] results260 ?_;exact⟨by rw[CG],rfl⟩
 intro h1;replace h1:=aS h1;refine bG ?_;refine Rt [] results260 ?_;exact⟨rfl,rfl⟩
theorem qg (q b qb n c s:Nat)(hc:c<n)(hn:n<=62)(h:1<=s/\s<=3):
  aO aaO 240 [CM q,CO CN c,CO CN s] (In (af q 182 (fC b qb n))) []
   (λv H=>v= .pointer (some ⟨qb,qi c s*3,none⟩)/\H= []):=by
 unfold fC;refine ag func240 rfl ntmps240 rfl ?_;intro F hq;refine dm ?_;refine zf 9 ?_;refine cA ?_;refine zf 18 ?_;refine av ?_;refine zl CF (vf s h) .nil CI ?_;refine fq ?_;refine ay (t:=29) (v':=(CO CN (s-1:Nat))) rfl (by(congr 1;omega)) ?_;refine av ?_;refine Li (Ia afa) ?_;refine bz ?_;refine Rt [] results240 ?_;refine⟨?_,rfl⟩;unfold qi
 congr 3
 omega
def gJ (A:By)(p:Nat):Nat:=rd A (p+45) 1
def ql (Q:List (List Nat))(i:Nat):List Nat:=Q.getD i []
def pv (l:List Nat):Nat->Option Nat
 |0=>none
 |k+1=>l[k]?
structure iR (C:Cs)(Q:List (List Nat)):Prop where
 len:Q.length=C.ae.length*3
 lv:∀i,∀p∈ql Q i,Live C p
 it:∀i,∀p∈ql Q i,gO C p
 st:∀i,∀p∈ql Q i,1<=gJ C.A p/\gJ C.A p<=3/\i=qi (C.cl p) (gJ C.A p)
 nd:∀i,(ql Q i).Nodup
 l1:∀i k (h:k<(ql Q i).length),rd C.A ((ql Q i)[k]+4) 4=nO (pv (ql Q i) k)
 l2:∀i k (h:k<(ql Q i).length),rd C.A ((ql Q i)[k]+8) 4=nO (ql Q i)[k+1]?
theorem oz{C:Cs}{Q:List (List Nat)}{i j:Nat}{v:Value}(hi:i<Q.length)(hv:(cV C (ql Q i))[j]?=some v):(Q.flatMap (cV C))[i*3+j]?=some v:=
 bo (X6 C) (by unfold ql;rw[aaP,aaQ hi];rfl) hv
theorem ny{C:Cs}{Q:List (List Nat)}(O:iR C Q){c s:Nat}(hc:c<C.ae.length)(h:1<=s/\s<=3):qi c s<Q.length:=by
 rw[O.len];unfold qi;omega
theorem S7 (q b qb n c s:Nat)(hc:c<n)(hn:n<=62)(h:¬(1<=s/\s<=3)):
  aO aaO 240 [CM q,CO CN c,CO CN s] (In (af q 182 (fC b qb n))) []
   (λv H=>v= .pointer none/\H= []):=by
 unfold fC;refine ag func240 rfl ntmps240 rfl ?_;intro F hq;refine dm ?_;refine zf 9 ?_;refine cA ?_;refine zf 18 ?_;refine av ?_;refine zl CF (LY s h) .nil CI ?_;refine cA ?_;refine Rt [] results240 ?_;exact⟨rfl,rfl⟩
theorem sH (q b qb:Nat)(C:Cs)(K:Ok C)(p:Nat)(L:Live C p)(hk:kl C.A p≠0)(h:1<=gJ C.A p/\gJ C.A p<=3):
  aO aaO 222 [CM q,CO CJ (C.hd p)] (λh=>In (Cl b C) h/\In (af q 182 (fC b qb C.ae.length)) h) []
   (λv H=>v= .pointer (some ⟨qb,qi (C.cl p) (gJ C.A p)*3,none⟩)/\H= []):=by
 have hc:=(L.toAt.bn K).1;have hl:=K.toFix.l1;unfold gJ at*;refine ag func222 rfl ntmps222 rfl ?_;rintro F ⟨cR,hq⟩;have Kv:=hq;unfold fC at Kv;refine cA ?_;refine zl CF (vG b C K p L) .nil (λ_ le _=>In.mono cR le) ?_;refine cC ?_;refine bA ?_;refine zl CF (qP b C K p L hk) .nil (λ_ le _=>In.mono cR le) ?_;refine sT ?_;refine zl CF (qg q b qb C.ae.length (C.cl p) (rd C.A (p+45) 1) hc hl h) .nil (λ_ le _=>In.mono hq le) ?_;refine bz ?_;refine Rt [] results222 ?_;exact⟨rfl,rfl⟩
theorem HX (q b qb:Nat)(C:Cs)(K:Ok C)(p:Nat)(L:Live C p)(hk:kl C.A p≠0)(h:¬(1<=gJ C.A p/\gJ C.A p<=3)):
  aO aaO 222 [CM q,CO CJ (C.hd p)] (λh=>In (Cl b C) h/\In (af q 182 (fC b qb C.ae.length)) h) []
   (λv H=>v= .pointer none/\H= []):=by
 have hc:=(L.toAt.bn K).1;have hl:=K.toFix.l1;unfold gJ at*;refine ag func222 rfl ntmps222 rfl ?_;rintro F ⟨cR,hq⟩;have Kv:=hq;unfold fC at Kv;refine cA ?_;refine zl CF (vG b C K p L) .nil (λ_ le _=>In.mono cR le) ?_;refine cC ?_;refine bA ?_;refine zl CF (qP b C K p L hk) .nil (λ_ le _=>In.mono cR le) ?_;refine sT ?_;refine zl CF (S7 q b qb C.ae.length (C.cl p) (rd C.A (p+45) 1) hc hl h) .nil (λ_ le _=>In.mono hq le) ?_;refine bz ?_;refine Rt [] results222 ?_;exact⟨rfl,rfl⟩
theorem tx (q b qb:Nat)(C:Cs)(K:Ok C)(Q:List (List Nat))(O:iR C Q)(c s:Nat)(hc:c<C.ae.length)(h:1<=s/\s<=3):
  aO aaO 170 [CM q,CO CN c,CO CN s] (gP (qY q b qb C Q)) []
   (λv H=>v=CO CN ((ql Q (qi c s)).length)/\H= []):=by
 have hl:=K.toFix.l1;have k2:=oz (C:=C) (Q:=Q) (j:=2) (ny O hc h) rfl;refine ag func170 rfl ntmps170 rfl ?_;rintro F ⟨hq,hb,_⟩;refine bR ?_;refine zl CF (qg q b qb C.ae.length c s hc hl h) .nil (λ_ le _=>In.mono hq le) ?_;refine sT ?_;refine Rt [] results170 ?_;exact⟨rfl,rfl⟩
theorem tM (q b qb:Nat)(C:Cs)(K:Ok C)(Q:List (List Nat))(O:iR C Q)(c s:Nat)(hc:c<C.ae.length)(h:1<=s/\s<=3):
  aO aaO 169 [CM q,CO CN c,CO CN s] (gP (qY q b qb C Q)) []
   (λv H=>v= .tuple #[CO CJ (hO C (ql Q (qi c s)).getLast?), .bool (ql Q (qi c s)).getLast?.isSome]/\H= []):=by
 have hl:=K.toFix.l1;have k1:=oz (C:=C) (Q:=Q) (j:=1) (ny O hc h) rfl;have k2:=oz (C:=C) (Q:=Q) (j:=2) (ny O hc h) rfl;rcases hz:ql Q (qi c s)with _|⟨a,l⟩
 ·rw[hz]at k1 k2
  refine ag func169 rfl ntmps169 rfl ?_;rintro F ⟨hq,hb,_⟩;refine dm ?_;refine zl CF (qg q b qb C.ae.length c s hc hl h) .nil (λ_ le _=>In.mono hq le) ?_;refine bR ?_;refine zf 15 ?_ (e:=by rfl);refine fq ?_;refine jE [] results169 ?_;exact⟨rfl,rfl⟩
 rw[hz]at k1 k2;refine ag func169 rfl ntmps169 rfl ?_;rintro F ⟨hq,hb,_⟩;refine dm ?_;refine zl CF (qg q b qb C.ae.length c s hc hl h) .nil (λ_ le _=>In.mono hq le) ?_;refine bR ?_;refine zf 15 ?_ (e:=by rfl);refine bR ?_;refine cO ?_ (e:=by exact decide_eq_false (by rw[afn];omega));refine bW ?_;refine jE [] results169 ?_;exact⟨by rw[ajv];rfl,rfl⟩
def KlO (C:Cs)(o:Option Nat):Prop:=∀q,o=some q->kl C.A q≠0
def zD (A:By)(o1 o2:Option Nat):By:=
 let B:=match o1 with|none=>A|some a=>wr A (a+4*2) 4 (nO o2)
 match o2 with|none=>B|some e=>wr B (e+4*1) 4 (nO o1)
def rQ (C:Cs)(cs:List Value)(i:Nat)(o1 o2:Option Nat):List Value:=
 let ds:=match o1 with|none=>cs.set (i*3+0) (CO CJ (hO C o2))|some _=>cs
 match o2 with|none=>ds.set (i*3+1) (CO CJ (hO C o1))|some _=>ds
theorem xV (q b qb n:Nat)(C:Cs)(K:Ok C)(cs:List Value)(i:Nat)(hi:i*3+2<cs.length)(o1 o2:Option Nat)(L1:di C o1)(L2:di C o2)(k1:KlO C o1)(k2:KlO C o2)(it:∀p,o2=some p->gO C p):
  aO aaO 267 [CM q, .pointer (some ⟨qb,i*3,none⟩),CO CJ (hO C o1),CO CJ (hO C o2)] (λ_=>True) [Cl b C,af q 182 (fC b qb n),af qb 333 cs]
   (λv H=>v= .tuple #[]/\H= [Cl b (C.wA (zD C.A o1 o2)),af q 182 (fC b qb n),af qb 333 (rQ C cs i o1 o2)]):=by
 rcases o1 with _|a<;>rcases o2 with _|e
 ·unfold fC zD rQ
  refine ag func267 rfl ntmps267 rfl ?_;intro F _;refine cC ?_;refine bm ?_;refine aF ?_;refine jW [Cl b C,af q 182 (fC b qb n),af qb 333 ((cs.set (i*3+0) (CO CJ (0))).set (i*3+1) (CO CJ (0)))] results267 ?_;exact⟨rfl,rfl⟩
 ·have M:=L2 e rfl
  obtain⟨m1,m2,m3,m4,m5,m6⟩:=bV K M.toAt;unfold fC zD rQ;rw[cm];refine ag func267 rfl ntmps267 rfl ?_;intro F _;refine ri ?_;refine cO ?_;refine bR ?_;refine zl CF (dX b C K e 1 none M (k2 e rfl) (by omega) L1) (.cons .here .nil) CI ?_;refine aF ?_;refine jW [Cl b (C.wA (wr C.A (e+4*1) 4 (nO none))),af q 182 (fC b qb n),af qb 333 (cs.set (i*3+0) (CO CJ (C.hd e)))] results267 ?_;exact⟨rfl,rfl⟩
 ·have M:=L1 a rfl
  obtain⟨m1,m2,m3,m4,m5,m6⟩:=bV K M.toAt;unfold fC zD rQ;rw[cm];refine ag func267 rfl ntmps267 rfl ?_;intro F _;refine bE ?_;refine cO ?_;refine bR ?_;refine zl CF (dX b C K a 2 none M (k1 a rfl) (by omega) L2) (.cons .here .nil) CI ?_;refine dB ?_;refine aF ?_;refine jW [Cl b (C.wA (wr C.A (a+4*2) 4 (nO none))),af q 182 (fC b qb n),af qb 333 (cs.set (i*3+1) (CO CJ (C.hd a)))] results267 ?_;exact⟨rfl,rfl⟩
 have M:=L1 a rfl;have N:=L2 e rfl;obtain⟨m1,m2,m3,m4,m5,m6⟩:=bV K M.toAt;obtain⟨u1,u2,u3,u4,u5,u6⟩:=bV K N.toAt;have kp:=wO K N.toAt M.toAt (it e rfl) (a:=4*2) (n:=4) (v:=nO (some e)) (by omega);unfold fC zD rQ;rw[cm,cm];refine ag func267 rfl ntmps267 rfl ?_;intro F _;refine bE ?_;refine cO ?_;refine bR ?_;refine zl CF (dX b C K a 2 (some e) M (k1 a rfl) (by omega) L2) (.cons .here .nil) CI ?_;refine bE ?_;refine cO ?_;refine bR ?_;refine zl CF (dX b (C.wA (wr C.A (a+4*2) 4 (nO (some e)))) (K.wA _) e 1 (some a) (N.wA _) (λh=>k2 e rfl (by rw[<-kp.kl];exact h)) (by omega) (λq hq=>(L1 q hq).wA _)) (.cons .here .nil) CI ?_;refine aF ?_;refine jW [Cl b ((C.wA (wr C.A (a+4*2) 4 (nO (some e)))).wA (wr (wr C.A (a+4*2) 4 (nO (some e))) (e+4*1) 4 (nO (some a)))),af q 182 (fC b qb n),af qb 333 cs] results267 ?_;exact⟨rfl,rfl⟩
theorem Yl{C:Cs}(K:Ok C){p q:Nat}(L:At C p)(M:At C q)(I:gO C p)(v:Nat):Kept C (wr C.A (q+45) 1 v) p:=by
 have n1:=(L.bn K).2.1;have m1:=(M.bn K).2.1;have hf:=I.fits;have r:=λ(o w:Nat) (h1:o+w<=45\/46<=o) (h2:o+w<=C.sz (C.cl p))=>lY K L M (a:=45) (n:=1) (v:=v) (o:=o) (w:=w) (by omega) h2 (λ_=>by omega);have e1:kl (wr C.A (q+45) 1 v) p=kl C.A p:=r 44 1 (by omega) (by omega);have e2:vl (wr C.A (q+45) 1 v) p=vl C.A p:=r 48 4 (by omega) (by omega);refine⟨e1,e2, ?_,λJ=>⟨?_, ?_, ?_, ?_⟩⟩
 ·unfold aP
  rw[e1];exact Ji K L M (by omega) (by omega) (λ_=>by omega)
 ·rw[cK,e1];exact J.k0
 ·rw[cK,e1,e2];exact J.fits
 ·rw[cK,r 16 8 (by omega) (by omega)];exact J.exp
 rw[cK,r 24 8 (by omega) (by omega)];exact J.tch
def gD (C:Cs)(o:Option Nat):Prop:=∀q,o=some q->Live C q/\gO C q
theorem gD.lv{C:Cs}{o:Option Nat}(h:gD C o):di C o:=λq e=>(h q e).1
theorem gD.kl{C:Cs}{o:Option Nat}(h:gD C o):KlO C o:=λq e=>(h q e).2.k0
theorem gD.link{C:Cs}(K:Ok C){o:Option Nat}(h:gD C o){p:Nat}(M:Live C p){a n v:Nat}(ha:a+n<=12):gD (C.wA (wr C.A (p+a) n v)) o:=
 λq e=>⟨(h q e).1.wA _,(wO K (h q e).1.toAt M.toAt (h q e).2 ha).it (h q e).2⟩
theorem gD.state{C:Cs}(K:Ok C){o:Option Nat}(h:gD C o){p:Nat}(M:Live C p)(v:Nat):gD (C.wA (wr C.A (p+45) 1 v)) o:=
 λq e=>⟨(h q e).1.wA _,(Yl K (h q e).1.toAt M.toAt (h q e).2 v).it (h q e).2⟩
theorem gD.join{C:Cs}(K:Ok C){o:Option Nat}(h:gD C o){o1 o2:Option Nat}(h1:gD C o1)(h2:gD C o2):gD (C.wA (zD C.A o1 o2)) o:=by
 rcases o1 with _|a<;>rcases o2 with _|e
 ·exact h
 ·exact h.link K (h2 e rfl).1 (a:=4*1) (by omega)
 ·exact h.link K (h1 a rfl).1 (a:=4*2) (by omega)
 have g:=h.link K (h1 a rfl).1 (a:=4*2) (n:=4) (v:=nO (some e)) (by omega);exact g.link (K.wA _) ((h2 e rfl).1.wA _) (a:=4*1) (by omega)
def lU (A:By)(p s:Nat)(o1 o2:Option Nat):By:=wr (wr (wr A (p+4*1) 4 (nO o1)) (p+4*2) 4 (nO o2)) (p+45) 1 s
def kZ (A:By)(p s:Nat)(o1 o2:Option Nat):By:=zD (zD (lU A p s o1 o2) o1 (some p)) (some p) o2
theorem Jo (q b qb n m:Nat)(C:Cs)(K:Ok C)(cs:List Value)(i:Nat)(hi:i*3+2<cs.length)(p s:Nat)(hs:1<=s/\s<=3)(o1 o2:Option Nat)(hp:gD C (some p))(h1:gD C o1)(h2:gD C o2)
  (hn:(rQ C (rQ C cs i o1 (some p)) i (some p) o2)[i*3+2]?=some (CO CN m)) (hl:(rQ C (rQ C cs i o1 (some p)) i (some p) o2).length=cs.length) (hl1:(rQ C cs i o1 (some p)).length=cs.length) (hm:m<=1073741824):
  aO aaO 226 [CM q, .pointer (some ⟨qb,i*3,none⟩),CO CJ (C.hd p),CO CN s,CO CJ (hO C o1),CO CJ (hO C o2)] (λ_=>True) [Cl b C,af q 182 (fC b qb n),af qb 333 cs]
   (λv H=>v= .tuple #[]/\H= [Cl b (C.wA (kZ C.A p s o1 o2)),af q 182 (fC b qb n),af qb 333 ((rQ C (rQ C cs i o1 (some p)) i (some p) o2).set (i*3+2) (CO CN (m+1:Nat)))]):=by
 have L:=(hp p rfl).1;have k0:=hp.kl p rfl;have g1:=hp.link K L (a:=4*1) (n:=4) (v:=nO o1) (by omega);have a1:=h1.link K L (a:=4*1) (n:=4) (v:=nO o1) (by omega);have b1:=h2.link K L (a:=4*1) (n:=4) (v:=nO o1) (by omega);have K1:=K.wA (wr C.A (p+4*1) 4 (nO o1));have g2:=g1.link K1 (g1 p rfl).1 (a:=4*2) (n:=4) (v:=nO o2) (by omega);have a2:=a1.link K1 (g1 p rfl).1 (a:=4*2) (n:=4) (v:=nO o2) (by omega);have b2:=b1.link K1 (g1 p rfl).1 (a:=4*2) (n:=4) (v:=nO o2) (by omega);have K2:=K.wA (wr (wr C.A (p+4*1) 4 (nO o1)) (p+4*2) 4 (nO o2));have g3:=g2.state K2 (g2 p rfl).1 s;have a3:=a2.state K2 (g2 p rfl).1 s;have b3:=b2.state K2 (g2 p rfl).1 s;have K3:=K.wA (lU C.A p s o1 o2);have g4:=g3.join K3 a3 g3;have b4:=b3.join K3 a3 g3;have K4:=K.wA (zD (lU C.A p s o1 o2) o1 (some p));have j1:=xV q b qb n (C.wA (lU C.A p s o1 o2)) K3 cs i hi o1 (some p) a3.lv g3.lv a3.kl g3.kl (λu hu=>(g3 u hu).2);have j2:=xV q b qb n (C.wA (zD (lU C.A p s o1 o2) o1 (some p))) K4 (rQ C cs i o1 (some p)) i (by rw[hl1];exact hi) (some p) o2 g4.lv b4.lv g4.kl b4.kl (λu hu=>(b4 u hu).2);unfold fC at*;refine ag func226 rfl ntmps226 rfl ?_;intro F _;refine bR ?_;refine zl CF (dX b C K p 1 o1 L k0 (by omega) h1.lv) (.cons .here .nil) CI ?_;refine dm ?_;refine zl CF (dX b (C.wA (wr C.A (p+4*1) 4 (nO o1))) K1 p 2 o2 (g1 p rfl).1 (g1.kl p rfl) (by omega) b1.lv) (.cons .here .nil) CI ?_;refine dm ?_;refine zl CF (ud b (C.wA (wr (wr C.A (p+4*1) 4 (nO o1)) (p+4*2) 4 (nO o2))) K2 p s ⟨hs.1,by omega⟩ (g2 p rfl).1 (g2.kl p rfl)) (.cons .here .nil) CI ?_;refine bG ?_;refine zl CF (j1) (.cons .here (.cons .here (.cons .here .nil))) CI ?_;refine bG ?_;refine zl CF (j2) (.cons .here (.cons .here (.cons .here .nil))) CI ?_;refine Hh (H':= [Cl b (C.wA (kZ C.A p s o1 o2)),af q 182 [CM b, .slice (some ⟨qb,0,none⟩) n n],af qb 333 (rQ C (rQ C cs i o1 (some p)) i (some p) o2)]) ?_;generalize rQ C (rQ C cs i o1 (some p)) i (some p) o2=ds at hn hl⊢;have yX:i*3+2<ds.length:=by rw[hl];exact hi
 refine bM ?_;refine aF ?_;refine jW [Cl b (C.wA (kZ C.A p s o1 o2)),af q 182 [CM b, .slice (some ⟨qb,0,none⟩) n n],af qb 333 (ds.set (i*3+2) (CO CN ((m:Int)+1)))] results226 ?_;exact⟨rfl,rfl⟩
structure T3 where
 a:Value
 b:Value
 c:Value
def t3 (x:T3):List Value:= [x.a,x.b,x.c]
theorem xx:∀x,(t3 x).length=3:=λ_=>rfl
def Kr (C:Cs)(l:List Nat):T3:=⟨CO CJ (hO C l.head?),CO CJ (hO C l.getLast?),CO CN l.length⟩
theorem Dw (C:Cs)(Q:List (List Nat)):Q.flatMap (cV C)=(Q.map (Kr C)).flatMap t3:=by
 rw[List.flatMap_map];rfl
def jnT (C:Cs)(x:T3)(o1 o2:Option Nat):T3:=
 let y:T3:=match o1 with|none=>{x with a:=CO CJ (hO C o2)}|some _=>x
 match o2 with|none=>{y with b:=CO CJ (hO C o1)}|some _=>y
theorem PD (C:Cs)(R:List T3)(i:Nat)(x:T3)(h:R[i]?=some x)(o1 o2:Option Nat):rQ C (R.flatMap t3) i o1 o2=(R.set i (jnT C x o1 o2)).flatMap t3:=by
 have hi:=(aaR.1 h).1;have s0:∀(S:List T3) (y:T3) (v:Value),S[i]?=some y->(S.flatMap t3).set (i*3+0) v=(S.set i {y with a:=v}).flatMap t3:=λS y v hs=>cj xx hs rfl (by decide);have s1:∀(S:List T3) (y:T3) (v:Value),S[i]?=some y->(S.flatMap t3).set (i*3+1) v=(S.set i {y with b:=v}).flatMap t3:=λS y v hs=>cj xx hs rfl (by decide);have same:R.set i x=R:=by
  obtain⟨h1,h2⟩:=aaR.1 h;rw[<-h2,List.set_getElem_self]
 rcases o1 with _|a<;>rcases o2 with _|e
 ·unfold rQ jnT
  show((R.flatMap t3).set (i*3+0) _).set (i*3+1) _=_;rw[s0 R x _ h,s1 _ _ _ (aaU hi),afN]
 ·exact s0 R x _ h
 ·exact s1 R x _ h
 unfold rQ jnT;show R.flatMap t3=(R.set i x).flatMap t3;rw[same]
theorem vR:∀(l:List Nat) (k p:Nat) (_:k<=l.length),(l.insertIdx k p).getLast?=if k=l.length then some p else l.getLast?
 | [],0,p,_=>rfl
 |a::l,0,p,_=>by
  rw[ajn,List.getLast?_cons_cons,if_neg (by simp)]
 |a::l,k+1,p,h=>by
  rw[ai1,ajv,vR l k p (by simpa using h),afn,ajv];by_cases e:k=l.length
  ·rw[if_pos e,if_pos (by omega)];rfl
  rw[if_neg e,if_neg (by omega)]
theorem T6 (l:List Nat)(k p:Nat)(h:k<=l.length):(l.insertIdx k p).head?=if k=0 then some p else l.head?:=by
 rcases k with _|k
 ·simp
 rcases l with _|⟨a,l⟩
 ·simp at h
 simp
theorem adg (C:Cs)(l:List Nat)(k p:Nat)(h:k<=l.length):{jnT C (jnT C (Kr C l) (pv l k) (some p)) (some p) l[k]? with c:=CO CN (l.length+1:Nat)}=Kr C (l.insertIdx k p):=by
 unfold Kr;rw[T6 l k p h,vR l k p h,List.length_insertIdx_of_le_length h];rcases k with _|k
 ·by_cases e:0<l.length
  ·rw[aaQ e,if_pos rfl,if_neg (by omega)];rfl
  rw[aa7 (by omega),if_pos rfl,if_pos (by omega)];rfl
 have e1:pv l (k+1)=some l[k]:=aaQ (by omega);by_cases e:k+1<l.length
 ·rw[e1,aaQ e,if_neg (by omega),if_neg (by omega)];rfl
 rw[e1,aa7 (by omega),if_neg (by omega),if_pos (by omega)];rfl
theorem Ax (C:Cs)(Q:List (List Nat))(i k p:Nat)(hi:i<Q.length)(h:k<=(ql Q i).length):
  (rQ C (rQ C (Q.flatMap (cV C)) i (pv (ql Q i) k) (some p)) i (some p) (ql Q i)[k]?).set (i*3+2) (CO CN ((ql Q i).length+1:Nat))=(Q.set i ((ql Q i).insertIdx k p)).flatMap (cV C):=by
 have hq:(Q.map (Kr C))[i]?=some (Kr C (ql Q i)):=by
  unfold ql;rw[aa6,aaP,aaQ hi];rfl
 have yX:i<(Q.map (Kr C)).length:=by simpa using hi
 have s2:∀(S:List T3) (y:T3) (v:Value),S[i]?=some y->(S.flatMap t3).set (i*3+2) v=(S.set i {y with c:=v}).flatMap t3:=λS y v hs=>cj xx hs rfl (by decide);rw[Dw,Dw,PD C _ i _ hq,PD C _ i _ (aaU yX),afN,s2 _ _ _ (aaU yX),afN,adg C _ k p h,afO]
theorem S6 (q b qb:Nat)(C:Cs)(K:Ok C)(p j:Nat)(hj:j=1\/j=2)(o:Option Nat)(L:Live C p)(hk:kl C.A p≠0)(h:1<=gJ C.A p/\gJ C.A p<=3)(ho:di C o)(hn:rd C.A (p+4*j) 4=nO o):
  aO aaO 171 [CM q,CO CJ (C.hd p),CO CN j] (λh=>In (Cl b C) h/\In (af q 182 (fC b qb C.ae.length)) h) []
   (λv H=>v= .tuple #[CO CJ (hO C o), .bool o.isSome]/\H= []):=by
 refine ag func171 rfl ntmps171 rfl ?_;rintro F ⟨cR,hq⟩;have Kv:=hq;unfold fC at Kv;refine dm ?_;refine zl CF (sH q b qb C K p L hk h) .nil (λ_ le _=>⟨In.mono cR le,In.mono hq le⟩) ?_;refine dB ?_;refine zl CF (nI b C K p j o L hk (by omega) ho hn) .nil (λ_ le _=>In.mono cR le) ?_;rcases o with _|e
 ·refine Li Mv ?_
  refine bM ?_;refine zf 26 ?_ (e:=by rfl);refine bW ?_;refine jE [] results171 ?_;exact⟨rfl,rfl⟩
 obtain⟨m1,m2,m3,m4,m5,m6⟩:=bV K (ho e rfl).toAt;rw[cm];refine bW ?_;refine zf 26 ?_ (e:=by rfl);refine bm ?_;refine cO ?_;refine dm ?_;refine jE [] results171 ?_;exact⟨rfl,rfl⟩
theorem Ao (q b qb:Nat)(C:Cs)(K:Ok C)(Q:List (List Nat))(O:iR C Q)(i k:Nat)(hk:k<(ql Q i).length):
  aO aaO 119 [CM q,CO CJ (C.hd (ql Q i)[k])] (λh=>In (Cl b C) h/\In (af q 182 (fC b qb C.ae.length)) h) []
   (λv H=>v= .tuple #[CO CJ (hO C (pv (ql Q i) k)), .bool (pv (ql Q i) k).isSome]/\H= []):=by
 have hp:=aa4 hk;have s:=O.st i _ hp;have ho:di C (pv (ql Q i) k):=λu hu=>by
  rcases k with _|k
  ·cases hu
  exact O.lv i u (aaT hu)
 refine ag func119 rfl ntmps119 rfl ?_;rintro F ⟨cR,hq⟩;refine bR ?_;refine zl CF (S6 q b qb C K (ql Q i)[k] 1 (.inl rfl) (pv (ql Q i) k) (O.lv i _ hp) (O.it i _ hp).k0 ⟨s.1,s.2.1⟩ ho (O.l1 i k hk)) .nil (λ_ le _=>⟨In.mono cR le,In.mono hq le⟩) ?_;refine bG ?_;refine jE [] results119 ?_;exact⟨rfl,rfl⟩
theorem D5 (q b qb:Nat)(C:Cs)(K:Ok C)(p s:Nat)(hs:1<=s/\s<=3)(L:Live C p)(hk:kl C.A p≠0)(h:¬(1<=gJ C.A p/\gJ C.A p<=3)):
  aO aaO 224 [CM q,CO CJ (C.hd p),CO CN s] (λh=>In (Cl b C) h/\In (af q 182 (fC b qb C.ae.length)) h) []
   (λv H=>v= .tuple #[.pointer (some ⟨qb,qi (C.cl p) s*3,none⟩),CO CN 0]/\H= []):=by
 have hc:=(L.toAt.bn K).1;have hl:=K.toFix.l1;refine ag func224 rfl ntmps224 rfl ?_;rintro F ⟨cR,hq⟩;have Kv:=hq;unfold fC at Kv;refine bR ?_;refine zl CF (vf s hs) .nil CI ?_;refine bW ?_;refine zl CF (vQ b C K p L hk) .nil (λ_ le _=>In.mono cR le) ?_;refine gz ?_;refine zf 28 ?_ (e:=by rfl);refine bm ?_;refine cO ?_;refine bG ?_;refine zl CF (HX q b qb C K p L hk h) .nil (λ_ le _=>⟨In.mono cR le,In.mono hq le⟩) ?_;refine bW ?_;refine zl CF (vG b C K p L) .nil (λ_ le _=>In.mono cR le) ?_;refine cC ?_;refine zl CF (qg q b qb C.ae.length (C.cl p) s hc hl hs) .nil (λ_ le _=>In.mono hq le) ?_;refine bm ?_;refine jE [] results224 ?_;exact⟨rfl,rfl⟩
theorem wJ{C:Cs}(K:Ok C){x q:Nat}(L:At C x)(M:At C q)(A:By){i j v:Nat}(hi:i<=2)(hj:j<=2)(hv:v<4294967296):rd (wr A (q+4*j) 4 v) (x+4*i) 4=if x=q/\i=j then v else rd A (x+4*i) 4:=by
 have n1:=(L.bn K).2.1;have m1:=(M.bn K).2.1
 split
 ·next h=>
  obtain⟨rfl,rfl⟩:=h;rw[dy];exact afE hv
 next h=>exact lY (C:=C.wA A) (K.wA A) (L.wA A) (M.wA A) (a:=4*j) (n:=4) (o:=4*i) (w:=4) (by show _<=C.sz (C.cl q);omega) (by show _<=C.sz (C.cl x);omega) (λe=>by
  have:i≠j:=λg=>h ⟨e,g⟩;omega)
theorem tL{C:Cs}(K:Ok C){x q:Nat}(L:At C x)(M:At C q)(A:By){i v:Nat}(hi:i<=2):rd (wr A (q+45) 1 v) (x+4*i) 4=rd A (x+4*i) 4:=by
 have n1:=(L.bn K).2.1;have m1:=(M.bn K).2.1;exact lY (C:=C.wA A) (K.wA A) (L.wA A) (M.wA A) (a:=45) (n:=1) (o:=4*i) (w:=4) (by show _<=C.sz (C.cl q);omega) (by show _<=C.sz (C.cl x);omega) (λ_=>by omega)
theorem Jd{C:Cs}(K:Ok C){x q:Nat}(L:At C x)(M:At C q)(A:By){j v:Nat}(hj:j<=2):gJ (wr A (q+4*j) 4 v) x=gJ A x:=by
 have n1:=(L.bn K).2.1;have m1:=(M.bn K).2.1;exact lY (C:=C.wA A) (K.wA A) (L.wA A) (M.wA A) (a:=4*j) (n:=4) (o:=45) (w:=1) (by show _<=C.sz (C.cl q);omega) (by show _<=C.sz (C.cl x);omega) (λ_=>by omega)
theorem ZE{C:Cs}(K:Ok C){x q:Nat}(L:At C x)(M:At C q)(A:By){v:Nat}(hv:v<256):gJ (wr A (q+45) 1 v) x=if x=q then v else gJ A x:=by
 have n1:=(L.bn K).2.1;have m1:=(M.bn K).2.1
 split
 ·next h=>
  subst h;unfold gJ;rw[dy];exact afE (by rw[Nat.pow_one];exact hv)
 next h=>exact lY (C:=C.wA A) (K.wA A) (L.wA A) (M.wA A) (a:=45) (n:=1) (o:=45) (w:=1) (by show _<=C.sz (C.cl q);omega) (by show _<=C.sz (C.cl x);omega) (λe=>absurd e h)
theorem x0 (A:By)(p s:Nat)(o1 o2:Option Nat):kZ A p s o1 o2=
  (match o2 with
   |none=>wr (wr (match o1 with|none=>lU A p s o1 o2|some a=>wr (lU A p s o1 o2) (a+4*2) 4 (nO (some p))) (p+4*1) 4 (nO o1)) (p+4*2) 4 (nO o2)
   |some e=>wr (wr (wr (match o1 with|none=>lU A p s o1 o2|some a=>wr (lU A p s o1 o2) (a+4*2) 4 (nO (some p))) (p+4*1) 4 (nO o1)) (p+4*2) 4 (nO o2)) (e+4*1) 4 (nO (some p))):=by
 rcases o1 with _|a<;>rcases o2 with _|e<;>rfl
theorem adi{C:Cs}(K:Ok C){x p s:Nat}{o1 o2:Option Nat}(X:Live C x)(P:Live C p)(L1:di C o1)(L2:di C o2)(d2:o2≠some p):
  rd (kZ C.A p s o1 o2) (x+4*1) 4=if x=p then nO o1 else if o2=some x then nO (some p)else rd C.A (x+4*1) 4:=by
 have b1:=oZ K L1;have b2:=oZ K L2;have bp:=oZ K (o:=some p) (λq hq=>by cases hq;exact P);have l:=λ(q:Nat) (M:Live C q) (A:By) (j v:Nat) (hj:j<=2) (hv:v<4294967296)=>wJ K X.toAt M.toAt A (i:=1) (j:=j) (v:=v) (by omega) hj hv;have z:=λ(A:By)=>tL K X.toAt P.toAt A (i:=1) (v:=s) (by omega);rw[x0];rcases o1 with _|a<;>rcases o2 with _|e<;>dsimp only<;>unfold lU
 ·rw[l p P _ 2 _ (by omega) b2,l p P _ 1 _ (by omega) b1,z,l p P _ 2 _ (by omega) b2,l p P _ 1 _ (by omega) b1]
  by_cases h:x=p<;>simp[h]
 ·have E:=L2 e rfl
  have ne:e≠p:=λh=>d2 (by rw[h]);rw[l e E _ 1 _ (by omega) bp,l p P _ 2 _ (by omega) b2,l p P _ 1 _ (by omega) b1,z,l p P _ 2 _ (by omega) b2,l p P _ 1 _ (by omega) b1];by_cases h:x=p
  ·subst h;simp[Ne.symm ne]
  by_cases g:x=e
  ·subst g;simp[h]
  have g2:¬e=x:=λu=>g u.symm;simp[h,g,g2]
 ·have A':=L1 a rfl
  rw[l p P _ 2 _ (by omega) b2,l p P _ 1 _ (by omega) b1,l a A' _ 2 _ (by omega) bp,z,l p P _ 2 _ (by omega) b2,l p P _ 1 _ (by omega) b1];by_cases h:x=p<;>simp[h]
 have A':=L1 a rfl;have E:=L2 e rfl;have ne:e≠p:=λh=>d2 (by rw[h]);rw[l e E _ 1 _ (by omega) bp,l p P _ 2 _ (by omega) b2,l p P _ 1 _ (by omega) b1,l a A' _ 2 _ (by omega) bp,z,l p P _ 2 _ (by omega) b2,l p P _ 1 _ (by omega) b1];by_cases h:x=p
 ·subst h;simp[Ne.symm ne]
 by_cases g:x=e
 ·subst g;simp[h]
 have g2:¬e=x:=λu=>g u.symm;simp[h,g,g2]
theorem adh{C:Cs}(K:Ok C){x p s:Nat}{o1 o2:Option Nat}(X:Live C x)(P:Live C p)(L1:di C o1)(L2:di C o2)(d1:o1≠some p):
  rd (kZ C.A p s o1 o2) (x+4*2) 4=if x=p then nO o2 else if o1=some x then nO (some p)else rd C.A (x+4*2) 4:=by
 have b1:=oZ K L1;have b2:=oZ K L2;have bp:=oZ K (o:=some p) (λq hq=>by cases hq;exact P);have l:=λ(q:Nat) (M:Live C q) (A:By) (j v:Nat) (hj:j<=2) (hv:v<4294967296)=>wJ K X.toAt M.toAt A (i:=2) (j:=j) (v:=v) (by omega) hj hv;have z:=λ(A:By)=>tL K X.toAt P.toAt A (i:=2) (v:=s) (by omega);rw[x0];rcases o1 with _|a<;>rcases o2 with _|e<;>dsimp only<;>unfold lU
 ·rw[l p P _ 2 _ (by omega) b2,l p P _ 1 _ (by omega) b1,z,l p P _ 2 _ (by omega) b2,l p P _ 1 _ (by omega) b1]
  by_cases h:x=p<;>simp[h]
 ·have E:=L2 e rfl
  rw[l e E _ 1 _ (by omega) bp,l p P _ 2 _ (by omega) b2,l p P _ 1 _ (by omega) b1,z,l p P _ 2 _ (by omega) b2,l p P _ 1 _ (by omega) b1];by_cases h:x=p<;>simp[h]
 ·have A':=L1 a rfl
  rw[l p P _ 2 _ (by omega) b2,l p P _ 1 _ (by omega) b1,l a A' _ 2 _ (by omega) bp,z,l p P _ 2 _ (by omega) b2,l p P _ 1 _ (by omega) b1];by_cases h:x=p
  ·simp[h]
  by_cases g:x=a
  ·subst g;simp[h]
  have g2:¬a=x:=λu=>g u.symm;simp[h,g,g2]
 have A':=L1 a rfl;have E:=L2 e rfl;rw[l e E _ 1 _ (by omega) bp,l p P _ 2 _ (by omega) b2,l p P _ 1 _ (by omega) b1,l a A' _ 2 _ (by omega) bp,z,l p P _ 2 _ (by omega) b2,l p P _ 1 _ (by omega) b1];by_cases h:x=p
 ·simp[h]
 by_cases g:x=a
 ·subst g;simp[h]
 have g2:¬a=x:=λu=>g u.symm;simp[h,g,g2]
theorem QC{C:Cs}(K:Ok C){x p s:Nat}{o1 o2:Option Nat}(X:Live C x)(P:Live C p)(L1:di C o1)(L2:di C o2)(hs:s<256):
  gJ (kZ C.A p s o1 o2) x=if x=p then s else gJ C.A x:=by
 have l:=λ(q:Nat) (M:Live C q) (A:By) (j v:Nat) (hj:j<=2)=>Jd K X.toAt M.toAt A (j:=j) (v:=v) hj;have z:=λ(A:By)=>ZE K X.toAt P.toAt A (v:=s) hs;rw[x0];rcases o1 with _|a<;>rcases o2 with _|e<;>dsimp only<;>unfold lU
 ·rw[l p P _ 2 _ (by omega),l p P _ 1 _ (by omega),z,l p P _ 2 _ (by omega),l p P _ 1 _ (by omega)]
 ·rw[l e (L2 e rfl) _ 1 _ (by omega),l p P _ 2 _ (by omega),l p P _ 1 _ (by omega),z,l p P _ 2 _ (by omega),l p P _ 1 _ (by omega)]
 ·rw[l p P _ 2 _ (by omega),l p P _ 1 _ (by omega),l a (L1 a rfl) _ 2 _ (by omega),z,l p P _ 2 _ (by omega),l p P _ 1 _ (by omega)]
 rw[l e (L2 e rfl) _ 1 _ (by omega),l p P _ 2 _ (by omega),l p P _ 1 _ (by omega),l a (L1 a rfl) _ 2 _ (by omega),z,l p P _ 2 _ (by omega),l p P _ 1 _ (by omega)]
theorem fG{Q:List (List Nat)}{i:Nat}(h:i<Q.length)(l:List Nat)(j:Nat):ql (Q.set i l) j=if j=i then l else ql Q j:=by
 unfold ql
 split
 ·next e=>rw[e];exact ni h l
 next e=>exact getD_set_ne (λg=>e g.symm) l
theorem JA{l:List Nat}{k p x:Nat}(h:k<=l.length)(hx:x∈l.insertIdx k p):x=p\/x∈l:=(List.mem_insertIdx h).1 hx
theorem acV (l:List Nat)(k p j:Nat)(h:k<=l.length)(hj:j<(l.insertIdx k p).length):pv (l.insertIdx k p) j=if j=0 then none else if j-1<k then l[j-1]? else if j-1=k then some p else l[j-2]?:=by
 rcases j with _|j
 ·rfl
 show(l.insertIdx k p)[j]?=_;rw[ai6,if_neg (show¬j+1=0 by omega),show j+1-1=j from rfl,show j+1-2=j-1 by omega];by_cases h1:j<k
 ·rw[if_pos h1,if_pos h1]
 rw[if_neg h1,if_neg h1];by_cases h2:j=k
 ·rw[if_pos h2,if_pos h2,if_pos (by omega)]
 rw[if_neg h2,if_neg h2]
theorem LW{C:Cs}(K:Ok C){p s:Nat}{o1 o2:Option Nat}(hp:gD C (some p))(h1:gD C o1)(h2:gD C o2){o:Option Nat}(h:gD C o):gD (C.wA (kZ C.A p s o1 o2)) o:=by
 have L:=(hp p rfl).1;have s1:=λ{o:Option Nat} (h:gD C o)=>h.link K L (a:=4*1) (n:=4) (v:=nO o1) (by omega);have K1:=K.wA (wr C.A (p+4*1) 4 (nO o1));have s2:=λ{o:Option Nat} (h:gD C o)=>(s1 h).link K1 (s1 hp p rfl).1 (a:=4*2) (n:=4) (v:=nO o2) (by omega);have K2:=K.wA (wr (wr C.A (p+4*1) 4 (nO o1)) (p+4*2) 4 (nO o2));have s3:=λ{o:Option Nat} (h:gD C o)=>(s2 h).state K2 (s2 hp p rfl).1 s;have K3:=K.wA (lU C.A p s o1 o2);have s4:=λ{o:Option Nat} (h:gD C o)=>(s3 h).join K3 (s3 h1) (s3 hp);have K4:=K.wA (zD (lU C.A p s o1 o2) o1 (some p));exact(s4 h).join K4 (s4 hp) (s4 h2)
theorem iC:∀{l:List Nat} {i j x:Nat},l.Nodup->l[i]?=some x->l[j]?=some x->i=j
 | [],i,j,x,_,h,_=>by simp at h
 |a::l,0,0,x,_,_,_=>rfl
 |a::l,0,j+1,x,nd,h,g=>by
  rw[ajj]at h;rw[agk]at g;cases h;exact absurd (aaT g) (aa3.1 nd).1
 |a::l,i+1,0,x,nd,h,g=>by
  rw[ajj]at g;rw[agk]at h;cases g;exact absurd (aaT h) (aa3.1 nd).1
 |a::l,i+1,j+1,x,nd,h,g=>by
  rw[agk]at h g;rw[iC (aa3.1 nd).2 h g]
theorem Qv:∀{l:List Nat} {k p:Nat},k<=l.length->p∉l->l.Nodup->(l.insertIdx k p).Nodup
 |l,0,p,_,hp,nd=>by
  rw[ajn];exact aa3.2 ⟨hp,nd⟩
 | [],k+1,p,h,_,_=>by simp at h
 |a::l,k+1,p,h,hp,nd=>by
  rw[ai1];have h2:k<=l.length:=by simpa using h
  refine aa3.2 ⟨λhm=> ?_,Qv h2 (λg=>hp (aaW _ g)) (aa3.1 nd).2⟩;rcases JA h2 hm with e|e
  ·exact hp (by rw[<-e];exact aaV)
  exact(aa3.1 nd).1 e
theorem JY{l:List Nat}{k p m x:Nat}(hk:k<=l.length)(h:(l.insertIdx k p)[m]?=some x):m<k/\l[m]?=some x\/m=k/\x=p\/k<m/\l[m-1]?=some x:=by
 rw[ai6]at h;by_cases h1:m<k
 ·rw[if_pos h1]at h;exact .inl ⟨h1,h⟩
 rw[if_neg h1]at h;by_cases h2:m=k
 ·rw[if_pos h2,if_pos (by omega)]at h
  cases h;exact .inr (.inl ⟨h2,rfl⟩)
 rw[if_neg h2]at h;exact .inr (.inr ⟨by omega,h⟩)
theorem Ym{l:List Nat}{k p m:Nat}(hk:k<=l.length):(l.insertIdx k p)[m]?=if m<k then l[m]? else if m=k then some p else l[m-1]?:=by
 rw[ai6];by_cases h1:m<k
 ·rw[if_pos h1,if_pos h1]
 rw[if_neg h1,if_neg h1];by_cases h2:m=k
 ·rw[if_pos h2,if_pos h2,if_pos (by omega)]
 rw[if_neg h2,if_neg h2]
theorem iR.m1{C:Cs}{Q:List (List Nat)}(O:iR C Q){i k x:Nat}(h:(ql Q i)[k]?=some x):rd C.A (x+4) 4=nO (pv (ql Q i) k):=by
 obtain⟨h1,h2⟩:=aaR.1 h;rw[<-h2];exact O.l1 i k h1
theorem iR.m2{C:Cs}{Q:List (List Nat)}(O:iR C Q){i k x:Nat}(h:(ql Q i)[k]?=some x):rd C.A (x+8) 4=nO (ql Q i)[k+1]?:=by
 obtain⟨h1,h2⟩:=aaR.1 h;rw[<-h2];exact O.l2 i k h1
theorem pW{l:List Nat}{k x:Nat}(h:pv l k=some x):x∈l:=by
 rcases k with _|k
 ·cases h
 exact aaT h
theorem iR.FL{C:Cs}{Q:List (List Nat)}(O:iR C Q){i:Nat}{o:Option Nat}(h:∀x,o=some x->x∈ql Q i):gD C o:=λx hx=>⟨O.lv i x (h x hx),O.it i x (h x hx)⟩
theorem iR.one{C:Cs}{Q:List (List Nat)}(O:iR C Q){i j x:Nat}(h:x∈ql Q i)(g:x∈ql Q j):i=j:=by
 rw[(O.st i x h).2.2,(O.st j x g).2.2]
theorem QD{C:Cs}(K:Ok C){Q:List (List Nat)}(O:iR C Q){p s k i:Nat}(ei:i=qi (C.cl p) s)(hi:i<Q.length)(hs:1<=s/\s<=3)(hk:k<=(ql Q i).length)(P:gD C (some p))(hn:¬(1<=gJ C.A p/\gJ C.A p<=3)):
  iR (C.wA (kZ C.A p s (pv (ql Q i) k) (ql Q i)[k]?)) (Q.set i ((ql Q i).insertIdx k p)):=by
 have no:∀j,p∉ql Q j:=λj h=>hn ⟨(O.st j p h).1,(O.st j p h).2.1⟩;have LP:=(P p rfl).1;have I1:gD C (pv (ql Q i) k):=O.FL λx hx=>pW hx;have I2:gD C (ql Q i)[k]?:=O.FL λx hx=>aaT hx;have d1:pv (ql Q i) k≠some p:=λh=>no i (pW h);have d2:(ql Q i)[k]?≠some p:=λh=>no i (aaT h);have hm:∀j x,x∈ql (Q.set i ((ql Q i).insertIdx k p)) j->j=i/\x=p\/x≠p/\x∈ql Q j:=λj x hx=>by
  rw[fG hi]at hx
  split at hx
  ·next e=>
   rcases JA hk hx with g|g
   ·exact .inl ⟨e,g⟩
   exact .inr ⟨λz=>no i (by rw[<-z];exact g),by rw[e];exact g⟩
  next e=>exact .inr ⟨λz=>no j (by rw[<-z];exact hx),hx⟩
 have V1:∀j x,x∈ql (Q.set i ((ql Q i).insertIdx k p)) j->gD C (some x):=λj x hx y hy=>by
  cases hy;rcases hm j _ hx with⟨_,rfl⟩|⟨_,h⟩
  ·exact P _ rfl
  exact⟨O.lv j _ h,O.it j _ h⟩
 have kp:=λj x hx=>LW K (s:=s) P I1 I2 (V1 j x hx);refine⟨?_,λj x hx=>(kp j x hx x rfl).1,λj x hx=>(kp j x hx x rfl).2,λj x hx=> ?_,λj=> ?_,λj m h=> ?_,λj m h=> ?_⟩
 ·rw[aaY];exact O.len
 ·show 1<=gJ (kZ _ _ _ _ _) x/\_/\j=qi (C.cl x) _
  rw[cK,QC K (V1 j x hx x rfl).1 LP I1.lv I2.lv (by omega)];rcases hm j x hx with⟨rfl,rfl⟩|⟨h1,h2⟩
  ·rw[if_pos rfl];exact⟨hs.1,hs.2,ei⟩
  rw[if_neg h1];exact O.st j x h2
 ·rw[fG hi]
  split
  ·exact Qv hk (no i) (O.nd i)
  exact O.nd j
 ·have hx:(ql (Q.set i ((ql Q i).insertIdx k p)) j)[m]?=some (ql (Q.set i ((ql Q i).insertIdx k p)) j)[m]:=aaQ h
  generalize (ql (Q.set i ((ql Q i).insertIdx k p)) j)[m]=x at hx⊢;have FT:=aaT hx;have r:=adi K (s:=s) (V1 j x FT x rfl).1 LP I1.lv I2.lv d2;rw[cK];refine r.trans ?_;rw[fG hi]at hx⊢
  split at hx
  ·next e=>
   subst e;rw[if_pos rfl];have hml:m<((ql Q j).insertIdx k p).length:=(aaR.1 hx).1;rw[acV _ _ _ _ hk hml];rcases JY hk hx with⟨h1,h2⟩|⟨h1,h2⟩|⟨h1,h2⟩
   ·have g1:x≠p:=λz=>no j (by rw[<-z];exact aaT h2)
    have g2:(ql Q j)[k]?≠some x:=λz=>by have:=iC (O.nd j) z h2;omega
    rw[if_neg g1,if_neg g2,O.m1 h2];rcases m with _|m
    ·rfl
    rw[if_neg (by omega),if_pos (by omega)];rfl
   ·rw[if_pos h2]
    subst h1;rcases m with _|m
    ·rfl
    rw[if_neg (by omega),if_pos (by omega)];rfl
   have g1:x≠p:=λz=>no j (by rw[<-z];exact aaT h2);rw[if_neg g1,if_neg (show¬m=0 by omega),if_neg (show¬m-1<k by omega)];by_cases g:m-1=k
   ·rw[if_pos g,if_pos (by rw[<-g];exact h2)]
   have g2:(ql Q j)[k]?≠some x:=λz=>by have:=iC (O.nd j) z h2;omega
   rw[if_neg g2,if_neg g,O.m1 h2];obtain⟨u,rfl⟩:∃u,m=u+2:=⟨m-2,by omega⟩;rfl
  next e=>
  rw[if_neg e];have hj:=aaT hx;have g1:x≠p:=λz=>no j (by rw[<-z];exact hj);have g2:(ql Q i)[k]?≠some x:=λz=>e (O.one hj (aaT z));rw[if_neg g1,if_neg g2,O.m1 hx]
 have hx:(ql (Q.set i ((ql Q i).insertIdx k p)) j)[m]?=some (ql (Q.set i ((ql Q i).insertIdx k p)) j)[m]:=aaQ h;generalize (ql (Q.set i ((ql Q i).insertIdx k p)) j)[m]=x at hx⊢;have FT:=aaT hx;have r:=adh K (s:=s) (V1 j x FT x rfl).1 LP I1.lv I2.lv d1;rw[cK];refine r.trans ?_;rw[fG hi]at hx⊢
 split at hx
 ·next e=>
  subst e;rw[if_pos rfl,Ym hk];rcases JY hk hx with⟨h1,h2⟩|⟨h1,h2⟩|⟨h1,h2⟩
  ·have g1:x≠p:=λz=>no j (by rw[<-z];exact aaT h2)
   rw[if_neg g1];by_cases g:m+1=k
   ·subst g
    rw[if_pos (show pv (ql Q j) (m+1)=some x from h2),if_neg (by omega),if_pos rfl]
   have g2:pv (ql Q j) k≠some x:=λz=>by
    rcases k with _|k
    ·omega
    have:=iC (O.nd j) z h2;omega
   rw[if_neg g2,if_pos (by omega),O.m2 h2]
  ·rw[if_pos h2,if_neg (by omega),if_neg (by omega),show m+1-1=k by omega]
  have g1:x≠p:=λz=>no j (by rw[<-z];exact aaT h2);have g2:pv (ql Q j) k≠some x:=λz=>by
    rcases k with _|k
    ·cases z
    have:=iC (O.nd j) z h2;omega
  rw[if_neg g1,if_neg g2,if_neg (by omega),if_neg (by omega),O.m2 h2,show m-1+1=m+1-1 by omega]
 next e=>
 rw[if_neg e];have hj:=aaT hx;have g1:x≠p:=λz=>no j (by rw[<-z];exact hj);have g2:pv (ql Q i) k≠some x:=λz=>e (O.one hj (pW z));rw[if_neg g1,if_neg g2,O.m2 hx]
def cX (C:Cs)(A B:By)(S:Nat->Nat->Prop):Prop:=∀i,B i≠A i->∃q o,At C q/\o<C.sz (C.cl q)/\S q o/\i=q+o
theorem cX.refl (C:Cs)(A:By)(S:Nat->Nat->Prop):cX C A A S:=λ_ h=>absurd rfl h
theorem cX.trans{C:Cs}{A B D:By}{S:Nat->Nat->Prop}(h:cX C A B S)(g:cX C B D S):cX C A D S:=λi e=>by
 by_cases hb:B i=A i
 ·exact g i (by rw[hb];exact e)
 exact h i hb
theorem cX.mono{C:Cs}{A B:By}{S R:Nat->Nat->Prop}(h:cX C A B S)(s:∀q o,S q o->R q o):cX C A B R:=λi e=>by
 obtain⟨q,o,h1,h2,h3,h4⟩:=h i e;exact⟨q,o,h1,h2,s q o h3,h4⟩
theorem cX.wA{C:Cs}{A B D:By}{S:Nat->Nat->Prop}(h:cX (C.wA D) A B S):cX C A B S:=λi e=>by
 obtain⟨q,o,h1,h2,h3,h4⟩:=h i e;exact⟨q,o,⟨h1.i,h1.own,h1.al,h1.k⟩,h2,h3,h4⟩
theorem w8{C:Cs}(A:By){S:Nat->Nat->Prop}{q a n v:Nat}(M:At C q)(ha:a+n<=C.sz (C.cl q))(h:∀j,a<=j->j<a+n->S q j):cX C A (wr A (q+a) n v) S:=λi e=>by
 have hr:q+a<=i/\i<q+a+n:=by
  refine aa2 λg=>e ?_;unfold wr;exact gI _ _ _ _ (by rw[nc];omega)
 exact⟨q,i-q,M,by omega,h _ (by omega) (by omega),by omega⟩
theorem vE{C:Cs}{A B:By}{S:List Nat}{a n:Nat}(d:rD A B S a n)(hS:∀q∈S,At C q)(ha:∀q∈S,a+n<=C.sz (C.cl q)):cX C A B (λq o=>q∈S/\a<=o/\o<a+n):=λi e=>by
 obtain⟨q,q1,q2,q3⟩:=d i e;have:=ha q q1;exact⟨q,i-q,hS q q1,by omega,⟨q1,by omega,by omega⟩,by omega⟩
theorem vH{C:Cs}(K:Ok C){A B:By}{S:Nat->Nat->Prop}(d:cX C A B S){p o w:Nat}(L:At C p)(ho:o+w<=C.sz (C.cl p))(h:∀j,o<=j->j<o+w->¬S p j):jU B (p+o) w=jU A (p+o) w:=
 uV λi h1 h2=>by
  refine aa2 λe=> ?_;obtain⟨q,j,q1,q2,q3,q4⟩:=d i e;by_cases e2:p=q
  ·subst e2
   exact h j (by omega) (by omega) q3
  ·rcases apart K L q1 e2 with g|g<;>omega
theorem lB{C:Cs}(K:Ok C){A B:By}{S:Nat->Nat->Prop}(d:cX C A B S){p o w:Nat}(L:At C p)(ho:o+w<=C.sz (C.cl p))(h:∀j,o<=j->j<o+w->¬S p j):rd B (p+o) w=rd A (p+o) w:=by
 unfold rd;rw[vH K d L ho h]
def mI (o:Nat):Prop:=o<16\/32<=o/\o<44\/o=45\/o=46
theorem sy{C:Cs}(K:Ok C){B:By}{S:Nat->Nat->Prop}(d:cX C C.A B S){p:Nat}(L:At C p)(I:gO C p)(h:∀j,S p j->mI j):Kept C B p:=by
 have n1:=(L.bn K).2.1;have hf:=I.fits;have r:=λ(o w:Nat) (h2:o+w<=C.sz (C.cl p)) (h3:∀j,o<=j->j<o+w->¬mI j)=>lB K d L h2 (λj g1 g2 s=>h3 j g1 g2 (h j s));have e1:kl B p=kl C.A p:=r 44 1 (by omega) (λj g1 g2=>by unfold mI;omega);have e2:vl B p=vl C.A p:=r 48 4 (by omega) (λj g1 g2=>by unfold mI;omega);refine⟨e1,e2, ?_,λJ=>⟨?_, ?_, ?_, ?_⟩⟩
 ·unfold aP
  rw[e1];exact vH K d L (by omega) (λj g1 g2 s=>by have:=h j s;unfold mI at this;omega)
 ·rw[cK,e1];exact J.k0
 ·rw[cK,e1,e2];exact J.fits
 ·rw[cK,r 16 8 (by omega) (λj g1 g2=>by unfold mI;omega)];exact J.exp
 rw[cK,r 24 8 (by omega) (λj g1 g2=>by unfold mI;omega)];exact J.tch
theorem ZS{C:Cs}(K:Ok C){B:By}{S:Nat->Nat->Prop}(d:cX C C.A B S):∀{l:List Nat},(∀p∈l,At C p/\∀j,j<4->¬S p j)->FY C.A l->FY B l
 | [],_,_=>trivial
 |p::l,h,g=>by
  obtain⟨L,hp⟩:=h p aaV;refine⟨?_,ZS K d (λq hq=>h q (aaW _ hq)) g.2⟩;have:=lB K d L (o:=0) (w:=4) (by have:=(L.bn K).2.1;omega) (λj _ g2=>hp j (by omega));rw[<-g.1];exact this
theorem F7{C:Cs}(K:Ok C){W:Tb}(O:dq C W){B:By}{S:Nat->Nat->Prop}(d:cX C C.A B S)(h:∀p∈W.all,∀j,S p j->mI j/\4<=j):dq (C.wA B) W:=by
 have kp:=λp (hp:p∈W.all)=>sy K d (O.lv p hp).toAt (O.it p hp) (λj s=>(h p hp j s).1);refine⟨O.pw,O.po,O.st,O.mp,O.sz,O.Oq,O.sm,O.mv,O.n,O.nd,λx=> ?_,λp hp=>(O.lv p hp).wA B,λp hp=>(kp p hp).it (O.it p hp),λx p hp=> ?_,λp hp q hq e=> ?_⟩
 ·refine ZS K d (λp hp=> ?_) (O.li x)
  have dE:=Tb.gU hp;exact⟨(O.lv p dE).toAt,λj hj s=>by have:=(h p dE j s).2;omega⟩
 ·show W.bk (cx (aP B p))=x
  rw[(kp p (Tb.gU hp)).key];exact O.bu x p hp
 change aP B p=aP B q at e;rw[(kp p hp).key,(kp q hq).key]at e;exact O.kd p hp q hq e
theorem KF{C:Cs}(K:Ok C){Q:List (List Nat)}(O:iR C Q){B:By}{S:Nat->Nat->Prop}(d:cX C C.A B S)(h:∀i,∀p∈ql Q i,∀j,S p j->mI j/\(j<4\/12<=j)/\j≠45):iR (C.wA B) Q:=by
 have kp:=λi p (hp:p∈ql Q i)=>sy K d (O.lv i p hp).toAt (O.it i p hp) (λj s=>(h i p hp j s).1);have n1:=λi p (hp:p∈ql Q i)=>((O.lv i p hp).toAt.bn K).2.1;refine⟨O.len,λi p hp=>(O.lv i p hp).wA B,λi p hp=>(kp i p hp).it (O.it i p hp),λi p hp=> ?_,O.nd,λi k hk=> ?_,λi k hk=> ?_⟩
 ·have:=n1 i p hp
  have e:gJ B p=gJ C.A p:=lB K d (O.lv i p hp).toAt (by omega) (λj g1 g2 s=>(h i p hp j s).2.2 (by omega));show 1<=gJ B p/\_;rw[cK,e];exact O.st i p hp
 ·have hp:=aa4 hk
  have:=n1 i _ hp;rw[cK,lB K d (O.lv i _ hp).toAt (by omega) (λj g1 g2 s=>by have:=(h i _ hp j s).2.1;omega)];exact O.l1 i k hk
 have hp:=aa4 hk;have:=n1 i _ hp;rw[cK,lB K d (O.lv i _ hp).toAt (by omega) (λj g1 g2 s=>by have:=(h i _ hp j s).2.1;omega)];exact O.l2 i k hk
def SQ (p:Nat)(_q o:Nat):Prop:=4<=o/\o<12\/o=45/\_q=p
theorem Wr{C:Cs}(K:Ok C)(A:By){S:Nat->Nat->Prop}(hS:∀q o,4<=o->o<12->S q o){o1 o2:Option Nat}(L1:di C o1)(L2:di C o2):cX C A (zD A o1 o2) S:=by
 have w:=λ(A:By) (q:Nat) (M:Live C q) (j v:Nat) (hj:1<=j/\j<=2)=>w8 (S:=S) A (a:=4*j) (n:=4) (v:=v) M.toAt (by have:=(M.toAt.bn K).2.1;omega) (λi g1 g2=>hS q i (by omega) (by omega));rcases o1 with _|a<;>rcases o2 with _|e
 ·exact cX.refl _ _ _
 ·exact w A e (L2 e rfl) 1 _ (by omega)
 ·exact w A a (L1 a rfl) 2 _ (by omega)
 exact(w A a (L1 a rfl) 2 _ (by omega)).trans (w _ e (L2 e rfl) 1 _ (by omega))
theorem ZU{C:Cs}(K:Ok C){p s:Nat}(L:Live C p){o1 o2:Option Nat}(L1:di C o1)(L2:di C o2):cX C C.A (kZ C.A p s o1 o2) (SQ p):=by
 have n1:=(L.toAt.bn K).2.1;have w:=λ(A:By) (j v:Nat) (hj:1<=j/\j<=2)=>w8 (S:=SQ p) A (a:=4*j) (n:=4) (v:=v) L.toAt (by omega) (λi g1 g2=> .inl ⟨by omega,by omega⟩);have w2:=λ(A:By) (v:Nat)=>w8 (S:=SQ p) A (a:=45) (n:=1) (v:=v) L.toAt (by omega) (λi g1 g2=> .inr ⟨by omega,rfl⟩);have hp:di C (some p):=λq h=>by cases h;exact L
 have hS:∀q o,4<=o->o<12->SQ p q o:=λq o h1 h2=> .inl ⟨h1,h2⟩;have d1:cX C C.A (lU C.A p s o1 o2) (SQ p):=((w C.A 1 (nO o1) (by omega)).trans (w _ 2 (nO o2) (by omega))).trans (w2 _ s);exact(d1.trans (Wr K _ hS L1 hp)).trans (Wr K _ hS hp L2)
theorem oG (C:Cs)(cs:List Value)(i:Nat)(o1 o2:Option Nat):(rQ C cs i o1 o2).length=cs.length:=by
 rcases o1 with _|a<;>rcases o2 with _|e<;>simp[rQ]
theorem Dy (C:Cs)(cs:List Value)(i:Nat)(o1 o2:Option Nat):(rQ C cs i o1 o2)[i*3+2]?=cs[i*3+2]?:=by
 rcases o1 with _|a<;>rcases o2 with _|e<;>simp[rQ,List.getElem?_set]
theorem w9{C:Cs}(K:Ok C){Q:List (List Nat)}(O:iR C Q)(i:Nat):(ql Q i).length<=1073741824:=
 nQ _ _ (O.nd i) λp hp=>by
  have h:=(O.lv i p hp).toAt.bn K;have:=fO K.toFix;omega
theorem GH (C:Cs)(Q:List (List Nat)):(Q.flatMap (cV C)).length=Q.length*3:=by
 rw[Dw]
 induction Q with
 |nil=>rfl
 |cons a l ih=>rw[List.map_cons,List.flatMap_cons,List.length_append,ih,xx,afn];omega
structure abH (C:Cs)(p:Nat)(A:By)(Q:List (List Nat)):Prop where
 o:iR (C.wA A) Q
 d:cX C C.A A (SQ p)
theorem D4 (q b qb:Nat)(C:Cs)(K:Ok C)(Q:List (List Nat))(O:iR C Q)(p s:Nat)(hs:1<=s/\s<=3)(P:gD C (some p))(hn:¬(1<=gJ C.A p/\gJ C.A p<=3)):
  aO aaO 252 [CM q,CO CJ (C.hd p),CO CN s] (λ_=>True) (Cl b C::qY q b qb C Q)
   (λv H=>v=CO CN 0/\∃A,H=Cl b (C.wA A)::qY q b qb (C.wA A) (Q.set (qi (C.cl p) s) (p::ql Q (qi (C.cl p) s)))/\abH C p A (Q.set (qi (C.cl p) s) (p::ql Q (qi (C.cl p) s)))):=by
 have L:=(P p rfl).1;have k0:=P.kl p rfl;have hc:=(L.toAt.bn K).1;have hi:=ny O hc hs;generalize hii:qi (C.cl p) s=i at*;have I2:gD C (ql Q i)[0]?:=O.FL λx hx=>aaT hx;have I1:gD C none:=λx hx=>by cases hx
 have ok:=QD K O hii.symm hi hs (k:=0) (by omega) P hn;have ce:=Ax C Q i 0 p hi (by omega);have hlen:=GH C Q;have k0c:=oz (C:=C) (Q:=Q) (j:=0) hi rfl;have k2c:=oz (C:=C) (Q:=Q) (j:=2) hi rfl;have d:=ZU K (p:=p) (s:=s) L I1.lv I2.lv;have lay:=Jo q b qb C.ae.length (ql Q i).length C K (Q.flatMap (cV C)) i (by omega) p s hs none (ql Q i)[0]? P I1 I2 (by rw[Dy,Dy];exact k2c) (by rw[oG,oG]) (oG _ _ _ _ _) (w9 K O i);have e0:(ql Q i).head?=(ql Q i)[0]?:=ajb ..;rw[e0]at k0c;change iR (C.wA (kZ C.A p s none (ql Q i)[0]?)) _ at ok;rw[ajn]at ok ce;change((rQ C (rQ C (Q.flatMap (cV C)) i none (some p)) i (some p) (ql Q i)[0]?).set (i*3+2) _)=_ at ce;rw[ce]at lay;unfold qY;generalize hG:Q.flatMap (cV C)=cs at*;unfold fC at*;refine ag func252 rfl ntmps252 rfl ?_;intro F _;refine bR ?_;refine zl CF (D5 q b qb C K p s hs L k0 hn) .nil (λ_ le ao=>⟨ao.1,ao.2.1⟩) ?_;rw[hii];refine cC ?_;refine av ?_;refine zl CF (lay) (.cons .here (.cons .here (.cons .here .nil))) CI ?_;refine bG ?_;refine Rt [Cl b (C.wA (kZ C.A p s none (ql Q i)[0]?)),af q 182 [CM b, .slice (some ⟨qb,0,none⟩) C.ae.length C.ae.length],af qb 333 ((Q.set i (p::ql Q i)).flatMap (cV C))] results252 ?_;exact⟨rfl,kZ C.A p s none (ql Q i)[0]?,rfl,ok,d⟩
theorem nB{C:Cs}(K:Ok C){B:By}{S:Nat->Nat->Prop}(d:cX C C.A B S){o:Option Nat}(P:gD C o)(h:∀x,o=some x->∀j,S x j->mI j):gD (C.wA B) o:=λx hx=>
 ⟨(P x hx).1.wA B,(sy K d (P x hx).1.toAt (P x hx).2 (h x hx)).it (P x hx).2⟩
theorem SQ.oq{p q o:Nat}(h:SQ p q o):mI o:=by
 unfold SQ at h;unfold mI;omega
def pY (A:By)(p:Nat):By:=wr (wr (wr A (p+4*1) 4 (nO none)) (p+4*2) 4 (nO none)) (p+45) 1 4
theorem Il (C:Cs)(Q:List (List Nat))(i k:Nat)(hi:i<Q.length)(h:k<(ql Q i).length):
  (rQ C (Q.flatMap (cV C)) i (pv (ql Q i) k) (ql Q i)[k+1]?).set (i*3+2) (CO CN (((ql Q i).length:Int)-1))=(Q.set i ((ql Q i).eraseIdx k)).flatMap (cV C):=by
 have hq:(Q.map (Kr C))[i]?=some (Kr C (ql Q i)):=by
  unfold ql;rw[aa6,aaP,aaQ hi];rfl
 have yX:i<(Q.map (Kr C)).length:=by simpa using hi
 have s2:∀(S:List T3) (y:T3) (v:Value),S[i]?=some y->(S.flatMap t3).set (i*3+2) v=(S.set i {y with c:=v}).flatMap t3:=λS y v hs=>cj xx hs rfl (by decide);generalize hl:ql Q i=l at*;have e:{jnT C (Kr C l) (pv l k) l[k+1]? with c:=CO CN ((l.length:Int)-1)}=Kr C (l.eraseIdx k):=by
  have hlen:=ai7 h;have h1:(l.eraseIdx k).head?=if k=0 then l[k+1]? else l.head?:=by
   rw[ajb,ajb]
   split
   ·next e=>subst e;rw[afp (by omega)]
   next e=>rw[afv (by omega)]
  have h2:(l.eraseIdx k).getLast?=if k+1=l.length then pv l k else l.getLast?:=by
   rw[af5,af5,hlen]
   split
   ·next e=>
    rcases k with _|k
    ·rw[aa7 (by omega)];rfl
    rw[afv (by omega),show l.length-1-1=k by omega];rfl
   next e=>rw[afp (by omega),show l.length-1-1+1=l.length-1 by omega]
  unfold Kr;rw[h1,h2,hlen,show(((l.length-1:Nat)):Int)=(l.length:Int)-1 by omega];rcases k with _|k
  ·by_cases e:0+1<l.length
   ·rw[aaQ e,if_pos rfl,if_neg (by omega)];rfl
   rw[aa7 (by omega),if_pos rfl,if_pos (by omega)];rfl
  have e1:pv l (k+1)=some l[k]:=aaQ (by omega);by_cases e:k+1+1<l.length
  ·rw[e1,aaQ e,if_neg (by omega),if_neg (by omega)];rfl
  rw[e1,aa7 (by omega),if_neg (by omega),if_pos (by omega)];rfl
 rw[Dw,Dw,PD C _ i _ hq,s2 _ _ _ (aaU yX),afN,e,afO]
def na (A:By)(p:Nat)(o1 o2:Option Nat):By:=pY (zD A o1 o2) p
theorem YS{C:Cs}(K:Ok C){x p:Nat}{o1 o2:Option Nat}(X:Live C x)(P:Live C p)(L1:di C o1)(L2:di C o2):
  rd (na C.A p o1 o2) (x+4*1) 4=if x=p then 0 else if o2=some x then nO o1 else rd C.A (x+4*1) 4:=by
 have b1:=oZ K L1;have b2:=oZ K L2;have l:=λ(q:Nat) (M:Live C q) (A:By) (j v:Nat) (hj:j<=2) (hv:v<4294967296)=>wJ K X.toAt M.toAt A (i:=1) (j:=j) (v:=v) (by omega) hj hv;have z:=λ(A:By)=>tL K X.toAt P.toAt A (i:=1) (v:=4) (by omega);have n0:nO none<4294967296:=by decide
 unfold na pY;rw[z,l p P _ 2 _ (by omega) n0,l p P _ 1 _ (by omega) n0];by_cases h:x=p
 ·simp[h,nO]
 rw[if_neg (by simp[h]),if_neg (by simp[h]),if_neg h];rcases o1 with _|a<;>rcases o2 with _|e<;>dsimp only[zD]
 ·simp
 ·rw[l e (L2 e rfl) _ 1 _ (by omega) b1]
  by_cases g:x=e
  ·subst g;simp
  have g2:¬e=x:=λu=>g u.symm;simp[g,g2]
 ·rw[l a (L1 a rfl) _ 2 _ (by omega) b2]
  simp
 rw[l e (L2 e rfl) _ 1 _ (by omega) b1,l a (L1 a rfl) _ 2 _ (by omega) b2];by_cases g:x=e
 ·subst g;simp
 have g2:¬e=x:=λu=>g u.symm;simp[g,g2]
theorem YQ{C:Cs}(K:Ok C){x p:Nat}{o1 o2:Option Nat}(X:Live C x)(P:Live C p)(L1:di C o1)(L2:di C o2):
  rd (na C.A p o1 o2) (x+4*2) 4=if x=p then 0 else if o1=some x then nO o2 else rd C.A (x+4*2) 4:=by
 have b1:=oZ K L1;have b2:=oZ K L2;have l:=λ(q:Nat) (M:Live C q) (A:By) (j v:Nat) (hj:j<=2) (hv:v<4294967296)=>wJ K X.toAt M.toAt A (i:=2) (j:=j) (v:=v) (by omega) hj hv;have z:=λ(A:By)=>tL K X.toAt P.toAt A (i:=2) (v:=4) (by omega);have n0:nO none<4294967296:=by decide
 unfold na pY;rw[z,l p P _ 2 _ (by omega) n0,l p P _ 1 _ (by omega) n0];by_cases h:x=p
 ·simp[h,nO]
 rw[if_neg (by simp[h]),if_neg (by simp[h]),if_neg h];rcases o1 with _|a<;>rcases o2 with _|e<;>dsimp only[zD]
 ·simp
 ·rw[l e (L2 e rfl) _ 1 _ (by omega) b1]
  simp
 ·rw[l a (L1 a rfl) _ 2 _ (by omega) b2]
  by_cases g:x=a
  ·subst g;simp
  have g2:¬a=x:=λu=>g u.symm;simp[g,g2]
 rw[l e (L2 e rfl) _ 1 _ (by omega) b1,l a (L1 a rfl) _ 2 _ (by omega) b2];by_cases g:x=a
 ·subst g;simp
 have g2:¬a=x:=λu=>g u.symm;simp[g,g2]
theorem J4{C:Cs}(K:Ok C){x p:Nat}{o1 o2:Option Nat}(X:Live C x)(P:Live C p)(L1:di C o1)(L2:di C o2):
  gJ (na C.A p o1 o2) x=if x=p then 4 else gJ C.A x:=by
 have l:=λ(q:Nat) (M:Live C q) (A:By) (j v:Nat) (hj:j<=2)=>Jd K X.toAt M.toAt A (j:=j) (v:=v) hj;have z:=λ(A:By)=>ZE K X.toAt P.toAt A (v:=4) (by omega);unfold na pY;rw[z,l p P _ 2 _ (by omega),l p P _ 1 _ (by omega)];rcases o1 with _|a<;>rcases o2 with _|e<;>dsimp only[zD]
 ·rw[l e (L2 e rfl) _ 1 _ (by omega)]
 ·rw[l a (L1 a rfl) _ 2 _ (by omega)]
 rw[l e (L2 e rfl) _ 1 _ (by omega),l a (L1 a rfl) _ 2 _ (by omega)]
theorem RB{C:Cs}(K:Ok C){p:Nat}(L:Live C p){o1 o2:Option Nat}(L1:di C o1)(L2:di C o2):cX C C.A (na C.A p o1 o2) (SQ p):=by
 have n1:=(L.toAt.bn K).2.1;have w:=λ(A:By) (j v:Nat) (hj:1<=j/\j<=2)=>w8 (S:=SQ p) A (a:=4*j) (n:=4) (v:=v) L.toAt (by omega) (λi g1 g2=> .inl ⟨by omega,by omega⟩);have w2:=λ(A:By) (v:Nat)=>w8 (S:=SQ p) A (a:=45) (n:=1) (v:=v) L.toAt (by omega) (λi g1 g2=> .inr ⟨by omega,rfl⟩);have hS:∀q o,4<=o->o<12->SQ p q o:=λq o h1 h2=> .inl ⟨h1,h2⟩;exact(((Wr K _ hS L1 L2).trans (w _ 1 (nO none) (by omega))).trans (w _ 2 (nO none) (by omega))).trans (w2 _ 4)
theorem get_erase{l:List Nat}{k m x:Nat}(h:(l.eraseIdx k)[m]?=some x):m<k/\l[m]?=some x\/k<=m/\l[m+1]?=some x:=by
 by_cases h1:m<k
 ·rw[afv h1]at h;exact .inl ⟨h1,h⟩
 rw[afp (by omega)]at h;exact .inr ⟨by omega,h⟩
theorem YO{C:Cs}(K:Ok C){Q:List (List Nat)}(O:iR C Q){p k i:Nat}(hi:i<Q.length)(hk:(ql Q i)[k]?=some p):
  iR (C.wA (na C.A p (pv (ql Q i) k) (ql Q i)[k+1]?)) (Q.set i ((ql Q i).eraseIdx k)):=by
 have cL:=(aaR.1 hk).1;have hpl:=aaT hk;have LP:=O.lv i p hpl;have I1:gD C (pv (ql Q i) k):=O.FL λx hx=>pW hx;have I2:gD C (ql Q i)[k+1]?:=O.FL λx hx=>aaT hx;have d:=RB K LP I1.lv I2.lv;have hm:∀j x,x∈ql (Q.set i ((ql Q i).eraseIdx k)) j->x≠p/\x∈ql Q j:=λj x hx=>by
  rw[fG hi]at hx
  split at hx
  ·next e=>
   subst e;refine⟨λz=> ?_,List.mem_of_mem_eraseIdx hx⟩;subst z;obtain⟨m,hm,em⟩:=List.getElem_of_mem hx;have:=aaR.2 ⟨hm,em⟩;rcases get_erase this with⟨h1,h2⟩|⟨h1,h2⟩
   ·have:=iC (O.nd j) hk h2;omega
   have:=iC (O.nd j) hk h2;omega
  next e=>exact⟨λz=>e (O.one hx (by rw[z];exact hpl)),hx⟩
 have V1:∀j x,x∈ql (Q.set i ((ql Q i).eraseIdx k)) j->gD C (some x):=λj x hx y hy=>by
  cases hy;exact⟨O.lv j _ (hm j _ hx).2,O.it j _ (hm j _ hx).2⟩
 have kp:=λj x hx=>nB K d (V1 j x hx) (λy _ j s=>s.oq);refine⟨?_,λj x hx=>(kp j x hx x rfl).1,λj x hx=>(kp j x hx x rfl).2,λj x hx=> ?_,λj=> ?_,λj m h=> ?_,λj m h=> ?_⟩
 ·rw[aaY];exact O.len
 ·show 1<=gJ (na _ _ _ _) x/\_/\j=qi (C.cl x) _
  rw[cK,J4 K (V1 j x hx x rfl).1 LP I1.lv I2.lv,if_neg (hm j x hx).1];exact O.st j x (hm j x hx).2
 ·rw[fG hi]
  split
  ·exact(O.nd i).sublist (List.eraseIdx_sublist _ _)
  exact O.nd j
 ·have hx:(ql (Q.set i ((ql Q i).eraseIdx k)) j)[m]?=some (ql (Q.set i ((ql Q i).eraseIdx k)) j)[m]:=aaQ h
  generalize (ql (Q.set i ((ql Q i).eraseIdx k)) j)[m]=x at hx⊢;have FT:=aaT hx;have r:=YS K (V1 j x FT x rfl).1 LP I1.lv I2.lv;rw[if_neg (hm j x FT).1]at r;rw[cK];refine r.trans ?_;rw[fG hi]at hx⊢
  split at hx
  ·next e=>
   subst e;rw[if_pos rfl];rcases get_erase hx with⟨h1,h2⟩|⟨h1,h2⟩
   ·have g2:(ql Q j)[k+1]?≠some x:=λz=>by have:=iC (O.nd j) z h2;omega
    rw[if_neg g2,O.m1 h2];rcases m with _|m
    ·rfl
    show _=nO ((ql Q j).eraseIdx k)[m]?;rw[afv (by omega)];rfl
   by_cases g:m=k
   ·subst g
    rw[if_pos h2];rcases m with _|m
    ·rfl
    show _=nO ((ql Q j).eraseIdx (m+1))[m]?;rw[afv (by omega)];rfl
   have g2:(ql Q j)[k+1]?≠some x:=λz=>by have:=iC (O.nd j) z h2;omega
   rw[if_neg g2,O.m1 h2];obtain⟨u,rfl⟩:∃u,m=u+1:=⟨m-1,by omega⟩;show _=nO ((ql Q j).eraseIdx k)[u]?;rw[afp (by omega)];rfl
  next e=>
  rw[if_neg e];have hj:=aaT hx;have g2:(ql Q i)[k+1]?≠some x:=λz=>e (O.one hj (aaT z));rw[if_neg g2,O.m1 hx]
 have hx:(ql (Q.set i ((ql Q i).eraseIdx k)) j)[m]?=some (ql (Q.set i ((ql Q i).eraseIdx k)) j)[m]:=aaQ h;generalize (ql (Q.set i ((ql Q i).eraseIdx k)) j)[m]=x at hx⊢;have FT:=aaT hx;have r:=YQ K (V1 j x FT x rfl).1 LP I1.lv I2.lv;rw[if_neg (hm j x FT).1]at r;rw[cK];refine r.trans ?_;rw[fG hi]at hx⊢
 split at hx
 ·next e=>
  subst e;rw[if_pos rfl];rcases get_erase hx with⟨h1,h2⟩|⟨h1,h2⟩
  ·by_cases g:m+1=k
   ·subst g
    rw[if_pos (show pv (ql Q j) (m+1)=some x from h2),afp (by omega)]
   have g2:pv (ql Q j) k≠some x:=λz=>by
    rcases k with _|k
    ·cases z
    have:=iC (O.nd j) z h2;omega
   rw[if_neg g2,O.m2 h2,afv (by omega)]
  have g2:pv (ql Q j) k≠some x:=λz=>by
    rcases k with _|k
    ·cases z
    have:=iC (O.nd j) z h2;omega
  rw[if_neg g2,O.m2 h2,afp (by omega)]
 next e=>
 rw[if_neg e];have hj:=aaT hx;have g2:pv (ql Q i) k≠some x:=λz=>e (O.one hj (pW z));rw[if_neg g2,O.m2 hx]
structure RV (C:Cs)(p:Nat)(A:By)(Q:List (List Nat)):Prop extends abH C p A Q where
 st:gJ A p=4
 no:∀i,p∉ql Q i
theorem xW (q b qb:Nat)(C:Cs)(K:Ok C)(Q:List (List Nat))(O:iR C Q)(i k p:Nat)(hk:(ql Q i)[k]?=some p):
  aO aaO 225 [CM q,CO CJ (C.hd p)] (λ_=>True) (Cl b C::qY q b qb C Q)
   (λv H=>v=CO CN 0/\∃A,H=Cl b (C.wA A)::qY q b qb (C.wA A) (Q.set i ((ql Q i).eraseIdx k))/\RV C p A (Q.set i ((ql Q i).eraseIdx k))):=by
 have hpl:=aaT hk;have P:gD C (some p):=O.FL (i:=i) λx hx=>by cases hx;exact hpl
 have L:=(P p rfl).1;have k0:=P.kl p rfl;have hc:=(L.toAt.bn K).1;obtain⟨s1,s2,s3⟩:=O.st i p hpl;have hi:=ny O hc ⟨s1,s2⟩;rw[<-s3]at hi;have I1:gD C (pv (ql Q i) k):=O.FL λx hx=>pW hx;have I2:gD C (ql Q i)[k+1]?:=O.FL λx hx=>aaT hx;have ok:=YO K O hi hk;have d:=RB K L I1.lv I2.lv;have dst:=J4 K L L I1.lv I2.lv;rw[if_pos rfl]at dst;have ce:=Il C Q i k hi (aaR.1 hk).1;have hlen:=GH C Q;have mD:∀j,p∉ql (Q.set i ((ql Q i).eraseIdx k)) j:=λj h=>by
  have:=(ok.st j p h).2.1;rw[cK,dst]at this;omega
 have hn2:(rQ C (Q.flatMap (cV C)) i (pv (ql Q i) k) (ql Q i)[k+1]?)[i*3+2]?=some (CO CN ((ql Q i).length)):=by rw[Dy];exact oz (j:=2) hi rfl
 have CS:=oG C (Q.flatMap (cV C)) i (pv (ql Q i) k) (ql Q i)[k+1]?;have jn:=xV q b qb C.ae.length C K (Q.flatMap (cV C)) i (by omega) (pv (ql Q i) k) (ql Q i)[k+1]? I1.lv I2.lv I1.kl I2.kl (λx hx=>(I2 x hx).2);have lk1:=nI b C K p 1 (pv (ql Q i) k) L k0 (by omega) I1.lv (O.m1 hk);have lk2:=nI b C K p 2 (ql Q i)[k+1]? L k0 (by omega) I2.lv (O.m2 hk);have K1:=K.wA (zD C.A (pv (ql Q i) k) (ql Q i)[k+1]?);have hS:∀q o,4<=o->o<12->SQ p q o:=λq o h1 h2=> .inl ⟨h1,h2⟩;have P1:gD (C.wA (zD C.A (pv (ql Q i) k) (ql Q i)[k+1]?)) (some p):=nB K (Wr K C.A hS I1.lv I2.lv) P (λ_ _ j s=>s.oq);have hA:na C.A p (pv (ql Q i) k) (ql Q i)[k+1]?=pY (zD C.A (pv (ql Q i) k) (ql Q i)[k+1]?) p:=rfl;rw[hA]at ok d dst;have hql:=w9 K O i;generalize pv (ql Q i) k=o1 at*;generalize (ql Q i)[k+1]?=o2 at*;generalize zD C.A o1 o2=A1 at*;have cL:=(aaR.1 hk).1;unfold qY;generalize hG:Q.flatMap (cV C)=cs at*;generalize rQ C cs i o1 o2=ds at*;have FA:i*3+2<ds.length:=by omega
 have k1p:gD (C.wA (wr A1 (p+4*1) 4 (nO none))) (some p):=P1.link K1 (P1 p rfl).1 (by omega);have k2p:gD (C.wA (wr (wr A1 (p+4*1) 4 (nO none)) (p+4*2) 4 (nO none))) (some p):=k1p.link (K.wA _) (k1p p rfl).1 (by omega);refine ag func225 rfl ntmps225 rfl ?_;intro F _;refine bG ?_;refine zl CF (sH q b qb C K p L k0 ⟨s1,s2⟩) .nil (λ_ le ao=>⟨ao.1,ao.2.1⟩) ?_;rw[<-s3];unfold fC at*;refine rj ?_;refine zl CF (lk1) .nil (λ_ le ao=>ao.1) ?_;refine dB ?_;refine zl CF (lk2) .nil (λ_ le ao=>ao.1) ?_;refine bW ?_;refine zl CF (jn) (.cons .here (.cons .here (.cons .here .nil))) CI ?_;refine bR ?_;refine zl CF (dX b (C.wA A1) K1 p 1 none (P1 p rfl).1 (P1.kl p rfl) (by omega) (λq h=>by cases h)) (.cons .here .nil) CI ?_;refine bR ?_;refine zl CF (dX b (C.wA (wr A1 (p+4*1) 4 (nO none))) (K.wA _) p 2 none (k1p p rfl).1 (k1p.kl p rfl) (by omega) (λq h=>by cases h)) (.cons .here .nil) CI ?_;refine bR ?_;refine zl CF (ud b (C.wA (wr (wr A1 (p+4*1) 4 (nO none)) (p+4*2) 4 (nO none))) (K.wA _) p 4 (by omega) (k2p p rfl).1 (k2p.kl p rfl)) (.cons .here .nil) CI ?_;refine mF ?_;refine Hh (H':= [Cl b (C.wA (pY A1 p)),af q 182 [CM b, .slice (some ⟨qb,0,none⟩) C.ae.length C.ae.length],af qb 333 (ds.set (i*3+2) (CO CN (((ql Q i).length:Int)-1)))]) ?_;rw[ce];refine Rt [Cl b (C.wA (pY A1 p)),af q 182 [CM b, .slice (some ⟨qb,0,none⟩) C.ae.length C.ae.length],af qb 333 ((Q.set i ((ql Q i).eraseIdx k)).flatMap (cV C))] results225 ?_;exact⟨rfl,pY A1 p,rfl,⟨ok,d⟩,dst,mD⟩
theorem Xy:(aaO.info? 312).isSome=true:=by kernel_rfl
theorem Ps{n:Nat}{ds:List Deferred}{F:dC}{σ:aZ}{o:Oper}{t yt e:TypeId}{x y:Operand}{a:Addr}(ht:aaO.underlying t=some (.pointer e))(hi:(aaO.info? e).isSome=true)
  (ho:o.op= .binOp .neq t x y yt:=by exact rfl) (hx:bJ σ x=some (.pointer (some a)):=by exact rfl) (hy:bJ σ y=some (.pointer (some a)):=by exact rfl):Yv aaO n ds F σ o (.bool false):=by
 intro w0 w en _;obtain⟨j,hj⟩:=Option.isSome_iff_exists.1 hi;have h:∀d:Nat,(Op.equalIn (d+1) t (.pointer (some a)) (.pointer (some a))).run aaO w= .ok true w:=λd=>by
  simp[Op.equalIn,run_underlying ht,sizeOf,typeInfo,hj,run_sameAddr_same]
 have r:(Go.binOp .neq t (.pointer (some a)) (.pointer (some a))).run aaO w= .ok (.bool false) w:=by
  simp only[Go.binOp];simp[Op.equal,Op.maxDepth,h 9999]
 simp only[execOp,ho,en.eval hx,en.eval hy,Sem.run_bind,kU,r,Result.andThen_ok,Sem.run_pure]
def wZ (Q:List (List Nat))(i k j p:Nat):List (List Nat):=(Q.set i ((ql Q i).eraseIdx k)).set j (p::ql (Q.set i ((ql Q i).eraseIdx k)) j)
theorem LG (q b qb:Nat)(C:Cs)(K:Ok C)(Q:List (List Nat))(O:iR C Q)(i k p s:Nat)(hs:1<=s/\s<=3)(hk:(ql Q i)[k]?=some p):
  aO aaO 208 [CM q,CO CJ (C.hd p),CO CN s] (λ_=>True) (Cl b C::qY q b qb C Q)
   (λv H=>v=CO CN 0/\∃A,H=Cl b (C.wA A)::qY q b qb (C.wA A) (wZ Q i k (qi (C.cl p) s) p)/\abH C p A (wZ Q i k (qi (C.cl p) s) p)):=by
 have P:gD C (some p):=O.FL (i:=i) λx hx=>by cases hx;exact aaT hk
 unfold qY;refine ag func208 rfl ntmps208 rfl ?_;intro F _;refine bG ?_;refine zl CF (vf s hs) .nil CI ?_;refine cA ?_;refine Lp (oC CF rfl rfl (xW q b qb C K Q O i k p hk) (.cons .here (.cons .here (.cons .here .nil))) CI ?_);rintro v H' ⟨rfl,A,rfl,D⟩;refine aX ?_;have P2:gD (C.wA A) (some p):=nB K D.d P (λ_ _ j s=>s.oq);have hn2:¬(1<=gJ (C.wA A).A p/\gJ (C.wA A).A p<=3):=by rw[cK,D.st];omega
 refine gz ?_;refine Lp (oC CF rfl rfl (D4 q b qb (C.wA A) (K.wA A) (Q.set i ((ql Q i).eraseIdx k)) D.o p s hs P2 hn2) (.cons .here (.cons .here (.cons .here .nil))) CI ?_);rintro v H' ⟨rfl,B,rfl,E⟩;refine aX ?_;refine bz ?_;refine Rt [Cl b (C.wA B),af q 182 (fC b qb C.ae.length),af qb 333 ((wZ Q i k (qi (C.cl p) s) p).flatMap (cV C))] results208 ?_;exact⟨rfl,B,rfl,E.o,D.d.trans E.d.wA⟩
def SQ2 (p r:Nat)(_q o:Nat):Prop:=4<=o/\o<12\/o=45/\(_q=p\/_q=r)
structure aaK (C:Cs)(p r:Nat)(A:By)(Q:List (List Nat)):Prop where
 o:iR (C.wA A) Q
 d:cX C C.A A (SQ2 p r)
 st:gJ A p=4
theorem J3:∀(l:List Nat) (k r:Nat),k<l.length->(l.eraseIdx k).insertIdx k r=l.set k r
 |a::l,0,r,_=>by simp
 |a::l,k+1,r,h=>by
  rw[List.eraseIdx_cons_succ,ai1,J3 l k r (by simpa using h),List.set_cons_succ]
theorem acW (l:List Nat)(k:Nat):pv (l.eraseIdx k) k=pv l k:=by
 rcases k with _|k
 ·rfl
 show(l.eraseIdx (k+1))[k]?=l[k]?;rw[afv (by omega)]
theorem S5 (q b qb:Nat)(C:Cs)(K:Ok C)(Q:List (List Nat))(O:iR C Q)(i k p r:Nat)(hk:(ql Q i)[k]?=some p)(R:gD C (some r))(hr:¬(1<=gJ C.A r/\gJ C.A r<=3))(cR:C.cl r=C.cl p):
  aO aaO 160 [CM q,CO CJ (C.hd p),CO CJ (C.hd r)] (λ_=>True) (Cl b C::qY q b qb C Q)
   (λv H=>v=CO CN 0/\∃A,H=Cl b (C.wA A)::qY q b qb (C.wA A) (Q.set i ((ql Q i).set k r))/\aaK C p r A (Q.set i ((ql Q i).set k r))):=by
 have hpl:=aaT hk;have cL:=(aaR.1 hk).1;have P:gD C (some p):=O.FL (i:=i) λx hx=>by cases hx;exact hpl
 have L:=(P p rfl).1;have k0:=P.kl p rfl;have hc:=(L.toAt.bn K).1;have LR:=(R r rfl).1;obtain⟨s1,s2,s3⟩:=O.st i p hpl;have hi:=ny O hc ⟨s1,s2⟩;rw[<-s3]at hi;have Iw:r≠p:=λe=>hr (by rw[e];exact⟨s1,s2⟩);have I1:gD C (pv (ql Q i) k):=O.FL λx hx=>pW hx;have I2:gD C (ql Q i)[k+1]?:=O.FL λx hx=>aaT hx;have lk1:=nI b C K p 1 (pv (ql Q i) k) L k0 (by omega) I1.lv (O.m1 hk);have lk2:=nI b C K p 2 (ql Q i)[k+1]? L k0 (by omega) I2.lv (O.m2 hk);have eS:∀q o,SQ p q o->mI o:=λ_ _ s=>s.oq;unfold qY;refine ag func160 rfl ntmps160 rfl ?_;intro F _;refine bG ?_;refine zl CF (sH q b qb C K p L k0 ⟨s1,s2⟩) .nil (λ_ le ao=>⟨ao.1,ao.2.1⟩) ?_;rw[<-s3];generalize hQ:Q.flatMap (cV C)=cs;unfold fC;refine rj ?_;refine zl CF (qP b C K p L k0) .nil (λ_ le ao=>ao.1) ?_;refine bM ?_;refine zl CF (D5 q b qb C K r (gJ C.A p) ⟨s1,s2⟩ LR (R.kl r rfl) hr) .nil (λ_ le ao=>⟨ao.1,ao.2.1⟩) ?_;rw[cR,<-s3];refine sT ?_;refine Li (Ps ZC Xy) ?_;refine bM ?_;refine zl CF (lk1) .nil (λ_ le ao=>ao.1) ?_;refine dB ?_;refine zl CF (lk2) .nil (λ_ le ao=>ao.1) ?_;refine cA ?_;rw[<-hQ];refine Lp (oC CF rfl rfl (xW q b qb C K Q O i k p hk) (.cons .here (.cons .here (.cons .here .nil))) CI ?_);rintro v H' ⟨rfl,A,rfl,D⟩;refine aX ?_;have P2:gD (C.wA A) (some p):=nB K D.d P (λ_ _ j s=>s.oq);have R2:gD (C.wA A) (some r):=nB K D.d R (λ_ _ j s=>s.oq);have hstr:gJ A r=gJ C.A r:=lB K D.d LR.toAt (by have:=(LR.toAt.bn K).2.1;omega) (λj g1 g2 s=>by unfold SQ at s;omega);have hn2:¬(1<=gJ (C.wA A).A r/\gJ (C.wA A).A r<=3):=by rw[cK,hstr];exact hr
 have yX:i<(Q.set i ((ql Q i).eraseIdx k)).length:=by rw[aaY];exact hi
 have eq2:ql (Q.set i ((ql Q i).eraseIdx k)) i=(ql Q i).eraseIdx k:=by rw[fG hi,if_pos rfl]
 have elen:=ai7 cL;have ok:=QD (K.wA A) D.o (p:=r) (s:=gJ C.A p) (k:=k) (i:=i) (by show i=qi (C.cl r) _;rw[cR];exact s3) yX ⟨s1,s2⟩ (by rw[eq2];omega) R2 hn2;have ce:=Ax (C.wA A) (Q.set i ((ql Q i).eraseIdx k)) i k r yX (by rw[eq2];omega);have k2c:=oz (C:=C.wA A) (Q:=Q.set i ((ql Q i).eraseIdx k)) (j:=2) yX rfl;have hlen:=GH (C.wA A) (Q.set i ((ql Q i).eraseIdx k));have I1':gD (C.wA A) (pv (ql Q i) k):=nB K D.d I1 (λ_ _ j s=>s.oq);have I2':gD (C.wA A) (ql Q i)[k+1]?:=nB K D.d I2 (λ_ _ j s=>s.oq);have hqn:=w9 (K.wA A) D.o i;have d2:=ZU (K.wA A) (p:=r) (s:=gJ C.A p) (R2 r rfl).1 I1'.lv I2'.lv;have dst:=QC (K.wA A) (x:=p) (p:=r) (s:=gJ C.A p) (P2 p rfl).1 (R2 r rfl).1 I1'.lv I2'.lv (by omega);rw[if_neg (Ne.symm Iw),cK,D.st]at dst;have lay:=Jo q b qb C.ae.length ((ql Q i).eraseIdx k).length (C.wA A) (K.wA A) ((Q.set i ((ql Q i).eraseIdx k)).flatMap (cV (C.wA A))) i (by omega) r (gJ C.A p) ⟨s1,s2⟩ (pv (ql Q i) k) (ql Q i)[k+1]? R2 I1' I2' (by rw[Dy,Dy];rw[eq2]at k2c;exact k2c) (by rw[oG,oG]) (oG _ _ _ _ _) (by rw[eq2]at hqn;exact hqn);rw[eq2,acW,afp (Nat.le_refl k),afN,J3 _ _ _ cL]at ok ce;rw[ce]at lay;rw[cK]at ok;refine dm ?_;refine zl CF (lay) (.cons .here (.cons .here (.cons .here .nil))) CI ?_;refine bE ?_;refine Rt [Cl b (C.wA (kZ A r (gJ C.A p) (pv (ql Q i) k) (ql Q i)[k+1]?)),af q 182 (fC b qb C.ae.length),af qb 333 ((Q.set i ((ql Q i).set k r)).flatMap (cV C))] results160 ?_;exact⟨rfl,kZ A r (gJ C.A p) (pv (ql Q i) k) (ql Q i)[k+1]?,rfl,ok,(D.d.mono λq o s=>by unfold SQ at s;unfold SQ2;omega).trans (d2.wA.mono λq o s=>by unfold SQ at s;unfold SQ2;omega),dst⟩
end Go.Proofs.YtcbcjolpdljbiaaGreat
