/- Part Ph of the proof. -/
import Derived.Test.YtcbcjolpdljbiaaGreatPg
import Derived.LaidEqlPtr
set_option maxRecDepth 100000
open Go.Proofs.YtcbcjolpdljbiaaGreat.T
open List renaming getD_eq_getElem?_getD -> aaZ, getElem?_eq_getElem -> aa0, length_cons -> abu, getLast?_cons -> aiC, getElem?_eq_some_iff -> aa1, getElem?_set_self -> aa4, set_set -> ade, insertIdx_zero -> ait, insertIdx_succ_cons -> ah7, getElem?_eq_none -> abb, getElem?_map -> abf, map_set -> adf, getElem_mem -> abe, mem_of_getElem? -> aa3, getElem?_insertIdx -> aib, getElem?_cons_zero -> aip, getElem?_cons_succ -> ahM, nodup_cons -> abg, mem_cons_of_mem -> aa6, mem_cons_self -> aa5, length_set -> aa8, head?_eq_getElem? -> aih, length_eraseIdx_of_lt -> aic, getElem?_eraseIdx_of_ge -> acP, getElem?_eraseIdx_of_lt -> acV, getLast?_eq_getElem? -> ahA
open Nat renaming mod_eq_of_lt -> acZ
open Decidable renaming byContradiction -> aba
open Go.Proofs.Tryz renaming prog -> aaY
open Go.Proofs.Tryz
open Go.Value renaming int -> DE
open Go.IntKind renaming i64 -> DD, u64 -> DB
namespace Go.Proofs.YtcbcjolpdljbiaaGreat
open Go Go.dQ Go.Proofs.YtcbcjolpdljbiaaGreat.Cs
def di (C:Cs)(l:F8):FV:= [DE DB (hO C l.head?),DE DB (hO C l.getLast?),DE DD l.length]
theorem ZO (C:Cs):∀l,(di C l).length=3:=λ_=>rfl
def iF (b qb n:Nat):FV:= [DC b, .slice (some ⟨qb,0,none⟩) n n]
def rL (q b qb:Nat)(C:Cs)(Q:Dy):Dz:= [ag q 182 (iF b qb C.ae.length),ag qb 333 (Q.flatMap (di C))]
def qi (c s:Nat):Nat:=c*3+(s-1)
theorem vU (s:Nat)(h:1<=s/\s<=3):aK aaY 260 [DE DD s] vz [] (λv H=>v= .bool true/\H= []):=by
 refine af func260 rfl ntmps260 rfl ?_;intro F _;refine bL ?_;refine zt 5 ?_;refine bA ?_;refine Rt [] results260 ?_;exact⟨by rw[Au],rfl⟩
theorem Nn (s:Nat)(h:¬(1<=s/\s<=3)):aK aaY 260 [DE DD s] vz [] (λv H=>v= .bool false/\H= []):=by
 refine af func260 rfl ntmps260 rfl ?_;intro F _;refine bL ?_;refine aM (t:=5) rfl ?_ ?_
 ·intro h1
  replace h1:=aG h1;refine bA ?_;refine Rt [] results260 ?_;exact⟨by rw[Ar],rfl⟩
 intro h1;replace h1:=aG h1;refine bA ?_;refine Rt [] results260 ?_;exact⟨rfl,rfl⟩
theorem qQ (q b qb n c s:Nat)(hc:c<n)(hn:n<=62)(h:1<=s/\s<=3):
  aK aaY 240 [DC q,DE DD c,DE DD s] (In (ag q 182 (iF b qb n))) []
   (λv H=>v= .pointer (some ⟨qb,qi c s*3,none⟩)/\H= []):=by
 unfold iF;refine af func240 rfl ntmps240 rfl ?_;intro F hq;refine cY ?_;refine zf 9 ?_;refine cu ?_;refine zf 18 ?_;refine aw ?_;refine zl Aq (vU s h) .nil DA ?_;refine fu ?_;refine az (t:=29) (v':=(DE DD (s-1:Nat))) rfl (by(congr 1;omega)) ?_;refine aw ?_;refine Li (Ia ag9) ?_;refine bj ?_;refine Rt [] results240 ?_;refine⟨?_,rfl⟩;unfold qi
 congr 3
 omega
def gP (A:By)(p:Nat):Nat:=rd A (p+45) 1
def ql (Q:Dy)(i:Nat):F8:=Q.getD i []
def pv (l:F8):Nat->FW
 |0=>none
 |k+1=>l[k]?
structure jd (C:Cs)(Q:Dy):Prop where
 len:Q.length=C.ae.length*3
 lv:∀i,∀p∈ql Q i,Live C p
 it:∀i,∀p∈ql Q i,gU C p
 st:∀i,∀p∈ql Q i,1<=gP C.A p/\gP C.A p<=3/\i=qi (C.cl p) (gP C.A p)
 nd:∀i,(ql Q i).Nodup
 l1:∀i k (h:k<(ql Q i).length),rd C.A ((ql Q i)[k]+4) 4=nO (pv (ql Q i) k)
 l2:∀i k (h:k<(ql Q i).length),rd C.A ((ql Q i)[k]+8) 4=nO (ql Q i)[k+1]?
theorem oO{C:Cs}{Q:Dy}{i j:Nat}{v:Value}(hi:i<Q.length)(hv:(di C (ql Q i))[j]?=some v):(Q.flatMap (di C))[i*3+j]?=some v:=
 bq (ZO C) (by unfold ql;rw[aaZ,aa0 hi];rfl) hv
theorem nC{C:Cs}{Q:Dy}(O:jd C Q){c s:Nat}(hc:c<C.ae.length)(h:1<=s/\s<=3):qi c s<Q.length:=by
 rw[O.len];unfold qi;omega
theorem UM (q b qb n c s:Nat)(hc:c<n)(hn:n<=62)(h:¬(1<=s/\s<=3)):
  aK aaY 240 [DC q,DE DD c,DE DD s] (In (ag q 182 (iF b qb n))) []
   (λv H=>v= .pointer none/\H= []):=by
 unfold iF;refine af func240 rfl ntmps240 rfl ?_;intro F hq;refine cY ?_;refine zf 9 ?_;refine cu ?_;refine zf 18 ?_;refine aw ?_;refine zl Aq (Nn s h) .nil DA ?_;refine cu ?_;refine Rt [] results240 ?_;exact⟨rfl,rfl⟩
theorem tx (q b qb:Nat)(C:Cs)(K:Ok C)(p:Nat)(L:Live C p)(hk:kl C.A p≠0)(h:1<=gP C.A p/\gP C.A p<=3):
  aK aaY 222 [DC q,DE DB (C.hd p)] (λh=>In (Cl b C) h/\In (ag q 182 (iF b qb C.ae.length)) h) []
   (λv H=>v= .pointer (some ⟨qb,qi (C.cl p) (gP C.A p)*3,none⟩)/\H= []):=by
 have hc:=(L.toAt.br K).1;have hl:=K.toFix.l1;unfold gP at*;refine af func222 rfl ntmps222 rfl ?_;rintro F ⟨dx,hq⟩;have LO:=hq;unfold iF at LO;refine cu ?_;refine zl Aq (wD b C K p L) .nil (λ_ le _=>In.mono dx le) ?_;refine cC ?_;refine bn ?_;refine zl Aq (rE b C K p L hk) .nil (λ_ le _=>In.mono dx le) ?_;refine sI ?_;refine zl Aq (qQ q b qb C.ae.length (C.cl p) (rd C.A (p+45) 1) hc hl h) .nil (λ_ le _=>In.mono hq le) ?_;refine bj ?_;refine Rt [] results222 ?_;exact⟨rfl,rfl⟩
theorem IU (q b qb:Nat)(C:Cs)(K:Ok C)(p:Nat)(L:Live C p)(hk:kl C.A p≠0)(h:¬(1<=gP C.A p/\gP C.A p<=3)):
  aK aaY 222 [DC q,DE DB (C.hd p)] (λh=>In (Cl b C) h/\In (ag q 182 (iF b qb C.ae.length)) h) []
   (λv H=>v= .pointer none/\H= []):=by
 have hc:=(L.toAt.br K).1;have hl:=K.toFix.l1;unfold gP at*;refine af func222 rfl ntmps222 rfl ?_;rintro F ⟨dx,hq⟩;have LO:=hq;unfold iF at LO;refine cu ?_;refine zl Aq (wD b C K p L) .nil (λ_ le _=>In.mono dx le) ?_;refine cC ?_;refine bn ?_;refine zl Aq (rE b C K p L hk) .nil (λ_ le _=>In.mono dx le) ?_;refine sI ?_;refine zl Aq (UM q b qb C.ae.length (C.cl p) (rd C.A (p+45) 1) hc hl h) .nil (λ_ le _=>In.mono hq le) ?_;refine bj ?_;refine Rt [] results222 ?_;exact⟨rfl,rfl⟩
theorem ue (q b qb:Nat)(C:Cs)(K:Ok C)(Q:Dy)(O:jd C Q)(c s:Nat)(hc:c<C.ae.length)(h:1<=s/\s<=3):
  aK aaY 170 [DC q,DE DD c,DE DD s] (gW (rL q b qb C Q)) []
   (λv H=>v=DE DD ((ql Q (qi c s)).length)/\H= []):=by
 have hl:=K.toFix.l1;have k2:=oO (C:=C) (Q:=Q) (j:=2) (nC O hc h) rfl;refine af func170 rfl ntmps170 rfl ?_;rintro F ⟨hq,hb,_⟩;refine bL ?_;refine zl Aq (qQ q b qb C.ae.length c s hc hl h) .nil (λ_ le _=>In.mono hq le) ?_;refine sI ?_;refine Rt [] results170 ?_;exact⟨rfl,rfl⟩
theorem uy (q b qb:Nat)(C:Cs)(K:Ok C)(Q:Dy)(O:jd C Q)(c s:Nat)(hc:c<C.ae.length)(h:1<=s/\s<=3):
  aK aaY 169 [DC q,DE DD c,DE DD s] (gW (rL q b qb C Q)) []
   (λv H=>v= .tuple #[DE DB (hO C (ql Q (qi c s)).getLast?), .bool (ql Q (qi c s)).getLast?.isSome]/\H= []):=by
 have hl:=K.toFix.l1;have k1:=oO (C:=C) (Q:=Q) (j:=1) (nC O hc h) rfl;have k2:=oO (C:=C) (Q:=Q) (j:=2) (nC O hc h) rfl;rcases hz:ql Q (qi c s)with _|⟨a,l⟩
 ·rw[hz]at k1 k2
  refine af func169 rfl ntmps169 rfl ?_;rintro F ⟨hq,hb,_⟩;refine cY ?_;refine zl Aq (qQ q b qb C.ae.length c s hc hl h) .nil (λ_ le _=>In.mono hq le) ?_;refine bL ?_;refine zf 15 ?_ (e:=by rfl);refine fu ?_;refine js [] results169 ?_;exact⟨rfl,rfl⟩
 rw[hz]at k1 k2;refine af func169 rfl ntmps169 rfl ?_;rintro F ⟨hq,hb,_⟩;refine cY ?_;refine zl Aq (qQ q b qb C.ae.length c s hc hl h) .nil (λ_ le _=>In.mono hq le) ?_;refine bL ?_;refine zf 15 ?_ (e:=by rfl);refine bL ?_;refine cM ?_ (e:=by exact decide_eq_false (by rw[abu];omega));refine bO ?_;refine js [] results169 ?_;exact⟨by rw[aiC];rfl,rfl⟩
def KlO (C:Cs)(o:FW):Prop:=∀q,o=some q->kl C.A q≠0
def Av (A:By)(o1 o2:FW):By:=
 let B:=match o1 with|none=>A|some a=>wr A (a+4*2) 4 (nO o2)
 match o2 with|none=>B|some e=>wr B (e+4*1) 4 (nO o1)
def sG (C:Cs)(cs:FV)(i:Nat)(o1 o2:FW):FV:=
 let ds:=match o1 with|none=>cs.set (i*3+0) (DE DB (hO C o2))|some _=>cs
 match o2 with|none=>ds.set (i*3+1) (DE DB (hO C o1))|some _=>ds
theorem yL (q b qb n:Nat)(C:Cs)(K:Ok C)(cs:FV)(i:Nat)(hi:i*3+2<cs.length)(o1 o2:FW)(L1:dw C o1)(L2:dw C o2)(k1:KlO C o1)(k2:KlO C o2)(it:∀p,o2=some p->gU C p):
  aK aaY 267 [DC q, .pointer (some ⟨qb,i*3,none⟩),DE DB (hO C o1),DE DB (hO C o2)] vz [Cl b C,ag q 182 (iF b qb n),ag qb 333 cs]
   (λv H=>v= .tuple #[]/\H= [Cl b (C.wA (Av C.A o1 o2)),ag q 182 (iF b qb n),ag qb 333 (sG C cs i o1 o2)]):=by
 rcases o1 with _|a<;>rcases o2 with _|e
 ·unfold iF Av sG
  refine af func267 rfl ntmps267 rfl ?_;intro F _;refine cC ?_;refine aY ?_;refine aB ?_;refine j5 [Cl b C,ag q 182 (iF b qb n),ag qb 333 ((cs.set (i*3+0) (DE DB (0))).set (i*3+1) (DE DB (0)))] results267 ?_;exact⟨rfl,rfl⟩
 ·have M:=L2 e rfl
  obtain⟨m1,m2,m3,m4,m5,m6⟩:=bU K M.toAt;unfold iF Av sG;rw[cj];refine af func267 rfl ntmps267 rfl ?_;intro F _;refine rS ?_;refine cM ?_;refine bL ?_;refine zl Aq (eF b C K e 1 none M (k2 e rfl) (by omega) L1) (.cons .here .nil) DA ?_;refine aB ?_;refine j5 [Cl b (C.wA (wr C.A (e+4*1) 4 (nO none))),ag q 182 (iF b qb n),ag qb 333 (cs.set (i*3+0) (DE DB (C.hd e)))] results267 ?_;exact⟨rfl,rfl⟩
 ·have M:=L1 a rfl
  obtain⟨m1,m2,m3,m4,m5,m6⟩:=bU K M.toAt;unfold iF Av sG;rw[cj];refine af func267 rfl ntmps267 rfl ?_;intro F _;refine ba ?_;refine cM ?_;refine bL ?_;refine zl Aq (eF b C K a 2 none M (k1 a rfl) (by omega) L2) (.cons .here .nil) DA ?_;refine cL ?_;refine aB ?_;refine j5 [Cl b (C.wA (wr C.A (a+4*2) 4 (nO none))),ag q 182 (iF b qb n),ag qb 333 (cs.set (i*3+1) (DE DB (C.hd a)))] results267 ?_;exact⟨rfl,rfl⟩
 have M:=L1 a rfl;have N:=L2 e rfl;obtain⟨m1,m2,m3,m4,m5,m6⟩:=bU K M.toAt;obtain⟨u1,u2,u3,u4,u5,u6⟩:=bU K N.toAt;have kp:=xz K N.toAt M.toAt (it e rfl) (a:=4*2) (n:=4) (v:=nO (some e)) (by omega);unfold iF Av sG;rw[cj,cj];refine af func267 rfl ntmps267 rfl ?_;intro F _;refine ba ?_;refine cM ?_;refine bL ?_;refine zl Aq (eF b C K a 2 (some e) M (k1 a rfl) (by omega) L2) (.cons .here .nil) DA ?_;refine ba ?_;refine cM ?_;refine bL ?_;refine zl Aq (eF b (C.wA (wr C.A (a+4*2) 4 (nO (some e)))) (K.wA _) e 1 (some a) (N.wA _) (λh=>k2 e rfl (by rw[<-kp.kl];exact h)) (by omega) (λq hq=>(L1 q hq).wA _)) (.cons .here .nil) DA ?_;refine aB ?_;refine j5 [Cl b ((C.wA (wr C.A (a+4*2) 4 (nO (some e)))).wA (wr (wr C.A (a+4*2) 4 (nO (some e))) (e+4*1) 4 (nO (some a)))),ag q 182 (iF b qb n),ag qb 333 cs] results267 ?_;exact⟨rfl,rfl⟩
theorem Z5{C:Cs}(K:Ok C){p q:Nat}(L:At C p)(M:At C q)(I:gU C p)(v:Nat):Kept C (wr C.A (q+45) 1 v) p:=by
 have n1:=(L.br K).2.1;have m1:=(M.br K).2.1;have hf:=I.fits;have r:=λ(o w:Nat) (h1:o+w<=45\/46<=o) (h2:o+w<=C.sz (C.cl p))=>mc K L M (a:=45) (n:=1) (v:=v) (o:=o) (w:=w) (by omega) h2 (λ_=>by omega);have e1:kl (wr C.A (q+45) 1 v) p=kl C.A p:=r 44 1 (by omega) (by omega);have e2:vl (wr C.A (q+45) 1 v) p=vl C.A p:=r 48 4 (by omega) (by omega);refine⟨e1,e2, ?_,λJ=>⟨?_, ?_, ?_, ?_⟩⟩
 ·unfold aO
  rw[e1];exact Ka K L M (by omega) (by omega) (λ_=>by omega)
 ·rw[cT,e1];exact J.k0
 ·rw[cT,e1,e2];exact J.fits
 ·rw[cT,r 16 8 (by omega) (by omega)];exact J.exp
 rw[cT,r 24 8 (by omega) (by omega)];exact J.tch
def gI (C:Cs)(o:FW):Prop:=∀q,o=some q->Live C q/\gU C q
theorem gI.lv{C:Cs}{o:FW}(h:gI C o):dw C o:=λq e=>(h q e).1
theorem gI.kl{C:Cs}{o:FW}(h:gI C o):KlO C o:=λq e=>(h q e).2.k0
theorem gI.link{C:Cs}(K:Ok C){o:FW}(h:gI C o){p:Nat}(M:Live C p){a n v:Nat}(ha:a+n<=12):gI (C.wA (wr C.A (p+a) n v)) o:=
 λq e=>⟨(h q e).1.wA _,(xz K (h q e).1.toAt M.toAt (h q e).2 ha).it (h q e).2⟩
theorem gI.state{C:Cs}(K:Ok C){o:FW}(h:gI C o){p:Nat}(M:Live C p)(v:Nat):gI (C.wA (wr C.A (p+45) 1 v)) o:=
 λq e=>⟨(h q e).1.wA _,(Z5 K (h q e).1.toAt M.toAt (h q e).2 v).it (h q e).2⟩
theorem gI.join{C:Cs}(K:Ok C){o:FW}(h:gI C o){o1 o2:FW}(h1:gI C o1)(h2:gI C o2):gI (C.wA (Av C.A o1 o2)) o:=by
 rcases o1 with _|a<;>rcases o2 with _|e
 ·exact h
 ·exact h.link K (h2 e rfl).1 (a:=4*1) (by omega)
 ·exact h.link K (h1 a rfl).1 (a:=4*2) (by omega)
 have g:=h.link K (h1 a rfl).1 (a:=4*2) (n:=4) (v:=nO (some e)) (by omega);exact g.link (K.wA _) ((h2 e rfl).1.wA _) (a:=4*1) (by omega)
def l7 (A:By)(p s:Nat)(o1 o2:FW):By:=wr (wr (wr A (p+4*1) 4 (nO o1)) (p+4*2) 4 (nO o2)) (p+45) 1 s
def lB (A:By)(p s:Nat)(o1 o2:FW):By:=Av (Av (l7 A p s o1 o2) o1 (some p)) (some p) o2
theorem Ki (q b qb n m:Nat)(C:Cs)(K:Ok C)(cs:FV)(i:Nat)(hi:i*3+2<cs.length)(p s:Nat)(hs:1<=s/\s<=3)(o1 o2:FW)(hp:gI C (some p))(h1:gI C o1)(h2:gI C o2)
  (hn:(sG C (sG C cs i o1 (some p)) i (some p) o2)[i*3+2]?=some (DE DD m)) (hl:(sG C (sG C cs i o1 (some p)) i (some p) o2).length=cs.length) (hl1:(sG C cs i o1 (some p)).length=cs.length) (hm:m<=1073741824):
  aK aaY 226 [DC q, .pointer (some ⟨qb,i*3,none⟩),DE DB (C.hd p),DE DD s,DE DB (hO C o1),DE DB (hO C o2)] vz [Cl b C,ag q 182 (iF b qb n),ag qb 333 cs]
   (λv H=>v= .tuple #[]/\H= [Cl b (C.wA (lB C.A p s o1 o2)),ag q 182 (iF b qb n),ag qb 333 ((sG C (sG C cs i o1 (some p)) i (some p) o2).set (i*3+2) (DE DD (m+1:Nat)))]):=by
 have L:=(hp p rfl).1;have k0:=hp.kl p rfl;have g1:=hp.link K L (a:=4*1) (n:=4) (v:=nO o1) (by omega);have a1:=h1.link K L (a:=4*1) (n:=4) (v:=nO o1) (by omega);have b1:=h2.link K L (a:=4*1) (n:=4) (v:=nO o1) (by omega);have K1:=K.wA (wr C.A (p+4*1) 4 (nO o1));have g2:=g1.link K1 (g1 p rfl).1 (a:=4*2) (n:=4) (v:=nO o2) (by omega);have a2:=a1.link K1 (g1 p rfl).1 (a:=4*2) (n:=4) (v:=nO o2) (by omega);have b2:=b1.link K1 (g1 p rfl).1 (a:=4*2) (n:=4) (v:=nO o2) (by omega);have K2:=K.wA (wr (wr C.A (p+4*1) 4 (nO o1)) (p+4*2) 4 (nO o2));have g3:=g2.state K2 (g2 p rfl).1 s;have a3:=a2.state K2 (g2 p rfl).1 s;have b3:=b2.state K2 (g2 p rfl).1 s;have K3:=K.wA (l7 C.A p s o1 o2);have g4:=g3.join K3 a3 g3;have b4:=b3.join K3 a3 g3;have K4:=K.wA (Av (l7 C.A p s o1 o2) o1 (some p));have j1:=yL q b qb n (C.wA (l7 C.A p s o1 o2)) K3 cs i hi o1 (some p) a3.lv g3.lv a3.kl g3.kl (λu hu=>(g3 u hu).2);have j2:=yL q b qb n (C.wA (Av (l7 C.A p s o1 o2) o1 (some p))) K4 (sG C cs i o1 (some p)) i (by rw[hl1];exact hi) (some p) o2 g4.lv b4.lv g4.kl b4.kl (λu hu=>(b4 u hu).2);unfold iF at*;refine af func226 rfl ntmps226 rfl ?_;intro F _;refine bL ?_;refine zl Aq (eF b C K p 1 o1 L k0 (by omega) h1.lv) (.cons .here .nil) DA ?_;refine cY ?_;refine zl Aq (eF b (C.wA (wr C.A (p+4*1) 4 (nO o1))) K1 p 2 o2 (g1 p rfl).1 (g1.kl p rfl) (by omega) b1.lv) (.cons .here .nil) DA ?_;refine cY ?_;refine zl Aq (uQ b (C.wA (wr (wr C.A (p+4*1) 4 (nO o1)) (p+4*2) 4 (nO o2))) K2 p s ⟨hs.1,by omega⟩ (g2 p rfl).1 (g2.kl p rfl)) (.cons .here .nil) DA ?_;refine bA ?_;refine zl Aq (j1) (.cons .here (.cons .here (.cons .here .nil))) DA ?_;refine bA ?_;refine zl Aq (j2) (.cons .here (.cons .here (.cons .here .nil))) DA ?_;refine Hh (H':= [Cl b (C.wA (lB C.A p s o1 o2)),ag q 182 [DC b, .slice (some ⟨qb,0,none⟩) n n],ag qb 333 (sG C (sG C cs i o1 (some p)) i (some p) o2)]) ?_;generalize sG C (sG C cs i o1 (some p)) i (some p) o2=ds at hn hl⊢;have xh:i*3+2<ds.length:=by rw[hl];exact hi
 refine bD ?_;refine aB ?_;refine j5 [Cl b (C.wA (lB C.A p s o1 o2)),ag q 182 [DC b, .slice (some ⟨qb,0,none⟩) n n],ag qb 333 (ds.set (i*3+2) (DE DD ((m:Int)+1)))] results226 ?_;exact⟨rfl,rfl⟩
structure T3 where
 a:Value
 b:Value
 c:Value
def t3 (x:T3):FV:= [x.a,x.b,x.c]
theorem ym:∀x,(t3 x).length=3:=λ_=>rfl
def LK (C:Cs)(l:F8):T3:=⟨DE DB (hO C l.head?),DE DB (hO C l.getLast?),DE DD l.length⟩
theorem Ek (C:Cs)(Q:Dy):Q.flatMap (di C)=(Q.map (LK C)).flatMap t3:=by
 rw[List.flatMap_map];rfl
def jnT (C:Cs)(x:T3)(o1 o2:FW):T3:=
 let y:T3:=match o1 with|none=>{x with a:=DE DB (hO C o2)}|some _=>x
 match o2 with|none=>{y with b:=DE DB (hO C o1)}|some _=>y
theorem Q1 (C:Cs)(R:List T3)(i:Nat)(x:T3)(h:R[i]?=some x)(o1 o2:FW):sG C (R.flatMap t3) i o1 o2=(R.set i (jnT C x o1 o2)).flatMap t3:=by
 have hi:=(aa1.1 h).1;have s0:∀(S:List T3) (y:T3) (v:Value),S[i]?=some y->(S.flatMap t3).set (i*3+0) v=(S.set i {y with a:=v}).flatMap t3:=λS y v hs=>cb ym hs rfl (by decide);have s1:∀(S:List T3) (y:T3) (v:Value),S[i]?=some y->(S.flatMap t3).set (i*3+1) v=(S.set i {y with b:=v}).flatMap t3:=λS y v hs=>cb ym hs rfl (by decide);have same:R.set i x=R:=by
  obtain⟨h1,h2⟩:=aa1.1 h;rw[<-h2,List.set_getElem_self]
 rcases o1 with _|a<;>rcases o2 with _|e
 ·unfold sG jnT
  show((R.flatMap t3).set (i*3+0) _).set (i*3+1) _=_;rw[s0 R x _ h,s1 _ _ _ (aa4 hi),ade]
 ·exact s0 R x _ h
 ·exact s1 R x _ h
 unfold sG jnT;show R.flatMap t3=(R.set i x).flatMap t3;rw[same]
theorem wP:∀(l:F8) (k p:Nat) (_:k<=l.length),(l.insertIdx k p).getLast?=if k=l.length then some p else l.getLast?
 | [],0,p,_=>rfl
 |a::l,0,p,_=>by
  rw[ait,List.getLast?_cons_cons,if_neg (by simp)]
 |a::l,k+1,p,h=>by
  rw[ah7,aiC,wP l k p (by simpa using h),abu,aiC];by_cases e:k=l.length
  ·rw[if_pos e,if_pos (by omega)];rfl
  rw[if_neg e,if_neg (by omega)]
theorem Vy (l:F8)(k p:Nat)(h:k<=l.length):(l.insertIdx k p).head?=if k=0 then some p else l.head?:=by
 rcases k with _|k
 ·simp
 rcases l with _|⟨a,l⟩
 ·simp at h
 simp
theorem afd (C:Cs)(l:F8)(k p:Nat)(h:k<=l.length):{jnT C (jnT C (LK C l) (pv l k) (some p)) (some p) l[k]? with c:=DE DD (l.length+1:Nat)}=LK C (l.insertIdx k p):=by
 unfold LK;rw[Vy l k p h,wP l k p h,List.length_insertIdx_of_le_length h];rcases k with _|k
 ·by_cases e:0<l.length
  ·rw[aa0 e,if_pos rfl,if_neg (by omega)];rfl
  rw[abb (by omega),if_pos rfl,if_pos (by omega)];rfl
 have e1:pv l (k+1)=some l[k]:=aa0 (by omega);by_cases e:k+1<l.length
 ·rw[e1,aa0 e,if_neg (by omega),if_neg (by omega)];rfl
 rw[e1,abb (by omega),if_neg (by omega),if_pos (by omega)];rfl
theorem Bm (C:Cs)(Q:Dy)(i k p:Nat)(hi:i<Q.length)(h:k<=(ql Q i).length):
  (sG C (sG C (Q.flatMap (di C)) i (pv (ql Q i) k) (some p)) i (some p) (ql Q i)[k]?).set (i*3+2) (DE DD ((ql Q i).length+1:Nat))=(Q.set i ((ql Q i).insertIdx k p)).flatMap (di C):=by
 have hq:(Q.map (LK C))[i]?=some (LK C (ql Q i)):=by
  unfold ql;rw[abf,aaZ,aa0 hi];rfl
 have xh:i<(Q.map (LK C)).length:=by simpa using hi
 have s2:∀(S:List T3) (y:T3) (v:Value),S[i]?=some y->(S.flatMap t3).set (i*3+2) v=(S.set i {y with c:=v}).flatMap t3:=λS y v hs=>cb ym hs rfl (by decide);rw[Ek,Ek,Q1 C _ i _ hq,Q1 C _ i _ (aa4 xh),ade,s2 _ _ _ (aa4 xh),ade,afd C _ k p h,adf]
theorem UL (q b qb:Nat)(C:Cs)(K:Ok C)(p j:Nat)(hj:j=1\/j=2)(o:FW)(L:Live C p)(hk:kl C.A p≠0)(h:1<=gP C.A p/\gP C.A p<=3)(ho:dw C o)(hn:rd C.A (p+4*j) 4=nO o):
  aK aaY 171 [DC q,DE DB (C.hd p),DE DD j] (λh=>In (Cl b C) h/\In (ag q 182 (iF b qb C.ae.length)) h) []
   (λv H=>v= .tuple #[DE DB (hO C o), .bool o.isSome]/\H= []):=by
 refine af func171 rfl ntmps171 rfl ?_;rintro F ⟨dx,hq⟩;have LO:=hq;unfold iF at LO;refine cY ?_;refine zl Aq (tx q b qb C K p L hk h) .nil (λ_ le _=>⟨In.mono dx le,In.mono hq le⟩) ?_;refine cL ?_;refine zl Aq (nM b C K p j o L hk (by omega) ho hn) .nil (λ_ le _=>In.mono dx le) ?_;rcases o with _|e
 ·refine Li Mv ?_
  refine bD ?_;refine zf 26 ?_ (e:=by rfl);refine bO ?_;refine js [] results171 ?_;exact⟨rfl,rfl⟩
 obtain⟨m1,m2,m3,m4,m5,m6⟩:=bU K (ho e rfl).toAt;rw[cj];refine bO ?_;refine zf 26 ?_ (e:=by rfl);refine aY ?_;refine cM ?_;refine cY ?_;refine js [] results171 ?_;exact⟨rfl,rfl⟩
theorem Be (q b qb:Nat)(C:Cs)(K:Ok C)(Q:Dy)(O:jd C Q)(i k:Nat)(hk:k<(ql Q i).length):
  aK aaY 119 [DC q,DE DB (C.hd (ql Q i)[k])] (λh=>In (Cl b C) h/\In (ag q 182 (iF b qb C.ae.length)) h) []
   (λv H=>v= .tuple #[DE DB (hO C (pv (ql Q i) k)), .bool (pv (ql Q i) k).isSome]/\H= []):=by
 have hp:=abe hk;have s:=O.st i _ hp;have ho:dw C (pv (ql Q i) k):=λu hu=>by
  rcases k with _|k
  ·cases hu
  exact O.lv i u (aa3 hu)
 refine af func119 rfl ntmps119 rfl ?_;rintro F ⟨dx,hq⟩;refine bL ?_;refine zl Aq (UL q b qb C K (ql Q i)[k] 1 (.inl rfl) (pv (ql Q i) k) (O.lv i _ hp) (O.it i _ hp).k0 ⟨s.1,s.2.1⟩ ho (O.l1 i k hk)) .nil (λ_ le _=>⟨In.mono dx le,In.mono hq le⟩) ?_;refine bA ?_;refine js [] results119 ?_;exact⟨rfl,rfl⟩
theorem E1 (q b qb:Nat)(C:Cs)(K:Ok C)(p s:Nat)(hs:1<=s/\s<=3)(L:Live C p)(hk:kl C.A p≠0)(h:¬(1<=gP C.A p/\gP C.A p<=3)):
  aK aaY 224 [DC q,DE DB (C.hd p),DE DD s] (λh=>In (Cl b C) h/\In (ag q 182 (iF b qb C.ae.length)) h) []
   (λv H=>v= .tuple #[.pointer (some ⟨qb,qi (C.cl p) s*3,none⟩),DE DD 0]/\H= []):=by
 have hc:=(L.toAt.br K).1;have hl:=K.toFix.l1;refine af func224 rfl ntmps224 rfl ?_;rintro F ⟨dx,hq⟩;have LO:=hq;unfold iF at LO;refine bL ?_;refine zl Aq (vU s hs) .nil DA ?_;refine bO ?_;refine zl Aq (wO b C K p L hk) .nil (λ_ le _=>In.mono dx le) ?_;refine gQ ?_;refine zf 28 ?_ (e:=by rfl);refine aY ?_;refine cM ?_;refine bA ?_;refine zl Aq (IU q b qb C K p L hk h) .nil (λ_ le _=>⟨In.mono dx le,In.mono hq le⟩) ?_;refine bO ?_;refine zl Aq (wD b C K p L) .nil (λ_ le _=>In.mono dx le) ?_;refine cC ?_;refine zl Aq (qQ q b qb C.ae.length (C.cl p) s hc hl hs) .nil (λ_ le _=>In.mono hq le) ?_;refine aY ?_;refine js [] results224 ?_;exact⟨rfl,rfl⟩
theorem xr{C:Cs}(K:Ok C){x q:Nat}(L:At C x)(M:At C q)(A:By){i j v:Nat}(hi:i<=2)(hj:j<=2)(hv:v<4294967296):rd (wr A (q+4*j) 4 v) (x+4*i) 4=if x=q/\i=j then v else rd A (x+4*i) 4:=by
 have n1:=(L.br K).2.1;have m1:=(M.br K).2.1;split
 ·next h=>
  obtain⟨rfl,rfl⟩:=h;rw[dI];exact acZ hv
 next h=>exact mc (C:=C.wA A) (K.wA A) (L.wA A) (M.wA A) (a:=4*j) (n:=4) (o:=4*i) (w:=4) (by show _<=C.sz (C.cl q);omega) (by show _<=C.sz (C.cl x);omega) (λe=>by
  have:i≠j:=λg=>h ⟨e,g⟩;omega)
theorem ux{C:Cs}(K:Ok C){x q:Nat}(L:At C x)(M:At C q)(A:By){i v:Nat}(hi:i<=2):rd (wr A (q+45) 1 v) (x+4*i) 4=rd A (x+4*i) 4:=by
 have n1:=(L.br K).2.1;have m1:=(M.br K).2.1;exact mc (C:=C.wA A) (K.wA A) (L.wA A) (M.wA A) (a:=45) (n:=1) (o:=4*i) (w:=4) (by show _<=C.sz (C.cl q);omega) (by show _<=C.sz (C.cl x);omega) (λ_=>by omega)
theorem J5{C:Cs}(K:Ok C){x q:Nat}(L:At C x)(M:At C q)(A:By){j v:Nat}(hj:j<=2):gP (wr A (q+4*j) 4 v) x=gP A x:=by
 have n1:=(L.br K).2.1;have m1:=(M.br K).2.1;exact mc (C:=C.wA A) (K.wA A) (L.wA A) (M.wA A) (a:=4*j) (n:=4) (o:=45) (w:=1) (by show _<=C.sz (C.cl q);omega) (by show _<=C.sz (C.cl x);omega) (λ_=>by omega)
theorem abC{C:Cs}(K:Ok C){x q:Nat}(L:At C x)(M:At C q)(A:By){v:Nat}(hv:v<256):gP (wr A (q+45) 1 v) x=if x=q then v else gP A x:=by
 have n1:=(L.br K).2.1;have m1:=(M.br K).2.1;split
 ·next h=>
  subst h;unfold gP;rw[dI];exact acZ (by rw[Nat.pow_one];exact hv)
 next h=>exact mc (C:=C.wA A) (K.wA A) (L.wA A) (M.wA A) (a:=45) (n:=1) (o:=45) (w:=1) (by show _<=C.sz (C.cl q);omega) (by show _<=C.sz (C.cl x);omega) (λe=>absurd e h)
theorem yP (A:By)(p s:Nat)(o1 o2:FW):lB A p s o1 o2=
  (match o2 with
   |none=>wr (wr (match o1 with|none=>l7 A p s o1 o2|some a=>wr (l7 A p s o1 o2) (a+4*2) 4 (nO (some p))) (p+4*1) 4 (nO o1)) (p+4*2) 4 (nO o2)
   |some e=>wr (wr (wr (match o1 with|none=>l7 A p s o1 o2|some a=>wr (l7 A p s o1 o2) (a+4*2) 4 (nO (some p))) (p+4*1) 4 (nO o1)) (p+4*2) 4 (nO o2)) (e+4*1) 4 (nO (some p))):=by
 rcases o1 with _|a<;>rcases o2 with _|e<;>rfl
theorem aff{C:Cs}(K:Ok C){x p s:Nat}{o1 o2:FW}(X:Live C x)(P:Live C p)(L1:dw C o1)(L2:dw C o2)(d2:o2≠some p):
  rd (lB C.A p s o1 o2) (x+4*1) 4=if x=p then nO o1 else if o2=some x then nO (some p)else rd C.A (x+4*1) 4:=by
 have b1:=pK K L1;have b2:=pK K L2;have bp:=pK K (o:=some p) (λq hq=>by cases hq;exact P);have l:=λ(q:Nat) (M:Live C q) (A:By) (j v:Nat) (hj:j<=2) (hv:v<4294967296)=>xr K X.toAt M.toAt A (i:=1) (j:=j) (v:=v) (by omega) hj hv;have z:=λ(A:By)=>ux K X.toAt P.toAt A (i:=1) (v:=s) (by omega);rw[yP];rcases o1 with _|a<;>rcases o2 with _|e<;>dsimp only<;>unfold l7
 ·rw[l p P _ 2 _ (by omega) b2,l p P _ 1 _ (by omega) b1,z,l p P _ 2 _ (by omega) b2,l p P _ 1 _ (by omega) b1]
  by_cases h:x=p<;>simp[h]
 ·have E:=L2 e rfl
  have ne:e≠p:=λh=>d2 (by rw[h]);rw[l e E _ 1 _ (by omega) bp,l p P _ 2 _ (by omega) b2,l p P _ 1 _ (by omega) b1,z,l p P _ 2 _ (by omega) b2,l p P _ 1 _ (by omega) b1];by_cases h:x=p
  ·subst h;simp[Ne.symm ne]
  by_cases g:x=e
  ·subst g;simp[h]
  have g2:¬e=x:=λu=>g u.symm;simp[h,g,g2]
 ·have A':=L1 a rfl
  rw[l p P _ 2 _ (by omega) b2,l p P _ 1 _ (by omega) b1,l a A' _ 2 _ (by omega) bp,z,l p P _ 2 _ (by omega) b2,l p P _ 1 _ (by omega) b1];by_cases h:x=p<;>simp[h]
 have A':=L1 a rfl;have E:=L2 e rfl;have ne:e≠p:=λh=>d2 (by rw[h]);rw[l e E _ 1 _ (by omega) bp,l p P _ 2 _ (by omega) b2,l p P _ 1 _ (by omega) b1,l a A' _ 2 _ (by omega) bp,z,l p P _ 2 _ (by omega) b2,l p P _ 1 _ (by omega) b1];by_cases h:x=p
 ·subst h;simp[Ne.symm ne]
 by_cases g:x=e
 ·subst g;simp[h]
 have g2:¬e=x:=λu=>g u.symm;simp[h,g,g2]
theorem afe{C:Cs}(K:Ok C){x p s:Nat}{o1 o2:FW}(X:Live C x)(P:Live C p)(L1:dw C o1)(L2:dw C o2)(d1:o1≠some p):
  rd (lB C.A p s o1 o2) (x+4*2) 4=if x=p then nO o2 else if o1=some x then nO (some p)else rd C.A (x+4*2) 4:=by
 have b1:=pK K L1;have b2:=pK K L2;have bp:=pK K (o:=some p) (λq hq=>by cases hq;exact P);have l:=λ(q:Nat) (M:Live C q) (A:By) (j v:Nat) (hj:j<=2) (hv:v<4294967296)=>xr K X.toAt M.toAt A (i:=2) (j:=j) (v:=v) (by omega) hj hv;have z:=λ(A:By)=>ux K X.toAt P.toAt A (i:=2) (v:=s) (by omega);rw[yP];rcases o1 with _|a<;>rcases o2 with _|e<;>dsimp only<;>unfold l7
 ·rw[l p P _ 2 _ (by omega) b2,l p P _ 1 _ (by omega) b1,z,l p P _ 2 _ (by omega) b2,l p P _ 1 _ (by omega) b1]
  by_cases h:x=p<;>simp[h]
 ·have E:=L2 e rfl
  rw[l e E _ 1 _ (by omega) bp,l p P _ 2 _ (by omega) b2,l p P _ 1 _ (by omega) b1,z,l p P _ 2 _ (by omega) b2,l p P _ 1 _ (by omega) b1];by_cases h:x=p<;>simp[h]
 ·have A':=L1 a rfl
  rw[l p P _ 2 _ (by omega) b2,l p P _ 1 _ (by omega) b1,l a A' _ 2 _ (by omega) bp,z,l p P _ 2 _ (by omega) b2,l p P _ 1 _ (by omega) b1];by_cases h:x=p
  ·simp[h]
  by_cases g:x=a
  ·subst g;simp[h]
  have g2:¬a=x:=λu=>g u.symm;simp[h,g,g2]
 have A':=L1 a rfl;have E:=L2 e rfl;rw[l e E _ 1 _ (by omega) bp,l p P _ 2 _ (by omega) b2,l p P _ 1 _ (by omega) b1,l a A' _ 2 _ (by omega) bp,z,l p P _ 2 _ (by omega) b2,l p P _ 1 _ (by omega) b1];by_cases h:x=p
 ·simp[h]
 by_cases g:x=a
 ·subst g;simp[h]
 have g2:¬a=x:=λu=>g u.symm;simp[h,g,g2]
theorem R4{C:Cs}(K:Ok C){x p s:Nat}{o1 o2:FW}(X:Live C x)(P:Live C p)(L1:dw C o1)(L2:dw C o2)(hs:s<256):
  gP (lB C.A p s o1 o2) x=if x=p then s else gP C.A x:=by
 have l:=λ(q:Nat) (M:Live C q) (A:By) (j v:Nat) (hj:j<=2)=>J5 K X.toAt M.toAt A (j:=j) (v:=v) hj;have z:=λ(A:By)=>abC K X.toAt P.toAt A (v:=s) hs;rw[yP];rcases o1 with _|a<;>rcases o2 with _|e<;>dsimp only<;>unfold l7
 ·rw[l p P _ 2 _ (by omega),l p P _ 1 _ (by omega),z,l p P _ 2 _ (by omega),l p P _ 1 _ (by omega)]
 ·rw[l e (L2 e rfl) _ 1 _ (by omega),l p P _ 2 _ (by omega),l p P _ 1 _ (by omega),z,l p P _ 2 _ (by omega),l p P _ 1 _ (by omega)]
 ·rw[l p P _ 2 _ (by omega),l p P _ 1 _ (by omega),l a (L1 a rfl) _ 2 _ (by omega),z,l p P _ 2 _ (by omega),l p P _ 1 _ (by omega)]
 rw[l e (L2 e rfl) _ 1 _ (by omega),l p P _ 2 _ (by omega),l p P _ 1 _ (by omega),l a (L1 a rfl) _ 2 _ (by omega),z,l p P _ 2 _ (by omega),l p P _ 1 _ (by omega)]
theorem fS{Q:Dy}{i:Nat}(h:i<Q.length)(l:F8)(j:Nat):ql (Q.set i l) j=if j=i then l else ql Q j:=by
 unfold ql;split
 ·next e=>rw[e];exact nj h l
 next e=>exact getD_set_ne (λg=>e g.symm) l
theorem Kv{l:F8}{k p x:Nat}(h:k<=l.length)(hx:x∈l.insertIdx k p):x=p\/x∈l:=(List.mem_insertIdx h).1 hx
theorem aeT (l:F8)(k p j:Nat)(h:k<=l.length)(hj:j<(l.insertIdx k p).length):pv (l.insertIdx k p) j=if j=0 then none else if j-1<k then l[j-1]? else if j-1=k then some p else l[j-2]?:=by
 rcases j with _|j
 ·rfl
 show(l.insertIdx k p)[j]?=_;rw[aib,if_neg (show¬j+1=0 by omega),show j+1-1=j from rfl,show j+1-2=j-1 by omega];by_cases h1:j<k
 ·rw[if_pos h1,if_pos h1]
 rw[if_neg h1,if_neg h1];by_cases h2:j=k
 ·rw[if_pos h2,if_pos h2,if_pos (by omega)]
 rw[if_neg h2,if_neg h2]
theorem Nk{C:Cs}(K:Ok C){p s:Nat}{o1 o2:FW}(hp:gI C (some p))(h1:gI C o1)(h2:gI C o2){o:FW}(h:gI C o):gI (C.wA (lB C.A p s o1 o2)) o:=by
 have L:=(hp p rfl).1;have s1:=λ{o:FW} (h:gI C o)=>h.link K L (a:=4*1) (n:=4) (v:=nO o1) (by omega);have K1:=K.wA (wr C.A (p+4*1) 4 (nO o1));have s2:=λ{o:FW} (h:gI C o)=>(s1 h).link K1 (s1 hp p rfl).1 (a:=4*2) (n:=4) (v:=nO o2) (by omega);have K2:=K.wA (wr (wr C.A (p+4*1) 4 (nO o1)) (p+4*2) 4 (nO o2));have s3:=λ{o:FW} (h:gI C o)=>(s2 h).state K2 (s2 hp p rfl).1 s;have K3:=K.wA (l7 C.A p s o1 o2);have s4:=λ{o:FW} (h:gI C o)=>(s3 h).join K3 (s3 h1) (s3 hp);have K4:=K.wA (Av (l7 C.A p s o1 o2) o1 (some p));exact(s4 h).join K4 (s4 hp) (s4 h2)
theorem iP:∀{l:F8} {i j x:Nat},l.Nodup->l[i]?=some x->l[j]?=some x->i=j
 | [],i,j,x,_,h,_=>by simp at h
 |a::l,0,0,x,_,_,_=>rfl
 |a::l,0,j+1,x,nd,h,g=>by
  rw[aip]at h;rw[ahM]at g;cases h;exact absurd (aa3 g) (abg.1 nd).1
 |a::l,i+1,0,x,nd,h,g=>by
  rw[aip]at g;rw[ahM]at h;cases g;exact absurd (aa3 h) (abg.1 nd).1
 |a::l,i+1,j+1,x,nd,h,g=>by
  rw[ahM]at h g;rw[iP (abg.1 nd).2 h g]
theorem RT:∀{l:F8} {k p:Nat},k<=l.length->p∉l->l.Nodup->(l.insertIdx k p).Nodup
 |l,0,p,_,hp,nd=>by
  rw[ait];exact abg.2 ⟨hp,nd⟩
 | [],k+1,p,h,_,_=>by simp at h
 |a::l,k+1,p,h,hp,nd=>by
  rw[ah7];have h2:k<=l.length:=by simpa using h
  refine abg.2 ⟨λhm=> ?_,RT h2 (λg=>hp (aa6 _ g)) (abg.1 nd).2⟩;rcases Kv h2 hm with e|e
  ·exact hp (by rw[<-e];exact aa5)
  exact(abg.1 nd).1 e
theorem K5{l:F8}{k p m x:Nat}(hk:k<=l.length)(h:(l.insertIdx k p)[m]?=some x):m<k/\l[m]?=some x\/m=k/\x=p\/k<m/\l[m-1]?=some x:=by
 rw[aib]at h;by_cases h1:m<k
 ·rw[if_pos h1]at h;exact .inl ⟨h1,h⟩
 rw[if_neg h1]at h;by_cases h2:m=k
 ·rw[if_pos h2,if_pos (by omega)]at h
  cases h;exact .inr (.inl ⟨h2,rfl⟩)
 rw[if_neg h2]at h;exact .inr (.inr ⟨by omega,h⟩)
theorem Z6{l:F8}{k p m:Nat}(hk:k<=l.length):(l.insertIdx k p)[m]?=if m<k then l[m]? else if m=k then some p else l[m-1]?:=by
 rw[aib];by_cases h1:m<k
 ·rw[if_pos h1,if_pos h1]
 rw[if_neg h1,if_neg h1];by_cases h2:m=k
 ·rw[if_pos h2,if_pos h2,if_pos (by omega)]
 rw[if_neg h2,if_neg h2]
theorem jd.m1{C:Cs}{Q:Dy}(O:jd C Q){i k x:Nat}(h:(ql Q i)[k]?=some x):rd C.A (x+4) 4=nO (pv (ql Q i) k):=by
 obtain⟨h1,h2⟩:=aa1.1 h;rw[<-h2];exact O.l1 i k h1
theorem jd.m2{C:Cs}{Q:Dy}(O:jd C Q){i k x:Nat}(h:(ql Q i)[k]?=some x):rd C.A (x+8) 4=nO (ql Q i)[k+1]?:=by
 obtain⟨h1,h2⟩:=aa1.1 h;rw[<-h2];exact O.l2 i k h1
theorem qI{l:F8}{k x:Nat}(h:pv l k=some x):x∈l:=by
 rcases k with _|k
 ·cases h
 exact aa3 h
theorem jd.GJ{C:Cs}{Q:Dy}(O:jd C Q){i:Nat}{o:FW}(h:∀x,o=some x->x∈ql Q i):gI C o:=λx hx=>⟨O.lv i x (h x hx),O.it i x (h x hx)⟩
theorem jd.one{C:Cs}{Q:Dy}(O:jd C Q){i j x:Nat}(h:x∈ql Q i)(g:x∈ql Q j):i=j:=by
 rw[(O.st i x h).2.2,(O.st j x g).2.2]
theorem R5{C:Cs}(K:Ok C){Q:Dy}(O:jd C Q){p s k i:Nat}(ei:i=qi (C.cl p) s)(hi:i<Q.length)(hs:1<=s/\s<=3)(hk:k<=(ql Q i).length)(P:gI C (some p))(hn:¬(1<=gP C.A p/\gP C.A p<=3)):
  jd (C.wA (lB C.A p s (pv (ql Q i) k) (ql Q i)[k]?)) (Q.set i ((ql Q i).insertIdx k p)):=by
 have no:∀j,p∉ql Q j:=λj h=>hn ⟨(O.st j p h).1,(O.st j p h).2.1⟩;have LP:=(P p rfl).1;have I1:gI C (pv (ql Q i) k):=O.GJ λx hx=>qI hx;have I2:gI C (ql Q i)[k]?:=O.GJ λx hx=>aa3 hx;have d1:pv (ql Q i) k≠some p:=λh=>no i (qI h);have d2:(ql Q i)[k]?≠some p:=λh=>no i (aa3 h);have hm:∀j x,x∈ql (Q.set i ((ql Q i).insertIdx k p)) j->j=i/\x=p\/x≠p/\x∈ql Q j:=λj x hx=>by
  rw[fS hi]at hx;split at hx
  ·next e=>
   rcases Kv hk hx with g|g
   ·exact .inl ⟨e,g⟩
   exact .inr ⟨λz=>no i (by rw[<-z];exact g),by rw[e];exact g⟩
  next e=>exact .inr ⟨λz=>no j (by rw[<-z];exact hx),hx⟩
 have XN:∀j x,x∈ql (Q.set i ((ql Q i).insertIdx k p)) j->gI C (some x):=λj x hx y hy=>by
  cases hy;rcases hm j _ hx with⟨_,rfl⟩|⟨_,h⟩
  ·exact P _ rfl
  exact⟨O.lv j _ h,O.it j _ h⟩
 have kp:=λj x hx=>Nk K (s:=s) P I1 I2 (XN j x hx);refine⟨?_,λj x hx=>(kp j x hx x rfl).1,λj x hx=>(kp j x hx x rfl).2,λj x hx=> ?_,λj=> ?_,λj m h=> ?_,λj m h=> ?_⟩
 ·rw[aa8];exact O.len
 ·show 1<=gP (lB _ _ _ _ _) x/\_/\j=qi (C.cl x) _
  rw[cT,R4 K (XN j x hx x rfl).1 LP I1.lv I2.lv (by omega)];rcases hm j x hx with⟨rfl,rfl⟩|⟨h1,h2⟩
  ·rw[if_pos rfl];exact⟨hs.1,hs.2,ei⟩
  rw[if_neg h1];exact O.st j x h2
 ·rw[fS hi]
  split
  ·exact RT hk (no i) (O.nd i)
  exact O.nd j
 ·have hx:(ql (Q.set i ((ql Q i).insertIdx k p)) j)[m]?=some (ql (Q.set i ((ql Q i).insertIdx k p)) j)[m]:=aa0 h
  generalize (ql (Q.set i ((ql Q i).insertIdx k p)) j)[m]=x at hx⊢;have GP:=aa3 hx;have r:=aff K (s:=s) (XN j x GP x rfl).1 LP I1.lv I2.lv d2;rw[cT];refine r.trans ?_;rw[fS hi]at hx⊢;split at hx
  ·next e=>
   subst e;rw[if_pos rfl];have hml:m<((ql Q j).insertIdx k p).length:=(aa1.1 hx).1;rw[aeT _ _ _ _ hk hml];rcases K5 hk hx with⟨h1,h2⟩|⟨h1,h2⟩|⟨h1,h2⟩
   ·have g1:x≠p:=λz=>no j (by rw[<-z];exact aa3 h2)
    have g2:(ql Q j)[k]?≠some x:=λz=>by have:=iP (O.nd j) z h2;omega
    rw[if_neg g1,if_neg g2,O.m1 h2];rcases m with _|m
    ·rfl
    rw[if_neg (by omega),if_pos (by omega)];rfl
   ·rw[if_pos h2]
    subst h1;rcases m with _|m
    ·rfl
    rw[if_neg (by omega),if_pos (by omega)];rfl
   have g1:x≠p:=λz=>no j (by rw[<-z];exact aa3 h2);rw[if_neg g1,if_neg (show¬m=0 by omega),if_neg (show¬m-1<k by omega)];by_cases g:m-1=k
   ·rw[if_pos g,if_pos (by rw[<-g];exact h2)]
   have g2:(ql Q j)[k]?≠some x:=λz=>by have:=iP (O.nd j) z h2;omega
   rw[if_neg g2,if_neg g,O.m1 h2];obtain⟨u,rfl⟩:∃u,m=u+2:=⟨m-2,by omega⟩;rfl
  next e=>
  rw[if_neg e];have hj:=aa3 hx;have g1:x≠p:=λz=>no j (by rw[<-z];exact hj);have g2:(ql Q i)[k]?≠some x:=λz=>e (O.one hj (aa3 z));rw[if_neg g1,if_neg g2,O.m1 hx]
 have hx:(ql (Q.set i ((ql Q i).insertIdx k p)) j)[m]?=some (ql (Q.set i ((ql Q i).insertIdx k p)) j)[m]:=aa0 h;generalize (ql (Q.set i ((ql Q i).insertIdx k p)) j)[m]=x at hx⊢;have GP:=aa3 hx;have r:=afe K (s:=s) (XN j x GP x rfl).1 LP I1.lv I2.lv d1;rw[cT];refine r.trans ?_;rw[fS hi]at hx⊢;split at hx
 ·next e=>
  subst e;rw[if_pos rfl,Z6 hk];rcases K5 hk hx with⟨h1,h2⟩|⟨h1,h2⟩|⟨h1,h2⟩
  ·have g1:x≠p:=λz=>no j (by rw[<-z];exact aa3 h2)
   rw[if_neg g1];by_cases g:m+1=k
   ·subst g
    rw[if_pos (show pv (ql Q j) (m+1)=some x from h2),if_neg (by omega),if_pos rfl]
   have g2:pv (ql Q j) k≠some x:=λz=>by
    rcases k with _|k
    ·omega
    have:=iP (O.nd j) z h2;omega
   rw[if_neg g2,if_pos (by omega),O.m2 h2]
  ·rw[if_pos h2,if_neg (by omega),if_neg (by omega),show m+1-1=k by omega]
  have g1:x≠p:=λz=>no j (by rw[<-z];exact aa3 h2);have g2:pv (ql Q j) k≠some x:=λz=>by
    rcases k with _|k
    ·cases z
    have:=iP (O.nd j) z h2;omega
  rw[if_neg g1,if_neg g2,if_neg (by omega),if_neg (by omega),O.m2 h2,show m-1+1=m+1-1 by omega]
 next e=>
 rw[if_neg e];have hj:=aa3 hx;have g1:x≠p:=λz=>no j (by rw[<-z];exact hj);have g2:pv (ql Q i) k≠some x:=λz=>e (O.one hj (qI z));rw[if_neg g1,if_neg g2,O.m2 hx]
def dm (C:Cs)(A B:By)(S:Nat->Nat->Prop):Prop:=∀i,B i≠A i->∃q o,At C q/\o<C.sz (C.cl q)/\S q o/\i=q+o
theorem dm.refl (C:Cs)(A:By)(S:Nat->Nat->Prop):dm C A A S:=λ_ h=>absurd rfl h
theorem dm.trans{C:Cs}{A B D:By}{S:Nat->Nat->Prop}(h:dm C A B S)(g:dm C B D S):dm C A D S:=λi e=>by
 by_cases hb:B i=A i
 ·exact g i (by rw[hb];exact e)
 exact h i hb
theorem dm.mono{C:Cs}{A B:By}{S R:Nat->Nat->Prop}(h:dm C A B S)(s:∀q o,S q o->R q o):dm C A B R:=λi e=>by
 obtain⟨q,o,h1,h2,h3,h4⟩:=h i e;exact⟨q,o,h1,h2,s q o h3,h4⟩
theorem dm.wA{C:Cs}{A B D:By}{S:Nat->Nat->Prop}(h:dm (C.wA D) A B S):dm C A B S:=λi e=>by
 obtain⟨q,o,h1,h2,h3,h4⟩:=h i e;exact⟨q,o,⟨h1.i,h1.own,h1.al,h1.k⟩,h2,h3,h4⟩
theorem xR{C:Cs}(A:By){S:Nat->Nat->Prop}{q a n v:Nat}(M:At C q)(ha:a+n<=C.sz (C.cl q))(h:∀j,a<=j->j<a+n->S q j):dm C A (wr A (q+a) n v) S:=λi e=>by
 have hr:q+a<=i/\i<q+a+n:=by
  refine aba λg=>e ?_;unfold wr;exact gO _ _ _ _ (by rw[ng];omega)
 exact⟨q,i-q,M,by omega,h _ (by omega) (by omega),by omega⟩
theorem wB{C:Cs}{A B:By}{S:F8}{a n:Nat}(d:sf A B S a n)(hS:∀q∈S,At C q)(ha:∀q∈S,a+n<=C.sz (C.cl q)):dm C A B (λq o=>q∈S/\a<=o/\o<a+n):=λi e=>by
 obtain⟨q,q1,q2,q3⟩:=d i e;have:=ha q q1;exact⟨q,i-q,hS q q1,by omega,⟨q1,by omega,by omega⟩,by omega⟩
theorem wE{C:Cs}(K:Ok C){A B:By}{S:Nat->Nat->Prop}(d:dm C A B S){p o w:Nat}(L:At C p)(ho:o+w<=C.sz (C.cl p))(h:∀j,o<=j->j<o+w->¬S p j):jZ B (p+o) w=jZ A (p+o) w:=
 vL λi h1 h2=>by
  refine aba λe=> ?_;obtain⟨q,j,q1,q2,q3,q4⟩:=d i e;by_cases e2:p=q
  ·subst e2
   exact h j (by omega) (by omega) q3
  ·rcases apart K L q1 e2 with g|g<;>omega
theorem lJ{C:Cs}(K:Ok C){A B:By}{S:Nat->Nat->Prop}(d:dm C A B S){p o w:Nat}(L:At C p)(ho:o+w<=C.sz (C.cl p))(h:∀j,o<=j->j<o+w->¬S p j):rd B (p+o) w=rd A (p+o) w:=by
 unfold rd;rw[wE K d L ho h]
def mL (o:Nat):Prop:=o<16\/32<=o/\o<44\/o=45\/o=46
theorem tg{C:Cs}(K:Ok C){B:By}{S:Nat->Nat->Prop}(d:dm C C.A B S){p:Nat}(L:At C p)(I:gU C p)(h:∀j,S p j->mL j):Kept C B p:=by
 have n1:=(L.br K).2.1;have hf:=I.fits;have r:=λ(o w:Nat) (h2:o+w<=C.sz (C.cl p)) (h3:∀j,o<=j->j<o+w->¬mL j)=>lJ K d L h2 (λj g1 g2 s=>h3 j g1 g2 (h j s));have e1:kl B p=kl C.A p:=r 44 1 (by omega) (λj g1 g2=>by unfold mL;omega);have e2:vl B p=vl C.A p:=r 48 4 (by omega) (λj g1 g2=>by unfold mL;omega);refine⟨e1,e2, ?_,λJ=>⟨?_, ?_, ?_, ?_⟩⟩
 ·unfold aO
  rw[e1];exact wE K d L (by omega) (λj g1 g2 s=>by have:=h j s;unfold mL at this;omega)
 ·rw[cT,e1];exact J.k0
 ·rw[cT,e1,e2];exact J.fits
 ·rw[cT,r 16 8 (by omega) (λj g1 g2=>by unfold mL;omega)];exact J.exp
 rw[cT,r 24 8 (by omega) (λj g1 g2=>by unfold mL;omega)];exact J.tch
theorem abO{C:Cs}(K:Ok C){B:By}{S:Nat->Nat->Prop}(d:dm C C.A B S):∀{l:F8},(∀p∈l,At C p/\∀j,j<4->¬S p j)->GW C.A l->GW B l
 | [],_,_=>trivial
 |p::l,h,g=>by
  obtain⟨L,hp⟩:=h p aa5;refine⟨?_,abO K d (λq hq=>h q (aa6 _ hq)) g.2⟩;have:=lJ K d L (o:=0) (w:=4) (by have:=(L.br K).2.1;omega) (λj _ g2=>hp j (by omega));rw[<-g.1];exact this
theorem GZ{C:Cs}(K:Ok C){W:Tb}(O:dC C W){B:By}{S:Nat->Nat->Prop}(d:dm C C.A B S)(h:∀p∈W.all,∀j,S p j->mL j/\4<=j):dC (C.wA B) W:=by
 have kp:=λp (hp:p∈W.all)=>tg K d (O.lv p hp).toAt (O.it p hp) (λj s=>(h p hp j s).1);refine⟨O.pw,O.po,O.st,O.mp,O.sz,O.Qc,O.sm,O.mv,O.n,O.nd,λx=> ?_,λp hp=>(O.lv p hp).wA B,λp hp=>(kp p hp).it (O.it p hp),λx p hp=> ?_,λp hp q hq e=> ?_⟩
 ·refine abO K d (λp hp=> ?_) (O.li x)
  have dL:=Tb.hU hp;exact⟨(O.lv p dL).toAt,λj hj s=>by have:=(h p dL j s).2;omega⟩
 ·show W.bk (cD (aO B p))=x
  rw[(kp p (Tb.hU hp)).key];exact O.bu x p hp
 change aO B p=aO B q at e;rw[(kp p hp).key,(kp q hq).key]at e;exact O.kd p hp q hq e
theorem L7{C:Cs}(K:Ok C){Q:Dy}(O:jd C Q){B:By}{S:Nat->Nat->Prop}(d:dm C C.A B S)(h:∀i,∀p∈ql Q i,∀j,S p j->mL j/\(j<4\/12<=j)/\j≠45):jd (C.wA B) Q:=by
 have kp:=λi p (hp:p∈ql Q i)=>tg K d (O.lv i p hp).toAt (O.it i p hp) (λj s=>(h i p hp j s).1);have n1:=λi p (hp:p∈ql Q i)=>((O.lv i p hp).toAt.br K).2.1;refine⟨O.len,λi p hp=>(O.lv i p hp).wA B,λi p hp=>(kp i p hp).it (O.it i p hp),λi p hp=> ?_,O.nd,λi k hk=> ?_,λi k hk=> ?_⟩
 ·have:=n1 i p hp
  have e:gP B p=gP C.A p:=lJ K d (O.lv i p hp).toAt (by omega) (λj g1 g2 s=>(h i p hp j s).2.2 (by omega));show 1<=gP B p/\_;rw[cT,e];exact O.st i p hp
 ·have hp:=abe hk
  have:=n1 i _ hp;rw[cT,lJ K d (O.lv i _ hp).toAt (by omega) (λj g1 g2 s=>by have:=(h i _ hp j s).2.1;omega)];exact O.l1 i k hk
 have hp:=abe hk;have:=n1 i _ hp;rw[cT,lJ K d (O.lv i _ hp).toAt (by omega) (λj g1 g2 s=>by have:=(h i _ hp j s).2.1;omega)];exact O.l2 i k hk
def SQ (p:Nat)(_q o:Nat):Prop:=4<=o/\o<12\/o=45/\_q=p
theorem Ye{C:Cs}(K:Ok C)(A:By){S:Nat->Nat->Prop}(hS:∀q o,4<=o->o<12->S q o){o1 o2:FW}(L1:dw C o1)(L2:dw C o2):dm C A (Av A o1 o2) S:=by
 have w:=λ(A:By) (q:Nat) (M:Live C q) (j v:Nat) (hj:1<=j/\j<=2)=>xR (S:=S) A (a:=4*j) (n:=4) (v:=v) M.toAt (by have:=(M.toAt.br K).2.1;omega) (λi g1 g2=>hS q i (by omega) (by omega));rcases o1 with _|a<;>rcases o2 with _|e
 ·exact dm.refl _ _ _
 ·exact w A e (L2 e rfl) 1 _ (by omega)
 ·exact w A a (L1 a rfl) 2 _ (by omega)
 exact(w A a (L1 a rfl) 2 _ (by omega)).trans (w _ e (L2 e rfl) 1 _ (by omega))
theorem abQ{C:Cs}(K:Ok C){p s:Nat}(L:Live C p){o1 o2:FW}(L1:dw C o1)(L2:dw C o2):dm C C.A (lB C.A p s o1 o2) (SQ p):=by
 have n1:=(L.toAt.br K).2.1;have w:=λ(A:By) (j v:Nat) (hj:1<=j/\j<=2)=>xR (S:=SQ p) A (a:=4*j) (n:=4) (v:=v) L.toAt (by omega) (λi g1 g2=> .inl ⟨by omega,by omega⟩);have w2:=λ(A:By) (v:Nat)=>xR (S:=SQ p) A (a:=45) (n:=1) (v:=v) L.toAt (by omega) (λi g1 g2=> .inr ⟨by omega,rfl⟩);have hp:dw C (some p):=λq h=>by cases h;exact L
 have hS:∀q o,4<=o->o<12->SQ p q o:=λq o h1 h2=> .inl ⟨h1,h2⟩;have d1:dm C C.A (l7 C.A p s o1 o2) (SQ p):=((w C.A 1 (nO o1) (by omega)).trans (w _ 2 (nO o2) (by omega))).trans (w2 _ s);exact(d1.trans (Ye K _ hS L1 hp)).trans (Ye K _ hS hp L2)
theorem oU (C:Cs)(cs:FV)(i:Nat)(o1 o2:FW):(sG C cs i o1 o2).length=cs.length:=by
 rcases o1 with _|a<;>rcases o2 with _|e<;>simp[sG]
theorem Em (C:Cs)(cs:FV)(i:Nat)(o1 o2:FW):(sG C cs i o1 o2)[i*3+2]?=cs[i*3+2]?:=by
 rcases o1 with _|a<;>rcases o2 with _|e<;>simp[sG,List.getElem?_set]
theorem xS{C:Cs}(K:Ok C){Q:Dy}(O:jd C Q)(i:Nat):(ql Q i).length<=1073741824:=
 nT _ _ (O.nd i) λp hp=>by
  have h:=(O.lv i p hp).toAt.br K;have:=gg K.toFix;omega
theorem Hw (C:Cs)(Q:Dy):(Q.flatMap (di C)).length=Q.length*3:=by
 rw[Ek];induction Q with
 |nil=>rfl
 |cons a l ih=>rw[List.map_cons,List.flatMap_cons,List.length_append,ih,ym,abu];omega
structure adK (C:Cs)(p:Nat)(A:By)(Q:Dy):Prop where
 o:jd (C.wA A) Q
 d:dm C C.A A (SQ p)
theorem EZ (q b qb:Nat)(C:Cs)(K:Ok C)(Q:Dy)(O:jd C Q)(p s:Nat)(hs:1<=s/\s<=3)(P:gI C (some p))(hn:¬(1<=gP C.A p/\gP C.A p<=3)):
  aK aaY 252 [DC q,DE DB (C.hd p),DE DD s] (λ_=>True) (Cl b C::rL q b qb C Q)
   (λv H=>v=DE DD 0/\∃A,H=Cl b (C.wA A)::rL q b qb (C.wA A) (Q.set (qi (C.cl p) s) (p::ql Q (qi (C.cl p) s)))/\adK C p A (Q.set (qi (C.cl p) s) (p::ql Q (qi (C.cl p) s)))):=by
 have L:=(P p rfl).1;have k0:=P.kl p rfl;have hc:=(L.toAt.br K).1;have hi:=nC O hc hs;generalize hii:qi (C.cl p) s=i at*;have I2:gI C (ql Q i)[0]?:=O.GJ λx hx=>aa3 hx;have I1:gI C none:=λx hx=>by cases hx
 have ok:=R5 K O hii.symm hi hs (k:=0) (by omega) P hn;have ce:=Bm C Q i 0 p hi (by omega);have hlen:=Hw C Q;have k0c:=oO (C:=C) (Q:=Q) (j:=0) hi rfl;have k2c:=oO (C:=C) (Q:=Q) (j:=2) hi rfl;have d:=abQ K (p:=p) (s:=s) L I1.lv I2.lv;have lay:=Ki q b qb C.ae.length (ql Q i).length C K (Q.flatMap (di C)) i (by omega) p s hs none (ql Q i)[0]? P I1 I2 (by rw[Em,Em];exact k2c) (by rw[oU,oU]) (oU _ _ _ _ _) (xS K O i);have e0:(ql Q i).head?=(ql Q i)[0]?:=aih ..;rw[e0]at k0c;change jd (C.wA (lB C.A p s none (ql Q i)[0]?)) _ at ok;rw[ait]at ok ce;change((sG C (sG C (Q.flatMap (di C)) i none (some p)) i (some p) (ql Q i)[0]?).set (i*3+2) _)=_ at ce;rw[ce]at lay;unfold rL;generalize ig:Q.flatMap (di C)=cs at*;unfold iF at*;refine af func252 rfl ntmps252 rfl ?_;intro F _;refine bL ?_;refine zl Aq (E1 q b qb C K p s hs L k0 hn) .nil (λ_ le au=>⟨au.1,au.2.1⟩) ?_;rw[hii];refine cC ?_;refine aw ?_;refine zl Aq (lay) (.cons .here (.cons .here (.cons .here .nil))) DA ?_;refine bA ?_;refine Rt [Cl b (C.wA (lB C.A p s none (ql Q i)[0]?)),ag q 182 [DC b, .slice (some ⟨qb,0,none⟩) C.ae.length C.ae.length],ag qb 333 ((Q.set i (p::ql Q i)).flatMap (di C))] results252 ?_;exact⟨rfl,lB C.A p s none (ql Q i)[0]?,rfl,ok,d⟩
theorem nE{C:Cs}(K:Ok C){B:By}{S:Nat->Nat->Prop}(d:dm C C.A B S){o:FW}(P:gI C o)(h:∀x,o=some x->∀j,S x j->mL j):gI (C.wA B) o:=λx hx=>
 ⟨(P x hx).1.wA B,(tg K d (P x hx).1.toAt (P x hx).2 (h x hx)).it (P x hx).2⟩
theorem SQ.oG{p q o:Nat}(h:SQ p q o):mL o:=by
 unfold SQ at h;unfold mL;omega
def qK (A:By)(p:Nat):By:=wr (wr (wr A (p+4*1) 4 (nO none)) (p+4*2) 4 (nO none)) (p+45) 1 4
theorem Jg (C:Cs)(Q:Dy)(i k:Nat)(hi:i<Q.length)(h:k<(ql Q i).length):
  (sG C (Q.flatMap (di C)) i (pv (ql Q i) k) (ql Q i)[k+1]?).set (i*3+2) (DE DD (((ql Q i).length:Int)-1))=(Q.set i ((ql Q i).eraseIdx k)).flatMap (di C):=by
 have hq:(Q.map (LK C))[i]?=some (LK C (ql Q i)):=by
  unfold ql;rw[abf,aaZ,aa0 hi];rfl
 have xh:i<(Q.map (LK C)).length:=by simpa using hi
 have s2:∀(S:List T3) (y:T3) (v:Value),S[i]?=some y->(S.flatMap t3).set (i*3+2) v=(S.set i {y with c:=v}).flatMap t3:=λS y v hs=>cb ym hs rfl (by decide);generalize hl:ql Q i=l at*;have e:{jnT C (LK C l) (pv l k) l[k+1]? with c:=DE DD ((l.length:Int)-1)}=LK C (l.eraseIdx k):=by
  have hlen:=aic h;have h1:(l.eraseIdx k).head?=if k=0 then l[k+1]? else l.head?:=by
   rw[aih,aih];split
   ·next e=>subst e;rw[acP (by omega)]
   next e=>rw[acV (by omega)]
  have h2:(l.eraseIdx k).getLast?=if k+1=l.length then pv l k else l.getLast?:=by
   rw[ahA,ahA,hlen];split
   ·next e=>
    rcases k with _|k
    ·rw[abb (by omega)];rfl
    rw[acV (by omega),show l.length-1-1=k by omega];rfl
   next e=>rw[acP (by omega),show l.length-1-1+1=l.length-1 by omega]
  unfold LK;rw[h1,h2,hlen,show(((l.length-1:Nat)):Int)=(l.length:Int)-1 by omega];rcases k with _|k
  ·by_cases e:0+1<l.length
   ·rw[aa0 e,if_pos rfl,if_neg (by omega)];rfl
   rw[abb (by omega),if_pos rfl,if_pos (by omega)];rfl
  have e1:pv l (k+1)=some l[k]:=aa0 (by omega);by_cases e:k+1+1<l.length
  ·rw[e1,aa0 e,if_neg (by omega),if_neg (by omega)];rfl
  rw[e1,abb (by omega),if_neg (by omega),if_pos (by omega)];rfl
 rw[Ek,Ek,Q1 C _ i _ hq,s2 _ _ _ (aa4 xh),ade,e,adf]
def nc (A:By)(p:Nat)(o1 o2:FW):By:=qK (Av A o1 o2) p
theorem aaE{C:Cs}(K:Ok C){x p:Nat}{o1 o2:FW}(X:Live C x)(P:Live C p)(L1:dw C o1)(L2:dw C o2):
  rd (nc C.A p o1 o2) (x+4*1) 4=if x=p then 0 else if o2=some x then nO o1 else rd C.A (x+4*1) 4:=by
 have b1:=pK K L1;have b2:=pK K L2;have l:=λ(q:Nat) (M:Live C q) (A:By) (j v:Nat) (hj:j<=2) (hv:v<4294967296)=>xr K X.toAt M.toAt A (i:=1) (j:=j) (v:=v) (by omega) hj hv;have z:=λ(A:By)=>ux K X.toAt P.toAt A (i:=1) (v:=4) (by omega);have n0:nO none<4294967296:=by decide
 unfold nc qK;rw[z,l p P _ 2 _ (by omega) n0,l p P _ 1 _ (by omega) n0];by_cases h:x=p
 ·simp[h,nO]
 rw[if_neg (by simp[h]),if_neg (by simp[h]),if_neg h];rcases o1 with _|a<;>rcases o2 with _|e<;>dsimp only[Av]
 ·simp
 ·rw[l e (L2 e rfl) _ 1 _ (by omega) b1]
  by_cases g:x=e
  ·subst g;simp
  have g2:¬e=x:=λu=>g u.symm;simp[g,g2]
 ·rw[l a (L1 a rfl) _ 2 _ (by omega) b2]
  simp
 rw[l e (L2 e rfl) _ 1 _ (by omega) b1,l a (L1 a rfl) _ 2 _ (by omega) b2];by_cases g:x=e
 ·subst g;simp
 have g2:¬e=x:=λu=>g u.symm;simp[g,g2]
theorem aaD{C:Cs}(K:Ok C){x p:Nat}{o1 o2:FW}(X:Live C x)(P:Live C p)(L1:dw C o1)(L2:dw C o2):
  rd (nc C.A p o1 o2) (x+4*2) 4=if x=p then 0 else if o1=some x then nO o2 else rd C.A (x+4*2) 4:=by
 have b1:=pK K L1;have b2:=pK K L2;have l:=λ(q:Nat) (M:Live C q) (A:By) (j v:Nat) (hj:j<=2) (hv:v<4294967296)=>xr K X.toAt M.toAt A (i:=2) (j:=j) (v:=v) (by omega) hj hv;have z:=λ(A:By)=>ux K X.toAt P.toAt A (i:=2) (v:=4) (by omega);have n0:nO none<4294967296:=by decide
 unfold nc qK;rw[z,l p P _ 2 _ (by omega) n0,l p P _ 1 _ (by omega) n0];by_cases h:x=p
 ·simp[h,nO]
 rw[if_neg (by simp[h]),if_neg (by simp[h]),if_neg h];rcases o1 with _|a<;>rcases o2 with _|e<;>dsimp only[Av]
 ·simp
 ·rw[l e (L2 e rfl) _ 1 _ (by omega) b1]
  simp
 ·rw[l a (L1 a rfl) _ 2 _ (by omega) b2]
  by_cases g:x=a
  ·subst g;simp
  have g2:¬a=x:=λu=>g u.symm;simp[g,g2]
 rw[l e (L2 e rfl) _ 1 _ (by omega) b1,l a (L1 a rfl) _ 2 _ (by omega) b2];by_cases g:x=a
 ·subst g;simp
 have g2:¬a=x:=λu=>g u.symm;simp[g,g2]
theorem Lb{C:Cs}(K:Ok C){x p:Nat}{o1 o2:FW}(X:Live C x)(P:Live C p)(L1:dw C o1)(L2:dw C o2):
  gP (nc C.A p o1 o2) x=if x=p then 4 else gP C.A x:=by
 have l:=λ(q:Nat) (M:Live C q) (A:By) (j v:Nat) (hj:j<=2)=>J5 K X.toAt M.toAt A (j:=j) (v:=v) hj;have z:=λ(A:By)=>abC K X.toAt P.toAt A (v:=4) (by omega);unfold nc qK;rw[z,l p P _ 2 _ (by omega),l p P _ 1 _ (by omega)];rcases o1 with _|a<;>rcases o2 with _|e<;>dsimp only[Av]
 ·rw[l e (L2 e rfl) _ 1 _ (by omega)]
 ·rw[l a (L1 a rfl) _ 2 _ (by omega)]
 rw[l e (L2 e rfl) _ 1 _ (by omega),l a (L1 a rfl) _ 2 _ (by omega)]
theorem To{C:Cs}(K:Ok C){p:Nat}(L:Live C p){o1 o2:FW}(L1:dw C o1)(L2:dw C o2):dm C C.A (nc C.A p o1 o2) (SQ p):=by
 have n1:=(L.toAt.br K).2.1;have w:=λ(A:By) (j v:Nat) (hj:1<=j/\j<=2)=>xR (S:=SQ p) A (a:=4*j) (n:=4) (v:=v) L.toAt (by omega) (λi g1 g2=> .inl ⟨by omega,by omega⟩);have w2:=λ(A:By) (v:Nat)=>xR (S:=SQ p) A (a:=45) (n:=1) (v:=v) L.toAt (by omega) (λi g1 g2=> .inr ⟨by omega,rfl⟩);have hS:∀q o,4<=o->o<12->SQ p q o:=λq o h1 h2=> .inl ⟨h1,h2⟩;exact(((Ye K _ hS L1 L2).trans (w _ 1 (nO none) (by omega))).trans (w _ 2 (nO none) (by omega))).trans (w2 _ 4)
theorem get_erase{l:F8}{k m x:Nat}(h:(l.eraseIdx k)[m]?=some x):m<k/\l[m]?=some x\/k<=m/\l[m+1]?=some x:=by
 by_cases h1:m<k
 ·rw[acV h1]at h;exact .inl ⟨h1,h⟩
 rw[acP (by omega)]at h;exact .inr ⟨by omega,h⟩
theorem aaB{C:Cs}(K:Ok C){Q:Dy}(O:jd C Q){p k i:Nat}(hi:i<Q.length)(hk:(ql Q i)[k]?=some p):
  jd (C.wA (nc C.A p (pv (ql Q i) k) (ql Q i)[k+1]?)) (Q.set i ((ql Q i).eraseIdx k)):=by
 have ct:=(aa1.1 hk).1;have hpl:=aa3 hk;have LP:=O.lv i p hpl;have I1:gI C (pv (ql Q i) k):=O.GJ λx hx=>qI hx;have I2:gI C (ql Q i)[k+1]?:=O.GJ λx hx=>aa3 hx;have d:=To K LP I1.lv I2.lv;have hm:∀j x,x∈ql (Q.set i ((ql Q i).eraseIdx k)) j->x≠p/\x∈ql Q j:=λj x hx=>by
  rw[fS hi]at hx;split at hx
  ·next e=>
   subst e;refine⟨λz=> ?_,List.mem_of_mem_eraseIdx hx⟩;subst z;obtain⟨m,hm,em⟩:=List.getElem_of_mem hx;have:=aa1.2 ⟨hm,em⟩;rcases get_erase this with⟨h1,h2⟩|⟨h1,h2⟩
   ·have:=iP (O.nd j) hk h2;omega
   have:=iP (O.nd j) hk h2;omega
  next e=>exact⟨λz=>e (O.one hx (by rw[z];exact hpl)),hx⟩
 have XN:∀j x,x∈ql (Q.set i ((ql Q i).eraseIdx k)) j->gI C (some x):=λj x hx y hy=>by
  cases hy;exact⟨O.lv j _ (hm j _ hx).2,O.it j _ (hm j _ hx).2⟩
 have kp:=λj x hx=>nE K d (XN j x hx) (λy _ j s=>s.oG);refine⟨?_,λj x hx=>(kp j x hx x rfl).1,λj x hx=>(kp j x hx x rfl).2,λj x hx=> ?_,λj=> ?_,λj m h=> ?_,λj m h=> ?_⟩
 ·rw[aa8];exact O.len
 ·show 1<=gP (nc _ _ _ _) x/\_/\j=qi (C.cl x) _
  rw[cT,Lb K (XN j x hx x rfl).1 LP I1.lv I2.lv,if_neg (hm j x hx).1];exact O.st j x (hm j x hx).2
 ·rw[fS hi]
  split
  ·exact(O.nd i).sublist (List.eraseIdx_sublist _ _)
  exact O.nd j
 ·have hx:(ql (Q.set i ((ql Q i).eraseIdx k)) j)[m]?=some (ql (Q.set i ((ql Q i).eraseIdx k)) j)[m]:=aa0 h
  generalize (ql (Q.set i ((ql Q i).eraseIdx k)) j)[m]=x at hx⊢;have GP:=aa3 hx;have r:=aaE K (XN j x GP x rfl).1 LP I1.lv I2.lv;rw[if_neg (hm j x GP).1]at r;rw[cT];refine r.trans ?_;rw[fS hi]at hx⊢;split at hx
  ·next e=>
   subst e;rw[if_pos rfl];rcases get_erase hx with⟨h1,h2⟩|⟨h1,h2⟩
   ·have g2:(ql Q j)[k+1]?≠some x:=λz=>by have:=iP (O.nd j) z h2;omega
    rw[if_neg g2,O.m1 h2];rcases m with _|m
    ·rfl
    show _=nO ((ql Q j).eraseIdx k)[m]?;rw[acV (by omega)];rfl
   by_cases g:m=k
   ·subst g
    rw[if_pos h2];rcases m with _|m
    ·rfl
    show _=nO ((ql Q j).eraseIdx (m+1))[m]?;rw[acV (by omega)];rfl
   have g2:(ql Q j)[k+1]?≠some x:=λz=>by have:=iP (O.nd j) z h2;omega
   rw[if_neg g2,O.m1 h2];obtain⟨u,rfl⟩:∃u,m=u+1:=⟨m-1,by omega⟩;show _=nO ((ql Q j).eraseIdx k)[u]?;rw[acP (by omega)];rfl
  next e=>
  rw[if_neg e];have hj:=aa3 hx;have g2:(ql Q i)[k+1]?≠some x:=λz=>e (O.one hj (aa3 z));rw[if_neg g2,O.m1 hx]
 have hx:(ql (Q.set i ((ql Q i).eraseIdx k)) j)[m]?=some (ql (Q.set i ((ql Q i).eraseIdx k)) j)[m]:=aa0 h;generalize (ql (Q.set i ((ql Q i).eraseIdx k)) j)[m]=x at hx⊢;have GP:=aa3 hx;have r:=aaD K (XN j x GP x rfl).1 LP I1.lv I2.lv;rw[if_neg (hm j x GP).1]at r;rw[cT];refine r.trans ?_;rw[fS hi]at hx⊢;split at hx
 ·next e=>
  subst e;rw[if_pos rfl];rcases get_erase hx with⟨h1,h2⟩|⟨h1,h2⟩
  ·by_cases g:m+1=k
   ·subst g
    rw[if_pos (show pv (ql Q j) (m+1)=some x from h2),acP (by omega)]
   have g2:pv (ql Q j) k≠some x:=λz=>by
    rcases k with _|k
    ·cases z
    have:=iP (O.nd j) z h2;omega
   rw[if_neg g2,O.m2 h2,acV (by omega)]
  have g2:pv (ql Q j) k≠some x:=λz=>by
    rcases k with _|k
    ·cases z
    have:=iP (O.nd j) z h2;omega
  rw[if_neg g2,O.m2 h2,acP (by omega)]
 next e=>
 rw[if_neg e];have hj:=aa3 hx;have g2:pv (ql Q i) k≠some x:=λz=>e (O.one hj (qI z));rw[if_neg g2,O.m2 hx]
structure TN (C:Cs)(p:Nat)(A:By)(Q:Dy):Prop extends adK C p A Q where
 st:gP A p=4
 no:∀i,p∉ql Q i
theorem yM (q b qb:Nat)(C:Cs)(K:Ok C)(Q:Dy)(O:jd C Q)(i k p:Nat)(hk:(ql Q i)[k]?=some p):
  aK aaY 225 [DC q,DE DB (C.hd p)] (λ_=>True) (Cl b C::rL q b qb C Q)
   (λv H=>v=DE DD 0/\∃A,H=Cl b (C.wA A)::rL q b qb (C.wA A) (Q.set i ((ql Q i).eraseIdx k))/\TN C p A (Q.set i ((ql Q i).eraseIdx k))):=by
 have hpl:=aa3 hk;have P:gI C (some p):=O.GJ (i:=i) λx hx=>by cases hx;exact hpl
 have L:=(P p rfl).1;have k0:=P.kl p rfl;have hc:=(L.toAt.br K).1;obtain⟨s1,s2,s3⟩:=O.st i p hpl;have hi:=nC O hc ⟨s1,s2⟩;rw[<-s3]at hi;have I1:gI C (pv (ql Q i) k):=O.GJ λx hx=>qI hx;have I2:gI C (ql Q i)[k+1]?:=O.GJ λx hx=>aa3 hx;have ok:=aaB K O hi hk;have d:=To K L I1.lv I2.lv;have dst:=Lb K L L I1.lv I2.lv;rw[if_pos rfl]at dst;have ce:=Jg C Q i k hi (aa1.1 hk).1;have hlen:=Hw C Q;have lP:∀j,p∉ql (Q.set i ((ql Q i).eraseIdx k)) j:=λj h=>by
  have:=(ok.st j p h).2.1;rw[cT,dst]at this;omega
 have XK:(sG C (Q.flatMap (di C)) i (pv (ql Q i) k) (ql Q i)[k+1]?)[i*3+2]?=some (DE DD ((ql Q i).length)):=by rw[Em];exact oO (j:=2) hi rfl
 have DJ:=oU C (Q.flatMap (di C)) i (pv (ql Q i) k) (ql Q i)[k+1]?;have jn:=yL q b qb C.ae.length C K (Q.flatMap (di C)) i (by omega) (pv (ql Q i) k) (ql Q i)[k+1]? I1.lv I2.lv I1.kl I2.kl (λx hx=>(I2 x hx).2);have lk1:=nM b C K p 1 (pv (ql Q i) k) L k0 (by omega) I1.lv (O.m1 hk);have lk2:=nM b C K p 2 (ql Q i)[k+1]? L k0 (by omega) I2.lv (O.m2 hk);have K1:=K.wA (Av C.A (pv (ql Q i) k) (ql Q i)[k+1]?);have hS:∀q o,4<=o->o<12->SQ p q o:=λq o h1 h2=> .inl ⟨h1,h2⟩;have P1:gI (C.wA (Av C.A (pv (ql Q i) k) (ql Q i)[k+1]?)) (some p):=nE K (Ye K C.A hS I1.lv I2.lv) P (λ_ _ j s=>s.oG);have hA:nc C.A p (pv (ql Q i) k) (ql Q i)[k+1]?=qK (Av C.A (pv (ql Q i) k) (ql Q i)[k+1]?) p:=rfl;rw[hA]at ok d dst;have hql:=xS K O i;generalize pv (ql Q i) k=o1 at*;generalize (ql Q i)[k+1]?=o2 at*;generalize Av C.A o1 o2=A1 at*;have ct:=(aa1.1 hk).1;unfold rL;generalize ig:Q.flatMap (di C)=cs at*;generalize sG C cs i o1 o2=ds at*;have BM:i*3+2<ds.length:=by omega
 have k1p:gI (C.wA (wr A1 (p+4*1) 4 (nO none))) (some p):=P1.link K1 (P1 p rfl).1 (by omega);have k2p:gI (C.wA (wr (wr A1 (p+4*1) 4 (nO none)) (p+4*2) 4 (nO none))) (some p):=k1p.link (K.wA _) (k1p p rfl).1 (by omega);refine af func225 rfl ntmps225 rfl ?_;intro F _;refine bA ?_;refine zl Aq (tx q b qb C K p L k0 ⟨s1,s2⟩) .nil (λ_ le au=>⟨au.1,au.2.1⟩) ?_;rw[<-s3];unfold iF at*;refine pX ?_;refine zl Aq (lk1) .nil (λ_ le au=>au.1) ?_;refine cL ?_;refine zl Aq (lk2) .nil (λ_ le au=>au.1) ?_;refine bO ?_;refine zl Aq (jn) (.cons .here (.cons .here (.cons .here .nil))) DA ?_;refine bL ?_;refine zl Aq (eF b (C.wA A1) K1 p 1 none (P1 p rfl).1 (P1.kl p rfl) (by omega) (λq h=>by cases h)) (.cons .here .nil) DA ?_;refine bL ?_;refine zl Aq (eF b (C.wA (wr A1 (p+4*1) 4 (nO none))) (K.wA _) p 2 none (k1p p rfl).1 (k1p.kl p rfl) (by omega) (λq h=>by cases h)) (.cons .here .nil) DA ?_;refine bL ?_;refine zl Aq (uQ b (C.wA (wr (wr A1 (p+4*1) 4 (nO none)) (p+4*2) 4 (nO none))) (K.wA _) p 4 (by omega) (k2p p rfl).1 (k2p.kl p rfl)) (.cons .here .nil) DA ?_;refine kT ?_;refine Hh (H':= [Cl b (C.wA (qK A1 p)),ag q 182 [DC b, .slice (some ⟨qb,0,none⟩) C.ae.length C.ae.length],ag qb 333 (ds.set (i*3+2) (DE DD (((ql Q i).length:Int)-1)))]) ?_;rw[ce];refine Rt [Cl b (C.wA (qK A1 p)),ag q 182 [DC b, .slice (some ⟨qb,0,none⟩) C.ae.length C.ae.length],ag qb 333 ((Q.set i ((ql Q i).eraseIdx k)).flatMap (di C))] results225 ?_;exact⟨rfl,qK A1 p,rfl,⟨ok,d⟩,dst,lP⟩
theorem Zj:(aaY.info? 312).isSome=true:=by kernel_rfl
theorem Ps{n:Nat}{ds:Dx}{F:dM}{σ:aT}{o:Oper}{t yt e:TypeId}{x y:Operand}{a:Addr}(ht:aaY.underlying t=some (.pointer e))(hi:(aaY.info? e).isSome=true)
  (ho:o.op= .binOp .neq t x y yt:=by exact rfl) (hx:bC σ x=some (.pointer (some a)):=by exact rfl) (hy:bC σ y=some (.pointer (some a)):=by exact rfl):Yv aaY n ds F σ o (.bool false):=by
 intro w0 w en _;obtain⟨j,hj⟩:=Option.isSome_iff_exists.1 hi;have h:∀d:Nat,(Op.equalIn (d+1) t (.pointer (some a)) (.pointer (some a))).run aaY w= .ok true w:=λd=>by
  simp[Op.equalIn,run_underlying ht,sizeOf,typeInfo,hj,run_sameAddr_same]
 have r:(Go.binOp .neq t (.pointer (some a)) (.pointer (some a))).run aaY w= .ok (.bool false) w:=by
  simp only[Go.binOp];simp[Op.equal,Op.maxDepth,h 9999]
 simp only[execOp,ho,en.eval hx,en.eval hy,Sem.run_bind,k7,r,Result.andThen_ok,Sem.run_pure]
def xL (Q:Dy)(i k j p:Nat):Dy:=(Q.set i ((ql Q i).eraseIdx k)).set j (p::ql (Q.set i ((ql Q i).eraseIdx k)) j)
theorem MW (q b qb:Nat)(C:Cs)(K:Ok C)(Q:Dy)(O:jd C Q)(i k p s:Nat)(hs:1<=s/\s<=3)(hk:(ql Q i)[k]?=some p):
  aK aaY 208 [DC q,DE DB (C.hd p),DE DD s] (λ_=>True) (Cl b C::rL q b qb C Q)
   (λv H=>v=DE DD 0/\∃A,H=Cl b (C.wA A)::rL q b qb (C.wA A) (xL Q i k (qi (C.cl p) s) p)/\adK C p A (xL Q i k (qi (C.cl p) s) p)):=by
 have P:gI C (some p):=O.GJ (i:=i) λx hx=>by cases hx;exact aa3 hk
 unfold rL;refine af func208 rfl ntmps208 rfl ?_;intro F _;refine bA ?_;refine zl Aq (vU s hs) .nil DA ?_;refine cu ?_;refine Lp (oC Aq rfl rfl (yM q b qb C K Q O i k p hk) (.cons .here (.cons .here (.cons .here .nil))) DA ?_);rintro v H' ⟨rfl,A,rfl,D⟩;refine bS ?_;have P2:gI (C.wA A) (some p):=nE K D.d P (λ_ _ j s=>s.oG);have XK:¬(1<=gP (C.wA A).A p/\gP (C.wA A).A p<=3):=by rw[cT,D.st];omega
 refine gQ ?_;refine Lp (oC Aq rfl rfl (EZ q b qb (C.wA A) (K.wA A) (Q.set i ((ql Q i).eraseIdx k)) D.o p s hs P2 XK) (.cons .here (.cons .here (.cons .here .nil))) DA ?_);rintro v H' ⟨rfl,B,rfl,E⟩;refine bS ?_;refine bj ?_;refine Rt [Cl b (C.wA B),ag q 182 (iF b qb C.ae.length),ag qb 333 ((xL Q i k (qi (C.cl p) s) p).flatMap (di C))] results208 ?_;exact⟨rfl,B,rfl,E.o,D.d.trans E.d.wA⟩
def SQ2 (p r:Nat)(_q o:Nat):Prop:=4<=o/\o<12\/o=45/\(_q=p\/_q=r)
structure acL (C:Cs)(p r:Nat)(A:By)(Q:Dy):Prop where
 o:jd (C.wA A) Q
 d:dm C C.A A (SQ2 p r)
 st:gP A p=4
theorem La:∀(l:F8) (k r:Nat),k<l.length->(l.eraseIdx k).insertIdx k r=l.set k r
 |a::l,0,r,_=>by simp
 |a::l,k+1,r,h=>by
  rw[List.eraseIdx_cons_succ,ah7,La l k r (by simpa using h),List.set_cons_succ]
theorem aeU (l:F8)(k:Nat):pv (l.eraseIdx k) k=pv l k:=by
 rcases k with _|k
 ·rfl
 show(l.eraseIdx (k+1))[k]?=l[k]?;rw[acV (by omega)]
theorem UK (q b qb:Nat)(C:Cs)(K:Ok C)(Q:Dy)(O:jd C Q)(i k p r:Nat)(hk:(ql Q i)[k]?=some p)(R:gI C (some r))(hr:¬(1<=gP C.A r/\gP C.A r<=3))(dx:C.cl r=C.cl p):
  aK aaY 160 [DC q,DE DB (C.hd p),DE DB (C.hd r)] (λ_=>True) (Cl b C::rL q b qb C Q)
   (λv H=>v=DE DD 0/\∃A,H=Cl b (C.wA A)::rL q b qb (C.wA A) (Q.set i ((ql Q i).set k r))/\acL C p r A (Q.set i ((ql Q i).set k r))):=by
 have hpl:=aa3 hk;have ct:=(aa1.1 hk).1;have P:gI C (some p):=O.GJ (i:=i) λx hx=>by cases hx;exact hpl
 have L:=(P p rfl).1;have k0:=P.kl p rfl;have hc:=(L.toAt.br K).1;have LR:=(R r rfl).1;obtain⟨s1,s2,s3⟩:=O.st i p hpl;have hi:=nC O hc ⟨s1,s2⟩;rw[<-s3]at hi;have Jp:r≠p:=λe=>hr (by rw[e];exact⟨s1,s2⟩);have I1:gI C (pv (ql Q i) k):=O.GJ λx hx=>qI hx;have I2:gI C (ql Q i)[k+1]?:=O.GJ λx hx=>aa3 hx;have lk1:=nM b C K p 1 (pv (ql Q i) k) L k0 (by omega) I1.lv (O.m1 hk);have lk2:=nM b C K p 2 (ql Q i)[k+1]? L k0 (by omega) I2.lv (O.m2 hk);have eS:∀q o,SQ p q o->mL o:=λ_ _ s=>s.oG;unfold rL;refine af func160 rfl ntmps160 rfl ?_;intro F _;refine bA ?_;refine zl Aq (tx q b qb C K p L k0 ⟨s1,s2⟩) .nil (λ_ le au=>⟨au.1,au.2.1⟩) ?_;rw[<-s3];generalize hQ:Q.flatMap (di C)=cs;unfold iF;refine pX ?_;refine zl Aq (rE b C K p L k0) .nil (λ_ le au=>au.1) ?_;refine bD ?_;refine zl Aq (E1 q b qb C K r (gP C.A p) ⟨s1,s2⟩ LR (R.kl r rfl) hr) .nil (λ_ le au=>⟨au.1,au.2.1⟩) ?_;rw[dx,<-s3];refine sI ?_;refine Li (Ps abA Zj) ?_;refine bD ?_;refine zl Aq (lk1) .nil (λ_ le au=>au.1) ?_;refine cL ?_;refine zl Aq (lk2) .nil (λ_ le au=>au.1) ?_;refine cu ?_;rw[<-hQ];refine Lp (oC Aq rfl rfl (yM q b qb C K Q O i k p hk) (.cons .here (.cons .here (.cons .here .nil))) DA ?_);rintro v H' ⟨rfl,A,rfl,D⟩;refine bS ?_;have P2:gI (C.wA A) (some p):=nE K D.d P (λ_ _ j s=>s.oG);have R2:gI (C.wA A) (some r):=nE K D.d R (λ_ _ j s=>s.oG);have hstr:gP A r=gP C.A r:=lJ K D.d LR.toAt (by have:=(LR.toAt.br K).2.1;omega) (λj g1 g2 s=>by unfold SQ at s;omega);have XK:¬(1<=gP (C.wA A).A r/\gP (C.wA A).A r<=3):=by rw[cT,hstr];exact hr
 have xh:i<(Q.set i ((ql Q i).eraseIdx k)).length:=by rw[aa8];exact hi
 have eq2:ql (Q.set i ((ql Q i).eraseIdx k)) i=(ql Q i).eraseIdx k:=by rw[fS hi,if_pos rfl]
 have elen:=aic ct;have ok:=R5 (K.wA A) D.o (p:=r) (s:=gP C.A p) (k:=k) (i:=i) (by show i=qi (C.cl r) _;rw[dx];exact s3) xh ⟨s1,s2⟩ (by rw[eq2];omega) R2 XK;have ce:=Bm (C.wA A) (Q.set i ((ql Q i).eraseIdx k)) i k r xh (by rw[eq2];omega);have k2c:=oO (C:=C.wA A) (Q:=Q.set i ((ql Q i).eraseIdx k)) (j:=2) xh rfl;have hlen:=Hw (C.wA A) (Q.set i ((ql Q i).eraseIdx k));have I1':gI (C.wA A) (pv (ql Q i) k):=nE K D.d I1 (λ_ _ j s=>s.oG);have I2':gI (C.wA A) (ql Q i)[k+1]?:=nE K D.d I2 (λ_ _ j s=>s.oG);have hqn:=xS (K.wA A) D.o i;have d2:=abQ (K.wA A) (p:=r) (s:=gP C.A p) (R2 r rfl).1 I1'.lv I2'.lv;have dst:=R4 (K.wA A) (x:=p) (p:=r) (s:=gP C.A p) (P2 p rfl).1 (R2 r rfl).1 I1'.lv I2'.lv (by omega);rw[if_neg (Ne.symm Jp),cT,D.st]at dst;have lay:=Ki q b qb C.ae.length ((ql Q i).eraseIdx k).length (C.wA A) (K.wA A) ((Q.set i ((ql Q i).eraseIdx k)).flatMap (di (C.wA A))) i (by omega) r (gP C.A p) ⟨s1,s2⟩ (pv (ql Q i) k) (ql Q i)[k+1]? R2 I1' I2' (by rw[Em,Em];rw[eq2]at k2c;exact k2c) (by rw[oU,oU]) (oU _ _ _ _ _) (by rw[eq2]at hqn;exact hqn);rw[eq2,aeU,acP (Nat.le_refl k),ade,La _ _ _ ct]at ok ce;rw[ce]at lay;rw[cT]at ok;refine cY ?_;refine zl Aq (lay) (.cons .here (.cons .here (.cons .here .nil))) DA ?_;refine ba ?_;refine Rt [Cl b (C.wA (lB A r (gP C.A p) (pv (ql Q i) k) (ql Q i)[k+1]?)),ag q 182 (iF b qb C.ae.length),ag qb 333 ((Q.set i ((ql Q i).set k r)).flatMap (di C))] results160 ?_;exact⟨rfl,lB A r (gP C.A p) (pv (ql Q i) k) (ql Q i)[k+1]?,rfl,ok,(D.d.mono λq o s=>by unfold SQ at s;unfold SQ2;omega).trans (d2.wA.mono λq o s=>by unfold SQ at s;unfold SQ2;omega),dst⟩
end Go.Proofs.YtcbcjolpdljbiaaGreat
